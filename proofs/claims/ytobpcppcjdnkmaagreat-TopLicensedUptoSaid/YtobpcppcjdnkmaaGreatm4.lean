/- Contracts of the functions that the law reaches; part 5. -/
import Derived.RangeFuncNested
import Derived.RangeFuncBound
import Derived.Shelf.Strings.Search2
import Derived.Shelf.Strings.IndexAnyAll
import Derived.Test.YtobpcppcjdnkmaaGreatm3
set_option linter.all false
set_option maxRecDepth 10000
set_option maxHeartbeats 8000000
open ByteArray renaming empty → ye
open Go renaming World → j5, Value → j6
open Go.IntKind renaming wrap → aD
open Go.Lib renaming cell_of_heap → yB
open Go.Maps renaming has → jl
open Go.Proofs.Tryz renaming prog → pP
open List renaming range → wR
open Go.Dl.CallC renaming mk → kN, light → kO
open Go.Dl.LeL renaming of_eq → kP
namespace Go.Proofs.YtobpcppcjdnkmaaGreat
open Go.Proofs.Tryz
open Go.Dl
variable {s t:ByteArray}{x:Int}{l ts:List Tir}{r:Rf}{a f k n sz:Nat}{d:Dcm}{α σ:Type}{g:Lg}{b out w:List Int}{us:List Unt}{K:qM}{v:j6}
def B1(d:Dcm):Nat->Int->List Int
 | 0,_=>[]
 | f+1,t=>match QJ d.tiers t with
  | none=>[]
  | some x=>if x.kind=0 then d.kids 0 t else(B1 d f x.par).flatMap fun id=>d.kids id t
def Za(d:Dcm)(t:Int):List Int:=B1 d (t.toNat+1) t
section
variable {cov:List Nte->Nte->Prop} {tx:ByteArray->Prop} {d:Dcm}
def dL{id t:Int}(h:x∈d.kids id t): ∃n∈d.notes,n.id=x/\n.tier=t/\n.par=id:=by obtain⟨n,hn,rfl⟩:=wN.1 h;exact⟨n,(ZN hn).1,rfl,(ZN hn).2⟩
def un(H:NtsA cov tx d)(id t:Int):(d.kids id t).Nodup:=by
 unfold Dcm.kids;rw[jT,List.pairwise_map];have:(d.kidN id t).Nodup:=by
  rw[Zz];split
  ·exact(aL _ _).nodup_iff.2 (dE (eu H.up t id))
  ·simp
 refine List.Pairwise.imp_of_mem ?_ this;exact fun {a b} ha hb h e=>h (zL H.up (ZN ha).1 (ZN hb).1 e)
def uk{t x:Int}: ∀{f:Nat},x∈B1 d f t->∃n∈d.notes,n.id=x/\n.tier=t
 | 0,h=>by cases h
 | f+1,h=>by
  simp only[B1]at h;split at h
  ·cases h
  ·split at h
   ·obtain⟨n,h1,h2,h3,_⟩:=dL h;exact⟨n,h1,h2,h3⟩
   ·obtain⟨i,_,h⟩:=List.mem_flatMap.1 h;obtain⟨n,h1,h2,h3,_⟩:=dL h;exact⟨n,h1,h2,h3⟩
def bf(H:NtsA cov tx d): ∀(f:Nat) (t:Int),(B1 d f t).Nodup
 | 0,_=>List.nodup_nil
 | f+1,t=>by
  simp only[B1];split
  ·simp
  ·split
   ·exact un H ..
   ·rw[jT,List.pairwise_flatMap];refine⟨fun i _=>un H i t,(bf H f _).imp ?_⟩;intro a b Fe x hx y hy e;obtain⟨n,h1,h2,_,h4⟩:=dL hx;obtain⟨m,k1,k2,_,k4⟩:=dL hy;rw[zL H.up h1 k1 oa]at h4;omega
def mJ{p:Plc}{W:List Int}{d':Dcm}(h:Stay p W d d')(T:TrsA d.tiers p): ∀(f:Nat) (t:Int),t<p.m->B1 d' f t=B1 d f t
 | 0,_,_=>rfl
 | f+1,t,ht=>by
  simp only[B1,h.trs];split
  ·rfl
  ·rename_i x hx;have hk: ∀i,d'.kids i t=d.kids i t:=fun i=>dN h.trs (h.low t ht i);split
   ·grind
   ·rename_i h0;rcases T.par' hx with h1|h1
    ·omega
    ·rw[mJ h T f x.par oa];exact af (fun g=>List.flatMap g _) (funext hk)
end
section
variable {α:Type} {S Sh:Svc α} {cov:List Nte->Nte->Prop} {tx:ByteArray->Prop} {d x y z:Dcm} {p:Plc} {W:List Int}
def rp{d:Dcm}{w:Int}(hw:vK d p w=true)(Y:LinOk S tx)(h:ZZ S p d w):
  (if(S.st w (qu d.notes w)).1=4 then vk d p w=((S.lin (S.st w (qu d.notes w)).2).1,(S.lin (S.st w (qu d.notes w)).2).2.1)/\0<(vk d p w).1.length else vk d p w=([],[])):=by
 unfold ZZ at h;split at h
 ·rename_i hk;rw[ae hk];unfold Qx at h;simp only[we,aj]at h;refine⟨Prod.ext h.2.1.symm h.2.2.symm,?_⟩;rw[<-h.2.1];have:=Y.len _ h.1;omega
 ·rename_i hk;rw[j7 hk];unfold vk Qa Ql;rw[ae hw,h];rfl
def qgz{nx ny nz:Int}(Yg:LinOk S tx)(Yh:LinOk Sh tx)(T0: ∀d':Dcm,d'.tiers=d.tiers->TrsA d'.tiers p)(H:NtsA cov tx d)(hl:d.notes.length<=300)(hs:SP d)(hx:QI S p (Za d p.w) d nx=(x,0))(hy:QI Sh p (Za x p.w) x ny=(y,0))(hz:QI S p (Za y p.w) y nz=(z,0)):
  (NtsA cov tx y/\y.tiers=d.tiers/\y.rc=d.rc/\y.notes.length<=300/\Za y p.w=Za d p.w)/\
  (∀w∈Za d p.w,vK y p w=true/\qu y.notes w=qu d.notes w/\ZZ Sh p y w)/\∀i,vk x p i=vk z p i:=by
 have T:=T0 d rfl;have qf:=T.lt;have word: ∀{d:Dcm},NtsA cov tx d->∀w∈Za d p.w,vK d p w=true:=fun H w hw=>by obtain⟨n,h1,rfl,h3⟩:=uk hw;rw[isWord_iff,zH H.up h1];exact⟨rfl,h3⟩
 have a:=lS T0 Yg (Za d p.w) d nx rfl H (word H) (bf H ..) hl hs (by rw[hx]);rw[hx]at a;obtain⟨a1,a2,a3,a4,a5⟩:=a;have tx':x.tiers=d.tiers:=a2.trs;have ox:Za x p.w=Za d p.w:=mJ a2 T _ _ oa;have b:=lS T0 Yh (Za x p.w) x ny tx' a1 (word a1) (bf a1 ..) a4 a5 (by rw[hy]);rw[hy]at b;obtain⟨b1,b2,b3,b4,b5⟩:=b;have ty':y.tiers=d.tiers:=b2.trs.trans tx';have oy:Za y p.w=Za d p.w:=(mJ b2 (T0 x tx') _ _ oa).trans ox;have c:=lS T0 Yg (Za y p.w) y nz ty' b1 (word b1) (bf b1 ..) b4 b5 (by rw[hz]);rw[hz]at c;obtain⟨c1,c2,c3,c4,_⟩:=c;have txt: ∀{d d':Dcm} {V:List Int} {w:Int},Stay p V d d'->vK d p w=true->qu d'.notes w=qu d.notes w:=fun h hw=>by obtain⟨h1,h2⟩:=isWord_iff.1 hw;unfold qu;rw[h.get _ h1 oa]
 refine⟨⟨b1,ty',b2.rc.trans a2.rc,b4,oy⟩,fun w hw=>?_,fun i=>?_⟩
 ·grind
 ·by_cases hi:i∈Za d p.w
  ·have h1:=word a1 i (by rw[ox];exact hi);have h2:=word b1 i (by rw[oy];exact hi);have h3:vK z p i=true:=by rw[c2.word oa];exact h2
   have e:=(txt c2 h2).trans (txt b2 h1);have r1:=rp h1 Yg (a3 i hi);have r2:=rp h3 Yg (c3 i (by rw[oy];exact hi));rw[e]at r2;split at r1
   ·grind
   ·grind
  ·have e1:=b2.oth i (by rw[ox];exact hi);have e2:=c2.oth i (by rw[oy];exact hi);unfold vk;rw[c2.word oa,b2.word oa,e2.2.1,e2.2.2,e1.2.1,e1.2.2]
end
def qV(s:Spn):Bool:=decide (0<=s.fr)&&decide (s.fr<s.tg)&&decide (s.tg<=86400000)
def rightS_iff{s:Spn}:qV s=true↔0<=s.fr/\s.fr<s.tg/\s.tg<=86400000:=by simp[qV,and_assoc]
def aG(l:List Spn):Prop:=(∀s∈l,qV s=true)/\l.Pairwise (fun a b=>a.tg<b.fr)
def zF(p:List Spn×List Spn×Spn)(x:Spn):List Spn×List Spn×Spn:=
 if x.tg<p.2.2.fr then(p.1++[x],p.2.1,p.2.2)else if x.fr>p.2.2.tg then(p.1,p.2.1++[x],p.2.2)else(p.1,p.2.1,⟨min p.2.2.fr x.fr,max p.2.2.tg x.tg⟩)
def uz(l:List Spn)(s:Spn):List Spn:=(l.foldl zF ([],[],s)).1++(l.foldl zF ([],[],s)).2.2::(l.foldl zF ([],[],s)).2.1
def fD(l:List Spn):List Spn:=(l.filter qV).foldl uz []
def ir(s x:Spn):List Spn:=(if qV ⟨x.fr,min x.tg s.fr⟩=true then [⟨x.fr,min x.tg s.fr⟩]else [])++(if qV ⟨max x.fr s.tg,x.tg⟩=true then [⟨max x.fr s.tg,x.tg⟩]else [])
def qN(l:List Spn)(s:Spn):List Spn:=l.flatMap (ir s)
def Hk(a b:List Spn):List Spn:=(b.filter qV).foldl qN (fD a)
def ib(l:List Spn)(s:Spn):Bool:=qV s&&decide ((Hk [s] l).length=0)
def qfa:Tir:=⟨ye,0,0,0⟩
def dn(ts:List Tir)(i:Int):Tir:=(QJ ts i).getD qfa
def EO(role:Int):Int:=if role=1 then 0 else if role=3 then 3 else if role=4\/role=5 then 4 else -1
def Eu(role:Int):Int:=if role=2\/role=5 then 1 else if role=3 then 2 else if role=4 then 3 else -1
def ZI(ts:List Tir)(i:Nat)(t:Tir):Int:=
 if XJ t.name=false then 7 else if((ts.take i).any fun u=>u.name==t.name)=true then 8 else if t.kind<0\/4<t.kind then 14 else if t.role<0\/5<t.role then 2
 else if((ts.take i).any fun u=> !(t.role==0)&&u.role==t.role)=true then 8 else if(t.kind=0/\t.par≠ -1)\/(t.kind≠0/\(t.par<0\/(i:Int)<=t.par))then 13
 else if t.kind≠0/\bC t.kind=true/\bC (dn ts t.par).kind=false then 13 else if 0<=EO t.role/\t.kind≠EO t.role then 14
 else if 0<=Eu t.role/\(t.kind=0\/(dn ts t.par).role≠Eu t.role)then 13 else 0
def mh(ts:List Tir):List Tir->Nat->Int
 | [],_=>0
 | t::l,i=>if ZI ts i t≠0 then ZI ts i t else mh ts l (i+1)
def mf(ts:List Tir):Int:=if 12<ts.length then 11 else mh ts ts 0
def fg:List Tir->Int->Nat->Int
 | [],_,_=> -1
 | t::l,r,i=>if r≠0/\t.role=r then(i:Int)else fg l r (i+1)
def vA(ts:List Tir)(r:Int):Int:=fg ts r 0
def DB{ts:List Tir}: ∀{l:List Tir} {i:Nat},mh ts l i=0->∀(k:Nat) t,l[k]? =some t->ZI ts (i+k) t=0
 | [],i,_,k,t,h=>by simp at h
 | u::l,i,h0,k,t,h=>by
  simp only[mh]at h0;by_cases h1:ZI ts i u=0
  ·rw[j7 (by simpa using h1)]at h0;cases k with
   | zero=>grind
   | succ k=>
    have:=DB h0 k t (by simpa using h);grind
  ·omega
def tH{r:Int}: ∀{i:Nat},0<=fg l r i->∃(k:Nat) (t:Tir),l[k]? =some t/\t.role=r/\fg l r i=((i+k:Nat):Int):=by
 induction l with
 | nil=>intro i h;simp[fg]at h
 | cons u l ih=>
  intro i h;simp only[fg]at h ⊢;by_cases h1:r≠0/\u.role=r
  ·grind
  ·rw[j7 h1]at h ⊢;obtain⟨k,t,a,b,c⟩:=ih h;exact⟨k+1,t,by simpa using a,b,by rw[c];omega⟩
def N9{r:Int}(hr:r≠0): ∀{i k:Nat} {t:Tir},l[k]? =some t->t.role=r->(∀(j:Nat) u,j<k->l[j]? =some u->u.role≠r)->fg l r i=((i+k:Nat):Int):=by
 induction l with
 | nil=>simp
 | cons u l ih=>
  intro i k t h ht hj;simp only[fg];cases k with
  | zero=>grind
  | succ k=>
   rw[j7 fun e=>hj 0 u oa rfl e.2,ih (by simpa using h) ht fun j v hjk hv=>hj (j+1) v oa (by simpa using hv)];omega
def gI{t:Tir}(h:ts[k]? =some t):QJ ts (k:Int)=some t:=by unfold QJ;simpa using h
def qaa(h:mf ts=0)(h2:0<=vA ts 2)(h3:0<=vA ts 3)(h4:0<=vA ts 4):TrsA ts ⟨vA ts 2,vA ts 3,vA ts 4⟩:=by
 unfold mf at h;split at h
 ·omega
 have H: ∀(k:Nat) t,ts[k]? =some t->ZI ts k t=0:=fun k t hk=>by simpa using DB h k t hk
 have par: ∀(k:Nat) t,ts[k]? =some t->t.kind=0\/(0<=t.par/\t.par<k):=fun k t hk=>by have:=H k t hk;unfold ZI at this;grind
 have inv: ∀r,r≠0->∀(k:Nat) t,ts[k]? =some t->t.role=r->vA ts r=k:=fun r hr k t hk ht=>by
  have:=N9 hr (i:=0) hk ht fun j u hj hu e=>by have:=H k t hk;unfold ZI at this;have hm:u∈ts.take k:=yM.2 ⟨j,by rw[jt hj];exact hu⟩;have:((ts.take k).any fun u=> !(t.role==0)&&u.role==t.role)=true:=og;grind
  unfold vA;rw[this];simp
 have up: ∀(r q:Int),r≠0->q≠0->Eu r=q->0<=q->∀(k:Nat) t,ts[k]? =some t->t.role=r->t.kind≠0/\t.par=vA ts q:=fun r q hr hq ho hq0 k t hk ht=>by
  have h1:=H k t hk;have h2:=par k t hk;unfold ZI at h1;rw[ht,ho]at h1;have h3:t.kind≠0/\(dn ts t.par).role=q:=oa;refine⟨h3.1,?_⟩;have h4:0<=t.par/\t.par<k:=oa;have qf:=(wg.1 hk).1;have hp:ts[t.par.toNat]? =some ts[t.par.toNat]:=oh;have hd:dn ts t.par=ts[t.par.toNat]:=by unfold dn QJ;rw[ae h4.1,hp];rfl
  have:=inv q hq _ _ hp (by rw[<-hd];exact h3.2);omega
 have kd: ∀(r q:Int),EO r=q->0<=q->∀(k:Nat) t,ts[k]? =some t->t.role=r->t.kind=q:=fun r q ho hq0 k t hk ht=>by have h1:=H k t hk;unfold ZI at h1;rw[ht,ho]at h1;grind
 obtain⟨k3,t3,a3,b3,c3⟩:=tH h3;obtain⟨k4,t4,a4,b4,c4⟩:=tH h4;have e3:vA ts 3=(k3:Int):=og;have e4:vA ts 4=(k4:Int):=og;refine⟨par,fun k t hk ha h0=>?_,⟨t3,by rw[e3];exact gI a3,kd 3 3 oo oo k3 t3 a3 b3,(up 3 2 oo oo oo oo k3 t3 a3 b3).2⟩,⟨t4,by rw[e4];exact gI a4,kd 4 4 oo oo k4 t4 a4 b4,(up 4 3 oo oo oo oo k4 t4 a4 b4).2⟩⟩;have h1:=H k t hk;have h2:=par k t hk;have h4:0<=t.par/\t.par<k:=oa;have qf:=(wg.1 hk).1;have hp:ts[t.par.toNat]? =some ts[t.par.toNat]:=oh;have hd:QJ ts t.par=some ts[t.par.toNat]:=by unfold QJ;rw[ae h4.1,hp]
 have hd':dn ts t.par=ts[t.par.toNat]:=by unfold dn;rw[hd];rfl
 rw[C1 hd,<-hd'];unfold ZI at h1;grind
def bM(d:Dcm)(n:Nte)(t:Tir):Int:=
 if(t.kind=0/\n.par≠0)\/(t.kind≠0/\((qI d.notes n.par).2=false\/(qI d.notes n.par).1.tier≠t.par))then 13
 else if(bC t.kind=false/\¬(n.fr=0/\n.tg=0))\/(bC t.kind=true/\qV n.span=false)then 12
 else if t.kind=0/\d.rc.len<n.tg then 12
 else if bC t.kind=true/\t.kind≠0/\(n.fr<(qI d.notes n.par).1.fr\/(qI d.notes n.par).1.tg<n.tg)then 12
 else if n.rank<0\/(n.rank≠0/\t.kind≠3)then 1 else 0
def placed_iff{n:Nte}{t:Tir}:bM d n t=0↔PlcA d n t:=by
 have hr:qV n.span=true↔0<=n.fr/\n.fr<n.tg/\n.tg<=86400000:=rightS_iff;constructor
 ·intro h;unfold bM at h;constructor<;>grind
 ·intro h;obtain⟨a,b,c,e,f,g,i,j,k,l⟩:=h;unfold bM;grind
def cR(d:Dcm)(i:Nat)(n:Nte):Int:=
 if n.id<1\/1099511627776<n.id then 2 else if 0<i/\n.id<=((d.notes[i - 1]?).getD fi).id then 10 else if n.tier<0\/(d.tiers.length:Int)<=n.tier then 2
 else if Qh n.txt≠0 then Qh n.txt else bM d n (dn d.tiers n.tier)
def BZ(l:List Nte)(i k:Nat):Bool:=decide (((l[i]?).getD fi).fr<((l[k]?).getD fi).tg)&&decide (((l[k]?).getD fi).fr<((l[i]?).getD fi).tg)
def G9(l:List Nte):Bool:=(wR l.length).any fun i=>(wR i).any fun k=>BZ l i k
def D6(l:List Nte):Bool:=(wR l.length).all fun n:Nat=>l.any fun x=>x.rank==(n:Int)
def R3(l:List Nte)(p:Nte):Bool:=ib (l.map Nte.span) p.span
def rV(d:Dcm)(n:Nte)(k:Int)(out:Int):Int:=
 let l:=vV d n.tier n.par
 if k=4/\1<l.length then 8 else if k=3/\D6 l=false then 10 else if k=1/\R3 l (qI d.notes n.par).1=false then 16 else out
def rT(d:Dcm)(ti:Int)(k:Int):List Nte->Int->Int
 | [],out=>out
 | n::l,out=>if n.tier≠ti then rT d ti k l out else if bC k=true/\G9 (vV d n.tier n.par)=true then 15 else rT d ti k l (rV d n k out)
def tu(d:Dcm)(i:Int):Int:=rT d i (dn d.tiers i).kind d.notes 0
def ZM(d:Dcm):List Nte->Nat->Int
 | [],_=>0
 | n::l,i=>if cR d i n≠0 then cR d i n else ZM d l (i+1)
def bp(d:Dcm):Nat->Nat->Int
 | 0,_=>0
 | f+1,i=>if tu d i≠0 then tu d i else bp d f (i+1)
def gx(d:Dcm):Int:=if mf d.tiers≠0 then mf d.tiers else if d.rc.len<0\/86400000<d.rc.len then 12 else if 300<d.notes.length then 11
 else if ZM d d.notes 0≠0 then ZM d d.notes 0 else bp d d.tiers.length 0
abbrev qg7(d:Dcm):Prop:=NtsA (fun l p=>R3 l p=true) (fun s=>Qh s=0) d
def OS{l:List Nte}:G9 l=true↔ovl l:=by unfold G9 ovl BZ;grind
def Oa{l:List Nte}:D6 l=true↔rnk l:=by unfold D6 rnk;simp_all
def tieG_iff{ti k:Int}: ∀{l:List Nte} {out:Int},rT d ti k l out=0↔(out=0/\∀n∈l,n.tier=ti->¬(bC k=true/\G9 (vV d n.tier n.par)=true)/\rV d n k 0=0):=by
 intro l;induction l with
 | nil=>intro out;simp[rT]
 | cons n l ih=>
  intro out;simp only[rT];have hs:rV d n k out=0↔(out=0/\rV d n k 0=0)\/(rV d n k 0=0/\out=0):=by unfold rV;grind
  grind
def Hb: ∀{l:List Nte} {i:Nat},ZM d l i=0↔∀(k:Nat) n,l[k]? =some n->cR d (i+k) n=0:=by
 intro l;induction l with
 | nil=>intro i;simp[ZM]
 | cons u l ih=>
  intro i;simp only[ZM];by_cases h1:cR d i u=0
  ·rw[j7 (by simpa using h1),ih];constructor
   ·grind
   ·intro h k n hk;have:=h (k+1) n (by simpa using hk);rwa [show i+(k+1)=i+1+k by omega]at this
  ·rw[ae h1];exact⟨fun h=>ak h h1,fun h=>ak (h 0 u rfl) h1⟩
def Gv: ∀{f i:Nat},bp d f i=0↔∀k,i<=k->k<i+f->tu d k=0:=by
 intro f;induction f with
 | zero=>intro i;simp[bp];intro k;omega
 | succ f ih=>
  intro i;simp only[bp];grind
def nts_iff:(ZM d d.notes 0=0/\bp d d.tiers.length 0=0)↔qg7 d:=by
 rw[Hb,Gv];have td: ∀{i:Int},0<=i->i<d.tiers.length->QJ d.tiers i=some (dn d.tiers i):=fun {i} h0 h1=>by have:d.tiers[i.toNat]? =some d.tiers[i.toNat]:=oh;unfold dn QJ;rw[ae h0,this];rfl
 have sib: ∀(n:Nte) t,dn d.tiers n.tier=t->((¬(bC t.kind=true/\G9 (vV d n.tier n.par)=true)/\rV d n t.kind 0=0)↔SibA (fun l p=>R3 l p=true) d n t):=fun n t _=>by
  rw[OS];have hr:=@Oa (vV d n.tier n.par);constructor
  ·rintro⟨h1,h2⟩;unfold rV at h2;exact⟨fun a b=>h1 ⟨a,b⟩,og,og,og⟩
  ·rintro⟨h1,h2,h3,h4⟩;unfold rV;grind
 constructor
 ·rintro⟨h1,h2⟩;have h1: ∀(k:Nat) n,d.notes[k]? =some n->cR d k n=0:=og;have MH: ∀(i:Nat) a b,d.notes[i]? =some a->d.notes[i+1]? =some b->a.id<b.id:=fun i a b ha hb=>by have:=h1 (i+1) b hb;unfold cR at this;rw[show i+1 - 1=i by omega,ha]at this;simp only[yJ]at this;grind
  have VJ:d.notes.Pairwise (fun a b=>a.id<b.id):=by
   rw[yH];intro i j hi hj A9;induction j with
   | zero=>omega
   | succ j ih=>
    have hs:=MH j _ _ (wa oa) (wa hj);grind
  refine⟨VJ,fun n hn=>?_,fun n hn=>?_⟩
  ·obtain⟨k,hk⟩:=yM.1 hn;have:=h1 k n hk;unfold cR at this;grind
  ·obtain⟨k,hk⟩:=yM.1 hn;have:=h1 k n hk;unfold cR at this;have g:0<=n.tier/\n.tier<d.tiers.length/\Qh n.txt=0/\bM d n (dn d.tiers n.tier)=0:=og;have h3:=h2 n.tier.toNat oa oa;rw[show ((n.tier.toNat:Nat):Int)=n.tier by omega]at h3;unfold tu at h3;have h4:=(tieG_iff.1 h3).2 n hn rfl;exact⟨g.2.2.1,_,td g.1 g.2.1,placed_iff.1 g.2.2.2,(sib n _ rfl).1 h4⟩
 ·intro H;refine⟨fun k n hk=>?_,fun k _ hk=>?_⟩
  ·have hn:=ww hk;obtain⟨h1,t,ht,hp,_⟩:=H.note n hn;obtain⟨t0,t1,t2⟩:=zk ht;have hd:dn d.tiers n.tier=t:=og;have hi:=H.id n hn;have Db:=placed_iff.2 hp;have MH:0<k->((d.notes[k - 1]?).getD fi).id<n.id:=fun h0=>by obtain⟨bw,he⟩:=wg.1 hk;rw[wa (by omega:k - 1<d.notes.length)];have:=yH.1 H.up (k - 1) k oa bw oa;rw[he]at this;exact this
   rw[yi];unfold cR;rw[hd];grind
  ·unfold tu;refine tieG_iff.2 ⟨rfl,fun n hn e=>?_⟩;obtain⟨_,t,ht,_,hs⟩:=H.note n hn;grind
attribute [local irreducible] DW DCalls ECalls NCalls wk IW
section
attribute [local go_sem] vp Tir.enc
def Eh(k:Int):DCalls pP 144 [dv (li k)] (dv (lb (bC k))):=by
 refine dX (N:=13) (rs:=[.tmp 2]) qg func144 ?_;repeat' first|refine gQ ?_|exact gU|refine gS ?_|exact gT|(first|apply xc|apply gf|apply gt)<;>intro hc
 all_goals simp[bC,QV, *]
def UE(role:Int):DCalls pP 145 [dv (li role)] (dv (li (EO role))):=by
 refine dX (N:=11) (rs:=[.tmp 2]) qg func145 ?_;repeat' first|refine gQ ?_|exact gU|refine gS ?_|exact gT|(first|apply xc|apply gf|apply gt)<;>intro hc
 all_goals simp_all [EO,QV]
def UB(role:Int):DCalls pP 146 [dv (li role)] (dv (li (Eu role))):=by
 refine dX (N:=11) (rs:=[.tmp 2]) qg func146 ?_;repeat' first|refine gQ ?_|exact gU|refine gS ?_|exact gT|(first|apply xc|apply gf|apply gt)<;>intro hc
 all_goals simp_all [Eu,QV]
abbrev qeK:Dl.PL:=fun|7=> Dl.ll 0 8 []|16=> Dl.ll 0 13 []|23=> Dl.ll 0 2 ((2,.step)::Dl.ll 3 9 [])|25=> Dl.ll 0 2 ((2,.step)::Dl.ll 3 16 [])|_=>[]
def Uw(ts:List Tir)(i:Nat)(t:Tir)(hi:ts[i]? =some t)(hl:ts.length<=1000000)(hs:t.name.size<=1048576):DCalls pP 83 [dv (.sl 4 (ts.map Tir.enc)),dv (li i)] (dv (li (ZI ts i t))):=by
 have qi:=qo;have E9:=(wg.1 hi).1;have hN:=IU t.name hs;have E7:(ts.take i).length=i:=og;cases h0:XJ t.name
 ·rw[h0]at hN;refine dX (N:=136) (rs:=[.tmp 4]) qeK func83 ?_;refine gB ?_;exact cC (by grind [ZI])
 rw[h0]at hN;refine dX (N:=136) (rs:=[.tmp 4]) qeK func83 ?_;refine gk ?_;refine lp (ts.take i) [0,1,5] [5] (fun k=>[(6,dv (li k))]) (fun _=>[]) (fun k=>∀u∈(ts.take i).take k,(u.name==t.name)=false) oh ?_ ?_
 ·intro k u hu hk hm qs qf hw hv;rw[E7]at qf;have hx:=Ny hu;clear hu;refine gC ?_ ?_<;>intro hc
  ·have hA:=WG (q:=fun u:Tir=>u.name==t.name) hm hc;exact cC (by grind [ZI])
  ·exact⟨iF hv hc,Zb⟩
 intro qf hv;have hA:=WH hv;rw[E7]at qf;clear hv;repeat' first|refine gQ ?_|exact gU|refine gS ?_|exact gT|(first|apply xc|apply gf|apply gt)<;>intro hc
 all_goals first|exact cC (by grind [ZI])|skip
 refine lp (ts.take i) [0,1,5] [5] (fun k=>[(7,dv (li k))]) (fun _=>[]) (fun k=>∀u∈(ts.take i).take k,(!(t.role==0)&&u.role==t.role)=false) oh ?_ ?_
 ·intro k u hu hk hm qs qf hw hv;rw[E7]at qf;have hx:=Ny hu;clear hu;repeat' first|refine gQ ?_|exact gU|refine gS ?_|exact gT|(first|apply xc|apply gf|apply gt)<;>intro hc
  all_goals first|exact Zb|exact⟨by simpa only[go_sem, *]using iF hv ou,Zb⟩|skip
  have hB:=WG (q:=fun u:Tir=> !(t.role==0)&&u.role==t.role) hm ou;exact cC (by grind [ZI])
 intro qf hv;have hB:=WH hv;rw[E7]at qf;clear hv;have hT:=Eh t.kind;have hK:=UE t.role;have hO:=UB t.role;by_cases hp:0<=t.par/\t.par<i
 ·obtain⟨u,hu⟩: ∃u,ts[t.par.toNat]? =some u:=⟨_,wa oa⟩;have hd:dn ts t.par=u:=by unfold dn QJ;rw[ae hp.1,hu];rfl
  have hU:=Eh u.kind;obtain⟨EW,X6⟩:=hp;repeat' first|refine kx hT ?_|refine kx hU ?_|refine gQ ?_|exact gU|refine gS ?_|exact gT|(first|apply xc|apply gf|apply gt)<;>intro hc
  clear hN hT hU hK hO E7;all_goals exact cC (by grind [ZI])
 ·repeat' first|refine gQ ?_|exact gU|refine gS ?_|exact gT|(first|apply xc|apply gf|apply gt)<;>intro hc
  clear hN hT hK hO E7;all_goals first|exact cC (by grind [ZI])|(exfalso;grind)
def qaO(ts:List Tir)(hl:ts.length<=1000000)(hs: ∀t∈ts,t.name.size<=1048576):DCalls pP 41 [dv (.sl 4 (ts.map Tir.enc))] (dv (li (mf ts))):=by
 have qi:=qo;cases h0:decide (12<(ts.length:Int));rotate_left
 ·refine dX (N:=20) (rs:=[.tmp 2]) qg func41 ?_;refine gB ?_;exact cC (by unfold mf;rw[ae (by simp at h0;omega)])
 have e0:mf ts=mh ts ts 0:=by unfold mf;rw[j7 (by simp at h0;omega)]
 rw[e0];refine dX (N:=20) (rs:=[.tmp 2]) qg func41 ?_;refine gk ?_;refine lp ts [0] [] (fun k=>[(3,dv (li k))]) (fun _=>[]) (fun k=>mh ts ts 0=mh ts (ts.drop k) k) rfl ?_ ?_
 ·intro k t hk bw hm qs qf hw hv;have hT:=Uw ts k t hk hl (hs t hm);have hd:ts.drop k=t::ts.drop (k+1):=by obtain⟨h1,h2⟩:=wg.1 hk;rw[<-h2];exact wP h1
  have vO:mh ts (ts.drop k) k=if ZI ts k t≠0 then ZI ts k t else mh ts (ts.drop (k+1)) (k+1):=by rw[hd];rfl
  rw[hv,vO];clear hk qs hv vO hd;refine gC ?_ ?_<;>intro hc
  ·exact cC (ae (by simpa using hc))
  ·exact⟨j7 (by simpa using hc),Zb⟩
 ·intro qf hv;rw[jh]at hv;rw[hv];refine gB ?_;exact cC rfl
attribute [local go_sem] vp Tir.enc Nte.enc Nte.span Spn.enc Dcm.row Nte.row Spn.row
def Ek(d:Dcm)(id:Int)(hl:d.notes.length<=1000000):DCalls pP 89 [.agg d.row,dv (li id)] (.tup [.agg (qI d.notes id).1.row,dv (lb (qI d.notes id).2)]):=by
 have qi:=qo;refine dX (N:=28) (rs:=[.cell 4 122,.tmp 5]) qg func89 ?_;refine gk ?_;refine lp d.notes [1,2,4] [2,4] (fun k=>[(6,dv (li k))]) (fun _=>[]) (fun k=>∀n∈d.notes.take k,(n.id==id)=false) oh ?_ ?_
 ·intro k n hn hk hm qs qf hw hi;refine gC ?_ ?_<;>intro hc
  ·simp[qI,sM hn hi hc,QV]
  ·exact⟨iF hi hc,Zb⟩
 ·intro qf hi;rw[wc]at hi;refine gB ?_;simp[qI,sL hi,fi,QV]
def tR(k:Int):DCalls pP 87 [dv (li k)] (dv (lb (bC k))):=by
 refine dX (N:=13) (rs:=[.tmp 2]) qg func87 ?_;repeat' first|refine gQ ?_|exact gU|refine gS ?_|exact gT|(first|apply xc|apply gf|apply gt)<;>intro hc
 all_goals simp[bC,QV, *]
def Ux(d:Dcm)(t p:Int)(hl:d.notes.length<=10000):DCalls pP 86 [.agg d.row,dv (li t),dv (li p)] (dv (.sl 7 ((vV d t p).map Nte.enc))):=by
 have qi:=qo;refine dX (N:=44) (rs:=[.tmp 6]) qg func86 ?_;refine gk ?_;refine xe 7 7 7 [] ?_;refine lp d.notes [1,2,3] [3] (fun k=>[(7,.one (.own 7 7 (((d.notes.take k).filter fun n=>n.tier==t&&n.par==p).map Nte.enc))),(8,dv (li k))]) (fun _=>[]) (fun _=>True) trivial ?_ ?_
 ·intro k n hn hk hm qs qf hw _;have qbY:=yN (fun n:Nte=>n.tier==t&&n.par==p) (d.notes.take k);have bw:(d.notes.take k).length<=d.notes.length:=og;rw[qs,jr];clear qs;generalize (d.notes.take k).filter (fun n=>n.tier==t&&n.par==p)=q at*
  have hb:((q.length+1)*64<=140737488355328)=True:=og;repeat' first|refine gQ ?_|exact gU|refine gS ?_|exact gT|(first|apply xc|apply gf|apply gt)<;>intro hc
  all_goals exact ks
 ·intro qf _;rw[wc];refine gB ?_;exact DLe.own_ _ _ _
def GR(l:List Nte)(hl:l.length<=10000):DCalls pP 91 [dv (.sl 7 (l.map Nte.enc))] (dv (.sl 2 ((l.map Nte.span).map Spn.enc))):=by
 have qi:=qo;refine dX (N:=21) (rs:=[.tmp 2]) qg func91 ?_;refine gk ?_;refine xe 3 3 2 [] ?_;refine lp l [0] [] (fun k=>[(3,.one (.own 3 2 (((l.take k).map Nte.span).map Spn.enc))),(4,dv (li k))]) (fun _=>[]) (fun _=>True) trivial ?_ ?_
 ·intro k n hn hk hm qs qf hw _;have qbY:(((l.take k).map Nte.span).map Spn.enc).length<=l.length:=og;rw[qs,yt,yt];clear qs;generalize ((l.take k).map Nte.span).map Spn.enc=q at*
  have hb:((q.length+1)*16<=140737488355328)=True:=og;refine gB ?_;all_goals exact ks
 ·intro qf _;rw[wc];exact gA
abbrev qgB:Dl.PL:=fun|7=> Dl.ll 0 28 []|_=>[]
def qaS(l:List Nte)(hl:l.length<=10000):DCalls pP 88 [dv (.sl 7 (l.map Nte.enc))] (dv (lb (G9 l))):=by
 have qi:=qo;refine dX (N:=44) (rs:=[.tmp 2]) qgB func88 ?_;refine gk ?_;refine lp l [0] [] (fun k=>[(3,dv (li k))]) (fun _=>[]) (fun k=>∀i∈wR k,((wR i).any fun j=>BZ l i j)=false) oh ?_ ?_
 ·intro i a ha hk hm _ qf hw hi;rw[jn];refine gk ?_;refine Pd i [0,3] [] (fun k=>[(4,dv (li k))]) (fun _=>[]) (fun k=>∀j∈wR k,BZ l i j=false) oh ?_ ?_
  ·intro k fy Zk rG hv;obtain⟨b,hb⟩: ∃b,l[k]? =some b:=⟨_,wa oa⟩;have hp:BZ l i k=(decide (a.fr<b.tg)&&decide (b.fr<a.tg)):=by unfold BZ;rw[ha,hb];rfl
   rw[jn];clear hi;repeat' first|refine gQ ?_|exact gU|refine gS ?_|exact gT|(first|apply xc|apply gf|apply gt)<;>intro hc
   ·exact iq (WG (yU.2 hk) (WG (yU.2 fy) ou))
   all_goals exact⟨iF hv ou,ks⟩
  ·intro Zk hv;have hx:=WH (q:=fun j=>BZ l i j) (l:=wR i) (by simpa using hv);clear hv;refine gB ?_;exact⟨iF (q:=fun i=>(wR i).any fun j=>BZ l i j) hi hx,ks⟩
 ·intro qf hi;have hx:=WH (q:=fun i=>(wR i).any fun j=>BZ l i j) (l:=wR l.length) (by simpa using hi);refine gB ?_;exact iq hx
def qaQ(l:List Nte)(hl:l.length<=10000):DCalls pP 92 [dv (.sl 7 (l.map Nte.enc))] (dv (lb (D6 l))):=by
 have qi:=qo;refine dX (N:=30) (rs:=[.tmp 2]) qg func92 ?_;refine gk ?_;refine Pd l.length [0] [] (fun k=>[(3,dv (li k))]) (fun _=>[]) (fun k=>∀n∈wR k,(l.any fun x=>x.rank==(n:Int))=true) oh ?_ ?_
 ·intro n hk qf hw hi;rw[jn];refine gk ?_;refine lp l [0,3] [] (fun k=>[(4,dv (lb ((l.take k).any fun x=>x.rank==(n:Int)))),(5,dv (li k))]) (fun _=>[]) (fun _=>True) trivial ?_ ?_
  ·intro k b hb fy _ qs Zk rG hv;rw[qs,List.any_append];clear hi qs;generalize ((l.take k).any fun x=>x.rank==(n:Int))=q;refine gC ?_ ?_<;>intro hc;all_goals exact ks
  ·intro Zk hv;rw[wc];generalize hq:(l.any fun x=>x.rank==(n:Int))=q;refine gC ?_ ?_<;>intro hc
   ·refine iq ?_;unfold D6;exact List.all_eq_false.2 ⟨n,yU.2 hk,oA⟩
   ·refine⟨fun m hm=>?_,ks⟩;rcases wF.1 hm with hm|hm
    ·grind
    ·grind
 ·intro qf hi;have hx:D6 l=true:=wZ.2 fun n hn=>hi n hn;exact gA
attribute [local go_sem] vp Tir.enc Nte.enc Nte.row Dcm.row Spn.row
def sG(ts:List Tir)(r:Int)(hl:ts.length<=1048576):DCalls pP 66 [dv (.sl 4 (ts.map Tir.enc)),dv (li r)] (dv (li (vA ts r))):=by
 have qi:=qo;refine dX (N:=24) (rs:=[.tmp 4]) qg func66 ?_;refine gk ?_;refine lp ts [1,7,8] [] (fun k=>[(9,dv (li k))]) (fun _=>[]) (fun k=>vA ts r=fg (ts.drop k) r k) rfl ?_ ?_
 ·intro k t ht hk hm qs qf hw hv;have hs:ts.drop k=t::ts.drop (k+1):=by obtain⟨h1,h2⟩:=wg.1 ht;rw[<-h2];exact wP h1
  rw[hs,fg]at hv;generalize fg (ts.drop (k+1)) r (k+1)=F at*
  clear hm qs hs;repeat' first|refine gQ ?_|exact gU|refine gS ?_|exact gT|(first|apply xc|apply gf|apply gt)<;>intro hc
  all_goals first|exact cC og|exact⟨og,qJ⟩
 ·intro qf hv;rw[jh,show fg [] r ts.length= -1 from rfl]at hv;exact gA
def uR(d:Dcm)(id:Int)(hl:d.notes.length<=1048576):DCalls pP 45 [.agg d.row,dv (li id)] (.tup [.agg (qI d.notes id).1.row,dv (lb (qI d.notes id).2)]):=by
 have qi:=qo;refine dX (N:=22) (rs:=[.cell 4 122,.tmp 5]) qg func45 ?_;refine gk ?_;refine lp d.notes [1,4,9,10] [4] (fun k=>[(11,dv (li k))]) (fun _=>[]) (fun k=>∀n∈d.notes.take k,(n.id==id)=false) oh ?_ ?_
 ·intro k n hn hk hm qs qf hw hv;clear hm;refine gC ?_ ?_<;>intro hc
  ·simp[qI,sM hn hv hc,QV]
  ·exact⟨iF hv hc,qJ⟩
 ·intro qf hv;rw[wc]at hv;refine gB ?_;simp[qI,sL hv,fi,QV]
attribute [local go_sem] vp Phon.enc Lnk.enc Lnk.row Rul.enc Rul.row qj
def JI(xs:List Int)(n:Int)(hl:xs.length<=1048576):DCalls pP 131 [dv (.sl 1 (ints xs)),dv (li n)] (dv (lb (xs.any fun x=>n==x))):=by have hI:=PH xs n (by have:=qo;omega);refine dX (N:=9) (rs:=[.tmp 4]) qg func131 ?_;refine gB ?_;exact iq (cn ..).symm
def Co(xs:List Int)(n:Int)(hl:xs.length<=1048576):DCalls pP 71 [dv (.sl 1 (ints xs)),dv (li n)] (dv (lb (xs.any fun x=>n==x))):=by have hI:=JI xs n hl;refine dX (N:=8) (rs:=[.tmp 4]) qg func71 ?_;exact gA
abbrev Xv:Dl.PL:=fun|1=> Dl.ll 0 2 ((2,.step)::Dl.ll 3 18 [])|_=>[]
def Vq(g:List Phon)(n:Int)(c:Lnk)(hg:g.length<=1048576):DCalls pP 263 [.agg (qj g),dv (li n),.agg c.row] (dv (lb (uE g n c))):=by
 have hS:=Xp g n;rw[show a7 g n=N0 g n from rfl]at hS;cases h:N0 g n
 ·rw[h]at hS;refine dX (N:=27) (rs:=[.tmp 6]) Xv func263 ?_;refine gB ?_;all_goals exact iq (by simp[uE,h])
 ·rw[h]at hS;have hr:1<=n/\n<=g.length:=by simpa[N0]using h
  obtain⟨p,hp⟩: ∃p,g[(n - 1).toNat]? =some p:=⟨_,wa oa⟩;have hw:aD .i64 (n - 1)=(((n - 1).toNat:Nat):Int):=by rw[wrap_i64 oa oa];omega
  have he:uE g n c=(c.tgt==QT .and .i64 p.feat c.kind):=by unfold uE RB;rw[h,hp];simp
  rw[he];refine dX (N:=27) (rs:=[.tmp 6]) Xv func263 ?_;exact gA
abbrev qeT:Dl.PL:=fun|1=> Dl.ll 0 8 [(8,.step),(9,.light)]|_=>[]
def Wn(g:List Phon)(cs:List Lnk)(k:Nat)(n:Int)(c:Lnk)(hk:cs[k]? =some c)(hg:g.length<=1048576):DCalls pP 256 [.agg [.c (.sl 2 (g.map Phon.enc)),.c (.sl 2 (cs.map Lnk.enc))],dv (li k),dv (li n)] (dv (lb (uE g n c))):=by have hI:=Vq g n c hg;refine dX (N:=16) (rs:=[.tmp 6]) qeT func256 ?_;exact gA
def Jy(g:List Phon)(cs:List Lnk)(ws:List Int)(hl:ws.length<=cs.length)(hw:ws.length<=1048576)(hg:g.length<=1048576):DCalls pP 255 [dv (.fn 256 []),.agg [.c (.sl 2 (g.map Phon.enc)),.c (.sl 2 (cs.map Lnk.enc))],dv (.sl 1 (ints ws))] (dv (lb (dV g cs ws))):=by
 have qi:=qo;refine dX (N:=23) (rs:=[.tmp 6]) qg func255 ?_;refine gk ?_;refine lp ws [0,4,9,10] [4] (fun k=>[(11,dv (li k))]) (fun _=>[]) (fun k=>dV g cs ws=dV g (cs.drop k) (ws.drop k)) rfl ?_ ?_
 ·intro k n hn hk hm qs qf hw hi;obtain⟨c,hc⟩: ∃c,cs[k]? =some c:=⟨_,wa oa⟩;have hI:=Wn g cs k n c hc hg;rw[aW hn,aW hc,dV]at hi;generalize uE g n c=b at*
  generalize dV g (cs.drop (k+1)) (ws.drop (k+1))=F at*
  clear hm qs;repeat' first|refine gQ ?_|exact gU|refine gS ?_|exact gT|(first|apply xc|apply gf|apply gt)<;>intro hc
  ·exact iq og
  ·exact⟨og,qJ⟩
 intro qf hi;rw[jh,show ∀l,dV g l []=true from fun l=>by cases l<;>rfl]at hi;exact gA;try exact iq hi
attribute [local go_sem] vp Lnk.enc Rul.enc Rul.row qj
abbrev OI:Dl.PL:=fun|1=> Dl.ll 0 13 []|2=> Dl.ll 0 6 ((6,.step)::Dl.ll 7 29 [])|4=> Dl.ll 0 8 ((8,.step)::Dl.ll 9 10 ((19,.step)::Dl.ll 20 2 []))|_=>[]
def qaB(g:List Phon)(r:Rul)(w:List Int)(i:Nat)(x:Int)(hx:w[i]? =some x)(hg:g.length<=1048576)(hw:w.length<=1048576)(hr:r.src.length<=1048576/\r.left.length<=1048576/\r.right.length<=1048576):
  DCalls pP 246 [.agg (qj g),.agg r.row,dv (.sl 1 (ints w)),dv (li i)] (dv (lb (mm g r w i))):=by
 have qi:=qo;have hi:=(wg.1 hx).1;have hH:=Co r.src x hr.1;have PV:mm g r w i=((r.src.any fun y=>x==y)&&decide (r.left.length<=i)&&decide (i+1+r.right.length<=w.length)&& !(r.beg&&decide (r.left.length<i))&& !(r.fin&&decide (i+1+r.right.length<w.length))&&
  (dV g r.left ((w.take i).drop (i - r.left.length))&&dV g r.right ((w.take (i+1+r.right.length)).drop (i+1)))):=by unfold mm;rw[hx];rfl
 generalize mm g r w i=S at*
 generalize (r.src.any fun y=>x==y)=b0 at*
 replace PV:Kp _:=⟨PV⟩;have w2:aD .i64 ((i:Int)+1)=((i+1:Nat):Int):=by rw[wrap_i64 oa oa];omega
 have w3:aD .i64 (((i+1:Nat):Int)+(r.right.length:Int))=((i+1+r.right.length:Nat):Int):=by rw[wrap_i64 oa oa];omega
 by_cases AW:r.left.length<=i;rotate_left
 ·have w1:aD .i64 ((i:Int) - (r.left.length:Int))=(i:Int) - r.left.length:=wrap_i64 oa oa;have w0:decide ((i:Int) - r.left.length<0)=true:=og;refine dX (N:=79) (rs:=[.tmp 8]) OI func246 ?_;refine gC ?_ ?_<;>intro hc;all_goals(have PV:=PV.h;exact iq og)
 have w1:aD .i64 ((i:Int) - (r.left.length:Int))=((i - r.left.length:Nat):Int):=by rw[wrap_i64 oa oa];omega
 by_cases xL:i+1+r.right.length<=w.length;rotate_left
 ·have w0:decide ((w.length:Int)<((i+1+r.right.length:Nat):Int))=true:=by grind
  refine dX (N:=79) (rs:=[.tmp 8]) OI func246 ?_;repeat' first|refine gQ ?_|exact gU|refine gS ?_|exact gT|(first|apply xc|apply gf|apply gt)<;>intro hc
  all_goals(have PV:=PV.h;exact iq og)
 have w0:decide ((w.length:Int)<((i+1+r.right.length:Nat):Int))=false:=og;have hA:=Jy g r.left ((w.take i).drop (i - r.left.length)) (by rw[yA,ym];omega) (by rw[yA,ym];omega) hg;have hB:=Jy g r.right ((w.take (i+1+r.right.length)).drop (i+1)) (by rw[yA,ym];omega) (by rw[yA,ym];omega) hg;generalize dV g r.left ((w.take i).drop (i - r.left.length))=b1 at*
 generalize dV g r.right ((w.take (i+1+r.right.length)).drop (i+1))=b2 at*
 simp only[List.map_drop,jv]at hA hB;have p1:i - r.left.length<=i:=oa;have p2:i<=w.length:=oa;have p3:i+1<=i+1+r.right.length:=oa;refine dX (N:=79) (rs:=[.tmp 8]) OI func246 ?_;repeat' first|refine kx hA ?_|refine kx hB ?_|refine gQ ?_|exact gU|refine gS ?_|exact gT|(first|apply xc|apply gf|apply gt)<;>intro hc
 all_goals(have PV:=PV.h;clear hA hB hH;exact iq og)
def Dg{x:Int}: ∀{s d:List Int},d.length=s.length->(s.any fun y=>x==y)=true->d[s.findIdx fun y=>x==y]? =some ((((s.zip d).find? fun p=>p.1==x).map (·.2)).getD 0)
 | [],_,_,h=>by simp at h
 | a::s,[],hl,_=>by simp at hl
 | a::s,b::d,hl,h=>by
  rw[List.findIdx_cons,List.zip_cons_cons,List.find?_cons];by_cases e:x=a
  ·grind
  ·have e1:(x==a)=false:=by grind
   have e2:(a==x)=false:=og;simp only[e1,e2,cond_false,yS];rw[List.any_cons,e1,Bool.false_or]at h;exact Dg (by simpa using hl) h
def KZ{r:Rul}(hd:r.dst.length=r.src.length)(hx:(r.src.any fun y=>x==y)=true): ∃(k:Nat),zG (fun y=>x==y) r.src=k/\r.dst[k]? =some (oV r x):=
 ⟨r.src.findIdx fun y=>x==y,by unfold zG;rw[ae hx],Dg hd hx⟩
abbrev qeW:Dl.PL:=fun|6=> Dl.ll 0 9 []|_=>[]
def WE(g:List Phon)(r:Rul)(w:List Int)(hd:r.dst.length=r.src.length)(hg:g.length<=1048576)(hw:w.length<=1048576)(hr:r.src.length<=1048576/\r.left.length<=1048576/\r.right.length<=1048576):
  DCalls pP 231 [.agg (qj g),.agg r.row,dv (.sl 1 (ints w))] (dv (.sl 1 (ints (pT g r w)))):=by
 have qi:=qo;have hI:=fun x=>PH r.src x oa;unfold pT;refine dX (N:=38) (rs:=[.tmp 6]) qeW func231 ?_;refine gk ?_;refine xo 7 7 1 ?_;refine lp w [2,3,4,10,11] [3,4] (fun k=>[(7,.one (.own 7 1 (ints (Ze g r w k)))),(12,dv (li k))]) (fun _=>[]) (fun k=>(Ze g r w k).length<=k) (wl _) ?_ ?_ (h0:=by simp +decide only[go_sem,Ze])
 ·intro k x hx hk hm qs qf hww hv;have hS:=qaB g r w k x hx hg hw hr;have vO:Ze g r w (k+1)=if mm g r w k=true then(if oV r x=0 then Ze g r w k else Ze g r w k++[oV r x])else Ze g r w k++[x]:=by simp only[Ze,hx]
  have PV:mm g r w k=true->(r.src.any fun y=>x==y)=true:=fun h=>by unfold mm at h;rw[hx]at h;grind
  have hI:=hI x;rw[vO];generalize Ze g r w k=q at*
  have lE:(q.length+1)*8<=140737488355328:=oa;clear hm qs vO;cases hs:mm g r w k
  ·rw[hs]at hS;refine gB ?_;exact⟨ot,qJ⟩
  ·obtain⟨j,Yd,HH⟩:=KZ hd (PV hs);rw[Yd]at hI;rw[hs]at hS;generalize oV r x=y at*
   by_cases hy:y=0
   ·have hy':(y==0)=true:=by simp[hy]
    simp only[hy,an];subst hy;refine gB ?_;exact⟨oa,qJ⟩
   ·have hy':(y==0)=false:=by simp[hy]
    simp only[hy,an,ap];refine gB ?_;exact⟨ot,qJ⟩
 intro qf hv;exact gA
def xD(g:List Phon)(r:Rul)(w:List Int): ∀k,(Ze g r w k).length<=k
 | 0=>wl _
 | k+1=>by
  have:=xD g r w k;simp only[Ze]
  (repeat' split)<;>simp<;>omega
def xE(g:List Phon)(r:Rul)(w:List Int):(pT g r w).length<=w.length:=xD g r w _
attribute [local go_sem] vp Lnk.enc Rul.enc Rul.row qj Stp.enc Stp.row
def Pn(g:List Phon)(rs:List Rul)(w:List Int)(hd: ∀r∈rs,r.dst.length=r.src.length)(hg:g.length<=1048576)(hw:w.length<=1048576)(hl:rs.length<=1048576)
  (hr: ∀r∈rs,r.src.length<=1048576/\r.left.length<=1048576/\r.right.length<=1048576):
  DCalls pP 203 [.agg (qj g),dv (.sl 6 (rs.map Rul.enc)),dv (.sl 1 (ints w))] (dv (.sl 1 (ints (Zi g rs w)))):=by
 have qi:=qo;refine dX (N:=21) (rs:=[.tmp 6]) qg func203 ?_;refine gk ?_;refine lp rs [3,9,10] [3] (fun k=>[(2,dv (.sl 1 (ints (Zi g (rs.take k) w)))),(11,dv (li k))]) (fun _=>[]) (fun k=>(Zi g (rs.take k) w).length<=1048576) hw ?_ ?_ (h0:=by simp +decide only[go_sem,Zi,wy])
 ·intro k r hx hk hm qs qf hww hv;have hA:=WE g r (Zi g (rs.take k) w) (hd r hm) hg hv (hr r hm);have vO:Zi g (rs.take (k+1)) w=pT g r (Zi g (rs.take k) w):=by rw[qs];unfold Zi;rw[yZ];rfl
  have vh:=xE g r (Zi g (rs.take k) w);rw[vO];generalize Zi g (rs.take k) w=q at*
  simp only[Rul.row,qj]at hA;clear hm qs vO;refine gB ?_;exact⟨oa,qJ⟩
 intro qf hv;rw[wc];exact gA
abbrev lu(n:Int):C:=.lit (.int .u32 n)
def Di(q:Int):(IntKind.u64.wrap q<0)=False:=by simp only[eq_iff_iff,iff_false,Int.not_lt];exact Int.emod_nonneg _ oo
def ID(s q:Int):DCalls pP 240 [dv (lu s),dv (li q)] (dv (lu (cN s q))):=by have h:=Di q;refine dX (N:=10) (rs:=[.tmp 4]) qg func240 ?_;refine gB ?_;exact DLe.rfl_ _
def qci(s q:Int):DCalls pP 262 [dv (lu s),dv (li q)] (dv (lb (gh s q))):=by have h:=Di q;refine dX (N:=11) (rs:=[.tmp 4]) qg func262 ?_;refine gB ?_;exact DLe.rfl_ _
def Wa(c0 c1:C)(f:List Int)(hl:f.length<=1048576):DCalls pP 208 [.agg [.c c0,.c c1,.c (.sl 1 (ints f))]] (dv (lu (bA f))):=by
 have qi:=qo;refine dX (N:=18) (rs:=[.tmp 2]) qg func208 ?_;refine gk ?_;refine lp f [7,8] [] (fun k=>[(3,dv (lu (bA (f.take k)))),(9,dv (li k))]) (fun _=>[]) (fun k=>True) trivial ?_ ?_ (h0:=by simp +decide only[go_sem,bA,wy])
 ·intro k q hx hk hm qs qf hww _;have hW:=ID (bA (f.take k)) q;have vO:bA (f.take (k+1))=cN (bA (f.take k)) q:=by rw[qs];unfold bA;rw[yZ];rfl
  rw[vO];generalize bA (f.take k)=F at*
  clear hm qs vO;exact gA
 intro qf hv;rw[wc];exact gA
def T4(c0:C)(xs:List Stp)(c2:C)(s:Int):DCalls pP 253 [.agg [.c c0,.c (.sl 3 (xs.map Stp.enc)),.c c2],dv (lu s)] (dv (.fn 261 [.pt [c0,.sl 3 (xs.map Stp.enc),c2],.pt [lu s]])):=by refine kd (N:=6) (rs:=[.tmp 4]) func253 ?_;refine uB qg ?_;refine Q3 2 [c0,.sl 3 (xs.map Stp.enc),c2] oh oe ?_;refine Q3 3 [lu s] oh oe ?_;apply qb;simp +decide only[go_sem]
attribute [local irreducible] gh cN
def Cw{q:α->Bool}{l:List α}{x:α}(hx:l[k]? =some x):((l.take (k+1)).filter q).length=((l.take k).filter q).length+(if q x=true then 1 else 0):=by rw[yV,hx,jr,wz];cases h:q x<;>simp[h]
def rL{α:Type}{q:α->Bool}: ∀{l:List α} {k:Nat} {x:α},l[k]? =some x->q x=true->(l.filter q)[((l.take k).filter q).length]? =some x
 | [],k,x,h,_=>by simp at h
 | a::l,0,x,h,hq=>by simp at h;subst h;simp[hq]
 | a::l,k+1,x,h,hq=>by have:=rL (l:=l) (k:=k) (by simpa using h) hq;cases ha:q a<;>simp[ha,this]
def NJ(c0:C)(xs:List Stp)(c2:C)(s:Int)(hl:xs.length<=1048576):It pP 261 [dv (.pt [c0,.sl 3 (xs.map Stp.enc),c2]),dv (.pt [lu s])] ((xs.filter fun x=>gh s x.src).map fun x=>[.agg x.row]):=by
 have qi:=qo;refine la om func261 rfl rfl oh (by have:=qX;simp;omega) ?_;intro n l J hJ hY;refine QP (Zj hJ ?_);refine uB qg ?_;refine dQ ?_;refine Cb (fun k:Nat=>kn 24 [(0,dv (.lit (.func (.yield l) #[] #[]))),(2,dv (.pt [lu s])),(7,dv (.sl 3 (xs.map Stp.enc))),(8,dv (li xs.length)),(9,dv (li k))] qA) (fun k=>some ((xs.take k).filter fun x=>gh s x.src).length) (fun k=>k<=xs.length) (fun k=>xs.length - k) 0 (cX rfl oe) rfl oa ?_;intro k hk;refine QP (Zj hJ ?_);refine uB qg ?_;refine QP ?_;refine ZP ow ?_ ?_
 ·intro hc;have hk':k<xs.length:=og;refine eJ ?_;simp +decide only[go_sem];have hw:=zx k oa;obtain⟨x,hx⟩: ∃x,xs[k]? =some x:=⟨_,wa hk'⟩;have qd0:=Cw (q:=fun x=>gh s x.src) hx;have hH:=qci s x.src;refine QP ?_;refine dQ ?_;refine QP (Pu hJ ?_);refine uB qg ?_;refine⟨_,DS.Sub.trans (QK 5 (Stp.enc x) (by simp[Stp.enc]) (by simp +decide only[go_sem,Stp.enc])) (vU (N:=24) (sls:=[(0,dv (.lit (.func (.yield l) #[] #[]))),(2,dv (.pt [lu s])),(7,dv (.sl 3 (xs.map Stp.enc))),(8,dv (li xs.length)),(9,dv (li k)),(5,dv (.pt (Stp.enc x)))]) (bx:=qA) rfl (by simp +decide only[go_sem,Stp.enc]) (by simp[qA])),?_⟩;refine qbw (s':=kn 24 [(0,dv (.lit (.func (.yield l) #[] #[]))),(2,dv (.pt [lu s])),(7,dv (.sl 3 (xs.map Stp.enc))),(8,dv (li xs.length)),(9,dv (li k)),(5,dv (.pt (Stp.enc x)))] qA) (cX rfl oe) ?_;refine QP ?_;refine o0 hJ hY 7 rfl om ?_;simp only[wV,wy,yh,yC,wo,wm];simp +decide only[go_sem,Stp.enc]
  (first|refine kx hH ?_);simp +decide only[go_sem]
  have lH:gh s x.src=true->((xs.filter fun x=>gh s x.src).map fun x=>[D.agg x.row])[((xs.take k).filter fun x=>gh s x.src).length]? =some [D.agg [.c (li x.src),.c (li x.cls),.c (li x.dst)]]:=fun h=>by rw[wh,rL (q:=fun x=>gh s x.src) hx h];rfl
  generalize ((xs.take k).filter fun x=>gh s x.src).length=m at*
  cases h1:gh s x.src
  ·simp +decide only[go_sem];refine⟨false,by simp +decide only[go_sem,vX],fun _=>?_,fun h=>(by cases h)⟩;simp +decide only[go_sem];refine ZP ow (fun h=>by cases h) (fun _=>eJ ?_);simp +decide only[go_sem];refine Zj hJ ?_;refine uB qg ?_;exact⟨k+1,oa,oa,cX rfl oe,by rw[qd0,h1];rfl⟩
  ·have hg:=lH h1;simp +decide only[go_sem];refine⟨true,by simp +decide only[go_sem,vX],fun h=>(by cases h),fun _=>⟨_,_,_,_,_,rfl,oe,rfl,hg,DLeL.of_eq oe,fun b=>?_⟩⟩;simp +decide only[go_sem];cases b
   ·refine ZP ow (fun _=>Hw ?_) (fun h=>by cases h);simp +decide only[go_sem];exact .inr rfl
   ·refine ZP ow (fun h=>by cases h) (fun _=>eJ ?_);simp +decide only[go_sem];refine Zj hJ ?_;refine uB qg ?_;exact⟨k+1,oa,oa,cX rfl oe,by rw[qd0,h1];rfl⟩
 ·intro hc;have hk':k=xs.length:=og;refine Cc ?_;simp +decide only[go_sem];simp[Jh,hk']
def C2(xs:List Stp)(s c:Int):cF xs s c=(xs.filter fun x=>gh s x.src).foldl (fun out x=>if(x.cls==c)=true then cN out x.dst else out) 0:=by rw[List.foldl_filter];unfold cF;congr 1;funext out x;cases gh s x.src<;>cases x.cls==c<;>rfl
def WO(c0:C)(xs:List Stp)(c2:C)(s c:Int)(hl:xs.length<=1048576):DCalls pP 239 [.agg [.c c0,.c (.sl 3 (xs.map Stp.enc)),.c c2],dv (lu s),dv (li c)] (dv (lu (cF xs s c))):=by
 have hS:=T4 c0 xs c2 s;rw[C2];generalize XR:(xs.filter fun x=>gh s x.src)=ys;have hq:=NJ c0 xs c2 s hl;rw[XR]at hq;refine kd (N:=22) (rs:=[.tmp 6]) func239 ?_;refine uB qg ?_
 (first|refine kx hS ?_);simp +decide only[go_sem]
 refine uB qg ?_;refine Q3 5 [li c] oh oe ?_;refine Yw 22 zi [7] (fun k (_:Unit)=>kn 22 [(5,dv (.pt [li c])),(7,.one (.bx 7 1 0 0))] (ml [(7,[[.c (lu ((ys.take k).foldl (fun out x=>if(x.cls==c)=true then cN out x.dst else out) 0))]])])) (fun _ _=>True) () trivial rfl rfl oo oC hq
  (km (by simp +decide only[go_sem,wy,yj])) (fun _ _=>rfl) (by intro ds h;obtain⟨c,_,rfl⟩:=wN.1 h;rfl) ?_ ?_
 ·intro k ds _ hk _;simp only[wh,wK]at hk;obtain⟨x,hx,rfl⟩:=hk;have vO:(ys.take (k+1)).foldl (fun out x=>if(x.cls==c)=true then cN out x.dst else out) 0=if(x.cls==c)=true then cN ((ys.take k).foldl (fun out x=>if(x.cls==c)=true then cN out x.dst else out) 0) x.dst else(ys.take k).foldl (fun out x=>if(x.cls==c)=true then cN out x.dst else out) 0:=by rw[yV,hx,yZ];rfl
  rw[vO];generalize (ys.take k).foldl (fun out x=>if(x.cls==c)=true then cN out x.dst else out) 0=F;have hW:=ID F x.dst;cases t1:x.cls==c
  all_goals
   (repeat' first|(first|refine qC ?_|refine kx hW ?_|apply kU);simp only[go_sem,Stp.row,t1]|apply kh<;>intro qe)
   exact⟨(),Zb⟩
 ·intro _ _;rw[wn,wc];refine uB qg ?_;apply qb;simp +decide only[go_sem]
attribute [local irreducible] cF bA
def qeF(c0:C)(xs:List Stp)(c2:C)(l:List Int)(hl:xs.length<=1048576)(ga:l.length<=1048576):DCalls pP 207 [.agg [.c c0,.c (.sl 3 (xs.map Stp.enc)),.c c2],dv (.sl 1 (ints l))] (dv (lu (l.foldl (cF xs) 1))):=by
 have qi:=qo;refine dX (N:=20) (rs:=[.tmp 4]) qg func207 ?_;refine gk ?_;refine lp l [2,8,9] [2] (fun k=>[(5,dv (lu ((l.take k).foldl (cF xs) 1))),(10,dv (li k))]) (fun _=>[]) (fun k=>True) trivial ?_ ?_ (h0:=by simp +decide only[go_sem,wy])
 ·intro k q hx hk hm qs qf hww _;have hA:=WO c0 xs c2 ((l.take k).foldl (cF xs) 1) q hl;rw[qs,yZ,yE,yj];generalize (l.take k).foldl (cF xs) 1=F at*
  clear hm qs;exact gA
 intro qf hv;rw[wc];exact gA
abbrev qeY:Dl.PL:=fun|1=> Dl.ll 0 4 ((4,.step)::Dl.ll 5 3 [])|_=>[]
def Mu(c0:C)(xs:List Stp)(f l:List Int)(hl:xs.length<=1048576)(hf:f.length<=1048576)(ga:l.length<=1048576):DCalls pP 172 [.agg [.c c0,.c (.sl 3 (xs.map Stp.enc)),.c (.sl 1 (ints f))],dv (.sl 1 (ints l))] (dv (lb (nI xs f l))):=by have hR:=qeF c0 xs (.sl 1 (ints f)) l hl ga;have hF:=Wa c0 (.sl 3 (xs.map Stp.enc)) f hf;unfold nI;refine dX (N:=12) (rs:=[.tmp 4]) qeY func172 ?_;exact gA
attribute [local go_sem] vp Lnk.enc Rul.enc Rul.row qj Stp.enc Stp.row Prt.enc Prt.row Ent.row Ent.enc Zf
theorem uS(l:List Ent)(id:Int):vz l id=Zl l id:=rfl
def gj(l:List Ent)(id:Int):(vz l id).1∈l\/(vz l id).1=cS:=by
 unfold vz;split
 ·grind
 ·simp
def LV(l:List Ent)(ha: ∀e∈l,e.alts.length<=1000000)(id:Int):(vz l id).1.alts.length<=1048576:=by
 rcases gj l id with h|h
 ·grind
 ·rw[h];simp[cS]
def LX(l:List Ent)(p:Prt)(ha: ∀e∈l,e.form.length<=1000000/\∀w∈e.alts,w.length<=1000000):(cY l p).length<=1000000:=by
 unfold cY;have key: ∀e:Ent,e.form.length<=1000000->(∀w∈e.alts,w.length<=1000000)->(((QR e)[p.alt.toNat]?).getD []).length<=1000000:=fun e h1 h2=>by
  cases hx:(QR e)[p.alt.toNat]? with
  | none=>simp
  | some w=>
   rw[yJ];rcases wJ.1 (ww hx)with h|h
   ·grind
   ·grind
 rcases gj l p.ent with h|h
 ·grind
 ·rw[h];exact key _ (by simp[cS]) (by simp[cS])
def qfd:DLe (.one (.c (.lit (.slice none 0 0)))) (.one (.c (.sl 1 (ints [])))):=by simp only[go_sem,wm]
def HS(g:Lg)(p:Prt)(hl:g.lex.length<=1000000)(ha: ∀e∈g.lex,e.alts.length<=1000000):DCalls pP 171 [.agg g.row,.agg p.row] (.tup [.agg (vz g.lex p.ent).1.row,dv (.sl 1 (ints (if cy g.lex p=true then cY g.lex p else []))),dv (lb (cy g.lex p))]):=by
 have hG:=rK g.lex p.ent hl;rw[<-uS]at hG;obtain⟨e,b,he⟩: ∃e b,vz g.lex p.ent=(e,b):=⟨_,_,rfl⟩;have hfb:cy g.lex p=(b&&decide (0<=p.alt)&&decide (p.alt<((ZT e).length:Int))):=by unfold cy;rw[he];rfl
 have hfa:cY g.lex p=((ZT e)[p.alt.toNat]?).getD []:=by unfold cY;rw[he];rfl
 have hF:=uV e (by have:=LV g.lex ha p.ent;rw[he]at this;exact this);rw[he]at hG ⊢;clear he;simp only[Ent.row]at hF hG;simp only[Lg.row,eD,eF,wD,wI];generalize cY g.lex p=fa at*
 generalize cy g.lex p=fb at*
 cases fb
 ·simp only[yq,ap];replace hfb:b=true->p.alt<0\/((ZT e).length:Int)<=p.alt:=fun hb=>by rw[hb]at hfb;simp at hfb;omega
  refine dX (N:=41) (rs:=[.cell 4 77,.tmp 5,.tmp 6]) qg func171 ?_;repeat' first|refine gQ ?_|exact gU|refine gS ?_|exact gT|(first|apply xc|apply gf|apply gt)<;>intro hc
  all_goals first|exact⟨qfd,DLe.rfl_ _⟩|(exfalso;grind)
 ·have h1:b=true/\0<=p.alt/\p.alt<((ZT e).length:Int):=by grind
  clear hfb;obtain⟨rfl,h2,h3⟩:=h1;obtain⟨w,hw⟩: ∃w,(ZT e)[p.alt.toNat]? =some w:=⟨_,wa oa⟩;rw[hw,yJ]at hfa;subst hfa;have n1: ¬p.alt<0:=oa;have n2: ¬((ZT e).length:Int)<=p.alt:=oa;simp only[an];refine dX (N:=41) (rs:=[.cell 4 77,.tmp 5,.tmp 6]) qg func171 ?_;refine gB ?_;refine xd ?_;apply Zn (id:=5) (N:=41) [] [[],[],[],[2],[1,3],[4],[0,0],[5,6,0,1,2,3,4,5,6],[7,0,1,2,3,4,5,6,7]] (.bl 1 (.bl 2 (.two 0 (.two 3 (.two 4 (.two 5 (.run [6,7,8] .leaf) 6 (.run [5,7,8] .leaf)) 6 (.run [4,5,7,8] .leaf)) 6 (.run [3,4,5,7,8] .leaf)) 3 (.two 0 (.two 4 (.two 5 (.run [6,7,8] .leaf) 6 (.run [5,7,8] .leaf)) 6 (.run [4,5,7,8] .leaf)) 4 (.two 0 (.two 5 (.run [6,7,8] .leaf) 6 (.run [5,7,8] .leaf)) 5 (.run [0,6,7,8] .leaf))))));kernel_rfl;rfl;kernel_rfl;kernel_rfl;simp -implicitDefEqProofs only[go_sem, *]
def Me(g:Lg)(a:List Prt)(hl:g.lex.length<=1000000)(ha: ∀e∈g.lex,e.alts.length<=1000000)(hn:a.length<=1048576):DCalls pP 173 [.agg g.row,.agg [.c (Zf a)]] (dv (.sl 1 (ints (pL g.lex a)))):=by
 have qi:=qo;have hF:=fun p=>HS g p hl ha;simp only[Lg.row,eD,eF,wD,wI]at hF ⊢;refine dX (N:=33) (rs:=[.tmp 4]) qg func173 ?_;refine gB ?_;refine xo 5 5 1 ?_;refine lp a [2,12,13] [2] (fun k=>[(5,.one (.own 5 1 (ints (pL g.lex (a.take k))))),(14,dv (li k))]) (fun _=>[]) (fun k=>(pL g.lex (a.take k)).length<=k) (wl _) ?_ ?_ (h0:=by simp +decide only[go_sem,pL,wy,ja])
 ·intro k p hp hk hm qs qf hw hv;have hF:=hF p;have vO:pL g.lex (a.take (k+1))=pL g.lex (a.take k)++(if cy g.lex p=true then [(vz g.lex p.ent).1.cls]else []):=by rw[qs];unfold pL;rw[jm,jA,ja,yG]
  rw[vO];generalize pL g.lex (a.take k)=q at*
  generalize vz g.lex p.ent=eb at*
  generalize cy g.lex p=b at*
  generalize cY g.lex p=fa at*
  have lE:(q.length+1)*8<=140737488355328:=oa;clear hm qs vO;cases b
  ·refine gB ?_;all_goals exact gJ
  ·refine gB ?_;all_goals exact gJ
 intro qf hv;rw[wc];exact gA
def SB(g:Lg)(a:List Prt)(hl:g.lex.length<=1000000)(ha: ∀e∈g.lex,e.alts.length<=1000000/\e.form.length<=1000000/\∀w∈e.alts,w.length<=1000000)(hn:a.length<=1000000):DCalls pP 174 [.agg g.row,.agg [.c (Zf a)]] (dv (.sl 1 (ints (ZY g.lex a)))):=by
 have qi:=qo;have hF:=fun p=>HS g p hl fun e he=>(ha e he).1;have hA:=fun p=>LX g.lex p fun e he=>(ha e he).2;simp only[Lg.row,eD,eF,wD,wI]at hF ⊢;refine dX (N:=31) (rs:=[.tmp 4]) qg func174 ?_;refine gB ?_;refine xo 5 5 1 ?_;refine lp a [2,12,13] [2] (fun k=>[(5,.one (.own 5 1 (ints (ZY g.lex (a.take k))))),(14,dv (li k))]) (fun _=>[]) (fun k=>(ZY g.lex (a.take k)).length<=k*1000000) (wM _) ?_ ?_ (h0:=by simp +decide only[go_sem,ZY,wy,ja])
 ·intro k p hp hk hm qs qf hw hv;have hF:=hF p;have hA:=hA p;have vO:ZY g.lex (a.take (k+1))=ZY g.lex (a.take k)++(if cy g.lex p=true then cY g.lex p else []):=by rw[qs];unfold ZY;rw[jm,jA,ja,yG]
  rw[vO];generalize ZY g.lex (a.take k)=q at*
  generalize vz g.lex p.ent=eb at*
  generalize cy g.lex p=b at*
  generalize cY g.lex p=fa at*
  have lE:(q.length+fa.length)*8<=140737488355328:=oa;have sa:(q++fa).length<=(k+1)*1000000/\q.length<=(k+1)*1000000:=og;clear hm qs vO hA;cases b
  ·refine gB ?_;all_goals exact gJ
  ·refine gB ?_;all_goals exact gJ
 intro qf hv;rw[wc];exact gA
end
def L6(s:ByteArray)(a b:Nat):ByteArray:=s.extract a b
def tp(us:List Unt)(t:ByteArray):Option Nat:=us.findIdx? fun u=>u.graph==t
def iA(us:List Unt)(s:ByteArray)(at_:Nat):Nat->Option (Nat×Nat)
 | 0=>none
 | n+1=>match tp us (L6 s at_ (at_+(n+1)))with
  | some i=>some (i,n+1)
  | none=>iA us s at_ n
def mostU(us:List Unt):Nat:=us.foldl (fun m u=>max m u.graph.size) 0
def Qc(us:List Unt)(s:ByteArray):Nat->Nat->List Int->List Int×Nat
 | 0,a,out=>(out,a)
 | f+1,a,out=>if s.size<=a then(out,a)else match iA us s a (min (mostU us) (s.size - a))with
  | some (i,n)=>Qc us s f (a+n) (out++[(i:Int)])
  | none=>(out,a)
def bu(us:List Unt)(l:List Int):List Int:=l.flatMap fun i=>(((us[i.toNat]?).map (·.segs)).getD [])
def a8(us:List Unt)(s:ByteArray):List Int×Int×Int:=
 if s.size=0 then([],0,4)else
  if(Qc us s s.size 0 []).2<s.size then([],((Qc us s s.size 0 []).2:Int),20)else
   if 24<(bu us (Qc us s s.size 0 []).1).length then([],0,5)else(bu us (Qc us s s.size 0 []).1,0,0)
def vY{α σ:Type}(f:α->σ->Bool×σ):List α->σ->Bool×σ
 | [],s=>(true,s)
 | x::l,s=>if(f x s).1=true then vY f l (f x s).2 else(false,(f x s).2)
def Sc(a b:Prt):Int:=qdM (Zo a.ent b.ent) (Zo a.alt b.alt) (Zo a.sns b.sns)
def xi:List Prt->List Prt->Int
 | [],[]=>0
 | [],_::_=> -1
 | _::_,[]=>1
 | a::l,b::m=>if Sc a b≠0 then Sc a b else xi l m
def Z8(a b:List Prt):Bool:=decide (xi a b<0)
abbrev eg:=List (List Prt)×Bool
def Am(a:List Prt)(s:eg):Bool×eg:=if s.1.length=200 then(false,(s.1,true))else(true,(vF (fun y=>Z8 a y) s.1 a,s.2))
def cI(ps:List Prt)(i k:Nat):List Prt:=ps.set i ⟨((ps[i]?).getD ⟨0,0,0⟩).ent,((ps[i]?).getD ⟨0,0,0⟩).alt,k⟩
def spG(l:List Ent):Nat->Nat->List Prt->eg->Bool×eg
 | 0,_,ps,s=>Am ps s
 | f+1,i,ps,s=>vY (fun k s=>spG l f (i+1) (cI ps i k) s) (wR (Zy l ((ps[i]?).getD ⟨0,0,0⟩).ent).length) s
def T8(l:List Ent)(ps:List Prt)(s:eg):Bool×eg:=spG l ps.length 0 ps s
def VW(s q:Int):Bool:=QT .and .u32 (sF .shr .u32 s q) 1==1
def Ap(s q:Int):Int:=QT .or .u32 s (sF .shl .u32 1 q)
def afterA(st:List Stp)(s c:Int):Int:=st.foldl (fun out x=>if(x.cls==c&&VW s x.src)=true then Ap out x.dst else out) 0
def ZV(f:List Int):Int:=f.foldl Ap 0
def oH(rs:List Rul):Bool:=rs.any fun r=>r.dst.any fun x=>x==0
def iH(g:Lg)(w base:List Int):Bool:=decide (0<(Zi g.inv g.rules base).length)&&decide (Zi g.inv g.rules base=w)
def C6(g:Lg)(w:List Int):Nat->List Prt->Int->List Int->eg->Bool×eg
 | 0,_,_,_,s=>(true,s)
 | f+1,ps,q,b,s=>
  vY (fun(k:Bool) s=>if k=true then
    (if(decide (0<ps.length)&&(QT .and .u32 q (ZV g.fin)!=0&&(decide (w.length<=b.length)&&iH g w b)))=true then T8 g.lex ps s else(true,s))
   else if ps.length=4 then(true,s)else
    vY (fun e s=>if(afterA g.steps q e.cls=0\/(Zy g.lex e.id).length=0)then(true,s)else
     vY (fun(p:List Int×Nat) s=>if 24<b.length+p.1.length\/(oH g.rules=false/\w.length<b.length+p.1.length)then(true,s)
      else C6 g w f (ps++[⟨e.id,p.2,0⟩]) (afterA g.steps q e.cls) (b++p.1) s) (QR e).zipIdx s) g.lex s) [true,false] s
def tF(g:Lg)(w:List Int):eg:=if w.length=0\/24<w.length then([],false)else(C6 g w 5 [] 1 [] ([],false)).2
def s7(g:List Phon)(w:List Int):Int:=if w.length=0 then 4 else if 24<w.length then 5 else if(w.any fun n=> !N0 g n)=true then 19 else 0
def Ms(g:Lg)(w:List Int):List (List Prt)×Int:=if s7 g.inv w≠0 then([],s7 g.inv w)else if(tF g w).2=true then([],11)else((tF g w).1,0)
def iO(g:Lg)(s:ByteArray):List (List Prt)×Int:=if(a8 g.units s).2.2≠0 then([],(a8 g.units s).2.2)else Ms g (a8 g.units s).1
def dK(l:List Dcs)(r:Rf):Option (List Prt):=(l.find? fun d=>decide (d.ref=r)&&d.yes).map (·.pick)
def Ec(l:List Dcs)(r:Rf)(a:List Prt):Bool:=l.any fun d=>decide (d.ref=r)&&(!d.yes&&decide (d.pick=a))
def iu(g:Lg)(r:Rf)(s:ByteArray)(l:List Dcs):List (List Prt)×Int:=if(iO g s).2≠0 then([],(iO g s).2)else((iO g s).1.filter fun a=> !Ec l r a,0)
def EJ(g:Lg)(s:ByteArray)(a:List Prt):Bool:=decide ((a8 g.units s).2.2=0)&&Pi g (a8 g.units s).1 a
def vI(g:Lg)(r:Rf)(s:ByteArray)(l:List Dcs):Sta:=match dK l r with
 | some a=>if EJ g s a=true then⟨r,4,a⟩else⟨r,5,a⟩
 | none=>if(iu g r s l).2=11\/1<(iu g r s l).1.length then⟨r,3,[]⟩else if(iu g r s l).2≠0 then⟨r,0,[]⟩else match (iu g r s l).1 with
  | [a]=>⟨r,2,a⟩
  | _=>⟨r,1,[]⟩
def Kh{l:List Dcs}(h: ∀d∈l,d.ref≠r):vI g r s l=vI g r s []:=by
 have h1:dK l r=none:=by unfold dK;grind
 have h2: ∀a,Ec l r a=Ec [] r a:=fun a=>by
  have:Ec l r a=false:=yY.2 fun d hd=>by simp[h d hd]
  rw[this];rfl
 have h3:iu g r s l=iu g r s []:=by unfold iu;simp only[h2]
 unfold vI;rw[h1,h3];rfl
def DK(g:Lg)(r r':Rf)(s:ByteArray):(⟨r',(vI g r s []).kind,(vI g r s []).pick⟩:Sta)=vI g r' s []:=by have h3:iu g r s []=iu g r' s []:=rfl;unfold vI;rw[h3];have h1: ∀r:Rf,dK [] r=none:=fun _=>rfl;grind
def fc(g:Lg)(l:List Dcs)(rc:Int):Svc (List Prt) where
 st:=fun w t=>((vI g ⟨rc,w⟩ t l).kind,(vI g ⟨rc,w⟩ t l).pick)
 lic:=EJ g
 lin:=QZ g
 len:=List.length
def nY(H:LgT g)(l:List Dcs)(rc:Int):LinOk (fc g l rc) (fun s=>Qh s=0):=
 ⟨fun a h=>by obtain⟨h1,h2,h3,h4,_⟩:=sH H h;exact⟨h1,h2,h3,h4⟩,fun a h=>(sH H h).2.2.2.2.1,fun a h=>(sH H h).2.2.2.2.2⟩
section
attribute [local go_sem] vp Rul.row Rul.enc
def qck(xs:List Int)(c:Int)(hl:xs.length<=1048576):DCalls pP 257 [dv (.sl 1 (ints xs)),dv (li c)] (dv (lb (xs.any fun x=>x==c))):=by
 have qi:=qo;obtain⟨R,hR⟩: ∃R,R=xs.any fun x=>x==c:=⟨_,rfl⟩
 rw[<-hR];replace hR:Kp _:=⟨hR⟩;refine dX (N:=17) (rs:=[.tmp 4]) qg func257 ?_;refine gB ?_;refine lp xs [1,7,8] [] (fun k=>[(9,dv (li k))]) (fun _=>[]) (fun k=>∀x∈xs.take k,(x==c)=false) oh ?_ ?_
 ·intro k x hx bw hm qs qf hw hv;have h9:(x==c)=true->R=true:=fun h=>by rw[hR.1,yK];exact⟨x,hm,h⟩
  have Q5:(x==c)=false->∀y∈xs.take (k+1),(y==c)=false:=fun h y hy=>by
   rw[qs,wF]at hy;rcases hy with hy|hy
   ·grind
   ·grind
  clear hR qs hm hv;replace h9:Kp _:=⟨h9⟩;replace Q5:Kp _:=⟨Q5⟩;refine gC ?_ ?_<;>intro hc;all_goals first|exact⟨Q5.1 (by assumption),qJ⟩|exact iq (h9.1 (by assumption)).symm|exact iq (h9.1 (by assumption))
 ·intro qf hv;rw[wc]at hv;have h1:R=false:=by rw[hR.1,yY];exact fun x hx=>by simp[hv x hx]
  subst h1;clear hR hv;exact gA
def qaC(rs:List Rul)(hl:rs.length<=1048576)(hd: ∀r∈rs,r.dst.length<=1048576):DCalls pP 251 [dv (.sl 6 (rs.map Rul.enc))] (dv (lb (oH rs))):=by
 have qi:=qo;obtain⟨R,hR⟩: ∃R,R=oH rs:=⟨_,rfl⟩;rw[<-hR];replace hR:Kp _:=⟨hR⟩;replace hd:Kp _:=⟨hd⟩;refine dX (N:=15) (rs:=[.tmp 2]) qg func251 ?_;refine gB ?_;refine lp rs [5,6] [] (fun k=>[(7,dv (li k))]) (fun _=>[]) (fun k=>∀x∈rs.take k,(x.dst.any fun x=>x==0)=false) oh ?_ ?_
 ·intro k x hx bw hm qs qf hw hv;have hA:=qck x.dst 0 (hd.1 x hm);have h9:(x.dst.any fun x=>x==0)=true->R=true:=fun h=>by rw[hR.1,oH,yK];exact⟨x,hm,h⟩
  have Q5:(x.dst.any fun x=>x==0)=false->∀y∈rs.take (k+1),(y.dst.any fun x=>x==0)=false:=fun h y hy=>by
   rw[qs,wF]at hy;rcases hy with hy|hy
   ·grind
   ·grind
  clear hR qs hm hv;generalize (x.dst.any fun x=>x==0)=b at*
  replace h9:Kp _:=⟨h9⟩;replace Q5:Kp _:=⟨Q5⟩;cases b
  ·refine gB ?_;exact⟨Q5.1 rfl,qJ⟩
  ·have hRt:=h9.1 rfl;subst hRt;clear h9;exact gA
 ·intro qf hv;rw[wc]at hv;have h1:R=false:=by rw[hR.1,oH,yY];exact fun x hx=>by rw[hv x hx];simp
  subst h1;clear hR hv;exact gA
attribute [local go_sem] vp Stp.enc Stp.row
def Ag(b:List Int):List (List C):=b.map fun n=>[.lit (.int .u8 (IntKind.u8.wrap n))]
def ur(b:List Int):ByteArray:=⟨(b.map fun n=>UInt8.ofNat (IntKind.u8.wrap n).toNat).toArray⟩
def Mh(h:b.take (k+1)=b.take k++[x]):Ag (b.take (k+1))=Ag (b.take k)++[[.lit (.int .u8 (IntKind.u8.wrap x))]]:=by rw[h];simp[Ag]
def Ss(b:List Int):(Ag b).length=b.length:=by simp[Ag]
def GF(b:List Int):fM (Ag b)=some (b.map fun n=>UInt8.ofNat (IntKind.u8.wrap n).toNat):=by
 induction b with
 | nil=>rfl
 | cons x b ih=>
  show(Bs _).bind _=_;have ih:fM (b.map fun n=>[C.lit (.int .u8 (IntKind.u8.wrap n))])=some (b.map fun n=>UInt8.ofNat (IntKind.u8.wrap n).toNat):=ih;simp only[Bs,yT,ih,yO,wo]
def dj(b:List Int):Prop:=∀x∈b,0<=x/\x<256
def Pr{a:List Int}(ha:dj a)(hb:dj b)(h:ur a=ur b):a=b:=by
 have h1:(a.map fun n=>UInt8.ofNat (IntKind.u8.wrap n).toNat)=b.map fun n=>UInt8.ofNat (IntKind.u8.wrap n).toNat:=by
  unfold ur at h;injection h with h
  exact List.toArray_inj h
 have key: ∀{a b:List Int},dj a->dj b->(a.map fun n=>UInt8.ofNat (IntKind.u8.wrap n).toNat)=(b.map fun n=>UInt8.ofNat (IntKind.u8.wrap n).toNat)->a=b:=by
  intro a;induction a with
  | nil=>intro b _ _ h;cases b with|nil=>rfl|cons _ _=>simp at h
  | cons x a ih=>
   intro b ha hb h;cases b with
   | nil=>simp at h
   | cons y b=>
    simp only[wo,List.cons.injEq]at h;have hx:=ha x oh;have hy:=hb y oh;have e: ∀z:Int,0<=z/\z<256->(UInt8.ofNat (IntKind.u8.wrap z).toNat).toNat=z.toNat:=fun z hz=>by
     have:IntKind.u8.wrap z=z:=by have e1:IntKind.u8.wrap z=z % 256:=rfl;rw[e1];omega
     rw[this];simp;omega
    have h2:=af UInt8.toNat h.1;rw[e x hx,e y hy]at h2;rw[show x=y by omega,ih (fun z hz=>ha z (by simp[hz])) (fun z hz=>hb z (by simp[hz])) h.2]
 exact key ha hb h1
def qfx(b:List Int)(hl:b.length<=1048576):DCalls pP 264 [dv (.sl 1 (ints b))] (dv (ls (ur b))):=by
 have qi:=qo;have hu:Tryz.t5=Tryz.t5:=rfl;refine dX (N:=23) (rs:=[.tmp 2]) qg func264 ?_;refine gB ?_;refine StepC.mk (Step.makeOwn (c:=b.length) (e:=5) (z:=[T.c (.lit (.int .u8 0))]) (inf:=Tryz.t5) (kx:=.i64) (ky:=.i64) rfl rfl om om om oo om oe oe ot (by rw[show Tryz.t5.bytes=1 by kernel_rfl];omega) oa ?_);refine gB ?_;refine lp b [9,10] [] (fun k=>[(3,.one (.own 8 1 (Ag (b.take k)))),(11,dv (li k))]) (fun _=>[]) (fun _=>True) trivial ?_ ?_ (h0:=by simp +decide only[go_sem,Ag,wy,wm])
 ·intro k x hx hk hm qs qf hw _;have hr:=Mh qs;have ga:=Ss (b.take k);rw[ym]at ga;rw[hr];generalize Ag (b.take k)=L at*
  have vd:L.length<=140737488355327:=oa;clear hm qs hr ga;exact gA
 intro qf _;rw[wc];have hB:=GF b;have hk:ur b=⟨(b.map fun n=>UInt8.ofNat (IntKind.u8.wrap n).toNat).toArray⟩:=rfl;rw[hk];generalize (b.map fun n=>UInt8.ofNat (IntKind.u8.wrap n).toNat)=B at*
 generalize Ag b=L at*
 clear hk;exact gA
def su(a b:Nat):T:=.fv 233 [.bx a 1 0 0,.bx b 1 0 0]
def ZO(g:Lg):List C:=[.sl 2 (g.inv.map Phon.enc),ls g.nm,.sl 2 (g.units.map Unt.enc),.sl 1 (g.letters.map Z2),.sl 6 (g.rules.map Rul.enc),li g.states,.sl 3 (g.steps.map Stp.enc),.sl 1 (ints g.fin),.sl 8 (g.lex.map Ent.enc)]
def pu(g:Lg)(d:Nat):T:=.fv 236 [.c (.pt (ZO g)),.bx d 1 0 0]
def fJ(g:Lg)(w:List Int)(bm d:Nat):List T:=[.c (.sl 2 (g.inv.map Phon.enc)),.c (ls g.nm),.c (.sl 2 (g.units.map Unt.enc)),.c (.sl 1 (g.letters.map Z2)),.c (.sl 6 (g.rules.map Rul.enc)),.c (li g.states),.c (.sl 3 (g.steps.map Stp.enc)),.c (.sl 1 (ints g.fin)),.c (.sl 8 (g.lex.map Ent.enc)),.c (.sl 1 (ints w)),.c (lb (oH g.rules)),.c (lu (ZV g.fin)),.c (.lit (.map (some bm))),pu g d]
def zf(p:List Prt):List C:=[Zf p]
def mA(a b:Nat)(s:eg)(j:Nat):List (Nat×Dl.Rows):=[(a,[[.ba 1000 1 0 s.1.length (s.1.length+j)]]),(b,[[.c (lb s.2)]]),(1000,cr (s.1.map zf)++qa j 1)]
def mD(a b d:Nat)(s:eg)(j:Nat):List (Nat×Dl.Rows):=(d,[[su a b]])::mA a b s j
def mS(a b d r:Nat)(g:Lg)(w:List Int)(bm:Nat)(s:eg)(j:Nat):List (Nat×Dl.Rows):=(r,[fJ g w bm d])::mD a b d s j
structure Dis(a b d r:Nat):Prop where
 ab: ¬a=b
 ba: ¬b=a
 ad: ¬a=d
 da: ¬d=a
 ar: ¬a=r
 ra: ¬r=a
 bd: ¬b=d
 db: ¬d=b
 br: ¬b=r
 rb: ¬r=b
 dr: ¬d=r
 rd: ¬r=d
def Dis.mk'{b d r:Nat}(h1:a≠b)(h2:a≠d)(h3:a≠r)(h4:b≠d)(h5:b≠r)(h6:d≠r):Dis a b d r:=⟨h1,h1.symm,h2,h2.symm,h3,h3.symm,h4,h4.symm,h5,h5.symm,h6,h6.symm⟩
def Dis.up{b d r:Nat}(h:Dis a b d r):Dis (a+NB) (b+NB) (d+NB) (r+NB):=by obtain⟨h1,_,h2,_,h3,_,h4,_,h5,_,h6,_⟩:=h;exact Dis.mk' oa oa oa oa oa oa
attribute [local go_sem] mA mD mS su pu fJ ZO
def SH{a b d r:Nat}(hd:Dis a b d r)(g:Lg)(w:List Int)(bm:Nat)(y:eg)(j:Nat)(s c:Int)(hl:g.steps.length<=1048576)(hp: ∀x∈g.steps,0<=x.src/\0<=x.dst):ECalls pP 259 [.one (.bx (r+NB) 14 0 0),dv (lu s),dv (li c)] (ml (mS (a+NB) (b+NB) (d+NB) (r+NB) g w bm y j))
  (fun q H'=>q=dv (lu (afterA g.steps s c))/\AllM H' (mS (a+NB) (b+NB) (d+NB) (r+NB) g w bm y j)):=by
 have qi:=qo;obtain⟨ab,ba,ad,da,ar,ra,bd,db,br,rb,dr,rd⟩:=hd;generalize VA:g.steps=xs at*
 refine eX (N:=40) (rs:=[.tmp 6]) qg func259 ?_;simp only[mA,mD,mS,fJ,VA];refine gB ?_;refine lp xs [1,2,15,16] [r+NB,d+NB,a+NB,b+NB,1000] (fun k=>[(7,dv (lu (afterA (xs.take k) s c))),(17,dv (li k))]) (fun _=>[]) (fun _=>True) trivial ?_ ?_ (h0:=by simp +decide only[go_sem,afterA,wy,yj]) (uO:=by(simp +decide only[go_sem, *];rfl))
 ·intro k x hx hk hm qs qf hw _;have hr:afterA (xs.take (k+1)) s c=if(x.cls==c&&VW s x.src)=true then Ap (afterA (xs.take k) s c) x.dst else afterA (xs.take k) s c:=by rw[qs];simp only[afterA,yZ,yE,yj]
  rw[hr];obtain⟨p1,p2⟩:=hp x hm;have n1: ¬x.src<0:=oa;have n2: ¬x.dst<0:=oa;generalize afterA (xs.take k) s c=q at*
  clear hm qs hr hp;rcases wv (x.cls==c)with h1|h1
  ·rcases wv (QT .and .u32 (sF .shr .u32 s x.src) 1==1)with h2|h2
   ·rw[ae (by rw[h1,VW,h2];rfl),Ap];exact gA
   ·rw[j7 (by rw[h1,VW,h2];decide)];exact gA
  ·rw[j7 (by rw[h1];simp)];exact gA
 intro qf _;rw[wc];clear hp;exact gA
attribute [local go_sem] vp Unt.enc Unt.row
def Hj(us:List Unt)(u:Unt):mostU (us++[u])=max (mostU us) u.graph.size:=by unfold mostU;rw[yZ];rfl
def O8(n:Nat): ∀{us:List Unt},(∀u∈us,u.graph.size<=n)->mostU us<=n:=fun {us} h=>by
 unfold mostU;have key: ∀(l:List Unt) (m:Nat),m<=n->(∀u∈l,u.graph.size<=n)->l.foldl (fun m u=>max m u.graph.size) m<=n:=by
  intro l;induction l with
  | nil=>exact fun m h _=>h
  | cons u l ih=>exact fun m h hl=>ih _ (Nat.max_le.2 ⟨h,hl u oh⟩) fun v hv=>hl v (by simp[hv])
 exact key us 0 (wM _) h
def Gq(h:s.size<=a):Qc us s f a out=(out,a):=by
 cases f with
 | zero=>rfl
 | succ f=>rw[Qc,ae h]
def J3(h:iA us s a (min (mostU us) (s.size - a))=none):Qc us s f a out=(out,a):=by
 cases f with
 | zero=>rfl
 | succ f=>
  rw[Qc];split
  ·rfl
  ·rw[h]
def J4{u:Unt}(hu:us[k]? =some u)(hn: ∀v∈us.take k,(v.graph==t)=false)(h:(u.graph==t)=true):tp us t=some k:=by unfold tp;obtain⟨hk,e⟩:=wg.1 hu;rw[List.findIdx?_eq_some_iff_getElem];refine⟨hk,by rw[e];exact h,fun j hj=>?_⟩;have:=hn us[j] (yM.2 ⟨j,by rw[jt hj];exact wa oa⟩);simpa using this
def Dw(hn: ∀v∈us,(v.graph==t)=false):tp us t=none:=by unfold tp;rw[List.findIdx?_eq_none_iff];exact hn
abbrev qeZ:Dl.PL:=fun|16=> Dl.ll 0 9 []|_=>[]
def TS(nm lt:C)(us:List Unt)(s:ByteArray)(hl:us.length<=1048576)(hg: ∀u∈us,u.graph.size<=1048576)(hs:s.size<=1048576):
  DCalls pP 160 [.agg [.c nm,.c (.sl 2 (us.map Unt.enc)),.c lt],dv (ls s)] (.tup [dv (.sl 1 (ints (Qc us s s.size 0 []).1)),dv (li (Qc us s s.size 0 []).2)]):=by
 have qi:=qo;have hmost:=O8 1048576 hg;refine dX (N:=68) (rs:=[.tmp 4,.tmp 5]) qeZ func160 ?_;simp -implicitDefEqProofs only[go_sem, *];refine WQ ?_;try simp -implicitDefEqProofs only[go_sem, *]
 repeat'((first|refine kq ?_|refine xk ?_|(apply xc<;>intro hc)|(apply gf<;>intro hc)|(apply gt<;>intro hc))<;>simp -implicitDefEqProofs only[go_sem, *])
 refine lp us [1,2,15,16] [2] (fun k=>[(6,dv (li (mostU (us.take k)))),(17,dv (li k))]) (fun _=>[]) (fun k=>True) trivial ?_ ?_ (h0:=by simp +decide only[go_sem,mostU,wy,yj,Int.natCast_zero])
 ·intro k u hu hk hm qs qf hw _;rw[qs,Hj];generalize mostU (us.take k)=m;have VO:(if(m:Int)<(u.graph.size:Int)then(u.graph.size:Int)else(m:Int))=((max m u.graph.size:Nat):Int):=oa;clear hm qs;try simp -implicitDefEqProofs only[go_sem, *]
  repeat'((first|refine kq ?_|refine xk ?_|(apply xc<;>intro hc)|(apply gf<;>intro hc)|(apply gt<;>intro hc))<;>simp -implicitDefEqProofs only[go_sem, *])
  exact qJ
 intro qf _;rw[wc];try simp -implicitDefEqProofs only[go_sem, *]
 repeat'((first|refine kq ?_|refine xk ?_|(apply xc<;>intro hc)|(apply gf<;>intro hc)|(apply gt<;>intro hc))<;>simp -implicitDefEqProofs only[go_sem, *])
 refine WR ?_;try simp -implicitDefEqProofs only[go_sem, *]
 repeat'((first|refine kq ?_|refine xk ?_|(apply xc<;>intro hc)|(apply gf<;>intro hc)|(apply gt<;>intro hc))<;>simp -implicitDefEqProofs only[go_sem, *])
 refine xo 9 9 1 ?_;obtain⟨R,hR⟩: ∃R,R=Qc us s s.size 0 []:=⟨_,rfl⟩;rw[<-hR];refine lw (σ:=Nat×Nat×List Int) [1,2,6] [2] (fun y=>[(9,.one (.own 9 1 (ints y.2.2))),(10,dv (li y.2.1))]) (fun _=>[]) (fun y=>R=Qc us s y.1 y.2.1 y.2.2/\y.2.1<=s.size/\s.size<=y.2.1+y.1/\y.2.2.length<=y.2.1) (fun y=>s.size - y.2.1) (s.size,0,[]) ⟨hR,oh,oh,oh⟩ ?_;clear hR;rintro⟨f,a,out⟩ ⟨h1,h2,h3,h4⟩;simp only at h1 h2 h3 h4;by_cases hz:s.size<=a
 ·rw[Gq hz]at h1;have n0: ¬(a:Int)<s.size:=oa;try simp -implicitDefEqProofs only[go_sem, *]
  repeat'((first|refine kq ?_|refine xk ?_|(apply xc<;>intro hc)|(apply gf<;>intro hc)|(apply gt<;>intro hc))<;>simp -implicitDefEqProofs only[go_sem, *])
 obtain⟨f,rfl⟩: ∃f',f=f'+1:=⟨f - 1,oa⟩;have n0:(a:Int)<s.size:=oa;have hwa:aD .i64 ((s.size:Int) - a)=((s.size - a:Nat):Int):=by rw[wrap_i64 oa oa];omega
 have VP:(if((s.size - a:Nat):Int)<((mostU us:Nat):Int)then((s.size - a:Nat):Int)else((mostU us:Nat):Int))=((min (mostU us) (s.size - a):Nat):Int):=oa;replace h1:Kp _:=⟨h1⟩;try simp -implicitDefEqProofs only[go_sem, *]
 repeat'((first|refine kq ?_|refine xk ?_|(apply xc<;>intro hc)|(apply gf<;>intro hc)|(apply gt<;>intro hc))<;>simp -implicitDefEqProofs only[go_sem, *])
 obtain⟨m,hm⟩: ∃m,m=min (mostU us) (s.size - a):=⟨_,rfl⟩;have hma:a+m<=s.size:=oa;rw[<-hm];refine lw (σ:=Nat) [1,2,6] [2] (fun n=>[(9,.one (.own 9 1 (ints out))),(10,dv (li a)),(11,dv (li n))]) (fun _=>[]) (fun n=>iA us s a m=iA us s a n/\n<=m) (fun n=>n) m ⟨rfl,wl _⟩ ?_;rintro n ⟨g1,g2⟩;cases n with
 | zero=>
  have hf:R=(out,a):=by rw[h1.h];exact J3 (by rw[<-hm,g1];rfl)
  clear h1 g1;try simp -implicitDefEqProofs only[go_sem, *]
  repeat'((first|refine kq ?_|refine xk ?_|(apply xc<;>intro hc)|(apply gf<;>intro hc)|(apply gt<;>intro hc))<;>simp -implicitDefEqProofs only[go_sem, *])
 | succ n=>
  have n1:(0:Int)<((n+1:Nat):Int):=oa;have hwn:aD .i64 (((n+1:Nat):Int) - 1)=(n:Int):=by rw[wrap_i64 oa oa];omega
  have hwb:aD .i64 ((a:Int)+((n+1:Nat):Int))=((a+(n+1):Nat):Int):=by rw[wrap_i64 oa oa];omega
  have cq:a<=a+(n+1):=oa;have fz:a+(n+1)<=s.size:=oa;rw[iA]at g1;replace g1:Kp _:=⟨g1⟩;try simp -implicitDefEqProofs only[go_sem, *]
  repeat'((first|refine kq ?_|refine xk ?_|(apply xc<;>intro hc)|(apply gf<;>intro hc)|(apply gt<;>intro hc))<;>simp -implicitDefEqProofs only[go_sem, *])
  refine lp us [1,2,6,11,42,43] [2] (fun k=>[(9,.one (.own 9 1 (ints out))),(10,dv (li a)),(44,dv (li k))]) (fun _=>[]) (fun k=>∀u∈us.take k,(u.graph==L6 s a (a+(n+1)))=false) oh ?_ ?_
  ·intro k u hu hk EY qs qf hw hv;have Tg:(u.graph==L6 s a (a+(n+1)))=false->∀u∈us.take (k+1),(u.graph==L6 s a (a+(n+1)))=false:=og;have hfd:(u.graph==L6 s a (a+(n+1)))=true->R=Qc us s f (a+(n+1)) (out++[(k:Int)]):=fun h=>by rw[h1.h,Qc,j7 hz,<-hm,g1.h,J4 hu hv h]
   have lE:(out.length+1)*8<=140737488355328:=oa;unfold L6 at Tg hfd;clear EY qs hv h1 g1;try simp -implicitDefEqProofs only[go_sem, *]
   repeat'((first|refine kq ?_|refine xk ?_|(apply xc<;>intro hc)|(apply gf<;>intro hc)|(apply gt<;>intro hc))<;>simp -implicitDefEqProofs only[go_sem, *])
   ·exact⟨(f,a+(n+1),out++[(k:Int)]),⟨rfl,by show a+(n+1)<=s.size;omega,by show s.size<=a+(n+1)+f;omega,by show(out++[(k:Int)]).length<=a+(n+1);simp;omega⟩,by show s.size - (a+(n+1))<s.size - a;omega,qJ⟩
   ·exact⟨Tg hc,qJ⟩
  intro qf hv;rw[wc]at hv;have hf:iA us s a m=iA us s a n:=by rw[g1.h,Dw hv]
  clear hv g1;try simp -implicitDefEqProofs only[go_sem, *]
  repeat'((first|refine kq ?_|refine xk ?_|(apply xc<;>intro hc)|(apply gf<;>intro hc)|(apply gt<;>intro hc))<;>simp -implicitDefEqProofs only[go_sem, *])
  refine⟨n,?_,oa,qJ⟩;rw[<-hm];exact⟨hf,oa⟩
def ul{us:List Unt}{s:ByteArray}{a:Nat}: ∀{n i m:Nat},iA us s a n=some (i,m)->i<us.length
 | 0,i,m,h=>by cases h
 | n+1,i,m,h=>by
  rw[iA]at h;split at h
  ·rename_i j hj;injection h with h
   injection h with h _
   subst h;exact(List.findIdx?_eq_some_iff_getElem.1 hj).1
  ·exact ul h
def tl{us:List Unt}{s:ByteArray}: ∀{f a:Nat} {out:List Int} {x:Int},x∈(Qc us s f a out).1->x∈out\/∃k:Nat,x=k/\k<us.length
 | 0,a,out,x,h=>.inl h
 | f+1,a,out,x,h=>by
  rw[Qc]at h;split at h
  ·grind
  ·split at h
   ·rename_i i n hn;rcases tl h with h|h
    ·rcases wF.1 h with h|h
     ·grind
     ·exact .inr ⟨i,yp.1 h,ul hn⟩
    ·grind
   ·grind
def tn{us:List Unt}{s:ByteArray}: ∀(f a:Nat) (out:List Int),(Qc us s f a out).1.length<=out.length+f
 | 0,a,out=>wl _
 | f+1,a,out=>by
  rw[Qc];split
  ·simp
  ·split
   ·rename_i i n _;have:=tn (us:=us) (s:=s) f (a+n) (out++[(i:Int)]);simp at this;omega
   ·simp
def GQ(nm lt:C)(us:List Unt)(s:ByteArray)(hl:us.length<=1048576)(hg: ∀u∈us,u.graph.size<=1048576/\u.segs.length<=1048576)(hs:s.size<=1048576):
  DCalls pP 125 [.agg [.c nm,.c (.sl 2 (us.map Unt.enc)),.c lt],dv (ls s)] (.tup [dv (.sl 1 (ints (a8 us s).1)),dv (li (a8 us s).2.1),dv (li (a8 us s).2.2)]):=by
 have qi:=qo;have hU:=TS nm lt us s hl (fun u hu=>(hg u hu).1) hs;have pk:=fun x=>tl (us:=us) (s:=s) (f:=s.size) (a:=0) (out:=[]) (x:=x);have vG:=tn (us:=us) (s:=s) s.size 0 [];unfold a8;generalize Qc us s s.size 0 []=r at*
 obtain⟨l,e⟩:=r;simp only[wT,yi,w9,false_or]at hU pk vG ⊢;by_cases h0:s=ye
 ·have h1:(s==⟨#[]⟩)=true:=(ZX _ _).2 h0;have h2:s.size=0:=ot;rw[ae h2];clear h0 h2;refine dX (N:=44) (rs:=[.tmp 4,.tmp 5,.tmp 6]) qg func125 ?_;try simp -implicitDefEqProofs only[go_sem, *]
  repeat'((first|refine kq ?_|refine xk ?_|(apply xc<;>intro hc)|(apply gf<;>intro hc)|(apply gt<;>intro hc))<;>simp -implicitDefEqProofs only[go_sem, *])
 have h1:(s==⟨#[]⟩)=false:=by rw[<-Bool.not_eq_true];exact fun h=>h0 ((ZX _ _).1 h)
 have h2: ¬s.size=0:=ot;rw[j7 h2];by_cases h3:e<s.size
 ·have h4:((e:Int)<s.size):=by omega
  rw[ae h3];refine dX (N:=44) (rs:=[.tmp 4,.tmp 5,.tmp 6]) qg func125 ?_;try simp -implicitDefEqProofs only[go_sem, *]
  repeat'((first|refine kq ?_|refine xk ?_|(apply xc<;>intro hc)|(apply gf<;>intro hc)|(apply gt<;>intro hc))<;>simp -implicitDefEqProofs only[go_sem, *])
 have h4: ¬((e:Int)<s.size):=oa;rw[j7 h3];refine dX (N:=44) (rs:=[.tmp 4,.tmp 5,.tmp 6]) qg func125 ?_;try simp -implicitDefEqProofs only[go_sem, *]
 repeat'((first|refine kq ?_|refine xk ?_|(apply xc<;>intro hc)|(apply gf<;>intro hc)|(apply gt<;>intro hc))<;>simp -implicitDefEqProofs only[go_sem, *])
 refine xo 9 9 1 ?_;refine lp l [2,25,26] [2] (fun k=>[(9,.one (.own 9 1 (ints (bu us (l.take k))))),(27,dv (li k))]) (fun _=>[]) (fun k=>(bu us (l.take k)).length<=k*1048576) (wM _) ?_ ?_ (h0:=by simp +decide only[go_sem,bu,wy,ja])
 ·intro k x hx hk hm qs qf hw hv;obtain⟨j,rfl,hj⟩:=pk x hm;obtain⟨u,hu⟩: ∃u,us[j]? =some u:=⟨_,wa hj⟩;have vO:bu us (l.take (k+1))=bu us (l.take k)++u.segs:=by rw[qs];unfold bu;rw[jm,jA,ja,yG,wO,hu];rfl
  have XV:=(hg u (ww hu)).2;rw[vO];generalize bu us (l.take k)=q at*
  have lE:(q.length+u.segs.length)*8<=140737488355328:=oa;have sa:(q++u.segs).length<=(k+1)*1048576:=og;clear hm qs vO pk;try simp -implicitDefEqProofs only[go_sem, *]
  repeat'((first|refine kq ?_|refine xk ?_|(apply xc<;>intro hc)|(apply gf<;>intro hc)|(apply gt<;>intro hc))<;>simp -implicitDefEqProofs only[go_sem, *])
  all_goals exact gJ
 intro qf hv;rw[wc]at hv ⊢;by_cases h5:24<(bu us l).length
 ·have h6:(24:Int)<((bu us l).length:Int):=by omega
  rw[ae h5];try simp -implicitDefEqProofs only[go_sem, *]
  repeat'((first|refine kq ?_|refine xk ?_|(apply xc<;>intro hc)|(apply gf<;>intro hc)|(apply gt<;>intro hc))<;>simp -implicitDefEqProofs only[go_sem, *])
 have h6: ¬(24:Int)<((bu us l).length:Int):=oa;rw[j7 h5];try simp -implicitDefEqProofs only[go_sem, *]
 repeat'((first|refine kq ?_|refine xk ?_|(apply xc<;>intro hc)|(apply gf<;>intro hc)|(apply gt<;>intro hc))<;>simp -implicitDefEqProofs only[go_sem, *])
end
def nb_z:(NB=0)=False:=aC (by have:=qX;omega)
def Lz(lt:α->α->Bool)(l:List α)(x:α):Z3 lt (l++[x])=vF (fun y=>lt x y) (Z3 lt l) x:=by unfold Z3;rw[yZ];rfl
def PC(lt:α->α->Bool)(l:List α):Z3 lt (l.take 1)++l.drop 1=l:=by
 cases l with
 | nil=>rfl
 | cons a l=>simp[Z3,vF,vR]
abbrev dH:Dl.PL:=fun|4=> Dl.ll 0 14 ((14,.step)::Dl.ll 15 2 [])|6=> (2,.blind)::(3,.blind)::(4,.blind)::Dl.ll 0 2 (Dl.ll 5 10 [(15,.step),(16,.light),(17,.step)])|_=>[]
def qbB(lt:Nte->Nte->Bool)(c:Nte->Nte->Int)(qf: ∀a b,lt a b=decide (c a b<0))(f:Nat)(hf: ∀a b:Nte,DCalls pP f [.agg a.row,.agg b.row] (dv (li (c a b))))(xs:List Nte)(j q:Nat)(hq:NB<=q)(hl:xs.length<=1000000):
  ECalls pP 168 [.one (.ba q 7 0 xs.length (xs.length+j)),dv (li 0),dv (li xs.length),dv (.fn f [])] (ml [(q,cr (xs.map Nte.enc)++qa j 7)])
   (fun r H'=>r= .tup []/\H'=ml [(q,cr ((Z3 lt xs).map Nte.enc)++qa j 7)]):=by
 have qi:=qo;have h64: ∀z:Int,-1<=z->z<=10000000->IntKind.wrap .i64 z=z:=fun z h1 h2=>wrap_i64 oa oa;have uI: ∀x:Nte,x.enc.map T.c=x.row:=fun _=>rfl;have VF:IntKind.wrap .i64 1=1:=oo;refine Qn (N:=53) (rs:=[]) om func168 rfl rfl rfl oh ?_;refine vB dH ?_;refine q8 (fun i:Nat=>kn 53 [(0,.one (.ba q 7 0 xs.length (xs.length+j))),(1,dv (li 0)),(2,dv (li xs.length)),(3,dv (.fn f [])),(8,dv (li i))] (ml [(q,cr ((Z3 lt (xs.take i)++xs.drop i).map Nte.enc)++qa j 7)]))
  (fun i=>1<=i/\(i<=xs.length\/i=1)) (fun i=>xs.length - i) 1 (km (by simp +decide only[go_sem,PC])) ⟨oa,.inr rfl⟩ ?_
 rintro i ⟨Te,hi⟩;cases t1:decide ((i:Int)<(xs.length:Int))
 ·have dC:xs.length<=i:=by grind
  rw[yv dC,List.drop_eq_nil_of_le dC,yG];refine vB dH ?_;rfl
 have E9:i<xs.length:=og;refine vB dH ?_;obtain⟨x,hx⟩: ∃x,xs[i]? =some x:=⟨_,wa E9⟩;have hdr:xs.drop i=x::xs.drop (i+1):=by rw[wP E9];congr 1;rw[wa E9]at hx;injection hx
 have Q5:Z3 lt (xs.take (i+1))++xs.drop (i+1)=vF (fun y=>lt x y) (Z3 lt (xs.take i)) x++xs.drop (i+1):=by rw[zy hx,Lz]
 have hSl:(Z3 lt (xs.take i)).length=i:=by rw[(aL lt _).length_eq,ym];omega
 rw[hdr];generalize hS:Z3 lt (xs.take i)=S at*
 generalize hR:xs.drop (i+1)=R at*
 have hRl:R.length=xs.length - (i+1):=og;refine q8 (fun k:Nat=>kn 53 [(0,.one (.ba q 7 0 xs.length (xs.length+j))),(1,dv (li 0)),(2,dv (li xs.length)),(3,dv (.fn f [])),(8,dv (li i)),(9,dv (li k))] (ml [(q,cr ((S.take k++x::(S.drop k++R)).map Nte.enc)++qa j 7)]))
  (fun k=>k<=i/\vR (fun y=>lt x y) S S.length=vR (fun y=>lt x y) S k) (fun k=>k) i (km (by simp +decide only[go_sem,<-hSl,wc,jh,wI])) ⟨wl _,by rw[hSl]⟩ ?_
 rintro k ⟨hk,hbk⟩;have aM:IntKind.wrap .i64 ((i:Int)+1)=((i+1:Nat):Int):=og;cases k with
 | zero=>
  have h0:decide (((0:Nat):Int)>0)=false:=rfl;have VK:vF (fun y=>lt x y) S x++R=x::(S++R):=by unfold vF;rw[hbk];simp[vR]
  refine vB dH ?_;rw[VK]at Q5;have Q5:=af (·.map Nte.enc) Q5;simp only[List.map_append,List.map_cons]at Q5;refine⟨i+1,⟨oa,.inl oa⟩,oa,km (by simp +decide only[go_sem,Q5,hR])⟩
 | succ m=>
  obtain⟨y,hy⟩: ∃y,S[m]? =some y:=⟨_,wa oa⟩;have EZ:m<S.length:=oa;have qs:S.take (m+1)=S.take m++[y]:=zy hy;have hdk:S.drop m=y::S.drop (m+1):=by rw[wP EZ];congr 1;rw[wa EZ]at hy;injection hy
  have hZl:(S.take m).length=m:=og;have AW:(cr ((S.take (m+1)++x::(S.drop (m+1)++R)).map Nte.enc)++qa j 7)[m+1]? =some x.row:=by rw[iJ (x:=x.enc) (by rw[wh,wL (by rw[ym];omega),ym,jG oa];simp),uI]
  have xL:(cr ((S.take (m+1)++x::(S.drop (m+1)++R)).map Nte.enc)++qa j 7)[m]? =some y.row:=by rw[iJ (x:=y.enc) (by rw[wh,qs,wS,wL oa,hZl];simp),uI]
  have mV:IntKind.wrap .i64 (((m+1:Nat):Int) - 1)=(m:Int):=og;have qdY:decide ((0:Int)<((m+1:Nat):Int))=true:=oh;have hml2:m<xs.length:=oa;have hml1:m+1<xs.length:=oa;have hc:=hf x y;have QG:=qf x y;generalize c x y=cv at hc QG;cases t2:decide (cv<0)
  ·have LH:lt x y=false:=by grind
   have VK:vF (fun y=>lt x y) S x++R=S.take (m+1)++x::(S.drop (m+1)++R):=by
    have hb:vR (fun y=>lt x y) S (m+1)=m+1:=by simp only[vR,hy];rw[j7 (by rw[LH];simp)]
    unfold vF;rw[hbk,hb];simp
   simp only[List.map_append,List.map_cons]at AW xL;(repeat' first|(first|refine qC ?_|refine zU dH ?_|refine kx hc ?_|apply kU);simp only[go_sem,qdY,mV,AW,xL,hml1,hml2,t2,aM,wO,Nte.row]|apply kh<;>intro qe)
   rw[VK]at Q5;have Q5:=af (·.map Nte.enc) Q5;simp only[List.map_append,List.map_cons]at Q5;exact⟨i+1,⟨oa,.inl oa⟩,oa,km (by simp +decide only[go_sem,Q5,hR])⟩
  ·have LH:lt x y=true:=by grind
   have hb:vR (fun y=>lt x y) S (m+1)=vR (fun y=>lt x y) S m:=by simp only[vR,hy];rw[ae LH]
   have pd:((cr ((S.take (m+1)++x::(S.drop (m+1)++R)).map Nte.enc)++qa j 7).set (m+1) y.row).set m x.row=cr ((S.take m++x::(S.drop m++R)).map Nte.enc)++qa j 7:=by have qd7:(S.take (m+1)++x::(S.drop (m+1)++R)).length=S.length+1+R.length:=og;rw[<-uI x,<-uI y,CK (by rw[wn,qd7];omega),CK (by rw[List.length_set,wn,qd7];omega),<-List.map_set,<-List.map_set];congr 3;rw[qs,hdk];simp[hZl]
   have hz3:(List.set (cr ((S.take (m+1)++x::(S.drop (m+1)++R)).map Nte.enc)++qa j 7) (m+1) y.row)[m]? =some y.row:=og;simp only[Nte.row,List.map_append,List.map_cons]at AW xL hz3 pd hc
   (repeat' first|(first|refine qC ?_|refine zU dH ?_|refine kx hc ?_|apply kU);simp only[go_sem,qdY,mV,AW,xL,hml1,hml2,t2,wO,hz3,pd]|apply kh<;>intro qe)
   exact⟨m,⟨oa,by rw[hbk,hb]⟩,oa,Zb⟩
def Kg(lt:Nte->Nte->Bool)(c:Nte->Nte->Int)(qf: ∀a b,lt a b=decide (c a b<0))(f:Nat)(hf: ∀a b:Nte,DCalls pP f [.agg a.row,.agg b.row] (dv (li (c a b))))(xs:List Nte)(j q:Nat)(hl:xs.length<=19)(hq:NB<=q):
  ECalls pP 128 [.one (.ba q 7 0 xs.length (xs.length+j)),dv (li xs.length),dv (.fn f [])] (ml [(q,cr (xs.map Nte.enc)++qa j 7)])
   (fun r H'=>r= .tup []/\H'=ml [(q,cr ((Z3 lt xs).map Nte.enc)++qa j 7)]):=by
 have h2:decide ((20:Int)<=(xs.length:Int))=false:=og;have h3:decide ((20:Int)<(xs.length:Int))=false:=og;refine Qn (N:=63) (rs:=[]) om func128 rfl rfl rfl oh ?_;refine vB qg ?_;refine q8 (fun _:Unit=>kn 63 [(0,.one (.ba q 7 0 xs.length (xs.length+j))),(1,dv (li xs.length)),(2,dv (.fn f [])),(6,dv (li 20)),(7,dv (li 0)),(8,dv (li 20))] (ml [(q,cr (xs.map Nte.enc)++qa j 7)])) (fun _=>True) (fun _=>0) () (Zb) trivial ?_;rintro _ _;refine vB qg ?_;have Jo:(q<NB)=False:=og;have Tc:(27=q)=False:=aC (by have:=qX;omega);refine CallC.eff [q] (qbB lt c qf f hf xs j (q+NB) (y7 _ _) oa) rfl (DLeL.of_eq oe) (fun k r h=>?_) ⟨fun n hn=>?_,fun n hn=>?_⟩ ?_
 ·by_cases hk:k=q+NB
  ·subst hk;simp +decide only[go_sem]at h;subst h;simp +decide only[go_sem,vf]
  ·simp +decide only[go_sem,hk]at h
 ·simp only[wJ,w9,ax]at hn;subst hn;exact mK hq
 ·grind
 rintro r H' ⟨rfl,rfl⟩;simp +decide only[go_sem];refine vB qg ?_;refine q8 (fun _:Unit=>kn 63 [(0,.one (.ba q 7 0 xs.length (xs.length+j))),(1,dv (li xs.length)),(2,dv (.fn f [])),(6,dv (li 20))] (ml [(q,cr ((Z3 lt xs).map Nte.enc)++qa j 7)])) (fun _=>True) (fun _=>0) () (qw rfl (by simp +decide only[go_sem,Tc,Jo,Nat.reduceEqDiff,and_false,ax]) (by simp +decide only[go_sem,qF,Tc,Jo])) trivial ?_;rintro _ _;refine vB qg ?_;rfl
def T9(lt:Nte->Nte->Bool)(c:Nte->Nte->Int)(qf: ∀a b,lt a b=decide (c a b<0))(f:Nat)(hf: ∀a b:Nte,DCalls pP f [.agg a.row,.agg b.row] (dv (li (c a b))))(xs:List Nte)(j q:Nat)(hl:xs.length<=19)(hq:NB<=q):
  ECalls pP 68 [.one (.ba q 7 0 xs.length (xs.length+j)),dv (.fn f [])] (ml [(q,cr (xs.map Nte.enc)++qa j 7)])
   (fun r H'=>r= .tup []/\H'=ml [(q,cr ((Z3 lt xs).map Nte.enc)++qa j 7)]):=by
 refine Qn (N:=9) (rs:=[]) om func68 rfl rfl rfl oh ?_;refine vB qg ?_;have Jo:(q<NB)=False:=og;have Tc:(8=q)=False:=aC (by have:=qX;omega);refine CallC.eff [q] (Kg lt c qf f hf xs j (q+NB) oa (y7 _ _)) rfl (DLeL.of_eq oe) (fun k r h=>?_) ⟨fun n hn=>?_,fun n hn=>?_⟩ ?_
 ·by_cases hk:k=q+NB
  ·subst hk;simp +decide only[go_sem]at h;subst h;simp +decide only[go_sem,vf]
  ·simp +decide only[go_sem,hk]at h
 ·simp only[wJ,w9,ax]at hn;subst hn;exact mK hq
 ·grind
 rintro r H' ⟨rfl,rfl⟩;simp +decide only[go_sem];refine vB qg ?_;funext k;by_cases hk:k=q
 ·subst hk;simp +decide only[go_sem,qF,Tc,Jo]
 ·simp +decide only[go_sem,qF,hk];split
  ·rfl
  ·grind
open S
def OU:List Int->Int
 | []=>0
 | x::l=>if x=0 then OU l else x
def RT{xs:List Int}(hx:xs[k]? =some x):xs.drop k=x::xs.drop (k+1):=by have hk:=(wg.1 hx).1;rw[wP hk];congr 1;rw[wa hk]at hx;injection hx
abbrev Ox:Dl.PL:=fun|1=> Dl.ll 0 16 [(16,.step),(17,.light),(18,.step),(19,.light)]|_=>[]
def XG(xs:List Int)(hl:xs.length<=maxLen):DCalls pP 129 [dv (.sl 1 (ints xs))] (dv (li (OU xs))):=by
 have qi:=qo;refine kd (N:=18) (rs:=[.tmp 2]) func129 ?_;refine uB qg ?_;refine vq xs (fun k=>kn 18 [(3,dv (li 0)),(6,dv (.sl 1 (ints xs))),(7,dv (li xs.length)),(8,dv (li k))] qA) (fun k=>OU (xs.drop k)=OU xs) oa kl oh ?_ ?_
 ·intro k x hx hk hm qs qf hw hi;have hx':=ZQ hx;rw[RT hx,OU]at hi;rcases wv (x !=0)with t1|t1
  ·rw[j7 (by simpa using t1)]at hi
   (repeat' first|(first|refine qC ?_|apply kU|apply qb);simp only[go_sem,qf,hx',t1]|apply kh<;>intro qe)
   rw[hi]
  ·rw[ae (by simpa using t1)]at hi
   (repeat' first|(first|refine qC ?_|apply kU|apply qb);simp only[go_sem,qf,hw,hx',t1]|apply kh<;>intro qe)
   exact⟨hi,kl⟩
 ·intro qf hi;refine wB qg ?_;rw[<-hi];simp[OU]
def XI(x y z:Int):OU [x,y,z]=qdM x y z:=by
 unfold OU OU OU OU qdM;by_cases h1:x=0
 ·omega
 ·simp[h1]
def OT(a b:Nte):DCalls pP 69 [.agg a.row,.agg b.row] (dv (li (rX a b))):=by
 have hO:=XG [Zo a.par b.par,Zo a.fr b.fr,Zo a.rank b.rank] (show 3<=maxLen by decide);rw[XI]at hO;have ho:rX a b=qdM (Zo a.par b.par) (Zo a.fr b.fr) (Zo a.rank b.rank):=rfl;rw[ho];simp only[wo,wm]at hO;refine kd (N:=24) (rs:=[.tmp 4]) func69 ?_
 (repeat' first|(first|refine qC ?_|refine zU Ox ?_|refine kx (nv a.par b.par) ?_|refine kx (nv a.fr b.fr) ?_|refine kx (nv a.rank b.rank) ?_|refine kx hO ?_|apply kU|apply qb);simp +decide only[go_sem,Nte.row]|apply kh<;>intro qe|((first|apply qy|apply qx)<;>(intro qe;simp +decide only[go_sem,qe,Nte.row])))
section
attribute [local go_sem] vp Prt.enc Prt.row Zf strs Dcs.enc Dcs.row
def sN{a b:List α}{x y:α}(hx:a[k]? =some x)(hy:b[k]? =some y)(hi:a.take k=b.take k)(e:x=y):a.take (k+1)=b.take (k+1):=by rw[yV,yV,hi,hx,hy,e]
def I7 [DecidableEq α]{a b:List α}{x y:α}(hx:a[k]? =some x)(hy:b[k]? =some y)(e:x≠y):decide (a=b)=false:=au fun h=>by rw[h,hy]at hx;injection hx with hx;exact e hx.symm
def OG(x y:Prt):(x.ent==y.ent&&(x.alt==y.alt&&x.sns==y.sns))=true↔x=y:=by
 cases x;cases y;simp
abbrev XA:Dl.PL:=fun|6=> Dl.ll 0 9 []|_=>[]
def Fu(a b:List Int)(ha:a.length<=1048576)(hb:b.length<=1048576):DCalls pP 162 [dv (.sl 1 (ints a)),dv (.sl 1 (ints b))] (dv (lb (decide (a=b)))):=by
 have qi:=qo;by_cases h:a.length=b.length;rotate_left
 ·have h1:((a.length:Int)==(b.length:Int))=false:=by grind
  rw[au fun e=>h (by rw[e])];refine dX (N:=26) (rs:=[.tmp 4]) XA func162 ?_;exact gA
 have h1:((a.length:Int)==(b.length:Int))=true:=og;refine dX (N:=26) (rs:=[.tmp 4]) XA func162 ?_;refine gB ?_;refine lp a [0,1,12] [] (fun k=>[(13,dv (li k))]) (fun _=>[]) (fun k=>a.take k=b.take k) rfl ?_ ?_
 ·intro k x hx hk hm qs qf hw hi;obtain⟨y,hy⟩: ∃y,b[k]? =some y:=⟨_,wa oa⟩;have hs:=sN hx hy hi;have hn:=I7 hx hy;have ga:decide ((k:Int)<(b.length:Int))=true:=og;clear hi hm qs h;refine gC ?_ ?_<;>intro hc
  ·exact iq (hn og)
  ·exact⟨hs og,qJ⟩
 intro qf hi;rw[wc,h,wc]at hi;obtain rfl:=hi;clear h;rw[ay rfl];exact gA
abbrev qeL:Dl.PL:=fun|6=> Dl.ll 0 9 []|_=>[]
def Ft(a b:List ByteArray)(ha:a.length<=1048576)(hb:b.length<=1048576):DCalls pP 73 [dv (.sl 1 (strs a)),dv (.sl 1 (strs b))] (dv (lb (decide (a=b)))):=by
 have qi:=qo;by_cases h:a.length=b.length;rotate_left
 ·have h1:((a.length:Int)==(b.length:Int))=false:=by grind
  rw[au fun e=>h (by rw[e])];refine dX (N:=26) (rs:=[.tmp 4]) qeL func73 ?_;exact gA
 have h1:((a.length:Int)==(b.length:Int))=true:=og;refine dX (N:=26) (rs:=[.tmp 4]) qeL func73 ?_;refine gB ?_;refine lp a [0,1,12] [] (fun k=>[(13,dv (li k))]) (fun _=>[]) (fun k=>a.take k=b.take k) rfl ?_ ?_
 ·intro k x hx hk hm qs qf hw hi;obtain⟨y,hy⟩: ∃y,b[k]? =some y:=⟨_,wa oa⟩;have hs:=fun e=>sN hx hy hi ((ZX _ _).1 e);have hn:=fun e:(x==y)=false=>I7 hx hy fun h=>by rw[(ZX _ _).2 h]at e;cases e
  have ga:decide ((k:Int)<(b.length:Int))=true:=og;clear hi hm qs h;refine gC ?_ ?_<;>intro hc
  ·exact iq (hn og)
  ·exact⟨hs og,qJ⟩
 intro qf hi;rw[wc,h,wc]at hi;obtain rfl:=hi;clear h;rw[ay rfl];exact gA
abbrev XB:Dl.PL:=fun|6=> Dl.ll 0 9 []|_=>[]
def RE(a b:List Prt)(ha:a.length<=1048576)(hb:b.length<=1048576):DCalls pP 150 [dv (Zf a),dv (Zf b)] (dv (lb (decide (a=b)))):=by
 have qi:=qo;by_cases h:a.length=b.length;rotate_left
 ·have h1:((a.length:Int)==(b.length:Int))=false:=by grind
  rw[au fun e=>h (by rw[e])];refine dX (N:=26) (rs:=[.tmp 4]) XB func150 ?_;exact gA
 have h1:((a.length:Int)==(b.length:Int))=true:=og;refine dX (N:=26) (rs:=[.tmp 4]) XB func150 ?_;refine gB ?_;refine lp a [0,1,12] [] (fun k=>[(13,dv (li k))]) (fun _=>[]) (fun k=>a.take k=b.take k) rfl ?_ ?_
 ·intro k x hx hk hm qs qf hw hi;obtain⟨y,hy⟩: ∃y,b[k]? =some y:=⟨_,wa oa⟩;have hs:=sN hx hy hi;have hn:=I7 hx hy;have ga:decide ((k:Int)<(b.length:Int))=true:=og;clear hi hm qs h;refine gC ?_ ?_<;>intro hc
  ·exact iq (hn (fun e=>by have:=(OG x y).2 e;grind))
  ·exact⟨hs ((OG x y).1 og),qJ⟩
 intro qf hi;rw[wc,h,wc]at hi;obtain rfl:=hi;clear h;rw[ay rfl];exact gA
def IK(a b:List Prt)(ha:a.length<=1048576)(hb:b.length<=1048576):DCalls pP 93 [.agg [.c (Zf a)],.agg [.c (Zf b)]] (dv (lb (decide (a=b)))):=by have hE:=RE a b ha hb;simp only[Zf]at hE;refine dX (N:=10) (rs:=[.tmp 4]) qg func93 ?_;exact gA
abbrev qeU:Dl.PL:=fun|1=> Dl.ll 0 14 [(14,.step),(15,.light),(16,.step),(17,.light)]|_=>[]
def qc2(a b:Prt):DCalls pP 250 [.agg a.row,.agg b.row] (dv (li (Sc a b))):=by
 have h1:=nv a.ent b.ent;have h2:=nv a.alt b.alt;have h3:=nv a.sns b.sns;have hO:=XG [Zo a.ent b.ent,Zo a.alt b.alt,Zo a.sns b.sns] (show 3<=maxLen by decide);rw[XI]at hO;unfold Sc;generalize Zo a.ent b.ent=x at*
 generalize Zo a.alt b.alt=y at*
 generalize Zo a.sns b.sns=z at*
 refine dX (N:=22) (rs:=[.tmp 4]) qeU func250 ?_;repeat' first|refine kx h1 ?_|refine kx h2 ?_|refine kx h3 ?_|refine kx hO ?_|refine gQ ?_|exact gU|refine gS ?_|exact gT|(first|apply xc|apply gf|apply gt)<;>intro hc
def qc3(a b:List Prt)(ha:a.length<=1048576)(hb:b.length<=1048576):DCalls pP 249 [dv (Zf a),dv (Zf b),dv (.fn 250 [])] (dv (li (xi a b))):=by
 have qi:=qo;refine dX (N:=39) (rs:=[.tmp 6]) qg func249 ?_;refine gB ?_;refine lp a [0,1,2,11,12] [] (fun k=>[(13,dv (li k))]) (fun _=>[]) (fun k=>k<=b.length/\xi a b=xi (a.drop k) (b.drop k)) ⟨wM _,rfl⟩ ?_ ?_
 ·rintro k x hx hk hm qs qf hw ⟨h1,h2⟩;rw[aW hx]at h2;by_cases hkb:k<b.length
  ·obtain⟨y,hy⟩: ∃y,b[k]? =some y:=⟨_,wa hkb⟩;rw[aW hy,xi]at h2;have hC:=qc2 x y;simp only[Prt.row]at hC;generalize Sc x y=c at*
   generalize xi (a.drop (k+1)) (b.drop (k+1))=F at*
   have n1: ¬(b.length:Int)<=(k:Int):=oa;have n2:(k:Int)<(b.length:Int):=oa;replace h2:Kp _:=⟨h2⟩;clear hm qs;refine gC ?_ ?_<;>intro hc
   ·exact cC (by rw[h2.h,ae og])
   ·exact⟨⟨oa,by rw[h2.h,j7 og]⟩,qJ⟩
  ·have n1:(b.length:Int)<=(k:Int):=by omega
   have e:b.drop k= []:=og;rw[e,xi]at h2;clear hm qs;exact gA
 rintro qf ⟨h1,h2⟩;rw[jh]at h2;by_cases Fe:a.length<b.length
 ·have n1:((a.length:Int)<(b.length:Int)):=by omega
  obtain⟨y,hy⟩: ∃y,b[a.length]? =some y:=⟨_,wa Fe⟩;rw[aW hy,xi]at h2;exact gA
 ·have n1: ¬((a.length:Int)<(b.length:Int)):=by omega
  have e:b.drop a.length= []:=og;rw[e,xi]at h2;exact gA
def Vg(a b:List Prt)(ha:a.length<=1048576)(hb:b.length<=1048576):DCalls pP 234 [.agg [.c (Zf a)],.agg [.c (Zf b)]] (dv (lb (Z8 a b))):=by
 have hC:=qc3 a b ha hb;simp only[Zf]at hC;unfold Z8;generalize xi a b=c at*
 refine dX (N:=11) (rs:=[.tmp 4]) qg func234 ?_;exact gA
def OM(l:List Dcs)(r:Rf)(hl:l.length<=1048576):DCalls pP 124 [dv (.sl 4 (l.map Dcs.enc)),.agg [.c (li r.rc),.c (li r.note)]] (.tup [.agg [.c (Zf ((dK l r).getD []))],dv (lb (dK l r).isSome)]):=by
 have qi:=qo;refine dX (N:=26) (rs:=[.cell 4 69,.tmp 5]) qg func124 ?_;refine gB ?_;refine lp l [3,4,8,9] [3,4] (fun k=>[(10,dv (li k))]) (fun _=>[]) (fun k=>∀d∈l.take k,(decide (d.ref=r)&&d.yes)=false) oh ?_ ?_
 ·intro k d hd hk hm qs qf hw hi;have hf:(decide (d.ref=r)&&d.yes)=true->dK l r=some d.pick:=fun h=>by unfold dK;rw[sM hd hi h];rfl
  have hs:(decide (d.ref=r)&&d.yes)=false->∀d∈l.take (k+1),(decide (d.ref=r)&&d.yes)=false:=fun h=>by rw[qs];exact iF hi h
  rw[show decide (d.ref=r)=(d.ref.rc==r.rc&&d.ref.note==r.note) by rw[y8];cases d with|mk ref yes pick=>cases ref;cases r;simp]at hf hs;clear hi hm qs;repeat' first|refine gQ ?_|exact gU|refine gS ?_|exact gT|(first|apply xc|apply gf|apply gt)<;>intro hc
  ·exact⟨DLe.rfl_ _,DLe.rfl_ _⟩
  ·exact⟨hs og,qJ⟩
  ·exact⟨hs og,qJ⟩
 intro qf hi;rw[wc]at hi;have hf:dK l r=none:=by unfold dK;rw[sL hi];rfl
 clear hi;rw[hf,Option.getD_none];refine gB ?_;exact⟨eV [.ex 3 []],DLe.rfl_ _⟩
def srcEx{bx:vT}{d:D}{ys:List (List Dl.C)}(hd:d= .one (.ex sz ys)):Src bx sz d (cr ys):=by subst hd;exact .ex ys
def PA(L:Dl.Rows)(z:List T)(J:Dl.Rows){p k:Nat}(hp:p<=k)(hk:L.length=k):
  ∃G,(L++z::J).take (p+1)++((((L++z::J).drop p).take (k+1 - p)).take (k+1 - (p+1))++(L++z::J).drop (p+1+(k - p)))=G/\G.length=(L++z::J).length/\(∃r,G[p]? =some r/\r∈L++z::J)/\∀v,G.set p v=L.take p++v::(L.drop p++J):=by
 refine⟨_,rfl,?_,?_,?_⟩
 ·grind
 ·have h:p<(L++z::J).length:=by grind
  refine⟨(L++z::J)[p],?_,yd h⟩;rw[wU ot,yx,ae oa,wa h]
 ·intro v;have e1:(L++z::J).take (p+1)=L.take p++[(L++z::J)[p]' ot]:=by rw[yV,wa ot,jo oa];rfl
  have e2:(((L++z::J).drop p).take (k+1 - p)).take (k+1 - (p+1))=L.drop p:=og;have e3:(L++z::J).drop (p+1+(k - p))=J:=by have:p+1+(k - p)=L.length+1:=oa;rw[this];simp
  have e4:(L.take p).length=p:=og;rw[e1,e2,e3,wS,List.set_append_right _ _ oa,e4];simp
def WK(L:List (List Prt)):(cr (L.map zf)).length=L.length:=by simp[qK]
def qdb(L:List (List Prt)):RowsSz 1 (cr (L.map zf)):=nu fun r hr=>by obtain⟨p,_,rfl⟩:=wN.1 hr;rfl
def qdc{L:List (List Prt)}{y:List Prt}{js:Dl.Rows}(h:L[n]? =some y):(cr (L.map zf)++js)[n]? =some [.c (Zf y)]:=iJ (x:=zf y) (by rw[wh,h];rfl)
attribute [local go_sem] vp mA su zf
abbrev Xz:Dl.PL:=fun|5=> Dl.ll 0 9 [(9,.step),(10,.light)]|8=> Dl.ll 0 7 [(7,.step)]|_=>[]
def qf7{a b:Nat}(ab: ¬a=b)(ba: ¬b=a)(p:List Prt)(s:eg)(j:Nat)(hl:s.1.length<=200)(hp:p.length<=1048576)(hs: ∀q∈s.1,q.length<=1048576):ECalls pP 233 [.agg [.c (Zf p)],.one (.bx (a+NB) 1 0 0),.one (.bx (b+NB) 1 0 0)] (ml (mA (a+NB) (b+NB) s j))
  (fun q H'=>q=dv (lb (Am p s).1)/\∃j',AllM H' (mA (a+NB) (b+NB) (Am p s).2 j')):=by
 have qi:=qo;obtain⟨L,fl⟩:=s;simp only at hl hs;by_cases h:L.length=200
 ·have h1:((L.length:Int)==200)=true:=by grind
  have e:Am p (L,fl)=(false,(L,true)):=by unfold Am;rw[ae h]
  rw[e];simp only[mA];rw[show L.length=200 from h]at*
  clear h h1 hl e hs;have h1:((200:Nat):Int)==200:=rfl;refine eX (N:=40) (rs:=[.tmp 4]) Xz func233 ?_;refine gB ?_;exact⟨j,ou⟩
 have e:Am p (L,fl)=(true,(vF (fun y=>Z8 p y) L p,fl)):=by unfold Am;rw[j7 h]
 have Db:=rA (fun y=>Z8 p y) L p;have lJ:=xA (fun y=>Z8 p y) L L.length;have VK:vF (fun y=>Z8 p y) L p=L.take (vR (fun y=>Z8 p y) L L.length)++p::L.drop (vR (fun y=>Z8 p y) L L.length):=rfl;have sJ:=WK L;have gg:=fun n y (h:L[n]? =some y)=>qdc (js:=qa j 1) h;have haz:=qdb L;rw[e];clear e;simp only[mA];generalize vF (fun y=>Z8 p y) L p=L' at*
 generalize hk:L.length=k at*
 have h1:((k:Int)==200)=false:=og;replace VK:Kp _:=⟨VK⟩;replace Db:Kp _:=⟨Db⟩;replace sJ:Kp _:=⟨sJ⟩;replace gg:Kp _:=⟨gg⟩;replace hk:Kp _:=⟨hk⟩;refine eX (N:=40) (rs:=[.tmp 4]) Xz func233 ?_;refine gB ?_;refine xbk (fun i:Nat=>[(1,.one (.bx (a+NB) 1 0 0)),(3,.one (.bx 3 1 0 0)),(5,dv (li i))]) (fun _=>[(a+NB,[[.ba 1000 1 0 k (k+j)]]),(b+NB,[[.c (lb fl)]]),(1000,cr (L.map zf)++qa j 1),(3,[[.c (Zf p)]])]) (fun i=>i=vR (fun y=>Z8 p y) L k) ?_ ?_
 ·refine lw [1,3] [a+NB,b+NB,1000,3] (fun i:Nat=>[(5,dv (li i))]) (fun _=>[]) (fun i=>i<=k/\vR (fun y=>Z8 p y) L k=vR (fun y=>Z8 p y) L i) (fun i=>i) k ⟨wl _,rfl⟩ ?_ (uO:=by(simp +decide only[go_sem, *];rfl));rintro i ⟨hi,hb⟩;cases i with
  | zero=>
   clear hi;have t1:decide ((0:Int)<((0:Nat):Int))=false:=rfl;have hb:vR (fun y=>Z8 p y) L k=0:=hb;rw[hb];clear hb;exact gA
  | succ n=>
   have hk:=hk.1;obtain⟨y,hy⟩: ∃y,L[n]? =some y:=⟨_,wa oa⟩;have hym:=ww hy;have hL:=Vg p y hp (hs y hym);have ZE:=gg.1 n y hy;have w1:aD .i64 (((n+1:Nat):Int) - 1)=(n:Int):=by rw[wrap_i64 oa oa];omega
   have t3:n<k:=oa;have t1:decide ((0:Int)<((n+1:Nat):Int))=true:=oh;have Tj:vR (fun y=>Z8 p y) L (n+1)=if Z8 p y=true then vR (fun y=>Z8 p y) L n else n+1:=by simp only[vR,hy]
   rw[Tj]at hb;have hnk:n<=k:=oa;clear Tj hy hym hk hp hs VK lJ Db;generalize Z8 p y=lt at*
   replace hb:Kp _:=⟨hb⟩;cases lt
   ·refine gB ?_;rw[hb.1];rfl
   ·refine gB ?_;exact⟨n,⟨hnk,hb.1⟩,Nat.lt_succ_self n,qJ⟩
 ·rintro i hi s' hn ⟨s1,s3,s5,_⟩ ⟨b1,b2,b3,b4,_⟩;rw[<-hi]at lJ VK;clear hi gg hs hp;have sJ:=sJ.1;refine gB ?_;refine StepC.mk (Step.appendList (n:=1000) (sz:=1) (by_:=24) (rows:=cr (L.map zf)) (j:=j) (ys:=cr [[.sl 3 []]]) rfl rfl oe (by simp +decide only[go_sem,sJ]) oq haz (srcEx (ys:=[[.sl 3 []]]) oe) (by simp only[sJ,qK,wW,wT];omega) ?_);intro j3;have hcr:cr [[.sl 3 []]]= [[T.c (.sl 3 [])]]:=rfl;simp only[hcr,List.singleton_append,sJ,wW,wT];have X6:(i<=k/\k+1<=k+1+j3)=True:=og;have hp3:(i<=k+1/\k+1<=k+1+j3)=True:=og;have hp4:i<=k+1:=oa;have EW:k+1<=k+1+j3:=oa;have w1:aD .i64 ((i:Int)+1)=((i+1:Nat):Int):=by rw[wrap_i64 oa oa];omega
  have AW:RowsSz 1 (cr (L.map zf)++[T.c (.sl 3 [])]::qa j3 1):=fun r hr=>by
   simp only[wF,wJ]at hr;rcases hr with h|rfl|h
   ·exact haz r h
   ·rfl
   ·exact zm _ 1 r h
  obtain⟨G1,g1,g2,⟨r1,g3,g4⟩,g5⟩:=PA (cr (L.map zf)) [T.c (.sl 3 [])] (qa j3 1) lJ sJ;have F7:(cr (L.map zf)++[T.c (.sl 3 [])]::qa j3 1).length=k+1+j3:=by simp only[wz,wW,zS,sJ];omega
  have ef:r1.length=1:=AW _ g4;have q3:(cr (L.map zf)).take i=cr ((L.take i).map zf):=by rw[nr,jv]
  have q4:(cr (L.map zf)).drop i=cr ((L.drop i).map zf):=by rw[CL,List.map_drop]
  rw[q3,q4]at g5;have nQ:(((((cr (L.map zf)++[T.c (.sl 3 [])]::qa j3 1).drop i).take (k+1 - i)).take (k+1 - (i+1))).length)=k - i:=og;replace g5:Kp _:=⟨g5⟩;replace F7:Kp _:=⟨F7⟩;replace nQ:Kp _:=⟨nQ⟩;replace g2:Kp _:=⟨g2⟩;replace g1:Kp _:=⟨g1⟩;replace g4:Kp _:=⟨g4⟩;replace sJ:Kp _:=⟨sJ⟩;clear q3 q4 b3 hcr;generalize hR:cr (L.map zf)++[T.c (.sl 3 [])]::qa j3 1=R at*
  have hRt: ∀r,Rows.tr r R=R:=fun r=>by rw[<-hR,Rows.tr_append,R0,show [T.c (.sl 3 [])]::qa j3 1=cr [[.sl 3 []]]++qa j3 1 from rfl,Rows.tr_append,R0,e8]
  replace hR:Kp _:=⟨hR⟩;refine gB ?_;refine xsd (DS.Sub.trans (zB 27 1000 oo) (qw (N:=40) (sls:=[(1,.one (.bx (a+NB) 1 0 0)),(3,.one (.bx 3 1 0 0)),(5,dv (li i))]) (bxs:=[(a+NB,[[.ba 1000 1 0 (k+1) (k+1+j3)]]),(b+NB,[[.c (lb fl)]]),(1000,R),(3,[[.c (Zf p)]])]) hn oq oq)) ?_;clear s1 s3 s5 b1 b2 b4 hn;refine xk ?_;refine gB ?_;refine StepC.mk (Step.copyTo (n:=1000) (sz:=1) (i:=i+1) (len:=k+1 - (i+1)) (cap:=k+1+j3 - (i+1)) (ys:=(R.drop i).take (k+1 - i)) (rows:=R) (rows':=G1) (c:=k - i)
   rfl oe oq oq (by rw[F7.1];omega) AW
   (Av (n:=1000) (i:=i) (len:=k+1 - i) (cap:=k+1+j3 - i) oq oq (by rw[F7.1];omega) AW rfl) nQ.1 g1.1 ?_)
  have hp5:(i<k+1)=True:=og;have hd1:List.drop 1 r1= []:=og;refine gB ?_;refine⟨j3,by rw[Db.1],?_⟩;rw[g5.1,VK.1];simp only[yt,wo,Qv,sR,zf,Zf,wm,wS,wD]
end
open Go.RowKit Go.Shelf
section
attribute [local go_sem] Oper.semAt_some
def eh(l:List Ent):Nat->Int->List Ent
 | 0,_=>[]
 | f+1,id=>if(vz l id).2=false then []else(vz l id).1::(if(vz l id).1.main=0 then []else eh l f (vz l id).1.main)
def gM{w:j5}{xs:List (List Dl.C)}(h:VC w K (.sl sz xs) v): ∃A n c,v= .slice A n c:=by
 rcases h.sl_inv with⟨h1,h2⟩|⟨a,cap,cv,h1,_⟩
 ·grind
 ·grind
def BR{w:j5}{xs:List (List Dl.C)}(h:VC w K (.sl sz xs) v): ∃A c,v= .slice A xs.length c:=by
 rcases h.sl_inv with⟨h1,h2⟩|⟨a,cap,cv,h1,_⟩
 ·grind
 ·grind
def uH{w w':j5}(h:Below w.heap.size w w')(n:Nat)(hn:n<=w.heap.size):Hush n w w':=
 ⟨h.os,h.tape,h.output,h.size,fun b hb=>h.block b oa,fun b arr e m hb=>h.block b (wH.1 hb).1⟩
def HP(l:List Ent)(id:Int)(hl:l.length<=1000000){w:j5}{K:qM}(hk:KOk w K){vl:j6}(hv:VC w K (.sl 8 (l.map Ent.enc)) vl):
  Calls pP 133 #[vl,.int .i64 id] w fun e w'=>∃(cls:Int) (A1 A3 A5 A6 A7:Option Addr) (n1 c1 n3 c3 n5 c5 n6 c6 n7 c7:Nat) (K':qM),
   e= .returned (.tuple #[.agg #[.int .i64 (vz l id).1.id,.slice A1 n1 c1,.int .i64 cls,.slice A3 n3 c3,.int .i64 (vz l id).1.main,.slice A5 n5 c5,.slice A6 n6 c6,.slice A7 n7 c7],.bool (vz l id).2])/\Below w.heap.size w w'/\(∀b o,K b o->K' b o)/\(∀b o,b<w.heap.size->K' b o->K b o)/\KOk w' K'/\
   VD w' (E0 K') (.agg (vz l id).1.row) (.agg #[.int .i64 (vz l id).1.id,.slice A1 n1 c1,.int .i64 cls,.slice A3 n3 c3,.int .i64 (vz l id).1.main,.slice A5 n5 c5,.slice A6 n6 c6,.slice A7 n7 c7]):=by
 have hG:=rK l id hl;rw[<-uS]at hG;unfold DCalls at hG;refine(hG.2 w K #[vl,.int .i64 id] hk rfl (fun j d v h1 h2=>by
  match j with
  | 0=>simp at h1 h2;subst h1;subst h2;exact .one _ _ (.c _ _ hv)
  | 1=>simp at h1 h2;subst h1;subst h2;exact .one _ _ (.c _ _ (.lit _ rfl))
  | _+2=>simp at h1)).mono ?_
 rintro e w' ⟨v,E',rfl,hR,hv⟩;cases hv with|tup ds vs hl hr=>
  obtain⟨va,vb,rfl⟩: ∃va vb,vs= #[va,vb]:=by
   match vs,hl with
   | ⟨[va,vb]⟩,_=>exact⟨va,vb,rfl⟩
  have h0:=hr 0 _ va rfl rfl;have h1:=(hr 1 _ vb rfl rfl).lit;subst h1;have h00:=h0.cl;cases h0 with|agg ts vs Yb hr0=>
   obtain⟨v0,v1,v2,v3,v4,v5,v6,v7,rfl⟩: ∃v0 v1 v2 v3 v4 v5 v6 v7,vs= #[v0,v1,v2,v3,v4,v5,v6,v7]:=by
    match vs,Yb with
    | ⟨[v0,v1,v2,v3,v4,v5,v6,v7]⟩,_=>exact⟨v0,v1,v2,v3,v4,v5,v6,v7,rfl⟩
   have q0:v0=_:=(VD.one _ _ (hr0 0 _ v0 rfl rfl)).lit;have q2:v2=_:=(VD.one _ _ (hr0 2 _ v2 rfl rfl)).lit;have q4:v4=_:=(VD.one _ _ (hr0 4 _ v4 rfl rfl)).lit;obtain⟨A1,n1,c1,q1⟩:=gM (hr0 1 _ v1 rfl rfl).cl;obtain⟨A3,n3,c3,q3⟩:=gM (hr0 3 _ v3 rfl rfl).cl;obtain⟨A5,n5,c5,q5⟩:=gM (hr0 5 _ v5 rfl rfl).cl;obtain⟨A6,n6,c6,q6⟩:=gM (hr0 6 _ v6 rfl rfl).cl;obtain⟨A7,n7,c7,q7⟩:=gM (hr0 7 _ v7 rfl rfl).cl;subst q0 q1 q2 q3 q4 q5 q6 q7;exact⟨_,_,_,_,_,_,_,_,_,_,_,_,_,_,_,_,E'.K,rfl,hR.below,hR.kin,hR.kold,hR.kok,h00⟩
def Xe(l:List Ent)(id:Int):ECalls pP 180 [dv (.sl 8 (l.map Ent.enc)),dv (li id)] qA (fun r H'=>r= .one (.fv 211 [.c (.pt [.sl 8 (l.map Ent.enc)]),.bx 0 1 0 0])/\H'=ml [(0,[[.c (li id)]])]):=by refine Qn (N:=6) (rs:=[.tmp 4]) om func180 rfl rfl rfl oh ?_;refine uB qg ?_;refine Q3 2 [.sl 8 (l.map Ent.enc)] oh oe ?_;refine qn (DS.Sub.trans (zB 3 0 oo) (qw (N:=6) (sls:=[(4,.one (.fv 211 [.c (.pt [.sl 8 (l.map Ent.enc)]),.bx 0 1 0 0]))]) (bxs:=[(0,[[.c (li id)]])]) rfl oe oe)) ?_;apply qb;simp +decide only[go_sem];rfl
theorem gH(l:List Ent)(f:Nat)(id:Int):eh l (f+1) id=if(vz l id).2=false then []else(vz l id).1::(if(vz l id).1.main=0 then []else eh l f (vz l id).1.main):=rfl
structure WayI(J:Option Nat->j5->qM->Prop)(n p:Nat)(ty:TypeId)(l:List Ent)(bl ol:Nat)(ys:List Ent)(k f:Nat)(cur:Int)(W:j5)(K:qM):Prop where
 j:J (some k) W K
 cell:W.heap[p]? =some (.cells #[.int .i64 cur] ty (0,0))
 kok:KOk W K
 apart: ∀o,¬K p o
 lst: ∃vl,K bl ol/\W.cell? ⟨bl,ol,none⟩=some vl/\VC W K (.sl 8 (l.map Ent.enc)) vl
 size:n<=W.heap.size
 rest:ys.drop k=eh l f cur
 le:k<=ys.length
set_option maxRecDepth 100000 in
def Nc(l:List Ent)(id:Int)(hl:l.length<=1000000):qgd pP 211 [dv (.pt [.sl 8 (l.map Ent.enc)])] (.int .i64 id) ((eh l (l.length+1) id).map fun e=>[.agg e.row]):=by
 refine⟨om,fun w K p ty vs hk Ac hp vo hv hvp l0 J Yb hJ hJp hY h0=>?_⟩;obtain⟨v1,v2,rfl⟩: ∃v1 v2,vs= #[v1,v2]:=by
  match vs,vo with
  | ⟨[v1,v2]⟩,_=>exact⟨v1,v2,rfl⟩
 have xZ:=hv 0 _ v1 rfl rfl;obtain rfl:v2= .pointer (some ⟨p,0,none⟩):=by simpa using hvp
 obtain⟨bl,ol,vl,rfl,cq,fz,Bc⟩: ∃bl ol vl,v1= .pointer (some ⟨bl,ol,none⟩)/\K bl ol/\w.cell? ⟨bl,ol,none⟩=some vl/\VC w K (.sl 8 (l.map Ent.enc)) vl:=by
  cases xZ with|one t v h=>cases h with|c c v h=>cases h with
   | pt cs b o cv hK hr=>exact⟨b,o,cv 0,rfl,by have:=(hK 0 oh).1;rw[jB]at this;exact this,by have:=(hK 0 oh).2;rw[jB]at this;exact this,hr 0 _ rfl⟩
 obtain⟨ys,XR⟩: ∃ys,ys=eh l (l.length+1) id:=⟨_,rfl⟩;rw[<-XR]at hY ⊢;have hI0:WayI J w.heap.size p ty l bl ol ys 0 (l.length+1) id w K:=⟨h0,hp,hk,Ac,⟨vl,cq,fz,Bc⟩,wl _,by rw[XR];rfl,wM _⟩;have mV:aD .i64 ((l.length:Int)+1)=((l.length+1:Nat):Int):=zx _ (by unfold maxLen;omega);obtain⟨A,n,cap,rfl⟩:=gM Bc;have sa:n=l.length:=by obtain⟨A',c',h⟩:=BR Bc;injection h with _ h2 _;simpa using h2
 subst sa;have cl0:=fz;refine callsIn_of_wp func211 rfl trivial ?_;simp only[ntmps211,List.size_toArray,wW,wT,Nat.reduceAdd,Nat.reduceSub,Array.replicate_succ,Array.replicate_zero,List.push_toArray,List.append_toArray,wI,wD]
 gi_wp2
 gi_loopw [9] (fun i wr=>∃(k:Nat) (cur:Int) (Kc:qM),k<=l.length+1/\i= .int .i64 k/\WayI J w.heap.size p ty l bl ol ys k (l.length+1 - k) cur wr Kc)
   (fun i _=>l.length+1 - (intOf i).toNat)
 case atStart=>exact⟨0,id,K,wM _,rfl,hI0⟩
 case round=>
  obtain⟨k,cur,Kc,bw,rfl,hI⟩:=hrel;clear cl0 hI0 h0 fz Bc cq hk hp Ac xZ hv hvp;have hE:=hI.rest;by_cases qf:k<l.length+1
  ·have hlt':((k:Int)<(l.length:Int)+1)=True:=by simp;omega
   obtain⟨vl,cq,cA,Bc⟩:=hI.lst;obtain⟨A',cap',rfl⟩:=BR Bc;have cB:=yB hI.cell 0;have fB:=Lib.frozen_of_heap hI.cell 0;simp only[yI,yk]at cB;have hG:=HP l cur hl hI.kok Bc;rw[wn]at hG cA;obtain⟨f,hf⟩: ∃f,l.length+1 - k=f+1:=⟨l.length - k,oa⟩;rw[hf,gH]at hE;cases hg:(vz l cur).2
   ·rw[hg]at hE hG;rw[ae rfl]at hE;have qcb:ys.length<=k:=List.drop_eq_nil_iff.1 hE
    gi_wp2_with (refine⟨trivial,rfl,?_⟩;gi_at_call 133;refine(callsIn_wide (n:=0)).2 (hG.mono ?_))
    rintro e W1 ⟨cls,A1,A3,A5,A6,A7,n1,c1,n3,c3,n5,c5,n6,c6,n7,c7,K',rfl,hb,kin,kold,x8,hvd⟩
    gi_wp2
    refine⟨fun _ h=>(by cases h),?_⟩
    gi_wp2
    refine bodyPost_ret (results_none rfl _ _ _) rfl ?_;refine⟨⟨_,rfl⟩,Kc,.inl ?_⟩;rw[wn,show ys.length=k from Nat.le_antisymm qcb hI.le];refine hJ _ wr _ Kc Kc hI.j ((uH hb _ hI.size).trans (Hush.alloc _ (by have:=hb.size;have:=hI.size;omega))) fun b o h=>.inl h
   ·rw[hg]at hE hG;rw[j7 oo]at hE;have hky:ys[k]? =some (vz l cur).1:=by have:=af (fun z:List Ent=>z[0]?) hE;simpa[yl]using this
    have qca:k<ys.length:=(wg.1 hky).1;have De:ys.drop (k+1)=if(vz l cur).1.main=0 then []else eh l f (vz l cur).1.main:=by rw[wP qca]at hE;injection hE
    gi_wp2_with (refine⟨trivial,rfl,?_⟩;gi_at_call 133;refine(callsIn_wide (n:=0)).2 (hG.mono ?_))
    rintro e W1 ⟨cls,A1,A3,A5,A6,A7,n1,c1,n3,c3,n5,c5,n6,c6,n7,c7,K',rfl,hb,kin,kold,x8,hvd⟩;have hplt:p<wr.heap.size:=(wH.1 hI.cell).1;obtain⟨W2,hW2⟩: ∃W2,W2=W1.alloc (.cells #[.int .i64 (vz l cur).1.id,.slice A1 n1 c1,.int .i64 cls,.slice A3 n3 c3,.int .i64 (vz l cur).1.main,.slice A5 n5 c5,.slice A6 n6 c6,.slice A7 n7 c7] 77):=⟨_,rfl⟩;obtain⟨L2,hL2⟩: ∃L2:qM,L2=fun b o=>K' b o\/(b=W1.heap.size/\o<8):=⟨_,rfl⟩
    have HD:=hb.size;have hszI:=hI.size;have bi:W2.heap[W1.heap.size]? =some (.cells #[.int .i64 (vz l cur).1.id,.slice A1 n1 c1,.int .i64 cls,.slice A3 n3 c3,.int .i64 (vz l cur).1.main,.slice A5 n5 c5,.slice A6 n6 c6,.slice A7 n7 c7] 77 (0,0)):=by rw[hW2];exact World.alloc_heap_new W1 _
    have x7: ∀b,b<W1.heap.size->W2.heap[b]? =W1.heap[b]? :=fun b qf=>by rw[hW2];exact Below.heap_alloc _ _ _ qf
    have Js: ∀b o,K' b o->W2.cell? ⟨b,o,none⟩=W1.cell? ⟨b,o,none⟩:=fun b o h=>World.cell?_of_block (w:=W1) (a:=⟨b,o,none⟩) (x7 b (qP (x8 b o h)));have Da:Hush w.heap.size wr W2:=(uH hb _ hI.size).trans (by rw[hW2];exact Hush.alloc _ oa);have fy:KOk W2 L2:=x8.wide (fun b o h=>⟨by rw[hL2];exact .inl h,Js b o h⟩) (fun b o h=>by
     rw[hL2]at h;rcases h with h|⟨rfl,h⟩
     ·rw[Js b o h];exact x8 b o h
     ·unfold World.cell?;simp only[bi];simp[h]) (by rw[hW2];exact x8.z.hush (Hush.alloc (n:=0) _ (wM _)))
    have HH:J (some k) W2 L2:=hJ _ wr W2 Kc L2 hI.j Da fun b o h=>by
     by_cases qf:b<wr.heap.size
     ·left;rw[hL2]at h;rcases h with h|⟨h,_⟩
      ·exact kold b o qf h
      ·omega
     ·exact .inr ⟨oa,fy b o h⟩
    have hvd2:VD W2 (E0 L2) (.agg (vz l cur).1.row) (.agg #[.int .i64 (vz l cur).1.id,.slice A1 n1 c1,.int .i64 cls,.slice A3 n3 c3,.int .i64 (vz l cur).1.main,.slice A5 n5 c5,.slice A6 n6 c6,.slice A7 n7 c7]):=VD.mono (E:=E0 K') (E':=E0 L2) ⟨fun b o h=>⟨by show L2 b o;rw[hL2];exact .inl h,Js b o h⟩,rfl,rfl⟩ hvd;have hyy:=hY k [.agg (vz l cur).1.row] W2 L2 #[.agg #[.int .i64 (vz l cur).1.id,.slice A1 n1 c1,.int .i64 cls,.slice A3 n3 c3,.int .i64 (vz l cur).1.main,.slice A5 n5 c5,.slice A6 n6 c6,.slice A7 n7 c7]] (by rw[wh,hky];rfl) HH (by have:=Da.size;omega) rfl (fun j d v g1 g2=>by
     match j with
     | 0=>simp at g1 g2;subst g1;subst g2;exact hvd2
     | _+1=>simp at g1)
    obtain⟨fn,tmps,assign,body,hy,hRd⟩:=hyy;generalize hid:(vz l cur).1.id=id' at*
    generalize VP:(vz l cur).1.main=mn at*
    have lY:W2.heap[p]? =some (.cells #[.int .i64 cur] ty (0,0)):=(Da.cells p _ _ _ hI.cell).trans hI.cell;have hap2: ∀o,¬L2 p o:=fun o h=>by
     rw[hL2]at h;rcases h with h|⟨h,_⟩
     ·exact hI.apart o (kold p o hplt h)
     ·omega
    have hin4:L2 W1.heap.size 4:=by rw[hL2];exact .inr ⟨rfl,oa⟩
    have E6:L2 bl ol/\W2.cell? ⟨bl,ol,none⟩=some (.slice A' l.length cap')/\VC W2 L2 (.sl 8 (l.map Ent.enc)) (.slice A' (l.map Ent.enc).length cap'):=by have h1:=(Da.later (E:=E0 Kc) hI.kok).keep;exact⟨by rw[hL2];exact .inl (kin _ _ cq),((h1 bl ol cq).2).trans cA,Bc.mono fun b o h=>⟨by rw[hL2];exact .inl (kin _ _ h),(h1 b o h).2⟩⟩
    have hsz2:=Da.size;have hc4:W2.cell? ⟨W1.heap.size,4,none⟩=some (.int .i64 mn):=by unfold World.cell?;simp only[bi];rfl
    clear hvd hvd2 Js x7 hG HH kin kold x8 hb Bc cA cB fB cq Da;subst hW2
    gi_wp2
    refine⟨rfl,hRd.mono ?_⟩;rintro e W3 ⟨bb,rfl,hj3,mY,hp3⟩;have c4:=(mY.cells _ _ hin4).trans hc4;have hp4:=hp3.trans lY;have d1:=yB hp4 0;have g1:=Lib.frozen_of_heap hp4 0;simp only[yI,yk]at d1;clear hRd hy bi;cases bb
    ·gi_wp2
     refine bodyPost_ret (results_none rfl _ _ _) rfl ?_;exact⟨⟨_,rfl⟩,L2,.inr (by simpa using hj3)⟩
    ·by_cases h0:mn=0
     ·rw[ae h0]at De;subst h0
      gi_wp2
      refine bodyPost_ret (results_none rfl _ _ _) rfl ?_;refine⟨⟨_,rfl⟩,L2,.inl ?_⟩;have Vy:ys.length<=k+1:=List.drop_eq_nil_iff.1 De;rw[wn,show ys.length=k+1 from Nat.le_antisymm Vy qca];simpa using hj3
     ·rw[j7 h0]at De
      gi_wp2
      have eL:RowSet W3 (W3.setCell ⟨p,0,none⟩ (.int .i64 mn)) p ty #[.int .i64 cur] #[.int .i64 mn]:=by refine⟨hp4,?_,rfl,by simp[World.setCell],fun b hb=>Below.heap_setCell _ _ _ b hb,rfl,rfl,rfl⟩;have:=Go.heap_setCell_same W3 p 0 _ _ (.int .i64 mn) hp4;simpa using this
      have P3:KOk W3 L2:=fy.move mY.cells (mY.z fy.z);have hcp: ∀b o,L2 b o->(W3.setCell ⟨p,0,none⟩ (.int .i64 mn)).cell? ⟨b,o,none⟩=W3.cell? ⟨b,o,none⟩:=fun b o h=>eL.cell_other fun hbp=>hap2 o (hbp▸h);have LM:KOk (W3.setCell ⟨p,0,none⟩ (.int .i64 mn)) L2:=P3.move hcp (P3.z.turn (eL.turn (fun _=>True) (fun o h=>ak trivial h)));refine⟨⟨k+1,mn,L2,oa,rfl,⟨hJp _ _ _ _ _ _ _ (by simpa using hj3) eL rfl,eL.is,LM,hap2,⟨_,E6.1,?_,E6.2.2.mono fun b o h=>⟨h,?_⟩⟩,?_,?_,qca⟩⟩,?_⟩
      ·rw[hcp _ _ E6.1,mY.cells _ _ E6.1];rw[wn];exact E6.2.1
      ·rw[hcp _ _ h,mY.cells _ _ h]
      ·rw[eL.heap];have:=mY.size;omega
      ·rw[show l.length+1 - (k+1)=f by omega];exact De
      ·simp only[intOf];omega
  ·have hlt':((k:Int)<(l.length:Int)+1)=False:=by simp;omega
   have hz:l.length+1 - k=0:=oa;rw[hz]at hE;have qcb:ys.length<=k:=List.drop_eq_nil_iff.1 hE
   gi_wp2
   go_end0
   refine⟨⟨_,rfl⟩,Kc,.inl ?_⟩;rw[wn,show ys.length=k from Nat.le_antisymm qcb hI.le];exact hI.j
def Mc(xs:List (List Dl.C))(hz: ∀r∈xs,r.length=2)(hl:xs.length<=2000000):DCalls pP 181 [dv (.sl 2 xs)] (dv (.sl 2 xs)):=by
 refine kd (N:=8) (rs:=[.tmp 2]) func181 ?_;cases xs with
 | nil=>
  refine CC (sz:=2) 0 oe ?_ (fun a cap QH=>?_)
  ·refine uB qg ?_;apply qW;(simp +decide only[go_sem];rfl)
   ·intro _;refine uB qg ?_;refine qn (DS.Sub.trans (sub_zero 2 0 2 (.inl oe)) (qw (N:=8) (sls:=[(2,.one (.ba 0 2 0 0 0))]) (bxs:=[(0,[])]) rfl oe oe)) ?_;refine pE 0 2 [] [] oo oe oh ?_;apply qb;simp +decide only[go_sem]
   ·simp
  ·refine uB qg ?_;apply qW;(simp +decide only[go_sem];rfl)
   ·simp
   intro _;apply qt;simp +decide only[go_sem];refine qn (s':=kn 8 [(0,dv (.sl 2 []))] qA) (vU rfl ⟨.inr (by simp +decide only[go_sem];exact DLe.emp 2 QH),trivial⟩ (by simp[qA])) ?_;apply qk;refine dc (N:=8) [.hand] rfl om ?_;simp +decide only[go_sem];refine StepC.mk (Step.buildNone (sz:=2) rfl rfl oe ?_);simp +decide only[go_sem];refine StepC.mk (Step.appendList (n:=5) (sz:=2) (by_:=32) (rows:=[]) (j:=0) (ys:=[]) rfl rfl oe oe oe (by simp[RowsSz]) (mj (ys:=[]) oe) oh ?_);intro j';simp +decide only[go_sem];refine vB qg ?_;refine pE 7 2 [] (qa j' 2) oo oe oh ?_;apply qb;simp +decide only[go_sem]
 | cons x xs=>
  refine uB qg ?_;apply qW;(simp +decide only[go_sem];rfl)
  ·simp
  intro _;apply qt;simp +decide only[go_sem];apply qk;refine dc (N:=8) [.hand] rfl om ?_;simp +decide only[go_sem];refine StepC.mk (Step.buildNone (sz:=2) rfl rfl oe ?_);simp +decide only[go_sem];refine StepC.mk (Step.appendList (n:=5) (sz:=2) (by_:=32) (rows:=[]) (j:=0) (ys:=cr (x::xs)) rfl rfl oe oe oe (by simp[RowsSz]) (mj oe) (by simp only[qK,wT];omega) ?_);intro j';simp +decide only[go_sem];refine vB qg ?_;refine pE 7 2 (x::xs) (qa j' 2) oo ow hz ?_;apply qb;simp +decide only[go_sem,qK];simp
def Ay(l:List Ent): ∀(f:Nat) (id:Int),rf l f id=(((eh l f id).find? fun e=>decide (e.senses≠ [])).map (·.senses)).getD []
 | 0,_=>rfl
 | f+1,id=>by
  rw[rf,gH];cases hg:(vz l id).2
  ·simp
  ·simp only[an,Bool.true_eq_false,ap,List.find?_cons];by_cases hs:(vz l id).1.senses= []
   ·simp only[hs,ne_eq,not_true,ap,decide_false];split
    ·rfl
    ·exact Ay l f _
   ·simp[hs]
def Do{l:List Ent}{e:Ent}: ∀{f:Nat} {id:Int},e∈eh l f id->e∈l\/e=cS
 | 0,_,h=>by cases h
 | f+1,id,h=>by
  rw[gH]at h;split at h
  ·cases h
  ·rcases wJ.1 h with rfl|h
   ·exact gj l id
   ·split at h
    ·cases h
    ·exact Do h
def my(l:List Ent)(id:Int)(hl:l.length<=1000000)(hs: ∀e∈l,e.senses.length<=1000000):DCalls pP 136 [dv (.sl 8 (l.map Ent.enc)),dv (li id)] (dv (.sl 2 ((Zy l id).map Sns.enc))):=by
 have hS: ∀e∈eh l (l.length+1) id,e.senses.length<=1000000:=fun e h=>by
  rcases Do h with h|h
  ·grind
  ·rw[h];simp[cS]
 have hW:=Xe l id;have hP:=Nc l id hl;rw[Zy,Ay];generalize eh l (l.length+1) id=ys at*
 obtain⟨R,hR⟩: ∃R,R=((ys.find? fun e=>decide (e.senses≠ [])).map (·.senses)).getD []:=⟨_,rfl⟩;rw[<-hR];replace hR:Kp _:=⟨hR⟩;refine dX (N:=17) (rs:=[.cell 4 73]) qg func136 ?_;refine gS ?_;replace hR:=hR.1;refine CallC.eff [] hW rfl (DLeL.of_eq oe) (fun k r h=>by cases h) (by constructor<;>simp) ?_;rintro r H' ⟨rfl,rfl⟩;clear hW;simp -implicitDefEqProofs only[go_sem,As,SI];refine iI (gf:=211) (caps:=[.c (.pt [.sl 8 (l.map Ent.enc)])]) (xs:=ys.map fun(e:Ent)=>[D.agg (Ent.row e)]) zi [4] (fun _ (_:Unit)=>kn 17 [(4,.one (.bx 4 1 0 0))] (ml [(4,[[.ex 2 []]]),(8,[[.c .any]])])) (fun k _=>R=(((ys.drop k).find? fun e=>decide (e.senses≠ [])).map (·.senses)).getD []) () (by simpa using hR) ?_ 8 (.int .i64 id) oo oh (by simp +decide only[go_sem,qF]) (fun _ _=>oe) oe hP ?_ (fun _ _=>rfl) ?_ ?_ ?_ ?_ ?_ ?_
 ·rfl
 ·exact sC rfl oe (by simp +decide only[go_sem,qF])
 ·show 17<=1000;decide
 ·intro p hp;rw[yp.1 hp];show 9<17;decide
 ·simp
 ·exact⟨fun n _=>Qt n,fun x h=>by cases h⟩
 ·intro k ds _ hk hi;obtain⟨e,he,rfl⟩: ∃e,ys[k]? =some e/\ [D.agg (Ent.row e)]=ds:=by
   rw[wh]at hk;cases h:ys[k]? with
   | none=>grind
   | some e=>grind
  have qf:k<ys.length:=og;have hse:=hS e (ww he);rw[wP qf,(wg.1 he).2,List.find?_cons]at hi;clear hk hP;have Rh:=qX;obtain⟨q,hq⟩: ∃q,4+NB=q:=⟨_,rfl⟩;have q1:(5=q)=False:=og;have q2:(q=5)=False:=og;have q3:NB<=q:=oa;have q4:q - NB=4:=oa;refine qn (s':=kn 17 [(4,.one (.bx q 1 0 0)),(9,.agg e.row)] (ml [(q,[[.ex 2 []]])])) (qw rfl ?_ ?_) ?_
  ·simp +decide only[go_sem,DS.round,DS.round0,DS.puts,Ent.row,hq,ZK,Qt]
  ·simp +decide only[go_sem,DS.round,DS.round0,DS.puts,Ent.row,vv,ZK,q3,q4,Qt]
  refine aR (pl:=qg) (N:=17) _ _ _ om ?_;simp -implicitDefEqProofs only[go_sem,Ent.row,q1];refine aR (pl:=qg) (N:=17) _ _ _ om ?_;have hC:=Mc (e.senses.map Sns.enc) (fun r hr=>by obtain⟨x,_,rfl⟩:=wN.1 hr;rfl) ot;by_cases he:e.senses= []
  ·rw[he]at hi ⊢;replace hi:Kp _:=⟨hi⟩;replace hR:Kp _:=⟨hR⟩;clear hC;refine gS ?_;refine⟨(),by simpa using hi.1,?_⟩;exact sC rfl oe (by simp +decide only[go_sem,q9,hq,q2])
  ·have qZ:(0<e.senses.length)=True:=by grind
   have hpos2:(0<(e.senses.length:Int))=True:=og;replace hi:R=e.senses:=by simpa[he]using hi
   subst hi;clear he hR;exact gA
 ·intro _ hd;rw[wn,jh]at hd;simp only[List.find?_nil,Option.map_none,Option.getD_none]at hd;clear hR;subst hd;simp -implicitDefEqProofs only[go_sem,As]
end
attribute [local irreducible] gh cN cF bA
section
attribute [local go_sem] vp Prt.enc Prt.row Zf qj
structure SzG(g:Lg):Prop where
 inv:g.inv.length<=1048576
 units:g.units.length<=1048576
 unit: ∀u∈g.units,u.graph.size<=1048576/\u.segs.length<=1048576
 rules:g.rules.length<=1048576
 rule: ∀r∈g.rules,r.src.length<=1048576/\r.left.length<=1048576/\r.right.length<=1048576
 dst: ∀r∈g.rules,r.dst.length=r.src.length
 steps:g.steps.length<=1048576
 fin:g.fin.length<=1048576
 lex:g.lex.length<=1000000
 ents: ∀e∈g.lex,e.alts.length<=1000000/\e.form.length<=1000000/\∀w∈e.alts,w.length<=1000000
 sens: ∀e∈g.lex,e.senses.length<=1000000
def Sd(l:List Ent)(a:List Prt):(pL l a).length<=a.length:=by
 unfold pL;rw[List.length_flatMap];have: ∀b:List Prt,(b.map fun p=>(if cy l p=true then [(vz l p.ent).1.cls]else []).length).sum<=b.length:=fun b=>by
  induction b with
  | nil=>simp
  | cons p b ih=>grind
 exact this a
def Fl{l:List Int}(hx:l[k]? =some x):cx (l.drop k)=if x≠0 then x else cx (l.drop (k+1)):=by rw[aW hx];rfl
abbrev OL:Dl.PL:=fun|14=> Dl.ll 0 14 []|17=> Dl.ll 0 5 [(5,.step),(6,.light)]|_=>[]
def IN(g:Lg)(a:List Prt)(H:SzG g)(hn:a.length<=1000000):DCalls pP 132 [.agg g.row,.agg [.c (Zf a)]] (dv (li (Qy g a))):=by
 have qi:=qo;have hG:=fun p:Prt=>rK g.lex p.ent H.lex;simp only[<-uS]at hG;have hF:=fun p=>HS g p H.lex fun e he=>(H.ents e he).1;have hS:=fun p:Prt=>my g.lex p.ent H.lex H.sens;have hC:=Me g a H.lex (fun e he=>(H.ents e he).1) oa;have hB:=SB g a H.lex H.ents hn;have hA:=Mu (li g.states) g.steps g.fin (pL g.lex a) H.steps H.fin (by have:=Sd g.lex a;omega);simp only[Lg.row,eD,eF,wD,wI,Zf]at hF hC hB ⊢;unfold Qy;by_cases h0:a.length=0
 ·have n0:((a.length:Int)==0)=true:=by grind
  rw[ae h0];clear hG hF hS hC hB hA;refine dX (N:=73) (rs:=[.tmp 4]) OL func132 ?_;exact gA
 have n0:((a.length:Int)==0)=false:=og;rw[j7 h0];by_cases h1:4<a.length
 ·have n1:(4:Int)<(a.length:Int):=by omega
  rw[ae h1];clear hG hF hS hC hB hA;refine dX (N:=73) (rs:=[.tmp 4]) OL func132 ?_;exact gA
 have n1: ¬(4:Int)<(a.length:Int):=oa;rw[j7 h1];obtain⟨R,hR⟩: ∃R,R=cx (a.map (fh g.lex)):=⟨_,rfl⟩;rw[<-hR];refine dX (N:=73) (rs:=[.tmp 4]) OL func132 ?_;refine gB ?_;refine lp a [2,3,21,22] [2,3] (fun k=>[(23,dv (li k))]) (fun _=>[]) (fun k=>R=cx ((a.map (fh g.lex)).drop k)) hR ?_ ?_
 ·intro k p hp hk hm qs qf hw hi;have hG:=hG p;have hF:=hF p;have hS:=hS p;have AZ:(a.map (fh g.lex))[k]? =some (fh g.lex p):=og;rw[Fl AZ]at hi;obtain⟨pe,lY⟩: ∃pe,pe=fh g.lex p:=⟨_,rfl⟩;rw[<-lY]at hi;unfold fh at lY;generalize cx ((a.map (fh g.lex)).drop (k+1))=F at*
  generalize Zy g.lex p.ent=ss at*
  generalize cy g.lex p=fb at*
  generalize vz g.lex p.ent=eb at*
  obtain⟨e,b⟩:=eb;simp only[Ent.row]at hG hF lY;replace hi:Kp _:=⟨hi⟩;replace lY:Kp _:=⟨lY⟩;clear hC hB hA hm qs AZ;cases b
  ·refine gB ?_;exact cC (by have:=hi.h;have:=lY.h;grind)
  cases fb
  ·refine gB ?_;exact cC (by have:=hi.h;have:=lY.h;grind)
  repeat' first|refine gQ ?_|exact gU|refine gS ?_|exact gT|(first|apply xc|apply gf|apply gt)<;>intro hc
  all_goals first|exact cC (by have:=hi.h;have:=lY.h;grind)|exact⟨by have:=hi.h;have:=lY.h;grind,qJ⟩
 intro qf hi;rw[List.drop_of_length_le oh,cx]at hi;clear hG hF hS;subst hi;simp only[ne_eq];generalize pL g.lex a=cl at*
 generalize nI g.steps g.fin cl=ac at*
 generalize ZY g.lex a=bs at*
 repeat' first|refine gQ ?_|exact gU|refine gS ?_|exact gT|(first|apply xc|apply gf|apply gt)<;>intro hc
 all_goals exact cC og
abbrev OJ:Dl.PL:=fun|4=> Dl.ll 0 7 [(7,.step),(8,.light)]|_=>[]
def V3(g:Lg)(a:List Prt)(H:SzG g)(hn:a.length<=1000000):DCalls pP 161 [.agg g.row,.agg [.c (Zf a)]] (.tup [dv (.sl 1 (ints (iG g a).1)),dv (li (iG g a).2)]):=by
 have qi:=qo;have hR:=IN g a H hn;have hB:=SB g a H.lex H.ents hn;have hL:Qy g a=0->DCalls pP 203 [.agg (qj g.inv),dv (.sl 6 (g.rules.map Rul.enc)),dv (.sl 1 (ints (ZY g.lex a)))] (dv (.sl 1 (ints (Zi g.inv g.rules (ZY g.lex a))))):=fun h=>Pn g.inv g.rules (ZY g.lex a) H.dst H.inv (by unfold Qy at h;grind) H.rules H.rule;simp only[Lg.row,eD,eF,wD,wI,Zf,qj]at hR hB hL ⊢;unfold iG;generalize Qy g a=e at*
 by_cases h0:e=0;rotate_left
 ·have n0:(e==0)=false:=by grind
  rw[ae h0];clear hL hB;refine dX (N:=26) (rs:=[.tmp 4,.tmp 5]) OJ func161 ?_;exact gA
 have hL:=hL h0;subst h0;simp only[ne_eq,not_true,ap];generalize Zi g.inv g.rules (ZY g.lex a)=w at*
 generalize ZY g.lex a=bs at*
 by_cases h1:w= []
 ·subst h1;simp only[an];refine dX (N:=26) (rs:=[.tmp 4,.tmp 5]) OJ func161 ?_;exact gA;all_goals first|exact⟨qfd,DLe.rfl_ _⟩|skip
 ·have n1:((w.length:Int)==0)=false:=by simp;omega
  rw[j7 h1];refine dX (N:=26) (rs:=[.tmp 4,.tmp 5]) OJ func161 ?_;exact gA
def XP(g:Lg)(w:List Int)(a:List Prt)(H:SzG g)(hn:a.length<=1000000)(hw:w.length<=1048576)(hf:(iG g a).1.length<=1048576):DCalls pP 126 [.agg g.row,dv (.sl 1 (ints w)),.agg [.c (Zf a)]] (dv (lb (Pi g w a))):=by
 have hF:=V3 g a H hn;have hE:=Fu (iG g a).1 w hf hw;simp only[Lg.row,eD,eF,wD,wI,Zf]at hF ⊢;unfold Pi;generalize iG g a=r at*
 obtain⟨v,e⟩:=r;simp only at hF hE ⊢;generalize decide (v=w)=b at*
 by_cases h0:e=0
 ·subst h0;refine dX (N:=22) (rs:=[.tmp 6]) qg func126 ?_;exact gA
 ·have n0:(e==0)=false:=by grind
  have n1:decide (e=0)=false:=oa;rw[n1];clear hE;refine dX (N:=22) (rs:=[.tmp 6]) qg func126 ?_;exact gA
def oG{α σ:Type}(f:α->σ->Bool×σ): ∀(l m:List α) (s:σ),vY f (l++m) s=if(vY f l s).1=true then vY f m (vY f l s).2 else(false,(vY f l s).2)
 | [],m,s=>by simp[vY]
 | x::l,m,s=>by
  cases h:(f x s).1<;>simp[vY,h,oG f l m]
def tv(f:α->σ->Bool×σ){l m:List α}{x:α}{s y:σ}(h:vY f l s=(true,y))(hx:(f x y).1=false):vY f (l++x::m) s=(false,(f x y).2):=by rw[oG,h];simp[vY,hx]
def gK(f:α->σ->Bool×σ){l:List α}{x:α}{s y:σ}(h:vY f l s=(true,y))(hx:(f x y).1=true):vY f (l++[x]) s=(true,(f x y).2):=by rw[oG,h];simp[vY,hx]
def Ef(h:k<n): ∃m,wR n=wR k++k::m:=by
 induction n with
 | zero=>omega
 | succ n ih=>
  rw[jn];by_cases e:k=n
  ·simp_all
  ·grind
def QU(s:eg):Prop:=s.1.length<=200/\∀q∈s.1,q.length<=4
def WP{p:List Prt}{s:eg}(hp:p.length<=4)(h:QU s):QU (Am p s).2:=by
 unfold Am;split
 ·exact h
 ·refine⟨by have:=h.1;show(vF _ _ _).length<=200;rw[rA];omega,fun q hq=>?_⟩;rcases putBack_mem.1 hq with rfl|hq
  ·exact hp
  ·exact h.2 q hq
def fG{α σ:Type}{f:α->σ->Bool×σ}{I:σ->Prop}(hf: ∀x s,I s->I (f x s).2): ∀(l:List α) (s:σ),I s->I (vY f l s).2
 | [],s,h=>h
 | x::l,s,h=>by
  simp only[vY];split
  ·exact fG hf l _ (hf x s h)
  ·grind
def AA{l:List Ent}(hs: ∀e∈l,e.senses.length<=1000000): ∀(f:Nat) (id:Int),(rf l f id).length<=1000000
 | 0,_=>wM _
 | f+1,id=>by
  simp only[rf];split
  ·split
   ·rcases gj l id with h|h
    ·grind
    ·rw[h];simp[cS]
   ·split
    ·simp
    ·exact AA hs f _
  ·simp
def DO(ps:List Prt)(i k:Nat):(cI ps i k).length=ps.length:=by simp[cI]
def BQ{l:List Ent}: ∀{f i:Nat} {ps:List Prt} {s:eg},ps.length<=4->QU s->QU (spG l f i ps s).2
 | 0,i,ps,s,hp,h=>WP hp h
 | f+1,i,ps,s,hp,h=>fG (fun k s hs=>BQ (by rw[DO];exact hp) hs) _ _ h
attribute [local go_sem] vp mA su zf ZO Prt.enc Prt.row Zf
abbrev Xx:Dl.PL:=fun|3=> Dl.ll 0 10 []|_=>[]
def NO(g:Lg)(H:SzG g): ∀(f i:Nat) (ps:List Prt) (s:eg) (j a b:Nat),i+f=ps.length->ps.length<=4->QU s->¬a=b->¬b=a->
  MCalls pP 237 [.agg ((ZO g).map T.c),dv (Zf ps),dv (li i),.one (su (a+NB) (b+NB))] (ml (mA (a+NB) (b+NB) s j)) noMap (fun q H' M'=>q=dv (lb (spG g.lex f i ps s).1)/\M'=noMap/\∃j',AllM H' (mA (a+NB) (b+NB) (spG g.lex f i ps s).2 j')):=by
 have qi:=qo;intro f;induction f with
 | zero=>
  intro i ps s j a b hi h4 hs ab ba;have e:spG g.lex 0 i ps s=Am ps s:=rfl;have h1:((i:Int)==(ps.length:Int))=true:=og;have hA:=qf7 (a:=a+NB) (b:=b+NB) oa oa ps s j hs.1 oa (fun q hq=>by have:=hs.2 q hq;omega);have vd:ps.length*24<=140737488355328:=oa;rw[e];simp only[mA];refine mX (N:=49) (rs:=[.tmp 8]) Xx func237 ?_;refine gB ?_;refine oQ ?_;refine gB ?_;refine cM (Vm [a+NB,b+NB] ?_ hA);rintro q H' ⟨rfl,j',k1,k2,k3,_⟩;refine gB ?_;exact⟨j',rfl,rfl⟩
 | succ f ih=>
  intro i ps s j a b hi h4 hs ab ba;have h1:((i:Int)==(ps.length:Int))=false:=og;have vd:ps.length*24<=140737488355328:=oa;obtain⟨p,hp⟩: ∃p,ps[i]? =some p:=⟨_,wa oa⟩;have hS:=my g.lex p.ent H.lex H.sens;have e:spG g.lex (f+1) i ps s=vY (fun k s=>spG g.lex f (i+1) (cI ps i k) s) (wR (Zy g.lex p.ent).length) s:=by simp only[spG];rw[hp];rfl
  rw[e];clear e;have dB:(Zy g.lex p.ent).length<=1000000:=AA H.sens _ _;generalize hn:Zy g.lex p.ent=sn at*
  simp only[mA];refine mX (N:=49) (rs:=[.tmp 8]) Xx func237 ?_;refine gB ?_;clear hS hn;refine XO sn [1,2,3,4,29] [4] (fun k _=>[(30,dv (li k))]) (fun _ y=>mA (a+NB) (b+NB) y.1 y.2) (fun _ _=>noMap) (fun k (y:eg×Nat)=>QU y.1/\vY (fun k s=>spG g.lex f (i+1) (cI ps i k) s) (wR k) s=(true,y.1)) (s,j) rfl ⟨hs,rfl⟩ ?_ ?_ (hb0:=oq)
  ·rintro k x ⟨y,jy⟩ hx hk hm qs qf hw ⟨hy,vO⟩;have hl:=DO ps i k;have hI:=ih (i+1) (cI ps i k) y jy (a+NB) (b+NB) oa oa hy oa oa;have ZE:(cr (ps.map Prt.enc)++qa 0 3)[i]? =some (p.enc.map T.c):=iJ (by rw[wh,hp];rfl);have ZE: ∀j',(cr (ps.map Prt.enc)++qa j' 3)[i]? =some (p.enc.map T.c):=fun j'=>iJ (by rw[wh,hp];rfl);have pd: ∀j',(cr (ps.map Prt.enc)++qa j' 3).set i [T.c (li p.ent),T.c (li p.alt),T.c (li k)]=cr ((cI ps i k).map Prt.enc)++qa j' 3:=fun j'=>by
    have e:(cI ps i k).map Prt.enc=(ps.map Prt.enc).set i [li p.ent,li p.alt,li k]:=by unfold cI;rw[hp,List.map_set];rfl
    rw[e,<-CK (by rw[wn];omega)];rfl
   have hlt1:(i:Int)<(ps.length:Int):=oa;have MK:i<ps.length:=oa;have w1:aD .i64 ((i:Int)+1)=((i+1:Nat):Int):=by rw[wrap_i64 oa oa];omega
   clear hp qs hm hx;replace vO:Kp _:=⟨vO⟩;replace hI:Kp _:=⟨hI⟩;simp only[mA];refine gB ?_;refine oM (StepM.of (Step.buildNone (m:=33) (sz:=3) rfl rfl om ?_));refine gB ?_;refine StepC.mk (Step.appendList (n:=33) (sz:=3) (by_:=24) (rows:=[]) (j:=0) (ys:=cr (ps.map Prt.enc)) rfl rfl oe oe (by simp +decide only[go_sem,qa,List.replicate_zero,yG]) (fun r hr=>by cases hr) (mj oe) (by simp only[qK,wn,wT,yi];omega) ?_);intro j2;have ZE:=ZE j2;have pd:=pd j2;simp only[wI,qK,wn,wT,yi];refine gB ?_;have hz: ∀r∈(cI ps i k).map Prt.enc,r.length=3:=fun r hr=>by obtain⟨q,_,rfl⟩:=wN.1 hr;rfl
   have qs:List.take ps.length ((cI ps i k).map Prt.enc)=(cI ps i k).map Prt.enc:=yv (by rw[wn];omega);refine CallM.sub (DS.Sub.trans (ca 35 3 ((cI ps i k).map Prt.enc) (qa j2 3) oo oE hz) (qw (N:=49) (sls:=[(30,dv (li k)),(1,dv (.sl 3 (ps.map Prt.enc))),(2,dv (li i)),(3,.one (su (a+NB) (b+NB))),(4,.one (.bx 4 9 0 0)),(29,dv (li sn.length)),(41,.agg ((ZO g).map T.c)),(42,dv (Zf (cI ps i k))),(44,dv (li ((i+1:Nat):Int))),(45,.one (su (a+NB) (b+NB)))])
    (bxs:=(4,[(ZO g).map T.c])::mA (a+NB) (b+NB) y jy) rfl ou ou)) rfl ?_
   refine gB ?_;refine qfw [a+NB,b+NB] ?_ hI.1;have QC:QU (spG g.lex f (i+1) (cI ps i k) y).2:=BQ oa hy;have fZ:(spG g.lex f (i+1) (cI ps i k) y).1=false->vY (fun k s=>spG g.lex f (i+1) (cI ps i k) s) (wR sn.length) s=(false,(spG g.lex f (i+1) (cI ps i k) y).2):=fun h=>by obtain⟨m,hm⟩:=Ef hk;rw[hm];exact tv _ vO.1 h
   have io:(spG g.lex f (i+1) (cI ps i k) y).1=true->vY (fun k s=>spG g.lex f (i+1) (cI ps i k) s) (wR k++[k]) s=(true,(spG g.lex f (i+1) (cI ps i k) y).2):=fun h=>gK _ vO.1 h;clear hI vO;generalize spG g.lex f (i+1) (cI ps i k) y=F at*
   obtain⟨fb,y'⟩:=F;rintro q H' M' ⟨rfl,rfl,j',k1,k2,k3,_⟩;cases fb
   ·have fZ:=fZ rfl;rw[fZ];clear fZ io;refine gB ?_;exact⟨j',rfl,rfl⟩
   ·have io:=io rfl;clear fZ;refine gB ?_;exact⟨(y',j'),⟨QC,rfl⟩,qJ⟩
  ·rintro⟨y,jy⟩ qf ⟨hy,vO⟩;simp only at vO;rw[vO];clear vO;simp only[mA];refine gB ?_;exact⟨jy,rfl,rfl⟩
def NP(g:Lg)(H:SzG g)(ps:List Prt)(s:eg)(j:Nat){a b:Nat}(h4:ps.length<=4)(hs:QU s)(ab: ¬a=b)(ba: ¬b=a):
  ECalls pP 237 [.agg ((ZO g).map T.c),dv (Zf ps),dv (li 0),.one (su (a+NB) (b+NB))] (ml (mA (a+NB) (b+NB) s j)) (fun q H'=>q=dv (lb (T8 g.lex ps s).1)/\∃j',AllM H' (mA (a+NB) (b+NB) (T8 g.lex ps s).2 j')):=
 ECalls.of_maps (MCalls.wk (NO g H ps.length 0 ps s j a b oa h4 hs ab ba) fun q H' M' h=>⟨h.1,h.2.2⟩)
attribute [local go_sem] pu
def V2(g:Lg)(H:SzG g)(ps:List Prt)(bs:C)(s:eg)(j:Nat){a b d:Nat}(h4:ps.length<=4)(hs:QU s)(ab: ¬a=b)(ba: ¬b=a)(ad: ¬a=d)(da: ¬d=a)(bd: ¬b=d)(db: ¬d=b):
  ECalls pP 236 [dv (Zf ps),dv bs,dv (.pt (ZO g)),.one (.bx (d+NB) 1 0 0)] (ml (mD (a+NB) (b+NB) (d+NB) s j)) (fun q H'=>q=dv (lb (T8 g.lex ps s).1)/\∃j',AllM H' (mD (a+NB) (b+NB) (d+NB) (T8 g.lex ps s).2 j')):=by
 have hE:=NP g H ps s j (a:=a+NB) (b:=b+NB) h4 hs oa oa;simp only[mD,mA];refine eX (N:=11) (rs:=[.tmp 6]) qg func236 ?_;refine gB ?_;refine Vm [a+NB,b+NB] ?_ hE;rintro q H' ⟨rfl,j',k1,k2,k3,_⟩;refine gB ?_;exact⟨j',rfl,rfl⟩
end
open Go.Maps
attribute [local irreducible] MW StepM zg MCalls
def oX(g:List Phon): ∀(rs:List Rul) (w:List Int),(Zi g rs w).length<=w.length
 | [],w=>wl _
 | r::rs,w=>wu (oX g rs (pT g r w)) (xE g r w)
def Hq:Keyed pP 9:=string_keyed underlying9
theorem Xc(w:j5):(zeroValue 4).run pP w= .ok (.bool false) w:=om
def lz(b:List Int):Lit:=.string (ur b).data.toList
def Pq(b:List Int):(ur b).size=b.length:=by simp[ur,ByteArray.size]
def Pt{a:List Int}(ha:dj a)(hb:dj b)(h:lz a=lz b):a=b:=by
 unfold lz at h;injection h with h
 refine Pr ha hb ?_;cases hx:ur a with|mk x=>cases hy:ur b with|mk y=>
  rw[hx,hy]at h;have h:x.toList=y.toList:=h;rw[Array.toList_inj.1 h]
def Ps(b:List Int)(h:b.length<=maxLen):keyOf pP 9 (.string (ur b))=some (lz b)     :=Go.WideMaps.keyOf_string_mk underlying9 (by rw[Pq];exact h)
noncomputable def bK(n:Nat)(D:DataW j6):MO:=.mp 9 (plainElem pP 4) n D
structure TriOk(g:Lg)(w:List Int)(D:DataW j6):Prop where
 map:IsMap D
 at_: ∀b,dj b->jl D (lz b)=true->D.atKey (lz b) (.lit (.bool false))= .lit (.bool (iH g w b))
def Q9(b:Nat)(m:MO):MS:=fun k=>if k=b then some m else none
def mI(b:Nat)(m:MO):Q9 b m b=some m:=by simp[Q9]
def mH(b:Nat)(m m':MO):(Q9 b m).set b m'=Q9 b m':=by funext k;simp only[MS.set,Q9];split<;>rfl
def B0{b:Nat}{D:DataW j6}: ∀r m,Q9 b (bK n D) r=some m->r≠b->¬m.on b:=fun r m h hn=>by simp[Q9,hn]at h
def TriOk.put{D:DataW j6}(h:TriOk g w D)(hb:dj b):TriOk g w (D.put (lz b) (.lit (.bool (iH g w b)))):=by
 refine⟨h.map.put _ _,fun c hc hh=>?_⟩;by_cases e:c=b
 ·subst e;exact atKey_put_same h.map (by simp[WideAt.IsKeyLit,lz]) _ _
 ·have ne:lz c≠lz b:=fun h=>e (Pt hc hb h);rw[has_put_other ne]at hh;rw[atKey_put_other ne];exact h.at_ c hc hh
def Pe{D:DataW j6}(h:TriOk g w D)(hb:dj b)(u:j6)(ps:List MemPlace)(hr:plainElem pP 4 u=some (D.atKey (lz b) (.lit (.bool false)),ps)):u= .bool (jl D (lz b)&&iH g w b):=by
 have e:D.atKey (lz b) (.lit (.bool false))= .lit (.bool (jl D (lz b)&&iH g w b)):=by
  cases hh:jl D (lz b)with
  | true=>rw[h.at_ b hb hh];rfl
  | false=>rw[atKey_of_not_has hh];rfl
 rw[e]at hr;unfold plainElem at hr;rw[underlying4]at hr;cases u<;>simp at hr;rw[hr.1]
section
attribute [local go_sem] vp mA mD mS su pu fJ ZO zf
abbrev qeS:Dl.PL:=fun|5=> Dl.ll 0 11 [(11,.step),(12,.light)]|_=>[]
def qcu{a b d r:Nat}(hd:Dis a b d r)(g:Lg)(H:SzG g)(w:List Int)(bm:Nat)(y:eg)(j:Nat)(n:Nat)(D:DataW j6)(hn:n<maxLen)(hD:TriOk g w D)(base:List Int)(hb:dj base)(lJ:base.length<=24)(hw:w.length<=24):
  MCalls pP 258 [.one (.bx (r+NB) 14 0 0),dv (.sl 1 (ints base))] (ml (mS (a+NB) (b+NB) (d+NB) (r+NB) g w bm y j)) (Q9 bm (bK n D))
  (fun q H' M'=>q=dv (lb (iH g w base))/\AllM H' (mS (a+NB) (b+NB) (d+NB) (r+NB) g w bm y j)/\∃n' D',n'<=n+1/\TriOk g w D'/\M'=Q9 bm (bK n' D')):=by
 have qi:=qo;obtain⟨ab,ba,ad,da,ar,ra,bd,db,br,rb,dr,rd⟩:=hd;have hK:=qfx base oa;have hk:=Ps base oa;have hL:=Pn g.inv g.rules base H.dst H.inv oa H.rules H.rule;have A4:=oX g.inv g.rules base;have hE:=Fu (Zi g.inv g.rules base) w oa oa;have hF:iH g w base=(decide (0<(Zi g.inv g.rules base).length)&&decide (Zi g.inv g.rules base=w)):=rfl;have aN:=hD.put hb;have ZA:=Pe hD hb;rw[hF]at aN ZA ⊢;clear hF;simp only[qj]at hL;generalize Zi g.inv g.rules base=v at*
 replace aN:Kp _:=⟨aN⟩;replace ZA:Kp _:=⟨ZA⟩;simp only[mA,mD,mS,fJ];refine mX (N:=53) (rs:=[.tmp 4]) qeS func258 ?_;refine gB ?_;refine oM (StepM.lookup2 rfl (mI bm (bK n D)) ?_ Hq underlying341 Xc (plainElem_bool underlying4 false) ?_ hk ZA.1 rfl ?_)
 ·simp only[go_sem, *]
 ·simp only[go_sem, *]
 repeat' first|refine gQ ?_|exact gU|refine gS ?_|exact gT|(first|apply xc|apply lX|apply gf|apply gt|apply l6|apply lZ)<;>intro hc
 ·grind
 ·refine oM (StepM.update rfl rfl (mI bm (bK n D)) ?_ Hq underlying341 hn ?_ hk ?_ (plainElem_bool underlying4 (decide (v=w))) B0 ?_)
  ·simp only[go_sem, *]
  ·simp only[go_sem, *]
  ·simp only[go_sem, *]
  rw[mH];have h1:decide (0<v.length)=true:=og;rw[h1,jb]at aN;rw[h1];repeat' first|refine gQ ?_|exact gU|refine gS ?_|exact gT|(first|apply xc|apply lX|apply gf|apply gt|apply l6|apply lZ)<;>intro hc
  exact⟨n+1,_,wl _,aN.1,rfl⟩
 ·refine oM (StepM.update rfl rfl (mI bm (bK n D)) ?_ Hq underlying341 hn ?_ hk ?_ (plainElem_bool underlying4 false) B0 ?_)
  ·simp only[go_sem, *]
  ·simp only[go_sem, *]
  ·simp only[go_sem, *]
  rw[mH];have h1:decide (0<v.length)=false:=og;rw[h1,Bool.false_and]at aN;rw[h1];repeat' first|refine gQ ?_|exact gU|refine gS ?_|exact gT|(first|apply xc|apply lX|apply gf|apply gt|apply l6|apply lZ)<;>intro hc
  exact⟨n+1,_,wl _,aN.1,rfl⟩
def pr(g:Lg)(w:List Int)(f:Nat)(ps:List Prt)(q:Int)(b:List Int)(e:Ent)(p:List Int×Nat)(s:eg):Bool×eg:=
 if 24<b.length+p.1.length\/(oH g.rules=false/\w.length<b.length+p.1.length)then(true,s)else C6 g w f (ps++[⟨e.id,p.2,0⟩]) q (b++p.1) s
def nZ(g:Lg)(w:List Int)(f:Nat)(ps:List Prt)(q:Int)(b:List Int)(e:Ent)(s:eg):Bool×eg:=
 if(Zy g.lex e.id).length=0 then(true,s)else vY (pr g w f ps q b e) (QR e).zipIdx s
def Y9(g:Lg)(w:List Int)(ps:List Prt)(q:Int)(b:List Int):Bool:=decide (0<ps.length)&&(QT .and .u32 q (ZV g.fin)!=0&&(decide (w.length<=b.length)&&iH g w b))
def P9(g:Lg)(w:List Int)(ps:List Prt)(q:Int)(b:List Int)(s:eg):Bool×eg:=if Y9 g w ps q b=true then T8 g.lex ps s else(true,s)
def sf(g:Lg)(w:List Int)(f:Nat)(ps:List Prt)(q:Int)(b:List Int)(e:Ent)(s:eg):Bool×eg:=
 if afterA g.steps q e.cls=0 then(true,s)else nZ g w f ps (afterA g.steps q e.cls) b e s
def Nb(g:Lg)(w:List Int)(f:Nat)(ps:List Prt)(q:Int)(b:List Int)(s:eg):C6 g w (f+1) ps q b s=
  if(P9 g w ps q b s).1=true then(if ps.length=4 then(true,(P9 g w ps q b s).2)else vY (sf g w f ps q b) g.lex (P9 g w ps q b s).2)else(false,(P9 g w ps q b s).2):=by
 have e2: ∀x:Bool×eg,(if x.1=true then(true,x.2)else(false,x.2))=x:=oh;have hent:(fun(e:Ent) (s:eg)=>if(afterA g.steps q e.cls=0\/(Zy g.lex e.id).length=0)then(true,s)else
     vY (fun(p:List Int×Nat) s=>if 24<b.length+p.1.length\/(oH g.rules=false/\w.length<b.length+p.1.length)then(true,s)
      else C6 g w f (ps++[⟨e.id,p.2,0⟩]) (afterA g.steps q e.cls) (b++p.1) s) (QR e).zipIdx s)=sf g w f ps q b:=by
  funext e s;unfold sf nZ pr;by_cases h1:afterA g.steps q e.cls=0
  ·grind
  ·grind
 unfold C6;simp only[vY,hent,yq,ap,an,e2];rfl
def zK:Nat->Nat
 | 0=>0
 | f+1=>1+10*zK f
def gL{g:Lg}{w:List Int}: ∀{f:Nat} {ps:List Prt} {q:Int} {b:List Int} {s:eg},ps.length+f<=5->QU s->QU (C6 g w f ps q b s).2
 | 0,ps,q,b,s,_,h=>h
 | f+1,ps,q,b,s,hp,h=>by
  have hh:QU (P9 g w ps q b s).2:=by
   unfold P9;split
   ·exact BQ oa h
   ·exact h
  have hf: ∀q e s,QU s->QU (nZ g w f ps q b e s).2:=fun q e s hs=>by
   unfold nZ;split
   ·exact hs
   ·refine fG (fun p s hs=>?_) _ _ hs;unfold pr;split
    ·exact hs
    ·exact gL ot hs
  rw[Nb];split
  ·split
   ·exact hh
   ·refine fG (fun e s hs=>?_) _ _ hh;unfold sf;split
    ·exact hs
    ·grind
  ·exact hh
structure SrG(g:Lg)(w:List Int):Prop where
 sz:SzG g
 step: ∀x∈g.steps,0<=x.src/\0<=x.dst
 fins: ∀q∈g.fin,0<=q
 lex:g.lex.length<=5
 two: ∀e∈g.lex,(QR e).length<=2
 form: ∀e∈g.lex,∀x∈QR e,x.length<=3/\dj x
 word:w.length<=24
def qhb(a b d r:Nat)(g:Lg)(w:List Int)(bm:Nat)(n c:Nat)(o:Bool×eg)(q:Dl.D)(H':vT)(M':MS):Prop:=
 q=dv (lb o.1)/\(∃j',AllM H' (mS (a+NB) (b+NB) (d+NB) (r+NB) g w bm o.2 j'))/\∃n' D',n'<=n+c/\TriOk g w D'/\M'=Q9 bm (bK n' D')
def JT(g:Lg)(w:List Int)(f:Nat):Prop:=∀(a b d r bm:Nat) (y:eg) (j n:Nat) (D:DataW j6) (ps:List Prt) (q:Int) (bs:List Int),Dis a b d r->ps.length+f=5->dj bs->bs.length<=3*ps.length->QU y->TriOk g w D->n+zK f<1000000->
 MCalls pP 252 [.one (.bx (r+NB) 14 0 0),dv (Zf ps),dv (lu q),dv (.sl 1 (ints bs))] (ml (mS (a+NB) (b+NB) (d+NB) (r+NB) g w bm y j)) (Q9 bm (bK n D)) (qhb a b d r g w bm n (zK f) (C6 g w f ps q bs y))
def Df{l:List α}{x:α}(h:l[k]? =some x):l.zipIdx.take (k+1)=l.zipIdx.take k++[(x,k)]:=by rw[yV,List.getElem?_zipIdx,h];simp
def Ts{l:List α}{x:α}(h:l[k]? =some x):l.zipIdx=l.zipIdx.take k++(x,k)::l.zipIdx.drop (k+1):=by
 have hk:=(wg.1 h).1
 conv=>lhs;rw[<-yf (k+1) l.zipIdx,Df h]
 simp
attribute [local go_sem] vp mA mD mS su pu fJ ZO zf Zf Prt.enc Prt.row Ent.row Ent.enc bB
abbrev Xw:Dl.PL:=fun|1=> Dl.ll 0 7 ((7,.step)::Dl.ll 8 2 [])|_=>[]
def qar{g:Lg}{w:List Int}(H:SrG g w){f:Nat}(hW:JT g w f){a b d r:Nat}(bm:Nat)(y0:eg)(j n:Nat)(D:DataW j6)(e:Ent)(he:e∈g.lex)(ps:List Prt)(q:Int)(bs:List Int)(hd:Dis a b d r)(hp:ps.length+1+f=5)(hb:dj bs)(lJ:bs.length<=3*ps.length)(hy:QU y0)(hD:TriOk g w D)(hn:n+2*zK f<1000000):
  MCalls pP 260 [.one (.bx (r+NB) 14 0 0),.agg e.row,dv (Zf ps),dv (lu q),dv (.sl 1 (ints bs))] (ml (mS (a+NB) (b+NB) (d+NB) (r+NB) g w bm y0 j)) (Q9 bm (bK n D)) (qhb a b d r g w bm n (2*zK f) (nZ g w f ps q bs e y0)):=by
 have qi:=qo;have hS:=my g.lex e.id H.sz.lex H.sz.sens;have hF:=uV e (by have:=H.two e he;simp[QR]at this;omega);have h2:=H.two e he;have h3:=H.form e he;have MG:=H.word;have MH:=hd.up;have rI: ¬NB=0:=by have:=qX;omega
 obtain⟨ab,ba,ad,da,ar,ra,bd,db,br,rb,dr,rd⟩:=hd;rw[show ZT e=QR e from rfl]at hF;by_cases h0:(Zy g.lex e.id).length=0
 ·have hz:Zy g.lex e.id= []:=by grind
  rw[show nZ g w f ps q bs e y0=(true,y0) from by unfold nZ;rw[ae h0]];rw[hz]at hS;clear hF h3 hz h0;simp only[mA,mD,mS,fJ];refine mX (N:=78) (rs:=[.tmp 10]) Xw func260 ?_;repeat' first|refine gQ ?_|exact gU|refine gS ?_|exact gT|(first|apply xc|apply lX|apply gf|apply gt|apply l6|apply lZ)<;>intro hc
  exact⟨rfl,⟨j,ou⟩,n,D,oa,hD,rfl⟩
 have vO:nZ g w f ps q bs e y0=vY (pr g w f ps q bs e) (QR e).zipIdx y0:=by unfold nZ;rw[j7 h0]
 rw[vO];clear vO;have n0:(((Zy g.lex e.id).length:Int)==0)=false:=og;generalize Zy g.lex e.id=sn at*
 generalize hfo:QR e=fo at*
 simp only[mA,mD,mS,fJ];refine mX (N:=78) (rs:=[.tmp 10]) Xw func260 ?_;repeat' first|refine gQ ?_|exact gU|refine gS ?_|exact gT|(first|apply xc|apply lX|apply gf|apply gt|apply l6|apply lZ)<;>intro hc
 clear hS n0 hF;refine XO fo [0,2,3,4,6,27,28] [6] (fun k _=>[(29,dv (li k))]) (fun _ (y:(eg×Nat)×(Nat×DataW j6))=>mS (a+NB) (b+NB) (d+NB) (r+NB) g w bm y.1.1 y.1.2) (fun _ y=>Q9 bm (bK y.2.1 y.2.2)) (fun k y=>QU y.1.1/\vY (pr g w f ps q bs e) (fo.zipIdx.take k) y0=(true,y.1.1)/\y.2.1<=n+k*zK f/\TriOk g w y.2.2) ((y0,j),(n,D)) rfl ⟨hy,rfl,jX _ _,hD⟩ ?_ ?_ (hb0:=oq)
 ·rintro k x ⟨⟨y,j⟩,n1,D1⟩ hx hk hm qs qf hw ⟨hy,vO,pj,hD1⟩;obtain⟨hx3,hxb⟩:=h3 x hm;have hz:=Df hx;have lI:=Ts hx;have Yf: ¬24<bs.length+x.length:=oa;simp only at hy vO pj hD1;have fy:k*zK f<=zK f:=og;have hcf:n1+zK f<1000000:=oa;have hI:=hW (a+NB) (b+NB) (d+NB) (r+NB) bm y j n1 D1 (ps++[⟨e.id,k,0⟩]) q (bs++x) MH ot (fun z hz=>(wF.1 hz).elim (hb z) (hxb z)) ot hy hD1 hcf;have QC:QU (C6 g w f (ps++[⟨e.id,k,0⟩]) q (bs++x) y).2:=gL ot hy;have w1:aD .i64 ((bs.length:Int)+(x.length:Int))=((bs.length+x.length:Nat):Int):=by rw[wrap_i64 oa oa];omega
  have t24:decide ((24:Int)<((bs.length+x.length:Nat):Int))=false:=og;have Dc:n+k*zK f<=n+(k+1)*zK f:=og;by_cases hA:oH g.rules=false/\w.length<bs.length+x.length
  ·have ML:pr g w f ps q bs e (x,k) y=(true,y):=by unfold pr;rw[ae (.inr hA)]
   have hst2:vY (pr g w f ps q bs e) (fo.zipIdx.take (k+1)) y0=(true,y):=by rw[hz,gK _ vO (by rw[ML]),ML]
   obtain⟨uI,ga⟩:=hA;have t3:decide ((w.length:Int)<((bs.length+x.length:Nat):Int))=true:=og;clear hW hI QC hz lI vO ML Yf qs;simp only[mA,mD,mS,fJ];repeat' first|refine gQ ?_|exact gU|refine gS ?_|exact gT|(first|apply xc|apply lX|apply gf|apply gt|apply l6|apply lZ)<;>intro hc
   exact⟨((y,j),(n1,D1)),⟨hy,rfl,wu pj Dc,hD1⟩,qJ,rfl⟩
  have ML:pr g w f ps q bs e (x,k) y=C6 g w f (ps++[⟨e.id,k,0⟩]) q (bs++x) y:=by unfold pr;rw[j7 (by rintro(h|h);exact Yf h;exact hA h)]
  have fZ:(C6 g w f (ps++[⟨e.id,k,0⟩]) q (bs++x) y).1=false->vY (pr g w f ps q bs e) fo.zipIdx y0=(false,(C6 g w f (ps++[⟨e.id,k,0⟩]) q (bs++x) y).2):=fun h=>by rw[lI,tv _ vO (by rw[ML];exact h),ML]
  have io:(C6 g w f (ps++[⟨e.id,k,0⟩]) q (bs++x) y).1=true->vY (pr g w f ps q bs e) (fo.zipIdx.take (k+1)) y0=(true,(C6 g w f (ps++[⟨e.id,k,0⟩]) q (bs++x) y).2):=fun h=>by rw[hz,gK _ vO (by rw[ML];exact h),ML]
  have hB:oH g.rules=true\/(oH g.rules=false/\decide ((w.length:Int)<((bs.length+x.length:Nat):Int))=false):=og;simp only[Zf,yt]at hI;generalize C6 g w f (ps++[⟨e.id,k,0⟩]) q (bs++x) y=F at*
  clear hW hz lI vO ML Yf qs hA;replace hI:Kp _:=⟨hI⟩;replace fZ:Kp _:=⟨fZ⟩;replace io:Kp _:=⟨io⟩;have hro1:bs.length*8<=140737488355328:=oa;have hro2:(bs.length+x.length)*8<=140737488355328:=oa;have hro3:ps.length*24<=140737488355328:=oa;have hro4:(ps.length+1)*24<=140737488355328:=oa;rcases hB with uI|⟨uI,ga⟩
  all_goals
   simp only[mA,mD,mS,fJ];repeat' first|refine gQ ?_|exact gU|refine gS ?_|exact gT|(first|apply xc|apply lX|apply gf|apply gt|apply l6|apply lZ)<;>intro hc
   refine oQ ?_;repeat' first|refine gQ ?_|exact gU|refine gS ?_|exact gT|(first|apply xc|apply lX|apply gf|apply gt|apply l6|apply lZ)<;>intro hc
   refine qgs [(29,dv (li k)),(0,.one (.bx (r+NB) 14 0 0)),(2,dv (Zf ps)),(3,dv (lu q)),(4,dv (.sl 1 (ints bs))),(6,.one (.bx 6 8 0 0)),(27,dv (.sl 1 (fo.map bB))),(28,dv (li fo.length)),(14,dv (.sl 1 (ints bs++ints x))),(15,dv (.sl 3 (ps.map Prt.enc++[[li e.id,li k,li 0]])))] ((6,[e.row])::mS (a+NB) (b+NB) (d+NB) (r+NB) g w bm y j) ?_ ?_
   ·refine qn (qw (N:=78) (sls:=[(29,dv (li k)),(0,.one (.bx (r+NB) 14 0 0)),(2,dv (Zf ps)),(3,dv (lu q)),(4,dv (.sl 1 (ints bs))),(6,.one (.bx 6 8 0 0)),(11,dv (li k)),(27,dv (.sl 1 (fo.map bB))),(28,dv (li fo.length)),(14,dv (.sl 1 (ints bs++ints x)))]) (bxs:=(6,[e.row])::mS (a+NB) (b+NB) (d+NB) (r+NB) g w bm y j) rfl ou ou) ?_;apply Zn (id:=9) (N:=78) [] [[],[],[0,1],[],[3],[],[4,5],[6],[2,7,2],[8,8,0,1,2,3,4,5,6,7,8]] (.bl 1 (.bl 3 (.bl 5 (.two 0 (.two 2 (.run [4,6,7,8,9] .leaf) 4 (.two 2 (.run [6,7,8,9] .leaf) 6 (.two 2 (.run [7,8,9] .leaf) 7 (.run [2,8,9] .leaf)))) 4 (.two 0 (.two 2 (.run [6,7,8,9] .leaf) 6 (.two 2 (.run [7,8,9] .leaf) 7 (.run [2,8,9] .leaf))) 6 (.two 0 (.two 2 (.run [7,8,9] .leaf) 7 (.run [2,8,9] .leaf)) 7 (.run [0,2,8,9] .leaf)))))));kernel_rfl;rfl;kernel_rfl;kernel_rfl;simp only[wo,wm];simp -implicitDefEqProofs only[go_sem, *];repeat'(first|exact qJ|apply And.intro)
   ·repeat' first|refine gQ ?_|exact gU|refine gS ?_|exact gT|(first|apply xc|apply lX|apply gf|apply gt|apply l6|apply lZ)<;>intro hc
    refine qfw [a+NB,b+NB,d+NB,r+NB] ?_ hI.1;obtain⟨fb,y'⟩:=F;rintro qq H' M' ⟨rfl,⟨j',k1,k2,k3,k4,k5,_⟩,n2,D2,MJ,hD2,rfl⟩;cases fb
    ·have fZ:=fZ.1 rfl;rw[fZ];clear fZ io hI;repeat' first|refine gQ ?_|exact gU|refine gS ?_|exact gT|(first|apply xc|apply lX|apply gf|apply gt|apply l6|apply lZ)<;>intro hc
     exact⟨rfl,⟨j',ou⟩,n2,D2,oa,hD2,rfl⟩
    ·have io:=io.1 rfl;clear fZ hI;repeat' first|refine gQ ?_|exact gU|refine gS ?_|exact gT|(first|apply xc|apply lX|apply gf|apply gt|apply l6|apply lZ)<;>intro hc
     exact⟨((y',j'),(n2,D2)),⟨QC,rfl,by simp only;rw[Nat.succ_mul];omega,hD2⟩,qJ,rfl⟩
 ·rintro⟨⟨y,j⟩,n1,D1⟩ qf ⟨hy,vO,pj,hD1⟩;simp only at hy vO pj hD1;rw[yv oh]at vO;rw[vO];have fy:fo.length*zK f<=2*zK f:=wQ _ h2;clear vO hW;simp only[mA,mD,mS,fJ];repeat' first|refine gQ ?_|exact gU|refine gS ?_|exact gT|(first|apply xc|apply lX|apply gf|apply gt|apply l6|apply lZ)<;>intro hc
  exact⟨rfl,⟨j,ou⟩,n1,D1,oa,hD1,rfl⟩
def qcS{l:List α}{x:α}(h:l[k]? =some x):l=l.take k++x::l.drop (k+1):=by conv=>lhs;rw[<-yf k l,aW h]
attribute [local go_sem] vp mA mD mS su pu fJ ZO zf Zf Prt.enc Prt.row Ent.row Ent.enc bB
def Nd(H:SrG g w)(hW:0<f->JT g w f):JT g w (f+1):=by
 have qi:=qo;intro a b d r bm y0 j n D ps q bs hd hp hb lJ hy hD hn;have hFi:=qcu (hd.up) g H.sz w bm y0 j n D oa hD bs hb oa H.word;have hFo:=V2 g H.sz ps (.sl 1 (ints bs)) y0 j (a:=a+NB) (b:=b+NB) (d:=d+NB) oa hy hd.up.ab hd.up.ba hd.up.ad hd.up.da hd.up.bd hd.up.db;have QC:QU (T8 g.lex ps y0).2:=BQ oa hy;have AY:=Nb g w f ps q bs y0;have hdis:=hd;have rI: ¬NB=0:=by have:=qX;omega
 obtain⟨ab,ba,ad,da,ar,ra,bd,db,br,rb,dr,rd⟩:=hd;generalize hR:C6 g w (f+1) ps q bs y0=R at*
 replace AY:Kp _:=⟨AY⟩;refine mX (N:=79) (rs:=[.tmp 8]) qg func252 ?_;refine YN (fun _=>[(0,.one (.bx (r+NB) 14 0 0)),(1,dv (Zf ps)),(2,dv (lu q)),(3,dv (.sl 1 (ints bs)))]) (fun y:(eg×Nat)×(Nat×DataW j6)=>mS (a+NB) (b+NB) (d+NB) (r+NB) g w bm y.1.1 y.1.2) (fun y=>Q9 bm (bK y.2.1 y.2.2)) (fun y=>P9 g w ps q bs y0=(true,y.1.1)/\QU y.1.1/\y.2.1<=n+1/\TriOk g w y.2.2) ?_ ?_
 ·by_cases hc:0<ps.length/\¬QT .and .u32 q (ZV g.fin)=0/\w.length<=bs.length
  ·obtain⟨c1,c2,c3⟩:=hc;have t1:decide ((0:Int)<(ps.length:Int))=true:=og;have t2:(QT .and .u32 q (ZV g.fin)==0)=false:=og;have t3:decide ((w.length:Int)<=(bs.length:Int))=true:=og;have hT:P9 g w ps q bs y0=if iH g w bs=true then T8 g.lex ps y0 else(true,y0):=by unfold P9 Y9;simp[c1,c2,c3]
   rw[hT]at AY ⊢;clear hT c1 c2 c3 hW;generalize iH g w bs=ft at*
   generalize T8 g.lex ps y0=S at*
   replace hFi:Kp _:=⟨hFi⟩;replace hFo:Kp _:=⟨hFo⟩;obtain⟨sb,y1⟩:=S;simp only[mA,mD,mS,fJ];refine gB ?_;refine qfw [a+NB,b+NB,d+NB,r+NB] ?_ hFi.1;rintro q1 H1 M1 ⟨rfl,⟨k1,k2,k3,k4,k5,_⟩,n1,D1,pj,hD1,rfl⟩;cases ft
   ·refine gB ?_;exact⟨((y0,j),(n1,D1)),⟨rfl,hy,pj,hD1⟩,⟨rfl,rfl,rfl⟩,rfl⟩
   ·refine gB ?_;refine cM (Vm [a+NB,b+NB,d+NB] ?_ hFo.1);rintro q2 H2 ⟨rfl,j2,u2,u3,u4,u5,_⟩;cases sb
    ·have MP:R=(false,y1):=by rw[AY.1];simp
     rw[MP];clear AY MP;refine gB ?_;exact⟨rfl,⟨j2,ou⟩,n1,D1,wu pj (by simp only[zK];omega),hD1,rfl⟩
    ·refine gB ?_;exact⟨((y1,j2),(n1,D1)),⟨rfl,QC,pj,hD1⟩,⟨rfl,rfl,rfl⟩,rfl⟩
  ·have hT:P9 g w ps q bs y0=(true,y0):=by unfold P9 Y9;rw[j7];intro h;simp only[we,aj,bne_iff_ne,ne_eq]at h;exact hc ⟨h.1,h.2.1,h.2.2.1⟩
   clear hFi hFo hW;simp only[mA,mD,mS,fJ];by_cases c1:0<ps.length
   ·have t1:decide ((0:Int)<(ps.length:Int))=true:=by grind
    by_cases c2:QT .and .u32 q (ZV g.fin)=0
    ·have t2:(QT .and .u32 q (ZV g.fin)==0)=true:=by grind
     clear c1 c2 hc;refine gB ?_;exact⟨((y0,j),(n,D)),⟨rfl,hy,Nat.le_succ n,hD⟩,⟨rfl,rfl,rfl⟩,rfl⟩
    ·have t2:(QT .and .u32 q (ZV g.fin)==0)=false:=by grind
     have t3:decide ((w.length:Int)<=(bs.length:Int))=false:=og;clear c1 c2 hc;refine gB ?_;exact⟨((y0,j),(n,D)),⟨rfl,hy,Nat.le_succ n,hD⟩,⟨rfl,rfl,rfl⟩,rfl⟩
   ·have t1:decide ((0:Int)<(ps.length:Int))=false:=by grind
    clear c1 hc;refine gB ?_;exact⟨((y0,j),(n,D)),⟨rfl,hy,Nat.le_succ n,hD⟩,⟨rfl,rfl,rfl⟩,rfl⟩
 ·rintro⟨⟨y,j1⟩,n1,D1⟩ ⟨hh,hy1,pj,hD1⟩ s' hs ⟨s0,s1,s2,s3,_⟩ hB;obtain⟨b1,b2,b3,b4,b5,_⟩:=hB;simp only at hh hy1 pj hD1 b1 b2 b3 b4 b5;rw[hh]at AY;clear hh hFi hFo QC;by_cases h4:ps.length=4
  ·have MP:R=(true,y):=by rw[AY.1];simp[h4]
   have t4:((ps.length:Int)==4)=true:=og;rw[MP];clear AY MP hW h4;refine gB ?_;exact⟨rfl,⟨j1,ou⟩,n1,D1,wu pj (by simp only[zK];omega),hD1,rfl⟩
  have MP:R=vY (sf g w f ps q bs) g.lex y:=by rw[AY.1];simp[h4]
  have t4:((ps.length:Int)==4)=false:=og;have hW:=hW oa;clear AY h4 hR;rw[MP];clear MP;have qb6:=H.lex;have hmap:(g.lex.map Ent.enc).length=g.lex.length:=oh;refine gB ?_;refine XO g.lex [0,1,2,3,56,57] [] (fun k _=>[(58,dv (li k))]) (fun _ (y:(eg×Nat)×(Nat×DataW j6))=>mS (a+NB) (b+NB) (d+NB) (r+NB) g w bm y.1.1 y.1.2) (fun _ y=>Q9 bm (bK y.2.1 y.2.2)) (fun k y'=>QU y'.1.1/\vY (sf g w f ps q bs) (g.lex.take k) y=(true,y'.1.1)/\y'.2.1<=n+1+k*(2*zK f)/\TriOk g w y'.2.2) ((y,j1),(n1,D1)) rfl ⟨hy1,rfl,wu pj (jX _ _),hD1⟩ ?_ ?_ (h0:=oq) (hb0:=oq) (hb:=by(simp +decide only[go_sem, *];rfl)) (hn:=hs)
  ·clear s0 s1 s2 s3 b1 b2 b3 b4 b5 hs;rintro k e ⟨⟨y2,j2⟩,n2,D2⟩ hx hk hm qs qf hw ⟨F4,vO,MJ,hD2⟩;simp only at F4 vO MJ hD2;have LM:k*(2*zK f)<=4*(2*zK f):=wQ _ oa;have hsu:n+1+(k+1)*(2*zK f)=n+1+k*(2*zK f)+2*zK f:=og;have VR:n+zK (f+1)=n+1+10*zK f:=by simp only[zK];omega
   have lI:=qcS hx;have hA:=SH hdis.up g w bm y2 j2 q e.cls H.sz.steps H.step;have hS:=qar H hW bm y2 j2 n2 D2 e hm ps (afterA g.steps q e.cls) bs hdis.up oa hb lJ F4 hD2 oa;have hE:sf g w f ps q bs e y2=if afterA g.steps q e.cls=0 then(true,y2)else nZ g w f ps (afterA g.steps q e.cls) bs e y2:=rfl
   have VL:QU (nZ g w f ps (afterA g.steps q e.cls) bs e y2).2:=by
    unfold nZ;split
    ·exact F4
    ·refine fG (fun p s hs=>?_) _ _ F4;unfold pr;split
     ·exact hs
     ·exact gL ot hs
   have io: ∀z,sf g w f ps q bs e y2=(true,z)->vY (sf g w f ps q bs) (g.lex.take (k+1)) y=(true,z):=fun z h=>by rw[qs,gK _ vO (by rw[h]),h]
   have fZ: ∀z,sf g w f ps q bs e y2=(false,z)->vY (sf g w f ps q bs) g.lex y=(false,z):=fun z h=>by rw[lI,tv _ vO (by rw[h]),h]
   generalize afterA g.steps q e.cls=q2 at*
   generalize nZ g w f ps q2 bs e y2=F at*
   clear hW qs lI vO hm;replace io:Kp _:=⟨io⟩;replace fZ:Kp _:=⟨fZ⟩;replace hS:Kp _:=⟨hS⟩;replace hA:Kp _:=⟨hA⟩;replace hE:Kp _:=⟨hE⟩;replace VR:Kp _:=⟨VR⟩;replace hsu:Kp _:=⟨hsu⟩;simp only[mA,mD,mS,fJ];refine gB ?_;refine cM (Vm [a+NB,b+NB,d+NB,r+NB] ?_ hA.1);rintro q1 H1 ⟨rfl,k1,k2,k3,k4,k5,_⟩;by_cases h0:q2=0
   ·have t0:(q2==0)=true:=by grind
    have hy3:=io.1 y2 (by rw[hE.1,ae h0]);clear hE h0;refine gB ?_;exact⟨((y2,j2),(n2,D2)),⟨F4,rfl,by rw[hsu.1];exact wu MJ (jX _ _),hD2⟩,qJ,rfl⟩
   ·have t0:(q2==0)=false:=by grind
    have De:sf g w f ps q bs e y2=F:=by rw[hE.1,j7 h0]
    clear hE h0;refine gB ?_;refine qfw [a+NB,b+NB,d+NB,r+NB] ?_ hS.1;obtain⟨fb,y3⟩:=F;rintro qq H' M' ⟨rfl,⟨j3,u1,u2,u3,u4,u5,_⟩,n3,D3,hn3,hD3,rfl⟩;cases fb
    ·have fZ:=fZ.1 y3 De;rw[fZ];clear fZ io hS;refine gB ?_;exact⟨rfl,⟨j3,ou⟩,n3,D3,by rw[VR.1];omega,hD3,rfl⟩
    ·have io:=io.1 y3 De;clear fZ hS;refine gB ?_;exact⟨((y3,j3),(n3,D3)),⟨VL,rfl,by rw[hsu.1];exact wu hn3 (Nat.add_le_add_right MJ _),hD3⟩,qJ,rfl⟩
  ·clear s0 s1 s2 s3 b1 b2 b3 b4 b5 hs;rintro⟨⟨y2,j2⟩,n2,D2⟩ qf ⟨F4,vO,MJ,hD2⟩;simp only at F4 vO MJ hD2;rw[wc]at vO;have LM:g.lex.length*(2*zK f)<=5*(2*zK f):=wQ _ qb6;have VR:n+zK (f+1)=n+1+10*zK f:=by simp only[zK];omega
   rw[vO];have hend:n2<=n+zK (f+1):=oa;clear vO hW LM VR MJ;simp only[mA,mD,mS,fJ];refine gB ?_;exact⟨rfl,⟨j2,ou⟩,n2,D2,hend,hD2,rfl⟩
def Dq{g:Lg}{w:List Int}(H:SrG g w): ∀f,JT g w (f+1)
 | 0=>Nd H fun h=>ak h (Nat.lt_irrefl 0)
 | f+1=>Nd H fun _=>Dq H f
def T6(g:Lg)(w:List Int)(f:Int)(bm d:Nat):List T:=[.c (.sl 2 (g.inv.map Phon.enc)),.c (ls g.nm),.c (.sl 2 (g.units.map Unt.enc)),.c (.sl 1 (g.letters.map Z2)),.c (.sl 6 (g.rules.map Rul.enc)),.c (li g.states),.c (.sl 3 (g.steps.map Stp.enc)),.c (.sl 1 (ints g.fin)),.c (.sl 8 (g.lex.map Ent.enc)),.c (.sl 1 (ints w)),.c (lb (oH g.rules)),.c (lu f),.c (.lit (.map (some bm))),pu g d]
def J6(g:Lg)(w:List Int):TriOk g w (.map []):=⟨isMap_empty,fun b _ h=>by simp[jl]at h⟩
attribute [local go_sem] vp mA mD mS su pu fJ T6 ZO zf Zf
abbrev Xy:Dl.PL:=fun|6=> Dl.ll 0 9 [(9,.step)]|_=>[]
def qeD{g:Lg}{w:List Int}(H:SrG g w){a b d:Nat}(hd: ¬a=b/\¬a=d/\¬b=d):
  MCalls pP 235 [.agg ((ZO g).map T.c),dv (.sl 1 (ints w)),.one (pu g (d+NB))] (ml (mD (a+NB) (b+NB) (d+NB) ([],false) 0)) noMap (fun q H' _=>q= .tup []/\∃j',AllM H' (mD (a+NB) (b+NB) (d+NB) (tF g w) j')):=by
 have qi:=qo;obtain⟨ab,ad,bd⟩:=hd;have ba: ¬b=a:=fun h=>ab h.symm;have da: ¬d=a:=fun h=>ad h.symm;have db: ¬d=b:=fun h=>bd h.symm;have rI: ¬NB=0:=by have:=qX;omega
 have hwl:=H.word;have hS:=qaC g.rules (by have:=H.sz.rules;omega) (fun r hr=>by rw[H.sz.dst r hr];exact(H.sz.rule r hr).1);have hF:=H.fins;by_cases h0:w.length=0
 ·have t0:((w.length:Int)==0)=true:=by rw[aq];omega
  have hr:tF g w=([],false):=by unfold tF;rw[ae (.inl h0)]
  rw[hr];clear h0 hS hF hr;refine mX (N:=46) (rs:=[]) Xy func235 ?_;refine gB ?_;exact⟨0,rfl,rfl⟩
 have t0:((w.length:Int)==0)=false:=by rw[aA];omega
 have t1:decide ((24:Int)<(w.length:Int))=false:=au oa;refine mX (N:=46) (rs:=[]) Xy func235 ?_;refine gB ?_;refine xMW (qbj [[],[],[],[2],[3],[],[],[0,1,4,5,6],[7],[8,4,0,1,2,3,4,5,6,7,8]] [0,1,2,3,4,5,6,7,8,9]
  (fun m y=>C8 46 [(1,dv (.sl 1 (ints w))),(2,.one (pu g (d+NB))),(3,.one (.bx 3 9 0 0))] [(0,17,.agg ((ZO g).map T.c)),(1,18,dv (.sl 1 (ints w))),(2,19,.one (.bx 3 9 0 4)),(3,20,dv (.sl 6 (g.rules.map Rul.enc))),(4,21,dv (lb (oH g.rules))),(5,22,XN y),(6,23,.one (pu g (d+NB))),(7,24,.agg (T6 g w 0 y (d+NB))),(8,25,.one (.bx 25 14 0 0)),(9,6,.one (.bx 25 14 0 0))]
   (fun m=>if m.testBit 8=true then ml ((25,[T6 g w 0 y (d+NB)])::(3,[(ZO g).map T.c])::mD (a+NB) (b+NB) (d+NB) ([],false) 0)else ml ((3,[(ZO g).map T.c])::mD (a+NB) (b+NB) (d+NB) ([],false) 0)) m)
  (fun m y=>if m.testBit 5=true then Q9 y (bK 0 (.map []))else noMap) 0 1023 om rfl om om om om om (fun _ _=>rfl) ?_ oh ?_ ?_)
 ·simp only[C8,Nat.zero_testBit,yq,ap,wo,wm,wD,wI];exact qw rfl oq oq
 ·refine⟨?_,?_,?_,?_,?_,?_,?_,?_,?_,?_,trivial⟩;all_goals(intro m bO QG Aa y)
  all_goals(simp only[ji,yS,yk,yJ,List.forall_mem_cons,w9,false_implies,implies_true,and_true]at Aa)
  all_goals
   have c9: ∀j,j∈ [0,1,2,3,4,5,6,7,8]->m.testBit j=false->m.testBit 9=false:=fun j hj h=>by
    cases h9:m.testBit 9
    ·rfl
    ·rw[QG 9 h9 j (by revert hj;simp +decide;omega)]at h;cases h
   have c8:m.testBit 7=false->m.testBit 8=false:=fun h=>by
    cases h9:m.testBit 8
    ·rfl
    ·rw[QG 8 h9 7 oo]at h;cases h
   have c7: ∀j,j∈ [0,1,4,5,6]->m.testBit j=false->m.testBit 7=false:=fun j hj h=>by
    cases h9:m.testBit 7
    ·rfl
    ·rw[QG 7 h9 j (by revert hj;simp +decide)]at h;cases h
   have c4:m.testBit 3=false->m.testBit 4=false:=fun h=>by
    cases h9:m.testBit 4
    ·rfl
    ·rw[QG 4 h9 3 oo]at h;cases h
   have c3:m.testBit 2=false->m.testBit 3=false:=fun h=>by
    cases h9:m.testBit 3
    ·rfl
    ·rw[QG 3 h9 2 oo]at h;cases h
  ·have b9:=c9 0 oo bO;have b7:=c7 0 oo bO;have b8:=c8 b7;clear QG c9 c8 c7 c4 c3;refine ZF 1 ?_;simp only[C8,wo,wm,wD,wI,yh,yC,wV,wy,vx,yu,yX,Nat.reduceEqDiff,decide_false,decide_true];refine gS ?_;exact⟨y,qJ,rfl⟩
  ·have b9:=c9 1 oo bO;have b7:=c7 1 oo bO;have b8:=c8 b7;clear QG c9 c8 c7 c4 c3;refine ZF 1 ?_;simp only[C8,wo,wm,wD,wI,yh,yC,wV,wy,vx,yu,yX,Nat.reduceEqDiff,decide_false,decide_true];refine gS ?_;exact⟨y,qJ,rfl⟩
  ·have b9:=c9 2 oo bO;have b4:=c4 (c3 bO);have b7:=c7 4 oo b4;have b8:=c8 b7;clear QG c9 c8 c7 c4 c3;refine ZF 1 ?_;simp only[C8,wo,wm,wD,wI,yh,yC,wV,wy,vx,yu,yX,Nat.reduceEqDiff,decide_false,decide_true];refine gS ?_;exact⟨y,qJ,rfl⟩
  ·have b9:=c9 3 oo bO;have b4:=c4 bO;have b7:=c7 4 oo b4;have b8:=c8 b7;clear QG c9 c8 c7 c4 c3;refine ZF 1 ?_;simp only[C8,wo,wm,wD,wI,yh,yC,wV,wy,vx,yu,yX,Nat.reduceEqDiff,decide_false,decide_true];refine gS ?_;exact⟨y,qJ,rfl⟩
  ·have b9:=c9 4 oo bO;have b7:=c7 4 oo bO;have b8:=c8 b7;clear QG c9 c8 c7 c4 c3;refine ZF 1 ?_;simp only[C8,wo,wm,wD,wI,yh,yC,wV,wy,vx,yu,yX,Nat.reduceEqDiff,decide_false,decide_true];refine gS ?_;refine kq ?_;refine gS ?_;exact⟨y,qJ,rfl⟩
  ·have b9:=c9 5 oo bO;have b7:=c7 5 oo bO;have b8:=c8 b7;clear QG c9 c8 c7 c4 c3;refine Dh rfl (StepM.makeMap rfl 9 (plainElem pP 4) fun bb uO=>?_);simp only[C8,wo,wm,wD,wI,wy,vx,yu,yX,Nat.reduceEqDiff,decide_false,decide_true];refine gS ?_;refine⟨bb,qJ,?_⟩;funext k;simp only[MS.set,Q9,noMap,bK]
  ·have b9:=c9 6 oo bO;have b7:=c7 6 oo bO;have b8:=c8 b7;clear QG c9 c8 c7 c4 c3;refine ZF 1 ?_;simp only[C8,wo,wm,wD,wI,yh,yC,wV,wy,vx,yu,yX,Nat.reduceEqDiff,decide_false,decide_true];refine gS ?_;exact⟨y,qJ,rfl⟩
  ·have b9:=c9 7 oo bO;have b8:=c8 bO;clear QG c9 c8 c7 c4 c3;refine ZF 1 ?_;simp only[C8,wo,wm,wD,wI,yh,yC,wV,wy,vx,yu,yX,Nat.reduceEqDiff,decide_false,decide_true];refine gS ?_;exact⟨y,qJ,rfl⟩
  ·have b9:=c9 8 oo bO;have e7:=Aa;have e0:=QG 7 e7 0 oo;have e1:=QG 7 e7 1 oo;have e4:=QG 7 e7 4 oo;have e5:=QG 7 e7 5 oo;have e6:=QG 7 e7 6 oo;have e3:=QG 4 e4 3 oo;have e2:=QG 3 e3 2 oo;clear QG c9 c8 c7 c4 c3;refine ZF 1 ?_;simp only[C8,wo,wm,wD,wI,yh,yC,wV,wy,vx,yu,yX,Nat.reduceEqDiff,decide_false,decide_true];refine gS ?_;exact⟨y,qJ,rfl⟩
  ·obtain⟨d8,d4,d0,d1,d2,d3,d4',d5,d6,d7,_⟩:=Aa;clear QG c9 c8 c7 c4 c3;refine ZF 1 ?_;simp only[C8,wo,wm,wD,wI,yh,yC,wV,wy,vx,yu,yX,Nat.reduceEqDiff,decide_false,decide_true];refine gS ?_;exact⟨y,qJ,rfl⟩
 ·intro bm;have q: ∀k,k<10->Nat.testBit 1023 k=true:=oo;simp only[C8,wo,wm,wD,wI,q 0 oo,q 1 oo,q 2 oo,q 3 oo,q 4 oo,q 5 oo,q 6 oo,q 7 oo,q 8 oo,q 9 oo,an];clear hS q;refine gB ?_;refine XO g.fin [6,28,29] [d+NB,a+NB,b+NB,1000] (fun k _=>[(30,dv (li k))]) (fun k _=>[(25,[T6 g w (ZV (g.fin.take k)) bm (d+NB)])]) (fun _ _=>Q9 bm (bK 0 (.map []))) (fun _ (_:Unit)=>True) () rfl trivial ?_ ?_ (hb0:=by simp +decide only[go_sem, *,show ZV []=0 from rfl,wy]) (uO:=by(simp +decide only[go_sem, *];rfl)) (qi:=by have:=H.sz.fin;omega)
  ·rintro k x ⟨⟩ hx hk hm qs qf hw _;have hq:=hF x hm;have nq: ¬x<0:=oa;have hr:ZV (g.fin.take (k+1))=Ap (ZV (g.fin.take k)) x:=by rw[qs];simp only[ZV,yZ,yE,yj]
   rw[hr,Ap];generalize ZV (g.fin.take k)=fq at*
   clear hr qs hm hF;refine gB ?_;exact⟨(),qJ⟩
  ·rintro⟨⟩ qf _;rw[wc];have XS:=Dq H 4 (a+NB) (b+NB) (d+NB) 25 bm ([],false) 0 0 (.map []) [] 1 [] (Dis.mk' oa oa (by have:=qX;omega) oa (by have:=qX;omega) (by have:=qX;omega)) rfl (fun x h=>by cases h) (wl _) ⟨wM _,fun q h=>by cases h⟩ (J6 g w) oo;have qS:tF g w=(C6 g w 5 [] 1 [] ([],false)).2:=by unfold tF;rw[j7 oa]
   rw[qS];clear qS hF;generalize hR:(C6 g w 5 [] 1 [] ([],false))=R at*
   refine gB ?_;refine qgS [a+NB,b+NB,d+NB,25] ?_ (hc:=XS) (vh:=by simp +decide only[go_sem, *];exact .cons (DLe.rfl_ _) (.cons oE (.cons (DLe.rfl_ _) (.cons oE .nil))));rintro qq H' M' ⟨rfl,⟨j3,u1,u2,u3,u4,u5,_⟩,n3,D3,hn3,hD3,rfl⟩;clear XS;refine gB ?_;exact⟨j3,rfl,rfl⟩
def qeE(H:SrG g w){b d:Nat}(hd: ¬a=b/\¬a=d/\¬b=d):ECalls pP 235 [.agg ((ZO g).map T.c),dv (.sl 1 (ints w)),.one (pu g (d+NB))] (ml (mD (a+NB) (b+NB) (d+NB) ([],false) 0)) (fun q H'=>q= .tup []/\∃j',AllM H' (mD (a+NB) (b+NB) (d+NB) (tF g w) j')):=ECalls.of_maps (qeD H hd)
def z6(l:List (List Prt)):List (List Dl.C):=l.map zf
def SG(H:w.length<=24->SrG g w):DCalls pP 204 [.agg ((ZO g).map T.c),dv (.sl 1 (ints w))] (.tup [dv (.sl 1 (z6 (Ms g w).1)),dv (li (Ms g w).2)]):=by
 have qi:=qo;have hW:=s6 g.inv w;rw[show vM g.inv w=s7 g.inv w from rfl]at hW;simp only[qj]at hW;unfold Ms;by_cases h0:s7 g.inv w=0;rotate_left
 ·have t0:(s7 g.inv w==0)=false:=by grind
  rw[ae h0];clear H h0;generalize s7 g.inv w=e at*
  refine dX (N:=24) (rs:=[.tmp 4,.tmp 5]) qg func204 ?_;refine gB ?_;simp only[go_sem,z6,wm]
 have hl:w.length<=24:=by
  unfold s7 at h0;split at h0
  ·omega
  ·omega
 have H:=H hl;have hR:=qeE H (a:=7) (b:=8) (d:=9) ⟨oo,oo,oo⟩;rw[h0,j7 oh];rw[h0]at hW;clear H h0 hl;generalize tF g w=R at*
 obtain⟨L,fl⟩:=R;refine dX (N:=24) (rs:=[.tmp 4,.tmp 5]) qg func204 ?_;refine gB ?_;refine CallC.sub (s':=kn 24 [(5,dv (li 0)),(7,.one (.bx 7 1 0 0)),(8,.one (.bx 8 1 0 0)),(18,.agg ((ZO g).map T.c)),(19,dv (.sl 1 (ints w))),(20,.one (pu g 9))] (ml (mD 7 8 9 ([],false) 0)))
  (DS.Sub.trans (QK 2 (ZO g) (by simp[ZO]) ou) (DS.Sub.trans (eo 7 0 0 1000 1 1 (rows:=[[.ex 1 []]]) (r:=[.ex 1 []]) ou oo rfl rfl) (qw rfl oq oq))) rfl ?_
 refine gB ?_;refine Lm [7,8,9] ?_ hR;rintro q H' ⟨rfl,j',k1,k2,k3,k4,_⟩;have sJ:L.length<=(z6 L).length:=by simp[z6]
 have gg:List.take L.length (z6 L)=z6 L:=yv (by simp[z6]);have haa:L.map zf=z6 L:=rfl;refine⟨kn 24 [(7,.one (.bx 7 1 0 0)),(8,.one (.bx 8 1 0 0))] (ml [(7,[[.c (.sl 1 (z6 L))]]),(8,[[.c (lb fl)]])]),DS.Sub.trans (ca 1000 1 (z6 L) (qa j' 1) oo ou (fun r hr=>by obtain⟨p,_,rfl⟩:=wN.1 hr;rfl)) (qw rfl oq oq),rfl,?_⟩;refine gB ?_;simp only[go_sem,z6,wm]
structure SrL(g:Lg):Prop where
 sz:SzG g
 step: ∀x∈g.steps,0<=x.src/\0<=x.dst
 fins: ∀q∈g.fin,0<=q
 lex:g.lex.length<=5
 two: ∀e∈g.lex,(QR e).length<=2
 form: ∀e∈g.lex,∀x∈QR e,x.length<=3/\dj x
def SrL.at_(h:SrL g)(hw:w.length<=24):SrG g w:=⟨h.sz,h.step,h.fins,h.lex,h.two,h.form,hw⟩
theorem qD(g:Lg):(ZO g).map T.c=g.row:=rfl
def WL(H:SrL g)(s:ByteArray)(hs:s.size<=1048576):DCalls pP 163 [.agg g.row,dv (ls s)] (.tup [dv (.sl 1 (z6 (iO g s).1)),dv (li (iO g s).2)]):=by
 have hR:=GQ (ls g.nm) (.sl 1 (g.letters.map Z2)) g.units s H.sz.units H.sz.unit hs;have hA:=SG (g:=g) (w:=(a8 g.units s).1) fun h=>H.at_ h;rw[<-qD];unfold iO;generalize a8 g.units s=R at*
 obtain⟨w,x,e⟩:=R;simp only at hA ⊢;by_cases h0:e=0;rotate_left
 ·have t0:(e==0)=false:=by grind
  rw[ae h0];clear hA h0;refine dX (N:=25) (rs:=[.tmp 4,.tmp 5]) qg func163 ?_;refine gB ?_;simp only[go_sem,z6,wm]
 subst h0;rw[j7 oh];generalize Ms g w=F at*
 refine dX (N:=25) (rs:=[.tmp 4,.tmp 5]) qg func163 ?_;exact gA
end
abbrev Tr:=List Prt
def sq(a:Tr):List T:=[.c (Zf a)]
def Vx(p:Tr->Bool)(f:Nat)(cs:List Dl.C)(xs:List Tr)(hf: ∀s∈xs,DCalls pP f (.agg (sq s)::cs.map fun c=>D.one (.c c)) (dv (lb (p s))))(j q:Nat)(hq:NB<=q)(hl:xs.length<=1000000):
  ECalls pP 205 [.one (.ba q 1 0 xs.length (xs.length+j)),dv (.fn f cs)] (ml [(q,cr (xs.map zf)++qa j 1)])
   (fun r H'=>r=dv (li (zG p xs))/\H'=ml [(q,cr (xs.map zf)++qa j 1)]):=by
 have qi:=qo;have uI: ∀x:Tr,(zf x).map T.c=sq x:=fun _=>rfl;refine Qn (N:=19) (rs:=[.tmp 4]) om func205 rfl rfl rfl oh ?_;refine vB qg ?_;refine vq xs (fun k=>kn 19 [(0,.one (.ba q 1 0 xs.length (xs.length+j))),(1,dv (.fn f cs)),(7,dv (li xs.length)),(8,dv (li k))] (ml [(q,cr (xs.map zf)++qa j 1)])) (fun k=>∀s∈xs.take k,p s=false) oa (Zb) oh ?_ ?_
 ·intro k x hx hk hm qs qf hw hi;have hc:=hf x hm;have hz:(cr (xs.map zf)++qa j 1)[k]? =some (sq x):=by rw[iJ (x:=zf x) (by rw[wh,hx];rfl),uI]
  simp only[sq]at hc hz;cases h1:p x<;>rw[h1]at hc
  ·(repeat' first|(first|refine qC ?_|refine kx hc ?_|apply kU);simp only[go_sem,qf,hw,hz,hk]|apply kh<;>intro qe)
   exact⟨qG qs hi h1,Zb⟩
  ·refine vB qg ?_;refine qn (qw (N:=19) (sls:=[(4,dv (li k))]) (bxs:=[(q,cr (xs.map zf)++qa j 1)]) rfl oe oe) ?_;apply qb;simp +decide only[go_sem];rw[z8 hx hi h1];exact⟨rfl,rfl⟩
 ·intro qf hi;rw[wc]at hi;refine vB qg ?_;refine qn (qw (N:=19) (sls:=[(4,dv (li (-1)))]) (bxs:=[(q,cr (xs.map zf)++qa j 1)]) rfl oe oe) ?_;apply qb;simp +decide only[go_sem];rw[z7 hi];exact⟨rfl,rfl⟩
def Wl(p:Tr->Bool)(f:Nat)(cs:List Dl.C)(xs:List Tr)(hf: ∀s∈xs,DCalls pP f (.agg (sq s)::cs.map fun c=>D.one (.c c)) (dv (lb (p s))))(j q:Nat)(hq:NB<=q)(hl:xs.length<=1000000):
  ECalls pP 164 [.one (.ba q 1 0 xs.length (xs.length+j)),dv (.fn f cs)] (ml [(q,cr (xs.map zf)++qa j 1)])
   (fun r H'=>∃j',r= .one (.ba q 1 0 (xs.filter fun s=> !p s).length ((xs.filter fun s=> !p s).length+j'))/\H'=ml [(q,cr ((xs.filter fun s=> !p s).map zf)++qa j' 1)]):=by
 have qi:=qo;have uI: ∀x:Tr,(zf x).map T.c=sq x:=fun _=>rfl;have Jo:(q<NB)=False:=og;have hq7:(q=7)=False:=aC (by have:=qX;omega);have hq7':(7=q)=False:=og;have Tc:(10=q)=False:=aC (by have:=qX;omega);have hI:=Vx p f cs xs hf j (q+NB) (y7 _ _) hl;refine Qn (N:=42) (rs:=[.tmp 4]) om func164 rfl rfl rfl oh ?_;refine vB qg ?_;refine CallC.eff [q] hI rfl (DLeL.of_eq oe) (fun k r h=>?_) ⟨fun n hn=>?_,fun n hn=>?_⟩ ?_
 ·by_cases hk:k=q+NB
  ·subst hk;simp +decide only[go_sem]at h;subst h;simp +decide only[go_sem,vf]
  ·simp +decide only[go_sem,hk]at h
 ·simp only[wJ,w9,ax]at hn;subst hn;exact mK hq
 ·grind
 rintro r H' ⟨rfl,rfl⟩;simp +decide only[go_sem];cases h0:xs.any p
 ·have hi:zG p xs= -1:=z7 fun y hy=>by have:=yY.1 h0 y hy;simpa using this
  have P8:xs.filter (fun s=> !p s)=xs:=List.filter_eq_self.2 fun y hy=>by have:=yY.1 h0 y hy;simpa using this
  rw[hi,P8];refine vB qg ?_;refine qn (qw (N:=42) (sls:=[(4,.one (.ba q 1 0 xs.length (xs.length+j)))]) (bxs:=[(q,cr (xs.map zf)++qa j 1)]) rfl (by simp +decide only[go_sem,Nat.reduceEqDiff]) (by simp +decide only[go_sem,qF,Tc,Jo])) ?_;apply qb;simp +decide only[go_sem];exact⟨j,rfl,rfl⟩
 obtain⟨y0,k0,hy0,Z5,EW⟩: ∃(y:Tr) (k:Nat),xs[k]? =some y/\(∀z∈xs.take k,p z=false)/\p y=true:=by
  cases hf0:xs.find? p with
  | none=> 
   obtain⟨z,hz,hpz⟩:=yK.1 h0;exact ak hpz (by simpa using List.find?_eq_none.1 hf0 z hz)
  | some y=>
   obtain⟨h1,l1,l2,e,h2⟩:=List.find?_eq_some_iff_append.1 hf0;exact⟨y,l1.length,by rw[e];simp,by rw[e];simpa using h2,h1⟩
 have bw:=(wg.1 hy0).1;have hi:zG p xs=(k0:Int):=z8 hy0 Z5 EW;have qH:((k0:Int)== -1)=false:=oh;have VF:=zx k0 oa;rw[hi];refine vB qg ?_;have qd0:(xs.take (k0+1)).filter (fun s=> !p s)=xs.take k0:=by rw[zy hy0,jr];simp[EW];exact fun z hz=>Z5 z hz
 have hkt:(xs.take k0).length=k0:=og;refine q8 (fun i:Nat=>kn 42 [(0,.one (.ba q 1 0 xs.length (xs.length+j))),(1,dv (.fn f cs)),(5,dv (li ((xs.take i).filter fun s=> !p s).length)),(6,dv (li i))] (ml [(q,cr ((((xs.take i).filter fun s=> !p s)++xs.drop ((xs.take i).filter fun s=> !p s).length).map zf)++qa j 1)]))
  (fun i=>i<=xs.length/\((xs.take i).filter fun s=> !p s).length<i) (fun i=>xs.length - i) (k0+1) (qw rfl (by simp +decide only[go_sem,qd0,hkt,Jo,Tc,Nat.reduceEqDiff,and_false,ax]) (by simp +decide only[go_sem,qd0,hkt,yf,qF,Tc,Jo])) ⟨oa,by rw[qd0];omega⟩ ?_
 rintro i ⟨E9,hCl⟩;cases t1:decide ((i:Int)<(xs.length:Int))
 ·have hie:i=xs.length:=by grind
  have hfx:xs.filter (fun s=> !p s)=(xs.take i).filter fun s=> !p s:=og;rw[hfx];generalize (xs.take i).filter (fun s=> !p s)=C at*
  have qd9:C.length<=xs.length:=oa;have hCj:C.length<=xs.length+j:=oa;have qcp:=wM C.length;have vh:xs.length<=xs.length+j:=oa
  (repeat' first|(first|refine qC ?_|apply kU);simp only[go_sem,t1,qd9,vh]|apply kh<;>intro qe)
  have lF:(cr ((C++xs.drop C.length).map zf)).length=xs.length:=by rw[qK,wn];simp;omega
  refine StepC.mk (Step.clear (n:=q) (rows:=cr ((C++xs.drop C.length).map zf)++qa j 1) (i:=C.length) (len:=xs.length - C.length) (cap:=xs.length+j - C.length) (sz:=1) (by_:=24) rfl oe oe oe (by rw[wz,lF];omega)
   (fun r hr=>(wF.1 hr).elim (nu (sz:=1) (fun r hr=>by obtain⟨x,_,rfl⟩:=wN.1 hr;rfl) r) (zm j 1 r)) ?_)
  have mW:(cr ((C++xs.drop C.length).map zf)++qa j 1).take C.length++(qa (xs.length - C.length) 1++(cr ((C++xs.drop C.length).map zf)++qa j 1).drop (C.length+(xs.length - C.length)))=cr (C.map zf)++qa (xs.length - C.length+j) 1:=by rw[show C.length+(xs.length - C.length)=(cr ((C++xs.drop C.length).map zf)).length by rw[lF];omega,List.drop_left,yt,Qv,wS,List.take_left' (by rw[qK,wn])];congr 1;simp[qa,jj]
  rw[mW];simp +decide only[go_sem]
  (repeat' first|(first|refine qC ?_|apply kU);simp only[go_sem,hCj,qcp,jW]|apply kh<;>intro qe)
  have QH:xs.length+j=C.length+(xs.length - C.length+j):=oa;refine qn (qw (N:=42) (sls:=[(4,.one (.ba q 1 0 C.length (xs.length+j)))]) (bxs:=[(q,cr (C.map zf)++qa (xs.length - C.length+j) 1)]) rfl oe oe) ?_;apply qb;simp +decide only[go_sem];exact⟨_,by rw[<-QH],rfl⟩
 ·have MK:i<xs.length:=by grind
  obtain⟨x,hx⟩: ∃x,xs[i]? =some x:=⟨_,wa MK⟩;have Z9:(xs.take (i+1)).filter (fun s=> !p s)=((xs.take i).filter fun s=> !p s)++if p x then []else [x]:=by rw[zy hx,jr];congr 1;cases hp:p x<;>simp[hp]
  have hc:=hf x (ww hx);have mV:=zx i oa;generalize (xs.take i).filter (fun s=> !p s)=C at*
  have rG:=zx C.length oa;have hCx:C.length<xs.length:=oa;have hz:(cr ((C++xs.drop C.length).map zf)++qa j 1)[i]? =some (sq x):=by rw[iJ (x:=zf x) (by rw[wh,wL oa,yl,show C.length+(i - C.length)=i by omega,hx];rfl),uI]
  obtain⟨z,hzz⟩: ∃z,xs[C.length]? =some z:=⟨_,wa hCx⟩;have xL:(cr ((C++xs.drop C.length).map zf)++qa j 1)[C.length]? =some (sq z):=by rw[iJ (x:=zf z) (by rw[wh,wL (wl _),yl,Nat.sub_self,jB,hzz];rfl),uI]
  have pd:(cr ((C++xs.drop C.length).map zf)++qa j 1).set C.length (sq x)=cr (((C++[x])++xs.drop (C.length+1)).map zf)++qa j 1:=by rw[<-uI x,CK (by rw[wn];simp;omega),<-List.map_set];congr 3;rw[List.set_append_right _ _ (wl _),wP hCx,Nat.sub_self,List.set_cons_zero,wS];rfl
  simp only[sq,yt]at hc hz xL pd;cases h1:p x<;>rw[h1]at hc Z9
  ·rw[j7 oh]at Z9;refine vB qg ?_;refine⟨i+1,⟨oa,by rw[Z9];simp;omega⟩,oa,qw rfl (by simp +decide only[go_sem,Z9,hq7,wz,wW,wT]) (by simp +decide only[go_sem,Z9,hq7,wz,wW,wT])⟩
  ·rw[ae rfl,yG]at Z9;refine vB qg ?_;refine⟨i+1,⟨oa,by rw[Z9];omega⟩,oa,qw rfl (by simp +decide only[go_sem,Z9,hq7]) (by simp +decide only[go_sem,Z9,hq7])⟩
def Md(xs:List (List Dl.C))(hz: ∀r∈xs,r.length=1)(hl:xs.length<=1000000):
  ECalls pP 165 [dv (.sl 1 xs)] qA (fun r H'=>∃j,r= .one (.ba 0 1 0 xs.length (xs.length+j))/\H'=ml [(0,cr xs++qa j 1)]):=by
 refine Qn (N:=8) (rs:=[.tmp 2]) om func165 rfl rfl rfl oh ?_;cases xs with
 | nil=>
  refine CC (sz:=1) 0 oe ?_ (fun a cap QH=>?_)
  ·refine uB qg ?_;apply qW;(simp +decide only[go_sem];rfl)
   ·intro _;refine uB qg ?_;refine qn (DS.Sub.trans (sub_zero 2 0 1 (.inl oe)) (qw (N:=8) (sls:=[(2,.one (.ba 0 1 0 0 0))]) (bxs:=[(0,[])]) rfl oe oe)) ?_;apply qb;simp +decide only[go_sem];exact⟨0,rfl,rfl⟩
   ·simp
  ·refine uB qg ?_;apply qW;(simp +decide only[go_sem];rfl)
   ·simp
   intro _;apply qt;simp +decide only[go_sem];refine qn (s':=kn 8 [(0,dv (.sl 1 []))] qA) (vU rfl ⟨.inr (by simp +decide only[go_sem];exact DLe.emp 1 QH),trivial⟩ (by simp[qA])) ?_;apply qk;refine dc (N:=8) [.hand] rfl om ?_;simp +decide only[go_sem];refine StepC.mk (Step.buildNone (sz:=1) rfl rfl oe ?_);simp +decide only[go_sem];refine StepC.mk (Step.appendList (n:=5) (sz:=1) (by_:=24) (rows:=[]) (j:=0) (ys:=[]) rfl rfl oe oe oe (by simp[RowsSz]) (mj (ys:=[]) oe) oh ?_);intro j';simp +decide only[go_sem];refine vB qg ?_;refine qn (DS.Sub.trans (zB 7 0 oa) (qw (N:=8) (sls:=[(2,.one (.ba 0 1 0 0 (0+j')))]) (bxs:=[(0,cr []++qa j' 1)]) rfl oe (by simp +decide only[go_sem,xf]))) ?_;apply qb;simp +decide only[go_sem];exact⟨j',rfl,rfl⟩
 | cons x xs=>
  refine uB qg ?_;apply qW;(simp +decide only[go_sem];rfl)
  ·simp
  intro _;apply qt;simp +decide only[go_sem];apply qk;refine dc (N:=8) [.hand] rfl om ?_;simp +decide only[go_sem];refine StepC.mk (Step.buildNone (sz:=1) rfl rfl oe ?_);simp +decide only[go_sem];refine StepC.mk (Step.appendList (n:=5) (sz:=1) (by_:=24) (rows:=[]) (j:=0) (ys:=cr (x::xs)) rfl rfl oe oe oe (by simp[RowsSz]) (mj oe) (by simp only[qK,wT];omega) ?_);intro j';simp +decide only[go_sem];refine vB qg ?_;refine qn (DS.Sub.trans (zB 7 0 oa) (qw (N:=8) (sls:=[(2,.one (.ba 0 1 0 (x::xs).length ((x::xs).length+j')))]) (bxs:=[(0,cr (x::xs)++qa j' 1)]) rfl (by simp +decide only[go_sem,qK]) oe)) ?_;apply qb;simp +decide only[go_sem];exact⟨j',rfl,rfl⟩
section
attribute [local go_sem] vp Dcs.row Dcs.enc
def Vw(p:Dcs->Bool)(f:Nat)(cs:List Dl.C)(l:List Dcs)(hf: ∀d∈l,DCalls pP f (.agg d.row::cs.map fun c=>D.one (.c c)) (dv (lb (p d))))(hl:l.length<=1048576):
  DCalls pP 140 [dv (.sl 4 (l.map Dcs.enc)),dv (.fn f cs)] (dv (li (zG p l))):=by
 have qi:=qo;replace hf:Kp _:=⟨hf⟩;refine dX (N:=19) (rs:=[.tmp 4]) qg func140 ?_;refine gB ?_;refine lp l [0,1,7] [] (fun k=>[(8,dv (li k))]) (fun _=>[]) (fun k=>∀d∈l.take k,p d=false) oh ?_ ?_
 ·intro k d hd hk hm qs qf hw hi;have hc:=hf.1 d hm;have h1:p d=true->zG p l=k:=fun h=>z8 hd hi h;have h2:p d=false->∀x∈l.take (k+1),p x=false:=og;clear hi hm qs;generalize p d=b at*
  replace h1:Kp _:=⟨h1⟩;replace h2:Kp _:=⟨h2⟩;cases b
  ·repeat' first|refine gQ ?_|exact gU|refine gS ?_|exact gT|(first|apply xc|apply gf|apply gt)<;>intro hc
   exact⟨h2.1 rfl,qJ⟩
  ·rw[h1.1 rfl];exact gA
 intro qf hi;rw[wc]at hi;rw[z7 hi];clear hi;exact gA
def JK(p:Dcs->Bool)(f:Nat)(cs:List Dl.C)(l:List Dcs)(hf: ∀d∈l,DCalls pP f (.agg d.row::cs.map fun c=>D.one (.c c)) (dv (lb (p d))))(hl:l.length<=1048576):
  DCalls pP 78 [dv (.sl 4 (l.map Dcs.enc)),dv (.fn f cs)] (dv (lb (l.any p))):=by
 have hI:=Vw p f cs l hf hl;have hd:decide ((0:Int)<=zG p l)=l.any p:=by
  unfold zG;cases l.any p
  ·simp
  ·simp
 generalize zG p l=i at*
 generalize l.any p=b at*
 clear hf;refine dX (N:=9) (rs:=[.tmp 4]) qg func78 ?_;exact gA
def qc7(d:Dcs)(r:Rf)(a:Tr)(h1:d.pick.length<=1048576)(h2:a.length<=1048576):DCalls pP 167 [.agg d.row,dv (.pt [li r.rc,li r.note]),dv (.pt [Zf a])] (dv (lb (decide (d.ref=r)&&(!d.yes&&decide (d.pick=a))))):=by
 have hS:=IK d.pick a h1 h2;simp only[Zf]at hS;rw[show decide (d.ref=r)=(d.ref.rc==r.rc&&d.ref.note==r.note) by rw[y8];cases d with|mk ref yes pick=>cases ref;cases r;simp];generalize decide (d.pick=a)=b at*
 simp only[Dcs.row];generalize d.yes=y at*
 clear h1 h2;refine dX (N:=20) (rs:=[.tmp 4]) qg func167 ?_;cases y<;>cases hr:(d.ref.rc==r.rc&&d.ref.note==r.note)
 ·exact gA
 ·exact gA
 ·exact gA
 ·exact gA
def qf0(l:List Dcs)(r:Rf)(a:Tr)(hl:l.length<=1048576)(h1: ∀d∈l,d.pick.length<=1048576)(h2:a.length<=1048576):DCalls pP 166 [.agg (sq a),dv (.pt [.sl 4 (l.map Dcs.enc)]),dv (.pt [li r.rc,li r.note])] (dv (lb (Ec l r a))):=by
 have hC:=JK (fun d=>decide (d.ref=r)&&(!d.yes&&decide (d.pick=a))) 167 [.pt [li r.rc,li r.note],.pt [Zf a]] l (fun d hd=>qc7 d r a (h1 d hd) h2) hl;unfold Ec;generalize l.any (fun d=>decide (d.ref=r)&&(!d.yes&&decide (d.pick=a)))=b at*
 clear h1 h2;simp only[sq];refine dX (N:=8) (rs:=[.tmp 4]) qg func166 ?_;refine gB ?_;refine CallC.frz 3 [Zf a] oh ou ?_;exact gA
def FR(g:Lg)(s:ByteArray):(iO g s).1.length<=200/\∀a∈(iO g s).1,a.length<=4:=by
 have h: ∀w,QU (tF g w):=fun w=>by
  unfold tF;split
  ·exact⟨wM _,fun q h=>by cases h⟩
  ·exact gL oh ⟨wM _,fun q h=>by cases h⟩
 have h0:(([]:List (List Prt)).length<=200/\∀a∈([]:List (List Prt)),a.length<=4):=oh;unfold iO;split
 ·exact h0
 ·unfold Ms;split
  ·exact h0
  ·split
   ·exact h0
   ·exact h _
def JL(g:Lg)(r:Rf)(s:ByteArray)(l:List Dcs):(iu g r s l).1.length<=200/\∀a∈(iu g r s l).1,a.length<=4:=by
 have h:=FR g s;unfold iu;split
 ·simp
 ·grind
def Sta.ag(s:Sta):D:=.agg (s.enc.map T.c)
attribute [local go_sem] ZO Sta.ag Sta.enc
def qfZ{g:Lg}(H:SrL g)(r:Rf)(s:ByteArray)(l:List Dcs)(hs:s.size<=1048576)(hl:l.length<=1048576)(hp: ∀d∈l,d.pick.length<=1048576):
  DCalls pP 127 [.agg g.row,.agg [.c (li r.rc),.c (li r.note)],dv (ls s),dv (.sl 4 (l.map Dcs.enc))] (.tup [dv (.sl 1 (z6 (iu g r s l).1)),dv (li (iu g r s l).2)]):=by
 have hO:=WL H s hs;have hk:=FR g s;rw[<-qD]at hO ⊢;unfold iu;generalize iO g s=R at*
 obtain⟨L,e⟩:=R;simp only at hO hk ⊢;have hC:ECalls pP 165 [dv (.sl 1 (z6 L))] (ml []) (fun r H'=>∃j,r= .one (.ba 0 1 0 L.length (L.length+j))/\H'=ml [(0,cr (z6 L)++qa j 1)]):=by have:=Md (z6 L) (fun r hr=>by obtain⟨x,_,rfl⟩:=wN.1 hr;rfl) (by simp[z6];omega);rw[show (z6 L).length=L.length by simp[z6],show qA=ml [] from funext fun _=>rfl]at this;exact this
 have hD:=fun j=>Wl (fun a=>Ec l r a) 166 [.pt [.sl 4 (l.map Dcs.enc)],.pt [li r.rc,li r.note]] L (fun a ha=>qf0 l r a hl hp (by have:=hk.2 a ha;omega)) j (22+NB) (y7 _ _) oa;by_cases h0:e=0;rotate_left
 ·have t0:(e==0)=false:=by grind
  rw[ae h0];clear hC hD hk h0;refine dX (N:=25) (rs:=[.tmp 8,.tmp 9]) qg func127 ?_;refine gB ?_;simp only[go_sem,z6,wm]
 subst h0;rw[j7 oh];clear hp hk;refine dX (N:=25) (rs:=[.tmp 8,.tmp 9]) qg func127 ?_;refine gB ?_;refine Vm [] ?_ hC (h1:=oh) (h2:=by intro x hx;injection hx with hx;subst hx;simp);rintro q H' ⟨j,rfl,rfl⟩;have hDj:=hD j;clear hD hC;generalize L.filter (fun a=> !Ec l r a)=F at*
 rw[show L.map zf=z6 L from rfl,show F.map zf=z6 F from rfl]at hDj;refine gB ?_;refine CallC.sub (s':=kn 25 [(9,dv (li 0)),(22,.one (.ba 22 1 0 L.length (L.length+j))),(23,dv (.fn 166 [.pt [.sl 4 (l.map Dcs.enc)],.pt [li r.rc,li r.note]]))] (ml [(22,cr (z6 L)++qa j 1)]))
  (DS.Sub.trans (QK 7 [.sl 4 (l.map Dcs.enc)] oh ou) (DS.Sub.trans (QK 5 [li r.rc,li r.note] oh ou) (qw rfl oq oq))) rfl ?_
 refine gB ?_;refine Lm [22] ?_ hDj;rintro q H' ⟨j',rfl,rfl⟩;have sJ:F.length<=(z6 F).length:=by simp[z6]
 have gg:List.take F.length (z6 F)=z6 F:=yv (by simp[z6]);refine⟨kn 25 [(9,dv (li 0)),(24,dv (.sl 1 (z6 F)))] (ml []),DS.Sub.trans (ca 22 1 (z6 F) (qa j' 1) oo oq (fun r hr=>by obtain⟨x,_,rfl⟩:=wN.1 hr;rfl)) (qw rfl oq oq),rfl,?_⟩;exact gA
def Bg(g:Lg)(a:List Prt):(iG g a).1.length<=24:=by
 unfold iG;split
 ·simp
 ·split
  ·simp
  ·rename_i h _;have h1:=oX g.inv g.rules (ZY g.lex a);have h2: ¬24<(ZY g.lex a).length:=fun h2=>by unfold Qy at h;simp only[h2,an]at h;grind
   simp only;omega
def AI(us:List Unt)(s:ByteArray):(a8 us s).1.length<=24:=by
 unfold a8;split
 ·simp
 ·grind
def ep{k:Int}{Z:Sta}(h:Z=⟨r,k,[]⟩):DLe (.agg [.c (li r.rc),.c (li r.note),.c (li k),.ex 3 []]) (.agg [.c (li Z.ref.rc),.c (li Z.ref.note),.c (li Z.kind),.c (Zf Z.pick)]):=by subst h;exact eV [.c (li r.rc),.c (li r.note),.c (li k),.ex 3 []]
def NL{k:Int}{a:List Prt}{Z:Sta}(h:Z=⟨r,k,a⟩):DLe (.agg [.c (li r.rc),.c (li r.note),.c (li k),.c (Zf a)]) (.agg [.c (li Z.ref.rc),.c (li Z.ref.note),.c (li Z.kind),.c (Zf Z.pick)]):=by subst h;exact DLe.rfl_ _
abbrev G4:Dl.PL:=fun|13=> Dl.ll 0 5 [(5,.step)]|_=>[]
def NM{g:Lg}(H:SrL g)(r:Rf)(s:ByteArray)(l:List Dcs)(hs:s.size<=1048576)(hl:l.length<=1048576)(hp: ∀d∈l,d.pick.length<=1000000):
  DCalls pP 67 [.agg g.row,.agg [.c (li r.rc),.c (li r.note)],dv (ls s),dv (.sl 4 (l.map Dcs.enc))] (vI g r s l).ag:=by
 have hP:=OM l r hl;have hR:=GQ (ls g.nm) (.sl 1 (g.letters.map Z2)) g.units s H.sz.units H.sz.unit hs;have hC:=qfZ H r s l hs hl fun d hd=>by have:=hp d hd;omega
 have hck:=JL g r s l;rw[<-qD]at hC ⊢;obtain⟨Z,hZ⟩: ∃Z,Z=vI g r s l:=⟨_,rfl⟩;rw[<-hZ];unfold vI at hZ;cases hpk:dK l r with
 | some a=>
  rw[hpk]at hP hZ;simp only at hZ;subst hZ;have hn:a.length<=1000000:=by
   unfold dK at hpk;cases hfd:l.find? fun d=>decide (d.ref=r)&&d.yes with
   | none=>grind
   | some d=>grind
  have vG:=AI g.units s;have hF:=Bg g a;have hL:=XP g (a8 g.units s).1 a H.sz hn oa oa;rw[<-qD]at hL;unfold EJ;simp only[yJ,Option.isSome_some]at hP;generalize a8 g.units s=R at*
  obtain⟨w,x,e⟩:=R;simp only at hR hL ⊢;generalize Pi g w a=b at*
  have he:decide (e=0)=(e==0):=rfl;rw[he];generalize ht:(e==0)=t0 at*
  clear hC hck hF vG hp;cases t0<;>cases b
  ·refine dX (N:=79) (rs:=[.cell 8 71]) G4 func67 ?_;exact gA
  ·refine dX (N:=79) (rs:=[.cell 8 71]) G4 func67 ?_;exact gA
  ·refine dX (N:=79) (rs:=[.cell 8 71]) G4 func67 ?_;exact gA
  ·refine dX (N:=79) (rs:=[.cell 8 71]) G4 func67 ?_;exact gA
 | none=>
  rw[hpk]at hP hZ;simp only[Option.getD_none,Option.isSome_none]at hP;generalize iu g r s l=R at*
  obtain⟨L,e⟩:=R;simp only at hC hck hZ;clear hR;have fy:(z6 L).length<=1000000:=by have:=hck.1;simp[z6];omega
  have g1:(e==11)=true->Z=⟨r,3,[]⟩:=og;have g2:decide ((1:Int)<((z6 L).length:Int))=true->Z=⟨r,3,[]⟩:=fun h=>by rw[hZ,ae (.inr (by simp[z6]at h;omega))]
  have g3:(e==11)=false->decide ((1:Int)<((z6 L).length:Int))=false->(!(e==0))=true->Z=⟨r,0,[]⟩:=fun h h' h''=>by rw[hZ,j7 (by simp[z6]at h h';omega),ae (by simpa using h'')]
  have g4:(e==11)=false->(!(e==0))=false->L= []->Z=⟨r,1,[]⟩:=fun h h' h''=>by subst h'';rw[hZ,j7 (by simp at h;simp;omega),j7 (by simpa using h')]
  have g5: ∀a,(e==11)=false->(!(e==0))=false->L= [a]->Z=⟨r,2,a⟩:=fun a h h' h''=>by subst h'';rw[hZ,j7 (by simp at h;simp;omega),j7 (by simpa using h')]
  clear hck hZ;replace g1:Kp _:=⟨g1⟩;replace g2:Kp _:=⟨g2⟩;replace g3:Kp _:=⟨g3⟩;rcases L with _|⟨a,_|⟨b,L⟩⟩
  ·have q4:Kp _:=⟨fun h h'=>g4 h h' rfl⟩;clear g4 g5;simp only[z6,wm]at hC;refine dX (N:=79) (rs:=[.cell 8 71]) G4 func67 ?_;repeat' first|refine gQ ?_|exact gU|refine gS ?_|exact gT|(first|apply xc|apply gf|apply gt)<;>intro hc
   ·exact ep (g1.1 (by assumption))
   ·exact ep (g3.1 (by assumption) oo (by assumption))
   ·exact ep (q4.1 (by assumption) (by assumption))
  ·have q5:Kp _:=⟨fun h h'=>g5 a h h' rfl⟩;clear g4 g5;simp only[z6,zf,wm,wo]at hC;refine dX (N:=79) (rs:=[.cell 8 71]) G4 func67 ?_;repeat' first|refine gQ ?_|exact gU|refine gS ?_|exact gT|(first|apply xc|apply gf|apply gt)<;>intro hc
   ·exact ep (g1.1 (by assumption))
   ·exact ep (g3.1 (by assumption) (by simp[z6]) (by assumption))
   ·exact NL (q5.1 (by assumption) (by assumption))
  ·clear g4 g5;have t1:decide ((1:Int)<((z6 (a::b::L)).length:Int))=true:=by simp[z6];omega
   refine dX (N:=79) (rs:=[.cell 8 71]) G4 func67 ?_;refine gC ?_ ?_<;>intro hc
   ·exact ep (g1.1 (by assumption))
   ·exact ep (g2.1 (by assumption))
attribute [local go_sem] vp Rul.enc Rul.row qj
def oU(g:List Phon)(n:Int):Bool:=decide (n<1)||decide ((g.length:Int)<n)
def Of(g:List Phon)(n:Int):DCalls pP 119 [dv (li n),dv (.pt [.sl 2 (g.map Phon.enc)])] (dv (lb (oU g n))):=by
 unfold oU;cases h:decide (n<1)
 ·refine dX (N:=13) (rs:=[.tmp 3]) qg func119 ?_;exact gA
 ·refine dX (N:=13) (rs:=[.tmp 3]) qg func119 ?_;exact gA
def Xt(g:List Phon)(n:Int):DCalls pP 121 [dv (li n),dv (.pt [.fn 119 [.pt [.sl 2 (g.map Phon.enc)]]])] (dv (lb (!(n==0)&&oU g n))):=by
 have h1:=Of g n;cases h:(n==0)
 ·refine dX (N:=11) (rs:=[.tmp 3]) qg func121 ?_;exact gA
 ·refine dX (N:=11) (rs:=[.tmp 3]) qg func121 ?_;exact gA
def qbD(p:Int->Bool)(f:Nat)(cs:List Dl.C)(l:List Int)(hf: ∀d∈l,DCalls pP f (dv (li d)::cs.map fun c=>D.one (.c c)) (dv (lb (p d))))(hl:l.length<=1048576):
  DCalls pP 158 [dv (.sl 1 (ints l)),dv (.fn f cs)] (dv (li (zG p l))):=by
 have qi:=qo;replace hf:Kp _:=⟨hf⟩;refine dX (N:=19) (rs:=[.tmp 4]) qg func158 ?_;refine gB ?_;refine lp l [0,1,7] [] (fun k=>[(8,dv (li k))]) (fun _=>[]) (fun k=>∀d∈l.take k,p d=false) oh ?_ ?_
 ·intro k d hd hk hm qs qf hw hi;have hc:=hf.1 d hm;have h1:p d=true->zG p l=k:=fun h=>z8 hd hi h;have h2:p d=false->∀x∈l.take (k+1),p x=false:=og;clear hi hm qs;generalize p d=b at*
  replace h1:Kp _:=⟨h1⟩;replace h2:Kp _:=⟨h2⟩;cases b
  ·repeat' first|refine gQ ?_|exact gU|refine gS ?_|exact gT|(first|apply xc|apply gf|apply gt)<;>intro hc
   exact⟨h2.1 rfl,qJ⟩
  ·rw[h1.1 rfl];exact gA
 intro qf hi;rw[wc]at hi;rw[z7 hi];clear hi;exact gA
def CP(p:Int->Bool)(f:Nat)(cs:List Dl.C)(l:List Int)(hf: ∀d∈l,DCalls pP f (dv (li d)::cs.map fun c=>D.one (.c c)) (dv (lb (p d))))(hl:l.length<=1048576):
  DCalls pP 120 [dv (.sl 1 (ints l)),dv (.fn f cs)] (dv (lb (l.any p))):=by
 have hI:=qbD p f cs l hf hl;have hd:decide ((0:Int)<=zG p l)=l.any p:=by
  unfold zG;cases l.any p
  ·simp
  ·simp
 generalize zG p l=i at*
 generalize l.any p=b at*
 clear hf;refine dX (N:=9) (rs:=[.tmp 4]) qg func120 ?_;exact gA
abbrev pl61:Dl.PL:=fun|6=> Dl.ll 0 8 []|_=>[]
def AC(g:List Phon)(r:Rul)(h1:r.src.length<=1000000)(h2:r.dst.length<=1048576):NCalls pP 61 [.agg (qj g),.agg r.row] (fun q=>∃e,q=dv (li e)):=by
 have qi:=qo;have hC1:=CP (oU g) 119 [.pt [.sl 2 (g.map Phon.enc)]] r.src (fun d _=>Of g d) oa;have hC2:=CP (fun n=> !(n==0)&&oU g n) 121 [.pt [.fn 119 [.pt [.sl 2 (g.map Phon.enc)]]]] r.dst (fun d _=>Xt g d) oa;have hS:=sorted_D r.src h1;generalize r.src.any (oU g)=b1 at*
 generalize (r.dst.any fun n=> !(n==0)&&oU g n)=b2 at*
 generalize S.usort r.src=us at*
 simp only[Rul.row];refine nX (N:=48) (rs:=[.tmp 4]) pl61 func61 ?_;repeat' first|refine gQ ?_|exact gU|refine gS ?_|exact gT|(first|apply xc|apply gf|apply gt)<;>intro hc
 ·simp
 ·simp
 refine CallC.sub (s':=kn 48 [(3,.one (.bx 3 6 0 0)),(4,dv (li 0)),(5,dv (.pt [.fn 119 [.pt [.sl 2 (g.map Phon.enc)]]])),(21,dv (.sl 1 (ints r.src))),(22,dv (.fn 119 [.pt [.sl 2 (g.map Phon.enc)]]))] (ml [(3,[[.c (.sl 1 (ints r.src)),.c (.sl 1 (ints r.dst)),.c (.sl 2 (r.left.map Lnk.enc)),.c (.sl 2 (r.right.map Lnk.enc)),.c (lb r.beg),.c (lb r.fin)]])]))
  (DS.Sub.trans (QK 2 [.sl 2 (g.map Phon.enc)] oh oq) (DS.Sub.trans (QK 5 [.fn 119 [.pt [.sl 2 (g.map Phon.enc)]]] oh oq) (qw rfl oq oq))) rfl ?_
 repeat' first|refine kx hC1 ?_|refine kx hC2 ?_|refine kx hS ?_|refine gQ ?_|exact gU|refine gS ?_|exact gT|(first|apply xc|apply gf|apply gt)<;>intro hc
 all_goals exact⟨_,rfl⟩
attribute [local go_sem] vp
def BI(s:ByteArray)(i:Nat):Int:=((s.data.toList[i]?).map fun b=>(b.toNat:Int)).getD 0
def Iz(s:ByteArray):Int:=
 QT .or .u64 (QT .or .u64 (QT .or .u64 (QT .or .u64 (QT .or .u64 (QT .or .u64 (QT .or .u64 (IntKind.u64.wrap (BI s 0)) (sF .shl .u64 (IntKind.u64.wrap (BI s 1)) 8)) (sF .shl .u64 (IntKind.u64.wrap (BI s 2)) 16))
  (sF .shl .u64 (IntKind.u64.wrap (BI s 3)) 24)) (sF .shl .u64 (IntKind.u64.wrap (BI s 4)) 32)) (sF .shl .u64 (IntKind.u64.wrap (BI s 5)) 40)) (sF .shl .u64 (IntKind.u64.wrap (BI s 6)) 48)) (sF .shl .u64 (IntKind.u64.wrap (BI s 7)) 56)
abbrev qeR:Dl.PL:=fun|1=> Dl.ll 0 19 []|2=> Dl.ll 0 39 []|_=>[]
def Ty(s:ByteArray)(h:8<=s.size):DCalls pP 292 [dv (ls s)] (dv (.lit (.int .u64 (Iz s)))):=by
 have gg: ∀i,i<s.size->∃b,s.data.toList[i]? =some b:=oA;obtain⟨b0,h0⟩:=gg 0 oa;obtain⟨b1,h1⟩:=gg 1 oa;obtain⟨b2,h2⟩:=gg 2 oa;obtain⟨b3,h3⟩:=gg 3 oa;obtain⟨b4,h4⟩:=gg 4 oa;obtain⟨b5,h5⟩:=gg 5 oa;obtain⟨b6,h6⟩:=gg 6 oa;obtain⟨b7,h7⟩:=gg 7 oa;clear gg;have hw:Iz s=QT .or .u64 (QT .or .u64 (QT .or .u64 (QT .or .u64 (QT .or .u64 (QT .or .u64 (QT .or .u64 (IntKind.u64.wrap (b0.toNat:Int)) (sF .shl .u64 (IntKind.u64.wrap (b1.toNat:Int)) 8)) (sF .shl .u64 (IntKind.u64.wrap (b2.toNat:Int)) 16))
  (sF .shl .u64 (IntKind.u64.wrap (b3.toNat:Int)) 24)) (sF .shl .u64 (IntKind.u64.wrap (b4.toNat:Int)) 32)) (sF .shl .u64 (IntKind.u64.wrap (b5.toNat:Int)) 40)) (sF .shl .u64 (IntKind.u64.wrap (b6.toNat:Int)) 48)) (sF .shl .u64 (IntKind.u64.wrap (b7.toNat:Int)) 56):=by
  unfold Iz BI;rw[h0,h1,h2,h3,h4,h5,h6,h7];rfl
 rw[hw];clear hw;refine dX (N:=59) (rs:=[.tmp 2]) qeR func292 ?_;simp only[go_sem, *];refine xj ?_;simp only[go_sem, *]
def qgy{z:Int}(h:0<=z/\z<256): ∃j:Nat,sF .shr .u8 z 4=(j:Int)/\j<16:=by
 have e:sF .shr .u8 z 4=z / 16:=by show z.fdiv (2 ^ (min 4 8))=_;rw[Int.fdiv_eq_ediv_of_nonneg _ oo];rfl
 rw[e];exact⟨(z / 16).toNat,oa,oa⟩
theorem vZ(t:ByteArray)(k:Nat):(t.extract k t.size).size=t.size - k:=oh
theorem aZ(h:k<t.size): ∃b,t.data.toList[k]? =some b:=oA
abbrev pl290:Dl.PL:=fun|7=> Dl.ll 0 8 ((8,.step)::Dl.ll 9 4 [])|9=> Dl.ll 0 21 []|17=> Dl.ll 0 17 []|21=> Dl.ll 0 27 []|25=> Dl.ll 0 37 []|_=>[]
def TL(s:ByteArray)(hs:s.size<=1048576):NCalls pP 290 [dv (ls s)] (bn True):=by
 have qi:=qo;refine dq (N:=169) (rs:=[.tmp 2]) om func290 rfl rfl rfl oh (yw (N:=169) pl290 [11,13] ?_);simp +decide only[go_sem, *];refine q8 (fun t:ByteArray=>kn 169 [(0,dv (ls t))] (ml [])) (fun t=>t.size<=1048576) (fun t=>t.size) s ?_ hs ?_
 ·exact Zb
 intro t ht;refine yw (N:=169) pl290 [11,13] ?_;have qbS:t.size<=maxLen:=oa;simp +decide only[go_sem, *];refine yc (fun h0=>?_) (fun h0=>?_);rotate_left
 ·simp +decide only[go_sem, *]
 have qZ:0<t.size:=og;obtain⟨b,hb⟩:=aZ qZ;have Rc:b.toNat<256:=b.toNat_lt;simp +decide only[go_sem, *];have Tv: ∀u:ByteArray,8<=u.size->DCalls pP 292 [dv (ls u)] (dv (.lit (.int .u64 (Iz u)))):=Ty;replace Tv:Kp _:=⟨Tv⟩;replace qZ:Kp _:=⟨qZ⟩;refine yc (fun h1=>?_) (fun h1=>?_)
 ·have h1t:(1<=t.size)=True:=by grind
  have z1:Kp _:=⟨vZ t 1⟩;simp +decide only[go_sem, *];generalize t.extract 1 t.size=t1 at*
  clear h1t;have m1:t1.size<=maxLen:=by have:=z1.h;omega
  refine gt (fun g1=>?_) (fun g1=>?_);rotate_left
  ·simp +decide only[go_sem, *];exact⟨t1,by have:=z1.h;omega,by have:=z1.h;have:=qZ.h;omega,Zb⟩
  have g1':Kp (8<t1.size):=⟨by have:=aw g1;omega⟩;simp +decide only[go_sem, *];refine kq ?_ (Tv.h t1 (by have:=g1'.h;omega));simp +decide only[go_sem, *];refine yc (fun c1=>?_) (fun c1=>?_);rotate_left
  ·simp +decide only[go_sem, *];exact⟨t1,by have:=z1.h;omega,by have:=z1.h;have:=qZ.h;omega,Zb⟩
  have h8:(8<=t1.size)=True:=aB (by have:=g1'.h;omega);have z2:Kp _:=⟨vZ t1 8⟩;simp +decide only[go_sem, *];generalize t1.extract 8 t1.size=t2 at*
  clear h8;have m2:t2.size<=maxLen:=by have:=z2.h;omega
  refine xj ?_;simp +decide only[go_sem, *];refine gt (fun g2=>?_) (fun g2=>?_);rotate_left
  ·simp +decide only[go_sem, *];exact⟨t2,by have:=z1.h;have:=z2.h;omega,by have:=z1.h;have:=z2.h;have:=qZ.h;omega,Zb⟩
  have g2':Kp (16<t2.size):=⟨by have:=aw g2;omega⟩;have h8:(8<=t2.size)=True:=aB (by have:=g2'.h;omega);have w2:DCalls pP 292 [dv (ls (t2.extract 8 t2.size))] _:=Tv.h (t2.extract 8 t2.size) (by have:=g2'.h;rw[vZ];omega);simp +decide only[go_sem, *];refine kq ?_ (Tv.h t2 (by have:=g2'.h;omega));simp +decide only[go_sem, *];refine kq ?_ w2;simp +decide only[go_sem, *];clear w2;refine yc (fun c2=>?_) (fun c2=>?_);rotate_left
  ·simp +decide only[go_sem, *];exact⟨t2,by have:=z1.h;have:=z2.h;omega,by have:=z1.h;have:=z2.h;have:=qZ.h;omega,Zb⟩
  have h16:(16<=t2.size)=True:=aB (by have:=g2'.h;omega);have z3:Kp _:=⟨vZ t2 16⟩;simp +decide only[go_sem, *];generalize t2.extract 16 t2.size=t3 at*
  clear h8 h16;refine q8 (fun u:ByteArray=>kn 169 [(0,dv (ls u))] (ml [])) (fun u=>u.size<t.size) (fun u=>u.size) t3 ?_ (by have:=z1.h;have:=z2.h;have:=z3.h;have:=qZ.h;omega) ?_
  ·exact Zb
  intro u hu;replace hu:Kp _:=⟨hu⟩;refine yw (N:=169) pl290 [11,13] ?_;have mu:u.size<=maxLen:=by have:=hu.h;omega
  clear z1 z2 z3 g1' g2' m1 m2 g1 g2 c1 c2 h1 hb Rc;simp +decide only[go_sem, *];refine xj ?_;simp +decide only[go_sem, *];refine gt (fun g3=>?_) (fun g3=>?_);rotate_left
  ·simp +decide only[go_sem, *];exact⟨u,by have:=hu.h;omega,hu.h,Zb⟩
  have g3':Kp (32<u.size):=⟨by have:=aw g3;omega⟩;have h8:(8<=u.size)=True:=aB (by have:=g3'.h;omega);have h16:(16<=u.size)=True:=aB (by have:=g3'.h;omega);have h24:(24<=u.size)=True:=aB (by have:=g3'.h;omega);have h32:(32<=u.size)=True:=aB (by have:=g3'.h;omega);have w8:DCalls pP 292 [dv (ls (u.extract 8 u.size))] _:=Tv.h (u.extract 8 u.size) (by have:=g3'.h;rw[vZ];omega);have w16:DCalls pP 292 [dv (ls (u.extract 16 u.size))] _:=Tv.h (u.extract 16 u.size) (by have:=g3'.h;rw[vZ];omega);have w24:DCalls pP 292 [dv (ls (u.extract 24 u.size))] _:=Tv.h (u.extract 24 u.size) (by have:=g3'.h;rw[vZ];omega);simp +decide only[go_sem, *];refine kq ?_ (Tv.h u (by have:=g3'.h;omega));simp +decide only[go_sem, *];refine kq ?_ w8;simp +decide only[go_sem, *];refine kq ?_ w16;simp +decide only[go_sem, *];refine kq ?_ w24;simp +decide only[go_sem, *];clear w8 w16 w24;refine yc (fun c2=>?_) (fun c2=>?_)
  ·simp +decide only[go_sem, *];exact⟨u.extract 32 u.size,by have:=hu.h;rw[vZ];omega,by have:=g3'.h;rw[vZ];omega,Zb⟩
  ·simp +decide only[go_sem, *];exact⟨u,by have:=hu.h;omega,hu.h,Zb⟩
 ·simp +decide only[go_sem, *];refine Bj (pre:=[_]) (post:=[_,_]) 169 ?_;simp +decide only[go_sem, *];refine Step.utab (k:=.u8) (n:=256) (sz:=1) (len:=256) (j:=b.toNat) rfl underlying383 rfl oe Rc oo oo fun zs hz hr=>?_;obtain⟨z,rfl⟩: ∃z,zs= [z]:=by
   match zs,hz with
   | [z],_=>exact⟨z,rfl⟩
  have hz:=hr z oh;simp +decide only[go_sem, *,wo,wm];obtain⟨j,hj,hj16⟩:=qgy hz;replace hr:Kp _:=⟨hr⟩;refine Bj (pre:=[_,_]) (post:=[_,_,_]) 169 ?_;simp +decide only[go_sem, *];refine Step.utab (k:=.u8) (n:=32) (sz:=2) (len:=16) (j:=j) rfl underlying386 rfl (by simp +decide only[go_sem,hj]) hj16 oo oo fun zs xL hr2=>?_;obtain⟨lo,hi,rfl⟩: ∃a b,zs= [a,b]:=by
   match zs,xL with
   | [a,b],_=>exact⟨a,b,rfl⟩
  replace hr2:Kp _:=⟨hr2⟩;clear hj hj16 hz Rc;simp +decide only[go_sem, *,wo,wm];generalize aD .i64 (QT BinOp.and IntKind.u8 z 7)=sz at*
  refine yc (fun e2=>?_) (fun e2=>?_)
  ·clear e2;simp +decide only[go_sem, *];refine xj ?_;by_cases vo:t.size<2
   ·have hd:decide ((t.size:Int)<2)=true:=by grind
    simp +decide only[go_sem, *]
   have hd:decide ((t.size:Int)<2)=false:=og;obtain⟨c1,nQ⟩:=aZ (t:=t) (k:=1) oa;have hk:(2<=t.size)=True:=og;obtain⟨u,hu,LF,Da⟩: ∃u,u=t.extract 2 t.size/\u.size<=1048576/\u.size<t.size:=⟨_,rfl,by rw[vZ];omega,by rw[vZ];omega⟩;replace LF:Kp _:=⟨LF⟩;replace Da:Kp _:=⟨Da⟩;clear vo;rcases wv (decide ((c1.toNat:Int)<lo))with a0|a0
   ·simp +decide only[go_sem, *]
   rcases wv (decide (hi<(c1.toNat:Int)))with a1|a1
   ·simp +decide only[go_sem, *]
   simp +decide only[go_sem, *];exact⟨t.extract 2 t.size,hu▸LF.h,hu▸Da.h,Zb⟩
  simp +decide only[go_sem, *];refine yc (fun e3=>?_) (fun e3=>?_)
  ·clear e3;simp +decide only[go_sem, *];refine xj ?_;by_cases vo:t.size<3
   ·have hd:decide ((t.size:Int)<3)=true:=by grind
    simp +decide only[go_sem, *]
   have hd:decide ((t.size:Int)<3)=false:=og;obtain⟨c1,nQ⟩:=aZ (t:=t) (k:=1) oa;obtain⟨c2,Th⟩:=aZ (t:=t) (k:=2) oa;have hk:(3<=t.size)=True:=og;obtain⟨u,hu,LF,Da⟩: ∃u,u=t.extract 3 t.size/\u.size<=1048576/\u.size<t.size:=⟨_,rfl,by rw[vZ];omega,by rw[vZ];omega⟩;replace LF:Kp _:=⟨LF⟩;replace Da:Kp _:=⟨Da⟩;clear vo;rcases wv (decide ((c1.toNat:Int)<lo))with a0|a0
   ·simp +decide only[go_sem, *]
   rcases wv (decide (hi<(c1.toNat:Int)))with a1|a1
   ·simp +decide only[go_sem, *]
   rcases wv (decide ((c2.toNat:Int)<128))with a2|a2
   ·simp +decide only[go_sem, *]
   rcases wv (decide ((191:Int)<(c2.toNat:Int)))with a3|a3
   ·simp +decide only[go_sem, *]
   simp +decide only[go_sem, *];exact⟨t.extract 3 t.size,hu▸LF.h,hu▸Da.h,Zb⟩
  simp +decide only[go_sem, *];refine yc (fun e4=>?_) (fun e4=>?_)
  ·clear e4;simp +decide only[go_sem, *];refine xj ?_;by_cases vo:t.size<4
   ·have hd:decide ((t.size:Int)<4)=true:=by grind
    simp +decide only[go_sem, *]
   have hd:decide ((t.size:Int)<4)=false:=og;obtain⟨c1,nQ⟩:=aZ (t:=t) (k:=1) oa;obtain⟨c2,Th⟩:=aZ (t:=t) (k:=2) oa;obtain⟨c3,hc3⟩:=aZ (t:=t) (k:=3) oa;have hk:(4<=t.size)=True:=og;obtain⟨u,hu,LF,Da⟩: ∃u,u=t.extract 4 t.size/\u.size<=1048576/\u.size<t.size:=⟨_,rfl,by rw[vZ];omega,by rw[vZ];omega⟩;replace LF:Kp _:=⟨LF⟩;replace Da:Kp _:=⟨Da⟩;clear vo;rcases wv (decide ((c1.toNat:Int)<lo))with a0|a0
   ·simp +decide only[go_sem, *]
   rcases wv (decide (hi<(c1.toNat:Int)))with a1|a1
   ·simp +decide only[go_sem, *]
   rcases wv (decide ((c2.toNat:Int)<128))with a2|a2
   ·simp +decide only[go_sem, *]
   rcases wv (decide ((191:Int)<(c2.toNat:Int)))with a3|a3
   ·simp +decide only[go_sem, *]
   rcases wv (decide ((c3.toNat:Int)<128))with a4|a4
   ·simp +decide only[go_sem, *]
   rcases wv (decide ((191:Int)<(c3.toNat:Int)))with a5|a5
   ·simp +decide only[go_sem, *]
   simp +decide only[go_sem, *];exact⟨t.extract 4 t.size,hu▸LF.h,hu▸Da.h,Zb⟩
  simp +decide only[go_sem, *]
def fp(s:ByteArray)(p:Nat):Nat->Nat
 | 0=>p
 | k+1=>fp s p k+(Utf8.decode s (fp s p k)).2
def lh(s:ByteArray)(p:Nat): ∀k,fp s (p+(Utf8.decode s p).2) k=fp s p (k+1)
 | 0=>rfl
 | k+1=>by have h:=lh s p k;show fp s (p+(Utf8.decode s p).2) k+_=_;rw[h];rfl
def oK(s:ByteArray)(k:Nat):List D:=[dv (li (fp s 0 k)),dv (li (Utf8.decode s (fp s 0 k)).1)]
def CR(s:ByteArray):Nat->Nat->Nat
 | 0,_=>0
 | n+1,p=>if p<s.size then CR s n (p+(Utf8.decode s p).2)+1 else 0
def JJ(s:ByteArray): ∀n p,CR s n p<=n
 | 0,_=>wl _
 | n+1,p=>by
  unfold CR;split
  ·have:=JJ s n (p+(Utf8.decode s p).2);omega
  ·omega
def CQ(s:ByteArray): ∀n p,(∀k,k<CR s n p->fp s p k<s.size)/\(s.size<=p+n->s.size<=fp s p (CR s n p))
 | 0,p=>⟨fun k h=>by simp[CR]at h,fun h=>by simpa[CR,fp]using h⟩
 | n+1,p=>by
  have hw:=Go.Lib.width_pos s p;obtain⟨i1,i2⟩:=CQ s n (p+(Utf8.decode s p).2);unfold CR;split
  ·rename_i hp;refine⟨fun k hk=>?_,fun h=>?_⟩
   ·cases k with
    | zero=>exact hp
    | succ k=>rw[<-lh];exact i1 k oa
   ·rw[<-lh];exact i2 oa
  ·rename_i hp;exact⟨fun k h=>oa,fun _=>by simp[fp];omega⟩
def cnt(s:ByteArray):Nat:=CR s s.size 0
def oJ(s:ByteArray):List (List D):=(wR (cnt s)).map (oK s)
def qcX(h:k<cnt s):fp s 0 k<s.size:=(CQ s s.size 0).1 k h
def Wo(s:ByteArray):s.size<=fp s 0 (cnt s):=(CQ s s.size 0).2 oa
def Sa(s:ByteArray):cnt s<=s.size:=JJ s _ _
def cf(s:ByteArray):(oJ s).length=cnt s:=by simp[oJ]
def oI(h:k<cnt s):(oJ s)[k]? =some (oK s k):=by simp[oJ,h]
def tE(s:ByteArray)(hs:s.size<=1000000):It pP 293 [dv (.pt [ls s])] (oJ s):=by
 refine la om func293 rfl rfl oh (by have:=qX;simp;omega) ?_;intro n l J hJ hY;refine Ca (pre:=[_]) (str:=s) hJ hY (fp s 0) rfl rfl rfl rfl om om ?_;simp only[wo,wm,wD,wI];simp +decide only[go_sem];intro b n' J' hJ' hY' hJe rI Ti;subst hJe;refine dQ ?_;refine Cb (fun k:Nat=>kn 17 [(0,dv (.lit (.func (.yield l) #[] #[]))),(6,qbx b)] qA) (fun k=>some (2*k)) (fun k=>k<=cnt s) (fun k=>cnt s - k) 0 (cX rfl oe) rfl oa ?_;intro k hk;refine QP ?_;refine uw hJ rI hJ' 0 rfl om ?_;simp only[wy,yh,yC,wo,wm];simp +decide only[go_sem];refine⟨_,k,rfl,rfl,by simp +decide only[go_sem,qbx],rfl,fun qf=>⟨rfl,?_⟩,fun dC=>?_⟩
 ·have qcc:k<cnt s:=by
   rcases yD k (cnt s)with h|h
   ·exact h
   ·have:k=cnt s:=by omega
    subst this;have:=Wo s;omega
  simp +decide only[go_sem];refine QP ?_;refine ZP ow (fun _=>eJ ?_) (fun h=>by cases h);simp +decide only[go_sem];refine dQ ?_;refine QP (Zj hJ' ?_);refine uB qg ?_;refine QP ?_;have hr:(MQ (oJ s))[2*k+1]? =some (oK s k):=by rw[CI];exact oI qcc
  have lF:(Utf8.decode s (fp s 0 k)).1<=1114111:=Go.Lib.rune_le s _;have hw:aD .i64 (((Utf8.decode s (fp s 0 k)).1:Nat):Int)=(((Utf8.decode s (fp s 0 k)).1:Nat):Int):=Zp oa;refine o0 hJ' hY' 4 rfl om ?_;simp only[wV,wy,yh,yC,wo,wm];simp +decide only[go_sem,hw];refine⟨true,rfl,fun h=>(by cases h),fun _=>⟨_,_,_,2*k+1,_,rfl,oe,rfl,hr,DLeL.of_eq (by simp +decide only[go_sem,oK]),fun bb=>?_⟩⟩;simp +decide only[go_sem];cases bb
  ·refine ZP ow (fun _=>Hw ?_) (fun h=>by cases h);simp +decide only[go_sem];exact .inr rfl
  ·refine ZP ow (fun h=>by cases h) (fun _=>eJ ?_);simp +decide only[go_sem];exact⟨k+1,oa,oa,cX rfl (by simp +decide only[go_sem,qbx]),rfl⟩
 ·have qcc:k=cnt s:=by
   rcases yD k (cnt s)with h|h
   ·exact ak (qcX h) dC
   ·omega
  simp +decide only[go_sem];refine QP ?_;refine ZP ow (fun h=>by cases h) (fun _=>Cc ?_);simp +decide only[go_sem];exact .inl (by rw[LO,qcc,cf])
def AB(s:ByteArray):DCalls pP 291 [dv (ls s)] (dv (.fn 293 [.pt [ls s]])):=by refine kd (N:=4) (rs:=[.tmp 2]) func291 ?_;refine uB qg ?_;refine Q3 1 [ls s] oh oe ?_;apply qb;simp +decide only[go_sem]
def ET(xs:List Int):Dl.Rows:=xs.map fun x=>[T.c (li x)]
def qbM(r:Dl.Ren)(xs:List Int):Dl.Rows.tr r (ET xs)=ET xs:=by simp[ET,Dl.Rows.tr,T.trAll,T.tr]
def PJ(xs:List Int):RowsSz 1 (ET xs):=fun r hr=>by simp only[ET,wN]at hr;obtain⟨x,_,rfl⟩:=hr;rfl
def cV(xs:List Int):(ET xs).length=xs.length:=by simp[ET]
def Jl(xs ys:List Int):ET (xs++ys)=ET xs++ET ys:=by simp[ET]
attribute [go_sem] qbM
def AD(s:ByteArray)(k:Nat):Int:=(Utf8.decode s (fp s 0 k)).1
def ew(s:ByteArray)(k:Nat):List Int:=(wR k).map (AD s)
def rh(s:ByteArray)(k:Nat):ew s (k+1)=ew s k++[AD s k]:=by simp[ew,jn]
def aI(s:ByteArray)(k:Nat):(ew s k).length=k:=by simp[ew]
def Ep(s:ByteArray)(hs:s.size<=1000000):NCalls pP 286 [dv (ls s)] (fun r=>∃b,r= .tup [.any,dv (lb b)]):=by
 have qi:=qo;have hV:=TL s oa;refine dq (N:=19) (rs:=[.tmp 2,.tmp 3]) om func286 rfl rfl rfl oh ?_;refine uB qg ?_;refine CallC.nd (caps:=[]) (hV) oe (kP oe) ?_;rintro _ ⟨b,rfl,-⟩;simp +decide only[go_sem];cases b
 ·refine vB qg ?_;refine ze 2 .any (DLe.any_ _) ?_;apply qb;simp +decide only[go_sem];exact⟨_,rfl⟩
 ·(repeat' first|(first|refine qC ?_|refine kx (AB s) ?_|apply kU);simp only[go_sem]|apply kh<;>intro qe)
  have hl:=Sa s;refine qn (eo (i:=0) (j:=0) 4 1000 1 1 (rows:=[[.ex 1 []]]) (r:=[.ex 1 []]) oe oo rfl rfl) ?_;refine HY 19 vJ [4] (fun k (j:Nat)=>kn 19 [(4,.one (.bx 4 1 0 0))] (ml [(4,[[.ba 1000 1 0 k (k+j)]]),(1000,ET (ew s k)++qa j 1)])) (fun k j=>True) 0 trivial rfl rfl oo oC (tE s hs)
   (km oD) (fun _ _=>rfl) (by intro ds h;obtain⟨c,_,rfl⟩:=wN.1 h;rfl) ?_ ?_
  ·intro k ds j hk _;have qcc:k<cnt s:=by have:=(wg.1 hk).1;rwa [cf]at this
   rw[oI qcc]at hk;injection hk with hk;subst hk
   (repeat(first|apply qk|apply qm|((first|refine qC ?_|apply qt|apply qv);simp only[go_sem,oK])))
   refine StepC.mk (Step.appendList (n:=1000) (rows:=ET (ew s k)) (ys:=ET [AD s k]) (j:=j) (sz:=1) (by_:=8) rfl rfl oe (by simp +decide only[go_sem,cV,aI]) oe (PJ _) (.ex [[li (AD s k)]]) (by rw[cV,cV,aI];simp;omega) ?_);intro j';simp +decide only[go_sem,cV,aI];refine uB qg ?_;refine⟨_,zB 17 1000 oo,?_⟩;refine⟨j',km (by simp +decide only[go_sem];rw[rh,Jl,wS])⟩
  ·intro j _;rw[cf];refine uB qg ?_;refine ze 2 .any (DLe.any_ _) ?_;apply qb;simp +decide only[go_sem];exact⟨_,rfl⟩
def qcT(n:Nat):DCalls pP 285 [dv (.lit (.int .u8 (n:Int)))] (dv (lb (Bl n))):=by
 rw[<-pH];refine kd (N:=9) (rs:=[.tmp 2]) func285 ?_;rcases wv (decide (((n:Nat):Int)<32))with t1|t1
 ·exact wA qg
 ·exact wA qg
def qbI(s:ByteArray)(hs:s.size<=1000000):DCalls pP 289 [dv (.sl 1 (QS s)),dv (.fn 285 [])] (dv (li (zG (fun b:UInt8=>Bl b.toNat) s.data.toList))):=by
 have qi:=qo;have hl:(QS s).length=s.data.toList.length:=by simp[QS]
 have ga:s.data.toList.length=s.size:=oh;refine kd (N:=19) (rs:=[.tmp 4]) func289 ?_
 (repeat(first|apply qk|apply qm|((first|refine qC ?_|apply qt|apply qv);simp only[go_sem,hl])))
 refine vq s.data.toList (fun k=>kn 19 [(0,dv (.sl 1 (QS s))),(1,dv (.fn 285 [])),(7,dv (li s.data.toList.length)),(8,dv (li k))] qA) (fun k=>∀e∈s.data.toList.take k,Bl e.toNat=false) oa kl oh ?_ ?_
 ·intro k e he hk hm qs qf hw hi;have hx:=pM he
  (repeat' first|(first|refine qC ?_|refine kx (qcT e.toNat) ?_|apply kU|apply qb);simp only[go_sem,qf,hw,hx]|apply kh<;>intro qe)
  ·rw[z8 he hi qe]
  ·exact⟨qG qs hi qe,kl⟩
 ·intro qf hi;rw[wc]at hi
  (repeat' first|(first|refine qC ?_|apply kU|apply qb);simp only[go_sem,qf]|apply kh<;>intro qe)
  rw[z7 hi]
def R8(s:ByteArray)(hs:s.size<=1000000):DCalls pP 284 [dv (.sl 1 (QS s)),dv (.fn 285 [])] (dv (lb (lQ s))):=by
 refine kd (N:=9) (rs:=[.tmp 4]) func284 ?_
 (repeat' first|(first|refine qC ?_|refine kx (qbI s hs) ?_|apply kU|apply qb);simp only[go_sem,cn]|apply kh<;>intro qe)
 rfl
def B9(s:ByteArray):NCalls pP 282 [dv (ls s)] (bn True):=by
 have Jp:=Ep s;cases he:(s==({ data:= #[] }:ByteArray));rotate_left
 ·refine nX (N:=23) (rs:=[.tmp 2]) qg func282 ?_;exact gA
 cases h1:decide ((32:Int)<(s.size:Int));rotate_left
 ·refine nX (N:=23) (rs:=[.tmp 2]) qg func282 ?_;exact gA
 have hs:s.size<=32:=og;have hm:(s.size<=maxLen)=True:=aB (by have qi:=qo;omega);have hC:=R8 s oa;have Jp:=Jp oa;generalize lQ s=cb at*
 cases cb
 ·refine nX (N:=23) (rs:=[.tmp 2]) qg func282 ?_;refine gB ?_;refine qft ?_ Jp;rintro _ ⟨b,rfl⟩;simp only[go_sem]
 ·refine nX (N:=23) (rs:=[.tmp 2]) qg func282 ?_;exact gA
end
def Tryz.laysK_ren:Go.Shelf.Ren:=⟨fun|144=>299|143=>300|219=>301|217=>302|225=>303|224=>304|267=>305|266=>306|314=>307|n=>n,fun|9=>9|4=>4|3=>3|5=>5|46=>225|146=>391|51=>288|n=>n,fun|1=>2|n=>n⟩
def Tryz.laysK:Go.Proofs.Lays.n144 pP Tryz.laysK_ren:={
 mixed:=om
 f143:=func300.trans (af some om)
 f144:=func299.trans (af some om)
 f217:=func302.trans (af some om)
 f219:=func301.trans (af some om)
 f224:=func304.trans (af some om)
 f225:=func303.trans (af some om)
 f266:=func306.trans (af some om)
 f267:=func305.trans (af some om)
 f314:=func307.trans (af some om)
 t3:=underlying3
 a3:=Tryz.isAgg3
 z3:=Tryz.sizeOf3
 v3:=Tryz.zeroValue3
 t4:=underlying4
 a4:=Tryz.isAgg4
 z4:=Tryz.sizeOf4
 v4:=Tryz.zeroValue4
 t5:=underlying5
 a5:=Tryz.isAgg5
 z5:=Tryz.sizeOf5
 v5:=Tryz.zeroValue5
 t9:=underlying9
 a9:=Tryz.isAgg9
 z9:=Tryz.sizeOf9
 v9:=Tryz.zeroValue9
 t46:=underlying225
 a46:=Tryz.isAgg225
 z46:=Tryz.sizeOf225
 v46:=Tryz.zeroValue225
 t51:=underlying288
 a51:=Tryz.isAgg288
 z51:=Tryz.sizeOf288
 v51:=Tryz.zeroValue288
 t146:=underlying391
 a146:=Tryz.isAgg391
 z146:=Tryz.sizeOf391
 v146:=Tryz.zeroValue391
 g1:=om}
def Tryz.laysC_ren:Go.Shelf.Ren:=⟨fun|150=>334|153=>336|152=>337|226=>338|227=>339|228=>340|137=>341|119=>342|224=>304|225=>303|217=>302|266=>306|n=>n,fun|9=>9|4=>4|3=>3|5=>5|21=>21|117=>404|116=>403|0=>0|46=>225|124=>407|n=>n,fun|n=>n⟩
def Tryz.laysC:Go.Proofs.Lays.n150 pP Tryz.laysC_ren:={
 mixed:=om
 f119:=func342.trans (af some om)
 f137:=func341.trans (af some om)
 f150:=func334.trans (af some om)
 f152:=func337.trans (af some om)
 f153:=func336.trans (af some om)
 f217:=func302.trans (af some om)
 f224:=func304.trans (af some om)
 f225:=func303.trans (af some om)
 f226:=func338.trans (af some om)
 f227:=func339.trans (af some om)
 f228:=func340.trans (af some om)
 f266:=func306.trans (af some om)
 t0:=underlying0
 a0:=Tryz.isAgg0
 z0:=Tryz.sizeOf0
 v0:=Tryz.zeroValue0
 t3:=underlying3
 a3:=Tryz.isAgg3
 z3:=Tryz.sizeOf3
 v3:=Tryz.zeroValue3
 t4:=underlying4
 a4:=Tryz.isAgg4
 z4:=Tryz.sizeOf4
 v4:=Tryz.zeroValue4
 t5:=underlying5
 a5:=Tryz.isAgg5
 z5:=Tryz.sizeOf5
 v5:=Tryz.zeroValue5
 t9:=underlying9
 a9:=Tryz.isAgg9
 z9:=Tryz.sizeOf9
 v9:=Tryz.zeroValue9
 t21:=underlying21
 a21:=Tryz.isAgg21
 z21:=Tryz.sizeOf21
 v21:=Tryz.zeroValue21
 t46:=underlying225
 a46:=Tryz.isAgg225
 z46:=Tryz.sizeOf225
 v46:=Tryz.zeroValue225
 t116:=underlying403
 a116:=Tryz.isAgg403
 z116:=Tryz.sizeOf403
 t117:=underlying404
 a117:=Tryz.isAgg404
 z117:=Tryz.sizeOf404
 v117:=Tryz.zeroValue404
 t124:=underlying407
 a124:=Tryz.isAgg407
 z124:=Tryz.sizeOf407
 v124:=Tryz.zeroValue407 }
end Go.Proofs.YtobpcppcjdnkmaaGreat
