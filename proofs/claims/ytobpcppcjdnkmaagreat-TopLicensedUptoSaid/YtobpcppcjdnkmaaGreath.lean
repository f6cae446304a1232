/- The statement about words licensed: its frame, the arguments as data. -/
import Derived.Test.YtobpcppcjdnkmaaGreatRows
import Derived.ShutString
import Derived.Deep.DeepHandedRow
import Derived.Test.YtobpcppcjdnkmaaGreatm6
set_option linter.all false
open Go.Proofs.Tryz renaming prog → pP
open List renaming map → wt
namespace Go.Proofs.YtobpcppcjdnkmaaGreat
open Go.Proofs.Tryz
open Go.ChangeShapes Go.WideShapes Go.ChangeAt Go.RowKit
open Go.ChangeMaps (open_string shut_string)
open Go.Dl (Sh Val)
variable {w:World}{v:Value}{E:Dl.Env}{n:Nat}{α β:Type}
theorem Tryz.own:ownKnob pP.godebug=none:=om
theorem Tryz.laidOut:laidOutB pP=true:=om
noncomputable def oY(os:Os):World:=World.holding pP os ⟨#[],#[],[]⟩
set_option maxRecDepth 100000 in
theorem Wv(h:Cell.ok pP w .any 0 5 v): ∃z,v= .int .u8 z/\0<=z/\z<256:=by
 unfold Cell.ok at h;rw [underlying5]at h;cases v<;>simp only at h
 case int k n=>
  obtain⟨rfl,h⟩:=h;refine⟨n,rfl,?_⟩;have h2:0<=n/\n<=255:=by simpa [IntKind.has,IntKind.min,IntKind.max,IntKind.signed,IntKind.bits]using h
  omega
/-- A variable that is a table of so many bytes. -/
noncomputable def Sr(g n:Nat):Bool:=
 match ((begin pP (fun _ _=>0) default).world.heap[g]?).bind Obj.row? with
 | some (zero,t)=>zero.size==n&&pP.buildable t&&(match pP.cellTypes pP.depth t with
  | some ts=>ts.all fun u=>u==5
  | none=>false)
 | none=>false
set_option maxRecDepth 100000 in
/-- The two tables of the library x7 bytes. -/
theorem TO{W:World}(h:W.ShapedOpen pP): ∀p∈Dl.utab,∀o,o<p.2->∃z,W.cell? ⟨p.1,o,none⟩=some (.int .u8 z)/\0<=z/\z<256:=by
 have key: ∀g n,g<pP.globals.size->Sr g n=true->∀o,o<n->∃z,W.cell? ⟨g,o,none⟩=some (.int .u8 z)/\0<=z/\z<256:=by
  intro g n hg hB o ho;unfold Sr at hB;split at hB
  case h_2=>cases hB
  rename_i zero t' hr;simp only [we,aq]at hB;obtain⟨⟨e1,hb⟩,hB⟩:=hB;split at hB
  case h_2=>cases hB
  rename_i ts hts;have zW:=hB;obtain⟨cs,h1,h2,h3⟩:=h.1 g zero t' hg hr;obtain⟨ts',h4,_,h5⟩:=h3 hb;rw [hts]at h4;injection h4 with h4;subst h4
  obtain⟨v,hv⟩: ∃v,cs[o]? =some v:=⟨_,wY oa⟩;obtain⟨u,hu,hk⟩:=h5 o v hv;have hu5:u=5:=by simpa using wZ.1 zW u (ww hu)
  subst hu5;obtain⟨z,rfl,AX⟩:=Wv hk;exact⟨z,by simp [World.cell?,h1,hv],AX⟩
 intro p hp;simp only [Dl.utab,wJ,w9,ax]at hp;rcases hp with rfl|rfl
 ·exact key 0 256 (aw om) om
 ·exact key 1 32 (aw om) om
theorem xu{H:Type}: ∀l:List (DataW H),Rows.uptoBulkAll l=(l.map Rows.uptoBulk).sum
 | []=>by simp [Rows.uptoBulkAll]
 | d::l=>by simp [Rows.uptoBulkAll,xu l]
theorem o7(H:Type):Dl.IsBulk (Rows.uptoBulk (H:=H)) where
 pos d:=by
  cases d with
  | lit l=>cases l<;>simp [Rows.uptoBulk]
  | nil=>simp [Rows.uptoBulk]
  | ptr d=>simp [Rows.uptoBulk]
  | slice elems zP=>simp [Rows.uptoBulk]
  | agg parts=>simp [Rows.uptoBulk]
  | iface t d=>simp [Rows.uptoBulk]
  | map entries=>simp [Rows.uptoBulk]
  | held h=>simp [Rows.uptoBulk]
 str bs:=by simp [Rows.uptoBulk]
 sl es ss:=by simp only [Rows.uptoBulk,xu];omega
 agg ps:=by simp only [Rows.uptoBulk,xu];omega
abbrev qO:Sh:=.int .i64
abbrev cP:Sh:=.cons .str (.cons .str .nil)
abbrev bt:Sh:=.cons .str (.cons qO .nil)
abbrev tC:Sh:=.cons (.sl 2 bt) .nil
abbrev QB:Sh:=.cons qO (.cons qO .nil)
abbrev iw:Sh:=.sl 1 qO
abbrev cd:Sh:=.cons qO (.cons (.sl 1 qO) (.cons qO (.cons (.sl 1 iw) (.cons qO (.cons (.sl 2 cP) (.cons (.sl 2 QB) (.cons (.sl 2 QB) .nil)))))))
abbrev fe:Sh:=.cons .str (.cons (.sl 1 qO) .nil)
abbrev ff:Sh:=.sl 1 .str
abbrev qez:Sh:=.cons .str (.cons (.sl 2 fe) (.cons (.sl 1 ff) .nil))
abbrev Q4:Sh:=.cons (.sl 1 qO) (.cons (.sl 1 qO) (.cons (.sl 2 QB) (.cons (.sl 2 QB) (.cons .bool (.cons .bool .nil)))))
abbrev mq:Sh:=.cons qO (.cons qO (.cons qO .nil))
abbrev qeA:Sh:=.cons qO (.cons (.sl 3 mq) (.cons (.sl 1 qO) .nil))
abbrev fL:Sh:=.cons tC (.cons qez (.cons (.sl 6 Q4) (.cons qeA (.cons (.sl 8 cd) .nil))))
def Sns.ofVal(v:Val cP):Sns:=⟨v.1,v.2.1⟩
def Phon.ofVal(v:Val bt):Phon:=⟨v.1,v.2.1⟩
def Lnk.ofVal(v:Val QB):Lnk:=⟨v.1,v.2.1⟩
def Bv(v:Val (.sl 1 qO)):List Int:=v
def XQ(v:Val tC):List Phon:=wt Phon.ofVal v.1
def Ent.ofVal(v:Val cd):Ent:=⟨v.1,v.2.1,v.2.2.1,wt Bv v.2.2.2.1,v.2.2.2.2.1,wt Sns.ofVal v.2.2.2.2.2.1,wt Lnk.ofVal v.2.2.2.2.2.2.1,wt Lnk.ofVal v.2.2.2.2.2.2.2.1⟩
theorem Uc(l:List (Val cP)):wt (Sh.enc cP) l=(wt Sns.ofVal l).map Sns.enc:=by rw [yn];rfl
theorem ON(l:List (Val bt)):wt (Sh.enc bt) l=(wt Phon.ofVal l).map Phon.enc:=by rw [yn];rfl
theorem gP(l:List (Val QB)):wt (Sh.enc QB) l=(wt Lnk.ofVal l).map Lnk.enc:=by rw [yn];rfl
theorem WM(l:List (Val (.sl 1 qO))):wt (Sh.enc (.sl 1 qO)) l=(wt Bv l).map bB:=by rw [yn];rfl
theorem qha(x:Val .str)(h:Dl.VD w E (Dl.ArgD .str x) v):Dl.VD w E (dv (ls x)) v:=h
theorem qfC(x:Val qO)(h:Dl.VD w E (Dl.ArgD qO x) v):Dl.VD w E (dv (li x)) v:=h
theorem qgU(x:Val (.sl 1 qO))(h:Dl.VD w E (Dl.ArgD (.sl 1 qO) x) v):Dl.VD w E (dv (.sl 1 (ints (Bv x)))) v:=h
theorem RI(y:Val cd):Sh.enc cd y=Ent.enc (Ent.ofVal y):=by have e1:=WM y.2.2.2.1;have e2:=Uc y.2.2.2.2.2.1;have e3:=gP y.2.2.2.2.2.2.1;have e4:=gP y.2.2.2.2.2.2.2.1;show [li y.1,.sl 1 (wt (Sh.enc qO) y.2.1),li y.2.2.1,.sl 1 (wt (Sh.enc (.sl 1 qO)) y.2.2.2.1),li y.2.2.2.2.1,.sl 2 (wt (Sh.enc cP) y.2.2.2.2.2.1),.sl 2 (wt (Sh.enc QB) y.2.2.2.2.2.2.1),.sl 2 (wt (Sh.enc QB) y.2.2.2.2.2.2.2.1)]=_;rw [e1,e2,e3,e4];rfl
theorem L1(l:List (Val cd)):wt (Sh.enc cd) l=(wt Ent.ofVal l).map Ent.enc:=by rw [yn];exact yz fun y _=>RI y
def Unt.ofVal(v:Val fe):Unt:=⟨v.1,v.2.1⟩
def EK(v:Val ff):List ByteArray:=v
def Rul.ofVal(v:Val Q4):Rul:=⟨v.1,v.2.1,wt Lnk.ofVal v.2.2.1,wt Lnk.ofVal v.2.2.2.1,v.2.2.2.2.1,v.2.2.2.2.2.1⟩
def Stp.ofVal(v:Val mq):Stp:=⟨v.1,v.2.1,v.2.2.1⟩
theorem TR(l:List (Val fe)):wt (Sh.enc fe) l=(wt Unt.ofVal l).map Unt.enc:=by rw [yn];rfl
theorem Vf(l:List (Val ff)):wt (Sh.enc ff) l=(wt EK l).map Z2:=by rw [yn];rfl
theorem T3(l:List (Val mq)):wt (Sh.enc mq) l=(wt Stp.ofVal l).map Stp.enc:=by rw [yn];rfl
theorem N5(y:Val Q4):Sh.enc Q4 y=Rul.enc (Rul.ofVal y):=by have e1:=gP y.2.2.1;have e2:=gP y.2.2.2.1;show [Dl.C.sl 1 (wt (Sh.enc qO) y.1),.sl 1 (wt (Sh.enc qO) y.2.1),.sl 2 (wt (Sh.enc QB) y.2.2.1),.sl 2 (wt (Sh.enc QB) y.2.2.2.1),lb y.2.2.2.2.1,lb y.2.2.2.2.2.1]=_;rw [e1,e2];rfl
theorem N6(l:List (Val Q4)):wt (Sh.enc Q4) l=(wt Rul.ofVal l).map Rul.enc:=by rw [yn];exact yz fun y _=>N5 y
abbrev Xm:Sh:=.cons qO (.cons qO .nil)
abbrev Xn:Sh:=.cons qO (.cons .str (.cons qO (.cons qO (.cons (.sl 1 qO) .nil))))
abbrev iv:Sh:=.cons .str (.cons qO (.cons qO (.cons qO .nil)))
abbrev Ax:Sh:=.cons qO (.cons qO (.cons qO (.cons Xm (.cons qO (.cons .str .nil)))))
abbrev mw:Sh:=.cons Xn (.cons (.sl 4 iv) (.cons (.sl 7 Ax) .nil))
abbrev mr:Sh:=.cons qO (.cons qO (.cons qO .nil))
abbrev qeB:Sh:=.cons (.sl 3 mr) .nil
abbrev Z7:Sh:=.cons Xm (.cons .bool (.cons qeB .nil))
def Tir.ofVal(v:Val iv):Tir:=⟨v.1,v.2.1,v.2.2.1,v.2.2.2.1⟩
def Nte.ofVal(v:Val Ax):Nte:=⟨v.1,v.2.1,v.2.2.1,v.2.2.2.1.1,v.2.2.2.1.2.1,v.2.2.2.2.1,v.2.2.2.2.2.1⟩
def Rcd.ofVal(v:Val Xn):Rcd:=⟨v.1,v.2.1,v.2.2.1,v.2.2.2.1,v.2.2.2.2.1⟩
def Dcm.ofVal(v:Val mw):Dcm:=⟨Rcd.ofVal v.1,wt Tir.ofVal v.2.1,wt Nte.ofVal v.2.2.1⟩
def Prt.ofVal(v:Val mr):Prt:=⟨v.1,v.2.1,v.2.2.1⟩
def Dcs.ofVal(v:Val Z7):Dcs:=⟨⟨v.1.1,v.1.2.1⟩,v.2.1,wt Prt.ofVal v.2.2.1.1⟩
theorem TU(l:List (Val iv)):wt (Sh.enc iv) l=(wt Tir.ofVal l).map Tir.enc:=by rw [yn];rfl
theorem UU(l:List (Val Ax)):wt (Sh.enc Ax) l=(wt Nte.ofVal l).map Nte.enc:=by rw [yn];rfl
theorem qfP(x:Val mw)(h:Dl.VD w E (Dl.ArgD mw x) v):Dl.VD w E (.agg (Dcm.ofVal x).row) v:=by
 have e1:=TU x.2.1;have e2:=UU x.2.2.1;have e:Dl.ArgD mw x= .agg (Dcm.ofVal x).row:=by show Dl.D.agg [.c (li x.1.1),.c (ls x.1.2.1),.c (li x.1.2.2.1),.c (li x.1.2.2.2.1),.c (.sl 1 (wt (Sh.enc qO) x.1.2.2.2.2.1)),.c (.sl 4 (wt (Sh.enc iv) x.2.1)),.c (.sl 7 (wt (Sh.enc Ax) x.2.2.1))]=_;rw [e1,e2];rfl
 rw [<-e];exact h
theorem UN(l:List (Val mr)):wt (Sh.enc mr) l=(wt Prt.ofVal l).map Prt.enc:=by rw [yn];rfl
theorem RW(y:Val Z7):Sh.enc Z7 y=Dcs.enc (Dcs.ofVal y):=by have e1:=UN y.2.2.1.1;show [li y.1.1,li y.1.2.1,lb y.2.1,.sl 3 (wt (Sh.enc mr) y.2.2.1.1)]=_;rw [e1];rfl
theorem RX(l:List (Val Z7)):wt (Sh.enc Z7) l=(wt Dcs.ofVal l).map Dcs.enc:=by rw [yn];exact yz fun y _=>RW y
def Ve(x:Val fL):Lg:=⟨XQ x.1,x.2.1.1,wt Unt.ofVal x.2.1.2.1,wt EK x.2.1.2.2.1,wt Rul.ofVal x.2.2.1,x.2.2.2.1.1,wt Stp.ofVal x.2.2.2.1.2.1,x.2.2.2.1.2.2.1,wt Ent.ofVal x.2.2.2.2.1⟩
theorem qgN(x:Val fL)(h:Dl.VD w E (Dl.ArgD fL x) v):Dl.VD w E (.agg (Ve x).row) v:=by
 have e1:=ON x.1.1;have e2:=TR x.2.1.2.1;have e3:=Vf x.2.1.2.2.1;have e4:=N6 x.2.2.1;have e5:=T3 x.2.2.2.1.2.1;have e6:=L1 x.2.2.2.2.1;have e:Dl.ArgD fL x= .agg (Ve x).row:=by show Dl.D.agg [.c (.sl 2 (wt (Sh.enc bt) x.1.1)),.c (ls x.2.1.1),.c (.sl 2 (wt (Sh.enc fe) x.2.1.2.1)),.c (.sl 1 (wt (Sh.enc ff) x.2.1.2.2.1)),.c (.sl 6 (wt (Sh.enc Q4) x.2.2.1)),.c (li x.2.2.2.1.1),.c (.sl 3 (wt (Sh.enc mq) x.2.2.2.1.2.1)),.c (.sl 1 (wt (Sh.enc qO) x.2.2.2.1.2.2.1)),.c (.sl 8 (wt (Sh.enc cd) x.2.2.2.2.1))]=_;rw [e1,e2,e3,e4,e5,e6];rfl
 rw [<-e];exact h
theorem qfR(x:Val (.sl 4 Z7))(h:Dl.VD w E (Dl.ArgD (.sl 4 Z7) x) v):Dl.VD w E (dv (.sl 4 ((wt Dcs.ofVal x).map Dcs.enc))) v:=by
 have e1:=RX x;have e:Dl.ArgD (.sl 4 Z7) x=dv (.sl 4 ((wt Dcs.ofVal x).map Dcs.enc)):=by show Dl.D.one (.c (.sl 4 (wt (Sh.enc Z7) x)))=_;rw [e1]
 rw [<-e];exact h
theorem qeG(x:Val Q4)(h:Dl.VD w E (Dl.ArgD Q4 x) v):Dl.VD w E (.agg (Rul.ofVal x).row) v:=by
 have e1:=gP x.2.2.1;have e2:=gP x.2.2.2.1;have e:Dl.ArgD Q4 x= .agg (Rul.ofVal x).row:=by show Dl.D.agg [.c (.sl 1 (wt (Sh.enc qO) x.1)),.c (.sl 1 (wt (Sh.enc qO) x.2.1)),.c (.sl 2 (wt (Sh.enc QB) x.2.2.1)),.c (.sl 2 (wt (Sh.enc QB) x.2.2.2.1)),.c (lb x.2.2.2.2.1),.c (lb x.2.2.2.2.2.1)]=_;rw [e1,e2];rfl
 rw [<-e];exact h
theorem BN{α:Type}(f:α->Nat): ∀{l:List α} {a:α},a∈l->f a<=(l.map f).sum
 | b::l,a,h=>by
  rcases wJ.1 h with rfl|h
  ·simp
  ·have:=BN f h;simp;omega
theorem mi{α:Type}(f:α->Nat)(hf: ∀a,1<=f a): ∀l:List α,l.length<=(l.map f).sum
 | []=>oh
 | b::l=>by have:=mi f hf l;have:=hf b;simp;omega
theorem qbz{x:Val tC}(h:Dl.sizeV tC x<=n): ∀p∈XQ x,p.name.size<=n:=by intro p hp;obtain⟨y,hy,rfl⟩:=wN.1 hp;have h1:=BN (Dl.sizeV bt) hy;have e1:Dl.sizeV tC x=1+(wt (Dl.sizeV bt) x.1).sum+0:=rfl;have e2:Dl.sizeV bt y=(Phon.ofVal y).name.size+1+(1+0):=rfl;omega
theorem Ul(a:Val iw):1<=Dl.sizeV iw a:=by have e:Dl.sizeV iw a=1+(wt (Dl.sizeV qO) a).sum:=rfl;omega
theorem Ug(a:Val cP):1<=Dl.sizeV cP a:=by have e:Dl.sizeV cP a=(Sns.ofVal a).gloss.size+1+((Sns.ofVal a).txt.size+1+0):=rfl;omega
theorem sE(a:Val QB):1<=Dl.sizeV QB a:=by have e:Dl.sizeV QB a=1+(1+0):=rfl;omega
theorem vN(f:α->β)(g:α->Nat)(hg: ∀a,1<=g a)(l:List α)(h:(l.map g).sum<=n):(l.map f).length<=n:=by have:=mi g hg l;rw [wn];omega
theorem zX(f:α->β)(g:α->Nat){p:β->Prop}(hp: ∀a,g a<=n->p (f a))(l:List α)(h:(l.map g).sum<=n): ∀b∈l.map f,p b:=fun b hb=>by obtain⟨a,ha,rfl⟩:=wN.1 hb;exact hp a (wu (BN g ha) h)
theorem qdd(a:Val iw)(h:Dl.sizeV iw a<=n):(Bv a).length<=n:=by have e:Dl.sizeV iw a=1+(wt (Dl.sizeV qO) a).sum:=rfl;have h2:=mi (Dl.sizeV qO) (fun _=>wl 1) a;exact wu h2 oa
theorem qaz(s:Val cP)(h:Dl.sizeV cP s<=n):(Sns.ofVal s).gloss.size<=n/\(Sns.ofVal s).txt.size<=n:=by have e:Dl.sizeV cP s=(Sns.ofVal s).gloss.size+1+((Sns.ofVal s).txt.size+1+0):=rfl;omega
theorem qgv(x:Val .str)(h:Dl.sizeV .str x<=n):ByteArray.size x<=n:=wu (Nat.le_succ _) h
theorem qcI{x:Val cd}(h:Dl.sizeV cd x<=1048576):MidE (Ent.ofVal x):=by have e0:Dl.sizeV cd x=1+((1+(wt (Dl.sizeV qO) x.2.1).sum)+(1+((1+(wt (Dl.sizeV iw) x.2.2.2.1).sum)+(1+((1+(wt (Dl.sizeV cP) x.2.2.2.2.2.1).sum)+((1+(wt (Dl.sizeV QB) x.2.2.2.2.2.2.1).sum)+((1+(wt (Dl.sizeV QB) x.2.2.2.2.2.2.2.1).sum)+0))))))):=rfl;have q1:(wt (Dl.sizeV qO) x.2.1).sum<=1048576:=oa;have q2:(wt (Dl.sizeV iw) x.2.2.2.1).sum<=1048576:=oa;have q3:(wt (Dl.sizeV cP) x.2.2.2.2.2.1).sum<=1048576:=oa;have q4:(wt (Dl.sizeV QB) x.2.2.2.2.2.2.1).sum<=1048576:=oa;have q5:(wt (Dl.sizeV QB) x.2.2.2.2.2.2.2.1).sum<=1048576:=oa;exact⟨wu (mi (Dl.sizeV qO) (fun _=>wl 1) x.2.1) q1,vN Bv _ Ul _ q2,zX Bv _ qdd _ q2,vN Sns.ofVal _ Ug _ q3,vN Lnk.ofVal _ sE _ q4,vN Lnk.ofVal _ sE _ q5,zX Sns.ofVal _ qaz _ q3⟩
theorem um(f:α->Nat)(hf: ∀a,1<=f a)(l:List α)(h:(l.map f).sum<=n):l.length<=n:=wu (mi f hf l) h
theorem Ue(a:Val .str):1<=Dl.sizeV .str a:=y7 1 _
theorem NS(a:Val bt):1<=Dl.sizeV bt a:=by have e:Dl.sizeV bt a=(Phon.ofVal a).name.size+1+(1+0):=rfl;omega
theorem Ud(a:Val fe):1<=Dl.sizeV fe a:=by have e:Dl.sizeV fe a=(Unt.ofVal a).graph.size+1+((1+(wt (Dl.sizeV qO) a.2.1).sum)+0):=rfl;omega
theorem Uj(a:Val ff):1<=Dl.sizeV ff a:=by have e:Dl.sizeV ff a=1+(wt (Dl.sizeV .str) a).sum:=rfl;omega
theorem Xq(a:Val Q4):Dl.sizeV Q4 a=(1+(wt (Dl.sizeV qO) a.1).sum)+((1+(wt (Dl.sizeV qO) a.2.1).sum)+((1+(wt (Dl.sizeV QB) a.2.2.1).sum)+((1+(wt (Dl.sizeV QB) a.2.2.2.1).sum)+(1+(1+0))))):=rfl
theorem Uh(a:Val Q4):1<=Dl.sizeV Q4 a:=by have:=Xq a;omega
theorem Uf(a:Val mq):1<=Dl.sizeV mq a:=by have e:Dl.sizeV mq a=1+(1+(1+0)):=rfl;omega
theorem Uk(a:Val cd):1<=Dl.sizeV cd a:=by have e:Dl.sizeV cd a=1+((1+(wt (Dl.sizeV qO) a.2.1).sum)+(1+((1+(wt (Dl.sizeV iw) a.2.2.2.1).sum)+(1+((1+(wt (Dl.sizeV cP) a.2.2.2.2.2.1).sum)+((1+(wt (Dl.sizeV QB) a.2.2.2.2.2.2.1).sum)+((1+(wt (Dl.sizeV QB) a.2.2.2.2.2.2.2.1).sum)+0))))))):=rfl;omega
theorem N4(a:Val Q4)(h:Dl.sizeV Q4 a<=1048576):SO (Rul.ofVal a):=by have e:=Xq a;exact⟨um (Dl.sizeV qO) (fun _=>wl 1) a.1 oa,um (Dl.sizeV qO) (fun _=>wl 1) a.2.1 oa,vN Lnk.ofVal _ sE a.2.2.1 oa,vN Lnk.ofVal _ sE a.2.2.2.1 oa⟩
theorem qfo{x:Val fL}(h:Dl.sizeV fL x<=1048576):MidG (Ve x):=by
 have e0:Dl.sizeV fL x=Dl.sizeV tC x.1+(((ByteArray.size x.2.1.1+1)+((1+(wt (Dl.sizeV fe) x.2.1.2.1).sum)+((1+(wt (Dl.sizeV ff) x.2.1.2.2.1).sum)+0)))+((1+(wt (Dl.sizeV Q4) x.2.2.1).sum)+((1+((1+(wt (Dl.sizeV mq) x.2.2.2.1.2.1).sum)+((1+(wt (Dl.sizeV qO) x.2.2.2.1.2.2.1).sum)+0)))+((1+(wt (Dl.sizeV cd) x.2.2.2.2.1).sum)+0)))):=rfl;have eI:Dl.sizeV tC x.1=1+(wt (Dl.sizeV bt) x.1.1).sum+0:=rfl;have qU:(wt (Dl.sizeV fe) x.2.1.2.1).sum<=1048576:=oa;have qL:(wt (Dl.sizeV ff) x.2.1.2.2.1).sum<=1048576:=oa;have qR:(wt (Dl.sizeV Q4) x.2.2.1).sum<=1048576:=oa;have qE:(wt (Dl.sizeV cd) x.2.2.2.2.1).sum<=1048576:=oa;refine { nm:=?_,inv:=?_,names:=qbz oa,units:=?_,graph:=?_,segs:=?_,lets:=?_,letl:=?_,lett:=?_,rules:=?_,src:=?_,steps:=?_,fin:=?_,lex:=?_,ents:=?_ }
 ·show ByteArray.size x.2.1.1<=1048576;omega
 ·exact vN Phon.ofVal _ NS x.1.1 oa
 ·exact vN Unt.ofVal _ Ud _ qU
 ·exact zX (p:=fun u:Unt=>u.graph.size<=1048576) Unt.ofVal _ (n:=1048576) (fun a ha=>by have e:Dl.sizeV fe a=(Unt.ofVal a).graph.size+1+((1+(wt (Dl.sizeV qO) a.2.1).sum)+0):=rfl;omega) _ qU
 ·exact zX (p:=fun u:Unt=>u.segs.length<=1048576) Unt.ofVal _ (n:=1048576) (fun a ha=>by have e:Dl.sizeV fe a=(Unt.ofVal a).graph.size+1+((1+(wt (Dl.sizeV qO) a.2.1).sum)+0):=rfl;exact um (Dl.sizeV qO) (fun _=>wl 1) a.2.1 oa) _ qU
 ·exact vN EK _ Uj _ qL
 ·exact zX (p:=fun l:List ByteArray=>l.length<=1048576) EK _ (n:=1048576) (fun a ha=>by have e:Dl.sizeV ff a=1+(wt (Dl.sizeV .str) a).sum:=rfl;exact um (Dl.sizeV .str) Ue a oa) _ qL
 ·exact zX (p:=fun l:List ByteArray=>∀s∈l,s.size<=1048576) EK _ (n:=1048576) (fun a ha s hs=>by have e:Dl.sizeV ff a=1+(wt (Dl.sizeV .str) a).sum:=rfl;have h1:=BN (Dl.sizeV .str) (l:=a) (a:=s) hs;have h2:Dl.sizeV .str s=s.size+1:=rfl;omega) _ qL
 ·exact vN Rul.ofVal _ Uh _ qR
 ·exact zX (p:=SO) Rul.ofVal _ (n:=1048576) N4 _ qR
 ·exact vN Stp.ofVal _ Uf x.2.2.2.1.2.1 oa
 ·exact um (Dl.sizeV qO) (fun _=>wl 1) x.2.2.2.1.2.2.1 oa
 ·exact vN Ent.ofVal _ Uk _ qE
 ·exact zX (p:=MidE) Ent.ofVal _ (n:=1048576) (fun a ha=>qcI ha) _ qE
theorem Yz(a:Val Z7):Dl.sizeV Z7 a=(1+(1+0))+(1+(((1+(wt (Dl.sizeV mr) a.2.2.1.1).sum)+0)+0)):=rfl
theorem Ui(a:Val mr):1<=Dl.sizeV mr a:=by have e:Dl.sizeV mr a=1+(1+(1+0)):=rfl;omega
theorem Xg(a:Val iv):Dl.sizeV iv a=((Tir.ofVal a).name.size+1)+(1+(1+(1+0))):=rfl
theorem DE{α:Type}(f:α->Nat)(hf: ∀a,4<=f a): ∀l:List α,4*l.length<=(l.map f).sum
 | []=>oh
 | b::l=>by have:=DE f hf l;have:=hf b;simp [Nat.mul_add];omega
theorem qbq{x0:Val fL}{x1:Val mw}{x2:Val (.sl 4 Z7)}{x5:Val Q4}(h0:Dl.sizeV fL x0<=1048576)(h1:Dl.sizeV mw x1<=1048576)(h2:Dl.sizeV (.sl 4 Z7) x2<=1048576)(h5:Dl.sizeV Q4 x5<=1048576):
  LicS (Ve x0) (Dcm.ofVal x1) (wt Dcs.ofVal x2) (Rul.ofVal x5):=by
 have e1:Dl.sizeV mw x1=(1+(((Dcm.ofVal x1).rc.name.size+1)+(1+(1+((1+(wt (Dl.sizeV qO) x1.1.2.2.2.2.1).sum)+0)))))+((1+(wt (Dl.sizeV iv) x1.2.1).sum)+((1+(wt (Dl.sizeV Ax) x1.2.2.1).sum)+0)):=rfl;have e2:Dl.sizeV (.sl 4 Z7) x2=1+(wt (Dl.sizeV Z7) x2).sum:=rfl;have q1:(wt (Dl.sizeV iv) x1.2.1).sum<=1048576:=oa;have q2:(wt (Dl.sizeV Z7) x2).sum<=1048576:=oa;refine { lg:=qfo h0,trs:=?_,nam:=?_,len:=?_,pick:=?_,rl:=N4 x5 h5 }
 ·have:=DE (Dl.sizeV iv) (fun a=>by have:=Xg a;omega) x1.2.1;have e3:(Dcm.ofVal x1).tiers.length=List.length x1.2.1:=wn ..;omega
 ·exact zX (p:=fun t:Tir=>t.name.size<=1048576) Tir.ofVal _ (n:=1048576) (fun a ha=>by have:=Xg a;omega) _ q1
 ·exact vN Dcs.ofVal _ (fun a=>by have:=Yz a;omega) _ q2
 ·exact zX (p:=fun d:Dcs=>d.pick.length<=1048576) Dcs.ofVal _ (n:=1048576) (fun a ha=>by have:=Yz a;exact vN Prt.ofVal _ Ui a.2.2.1.1 oa) _ q2
theorem qeH{K}{d0 d1 d2 d3 d4 d5:Dl.D}{v0 v1 v2 v3 v4 v5:Value}(h0:Dl.VD w K d0 v0)(h1:Dl.VD w K d1 v1)(h2:Dl.VD w K d2 v2)(h3:Dl.VD w K d3 v3)(h4:Dl.VD w K d4 v4)(h5:Dl.VD w K d5 v5): ∀(j:Nat) d v,[d0,d1,d2,d3,d4,d5][j]? =some d-> #[v0,v1,v2,v3,v4,v5][j]? =some v->Dl.VD w K d v:=fun j d v g1 g2=>by
 match j with
 | 0=>simp at g1 g2;subst g1;subst g2;exact h0
 | 1=>simp at g1 g2;subst g1;subst g2;exact h1
 | 2=>simp at g1 g2;subst g1;subst g2;exact h2
 | 3=>simp at g1 g2;subst g1;subst g2;exact h3
 | 4=>simp at g1 g2;subst g1;subst g2;exact h4
 | 5=>simp at g1 g2;subst g1;subst g2;exact h5
 | j+6=>simp at g1
end Go.Proofs.YtobpcppcjdnkmaaGreat
