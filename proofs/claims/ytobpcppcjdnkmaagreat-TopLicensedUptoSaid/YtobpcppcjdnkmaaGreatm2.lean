/- Contracts of the functions that the law reaches; part 3. -/
import Derived.ProofKit
import Derived.Deep.Slices
import Derived.OpenShut
import Derived.Test.YtobpcppcjdnkmaaGreatRows
import Derived.Test.YtobpcppcjdnkmaaGreatm1
set_option linter.all false
set_option maxRecDepth 10000
set_option maxHeartbeats 8000000
open Array renaming replicate → yg
open Go renaming World → j5, Value → j6, TypeId → j8, Operand → j9, Oper → aa, Exit → ah, FuncId → am
open Go.Fence renaming wide → ya
open Go.IntKind renaming wrap → aD
open Go.Maps renaming has → jl
open Go.Oper renaming wp → j4, wp_mono → yL
open Go.Proofs.Tryz renaming prog → pP
open Go.Region renaming ready → w5, noSelect → je
open Go.Result renaming andThen_ok → wj
open Go.Sem renaming run_bind → wq, run_pure → wG
open Go.Sort renaming ahead → jx
open Go.World renaming alloc_heap_new → jg, cell?_of_block → jf, putObj_heap_other → wX, putObj_heap_same → jk
open List renaming replicate → yb, range → wR
noncomputable section
namespace Go.Dl
open Go.RowKit
variable {l ops:List aa}{s s':DS}{Q:ah->DS->Prop}{N b i lo m n:Nat}{md:Mode}{G:Nat->Prop}{c x y:Code}{A B F:Prop}{sls:List (Nat×D)}{bxs:List (Nat×Rows)}{P:Program}{f:am}{ds:List D}{R:D->Prop}{d r:D}{t:Bool}{H:vT}{ns:List Nat}{a:Act}{α σ:Type}{pl:Nat->List (Nat×Mode)}{K:DS->Prop}{o:aa}{E:Env}{w w':j5}{K':qM}{dst:Option Nat}{u v:j6}{zr:List j6}{ch:List PanicEntry}{cs:List C}
section
variable {P:Program}
def kc{id:Nat}(h:wk P (l.map (·.dst)) (bq l) s (Q .normal))(hn:s.n=N:=by rfl)(hb:zM l N=true:=by kernel_rfl):DW P (.region id l.toArray false) s Q:=HZ hn hb h
def kj{id:Nat}{l:List aa}{s:DS}{Q:ah->DS->Prop}{N:Nat}{l':List (Mode×aa)}(pl:Nat->List (Nat×Mode))(h:wk P (l.map (·.dst)) l' s (Q .normal))(hm:P.follows .mixedOrders=true:=by kernel_rfl)(hn:s.n=N:=by rfl)
  (hc:eY l N (pl id)=true:=by kernel_rfl) (hp:Picks l (pl id) l':=by repeat(first|exact Picks.nil|(apply Picks.cons;rfl))):DW P (.region id l.toArray true) s Q:=CD (pl id) hm hn hc hp h
variable {o:aa} {args:List D} {s:DS} {dst:Option Nat} {ds:List (Option Nat)} {l:List (Mode×aa)} {K:DS->Prop} {g:am} {es:List D} {r:D} {caps:List C}
def kw(hc:DCalls P g es r)(hk:wk P ds l (zI s dst r) K)(vh:LeL (args.map D.cl++caps.map fun c=>D.one (.c c)) es:=by exact LeL.of_eq rfl):CallC .step P o (.one (.c (.fn g caps))) args s dst ds l K:=CallC.mk hc vh hk
def kv(hc:DCalls P g es r)(hk:wk P ds l (s.put dst r.cl) K)(vh:LeL (args.map D.cl++caps.map fun c=>D.one (.c c)) es:=by exact LeL.of_eq rfl):CallC .light P o (.one (.c (.fn g caps))) args s dst ds l K:=CallC.light hc vh hk
def UJ(md:Mode)(s:DS)(dst:Option Nat)(r:D):DS:=match md with
 | .step=>zI s dst r
 | _=>s.put dst r.cl
theorem KL(s:DS)(dst:Option Nat)(r:D):UJ .step s dst r=zI s dst r:=rfl
theorem G0(s:DS)(dst:Option Nat)(r:D):UJ .light s dst r=s.put dst r.cl:=rfl
def Mode.calls:Mode->Bool
 | .step| .light=>true
 | _=>false
def kx(hc:DCalls P g es r)(hk:wk P ds l (UJ md s dst r) K)(vh:LeL (args.map D.cl++caps.map fun c=>D.one (.c c)) es:=by exact LeL.of_eq rfl)(hm:md.calls=true:=by rfl):CallC md P o (.one (.c (.fn g caps))) args s dst ds l K:=by
 cases md with
 | step=>exact CallC.mk hc vh hk
 | light=>exact CallC.light hc vh hk
 | _=>cases hm
attribute [go_sem] KL G0
def kd{f:am}{fn:Func}{c:Code}{ds':List D}{N:Nat}{rs:List ResultVar}(hf:P.funcs[f]? =some fn)(h:DW P c (zZ N ds' qA) (fun e s'=>(e= .normal\/e= .ret)/\Zs P s' rs=some r))(hp:Program.plainF P f=true:=by kernel_rfl)
  (hb:fn.body=some c:=by rfl) (hN:fn.ntmps=N:=by rfl) (eL:fn.results.toList=rs:=by rfl) (hn:(decide (ds'.length<=N)&&decide (N<=100000))=true:=by simp):DCalls P f ds' r:=qcR hp hf hb hN eL hn h
def kz{p:Prop}{G:Prop}(h:p)(hn: ¬p:=by decide):G:=ak h hn
def xh(b:Bool)(A B:Prop):Prop:=(b=true->A)/\(b=false->B)
def sS(A B:Prop):xh true A B=A:=by simp[xh]
def sT(A B:Prop):xh false A B=B:=by simp[xh]
def fk(d:D)(A B:Prop):Prop:=∃b:Bool,d= .one (.c (.lit (.bool b)))/\xh b A B
def Qw(b:Bool)(A B:Prop):fk (.one (.c (.lit (.bool b)))) A B=xh b A B:=by
 refine propext ⟨fun⟨b',h,k⟩=>?_,fun k=>⟨b,rfl,k⟩⟩;injection h with h;injection h with h;injection h with h;injection h with h
 rw[h];exact k
def kg{c:j9}{s:DS}(h:fk (s.ev c) (DW P x s Q) (DW P y s Q)):DW P (.cond c x y) s Q:=by obtain⟨b,h1,h2,h3⟩:=h;exact qW h1 h2 h3
def kh{b:Bool}(h1:b=true->A)(h2:b=false->B):xh b A B:=⟨h1,h2⟩
attribute [go_sem] sS sT Qw
def kl{s:DS}(hn:s.n=N:=by rfl)(h1:AllS s sls:=by simp (decide:=true) only[go_sem,reduceIte,reduceCtorEq,Nat.reduceEqDiff,Nat.reduceAdd,Nat.reduceMul,Nat.reduceSub,Nat.reduceLeDiff,Nat.reduceBEq])(h2: ∀k r,qA k=some r->s.bx k=some r:=by simp[qA]):s.Sub (kn N sls qA):=vU hn h1 h2
def km{s:DS}(h2:AllB s bxs)(hn:s.n=N:=by rfl)(h1:AllS s sls:=by simp (decide:=true) only[go_sem,reduceIte,reduceCtorEq,Nat.reduceEqDiff,Nat.reduceAdd,Nat.reduceMul,Nat.reduceSub,Nat.reduceLeDiff,Nat.reduceBEq]):s.Sub (kn N sls (ml bxs)):=qw hn h1 h2
def qC{id:Nat}{l:List aa}{s:DS}(h:wk P (l.map (·.dst)) (bq l) s (Q .normal))(hb:zM l s.n=true:=by kernel_rfl):DW P (.region id l.toArray false) s Q:=HZ rfl hb h
def zU{id:Nat}{l:List aa}{s:DS}{Q:ah->DS->Prop}{l':List (Mode×aa)}(pl:Nat->List (Nat×Mode))(h:wk P (l.map (·.dst)) l' s (Q .normal))(hm:P.follows .mixedOrders=true:=by kernel_rfl)
  (hc:eY l s.n (pl id)=true:=by kernel_rfl) (hp:Picks l (pl id) l':=by repeat(first|exact Picks.nil|(apply Picks.cons;rfl))):DW P (.region id l.toArray true) s Q:=CD (pl id) hm rfl hc hp h
structure StpD(P:Program)(c:Code) where
 f:DS->(ah->DS->Prop)->Prop
 ok: ∀s Q,f s Q->DW P c s Q
instance iSeq(a b:Code):Inhabited (StpD P (.seq a b)):=⟨⟨fun s Q=>DW P a s (vP (fun s'=>DW P b s' Q) Q),fun _ _ h=>qk h⟩⟩
instance iBlk(id:Nat)(a:Code):Inhabited (StpD P (.block id a)):=⟨⟨fun s Q=>DW P a s (zo id Q),fun _ _ h=>qm h⟩⟩
instance iSkp:Inhabited (StpD P .skip):=⟨⟨fun s Q=>Q .normal s,fun _ _ h=>qt h⟩⟩
instance iExt(id:Nat):Inhabited (StpD P (.exit id)):=⟨⟨fun s Q=>Q (.exit id) s,fun _ _ h=>qv h⟩⟩
instance iCnd(c:j9)(x y:Code):Inhabited (StpD P (.cond c x y)):=⟨⟨fun s Q=>fk (s.ev c) (DW P x s Q) (DW P y s Q),fun _ _ h=>kg h⟩⟩
def kU{s:DS} [i:Inhabited (StpD P c)](h:i.default.f s Q):DW P c s Q:=i.default.ok s Q h
theorem qbL(a b:Code)(s:DS)(Q:ah->DS->Prop):StpD.f (P:=P) (iSeq a b).default s Q=DW P a s (vP (fun s'=>DW P b s' Q) Q):=rfl
theorem qbP(id:Nat)(a:Code)(s:DS)(Q:ah->DS->Prop):StpD.f (P:=P) (iBlk id a).default s Q=DW P a s (zo id Q):=rfl
theorem qbK(s:DS)(Q:ah->DS->Prop):StpD.f (P:=P) iSkp.default s Q=Q .normal s:=rfl
theorem qbN(id:Nat)(s:DS)(Q:ah->DS->Prop):StpD.f (P:=P) (iExt id).default s Q=Q (.exit id) s:=rfl
theorem qbO(c:j9)(x y:Code)(s:DS)(Q:ah->DS->Prop):StpD.f (P:=P) (iCnd c x y).default s Q=fk (s.ev c) (DW P x s Q) (DW P y s Q):=rfl
attribute [go_sem] qbL qbP qbK qbN qbO
def Zb{s:DS}(hn:s.n=N:=by rfl)(h1:AllS s sls:=by simp (decide:=true) only[go_sem,reduceIte,reduceCtorEq,Nat.reduceEqDiff,Nat.reduceAdd,Nat.reduceMul,Nat.reduceSub,Nat.reduceLeDiff,Nat.reduceBEq])(h2:AllB s bxs:=by simp (decide:=true) only[go_sem,reduceIte,reduceCtorEq,Nat.reduceEqDiff,Nat.reduceAdd,Nat.reduceMul,Nat.reduceSub,Nat.reduceLeDiff,Nat.reduceBEq]):s.Sub (kn N sls (ml bxs)):=qw hn h1 h2
theorem qo:maxLen=9223372036854775807:=rfl
end
def NCalls(P:Program)(f:am)(ds:List D)(R:D->Prop):Prop:=
 Program.plainF P f=true/\∀(w:j5) (K:qM) (vs:Array j6),KOk w K->vs.size=ds.length->
  (∀(j:Nat) d v,ds[j]? =some d->vs[j]? =some v->VD w (E0 K) d v)->
  Calls P f vs w fun e w'=>∃v E' r,e= .returned v/\R r/\Ret w K w' E'/\VD w' E' r v
def ECalls.some(h:ECalls P f ds qA (fun r _=>R r)):NCalls P f ds R:=by refine⟨h.1,fun w K vs hk hl hv=>?_⟩;refine Calls.mono (h.2 w (E0 K) (fun _ _=>False) vs (BB w K hk) hl hv) ?_;rintro e w' ⟨v,E',r',H',rfl,hR,aM,hv'⟩;refine⟨v,E',r',rfl,hR,⟨aM.turn.below,aM.kin,fun b o hb=>aM.kold b o hb id,aM.kok,fun n b o hs=>?_,aM.disj⟩,hv'⟩;obtain⟨h1,h2,h3⟩:=aM.free n b o hs;exact⟨h1.resolve_right id,h2,h3⟩
def dq{P:Program}{f:am}{fn:Func}{c:Code}{ds:List D}{R:D->Prop}{N:Nat}{rs:List ResultVar}(hp:Program.plainF P f=true)(hf:P.funcs[f]? = .some fn)(hb:fn.body= .some c)(hN:fn.ntmps=N)(eL:fn.results.toList=rs)(hn:(decide (ds.length<=N)&&decide (N<=100000))=true)
  (h:DW P c (zZ N ds qA) (fun e s'=>(e= .normal\/e= .ret)/\∃r,Zs P s' rs= .some r/\R r)):NCalls P f ds R:=
 ECalls.some (Qn hp hf hb hN eL hn h)
def NCalls.one(h:DCalls P f ds r):NCalls P f ds (fun x=>x=r):=
 ⟨h.1,fun w K vs hk hl hv=>(h.2 w K vs hk hl hv).mono (by rintro e w' ⟨v,E',rfl,hR,hv⟩;exact⟨v,E',r,rfl,rfl,hR,hv⟩)⟩
def NCalls.mono{S:D->Prop}(h:NCalls P f ds R)(hi: ∀r,R r->S r):NCalls P f ds S:=
 ⟨h.1,fun w K vs hk hl hv=>(h.2 w K vs hk hl hv).mono (by rintro e w' ⟨v,E',r,rfl,hr,hR,hv⟩;exact⟨v,E',r,rfl,hi r hr,hR,hv⟩)⟩
def NCalls.det(h:NCalls P f ds R)(hi: ∀x,R x->x=r):DCalls P f ds r:=
 ⟨h.1,fun w K vs hk hl hv=>(h.2 w K vs hk hl hv).mono (by rintro e w' ⟨v,E',x,rfl,hx,hR,hv⟩;cases hi x hx;exact⟨v,E',rfl,hR,hv⟩)⟩
def Step.callN{P:Program}{o:aa}{s:DS}{K:DS->Prop}{f:j9}{args:Array j9}{vy:Array j8}{g:am}{caps:List C}{ds:List D}{R:D->Prop}(ho:o.op= .call { callee:=.value f,args:=args,argTypes:=vy })
  (hf:s.ev f= .one (.c (.fn g caps))) (vh:LeL ((args.toList.map s.ev).map D.cl++caps.map fun c=>D.one (.c c)) ds) (hc:NCalls P g ds R) (h: ∀r,R r->K (zI s o.dst r)):Step P o s K:=by
 rintro hd X a w ⟨E,hE⟩ Q;have hv:=hE.ev f;rw[hf]at hv;cases mZ:a.eval f with
 | func fn first captured=>
  rw[mZ]at hv;cases hv with|one t v hv=>cases hv with|c c v hv=>cases hv with
   | fn g caps vs hl hr=>
    obtain⟨h1,h2⟩:=sW (fun x=>hE.ev x) args.toList caps captured hl hr;have h1':(args.map a.eval++captured).size=ds.length:=by rw[<-(lW vh h2).1,<-h1];simp
    have h2': ∀(j:Nat) d v,ds[j]? =some d->(args.map a.eval++captured)[j]? =some v->VD w (E0 E.K) d v:=by have:=(lW vh h2).2;have he:(args.toList.map a.eval).toArray++captured=args.map a.eval++captured:=og;rw[he]at this;exact this
    have cp:=hc.2 w E.K _ hE.wi.kok h1' h2';have qS:(execOp a.eval o).run P w= .ok (.enter g (args.map a.eval++captured)) w:=by unfold execOp;simp only[ho,wq];rw[vC a.eval f args vy _ g captured mZ w];simp only[wj,invoke];exact Qs hc.1 _ w
    unfold j4;rw[qS];refine Calls.mono cp ?_;rintro e w' ⟨v,E',r,rfl,hR,pg,hvd⟩;have h:=h r hR;cases cK:o.dst with
    | none=>
     rw[cK]at h;exact⟨s,⟨rfl,h⟩,_,hE.quiet pg.quiet⟩
    | some m=>
     rw[cK]at h;exact⟨_,⟨mB s m r,h⟩,oN hE pg (hd m cK) hvd⟩
 | _=>rw[mZ]at hv;cases hv with|one t v hv=>cases hv with|c c v hv=>cases hv
def CallC.nd{P:Program}{s:DS}{f:j9}{args:List j9}{vy:Array j8}{dst:Option Nat}{ty:j8}{pos:String}{aft:Array Edge}{F:D}{A:List D}{ds:List (Option Nat)}{l:List (Mode×aa)}{K:DS->Prop}
  {g:am} {caps:List C} {es:List D} {R:D->Prop} (hc:NCalls P g es R) (hf:s.ev f= .one (.c (.fn g caps))) (vh:LeL ((args.map s.ev).map D.cl++caps.map fun c=>D.one (.c c)) es) (hk: ∀r,R r->wk P ds l (zI s dst r) K):
  CallC .step P ⟨dst,.call ⟨.value f,args.toArray,vy⟩,ty,pos,aft,none⟩ F A s dst ds l K:=
 CallC.step (Step.callN (args:=args.toArray) rfl hf (by simpa using vh) hc hk)
def X(P:Program)(N:Nat)(pl:Nat->List (Nat×Mode)):Code->(ah->DS->Prop)->DS->Prop
 | .skip,K,s=>K .normal s
 | .region id ops draw,K,s=>match draw with
  | false=>s.n=N/\wk P (ops.toList.map (·.dst)) (bq ops.toList) s (K .normal)
  | true=>DW P (.region id ops true) s K
 | .seq a b,K,s=>X P N pl a (vP (fun s'=>X P N pl b K s') K) s
 | .cond c a b,K,s=>fk (s.ev c) (X P N pl a K s) (X P N pl b K s)
 | .block id a,K,s=>X P N pl a (zo id K) s
 | .exit id,K,s=>K (.exit id) s
 | .ret,K,s=>K .ret s
 | .label l,K,s=>DW P (.label l) s K
 | .goto l,K,s=>DW P (.goto l) s K
 | .loop c,K,s=>DW P (.loop c) s K
 | .scope c,K,s=>DW P (.scope c) s K
 | .rangeFunc f p a b,K,s=>DW P (.rangeFunc f p a b) s K
 | .refuse w,K,s=>DW P (.refuse w) s K
def rO(N:Nat):Code->Bool
 | .region _ ops false=>zM ops.toList N
 | .seq a b=>rO N a&&rO N b
 | .cond _ a b=>rO N a&&rO N b
 | .block _ a=>rO N a
 | _=>true
def aR{P:Program}{N:Nat}{pl:Nat->List (Nat×Mode)}: ∀(c:Code) (K:ah->DS->Prop) (s:DS),rO N c=true->X P N pl c K s->DW P c s K
 | .skip,K,s,_,h=>qt h
 | .region id ops draw,K,s,hc,h=>by
  cases draw with
  | true=>exact h
  | false=>exact HZ (l:=ops.toList) h.1 hc h.2
 | .seq a b,K,s,hc,h=>by
  simp only[rO,we]at hc;refine qk ((aR a _ s hc.1 h).mono fun e s' h'=>?_);cases e with
  | normal=>exact aR b K s' hc.2 h'
  | _=>exact h'
 | .cond c a b,K,s,hc,h=>by
  simp only[rO,we]at hc;obtain⟨t,h1,h2,h3⟩:=h;exact qW h1 (fun e=>aR a K s hc.1 (h2 e)) (fun e=>aR b K s hc.2 (h3 e))
 | .block id a,K,s,hc,h=>qm (aR a _ s hc h)
 | .exit id,K,s,_,h=>qv h
 | .ret,K,s,_,h=>qb h
 | .label l,K,s,_,h=>h
 | .goto l,K,s,_,h=>h
 | .loop c,K,s,_,h=>h
 | .scope c,K,s,_,h=>h
 | .rangeFunc f p a b,K,s,_,h=>h
 | .refuse w,K,s,_,h=>h
def qdF(P:Program)(N:Nat)(pl:Nat->List (Nat×Mode))(b:Code)(K:ah->DS->Prop):ah->DS->Prop:=vP (fun s=>X P N pl b K s) K
def qc1(P:Program)(N:Nat)(pl:Nat->List (Nat×Mode))(d:D)(a b:Code)(K:ah->DS->Prop)(s:DS):Prop:=fk d (X P N pl a K s) (X P N pl b K s)
section
variable {P:Program} {N:Nat} {pl:Nat->List (Nat×Mode)} {a b:Code} {K:ah->DS->Prop} {s:DS}
theorem qdp:X P N pl .skip K s=K .normal s:=rfl
theorem YG{id:Nat}:X P N pl (.region id l.toArray false) K s=(s.n=N/\wk P (l.map (·.dst)) (bq l) s (K .normal)):=rfl
theorem YF:X P N pl (.seq a b) K s=X P N pl a (qdF P N pl b K) s:=rfl
theorem qdr{c:j9}:X P N pl (.cond c a b) K s=qc1 P N pl (s.ev c) a b K s:=rfl
theorem SI{id:Nat}:X P N pl (.block id a) K s=X P N pl a (zo id K) s:=rfl
theorem qdq{id:Nat}:X P N pl (.exit id) K s=K (.exit id) s:=rfl
theorem qgc:X P N pl .ret K s=K .ret s:=rfl
theorem As:qdF P N pl b K .normal s=X P N pl b K s:=rfl
theorem qeq:qdF P N pl b K .ret s=K .ret s:=rfl
theorem qer:qdF P N pl b K (.exit i) s=K (.exit i) s:=rfl
def qfV:qc1 P N pl (.one (.c (.lit (.bool true)))) a b K s=X P N pl a K s:=by simp only[qc1,Qw,sS]
def qfW:qc1 P N pl (.one (.c (.lit (.bool false)))) a b K s=X P N pl b K s:=by simp only[qc1,Qw,sT]
def xc(h1:t=true->X P N pl a K s)(h2:t=false->X P N pl b K s):qc1 P N pl (.one (.c (.lit (.bool t)))) a b K s:=by simp only[qc1,Qw];exact⟨h1,h2⟩
theorem qbC:(zZ N ds H).n=N:=rfl
theorem qgR{l:List (Nat×D)}:(kn N l H).n=N:=rfl
theorem Wq:(s.close ns).n=s.n:=rfl
theorem qgt{r:Ren}:(s.tr r).n=s.n:=rfl
theorem Un{r:Option Rows}:(s.setBx m r).n=s.n:=rfl
theorem U0{r:List T}:(s.newBx m r).n=s.n:=rfl
theorem O2{r:Rows}:(s.newMem m r).n=s.n:=rfl
def xw(pl:Nat->List (Nat×Mode))(h:X P N pl c K s)(hc:rO N c=true:=by kernel_rfl):DW P c s K:=aR c K s hc h
def xl(h:DW P (.loop a) s K):X P N pl (.loop a) K s:=h
section
variable {md:Mode} {ds:List (Option Nat)} {dst:Option Nat} {ty:j8} {pos:String} {aft:Array Edge} {l:List (Mode×aa)} {K:DS->Prop} {op:Op} {b:Bool}
def gt(h1:b=true->Zc (some true) md P ds dst op ty pos aft l s K)(h2:b=false->Zc (some false) md P ds dst op ty pos aft l s K):Zc (some b) md P ds dst op ty pos aft l s K:=qx h1 h2
def gf(h1:b=true->Zc (some false) md P ds dst op ty pos aft l s K)(h2:b=false->Zc (some true) md P ds dst op ty pos aft l s K):Zc (some (!b)) md P ds dst op ty pos aft l s K:=qy h1 h2
end
def xj{id:Nat}{l:List aa}{l':List (Mode×aa)}(h:wk P (l.map (·.dst)) l' s (K .normal))(hm:P.follows .mixedOrders=true:=by kernel_rfl)(hn:s.n=N:=by rfl)
  (hc:eY l N (pl id)=true:=by kernel_rfl) (hp:Picks l (pl id) l':=by repeat(first|exact Picks.nil|(apply Picks.cons;rfl))):X P N pl (.region id l.toArray true) K s:=CD (pl id) hm hn hc hp h
end
attribute [go_sem ↓] qdp YG YF qdr SI qdq qgc As qeq qer
attribute [go_sem] qfV qfW qbC qgR Wq qgt Un zD U0 O2 mB Bw lT
def fin(P:Program)(rs:List ResultVar)(R:D->vT->Prop):ah->DS->Prop
 | .normal,s=>∃r,Zs P s rs=some r/\R r s.bx
 | .ret,s=>∃r,Zs P s rs=some r/\R r s.bx
 | _,_=>False
theorem qfH(P:Program)(rs:List ResultVar)(R:D->vT->Prop)(s:DS):fin P rs R .normal s=∃r,Zs P s rs=some r/\R r s.bx:=rfl
theorem qfG(P:Program)(rs:List ResultVar)(R:D->vT->Prop)(s:DS):fin P rs R .ret s=∃r,Zs P s rs=some r/\R r s.bx:=rfl
attribute [go_sem ↓] qfH qfG
def DLeA:List D->List D->Prop
 | [],[]=>True
 | a::l,b::m=>DLe a b/\DLeA l m
 | _,_=>False
def DLeT:List D->D->Prop
 | [d],r=>DLe d r
 | ds,.tup es=>DLeA ds es
 | _,_=>False
theorem SX:DLeA [] []=True:=rfl
theorem Mx(a b:D)(l m:List D):DLeA (a::l) (b::m)=(DLe a b/\DLeA l m):=rfl
theorem SV(d r:D):DLeT [d] r=DLe d r:=rfl
theorem SU(a b:D)(l es:List D):DLeT (a::b::l) (.tup es)=DLeA (a::b::l) es:=rfl
theorem W7(es:List D):DLeT [] (.tup es)=DLeA [] es:=rfl
def QV(d:D):DLe d d=True:=aB (DLe.rfl_ d)
attribute [go_sem] SX Mx SV SU W7 QV
def DLeA.get: ∀{l m:List D},DLeA l m->l.length=m.length/\∀(j:Nat) b,m[j]? =some b->∃a,l[j]? =some a/\DLe a b
 | [],[],_=>⟨rfl,fun j b h=>by simp at h⟩
 | a::l,b::m,h=>by
  obtain⟨h1,h2⟩:=DLeA.get h.2;refine⟨by simp[h1],fun j c hc=>?_⟩;cases j with
  | zero=>injection hc with hc;subst hc;exact⟨a,rfl,h.1⟩
  | succ j=>grind
def Nt:List D->D
 | [d]=>d
 | ds=>.tup ds
def DLeT.le{l:List D}(h:DLeT l r):DLe (Nt l) r:=by
 have key: ∀{l es:List D},DLeA l es->DLe (.tup l) (.tup es):=fun {l es} h w E v hv=>by
  cases hv with
  | tup _ vs hl hr=>
   obtain⟨h1,h2⟩:=h.get;refine .tup _ vs (hl.trans h1) fun j d v hd hv=>?_;obtain⟨a,ha,vh⟩:=h2 j d hd;exact vh w E v (hr j a v ha hv)
 match l,r,h with
 | [],.tup es,h=>exact key h
 | [d],r,h=>exact h
 | a::b::l,.tup es,h=>exact key h
def qcx(P:Program)(rs:List ResultVar)(r:D):ah->DS->Prop
 | .normal,s=>∃l,fO P s rs=some l/\DLeT l r
 | .ret,s=>∃l,fO P s rs=some l/\DLeT l r
 | _,_=>False
theorem qcw(P:Program)(rs:List ResultVar)(r:D)(s:DS):qcx P rs r .normal s=∃l,fO P s rs=some l/\DLeT l r:=rfl
theorem qcv(P:Program)(rs:List ResultVar)(r:D)(s:DS):qcx P rs r .ret s=∃l,fO P s rs=some l/\DLeT l r:=rfl
attribute [go_sem ↓] qcw qcv
def NCalls.le(h:NCalls P f ds fun r0=>DLe r0 r):DCalls P f ds r:=
 ⟨h.1,fun w K vs hk hl hv=>(h.2 w K vs hk hl hv).mono (by rintro e w' ⟨v,E',r0,rfl,hr,hR,hv⟩;exact⟨v,E',rfl,hR,hr w' E' v hv⟩)⟩
section
variable {P:Program} {f:am} {fn:Func} {c:Code} {ds:List D} {R:D->vT->Prop} {N:Nat} {rs:List ResultVar} {H:vT} (pl:Nat->List (Nat×Mode))
theorem eX(hf:P.funcs[f]? =some fn)(h:X P N pl c (fin P rs R) (zZ N ds H))(hp:Program.plainF P f=true:=by kernel_rfl)
  (hb:fn.body=some c:=by rfl) (hN:fn.ntmps=N:=by rfl) (eL:fn.results.toList=rs:=by rfl) (hn:(decide (ds.length<=N)&&decide (N<=100000))=true:=by simp) (hc:rO N c=true:=by kernel_rfl):ECalls P f ds H R:=
 Qn hp hf hb hN eL hn ((aR c _ _ hc h).mono fun e s' h'=>by
  cases e with
  | normal=>exact⟨.inl rfl,h'⟩
  | ret=>exact⟨.inr rfl,h'⟩
  | _=>exact h'.elim)
theorem nX{R:D->Prop}(hf:P.funcs[f]? =some fn)(h:X P N pl c (fin P rs fun r _=>R r) (zZ N ds qA))(hp:Program.plainF P f=true:=by kernel_rfl)
  (hb:fn.body=some c:=by rfl) (hN:fn.ntmps=N:=by rfl) (eL:fn.results.toList=rs:=by rfl) (hn:(decide (ds.length<=N)&&decide (N<=100000))=true:=by simp) (hc:rO N c=true:=by kernel_rfl):NCalls P f ds R:=
 ECalls.some (eX pl hf h hp hb hN eL hn hc)
theorem dX{r:D}(hf:P.funcs[f]? =some fn)(h:X P N pl c (qcx P rs r) (zZ N ds qA))(hp:Program.plainF P f=true:=by kernel_rfl)
  (hb:fn.body=some c:=by rfl) (hN:fn.ntmps=N:=by rfl) (eL:fn.results.toList=rs:=by rfl) (hn:(decide (ds.length<=N)&&decide (N<=100000))=true:=by simp) (hc:rO N c=true:=by kernel_rfl):DCalls P f ds r:=
 NCalls.le (dq hp hf hb hN eL hn ((aR c _ _ hc h).mono fun e s' h'=>by
  cases e with
  | normal=>obtain⟨l,h1,h2⟩:=h';exact⟨.inl rfl,Nt l,by simp only[Zs,h1];match l with| []=>rfl| [_]=>rfl|_::_::_=>rfl,h2.le⟩
  | ret=>obtain⟨l,h1,h2⟩:=h';exact⟨.inr rfl,Nt l,by simp only[Zs,h1];match l with| []=>rfl| [_]=>rfl|_::_::_=>rfl,h2.le⟩
  | _=>exact h'.elim))
end
def qg:Nat->List (Nat×Mode):=fun _=>[]
section
variable {P:Program} {o:aa} {args:List D} {s:DS} {dst:Option Nat} {ds:List (Option Nat)} {l:List (Mode×aa)} {K:DS->Prop} {g:am} {es:List D} {r:D} {caps:List C} {md:Mode}
def kq(hk:wk P ds l (UJ md s dst r) K)(hc:DCalls P g es r:=by assumption)(vh:LeL (args.map D.cl++caps.map fun c=>D.one (.c c)) es:=by exact LeL.of_eq rfl)(hm:md.calls=true:=by rfl):CallC md P o (.one (.c (.fn g caps))) args s dst ds l K:=kx hc hk vh hm
def zJ(F:Prop):D->Prop:=fun r=>∃e:Int,r= .one (.c (.lit (.int .i64 e)))/\(e=0->F)
def bn(F:Prop):D->Prop:=fun r=>∃b:Bool,r= .one (.c (.lit (.bool b)))/\(b=true->F)
def WX{e:Int}:zJ F (.one (.c (.lit (.int .i64 e))))=(e=0->F):=propext ⟨fun⟨e',h,k⟩=>by injection h with h;injection h with h;injection h with h;injection h with _ h;rw[h];exact k,fun k=>⟨e,rfl,k⟩⟩
def SY{b:Bool}:bn F (.one (.c (.lit (.bool b))))=(b=true->F):=propext ⟨fun⟨e',h,k⟩=>by injection h with h;injection h with h;injection h with h;injection h with h;rw[h];exact k,fun k=>⟨b,rfl,k⟩⟩
variable {ty:j8} {pos:String} {aft:Array Edge} {f:j9} {av:List j9} {vy:Array j8} {Fd:D} {A:List D} {F:Prop}
def qft{R:D->Prop}(hk: ∀r,R r->wk P ds l (zI s dst r) K)(hc:NCalls P g es R:=by assumption)(hf:s.ev f= .one (.c (.fn g caps)):=by rfl)(vh:LeL ((av.map s.ev).map D.cl++caps.map fun c=>D.one (.c c)) es:=by simp +decide only[go_sem];exact LeL.of_eq rfl):
  CallC .step P ⟨dst,.call ⟨.value f,av.toArray,vy⟩,ty,pos,aft,none⟩ Fd A s dst ds l K:=CallC.nd hc hf vh hk
def kzE(hk: ∀e:Int,(e=0->F)->wk P ds l (zI s dst (.one (.c (.lit (.int .i64 e))))) K)(hc:NCalls P g es (zJ F):=by assumption)(hf:s.ev f= .one (.c (.fn g caps)):=by rfl)(vh:LeL ((av.map s.ev).map D.cl++caps.map fun c=>D.one (.c c)) es:=by simp +decide only[go_sem];exact LeL.of_eq rfl):
  CallC .step P ⟨dst,.call ⟨.value f,av.toArray,vy⟩,ty,pos,aft,none⟩ Fd A s dst ds l K:=CallC.nd hc hf vh (by rintro _ ⟨e,rfl,h⟩;exact hk e h)
def qhd(hk: ∀b:Bool,(b=true->F)->wk P ds l (zI s dst (.one (.c (.lit (.bool b))))) K)(hc:NCalls P g es (bn F):=by assumption)(hf:s.ev f= .one (.c (.fn g caps)):=by rfl)(vh:LeL ((av.map s.ev).map D.cl++caps.map fun c=>D.one (.c c)) es:=by simp +decide only[go_sem];exact LeL.of_eq rfl):
  CallC .step P ⟨dst,.call ⟨.value f,av.toArray,vy⟩,ty,pos,aft,none⟩ Fd A s dst ds l K:=CallC.nd hc hf vh (by rintro _ ⟨e,rfl,h⟩;exact hk e h)
attribute [go_sem] WX SY
theorem vp(a b:Int):(a !=b)= !(a==b):=rfl
end
attribute [go_sem] reduceIte reduceCtorEq Nat.reduceEqDiff Nat.reduceAdd Nat.reduceMul Nat.reduceSub Nat.reduceLeDiff Nat.reduceBEq
def cU(s:DS):List Nat->List (Nat×D)
 | []=>[]
 | t::l=>(t,s.sl t)::cU s l
def fX(s:DS):List Nat->Option (List (Nat×Rows))
 | []=>some []
 | m::l=>(s.bx m).bind fun r=>(fX s l).map fun q=>(m,r)::q
theorem Lp(s:DS):cU s []= []:=rfl
theorem Hv(s:DS)(t:Nat)(l:List Nat):cU s (t::l)=(t,s.sl t)::cU s l:=rfl
theorem Lq(s:DS):fX s []=some []:=rfl
theorem uu(s:DS)(m:Nat)(l:List Nat):fX s (m::l)=(s.bx m).bind fun r=>(fX s l).map fun q=>(m,r)::q:=rfl
attribute [go_sem] Lp Hv Lq uu
def dO(s:DS): ∀l,AllS s (cU s l)
 | []=>trivial
 | _::l=>⟨.inl rfl,dO s l⟩
def dP(s:DS): ∀l q,fX s l=some q->AllB s q
 | [],q,h=>by injection h with h;subst h;trivial
 | m::l,q,h=>by
  rw[uu]at h;cases hb:s.bx m with
  | none=>grind
  | some r=>
   cases hl:fX s l with
   | none=>grind
   | some p=>
    rw[hb,hl]at h;injection h with h;subst h
    exact⟨hb,dP s l p hl⟩
def AllS.app{s:DS}: ∀{a b:List (Nat×D)},AllS s a->AllS s b->AllS s (a++b)
 | [],_,_,h=>h
 | _::_,_,h,h'=>⟨h.1,AllS.app h.2 h'⟩
def AllB.app{s:DS}: ∀{a b:List (Nat×Rows)},AllB s a->AllB s b->AllB s (a++b)
 | [],_,_,h=>h
 | _::_,_,h,h'=>⟨h.1,AllB.app h.2 h'⟩
section
variable {P:Program} {N:Nat} {pl:Nat->List (Nat×Mode)} {K:ah->DS->Prop} {s:DS} {c:Code} {base:List (Nat×D)} {bb:List (Nat×Rows)}
def S7{α σ:Type}(xs:List α)(ks bs:List Nat)(ch:Nat->σ->List (Nat×D))(cB:Nat->σ->List (Nat×Rows))(Inv:Nat->σ->Prop)(y0:σ)(hi0:Inv 0 y0)
  (body: ∀k x y,xs[k]? =some x->k<xs.length->x∈xs->xs.take (k+1)=xs.take k++[x]->decide ((k:Int)<(xs.length:Int))=true->aD .i64 ((k:Int)+1)=((k+1:Nat):Int)->Inv k y->
   X P N pl c (vP (fun s'=>∃y',Inv (k+1) y'/\s'.Sub (kn N (ch (k+1) y'++base) (ml (cB (k+1) y'++bb)))) K) (kn N (ch k y++base) (ml (cB k y++bb))))
  (done: ∀y,decide ((xs.length:Int)<(xs.length:Int))=false->Inv xs.length y->X P N pl c (vP (fun _=>False) K) (kn N (ch xs.length y++base) (ml (cB xs.length y++bb))))
  (h0:AllS s (ch 0 y0):=by simp +decide only[go_sem]) (hb0:AllB s (cB 0 y0):=by simp +decide only[go_sem]) (hb:cU s ks=base:=by first|rfl|(simp +decide only[go_sem];rfl))
  (uO:fX s bs=some bb:=by first|rfl|(simp +decide only[go_sem];rfl)) (hn:s.n=N:=by rfl) (qi:xs.length<=maxLen:=by omega) (hc:rO N c=true:=by kernel_rfl):X P N pl (.loop c) K s:=by
 subst hb;refine u0 xs (fun k y=>kn N (ch k y++cU s ks) (ml (cB k y++bb))) Inv y0 qi (qw hn (h0.app (dO s ks)) (hb0.app (dP s bs bb uO))) hi0 ?_ ?_
 ·exact fun k x y h1 h2 h3 h4 h5 h6 h7=>aR c _ _ hc (body k x y h1 h2 h3 h4 h5 h6 h7)
 ·exact fun y h1 h2=>aR c _ _ hc (done y h1 h2)
def lp{α:Type}(xs:List α)(ks bs:List Nat)(ch:Nat->List (Nat×D))(cB:Nat->List (Nat×Rows))(Inv:Nat->Prop)(hi0:Inv 0)
  (body: ∀k x,xs[k]? =some x->k<xs.length->x∈xs->xs.take (k+1)=xs.take k++[x]->decide ((k:Int)<(xs.length:Int))=true->aD .i64 ((k:Int)+1)=((k+1:Nat):Int)->Inv k->
   X P N pl c (vP (fun s'=>Inv (k+1)/\s'.Sub (kn N (ch (k+1)++base) (ml (cB (k+1)++bb)))) K) (kn N (ch k++base) (ml (cB k++bb))))
  (done:decide ((xs.length:Int)<(xs.length:Int))=false->Inv xs.length->X P N pl c (vP (fun _=>False) K) (kn N (ch xs.length++base) (ml (cB xs.length++bb))))
  (h0:AllS s (ch 0):=by simp +decide only[go_sem]) (hb0:AllB s (cB 0):=by simp +decide only[go_sem]) (hb:cU s ks=base:=by first|rfl|(simp +decide only[go_sem];rfl))
  (uO:fX s bs=some bb:=by first|rfl|(simp +decide only[go_sem];rfl)) (hn:s.n=N:=by rfl) (qi:xs.length<=maxLen:=by omega) (hc:rO N c=true:=by kernel_rfl):X P N pl (.loop c) K s:=by
 subst hb;refine vq xs (fun k=>kn N (ch k++cU s ks) (ml (cB k++bb))) Inv qi (qw hn (h0.app (dO s ks)) (hb0.app (dP s bs bb uO))) hi0 ?_ ?_
 ·exact fun k x h1 h2 h3 h4 h5 h6 h7=>aR c _ _ hc (body k x h1 h2 h3 h4 h5 h6 h7)
 ·exact fun h1 h2=>aR c _ _ hc (done h1 h2)
end
section
variable {P:Program} {N:Nat} {pl:Nat->List (Nat×Mode)} {K:ah->DS->Prop} {s:DS} {c:Code}
def xo(t n sz:Nat)(h:X P N pl (.loop c) K ((s.close [n]).put (some t) (.one (.own n sz []))))(h0:s.sl t= .one (.c (.lit (.slice none 0 0))):=by simp +decide only[go_sem]):X P N pl (.loop c) K s:=CA t n sz h0 h
def xs(t:Nat)(d:D)(hd:DLe (s.sl t) d)(h:X P N pl (.loop c) K (s.put (some t) d)):X P N pl (.loop c) K s:=ze t d hd h
end
def cC{a b:Int}{k:IntKind}(h:b=a):DLe (.one (.c (.lit (.int k a)))) (.one (.c (.lit (.int k b)))):=h▸DLe.rfl_ _
def iq{a b:Bool}(h:b=a):DLe (.one (.c (.lit (.bool a)))) (.one (.c (.lit (.bool b)))):=h▸DLe.rfl_ _
def iF{q:α->Bool}{l:List α}{x:α}(h: ∀y∈l,q y=false)(hx:q x=false): ∀y∈l++[x],q y=false:=fun y hy=>by
 rcases wF.1 hy with hy|hy
 ·grind
 ·grind
theorem WG{q:α->Bool}{l:List α}{x:α}(hm:x∈l)(hx:q x=true):l.any q=true:=og
theorem WH{q:α->Bool}{l:List α}(h: ∀x∈l.take l.length,q x=false):l.any q=false:=og
theorem Ny{l:List α}{k:Nat}{x:α}(h:(l.take i)[k]? =some x):l[k]? =some x:=og
structure Kp(p:Prop):Prop where
 h:p
def gk {G H:Prop} (k:H) (h:Kp H->G:=by
  intro k;try simp only[go_sem, *]
  repeat'((first|refine kq ?_|refine xj ?_|(apply xc<;>intro hc)|(apply gf<;>intro hc)|(apply gt<;>intro hc))<;>simp only[go_sem, *])
  all_goals exact k.h):G:=h ⟨k⟩
def ll:Nat->Nat->List (Nat×Mode)->List (Nat×Mode)
 | _,0,r=>r
 | i,n+1,r=>(i,.light)::ll (i+1) n r
abbrev PL:=Nat->List (Nat×Mode)
section
variable {P:Program} {N:Nat} {pl:Nat->List (Nat×Mode)} {K:ah->DS->Prop} {s:DS} {c:Code} {base:List (Nat×D)} {bb:List (Nat×Rows)}
def lq{α:Type}(xs:List α)(ks bs:List Nat)(t:Nat)
  (body: ∀k x,xs[k]? =some x->k<xs.length->x∈xs->xs.take (k+1)=xs.take k++[x]->decide ((k:Int)<(xs.length:Int))=true->aD .i64 ((k:Int)+1)=((k+1:Nat):Int)->True->
   X P N pl c (vP (fun s'=>True/\s'.Sub (kn N ([(t,.one (.c (.lit (.int .i64 ((k+1:Nat):Int)))))]++base) (ml ([]++bb)))) K) (kn N ([(t,.one (.c (.lit (.int .i64 (k:Int)))))]++base) (ml ([]++bb))))
  (done:decide ((xs.length:Int)<(xs.length:Int))=false->True->X P N pl c (vP (fun _=>False) K) (kn N ([(t,.one (.c (.lit (.int .i64 (xs.length:Int)))))]++base) (ml ([]++bb))))
  (h0:AllS s [(t,.one (.c (.lit (.int .i64 ((0:Nat):Int)))))]:=by simp +decide only[go_sem]) (hb:cU s ks=base:=by first|rfl|(simp +decide only[go_sem];rfl))
  (uO:fX s bs=some bb:=by first|rfl|(simp +decide only[go_sem];rfl)) (hn:s.n=N:=by rfl) (qi:xs.length<=maxLen:=by omega) (hc:rO N c=true:=by kernel_rfl):X P N pl (.loop c) K s:=
 lp xs ks bs (fun k=>[(t,.one (.c (.lit (.int .i64 (k:Int)))))]) (fun _=>[]) (fun _=>True) trivial body done h0 (by simp[AllB]) hb uO hn qi hc
end
structure Tb(pl:Nat->List (Nat×Mode)):Prop where
 t:True
def qdO{P:Program}{id:Nat}{l:List aa}{s:DS}{Q:ah->DS->Prop}{l':List (Mode×aa)}{pl:Nat->List (Nat×Mode)}(_:Tb pl)(h:wk P (l.map (·.dst)) l' s (Q .normal))(h0:(pl id).isEmpty=false:=by rfl)(hm:P.follows .mixedOrders=true:=by kernel_rfl)
  (hc:eY l s.n (pl id)=true:=by kernel_rfl) (hp:Picks l (pl id) l':=by repeat(first|exact Picks.nil|(apply Picks.cons;rfl))):DW P (.region id l.toArray true) s Q:=zU pl h hm hc hp
def wA {G:Prop} (pl:Nat->List (Nat×Mode)) (h:Tb pl->G:=by
  intro hT
  repeat'(first|(first|refine qC ?_|refine qdO hT ?_|refine kq ?_|apply kU|apply qb);simp +decide only[go_sem, *]|(apply kh<;>intro qe)|((first|apply qy|apply qx)<;>(intro qe;simp +decide only[go_sem, *])))):G:=h ⟨trivial⟩
def wB {G R:Prop} (pl:Nat->List (Nat×Mode)) (r:R) (h:Tb pl->Kp R->G:=by
  intro hT hR;repeat'(first|(first|refine qC ?_|refine qdO hT ?_|refine kq ?_|apply kU|apply qb);simp +decide only[go_sem, *]|(apply kh<;>intro qe)|((first|apply qy|apply qx)<;>(intro qe;simp +decide only[go_sem, *])))
  all_goals(repeat revert qe)
  all_goals(first|exact hR.1)):G:=h ⟨trivial⟩ ⟨r⟩
def wC {G R S:Prop} (pl:Nat->List (Nat×Mode)) (r:R) (s:S) (h:Tb pl->Kp R->Kp S->G:=by
  intro hT hR hS;repeat'(first|(first|refine qC ?_|refine qdO hT ?_|refine kq ?_|apply kU|apply qb);simp +decide only[go_sem, *]|(apply kh<;>intro qe)|((first|apply qy|apply qx)<;>(intro qe;simp +decide only[go_sem, *])))
  all_goals(repeat revert qe)
  all_goals(first|exact hR.1|exact hS.1)):G:=h ⟨trivial⟩ ⟨r⟩ ⟨s⟩
def wE {G R S T V:Prop} (pl:Nat->List (Nat×Mode)) (r:R) (s:S) (t:T) (v:V) (h:Tb pl->Kp R->Kp S->Kp T->Kp V->G:=by
  intro hT hR hS hT hV;repeat'(first|(first|refine qC ?_|refine qdO hT ?_|refine kq ?_|apply kU|apply qb);simp +decide only[go_sem, *]|(apply kh<;>intro qe)|((first|apply qy|apply qx)<;>(intro qe;simp +decide only[go_sem, *])))
  all_goals(repeat revert qe)
  all_goals(first|exact hR.1|exact hS.1|exact hT.1|exact hV.1)):G:=h ⟨trivial⟩ ⟨r⟩ ⟨s⟩ ⟨t⟩ ⟨v⟩
def vB {G R:Prop} (pl:Nat->List (Nat×Mode)) (r:R) (h:Tb pl->Kp R->G:=by
  intro hT hR;repeat'(first|(first|refine qC ?_|refine qdO hT ?_|refine kq ?_|apply kU);simp +decide only[go_sem, *]|(apply kh<;>intro qe)|((first|apply qy|apply qx)<;>(intro qe;simp +decide only[go_sem, *])))
  all_goals(repeat revert qe)
  all_goals(first|exact hR.1)):G:=h ⟨trivial⟩ ⟨r⟩
def uB {G R:Prop} (pl:Nat->List (Nat×Mode)) (r:R) (h:Tb pl->Kp R->G:=by
  intro hT hR;repeat'(first|refine qk ?_|refine qm ?_|((first|refine qC ?_|refine qdO hT ?_|refine qt ?_|refine qv ?_);simp +decide only[go_sem, *]))
  all_goals(first|exact hR.1)):G:=h ⟨trivial⟩ ⟨r⟩
section
variable {P:Program} {s:DS} {Q:ah->DS->Prop}
def NE(t n sz:Nat)(xs:List (List C))(h:s.sl t= .one (.ex sz xs)):s.Sub ((s.close [n]).put (some t) (.one (.own n sz xs))):=by
 rintro X a w ⟨E,hE⟩;have hv:=hE.sl t;rw[h]at hv;obtain⟨v,hveq⟩: ∃v,a.tmps.getD t undef=v:=⟨_,rfl⟩;rw[hveq]at hv;obtain⟨XT,hex⟩:VC w E.K (.sl sz xs) v/\Exact v:=by
  cases hv with|one _ _ hv=>cases hv with|ex _ _ _ h1 h2=>exact⟨h1,h2⟩
 have hns: ∀b o,¬zP (v,sz) b o:=fun b o ⟨a',len,cap,h1,_,_,h2,h3⟩=>by
  obtain⟨A,q,hq⟩:=hex;simp only at h1;rw[hq]at h1;injection h1 with h1 h4 h5
  subst h4;subst h5;simp only at h2 h3;omega
 have h1:=hE.setVal n (v,sz) (fun b o hs=>ak hs (hns b o));refine⟨_,⟨h1.wi,fun u=>?_,h1.size,h1.defers,h1.small,h1.pl⟩⟩;simp only[DS.put];by_cases hu:u=t
 ·subst hu;rw[ae rfl,hveq];exact .one _ _ (.own n sz xs _ (by simpa[Env.setVal]using XT) (by simp[Env.setVal]) hex.tame)
 ·rw[j7 hu];exact h1.sl u
def sO(t n sz:Nat)(xs:List (List C))(h:s.sl t= .one (.ex sz xs))(hc:DW P c ((s.close [n]).put (some t) (.one (.own n sz xs))) Q):DW P c s Q:=qn (NE t n sz xs h) hc
end
attribute [go_sem] Nat.reduceLT Int.reduceLT Int.reduceLE Int.reduceToNat Int.reduceNeg Int.reduceBEq List.filter_cons List.filter_nil List.map_append List.filter_append List.any_nil List.any_cons List.foldl_nil List.foldl_cons
section
variable {P:Program} {N:Nat} {pl:Nat->List (Nat×Mode)} {K:ah->DS->Prop} {s:DS} {c:Code}
def ks(hn:s.n=N:=by rfl)(h1:AllS s sls:=by simp +decide only[go_sem, *])(h2:AllB s bxs:=by simp +decide only[go_sem, *]):s.Sub (kn N sls (ml bxs)):=qw hn h1 h2
def Pd{base:List (Nat×D)}{bb:List (Nat×Rows)}(n:Nat)(ks bs:List Nat)(ch:Nat->List (Nat×D))(cB:Nat->List (Nat×Rows))(Inv:Nat->Prop)(hi0:Inv 0)
  (body: ∀k,k<n->decide ((k:Int)<(n:Int))=true->aD .i64 ((k:Int)+1)=((k+1:Nat):Int)->Inv k->
   X P N pl c (vP (fun s'=>Inv (k+1)/\s'.Sub (kn N (ch (k+1)++base) (ml (cB (k+1)++bb)))) K) (kn N (ch k++base) (ml (cB k++bb))))
  (done:decide ((n:Int)<(n:Int))=false->Inv n->X P N pl c (vP (fun _=>False) K) (kn N (ch n++base) (ml (cB n++bb))))
  (h0:AllS s (ch 0):=by simp +decide only[go_sem]) (hb0:AllB s (cB 0):=by simp +decide only[go_sem]) (hb:cU s ks=base:=by first|rfl|(simp +decide only[go_sem];rfl))
  (uO:fX s bs=some bb:=by first|rfl|(simp +decide only[go_sem];rfl)) (hn:s.n=N:=by rfl) (qi:n<=maxLen:=by omega) (hc:rO N c=true:=by kernel_rfl):X P N pl (.loop c) K s:=by
 obtain⟨xs,rfl⟩: ∃xs:List Unit,xs.length=n:=⟨yb n (),oh⟩;exact lp xs ks bs ch cB Inv hi0 (fun k _ _ h2 _ _ h5 h6 h7=>body k h2 h5 h6 h7) done h0 hb0 hb uO hn qi hc
def xe(t n sz:Nat)(xs:List (List C))(h:X P N pl (.loop c) K ((s.close [n]).put (some t) (.one (.own n sz xs))))(h0:s.sl t= .one (.ex sz xs):=by simp +decide only[go_sem]):X P N pl (.loop c) K s:=sO t n sz xs h0 h
end
def qJ(hn:s.n=N:=by(first|rfl|fail))(h1:AllS s sls:=by((simp +decide only[go_sem, *]);done))(h2:AllB s bxs:=by((simp +decide only[go_sem, *]);done)):s.Sub (kn N sls (ml bxs)):=qw hn h1 h2
section
variable {P:Program} {s:DS} {dst:Option Nat} {ds:List (Option Nat)} {l:List (Mode×aa)} {K:DS->Prop} {g:am} {es:List D} {caps:List C} {ty:j8} {pos:String} {aft:Array Edge} {f:j9} {av:List j9} {vy:Array j8} {A:List D} {F:Prop} {R:D->Prop}
def eH(hk: ∀e:Int,(e=0->F)->wk P ds l (zI s dst (.one (.c (.lit (.int .i64 e))))) K)(hc:NCalls P g es (zJ F):=by assumption)(hf:s.ev f= .one (.c (.fn g caps)):=by rfl)(vh:LeL ((av.map s.ev).map D.cl++caps.map fun c=>D.one (.c c)) es:=by simp +decide only[go_sem];exact LeL.of_eq rfl):
  CallC .step P ⟨dst,.call ⟨.value f,av.toArray,vy⟩,ty,pos,aft,none⟩ (.one (.c (.fn g caps))) A s dst ds l K:=kzE hk hc hf vh
def dM(hk: ∀b:Bool,(b=true->F)->wk P ds l (zI s dst (.one (.c (.lit (.bool b))))) K)(hc:NCalls P g es (bn F):=by assumption)(hf:s.ev f= .one (.c (.fn g caps)):=by rfl)(vh:LeL ((av.map s.ev).map D.cl++caps.map fun c=>D.one (.c c)) es:=by simp +decide only[go_sem];exact LeL.of_eq rfl):
  CallC .step P ⟨dst,.call ⟨.value f,av.toArray,vy⟩,ty,pos,aft,none⟩ (.one (.c (.fn g caps))) A s dst ds l K:=qhd hk hc hf vh
def MD(hk: ∀r,R r->wk P ds l (zI s dst r) K)(hc:NCalls P g es R:=by assumption)(hf:s.ev f= .one (.c (.fn g caps)):=by rfl)(vh:LeL ((av.map s.ev).map D.cl++caps.map fun c=>D.one (.c c)) es:=by simp +decide only[go_sem];exact LeL.of_eq rfl):
  CallC .step P ⟨dst,.call ⟨.value f,av.toArray,vy⟩,ty,pos,aft,none⟩ (.one (.c (.fn g caps))) A s dst ds l K:=qft hk hc hf vh
end
section
variable {P:Program} {N:Nat} {pl:Nat->List (Nat×Mode)} {K:ah->DS->Prop} {s:DS} {c:Code} {base:List (Nat×D)} {bb:List (Nat×Rows)}
def lw{σ:Type}(ks bs:List Nat)(ch:σ->List (Nat×D))(cB:σ->List (Nat×Rows))(Inv:σ->Prop)(μ:σ->Nat)(y0:σ)(hi0:Inv y0)
  (body: ∀y,Inv y->X P N pl c (vP (fun s'=>∃y',Inv y'/\μ y'<μ y/\s'.Sub (kn N (ch y'++base) (ml (cB y'++bb)))) K) (kn N (ch y++base) (ml (cB y++bb))))
  (h0:AllS s (ch y0):=by simp +decide only[go_sem]) (hb0:AllB s (cB y0):=by simp +decide only[go_sem]) (hb:cU s ks=base:=by first|rfl|(simp +decide only[go_sem];rfl))
  (uO:fX s bs=some bb:=by first|rfl|(simp +decide only[go_sem];rfl)) (hn:s.n=N:=by rfl) (hc:rO N c=true:=by kernel_rfl):X P N pl (.loop c) K s:=by
 subst hb;exact q8 (fun y=>kn N (ch y++cU s ks) (ml (cB y++bb))) Inv μ y0 (qw hn (h0.app (dO s ks)) (hb0.app (dP s bs bb uO))) hi0 fun y h=>aR c _ _ hc (body y h)
end
def NCalls.wk{R':D->Prop}(h:NCalls P f ds R)(k: ∀r,R r->∃d,DLe r d/\R' d):NCalls P f ds R':=
 ⟨h.1,fun w K vs hk hl hv=>(h.2 w K vs hk hl hv).mono (by
  rintro e w' ⟨v,E',r0,rfl,hr,hR,hv⟩;obtain⟨d,h1,h2⟩:=k r0 hr;exact⟨v,E',d,rfl,h2,hR,h1 w' E' v hv⟩)⟩
def xd{K:ah->DS->Prop}{id:Nat}(h:DW P (.region id l.toArray true) s K):X P N pl (.region id l.toArray true) K s:=h
def xk{P:Program}{N:Nat}{pl:Nat->List (Nat×Mode)}{K:ah->DS->Prop}{s:DS}{id:Nat}{l:List aa}{l':List (Mode×aa)}(h:wk P (l.map (·.dst)) l' s (K .normal))(h0:(pl id).isEmpty=false:=by rfl)(hm:P.follows .mixedOrders=true:=by kernel_rfl)(hn:s.n=N:=by rfl)
  (hc:eY l N (pl id)=true:=by kernel_rfl) (hp:Picks l (pl id) l':=by repeat(first|exact Picks.nil|(apply Picks.cons;rfl))):X P N pl (.region id l.toArray true) K s:=xj h hm hn hc hp
section
variable {P:Program} {N:Nat} {pl:Nat->List (Nat×Mode)} {K:ah->DS->Prop} {s:DS} {c:Code}
def WQ(h:X P N pl c (mO K) s)(hc:rO N c=true:=by kernel_rfl):X P N pl (.scope c) K s:=nj (aR c _ _ hc h)
def WR{l:Nat}:K .normal s->X P N pl (.label l) K s:=RO
end
def eV(ts:List T):DLe (.agg ts) (.agg (ts.map fun t=>.c t.cl)):=fun w E v hv=>by
 cases hv with
 | agg ts vs hl hr=>
  refine .agg _ _ (by simpa using hl) fun j t v h1 h2=>?_;rw[wh,wK]at h1;obtain⟨t0,h0,rfl⟩:=h1;exact .c _ _ (hr j t0 v h0 h2).cl
inductive PR where
 | leaf
 | run (l:List Nat) (t:PR)
 | bl (i:Nat) (t:PR)
 | ex (i:Nat) (t:PR)
 | dia (i j:Nat) (t:PR)
 | here (a:Array Bool) (t:PR)
 | two (i:Nat) (t:PR) (j:Nat) (u:PR)
 | thr (i:Nat) (t:PR) (j:Nat) (u:PR) (k:Nat) (v:PR)
def PR.len:PR->Nat
 | .leaf=>0
 | .run l t=>l.length+t.len
 | .bl _ t=>1+t.len
 | .ex _ t=>1+t.len
 | .dia _ _ t=>2+t.len
 | .here _ t=>t.len
 | .two _ t _ _=>1+t.len
 | .thr _ t _ _ _ _=>1+t.len
def gW(o:Option aa):Bool:=match o with
 | some o=>match o.op with
  | .extract _ _=>true
  | _=>false
 | none=>false
def C0(ops:List aa)(i j:Nat):Bool:=match ops[i]?,ops[j]? with
 | some oi,some oj=>oi.apart ops.toArray oj
 | _,_=>false
def PR.ok(ops:List aa):PR->Array Bool->Bool
 | .leaf,listed=>(w5 .any ops.toArray listed).isEmpty
 | .run l t,listed=>ri ops l listed&&t.ok ops (afterA l listed)
 | .bl i t,listed=>Region.free .any ops.toArray listed i&&(w5 .any ops.toArray listed).contains i&&(ops[i]?).isSome&&t.ok ops (listed.setIfInBounds i true)
 | .ex i t,listed=>Region.free .any ops.toArray listed i&&(w5 .any ops.toArray listed).contains i&&gW ops[i]? &&t.ok ops (listed.setIfInBounds i true)
 | .dia i j t,listed=>(w5 .any ops.toArray listed== [i,j])&&(w5 .any ops.toArray (listed.setIfInBounds i true)== [j])&&(w5 .any ops.toArray (listed.setIfInBounds j true)== [i])&&C0 ops i j&&(i !=j)&&t.ok ops ((listed.setIfInBounds i true).setIfInBounds j true)
 | .here a t,listed=>(listed==a)&&t.ok ops a
 | .two i t j u,listed=>(w5 .any ops.toArray listed== [i,j])&&(ops[i]?).isSome&&(ops[j]?).isSome&&(t.len==u.len)&&t.ok ops (listed.setIfInBounds i true)&&u.ok ops (listed.setIfInBounds j true)
 | .thr i t j u k v,listed=>(w5 .any ops.toArray listed== [i,j,k])&&(ops[i]?).isSome&&(ops[j]?).isSome&&(ops[k]?).isSome&&(t.len==u.len)&&(t.len==v.len)&&t.ok ops (listed.setIfInBounds i true)&&u.ok ops (listed.setIfInBounds j true)&&v.ok ops (listed.setIfInBounds k true)
def PR.wk(P:Program)(ops:List aa)(hd:List Nat)(ds:List (Option Nat)):PR->DS->(DS->Prop)->Prop
 | .leaf,s,K=>K s
 | .run l t,s,K=>Dl.wk P ds (zu ops hd l) s fun s'=>t.wk P ops hd ds s' K
 | .bl i t,s,K=>Dl.wk P ds (bG ops .blind [i]) s fun s'=>t.wk P ops hd ds s' K
 | .ex i t,s,K=>Dl.wk P ds (bG ops .light [i]) s fun s'=>t.wk P ops hd ds s' K
 | .dia i j t,s,K=>Dl.wk P ds (bG ops .light [i,j]) s fun s'=>t.wk P ops hd ds s' K
 | .here _ t,s,K=>t.wk P ops hd ds s K
 | .two i t j u,s,K=>(Dl.wk P ds (zu ops hd [i]) s fun s'=>t.wk P ops hd ds s' K)/\Dl.wk P ds (zu ops hd [j]) s fun s'=>u.wk P ops hd ds s' K
 | .thr i t j u k v,s,K=>(Dl.wk P ds (zu ops hd [i]) s fun s'=>t.wk P ops hd ds s' K)/\(Dl.wk P ds (zu ops hd [j]) s fun s'=>u.wk P ops hd ds s' K)/\Dl.wk P ds (zu ops hd [k]) s fun s'=>v.wk P ops hd ds s' K
section
variable {P:Program}
def Ai{x:j9}(ho:o.op= .extract x i)(hx:s.ev x= .tup ds)(hi:ds[i]? =some d):dl P s o d:=fun X E a w hE=>by
 have hv:=hE.ev x;rw[hx]at hv;generalize he:a.eval x=v at hv;cases hv with
 | tup _ vs hl hr=>
  have qf:i<vs.size:=og;exact⟨vs[i],fun w'=>by simp[execOp,ho,he,Instr.extract,qf],hr i d _ hi (wY qf)⟩
def Ad(h:gW (some o)=true)(hq:QD P s.ev s.bx o.op (· =d)):dl P s o d:=by
 obtain⟨dst,op,ty,pos,aft,g⟩:=o;cases op with
 | extract x i=>
  simp only[QD]at hq;split at hq
  ·rename_i ds hx;split at hq
   ·rename_i d' hd;subst hq;exact Ai rfl hx hd
   ·grind
  ·grind
 | _=>simp[gW]at h
def Xd{l:List (Mode×aa)}(h:wk P (ops.map (·.dst)) ((.light,o)::l) s K):AL P ops o s fun s'=>wk P (ops.map (·.dst)) l s' K:=by
 have h:=aS h;unfold MR at h;unfold AL;split at h
 ·rename_i hw;simp only[hw];cases h with
  | light d hq hk=>grind
 ·grind
 ·grind
def dJ{ops:List aa}{hd:List Nat}{N:Nat}(hb:zM ops N=true)(hs:je ops.toArray=true){K:DS->Prop}: ∀(t:PR) (listed:Array Bool) (s:DS),t.ok ops listed=true->t.wk P ops hd (ops.map (·.dst)) s K->QW P ops N K t.len listed s
 | .leaf,listed,s,hc,h=>xI (by simpa[PR.ok]using hc) h
 | .run l t,listed,s,hc,h=>by
  simp only[PR.ok,we]at hc;exact N3 hb l listed s hc.1 h (fun s' h'=>dJ hb hs t _ s' hc.2 h') (DR l listed hc.1)
 | .bl i t,listed,s,hc,h=>by
  simp only[PR.ok,we]at hc;obtain⟨⟨⟨h1,h2⟩,h3⟩,h4⟩:=hc;have hl:(PR.bl i t).len=t.len+1:=by simp[PR.len];omega
  rw[hl];cases ho:ops[i]? with
  | none=>grind
  | some o=>
   simp only[PR.wk,bG,ho]at h;have h7:=aS h;unfold MR at h7;split at h7
   ·rename_i hw;cases h7 with
    | blind d lJ hk=>exact ie hb ho hs h1 h2 hw lJ (dJ hb hs t _ _ h4 hk)
   ·rename_i hw;exact sX hb ho hs h1 h2 hw (dJ hb hs t _ _ h4 h7)
   ·grind
 | .ex i t,listed,s,hc,h=>by
  simp only[PR.ok,we]at hc;obtain⟨⟨⟨h1,h2⟩,h3⟩,h4⟩:=hc;have hl:(PR.ex i t).len=t.len+1:=by simp[PR.len];omega
  rw[hl];cases ho:ops[i]? with
  | none=>rw[ho]at h3;cases h3
  | some o=>
   rw[ho]at h3;simp only[PR.wk,bG,ho]at h;have h7:=aS h;unfold MR at h7;split at h7
   ·rename_i hw;cases h7 with
    | light d hq hk=>exact ie hb ho hs h1 h2 hw (Ad h3 hq) (dJ hb hs t _ _ h4 hk)
   ·rename_i hw;exact sX hb ho hs h1 h2 hw (dJ hb hs t _ _ h4 h7)
   ·grind
 | .here a t,listed,s,hc,h=>by
  simp only[PR.ok,we,aq]at hc;obtain⟨rfl,h2⟩:=hc;exact dJ hb hs t _ s h2 h
 | .dia i j t,listed,s,hc,h=>by
  simp only[PR.ok,we,aq,bne_iff_ne]at hc;obtain⟨⟨⟨⟨⟨h1,h2⟩,h3⟩,h4⟩,qH⟩,h5⟩:=hc;have hl:(PR.dia i j t).len=(t.len+1)+1:=by simp[PR.len];omega
  rw[hl];unfold C0 at h4;split at h4
  ·rename_i oi oj hi hj;simp only[PR.wk,bG,hi,hj]at h;have g1:AL P ops oi s fun s1=>AL P ops oj s1 fun s2=>QW P ops N K t.len ((listed.setIfInBounds i true).setIfInBounds j true) s2:=zT (fun s1 q1=>zT (fun s2 q2=>dJ hb hs t _ s2 h5 q2) (Xd q1)) (Xd h);have g2:=sQ h4 g1;refine ed hb h1 oh fun k hk=>?_;have hk':k=i\/k=j:=og;rcases hk' with rfl|rfl
   ·exact⟨oi,hi,gG (zT (fun s1 q1=>ed hb h2 oh fun q hq=>by
     obtain rfl:q=j:=by simpa using hq
     exact⟨oj,hj,gG q1⟩) g1)⟩
   ·refine⟨oj,hj,gG (zT (fun s1 q1=>ed hb h3 oh fun q hq=>?_) g2)⟩;obtain rfl:q=i:=by simpa using hq
    rw[jq _ _ qH]at q1;exact⟨oi,hi,gG q1⟩
  ·cases h4
 | .two i t j u,listed,s,hc,h=>by
  simp only[PR.ok,we,aq]at hc;obtain⟨⟨⟨⟨⟨h1,h2⟩,h3⟩,h4⟩,h5⟩,h6⟩:=hc;have hl:(PR.two i t j u).len=t.len+1:=by simp[PR.len];omega
  rw[hl];refine ed hb h1 oh fun k hk=>?_;have hk':k=i\/k=j:=og;rcases hk' with rfl|rfl
  ·cases ho:ops[k]? with
   | none=>grind
   | some o=>
    have h7:=h.1;simp only[zu,ho]at h7;exact⟨o,rfl,QQ (fun s' h'=>dJ hb hs t _ s' h5 h') (Zx h7)⟩
  ·cases ho:ops[k]? with
   | none=>grind
   | some o=>
    have h7:=h.2;simp only[zu,ho]at h7;refine⟨o,rfl,QQ (fun s' h'=>?_) (Zx h7)⟩;rw[h4];exact dJ hb hs u _ s' h6 h'
 | .thr i t j u k v,listed,s,hc,h=>by
  simp only[PR.ok,we,aq]at hc;obtain⟨⟨⟨⟨⟨⟨⟨⟨h1,h2⟩,h3⟩,h3'⟩,h4⟩,h4'⟩,h5⟩,h6⟩,h6'⟩:=hc;have hl:(PR.thr i t j u k v).len=t.len+1:=by simp[PR.len];omega
  rw[hl];refine ed hb h1 oh fun q hq=>?_;have hq':q=i\/q=j\/q=k:=og;rcases hq' with rfl|rfl|rfl
  ·cases ho:ops[q]? with
   | none=>grind
   | some o=>
    have h7:=h.1;simp only[zu,ho]at h7;exact⟨o,rfl,QQ (fun s' h'=>dJ hb hs t _ s' h5 h') (Zx h7)⟩
  ·cases ho:ops[q]? with
   | none=>grind
   | some o=>
    have h7:=h.2.1;simp only[zu,ho]at h7;refine⟨o,rfl,QQ (fun s' h'=>?_) (Zx h7)⟩;rw[h4];exact dJ hb hs u _ s' h6 h'
  ·cases ho:ops[q]? with
   | none=>grind
   | some o=>
    have h7:=h.2.2;simp only[zu,ho]at h7;refine⟨o,rfl,QQ (fun s' h'=>?_) (Zx h7)⟩;rw[h4'];exact dJ hb hs v _ s' h6' h'
def CT(ops:List aa)(N:Nat)(t:PR):Bool:=
 zM ops N&&je ops.toArray&&t.ok ops (yg ops.length false)&&(t.len==ops.length)
def RM{id:Nat}{l:List aa}{s:DS}{Q:ah->DS->Prop}{N:Nat}(hd:List Nat)(t:PR)(hm:P.follows .mixedOrders=true)(hn:s.n=N)(hc:CT l N t=true)
  (h:t.wk P l hd (l.map (·.dst)) s (Q .normal)):DW P (.region id l.toArray true) s Q:=by
 simp only[CT,we,aq]at hc;obtain⟨⟨⟨h1,h2⟩,h3⟩,h4⟩:=hc;subst hn;refine CE h1 hm ?_;have:=dJ h1 h2 t _ s h3 h;rwa [h4]at this
theorem KO(ops:List aa)(hd:List Nat)(ds:List (Option Nat))(s:DS)(K:DS->Prop):PR.leaf.wk P ops hd ds s K=K s:=rfl
theorem OE(ops:List aa)(hd:List Nat)(ds:List (Option Nat))(l:List Nat)(t:PR)(s:DS)(K:DS->Prop):(PR.run l t).wk P ops hd ds s K=Dl.wk P ds (zu ops hd l) s fun s'=>t.wk P ops hd ds s' K:=rfl
theorem UM(ops:List aa)(hd:List Nat)(ds:List (Option Nat))(i:Nat)(t:PR)(s:DS)(K:DS->Prop):(PR.bl i t).wk P ops hd ds s K=Dl.wk P ds (bG ops .blind [i]) s fun s'=>t.wk P ops hd ds s' K:=rfl
theorem UL(ops:List aa)(hd:List Nat)(ds:List (Option Nat))(i:Nat)(t:PR)(s:DS)(K:DS->Prop):(PR.ex i t).wk P ops hd ds s K=Dl.wk P ds (bG ops .light [i]) s fun s'=>t.wk P ops hd ds s' K:=rfl
theorem OF(ops:List aa)(hd:List Nat)(ds:List (Option Nat))(i j:Nat)(t:PR)(s:DS)(K:DS->Prop):(PR.dia i j t).wk P ops hd ds s K=Dl.wk P ds (bG ops .light [i,j]) s fun s'=>t.wk P ops hd ds s' K:=rfl
theorem KP(ops:List aa)(hd:List Nat)(ds:List (Option Nat))(a:Array Bool)(t:PR)(s:DS)(K:DS->Prop):(PR.here a t).wk P ops hd ds s K=t.wk P ops hd ds s K:=rfl
theorem OC(ops:List aa)(hd:List Nat)(ds:List (Option Nat))(i j:Nat)(t u:PR)(s:DS)(K:DS->Prop):(PR.two i t j u).wk P ops hd ds s K=((Dl.wk P ds (zu ops hd [i]) s fun s'=>t.wk P ops hd ds s' K)/\Dl.wk P ds (zu ops hd [j]) s fun s'=>u.wk P ops hd ds s' K):=rfl
theorem OD(ops:List aa)(hd:List Nat)(ds:List (Option Nat))(i j k:Nat)(t u v:PR)(s:DS)(K:DS->Prop):(PR.thr i t j u k v).wk P ops hd ds s K=((Dl.wk P ds (zu ops hd [i]) s fun s'=>t.wk P ops hd ds s' K)/\(Dl.wk P ds (zu ops hd [j]) s fun s'=>u.wk P ops hd ds s' K)/\Dl.wk P ds (zu ops hd [k]) s fun s'=>v.wk P ops hd ds s' K):=rfl
attribute [go_sem] KO OE UM UL OF KP OC OD
end
def Qm(o:aa):List Nat:=(o.after.toList.filter fun e=>Region.binds .any e).map (·.on)
def fQ(m:Nat):List (List Nat)->Nat->List Nat
 | [],_=>[]
 | l::r,i=>if(!m.testBit i&&l.all fun k=>m.testBit k)=true then i::fQ m r (i+1)else fQ m r (i+1)
def Qd(E:List (List Nat))(m:Nat):List Nat:=fQ m E 0
def zR(n m:Nat):Array Bool:=((wR n).map fun i=>m.testBit i).toArray
def Bt(d:Bool)(h:i<n):(zR n m).getD i d=m.testBit i:=by simp[zR,Array.getD,h]
def zj(h:i<n):(zR n m).setIfInBounds i true=zR n (m ||| 2 ^ i):=by
 apply Array.ext
 ·simp[zR]
 ·intro j h1 h2;have hj:j<n:=by simpa[zR]using h2
  rw[Array.getElem_setIfInBounds (by simpa[zR]using hj)];by_cases A9:i=j
  ·subst A9;simp[zR,Nat.testBit_or,Nat.testBit_two_pow]
  ·simp[zR,Nat.testBit_or,Nat.testBit_two_pow,A9]
def eZ(n:Nat):yg n false=zR n 0:=by
 apply Array.ext
 ·simp[zR]
 ·intro j h1 h2;simp[zR]
def zl{E:List (List Nat)}(hE:ops.map Qm=E)(hn:E.all (fun l=>l.all fun k=>decide (k<ops.length))=true)(m:Nat):w5 .any ops.toArray (zR ops.length m)=Qd E m:=by
 subst hE;have key: ∀(qap:List aa) (k:Nat),(∀(i:Nat) o,qap[i]? =some o->ops[k+i]? =some o)->k+qap.length=ops.length->
   ((List.range' k qap.length).filter fun i=> !(zR ops.length m).getD i true&&((ops.toArray[i]?).map fun o:aa=>o.after.all fun e=> !Region.binds .any e||(zR ops.length m).getD e.on false).getD false)=fQ m (qap.map Qm) k:=by
  intro qap;induction qap with
  | nil=>intro k _ _;rfl
  | cons o qap ih=>
   intro k hs hl;have hk:k<ops.length:=og;have ho:ops[k]? =some o:=hs 0 o rfl;have hb:(o.after.all fun e=> !Region.binds .any e||(zR ops.length m).getD e.on false)=(Qm o).all fun k=>m.testBit k:=by
    have h1:(Qm o).all (fun k=>decide (k<ops.length))=true:=og;unfold Qm at h1 ⊢;rw[<-Array.all_toList];generalize o.after.toList=l at h1 ⊢;induction l with
    | nil=>rfl
    | cons e l ih2=>
     cases Tj:Region.binds .any e
     ·grind
     ·simp only[List.filter_cons,Tj,an,wo,List.all_cons,we,aj,Bool.not_true,Bool.false_or]at h1 ⊢;rw[Bt _ h1.1,ih2 h1.2]
   rw[wW,List.range'_succ,List.filter_cons,wo,fQ];have ih':=ih (k+1) (fun i o' h=>by rw[ju,Nat.add_comm 1 i];exact hs (i+1) o' (by simpa using h)) (by simp at hl;omega);simp only[yI]at ih' ⊢;rw[ih',Bt _ hk,ho];simp only[yO,yJ,hb]
 have h:=key ops 0 (fun i o h=>by simpa using h) oh;unfold w5 Qd;rw[<-h];simp only[List.size_toArray,List.range_eq_range']
def Uu(E:List (List Nat)):List Nat->Nat->Bool
 | [],_=>true
 | i::l,m=>(Qd E m== [i])&&Uu E l (m ||| 2 ^ i)
def bD:List Nat->Nat->Nat
 | [],m=>m
 | i::l,m=>bD l (m ||| 2 ^ i)
def qgi(n:Nat)(l:List Nat):Bool:=l.all fun i=>decide (i<n)
def PR.okM(ops:List aa)(E:List (List Nat)):PR->Nat->Bool
 | .leaf,m=>(Qd E m).isEmpty
 | .run l t,m=>qgi ops.length l&&(Uu E l m&&t.okM ops E (bD l m))
 | .bl i t,m=>decide (i<ops.length)&&(Region.free .any ops.toArray (zR ops.length m) i&&(Qd E m).contains i&&(ops[i]?).isSome&&t.okM ops E (m ||| 2 ^ i))
 | .ex i t,m=>decide (i<ops.length)&&(Region.free .any ops.toArray (zR ops.length m) i&&(Qd E m).contains i&&gW ops[i]? &&t.okM ops E (m ||| 2 ^ i))
 | .dia i j t,m=>decide (i<ops.length)&&decide (j<ops.length)&&((Qd E m== [i,j])&&(Qd E (m ||| 2 ^ i)== [j])&&(Qd E (m ||| 2 ^ j)== [i])&&C0 ops i j&&(i !=j)&&t.okM ops E ((m ||| 2 ^ i) ||| 2 ^ j))
 | .here a t,m=>(zR ops.length m==a)&&t.okM ops E m
 | .two i t j u,m=>decide (i<ops.length)&&decide (j<ops.length)&&((Qd E m== [i,j])&&(ops[i]?).isSome&&(ops[j]?).isSome&&(t.len==u.len)&&t.okM ops E (m ||| 2 ^ i)&&u.okM ops E (m ||| 2 ^ j))
 | .thr i t j u k v,m=>decide (i<ops.length)&&decide (j<ops.length)&&decide (k<ops.length)&&((Qd E m== [i,j,k])&&(ops[i]?).isSome&&(ops[j]?).isSome&&(ops[k]?).isSome&&(t.len==u.len)&&(t.len==v.len)&&t.okM ops E (m ||| 2 ^ i)&&u.okM ops E (m ||| 2 ^ j)&&v.okM ops E (m ||| 2 ^ k))
def DV{ops:List aa}{E:List (List Nat)}(hE:ops.map Qm=E)(hn:E.all (fun l=>l.all fun k=>decide (k<ops.length))=true): ∀(l:List Nat) (m:Nat),qgi ops.length l=true->Uu E l m=true->ri ops l (zR ops.length m)=true/\afterA l (zR ops.length m)=zR ops.length (bD l m)
 | [],m,_,_=>⟨rfl,rfl⟩
 | i::l,m,hl,h=>by simp only[qgi,List.all_cons,we,aj]at hl;simp only[Uu,we]at h;have ih:=DV hE hn l _ (by simpa[qgi]using hl.2) h.2;simp only[ri,afterA,bD,zj hl.1,zl hE hn,h.1,jb];exact ih
def ZL{ops:List aa}{E:List (List Nat)}(hE:ops.map Qm=E)(hn:E.all (fun l=>l.all fun k=>decide (k<ops.length))=true): ∀(t:PR) (m:Nat),t.okM ops E m=true->t.ok ops (zR ops.length m)=true
 | .leaf,m,h=>by simpa only[PR.ok,PR.okM,zl hE hn]using h
 | .run l t,m,h=>by
  simp only[PR.okM,we]at h;have h1:=DV hE hn l m h.1 h.2.1;simp only[PR.ok,h1.1,h1.2,jb];exact ZL hE hn t _ h.2.2
 | .bl i t,m,h=>by
  simp only[PR.okM,we,aj]at h;simp only[PR.ok,zl hE hn,zj h.1,h.2.1.1.1,h.2.1.1.2,h.2.1.2,jb];exact ZL hE hn t _ h.2.2
 | .ex i t,m,h=>by
  simp only[PR.okM,we,aj]at h;simp only[PR.ok,zl hE hn,zj h.1,h.2.1.1.1,h.2.1.1.2,h.2.1.2,jb];exact ZL hE hn t _ h.2.2
 | .dia i j t,m,h=>by
  simp only[PR.okM,we,aj]at h;obtain⟨⟨hi,hj⟩,⟨⟨⟨⟨h1,h2⟩,h3⟩,h4⟩,h5⟩,h6⟩:=h;simp only[PR.ok,zl hE hn,zj hi,zj hj,h1,h2,h3,h4,h5,jb];exact ZL hE hn t _ h6
 | .here a t,m,h=>by
  simp only[PR.okM,we,aq]at h;obtain⟨rfl,h2⟩:=h;simp only[PR.ok,BEq.rfl,jb];exact ZL hE hn t _ h2
 | .two i t j u,m,h=>by
  simp only[PR.okM,we,aj]at h;obtain⟨⟨hi,hj⟩,⟨⟨⟨⟨h1,h2⟩,h3⟩,h4⟩,h5⟩,h6⟩:=h;simp only[PR.ok,zl hE hn,zj hi,zj hj,h1,h2,h3,h4,jb,ZL hE hn t _ h5,ZL hE hn u _ h6]
 | .thr i t j u k v,m,h=>by simp only[PR.okM,we,aj]at h;obtain⟨⟨⟨hi,hj⟩,hk⟩,⟨⟨⟨⟨⟨⟨⟨h1,h2⟩,h3⟩,h4⟩,h5⟩,h6⟩,h7⟩,h8⟩,h9⟩:=h;simp only[PR.ok,zl hE hn,zj hi,zj hj,zj hk,h1,h2,h3,h4,h5,h6,jb,ZL hE hn t _ h7,ZL hE hn u _ h8,ZL hE hn v _ h9]
def JM(ops:List aa)(N:Nat)(E:List (List Nat))(t:PR):Bool:=
 zM ops N&&je ops.toArray&&(E.all fun l=>l.all fun k=>decide (k<ops.length))&&t.okM ops E 0&&(t.len==ops.length)
def Zn{P:Program}{id:Nat}{l:List aa}{s:DS}{Q:ah->DS->Prop}{N:Nat}(hd:List Nat)(E:List (List Nat))(t:PR)(hm:P.follows .mixedOrders=true)(hn:s.n=N)(hE:l.map Qm=E)(hc:JM l N E t=true)
  (h:t.wk P l hd (l.map (·.dst)) s (Q .normal)):DW P (.region id l.toArray true) s Q:=by
 simp only[JM,we]at hc;obtain⟨⟨⟨⟨h1,h2⟩,h3⟩,h4⟩,h5⟩:=hc;refine RM hd t hm hn ?_ h;simp only[CT,we];rw[eZ];exact⟨⟨⟨h1,h2⟩,ZL hE h3 t 0 h4⟩,h5⟩
def lP(P:Program)(ops:List aa)(hd:List Nat)(ds:List (Option Nat))(St:Nat->DS):List (Nat×Nat)->Prop
 | []=>True
 | (m,i)::r=>Dl.wk P ds (zu ops hd [i]) (St m) (fun s'=>s'.Sub (St (m ||| 2 ^ i)))/\lP P ops hd ds St r
def mT(n:Nat)(E:List (List Nat))(T:List (Nat×Nat)):List (List Nat)->Bool
 | []=>false
 | [L]=>L.all fun m=>(Qd E m).isEmpty
 | L::L'::r=>(L.all fun m=> !(Qd E m).isEmpty&&(Qd E m).all fun i=>decide (i<n)&&(T.contains (m,i)&&L'.contains (m ||| 2 ^ i)))&&mT n E T (L'::r)
section
variable {P:Program}
def Bu{fuel:Nat}{listed:Array Bool}(h:s.Sub s')(hn:s'.n=N)(H:QW P ops N K fuel listed s'):QW P ops N K fuel listed s:=
 fun _ X a w hr=>H hn X a w (h X a w hr)
def Fw{ops:List aa}{hd:List Nat}{ds:List (Option Nat)}{St:Nat->DS}: ∀{T:List (Nat×Nat)},lP P ops hd ds St T->∀{m i:Nat},(m,i)∈T->Dl.wk P ds (zu ops hd [i]) (St m) (fun s'=>s'.Sub (St (m ||| 2 ^ i)))
 | (m',i')::T,h,m,i,hm=>by
  rcases wJ.1 hm with e|hm
  ·injection e with e1 e2;subst e1;subst e2;exact h.1
  ·exact Fw h.2 hm
def RY{ops:List aa}{hd:List Nat}{N:Nat}{E:List (List Nat)}{T:List (Nat×Nat)}{St:Nat->DS}{K:DS->Prop}(hb:zM ops N=true)(hE:ops.map Qm=E)(hn:E.all (fun l=>l.all fun k=>decide (k<ops.length))=true)
  (Cp: ∀m,(St m).n=N) (hed:lP P ops hd (ops.map (·.dst)) St T): ∀(Ls:List (List Nat)) (L:List Nat),mT ops.length E T (L::Ls)=true->(∀L',(L::Ls).getLast? =some L'->∀m∈L',K (St m))->∀m∈L,QW P ops N K Ls.length (zR ops.length m) (St m)
 | [],L,hc,hK,m,hm=>by
  have h1:=wZ.1 (show(L.all fun m=>(Qd E m).isEmpty)=true from hc) m hm;exact xI (by rw[zl hE hn];simpa using h1) (hK L rfl m hm)
 | L'::r,L,hc,hK,m,hm=>by have hc':((L.all fun m=> !(Qd E m).isEmpty&&(Qd E m).all fun i=>decide (i<ops.length)&&(T.contains (m,i)&&L'.contains (m ||| 2 ^ i)))&&mT ops.length E T (L'::r))=true:=hc;rw[we]at hc';obtain⟨h1,h2⟩:=hc';have h3:=wZ.1 h1 m hm;rw[we]at h3;obtain⟨h4,h5⟩:=h3;refine ed hb (zl hE hn m) (by intro e;rw[e]at h4;simp at h4) fun i hi=>?_;have h6:=wZ.1 h5 i hi;simp only[we,aj,jR]at h6;obtain⟨h7,h8,h9⟩:=h6;have qcr:=Fw hed h8;have ho:ops[i]? =some ops[i]:=oh;refine⟨ops[i],ho,?_⟩;simp only[zu,ho]at qcr;rw[zj h7];have ih:=RY hb hE hn Cp hed r L' h2 (fun L'' h=>hK L'' (by simpa using h)) _ h9;exact QQ (fun s' h'=>Bu h' (Cp _) ih) (Zx qcr)
def qda(P:Program)(ops:List aa)(ds:List (Option Nat)):List Nat->DS->(DS->Prop)->Prop
 | [],s,K=>K s
 | i::l,s,K=>Dl.wk P ds (bG ops .blind [i]) s fun s'=>qda P ops ds l s' K
def WC(ops:List aa)(E:List (List Nat)):List Nat->Nat->Bool
 | [],_=>true
 | i::l,m=>decide (i<ops.length)&&(Region.free .any ops.toArray (zR ops.length m) i&&(Qd E m).contains i&&WC ops E l (m ||| 2 ^ i))
def YB{ops:List aa}{N fuel:Nat}{E:List (List Nat)}{K:DS->Prop}{S1:DS}(hS:S1.n=N)(hb:zM ops N=true)(hs:je ops.toArray=true)(hE:ops.map Qm=E)(hn:E.all (fun l=>l.all fun k=>decide (k<ops.length))=true):
  ∀(l:List Nat) (m:Nat) (s:DS),WC ops E l m=true->QW P ops N K fuel (zR ops.length (bD l m)) S1->qda P ops (ops.map (·.dst)) l s (fun s'=>s'.Sub S1)->QW P ops N K (fuel+l.length) (zR ops.length m) s
 | [],m,s,_,H,h=>Bu h hS H
 | i::l,m,s,hc,H,h=>by
  simp only[WC,we,aj]at hc;obtain⟨h0,⟨h1,h2⟩,h3⟩:=hc;have ho:ops[i]? =some ops[i]:=oh;simp only[qda,bG,ho]at h;have h7:=aS h;have hr:(w5 .any ops.toArray (zR ops.length m)).contains i=true:=by rw[zl hE hn];exact h2
  have e:fuel+(i::l).length=(fuel+l.length)+1:=rfl;rw[e];have ih:=fun s'=>YB (fuel:=fuel) (K:=K) hS hb hs hE hn l (m ||| 2 ^ i) s' h3 H;unfold MR at h7;split at h7
  ·rename_i hw;cases h7 with
   | blind d lJ hk=>exact ie hb ho hs h1 hr hw lJ (by rw[zj h0];exact ih _ hk)
  ·rename_i hw;exact sX hb ho hs h1 hr hw (by rw[zj h0];exact ih _ h7)
  ·grind
def FI(ops:List aa)(N:Nat)(E:List (List Nat))(pa:List Nat)(T:List (Nat×Nat))(Ls:List (List Nat))(full:Nat):Bool:=
 zM ops N&&je ops.toArray&&(E.all fun l=>l.all fun k=>decide (k<ops.length))&&WC ops E pa 0&&mT ops.length E T ([bD pa 0]::Ls)&&(([bD pa 0]::Ls).getLast? ==some [full])&&(Ls.length+pa.length==ops.length)
def RQ{id:Nat}{l:List aa}{s:DS}{Q:ah->DS->Prop}{N:Nat}(hd:List Nat)(E:List (List Nat))(pa:List Nat)(T:List (Nat×Nat))(Ls:List (List Nat))(St:Nat->DS)(full:Nat)(hm:P.follows .mixedOrders=true)(hn:s.n=N)(hE:l.map Qm=E)(hc:FI l N E pa T Ls full=true)
  (Cp: ∀m,(St m).n=N) (h0:qda P l (l.map (·.dst)) pa s fun s'=>s'.Sub (St (bD pa 0))) (he:lP P l hd (l.map (·.dst)) St T) (hq:Q .normal (St full)):DW P (.region id l.toArray true) s Q:=by
 simp only[FI,we,aq]at hc;obtain⟨⟨⟨⟨⟨⟨h1,h6⟩,h2⟩,h7⟩,h3⟩,h4⟩,h5⟩:=hc;subst hn;refine CE h1 hm ?_;have:=RY (K:=Q .normal) h1 hE h2 Cp he Ls [bD pa 0] h3 (fun L' h m EY=>by
  rw[h4]at h;injection h with h;subst h
  rw[yp.1 EY];exact hq) (bD pa 0) oh
 have key:=YB (Cp _) h1 h6 hE h2 pa 0 s h7 this h0;rw[h5]at key;rw[eZ];exact key
theorem WB(ops:List aa)(ds:List (Option Nat))(s:DS)(K:DS->Prop):qda P ops ds [] s K=K s:=rfl
theorem Sx(ops:List aa)(ds:List (Option Nat))(i:Nat)(l:List Nat)(s:DS)(K:DS->Prop):qda P ops ds (i::l) s K=Dl.wk P ds (bG ops .blind [i]) s fun s'=>qda P ops ds l s' K:=rfl
theorem HU(ops:List aa)(hd:List Nat)(ds:List (Option Nat))(St:Nat->DS):lP P ops hd ds St []=True:=rfl
theorem Fx(ops:List aa)(hd:List Nat)(ds:List (Option Nat))(St:Nat->DS)(m i:Nat)(r:List (Nat×Nat)):lP P ops hd ds St ((m,i)::r)=(Dl.wk P ds (zu ops hd [i]) (St m) (fun s'=>s'.Sub (St (m ||| 2 ^ i)))/\lP P ops hd ds St r):=rfl
attribute [go_sem] WB Sx HU Fx
end
noncomputable def Xj(N:Nat)(base:List (Nat×D))(tab:List (Nat×Nat×Nat×D))(bxs:List (Nat×Nat×Nat×Dl.Rows))(m:Nat):DS:=
 kn N (base++tab.filterMap fun p=>if m &&& p.1=p.1/\m &&& p.2.1=0 then some p.2.2 else none) (ml (bxs.filterMap fun p=>if m &&& p.1=p.1/\m &&& p.2.1=0 then some p.2.2 else none))
theorem I8(a b:Int):(if b<a then b else a)=min a b:=oa
theorem I9(a b:Int):(if a<b then b else a)=max a b:=oa
section
variable {P:Program}
def Step.makeOwn{o:aa}{s:DS}{K:DS->Prop}{m c:Nat}{x y:j9}{t e:j8}{z:List T}{inf:TypeInfo}{kx ky:IntKind}(ho:o.op= .makeSlice t x y)(hm:o.dst=some m)(hu:P.underlying t=some (.slice e))(hi:P.info? e=some inf)(hz:Program.zeroT P e=some z)
  (qZ:0<z.length) (vo:inf.size=z.length) (hx:s.ev x= .one (.c (.lit (.int kx 0)))) (hy:s.ev y= .one (.c (.lit (.int ky (c:Int))))) (hn:c*z.length<=16777216) (hb:inf.bytes*c<=281474976710656) (qcq:c<=maxLen)
  (h:K ((s.close [m]).put (some m) (.one (.own m z.length [])))):Step P o s K:=by
 rintro hd X a w ⟨E,hE⟩ Q;have uG:=hE.ev x;have PO:=hE.ev y;rw[hx]at uG;rw[hy]at PO;obtain⟨inf',z0,h1,h2,h3,h4⟩:=l8 hz;rw[hi]at h1;injection h1 with h1;subst h1
 have hb':(inf.bytes:Int)*(c:Int)<=281474976710656:=oa;have h63':(c:Int)<=9223372036854775807:=by have:=qcq;simp[maxLen]at this;omega
 have qS:=run_makeSlice (P:=P) w t e inf z0 hu hi h2 kx ky 0 (c:Int) (Int.le_refl _) (Int.natCast_nonneg c) (by rw[vo];simpa using hn) hb' h63';simp only[wO,vo,Int.toNat_zero]at qS;obtain⟨arr,Qg⟩: ∃arr,arr=madeCells z0.cells (c*z.length):=⟨_,rfl⟩;have hsa:arr.size=c*z.length:=by rw[Qg];simp[size_madeCells]
 rw[<-Qg]at qS;have PP:X.w.heap.size<=w.heap.size:=hE.wi.turn.size;have Tl:RelE X s E a (w.alloc (.cells arr e)):=hE.hush (Hush.alloc _ PP) rfl (hE.defers.of fun D hD hb=>(Below.heap_alloc w _ D (wH.1 hb).1).trans hb);have bi:(w.alloc (.cells arr e)).heap[w.heap.size]? =some (.cells arr e (0,0)):=jg w _;have h5:=Tl.setVal m (.slice (some ⟨w.heap.size,0,none⟩) 0 c,z.length) (by
  rintro b o' ⟨a',len,cap,q1,q2,q3,q4,q5⟩;injection q1 with q1 ql qc
  injection q1 with q1
  subst q1;subst ql;subst qc;simp only[yi]at q3 q4 q5;subst q3;refine⟨.inl PP,fun hk=>?_,⟨arr,e,bi,oa⟩,fun m' _ hs=>?_,fun m' rows hr qH e1=>?_⟩
  ·have:=qP (hE.wi.kok _ _ hk);omega
  ·obtain⟨_,_,ar,e',g,_⟩:=hE.wi.free _ _ _ hs;have:=(wH.1 g).1;omega
  ·obtain⟨_,g,_⟩:=hE.wi.boxes m' rows hr qH;have:=g.lt;omega)
 refine vg (v:=.slice (some ⟨w.heap.size,0,none⟩) 0 c) (w':=w.alloc (.cells arr e)) ?_ ⟨_,⟨by rw[zD];rfl,h⟩,?_⟩
 ·simp only[execOp,ho,wq,uG.lit,PO.lit,qS,wj,wG]
 ·rw[hm];refine⟨_,h5.putOnly (fun d hd'=>by injection hd' with hd';subst hd';exact hd m hm) (.one _ _ (.own m z.length [] _ ?_ (by simp[Env.setVal]) (iW _ _ _ _)))⟩;exact .sl z.length [] ⟨w.heap.size,0,none⟩ c (fun _=>undef) (fun r hr=>by cases hr) (wM _) qcq (fun j hj=>by simp at hj) (fun i j r c h1 h2=>by simp at h1)
end
theorem vx(m i j:Nat):(m ||| 2 ^ i).testBit j=(m.testBit j||decide (i=j)):=og
def cnt:Nat->Nat->Nat
 | 0,_=>0
 | n+1,m=>cnt n m+if m.testBit n then 0 else 1
def Bp{m m':Nat}: ∀n,(∀j,j<n->m.testBit j=m'.testBit j)->cnt n m=cnt n m'
 | 0,_=>rfl
 | n+1,h=>by rw[cnt,cnt,Bp n (fun j hj=>h j oa),h n oa]
def R9{m i:Nat}(hm:m.testBit i=false): ∀n,i<n->cnt n m=cnt n (m ||| 2 ^ i)+1
 | 0,h=>oa
 | n+1,h=>by
  rw[cnt,cnt,vx];by_cases e:i=n
  ·subst e;rw[hm,Bp (m:=m) (m':=m ||| 2 ^ i) i fun j hj=>by rw[vx,au oa,yu]];simp
  ·rw[R9 hm n oa,au e,yu];omega
def FG{m:Nat}: ∀n,cnt n m=0->∀i,i<n->m.testBit i=true
 | 0,_,i,h=>oa
 | n+1,h,i,hi=>by
  rw[cnt]at h;by_cases e:i=n
  ·grind
  ·exact FG n oa i oa
def eA{m:Nat}: ∀(E:List (List Nat)) (k i:Nat),i∈fQ m E k↔∃j l,E[j]? =some l/\i=k+j/\m.testBit i=false/\(l.all fun k=>m.testBit k)=true
 | [],k,i=>by simp[fQ]
 | l::r,k,i=>by
  have ih:=eA (m:=m) r (k+1) i;have hex:(∃j l',(l::r)[j]? =some l'/\i=k+j/\m.testBit i=false/\(l'.all fun k=>m.testBit k)=true)↔(i=k/\m.testBit i=false/\(l.all fun k=>m.testBit k)=true)\/∃j l',r[j]? =some l'/\i=(k+1)+j/\m.testBit i=false/\(l'.all fun k=>m.testBit k)=true:=by
   constructor
   ·grind
   ·rintro(⟨h2,h3,h4⟩|⟨j,l',h1,h2,h3,h4⟩)
    ·exact⟨0,l,oh,oa,h3,h4⟩
    ·exact⟨j+1,l',by simpa using h1,oa,h3,h4⟩
  rw[hex,<-ih,fQ];by_cases h:(!m.testBit k&&l.all fun k=>m.testBit k)=true
  ·grind
  ·grind
def pD(P:Program)(ops:List aa)(hd:List Nat)(ds:List (Option Nat))(St:Nat->DS)(E:List (List Nat)):List Nat->Prop
 | []=>True
 | i::r=>(∀m,m.testBit i=false->(∀j,m.testBit j=true->∀k∈E.getD j [],m.testBit k=true)->(∀k∈E.getD i [],m.testBit k=true)->Dl.wk P ds (zu ops hd [i]) (St m) (fun s'=>s'.Sub (St (m ||| 2 ^ i))))/\pD P ops hd ds St E r
section
variable {P:Program}
def Bi{ops:List aa}{hd:List Nat}{ds:List (Option Nat)}{St:Nat->DS}{E:List (List Nat)}: ∀{I:List Nat},pD P ops hd ds St E I->∀{i:Nat},i∈I->∀m,m.testBit i=false->(∀j,m.testBit j=true->∀k∈E.getD j [],m.testBit k=true)->(∀k∈E.getD i [],m.testBit k=true)->Dl.wk P ds (zu ops hd [i]) (St m) (fun s'=>s'.Sub (St (m ||| 2 ^ i)))
 | i'::I,h,i,hi=>by
  rcases wJ.1 hi with e|hi
  ·subst e;exact h.1
  ·exact Bi h.2 hi
theorem HX(ops:List aa)(hd:List Nat)(ds:List (Option Nat))(St:Nat->DS)(E:List (List Nat)):pD P ops hd ds St E []=True:=rfl
theorem FA(ops:List aa)(hd:List Nat)(ds:List (Option Nat))(St:Nat->DS)(E:List (List Nat))(i:Nat)(r:List Nat):pD P ops hd ds St E (i::r)=((∀m,m.testBit i=false->(∀j,m.testBit j=true->∀k∈E.getD j [],m.testBit k=true)->(∀k∈E.getD i [],m.testBit k=true)->Dl.wk P ds (zu ops hd [i]) (St m) (fun s'=>s'.Sub (St (m ||| 2 ^ i))))/\pD P ops hd ds St E r):=rfl
attribute [go_sem] HX FA
end
def C8(N:Nat)(base:List (Nat×D))(tab:List (Nat×Nat×D))(bx:Nat->vT)(m:Nat):DS:=
 kn N (base++tab.map fun p=>(p.2.1,if m.testBit p.1=true then p.2.2 else .any)) (bx m)
open Go.Maps
abbrev qdx:=j6->Option (DataW j6×List MemPlace)
inductive MO where
 | mp (k:j8) (R:qdx) (n:Nat) (D:DataW j6)
 | it (b:Nat) (k:j8) (R:qdx) (n:Nat) (D:DataW j6) (left:Lit->Bool) (cnt:Nat) (cur:Option (j6×j6))
 | st (s:ByteArray) (pos:Nat)
 | mv (k:j8) (n:Nat) (f:Lit->Option (List C))
abbrev MS:=Nat->Option MO
def noMap:MS:=fun _=>none
def MS.set(M:MS)(b:Nat)(m:MO):MS:=fun k=>if k=b then some m else M k
def qgM:Obj->Bool
 | .map .. =>true
 | .mapIter .. =>true
 | .stringIter .. =>true
 | _=>false
def MapLike(w:j5)(b:Nat):Prop:=∃ob,w.heap[b]? =some ob/\qgM ob=true
def MapLike.lt(h:MapLike w b):b<w.heap.size:=by obtain⟨_,h,_⟩:=h;exact(wH.1 h).1
def MapLike.no(h:MapLike w b){arr e m}(h2:w.heap[b]? =some (.cells arr e m)):False:=by obtain⟨_,h,h3⟩:=h;rw[h]at h2;injection h2 with h2;subst h2;cases h3
def MapLike.noD(h:MapLike w b){l}(h2:w.heap[b]? =some (.deferred l)):False:=by obtain⟨_,h,h3⟩:=h;rw[h]at h2;injection h2 with h2;subst h2;cases h3
def MapLike.cell(h:MapLike w b)(o:Nat):w.cell? ⟨b,o,none⟩=none:=by obtain⟨ob,h,h3⟩:=h;cases ob<;>first|(cases h3;done)|simp[World.cell?,h]
def MapLike.congr(h:MapLike w b)(e:w'.heap[b]? =w.heap[b]?):MapLike w' b:=by unfold MapLike;rw[e];exact h
def Entry(P:Program)(w:j5)(r:Nat)(kv:j6×j6):Prop:=(Instr.entry (.pointer (some ⟨r,0,none⟩))).run P w= .ok (.tuple #[kv.1,kv.2]) w
def Entry.same{r:Nat}{kv:j6×j6}(h:Entry P w r kv){s:Nat}{seen:Array Nat}{c:Nat}(hr:w.heap[r]? =some (.mapIter (some b) s seen c))(h1:w'.heap[r]? =w.heap[r]?)(h2:w'.heap[b]? =w.heap[b]?):Entry P w' r kv:=by
 unfold Entry at*
 have hr':=h1.trans hr;cases hs:seen.back? with
 | none=>simp[Instr.entry,getObj,Sem.run,hr,hs,Result.andThen]at h
 | some st=>
  cases hb:w.heap[b]? with
  | none=>simp[Instr.entry,getObj,Sem.run,hr,hs,hb,Result.andThen]at h
  | some ob=>
   have hb':=h2.trans hb;cases ob with
   | map es cl=>
    by_cases hc:cl=c;rotate_left
    ·simp[Instr.entry,getObj,Sem.run,hr,hs,hb,hc,Result.andThen]at h
    ·cases hf:es.find? (·.born==st)with
     | none=>simp[Instr.entry,getObj,Sem.run,hr,hs,hb,hc,hf,Result.andThen]at h
     | some e=>
      simp[Instr.entry,getObj,Sem.run,hr,hs,hb,hc,hf,Result.andThen]at h;simp[Instr.entry,getObj,Sem.run,hr',hs,hb',hc,hf,Result.andThen,h]
   | _=>simp[Instr.entry,getObj,Sem.run,hr,hs,hb,Result.andThen]at h
def qeI:qdx:=fun v=>some (.held v,[])
def MO.ok(P:Program)(w:j5)(K:qM)(b:Nat):MO->Prop
 | .mp k R n D=>w.ownsMap P k R b n D
 | .it b' k R n D left cnt cur=>w.ranges P k R b' b n D left cnt/\∀kv,cur=some kv->Entry P w b kv
 | .st s pos=>w.heap[b]? =some (.stringIter s pos)
 | .mv k n f=>∃D,w.ownsMap P k qeI b n D/\IsMap D/\(∀kl,jl D kl=(f kl).isSome)/\∀kl cs,f kl=some cs->∃v,(∀zd,D.atKey kl zd= .held v)/\VD w (E0 K) (.agg (cs.map T.c)) v
def MO.ok.like{P:Program}{w:j5}{K:qM}{b:Nat}: ∀{m:MO},m.ok P w K b->MapLike w b
 | .mp ..,⟨es,c,h,_⟩=>⟨_,h,rfl⟩
 | .it ..,⟨⟨_,_,_,_,_,_,_,_,_,h,_⟩,_⟩=>⟨_,h,rfl⟩
 | .st ..,h=>⟨_,h,rfl⟩
 | .mv ..,⟨_,⟨es,c,h,_⟩,_⟩=>⟨_,h,rfl⟩
def MO.on(b:Nat):MO->Prop
 | .mp .. =>False
 | .it b' .. =>b'=b
 | .st .. =>False
 | .mv .. =>False
def MO.ok.keep1{K:qM}{m:MO}(h:m.ok P w K b)(hc: ∀b o,K b o->K' b o/\w'.cell? ⟨b,o,none⟩=w.cell? ⟨b,o,none⟩)(h1:w'.heap[b]? =w.heap[b]?)(h2: ∀c,m.on c->MapLike w c->w'.heap[c]? =w.heap[c]?):m.ok P w' K' b:=by
 cases m with
 | mp k R n D=>
  obtain⟨es,c,g1,g2⟩:=h;exact⟨es,c,h1.trans g1,g2⟩
 | it b' k R n D left cnt cur=>
  obtain⟨⟨es,clock,since,seen,c0,hb,F,hs,hD,hr,rest⟩,hcu⟩:=h;have hb':=h2 b' rfl ⟨_,hb,rfl⟩;exact⟨⟨es,clock,since,seen,c0,hb'.trans hb,F,hs,hD,h1.trans hr,rest⟩,fun kv e=>(hcu kv e).same hr h1 hb'⟩
 | st s pos=>exact h1.trans h
 | mv k n f=>
  obtain⟨D,⟨es,c,g1,g2⟩,g3,g4,g5⟩:=h;refine⟨D,⟨es,c,h1.trans g1,g2⟩,g3,g4,fun kl cs hk=>?_⟩;obtain⟨v,g6,g7⟩:=g5 kl cs hk;exact⟨v,g6,g7.mono (E':=E0 K') (show Later w (E0 K) w' (E0 K') from⟨fun b o h=>hc b o h,rfl,rfl⟩)⟩
def MO.ok.keep{K:qM}{m:MO}(h:m.ok P w K b)(hc: ∀b o,K b o->K' b o/\w'.cell? ⟨b,o,none⟩=w.cell? ⟨b,o,none⟩)(hk: ∀b,MapLike w b->w'.heap[b]? =w.heap[b]?):m.ok P w' K' b:=h.keep1 hc (hk b h.like) fun c _ hc=>hk c hc
def MOk(P:Program)(w:j5)(K:qM)(M:MS):Prop:=∀b m,M b=some m->m.ok P w K b
def MOk.keep{K:qM}{M:MS}(h:MOk P w K M)(hc: ∀b o,K b o->K' b o/\w'.cell? ⟨b,o,none⟩=w.cell? ⟨b,o,none⟩)(hk: ∀b,MapLike w b->w'.heap[b]? =w.heap[b]?):MOk P w' K' M:=fun b m hm=>(h b m hm).keep hc hk
def O9(P:Program)(w:j5)(K:qM):MOk P w K noMap:=fun b m h=>by cases h
structure MT(G:Nat->Prop)(w w':j5):Prop where
 os:w'.os=w.os
 tape:w'.tape=w.tape
 output:w'.output=w.output
 size:w'.heap.size=w.heap.size
 block: ∀b,w'.heap[b]? =w.heap[b]?\/(G b/\MapLike w b/\MapLike w' b)
def MT.refl(G:Nat->Prop)(w:j5):MT G w w:=⟨rfl,rfl,rfl,rfl,fun _=>.inl rfl⟩
def MT.mono{G':Nat->Prop}(h:MT G w w')(hG: ∀b,b<w.heap.size->G b->G' b):MT G' w w':=
 ⟨h.os,h.tape,h.output,h.size,fun b=>(h.block b).imp id fun⟨h1,h2,h3⟩=>⟨hG b h2.lt h1,h2,h3⟩⟩
def MT.trans{a b c:j5}(h:MT G a b)(k:MT G b c):MT G a c:=by
 refine⟨k.os.trans h.os,k.tape.trans h.tape,k.output.trans h.output,k.size.trans h.size,fun i=>?_⟩;rcases h.block i with h1|⟨h1,h2,h3⟩
 ·rcases k.block i with k1|⟨k1,k2,k3⟩
  ·grind
  ·exact .inr ⟨k1,k2.congr h1.symm,k3⟩
 ·rcases k.block i with k1|⟨k1,k2,k3⟩
  ·exact .inr ⟨h1,h2,h3.congr k1⟩
  ·grind
def MT.cells(h:MT G w w'){arr e m}(hb:w.heap[b]? =some (.cells arr e m)):w'.heap[b]? =w.heap[b]? :=
 (h.block b).resolve_right fun⟨_,h2,_⟩=>h2.no hb
def MT.cell(h:MT G w w')(b o:Nat):w'.cell? ⟨b,o,none⟩=w.cell? ⟨b,o,none⟩:=by
 rcases h.block b with h1|⟨_,h2,h3⟩
 ·exact jf (w:=w) (a:=⟨b,o,none⟩) h1
 ·rw[h2.cell,h3.cell]
def be(x w':j5):World:={ x with heap:=x.heap.mapIdx fun i o=>if qgM o=true then(w'.heap[i]?).getD o else o }
def lj{x:j5}(h:MapLike x b)(hs:x.heap.size<=w'.heap.size):(be x w').heap[b]? =w'.heap[b]? :=by have qf:=h.lt;have hw:w'.heap[b]? =some (w'.heap[b]' oa):=oh;obtain⟨ob,h,h3⟩:=h;simp[be,Array.getElem?_mapIdx,h,hw,h3]
def rB{x:j5}(h: ¬MapLike x b):(be x w').heap[b]? =x.heap[b]? :=by
 simp only[be,Array.getElem?_mapIdx];cases hb:x.heap[b]? with
 | none=>rfl
 | some o=>
  have: ¬qgM o=true:=fun e=>h ⟨o,hb,e⟩;simp[this]
def Free.mt(h:MT G w w'){o:Nat}(hf:Free w b o):Free w' b o:=by obtain⟨arr,e,h1,h2⟩:=hf;exact⟨arr,e,(h.cells h1).trans h1,h2⟩
def GSz.mt(h:GSz w)(t:MT G w w'):GSz w':=h.same fun b cs e m hb=>⟨cs,e,m,(t.cells hb).trans hb,rfl⟩
def MT.later(h:MT G w w')(E:Env):Later w E w' E:=⟨fun b o hb=>⟨hb,h.cell b o⟩,rfl,rfl⟩
def mG{F:qM}{x:j5}(t:Turn F x w)(h:MT G w w'):MT G x (be x w')/\Turn F (be x w') w':=by
 have hs:x.heap.size<=w'.heap.size:=by rw[h.size];exact t.size
 have like: ∀b,MapLike x b->w.heap[b]? =x.heap[b]? :=fun b hb=>(t.block b hb.lt).resolve_right fun⟨arr,e,arr',h1,_⟩=>hb.no h1;refine⟨⟨rfl,rfl,rfl,by simp[be],fun b=>?_⟩,⟨h.os.trans t.os,h.tape.trans t.tape,h.output.trans t.output,by simpa[be]using hs,fun b hb=>?_⟩⟩
 ·by_cases hl:MapLike x b
  ·rw[lj hl hs];rcases h.block b with h1|⟨h1,h2,h3⟩
   ·grind
   ·exact .inr ⟨h1,hl,h3.congr (lj hl hs)⟩
  ·exact .inl (rB hl)
 ·have hb':b<x.heap.size:=by simpa[be]using hb
  by_cases hl:MapLike x b
  ·exact .inl (lj hl hs).symm
  ·rw[rB hl];rcases t.block b hb' with h1|⟨arr,e,arr',h1,h2,h3,h4⟩
   ·rcases h.block b with k1|⟨k1,k2,k3⟩
    ·grind
    ·exact ak (k2.congr h1.symm) hl
   ·exact .inr ⟨arr,e,arr',h1,(h.cells h2).trans h2,h3,h4⟩
def WI.mt{X:Origin}{bx:vT}(h:WI X w E bx)(t:MT G w w'):WI { X with w:=be X.w w' } w' E bx:=by
 have hl:=t.later E;have vo:(be X.w w').heap.size=X.w.heap.size:=by simp[be]
 refine⟨(mG h.turn t).2,h.sep,h.kin,fun b o hb hF hk=>h.kold b o (by rw[<-vo];exact hb) hF hk,h.kok.move (fun b o _=>t.cell b o) (h.kok.z.mt t),fun n rows hn qH=>?_,h.boxne,fun n b o hs=>?_,h.disj,h.sbox,h.fix⟩
 ·obtain⟨h1,h2,h3⟩:=h.boxes n rows hn qH;obtain⟨sz,arr,e,q,_⟩:=id h2;exact⟨h1.imp (fun g=>by rw[vo];exact g) id,h2.mono hl (t.cells q),h3⟩
 ·obtain⟨h1,h2,h3⟩:=h.free n b o hs;exact⟨h1.imp (fun g=>by rw[vo];exact g) id,h2,h3.mt t⟩
def DefOK.mt{X:Origin}{ds:List Deferred}(h:DefOK X ds w)(t:MT G w w'):DefOK { X with w:=be X.w w' } ds w':=by obtain⟨h0,Ds,h1,h2,h3⟩:=h;refine⟨by simpa[be]using h0,Ds,h1,h2,fun D hD=>⟨(h3 D hD).1,((t.block D).resolve_right fun⟨_,g,_⟩=>?_).trans (h3 D hD).2⟩⟩;exact g.noD (h3 D hD).2
def RelE.mt{X:Origin}(h:RelE X s E a w)(t:MT G w w'):RelE { X with w:=be X.w w' } s E a w':=
 ⟨h.wi.mt t,fun x=>(h.sl x).mono (t.later E),h.size,h.defers.mt t,h.small,h.pl⟩
def GO{X:Origin}{s:DS}{E:Env}{a:Act}{w:j5}(hE:RelE X s E a w): ∃X2:Origin,X2.w=w/\X2.ro=X.ro/\RelE X2 s E a w/\
  ∀s' E' a' w',RelE X2 s' E' a' w'->RelE X s' E' a' w'/\∀b o,E.K b o->E'.K b o/\w'.cell? ⟨b,o,none⟩=w.cell? ⟨b,o,none⟩:=by
 obtain⟨F2,hF2⟩: ∃F2:qM,F2=fun b o=>¬E.K b o/\((b<X.w.heap.size/\X.F b o)\/X.w.heap.size<=b):=⟨_,rfl⟩
 have vo:=hE.wi.turn.size;have yF: ∀{b o:Nat},¬E.K b o->X.Young b o->F2 b o:=fun {b o} hk hy=>by
  rw[hF2];rcases hy with hy|hy
  ·grind
  ·grind
 have Fy: ∀{b o:Nat},F2 b o->X.Young b o:=fun {b o} hf=>by rw[hF2]at hf;exact hf.2.symm.imp id fun g=>g.2
 have Flt: ∀{b o:Nat},b<X.w.heap.size->F2 b o->X.F b o:=og;have Fk: ∀{b o:Nat},E.K b o->¬F2 b o:=og;refine⟨{ X with w:=w,K:=E.K,F:=F2 },rfl,rfl,⟨⟨Turn.refl _ _,fun b o h=>Fk h,fun b o h=>h,fun b o _ _ hk=>hk,hE.wi.kok,fun n rows hn qH=>?_,hE.wi.boxne,fun n b o hs=>?_,hE.wi.disj,hE.wi.sbox,hE.wi.fix⟩,hE.sl,hE.size,?_,hE.small,hE.pl⟩,?_⟩
 ·obtain⟨h1,h2,h3⟩:=hE.wi.boxes n rows hn qH;exact⟨.inr fun o=>yF (h3 o) (h1.imp id fun g=>g o),h2,h3⟩
 ·obtain⟨h1,h2,h3⟩:=hE.wi.free n b o hs;exact⟨.inr (yF h2 h1),h2,h3⟩
 ·obtain⟨h0,h1⟩:=hE.defers;exact⟨wu h0 vo,h1⟩
 ·rintro s' E' a' w' h;refine⟨⟨⟨hE.wi.turn.trans h.wi.turn fun i o hi hf=>Flt hi hf,hE.wi.sep,fun b o hk=>h.wi.kin b o (hE.wi.kin b o hk),fun b o qf hF hk=>?_,h.wi.kok,fun n rows hn qH=>?_,h.wi.boxne,fun n b o hs=>?_,h.wi.disj,h.wi.sbox,h.wi.fix⟩,h.sl,h.size,?_,h.small,h.pl⟩,fun b o hk=>⟨h.wi.kin b o hk,h.wi.turn.cell (qP (hE.wi.kok b o hk)) (Fk hk)⟩⟩
  ·exact hE.wi.kold b o qf hF (h.wi.kold b o (jp qf vo) (fun hf=>hF (Flt qf hf)) hk)
  ·obtain⟨h1,h2,h3⟩:=h.wi.boxes n rows hn qH;refine⟨?_,h2,h3⟩;rcases h1 with h1|h1
   ·exact .inl (wu vo h1)
   ·rcases yD (E'.ρ n) X.w.heap.size with qf|dC
    ·exact .inr fun o=>Flt qf (h1 o)
    ·exact .inl dC
  ·obtain⟨h1,h2,h3⟩:=h.wi.free n b o hs;refine⟨?_,h2,h3⟩;rcases h1 with h1|h1
   ·exact .inl (wu vo h1)
   ·grind
  ·obtain⟨h0,h1⟩:=h.defers;exact⟨hE.defers.1,h1⟩
def RelM(P:Program)(G:Nat->Prop)(X:Origin)(s:DS)(M:MS)(a:Act)(w:j5):Prop:=
 ∃x E,MT G X.w x/\RelE { X with w:=x } s E a w/\MOk P w E.K M/\∀b,(M b).isSome=true->b<X.w.heap.size->G b
def RelM.keep{P:Program}{G:Nat->Prop}{X:Origin}{s:DS}{M:MS}{a:Act}{w:j5}(h:RelM P G X s M a w):
  ∃X2:Origin,X2.ro=X.ro/\Z1 X2 s a w/\∀s' a' w',Z1 X2 s' a' w'->RelM P G X s' M a' w':=by
 obtain⟨x,E,h1,h2,h3,h4⟩:=h;obtain⟨X2,e1,e2,h5,h6⟩:=GO h2;refine⟨X2,e2,⟨E,h5⟩,fun s' a' w' ⟨E',hE⟩=>?_⟩;obtain⟨g1,g2⟩:=h6 _ _ _ _ hE;refine⟨x,E',h1,g1,h3.keep g2 fun b hb=>?_,h4⟩;have ht:=hE.wi.turn;rw[e1]at ht;exact(ht.block b hb.lt).resolve_right fun⟨arr,e,arr',k1,_⟩=>hb.no k1
def RelM.sub{X:Origin}{M:MS}(h:RelM P G X s M a w)(hs:s.Sub s'):RelM P G X s' M a w:=by obtain⟨X2,_,h1,h2⟩:=h.keep;exact h2 _ _ _ (hs _ _ _ h1)
def MW(P:Program)(c:Code)(s:DS)(M:MS)(Q:ah->DS->MS->Prop):Prop:=
 ∀G X a w,RelM P G X s M a w->c.wpIn (rd X.ro) 0 P (fun e a' w'=>∃s' M',Q e s' M'/\RelM P G X s' M' a' w') a w
def fE(next:DS->MS->Prop)(Q:ah->DS->MS->Prop):ah->DS->MS->Prop
 | .normal,s,M=>next s M
 | e,s,M=>Q e s M
def ZR(id:Nat)(Q:ah->DS->MS->Prop):ah->DS->MS->Prop
 | .exit id',s,M=>if id'=id then Q .normal s M else Q (.exit id') s M
 | e,s,M=>Q e s M
section
variable {P:Program} {s:DS} {M:MS} {Q:ah->DS->MS->Prop}
def MW.mono{Q':ah->DS->MS->Prop}(h:MW P c s M Q)(hq: ∀e s M,Q e s M->Q' e s M):MW P c s M Q':=
 fun G X a w hr=>wpIn_mono (h G X a w hr) fun _ _ _ ⟨s',M',h1,h2⟩=>⟨s',M',hq _ _ _ h1,h2⟩
def XL(h:DW P c s (fun e s'=>Q e s' M)):MW P c s M Q:=fun G X a w hr=>by obtain⟨X2,e,h1,h2⟩:=hr.keep;refine wpIn_mono (e▸h X2 a w h1) ?_;rintro e' a' w' ⟨s',h3,h4⟩;exact⟨s',M,h3,h2 _ _ _ h4⟩
def qbf(h:MW P x s M (fE (fun s' M'=>MW P y s' M' Q) Q)):MW P (.seq x y) s M Q:=by
 intro G X a w hr;refine wpIn_seq (wpIn_mono (h G X a w hr) ?_);rintro e a' w' ⟨s',M',h1,h2⟩;cases e with
 | normal=>exact h1 G X a' w' h2
 | _=>exact⟨s',M',h1,h2⟩
def U5(h:Q .normal s M):MW P .skip s M Q:=fun _ _ _ _ hr=>wpIn_skip ⟨s,M,h,hr⟩
def U7{id:Nat}(h:Q (.exit id) s M):MW P (.exit id) s M Q:=fun _ _ _ _ hr=>wpIn_exit ⟨s,M,h,hr⟩
def qbh(h:Q .ret s M):MW P .ret s M Q:=fun _ _ _ _ hr=>wpIn_ret ⟨s,M,h,hr⟩
def O6{id:Nat}(h:MW P c s M (ZR id Q)):MW P (.block id c) s M Q:=by
 intro G X a w hr;refine wpIn_block (wpIn_mono (h G X a w hr) ?_);rintro e a' w' ⟨s',M',h1,h2⟩;cases e with
 | exit id'=>
  simp only[Exit.inBlock,ZR]at h1 ⊢;split
  ·grind
  ·grind
 | _=>exact⟨s',M',h1,h2⟩
def U8{c:j9}(hc:s.ev c= .one (.c (.lit (.bool t))))(ht:t=true->MW P x s M Q)(hf:t=false->MW P y s M Q):MW P (.cond c x y) s M Q:=by intro G X a w hr;obtain⟨x0,E,h1,hE,h2⟩:=id hr;have hv:=hE.ev c;rw[hc]at hv;exact wpIn_cond_split hv.lit (fun h=>ht h G X a w hr) (fun h=>hf h G X a w hr)
def qbe(hs:s.Sub s')(h:MW P c s' M Q):MW P c s M Q:=fun G X a w hr=>h G X a w (hr.sub hs)
def U6{α:Type}{c:Code}(S:α->DS)(MM:α->MS)(Inv:α->Prop)(μ:α->Nat)(x0:α)(h0:s.Sub (S x0))(hg:M=MM x0)(hi:Inv x0)
  (round: ∀x,Inv x->MW P c (S x) (MM x) (fE (fun s' M'=>∃x',Inv x'/\μ x'<μ x/\s'.Sub (S x')/\M'=MM x') Q)):MW P (.loop c) s M Q:=by
 intro G X a w hr b k cs lE hb vd;have key: ∀q x,μ x=q->Inv x->∀a w,RelM P G X (S x) (MM x) a w->
   ∃e a' w',(∃s' M',Q e s' M'/\RelM P G X s' M' a' w')/\ArrivesIn (Machine.fenced P (rd X.ro)) P (lone (b.atR a (.code c:: .inLoop c::k)) cs w) b k cs e a' w':=by
  intro q;induction q using Nat.strongRecOn with
  | _ q ih=>
   intro x hm hI a w hr;obtain⟨e,a₁,w₁,⟨s₁,M₁,hq,hr₁⟩,Qg⟩:=round x hI G X a w hr b (.inLoop c::k) cs lE hb vd;cases e with
   | normal=>
    obtain⟨x',hI₁,qf,hsub,rfl⟩:=hq;obtain⟨e₂,a₂,w₂,q4,harr₂⟩:=ih (μ x') (hm▸qf) x' rfl hI₁ a₁ w₁ (hr₁.sub hsub);exact⟨e₂,a₂,w₂,q4,.of_steps (StepsIn.trans Qg (.one (fenced_calm hb vd rfl) stepR_inLoop)) harr₂⟩
   | exit id=>exact⟨_,a₁,w₁,⟨s₁,M₁,hq,hr₁⟩,.pass (x:=.inLoop c) rfl (fun _ _=>.inl oh) Qg⟩
   | goto l=>exact⟨_,a₁,w₁,⟨s₁,M₁,hq,hr₁⟩,.pass (x:=.inLoop c) rfl (fun _ _=>.inl oh) Qg⟩
   | ret=>exact⟨_,a₁,w₁,⟨s₁,M₁,hq,hr₁⟩,.pass (x:=.inLoop c) rfl (fun _ _=>.inl oh) Qg⟩
   | panic ch=>exact⟨_,a₁,w₁,⟨s₁,M₁,hq,hr₁⟩,.pass (x:=.inLoop c) rfl (fun _ _=>.inl oh) Qg⟩
   | outgrown=>exact⟨_,a₁,w₁,⟨s₁,M₁,hq,hr₁⟩,.pass (x:=.inLoop c) rfl (fun _ _=>.inl oh) Qg⟩
 subst hg;obtain⟨e,a',w',hq,Qg⟩:=key _ x0 rfl hi a w (hr.sub h0);exact⟨e,a',w',hq,.of_steps (.one (fenced_calm hb vd rfl) stepR_loop) Qg⟩
end
variable {M:MS}
def StepM(P:Program)(o:aa)(s:DS)(M:MS)(K:DS->MS->Prop):Prop:=
 (∀d,o.dst=some d->d<s.n)->∀G X a w,RelM P G X s M a w->∀Q:ah->Act->j5->Prop,o.wp P a w (fun a' w'=>∃s' M',(s'.n=s.n/\K s' M')/\RelM P G X s' M' a' w') Q
section
variable {P:Program} {o:aa} {s:DS} {M:MS} {K:DS->MS->Prop}
def StepM.of(h:Step P o s (fun s'=>K s' M)):StepM P o s M K:=by intro hd G X a w hr Q;obtain⟨X2,_,h1,h2⟩:=hr.keep;refine yL ?_ (h hd X2 a w h1 Q);rintro a' w' ⟨s',h3,h4⟩;exact⟨s',M,h3,h2 _ _ _ h4⟩
def StepM.mono{K':DS->MS->Prop}(h:StepM P o s M K)(hk: ∀s' M',s'.n=s.n->K s' M'->K' s' M'):StepM P o s M K':=fun hd G X a w hr Q=>
 yL (fun _ _ ⟨s',M',⟨h1,h2⟩,h3⟩=>⟨s',M',⟨h1,hk s' M' h1 h2⟩,h3⟩) (h hd G X a w hr Q)
def IX{X:Origin}(h:RelM P G X s M a w)(hd: ∀d,dst=some d->d<s.n):RelM P G X (s.put dst (.tup [])) M (a.put dst undef) w:=by obtain⟨X2,_,h1,h2⟩:=h.keep;exact h2 _ _ _ (eC h1 hd)
def RelM.put{X:Origin}(h:RelM P G X s M a w)(hd: ∀d,dst=some d->d<s.n)(hv: ∀E,VD w E d v):RelM P G X (s.put dst d) M (a.put dst v) w:=by obtain⟨x,E,h1,hE,h3⟩:=h;exact⟨x,E,h1,hE.putOnly hd (hv E),h3⟩
def RelM.ev{X:Origin}(h:RelM P G X s M a w){x:j9}(hx:s.ev x= .one (.c (.lit u))):a.eval x=u:=by obtain⟨y,E,h1,hE,h3⟩:=h;have:=hE.ev x;rw[hx]at this;exact this.lit
def RelM.map{X:Origin}(h:RelM P G X s M a w){m:MO}(hb:M b=some m):m.ok P w h.choose_spec.choose.K b:=h.choose_spec.choose_spec.2.2.1 b m hb
def cW(P:Program)(ops:List aa)(o:aa)(s:DS)(M:MS)(K:DS->MS->Prop):Prop:=
 match vX ops s o with
 | some t=>if t=true then StepM P o s M K else K (s.put o.dst (.tup [])) M
 | none=>False
def zg(P:Program)(ops:List aa):List aa->DS->MS->(DS->MS->Prop)->Prop
 | [],s,M,K=>K s M
 | o::l,s,M,K=>cW P ops o s M fun s' M'=>zg P ops l s' M' K
def tb{ro:Option Nat}{Q':ah->Act->j5->Prop}{ops:List aa}{G:Nat->Prop}{X:Origin}{N:Nat}{K:DS->MS->Prop}(hK: ∀s M a w,K s M->RelM P G X s M a w->Q' .normal a w): ∀(l:List aa) (s:DS) (M:MS) (a:Act) (w:j5),zM l N=true->s.n=N->RelM P G X s M a w->
  zg P ops l s M K->wpListIn (rd ro) 0 P ops.toArray Q' l a w
 | [],s,M,a,w,_,hn,hr,h=>wpListIn_nil (hK s M a w h hr)
 | o::l,s,M,a,w,hb,hn,hr,h=>by
  obtain⟨h0,h1,h2⟩:=Qu hb;refine wpListIn_step fun K' hK'=>?_;simp only[zg,cW]at h;split at h
  ·rename_i t ht;obtain⟨x,Ex,_,hrx,_⟩:=id hr;rw[zn ht ⟨Ex,hrx⟩];split at h
   ·rename_i h3;rw[ae h3];refine zV h0 (yL ?_ (h (fun d hd=>by rw[hn];exact h1 d hd) G X a w hr Q'));rintro a' w' ⟨s',M',⟨hn',hs'⟩,hr'⟩;exact hK' _ _ (tb hK l s' M' a' w' h2 (hn'.trans hn) hr' hs')
   ·rename_i h3;rw[j7 h3];refine⟨fun f _=>rv ro f,?_⟩;exact hK' _ _ (tb hK l _ _ _ w h2 (by rw[zD];exact hn) (IX hr (fun d hd=>by rw[hn];exact h1 d hd)) h)
  ·grind
def iS{ops:List aa}{K:DS->MS->Prop}{M:MS}{l2:List aa}: ∀(l1:List aa) (s:DS),Qb P ops l1 s (fun s'=>zg P ops l2 s' M K)->zg P ops (l1++l2) s M K
 | [],_,h=>h
 | o::l,s,h=>by
  simp only[Qb,vc]at h;simp only[wD,zg,cW];split at h
  ·split at h
   ·rename_i t ht h3;simp only[ht,ae h3];exact(StepM.of (h.mono fun s' _ hs'=>iS l s' hs'))
   ·rename_i t ht h3;simp only[ht,j7 h3];exact iS l _ h
  ·grind
def ZF{K:DS->MS->Prop}{M:MS}{s:DS}(k:Nat)(h:wk P (ops.map (·.dst)) (bq (l.take k)) s (fun s'=>zg P ops (l.drop k) s' M K)):zg P ops l s M K:=by have:=iS (l.take k) s (zA (l.take k) s h);rwa [yf]at this
def Dh{K:DS->MS->Prop}{M:MS}{o:aa}{s:DS}(hg:o.guard=none)(h:StepM P o s M fun s' M'=>zg P ops l s' M' K):zg P ops (o::l) s M K:=by simp only[zg,cW,vX,hg,an];exact h
def JX{K:DS->MS->Prop}{M:MS}{o:aa}{s:DS}{b:Bool}(hg:vX ops s o=some b)(ht:b=true->StepM P o s M fun s' M'=>zg P ops l s' M' K)(hf:b=false->zg P ops l (s.put o.dst (.tup [])) M K):zg P ops (o::l) s M K:=by
 simp only[zg,cW,hg];cases b
 ·grind
 ·grind
def K8{id:Nat}{Q:ah->DS->MS->Prop}(hn:s.n=N)(hb:zM l N=true)(h:zg P l l s M (Q .normal)):MW P (.region id l.toArray false) s M Q:=by intro G X a w hr;exact wpIn_region_lit (tb (G:=G) (X:=X) (K:=Q .normal) (fun s M a w h1 h2=>⟨s,M,h1,h2⟩) l s M a w hb hn hr h)
def RelM.alloc{X:Origin}(h:RelM P G X s M a w)(ob:Obj){m:MO}(hm: ∀K,m.ok P (w.alloc ob) K w.heap.size):RelM P G X s (M.set w.heap.size m) a (w.alloc ob):=by
 obtain⟨x,E,h1,hE,h3,h4⟩:=h;have vo:X.w.heap.size<=w.heap.size:=by have:=hE.wi.turn.size;simp only at this;rw[h1.size]at this;exact this
 have PP:x.heap.size<=w.heap.size:=hE.wi.turn.size;refine⟨x,E,h1,hE.hush (Hush.alloc ob PP) rfl (hE.defers.of fun D hD hb=>(Below.heap_alloc w ob D (wH.1 hb).1).trans hb),fun b m' hb=>?_,fun b hb qf=>?_⟩
 ·by_cases e:b=w.heap.size
  ·simp only[MS.set,e,an]at hb;injection hb with hb;subst hb;rw[e];exact hm _
  ·simp only[MS.set,e,ap]at hb;exact(h3 b m' hb).keep (((Hush.alloc ob PP).later hE.wi.kok).keep) fun c hc=>Below.heap_alloc w ob c hc.lt
 ·have e:b≠w.heap.size:=by omega
  simp only[MS.set,e,ap]at hb;exact h4 b hb qf
def RelM.fresh{X:Origin}(h:RelM P G X s M a w):M w.heap.size=none:=by
 cases hb:M w.heap.size with
 | none=>rfl
 | some m=>have:=(h.map hb).like.lt;omega
def RelM.turn{X:Origin}(h:RelM P G X s M a w)(hb:(M b).isSome=true)(t:MT (fun c=>c=b) w w'){m:MO}(hm: ∀x E,RelE { X with w:=x } s E a w->(∀m0,M b=some m0->m0.ok P w E.K b)->m.ok P w' E.K b)(r9: ∀r m,M r=some m->r≠b->¬m.on b):RelM P G X s (M.set b m) a w':=by
 obtain⟨x,E,h1,hE,h3,h4⟩:=h;refine⟨be x w',E,h1.trans ((mG hE.wi.turn t).1.mono fun c hc e=>?_),hE.mt t,fun c m' hc=>?_,fun c hc qf=>?_⟩
 ·subst e;exact h4 c hb (by rw[h1.size]at hc;exact hc)
 ·by_cases e:c=b
  ·simp only[MS.set,e,an]at hc;injection hc with hc;subst hc;rw[e];exact hm x E hE fun m0=>h3 b m0
  ·simp only[MS.set,e,ap]at hc;have qH:=r9 c m' hc e;have hk:=h3 c m' hc;exact hk.keep1 (fun b o q=>⟨q,t.cell b o⟩) ((t.block c).resolve_right fun g=>e g.1) fun d hd _=>(t.block d).resolve_right fun g=>qH (g.1▸hd)
 ·by_cases e:c=b
  ·grind
  ·simp only[MS.set,e,ap]at hc;exact h4 c hc qf
def EC(h:w.grownBy w' (some b))(hs:w'.heap.size=w.heap.size)(h1:MapLike w b)(h2:MapLike w' b):MT (fun c=>c=b) w w':=by
 refine⟨h.os,h.tape,h.output,hs,fun c=>?_⟩;by_cases e:c=b
 ·grind
 ·left;rcases yD c w.heap.size with qf|dC
  ·exact h.block c qf (fun g=>e (by injection g))
  ·grind
abbrev XN(b:Nat):D:=.one (.c (.lit (.map (some b))))
def StepM.makeMap{t:j8}(ho:o.op= .makeMap t none)(k:j8)(R:qdx)(h: ∀b,M b=none->K (s.put o.dst (XN b)) (M.set b (.mp k R 0 (.map [])))):StepM P o s M K:=by intro hd G X a w hr Q;refine vg (v:=.map (some w.heap.size)) (w':=w.alloc (.map #[] 0)) (by simp only[execOp,ho,Option.map_none,wq,run_makeMap,wj,wG]) ⟨_,_,⟨zD _ _ _,h _ hr.fresh⟩,?_⟩;exact(hr.alloc _ (m:=.mp k R 0 (.map [])) (fun _=>World.ownsMap_made w P k R)).put hd fun E=>.one _ _ (.c _ _ (.lit _ rfl))
def StepM.lookup{t:j8}{m x:j9}(ho:o.op= .lookup t m x false){b:Nat}{k e:j8}{R:qdx}{n:Nat}{D0:DataW j6}(hb:M b=some (.mp k R n D0))(hm:s.ev m=XN b)(hK:Keyed P k)(ht:P.underlying t=some (.map k e)){z:j6}(hz: ∀w,(zeroValue e).run P w= .ok z w){zd:DataW j6}{zp:List MemPlace}(hzd:R z=some (zd,zp))
  {key:j6} {kl:Lit} (hx:s.ev x= .one (.c (.lit key))) (lG:keyOf P k key=some kl) {v:j6} (hv: ∀u ps,R u=some (D0.atKey kl zd,ps)->u=v) (h1:v.oneCell'=true) (h:K (s.put o.dst (.one (.c (.lit v)))) M):StepM P o s M K:=by
 intro hd G X a w hr Q;obtain⟨u,ps,qS,hu⟩:=World.ownsMap.lookup (hr.map hb) hK ht (hz w) hzd lG;obtain rfl:=hv u ps hu;refine vg (v:=u) (w':=w) (by simp only[execOp,ho,hr.ev hm,hr.ev hx,wq,qS,wj,wG]) ⟨_,_,⟨zD _ _ _,h⟩,?_⟩;exact hr.put hd fun E=>.one _ _ (.c _ _ (.lit _ h1))
def StepM.update{t:j8}{m x y:j9}(ho:o.op= .mapUpdate t m x y)(hm':o.dst=none){b:Nat}{k e:j8}{R:qdx}{n:Nat}{D0:DataW j6}(hb:M b=some (.mp k R n D0))(hm:s.ev m=XN b)(hK:Keyed P k)(ht:P.underlying t=some (.map k e))(hn:n<maxLen)
  {key val:j6} {kl:Lit} (hx:s.ev x= .one (.c (.lit key))) (lG:keyOf P k key=some kl) (hy:s.ev y= .one (.c (.lit val))) {d:DataW j6} {ps:List MemPlace} (ZS:R val=some (d,ps)) (r9: ∀r m,M r=some m->r≠b->¬m.on b) (h:K s (M.set b (.mp k R (n+1) (D0.put kl d)))):StepM P o s M K:=by
 intro hd G X a w hr Q;have eM:=hr.map hb;obtain⟨w',qS,h1,h2⟩:=World.ownsMap.store eM hK ht hn lG ZS;refine fA (w':=w') (by simp only[execOp,ho,hr.ev hm,hr.ev hx,hr.ev hy,wq,qS,wj,wG]) ⟨s,_,⟨rfl,h⟩,?_⟩;rw[hm'];have vo:w'.heap.size=w.heap.size:=by obtain⟨_,_,_,_,_,rfl⟩:=h2;simp[Go.ChangeMaps.setBlock]
 exact hr.turn (b:=b) (by rw[hb];rfl) (EC h2.grown vo (MO.ok.like (K:=fun _ _=>True) (m:=.mp k R n D0) eM) (MO.ok.like (K:=fun _ _=>True) (m:=.mp k R (n+1) (D0.put kl d)) h1)) (fun _ _ _ _=>h1) r9
end
def MCalls(P:Program)(f:am)(ds:List D)(H:vT)(M:MS)(Q:D->vT->MS->Prop):Prop:=
 Program.plainF P f=true/\∀(w:j5) (E:Env) (F:qM) (vs:Array j6),WI ⟨w,E.K,F,E.ρ,NB,none,w.heap.size,[]⟩ w E H->MOk P w E.K M->vs.size=ds.length->
  (∀(j:Nat) d v,ds[j]? =some d->vs[j]? =some v->VD w E d v)->
  Calls P f vs w fun e w'=>∃v E' r H' M' x,e= .returned v/\Q r H' M'/\MT (fun b=>(M b).isSome=true) w x/\WI ⟨x,E.K,F,E.ρ,NB,none,w.heap.size,[]⟩ w' E' H'/\VD w' E' r v/\MOk P w' E'.K M'/\
   ∀b,(M' b).isSome=true->b<w.heap.size->(M b).isSome=true
def B8{P:Program}{fn:Func}{X:Origin}{s:DS}{E:Env}{a:Act}{w:j5}(Fa:X.base= [])(Dc:X.w.heap.size<=X.mrk)(hE:RelE X s E a w){r:D}(hr:Zs P s fn.results.toList=some r){R:Ending->j5->Prop}
  (hR: ∀w₂ v,WI X w₂ E s.bx->VD w₂ E r v->(∀b,MapLike w b->w₂.heap[b]? =w.heap[b]?)->(∀b o,E.K b o->E.K b o/\w₂.cell? ⟨b,o,none⟩=w.cell? ⟨b,o,none⟩)->R (.returned v) w₂):LeavesInM ya 0 P fn a.tmps R a.defers .returning w:=by
 have key: ∀(Ds:List Nat) (w1:j5),Ds.Nodup->RelE X s E { a with defers:=X.base } w1->(∀b,MapLike w b->w1.heap[b]? =w.heap[b]?)->(∀b o,E.K b o->E.K b o/\w1.cell? ⟨b,o,none⟩=w.cell? ⟨b,o,none⟩)->(∀D∈Ds,X.w.heap.size<=D/\w1.heap[D]? =some (.deferred (some [])))->
   LeavesInM ya 0 P fn a.tmps R (Ds.map (fun D=>{ target:=.collected D,args:= #[] })) .returning w1:=by
  intro Ds;induction Ds with
  | nil=>
   intro w1 _ h hm LJ _;obtain⟨v,h1,h2⟩:=BU h hr;exact⟨v,h1,hR _ _ h.wi h2 hm LJ⟩
  | cons D Ds ih=>
   intro w1 rH h hm LJ hD;obtain⟨h1,h2⟩:=jE.1 rH;obtain⟨h3,h4⟩:=hD D oh;refine⟨oh,.inl ⟨D,_,rfl,run_takeDeferred h4,ih _ h2 (h.hush (Hush.putObj _ h3 h4 oh) rfl (DefOK.nil _ _ hE.defers.1)) (fun b hb=>?_) (fun b o hk=>⟨hk,(((Hush.putObj (.deferred none) h3 h4 oh).later h.wi.kok).keep b o hk).2.trans (LJ b o hk).2⟩) fun D' hD'=>?_⟩⟩
   ·refine(wX (show b≠D from fun e=>?_)).trans (hm b hb);have h5:=hb.congr (hm b hb);rw[e]at h5;exact h5.noD h4
   ·obtain⟨g1,g2⟩:=hD D' (by simp[hD']);exact⟨g1,(wX (show D'≠D from fun e=>h1 (by rw[<-e];exact hD'))).trans g2⟩
 obtain⟨h0,Ds,rH,hds,hD⟩:=hE.defers;rw[hds,Fa,yG];exact key Ds w rH ⟨hE.wi,hE.sl,hE.size,DefOK.nil _ _ h0,hE.small,hE.pl⟩ (fun _ _=>rfl) (fun _ _ h=>⟨h,rfl⟩) fun D h=>⟨wu Dc (hD D h).1,(hD D h).2⟩
section
variable {P:Program}
def qbm{f:am}{fn:Func}{c:Code}{ds:List D}{H:vT}{M:MS}{Q:D->vT->MS->Prop}{N:Nat}{rs:List ResultVar}(hp:Program.plainF P f=true)(hf:P.funcs[f]? =some fn)(hb:fn.body=some c)(hN:fn.ntmps=N)(eL:fn.results.toList=rs)(hn:(decide (ds.length<=N)&&decide (N<=100000))=true)
  (h:MW P c (zZ N ds H) M (fun e s' M'=>(e= .normal\/e= .ret)/\∃r,Zs P s' rs=some r/\Q r s'.bx M')):MCalls P f ds H M Q:=by
 subst hN;subst eL;simp only[we,aj]at hn;obtain⟨hn,hN⟩:=hn;have hN:=wu hN qX;refine⟨hp,fun w E F vs aM hmo hl hv=>?_⟩;refine callsIn_wide (n:=0) |>.1 (callsIn_of_wp_marks hf hb trivial ?_)
 have hrel:RelM P (fun b=>(M b).isSome=true) ⟨w,E.K,F,E.ρ,NB,none,w.heap.size,[]⟩ (zZ fn.ntmps ds H) M { tmps:=vs++yg (fn.ntmps - vs.size) undef,defers:=[] } w:=by
  refine⟨w,E,MT.refl _ _,⟨aM,fun t=>?_,?_,DefOK.nil _ _ (wl _),⟨hN,wl _⟩,fun _=>rfl⟩,hmo,fun b hb _=>hb⟩
  ·simp only[zZ];by_cases ht:t<ds.length
   ·have h1:ds[t]? =some (ds.getD t .any):=by grind
    have h2:vs[t]? =some (vs[t]' oa):=oh;have h3:(vs++yg (fn.ntmps - vs.size) undef).getD t undef=vs[t]' oa:=by have:t<vs.size:=oa;simp[jP,this]
    simp only[h3];exact hv t _ _ h1 h2
   ·have:ds.getD t .any= .any:=by grind
    rw[this];exact .any _
  ·simp[zZ];omega
 refine wpIn_mono (h _ _ _ w hrel) ?_;rintro e a' w' ⟨s',M',⟨he,r,hr,hQ⟩,x,E',h1,hE,h3,h4⟩;have iE:LeavesInM ya 0 P fn a'.tmps (fun e w'=>∃v E' r H' M' x,e= .returned v/\Q r H' M'/\MT (fun b=>(M b).isSome=true) w x/\WI ⟨x,E.K,F,E.ρ,NB,none,w.heap.size,[]⟩ w' E' H'/\VD w' E' r v/\MOk P w' E'.K M'/\
   ∀b,(M' b).isSome=true->b<w.heap.size->(M b).isSome=true) a'.defers .returning w':=
  B8 rfl (by simp only;rw[h1.size];exact wl _) hE hr fun w₂ v aM hv hm LJ=>⟨v,E',r,s'.bx,M',x,rfl,hQ,h1,aM,hv,h3.keep LJ hm,h4⟩
 rcases he with rfl|rfl<;>exact iE
def Kv{ms:Nat->Bool}{X:Origin}{s:DS}{E E':Env}{a:Act}{w w':j5}{H':vT}{ns:List Nat}{m:Option Nat}(h:RelE X s E a w)(h':WI ⟨w,E.K,vW ms s.bx E ns,(qB ms E ns).ρ,NB,none,w.heap.size,[]⟩ w' E' H')(hc:CallOkM ms ns m)(hm: ∀x,m=some x->x<s.n)
  {r:D} {v:j6} (hv:VD w' E' r v):RelE X (s.aftCallM ms ns m r H') (ve ms E E' ns m) (a.put m v) w':=by
 have uP:RelE X { s with sl:=fun t=>(s.sl t).tr (bQ ms ns m),bx:=q9 ms s.bx H' ns m } (ve ms E E' ns m) a w':=
  ⟨ma h.wi h.small.2 h' hc,fun t=>((h.sl t).mono (bN h.wi h')).tr (aU E E' ns m),h.size,h.defers.turn h'.turn,h.small,h.pl⟩
 exact uP.putOnly (fun d hd=>hm d hd) (hv.tr (aT hc h'))
def ED(M M0 M':MS):MS:=fun b=>match M' b with
 | some m=>some m
 | none=>if(M0 b).isSome=true then none else M b
def StepM.callM(ms:Nat->Bool){o:aa}{s:DS}{M:MS}{K:DS->MS->Prop}{f:j9}{args:Array j9}{vy:Array j8}{g:am}{caps:List T}{ns:List Nat}{ds:List D}{H:vT}{M0:MS}{R:D->vT->MS->Prop}(ho:o.op= .call { callee:=.value f,args:=args,argTypes:=vy })
  (hc:MCalls P g ds H M0 R) (hf:(s.ev f).asFn=some (g,caps)) (vh:DLeL ((args.toList.map s.ev++caps.map D.one).map (D.tr (ZK ms ns))) ds) (hH: ∀k r,H k=some r->vv ms s.bx ns k=some r) (QC:CallOkM ms ns o.dst)
  (hM: ∀b m,M0 b=some m->M b=some m) (r9: ∀r m,M r=some m->M0 r=none->∀b,m.on b->M0 b=none)
  (h: ∀r H' M',R r H' M'->(∀b,(M' b).isSome=true->(M0 b).isSome=true\/M b=none)->K (s.aftCallM ms ns o.dst r H') (ED M M0 M')):StepM P o s M K:=by
 intro hm G X a w hrm Q;obtain⟨x0,E,q1,hr,q3,q4⟩:=hrm;obtain⟨captured,mZ,nP,Bb⟩:=nE hf (hr.ev f);have hR:=Qr (ms:=ms) E ns;obtain⟨vG,lH⟩:=vh.get;have vo:(args.map a.eval++captured).size=ds.length:=og;have LD: ∀(j:Nat) d v,ds[j]? =some d->(args.map a.eval++captured)[j]? =some v->VD w (qB ms E ns) d v:=by
  intro j d v g1 g2;obtain⟨d0,g3,g4⟩:=lH j d g1;refine g4 w _ v ?_;rw[wh]at g3;cases hd:(args.toList.map s.ev++caps.map D.one)[j]? with
  | none=>grind
  | some d1=>
   rw[hd]at g3;injection g3 with g3;subst g3
   refine VD.tr hR ?_;by_cases hj:j<args.size
   ·rw[wU (by simpa using hj)]at hd;rw[jS (by simpa using hj)]at g2;simp[hj]at hd g2;subst hd;subst g2;exact hr.ev _
   ·rw[wL ot]at hd;rw[jN ot]at g2;simp only[wn,Array.size_map,Array.length_toList]at hd g2;rw[wh]at hd;cases Gb:caps[j - args.size]? with
    | none=>grind
    | some c=>rw[Gb]at hd;injection hd with hd;subst hd;exact .one _ _ (Bb _ c v Gb g2)
 have aM:=(dD hr.wi ns QC.hns).less hH;have cp:=hc.2 w (qB ms E ns) (vW ms s.bx E ns) _ aM (fun b m hb=>q3 b m (hM b m hb)) vo LD;have qS:(execOp a.eval o).run P w= .ok (.enter g (args.map a.eval++captured)) w:=by unfold execOp;simp only[ho,wq];rw[vC a.eval f args vy _ g captured mZ w];simp only[wj,invoke];exact Qs hc.1 _ w
 unfold j4;rw[qS];refine Calls.mono cp ?_;rintro e w' ⟨v,E',r,H',M',x,rfl,hQ,ht,hwi',hv',hmo',hdom⟩;have bi: ∀b,(M' b).isSome=true->(M0 b).isSome=true\/M b=none:=fun b hb=>by
  rcases yD b w.heap.size with qf|dC
  ·grind
  ·refine .inr ?_;cases hmb:M b with
   | none=>rfl
   | some m=>have:=(q3 b m hmb).like.lt;omega
 have hrx:=hr.mt ht;have x8:=(mG hr.wi.turn ht).1;have PS: ∀b,(M0 b).isSome=true->(M b).isSome=true:=fun b hb=>by obtain⟨m,hm⟩:=Option.isSome_iff_exists.1 hb;rw[hM b m hm];rfl
 have hsz0:X.w.heap.size<=w.heap.size:=by have:=hr.wi.turn.size;simp only at this;rw[q1.size]at this;exact this
 have keep: ∀b,MapLike w b->¬(M0 b).isSome=true->w'.heap[b]? =w.heap[b]? :=fun b hb h0=>by have e1:x.heap[b]? =w.heap[b]? :=(ht.block b).resolve_right fun g=>h0 g.1;exact((hwi'.turn.block b (by simp only;rw[ht.size];exact hb.lt)).resolve_right fun⟨arr,e,arr',k1,_⟩=>(hb.congr e1).no k1).trans e1
 have F8: ∀b o,E.K b o->E'.K b o/\w'.cell? ⟨b,o,none⟩=w.cell? ⟨b,o,none⟩:=fun b o hb=>⟨hwi'.kin b o hb,(hwi'.turn.cell (by simp only;rw[ht.size];exact qP (hr.wi.kok b o hb)) (hwi'.sep b o hb)).trans (ht.cell b o)⟩;refine⟨_,_,⟨lT _ _ _ _ _,h r H' M' hQ bi⟩,_,ve ms E E' ns o.dst,q1.trans (x8.mono fun b hb h0=>q4 b (PS b h0) (by rw[q1.size]at hb;exact hb)),Kv (w:=x) hrx (by
  rw[show (⟨x,E.K,vW ms s.bx E ns,(qB ms E ns).ρ,NB,none,x.heap.size,[]⟩:Origin)=⟨x,E.K,vW ms s.bx E ns,(qB ms E ns).ρ,NB,none,w.heap.size,[]⟩ from by rw[ht.size]];exact hwi') QC hm hv',fun b m hb=>?_,fun b hb qf=>?_⟩
 ·unfold ED at hb;split at hb
  ·rename_i m' hm';injection hb with hb;subst hb
   exact hmo' b m' hm'
  ·split at hb
   ·cases hb
   ·rename_i h0;have fz:M0 b=none:=oA;have QC:=q3 b m hb;refine QC.keep1 (K':=E'.K) F8 (keep b QC.like h0) fun c hc hlc=>keep c hlc ?_;rw[r9 b m hb fz c hc];simp
 ·unfold ED at hb;split at hb
  ·grind
  ·grind
def ECalls.of_maps{R:D->vT->Prop}(h:MCalls P f ds H noMap (fun r H' _=>R r H')):ECalls P f ds H R:=by
 refine⟨h.1,fun w E F vs aM hl hv=>(h.2 w E F vs aM (O9 P w E.K) hl hv).mono ?_⟩;rintro e w' ⟨v,E',r,H',M',x,rfl,hQ,ht,hwi',hv',hmo',hdom⟩;refine⟨v,E',r,H',rfl,hQ,?_,hv'⟩;have hx: ∀b,x.heap[b]? =w.heap[b]? :=fun b=>(ht.block b).resolve_right fun g=>by have:=g.1;cases this
 refine⟨⟨hwi'.turn.os.trans ht.os,hwi'.turn.tape.trans ht.tape,hwi'.turn.output.trans ht.output,by have:=hwi'.turn.size;simp only at this;rw[ht.size]at this;exact this,fun b hb=>?_⟩,hwi'.sep,hwi'.kin,fun b o hb hF hk=>hwi'.kold b o (by simp only;rw[ht.size];exact hb) hF hk,hwi'.kok,fun n rows hn qH=>?_,hwi'.boxne,fun n b o hs=>?_,hwi'.disj,hwi'.sbox,hwi'.fix⟩
 ·rw[<-hx b];exact hwi'.turn.block b (by simp only;rw[ht.size];exact hb)
 ·obtain⟨h1,h2,h3⟩:=hwi'.boxes n rows hn qH;exact⟨h1.imp (fun g=>by simp only at g;rw[ht.size]at g;exact g) id,h2,h3⟩
 ·obtain⟨h1,h2,h3⟩:=hwi'.free n b o hs;exact⟨h1.imp (fun g=>by simp only at g;rw[ht.size]at g;exact g) id,h2,h3⟩
def DCalls.of_maps(h:MCalls P f ds qA noMap (fun r' _ _=>r'=r)):DCalls P f ds r:=ECalls.pure (ECalls.of_maps h)
def qbg{α σ:Type}{c:Code}{s:DS}{M:MS}{Q:ah->DS->MS->Prop}(xs:List α)(S:Nat->σ->DS)(MM:Nat->σ->MS)(Inv:Nat->σ->Prop)(sD:σ)(qi:xs.length<=maxLen)(h0:s.Sub (S 0 sD))(hM:M=MM 0 sD)(hi:Inv 0 sD)
  (body: ∀k x st,xs[k]? =some x->k<xs.length->x∈xs->xs.take (k+1)=xs.take k++[x]->decide ((k:Int)<(xs.length:Int))=true->aD .i64 ((k:Int)+1)=((k+1:Nat):Int)->Inv k st->
   MW P c (S k st) (MM k st) (fE (fun s' M'=>∃st',Inv (k+1) st'/\s'.Sub (S (k+1) st')/\M'=MM (k+1) st') Q))
  (done: ∀st,decide ((xs.length:Int)<(xs.length:Int))=false->Inv xs.length st->MW P c (S xs.length st) (MM xs.length st) (fE (fun _ _=>False) Q)):MW P (.loop c) s M Q:=by
 refine U6 (fun y:Nat×σ=>S y.1 y.2) (fun y=>MM y.1 y.2) (fun y=>y.1<=xs.length/\Inv y.1 y.2) (fun y=>xs.length - y.1) (0,sD) h0 hM ⟨wM _,hi⟩ ?_;rintro⟨k,st⟩ ⟨hk,hi⟩;rcases yD k xs.length with qf|dC
 ·have hx:xs[k]? =some xs[k]:=by simp
  refine(body k _ st hx qf (yd qf) (zy hx) (by simpa using qf) (zx k (by simp only at hk;omega)) hi).mono ?_;intro e s' M' h;cases e<;>first|exact h|skip
  obtain⟨st',h1,h2,h3⟩:=h;exact⟨(k+1,st'),⟨oz,h1⟩,oz,h2,h3⟩
 ·grind
def qbi{id:Nat}{l:List aa}{s:DS}{M:MS}{Q:ah->DS->MS->Prop}{N:Nat}{l':List (Mode×aa)}(pl:List (Nat×Mode))(hm:P.follows .mixedOrders=true)(hn:s.n=N)(hc:eY l N pl=true)(hp:Picks l pl l')
  (h:wk P (l.map (·.dst)) l' s (fun s'=>Q .normal s' M)):MW P (.region id l.toArray true) s M Q:=XL (CD pl hm hn hc hp h)
end
theorem BK(next:DS->MS->Prop)(Q:ah->DS->MS->Prop)(s:DS)(M:MS):fE next Q .normal s M=next s M:=rfl
theorem J8(next:DS->MS->Prop)(Q:ah->DS->MS->Prop)(s:DS)(M:MS):fE next Q .ret s M=Q .ret s M:=rfl
theorem Gw(next:DS->MS->Prop)(Q:ah->DS->MS->Prop)(i:Nat)(s:DS)(M:MS):fE next Q (.exit i) s M=Q (.exit i) s M:=rfl
theorem rY(id:Nat)(Q:ah->DS->MS->Prop)(s:DS)(M:MS):ZR id Q .normal s M=Q .normal s M:=rfl
theorem Ch(id:Nat)(Q:ah->DS->MS->Prop)(s:DS)(M:MS):ZR id Q .ret s M=Q .ret s M:=rfl
theorem xX(id i:Nat)(Q:ah->DS->MS->Prop)(s:DS)(M:MS):ZR id Q (.exit i) s M=if i=id then Q .normal s M else Q (.exit i) s M:=rfl
theorem Tt(P:Program)(ops:List aa)(s:DS)(M:MS)(K:DS->MS->Prop):zg P ops [] s M K=K s M:=rfl
attribute [go_sem ↓] Tt BK J8 Gw rY Ch xX
def qfm:Op->Bool
 | .call ⟨.value _,_,_⟩=>true
 | .lookup _ _ _ _=>true
 | .makeMap _ _=>true
 | .mapUpdate _ _ _ _=>true
 | .buildSlice _ 0 _=>true
 | _=>false
def Z0(P:Program)(ds:List (Option Nat)):List aa->DS->MS->(DS->MS->Prop)->Prop
 | [],s,M,K=>K s M
 | o::l,s,M,K=>match qfm o.op with
  | false=>wk P ds [(.step,o)] s (fun s'=>Z0 P ds l s' M K)
  | true=>match o.guard with
   | none=>StepM P { o with guard:=none } s M (fun s' M'=>Z0 P ds l s' M' K)
   | some (j,want)=>du (gV ds[j]? s.sl want) (StepM P { o with guard:=none } s M (fun s' M'=>Z0 P ds l s' M' K)) (Z0 P ds l (s.put o.dst (.tup [])) M K)
def gSM{K:DS->MS->Prop}{K':DS->Prop}(h:vc P ops o s K')(hk: ∀s',K' s'->K s' M):cW P ops o s M K:=by
 simp only[vc]at h;simp only[cW];split at h
 ·split at h
  ·rename_i t ht h3;simp only[ht,ae h3];exact StepM.of (h.mono fun s' _ hs'=>hk s' hs')
  ·grind
 ·grind
def s8{P:Program}{ops:List aa}{K:DS->MS->Prop}: ∀(l:List aa) (s:DS) (M:MS),Z0 P (ops.map (·.dst)) l s M K->zg P ops l s M K
 | [],_,_,h=>h
 | o::l,s,M,h=>by
  unfold Z0 at h;split at h
  ·have h1:Qb P ops [o] s _:=zA (ops:=ops) [o] s h;exact gSM h1 fun s' h'=>s8 l s' M h'
  ·split at h
   ·rename_i hg;exact Dh hg (StepM.mono (show StepM P o s M _ from h) fun s' M' _ h'=>s8 l s' M' h')
   ·rename_i j want hg;cases hv:gV (ops.map (·.dst))[j]? s.sl want with
    | none=>rw[hv]at h;exact h.elim
    | some b=>
     rw[hv]at h;exact JX (Yo hg hv) (fun e=>StepM.mono (show StepM P o s M _ from h.1 e) fun s' M' _ h'=>s8 l s' M' h') (fun e=>s8 l _ M (h.2 e))
def nN(P:Program)(ds:List (Option Nat))(l:List aa)(M:MS)(K:DS->MS->Prop):DS->Prop:=fun s=>Z0 P ds l s M K
def Ix(P:Program)(o:aa)(s:DS)(ds:List (Option Nat))(l:List aa)(M:MS)(K:DS->MS->Prop):Prop:=StepM P { o with guard:=none } s M (fun s' M'=>Z0 P ds l s' M' K)
def CallM(P:Program)(o:aa)(F:D)(A:List D)(s:DS)(dst:Option Nat)(ds:List (Option Nat))(l:List aa)(M:MS)(K:DS->MS->Prop):Prop:=CallC .step P o F A s dst ds [] (nN P ds l M K)\/Ix P o s ds l M K
def lK(b:Option Bool)(P:Program)(ds:List (Option Nat))(dst:Option Nat)(op:Op)(ty:j8)(pos:String)(aft:Array Edge)(l:List aa)(s:DS)(M:MS)(K:DS->MS->Prop):Prop:=du b (Z0 P ds (⟨dst,op,ty,pos,aft,none⟩::l) s M K) (Z0 P ds l (s.put dst (.tup [])) M K)
section
variable {P:Program} {ds:List (Option Nat)} {l:List aa} {s:DS} {M:MS} {K:DS->MS->Prop} {dst:Option Nat} {ty:j8} {pos:String} {aft:Array Edge} {g:Option (Nat×Bool)}
theorem YZ:Z0 P ds [] s M K=K s M:=rfl
theorem qe8:nN P ds l M K s=Z0 P ds l s M K:=rfl
theorem TI(x:j9):Z0 P ds (⟨dst,.move x,ty,pos,aft,g⟩::l) s M K=wk P ds [(.step,⟨dst,.move x,ty,pos,aft,g⟩)] s (nN P ds l M K):=rfl
theorem J0(x:j9):Z0 P ds (⟨dst,.assign x,ty,pos,aft,g⟩::l) s M K=wk P ds [(.step,⟨dst,.assign x,ty,pos,aft,g⟩)] s (nN P ds l M K):=rfl
theorem TH(c a b:j9):Z0 P ds (⟨dst,.pick c a b,ty,pos,aft,g⟩::l) s M K=wk P ds [(.step,⟨dst,.pick c a b,ty,pos,aft,g⟩)] s (nN P ds l M K):=rfl
theorem TJ(t:j8)(x:j9):Z0 P ds (⟨dst,.load t x,ty,pos,aft,g⟩::l) s M K=wk P ds [(.step,⟨dst,.load t x,ty,pos,aft,g⟩)] s (nN P ds l M K):=rfl
theorem Nl(t:j8)(p:Array (Nat×j9)):Z0 P ds (⟨dst,.build t p,ty,pos,aft,g⟩::l) s M K=wk P ds [(.step,⟨dst,.build t p,ty,pos,aft,g⟩)] s (nN P ds l M K):=rfl
theorem xN(t:j8)(n:Nat)(p:Array (Nat×j9)):Z0 P ds (⟨dst,.buildSlice t (n+1) p,ty,pos,aft,g⟩::l) s M K=wk P ds [(.step,⟨dst,.buildSlice t (n+1) p,ty,pos,aft,g⟩)] s (nN P ds l M K):=rfl
theorem Nm(op:BinOp)(t:j8)(x y:j9)(t':j8):Z0 P ds (⟨dst,.binOp op t x y t',ty,pos,aft,g⟩::l) s M K=wk P ds [(.step,⟨dst,.binOp op t x y t',ty,pos,aft,g⟩)] s (nN P ds l M K):=rfl
theorem TG(op:UnOp)(t:j8)(x:j9):Z0 P ds (⟨dst,.unOp op t x,ty,pos,aft,g⟩::l) s M K=wk P ds [(.step,⟨dst,.unOp op t x,ty,pos,aft,g⟩)] s (nN P ds l M K):=rfl
theorem Gl(a b:j8)(x:j9):Z0 P ds (⟨dst,.convert a b x,ty,pos,aft,g⟩::l) s M K=wk P ds [(.step,⟨dst,.convert a b x,ty,pos,aft,g⟩)] s (nN P ds l M K):=rfl
theorem Ni(t:j8)(x i:j9):Z0 P ds (⟨dst,.index t x i,ty,pos,aft,g⟩::l) s M K=wk P ds [(.step,⟨dst,.index t x i,ty,pos,aft,g⟩)] s (nN P ds l M K):=rfl
theorem BF(t:j8)(x:j9)(f:Nat):Z0 P ds (⟨dst,.fieldAddr t x f,ty,pos,aft,g⟩::l) s M K=wk P ds [(.step,⟨dst,.fieldAddr t x f,ty,pos,aft,g⟩)] s (nN P ds l M K):=rfl
theorem Nj(t:j8)(x:j9)(f:Nat):Z0 P ds (⟨dst,.field t x f,ty,pos,aft,g⟩::l) s M K=wk P ds [(.step,⟨dst,.field t x f,ty,pos,aft,g⟩)] s (nN P ds l M K):=rfl
theorem BE(t:j8)(x i:j9):Z0 P ds (⟨dst,.indexAddr t x i,ty,pos,aft,g⟩::l) s M K=wk P ds [(.step,⟨dst,.indexAddr t x i,ty,pos,aft,g⟩)] s (nN P ds l M K):=rfl
theorem Nh(t:j8)(x:j9)(lo hi mx:Option j9):Z0 P ds (⟨dst,.slice t x lo hi mx,ty,pos,aft,g⟩::l) s M K=wk P ds [(.step,⟨dst,.slice t x lo hi mx,ty,pos,aft,g⟩)] s (nN P ds l M K):=rfl
theorem Gk(x:j9)(i:Nat):Z0 P ds (⟨dst,.extract x i,ty,pos,aft,g⟩::l) s M K=wk P ds [(.step,⟨dst,.extract x i,ty,pos,aft,g⟩)] s (nN P ds l M K):=rfl
theorem Dt(x:j9):Z0 P ds (⟨dst,.nilCheck x,ty,pos,aft,g⟩::l) s M K=wk P ds [(.step,⟨dst,.nilCheck x,ty,pos,aft,g⟩)] s (nN P ds l M K):=rfl
theorem Nn(t:j8):Z0 P ds (⟨dst,.alloc t,ty,pos,aft,g⟩::l) s M K=wk P ds [(.step,⟨dst,.alloc t,ty,pos,aft,g⟩)] s (nN P ds l M K):=rfl
theorem Y0(t:j8)(x:j9):Z0 P ds (⟨dst,.box t x,ty,pos,aft,g⟩::l) s M K=wk P ds [(.step,⟨dst,.box t x,ty,pos,aft,g⟩)] s (nN P ds l M K):=rfl
theorem Ng(t:j8)(x v:j9):Z0 P ds (⟨dst,.store t x v,ty,pos,aft,g⟩::l) s M K=wk P ds [(.step,⟨dst,.store t x v,ty,pos,aft,g⟩)] s (nN P ds l M K):=rfl
theorem Gm(b:Builtin)(av:Array j9)(vy:Array j8):Z0 P ds (⟨dst,.call ⟨.builtin b,av,vy⟩,ty,pos,aft,g⟩::l) s M K=wk P ds [(.step,⟨dst,.call ⟨.builtin b,av,vy⟩,ty,pos,aft,g⟩)] s (nN P ds l M K):=rfl
theorem Du(f:Fn)(xs cs:Array j9):Z0 P ds (⟨dst,.makeFunc f xs cs,ty,pos,aft,g⟩::l) s M K=wk P ds [(.step,⟨dst,.makeFunc f xs cs,ty,pos,aft,g⟩)] s (nN P ds l M K):=rfl
variable {o:aa} {b:Bool} {j:Nat} {f m x y:j9} {av:List j9} {vy:Array j8} {t:j8} {op:Op} {A es:List D} {F r:D} {fn:am} {caps:List C}
def TK:Z0 P ds (⟨dst,.call ⟨.value f,av.toArray,vy⟩,ty,pos,aft,none⟩::l) s M K=CallM P ⟨dst,.call ⟨.value f,av.toArray,vy⟩,ty,pos,aft,none⟩ (s.ev f) (av.map s.ev) s dst ds l M K:=
 propext ⟨.inr,fun h=>h.elim (fun h=>by
  have h1:wk P ds [(.step,⟨dst,.call ⟨.value f,av.toArray,vy⟩,ty,pos,aft,none⟩)] s (nN P ds l M K):=by rw[IC];exact h
  have h2:OpIs P ⟨dst,.call ⟨.value f,av.toArray,vy⟩,ty,pos,aft,none⟩ s (fun s'=>wk P ds [] s' (nN P ds l M K)) .step:=ud h1;cases h2 with|step h=>exact StepM.of h) id⟩
theorem BG{p:Array (Nat×j9)}:Z0 P ds (⟨dst,.buildSlice t 0 p,ty,pos,aft,none⟩::l) s M K=Ix P ⟨dst,.buildSlice t 0 p,ty,pos,aft,none⟩ s ds l M K:=rfl
theorem JZ:Z0 P ds (⟨dst,.lookup t m x b,ty,pos,aft,none⟩::l) s M K=Ix P ⟨dst,.lookup t m x b,ty,pos,aft,none⟩ s ds l M K:=rfl
theorem Gj{z:Option j9}:Z0 P ds (⟨dst,.makeMap t z,ty,pos,aft,none⟩::l) s M K=Ix P ⟨dst,.makeMap t z,ty,pos,aft,none⟩ s ds l M K:=rfl
theorem BD:Z0 P ds (⟨dst,.mapUpdate t m x y,ty,pos,aft,none⟩::l) s M K=Ix P ⟨dst,.mapUpdate t m x y,ty,pos,aft,none⟩ s ds l M K:=rfl
theorem Nk:Z0 P ds (⟨dst,.call ⟨.value f,av.toArray,vy⟩,ty,pos,aft,some (j,b)⟩::l) s M K=lK (gV ds[j]? s.sl b) P ds dst (.call ⟨.value f,av.toArray,vy⟩) ty pos aft l s M K:=rfl
def Rk:lK (some true) P ds dst op ty pos aft l s M K=Z0 P ds (⟨dst,op,ty,pos,aft,none⟩::l) s M K:=by simp[lK,du]
def Rl:lK (some false) P ds dst op ty pos aft l s M K=Z0 P ds l (s.put dst (.tup [])) M K:=by simp[lK,du]
def lZ(h1:b=true->Z0 P ds (⟨dst,op,ty,pos,aft,none⟩::l) s M K)(h2:b=false->Z0 P ds l (s.put dst (.tup [])) M K):lK (some b) P ds dst op ty pos aft l s M K:=⟨h1,h2⟩
def l6(h1:b=true->Z0 P ds l (s.put dst (.tup [])) M K)(h2:b=false->Z0 P ds (⟨dst,op,ty,pos,aft,none⟩::l) s M K):lK (some (!b)) P ds dst op ty pos aft l s M K:=⟨fun e=>h2 (by simpa using e),fun e=>h1 (by simpa using e)⟩
def oQ(h:wk P ds [(.step,o)] s (nN P ds l M K))(hg:o.guard=none:=by rfl):Ix P o s ds l M K:=by
 have h1:MA .step P o s (fun s'=>wk P ds [] s' (nN P ds l M K)):=by unfold wk at h;rw[hg]at h;exact h
 cases ud h1 with|step h=>exact StepM.of h
def cM(h:CallC .step P o F A s dst ds [] (nN P ds l M K)):CallM P o F A s dst ds l M K:=.inl h
def mM(h:StepM P { o with guard:=none } s M (fun s' M'=>Z0 P ds l s' M' K)):CallM P o F A s dst ds l M K:=.inr h
def oM(h:StepM P { o with guard:=none } s M (fun s' M'=>Z0 P ds l s' M' K)):Ix P o s ds l M K:=h
def kqM(hk:Z0 P ds l (zI s dst r) M K)(hc:DCalls P fn es r:=by assumption)(vh:LeL (A.map D.cl++caps.map fun c=>D.one (.c c)) es:=by exact LeL.of_eq rfl):CallM P o (.one (.c (.fn fn caps))) A s dst ds l M K:=.inl (kx hc hk vh rfl)
end
attribute [go_sem ↓] YZ BG qe8 TK JZ Gj BD Nk TI J0 TH TJ Nl xN Nm TG Gl Ni BF Nj BE Nh Gk Dt Nn Y0 Ng Gm Du
attribute [go_sem] Rk Rl
def XM(P:Program)(N:Nat)(pl:Nat->List (Nat×Mode)):Code->(ah->DS->MS->Prop)->DS->MS->Prop
 | .skip,K,s,M=>K .normal s M
 | .region id ops draw,K,s,M=>match draw with
  | false=>s.n=N/\Z0 P (ops.toList.map (·.dst)) ops.toList s M (K .normal)
  | true=>MW P (.region id ops true) s M K
 | .seq a b,K,s,M=>XM P N pl a (fE (fun s' M'=>XM P N pl b K s' M') K) s M
 | .cond c a b,K,s,M=>fk (s.ev c) (XM P N pl a K s M) (XM P N pl b K s M)
 | .block id a,K,s,M=>XM P N pl a (ZR id K) s M
 | .exit id,K,s,M=>K (.exit id) s M
 | .ret,K,s,M=>K .ret s M
 | .label l,K,s,M=>MW P (.label l) s M K
 | .goto l,K,s,M=>MW P (.goto l) s M K
 | .loop c,K,s,M=>MW P (.loop c) s M K
 | .scope c,K,s,M=>MW P (.scope c) s M K
 | .rangeFunc f p a b,K,s,M=>MW P (.rangeFunc f p a b) s M K
 | .refuse w,K,s,M=>MW P (.refuse w) s M K
def rQ{P:Program}{N:Nat}{pl:Nat->List (Nat×Mode)}: ∀(c:Code) (K:ah->DS->MS->Prop) (s:DS) (M:MS),rO N c=true->XM P N pl c K s M->MW P c s M K
 | .skip,K,s,M,_,h=>U5 h
 | .region id ops draw,K,s,M,hc,h=>by
  cases draw with
  | true=>exact h
  | false=>exact K8 (l:=ops.toList) h.1 hc (s8 _ _ _ h.2)
 | .seq a b,K,s,M,hc,h=>by
  simp only[rO,we]at hc;refine qbf ((rQ a _ s M hc.1 h).mono fun e s' M' h'=>?_);cases e with
  | normal=>exact rQ b K s' M' hc.2 h'
  | _=>exact h'
 | .cond c a b,K,s,M,hc,h=>by
  simp only[rO,we]at hc;obtain⟨t,h1,h2,h3⟩:=h;exact U8 h1 (fun e=>rQ a K s M hc.1 (h2 e)) (fun e=>rQ b K s M hc.2 (h3 e))
 | .block id a,K,s,M,hc,h=>O6 (rQ a _ s M hc h)
 | .exit id,K,s,M,_,h=>U7 h
 | .ret,K,s,M,_,h=>qbh h
 | .label l,K,s,M,_,h=>h
 | .goto l,K,s,M,_,h=>h
 | .loop c,K,s,M,_,h=>h
 | .scope c,K,s,M,_,h=>h
 | .rangeFunc f p a b,K,s,M,_,h=>h
 | .refuse w,K,s,M,_,h=>h
def nM(K:ah->DS->MS->Prop)(M:MS):DS->Prop:=fun s=>K .normal s M
def nK(K:ah->DS->MS->Prop):DS->MS->Prop:=fun s M=>K .normal s M
def TV(P:Program)(N:Nat)(pl:Nat->List (Nat×Mode))(b:Code)(K:ah->DS->MS->Prop):ah->DS->MS->Prop:=fE (fun s M=>XM P N pl b K s M) K
def H9(P:Program)(N:Nat)(pl:Nat->List (Nat×Mode))(d:D)(a b:Code)(K:ah->DS->MS->Prop)(s:DS)(M:MS):Prop:=fk d (XM P N pl a K s M) (XM P N pl b K s M)
section
variable {P:Program} {N:Nat} {pl:Nat->List (Nat×Mode)} {a b:Code} {K:ah->DS->MS->Prop} {s:DS} {M:MS}
theorem WS:XM P N pl .skip K s M=K .normal s M:=rfl
theorem qdu{id:Nat}:XM P N pl (.region id l.toArray false) K s M=(s.n=N/\Z0 P (l.map (·.dst)) l s M (nK K)):=rfl
theorem qds:XM P N pl (.seq a b) K s M=XM P N pl a (TV P N pl b K) s M:=rfl
theorem WU{c:j9}:XM P N pl (.cond c a b) K s M=H9 P N pl (s.ev c) a b K s M:=rfl
theorem qdv{id:Nat}:XM P N pl (.block id a) K s M=XM P N pl a (ZR id K) s M:=rfl
theorem WT{id:Nat}:XM P N pl (.exit id) K s M=K (.exit id) s M:=rfl
theorem qdt:XM P N pl .ret K s M=K .ret s M:=rfl
theorem qgK:nM K M s=K .normal s M:=rfl
theorem qgL:nK K s M=K .normal s M:=rfl
theorem qaj:TV P N pl b K .normal s M=XM P N pl b K s M:=rfl
theorem qai:TV P N pl b K .ret s M=K .ret s M:=rfl
theorem qak:TV P N pl b K (.exit i) s M=K (.exit i) s M:=rfl
def qcZ:H9 P N pl (.one (.c (.lit (.bool true)))) a b K s M=XM P N pl a K s M:=by simp only[H9,Qw,sS]
def qc0:H9 P N pl (.one (.c (.lit (.bool false)))) a b K s M=XM P N pl b K s M:=by simp only[H9,Qw,sT]
def lX(h1:t=true->XM P N pl a K s M)(h2:t=false->XM P N pl b K s M):H9 P N pl (.one (.c (.lit (.bool t)))) a b K s M:=by simp only[H9,Qw];exact⟨h1,h2⟩
def qdD{id:Nat}{l:List aa}{l':List (Mode×aa)}(h:wk P (l.map (·.dst)) l' s (nM K M))(h0:(pl id).isEmpty=false:=by rfl)(hm:P.follows .mixedOrders=true:=by kernel_rfl)(hn:s.n=N:=by rfl)
  (hc:eY l N (pl id)=true:=by kernel_rfl) (hp:Picks l (pl id) l':=by repeat(first|exact Picks.nil|(apply Picks.cons;rfl))):XM P N pl (.region id l.toArray true) K s M:=qbi (pl id) hm hn hc hp h
end
attribute [go_sem ↓] WS qdu qds WU qdv WT qdt qgK qgL qaj qai qak
attribute [go_sem] qcZ qc0
def qcA(P:Program)(rs:List ResultVar)(R:D->vT->MS->Prop):ah->DS->MS->Prop
 | .normal,s,M=>∃r,Zs P s rs=some r/\R r s.bx M
 | .ret,s,M=>∃r,Zs P s rs=some r/\R r s.bx M
 | _,_,_=>False
theorem qcz(P:Program)(rs:List ResultVar)(R:D->vT->MS->Prop)(s:DS)(M:MS):qcA P rs R .normal s M=∃r,Zs P s rs=some r/\R r s.bx M:=rfl
theorem qcy(P:Program)(rs:List ResultVar)(R:D->vT->MS->Prop)(s:DS)(M:MS):qcA P rs R .ret s M=∃r,Zs P s rs=some r/\R r s.bx M:=rfl
attribute [go_sem ↓] qcz qcy
def mX{P:Program}{f:am}{fn:Func}{c:Code}{ds:List D}{R:D->vT->MS->Prop}{N:Nat}{rs:List ResultVar}{H:vT}{M:MS}(pl:Nat->List (Nat×Mode))
  (hf:P.funcs[f]? =some fn) (h:XM P N pl c (qcA P rs R) (zZ N ds H) M) (hp:Program.plainF P f=true:=by kernel_rfl)
  (hb:fn.body=some c:=by rfl) (hN:fn.ntmps=N:=by rfl) (eL:fn.results.toList=rs:=by rfl) (hn:(decide (ds.length<=N)&&decide (N<=100000))=true:=by simp) (hc:rO N c=true:=by kernel_rfl):MCalls P f ds H M R:=
 qbm hp hf hb hN eL hn ((rQ c _ _ _ hc h).mono fun e s' M' h'=>by
  cases e with
  | normal=>exact⟨.inl rfl,h'⟩
  | ret=>exact⟨.inr rfl,h'⟩
  | _=>exact h'.elim)
section
variable {P:Program} {N:Nat} {pl:Nat->List (Nat×Mode)} {K:ah->DS->MS->Prop} {s:DS} {M:MS} {c:Code} {base:List (Nat×D)} {bb:List (Nat×Rows)}
def XO{α σ:Type}(xs:List α)(ks bs:List Nat)(ch:Nat->σ->List (Nat×D))(cB:Nat->σ->List (Nat×Rows))(MM:Nat->σ->MS)(Inv:Nat->σ->Prop)(y0:σ)(hM:M=MM 0 y0)(hi0:Inv 0 y0)
  (body: ∀k x y,xs[k]? =some x->k<xs.length->x∈xs->xs.take (k+1)=xs.take k++[x]->decide ((k:Int)<(xs.length:Int))=true->aD .i64 ((k:Int)+1)=((k+1:Nat):Int)->Inv k y->
   XM P N pl c (fE (fun s' M'=>∃y',Inv (k+1) y'/\s'.Sub (kn N (ch (k+1) y'++base) (ml (cB (k+1) y'++bb)))/\M'=MM (k+1) y') K) (kn N (ch k y++base) (ml (cB k y++bb))) (MM k y))
  (done: ∀y,decide ((xs.length:Int)<(xs.length:Int))=false->Inv xs.length y->XM P N pl c (fE (fun _ _=>False) K) (kn N (ch xs.length y++base) (ml (cB xs.length y++bb))) (MM xs.length y))
  (h0:AllS s (ch 0 y0):=by simp +decide only[go_sem]) (hb0:AllB s (cB 0 y0):=by simp +decide only[go_sem]) (hb:cU s ks=base:=by first|rfl|(simp +decide only[go_sem];rfl))
  (uO:fX s bs=some bb:=by first|rfl|(simp +decide only[go_sem];rfl)) (hn:s.n=N:=by rfl) (qi:xs.length<=maxLen:=by omega) (hc:rO N c=true:=by kernel_rfl):XM P N pl (.loop c) K s M:=by
 subst hb;refine qbg xs (fun k y=>kn N (ch k y++cU s ks) (ml (cB k y++bb))) MM Inv y0 qi (qw hn (h0.app (dO s ks)) (hb0.app (dP s bs bb uO))) hM hi0 ?_ ?_
 ·exact fun k x y h1 h2 h3 h4 h5 h6 h7=>rQ c _ _ _ hc (body k x y h1 h2 h3 h4 h5 h6 h7)
 ·exact fun y h1 h2=>rQ c _ _ _ hc (done y h1 h2)
end
def AllM(bx:vT):List (Nat×Rows)->Prop
 | []=>True
 | (m,ts)::r=>bx m=some ts/\AllM bx r
theorem ee(bx:vT):AllM bx []=True:=rfl
theorem bX(bx:vT)(m:Nat)(ts:Rows)(r:List (Nat×Rows)):AllM bx ((m,ts)::r)=(bx m=some ts/\AllM bx r):=rfl
attribute [go_sem] ee bX
def AllM.get{bx:vT}: ∀{l:List (Nat×Rows)},AllM bx l->∀k r,ml l k=some r->bx k=some r
 | [],_,k,r,h=>by cases h
 | (u,d)::l,h,k,r,hr=>by
  rw[B6]at hr;split at hr
  ·rename_i ht;subst ht;rw[<-hr];exact h.1
  ·exact AllM.get h.2 k r hr
def uj(M M':MS):ED M M M'=M':=by
 funext k;simp only[ED];split
 ·grind
 ·simp_all
def I3(h: ∀n∈ns,n≠1000)(h2: ∀x,dst=some x->x∉ns/\x<1000):CallOkM vJ ns dst:=⟨fun n hn=>by rw[cT];exact h n hn,h2⟩
section
variable {P:Program} {s:DS} {dst:Option Nat} {ds:List (Option Nat)} {l:List (Mode×aa)} {lo:List aa} {K:DS->Prop} {KM:DS->MS->Prop} {M:MS} {g:am} {es:List D} {caps:List T} {ty:j8} {pos:String} {aft:Array Edge} {f:j9} {av:List j9} {vy:Array j8} {Fd:D} {A:List D} {Hl:List (Nat×Rows)}
def Vm{R:D->vT->Prop}(ns:List Nat)(hk: ∀r H',R r H'->wk P ds l (s.aftCallM vJ ns dst r H') K)(hc:ECalls P g es (ml Hl) R:=by assumption)(hf:(s.ev f).asFn=some (g,caps):=by first|rfl|(simp +decide only[go_sem];done))
  (vh:(av.map s.ev++caps.map D.one).map (D.tr (ZK vJ ns))=es:=by(simp +decide only[go_sem, *];done)) (hH:AllM (vv vJ s.bx ns) Hl:=by(simp +decide only[go_sem, *];done))
  (h1: ∀n∈ns,n≠1000:=by have:=qX;simp only[wJ,w9,ax,forall_eq_or_imp,forall_eq];omega) (h2: ∀x,dst=some x->x∉ns/\x<1000:=by have:=qX;intro x hx;injection hx with hx;subst hx;simp only[wJ,w9,ax];omega):
  CallC .step P ⟨dst,.call ⟨.value f,av.toArray,vy⟩,ty,pos,aft,none⟩ Fd A s dst ds l K:=CallC.step (Step.callM (K:=fun s'=>wk P ds l s' K) vJ rfl hf (DLeL.of_eq vh) hc hH.get (I3 h1 h2) hk)
def qfw{R:D->vT->MS->Prop}(ns:List Nat)(hk: ∀r H' M',R r H' M'->Z0 P ds lo (s.aftCallM vJ ns dst r H') M' KM)(hc:MCalls P g es (ml Hl) M R:=by assumption)(hf:(s.ev f).asFn=some (g,caps):=by first|rfl|(simp +decide only[go_sem];done))
  (vh:(av.map s.ev++caps.map D.one).map (D.tr (ZK vJ ns))=es:=by(simp +decide only[go_sem, *];done)) (hH:AllM (vv vJ s.bx ns) Hl:=by(simp +decide only[go_sem, *];done))
  (h1: ∀n∈ns,n≠1000:=by have:=qX;simp only[wJ,w9,ax,forall_eq_or_imp,forall_eq];omega) (h2: ∀x,dst=some x->x∉ns/\x<1000:=by have:=qX;intro x hx;injection hx with hx;subst hx;simp only[wJ,w9,ax];omega):
  CallM P ⟨dst,.call ⟨.value f,av.toArray,vy⟩,ty,pos,aft,none⟩ Fd A s dst ds lo M KM:=
 mM (StepM.callM (K:=fun s' M'=>Z0 P ds lo s' M' KM) vJ rfl hc hf (DLeL.of_eq vh) hH.get (I3 h1 h2) (fun _ _ h=>h) (fun r m h h0=>by rw[h]at h0;cases h0) fun r H' M' hR _=>by rw[uj];exact hk r H' M' hR)
def qgS{R:D->vT->MS->Prop}(ns:List Nat)(hk: ∀r H' M',R r H' M'->Z0 P ds lo (s.aftCallM vJ ns dst r H') M' KM)(hc:MCalls P g es (ml Hl) M R:=by assumption)(hf:(s.ev f).asFn=some (g,caps):=by first|rfl|(simp +decide only[go_sem];done))
  (vh:DLeL ((av.map s.ev++caps.map D.one).map (D.tr (ZK vJ ns))) es) (hH:AllM (vv vJ s.bx ns) Hl:=by(simp +decide only[go_sem, *];done))
  (h1: ∀n∈ns,n≠1000:=by have:=qX;simp only[wJ,w9,ax,forall_eq_or_imp,forall_eq];omega) (h2: ∀x,dst=some x->x∉ns/\x<1000:=by have:=qX;intro x hx;injection hx with hx;subst hx;simp only[wJ,w9,ax];omega):
  CallM P ⟨dst,.call ⟨.value f,av.toArray,vy⟩,ty,pos,aft,none⟩ Fd A s dst ds lo M KM:=
 mM (StepM.callM (K:=fun s' M'=>Z0 P ds lo s' M' KM) vJ rfl hc hf vh hH.get (I3 h1 h2) (fun _ _ h=>h) (fun r m h h0=>by rw[h]at h0;cases h0) fun r H' M' hR _=>by rw[uj];exact hk r H' M' hR)
end
def SR(s:DS):List (Nat×D)->Prop
 | []=>True
 | (t,d)::r=>s.sl t=d/\SR s r
theorem WY(s:DS):SR s []=True:=rfl
theorem SQ(s:DS)(t:Nat)(d:D)(r:List (Nat×D)):SR s ((t,d)::r)=(s.sl t=d/\SR s r):=rfl
attribute [go_sem] WY SQ
section
variable {P:Program} {N:Nat} {pl:Nat->List (Nat×Mode)} {K:ah->DS->Prop} {s:DS} {c b:Code}
def xbk{α:Type}{id:Nat}(sls:α->List (Nat×D))(bxs:α->List (Nat×Rows))(F:α->Prop)(h1:X P N pl (.loop c) (fun e s'=>e= .exit id/\∃y,F y/\s'.n=N/\SR s' (sls y)/\AllB s' (bxs y)) s)
  (h2: ∀y,F y->∀s',s'.n=N->SR s' (sls y)->AllB s' (bxs y)->X P N pl b K s'):X P N pl (.loop c) (zo id (qdF P N pl b K)) s:=
 DW.mono h1 fun e s' ⟨he,y,h3,h4,h5,h6⟩=>by subst he;have:=h2 y h3 s' h4 h5 h6;simpa only[zo,an,qdF,vP]using this
def xsd{id:Nat}(hs:s.Sub s')(h:X P N pl (.region id l.toArray true) K s'):X P N pl (.region id l.toArray true) K s:=qn hs h
end
def qgf(P:Program)(g:am)(vs:Array j6)(xs:List (List D))(K:qM)(p:Nat)(w:j5):Prop:=
 ∀(l:Nat) (J:Option Nat->j5->qM->Prop),l<w.heap.size->lV w.heap.size J->
  (∀k A B L e u v,J (some k) A L->RowSet A B p e #[u] #[v]->v.oneCell'=true->J (some k) B L)->
  (∀(k:Nat) ds W L (va:Array j6),xs[k]? =some ds->J (some k) W L->w.heap.size<=W.heap.size->va.size=ds.length->(∀(j:Nat) d v,ds[j]? =some d->va[j]? =some v->VD W (E0 L) d v)->
   YieldAt ya 0 P l va W fun e W'=>∃b,e= .returned (.bool b)/\J (if b then some (k+1)else none) W' L/\Keep w.heap.size L W W'/\W'.heap[p]? =W.heap[p]?)->
  J (some 0) w K->CallsIn ya 0 P g (#[.func (.yield l) #[] #[]]++vs) w fun e W'=>(∃v,e= .returned v)/\∃L,J (some xs.length) W' L\/J none W' L
def qgd(P:Program)(g:am)(caps:List D)(v0:j6)(xs:List (List D)):Prop:=
 Program.plainF P g=true/\∀(w:j5) (K:qM) (p:Nat) (ty:j8) (vs:Array j6),KOk w K->(∀o,¬K p o)->w.heap[p]? =some (.cells #[v0] ty (0,0))->vs.size=caps.length+1->
  (∀(j:Nat) d v,caps[j]? =some d->vs[j]? =some v->VD w (E0 K) d v)->vs[caps.length]? =some (.pointer (some ⟨p,0,none⟩))->qgf P g vs xs K p w
def DS.SubP(n:Nat)(s s':DS):Prop:=∀X E a w,RelE X s E a w->∃E',RelE X s' E' a w/\E'.ρ n=E.ρ n/\∀b o,E.K b o->E'.K b o
def T1(hp:s'.pl=true->s.pl=true)(hn:s.n=s'.n)(h1: ∀t,s'.sl t= .any\/DLe (s.sl t) (s'.sl t))(h2: ∀k r,s'.bx k=some r->s.bx k=some r):s.SubP n s':=fun X E a w hE=>
 ⟨E,⟨hE.wi.less h2,fun t=>by
  rcases h1 t with h|h
  ·rw[h];exact .any _
  ·exact h w E _ (hE.sl t),hE.size.trans hn,hE.defers,by rw[<-hn];exact hE.small,fun h=>hE.pl (hp h)⟩,rfl,fun _ _ h=>h⟩
def sC(hn:s.n=N)(h1:AllS s sls)(h2:AllB s bxs):s.SubP n (kn N sls (ml bxs)):=
 T1 (fun h=>by cases h) hn (AllS.get h1) (AllB.get h2)
section
variable {X:Origin} {s:DS} {E:Env} {a:Act} {w:j5} {n:Nat}
def RelE.box1(h:RelE X s E a w)(hb:s.bx n=some [[.c (.lit v)]]): ∃ty,w.heap[E.ρ n]? =some (.cells #[v] ty (0,0)):=by
 obtain⟨_,⟨sz,arr,e,h1,h2,h3,h4⟩,_⟩:=h.wi.boxes n _ hb oh;have vo:1=sz:=oA;subst vo;have ha:arr.size=1:=h3;have hx:arr[0]? =some arr[0]:=oh;have hv:=h4 0 0 [.c (.lit v)] (.c (.lit v)) arr[0] rfl rfl oh;have hl:arr[0]=v:=(VD.one _ _ hv:VD w E (.one (.c (.lit v))) _).lit;refine⟨e,?_⟩;rw[h1];congr 2;apply Array.ext
 ·simp[ha]
 ·grind
def DX(hv:v.oneCell'=true):RowsIs w E #[v] [[.c .any]]:=⟨1,oh,rfl,fun i j r t u h1 h2 h3=>by
 match i,j with
 | 0,0=>simp at h1 h2 h3;subst h1;simp at h2;subst h2;subst h3;exact .c _ _ (.any v hv)
 | 0,j+1=>simp at h3
 | i+1,j=>simp at h1⟩
def RelE.any1{e:j8}(h:RelE X s E a w)(hb:s.bx n=some [[.c .any]])(hr:RowSet w w' (E.ρ n) e #[u] #[v])(hv:v.oneCell'=true):RelE X s E a w':=by
 have h1:=h.setBx hb oh hr (rows':=[[.c .any]]) (DX hv);have e:s.setBx n (some [[.c .any]])=s:=by have:(fun k=>if k=n then some [[T.c .any]]else s.bx k)=s.bx:=og;cases s;simp only[DS.setBx]at *;rw[this]
 rwa [e]at h1
def RelE.boxAny(h:RelE X s E a w)(hb:s.bx n=some [[.c (.lit v)]]):RelE X (s.setBx n (some [[.c .any]])) E a w:=by
 obtain⟨ty,hp⟩:=h.box1 hb;obtain⟨_,⟨sz,arr,e,h1,h2,h3,h4⟩,_⟩:=h.wi.boxes n _ hb oh;have hv:v.oneCell'=true:=by
  rw[hp]at h1;injection h1 with h1;injection h1 with h1;subst h1
  have vo:1=sz:=h2 [.c (.lit v)] oh;subst vo;exact(h4 0 0 [.c (.lit v)] (.c (.lit v)) v rfl rfl rfl).oneCell'
 exact h.setBx hb oh ⟨hp,hp,rfl,rfl,fun _ _=>rfl,rfl,rfl,rfl⟩ (DX hv)
end
section
variable {P:Program} {s:DS} {Q:ah->DS->Prop}
def iI{g:j9}{ps:Array Tmp}{assign body:Code}{gf:am}{caps:List T}{xs:List (List D)}{σ:Type}(ms:Nat->Bool)(ns:List Nat)(S:Nat->σ->DS)(Inv:Nat->σ->Prop)(sD:σ)(hi0:Inv 0 sD)(Db:s.pl=true)(nb:Nat)(v0:j6)(rI:nb<1000)(hnn:nb∉ns)(HJ:s.bx nb=some [[.c (.lit v0)]])(hSb: ∀k st,(S k st).bx nb=some [[.c .any]])
  (hg:(s.ev g).asFn=some (gf,caps++[.bx nb 1 0 0])) (Cl:qgd P gf (caps.map fun t=>.one (.c t.cl)) v0 xs) (h0:(s.setBx nb (some [[.c .any]])).SubP nb (S 0 sD)) (hn: ∀k st,(S k st).n=s.n) (hN:s.n<=1000) (PX: ∀p∈ps.toList,p<s.n) (VA: ∀ds∈xs,ds.length=ps.size)
  (QC:CallOkM ms ns none)
  (lD: ∀k ds st,xs[k]? =some ds->Inv k st->DW P assign ((S k st).round ms ns ps.toList ds) (vP (fun s1=>DW P body s1 (lf ms ns (S k st) (fun s'=>∃st',Inv (k+1) st'/\s'.SubP nb (S (k+1) st')) Q)) (fun _ _=>False)))
  (uM: ∀st,Inv xs.length st->Q .normal (S xs.length st)):DW P (.rangeFunc g ps assign body) s Q:=by
 rintro X a w ⟨E,hE⟩;have lE:X.ro=none:=hE.pl Db;rw[lE];obtain⟨captured,mZ,nP,Bb⟩:=nE hg (hE.ev g);obtain⟨Dc,Ds,rH,hds,hDs⟩:=hE.defers;have hXw:X.w.heap.size<=w.heap.size:=hE.wi.turn.size;have Rh:=qX;have Cm: ¬zt ms nb:=fun h=>by have:=h.1;omega
 obtain⟨ty,EW⟩:=hE.box1 HJ;obtain⟨p,hp⟩: ∃p,p=E.ρ nb:=⟨_,rfl⟩;rw[<-hp]at EW;have hplt:p<w.heap.size:=(wH.1 EW).1;have hpK: ∀o,¬E.K p o:=by rw[hp];exact(hE.wi.boxes nb _ HJ oh).2.2
 refine wpIn_rangeFunc (F:=ya) ?_;intro fn _;obtain⟨rec,hrec⟩: ∃rec:LoopState->Option Code->Loop,rec=fun st pe=>{ state:=st,pending:=pe,fn,tmps:=a.tmps,params:=ps,assign,body,defers:=w.heap.size }:=⟨_,rfl⟩
 obtain⟨W1,hW1⟩: ∃W1,(w.alloc (.deferred (some []))).alloc (.loop (rec .ready none))=W1:=⟨_,rfl⟩;have HD:W1.heap.size=w.heap.size+2:=by rw[<-hW1];simp
 have hL1:W1.heap[w.heap.size+1]? =some (.loop (rec .ready none)):=by rw[<-hW1];have:=jg (w.alloc (.deferred (some []))) (.loop (rec .ready none));rwa [World.size_alloc]at this
 have hK1:W1.heap[w.heap.size]? =some (.deferred (some [])):=by rw[<-hW1];exact(Below.heap_alloc _ _ _ oh).trans (jg w _)
 have iB:Hush w.heap.size w W1:=by rw[<-hW1];exact(Hush.alloc _ (wl _)).trans (Hush.alloc _ oh)
 have HO: ∀D∈Ds,D<w.heap.size:=fun D hD=>(wH.1 (hDs D hD).2).1;have qco: ∀D∈w.heap.size::Ds,W1.heap[D]? =some (.deferred (some [])):=fun D hD=>by
  rcases wJ.1 hD with rfl|hD
  ·exact hK1
  ·exact(iB.old D (HO D hD)).trans (hDs D hD).2
 have qb3:(w.heap.size::Ds).Nodup:=jE.2 ⟨fun h=>by have:=HO _ h;omega,rH⟩;have nc: ∀D∈w.heap.size::Ds,D<w.heap.size+1:=fun D hD=>by
  rcases wJ.1 hD with rfl|hD
  ·omega
  ·have:=HO D hD;omega
 have Ri: ∀D∈w.heap.size::Ds,X.mrk<=D:=fun D hD=>by
  rcases wJ.1 hD with rfl|hD
  ·exact wu Dc hXw
  ·exact(hDs D hD).1
 have uK:=iB.later hE.wi.kok;have P2:KOk W1 E.K:=hE.wi.kok.wide uK.keep (fun b o hb=>by rw[(uK.keep b o hb).2];exact hE.wi.kok b o hb) (hE.wi.kok.z.hush iB);have X6:W1.heap[p]? =some (.cells #[v0] ty (0,0)):=(iB.cells p _ _ _ EW).trans EW;have hit:=Cl.2 W1 E.K p ty captured P2 hpK X6 (by simpa using nP) (fun j d v h1 h2=>by
  rw[wh]at h1;cases hc:caps[j]? with
  | none=>rw[hc]at h1;cases h1
  | some t=>rw[hc]at h1;injection h1 with h1;subst h1;exact .one _ _ (.c _ _ ((Bb j t v (by rw[wU (wg.1 hc).1];exact hc) h2).cl.mono uK.keep))) (by
  have qf:caps.length<captured.size:=by rw[nP];simp
  have hx:captured[caps.length]? =some captured[caps.length]:=wY qf;have hv:=Bb caps.length (.bx nb 1 0 0) _ oh hx;rw[wn,hx];generalize captured[caps.length]=u at hv;cases hv with|bx n sz i o=>rw[hp])
 refine⟨w.heap.size+1,[{ target:=.collected w.heap.size,args:= #[] }],W1,{ target:=.fn (.func gf) captured,args:= #[.func (.yield (w.heap.size+1)) #[] #[]] },W1,gf,
  #[.func (.yield (w.heap.size+1)) #[] #[]]++captured,W1,?_,?_,fun _ _=>trivial,?_,fun h=>(by cases h),?_⟩
 ·rw[<-hW1,hrec];exact run_enterLoop_outer _ _ _ _ _
 ·have h:=vC (P:=P) a.eval g #[.const (.func (.yield (w.heap.size+1)) #[] #[])] #[] 0 gf captured mZ W1;simpa[Act.eval]using h
 ·exact Qs Cl.1 _ W1
 let Jk:Nat->j5->qM->Prop:=fun k W L=>∃st,Inv k st/\∃E',RelE X (S k st) E' { a with defers:=X.base } W/\(E'.ρ nb=p/\∀b o,L b o->E'.K b o)/\(∀b o,E.K b o->E'.K b o/\W.cell? ⟨b,o,none⟩=W1.cell? ⟨b,o,none⟩)/\W.heap[w.heap.size+1]? =some (.loop (rec .ready none))/\
  ∀D∈w.heap.size::Ds,W.heap[D]? =some (.deferred (some []))
 let Jx:j5->Prop:=fun W=>∃c E' s',RelE X s' E' { a with defers:=X.base } W/\W.heap[w.heap.size+1]? =some (.loop (rec .done (some c)))/\(∀D∈w.heap.size::Ds,W.heap[D]? =some (.deferred (some [])))/\
  ∀a' W',Z1 X s' a' W'->c.wpIn ya 0 P (fun e a w=>∃s'',Q e s''/\Z1 X s'' a w) a' W'
 let J:Option Nat->j5->qM->Prop:=fun g W L=>match g with|some k=>Jk k W L|none=>Jx W
 have fin: ∀{s':DS} {E':Env} {W:j5} (o:Loop),RelE X s' E' { a with defers:=X.base } W->W.heap[w.heap.size+1]? =some (.loop o)->(∀D∈w.heap.size::Ds,W.heap[D]? =some (.deferred (some [])))->∀o':Loop,
   Z1 X s' { a with defers:=[{ target:=.collected w.heap.size,args:= #[] }]++a.defers } (W.putObj (w.heap.size+1) (.loop o')):=fun o h1 h2 h3 o'=>by
  refine⟨_,h1.hush (Hush.putObj _ oa h2 oh) rfl ⟨Dc,w.heap.size::Ds,qb3,by simp[hds],fun D hD=>⟨Ri D hD,?_⟩⟩⟩;exact(wX (by have:=nc D hD;omega)).trans (h3 D hD)
 have nil: ∀W,DefOK X X.base W:=fun W=>DefOK.nil _ _ Dc;refine(hit (w.heap.size+1) J oa ?_ ?_ ?_ ?_).mono ?_
 ·rintro g A B L L' hJ hu hL;cases g with
  | some k=>
   obtain⟨st,hi,E',h1,⟨hρ,h0⟩,h2,h3,h4⟩:=hJ;have hw:Wider A B E' { E' with K:=fun b o=>E'.K b o\/(A.heap.size<=b/\(B.cell? ⟨b,o,none⟩).isSome=true) }:=⟨fun _ _ h=>.inl h,fun _ _ h=>h,rfl,rfl⟩;have hl:=hu.later h1.wi.kok;refine⟨st,hi,_,h1.hushW (hu.mono oa) hw rfl (nil _),⟨hρ,fun b o hb=>(hL b o hb).imp (h0 b o) id⟩,fun b o hb=>⟨.inl (h2 b o hb).1,((hl.keep b o (h2 b o hb).1).2).trans (h2 b o hb).2⟩,(hu.old _ oa).trans h3,fun D hD=>(hu.old D (by have:=nc D hD;omega)).trans (h4 D hD)⟩
  | none=>
   obtain⟨c,E',s',h1,h3,h4,h5⟩:=hJ;exact⟨c,E',s',h1.hush (hu.mono oa) rfl (nil _),(hu.old _ oa).trans h3,fun D hD=>(hu.old D (by have:=nc D hD;omega)).trans (h4 D hD),h5⟩
 ·rintro k A B L e u v ⟨st,hi,E',h1,⟨hρ,h0⟩,h2,h3,h4⟩ eL xZ;have hpl2: ∀b ob,A.heap[b]? =some ob->(∀arr e m,ob≠Obj.cells arr e m)->B.heap[b]? =some ob:=fun b ob hb hc=>by refine(eL.other b fun e=>?_).trans hb;rw[e,eL.was]at hb;injection hb with hb;exact hc _ _ _ hb.symm
  have QE: ∀b o,E'.K b o->B.cell? ⟨b,o,none⟩=A.cell? ⟨b,o,none⟩:=fun b o hb=>jf (w:=A) (a:=⟨b,o,none⟩) (eL.other b fun e=>by have:=(h1.wi.boxes nb _ (hSb k st) oh).2.2 o;rw[hρ]at this;subst e;exact this hb)
  exact⟨st,hi,E',h1.any1 (hSb k st) (by rw[hρ];exact eL) xZ,⟨hρ,h0⟩,fun b o hb=>⟨(h2 b o hb).1,(QE b o (h2 b o hb).1).trans (h2 b o hb).2⟩,hpl2 _ _ h3 oh,fun D hD=>hpl2 _ _ (h4 D hD) oh⟩
 ·
  rintro k ds W L va hkx ⟨st,HI,E',h1,⟨hρ,hL⟩,h2,h3,h4⟩ _ v1 v2;have vG:ds.length=ps.size:=VA _ (ww hkx);have hy:=run_yield (P:=P) (args:=va) h3 (by rw[hrec];exact v1.trans vG);have qb8:w.heap.size+1<W.heap.size:=(wH.1 h3).1
  let Xr:Origin:=⟨W,E'.K,vW ms (S k st).bx E' ns,(qB ms E' ns).ρ,NB,some (w.heap.size+1),W.heap.size,[]⟩
  have aM:WI Xr W (qB ms E' ns) (vv ms (S k st).bx ns):=(dD h1.wi ns QC.hns).ro _ _;have uP:RelE Xr ((S k st).round0 ms ns) (qB ms E' ns) { tmps:=a.tmps,defers:=[] } W:=
   ⟨aM,fun t=>(h1.sl t).tr (Qr (ms:=ms) E' ns),h1.size,DefOK.nil _ _ (wl _),⟨by show(S k st).n<=NB;rw[hn];omega,wl _⟩,fun h=>(by cases h)⟩
  obtain⟨z1,z2⟩:=YJ ps.toList va.toList (ds.map (D.tr eE)) (by simp[v1]);have aN:=RelE.puts (ps.toList.zip (va.toList.zip (ds.map (D.tr eE)))) _ _ uP (fun p hp=>by
   obtain⟨i,hi⟩:=jI hp;rw[jU,jU]at hi;obtain⟨g1,g2,g3⟩:=hi;refine⟨by show p.1<(S k st).n;rw[hn];exact PX _ (ww g1),?_⟩;rw[wh]at g3;cases hd:ds[i]? with
   | none=>rw[hd]at g3;cases g3
   | some d=>
    rw[hd]at g3;injection g3 with g3
    rw[<-g3];have hv:=v2 i d p.2.1 hd (by simpa using g2);have qdX:Later W (E0 L) W { (E0 L)with K:=E'.K }:=⟨fun b o hb=>⟨hL b o hb,rfl⟩,rfl,rfl⟩;exact VD.tr (ez { (E0 L)with K:=E'.K } (qB ms E' ns) rfl) (hv.mono qdX))
  rw[z1,z2]at aN;have qbS:(((rec .ready none).params.zip va).foldl (fun tmps (p:Tmp×j6)=>tmps.setIfInBounds p.1 p.2) (rec .ready none).tmps)=(ps.toList.zip va.toList).foldl (fun t p=>t.setIfInBounds p.1 p.2) a.tmps:=by rw[hrec];exact Bh _ _ _
  refine⟨_,_,_,_,hy,?_⟩;have qch:=lD k _ st hkx HI Xr _ W ⟨_,aN⟩;rw[show (rec .ready none).assign=assign by rw[hrec],show(rec .ready none).body=body by rw[hrec]];refine roundIn_of_wpIn trivial ?_;rw[qbS];refine wpIn_mono qch ?_;rintro e a1 W2 ⟨s1,iD,E1,ef⟩;cases e with
  | normal=>
   have ga:=ef.wi.turn.loop h3 oh;refine⟨_,run_beginRound ga (by rw[hrec]),?_⟩;have hwb:=ef.wi.both (.loop { rec .ready none with state:=.busy }) h3 oh;have hub:Hush 0 W2 (W2.putObj (w.heap.size+1) (.loop { rec .ready none with state:=.busy })):=Hush.putObj _ (wM _) ga oh;have qdU:RelE ⟨W.putObj (w.heap.size+1) (.loop { rec .ready none with state:=.busy }),E'.K,vW ms (S k st).bx E' ns,(qB ms E' ns).ρ,NB,some (w.heap.size+1),W.heap.size,[]⟩ s1 E1 a1 (W2.putObj (w.heap.size+1) (.loop { rec .ready none with state:=.busy })):=by refine⟨hwb,fun t=>(ef.sl t).mono (hub.later ef.wi.kok),ef.size,?_,ef.small,ef.pl⟩;obtain⟨_,Ds2,q1,q2,q3⟩:=ef.defers;refine⟨oh,Ds2,q1,q2,fun D hD=>?_⟩;obtain⟨q4,q5⟩:=q3 D hD;have q6:W.heap.size<=D:=q4;exact⟨q6,(wX oa).trans q5⟩
   refine wpIn_mono (iD _ _ _ ⟨E1,qdU⟩) ?_;have lJ:(W.putObj (w.heap.size+1) (.loop { rec .ready none with state:=.busy })).heap[w.heap.size+1]? =some (.loop { rec .ready none with state:=.busy }):=jk qb8;have after: ∀(jump:Option Code) {s4:DS} {E4:Env} {a4:Act} {W4:j5},RelE ⟨W.putObj (w.heap.size+1) (.loop { rec .ready none with state:=.busy }),E'.K,vW ms (S k st).bx E' ns,(qB ms E' ns).ρ,NB,some (w.heap.size+1),W.heap.size,[]⟩ s4 E4 a4 W4->
     ∃W5,(Instr.endRound (w.heap.size+1) jump).run P W4= .ok (.bool jump.isNone) W5/\RelE X ((S k st).aftCallM ms ns none (.tup []) s4.bx) (ve ms E' E4 ns none) { a with defers:=X.base } W5/\
      W5.heap[w.heap.size+1]? =some (.loop (rec (if jump.isNone then .ready else .done) jump))/\(∀D∈w.heap.size::Ds,W5.heap[D]? =some (.deferred (some [])))/\
      (∀b o,E'.K b o->E4.K b o/\W5.cell? ⟨b,o,none⟩=W.cell? ⟨b,o,none⟩)/\Keep W1.heap.size L W W5/\W5.heap[p]? =W.heap[p]? :=by
    intro jump s4 E4 a4 W4 h5;have qb9:=h5.wi.turn.loop lJ oh;have qS:=run_endRound (P:=P) jump qb9;have P1:w.heap.size+1<W4.heap.size:=(wH.1 qb9).1;have he5:(.loop { ({ rec .ready none with state:=.busy }:Loop)with state:=if jump.isNone then .ready else .done,pending:=jump }:Obj)= .loop (rec (if jump.isNone then .ready else .done) jump):=by rw[hrec]
    rw[he5]at qS;have hw5:=(h5.wi.both (.loop (rec (if jump.isNone then .ready else .done) jump)) lJ oh).ro none (W.putObj (w.heap.size+1) (.loop (rec (if jump.isNone then .ready else .done) jump))).heap.size;simp only[mF]at hw5;have LF:Hush 0 W (W.putObj (w.heap.size+1) (.loop (rec (if jump.isNone then .ready else .done) jump))):=Hush.putObj _ (wM _) h3 oh;have hra:=Eb (h1.hush (a':={ a with defers:=X.base }) (Hush.putObj (.loop (rec (if jump.isNone then .ready else .done) jump)) oa h3 oh) rfl (nil _)) hw5 QC;have hu4:Hush 0 W4 (W4.putObj (w.heap.size+1) (.loop (rec (if jump.isNone then .ready else .done) jump))):=Hush.putObj _ (wM _) qb9 oh;have VJ:(W4.putObj (w.heap.size+1) (.loop (rec (if jump.isNone then .ready else .done) jump))).heap[p]? =W.heap[p]? :=by
     have cq:=h1.wi.boxes nb _ (hSb k st) oh;rw[hρ]at cq;have qH:p≠w.heap.size+1:=oa;have e1:(W.putObj (w.heap.size+1) (.loop { rec .ready none with state:=.busy })).heap[p]? =W.heap[p]? :=wX qH;refine(wX qH).trans (Eq.trans (h5.wi.turn.whole (by simp;exact cq.2.1.lt) fun o hF=>?_) e1);obtain⟨m,hm,⟨rows,q1,q2,q3⟩|q1⟩:=hF
     ·have VP:m≠nb:=fun e=>by subst e;rcases hm with hm|hm;exact hnn hm;exact Cm hm
      exact h1.wi.boxne m nb rows _ q1 q2 (hSb k st) oh VP (by rw[<-q3,hρ])
     ·exact h1.wi.sbox m nb p o _ q1 (hSb k st) oh hρ.symm
    have QE: ∀b o,E'.K b o->E4.K b o/\(W4.putObj (w.heap.size+1) (.loop (rec (if jump.isNone then .ready else .done) jump))).cell? ⟨b,o,none⟩=W.cell? ⟨b,o,none⟩:=fun b o hb=>by have k4:=h5.wi.kin b o hb;refine⟨k4,?_⟩;rw[((hu4.later h5.wi.kok).keep b o k4).2];have HL:=qP (h1.wi.kok b o hb);rw[h5.wi.turn.cell (by simpa using HL) (h5.wi.sep b o hb)];have qbQ:Hush 0 W (W.putObj (w.heap.size+1) (.loop { rec .ready none with state:=.busy })):=Hush.putObj _ (wM _) h3 oh;exact((qbQ.later h1.wi.kok).keep b o hb).2
    refine⟨_,qS,hra,jk P1,fun D hD=>?_,QE,⟨?_,fun b o hb=>(QE b o (hL b o hb)).2,fun b ob qH hob hc=>?_,fun _=>hra.wi.kok.z⟩,VJ⟩
    ·have qf:=nc D hD;refine(wX oa).trans (h5.wi.turn.loop ?_ oh);exact(wX oa).trans (h4 D hD)
    ·have:=h5.wi.turn.size;simpa using this
    ·have qH:b≠w.heap.size+1:=by omega
     refine(wX qH).trans (h5.wi.turn.loop ?_ hc);exact(wX qH).trans hob
   have uN: ∀{E4:Env} {W5:j5},(∀b o,E'.K b o->E4.K b o/\W5.cell? ⟨b,o,none⟩=W.cell? ⟨b,o,none⟩)->∀b o,E.K b o->(ve ms E' E4 ns none).K b o/\W5.cell? ⟨b,o,none⟩=W1.cell? ⟨b,o,none⟩:=fun h b o hb=>
    ⟨(h b o (h2 b o hb).1).1,(h b o (h2 b o hb).1).2.trans (h2 b o hb).2⟩
   have stop: ∀(c:Code) {s4:DS} {E4:Env} {a4:Act} {W4:j5},RelE ⟨W.putObj (w.heap.size+1) (.loop { rec .ready none with state:=.busy }),E'.K,vW ms (S k st).bx E' ns,(qB ms E' ns).ρ,NB,some (w.heap.size+1),W.heap.size,[]⟩ s4 E4 a4 W4->
     (∀a' W',Z1 X ((S k st).aftCallM ms ns none (.tup []) s4.bx) a' W'->c.wpIn ya 0 P (fun e a w=>∃s'',Q e s''/\Z1 X s'' a w) a' W')->
     ∃v w',(Instr.endRound (w.heap.size+1) (some c)).run P W4= .ok v w'/\∃b,Ending.returned v= .returned (.bool b)/\J (if b then some (k+1)else none) w' L/\Keep W1.heap.size L W w'/\w'.heap[p]? =W.heap[p]? :=fun c {s4 E4 a4 W4} h5 hc=>by
    obtain⟨W5,g1,g2,g3,g4,g5,g6⟩:=after (some c) h5;exact⟨_,W5,g1,false,rfl,⟨c,_,_,g2,g3,g4,hc⟩,g6⟩
   rintro e a4 W4 ⟨s4,hq,E4,h5⟩;cases e with
   | normal=>
    obtain⟨W5,g1,g2,g3,g4,g5,g6⟩:=after none h5;refine⟨_,W5,g1,true,rfl,?_,g6⟩;obtain⟨st',hi',hsub⟩:=hq;obtain⟨E5,g7,g9,g8⟩:=hsub _ _ _ _ g2;exact⟨st',hi',E5,g7,⟨by rw[g9];simp only[ve,reduceCtorEq,ap,j7 Cm];exact hρ,fun b o hb=>g8 b o (g5 b o (hL b o hb)).1⟩,fun b o hb=>⟨g8 b o (uN g5 b o hb).1,(uN g5 b o hb).2⟩,g3,g4⟩
   | ret=>exact stop .ret h5 fun a' W' hr=>wpIn_ret ⟨_,hq,hr⟩
   | exit id=>exact stop (.exit id) h5 fun a' W' hr=>wpIn_exit ⟨_,hq,hr⟩
   | goto t=>exact stop (.goto t) h5 fun a' W' hr=>wpIn_goto ⟨_,hq,hr⟩
   | panic ch=>exact hq.elim
   | outgrown=>exact hq.elim
  | exit id=>exact iD.elim
  | goto l=>exact iD.elim
  | ret=>exact iD.elim
  | panic ch=>exact iD.elim
  | outgrown=>exact iD.elim
 ·obtain⟨E',h1,h9,h2⟩:=h0 X E { a with defers:=X.base } w (RelE.boxAny ⟨hE.wi,hE.sl,hE.size,DefOK.nil _ _ hE.defers.1,hE.small,hE.pl⟩ HJ);exact⟨sD,hi0,E',h1.hush (iB.mono oa) rfl (nil _),⟨h9.trans hp.symm,h2⟩,fun b o hb=>⟨h2 b o hb,rfl⟩,hL1,qco⟩
 ·rintro e W2 ⟨⟨v,rfl⟩,L,⟨st,hi,E',h1,_,h2,h3,h4⟩|⟨c,E',s',h1,h3,h4,h5⟩⟩
  ·exact⟨none,_,by have:=run_endLoop (P:=P) h3 (by rw[hrec];simp);rw[hrec]at this;exact this,S xs.length st,uM st hi,fin _ h1 h3 h4 _⟩
  ·exact⟨some c,_,by have:=run_endLoop (P:=P) h3 (by rw[hrec];simp);rw[hrec]at this;exact this,h5 _ _ (fin _ h1 h3 h4 _)⟩
end
def qfF(n sz:Nat)(cs:List (List C))(x:List C):T.frzAll n sz cs (x.map T.c)=x.map T.c:=by
 induction x with
 | nil=>rfl
 | cons a x ih=>simp only[wo,T.frzAll,T.frz,ih]
def Rp(n sz:Nat)(cs xs:List (List C)):(cr xs).map (T.frzAll n sz cs)=cr xs:=by simp only[cr,yn];exact yz fun x _=>qfF n sz cs x
def V1(n sz:Nat)(cs:List (List C))(j z:Nat):(qa j z).map (T.frzAll n sz cs)=qa j z:=by
 have:qa j z=cr (yb j (yb z .any)):=by simp[qa,cr,List.map_replicate]
 rw[this,Rp]
theorem K9(s:DS)(n m:Nat)(r:Rows):(s.moveMem n m r).n=s.n:=rfl
attribute [go_sem] Rp V1 K9
def ca(n sz:Nat)(cs:List (List C))(js:Rows)(qZ:0<sz)(hn:s.bx n=some (cr cs++js))(hz: ∀r∈cs,r.length=sz):s.Sub (s.frz n sz cs):=fun X a w ⟨E,hE⟩=>hE.frz qZ hn hz
section
variable {P:Program} {s s':DS} {dst:Option Nat} {ds:List (Option Nat)} {lo:List aa} {KM:DS->MS->Prop} {M:MS} {ty:j8} {pos:String} {aft:Array Edge} {f:j9} {av:List j9} {vy:Array j8} {Fd:D} {A:List D} {o:aa}
def StepM.sub{K:DS->MS->Prop}(hs:s.Sub s')(hn:s'.n=s.n)(h:StepM P o s' M K):StepM P o s M K:=fun hd G X a w hr Q=>
 yL (fun _ _ ⟨s2,M',⟨g1,g2⟩,g3⟩=>⟨s2,M',⟨g1.trans hn,g2⟩,g3⟩) (h (fun d hd'=>by rw[hn];exact hd d hd') G X a w (hr.sub hs) Q)
def CallM.sub(hs:s.Sub s')(hn:s'.n=s.n)(h:Z0 P ds (⟨dst,.call ⟨.value f,av.toArray,vy⟩,ty,pos,aft,none⟩::lo) s' M KM):CallM P ⟨dst,.call ⟨.value f,av.toArray,vy⟩,ty,pos,aft,none⟩ Fd A s dst ds lo M KM:=mM (StepM.sub hs hn h)
end
section
variable {P:Program} {s:DS} {dst:Option Nat} {ds:List (Option Nat)} {l:List (Mode×aa)} {K:DS->Prop} {g:am} {es:List D} {caps:List T} {ty:j8} {pos:String} {aft:Array Edge} {f:j9} {av:List j9} {vy:Array j8} {Fd:D} {A:List D} {Hl:List (Nat×Rows)}
def Lm{R:D->vT->Prop}(ns:List Nat)(hk: ∀r H',R r H'->∃s2,(s.aftCallM vJ ns dst r H').Sub s2/\s2.n=s.n/\wk P ds l s2 K)(hc:ECalls P g es (ml Hl) R:=by assumption)(hf:(s.ev f).asFn=some (g,caps):=by first|rfl|(simp +decide only[go_sem];done))
  (vh:(av.map s.ev++caps.map D.one).map (D.tr (ZK vJ ns))=es:=by(simp +decide only[go_sem, *];done)) (hH:AllM (vv vJ s.bx ns) Hl:=by(simp +decide only[go_sem, *];done))
  (h1: ∀n∈ns,n≠1000:=by have:=qX;simp only[wJ,w9,ax,forall_eq_or_imp,forall_eq];omega) (h2: ∀x,dst=some x->x∉ns/\x<1000:=by have:=qX;intro x hx;injection hx with hx;subst hx;simp only[wJ,w9,ax];omega):
  CallC .step P ⟨dst,.call ⟨.value f,av.toArray,vy⟩,ty,pos,aft,none⟩ Fd A s dst ds l K:=by
 refine CallC.step fun hd X a w hr Q=>?_;have h:=Step.callM (P:=P) (o:=⟨dst,.call ⟨.value f,av.toArray,vy⟩,ty,pos,aft,none⟩) (K:=fun s'=>∃s2,s'.Sub s2/\s2.n=s.n/\wk P ds l s2 K) vJ rfl hf (DLeL.of_eq vh) hc hH.get (I3 h1 h2) hk;refine yL ?_ (h hd X a w hr Q);rintro a' w' ⟨s',⟨g1,s2,g2,g3,g4⟩,g5⟩;exact⟨s2,⟨g3,g4⟩,g2 _ _ _ g5⟩
end
def MCalls.wk{R R':D->vT->MS->Prop}(h:MCalls P f ds H M R)(k: ∀r H' M',R r H' M'->R' r H' M'):MCalls P f ds H M R':=
 ⟨h.1,fun w E F vs h1 h2 h3 h4=>(h.2 w E F vs h1 h2 h3 h4).mono (by rintro e w' ⟨v,E',r,H',M',x,e1,hQ,rest⟩;exact⟨v,E',r,H',M',x,e1,k _ _ _ hQ,rest⟩)⟩
section
variable {P:Program} {N:Nat} {pl:Nat->List (Nat×Mode)} {K:ah->DS->MS->Prop} {s:DS} {M:MS} {c b:Code}
end
section
variable {P:Program}
def dY(ops:List aa)(E:List (List Nat)):Bool:=(E.all fun l=>l.all fun k=>decide (k<ops.length))&&((wR ops.length).all fun i=>(E.getD i []).all fun k=>decide (k<i))
def nS{ops:List aa}{E:List (List Nat)}{Q:ah->Act->j5->Prop}{A:Nat->Act->j5->Prop}(hE:ops.map Qm=E)(hn:E.all (fun l=>l.all fun k=>decide (k<ops.length))=true)
  (qf:((wR ops.length).all fun i=>(E.getD i []).all fun k=>decide (k<i))=true)
  (vO: ∀i o,ops[i]? =some o->∀m,m.testBit i=false->(∀j,m.testBit j=true->∀k∈E.getD j [],m.testBit k=true)->(∀k∈E.getD i [],m.testBit k=true)->∀a w,A m a w->wpOp P ops.toArray Q i (A (m ||| 2 ^ i)) a w)
  (hK: ∀a w,A (2 ^ ops.length - 1) a w->Q .normal a w): ∀(fuel m:Nat),m<2 ^ ops.length->(∀j,m.testBit j=true->∀k∈E.getD j [],m.testBit k=true)->cnt ops.length m=fuel->∀a w,A m a w->wpAny P .any ops.toArray Q fuel (zR ops.length m) a w
 | 0,m,hm,QG,hc,a,w,hA=>by
  have zW:=FG _ hc;have qb5:m=2 ^ ops.length - 1:=Nat.eq_of_testBit_eq fun i=>by
   rw[Nat.testBit_two_pow_sub_one];by_cases h:i<ops.length
   ·rw[zW i h,ay h]
   ·rw[au h];exact Nat.testBit_lt_two_pow (jp hm (Nat.pow_le_pow_right oa oa))
  refine wpAny_done ?_ (hK a w (qb5▸hA)) 0;rw[zl hE hn];exact List.eq_nil_iff_forall_not_mem.2 fun i hi=>by
   obtain⟨j,l,h1,h2,h3,_⟩:=(eA E 0 i).1 hi;have hj:=(wg.1 h1).1;rw[<-hE,wn]at hj;rw[zW i oa]at h3;cases h3
 | fuel+1,m,hm,QG,hc,a,w,hA=>by
  have qH:Qd E m≠ []:=fun e=>by
   have pd: ∀n,n<=ops.length->∀i,i<n->m.testBit i=true:=by
    intro n;induction n with
    | zero=>intro _ i h;omega
    | succ n ih=>
     intro sa i hi;have ih:=ih oa;by_cases e2:i=n
     ·subst e2;cases fz:m.testBit i
      ·have E9:i<E.length:=by rw[<-hE,wn];omega
       have:i∈Qd E m:=(eA E 0 i).2 ⟨i,E[i],wa E9,oa,fz,wZ.2 fun k hk=>by have h1:=wZ.1 qf i (yU.2 oa);rw[ji,wa E9]at h1;have h2:=wZ.1 h1 k hk;exact ih k (by simpa using h2)⟩
       rw[e]at this;cases this
      ·rfl
     ·exact ih i oa
   have: ∀n,n<=ops.length->cnt n m=0:=by
    intro n;induction n with
    | zero=>intro _;rfl
    | succ n ih=>intro h;rw[cnt,ih oa,pd (n+1) h n oa];rfl
   rw[this _ (wl _)]at hc;omega
  refine wpAny_all (zl hE hn m) qH fun i hi=>?_;obtain⟨j,l,h1,h2,h3,h4⟩:=(eA E 0 i).1 hi;have hj:=(wg.1 h1).1;rw[<-hE,wn]at hj;have A9:i=j:=oa;subst A9;have hdi: ∀k∈E.getD i [],m.testBit k=true:=fun k hk=>by rw[ji,h1]at hk;exact wZ.1 h4 k hk
  have ho:ops[i]? =some ops[i]:=wa hj;refine wpOp_mono (fun a' w' h'=>?_) (vO i ops[i] ho m h3 QG hdi a w hA);rw[zj hj];exact nS hE hn qf vO hK fuel (m ||| 2 ^ i) (Nat.or_lt_two_pow hm (Nat.pow_lt_pow_right oa hj)) (fun j HH k hk=>by
   rw[vx,jQ]at HH ⊢;rcases HH with h|h
   ·exact .inl (QG j h k hk)
   ·have:i=j:=by simpa using h
    subst this;exact .inl (hdi k hk)) (by have:=R9 h3 _ hj;omega) a' w' h'
def MX{id:Nat}{l:List aa}{Q:ah->Act->j5->Prop}{a:Act}{w:j5}(E:List (List Nat))(full:Nat)(A:Nat->Act->j5->Prop)(hm:P.follows .mixedOrders=true)(hE:l.map Qm=E)(hc:dY l E=true)(hf:2 ^ l.length - 1=full)
  (h0:A 0 a { w with drawn:=w.drawn+1 }) (vO: ∀i o,l[i]? =some o->∀m,m.testBit i=false->(∀j,m.testBit j=true->∀k∈E.getD j [],m.testBit k=true)->(∀k∈E.getD i [],m.testBit k=true)->∀a w,A m a w->wpOp P l.toArray Q i (A (m ||| 2 ^ i)) a w)
  (hK: ∀a w,A full a w->Q .normal a w):(Code.region id l.toArray true).wp P Q a w:=by
 simp only[dY,we]at hc;refine wp_region_any hm ?_;have hz: ∀j,Nat.testBit 0 j=true->∀k∈E.getD j [],Nat.testBit 0 k=true:=oh;have h:=nS (Q:=Q) hE hc.1 hc.2 vO (by rw[hf];exact hK) (cnt l.length 0) 0 (Nat.two_pow_pos _) hz rfl a _ h0;have VR: ∀n,cnt n 0=n:=by
  intro n;induction n with
  | zero=>rfl
  | succ n ih=>rw[cnt,ih];simp
 rw[VR,<-eZ]at h;simpa using h
structure Sls(T:Array j6)(lo:Nat)(m:Nat)(zr:List j6)(t:Array j6):Prop where
 size:t.size=T.size
 out: ∀j,(j<lo\/lo+zr.length<=j)->t[j]? =T[j]?
 ins: ∀i x,m.testBit i=true->zr[i]? =some x->t[lo+i]? =some x
def Sls.start(T:Array j6)(lo:Nat)(zr:List j6):Sls T lo 0 zr T:=⟨rfl,fun _ _=>rfl,fun i x h=>by simp at h⟩
def Sls.put{T:Array j6}{t:Array j6}(h:Sls T lo m zr t){x:j6}(hx:zr[i]? =some x)(hs:lo+zr.length<=T.size):Sls T lo (m ||| 2 ^ i) zr (t.setIfInBounds (lo+i) x):=by
 have hi:i<zr.length:=og;have vo:=h.size;refine⟨by simpa using h.size,fun j hj=>?_,fun j y hb hy=>?_⟩
 ·rw[Array.getElem?_setIfInBounds_ne oa];exact h.out j hj
 ·by_cases e:i=j
  ·grind
  ·rw[Array.getElem?_setIfInBounds_ne oa];rw[vx,au e,yu]at hb;exact h.ins j y hb hy
def Sls.skip{T:Array j6}{t:Array j6}(h:Sls T lo m zr t)(hi:zr.length<=i):Sls T lo (m ||| 2 ^ i) zr t:=
 ⟨h.size,h.out,fun j y hb hy=>by have hj:j<zr.length:=og;rw[vx,au oa,yu]at hb;exact h.ins j y hb hy⟩
def Sls.turn{T:Array j6}{vals':List j6}{t:Array j6}(h:Sls T lo m zr t)(hl:vals'.length=zr.length)(hv: ∀i,m.testBit i=true->vals'[i]? =zr[i]?):Sls T lo m vals' t:=
 ⟨h.size,fun j hj=>h.out j (by rw[hl]at hj;exact hj),fun i x hb hx=>h.ins i x hb (by rw[<-hv i hb];exact hx)⟩
def Sls.all{T:Array j6}{t:Array j6}(h:Sls T lo m zr t)(hs:lo+zr.length<=T.size)(hm: ∀i,i<zr.length->m.testBit i=true):t=(T.toList.take lo++zr++T.toList.drop (lo+zr.length)).toArray:=by
 refine Array.ext_getElem? fun j=>?_;have vo:=h.size;have LK:(T.toList.take lo).length=lo:=og
 conv=>rhs;rw[yI]
 by_cases h1:j<lo
 ·rw[h.out j (.inl h1),wS,wU oa,jt h1];simp
 ·by_cases h2:j<lo+zr.length
  ·obtain⟨i,rfl⟩: ∃i,j=lo+i:=⟨j - lo,oa⟩;have hi:i<zr.length:=oa;rw[h.ins i zr[i] (hm i hi) (wa hi),wU ot,wL oa,LK,Nat.add_sub_cancel_left,wa hi]
  ·rw[h.out j (.inr oa),wL ot,wz,LK,yl];rw[show lo+zr.length+(j - (lo+zr.length))=j by omega];simp
end
section
variable {P:Program}
def StepM.lookup2{o:aa}{s:DS}{M:MS}{K:DS->MS->Prop}{t:j8}{m x:j9}(ho:o.op= .lookup t m x true){b:Nat}{k e:j8}{R:qdx}{n:Nat}{D0:DataW j6}(hb:M b=some (.mp k R n D0))(hm:s.ev m=XN b)(hK:Keyed P k)(ht:P.underlying t=some (.map k e)){z:j6}(hz: ∀w,(zeroValue e).run P w= .ok z w){zd:DataW j6}{zp:List MemPlace}(hzd:R z=some (zd,zp))
  {key:j6} {kl:Lit} (hx:s.ev x= .one (.c (.lit key))) (lG:keyOf P k key=some kl) {v:j6} (hv: ∀u ps,R u=some (D0.atKey kl zd,ps)->u=v) (h1:v.oneCell'=true) (h:K (s.put o.dst (.tup [.one (.c (.lit v)),.one (.c (.lit (.bool (jl D0 kl))))])) M):StepM P o s M K:=by
 intro hd G X a w hr Q;obtain⟨u,ps,qS,hu⟩:=World.ownsMap.look_ok (hr.map hb) hK ht (hz w) hzd lG;obtain rfl:=hv u ps hu;refine vg (v:=.tuple #[u,.bool (jl D0 kl)]) (w':=w) (by simp only[execOp,ho,hr.ev hm,hr.ev hx,wq,qS,wj,wG]) ⟨_,_,⟨zD _ _ _,h⟩,?_⟩;refine hr.put hd fun E=>.tup _ _ rfl fun j d v h2 h3=>?_
 match j with
 | 0=>simp at h2 h3;subst h2;subst h3;exact .one _ _ (.c _ _ (.lit _ h1))
 | 1=>simp at h2 h3;subst h2;subst h3;exact .one _ _ (.c _ _ (.lit _ rfl))
 | _+2=>simp at h2
def pC{σ:Type}(P:Program)(ops:List aa)(St:Nat->σ->DS)(MM:Nat->σ->MS)(E:List (List Nat)):List Nat->Prop
 | []=>True
 | i::r=>(∀m,m.testBit i=false->(∀j,m.testBit j=true->∀k∈E.getD j [],m.testBit k=true)->(∀k∈E.getD i [],m.testBit k=true)->∀y,zg P ops ((ops.drop i).take 1) (St m y) (MM m y) (fun s' M'=>∃y',s'.Sub (St (m ||| 2 ^ i) y')/\M'=MM (m ||| 2 ^ i) y'))/\pC P ops St MM E r
def uZ{σ:Type}{ops:List aa}{St:Nat->σ->DS}{MM:Nat->σ->MS}{E:List (List Nat)}: ∀{I:List Nat},pC P ops St MM E I->∀i∈I,∀m,m.testBit i=false->(∀j,m.testBit j=true->∀k∈E.getD j [],m.testBit k=true)->(∀k∈E.getD i [],m.testBit k=true)->∀y,zg P ops ((ops.drop i).take 1) (St m y) (MM m y) (fun s' M'=>∃y',s'.Sub (St (m ||| 2 ^ i) y')/\M'=MM (m ||| 2 ^ i) y')
 | [],_,i,hi=>by cases hi
 | j::r,h,i,hi=>by
  rcases wJ.1 hi with rfl|hi
  ·exact h.1
  ·exact uZ h.2 i hi
theorem HW(ops:List aa)(St:Nat->σ->DS)(MM:Nat->σ->MS)(E:List (List Nat)):pC P ops St MM E []=True:=rfl
theorem Fz(ops:List aa)(St:Nat->σ->DS)(MM:Nat->σ->MS)(E:List (List Nat))(i:Nat)(r:List Nat):pC P ops St MM E (i::r)=((∀m,m.testBit i=false->(∀j,m.testBit j=true->∀k∈E.getD j [],m.testBit k=true)->(∀k∈E.getD i [],m.testBit k=true)->∀y,zg P ops ((ops.drop i).take 1) (St m y) (MM m y) (fun s' M'=>∃y',s'.Sub (St (m ||| 2 ^ i) y')/\M'=MM (m ||| 2 ^ i) y'))/\pC P ops St MM E r):=rfl
attribute [go_sem] HW Fz
def qbj{σ:Type}{id:Nat}{l:List aa}{s:DS}{M:MS}{Q:ah->DS->MS->Prop}{N:Nat}(E:List (List Nat))(I:List Nat)(St:Nat->σ->DS)(MM:Nat->σ->MS)(y0:σ)(full:Nat)(hm:P.follows .mixedOrders=true)(hn:s.n=N)(hb:zM l N=true)(hE:l.map Qm=E)(hc:dY l E=true)(hf:2 ^ l.length - 1=full)
  (hI:(wR l.length).all (fun i=>I.contains i)=true) (Cp: ∀m y,(St m y).n=N) (h0:s.Sub (St 0 y0)) (hM:M=MM 0 y0) (he:pC P l St MM E I) (hq: ∀y,Q .normal (St full y) (MM full y)):MW P (.region id l.toArray true) s M Q:=by
 subst hM;intro G X a w hr;have hr':RelM P G X (St 0 y0) (MM 0 y0) a { w with drawn:=w.drawn+1 }:=by obtain⟨x,E,h1,hE,h3,h4⟩:=hr.sub h0;exact⟨x,E,h1,hE.quiet ⟨(Below.refl _ _).drew,fun _ _ h=>h,fun _ _ _ h=>h,hE.wi.kok.move (fun _ _ _=>rfl) (hE.wi.kok.z.below ((Below.refl _ _).drew)),rfl,rfl⟩,h3.keep (fun _ _ h=>⟨h,rfl⟩) fun _ _=>rfl,h4⟩
 refine wpIn_mono (Q:=fun e a w=>e= .normal/\∃y,RelM P G X (St full y) (MM full y) a w) (wpIn_region_draw fun t=>?_) ?_
 ·refine uc (Q:=fun e a w=>e= .normal/\∃y,RelM P G X (St full y) (MM full y) a w) (fun⟨_,_,h,_⟩=>by cases h) (fun i o ho=>Yy hb (by simpa using ho)) _ _ _ ?_;simp only[Region.schedule,hm,Bool.true_or,an];simp only[dY,we]at hc;have VR: ∀n,cnt n 0=n:=by
   intro n;induction n with
   | zero=>rfl
   | succ n ih=>rw[cnt,ih];simp
  have h:=nS (P:=P) (Q:=fun e a w=>e= .normal/\∃y,RelM P G X (St full y) (MM full y) a w) (A:=fun m a w=>∃y,RelM P G X (St m y) (MM m y) a w) hE hc.1 hc.2 (fun i o ho m h1 h2 h3 a w ⟨y,hA⟩=>?_) (by rw[hf];exact fun a w h=>⟨rfl,h⟩) (cnt l.length 0) 0 (Nat.two_pow_pos _) (fun j h=>by simp at h) rfl a _ ⟨y0,hr'⟩
  ·rw[VR,<-eZ]at h;exact wpAny_sound l.toArray.size t _ a _ (by simpa using h)
  ·have hi:i<l.length:=by grind
   have vO:=uZ he i (by simpa using wZ.1 hI i (yU.2 hi)) m h1 h2 h3 y;have e1:(l.drop i).take 1= [o]:=by obtain⟨h4,h5⟩:=wg.1 ho;rw[wP h4,h5];rfl
   rw[e1]at vO;simp only[zg,cW]at vO;have hd:=pG hb ho;unfold wpOp;have ho':l.toArray[i]? =some o:=og;simp only[ho'];split at vO
   ·rename_i t ht;have nf:=hA;obtain⟨x,Ex,_,hrx,_⟩:=nf;rw[zn ht ⟨Ex,hrx⟩];split at vO
    ·rename_i h5;rw[ae h5];refine .inl (yL ?_ (vO (fun d hd'=>by rw[Cp];exact hd d hd') G X a w hA _));rintro a' w' ⟨s',M',⟨hn',y',hs',rfl⟩,q⟩;exact⟨y',q.sub hs'⟩
    ·rename_i h5;rw[j7 h5];obtain⟨y',hs',hM'⟩:=vO;have q:=IX hA (dst:=o.dst) (fun d hd'=>by rw[Cp];exact hd d hd');exact⟨y',hM'▸q.sub hs'⟩
   ·grind
 rintro e a' w' ⟨rfl,y,h⟩;exact⟨_,_,hq y,h⟩
end
section
variable {P:Program}
def Ev{K':DS->Prop}(h:MA md P o s K)(hk: ∀s',K s'->K' s'):MA md P o s K':=by
 have pure: ∀{f:D} {av:List D} {A B:D->Prop},(∀r,A r->B r)->nJ P f av A->nJ P f av B:=fun hAB ⟨g,caps,ds,r,h1,h2,h3,h4⟩=>⟨g,caps,ds,r,h1,h2,h3,hAB r h4⟩;have stp: ∀{o:aa},Step P o s K->Step P o s K':=fun h=>h.mono fun s' _=>hk s';have call: ∀{f:D} {av:List D} {dst:Option Nat},JV P o f av s dst K md->JV P o f av s dst K' md:=fun {f av dst} h=>by
  cases md with
  | light=>exact pure (fun r=>hk _) h
  | step=>
   rcases h with h|⟨ns,g,caps,ds,H,R,h1,h2,h3,h4,h5,h6⟩|h
   ·exact .inl (pure (fun r=>hk _) h)
   ·exact .inr (.inl ⟨ns,g,caps,ds,H,R,h1,h2,h3,h4,h5,fun r H' hR=>hk _ (h6 r H' hR)⟩)
   ·exact .inr (.inr (stp h))
  | fresh=>
   obtain⟨g,caps,ds,R,h1,h2,h3,h4,h5⟩:=h;exact⟨g,caps,ds,R,h1,h2,h3,h4,fun r H' hR=>hk _ (h5 r H' hR)⟩
  | _=>exact h.elim
 have stW':rR md P o s K->rR md P o s K':=fun h=>by
  cases md<;>first|exact h.elim|exact stp h
 have app: ∀{m:Nat} {i:Option (Nat×Nat)} {x y:D},My md P o s m i x y K->My md P o s m i x y K':=fun {m i x y} h=>by
  unfold My at h ⊢;split at h
  ·grind
  ·split at h
   ·exact⟨h.1,hk _ h.2⟩
   ·omega
 have nw: ∀{m:Nat} {r:Option (List T)},KY md s m r K->KY md s m r K':=fun {m r} h=>by
  cases md<;>first|exact h.elim|skip
  cases r with
  | none=>exact h.elim
  | some z=>exact hk _ h
 have st: ∀{r:Option DS},qev md r K->qev md r K':=fun {r} h=>by
  cases md<;>first|exact h.elim|skip
  cases r with
  | none=>exact h.elim
  | some z=>exact hk _ h
 have one: ∀{i:Option (Nat×Nat)} {ts:Option (List T)} {m:Nat},oW i ts s m K->oW i ts s m K':=fun {i ts m} h=>by
  unfold oW at h ⊢;split at h
  ·grind
  ·omega
 have bnd: ∀{a:Ans},dZ a (fun d=>K (s.put o.dst d))->dZ a (fun d=>K' (s.put o.dst d)):=fun h=>⟨h.1,hk _ h.2⟩;unfold MA at h ⊢;split at h
 ·grind
 ·grind
 ·grind
 ·grind
 ·grind
 ·grind
 ·grind
 ·grind
 ·grind
 ·grind
def sv{ds:List (Option Nat)}{K K':DS->Prop}(hk: ∀s',K s'->K' s'): ∀(l:List (Mode×aa)) (s:DS),wk P ds l s K->wk P ds l s K'
 | [],s,h=>hk s h
 | (md,o)::l,s,h=>by
  unfold wk at h ⊢;split at h
  ·exact Ev h fun s' h'=>sv hk l s' h'
  ·rename_i j want _;cases hg:gV ds[j]? s.sl want with
   | none=>rw[hg]at h;exact h.elim
   | some b=>
    rw[hg]at h;exact⟨fun e=>Ev (h.1 e) fun s' h'=>sv hk l s' h',fun e=>sv hk l _ (h.2 e)⟩
def fC{ds:List (Option Nat)}{K K':DS->MS->Prop}(hk: ∀s' M',K s' M'->K' s' M'): ∀(l:List aa) (s:DS) (M:MS),Z0 P ds l s M K->Z0 P ds l s M K'
 | [],s,M,h=>hk s M h
 | o::l,s,M,h=>by
  unfold Z0 at h ⊢;split at h
  ·exact sv (fun s' h'=>fC hk l s' M h') _ s h
  ·split at h
   ·exact StepM.mono h fun s' M' _ h'=>fC hk l s' M' h'
   ·rename_i j want _;cases hg:gV ds[j]? s.sl want with
    | none=>rw[hg]at h;exact h.elim
    | some b=>
     rw[hg]at h;exact⟨fun e=>StepM.mono (h.1 e) fun s' M' _ h'=>fC hk l s' M' h',fun e=>fC hk l _ M (h.2 e)⟩
def H8{A' B':Prop}(h:fk d A B)(ha:A->A')(hb:B->B'):fk d A' B':=by obtain⟨t,h1,h2,h3⟩:=h;exact⟨t,h1,fun e=>ha (h2 e),fun e=>hb (h3 e)⟩
variable {N:Nat} {pl:Nat->List (Nat×Mode)}
def e9: ∀(c:Code) {K K':ah->DS->MS->Prop} (s:DS) (M:MS),(∀e s' M',K e s' M'->K' e s' M')->XM P N pl c K s M->XM P N pl c K' s M
 | .skip,K,K',s,M,hk,h=>hk _ _ _ h
 | .region id ops draw,K,K',s,M,hk,h=>by
  cases draw with
  | true=>exact MW.mono h hk
  | false=>exact⟨h.1,fC (fun s' M'=>hk _ s' M') _ s M h.2⟩
 | .seq a b,K,K',s,M,hk,h=>e9 a s M (fun e s' M' h'=>by
   cases e with
   | normal=>exact e9 b s' M' hk h'
   | _=>exact hk _ _ _ h') h
 | .cond c a b,K,K',s,M,hk,h=>H8 h (e9 a s M hk) (e9 b s M hk)
 | .block id a,K,K',s,M,hk,h=>e9 a s M (fun e s' M' h'=>by
   cases e with
   | exit id'=>
    by_cases q:id'=id
    ·simp only[ZR,ae q]at h' ⊢;exact hk _ _ _ h'
    ·simp only[ZR,j7 q]at h' ⊢;exact hk _ _ _ h'
   | _=>exact hk _ _ _ h') h
 | .exit id,K,K',s,M,hk,h=>hk _ _ _ h
 | .ret,K,K',s,M,hk,h=>hk _ _ _ h
 | .label l,K,K',s,M,hk,h=>MW.mono h hk
 | .goto l,K,K',s,M,hk,h=>MW.mono h hk
 | .loop c,K,K',s,M,hk,h=>MW.mono h hk
 | .scope c,K,K',s,M,hk,h=>MW.mono h hk
 | .rangeFunc f p a b,K,K',s,M,hk,h=>MW.mono h hk
 | .refuse w,K,K',s,M,hk,h=>MW.mono h hk
end
def jnD{α:Type}(N:Nat)(sls:α->List (Nat×D))(bxs:α->List (Nat×Rows))(F:α->Prop)(K:ah->DS->Prop):ah->DS->Prop
 | .normal,s=>∃y,F y/\s.n=N/\SR s (sls y)/\AllB s (bxs y)
 | e,s=>K e s
def qfB{α:Type}(N:Nat)(sls:α->List (Nat×D))(bxs:α->List (Nat×Rows))(MM:α->MS)(F:α->Prop)(K:ah->DS->MS->Prop):ah->DS->MS->Prop
 | .normal,s,M=>∃y,F y/\s.n=N/\SR s (sls y)/\AllB s (bxs y)/\M=MM y
 | e,s,M=>K e s M
section
variable {α:Type} {P:Program} {N:Nat} {pl:Nat->List (Nat×Mode)} {sls:α->List (Nat×D)} {bxs:α->List (Nat×Rows)} {MM:α->MS} {F:α->Prop} {K:ah->DS->Prop} {KM:ah->DS->MS->Prop} {s:DS} {M:MS} {a b c d:Code} {i:Nat}
theorem qfz:qfB N sls bxs MM F KM .normal s M=∃y,F y/\s.n=N/\SR s (sls y)/\AllB s (bxs y)/\M=MM y:=rfl
theorem qfy:qfB N sls bxs MM F KM .ret s M=KM .ret s M:=rfl
theorem qfA:qfB N sls bxs MM F KM (.exit i) s M=KM (.exit i) s M:=rfl
def qej(sls:α->List (Nat×D))(bxs:α->List (Nat×Rows))(MM:α->MS)(F:α->Prop)(h1:XM P N pl a (qfB N sls bxs MM F KM) s M)(h2: ∀y,F y->∀s',s'.n=N->SR s' (sls y)->AllB s' (bxs y)->XM P N pl b KM s' (MM y)):XM P N pl (.seq a b) KM s M:=
 e9 a s M (fun e s' M' h=>by
  cases e with
  | normal=>obtain⟨y,h3,h4,h5,h6,h7⟩:=h;subst h7;exact h2 y h3 s' h4 h5 h6
  | _=>exact h) h1
def YN(sls:α->List (Nat×D))(bxs:α->List (Nat×Rows))(MM:α->MS)(F:α->Prop)(h1:XM P N pl (.seq a b) (qfB N sls bxs MM F KM) s M)(h2: ∀y,F y->∀s',s'.n=N->SR s' (sls y)->AllB s' (bxs y)->XM P N pl c KM s' (MM y)):XM P N pl (.seq a (.seq b c)) KM s M:=by have h:=qej (a:=.seq a b) (b:=c) (KM:=KM) sls bxs MM F h1 h2;exact e9 a s M (fun e s' M' h'=>by cases e<;>exact h') h
end
section
variable {P:Program} {N:Nat} {pl:Nat->List (Nat×Mode)} {KM:ah->DS->MS->Prop} {s:DS} {M:MS} {id:Nat} {l:List aa}
def xMW{K:ah->DS->MS->Prop}(h:MW P (.region id l.toArray true) s M K):XM P N pl (.region id l.toArray true) K s M:=h
def qgs(sls:List (Nat×D))(bxs:List (Nat×Rows))(h1:DW P (.region id l.toArray true) s (fun e s'=>e= .normal/\s'.Sub (kn N sls (ml bxs))))(h2:KM .normal (kn N sls (ml bxs)) M):XM P N pl (.region id l.toArray true) KM s M:=
 XL (Cz (DW.mono h1 fun e s' ⟨he,hs⟩=>⟨_,hs,by subst he;exact h2⟩))
end
attribute [go_sem ↓] qfz qfy qfA
section
variable {P:Program}
def fH(o:aa):Bool:=match o.op with
 | .move _| .assign _| .build .. | .load .. | .store .. | .fieldAddr .. | .alloc _| .box .. | .makeFunc .. =>true
 | _=>false
def Kf(h:fH o=true)(ρ:j9->j6)(w:j5):(∃v w',(execOp ρ o).run P w= .ok (.value v) w')\/(∃w',(execOp ρ o).run P w= .ok .skip w')\/∃x w',(execOp ρ o).run P w= .halt x w':=by
 have hv: ∀s:Sem j6,(∃v w',(do pure (Next.value (<-s)):Sem Next).run P w= .ok (.value v) w')\/(∃w',(do pure (Next.value (<-s)):Sem Next).run P w= .ok .skip w')\/∃x w',(do pure (Next.value (<-s)):Sem Next).run P w= .halt x w':=fun s=>by
  simp only[wq];cases s.run P w with
  | ok v w'=>simp
  | halt x w'=>simp
 have hu: ∀s:Sem Unit,(∃v w',(do s;pure Next.skip:Sem Next).run P w= .ok (.value v) w')\/(∃w',(do s;pure Next.skip:Sem Next).run P w= .ok .skip w')\/∃x w',(do s;pure Next.skip:Sem Next).run P w= .halt x w':=fun s=>by
  simp only[wq];cases s.run P w with
  | ok v w'=>simp
  | halt x w'=>simp
 unfold execOp;unfold fH at h;split at h<;>rename_i ho<;>first|(cases h;done)|skip
 all_goals simp only[ho]
 ·simp
 ·simp
 ·simp_all
 ·simp_all
 ·simp_all
 all_goals exact hv _
def eB(a:Act)(d:Option Nat)(v:j6):(a.put d v).defers=a.defers:=by cases d<;>rfl
def Dj(h:fH o=true){K:Act->j5->Prop}{Q:ah->Act->j5->Prop}(hw:o.wp P a w K Q):o.wp P a w (fun a' w'=>a'.defers=a.defers/\K a' w') Q:=by
 unfold j4 at*
 rcases Kf (P:=P) h a.eval w with⟨v,w',e⟩|⟨w',e⟩|⟨x,w',e⟩
 ·rw[e]at hw ⊢;exact⟨eB ..,hw⟩
 ·rw[e]at hw ⊢;exact⟨eB ..,hw⟩
 ·rw[e]at hw ⊢;cases x<;>exact hw
def Ge{ops:List aa}{i:Nat}{o:aa}(ho:ops[i]? =some o)(h:fH o=true){X:Origin}{s:DS}{a:Act}{w:j5}(hr:Z1 X s a w)(hd: ∀d,o.dst=some d->d<s.n){K:DS->Prop}{Q:ah->Act->j5->Prop}(hg:vc P ops o s K):
  wpOp P ops.toArray Q i (fun a' w'=>a'.defers=a.defers/\∃s',K s'/\Z1 X s' a' w') a w:=by
 unfold wpOp;rw[yI,ho];simp only;unfold vc at hg;split at hg
 ·rename_i t ht;rw[zn ht hr];split at hg
  ·rename_i h3;rw[ae h3];exact .inl (Dj h (yL (fun a' w' ⟨s',⟨_,hs'⟩,hr'⟩=>⟨s',hs',hr'⟩) (hg hd X a w hr Q)))
  ·rename_i h3;rw[j7 h3];exact⟨eB ..,_,hg,eC hr hd⟩
 ·grind
def ei{bs:List Deferred}{Q':ah->Act->j5->Prop}{ops r:List aa}{X:Origin}{N:Nat}{K:DS->Prop}(hK: ∀s a w,s.n=N->K s->Z1 X s a w->a.defers=bs->wpListIn (rd X.ro) 0 P ops.toArray Q' r a w): ∀(l:List aa) (s:DS) (a:Act) (w:j5),l.all fH=true->zM l N=true->s.n=N->Z1 X s a w->a.defers=bs->
  Qb P ops l s K->wpListIn (rd X.ro) 0 P ops.toArray Q' (l++r) a w
 | [],s,a,w,_,_,hn,hr,hd,h=>hK s a w hn h hr hd
 | o::l,s,a,w,hs,hb,hn,hr,hd,h=>by
  obtain⟨h0,h1,h2⟩:=Qu hb;simp only[List.all_cons,we]at hs;refine wpListIn_step fun K' hK'=>?_;simp only[Qb,vc]at h;split at h
  ·rename_i t ht;rw[zn ht hr];split at h
   ·rename_i h3;rw[ae h3];refine zV h0 (yL ?_ (Dj hs.1 (h (fun d hd=>by rw[hn];exact h1 d hd) X a w hr Q')));rintro a' w' ⟨hd',s',⟨hn',hs'⟩,hr'⟩;exact hK' _ _ (ei hK l s' a' w' hs.2 h2 (hn'.trans hn) hr' (hd'.trans hd) hs')
   ·rename_i h3;rw[j7 h3];refine⟨fun f _=>rv X.ro f,?_⟩;exact hK' _ _ (ei hK l _ _ w hs.2 h2 (by rw[zD];exact hn) (eC hr (fun d hd=>by rw[hn];exact h1 d hd)) ((eB ..).trans hd) h)
  ·grind
def Tw{id:Nat}{l:List aa}{X:Origin}{s:DS}{a:Act}{w:j5}(N:Nat)(E:List (List Nat))(full:Nat)(St:Nat->DS)(hm:P.follows .mixedOrders=true)(hE:l.map Qm=E)(hc:(dY l E&&l.all fH&&zM l N)=true)(hf:2 ^ l.length - 1=full)
  (hr:Z1 X s a w) (hd:a.defers= []) (h0:s.Sub (St 0)) (Cp: ∀m,(St m).n=N) (he:pD P l [] (l.map (·.dst)) St E (wR l.length)):
  (Code.region id l.toArray true).wp P (fun e a' w'=>e= .normal/\a'.defers= []/\Z1 X (St full) a' w') a w:=by
 simp only[we]at hc;obtain⟨⟨hc,hs⟩,hb⟩:=hc;refine MX E full (fun m a W=>a.defers= []/\Z1 X (St m) a W) hm hE hc hf ⟨hd,?_⟩ ?_ fun a w h=>⟨rfl,h⟩
 ·obtain⟨F,hF⟩:=h0 X a w hr;exact⟨F,hF.hush (Hush.drew _ w) rfl (hF.defers.of fun _ _ h=>h)⟩
 ·intro i o ho m h1 h2 h3 a W ⟨g1,g2⟩;have hi:=(wg.1 ho).1;have hw:=Bi he (yU.2 hi) m h1 h2 h3;simp only[zu,ho]at hw;have hg:=Zx hw;have cK:=fun d hd=>(by rw[Cp];exact(Qu (Qe hb (l':=[o]) fun x hx=>by simp at hx;subst hx;exact ww ho)).2.1 d hd:d<(St m).n);refine wpOp_mono (fun a' w' ⟨k1,s',k2,k3⟩=>⟨k1.trans g1,k2 X a' w' k3⟩) (Ge ho (wZ.1 hs o (ww ho)) g2 cK hg)
end
section
variable {P:Program}
def SN(P:Program)(g:am)(tag:Int->j6):Prop:=Program.plainF P g=true/\
 ∀(e:Int) (w:j5),Calls P g #[.int .i64 e] w fun en w'=>w'=w/\en=if e=0 then .returned (.tuple #[])else .panicked [{ v:=tag e,recovered:=false }]
def O7{g:am}{tag:Int->j6}(hc:SN P g tag){o:aa}{x:j9}{vy:Array j8}(ho:o.op= .call { callee:=.value (.func g),args:= #[x],argTypes:=vy }){X:Origin}{s:DS}{a:Act}{w:j5}(hr:Z1 X s a w)(hd: ∀d,o.dst=some d->d<s.n){e:Int}(he:s.ev x= .one (.c (.lit (.int .i64 e))))
  {K:DS->Prop} {Q:ah->DS->Prop} (h0:e=0->K (s.put o.dst (.tup []))) (h1:e≠0->Q (.panic [{ v:=tag e,recovered:=false }]) s):o.wp P a w (fun a' w'=>∃s',(s'.n=s.n/\K s')/\Z1 X s' a' w') (fun e a' w'=>∃s',Q e s'/\Z1 X s' a' w'):=by
 obtain⟨E,hE⟩:=hr;have hv:=hE.ev x;rw[he]at hv;have hv:=hv.lit;have qS:(execOp a.eval o).run P w= .ok (.enter g #[.int .i64 e]) w:=by unfold execOp;simp only[ho,wq];rw[vC a.eval (.func g) #[x] vy _ g #[] rfl w];simp only[wj,invoke,jL,wo,wm,hv,Array.append_empty];exact Qs hc.1 _ w
 unfold j4;rw[qS];refine Calls.mono (hc.2 e w) ?_;rintro en w' ⟨rfl,rfl⟩;by_cases h:e=0
 ·rw[ae h];exact⟨_,⟨zD ..,h0 h⟩,E,hE.putOnly hd (.tup [] #[] rfl (fun j d v h1 _=>by simp at h1))⟩
 ·rw[j7 h];exact⟨s,h1 h,E,hE⟩
def CB{id:Nat}{pre:List aa}{o:aa}{g:am}{tag:Int->j6}{s:DS}{Q:ah->DS->Prop}{x:j9}{vy:Array j8}(N:Nat)(hc:SN P g tag)(h:wk P ((pre++[o]).map (·.dst)) (bq pre) s fun s1=>∃e,s1.ev x= .one (.c (.lit (.int .i64 e)))/\(e=0->Q .normal (s1.put o.dst (.tup [])))/\(e≠0->Q (.panic [{ v:=tag e,recovered:=false }]) s1))
  (hn:s.n=N:=by rfl) (hb:zM (pre++[o]) N=true:=by kernel_rfl) (hg:o.guard=none:=by rfl) (ho:o.op= .call { callee:=.value (.func g),args:= #[x],argTypes:=vy }:=by rfl):DW P (.region id (pre++[o]).toArray false) s Q:=by
 intro X a w hr;refine wpIn_region_lit (ZG (K:=fun s1=>∃e,s1.ev x= .one (.c (.lit (.int .i64 e)))/\(e=0->Q .normal (s1.put o.dst (.tup [])))/\(e≠0->Q (.panic [{ v:=tag e,recovered:=false }]) s1)) (r:=[o]) (fun s1 a1 w1 pj iD ef=>?_) pre s a w (Qe hb fun y hy=>jH _ hy) hn hr (zA _ _ h));obtain⟨e,he,h0,h1⟩:=iD;obtain⟨g0,g1,_⟩:=Qu (Qe hb (l':=[o]) fun y hy=>List.mem_append_right _ hy);refine wpListIn_step fun K' hK'=>?_;rw[zn (t:=true) (by simp[vX,hg]) ef,ae rfl];refine zV g0 (yL ?_ (O7 hc ho ef (fun d hd=>by rw[pj];exact g1 d hd) he (K:=fun s'=>Q .normal s') h0 h1));rintro a' w' ⟨s',⟨_,hs'⟩,hr'⟩;exact hK' _ _ (wpListIn_nil ⟨s',hs',hr'⟩)
end
def Y(P:Program)(N:Nat)(pl:Nat->List (Nat×Mode))(ms:List Nat):Code->(ah->DS->Prop)->DS->Prop
 | .region id ops draw,K,s=>if ms.contains id then DW P (.region id ops draw) s K else X P N pl (.region id ops draw) K s
 | .seq a b,K,s=>Y P N pl ms a (vP (fun s'=>Y P N pl ms b K s') K) s
 | .cond c a b,K,s=>fk (s.ev c) (Y P N pl ms a K s) (Y P N pl ms b K s)
 | .block id a,K,s=>Y P N pl ms a (zo id K) s
 | .loop c,K,s=>DW P (.loop c) s K
 | c,K,s=>X P N pl c K s
def Mv{P:Program}{N:Nat}{pl:Nat->List (Nat×Mode)}{ms:List Nat}: ∀(c:Code) (K:ah->DS->Prop) (s:DS),rO N c=true->Y P N pl ms c K s->DW P c s K
 | .region id ops draw,K,s,hc,h=>by
  unfold Y at h;split at h
  ·exact h
  ·exact aR _ K s hc h
 | .seq a b,K,s,hc,h=>by
  simp only[rO,we]at hc;refine qk ((Mv a _ s hc.1 h).mono fun e s' h'=>?_);cases e with
  | normal=>exact Mv b K s' hc.2 h'
  | _=>exact h'
 | .cond c a b,K,s,hc,h=>by
  simp only[rO,we]at hc;obtain⟨t,h1,h2,h3⟩:=h;exact qW h1 (fun e=>Mv a K s hc.1 (h2 e)) (fun e=>Mv b K s hc.2 (h3 e))
 | .block id a,K,s,hc,h=>qm (Mv a _ s hc h)
 | .loop c,K,s,_,h=>h
 | .skip,K,s,hc,h=>aR _ K s hc h
 | .exit id,K,s,hc,h=>aR _ K s hc h
 | .ret,K,s,hc,h=>aR _ K s hc h
 | .label l,K,s,hc,h=>aR _ K s hc h
 | .goto l,K,s,hc,h=>aR _ K s hc h
 | .scope c,K,s,hc,h=>aR _ K s hc h
 | .rangeFunc f p a b,K,s,hc,h=>aR _ K s hc h
 | .refuse w,K,s,hc,h=>aR _ K s hc h
def Nx(P:Program)(N:Nat)(pl:Nat->List (Nat×Mode))(ms:List Nat)(b:Code)(K:ah->DS->Prop):ah->DS->Prop:=vP (fun s=>Y P N pl ms b K s) K
def qcY(P:Program)(N:Nat)(pl:Nat->List (Nat×Mode))(ms:List Nat)(d:D)(a b:Code)(K:ah->DS->Prop)(s:DS):Prop:=fk d (Y P N pl ms a K s) (Y P N pl ms b K s)
section
variable {P:Program} {N:Nat} {pl:Nat->List (Nat×Mode)} {ms:List Nat} {a b:Code} {K:ah->DS->Prop} {s:DS}
theorem qdj:Y P N pl ms .skip K s=K .normal s:=rfl
def qga{id:Nat}(h:ms.contains id=false):Y P N pl ms (.region id l.toArray false) K s=(s.n=N/\wk P (l.map (·.dst)) (bq l) s (K .normal)):=by unfold Y;rw[h,j7 oh];rfl
def qdk{id:Nat}{l:Array aa}(h:ms.contains id=true):Y P N pl ms (.region id l false) K s=DW P (.region id l false) s K:=by unfold Y;rw[ae h]
def qdl{id:Nat}{l:Array aa}(h:ms.contains id=false):Y P N pl ms (.region id l true) K s=X P N pl (.region id l true) K s:=by unfold Y;rw[h,j7 oh]
theorem qf8:Y P N pl ms (.seq a b) K s=Y P N pl ms a (Nx P N pl ms b K) s:=rfl
theorem qdo{c:j9}:Y P N pl ms (.cond c a b) K s=qcY P N pl ms (s.ev c) a b K s:=rfl
theorem qgb{id:Nat}:Y P N pl ms (.block id a) K s=Y P N pl ms a (zo id K) s:=rfl
theorem qdn{id:Nat}:Y P N pl ms (.exit id) K s=K (.exit id) s:=rfl
theorem qf9:Y P N pl ms .ret K s=K .ret s:=rfl
theorem qdm:Y P N pl ms (.loop a) K s=DW P (.loop a) s K:=rfl
theorem qag:Nx P N pl ms b K .normal s=Y P N pl ms b K s:=rfl
theorem qae:Nx P N pl ms b K .ret s=K .ret s:=rfl
theorem qah:Nx P N pl ms b K (.exit i) s=K (.exit i) s:=rfl
theorem qaf:Nx P N pl ms b K (.panic ch) s=K (.panic ch) s:=rfl
theorem qfD{id:Nat}:zo id K (.panic ch) s=K (.panic ch) s:=rfl
theorem qes{next:DS->Prop}:vP next K (.panic ch) s=K (.panic ch) s:=rfl
def qfT:qcY P N pl ms (.one (.c (.lit (.bool true)))) a b K s=Y P N pl ms a K s:=by simp only[qcY,Qw,sS]
def qfU:qcY P N pl ms (.one (.c (.lit (.bool false)))) a b K s=Y P N pl ms b K s:=by simp only[qcY,Qw,sT]
def yc(h1:t=true->Y P N pl ms a K s)(h2:t=false->Y P N pl ms b K s):qcY P N pl ms (.one (.c (.lit (.bool t)))) a b K s:=by simp only[qcY,Qw];exact⟨h1,h2⟩
def yw(pl:Nat->List (Nat×Mode))(ms:List Nat)(h:Y P N pl ms c K s)(hc:rO N c=true:=by kernel_rfl):DW P c s K:=Mv c K s hc h
end
attribute [go_sem ↓] qdj qga qdl qdk qf8 qdo qgb qdn qf9 qdm qag qae qah qaf qfD qes
attribute [go_sem] qfT qfU
section
variable {P:Program}
def Step.utab{o:aa}{s:DS}{K:DS->Prop}{t el:j8}{g n sz len j:Nat}{x:j9}{k:IntKind}(ho:o.op= .indexAddr t (.global g) x)(ht:P.underlying t=some (.array len el))(hs:(P.info? el).map (·.size)=some sz)
  (hx:s.ev x= .one (.c (.lit (.int k (j:Int))))) (hj:j<len) (hg:(g,n)∈utab) (hn:len*sz<=n) (h: ∀zs:List Int,zs.length=sz->(∀z∈zs,0<=z/\z<256)->K (s.put o.dst (.one (.c (.pt (zs.map fun z=>.lit (.int .u8 z))))))):Step P o s K:=by
 rintro hd X a w ⟨E,hE⟩ Q;have hv:=hE.ev x;rw[hx]at hv;have hv:=hv.lit;have QE: ∀i,i<sz->E.K g (j*sz+i)/\∃z,w.cell? ⟨g,j*sz+i,none⟩=some (.int .u8 z)/\0<=z/\z<256:=fun i hi=>by refine hE.wi.kok.e.2 (g,n) hg (j*sz+i) ?_;have:(j+1)*sz<=len*sz:=wQ sz hj;rw[yo,jd]at this;show j*sz+i<n;omega
 obtain⟨f,hf⟩: ∃f:Nat->Int,∀i,i<sz->w.cell? ⟨g,j*sz+i,none⟩=some (.int .u8 (f i))/\0<=f i/\f i<256:=by refine⟨fun i=>if hi:i<sz then(QE i hi).2.choose else 0,fun i hi=>?_⟩;simp only[dif_pos hi];exact(QE i hi).2.choose_spec
 have vo:(sizeOf el).run P w= .ok sz w:=by
  cases hi:P.info? el with
  | none=>grind
  | some i=>rw[hi]at hs;injection hs with hs;simp[sizeOf,typeInfo,hi,hs]
 refine vg (v:=.pointer (some ⟨g,j*sz,none⟩)) (w':=w) ?_ ⟨_,⟨by rw[zD],h ((wR sz).map f) oh fun z hz=>?_⟩,?_⟩
 ·unfold execOp;have e0:a.eval (.global g)= .pointer (some ⟨g,0,none⟩):=rfl;simp only[ho,hv,e0,Instr.indexAt,asIntOf,wq,run_underlying ht,wj,wG,Instr.sureAddr];have h0:(0:Int)<=(j:Int)/\(j:Int)<(len:Int):=oa;simp only[ae h0,wq,vo,wj,wG,wO,vE,yi]
 ·grind
 ·refine⟨E,hE.putOnly hd (.one _ _ (.c _ _ (.pt _ g (j*sz) (fun i=>.int .u8 (f i)) (fun i hi=>?_) fun i c hc=>?_)))⟩
  ·grind
  ·rw[yn,wh,wK]at hc;obtain⟨y,hy,rfl⟩:=hc;have:y=i:=og;subst this;exact .lit _ rfl
def Bj{id:Nat}{pre post:List aa}{o:aa}{s:DS}{Q:ah->DS->Prop}(N:Nat)(h:wk P ((pre++o::post).map (·.dst)) (bq pre) s fun s1=>Step P o s1 fun s2=>wk P ((pre++o::post).map (·.dst)) (bq post) s2 (Q .normal))
  (hn:s.n=N:=by rfl) (hb:zM (pre++o::post) N=true:=by kernel_rfl) (hg:o.guard=none:=by rfl):DW P (.region id (pre++o::post).toArray false) s Q:=by
 intro X a w hr;have AY: ∀{l:List aa} {s:DS} {K:DS->Prop},wk P ((pre++o::post).map (·.dst)) (bq l) s K->Qb P (pre++o::post) l s K:=fun h=>zA _ _ h;refine wpIn_region_lit (ZG (K:=fun s1=>Step P o s1 fun s2=>wk P ((pre++o::post).map (·.dst)) (bq post) s2 (Q .normal)) (r:=o::post) (fun s1 a1 w1 pj iD ef=>?_) pre s a w (Qe hb fun y hy=>jH _ hy) hn hr (AY h));obtain⟨g0,g1,g2⟩:=Qu (Qe hb (l':=o::post) fun y hy=>List.mem_append_right _ hy);refine wpListIn_step fun K' hK'=>?_;rw[zn (t:=true) (by simp[vX,hg]) ef,ae rfl];refine zV g0 (yL ?_ (iD (fun d hd=>by rw[pj];exact g1 d hd) X a1 w1 ef _));rintro a' w' ⟨s',⟨hn',hs'⟩,hr'⟩;have:=sw (ro:=X.ro) (P:=P) (ops:=pre++o::post) (X:=X) (N:=N) (K:=Q .normal) (Q':=fun e a w=>∃s',Q e s'/\Z1 X s' a w) (fun s a w h1 h2=>⟨s,h1,h2⟩) post s' a' w' g2 (hn'.trans pj) hr' (AY hs');exact hK' _ _ this
end
def qea(f:Lit->Option (List C))(kl:Lit)(cs:List C):Lit->Option (List C):=fun l=>@ite _ (l=kl) (Classical.propDecidable _) (some cs) (f l)
def uU(f:Lit->Option (List C))(kl:Lit)(cs:List C):qea f kl cs kl=some cs:=by unfold qea;rw[ae rfl]
def pn{f:Lit->Option (List C)}{kl l:Lit}(h:l≠kl):qea f kl cs l=f l:=by unfold qea;rw[j7 h]
section
variable {P:Program} {o:aa} {s:DS} {M:MS} {K:DS->MS->Prop}
def IE{E':Env}(h:VD w E (.agg (cs.map T.c)) v)(hK:E'.K=E.K):VD w E' (.agg (cs.map T.c)) v:=by
 cases h with
 | agg ts vs hl hr=>
  refine .agg _ _ hl fun j t u h1 h2=>?_;have h3:=hr j t u h1 h2;rw[wh,wK]at h1;obtain⟨c,_,rfl⟩:=h1;cases h3 with|c c v h3=>exact .c _ _ (by rw[hK];exact h3)
def StepM.makeMapV{t:j8}(ho:o.op= .makeMap t none)(k:j8)(h: ∀b,M b=none->K (s.put o.dst (XN b)) (M.set b (.mv k 0 fun _=>none))):StepM P o s M K:=by intro hd G X a w hr Q;refine vg (v:=.map (some w.heap.size)) (w':=w.alloc (.map #[] 0)) (by simp only[execOp,ho,Option.map_none,wq,run_makeMap,wj,wG]) ⟨_,_,⟨zD _ _ _,h _ hr.fresh⟩,?_⟩;exact(hr.alloc _ (m:=.mv k 0 fun _=>none) fun _=>⟨.map [],World.ownsMap_made w P k qeI,isMap_empty,fun kl=>by simp[jl],fun kl cs h=>by cases h⟩).put hd fun E=>.one _ _ (.c _ _ (.lit _ rfl))
def StepM.lookupV{t:j8}{m x:j9}(ho:o.op= .lookup t m x true){b:Nat}{k e:j8}{n:Nat}{f:Lit->Option (List C)}(hb:M b=some (.mv k n f))(hm:s.ev m=XN b)(hK:Keyed P k)(ht:P.underlying t=some (.map k e)){z:j6}(hz: ∀w,(zeroValue e).run P w= .ok z w){dz:D}(hdz: ∀w E,VD w E dz z)
  {key:j6} {kl:Lit} (hx:s.ev x= .one (.c (.lit key))) (lG:keyOf P k key=some kl) (h1: ∀cs,f kl=some cs->K (s.put o.dst (.tup [.agg (cs.map T.c),.one (.c (.lit (.bool true)))])) M) (h0:f kl=none->K (s.put o.dst (.tup [dz,.one (.c (.lit (.bool false)))])) M):StepM P o s M K:=by
 intro hd G X a w hr Q;obtain⟨x0,E,q1,hE,q3,q4⟩:=id hr;obtain⟨D,eM,him,hhas,ZS⟩:=q3 b _ hb;obtain⟨u,ps,qS,hu⟩:=World.ownsMap.look_ok eM hK ht (hz w) (zd:=.held z) (zp:=[]) rfl lG;have hu:DataW.held u=D.atKey kl (.held z):=af (fun p=>p.1) (Option.some.inj hu);refine vg (v:=.tuple #[u,.bool (jl D kl)]) (w':=w) (by simp only[execOp,ho,hr.ev hm,hr.ev hx,wq,qS,wj,wG]) ?_;have key: ∀d,VD w E d u->RelM P G X (s.put o.dst (.tup [d,.one (.c (.lit (.bool (jl D kl))))])) M (a.put o.dst (.tuple #[u,.bool (jl D kl)])) w:=fun d hdu=>
  ⟨x0,E,q1,hE.putOnly hd (.tup _ _ rfl fun j d' v h2 h3=>by
   match j with
   | 0=>simp at h2 h3;subst h2;subst h3;exact hdu
   | 1=>simp at h2 h3;subst h2;subst h3;exact .one _ _ (.c _ _ (.lit _ rfl))
   | _+2=>simp at h2),q3,q4⟩
 cases hf:f kl with
 | none=>
  have hh:jl D kl=false:=og;rw[atKey_of_not_has hh]at hu;injection hu with hu
  subst hu;refine⟨_,_,⟨zD _ _ _,h0 hf⟩,?_⟩;have:=key dz (hdz w E);rw[hh]at this ⊢;exact this
 | some cs=>
  have hh:jl D kl=true:=og;obtain⟨v0,g1,g2⟩:=ZS kl cs hf;rw[g1]at hu;injection hu with hu
  subst hu;refine⟨_,_,⟨zD _ _ _,h1 cs hf⟩,?_⟩;have:=key (.agg (cs.map T.c)) (IE g2 rfl);rw[hh]at this ⊢;exact this
def StepM.updateV{t:j8}{m x y:j9}(ho:o.op= .mapUpdate t m x y)(hm':o.dst=none){b:Nat}{k e:j8}{n:Nat}{f:Lit->Option (List C)}(hb:M b=some (.mv k n f))(hm:s.ev m=XN b)(hK:Keyed P k)(ht:P.underlying t=some (.map k e))(hn:n<maxLen)
  {key:j6} {kl:Lit} (hx:s.ev x= .one (.c (.lit key))) (lG:keyOf P k key=some kl) {cs:List C} (hy:s.ev y= .agg (cs.map T.c)) (r9: ∀r m,M r=some m->r≠b->¬m.on b) (h:K s (M.set b (.mv k (n+1) (qea f kl cs)))):StepM P o s M K:=by
 intro hd G X a w hr Q;obtain⟨x0,E,h1,hE,h3,h4⟩:=id hr;obtain⟨D,eM,him,hhas,ZS⟩:=h3 b _ hb;obtain⟨w',qS,g1,g2⟩:=World.ownsMap.store eM hK ht hn lG (val:=a.eval y) (d:=.held (a.eval y)) (ps:=[]) rfl;have hyv:=hE.ev y;rw[hy]at hyv;refine fA (w':=w') (by simp only[execOp,ho,hr.ev hm,hr.ev hx,wq,qS,wj,wG]) ⟨s,_,⟨rfl,h⟩,?_⟩;rw[hm'];have vo:w'.heap.size=w.heap.size:=by obtain⟨_,_,_,_,_,rfl⟩:=g2;simp[Go.ChangeMaps.setBlock]
 have E7:MapLike w b:=by obtain⟨es,c,q,_⟩:=eM;exact⟨_,q,rfl⟩
 have hlk':MapLike w' b:=by obtain⟨es,c,q,_⟩:=g1;exact⟨_,q,rfl⟩
 have t:MT (fun c=>c=b) w w':=EC g2.grown vo E7 hlk';refine⟨be x0 w',E,h1.trans ((mG hE.wi.turn t).1.mono fun c hc e=>?_),hE.mt t,fun c m' hc=>?_,fun c hc qf=>?_⟩
 ·subst e;exact h4 c (by rw[hb];rfl) (by rw[h1.size]at hc;exact hc)
 ·by_cases e:c=b
  ·simp only[MS.set,e,an]at hc;injection hc with hc;subst hc;rw[e]
   refine⟨D.put kl (.held (a.eval y)),g1,him.put _ _,fun l=>?_,fun l cs' hl=>?_⟩
   ·by_cases el:l=kl
    ·subst el;rw[has_put_same him (hK.key lG),uU];rfl
    ·rw[has_put_other el,pn el,hhas]
   ·by_cases el:l=kl
    ·subst el;rw[uU]at hl;injection hl with hl;subst hl
     exact⟨_,fun zd=>atKey_put_same him (hK.key lG) _ _,IE (hyv.mono (t.later E)) rfl⟩
    ·rw[pn el]at hl;obtain⟨v,u1,u2⟩:=ZS l cs' hl;exact⟨v,fun zd=>by rw[atKey_put_other el];exact u1 zd,u2.mono (show Later w (E0 E.K) w' (E0 E.K) from⟨fun b o h=>⟨h,t.cell b o⟩,rfl,rfl⟩)⟩
  ·simp only[MS.set,e,ap]at hc;have qH:=r9 c m' hc e;exact(h3 c m' hc).keep1 (fun b o q=>⟨q,t.cell b o⟩) ((t.block c).resolve_right fun g=>e g.1) fun d hd _=>(t.block d).resolve_right fun g=>qH (g.1▸hd)
 ·by_cases e:c=b
  ·grind
  ·simp only[MS.set,e,ap]at hc;exact h4 c hc qf
end
def xoM{K:ah->DS->MS->Prop}(t n sz:Nat)(h:XM P N pl (.loop c) K ((s.close [n]).put (some t) (.one (.own n sz []))) M)(h0:s.sl t= .one (.c (.lit (.slice none 0 0))):=by simp +decide only[go_sem]):XM P N pl (.loop c) K s M:=qbe (IG t n sz h0) h
def DCalls.le{r':D}(h:DCalls P f ds r)(vh:DLe r r'):DCalls P f ds r':=by refine⟨h.1,fun w K vs hk hl hv=>(h.2 w K vs hk hl hv).mono ?_⟩;rintro e w' ⟨v,E',h1,h2,h3⟩;exact⟨v,E',h1,h2,vh _ _ _ h3⟩
section
variable {P:Program}
def ifz(t:j8):Dl.C:=.lit (.iface t (.agg #[]))
def VD.agg0(h:VD w E (.agg []) v):v= .agg #[]:=by
 cases h with|agg ts vs hl hr=>rw[Array.eq_empty_of_size_eq_zero (xs:=vs) (by simpa using hl)]
def Step.ifz{t:j8}{x:j9}{fs:Array Field}(ho:o.op= .makeInterface t x)(ht:P.underlying t=some (.struct fs))(hx:s.ev x= .agg [])(h:K (s.put o.dst (.one (.c (Dl.ifz t))))):Step P o s K:=by rintro hd X a w ⟨E,hE⟩ Q;have hv:=hE.ev x;rw[hx]at hv;have hv:=hv.agg0;refine vg (v:=.iface t (.agg #[])) (w':=w) ?_ ⟨_,⟨by rw[zD],h⟩,E,hE.putOnly hd (.one _ _ (.c _ _ (.lit _ rfl)))⟩;unfold execOp;simp only[ho,hv,Instr.makeInterface,wq,run_underlying ht,wj,wG]
def Step.invoke{o:aa}{s:DS}{K:DS->Prop}{recv:j9}{name:String}{args:Array j9}{vy:Array j8}{t:j8}{g:am}{ds:List D}{R:D->Prop}(ho:o.op= .call { callee:=.invoke recv name,args:=args,argTypes:=vy })
  (hr:s.ev recv= .one (.c (Dl.ifz t))) (hm: ∀(vs:Array j6) w,(callMethod (.iface t (.agg #[])) name vs).run P w= .ok (.enter g (#[.agg #[]]++vs)) w)
  (vh:LeL (D.agg []::(args.toList.map s.ev).map D.cl) ds) (hc:NCalls P g ds R) (h: ∀r,R r->K (zI s o.dst r)):Step P o s K:=by
 rintro hd X a w ⟨E,hE⟩ Q;have hv:=hE.ev recv;rw[hr]at hv;have hv:=hv.lit;obtain⟨h1,h2⟩:=sW (fun x=>hE.ev x) args.toList [] #[] rfl (fun j c v h=>by simp at h);have hA: ∀(j:Nat) d v,(D.agg []::(args.toList.map s.ev).map D.cl)[j]? =some d->(#[Value.agg #[]]++args.map a.eval)[j]? =some v->VD w (E0 E.K) d v:=by
  intro j d v g1 g2;cases j with
  | zero=>
   have g2':v= .agg #[]:=og;have g1':d= .agg []:=og;subst g1';subst g2';exact .agg _ _ rfl fun j t v h=>by simp at h
  | succ j=>grind
 have hL:=lW vh hA;have h1':(#[Value.agg #[]]++args.map a.eval).size=ds.length:=og;have cp:=hc.2 w E.K _ hE.wi.kok h1' hL.2;have qS:(execOp a.eval o).run P w= .ok (.enter g (#[.agg #[]]++args.map a.eval)) w:=by unfold execOp;simp only[ho,wq,resolve,wG,wj,invoke,hv];have e1:(#[Value.iface t (.agg #[])]++args.map a.eval)[0]? =some (.iface t (.agg #[])):=og;have e2:(#[Value.iface t (.agg #[])]++args.map a.eval).extract 1 (#[Value.iface t (.agg #[])]++args.map a.eval).size=args.map a.eval:=oh;unfold Go.invoke;simp only[e1,e2];exact hm _ w
 unfold j4;rw[qS];refine Calls.mono cp ?_;rintro e w' ⟨v,E',r,rfl,hR,pg,hvd⟩;have h:=h r hR;cases cK:o.dst with
 | none=>
  rw[cK]at h;exact⟨s,⟨rfl,h⟩,_,hE.quiet pg.quiet⟩
 | some m=>
  rw[cK]at h;exact⟨_,⟨mB s m r,h⟩,oN hE pg (hd m cK) hvd⟩
def nT{ops l2:List aa}{K:DS->Prop}: ∀(l1:List aa) (s:DS),Qb P ops l1 s (fun s'=>Qb P ops l2 s' K)->Qb P ops (l1++l2) s K
 | [],_,h=>h
 | o::l,s,h=>by
  simp only[Qb,vc]at h;simp only[wD,Qb,vc];split at h
  ·split at h
   ·rename_i h3;rw[ae h3];exact h.mono fun s' _ hs'=>nT l s' hs'
   ·rename_i h3;rw[j7 h3];exact nT l _ h
  ·omega
def vL(l1:List aa){l2:List aa}(h:wk P (ops.map (·.dst)) (bq l1) s (fun s'=>Qb P ops l2 s' K)):Qb P ops (l1++l2) s K:=nT l1 s (zA l1 s h)
def iP(h:K s):Qb P ops [] s K:=h
def zq(h:Step P o s fun s'=>Qb P ops l s' K)(hg:o.guard=none:=by rfl):Qb P ops (o::l) s K:=by simp only[Qb,vc];rw[show vX ops s o=some true from by simp[vX,hg]];exact h
end
def xz{K:ah->DS->Prop}(t k sz:Nat)(h:X P N pl (.loop c) K ((s.setBx k (some [])).put (some t) (.one (.ba k sz 0 0 0))))(h0:s.sl t= .one (.c (.lit (.slice none 0 0))):=by simp +decide only[go_sem]):X P N pl (.loop c) K s:=qn (sub_zero t k sz (.inl h0)) h
open Go.Sort
def Ua{α:Type} [Inhabited α]{P:Program}{f g:am}(k:Nat)(zr:α->List j6)(Z5:0<k)(hk: ∀x,(zr x).length=k)(ho: ∀x,∀v∈zr x,v.oneCell'=true)(hp:Program.plainF P f=true)(G:List α->List α->Prop)
  (q cap:Nat) (H:vT) (xs:List α) (js:Rows) (hq:H q=some (cr (xs.map fun x=>(zr x).map C.lit)++js)) (E8:RowsSz k js) (h0:xs≠ [])
  (hs: ∀(Ij cap:Nat) (w:j5),Holds id w Ij 0 ((Array.range (xs.length*k)).map fun t=>(zr xs[t / k]!)[t % k]!)->Ij<w.heap.size->
   Calls P f #[.slice (some ⟨Ij,0,none⟩) xs.length cap,.func (.func g) #[] #[]] w fun e w'=>e= .returned (.tuple #[])/\∃(ys:List α) (n:Nat) (os:Array Obj),ys.length=xs.length/\G xs ys/\w'=grow (putRow id (jx w n) Ij 0 ((Array.range (ys.length*k)).map fun t=>(zr ys[t / k]!)[t % k]!)) os):
  ECalls P f [.one (.ba q k 0 xs.length cap),.one (.c (.fn g []))] H (fun r H'=>r= .tup []/\∃ys,ys.length=xs.length/\G xs ys/\H'=fun k'=>if k'=q then some (cr (ys.map fun x=>(zr x).map C.lit)++js)else H k'):=by
 refine⟨hp,fun w E F vs aM vo hv=>?_⟩;obtain⟨v,v2,rfl⟩: ∃v v2,vs= #[v,v2]:=by
  match vs,vo with
  | ⟨[a,b]⟩,_=>exact⟨a,b,rfl⟩
 have Jn:=hv 0 _ v rfl rfl;have xZ:=hv 1 _ v2 rfl rfl;obtain rfl:v2= .func (.func g) #[] #[]:=by
  cases xZ with|one t v xZ=>cases xZ with|c c v xZ=>cases xZ with
   | fn f caps vs hl hr=>
    have:vs= #[]:=og;rw[this]
 have qZ:0<xs.length:=og;have LD: ∃c,v= .slice (some ⟨E.ρ q,0,none⟩) xs.length c:=by
  generalize vh:xs.length=len at Jn qZ;cases Jn with|one t v Jn=>cases Jn with
   | ba n sz i len cap h hm=>exact⟨cap,oh⟩
   | bz n sz i A=>omega
 obtain⟨c,rfl⟩:=LD;have qH:cr (xs.map fun x=>(zr x).map C.lit)++js≠ []:=by intro e;have:=af List.length (List.append_eq_nil_iff.1 e).1;rw[qK,wn,wT]at this;omega
 obtain⟨g1,g2,g3⟩:=aM.boxes q _ hq qH;obtain⟨arr,e,k1,sz,k3,k4,k5⟩:=g2.rowsIs;have PW: ∀(zs:List α) (i:Nat) (x:α),zs[i]? =some x->(cr (zs.map fun x=>(zr x).map C.lit))[i]? =some (((zr x).map C.lit).map T.c):=fun zs i x h=>by have:=iJ (xs:=zs.map fun x=>(zr x).map C.lit) (js:=[]) (x:=(zr x).map C.lit) (by rw[wh,h];rfl);rwa [yG]at this
 have hszk:sz=k:=by have hx:xs[0]? =some xs[0]:=oh;have:=k3 _ (jH _ (ww (PW xs 0 _ hx)));rw[<-this];simp[hk]
 subst hszk;have vG:arr.size=(xs.length+js.length)*sz:=by rw[k4,wz,qK,wn]
 have Qg: ∀t,t<xs.length*sz->arr[t]? =some ((zr xs[t / sz]!)[t % sz]!):=fun t ht=>by
  have hi:t / sz<xs.length:=(Nat.div_lt_iff_lt_mul Z5).2 ht;have hj:t % sz<sz:=Nat.mod_lt _ Z5;have XX:t<arr.size:=og;have hx:xs[t / sz]? =some xs[t / sz]! :=og;have hvl:(zr xs[t / sz]!)[t % sz]? =some ((zr xs[t / sz]!)[t % sz]!):=by have A8:t % sz<(zr xs[t / sz]!).length:=og;rw[getElem!_pos (zr xs[t / sz]!) (t % sz) A8];exact wa A8
  have h1:=k5 (t / sz) (t % sz) _ (T.c (.lit ((zr xs[t / sz]!)[t % sz]!))) arr[t] (by rw[wU (by rw[qK,wn];exact hi)];exact PW xs _ _ hx) (by rw[yn,wh,hvl];rfl) (by rw[Nat.div_add_mod' t sz];exact wY XX);rw[wY XX];have hd:VD w E (.one (.c (.lit ((zr xs[t / sz]!)[t % sz]!)))) arr[t]:=.one _ _ h1;rw[hd.lit]
 have HL:E.ρ q<w.heap.size:=og;have hH:Holds id w (E.ρ q) 0 ((Array.range (xs.length*sz)).map fun t=>(zr xs[t / sz]!)[t % sz]!):=fun j hj=>by have hj':j<xs.length*sz:=og;refine⟨?_,by simp[World.frozen?,k1]⟩;have:=Qg j hj';simp only[World.cell?,k1,yi];rw[getElem!_pos _ j hj];simpa using this
 refine(hs (E.ρ q) c w hH HL).mono ?_;rintro en w' ⟨rfl,ys,n,os,Vy,hG,rfl⟩;obtain⟨fl,P8⟩: ∃fl,fl=(Array.range (ys.length*sz)).map fun t=>(zr ys[t / sz]!)[t % sz]! :=⟨_,rfl⟩
 have Tg:fl.size=xs.length*sz:=og;rw[<-P8];obtain⟨arr',harr'⟩: ∃arr',arr'=putCells id 0 fl arr:=⟨_,rfl⟩;have hsz':arr'.size=arr.size:=by rw[harr'];simp[putCells]
 have ZE:RowSet w (putRow id (jx w n) (E.ρ q) 0 fl) (E.ρ q) e arr arr':=by
  refine⟨k1,?_,hsz',by simp[putRow,mapBlock,jx],fun k hk=>?_,rfl,rfl,rfl⟩
  ·simp[putRow,mapBlock,jx,Array.getElem?_modify,k1,onCells,harr']
  ·simp[putRow,mapBlock,jx,Array.getElem?_modify,Ne.symm hk]
 have hv':RowsIs w E arr' (cr (ys.map fun x=>(zr x).map C.lit)++js):=by
  refine⟨sz,fun r hr=>?_,by rw[hsz',vG,wz,qK,wn,Vy],fun i j r t v h1 h2 h3=>?_⟩
  ·rcases wF.1 hr with hr|hr
   ·exact nu (sz:=sz) (fun r hr=>by obtain⟨x,_,rfl⟩:=wN.1 hr;simp[hk]) r hr
   ·grind
  ·by_cases hi:i<ys.length
   ·have hy:ys[i]? =some ys[i]:=by simp
    rw[wU (by rw[qK,wn];exact hi),PW ys i _ hy]at h1;injection h1 with h1;subst h1
    rw[yn,wh,wK]at h2;obtain⟨u,hu,rfl⟩:=h2;have hj:j<sz:=og;have A9:i*sz+j<xs.length*sz:=by have:(i+1)*sz<=xs.length*sz:=wQ _ oa;rw[yo,jd]at this;omega
    have hia:i*sz+j<arr.size:=og;have e1:(i*sz+j) / sz=i:=by rw[jF,Nat.mul_add_div Z5,Nat.div_eq_of_lt hj,jB]
    have e2:(i*sz+j) % sz=j:=by rw[jF,Nat.mul_add_mod,Nat.mod_eq_of_lt hj]
    have mZ:fl[i*sz+j]? =some u:=og;have:v=u:=by
     have hfp:i*sz+j<fl.size:=oa;rw[harr',putCells,Array.getElem?_mapIdx,wY hia]at h3;simp only[yO,yi,wM,true_and,jW,hfp,an]at h3;injection h3 with h3
     rw[<-h3,getElem!_pos fl (i*sz+j) hfp];have:=(wH.1 mZ).2;rw[this];rfl
    subst this;exact .c _ _ (.lit _ (ho _ _ (ww hu)))
   ·rw[wL (by rw[qK,wn];omega)]at h1;have ef:r.length=sz:=og;have hj:j<sz:=og;refine k5 i j r t v ?_ h2 ?_
    ·rw[wL (by rw[qK,wn];omega)];rw[qK,wn,Vy]at h1;rw[qK,wn];exact h1
    ·have sa: ¬i*sz+j<fl.size:=by rw[Tg];have:xs.length*sz<=i*sz:=wQ _ oa;omega
     rw[harr',putCells,Array.getElem?_mapIdx]at h3;simp only[yi,wM,true_and,sa,ap,Option.map_id']at h3;exact h3
 have hrel:=(aM.rel (wl _) (wl _)).setBx hq qH ZE hv';have hush:Hush w.heap.size (putRow id (jx w n) (E.ρ q) 0 fl) (grow (putRow id (jx w n) (E.ρ q) 0 fl) os):=by
  refine⟨rfl,rfl,rfl,by simp[grow],fun b hb=>?_,fun b a' e' m hb=>?_⟩
  ·exact heap_grow_old _ _ (by rw[ZE.heap];exact hb)
  ·exact heap_grow_old _ _ (wH.1 hb).1
 have na:=hrel.hush (a':={ tmps:= #[],defers:=[] }) hush rfl (DefOK.nil _ _ (wl _));exact⟨_,E,.tup [],_,rfl,⟨rfl,ys,Vy,hG,rfl⟩,na.wi,.tup [] #[] rfl (fun j d v h1 _=>by simp at h1)⟩
def gA {G:Prop} (h:G:=by
  (try simp -implicitDefEqProofs only[go_sem, *])
  (repeat'((first|refine kqM ?_|refine kq ?_|(refine eH ?_<;>intro er eN)|(refine dM ?_<;>intro bo eO)|refine qdD ?_|refine xk ?_|(apply xc<;>intro hc)|(apply lX<;>intro hc)|(apply gf<;>intro hc)|(apply gt<;>intro hc)|(apply l6<;>intro hc)|(apply lZ<;>intro hc))<;>simp -implicitDefEqProofs only[go_sem, *]))
  all_goals exact qJ):G:=h
def gB {G R:Prop} (r:R) (h:Kp R->G:=by
  intro hR
  (try simp -implicitDefEqProofs only[go_sem, *])
  (repeat'((first|refine kqM ?_|refine kq ?_|(refine eH ?_<;>intro er eN)|(refine dM ?_<;>intro bo eO)|refine qdD ?_|refine xk ?_|(apply xc<;>intro hc)|(apply lX<;>intro hc)|(apply gf<;>intro hc)|(apply gt<;>intro hc)|(apply l6<;>intro hc)|(apply lZ<;>intro hc))<;>simp -implicitDefEqProofs only[go_sem, *]))
  (repeat first|revert hc|revert eN|revert er|revert eO|revert bo)
  exact hR.1):G:=h ⟨r⟩
def gC {G R S:Prop} (r:R) (s:S) (h:Kp R->Kp S->G:=by
  intro hR hS
  (try simp -implicitDefEqProofs only[go_sem, *])
  (repeat'((first|refine kqM ?_|refine kq ?_|(refine eH ?_<;>intro er eN)|(refine dM ?_<;>intro bo eO)|refine qdD ?_|refine xk ?_|(apply xc<;>intro hc)|(apply lX<;>intro hc)|(apply gf<;>intro hc)|(apply gt<;>intro hc)|(apply l6<;>intro hc)|(apply lZ<;>intro hc))<;>simp -implicitDefEqProofs only[go_sem, *]))
  all_goals(repeat first|revert hc|revert eN|revert er|revert eO|revert bo)
  all_goals(first|exact hR.1|exact hS.1)):G:=h ⟨r⟩ ⟨s⟩
def gD {G R S T:Prop} (r:R) (s:S) (t:T) (h:Kp R->Kp S->Kp T->G:=by
  intro hR hS hT
  (try simp -implicitDefEqProofs only[go_sem, *])
  (repeat'((first|refine kqM ?_|refine kq ?_|(refine eH ?_<;>intro er eN)|(refine dM ?_<;>intro bo eO)|refine qdD ?_|refine xk ?_|(apply xc<;>intro hc)|(apply lX<;>intro hc)|(apply gf<;>intro hc)|(apply gt<;>intro hc)|(apply l6<;>intro hc)|(apply lZ<;>intro hc))<;>simp -implicitDefEqProofs only[go_sem, *]))
  all_goals(repeat first|revert hc|revert eN|revert er|revert eO|revert bo)
  all_goals(first|exact hR.1|exact hS.1|exact hT.1)):G:=h ⟨r⟩ ⟨s⟩ ⟨t⟩
def gS {G R:Prop} (r:R) (h:Kp R->G:=by intro hR;simp -implicitDefEqProofs only[go_sem, *];exact hR.1):G:=h ⟨r⟩
def gT{G:Prop}(h:G:=by simp -implicitDefEqProofs only[go_sem, *]):G:=h
def gU {G:Prop} (h:G:=by
  (first|refine kqM ?_|refine kq ?_|refine qdD ?_|refine xk ?_)
  simp -implicitDefEqProofs only[go_sem, *]):G:=h
def gQ {G R:Prop} (r:R) (h:Kp R->G:=by
  intro hR
  (first|refine kqM ?_|refine kq ?_|refine qdD ?_|refine xk ?_)
  simp -implicitDefEqProofs only[go_sem, *];exact hR.1):G:=h ⟨r⟩
def gJ{G:Prop}(h:G:=by first|exact qJ|exact⟨og,qJ⟩|(intro hz;grind)|exact cC og|exact iq og|grind):G:=h
open Go.ChangeShapes Go.WideShapes Go.ChangeAt
inductive Sh where
 | int (k:IntKind)
 | bool
 | str
 | sl (sz:Nat) (e:Sh)
 | nil
 | cons (f r:Sh)
def Val:Sh->Type
 | .int _=>Int
 | .bool=>Bool
 | .str=>ByteArray
 | .sl _ e=>List (Val e)
 | .nil=>Unit
 | .cons f r=>Val f×Val r
def Sh.size:Sh->Nat
 | .nil=>0
 | .cons f r=>f.size+r.size
 | _=>1
def Sh.enc:(s:Sh)->Val s->List C
 | .int k,n=>[.lit (.int k n)]
 | .bool,b=>[.lit (.bool b)]
 | .str,s=>[.lit (.string s)]
 | .sl sz e,l=>[.sl sz (List.map (Sh.enc e) l)]
 | .nil,_=>[]
 | .cons f r,x=>Sh.enc f x.1++Sh.enc r x.2
def Sh.ok:(s:Sh)->Val s->Prop
 | .int k,n=>(Lit.int k n).wf=true
 | .bool,_=>True
 | .str,s=>s.size<=maxLen
 | .sl _ e,l=>(show List (Val e) from l).length<=maxLen/\∀x∈(show List (Val e) from l),Sh.ok e x
 | .nil,_=>True
 | .cons f r,x=>Sh.ok f x.1/\Sh.ok r x.2
def Sh.enc_len:(s:Sh)->(x:Val s)->(s.enc x).length=s.size
 | .int k,n=>rfl
 | .bool,b=>rfl
 | .str,s=>rfl
 | .sl sz e,l=>rfl
 | .nil,_=>rfl
 | .cons f r,x=>by simp only[Sh.enc,wz,Sh.enc_len f,Sh.enc_len r,Sh.size]
def Program.has(P:Program):Sh->j8 ⊕ (List Field×Nat)->Bool
 | .int k,.inl t=>match P.underlying t with|some (.int k')=>decide (k'=k)|_=>false
 | .bool,.inl t=>match P.underlying t with|some .bool=>true|_=>false
 | .str,.inl t=>match P.underlying t with|some .string=>true|_=>false
 | .sl sz e,.inl t=>match P.underlying t with|some (.slice el)=>P.cellsOf el==sz&&decide (0<sz)&&e.size==sz&&Program.has P e (.inl el)|_=>false
 | .cons f r,.inl t=>match P.underlying t with
  | some (.struct fs)=>match fs.toList with
   | fd::rest=>P.cellsOf t==f.size+r.size&&fd.offset==0&&P.cellsOf fd.type==f.size&&Program.has P f (.inl fd.type)&&Program.has P r (.inr (rest,f.size))
   | []=>false
  | _=>false
 | .nil,.inr (fs,_)=>fs.isEmpty
 | .cons f r,.inr (fs,o)=>match fs with
  | fd::rest=>fd.offset==o&&P.cellsOf fd.type==f.size&&Program.has P f (.inl fd.type)&&Program.has P r (.inr (rest,o+f.size))
  | []=>false
 | _,_=>false
def pX(w:j5):qM:=fun b o=>(w.cell? ⟨b,o,none⟩).isSome=true
def CellsC(w:j5)(cs:List C)(vs:List j6):Prop:=vs.length=cs.length/\∀(j:Nat) c v,cs[j]? =some c->vs[j]? =some v->VC w (pX w) c v
def CellsC.app{a b:List C}{u v:List j6}(h:CellsC w a u)(k:CellsC w b v):CellsC w (a++b) (u++v):=by
 refine⟨by simp[h.1,k.1],fun j c x h1 h2=>?_⟩;rw[List.getElem?_append]at h1 h2;rw[h.1]at h2;split at h1
 ·rename_i hj;rw[ae hj]at h2;exact h.2 j c x h1 h2
 ·rename_i hj;rw[j7 hj]at h2;exact k.2 _ c x h1 h2
def CellsC.one{c:C}(h:VC w (pX w) c v):CellsC w [c] [v]:=
 ⟨rfl,fun j c' v' h1 h2=>by
  cases j with
  | zero=>simp at h1 h2;subst h1;subst h2;exact h
  | succ j=>simp at h1⟩
section
variable {P:Program} {H:Type} {enc:j8×j6->H} {w:j5} {sp:Nat->Bool} {held:Bool}
def cells?_get{base:Nat}{a:Addr}{vs:List j6}(h:w.cells? base a n=some vs):vs.length=n/\∀j,j<n->w.cell? (a.add j)=vs[j]? :=by
 unfold World.cells? at h;split at h
 ·have hl:vs.length=n:=by have:=mapM_some_length h;simpa using this
  refine⟨hl,fun j hj=>?_⟩;have:=mapM_some_get h j j (by simp[hj]);simpa using this
 ·cases h
end
def CellsC.one_inv{c:C}(h:CellsC w [c] [v]):VC w (pX w) c v:=h.2 0 c v rfl rfl
def ArgD(s:Sh)(a:Val s):D:=
 match s,s.enc a with
 | .cons _ _,cs=>.agg (cs.map T.c)
 | .nil,cs=>.agg (cs.map T.c)
 | _,[c]=>.one (.c c)
 | _,_=>.any
def SK(w:j5):Prop:=∀g vs,LR g=some vs->∀(o:Nat) v,vs[o]? =some v->v.oneCell'=true/\w.cell? ⟨g,o,none⟩=some v
def law_calls{P:Program}{f:am}{ds:List D}(hc:DCalls P f ds (.one (.c (.lit (.bool true))))){w:j5}{vs:Array j6}(hl:vs.size=ds.length)(hv: ∀(j:Nat) d v,ds[j]? =some d->vs[j]? =some v->VD w (E0 (pX w)) d v)
  (ht:SK w) (hz:GSz w:=by intro g hg;exact ak hg (by simp[ztab])) (hE: ∀g∈etab,∃ev,w.cell? ⟨g,0,none⟩=some ev/\(ev= .nilIface\/∃te pe,ev= .iface te pe):=by intro g hg;exact ak hg (by simp[etab]))
  (hU: ∀p∈utab,∀o,o<p.2->∃z,w.cell? ⟨p.1,o,none⟩=some (.int .u8 z)/\0<=z/\z<256:=by intro p hp;exact ak hp (by simp[utab])):Calls P f vs w fun e w'=>e= .returned (.bool true)/\Below w.heap.size w w':=by
 refine(hc.2 w (pX w) vs ⟨fun b o h=>h,fun g vs hg o v hv=>?_,⟨fun g hg=>?_,fun p hp o ho=>?_⟩,hz⟩ hl hv).mono ?_
 ·obtain⟨h1,h2⟩:=ht g vs hg o v hv;exact⟨h1,by simp[pX,h2],h2⟩
 ·obtain⟨ev,h1,h2⟩:=hE g hg;exact⟨by simp[pX,h1],ev,h1,h2⟩
 ·obtain⟨z,h1,h2⟩:=hU p hp o ho;exact⟨by simp[pX,h1],z,h1,h2⟩
 rintro e w' ⟨v,E',rfl,hr,hvd⟩;exact⟨by rw[hvd.lit],hr.below⟩
def tabs_none(h: ∀g,LR g=none):SK w:=fun g vs hg=>by rw[h]at hg;cases hg
def sizeV:(s:Sh)->Val s->Nat
 | .int _,_=>1
 | .bool,_=>1
 | .str,s=>(show ByteArray from s).size+1
 | .sl _ e,l=>1+((show List (Val e) from l).map (sizeV e)).sum
 | .nil,_=>0
 | .cons f r,x=>sizeV f x.1+sizeV r x.2
structure IsBulk{H:Type}(B:DataW H->Nat):Prop where
 pos: ∀d,1<=B d
 str: ∀bs:List UInt8,bs.length+1<=B (.lit (.string bs))
 sl: ∀es ss:List (DataW H),1+(es.map B).sum<=B (.slice es ss)
 agg: ∀ps:List (DataW H),(ps.map B).sum<=B (.agg ps)
section
variable {P:Program} {H:Type} {enc:j8×j6->H} {w:j5} {sp:Nat->Bool} {held:Bool}
def BJ{B:DataW H->Nat}(hB:IsBulk B):(s:Sh)->(∀(t:j8),Program.has P s (.inl t)=true->∀(fuel:Nat) (vs:List j6) x,DataW.trod enc P w 0 sp held fuel t vs=some x->∃a:Val s,s.ok a/\CellsC w (s.enc a) vs/\sizeV s a<=B x.1)/\
  (∀(fs:List Field) (o:Nat),Program.has P s (.inr (fs,o))=true->∀(fuel:Nat) (vs:List j6),∀ys:List (DataW H×List MemPlace),ys.length=fs.length->(∀(i:Nat) (f:Field),fs[i]? =some f->DataW.trod enc P w 0 sp held fuel f.type ((vs.drop f.offset).take (P.cellsOf f.type))=ys[i]?)->vs.length=o+s.size->
   ∃a:Val s,s.ok a/\CellsC w (s.enc a) (vs.drop o)/\sizeV s a<=(ys.map fun y=>B y.1).sum)
 | .int k=>by
  refine⟨fun t ht fuel vs x h=>?_,fun fs o h=>by simp[Program.has]at h⟩;simp only[Program.has]at ht;split at ht
  ·rename_i k' hu;have hk:k'=k:=og;subst hk;obtain⟨n,rfl,_,hw⟩:=DataW.trod_int hu h;exact⟨n,hw,CellsC.one (.lit _ rfl),hB.pos _⟩
  ·cases ht
 | .bool=>by
  refine⟨fun t ht fuel vs x h=>?_,fun fs o h=>by simp[Program.has]at h⟩;simp only[Program.has]at ht;split at ht
  ·rename_i hu;obtain⟨b,rfl,_⟩:=DataW.trod_bool hu h;exact⟨b,trivial,CellsC.one (.lit _ rfl),hB.pos _⟩
  ·cases ht
 | .str=>by
  refine⟨fun t ht fuel vs x h=>?_,fun fs o h=>by simp[Program.has]at h⟩;simp only[Program.has]at ht;split at ht
  ·rename_i hu;obtain⟨s,rfl,rfl,hs⟩:=DataW.trod_string hu h;exact⟨s,hs,CellsC.one (.lit _ rfl),by have:=hB.str s.data.toList;simp only[sizeV];simpa using this⟩
  ·cases ht
 | .sl sz e=>by
  refine⟨fun t ht fuel vs x h=>?_,fun fs o h=>by simp[Program.has]at h⟩;simp only[Program.has]at ht;split at ht
  ·rename_i el hu;simp only[we,aq,aj]at ht;obtain⟨⟨⟨hc,qZ⟩,hes⟩,he⟩:=ht;rcases Go.Deep.open_slice hu h with⟨rfl,rfl⟩|⟨a,len,cap,m,n,D,Pl,rfl,hb,hl,hm,EY,rfl,hx⟩
   ·exact⟨([]:List (Val e)),⟨oh,oh⟩,CellsC.one (.nil sz),hB.pos _⟩
   ·have hlm:len<=m:=by grind
    have each: ∀i,i<len->∃y:Val e,e.ok y/\∃cs',w.cells? 0 (a.add (i*sz)) sz=some cs'/\CellsC w (e.enc y) cs'/\sizeV e y<=B (D i):=fun i hi=>by obtain⟨cs',h1,h2⟩:=hx i oa;rw[hc]at h1;obtain⟨y,hy,F4⟩:=(BJ hB e).1 el he n cs' _ h2;exact⟨y,hy,cs',h1,F4.1,F4.2⟩
    have build: ∀k,k<=len->∃l:List (Val e),l.length=k/\(∀y∈l,e.ok y)/\(∀i y,l[i]? =some y->∃cs',w.cells? 0 (a.add (i*sz)) sz=some cs'/\CellsC w (e.enc y) cs')/\(l.map (sizeV e)).sum<=((wR k).map fun i=>B (D i)).sum:=by
     intro k;induction k with
     | zero=>exact fun _=>⟨[],rfl,oh,oh,oh⟩
     | succ k ih=>
      intro hk;obtain⟨l,h1,h2,h3,h6⟩:=ih oa;obtain⟨y,hy,cs',h4,h5,h7⟩:=each k oa;refine⟨l++[y],by simp[h1],fun z hz=>?_,fun i z hz=>?_,by simp[jn];omega⟩
      ·grind
      ·grind
    obtain⟨l,A4,QC,QE,qbT⟩:=build len (wl _);subst A4;refine⟨l,⟨by show l.length<=_;omega,QC⟩,CellsC.one ?_,by have:=hB.sl ((wR l.length).map D) ((wR (m - l.length)).map fun j=>D (l.length+j));simp only[sizeV];rw[yn]at this;exact wu (Nat.add_le_add_left qbT 1) this⟩;show VC w (pX w) (.sl sz (l.map (Sh.enc e))) _;have vG:(l.map (Sh.enc e)).length=l.length:=oh;have qbU: ∀j,j<l.length*sz->j / sz<l.length:=fun j hj=>Nat.div_lt_of_lt_mul (by rw[jF];exact hj);have XY:0<l.length*sz->a.spot=none:=fun h0=>by have hi:0<l.length:=og;obtain⟨cs',h1,h2⟩:=QE 0 _ (wa hi);obtain⟨g1,g2⟩:=cells?_get h1;have:=g2 0 qZ;rw[wa oa]at this;simpa[Addr.add]using World.cell?_spot this
    have Bb: ∀i j,i<l.length->j<sz->a.spot=none->∃y cs' v,l[i]? =some y/\cs'[j]? =some v/\CellsC w (e.enc y) cs'/\w.cell? ⟨a.block,a.off+(i*sz+j),none⟩=some v:=fun i j hi hj hs=>by
     obtain⟨cs',h1,h2⟩:=QE i _ (wa hi);obtain⟨g1,g2⟩:=cells?_get h1;have h3:=g2 j hj;have hcj:cs'[j]? =some (cs'[j]' oa):=oh;have ha:a=⟨a.block,a.off,none⟩:=by cases a;simp at hs;subst hs;rfl
     rw[ha,vE,vE,hcj]at h3;refine⟨_,cs',_,wa hi,hcj,h2,?_⟩;rw[<-h3,ju]
    rw[show (Value.slice (some a) l.length cap)= .slice (some a) (l.map (Sh.enc e)).length cap by rw[vG]];refine .sl sz _ a cap (fun j=>(w.cell? ⟨a.block,a.off+j,none⟩).getD undef) (fun r hr=>?_) (by rw[vG];exact hl) hm (fun j hj=>?_) (fun i j r c hr hc=>?_)
    ·obtain⟨y,_,rfl⟩:=wN.1 hr;rw[Sh.enc_len,hes]
    ·rw[vG]at hj;have hs:=XY oa;obtain⟨y,cs',v,_,_,_,h⟩:=Bb (j / sz) (j % sz) (qbU j hj) (Nat.mod_lt _ qZ) hs;have hd:=Nat.div_add_mod j sz;rw[jF]at hd;rw[hd]at h;exact⟨hs,by simp[pX,h],by simp[h]⟩
    ·rw[wh]at hr;cases hy:l[i]? with
     | none=>grind
     | some y=>
      rw[hy]at hr;injection hr with hr;subst hr
      have hi:i<l.length:=og;have hj:j<sz:=by have:=(wg.1 hc).1;rw[Sh.enc_len,hes]at this;exact this
      have hs:=XY (Nat.mul_pos oa qZ);obtain⟨y',cs',v,h1,h2,h3,h4⟩:=Bb i j hi hj hs;rw[hy]at h1;injection h1 with h1;subst h1
      have:=h3.2 j c v hc h2;simpa[h4]using this
  ·cases ht
 | .nil=>by
  refine⟨fun t ht=>by simp[Program.has]at ht,fun fs o h fuel vs ys hy hf hl=>⟨(),trivial,?_,wM _⟩⟩;simp[Sh.size]at hl;exact⟨by simp[Sh.enc,hl],fun j c v h=>by simp[Sh.enc]at h⟩
 | .cons f r=>by
  have key: ∀(fs:List Field) (o:Nat) fd rest,fs=fd::rest->fd.offset=o->P.cellsOf fd.type=f.size->Program.has P f (.inl fd.type)=true->Program.has P r (.inr (rest,o+f.size))=true->
    ∀(fuel:Nat) (vs:List j6),∀ys:List (DataW H×List MemPlace),ys.length=fs.length->(∀(i:Nat) (f:Field),fs[i]? =some f->DataW.trod enc P w 0 sp held fuel f.type ((vs.drop f.offset).take (P.cellsOf f.type))=ys[i]?)->vs.length=o+(Sh.cons f r).size->
    ∃a:Val (.cons f r),Sh.ok (.cons f r) a/\CellsC w (Sh.enc (.cons f r) a) (vs.drop o)/\sizeV (.cons f r) a<=(ys.map fun y=>B y.1).sum:=fun fs o fd rest e1 e2 e3 e4 e5 fuel vs ys Vy hf hl=>by
   subst e1;cases ys with
   | nil=>grind
   | cons y ys=>
   have hy:=hf 0 fd rfl;rw[e2,e3]at hy;obtain⟨a,ha,hca,hsa⟩:=(BJ hB f).1 _ e4 fuel _ y hy;simp only[Sh.size]at hl;obtain⟨b,hb,hcb,PV⟩:=(BJ hB r).2 rest (o+f.size) e5 fuel vs ys (by simpa using Vy) (fun i g hg=>by simpa using hf (i+1) g (by simpa using hg)) oa;refine⟨(a,b),⟨ha,hb⟩,?_,by simp only[sizeV,wo,List.sum_cons];omega⟩;have:vs.drop o=(vs.drop o).take f.size++vs.drop (o+f.size):=by rw[<-List.drop_drop,yf]
   rw[this];exact hca.app hcb
  refine⟨fun t ht fuel vs x h=>?_,fun fs o h fuel vs ys Vy hf hl=>?_⟩
  ·simp only[Program.has]at ht;split at ht
   ·rename_i fa hu;split at ht
    ·rename_i fd rest Tg;simp only[we,aq]at ht;obtain⟨⟨⟨⟨h1,h2⟩,h3⟩,h4⟩,h5⟩:=ht;obtain⟨xs,n,_,rfl,vG,qdQ,hx⟩:=DataW.trod_struct hu h;obtain⟨a,q1,q2,q3⟩:=key fa.toList 0 fd rest Tg h2 h3 h4 (by simpa using h5) n vs xs (by simpa using qdQ) (fun i g hg=>hx i g (by simpa using hg)) (by simp only[Sh.size];omega);refine⟨a,q1,by simpa using q2,wu q3 ?_⟩;have:=hB.agg (xs.map (·.1));rw[yn]at this;exact this
    ·cases ht
   ·cases ht
  ·simp only[Program.has]at h;split at h
   ·rename_i fd rest;simp only[we,aq]at h;obtain⟨⟨⟨h2,h3⟩,h4⟩,h5⟩:=h;exact key _ o fd rest rfl h2 h3 h4 h5 fuel vs ys Vy hf hl
   ·cases h
end
def arg_readB{P:Program}{H:Type}{enc:j8×j6->H}{B:DataW H->Nat}(hB:IsBulk B){w:j5}{t:j8}{v:j6}{d:DataW H}{ps:List MemPlace}{base:Nat}(s:Sh)(hs:Program.has P s (.inl t)=true)
  (QC:Value.okWide P w .any base t v) (h:DataW.Trod enc P w 0 (fun _=>true) true t v d ps): ∃a:Val s,s.ok a/\VD w (E0 (pX w)) (ArgD s a) v/\sizeV s a<=B d:=by
 obtain⟨fuel,hf⟩:=h;obtain⟨a,ha,hc,vo⟩:=(BJ hB s).1 t hs fuel _ _ hf;refine⟨a,ha,?_,vo⟩;have single: ∀c:C,s.enc a= [c]->(∃x,v=x/\x.cells= #[x])->VD w (E0 (pX w)) (.one (.c c)) v:=fun c e ⟨x,e1,e2⟩=>by subst e1;rw[e,e2]at hc;exact .one _ _ (.c _ _ hc.one_inv)
 have aggr:(∃cs,v= .agg cs)->VD w (E0 (pX w)) (.agg ((s.enc a).map T.c)) v:=fun⟨cs,e⟩=>by
  subst e;have nP:CellsC w (s.enc a) cs.toList:=hc;refine .agg _ _ (by have:=nP.1;simpa using this) fun j t v h1 h2=>?_;rw[wh]at h1;cases hx:(s.enc a)[j]? with
  | none=>grind
  | some c=>
   rw[hx]at h1;injection h1 with h1;subst h1
   exact .c _ _ (nP.2 j c v hx (by simpa using h2))
 cases s with
 | int k=>
  simp only[Program.has]at hs;split at hs
  ·rename_i k' hu;obtain⟨n,rfl⟩:=okWide_int hu QC;exact single _ rfl ⟨_,rfl,rfl⟩
  ·cases hs
 | bool=>
  simp only[Program.has]at hs;split at hs
  ·rename_i hu;obtain⟨n,rfl⟩:=okWide_bool hu QC;exact single _ rfl ⟨_,rfl,rfl⟩
  ·cases hs
 | str=>
  simp only[Program.has]at hs;split at hs
  ·rename_i hu;obtain⟨n,rfl⟩:=okWide_string hu QC;exact single _ rfl ⟨_,rfl,rfl⟩
  ·cases hs
 | sl sz e=>
  simp only[Program.has]at hs;split at hs
  ·rename_i el hu;obtain⟨x,len,cap,rfl⟩:=okWide_slice hu QC;exact single _ rfl ⟨_,rfl,rfl⟩
  ·cases hs
 | nil=>simp[Program.has]at hs
 | cons f r=>
  simp only[Program.has]at hs;split at hs
  ·rename_i fs hu;simp only[Value.okWide,hu]at QC;obtain⟨cs,rfl,_⟩:=QC;exact aggr ⟨cs,rfl⟩
  ·cases hs
end Go.Dl
attribute [go_sem] reduceIte reduceCtorEq Nat.reduceEqDiff Nat.reduceAdd Nat.reduceMul Nat.reduceSub Nat.reduceLeDiff Nat.reduceBEq
open Go.Dl.CallC renaming mk → kN, light → kO
open Go.Dl.LeL renaming of_eq → kP
namespace Go.Proofs.YtobpcppcjdnkmaaGreat
open Go.Proofs.Tryz
open Go.Dl
@[go_sem] theorem qhc:Program.ldk pP 3=some none/\qz pP 3=some 1/\Program.zeroC pP 3=some [.lit (.int .i64 0)]/\Program.zeroT pP 3=some [.c (.lit (.int .i64 0))]/\Program.ldk pP 4=some none/\qz pP 4=some 1/\Program.zeroT pP 4=some [.c (.lit (.bool false))]/\Program.isBoolT pP 4=true/\Program.ldk pP 5=some none/\qz pP 5=some 1/\Program.zeroC pP 5=some [.lit (.int .u8 0)]/\Program.ldk pP 9=some none:=by refine⟨?_,?_,?_,?_,?_,?_,?_,?_,?_,?_,?_,?_⟩<;>kernel_rfl
@[go_sem] theorem qc8:qz pP 9=some 1/\Program.zeroC pP 9=some [.lit (.string ⟨#[]⟩)]/\Program.ldk pP 22=some none/\qz pP 22=some 1/\Program.elemSz pP 22=some 2/\Program.ldk pP 24=some (some 1)/\Program.fieldOff pP 24 0=some 0/\Program.ldk pP 25=some none/\Program.elemSz pP 25=some 2/\Program.ldk pP 26=some none/\Program.elemSz pP 26=some 1/\Program.ldk pP 28=some (some 3):=by refine⟨?_,?_,?_,?_,?_,?_,?_,?_,?_,?_,?_,?_⟩<;>kernel_rfl
@[go_sem] theorem YA:qz pP 28=some 3/\Program.zeroT pP 28=some [.c (.lit (.string ⟨#[]⟩)),.ex 2 [],.ex 1 []]/\Program.places pP 28=some [(0,1),(1,1),(2,1)]/\Program.fieldOff pP 28 0=some 0/\Program.fieldOff pP 28 1=some 1/\Program.fieldOff pP 28 2=some 2/\Program.ldk pP 29=some none/\qz pP 29=some 1/\Program.elemSz pP 29=some 6/\qT pP 29=some (6,104)/\Program.ldk pP 30=some none/\Program.elemSz pP 30=some 3:=by refine⟨?_,?_,?_,?_,?_,?_,?_,?_,?_,?_,?_,?_⟩<;>kernel_rfl
@[go_sem] theorem qgQ:Program.ldk pP 31=some none/\qz pP 31=some 1/\Program.elemSz pP 31=some 1/\qT pP 31=some (1,8)/\Program.zeroC pP 31=some [.sl 1 []]/\Program.zeroT pP 31=some [.ex 1 []]/\Program.ldk pP 33=some (some 3)/\qz pP 33=some 3/\Program.zeroT pP 33=some [.c (.lit (.int .i64 0)),.ex 3 [],.ex 1 []]/\Program.places pP 33=some [(0,1),(1,1),(2,1)]/\Program.fieldOff pP 33 0=some 0/\Program.fieldOff pP 33 1=some 1:=by refine⟨?_,?_,?_,?_,?_,?_,?_,?_,?_,?_,?_,?_⟩<;>kernel_rfl
@[go_sem] theorem Tp:Program.fieldOff pP 33 2=some 2/\Program.ldk pP 34=some none/\qz pP 34=some 1/\Program.elemSz pP 34=some 8/\qT pP 34=some (8,144)/\Program.ldk pP 36=some (some 9)/\qz pP 36=some 9/\Program.zeroT pP 36=some [.ex 2 [],.c (.lit (.string ⟨#[]⟩)),.ex 2 [],.ex 1 [],.ex 6 [],.c (.lit (.int .i64 0)),.ex 3 [],.ex 1 [],.ex 8 []]/\Program.places pP 36=some [(0,1),(1,3),(4,1),(5,3),(8,1)]/\Program.fieldOff pP 36 0=some 0/\Program.fieldOff pP 36 1=some 1/\Program.fieldOff pP 36 2=some 4:=by refine⟨?_,?_,?_,?_,?_,?_,?_,?_,?_,?_,?_,?_⟩<;>kernel_rfl
@[go_sem] theorem To:Program.fieldOff pP 36 3=some 5/\Program.fieldOff pP 36 4=some 8/\Program.zeroT pP 38=some [.c (.lit (.int .i64 0)),.c (.lit (.string ⟨#[]⟩)),.c (.lit (.int .i64 0)),.c (.lit (.int .i64 0)),.ex 1 []]/\Program.places pP 38=some [(0,1),(1,1),(2,1),(3,1),(4,1)]/\Program.fieldOff pP 38 0=some 0/\Program.fieldOff pP 38 2=some 2/\Program.fieldOff pP 38 4=some 4/\Program.ldk pP 39=some none/\qz pP 39=some 1/\Program.elemSz pP 39=some 4/\Program.ldk pP 40=some none/\qz pP 40=some 1:=by refine⟨?_,?_,?_,?_,?_,?_,?_,?_,?_,?_,?_,?_⟩<;>kernel_rfl
@[go_sem] theorem qec:Program.elemSz pP 40=some 7/\qT pP 40=some (7,64)/\Program.ldk pP 42=some (some 7)/\qz pP 42=some 7/\Program.zeroC pP 42=some [.lit (.int .i64 0),.lit (.string ⟨#[]⟩),.lit (.int .i64 0),.lit (.int .i64 0),.sl 1 [],.sl 4 [],.sl 7 []]/\Program.zeroT pP 42=some [.c (.lit (.int .i64 0)),.c (.lit (.string ⟨#[]⟩)),.c (.lit (.int .i64 0)),.c (.lit (.int .i64 0)),.ex 1 [],.ex 4 [],.ex 7 []]/\Program.places pP 42=some [(0,5),(5,1),(6,1)]/\Program.fieldOff pP 42 0=some 0/\Program.fieldOff pP 42 1=some 5/\Program.fieldOff pP 42 2=some 6/\Program.ldk pP 43=some none/\Program.elemSz pP 43=some 4:=by refine⟨?_,?_,?_,?_,?_,?_,?_,?_,?_,?_,?_,?_⟩<;>kernel_rfl
@[go_sem] theorem qgP:Program.ldk pP 44=some none/\Program.elemSz pP 44=some 2/\Program.ldk pP 46=some (some 6)/\qz pP 46=some 6/\Program.zeroC pP 46=some [.sl 1 [],.sl 1 [],.sl 2 [],.sl 2 [],.lit (.bool false),.lit (.bool false)]/\Program.zeroT pP 46=some [.ex 1 [],.ex 1 [],.ex 2 [],.ex 2 [],.c (.lit (.bool false)),.c (.lit (.bool false))]/\Program.places pP 46=some [(0,1),(1,1),(2,1),(3,1),(4,1),(5,1)]/\Program.fieldOff pP 46 0=some 0/\Program.fieldOff pP 46 1=some 1/\Program.fieldOff pP 46 2=some 2/\Program.fieldOff pP 46 3=some 3/\Program.fieldOff pP 46 4=some 4:=by refine⟨?_,?_,?_,?_,?_,?_,?_,?_,?_,?_,?_,?_⟩<;>kernel_rfl
@[go_sem] theorem Tn:Program.fieldOff pP 46 5=some 5/\Program.ldk pP 49=some none/\qz pP 49=some 1/\Program.zeroT pP 49=some [.c (.lit (.int .i64 0))]/\Program.elemSz pP 56=some 4/\qT pP 56=some (4,48)/\Program.elemSz pP 58=some 7/\Program.ldk pP 62=some none/\Program.elemSz pP 62=some 1/\qT pP 62=some (1,16)/\Program.ldk pP 66=some (some 2)/\qz pP 66=some 2:=by refine⟨?_,?_,?_,?_,?_,?_,?_,?_,?_,?_,?_,?_⟩<;>kernel_rfl
@[go_sem] theorem qee:Program.zeroT pP 66=some [.c (.lit (.int .i64 0)),.c (.lit (.int .i64 0))]/\Program.places pP 66=some [(0,1),(1,1)]/\Program.fieldOff pP 66 0=some 0/\Program.fieldOff pP 66 1=some 1/\Program.ldk pP 67=some none/\Program.elemSz pP 67=some 3/\qT pP 67=some (3,24)/\Program.ldk pP 69=some (some 1)/\qz pP 69=some 1/\Program.zeroC pP 69=some [.sl 3 []]/\Program.zeroT pP 69=some [.ex 3 []]/\Program.places pP 69=some [(0,1)]:=by refine⟨?_,?_,?_,?_,?_,?_,?_,?_,?_,?_,?_,?_⟩<;>kernel_rfl
@[go_sem] theorem Tm:Program.fieldOff pP 69 0=some 0/\Program.ldk pP 71=some (some 4)/\qz pP 71=some 4/\Program.zeroC pP 71=some [.lit (.int .i64 0),.lit (.int .i64 0),.lit (.int .i64 0),.sl 3 []]/\Program.zeroT pP 71=some [.c (.lit (.int .i64 0)),.c (.lit (.int .i64 0)),.c (.lit (.int .i64 0)),.ex 3 []]/\Program.places pP 71=some [(0,2),(2,1),(3,1)]/\Program.fieldOff pP 71 0=some 0/\Program.fieldOff pP 71 1=some 2/\Program.fieldOff pP 71 2=some 3/\Program.ldk pP 72=some none/\Program.elemSz pP 72=some 1/\qT pP 72=some (1,24):=by refine⟨?_,?_,?_,?_,?_,?_,?_,?_,?_,?_,?_,?_⟩<;>kernel_rfl
@[go_sem] theorem qgO:Program.ldk pP 73=some none/\qz pP 73=some 1/\Program.elemSz pP 73=some 2/\qT pP 73=some (2,32)/\Program.zeroT pP 73=some [.ex 2 []]/\Program.ldk pP 74=some none/\Program.elemSz pP 74=some 2/\Program.ldk pP 75=some none/\Program.elemSz pP 75=some 2/\Program.ldk pP 77=some (some 8)/\qz pP 77=some 8/\Program.zeroC pP 77=some [.lit (.int .i64 0),.sl 1 [],.lit (.int .i64 0),.sl 1 [],.lit (.int .i64 0),.sl 2 [],.sl 2 [],.sl 2 []]:=by refine⟨?_,?_,?_,?_,?_,?_,?_,?_,?_,?_,?_,?_⟩<;>kernel_rfl
@[go_sem] theorem qed:Program.zeroT pP 77=some [.c (.lit (.int .i64 0)),.ex 1 [],.c (.lit (.int .i64 0)),.ex 1 [],.c (.lit (.int .i64 0)),.ex 2 [],.ex 2 [],.ex 2 []]/\Program.places pP 77=some [(0,1),(1,1),(2,1),(3,1),(4,1),(5,1),(6,1),(7,1)]/\Program.fieldOff pP 77 0=some 0/\Program.fieldOff pP 77 1=some 1/\Program.fieldOff pP 77 2=some 2/\Program.fieldOff pP 77 3=some 3/\Program.fieldOff pP 77 4=some 4/\Program.fieldOff pP 77 5=some 5/\Program.fieldOff pP 77 6=some 6/\Program.fieldOff pP 77 7=some 7/\Program.ldk pP 86=some (some 4)/\qz pP 86=some 4:=by refine⟨?_,?_,?_,?_,?_,?_,?_,?_,?_,?_,?_,?_⟩<;>kernel_rfl
@[go_sem] theorem qef:Program.zeroC pP 86=some [.lit (.int .i64 0),.lit (.int .i64 0),.lit (.bool false),.sl 3 []]/\Program.zeroT pP 86=some [.c (.lit (.int .i64 0)),.c (.lit (.int .i64 0)),.c (.lit (.bool false)),.ex 3 []]/\Program.places pP 86=some [(0,2),(2,1),(3,1)]/\Program.fieldOff pP 86 0=some 0/\Program.fieldOff pP 86 1=some 2/\Program.fieldOff pP 86 2=some 3/\Program.ldk pP 87=some none/\qz pP 87=some 1/\Program.zeroT pP 87=some [.c (.lit .nilFunc)]/\Program.ldk pP 100=some (some 3)/\qz pP 100=some 3/\Program.zeroT pP 100=some [.c (.lit (.int .i64 0)),.c (.lit (.int .i64 0)),.c (.lit (.int .i64 0))]:=by refine⟨?_,?_,?_,?_,?_,?_,?_,?_,?_,?_,?_,?_⟩<;>kernel_rfl
@[go_sem] theorem qaZ:Program.places pP 100=some [(0,1),(1,1),(2,1)]/\Program.fieldOff pP 100 0=some 0/\Program.fieldOff pP 100 1=some 1/\Program.fieldOff pP 100 2=some 2/\Program.ldk pP 108=some none/\Program.ldk pP 110=some (some 11)/\qz pP 110=some 11/\Program.zeroT pP 110=some [.ex 2 [],.c (.lit (.string ⟨#[]⟩)),.ex 2 [],.ex 1 [],.ex 6 [],.c (.lit (.int .i64 0)),.ex 3 [],.ex 1 [],.ex 8 [],.ex 4 [],.c (.lit (.map none))]/\Program.places pP 110=some [(0,9),(9,1),(10,1)]/\Program.fieldOff pP 110 0=some 0/\Program.fieldOff pP 110 1=some 9/\Program.fieldOff pP 110 2=some 10:=by refine⟨?_,?_,?_,?_,?_,?_,?_,?_,?_,?_,?_,?_⟩<;>kernel_rfl
@[go_sem] theorem qcL:Program.elemSz pP 111=some 3/\qT pP 111=some (3,32)/\Program.ldk pP 114=some (some 3)/\qz pP 114=some 3/\Program.zeroC pP 114=some [.lit (.int .i64 0),.lit (.int .i64 0),.lit (.string ⟨#[]⟩)]/\Program.zeroT pP 114=some [.c (.lit (.int .i64 0)),.c (.lit (.int .i64 0)),.c (.lit (.string ⟨#[]⟩))]/\Program.places pP 114=some [(0,2),(2,1)]/\Program.fieldOff pP 114 0=some 0/\Program.fieldOff pP 114 1=some 2/\Program.ldk pP 120=some (some 2)/\qz pP 120=some 2/\Program.zeroC pP 120=some [.lit (.int .i64 0),.lit (.int .i64 0)]:=by refine⟨?_,?_,?_,?_,?_,?_,?_,?_,?_,?_,?_,?_⟩<;>kernel_rfl
@[go_sem] theorem qdB:Program.zeroT pP 120=some [.c (.lit (.int .i64 0)),.c (.lit (.int .i64 0))]/\Program.places pP 120=some [(0,1),(1,1)]/\Program.fieldOff pP 120 0=some 0/\Program.fieldOff pP 120 1=some 1/\Program.ldk pP 122=some (some 7)/\qz pP 122=some 7/\Program.zeroC pP 122=some [.lit (.int .i64 0),.lit (.int .i64 0),.lit (.int .i64 0),.lit (.int .i64 0),.lit (.int .i64 0),.lit (.int .i64 0),.lit (.string ⟨#[]⟩)]/\Program.zeroT pP 122=some [.c (.lit (.int .i64 0)),.c (.lit (.int .i64 0)),.c (.lit (.int .i64 0)),.c (.lit (.int .i64 0)),.c (.lit (.int .i64 0)),.c (.lit (.int .i64 0)),.c (.lit (.string ⟨#[]⟩))]/\Program.places pP 122=some [(0,1),(1,1),(2,1),(3,2),(5,1),(6,1)]/\Program.fieldOff pP 122 0=some 0/\Program.fieldOff pP 122 1=some 1/\Program.fieldOff pP 122 2=some 2:=by refine⟨?_,?_,?_,?_,?_,?_,?_,?_,?_,?_,?_,?_⟩<;>kernel_rfl
@[go_sem] theorem RA:Program.fieldOff pP 122 3=some 3/\Program.fieldOff pP 122 4=some 5/\Program.fieldOff pP 122 5=some 6/\Program.ldk pP 134=some (some 4)/\qz pP 134=some 4/\Program.zeroC pP 134=some [.lit (.string ⟨#[]⟩),.lit (.int .i64 0),.lit (.int .i64 0),.lit (.int .i64 0)]/\Program.zeroT pP 134=some [.c (.lit (.string ⟨#[]⟩)),.c (.lit (.int .i64 0)),.c (.lit (.int .i64 0)),.c (.lit (.int .i64 0))]/\Program.places pP 134=some [(0,1),(1,1),(2,1),(3,1)]/\Program.fieldOff pP 134 0=some 0/\Program.fieldOff pP 134 1=some 1/\Program.fieldOff pP 134 2=some 2/\Program.fieldOff pP 134 3=some 3:=by refine⟨?_,?_,?_,?_,?_,?_,?_,?_,?_,?_,?_,?_⟩<;>kernel_rfl
@[go_sem] theorem qgk:Program.ldk pP 136=some (some 3)/\qz pP 136=some 3/\Program.zeroC pP 136=some [.lit (.int .i64 0),.lit (.int .i64 0),.lit (.int .i64 0)]/\Program.zeroT pP 136=some [.c (.lit (.int .i64 0)),.c (.lit (.int .i64 0)),.c (.lit (.int .i64 0))]/\Program.places pP 136=some [(0,1),(1,1),(2,1)]/\Program.fieldOff pP 136 0=some 0/\Program.fieldOff pP 136 1=some 1/\Program.fieldOff pP 136 2=some 2/\Program.ldk pP 138=some (some 2)/\qz pP 138=some 2/\Program.zeroC pP 138=some [.lit (.string ⟨#[]⟩),.lit (.int .i64 0)]/\Program.zeroT pP 138=some [.c (.lit (.string ⟨#[]⟩)),.c (.lit (.int .i64 0))]:=by refine⟨?_,?_,?_,?_,?_,?_,?_,?_,?_,?_,?_,?_⟩<;>kernel_rfl
@[go_sem] theorem qaY:Program.places pP 138=some [(0,1),(1,1)]/\Program.fieldOff pP 138 0=some 0/\Program.fieldOff pP 138 1=some 1/\Program.ldk pP 140=some (some 2)/\qz pP 140=some 2/\Program.zeroC pP 140=some [.lit (.string ⟨#[]⟩),.sl 1 []]/\Program.zeroT pP 140=some [.c (.lit (.string ⟨#[]⟩)),.ex 1 []]/\Program.places pP 140=some [(0,1),(1,1)]/\Program.fieldOff pP 140 0=some 0/\Program.fieldOff pP 140 1=some 1/\Program.ldk pP 142=some (some 2)/\qz pP 142=some 2:=by refine⟨?_,?_,?_,?_,?_,?_,?_,?_,?_,?_,?_,?_⟩<;>kernel_rfl
@[go_sem] theorem qdC:Program.zeroC pP 142=some [.lit (.int .i64 0),.lit (.int .i64 0)]/\Program.zeroT pP 142=some [.c (.lit (.int .i64 0)),.c (.lit (.int .i64 0))]/\Program.places pP 142=some [(0,1),(1,1)]/\Program.fieldOff pP 142 0=some 0/\Program.ldk pP 144=some (some 3)/\qz pP 144=some 3/\Program.zeroC pP 144=some [.lit (.int .i64 0),.lit (.int .i64 0),.lit (.int .i64 0)]/\Program.zeroT pP 144=some [.c (.lit (.int .i64 0)),.c (.lit (.int .i64 0)),.c (.lit (.int .i64 0))]/\Program.places pP 144=some [(0,1),(1,1),(2,1)]/\Program.fieldOff pP 144 0=some 0/\Program.fieldOff pP 144 1=some 1/\Program.fieldOff pP 144 2=some 2:=by refine⟨?_,?_,?_,?_,?_,?_,?_,?_,?_,?_,?_,?_⟩<;>kernel_rfl
@[go_sem] theorem qgj:Program.ldk pP 146=some (some 2)/\qz pP 146=some 2/\Program.zeroC pP 146=some [.lit (.string ⟨#[]⟩),.lit (.string ⟨#[]⟩)]/\Program.zeroT pP 146=some [.c (.lit (.string ⟨#[]⟩)),.c (.lit (.string ⟨#[]⟩))]/\Program.places pP 146=some [(0,1),(1,1)]/\Program.fieldOff pP 146 0=some 0/\Program.fieldOff pP 146 1=some 1/\Program.ldk pP 150=some none/\qT pP 180=some (2,16)/\Program.ldk pP 189=some (some 2)/\qz pP 189=some 2/\Program.zeroT pP 189=some [.c (.lit (.int .i64 0)),.c (.lit (.int .i64 0))]:=by refine⟨?_,?_,?_,?_,?_,?_,?_,?_,?_,?_,?_,?_⟩<;>kernel_rfl
@[go_sem] theorem qaX:Program.places pP 189=some [(0,1),(1,1)]/\Program.fieldOff pP 189 0=some 0/\Program.fieldOff pP 189 1=some 1/\Program.ldk pP 211=some none/\qz pP 211=some 1/\Program.elemSz pP 211=some 1/\qT pP 211=some (1,24)/\Program.zeroT pP 211=some [.ex 1 []]/\Program.ldk pP 217=some none/\qz pP 217=some 1/\Program.zeroT pP 217=some [.c (.lit .nilFunc)]/\Program.elemSz pP 236=some 1:=by refine⟨?_,?_,?_,?_,?_,?_,?_,?_,?_,?_,?_,?_⟩<;>kernel_rfl
@[go_sem] theorem qdA:Program.zeroT pP 238=some []/\Program.places pP 238=some []/\Program.zeroT pP 239=some []/\Program.places pP 239=some []/\Program.zeroT pP 240=some []/\Program.places pP 240=some []/\Program.zeroT pP 241=some []/\Program.places pP 241=some []/\Program.zeroT pP 242=some []/\Program.places pP 242=some []/\Program.zeroT pP 243=some []/\Program.places pP 243=some []:=by refine⟨?_,?_,?_,?_,?_,?_,?_,?_,?_,?_,?_,?_⟩<;>kernel_rfl
@[go_sem] theorem qdz:Program.zeroT pP 244=some []/\Program.places pP 244=some []/\Program.elemSz pP 245=some 1/\Program.ldk pP 247=some none/\qz pP 247=some 1/\Program.zeroC pP 247=some [.lit .nilIface]/\Program.ldk pP 258=some none/\qz pP 258=some 1/\Program.zeroT pP 258=some [.c (.lit .nilFunc)]/\Program.elemSz pP 268=some 1/\qT pP 268=some (1,1)/\Program.ldk pP 288=some none:=by refine⟨?_,?_,?_,?_,?_,?_,?_,?_,?_,?_,?_,?_⟩<;>kernel_rfl
@[go_sem] theorem Wu:qz pP 288=some 1/\Program.ldk pP 306=some none/\qz pP 306=some 1/\Program.zeroT pP 306=some [.c (.lit (.int .u32 0))]/\Program.ldk pP 327=some none/\Program.ldk pP 341=some none/\Program.zeroT pP 343=some [.ex 2 [],.c (.lit (.string ⟨#[]⟩)),.ex 2 [],.ex 1 [],.ex 6 [],.c (.lit (.int .i64 0)),.ex 3 [],.ex 1 [],.ex 8 [],.ex 1 [],.c (.lit (.bool false)),.c (.lit (.int .u32 0)),.c (.lit (.map none)),.c (.lit .nilFunc)]/\Program.places pP 343=some [(0,9),(9,1),(10,1),(11,1),(12,1),(13,1)]/\Program.fieldOff pP 343 0=some 0/\Program.fieldOff pP 343 1=some 9/\Program.fieldOff pP 343 2=some 10/\Program.fieldOff pP 343 3=some 11:=by refine⟨?_,?_,?_,?_,?_,?_,?_,?_,?_,?_,?_,?_⟩<;>kernel_rfl
@[go_sem] theorem Rz:Program.fieldOff pP 343 4=some 12/\Program.fieldOff pP 343 5=some 13/\Program.ldk pP 352=some (some 2)/\Program.zeroT pP 352=some [.ex 2 [],.ex 2 []]/\Program.places pP 352=some [(0,1),(1,1)]/\Program.fieldOff pP 352 0=some 0/\Program.fieldOff pP 352 1=some 1/\Program.ldk pP 385=some (some 2)/\qz pP 385=some 2/\Program.zeroT pP 385=some [.c (.lit (.int .u8 0)),.c (.lit (.int .u8 0))]/\Program.fieldOff pP 385 0=some 0/\Program.fieldOff pP 385 1=some 1:=by refine⟨?_,?_,?_,?_,?_,?_,?_,?_,?_,?_,?_,?_⟩<;>kernel_rfl
@[go_sem] theorem qcG:pP.eqGuardType pP.depth 66=false:=by kernel_rfl
@[go_sem] theorem qg0(a0 b0:Int)(a1 b1:Int):RH pP 8 66 (.agg [.c (.lit (.int .i64 a0)),.c (.lit (.int .i64 a1))]) (.agg [.c (.lit (.int .i64 b0)),.c (.lit (.int .i64 b1))])=some ((a0==b0)&&((a1==b1)&&true)):=by kernel_rfl
@[go_sem] theorem Yv:pP.eqGuardType pP.depth 120=false:=by kernel_rfl
@[go_sem] theorem qgp(a0 b0:Int)(a1 b1:Int):RH pP 8 120 (.agg [.c (.lit (.int .i64 a0)),.c (.lit (.int .i64 a1))]) (.agg [.c (.lit (.int .i64 b0)),.c (.lit (.int .i64 b1))])=some ((a0==b0)&&((a1==b1)&&true)):=by kernel_rfl
@[go_sem] theorem Yu:pP.eqGuardType pP.depth 136=false:=by kernel_rfl
@[go_sem] theorem qgo(a0 b0:Int)(a1 b1:Int)(a2 b2:Int):RH pP 8 136 (.agg [.c (.lit (.int .i64 a0)),.c (.lit (.int .i64 a1)),.c (.lit (.int .i64 a2))]) (.agg [.c (.lit (.int .i64 b0)),.c (.lit (.int .i64 b1)),.c (.lit (.int .i64 b2))])=some ((a0==b0)&&((a1==b1)&&((a2==b2)&&true))):=by kernel_rfl
@[go_sem] theorem Yt:pP.eqGuardType pP.depth 142=false:=by kernel_rfl
@[go_sem] theorem qgn(a0 b0:Int)(a1 b1:Int):RH pP 8 142 (.agg [.c (.lit (.int .i64 a0)),.c (.lit (.int .i64 a1))]) (.agg [.c (.lit (.int .i64 b0)),.c (.lit (.int .i64 b1))])=some ((a0==b0)&&((a1==b1)&&true)):=by kernel_rfl
@[go_sem] theorem Ys:pP.eqGuardType pP.depth 144=false:=by kernel_rfl
@[go_sem] theorem qgm(a0 b0:Int)(a1 b1:Int)(a2 b2:Int):RH pP 8 144 (.agg [.c (.lit (.int .i64 a0)),.c (.lit (.int .i64 a1)),.c (.lit (.int .i64 a2))]) (.agg [.c (.lit (.int .i64 b0)),.c (.lit (.int .i64 b1)),.c (.lit (.int .i64 b2))])=some ((a0==b0)&&((a1==b1)&&((a2==b2)&&true))):=by kernel_rfl
@[go_sem] theorem Yr:pP.eqGuardType pP.depth 189=false:=by kernel_rfl
@[go_sem] theorem qgl(a0 b0:Int)(a1 b1:Int):RH pP 8 189 (.agg [.c (.lit (.int .i64 a0)),.c (.lit (.int .i64 a1))]) (.agg [.c (.lit (.int .i64 b0)),.c (.lit (.int .i64 b1))])=some ((a0==b0)&&((a1==b1)&&true)):=by kernel_rfl
attribute [go_sem] underlying3 underlying4 underlying5 underlying9 underlying12 underlying21 underlying22 underlying25 underlying26 underlying29 underlying30 underlying31 underlying34 underlying39 underlying40 underlying43 underlying44 underlying49 underlying56 underlying58 underlying62 underlying67 underlying72 underlying73 underlying74 underlying75 underlying87 underlying108 underlying111 underlying126 underlying150 underlying152 underlying156 underlying161 underlying168 underlying172 underlying180 underlying198 underlying200 underlying211 underlying216 underlying217 underlying225 underlying236 underlying245 underlying258 underlying266 underlying268 underlying288 underlying290 underlying306 underlying319 underlying327 underlying338 underlying339 underlying341 underlying350 underlying353 underlying356 underlying375 underlying377 underlying399
end Go.Proofs.YtobpcppcjdnkmaaGreat
