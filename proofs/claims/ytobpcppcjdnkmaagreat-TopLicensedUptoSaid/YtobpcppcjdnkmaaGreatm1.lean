/- Contracts of the functions that the law reaches; part 2. -/
import Derived.Lib.Overlaps
import Derived.RangeFuncSeq
import Derived.Sort.Grow
import Derived.Test.YtobpcppcjdnkmaaGreatm0
set_option linter.all false
set_option maxRecDepth 10000
set_option maxHeartbeats 8000000
open Array renaming replicate → yg
open Go renaming World → j5, Value → j6, TypeId → j8, Operand → j9, Oper → aa, Exit → ah, FuncId → am
open Go.Builtin renaming append_ → yQ, zeroCells → yr
open Go.Fence renaming wide → ya
open Go.IntKind renaming wrap → aD
open Go.Op renaming operands → w6
open Go.Oper renaming wp_mono → yL
open Go.Region renaming ready → w5, noSelect → je
open Go.Result renaming andThen_ok → wj
open Go.Sem renaming run_pure → wG, run_bind → wq
open Go.Sort renaming ahead → jx
open Go.World renaming putObj_heap_same → jk, putObj_heap_other → wX, alloc_heap_new → jg
open List renaming map → wt, range → wR, replicate → yb
noncomputable section
namespace Go.Dl
open Go.RowKit
variable {l ops:List aa}{s s':DS}{o:aa}{t:Bool}{a:Act}{w w':j5}{N b cap i j m n n' sz:Nat}{K K':DS->Prop}{Q:ah->DS->Prop}{dst:Option Nat}{c y:Code}{listed:Array Bool}{x:j9}{bx:vT}{op:Op}{d:D}{js rows:Rows}{l':List D}{caps:List C}{α:Type}{sls:List (Nat×D)}{E:Env}{v:j6}{P:Program}{pos:Nat->Nat}{str:ByteArray}{cs:List Frame}
section
variable {P:Program}
def vX(ops:List aa)(s:DS)(o:aa):Option Bool:=
 match o.guard with
 | none=>some true
 | some (j,want)=>match (ops[j]?).bind (·.dst)with
  | some t=>match s.sl t with
   | .one (.c (.lit (.bool b)))=>some (b==want)
   | .tup []=>some false
   | _=>none
  | none=>none
def zn(h:vX ops s o=some t){X:Origin}(hr:Z1 X s a w):Region.wanted o (yielded ops.toArray a.tmps)=t:=by
 unfold vX at h;unfold Region.wanted;split at h
 ·grind
 ·rename_i j want hg;rw[hg];simp only;split at h
  ·rename_i u hu;split at h
   ·rename_i b hb;injection h with h
    obtain⟨E,hE⟩:=hr;have hv:=hE.sl u;rw[hb]at hv;have hv':=hv.lit;have qf:u<a.tmps.size:=by
     rcases yD u a.tmps.size with h1|h1
     ·exact h1
     ·simp[undef,jM h1]at hv'
    have PS:a.tmps[u]? =some (.bool b):=oA;have hy:yielded ops.toArray a.tmps j=some b:=by unfold yielded;have:(ops.toArray[j]?).bind (·.dst)=some u:=og;rw[this];simp[PS]
    rw[hy,<-h];cases b<;>cases want<;>rfl
   ·rename_i hb;injection h with h
    obtain⟨E,hE⟩:=hr;have hv:=hE.sl u;rw[hb]at hv;have hy:yielded ops.toArray a.tmps j=none:=by
     unfold yielded;have:(ops.toArray[j]?).bind (·.dst)=some u:=og;rw[this];simp only[yT];split
     ·rename_i b hb';exfalso;have:a.tmps.getD u undef= .bool b:=oA;rw[this]at hv;cases hv
     ·rfl
    rw[hy,<-h];cases want<;>rfl
   ·cases h
  ·cases h
def vc(P:Program)(ops:List aa)(o:aa)(s:DS)(K:DS->Prop):Prop:=
 match vX ops s o with
 | some t=>if t=true then Step P o s K else K (s.put o.dst (.tup []))
 | none=>False
def Qb(P:Program)(ops:List aa):List aa->DS->(DS->Prop)->Prop
 | [],s,K=>K s
 | o::l,s,K=>vc P ops o s fun s'=>Qb P ops l s' K
def qa5(o:aa):Bool:=match o.op with| .defer _=>false|_=>true
def zM(l:List aa)(n:Nat):Bool:=l.all fun o=>qa5 o&&match o.dst with|some d=>d<n|none=>true
def AP(h:qa5 o=true): ∀c,o.op≠ .defer c:=fun c e=>by simp[qa5,e]at h
def Qu(h:zM (o::l) n=true):(∀c,o.op≠ .defer c)/\(∀d,o.dst=some d->d<n)/\zM l n=true:=by simp only[zM,List.all_cons,we]at h;refine⟨AP h.1.1,fun d hd=>?_,h.2⟩;have:=h.1.2;rw[hd]at this;simpa using this
def zV{ro:Option Nat}(hd: ∀c,o.op≠ .defer c){K:Act->j5->Prop}{Q:ah->Act->j5->Prop}(h:o.wp P a w K Q):o.wpIn (rd ro) 0 P a w K Q:=by
 refine⟨fun f _=>rv ro f,?_⟩;rw[Ee,Oper.semAt_eq ro _ o hd];unfold Oper.wp at h;revert h;generalize (execOp a.eval o).run P w=r;intro h;have calls: ∀{f args w R},Calls P f args w R->CallsIn (rd ro) (0 - 1) P f args w R:=fun h=>by
  have h1:=callsIn_wide (n:=0 - 1).2 h;cases ro with
  | none=>exact h1
  | some l=>exact h1
 cases r with
 | ok x w'=>
  cases x<;>simp only[Oper.upon,Oper.uponIn]at h ⊢
  case value v=>exact h
  case skip=>exact h
  case defer d=>exact h
  case enter f args=>exact⟨fun e=>(by rw[tP]at e;cases e),calls h⟩
  case row row args=>
   refine⟨fun e=>(by rw[tP]at e;cases e),fun c cs _=>?_⟩;obtain⟨v,w'',h1,h2⟩:=h c cs;exact⟨v,w'',h1,by rw[Kw];exact stepsIn_wide.2 h2⟩
 | halt x w'=>cases x<;>simp only[Oper.upon,Oper.uponIn]at h ⊢ <;>exact h
def eC{X:Origin}(h:Z1 X s a w)(hd: ∀d,dst=some d->d<s.n):Z1 X (s.put dst (.tup [])) (a.put dst undef) w:=by obtain⟨E,hE⟩:=h;exact⟨E,hE.putOnly hd (.tup [] #[] rfl (fun j d v h1 _=>by simp at h1))⟩
def sw{ro:Option Nat}{Q':ah->Act->j5->Prop}{ops:List aa}{X:Origin}{N:Nat}{K:DS->Prop}(hK: ∀s a w,K s->Z1 X s a w->Q' .normal a w): ∀(l:List aa) (s:DS) (a:Act) (w:j5),zM l N=true->s.n=N->Z1 X s a w->
  Qb P ops l s K->wpListIn (rd ro) 0 P ops.toArray Q' l a w
 | [],s,a,w,_,hn,hr,h=>wpListIn_nil (hK s a w h hr)
 | o::l,s,a,w,hb,hn,hr,h=>by
  obtain⟨h0,h1,h2⟩:=Qu hb;refine wpListIn_step fun K' hK'=>?_;simp only[Qb,vc]at h;split at h
  ·rename_i t ht;rw[zn ht hr];split at h
   ·rename_i h3;rw[ae h3];refine zV h0 (yL ?_ (h (fun d hd=>by rw[hn];exact h1 d hd) X a w hr Q'));rintro a' w' ⟨s',⟨hn',hs'⟩,hr'⟩;exact hK' _ _ (sw hK l s' a' w' h2 (hn'.trans hn) hr' hs')
   ·rename_i h3;rw[j7 h3];refine⟨fun f _=>rv ro f,?_⟩;exact hK' _ _ (sw hK l _ _ w h2 (by rw[zD];exact hn) (eC hr (fun d hd=>by rw[hn];exact h1 d hd)) h)
  ·grind
def Q0{id:Nat}(hb:zM l s.n=true)(h:Qb P l l s (Q .normal)):DW P (.region id l.toArray false) s Q:=by intro X a w hr;refine wpIn_region_lit (sw (X:=X) (K:=Q .normal) (fun s a w h1 h2=>⟨s,h1,h2⟩) l s a w hb rfl hr h)
def pN(b:Builtin)(ρ:j9->j6)(x:j9)(t ty:j8)(w:j5): ∃cs,(resolve ρ { callee:=.builtin b,args:= #[x],argTypes:= #[t] } ty).run P w= .ok { target:=.builtin b #[t] ty cs,args:= #[ρ x] } w:=
 ⟨_,by simp only[resolve,jL,wo,wm,wG];rfl⟩
def Step.clear{o:aa}{s:DS}{K:DS->Prop}{n sz by_ i len cap:Nat}{x:j9}{t:j8}{rows:Rows}(ho:o.op= .call { callee:=.builtin .clear,args:= #[x],argTypes:= #[t] })
  (za:qT P t=some (sz,by_)) (hx:s.ev x= .one (.ba n sz i len cap)) (hn:s.bx n=some rows) (QH:i+len<=rows.length) (hz:RowsSz sz rows)
  (h:K ((s.setBx n (some (rows.take i++(qa len sz++rows.drop (i+len))))).put o.dst (.tup []))):Step P o s K:=by
 rintro hd X a w ⟨E,hE⟩ Q;have uG:=hE.ev x;rw[hx]at uG;obtain⟨w',qS,hE'⟩:=Ws (P:=P) (ty:=o.type) za hE uG hn QH hz;obtain⟨cs,dR⟩:=pN (P:=P) .clear a.eval x t o.type w;refine vg (v:=.tuple #[]) (w':=w') ?_ ⟨_,⟨by rw[zD];rfl,h⟩,?_⟩
 ·unfold execOp;simp only[ho,wq];rw[dR];simp only[wj,invoke,builtin,wq,qS,wG]
 ·exact⟨E,hE'.putOnly hd (.tup [] #[] rfl (fun j d v h1 _=>by simp at h1))⟩
def pE(n sz:Nat)(cs:List (List C))(js:Rows)(qZ:0<sz)(hn:s.bx n=some (cs.map (wt T.c)++js))(hz: ∀r∈cs,r.length=sz)(h:DW P c (s.frz n sz cs) Q):DW P c s Q:=
 qn (fun X a w ⟨E,hE⟩=>hE.frz qZ hn hz) h
end
section
variable {P:Program}
def QN(X:Origin)(K:DS->Prop)(e:ah)(a:Act)(w:j5):Prop:=e= .normal/\∃s',K s'/\Z1 X s' a w
def QW(P:Program)(ops:List aa)(N:Nat)(K:DS->Prop)(fuel:Nat)(listed:Array Bool)(s:DS):Prop:=
 s.n=N->∀X a w,Z1 X s a w->wpAny P .any ops.toArray (QN X K) fuel listed a w
def xI{fuel:Nat}(hr:w5 .any ops.toArray listed= [])(h:K s):QW P ops N K fuel listed s:=
 fun _ X a w Qk=>wpAny_done hr ⟨rfl,s,h,Qk⟩ fuel
def pG(hb:zM ops N=true)(ho:ops[i]? =some o): ∀d,o.dst=some d->d<N:=fun d hd=>by have:=wZ.1 hb o (ww ho);rw[hd]at this;simp only[we]at this;simpa using this.2
def Yy(hb:zM ops N=true)(ho:ops[i]? =some o): ∀c,o.op≠ .defer c:=by have:=wZ.1 hb o (ww ho);simp only[we]at this;exact AP this.1
def uc{ro:Option Nat}{ops:Array aa}{Q:ah->Act->j5->Prop}(hQ: ¬LetsOut Q)(hd: ∀(i:Nat) (o:aa),ops[i]? =some o->∀c,o.op≠ .defer c): ∀(l:List Nat) (a:Act) (w:j5),wpOps P ops Q l a w->wpOpsIn (rd ro) 0 P ops Q l a w
 | [],_,_,h=>h
 | i::l,a,w,h=>by
  simp only[wpOps,wpOpsIn]at h ⊢;cases ho:ops[i]? with
  | none=>rw[ho]at h;exact uc hQ hd l a w h
  | some o=>
   rw[ho]at h;simp only at h ⊢;split
   ·rename_i h3;rw[ae h3]at h;rcases h with h|⟨_,h⟩
    ·exact zV (hd i o ho) (yL (fun a' w' h'=>uc hQ hd l a' w' h') h)
    ·grind
   ·rename_i h3;rw[j7 h3]at h;exact⟨fun f _=>rv ro f,uc hQ hd l _ w h⟩
def SF{ops:List aa}{N:Nat}(hb:zM ops N=true){K:DS->Prop}{fuel:Nat}{listed:Array Bool}{s:DS}{i:Nat}{o:aa}(hr:w5 .any ops.toArray listed= [i])(ho:ops[i]? =some o)
  (h:vc P ops o s (QW P ops N K fuel (listed.setIfInBounds i true))):QW P ops N K (fuel+1) listed s:=by
 intro hn X a w Qk;refine wpAny_all hr oh fun j hj=>?_;have nO:j=i:=og;subst nO;have hd:=pG hb ho;unfold wpOp;have ho':ops.toArray[j]? =some o:=og;simp only[ho'];unfold vc at h;split at h
 ·rename_i t ht;rw[zn ht Qk];split at h
  ·rename_i h3;rw[ae h3];refine .inl (yL ?_ (h (fun d hd'=>by rw[hn];exact hd d hd') X a w Qk _));rintro a' w' ⟨s',⟨hn',hs'⟩,hr'⟩;exact hs' (hn'.trans hn) X a' w' hr'
  ·rename_i h3;rw[j7 h3];exact h (by rw[zD];exact hn) X _ w (eC Qk (fun d hd'=>by rw[hn];exact hd d hd'))
 ·grind
def dl(P:Program)(s:DS)(o:aa)(d:D):Prop:=
 ∀(X:Origin) (E:Env) (a:Act) (w:j5),RelE X s E a w->∃v,(∀w',(execOp a.eval o).run P w'= .ok (.value v) w')/\VD w E d v
def ie{ops:List aa}{N:Nat}(hb:zM ops N=true){K:DS->Prop}{fuel:Nat}{listed:Array Bool}{s:DS}{i:Nat}{o:aa}{d:D}(ho:ops[i]? =some o)(hs:je ops.toArray=true)
  (hf:Region.free .any ops.toArray listed i=true) (hr:(w5 .any ops.toArray listed).contains i=true) (hw:vX ops s o=some true) (hy:dl P s o d)
  (h:QW P ops N K fuel (listed.setIfInBounds i true) (s.put o.dst d)):QW P ops N K (fuel+1) listed s:=by
 rintro hn X a w ⟨E,hE⟩;have hd:=pG hb ho;obtain⟨v,h1,h2⟩:=hy X E a w hE;have Qk:Z1 X (s.put o.dst d) (a.put o.dst v) w:=⟨E,hE.putOnly (fun d' hd'=>by rw[hn];exact hd d' hd') h2⟩;exact wpAny_take (by simpa using ho) hs hf hr (fun c a w hq=>ak hq.1 oh) (.inl ⟨zn hw ⟨E,hE⟩,h1⟩) (h (by rw[zD];exact hn) X _ w Qk)
def sX{ops:List aa}{N:Nat}(hb:zM ops N=true){K:DS->Prop}{fuel:Nat}{listed:Array Bool}{s:DS}{i:Nat}{o:aa}(ho:ops[i]? =some o)(hs:je ops.toArray=true)
  (hf:Region.free .any ops.toArray listed i=true) (hr:(w5 .any ops.toArray listed).contains i=true) (hw:vX ops s o=some false)
  (h:QW P ops N K fuel (listed.setIfInBounds i true) (s.put o.dst (.tup []))):QW P ops N K (fuel+1) listed s:=by
 rintro hn X a w Qk;have hd:=pG hb ho;exact wpAny_take (by simpa using ho) hs hf hr (fun c a w hq=>ak hq.1 oh) (.inr ⟨zn hw Qk,rfl⟩) (h (by rw[zD];exact hn) X _ w (eC Qk (fun d' hd'=>by rw[hn];exact hd d' hd')))
def CE{id:Nat}(hb:zM l s.n=true)(hm:P.follows .mixedOrders=true)(h:QW P l s.n (Q .normal) l.length (yg l.length false) s):DW P (.region id l.toArray true) s Q:=by
 intro X a w hr;have hr':Z1 X s a { w with drawn:=w.drawn+1 }:=by obtain⟨E,hE⟩:=hr;exact⟨E,hE.quiet ⟨(Below.refl _ _).drew,fun _ _ h=>h,fun _ _ _ h=>h,hE.wi.kok.move (fun _ _ _=>rfl) (hE.wi.kok.z.below ((Below.refl _ _).drew)),rfl,rfl⟩⟩
 refine wpIn_mono (Q:=QN X (Q .normal)) (wpIn_region_draw fun t=>?_) ?_
 ·refine uc (Q:=QN X (Q .normal)) (fun⟨_,_,h,_⟩=>by cases h) (fun i o ho=>Yy hb (by simpa using ho)) _ _ _ ?_;simp only[Region.schedule,hm,Bool.true_or,an];exact wpAny_sound l.toArray.size t _ a _ (by simpa using h rfl X a _ hr')
 rintro e a' w' ⟨rfl,s',h1,h2⟩;exact⟨s',h1,h2⟩
end
section
variable {P:Program} {s:DS} {o:aa}
def Ik(ho:o.op= .move x):dl P s o (s.ev x):=fun X E a w hE=>⟨a.eval x,fun w'=>by simp[execOp,ho],hE.ev x⟩
def CX(ho:o.op= .assign x):dl P s o (s.ev x):=fun X E a w hE=>⟨a.eval x,fun w'=>by simp[execOp,ho],hE.ev x⟩
def xx{k:Nat}(ho:o.op= .nilCheck x)(hx:s.ev x= .one (.bx n sz i k)):dl P s o (.one (.bx n sz i k)):=fun X E a w hE=>by have hv:=hE.ev x;rw[hx]at hv;have e:=hv.bx_inv;exact⟨a.eval x,fun w'=>by simp only[execOp,ho,e,wG],hv⟩
def sk{t:j8}{f off k:Nat}(ho:o.op= .fieldAddr t x f)(hf:Program.fieldOff P t f=some off)(hx:s.ev x= .one (.bx n sz i k)):dl P s o (.one (.bx n sz i (k+off))):=fun X E a w hE=>by have hv:=hE.ev x;rw[hx]at hv;have e:=hv.bx_inv;refine⟨.pointer (some ((⟨E.ρ n,i*sz+k,none⟩:Addr).add off)),fun w'=>by simp only[execOp,ho,wq,e,gq hf,wj,wG],?_⟩;rw[vE,ju];exact .one _ _ (.bx n sz i (k+off))
def FL{op:BinOp}{t ty:j8}{x y:j9}{u v r:j6}(ho:o.op= .binOp op t x y ty)(hx:s.ev x= .one (.c (.lit u)))(hy:s.ev y= .one (.c (.lit v)))(hr:pR P op t (.one (.c (.lit u))) (.one (.c (.lit v)))=some r)(hu:u.oneCell'=true)(hv:v.oneCell'=true):
  dl P s o (.one (.c (.lit r))):=fun X E a w hE=>by
 have h1:=hE.ev x;have h2:=hE.ev y;rw[hx]at h1;rw[hy]at h2;have e1:=h1.lit;have e2:=h2.lit;have key: ∀w',((do eqGuard op t x y (a.eval x) (a.eval y);binOp op t (a.eval x) (a.eval y)):Sem j6).run P w'= .ok r w'/\r.oneCell'=true:=fun w'=>by rw[e1,e2];exact JP (w:=w') (E:=E) hr (.one _ _ (.c _ _ (.lit _ hu))) (.one _ _ (.c _ _ (.lit _ hv))) x y
 refine⟨r,fun w'=>?_,.one _ _ (.c _ _ (.lit _ (key w).2))⟩;have:=(key w').1;simp only[execOp,ho,wq]at this ⊢;rw[this];rfl
def FK{t:j8}{x y:j9}{n sz i len cap:Nat}{k:IntKind}{j:Int}(ho:o.op= .indexAddr t x y)(he:Program.elemSz P t=some sz)(hx:s.ev x= .one (.ba n sz i len cap))(hy:s.ev y= .one (.c (.lit (.int k j))))(hj:0<=j)(hl:j.toNat<len):
  dl P s o (.one (.bx n sz (i+j.toNat) 0)):=fun X E a w hE=>by
 obtain⟨e,inf,hu,hi,vo,qZ⟩:=bU he;have hv:=hE.ev x;have hw:=hE.ev y;rw[hx]at hv;rw[hy]at hw;have ey:=hw.lit;have hb:(0<=j/\j<(len:Int)):=oa;cases hux:a.eval x with
 | slice A l c=>
  rw[hux]at hv;cases hv with|one t' v hv=>cases hv with
   | ba _ _ _ _ _ h1 h2=>
    refine⟨.pointer (some ⟨E.ρ n,(i+j.toNat)*sz+0,none⟩),fun w'=>?_,.one _ _ (.bx n sz (i+j.toNat) 0)⟩;simp[execOp,ho,hux,ey,Instr.indexAt,asIntOf,run_underlying hu,hb,sizeOf,typeInfo,hi,vo,vE,yo]
   | bz=>omega
 | _=>rw[hux]at hv;cases hv with|one t' v hv=>cases hv
end
section
variable {P:Program}
def WV{ev:j9->D}{K K':D->Prop}(hk: ∀d,K d->K' d)(h:QD P ev bx op K):QD P ev bx op K':=by
 cases op with
 | indexAddr t x i=>
  revert h;simp only[QD];split
  ·grind
  ·grind
  ·exact id
 | call c=>
  obtain⟨callee,args,vy⟩:=c;cases callee with
  | value f=>
   simp only[QD]at h ⊢;obtain⟨g,caps,ds,r,h1,h2,h3,h4⟩:=h;exact⟨g,caps,ds,r,h1,h2,h3,hk _ h4⟩
  | invoke r m=>exact h.elim
  | builtin b=>
   cases b with
   | len=>
    revert h;simp only[QD];split
    ·grind
    ·exact id
   | cap=>
    revert h;simp only[QD];split
    ·grind
    ·exact id
   | _=>
    revert h;simp only[QD];split
    ·grind
    ·exact id
 | makeFunc fn first captured=>
  cases fn with
  | func f=>
   revert h;simp only[QD];split
   ·grind
   ·exact id
  | _=>exact h.elim
 | move x=>exact hk _ h
 | assign x=>exact hk _ h
 | extract x i=>
  revert h;simp only[QD];split
  ·grind
  ·exact id
 | pick=>revert h;simp only[QD];split<;>first|exact hk _|exact id
 | load=>revert h;simp only[QD];split<;>first|exact hk _|exact id
 | build=>revert h;simp only[QD];split<;>first|exact hk _|exact id
 | buildSlice=>revert h;simp only[QD];split<;>first|exact hk _|exact id
 | binOp=>revert h;simp only[QD];split<;>first|exact hk _|exact id
 | unOp=>revert h;simp only[QD];split<;>first|exact hk _|exact id
 | convert=>revert h;simp only[QD];split<;>first|exact hk _|exact id
 | index=>revert h;simp only[QD];split<;>first|exact hk _|exact id
 | fieldAddr=>revert h;simp only[QD];split<;>first|exact hk _|exact id
 | field=>revert h;simp only[QD];split<;>first|exact hk _|exact id
 | slice=>revert h;simp only[QD];split<;>first|exact hk _|exact id
 | nilCheck=>revert h;simp only[QD];split<;>first|exact hk _|exact id
 | _=>exact h.elim
def FX{ev ev':j9->D}{K:D->Prop}(h: ∀x∈op.operands,ev x=ev' x)(hq:QD P ev bx op K):QD P ev' bx op K:=by
 have XF: ∀(ps:Array (Nat×j9)),(∀p∈ps.toList,ev p.2=ev' p.2)->(ps.toList.map fun p=>(p.1,ev p.2))=ps.toList.map fun p=>(p.1,ev' p.2):=fun ps hp=>
  yz fun p hm=>by rw[hp p hm]
 cases op with
 | move x=>simp only[QD]at hq ⊢;rw[<-h x (by simp[w6])];exact hq
 | assign x=>simp only[QD]at hq ⊢;rw[<-h x (by simp[w6])];exact hq
 | pick c a b=>
  simp only[QD]at hq ⊢;rw[<-h c (by simp[w6]),<-h a (by simp[w6]),<-h b (by simp[w6])];exact hq
 | load t x=>simp only[QD]at hq ⊢;rw[<-h x (by simp[w6])];exact hq
 | build t parts=>
  simp only[QD]at hq ⊢;rw[<-XF parts fun p hp=>h p.2 (by simp only[w6,List.mem_toArray,wN];exact⟨p,hp,rfl⟩)];exact hq
 | buildSlice t n parts=>
  simp only[QD]at hq ⊢;rw[<-XF parts fun p hp=>h p.2 (by simp only[w6,List.mem_toArray,wN];exact⟨p,hp,rfl⟩)];exact hq
 | binOp op t x y ty=>simp only[QD]at hq ⊢;rw[<-h x (by simp[w6]),<-h y (by simp[w6])];exact hq
 | unOp op t x=>simp only[QD]at hq ⊢;rw[<-h x (by simp[w6])];exact hq
 | convert s d x=>simp only[QD]at hq ⊢;rw[<-h x (by simp[w6])];exact hq
 | index t x i=>simp only[QD]at hq ⊢;rw[<-h x (by simp[w6]),<-h i (by simp[w6])];exact hq
 | fieldAddr t x f=>simp only[QD]at hq ⊢;rw[<-h x (by simp[w6])];exact hq
 | field t x f=>simp only[QD]at hq ⊢;rw[<-h x (by simp[w6])];exact hq
 | indexAddr t x i=>simp only[QD]at hq ⊢;rw[<-h x (by simp[w6]),<-h i (by simp[w6])];exact hq
 | slice t x lo hi mx=>
  have e1:ev x=ev' x:=h x (by simp[w6]);have e2:lo.map ev=lo.map ev':=by cases lo with|none=>rfl|some l=>simp[h l (by simp[w6])]
  have e3:hi.map ev=hi.map ev':=by cases hi with|none=>rfl|some l=>simp[h l (by simp[w6])]
  have e4:mx.map ev=mx.map ev':=by cases mx with|none=>rfl|some l=>simp[h l (by simp[w6])]
  simp only[QD]at hq ⊢;rw[<-e1,<-e2,<-e3,<-e4];exact hq
 | call c=>
  obtain⟨callee,args,vy⟩:=c;have ha: ∀x∈args.toList,ev x=ev' x:=fun x hx=>h x (by simp only[w6,Call.operands,Array.mem_append];exact .inr (Array.mem_toList_iff.1 hx));cases callee with
  | value f=>
   have hf:ev f=ev' f:=h f (by simp[w6,Call.operands]);simp only[QD]at hq ⊢;rw[<-hf,<-yz ha];exact hq
  | invoke r m=>exact hq.elim
  | builtin b=>
   cases b with
   | len=>
    revert hq;simp only[QD];split
    ·grind
    ·exact id
   | cap=>
    revert hq;simp only[QD];split
    ·grind
    ·exact id
   | _=>
    simp only[QD]at hq ⊢;rw[<-yz ha];exact hq
 | extract x i=>simp only[QD]at hq ⊢;rw[<-h x (by simp[w6])];exact hq
 | nilCheck x=>simp only[QD]at hq ⊢;rw[<-h x (by simp[w6])];exact hq
 | makeFunc fn first captured=>
  cases fn with
  | func f=>
   have hc:captured.toList.map ev=captured.toList.map ev':=yz fun x hx=>h x (by simp only[w6,Array.mem_append];exact .inr (Array.mem_toList_iff.1 hx));simp only[QD]at hq ⊢;rw[<-hc];exact hq
  | _=>exact hq.elim
 | _=>exact hq.elim
end
section
variable {P:Program}
def AL(P:Program)(ops:List aa)(o:aa)(s:DS)(K:DS->Prop):Prop:=
 match vX ops s o with
 | some true=>∃d,QD P s.ev s.bx o.op (· =d)/\K (s.put o.dst d)
 | some false=>K (s.put o.dst (.tup []))
 | none=>False
def qgq(P:Program)(o:aa)(s:DS)(K:DS->Prop):Prop:=
 ∃f args vy g caps ds R,o.op= .call { callee:=.value f,args:=args,argTypes:=vy }/\(s.ev f).asFn=some (g,caps)/\DLeL ((args.toList.map s.ev++caps.map D.one).map (D.tr (ZK zi []))) ds/\
  ECalls P g ds qA R/\CallOkM zi [] o.dst/\∀r H',R r H'->K (s.aftCallM zi [] o.dst r H')
def qgr(P:Program)(o:aa)(s:DS)(K:DS->Prop):Prop:=
 ∃m t x ns sz by_,o.op= .buildSlice t 1 #[(0,x)]/\o.dst=some m/\qT P t=some (sz,by_)/\sz<=16777216/\(s.ev x).cells=some ns/\ns.length=sz/\m<1000/\K ((s.newMem m [ns]).put (some m) (.one (.ba m sz 0 1 1)))
def AF(P:Program)(ops:List aa)(o:aa)(s:DS)(K:DS->Prop):Prop:=
 vX ops s o=some true/\(qgq P o s K\/qgr P o s K)
inductive Kind where
 | light
 | fresh
 | step
def TD(P:Program)(ops:List aa)(k:Nat->Kind)(i:Nat)(s:DS)(K:DS->Prop):Prop:=
 match ops[i]? with
 | none=>K s
 | some o=>match k i with
  | .light=>AL P ops o s K
  | .fresh=>AF P ops o s K
  | .step=>vc P ops o s K
def ii(hk: ∀s,K s->K' s)(h:AF P ops o s K):AF P ops o s K':=by
 obtain⟨h0,⟨f,args,vy,g,caps,ds,R,h1,h2,h3,h4,h6,h5⟩|⟨m,t,x,ns,sz,by_,h1,h2,h3,h4,h5,h6,h7,h8⟩⟩:=h
 ·exact⟨h0,.inl ⟨f,args,vy,g,caps,ds,R,h1,h2,h3,h4,h6,fun r H' hr=>hk _ (h5 r H' hr)⟩⟩
 ·exact⟨h0,.inr ⟨m,t,x,ns,sz,by_,h1,h2,h3,h4,h5,h6,h7,hk _ h8⟩⟩
def S0(h:AF P ops o s K):vc P ops o s K:=by
 obtain⟨h0,⟨f,args,vy,g,caps,ds,R,h1,h2,h3,h4,h6,h5⟩|⟨m,t,x,ns,sz,by_,h1,h2,h3,h4,h5,h6,h7,h8⟩⟩:=h
 ·unfold vc;simp only[h0,an];exact Step.callM zi h1 h2 h3 h4 (fun k r hk=>by cases hk) h6 h5
 ·unfold vc;simp only[h0,an];exact Step.buildOne h1 h2 h3 h4 h5 h6 h8
def zT(hk: ∀s,K s->K' s)(h:AL P ops o s K):AL P ops o s K':=by
 unfold AL at*
 split
 ·grind
 ·grind
 ·grind
def gG(h:AL P ops o s K):vc P ops o s K:=by
 unfold AL at h;unfold vc;split at h
 ·rename_i hw;simp only[hw,an];obtain⟨d,h1,h2⟩:=h;exact Step.quiet (WV (K:=(· =d)) (fun d' (hd':d'=d)=>by rw[hd'];exact h2) h1)
 ·grind
 ·grind
def uY(h: ∀t,dst=some t->x≠ .tmp t):(s.put dst d).ev x=s.ev x:=by
 cases dst with
 | none=>rfl
 | some t=>
  cases x with
  | tmp u=>
   have qH:u≠t:=og;simp[DS.ev,DS.put,qH]
  | _=>rfl
def QO{ops:Array aa}{t:Nat}(h:t∉o.looksAt ops): ∀x∈o.op.operands,x≠ .tmp t:=fun x hx e=>
 h (jH _ (List.mem_filterMap.2 ⟨.tmp t,by subst e;simpa using hx,rfl⟩))
def aH(h: ∀t,dst=some t->t∉o.looksAt ops.toArray):vX ops (s.put dst d) o=vX ops s o:=by
 unfold vX;cases hg:o.guard with
 | none=>rfl
 | some gw=>
  obtain⟨g,want⟩:=gw;simp only;cases hu:(ops[g]?).bind (·.dst)with
  | none=>rfl
  | some u=>
   simp only;have:(s.put dst d).sl u=s.sl u:=by
    cases dst with
    | none=>rfl
    | some t=>
     have qH:u≠t:=fun e=>by subst e;refine h u rfl ?_;have hu':(ops.toArray[g]?).bind (·.dst)=some u:=og;unfold Oper.looksAt;rw[hg];exact List.mem_append_right _ (by simp only[hu'];simp)
     simp[DS.put,qH]
   rw[this]
def El(s:DS){x y:Option Nat}(d e:D)(h: ∀t,x=some t->y≠some t):(s.put x d).put y e=(s.put y e).put x d:=by
 cases x with
 | none=>rfl
 | some t=>
  cases y with
  | none=>rfl
  | some u=>
   have qH:t≠u:=og;simp only[DS.put];congr 1;funext k;by_cases h1:k=u
   ·grind
   ·grind
def Iu{ops:Array aa}{e:D}(h: ∀t,dst=some t->t∉o.looksAt ops){K:D->Prop}:QD P (s.put dst e).ev (s.put dst e).bx o.op K↔QD P s.ev s.bx o.op K:=by
 have Q6: ∀x∈o.op.operands,(s.put dst e).ev x=s.ev x:=fun x hx=>uY fun t ht=>QO (h t ht) x hx;have HJ:(s.put dst e).bx=s.bx:=by cases dst<;>rfl
 rw[HJ];exact⟨fun h=>FX Q6 h,fun h=>FX (fun x hx=>(Q6 x hx).symm) h⟩
def sQ{oi oj:aa}(Ac:oi.apart ops.toArray oj=true)(h:AL P ops oi s fun s1=>AL P ops oj s1 K):AL P ops oj s fun s2=>AL P ops oi s2 K:=by
 obtain⟨h1,h2,h3⟩:=Oper.apart_spec Ac;unfold AL at h ⊢;have N1: ∀(d:D),(match vX ops (s.put oi.dst d) oj with
    | some true=>∃d',QD P (s.put oi.dst d).ev (s.put oi.dst d).bx oj.op (· =d')/\K ((s.put oi.dst d).put oj.dst d')
    | some false=>K ((s.put oi.dst d).put oj.dst (.tup []))
    | none=>False)->
   (match vX ops s oj with
    | some true=>∃d',QD P s.ev s.bx oj.op (· =d')/\K ((s.put oj.dst d').put oi.dst d)
    | some false=>K ((s.put oj.dst (.tup [])).put oi.dst d)
    | none=>False):=by
  intro d;rw[aH h1];split
  ·rintro⟨d',g1,g2⟩;exact⟨d',(Iu h1).1 g1,by rw[<-El s d d' h2];exact g2⟩
  ·intro g;rw[<-El s d (.tup []) h2];exact g
  ·exact id
 split at h
 ·rename_i hw;obtain⟨d,hy,hK⟩:=h;have hs:=N1 d hK;split at hs
  ·rename_i hwj;obtain⟨d',g1,g2⟩:=hs;exact⟨d',g1,by dsimp only;rw[aH h3,hw];exact⟨d,(Iu h3).2 hy,g2⟩⟩
  ·rename_i hwj;dsimp only;rw[aH h3,hw];exact⟨d,(Iu h3).2 hy,hs⟩
  ·omega
 ·rename_i hw;have hs:=N1 (.tup []) h;split at hs
  ·rename_i hwj;obtain⟨d',g1,g2⟩:=hs;exact⟨d',g1,by dsimp only;rw[aH h3,hw];exact g2⟩
  ·rename_i hwj;dsimp only;rw[aH h3,hw];exact hs
  ·omega
 ·grind
def bk(P:Program)(ops:List aa)(k:Nat->Kind)(K:DS->Prop):Nat->Array Bool->DS->Prop
 | 0,listed,s=>w5 .any ops.toArray listed= []/\K s
 | fuel+1,listed,s=>(w5 .any ops.toArray listed= []->K s)/\∀i∈w5 .any ops.toArray listed,TD P ops k i s (bk P ops k K fuel (listed.setIfInBounds i true))
end
variable {k:Nat->Kind}
section
variable {P:Program}
def sg(ops:List aa)(listed:Array Bool)(i:Nat)(D:List Nat):Bool:=
 D.all fun k=> !listed.getD k true&&k !=i&&match ops[k]? with
  | some o=>o.after.any fun e=>Region.binds .any e&&(e.on==i||D.contains e.on)
  | none=>false
def tK(ops:List aa)(k:Nat->Kind)(listed:Array Bool)(i:Nat)(D:List Nat):Bool:=
 match ops[i]? with
 | none=>false
 | some oi=>(wR ops.length).all fun j=>j==i||listed.getD j true||D.contains j||match ops[j]? with
  | some oj=>(match k j with| .light=>true|_=>false)&&oi.apart ops.toArray oj
  | none=>true
def JU(hk: ∀s,K s->K' s)(h:TD P ops k i s K):TD P ops k i s K':=by
 unfold TD at*
 split
 ·grind
 ·rename_i o ho;simp only[ho]at h;split
  ·rename_i hki;simp only[hki]at h;exact zT hk h
  ·rename_i hki;simp only[hki]at h;exact ii hk h
  ·rename_i hki;simp only[hki]at h;unfold vc at*
   split at h
   ·rename_i t ht;split at h
    ·rename_i h3;simp only[h3,an];exact Step.mono h fun s' _ hs'=>hk s' hs'
    ·grind
   ·exact h
theorem dT{l:Array Bool}{x:Nat}(h:l.getD x true=false):l.getD x false=false:=og
def bV{D:List Nat}(h:sg ops listed i D=true)(hj:j∈D):listed.getD j true=false/\j≠i/\∃o,ops[j]? =some o/\∃e∈o.after,Region.binds .any e=true/\(e.on=i\/e.on∈D):=by
 have:=wZ.1 h j hj;simp only[we,jz,bne_iff_ne,ne_eq]at this;obtain⟨⟨h1,h2⟩,h3⟩:=this;refine⟨h1,h2,?_⟩;split at h3
 ·grind
 ·cases h3
def gu{D:List Nat}(h:sg ops listed i D=true)(hj:j∉D):sg ops (listed.setIfInBounds j true) i D=true:=by
 unfold sg at*
 rw[wZ]at*
 intro k hk;have:=h k hk;have qH:j≠k:=og;rw[getD_set_ne true qH];exact this
def GN{ops:List aa}{k:Nat->Kind}{listed:Array Bool}{i:Nat}{D:List Nat}{oi:aa}(hi:ops[i]? =some oi)(h:tK ops k listed i D=true){j:Nat}{oj:aa}(hj:ops[j]? =some oj)(qH:j≠i)(S9:listed.getD j true=false)(hD:j∉D):
  k j= .light/\oi.apart ops.toArray oj=true:=by
 simp only[tK,hi,wZ,yU]at h;have:=h j (wg.1 hj).1;simp only[hj,jQ,we,aq,qH,S9,yq,false_or,jR,hD]at this;refine⟨?_,this.2⟩;have h1:=this.1;cases hk:k j with
 | light=>rfl
 | _=>grind
def Ks{D:List Nat}(h:tK ops k listed i D=true)(j:Nat):tK ops k (listed.setIfInBounds j true) i D=true:=by
 unfold tK at*
 split at h
 ·cases h
 ·rename_i oi F5;rw[wZ]at*
  intro x hx;have:=h x hx;by_cases hxj:j=x
  ·simp_all
  ·simp_all
def Mr{ops:List aa}{k:Nat->Kind}{K:DS->Prop}{i:Nat}{oi:aa}{D:List Nat}(hi:ops[i]? =some oi)(hk:k i= .light):
  ∀(fuel:Nat) (listed:Array Bool) (s:DS),sg ops listed i D=true->tK ops k listed i D=true->i∈w5 .any ops.toArray listed->
   TD P ops k i s (bk P ops k K fuel (listed.setIfInBounds i true))->bk P ops k K (fuel+1) listed s:=by
 have OY: ∀{listed:Array Bool} {j:Nat},sg ops listed i D=true->i∈w5 .any ops.toArray listed->j∈w5 .any ops.toArray listed->j∉D:=by
  intro listed j hd X4 hrj hj;obtain⟨h1,h2,o,ho,e,he,hb,r9⟩:=bV hd hj;obtain⟨_,o',ho',zW⟩:=mem_ready.1 hrj;have F6:ops[j]? =some o':=og;rw[ho]at F6;injection F6 with F6;subst F6
  have hl:=zW e he hb;rcases r9 with r9|r9
  ·rw[r9,dT (mem_ready.1 X4).1]at hl;cases hl
  ·rw[dT (bV hd r9).1]at hl;cases hl
 intro fuel;induction fuel with
 | zero=>
  intro listed s hd aE hr H;refine⟨fun h=>(by rw[h]at hr;cases hr),fun j hj=>?_⟩;by_cases nO:j=i
  ·grind
  ·have h1:=ready_mono hj nO;have h2:w5 .any ops.toArray (listed.setIfInBounds i true)= []:=by
    unfold TD at H;simp only[hi,hk]at H;unfold AL at H;split at H
    ·obtain⟨_,_,h⟩:=H;exact h.1
    ·exact H.1
    ·grind
   rw[h2]at h1;cases h1
 | succ fuel ih=>
  intro listed s hd aE hr H;refine⟨fun h=>(by rw[h]at hr;cases hr),fun j hj=>?_⟩;by_cases nO:j=i
  ·grind
  ·have Td:=OY hd hr hj;obtain⟨hjun,oj,hoj,zW⟩:=mem_ready.1 hj;have hoj':ops[j]? =some oj:=og;obtain⟨hkj,Ac⟩:=GN hi aE hoj' nO hjun Td;have h0:AL P ops oi s (bk P ops k K (fuel+1) (listed.setIfInBounds i true)):=by unfold TD at H;simp only[hi,hk]at H;exact H
   have h1:AL P ops oi s fun s1=>AL P ops oj s1 (bk P ops k K fuel ((listed.setIfInBounds i true).setIfInBounds j true)):=zT (fun s1 h=>by have:=h.2 j (ready_mono hj nO);unfold TD at this;simp only[hoj',hkj]at this;exact this) h0
   have h2:=sQ Ac h1;unfold TD;simp only[hoj',hkj];refine zT (fun s2 h3=>ih (listed.setIfInBounds j true) s2 (gu hd Td) (Ks aE j) (ready_mono hr (Ne.symm nO)) ?_) h2;unfold TD;simp only[hi,hk];rw[jq _ _ nO];exact h3
def gz{ops:List aa}{N:Nat}(hb:zM ops N=true){k:Nat->Kind}{K:DS->Prop}: ∀(fuel:Nat) (listed:Array Bool) (s:DS),bk P ops k K fuel listed s->QW P ops N K fuel listed s
 | 0,listed,s,h=>xI h.1 h.2
 | fuel+1,listed,s,h=>by
  intro hn X a w Qk;refine⟨fun h0=>⟨rfl,s,h.1 h0,Qk⟩,fun j hj=>?_⟩;have hT:=h.2 j hj;unfold wpOp;split
  ·rename_i ho;have ho':ops[j]? =none:=og;unfold TD at hT;simp only[ho']at hT;exact gz hb fuel _ s hT hn X a w Qk
  ·rename_i o ho;have ho':ops[j]? =some o:=og;have hd:=pG hb ho';have hG:vc P ops o s (bk P ops k K fuel (listed.setIfInBounds j true)):=by
    unfold TD at hT;simp only[ho']at hT;split at hT
    ·exact gG hT
    ·exact S0 hT
    ·exact hT
   unfold vc at hG;split at hG
   ·rename_i t ht;rw[zn ht Qk];split at hG
    ·rename_i h3;rw[ae h3];refine .inl (yL ?_ (hG (fun d hd'=>by rw[hn];exact hd d hd') X a w Qk _));rintro a' w' ⟨s',⟨hn',hs'⟩,hr'⟩;exact gz hb fuel _ s' hs' (hn'.trans hn) X a' w' hr'
    ·rename_i h3;rw[j7 h3];exact gz hb fuel _ _ hG (by rw[zD];exact hn) X _ w (eC Qk (fun d hd'=>by rw[hn];exact hd d hd'))
   ·grind
end
section
variable {P:Program}
def D4{r:Ren}{x:List T}(h:iy rows sz i=some x):iy (Rows.tr r rows) sz i=some (x.map (T.tr r)):=by obtain⟨h1,h2,h3⟩:=fN h;unfold iy;simp only[Rows.tr,wh,h1,yO,yT,T.trAll_eq,wn,h2,an]
def qbu{bx':vT}{t:j8}{o:Nat}{r:Ren}(hb:bx' n=(bx n).map (Rows.tr r))(h:C9 P bx t (.one (.bx n sz i o))=some d):C9 P bx' t (.one (.bx n sz i o))=some (d.tr r):=by
 cases hk:Program.ldk P t with
 | none=>simp[C9,hk]at h
 | some q=>
  cases q with
  | none=>
   simp only[C9,hk,w7,wK]at h;obtain⟨rows,h1,x,h2,t',h3,rfl⟩:=h;simp only[C9,hk,hb,h1,yO,yT,D4 h2,wh,h3,D.tr]
  | some k=>
   simp only[C9,hk,w7]at h;obtain⟨rows,h1,x,h2,h3⟩:=h;split at h3
   ·rename_i vh;injection h3 with h3;subst h3
    simp only[C9,hk,hb,h1,yO,yT,D4 h2,wn,vh,an,D.tr,T.trAll_eq,jv,List.map_drop]
   ·cases h3
def nH{m:Option Nat}{r:D}{H':vT}(h:m≠some i):(s.put (some i) d).aftCallM zi [] m r H'=(s.aftCallM zi [] m r H').put (some i) (d.tr (bQ zi [] m)):=by
 cases m with
 | none=>
  simp only[DS.aftCallM,DS.put];congr 1;funext u;by_cases hu:u=i<;>simp[hu]
 | some m=>
  have qH:m≠i:=og;simp only[DS.aftCallM,DS.put];congr 1;funext u;by_cases hu:u=i
  ·grind
  ·simp[hu]
def ug{d2:D}(h:m≠i):((s.put (some i) d).newMem m rows).put (some m) d2=((s.newMem m rows).put (some m) d2).put (some i) (d.tr (lN m)):=by
 simp only[DS.newMem,DS.setBx,DS.tr,DS.put];congr 1;funext u;by_cases hu:u=i
 ·grind
 ·grind
def EF{s s2:DS}{r:Ren}{t:j8}{x:j9}{n sz i c:Nat}{d:D}{op:Op}(A0:op= .load t x)(hx:s.ev x= .one (.bx n sz i c))(dB: ∀u,x= .tmp u->s2.sl u=(s.sl u).tr r)(hg:r.g n=some n)(HJ:s2.bx n=(s.bx n).map (Rows.tr r))
  (hq:QD P s.ev s.bx op (· =d)):QD P s2.ev s2.bx op (· =d.tr r):=by
 subst A0;simp only[QD,hx]at hq;split at hq
 ·rename_i d0 Ga;subst hq;cases x with
  | tmp u=>
   have hsl2:s2.ev (.tmp u)= .one (.bx n sz i c):=by have hx':s.sl u= .one (.bx n sz i c):=hx;simp only[DS.ev];rw[dB u rfl,hx'];simp only[D.tr,T.tr,hg,T.bxTo]
   simp only[QD,hsl2,qbu HJ Ga]
  | const v=>cases v<;>simp[DS.ev,pK]at hx
  | global g=>simp only[DS.ev,Bd]at hx;split at hx<;>simp at hx
  | func f=>simp[DS.ev]at hx
 ·grind
def CF{ops:List aa}{oi oj:aa}(Ac:oi.apart ops.toArray oj=true){t:j8}{x:j9}(A0:oi.op= .load t x)(hg:oi.guard=none){s:DS}{n sz i c:Nat}(hx:s.ev x= .one (.bx n sz i c))(hn:oj.dst≠some n)(Cm: ¬mid n){K:DS->Prop}
  (h:AL P ops oi s fun s1=>AF P ops oj s1 K):AF P ops oj s fun s2=>s2.ev x= .one (.bx n sz i c)/\AL P ops oi s2 K:=by
 obtain⟨h1,h2,h3⟩:=Oper.apart_spec Ac;have aM: ∀s',vX ops s' oi=some true:=fun s'=>by simp[vX,hg]
 unfold AL at h ⊢;simp only[aM]at h ⊢;obtain⟨d,hq,hw,hF⟩:=h;rw[aH h1]at hw;have Q6: ∀y∈oj.op.operands,(s.put oi.dst d).ev y=s.ev y:=fun y hy=>uY fun t ht=>QO (h1 t ht) y hy;have rH: ∀u,x= .tmp u->¬oj.dst=some u:=fun u hu e=>QO (h3 u e) (.tmp u) (by rw[A0,hu];simp[w6]) rfl
 -- the slot of the address, behind it
 have PP: ∀(s2:DS) (r:Ren),(∀u,x= .tmp u->s2.sl u=(s.sl u).tr r)->r.g n=some n->s2.ev x= .one (.bx n sz i c):=fun s2 r hs hr=>by
  cases x with
  | tmp u=>
   have hx':s.sl u= .one (.bx n sz i c):=hx;simp only[DS.ev];rw[hs u rfl,hx'];simp only[D.tr,T.tr,hr,T.bxTo]
  | const v=>cases v<;>simp[DS.ev,pK]at hx
  | global g=>simp only[DS.ev,Bd]at hx;split at hx<;>simp at hx
  | func f=>simp[DS.ev]at hx
 refine⟨hw,?_⟩;rcases hF with⟨f,args,vy,g,caps,ds,R,k1,k2,k3,k4,k6,k5⟩|⟨m,tt,y,ns,z,by_,k1,k2,k3,k4,k5,k6,k8,k7⟩
 ·have hf:(s.put oi.dst d).ev f=s.ev f:=Q6 f (by rw[k1];simp[w6,Call.operands]);have ha:args.toList.map (s.put oi.dst d).ev=args.toList.map s.ev:=yz fun y hy=>Q6 y (by rw[k1];simp only[w6,Call.operands,Array.mem_append];exact .inr (Array.mem_toList_iff.1 hy));rw[hf]at k2;rw[ha]at k3;refine .inl ⟨f,args,vy,g,caps,ds,R,k1,k2,k3,k4,k6,fun r H' hr=>?_⟩;have dB: ∀u,x= .tmp u->(s.aftCallM zi [] oj.dst r H').sl u=(s.sl u).tr (bQ zi [] oj.dst):=fun u hu=>by
   cases hm:oj.dst with
   | none=>simp only[DS.aftCallM,DS.put]
   | some m=>
    have: ¬u=m:=og;simp only[DS.aftCallM,DS.put,j7 this]
  have hgn:(bQ zi [] oj.dst).g n=some n:=by simp only[bQ,Qt,hn,false_or,ap]
  have HJ:(s.aftCallM zi [] oj.dst r H').bx n=(s.bx n).map (Rows.tr (bQ zi [] oj.dst)):=by
   have:(s.aftCallM zi [] oj.dst r H').bx=q9 zi s.bx H' [] oj.dst:=by cases oj.dst<;>rfl
   rw[this];simp only[q9,j7 hn,w9,ap,Qt]
  refine⟨PP _ _ dB hgn,d.tr (bQ zi [] oj.dst),EF A0 hx dB hgn HJ hq,?_⟩;have:=k5 r H' hr;cases hm:oi.dst with
  | none=>rw[hm]at this;simpa only[DS.put]using this
  | some q=>
   rw[hm,nH (fun e=>h2 q hm e)]at this;exact this
 ·have hy:(s.put oi.dst d).ev y=s.ev y:=Q6 y (by rw[k1];simp[w6]);rw[hy]at k5;have X8:n≠m:=og;refine .inr ⟨m,tt,y,ns,z,by_,k1,k2,k3,k4,k5,k6,k8,?_⟩;have dB: ∀u,x= .tmp u->((s.newMem m [ns]).put (some m) (.one (.ba m z 0 1 1))).sl u=(s.sl u).tr (lN m):=fun u hu=>by have: ¬u=m:=og;simp only[DS.put,DS.newMem,DS.setBx,DS.tr,j7 this]
  have hgn:(lN m).g n=some n:=by simp only[lN,j7 X8]
  have HJ:((s.newMem m [ns]).put (some m) (.one (.ba m z 0 1 1))).bx n=(s.bx n).map (Rows.tr (lN m)):=by simp only[DS.put,DS.newMem,DS.setBx,DS.tr,j7 X8]
  refine⟨PP _ _ dB hgn,d.tr (lN m),EF A0 hx dB hgn HJ hq,?_⟩;cases hm:oi.dst with
  | none=>rw[hm]at k7;simpa only[DS.put]using k7
  | some q=>
   have X9:m≠q:=og;rw[hm,ug X9]at k7;exact k7
def rq(ops:List aa)(k:Nat->Kind)(listed:Array Bool)(i:Nat)(D:List Nat):Bool:=
 match ops[i]? with
 | none=>false
 | some oi=>(wR ops.length).all fun j=>j==i||listed.getD j true||D.contains j||match ops[j]? with
  | some oj=>(match k j with| .step=>false|_=>true)&&oi.apart ops.toArray oj
  | none=>true
def tJ{ops:List aa}{k:Nat->Kind}{listed:Array Bool}{i:Nat}{D:List Nat}{oi:aa}(hi:ops[i]? =some oi)(h:rq ops k listed i D=true){j:Nat}{oj:aa}(hj:ops[j]? =some oj)(qH:j≠i)(S9:listed.getD j true=false)(hD:j∉D):
  k j≠ .step/\oi.apart ops.toArray oj=true:=by
 simp only[rq,hi,wZ,yU]at h;have:=h j (wg.1 hj).1;simp only[hj,jQ,we,aq,qH,S9,yq,false_or,jR,hD]at this;refine⟨fun e=>?_,this.2⟩;have h1:=this.1;rw[e]at h1;cases h1
def gN{D:List Nat}(h:rq ops k listed i D=true)(j:Nat):rq ops k (listed.setIfInBounds j true) i D=true:=by
 unfold rq at*
 split at h
 ·cases h
 ·rename_i oi F5;rw[wZ]at*
  intro x hx;have:=h x hx;by_cases hxj:j=x
  ·simp_all
  ·simp_all
def Cv(ops:List aa)(k:Nat->Kind)(n:Nat):Bool:=
 (wR ops.length).all fun j=>match ops[j]? with
  | some o=>(match k j with| .fresh=>false|_=>true)||o.dst !=some n
  | none=>true
def Cu(ops:List aa)(k:Nat->Kind)(fr:List Nat):Bool:=
 (wR ops.length).all fun j=>match ops[j]? with
  | some o=>(match k j with| .fresh=>false|_=>true)||(match o.dst with|some m=>fr.contains m|none=>true)
  | none=>true
def Ct{fr:List Nat}(h:Cu ops k fr=true)(hn:n∉fr):Cv ops k n=true:=by
 unfold Cu at h;unfold Cv;rw[wZ]at*
 intro j hj;have:=h j hj;split at this
 ·grind
 ·rfl
def Fm(h:Cv ops k n=true)(hj:ops[j]? =some o)(hk:k j= .fresh):o.dst≠some n:=by have:=wZ.1 h j (yU.2 (wg.1 hj).1);simp only[hj,hk,Bool.false_or,bne_iff_ne,ne_eq]at this;exact this
def xH{ops:List aa}{k:Nat->Kind}{K:DS->Prop}{i:Nat}{oi:aa}{D:List Nat}(hi:ops[i]? =some oi)(hk:k i= .light){t:j8}{x:j9}(A0:oi.op= .load t x)(hg:oi.guard=none){n sz q c:Nat}(ML:Cv ops k n=true)(Cm: ¬mid n):
  ∀(fuel:Nat) (listed:Array Bool) (s:DS),s.ev x= .one (.bx n sz q c)->sg ops listed i D=true->rq ops k listed i D=true->i∈w5 .any ops.toArray listed->
   TD P ops k i s (bk P ops k K fuel (listed.setIfInBounds i true))->bk P ops k K (fuel+1) listed s:=by
 have OY: ∀{listed:Array Bool} {j:Nat},sg ops listed i D=true->i∈w5 .any ops.toArray listed->j∈w5 .any ops.toArray listed->j∉D:=by
  intro listed j hd X4 hrj hj;obtain⟨h1,h2,o,ho,e,he,hb,r9⟩:=bV hd hj;obtain⟨_,o',ho',zW⟩:=mem_ready.1 hrj;have F6:ops[j]? =some o':=og;rw[ho]at F6;injection F6 with F6;subst F6
  have hl:=zW e he hb;rcases r9 with r9|r9
  ·rw[r9,dT (mem_ready.1 X4).1]at hl;cases hl
  ·rw[dT (bV hd r9).1]at hl;cases hl
 intro fuel;induction fuel with
 | zero=>
  intro listed s hx hd aE hr H;refine⟨fun h=>(by rw[h]at hr;cases hr),fun j hj=>?_⟩;by_cases nO:j=i
  ·grind
  ·have h1:=ready_mono hj nO;have h2:w5 .any ops.toArray (listed.setIfInBounds i true)= []:=by
    unfold TD at H;simp only[hi,hk]at H;unfold AL at H;split at H
    ·obtain⟨_,_,h⟩:=H;exact h.1
    ·exact H.1
    ·grind
   rw[h2]at h1;cases h1
 | succ fuel ih=>
  intro listed s hx hd aE hr H;refine⟨fun h=>(by rw[h]at hr;cases hr),fun j hj=>?_⟩;by_cases nO:j=i
  ·grind
  ·have Td:=OY hd hr hj;obtain⟨hjun,oj,hoj,zW⟩:=mem_ready.1 hj;have hoj':ops[j]? =some oj:=og;obtain⟨hkj,Ac⟩:=tJ hi aE hoj' nO hjun Td;have ZA: ∀{d:Dl.D},(s.put oj.dst d).ev x= .one (.bx n sz q c):=fun {d}=>by obtain⟨h1,h2,h3⟩:=Oper.apart_spec Ac;rw[uY fun t ht=>QO (h3 t ht) x (by rw[A0];simp[w6])];exact hx
   have h0:AL P ops oi s (bk P ops k K (fuel+1) (listed.setIfInBounds i true)):=by unfold TD at H;simp only[hi,hk]at H;exact H
   cases F8:k j with
   | light=>
    have h1:AL P ops oi s fun s1=>AL P ops oj s1 (bk P ops k K fuel ((listed.setIfInBounds i true).setIfInBounds j true)):=zT (fun s1 h=>by have:=h.2 j (ready_mono hj nO);unfold TD at this;simp only[hoj',F8]at this;exact this) h0
    have h2:=sQ Ac h1;have key: ∀s2,s2.ev x= .one (.bx n sz q c)->AL P ops oi s2 (bk P ops k K fuel ((listed.setIfInBounds i true).setIfInBounds j true))->bk P ops k K (fuel+1) (listed.setIfInBounds j true) s2:=fun s2 Jm h3=>by refine ih (listed.setIfInBounds j true) s2 Jm (gu hd Td) (gN aE j) (ready_mono hr (Ne.symm nO)) ?_;unfold TD;simp only[hi,hk];rw[jq _ _ nO];exact h3
    unfold TD;simp only[hoj',F8];revert h2;unfold AL;split
    ·rintro⟨d,e1,e2⟩;exact⟨d,e1,key _ ZA e2⟩
    ·exact fun h2=>key _ ZA h2
    ·simp
   | fresh=>
    have h1:AL P ops oi s fun s1=>AF P ops oj s1 (bk P ops k K fuel ((listed.setIfInBounds i true).setIfInBounds j true)):=zT (fun s1 h=>by have:=h.2 j (ready_mono hj nO);unfold TD at this;simp only[hoj',F8]at this;exact this) h0
    have rH:=Fm ML hoj' F8;have h3:=CF Ac A0 hg hx rH Cm h1;unfold TD;simp only[hoj',F8];refine ii (fun s2 iC=>?_) h3;refine ih (listed.setIfInBounds j true) _ iC.1 (gu hd Td) (gN aE j) (ready_mono hr (Ne.symm nO)) ?_;unfold TD;simp only[hi,hk];rw[jq _ _ nO];exact iC.2
   | step=>grind
def isCD:D->Prop
 | .one (.c _)=>True
 | _=>False
def isCD.tr(h:isCD d)(r:Ren):d.tr r=d:=by
 cases d with
 | one t=>cases t with
  | c c=>simp only[D.tr,T.tr]
  | _=>exact h.elim
 | _=>exact h.elim
def clo(s:DS)(op:Op):Prop:=(match op with| .load _ _| .binOp _ _ _ _ _=>True|_=>False)/\∀y∈op.operands,isCD (s.ev y)
def clo.qd{s2:DS}(h:clo s op)(he: ∀y∈op.operands,s2.ev y=s.ev y)(r:Ren)(hq:QD P s.ev s.bx op (· =d)):QD P s2.ev s2.bx op (· =d.tr r):=by
 obtain⟨h0,h1⟩:=h;cases op with
 | load t x=>
  have hx:=h1 x (by simp[w6]);have Jm:=he x (by simp[w6]);simp only[QD,Jm]at hq ⊢;cases hd:s.ev x with
  | one t'=>cases t' with
   | c c=>
    rw[hd]at hq;split at hq
    ·rename_i d0 Ga;subst hq;unfold C9 at Ga ⊢;cases hk:Program.ldk P t with
     | none=>grind
     | some k=>
      rw[hk]at Ga;cases k with
      | none=>
       cases c with
       | pt cs=>cases cs with
        | nil=>cases Ga
        | cons c cs=>
         simp only[Option.some.injEq]at Ga;subst Ga;simp only[D.tr,T.tr]
       | _=>cases Ga
      | some k=>
       cases c with
       | pt cs=>
        simp only at Ga ⊢;split at Ga
        ·rename_i vh;injection Ga with Ga;subst Ga
         simp only[ae vh,D.tr,T.trAll_eq,yn];congr 1
        ·cases Ga
       | _=>cases Ga
    ·grind
   | _=>rw[hd]at hx;exact hx.elim
  | _=>rw[hd]at hx;exact hx.elim
 | binOp o t x y t'=>
  have Jm:=he x (by simp[w6]);have F4:=he y (by simp[w6]);simp only[QD,Jm,F4]at hq ⊢;split at hq
  ·subst hq;simp only[D.tr,T.tr]
  ·omega
 | _=>grind
def FB{ops:List aa}{oi oj:aa}(Ac:oi.apart ops.toArray oj=true)(hg:oi.guard=none){s:DS}(hc:clo s oi.op){K:DS->Prop}
  (h:AL P ops oi s fun s1=>AF P ops oj s1 K):AF P ops oj s fun s2=>clo s2 oi.op/\AL P ops oi s2 K:=by
 obtain⟨h1,h2,h3⟩:=Oper.apart_spec Ac;have aM: ∀s',vX ops s' oi=some true:=fun s'=>by simp[vX,hg]
 unfold AL at h ⊢;simp only[aM]at h ⊢;obtain⟨d,hq,hw,hF⟩:=h;rw[aH h1]at hw;have Q6: ∀y∈oj.op.operands,(s.put oi.dst d).ev y=s.ev y:=fun y hy=>uY fun t ht=>QO (h1 t ht) y hy;have PP: ∀(s2:DS) (r:Ren),(∀u,oj.dst≠some u->s2.sl u=(s.sl u).tr r)->∀y∈oi.op.operands,s2.ev y=s.ev y:=fun s2 r hs y hy=>by
  cases y with
  | tmp u=>
   have hu:oj.dst≠some u:=fun e=>QO (h3 u e) (.tmp u) hy rfl;have:=hc.2 _ hy;simp only[DS.ev]at this ⊢;rw[hs u hu];exact this.tr r
  | const v=>rfl
  | global g=>rfl
  | func f=>rfl
 have QG: ∀s2:DS,(∀y∈oi.op.operands,s2.ev y=s.ev y)->clo s2 oi.op:=fun s2 he=>⟨hc.1,fun y hy=>by rw[he y hy];exact hc.2 y hy⟩;refine⟨hw,?_⟩;rcases hF with⟨f,args,vy,g,caps,ds,R,k1,k2,k3,k4,k6,k5⟩|⟨m,tt,y,ns,z,by_,k1,k2,k3,k4,k5,k6,k8,k7⟩
 ·have hf:(s.put oi.dst d).ev f=s.ev f:=Q6 f (by rw[k1];simp[w6,Call.operands]);have ha:args.toList.map (s.put oi.dst d).ev=args.toList.map s.ev:=yz fun y hy=>Q6 y (by rw[k1];simp only[w6,Call.operands,Array.mem_append];exact .inr (Array.mem_toList_iff.1 hy));rw[hf]at k2;rw[ha]at k3;refine .inl ⟨f,args,vy,g,caps,ds,R,k1,k2,k3,k4,k6,fun r H' hr=>?_⟩;have he:=PP (s.aftCallM zi [] oj.dst r H') (bQ zi [] oj.dst) (fun u hu=>by
   cases hm:oj.dst with
   | none=>simp only[DS.aftCallM,DS.put]
   | some m=>
    have: ¬u=m:=og;simp only[DS.aftCallM,DS.put,j7 this])
  refine⟨QG _ he,d.tr (bQ zi [] oj.dst),hc.qd he _ hq,?_⟩;have:=k5 r H' hr;cases hm:oi.dst with
  | none=>rw[hm]at this;simpa only[DS.put]using this
  | some q=>
   rw[hm,nH (fun e=>h2 q hm e)]at this;exact this
 ·have hy:(s.put oi.dst d).ev y=s.ev y:=Q6 y (by rw[k1];simp[w6]);rw[hy]at k5;refine .inr ⟨m,tt,y,ns,z,by_,k1,k2,k3,k4,k5,k6,k8,?_⟩;have he:=PP ((s.newMem m [ns]).put (some m) (.one (.ba m z 0 1 1))) (lN m) (fun u hu=>by have: ¬u=m:=og;simp only[DS.put,DS.newMem,DS.setBx,DS.tr,j7 this])
  refine⟨QG _ he,d.tr (lN m),hc.qd he _ hq,?_⟩;cases hm:oi.dst with
  | none=>rw[hm]at k7;simpa only[DS.put]using k7
  | some q=>
   have X9:m≠q:=og;rw[hm,ug X9]at k7;exact k7
def iN{ops:List aa}{k:Nat->Kind}{K:DS->Prop}{i:Nat}{oi:aa}{D:List Nat}(hi:ops[i]? =some oi)(hk:k i= .light)(hg:oi.guard=none):
  ∀(fuel:Nat) (listed:Array Bool) (s:DS),clo s oi.op->sg ops listed i D=true->rq ops k listed i D=true->i∈w5 .any ops.toArray listed->
   TD P ops k i s (bk P ops k K fuel (listed.setIfInBounds i true))->bk P ops k K (fuel+1) listed s:=by
 have OY: ∀{listed:Array Bool} {j:Nat},sg ops listed i D=true->i∈w5 .any ops.toArray listed->j∈w5 .any ops.toArray listed->j∉D:=by
  intro listed j hd X4 hrj hj;obtain⟨h1,h2,o,ho,e,he,hb,r9⟩:=bV hd hj;obtain⟨_,o',ho',zW⟩:=mem_ready.1 hrj;have F6:ops[j]? =some o':=og;rw[ho]at F6;injection F6 with F6;subst F6
  have hl:=zW e he hb;rcases r9 with r9|r9
  ·rw[r9,dT (mem_ready.1 X4).1]at hl;cases hl
  ·rw[dT (bV hd r9).1]at hl;cases hl
 intro fuel;induction fuel with
 | zero=>
  intro listed s hx hd aE hr H;refine⟨fun h=>(by rw[h]at hr;cases hr),fun j hj=>?_⟩;by_cases nO:j=i
  ·grind
  ·have h1:=ready_mono hj nO;have h2:w5 .any ops.toArray (listed.setIfInBounds i true)= []:=by
    unfold TD at H;simp only[hi,hk]at H;unfold AL at H;split at H
    ·obtain⟨_,_,h⟩:=H;exact h.1
    ·exact H.1
    ·grind
   rw[h2]at h1;cases h1
 | succ fuel ih=>
  intro listed s hx hd aE hr H;refine⟨fun h=>(by rw[h]at hr;cases hr),fun j hj=>?_⟩;by_cases nO:j=i
  ·grind
  ·have Td:=OY hd hr hj;obtain⟨hjun,oj,hoj,zW⟩:=mem_ready.1 hj;have hoj':ops[j]? =some oj:=og;obtain⟨hkj,Ac⟩:=tJ hi aE hoj' nO hjun Td;have ZA: ∀{d:Dl.D},clo (s.put oj.dst d) oi.op:=fun {d}=>by obtain⟨h1,h2,h3⟩:=Oper.apart_spec Ac;refine⟨hx.1,fun y hy=>?_⟩;rw[uY fun t ht=>QO (h3 t ht) y hy];exact hx.2 y hy
   have h0:AL P ops oi s (bk P ops k K (fuel+1) (listed.setIfInBounds i true)):=by unfold TD at H;simp only[hi,hk]at H;exact H
   cases F8:k j with
   | light=>
    have h1:AL P ops oi s fun s1=>AL P ops oj s1 (bk P ops k K fuel ((listed.setIfInBounds i true).setIfInBounds j true)):=zT (fun s1 h=>by have:=h.2 j (ready_mono hj nO);unfold TD at this;simp only[hoj',F8]at this;exact this) h0
    have h2:=sQ Ac h1;have key: ∀s2,clo s2 oi.op->AL P ops oi s2 (bk P ops k K fuel ((listed.setIfInBounds i true).setIfInBounds j true))->bk P ops k K (fuel+1) (listed.setIfInBounds j true) s2:=fun s2 Jm h3=>by refine ih (listed.setIfInBounds j true) s2 Jm (gu hd Td) (gN aE j) (ready_mono hr (Ne.symm nO)) ?_;unfold TD;simp only[hi,hk];rw[jq _ _ nO];exact h3
    unfold TD;simp only[hoj',F8];revert h2;unfold AL;split
    ·rintro⟨d,e1,e2⟩;exact⟨d,e1,key _ ZA e2⟩
    ·exact fun h2=>key _ ZA h2
    ·simp
   | fresh=>
    have h1:AL P ops oi s fun s1=>AF P ops oj s1 (bk P ops k K fuel ((listed.setIfInBounds i true).setIfInBounds j true)):=zT (fun s1 h=>by have:=h.2 j (ready_mono hj nO);unfold TD at this;simp only[hoj',F8]at this;exact this) h0
    have h3:=FB Ac hg hx h1;unfold TD;simp only[hoj',F8];refine ii (fun s2 iC=>?_) h3;refine ih (listed.setIfInBounds j true) _ iC.1 (gu hd Td) (gN aE j) (ready_mono hr (Ne.symm nO)) ?_;unfold TD;simp only[hi,hk];rw[jq _ _ nO];exact iC.2
   | step=>grind
inductive Mode where
 | blind
 | light
 | look (fr:List Nat)
 | fresh
 | step
 | hand
def Mode.kind:Mode->Kind
 | .fresh=>.fresh
 | .step=>.step
 | .hand=>.step
 | _=>.light
def qY:List (Nat×Mode)->Nat->Kind
 | [],_=>.light
 | (j,m)::l,i=>if i==j then m.kind else qY l i
def Wk(ops:List aa)(listed:Array Bool)(i:Nat):List Nat:=
 (wR ops.length).foldl (fun D k=>if !listed.getD k true&&k !=i&&(match ops[k]? with
  | some o=>o.after.any fun e=>Region.binds .any e&&(e.on==i||D.contains e.on)
  | none=>false)then k::D else D) []
def qgT(o:aa):Bool:=
 match o.op,o.guard with
 | .load _ _,none=>true
 | _,_=>false
def Pv(o:aa):Bool:=
 match o.op,o.guard with
 | .load _ _,none=>true
 | .binOp _ _ _ _ _,none=>true
 | _,_=>false
def xp(ops:List aa)(pl:List (Nat×Mode))(fin:Array Bool->Bool):List (Nat×Mode)->Array Bool->Bool
 | [],listed=>fin listed
 | (i,m)::l,listed=>(match ops[i]? with
  | none=>false
  | some o=>(match m with
   | .blind=>false
   | .light=>(match qY pl i with| .light=>true|_=>false)&&(w5 .any ops.toArray listed).contains i&&sg ops listed i (Wk ops listed i)&&tK ops (qY pl) listed i (Wk ops listed i)
   | .look fr=>Cu ops (qY pl) fr&&(match qY pl i with| .light=>true|_=>false)&&Pv o&&(w5 .any ops.toArray listed).contains i&&sg ops listed i (Wk ops listed i)&&rq ops (qY pl) listed i (Wk ops listed i)
   | .fresh=>o.guard.isNone&&(match qY pl i with| .fresh=>true|_=>false)&&(w5 .any ops.toArray listed== [i])
   | .step| .hand=>(match qY pl i with| .step=>true|_=>false)&&(w5 .any ops.toArray listed== [i])))&&xp ops pl fin l (listed.setIfInBounds i true)
def xn(ops:List aa)(pl l:List (Nat×Mode))(listed:Array Bool):Bool:=xp ops pl (fun ls=>(w5 .any ops.toArray ls).isEmpty) l listed
def lr(fr:List Nat)(s:DS)(op:Op):Prop:=
 match op with
 | .load _ x=>match s.ev x with
  | .one (.bx n _ _ _)=>n∉fr/\¬mid n
  | .one (.c _)=>True
  | _=>False
 | .binOp _ _ x y _=>isCD (s.ev x)/\isCD (s.ev y)
 | _=>False
def zY(P:Program)(ops:List aa)(k:Nat->Kind):List (Nat×Mode)->DS->(DS->Prop)->Prop
 | [],s,K=>K s
 | (i,m)::l,s,K=>match ops[i]? with
  | none=>False
  | some o=>match m with
   | .blind=>False
   | .light=>AL P ops o s fun s'=>zY P ops k l s' K
   | .look fr=>o.guard≠none\/(lr fr s o.op/\AL P ops o s fun s'=>zY P ops k l s' K)
   | .fresh=>o.guard≠none\/AF P ops o s fun s'=>zY P ops k l s' K
   | .step| .hand=>vc P ops o s fun s'=>zY P ops k l s' K
def tc{ops:List aa}{pl:List (Nat×Mode)}{K K1:DS->Prop}{fuel:Nat}{fin:Array Bool->Bool}(hf: ∀s1 ls,fin ls=true->K1 s1->bk P ops (qY pl) K fuel ls s1):
  ∀(l:List (Nat×Mode)) (listed:Array Bool) (s:DS),xp ops pl fin l listed=true->zY P ops (qY pl) l s K1->bk P ops (qY pl) K (fuel+l.length) listed s
 | [],listed,s,hc,hw=>hf s listed hc hw
 | (i,m)::l,listed,s,hc,hw=>by
  simp only[xp,we]at hc;obtain⟨nQ,Th⟩:=hc;simp only[zY]at hw;cases ho:ops[i]? with
  | none=>grind
  | some o=>
   simp only[ho]at hw nQ;have ih:=fun s'=>tc (K:=K) hf l (listed.setIfInBounds i true) s' Th;rw[show fuel+((i,m)::l).length=(fuel+l.length)+1 from rfl];have kk: ∀{c:Kind},(match qY pl i with| .light=>true|_=>false)=true->qY pl i= .light:=og;cases m with
   | blind=>grind
   | light=>
    simp only[we,jR]at nQ;obtain⟨⟨⟨g0,g1⟩,g2⟩,g3⟩:=nQ;have hk:=kk (c:=.light) g0;refine Mr ho hk _ listed s g2 g3 g1 ?_;unfold TD;simp only[ho,hk];exact zT ih hw
   | look fr=>
    simp only[we,jR]at nQ;obtain⟨⟨⟨⟨⟨g5,g0⟩,g4⟩,g1⟩,g2⟩,g3⟩:=nQ;have hk:=kk (c:=.light) g0;have hg:o.guard=none:=by
     unfold Pv at g4;split at g4
     ·omega
     ·omega
     ·cases g4
    obtain⟨ZA,hw⟩:=hw.resolve_left (fun e=>e hg);unfold lr at ZA;split at ZA
    ·rename_i t x A0;split at ZA
     ·rename_i n sz q c hx;refine xH ho hk A0 hg (Ct g5 ZA.1) ZA.2 _ listed s hx g2 g3 g1 ?_;unfold TD;simp only[ho,hk];exact zT ih hw
     ·rename_i c hx;refine iN ho hk hg _ listed s ⟨by rw[A0];trivial,fun y hy=>?_⟩ g2 g3 g1 ?_
      ·rw[A0]at hy;simp only[w6,List.mem_toArray,yp]at hy;rw[hy,hx];trivial
      unfold TD;simp only[ho,hk];exact zT ih hw
     ·grind
    ·rename_i bo t x y t' A0;refine iN ho hk hg _ listed s ⟨by rw[A0];trivial,fun z hz=>?_⟩ g2 g3 g1 ?_
     ·rw[A0]at hz;simp only[w6,List.mem_toArray,wJ,w9,ax]at hz;rcases hz with rfl|rfl
      ·grind
      ·grind
     unfold TD;simp only[ho,hk];exact zT ih hw
    ·grind
   | fresh=>
    simp only[we,aq]at nQ;have hg:o.guard=none:=oA;have hw:=hw.resolve_left (fun e=>e hg);have hk:qY pl i= .fresh:=og;refine⟨fun h=>(by rw[h]at nQ;cases nQ.2),fun j hj=>?_⟩;rw[nQ.2,yp]at hj;subst hj;unfold TD;simp only[ho,hk];exact ii ih hw
   | step=>
    simp only[we,aq]at nQ;have hk:qY pl i= .step:=og;refine⟨fun h=>(by rw[h]at nQ;cases nQ.2),fun j hj=>?_⟩;rw[nQ.2,yp]at hj;subst hj;have:TD P ops (qY pl) j s fun s'=>zY P ops (qY pl) l s' K1:=by unfold TD;simp only[ho,hk];exact hw
    exact JU ih this
   | hand=>
    simp only[we,aq]at nQ;have hk:qY pl i= .step:=og;refine⟨fun h=>(by rw[h]at nQ;cases nQ.2),fun j hj=>?_⟩;rw[nQ.2,yp]at hj;subst hj;have:TD P ops (qY pl) j s fun s'=>zY P ops (qY pl) l s' K1:=by unfold TD;simp only[ho,hk];exact hw
    exact JU ih this
def Dr{pl:List (Nat×Mode)}(l:List (Nat×Mode))(listed:Array Bool)(s:DS)(hc:xn ops pl l listed=true)(hw:zY P ops (qY pl) l s K):bk P ops (qY pl) K l.length listed s:=by have:=tc (K:=K) (K1:=K) (fuel:=0) (fun s1 ls h1 h2=>⟨by simpa using h1,h2⟩) l listed s hc hw;rwa [yi]at this
def Ig(ops:List aa)(pl:List (Nat×Mode))(i:Nat)(A:List (Nat×Mode))(j:Nat)(B:List (Nat×Mode))(ls:Array Bool):Bool:=
 let ok:=fun i=>match ops[i]? with|some o=>o.guard.isNone&&(match qY pl i with| .fresh=>true|_=>false)|none=>false
 (w5 .any ops.toArray ls== [i,j])&&ok i&&ok j&&xn ops pl A (ls.setIfInBounds i true)&&xn ops pl B (ls.setIfInBounds j true)&&A.length==B.length
def Nf{ops:List aa}{pl A B:List (Nat×Mode)}{i j:Nat}{K:DS->Prop}(s:DS)(ls:Array Bool)(hc:Ig ops pl i A j B ls=true)(hA:zY P ops (qY pl) ((i,.fresh)::A) s K)(hB:zY P ops (qY pl) ((j,.fresh)::B) s K):
  bk P ops (qY pl) K (A.length+1) ls s:=by
 simp only[Ig,we,aq]at hc;obtain⟨⟨⟨⟨⟨h1,h2⟩,h3⟩,h4⟩,h5⟩,h6⟩:=hc;have go: ∀(i:Nat) (A:List (Nat×Mode)),(match ops[i]? with|some o=>o.guard.isNone&&(match qY pl i with| .fresh=>true|_=>false)|none=>false)=true->xn ops pl A (ls.setIfInBounds i true)=true->zY P ops (qY pl) ((i,.fresh)::A) s K->TD P ops (qY pl) i s (bk P ops (qY pl) K A.length (ls.setIfInBounds i true)):=by
  intro i A h2 h4 hA;simp only[zY]at hA;unfold TD;cases ho:ops[i]? with
  | none=>grind
  | some o=>
   simp only[ho,we]at h2 hA ⊢;have hk:qY pl i= .fresh:=og;have hg:o.guard=none:=oA;simp only[hk];exact ii (fun s' hs'=>Dr A _ s' h4 hs') (hA.resolve_left fun e=>e hg)
 refine⟨fun e=>by rw[h1]at e;simp at e,fun x hx=>?_⟩;rw[h1]at hx;simp only[wJ,w9,ax]at hx;rcases hx with rfl|rfl
 ·grind
 ·grind
def xq(ops:List aa):List Nat->Array Bool->Bool
 | [],_=>true
 | i::l,listed=>Region.free .any ops.toArray listed i&&(w5 .any ops.toArray listed).contains i&&xq ops l (listed.setIfInBounds i true)
def afterA:List Nat->Array Bool->Array Bool
 | [],listed=>listed
 | i::l,listed=>afterA l (listed.setIfInBounds i true)
def BL(P:Program)(ops:List aa)(o:aa)(s:DS)(K:DS->Prop):Prop:=
 match vX ops s o with
 | some true=>∃d,dl P s o d/\K (s.put o.dst d)
 | some false=>K (s.put o.dst (.tup []))
 | none=>False
def ZH(P:Program)(ops:List aa):List Nat->DS->(DS->Prop)->Prop
 | [],s,K=>K s
 | i::l,s,K=>match ops[i]? with
  | none=>False
  | some o=>BL P ops o s fun s'=>ZH P ops l s' K
def tf{ops:List aa}{N fuel:Nat}{K:DS->Prop}(hb:zM ops N=true)(hs:je ops.toArray=true): ∀(l:List Nat) (listed:Array Bool) (s:DS),xq ops l listed=true->
  ZH P ops l s (QW P ops N K fuel (afterA l listed))->QW P ops N K (fuel+l.length) listed s
 | [],listed,s,_,h=>h
 | i::l,listed,s,hc,h=>by
  simp only[xq,we]at hc;obtain⟨⟨h1,h2⟩,h3⟩:=hc;simp only[ZH]at h;cases ho:ops[i]? with
  | none=>grind
  | some o=>
   simp only[ho]at h;have ih:=fun s'=>tf (K:=K) (fuel:=fuel) hb hs l (listed.setIfInBounds i true) s' h3;have e:fuel+(i::l).length=(fuel+l.length)+1:=rfl;rw[e];unfold BL at h;split at h
   ·rename_i hw;obtain⟨d,hd,hk⟩:=h;exact ie hb ho hs h1 h2 hw hd (ih _ hk)
   ·rename_i hw;exact sX hb ho hs h1 h2 hw (ih _ h)
   ·grind
def Ie(ops:List aa)(N:Nat)(pa:List Nat)(pb:List (Nat×Mode)):Bool:=
 zM ops N&&(pa.isEmpty||je ops.toArray)&&xq ops pa (yg ops.length false)&&xn ops pb pb (afterA pa (yg ops.length false))&&(pa.length+pb.length==ops.length)
def Wf{id:Nat}{l:List aa}{s:DS}{Q:ah->DS->Prop}(pa:List Nat)(pb:List (Nat×Mode))(hm:P.follows .mixedOrders=true)(hc:Ie l s.n pa pb=true)
  (h:ZH P l pa s fun s'=>zY P l (qY pb) pb s' (Q .normal)):DW P (.region id l.toArray true) s Q:=by
 simp only[Ie,we,jQ,aq]at hc;obtain⟨⟨⟨⟨h1,h2⟩,h3⟩,h4⟩,h5⟩:=hc;refine CE h1 hm ?_;have mono: ∀{K K':DS->Prop} (hk: ∀s,K s->K' s) (pa:List Nat) (s:DS),ZH P l pa s K->ZH P l pa s K':=by
  intro K K' hk pa;induction pa with
  | nil=>exact fun s h=>hk s h
  | cons i pa ih=>
   intro s h;simp only[ZH]at h ⊢;cases ho:l[i]? with
   | none=>grind
   | some o=>
    simp only[ho]at h ⊢;revert h;unfold BL;split
    ·grind
    ·grind
    ·simp
 have ht: ∀s',zY P l (qY pb) pb s' (Q .normal)->QW P l s.n (Q .normal) pb.length (afterA pa (yg l.length false)) s':=fun s' hs'=>
  gz h1 _ _ _ (Dr pb _ s' h4 hs')
 cases pa with
 | nil=>
  have e:l.length=pb.length:=og;rw[e]at ht h4 ⊢;exact ht s h
 | cons i pa=>
  have h2':je l.toArray=true:=og;have e:l.length=pb.length+(i::pa).length:=oa;have:=tf (fuel:=pb.length) (K:=Q .normal) h1 h2' (i::pa) (yg l.length false) s h3 (mono ht _ _ h);rw[<-e]at this;exact this
def Ic(ops:List aa)(N:Nat)(pa:List Nat)(pb:List (Nat×Mode))(i:Nat)(A:List (Nat×Mode))(j:Nat)(B:List (Nat×Mode)):Bool:=
 zM ops N&&je ops.toArray&&xq ops pa (yg ops.length false)&&xp ops (pb++(i,.fresh)::A) (Ig ops (pb++(i,.fresh)::A) i A j B) pb (afterA pa (yg ops.length false))&&(A.length+1+pb.length+pa.length==ops.length)
def RN{id:Nat}{l:List aa}{s:DS}{Q:ah->DS->Prop}(pa:List Nat)(pb:List (Nat×Mode))(i:Nat)(A:List (Nat×Mode))(j:Nat)(B:List (Nat×Mode))(hm:P.follows .mixedOrders=true)(hc:Ic l s.n pa pb i A j B=true)
  (h:ZH P l pa s fun s'=>zY P l (qY (pb++(i,.fresh)::A)) pb s' fun s1=>zY P l (qY (pb++(i,.fresh)::A)) ((i,.fresh)::A) s1 (Q .normal)/\zY P l (qY (pb++(i,.fresh)::A)) ((j,.fresh)::B) s1 (Q .normal)):DW P (.region id l.toArray true) s Q:=by
 simp only[Ic,we,aq]at hc;obtain⟨⟨⟨⟨h1,h2⟩,h3⟩,h4⟩,h5⟩:=hc;refine CE h1 hm ?_;have mono: ∀{K K':DS->Prop} (hk: ∀s,K s->K' s) (pa:List Nat) (s:DS),ZH P l pa s K->ZH P l pa s K':=by
  intro K K' hk pa;induction pa with
  | nil=>exact fun s h=>hk s h
  | cons i pa ih=>
   intro s h;simp only[ZH]at h ⊢;cases ho:l[i]? with
   | none=>grind
   | some o=>
    simp only[ho]at h ⊢;revert h;unfold BL;split
    ·grind
    ·grind
    ·simp
 have ht:=fun s' hs'=>gz (P:=P) h1 _ _ _ (tc (P:=P) (K:=Q .normal) (K1:=fun s1=>zY P l (qY (pb++(i,.fresh)::A)) ((i,.fresh)::A) s1 (Q .normal)/\zY P l (qY (pb++(i,.fresh)::A)) ((j,.fresh)::B) s1 (Q .normal)) (fun s1 ls g1 g2=>Nf s1 ls g1 g2.1 g2.2) pb _ s' h4 hs');have:=tf (fuel:=A.length+1+pb.length) (K:=Q .normal) h1 h2 pa (yg l.length false) s h3 (mono ht _ _ h);rwa [h5]at this
end
variable {md:Mode}
structure Ans where
 cond:Prop
 d:D
def im:Option D->Ans
 | some d=>⟨True,d⟩
 | none=>⟨False,.any⟩
def EG:Option j6->Ans
 | some v=>⟨True,.one (.c (.lit v))⟩
 | none=>⟨False,.any⟩
def Z6(c:Prop)(a:Ans):Ans:=⟨c/\a.cond,a.d⟩
def dZ(a:Ans)(K:D->Prop):Prop:=a.cond/\K a.d
theorem KV(d:D):im (some d)=⟨True,d⟩:=rfl
theorem Ld(v:j6):EG (some v)=⟨True,.one (.c (.lit v))⟩:=rfl
theorem WJ(c c':Prop)(d:D):Z6 c ⟨c',d⟩=⟨c/\c',d⟩:=rfl
def I1:D->D->D->Ans
 | .one (.c (.lit (.bool t))),a,b=>⟨True,if t=true then a else b⟩
 | _,_,_=>⟨False,.any⟩
def Cx:Option Nat->D->Ans
 | some off,.one (.c (.pt cs))=>⟨True,.one (.c (.pt (cs.drop off)))⟩
 | some off,.one (.bx n sz i o)=>⟨True,.one (.bx n sz i (o+off))⟩
 | _,_=>⟨False,.any⟩
def qdH(e:Option Nat)(sz:Nat)(xs:List (List C))(j:Int):Ans:=
 Z6 (e=some sz/\0<=j) (im ((xs[j.toNat]?).map fun r=>.one (.c (.pt r))))
def uD(e:Option Nat):D->D->Ans
 | .one (.ba n sz i len _),.one (.c (.lit (.int _ j)))=>⟨e=some sz/\0<=j/\j.toNat<len,.one (.bx n sz (i+j.toNat) 0)⟩
 | .one (.c (.sl sz xs)),.one (.c (.lit (.int _ j)))=>qdH e sz xs j
 | .one (.own _ sz xs),.one (.c (.lit (.int _ j)))=>qdH e sz xs j
 | .one (.ex sz xs),.one (.c (.lit (.int _ j)))=>qdH e sz xs j
 | _,_=>⟨False,.any⟩
def nh:D->Nat->Ans
 | .tup ds,i=>im ds[i]?
 | _,_=>⟨False,.any⟩
def UX:D->Ans
 | .one (.bx n sz i o)=>⟨True,.one (.bx n sz i o)⟩
 | .one (.c (.pt cs))=>⟨True,.one (.c (.pt cs))⟩
 | .one (.c (.fn f caps))=>⟨True,.one (.c (.fn f caps))⟩
 | .one (.fv f caps)=>⟨True,.one (.fv f caps)⟩
 | _=>⟨False,.any⟩
def Pk:Option Int->Ans
 | some n=>⟨True,.one (.c (.lit (.int .i64 n)))⟩
 | none=>⟨False,.any⟩
def IM:Option (Nat×List (List C))->Ans
 | some (sz,rows)=>⟨True,.one (.ex sz rows)⟩
 | none=>⟨False,.any⟩
def qdg:Option (List T)->Ans
 | some cs=>⟨True,.agg cs⟩
 | none=>⟨False,.any⟩
def qgZ(f:am):Option (List T)->Ans
 | some ts=>⟨True,Rt f ts⟩
 | none=>⟨False,.any⟩
def vt(P:Program)(s:DS):Op->Ans
 | .move x| .assign x=>⟨True,s.ev x⟩
 | .pick c a b=>I1 (s.ev c) (s.ev a) (s.ev b)
 | .load t x=>im (C9 P s.bx t (s.ev x))
 | .build t parts=>qdg (pO P t (parts.toList.map fun p=>(p.1,s.ev p.2)))
 | .buildSlice t len parts=>IM (Qi P t len (parts.toList.map fun p=>(p.1,s.ev p.2)))
 | .binOp op t x y _=>EG (pR P op t (s.ev x) (s.ev y))
 | .unOp op _ x=>EG (qdE op (s.ev x))
 | .convert a b x=>im (Bn P a b (s.ev x))
 | .index t x i=>EG (o8 P t (s.ev x) (s.ev i))
 | .fieldAddr t x f=>Cx (Program.fieldOff P t f) (s.ev x)
 | .field t x f=>im (pv P t f (s.ev x))
 | .indexAddr t x i=>uD (Program.elemSz P t) (s.ev x) (s.ev i)
 | .slice t x lo hi mx=>im (iX P t (s.ev x) (lo.map s.ev) (hi.map s.ev) (mx.map s.ev))
 | .call ⟨.builtin .len,args,vy⟩=>match args.toList,vy.toList with
  | [x],[t]=>Pk (Lk P t (s.ev x))
  | _,_=>⟨False,.any⟩
 | .call ⟨.builtin .cap,args,vy⟩=>match args.toList,vy.toList with
  | [x],[t]=>Pk (Mg P t (s.ev x))
  | _,_=>⟨False,.any⟩
 | .call ⟨.builtin .min,args,_⟩=>im (Sw .min (args.toList.map s.ev))
 | .call ⟨.builtin .max,args,_⟩=>im (Sw .max (args.toList.map s.ev))
 | .extract x i=>nh (s.ev x) i
 | .nilCheck x=>UX (s.ev x)
 | .makeFunc (.func f) first captured=>if first.isEmpty then qgZ f ((captured.toList.map s.ev).mapM Bq)else⟨False,.any⟩
 | _=>⟨False,.any⟩
def AT:D->Prop
 | .one (.bx _ _ _ _)=>True
 | _=>False
def o6:D->Prop
 | .one (.c (.lit _))=>True
 | _=>False
def Jj:D->Prop
 | .one (.ba _ _ _ _ _)=>True
 | _=>False
def QF(s:DS):Op->Prop
 | .move _| .assign _| .slice _ _ _ _ _=>True
 | .nilCheck x| .fieldAddr _ x _=>AT (s.ev x)
 | .binOp _ _ x y _=>o6 (s.ev x)/\o6 (s.ev y)
 | .indexAddr _ x _=>Jj (s.ev x)
 | _=>False
def ZD(s:DS)(op:Op):Mode->Prop
 | .blind=>QF s op
 | .look fr=>lr fr s op
 | .fresh=>False
 | .hand=>False
 | .light| .step=>True
def nJ(P:Program)(f:D)(args:List D)(K:D->Prop):Prop:=
 ∃g caps ds r,f= .one (.c (.fn g caps))/\LeL (args.map D.cl++caps.map fun c=>D.one (.c c)) ds/\DCalls P g ds r/\K r
def W9(P:Program)(f:D)(args:List D)(s:DS)(dst:Option Nat)(ns:List Nat)(K:DS->Prop):Prop:=
 ∃g caps ds H R,f.asFn=some (g,caps)/\DLeL ((args++caps.map D.one).map (D.tr (Km ns))) ds/\ECalls P g ds H R/\(∀k r,H k=some r->vf s.bx ns k=some r)/\CallOk ns dst/\
  ∀r H',R r H'->K (s.aftCall ns dst r H')
def W8(P:Program)(f:D)(args:List D)(s:DS)(dst:Option Nat)(K:DS->Prop):Prop:=
 ∃g caps ds R,f.asFn=some (g,caps)/\DLeL ((args++caps.map D.one).map (D.tr (ZK zi []))) ds/\ECalls P g ds qA R/\CallOkM zi [] dst/\∀r H',R r H'->K (s.aftCallM zi [] dst r H')
def JV(P:Program)(o:aa)(f:D)(args:List D)(s:DS)(dst:Option Nat)(K:DS->Prop):Mode->Prop
 | .light=>nJ P f args fun r=>K (s.put dst r.cl)
 | .step=>nJ P f args (fun r=>K (zI s dst r))\/(∃ns,W9 P f args s dst ns K)\/Step P { o with guard:=none } s K
 | .fresh=>W8 P f args s dst K
 | _=>False
def du(g:Option Bool)(A B:Prop):Prop:=
 match g with
 | some b=>(b=true->A)/\(b=false->B)
 | none=>False
def Ff(A B:Prop):du (some true) A B=A:=by simp[du]
def Cq(A B:Prop):du (some false) A B=B:=by simp[du]
def qe7(r:Option DS)(K:DS->Prop):Prop:=
 match r with
 | some s=>K s
 | none=>False
structure AnsS where
 cond:Prop
 s:DS
def Sy(a:AnsS)(K:DS->Prop):Prop:=a.cond/\K a.s
def Mo(s:DS)(m:Nat)(info:Option (Nat×Nat))(x y:D):AnsS:=
 match info with
 | some (sz,by_)=>(match pU m sz x,pV sz y with
  | some (n,xs),some ys=>⟨(xs.length+ys.length)*by_<=140737488355328,(s.close [n]).put (some m) (.one (.own n sz (xs++ys)))⟩
  | _,_=>⟨False,s⟩)
 | none=>⟨False,s⟩
def rR(md:Mode)(P:Program)(o:aa)(s:DS)(K:DS->Prop):Prop:=
 match md with
 | .step=>Step P { o with guard:=none } s K
 | _=>False
def My(md:Mode)(P:Program)(o:aa)(s:DS)(m:Nat)(info:Option (Nat×Nat))(x y:D)(K:DS->Prop):Prop:=
 match x with
 | .one (.ba _ _ _ _ _)=>rR md P o s K
 | x=>match md with
  | .step=>Sy (Mo s m info x y) K
  | _=>False
def KY(md:Mode)(s:DS)(m:Nat)(r:Option (List T))(K:DS->Prop):Prop:=
 match md with
 | .step=>qe7 (r.map fun z=>s.newBx m z) K
 | _=>False
def qev(md:Mode)(r:Option DS)(K:DS->Prop):Prop:=
 match md with
 | .step=>qe7 r K
 | _=>False
def oW(info:Option (Nat×Nat))(ts:Option (List T))(s:DS)(m:Nat)(K:DS->Prop):Prop:=
 match info,ts with
 | some (sz,_),some ns=>(ns.length=sz/\sz<=16777216/\m<1000)/\K ((s.newMem m [ns]).put (some m) (.one (.ba m sz 0 1 1)))
 | _,_=>False
def MA(md:Mode)(P:Program)(o:aa)(s:DS)(K:DS->Prop):Prop:=
 match o.op with
 | .call ⟨.value f,args,_⟩=>JV P o (s.ev f) (args.toList.map s.ev) s o.dst K md
 | .call ⟨.builtin .append,args,vy⟩=>(match o.dst,args.toList,vy.toList with
  | some m,[x,y],[t,t']=>if t=t' then My md P o s m (qT P t) (s.ev x) (s.ev y) K else rR md P o s K
  | _,_,_=>False)
 | .call ⟨.builtin .copy,_,_⟩| .call ⟨.builtin .clear,_,_⟩=>rR md P o s K
 | .makeSlice _ _ _=>rR md P o s K
 | .alloc t=>(match o.dst with
  | some m=>KY md s m (Program.zeroT P t) K
  | none=>False)
 | .box _ x=>(match o.dst with
  | some m=>KY md s m (s.ev x).cells K
  | none=>False)
 | .buildSlice t len parts=>(match md with
  | .hand=>Step P { o with guard:=none } s K
  | .fresh=>(match o.dst,len,parts.toList with
   | some m,1,[(0,x)]=>oW (qT P t) (s.ev x).cells s m K
   | _,_,_=>False)
  | md=>dZ (Z6 (ZD s (.buildSlice t len parts) md) (vt P s (.buildSlice t len parts))) fun d=>K (s.put o.dst d))
 | .store t x v=>(match o.dst with
  | none=>qev md (fF P s t (s.ev x) (s.ev v)) K
  | some _=>False)
 | op=>dZ (Z6 (ZD s op md) (vt P s op)) fun d=>K (s.put o.dst d)
def gV:Option (Option Nat)->(Nat->D)->Bool->Option Bool
 | some (some t),sl,want=>match sl t with
  | .one (.c (.lit (.bool b)))=>some (b==want)
  | .tup []=>some false
  | _=>none
 | _,_,_=>none
def wk(P:Program)(ds:List (Option Nat)):List (Mode×aa)->DS->(DS->Prop)->Prop
 | [],s,K=>K s
 | (md,o)::l,s,K=>match o.guard with
  | none=>MA md P o s fun s'=>wk P ds l s' K
  | some (j,want)=>du (gV ds[j]? s.sl want) (MA md P { o with guard:=none } s fun s'=>wk P ds l s' K) (wk P ds l (s.put o.dst (.tup [])) K)
section
variable {P:Program}
def rz{K:D->Prop}(h:dZ (vt P s op) K):QD P s.ev s.bx op K:=by
 have nof: ∀{K:D->Prop},¬dZ ⟨False,.any⟩ K:=fun h=>h.1;have lit: ∀{o:Option j6} {K:D->Prop},dZ (EG o) K->(match o with|some v=>K (.one (.c (.lit v)))|none=>False):=fun {o K} h=>by
  cases o with
  | none=>exact h.1
  | some v=>exact h.2
 have qdN: ∀{o:Option D} {K:D->Prop},dZ (im o) K->(match o with|some v=>K v|none=>False):=fun {o K} h=>by
  cases o with
  | none=>exact h.1
  | some v=>exact h.2
 cases op with
 | move x=>exact h.2
 | assign x=>exact h.2
 | pick c a b=>
  simp only[vt,I1]at h;simp only[QD,D.asLit];split at h
  ·rename_i hc;rw[hc];exact h.2
  ·grind
 | load t x=>exact qdN h
 | build t parts=>
  simp only[vt]at h;simp only[QD];split
  ·rename_i hb;rw[hb]at h;exact h.2
  ·rename_i hb;rw[hb]at h;exact h.1
 | buildSlice t n parts=>
  simp only[vt]at h;simp only[QD];split
  ·rename_i hb;rw[hb]at h;exact h.2
  ·rename_i hb;rw[hb]at h;exact h.1
 | binOp op t x y ty=>exact lit h
 | unOp op t x=>exact lit h
 | convert a b x=>exact qdN h
 | index t x i=>exact lit h
 | fieldAddr t x f=>
  simp only[vt,Cx]at h;simp only[QD];split at h
  ·rename_i h1 h2;simp only[h1,h2];exact h.2
  ·rename_i h1 h2;simp only[h1,h2];exact h.2
  ·grind
 | field t x f=>exact qdN h
 | indexAddr t x i=>
  have sl: ∀{sz:Nat} {xs:List (List C)} {j:Int},dZ (qdH (Program.elemSz P t) sz xs j) K->Program.elemSz P t=some sz/\0<=j/\∃r,xs[j.toNat]? =some r/\K (.one (.c (.pt r))):=fun {sz xs j} h=>by
   unfold qdH Z6 at h;cases hr:xs[j.toNat]? with
   | none=>rw[hr]at h;exact h.1.2.elim
   | some r=>rw[hr]at h;exact⟨h.1.1.1,h.1.1.2,r,rfl,h.2⟩
  simp only[vt,uD]at h;simp only[QD,D.asLit,D.asSl];split at h
  ·rename_i h1 h2;rw[h1,h2];exact⟨h.1.1,h.1.2.1,h.1.2.2,h.2⟩
  ·grind
  ·grind
  ·grind
  ·grind
 | slice t x lo hi mx=>exact qdN h
 | call c=>
  obtain⟨callee,args,vy⟩:=c;cases callee with
  | value f=>exact(nof h).elim
  | invoke r m=>exact(nof h).elim
  | builtin b=>
   cases b with
   | len=>
    simp only[vt]at h;simp only[QD];split at h
    ·rename_i x t hx ht;rw[hx,ht];simp only;split
     ·rename_i hn;rw[hn]at h;exact h.2
     ·rename_i hn;rw[hn]at h;exact h.1
    ·grind
   | cap=>
    simp only[vt]at h;simp only[QD];split at h
    ·rename_i x t hx ht;rw[hx,ht];simp only;split
     ·rename_i hn;rw[hn]at h;exact h.2
     ·rename_i hn;rw[hn]at h;exact h.1
    ·grind
   | min=>exact qdN h
   | max=>exact qdN h
   | _=>exact(nof h).elim
 | extract x i=>
  simp only[vt,nh]at h;simp only[QD];split at h
  ·grind
  ·grind
 | nilCheck x=>
  simp only[vt,UX]at h;simp only[QD];split at h
  ·rename_i hx;rw[hx];exact h.2
  ·rename_i hx;rw[hx];exact h.2
  ·rename_i hx;rw[hx];exact h.2
  ·rename_i hx;rw[hx];exact h.2
  ·grind
 | makeFunc fn first captured=>
  cases fn with
  | func f=>
   simp only[vt]at h;simp only[QD];split at h
   ·rename_i hfe;rw[ae hfe];split
    ·rename_i hc;rw[hc]at h;exact h.2
    ·rename_i hc;rw[hc]at h;exact h.1
   ·grind
  | _=>exact(nof h).elim
 | _=>exact(nof h).elim
def fS{K:D->Prop}(h:dZ (vt P s op) K): ∃d,QD P s.ev s.bx op (· =d)/\K d:=
 ⟨_,rz ⟨h.1,rfl⟩,h.2⟩
def Il{K:D->Prop}(hb:QF s o.op)(h:dZ (vt P s o.op) K): ∃d,dl P s o d/\K d:=by
 cases ho:o.op with
 | move x=>rw[ho]at h;exact⟨_,Ik ho,h.2⟩
 | assign x=>rw[ho]at h;exact⟨_,CX ho,h.2⟩
 | slice t x lo hi mx=>
  rw[ho]at h;simp only[vt]at h;cases hs:iX P t (s.ev x) (lo.map s.ev) (hi.map s.ev) (mx.map s.ev)with
  | none=>rw[hs]at h;exact h.1.elim
  | some d=>
   rw[hs]at h;refine⟨d,fun X E a w hE=>?_,h.2⟩;obtain⟨v,h1,h2⟩:=Aw hs (hE.ev x) (bW (fun x=>hE.ev x) lo) (bW (fun x=>hE.ev x) hi) (bW (fun x=>hE.ev x) mx);exact⟨v,fun w'=>by simp only[execOp,ho,wq,h1 w',wj,wG],h2⟩
 | nilCheck x=>
  rw[ho]at h hb;simp only[QF,AT]at hb;simp only[vt]at h;split at hb
  ·rename_i n sz i k hx;rw[hx]at h;exact⟨_,xx ho hx,h.2⟩
  ·grind
 | fieldAddr t x f=>
  rw[ho]at h hb;simp only[QF,AT]at hb;simp only[vt]at h;split at hb
  ·rename_i n sz i k hx;rw[hx]at h;cases hf:Program.fieldOff P t f with
   | none=>rw[hf]at h;exact h.1.elim
   | some off=>rw[hf]at h;exact⟨_,sk ho hf hx,h.2⟩
  ·grind
 | binOp op t x y ty=>
  rw[ho]at h hb;simp only[QF,o6]at hb;simp only[vt]at h;obtain⟨cq,fz⟩:=hb;split at cq
  ·rename_i u hx;split at fz
   ·rename_i v hy;rw[hx,hy]at h;cases hr:pR P op t (.one (.c (.lit u))) (.one (.c (.lit v)))with
    | none=>rw[hr]at h;exact h.1.elim
    | some r=>
     rw[hr]at h;refine⟨.one (.c (.lit r)),fun X E a w hE=>?_,h.2⟩;have e1:=hE.ev x;have e2:=hE.ev y;rw[hx]at e1;rw[hy]at e2;have hu:u.oneCell'=true:=by cases e1 with|one t v h=>cases h with|c c v h=>cases h with|lit v h=>exact h
     have hv:v.oneCell'=true:=by cases e2 with|one t v h=>cases h with|c c v h=>cases h with|lit v h=>exact h
     exact FL ho hx hy hr hu hv X E a w hE
   ·grind
  ·grind
 | indexAddr t x y=>
  rw[ho]at h hb;simp only[QF,Jj]at hb;simp only[vt]at h;split at hb
  ·rename_i n sz i len cap hx;rw[hx]at h;unfold uD at h;split at h
   ·rename_i n' sz' i' len' cap' k j hx' hy;injection hx' with hx';injection hx' with q1 q2 q3 q4 q5
    subst q1;subst q2;subst q3;subst q4;subst q5;exact⟨_,FK ho h.1.1 hx hy h.1.2.1 h.1.2.2,h.2⟩
   ·grind
   ·grind
   ·grind
   ·exact h.1.elim
  ·grind
 | _=>rw[ho]at hb;exact hb.elim
def cH(h:Step P { o with guard:=none } s K):Step P o s K:=h
def WF{s:DS}{m:Nat}{info:Option (Nat×Nat)}{x y:D}{K:DS->Prop}(h:Sy (Mo s m info x y) K):
  ∃sz by_ n xs ys,info=some (sz,by_)/\pU m sz x=some (n,xs)/\pV sz y=some ys/\(xs.length+ys.length)*by_<=140737488355328/\K ((s.close [n]).put (some m) (.one (.own n sz (xs++ys)))):=by
 unfold Mo at h;split at h
 ·rename_i sz by_;split at h
  ·rename_i n xs ys h1 h2;exact⟨sz,by_,n,xs,ys,rfl,h1,h2,h.1,h.2⟩
  ·exact h.1.elim
 ·exact h.1.elim
def gF(h:rR md P o s K):md= .step/\Step P o s K:=by
 cases md<;>first|exact⟨rfl,cH h⟩|exact h.elim
def I6{r:Option (List T)}(h:KY md s m r K):md= .step/\∃z,r=some z/\K (s.newBx m z):=by
 cases md<;>first|exact h.elim|skip
 cases r with
 | none=>exact h.elim
 | some z=>exact⟨rfl,z,rfl,h⟩
def qau{r:Option DS}(h:qev md r K):md= .step/\∃z,r=some z/\K z:=by
 cases md<;>first|exact h.elim|skip
 cases r with
 | none=>exact h.elim
 | some z=>exact⟨rfl,z,rfl,h⟩
inductive OpIs(P:Program)(o:aa)(s:DS)(K:DS->Prop):Mode->Prop where
 | hand (h:Step P o s K):OpIs P o s K .hand
 | step (h:Step P o s K):OpIs P o s K .step
 | light (d:D) (h:QD P s.ev s.bx o.op (· =d)) (hk:K (s.put o.dst d)):OpIs P o s K .light
 | look (fr:List Nat) (d:D) (hl:lr fr s o.op) (h:QD P s.ev s.bx o.op (· =d)) (hk:K (s.put o.dst d)):OpIs P o s K (.look fr)
 | blind (d:D) (h:dl P s o d) (hk:K (s.put o.dst d)):OpIs P o s K .blind
 | fresh (h:qgq P o s K\/qgr P o s K):OpIs P o s K .fresh
def tS(h:dZ (Z6 (ZD s o.op md) (vt P s o.op)) fun d=>K (s.put o.dst d)):OpIs P o s K md:=by
 have h0:ZD s o.op md:=h.1.1;have hq:dZ (vt P s o.op) fun d=>K (s.put o.dst d):=⟨h.1.2,h.2⟩;cases md with
 | step=>exact .step (Step.quiet (rz hq))
 | light=>obtain⟨d,h1,h2⟩:=fS hq;exact .light d h1 h2
 | look fr=>obtain⟨d,h1,h2⟩:=fS hq;exact .look fr d h0 h1 h2
 | blind=>obtain⟨d,h1,h2⟩:=Il h0 hq;exact .blind d h1 h2
 | fresh=>exact h0.elim
 | hand=>exact h0.elim
def ud(h:MA md P o s K):OpIs P o s K md:=by
 have stp: ∀{md:Mode},md= .step/\Step P o s K->OpIs P o s K md:=fun h=>by rw[h.1];exact .step h.2
 unfold MA at h;split at h
 ·rename_i f args vy ho;cases md with
  | light=>
   obtain⟨g,caps,ds,r,h1,h2,h3,h4⟩:=h;exact .light r.cl (by rw[ho];exact⟨g,caps,ds,r,h1,h2,h3,rfl⟩) h4
  | step=>
   rcases h with⟨g,caps,ds,r,h1,h2,h3,h4⟩|⟨ns,g,caps,ds,H,R,h1,h2,h3,h4,h5,h6⟩|h
   ·exact .step (Step.callP ho h1 h2 h3 h4)
   ·exact .step (Step.callE ho h1 h2 h3 h4 h5 h6)
   ·exact .step (cH h)
  | fresh=>
   obtain⟨g,caps,ds,R,h1,h2,h3,h5,h4⟩:=h;exact .fresh (.inl ⟨f,args,vy,g,caps,ds,R,ho,h1,h2,h3,h5,h4⟩)
  | blind=>exact h.elim
  | hand=>exact h.elim
  | look fr=>exact h.elim
 ·rename_i args vy ho;split at h
  ·rename_i m x y t t' hm ha ht;have ho':o.op= .call { callee:=.builtin .append,args:= #[x,y],argTypes:= #[t,t'] }:=by
    rw[ho];congr 2
    ·grind
    ·grind
   split at h
   ·rename_i htt;subst htt;unfold My at h;split at h
    ·exact stp (gF h)
    ·split at h
     ·obtain⟨sz,by_,n,xs,ys,h1,h2,h3,h4,h5⟩:=WF h;exact .step (Step.appendOwn ho' hm h1 h2 h3 h4 h5)
     ·grind
   ·exact stp (gF h)
  ·grind
 ·exact stp (gF h)
 ·exact stp (gF h)
 ·exact stp (gF h)
 ·rename_i t ho;split at h
  ·rename_i m hm;obtain⟨rfl,z,h1,h2⟩:=I6 h;exact .step (Step.alloc ho hm h1 h2)
  ·grind
 ·rename_i t x ho;split at h
  ·rename_i m hm;obtain⟨rfl,z,h1,h2⟩:=I6 h;exact .step (Step.box ho hm h1 h2)
  ·grind
 ·rename_i t len parts ho;split at h
  ·exact .hand (cH h)
  ·split at h
   ·rename_i m x hm hp;unfold oW at h;split at h
    ·rename_i sz by_ ns za hx;have qb0:parts= #[(0,x)]:=og;exact .fresh (.inr ⟨m,t,x,ns,sz,by_,by rw[ho,qb0],hm,za,h.1.2.1,hx,h.1.1,h.1.2.2,h.2⟩)
    ·grind
   ·grind
  ·rw[<-ho]at h;exact tS h
 ·rename_i t x v ho;split at h
  ·rename_i hm;obtain⟨rfl,z,h1,h2⟩:=qau h;exact .step (Step.store ho hm h1 h2)
  ·grind
 ·exact tS h
def S3(hk: ∀s,K s->K' s)(h:qgq P o s K\/qgr P o s K):qgq P o s K'\/qgr P o s K':=by
 obtain⟨f,args,vy,g,caps,ds,R,h1,h2,h3,h4,h6,h5⟩|⟨m,t,x,ns,sz,by_,h1,h2,h3,h4,h5,h6,h7,h8⟩:=h
 ·exact .inl ⟨f,args,vy,g,caps,ds,R,h1,h2,h3,h4,h6,fun r H' hr=>hk _ (h5 r H' hr)⟩
 ·exact .inr ⟨m,t,x,ns,sz,by_,h1,h2,h3,h4,h5,h6,h7,hk _ h8⟩
def Yo{want b:Bool}(hg:o.guard=some (j,want))(h:gV (ops.map (·.dst))[j]? s.sl want=some b):vX ops s o=some b:=by
 unfold gV at h;unfold vX;rw[hg];simp only;split at h
 ·grind
 ·cases h
def MR(P:Program)(ops:List aa)(o:aa)(s:DS)(K:DS->Prop)(md:Mode):Prop:=
 match vX ops s o with
 | some true=>OpIs P o s K md
 | some false=>K (s.put o.dst (.tup []))
 | none=>False
def FZ(h:dl P s { o with guard:=none } d):dl P s o d:=h
def Iw(h:OpIs P { o with guard:=none } s K md):OpIs P o s K md:=by
 cases h with
 | hand h=>exact .hand (cH h)
 | step h=>exact .step (cH h)
 | light d h h'=>exact .light d h h'
 | look fr d hl h h'=>exact .look fr d hl h h'
 | blind d h h'=>exact .blind d (FZ h) h'
 | fresh h=>exact .fresh h
def aS{l:List (Mode×aa)}(h:wk P (ops.map (·.dst)) ((md,o)::l) s K):MR P ops o s (fun s'=>wk P (ops.map (·.dst)) l s' K) md:=by
 simp only[wk]at h;unfold MR;split at h
 ·rename_i hg;have hw:vX ops s o=some true:=by simp[vX,hg]
  simp only[hw];exact ud h
 ·rename_i j want hg;cases hv:gV (ops.map (·.dst))[j]? s.sl want with
  | none=>rw[hv]at h;exact h.elim
  | some b=>
   rw[hv]at h;rw[Yo hg hv];cases b with
   | true=>exact Iw (ud (h.1 rfl))
   | false=>exact h.2 rfl
def bq:List aa->List (Mode×aa)
 | []=> []
 | o::l=>(.step,o)::bq l
def zA{ops:List aa}{K:DS->Prop}: ∀(l:List aa) (s:DS),wk P (ops.map (·.dst)) (bq l) s K->Qb P ops l s K
 | [],_,h=>h
 | o::l,s,h=>by
  have h:=aS h;unfold MR at h;simp only[Qb,vc];split at h
  ·rename_i hw;simp only[hw,an];cases h with
   | step h=>exact h.mono fun s' _ hs'=>zA l s' hs'
  ·rename_i hw;simp only[hw,yq,ap];exact zA l _ h
  ·grind
def HZ{id:Nat}(hn:s.n=N)(hb:zM l N=true)(h:wk P (l.map (·.dst)) (bq l) s (Q .normal)):DW P (.region id l.toArray false) s Q:=
 Q0 (by rw[hn];exact hb) (zA l s h)
inductive Picks(ops:List aa):List (Nat×Mode)->List (Mode×aa)->Prop where
 | nil:Picks ops [] []
 | cons {i:Nat} {m:Mode} {o:aa} {l:List (Nat×Mode)} {l':List (Mode×aa)} (h:ops[i]? =some o) (hl:Picks ops l l'):Picks ops ((i,m)::l) ((m,o)::l')
def Mode.isBlind:Mode->Bool
 | .blind=>true
 | _=>false
def bH:List (Nat×Mode)->List Nat
 | []=> []
 | (i,m)::l=>if m.isBlind then i::bH l else []
def Qo:List (Nat×Mode)->List (Nat×Mode)
 | []=> []
 | (i,m)::l=>if m.isBlind then Qo l else(i,m)::l
def cQ{pl:List (Nat×Mode)}{l':List (Mode×aa)}(hp:Picks ops pl l')(rI: ∀p∈pl,p.2.isBlind=false): ∀{s:DS},wk P (ops.map (·.dst)) l' s K->zY P ops k pl s K:=by
 induction hp with
 | nil=>exact fun h=>h
 | @cons i m o l l' ho hl ih=>
  intro s h0;have h:=aS h0;clear h0;have ih:=fun {s}=>ih (fun p hp=>rI p (List.mem_cons_of_mem _ hp)) (s:=s);simp only[zY,ho];unfold MR at h;split at h
  ·rename_i hw;cases h with
   | hand h=>
    simp only[vc,hw,an];exact h.mono fun s' _ hs'=>ih hs'
   | step h=>
    simp only[vc,hw,an];exact h.mono fun s' _ hs'=>ih hs'
   | light d h h'=>
    simp only[AL,hw];exact⟨d,h,ih h'⟩
   | look fr d E7 h h'=>
    simp only[AL,hw];exact .inr ⟨E7,d,h,ih h'⟩
   | blind d h h'=>
    have:=rI _ List.mem_cons_self;cases this
   | fresh h=>exact .inr ⟨hw,S3 (fun s' hs'=>ih hs') h⟩
  ·rename_i hw;have hg:o.guard≠none:=fun e=>by simp[vX,e]at hw
   cases m with
   | step=>simp only[vc,hw,yq,ap];exact ih h
   | hand=>simp only[vc,hw,yq,ap];exact ih h
   | light=>simp only[AL,hw];exact ih h
   | look fr=>grind
   | blind=>
    have:=rI _ List.mem_cons_self;cases this
   | fresh=>grind
  ·grind
def G5{ops:List aa}{K:DS->Prop}{pl:List (Nat×Mode)}{l':List (Mode×aa)}(hp:Picks ops pl l'): ∀{s:DS},(∀p∈Qo pl,p.2.isBlind=false)->wk P (ops.map (·.dst)) l' s K->
  ZH P ops (bH pl) s fun s'=>zY P ops (qY (Qo pl)) (Qo pl) s' K:=by
 have aux: ∀(k:List (Nat×Mode)->Nat->Kind),(∀p q m l,m=Mode.blind->k (Qo ((p,m)::l)) q=k (Qo l) q)->∀{pl:List (Nat×Mode)} {l':List (Mode×aa)},Picks ops pl l'->∀{s:DS},(∀p∈Qo pl,p.2.isBlind=false)->wk P (ops.map (·.dst)) l' s K->
  ZH P ops (bH pl) s fun s'=>zY P ops (k (Qo pl)) (Qo pl) s' K:=by
  intro k F8 pl l' hp;induction hp with
  | nil=>exact fun _ h=>h
  | @cons i m o l l' ho hl ih=>
   intro s rI h;cases hb:m.isBlind with
   | false=>
    have e1:bH ((i,m)::l)= []:=by simp[bH,hb]
    have e2:Qo ((i,m)::l)=(i,m)::l:=by simp[Qo,hb]
    rw[e1];rw[e2]at rI ⊢;exact cQ (.cons ho hl) rI h
   | true=>
    have hm:m= .blind:=by cases m<;>first|rfl|cases hb
    subst hm;have e1:bH ((i,.blind)::l)=i::bH l:=rfl;have e2:Qo ((i,.blind)::l)=Qo l:=rfl;rw[e1];rw[e2]at rI ⊢;replace h:=aS h;simp only[ZH,ho];unfold MR at h;unfold BL;split at h
    ·rename_i hw;simp only[hw];cases h with
     | blind d h h'=>grind
    ·grind
    ·grind
 intro s rI h;exact aux qY (fun p q m l hm=>by subst hm;rfl) hp rI h
def eY(ops:List aa)(N:Nat)(pl:List (Nat×Mode)):Bool:=
 Ie ops N (bH pl) (Qo pl)&&(Qo pl).all fun p=> !p.2.isBlind
def CD{id:Nat}{l:List aa}{s:DS}{Q:ah->DS->Prop}{N:Nat}{l':List (Mode×aa)}(pl:List (Nat×Mode))(hm:P.follows .mixedOrders=true)(hn:s.n=N)(hc:eY l N pl=true)(hp:Picks l pl l')
  (h:wk P (l.map (·.dst)) l' s (Q .normal)):DW P (.region id l.toArray true) s Q:=by
 simp only[eY,we,wZ,jz]at hc;exact Wf (bH pl) (Qo pl) hm (by rw[hn];exact hc.1) (G5 hp hc.2 h)
def Es{ops:List aa}{K:DS->Prop}(k:Nat->Kind){pl:List (Nat×Mode)}{l':List (Mode×aa)}(hp:Picks ops pl l'): ∀{s:DS},(∀p∈Qo pl,p.2.isBlind=false)->wk P (ops.map (·.dst)) l' s K->
  ZH P ops (bH pl) s fun s'=>zY P ops k (Qo pl) s' K:=by
 induction hp with
 | nil=>exact fun _ h=>h
 | @cons i m o l l' ho hl ih=>
  intro s rI h;cases hb:m.isBlind with
  | false=>
   have e1:bH ((i,m)::l)= []:=by simp[bH,hb]
   have e2:Qo ((i,m)::l)=(i,m)::l:=by simp[Qo,hb]
   rw[e1];rw[e2]at rI ⊢;exact cQ (.cons ho hl) rI h
  | true=>
   have hm:m= .blind:=by cases m<;>first|rfl|cases hb
   subst hm;have e1:bH ((i,.blind)::l)=i::bH l:=rfl;have e2:Qo ((i,.blind)::l)=Qo l:=rfl;rw[e1];rw[e2]at rI ⊢;replace h:=aS h;simp only[ZH,ho];unfold MR at h;unfold BL;split at h
   ·rename_i hw;simp only[hw];cases h with
    | blind d h h'=>grind
   ·grind
   ·grind
def ta{ops:List aa}{k:Nat->Kind}{K K':DS->Prop}(hk: ∀s,K s->K' s): ∀(l:List (Nat×Mode)) (s:DS),zY P ops k l s K->zY P ops k l s K'
 | [],s,h=>hk s h
 | (i,m)::l,s,h=>by
  simp only[zY]at h ⊢;cases ho:ops[i]? with
  | none=>grind
  | some o=>
   simp only[ho]at h ⊢;have ih:=ta (ops:=ops) (k:=k) hk l;cases m with
   | blind=>omega
   | light=>exact zT ih h
   | look fr=>exact h.imp id fun h=>⟨h.1,zT ih h.2⟩
   | fresh=>exact h.imp id fun h=>ii ih h
   | step=>
    simp only[vc]at h ⊢;split at h
    ·split at h
     ·rename_i g;rw[ae g];exact h.mono fun s' _ hs'=>ih s' hs'
     ·grind
    ·omega
   | hand=>
    simp only[vc]at h ⊢;split at h
    ·split at h
     ·rename_i g;rw[ae g];exact h.mono fun s' _ hs'=>ih s' hs'
     ·grind
    ·omega
def th{ops:List aa}{K K':DS->Prop}(hk: ∀s,K s->K' s): ∀(pa:List Nat) (s:DS),ZH P ops pa s K->ZH P ops pa s K'
 | [],s,h=>hk s h
 | i::pa,s,h=>by
  simp only[ZH]at h ⊢;cases ho:ops[i]? with
  | none=>grind
  | some o=>
   simp only[ho]at h ⊢;have ih:=th (ops:=ops) hk pa;revert h;unfold BL;split
   ·grind
   ·grind
   ·simp
def Sm(ops:List aa)(N:Nat)(p0:List (Nat×Mode))(i:Nat)(A:List (Nat×Mode))(j:Nat)(B:List (Nat×Mode)):Bool:=
 Ic ops N (bH p0) (Qo p0) i A j B&&((Qo p0).all fun p=> !p.2.isBlind)&&(A.all fun p=> !p.2.isBlind)&&(B.all fun p=> !p.2.isBlind)
def Wh{id:Nat}{l:List aa}{s:DS}{Q:ah->DS->Prop}{N:Nat}{l0 lA lB:List (Mode×aa)}(p0:List (Nat×Mode))(i:Nat)(A:List (Nat×Mode))(j:Nat)(B:List (Nat×Mode))
  (h:wk P (l.map (·.dst)) l0 s fun s1=>wk P (l.map (·.dst)) lA s1 (Q .normal)/\wk P (l.map (·.dst)) lB s1 (Q .normal))
  (hm:P.follows .mixedOrders=true:=by kernel_rfl) (hn:s.n=N:=by rfl) (hc:Sm l N p0 i A j B=true:=by kernel_rfl) (EW:Picks l p0 l0:=by repeat(first|exact Picks.nil|(apply Picks.cons;rfl)))
  (hpA:Picks l ((i,.fresh)::A) lA:=by repeat(first|exact Picks.nil|(apply Picks.cons;rfl))) (hpB:Picks l ((j,.fresh)::B) lB:=by repeat(first|exact Picks.nil|(apply Picks.cons;rfl))):DW P (.region id l.toArray true) s Q:=by
 simp only[Sm,we,wZ,jz]at hc;obtain⟨⟨⟨h1,h2⟩,h3⟩,h4⟩:=hc;have nb: ∀{x:Nat} {X:List (Nat×Mode)},(∀p∈X,p.2.isBlind=false)->∀p∈(x,Mode.fresh)::X,p.2.isBlind=false:=fun h p hp=>by
  rcases wJ.1 hp with rfl|hp
  ·rfl
  ·grind
 exact RN (bH p0) (Qo p0) i A j B hm (by rw[hn];exact h1) (th (fun s' hs'=>ta (fun s1 h=>⟨cQ hpA (nb h3) h.1,cQ hpB (nb h4) h.2⟩) _ s' hs') _ _ (Es _ EW h2 h))
end
theorem BM(next:DS->Prop)(Q:ah->DS->Prop)(s:DS):vP next Q .normal s=next s:=rfl
theorem J9(next:DS->Prop)(Q:ah->DS->Prop)(s:DS):vP next Q .ret s=Q .ret s:=rfl
theorem GA(next:DS->Prop)(Q:ah->DS->Prop)(i:Nat)(s:DS):vP next Q (.exit i) s=Q (.exit i) s:=rfl
theorem rZ(id:Nat)(Q:ah->DS->Prop)(s:DS):zo id Q .normal s=Q .normal s:=rfl
theorem Ci(id:Nat)(Q:ah->DS->Prop)(s:DS):zo id Q .ret s=Q .ret s:=rfl
theorem xY(id i:Nat)(Q:ah->DS->Prop)(s:DS):zo id Q (.exit i) s=if i=id then Q .normal s else Q (.exit i) s:=rfl
def Qf(a:Ans)(P:Program)(ds:List (Option Nat))(dst:Option Nat)(l:List (Mode×aa))(s:DS)(K:DS->Prop):Prop:=a.cond/\wk P ds l (s.put dst a.d) K
def CZ(md:Mode)(a:AnsS)(P:Program)(ds:List (Option Nat))(l:List (Mode×aa))(K:DS->Prop):Prop:=
 match md with
 | .step=>Sy a fun s'=>wk P ds l s' K
 | _=>False
def qgx(md:Mode)(r:Option DS)(P:Program)(ds:List (Option Nat))(l:List (Mode×aa))(K:DS->Prop):Prop:=qev md r fun s'=>wk P ds l s' K
def UZ(md:Mode)(r:Option (List T))(m:Nat)(P:Program)(ds:List (Option Nat))(l:List (Mode×aa))(s:DS)(K:DS->Prop):Prop:=KY md s m r fun s'=>wk P ds l s' K
def CallC(md:Mode)(P:Program)(o:aa)(f:D)(args:List D)(s:DS)(dst:Option Nat)(ds:List (Option Nat))(l:List (Mode×aa))(K:DS->Prop):Prop:=JV P o f args s dst (fun s'=>wk P ds l s' K) md
def StepC(md:Mode)(P:Program)(o:aa)(s:DS)(ds:List (Option Nat))(l:List (Mode×aa))(K:DS->Prop):Prop:=rR md P o s fun s'=>wk P ds l s' K
def Mz(md:Mode)(P:Program)(o:aa)(m:Nat)(info:Option (Nat×Nat))(x y:D)(s:DS)(ds:List (Option Nat))(l:List (Mode×aa))(K:DS->Prop):Prop:=My md P o s m info x y fun s'=>wk P ds l s' K
def B5(info:Option (Nat×Nat))(ts:Option (List T))(P:Program)(m:Nat)(s:DS)(ds:List (Option Nat))(l:List (Mode×aa))(K:DS->Prop):Prop:=oW info ts s m fun s'=>wk P ds l s' K
def Zc(g:Option Bool)(md:Mode)(P:Program)(ds:List (Option Nat))(dst:Option Nat)(op:Op)(ty:j8)(pos:String)(aft:Array Edge)(l:List (Mode×aa))(s:DS)(K:DS->Prop):Prop:=
 du g (wk P ds ((md,⟨dst,op,ty,pos,aft,none⟩)::l) s K) (wk P ds l (s.put dst (.tup [])) K)
section
variable (md:Mode) (P:Program) (ds:List (Option Nat)) (dst:Option Nat) (ty:j8) (pos:String) (aft:Array Edge) (l:List (Mode×aa)) (s:DS) (K:DS->Prop)
theorem Sz(c:Prop)(d:D):Qf ⟨c,d⟩ P ds dst l s K=(c/\wk P ds l (s.put dst d) K):=rfl
theorem Mj(c:Prop)(s':DS):CZ .step ⟨c,s'⟩ P ds l K=(c/\wk P ds l s' K):=rfl
theorem NN(s':DS):qgx .step (some s') P ds l K=wk P ds l s' K:=rfl
theorem K6(m:Nat)(ts:List T):UZ .step (some ts) m P ds l s K=wk P ds l (s.newBx m ts) K:=rfl
theorem Fg(op:Op):Zc (some true) md P ds dst op ty pos aft l s K=wk P ds ((md,⟨dst,op,ty,pos,aft,none⟩)::l) s K:=Ff _ _
theorem Cr(op:Op):Zc (some false) md P ds dst op ty pos aft l s K=wk P ds l (s.put dst (.tup [])) K:=Cq _ _
theorem YQ:wk P ds [] s K=K s:=rfl
theorem YO(o:aa)(l:List aa):wk P ds (bq (o::l)) s K=wk P ds ((.step,o)::bq l) s K:=rfl
theorem IA:wk P ds (bq []) s K=K s:=rfl
theorem M6(op:Op)(j:Nat)(b:Bool):wk P ds ((md,⟨dst,op,ty,pos,aft,some (j,b)⟩)::l) s K=Zc (gV ds[j]? s.sl b) md P ds dst op ty pos aft l s K:=rfl
theorem IB(x:j9):wk P ds ((md,⟨dst,.move x,ty,pos,aft,none⟩)::l) s K=Qf (Z6 (ZD s (.move x) md) ⟨True,s.ev x⟩) P ds dst l s K:=rfl
theorem Ao(x:j9):wk P ds ((md,⟨dst,.assign x,ty,pos,aft,none⟩)::l) s K=Qf (Z6 (ZD s (.assign x) md) ⟨True,s.ev x⟩) P ds dst l s K:=rfl
theorem TC(c a b:j9):wk P ds ((md,⟨dst,.pick c a b,ty,pos,aft,none⟩)::l) s K=Qf (Z6 (ZD s (.pick c a b) md) (I1 (s.ev c) (s.ev a) (s.ev b))) P ds dst l s K:=rfl
theorem TE(t:j8)(x:j9):wk P ds ((md,⟨dst,.load t x,ty,pos,aft,none⟩)::l) s K=Qf (Z6 (ZD s (.load t x) md) (im (C9 P s.bx t (s.ev x)))) P ds dst l s K:=rfl
theorem M9(t:j8)(parts:List (Nat×j9)):wk P ds ((md,⟨dst,.build t parts.toArray,ty,pos,aft,none⟩)::l) s K=Qf (Z6 (ZD s (.build t parts.toArray) md) (qdg (pO P t (parts.map fun p=>(p.1,s.ev p.2))))) P ds dst l s K:=rfl
theorem iQ(t:j8)(n:Nat)(parts:List (Nat×j9)):wk P ds ((.step,⟨dst,.buildSlice t n parts.toArray,ty,pos,aft,none⟩)::l) s K=Qf (Z6 (ZD s (.buildSlice t n parts.toArray) .step) (IM (Qi P t n (parts.map fun p=>(p.1,s.ev p.2))))) P ds dst l s K:=rfl
theorem ij(t:j8)(n:Nat)(parts:List (Nat×j9)):wk P ds ((.light,⟨dst,.buildSlice t n parts.toArray,ty,pos,aft,none⟩)::l) s K=Qf (Z6 (ZD s (.buildSlice t n parts.toArray) .light) (IM (Qi P t n (parts.map fun p=>(p.1,s.ev p.2))))) P ds dst l s K:=rfl
theorem ik(m:Nat)(t:j8)(x:j9):wk P ds ((.fresh,⟨some m,.buildSlice t 1 #[(0,x)],ty,pos,aft,none⟩)::l) s K=B5 (qT P t) (s.ev x).cells P m s ds l K:=rfl
theorem Hc(sz by_:Nat)(ns:List T)(m:Nat):B5 (some (sz,by_)) (some ns) P m s ds l K=((ns.length=sz/\sz<=16777216/\m<1000)/\wk P ds l ((s.newMem m [ns]).put (some m) (.one (.ba m sz 0 1 1))) K):=rfl
theorem iR(t:j8)(n:Nat)(parts:Array (Nat×j9)):wk P ds ((.hand,⟨dst,.buildSlice t n parts,ty,pos,aft,none⟩)::l) s K=StepC .step P ⟨dst,.buildSlice t n parts,ty,pos,aft,none⟩ s ds l K:=rfl
theorem Dn(op:BinOp)(t t':j8)(x y:j9):wk P ds ((md,⟨dst,.binOp op t x y t',ty,pos,aft,none⟩)::l) s K=Qf (Z6 (ZD s (.binOp op t x y t') md) (EG (pR P op t (s.ev x) (s.ev y)))) P ds dst l s K:=rfl
theorem TA(op:UnOp)(t:j8)(x:j9):wk P ds ((md,⟨dst,.unOp op t x,ty,pos,aft,none⟩)::l) s K=Qf (Z6 (ZD s (.unOp op t x) md) (EG (qdE op (s.ev x)))) P ds dst l s K:=rfl
theorem Gg(a b:j8)(x:j9):wk P ds ((md,⟨dst,.convert a b x,ty,pos,aft,none⟩)::l) s K=Qf (Z6 (ZD s (.convert a b x) md) (im (Bn P a b (s.ev x)))) P ds dst l s K:=rfl
theorem M5(t:j8)(x i:j9):wk P ds ((md,⟨dst,.index t x i,ty,pos,aft,none⟩)::l) s K=Qf (Z6 (ZD s (.index t x i) md) (EG (o8 P t (s.ev x) (s.ev i)))) P ds dst l s K:=rfl
theorem Bz(t:j8)(x:j9)(f:Nat):wk P ds ((md,⟨dst,.fieldAddr t x f,ty,pos,aft,none⟩)::l) s K=Qf (Z6 (ZD s (.fieldAddr t x f) md) (Cx (Program.fieldOff P t f) (s.ev x))) P ds dst l s K:=rfl
theorem M7(t:j8)(x:j9)(f:Nat):wk P ds ((md,⟨dst,.field t x f,ty,pos,aft,none⟩)::l) s K=Qf (Z6 (ZD s (.field t x f) md) (im (pv P t f (s.ev x)))) P ds dst l s K:=rfl
theorem By(t:j8)(x i:j9):wk P ds ((md,⟨dst,.indexAddr t x i,ty,pos,aft,none⟩)::l) s K=Qf (Z6 (ZD s (.indexAddr t x i) md) (uD (Program.elemSz P t) (s.ev x) (s.ev i))) P ds dst l s K:=rfl
theorem M4(t:j8)(x:j9)(lo hi mx:Option j9):wk P ds ((md,⟨dst,.slice t x lo hi mx,ty,pos,aft,none⟩)::l) s K=Qf (Z6 (ZD s (.slice t x lo hi mx) md) (im (iX P t (s.ev x) (lo.map s.ev) (hi.map s.ev) (mx.map s.ev)))) P ds dst l s K:=rfl
theorem YU(x:j9)(t:j8):wk P ds ((md,⟨dst,.call ⟨.builtin .len,#[x],#[t]⟩,ty,pos,aft,none⟩)::l) s K=Qf (Z6 (ZD s (.call ⟨.builtin .len,#[x],#[t]⟩) md) (Pk (Lk P t (s.ev x)))) P ds dst l s K:=rfl
theorem YV(x:j9)(t:j8):wk P ds ((md,⟨dst,.call ⟨.builtin .cap,#[x],#[t]⟩,ty,pos,aft,none⟩)::l) s K=Qf (Z6 (ZD s (.call ⟨.builtin .cap,#[x],#[t]⟩) md) (Pk (Mg P t (s.ev x)))) P ds dst l s K:=rfl
theorem YS(x y:j9)(vy:Array j8):wk P ds ((md,⟨dst,.call ⟨.builtin .min,#[x,y],vy⟩,ty,pos,aft,none⟩)::l) s K=Qf (Z6 (ZD s (.call ⟨.builtin .min,#[x,y],vy⟩) md) (im (qbk false (s.ev x) (s.ev y)))) P ds dst l s K:=rfl
theorem YT(x y:j9)(vy:Array j8):wk P ds ((md,⟨dst,.call ⟨.builtin .max,#[x,y],vy⟩,ty,pos,aft,none⟩)::l) s K=Qf (Z6 (ZD s (.call ⟨.builtin .max,#[x,y],vy⟩) md) (im (qbk true (s.ev x) (s.ev y)))) P ds dst l s K:=rfl
theorem Gf(x:j9)(i:Nat):wk P ds ((md,⟨dst,.extract x i,ty,pos,aft,none⟩)::l) s K=Qf (Z6 (ZD s (.extract x i) md) (nh (s.ev x) i)) P ds dst l s K:=rfl
theorem Dk(x:j9):wk P ds ((md,⟨dst,.nilCheck x,ty,pos,aft,none⟩)::l) s K=Qf (Z6 (ZD s (.nilCheck x) md) (UX (s.ev x))) P ds dst l s K:=rfl
theorem Dm(f:am)(caps:List j9):wk P ds ((md,⟨dst,.makeFunc (.func f) #[] caps.toArray,ty,pos,aft,none⟩)::l) s K=Qf (Z6 (ZD s (.makeFunc (.func f) #[] caps.toArray) md) (qgZ f ((caps.map s.ev).mapM Bq))) P ds dst l s K:=rfl
theorem IC(f:j9)(args:List j9)(vy:Array j8):wk P ds ((md,⟨dst,.call ⟨.value f,args.toArray,vy⟩,ty,pos,aft,none⟩)::l) s K=CallC md P ⟨dst,.call ⟨.value f,args.toArray,vy⟩,ty,pos,aft,none⟩ (s.ev f) (args.map s.ev) s dst ds l K:=rfl
theorem JY(m:Nat)(x y:j9)(t:j8):wk P ds ((md,⟨some m,.call ⟨.builtin .append,#[x,y],#[t,t]⟩,ty,pos,aft,none⟩)::l) s K=
  Mz md P ⟨some m,.call ⟨.builtin .append,#[x,y],#[t,t]⟩,ty,pos,aft,none⟩ m (qT P t) (s.ev x) (s.ev y) s ds l K:=by
 simp[wk,MA,Mz]
theorem Na(m:Nat)(t:j8):wk P ds ((md,⟨some m,.alloc t,ty,pos,aft,none⟩)::l) s K=UZ md (Program.zeroT P t) m P ds l s K:=rfl
theorem YW(m:Nat)(t:j8)(x:j9):wk P ds ((md,⟨some m,.box t x,ty,pos,aft,none⟩)::l) s K=UZ md (s.ev x).cells m P ds l s K:=rfl
theorem M3(t:j8)(x v:j9):wk P ds ((md,⟨none,.store t x v,ty,pos,aft,none⟩)::l) s K=qgx md (fF P s t (s.ev x) (s.ev v)) P ds l K:=rfl
theorem TF(args:Array j9)(vy:Array j8):wk P ds ((md,⟨dst,.call ⟨.builtin .copy,args,vy⟩,ty,pos,aft,none⟩)::l) s K=StepC md P ⟨dst,.call ⟨.builtin .copy,args,vy⟩,ty,pos,aft,none⟩ s ds l K:=rfl
theorem Bx(t:j8)(x y:j9):wk P ds ((md,⟨dst,.makeSlice t x y,ty,pos,aft,none⟩)::l) s K=StepC md P ⟨dst,.makeSlice t x y,ty,pos,aft,none⟩ s ds l K:=rfl
theorem M8(args:Array j9)(vy:Array j8):wk P ds ((md,⟨dst,.call ⟨.builtin .clear,args,vy⟩,ty,pos,aft,none⟩)::l) s K=StepC md P ⟨dst,.call ⟨.builtin .clear,args,vy⟩,ty,pos,aft,none⟩ s ds l K:=rfl
variable (o:aa) (m:Nat) (info:Option (Nat×Nat)) (y:D)
theorem SZ(n sz:Nat)(xs:List (List C)):Mz md P o m info (.one (.own n sz xs)) y s ds l K=CZ md (Mo s m info (.one (.own n sz xs)) y) P ds l K:=by cases md<;>rfl
theorem Xa(sz:Nat)(xs:List (List C)):Mz md P o m info (.one (.ex sz xs)) y s ds l K=CZ md (Mo s m info (.one (.ex sz xs)) y) P ds l K:=by cases md<;>rfl
theorem Xb(n sz i len cap:Nat):Mz md P o m info (.one (.ba n sz i len cap)) y s ds l K=StepC md P o s ds l K:=rfl
theorem La(op:Op):ZD s op .step=True:=rfl
theorem Hm(op:Op):ZD s op .light=True:=rfl
theorem Hn(op:Op):ZD s op .blind=QF s op:=rfl
theorem Lb(op:Op)(fr:List Nat):ZD s op (.look fr)=lr fr s op:=rfl
theorem CY(x:j9):QF s (.move x)=True:=rfl
theorem xy(x:j9):QF s (.assign x)=True:=rfl
theorem Aj(t:j8)(x:j9)(lo hi mx:Option j9):QF s (.slice t x lo hi mx)=True:=rfl
theorem pQ(x:j9):QF s (.nilCheck x)=AT (s.ev x):=rfl
theorem nC(t:j8)(x:j9)(f:Nat):QF s (.fieldAddr t x f)=AT (s.ev x):=rfl
theorem Ak(op:BinOp)(t t':j8)(x y:j9):QF s (.binOp op t x y t')=(o6 (s.ev x)/\o6 (s.ev y)):=rfl
theorem nB(t:j8)(x i:j9):QF s (.indexAddr t x i)=Jj (s.ev x):=rfl
theorem Pw(n sz i k:Nat):AT (.one (.bx n sz i k))=True:=rfl
theorem Lt(v:j6):o6 (.one (.c (.lit v)))=True:=rfl
theorem Px(n sz i k c:Nat):Jj (.one (.ba n sz i k c))=True:=rfl
def Ho(fr:List Nat):D->Prop
 | .one (.bx n _ _ _)=>n∉fr/\¬mid n
 | .one (.c _)=>True
 | _=>False
theorem EE(fr:List Nat)(t:j8)(x:j9):lr fr s (.load t x)=Ho fr (s.ev x):=rfl
theorem B7(fr:List Nat)(o:BinOp)(t t':j8)(x y:j9):lr fr s (.binOp o t x y t')=(isCD (s.ev x)/\isCD (s.ev y)):=rfl
theorem Pf(fr:List Nat)(c:C):Ho fr (.one (.c c))=True:=rfl
theorem qby(c:C):isCD (.one (.c c))=True:=rfl
theorem Lc(fr:List Nat)(n sz i k:Nat):Ho fr (.one (.bx n sz i k))=(n∉fr/\¬mid n):=rfl
end
section
variable {P:Program} {g:am} {args es:List D} {r:D} {s:DS} {dst:Option Nat} {ds:List (Option Nat)} {l:List (Mode×aa)} {K:DS->Prop} {o:aa}
def CallC.mk(hc:DCalls P g es r)(vh:LeL (args.map D.cl++caps.map fun c=>D.one (.c c)) es)(hk:wk P ds l (zI s dst r) K):CallC .step P o (.one (.c (.fn g caps))) args s dst ds l K:=
 .inl ⟨g,caps,es,r,rfl,vh,hc,hk⟩
def CallC.light(hc:DCalls P g es r)(vh:LeL (args.map D.cl++caps.map fun c=>D.one (.c c)) es)(hk:wk P ds l (s.put dst r.cl) K):CallC .light P o (.one (.c (.fn g caps))) args s dst ds l K:=
 ⟨g,caps,es,r,rfl,vh,hc,hk⟩
def CallC.eff{f:D}{caps:List T}{H:vT}{R:D->vT->Prop}(ns:List Nat)(hc:ECalls P g es H R)(hf:f.asFn=some (g,caps))(vh:DLeL ((args++caps.map D.one).map (D.tr (Km ns))) es)(hH: ∀k r,H k=some r->vf s.bx ns k=some r)(hd:CallOk ns dst)
  (hk: ∀r H',R r H'->wk P ds l (s.aftCall ns dst r H') K):CallC .step P o f args s dst ds l K:=
 .inr <| .inl ⟨ns,g,caps,es,H,R,hf,vh,hc,hH,hd,hk⟩
def CallC.new{f:D}{caps:List T}{R:D->vT->Prop}(hc:ECalls P g es qA R)(hf:f.asFn=some (g,caps))(vh:DLeL ((args++caps.map D.one).map (D.tr (ZK zi []))) es)(hd:CallOkM zi [] dst)
  (hk: ∀r H',R r H'->wk P ds l (s.aftCallM zi [] dst r H') K):CallC .fresh P o f args s dst ds l K:=
 ⟨g,caps,es,R,hf,vh,hc,hd,hk⟩
def CallC.step{f:D}(h:Step P { o with guard:=none } s fun s'=>wk P ds l s' K):CallC .step P o f args s dst ds l K:=.inr (.inr h)
def StepC.mk{o:aa}(h:Step P o s fun s'=>wk P ds l s' K):StepC .step P o s ds l K:=h
end
theorem PE(N:Nat)(ds:List D)(H:vT)(t:Nat):(zZ N ds H).sl t=ds.getD t .any:=rfl
theorem PF(N:Nat)(ds:List D)(H:vT)(t:Nat):(zZ N ds H).bx t=H t:=rfl
theorem OZ(t:Nat):qA t=none:=rfl
theorem qcF(s:DS)(t:Nat):s.ev (.tmp t)=s.sl t:=rfl
theorem RC(s:DS)(v:j6):s.ev (.const v)=pK v:=rfl
theorem Wd(s:DS)(f:am):s.ev (.func f)= .one (.c (.fn f [])):=rfl
theorem GZ(s:DS)(m:Nat)(d:D)(t:Nat):(s.put (some m) d).sl t=if t=m then d else s.sl t:=rfl
def BX(s:DS)(dst:Option Nat)(d:D)(t:Nat):(s.put dst d).bx t=s.bx t:=by cases dst<;>rfl
theorem OA(s:DS)(d:D):s.put none d=s:=rfl
theorem qen(s:DS)(r:Ren)(t:Nat):(s.tr r).sl t=(s.sl t).tr r:=rfl
theorem qeo(s:DS)(r:Ren)(t:Nat):(s.tr r).bx t=(s.bx t).map (Rows.tr r):=rfl
theorem Sf(s:DS)(ns:List Nat)(t:Nat):(s.close ns).sl t=(s.sl t).tr (cls ns):=rfl
theorem Sg(s:DS)(ns:List Nat)(t:Nat):(s.close ns).bx t=(s.bx t).map (Rows.tr (cls ns)):=rfl
theorem O3(s:DS)(m:Nat)(ts:List T)(t:Nat):(s.newBx m ts).sl t=if t=m then .one (.bx m ts.length 0 0)else(s.sl t).tr (lN m):=rfl
theorem mQ(s:DS)(m:Nat)(ts:List T)(t:Nat):(s.newBx m ts).bx t=if t=m then some (Rows.tr (lN m) [ts])else(s.bx t).map (Rows.tr (lN m)):=rfl
theorem K4(s:DS)(m:Nat)(rows:Rows)(t:Nat):(s.newMem m rows).sl t=(s.sl t).tr (lN m):=rfl
theorem uh(s:DS)(m:Nat)(rows:Rows)(t:Nat):(s.newMem m rows).bx t=if t=m then some (Rows.tr (lN m) rows)else(s.bx t).map (Rows.tr (lN m)):=rfl
theorem NV(s:DS)(m:Nat)(ts:Option Rows)(t:Nat):(s.setBx m ts).sl t=s.sl t:=rfl
theorem NW(s:DS)(m:Nat)(ts:Option Rows)(t:Nat):(s.setBx m ts).bx t=if t=m then ts else s.bx t:=rfl
theorem Hi(s:DS)(n m:Nat)(rows:Rows)(t:Nat):(s.moveMem n m rows).sl t=(s.sl t).tr (dA [n,m]):=rfl
theorem ui(s:DS)(n m:Nat)(rows:Rows)(t:Nat):(s.moveMem n m rows).bx t=if t=m then some (Rows.tr (dA [n,m]) rows)else if t=n then none else(s.bx t).map (Rows.tr (dA [n,m])):=rfl
theorem Iq(s:DS)(ns:List Nat)(m:Nat)(r:D)(H':vT)(t:Nat):(s.aftCall ns (some m) r H').sl t=if t=m then r.tr (S4 ns (some m))else(s.sl t).tr (aft ns (some m)):=rfl
theorem FU(s:DS)(ns:List Nat)(r:D)(H':vT)(t:Nat):(s.aftCall ns none r H').sl t=(s.sl t).tr (aft ns none):=rfl
def Ir(s:DS)(ns:List Nat)(m:Option Nat)(r:D)(H':vT)(t:Nat):(s.aftCall ns m r H').bx t=qF s.bx H' ns m t:=by cases m<;>rfl
theorem qfY(ns:List Nat)(n:Nat):(cls ns).f n=if n∈ns then none else some n:=rfl
theorem qfX(ns:List Nat)(n:Nat):(cls ns).g n=some n:=rfl
theorem qfJ(m n:Nat):(lN m).f n=some n:=rfl
theorem qfI(m n:Nat):(lN m).g n=if n=m then none else some n:=rfl
theorem qcD(ms:List Nat)(n:Nat):(dA ms).f n=some n:=rfl
theorem qcC(ms:List Nat)(n:Nat):(dA ms).g n=if n∈ms then none else some n:=rfl
theorem qfs(m n:Nat):(lab m).f n=if n=0 then some m else none:=rfl
theorem qfr(m n:Nat):(lab m).g n=none:=rfl
theorem qey(ns:List Nat)(n:Nat):(Km ns).f n=if n∈ns then some (n+NB)else if mid n then some n else none:=rfl
theorem qex(ns:List Nat)(n:Nat):(Km ns).g n=if n∈ns then some (n+NB)else if mid n then some n else none:=rfl
theorem qem(ns:List Nat)(m:Option Nat)(k:Nat):(S4 ns m).f k=if k=0 then m else if NB<=k/\k - NB∈ns then some (k - NB)else if mid k then some k else none:=rfl
theorem qel(ns:List Nat)(m:Option Nat)(k:Nat):(S4 ns m).g k=if k=0 then m else if NB<=k/\k - NB∈ns then some (k - NB)else if mid k then some k else none:=rfl
theorem qf5(ns:List Nat)(m:Option Nat)(n:Nat):(aft ns m).f n=if n∈ns\/mid n\/m=some n then none else some n:=rfl
theorem qf4(ns:List Nat)(m:Option Nat)(n:Nat):(aft ns m).g n=if mid n\/m=some n then none else some n:=rfl
def tr_c(r:Ren)(cs:List C):T.trAll r (cs.map T.c)=cs.map T.c:=by rw[T.trAll_eq,yn];congr 1
def Rows.tr_c(r:Ren)(xs:List (List C)):Rows.tr r (xs.map (wt T.c))=xs.map (wt T.c):=by simp only[Rows.tr,yn];congr 1;funext l;exact Dl.tr_c r l
theorem Rows.tr_nil(r:Ren):Rows.tr r []= []:=rfl
theorem Rows.tr_cons(r:Ren)(x:List T)(xs:Rows):Rows.tr r (x::xs)=T.trAll r x::Rows.tr r xs:=rfl
def Rows.tr_append(r:Ren)(xs ys:Rows):Rows.tr r (xs++ys)=Rows.tr r xs++Rows.tr r ys:=yt
theorem CV(s:DS)(r:D):zI s none r=s:=rfl
theorem CU(s:DS)(m:Nat)(r:D):zI s (some m) r=cg s m r:=rfl
theorem Ob(s:DS)(m:Nat)(x:C):cg s m (.one (.c x))=s.put (some m) (.one (.c x)):=rfl
theorem Kr(s:DS)(m sz:Nat)(xs:List (List C)):cg s m (.one (.ex sz xs))=s.put (some m) (.one (.ex sz xs)):=rfl
theorem GL(s:DS)(m sz:Nat)(xs:List (List C)):cg s m (.one (.own 0 sz xs))=(s.close [m]).put (some m) (.one (.own m sz xs)):=rfl
theorem GK(s:DS)(m:Nat)(ds:List D):cg s m (.tup ds)=(s.close [m]).put (some m) ((D.tup ds).tr (lab m)):=rfl
theorem GM(s:DS)(m:Nat)(ts:List T):cg s m (.agg ts)=(s.close [m]).put (some m) ((D.agg ts).tr (lab m)):=rfl
theorem D7(P:Program)(s:DS):fO P s []=some []:=rfl
theorem Oc(P:Program)(s:DS)(t:Nat)(r:List ResultVar):fO P s (.tmp t::r)=(fO P s r).map fun l=>s.sl t::l:=rfl
theorem AE(P:Program)(s:DS)(a:Nat)(t:j8)(r:List ResultVar):fO P s (.cell a t::r)=(C9 P s.bx t (s.sl a)).bind fun d=>(fO P s r).map fun l=>d::l:=rfl
theorem Od(P:Program)(s:DS)(t:Nat):Zs P s [.tmp t]=some (s.sl t):=rfl
def Ku(P:Program)(s:DS)(a:Nat)(t:j8):Zs P s [.cell a t]=C9 P s.bx t (s.sl a):=by unfold Zs;rw[AE,D7];cases C9 P s.bx t (s.sl a)<;>rfl
theorem Oe(P:Program)(s:DS):Zs P s []=some (.tup []):=rfl
def qcR{P:Program}{f:am}{fn:Func}{c:Code}{ds:List D}{r:D}{N:Nat}{rs:List ResultVar}(hp:Program.plainF P f=true)(hf:P.funcs[f]? =some fn)(hb:fn.body=some c)(hN:fn.ntmps=N)(eL:fn.results.toList=rs)(hn:(decide (ds.length<=N)&&decide (N<=100000))=true)
  (h:DW P c (zZ N ds qA) (fun e s'=>(e= .normal\/e= .ret)/\Zs P s' rs=some r)):DCalls P f ds r:=by
 subst hN;subst eL;simp only[we,aj]at hn;exact CG hp hf hb hn.1 (wu hn.2 qX) h
def Qn{P:Program}{f:am}{fn:Func}{c:Code}{ds:List D}{H:vT}{R:D->vT->Prop}{N:Nat}{rs:List ResultVar}(hp:Program.plainF P f=true)(hf:P.funcs[f]? =some fn)(hb:fn.body=some c)(hN:fn.ntmps=N)(eL:fn.results.toList=rs)(hn:(decide (ds.length<=N)&&decide (N<=100000))=true)
  (h:DW P c (zZ N ds H) (fun e s'=>(e= .normal\/e= .ret)/\∃r,Zs P s' rs=some r/\R r s'.bx)):ECalls P f ds H R:=by
 subst hN;subst eL;simp only[we,aj]at hn;exact ni hp hf hb hn.1 (wu hn.2 qX) h
def LeL.refl_: ∀(l:List D),LeL l l
 | []=>.nil
 | _::l=>.cons (fun _ _ _ h=>h) (LeL.refl_ l)
def LeL.of_eq{l:List D}(h:l=l'):LeL l l':=h▸LeL.refl_ l
def Le.refl_(d:D):Le d d:=fun _ _ _ h=>h
def Le.nil_(sz:Nat):Le (.one (.c (.lit (.slice none 0 0)))) (.one (.c (.sl sz []))):=fun w K v h=>by rw[h.lit];exact .one _ _ (.c _ _ (.nil sz))
def wrap_i64{n:Int}(h1: -9223372036854775808<=n)(h2:n<9223372036854775808):aD .i64 n=n:=by rw[IntKind.wrap_i64];omega
theorem L0(s:DS)(g:Nat):s.ev (.global g)=Bd g:=rfl
def zx(k:Nat)(h:k<maxLen):aD .i64 ((k:Int)+1)=((k+1:Nat):Int):=by unfold maxLen at h;rw[wrap_i64 oa oa];rfl
attribute [go_sem ↓] YQ YO IA M6 IB Ao TC TE M9 iQ ij iR ik Dn TA Gg Bz M7 By M5 M4 YU YV YS YT Gf Dk Dm IC JY Na YW M3 TF M8 Bx
attribute [go_sem ↓] BM J9 GA rZ Ci xY
attribute [go_sem ↓] La Hm Hn Lb CY xy Aj pQ nC Ak nB EE B7 Od Ku Oe
attribute [go_sem] Pw Lt Px Lc Pf qby
attribute [go_sem] Hc Sz KV Ld WJ Mj NN K6 Fg Cr SZ Xa Xb List.getD_cons_zero List.getD_cons_succ List.getD_nil
attribute [go_sem] PE PF OZ qcF RC Wd GZ BX OA qen qeo Sf Sg O3 mQ K4 uh NV NW Hi ui Iq FU Ir Rows.tr_c tr_c Rows.tr_nil Rows.tr_cons Rows.tr_append
attribute [go_sem] CV CU Ob Kr GL GK GM D7 Oc AE
attribute [go_sem] I1 Cx qdH uD nh UX Pk IM qdg qgZ Rt Mo gV Zs pK C9 iy D.cells T.cl D.cl T.tr T.trAll D.tr D.trAll T.ownTo T.bxTo T.baTo mid qfY qfX qfJ qfI qcD qcC qfs qfr qey qex qem qel qf5 qf4
attribute [go_sem] Bn JG o8 Bs fM L0
attribute [go_sem] qbk Fp pO DY Qi pR Pz Xo NH qdE JH Lk Mg cE iX pv AO fF pU pV D.asSl D.asLit Bq T.asC Cd qa7 D.asFn
attribute [irreducible] B5 Qf CZ qgx UZ CallC StepC Mz Zc
def lk{α:Type}(z:α):List (Nat×α)->Nat->α
 | [],_=>z
 | (u,d)::r,t=>if t=u then d else lk z r t
def ml(l:List (Nat×Rows)):vT:=fun k=>lk none (l.map fun p=>(p.1,some p.2)) k
def kn(N:Nat)(sls:List (Nat×D))(bx:vT):DS:={ n:=N,sl:=lk .any sls,bx:=bx,pl:=false }
theorem qbp(z:α)(t:Nat):lk z [] t=z:=rfl
theorem Va(z:α)(u:Nat)(d:α)(r:List (Nat×α))(t:Nat):lk z ((u,d)::r) t=if t=u then d else lk z r t:=rfl
theorem qfv(N:Nat)(sls:List (Nat×D))(bx:vT)(t:Nat):(kn N sls bx).sl t=lk .any sls t:=rfl
theorem EN(N:Nat)(sls:List (Nat×D))(bx:vT)(t:Nat):(kn N sls bx).bx t=bx t:=rfl
theorem qbl(t:Nat):ml [] t=none:=rfl
theorem B6(u:Nat)(r:Rows)(l:List (Nat×Rows))(t:Nat):ml ((u,r)::l) t=if t=u then some r else ml l t:=rfl
def DLe.rfl_(d:D):DLe d d:=fun _ _ _ h=>h
def DLe.own_(n sz:Nat)(xs:List (List C)):DLe (.one (.own n sz xs)) (.one (.c (.sl sz xs))):=fun w E v h=>by
 cases h with|one t v h=>cases h with|own n sz xs v h _ _=>exact .one _ _ (.c _ _ h)
def DLe.ex_(sz:Nat)(xs:List (List C)):DLe (.one (.ex sz xs)) (.one (.c (.sl sz xs))):=fun w E v h=>by
 cases h with|one t v h=>cases h with|ex sz xs v h _=>exact .one _ _ (.c _ _ h)
def DLe.nil_(sz:Nat):DLe (.one (.c (.lit (.slice none 0 0)))) (.one (.c (.sl sz []))):=fun w E v h=>by rw[h.lit];exact .one _ _ (.c _ _ (.nil sz))
def DLe.any_(d:D):DLe d .any:=fun w E v h=>.any v
def DLeL.rfl_: ∀(l:List D),DLeL l l
 | []=>.nil
 | _::l=>.cons (DLe.rfl_ _) (DLeL.rfl_ l)
def DLeL.of_eq{l:List D}(h:l=l'):DLeL l l':=h▸DLeL.rfl_ l
def AllS(s:DS):List (Nat×D)->Prop
 | []=>True
 | (t,d)::r=>(s.sl t=d\/DLe (s.sl t) d)/\AllS s r
def AllB(s:DS):List (Nat×Rows)->Prop
 | []=>True
 | (m,ts)::r=>s.bx m=some ts/\AllB s r
def AllS.get{s:DS}: ∀{sls:List (Nat×D)},AllS s sls->∀t,lk .any sls t= .any\/DLe (s.sl t) (lk .any sls t)
 | [],_,t=>.inl rfl
 | (u,d)::r,h,t=>by
  simp only[lk];split
  ·rename_i ht;subst ht;rcases h.1 with h1|h1
   ·exact .inr (h1▸DLe.rfl_ _)
   ·grind
  ·exact AllS.get h.2 t
def AllB.get{s:DS}: ∀{bxs:List (Nat×Rows)},AllB s bxs->∀t r,ml bxs t=some r->s.bx t=some r
 | [],_,t,r,h=>by cases h
 | (u,d)::l,h,t,r,hr=>by
  rw[B6]at hr;split at hr
  ·rename_i ht;subst ht;rw[<-hr];exact h.1
  ·exact AllB.get h.2 t r hr
def NF(hp:s'.pl=true->s.pl=true)(hn:s.n=s'.n)(h1: ∀t,s'.sl t= .any\/DLe (s.sl t) (s'.sl t))(h2: ∀k r,s'.bx k=some r->s.bx k=some r):s.Sub s':=by
 rintro X a w ⟨E,hE⟩;refine⟨E,⟨hE.wi.less h2,fun t=>?_,hE.size.trans hn,hE.defers,by rw[<-hn];exact hE.small,fun h=>hE.pl (hp h)⟩⟩;rcases h1 t with h|h
 ·rw[h];exact .any _
 ·exact h w E _ (hE.sl t)
def vU(hn:s.n=N)(h1:AllS s sls)(h2: ∀k r,bx k=some r->s.bx k=some r):s.Sub (kn N sls bx):=
 NF (fun h=>by cases h) hn (AllS.get h1) h2
def qw{bxs:List (Nat×Rows)}(hn:s.n=N)(h1:AllS s sls)(h2:AllB s bxs):s.Sub (kn N sls (ml bxs)):=
 NF (fun h=>by cases h) hn (AllS.get h1) (AllB.get h2)
def DS.Sub.trans{a b c:DS}(h:a.Sub b)(k:b.Sub c):a.Sub c:=fun X x w hr=>k X x w (h X x w hr)
def DS.Sub.refl(a:DS):a.Sub a:=fun _ _ _ h=>h
section
variable {P:Program} {s:DS} {Q:ah->DS->Prop}
def q8{α:Type}{c:Code}(S:α->DS)(Inv:α->Prop)(μ:α->Nat)(x0:α)(h0:s.Sub (S x0))(hi:Inv x0)
  (round: ∀x,Inv x->DW P c (S x) (vP (fun s'=>∃x',Inv x'/\μ x'<μ x/\s'.Sub (S x')) Q)):DW P (.loop c) s Q:=by
 intro X a w hr b k cs lE hb vd;have key: ∀n x,μ x=n->Inv x->∀a w,Z1 X (S x) a w->
   ∃e a' w',(∃s',Q e s'/\Z1 X s' a' w')/\ArrivesIn (Machine.fenced P (rd X.ro)) P (lone (b.atR a (.code c:: .inLoop c::k)) cs w) b k cs e a' w':=by
  intro n;induction n using Nat.strongRecOn with
  | _ n ih=>
   intro x hn hI a w hr;obtain⟨e,a₁,w₁,⟨s₁,hq,hr₁⟩,Qg⟩:=round x hI X a w hr b (.inLoop c::k) cs lE hb vd;cases e with
   | normal=>
    obtain⟨x',hI₁,qf,hsub⟩:=hq;obtain⟨e₂,a₂,w₂,hq₂,harr₂⟩:=ih (μ x') (hn▸qf) x' rfl hI₁ a₁ w₁ (hsub X a₁ w₁ hr₁);exact⟨e₂,a₂,w₂,hq₂,.of_steps (StepsIn.trans Qg (.one (fenced_calm hb vd rfl) stepR_inLoop)) harr₂⟩
   | exit id=>exact⟨_,a₁,w₁,⟨s₁,hq,hr₁⟩,.pass (x:=.inLoop c) rfl (fun _ _=>.inl oh) Qg⟩
   | goto l=>exact⟨_,a₁,w₁,⟨s₁,hq,hr₁⟩,.pass (x:=.inLoop c) rfl (fun _ _=>.inl oh) Qg⟩
   | ret=>exact⟨_,a₁,w₁,⟨s₁,hq,hr₁⟩,.pass (x:=.inLoop c) rfl (fun _ _=>.inl oh) Qg⟩
   | panic ch=>exact⟨_,a₁,w₁,⟨s₁,hq,hr₁⟩,.pass (x:=.inLoop c) rfl (fun _ _=>.inl oh) Qg⟩
   | outgrown=>exact⟨_,a₁,w₁,⟨s₁,hq,hr₁⟩,.pass (x:=.inLoop c) rfl (fun _ _=>.inl oh) Qg⟩
 obtain⟨e,a',w',hq,Qg⟩:=key _ x0 rfl hi a w (h0 X a w hr);exact⟨e,a',w',hq,.of_steps (.one (fenced_calm hb vd rfl) stepR_loop) Qg⟩
def IG(t n sz:Nat)(h:s.sl t= .one (.c (.lit (.slice none 0 0)))):s.Sub ((s.close [n]).put (some t) (.one (.own n sz []))):=by
 rintro X a w ⟨E,hE⟩;have hv:=hE.sl t;rw[h]at hv;have hnil:=hv.lit;have hns: ∀b o,¬zP ((.slice none 0 0,sz):j6×Nat) b o:=fun b o ⟨a,len,cap,h1,_⟩=>by cases h1
 have h1:=hE.setVal n (.slice none 0 0,sz) (fun b o hs=>ak hs (hns b o));refine⟨_,⟨h1.wi,fun u=>?_,h1.size,h1.defers,h1.small,h1.pl⟩⟩;simp only[DS.put];by_cases hu:u=t
 ·subst hu;rw[ae rfl,hnil];exact .one _ _ (.own n sz [] _ (.nil sz) (by simp[Env.setVal]) (Exact.tame ⟨none,0,rfl⟩))
 ·rw[j7 hu];exact h1.sl u
def CA(t n sz:Nat)(h:s.sl t= .one (.c (.lit (.slice none 0 0))))(hc:DW P c ((s.close [n]).put (some t) (.one (.own n sz []))) Q):DW P c s Q:=qn (IG t n sz h) hc
def MC(n m:Nat):Ren:=⟨some,fun k=>if k=n then some m else if k=m then none else some k⟩
def DS.mv(s:DS)(n m:Nat):DS:={ s with sl:=fun t=>(s.sl t).tr (MC n m),bx:=fun k=>if k=m then(s.bx n).map (Rows.tr (MC n m))else if k=n then none else(s.bx k).map (Rows.tr (MC n m)) }
def D9(E:Env)(n m:Nat):Renames (MC n m) E (E.setρ m (E.ρ n)):=
 ⟨rfl,fun k j h=>by injection h with h;rw[h];rfl,fun k j h=>by
  simp only[MC]at h;split at h
  ·rename_i hk;injection h with h;subst h;subst hk;simp[Env.setρ]
  ·split at h
   ·cases h
   ·rename_i hk;injection h with h;subst h;simp[Env.setρ,hk]⟩
def mR{s:DS}{n m:Nat}{k:Nat}{r:Rows}(h:(s.mv n m).bx k=some r):
  (k=m/\∃r',s.bx n=some r'/\r=Rows.tr (MC n m) r')\/(k≠m/\k≠n/\∃r',s.bx k=some r'/\r=Rows.tr (MC n m) r'):=by
 simp only[DS.mv]at h;split at h
 ·rename_i hk;simp only[wK]at h;obtain⟨r',h1,h2⟩:=h;exact .inl ⟨hk,r',h1,h2.symm⟩
 ·rename_i hk;split at h
  ·cases h
  ·rename_i fy;simp only[wK]at h;obtain⟨r',h1,h2⟩:=h;exact .inr ⟨hk,fy,r',h1,h2.symm⟩
def zB(n m:Nat)(hm:m<100000):s.Sub (s.mv n m):=by
 rintro X a w ⟨E,h⟩;have hR:=D9 E n m;have LC:(E.setρ m (E.ρ n)).ρ m=E.ρ n:=by simp[Env.setρ]
 have hρ: ∀k,k≠m->(E.setρ m (E.ρ n)).ρ k=E.ρ k:=fun k hk=>by simp[Env.setρ,hk]
 refine⟨E.setρ m (E.ρ n),⟨⟨h.wi.turn,h.wi.sep,h.wi.kin,h.wi.kold,h.wi.kok,fun k us hk qH=>?_,fun k j rk rj hk h2 hj h3 qH=>?_,h.wi.free,h.wi.disj,fun k j b o rj hs hj h3=>?_,fun k hk=>?_⟩,fun t=>(h.sl t).tr hR,h.size,h.defers,h.small,h.pl⟩⟩
 ·rcases mR hk with⟨rfl,r',g0,rfl⟩|⟨fj,Jr,r',g1,rfl⟩
  ·obtain⟨g1,g2,g3⟩:=h.wi.boxes n r' g0 (Rows.tr_ne qH);rw[LC];exact⟨g1,g2.tr hR,g3⟩
  ·obtain⟨g2,g3,g4⟩:=h.wi.boxes k r' g1 (Rows.tr_ne qH);rw[hρ k fj];exact⟨g2,g3.tr hR,g4⟩
 ·rcases mR hk with⟨rfl,r',g0,rfl⟩|⟨fj,Jr,r',g1,rfl⟩
  ·rcases mR hj with⟨rfl,_⟩|⟨hjm,hjn,r2,g2,rfl⟩
   ·omega
   ·rw[LC,hρ j hjm];exact h.wi.boxne n j r' r2 g0 (Rows.tr_ne h2) g2 (Rows.tr_ne h3) (fun e=>hjn e.symm)
  ·rcases mR hj with⟨rfl,r2,g0,rfl⟩|⟨hjm,hjn,r2,g2,rfl⟩
   ·rw[LC,hρ k fj];exact h.wi.boxne k n r' r2 g1 (Rows.tr_ne h2) g0 (Rows.tr_ne h3) Jr
   ·rw[hρ k fj,hρ j hjm];exact h.wi.boxne k j r' r2 g1 (Rows.tr_ne h2) g2 (Rows.tr_ne h3) qH
 ·rcases mR hj with⟨rfl,r2,g0,rfl⟩|⟨hjm,hjn,r2,g2,rfl⟩
  ·rw[LC];exact h.wi.sbox k n b o r2 hs g0 (Rows.tr_ne h3)
  ·rw[hρ j hjm];exact h.wi.sbox k j b o r2 hs g2 (Rows.tr_ne h3)
 ·have:=h.small.2;have:=qX;rw[hρ k oa];exact h.wi.fix k hk
def JR(k sz:Nat)(hd:d= .one (.c (.lit (.slice none 0 0)))\/∃z,d= .one (.ex z []))(h:VD w E d v):VD w E (.one (.ba k sz 0 0 0)) v:=by
 rcases hd with rfl|⟨z,rfl⟩
 ·rw[h.lit];exact .one _ _ (.bz k sz 0 none)
 ·cases h with|one t v h=>cases h with|ex _ _ v h hx=>
   obtain⟨A,n,rfl⟩:=hx;have:n=0:=by
    cases h with
    | nil=>rfl
    | sl _ _ a cap cv=>rfl
   subst this;exact .one _ _ (.bz k sz 0 A)
def sub_zero(t k sz:Nat)(hd:s.sl t= .one (.c (.lit (.slice none 0 0)))\/∃z,s.sl t= .one (.ex z [])):s.Sub ((s.setBx k (some [])).put (some t) (.one (.ba k sz 0 0 0))):=by
 rintro X a w ⟨E,h⟩;have h1:=h.noRows k;refine⟨E,⟨h1.wi,fun u=>?_,h1.size,h1.defers,h1.small,h1.pl⟩⟩;rw[GZ];split
 ·rename_i hu;subst hu;exact JR k sz hd (h.sl u)
 ·exact h1.sl u
end
def mK(hm:NB<=m): ¬mid m:=fun h=>by have:=h.2;omega
def WZ(n sz:Nat)(xs:List (List C)):DLe (.one (.own n sz xs)) (.one (.c (.sl sz xs)))=True:=aB (DLe.own_ n sz xs)
def qdy(sz:Nat)(xs:List (List C)):DLe (.one (.ex sz xs)) (.one (.c (.sl sz xs)))=True:=aB (DLe.ex_ sz xs)
def W6(sz:Nat):DLe (.one (.c (.lit (.slice none 0 0)))) (.one (.c (.sl sz [])))=True:=aB (DLe.nil_ sz)
attribute [go_sem] qbp Va qfv EN qbl B6 AllS AllB WZ qdy W6
def Ka{s:DS}(m i j n sz:Nat)(xs:List (List C)){rows:Rows}{r:List T}(hm:s.bx m=some rows)(hi:rows[i]? =some r)(hj:r[j]? =some (.ex sz xs)):
  s.Sub ((s.close [n]).setBx m (some ((Rows.tr (cls [n]) rows).set i ((T.trAll (cls [n]) r).set j (.own n sz xs))))):=by
 rintro X a w ⟨E,hE⟩;have qH:rows≠ []:=og;obtain⟨g1,⟨z,arr,e,k1,k2,k3,k4⟩,g3⟩:=hE.wi.boxes m rows hm qH;have E9:i<rows.length:=og;have A8:j<r.length:=og;have VH:=k2 r (ww hi);have qf:i*z+j<arr.size:=by
  rw[k3]
  calc i*z+j<i*z+z:=by omega
   _=(i+1)*z:=by rw[yo,jd]
   _<=rows.length*z:=wQ _ E9
 have hv:=k4 i j r _ _ hi hj (wY qf);cases hv with
 | ex _ _ v XT hx=>
  have hns: ∀b o,¬zP (arr[i*z+j],sz) b o:=fun b o ⟨a,len,cap,h1,_,_,h2,h3⟩=>by
   obtain⟨A,q,hq⟩:=hx;simp only at h1;rw[hq]at h1;injection h1 with h1 h4 h5
   subst h4;subst h5;simp only at h2 h3;omega
  have h1:=hE.setVal n (arr[i*z+j],sz) (fun b o hs=>ak hs (hns b o));have HJ:(s.close [n]).bx m=some (Rows.tr (cls [n]) rows):=by simp[DS.close,DS.tr,hm]
  have hR:=fP E n (arr[i*z+j],sz);refine⟨_,⟨⟨h1.wi.turn,h1.wi.sep,h1.wi.kin,h1.wi.kold,h1.wi.kok,fun k us hk hne'=>?_,fun k l rk rl hk h2 hl h3 bw=>?_,h1.wi.free,h1.wi.disj,fun k l b o rl hs hl h3=>?_,h1.wi.fix⟩,h1.sl,h1.size,h1.defers,h1.small,h1.pl⟩⟩
  ·simp only[DS.setBx]at hk;split at hk
   ·rename_i fj;subst fj;injection hk with hk;subst hk
    refine⟨g1,⟨z,arr,e,k1,fun x hx'=>?_,?_,fun i' j' x t v q1 q2 q3=>?_⟩,g3⟩
    ·rcases List.mem_or_eq_of_mem_set hx' with h|h
     ·simp only[Rows.tr,wN]at h;obtain⟨y,hy,rfl⟩:=h;rw[T.trAll_eq,wn];exact k2 y hy
     ·rw[h,List.length_set,T.trAll_eq,wn];exact VH
    ·simp[Rows.tr,k3]
    ·have old: ∀(r0:List T) (t0:T),rows[i']? =some r0->r0[j']? =some t0->VT w (E.setVal n (arr[i*z+j],sz)) (t0.tr (cls [n])) v:=fun r0 t0 a1 a2=>(k4 i' j' r0 t0 v a1 a2 q3).tr hR;rw[List.getElem?_set]at q1;split at q1
     ·rename_i qcd;subst qcd;have hil':i<(Rows.tr (cls [n]) rows).length:=og;rw[ae hil']at q1;injection q1 with q1;subst q1
      rw[List.getElem?_set]at q2;split at q2
      ·rename_i hjj;subst hjj;have hjl':j<(T.trAll (cls [n]) r).length:=og;rw[ae hjl']at q2;injection q2 with q2;subst q2
       rw[wY qf]at q3;injection q3 with q3;subst q3
       exact .own n sz xs _ XT (by simp[Env.setVal]) hx.tame
      ·rw[T.trAll_eq,wh,wK]at q2;obtain⟨t0,q4,rfl⟩:=q2;exact old r t0 hi q4
     ·simp only[Rows.tr,wh,wK]at q1;obtain⟨r0,q4,rfl⟩:=q1;rw[T.trAll_eq,wh,wK]at q2;obtain⟨t0,q5,rfl⟩:=q2;exact old r0 t0 q4 q5
   ·exact h1.wi.boxes k us hk hne'
  ·simp only[DS.setBx]at hk hl;have fx: ∀{k:Nat} {rk:Rows},(if k=m then some ((Rows.tr (cls [n]) rows).set i ((T.trAll (cls [n]) r).set j (.own n sz xs)))else(s.close [n]).bx k)=some rk->rk≠ []->∃rk',(s.close [n]).bx k=some rk'/\rk'≠ []:=og;obtain⟨rk',a1,a2⟩:=fx hk h2;obtain⟨rl',b1,b2⟩:=fx hl h3;exact h1.wi.boxne k l rk' rl' a1 a2 b1 b2 bw
  ·simp only[DS.setBx]at hl;split at hl
   ·rename_i hlm;subst hlm;exact h1.wi.sbox k l b o _ hs HJ (fun e=>qH (by simpa[Rows.tr]using e))
   ·exact h1.wi.sbox k l b o rl hs hl h3
def ze(t:Nat)(d:D)(hd:DLe (s.sl t) d)(h:DW P c (s.put (some t) d) Q):DW P c s Q:=by
 refine qn ?_ h;rintro X a w ⟨E,hE⟩;refine⟨E,⟨hE.wi,fun u=>?_,hE.size,hE.defers,hE.small,hE.pl⟩⟩;rw[GZ];split
 ·rename_i hu;subst hu;exact hd w E _ (hE.sl u)
 ·exact hE.sl u
section
variable {P:Program}
def xR(w:j5)(t tz ty e:j8)(k:IntKind)(i:TypeInfo)(z:j6)(ht:P.underlying t=some (.slice e))(qbR:P.underlying tz=some (.int k))(hi:P.info? e=some i)(hz:i.zero=some z)
  (b:Addr) (mz DQ:Nat) (Zt:List j6) (LK:Zt.length=mz*i.size) (holds: ∀(j:Nat) v,Zt[j]? =some v->w.cell? (b.add j)=some v)
  (n:Nat) (hn0:0<n) (vo:0<i.size) (hg:DQ<mz+n) (qcq:mz+n<=maxLen) (hfit:Builtin.nextslicecap (mz+n) DQ*i.bytes<=281474976710656) (hby:n*i.bytes<=281474976710656):
  (yQ #[t,tz] ty #[.slice (some b) mz DQ,.int .i64 n]).run P w=
   .ok (.slice (some ⟨w.heap.size,0,none⟩) (mz+n) (grownCap w (mz+n) DQ e))
    (w.drew.alloc (.cells (Zt.toArray++yr z.cells n++yr z.cells (grownCap w (mz+n) DQ e - (mz+n))) e)):=by
 unfold maxLen at qcq;have hw:aD .i64 (n:Int)=(n:Int):=wrap_i64 oa oa;have hneg: ¬((n:Int)<0):=oa;have Ra: ¬(281474976710656<(n:Int)*(i.bytes:Int)):=oa;have hnr: ¬(mz+n<=DQ):=oa;have h63': ¬(9223372036854775807<((mz:Int)+(n:Int))):=oa;have h48': ¬(281474976710656<Builtin.nextslicecap (mz+n) DQ*i.bytes):=oa;have qH: ¬(n*i.size=0):=by intro e;rcases Nat.mul_eq_zero.1 e with h|h<;>omega
 have hfo:=run_firstCells_some (P:=P) w.drew i.size mz b mz DQ Zt LK (by simpa using holds);have hne1: ¬(n=0):=oa;have hne2: ¬(i.size=0):=oa;simp[yQ,run_underlying ht,run_underlying qbR,sizeOf,typeInfo,zeroValue,hi,hz,asInt,asIntOf,hw,hneg,Ra,hnr,h63',h48',Question.forced,hfo,newRow,grownCap,hne1,hne2];intro h;exact ak h qH
def SE{t tz ty:j8}{sz by_:Nat}{kd:IntKind}(za:qT P t=some (sz,by_))(qbR:P.underlying tz=some (.int kd)){X:Origin}{s:DS}{E:Env}{a:Act}{w:j5}(hr:RelE X s E a w){n i len cap m k:Nat}{rows:Rows}{v:j6}
  (hx:VD w E (.one (.ba n sz i len cap)) v) (hn:s.bx n=some rows) (QH:i+cap<=rows.length) (hz:RowsSz sz rows) (Jq:0<cap) (vd:cap<len+k) (vh:len<=cap)
  (hb:(len+k)*by_<=140737488355328) (hm:m<s.n):
  ∃v' w' E' js,(yQ #[t,tz] ty #[v,.int .i64 k]).run P w= .ok v' w'/\RowsSz sz js/\RelE X (s.newMem m ((rows.drop i).take len++(qa k sz++js))) E' a w'/\VD w' E' (.one (.ba m sz 0 (len+k) (len+k+js.length))) v':=by
 obtain⟨e,inf,z,hu,hi,AX,hisz,hiby,hzsz,qZ,hbpos,AW⟩:=nF w za;have VU: ∀n rows,s.bx n=some rows->rows≠ []->BoxIs w E (E.ρ n) rows:=fun n rows h qH=>(hr.wi.boxes n rows h qH).2.1;have hk:0<k:=oa;have qi:len+k<=maxLen:=by have:len+k<=(len+k)*by_:=jZ _ hbpos;unfold maxLen;omega
 have hkb:k*by_<=(len+k)*by_:=og
 -- what was there
 have x7: ∃(Zt:List j6) (b:Addr),v= .slice (some b) len cap/\(∀(j:Nat) u,Zt[j]? =some u->w.cell? (b.add j)=some u)/\Lst w E sz Zt ((rows.drop i).take len):=by
  cases hx with|one t' v hx=>cases hx with
   | bz _ _ _ A=>omega
   | ba _ _ _ _ _ h1 h2=>
    have qH:rows≠ []:=og;obtain⟨arr,e',k1,k2⟩:=(VU n rows hn qH).rowsIs;obtain⟨sz',k3⟩:=k2.lst;have vo:sz'=sz:=by have hi0:0<rows.length:=oa;rw[<-k3.row _ (yd hi0),hz _ (yd hi0)]
    subst vo;have hL:=(k3.drop i).take len ot;refine⟨_,_,rfl,fun j u gd=>?_,hL⟩;rw[vE];rw[yx]at gd;split at gd
    ·rw[yl]at gd;have hju':arr[i*sz'+j]? =some u:=og;simp[World.cell?,k1,hju']
    ·cases gd
 obtain⟨Zt,b,rfl,QE,hOl⟩:=x7;have hlen':((rows.drop i).take len).length=len:=og;have HG:Zt.length=len*sz:=by rw[hOl.len,hlen']
 have qS:=xR (P:=P) w t tz ty e kd inf z hu qbR hi AX b len cap Zt (by rw[HG,hisz]) QE k hk oa vd qi (by rw[hiby];exact growslice_fits vd hb) (by rw[hiby];omega);have dC:=grownCap_ge w (len+k) cap e;have VS:=grownCap_le_maxLen w (len+k) cap e qi;generalize grownCap w (len+k) cap e=cap' at qS dC VS;have q0:Quiet w E w.drew E:=⟨(Below.refl _ _).drew,fun _ _ h=>h,fun _ _ _ h=>h,hr.wi.kok.move (fun _ _ _=>rfl) (hr.wi.kok.z.below ((Below.refl _ _).drew)),rfl,rfl⟩;have hq:=hr.quiet q0;have Z4:=q0.later hr.wi.kok;have hZ:=l7 w.drew E z.cells AW (cap' - (len+k));have hZk:=l7 w.drew E z.cells AW k;rw[hzsz]at hZ hZk;have zW:RowsIs w.drew E (Zt.toArray++yr z.cells k++yr z.cells (cap' - (len+k))) ((rows.drop i).take len++(qa k sz++yb (cap' - (len+k)) (yb sz (.c .any)))):=by refine Lst.rowsIs (sz:=sz) ?_;have:=(hOl.mono Z4).append (hZk.append hZ);simpa[wS,qa]using this
 have h2:=hq.newMem m hm _ e _ zW;refine⟨_,_,_,yb (cap' - (len+k)) (yb sz (.c .any)),qS,fun r hr'=>by rw[yP hr'];simp,h2,.one _ _ ?_⟩;have Th:len+k+(yb (cap' - (len+k)) (yb sz (T.c C.any))).length=cap':=og;rw[Th];have:=VT.ba (w:=w.drew.alloc (.cells (Zt.toArray++yr z.cells k++yr z.cells (cap' - (len+k))) e)) (E:=E.setρ m w.drew.heap.size) m sz 0 (len+k) cap' dC VS;simp only[Env.setρ,an,Nat.zero_mul]at this;exact this
def Step.appendMk{o:aa}{s:DS}{K:DS->Prop}{kd kd2:IntKind}{m n sz by_ i len cap k:Nat}{x y:j9}{t tz:j8}{rows:Rows}(ho:o.op= .call { callee:=.builtin .append,args:= #[x,y],argTypes:= #[t,tz] })(hm:o.dst=some m)
  (za:qT P t=some (sz,by_)) (qbR:P.underlying tz=some (.int kd)) (hx:s.ev x= .one (.ba n sz i len cap)) (hy:s.ev y= .one (.c (.lit (.int .i64 (k:Int))))) (hn:s.bx n=some rows) (QH:i+cap<=rows.length) (hz:RowsSz sz rows) (Jq:0<cap) (vd:cap<len+k) (vh:len<=cap)
  (hb:(len+k)*by_<=140737488355328) (h: ∀js,RowsSz sz js->K ((s.newMem m ((rows.drop i).take len++(qa k sz++js))).put (some m) (.one (.ba m sz 0 (len+k) (len+k+js.length))))):Step P o s K:=by
 rintro hd X a w ⟨E,hE⟩ Q;have uG:=hE.ev x;rw[hx]at uG;have PO:=hE.ev y;rw[hy]at PO;have hy':=PO.lit;obtain⟨v',w',E',js,qS,E8,hE',hv'⟩:=SE (P:=P) (ty:=o.type) za qbR hE uG hn QH hz Jq vd vh hb (hd m hm);obtain⟨cs,dR⟩:=Qp (P:=P) .append a.eval x y t tz o.type w;refine vg (v:=v') (w':=w') ?_ ⟨_,⟨by rfl,h js E8⟩,?_⟩
 ·unfold execOp;simp only[ho,wq];rw[dR];simp only[wj,invoke,builtin,wq,hy',qS,wG]
 ·rw[hm];exact⟨E',hE'.putOnly (fun d hd'=>by injection hd' with hd';subst hd';exact hd m hm) hv'⟩
def Et{X:Origin}{s:DS}{E:Env}{a:Act}{w:j5}(hr:RelE X s E a w){t tr e:j8}(hu:P.underlying t=some (.slice e)){inf:TypeInfo}(hi:P.info? e=some inf)
  {q sz m:Nat} {rowsq:Rows} {n i len cap:Nat} {rows:Rows} {u v:j6} (hx:VD w E (.one (.ba q sz 0 m m)) u) (hq:s.bx q=some rowsq) (qH:rowsq≠ []) (bO:0<m) (vo:0<sz) (hy:VD w E (.one (.ba n sz i len cap)) v) (hn:s.bx n=some rows) (hrn:rows≠ []) (hnz:RowsSz sz rows) (Yf:0<cap) (Jo:q≠n):
  (Extern.SlicesOverlaps.overlaps #[t,t] #[tr] #[u,v]).run P w= .ok (.bool false) w:=by
 obtain⟨_,⟨z1,arr1,e1,k1,k2,k3,_⟩,_⟩:=hr.wi.boxes q rowsq hq qH;obtain⟨_,⟨z2,arr2,e2,l1,l2,l3,_⟩,_⟩:=hr.wi.boxes n rows hn hrn;have Ti:=hr.wi.boxne q n rowsq rows hq qH hn hrn Jo;have xL:z2=sz:=by have hi0:0<rows.length:=og;rw[<-l2 _ (yd hi0),hnz _ (yd hi0)]
 subst xL;have lY:0<rows.length*z2:=Nat.mul_pos (List.length_pos_iff.2 hrn) vo;cases hx with|one t' u hx=>cases hx with
  | bz _ _ _ A=>omega
  | ba _ _ _ _ _ g1 g2=>
   cases hy with|one t' v hy=>cases hy with
    | bz _ _ _ B=>omega
    | ba _ _ _ _ _ h1 h2=>
     exact Lib.run_overlaps_apart w t tr e hu inf.size (fun w=>by simp[sizeOf,typeInfo,hi]) ⟨E.ρ q,0*z2,none⟩ ⟨E.ρ n,i*z2,none⟩ m m len cap Ti e1 e2 arr1.size arr2.size (by simp[World.shape?,k1]) (by simp[World.shape?,l1]) oa
       (by simp[World.frozen?,k1]) (by simp[World.frozen?,k1])
def Step.overlaps{o:aa}{s:DS}{K:DS->Prop}{f x y:j9}{vy:Array j8}{g:am}{fn:Func}{t tr e:j8}{inf:TypeInfo}(ho:o.op= .call { callee:=.value f,args:= #[x,y],argTypes:=vy })(hf:s.ev f= .one (.c (.fn g [])))
  (hg : P.funcs[g]? = some fn) (hname : (fn.name == "runtime.NumGoroutine") = false) (hb : fn.body.isNone = true) (Q5 : Extern.findNext fn = none) (he : Extern.find fn = some (Extern.SlicesOverlaps.overlaps #[t, t] #[tr]))
  (hu:P.underlying t=some (.slice e)) (hi:P.info? e=some inf) {q sz m:Nat} {rowsq:Rows} {n i len cap:Nat} {rows:Rows} (hx:s.ev x= .one (.ba q sz 0 m m)) (hq:s.bx q=some rowsq) (qH:rowsq≠ []) (bO:0<m) (vo:0<sz)
  (hy:s.ev y= .one (.ba n sz i len cap)) (hn:s.bx n=some rows) (hrn:rows≠ []) (hnz:RowsSz sz rows) (Yf:0<cap) (Jo:q≠n) (h:K (s.put o.dst (.one (.c (.lit (.bool false)))))):Step P o s K:=by
 rintro hd X a w ⟨E,hE⟩ Q;have uG:=hE.ev x;rw[hx]at uG;have PO:=hE.ev y;rw[hy]at PO;have hvf:=hE.ev f;rw[hf]at hvf;have qdV:=Et (P:=P) (tr:=tr) hE hu hi uG hq qH bO vo PO hn hrn hnz Yf Jo;refine vg (v:=.bool false) (w':=w) ?_ ⟨_,⟨zD _ _ _,h⟩,E,hE.putOnly hd (.one _ _ (.c _ _ (.lit _ rfl)))⟩;cases mZ:a.eval f with
 | func fn' first captured=>
  rw[mZ]at hvf;cases hvf with|one t v hv=>cases hv with|c c v hv=>cases hv with
   | fn g caps vs hl hr=>
    have Yf:captured= #[]:=og;subst Yf;unfold execOp;simp only[ho,wq];rw[vC a.eval f #[x,y] vy _ g #[] mZ w];simp only[wj,invoke];rw[run_callFunc_extern hg hname hb Q5 he];have:(#[x,y].map a.eval++ #[]:Array j6)= #[a.eval x,a.eval y]:=oh;rw[this,qdV];rfl
 | _=>rw[mZ]at hvf;cases hvf with|one t v hv=>cases hv with|c c v hv=>cases hv
end
section
variable {P:Program}
def sy{s:DS}(m:Nat){rows rows':Rows}(hm:s.bx m=some rows)(hl:rows'.length=rows.length)
  (h: ∀(i:Nat) r r',rows[i]? =some r->rows'[i]? =some r'->r'.length=r.length/\∀w E (j:Nat) t t' v,r[j]? =some t->r'[j]? =some t'->VT w E t v->VT w E t' v):s.Sub (s.setBx m (some rows')):=by
 rintro X a w ⟨E,hE⟩;have qH:rows'≠ []->rows≠ []:=og;have fx: ∀{k:Nat} {rk:Rows},(s.setBx m (some rows')).bx k=some rk->rk≠ []->∃rk',s.bx k=some rk'/\rk'≠ []:=by
  intro k rk hk hnk;simp only[DS.setBx]at hk;by_cases fj:k=m
  ·grind
  ·grind
 refine⟨E,⟨⟨hE.wi.turn,hE.wi.sep,hE.wi.kin,hE.wi.kold,hE.wi.kok,fun k us hk hne'=>?_,fun k l rk rl hk h2 hl' h3 bw=>?_,hE.wi.free,hE.wi.disj,fun k l b o rl hs hl' h3=>?_,hE.wi.fix⟩,hE.sl,hE.size,hE.defers,hE.small,hE.pl⟩⟩
 ·by_cases fj:k=m
  ·simp only[DS.setBx]at hk;rw[ae fj]at hk;have:=Option.some.inj hk;subst this;subst fj;obtain⟨g1,⟨z,arr,e,k1,k2,k3,k4⟩,g3⟩:=hE.wi.boxes k rows hm (qH hne');have get: ∀(i:Nat) r',rows'[i]? =some r'->∃r,rows[i]? =some r:=og;refine⟨g1,⟨z,arr,e,k1,fun x hx=>?_,by rw[k3,hl],fun i j r' t' v q1 q2 q3=>?_⟩,g3⟩
   ·obtain⟨i,hi,rfl⟩:=List.mem_iff_getElem.1 hx;obtain⟨r,hr⟩:=get i _ (wa hi);rw[(h i r _ hr (wa hi)).1];exact k2 r (ww hr)
   ·grind
  ·simp only[DS.setBx]at hk;rw[j7 fj]at hk;exact hE.wi.boxes k us hk hne'
 ·obtain⟨rk',a1,a2⟩:=fx hk h2;obtain⟨rl',b1,b2⟩:=fx hl' h3;exact hE.wi.boxne k l rk' rl' a1 a2 b1 b2 bw
 ·obtain⟨rl',b1,b2⟩:=fx hl' h3;exact hE.wi.sbox k l b o rl' hs b1 b2
def FQ{r:List T}(h:(qa n sz)[i]? =some r):r=yb sz (.c .any):=yP (ww h)
def DF(m sz:Nat){xs:Rows}(hm:s.bx m=some (xs++js))(hz:RowsSz sz js):s.Sub (s.setBx m (some (xs++qa js.length sz))):=by
 refine sy m hm (by simp[qa]) fun i r r' h1 h2=>?_;rw[List.getElem?_append]at h1 h2;split at h1
 ·grind
 ·rename_i hi;rw[j7 hi]at h2;have e:=FQ h2;subst e;refine⟨by rw[List.length_replicate];exact(hz r (ww h1)).symm,fun w E j t t' v q1 q2 q3=>?_⟩;have:=yP (ww q2);subst this;exact .c _ _ (.any v q3.oneCell')
def Step.weaken(h:Step P o s K)(hk: ∀s',s'.n=s.n->K s'->∃s2,s'.Sub s2/\s2.n=s'.n/\K' s2):Step P o s K':=fun hd X a w hr Q=>
 yL (fun a' w' ⟨s',⟨h1,h2⟩,h3⟩=>by obtain⟨s2,g1,g2,g3⟩:=hk s' h1 h2;exact⟨s2,⟨g2.trans h1,g3⟩,g1 X a' w' h3⟩) (h hd X a w hr Q)
def RowsSz.tr(h:RowsSz sz rows)(r:Ren):RowsSz sz (Rows.tr r rows):=fun x hx=>by simp only[Rows.tr,wN]at hx;obtain⟨y,hy,rfl⟩:=hx;rw[T.trAll_eq,wn];exact h y hy
def zm(n sz:Nat):RowsSz sz (qa n sz):=fun r hr=>by rw[yP hr];simp
def zS(n sz:Nat):(qa n sz).length=n:=by simp[qa]
def e8(r:Ren)(n sz:Nat):Rows.tr r (qa n sz)=qa n sz:=by unfold Rows.tr qa;rw[List.map_replicate,T.trAll_eq,List.map_replicate];rfl
def Step.appendList{o:aa}{s:DS}{K:DS->Prop}{m n sz by_ j:Nat}{x y:j9}{t:j8}{rows ys:Rows}(ho:o.op= .call { callee:=.builtin .append,args:= #[x,y],argTypes:= #[t,t] })(hm:o.dst=some m)
  (za:qT P t=some (sz,by_)) (hx:s.ev x= .one (.ba n sz 0 rows.length (rows.length+j))) (hn:s.bx n=some (rows++qa j sz)) (hz:RowsSz sz rows) (fw:Src s.bx sz (s.ev y) ys)
  (hb:(rows.length+ys.length)*by_<=140737488355328)
  (h: ∀j',K ((s.moveMem n m (rows++(ys++qa j' sz))).put (some m) (.one (.ba m sz 0 (rows.length+ys.length) (rows.length+ys.length+j'))))):Step P o s K:=by
 have xL:RowsSz sz (rows++qa j sz):=fun r hr=>(wF.1 hr).elim (hz r) (zm j sz r);refine Step.weaken (K:=fun s'=>∃js,RowsSz sz js/\s'=(s.moveMem n m (rows++(ys++js))).put (some m) (.one (.ba m sz 0 (rows.length+ys.length) (rows.length+ys.length+js.length)))) ?_ ?_
 ·refine Step.appendLin ho hm za hx hn (by simp[qa]) xL fw oa hb fun js E8=>⟨js,E8,?_⟩;simp
 ·rintro s' hs' ⟨js,E8,rfl⟩;refine⟨_,DF m sz (xs:=Rows.tr (dA [n,m]) (rows++ys)) (js:=Rows.tr (dA [n,m]) js) ?_ (E8.tr _),rfl,?_⟩
  ·rw[BX,ui,ae rfl,<-Rows.tr_append,wS]
  ·have hl:(Rows.tr (dA [n,m]) js).length=js.length:=by simp[Rows.tr]
   have:=h js.length;have e:((s.moveMem n m (rows++(ys++js))).put (some m) (.one (.ba m sz 0 (rows.length+ys.length) (rows.length+ys.length+js.length)))).setBx m (some (Rows.tr (dA [n,m]) (rows++ys)++qa (Rows.tr (dA [n,m]) js).length sz))=
     (s.moveMem n m (rows++(ys++qa js.length sz))).put (some m) (.one (.ba m sz 0 (rows.length+ys.length) (rows.length+ys.length+js.length))):=by
    rw[hl];simp only[DS.moveMem,DS.setBx,DS.put,DS.tr];congr 1;funext k;by_cases hk:k=m
    ·simp only[ae hk,Rows.tr_append,e8,wS]
    ·grind
   rw[e];exact this
def Step.appendMkList{o:aa}{s:DS}{K:DS->Prop}{kd:IntKind}{m n sz by_ i len cap k:Nat}{x y:j9}{t tz:j8}{rows:Rows}(ho:o.op= .call { callee:=.builtin .append,args:= #[x,y],argTypes:= #[t,tz] })(hm:o.dst=some m)
  (za:qT P t=some (sz,by_)) (qbR:P.underlying tz=some (.int kd)) (hx:s.ev x= .one (.ba n sz i len cap)) (hy:s.ev y= .one (.c (.lit (.int .i64 (k:Int))))) (hn:s.bx n=some rows) (QH:i+cap<=rows.length) (hz:RowsSz sz rows) (Jq:0<cap) (vd:cap<len+k) (vh:len<=cap)
  (hb:(len+k)*by_<=140737488355328) (h: ∀j',K ((s.newMem m ((rows.drop i).take len++qa (k+j') sz)).put (some m) (.one (.ba m sz 0 (len+k) (len+k+j'))))):Step P o s K:=by
 refine Step.weaken (K:=fun s'=>∃js,RowsSz sz js/\s'=(s.newMem m ((rows.drop i).take len++(qa k sz++js))).put (some m) (.one (.ba m sz 0 (len+k) (len+k+js.length)))) ?_ ?_
 ·exact Step.appendMk (kd2:=kd) ho hm za qbR hx hy hn QH hz Jq vd vh hb fun js E8=>⟨js,E8,rfl⟩
 ·rintro s' hs' ⟨js,E8,rfl⟩;refine⟨_,DF m sz (xs:=Rows.tr (lN m) ((rows.drop i).take len++qa k sz)) (js:=Rows.tr (lN m) js) ?_ (E8.tr _),rfl,?_⟩
  ·rw[BX,uh,ae rfl,<-Rows.tr_append,wS]
  ·have hl:(Rows.tr (lN m) js).length=js.length:=by simp[Rows.tr]
   have qbT:qa k sz++qa js.length sz=qa (k+js.length) sz:=by simp[qa,jj]
   have:=h js.length;have e:((s.newMem m ((rows.drop i).take len++(qa k sz++js))).put (some m) (.one (.ba m sz 0 (len+k) (len+k+js.length)))).setBx m (some (Rows.tr (lN m) ((rows.drop i).take len++qa k sz)++qa (Rows.tr (lN m) js).length sz))=
     (s.newMem m ((rows.drop i).take len++qa (k+js.length) sz)).put (some m) (.one (.ba m sz 0 (len+k) (len+k+js.length))):=by
    rw[hl,<-qbT];simp only[DS.newMem,DS.setBx,DS.put,DS.tr];congr 1;funext q;by_cases hk:q=m
    ·simp only[ae hk,Rows.tr_append,e8,wS]
    ·grind
   rw[e];exact this
def Step.copyTo{o:aa}{s:DS}{K:DS->Prop}{n sz i len cap c:Nat}{x y:j9}{t t2:j8}{rows ys rows':Rows}(ho:o.op= .call { callee:=.builtin .copy,args:= #[x,y],argTypes:= #[t,t2] })
  (he:Program.elemSz P t=some sz) (hx:s.ev x= .one (.ba n sz i len cap)) (hn:s.bx n=some rows) (QH:i+len<=rows.length) (hz:RowsSz sz rows) (fw:Src s.bx sz (s.ev y) ys)
  (hc:(ys.take len).length=c) (dR:rows.take i++(ys.take len++rows.drop (i+c))=rows')
  (h:K ((s.setBx n (some rows')).put o.dst (.one (.c (.lit (.int .i64 c)))))):Step P o s K:=by
 subst hc;subst dR;exact Step.copy ho he hx hn QH hz fw h
def bP(n sz k:Nat):(qa n sz).drop k=qa (n - k) sz:=by simp[qa]
def Ly(rows:Rows)(v:List T)(i j sz:Nat)(hi:i<rows.length):
  (rows.take i++qa (rows.length+1 - i+j) sz).take i++([v].take (rows.length+1 - i)++(rows.take i++qa (rows.length+1 - i+j) sz).drop (i+1))=rows.take i++v::qa (rows.length - i+j) sz:=by
 have h1:(rows.take i).length=i:=og;have h2: [v].take (rows.length+1 - i)= [v]:=yv ot;rw[h2,List.take_append,List.drop_append,h1,bP];have e:rows.length+1 - i+j - (i+1 - i)=rows.length - i+j:=oa;rw[e];simp[List.take_take,qa];omega
def Lx(rows:Rows)(v:List T)(i j sz:Nat)(hi:i<rows.length):
  (rows.take i++v::qa (rows.length - i+j) sz).take (i+1)++((rows.drop i).take (rows.length+1 - (i+1))++(rows.take i++v::qa (rows.length - i+j) sz).drop (i+1+(rows.length - i)))=rows.take i++(v::(rows.drop i++qa j sz)):=by
 have h1:(rows.take i).length=i:=og;have h2:(rows.drop i).take (rows.length+1 - (i+1))=rows.drop i:=yv oh;rw[h2,List.take_append,List.drop_append,h1];have e:i+1+(rows.length - i) - i=(rows.length - i)+1:=oa;have e2:i+1 - i=1:=oa;rw[e,e2,yh,bP];have e3:rows.length - i+j - (rows.length - i)=j:=oa;rw[e3];have e4:(rows.take i).take (i+1)=rows.take i:=og;have e5:(rows.take i).drop (i+1+(rows.length - i))= []:=ot;rw[e4,e5];simp
def Lw(rows:Rows)(i j sz:Nat)(hi:i<rows.length)(hj:0<j):
  (rows++qa j sz).take (i+1)++((((rows++qa j sz).drop i).take (rows.length+1 - i)).take (rows.length+1 - (i+1))++(rows++qa j sz).drop (i+1+(rows.length - i)))=rows.take (i+1)++(rows.drop i++qa (j - 1) sz):=by
 have e0:rows.length+1 - (i+1)=rows.length - i:=oa;have e1:i+1+(rows.length - i)=rows.length+1:=oa;have e2:rows.length+1 - rows.length=1:=oa;rw[e0,e1,List.take_take,List.drop_append,List.drop_append,List.take_append,List.take_append,bP,bP,e2];have m1:min (rows.length - i) (rows.length+1 - i)=rows.length - i:=oa;have m2:i+1 - rows.length=0:=oa;have m3:rows.drop (rows.length+1)= []:=oh;have m4:(rows.drop i).take (rows.length - i)=rows.drop i:=yv oh;have m5:rows.length - i - (rows.drop i).length=0:=oh;rw[m1,m2,m3,m4,m5];simp
def Lv(rows:Rows)(v:List T)(i j sz:Nat)(hi:i<rows.length):
  (rows.take (i+1)++(rows.drop i++qa j sz)).take i++([v].take (rows.length+1 - i)++(rows.take (i+1)++(rows.drop i++qa j sz)).drop (i+1))=rows.take i++(v::(rows.drop i++qa j sz)):=by
 have h2: [v].take (rows.length+1 - i)= [v]:=yv ot;have h1:(rows.take (i+1)).length=i+1:=og;rw[h2,List.take_append,List.drop_append,h1];have e4:(rows.take (i+1)).take i=rows.take i:=og;have e5:(rows.take (i+1)).drop (i+1)= []:=oh;have e6:i - (i+1)=0:=oa;rw[e4,e5,e6];simp
def Gh(P:Program)(ds:List (Option Nat))(md:Mode)(m:Nat)(x y:j9)(t t':j8)(ty:j8)(pos:String)(aft:Array Edge)(l:List (Mode×aa))(s:DS)(K:DS->Prop)(h:(t==t')=false):
  wk P ds ((md,⟨some m,.call ⟨.builtin .append,#[x,y],#[t,t']⟩,ty,pos,aft,none⟩)::l) s K=StepC md P ⟨some m,.call ⟨.builtin .append,#[x,y],#[t,t']⟩,ty,pos,aft,none⟩ s ds l K:=by
 have h': ¬t=t':=og;simp[wk,MA,StepC,h']
attribute [go_sem ↓] Gh
theorem qfj(s:DS)(n m t:Nat):(s.mv n m).sl t=(s.sl t).tr (MC n m):=rfl
theorem qfk(s:DS)(n m k:Nat):(s.mv n m).bx k=if k=m then(s.bx n).map (Rows.tr (MC n m))else if k=n then none else(s.bx k).map (Rows.tr (MC n m)):=rfl
theorem qfi(n m k:Nat):(MC n m).f k=some k:=rfl
theorem qfh(n m k:Nat):(MC n m).g k=if k=n then some m else if k=m then none else some k:=rfl
attribute [go_sem] qfj qfk qfi qfh e8
end
section
variable {ms:Nat->Bool}
theorem FV(s:DS)(ns:List Nat)(m:Nat)(r:D)(H':vT)(t:Nat):(s.aftCallM ms ns (some m) r H').sl t=if t=m then r.tr (il ms ns (some m))else(s.sl t).tr (bQ ms ns (some m)):=rfl
theorem C4(s:DS)(ns:List Nat)(r:D)(H':vT)(t:Nat):(s.aftCallM ms ns none r H').sl t=(s.sl t).tr (bQ ms ns none):=rfl
def FW(s:DS)(ns:List Nat)(m:Option Nat)(r:D)(H':vT)(t:Nat):(s.aftCallM ms ns m r H').bx t=q9 ms s.bx H' ns m t:=by cases m<;>rfl
theorem qaF(ns:List Nat)(n:Nat):(ZK ms ns).f n=if n∈ns then some (n+NB)else if zt ms n then some n else none:=rfl
theorem qaE(ns:List Nat)(n:Nat):(ZK ms ns).g n=if n∈ns then some (n+NB)else if zt ms n then some n else none:=rfl
theorem Y5(ns:List Nat)(m:Option Nat)(k:Nat):(il ms ns m).f k=if k=0 then m else if NB<=k/\k - NB∈ns then some (k - NB)else if zt ms k then some k else none:=rfl
theorem Y4(ns:List Nat)(m:Option Nat)(k:Nat):(il ms ns m).g k=if k=0 then m else if NB<=k/\k - NB∈ns then some (k - NB)else if zt ms k then some k else none:=rfl
theorem qdi(ns:List Nat)(m:Option Nat)(n:Nat):(bQ ms ns m).f n=if n∈ns\/zt ms n\/m=some n then none else some n:=rfl
theorem qdh(ns:List Nat)(m:Option Nat)(n:Nat):(bQ ms ns m).g n=if zt ms n\/m=some n then none else some n:=rfl
attribute [go_sem] FV C4 FW qaF qaE Y5 Y4 qdi qdh
def eo{s:DS}(m i j k sz z:Nat){rows:Rows}{r:List T}(hm:s.bx m=some rows)(hk:k≠m)(hi:rows[i]? =some r)(hj:r[j]? =some (.ex z [])):
  s.Sub ((s.setBx k (some [])).setBx m (some (rows.set i (r.set j (.ba k sz 0 0 0))))):=by
 have h1:s.Sub (s.setBx k (some [])):=fun X a w ⟨E,h⟩=>⟨E,h.noRows k⟩;refine h1.trans (sy m (rows:=rows) (by simp only[DS.setBx,j7 (Ne.symm hk)];exact hm) oh fun i' r1 r2 q1 q2=>?_);rw[List.getElem?_set]at q2;by_cases qcd:i=i'
 ·subst qcd;rw[hi]at q1;injection q1 with q1;subst q1
  have qf:i<rows.length:=og;rw[ae rfl,ae qf]at q2;injection q2 with q2;subst q2
  refine⟨oh,fun w E j' t t' v e1 e2 e3=>?_⟩;rw[List.getElem?_set]at e2;by_cases hjj:j=j'
  ·subst hjj;have A8:j<r.length:=og;rw[ae rfl,ae A8]at e2;injection e2 with e2;subst e2
   rw[hj]at e1;injection e1 with e1;subst e1
   have:=JR (w:=w) (E:=E) (d:=.one (.ex z [])) k sz (.inr ⟨z,rfl⟩) (.one _ _ e3);cases this with|one _ _ h=>exact h
  ·grind
 ·grind
end
section
variable {P:Program} {s:DS} {Q:ah->DS->Prop} {c:Code}
def zy{xs:List α}{k:Nat}{x:α}(h:xs[k]? =some x):xs.take (k+1)=xs.take k++ [x]:=by rw[yV,h];rfl
def u0{α σ:Type}(xs:List α)(S:Nat->σ->DS)(Inv:Nat->σ->Prop)(sD:σ)(qi:xs.length<=maxLen)(h0:s.Sub (S 0 sD))(hi:Inv 0 sD)
  (body: ∀k x st,xs[k]? =some x->k<xs.length->x∈xs->xs.take (k+1)=xs.take k++ [x]->decide ((k:Int)<(xs.length:Int))=true->aD .i64 ((k:Int)+1)=((k+1:Nat):Int)->Inv k st->
   DW P c (S k st) (vP (fun s'=>∃st',Inv (k+1) st'/\s'.Sub (S (k+1) st')) Q))
  (done: ∀st,decide ((xs.length:Int)<(xs.length:Int))=false->Inv xs.length st->DW P c (S xs.length st) (vP (fun _=>False) Q)):DW P (.loop c) s Q:=by
 refine q8 (fun y:Nat×σ=>S y.1 y.2) (fun y=>y.1<=xs.length/\Inv y.1 y.2) (fun y=>xs.length - y.1) (0,sD) h0 ⟨wM _,hi⟩ ?_;rintro⟨k,st⟩ ⟨hk,hi⟩;rcases yD k xs.length with qf|dC
 ·have hx:xs[k]? =some xs[k]:=by simp
  refine(body k _ st hx qf (yd qf) (zy hx) (by simpa using qf) (zx k (by simp only at hk;omega)) hi).mono ?_;intro e s' h;cases e<;>first|exact h|skip
  obtain⟨st',h1,h2⟩:=h;exact⟨(k+1,st'),⟨oz,h1⟩,oz,h2⟩
 ·grind
def CC{sz:Nat}(t:Nat)(h:s.sl t= .one (.c (.sl sz [])))(h1:DW P c (s.put (some t) (.one (.c (.lit (.slice none 0 0))))) Q)
  (h2: ∀a cap,cap<=maxLen->DW P c (s.put (some t) (.one (.c (.lit (.slice (some a) 0 cap))))) Q):DW P c s Q:=by
 rintro X a w ⟨E,hE⟩;have hv:=hE.sl t;rw[h]at hv;have put: ∀v,a.tmps.getD t undef=v->v.oneCell'=true->Z1 X (s.put (some t) (.one (.c (.lit v)))) a w:=fun v e ho=>⟨E,⟨hE.wi,fun u=>by
  simp only[DS.put];split
  ·rename_i hu;subst hu;rw[e];exact .one _ _ (.c _ _ (.lit _ ho))
  ·exact hE.sl u,hE.size,hE.defers,hE.small,hE.pl⟩⟩
 generalize hg:a.tmps.getD t undef=v at hv;cases hv with|one t' v hv=>cases hv with|c c' v hv=>cases hv with
  | nil=>exact h1 X a w (put _ hg rfl)
  | sl _ _ ad cap cv vo hc hm=>exact h2 ad cap hm X a w (put _ hg rfl)
def DLe.emp(sz:Nat){a:Addr}(h:cap<=maxLen):DLe (.one (.c (.lit (.slice (some a) 0 cap)))) (.one (.c (.sl sz []))):=fun w E v hv=>by rw[hv.lit];exact .one _ _ (.c _ _ (.sl sz [] a cap (fun _=>undef) (fun r hr=>by simp at hr) (wM _) h (fun j hj=>by simp at hj) (fun i j r c h1=>by simp at h1)))
section
variable {md:Mode} {ds:List (Option Nat)} {dst:Option Nat} {ty:j8} {pos:String} {aft:Array Edge} {l:List (Mode×aa)} {K:DS->Prop} {op:Op} {b:Bool}
def qx(h1:b=true->Zc (some true) md P ds dst op ty pos aft l s K)(h2:b=false->Zc (some false) md P ds dst op ty pos aft l s K):Zc (some b) md P ds dst op ty pos aft l s K:=by
 cases b
 ·grind
 ·grind
def qy(h1:b=true->Zc (some false) md P ds dst op ty pos aft l s K)(h2:b=false->Zc (some true) md P ds dst op ty pos aft l s K):Zc (some (!b)) md P ds dst op ty pos aft l s K:=by
 cases b
 ·grind
 ·grind
end
def rU:List Mode->List aa->List (Mode×aa)
 | _,[]=> []
 | [],o::l=>(.step,o)::rU [] l
 | m::ms,o::l=>(m,o)::rU ms l
def Mode.byStep:Mode->Bool
 | .step=>true
 | .hand=>true
 | _=>false
def l9{ops:List aa}{K:DS->Prop}: ∀(ms:List Mode) (l:List aa) (s:DS),ms.all Mode.byStep=true->wk P (ops.map (·.dst)) (rU ms l) s K->Qb P ops l s K
 | _,[],_,_,h=>by
  simp only[rU]at h;exact h
 | ms,o::l,s,hm,h=>by
  obtain⟨m,ms',e,hb,hm'⟩: ∃m ms',rU ms (o::l)=(m,o)::rU ms' l/\m.byStep=true/\ms'.all Mode.byStep=true:=by
   cases ms with
   | nil=>exact⟨.step,[],rfl,rfl,rfl⟩
   | cons m ms=>
    simp only[List.all_cons,we]at hm;exact⟨m,ms,rfl,hm.1,hm.2⟩
  rw[e]at h;have h2:=aS h;clear h;unfold MR at h2;simp only[Qb,vc];split at h2
  ·rename_i hw;simp only[hw,an];cases h2 with
   | step h=>exact h.mono fun s' _ hs'=>l9 ms' l s' hm' hs'
   | hand h=>exact h.mono fun s' _ hs'=>l9 ms' l s' hm' hs'
   | _=>cases hb
  ·rename_i hw;simp only[hw,yq,ap];exact l9 ms' l _ hm' h2
  ·grind
def dc{id:Nat}(ms:List Mode)(hn:s.n=N)(hb:(zM l N&&ms.all Mode.byStep)=true)(h:wk P (l.map (·.dst)) (rU ms l) s (Q .normal)):DW P (.region id l.toArray false) s Q:=by simp only[we]at hb;exact Q0 (by rw[hn];exact hb.1) (l9 ms l s hb.2 h)
theorem TB(ds:List (Option Nat))(K:DS->Prop)(m:Mode)(ms:List Mode)(o:aa)(l:List aa):wk P ds (rU (m::ms) (o::l)) s K=wk P ds ((m,o)::rU ms l) s K:=rfl
theorem M2(ds:List (Option Nat))(K:DS->Prop)(o:aa)(l:List aa):wk P ds (rU [] (o::l)) s K=wk P ds ((.step,o)::rU [] l) s K:=rfl
def MZ(ds:List (Option Nat))(K:DS->Prop)(ms:List Mode):wk P ds (rU ms []) s K=K s:=by
 cases ms<;>rfl
def Step.buildNone{o:aa}{K:DS->Prop}{m sz:Nat}{t:j8}(ho:o.op= .buildSlice t 0 #[])(hm:o.dst=some m)(hb:Qi P t 0 []=some (sz,[]))
  (h:K (((s.put (some m) (.one (.ex sz []))).setBx m (some [])).put (some m) (.one (.ba m sz 0 0 0)))):Step P o s K:=by
 have hq:Step P o s (fun s'=>s'=s.put (some m) (.one (.ex sz []))):=by refine Step.quiet ?_;rw[ho,hm];unfold QD;simp only[wm];rw[hb]
 refine Step.weaken hq fun s' hn e=>⟨_,sub_zero m m sz (.inr ⟨sz,?_⟩),rfl,?_⟩
 ·rw[e];simp[DS.put]
 ·grind
end
attribute [go_sem ↓] TB M2 MZ
def T.exc:T->T
 | .ex sz xs=>.c (.sl sz xs)
 | .own _ sz xs=>.c (.sl sz xs)
 | t=>t
def VT.exc{t:T}(h:VT w E t v):VT w E t.exc v:=by
 cases h with
 | ex sz xs v h hx=>exact .c _ _ h
 | own n sz xs v h hv ht=>exact .c _ _ h
 | c c v h=>exact .c c v h
 | bx n sz i o=>exact .bx n sz i o
 | ba n sz i len cap h1 h2=>exact .ba n sz i len cap h1 h2
 | bz n sz i A=>exact .bz n sz i A
 | fv f caps vs hl hr=>exact .fv f caps vs hl hr
def TZ(m:Nat)(hm:s.bx m=some rows):s.Sub (s.setBx m (some (rows.map (wt T.exc)))):=by
 refine sy m hm oh fun i r1 r2 h1 h2=>?_;rw[wh,h1]at h2;injection h2 with h2;subst h2
 refine⟨oh,fun w E j t t' v e1 e2 e3=>?_⟩;rw[wh,e1]at e2;injection e2 with e2;subst e2
 exact e3.exc
def RP(m:Nat)(hm:s.bx m=some rows)(h:DW P c (s.setBx m (some (rows.map (wt T.exc)))) Q):DW P c s Q:=qn (TZ m hm) h
theorem qfK(c:C):(T.c c).exc= .c c:=rfl
theorem qcE(sz:Nat)(xs:List (List C)):(T.ex sz xs).exc= .c (.sl sz xs):=rfl
theorem Wc(n sz:Nat)(xs:List (List C)):(T.own n sz xs).exc= .c (.sl sz xs):=rfl
def sM{l:List α}{p:α->Bool}{k:Nat}{x:α}(hx:l[k]? =some x)(hi: ∀y∈l.take k,p y=false)(h:p x=true):l.find? p=some x:=by obtain⟨h1,h2⟩:=wg.1 hx;rw[<-yf k l,List.find?_append,List.find?_eq_none.2 (fun y hy=>by simp[hi y hy]),wP h1,h2,List.find?_cons_of_pos h];rfl
theorem sL{l:List α}{p:α->Bool}(hi: ∀y∈l,p y=false):l.find? p=none:=og
def qG{l:List α}{q:α->Prop}{k:Nat}{x:α}(ht:l.take (k+1)=l.take k++ [x])(hi: ∀y∈l.take k,q y)(h:q x): ∀y∈l.take (k+1),q y:=fun y hy=>by
 rw[ht]at hy;rcases wF.1 hy with hy|hy
 ·grind
 ·grind
attribute [go_sem] qfK qcE Wc
attribute [go_sem] if_true if_false ite_true ite_false Option.map_some Option.map_none Option.bind_some Option.bind_none List.map_cons List.map_nil List.mapM_cons List.mapM_nil
attribute [go_sem] List.getElem?_cons_zero List.getElem?_cons_succ List.getElem?_nil List.getElem?_map List.take_succ_cons List.take_zero List.take_nil List.drop_succ_cons List.drop_zero List.drop_nil List.cons_append List.nil_append
attribute [go_sem] List.append_nil List.length_cons List.length_nil List.length_map List.zipWith_cons_cons List.replicate_succ List.replicate_zero List.set_cons_zero List.set_cons_succ List.foldr_cons List.foldr_nil and_true
attribute [go_sem] true_and and_false false_and and_self Bool.true_and Bool.and_true Bool.and_false Bool.false_and Bool.not_true Bool.not_false Bool.true_eq_false Bool.false_eq_true
attribute [go_sem] not_false_eq_true not_true_eq_false ne_eq beq_self_eq_true beq_true beq_false List.mem_singleton List.not_mem_nil Int.toNat_natCast Int.natCast_zero Int.cast_ofNat_Int Int.natCast_nonneg
attribute [go_sem] Int.toNat_zero Int.zero_add Nat.le_refl true_or or_true false_or or_false exists_eq_left exists_eq_left' Option.some.injEq Prod.mk.injEq eq_self
attribute [go_sem] implies_true List.isEmpty_toArray List.isEmpty_nil List.isEmpty_cons Bool.or_true Bool.or_false Bool.true_or Bool.false_or Nat.zero_add Nat.add_zero Nat.zero_mul Nat.mul_one
attribute [go_sem] Nat.one_mul decide_true decide_false List.toList_toArray
structure Keep(n:Nat)(K:qM)(w w':j5):Prop where
 size:w.heap.size<=w'.heap.size
 cells: ∀b o,K b o->w'.cell? ⟨b,o,none⟩=w.cell? ⟨b,o,none⟩
 others: ∀(b:Nat) ob,n<=b->w.heap[b]? =some ob->(∀arr e m,ob≠Obj.cells arr e m)->w'.heap[b]? =some ob
 z:GSz w->GSz w'
def lV(n:Nat)(J:Option Nat->j5->qM->Prop):Prop:=
 ∀g A B (L L':qM),J g A L->Hush n A B->(∀b o,L' b o->L b o\/(A.heap.size<=b/\(B.cell? ⟨b,o,none⟩).isSome=true))->J g B L'
def qg8(P:Program)(g:am)(vs:Array j6)(xs:List (List D))(K:qM)(w:j5):Prop:=
 ∀(l:Nat) (J:Option Nat->j5->qM->Prop),l<w.heap.size->lV w.heap.size J->
  (∀(k:Nat) ds W L (va:Array j6),xs[k]? =some ds->J (some k) W L->w.heap.size<=W.heap.size->va.size=ds.length->(∀(j:Nat) d v,ds[j]? =some d->va[j]? =some v->VD W (E0 L) d v)->
   YieldAt ya 0 P l va W fun e W'=>∃b,e= .returned (.bool b)/\J (if b then some (k+1)else none) W' L/\Keep w.heap.size L W W')->
  J (some 0) w K->CallsIn ya 0 P g (#[.func (.yield l) #[] #[]]++vs) w fun e W'=>(∃v,e= .returned v)/\∃L,J (some xs.length) W' L\/J none W' L
def It(P:Program)(g:am)(caps:List D)(xs:List (List D)):Prop:=
 Program.plainF P g=true/\∀(w:j5) (K:qM) (vs:Array j6),KOk w K->vs.size=caps.length->
  (∀(j:Nat) d v,caps[j]? =some d->vs[j]? =some v->VD w (E0 K) d v)->qg8 P g vs xs K w
def eE:Ren:=⟨fun _=>none,fun _=>none⟩
def ez(E E':Env)(h:E'.K=E.K):Renames eE E E':=⟨h,fun _ _ h=>(by cases h),fun _ _ h=>(by cases h)⟩
def DS.round0(s:DS)(ms:Nat->Bool)(ns:List Nat):DS:={ pl:=false,n:=s.n,sl:=fun t=>(s.sl t).tr (ZK ms ns),bx:=vv ms s.bx ns }
def DS.puts(s:DS):List (Nat×D)->DS
 | []=>s
 | p::l=>(s.put (some p.1) p.2).puts l
def DS.round(s:DS)(ms:Nat->Bool)(ns:List Nat)(ps:List Nat)(ds:List D):DS:=(s.round0 ms ns).puts (ps.zip (ds.map (D.tr eE)))
def RelE.puts{X:Origin}{E:Env}{w:j5}: ∀(l:List (Nat×j6×D)) (s:DS) (a:Act),RelE X s E a w->(∀p∈l,p.1<s.n/\VD w E p.2.2 p.2.1)->
  RelE X (s.puts (l.map fun p=>(p.1,p.2.2))) E { a with tmps:=(l.map fun p=>(p.1,p.2.1)).foldl (fun t p=>t.setIfInBounds p.1 p.2) a.tmps } w
 | [],s,a,h,_=>h
 | p::l,s,a,h,hl=>by obtain⟨h1,h2⟩:=hl p oh;have h3:=h.putOnly (dst:=some p.1) (fun d hd=>by injection hd with hd;subst hd;exact h1) h2;have:=RelE.puts l _ _ h3 (fun q hq=>by rw[zD];exact hl q (by simp[hq]));exact this
def mF(w:j5)(l:Nat)(o o':Obj):(w.putObj l o).putObj l o'=w.putObj l o':=by simp[World.putObj]
def Turn.loop{F:qM}(h:Turn F w w'){o:Obj}(ho:w.heap[b]? =some o)(hc: ∀arr e m,o≠Obj.cells arr e m):w'.heap[b]? =some o:=by
 have qf:b<w.heap.size:=og;rcases h.block b qf with g|⟨arr,e,arr',g1,_⟩
 ·grind
 ·grind
def WI.both{w0:j5}{K F:qM}{ρ:Nat->Nat}{B:Nat}{ro:Option Nat}{mk:Nat}{bs:List Deferred}{w:j5}{E:Env}{bx:vT}(h:WI ⟨w0,K,F,ρ,B,ro,mk,bs⟩ w E bx){l:Nat}{o:Obj}(o':Obj)(ho:w0.heap[l]? =some o)(hc: ∀arr e m,o≠Obj.cells arr e m):
  WI ⟨w0.putObj l o',K,F,ρ,B,ro,mk,bs⟩ (w.putObj l o') E bx:=by
 have F6:=h.turn.loop ho hc;have qf:l<w0.heap.size:=og;have Zk:l<w.heap.size:=og;have hush:Hush 0 w (w.putObj l o'):=Hush.putObj o' (wM _) F6 hc;have hl:=hush.later h.kok;refine⟨⟨h.turn.os,h.turn.tape,h.turn.output,by simpa using h.turn.size,fun b hb=>?_⟩,h.sep,h.kin,fun b o hb=>?_,h.kok.wide hl.keep (fun b o hb=>?_) (h.kok.z.hush hush),fun n rows hn qH=>?_,h.boxne,fun n b o hs=>?_,h.disj,h.sbox,h.fix⟩
 ·by_cases lJ:b=l
  ·subst lJ;exact .inl ((jk Zk).trans (jk qf).symm)
  ·have hb':b<w0.heap.size:=by simp_all
   simp only[wX lJ];exact h.turn.block b hb'
 ·have hb':b<w0.heap.size:=by simp_all
  exact h.kold b o hb'
 ·rw[(hl.keep b o hb).2];exact h.kok b o hb
 ·obtain⟨h1,h2,h3⟩:=h.boxes n rows hn qH;obtain⟨sz,arr,e,g,_⟩:=id h2;refine⟨?_,h2.mono hl (hush.cells _ _ _ _ g),h3⟩;rcases h1 with h1|h1
  ·exact .inl (by simpa using h1)
  ·exact .inr h1
 ·obtain⟨h1,h2,arr,e,h3,h4⟩:=h.free n b o hs;refine⟨?_,h2,arr,e,(hush.cells _ _ _ _ h3).trans h3,h4⟩;rcases h1 with h1|h1
  ·exact .inl (by simpa using h1)
  ·exact .inr h1
def WI.ro{X:Origin}(h:WI X w E bx)(r:Option Nat)(m:Nat):WI { X with ro:=r,mrk:=m } w E bx:=
 ⟨h.turn,h.sep,h.kin,h.kold,h.kok,h.boxes,h.boxne,h.free,h.disj,h.sbox,h.fix⟩
def lf(ms:Nat->Bool)(ns:List Nat)(s:DS)(N:DS->Prop)(Q:ah->DS->Prop):ah->DS->Prop
 | .normal,t=>N (s.aftCallM ms ns none (.tup []) t.bx)
 | .ret,t=>Q .ret (s.aftCallM ms ns none (.tup []) t.bx)
 | .exit id,t=>Q (.exit id) (s.aftCallM ms ns none (.tup []) t.bx)
 | .goto l,t=>Q (.goto l) (s.aftCallM ms ns none (.tup []) t.bx)
 | _,_=>False
def Eb{ms:Nat->Bool}{X:Origin}{s:DS}{E E':Env}{a:Act}{w w':j5}{H':vT}{ns:List Nat}(h:RelE X s E a w)(h':WI ⟨w,E.K,vW ms s.bx E ns,(qB ms E ns).ρ,NB,none,w.heap.size,[]⟩ w' E' H')(hc:CallOkM ms ns none):
  RelE X (s.aftCallM ms ns none (.tup []) H') (ve ms E E' ns none) a w':=
 ⟨ma h.wi h.small.2 h' hc,fun t=>((h.sl t).mono (bN h.wi h')).tr (aU E E' ns none),h.size,h.defers.turn h'.turn,h.small,h.pl⟩
def Bh(ps:Array Tmp)(vs:Array j6)(t:Array j6):
  (ps.zip vs).foldl (fun tmps (p:Tmp×j6)=>tmps.setIfInBounds p.1 p.2) t=(ps.toList.zip vs.toList).foldl (fun tmps p=>tmps.setIfInBounds p.1 p.2) t:=by
 rw[<-Array.foldl_toList,Array.toList_zip]
def YJ: ∀(ps:List Nat) (vs:List j6) (ds:List D),vs.length=ds.length->
  ((ps.zip (vs.zip ds)).map fun p=>(p.1,p.2.1))=ps.zip vs/\((ps.zip (vs.zip ds)).map fun p=>(p.1,p.2.2))=ps.zip ds
 | [],_,_,_=>⟨rfl,rfl⟩
 | _::_,[],[],_=>⟨rfl,rfl⟩
 | p::ps,v::vs,d::ds,h=>by obtain⟨h1,h2⟩:=YJ ps vs ds (by simpa using h);simp[h1,h2]
def Origin.re(X:Origin)(w:j5)(E:Env):Origin:=⟨w,E.K,fun b o=>X.Young b o/\¬E.K b o,E.ρ,X.B,X.ro,X.mrk,X.base⟩
def RelE.re{X:Origin}(h:RelE X s E a w):RelE (X.re w E) s E a w:=by
 refine⟨⟨Turn.refl _ _,fun b o hk hf=>hf.2 hk,fun _ _ h=>h,fun _ _ _ _ h=>h,h.wi.kok,fun n rows hn qH=>?_,h.wi.boxne,fun n b o hs=>?_,h.wi.disj,h.wi.sbox,fun _ _=>rfl⟩,h.sl,h.size,⟨wu h.defers.1 h.wi.turn.size,h.defers.2⟩,h.small,h.pl⟩
 ·obtain⟨h1,h2,h3⟩:=h.wi.boxes n rows hn qH;exact⟨.inr fun o=>⟨h1.imp id (fun g=>g o),h3 o⟩,h2,h3⟩
 ·obtain⟨h1,h2,h3⟩:=h.wi.free n b o hs;exact⟨.inr ⟨h1,h2⟩,h2,h3⟩
def RelE.unre{X:Origin}{s0:DS}{E0:Env}{a0:Act}{w0:j5}(h0:RelE X s0 E0 a0 w0)(h:RelE (X.re w0 E0) s E a w):RelE X s E a w:=by
 have vo:=h0.wi.turn.size;refine⟨⟨h0.wi.turn.trans h.wi.turn (fun i o hi hf=>hf.1.resolve_left oa),h0.wi.sep,fun b o hb=>h.wi.kin b o (h0.wi.kin b o hb),fun b o hb hF hk=>?_,h.wi.kok,fun n rows hn qH=>?_,h.wi.boxne,fun n b o hs=>?_,h.wi.disj,h.wi.sbox,fun n hn=>(h.wi.fix n hn).trans (h0.wi.fix n hn)⟩,h.sl,h.size,⟨h0.defers.1,h.defers.2⟩,h.small,h.pl⟩
 ·refine h0.wi.kold b o hb hF (h.wi.kold b o (jp hb vo) (fun hf=>?_) hk);rcases hf.1 with g|g
  ·omega
  ·grind
 ·obtain⟨h1,h2,h3⟩:=h.wi.boxes n rows hn qH;refine⟨?_,h2,h3⟩;rcases h1 with h1|h1
  ·exact .inl (wu vo h1)
  ·by_cases hb:X.w.heap.size<=E.ρ n
   ·exact .inl hb
   ·exact .inr fun o=>(h1 o).1.resolve_left hb
 ·obtain⟨h1,h2,h3⟩:=h.wi.free n b o hs;refine⟨?_,h2,h3⟩;rcases h1 with h1|h1
  ·exact .inl (wu vo h1)
  ·exact h1.1
def RelE.sub{X:Origin}(h:RelE X s E a w)(hs:s.Sub s'): ∃E',RelE X s' E' a w/\∀b o,E.K b o->E'.K b o:=by obtain⟨E',h'⟩:=hs _ _ _ ⟨E,h.re⟩;exact⟨E',h.unre h',h'.wi.kin⟩
section
variable {P:Program} {s:DS} {Q:ah->DS->Prop}
def Cy{g:j9}{ps:Array Tmp}{assign body:Code}{gf:am}{caps:List T}{xs:List (List D)}{σ:Type}(ms:Nat->Bool)(ns:List Nat)(S:Nat->σ->DS)(Inv:Nat->σ->Prop)(sD:σ)(hi0:Inv 0 sD)(Db:s.pl=true)
  (hg:(s.ev g).asFn=some (gf,caps)) (Cl:It P gf (caps.map fun t=>.one (.c t.cl)) xs) (h0:s.Sub (S 0 sD)) (hn: ∀k st,(S k st).n=s.n) (hN:s.n<=1000) (PX: ∀p∈ps.toList,p<s.n) (VA: ∀ds∈xs,ds.length=ps.size)
  (QC:CallOkM ms ns none)
  (lD: ∀k ds st,xs[k]? =some ds->Inv k st->DW P assign ((S k st).round ms ns ps.toList ds) (vP (fun s1=>DW P body s1 (lf ms ns (S k st) (fun s'=>∃st',Inv (k+1) st'/\s'.Sub (S (k+1) st')) Q)) (fun _ _=>False)))
  (uM: ∀st,Inv xs.length st->Q .normal (S xs.length st)):DW P (.rangeFunc g ps assign body) s Q:=by
 rintro X a w ⟨E,hE⟩;have lE:X.ro=none:=hE.pl Db;rw[lE];obtain⟨captured,mZ,nP,Bb⟩:=nE hg (hE.ev g);obtain⟨Dc,Ds,rH,hds,hDs⟩:=hE.defers;have hXw:X.w.heap.size<=w.heap.size:=hE.wi.turn.size;have Rh:=qX;refine wpIn_rangeFunc (F:=ya) ?_;intro fn _;obtain⟨rec,hrec⟩: ∃rec:LoopState->Option Code->Loop,rec=fun st pe=>{ state:=st,pending:=pe,fn,tmps:=a.tmps,params:=ps,assign,body,defers:=w.heap.size }:=⟨_,rfl⟩
 obtain⟨W1,hW1⟩: ∃W1,(w.alloc (.deferred (some []))).alloc (.loop (rec .ready none))=W1:=⟨_,rfl⟩;have HD:W1.heap.size=w.heap.size+2:=by rw[<-hW1];simp
 have hL1:W1.heap[w.heap.size+1]? =some (.loop (rec .ready none)):=by rw[<-hW1];have:=jg (w.alloc (.deferred (some []))) (.loop (rec .ready none));rwa [World.size_alloc]at this
 have hK1:W1.heap[w.heap.size]? =some (.deferred (some [])):=by rw[<-hW1];exact(Below.heap_alloc _ _ _ oh).trans (jg w _)
 have iB:Hush w.heap.size w W1:=by rw[<-hW1];exact(Hush.alloc _ (wl _)).trans (Hush.alloc _ oh)
 have HO: ∀D∈Ds,D<w.heap.size:=fun D hD=>(wH.1 (hDs D hD).2).1;have qco: ∀D∈w.heap.size::Ds,W1.heap[D]? =some (.deferred (some [])):=fun D hD=>by
  rcases wJ.1 hD with rfl|hD
  ·exact hK1
  ·exact(iB.old D (HO D hD)).trans (hDs D hD).2
 have qb3:(w.heap.size::Ds).Nodup:=jE.2 ⟨fun h=>by have:=HO _ h;omega,rH⟩;have nc: ∀D∈w.heap.size::Ds,D<w.heap.size+1:=fun D hD=>by
  rcases wJ.1 hD with rfl|hD
  ·omega
  ·have:=HO D hD;omega
 have Ri: ∀D∈w.heap.size::Ds,X.mrk<=D:=fun D hD=>by
  rcases wJ.1 hD with rfl|hD
  ·exact wu Dc hXw
  ·exact(hDs D hD).1
 have uK:=iB.later hE.wi.kok;have P2:KOk W1 E.K:=hE.wi.kok.wide uK.keep (fun b o hb=>by rw[(uK.keep b o hb).2];exact hE.wi.kok b o hb) (hE.wi.kok.z.hush iB);have hit:=Cl.2 W1 E.K captured P2 (by simpa using nP) (fun j d v h1 h2=>by
  rw[wh]at h1;cases hc:caps[j]? with
  | none=>rw[hc]at h1;cases h1
  | some t=>rw[hc]at h1;injection h1 with h1;subst h1;exact .one _ _ (.c _ _ ((Bb j t v hc h2).cl.mono uK.keep)))
 refine⟨w.heap.size+1,[{ target:=.collected w.heap.size,args:= #[] }],W1,{ target:=.fn (.func gf) captured,args:= #[.func (.yield (w.heap.size+1)) #[] #[]] },W1,gf,
  #[.func (.yield (w.heap.size+1)) #[] #[]]++captured,W1,?_,?_,fun _ _=>trivial,?_,fun h=>(by cases h),?_⟩
 ·rw[<-hW1,hrec];exact run_enterLoop_outer _ _ _ _ _
 ·have h:=vC (P:=P) a.eval g #[.const (.func (.yield (w.heap.size+1)) #[] #[])] #[] 0 gf captured mZ W1;simpa[Act.eval]using h
 ·exact Qs Cl.1 _ W1
 let Jk:Nat->j5->qM->Prop:=fun k W L=>∃st,Inv k st/\∃E',RelE X (S k st) E' { a with defers:=X.base } W/\(∀b o,L b o->E'.K b o)/\(∀b o,E.K b o->E'.K b o/\W.cell? ⟨b,o,none⟩=W1.cell? ⟨b,o,none⟩)/\W.heap[w.heap.size+1]? =some (.loop (rec .ready none))/\
  ∀D∈w.heap.size::Ds,W.heap[D]? =some (.deferred (some []))
 let Jx:j5->Prop:=fun W=>∃c E' s',RelE X s' E' { a with defers:=X.base } W/\W.heap[w.heap.size+1]? =some (.loop (rec .done (some c)))/\(∀D∈w.heap.size::Ds,W.heap[D]? =some (.deferred (some [])))/\
  ∀a' W',Z1 X s' a' W'->c.wpIn ya 0 P (fun e a w=>∃s'',Q e s''/\Z1 X s'' a w) a' W'
 let J:Option Nat->j5->qM->Prop:=fun g W L=>match g with|some k=>Jk k W L|none=>Jx W
 have fin: ∀{s':DS} {E':Env} {W:j5} (o:Loop),RelE X s' E' { a with defers:=X.base } W->W.heap[w.heap.size+1]? =some (.loop o)->(∀D∈w.heap.size::Ds,W.heap[D]? =some (.deferred (some [])))->∀o':Loop,
   Z1 X s' { a with defers:= [{ target:=.collected w.heap.size,args:= #[] }]++a.defers } (W.putObj (w.heap.size+1) (.loop o')):=fun o h1 h2 h3 o'=>by
  refine⟨_,h1.hush (Hush.putObj _ oa h2 oh) rfl ⟨Dc,w.heap.size::Ds,qb3,by simp[hds],fun D hD=>⟨Ri D hD,?_⟩⟩⟩;exact(wX (by have:=nc D hD;omega)).trans (h3 D hD)
 have nil: ∀W,DefOK X X.base W:=fun W=>DefOK.nil _ _ Dc;refine(hit (w.heap.size+1) J oa ?_ ?_ ?_).mono ?_
 ·rintro g A B L L' hJ hu hL;cases g with
  | some k=>
   obtain⟨st,hi,E',h1,h0,h2,h3,h4⟩:=hJ;have hw:Wider A B E' { E' with K:=fun b o=>E'.K b o\/(A.heap.size<=b/\(B.cell? ⟨b,o,none⟩).isSome=true) }:=⟨fun _ _ h=>.inl h,fun _ _ h=>h,rfl,rfl⟩;have hl:=hu.later h1.wi.kok;refine⟨st,hi,_,h1.hushW (hu.mono oa) hw rfl (nil _),fun b o hb=>(hL b o hb).imp (h0 b o) id,fun b o hb=>⟨.inl (h2 b o hb).1,((hl.keep b o (h2 b o hb).1).2).trans (h2 b o hb).2⟩,(hu.old _ oa).trans h3,fun D hD=>(hu.old D (by have:=nc D hD;omega)).trans (h4 D hD)⟩
  | none=>
   obtain⟨c,E',s',h1,h3,h4,h5⟩:=hJ;exact⟨c,E',s',h1.hush (hu.mono oa) rfl (nil _),(hu.old _ oa).trans h3,fun D hD=>(hu.old D (by have:=nc D hD;omega)).trans (h4 D hD),h5⟩
 ·
  rintro k ds W L va hkx ⟨st,HI,E',h1,hL,h2,h3,h4⟩ _ v1 v2;have vG:ds.length=ps.size:=VA _ (ww hkx);have hy:=run_yield (P:=P) (args:=va) h3 (by rw[hrec];exact v1.trans vG);have qb8:w.heap.size+1<W.heap.size:=(wH.1 h3).1
  let Xr:Origin:=⟨W,E'.K,vW ms (S k st).bx E' ns,(qB ms E' ns).ρ,NB,some (w.heap.size+1),W.heap.size,[]⟩
  have aM:WI Xr W (qB ms E' ns) (vv ms (S k st).bx ns):=(dD h1.wi ns QC.hns).ro _ _;have uP:RelE Xr ((S k st).round0 ms ns) (qB ms E' ns) { tmps:=a.tmps,defers:= [] } W:=
   ⟨aM,fun t=>(h1.sl t).tr (Qr (ms:=ms) E' ns),h1.size,DefOK.nil _ _ (wl _),⟨by show(S k st).n<=NB;rw[hn];omega,wl _⟩,fun h=>(by cases h)⟩
  obtain⟨z1,z2⟩:=YJ ps.toList va.toList (ds.map (D.tr eE)) (by simp[v1]);have aN:=RelE.puts (ps.toList.zip (va.toList.zip (ds.map (D.tr eE)))) _ _ uP (fun p hp=>by
   obtain⟨i,hi⟩:=jI hp;rw[jU,jU]at hi;obtain⟨g1,g2,g3⟩:=hi;refine⟨by show p.1<(S k st).n;rw[hn];exact PX _ (ww g1),?_⟩;rw[wh]at g3;cases hd:ds[i]? with
   | none=>rw[hd]at g3;cases g3
   | some d=>
    rw[hd]at g3;injection g3 with g3
    rw[<-g3];have hv:=v2 i d p.2.1 hd (by simpa using g2);have qdX:Later W (E0 L) W { (E0 L)with K:=E'.K }:=⟨fun b o hb=>⟨hL b o hb,rfl⟩,rfl,rfl⟩;exact VD.tr (ez { (E0 L)with K:=E'.K } (qB ms E' ns) rfl) (hv.mono qdX))
  rw[z1,z2]at aN;have qbS:(((rec .ready none).params.zip va).foldl (fun tmps (p:Tmp×j6)=>tmps.setIfInBounds p.1 p.2) (rec .ready none).tmps)=(ps.toList.zip va.toList).foldl (fun t p=>t.setIfInBounds p.1 p.2) a.tmps:=by rw[hrec];exact Bh _ _ _
  refine⟨_,_,_,_,hy,?_⟩;have qch:=lD k _ st hkx HI Xr _ W ⟨_,aN⟩;rw[show (rec .ready none).assign=assign by rw[hrec],show(rec .ready none).body=body by rw[hrec]];refine roundIn_of_wpIn trivial ?_;rw[qbS];refine wpIn_mono qch ?_;rintro e a1 W2 ⟨s1,iD,E1,ef⟩;cases e with
  | normal=>
   have ga:=ef.wi.turn.loop h3 oh;refine⟨_,run_beginRound ga (by rw[hrec]),?_⟩;have hwb:=ef.wi.both (.loop { rec .ready none with state:=.busy }) h3 oh;have hub:Hush 0 W2 (W2.putObj (w.heap.size+1) (.loop { rec .ready none with state:=.busy })):=Hush.putObj _ (wM _) ga oh;have qdU:RelE ⟨W.putObj (w.heap.size+1) (.loop { rec .ready none with state:=.busy }),E'.K,vW ms (S k st).bx E' ns,(qB ms E' ns).ρ,NB,some (w.heap.size+1),W.heap.size,[]⟩ s1 E1 a1 (W2.putObj (w.heap.size+1) (.loop { rec .ready none with state:=.busy })):=by refine⟨hwb,fun t=>(ef.sl t).mono (hub.later ef.wi.kok),ef.size,?_,ef.small,ef.pl⟩;obtain⟨_,Ds2,q1,q2,q3⟩:=ef.defers;refine⟨oh,Ds2,q1,q2,fun D hD=>?_⟩;obtain⟨q4,q5⟩:=q3 D hD;have q6:W.heap.size<=D:=q4;exact⟨q6,(wX oa).trans q5⟩
   refine wpIn_mono (iD _ _ _ ⟨E1,qdU⟩) ?_;have lJ:(W.putObj (w.heap.size+1) (.loop { rec .ready none with state:=.busy })).heap[w.heap.size+1]? =some (.loop { rec .ready none with state:=.busy }):=jk qb8;have after: ∀(jump:Option Code) {s4:DS} {E4:Env} {a4:Act} {W4:j5},RelE ⟨W.putObj (w.heap.size+1) (.loop { rec .ready none with state:=.busy }),E'.K,vW ms (S k st).bx E' ns,(qB ms E' ns).ρ,NB,some (w.heap.size+1),W.heap.size,[]⟩ s4 E4 a4 W4->
     ∃W5,(Instr.endRound (w.heap.size+1) jump).run P W4= .ok (.bool jump.isNone) W5/\RelE X ((S k st).aftCallM ms ns none (.tup []) s4.bx) (ve ms E' E4 ns none) { a with defers:=X.base } W5/\
      W5.heap[w.heap.size+1]? =some (.loop (rec (if jump.isNone then .ready else .done) jump))/\(∀D∈w.heap.size::Ds,W5.heap[D]? =some (.deferred (some [])))/\
      (∀b o,E'.K b o->E4.K b o/\W5.cell? ⟨b,o,none⟩=W.cell? ⟨b,o,none⟩)/\Keep W1.heap.size L W W5:=by
    intro jump s4 E4 a4 W4 h5;have qb9:=h5.wi.turn.loop lJ oh;have qS:=run_endRound (P:=P) jump qb9;have P1:w.heap.size+1<W4.heap.size:=(wH.1 qb9).1;have he5:(.loop { ({ rec .ready none with state:=.busy }:Loop)with state:=if jump.isNone then .ready else .done,pending:=jump }:Obj)= .loop (rec (if jump.isNone then .ready else .done) jump):=by rw[hrec]
    rw[he5]at qS;have hw5:=(h5.wi.both (.loop (rec (if jump.isNone then .ready else .done) jump)) lJ oh).ro none (W.putObj (w.heap.size+1) (.loop (rec (if jump.isNone then .ready else .done) jump))).heap.size;simp only[mF]at hw5;have LF:Hush 0 W (W.putObj (w.heap.size+1) (.loop (rec (if jump.isNone then .ready else .done) jump))):=Hush.putObj _ (wM _) h3 oh;have hra:=Eb (h1.hush (a':={ a with defers:=X.base }) (Hush.putObj (.loop (rec (if jump.isNone then .ready else .done) jump)) oa h3 oh) rfl (nil _)) hw5 QC;have hu4:Hush 0 W4 (W4.putObj (w.heap.size+1) (.loop (rec (if jump.isNone then .ready else .done) jump))):=Hush.putObj _ (wM _) qb9 oh;have QE: ∀b o,E'.K b o->E4.K b o/\(W4.putObj (w.heap.size+1) (.loop (rec (if jump.isNone then .ready else .done) jump))).cell? ⟨b,o,none⟩=W.cell? ⟨b,o,none⟩:=fun b o hb=>by have k4:=h5.wi.kin b o hb;refine⟨k4,?_⟩;rw[((hu4.later h5.wi.kok).keep b o k4).2];have HL:=qP (h1.wi.kok b o hb);rw[h5.wi.turn.cell (by simpa using HL) (h5.wi.sep b o hb)];have qbQ:Hush 0 W (W.putObj (w.heap.size+1) (.loop { rec .ready none with state:=.busy })):=Hush.putObj _ (wM _) h3 oh;exact((qbQ.later h1.wi.kok).keep b o hb).2
    refine⟨_,qS,hra,jk P1,fun D hD=>?_,QE,?_,fun b o hb=>(QE b o (hL b o hb)).2,fun b ob qH hob hc=>?_,fun _=>hra.wi.kok.z⟩
    ·have qf:=nc D hD;refine(wX oa).trans (h5.wi.turn.loop ?_ oh);exact(wX oa).trans (h4 D hD)
    ·have:=h5.wi.turn.size;simpa using this
    ·have qH:b≠w.heap.size+1:=by omega
     refine(wX qH).trans (h5.wi.turn.loop ?_ hc);exact(wX qH).trans hob
   have uN: ∀{E4:Env} {W5:j5},(∀b o,E'.K b o->E4.K b o/\W5.cell? ⟨b,o,none⟩=W.cell? ⟨b,o,none⟩)->∀b o,E.K b o->(ve ms E' E4 ns none).K b o/\W5.cell? ⟨b,o,none⟩=W1.cell? ⟨b,o,none⟩:=fun h b o hb=>
    ⟨(h b o (h2 b o hb).1).1,(h b o (h2 b o hb).1).2.trans (h2 b o hb).2⟩
   have stop: ∀(c:Code) {s4:DS} {E4:Env} {a4:Act} {W4:j5},RelE ⟨W.putObj (w.heap.size+1) (.loop { rec .ready none with state:=.busy }),E'.K,vW ms (S k st).bx E' ns,(qB ms E' ns).ρ,NB,some (w.heap.size+1),W.heap.size,[]⟩ s4 E4 a4 W4->
     (∀a' W',Z1 X ((S k st).aftCallM ms ns none (.tup []) s4.bx) a' W'->c.wpIn ya 0 P (fun e a w=>∃s'',Q e s''/\Z1 X s'' a w) a' W')->
     ∃v w',(Instr.endRound (w.heap.size+1) (some c)).run P W4= .ok v w'/\∃b,Ending.returned v= .returned (.bool b)/\J (if b then some (k+1)else none) w' L/\Keep W1.heap.size L W w':=fun c {s4 E4 a4 W4} h5 hc=>by
    obtain⟨W5,g1,g2,g3,g4,g5,g6⟩:=after (some c) h5;exact⟨_,W5,g1,false,rfl,⟨c,_,_,g2,g3,g4,hc⟩,g6⟩
   rintro e a4 W4 ⟨s4,hq,E4,h5⟩;cases e with
   | normal=>
    obtain⟨W5,g1,g2,g3,g4,g5,g6⟩:=after none h5;refine⟨_,W5,g1,true,rfl,?_,g6⟩;obtain⟨st',hi',hsub⟩:=hq;obtain⟨E5,g7,g8⟩:=g2.sub hsub;exact⟨st',hi',E5,g7,fun b o hb=>g8 b o (g5 b o (hL b o hb)).1,fun b o hb=>⟨g8 b o (uN g5 b o hb).1,(uN g5 b o hb).2⟩,g3,g4⟩
   | ret=>exact stop .ret h5 fun a' W' hr=>wpIn_ret ⟨_,hq,hr⟩
   | exit id=>exact stop (.exit id) h5 fun a' W' hr=>wpIn_exit ⟨_,hq,hr⟩
   | goto t=>exact stop (.goto t) h5 fun a' W' hr=>wpIn_goto ⟨_,hq,hr⟩
   | panic ch=>exact hq.elim
   | outgrown=>exact hq.elim
  | exit id=>exact iD.elim
  | goto l=>exact iD.elim
  | ret=>exact iD.elim
  | panic ch=>exact iD.elim
  | outgrown=>exact iD.elim
 ·obtain⟨E',h1,h2⟩:=RelE.sub (a:={ a with defers:=X.base }) ⟨hE.wi,hE.sl,hE.size,DefOK.nil _ _ hE.defers.1,hE.small,hE.pl⟩ h0;exact⟨sD,hi0,E',h1.hush (iB.mono oa) rfl (nil _),h2,fun b o hb=>⟨h2 b o hb,rfl⟩,hL1,qco⟩
 ·rintro e W2 ⟨⟨v,rfl⟩,L,⟨st,hi,E',h1,_,h2,h3,h4⟩|⟨c,E',s',h1,h3,h4,h5⟩⟩
  ·exact⟨none,_,by have:=run_endLoop (P:=P) h3 (by rw[hrec];simp);rw[hrec]at this;exact this,S xs.length st,uM st hi,fin _ h1 h3 h4 _⟩
  ·exact⟨some c,_,by have:=run_endLoop (P:=P) h3 (by rw[hrec];simp);rw[hrec]at this;exact this,h5 _ _ (fin _ h1 h3 h4 _)⟩
end
structure Flat(m n:Nat)(s:DS)(K:qM)(a:Act)(w:j5):Prop where
 kok:KOk w K
 sl: ∀t,VD w (E0 K) (s.sl t) (a.tmps.getD t undef)
 size:a.tmps.size=s.n
 small:s.n<=NB
 mrk:n<=w.heap.size
 mn:m<=n
 defers: ∃Ds:List Nat,Ds.Nodup/\a.defers=Ds.map (fun D=>{ target:=.collected D,args:= #[] })/\∀D∈Ds,m<=D/\w.heap[D]? =some (.deferred (some []))
def Ext(w:j5)(K:qM)(w':j5)(K':qM):Prop:=∀b o,K b o->K' b o/\w'.cell? ⟨b,o,none⟩=w.cell? ⟨b,o,none⟩
def Ext.refl(w:j5)(K:qM):Ext w K w K:=fun _ _ h=>⟨h,rfl⟩
def Ext.trans{a b c:j5}{K L M:qM}(h:Ext a K b L)(k:Ext b L c M):Ext a K c M:=fun x o hx=>⟨(k x o (h x o hx).1).1,(k x o (h x o hx).1).2.trans (h x o hx).2⟩
def DS.flat(s:DS):DS:={ n:=s.n,sl:=fun t=>(s.sl t).tr eE,bx:=qA,pl:=false }
def DS.bare(s:DS):DS:={ n:=s.n,sl:=s.sl,bx:=qA,pl:=false }
def IW(P:Program)(m n:Nat)(J:Option Nat->j5->qM->Prop)(ro:Option Nat)(c:Code)(s:DS)(g:Option Nat)(Q:ah->DS->Option Nat->Prop):Prop:=
 ∀K a w,Flat m n s K a w->J g w K->c.wpIn (rd ro) 0 P (fun e a' w'=>∃s' g' K',Q e s' g'/\Flat m n s' K' a' w'/\J g' w' K'/\Ext w K w' K') a w
def DC(next:DS->Option Nat->Prop)(Q:ah->DS->Option Nat->Prop):ah->DS->Option Nat->Prop
 | .normal,s,g=>next s g
 | e,s,g=>Q e s g
def fY(id:Nat)(Q:ah->DS->Option Nat->Prop):ah->DS->Option Nat->Prop
 | .exit id',s,g=>if id'=id then Q .normal s g else Q (.exit id') s g
 | e,s,g=>Q e s g
section
variable {P:Program} {m n:Nat} {J:Option Nat->j5->qM->Prop} {s:DS} {g ro:Option Nat} {Q:ah->DS->Option Nat->Prop}
def eJ(h:Q .normal s g):IW P m n J ro .skip s g Q:=fun K _ w hf hj=>wpIn_skip ⟨s,g,K,h,hf,hj,Ext.refl _ _⟩
def Cc{id:Nat}(h:Q (.exit id) s g):IW P m n J ro (.exit id) s g Q:=fun K _ w hf hj=>wpIn_exit ⟨s,g,K,h,hf,hj,Ext.refl _ _⟩
def Hw(h:Q .ret s g):IW P m n J ro .ret s g Q:=fun K _ w hf hj=>wpIn_ret ⟨s,g,K,h,hf,hj,Ext.refl _ _⟩
def QP{x:Code}(h:IW P m n J ro x s g (DC (fun s' g'=>IW P m n J ro y s' g' Q) Q)):IW P m n J ro (.seq x y) s g Q:=by
 intro K a w hf hj;refine wpIn_seq (wpIn_mono (h K a w hf hj) ?_);rintro e a' w' ⟨s',g',K',h1,h2,h3,h4⟩;cases e with
 | normal=>exact wpIn_mono (h1 K' a' w' h2 h3) fun _ _ _ ⟨s2,g2,K2,q1,q2,q3,q4⟩=>⟨s2,g2,K2,q1,q2,q3,h4.trans q4⟩
 | _=>exact⟨s',g',K',h1,h2,h3,h4⟩
def dQ{id:Nat}(h:IW P m n J ro c s g (fY id Q)):IW P m n J ro (.block id c) s g Q:=by
 intro K a w hf hj;refine wpIn_block (wpIn_mono (h K a w hf hj) ?_);rintro e a' w' ⟨s',g',K',h1,h2⟩;cases e with
 | exit id'=>
  simp only[Exit.inBlock,fY]at h1 ⊢;split
  ·grind
  ·grind
 | _=>exact⟨s',g',K',h1,h2⟩
def Flat.rel{K:qM}(h:Flat m n s K a w)(ro:Option Nat):RelE ⟨w,K,fun _ _=>False,(E0 K).ρ,NB,ro,m,[]⟩ s.bare (E0 K) a w:=
 ⟨(BB w K h.kok).ro ro m,h.sl,h.size,⟨wu h.mn h.mrk,by simpa only[yG]using h.defers⟩,⟨h.small,wl _⟩,fun h=>(by cases h)⟩
def Flat.ev{K:qM}(h:Flat m n s K a w)(x:j9):VD w (E0 K) (s.ev x) (a.eval x):=(h.rel none).ev x
def ZP{c:j9}{x:Code}(hc:s.ev c= .one (.c (.lit (.bool t))))(ht:t=true->IW P m n J ro x s g Q)(hf:t=false->IW P m n J ro y s g Q):IW P m n J ro (.cond c x y) s g Q:=by intro K a w P8 hj;have hv:=P8.ev c;rw[hc]at hv;exact wpIn_cond_split hv.lit (fun h=>ht h K a w P8 hj) (fun h=>hf h K a w P8 hj)
def aO{K:qM}{a:Act}{w:j5}(hf:Flat m n s K a w)(hJ:lV n J)(hj:J g w K){ro:Option Nat}{s':DS}{a':Act}{w':j5}(h:Z1 ⟨w,K,fun _ _=>False,(E0 K).ρ,NB,ro,m,[]⟩ s' a' w'):
  ∃K',Flat m n s'.flat K' a' w'/\J g w' K'/\Ext w K w' K':=by
 obtain⟨E',h⟩:=h;have hb:=h.wi.turn.below;refine⟨E'.K,⟨h.wi.kok,fun t=>VD.tr (ez E' (E0 E'.K) rfl) (h.sl t),h.size,h.small.1,wu hf.mrk hb.size,hf.mn,by simpa only[yG]using h.defers.2⟩,?_,fun b o hk=>?_⟩
 ·refine hJ g w w' K E'.K hj ⟨hb.os,hb.tape,hb.output,hb.size,fun b qf=>hb.block b (jp qf hf.mrk),fun b arr e m hc=>hb.block b (wH.1 hc).1⟩ fun b o hk=>?_;rcases yD b w.heap.size with qf|dC
  ·exact .inl (h.wi.kold b o qf id hk)
  ·exact .inr ⟨dC,h.wi.kok b o hk⟩
 ·have hk':=h.wi.kin b o hk;exact⟨hk',hb.cell (p:=⟨b,o,none⟩) (qP (hf.kok b o hk))⟩
def Vn{Q':ah->DS->Prop}(hJ:lV n J)(h:DW P c s.bare Q')(hq: ∀e s',Q' e s'->Q e s'.flat g):IW P m n J ro c s g Q:=by intro K a w hf hj;refine wpIn_mono (h _ a w ⟨_,hf.rel ro⟩) ?_;rintro e a' w' ⟨s',h1,h2⟩;obtain⟨K',h3,h4,h5⟩:=aO hf hJ hj h2;exact⟨_,g,K',hq _ _ h1,h3,h4,h5⟩
def Zj(hJ:lV n J)(h:DW P c s.bare (fun e s'=>Q e s'.flat g)):IW P m n J ro c s g Q:=Vn hJ h fun _ _ h=>h
def DS.FSub(s s':DS):Prop:=s.n=s'.n/\∀t,s'.sl t= .any\/DLe (s.sl t) (s'.sl t)
def cX{s:DS}(hn:s.n=N)(h1:AllS s sls):s.FSub (kn N sls qA):=⟨hn,AllS.get h1⟩
def Flat.sub{K:qM}(h:Flat m n s K a w)(hs:s.FSub s'):Flat m n s' K a w:=
 ⟨h.kok,fun t=>by
  rcases hs.2 t with e|e
  ·rw[e];exact .any _
  ·exact e w (E0 K) _ (h.sl t),h.size.trans hs.1,hs.1▸h.small,h.mrk,h.mn,h.defers⟩
def qbw(hs:s.FSub s')(h:IW P m n J ro c s' g Q):IW P m n J ro c s g Q:=fun K a w hf hj=>h K a w (hf.sub hs) hj
def Cb{α:Type}{c:Code}(S:α->DS)(G:α->Option Nat)(Inv:α->Prop)(μ:α->Nat)(x0:α)(h0:s.FSub (S x0))(hg:g=G x0)(hi:Inv x0)
  (round: ∀x,Inv x->IW P m n J ro c (S x) (G x) (DC (fun s' g'=>∃x',Inv x'/\μ x'<μ x/\s'.FSub (S x')/\g'=G x') Q)):IW P m n J ro (.loop c) s g Q:=by
 intro K a w hf hj b k cs lE hb vd;have key: ∀q x,μ x=q->Inv x->∀K a w,Flat m n (S x) K a w->J (G x) w K->
   ∃e a' w',(∃s' g' K',Q e s' g'/\Flat m n s' K' a' w'/\J g' w' K'/\Ext w K w' K')/\ArrivesIn (Machine.fenced P (rd ro)) P (lone (b.atR a (.code c:: .inLoop c::k)) cs w) b k cs e a' w':=by
  intro q;induction q using Nat.strongRecOn with
  | _ q ih=>
   intro x hm hI K a w hf hj;obtain⟨e,a₁,w₁,⟨s₁,g₁,K₁,hq,hf₁,hj₁,he₁⟩,Qg⟩:=round x hI K a w hf hj b (.inLoop c::k) cs lE hb vd;cases e with
   | normal=>
    obtain⟨x',hI₁,qf,hsub,rfl⟩:=hq;obtain⟨e₂,a₂,w₂,⟨s₂,g₂,K₂,q1,q2,q3,q4⟩,harr₂⟩:=ih (μ x') (hm▸qf) x' rfl hI₁ K₁ a₁ w₁ (hf₁.sub hsub) hj₁;exact⟨e₂,a₂,w₂,⟨s₂,g₂,K₂,q1,q2,q3,he₁.trans q4⟩,.of_steps (StepsIn.trans Qg (.one (fenced_calm hb vd rfl) stepR_inLoop)) harr₂⟩
   | exit id=>exact⟨_,a₁,w₁,⟨s₁,g₁,K₁,hq,hf₁,hj₁,he₁⟩,.pass (x:=.inLoop c) rfl (fun _ _=>.inl oh) Qg⟩
   | goto l=>exact⟨_,a₁,w₁,⟨s₁,g₁,K₁,hq,hf₁,hj₁,he₁⟩,.pass (x:=.inLoop c) rfl (fun _ _=>.inl oh) Qg⟩
   | ret=>exact⟨_,a₁,w₁,⟨s₁,g₁,K₁,hq,hf₁,hj₁,he₁⟩,.pass (x:=.inLoop c) rfl (fun _ _=>.inl oh) Qg⟩
   | panic ch=>exact⟨_,a₁,w₁,⟨s₁,g₁,K₁,hq,hf₁,hj₁,he₁⟩,.pass (x:=.inLoop c) rfl (fun _ _=>.inl oh) Qg⟩
   | outgrown=>exact⟨_,a₁,w₁,⟨s₁,g₁,K₁,hq,hf₁,hj₁,he₁⟩,.pass (x:=.inLoop c) rfl (fun _ _=>.inl oh) Qg⟩
 obtain⟨e,a',w',hq,Qg⟩:=key _ x0 rfl hi K a w (hf.sub h0) (hg▸hj);exact⟨e,a',w',hq,.of_steps (.one (fenced_calm hb vd rfl) stepR_loop) Qg⟩
def lU(P:Program)(m n:Nat)(J:Option Nat->j5->qM->Prop)(l:Nat)(xs:List (List D)):Prop:=
 l<m/\∀(k:Nat) ds W L (va:Array j6),xs[k]? =some ds->J (some k) W L->n<=W.heap.size->va.size=ds.length->(∀(j:Nat) d v,ds[j]? =some d->va[j]? =some v->VD W (E0 L) d v)->
   YieldAt ya 0 P l va W fun e W'=>∃b,e= .returned (.bool b)/\J (if b then some (k+1)else none) W' L/\Keep m L W W'
def MV(P:Program)(ops:List aa)(l:Nat)(xs:List (List D))(o:aa)(s:DS)(g:Option Nat)(K:DS->Option Nat->Prop):Prop:=
 ∃t,vX ops s.bare o=some t/\(t=false->K (s.put o.dst (.tup [])) g)/\
  (t=true->∃f args vy k ds,o.op= .call { callee:=.value f,args:=args,argTypes:=vy }/\s.ev f= .one (.c (.lit (.func (.yield l) #[] #[])))/\g=some k/\xs[k]? =some ds/\DLeL (args.toList.map s.ev) ds/\
   ∀b:Bool,K (s.put o.dst (.one (.c (.lit (.bool b))))) (if b then some (k+1)else none))
def Flat.put{K:qM}{a:Act}{w w':j5}(h:Flat m n s K a w)(hl: ∀b o,K b o->w'.cell? ⟨b,o,none⟩=w.cell? ⟨b,o,none⟩)(vo:w.heap.size<=w'.heap.size)(hz:GSz w')
  (hD: ∀D:Nat,m<=D->w.heap[D]? =some (.deferred (some []))->w'.heap[D]? =some (.deferred (some []))) {dst:Option Nat} (hd: ∀d,dst=some d->d<s.n) {d:D} {v:j6} (hv:VD w' (E0 K) d v):Flat m n (s.put dst d) K (a.put dst v) w':=by
 have qdX:Later w (E0 K) w' (E0 K):=⟨fun b o hb=>⟨hb,hl b o hb⟩,rfl,rfl⟩;refine⟨h.kok.move hl hz,fun t=>?_,?_,by rw[zD];exact h.small,wu h.mrk vo,h.mn,?_⟩
 ·rw[Fi a dst v t (fun d he=>by rw[h.size];exact hd d he)];cases dst with
  | none=>simpa[DS.put]using (h.sl t).mono qdX
  | some d'=>
   by_cases he:t=d'
   ·subst he;simpa[DS.put]using hv
   ·have: ¬(some d'=some t):=by grind
    simp only[DS.put,j7 he,j7 this];exact(h.sl t).mono qdX
 ·rw[show (a.put dst v).tmps.size=a.tmps.size from by cases dst<;>simp[Act.put],h.size,zD]
 ·obtain⟨Ds,h1,h2,h3⟩:=h.defers;exact⟨Ds,h1,by rw[show (a.put dst v).defers=a.defers from by cases dst<;>rfl];exact h2,fun D hDs=>⟨(h3 D hDs).1,hD D (h3 D hDs).1 (h3 D hDs).2⟩⟩
def GI{ro:Option Nat}{l:Nat}{f:am}{tmps:Array j6}{assign body:Code}{R:Ending->j5->Prop}(h:RoundIn ya 0 P l f tmps assign body w R):RoundIn (rd ro) (0 - 1) P l f tmps assign body w R:=by
 cases ro with
 | none=>exact h
 | some l=>exact h
def ZG{Q':ah->Act->j5->Prop}{ops r:List aa}{X:Origin}{N:Nat}{K:DS->Prop}(hK: ∀s a w,s.n=N->K s->Z1 X s a w->wpListIn (rd X.ro) 0 P ops.toArray Q' r a w): ∀(l:List aa) (s:DS) (a:Act) (w:j5),zM l N=true->s.n=N->Z1 X s a w->
  Qb P ops l s K->wpListIn (rd X.ro) 0 P ops.toArray Q' (l++r) a w
 | [],s,a,w,_,hn,hr,h=>hK s a w hn h hr
 | o::l,s,a,w,hb,hn,hr,h=>by
  obtain⟨h0,h1,h2⟩:=Qu hb;refine wpListIn_step fun K' hK'=>?_;simp only[Qb,vc]at h;split at h
  ·rename_i t ht;rw[zn ht hr];split at h
   ·rename_i h3;rw[ae h3];refine zV h0 (yL ?_ (h (fun d hd=>by rw[hn];exact h1 d hd) X a w hr Q'));rintro a' w' ⟨s',⟨hn',hs'⟩,hr'⟩;exact hK' _ _ (ZG hK l s' a' w' h2 (hn'.trans hn) hr' hs')
   ·rename_i h3;rw[j7 h3];refine⟨fun f _=>rv X.ro f,?_⟩;exact hK' _ _ (ZG hK l _ _ w h2 (by rw[zD];exact hn) (eC hr (fun d hd=>by rw[hn];exact h1 d hd)) h)
  ·grind
def Qe{l':List aa}(h:zM l N=true)(hs: ∀x∈l',x∈l):zM l' N=true:=
 wZ.2 fun x hx=>wZ.1 h x (hs x hx)
def MU{l:Nat}{xs:List (List D)}(hY:lU P m n J l xs){ops r:List aa}{o:aa}{N:Nat}{ro:Option Nat}{Kp:DS->Option Nat->Prop}{Q':ah->Act->j5->Prop}{K0:qM}{w0:j5}
  (hK: ∀s g K a w,s.n=N->Kp s g->Flat m n s K a w->J g w K->Ext w0 K0 w K->wpListIn (rd ro) 0 P ops.toArray Q' r a w) {K:qM} {a:Act} {w:j5} (hb:zM [o] N=true) (hn:s.n=N) (hf:Flat m n s K a w) (hj:J g w K) (he:Ext w0 K0 w K)
  (h:MV P ops l xs o s g Kp):wpListIn (rd ro) 0 P ops.toArray Q' (o::r) a w:=by
 obtain⟨h0,h1,_⟩:=Qu hb;have hd: ∀d,o.dst=some d->d<s.n:=og;refine wpListIn_step fun K' hK'=>?_;obtain⟨t,ht,hfa,htr⟩:=h;have Qk:=hf.rel ro;rw[zn ht ⟨_,Qk⟩];cases t with
 | false=>
  simp only[yq,ap];refine⟨fun f _=>rv ro f,hK' _ _ (hK _ g K _ w (by rw[zD];exact hn) (hfa rfl) (hf.put (fun _ _ _=>rfl) (wl _) hf.kok.z (fun _ _ h=>h) hd ?_) hj he)⟩;exact .tup [] #[] rfl (fun j d v h1 _=>by simp at h1)
 | true=>
  simp only[an];obtain⟨f,args,vy,k,ds,ho,mZ,rfl,hx,vh,fz⟩:=htr rfl;have hv:=hf.ev f;rw[mZ]at hv;have hfe:a.eval f= .func (.yield l) #[] #[]:=hv.lit;obtain⟨vG,lH⟩:=vh.get;obtain⟨fn,tmps,assign,body,hy,hR⟩:=hY.2 k ds w K (args.map a.eval) hx hj hf.mrk (by rw[<-vG];simp) (fun j d v g1 g2=>by
   obtain⟨d0,g3,g4⟩:=lH j d g1;refine g4 w _ v ?_;rw[wh]at g3;rw[Array.getElem?_map]at g2;cases hc:args[j]? with
   | none=>grind
   | some x=>
    rw[Array.getElem?_toList]at g3;rw[hc]at g2 g3;injection g2 with g2;injection g3 with g3
    rw[<-g2,<-g3];exact hf.ev x)
  have qS:(execOp a.eval o).run P w= .ok (.round l fn tmps assign body) w:=by
   unfold execOp;simp only[ho,wq];have dR:(resolve a.eval { callee:=.value f,args:=args,argTypes:=vy } o.type).run P w= .ok { target:=.fn (.yield l) #[],args:=args.map a.eval } w:=by simp[resolve,hfe,Deferred.ofValue]
   rw[dR];simp only[wj,invoke];exact hy
  refine⟨fun f _=>rv ro f,?_⟩;rw[Ee,Oper.semAt_eq ro _ o h0,qS,Oper.uponIn_round];refine⟨fun e=>(by rw[tP]at e;cases e),(GI hR).mono ?_⟩;rintro e W' ⟨b,rfl,q1,q2⟩;have hln:=hY.1;exact hK' _ _ (hK _ _ K _ W' (by rw[zD];exact hn) (fz b) (hf.put q2.cells q2.size (q2.z hf.kok.z) (fun D hD hh=>q2.others D _ hD hh oh) hd (.one _ _ (.c _ _ (.lit _ rfl)))) q1
   (he.trans fun b o hb=>⟨hb,q2.cells b o hb⟩))
def o0(hJ:lV n J){l:Nat}{xs:List (List D)}(hY:lU P m n J l xs){id:Nat}{ops:List aa}(i:Nat){o:aa}(ho:ops[i]? =some o)(hb:zM ops s.n=true)
  (h:wk P (ops.map (·.dst)) (bq (ops.take i)) s.bare fun s1=>MV P ops l xs o s1.flat g fun s2 g2=>wk P (ops.map (·.dst)) (bq (ops.drop (i+1))) s2.bare fun s3=>Q .normal s3.flat g2):IW P m n J ro (.region id ops.toArray false) s g Q:=by
 intro K a w hf hj;have hi:i<ops.length:=og;have XZ:ops=ops.take i++(o::ops.drop (i+1)):=by have:o=ops[i]:=og;rw[this,<-wP hi,yf]
 have HG:o∈ops:=og;refine wpIn_region_lit ?_
 conv=>arg 6;rw[XZ]
 refine ZG (X:=⟨w,K,fun _ _=>False,(E0 K).ρ,NB,ro,m,[]⟩) (N:=s.n) (fun s1 a1 w1 pj iD ef=>?_) (ops.take i) s.bare a w (Qe hb fun x hx=>yW hx) rfl ⟨_,hf.rel ro⟩ (zA _ _ h);obtain⟨K1,q1,q2,q3⟩:=aO hf hJ hj ef;refine MU (s:=s1.flat) (N:=s.n) (w0:=w) (K0:=K) hY (fun s2 g2 K2 a2 w2 MJ iC VQ HH he2=>?_) (Qe hb fun x hx=>by simp at hx;exact hx▸HG) pj q1 q2 q3 iD;have:=ZG (X:=⟨w2,K2,fun _ _=>False,(E0 K2).ρ,NB,ro,m,[]⟩) (N:=s.n) (r:= []) (Q':=fun e a' w'=>∃s' g' K',Q e s' g'/\Flat m n s' K' a' w'/\J g' w' K'/\Ext w K w' K') (fun s3 a3 w3 _ hs3 hr3=>?_) (ops.drop (i+1)) s2.bare a2 w2 (Qe hb fun x hx=>y5 hx) MJ ⟨_,VQ.rel ro⟩ (zA _ _ iC)
 ·grind
 ·obtain⟨K3,p1,p2,p3⟩:=aO VQ hJ HH hr3;exact wpListIn_nil ⟨_,g2,K3,hs3,p1,p2,he2.trans p3⟩
def Jh(N:Nat):ah->DS->Option Nat->Prop
 | .normal,_,g| .ret,_,g=>g=some N\/g=none
 | _,_,_=>False
def la{f:am}{fn:Func}{c:Code}{caps:List D}{xs:List (List D)}(hp:Program.plainF P f=true)(hf:P.funcs[f]? =some fn)(hb:fn.body=some c)(dR:fn.results.toList= [])(hn:caps.length+1<=fn.ntmps)(hN:fn.ntmps<=NB)
  (h: ∀(n l:Nat) (J:Option Nat->j5->qM->Prop),lV n J->lU P n n J l xs->IW P n n J none c (zZ fn.ntmps (.one (.c (.lit (.func (.yield l) #[] #[])))::caps) qA) (some 0) (Jh xs.length)):It P f caps xs:=by
 refine⟨hp,fun w K vs hk hl hv l J hlw hJ hY h0=>?_⟩;refine callsIn_of_wp_marks hf hb trivial ?_;have hflat:Flat w.heap.size w.heap.size (zZ fn.ntmps (.one (.c (.lit (.func (.yield l) #[] #[])))::caps) qA) K { tmps:=(#[Value.func (.yield l) #[] #[]]++vs)++yg (fn.ntmps - (#[Value.func (.yield l) #[] #[]]++vs).size) undef,defers:= [] } w:=by
  refine⟨hk,fun t=>?_,?_,hN,wl _,wl _,⟨[],.nil,rfl,fun _ h=>by cases h⟩⟩
  ·simp only[zZ];cases t with
   | zero=>
    have h3:((#[Value.func (.yield l) #[] #[]]++vs)++yg (fn.ntmps - (#[Value.func (.yield l) #[] #[]]++vs).size) undef).getD 0 undef= .func (.yield l) #[] #[]:=by simp[jP]
    rw[h3];exact .one _ _ (.c _ _ (.lit _ rfl))
   | succ t=>
    by_cases ht:t<caps.length
    ·have h1:caps[t]? =some (caps.getD t .any):=by grind
     have h2:vs[t]? =some (vs[t]' oa):=oh;have h3:((#[Value.func (.yield l) #[] #[]]++vs)++yg (fn.ntmps - (#[Value.func (.yield l) #[] #[]]++vs).size) undef).getD (t+1) undef=vs[t]' oa:=by have:t<vs.size:=oa;simp[jP,this]
     rw[h3];simpa using hv t _ _ h1 h2
    ·have:(D.one (.c (.lit (.func (.yield l) #[] #[])))::caps).getD (t+1) .any= .any:=by grind
     rw[this];exact .any _
  ·simp[zZ];omega
 refine wpIn_mono (h w.heap.size l J hJ ⟨hlw,hY⟩ K _ w hflat h0) ?_;rintro e a' w' ⟨s',g',K',hq,hf',hj',_⟩;have key: ∀(Ds:List Nat) (w':j5),Ds.Nodup->J g' w' K'->(∀D∈Ds,w.heap.size<=D/\w'.heap[D]? =some (.deferred (some [])))->(g'=some xs.length\/g'=none)->
   LeavesInM ya 0 P fn a'.tmps (fun e W'=>(∃v,e= .returned v)/\∃L,J (some xs.length) W' L\/J none W' L) (Ds.map (fun D=>{ target:=.collected D,args:= #[] })) .returning w':=by
  intro Ds;induction Ds with
  | nil=>
   intro w' _ hj _ hg;refine⟨.tuple #[],?_,⟨_,rfl⟩,K',?_⟩
   ·rw[tI];have:fn.results= #[]:=og;rw[this];simp
   ·grind
  | cons D Ds ih=>
   intro w' rH hj hD hg;obtain⟨h1,h2⟩:=jE.1 rH;obtain⟨h3,h4⟩:=hD D oh;refine⟨oh,.inl ⟨D,_,rfl,run_takeDeferred h4,ih _ h2 (hJ _ _ _ K' K' hj (Hush.putObj _ h3 h4 oh) fun _ _ h=>.inl h) (fun D' hD'=>?_) hg⟩⟩;obtain⟨g1,g2⟩:=hD D' (by simp[hD']);exact⟨g1,(wX (show D'≠D from fun e=>h1 (by rw[<-e];exact hD'))).trans g2⟩
 obtain⟨Ds,rH,hds,hD⟩:=hf'.defers;have iE:Jh xs.length e s' g'->e= .normal\/e= .ret->LeavesInM ya 0 P fn a'.tmps (fun e W'=>(∃v,e= .returned v)/\∃L,J (some xs.length) W' L\/J none W' L) a'.defers .returning w':=fun hq he=>by rw[hds];refine key Ds w' rH hj' hD ?_;rcases he with rfl|rfl<;>exact hq
 cases e with
 | normal=>exact iE hq (.inl rfl)
 | ret=>exact iE hq (.inr rfl)
 | _=>exact hq.elim
@[go_sem] theorem TW{next:DS->Option Nat->Prop}{s:DS}{g:Option Nat}:DC next Q .normal s g=next s g:=rfl
@[go_sem] theorem qdG{next:DS->Option Nat->Prop}{s:DS}{g:Option Nat}:DC next Q .ret s g=Q .ret s g:=rfl
@[go_sem] theorem qal{next:DS->Option Nat->Prop}{s:DS}{g:Option Nat}:DC next Q (.exit i) s g=Q (.exit i) s g:=rfl
@[go_sem] theorem ME{s:DS}{g:Option Nat}:fY i Q .normal s g=Q .normal s g:=rfl
@[go_sem] theorem Vr{s:DS}{g:Option Nat}:fY i Q .ret s g=Q .ret s g:=rfl
@[go_sem] theorem S8{s:DS}{g:Option Nat}:fY i Q (.exit j) s g=if j=i then Q .normal s g else Q (.exit j) s g:=rfl
attribute [go_sem] DS.flat DS.bare eE
end
section
variable {P:Program} {m n:Nat} {J:Option Nat->j5->qM->Prop} {s:DS} {Q:ah->DS->Option Nat->Prop}
def Hush.ext{q:Nat}(c:Hush q w w'){K K':qM}(hk:KOk w K)(hK: ∀b o,K b o->K' b o):Ext w K w' K':=fun b o hb=>by obtain⟨arr,e,m,h⟩:=iL (hk b o hb);exact⟨hK b o hb,World.cell?_of_block (w:=w) (a:=⟨b,o,none⟩) (c.cells b arr e m h)⟩
end
def TY(n sz:Nat)(cs:List (List C))(js:Rows)(qZ:0<sz)(hn:s.bx n=some (cs.map (wt T.c)++js))(hz: ∀r∈cs,r.length=sz):s.Sub (s.frz n sz cs):=
 fun _ _ _ ⟨_,hE⟩=>hE.frz qZ hn hz
def QK(n:Nat)(cs:List C)(qZ:0<cs.length)(hn:s.bx n=some [cs.map T.c]):s.Sub (s.frz n cs.length [cs]):=
 TY n cs.length [cs] [] qZ (by simpa using hn) oh
def Q3(n:Nat)(cs:List C)(qZ:0<cs.length)(hn:s.bx n=some [cs.map T.c])(h:DW P c (s.frz n cs.length [cs]) Q):DW P c s Q:=
 qn (QK n cs qZ hn) h
theorem Ro(s:DS)(n sz:Nat)(cs:List (List C))(t:Nat):(s.frz n sz cs).sl t=(s.sl t).frz n sz cs:=rfl
theorem Rq(s:DS)(n sz:Nat)(cs:List (List C))(k:Nat):(s.frz n sz cs).bx k=if k=n then none else(s.bx k).map (wt (T.frzAll n sz cs)):=rfl
section
variable {P:Program} {m n:Nat} {J:Option Nat->j5->qM->Prop} {s:DS} {g ro:Option Nat} {Q:ah->DS->Option Nat->Prop}
def Pu(hJ:lV n J)(h:DW P c s.bare (fun e s'=>∃s2,s'.Sub s2/\Q e s2.flat g)):IW P m n J ro c s g Q:=
 Zj hJ (Cz h)
end
def Kb(m sz:Nat)(hm:s.bx m=some [[.c (.lit (.slice none 0 0))]]):s.Sub (s.setBx m (some [[.ex sz []]])):=
 sy m hm rfl fun i r r' h1 h2=>by
  cases i with
  | succ i=>grind
  | zero=>
   simp at h1 h2;subst h1;subst h2;refine⟨rfl,fun w E j t t' v h1 h2 hv=>?_⟩;cases j with
   | succ j=>grind
   | zero=>
    simp at h1 h2;subst h1;subst h2;cases hv with|c c v hv=>cases hv with|lit v h=>exact .ex sz [] _ (.nil sz) ⟨none,0,rfl⟩
def eU{P:Program}{s:DS}{Q:ah->DS->Prop}{c:Code}{α:Type}(xs:List α)(S:Nat->DS)(qi:xs.length<=maxLen)(h0:s.Sub (S 0))
  (body: ∀k x,xs[k]? =some x->k<xs.length->x∈xs->xs.take (k+1)=xs.take k++ [x]->decide ((k:Int)<(xs.length:Int))=true->aD .i64 ((k:Int)+1)=((k+1:Nat):Int)->
   DW P c (S k) (vP (fun s'=>s'.Sub (S (k+1))) Q))
  (done:decide ((xs.length:Int)<(xs.length:Int))=false->DW P c (S xs.length) (vP (fun _=>False) Q)):DW P (.loop c) s Q:=
 u0 xs (fun k (_:Unit)=>S k) (fun _ _=>True) () qi h0 trivial (fun k x _ h1 h2 h3 h4 h5 h6 _=>(body k x h1 h2 h3 h4 h5 h6).mono fun e s' h=>by
  cases e with
  | normal=>grind
  | _=>exact h) (fun _ h _=>done h)
def vq{P:Program}{s:DS}{Q:ah->DS->Prop}{c:Code}{α:Type}(xs:List α)(S:Nat->DS)(Inv:Nat->Prop)(qi:xs.length<=maxLen)(h0:s.Sub (S 0))(hi0:Inv 0)
  (body: ∀k x,xs[k]? =some x->k<xs.length->x∈xs->xs.take (k+1)=xs.take k++ [x]->decide ((k:Int)<(xs.length:Int))=true->aD .i64 ((k:Int)+1)=((k+1:Nat):Int)->Inv k->
   DW P c (S k) (vP (fun s'=>Inv (k+1)/\s'.Sub (S (k+1))) Q))
  (done:decide ((xs.length:Int)<(xs.length:Int))=false->Inv xs.length->DW P c (S xs.length) (vP (fun _=>False) Q)):DW P (.loop c) s Q:=
 u0 xs (fun k (_:Unit)=>S k) (fun k _=>Inv k) () qi h0 hi0 (fun k x _ h1 h2 h3 h4 h5 h6 h7=>(body k x h1 h2 h3 h4 h5 h6 h7).mono fun e s' h=>by
  cases e with
  | normal=>grind
  | _=>exact h) (fun _ h h7=>done h h7)
def CallC.sub{P:Program}{s s':DS}{f:j9}{args:List j9}{vy:Array j8}{dst:Option Nat}{ty:j8}{pos:String}{aft:Array Edge}{F:D}{A:List D}{ds:List (Option Nat)}{l:List (Mode×aa)}{K:DS->Prop}
  (hs:s.Sub s') (hn:s'.n=s.n) (h:CallC .step P ⟨dst,.call ⟨.value f,args.toArray,vy⟩,ty,pos,aft,none⟩ (s'.ev f) (args.map s'.ev) s' dst ds l K):
  CallC .step P ⟨dst,.call ⟨.value f,args.toArray,vy⟩,ty,pos,aft,none⟩ F A s dst ds l K:=by
 have h1:Step P ⟨dst,.call ⟨.value f,args.toArray,vy⟩,ty,pos,aft,none⟩ s' fun s'=>wk P ds l s' K:=by
  have:MA .step P ⟨dst,.call ⟨.value f,args.toArray,vy⟩,ty,pos,aft,none⟩ s' fun s'=>wk P ds l s' K:=by unfold CallC at h;simpa[MA]using h
  cases ud this with
  | step h=>exact h
 refine CallC.step fun hd X a w hr Q=>?_;refine yL ?_ (h1 (fun d hd'=>by rw[hn];exact hd d hd') X a w (hs X a w hr) Q);rintro a' w' ⟨s2,⟨g1,g2⟩,g3⟩;exact⟨s2,⟨g1.trans hn,g2⟩,g3⟩
def CallC.frz{P:Program}{s:DS}{f:j9}{args:List j9}{vy:Array j8}{dst:Option Nat}{ty:j8}{pos:String}{aft:Array Edge}{F:D}{A:List D}{ds:List (Option Nat)}{l:List (Mode×aa)}{K:DS->Prop}
  (n:Nat) (cs:List C) (qZ:0<cs.length) (hn:s.bx n=some [cs.map T.c]) (h:CallC .step P ⟨dst,.call ⟨.value f,args.toArray,vy⟩,ty,pos,aft,none⟩ ((s.frz n cs.length [cs]).ev f) (args.map (s.frz n cs.length [cs]).ev) (s.frz n cs.length [cs]) dst ds l K):
  CallC .step P ⟨dst,.call ⟨.value f,args.toArray,vy⟩,ty,pos,aft,none⟩ F A s dst ds l K:=
 CallC.sub (QK n cs qZ hn) rfl h
def ln(k:Nat):zt zi k=False:=aC (Qt k)
def xr(bx:vT)(ns:List Nat)(k:Nat):vv zi bx ns k=if NB<=k/\k - NB∈ns then(bx (k - NB)).map (Rows.tr (ZK zi ns))else none:=by unfold vv;simp only[ln,ap]
def nA(bx H':vT)(ns:List Nat)(m:Option Nat)(k:Nat):q9 zi bx H' ns m k=
  if m=some k then(H' 0).map (Rows.tr (il zi ns m))else if k∈ns then(H' (k+NB)).map (Rows.tr (il zi ns m))else(bx k).map (Rows.tr (bQ zi ns m)):=by
 unfold q9;simp only[ln,ap]
def qfe(a k:Nat)(h:k<100000):(a+NB=k)=False:=aC (by have:=qX;omega)
def qbc(a k:Nat)(h:k<100000):(k=a+NB)=False:=aC (by have:=qX;omega)
theorem qfg(a:Nat):(NB<=a+NB)=True:=oh
def qbb(k:Nat)(h:k<100000):(NB<=k)=False:=aC (by have:=qX;omega)
theorem qba(a:Nat):a+NB - NB=a:=oa
theorem qbd(a b:Nat):(a+NB=b+NB)=(a=b):=oh
theorem xS(ms:Nat->Bool)(ns:List Nat)(s:DS)(N:DS->Prop)(Q:ah->DS->Prop)(t:DS):lf ms ns s N Q .normal t=N (s.aftCallM ms ns none (.tup []) t.bx):=rfl
theorem GH(ms:Nat->Bool)(ns:List Nat)(s:DS)(N:DS->Prop)(Q:ah->DS->Prop)(t:DS):lf ms ns s N Q .ret t=Q .ret (s.aftCallM ms ns none (.tup []) t.bx):=rfl
theorem D5(ms:Nat->Bool)(ns:List Nat)(s:DS)(N:DS->Prop)(Q:ah->DS->Prop)(t:DS)(i:Nat):lf ms ns s N Q (.exit i) t=Q (.exit i) (s.aftCallM ms ns none (.tup []) t.bx):=rfl
theorem N7(ms:Nat->Bool)(s:DS)(ns:List Nat)(t:Nat):(s.round0 ms ns).sl t=(s.sl t).tr (ZK ms ns):=rfl
theorem N8(ms:Nat->Bool)(s:DS)(ns:List Nat)(t:Nat):(s.round0 ms ns).bx t=vv ms s.bx ns t:=rfl
def vJ:Nat->Bool:=fun k=>k==1000
def cT(k:Nat):zt vJ k=(k=1000):=by
 have:=qX;apply propext;simp only[zt,vJ,aq];constructor
 ·omega
 ·omega
def sj(bx:vT)(ns:List Nat)(k:Nat):vv vJ bx ns k=if NB<=k/\k - NB∈ns then(bx (k - NB)).map (Rows.tr (ZK vJ ns))else if k=1000 then(bx k).map (Rows.tr (ZK vJ ns))else none:=by unfold vv;simp only[cT]
def lR(bx H':vT)(ns:List Nat)(m:Option Nat)(k:Nat):q9 vJ bx H' ns m k=
  if m=some k then(H' 0).map (Rows.tr (il vJ ns m))else if k∈ns then(H' (k+NB)).map (Rows.tr (il vJ ns m))else if k=1000 then(H' k).map (Rows.tr (il vJ ns m))else(bx k).map (Rows.tr (bQ vJ ns m)):=by
 unfold q9;simp only[cT]
attribute [go_sem] cT sj lR
theorem Oy(s:DS):s.puts []=s:=rfl
theorem KI(s:DS)(u:Nat)(d:D)(l:List (Nat×D)):s.puts ((u,d)::l)=(s.put (some u) d).puts l:=rfl
theorem GG(ms:Nat->Bool)(s:DS)(ns ps:List Nat)(ds:List D):s.round ms ns ps ds=(s.round0 ms ns).puts (ps.zip (ds.map (D.tr eE))):=rfl
attribute [go_sem] ln xr nA qfe qbc qfg qbb qba qbd xS GH D5 N7 N8 GG Oy KI Nat.add_eq_zero_iff List.mem_cons
def Yw{P:Program}{s:DS}{Q:ah->DS->Prop}{g:j9}{ps:List Tmp}{assign body:Code}{gf:am}{caps:List T}{xs:List (List D)}{σ:Type}(N:Nat)(ms:Nat->Bool)(ns:List Nat)(S:Nat->σ->DS)(Inv:Nat->σ->Prop)(sD:σ)(hi0:Inv 0 sD)(hsn:s.n=N)(Db:s.pl=true)
  (hd:(decide (N<=1000)&&(ps.all fun p=>decide (p<N))&&ns.all fun k=>decide (k<1000))=true) (hg:(s.ev g).asFn=some (gf,caps)) (Cl:It P gf (caps.map fun t=>.one (.c t.cl)) xs) (h0:s.Sub (S 0 sD)) (hn: ∀k st,(S k st).n=N) (VA: ∀ds∈xs,ds.length=ps.length)
  (lD: ∀k ds st,xs[k]? =some ds->Inv k st->DW P assign ((S k st).round ms ns ps ds) (vP (fun s1=>DW P body s1 (lf ms ns (S k st) (fun s'=>∃st',Inv (k+1) st'/\s'.Sub (S (k+1) st')) Q)) (fun _ _=>False)))
  (uM: ∀st,Inv xs.length st->Q .normal (S xs.length st)):DW P (.rangeFunc g ps.toArray assign body) s Q:=by
 simp only[we,aj,wZ]at hd;subst hsn;exact Cy ms ns S Inv sD hi0 Db hg Cl h0 hn hd.1.1 (by simpa using hd.1.2) (by simpa using VA) ⟨fun n hn h=>by have:=hd.2 n hn;have:=h.1;omega,fun x h=>by cases h⟩ (by simpa using lD) uM
def HY{P:Program}{s:DS}{Q:ah->DS->Prop}{g:j9}{ps:List Tmp}{assign body:Code}{gf:am}{caps:List T}{xs:List (List D)}{σ:Type}(N:Nat)(ms:Nat->Bool)(ns:List Nat)(S:Nat->σ->DS)(Inv:Nat->σ->Prop)(sD:σ)(hi0:Inv 0 sD)(hsn:s.n=N)(Db:s.pl=true)
  (hd:(decide (N<=1000)&&(ps.all fun p=>decide (p<N))&&ns.all fun k=>decide (k<1000))=true) (hg:(s.ev g).asFn=some (gf,caps)) (Cl:It P gf (caps.map fun t=>.one (.c t.cl)) xs) (h0:s.Sub (S 0 sD)) (hn: ∀k st,(S k st).n=N) (VA: ∀ds∈xs,ds.length=ps.length)
  (lD: ∀k ds st,xs[k]? =some ds->Inv k st->DW P assign ((S k st).round ms ns ps ds) (vP (fun s1=>DW P body s1 (fun e t=>∃t2,t.Sub t2/\lf ms ns (S k st) (fun s'=>∃st',Inv (k+1) st'/\s'.Sub (S (k+1) st')) Q e t2)) (fun _ _=>False)))
  (uM: ∀st,Inv xs.length st->Q .normal (S xs.length st)):DW P (.rangeFunc g ps.toArray assign body) s Q:=by
 refine Yw N ms ns S Inv sD hi0 hsn Db hd hg Cl h0 hn VA (fun k ds st h1 h2=>(lD k ds st h1 h2).mono fun e t ht=>?_) uM;cases e with
 | normal=>exact Cz ht
 | _=>exact ht
attribute [go_sem] Ro Rq D.frz D.frzAll T.frz T.frzAll Rr V5
attribute [go_sem] Option.pure_def Option.bind_eq_bind
attribute [go_sem] List.zip_cons_cons List.zip_nil_left
open Go.Sort
def qQ(xs:List Int):Rows:=xs.map fun x=> [T.c (.lit (.int .i64 x))]
def o9{xs:List Int}{x:Int}(h:xs[i]? =some x):(qQ xs)[i]? =some [T.c (.lit (.int .i64 x))]:=by simp[qQ,h]
def WI.rel{X:Origin}{H:vT}(h:WI X w E H)(hm:X.mrk<=X.w.heap.size)(hB:NB<=X.B):RelE X { n:=0,sl:=fun _=>.any,bx:=H,pl:=false } E { tmps:= #[],defers:=X.base } w:=
 ⟨h,fun _=>.any _,rfl,DefOK.nil _ _ hm,⟨wM _,hB⟩,fun h=>by cases h⟩
def qay{P:Program}{f:am}(hp:Program.plainF P f=true)
  (hs: ∀(Ij off cap:Nat) (zs:List Int) (w:j5),Holds (Value.int .i64) w Ij off zs.toArray->Ij<w.heap.size->zs.length<4611686018427387904->
   Calls P f #[.slice (some ⟨Ij,off,none⟩) zs.length cap] w fun e w'=>e= .returned (.tuple #[])/\∃n os,w'=grow (putRow (Value.int .i64) (jx w n) Ij off (zs.mergeSort fun x y=>decide (x<=y)).toArray) os)
  (PY: ∀(p:Option Addr) (cap:Nat) (w:j5),Calls P f #[.slice p 0 cap] w fun e w'=>e= .returned (.tuple #[])/\w'=w)
  (q cap:Nat) (H:vT) (xs:List Int) (js:Rows) (hq:H q=some (qQ xs++js)) (E8:RowsSz 1 js) (hl:xs.length<4611686018427387904):
  ECalls P f [.one (.ba q 1 0 xs.length cap)] H (fun r H'=>r= .tup []/\H'=fun k=>if k=q then some (qQ (xs.mergeSort fun x y=>decide (x<=y))++js)else H k):=by
 refine⟨hp,fun w E F vs aM vo hv=>?_⟩;obtain⟨v,rfl⟩: ∃v,vs= #[v]:=by
  have:vs.size=1:=vo;refine⟨vs[0],?_⟩;apply Array.ext
  ·omega
  ·grind
 have Jn:=hv 0 _ v rfl rfl;by_cases h0:xs= []
 ·subst h0;have LD: ∃p c,v= .slice p 0 c:=by
   cases Jn with|one t v Jn=>cases Jn with
    | ba n sz i len cap h hm=>exact⟨_,_,rfl⟩
    | bz n sz i A=>exact⟨_,_,rfl⟩
  obtain⟨p,c,rfl⟩:=LD;refine(PY p c w).mono ?_;rintro e w' ⟨rfl,rfl⟩;refine⟨_,E,.tup [],_,rfl,⟨rfl,rfl⟩,?_,.tup [] #[] rfl (fun j d v h1 _=>by simp at h1)⟩;have:(fun k=>if k=q then some (qQ ([].mergeSort fun x y=>decide (x<=y))++js)else H k)=H:=by
   funext k;split
   ·simp_all
   ·rfl
  rw[this];exact aM
 ·have LD: ∃c,v= .slice (some ⟨E.ρ q,0,none⟩) xs.length c:=by
   have qZ:0<xs.length:=og;generalize vh:xs.length=len at Jn qZ;cases Jn with|one t v Jn=>cases Jn with
    | ba n sz i len cap h hm=>exact⟨cap,oh⟩
    | bz n sz i A=>omega
  obtain⟨c,rfl⟩:=LD;have qH:qQ xs++js≠ []:=by simp[qQ,h0]
  obtain⟨g1,g2,g3⟩:=aM.boxes q _ hq qH;obtain⟨arr,e,k1,k2⟩:=g2.rowsIs;obtain⟨sz,k3⟩:=k2.lst;have HD:sz=1:=by
   have hm: ∃r∈qQ xs,r.length=1:=by
    cases xs with
    | nil=>grind
    | cons x xs=>exact⟨_,List.mem_cons_self,rfl⟩
   obtain⟨r,hr,ef⟩:=hm;rw[<-k3.row r (jH _ hr)];exact ef
  subst HD;have vG:arr.size=xs.length+js.length:=by have:=k3.len;simp[qQ]at this;exact this
  have Qg: ∀j x,xs[j]? =some x->arr[j]? =some (Value.int .i64 x):=fun j x hj=>by have A8:j<xs.length:=(wg.1 hj).1;have hja:j<arr.size:=oa;have:=k3.is j 0 [T.c (.lit (.int .i64 x))] _ arr[j] (by rw[wU (by simpa[qQ]using A8)];exact o9 hj) rfl (by simp[hja]);rw[wY hja];have hd:VD w E (.one (.c (.lit (.int .i64 x)))) arr[j]:=.one _ _ this;rw[hd.lit]
  have HL:E.ρ q<w.heap.size:=og;have hH:Holds (Value.int .i64) w (E.ρ q) 0 xs.toArray:=fun j hj=>by have hj':j<xs.length:=oa;refine⟨?_,by simp[World.frozen?,k1]⟩;have:=Qg j xs[j] (wa hj');simp[World.cell?,k1,this,hj']
  refine(hs (E.ρ q) 0 c xs w hH HL hl).mono ?_;rintro en w' ⟨rfl,n,os,rfl⟩;obtain⟨ts,hts⟩: ∃ts,ts=xs.mergeSort fun x y=>decide (x<=y):=⟨_,rfl⟩
  have qdS:ts.length=xs.length:=oA;rw[<-hts];obtain⟨arr',harr'⟩: ∃arr',arr'=putCells (Value.int .i64) 0 ts.toArray arr:=⟨_,rfl⟩;have hsz':arr'.size=arr.size:=by rw[harr'];simp[putCells]
  have ZE:RowSet w (putRow (Value.int .i64) (jx w n) (E.ρ q) 0 ts.toArray) (E.ρ q) e arr arr':=by
   refine⟨k1,?_,hsz',by simp[putRow,mapBlock,jx],fun k hk=>?_,rfl,rfl,rfl⟩
   ·simp[putRow,mapBlock,jx,Array.getElem?_modify,k1,onCells,harr']
   ·simp[putRow,mapBlock,jx,Array.getElem?_modify,Ne.symm hk]
  have hv':RowsIs w E arr' (qQ ts++js):=by
   refine⟨1,fun r hr=>?_,by rw[hsz',vG];simp[qQ,qdS],fun i j r t v h1 h2 h3=>?_⟩
   ·rcases wF.1 hr with hr|hr
    ·obtain⟨x,_,rfl⟩:=wN.1 hr;rfl
    ·exact E8 r hr
   ·by_cases hi:i<ts.length
    ·rw[wU (by simpa[qQ]using hi),o9 (wa hi)]at h1;injection h1 with h1;subst h1
     cases j with
     | succ j=>grind
     | zero=>
      simp at h2;subst h2;have hia:i<arr.size:=oa;simp[harr',putCells,hi,hia]at h3;subst h3;exact .c _ _ (.lit _ rfl)
    ·have h1':=h1;rw[wL (by simp[qQ];omega)]at h1;have ef:r.length=1:=E8 r (ww h1);have hj0:j=0:=og;subst hj0;refine k3.is i 0 r t v ?_ h2 ?_
     ·rw[wL (by simp[qQ];omega)];simpa[qQ,qdS]using h1
     ·simp[harr',putCells,hi]at h3 ⊢;exact h3
  have Qk:=(aM.rel (wl _) (wl _)).setBx hq qH ZE hv';have hush:Hush w.heap.size (putRow (Value.int .i64) (jx w n) (E.ρ q) 0 ts.toArray) (grow (putRow (Value.int .i64) (jx w n) (E.ρ q) 0 ts.toArray) os):=by
   refine⟨rfl,rfl,rfl,by simp[grow],fun b hb=>?_,fun b a' e' m hb=>?_⟩
   ·exact heap_grow_old _ _ (by rw[ZE.heap];exact hb)
   ·exact heap_grow_old _ _ (wH.1 hb).1
  have na:=Qk.hush (a':={ tmps:= #[],defers:= [] }) hush rfl (DefOK.nil _ _ (wl _));exact⟨_,E,.tup [],_,rfl,⟨rfl,rfl⟩,na.wi,.tup [] #[] rfl (fun j d v h1 _=>by simp at h1)⟩
def cr(xs:List (List C)):Rows:=xs.map (wt T.c)
def R0(r:Ren)(xs:List (List C)):Rows.tr r (cr xs)=cr xs:=Rows.tr_c r xs
def qK(xs:List (List C)):(cr xs).length=xs.length:=by simp[cr]
def nr(xs:List (List C))(k:Nat):(cr xs).take k=cr (xs.take k):=by simp[cr]
def CL(xs:List (List C))(k:Nat):(cr xs).drop k=cr (xs.drop k):=by simp[cr]
def Qv(xs ys:List (List C)):cr (xs++ys)=cr xs++cr ys:=by simp[cr]
theorem sR(x:List C)(xs:List (List C)):cr (x::xs)=x.map T.c::cr xs:=rfl
theorem xf:cr []= []:=rfl
def nu{xs:List (List C)}(hz: ∀r∈xs,r.length=sz):RowsSz sz (cr xs):=fun r hr=>by obtain⟨x,hx,rfl⟩:=wN.1 hr;simpa using hz x hx
def iJ{xs:List (List C)}{x:List C}(h:xs[i]? =some x):(cr xs++js)[i]? =some (x.map T.c):=by rw[wU (by rw[qK];exact(wg.1 h).1),cr,wh,h];rfl
def CK{xs:List (List C)}{x:List C}(h:i<xs.length):(cr xs++js).set i (x.map T.c)=cr (xs.set i x)++js:=by rw[List.set_append_left _ _ (by rw[qK];exact h),cr,cr,List.map_set]
attribute [go_sem] R0
def mj{ys:List (List C)}(hd:d= .one (.c (.sl sz ys))):Src bx sz d (cr ys):=by subst hd;exact .sl ys
def Av{len:Nat}{ys:Rows}(hd:d= .one (.ba n sz i len cap))(hb:bx n=some rows)(hl:i+len<=rows.length)(hz: ∀r∈rows,r.length=sz)(XR:ys=(rows.drop i).take len):Src bx sz d ys:=by subst hd;subst XR;exact .ba n i len cap rows hb hl hz
def GC{v:List T}(hd:d= .one (.ba n sz 0 1 1))(hb:bx n=some [v])(hl:v.length=sz):Src bx sz d [v]:=
 Av hd hb oh (by simpa using hl) oh
def gR(xs:List (List C))(j sz q:Nat)(v:List C):vT:=fun k=>if k=1000 then some (cr xs++qa j sz)else if k=q then some [v.map T.c]else none
def Lh(xs:List (List C))(j sz q:Nat)(v:List C):gR xs j sz q v 1000=some (cr xs++qa j sz):=ae rfl
def Lf(xs:List (List C))(j sz a:Nat)(v:List C):gR xs j sz (a+NB) v (a+NB)=some [v.map T.c]:=by have:=qX;unfold gR;rw[j7 oa,ae rfl]
def ri(ops:List aa):List Nat->Array Bool->Bool
 | [],_=>true
 | i::l,listed=>(w5 .any ops.toArray listed== [i])&&ri ops l (listed.setIfInBounds i true)
def bG(ops:List aa)(m:Mode):List Nat->List (Mode×aa)
 | []=> []
 | i::l=>match ops[i]? with
  | some o=>(m,o)::bG ops m l
  | none=> []
def zu(ops:List aa)(hd:List Nat):List Nat->List (Mode×aa)
 | []=> []
 | i::l=>match ops[i]? with
  | some o=>(if i∈hd then .hand else .step,o)::zu ops hd l
  | none=> []
section
variable {P:Program}
def ed{ops:List aa}{N:Nat}(hb:zM ops N=true){K:DS->Prop}{fuel:Nat}{listed:Array Bool}{s:DS}{l:List Nat}(hr:w5 .any ops.toArray listed=l)(qH:l≠ [])
  (h: ∀i∈l,∃o,ops[i]? =some o/\vc P ops o s (QW P ops N K fuel (listed.setIfInBounds i true))):QW P ops N K (fuel+1) listed s:=by
 intro hn X a w Qk;refine wpAny_all hr qH fun j hj=>?_;obtain⟨o,ho,h⟩:=h j hj;have hd:=pG hb ho;unfold wpOp;have ho':ops.toArray[j]? =some o:=og;simp only[ho'];unfold vc at h;split at h
 ·rename_i t ht;rw[zn ht Qk];split at h
  ·rename_i h3;rw[ae h3];refine .inl (yL ?_ (h (fun d hd'=>by rw[hn];exact hd d hd') X a w Qk _));rintro a' w' ⟨s',⟨hn',hs'⟩,hr'⟩;exact hs' (hn'.trans hn) X a' w' hr'
  ·rename_i h3;rw[j7 h3];exact h (by rw[zD];exact hn) X _ w (eC Qk (fun d hd'=>by rw[hn];exact hd d hd'))
 ·grind
def Zx{l:List (Mode×aa)}{p:Prop} [Decidable p](h:wk P (ops.map (·.dst)) ((if p then .hand else .step,o)::l) s K):vc P ops o s fun s'=>wk P (ops.map (·.dst)) l s' K:=by
 have h:=aS h;unfold MR at h;simp only[vc];split at h
 ·rename_i hw;simp only[hw,an];split at h
  ·cases h with
   | hand h=>exact h
  ·cases h with
   | step h=>exact h
 ·grind
 ·grind
def QQ(hk: ∀s,K s->K' s)(h:vc P ops o s K):vc P ops o s K':=by
 revert h;simp only[vc];split
 ·split
  ·exact fun h=>h.mono fun s' _=>hk s'
  ·grind
 ·exact id
def N3{ops:List aa}{hd:List Nat}{N:Nat}(hb:zM ops N=true){K K1:DS->Prop}{fuel:Nat}: ∀(l:List Nat) (listed:Array Bool) (s:DS),ri ops l listed=true->
  wk P (ops.map (·.dst)) (zu ops hd l) s K1->(∀s,K1 s->QW P ops N K fuel (afterA l listed) s)->(∀i∈l,(ops[i]?).isSome=true)->QW P ops N K (l.length+fuel) listed s
 | [],listed,s,_,h,hk,_=>by
  have:=hk s (by simpa[zu,wk]using h);simpa[afterA]using this
 | i::l,listed,s,hr,h,hk,hs=>by
  simp only[ri,we,aq]at hr;have hi:=hs i oh;cases ho:ops[i]? with
  | none=>grind
  | some o=>
   simp only[zu,ho]at h;have hfu:(i::l).length+fuel=(l.length+fuel)+1:=og;rw[hfu];exact SF hb hr.1 ho (QQ (fun s' h'=>N3 hb l _ s' hr.2 h' hk fun j hj=>hs j (by simp[hj])) (Zx h))
def GP(h:i∈w5 .any ops.toArray listed):(ops[i]?).isSome=true:=by
 have h1:i<ops.toArray.size:=by unfold w5 at h;have:=(yR.1 h).1;simpa using this
 simp at h1;simp[h1]
def DR{ops:List aa}: ∀(l:List Nat) (listed:Array Bool),ri ops l listed=true->∀i∈l,(ops[i]?).isSome=true
 | [],_,_=>oh
 | i::l,listed,hr=>by
  simp only[ri,we,aq]at hr;intro j hj;rcases wJ.1 hj with rfl|hj
  ·exact GP (listed:=listed) (by rw[hr.1];simp)
  ·exact DR l _ hr.2 j hj
theorem KR(ops:List aa)(m:Mode):bG ops m []= []:=rfl
theorem G6(ops:List aa)(m:Mode)(i:Nat)(l:List Nat):bG ops m (i::l)=match ops[i]? with|some o=>(m,o)::bG ops m l|none=> []:=rfl
theorem KS(ops:List aa)(hd:List Nat):zu ops hd []= []:=rfl
theorem G7(ops:List aa)(hd:List Nat)(i:Nat)(l:List Nat):zu ops hd (i::l)=match ops[i]? with|some o=>(if i∈hd then .hand else .step,o)::zu ops hd l|none=> []:=rfl
attribute [go_sem] KR G6 KS G7
end
def RS{P:Program}{α:Type}{id:Nat}{c rest:Code}{s:DS}{Q Q2:ah->DS->Prop}(S:α->DS)(F:α->Prop)(h1:DW P c s (fun e s'=>e= .exit id/\∃y,F y/\s'.Sub (S y)))(h2: ∀y,F y->DW P rest (S y) Q):
  DW P c s (zo id (vP (fun s'=>DW P rest s' Q) Q2)):=
 h1.mono fun e s' ⟨he,y,hF,hs⟩=>by subst he;simp only[zo,an,vP];exact qn hs (h2 y hF)
def pF{P:Program}{α:Type}{c rest:Code}{s:DS}{Q Q2:ah->DS->Prop}(S:α->DS)(F:α->Prop)(h1:DW P c s (fun e s'=>e= .normal/\∃y,F y/\s'.Sub (S y)))(h2: ∀y,F y->DW P rest (S y) Q):
  DW P c s (vP (fun s'=>DW P rest s' Q) Q2):=
 h1.mono fun e s' ⟨he,y,hF,hs⟩=>by subst he;simp only[vP];exact qn hs (h2 y hF)
section
variable {P:Program}
def Step.makeSlice{o:aa}{s:DS}{K:DS->Prop}{m n:Nat}{x y:j9}{t e:j8}{z:List T}{inf:TypeInfo}{kx ky:IntKind}(ho:o.op= .makeSlice t x y)(hm:o.dst=some m)(hu:P.underlying t=some (.slice e))(hi:P.info? e=some inf)(hz:Program.zeroT P e=some z)
  (qZ:0<z.length) (vo:inf.size=z.length) (hx:s.ev x= .one (.c (.lit (.int kx (n:Int))))) (hy:s.ev y= .one (.c (.lit (.int ky (n:Int))))) (hn:n*z.length<=16777216) (hb:inf.bytes*n<=281474976710656) (qcq:n<=maxLen)
  (h:K ((s.newMem m (yb n z)).put (some m) (.one (.ba m z.length 0 n n)))):Step P o s K:=by
 rintro hd X a w ⟨E,hE⟩ Q;have uG:=hE.ev x;have PO:=hE.ev y;rw[hx]at uG;rw[hy]at PO;obtain⟨inf',z0,h1,h2,h3,h4⟩:=l8 hz;rw[hi]at h1;injection h1 with h1;subst h1
 have hb':(inf.bytes:Int)*(n:Int)<=281474976710656:=oa;have h63':(n:Int)<=9223372036854775807:=by have:=qcq;simp[maxLen]at this;omega
 have qS:=run_makeSlice (P:=P) w t e inf z0 hu hi h2 kx ky (n:Int) (n:Int) (Int.natCast_nonneg n) (Int.le_refl _) (by rw[vo];simpa using hn) hb' h63';simp only[wO,vo]at qS;have AX:0<z0.cells.size:=oa;have mW:RowsIs w E (madeCells z0.cells (n*z.length)) (yb n z):=by
  refine⟨z.length,fun r hr=>by rw[yP hr],by simp[size_madeCells],fun i j r t' v k1 k2 k3=>?_⟩;have MK:i<n:=og;have hr:r=z:=og;subst hr;have hj:j<r.length:=og;have qf:=HB MK hj (sz:=r.length);have qb4:(i*r.length+j) % z0.cells.size=j:=by rw[h3,jF,Nat.mul_add_mod,Nat.mod_eq_of_lt hj]
  have hv:v=z0.cells[j]' oa:=by
   simp only[madeCells,Array.getElem?_map,Array.getElem?_range,qf,an,yO,qb4]at k3;injection k3 with k3
   rw[<-k3,getElem!_pos z0.cells j oa]
  subst hv;exact h4 w E j t' _ k2 (wY oa)
 have h5:=hE.newMem m (hd m hm) (madeCells z0.cells (n*z.length)) e _ mW;refine vg (v:=.slice (some ⟨w.heap.size,0,none⟩) n n) (w':=w.alloc (.cells (madeCells z0.cells (n*z.length)) e)) ?_ ⟨_,⟨by rfl,h⟩,?_⟩
 ·simp only[execOp,ho,wq,uG.lit,PO.lit,qS,wj,wG]
 ·rw[hm];refine⟨_,h5.putOnly (fun d hd'=>by injection hd' with hd';subst hd';exact hd m hm) (.one _ _ ?_)⟩;have:=VT.ba (w:=w.alloc (.cells (madeCells z0.cells (n*z.length)) e)) (E:=E.setρ m w.heap.size) m z.length 0 n n (wl _) qcq;simpa[Env.setρ]using this
end
theorem qff(a:Nat):(a+NB<NB)=False:=oh
attribute [go_sem] qff
def Sv:D:=.one (.c (.lit (.agg #[])))
def Wz: ¬VD w E Sv v:=by intro h;unfold Sv at h;cases h with|one t v h=>cases h with|c c v h=>cases h with|lit v h=>simp[Value.oneCell']at h
def MQ:List (List D)->List (List D)
 | []=> []
 | x::l=> [Sv]::x::MQ l
def CI: ∀(xs:List (List D)) (k:Nat),(MQ xs)[2*k+1]? =xs[k]?
 | [],k=>by simp[MQ]
 | x::l,0=>by simp[MQ]
 | x::l,k+1=>by rw[show 2*(k+1)+1=(2*k+1)+1+1 by omega];simp only[MQ,yS];exact CI l k
def FC: ∀(xs:List (List D)) (k:Nat) (ds:List D),(MQ xs)[2*k]? =some ds->ds= [Sv]
 | [],k,ds,h=>by simp[MQ]at h
 | x::l,0,ds,h=>by simp[MQ]at h;exact h.symm
 | x::l,k+1,ds,h=>by rw[show 2*(k+1)=(2*k)+1+1 by omega]at h;simp only[MQ,yS]at h;exact FC l k ds h
def xP(J:Option Nat->j5->qM->Prop)(b:Nat)(s:ByteArray)(pos:Nat->Nat):Option Nat->j5->qM->Prop
 | none,w,K=>J none w K
 | some m,w,K=>J (some (m / 2)) w K/\w.heap[b]? =some (.stringIter s (pos ((m+1) / 2)))
def Rg:Option Nat->Option Nat:=Option.map (· / 2)
def LO(k:Nat):Rg (some (2*k))=some k:=by simp[Rg]
def Kd{J:Option Nat->j5->qM->Prop}{s:ByteArray}{g:Option Nat}{K:qM}(h:xP J b s pos g w K):J (Rg g) w K:=by
 cases g with
 | none=>exact h
 | some m=>exact h.1
section
variable {P:Program} {m n:Nat} {J:Option Nat->j5->qM->Prop} {s:DS} {g ro:Option Nat} {Q:ah->DS->Option Nat->Prop}
def NK(hJ:lV n J)(hn:n<=n')(hb:b<n'):lV n' (xP J b str pos):=fun g A B L L' h hu hL=>by
 cases g with
 | none=>exact hJ _ A B L L' h (hu.mono hn) hL
 | some m=>exact⟨hJ _ A B L L' h.1 (hu.mono hn) hL,(hu.old b hb).trans h.2⟩
def Gd{l:Nat}{xs:List (List D)}(hY:lU P m n J l xs)(hn:n<=n')(hb:m<=b):lU P m n' (xP J b str pos) l (MQ xs):=by
 refine⟨hY.1,fun k ds W L va h1 h2 h3 h4 h5=>?_⟩;rcases Nat.mod_two_eq_zero_or_one k with hk|hk
 ·obtain⟨j,rfl⟩: ∃j,k=2*j:=⟨k / 2,oa⟩;have:=FC xs j ds h1;subst this;have hv:=h5 0 Sv (va[0]'(by simp at h4;omega)) rfl (wY _);exact ak hv Wz
 ·obtain⟨j,rfl⟩: ∃j,k=2*j+1:=⟨k / 2,oa⟩;rw[CI]at h1;have e1:(2*j+1) / 2=j:=oa;have e2:(2*j+1+1) / 2=j+1:=oa;have e3:(2*j+1+1+1) / 2=j+1:=oa;obtain⟨q1,q2⟩:=h2;rw[e1]at q1;rw[e2]at q2;obtain⟨fn,tmps,assign,body,hy,hr⟩:=hY.2 j ds W L va h1 q1 (wu hn h3) h4 h5;refine⟨fn,tmps,assign,body,hy,hr.mono ?_⟩;rintro e W' ⟨b',rfl,r1,r2⟩;refine⟨b',rfl,?_,r2.size,r2.cells,fun c ob hc=>r2.others c ob hc,r2.z⟩;cases b' with
  | false=>exact r1
  | true=>
   simp only[an]at r1 ⊢;refine⟨by rw[e2];exact r1,?_⟩;rw[e3];exact r2.others b _ hb q2 oh
def qbx(b:Nat):D:=.one (.c (.lit (.pointer (some ⟨b,0,none⟩))))
def Ca(hJ:lV n J){l:Nat}{xs:List (List D)}(hY:lU P m n J l xs){id:Nat}{pre:List aa}{o:aa}{t:j8}{x:j9}{d:Nat}{y:Code}{str:ByteArray}(pos:Nat->Nat)(h0:pos 0=0)
  (A0:o.op= .range t x) (hg:o.guard=none) (cK:o.dst=some d) (hu:P.underlying t=some .string) (hb:zM (pre++ [o]) s.n=true)
  (h:wk P ((pre++ [o]).map (·.dst)) (bq pre) s.bare fun s1=>s1.flat.ev x= .one (.c (.lit (.string str)))/\
   ∀b n' J',lV n' J'->lU P m n' J' l (MQ xs)->J'=xP J b str pos->n<=b->b<n'->IW P m n' J' ro y (s1.flat.put (some d) (qbx b)) (some 0) (fun e s g=>Q e s (Rg g))):
  IW P m n J ro (.seq (.region id (pre++ [o]).toArray false) y) s (some 0) Q:=by
 intro K a w hf hj;refine wpIn_seq ?_;have HG:o∈pre++ [o]:=oh;refine wpIn_region_lit ?_;refine ZG (X:=⟨w,K,fun _ _=>False,(E0 K).ρ,NB,ro,m,[]⟩) (N:=s.n) (ops:=pre++ [o]) (fun s1 a1 w1 pj iD ef=>?_) pre s.bare a w (Qe hb fun x hx=>jH _ hx) rfl ⟨_,hf.rel ro⟩ (zA _ _ h);obtain⟨K1,q1,q2,q3⟩:=aO hf hJ hj ef;obtain⟨hx,hy⟩:=iD;obtain⟨h00,h11,_⟩:=Qu (Qe hb (l':= [o]) fun x hx=>List.mem_append_right _ hx);have hd:d<s1.flat.n:=by rw[show s1.flat.n=s.n from pj];exact h11 d cK
 refine wpListIn_step fun K' hK'=>?_;have PN:vX (pre++ [o]) s1.flat.bare o=some true:=by simp[vX,hg]
 rw[zn PN ⟨_,q1.rel ro⟩];simp only[an];have Q6:=q1.ev x;rw[hx]at Q6;have hxv:a1.eval x= .string str:=Q6.lit;have qS:(execOp a1.eval o).run P w1= .ok (.value (.pointer (some ⟨w1.heap.size,0,none⟩))) (w1.iter str 0):=by unfold execOp;simp[A0,hxv,wq,run_range_string w1 t str hu]
 refine zV h00 (vg qS ?_);refine hK' _ _ (wpListIn_nil ?_);have hush:Hush w1.heap.size w1 (w1.iter str 0):=Hush.alloc _ (wl _);have hush':Hush n w1 (w1.iter str 0):=hush.mono q1.mrk;have x9:=hush.ext q1.kok (fun _ _ h=>h);have vo:(w1.iter str 0).heap.size=w1.heap.size+1:=by simp[World.iter]
 have VQ:Flat m n (s1.flat.put (some d) (qbx w1.heap.size)) K1 (a1.put o.dst (.pointer (some ⟨w1.heap.size,0,none⟩))) (w1.iter str 0):=by rw[cK];refine q1.put (fun b o hb=>(x9 b o hb).2) oa (q1.kok.z.hush hush) (fun D hD hh=>?_) (fun e he=>by injection he with he;subst he;exact hd) (.one _ _ (.c _ _ (.lit _ rfl)));have qf:D<w1.heap.size:=og;exact(hush.old D qf).trans hh
 have rI:n<=w1.heap.size:=q1.mrk;have VP:=q1.mn;have HH:xP J w1.heap.size str pos (some 0) (w1.iter str 0) K1:=⟨hJ _ w1 _ K1 K1 q2 hush' fun b o h=>.inl h,by rw[show pos ((0+1) / 2)=0 from h0];exact World.iter_heap w1 str 0⟩;have hf3:Flat m (w1.heap.size+1) (s1.flat.put (some d) (qbx w1.heap.size)) K1 (a1.put o.dst (.pointer (some ⟨w1.heap.size,0,none⟩))) (w1.iter str 0):=by obtain⟨r1,r2,r3,r4,r5,r6,r7⟩:=VQ;exact⟨r1,r2,r3,r4,oa,oa,r7⟩
 have:=hy w1.heap.size (w1.heap.size+1) _ (NK hJ oa (Nat.lt_succ_self _)) (Gd hY oa oa) rfl oa oa K1 _ _ hf3 HH;refine wpIn_mono this ?_;rintro e a' w' ⟨s',g',K',z1,z2,z3,z4⟩;obtain⟨r1,r2,r3,r4,r5,r6,r7⟩:=z2;exact⟨s',Rg g',K',z1,⟨r1,r2,r3,r4,oa,q1.mn,r7⟩,Kd z3,q3.trans (x9.trans z4)⟩
def XK(b:Nat)(str:ByteArray)(pos:Nat->Nat)(o:aa)(s:DS)(g:Option Nat)(K:DS->Option Nat->Prop):Prop:=
 ∃it k,o.op= .next it true/\o.guard=none/\s.ev it=qbx b/\g=some (2*k)/\
  (pos k<str.size->pos (k+1)=pos k+(Utf8.decode str (pos k)).2/\
   K (s.put o.dst (.tup [.one (.c (.lit (.bool true))),.one (.c (.lit (.int .i64 (pos k)))),.one (.c (.lit (.int .i32 (Utf8.decode str (pos k)).1)))])) (some (2*k+1)))/\
  (¬pos k<str.size->K (s.put o.dst (.tup [.one (.c (.lit (.bool false)))])) (some (2*k)))
def DT(w:j5)(b:Nat)(str:ByteArray)(q:Nat)(ty:j8)(hh:w.heap[b]? =some (.stringIter str q))(h:q<str.size):
  (Instr.next (.pointer (some ⟨b,0,none⟩)) true ty).run P w= .ok (.tuple #[.bool true,.int .i64 q,.int .i32 (Utf8.decode str q).1]) (w.putObj b (.stringIter str (q+(Utf8.decode str q).2))):=by
 simp[Instr.next,getObj,setObj,wq,Sem.run,hh,Result.andThen,h,goInt,World.putObj]
def xQ(w:j5)(b:Nat)(str:ByteArray)(q:Nat)(ty:j8)(hh:w.heap[b]? =some (.stringIter str q))(h: ¬q<str.size):
  (Instr.next (.pointer (some ⟨b,0,none⟩)) true ty).run P w= .ok (.tuple #[.bool false]) w:=by
 simp[Instr.next,getObj,wq,Sem.run,hh,Result.andThen,h]
def UY{n0 b:Nat}{str:ByteArray}{pos:Nat->Nat}(hJ0:lV n0 J)(rI:n0<=b){ops r:List aa}{o:aa}{N:Nat}{Kp:DS->Option Nat->Prop}{Q':ah->Act->j5->Prop}{K0:qM}{w0:j5}
  (hK: ∀s g K a w,s.n=N->Kp s g->Flat m n s K a w->xP J b str pos g w K->Ext w0 K0 w K->wpListIn (rd ro) 0 P ops.toArray Q' r a w) {K:qM} {a:Act} {w:j5} (hb:zM [o] N=true) (hn:s.n=N) (hf:Flat m n s K a w) (hj:xP J b str pos g w K) (he:Ext w0 K0 w K)
  (h:XK b str pos o s g Kp):wpListIn (rd ro) 0 P ops.toArray Q' (o::r) a w:=by
 obtain⟨h0,h1,_⟩:=Qu hb;have hd: ∀d,o.dst=some d->d<s.n:=og;refine wpListIn_step fun K' hK'=>?_;obtain⟨it,k,A0,hg,Q6,rfl,MK,hout⟩:=h;have PN:vX ops s.bare o=some true:=by simp[vX,hg]
 rw[zn PN ⟨_,hf.rel ro⟩];simp only[an];have hv:=hf.ev it;rw[Q6]at hv;have hit:a.eval it= .pointer (some ⟨b,0,none⟩):=hv.lit;obtain⟨j1,j2⟩:=hj;have e1:2*k / 2=k:=oa;have e2:(2*k+1) / 2=k:=oa;have e3:(2*k+1+1) / 2=k+1:=oa;rw[e1]at j1;rw[e2]at j2;by_cases qf:pos k<str.size
 ·obtain⟨hp,hKp⟩:=MK qf;have qS:(execOp a.eval o).run P w= .ok (.value (.tuple #[.bool true,.int .i64 (pos k),.int .i32 (Utf8.decode str (pos k)).1])) (w.putObj b (.stringIter str (pos k+(Utf8.decode str (pos k)).2))):=by unfold execOp;simp[A0,hit,wq,DT w b str (pos k) _ j2 qf]
  have hu:Hush n0 w (w.putObj b (.stringIter str (pos k+(Utf8.decode str (pos k)).2))):=Hush.putObj _ rI j2 oh;have x9:=hu.ext hf.kok (fun _ _ h=>h);refine zV h0 (vg qS ?_);refine hK' _ _ (hK _ _ K _ _ (by rw[zD];exact hn) hKp (hf.put (fun c o hc=>(x9 c o hc).2) hu.size (hf.kok.z.hush hu) (fun D _ hh=>?_) hd ?_) ⟨by rw[e2];exact hJ0 _ w _ K K j1 hu fun b o h=>.inl h,?_⟩ (he.trans x9))
  ·have:D≠b:=by grind
   exact(wX this).trans hh
  ·refine .tup _ _ rfl fun j d v h1 h2=>?_
   match j with
   | 0=>simp at h1 h2;subst h1;subst h2;exact .one _ _ (.c _ _ (.lit _ rfl))
   | 1=>simp at h1 h2;subst h1;subst h2;exact .one _ _ (.c _ _ (.lit _ rfl))
   | 2=>simp at h1 h2;subst h1;subst h2;exact .one _ _ (.c _ _ (.lit _ rfl))
   | j+3=>simp at h1
  ·rw[e3,hp];exact jk (wH.1 j2).1
 ·have qS:(execOp a.eval o).run P w= .ok (.value (.tuple #[.bool false])) w:=by unfold execOp;simp[A0,hit,wq,xQ w b str (pos k) _ j2 qf]
  refine zV h0 (vg qS ?_);refine hK' _ _ (hK _ _ K _ _ (by rw[zD];exact hn) (hout qf) (hf.put (fun _ _ _=>rfl) (wl _) hf.kok.z (fun _ _ h=>h) hd ?_) ⟨by rw[e1];exact j1,by rw[e2];exact j2⟩ he);refine .tup _ _ rfl fun j d v h1 h2=>?_
  match j with
  | 0=>simp at h1 h2;subst h1;subst h2;exact .one _ _ (.c _ _ (.lit _ rfl))
  | j+1=>simp at h1
def uw{n0 b:Nat}{str:ByteArray}{pos:Nat->Nat}(hJ0:lV n0 J)(rI:n0<=b)(hJ:lV n (xP J b str pos)){id:Nat}{ops:List aa}(i:Nat){o:aa}(ho:ops[i]? =some o)(hb:zM ops s.n=true)
  (h:wk P (ops.map (·.dst)) (bq (ops.take i)) s.bare fun s1=>XK b str pos o s1.flat g fun s2 g2=>wk P (ops.map (·.dst)) (bq (ops.drop (i+1))) s2.bare fun s3=>Q .normal s3.flat g2):IW P m n (xP J b str pos) ro (.region id ops.toArray false) s g Q:=by
 intro K a w hf hj;have hi:i<ops.length:=og;have XZ:ops=ops.take i++(o::ops.drop (i+1)):=by have:o=ops[i]:=og;rw[this,<-wP hi,yf]
 have HG:o∈ops:=og;refine wpIn_region_lit ?_
 conv=>arg 6;rw[XZ]
 refine ZG (X:=⟨w,K,fun _ _=>False,(E0 K).ρ,NB,ro,m,[]⟩) (N:=s.n) (fun s1 a1 w1 pj iD ef=>?_) (ops.take i) s.bare a w (Qe hb fun x hx=>yW hx) rfl ⟨_,hf.rel ro⟩ (zA _ _ h);obtain⟨K1,q1,q2,q3⟩:=aO hf hJ hj ef;refine UY (s:=s1.flat) (N:=s.n) (w0:=w) (K0:=K) hJ0 rI (fun s2 g2 K2 a2 w2 MJ iC VQ HH he2=>?_) (Qe hb fun x hx=>by simp at hx;exact hx▸HG) pj q1 q2 q3 iD;have:=ZG (X:=⟨w2,K2,fun _ _=>False,(E0 K2).ρ,NB,ro,m,[]⟩) (N:=s.n) (r:= []) (Q':=fun e a' w'=>∃s' g' K',Q e s' g'/\Flat m n s' K' a' w'/\xP J b str pos g' w' K'/\Ext w K w' K') (fun s3 a3 w3 _ hs3 hr3=>?_) (ops.drop (i+1)) s2.bare a2 w2 (Qe hb fun x hx=>y5 hx) MJ ⟨_,VQ.rel ro⟩ (zA _ _ iC)
 ·grind
 ·obtain⟨K3,p1,p2,p3⟩:=aO VQ hJ HH hr3;exact wpListIn_nil ⟨_,g2,K3,hs3,p1,p2,he2.trans p3⟩
end
def aP{K:qM}(hk:KOk w K)(hb:Below w.heap.size w w'):KOk w' K:=
 hk.move (fun b o h=>hb.cell (p:=⟨b,o,none⟩) (qP (hk b o h))) (hk.z.below hb)
def eW{P:Program}{f:am}{ds:List D}{u:j6}(hp:Program.plainF P f=true)(hu:u.oneCell'=true)
  (h: ∀(w:j5) (K:qM) (vs:Array j6),KOk w K->vs.size=ds.length->(∀(j:Nat) d v,ds[j]? =some d->vs[j]? =some v->VD w (E0 K) d v)->Calls P f vs w fun e w'=>e= .returned u/\Below w.heap.size w w'):
  DCalls P f ds (.one (.c (.lit u))):=by
 refine⟨hp,fun w K vs hk hl hv=>(h w K vs hk hl hv).mono ?_⟩;rintro e w' ⟨rfl,hb⟩;have hns: ∀n b o,¬zP ((E0 K).val n) b o:=fun n b o ⟨a,len,cap,h1,_⟩=>by simp[E0]at h1
 exact⟨u,E0 K,rfl,⟨hb,fun _ _ h=>h,fun _ _ _ h=>h,aP hk hb,fun n b o hs=>ak hs (hns n b o),fun n m b o hs=>ak hs (hns n b o)⟩,.one _ _ (.c _ _ (.lit _ hu))⟩
def Br{P:Program}{f:am}{ds:List D}{u:j6}(hD:DCalls P f ds (.one (.c (.lit u)))){w:j5}{K:qM}{vs:Array j6}(hk:KOk w K)(hl:vs.size=ds.length)(hv: ∀(j:Nat) d v,ds[j]? =some d->vs[j]? =some v->VD w (E0 K) d v):
  Calls P f vs w fun e w'=>e= .returned u/\Below w.heap.size w w':=
 (hD.2 w K vs hk hl hv).mono fun e w' h=>by obtain⟨v,E',rfl,x9,hv⟩:=h;rw[hv.lit];exact⟨rfl,x9.1⟩
def QX{b:Frame}{k:List Item}:step P (lone (b.atR a (.code (.scope c)::k)) cs w)= .next (lone (b.atR a (.code c:: .inScope c::k)) cs w):=
 step_lone_go (by simp[stepG,stepG.exec,Frame.atR])
def tA{b:Frame}{k:List Item}:step P (lone (b.atR a (.inScope c::k)) cs w)= .next (lone (b.atR a k) cs w):=
 step_lone_go (by simp[stepG,stepG.exec,Frame.atR])
def mO(Q:ah->DS->Prop):ah->DS->Prop
 | .goto _,_=>False
 | e,s=>Q e s
def nj(h:DW P c s (mO Q)):DW P (.scope c) s Q:=by
 intro X a w hr b k cs lE hb vd;obtain⟨e,a₁,w₁,⟨s₁,hq,hr₁⟩,Qg⟩:=h X a w hr b (.inScope c::k) cs lE hb vd;cases e with
 | normal=>exact⟨.normal,a₁,w₁,⟨s₁,hq,hr₁⟩,.head (fenced_calm hb vd rfl) QX (StepsIn.trans Qg (.one (fenced_calm hb vd rfl) tA))⟩
 | goto l=>exact hq.elim
 | exit id=>
  have hx:exitTo id (.inScope c::k)=exitTo id k:=by simp[exitTo]
  exact⟨_,a₁,w₁,⟨s₁,hq,hr₁⟩,fun k1 hk=>.head (fenced_calm hb vd rfl) QX (Qg.1 k1 (by rw[hx];exact hk)),fun h1 hk=>let ⟨k₁,h2,h3⟩:=Qg.2 h1 (by rw[hx];exact hk);⟨k₁,h2,.head (fenced_calm hb vd rfl) QX h3⟩⟩
 | ret=>exact⟨_,a₁,w₁,⟨s₁,hq,hr₁⟩,.of_steps (.one (fenced_calm hb vd rfl) QX) Qg⟩
 | panic ch=>exact⟨_,a₁,w₁,⟨s₁,hq,hr₁⟩,.of_steps (.one (fenced_calm hb vd rfl) QX) Qg⟩
 | outgrown=>exact⟨_,a₁,w₁,⟨s₁,hq,hr₁⟩,.of_steps (.one (fenced_calm hb vd rfl) QX) Qg⟩
theorem uf(Q:ah->DS->Prop)(s:DS):mO Q .normal s=Q .normal s:=rfl
theorem EB(Q:ah->DS->Prop)(s:DS):mO Q .ret s=Q .ret s:=rfl
theorem B3(Q:ah->DS->Prop)(id:Nat)(s:DS):mO Q (.exit id) s=Q (.exit id) s:=rfl
attribute [go_sem ↓] uf EB B3
def ND(t n sz:Nat){xs:List (List C)}(h:s.sl t= .one (.ex sz xs)):s.Sub ((s.close [n]).put (some t) (.one (.own n sz xs))):=by
 rintro X a w ⟨E,hE⟩;have hv:=hE.sl t;rw[h]at hv;cases hv with
 | one _ _ hv=>cases hv with
  | ex _ _ _ XT hx=>
   have hns: ∀b o,¬zP ((a.tmps.getD t undef,sz):j6×Nat) b o:=fun b o ⟨_,len,cap,h1,_,_,h2,h3⟩=>by
    obtain⟨A,m,hA⟩:=hx;simp only at h1;rw[hA]at h1;injection h1 with _ h4 h5
    simp only at h2 h3;rw[<-h4]at h2;rw[<-h5]at h3;omega
   have h1:=hE.setVal n (a.tmps.getD t undef,sz) (fun b o hs=>ak hs (hns b o));refine⟨_,⟨h1.wi,fun u=>?_,h1.size,h1.defers,h1.small,h1.pl⟩⟩;simp only[DS.put];by_cases hu:u=t
   ·subst hu;rw[ae rfl];exact .one _ _ (.own n sz xs _ XT (by simp[Env.setVal]) hx.tame)
   ·rw[j7 hu];exact h1.sl u
def Wg(t n sz:Nat){xs:List (List C)}(h:s.sl t= .one (.ex sz xs))(hc:DW P c ((s.close [n]).put (some t) (.one (.own n sz xs))) Q):DW P c s Q:=qn (ND t n sz h) hc
end Go.Dl
