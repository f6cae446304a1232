/- The logic of data over the kit's walk, and contracts of the functions that the laws reach, each said by plain data; part 1 of 6. -/
import Derived.WalkKit
import Derived.WalkSpells
import Derived.WalkLawsBesides
import Derived.Still
import Derived.RangeFuncRecord
import Derived.TacticsIn
import Derived.OrdersIn
import Derived.Lib.LaidU8
import Derived.Lib.ItoaNum
import Derived.Lib.ConvBytes
import Derived.Laws.BytesString
set_option linter.all false
set_option linter.unusedVariables false
set_option linter.unusedSimpArgs false
set_option maxRecDepth 10000
set_option maxHeartbeats 8000000
/- The logic of data: what a cell, a slot and a variable of its own hold, said by plain data, and the relation of such a state to the machine's. Nothing of a program stands here. -/
namespace Go.Dl
open Go.RowKit
inductive C where
 | any
 | lit (v:Value)
 | sl (sz:Nat) (xs:List (List C))
 | pt (cs:List C)
 | fn (f:FuncId) (caps:List C)
 deriving Inhabited
abbrev KSet:=Nat→Nat→Prop
theorem NB_ex: ∃n:Nat,100000≤n:=⟨100000,Nat.le_refl _⟩
noncomputable def NB:Nat:=Classical.choose NB_ex
theorem NB_big:100000≤NB:=Classical.choose_spec NB_ex
inductive VC(w:World)(K:KSet):C→Value→Prop where
 | any (v:Value) (h:v.oneCell'=true):VC w K .any v
 | lit (v:Value) (h:v.oneCell'=true):VC w K (.lit v) v
 | nil (sz:Nat):VC w K (.sl sz []) (.slice none 0 0)
 | sl (sz:Nat) (xs:List (List C)) (a:Addr) (cap:Nat) (cv:Nat→Value) (hsz: ∀r∈xs,r.length=sz) (hc:xs.length≤cap) (hm:cap≤maxLen)
   (hK: ∀j,j<xs.length*sz→a.spot=none∧K a.block (a.off+j)∧w.cell? ⟨a.block,a.off+j,none⟩=some (cv j))
   (hr: ∀(i j:Nat) r c,xs[i]? =some r→r[j]? =some c→VC w K c (cv (i*sz+j))):VC w K (.sl sz xs) (.slice (some a) xs.length cap)
 | pt (cs:List C) (b o:Nat) (cv:Nat→Value) (hK: ∀j,j<cs.length→K b (o+j)∧w.cell? ⟨b,o+j,none⟩=some (cv j))
   (hr: ∀(j:Nat) c,cs[j]? =some c→VC w K c (cv j)):VC w K (.pt cs) (.pointer (some ⟨b,o,none⟩))
 | fn (f:FuncId) (caps:List C) (vs:Array Value) (hl:vs.size=caps.length) (hr: ∀(j:Nat) c v,caps[j]? =some c→vs[j]? =some v→VC w K c v):
   VC w K (.fn f caps) (.func (.func f) #[] vs)
theorem VC.oneCell'{w:World}{K:KSet}{c:C}{v:Value}(h:VC w K c v):v.oneCell'=true:=by
 cases h<;>first|assumption|rfl
theorem VC.mono{w w':World}{K K':KSet}(h: ∀b o,K b o→K' b o∧w'.cell? ⟨b,o,none⟩=w.cell? ⟨b,o,none⟩){c:C}{v:Value}(hv:VC w K c v):VC w' K' c v:=by
 induction hv with
 | any v hv=>exact .any v hv
 | lit v hv=>exact .lit v hv
 | nil sz=>exact .nil sz
 | sl sz xs a cap cv hsz hc hm hK hr ih=>
  refine .sl sz xs a cap cv hsz hc hm (fun j hj=>?_) ih
  obtain⟨h1,h2,h3⟩:=hK j hj
  exact⟨h1,(h _ _ h2).1,((h _ _ h2).2).trans h3⟩
 | pt cs b o cv hK hr ih=>
  refine .pt cs b o cv (fun j hj=>?_) ih
  obtain⟨h2,h3⟩:=hK j hj
  exact⟨(h _ _ h2).1,((h _ _ h2).2).trans h3⟩
 | fn f caps vs hl hr ih=>exact .fn f caps vs hl ih
inductive T where
 | c (c:C)
 | own (n sz:Nat) (xs:List (List C))
 | ex (sz:Nat) (xs:List (List C))
 | bx (n sz i o:Nat)
 | ba (n sz i len cap:Nat)
 | fv (f:FuncId) (caps:List T)
 deriving Inhabited
inductive D where
 | any
 | one (t:T)
 | agg (ts:List T)
 | tup (ds:List D)
 deriving Inhabited
structure Env where
 K:KSet
 ρ:Nat→Nat
 val:Nat→Value×Nat
def Exact(v:Value):Prop:=∃A n,v= .slice A n n
def Tame(v:Value):Prop:=∀a l c,v= .slice (some a) l c→a.spot≠none→c=l
theorem Exact.tame{v:Value}(h:Exact v):Tame v:=by
 obtain⟨A,n,rfl⟩:=h
 intro a l c h _
 injection h with _ h1 h2
 omega
theorem tame_plain(b o l c:Nat):Tame (.slice (some ⟨b,o,none⟩) l c):=by
 intro a l' c' h hs
 injection h with h1 h2 h3
 injection h1 with h1
 subst h1
 exact absurd rfl hs
inductive VT(w:World)(E:Env):T→Value→Prop where
 | c (c:C) (v:Value) (h:VC w E.K c v):VT w E (.c c) v
 | own (n sz:Nat) (xs:List (List C)) (v:Value) (h:VC w E.K (.sl sz xs) v) (hv:E.val n=(v,sz)) (ht:Tame v):VT w E (.own n sz xs) v
 | ex (sz:Nat) (xs:List (List C)) (v:Value) (h:VC w E.K (.sl sz xs) v) (hx:Exact v):VT w E (.ex sz xs) v
 | bx (n sz i o:Nat):VT w E (.bx n sz i o) (.pointer (some ⟨E.ρ n,i*sz+o,none⟩))
 | ba (n sz i len cap:Nat) (h:len≤cap) (hm:cap≤maxLen):VT w E (.ba n sz i len cap) (.slice (some ⟨E.ρ n,i*sz,none⟩) len cap)
 | bz (n sz i:Nat) (A:Option Addr):VT w E (.ba n sz i 0 0) (.slice A 0 0)
 | fv (f:FuncId) (caps:List T) (vs:Array Value) (hl:vs.size=caps.length) (hr: ∀(j:Nat) t v,caps[j]? =some t→vs[j]? =some v→VT w E t v):
   VT w E (.fv f caps) (.func (.func f) #[] vs)
theorem VT.oneCell'{w:World}{E:Env}{t:T}{v:Value}(h:VT w E t v):v.oneCell'=true:=by
 cases h<;>first|rfl|exact VC.oneCell' ‹_›
inductive VD(w:World)(E:Env):D→Value→Prop where
 | any (v:Value):VD w E .any v
 | one (t:T) (v:Value) (h:VT w E t v):VD w E (.one t) v
 | agg (ts:List T) (vs:Array Value) (hl:vs.size=ts.length) (hr: ∀(j:Nat) t v,ts[j]? =some t→vs[j]? =some v→VT w E t v):VD w E (.agg ts) (.agg vs)
 | tup (ds:List D) (vs:Array Value) (hl:vs.size=ds.length) (hr: ∀(j:Nat) d v,ds[j]? =some d→vs[j]? =some v→VD w E d v):VD w E (.tup ds) (.tuple vs)
structure Later(w:World)(E:Env)(w':World)(E':Env):Prop where
 keep: ∀b o,E.K b o→E'.K b o∧w'.cell? ⟨b,o,none⟩=w.cell? ⟨b,o,none⟩
 ρ:E'.ρ=E.ρ
 val:E'.val=E.val
theorem VT.mono{w w':World}{E E':Env}(h:Later w E w' E'){t:T}{v:Value}(hv:VT w E t v):VT w' E' t v:=by
 induction hv with
 | c c v hv=>exact .c c v (hv.mono h.keep)
 | own n sz xs v hv hn ht=>exact .own n sz xs v (hv.mono h.keep) (by rw [h.val];exact hn) ht
 | ex sz xs v hv hx=>exact .ex sz xs v (hv.mono h.keep) hx
 | bx n sz i o=>rw [← h.ρ];exact .bx n sz i o
 | ba n sz i len cap h1 h2=>rw [← h.ρ];exact .ba n sz i len cap h1 h2
 | bz n sz i A=>exact .bz n sz i A
 | fv f caps vs hl hr ih=>exact .fv f caps vs hl ih
theorem VD.mono{w w':World}{E E':Env}(h:Later w E w' E'){d:D}{v:Value}(hv:VD w E d v):VD w' E' d v:=by
 induction hv with
 | any v=>exact .any v
 | one t v hv=>exact .one t v (hv.mono h)
 | agg cs vs hl hr=>exact .agg cs vs hl fun j c v h1 h2=>(hr j c v h1 h2).mono h
 | tup ds vs hl hr ih=>exact .tup ds vs hl ih
/-! ### The permissions let go; what is read stays -/
def T.cl:T→C
 | .c x=>x
 | .own _ sz xs| .ex sz xs=>.sl sz xs
 | .bx .. | .ba .. | .fv _ _=>.any
theorem VT.cl{w:World}{E:Env}{t:T}{v:Value}(h:VT w E t v):VC w E.K t.cl v:=by
 cases h<;>first|assumption|exact VC.any _ (by rfl)
structure Ren where
 f:Nat→Option Nat
 g:Nat→Option Nat
def T.ownTo(sz:Nat)(xs:List (List C)):Option Nat→T
 | some m=>.own m sz xs
 | none=>.c (.sl sz xs)
def T.bxTo(sz i o:Nat):Option Nat→T
 | some m=>.bx m sz i o
 | none=>.c .any
def T.baTo(sz i len cap:Nat):Option Nat→T
 | some m=>.ba m sz i len cap
 | none=>.c .any
mutual
def T.tr(r:Ren):T→T
 | .own n sz xs=>T.ownTo sz xs (r.f n)
 | .bx n sz i o=>T.bxTo sz i o (r.g n)
 | .ba n sz i len cap=>T.baTo sz i len cap (r.g n)
 | .fv f caps=>.fv f (T.trAll r caps)
 | .c x=>.c x
 | .ex sz xs=>.ex sz xs
def T.trAll(r:Ren):List T→List T
 | []=> []
 | t::l=>t.tr r::T.trAll r l
end
theorem T.trAll_eq(r:Ren)(l:List T):T.trAll r l=l.map (T.tr r):=by
 induction l with
 | nil=>simp [T.trAll]
 | cons t l ih=>simp [T.trAll,ih]
mutual
def D.tr(r:Ren):D→D
 | .one t=>.one (t.tr r)
 | .any=>.any
 | .agg ts=>.agg (T.trAll r ts)
 | .tup ds=>.tup (D.trAll r ds)
def D.trAll(r:Ren):List D→List D
 | []=> []
 | t::l=>t.tr r::D.trAll r l
end
theorem D.trAll_eq(r:Ren)(l:List D):D.trAll r l=l.map (D.tr r):=by
 induction l with
 | nil=>simp [D.trAll]
 | cons t l ih=>simp [D.trAll,ih]
structure Renames(r:Ren)(E E':Env):Prop where
 K:E'.K=E.K
 f: ∀n m,r.f n=some m→E'.val m=E.val n
 g: ∀n m,r.g n=some m→E'.ρ m=E.ρ n
theorem VT.tr{w:World}{E E':Env}{r:Ren}(hR:Renames r E E'){t:T}{v:Value}(h:VT w E t v):VT w E' (t.tr r) v:=by
 induction h with
 | own n sz xs v hv hn ht=>
  simp only [T.tr]
  cases hm:r.f n with
  | none=>exact .c _ _ (hR.K▸hv)
  | some m=>exact .own m sz xs v (hR.K▸hv) ((hR.f n m hm).trans hn) ht
 | bx n sz i o=>
  simp only [T.tr]
  cases hm:r.g n with
  | none=>exact .c _ _ (.any _ rfl)
  | some m=>rw [← hR.g n m hm];exact .bx m sz i o
 | ba n sz i len cap h1 h2=>
  simp only [T.tr]
  cases hm:r.g n with
  | none=>exact .c _ _ (.any _ rfl)
  | some m=>rw [← hR.g n m hm];exact .ba m sz i len cap h1 h2
 | bz n sz i A=>
  simp only [T.tr]
  cases hm:r.g n with
  | none=>exact .c _ _ (.any _ rfl)
  | some m=>exact .bz m sz i A
 | fv f caps vs hl hr ih=>
  simp only [T.tr,T.trAll_eq]
  refine .fv f _ vs (by simpa using hl) fun j t v h1 h2=>?_
  rw [List.getElem?_map]at h1
  cases hc:caps[j]? with
  | none=>rw [hc]at h1;cases h1
  | some t'=>rw [hc]at h1;cases h1;exact ih j t' v hc h2
 | c c v hv=>simp only [T.tr];exact .c c v (hR.K▸hv)
 | ex sz xs v hv hx=>simp only [T.tr];exact .ex sz xs v (hR.K▸hv) hx
theorem VD.tr{w:World}{E E':Env}{r:Ren}(hR:Renames r E E'){d:D}{v:Value}(h:VD w E d v):VD w E' (d.tr r) v:=by
 induction h with
 | any v=>simp only [D.tr];exact .any v
 | one t v hv=>simp only [D.tr];exact .one _ v (hv.tr hR)
 | agg ts vs hl hr=>
  simp only [D.tr,T.trAll_eq]
  refine .agg _ vs (by simpa using hl) fun j t v h1 h2=>?_
  rw [List.getElem?_map]at h1
  cases hc:ts[j]? with
  | none=>rw [hc]at h1;cases h1
  | some t'=>rw [hc]at h1;cases h1;exact(hr j t' v hc h2).tr hR
 | tup ds vs hl hr ih=>
  simp only [D.tr,D.trAll_eq]
  refine .tup _ vs (by simpa using hl) fun j t v h1 h2=>?_
  rw [List.getElem?_map]at h1
  cases hc:ds[j]? with
  | none=>rw [hc]at h1;cases h1
  | some t'=>rw [hc]at h1;cases h1;exact ih j t' v hc h2
def cls(ns:List Nat):Ren:=⟨fun n=>if n∈ns then none else some n,some⟩
def fgt(m:Nat):Ren:=⟨some,fun n=>if n=m then none else some n⟩
def Env.setVal(E:Env)(n:Nat)(p:Value×Nat):Env:={ E with val:=fun m=>if m=n then p else E.val m }
def Env.setρ(E:Env)(m b:Nat):Env:={ E with ρ:=fun k=>if k=m then b else E.ρ k }
theorem renames_setVal(E:Env)(n:Nat)(p:Value×Nat):Renames (cls [n]) E (E.setVal n p):=
 ⟨rfl,fun k m h=>by
  simp only [cls,List.mem_singleton]at h
  split at h
  ·cases h
  ·rename_i hne;injection h with h;subst h;simp [Env.setVal,hne],fun k m h=>by injection h with h;subst h;rfl⟩
theorem renames_fgt(E:Env)(m b:Nat):Renames (fgt m) E (E.setρ m b):=
 ⟨rfl,fun n k h=>by injection h with h;rw [h];rfl,fun n k h=>by
  simp only [fgt]at h
  split at h
  ·cases h
  ·rename_i hne;injection h with h;subst h;simp [Env.setρ,hne]⟩
/-! ### The state of data, and its relation to the machine's -/
abbrev Rows:=List (List T)
abbrev Mem:=Nat→Option Rows
def Rows.tr(r:Ren)(rows:Rows):Rows:=rows.map (T.trAll r)
structure DS where
 n:Nat
 sl:Nat→D
 bx:Mem
 pl:Bool:=true
def DS.put(s:DS)(dst:Option Nat)(d:D):DS:=
 match dst with
 | some t=>{ s with sl:=fun u=>if u=t then d else s.sl u }
 | none=>s
def DS.tr(s:DS)(r:Ren):DS:={ s with sl:=fun u=>(s.sl u).tr r,bx:=fun m=>(s.bx m).map (Rows.tr r) }
def DS.close(s:DS)(ns:List Nat):DS:=s.tr (cls ns)
def DS.setBx(s:DS)(m:Nat)(ts:Option Rows):DS:={ s with bx:=fun k=>if k=m then ts else s.bx k }
def spare(p:Value×Nat)(b o:Nat):Prop:=∃a len cap,p.1= .slice (some a) len cap∧a.spot=none∧b=a.block∧a.off+len*p.2≤o∧o<a.off+cap*p.2
def Free(w:World)(b o:Nat):Prop:=∃arr e,w.heap[b]? =some (.cells arr e (0,0))∧o<arr.size
def BoxIs(w:World)(E:Env)(b:Nat)(rows:Rows):Prop:=
 ∃sz arr e,w.heap[b]? =some (.cells arr e (0,0))∧(∀r∈rows,r.length=sz)∧arr.size=rows.length*sz∧
  ∀(i j:Nat) r t v,rows[i]? =some r→r[j]? =some t→arr[i*sz+j]? =some v→VT w E t v
structure Turn(F:KSet)(w w':World):Prop where
 os:w'.os=w.os
 tape:w'.tape=w.tape
 output:w'.output=w.output
 size:w.heap.size≤w'.heap.size
 block: ∀b,b<w.heap.size→w'.heap[b]? =w.heap[b]?∨
  ∃arr e arr',w.heap[b]? =some (.cells arr e (0,0))∧w'.heap[b]? =some (.cells arr' e (0,0))∧arr'.size=arr.size∧∀o,¬F b o→arr'[o]? =arr[o]?
theorem Turn.refl(F:KSet)(w:World):Turn F w w:=⟨rfl,rfl,rfl,Nat.le_refl _,fun _ _=>.inl rfl⟩
theorem Turn.trans{F F':KSet}{a b c:World}(h:Turn F a b)(k:Turn F' b c)(hF: ∀i o,i<a.heap.size→F' i o→F i o):Turn F a c:=by
 refine⟨k.os.trans h.os,k.tape.trans h.tape,k.output.trans h.output,Nat.le_trans h.size k.size,fun i hi=>?_⟩
 have hib:i<b.heap.size:=Nat.lt_of_lt_of_le hi h.size
 rcases h.block i hi with h1|⟨arr,e,arr',g1,g2,g3,g4⟩
 ·rcases k.block i hib with k1|⟨brr,e',brr',l1,l2,l3,l4⟩
  ·exact .inl (k1.trans h1)
  ·exact .inr ⟨brr,e',brr',h1.symm.trans l1,l2,l3,fun o ho=>l4 o fun hf=>ho (hF i o hi hf)⟩
 ·rcases k.block i hib with k1|⟨brr,e',brr',l1,l2,l3,l4⟩
  ·exact .inr ⟨arr,e,arr',g1,k1.trans g2,g3,g4⟩
  ·rw [g2]at l1
   injection l1 with l1;injection l1 with l1 l5
   subst l1;subst l5
   exact .inr ⟨arr,e,brr',g1,l2,l3.trans g3,fun o ho=>(l4 o fun hf=>ho (hF i o hi hf)).trans (g4 o ho)⟩
theorem Below.turn{w w':World}(h:Below w.heap.size w w')(F:KSet):Turn F w w':=⟨h.os,h.tape,h.output,h.size,fun b hb=>.inl (h.block b hb)⟩
theorem Turn.below{w w':World}(h:Turn (fun _ _=>False) w w'):Below w.heap.size w w':=by
 refine⟨h.os,h.tape,h.output,h.size,fun b hb=>?_⟩
 rcases h.block b hb with h1|⟨arr,e,arr',g1,g2,g3,g4⟩
 ·exact h1
 ·have:arr'=arr:=by
   apply Array.ext_getElem?
   intro o
   exact g4 o id
  rw [g1,g2,this]
theorem Turn.cell{F:KSet}{w w':World}(h:Turn F w w'){b o:Nat}(hb:b<w.heap.size)(hF: ¬F b o):w'.cell? ⟨b,o,none⟩=w.cell? ⟨b,o,none⟩:=by
 rcases h.block b hb with h1|⟨arr,e,arr',g1,g2,g3,g4⟩
 ·exact World.cell?_of_block (w:=w) (a:=⟨b,o,none⟩) h1
 ·simp [World.cell?,g1,g2,g4 o hF]
theorem Turn.free{F:KSet}{w w':World}(h:Turn F w w'){b o:Nat}(hb:b<w.heap.size)(hf:Free w b o):Free w' b o:=by
 obtain⟨c,t,h1,h2⟩:=hf
 rcases h.block b hb with h3|⟨arr,e,arr',g1,g2,g3,g4⟩
 ·exact⟨c,t,h3.trans h1,h2⟩
 ·rw [g1]at h1;injection h1 with h1;injection h1 with h1 h5;subst h1;subst h5
  exact⟨arr',e,g2,by rw [g3];exact h2⟩
theorem Turn.whole{F:KSet}{w w':World}(h:Turn F w w'){b:Nat}(hb:b<w.heap.size)(hF: ∀o,¬F b o):w'.heap[b]? =w.heap[b]? :=by
 rcases h.block b hb with h1|⟨arr,e,arr',g1,g2,g3,g4⟩
 ·exact h1
 ·have:arr'=arr:=by
   apply Array.ext_getElem?
   intro o
   exact g4 o (hF o)
  rw [g1,g2,this]
structure Origin where
 w:World
 K:KSet
 F:KSet
 ρ:Nat→Nat
 B:Nat
 ro:Option Nat
 mrk:Nat
def Origin.young(X:Origin)(b:Nat):Prop:=X.w.heap.size≤b∨∀o,X.F b o
def Origin.Young(X:Origin)(b o:Nat):Prop:=X.w.heap.size≤b∨X.F b o
def gtab:Nat→Option (List Value):=fun g=>if g=0 then some (Lib.pow10Tab.map fun z=>Value.int .u64 z)else none
def GOk(w:World)(K:KSet):Prop:=∀g vs,gtab g=some vs→∀(o:Nat) v,vs[o]? =some v→v.oneCell'=true∧K g o∧w.cell? ⟨g,o,none⟩=some v
theorem GOk.mono{w w':World}{K K':KSet}(h:GOk w K)(hk: ∀b o,K b o→K' b o∧w'.cell? ⟨b,o,none⟩=w.cell? ⟨b,o,none⟩):GOk w' K':=fun g vs hg o v hv=>
 have q:=h g vs hg o v hv
 ⟨q.1,(hk _ _ q.2.1).1,(hk _ _ q.2.1).2.trans q.2.2⟩
def ztab:List Nat:= [0]
def GSz(w:World):Prop:=∀g∈ztab,∀vs,gtab g=some vs→∃cs e m,w.heap[g]? =some (Obj.cells cs e m)∧cs.size=vs.length
theorem GSz.same{w w':World}(h:GSz w)(hb: ∀(b:Nat) cs e m,w.heap[b]? =some (Obj.cells cs e m)→∃cs' e' m',w'.heap[b]? =some (Obj.cells cs' e' m')∧cs'.size=cs.size):GSz w':=fun g hz vs hg=>by
 obtain⟨cs,e,m,h1,h2⟩:=h g hz vs hg
 obtain⟨cs',e',m',h3,h4⟩:=hb g cs e m h1
 exact⟨cs',e',m',h3,h4.trans h2⟩
theorem GSz.below{w w':World}(h:GSz w)(t:Below w.heap.size w w'):GSz w':=h.same fun b cs e m hb=>⟨cs,e,m,(t.block b (Array.getElem?_eq_some_iff.1 hb).1).trans hb,rfl⟩
theorem GSz.turn{F:KSet}{w w':World}(h:GSz w)(t:Turn F w w'):GSz w':=h.same fun b cs e m hb=>by
 rcases t.block b (Array.getElem?_eq_some_iff.1 hb).1 with g|⟨arr,e',arr',g1,g2,g3,_⟩
 ·exact⟨cs,e,m,g.trans hb,rfl⟩
 ·rw [g1]at hb;injection hb with hb;injection hb with hb1 hb2;subst hb1;exact⟨arr',e',_,g2,g3⟩
def etab:List Nat:= []
def EOk(w:World)(K:KSet):Prop:=∀g∈etab,K g 0∧∃ev,w.cell? ⟨g,0,none⟩=some ev∧(ev= .nilIface∨∃te pe,ev= .iface te pe)
theorem EOk.mono{w w':World}{K K':KSet}(h:EOk w K)(hk: ∀b o,K b o→K' b o∧w'.cell? ⟨b,o,none⟩=w.cell? ⟨b,o,none⟩):EOk w' K':=fun g hg=>
 have q:=h g hg
 ⟨(hk _ _ q.1).1,q.2.imp fun ev he=>⟨(hk _ _ q.1).2.trans he.1,he.2⟩⟩
structure KOk(w:World)(K:KSet):Prop where
 ok: ∀b o,K b o→(w.cell? ⟨b,o,none⟩).isSome=true
 g:GOk w K
 e:EOk w K
 z:GSz w
instance (w:World) (K:KSet):CoeFun (KOk w K) (fun _=>∀b o,K b o→(w.cell? ⟨b,o,none⟩).isSome=true):=⟨KOk.ok⟩
theorem KOk.wide{w w':World}{K K':KSet}(h:KOk w K)(hk: ∀b o,K b o→K' b o∧w'.cell? ⟨b,o,none⟩=w.cell? ⟨b,o,none⟩)(hn: ∀b o,K' b o→(w'.cell? ⟨b,o,none⟩).isSome=true)(hz:GSz w'):KOk w' K':=⟨hn,h.g.mono hk,h.e.mono hk,hz⟩
theorem KOk.move{w w':World}{K:KSet}(h:KOk w K)(hk: ∀b o,K b o→w'.cell? ⟨b,o,none⟩=w.cell? ⟨b,o,none⟩)(hz:GSz w'):KOk w' K:=h.wide (fun b o q=>⟨q,hk b o q⟩) (fun b o q=>by rw [hk b o q];exact h.ok b o q) hz
structure WI(X:Origin)(w:World)(E:Env)(bx:Mem):Prop where
 turn:Turn X.F X.w w
 sep: ∀b o,X.K b o→¬X.F b o
 kin: ∀b o,X.K b o→E.K b o
 kold: ∀b o,b<X.w.heap.size→¬X.F b o→E.K b o→X.K b o
 kok:KOk w E.K
 boxes: ∀n rows,bx n=some rows→rows≠ []→X.young (E.ρ n)∧BoxIs w E (E.ρ n) rows∧∀o,¬E.K (E.ρ n) o
 boxne: ∀n m rn rm,bx n=some rn→rn≠ []→bx m=some rm→rm≠ []→n≠m→E.ρ n≠E.ρ m
 free: ∀n b o,spare (E.val n) b o→X.Young b o∧¬E.K b o∧Free w b o
 disj: ∀n m b o,spare (E.val n) b o→spare (E.val m) b o→n=m
 sbox: ∀n m b o rm,spare (E.val n) b o→bx m=some rm→rm≠ []→b≠E.ρ m
 fix: ∀n,X.B≤n→E.ρ n=X.ρ n
def DefOK(X:Origin)(ds:List Deferred)(w:World):Prop:=
 X.mrk≤X.w.heap.size∧∃Ds:List Nat,Ds.Nodup∧ds=Ds.map (fun D=>{ target:=.collected D,args:= #[] })∧∀D∈Ds,X.mrk≤D∧w.heap[D]? =some (.deferred (some []))
theorem DefOK.nil(X:Origin)(w:World)(h:X.mrk≤X.w.heap.size):DefOK X [] w:=⟨h,[],.nil,rfl,fun _ h=>by cases h⟩
theorem DefOK.of{X:Origin}{ds:List Deferred}{w w':World}(h:DefOK X ds w)(t: ∀D:Nat,X.mrk≤D→w.heap[D]? =some (.deferred (some []))→w'.heap[D]? =some (.deferred (some []))):DefOK X ds w':=by
 obtain⟨h0,Ds,h1,h2,h3⟩:=h
 exact⟨h0,Ds,h1,h2,fun D hD=>⟨(h3 D hD).1,t D (h3 D hD).1 (h3 D hD).2⟩⟩
theorem DefOK.turn{X:Origin}{ds:List Deferred}{w w':World}{F:KSet}(h:DefOK X ds w)(t:Turn F w w'):DefOK X ds w':=
 h.of fun D _ h4=>by
  have hlt:D<w.heap.size:=by
   rcases Nat.lt_or_ge D w.heap.size with h|h
   ·exact h
   ·simp [Array.getElem?_eq_none h]at h4
  rcases t.block D hlt with g|⟨arr,e,arr',g1,_⟩
  ·exact g.trans h4
  ·rw [h4]at g1;cases g1
structure RelE(X:Origin)(s:DS)(E:Env)(a:Act)(w:World):Prop where
 wi:WI X w E s.bx
 sl: ∀t,VD w E (s.sl t) (a.tmps.getD t undef)
 size:a.tmps.size=s.n
 defers:DefOK X a.defers w
 small:s.n≤X.B∧NB≤X.B
 pl:s.pl=true→X.ro=none
def Rel(X:Origin)(s:DS)(a:Act)(w:World):Prop:=∃E,RelE X s E a w
theorem lt_of_cell{w:World}{b o:Nat}(h:(w.cell? ⟨b,o,none⟩).isSome=true):b<w.heap.size:=by
 rcases Nat.lt_or_ge b w.heap.size with h1|h1
 ·exact h1
 ·simp [World.cell?,Array.getElem?_eq_none h1]at h
theorem Free.lt{w:World}{b o:Nat}(h:Free w b o):b<w.heap.size:=by
 obtain⟨arr,e,h,_⟩:=h
 rcases Nat.lt_or_ge b w.heap.size with h1|h1
 ·exact h1
 ·simp [Array.getElem?_eq_none h1]at h
theorem BoxIs.lt{w:World}{E:Env}{b:Nat}{rows:Rows}(h:BoxIs w E b rows):b<w.heap.size:=by
 obtain⟨sz,arr,e,h,_⟩:=h
 rcases Nat.lt_or_ge b w.heap.size with h1|h1
 ·exact h1
 ·simp [Array.getElem?_eq_none h1]at h
structure Quiet(w:World)(E:Env)(w':World)(E':Env):Prop where
 below:Below w.heap.size w w'
 kin: ∀b o,E.K b o→E'.K b o
 kold: ∀b o,b<w.heap.size→E'.K b o→E.K b o
 kok:KOk w' E'.K
 ρ:E'.ρ=E.ρ
 val:E'.val=E.val
theorem Quiet.later{w w':World}{E E':Env}(hk:KOk w E.K)(h:Quiet w E w' E'):Later w E w' E':=
 ⟨fun b o hb=>⟨h.kin b o hb,h.below.cell (p:=⟨b,o,none⟩) (lt_of_cell (hk b o hb))⟩,h.ρ,h.val⟩
theorem Quiet.refl{w:World}{E:Env}(hk:KOk w E.K):Quiet w E w E:=
 ⟨Below.refl _ _,fun _ _ h=>h,fun _ _ _ h=>h,hk,rfl,rfl⟩
theorem BoxIs.mono{w w':World}{E E':Env}(h:Later w E w' E'){b:Nat}{rows:Rows}(hb:w'.heap[b]? =w.heap[b]?)(hx:BoxIs w E b rows):BoxIs w' E' b rows:=by
 obtain⟨sz,arr,e,h1,h2,h3,h4⟩:=hx
 exact⟨sz,arr,e,hb.trans h1,h2,h3,fun i j r t v hi ht hv=>(h4 i j r t v hi ht hv).mono h⟩
theorem Rows.tr_ne{r:Ren}{rows:Rows}(h:Rows.tr r rows≠ []):rows≠ []:=fun e=>h (by rw [e];rfl)
theorem BoxIs.tr{w:World}{E E':Env}{r:Ren}(hR:Renames r E E'){b:Nat}{rows:Rows}(hx:BoxIs w E b rows):BoxIs w E' b (Rows.tr r rows):=by
 obtain⟨sz,arr,e,h1,h2,h3,h4⟩:=hx
 refine⟨sz,arr,e,h1,fun x hx=>?_,by simpa [Rows.tr]using h3,fun i j x t v hi ht hv=>?_⟩
 ·simp only [Rows.tr,List.mem_map]at hx
  obtain⟨y,hy,rfl⟩:=hx
  rw [T.trAll_eq,List.length_map];exact h2 y hy
 ·simp only [Rows.tr,List.getElem?_map]at hi
  cases hc:rows[i]? with
  | none=>rw [hc]at hi;cases hi
  | some y=>
   rw [hc]at hi;injection hi with hi;subst hi
   rw [T.trAll_eq,List.getElem?_map]at ht
   cases hd:y[j]? with
   | none=>rw [hd]at ht;cases ht
   | some t'=>rw [hd]at ht;injection ht with ht;subst ht;exact(h4 i j y t' v hc hd hv).tr hR
theorem WI.quiet{X:Origin}{w w':World}{E E':Env}{bx:Mem}(h:WI X w E bx)(q:Quiet w E w' E'):WI X w' E' bx:=by
 have hl:=q.later h.kok
 have hsz:X.w.heap.size≤w.heap.size:=h.turn.size
 refine⟨h.turn.trans (Below.turn q.below (fun _ _=>False)) (fun _ _ _ h=>h.elim),h.sep,fun b o hb=>q.kin b o (h.kin b o hb),fun b o hlt hF hb=>h.kold b o hlt hF (q.kold b o (by omega) hb),q.kok,?_,?_,?_,?_,?_,?_⟩
 ·intro n rows hn hne
  obtain⟨h1,h2,h3⟩:=h.boxes n rows hn hne
  rw [q.ρ]
  exact⟨h1,h2.mono hl (q.below.block _ h2.lt),fun o ho=>h3 o (q.kold _ o h2.lt ho)⟩
 ·rw [q.ρ];exact h.boxne
 ·intro n b o hs
  rw [q.val]at hs
  obtain⟨h1,h2,h3⟩:=h.free n b o hs
  refine⟨h1,fun hk=>h2 (q.kold b o h3.lt hk),?_⟩
  obtain⟨arr,e,h4,h5⟩:=h3
  have hlt:b<w.heap.size:=Free.lt (w:=w) ⟨arr,e,h4,h5⟩
  exact⟨arr,e,(q.below.block b hlt).trans h4,h5⟩
 ·rw [q.val];exact h.disj
 ·rw [q.val,q.ρ];exact h.sbox
 ·rw [q.ρ];exact h.fix
theorem getD_put(a:Act)(dst:Option Nat)(v:Value)(t:Nat)(h: ∀d,dst=some d→d<a.tmps.size):
  (a.put dst v).tmps.getD t undef=if dst=some t then v else a.tmps.getD t undef:=by
 cases dst with
 | none=>simp [Act.put]
 | some d=>
  have hd:=h d rfl
  simp only [Act.put,Option.some.injEq]
  by_cases he:d=t
  ·subst he;simp [hd]
  ·simp [he,Array.getElem?_setIfInBounds]
theorem RelE.put{X:Origin}{s:DS}{E E':Env}{a:Act}{w w':World}(h:RelE X s E a w)(q:Quiet w E w' E'){dst:Option Nat}(hd: ∀d,dst=some d→d<s.n){d:D}{v:Value}
  (hv:VD w' E' d v):RelE X (s.put dst d) E' (a.put dst v) w':=by
 have hl:=q.later h.wi.kok
 refine⟨?_,fun t=>?_,?_,?_,?_,?_⟩
 ·have:(s.put dst d).bx=s.bx:=by cases dst<;>rfl
  rw [this];exact h.wi.quiet q
 ·rw [getD_put a dst v t (fun d he=>by rw [h.size];exact hd d he)]
  cases dst with
  | none=>simpa [DS.put]using (h.sl t).mono hl
  | some d'=>
   by_cases he:t=d'
   ·subst he;simpa [DS.put]using hv
   ·have: ¬(some d'=some t):=by simpa using fun e=>he e.symm
    simp only [DS.put,if_neg he,if_neg this]
    exact(h.sl t).mono hl
 ·rw [show (a.put dst v).tmps.size=a.tmps.size from by cases dst<;>simp [Act.put],h.size]
  cases dst<;>rfl
 ·rw [show (a.put dst v).defers=a.defers from by cases dst<;>rfl];exact h.defers.turn (Below.turn q.below (fun _ _=>False))
 ·rw [show (s.put dst d).n=s.n from by cases dst<;>rfl];exact h.small
 ·rw [show (s.put dst d).pl=s.pl from by cases dst<;>rfl];exact h.pl
structure Hush(n:Nat)(w w':World):Prop where
 os:w'.os=w.os
 tape:w'.tape=w.tape
 output:w'.output=w.output
 size:w.heap.size≤w'.heap.size
 old: ∀b:Nat,b<n→w'.heap[b]? =w.heap[b]?
 cells: ∀(b:Nat) arr e m,w.heap[b]? =some (Obj.cells arr e m)→w'.heap[b]? =w.heap[b]?
theorem GSz.hush{n:Nat}{w w':World}(h:GSz w)(c:Hush n w w'):GSz w':=h.same fun b cs e m hb=>⟨cs,e,m,(c.cells b cs e m hb).trans hb,rfl⟩
theorem cells_of_cell{w:World}{b o:Nat}(h:(w.cell? ⟨b,o,none⟩).isSome=true): ∃arr e m,w.heap[b]? =some (Obj.cells arr e m):=by
 unfold World.cell? at h
 cases hb:w.heap[b]? with
 | none=>simp [hb]at h
 | some ob=>cases ob<;>first|exact⟨_,_,_,rfl⟩|simp [hb]at h
theorem Hush.later{n:Nat}{w w':World}(c:Hush n w w'){E:Env}(hk:KOk w E.K):Later w E w' E:=
 ⟨fun b o hb=>⟨hb,by
  obtain⟨arr,e,m,h⟩:=cells_of_cell (hk b o hb)
  exact World.cell?_of_block (w:=w) (a:=⟨b,o,none⟩) (c.cells b arr e m h)⟩,rfl,rfl⟩
structure Wider(w w':World)(E E':Env):Prop where
 kin: ∀b o,E.K b o→E'.K b o
 new: ∀b o,E'.K b o→E.K b o∨(w.heap.size≤b∧(w'.cell? ⟨b,o,none⟩).isSome=true)
 ρ:E'.ρ=E.ρ
 val:E'.val=E.val
theorem Wider.refl(w w':World)(E:Env):Wider w w' E E:=⟨fun _ _ h=>h,fun _ _ h=>.inl h,rfl,rfl⟩
theorem Hush.laterW{n:Nat}{w w':World}(c:Hush n w w'){E E':Env}(g:Wider w w' E E')(hk:KOk w E.K):Later w E w' E':=
 ⟨fun b o hb=>⟨g.kin b o hb,((c.later hk).keep b o hb).2⟩,g.ρ,g.val⟩
theorem WI.hushW{X:Origin}{w w':World}{E E':Env}{bx:Mem}(h:WI X w E bx)(c:Hush X.w.heap.size w w')(g:Wider w w' E E'):WI X w' E' bx:=by
 have hl:=c.laterW g h.kok
 have hsz:=h.turn.size
 refine⟨⟨c.os.trans h.turn.os,c.tape.trans h.turn.tape,c.output.trans h.turn.output,Nat.le_trans h.turn.size c.size,fun b hb=>by rw [c.old b hb];exact h.turn.block b hb⟩,h.sep,fun b o hb=>g.kin b o (h.kin b o hb),fun b o hb hF hk=>?_,h.kok.wide hl.keep (fun b o hb=>?_) (h.kok.z.hush c),fun n rows hn hne=>?_,?_,fun n b o hs=>?_,?_,?_,?_⟩
 ·rcases g.new b o hk with hk|⟨hk,_⟩
  ·exact h.kold b o hb hF hk
  ·omega
 ·rcases g.new b o hb with hk|⟨_,hk⟩
  ·rw [(hl.keep b o hk).2];exact h.kok b o hk
  ·exact hk
 ·obtain⟨h1,h2,h3⟩:=h.boxes n rows hn hne
  rw [g.ρ]
  have hlt:=h2.lt
  obtain⟨sz,arr,e,q,_⟩:=id h2
  refine⟨h1,h2.mono hl (c.cells _ _ _ _ q),fun o ho=>?_⟩
  rcases g.new _ o ho with hk|⟨hk,_⟩
  ·exact h3 o hk
  ·omega
 ·rw [g.ρ];exact h.boxne
 ·rw [g.val]at hs
  obtain⟨h1,h2,h3⟩:=h.free n b o hs
  have hlt:=h3.lt
  obtain⟨arr,e,h3,h4⟩:=h3
  refine⟨h1,fun hk=>?_,arr,e,(c.cells _ _ _ _ h3).trans h3,h4⟩
  rcases g.new _ o hk with hk|⟨hk,_⟩
  ·exact h2 hk
  ·omega
 ·rw [g.val];exact h.disj
 ·rw [g.val,g.ρ];exact h.sbox
 ·rw [g.ρ];exact h.fix
theorem WI.hush{X:Origin}{w w':World}{E:Env}{bx:Mem}(h:WI X w E bx)(c:Hush X.w.heap.size w w'):WI X w' E bx:=h.hushW c (Wider.refl _ _ _)
theorem RelE.hushW{X:Origin}{s:DS}{E E':Env}{a a':Act}{w w':World}(h:RelE X s E a w)(c:Hush X.w.heap.size w w')(g:Wider w w' E E')(ht:a'.tmps=a.tmps)(hd:DefOK X a'.defers w'):RelE X s E' a' w':=
 ⟨h.wi.hushW c g,fun t=>by rw [ht];exact(h.sl t).mono (c.laterW g h.wi.kok),by rw [ht];exact h.size,hd,h.small,h.pl⟩
theorem RelE.hush{X:Origin}{s:DS}{E:Env}{a a':Act}{w w':World}(h:RelE X s E a w)(c:Hush X.w.heap.size w w')(ht:a'.tmps=a.tmps)(hd:DefOK X a'.defers w'):RelE X s E a' w':=
 ⟨h.wi.hush c,fun t=>by rw [ht];exact(h.sl t).mono (c.later h.wi.kok),by rw [ht];exact h.size,hd,h.small,h.pl⟩
theorem Hush.putObj{n:Nat}{w:World}{r:Nat}{o:Obj}(o':Obj)(hX:n≤r)(ho:w.heap[r]? =some o)(hc: ∀arr e m,o≠Obj.cells arr e m):Hush n w (w.putObj r o'):=
 ⟨rfl,rfl,rfl,by simp,fun b hb=>World.putObj_heap_other (by omega),fun b arr e m hb=>World.putObj_heap_other fun hbr=>by subst hbr;rw [ho]at hb;injection hb with hb;exact hc _ _ _ hb⟩
theorem Hush.alloc{n:Nat}{w:World}(o:Obj)(hX:n≤w.heap.size):Hush n w (w.alloc o):=
 ⟨rfl,rfl,rfl,by simp,fun b hb=>Below.heap_alloc w o b (by omega),fun b arr e m hb=>Below.heap_alloc w o b (Array.getElem?_eq_some_iff.1 hb).1⟩
theorem Hush.drew(n:Nat)(w:World):Hush n w w.drew:=⟨rfl,rfl,rfl,Nat.le_refl _,fun _ _=>rfl,fun _ _ _ _ _=>rfl⟩
theorem Hush.trans{n:Nat}{a b c:World}(h:Hush n a b)(k:Hush n b c):Hush n a c:=
 ⟨k.os.trans h.os,k.tape.trans h.tape,k.output.trans h.output,Nat.le_trans h.size k.size,fun i hi=>(k.old i hi).trans (h.old i hi),
  fun i arr e m hi=>by have:=h.cells i arr e m hi;exact(k.cells i arr e m (this.trans hi)).trans this⟩
theorem Hush.mono{n n':Nat}{a b:World}(h:Hush n a b)(hn:n'≤n):Hush n' a b:=⟨h.os,h.tape,h.output,h.size,fun i hi=>h.old i (by omega),h.cells⟩
end Go.Dl
/- The logic of data: the rules of a function's text (sequences, tests, blocks, loops), the contract of a function said by data, and how it is won from the function's body. -/
namespace Go.Dl
open Go.RowKit
def constD:Value→D
 | .agg _| .tuple _=>.any
 | v=>.one (.c (.lit v))
def globD(g:Nat):D:=
 match gtab g with
 | some vs=>.one (.c (.pt (vs.map C.lit)))
 | none=>.any
def DS.ev(s:DS):Operand→D
 | .tmp t=>s.sl t
 | .const v=>constD v
 | .global g=>globD g
 | .func f=>.one (.c (.fn f []))
theorem constD_ok(w:World)(E:Env)(v:Value):VD w E (constD v) v:=by
 cases v<;>first|exact .any _|exact .one _ _ (.c _ _ (.lit _ rfl))
theorem RelE.ev{X:Origin}{s:DS}{E:Env}{a:Act}{w:World}(h:RelE X s E a w)(x:Operand):VD w E (s.ev x) (a.eval x):=by
 cases x with
 | tmp t=>exact h.sl t
 | const v=>exact constD_ok w E v
 | global g=>
  show VD w E (globD g) _
  unfold globD
  cases hg:gtab g with
  | none=>exact .any _
  | some vs=>
   refine .one _ _ (.c _ _ (.pt _ g 0 (fun j=>vs.getD j undef) (fun j hj=>?_) fun j c hc=>?_))
   ·have hj':j<vs.length:=by simpa using hj
    have hv:vs[j]? =some (vs.getD j undef):=by simp [List.getD,hj']
    obtain⟨_,h2,h3⟩:=h.wi.kok.g g vs hg j _ hv
    rw [Nat.zero_add];exact⟨h2,h3⟩
   ·rw [List.getElem?_map]at hc
    cases hv:vs[j]? with
    | none=>rw [hv]at hc;cases hc
    | some v=>
     rw [hv]at hc;injection hc with hc;subst hc
     have hgd:vs.getD j undef=v:=by simp [List.getD,hv]
     rw [hgd];exact .lit v (h.wi.kok.g g vs hg j v hv).1
 | func f=>exact .one _ _ (.c _ _ (.fn f [] #[] rfl (fun j c v h1 _=>by simp at h1)))
def thenD(next:DS→Prop)(Q:Exit→DS→Prop):Exit→DS→Prop
 | .normal,s=>next s
 | e,s=>Q e s
def inBlockD(id:Nat)(Q:Exit→DS→Prop):Exit→DS→Prop
 | .exit id',s=>if id'=id then Q .normal s else Q (.exit id') s
 | e,s=>Q e s
def rd:Option Nat→Fence
 | none=>Fence.wide
 | some l=>Fence.wide.inRound l
theorem rd_round(ro:Option Nat):(rd ro).round=ro:=by cases ro<;>rfl
theorem rd_fn(ro:Option Nat)(f:FuncId):(rd ro).fn f:=by cases ro<;>exact trivial
theorem rd_depth(ro:Option Nat):(rd ro).depth=none:=by cases ro<;>rfl
theorem rd_fenced(ro:Option Nat)(P:Program):Machine.fenced P (rd ro)=Machine.fenced P Fence.wide:=by cases ro<;>rfl
def DW(P:Program)(c:Code)(s:DS)(Q:Exit→DS→Prop):Prop:=
 ∀X a w,Rel X s a w→c.wpIn (rd X.ro) 0 P (fun e a' w'=>∃s',Q e s'∧Rel X s' a' w') a w
section
variable {P : Program} {s : DS} {Q : Exit → DS → Prop}
theorem DW.mono{c:Code}{Q':Exit→DS→Prop}(h:DW P c s Q)(hq: ∀e s,Q e s→Q' e s):DW P c s Q':=
 fun X a w hr=>wpIn_mono (h X a w hr) (fun e _ _ ⟨s',h1,h2⟩=>⟨s',hq e s' h1,h2⟩)
theorem dw_seq{x y:Code}(h:DW P x s (thenD (fun s'=>DW P y s' Q) Q)):DW P (.seq x y) s Q:=by
 intro X a w hr
 refine wpIn_seq (wpIn_mono (h X a w hr) ?_)
 intro e a' w' ⟨s',h1,h2⟩
 cases e with
 | normal=>exact h1 X a' w' h2
 | _=>exact⟨s',h1,h2⟩
theorem dw_skip(h:Q .normal s):DW P .skip s Q:=fun _ _ _ hr=>wpIn_skip ⟨s,h,hr⟩
theorem dw_exit{id:Nat}(h:Q (.exit id) s):DW P (.exit id) s Q:=fun _ _ _ hr=>wpIn_exit ⟨s,h,hr⟩
theorem dw_ret(h:Q .ret s):DW P .ret s Q:=fun _ _ _ hr=>wpIn_ret ⟨s,h,hr⟩
theorem dw_block{id:Nat}{c:Code}(h:DW P c s (inBlockD id Q)):DW P (.block id c) s Q:=by
 intro X a w hr
 refine wpIn_block (wpIn_mono (h X a w hr) ?_)
 intro e a' w' ⟨s',h1,h2⟩
 cases e with
 | exit id'=>
  simp only [Exit.inBlock,inBlockD]at h1 ⊢
  split
  ·rename_i he;rw [if_pos he]at h1;exact⟨s',h1,h2⟩
  ·rename_i he;rw [if_neg he]at h1;exact⟨s',h1,h2⟩
 | _=>exact⟨s',h1,h2⟩
theorem VD.lit{w:World}{E:Env}{u v:Value}(h:VD w E (.one (.c (.lit u))) v):v=u:=by
 cases h with
 | one t v h=>cases h with
  | c c v h=>cases h with
   | lit v h=>rfl
theorem dw_cond{c:Operand}{x y:Code}{t:Bool}(hc:s.ev c= .one (.c (.lit (.bool t))))(ht:t=true→DW P x s Q)(hf:t=false→DW P y s Q):DW P (.cond c x y) s Q:=by
 intro X a w hr
 obtain⟨E,hE⟩:=hr
 have hv:=hE.ev c
 rw [hc]at hv
 refine wpIn_cond_split hv.lit (fun h=>ht h X a w ⟨E,hE⟩) (fun h=>hf h X a w ⟨E,hE⟩)
def DS.Sub(s s':DS):Prop:=∀X a w,Rel X s a w→Rel X s' a w
theorem dw_weaken{c:Code}{s':DS}(hs:s.Sub s')(h:DW P c s' Q):DW P c s Q:=fun X a w hr=>h X a w (hs X a w hr)
theorem dw_post{c:Code}(h:DW P c s (fun e s1=>∃s2,s1.Sub s2∧Q e s2)):DW P c s Q:=fun X a w hr=>
 wpIn_mono (h X a w hr) (fun _ _ _ ⟨_,⟨s2,h1,h2⟩,h3⟩=>⟨s2,h2,h1 X _ _ h3⟩)
/-! ### What lies behind an address -/
def Program.ldk(P:Program)(t:TypeId):Option (Option Nat):=
 match P.underlying t,P.info? t with
 | some (.struct _),some i|some (.array _ _),some i=>some (some i.size)
 | some _,some _=>some none
 | _,_=>none
def rowAt(rows:Rows)(sz i:Nat):Option (List T):=(rows[i]?).bind fun r=>if r.length=sz then some r else none
def ldD(P:Program)(bx:Mem)(t:TypeId)(x:D):Option D:=
 match Program.ldk P t,x with
 | some none,.one (.c (.pt (c::_)))=>some (.one (.c c))
 | some none,.one (.bx n sz i o)=>(bx n).bind fun rows=>(rowAt rows sz i).bind fun r=>r[o]?.map .one
 | some (some k),.one (.c (.pt cs))=>if k≤cs.length then some (.agg ((cs.take k).map T.c))else none
 | some (some k),.one (.bx n sz i o)=>(bx n).bind fun rows=>(rowAt rows sz i).bind fun r=>if o+k≤r.length then some (.agg ((r.drop o).take k))else none
 | _,_=>none
theorem rowAt_ok{rows:Rows}{sz i:Nat}{r:List T}(h:rowAt rows sz i=some r):rows[i]? =some r∧r.length=sz∧rows≠ []:=by
 unfold rowAt at h
 simp only [Option.bind_eq_some_iff]at h
 obtain⟨r',h1,h2⟩:=h
 split at h2
 ·rename_i hl;injection h2 with h2;subst h2
  exact⟨h1,hl,fun e=>by rw [e]at h1;simp at h1⟩
 ·cases h2
theorem BoxIs.row{w:World}{E:Env}{b:Nat}{rows:Rows}(h:BoxIs w E b rows){i:Nat}{r:List T}(hr:rows[i]? =some r):
  ∃arr e,w.heap[b]? =some (.cells arr e (0,0))∧(i+1)*r.length≤arr.size∧∀(j:Nat) t v,r[j]? =some t→arr[i*r.length+j]? =some v→VT w E t v:=by
 obtain⟨sz,arr,e,h1,h2,h3,h4⟩:=h
 have hl:=h2 r (List.mem_of_getElem? hr)
 subst hl
 have hi:i<rows.length:=(List.getElem?_eq_some_iff.1 hr).1
 exact⟨arr,e,h1,by rw [h3];exact Nat.mul_le_mul_right _ hi,fun j t v g1 g2=>h4 i j r t v hr g1 g2⟩
theorem ldk_one{P:Program}{t:TypeId}(h:Program.ldk P t=some none)(a:Addr)(w:World):(loadVar t a).run P w=(load a).run P w:=by
 unfold Program.ldk at h
 cases hu:P.underlying t with
 | none=>rw [hu]at h;cases h
 | some d=>
  cases hi:P.info? t with
  | none=>rw [hu,hi]at h;cases d<;>cases h
  | some i=>
   rw [hu,hi]at h
   have hg:(isAgg t).run P w= .ok false w:=by
    cases d<;>first|(simp [isAgg,run_underlying hu];done)|cases h
   simp [loadVar,hg]
theorem ldk_agg{P:Program}{t:TypeId}{k:Nat}(h:Program.ldk P t=some (some k))(a:Addr)(w:World):
  (loadVar t a).run P w=((loadCells a k).run P w).andThen fun cs w'=>.ok (.agg cs) w':=by
 unfold Program.ldk at h
 cases hu:P.underlying t with
 | none=>rw [hu]at h;cases h
 | some d=>
  cases hi:P.info? t with
  | none=>rw [hu,hi]at h;cases d<;>cases h
  | some i=>
   rw [hu,hi]at h
   have hk:i.size=k:=by cases d<;>simp at h<;>exact h
   have hg:(isAgg t).run P w= .ok true w:=by
    cases d<;>first|(simp [isAgg,run_underlying hu];done)|(simp at h)
   simp [loadVar,hg,sizeOf,typeInfo,hi,hk]
theorem add_none(b o n:Nat):(⟨b,o,none⟩:Addr).add n=⟨b,o+n,none⟩:=by
 unfold Addr.add;split
 ·rename_i h;subst h;rfl
 ·rfl
theorem ldD_ok{P:Program}{bx:Mem}{t:TypeId}{x d:D}(h:ldD P bx t x=some d){w:World}{E:Env}(hb: ∀n rows,bx n=some rows→rows≠ []→BoxIs w E (E.ρ n) rows){v:Value}
  (hv:VD w E x v): ∃ad u,v= .pointer (some ad)∧(loadVar t ad).run P w= .ok u w∧VD w E d u:=by
 unfold ldD at h
 split at h
 ·rename_i hk
  injection h with h;subst h
  cases hv with|one t v hv=>cases hv with|c c v hv=>cases hv with
   | pt cs b o cv hK hr=>
    refine⟨_,cv 0,rfl,?_,.one _ _ (.c _ _ (hr 0 _ rfl))⟩
    rw [ldk_one hk]
    have:=(hK 0 (by simp)).2
    simp only [Nat.add_zero]at this
    simp [this]
 ·rename_i n sz i o hk
  simp only [Option.bind_eq_some_iff,Option.map_eq_some_iff]at h
  obtain⟨rows,hbn,r,hrow,t',ht,rfl⟩:=h
  obtain⟨g1,g2,g3⟩:=rowAt_ok hrow
  obtain⟨arr,e,h1,h2,h3⟩:=(hb n rows hbn g3).row g1
  subst g2
  cases hv with|one t v hv=>cases hv with
   | bx n sz i o=>
    have ho:o<r.length:=(List.getElem?_eq_some_iff.1 ht).1
    have hlt:i*r.length+o<arr.size:=by
     rw [Nat.add_mul,Nat.one_mul]at h2;omega
    refine⟨_,arr[i*r.length+o],rfl,?_,.one _ _ (h3 o t' _ ht (Array.getElem?_eq_getElem hlt))⟩
    rw [ldk_one hk]
    simp [World.cell?,h1,hlt]
 ·rename_i k cs hk
  split at h
  ·rename_i hle
   injection h with h;subst h
   cases hv with|one t v hv=>cases hv with|c c v hv=>cases hv with
    | pt cs b o cv hK hr=>
     refine⟨_,.agg ((List.range k).map cv).toArray,rfl,?_,?_⟩
     ·rw [ldk_agg hk,run_loadCells w _ k cv (fun j hj=>by rw [add_none];exact(hK j (by omega)).2)]
      rfl
     ·refine .agg _ _ (by simp;omega) fun j c v h1 h2=>?_
      rw [List.getElem?_map,List.getElem?_take]at h1
      split at h1
      ·rename_i hj
       have:v=cv j:=by simp [hj]at h2;exact h2.symm
       subst this
       cases hc:cs[j]? with
       | none=>rw [hc]at h1;cases h1
       | some c'=>rw [hc]at h1;injection h1 with h1;subst h1;exact .c _ _ (hr j c' hc)
      ·cases h1
  ·cases h
 ·rename_i k n sz i o hk
  simp only [Option.bind_eq_some_iff]at h
  obtain⟨rows,hbn,r,hrow,h⟩:=h
  split at h
  ·rename_i hle
   injection h with h;subst h
   obtain⟨g1,g2,g3⟩:=rowAt_ok hrow
   obtain⟨arr,e,h1,h2,h3⟩:=(hb n rows hbn g3).row g1
   subst g2
   rw [Nat.add_mul,Nat.one_mul]at h2
   cases hv with|one t v hv=>cases hv with
    | bx n sz i o=>
     refine⟨_,.agg ((List.range k).map fun j=>arr.getD (i*r.length+o+j) undef).toArray,rfl,?_,?_⟩
     ·rw [ldk_agg hk,run_loadCells w _ k (fun j=>arr.getD (i*r.length+o+j) undef) (fun j hj=>by
       rw [add_none]
       have:i*r.length+o+j<arr.size:=by omega
       simp [World.cell?,h1,this])]
      rfl
     ·refine .agg _ _ (by simp;omega) fun j c v k1 k2=>?_
      have hj:j<k:=by
       have:=(Array.getElem?_eq_some_iff.1 k2).1
       simpa using this
      have hlt:i*r.length+o+j<arr.size:=by omega
      have hv:v=arr[i*r.length+o+j]:=by
       simp [hj,hlt]at k2;exact k2.symm
      subst hv
      rw [List.getElem?_take,if_pos hj,List.getElem?_drop]at k1
      exact h3 (o+j) c _ k1 (by rw [← Nat.add_assoc];exact Array.getElem?_eq_getElem hlt)
  ·cases h
 ·cases h
/-! ### The contract of a function, said by data -/
def E0(K:KSet):Env:=⟨K,fun _=>0,fun _=>(.slice none 0 0,0)⟩
structure Ret(w:World)(K:KSet)(w':World)(E':Env):Prop where
 below:Below w.heap.size w w'
 kin: ∀b o,K b o→E'.K b o
 kold: ∀b o,b<w.heap.size→E'.K b o→K b o
 kok:KOk w' E'.K
 free: ∀n b o,spare (E'.val n) b o→w.heap.size≤b∧¬E'.K b o∧Free w' b o
 disj: ∀n m b o,spare (E'.val n) b o→spare (E'.val m) b o→n=m
def Program.plainF(P:Program)(f:FuncId):Bool:=
 match P.funcs[f]? with
 | some fn => fn.name != "runtime.NumGoroutine" && fn.body.isSome
 | none=>false
def DCalls(P:Program)(f:FuncId)(ds:List D)(r:D):Prop:=
 Program.plainF P f=true∧∀(w:World) (K:KSet) (vs:Array Value),KOk w K→vs.size=ds.length→
  (∀(j:Nat) d v,ds[j]? =some d→vs[j]? =some v→VD w (E0 K) d v)→
  Calls P f vs w fun e w'=>∃v E',e= .returned v∧Ret w K w' E'∧VD w' E' r v
def resL(P:Program)(s:DS):List ResultVar→Option (List D)
 | []=>some []
 | .tmp t::r=>(resL P s r).map fun l=>s.sl t::l
 | .cell a t::r=>(ldD P s.bx t (s.sl a)).bind fun d=>(resL P s r).map fun l=>d::l
def resD(P:Program)(s:DS)(rs:List ResultVar):Option D:=
 (resL P s rs).map fun
  | [d]=>d
  | ds=>.tup ds
def resF(tmps:Array Value):ResultVar→Sem Value
 | .tmp t=>pure (tmps.getD t undef)
 | .cell b t=>do loadVar t (← asAddr (tmps.getD b undef))
theorem results_eq(fn:Func)(tmps:Array Value):results fn tmps=(do
  let vs ← fn.results.mapM (resF tmps)
  pure (if h:vs.size=1 then vs[0]else .tuple vs)):=by
 unfold results
 congr 1
theorem resL_ok{P:Program}{X:Origin}{s:DS}{E:Env}{a:Act}{w:World}(hr:RelE X s E a w): ∀(rs:List ResultVar) (ds:List D),resL P s rs=some ds→
  ∃vs:List Value,(rs.mapM (resF a.tmps)).run P w= .ok vs w∧vs.length=ds.length∧∀(j:Nat) d v,ds[j]? =some d→vs[j]? =some v→VD w E d v
 | [],ds,h=>by
  injection h with h;subst h
  exact⟨[],by simp,rfl,fun j d v h1 _=>by simp at h1⟩
 | .tmp t::r,ds,h=>by
  simp only [resL,Option.map_eq_some_iff]at h
  obtain⟨l,hl,rfl⟩:=h
  obtain⟨vs,h1,h2,h3⟩:=resL_ok hr r l hl
  refine⟨a.tmps.getD t undef::vs,by simp only [List.mapM_cons,Sem.run_bind,resF,Sem.run_pure,h1,Result.andThen_ok],by simp [h2],fun j d v g1 g2=>?_⟩
  cases j with
  | zero=>simp at g1 g2;subst g1;subst g2;simpa using hr.sl t
  | succ j=>exact h3 j d v (by simpa using g1) (by simpa using g2)
 | .cell b t::r,ds,h=>by
  simp only [resL,Option.bind_eq_some_iff,Option.map_eq_some_iff]at h
  obtain⟨d0,hd,l,hl,rfl⟩:=h
  obtain⟨vs,h1,h2,h3⟩:=resL_ok hr r l hl
  obtain⟨ad,u,g1,g2,g3⟩:=ldD_ok hd (fun n ts hn hne=>(hr.wi.boxes n ts hn hne).2.1) (hr.sl b)
  refine⟨u::vs,?_,by simp [h2],fun j d v k1 k2=>?_⟩
  ·have ha:(asAddr (a.tmps.getD b undef)).run P w= .ok ad w:=by rw [g1];rfl
   have hf:(resF a.tmps (.cell b t)).run P w= .ok u w:=by simp only [resF,Sem.run_bind,ha,Result.andThen_ok,g2]
   simp only [List.mapM_cons,Sem.run_bind,hf,Sem.run_pure,h1,Result.andThen_ok]
  ·cases j with
   | zero=>simp at k1 k2;subst k1;subst k2;exact g3
   | succ j=>exact h3 j d v (by simpa using k1) (by simpa using k2)
theorem resD_ok{P:Program}{X:Origin}{s:DS}{E:Env}{a:Act}{w:World}(hr:RelE X s E a w){fn:Func}{r:D}(h:resD P s fn.results.toList=some r):
  ∃v,(results fn a.tmps).run P w= .ok v w∧VD w E r v:=by
 simp only [resD,Option.map_eq_some_iff]at h
 obtain⟨ds,hds,hr'⟩:=h
 obtain⟨vs,h1,h2,h3⟩:=resL_ok hr _ ds hds
 have hm:(fn.results.mapM (resF a.tmps)).run P w= .ok vs.toArray w:=by
  rw [Array.mapM_eq_mapM_toList]
  simp only [Sem.run_map,h1,Result.andThen_ok]
 rw [results_eq]
 simp only [Sem.run_bind,hm,Result.andThen_ok,Sem.run_pure]
 match ds,vs,h2 with
 | [d],[v],_=>
  subst hr'
  exact⟨v,by simp,h3 0 d v rfl rfl⟩
 | [],[],_=>
  subst hr'
  exact⟨.tuple #[],by simp,.tup [] #[] rfl (fun j d v g1 _=>by simp at g1)⟩
 | d::d'::ds,v::v'::vs,h2=>
  subst hr'
  exact⟨.tuple (v::v'::vs).toArray,by simp,.tup _ _ (by simpa using h2) (fun j d v g1 g2=>h3 j d v g1 (by simpa using g2))⟩
theorem leave_marks{fn:Func}{X:Origin}{s:DS}{E:Env}{a:Act}{w:World}(hmk:X.w.heap.size≤X.mrk)(hE:RelE X s E a w){r:D}(hr:resD P s fn.results.toList=some r){R:Ending→World→Prop}
  (hR: ∀w₂ v,WI X w₂ E s.bx→VD w₂ E r v→R (.returned v) w₂):LeavesInM Fence.wide 0 P fn a.tmps R a.defers .returning w:=by
 have key: ∀(Ds:List Nat) (w:World),Ds.Nodup→RelE X s E { a with defers:= [] } w→(∀D∈Ds,X.w.heap.size≤D∧w.heap[D]? =some (.deferred (some [])))→
   LeavesInM Fence.wide 0 P fn a.tmps R (Ds.map (fun D=>{ target:=.collected D,args:= #[] })) .returning w:=by
  intro Ds
  induction Ds with
  | nil=>
   intro w _ h _
   obtain⟨v,h1,h2⟩:=resD_ok h hr
   exact⟨v,h1,hR _ _ h.wi h2⟩
  | cons D Ds ih=>
   intro w hnd h hD
   obtain⟨h1,h2⟩:=List.nodup_cons.1 hnd
   obtain⟨h3,h4⟩:=hD D (by simp)
   refine⟨by simp,.inl ⟨D,_,rfl,run_takeDeferred h4,ih _ h2 (h.hush (Hush.putObj _ h3 h4 (by simp)) rfl (DefOK.nil _ _ hE.defers.1)) fun D' hD'=>?_⟩⟩
   obtain⟨g1,g2⟩:=hD D' (by simp [hD'])
   exact⟨g1,(World.putObj_heap_other (show D'≠D from fun e=>h1 (by rw [← e];exact hD'))).trans g2⟩
 obtain⟨h0,Ds,hnd,hds,hD⟩:=hE.defers
 rw [hds]
 exact key Ds w hnd ⟨hE.wi,hE.sl,hE.size,DefOK.nil _ _ h0,hE.small,hE.pl⟩ fun D h=>⟨Nat.le_trans hmk (hD D h).1,(hD D h).2⟩
def initE(N:Nat)(ds:List D)(H:Mem):DS:={ n:=N,sl:=fun t=>ds.getD t .any,bx:=H }
def ECalls(P:Program)(f:FuncId)(ds:List D)(H:Mem)(Q:D→Mem→Prop):Prop:=
 Program.plainF P f=true∧∀(w:World) (E:Env) (F:KSet) (vs:Array Value),WI ⟨w,E.K,F,E.ρ,NB,none,w.heap.size⟩ w E H→vs.size=ds.length→
  (∀(j:Nat) d v,ds[j]? =some d→vs[j]? =some v→VD w E d v)→
  Calls P f vs w fun e w'=>∃v E' r H',e= .returned v∧Q r H'∧WI ⟨w,E.K,F,E.ρ,NB,none,w.heap.size⟩ w' E' H'∧VD w' E' r v
theorem ecalls_intro{P:Program}{f:FuncId}{fn:Func}{c:Code}{ds:List D}{H:Mem}{Q:D→Mem→Prop}(hp:Program.plainF P f=true)(hf:P.funcs[f]? =some fn)(hb:fn.body=some c)(hn:ds.length≤fn.ntmps)(hN:fn.ntmps≤NB)
  (h:DW P c (initE fn.ntmps ds H) (fun e s'=>(e= .normal∨e= .ret)∧∃r,resD P s' fn.results.toList=some r∧Q r s'.bx)):ECalls P f ds H Q:=by
 refine⟨hp,fun w E F vs hwi hl hv=>?_⟩
 refine callsIn_wide (n:=0) |>.1 (callsIn_of_wp_marks hf hb trivial ?_)
 have hrel:Rel ⟨w,E.K,F,E.ρ,NB,none,w.heap.size⟩ (initE fn.ntmps ds H) { tmps:=vs++Array.replicate (fn.ntmps - vs.size) undef,defers:= [] } w:=by
  refine⟨E,⟨hwi,fun t=>?_,?_,DefOK.nil _ _ (Nat.le_refl _),⟨hN,Nat.le_refl _⟩,fun _=>rfl⟩⟩
  ·simp only [initE]
   by_cases ht:t<ds.length
   ·have h1:ds[t]? =some (ds.getD t .any):=by simp [List.getD,ht]
    have h2:vs[t]? =some (vs[t]'(by omega)):=Array.getElem?_eq_getElem (by omega)
    have h3:(vs++Array.replicate (fn.ntmps - vs.size) undef).getD t undef=vs[t]'(by omega):=by
     have:t<vs.size:=by omega
     simp [Array.getElem?_append,this]
    simp only [h3]
    exact hv t _ _ h1 h2
   ·have:ds.getD t .any= .any:=by simp [List.getD,List.getElem?_eq_none (Nat.le_of_not_lt ht)]
    rw [this];exact .any _
  ·simp [initE];omega
 refine wpIn_mono (h _ _ w hrel) ?_
 intro e a' w' ⟨s',⟨he,r,hr,hQ⟩,E',hE⟩
 have hpost:LeavesInM Fence.wide 0 P fn a'.tmps (fun e w'=>∃v E' r H',e= .returned v∧Q r H'∧WI ⟨w,E.K,F,E.ρ,NB,none,w.heap.size⟩ w' E' H'∧VD w' E' r v) a'.defers .returning w':=
  leave_marks (Nat.le_refl _) hE hr fun w₂ v hwi hv=>⟨v,E',r,s'.bx,rfl,hQ,hwi,hv⟩
 rcases he with rfl|rfl<;>exact hpost
def noMem:Mem:=fun _=>none
theorem wi_zero(w:World)(K:KSet)(hk:KOk w K):WI ⟨w,K,fun _ _=>False,(E0 K).ρ,NB,none,w.heap.size⟩ w (E0 K) noMem:=by
 have hns: ∀n b o,¬spare ((E0 K).val n) b o:=fun n b o ⟨a,len,cap,h1,_⟩=>by simp [E0]at h1
 exact⟨Turn.refl _ _,fun _ _ _ h=>h,fun _ _ h=>h,fun _ _ _ _ h=>h,hk,(fun n ts hn=>by cases hn),fun n m rn rm hn=>(by cases hn),fun n b o hs=>absurd hs (hns n b o),fun n m b o hs=>absurd hs (hns n b o),
   fun n m b o rm hs=>absurd hs (hns n b o),fun _ _=>rfl⟩
theorem ECalls.pure{P:Program}{f:FuncId}{ds:List D}{r:D}(h:ECalls P f ds noMem (fun r' _=>r'=r)):DCalls P f ds r:=by
 refine⟨h.1,fun w K vs hk hl hv=>?_⟩
 refine Calls.mono (h.2 w (E0 K) (fun _ _=>False) vs (wi_zero w K hk) hl hv) ?_
 rintro e w' ⟨v,E',r',H',rfl,rfl,hwi,hv'⟩
 refine⟨v,E',rfl,⟨hwi.turn.below,hwi.kin,fun b o hb=>hwi.kold b o hb id,hwi.kok,fun n b o hs=>?_,hwi.disj⟩,hv'⟩
 obtain⟨h1,h2,h3⟩:=hwi.free n b o hs
 exact⟨h1.resolve_right id,h2,h3⟩
theorem dcalls_intro{P:Program}{f:FuncId}{fn:Func}{c:Code}{ds:List D}{r:D}(hp:Program.plainF P f=true)(hf:P.funcs[f]? =some fn)(hb:fn.body=some c)(hn:ds.length≤fn.ntmps)(hN:fn.ntmps≤NB)
  (h:DW P c (initE fn.ntmps ds noMem) (fun e s'=>(e= .normal∨e= .ret)∧resD P s' fn.results.toList=some r)):DCalls P f ds r:=
 ECalls.pure (ecalls_intro hp hf hb hn hN (h.mono fun _ _ ⟨h1,h2⟩=>⟨h1,r,h2,rfl⟩))
end
end Go.Dl
/- The logic of data: the operations that turn nothing that was there: what each yields, said by data, and that the machine does just that. -/
namespace Go.Dl
open Go.RowKit
/-! ### Views of a datum -/
def D.asLit:D→Option Value
 | .one (.c (.lit v))=>some v
 | _=>none
def D.asSl:D→Option (Nat×List (List C))
 | .one (.c (.sl sz xs))| .one (.own _ sz xs)| .one (.ex sz xs)=>some (sz,xs)
 | _=>none
def D.cells:D→Option (List T)
 | .one t=>some [t]
 | .agg ts=>some ts
 | _=>none
def D.cl:D→D
 | .one t=>.one (.c t.cl)
 | .agg ts=>.agg (ts.map fun t=>.c t.cl)
 | _=>.any
theorem asLit_ok{w:World}{E:Env}{d:D}{u v:Value}(h:d.asLit=some u)(hv:VD w E d v):v=u:=by
 unfold D.asLit at h
 split at h
 ·injection h with h;subst h;exact hv.lit
 ·cases h
theorem asSl_ok{w:World}{E:Env}{d:D}{sz:Nat}{xs:List (List C)}{v:Value}(h:d.asSl=some (sz,xs))(hv:VD w E d v):VC w E.K (.sl sz xs) v:=by
 unfold D.asSl at h
 split at h<;>first|(cases h;done)|skip
 all_goals
  injection h with h
  injection h with h1 h2
  subst h1;subst h2
  cases hv with|one t v hv=>cases hv;assumption
theorem cells_ok{w:World}{E:Env}{d:D}{ts:List T}{v:Value}(h:d.cells=some ts)(hv:VD w E d v):
  v.cells.size=ts.length∧(∀(j:Nat) t u,ts[j]? =some t→v.cells[j]? =some u→VT w E t u)∧∀u∈v.cells.toList,u.oneCell'=true:=by
 cases hv with
 | any v=>cases h
 | tup=>cases h
 | one t v hv=>
  injection h with h;subst h
  have h1:v.cells= #[v]:=by
   have:=hv.oneCell'
   cases v<;>first|rfl|(simp [Value.oneCell']at this)
  rw [h1]
  refine⟨rfl,fun j t u g1 g2=>?_,fun u hu=>?_⟩
  ·cases j with
   | zero=>simp at g1 g2;subst g1;subst g2;exact hv
   | succ j=>simp at g1
  ·simp at hu;subst hu;exact hv.oneCell'
 | agg cs vs hl hr=>
  injection h with h;subst h
  refine⟨hl,hr,fun u hu=>?_⟩
  obtain⟨j,hj,hju⟩:=List.mem_iff_getElem.1 hu
  have hj':j<vs.size:=by simpa [Value.cells]using hj
  have h2:vs[j]? =some u:=by rw [Array.getElem?_eq_getElem hj'];simp [Value.cells]at hju;rw [hju]
  have h3:cs[j]? =some (cs[j]'(by omega)):=List.getElem?_eq_getElem (by omega)
  exact(hr j _ u h3 h2).oneCell'
theorem VD.cl{w:World}{E:Env}{d:D}{v:Value}(h:VD w E d v):VD w (E0 E.K) d.cl v:=by
 cases h with
 | any v=>exact .any v
 | one t v h=>exact .one _ _ (.c _ _ h.cl)
 | agg ts vs hl hr=>
  refine .agg _ vs (by simpa using hl) fun j t v h1 h2=>?_
  rw [List.getElem?_map]at h1
  cases hc:ts[j]? with
  | none=>rw [hc]at h1;cases h1
  | some t'=>rw [hc]at h1;injection h1 with h1;subst h1;exact .c _ _ (hr j t' v hc h2).cl
 | tup ds vs hl hr=>exact .any _
theorem VC.sl_inv{w:World}{K:KSet}{sz:Nat}{xs:List (List C)}{v:Value}(h:VC w K (.sl sz xs) v):
  (v= .slice none 0 0∧xs= [])∨∃(a:Addr) (cap:Nat) (cv:Nat→Value),v= .slice (some a) xs.length cap∧(∀r∈xs,r.length=sz)∧xs.length≤cap∧cap≤maxLen∧
   (∀j,j<xs.length*sz→a.spot=none∧K a.block (a.off+j)∧w.cell? ⟨a.block,a.off+j,none⟩=some (cv j))∧
   (∀(i j:Nat) r c,xs[i]? =some r→r[j]? =some c→VC w K c (cv (i*sz+j))):=by
 cases h with
 | nil=>exact .inl ⟨rfl,rfl⟩
 | sl sz xs a cap cv hsz hc hm hK hr=>exact .inr ⟨a,cap,cv,rfl,hsz,hc,hm,hK,hr⟩
/-! ### Facts of types, as the walk asks them -/
def Program.elemSz(P:Program)(t:TypeId):Option Nat:=
 match P.underlying t with
 | some (.slice e)=>(P.info? e).bind fun i=>if i.size=0 then none else some i.size
 | _=>none
def Program.fieldOff(P:Program)(t:TypeId)(f:Nat):Option Nat:=
 match P.underlying t with
 | some (.struct fs)=>match fs[f]? with
  | some fd=>match P.info? fd.type with
   | some i=>if i.size=0 then none else some fd.offset
   | none=>none
  | none=>none
 | _=>none
def Program.places(P:Program)(t:TypeId):Option (List (Nat×Nat)):=
 match P.underlying t with
 | some (.struct fs)=>fs.toList.mapM fun fd=>(P.info? fd.type).map fun i=>(fd.offset,i.size)
 | _=>none
def Program.cellTys(P:Program):Nat→TypeId→Option (List TypeId)
 | 0,_=>none
 | k+1,t=>match P.underlying t with
  | some (.struct fs)=>(fs.toList.mapM fun fd=>Program.cellTys P k fd.type).map List.flatten
  | some (.array n e)=>(Program.cellTys P k e).map fun l=>(List.replicate n l).flatten
  | some _=>some [t]
  | none=>none
def Program.zc(P:Program)(v:Value)(t:TypeId):C:=
 match v,P.underlying t with
 | .slice none 0 0,some (.slice e)=>.sl (P.cellsOf e) []
 | v,_=>.lit v
def Program.zeroC(P:Program)(t:TypeId):Option (List C):=
 match (P.info? t).bind (·.zero),Program.cellTys P 8 t with
 | some z,some tys=>if z.cells.size=tys.length∧z.cells.all (·.oneCell')then some (List.zipWith (Program.zc P) z.cells.toList tys)else none
 | _,_=>none
def Program.zcT(P:Program)(v:Value)(t:TypeId):T:=
 match v,P.underlying t with
 | .slice none 0 0,some (.slice e)=>.ex (P.cellsOf e) []
 | v,_=>.c (.lit v)
def Program.zeroT(P:Program)(t:TypeId):Option (List T):=
 match (P.info? t).bind (·.zero),Program.cellTys P 8 t with
 | some z,some tys=>if z.cells.size=tys.length∧z.cells.all (·.oneCell')then some (List.zipWith (Program.zcT P) z.cells.toList tys)else none
 | _,_=>none
theorem zcT_ok{P:Program}(w:World)(E:Env)(v:Value)(t:TypeId)(h:v.oneCell'=true):VT w E (Program.zcT P v t) v:=by
 unfold Program.zcT
 split
 ·exact .ex _ _ _ (.nil _) ⟨none,0,rfl⟩
 ·exact .c _ _ (.lit _ h)
theorem zc_ok{P:Program}(w:World)(K:KSet)(v:Value)(t:TypeId)(h:v.oneCell'=true):VC w K (Program.zc P v t) v:=by
 unfold Program.zc
 split
 ·exact .nil _
 ·exact .lit _ h
theorem zeroC_ok{P:Program}{t:TypeId}{cs:List C}(h:Program.zeroC P t=some cs): ∃i z,P.info? t=some i∧i.zero=some z∧z.cells.size=cs.length∧
  ∀(w:World) (K:KSet) (j:Nat) c u,cs[j]? =some c→z.cells[j]? =some u→VC w K c u:=by
 unfold Program.zeroC at h
 cases hi:P.info? t with
 | none=>simp [hi]at h
 | some i=>
  cases hz:i.zero with
  | none=>simp [hi,hz]at h
  | some z=>
   simp only [hi,hz,Option.bind_some]at h
   cases hc:Program.cellTys P 8 t with
   | none=>simp [hc]at h
   | some tys=>
    simp only [hc]at h
    split at h
    ·rename_i hs
     injection h with h;subst h
     refine⟨i,z,rfl,hz,by simp [hs.1],fun w K j c u g1 g2=>?_⟩
     simp only [List.getElem?_zipWith]at g1
     have g3:z.cells.toList[j]? =some u:=by simpa using g2
     rw [g3]at g1
     cases ht:tys[j]? with
     | none=>rw [ht]at g1;cases g1
     | some ty=>
      rw [ht]at g1
      simp at g1
      subst g1
      have:=hs.2
      rw [Array.all_eq_true]at this
      obtain⟨hlt,hge⟩:=Array.getElem?_eq_some_iff.1 g2
      exact zc_ok w K u ty (hge▸this j hlt)
    ·cases h
theorem zeroT_ok{P:Program}{t:TypeId}{cs:List T}(h:Program.zeroT P t=some cs): ∃i z,P.info? t=some i∧i.zero=some z∧z.cells.size=cs.length∧
  ∀(w:World) (E:Env) (j:Nat) c u,cs[j]? =some c→z.cells[j]? =some u→VT w E c u:=by
 unfold Program.zeroT at h
 cases hi:P.info? t with
 | none=>simp [hi]at h
 | some i=>
  cases hz:i.zero with
  | none=>simp [hi,hz]at h
  | some z=>
   simp only [hi,hz,Option.bind_some]at h
   cases hc:Program.cellTys P 8 t with
   | none=>simp [hc]at h
   | some tys=>
    simp only [hc]at h
    split at h
    ·rename_i hs
     injection h with h;subst h
     refine⟨i,z,rfl,hz,by simp [hs.1],fun w E j c u g1 g2=>?_⟩
     simp only [List.getElem?_zipWith]at g1
     have g3:z.cells.toList[j]? =some u:=by simpa using g2
     rw [g3]at g1
     cases ht:tys[j]? with
     | none=>rw [ht]at g1;cases g1
     | some ty=>
      rw [ht]at g1
      simp at g1
      subst g1
      have:=hs.2
      rw [Array.all_eq_true]at this
      obtain⟨hlt,hge⟩:=Array.getElem?_eq_some_iff.1 g2
      exact zcT_ok w E u ty (hge▸this j hlt)
    ·cases h
/-! ### What an operation yields -/
def intB(op:BinOp)(k:IntKind)(a b:Int):Option Value:=
 match op with
 | .add=>some (.int k (k.wrap (a+b)))
 | .sub=>some (.int k (k.wrap (a - b)))
 | .mul=>some (.int k (k.wrap (a*b)))
 | .eql=>some (.bool (a==b))
 | .neq=>some (.bool (a !=b))
 | .lss=>some (.bool (decide (a<b)))
 | .leq=>some (.bool (decide (a≤b)))
 | .gtr=>some (.bool (decide (b<a)))
 | .geq=>some (.bool (decide (b≤a)))
 | .shr=>if b=1 then some (.int k (a.fdiv 2))else none
 | .quo=>if b=0 then none else some (.int k (k.wrap (a.tdiv b)))
 | .rem=>if b=0 then none else some (.int k (a.tmod b))
 | _=>none
def strLt(a b:ByteArray):Bool:=Op.bytesLess a.toList b.toList
def strB(op:BinOp)(a b:ByteArray):Option Value:=
 match op with
 | .add=>if a.size+b.size≤maxLen then some (.string (a++b))else none
 | .eql=>some (.bool (a==b))
 | .neq=>some (.bool (!(a==b)))
 | .lss=>some (.bool (strLt a b))
 | .leq=>some (.bool (strLt a b||(a==b)))
 | .gtr=>some (.bool (!(strLt a b||(a==b))))
 | .geq=>some (.bool (!strLt a b))
 | _=>none
def partD(P:Program)(t:TypeId)(off:Nat)(cs:List T):Option D:=
 match Program.ldk P t with
 | some none=>cs[off]?.map fun c=>.one c
 | some (some n)=>if off+n≤cs.length then some (.agg ((cs.drop off).take n))else none
 | none=>none
def eqT(P:Program):Nat→TypeId→D→D→Option Bool
 | 0,_,_,_=>none
 | k+1,t,x,y=>match P.underlying t,x,y with
  | some (.int _),.one (.c (.lit (.int i a))),.one (.c (.lit (.int j b)))=>if i=j then some (a==b)else none
  | some .string,.one (.c (.lit (.string a))),.one (.c (.lit (.string b)))=>some (a==b)
  | some .bool,.one (.c (.lit (.bool a))),.one (.c (.lit (.bool b)))=>some (a==b)
  | some (.struct fs),.agg us,.agg bs=>if P.stoodInHeld t then none else
   fs.toList.foldr (fun f acc => if f.name ≠ "_" then
    (partD P f.type f.offset us).bind fun x=>(partD P f.type f.offset bs).bind fun y=>(eqT P k f.type x y).bind fun b=>acc.map fun c=>b&&c else acc) (some true)
  | _,_,_=>none
def Program.isBoolT(P:Program)(t:TypeId):Bool:=
 match P.underlying t with
 | some .bool=>true
 | _=>false
def isNilD:D→Option Bool
 | .one (.c (.lit (.slice none _ _)))=>some true
 | .one (.c (.lit (.slice (some _) _ _)))=>some false
 | .one (.c (.sl _ (_::_)))| .one (.own _ _ (_::_))| .one (.ex _ (_::_))=>some false
 | .one (.ba _ _ _ _ cap)=>if 0<cap then some false else none
 | _=>none
def Program.nilT(P:Program)(t:TypeId):Bool:=
 match P.underlying t with
 | some (.slice _)=>true
 | _=>false
def nilB(op:BinOp)(b:Bool):Option Value:=
 match op with
 | .eql=>some (.bool b)
 | .neq=>some (.bool (!b))
 | _=>none
def binD(P:Program)(op:BinOp)(t:TypeId)(x y:D):Option Value:=
 match x,y with
 | .one (.c (.lit (.int k a))),.one (.c (.lit (.int k' b)))=>if k=k' then intB op k a b else none
 | .one (.c (.lit (.string a))),.one (.c (.lit (.string b)))=>strB op a b
 | .one (.c (.lit (.bool a))),.one (.c (.lit (.bool b)))=>if Program.isBoolT P t then(match op with
   | .eql=>some (.bool (a==b))
   | .neq=>some (.bool (!(a==b)))
   | _=>none)else none
 | .agg us,.agg bs=>if P.eqGuardType P.depth t then none else match op with
   | .eql=>(eqT P 8 t (.agg us) (.agg bs)).map fun b=>.bool b
   | .neq=>(eqT P 8 t (.agg us) (.agg bs)).map fun b=>.bool (!b)
   | _=>none
 | x,.one (.c (.lit (.slice none 0 0)))=>if Program.nilT P t then(isNilD x).bind (nilB op)else none
 | _,_=>none
def unD(op:UnOp)(x:D):Option Value:=
 match op,x with
 | .not,.one (.c (.lit (.bool b)))=>some (.bool (!b))
 | .neg,.one (.c (.lit (.int k n)))=>some (.int k (k.wrap (0 - n)))
 | _,_=>none
def convD(P:Program)(src dst:TypeId)(x:D):Option Value:=
 match P.underlying src,P.underlying dst,x with
 | some _,some (.int k),.one (.c (.lit (.int _ n)))=>some (.int k (k.wrap n))
 | some _,some .string,.one (.c (.lit (.string s)))=>some (.string s)
 | _,_,_=>none
def bytesC(s:ByteArray):List (List C):=s.data.toList.map fun b=> [.lit (.int .u8 b.toNat)]
def byteC:C→Option UInt8
 | .lit (.int .u8 n)=>some (UInt8.ofNat n.toNat)
 | _=>none
def rowsB:List (List C)→Option (List UInt8)
 | []=>some []
 | [c]::l=>(byteC c).bind fun b=>(rowsB l).map fun r=>b::r
 | _=>none
def convX(P:Program)(src dst:TypeId)(x:D):Option D:=
 match P.underlying src,P.underlying dst,x with
 | some .string,some (.slice e),.one (.c (.lit (.string s)))=>match P.underlying e with
  | some (.int .u8)=>if s.size≤maxLen then some (.one (.c (.sl 1 (bytesC s))))else none
  | _=>none
 | some (.slice e),some .string,_=>match P.underlying e with
  | some (.int .u8)=>x.asSl.bind fun(sz,xs)=>if sz=1 then(rowsB xs).map fun l=>.one (.c (.lit (.string ⟨l.toArray⟩)))else none
  | _=>none
 | some (.int _),some .string,.one (.c (.lit (.int _ n)))=>some (.one (.c (.lit (.string (Utf8.encode n)))))
 | _,_,_=>none
def convR(P:Program)(src dst:TypeId)(x:D):Option D:=
 match convD P src dst x with
 | some v=>some (.one (.c (.lit v)))
 | none=>convX P src dst x
def indexD(P:Program)(t:TypeId)(x i:D):Option Value:=
 match P.underlying t,x,i with
 | some .string,.one (.c (.lit (.string s))),.one (.c (.lit (.int _ j)))=>if 0≤j then(s.data.toList[j.toNat]?).map fun b=>.int .u8 b.toNat else none
 | _,_,_=>none
def lenD(P:Program)(t:TypeId)(x:D):Option Int:=
 match P.underlying t,x with
 | some (.slice _),.one (.c (.sl _ xs))|some (.slice _),.one (.own _ _ xs)|some (.slice _),.one (.ex _ xs)=>some xs.length
 | some (.slice _),.one (.ba _ _ _ n _)=>some n
 | some (.slice _),.one (.c (.lit (.slice _ n _)))=>some n
 | some .string,.one (.c (.lit (.string s)))=>some s.size
 | _,_=>none
def capD(P:Program)(t:TypeId)(x:D):Option Int:=
 match P.underlying t,x with
 | some (.slice _),.one (.ex _ xs)=>some xs.length
 | some (.slice _),.one (.ba _ _ _ _ cap)=>some cap
 | some (.slice _),.one (.c (.lit (.slice _ _ c)))=>some c
 | _,_=>none
def boundD(x:Option D)(dflt:Nat):Option Nat:=
 match x with
 | none=>some dflt
 | some (.one (.c (.lit (.int _ n))))=>if 0≤n then some n.toNat else none
 | _=>none
def sliceD(P:Program)(t:TypeId)(x:D)(lo hi mx:Option D):Option D:=
 match P.underlying t,x with
 | some .string,.one (.c (.lit (.string s)))=>match mx with
  | some _=>none
  | none=>(boundD lo 0).bind fun l=>(boundD hi s.size).bind fun h=>if l≤h∧h≤s.size then some (.one (.c (.lit (.string (s.extract l h)))))else none
 | some (.slice _),.one (.ba n sz i len cap)=>if Program.elemSz P t=some sz then
   (boundD lo 0).bind fun l=>(boundD hi len).bind fun h=>(match mx with
    | none=>some cap
    | some m=>if hi.isSome then boundD (some m) 0 else none).bind fun m=>if l≤h∧h≤m∧m≤cap then some (.one (.ba n sz (i+l) (h - l) (m - l)))else none
  else none
 | some (.slice _),x=>x.asSl.bind fun(sz,xs)=>if Program.elemSz P t=some sz then
   (boundD lo 0).bind fun l=>(boundD hi xs.length).bind fun h=>if l≤h∧h≤xs.length then
    match mx with
    | none=>some (.one (.c (.sl sz ((xs.take h).drop l))))
    | some m=>if hi.isSome then(boundD (some m) 0).bind fun m=>if m=h then some (.one (.ex sz ((xs.take h).drop l)))else none else none
   else none
  else none
 | _,_=>none
def fillD(place:Nat→Option (Nat×Nat))(cells:List T):List (Nat×D)→Option (List T)
 | []=>some cells
 | (i,d)::rest=>
  match place i,d.cells with
  | some (off,size),some cs=>if cs.length=size∧off+size≤cells.length then fillD place (cells.take off++(cs++cells.drop (off+size))) rest else none
  | _,_=>none
def buildD(P:Program)(t:TypeId)(parts:List (Nat×D)):Option (List T):=
 match Program.places P t,Program.zeroT P t with
 | some pl,some z=>fillD (pl[·]?) z parts
 | _,_=>none
def rowsD(rows:List (List C))(sz:Nat):List (Nat×D)→Option (List (List C))
 | []=>some rows
 | (i,d)::rest=>
  match d.cells with
  | some cs=>if cs.length=sz∧i<rows.length then rowsD (rows.set i (cs.map T.cl)) sz rest else none
  | none=>none
def cellsOfT(P:Program)(t:TypeId):Option Nat:=(P.info? t).map (·.size)
def buildSliceD(P:Program)(t:TypeId)(len:Nat)(parts:List (Nat×D)):Option (Nat×List (List C)):=
 match P.underlying t with
 | some (.slice e)=>match Program.zeroC P e,cellsOfT P e with
  | some z,some n=>if n=z.length∧0<z.length∧len*z.length≤16777216 then(rowsD (List.replicate len z) z.length parts).map fun r=>(z.length,r)else none
  | _,_=>none
 | _=>none
def Le(d d':D):Prop:=∀w K v,VD w (E0 K) d v→VD w (E0 K) d' v
inductive LeL:List D→List D→Prop where
 | nil:LeL [] []
 | cons {d d':D} {l l':List D}:Le d d'→LeL l l'→LeL (d::l) (d'::l')
def CallD(P:Program)(f:D)(args:List D)(K:D→Prop):Prop:=
 ∃g caps ds r,f= .one (.c (.fn g caps))∧LeL (args.map D.cl++caps.map fun c=>D.one (.c c)) ds∧DCalls P g ds r∧K r.cl
def capOf:D→Option T
 | .one t=>some t
 | _=>none
def T.asC:T→Option C
 | .c x=>some x
 | _=>none
def fnOf(f:FuncId)(ts:List T):D:=
 match ts.mapM T.asC with
 | some cs=>.one (.c (.fn f cs))
 | none=>.one (.fv f ts)
def fieldD(P:Program)(t:TypeId)(f:Nat)(x:D):Option D:=
 match P.underlying t,x with
 | some (.struct fs),.agg cs=>match fs[f]? with
  | some fd=>partD P fd.type fd.offset cs
  | none=>none
 | _,_=>none
def mnD(g:Bool):D→D→Option D
 | .one (.c (.lit (.int k a))),.one (.c (.lit (.int _ b)))=>some (.one (.c (.lit (.int k (if(if g then a<b else b<a)then b else a)))))
 | _,_=>none
def bltD(b:Builtin)(args:List D):Option D:=
 match b,args with
 | .min,[x,y]=>mnD false x y
 | .max,[x,y]=>mnD true x y
 | _,_=>none
def QD(P:Program)(ev:Operand→D)(bx:Mem)(op:Op)(K:D→Prop):Prop:=
 match op with
 | .move x| .assign x=>K (ev x)
 | .pick c a b=>match (ev c).asLit with
  | some (.bool t)=>K (if t then ev a else ev b)
  | _=>False
 | .load t x=>match ldD P bx t (ev x)with
  | some d=>K d
  | none=>False
 | .build t parts=>match buildD P t (parts.toList.map fun p=>(p.1,ev p.2))with
  | some cs=>K (.agg cs)
  | none=>False
 | .buildSlice t len parts=>match buildSliceD P t len (parts.toList.map fun p=>(p.1,ev p.2))with
  | some (sz,rows)=>K (.one (.ex sz rows))
  | none=>False
 | .binOp op t x y _=>match binD P op t (ev x) (ev y)with
  | some v=>K (.one (.c (.lit v)))
  | none=>False
 | .unOp op _ x=>match unD op (ev x)with
  | some v=>K (.one (.c (.lit v)))
  | none=>False
 | .convert src dst x=>match convR P src dst (ev x)with
  | some d=>K d
  | none=>False
 | .index t x i=>match indexD P t (ev x) (ev i)with
  | some v=>K (.one (.c (.lit v)))
  | none=>False
 | .fieldAddr t x f=>match Program.fieldOff P t f,ev x with
  | some off,.one (.c (.pt cs))=>K (.one (.c (.pt (cs.drop off))))
  | some off,.one (.bx n sz i o)=>K (.one (.bx n sz i (o+off)))
  | _,_=>False
 | .field t x f=>match fieldD P t f (ev x)with
  | some d=>K d
  | none=>False
 | .indexAddr t x i=>match ev x,(ev i).asLit with
  | .one (.ba n sz i len _),some (.int _ j)=>Program.elemSz P t=some sz∧0≤j∧j.toNat<len∧K (.one (.bx n sz (i+j.toNat) 0))
  | x,some (.int _ j)=>(match x.asSl with
   | some (sz,xs)=>Program.elemSz P t=some sz∧0≤j∧∃r,xs[j.toNat]? =some r∧K (.one (.c (.pt r)))
   | none=>False)
  | _,_=>False
 | .slice t x lo hi mx=>match sliceD P t (ev x) (lo.map ev) (hi.map ev) (mx.map ev)with
  | some d=>K d
  | none=>False
 | .call c=>match c.callee with
  | .builtin .len=>(match c.args.toList,c.argTypes.toList with
   | [x],[t]=>(match lenD P t (ev x)with
    | some n=>K (.one (.c (.lit (.int .i64 n))))
    | none=>False)
   | _,_=>False)
  | .builtin .cap=>(match c.args.toList,c.argTypes.toList with
   | [x],[t]=>(match capD P t (ev x)with
    | some n=>K (.one (.c (.lit (.int .i64 n))))
    | none=>False)
   | _,_=>False)
  | .builtin b=>(match bltD b (c.args.toList.map ev)with
   | some d=>K d
   | none=>False)
  | .value f=>CallD P (ev f) (c.args.toList.map ev) K
  | _=>False
 | .extract x i=>match ev x with
  | .tup ds=>(match ds[i]? with
   | some d=>K d
   | none=>False)
  | _=>False
 | .nilCheck x=>match ev x with
  | .one (.bx n sz i o)=>K (.one (.bx n sz i o))
  | .one (.c (.pt cs))=>K (.one (.c (.pt cs)))
  | .one (.c (.fn f caps))=>K (.one (.c (.fn f caps)))
  | .one (.fv f caps)=>K (.one (.fv f caps))
  | _=>False
 | .makeFunc (.func f) first captured=>if first.isEmpty then
   match (captured.toList.map ev).mapM capOf with
   | some ts=>K (fnOf f ts)
   | none=>False
  else False
 | _=>False
end Go.Dl
/- The logic of data: the machine does what the operations' data say (I). -/
namespace Go.Dl
open Go.RowKit
section
variable {P : Program}
theorem wp_run{o:Oper}{a:Act}{w w':World}{K:Act→World→Prop}{Q:Exit→Act→World→Prop}{v:Value}(h:(execOp a.eval o).run P w= .ok (.value v) w')(hk:K (a.put o.dst v) w'):o.wp P a w K Q:=by
 unfold Oper.wp
 rw [h]
 exact hk
def QPost(o:Oper)(a:Act)(w:World)(E:Env)(K:D→Prop)(a':Act)(w':World):Prop:=
 ∃d v E',K d∧a'=a.put o.dst v∧Quiet w E w' E'∧VD w' E' d v
theorem wp_pureD{o:Oper}{a:Act}{w:World}{E:Env}{K:D→Prop}{Q:Exit→Act→World→Prop}{v:Value}{d:D}(hk:KOk w E.K)
  (h:(execOp a.eval o).run P w= .ok (.value v) w) (hv:VD w E d v) (hK:K d):o.wp P a w (QPost o a w E K) Q:=
 wp_run h ⟨d,v,E,hK,rfl,Quiet.refl hk,hv⟩
theorem intB_ok{op:BinOp}{k:IntKind}{a b:Int}{v:Value}(h:intB op k a b=some v)(w:World)(t:TypeId):(binOp op t (.int k a) (.int k b)).run P w= .ok v w:=by
 cases op<;>simp only [intB]at h<;>first|(cases h;done)|skip
 case shr=>
  split at h
  ·rename_i hb;subst hb
   injection h with h;subst h
   cases k<;>simp [binOp,Op.shift,IntKind.bits]
  ·cases h
 case quo=>
  split at h
  ·cases h
  ·rename_i hb
   injection h with h;subst h
   simp [binOp,Op.intDiv,hb]
 case rem=>
  split at h
  ·cases h
  ·rename_i hb
   injection h with h;subst h
   simp [binOp,Op.intDiv,hb]
 all_goals(injection h with h;subst h;simp [binOp,Op.intArith,Op.intCmp])
theorem strB_ok{op:BinOp}{a b:ByteArray}{v:Value}(h:strB op a b=some v)(w:World)(t:TypeId):(binOp op t (.string a) (.string b)).run P w= .ok v w:=by
 cases op<;>simp only [strB]at h<;>first|(cases h;done)|skip
 case add=>
  split at h
  ·rename_i hl
   injection h with h;subst h
   have: ¬(((a.size+b.size:Nat):Int)>IntKind.i64.max):=by
    simp [IntKind.max,IntKind.signed,IntKind.bits,maxLen]at hl ⊢
    omega
   simp only [binOp,Op.stringOp,this,if_false]
   rfl
  ·cases h
 all_goals(injection h with h;subst h;simp [binOp,Op.stringOp,strLt,beq_toListBytes])
theorem part_one{t:TypeId}(h:Program.ldk P t=some none)(vs:Array Value)(off:Nat)(v:Value)(hv:vs[off]? =some v)(w:World):(part t vs off).run P w= .ok v w:=by
 unfold Program.ldk at h
 cases hu:P.underlying t with
 | none=>rw [hu]at h;cases h
 | some d=>
  cases hi:P.info? t with
  | none=>rw [hu,hi]at h;cases d<;>cases h
  | some i=>
   rw [hu,hi]at h
   have hg:(isAgg t).run P w= .ok false w:=by
    cases d<;>first|(simp [isAgg,run_underlying hu];done)|cases h
   simp [part,hg,hv]
theorem part_agg{t:TypeId}{k:Nat}(h:Program.ldk P t=some (some k))(vs:Array Value)(off:Nat)(w:World):(part t vs off).run P w= .ok (.agg (vs.extract off (off+k))) w:=by
 unfold Program.ldk at h
 cases hu:P.underlying t with
 | none=>rw [hu]at h;cases h
 | some d=>
  cases hi:P.info? t with
  | none=>rw [hu,hi]at h;cases d<;>cases h
  | some i=>
   rw [hu,hi]at h
   have hk:i.size=k:=by cases d<;>simp at h<;>exact h
   have hg:(isAgg t).run P w= .ok true w:=by
    cases d<;>first|(simp [isAgg,run_underlying hu];done)|(simp at h)
   simp [part,hg,sizeOf,typeInfo,hi,hk]
theorem partD_ok{t:TypeId}{off:Nat}{cs:List T}{d:D}(h:partD P t off cs=some d){w:World}{E:Env}{vs:Array Value}(hv:VD w E (.agg cs) (.agg vs)): ∃u,(part t vs off).run P w= .ok u w∧VD w E d u:=by
 cases hv with
 | agg _ _ hl hr=>
  unfold partD at h
  split at h
  ·rename_i hk
   cases hc:cs[off]? with
   | none=>rw [hc]at h;cases h
   | some c=>
    rw [hc]at h;injection h with h;subst h
    have hlt:off<vs.size:=by rw [hl];exact(List.getElem?_eq_some_iff.1 hc).1
    have h2:vs[off]? =some vs[off]:=Array.getElem?_eq_getElem hlt
    exact⟨_,part_one hk vs off _ h2 w,.one _ _ (hr off _ _ hc h2)⟩
  ·rename_i n hk
   split at h
   ·rename_i hle
    injection h with h;subst h
    refine⟨_,part_agg hk vs off w,.agg _ _ (by simp;omega) fun j c v g1 g2=>?_⟩
    rw [List.getElem?_take]at g1
    split at g1
    ·rename_i hj
     rw [List.getElem?_drop]at g1
     rw [Array.getElem?_extract]at g2
     split at g2
     ·exact hr _ c v g1 g2
     ·cases g2
    ·cases g1
   ·cases h
  ·cases h
theorem eqT_ok: ∀(k:Nat) (t:TypeId) (x y:D) (r:Bool) (w:World) (E:Env) (u v:Value) (d:Nat),eqT P k t x y=some r→k≤d→VD w E x u→VD w E y v→
  (Op.equalIn d t u v).run P w= .ok r w
 | 0,_,_,_,_,_,_,_,_,_,h,_,_,_=>by cases h
 | k+1,t,x,y,r,w,E,u,v,d,h,hd,hx,hy=>by
  obtain⟨d,rfl⟩: ∃d',d=d'+1:=⟨d - 1,by omega⟩
  unfold eqT at h
  split at h
  ·rename_i hu
   split at h
   ·rename_i hij
    subst hij
    injection h with h;subst h
    rw [hx.lit,hy.lit]
    exact run_equalIn_int w d t _ _ _ _ hu
   ·cases h
  ·rename_i hu
   injection h with h;subst h
   rw [hx.lit,hy.lit,beq_toListBytes]
   exact run_equalIn_string w d t _ _ hu
  ·rename_i hu
   injection h with h;subst h
   rw [hx.lit,hy.lit]
   exact run_equalIn_bool' w d t _ _ hu
  ·rename_i fs us bs hu
   split at h
   ·cases h
   ·rename_i hst
    have hst':P.stoodInHeld t=false:=by simpa using hst
    obtain⟨xs,rfl⟩: ∃xs,u= .agg xs:=by cases hx with|agg _ vs=>exact⟨_,rfl⟩
    obtain⟨ys,rfl⟩: ∃xs,v= .agg xs:=by cases hy with|agg _ vs=>exact⟨_,rfl⟩
    have hf:P.underlying t=some (.struct (P.fieldsOf t)):=by simp [Program.fieldsOf,hu]
    rw [run_equalIn_struct w d t xs ys hf hst']
    have hfs:P.fieldsOf t=fs:=by simp [Program.fieldsOf,hu]
    rw [hfs]
    clear hf hfs hu
    generalize fs.toList=l at h
    induction l generalizing r with
    | nil=>simp at h;subst h;simp [Op.eqFields]
    | cons f l ih=>
     simp only [List.foldr_cons]at h
     simp only [Op.eqFields]
     split at h
     ·rename_i hn
      rw [if_pos hn]
      simp only [Option.bind_eq_some_iff,Option.map_eq_some_iff]at h
      obtain⟨dx,h1,dy,h2,b,h3,c,h4,h5⟩:=h
      obtain⟨ux,g1,g2⟩:=partD_ok h1 hx
      obtain⟨uy,g3,g4⟩:=partD_ok h2 hy
      have g5:=eqT_ok k f.type dx dy b w E ux uy d h3 (by omega) g2 g4
      have g6:=ih c h4
      simp only [Sem.run_bind,g1,Result.andThen_ok,g3,g5,Sem.run_ite,Sem.run_pure,g6]
      subst h5
      cases b<;>simp
     ·rename_i hn
      rw [if_neg hn]
      exact ih r h
  ·cases h
theorem eqGuard_plain(op:BinOp)(t:TypeId)(x y:Operand)(u v:Value)(w:World)(h:u.oneCell'=true)(hu:u≠ .nilIface):
  (eqGuard op t x y u v).run P w= .ok () w:=by
 unfold eqGuard
 cases u<;>first
  | exact absurd rfl hu
  | (simp [Value.oneCell']at h;done)
  | (cases op<;>simp;done)
theorem eqGuard_agg(op:BinOp)(t:TypeId)(x y:Operand)(xs ys:Array Value)(w:World)(h:P.eqGuardType P.depth t=false):
  (eqGuard op t x y (.agg xs) (.agg ys)).run P w= .ok () w:=by
 unfold eqGuard
 cases op<;>simp [h]
theorem run_eq_slice_nil(d:Nat)(t e:TypeId)(a:Option Addr)(l c:Nat)(h:P.underlying t=some (.slice e))(w:World):(Op.equalIn (d+1) t (.slice a l c) (.slice none 0 0)).run P w= .ok a.isNone w:=by
 cases a<;>simp [Op.equalIn,run_underlying h]
theorem isNilD_ok{x:D}{b:Bool}(h:isNilD x=some b){w:World}{E:Env}{u:Value}(hx:VD w E x u): ∃a l c,u= .slice a l c∧a.isNone=b:=by
 have sl: ∀{sz:Nat} {r:List C} {xs:List (List C)},VC w E.K (.sl sz (r::xs)) u→b=false→∃a l c,u= .slice a l c∧a.isNone=b:=fun hv hb=>by
  cases hv with|sl sz xs a cap cv=>exact⟨_,_,_,rfl,by rw [hb];rfl⟩
 unfold isNilD at h
 split at h
 ·injection h with h;subst h;rw [hx.lit];exact⟨_,_,_,rfl,rfl⟩
 ·injection h with h;subst h;rw [hx.lit];exact⟨_,_,_,rfl,rfl⟩
 ·injection h with h
  cases hx with|one t v hv=>cases hv with|c c v hv=>exact sl hv h.symm
 ·injection h with h
  cases hx with|one t v hv=>cases hv with|own n sz xs v hv=>exact sl hv h.symm
 ·injection h with h
  cases hx with|one t v hv=>cases hv with|ex sz xs v hv=>exact sl hv h.symm
 ·rename_i n sz i len cap
  split at h
  ·rename_i hc
   injection h with h
   cases hx with|one t v hv=>cases hv with
    | ba=>exact⟨_,_,_,rfl,by rw [← h];rfl⟩
    | bz=>omega
  ·cases h
 ·cases h
theorem binD_ok{op:BinOp}{t:TypeId}{x y:D}{r:Value}(h:binD P op t x y=some r){w:World}{E:Env}{u v:Value}(hx:VD w E x u)(hy:VD w E y v)(ox oy:Operand):
  ((do eqGuard op t ox oy u v;binOp op t u v):Sem Value).run P w= .ok r w∧r.oneCell'=true:=by
 unfold binD at h
 split at h
 ·rename_i k a k' b
  split at h
  ·rename_i hk
   subst hk
   rw [hx.lit,hy.lit]
   refine⟨?_,?_⟩
   ·simp only [Sem.run_bind,eqGuard_plain op t ox oy (.int k a) (.int k b) w rfl (by simp),Result.andThen_ok]
    exact intB_ok h w t
   ·cases op<;>simp only [intB]at h<;>first|(cases h;done)|(injection h with h;subst h;rfl)|(split at h<;>first|cases h;done|(injection h with h;subst h;rfl))
  ·cases h
 ·rename_i a b
  rw [hx.lit,hy.lit]
  refine⟨?_,?_⟩
  ·simp only [Sem.run_bind,eqGuard_plain op t ox oy (.string a) (.string b) w rfl (by simp),Result.andThen_ok]
   exact strB_ok h w t
  ·cases op<;>simp only [strB]at h<;>first|(cases h;done)|(injection h with h;subst h;rfl)|(split at h<;>first|cases h;done|(injection h with h;subst h;rfl))
 ·rename_i a b
  split at h
  ·rename_i hb
   have hu:P.underlying t=some .bool:=by
    unfold Program.isBoolT at hb
    split at hb
    ·assumption
    ·cases hb
   rw [hx.lit,hy.lit]
   cases op<;>simp only at h<;>first|(cases h;done)|skip
   all_goals
    injection h with h;subst h
    refine⟨?_,rfl⟩
    simp only [Sem.run_bind,eqGuard_plain _ t ox oy (.bool a) (.bool b) w rfl (by simp),Result.andThen_ok]
    simp [binOp,Op.equal,Op.maxDepth,run_equalIn_bool' w _ t _ _ hu]
  ·cases h
 ·rename_i us bs
  split at h
  ·cases h
  ·rename_i hg
   obtain⟨xs,rfl⟩: ∃xs,u= .agg xs:=by cases hx with|agg _ vs=>exact⟨_,rfl⟩
   obtain⟨ys,rfl⟩: ∃xs,v= .agg xs:=by cases hy with|agg _ vs=>exact⟨_,rfl⟩
   have hg':P.eqGuardType P.depth t=false:=by simpa using hg
   cases op<;>simp only at h<;>first|(cases h;done)|skip
   all_goals
    simp only [Option.map_eq_some_iff]at h
    obtain⟨b,h1,rfl⟩:=h
    refine⟨?_,rfl⟩
    have h2:=eqT_ok 8 t _ _ b w E _ _ 10000 h1 (by omega) hx hy
    simp only [Sem.run_bind,eqGuard_agg _ t ox oy xs ys w hg',Result.andThen_ok]
    simp [binOp,Op.equal,Op.maxDepth,h2]
 ·split at h
  ·rename_i hn
   simp only [Option.bind_eq_some_iff]at h
   obtain⟨b,hb,hr⟩:=h
   obtain⟨a,l,c,rfl,hab⟩:=isNilD_ok hb hx
   rw [hy.lit]
   obtain⟨e,hu⟩: ∃e,P.underlying t=some (.slice e):=by
    unfold Program.nilT at hn
    split at hn
    ·exact⟨_,by assumption⟩
    ·cases hn
   cases op<;>simp only [nilB]at hr<;>first|(cases hr;done)|skip
   all_goals
    injection hr with hr;subst hr
    refine⟨?_,rfl⟩
    simp only [Sem.run_bind,eqGuard_plain _ t ox oy (.slice a l c) (.slice none 0 0) w rfl (by simp),Result.andThen_ok]
    simp [binOp,Op.equal,Op.maxDepth,run_eq_slice_nil _ t e a l c hu w,hab]
  ·cases h
 ·cases h
end
end Go.Dl
/- The logic of data: the machine does what the operations' data say (II). -/
namespace Go.Dl
open Go.RowKit
section
variable {P : Program}
theorem unD_ok{op:UnOp}{x:D}{r:Value}(h:unD op x=some r){w:World}{E:Env}{u:Value}(hx:VD w E x u):(Op.unary op u).run P w= .ok r w∧r.oneCell'=true:=by
 unfold unD at h
 split at h
 ·injection h with h;subst h;rw [hx.lit];exact⟨rfl,rfl⟩
 ·injection h with h;subst h;rw [hx.lit];exact⟨rfl,rfl⟩
 ·cases h
theorem convD_ok{src dst:TypeId}{x:D}{r:Value}(h:convD P src dst x=some r){w:World}{E:Env}{u:Value}(hx:VD w E x u):(convert src dst u).run P w= .ok r w∧r.oneCell'=true:=by
 unfold convD at h
 split at h
 ·rename_i d k _ n hs hd
  injection h with h;subst h;rw [hx.lit]
  exact⟨by simp [convert,run_underlying hs,run_underlying hd,Conv.intToInt],rfl⟩
 ·rename_i d s hs hd
  injection h with h;subst h;rw [hx.lit]
  refine⟨?_,rfl⟩
  simp only [convert,Sem.run_bind,run_underlying hs,run_underlying hd,Result.andThen_ok]
  rfl
 ·cases h
theorem lenD_ok{t:TypeId}{x:D}{n:Int}(h:lenD P t x=some n){w:World}{E:Env}{u:Value}(hx:VD w E x u)(ty:TypeId):(Builtin.len_ #[t] ty #[u]).run P w= .ok (.int .i64 n) w:=by
 have hsl: ∀sz xs e,x.asSl=some (sz,xs)→P.underlying t=some (.slice e)→(Builtin.len_ #[t] ty #[u]).run P w= .ok (.int .i64 xs.length) w:=by
  intro sz xs e h1 h2
  rcases(asSl_ok h1 hx).sl_inv with⟨rfl,rfl⟩|⟨a,cap,cv,rfl,_⟩<;>simp [Builtin.len_,run_underlying h2,goInt]
 unfold lenD at h
 split at h
 ·rename_i hu;injection h with h;subst h;exact hsl _ _ _ rfl hu
 ·rename_i hu;injection h with h;subst h;exact hsl _ _ _ rfl hu
 ·rename_i hu;injection h with h;subst h;exact hsl _ _ _ rfl hu
 ·rename_i hu
  injection h with h;subst h
  cases hx with|one t v hv=>cases hv<;>simp [Builtin.len_,run_underlying hu,goInt]
 ·rename_i hu
  injection h with h;subst h
  rw [hx.lit];simp [Builtin.len_,run_underlying hu,goInt]
 ·rename_i hu
  injection h with h;subst h
  rw [hx.lit];simp [Builtin.len_,run_underlying hu,goInt]
 ·cases h
theorem capD_ok{t:TypeId}{x:D}{n:Int}(h:capD P t x=some n){w:World}{E:Env}{u:Value}(hx:VD w E x u)(ty:TypeId):(Builtin.cap_ #[t] ty #[u]).run P w= .ok (.int .i64 n) w:=by
 unfold capD at h
 split at h
 ·rename_i sz xs hu
  injection h with h;subst h
  cases hx with|one t v hv=>cases hv with|ex sz xs v hv hx=>
   rcases hv.sl_inv with⟨rfl,rfl⟩|⟨a,cap,cv,rfl,_⟩
   ·simp [Builtin.cap_,run_underlying hu,goInt]
   ·obtain⟨A,n,hx⟩:=hx
    injection hx with h1 h2 h3
    simp [Builtin.cap_,run_underlying hu,goInt];omega
 ·rename_i hu
  injection h with h;subst h
  cases hx with|one t v hv=>cases hv<;>simp [Builtin.cap_,run_underlying hu,goInt]
 ·rename_i hu
  injection h with h;subst h
  rw [hx.lit];simp [Builtin.cap_,run_underlying hu,goInt]
 ·cases h
theorem mnD_ok{g:Bool}{x y d:D}(h:mnD g x y=some d){w:World}{E:Env}{u v:Value}(hx:VD w E x u)(hy:VD w E y v):
  ∃r,((if g then Builtin.max2 u v else Builtin.min2 u v)).run P w= .ok r w∧VD w E d r:=by
 unfold mnD at h
 split at h
 ·rename_i k a k' b
  injection h with h;subst h
  rw [hx.lit,hy.lit]
  cases g
  ·exact⟨_,by simp [Builtin.min2],.one _ _ (.c _ _ (.lit _ rfl))⟩
  ·exact⟨_,by simp [Builtin.max2],.one _ _ (.c _ _ (.lit _ rfl))⟩
 ·cases h
theorem bltD_ok{b:Builtin}{args:List Operand}{ev:Operand→D}{ρ:Operand→Value}{d:D}(h:bltD b (args.map ev)=some d){w:World}{E:Env}(hev: ∀x,VD w E (ev x) (ρ x))(tys:Array TypeId)(ty:TypeId):
  ∃r,(∀cs,(builtin b tys ty cs (args.map ρ).toArray).run P w= .ok (.value r) w)∧VD w E d r:=by
 unfold bltD at h
 split at h
 ·rename_i x y hl
  obtain⟨a,rest,rfl,rfl,h2⟩:=List.map_eq_cons_iff.1 hl
  obtain⟨b,rest',rfl,rfl,h4⟩:=List.map_eq_cons_iff.1 h2
  obtain rfl:rest'= []:=by simpa using h4
  obtain⟨r,h5,h6⟩:=mnD_ok (P:=P) h (hev a) (hev b)
  simp only [Bool.false_eq_true,if_false]at h5
  exact⟨r,fun cs=>by simp [builtin,Builtin.min_,h5],h6⟩
 ·rename_i x y hl
  obtain⟨a,rest,rfl,rfl,h2⟩:=List.map_eq_cons_iff.1 hl
  obtain⟨b,rest',rfl,rfl,h4⟩:=List.map_eq_cons_iff.1 h2
  obtain rfl:rest'= []:=by simpa using h4
  obtain⟨r,h5,h6⟩:=mnD_ok (P:=P) h (hev a) (hev b)
  simp only [if_true]at h5
  exact⟨r,fun cs=>by simp [builtin,Builtin.max_,h5],h6⟩
 ·cases h
theorem elemSz_ok{t:TypeId}{sz:Nat}(h:Program.elemSz P t=some sz): ∃e i,P.underlying t=some (.slice e)∧P.info? e=some i∧i.size=sz∧0<sz:=by
 unfold Program.elemSz at h
 split at h
 ·rename_i e hu
  cases hi:P.info? e with
  | none=>rw [hi]at h;cases h
  | some i=>
   rw [hi]at h
   simp only [Option.bind_some]at h
   split at h
   ·cases h
   ·injection h with h;exact⟨e,i,hu,hi,h,by omega⟩
 ·cases h
theorem VC.pt_of_row{w:World}{K:KSet}{sz:Nat}{xs:List (List C)}{a:Addr}{cv:Nat→Value}(hpos:0<sz)(hsz: ∀r∈xs,r.length=sz)
  (hK: ∀j,j<xs.length*sz→a.spot=none∧K a.block (a.off+j)∧w.cell? ⟨a.block,a.off+j,none⟩=some (cv j))
  (hr: ∀(i j:Nat) r c,xs[i]? =some r→r[j]? =some c→VC w K c (cv (i*sz+j))) {i:Nat} {r:List C} (hi:xs[i]? =some r):VC w K (.pt r) (.pointer (some (a.add (i*sz)))):=by
 have hil:i<xs.length:=(List.getElem?_eq_some_iff.1 hi).1
 have hrl:r.length=sz:=hsz r (List.mem_of_getElem? hi)
 have hle:i*sz+sz≤xs.length*sz:=by
  have:(i+1)*sz≤xs.length*sz:=Nat.mul_le_mul_right sz hil
  rw [Nat.add_mul,Nat.one_mul]at this;exact this
 have hsp:a.spot=none:=(hK (i*sz) (by omega)).1
 have ha:a.add (i*sz)=⟨a.block,a.off+i*sz,none⟩:=by
  have:a=⟨a.block,a.off,none⟩:=by cases a;simp_all
  rw [this,add_none]
 rw [ha]
 refine .pt r a.block (a.off+i*sz) (fun j=>cv (i*sz+j)) (fun j hj=>?_) (fun j c hc=>hr i j r c hi hc)
 have:=hK (i*sz+j) (by omega)
 rw [Nat.add_assoc]
 exact⟨this.2.1,this.2.2⟩
theorem indexAt_ok{t:TypeId}{x:D}{sz:Nat}{xs:List (List C)}{j:Int}{r:List C}(hs:x.asSl=some (sz,xs))(he:Program.elemSz P t=some sz)(hj:0≤j)(hr:xs[j.toNat]? =some r)
  {w:World} {E:Env} {u:Value} (hx:VD w E x u) (k:IntKind): ∃v,(Instr.indexAt t u (.int k j)).run P w= .ok v w∧VD w E (.one (.c (.pt r))) v:=by
 obtain⟨e,i,hu,hi,hsz,hpos⟩:=elemSz_ok he
 have hjl:j.toNat<xs.length:=(List.getElem?_eq_some_iff.1 hr).1
 rcases(asSl_ok hs hx).sl_inv with⟨rfl,rfl⟩|⟨a,cap,cv,rfl,h1,h2,h3,h4,h5⟩
 ·simp at hjl
 ·have hb:(0≤j∧j<(xs.length:Int)):=by omega
  refine⟨.pointer (some (a.add (j.toNat*sz))),?_,.one _ _ (.c _ _ (VC.pt_of_row hpos h1 h4 h5 hr))⟩
  simp [Instr.indexAt,asIntOf,run_underlying hu,hb,sizeOf,typeInfo,hi,hsz]
theorem indexBa_ok{t:TypeId}{n sz i len cap:Nat}{j:Int}(he:Program.elemSz P t=some sz)(hj:0≤j)(hl:j.toNat<len){w:World}{E:Env}{u:Value}(hx:VD w E (.one (.ba n sz i len cap)) u)(k:IntKind):
  ∃v,(Instr.indexAt t u (.int k j)).run P w= .ok v w∧VD w E (.one (.bx n sz (i+j.toNat) 0)) v:=by
 obtain⟨e,inf,hu,hi,hsz,hpos⟩:=elemSz_ok he
 cases hx with|one t' v hv=>cases hv with
  | ba _ _ _ _ _ h1 h2=>
   have hb:(0≤j∧j<(len:Int)):=by omega
   refine⟨.pointer (some ⟨E.ρ n,(i+j.toNat)*sz+0,none⟩),?_,.one _ _ (.bx n sz (i+j.toNat) 0)⟩
   simp [Instr.indexAt,asIntOf,run_underlying hu,hb,sizeOf,typeInfo,hi,hsz,add_none,Nat.add_mul]
  | bz=>omega
theorem VC.cut{w:World}{K:KSet}{sz:Nat}{xs:List (List C)}{a:Addr}{cap:Nat}{cv:Nat→Value}(hpos:0<sz)(hsz: ∀r∈xs,r.length=sz)(hcap:xs.length≤cap)(hm:cap≤maxLen)
  (hK: ∀j,j<xs.length*sz→a.spot=none∧K a.block (a.off+j)∧w.cell? ⟨a.block,a.off+j,none⟩=some (cv j))
  (hr: ∀(i j:Nat) r c,xs[i]? =some r→r[j]? =some c→VC w K c (cv (i*sz+j))) {l h m:Nat} (hlh:l≤h) (hh:h≤xs.length) (hhm:h≤m) (hmc:m≤cap):
  VC w K (.sl sz ((xs.take h).drop l)) (.slice (some (if m=l then a else a.add (l*sz))) (h - l) (m - l)):=by
 have hlen:((xs.take h).drop l).length=h - l:=by simp;omega
 have hle: ∀i,i<xs.length→i*sz+sz≤xs.length*sz:=fun i hi=>by
  have:(i+1)*sz≤xs.length*sz:=Nat.mul_le_mul_right sz hi
  rw [Nat.add_mul,Nat.one_mul]at this;exact this
 rw [← hlen]
 by_cases hml:m=l
 ·have h0:h - l=0:=by omega
  have he:(xs.take h).drop l= []:=List.eq_nil_of_length_eq_zero (by omega)
  rw [he]
  exact .sl sz [] _ _ (fun _=>undef) (fun r hr=>by simp at hr) (by simp) (by omega) (fun j hj=>by simp at hj) (fun i j r c h1=>by simp at h1)
 ·rw [if_neg hml]
  refine .sl sz _ _ _ (fun j=>cv (l*sz+j)) (fun r hrm=>hsz r (List.mem_of_mem_take (List.mem_of_mem_drop hrm))) (by omega) (by omega) (fun j hj=>?_) (fun i j r c h1 h2=>?_)
  ·rw [hlen]at hj
   have hb:l*sz+j<xs.length*sz:=by
    have h1:(h - l)*sz+l*sz≤xs.length*sz:=by
     rw [← Nat.add_mul];exact Nat.mul_le_mul_right sz (by omega)
    omega
   have hb0:l*sz<xs.length*sz:=by omega
   have hsp:a.spot=none:=(hK (l*sz) hb0).1
   have ha:a.add (l*sz)=⟨a.block,a.off+l*sz,none⟩:=by
    have:a=⟨a.block,a.off,none⟩:=by cases a;simp_all
    rw [this,add_none]
   rw [ha]
   have:=hK (l*sz+j) hb
   simp only [Nat.add_assoc]
   exact⟨trivial,this.2.1,this.2.2⟩
  ·rw [List.getElem?_drop,List.getElem?_take]at h1
   split at h1
   ·have:=hr (l+i) j r c h1 h2
    rw [Nat.add_mul,Nat.add_assoc]at this
    exact this
   ·cases h1
def BoundIs(x:Option D)(u:Option Value)(w:World)(E:Env):Prop:=
 match x,u with
 | none,none=>True
 | some d,some v=>VD w E d v
 | _,_=>False
theorem boundD_ok{x:Option D}{dflt n:Nat}(h:boundD x dflt=some n){u:Option Value}{w:World}{E:Env}(hb:BoundIs x u w E):(u=none∧n=dflt)∨∃k,u=some (.int k (n:Int)):=by
 unfold boundD at h
 split at h
 ·injection h with h
  cases u with
  | none=>exact .inl ⟨rfl,h.symm⟩
  | some v=>exact hb.elim
 ·rename_i k n'
  split at h
  ·rename_i hn
   injection h with h
   cases u with
   | none=>exact hb.elim
   | some v=>
    have:v= .int k n':=VD.lit hb
    subst this
    exact .inr ⟨k,by rw [← h,Int.toNat_of_nonneg hn]⟩
  ·cases h
 ·cases h
theorem sliceBound_ok{u:Value}{k:IntKind}{n y:Nat}(hu:u= .int k (n:Int))(h:n≤y)(code:BoundsCode)(w:World):(Instr.sliceBound u y code).run P w= .ok n w:=by
 subst hu
 have:(0:Int)≤(n:Int)∧(n:Int)≤(y:Int):=by omega
 simp [Instr.sliceBound,asIntOf,this]
theorem sliceBounds_ok{isSlice:Bool}{len cap l h m:Nat}{l0 h0 m0:Option Value}(h1:(l0=none∧l=0)∨∃k,l0=some (.int k (l:Int)))(h2:(h0=none∧h=len∧m0=none)∨∃k,h0=some (.int k (h:Int)))
  (h3:(m0=none∧m=cap)∨∃k,m0=some (.int k (m:Int))) (hlh:l≤h) (hhm:h≤m) (hmc:m≤cap) (w:World):(Instr.sliceBounds isSlice len cap l0 h0 m0).run P w= .ok (l,h,m) w:=by
 rcases h1 with⟨rfl,rfl⟩|⟨k1,rfl⟩<;>rcases h2 with⟨rfl,rfl,rfl⟩|⟨k2,rfl⟩<;>rcases h3 with⟨h3,rfl⟩|⟨k3,h3⟩<;>
  first
  | (cases h3;done)
  | skip
 all_goals
  first|subst h3|skip
  simp [Instr.sliceBounds,sliceBound_ok (P:=P) rfl hlh,sliceBound_ok (P:=P) rfl hhm,sliceBound_ok (P:=P) rfl hmc]
theorem sliceD_ok{t:TypeId}{x d:D}{lo hi mx:Option D}(h:sliceD P t x lo hi mx=some d){w:World}{E:Env}{u:Value}{l0 h0 m0:Option Value}(hx:VD w E x u)(hl:BoundIs lo l0 w E)(hh:BoundIs hi h0 w E)(hm:BoundIs mx m0 w E):
  ∃v,(∀w',(Instr.sliceAt t u l0 h0 m0).run P w'= .ok v w')∧VD w E d v:=by
 unfold sliceD at h
 split at h
 ·rename_i s hu
  split at h
  ·cases h
  ·simp only [Option.bind_eq_some_iff]at h
   obtain⟨l,e1,hh',e2,e3⟩:=h
   split at e3
   ·rename_i hle
    injection e3 with e3;subst e3
    have hm0:m0=none:=by cases m0 with|none=>rfl|some v=>exact hm.elim
    subst hm0
    rw [hx.lit]
    refine⟨.string (s.extract l hh'),fun w'=>?_,.one _ _ (.c _ _ (.lit _ rfl))⟩
    have hb:=sliceBounds_ok (P:=P) (isSlice:=false) (len:=s.size) (cap:=s.size) (l:=l) (h:=hh') (m:=s.size) (l0:=l0) (h0:=h0) (m0:=none) (boundD_ok e1 hl)
     ((boundD_ok e2 hh).imp (fun⟨a,b⟩=>⟨a,b,rfl⟩) id) (.inl ⟨rfl,rfl⟩) hle.1 hle.2 (Nat.le_refl _) w'
    simp [Instr.sliceAt,Instr.slice,run_underlying hu,hb]
   ·cases e3
 ·rename_i e n sz i len cap hu
  split at h
  ·rename_i hsz
   obtain⟨e',inf,hu',hinf,hisz,hpos⟩:=elemSz_ok hsz
   rw [hu]at hu';injection hu' with hu';injection hu' with hu';subst hu'
   simp only [Option.bind_eq_some_iff]at h
   obtain⟨l,e1,hv,e2,m,e4,e3⟩:=h
   split at e3
   ·rename_i hle
    injection e3 with e3;subst e3
    have g1:(m0=none∧m=cap)∨∃k,m0=some (.int k (m:Int)):=by
     split at e4
     ·injection e4 with e4
      have hm0:m0=none:=by cases m0 with|none=>rfl|some v=>exact hm.elim
      exact .inl ⟨hm0,e4.symm⟩
     ·split at e4
      ·rcases boundD_ok e4 hm with⟨e,_⟩|e
       ·rw [e]at hm;exact hm.elim
       ·exact .inr e
      ·cases e4
    have g2:(h0=none∧hv=len∧m0=none)∨∃k,h0=some (.int k (hv:Int)):=by
     rcases boundD_ok e2 hh with⟨a,b⟩|b
     ·refine .inl ⟨a,b,?_⟩
      split at e4
      ·cases m0 with|none=>rfl|some v=>exact hm.elim
      ·split at e4
       ·rename_i his
        rw [a]at hh
        cases hi':hi with
        | none=>rw [hi']at his;cases his
        | some _=>rw [hi']at hh;exact hh.elim
       ·cases e4
     ·exact .inr b
    have fin: ∀a:Option Addr,u= .slice a len cap→∀w',(Instr.sliceAt t u l0 h0 m0).run P w'= .ok (.slice (if m=l then a else a.map (·.add (l*sz))) (hv - l) (m - l)) w':=by
     intro a hu0 w'
     subst hu0
     have hb:=sliceBounds_ok (P:=P) (isSlice:=true) (len:=len) (cap:=cap) (boundD_ok e1 hl) g2 g1 hle.1 hle.2.1 hle.2.2 w'
     simp [Instr.sliceAt,Instr.slice,run_underlying hu,hb,sizeOf,typeInfo,hinf,hisz]
    cases hx with|one t' v hvv=>cases hvv with
     | ba _ _ _ _ _ h1 h2=>
      refine⟨_,fin _ rfl,.one _ _ ?_⟩
      by_cases hml:m=l
      ·have h3:hv - l=0:=by omega
       have h4:m - l=0:=by omega
       rw [h3,h4]
       exact .bz _ _ _ _
      ·rw [if_neg hml]
       simp only [Option.map_some,add_none,← Nat.add_mul]
       exact .ba _ _ _ _ _ (by omega) (by omega)
     | bz _ _ _ A=>
      have h3:hv - l=0:=by omega
      have h4:m - l=0:=by omega
      refine⟨_,fin A rfl,.one _ _ ?_⟩
      rw [h3,h4]
      exact .bz _ _ _ _
   ·cases e3
  ·cases h
 ·rename_i e hu _
  simp only [Option.bind_eq_some_iff]at h
  obtain⟨⟨sz,xs⟩,hs,h⟩:=h
  split at h
  ·rename_i hsz
   obtain⟨e',i,hu',hinf,hisz,hpos⟩:=elemSz_ok hsz
   rw [hu]at hu';injection hu' with hu';injection hu' with hu';subst hu'
   simp only [Option.bind_eq_some_iff]at h
   obtain⟨l,e1,hv,e2,e3⟩:=h
   split at e3
   ·rename_i hle
    -- the machine's answer, once the third bound is known
    have fin: ∀(m cap:Nat),((m0=none∧m=cap)∨∃k,m0=some (.int k (m:Int)))→((h0=none∧hv=xs.length∧m0=none)∨∃k,h0=some (.int k (hv:Int)))→hv≤m→m≤cap→∀a:Option Addr,u= .slice a xs.length cap→
      ∀w',(Instr.sliceAt t u l0 h0 m0).run P w'= .ok (.slice (if m=l then a else a.map (·.add (l*sz))) (hv - l) (m - l)) w':=by
     intro m cap g1 g2 g3 g4 a hu0 w'
     subst hu0
     have hb:=sliceBounds_ok (P:=P) (isSlice:=true) (len:=xs.length) (cap:=cap) (boundD_ok e1 hl) g2 g1 hle.1 g3 g4 w'
     simp [Instr.sliceAt,Instr.slice,run_underlying hu,hb,sizeOf,typeInfo,hinf,hisz]
    rcases(asSl_ok hs hx).sl_inv with⟨rfl,rfl⟩|⟨a,cap,cv,rfl,c1,c2,c3,c4,c5⟩
    ·simp only [List.length_nil]at hle fin e2
     have hl0:l=0:=by omega
     have hv0:hv=0:=by omega
     subst hl0;subst hv0
     split at e3
     ·injection e3 with e3;subst e3
      have hm0:m0=none:=by cases m0 with|none=>rfl|some v=>exact hm.elim
      refine⟨_,fin 0 0 (.inl ⟨hm0,rfl⟩) ((boundD_ok e2 hh).imp (fun⟨a,b⟩=>⟨a,by simp,hm0⟩) id) (Nat.le_refl _) (Nat.le_refl _) none rfl,?_⟩
      simp only [if_true,List.take_nil,List.drop_nil,Nat.sub_self]
      exact .one _ _ (.c _ _ (.nil sz))
     ·rename_i m
      split at e3
      ·rename_i his
       simp only [Option.bind_eq_some_iff]at e3
       obtain⟨m',e4,e5⟩:=e3
       split at e5
       ·rename_i hmh
        injection e5 with e5;subst e5
        subst hmh
        have hh0: ∃k,h0=some (.int k ((0:Nat):Int)):=by
         rcases boundD_ok e2 hh with⟨e,_⟩|e
         ·rw [e]at hh;cases hi':hi with
          | none=>rw [hi']at his;cases his
          | some _=>rw [hi']at hh;exact hh.elim
         ·exact e
        rcases boundD_ok e4 hm with⟨e,_⟩|e
        ·rw [e]at hm;exact hm.elim
        ·refine⟨_,fin 0 0 (.inr e) (.inr hh0) (Nat.le_refl _) (Nat.le_refl _) none rfl,?_⟩
         simp only [if_true,List.take_nil,List.drop_nil,Nat.sub_self]
         exact .one _ _ (.ex _ _ _ (.nil sz) ⟨none,0,rfl⟩)
       ·cases e5
      ·cases e3
    ·split at e3
     ·injection e3 with e3;subst e3
      have hm0:m0=none:=by cases m0 with|none=>rfl|some v=>exact hm.elim
      refine⟨_,fin cap cap (.inl ⟨hm0,rfl⟩) ((boundD_ok e2 hh).imp (fun⟨a,b⟩=>⟨a,b,hm0⟩) id) (by omega) (Nat.le_refl _) (some a) rfl,?_⟩
      have:=VC.cut hpos c1 c2 c3 c4 c5 hle.1 hle.2 (by omega:hv≤cap) (Nat.le_refl _)
      refine .one _ _ (.c _ _ ?_)
      split
      ·rename_i he;rw [if_pos he]at this;exact this
      ·rename_i he;rw [if_neg he]at this;exact this
     ·rename_i m
      split at e3
      ·rename_i his
       simp only [Option.bind_eq_some_iff]at e3
       obtain⟨m',e4,e5⟩:=e3
       split at e5
       ·rename_i hmh
        injection e5 with e5;subst e5
        subst hmh
        have hh0: ∃k,h0=some (.int k (m':Int)):=by
         rcases boundD_ok e2 hh with⟨e,_⟩|e
         ·rw [e]at hh;cases hi':hi with
          | none=>rw [hi']at his;cases his
          | some _=>rw [hi']at hh;exact hh.elim
         ·exact e
        rcases boundD_ok e4 hm with⟨e,_⟩|e
        ·rw [e]at hm;exact hm.elim
        ·refine⟨_,fin m' cap (.inr e) (.inr hh0) (Nat.le_refl _) (by omega) (some a) rfl,?_⟩
         have:=VC.cut hpos c1 c2 c3 c4 c5 hle.1 hle.2 (Nat.le_refl _) (by omega)
         refine .one _ _ (.ex _ _ _ ?_ ⟨_,_,rfl⟩)
         split
         ·rename_i he;rw [if_pos he]at this;exact this
         ·rename_i he;rw [if_neg he]at this;exact this
       ·cases e5
      ·cases e3
   ·cases e3
  ·cases h
 ·cases h
end
end Go.Dl
/- The logic of data: the machine does what the operations' data say (III): composite values, calls; all quiet operations together. -/
namespace Go.Dl
open Go.RowKit
section
variable {P : Program}
theorem fold_get: ∀(l:List Value) (off n:Nat) (cells:Array Value),off+n+l.length≤cells.size→
  ((l.zipIdx n).foldl (fun(cs:Array Value) (p:Value×Nat)=>cs.setIfInBounds (off+p.2) p.1) cells).size=cells.size∧
  ∀k,((l.zipIdx n).foldl (fun(cs:Array Value) (p:Value×Nat)=>cs.setIfInBounds (off+p.2) p.1) cells)[k]? =if off+n≤k∧k<off+n+l.length then l[k - (off+n)]? else cells[k]?
 | [],off,n,cells,_=>by
  refine⟨by simp,fun k=>?_⟩
  rw [if_neg (by rintro⟨h1,h2⟩;simp at h2;omega)]
  simp
 | v::l,off,n,cells,h=>by
  simp only [List.length_cons]at h
  simp only [List.zipIdx_cons,List.foldl_cons]
  obtain⟨h1,h2⟩:=fold_get l off (n+1) (cells.setIfInBounds (off+n) v) (by simp;omega)
  refine⟨by rw [h1];simp,fun k=>?_⟩
  rw [h2 k]
  by_cases hk:k=off+n
  ·subst hk
   rw [if_neg (by omega),if_pos (by simp)]
   have:off+n<cells.size:=by omega
   simp [this]
  ·by_cases hk2:off+(n+1)≤k∧k<off+(n+1)+l.length
   ·rw [if_pos hk2,if_pos (by simp;omega)]
    obtain⟨j,hj⟩: ∃j,k - (off+n)=j+1:=⟨k - (off+n) - 1,by omega⟩
    rw [hj,List.getElem?_cons_succ]
    congr 1
    omega
   ·rw [if_neg hk2,if_neg (by simp;omega)]
    rw [Array.getElem?_setIfInBounds,if_neg (by omega)]
theorem fold_arr(vs cells:Array Value)(off:Nat)(h:off+vs.size≤cells.size):
  (vs.zipIdx.foldl (fun cs (c,j)=>cs.setIfInBounds (off+j) c) cells).size=cells.size∧
  ∀k,(vs.zipIdx.foldl (fun cs (c,j)=>cs.setIfInBounds (off+j) c) cells)[k]? =if off≤k∧k<off+vs.size then vs[k - off]? else cells[k]? :=by
 have:=fold_get vs.toList off 0 cells (by simpa using h)
 have he:(vs.zipIdx.foldl (fun cs (c,j)=>cs.setIfInBounds (off+j) c) cells)=((vs.toList.zipIdx 0).foldl (fun(cs:Array Value) (p:Value×Nat)=>cs.setIfInBounds (off+p.2) p.1) cells):=by
  rw [← Array.foldl_toList,Array.toList_zipIdx]
 rw [he]
 simpa using this
def CellsAre(w:World)(E:Env)(cells:Array Value)(cs:List T):Prop:=cells.size=cs.length∧∀(j:Nat) c u,cs[j]? =some c→cells[j]? =some u→VT w E c u
theorem fill_ok{place:Nat→Option (Nat×Nat)}{w:World}{E:Env}{ev:Operand→D}{ρ:Operand→Value}(hev: ∀x,VD w E (ev x) (ρ x)): ∀(parts:List (Nat×Operand)) (cells:Array Value) (cs cs':List T),
  fillD place cs (parts.map fun p=>(p.1,ev p.2))=some cs'→CellsAre w E cells cs→
  ∃cells',Instr.fill place cells (parts.map fun p=>(p.1,ρ p.2))=some cells'∧CellsAre w E cells' cs'
 | [],cells,cs,cs',h,hc=>by
  injection h with h;subst h
  exact⟨cells,rfl,hc⟩
 | (i,x)::parts,cells,cs,cs',h,hc=>by
  simp only [List.map_cons,fillD]at h
  simp only [List.map_cons,Instr.fill]
  cases hp:place i with
  | none=>simp [hp]at h
  | some os=>
   obtain⟨off,size⟩:=os
   cases hd:(ev x).cells with
   | none=>simp [hp,hd]at h
   | some ns=>
    simp only [hp,hd]at h
    split at h
    ·rename_i hle
     obtain⟨g1,g2,_⟩:=cells_ok hd (hev x)
     obtain⟨c1,c2⟩:=hc
     have hb: ¬((ρ x).cells.size≠size||decide (off+(ρ x).cells.size>cells.size))=true:=by
      simp [g1,hle.1,c1];omega
     simp only [hb]
     obtain⟨f1,f2⟩:=fold_arr (ρ x).cells cells off (by omega)
     refine fill_ok hev parts _ _ cs' h ⟨?_,fun j c u k1 k2=>?_⟩
     ·rw [f1,c1];simp;omega
     ·rw [f2 j]at k2
      by_cases hj:off≤j∧j<off+(ρ x).cells.size
      ·rw [if_pos hj]at k2
       refine g2 (j - off) c u ?_ k2
       rw [List.getElem?_append_right (by simp;omega),List.length_take,Nat.min_eq_left (by omega),List.getElem?_append_left (by omega)]at k1
       exact k1
      ·rw [if_neg hj]at k2
       refine c2 j c u ?_ k2
       by_cases hj2:j<off
       ·rw [List.getElem?_append_left (by simp;omega),List.getElem?_take,if_pos hj2]at k1
        exact k1
       ·rw [List.getElem?_append_right (by simp;omega),List.length_take,Nat.min_eq_left (by omega),List.getElem?_append_right (by omega),List.getElem?_drop]at k1
        rw [← k1];congr 1;omega
    ·cases h
theorem places_ok{t:TypeId}{pl:List (Nat×Nat)}(h:Program.places P t=some pl): ∃fs,P.underlying t=some (.struct fs)∧
  ∀w:World,((fs.mapM fun f=>do pure (f.offset,← sizeOf f.type)):Sem (Array (Nat×Nat))).run P w= .ok pl.toArray w:=by
 unfold Program.places at h
 split at h
 ·rename_i fs hu
  refine⟨fs,hu,fun w=>?_⟩
  have key: ∀(l:List Field) (pl:List (Nat×Nat)),(l.mapM fun fd=>(P.info? fd.type).map fun i=>(fd.offset,i.size))=some pl→
    ((l.mapM fun f=>do pure (f.offset,← sizeOf f.type)):Sem (List (Nat×Nat))).run P w= .ok pl w:=by
   intro l
   induction l with
   | nil=>intro pl h;simp at h;subst h;simp
   | cons f l ih=>
    intro pl h
    simp only [List.mapM_cons,Option.pure_def,Option.bind_eq_bind,Option.bind_eq_some_iff,Option.map_eq_some_iff,Option.some.injEq]at h
    obtain⟨x,⟨i,hi,rfl⟩,l',h2,rfl⟩:=h
    have hs:(sizeOf f.type).run P w= .ok i.size w:=by simp [sizeOf,typeInfo,hi]
    simp only [List.mapM_cons,Sem.run_bind,hs,Result.andThen_ok,Sem.run_pure,ih l' h2]
  rw [Array.mapM_eq_mapM_toList]
  simp only [Sem.run_map,key _ _ h,Result.andThen_ok]
 ·cases h
theorem buildD_ok{t:TypeId}{parts:Array (Nat×Operand)}{ev:Operand→D}{ρ:Operand→Value}{cs:List T}(h:buildD P t (parts.toList.map fun p=>(p.1,ev p.2))=some cs){w:World}{E:Env}(hev: ∀x,VD w E (ev x) (ρ x)):
  ∃v,(Instr.build t (parts.map fun(i,x)=>(i,ρ x))).run P w= .ok v w∧VD w E (.agg cs) v:=by
 unfold buildD at h
 split at h
 ·rename_i pl z hpl hz
  obtain⟨fs,hu,hrun⟩:=places_ok hpl
  obtain⟨i,zv,h1,h2,h3,h4⟩:=zeroT_ok hz
  obtain⟨cells,f1,f2⟩:=fill_ok hev parts.toList zv.cells z cs h ⟨h3,h4 w E⟩
  refine⟨.agg cells,?_,.agg _ _ f2.1 f2.2⟩
  have hzr:(zeroValue t).run P w= .ok zv w:=by simp [zeroValue,typeInfo,h1,h2]
  have hpt:((parts.map fun(i,x)=>(i,ρ x)).toList)=parts.toList.map fun p=>(p.1,ρ p.2):=by simp
  have hpl':(fun(x:Nat)=>pl.toArray[x]?)=(fun(x:Nat)=>pl[x]?):=by funext x;simp
  simp only [Instr.build,Sem.run_bind,hzr,Result.andThen_ok,run_underlying hu,hrun w,hpt,hpl',f1,Sem.run_pure]
 ·cases h
theorem quiet_alloc{w:World}{E:Env}(hk:KOk w E.K)(arr:Array Value)(e:TypeId)(N:Nat)(hN:N≤arr.size):
  Quiet w E (w.alloc (.cells arr e)) { E with K:=fun b o=>E.K b o∨(b=w.heap.size∧o<N) }:=by
 refine⟨(Below.refl _ _).alloc (Nat.le_refl _) _,fun b o h=>.inl h,fun b o hb h=>?_,hk.wide (fun b o q=>⟨.inl q,World.cell?_alloc_lt w _ ⟨b,o,none⟩ (lt_of_cell (hk b o q))⟩) (fun b o h=>?_) (hk.z.below ((Below.refl _ _).alloc (Nat.le_refl _) _)),rfl,rfl⟩
 ·rcases h with h|⟨h,_⟩
  ·exact h
  ·omega
 ·rcases h with h|⟨rfl,h⟩
  ·have hlt:=lt_of_cell (hk b o h)
   rw [World.cell?_alloc_lt w _ ⟨b,o,none⟩ hlt]
   exact hk b o h
  ·rw [World.cell?_alloc_at arr e _ o rfl]
   have:o<arr.size:=by omega
   simp [this]
def RowsAre(w:World)(E:Env)(sz:Nat)(cells:Array Value)(rows:List (List C)):Prop:=
 cells.size=rows.length*sz∧(∀r∈rows,r.length=sz)∧∀(i j:Nat) r c u,rows[i]? =some r→r[j]? =some c→cells[i*sz+j]? =some u→VC w E.K c u
theorem rows_ok{sz:Nat}{w:World}{E:Env}{ev:Operand→D}{ρ:Operand→Value}(hev: ∀x,VD w E (ev x) (ρ x)): ∀(parts:List (Nat×Operand)) (cells:Array Value) (rows rows':List (List C)),
  rowsD rows sz (parts.map fun p=>(p.1,ev p.2))=some rows'→RowsAre w E sz cells rows→
  ∃cells',Instr.fill (fun i=>some (i*sz,sz)) cells (parts.map fun p=>(p.1,ρ p.2))=some cells'∧RowsAre w E sz cells' rows'∧rows'.length=rows.length
 | [],cells,rows,rows',h,hc=>by
  injection h with h;subst h
  exact⟨cells,rfl,hc,rfl⟩
 | (i,x)::parts,cells,rows,rows',h,hc=>by
  simp only [List.map_cons,rowsD]at h
  simp only [List.map_cons,Instr.fill]
  cases hd:(ev x).cells with
  | none=>simp [hd]at h
  | some ns=>
   simp only [hd]at h
   split at h
   ·rename_i hle
    obtain⟨g1,g2,_⟩:=cells_ok hd (hev x)
    obtain⟨c1,c2,c3⟩:=hc
    have hmul:i*sz+sz≤rows.length*sz:=by
     have:(i+1)*sz≤rows.length*sz:=Nat.mul_le_mul_right sz hle.2
     rw [Nat.add_mul,Nat.one_mul]at this;exact this
    have hb: ¬((ρ x).cells.size≠sz||decide (i*sz+(ρ x).cells.size>cells.size))=true:=by
     simp [g1,hle.1,c1];omega
    simp only [hb]
    obtain⟨f1,f2⟩:=fold_arr (ρ x).cells cells (i*sz) (by omega)
    have hnew:RowsAre w E sz ((ρ x).cells.zipIdx.foldl (fun cs (c,j)=>cs.setIfInBounds (i*sz+j) c) cells) (rows.set i (ns.map T.cl)):=by
     refine⟨by rw [f1,c1,List.length_set],fun r hr=>?_,fun i' j r c u k1 k2 k3=>?_⟩
     ·rcases List.mem_or_eq_of_mem_set hr with hr|rfl
      ·exact c2 r hr
      ·rw [List.length_map];exact hle.1
     ·rw [List.getElem?_set]at k1
      rw [f2]at k3
      by_cases hii:i=i'
      ·subst hii
       rw [if_pos rfl,if_pos hle.2]at k1
       injection k1 with k1;subst k1
       have hj:j<ns.length:=by simpa using (List.getElem?_eq_some_iff.1 k2).1
       rw [if_pos (by omega)]at k3
       rw [List.getElem?_map]at k2
       cases hn:ns[j]? with
       | none=>rw [hn]at k2;cases k2
       | some t'=>
        rw [hn]at k2;injection k2 with k2;subst k2
        exact(g2 j t' u hn (by rw [← k3];congr 1;omega)).cl
      ·rw [if_neg hii]at k1
       have hrl:=c2 r (List.mem_of_getElem? k1)
       have hj:j<sz:=by have:=(List.getElem?_eq_some_iff.1 k2).1;omega
       have hne: ¬(i*sz≤i'*sz+j∧i'*sz+j<i*sz+(ρ x).cells.size):=by
        rintro⟨n1,n2⟩
        rcases Nat.lt_or_gt_of_ne hii with hlt|hlt
        ·have:(i+1)*sz≤i'*sz:=Nat.mul_le_mul_right sz hlt
         rw [Nat.add_mul,Nat.one_mul]at this;omega
        ·have:(i'+1)*sz≤i*sz:=Nat.mul_le_mul_right sz hlt
         rw [Nat.add_mul,Nat.one_mul]at this;omega
       rw [if_neg hne]at k3
       exact c3 i' j r c u k1 k2 k3
    obtain⟨cells',e1,e2,e3⟩:=rows_ok hev parts _ _ rows' h hnew
    exact⟨cells',e1,e2,by rw [e3,List.length_set]⟩
   ·cases h
theorem buildSliceD_ok{t:TypeId}{len:Nat}{parts:Array (Nat×Operand)}{ev:Operand→D}{ρ:Operand→Value}{sz:Nat}{rows:List (List C)}(h:buildSliceD P t len (parts.toList.map fun p=>(p.1,ev p.2))=some (sz,rows)){w:World}{E:Env}
  (hk:KOk w E.K) (hev: ∀x,VD w E (ev x) (ρ x)):
  ∃v w' E',(Instr.buildSlice t len (parts.map fun(i,x)=>(i,ρ x))).run P w= .ok v w'∧Quiet w E w' E'∧VD w' E' (.one (.ex sz rows)) v:=by
 unfold buildSliceD at h
 split at h
 ·rename_i e hu
  split at h
  ·rename_i z n hz hn
   simp only [cellsOfT,Option.map_eq_some_iff]at hn
   obtain⟨i,hi,rfl⟩:=hn
   split at h
   ·rename_i hc
    simp only [Option.map_eq_some_iff,Prod.mk.injEq]at h
    obtain⟨rows',hr,rfl,rfl⟩:=h
    obtain⟨i',zv,h1,h2,h3,h4⟩:=zeroC_ok hz
    rw [hi]at h1;injection h1 with h1;subst h1
    have hzr:(zeroValue e).run P w= .ok zv w:=by simp [zeroValue,typeInfo,hi,h2]
    have hsz:(sizeOf e).run P w= .ok z.length w:=by simp [sizeOf,typeInfo,hi,hc.1]
    have hpt:((parts.map fun(i,x)=>(i,ρ x)).toList)=parts.toList.map fun p=>(p.1,ρ p.2):=by simp
    -- the zero rows
    let zero:Array Value:=if len*z.length=0 then #[]else zv.cells
    have hzrun:((if len*z.length=0 then pure #[]else do pure (← zeroValue e).cells):Sem (Array Value)).run P w= .ok zero w:=by
     simp only [Sem.run_ite,Sem.run_pure,Sem.run_bind,hzr,Result.andThen_ok,zero]
     split<;>rfl
    have hinit:RowsAre w E z.length ((Array.range (len*z.length)).map (zero[· % zero.size]!)) (List.replicate len z):=by
     refine⟨by simp,fun r hr=>by rw [List.eq_of_mem_replicate hr],fun i j r c u k1 k2 k3=>?_⟩
     have hil:i<len:=by have:=(List.getElem?_eq_some_iff.1 k1).1;simpa using this
     have hrz:r=z:=by
      have:=List.getElem?_eq_some_iff.1 k1
      obtain⟨_,g⟩:=this
      rw [← g];simp
     subst hrz
     have hj:j<r.length:=(List.getElem?_eq_some_iff.1 k2).1
     have hpos:0<len*r.length:=Nat.mul_pos (by omega) (by omega)
     have hze:zero=zv.cells:=by simp only [zero];rw [if_neg (by omega)]
     rw [hze]at k3
     obtain⟨hlt,hget⟩:=Array.getElem?_eq_some_iff.1 k3
     simp only [Array.getElem_map,Array.getElem_range]at hget
     have hmod:(i*r.length+j) % zv.cells.size=j:=by
      rw [h3,Nat.mul_comm,Nat.mul_add_mod];exact Nat.mod_eq_of_lt hj
     rw [hmod]at hget
     refine h4 w E.K j c u k2 ?_
     have hjz:j<zv.cells.size:=by omega
     rw [Array.getElem?_eq_getElem hjz,← hget]
     simp [hjz]
    obtain⟨cells,f1,f2,f3⟩:=rows_ok hev parts.toList _ _ rows' hr hinit
    obtain⟨c1,c2,c3⟩:=f2
    have hlen:rows'.length=len:=by rw [f3];simp
    have hq:=quiet_alloc hk cells e (rows'.length*z.length) (by omega)
    refine⟨.slice (some ⟨w.heap.size,0,none⟩) len len,_,_,?_,hq,?_⟩
    ·have hnot: ¬(len*z.length>2 ^ 24):=by omega
     by_cases h0:len*z.length=0
     ·have hz0:zero= #[]:=by simp only [zero,if_pos h0]
      rw [hz0]at f1
      simp only [Instr.buildSlice,Sem.run_bind,run_underlying hu,Result.andThen_ok,hsz,Sem.run_ite,hnot,if_false,Sem.run_pure,if_pos h0,hpt,f1,newRow,run_newObj]
      rfl
     ·have hz0:zero=zv.cells:=by simp only [zero,if_neg h0]
      rw [hz0]at f1
      simp only [Instr.buildSlice,Sem.run_bind,run_underlying hu,Result.andThen_ok,hsz,Sem.run_ite,hnot,if_false,Sem.run_pure,if_neg h0,hzr,hpt,f1,newRow,run_newObj]
      rfl
    ·refine .one _ _ (.ex _ _ _ ?_ ⟨_,len,rfl⟩)
     have hl2:=hq.later hk
     rw [← hlen]
     have hm:rows'.length≤maxLen:=by
      have:rows'.length≤rows'.length*z.length:=Nat.le_mul_of_pos_right _ hc.2.1
      have h2:=hc.2.2
      rw [← hlen]at h2
      unfold maxLen;omega
     refine .sl z.length rows' ⟨w.heap.size,0,none⟩ rows'.length (fun j=>cells.getD j undef) c2 (Nat.le_refl _) hm (fun j hj=>⟨rfl,.inr ⟨rfl,by simpa using hj⟩,?_⟩) (fun i j r c k1 k2=>?_)
     ·rw [World.cell?_alloc_at cells e _ _ rfl]
      have hjj:j<cells.size:=by omega
      simp only [Nat.zero_add]
      simp [hjj]
     ·have hr1:=c2 r (List.mem_of_getElem? k1)
      have hj:j<z.length:=by have:=(List.getElem?_eq_some_iff.1 k2).1;omega
      have hi1:i<rows'.length:=(List.getElem?_eq_some_iff.1 k1).1
      have hlt:i*z.length+j<cells.size:=by
       have:(i+1)*z.length≤rows'.length*z.length:=Nat.mul_le_mul_right _ hi1
       rw [Nat.add_mul,Nat.one_mul]at this;omega
      have:=c3 i j r c _ k1 k2 (Array.getElem?_eq_getElem hlt)
      have hg:cells.getD (i*z.length+j) undef=cells[i*z.length+j]:=by simp [hlt]
      rw [hg]
      exact this.mono hl2.keep
   ·cases h
  ·cases h
 ·cases h
/-! ### Calls -/
theorem LeL_ok{l l':List D}(h:LeL l l'){w:World}{K:KSet}{vs:Array Value}(hv: ∀(j:Nat) d v,l[j]? =some d→vs[j]? =some v→VD w (E0 K) d v):
  l.length=l'.length∧∀(j:Nat) d v,l'[j]? =some d→vs[j]? =some v→VD w (E0 K) d v:=by
 have key: ∀{l l':List D},LeL l l'→l.length=l'.length∧∀(j:Nat) d',l'[j]? =some d'→∃d,l[j]? =some d∧Le d d':=by
  intro l l' h
  induction h with
  | nil=>exact⟨rfl,fun j d h=>by simp at h⟩
  | cons h1 h2 ih=>
   refine⟨by simp [ih.1],fun j d' hd=>?_⟩
   cases j with
   | zero=>simp at hd;subst hd;exact⟨_,rfl,h1⟩
   | succ j=>simpa using ih.2 j d' (by simpa using hd)
 obtain⟨h1,h2⟩:=key h
 refine⟨h1,fun j d v g1 g2=>?_⟩
 obtain⟨d0,g3,g4⟩:=h2 j d g1
 exact g4 w K v (hv j d0 v g3 g2)
theorem plainF_ok{f:FuncId}(h:Program.plainF P f=true)(args:Array Value)(w:World):(callFunc f args).run P w= .ok (.enter f args) w:=by
 unfold Program.plainF at h
 cases hf:P.funcs[f]? with
 | none=>rw [hf]at h;cases h
 | some fn=>
  rw [hf]at h
  simp only [Bool.and_eq_true,bne_iff_ne,ne_eq]at h
  have h1 : (fn.name == "runtime.NumGoroutine") = false := by simpa using h.1
  have h2:fn.body.isNone=false:=by
   cases hb:fn.body with
   | none=>rw [hb]at h;simp at h
   | some _=>rfl
  have h3: ¬fn.body=none:=by intro e;rw [e]at h;simp at h
  simp [callFunc,hf,h.1,h3]
theorem VD.ret_cl{w':World}{E E':Env}{r:D}{v:Value}(hr:VD w' E' r v):VD w' { K:=E'.K,ρ:=E.ρ,val:=E.val } r.cl v:=by
 cases hr with
 | any v=>exact .any v
 | one t v h=>exact .one _ _ (.c _ _ h.cl)
 | agg ts vs hl hr=>
  refine .agg _ vs (by simpa using hl) fun j t v h1 h2=>?_
  rw [List.getElem?_map]at h1
  cases hc:ts[j]? with
  | none=>rw [hc]at h1;cases h1
  | some t'=>rw [hc]at h1;injection h1 with h1;subst h1;exact .c _ _ (hr j t' v hc h2).cl
 | tup ds vs hl hr=>exact .any _
theorem Ret.quiet{w w':World}{E E':Env}(h:Ret w E.K w' E'):Quiet w E w' { K:=E'.K,ρ:=E.ρ,val:=E.val }:=
 ⟨h.below,h.kin,h.kold,h.kok,rfl,rfl⟩
theorem args_ok{w:World}{E:Env}{ev:Operand→D}{ρ:Operand→Value}(hev: ∀x,VD w E (ev x) (ρ x))(args:List Operand)(caps:List C)(vs:Array Value)(hvs:vs.size=caps.length)
  (hc: ∀(j:Nat) c v,caps[j]? =some c→vs[j]? =some v→VC w E.K c v):
  ((args.map ρ).toArray++vs).size=((args.map ev).map D.cl++caps.map fun c=>D.one (.c c)).length∧
  ∀(j:Nat) d v,((args.map ev).map D.cl++caps.map fun c=>D.one (.c c))[j]? =some d→((args.map ρ).toArray++vs)[j]? =some v→VD w (E0 E.K) d v:=by
 refine⟨by simp [hvs],fun j d v g1 g2=>?_⟩
 by_cases hj:j<args.length
 ·rw [List.getElem?_append_left (by simpa using hj)]at g1
  rw [Array.getElem?_append_left (by simpa using hj)]at g2
  simp [hj]at g1 g2
  subst g1;subst g2
  exact(hev _).cl
 ·rw [List.getElem?_append_right (by simp;omega)]at g1
  rw [Array.getElem?_append_right (by simp;omega)]at g2
  simp only [List.length_map,List.size_toArray]at g1 g2
  rw [List.getElem?_map]at g1
  cases hcc:caps[j - args.length]? with
  | none=>rw [hcc]at g1;cases g1
  | some c=>rw [hcc]at g1;injection g1 with g1;subst g1;exact .one _ _ (.c _ _ (hc _ c v hcc g2))
theorem resolve_value(ρ:Operand→Value)(f:Operand)(args:Array Operand)(tys:Array TypeId)(ty:TypeId)(g:FuncId)(vs:Array Value)(hf:ρ f= .func (.func g) #[] vs)(w:World):
  (resolve ρ { callee:=.value f,args:=args,argTypes:=tys } ty).run P w= .ok { target:=.fn (.func g) vs,args:=args.map ρ } w:=by
 simp [resolve,hf,Deferred.ofValue]
theorem callD_ok{o:Oper}{a:Act}{w:World}{E:Env}{K:D→Prop}{f:Operand}{args:Array Operand}{tys:Array TypeId}(ho:o.op= .call { callee:=.value f,args:=args,argTypes:=tys }){ev:Operand→D}
  (hk:KOk w E.K) (hev: ∀x,VD w E (ev x) (a.eval x)) (h:CallD P (ev f) (args.toList.map ev) K) {Q:Exit→Act→World→Prop}:o.wp P a w (QPost o a w E K) Q:=by
 obtain⟨g,caps,ds,r,hf,hle,hc,hK⟩:=h
 have hv:=hev f
 rw [hf]at hv
 cases hfv:a.eval f with
 | func fn first captured=>
  rw [hfv]at hv
  cases hv with|one t v hv=>cases hv with|c c v hv=>cases hv with
   | fn g caps vs hl hr=>
    obtain⟨h1,h2⟩:=args_ok hev args.toList caps captured hl hr
    have h1':(args.map a.eval++captured).size=ds.length:=by
     rw [← (LeL_ok hle h2).1,← h1];simp
    have h2': ∀(j:Nat) d v,ds[j]? =some d→(args.map a.eval++captured)[j]? =some v→VD w (E0 E.K) d v:=by
     have:=(LeL_ok hle h2).2
     have he:(args.toList.map a.eval).toArray++captured=args.map a.eval++captured:=by
      congr 1;apply Array.ext';simp
     rw [he]at this;exact this
    have hcall:=hc.2 w E.K _ hk h1' h2'
    have hrun:(execOp a.eval o).run P w= .ok (.enter g (args.map a.eval++captured)) w:=by
     unfold execOp
     simp only [ho,Sem.run_bind]
     rw [resolve_value a.eval f args tys _ g captured hfv w]
     simp only [Result.andThen_ok,invoke]
     exact plainF_ok hc.1 _ w
    unfold Oper.wp
    rw [hrun]
    refine Calls.mono hcall ?_
    rintro e w' ⟨v,E',rfl,hret,hvd⟩
    exact⟨r.cl,v,_,hK,rfl,hret.quiet,hvd.ret_cl⟩
 | _=>rw [hfv]at hv;cases hv with|one t v hv=>cases hv with|c c v hv=>cases hv
end
end Go.Dl
/- The logic of data: all quiet operations together; a region whose operations are quiet, in whatever order it is drawn. -/
namespace Go.Dl
open Go.RowKit
section
variable {P : Program}
theorem VD.bx_inv{w:World}{E:Env}{n sz i o:Nat}{v:Value}(h:VD w E (.one (.bx n sz i o)) v):v= .pointer (some ⟨E.ρ n,i*sz+o,none⟩):=by
 cases h with|one t v h=>cases h;rfl
theorem fieldOff_ok{t:TypeId}{f off:Nat}(h:Program.fieldOff P t f=some off)(ad:Addr)(w:World):(Instr.fieldAt t (.pointer (some ad)) f).run P w= .ok (.pointer (some (ad.add off))) w:=by
 unfold Program.fieldOff at h
 split at h
 ·rename_i fs hu
  split at h
  ·rename_i fd hf
   split at h
   ·rename_i i hi
    split at h
    ·cases h
    ·rename_i hne
     injection h with h;subst h
     simp [Instr.fieldAt,run_underlying hu,hf,Instr.sureAddr,fieldPlace,sizeOf,typeInfo,hi,hne]
   ·cases h
  ·cases h
 ·cases h
theorem VC.pt_drop{w:World}{K:KSet}{cs:List C}{v:Value}(h:VC w K (.pt cs) v)(off:Nat): ∃ad,v= .pointer (some ad)∧VC w K (.pt (cs.drop off)) (.pointer (some (ad.add off))):=by
 cases h with
 | pt cs b o cv hK hr=>
  refine⟨_,rfl,?_⟩
  rw [add_none]
  refine .pt _ b (o+off) (fun j=>cv (off+j)) (fun j hj=>?_) (fun j c hc=>?_)
  ·have:=hK (off+j) (by simp at hj;omega)
   rw [Nat.add_assoc];exact this
  ·exact hr (off+j) c (by simpa using hc)
theorem indexD_ok{t:TypeId}{x i:D}{r:Value}(h:indexD P t x i=some r){w:World}{E:Env}{u v:Value}(hx:VD w E x u)(hi:VD w E i v):(Instr.index t u v).run P w= .ok r w∧r.oneCell'=true:=by
 unfold indexD at h
 split at h
 ·rename_i s k j hu
  split at h
  ·rename_i hj
   rw [hx.lit,hi.lit]
   simp only [Option.map_eq_some_iff]at h
   obtain⟨b,hb,rfl⟩:=h
   have hb':s[j.toNat]? =some b:=by
    rw [← hb]
    obtain⟨hl,e⟩:=List.getElem?_eq_some_iff.1 hb
    have hl':j.toNat<s.size:=by simpa using hl
    rw [hb,getElem?_pos s j.toNat hl',Option.some.injEq,← e]
    simp [ByteArray.getElem_eq_getElem_data]
   refine⟨?_,rfl⟩
   simp [Instr.index,asIntOf,run_underlying hu,hj,hb']
  ·cases h
 ·cases h
theorem rowsB_at: ∀{xs:List (List C)} {l:List UInt8},rowsB xs=some l→xs.length=l.length∧∀(j:Nat) r,xs[j]? =some r→∃n b,r= [.lit (.int .u8 n)]∧l[j]? =some b∧b=UInt8.ofNat n.toNat
 | [],l,h=>by simp [rowsB]at h;subst h;simp
 | x::xs,l,h=>by
  unfold rowsB at h
  split at h
  ·rename_i he;cases he
  ·rename_i c l' he
   injection he with h1 h2
   subst h1;subst h2
   cases hb:byteC c with
   | none=>rw [hb]at h;cases h
   | some b=>
    rw [hb]at h
    cases hr:rowsB xs with
    | none=>rw [hr]at h;cases h
    | some r=>
     rw [hr]at h
     simp at h;subst h
     obtain⟨i1,i2⟩:=rowsB_at hr
     refine⟨by simp [i1],fun j q hq=>?_⟩
     cases j with
     | zero=>
      simp at hq;subst hq
      unfold byteC at hb
      split at hb
      ·rename_i n;injection hb with hb;exact⟨n,b,rfl,rfl,hb.symm⟩
      ·cases hb
     | succ j=>simpa using i2 j q (by simpa using hq)
  ·cases h
theorem foldl_push_bytes: ∀(ns:List Int) (r:ByteArray),ns.foldl (fun r n=>r.push (UInt8.ofNat n.toNat)) r=⟨r.data++(ns.map fun n=>UInt8.ofNat n.toNat).toArray⟩
 | [],r=>by simp
 | n::ns,r=>by
  rw [List.foldl_cons,foldl_push_bytes ns]
  simp [ByteArray.push]
theorem bytesStr_ok{src dst e:TypeId}{x d:D}(h:(x.asSl.bind fun(sz,xs)=>if sz=1 then(rowsB xs).map fun l=>D.one (.c (.lit (.string ⟨l.toArray⟩)))else none)=some d)(hs:P.underlying src=some (.slice e))(he:P.underlying e=some (.int .u8))(hd:P.underlying dst=some .string)
  {w:World} {E:Env} (hk:KOk w E.K) {u:Value} (hx:VD w E x u): ∃v w' E',(convert src dst u).run P w= .ok v w'∧Quiet w E w' E'∧VD w' E' d v:=by
 cases ha:x.asSl with
 | none=>rw [ha]at h;cases h
 | some p=>
  obtain⟨sz,xs⟩:=p
  rw [ha]at h
  simp only [Option.bind_some]at h
  split at h
  ·rename_i hsz
   subst hsz
   cases hr:rowsB xs with
   | none=>rw [hr]at h;cases h
   | some l=>
    rw [hr]at h;injection h with h;subst h
    obtain⟨hl,hat⟩:=rowsB_at hr
    rcases(asSl_ok ha hx).sl_inv with⟨rfl,rfl⟩|⟨a,cap,cv,rfl,hsz,hc,hm,hK,hV⟩
    ·have:l= []:=List.eq_nil_of_length_eq_zero (by simpa using hl.symm)
     subst this
     refine⟨_,w,E,?_,Quiet.refl hk,.one _ _ (.c _ _ (.lit _ rfl))⟩
     rw [run_convert_bytes_string w src dst e none 0 0 hs he hd]
     rfl
    ·obtain⟨ns,hns⟩: ∃ns:List Int,ns=(List.range xs.length).map fun j=>match cv j with| .int _ n=>n|_=>0:=⟨_,rfl⟩
     have hcv: ∀j (hj:j<xs.length),∃n b,cv j= .int .u8 n∧l[j]? =some b∧b=UInt8.ofNat n.toNat:=fun j hj=>by
      obtain⟨n,b,h1,h2,h3⟩:=hat j xs[j] (List.getElem?_eq_getElem hj)
      have hv:=hV j 0 xs[j] (.lit (.int .u8 n)) (List.getElem?_eq_getElem hj) (by rw [h1];rfl)
      simp only [Nat.mul_one,Nat.add_zero]at hv
      cases hv':cv j with
      | int k z=>rw [hv']at hv;cases hv with|lit _ _=>exact⟨n,b,rfl,h2,h3⟩
      | _=>rw [hv']at hv;cases hv
     have hnl:ns.length=xs.length:=by rw [hns];simp
     have hnat: ∀j (hj:j<xs.length),∃n b,ns[j]? =some n∧cv j= .int .u8 n∧l[j]? =some b∧b=UInt8.ofNat n.toNat:=fun j hj=>by
      obtain⟨n,b,h1,h2,h3⟩:=hcv j hj
      refine⟨n,b,?_,h1,h2,h3⟩
      rw [hns,List.getElem?_map,List.getElem?_range hj]
      simp [h1]
     have hload:=run_loadCells_list (P:=P) w a (ns.map (Value.int .u8)) (fun j v hj=>by
      rw [List.getElem?_map]at hj
      have hjl:j<xs.length:=by
       rcases Nat.lt_or_ge j ns.length with g|g
       ·omega
       ·rw [List.getElem?_eq_none g]at hj;cases hj
      obtain⟨n,b,h1,h2,_⟩:=hnat j hjl
      rw [h1]at hj;injection hj with hj
      obtain⟨k1,_,k3⟩:=hK j (by omega)
      rw [← hj,← h2,← k3]
      have:a.add j=⟨a.block,a.off+j,none⟩:=by
       obtain⟨ab,ao,asp⟩:=a
       simp only at k1;subst k1
       simp only [Addr.add];split
       ·rename_i h0;simp [h0]
       ·rfl
      rw [this])
     rw [List.length_map,hnl]at hload
     refine⟨_,w,E,?_,Quiet.refl hk,.one _ _ (.c _ _ (.lit _ rfl))⟩
     rw [run_convert_bytes_string w src dst e (some a) xs.length cap hs he hd,run_bytesToString w a xs.length cap ns hload,foldl_push_bytes]
     congr 3
     have:(ns.map fun n=>UInt8.ofNat n.toNat)=l:=by
      apply List.ext_getElem?
      intro j
      rcases Nat.lt_or_ge j xs.length with hj|hj
      ·obtain⟨n,b,h1,_,h2,h3⟩:=hnat j hj
       rw [List.getElem?_map,h1,h2,h3];rfl
      ·rw [List.getElem?_eq_none (by simp;omega),List.getElem?_eq_none (by omega)]
     rw [this]
     simp
  ·cases h
theorem convX_ok{src dst:TypeId}{x d:D}(h:convX P src dst x=some d){w:World}{E:Env}(hk:KOk w E.K){u:Value}(hx:VD w E x u):
  ∃v w' E',(convert src dst u).run P w= .ok v w'∧Quiet w E w' E'∧VD w' E' d v:=by
 unfold convX at h
 split at h
 ·rename_i e s hs hd
  split at h
  ·rename_i he
   split at h
   ·rename_i hm
    injection h with h;subst h
    rw [hx.lit]
    have hrun:=Lib.run_convert_string_bytes w src dst e s hs hd he
    have hge:=grownCap_ge w s.size 0 e
    have hle:=grownCap_le_maxLen w s.size 0 e hm
    refine⟨_,_,{ E with K:=fun b o=>E.K b o∨(b=w.heap.size∧o<s.size) },hrun,?_,?_⟩
    ·have hold: ∀b o,b<w.heap.size→(Lib.bytesWorld w e s).cell? ⟨b,o,none⟩=w.cell? ⟨b,o,none⟩:=fun b o hb=>Lib.bytesWorld_old w e s ⟨b,o,none⟩ hb
     refine⟨⟨rfl,rfl,rfl,by rw [Lib.bytesWorld_size];omega,fun b hb=>Lib.bytesWorld_at_old w e s b hb⟩,fun b o h=>.inl h,fun b o hb h=>?_,hk.wide (fun b o q=>⟨.inl q,hold b o (lt_of_cell (hk b o q))⟩) (fun b o h=>?_) (hk.z.below ⟨rfl,rfl,rfl,by rw [Lib.bytesWorld_size];omega,fun b hb=>Lib.bytesWorld_at_old w e s b hb⟩),rfl,rfl⟩
     ·rcases h with h|⟨h,_⟩
      ·exact h
      ·omega
     ·rcases h with h|⟨rfl,h⟩
      ·rw [hold b o (lt_of_cell (hk b o h))];exact hk b o h
      ·rw [Lib.bytesWorld_cell w e s o h];rfl
    ·refine .one _ _ (.c _ _ ?_)
     have hlen:(bytesC s).length=s.size:=by simp [bytesC]
     have:=VC.sl (w:=Lib.bytesWorld w e s) (K:=fun b o=>E.K b o∨(b=w.heap.size∧o<s.size)) 1 (bytesC s) ⟨w.heap.size,0,none⟩ (grownCap w s.size 0 e) (fun j=>.int .u8 (s.data.toList.getD j 0).toNat)
      (fun r hr=>by simp only [bytesC,List.mem_map]at hr;obtain⟨b,_,rfl⟩:=hr;rfl) (by rw [hlen];exact hge) hle
      (fun j hj=>by
       have hj':j<s.size:=by rw [hlen,Nat.mul_one]at hj;exact hj
       simp only [Nat.zero_add]
       exact⟨trivial,.inr ⟨trivial,hj'⟩,Lib.bytesWorld_cell w e s j hj'⟩)
      (fun i j r c h1 h2=>by
       simp only [bytesC,List.getElem?_map]at h1
       cases hb:s.data.toList[i]? with
       | none=>rw [hb]at h1;cases h1
       | some b=>
        rw [hb]at h1;injection h1 with h1;subst h1
        cases j with
        | zero=>
         simp at h2;subst h2
         have:s.data.toList.getD (i*1+0) 0=b:=by simp [List.getD,hb]
         rw [this];exact .lit _ rfl
        | succ j=>simp at h2)
     rw [hlen]at this
     exact this
   ·cases h
  ·cases h
 ·rename_i e hs hd
  split at h
  ·rename_i he
   exact bytesStr_ok h hs he hd hk hx
  ·cases h
 ·rename_i k n hs hd
  injection h with h;subst h
  rw [hx.lit]
  exact⟨_,w,E,by simp [convert,run_underlying hs,run_underlying hd,Conv.intToString],Quiet.refl hk,.one _ _ (.c _ _ (.lit _ rfl))⟩
 ·cases h
theorem convR_ok{src dst:TypeId}{x d:D}(h:convR P src dst x=some d){w:World}{E:Env}(hk:KOk w E.K){u:Value}(hx:VD w E x u):
  ∃v w' E',(convert src dst u).run P w= .ok v w'∧Quiet w E w' E'∧VD w' E' d v:=by
 unfold convR at h
 split at h
 ·rename_i v hd
  injection h with h;subst h
  obtain⟨h1,h2⟩:=convD_ok hd hx
  exact⟨v,w,E,h1,Quiet.refl hk,.one _ _ (.c _ _ (.lit _ h2))⟩
 ·exact convX_ok h hk hx
theorem fieldD_ok{t:TypeId}{f:Nat}{x d:D}(h:fieldD P t f x=some d){w:World}{E:Env}{u:Value}(hx:VD w E x u): ∃v,(Instr.field t u f).run P w= .ok v w∧VD w E d v:=by
 unfold fieldD at h
 split at h
 ·rename_i fs cs hu
  split at h
  ·rename_i fd hf
   obtain⟨vs,rfl⟩: ∃vs,u= .agg vs:=by cases hx with|agg _ vs=>exact⟨_,rfl⟩
   obtain⟨v,h1,h2⟩:=partD_ok h hx
   exact⟨v,by simp [Instr.field,run_underlying hu,hf,asAgg,h1],h2⟩
  ·cases h
 ·cases h
theorem bound_map{ev:Operand→D}{ρ:Operand→Value}{w:World}{E:Env}(hev: ∀x,VD w E (ev x) (ρ x))(x:Option Operand):BoundIs (x.map ev) (x.map ρ) w E:=by
 cases x with
 | none=>trivial
 | some x=>exact hev x
theorem asC_ok: ∀{ts:List T} {cs:List C},ts.mapM T.asC=some cs→ts=cs.map T.c
 | [],cs,h=>by simp at h;subst h;rfl
 | t::ts,cs,h=>by
  simp only [List.mapM_cons,Option.pure_def,Option.bind_eq_bind,Option.bind_eq_some_iff]at h
  obtain⟨c,h1,l,h2,h3⟩:=h
  injection h3 with h3;subst h3
  have hc:t= .c c:=by cases t<;>simp [T.asC]at h1;rw [h1]
  rw [asC_ok h2,hc];rfl
theorem fnOf_ok{w:World}{E:Env}{f:FuncId}{ts:List T}{vs:Array Value}(hl:vs.size=ts.length)(hr: ∀(j:Nat) t v,ts[j]? =some t→vs[j]? =some v→VT w E t v):VD w E (fnOf f ts) (.func (.func f) #[] vs):=by
 unfold fnOf
 split
 ·rename_i cs hcs
  have:=asC_ok hcs
  subst this
  refine .one _ _ (.c _ _ (.fn f cs vs (by simpa using hl) fun j c v h1 h2=>?_))
  have:=hr j (.c c) v (by simp [h1]) h2
  cases this;assumption
 ·exact .one _ _ (.fv f ts vs hl hr)
theorem QD_sound{o:Oper}{a:Act}{w:World}{E:Env}{ev:Operand→D}{bx:Mem}{K:D→Prop}{Q:Exit→Act→World→Prop}
  (hk:KOk w E.K) (hb: ∀n rows,bx n=some rows→rows≠ []→BoxIs w E (E.ρ n) rows) (hev: ∀x,VD w E (ev x) (a.eval x)) (h:QD P ev bx o.op K):
  o.wp P a w (QPost o a w E K) Q:=by
 cases ho:o.op with
 | move x=>rw [ho]at h;exact wp_pureD hk (by simp [execOp,ho]) (hev x) h
 | assign x=>rw [ho]at h;exact wp_pureD hk (by simp [execOp,ho]) (hev x) h
 | pick c x y=>
  rw [ho]at h
  simp only [QD]at h
  split at h
  ·rename_i t ht
   have hc:=asLit_ok ht (hev c)
   refine wp_pureD hk (v:=if t then a.eval x else a.eval y) (by cases t<;>simp [execOp,ho,hc,asBool]) ?_ h
   cases t
   ·exact hev y
   ·exact hev x
  ·exact h.elim
 | load t x=>
  rw [ho]at h
  simp only [QD]at h
  split at h
  ·rename_i d hd
   obtain⟨ad,u,h1,h2,h3⟩:=ldD_ok hd hb (hev x)
   exact wp_pureD hk (by simp [execOp,ho,h1,Instr.loadAt,Instr.sureAddr,h2]) h3 h
  ·exact h.elim
 | build t parts=>
  rw [ho]at h
  simp only [QD]at h
  split at h
  ·rename_i cs hd
   obtain⟨v,h1,h2⟩:=buildD_ok hd hev
   exact wp_pureD hk (by simp only [execOp,ho,Sem.run_bind,h1,Result.andThen_ok,Sem.run_pure]) h2 h
  ·exact h.elim
 | buildSlice t len parts=>
  rw [ho]at h
  simp only [QD]at h
  split at h
  ·rename_i sz rows hd
   obtain⟨v,w',E',h1,h2,h3⟩:=buildSliceD_ok hd hk hev
   exact wp_run (by simp only [execOp,ho,Sem.run_bind,h1,Result.andThen_ok,Sem.run_pure]) ⟨_,v,E',h,rfl,h2,h3⟩
  ·exact h.elim
 | binOp op t x y ty=>
  rw [ho]at h
  simp only [QD]at h
  split at h
  ·rename_i v hd
   obtain⟨h1,h2⟩:=binD_ok hd (hev x) (hev y) x y
   refine wp_pureD hk (v:=v) ?_ (.one _ _ (.c _ _ (.lit _ h2))) h
   simp only [execOp,ho,Sem.run_bind]at h1 ⊢
   rw [h1];rfl
  ·exact h.elim
 | unOp op t x=>
  rw [ho]at h
  simp only [QD]at h
  split at h
  ·rename_i v hd
   obtain⟨h1,h2⟩:=unD_ok (P:=P) hd (hev x)
   exact wp_pureD hk (by simp only [execOp,ho,Sem.run_bind,h1,Result.andThen_ok,Sem.run_pure]) (.one _ _ (.c _ _ (.lit _ h2))) h
  ·exact h.elim
 | convert src dst x=>
  rw [ho]at h
  simp only [QD]at h
  split at h
  ·rename_i v hd
   obtain⟨u,w',E',h1,h2,h3⟩:=convR_ok hd hk (hev x)
   exact wp_run (by simp only [execOp,ho,Sem.run_bind,h1,Result.andThen_ok,Sem.run_pure]) ⟨_,u,E',h,rfl,h2,h3⟩
  ·exact h.elim
 | index t x i=>
  rw [ho]at h
  simp only [QD]at h
  split at h
  ·rename_i v hd
   obtain⟨h1,h2⟩:=indexD_ok hd (hev x) (hev i)
   exact wp_pureD hk (by simp only [execOp,ho,Sem.run_bind,h1,Result.andThen_ok,Sem.run_pure]) (.one _ _ (.c _ _ (.lit _ h2))) h
  ·exact h.elim
 | fieldAddr t x f=>
  rw [ho]at h
  simp only [QD]at h
  have hx:=hev x
  split at h
  ·rename_i off cs h1 h2
   rw [h2]at hx
   cases hx with|one t v hx=>cases hx with|c c v hx=>
    obtain⟨ad,e1,e2⟩:=hx.pt_drop off
    exact wp_pureD hk (by simp only [execOp,ho,Sem.run_bind,e1,fieldOff_ok h1,Result.andThen_ok,Sem.run_pure]) (.one _ _ (.c _ _ e2)) h
  ·rename_i off n sz i o' h1 h2
   rw [h2]at hx
   have e1:=hx.bx_inv
   refine wp_pureD hk (v:=.pointer (some ((⟨E.ρ n,i*sz+o',none⟩:Addr).add off))) (by simp only [execOp,ho,Sem.run_bind,e1,fieldOff_ok h1,Result.andThen_ok,Sem.run_pure]) ?_ h
   rw [add_none,Nat.add_assoc]
   exact .one _ _ (.bx n sz i (o'+off))
  ·exact h.elim
 | field t x f=>
  rw [ho]at h
  simp only [QD]at h
  split at h
  ·rename_i d hd
   obtain⟨v,h1,h2⟩:=fieldD_ok hd (hev x)
   exact wp_pureD hk (by simp only [execOp,ho,Sem.run_bind,h1,Result.andThen_ok,Sem.run_pure]) h2 h
  ·exact h.elim
 | indexAddr t x i=>
  rw [ho]at h
  simp only [QD]at h
  have hx:=hev x
  split at h
  ·rename_i n sz i' len cap k j h1 h2
   obtain⟨g1,g2,g3,g4⟩:=h
   rw [h1]at hx
   have hj:=asLit_ok h2 (hev i)
   obtain⟨v,e1,e2⟩:=indexBa_ok g1 g2 g3 hx k
   exact wp_pureD hk (by simp only [execOp,ho,Sem.run_bind,hj,e1,Result.andThen_ok,Sem.run_pure]) e2 g4
  ·rename_i d k j h2 hne
   split at h
   ·rename_i sz xs h1
    obtain⟨g1,g2,r,g3,g4⟩:=h
    have hj:=asLit_ok h2 (hev i)
    obtain⟨v,e1,e2⟩:=indexAt_ok h1 g1 g2 g3 hx k
    exact wp_pureD hk (by simp only [execOp,ho,Sem.run_bind,hj,e1,Result.andThen_ok,Sem.run_pure]) e2 g4
   ·exact h.elim
  ·exact h.elim
 | slice t x lo hi mx=>
  rw [ho]at h
  simp only [QD]at h
  split at h
  ·rename_i d hd
   obtain⟨v,h1,h2⟩:=sliceD_ok hd (hev x) (bound_map hev lo) (bound_map hev hi) (bound_map hev mx)
   exact wp_pureD hk (by simp only [execOp,ho,Sem.run_bind,h1,Result.andThen_ok,Sem.run_pure]) h2 h
  ·exact h.elim
 | call c=>
  obtain⟨callee,args,tys⟩:=c
  rw [ho]at h
  simp only [QD]at h
  cases callee with
  | value f=>exact callD_ok ho hk hev h
  | invoke r m=>exact h.elim
  | builtin b=>
   cases b with
   | len=>
    simp only at h
    split at h
    ·rename_i x t hx ht
     split at h
     ·rename_i n hn
      have ha:args= #[x]:=by apply Array.ext';simpa using hx
      have htt:tys= #[t]:=by apply Array.ext';simpa using ht
      subst ha;subst htt
      have h1:=lenD_ok hn (hev x) o.type
      refine wp_pureD hk (v:=.int .i64 n) ?_ (.one _ _ (.c _ _ (.lit _ rfl))) h
      simp only [execOp,ho,resolve,Sem.run_bind,Sem.run_pure,Result.andThen_ok,invoke,builtin,List.map_toArray,List.map_cons,List.map_nil,h1]
     ·exact h.elim
    ·exact h.elim
   | cap=>
    simp only at h
    split at h
    ·rename_i x t hx ht
     split at h
     ·rename_i n hn
      have ha:args= #[x]:=by apply Array.ext';simpa using hx
      have htt:tys= #[t]:=by apply Array.ext';simpa using ht
      subst ha;subst htt
      have h1:=capD_ok hn (hev x) o.type
      refine wp_pureD hk (v:=.int .i64 n) ?_ (.one _ _ (.c _ _ (.lit _ rfl))) h
      simp only [execOp,ho,resolve,Sem.run_bind,Sem.run_pure,Result.andThen_ok,invoke,builtin,List.map_toArray,List.map_cons,List.map_nil,h1]
     ·exact h.elim
    ·exact h.elim
   | _=>
    simp only at h
    split at h
    ·rename_i d hd
     obtain⟨r,h1,h2⟩:=bltD_ok (P:=P) hd hev tys o.type
     refine wp_pureD hk (v:=r) ?_ h2 h
     simp only [execOp,ho,resolve,Sem.run_bind,Sem.run_pure,Result.andThen_ok,invoke]
     rw [← h1,← List.map_toArray,Array.toArray_toList]
    ·exact h.elim
 | extract x i=>
  rw [ho]at h
  simp only [QD]at h
  have hx:=hev x
  split at h
  ·rename_i ds hds
   rw [hds]at hx
   split at h
   ·rename_i d hd
    cases hv:a.eval x with
    | tuple vs=>
     rw [hv]at hx
     cases hx with
     | tup _ _ hl hr=>
      have hlt:i<vs.size:=by rw [hl];exact(List.getElem?_eq_some_iff.1 hd).1
      exact wp_pureD hk (v:=vs[i]) (by simp [execOp,ho,hv,Instr.extract,hlt]) (hr i d _ hd (Array.getElem?_eq_getElem hlt)) h
    | _=>rw [hv]at hx;cases hx
   ·exact h.elim
  ·exact h.elim
 | nilCheck x=>
  rw [ho]at h
  simp only [QD]at h
  have hx:=hev x
  split at h
  ·rename_i n sz i o' hd
   rw [hd]at hx
   have e1:=hx.bx_inv
   exact wp_pureD hk (v:=a.eval x) (by simp only [execOp,ho,e1,Sem.run_pure]) hx h
  ·rename_i cs hd
   rw [hd]at hx
   have hx':=hx
   cases hx with|one t v hx=>cases hx with|c c v hx=>
    obtain⟨ad,e1,_⟩:=hx.pt_drop 0
    exact wp_pureD hk (v:=a.eval x) (by simp only [execOp,ho,e1,Sem.run_pure]) hx' h
  ·rename_i f caps hd
   rw [hd]at hx
   have hx':=hx
   cases hv:a.eval x with
   | func fn first cap=>
    rw [hv]at hx hx'
    cases hx with|one t v hx=>cases hx with|c c v hx=>cases hx with
     | fn f caps vs hl hr=>exact wp_pureD hk (by simp only [execOp,ho,hv,Sem.run_pure]) hx' h
   | _=>rw [hv]at hx;cases hx with|one t v hx=>cases hx with|c c v hx=>cases hx
  ·rename_i f caps hd
   rw [hd]at hx
   have hx':=hx
   cases hv:a.eval x with
   | func fn first cap=>
    rw [hv]at hx hx'
    cases hx with|one t v hx=>cases hx with
     | fv f caps vs hl hr=>exact wp_pureD hk (by simp only [execOp,ho,hv,Sem.run_pure]) hx' h
   | _=>rw [hv]at hx;cases hx with|one t v hx=>cases hx
  ·exact h.elim
 | makeFunc fn first captured=>
  rw [ho]at h
  cases fn with
  | func f=>
   simp only [QD]at h
   split at h
   ·rename_i hfe
    split at h
    ·rename_i cs hcs
     have hf0:first= #[]:=by simpa using hfe
     subst hf0
     have key: ∀(l:List Operand) (cs:List T),((l.map ev).mapM capOf)=some cs→
       l.length=cs.length∧∀(j:Nat) c v,cs[j]? =some c→(l.map a.eval)[j]? =some v→VT w E c v:=by
      intro l
      induction l with
      | nil=>intro cs h;simp at h;subst h;exact⟨rfl,fun j c v h1 _=>by simp at h1⟩
      | cons x l ih=>
       intro cs h
       simp only [List.map_cons,List.mapM_cons,Option.pure_def,Option.bind_eq_bind,Option.bind_eq_some_iff]at h
       obtain⟨c0,h1,l',h2,h3⟩:=h
       injection h3 with h3;subst h3
       obtain⟨g1,g2⟩:=ih l' h2
       refine⟨by simp [g1],fun j c v k1 k2=>?_⟩
       cases j with
       | zero=>
        simp at k1 k2;subst k1;subst k2
        have hx:=hev x
        unfold capOf at h1
        split at h1
        ·rename_i y hy
         injection h1 with h1;subst h1
         rw [hy]at hx
         cases hx with|one t v hx=>exact hx
        ·cases h1
       | succ j=>exact g2 j c v (by simpa using k1) (by simpa using k2)
     obtain⟨g1,g2⟩:=key captured.toList cs hcs
     have hsz:(captured.map a.eval).size=cs.length:=by simp at g1 ⊢;exact g1
     have hall: ∀(j:Nat) c v,cs[j]? =some c→(captured.map a.eval)[j]? =some v→VT w E c v:=fun j c v k1 k2=>g2 j c v k1 (by rw [← k2];simp)
     refine wp_pureD hk (v:=.func (.func f) #[] (captured.map a.eval)) (by simp [execOp,ho,Instr.makeFunc]) (fnOf_ok hsz hall) h
    ·exact h.elim
   ·exact h.elim
  | _=>exact h.elim
 | _=>rw [ho]at h;exact h.elim
end
end Go.Dl
/- The logic of data: the steps that turn memory of the call's own: made, written, by other names, given up for good. -/
namespace Go.Dl
open Go.RowKit
structure RowSet(w w':World)(b:Nat)(e:TypeId)(arr arr':Array Value):Prop where
 was:w.heap[b]? =some (.cells arr e (0,0))
 is:w'.heap[b]? =some (.cells arr' e (0,0))
 size:arr'.size=arr.size
 heap:w'.heap.size=w.heap.size
 other: ∀k,k≠b→w'.heap[k]? =w.heap[k]?
 os:w'.os=w.os
 tape:w'.tape=w.tape
 output:w'.output=w.output
theorem RowSet.turn{w w':World}{b:Nat}{e:TypeId}{arr arr':Array Value}(h:RowSet w w' b e arr arr')(R:Nat→Prop)(hR: ∀o,¬R o→arr'[o]? =arr[o]?):Turn (fun c o=>c=b∧R o) w w':=by
 refine⟨h.os,h.tape,h.output,by rw [h.heap];exact Nat.le_refl _,fun k hk=>?_⟩
 by_cases hb:k=b
 ·subst hb
  exact .inr ⟨arr,e,arr',h.was,h.is,h.size,fun o ho=>hR o fun hr=>ho ⟨rfl,hr⟩⟩
 ·exact .inl (h.other k hb)
theorem RowSet.cell_other{w w':World}{b:Nat}{e:TypeId}{arr arr':Array Value}(h:RowSet w w' b e arr arr'){k o:Nat}(hk:k≠b):w'.cell? ⟨k,o,none⟩=w.cell? ⟨k,o,none⟩:=
 World.cell?_of_block (w:=w) (a:=⟨k,o,none⟩) (h.other k hk)
theorem RowSet.cell_same{w w':World}{b:Nat}{e:TypeId}{arr arr':Array Value}(h:RowSet w w' b e arr arr'){o:Nat}(ho:arr'[o]? =arr[o]?):w'.cell? ⟨b,o,none⟩=w.cell? ⟨b,o,none⟩:=by
 simp [World.cell?,h.was,h.is,ho]
theorem RowSet.free{w w':World}{b:Nat}{e:TypeId}{arr arr':Array Value}(h:RowSet w w' b e arr arr'){k o:Nat}(hf:Free w k o):Free w' k o:=by
 obtain⟨c,t,h1,h2⟩:=hf
 by_cases hk:k=b
 ·subst hk
  rw [h.was]at h1
  injection h1 with h1;injection h1 with h1 h3
  subst h1;subst h3
  exact⟨arr',e,h.is,by rw [h.size];exact h2⟩
 ·exact⟨c,t,(h.other k hk).trans h1,h2⟩
theorem RelE.commit{X:Origin}{s:DS}{E:Env}{a:Act}{w w':World}(h:RelE X s E a w){b lo hi:Nat}{e:TypeId}{arr arr':Array Value}(hr:RowSet w w' b e arr arr')(hsz:hi≤arr.size)
  (hsame: ∀o,¬(lo≤o∧o<hi)→arr'[o]? =arr[o]?) (hB: ∀o,lo≤o→o<hi→X.Young b o) (hK: ∀o,lo≤o→o<hi→¬E.K b o) (hsp: ∀n o,lo≤o→o<hi→¬spare (E.val n) b o)
  (hbx: ∀m rows,s.bx m=some rows→rows≠ []→b≠E.ρ m):
  RelE X s { E with K:=fun c o=>E.K c o∨(c=b∧lo≤o∧o<hi) } a w'∧Later w E w' { E with K:=fun c o=>E.K c o∨(c=b∧lo≤o∧o<hi) }:=by
 have hl:Later w E w' { E with K:=fun c o=>E.K c o∨(c=b∧lo≤o∧o<hi) }:=by
  refine⟨fun c o hc=>⟨.inl hc,?_⟩,rfl,rfl⟩
  by_cases hcb:c=b
  ·subst hcb
   exact hr.cell_same (hsame o fun⟨h1,h2⟩=>hK o h1 h2 hc)
  ·exact hr.cell_other hcb
 have ht:=hr.turn (fun o=>lo≤o∧o<hi) hsame
 refine⟨⟨⟨h.wi.turn.trans ht (fun i o hi' ⟨h1,h2,h3⟩=>?_),h.wi.sep,fun c o hc=>.inl (h.wi.kin c o hc),fun c o hc hF hk=>?_,h.wi.kok.wide hl.keep (fun c o hk=>?_) (h.wi.kok.z.turn ht),fun n ts hn hne=>?_,h.wi.boxne,fun n c o hs=>?_,h.wi.disj,h.wi.sbox,h.wi.fix⟩,fun t=>(h.sl t).mono hl,h.size,h.defers.turn ht,h.small,h.pl⟩,hl⟩
 ·subst h1
  rcases hB o h2 h3 with g|g
  ·omega
  ·exact g
 ·rcases hk with hk|⟨rfl,h1,h2⟩
  ·exact h.wi.kold c o hc hF hk
  ·rcases hB o h1 h2 with g|g
   ·omega
   ·exact absurd g hF
 ·rcases hk with hk|⟨rfl,h1,h2⟩
  ·rw [(hl.keep c o hk).2];exact h.wi.kok c o hk
  ·have:o<arr'.size:=by rw [hr.size];omega
   simp [World.cell?,hr.is,this]
 ·obtain⟨h1,h2,h3⟩:=h.wi.boxes n ts hn hne
  have hne':=hbx n ts hn hne
  refine⟨h1,h2.mono hl (hr.other _ (fun e=>hne' e.symm)),fun o ho=>?_⟩
  rcases ho with ho|⟨ho,_⟩
  ·exact h3 o ho
  ·exact hne' ho.symm
 ·obtain⟨h1,h2,h3⟩:=h.wi.free n c o hs
  refine⟨h1,fun hk=>?_,hr.free h3⟩
  rcases hk with hk|⟨rfl,k1,k2⟩
  ·exact h2 hk
  ·exact hsp n o k1 k2 hs
theorem map_tr_some{s:DS}{r:Ren}{m:Nat}{rows:Rows}(h:(s.tr r).bx m=some rows): ∃rows',s.bx m=some rows'∧rows=Rows.tr r rows':=by
 simp only [DS.tr,Option.map_eq_some_iff]at h
 obtain⟨r',h1,h2⟩:=h
 exact⟨r',h1,h2.symm⟩
theorem RelE.setVal{X:Origin}{s:DS}{E:Env}{a:Act}{w:World}(h:RelE X s E a w)(n:Nat)(p:Value×Nat)
  (hp: ∀b o,spare p b o→X.Young b o∧¬E.K b o∧Free w b o∧(∀m,m≠n→¬spare (E.val m) b o)∧(∀m rows,s.bx m=some rows→rows≠ []→b≠E.ρ m)):
  RelE X (s.close [n]) (E.setVal n p) a w:=by
 have hR:=renames_setVal E n p
 refine⟨⟨h.wi.turn,h.wi.sep,h.wi.kin,h.wi.kold,h.wi.kok,fun m rows hm hne=>?_,fun m k rm rk hm h1 hk h2=>?_,fun m b o hs=>?_,fun m k b o hs hs'=>?_,fun m k b o rk hs hk h2=>?_,h.wi.fix⟩,fun t=>(h.sl t).tr hR,h.size,h.defers,h.small,h.pl⟩
 ·obtain⟨r',h1,rfl⟩:=map_tr_some hm
  obtain⟨g1,g2,g5⟩:=h.wi.boxes m r' h1 (Rows.tr_ne hne)
  exact⟨g1,g2.tr hR,g5⟩
 ·obtain⟨r1,e1,rfl⟩:=map_tr_some hm
  obtain⟨r2,e2,rfl⟩:=map_tr_some hk
  exact h.wi.boxne m k r1 r2 e1 (Rows.tr_ne h1) e2 (Rows.tr_ne h2)
 ·simp only [Env.setVal]at hs
  split at hs
  ·obtain⟨g1,g2,g3,_⟩:=hp b o hs;exact⟨g1,g2,g3⟩
  ·exact h.wi.free m b o hs
 ·simp only [Env.setVal]at hs hs'
  split at hs<;>split at hs'
  ·rename_i e1 e2;rw [e1,e2]
  ·rename_i e1 e2;exact((hp b o hs).2.2.2.1 k e2 hs').elim
  ·rename_i e1 e2;exact((hp b o hs').2.2.2.1 m e1 hs).elim
  ·exact h.wi.disj m k b o hs hs'
 ·obtain⟨r2,e2,rfl⟩:=map_tr_some hk
  simp only [Env.setVal]at hs
  split at hs
  ·exact(hp b o hs).2.2.2.2 k r2 e2 (Rows.tr_ne h2)
  ·exact h.wi.sbox m k b o r2 hs e2 (Rows.tr_ne h2)
theorem RelE.quiet{X:Origin}{s:DS}{E E':Env}{a:Act}{w w':World}(h:RelE X s E a w)(q:Quiet w E w' E'):RelE X s E' a w':=
 ⟨h.wi.quiet q,fun t=>(h.sl t).mono (q.later h.wi.kok),h.size,h.defers.turn (Below.turn q.below (fun _ _=>False)),h.small,h.pl⟩
theorem RelE.putOnly{X:Origin}{s:DS}{E:Env}{a:Act}{w:World}(h:RelE X s E a w){dst:Option Nat}(hd: ∀d,dst=some d→d<s.n){d:D}{v:Value}(hv:VD w E d v):RelE X (s.put dst d) E (a.put dst v) w:=
 h.put (Quiet.refl h.wi.kok) hd hv
/-! ### Memory of the call's own -/
def RowsIs(w:World)(E:Env)(arr:Array Value)(rows:Rows):Prop:=
 ∃sz,(∀r∈rows,r.length=sz)∧arr.size=rows.length*sz∧∀(i j:Nat) r t v,rows[i]? =some r→r[j]? =some t→arr[i*sz+j]? =some v→VT w E t v
theorem BoxIs.rowsIs{w:World}{E:Env}{b:Nat}{rows:Rows}(h:BoxIs w E b rows): ∃arr e,w.heap[b]? =some (.cells arr e (0,0))∧RowsIs w E arr rows:=by
 obtain⟨sz,arr,e,h1,h2,h3,h4⟩:=h
 exact⟨arr,e,h1,sz,h2,h3,h4⟩
theorem RowsIs.boxIs{w:World}{E:Env}{arr:Array Value}{rows:Rows}(h:RowsIs w E arr rows){b:Nat}{e:TypeId}(hb:w.heap[b]? =some (.cells arr e (0,0))):BoxIs w E b rows:=by
 obtain⟨sz,h2,h3,h4⟩:=h
 exact⟨sz,arr,e,hb,h2,h3,h4⟩
theorem RowsIs.mono{w w':World}{E E':Env}(h:Later w E w' E'){arr:Array Value}{rows:Rows}(hx:RowsIs w E arr rows):RowsIs w' E' arr rows:=by
 obtain⟨sz,h2,h3,h4⟩:=hx
 exact⟨sz,h2,h3,fun i j r t v hi ht hv=>(h4 i j r t v hi ht hv).mono h⟩
def DS.newMem(s:DS)(m:Nat)(rows:Rows):DS:=(s.tr (fgt m)).setBx m (some (Rows.tr (fgt m) rows))
def DS.newBx(s:DS)(m:Nat)(ts:List T):DS:=(s.newMem m [ts]).put (some m) (.one (.bx m ts.length 0 0))
theorem newMem_bx(s:DS)(m:Nat)(rows:Rows)(k:Nat):(s.newMem m rows).bx k=if k=m then some (Rows.tr (fgt m) rows)else(s.bx k).map (Rows.tr (fgt m)):=rfl
theorem newMem_some{s:DS}{m:Nat}{rows:Rows}{k:Nat}{r:Rows}(h:(s.newMem m rows).bx k=some r):(k=m∧r=Rows.tr (fgt m) rows)∨(k≠m∧∃r',s.bx k=some r'∧r=Rows.tr (fgt m) r'):=by
 rw [newMem_bx]at h
 split at h
 ·rename_i hk;injection h with h;exact .inl ⟨hk,h.symm⟩
 ·rename_i hk
  simp only [Option.map_eq_some_iff]at h
  obtain⟨r',h1,h2⟩:=h
  exact .inr ⟨hk,r',h1,h2.symm⟩
theorem RelE.newMem{X:Origin}{s:DS}{E:Env}{a:Act}{w:World}(h:RelE X s E a w)(m:Nat)(hm:m<s.n)(arr:Array Value)(e:TypeId)(rows:Rows)(hv:RowsIs w E arr rows):
  RelE X (s.newMem m rows) (E.setρ m w.heap.size) a (w.alloc (.cells arr e)):=by
 have q:=quiet_alloc h.wi.kok arr e 0 (Nat.zero_le _)
 have h1:=h.quiet q
 have hlat:Later w E (w.alloc (.cells arr e)) E:=⟨fun b o hb=>⟨hb,by have:=lt_of_cell (h.wi.kok b o hb);exact World.cell?_alloc_lt w _ ⟨b,o,none⟩ this⟩,rfl,rfl⟩
 have hlt: ∀n ts,s.bx n=some ts→ts≠ []→E.ρ n<w.heap.size:=fun n ts hn hne=>(h.wi.boxes n ts hn hne).2.1.lt
 have hsz:X.w.heap.size≤w.heap.size:=h.wi.turn.size
 have hnew:(w.alloc (.cells arr e)).heap[w.heap.size]? =some (.cells arr e (0,0)):=heap_alloc_new w _
 have hR:=renames_fgt E m w.heap.size
 have hρm:(E.setρ m w.heap.size).ρ m=w.heap.size:=by simp [Env.setρ]
 have hρ: ∀k,k≠m→(E.setρ m w.heap.size).ρ k=E.ρ k:=fun k hk=>by simp [Env.setρ,hk]
 refine⟨⟨h1.wi.turn,h.wi.sep,h.wi.kin,h.wi.kold,h.wi.kok.wide hlat.keep (fun b o hb=>?_) (h.wi.kok.z.below ((Below.refl _ _).alloc (Nat.le_refl _) _)),fun n us hn hne=>?_,fun n k rn rk hn h2 hk h3 hne=>?_,fun n b o hs=>?_,h.wi.disj,fun n k b o rk hs hk h3=>?_,fun n hn=>?_⟩,fun t=>((h.sl t).mono hlat).tr hR,h.size,h1.defers,h.small,h.pl⟩
 ·have:=lt_of_cell (h.wi.kok b o hb)
  show((w.alloc (.cells arr e)).cell? ⟨b,o,none⟩).isSome=true
  rw [World.cell?_alloc_lt w _ ⟨b,o,none⟩ this];exact h.wi.kok b o hb
 ·rcases newMem_some hn with⟨rfl,rfl⟩|⟨hkm,r',g1,rfl⟩
  ·rw [hρm]
   exact⟨.inl hsz,((hv.mono hlat).boxIs hnew).tr hR,fun o ho=>absurd (lt_of_cell (h.wi.kok _ o ho)) (by omega)⟩
  ·obtain⟨g2,g3,g4⟩:=h.wi.boxes n r' g1 (Rows.tr_ne hne)
   rw [hρ n hkm]
   exact⟨g2,(g3.mono hlat (Below.heap_alloc w _ _ g3.lt)).tr hR,g4⟩
 ·rcases newMem_some hn with⟨rfl,rfl⟩|⟨hkm,r',g1,rfl⟩
  ·rcases newMem_some hk with⟨rfl,_⟩|⟨hkm',r2,g2,rfl⟩
   ·exact absurd rfl hne
   ·rw [hρm,hρ k hkm'];have:=hlt k r2 g2 (Rows.tr_ne h3);omega
  ·rcases newMem_some hk with⟨rfl,_⟩|⟨hkm',r2,g2,rfl⟩
   ·rw [hρm,hρ n hkm];have:=hlt n r' g1 (Rows.tr_ne h2);omega
   ·rw [hρ n hkm,hρ k hkm'];exact h.wi.boxne n k r' r2 g1 (Rows.tr_ne h2) g2 (Rows.tr_ne h3) hne
 ·obtain⟨g1,g2,arr',e',g3,g4⟩:=h.wi.free n b o hs
  have hb:b<w.heap.size:=Free.lt (w:=w) (o:=o) ⟨arr',e',g3,g4⟩
  exact⟨g1,g2,arr',e',by rw [Below.heap_alloc w _ _ hb];exact g3,g4⟩
 ·have hb:b<w.heap.size:=(h.wi.free n b o hs).2.2.lt
  rcases newMem_some hk with⟨rfl,rfl⟩|⟨hkm,r',g1,rfl⟩
  ·rw [hρm];omega
  ·rw [hρ k hkm];exact h.wi.sbox n k b o r' hs g1 (Rows.tr_ne h3)
 ·rw [hρ n (by have:=h.small;omega)];exact h.wi.fix n hn
theorem RelE.newBx{X:Origin}{s:DS}{E:Env}{a:Act}{w:World}(h:RelE X s E a w)(m:Nat)(hm:m<s.n)(arr:Array Value)(e:TypeId)(ts:List T)(hl:arr.size=ts.length)
  (hv: ∀(j:Nat) t v,ts[j]? =some t→arr[j]? =some v→VT w E t v):
  RelE X (s.newBx m ts) (E.setρ m w.heap.size) (a.put (some m) (.pointer (some ⟨w.heap.size,0,none⟩))) (w.alloc (.cells arr e)):=by
 have hrows:RowsIs w E arr [ts]:=⟨ts.length,fun r hr=>by simp at hr;rw [hr],by simp [hl],fun i j r t v h1 h2 h3=>by
  cases i with
  | zero=>simp at h1;subst h1;exact hv j t v h2 (by simpa using h3)
  | succ i=>simp at h1⟩
 have h1:=h.newMem m hm arr e [ts] hrows
 refine h1.putOnly (fun d hd=>by injection hd with hd;subst hd;exact hm) ?_
 have:=VT.bx (w:=w.alloc (.cells arr e)) (E:=E.setρ m w.heap.size) m ts.length 0 0
 simp only [Env.setρ,if_true,Nat.zero_mul,Nat.zero_add]at this
 exact .one _ _ this
theorem RelE.setBx{X:Origin}{s:DS}{E:Env}{a:Act}{w w':World}(h:RelE X s E a w){m:Nat}{rows rows':Rows}(hm:s.bx m=some rows)(hne:rows≠ []){e:TypeId}{arr arr':Array Value}(hr:RowSet w w' (E.ρ m) e arr arr')
  (hv:RowsIs w E arr' rows'):RelE X (s.setBx m (some rows')) E a w':=by
 obtain⟨g1,g2,g5⟩:=h.wi.boxes m rows hm hne
 have hlat:Later w E w' E:=⟨fun b o hb=>⟨hb,hr.cell_other fun hbm=>g5 o (hbm▸hb)⟩,rfl,rfl⟩
 have hbn: ∀k rk,(s.setBx m (some rows')).bx k=some rk→rk≠ []→∃r0,s.bx k=some r0∧r0≠ []:=fun k rk hk h0=>by
  simp only [DS.setBx]at hk
  by_cases hkm:k=m
  ·subst hkm;exact⟨rows,hm,hne⟩
  ·rw [if_neg hkm]at hk;exact⟨rk,hk,h0⟩
 refine⟨⟨h.wi.turn.trans (hr.turn (fun _=>True) (fun o ho=>absurd trivial ho)) (fun i o hi ⟨h1,_⟩=>?_),h.wi.sep,h.wi.kin,h.wi.kold,h.wi.kok.wide hlat.keep (fun b o hb=>?_) (h.wi.kok.z.turn (hr.turn (fun _=>True) (fun o ho=>absurd trivial ho))),fun n us hn hne'=>?_,fun n k rn rk hn h1 hk h2=>?_,fun n b o hs=>?_,h.wi.disj,fun n k b o rk hs hk h2=>?_,h.wi.fix⟩,
  fun t=>(h.sl t).mono hlat,h.size,h.defers.turn (hr.turn (fun _=>True) (fun o ho=>absurd trivial ho)),h.small,h.pl⟩
 ·subst h1
  rcases g1 with g1|g1
  ·omega
  ·exact g1 o
 ·rw [(hlat.keep b o hb).2];exact h.wi.kok b o hb
 ·simp only [DS.setBx]at hn
  by_cases hnm:n=m
  ·subst hnm
   rw [if_pos rfl]at hn
   injection hn with hn;subst hn
   exact⟨g1,(hv.mono hlat).boxIs hr.is,g5⟩
  ·rw [if_neg hnm]at hn
   obtain⟨k1,k2,k3⟩:=h.wi.boxes n us hn hne'
   exact⟨k1,k2.mono hlat (hr.other _ (h.wi.boxne n m us rows hn hne' hm hne hnm)),k3⟩
 ·obtain⟨r1,e1,f1⟩:=hbn n rn hn h1
  obtain⟨r2,e2,f2⟩:=hbn k rk hk h2
  exact h.wi.boxne n k r1 r2 e1 f1 e2 f2
 ·obtain⟨k1,k2,k3⟩:=h.wi.free n b o hs
  exact⟨k1,k2,hr.free k3⟩
 ·obtain⟨r2,e2,f2⟩:=hbn k rk hk h2
  exact h.wi.sbox n k b o r2 hs e2 f2
end Go.Dl
/- The logic of data: rows of cells, cut and joined; a store; the result of a call put into its slot. -/
namespace Go.Dl
open Go.RowKit
structure Lst(w:World)(E:Env)(sz:Nat)(l:List Value)(rows:Rows):Prop where
 len:l.length=rows.length*sz
 row: ∀r∈rows,r.length=sz
 is: ∀(i j:Nat) r t v,rows[i]? =some r→r[j]? =some t→l[i*sz+j]? =some v→VT w E t v
theorem RowsIs.lst{w:World}{E:Env}{arr:Array Value}{rows:Rows}(h:RowsIs w E arr rows): ∃sz,Lst w E sz arr.toList rows:=by
 obtain⟨sz,h1,h2,h3⟩:=h
 exact⟨sz,by simpa using h2,h1,fun i j r t v a b c=>h3 i j r t v a b (by simpa using c)⟩
theorem Lst.rowsIs{w:World}{E:Env}{sz:Nat}{arr:Array Value}{rows:Rows}(h:Lst w E sz arr.toList rows):RowsIs w E arr rows:=
 ⟨sz,h.row,by simpa using h.len,fun i j r t v a b c=>h.is i j r t v a b (by simpa using c)⟩
theorem Lst.mono{w w':World}{E E':Env}(h:Later w E w' E'){sz:Nat}{l:List Value}{rows:Rows}(hx:Lst w E sz l rows):Lst w' E' sz l rows:=
 ⟨hx.len,hx.row,fun i j r t v a b c=>(hx.is i j r t v a b c).mono h⟩
theorem idx_lt{i j sz n:Nat}(hi:i<n)(hj:j<sz):i*sz+j<n*sz:=by
 have:(i+1)*sz≤n*sz:=Nat.mul_le_mul_right sz hi
 rw [Nat.add_mul,Nat.one_mul]at this;omega
theorem Lst.append{w:World}{E:Env}{sz:Nat}{l m:List Value}{xs ys:Rows}(h:Lst w E sz l xs)(k:Lst w E sz m ys):Lst w E sz (l++m) (xs++ys):=by
 refine⟨by simp [h.len,k.len,Nat.add_mul],fun r hr=>?_,fun i j r t v h1 h2 h3=>?_⟩
 ·rcases List.mem_append.1 hr with hr|hr
  ·exact h.row r hr
  ·exact k.row r hr
 ·by_cases hi:i<xs.length
  ·rw [List.getElem?_append_left hi]at h1
   have hrl:=h.row r (List.mem_of_getElem? h1)
   have hj:j<sz:=by have:=(List.getElem?_eq_some_iff.1 h2).1;omega
   rw [List.getElem?_append_left (by rw [h.len];exact idx_lt hi hj)]at h3
   exact h.is i j r t v h1 h2 h3
  ·rw [List.getElem?_append_right (by omega)]at h1
   have hge:xs.length*sz≤i*sz:=Nat.mul_le_mul_right sz (by omega)
   rw [List.getElem?_append_right (by rw [h.len];omega),h.len]at h3
   refine k.is (i - xs.length) j r t v h1 h2 ?_
   rw [← h3];congr 1;rw [Nat.sub_mul];omega
theorem Lst.take{w:World}{E:Env}{sz:Nat}{l:List Value}{xs:Rows}(h:Lst w E sz l xs)(k:Nat)(hk:k≤xs.length):Lst w E sz (l.take (k*sz)) (xs.take k):=by
 have hle:k*sz≤xs.length*sz:=Nat.mul_le_mul_right sz hk
 refine⟨by simp [h.len,Nat.min_eq_left hk,Nat.min_eq_left hle],fun r hr=>h.row r (List.mem_of_mem_take hr),fun i j r t v h1 h2 h3=>?_⟩
 rw [List.getElem?_take]at h1 h3
 split at h1
 ·split at h3
  ·exact h.is i j r t v h1 h2 h3
  ·cases h3
 ·cases h1
theorem Lst.drop{w:World}{E:Env}{sz:Nat}{l:List Value}{xs:Rows}(h:Lst w E sz l xs)(k:Nat):Lst w E sz (l.drop (k*sz)) (xs.drop k):=by
 refine⟨by simp [h.len,Nat.sub_mul],fun r hr=>h.row r (List.mem_of_mem_drop hr),fun i j r t v h1 h2 h3=>?_⟩
 rw [List.getElem?_drop]at h1 h3
 refine h.is (k+i) j r t v h1 h2 ?_
 rw [← h3];congr 1;rw [Nat.add_mul];omega
theorem Lst.set{w:World}{E:Env}{sz:Nat}{l m:List Value}{xs:Rows}(h:Lst w E sz l xs){i:Nat}(hi:i<xs.length){r:List T}(hr:Lst w E sz m [r]):
  Lst w E sz (l.take (i*sz)++(m++l.drop ((i+1)*sz))) (xs.set i r):=by
 rw [List.set_eq_take_append_cons_drop,if_pos hi]
 have:=(h.take i (by omega)).append (hr.append (h.drop (i+1)))
 simpa using this
theorem rowAt_lst{w:World}{E:Env}{sz sz':Nat}{l:List Value}{rows:Rows}(h:Lst w E sz' l rows){i:Nat}{r:List T}(hr:rowAt rows sz i=some r):sz'=sz∧i<rows.length∧rows[i]? =some r∧r.length=sz:=by
 obtain⟨h1,h2,h3⟩:=rowAt_ok hr
 exact⟨by rw [← h.row r (List.mem_of_getElem? h1),h2],(List.getElem?_eq_some_iff.1 h1).1,h1,h2⟩
def storeD(P:Program)(s:DS)(t:TypeId)(x v:D):Option DS:=
 match x,v.cells,cellsOfT P t with
 | .one (.bx m sz i o),some us,some n=>(s.bx m).bind fun rows=>(rowAt rows sz i).bind fun r=>
   if us.length=n∧o+n≤r.length then some (s.setBx m (some (rows.set i (r.take o++(us++r.drop (o+n))))))else none
 | _,_,_=>none
section
variable {P : Program}
def SPost(X:Origin)(K:DS→Prop)(a':Act)(w':World):Prop:=∃s',K s'∧Rel X s' a' w'
theorem wp_skip_run{o:Oper}{a:Act}{w w':World}{K:Act→World→Prop}{Q:Exit→Act→World→Prop}(h:(execOp a.eval o).run P w= .ok .skip w')(hk:K (a.put o.dst undef) w'):o.wp P a w K Q:=by
 unfold Oper.wp
 rw [h]
 exact hk
theorem RelE.storeRow{X:Origin}{s:DS}{E:Env}{a:Act}{w:World}(hr:RelE X s E a w){m:Nat}{rows rows':Rows}(hm:s.bx m=some rows)(hne:rows≠ []){sz off:Nat}{l m':List Value}
  (h1: ∀v∈m',v.oneCell'=true):(∀arr e,w.heap[E.ρ m]? =some (.cells arr e (0,0))→arr.toList=l→Lst w E sz (l.take off++m'++l.drop (off+m'.length)) rows')→(∃arr e,w.heap[E.ρ m]? =some (.cells arr e (0,0))∧arr.toList=l)→off+m'.length≤l.length→
  ∃w',(storeCells ⟨E.ρ m,off,none⟩ m' 0).run P w= .ok () w'∧RelE X (s.setBx m (some rows')) E a w':=by
 rintro h2 ⟨arr,e,h3,h4⟩ h5
 have hasz:arr.size=l.length:=by rw [← h4];simp
 have hst:=run_storeCells_at P (E.ρ m) off e m' 0 arr w h3 (by omega) h1
 simp only [Nat.add_zero,h4]at hst
 let arr':Array Value:=(l.take off++m'++l.drop (off+m'.length)).toArray
 have hsz':arr'.size=arr.size:=by
  simp only [arr',List.size_toArray,List.length_append,List.length_take,List.length_drop];omega
 have hrs:RowSet w (w.setRow (E.ρ m) arr') (E.ρ m) e arr arr':=
  ⟨h3,setRow_heap w _ _ _ _ _ h3,hsz',by simp [World.setRow],fun k hk=>setRow_other w _ k _ hk,rfl,rfl,rfl⟩
 exact⟨_,hst,hr.setBx hm hne hrs (Lst.rowsIs (sz:=sz) (by simpa [arr']using h2 arr e h3 h4))⟩
theorem storeD_ok{s s':DS}{t:TypeId}{x v:D}(h:storeD P s t x v=some s'){X:Origin}{E:Env}{a:Act}{w:World}(hr:RelE X s E a w){ux uv:Value}(hx:VD w E x ux)(hv:VD w E v uv):
  ∃w',(Instr.storeAt t ux uv).run P w= .ok () w'∧RelE X s' E a w':=by
 unfold storeD at h
 split at h
 ·rename_i m sz i o us n hus hn
  simp only [Option.bind_eq_some_iff]at h
  obtain⟨rows,hm,r,hrow,h⟩:=h
  split at h
  ·rename_i hle
   injection h with h;subst h
   have hp:=hx.bx_inv
   obtain⟨g1,g2,g3⟩:=cells_ok hus hv
   have hne:=(rowAt_ok hrow).2.2
   obtain⟨arr,e,k2,k3⟩:=(hr.wi.boxes m rows hm hne).2.1.rowsIs
   obtain⟨sz',k4⟩:=k3.lst
   obtain⟨rfl,hi,hri,hrl⟩:=rowAt_lst k4 hrow
   have hszo:(sizeOf t).run P w= .ok n w:=by
    unfold cellsOfT at hn
    cases hi:P.info? t with
    | none=>rw [hi]at hn;cases hn
    | some i=>rw [hi]at hn;injection hn with hn;simp [sizeOf,typeInfo,hi,hn]
   have hlen:uv.cells.toList.length=n:=by rw [Array.length_toList,g1,hle.1]
   have hal:arr.toList.length=rows.length*sz':=k4.len
   have hend:i*sz'+sz'≤rows.length*sz':=by
    have:(i+1)*sz'≤rows.length*sz':=Nat.mul_le_mul_right sz' hi
    rw [Nat.add_mul,Nat.one_mul]at this;exact this
   -- the row, as it is then
   have hnew:Lst w E sz' ((arr.toList.take (i*sz'+o)).drop (i*sz')++(uv.cells.toList++(arr.toList.drop (i*sz'+o+n)).take (sz' - (o+n)))) [r.take o++(us++r.drop (o+n))]:=by
    refine⟨?_,fun r' hr'=>?_,fun i' j r' t' v' e1 e2 e3=>?_⟩
    ·simp only [List.length_append,List.length_drop,List.length_take,hal,hlen,List.length_cons,List.length_nil];omega
    ·simp only [List.mem_singleton]at hr'
     subst hr'
     simp only [List.length_append,List.length_drop,List.length_take];omega
    ·cases i' with
     | succ i'=>simp at e1
     | zero=>
      simp only [List.getElem?_cons_zero,Option.some.injEq]at e1
      subst e1
      simp only [Nat.zero_mul,Nat.zero_add]at e3
      have h0:((arr.toList.take (i*sz'+o)).drop (i*sz')).length=o:=by
       simp only [List.length_drop,List.length_take,hal];omega
      by_cases c1:j<o
      ·rw [List.getElem?_append_left (by simp;omega),List.getElem?_take,if_pos c1]at e2
       rw [List.getElem?_append_left (by omega),List.getElem?_drop,List.getElem?_take]at e3
       split at e3
       ·exact k4.is i j r t' v' hri e2 e3
       ·cases e3
      ·rw [List.getElem?_append_right (by simp;omega),List.length_take,Nat.min_eq_left (by omega)]at e2
       rw [List.getElem?_append_right (by omega),h0]at e3
       by_cases c2:j - o<n
       ·rw [List.getElem?_append_left (by omega)]at e2 e3
        exact g2 (j - o) t' v' e2 (by simpa using e3)
       ·rw [List.getElem?_append_right (by omega),hle.1,List.getElem?_drop]at e2
        rw [List.getElem?_append_right (by omega),hlen,List.getElem?_take]at e3
        split at e3
        ·rw [List.getElem?_drop]at e3
         refine k4.is i (o+n+(j - o - n)) r t' v' hri e2 ?_
         rw [← e3];congr 1;omega
        ·cases e3
   have hset:=k4.set hi hnew
   have heq:arr.toList.take (i*sz'+o)++uv.cells.toList++arr.toList.drop (i*sz'+o+uv.cells.toList.length)=
     arr.toList.take (i*sz')++(((arr.toList.take (i*sz'+o)).drop (i*sz')++(uv.cells.toList++(arr.toList.drop (i*sz'+o+n)).take (sz' - (o+n))))++arr.toList.drop ((i+1)*sz')):=by
    have a1:arr.toList.take (i*sz'+o)=arr.toList.take (i*sz')++(arr.toList.take (i*sz'+o)).drop (i*sz'):=by
     have:=(List.take_append_drop (i*sz') (arr.toList.take (i*sz'+o))).symm
     rw [List.take_take,Nat.min_eq_left (by omega)]at this
     exact this
    have a2:arr.toList.drop (i*sz'+o+n)=(arr.toList.drop (i*sz'+o+n)).take (sz' - (o+n))++arr.toList.drop ((i+1)*sz'):=by
     have:=(List.take_append_drop (sz' - (o+n)) (arr.toList.drop (i*sz'+o+n))).symm
     rw [List.drop_drop]at this
     rw [Nat.add_mul,Nat.one_mul]
     have e:i*sz'+o+n+(sz' - (o+n))=i*sz'+sz':=by omega
     rw [e]at this
     exact this
    rw [hlen]
    conv=>lhs;rw [a2]
    conv=>lhs;rw [a1]
    simp only [List.append_assoc]
   obtain⟨w',hw1,hw2⟩:=hr.storeRow (P:=P) hm hne (sz:=sz') (off:=i*sz'+o) (l:=arr.toList) (m':=uv.cells.toList) (rows':=rows.set i (r.take o++(us++r.drop (o+n)))) g3
    (fun arr2 e2 h1 h2=>by rw [heq];exact hset) ⟨arr,e,k2,rfl⟩ (by rw [hlen,hal];omega)
   refine⟨w',?_,hw2⟩
   have:uv.cells.size=n:=by rw [g1,hle.1]
   simp only [Instr.storeAt,hp,Instr.sureAddr,Sem.run_bind,Sem.run_pure,Result.andThen_ok,storeVar,hszo]
   simp only [this,ne_eq,not_true_eq_false,if_false,Sem.run_bind,Sem.run_pure,Result.andThen_ok]
   exact hw1
  ·cases h
 ·cases h
def lab(m:Nat):Ren:=⟨fun n=>if n=0 then some m else none,fun _=>none⟩
def retPut(s:DS)(m:Nat)(r:D):DS:=
 match r with
 | .one (.c x)=>s.put (some m) (.one (.c x))
 | .one (.ex sz xs)=>s.put (some m) (.one (.ex sz xs))
 | r=>(s.close [m]).put (some m) (r.tr (lab m))
theorem retPut_ok{X:Origin}{s:DS}{E E':Env}{a:Act}{w w':World}(hr:RelE X s E a w)(hret:Ret w E.K w' E'){m:Nat}(hm:m<s.n){r:D}{v:Value}(hv:VD w' E' r v):Rel X (retPut s m r) (a.put (some m) v) w':=by
 have h1:=hr.quiet hret.quiet
 have hdst: ∀d,(some m:Option Nat)=some d→d<s.n:=fun d hd=>by injection hd with hd;omega
 have plain: ∀d:D,VD w' { K:=E'.K,ρ:=E.ρ,val:=E.val } d v→Rel X (s.put (some m) d) (a.put (some m) v) w':=fun d hd=>⟨_,h1.putOnly hdst hd⟩
 have opened:Rel X ((s.close [m]).put (some m) (r.tr (lab m))) (a.put (some m) v) w':=by
  have h2:=h1.setVal m (E'.val 0) (fun b o hs=>by
   obtain⟨g1,g2,g3⟩:=hret.free 0 b o hs
   have hsz:X.w.heap.size≤w.heap.size:=hr.wi.turn.size
   refine⟨.inl (by omega),g2,g3,fun k hk hs'=>?_,fun k rows hk hne hb=>?_⟩
   ·have:=(hr.wi.free k b o hs').2.2.lt
    omega
   ·have:=(hr.wi.boxes k rows hk hne).2.1.lt;simp only at hb;omega)
  refine⟨_,h2.putOnly (fun d hd=>hdst d hd) (VD.tr (w:=w') (E:=E') (E':=Env.setVal { K:=E'.K,ρ:=E.ρ,val:=E.val } m (E'.val 0)) (r:=lab m) ⟨rfl,fun n k h=>?_,fun n k h=>(by cases h)⟩ hv)⟩
  simp only [lab]at h
  split at h
  ·rename_i h0;injection h with h;subst h;simp [Env.setVal,h0]
  ·cases h
 unfold retPut
 split
 ·refine plain _ ?_
  cases hv with|one t v hv=>cases hv with|c c v hv=>exact .one _ _ (.c _ _ hv)
 ·refine plain _ ?_
  cases hv with|one t v hv=>cases hv with|ex sz xs v hv hx=>exact .one _ _ (.ex _ _ _ hv hx)
 ·exact opened
end
end Go.Dl
/- The logic of data: append; every operation, one behind the other. -/
namespace Go.Dl
open Go.RowKit
def appInfo(P:Program)(t:TypeId):Option (Nat×Nat):=
 match P.underlying t with
 | some (.slice e)=>match P.info? e,Program.zeroC P e with
  | some i,some z=>if i.size=z.length∧0<z.length∧0<i.bytes then some (z.length,i.bytes)else none
  | _,_=>none
 | _=>none
def appSrc(m sz:Nat):D→Option (Nat×List (List C))
 | .one (.own n z xs)=>if z=sz then some (n,xs)else none
 | .one (.ex z xs)=>if z=sz then some (m,xs)else none
 | .one (.c (.lit (.slice none 0 0)))=>some (m,[])
 | _=>none
def appNew(sz:Nat):D→Option (List (List C))
 | .one (.c (.lit (.slice none 0 0)))=>some []
 | .one (.c (.sl z ys))| .one (.own _ z ys)| .one (.ex z ys)=>if z=sz then some ys else none
 | _=>none
section
variable {P : Program}
theorem appInfo_ok{t:TypeId}{sz by_:Nat}(h:appInfo P t=some (sz,by_)): ∃e i z,P.underlying t=some (.slice e)∧P.info? e=some i∧i.zero=some z∧i.size=sz∧i.bytes=by_∧z.cells.size=sz∧0<sz∧0<by_:=by
 unfold appInfo at h
 split at h
 ·rename_i e hu
  split at h
  ·rename_i i z hi hz
   split at h
   ·rename_i hc
    injection h with h
    injection h with h1 h2
    obtain⟨i',zv,g1,g2,g3,_⟩:=zeroC_ok hz
    rw [hi]at g1;injection g1 with g1;subst g1
    exact⟨e,i,zv,hu,hi,g2,by omega,h2,by omega,by omega,by omega⟩
   ·cases h
  ·cases h
 ·cases h
theorem VC.cellsL{w:World}{K:KSet}{sz:Nat}{xs:List (List C)}{v:Value}(h:VC w K (.sl sz xs) v)(hsz:0<sz):
  (v= .slice none 0 0∧xs= [])∨∃(a:Addr) (cap:Nat) (l:List Value),v= .slice (some a) xs.length cap∧(∀r∈xs,r.length=sz)∧xs.length≤cap∧cap≤maxLen∧l.length=xs.length*sz∧
   (0<xs.length→a.spot=none)∧(∀(j:Nat) u,l[j]? =some u→K a.block (a.off+j)∧w.cell? (a.add j)=some u∧u.oneCell'=true)∧
   (∀(i j:Nat) r c,xs[i]? =some r→r[j]? =some c→∃u,l[i*sz+j]? =some u∧VC w K c u):=by
 rcases h.sl_inv with h|⟨a,cap,cv,h1,h2,h3,h4,h5,h6⟩
 ·exact .inl h
 ·have hidx: ∀j,j<xs.length*sz→∃i k r c,j=i*sz+k∧xs[i]? =some r∧r[k]? =some c:=by
   intro j hj
   have hi:j / sz<xs.length:=(Nat.div_lt_iff_lt_mul hsz).2 hj
   have hr:xs[j / sz]? =some (xs[j / sz]):=List.getElem?_eq_getElem hi
   have hl:(xs[j / sz]).length=sz:=h2 _ (List.getElem_mem hi)
   have hk:j % sz<(xs[j / sz]).length:=by rw [hl];exact Nat.mod_lt _ hsz
   refine⟨j / sz,j % sz,_,_,?_,hr,List.getElem?_eq_getElem hk⟩
   rw [Nat.mul_comm];exact(Nat.div_add_mod j sz).symm
  refine .inr ⟨a,cap,(List.range (xs.length*sz)).map cv,h1,h2,h3,h4,by simp,fun hpos=>?_,fun j u hu=>?_,fun i j r c k1 k2=>?_⟩
  ·exact(h5 0 (Nat.mul_pos hpos hsz)).1
  ·have hj:j<xs.length*sz:=by have:=(List.getElem?_eq_some_iff.1 hu).1;simpa using this
   have hcv:u=cv j:=by simp [hj]at hu;exact hu.symm
   subst hcv
   obtain⟨g1,g2,g3⟩:=h5 j hj
   have ha:a.add j=⟨a.block,a.off+j,none⟩:=by
    have:a=⟨a.block,a.off,none⟩:=by cases a;simp_all
    rw [this,add_none]
   obtain⟨i,k,r,c,rfl,e1,e2⟩:=hidx j hj
   exact⟨g2,by rw [ha];exact g3,(h6 i k r c e1 e2).oneCell'⟩
  ·have hrl:=h2 r (List.mem_of_getElem? k1)
   have hi:i<xs.length:=(List.getElem?_eq_some_iff.1 k1).1
   have hj:j<sz:=by have:=(List.getElem?_eq_some_iff.1 k2).1;omega
   have hlt:i*sz+j<xs.length*sz:=by
    have:(i+1)*sz≤xs.length*sz:=Nat.mul_le_mul_right sz hi
    rw [Nat.add_mul,Nat.one_mul]at this;omega
   exact⟨cv (i*sz+j),by simp [hlt],h6 i j r c k1 k2⟩
theorem VC.join{w:World}{K:KSet}{sz:Nat}{xs ys:List (List C)}{l m:List Value}{b o cap:Nat}(hx: ∀r∈xs,r.length=sz)(hy: ∀r∈ys,r.length=sz)(hl:l.length=xs.length*sz)(hm:m.length=ys.length*sz)
  (hxv: ∀(i j:Nat) r c,xs[i]? =some r→r[j]? =some c→∃u,l[i*sz+j]? =some u∧VC w K c u)
  (hyv: ∀(i j:Nat) r c,ys[i]? =some r→r[j]? =some c→∃u,m[i*sz+j]? =some u∧VC w K c u)
  (hcap:xs.length+ys.length≤cap) (hmax:cap≤maxLen)
  (hc: ∀(j:Nat) u,(l++m)[j]? =some u→K b (o+j)∧w.cell? ⟨b,o+j,none⟩=some u):VC w K (.sl sz (xs++ys)) (.slice (some ⟨b,o,none⟩) (xs.length+ys.length) cap):=by
 rw [← List.length_append]
 refine .sl sz (xs++ys) _ cap (fun j=>(l++m).getD j undef) (fun r hr=>?_) (by simpa using hcap) hmax (fun j hj=>?_) (fun i j r c h1 h2=>?_)
 ·rcases List.mem_append.1 hr with hr|hr
  ·exact hx r hr
  ·exact hy r hr
 ·have hlt:j<(l++m).length:=by rw [List.length_append,hl,hm,← Nat.add_mul];simpa using hj
  have hg:(l++m)[j]? =some ((l++m).getD j undef):=by rw [List.getElem?_eq_getElem hlt,List.getD_eq_getElem?_getD,List.getElem?_eq_getElem hlt];rfl
  exact⟨rfl,hc j _ hg⟩
 ·by_cases hi:i<xs.length
  ·rw [List.getElem?_append_left hi]at h1
   obtain⟨u,e1,e2⟩:=hxv i j r c h1 h2
   have:(l++m)[i*sz+j]? =some u:=by
    rw [List.getElem?_append_left (List.getElem?_eq_some_iff.1 e1).1];exact e1
   rw [List.getD_eq_getElem?_getD,this];exact e2
  ·rw [List.getElem?_append_right (by omega)]at h1
   obtain⟨u,e1,e2⟩:=hyv (i - xs.length) j r c h1 h2
   have hge:xs.length*sz≤i*sz:=Nat.mul_le_mul_right sz (by omega)
   have:(l++m)[i*sz+j]? =some u:=by
    rw [List.getElem?_append_right (by omega),hl]
    rw [← e1];congr 1
    rw [Nat.sub_mul];omega
   rw [List.getD_eq_getElem?_getD,this];exact e2
theorem appSrc_ok{m sz n:Nat}{d:D}{xs:List (List C)}(h:appSrc m sz d=some (n,xs)){w:World}{E:Env}{v:Value}(hv:VD w E d v):
  VC w E.K (.sl sz xs) v∧(E.val n=(v,sz)∨Exact v)∧Tame v:=by
 unfold appSrc at h
 split at h
 ·split at h
  ·rename_i hz
   injection h with h;injection h with h1 h2;subst h1;subst h2;subst hz
   cases hv with|one t v hv=>cases hv with|own n sz xs v hv hn ht=>exact⟨hv,.inl hn,ht⟩
  ·cases h
 ·split at h
  ·rename_i hz
   injection h with h;injection h with h1 h2;subst h1;subst h2;subst hz
   cases hv with|one t v hv=>cases hv with|ex sz xs v hv hx=>exact⟨hv,.inr hx,hx.tame⟩
  ·cases h
 ·injection h with h;injection h with h1 h2;subst h1;subst h2
  rw [hv.lit]
  exact⟨.nil sz,.inr ⟨none,0,rfl⟩,Exact.tame ⟨none,0,rfl⟩⟩
 ·cases h
theorem appNew_ok{sz:Nat}{d:D}{ys:List (List C)}(h:appNew sz d=some ys){w:World}{E:Env}{v:Value}(hv:VD w E d v):VC w E.K (.sl sz ys) v:=by
 unfold appNew at h
 split at h
 ·injection h with h;subst h;rw [hv.lit];exact .nil sz
 all_goals first|(cases h;done)|skip
 all_goals
  split at h
  ·rename_i hz
   injection h with h;subst h;subst hz
   cases hv with|one t v hv=>cases hv;assumption
  ·cases h
theorem append_ok{t ty:TypeId}{sz by_:Nat}(hinfo:appInfo P t=some (sz,by_)){X:Origin}{s:DS}{E:Env}{a:Act}{w:World}(hr:RelE X s E a w){n:Nat}{xs ys:List (List C)}{v u:Value}(hx:VC w E.K (.sl sz xs) v)
  (hown:E.val n=(v,sz)∨Exact v) (htame:Tame v) (hy:VC w E.K (.sl sz ys) u) (hb:(xs.length+ys.length)*by_≤140737488355328):
  ∃v' w' E',(Builtin.append_ #[t,t] ty #[v,u]).run P w= .ok v' w'∧RelE X (s.close [n]) E' a w'∧VD w' E' (.one (.own n sz (xs++ys))) v':=by
 obtain⟨e,i,z,hu,hi,hz,hisz,hiby,hzsz,hpos,hbpos⟩:=appInfo_ok hinfo
 have hmax:xs.length+ys.length≤maxLen:=by
  have:xs.length+ys.length≤(xs.length+ys.length)*by_:=Nat.le_mul_of_pos_right _ hbpos
  unfold maxLen;omega
 have hsm:xs.length+ys.length≤9223372036854775807:=by unfold maxLen at hmax;omega
 -- a permission of one's own, moved to one's own name
 have same: ∀p:Value×Nat,(∀b o,spare p b o→spare (E.val n) b o)→RelE X (s.close [n]) (E.setVal n p) a w:=fun p hp=>
  hr.setVal n p fun b o hs=>by
   obtain⟨g1,g2,g3⟩:=hr.wi.free n b o (hp b o hs)
   exact⟨g1,g2,g3,fun m hm hs'=>hm (hr.wi.disj m n b o hs' (hp b o hs)),fun m rows hm hne=>hr.wi.sbox n m b o rows (hp b o hs) hm hne⟩
 have hval: ∀b o,spare (v,sz) b o→spare (E.val n) b o:=by
  intro b o hs
  rcases hown with h|⟨A,k,h⟩
  ·rw [h];exact hs
  ·obtain⟨a',len,cap,g1,g2,g3,g4,g5⟩:=hs
   rw [h]at g1
   injection g1 with g1 g6 g7
   subst g6;subst g7
   omega
 have own_of: ∀{w':World} {E1:Env} {v':Value},VC w' E1.K (.sl sz (xs++ys)) v'→E1.val n=(v',sz)→Tame v'→VD w' E1 (.one (.own n sz (xs++ys))) v':=fun h1 h2 h3=>.one _ _ (.own _ _ _ _ h1 h2 h3)
 by_cases hm:ys= []
 ·
  subst hm
  have hrun:(Builtin.append_ #[t,t] ty #[v,u]).run P w= .ok v w:=by
   rcases hx.sl_inv with⟨rfl,rfl⟩|⟨a1,cap,cv,rfl,h1,h2,h3,h4,h5⟩<;>
    rcases hy.sl_inv with⟨rfl,_⟩|⟨a2,cap2,cv2,rfl,g1,g2,g3,g4,g5⟩<;>
     simp [Builtin.append_,run_underlying hu,sizeOf,typeInfo,hi,Builtin.lenOf,Builtin.firstCells,loadCells,loadCellsFrom,storeCells, *]
  refine⟨v,w,_,hrun,same (v,sz) hval,own_of (by rw [List.append_nil];exact hx) (by simp [Env.setVal]) htame⟩
 ·have hmpos:0<ys.length:=List.length_pos_iff.2 hm
  rcases hy.cellsL hpos with⟨_,h0⟩|⟨a2,c2,news,rfl,hyr,_,_,hnl,hnsp,hnc,hnv⟩
  ·exact absurd h0 hm
  ·have hnews: ∀(j:Nat) u,news[j]? =some u→w.cell? (a2.add j)=some u:=fun j u hju=>(hnc j u hju).2.1
   have hn1: ∀u∈news,u.oneCell'=true:=fun u hu'=>by
    obtain⟨j,hj⟩:=List.mem_iff_getElem?.1 hu'
    exact(hnc j u hj).2.2
   -- a new block
   have fresh: ∀(olds:List Value) (old:Nat),olds.length=xs.length*sz→(∀(i j:Nat) r c,xs[i]? =some r→r[j]? =some c→∃u,olds[i*sz+j]? =some u∧VC w E.K c u)→(∀r∈xs,r.length=sz)→
     (Builtin.append_ #[t,t] ty #[v,.slice (some a2) ys.length c2]).run P w= .ok (.slice (some ⟨w.heap.size,0,none⟩) (xs.length+ys.length) (grownCap w (xs.length+ys.length) old e))
      (w.drew.alloc (.cells (olds.toArray++news.toArray++Builtin.zeroCells z.cells (grownCap w (xs.length+ys.length) old e - (xs.length+ys.length))) e))→
     ∃v' w' E',(Builtin.append_ #[t,t] ty #[v,.slice (some a2) ys.length c2]).run P w= .ok v' w'∧RelE X (s.close [n]) E' a w'∧VD w' E' (.one (.own n sz (xs++ys))) v':=by
    intro olds old ho hov hxr hrun
    have hge:=grownCap_ge w (xs.length+ys.length) old e
    have hle:=grownCap_le_maxLen w (xs.length+ys.length) old e hmax
    generalize grownCap w (xs.length+ys.length) old e=cap at hrun hge hle
    let arr:Array Value:=olds.toArray++news.toArray++Builtin.zeroCells z.cells (cap - (xs.length+ys.length))
    have hasz:arr.size=cap*sz:=by
     simp only [arr,Array.size_append,List.size_toArray,size_zeroCells,hzsz,ho,hnl,← Nat.add_mul]
     congr 1;omega
    have hlow:(xs.length+ys.length)*sz≤cap*sz:=Nat.mul_le_mul_right sz hge
    have q0:Quiet w E w.drew E:=⟨(Below.refl _ _).drew,fun _ _ h=>h,fun _ _ _ h=>h,hr.wi.kok.move (fun _ _ _=>rfl) (hr.wi.kok.z.below ((Below.refl _ _).drew)),rfl,rfl⟩
    have h0:=hr.quiet q0
    have q:=quiet_alloc (w:=w.drew) h0.wi.kok arr e ((xs.length+ys.length)*sz) (by omega)
    have h1:=h0.quiet q
    have hlat:=q.later h0.wi.kok
    have hws:w.drew.heap.size=w.heap.size:=rfl
    have hnew:(w.drew.alloc (.cells arr e)).heap[w.heap.size]? =some (.cells arr e (0,0)):=heap_alloc_new w.drew _
    have hXs:X.w.heap.size≤w.heap.size:=hr.wi.turn.size
    have h2:=h1.setVal n (.slice (some ⟨w.heap.size,0,none⟩) (xs.length+ys.length) cap,sz) (fun b o hs=>by
     obtain⟨a',len,cap',g1,g2,g3,g4,g5⟩:=hs
     injection g1 with g1 g6 g7
     injection g1 with g1
     subst g1;subst g6;subst g7
     simp only at g3 g4 g5
     subst g3
     refine⟨.inl hXs,fun hk=>?_,⟨arr,e,hnew,by rw [hasz];omega⟩,fun m hmn hs'=>?_,fun m rows hm hne hb'=>?_⟩
     ·rcases hk with hk|⟨_,hk⟩
      ·exact absurd (lt_of_cell (hr.wi.kok _ o hk)) (by omega)
      ·omega
     ·have:=(hr.wi.free m _ o hs').2.2.lt;omega
     ·have:=(hr.wi.boxes m rows hm hne).2.1.lt;simp only at hb';omega)
    refine⟨_,_,_,hrun,h2,own_of ?_ (by simp [Env.setVal]) (tame_plain _ _ _ _)⟩
    refine VC.join hxr hyr ho hnl (fun i j r c k1 k2=>?_) (fun i j r c k1 k2=>?_) hge hle (fun j u hju=>?_)
    ·obtain⟨u,e1,e2⟩:=hov i j r c k1 k2
     exact⟨u,e1,VC.mono (w:=w) (K:=E.K) hlat.keep e2⟩
    ·obtain⟨u,e1,e2⟩:=hnv i j r c k1 k2
     exact⟨u,e1,VC.mono (w:=w) (K:=E.K) hlat.keep e2⟩
    ·have hj:j<(xs.length+ys.length)*sz:=by
      have:=(List.getElem?_eq_some_iff.1 hju).1
      rw [List.length_append,ho,hnl,← Nat.add_mul]at this;exact this
     refine⟨.inr ⟨rfl,by omega⟩,?_⟩
     show(w.drew.alloc (.cells arr e)).cell? ⟨w.heap.size,0+j,none⟩=some u
     have hju':arr[j]? =some u:=by
      have:(olds.toArray++news.toArray)[j]? =some u:=by simpa using hju
      simp only [arr]
      rw [Array.getElem?_append_left (Array.getElem?_eq_some_iff.1 this).1];exact this
     rw [Nat.zero_add]
     simp only [World.cell?,hnew,Option.isSome_none,Bool.false_eq_true,if_false]
     exact hju'
   rcases hx.cellsL hpos with⟨rfl,rfl⟩|⟨a1,cap,olds,rfl,hxr,hxc,hcm,hol,hosp,hoc,hov⟩
   ·
    have hrun:=run_append_nil (P:=P) w t ty e i z hu hi hz a2 ys.length c2 news (by rw [hnl,hisz]) hnews hmpos (by simp only [List.length_nil]at hsm;omega) (by rw [hiby];simp only [List.length_nil,Nat.zero_add]at hb;omega)
    refine fresh [] 0 (by simp) (fun i j r c k1=>by simp at k1) (fun r hr'=>by simp at hr') ?_
    simp only [List.length_nil,Nat.zero_add,Array.empty_append]
    exact hrun
   ·by_cases hroom:xs.length+ys.length≤cap
    ·
     have hval':E.val n=(.slice (some a1) xs.length cap,sz):=by
      rcases hown with h|⟨A,k,h⟩
      ·exact h
      ·injection h with h1 h2 h3;omega
     -- where it lies
     have hsp1:a1.spot=none:=by
      cases h0:a1.spot with
      | none=>rfl
      | some k=>
       have:=htame a1 _ _ rfl (by rw [h0];simp)
       omega
     obtain⟨g,o,rfl⟩: ∃g o,a1=⟨g,o,none⟩:=⟨a1.block,a1.off,by cases a1;simp_all⟩
     have hroom':(xs.length+ys.length)*sz≤cap*sz:=Nat.mul_le_mul_right sz hroom
     have hadd:(xs.length+ys.length)*sz=xs.length*sz+ys.length*sz:=Nat.add_mul _ _ _
     have hypos:0<ys.length*sz:=Nat.mul_pos hmpos hpos
     have hspare: ∀k,o+xs.length*sz≤k→k<o+cap*sz→spare (E.val n) g k:=fun k h1 h2=>by
      rw [hval'];exact⟨⟨g,o,none⟩,xs.length,cap,rfl,rfl,rfl,h1,h2⟩
     obtain⟨f1,f2,arr,e',f3,f4⟩:=hr.wi.free n g (o+xs.length*sz) (hspare _ (Nat.le_refl _) (by omega))
     have hsize:o+cap*sz≤arr.size:=by
      obtain⟨_,_,arr2,e2,f5,f6⟩:=hr.wi.free n g (o+cap*sz - 1) (hspare _ (by omega) (by omega))
      rw [f3]at f5
      injection f5 with f5;injection f5 with f5 _
      subst f5;omega
     -- the permission shrinks to what is left
     have hs1:=same (.slice (some ⟨g,o,none⟩) (xs.length+ys.length) cap,sz) (fun b k hs=>by
      obtain⟨a',len,cap',g1,g2,g3,g4,g5⟩:=hs
      injection g1 with g1 g6 g7
      injection g1 with g1
      subst g1;subst g6;subst g7
      simp only at g3 g4 g5
      subst g3
      exact hspare k (by omega) (by omega))
     have hst:=run_storeCells_at P g (o+xs.length*sz) e' news 0 arr w f3 (by rw [hnl];omega) hn1
     simp only [Nat.add_zero]at hst
     let arr':Array Value:=(arr.toList.take (o+xs.length*sz)++news++arr.toList.drop (o+xs.length*sz+news.length)).toArray
     have hasz:arr'.size=arr.size:=by
      simp only [arr',List.size_toArray,List.length_append,List.length_take,List.length_drop,Array.length_toList,hnl]
      omega
     have hget: ∀k,arr'[k]? =if o+xs.length*sz≤k∧k<o+xs.length*sz+ys.length*sz then news[k - (o+xs.length*sz)]? else arr[k]? :=by
      intro k
      have h0:arr'[k]? =(arr.toList.take (o+xs.length*sz)++(news++arr.toList.drop (o+xs.length*sz+ys.length*sz)))[k]? :=by
       simp only [arr',hnl,List.append_assoc];simp
      rw [h0]
      by_cases h1:k<o+xs.length*sz
      ·rw [if_neg (by omega),List.getElem?_append_left (by simp;omega),List.getElem?_take,if_pos h1];simp
      ·have hal:arr.toList.length=arr.size:=Array.length_toList
       rw [List.getElem?_append_right (by simp;omega),List.length_take,hal,Nat.min_eq_left (by omega)]
       by_cases h2:k<o+xs.length*sz+ys.length*sz
       ·rw [if_pos ⟨by omega,h2⟩,List.getElem?_append_left (by omega)]
       ·rw [if_neg (by omega),List.getElem?_append_right (by omega),hnl,List.getElem?_drop]
        rw [show o+xs.length*sz+ys.length*sz+(k - (o+xs.length*sz) - ys.length*sz)=k from by omega]
        simp
     have hrs:RowSet w (w.setRow g arr') g e' arr arr':=
      ⟨f3,setRow_heap w _ _ _ _ _ f3,hasz,by simp [World.setRow],fun k hk=>setRow_other w _ k _ hk,rfl,rfl,rfl⟩
     obtain⟨hs2,hlat⟩:=hs1.commit hrs (lo:=o+xs.length*sz) (hi:=o+xs.length*sz+ys.length*sz) (by omega) (fun k hk=>by rw [hget,if_neg hk]) (fun k h1 h2=>(hr.wi.free n g k (hspare k h1 (by omega))).1)
      (fun k h1 h2=>(hr.wi.free n g k (hspare k h1 (by omega))).2.1)
      (fun m k h1 h2 hs=>by
       simp only [Env.setVal]at hs
       split at hs
       ·obtain⟨a',len,cap',g1,g2,g3,g4,g5⟩:=hs
        injection g1 with g1 g6 g7
        injection g1 with g1
        subst g1;subst g6;subst g7
        simp only at g4
        omega
       ·rename_i hmn
        exact hmn (hr.wi.disj m n g k hs (hspare k h1 (by omega))))
      (fun m rows hm hne=>by
       obtain⟨r',e1,rfl⟩:=map_tr_some hm
       exact hr.wi.sbox n m g _ r' (hspare (o+xs.length*sz) (Nat.le_refl _) (by omega)) e1 (Rows.tr_ne hne))
     refine⟨.slice (some ⟨g,o,none⟩) (xs.length+ys.length) cap,w.setRow g arr',_,?_,hs2,own_of ?_ (by simp [Env.setVal]) (tame_plain _ _ _ _)⟩
     ·have hf:=run_firstCells_some (P:=P) w i.size ys.length a2 ys.length c2 news (by rw [hnl,hisz]) hnews
      rw [hisz]at hf
      simp only [Builtin.append_,Sem.run_bind,run_underlying hu,Result.andThen_ok]
      simp [sizeOf,typeInfo,hi,run_underlying hu,Builtin.lenOf,hroom,hf,hisz,add_none,hst,arr']
     ·refine VC.join hxr hyr hol hnl (fun i j r c k1 k2=>?_) (fun i j r c k1 k2=>?_) hroom hcm (fun j u hju=>?_)
      ·obtain⟨u,e1,e2⟩:=hov i j r c k1 k2
       exact⟨u,e1,VC.mono (w:=w) (K:=E.K) hlat.keep e2⟩
      ·obtain⟨u,e1,e2⟩:=hnv i j r c k1 k2
       exact⟨u,e1,VC.mono (w:=w) (K:=E.K) hlat.keep e2⟩
      ·by_cases hj:j<xs.length*sz
       ·rw [List.getElem?_append_left (by omega)]at hju
        obtain⟨k1,k2,_⟩:=hoc j u hju
        rw [add_none]at k2
        have:=hlat.keep g (o+j) k1
        exact⟨this.1,this.2.trans k2⟩
       ·rw [List.getElem?_append_right (by omega),hol]at hju
        have hjl:j - xs.length*sz<ys.length*sz:=by have:=(List.getElem?_eq_some_iff.1 hju).1;omega
        refine⟨.inr ⟨rfl,by omega,by omega⟩,?_⟩
        have h5:arr'[o+j]? =some u:=by
         rw [hget,if_pos ⟨by omega,by omega⟩,← hju];congr 1;omega
        simp [World.cell?,hrs.is,h5]
    ·have hrun:=run_append_grow (P:=P) w t ty e i z hu hi hz a1 xs.length cap olds (by rw [hol,hisz]) (fun j u hju=>(hoc j u hju).2.1) a2 ys.length c2 news (by rw [hnl,hisz]) hnews (by omega) (by omega)
      (by rw [hiby];exact growslice_fits (by omega) hb)
     exact fresh olds cap hol hov hxr hrun
end
end Go.Dl
/- The logic of data: memory of the call's own by another name; what is appended to it. -/
namespace Go.Dl
open Go.RowKit
/-! ### One renaming behind another -/
def Ren.andThen(r q:Ren):Ren:=⟨fun n=>(r.f n).bind q.f,fun n=>(r.g n).bind q.g⟩
mutual
theorem T.tr_tr(r q:Ren): ∀t:T,(t.tr r).tr q=t.tr (r.andThen q)
 | .own n sz xs=>by simp only [T.tr,Ren.andThen];cases r.f n<;>simp [T.ownTo,T.tr]
 | .bx n sz i o=>by simp only [T.tr,Ren.andThen];cases r.g n<;>simp [T.bxTo,T.tr]
 | .ba n sz i len cap=>by simp only [T.tr,Ren.andThen];cases r.g n<;>simp [T.baTo,T.tr]
 | .fv f caps=>by simp only [T.tr];rw [T.trAll_trAll r q caps]
 | .c x=>by simp [T.tr]
 | .ex sz xs=>by simp [T.tr]
theorem T.trAll_trAll(r q:Ren): ∀l:List T,T.trAll q (T.trAll r l)=T.trAll (r.andThen q) l
 | []=>rfl
 | t::l=>by simp only [T.trAll];rw [T.tr_tr r q t,T.trAll_trAll r q l]
end
mutual
theorem D.tr_tr(r q:Ren): ∀d:D,(d.tr r).tr q=d.tr (r.andThen q)
 | .any=>rfl
 | .one t=>by simp only [D.tr,T.tr_tr]
 | .agg ts=>by simp only [D.tr,T.trAll_trAll]
 | .tup ds=>by simp only [D.tr];rw [D.trAll_trAll r q ds]
theorem D.trAll_trAll(r q:Ren): ∀l:List D,D.trAll q (D.trAll r l)=D.trAll (r.andThen q) l
 | []=>rfl
 | t::l=>by simp only [D.trAll];rw [D.tr_tr r q t,D.trAll_trAll r q l]
end
theorem Rows.tr_tr(r q:Ren)(rows:Rows):Rows.tr q (Rows.tr r rows)=Rows.tr (r.andThen q) rows:=by
 simp only [Rows.tr,List.map_map]
 congr 1
 funext l
 exact T.trAll_trAll r q l
def fgts(ms:List Nat):Ren:=⟨some,fun n=>if n∈ms then none else some n⟩
theorem renames_fgts(E:Env)(ms:List Nat){m:Nat}(hm:m∈ms)(b:Nat):Renames (fgts ms) E (E.setρ m b):=
 ⟨rfl,fun n k h=>by injection h with h;rw [h];rfl,fun n k h=>by
  simp only [fgts]at h
  split at h
  ·cases h
  ·rename_i hne
   injection h with h;subst h
   have:n≠m:=fun e=>hne (e▸hm)
   simp [Env.setρ,this]⟩
def DS.moveMem(s:DS)(n m:Nat)(rows:Rows):DS:=((s.tr (fgts [n,m])).setBx n none).setBx m (some (Rows.tr (fgts [n,m]) rows))
theorem moveMem_some{s:DS}{n m:Nat}{rows:Rows}{k:Nat}{r:Rows}(h:(s.moveMem n m rows).bx k=some r):
  (k=m∧r=Rows.tr (fgts [n,m]) rows)∨(k≠m∧k≠n∧∃r',s.bx k=some r'∧r=Rows.tr (fgts [n,m]) r'):=by
 simp only [DS.moveMem,DS.setBx]at h
 split at h
 ·rename_i hk;injection h with h;exact .inl ⟨hk,h.symm⟩
 ·rename_i hk
  split at h
  ·cases h
  ·rename_i hk2
   obtain⟨r',h1,h2⟩:=map_tr_some h
   exact .inr ⟨hk,hk2,r',h1,h2⟩
theorem RelE.moveMem{X:Origin}{s:DS}{E:Env}{a:Act}{w:World}(h:RelE X s E a w){n m:Nat}{rows:Rows}(hn:s.bx n=some rows)(hm:m<s.n):RelE X (s.moveMem n m rows) (E.setρ m (E.ρ n)) a w:=by
 have hR:=renames_fgts E [n,m] (m:=m) (by simp) (E.ρ n)
 have hρm:(E.setρ m (E.ρ n)).ρ m=E.ρ n:=by simp [Env.setρ]
 have hρ: ∀k,k≠m→(E.setρ m (E.ρ n)).ρ k=E.ρ k:=fun k hk=>by simp [Env.setρ,hk]
 refine⟨⟨h.wi.turn,h.wi.sep,h.wi.kin,h.wi.kold,h.wi.kok,fun k us hk hne=>?_,fun k j rk rj hk h2 hj h3 hne=>?_,h.wi.free,h.wi.disj,fun k j b o rj hs hj h3=>?_,fun k hk=>?_⟩,fun t=>(h.sl t).tr hR,h.size,h.defers,h.small,h.pl⟩
 ·rcases moveMem_some hk with⟨rfl,rfl⟩|⟨hkm,hkn,r',g1,rfl⟩
  ·obtain⟨g1,g2,g3⟩:=h.wi.boxes n rows hn (Rows.tr_ne hne)
   rw [hρm];exact⟨g1,g2.tr hR,g3⟩
  ·obtain⟨g2,g3,g4⟩:=h.wi.boxes k r' g1 (Rows.tr_ne hne)
   rw [hρ k hkm];exact⟨g2,g3.tr hR,g4⟩
 ·rcases moveMem_some hk with⟨rfl,rfl⟩|⟨hkm,hkn,r',g1,rfl⟩
  ·rcases moveMem_some hj with⟨rfl,_⟩|⟨hjm,hjn,r2,g2,rfl⟩
   ·exact absurd rfl hne
   ·rw [hρm,hρ j hjm];exact h.wi.boxne n j rows r2 hn (Rows.tr_ne h2) g2 (Rows.tr_ne h3) (fun e=>hjn e.symm)
  ·rcases moveMem_some hj with⟨rfl,rfl⟩|⟨hjm,hjn,r2,g2,rfl⟩
   ·rw [hρm,hρ k hkm];exact h.wi.boxne k n r' rows g1 (Rows.tr_ne h2) hn (Rows.tr_ne h3) hkn
   ·rw [hρ k hkm,hρ j hjm];exact h.wi.boxne k j r' r2 g1 (Rows.tr_ne h2) g2 (Rows.tr_ne h3) hne
 ·rcases moveMem_some hj with⟨rfl,rfl⟩|⟨hjm,hjn,r2,g2,rfl⟩
  ·rw [hρm];exact h.wi.sbox k n b o rows hs hn (Rows.tr_ne h3)
  ·rw [hρ j hjm];exact h.wi.sbox k j b o r2 hs g2 (Rows.tr_ne h3)
 ·rw [hρ k (by have:=h.small;omega)];exact h.wi.fix k hk
theorem RelE.noRows{X:Origin}{s:DS}{E:Env}{a:Act}{w:World}(h:RelE X s E a w)(n:Nat):RelE X (s.setBx n (some [])) E a w:=by
 have hb: ∀k r,(s.setBx n (some [])).bx k=some r→r≠ []→s.bx k=some r:=fun k r hk hne=>by
  simp only [DS.setBx]at hk
  split at hk
  ·injection hk with hk;exact absurd hk.symm hne
  ·exact hk
 exact⟨⟨h.wi.turn,h.wi.sep,h.wi.kin,h.wi.kold,h.wi.kok,fun k us hk hne=>h.wi.boxes k us (hb k us hk hne) hne,fun k j rk rj hk h2 hj h3 hne=>h.wi.boxne k j rk rj (hb _ _ hk h2) h2 (hb _ _ hj h3) h3 hne,h.wi.free,h.wi.disj,
  fun k j b o rj hs hj h3=>h.wi.sbox k j b o rj hs (hb _ _ hj h3) h3,h.wi.fix⟩,h.sl,h.size,h.defers,h.small,h.pl⟩
/-! ### What may be appended or copied -/
inductive Src(bx:Mem)(sz:Nat):D→Rows→Prop where
 | nil (A:Option Addr) (c:Nat):Src bx sz (.one (.c (.lit (.slice A 0 c)))) []
 | sl (ys:List (List C)):Src bx sz (.one (.c (.sl sz ys))) (ys.map (List.map T.c))
 | own (n:Nat) (ys:List (List C)):Src bx sz (.one (.own n sz ys)) (ys.map (List.map T.c))
 | ex (ys:List (List C)):Src bx sz (.one (.ex sz ys)) (ys.map (List.map T.c))
 | ba (n i len cap:Nat) (rows:Rows) (h:bx n=some rows) (hl:i+len≤rows.length) (hz: ∀r∈rows,r.length=sz):Src bx sz (.one (.ba n sz i len cap)) ((rows.drop i).take len)
structure SrcIs(w:World)(E:Env)(sz:Nat)(v:Value)(rows:Rows)(A:Option Addr)(c:Nat)(l:List Value):Prop where
 val:v= .slice A rows.length c
 lst:Lst w E sz l rows
 cell: ∀a,A=some a→∀(j:Nat) u,l[j]? =some u→w.cell? (a.add j)=some u
 one: ∀u∈l,u.oneCell'=true
 some:rows≠ []→∃a,A=Option.some a
theorem box_one{w:World}{E:Env}{sz:Nat}{l:List Value}{rows:Rows}(h:Lst w E sz l rows)(hpos:0<sz): ∀u∈l,u.oneCell'=true:=by
 intro u hu
 obtain⟨k,hk,hku⟩:=List.mem_iff_getElem.1 hu
 have hi:k / sz<rows.length:=(Nat.div_lt_iff_lt_mul hpos).2 (by rw [← h.len];exact hk)
 have hrow:rows[k / sz]? =some rows[k / sz]:=List.getElem?_eq_getElem hi
 have hj:k % sz<(rows[k / sz]).length:=by rw [h.row _ (List.getElem_mem hi)];exact Nat.mod_lt _ hpos
 refine(h.is (k / sz) (k % sz) _ _ u hrow (List.getElem?_eq_getElem hj) ?_).oneCell'
 rw [Nat.mul_comm,Nat.div_add_mod,List.getElem?_eq_getElem hk,hku]
theorem src_ok{bx:Mem}{sz:Nat}{d:D}{rows:Rows}(h:Src bx sz d rows)(hpos:0<sz){w:World}{E:Env}(hb: ∀n rows,bx n=some rows→rows≠ []→BoxIs w E (E.ρ n) rows){v:Value}(hv:VD w E d v):
  ∃A c l,SrcIs w E sz v rows A c l:=by
 have fromSl: ∀ys:List (List C),VC w E.K (.sl sz ys) v→∃A c l,SrcIs w E sz v (ys.map (List.map T.c)) A c l:=by
  intro ys hv
  rcases hv.cellsL hpos with⟨rfl,rfl⟩|⟨a,cap,l,rfl,h1,h2,h3,h4,h5,h6,h7⟩
  ·exact⟨none,0,[],rfl,⟨by simp,fun r hr=>(by simp at hr),fun i j r t v h1=>(by simp at h1)⟩,fun a h=>(by cases h),fun u hu=>(by simp at hu),fun h=>absurd rfl h⟩
  ·refine⟨some a,cap,l,by simp,⟨by simpa using h4,fun r hr=>?_,fun i j r t v g1 g2 g3=>?_⟩,fun a' ha j u hju=>?_,fun u hu=>?_,fun _=>⟨a,rfl⟩⟩
   ·simp only [List.mem_map]at hr
    obtain⟨r',hr',rfl⟩:=hr
    rw [List.length_map];exact h1 r' hr'
   ·rw [List.getElem?_map]at g1
    cases hy:ys[i]? with
    | none=>rw [hy]at g1;cases g1
    | some y=>
     rw [hy]at g1;injection g1 with g1;subst g1
     rw [List.getElem?_map]at g2
     cases hc:y[j]? with
     | none=>rw [hc]at g2;cases g2
     | some c=>
      rw [hc]at g2;injection g2 with g2;subst g2
      obtain⟨u,e1,e2⟩:=h7 i j y c hy hc
      rw [e1]at g3;injection g3 with g3;subst g3
      exact .c _ _ e2
   ·injection ha with ha;subst ha;exact(h6 j u hju).2.1
   ·obtain⟨j,hj⟩:=List.mem_iff_getElem?.1 hu
    exact(h6 j u hj).2.2
 cases h with
 | nil A c=>
  rw [hv.lit]
  exact⟨A,c,[],rfl,⟨by simp,fun r hr=>(by simp at hr),fun i j r t v h1=>(by simp at h1)⟩,fun a _ j u hju=>(by simp at hju),fun u hu=>(by simp at hu),fun h=>absurd rfl h⟩
 | sl ys=>cases hv with|one t v hv=>cases hv with|c c v hv=>exact fromSl ys hv
 | own n ys=>cases hv with|one t v hv=>cases hv with|own n sz xs v hv=>exact fromSl ys hv
 | ex ys=>cases hv with|one t v hv=>cases hv with|ex sz xs v hv=>exact fromSl ys hv
 | ba n i len cap rows h hl hz=>
  have hlen:((rows.drop i).take len).length=len:=by simp;omega
  have none_:len=0→∀A c,v= .slice A 0 c→∃A c l,SrcIs w E sz v ((rows.drop i).take len) A c l:=fun h0 A c hvv=>by
   subst h0
   exact⟨A,c,[],by simpa using hvv,⟨by simp,fun r hr=>(by simp at hr),fun i j r t v h1=>(by simp at h1)⟩,fun a _ j u hju=>(by simp at hju),fun u hu=>(by simp at hu),fun h=>absurd (by simp) h⟩
  cases hv with|one t v hv=>cases hv with
   | bz _ _ _ A=>exact none_ rfl A 0 rfl
   | ba _ _ _ _ _ h1 h2=>
    by_cases h0:len=0
    ·exact none_ h0 _ _ (by rw [h0])
    ·have hne:rows≠ []:=fun e=>by rw [e]at hl;simp at hl;omega
     obtain⟨arr,e,k1,k2⟩:=(hb n rows h hne).rowsIs
     obtain⟨sz',k3⟩:=k2.lst
     have hi:i<rows.length:=by omega
     have hsz:sz'=sz:=by rw [← k3.row _ (List.getElem_mem hi),hz _ (List.getElem_mem hi)]
     subst hsz
     have hL:=(k3.drop i).take len (by simp;omega)
     refine⟨_,cap,_,by rw [hlen],hL,fun a ha j u hju=>?_,box_one hL hpos,fun _=>⟨_,rfl⟩⟩
     injection ha with ha;subst ha
     rw [add_none]
     rw [List.getElem?_take]at hju
     split at hju
     ·rw [List.getElem?_drop]at hju
      have hju':arr[i*sz'+j]? =some u:=by simpa using hju
      simp [World.cell?,k1,hju']
     ·cases hju
end Go.Dl
/- The logic of data: an append to memory of the call's own. -/
namespace Go.Dl
open Go.RowKit
theorem setBx_self{s:DS}{n:Nat}{rows:Rows}(h:s.bx n=some rows):s.setBx n (some rows)=s:=by
 unfold DS.setBx
 have:(fun k=>if k=n then some rows else s.bx k)=s.bx:=by
  funext k;split
  ·rename_i hk;rw [hk,h]
  ·rfl
 rw [this]
section
variable {P : Program}
theorem run_append_none{t ty e:TypeId}{i:TypeInfo}(hu:P.underlying t=some (.slice e))(hi:P.info? e=some i){b:Option Addr}{len cap:Nat}(hc:len≤cap)(A:Option Addr)(c:Nat)(w:World):
  (Builtin.append_ #[t,t] ty #[.slice b len cap,.slice A 0 c]).run P w= .ok (.slice b len cap) w:=by
 cases b<;>cases A<;>simp [Builtin.append_,run_underlying hu,sizeOf,typeInfo,hi,Builtin.lenOf,Builtin.firstCells,loadCells,loadCellsFrom,storeCells,hc]
theorem appBa_room{t ty:TypeId}{sz by_:Nat}(hinfo:appInfo P t=some (sz,by_)){X:Origin}{s:DS}{E:Env}{a:Act}{w:World}(hr:RelE X s E a w){n i len cap:Nat}{rows ys:Rows}{v u:Value}{y:D}
  (hx:VD w E (.one (.ba n sz i len cap)) v) (hn:s.bx n=some rows) (hcap:i+cap≤rows.length) (hz: ∀r∈rows,r.length=sz) (hsrc:Src s.bx sz y ys) (hy:VD w E y u) (hroom:len+ys.length≤cap):
  ∃v' w',(Builtin.append_ #[t,t] ty #[v,u]).run P w= .ok v' w'∧RelE X (s.setBx n (some (rows.take (i+len)++(ys++rows.drop (i+len+ys.length))))) E a w'∧VD w' E (.one (.ba n sz i (len+ys.length) cap)) v':=by
 obtain⟨e,inf,z,hu,hi,hz0,hisz,hiby,hzsz,hpos,hbpos⟩:=appInfo_ok hinfo
 have hb: ∀n rows,s.bx n=some rows→rows≠ []→BoxIs w E (E.ρ n) rows:=fun n rows h hne=>(hr.wi.boxes n rows h hne).2.1
 obtain⟨A,c,l,hS⟩:=src_ok hsrc hpos hb hy
 by_cases h0:ys= []
 ·subst h0
  have hu0:=hS.val
  simp only [List.length_nil]at hu0
  subst hu0
  obtain⟨b,hv⟩: ∃b,v= .slice b len cap:=by cases hx with|one t v hx=>cases hx<;>exact⟨_,rfl⟩
  subst hv
  refine⟨_,w,run_append_none hu hi (by simp at hroom;omega) A c w,?_,by simpa using hx⟩
  have:rows.take (i+len)++([]++rows.drop (i+len+0))=rows:=by simp
  simp only [List.length_nil]at this ⊢
  rw [this,setBx_self hn]
  exact hr
 ·have hk:0<ys.length:=List.length_pos_iff.2 h0
  obtain⟨a2,hA⟩:=hS.some h0
  subst hA
  have hu0:=hS.val
  subst hu0
  have hne:rows≠ []:=fun e=>by rw [e]at hcap;simp at hcap;omega
  obtain⟨arr,e',k1,k2⟩:=(hb n rows hn hne).rowsIs
  obtain⟨sz',k3⟩:=k2.lst
  have hsz:sz'=sz:=by
   have hi0:0<rows.length:=List.length_pos_iff.2 hne
   rw [← k3.row _ (List.getElem_mem hi0),hz _ (List.getElem_mem hi0)]
  subst hsz
  cases hx with|one t' v hx=>cases hx with
   | bz=>omega
   | ba _ _ _ _ _ h1 h2=>
    have hll:l.length=ys.length*sz':=hS.lst.len
    have hnew:Lst w E sz' (arr.toList.take ((i+len)*sz')++l++arr.toList.drop ((i+len)*sz'+l.length)) (rows.take (i+len)++(ys++rows.drop (i+len+ys.length))):=by
     rw [List.append_assoc,hll,← Nat.add_mul]
     exact(k3.take (i+len) (by omega)).append (hS.lst.append (k3.drop (i+len+ys.length)))
    have hle:(i+len)*sz'+l.length≤arr.toList.length:=by
     rw [hll,← Nat.add_mul,k3.len]
     exact Nat.mul_le_mul_right _ (by omega)
    obtain⟨w',hw1,hw2⟩:=hr.storeRow (P:=P) hn hne (sz:=sz') (off:=(i+len)*sz') (l:=arr.toList) (m':=l) hS.one (fun arr2 e2 g1 g2=>hnew) ⟨arr,e',k1,rfl⟩ hle
    refine⟨.slice (some ⟨E.ρ n,i*sz',none⟩) (len+ys.length) cap,w',?_,hw2,.one _ _ (.ba _ _ _ _ _ hroom h2)⟩
    have hf:=run_firstCells_some (P:=P) w inf.size ys.length a2 ys.length c l (by rw [hll,hisz]) (hS.cell a2 rfl)
    rw [hisz]at hf
    rw [Nat.add_mul]at hw1
    simp only [Builtin.append_,Sem.run_bind,run_underlying hu,Result.andThen_ok]
    simp [sizeOf,typeInfo,hi,run_underlying hu,Builtin.lenOf,hroom,hf,hisz,add_none,hw1]
theorem zero_lst(w:World)(E:Env)(z:Array Value)(hz: ∀(j:Nat) u,z[j]? =some u→u.oneCell'=true)(n:Nat):Lst w E z.size (Builtin.zeroCells z n).toList (List.replicate n (List.replicate z.size (.c .any))):=by
 refine⟨by simp [Builtin.zeroCells],fun r hr=>by rw [List.eq_of_mem_replicate hr];simp,fun i j r t v h1 h2 h3=>?_⟩
 have hr:=List.eq_of_mem_replicate (List.mem_of_getElem? h1)
 subst hr
 have ht:=List.eq_of_mem_replicate (List.mem_of_getElem? h2)
 subst ht
 refine .c _ _ (.any v ?_)
 have hj:j<z.size:=by simpa using (List.getElem?_eq_some_iff.1 h2).1
 have hpos:0<z.size:=by omega
 simp only [Builtin.zeroCells,Array.toList_map,List.getElem?_map]at h3
 cases hk:(Array.range (n*z.size)).toList[i*z.size+j]? with
 | none=>rw [hk]at h3;cases h3
 | some k=>
  rw [hk]at h3
  injection h3 with h3
  have hlt:k % z.size<z.size:=Nat.mod_lt _ hpos
  refine hz (k % z.size) v ?_
  rw [← h3]
  simp [hlt]
theorem appZ_one(w:World){t:TypeId}{sz by_:Nat}(hinfo:appInfo P t=some (sz,by_)): ∃e i z,P.underlying t=some (.slice e)∧P.info? e=some i∧i.zero=some z∧i.size=sz∧i.bytes=by_∧z.cells.size=sz∧0<sz∧0<by_∧
  ∀(j:Nat) u,z.cells[j]? =some u→u.oneCell'=true:=by
 unfold appInfo at hinfo
 split at hinfo
 ·rename_i e hu
  split at hinfo
  ·rename_i i z hi hz
   split at hinfo
   ·rename_i hc
    injection hinfo with h
    injection h with h1 h2
    obtain⟨i',zv,g1,g2,g3,g4⟩:=zeroC_ok hz
    rw [hi]at g1;injection g1 with g1;subst g1
    refine⟨e,i,zv,hu,hi,g2,by omega,h2,by omega,by omega,by omega,fun j u hj=>?_⟩
    have hjl:j<z.length:=by rw [← g3];exact(Array.getElem?_eq_some_iff.1 hj).1
    exact(g4 w (fun _ _=>False) j _ u (List.getElem?_eq_getElem hjl) hj).oneCell'
   ·cases hinfo
  ·cases hinfo
 ·cases hinfo
def RowsSz(sz:Nat)(rows:Rows):Prop:=∀r∈rows,r.length=sz
theorem appBa_grow{t ty:TypeId}{sz by_:Nat}(hinfo:appInfo P t=some (sz,by_)){X:Origin}{s:DS}{E:Env}{a:Act}{w:World}(hr:RelE X s E a w){n i len cap m:Nat}{rows ys:Rows}{v u:Value}{y:D}
  (hx:VD w E (.one (.ba n sz i len cap)) v) (hn:s.bx n=some rows) (hcap:i+cap≤rows.length) (hz:RowsSz sz rows) (hsrc:Src s.bx sz y ys) (hy:VD w E y u) (hroom:cap<len+ys.length) (hle:len≤cap)
  (hb:(len+ys.length)*by_≤140737488355328) (hm:m<s.n):
  ∃v' w' E' js,(Builtin.append_ #[t,t] ty #[v,u]).run P w= .ok v' w'∧RowsSz sz js∧RelE X (s.newMem m ((rows.drop i).take len++(ys++js))) E' a w'∧VD w' E' (.one (.ba m sz 0 (len+ys.length) (len+ys.length+js.length))) v':=by
 obtain⟨e,inf,z,hu,hi,hz0,hisz,hiby,hzsz,hpos,hbpos,hz1⟩:=appZ_one w hinfo
 have hbox: ∀n rows,s.bx n=some rows→rows≠ []→BoxIs w E (E.ρ n) rows:=fun n rows h hne=>(hr.wi.boxes n rows h hne).2.1
 obtain⟨A,c,news,hS⟩:=src_ok hsrc hpos hbox hy
 have hk:0<ys.length:=by omega
 obtain⟨a2,hA⟩:=hS.some (List.length_pos_iff.1 hk)
 subst hA
 have hu0:=hS.val
 subst hu0
 have hmax:len+ys.length≤maxLen:=by
  have:len+ys.length≤(len+ys.length)*by_:=Nat.le_mul_of_pos_right _ hbpos
  unfold maxLen;omega
 have hsm:len+ys.length≤9223372036854775807:=by unfold maxLen at hmax;omega
 have hnl:news.length=ys.length*sz:=hS.lst.len
 -- what was there
 have hold: ∃olds:List Value,((∃b,v= .slice (some b) len cap∧∀(j:Nat) u,olds[j]? =some u→w.cell? (b.add j)=some u)∨(v= .slice none 0 0∧len=0∧cap=0))∧Lst w E sz olds ((rows.drop i).take len):=by
  have nil_:len=0→Lst w E sz [] ((rows.drop i).take len):=fun h0=>by
   subst h0
   exact⟨by simp,fun r hr=>(by simp at hr),fun i j r t v h1=>(by simp at h1)⟩
  cases hx with|one t' v hx=>cases hx with
   | bz _ _ _ A=>
    cases A with
    | none=>exact⟨[],.inr ⟨rfl,rfl,rfl⟩,nil_ rfl⟩
    | some b=>exact⟨[],.inl ⟨b,rfl,fun j u h=>(by simp at h)⟩,nil_ rfl⟩
   | ba _ _ _ _ _ h1 h2=>
    by_cases h0:len=0
    ·exact⟨[],.inl ⟨_,rfl,fun j u h=>(by simp at h)⟩,nil_ h0⟩
    ·have hne:rows≠ []:=fun e=>by rw [e]at hcap;simp at hcap;omega
     obtain⟨arr,e',k1,k2⟩:=(hbox n rows hn hne).rowsIs
     obtain⟨sz',k3⟩:=k2.lst
     have hsz:sz'=sz:=by
      have hi0:0<rows.length:=List.length_pos_iff.2 hne
      rw [← k3.row _ (List.getElem_mem hi0),hz _ (List.getElem_mem hi0)]
     subst hsz
     have hL:=(k3.drop i).take len (by simp;omega)
     refine⟨_,.inl ⟨_,rfl,fun j u hju=>?_⟩,hL⟩
     rw [add_none]
     rw [List.getElem?_take]at hju
     split at hju
     ·rw [List.getElem?_drop]at hju
      have hju':arr[i*sz'+j]? =some u:=by simpa using hju
      simp [World.cell?,k1,hju']
     ·cases hju
 obtain⟨olds,hv,hOl⟩:=hold
 have hlen':((rows.drop i).take len).length=len:=by simp;omega
 have hol:olds.length=len*sz:=by rw [hOl.len,hlen']
 have hrun: ∃old,(Builtin.append_ #[t,t] ty #[v,.slice (some a2) ys.length c]).run P w= .ok (.slice (some ⟨w.heap.size,0,none⟩) (len+ys.length) (grownCap w (len+ys.length) old e))
   (w.drew.alloc (.cells (olds.toArray++news.toArray++Builtin.zeroCells z.cells (grownCap w (len+ys.length) old e - (len+ys.length))) e)):=by
  rcases hv with⟨b,rfl,hcell⟩|⟨rfl,rfl,rfl⟩
  ·exact⟨cap,run_append_grow (P:=P) w t ty e inf z hu hi hz0 b len cap olds (by rw [hol,hisz]) hcell a2 ys.length c news (by rw [hnl,hisz]) (hS.cell a2 rfl) hroom (by omega) (by rw [hiby];exact growslice_fits hroom hb)⟩
  ·have ho:olds= []:=by rw [Nat.zero_mul]at hol;exact List.length_eq_zero_iff.1 hol
   subst ho
   refine⟨0,?_⟩
   have:=run_append_nil (P:=P) w t ty e inf z hu hi hz0 a2 ys.length c news (by rw [hnl,hisz]) (hS.cell a2 rfl) hk (by simp only [Nat.zero_add]at hsm;omega) (by rw [hiby];simp only [Nat.zero_add]at hb;omega)
   simpa using this
 obtain⟨old,hrun⟩:=hrun
 have hge:=grownCap_ge w (len+ys.length) old e
 have hcm:=grownCap_le_maxLen w (len+ys.length) old e hmax
 generalize grownCap w (len+ys.length) old e=cap' at hrun hge hcm
 have q0:Quiet w E w.drew E:=⟨(Below.refl _ _).drew,fun _ _ h=>h,fun _ _ _ h=>h,hr.wi.kok.move (fun _ _ _=>rfl) (hr.wi.kok.z.below ((Below.refl _ _).drew)),rfl,rfl⟩
 have hq:=hr.quiet q0
 have hlat:=q0.later hr.wi.kok
 have hZ:=zero_lst w.drew E z.cells hz1 (cap' - (len+ys.length))
 rw [hzsz]at hZ
 have hall:RowsIs w.drew E (olds.toArray++news.toArray++Builtin.zeroCells z.cells (cap' - (len+ys.length))) ((rows.drop i).take len++(ys++List.replicate (cap' - (len+ys.length)) (List.replicate sz (.c .any)))):=by
  refine Lst.rowsIs (sz:=sz) ?_
  have:=(hOl.mono hlat).append ((hS.lst.mono hlat).append hZ)
  simpa [List.append_assoc]using this
 have h2:=hq.newMem m hm _ e _ hall
 refine⟨_,_,_,List.replicate (cap' - (len+ys.length)) (List.replicate sz (.c .any)),hrun,fun r hr'=>by rw [List.eq_of_mem_replicate hr'];simp,h2,.one _ _ ?_⟩
 have hc2:len+ys.length+(List.replicate (cap' - (len+ys.length)) (List.replicate sz (T.c C.any))).length=cap':=by simp;omega
 rw [hc2]
 have:=VT.ba (w:=w.drew.alloc (.cells (olds.toArray++news.toArray++Builtin.zeroCells z.cells (cap' - (len+ys.length))) e)) (E:=E.setρ m w.drew.heap.size) m sz 0 (len+ys.length) cap' hge hcm
 simp only [Env.setρ,if_true,Nat.zero_mul]at this
 exact this
end
end Go.Dl
/- The logic of data: append that goes on by a name of one's own; copy; clear; memory given up for good. -/
namespace Go.Dl
open Go.RowKit
theorem RelE.less{X:Origin}{s s':DS}{E:Env}{a:Act}{w:World}(h:RelE X s E a w)(hp:s'.pl=s.pl)(hn:s'.n=s.n)(hsl: ∀t,s'.sl t=s.sl t)(hb: ∀k r,s'.bx k=some r→s.bx k=some r):RelE X s' E a w:=
 ⟨⟨h.wi.turn,h.wi.sep,h.wi.kin,h.wi.kold,h.wi.kok,fun k us hk hne=>h.wi.boxes k us (hb k us hk) hne,fun k j rk rj hk h2 hj h3 hne=>h.wi.boxne k j rk rj (hb _ _ hk) h2 (hb _ _ hj) h3 hne,h.wi.free,h.wi.disj,
  fun k j b o rj hs hj h3=>h.wi.sbox k j b o rj hs (hb _ _ hj) h3,h.wi.fix⟩,fun t=>by rw [hsl];exact h.sl t,h.size.trans hn.symm,h.defers,by rw [hn];exact h.small,by rw [hp];exact h.pl⟩
theorem RelE.tr{X:Origin}{s:DS}{E:Env}{a:Act}{w:World}(h:RelE X s E a w){r:Ren}(hR:Renames r E E):RelE X (s.tr r) E a w:=by
 refine⟨⟨h.wi.turn,h.wi.sep,h.wi.kin,h.wi.kold,h.wi.kok,fun k us hk hne=>?_,fun k j rk rj hk h2 hj h3 hne=>?_,h.wi.free,h.wi.disj,fun k j b o rj hs hj h3=>?_,h.wi.fix⟩,fun t=>(h.sl t).tr hR,h.size,h.defers,h.small,h.pl⟩
 ·obtain⟨r',e1,rfl⟩:=map_tr_some hk
  obtain⟨g1,g2,g3⟩:=h.wi.boxes k r' e1 (Rows.tr_ne hne)
  exact⟨g1,g2.tr hR,g3⟩
 ·obtain⟨r1,e1,rfl⟩:=map_tr_some hk
  obtain⟨r2,e2,rfl⟩:=map_tr_some hj
  exact h.wi.boxne k j r1 r2 e1 (Rows.tr_ne h2) e2 (Rows.tr_ne h3) hne
 ·obtain⟨r2,e2,rfl⟩:=map_tr_some hj
  exact h.wi.sbox k j b o r2 hs e2 (Rows.tr_ne h3)
theorem renames_fgts_self(E:Env)(ms:List Nat):Renames (fgts ms) E E:=
 ⟨rfl,fun n k h=>by injection h with h;rw [h],fun n k h=>by
  simp only [fgts]at h
  split at h
  ·cases h
  ·injection h with h;rw [h]⟩
theorem fgt_andThen(n m:Nat):(fgt m).andThen (fgts [n,m])=fgts [n,m]:=by
 unfold Ren.andThen fgt fgts
 congr 1
 funext k
 by_cases h:k=m
 ·simp [h]
 ·simp [h]
section
variable {P : Program}
theorem appBa_lin{t ty:TypeId}{sz by_:Nat}(hinfo:appInfo P t=some (sz,by_)){X:Origin}{s:DS}{E:Env}{a:Act}{w:World}(hr:RelE X s E a w){n len cap m:Nat}{rows ys:Rows}{v u:Value}{y:D}
  (hx:VD w E (.one (.ba n sz 0 len cap)) v) (hn:s.bx n=some rows) (hcap:rows.length=cap) (hz:RowsSz sz rows) (hsrc:Src s.bx sz y ys) (hy:VD w E y u) (hle:len≤cap)
  (hb:(len+ys.length)*by_≤140737488355328) (hm:m<s.n):
  ∃v' w' js,(Builtin.append_ #[t,t] ty #[v,u]).run P w= .ok v' w'∧RowsSz sz js∧Rel X ((s.moveMem n m (rows.take len++(ys++js))).put (some m) (.one (.ba m sz 0 (len+ys.length) (len+ys.length+js.length)))) (a.put (some m) v') w':=by
 have hdst: ∀d,(some m:Option Nat)=some d→d<s.n:=fun d hd=>by injection hd with hd;omega
 by_cases hroom:len+ys.length≤cap
 ·obtain⟨v',w',h1,h2,h3⟩:=appBa_room (ty:=ty) hinfo hr hx hn (by omega) hz hsrc hy hroom
  simp only [Nat.zero_add]at h2
  have h4:=h2.moveMem (n:=n) (m:=m) (rows:=rows.take len++(ys++rows.drop (len+ys.length))) (by simp [DS.setBx]) hm
  have he:(s.setBx n (some (rows.take len++(ys++rows.drop (len+ys.length))))).moveMem n m (rows.take len++(ys++rows.drop (len+ys.length)))=s.moveMem n m (rows.take len++(ys++rows.drop (len+ys.length))):=by
   simp only [DS.moveMem,DS.setBx,DS.tr]
   congr 1
   funext k
   by_cases hk:k=m
   ·simp [hk]
   ·by_cases hk2:k=n
    ·simp [hk,hk2]
    ·simp [hk,hk2]
  rw [he]at h4
  refine⟨v',w',rows.drop (len+ys.length),h1,fun r hr'=>hz r (List.mem_of_mem_drop hr'),_,h4.putOnly (fun d hd=>hdst d hd) ?_⟩
  have hc2:len+ys.length+(rows.drop (len+ys.length)).length=cap:=by simp;omega
  rw [hc2]
  have:=VD.tr (E:=E) (E':=E.setρ m (E.ρ n)) (r:=⟨fun _=>none,fun k=>if k=n then some m else none⟩) ⟨rfl,fun _ _ h=>(by cases h),fun k j h=>by
   simp only at h
   split at h
   ·rename_i hk;injection h with h;subst h;simp [Env.setρ,hk]
   ·cases h⟩ h3
  simp only [D.tr,T.tr,T.baTo,if_true]at this
  exact this
 ·obtain⟨v',w',E',js,h1,h2,h3,h4⟩:=appBa_grow (ty:=ty) hinfo hr hx hn (by omega) hz hsrc hy (by omega) hle hb hm
  simp only [List.drop_zero]at h3
  refine⟨v',w',js,h1,h2,E',?_⟩
  have h5:=h3.tr (renames_fgts_self E' [n,m])
  have h6:RelE X (s.moveMem n m (rows.take len++(ys++js))) E' a w':=by
   refine h5.less rfl rfl (fun t=>?_) (fun k r hk=>?_)
   ·simp only [DS.moveMem,DS.setBx,DS.tr,DS.newMem,D.tr_tr,fgt_andThen]
   ·rcases moveMem_some hk with⟨rfl,rfl⟩|⟨hkm,hkn,r',g1,rfl⟩
    ·simp only [DS.tr,DS.newMem,DS.setBx,if_true,Option.map_some,Rows.tr_tr,fgt_andThen]
    ·simp only [DS.tr,DS.newMem,DS.setBx,if_neg hkm,g1,Option.map_some,Rows.tr_tr,fgt_andThen]
  exact h6.putOnly (fun d hd=>hdst d hd) h4
theorem copyBa{t t2 ty:TypeId}{sz:Nat}(he:Program.elemSz P t=some sz){X:Origin}{s:DS}{E:Env}{a:Act}{w:World}(hr:RelE X s E a w){n i len cap:Nat}{rows ys:Rows}{v u:Value}{y:D}
  (hx:VD w E (.one (.ba n sz i len cap)) v) (hn:s.bx n=some rows) (hcap:i+len≤rows.length) (hz:RowsSz sz rows) (hsrc:Src s.bx sz y ys) (hy:VD w E y u):
  ∃w',(Builtin.copy_ #[t,t2] ty #[v,u]).run P w= .ok (.int .i64 (ys.take len).length) w'∧RelE X (s.setBx n (some (rows.take i++(ys.take len++rows.drop (i+(ys.take len).length))))) E a w':=by
 obtain⟨e,inf,hu,hi,hisz,hpos⟩:=elemSz_ok he
 have hb: ∀n rows,s.bx n=some rows→rows≠ []→BoxIs w E (E.ρ n) rows:=fun n rows h hne=>(hr.wi.boxes n rows h hne).2.1
 obtain⟨A,c,l,hS⟩:=src_ok hsrc hpos hb hy
 have hu0:=hS.val
 subst hu0
 have hk:(ys.take len).length=min ys.length len:=by simp [Nat.min_comm]
 have hmin:Nat.min ys.length len=min ys.length len:=rfl
 obtain⟨b,hv⟩: ∃b,v= .slice b len cap:=by cases hx with|one t v hx=>cases hx<;>exact⟨_,rfl⟩
 have hself:(ys.take len).length=0→rows.take i++(ys.take len++rows.drop (i+(ys.take len).length))=rows:=fun h0=>by
  have h1:ys.take len= []:=List.length_eq_zero_iff.1 h0
  rw [h1];simp
 by_cases h0:(ys.take len).length=0
 ·refine⟨w,?_,by rw [hself h0,setBx_self hn];exact hr⟩
  subst hv
  have hm0:min ys.length len=0:=by omega
  rw [h0]
  cases b<;>cases A<;>simp [Builtin.copy_,run_underlying hu,Builtin.lenOf,Builtin.firstCells,sizeOf,typeInfo,hi,loadCells,loadCellsFrom,storeCells,hm0,hmin,goInt]
 ·have hys:ys≠ []:=fun e=>h0 (by rw [e];simp)
  obtain⟨a2,hA⟩:=hS.some hys
  subst hA
  have hne:rows≠ []:=fun e=>by rw [e]at hcap;simp at hcap;omega
  obtain⟨arr,e',k1,k2⟩:=(hb n rows hn hne).rowsIs
  obtain⟨sz',k3⟩:=k2.lst
  have hsz:sz'=sz:=by
   have hi0:0<rows.length:=List.length_pos_iff.2 hne
   rw [← k3.row _ (List.getElem_mem hi0),hz _ (List.getElem_mem hi0)]
  subst hsz
  subst hv
  cases hx with|one t' v hx=>cases hx with
   | bz=>simp at h0
   | ba _ _ _ _ _ h1 h2=>
    have hL:=hS.lst.take (min ys.length len) (Nat.min_le_left _ _)
    have hte:ys.take (min ys.length len)=ys.take len:=by
     rw [Nat.min_comm,List.take_eq_take_min (i:=len)]
    rw [hte]at hL
    have hll:(l.take (min ys.length len*sz')).length=(ys.take len).length*sz':=hL.len
    have hnew:Lst w E sz' (arr.toList.take (i*sz')++l.take (min ys.length len*sz')++arr.toList.drop (i*sz'+(l.take (min ys.length len*sz')).length)) (rows.take i++(ys.take len++rows.drop (i+(ys.take len).length))):=by
     rw [List.append_assoc,hll,← Nat.add_mul]
     exact(k3.take i (by omega)).append (hL.append (k3.drop (i+(ys.take len).length)))
    have hle:i*sz'+(l.take (min ys.length len*sz')).length≤arr.toList.length:=by
     rw [hll,← Nat.add_mul,k3.len]
     exact Nat.mul_le_mul_right _ (by omega)
    obtain⟨w',hw1,hw2⟩:=hr.storeRow (P:=P) hn hne (sz:=sz') (off:=i*sz') (l:=arr.toList) (m':=l.take (min ys.length len*sz')) (fun u hu=>hS.one u (List.mem_of_mem_take hu)) (fun arr2 e2 g1 g2=>hnew) ⟨arr,e',k1,rfl⟩ hle
    refine⟨w',?_,hw2⟩
    have hf:=run_firstCells_some (P:=P) w inf.size (min ys.length len) a2 ys.length c (l.take (min ys.length len*sz')) (by rw [hll,hisz,hk]) (fun j u hju=>by
     rw [List.getElem?_take]at hju
     split at hju
     ·exact hS.cell a2 rfl j u hju
     ·cases hju)
    rw [hisz]at hf
    rw [hk]
    simp [Builtin.copy_,run_underlying hu,Builtin.lenOf,sizeOf,typeInfo,hi,hisz,hmin,hf,hw1,goInt]
end
end Go.Dl
/- The logic of data: clear; memory given up for good, readable from then on. -/
namespace Go.Dl
open Go.RowKit
section
variable {P : Program}
def anyRows(n sz:Nat):Rows:=List.replicate n (List.replicate sz (.c .any))
theorem clearBa{t ty:TypeId}{sz by_:Nat}(hinfo:appInfo P t=some (sz,by_)){X:Origin}{s:DS}{E:Env}{a:Act}{w:World}(hr:RelE X s E a w){n i len cap:Nat}{rows:Rows}{v:Value}
  (hx:VD w E (.one (.ba n sz i len cap)) v) (hn:s.bx n=some rows) (hcap:i+len≤rows.length) (hz:RowsSz sz rows):
  ∃w',(Builtin.clear_ #[t] ty #[v]).run P w= .ok (.tuple #[]) w'∧RelE X (s.setBx n (some (rows.take i++(anyRows len sz++rows.drop (i+len))))) E a w':=by
 obtain⟨e,inf,z,hu,hi,hz0,hisz,hiby,hzsz,hpos,hbpos,hz1⟩:=appZ_one w hinfo
 by_cases h0:len=0
 ·subst h0
  have hself:rows.take i++(anyRows 0 sz++rows.drop (i+0))=rows:=by simp [anyRows]
  refine⟨w,?_,by rw [hself,setBx_self hn];exact hr⟩
  obtain⟨b,c,hv⟩: ∃b c,v= .slice b 0 c:=by cases hx with|one t v hx=>cases hx<;>exact⟨_,_,rfl⟩
  subst hv
  cases b<;>simp [Builtin.clear_,run_underlying hu]
 ·have hne:rows≠ []:=fun e=>by rw [e]at hcap;simp at hcap;omega
  obtain⟨arr,e',k1,k2⟩:=(hr.wi.boxes n rows hn hne).2.1.rowsIs
  obtain⟨sz',k3⟩:=k2.lst
  have hsz:sz'=sz:=by
   have hi0:0<rows.length:=List.length_pos_iff.2 hne
   rw [← k3.row _ (List.getElem_mem hi0),hz _ (List.getElem_mem hi0)]
  subst hsz
  cases hx with|one t' v hx=>cases hx with
   | bz=>omega
   | ba _ _ _ _ _ h1 h2=>
    have hL:=zero_lst w E z.cells hz1 len
    rw [hzsz]at hL
    have hll:(Builtin.zeroCells z.cells len).toList.length=len*sz':=by rw [hL.len];simp
    have hnew:Lst w E sz' (arr.toList.take (i*sz')++(Builtin.zeroCells z.cells len).toList++arr.toList.drop (i*sz'+(Builtin.zeroCells z.cells len).toList.length)) (rows.take i++(anyRows len sz'++rows.drop (i+len))):=by
     rw [List.append_assoc,hll,← Nat.add_mul]
     exact(k3.take i (by omega)).append (hL.append (k3.drop (i+len)))
    have hle:i*sz'+(Builtin.zeroCells z.cells len).toList.length≤arr.toList.length:=by
     rw [hll,← Nat.add_mul,k3.len]
     exact Nat.mul_le_mul_right _ hcap
    obtain⟨w',hw1,hw2⟩:=hr.storeRow (P:=P) hn hne (sz:=sz') (off:=i*sz') (l:=arr.toList) (m':=(Builtin.zeroCells z.cells len).toList) (box_one hL hpos) (fun arr2 e2 g1 g2=>hnew) ⟨arr,e',k1,rfl⟩ hle
    refine⟨w',?_,hw2⟩
    have hzr:(zeroValue e).run P w= .ok z w:=by simp [zeroValue,typeInfo,hi,hz0]
    obtain⟨k,rfl⟩: ∃k,len=k+1:=⟨len - 1,by omega⟩
    simp [Builtin.clear_,run_underlying hu,hzr,hw1]
end
/-! ### Given up for good -/
def fnTT(f:FuncId)(ts:List T):T:=
 match ts.mapM T.asC with
 | some cs=>.c (.fn f cs)
 | none=>.fv f ts
theorem fnTT_ok{w:World}{E:Env}{f:FuncId}{ts:List T}{vs:Array Value}(hl:vs.size=ts.length)(hr: ∀(j:Nat) t v,ts[j]? =some t→vs[j]? =some v→VT w E t v):VT w E (fnTT f ts) (.func (.func f) #[] vs):=by
 unfold fnTT
 split
 ·rename_i cs hcs
  have:=asC_ok hcs
  subst this
  refine .c _ _ (.fn f cs vs (by simpa using hl) fun j c v h1 h2=>?_)
  have:=hr j (.c c) v (by simp [h1]) h2
  cases this;assumption
 ·exact .fv f ts vs hl hr
def frzBx(sz:Nat)(cs:List (List C))(z i o:Nat):T:=
 if z=sz then match cs[i]? with
  | some r=>.c (.pt (r.drop o))
  | none=>.c .any
 else .c .any
mutual
def T.frz(n sz:Nat)(cs:List (List C)):T→T
 | .own k z xs=>.own k z xs
 | .bx k z i o=>if k=n then frzBx sz cs z i o else .bx k z i o
 | .ba k z i len cap=>if k=n then(if z=sz∧i+len≤cs.length then .c (.sl sz ((cs.drop i).take len))else .c .any)else .ba k z i len cap
 | .fv f caps=>fnTT f (T.frzAll n sz cs caps)
 | .c x=>.c x
 | .ex z xs=>.ex z xs
def T.frzAll(n sz:Nat)(cs:List (List C)):List T→List T
 | []=> []
 | t::l=>t.frz n sz cs::T.frzAll n sz cs l
end
theorem T.frzAll_eq(n sz:Nat)(cs:List (List C))(l:List T):T.frzAll n sz cs l=l.map (T.frz n sz cs):=by
 induction l with
 | nil=>simp [T.frzAll]
 | cons t l ih=>simp [T.frzAll,ih]
mutual
def D.frz(n sz:Nat)(cs:List (List C)):D→D
 | .one t=>.one (t.frz n sz cs)
 | .any=>.any
 | .agg ts=>.agg (T.frzAll n sz cs ts)
 | .tup ds=>.tup (D.frzAll n sz cs ds)
def D.frzAll(n sz:Nat)(cs:List (List C)):List D→List D
 | []=> []
 | t::l=>t.frz n sz cs::D.frzAll n sz cs l
end
theorem D.frzAll_eq(n sz:Nat)(cs:List (List C))(l:List D):D.frzAll n sz cs l=l.map (D.frz n sz cs):=by
 induction l with
 | nil=>simp [D.frzAll]
 | cons t l ih=>simp [D.frzAll,ih]
structure Frozen(w:World)(E E':Env)(n sz:Nat)(cs:List (List C)):Prop where
 later:Later w E w E'
 row: ∀r∈cs,r.length=sz
 is: ∀(i j:Nat) r c,cs[i]? =some r→r[j]? =some c→∃v,E'.K (E.ρ n) (i*sz+j)∧w.cell? ⟨E.ρ n,i*sz+j,none⟩=some v∧VC w E'.K c v
theorem VT.frz{w:World}{E E':Env}{n sz:Nat}{cs:List (List C)}(hF:Frozen w E E' n sz cs)(hpos:0<sz){t:T}{v:Value}(h:VT w E t v):VT w E' (t.frz n sz cs) v:=by
 induction h with
 | c c v hv=>simp only [T.frz];exact VT.mono hF.later (.c c v hv)
 | own k z xs v hv hn ht=>simp only [T.frz];exact VT.mono hF.later (.own k z xs v hv hn ht)
 | ex z xs v hv hx=>simp only [T.frz];exact VT.mono hF.later (.ex z xs v hv hx)
 | bx k z i o=>
  simp only [T.frz]
  split
  ·rename_i hk
   subst hk
   unfold frzBx
   split
   ·rename_i hz
    subst hz
    split
    ·rename_i r hr
     refine .c _ _ (.pt (r.drop o) (E.ρ k) (i*z+o) (fun j=>(w.cell? ⟨E.ρ k,i*z+o+j,none⟩).getD undef) (fun j hj=>?_) (fun j c hc=>?_))
     ·obtain⟨u,g1,g2,g3⟩:=hF.is i (o+j) r _ hr (List.getElem?_eq_getElem (by simp at hj;omega))
      rw [← Nat.add_assoc]at g1 g2
      exact⟨g1,by simp only [g2,Option.getD_some]⟩
     ·rw [List.getElem?_drop]at hc
      obtain⟨u,g1,g2,g3⟩:=hF.is i (o+j) r c hr hc
      rw [← Nat.add_assoc]at g2
      simp only [g2,Option.getD_some]
      exact g3
    ·exact .c _ _ (.any _ rfl)
   ·exact .c _ _ (.any _ rfl)
  ·exact VT.mono hF.later (.bx k z i o)
 | bz k z i A=>
  simp only [T.frz]
  split
  ·split
   ·simp only [List.take_zero]
    cases A with
    | none=>exact .c _ _ (.nil sz)
    | some a=>exact .c _ _ (.sl sz [] a 0 (fun _=>undef) (fun r hr=>by simp at hr) (Nat.le_refl _) (Nat.zero_le _) (fun j hj=>by simp at hj) (fun i j r c h1=>by simp at h1))
   ·exact .c _ _ (.any _ rfl)
  ·exact VT.mono hF.later (.bz k z i A)
 | ba k z i len cap h1 h2=>
  simp only [T.frz]
  split
  ·rename_i hk
   subst hk
   split
   ·rename_i hc
    obtain⟨rfl,hc⟩:=hc
    have hlen:((cs.drop i).take len).length=len:=by simp;omega
    have key:=VC.sl (w:=w) (K:=E'.K) z ((cs.drop i).take len) ⟨E.ρ k,i*z,none⟩ cap (fun j=>(w.cell? ⟨E.ρ k,i*z+j,none⟩).getD undef)
     (fun r hr=>hF.row r (List.mem_of_mem_drop (List.mem_of_mem_take hr))) (by omega) h2 (fun j hj=>?_) (fun i' j r c e1 e2=>?_)
    ·rw [hlen]at key
     exact .c _ _ key
    ·rw [hlen]at hj
     have hi':j / z<len:=(Nat.div_lt_iff_lt_mul hpos).2 hj
     have hrow:cs[i+j / z]? =some (cs[i+j / z]'(by omega)):=List.getElem?_eq_getElem (by omega)
     have hjl:j % z<(cs[i+j / z]'(by omega)).length:=by rw [hF.row _ (List.getElem_mem _)];exact Nat.mod_lt _ hpos
     obtain⟨u,g1,g2,g3⟩:=hF.is (i+j / z) (j % z) _ _ hrow (List.getElem?_eq_getElem hjl)
     have he:(i+j / z)*z+j % z=i*z+j:=by
      rw [Nat.add_mul,Nat.add_assoc,Nat.mul_comm (j / z),Nat.div_add_mod]
     rw [he]at g1 g2
     exact⟨rfl,g1,by simp only [g2,Option.getD_some]⟩
    ·rw [List.getElem?_take]at e1
     split at e1
     ·rw [List.getElem?_drop]at e1
      obtain⟨u,g1,g2,g3⟩:=hF.is (i+i') j r c e1 e2
      have he:(i+i')*z+j=i*z+(i'*z+j):=by rw [Nat.add_mul,Nat.add_assoc]
      rw [he]at g2
      simp only [g2,Option.getD_some]
      exact g3
     ·cases e1
   ·exact .c _ _ (.any _ rfl)
  ·exact VT.mono hF.later (.ba k z i len cap h1 h2)
 | fv f caps vs hl hr ih=>
  simp only [T.frz,T.frzAll_eq]
  refine fnTT_ok (by simpa using hl) fun j t v h1 h2=>?_
  rw [List.getElem?_map]at h1
  cases hc:caps[j]? with
  | none=>rw [hc]at h1;cases h1
  | some t'=>rw [hc]at h1;cases h1;exact ih j t' v hc h2
theorem VD.frz{w:World}{E E':Env}{n sz:Nat}{cs:List (List C)}(hF:Frozen w E E' n sz cs)(hpos:0<sz){d:D}{v:Value}(h:VD w E d v):VD w E' (d.frz n sz cs) v:=by
 induction h with
 | any v=>simp only [D.frz];exact .any v
 | one t v hv=>simp only [D.frz];exact .one _ v (hv.frz hF hpos)
 | agg ts vs hl hr=>
  simp only [D.frz,T.frzAll_eq]
  refine .agg _ vs (by simpa using hl) fun j t v h1 h2=>?_
  rw [List.getElem?_map]at h1
  cases hc:ts[j]? with
  | none=>rw [hc]at h1;cases h1
  | some t'=>rw [hc]at h1;cases h1;exact(hr j t' v hc h2).frz hF hpos
 | tup ds vs hl hr ih=>
  simp only [D.frz,D.frzAll_eq]
  refine .tup _ vs (by simpa using hl) fun j t v h1 h2=>?_
  rw [List.getElem?_map]at h1
  cases hc:ds[j]? with
  | none=>rw [hc]at h1;cases h1
  | some t'=>rw [hc]at h1;cases h1;exact ih j t' v hc h2
def DS.frz(s:DS)(n sz:Nat)(cs:List (List C)):DS:={ s with sl:=fun t=>(s.sl t).frz n sz cs,bx:=fun k=>if k=n then none else(s.bx k).map (List.map (T.frzAll n sz cs)) }
theorem frz_some{s:DS}{n sz:Nat}{cs:List (List C)}{k:Nat}{r:Rows}(h:(s.frz n sz cs).bx k=some r):k≠n∧∃r',s.bx k=some r'∧r=r'.map (T.frzAll n sz cs):=by
 simp only [DS.frz]at h
 split at h
 ·cases h
 ·rename_i hk
  simp only [Option.map_eq_some_iff]at h
  obtain⟨r',h1,h2⟩:=h
  exact⟨hk,r',h1,h2.symm⟩
theorem map_ne{f:List T→List T}{rows:Rows}(h:rows.map f≠ []):rows≠ []:=fun e=>h (by rw [e];rfl)
theorem RelE.frz{X:Origin}{s:DS}{E:Env}{a:Act}{w:World}(h:RelE X s E a w){n sz:Nat}(hpos:0<sz){cs:List (List C)}{js:Rows}(hn:s.bx n=some (cs.map (List.map T.c)++js))(hz: ∀r∈cs,r.length=sz):Rel X (s.frz n sz cs) a w:=by
 by_cases h0:cs= []
 ·subst h0
  have hF:Frozen w E E n sz []:=⟨⟨fun b o hb=>⟨hb,rfl⟩,rfl,rfl⟩,fun r hr=>by simp at hr,fun i j r c h1=>by simp at h1⟩
  refine⟨E,⟨⟨h.wi.turn,h.wi.sep,h.wi.kin,h.wi.kold,h.wi.kok,fun k us hk hne=>?_,fun k j rk rj hk h2 hj h3 hne=>?_,h.wi.free,h.wi.disj,fun k j b o rj hs hj h3=>?_,h.wi.fix⟩,fun t=>(h.sl t).frz hF hpos,h.size,h.defers,h.small,h.pl⟩⟩
  ·obtain⟨hkn,r',e1,rfl⟩:=frz_some hk
   obtain⟨g1,⟨z,arr,e,k1,k2,k3,k4⟩,g3⟩:=h.wi.boxes k r' e1 (map_ne hne)
   refine⟨g1,⟨z,arr,e,k1,fun x hx=>?_,by simpa using k3,fun i j x t v hi ht hv=>?_⟩,g3⟩
   ·simp only [List.mem_map]at hx
    obtain⟨y,hy,rfl⟩:=hx
    rw [T.frzAll_eq,List.length_map];exact k2 y hy
   ·rw [List.getElem?_map]at hi
    cases hc:r'[i]? with
    | none=>rw [hc]at hi;cases hi
    | some y=>
     rw [hc]at hi;injection hi with hi;subst hi
     rw [T.frzAll_eq,List.getElem?_map]at ht
     cases hd:y[j]? with
     | none=>rw [hd]at ht;cases ht
     | some t'=>rw [hd]at ht;injection ht with ht;subst ht;exact(k4 i j y t' v hc hd hv).frz hF hpos
  ·obtain⟨hkn,r1,e1,rfl⟩:=frz_some hk
   obtain⟨hjn,r2,e2,rfl⟩:=frz_some hj
   exact h.wi.boxne k j r1 r2 e1 (map_ne h2) e2 (map_ne h3) hne
  ·obtain⟨hjn,r2,e2,rfl⟩:=frz_some hj
   exact h.wi.sbox k j b o r2 hs e2 (map_ne h3)
 ·have hne0:cs.map (List.map T.c)++js≠ []:=by simp [h0]
  obtain⟨y1,y2,y3⟩:=h.wi.boxes n _ hn hne0
  obtain⟨arr,e,k1,k2⟩:=y2.rowsIs
  obtain⟨sz',k3⟩:=k2.lst
  have hsz:sz'=sz:=by
   have hi0:0<cs.length:=List.length_pos_iff.2 h0
   have hm:(cs[0]'hi0).map T.c∈cs.map (List.map T.c)++js:=List.mem_append_left _ (List.mem_map.2 ⟨_,List.getElem_mem hi0,rfl⟩)
   have:=k3.row _ hm
   rw [List.length_map]at this
   rw [← this];exact hz _ (List.getElem_mem hi0)
  subst hsz
  let E':Env:={ E with K:=fun b o=>E.K b o∨(b=E.ρ n∧o<cs.length*sz') }
  have hlat:Later w E w E':=⟨fun b o hb=>⟨.inl hb,rfl⟩,rfl,rfl⟩
  have hlow:cs.length*sz'≤arr.toList.length:=by
   rw [k3.len];exact Nat.mul_le_mul_right _ (by simp)
  have hF:Frozen w E E' n sz' cs:=by
   refine⟨hlat,hz,fun i j r c e1 e2=>?_⟩
   have hi:i<cs.length:=(List.getElem?_eq_some_iff.1 e1).1
   have hj:j<sz':=by rw [← hz r (List.mem_of_getElem? e1)];exact(List.getElem?_eq_some_iff.1 e2).1
   have hlt:=idx_lt hi hj (sz:=sz')
   have hal:i*sz'+j<arr.size:=by have:arr.toList.length=arr.size:=Array.length_toList;omega
   have hv:=k3.is i j (r.map T.c) (.c c) arr[i*sz'+j] (by rw [List.getElem?_append_left (by simpa using hi)];simp [e1]) (by simp [e2]) (by simp [hal])
   cases hv with
   | c c v hv=>exact⟨_,.inr ⟨rfl,hlt⟩,by simp [World.cell?,k1,hal],hv.mono hlat.keep⟩
  refine⟨E',⟨⟨h.wi.turn,h.wi.sep,fun b o hb=>.inl (h.wi.kin b o hb),fun b o hlt hF' hk=>?_,h.wi.kok.wide hlat.keep (fun b o hk=>?_) h.wi.kok.z,fun k us hk hne=>?_,fun k j rk rj hk h2 hj h3 hne=>?_,fun k b o hs=>?_,h.wi.disj,fun k j b o rj hs hj h3=>?_,h.wi.fix⟩,fun t=>(h.sl t).frz hF hpos,h.size,h.defers,h.small,h.pl⟩⟩
  ·rcases hk with hk|⟨rfl,_⟩
   ·exact h.wi.kold b o hlt hF' hk
   ·rcases y1 with y1|y1
    ·omega
    ·exact absurd (y1 o) hF'
  ·rcases hk with hk|⟨rfl,hk⟩
   ·exact h.wi.kok b o hk
   ·have:o<arr.size:=by have:arr.toList.length=arr.size:=Array.length_toList;omega
    simp [World.cell?,k1,this]
  ·obtain⟨hkn,r',e1,rfl⟩:=frz_some hk
   obtain⟨g1,⟨z,arr',e',l1,l2,l3,l4⟩,g3⟩:=h.wi.boxes k r' e1 (map_ne hne)
   refine⟨g1,⟨z,arr',e',l1,fun x hx=>?_,by simpa using l3,fun i j x t v hi ht hv=>?_⟩,fun o ho=>?_⟩
   ·simp only [List.mem_map]at hx
    obtain⟨y,hy,rfl⟩:=hx
    rw [T.frzAll_eq,List.length_map];exact l2 y hy
   ·rw [List.getElem?_map]at hi
    cases hc:r'[i]? with
    | none=>rw [hc]at hi;cases hi
    | some y=>
     rw [hc]at hi;injection hi with hi;subst hi
     rw [T.frzAll_eq,List.getElem?_map]at ht
     cases hd:y[j]? with
     | none=>rw [hd]at ht;cases ht
     | some t'=>rw [hd]at ht;injection ht with ht;subst ht;exact(l4 i j y t' v hc hd hv).frz hF hpos
   ·rcases ho with ho|⟨ho,_⟩
    ·exact g3 o ho
    ·exact h.wi.boxne k n r' _ e1 (map_ne hne) hn hne0 hkn ho
  ·obtain⟨hkn,r1,e1,rfl⟩:=frz_some hk
   obtain⟨hjn,r2,e2,rfl⟩:=frz_some hj
   exact h.wi.boxne k j r1 r2 e1 (map_ne h2) e2 (map_ne h3) hne
  ·obtain⟨g1,g2,g3⟩:=h.wi.free k b o hs
   refine⟨g1,fun hk=>?_,g3⟩
   rcases hk with hk|⟨rfl,_⟩
   ·exact g2 hk
   ·exact h.wi.sbox k n _ o _ hs hn hne0 rfl
  ·obtain⟨hjn,r2,e2,rfl⟩:=frz_some hj
   exact h.wi.sbox k j b o r2 hs e2 (map_ne h3)
end Go.Dl
/- The logic of data: a call that may turn the memories that it is handed; everything else is as it was. -/
namespace Go.Dl
open Go.RowKit
noncomputable section
def mid(k:Nat):Prop:=1000≤k∧k<NB
instance (k:Nat):Decidable (mid k):=by unfold mid;infer_instance
def shf(ns:List Nat):Ren:=⟨fun n=>if n∈ns then some (n+NB)else if mid n then some n else none,fun n=>if n∈ns then some (n+NB)else if mid n then some n else none⟩
def usf(ns:List Nat)(m:Option Nat):Ren:=
 ⟨fun k=>if k=0 then m else if NB≤k∧k - NB∈ns then some (k - NB)else if mid k then some k else none,fun k=>if k=0 then m else if NB≤k∧k - NB∈ns then some (k - NB)else if mid k then some k else none⟩
def aft(ns:List Nat)(m:Option Nat):Ren:=⟨fun n=>if n∈ns∨mid n∨m=some n then none else some n,fun n=>if mid n∨m=some n then none else some n⟩
def callMem(bx:Mem)(ns:List Nat):Mem:=fun k=>if NB≤k∧k - NB∈ns then(bx (k - NB)).map (Rows.tr (shf ns))else if mid k then(bx k).map (Rows.tr (shf ns))else none
def callMemAft(bx H':Mem)(ns:List Nat)(m:Option Nat):Mem:=fun k=>
 if m=some k then(H' 0).map (Rows.tr (usf ns m))else if k∈ns then(H' (k+NB)).map (Rows.tr (usf ns m))else if mid k then(H' k).map (Rows.tr (usf ns m))else(bx k).map (Rows.tr (aft ns m))
def DS.aftCall(s:DS)(ns:List Nat)(m:Option Nat)(r:D)(H':Mem):DS:=
 ({ s with sl:=fun t=>(s.sl t).tr (aft ns m),bx:=callMemAft s.bx H' ns m }:DS).put m (r.tr (usf ns m))
def callEnv(E:Env)(ns:List Nat):Env:=⟨E.K,fun k=>if NB≤k then E.ρ (k - NB)else E.ρ k,fun k=>if NB≤k∧k - NB∈ns then E.val (k - NB)else if mid k then E.val k else(.slice none 0 0,0)⟩
def callF(bx:Mem)(E:Env)(ns:List Nat):KSet:=fun b o=>∃n,(n∈ns∨mid n)∧((∃rows,bx n=some rows∧rows≠ []∧b=E.ρ n)∨spare (E.val n) b o)
theorem renames_shf(E:Env)(ns:List Nat):Renames (shf ns) E (callEnv E ns):=by
 refine⟨rfl,fun n k h=>?_,fun n k h=>?_⟩
 ·simp only [shf]at h
  split at h
  ·rename_i hn;injection h with h;subst h
   simp [callEnv,hn]
  ·split at h
   ·rename_i hn;injection h with h;subst h
    have: ¬(NB≤n∧n - NB∈ns):=fun e=>by have:=hn.2;omega
    simp [callEnv,this,hn]
   ·cases h
 ·simp only [shf]at h
  split at h
  ·injection h with h;subst h;simp [callEnv]
  ·split at h
   ·rename_i hn;injection h with h;subst h
    have: ¬NB≤n:=fun e=>by have:=hn.2;omega
    simp [callEnv,this]
   ·cases h
def und(k:Nat):Nat:=if NB≤k then k - NB else k
theorem callMem_some{bx:Mem}{ns:List Nat}{k:Nat}{r:Rows}(h:callMem bx ns k=some r):((NB≤k∧k - NB∈ns)∨mid k)∧∃r',bx (und k)=some r'∧r=Rows.tr (shf ns) r':=by
 unfold callMem at h
 split at h
 ·rename_i hk
  simp only [Option.map_eq_some_iff]at h
  obtain⟨r',h1,h2⟩:=h
  exact⟨.inl hk,r',by simp only [und,hk.1,if_true];exact h1,h2.symm⟩
 ·split at h
  ·rename_i hk
   simp only [Option.map_eq_some_iff]at h
   obtain⟨r',h1,h2⟩:=h
   have: ¬NB≤k:=fun e=>by have:=hk.2;omega
   exact⟨.inr hk,r',by simp only [und,this,if_false];exact h1,h2.symm⟩
  ·cases h
theorem und_in{ns:List Nat}{k:Nat}(h:(NB≤k∧k - NB∈ns)∨mid k):und k∈ns∨mid (und k):=by
 rcases h with h|h
 ·exact .inl (by simp only [und,h.1,if_true];exact h.2)
 ·have: ¬NB≤k:=fun e=>by have:=h.2;omega
  exact .inr (by simp only [und,this,if_false];exact h)
theorem und_inj{ns:List Nat}(hns: ∀n∈ns,¬mid n){k j:Nat}(hk:(NB≤k∧k - NB∈ns)∨mid k)(hj:(NB≤j∧j - NB∈ns)∨mid j)(h:und k=und j):k=j:=by
 rcases hk with hk|hk<;>rcases hj with hj|hj
 ·simp only [und,hk.1,hj.1,if_true]at h;have:=hk.1;have:=hj.1;omega
 ·have h2: ¬NB≤j:=fun e=>by have:=hj.2;omega
  simp only [und,hk.1,h2,if_true,if_false]at h
  exact absurd hj (h▸hns _ hk.2)
 ·have h2: ¬NB≤k:=fun e=>by have:=hk.2;omega
  simp only [und,hj.1,h2,if_true,if_false]at h
  exact absurd hk (h▸hns _ hj.2)
 ·have h1: ¬NB≤k:=fun e=>by have:=hk.2;omega
  have h2: ¬NB≤j:=fun e=>by have:=hj.2;omega
  simp only [und,h1,h2,if_false]at h;exact h
theorem callEnv_ρ(E:Env)(ns:List Nat)(k:Nat):(callEnv E ns).ρ k=E.ρ (und k):=by
 simp only [callEnv,und];split<;>rfl
theorem wi_call{X:Origin}{w:World}{E:Env}{bx:Mem}(h:WI X w E bx)(ns:List Nat)(hns: ∀n∈ns,¬mid n):WI ⟨w,E.K,callF bx E ns,(callEnv E ns).ρ,NB,none,w.heap.size⟩ w (callEnv E ns) (callMem bx ns):=by
 have hR:=renames_shf E ns
 have hval: ∀k b o,spare ((callEnv E ns).val k) b o→((NB≤k∧k - NB∈ns)∨mid k)∧spare (E.val (und k)) b o:=fun k b o hs=>by
  simp only [callEnv]at hs
  split at hs
  ·rename_i hk;exact⟨.inl hk,by simp only [und,hk.1,if_true];exact hs⟩
  ·split at hs
   ·rename_i hk
    have: ¬NB≤k:=fun e=>by have:=hk.2;omega
    exact⟨.inr hk,by simp only [und,this,if_false];exact hs⟩
   ·obtain⟨a,len,cap,h1,_⟩:=hs;cases h1
 refine⟨Turn.refl _ _,fun b o hk hF=>?_,fun _ _ h=>h,fun _ _ _ _ h=>h,h.kok,fun k rows hk hne=>?_,fun k j rk rj hk h2 hj h3 hne=>?_,fun k b o hs=>?_,fun k j b o hs hs'=>?_,fun k j b o rj hs hj h3=>?_,fun _ _=>rfl⟩
 ·obtain⟨n,hn,⟨rows,h1,h2,rfl⟩|h1⟩:=hF
  ·exact(h.boxes n rows h1 h2).2.2 o hk
  ·exact(h.free n b o h1).2.1 hk
 ·obtain⟨g1,r',g3,rfl⟩:=callMem_some hk
  obtain⟨k1,k2,k3⟩:=h.boxes _ r' g3 (Rows.tr_ne hne)
  rw [callEnv_ρ]
  exact⟨.inr fun o=>⟨_,und_in g1,.inl ⟨r',g3,Rows.tr_ne hne,rfl⟩⟩,k2.tr hR,k3⟩
 ·obtain⟨g1,r',g3,rfl⟩:=callMem_some hk
  obtain⟨f1,r2,f3,rfl⟩:=callMem_some hj
  rw [callEnv_ρ,callEnv_ρ]
  exact h.boxne _ _ r' r2 g3 (Rows.tr_ne h2) f3 (Rows.tr_ne h3) (fun e=>hne (und_inj hns g1 f1 e))
 ·obtain⟨g1,g3⟩:=hval k b o hs
  obtain⟨k1,k2,k3⟩:=h.free _ b o g3
  exact⟨.inr ⟨_,und_in g1,.inr g3⟩,k2,k3⟩
 ·obtain⟨g1,g3⟩:=hval k b o hs
  obtain⟨f1,f3⟩:=hval j b o hs'
  exact und_inj hns g1 f1 (h.disj _ _ b o g3 f3)
 ·obtain⟨g1,g3⟩:=hval k b o hs
  obtain⟨f1,r2,f3,rfl⟩:=callMem_some hj
  rw [callEnv_ρ]
  exact h.sbox _ _ b o r2 g3 f3 (Rows.tr_ne h3)
def aftEnv(E E':Env)(ns:List Nat)(m:Option Nat):Env:=
 ⟨E'.K,fun k=>if m=some k then E'.ρ 0 else if mid k then E'.ρ k else E.ρ k,fun k=>if m=some k then E'.val 0 else if k∈ns then E'.val (k+NB)else if mid k then E'.val k else E.val k⟩
section
variable {X : Origin} {w w' : World} {E E' : Env} {bx H' : Mem} {ns : List Nat} {m : Option Nat}
theorem callF_young(h:WI X w E bx){b o:Nat}(hF:callF bx E ns b o):X.Young b o:=by
 obtain⟨n,hn,⟨rows,h1,h2,rfl⟩|h1⟩:=hF
 ·exact(h.boxes n rows h1 h2).1.imp id fun g=>g o
 ·exact(h.free n b o h1).1
theorem callF_box(h:WI X w E bx){k:Nat}{rows:Rows}(hk:bx k=some rows)(hne:rows≠ [])(hn: ¬(k∈ns∨mid k))(o:Nat): ¬callF bx E ns (E.ρ k) o:=by
 rintro⟨n,hn',⟨rows',h1,h2,h3⟩|h1⟩
 ·exact h.boxne k n rows rows' hk hne h1 h2 (fun e=>hn (e▸hn')) h3
 ·exact h.sbox n k _ o rows h1 hk hne rfl
theorem callF_spare(h:WI X w E bx){k b o:Nat}(hs:spare (E.val k) b o)(hn: ¬(k∈ns∨mid k)): ¬callF bx E ns b o:=by
 rintro⟨n,hn',⟨rows',h1,h2,h3⟩|h1⟩
 ·exact h.sbox k n b o rows' hs h1 h2 h3
 ·exact hn (h.disj k n b o hs h1▸hn')
theorem young_of(h:WI X w E bx){b:Nat}(hy:w.heap.size≤b∨∀o,callF bx E ns b o):X.young b:=by
 rcases hy with hy|hy
 ·exact .inl (Nat.le_trans h.turn.size hy)
 ·rcases Nat.lt_or_ge b X.w.heap.size with hb|hb
  ·exact .inr fun o=>(callF_young h (hy o)).resolve_left (by omega)
  ·exact .inl hb
theorem Young_of(h:WI X w E bx){b o:Nat}(hy:w.heap.size≤b∨callF bx E ns b o):X.Young b o:=by
 rcases hy with hy|hy
 ·exact .inl (Nat.le_trans h.turn.size hy)
 ·exact callF_young h hy
def Gn(ns:List Nat)(m:Option Nat)(k' k:Nat):Prop:=(k'=0∧m=some k)∨(m≠some k∧((k'=k+NB∧k∈ns)∨(k'=k∧mid k)))
theorem aft_some{k:Nat}{r:Rows}(h:callMemAft bx H' ns m k=some r):
  (∃k' r',H' k'=some r'∧r=Rows.tr (usf ns m) r'∧Gn ns m k' k)∨(m≠some k∧¬(k∈ns∨mid k)∧∃r',bx k=some r'∧r=Rows.tr (aft ns m) r'):=by
 unfold callMemAft at h
 split at h
 ·rename_i hm
  simp only [Option.map_eq_some_iff]at h
  obtain⟨r',h1,h2⟩:=h
  exact .inl ⟨0,r',h1,h2.symm,.inl ⟨rfl,hm⟩⟩
 ·rename_i hm
  split at h
  ·rename_i hn
   simp only [Option.map_eq_some_iff]at h
   obtain⟨r',h1,h2⟩:=h
   exact .inl ⟨k+NB,r',h1,h2.symm,.inr ⟨hm,.inl ⟨rfl,hn⟩⟩⟩
  ·rename_i hn
   split at h
   ·rename_i hmid
    simp only [Option.map_eq_some_iff]at h
    obtain⟨r',h1,h2⟩:=h
    exact .inl ⟨k,r',h1,h2.symm,.inr ⟨hm,.inr ⟨rfl,hmid⟩⟩⟩
   ·rename_i hmid
    simp only [Option.map_eq_some_iff]at h
    obtain⟨r',h1,h2⟩:=h
    exact .inr ⟨hm,fun e=>e.elim hn hmid,r',h1,h2.symm⟩
theorem later_call(h:WI X w E bx)(h':WI ⟨w,E.K,callF bx E ns,(callEnv E ns).ρ,NB,none,w.heap.size⟩ w' E' H'):Later w E w' ⟨E'.K,E.ρ,E.val⟩:=
 ⟨fun b o hb=>⟨h'.kin b o hb,h'.turn.cell (lt_of_cell (h.kok b o hb)) (h'.sep b o hb)⟩,rfl,rfl⟩
theorem renames_aft(E E':Env)(ns:List Nat)(m:Option Nat):Renames (aft ns m) ⟨E'.K,E.ρ,E.val⟩ (aftEnv E E' ns m):=by
 refine⟨rfl,fun n k h=>?_,fun n k h=>?_⟩
 ·simp only [aft]at h
  split at h
  ·cases h
  ·rename_i hn
   injection h with h;subst h
   have h1:n∉ns:=fun e=>hn (.inl e)
   have h3: ¬mid n:=fun e=>hn (.inr (.inl e))
   have h2: ¬m=some n:=fun e=>hn (.inr (.inr e))
   simp [aftEnv,h1,h2,h3]
 ·simp only [aft]at h
  split at h
  ·cases h
  ·rename_i hn
   injection h with h;subst h
   have h3: ¬mid n:=fun e=>hn (.inl e)
   have h2: ¬m=some n:=fun e=>hn (.inr e)
   simp [aftEnv,h2,h3]
structure CallOk(ns:List Nat)(dst:Option Nat):Prop where
 hns: ∀n∈ns,¬Go.Dl.mid n
 hm: ∀x,dst=some x→x∉ns∧x<1000
theorem CallOk.nmid(h:CallOk ns m){k:Nat}(hk:mid k): ¬m=some k:=fun e=>by
 have:=(h.hm k e).2;have:=hk.1;omega
theorem CallOk.nin(h:CallOk ns m){k:Nat}(hk:k∈ns): ¬m=some k:=fun e=>(h.hm k e).1 hk
theorem nm_of(hc:CallOk ns m)(h':WI ⟨w,E.K,callF bx E ns,(callEnv E ns).ρ,NB,none,w.heap.size⟩ w' E' H'){k' k:Nat}(g:Gn ns m k' k):(aftEnv E E' ns m).ρ k=E'.ρ k'∧(aftEnv E E' ns m).val k=E'.val k':=by
 rcases g with⟨rfl,h1⟩|⟨h0,⟨rfl,h1⟩|⟨rfl,h1⟩⟩
 ·simp [aftEnv,h1]
 ·have hf:=h'.fix (k+NB) (by simp)
  simp only [callEnv,Nat.add_sub_cancel,Nat.le_add_left,if_true]at hf
  simp [aftEnv,h0,h1,hf,hc.hns k h1]
 ·have:k'∉ns:=fun e=>hc.hns k' e h1
  simp [aftEnv,h0,h1,this]
theorem nmU_of(hc:CallOk ns m){k:Nat}(h1:m≠some k)(h2: ¬(k∈ns∨mid k)):(aftEnv E E' ns m).ρ k=E.ρ k∧(aftEnv E E' ns m).val k=E.val k:=by
 have g1:k∉ns:=fun e=>h2 (.inl e)
 have g2: ¬mid k:=fun e=>h2 (.inr e)
 simp [aftEnv,h1,g1,g2]
theorem nmI_of(hc:CallOk ns m){k' k j' j:Nat}(g:Gn ns m k' k)(f:Gn ns m j' j):k'=j'↔k=j:=by
 have hNB:=NB_big
 rcases g with⟨rfl,h1⟩|⟨h0,⟨rfl,h1⟩|⟨rfl,h1⟩⟩<;>rcases f with⟨rfl,h2⟩|⟨h3,⟨rfl,h2⟩|⟨rfl,h2⟩⟩
 ·rw [h1]at h2;injection h2 with h2;simp [h2]
 ·exact⟨fun e=>by omega,fun e=>absurd (e▸h1) h3⟩
 ·exact⟨fun e=>by have:=h2.1;omega,fun e=>absurd (e▸h1) h3⟩
 ·exact⟨fun e=>by omega,fun e=>absurd (e▸h2) h0⟩
 ·exact⟨fun e=>by omega,fun e=>by omega⟩
 ·exact⟨fun e=>by have:=h2.2;omega,fun e=>absurd (e▸h2) (hc.hns _ h1)⟩
 ·exact⟨fun e=>by have:=h1.1;omega,fun e=>absurd (e▸h2) h0⟩
 ·exact⟨fun e=>by have:=h1.2;omega,fun e=>absurd (e▸h1) (hc.hns _ h2)⟩
 ·exact Iff.rfl
theorem renames_usf(hc:CallOk ns m)(h':WI ⟨w,E.K,callF bx E ns,(callEnv E ns).ρ,NB,none,w.heap.size⟩ w' E' H'):Renames (usf ns m) E' (aftEnv E E' ns m):=by
 have key: ∀n k,(if n=0 then m else if NB≤n∧n - NB∈ns then some (n - NB)else if mid n then some n else none)=some k→Gn ns m n k:=by
  intro n k h
  split at h
  ·rename_i hk;exact .inl ⟨hk,h⟩
  ·split at h
   ·rename_i hk hk2
    injection h with h;subst h
    exact .inr ⟨hc.nin hk2.2,.inl ⟨by omega,hk2.2⟩⟩
   ·split at h
    ·rename_i hk hk2 hk3
     injection h with h;subst h
     exact .inr ⟨hc.nmid hk3,.inr ⟨rfl,hk3⟩⟩
    ·cases h
 exact⟨rfl,fun n k h=>(nm_of hc h' (key n k h)).2,fun n k h=>(nm_of hc h' (key n k h)).1⟩
theorem wi_aft(h:WI X w E bx)(hB:NB≤X.B)(h':WI ⟨w,E.K,callF bx E ns,(callEnv E ns).ρ,NB,none,w.heap.size⟩ w' E' H')(hc:CallOk ns m):WI X w' (aftEnv E E' ns m) (callMemAft bx H' ns m):=by
 have hlat:=later_call h h'
 have hRa:=renames_aft E E' ns m
 have hRu:=renames_usf hc h'
 have hnoK: ∀b o,b<w.heap.size→¬callF bx E ns b o→E'.K b o→E.K b o:=fun b o h1 h2 h3=>h'.kold b o h1 h2 h3
 have nm: ∀{k' k:Nat},Gn ns m k' k→(aftEnv E E' ns m).ρ k=E'.ρ k'∧(aftEnv E E' ns m).val k=E'.val k':=fun g=>nm_of hc h' g
 have nmU: ∀{k:Nat},m≠some k→¬(k∈ns∨mid k)→(aftEnv E E' ns m).ρ k=E.ρ k∧(aftEnv E E' ns m).val k=E.val k:=fun h1 h2=>nmU_of hc h1 h2
 have nmI: ∀{k' k j' j:Nat},Gn ns m k' k→Gn ns m j' j→(k'=j'↔k=j):=fun g f=>nmI_of hc g f
 have cls_: ∀k,(∃k',Gn ns m k' k)∨(m≠some k∧¬(k∈ns∨mid k)):=fun k=>by
  by_cases h1:m=some k
  ·exact .inl ⟨0,.inl ⟨rfl,h1⟩⟩
  ·by_cases h2:k∈ns
   ·exact .inl ⟨_,.inr ⟨h1,.inl ⟨rfl,h2⟩⟩⟩
   ·by_cases h3:mid k
    ·exact .inl ⟨_,.inr ⟨h1,.inr ⟨rfl,h3⟩⟩⟩
    ·exact .inr ⟨h1,fun e=>e.elim h2 h3⟩
 refine⟨h.turn.trans h'.turn (fun i o hi hF=>(callF_young h hF).resolve_left (by omega)),h.sep,fun b o hb=>h'.kin b o (h.kin b o hb),fun b o hlt hXF hk=>?_,h'.kok,fun k rows hk hne'=>?_,fun k j rk rj hk h2 hj h3 hkj=>?_,fun k b o hs=>?_,fun k j b o hs hs'=>?_,fun k j b o rj hs hj h3=>?_,fun k hk=>?_⟩
 ·have hbw:b<w.heap.size:=Nat.lt_of_lt_of_le hlt h.turn.size
  exact h.kold b o hlt hXF (hnoK b o hbw (fun hF=>hXF ((callF_young h hF).resolve_left (by omega))) hk)
 ·rcases aft_some hk with⟨k',r',g1,rfl,g2⟩|⟨g1,g2,r',g3,rfl⟩
  ·obtain⟨l1,l2,l3⟩:=h'.boxes k' r' g1 (Rows.tr_ne hne')
   rw [(nm g2).1]
   exact⟨young_of h l1,l2.tr hRu,l3⟩
  ·obtain⟨l1,l2,l3⟩:=h.boxes k r' g3 (Rows.tr_ne hne')
   have hF:=callF_box h g3 (Rows.tr_ne hne') g2
   rw [(nmU g1 g2).1]
   exact⟨l1,(l2.mono hlat (h'.turn.whole l2.lt hF)).tr hRa,fun o ho=>l3 o (hnoK _ o l2.lt (hF o) ho)⟩
 ·rcases aft_some hk with⟨k',r1,g1,rfl,g2⟩|⟨g1,g2,r1,g3,rfl⟩
  ·rcases aft_some hj with⟨j',r2,f1,rfl,f2⟩|⟨f1,f2,r2,f3,rfl⟩
   ·rw [(nm g2).1,(nm f2).1]
    exact h'.boxne k' j' r1 r2 g1 (Rows.tr_ne h2) f1 (Rows.tr_ne h3) fun e=>hkj ((nmI g2 f2).1 e)
   ·rw [(nm g2).1,(nmU f1 f2).1]
    intro e
    have hlt:=(h.boxes j r2 f3 (Rows.tr_ne h3)).2.1.lt
    rcases(h'.boxes k' r1 g1 (Rows.tr_ne h2)).1 with l|l
    ·simp only at l;omega
    ·exact callF_box h f3 (Rows.tr_ne h3) f2 0 (e▸l 0)
  ·rcases aft_some hj with⟨j',r2,f1,rfl,f2⟩|⟨f1,f2,r2,f3,rfl⟩
   ·rw [(nmU g1 g2).1,(nm f2).1]
    intro e
    have hlt:=(h.boxes k r1 g3 (Rows.tr_ne h2)).2.1.lt
    rcases(h'.boxes j' r2 f1 (Rows.tr_ne h3)).1 with l|l
    ·simp only at l;omega
    ·exact callF_box h g3 (Rows.tr_ne h2) g2 0 (e▸l 0)
   ·rw [(nmU g1 g2).1,(nmU f1 f2).1]
    exact h.boxne k j r1 r2 g3 (Rows.tr_ne h2) f3 (Rows.tr_ne h3) hkj
 ·rcases cls_ k with⟨k',g⟩|⟨g1,g2⟩
  ·rw [(nm g).2]at hs
   obtain⟨l1,l2,l3⟩:=h'.free k' b o hs
   exact⟨Young_of h l1,l2,l3⟩
  ·rw [(nmU g1 g2).2]at hs
   obtain⟨l1,l2,l3⟩:=h.free k b o hs
   exact⟨l1,fun hk=>l2 (hnoK b o l3.lt (callF_spare h hs g2) hk),h'.turn.free l3.lt l3⟩
 ·rcases cls_ k with⟨k',g⟩|⟨g1,g2⟩
  ·rcases cls_ j with⟨j',f⟩|⟨f1,f2⟩
   ·rw [(nm g).2]at hs;rw [(nm f).2]at hs'
    exact(nmI g f).1 (h'.disj k' j' b o hs hs')
   ·rw [(nm g).2]at hs;rw [(nmU f1 f2).2]at hs'
    have hlt:=(h.free j b o hs').2.2.lt
    rcases(h'.free k' b o hs).1 with l|l
    ·simp only at l;omega
    ·exact absurd l (callF_spare h hs' f2)
  ·rcases cls_ j with⟨j',f⟩|⟨f1,f2⟩
   ·rw [(nmU g1 g2).2]at hs;rw [(nm f).2]at hs'
    have hlt:=(h.free k b o hs).2.2.lt
    rcases(h'.free j' b o hs').1 with l|l
    ·simp only at l;omega
    ·exact absurd l (callF_spare h hs g2)
   ·rw [(nmU g1 g2).2]at hs;rw [(nmU f1 f2).2]at hs'
    exact h.disj k j b o hs hs'
 ·rcases aft_some hj with⟨j',r2,f1,rfl,f2⟩|⟨f1,f2,r2,f3,rfl⟩
  ·rw [(nm f2).1]
   rcases cls_ k with⟨k',g⟩|⟨g1,g2⟩
   ·rw [(nm g).2]at hs
    exact h'.sbox k' j' b o r2 hs f1 (Rows.tr_ne h3)
   ·rw [(nmU g1 g2).2]at hs
    intro e
    have hlt:=(h.free k b o hs).2.2.lt
    rcases(h'.boxes j' r2 f1 (Rows.tr_ne h3)).1 with l|l
    ·simp only at l;omega
    ·exact absurd (e▸l o) (callF_spare h hs g2)
  ·rw [(nmU f1 f2).1]
   rcases cls_ k with⟨k',g⟩|⟨g1,g2⟩
   ·rw [(nm g).2]at hs
    intro e
    have hlt:=(h.boxes j r2 f3 (Rows.tr_ne h3)).2.1.lt
    rcases(h'.free k' b o hs).1 with l|l
    ·simp only at l;omega
    ·exact callF_box h f3 (Rows.tr_ne h3) f2 o (e▸l)
   ·rw [(nmU g1 g2).2]at hs
    exact h.sbox k j b o r2 hs f3 (Rows.tr_ne h3)
 ·have hNB:=NB_big
  have hmk:m≠some k:=fun e=>by have:=(hc.hm k e).2;omega
  have hmd: ¬mid k:=fun e=>by have:=e.2;omega
  simp only [aftEnv,if_neg hmk,if_neg hmd]
  exact h.fix k hk
end
theorem rel_aft{X:Origin}{s:DS}{E E':Env}{a:Act}{w w':World}{H':Mem}{ns:List Nat}{m:Option Nat}(h:RelE X s E a w)(h':WI ⟨w,E.K,callF s.bx E ns,(callEnv E ns).ρ,NB,none,w.heap.size⟩ w' E' H')(hc:CallOk ns m)(hm: ∀x,m=some x→x<s.n)
  {r:D} {v:Value} (hv:VD w' E' r v):Rel X (s.aftCall ns m r H') (a.put m v) w':=by
 have hbase:RelE X { s with sl:=fun t=>(s.sl t).tr (aft ns m),bx:=callMemAft s.bx H' ns m } (aftEnv E E' ns m) a w':=
  ⟨wi_aft h.wi h.small.2 h' hc,fun t=>((h.sl t).mono (later_call h.wi h')).tr (renames_aft E E' ns m),h.size,h.defers.turn h'.turn,h.small,h.pl⟩
 exact⟨_,hbase.putOnly (fun d hd=>hm d hd) (hv.tr (renames_usf hc h'))⟩
end
end Go.Dl
/- The logic of data: a call by an effectful contract, as the machine does it. -/
namespace Go.Dl
open Go.RowKit
noncomputable section
def DLe(d d':D):Prop:=∀w E v,VD w E d v→VD w E d' v
inductive DLeL:List D→List D→Prop where
 | nil:DLeL [] []
 | cons {d d':D} {l l':List D}:DLe d d'→DLeL l l'→DLeL (d::l) (d'::l')
theorem DLeL.get{l l':List D}(h:DLeL l l'):l.length=l'.length∧∀(j:Nat) d',l'[j]? =some d'→∃d,l[j]? =some d∧DLe d d':=by
 induction h with
 | nil=>exact⟨rfl,fun j d h=>by simp at h⟩
 | cons h1 h2 ih=>
  refine⟨by simp [ih.1],fun j d' hd=>?_⟩
  cases j with
  | zero=>simp at hd;subst hd;exact⟨_,rfl,h1⟩
  | succ j=>simpa using ih.2 j d' (by simpa using hd)
theorem WI.less{X:Origin}{w:World}{E:Env}{bx bx':Mem}(h:WI X w E bx)(hb: ∀k r,bx' k=some r→bx k=some r):WI X w E bx':=
 ⟨h.turn,h.sep,h.kin,h.kold,h.kok,fun k us hk hne=>h.boxes k us (hb k us hk) hne,fun k j rk rj hk h2 hj h3 hne=>h.boxne k j rk rj (hb _ _ hk) h2 (hb _ _ hj) h3 hne,h.free,h.disj,
  fun k j b o rj hs hj h3=>h.sbox k j b o rj hs (hb _ _ hj) h3,h.fix⟩
def D.asFn:D→Option (FuncId×List T)
 | .one (.c (.fn g caps))=>some (g,caps.map T.c)
 | .one (.fv g caps)=>some (g,caps)
 | _=>none
theorem asFn_ok{d:D}{g:FuncId}{caps:List T}(h:d.asFn=some (g,caps)){w:World}{E:Env}{v:Value}(hv:VD w E d v):
  ∃vs,v= .func (.func g) #[] vs∧vs.size=caps.length∧∀(j:Nat) t u,caps[j]? =some t→vs[j]? =some u→VT w E t u:=by
 unfold D.asFn at h
 split at h
 ·injection h with h;injection h with h1 h2;subst h1;subst h2
  cases hv with|one t v hv=>cases hv with|c c v hv=>cases hv with
   | fn f caps vs hl hr=>
    refine⟨vs,rfl,by simpa using hl,fun j t u g1 g2=>?_⟩
    rw [List.getElem?_map,Option.map_eq_some_iff]at g1
    obtain⟨c,hc,rfl⟩:=g1
    exact .c _ _ (hr j c u hc g2)
 ·injection h with h;injection h with h1 h2;subst h1;subst h2
  cases hv with|one t v hv=>cases hv with
   | fv f caps vs hl hr=>exact⟨vs,rfl,hl,hr⟩
 ·cases h
section
variable {P : Program}
theorem callE_ok{o:Oper}{a:Act}{w:World}{X:Origin}{s:DS}{E:Env}{f:Operand}{args:Array Operand}{tys:Array TypeId}(ho:o.op= .call { callee:=.value f,args:=args,argTypes:=tys })(hr:RelE X s E a w)
  {g:FuncId} {caps:List T} {ns:List Nat} {ds:List D} {H:Mem} {R:D→Mem→Prop} (hf:(s.ev f).asFn=some (g,caps)) (hle:DLeL ((args.toList.map s.ev++caps.map D.one).map (D.tr (shf ns))) ds) (hc:ECalls P g ds H R)
  (hH: ∀k r,H k=some r→callMem s.bx ns k=some r) (hok:CallOk ns o.dst) (hm: ∀x,o.dst=some x→x<s.n) {Q:Exit→Act→World→Prop}:
  o.wp P a w (fun a' w'=>∃r H',R r H'∧Rel X (s.aftCall ns o.dst r H') a' w') Q:=by
 obtain⟨captured,hfv,hcs,hcv⟩:=asFn_ok hf (hr.ev f)
 have hR:=renames_shf E ns
 obtain⟨hlen,hget⟩:=hle.get
 have hsz:(args.map a.eval++captured).size=ds.length:=by
  rw [← hlen];simp [hcs]
 have hvs: ∀(j:Nat) d v,ds[j]? =some d→(args.map a.eval++captured)[j]? =some v→VD w (callEnv E ns) d v:=by
  intro j d v g1 g2
  obtain⟨d0,g3,g4⟩:=hget j d g1
  refine g4 w _ v ?_
  rw [List.getElem?_map]at g3
  cases hd:(args.toList.map s.ev++caps.map D.one)[j]? with
  | none=>rw [hd]at g3;cases g3
  | some d1=>
   rw [hd]at g3;injection g3 with g3;subst g3
   refine VD.tr hR ?_
   by_cases hj:j<args.size
   ·rw [List.getElem?_append_left (by simpa using hj)]at hd
    rw [Array.getElem?_append_left (by simpa using hj)]at g2
    simp [hj]at hd g2
    subst hd;subst g2
    exact hr.ev _
   ·rw [List.getElem?_append_right (by simp;omega)]at hd
    rw [Array.getElem?_append_right (by simp;omega)]at g2
    simp only [List.length_map,Array.size_map,Array.length_toList]at hd g2
    rw [List.getElem?_map]at hd
    cases hcc:caps[j - args.size]? with
    | none=>rw [hcc]at hd;cases hd
    | some c=>rw [hcc]at hd;injection hd with hd;subst hd;exact .one _ _ (hcv _ c v hcc g2)
 have hwi:=(wi_call hr.wi ns hok.hns).less hH
 have hcall:=hc.2 w (callEnv E ns) (callF s.bx E ns) _ hwi hsz hvs
 have hrun:(execOp a.eval o).run P w= .ok (.enter g (args.map a.eval++captured)) w:=by
  unfold execOp
  simp only [ho,Sem.run_bind]
  rw [resolve_value a.eval f args tys _ g captured hfv w]
  simp only [Result.andThen_ok,invoke]
  exact plainF_ok hc.1 _ w
 unfold Oper.wp
 rw [hrun]
 refine Calls.mono hcall ?_
 rintro e w' ⟨v,E',r,H',rfl,hQ,hwi',hv'⟩
 exact⟨r,H',hQ,rel_aft hr hwi' hok hm hv'⟩
end
end
end Go.Dl
