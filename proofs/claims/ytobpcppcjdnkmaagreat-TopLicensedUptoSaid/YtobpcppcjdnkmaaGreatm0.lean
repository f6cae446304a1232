/- Contracts of the functions that the law reaches; part 1. -/
import Derived.WalkSpells
import Derived.WalkLawsBesides
import Derived.RangeFuncRecord
import Derived.OrdersIn
import Derived.Lib.LaidU8
import Derived.Lib.ItoaNum
import Derived.Lib.ConvBytes
set_option linter.all false
set_option maxRecDepth 10000
set_option maxHeartbeats 8000000
open Array renaming replicate → yg
open Go renaming World → j5, Value → j6, TypeId → j8, Operand → j9, Oper → aa, Exit → ah, FuncId → am
open Go.Builtin renaming append_ → yQ, zeroCells → yr
open Go.Fence renaming wide → ya
open Go.Oper renaming wp → j4, wp_mono → yL
open Go.Result renaming andThen_ok → wj
open Go.Sem renaming run_bind → wq, run_pure → wG
open Go.World renaming cell?_of_block → jf, putObj_heap_other → wX, cell?_alloc_lt → jw
open List renaming range → wR, replicate → yb, map → wt
namespace Go
def j7:=@if_neg
def ae:=@if_pos
def af:=@congrArg
def aj:=@decide_eq_true_eq
def ak:=@absurd
def an:=@if_true
def ap:=@if_false
def aq:=@beq_iff_eq
def au:=@decide_eq_false
def aw:=@of_decide_eq_true
def ax:=@or_false
def ay:=@decide_eq_true
def az:=@decide_eq_false_iff_not
def aA:=@beq_eq_false_iff_ne
def aB:=@eq_true
def aC:=@eq_false
end Go
namespace Go
def wa:=@List.getElem?_eq_getElem
def wc:=@List.take_length
def we:=@Bool.and_eq_true
def wg:=@List.getElem?_eq_some_iff
def wh:=@List.getElem?_map
def wl:=@Nat.le_refl
def wm:=@List.map_nil
def wn:=@List.length_map
def wo:=@List.map_cons
def wu:=@Nat.le_trans
def wv:=@Bool.eq_false_or_eq_true
def ww:=@List.mem_of_getElem?
def wy:=@List.take_zero
def wz:=@List.length_append
def wD:=@List.cons_append
def wF:=@List.mem_append
def wH:=@Array.getElem?_eq_some_iff
def wI:=@List.nil_append
def wJ:=@List.mem_cons
def wK:=@Option.map_eq_some_iff
def wL:=@List.getElem?_append_right
def wM:=@Nat.zero_le
def wN:=@List.mem_map
def wO:=@Int.toNat_natCast
def wP:=@List.drop_eq_getElem_cons
def wQ:=@Nat.mul_le_mul_right
def wS:=@List.append_assoc
def wT:=@List.length_nil
def wU:=@List.getElem?_append_left
def wV:=@List.take_succ_cons
def wW:=@List.length_cons
def wY:=@Array.getElem?_eq_getElem
def wZ:=@List.all_eq_true
def w7:=@Option.bind_eq_some_iff
def w9:=@List.not_mem_nil
def yd:=@List.getElem_mem
def yf:=@List.take_append_drop
def yh:=@List.drop_succ_cons
def yi:=@Nat.zero_add
def yj:=@List.foldl_nil
def yk:=@List.getElem?_cons_zero
def yl:=@List.getElem?_drop
def ym:=@List.length_take
def yn:=@List.map_map
def yo:=@Nat.add_mul
def yp:=@List.mem_singleton
def yq:=@Bool.false_eq_true
def yt:=@List.map_append
def yu:=@Bool.or_false
def yv:=@List.take_of_length_le
def yx:=@List.getElem?_take
def yy:=@List.pairwise_cons
def yz:=@List.map_congr_left
def yA:=@List.length_drop
def yC:=@List.drop_zero
def yD:=@Nat.lt_or_ge
def yE:=@List.foldl_cons
def yG:=@List.append_nil
def yH:=@List.pairwise_iff_getElem
def yI:=@List.getElem?_toArray
def yJ:=@Option.getD_some
def yK:=@List.any_eq_true
def yM:=@List.mem_iff_getElem?
def yN:=@List.length_filter_le
def yO:=@Option.map_some
def yP:=@List.eq_of_mem_replicate
def yR:=@List.mem_filter
def yS:=@List.getElem?_cons_succ
def yT:=@Option.bind_some
def yU:=@List.mem_range
def yV:=@List.take_add_one
def yW:=@List.mem_of_mem_take
def yX:=@Bool.or_true
def yY:=@List.any_eq_false
def yZ:=@List.foldl_append
def y5:=@List.mem_of_mem_drop
def y7:=@Nat.le_add_left
def y8:=@Bool.eq_iff_iff
def y9:=@List.pairwise_append
def ja:=@List.flatMap_nil
def jb:=@Bool.true_and
def jc:=@List.getElem?_eq_none
def jd:=@Nat.one_mul
def jh:=@List.drop_length
def ji:=@List.getD_eq_getElem?_getD
def jj:=@List.replicate_append_replicate
def jm:=@List.flatMap_append
def jn:=@List.range_succ
def jo:=@List.take_append_of_le_length
def jp:=@Nat.lt_of_lt_of_le
def jq:=@Array.setIfInBounds_comm
def jr:=@List.filter_append
def jt:=@List.getElem?_take_of_lt
def ju:=@Nat.add_assoc
def jv:=@List.map_take
def jz:=@Bool.not_eq_true'
def jA:=@List.flatMap_cons
def jB:=@Nat.add_zero
def jC:=@Nat.eq_zero_or_pos
def jD:=@List.mem_of_find?_eq_some
def jE:=@List.nodup_cons
def jF:=@Nat.mul_comm
def jG:=@Nat.min_eq_left
def jH:=@List.mem_append_left
def jI:=@List.getElem?_of_mem
def jJ:=@List.filter_nil
def jK:=@List.filterMap_cons
def jL:=@List.map_toArray
def jM:=@Array.getElem?_eq_none
def jN:=@Array.getElem?_append_right
def jO:=@List.filterMap_nil
def jP:=@Array.getElem?_append
def jQ:=@Bool.or_eq_true
def jR:=@List.contains_iff_mem
def jS:=@Array.getElem?_append_left
def jT:=@List.nodup_iff_pairwise_ne
def jU:=@List.getElem?_zip_eq_some
def jV:=@List.mapM_cons
def jW:=@Nat.sub_zero
def jX:=@Nat.le_add_right
def jY:=@List.dropWhile_cons
def jZ:=@Nat.le_mul_of_pos_right
def j0:=@List.length_eq_zero_iff
end Go
noncomputable section
namespace Go
variable {p:Prop}
def oa(h:p:=by omega):p:=h
def oe(h:p:=by simp +decide only[go_sem]):p:=h
def og(h:p:=by grind):p:=h
def oh(h:p:=by simp):p:=h
def om(h:p:=by kernel_rfl):p:=h
def oo(h:p:=by decide):p:=h
def oq(h:p:=by simp +decide only[go_sem, *]):p:=h
def ot(h:p:=by simp;omega):p:=h
def ou(h:p:=by simp only[go_sem, *]):p:=h
def ow(h:p:=by simp +decide only[go_sem];rfl):p:=h
def oz(h:p:=by simp only;omega):p:=h
def oA(h:p:=by simp_all):p:=h
def oB(h:p:=by simp +decide only[go_sem,wy,ja]):p:=h
def oC(h:p:=by simp +decide only[go_sem];exact⟨rfl,rfl⟩):p:=h
def oD(h:p:=by simp +decide only[go_sem]<;>rfl):p:=h
def oE(h:p:=by simp only[go_sem]):p:=h
def oF(h:p:=by simp[yg]):p:=h
end Go
namespace Go.Dl
open Go.RowKit
variable {w w':j5}{c y:Code}{u v:j6}{e t:j8}{a a':Act}{b i j k k' m n o off sz:Nat}{ds:List Deferred}{l:List j6}{f:am}{P:Program}{Q:ah->Act->j5->Prop}{op:BinOp}{arr arr' vs:Array j6}{ns:List Nat}
inductive C where
 | any
 | lit (v:j6)
 | sl (sz:Nat) (xs:List (List C))
 | pt (cs:List C)
 | fn (f:am) (caps:List C)
 deriving Inhabited
variable {cs:List (List C)}
abbrev qM:=Nat->Nat->Prop
variable {F K K':qM}
def YH: ∃n:Nat,100000<=n:=⟨100000,wl _⟩
noncomputable def NB:Nat:=Classical.choose YH
def qX:100000<=NB:=Classical.choose_spec YH
inductive VC(w:j5)(K:qM):C->j6->Prop where
 | any (v:j6) (h:v.oneCell'=true):VC w K .any v
 | lit (v:j6) (h:v.oneCell'=true):VC w K (.lit v) v
 | nil (sz:Nat):VC w K (.sl sz []) (.slice none 0 0)
 | sl (sz:Nat) (xs:List (List C)) (a:Addr) (cap:Nat) (cv:Nat->j6) (vo: ∀r∈xs,r.length=sz) (hc:xs.length<=cap) (hm:cap<=maxLen)
   (hK: ∀j,j<xs.length*sz->a.spot=none/\K a.block (a.off+j)/\w.cell? ⟨a.block,a.off+j,none⟩=some (cv j))
   (hr: ∀(i j:Nat) r c,xs[i]? =some r->r[j]? =some c->VC w K c (cv (i*sz+j))):VC w K (.sl sz xs) (.slice (some a) xs.length cap)
 | pt (cs:List C) (b o:Nat) (cv:Nat->j6) (hK: ∀j,j<cs.length->K b (o+j)/\w.cell? ⟨b,o+j,none⟩=some (cv j))
   (hr: ∀(j:Nat) c,cs[j]? =some c->VC w K c (cv j)):VC w K (.pt cs) (.pointer (some ⟨b,o,none⟩))
 | fn (f:am) (caps:List C) (vs:Array j6) (hl:vs.size=caps.length) (hr: ∀(j:Nat) c v,caps[j]? =some c->vs[j]? =some v->VC w K c v):
   VC w K (.fn f caps) (.func (.func f) #[] vs)
def VC.oneCell'{c:C}(h:VC w K c v):v.oneCell'=true:=by
 cases h<;>first|assumption|rfl
def VC.mono(h: ∀b o,K b o->K' b o/\w'.cell? ⟨b,o,none⟩=w.cell? ⟨b,o,none⟩){c:C}(hv:VC w K c v):VC w' K' c v:=by
 induction hv with
 | any v hv=>exact .any v hv
 | lit v hv=>exact .lit v hv
 | nil sz=>exact .nil sz
 | sl sz xs a cap cv vo hc hm hK hr ih=>
  refine .sl sz xs a cap cv vo hc hm (fun j hj=>?_) ih;obtain⟨h1,h2,h3⟩:=hK j hj;exact⟨h1,(h _ _ h2).1,((h _ _ h2).2).trans h3⟩
 | pt cs b o cv hK hr ih=>
  refine .pt cs b o cv (fun j hj=>?_) ih;obtain⟨h2,h3⟩:=hK j hj;exact⟨(h _ _ h2).1,((h _ _ h2).2).trans h3⟩
 | fn f caps vs hl hr ih=>exact .fn f caps vs hl ih
inductive T where
 | c (c:C)
 | own (n sz:Nat) (xs:List (List C))
 | ex (sz:Nat) (xs:List (List C))
 | bx (n sz i o:Nat)
 | ba (n sz i len cap:Nat)
 | fv (f:am) (caps:List T)
 deriving Inhabited
variable {ts:List T}
inductive D where
 | any
 | one (t:T)
 | agg (ts:List T)
 | tup (ds:List D)
 deriving Inhabited
variable {d x:D}
structure Env where
 K:qM
 ρ:Nat->Nat
 val:Nat->j6×Nat
variable {E E':Env}
def Exact(v:j6):Prop:=∃A n,v= .slice A n n
def Mw(v:j6):Prop:=∀a l c,v= .slice (some a) l c->a.spot≠none->c=l
def Exact.tame(h:Exact v):Mw v:=by
 obtain⟨A,n,rfl⟩:=h;intro a l c h _;injection h with _ h1 h2
 omega
def iW(b o l c:Nat):Mw (.slice (some ⟨b,o,none⟩) l c):=by
 intro a l' c' h hs;injection h with h1 h2 h3
 injection h1 with h1
 subst h1;exact ak rfl hs
inductive VT(w:j5)(E:Env):T->j6->Prop where
 | c (c:C) (v:j6) (h:VC w E.K c v):VT w E (.c c) v
 | own (n sz:Nat) (xs:List (List C)) (v:j6) (h:VC w E.K (.sl sz xs) v) (hv:E.val n=(v,sz)) (ht:Mw v):VT w E (.own n sz xs) v
 | ex (sz:Nat) (xs:List (List C)) (v:j6) (h:VC w E.K (.sl sz xs) v) (hx:Exact v):VT w E (.ex sz xs) v
 | bx (n sz i o:Nat):VT w E (.bx n sz i o) (.pointer (some ⟨E.ρ n,i*sz+o,none⟩))
 | ba (n sz i len cap:Nat) (h:len<=cap) (hm:cap<=maxLen):VT w E (.ba n sz i len cap) (.slice (some ⟨E.ρ n,i*sz,none⟩) len cap)
 | bz (n sz i:Nat) (A:Option Addr):VT w E (.ba n sz i 0 0) (.slice A 0 0)
 | fv (f:am) (caps:List T) (vs:Array j6) (hl:vs.size=caps.length) (hr: ∀(j:Nat) t v,caps[j]? =some t->vs[j]? =some v->VT w E t v):
   VT w E (.fv f caps) (.func (.func f) #[] vs)
def VT.oneCell'{t:T}(h:VT w E t v):v.oneCell'=true:=by
 cases h<;>first|rfl|exact VC.oneCell' ‹_›
inductive VD(w:j5)(E:Env):D->j6->Prop where
 | any (v:j6):VD w E .any v
 | one (t:T) (v:j6) (h:VT w E t v):VD w E (.one t) v
 | agg (ts:List T) (vs:Array j6) (hl:vs.size=ts.length) (hr: ∀(j:Nat) t v,ts[j]? =some t->vs[j]? =some v->VT w E t v):VD w E (.agg ts) (.agg vs)
 | tup (ds:List D) (vs:Array j6) (hl:vs.size=ds.length) (hr: ∀(j:Nat) d v,ds[j]? =some d->vs[j]? =some v->VD w E d v):VD w E (.tup ds) (.tuple vs)
structure Later(w:j5)(E:Env)(w':j5)(E':Env):Prop where
 keep: ∀b o,E.K b o->E'.K b o/\w'.cell? ⟨b,o,none⟩=w.cell? ⟨b,o,none⟩
 ρ:E'.ρ=E.ρ
 val:E'.val=E.val
def VT.mono(h:Later w E w' E'){t:T}(hv:VT w E t v):VT w' E' t v:=by
 induction hv with
 | c c v hv=>exact .c c v (hv.mono h.keep)
 | own n sz xs v hv hn ht=>exact .own n sz xs v (hv.mono h.keep) (by rw[h.val];exact hn) ht
 | ex sz xs v hv hx=>exact .ex sz xs v (hv.mono h.keep) hx
 | bx n sz i o=>rw[<-h.ρ];exact .bx n sz i o
 | ba n sz i len cap h1 h2=>rw[<-h.ρ];exact .ba n sz i len cap h1 h2
 | bz n sz i A=>exact .bz n sz i A
 | fv f caps vs hl hr ih=>exact .fv f caps vs hl ih
def VD.mono(h:Later w E w' E')(hv:VD w E d v):VD w' E' d v:=by
 induction hv with
 | any v=>exact .any v
 | one t v hv=>exact .one t v (hv.mono h)
 | agg cs vs hl hr=>exact .agg cs vs hl fun j c v h1 h2=>(hr j c v h1 h2).mono h
 | tup ds vs hl hr ih=>exact .tup ds vs hl ih
def T.cl:T->C
 | .c x=>x
 | .own _ sz xs| .ex sz xs=>.sl sz xs
 | .bx .. | .ba .. | .fv _ _=>.any
def VT.cl{t:T}(h:VT w E t v):VC w E.K t.cl v:=by
 cases h<;>first|assumption|exact VC.any _ (by rfl)
structure Ren where
 f:Nat->Option Nat
 g:Nat->Option Nat
variable {r:Ren}
def T.ownTo(sz:Nat)(xs:List (List C)):Option Nat->T
 | some m=>.own m sz xs
 | none=>.c (.sl sz xs)
def T.bxTo(sz i o:Nat):Option Nat->T
 | some m=>.bx m sz i o
 | none=>.c .any
def T.baTo(sz i len cap:Nat):Option Nat->T
 | some m=>.ba m sz i len cap
 | none=>.c .any
mutual
def T.tr(r:Ren):T->T
 | .own n sz xs=>T.ownTo sz xs (r.f n)
 | .bx n sz i o=>T.bxTo sz i o (r.g n)
 | .ba n sz i len cap=>T.baTo sz i len cap (r.g n)
 | .fv f caps=>.fv f (T.trAll r caps)
 | .c x=>.c x
 | .ex sz xs=>.ex sz xs
def T.trAll(r:Ren):List T->List T
 | []=> []
 | t::l=>t.tr r::T.trAll r l
end
def T.trAll_eq(r:Ren)(l:List T):T.trAll r l=l.map (T.tr r):=by
 induction l with
 | nil=>simp[T.trAll]
 | cons t l ih=>simp[T.trAll,ih]
mutual
def D.tr(r:Ren):D->D
 | .one t=>.one (t.tr r)
 | .any=>.any
 | .agg ts=>.agg (T.trAll r ts)
 | .tup ds=>.tup (D.trAll r ds)
def D.trAll(r:Ren):List D->List D
 | []=> []
 | t::l=>t.tr r::D.trAll r l
end
def D.trAll_eq(r:Ren)(l:List D):D.trAll r l=l.map (D.tr r):=by
 induction l with
 | nil=>simp[D.trAll]
 | cons t l ih=>simp[D.trAll,ih]
structure Renames(r:Ren)(E E':Env):Prop where
 K:E'.K=E.K
 f: ∀n m,r.f n=some m->E'.val m=E.val n
 g: ∀n m,r.g n=some m->E'.ρ m=E.ρ n
def VT.tr(hR:Renames r E E'){t:T}(h:VT w E t v):VT w E' (t.tr r) v:=by
 induction h with
 | own n sz xs v hv hn ht=>
  simp only[T.tr];cases hm:r.f n with
  | none=>exact .c _ _ (hR.K▸hv)
  | some m=>exact .own m sz xs v (hR.K▸hv) ((hR.f n m hm).trans hn) ht
 | bx n sz i o=>
  simp only[T.tr];cases hm:r.g n with
  | none=>exact .c _ _ (.any _ rfl)
  | some m=>rw[<-hR.g n m hm];exact .bx m sz i o
 | ba n sz i len cap h1 h2=>
  simp only[T.tr];cases hm:r.g n with
  | none=>exact .c _ _ (.any _ rfl)
  | some m=>rw[<-hR.g n m hm];exact .ba m sz i len cap h1 h2
 | bz n sz i A=>
  simp only[T.tr];cases hm:r.g n with
  | none=>exact .c _ _ (.any _ rfl)
  | some m=>exact .bz m sz i A
 | fv f caps vs hl hr ih=>
  simp only[T.tr,T.trAll_eq];refine .fv f _ vs (by simpa using hl) fun j t v h1 h2=>?_;rw[wh]at h1;cases hc:caps[j]? with
  | none=>grind
  | some t'=>grind
 | c c v hv=>simp only[T.tr];exact .c c v (hR.K▸hv)
 | ex sz xs v hv hx=>simp only[T.tr];exact .ex sz xs v (hR.K▸hv) hx
def VD.tr(hR:Renames r E E')(h:VD w E d v):VD w E' (d.tr r) v:=by
 induction h with
 | any v=>simp only[D.tr];exact .any v
 | one t v hv=>simp only[D.tr];exact .one _ v (hv.tr hR)
 | agg ts vs hl hr=>
  simp only[D.tr,T.trAll_eq];refine .agg _ vs (by simpa using hl) fun j t v h1 h2=>?_;rw[wh]at h1;cases hc:ts[j]? with
  | none=>grind
  | some t'=>rw[hc]at h1;cases h1;exact(hr j t' v hc h2).tr hR
 | tup ds vs hl hr ih=>
  simp only[D.tr,D.trAll_eq];refine .tup _ vs (by simpa using hl) fun j t v h1 h2=>?_;rw[wh]at h1;cases hc:ds[j]? with
  | none=>grind
  | some t'=>grind
def cls(ns:List Nat):Ren:=⟨fun n=>if n∈ns then none else some n,some⟩
def lN(m:Nat):Ren:=⟨some,fun n=>if n=m then none else some n⟩
def Env.setVal(E:Env)(n:Nat)(p:j6×Nat):Env:={ E with val:=fun m=>if m=n then p else E.val m }
def Env.setρ(E:Env)(m b:Nat):Env:={ E with ρ:=fun k=>if k=m then b else E.ρ k }
def fP(E:Env)(n:Nat)(p:j6×Nat):Renames (cls [n]) E (E.setVal n p):=
 ⟨rfl,fun k m h=>by
  simp only[cls,yp]at h;split at h
  ·cases h
  ·rename_i qH;injection h with h;subst h;simp[Env.setVal,qH],fun k m h=>by injection h with h;subst h;rfl⟩
def Ea(E:Env)(m b:Nat):Renames (lN m) E (E.setρ m b):=
 ⟨rfl,fun n k h=>by injection h with h;rw[h];rfl,fun n k h=>by
  simp only[lN]at h;split at h
  ·cases h
  ·rename_i qH;injection h with h;subst h;simp[Env.setρ,qH]⟩
abbrev Rows:=List (List T)
variable {rows:Rows}
abbrev vT:=Nat->Option Rows
variable {bx:vT}
def Rows.tr(r:Ren)(rows:Rows):Rows:=rows.map (T.trAll r)
structure DS where
 n:Nat
 sl:Nat->D
 bx:vT
 pl:Bool:=true
variable {s s':DS}
def DS.put(s:DS)(dst:Option Nat)(d:D):DS:=
 match dst with
 | some t=>{ s with sl:=fun u=>if u=t then d else s.sl u }
 | none=>s
def DS.tr(s:DS)(r:Ren):DS:={ s with sl:=fun u=>(s.sl u).tr r,bx:=fun m=>(s.bx m).map (Rows.tr r) }
def DS.close(s:DS)(ns:List Nat):DS:=s.tr (cls ns)
def DS.setBx(s:DS)(m:Nat)(ts:Option Rows):DS:={ s with bx:=fun k=>if k=m then ts else s.bx k }
def zP(p:j6×Nat)(b o:Nat):Prop:=∃a len cap,p.1= .slice (some a) len cap/\a.spot=none/\b=a.block/\a.off+len*p.2<=o/\o<a.off+cap*p.2
def Free(w:j5)(b o:Nat):Prop:=∃arr e,w.heap[b]? =some (.cells arr e (0,0))/\o<arr.size
def BoxIs(w:j5)(E:Env)(b:Nat)(rows:Rows):Prop:=
 ∃sz arr e,w.heap[b]? =some (.cells arr e (0,0))/\(∀r∈rows,r.length=sz)/\arr.size=rows.length*sz/\
  ∀(i j:Nat) r t v,rows[i]? =some r->r[j]? =some t->arr[i*sz+j]? =some v->VT w E t v
structure Turn(F:qM)(w w':j5):Prop where
 os:w'.os=w.os
 tape:w'.tape=w.tape
 output:w'.output=w.output
 size:w.heap.size<=w'.heap.size
 block: ∀b,b<w.heap.size->w'.heap[b]? =w.heap[b]?\/
  ∃arr e arr',w.heap[b]? =some (.cells arr e (0,0))/\w'.heap[b]? =some (.cells arr' e (0,0))/\arr'.size=arr.size/\∀o,¬F b o->arr'[o]? =arr[o]?
def Turn.refl(F:qM)(w:j5):Turn F w w:=⟨rfl,rfl,rfl,wl _,fun _ _=>.inl rfl⟩
def Turn.trans{F':qM}{a b c:j5}(h:Turn F a b)(k:Turn F' b c)(hF: ∀i o,i<a.heap.size->F' i o->F i o):Turn F a c:=by
 refine⟨k.os.trans h.os,k.tape.trans h.tape,k.output.trans h.output,wu h.size k.size,fun i hi=>?_⟩;have hib:i<b.heap.size:=jp hi h.size;rcases h.block i hi with h1|⟨arr,e,arr',g1,g2,g3,g4⟩
 ·rcases k.block i hib with k1|⟨brr,e',brr',l1,l2,l3,l4⟩
  ·grind
  ·grind
 ·rcases k.block i hib with k1|⟨brr,e',brr',l1,l2,l3,l4⟩
  ·grind
  ·grind
def Below.turn(h:Below w.heap.size w w')(F:qM):Turn F w w':=⟨h.os,h.tape,h.output,h.size,fun b hb=>.inl (h.block b hb)⟩
def Turn.below(h:Turn (fun _ _=>False) w w'):Below w.heap.size w w':=by
 refine⟨h.os,h.tape,h.output,h.size,fun b hb=>?_⟩;rcases h.block b hb with h1|⟨arr,e,arr',g1,g2,g3,g4⟩
 ·exact h1
 ·have:arr'=arr:=by apply Array.ext_getElem?;intro o;exact g4 o id
  rw[g1,g2,this]
def Turn.cell(h:Turn F w w')(hb:b<w.heap.size)(hF: ¬F b o):w'.cell? ⟨b,o,none⟩=w.cell? ⟨b,o,none⟩:=by
 rcases h.block b hb with h1|⟨arr,e,arr',g1,g2,g3,g4⟩
 ·exact jf (w:=w) (a:=⟨b,o,none⟩) h1
 ·simp[World.cell?,g1,g2,g4 o hF]
def Turn.free(h:Turn F w w')(hb:b<w.heap.size)(hf:Free w b o):Free w' b o:=by
 obtain⟨c,t,h1,h2⟩:=hf;rcases h.block b hb with h3|⟨arr,e,arr',g1,g2,g3,g4⟩
 ·exact⟨c,t,h3.trans h1,h2⟩
 ·rw[g1]at h1;injection h1 with h1;injection h1 with h1 h5;subst h1;subst h5
  exact⟨arr',e,g2,by rw[g3];exact h2⟩
def Turn.whole(h:Turn F w w')(hb:b<w.heap.size)(hF: ∀o,¬F b o):w'.heap[b]? =w.heap[b]? :=by
 rcases h.block b hb with h1|⟨arr,e,arr',g1,g2,g3,g4⟩
 ·exact h1
 ·have:arr'=arr:=by apply Array.ext_getElem?;intro o;exact g4 o (hF o)
  rw[g1,g2,this]
structure Origin where
 w:j5
 K:qM
 F:qM
 ρ:Nat->Nat
 B:Nat
 ro:Option Nat
 mrk:Nat
 base:List Deferred
def Origin.young(X:Origin)(b:Nat):Prop:=X.w.heap.size<=b\/∀o,X.F b o
def Origin.Young(X:Origin)(b o:Nat):Prop:=X.w.heap.size<=b\/X.F b o
def LR:Nat->Option (List j6):=fun _=>none
def GOk(w:j5)(K:qM):Prop:=∀g vs,LR g=some vs->∀(o:Nat) v,vs[o]? =some v->v.oneCell'=true/\K g o/\w.cell? ⟨g,o,none⟩=some v
def GOk.mono(h:GOk w K)(hk: ∀b o,K b o->K' b o/\w'.cell? ⟨b,o,none⟩=w.cell? ⟨b,o,none⟩):GOk w' K':=fun g vs hg o v hv=>
 have q:=h g vs hg o v hv
 ⟨q.1,(hk _ _ q.2.1).1,(hk _ _ q.2.1).2.trans q.2.2⟩
def ztab:List Nat:= []
def GSz(w:j5):Prop:=∀g∈ztab,∀vs,LR g=some vs->∃cs e m,w.heap[g]? =some (Obj.cells cs e m)/\cs.size=vs.length
def GSz.same(h:GSz w)(hb: ∀(b:Nat) cs e m,w.heap[b]? =some (Obj.cells cs e m)->∃cs' e' m',w'.heap[b]? =some (Obj.cells cs' e' m')/\cs'.size=cs.size):GSz w':=fun g hz vs hg=>by obtain⟨cs,e,m,h1,h2⟩:=h g hz vs hg;obtain⟨cs',e',m',h3,h4⟩:=hb g cs e m h1;exact⟨cs',e',m',h3,h4.trans h2⟩
def GSz.below(h:GSz w)(t:Below w.heap.size w w'):GSz w':=h.same fun b cs e m hb=>⟨cs,e,m,(t.block b (wH.1 hb).1).trans hb,rfl⟩
def GSz.turn(h:GSz w)(t:Turn F w w'):GSz w':=h.same fun b cs e m hb=>by
 rcases t.block b (wH.1 hb).1 with g|⟨arr,e',arr',g1,g2,g3,_⟩
 ·grind
 ·grind
def etab:List Nat:= []
def utab:List (Nat×Nat):= [(0,256),(1,32)]
def EOk(w:j5)(K:qM):Prop:=(∀g∈etab,K g 0/\∃ev,w.cell? ⟨g,0,none⟩=some ev/\(ev= .nilIface\/∃te pe,ev= .iface te pe))/\
 ∀p∈utab,∀o,o<p.2->K p.1 o/\∃z,w.cell? ⟨p.1,o,none⟩=some (.int .u8 z)/\0<=z/\z<256
def EOk.mono(h:EOk w K)(hk: ∀b o,K b o->K' b o/\w'.cell? ⟨b,o,none⟩=w.cell? ⟨b,o,none⟩):EOk w' K':=
 ⟨fun g hg=>
  have q:=h.1 g hg
  ⟨(hk _ _ q.1).1,q.2.imp fun ev he=>⟨(hk _ _ q.1).2.trans he.1,he.2⟩⟩,fun p hp o ho=>
  have q:=h.2 p hp o ho
  ⟨(hk _ _ q.1).1,q.2.imp fun z he=>⟨(hk _ _ q.1).2.trans he.1,he.2⟩⟩⟩
structure KOk(w:j5)(K:qM):Prop where
 ok: ∀b o,K b o->(w.cell? ⟨b,o,none⟩).isSome=true
 g:GOk w K
 e:EOk w K
 z:GSz w
instance (w:j5) (K:qM):CoeFun (KOk w K) (fun _=>∀b o,K b o->(w.cell? ⟨b,o,none⟩).isSome=true):=⟨KOk.ok⟩
def KOk.wide(h:KOk w K)(hk: ∀b o,K b o->K' b o/\w'.cell? ⟨b,o,none⟩=w.cell? ⟨b,o,none⟩)(hn: ∀b o,K' b o->(w'.cell? ⟨b,o,none⟩).isSome=true)(hz:GSz w'):KOk w' K':=⟨hn,h.g.mono hk,h.e.mono hk,hz⟩
def KOk.move(h:KOk w K)(hk: ∀b o,K b o->w'.cell? ⟨b,o,none⟩=w.cell? ⟨b,o,none⟩)(hz:GSz w'):KOk w' K:=h.wide (fun b o q=>⟨q,hk b o q⟩) (fun b o q=>by rw[hk b o q];exact h.ok b o q) hz
structure WI(X:Origin)(w:j5)(E:Env)(bx:vT):Prop where
 turn:Turn X.F X.w w
 sep: ∀b o,X.K b o->¬X.F b o
 kin: ∀b o,X.K b o->E.K b o
 kold: ∀b o,b<X.w.heap.size->¬X.F b o->E.K b o->X.K b o
 kok:KOk w E.K
 boxes: ∀n rows,bx n=some rows->rows≠ []->X.young (E.ρ n)/\BoxIs w E (E.ρ n) rows/\∀o,¬E.K (E.ρ n) o
 boxne: ∀n m rn rm,bx n=some rn->rn≠ []->bx m=some rm->rm≠ []->n≠m->E.ρ n≠E.ρ m
 free: ∀n b o,zP (E.val n) b o->X.Young b o/\¬E.K b o/\Free w b o
 disj: ∀n m b o,zP (E.val n) b o->zP (E.val m) b o->n=m
 sbox: ∀n m b o rm,zP (E.val n) b o->bx m=some rm->rm≠ []->b≠E.ρ m
 fix: ∀n,X.B<=n->E.ρ n=X.ρ n
def DefOK(X:Origin)(ds:List Deferred)(w:j5):Prop:=
 X.mrk<=X.w.heap.size/\∃Ds:List Nat,Ds.Nodup/\ds=Ds.map (fun D=>{ target:=.collected D,args:= #[] })++X.base/\∀D∈Ds,X.mrk<=D/\w.heap[D]? =some (.deferred (some []))
def DefOK.nil(X:Origin)(w:j5)(h:X.mrk<=X.w.heap.size):DefOK X X.base w:=⟨h,[],.nil,rfl,fun _ h=>by cases h⟩
def DefOK.of{X:Origin}(h:DefOK X ds w)(t: ∀D:Nat,X.mrk<=D->w.heap[D]? =some (.deferred (some []))->w'.heap[D]? =some (.deferred (some []))):DefOK X ds w':=by obtain⟨h0,Ds,h1,h2,h3⟩:=h;exact⟨h0,Ds,h1,h2,fun D hD=>⟨(h3 D hD).1,t D (h3 D hD).1 (h3 D hD).2⟩⟩
def DefOK.turn{X:Origin}(h:DefOK X ds w)(t:Turn F w w'):DefOK X ds w':=
 h.of fun D _ h4=>by
  have qf:D<w.heap.size:=by
   rcases yD D w.heap.size with h|h
   ·exact h
   ·simp[jM h]at h4
  rcases t.block D qf with g|⟨arr,e,arr',g1,_⟩
  ·exact g.trans h4
  ·rw[h4]at g1;cases g1
structure RelE(X:Origin)(s:DS)(E:Env)(a:Act)(w:j5):Prop where
 wi:WI X w E s.bx
 sl: ∀t,VD w E (s.sl t) (a.tmps.getD t undef)
 size:a.tmps.size=s.n
 defers:DefOK X a.defers w
 small:s.n<=X.B/\NB<=X.B
 pl:s.pl=true->X.ro=none
def Z1(X:Origin)(s:DS)(a:Act)(w:j5):Prop:=∃E,RelE X s E a w
def qP(h:(w.cell? ⟨b,o,none⟩).isSome=true):b<w.heap.size:=by
 rcases yD b w.heap.size with h1|h1
 ·exact h1
 ·simp[World.cell?,jM h1]at h
def Free.lt(h:Free w b o):b<w.heap.size:=by
 obtain⟨arr,e,h,_⟩:=h;rcases yD b w.heap.size with h1|h1
 ·exact h1
 ·grind
def BoxIs.lt(h:BoxIs w E b rows):b<w.heap.size:=by
 obtain⟨sz,arr,e,h,_⟩:=h;rcases yD b w.heap.size with h1|h1
 ·exact h1
 ·grind
structure Quiet(w:j5)(E:Env)(w':j5)(E':Env):Prop where
 below:Below w.heap.size w w'
 kin: ∀b o,E.K b o->E'.K b o
 kold: ∀b o,b<w.heap.size->E'.K b o->E.K b o
 kok:KOk w' E'.K
 ρ:E'.ρ=E.ρ
 val:E'.val=E.val
def Quiet.later(hk:KOk w E.K)(h:Quiet w E w' E'):Later w E w' E':=
 ⟨fun b o hb=>⟨h.kin b o hb,h.below.cell (p:=⟨b,o,none⟩) (qP (hk b o hb))⟩,h.ρ,h.val⟩
def Quiet.refl(hk:KOk w E.K):Quiet w E w E:=
 ⟨Below.refl _ _,fun _ _ h=>h,fun _ _ _ h=>h,hk,rfl,rfl⟩
def BoxIs.mono(h:Later w E w' E')(hb:w'.heap[b]? =w.heap[b]?)(hx:BoxIs w E b rows):BoxIs w' E' b rows:=by obtain⟨sz,arr,e,h1,h2,h3,h4⟩:=hx;exact⟨sz,arr,e,hb.trans h1,h2,h3,fun i j r t v hi ht hv=>(h4 i j r t v hi ht hv).mono h⟩
def Rows.tr_ne(h:Rows.tr r rows≠ []):rows≠ []:=fun e=>h (by rw[e];rfl)
def BoxIs.tr(hR:Renames r E E')(hx:BoxIs w E b rows):BoxIs w E' b (Rows.tr r rows):=by
 obtain⟨sz,arr,e,h1,h2,h3,h4⟩:=hx;refine⟨sz,arr,e,h1,fun x hx=>?_,by simpa[Rows.tr]using h3,fun i j x t v hi ht hv=>?_⟩
 ·simp only[Rows.tr,wN]at hx;obtain⟨y,hy,rfl⟩:=hx;rw[T.trAll_eq,wn];exact h2 y hy
 ·simp only[Rows.tr,wh]at hi;cases hc:rows[i]? with
  | none=>grind
  | some y=>
   rw[hc]at hi;injection hi with hi;subst hi
   rw[T.trAll_eq,wh]at ht;cases hd:y[j]? with
   | none=>grind
   | some t'=>rw[hd]at ht;injection ht with ht;subst ht;exact(h4 i j y t' v hc hd hv).tr hR
def WI.quiet{X:Origin}(h:WI X w E bx)(q:Quiet w E w' E'):WI X w' E' bx:=by
 have hl:=q.later h.kok;have vo:X.w.heap.size<=w.heap.size:=h.turn.size;refine⟨h.turn.trans (Below.turn q.below (fun _ _=>False)) (fun _ _ _ h=>h.elim),h.sep,fun b o hb=>q.kin b o (h.kin b o hb),fun b o qf hF hb=>h.kold b o qf hF (q.kold b o oa hb),q.kok,?_,?_,?_,?_,?_,?_⟩
 ·intro n rows hn qH;obtain⟨h1,h2,h3⟩:=h.boxes n rows hn qH;rw[q.ρ];exact⟨h1,h2.mono hl (q.below.block _ h2.lt),fun o ho=>h3 o (q.kold _ o h2.lt ho)⟩
 ·rw[q.ρ];exact h.boxne
 ·intro n b o hs;rw[q.val]at hs;obtain⟨h1,h2,h3⟩:=h.free n b o hs;refine⟨h1,fun hk=>h2 (q.kold b o h3.lt hk),?_⟩;obtain⟨arr,e,h4,h5⟩:=h3;have qf:b<w.heap.size:=og;exact⟨arr,e,(q.below.block b qf).trans h4,h5⟩
 ·rw[q.val];exact h.disj
 ·rw[q.val,q.ρ];exact h.sbox
 ·rw[q.ρ];exact h.fix
def Fi(a:Act)(dst:Option Nat)(v:j6)(t:Nat)(h: ∀d,dst=some d->d<a.tmps.size):
  (a.put dst v).tmps.getD t undef=if dst=some t then v else a.tmps.getD t undef:=by
 cases dst with
 | none=>simp[Act.put]
 | some d=>
  have hd:=h d rfl;simp only[Act.put,Option.some.injEq];by_cases he:d=t
  ·simp_all
  ·simp_all
def RelE.put{X:Origin}{s:DS}{E E':Env}{a:Act}{w w':j5}(h:RelE X s E a w)(q:Quiet w E w' E'){dst:Option Nat}(hd: ∀d,dst=some d->d<s.n){d:D}{v:j6}
  (hv:VD w' E' d v):RelE X (s.put dst d) E' (a.put dst v) w':=by
 have hl:=q.later h.wi.kok;refine⟨?_,fun t=>?_,?_,?_,?_,?_⟩
 ·have:(s.put dst d).bx=s.bx:=by cases dst<;>rfl
  rw[this];exact h.wi.quiet q
 ·rw[Fi a dst v t (fun d he=>by rw[h.size];exact hd d he)];cases dst with
  | none=>simpa[DS.put]using (h.sl t).mono hl
  | some d'=>
   by_cases he:t=d'
   ·subst he;simpa[DS.put]using hv
   ·have: ¬(some d'=some t):=by grind
    simp only[DS.put,j7 he,j7 this];exact(h.sl t).mono hl
 ·rw[show (a.put dst v).tmps.size=a.tmps.size from by cases dst<;>simp[Act.put],h.size];cases dst<;>rfl
 ·rw[show (a.put dst v).defers=a.defers from by cases dst<;>rfl];exact h.defers.turn (Below.turn q.below (fun _ _=>False))
 ·rw[show (s.put dst d).n=s.n from by cases dst<;>rfl];exact h.small
 ·rw[show (s.put dst d).pl=s.pl from by cases dst<;>rfl];exact h.pl
structure Hush(n:Nat)(w w':j5):Prop where
 os:w'.os=w.os
 tape:w'.tape=w.tape
 output:w'.output=w.output
 size:w.heap.size<=w'.heap.size
 old: ∀b:Nat,b<n->w'.heap[b]? =w.heap[b]?
 cells: ∀(b:Nat) arr e m,w.heap[b]? =some (Obj.cells arr e m)->w'.heap[b]? =w.heap[b]?
def GSz.hush(h:GSz w)(c:Hush n w w'):GSz w':=h.same fun b cs e m hb=>⟨cs,e,m,(c.cells b cs e m hb).trans hb,rfl⟩
def iL(h:(w.cell? ⟨b,o,none⟩).isSome=true): ∃arr e m,w.heap[b]? =some (Obj.cells arr e m):=by
 unfold World.cell? at h;cases hb:w.heap[b]? with
 | none=>grind
 | some ob=>grind
def Hush.later(c:Hush n w w')(hk:KOk w E.K):Later w E w' E:=
 ⟨fun b o hb=>⟨hb,by
  obtain⟨arr,e,m,h⟩:=iL (hk b o hb);exact jf (w:=w) (a:=⟨b,o,none⟩) (c.cells b arr e m h)⟩,rfl,rfl⟩
structure Wider(w w':j5)(E E':Env):Prop where
 kin: ∀b o,E.K b o->E'.K b o
 new: ∀b o,E'.K b o->E.K b o\/(w.heap.size<=b/\(w'.cell? ⟨b,o,none⟩).isSome=true)
 ρ:E'.ρ=E.ρ
 val:E'.val=E.val
def Wider.refl(w w':j5)(E:Env):Wider w w' E E:=⟨fun _ _ h=>h,fun _ _ h=>.inl h,rfl,rfl⟩
def Hush.laterW(c:Hush n w w')(g:Wider w w' E E')(hk:KOk w E.K):Later w E w' E':=
 ⟨fun b o hb=>⟨g.kin b o hb,((c.later hk).keep b o hb).2⟩,g.ρ,g.val⟩
def WI.hushW{X:Origin}(h:WI X w E bx)(c:Hush X.w.heap.size w w')(g:Wider w w' E E'):WI X w' E' bx:=by
 have hl:=c.laterW g h.kok;have vo:=h.turn.size;refine⟨⟨c.os.trans h.turn.os,c.tape.trans h.turn.tape,c.output.trans h.turn.output,wu h.turn.size c.size,fun b hb=>by rw[c.old b hb];exact h.turn.block b hb⟩,h.sep,fun b o hb=>g.kin b o (h.kin b o hb),fun b o hb hF hk=>?_,h.kok.wide hl.keep (fun b o hb=>?_) (h.kok.z.hush c),fun n rows hn qH=>?_,?_,fun n b o hs=>?_,?_,?_,?_⟩
 ·rcases g.new b o hk with hk|⟨hk,_⟩
  ·exact h.kold b o hb hF hk
  ·omega
 ·rcases g.new b o hb with hk|⟨_,hk⟩
  ·rw[(hl.keep b o hk).2];exact h.kok b o hk
  ·exact hk
 ·obtain⟨h1,h2,h3⟩:=h.boxes n rows hn qH;rw[g.ρ];have qf:=h2.lt;obtain⟨sz,arr,e,q,_⟩:=id h2;refine⟨h1,h2.mono hl (c.cells _ _ _ _ q),fun o ho=>?_⟩;rcases g.new _ o ho with hk|⟨hk,_⟩
  ·grind
  ·omega
 ·rw[g.ρ];exact h.boxne
 ·rw[g.val]at hs;obtain⟨h1,h2,h3⟩:=h.free n b o hs;have qf:=h3.lt;obtain⟨arr,e,h3,h4⟩:=h3;refine⟨h1,fun hk=>?_,arr,e,(c.cells _ _ _ _ h3).trans h3,h4⟩;rcases g.new _ o hk with hk|⟨hk,_⟩
  ·grind
  ·omega
 ·rw[g.val];exact h.disj
 ·rw[g.val,g.ρ];exact h.sbox
 ·rw[g.ρ];exact h.fix
def WI.hush{X:Origin}(h:WI X w E bx)(c:Hush X.w.heap.size w w'):WI X w' E bx:=h.hushW c (Wider.refl _ _ _)
def RelE.hushW{X:Origin}(h:RelE X s E a w)(c:Hush X.w.heap.size w w')(g:Wider w w' E E')(ht:a'.tmps=a.tmps)(hd:DefOK X a'.defers w'):RelE X s E' a' w':=
 ⟨h.wi.hushW c g,fun t=>by rw[ht];exact(h.sl t).mono (c.laterW g h.wi.kok),by rw[ht];exact h.size,hd,h.small,h.pl⟩
def RelE.hush{X:Origin}(h:RelE X s E a w)(c:Hush X.w.heap.size w w')(ht:a'.tmps=a.tmps)(hd:DefOK X a'.defers w'):RelE X s E a' w':=
 ⟨h.wi.hush c,fun t=>by rw[ht];exact(h.sl t).mono (c.later h.wi.kok),by rw[ht];exact h.size,hd,h.small,h.pl⟩
def Hush.putObj{r:Nat}{o:Obj}(o':Obj)(hX:n<=r)(ho:w.heap[r]? =some o)(hc: ∀arr e m,o≠Obj.cells arr e m):Hush n w (w.putObj r o'):=
 ⟨rfl,rfl,rfl,oh,fun b hb=>wX oa,fun b arr e m hb=>wX fun hbr=>by subst hbr;rw[ho]at hb;injection hb with hb;exact hc _ _ _ hb⟩
def Hush.alloc(o:Obj)(hX:n<=w.heap.size):Hush n w (w.alloc o):=
 ⟨rfl,rfl,rfl,oh,fun b hb=>Below.heap_alloc w o b oa,fun b arr e m hb=>Below.heap_alloc w o b (wH.1 hb).1⟩
def Hush.drew(n:Nat)(w:j5):Hush n w w.drew:=⟨rfl,rfl,rfl,wl _,fun _ _=>rfl,fun _ _ _ _ _=>rfl⟩
def Hush.trans{a b c:j5}(h:Hush n a b)(k:Hush n b c):Hush n a c:=
 ⟨k.os.trans h.os,k.tape.trans h.tape,k.output.trans h.output,wu h.size k.size,fun i hi=>(k.old i hi).trans (h.old i hi),
  fun i arr e m hi=>by have:=h.cells i arr e m hi;exact(k.cells i arr e m (this.trans hi)).trans this⟩
def Hush.mono{n':Nat}{a b:j5}(h:Hush n a b)(hn:n'<=n):Hush n' a b:=⟨h.os,h.tape,h.output,h.size,fun i hi=>h.old i oa,h.cells⟩
def pK:j6->D
 | .agg _| .tuple _=>.any
 | v=>.one (.c (.lit v))
def Bd(g:Nat):D:=
 match LR g with
 | some vs=>.one (.c (.pt (vs.map C.lit)))
 | none=>.any
def DS.ev(s:DS):j9->D
 | .tmp t=>s.sl t
 | .const v=>pK v
 | .global g=>Bd g
 | .func f=>.one (.c (.fn f []))
def L8(w:j5)(E:Env)(v:j6):VD w E (pK v) v:=by
 cases v<;>first|exact .any _|exact .one _ _ (.c _ _ (.lit _ rfl))
def RelE.ev{X:Origin}(h:RelE X s E a w)(x:j9):VD w E (s.ev x) (a.eval x):=by
 cases x with
 | tmp t=>exact h.sl t
 | const v=>exact L8 w E v
 | global g=>
  show VD w E (Bd g) _;unfold Bd;cases hg:LR g with
  | none=>exact .any _
  | some vs=>
   refine .one _ _ (.c _ _ (.pt _ g 0 (fun j=>vs.getD j undef) (fun j hj=>?_) fun j c hc=>?_))
   ·have hj':j<vs.length:=by grind
    have hv:vs[j]? =some (vs.getD j undef):=og;obtain⟨_,h2,h3⟩:=h.wi.kok.g g vs hg j _ hv;rw[yi];exact⟨h2,h3⟩
   ·rw[wh]at hc;cases hv:vs[j]? with
    | none=>grind
    | some v=>
     rw[hv]at hc;injection hc with hc;subst hc
     have Tf:vs.getD j undef=v:=og;rw[Tf];exact .lit v (h.wi.kok.g g vs hg j v hv).1
 | func f=>exact .one _ _ (.c _ _ (.fn f [] #[] rfl (fun j c v h1 _=>by simp at h1)))
def vP(next:DS->Prop)(Q:ah->DS->Prop):ah->DS->Prop
 | .normal,s=>next s
 | e,s=>Q e s
def zo(id:Nat)(Q:ah->DS->Prop):ah->DS->Prop
 | .exit id',s=>if id'=id then Q .normal s else Q (.exit id') s
 | e,s=>Q e s
def rd:Option Nat->Fence
 | none=>ya
 | some l=>ya.inRound l
def Ee(ro:Option Nat):(rd ro).round=ro:=by cases ro<;>rfl
def rv(ro:Option Nat)(f:am):(rd ro).fn f:=by cases ro<;>exact trivial
def tP(ro:Option Nat):(rd ro).depth=none:=by cases ro<;>rfl
def Kw(ro:Option Nat)(P:Program):Machine.fenced P (rd ro)=Machine.fenced P ya:=by cases ro<;>rfl
def DW(P:Program)(c:Code)(s:DS)(Q:ah->DS->Prop):Prop:=
 ∀X a w,Z1 X s a w->c.wpIn (rd X.ro) 0 P (fun e a' w'=>∃s',Q e s'/\Z1 X s' a' w') a w
section
variable {P:Program} {s:DS} {Q:ah->DS->Prop}
def DW.mono{Q':ah->DS->Prop}(h:DW P c s Q)(hq: ∀e s,Q e s->Q' e s):DW P c s Q':=
 fun X a w hr=>wpIn_mono (h X a w hr) (fun e _ _ ⟨s',h1,h2⟩=>⟨s',hq e s' h1,h2⟩)
def qk{x:Code}(h:DW P x s (vP (fun s'=>DW P y s' Q) Q)):DW P (.seq x y) s Q:=by
 intro X a w hr;refine wpIn_seq (wpIn_mono (h X a w hr) ?_);intro e a' w' ⟨s',h1,h2⟩;cases e with
 | normal=>exact h1 X a' w' h2
 | _=>exact⟨s',h1,h2⟩
def qt(h:Q .normal s):DW P .skip s Q:=fun _ _ _ hr=>wpIn_skip ⟨s,h,hr⟩
def RO{l:Nat}(h:Q .normal s):DW P (.label l) s Q:=fun _ _ _ hr=>wpIn_label ⟨s,h,hr⟩
def qv{id:Nat}(h:Q (.exit id) s):DW P (.exit id) s Q:=fun _ _ _ hr=>wpIn_exit ⟨s,h,hr⟩
def qb(h:Q .ret s):DW P .ret s Q:=fun _ _ _ hr=>wpIn_ret ⟨s,h,hr⟩
def qm{id:Nat}(h:DW P c s (zo id Q)):DW P (.block id c) s Q:=by
 intro X a w hr;refine wpIn_block (wpIn_mono (h X a w hr) ?_);intro e a' w' ⟨s',h1,h2⟩;cases e with
 | exit id'=>
  simp only[Exit.inBlock,zo]at h1 ⊢;split
  ·grind
  ·grind
 | _=>exact⟨s',h1,h2⟩
def VD.lit{w:j5}{E:Env}{u v:j6}(h:VD w E (.one (.c (.lit u))) v):v=u:=by
 cases h with
 | one t v h=>cases h with
  | c c v h=>cases h with
   | lit v h=>rfl
def qW{c:j9}{x:Code}{t:Bool}(hc:s.ev c= .one (.c (.lit (.bool t))))(ht:t=true->DW P x s Q)(hf:t=false->DW P y s Q):DW P (.cond c x y) s Q:=by intro X a w hr;obtain⟨E,hE⟩:=hr;have hv:=hE.ev c;rw[hc]at hv;refine wpIn_cond_split hv.lit (fun h=>ht h X a w ⟨E,hE⟩) (fun h=>hf h X a w ⟨E,hE⟩)
def DS.Sub(s s':DS):Prop:=∀X a w,Z1 X s a w->Z1 X s' a w
def qn(hs:s.Sub s')(h:DW P c s' Q):DW P c s Q:=fun X a w hr=>h X a w (hs X a w hr)
def Cz(h:DW P c s (fun e s1=>∃s2,s1.Sub s2/\Q e s2)):DW P c s Q:=fun X a w hr=>
 wpIn_mono (h X a w hr) (fun _ _ _ ⟨_,⟨s2,h1,h2⟩,h3⟩=>⟨s2,h2,h1 X _ _ h3⟩)
def Program.ldk(P:Program)(t:j8):Option (Option Nat):=
 match P.underlying t,P.info? t with
 | some (.struct _),some i|some (.array _ _),some i=>some (some i.size)
 | some _,some _=>some none
 | _,_=>none
def iy(rows:Rows)(sz i:Nat):Option (List T):=(rows[i]?).bind fun r=>if r.length=sz then some r else none
def C9(P:Program)(bx:vT)(t:j8)(x:D):Option D:=
 match Program.ldk P t,x with
 | some none,.one (.c (.pt (c::_)))=>some (.one (.c c))
 | some none,.one (.bx n sz i o)=>(bx n).bind fun rows=>(iy rows sz i).bind fun r=>r[o]?.map .one
 | some (some k),.one (.c (.pt cs))=>if k<=cs.length then some (.agg ((cs.take k).map T.c))else none
 | some (some k),.one (.bx n sz i o)=>(bx n).bind fun rows=>(iy rows sz i).bind fun r=>if o+k<=r.length then some (.agg ((r.drop o).take k))else none
 | _,_=>none
def fN{r:List T}(h:iy rows sz i=some r):rows[i]? =some r/\r.length=sz/\rows≠ []:=by
 unfold iy at h;simp only[w7]at h;obtain⟨r',h1,h2⟩:=h;split at h2
 ·grind
 ·cases h2
def BoxIs.row{w:j5}{E:Env}{b:Nat}{rows:Rows}(h:BoxIs w E b rows){i:Nat}{r:List T}(hr:rows[i]? =some r):
  ∃arr e,w.heap[b]? =some (.cells arr e (0,0))/\(i+1)*r.length<=arr.size/\∀(j:Nat) t v,r[j]? =some t->arr[i*r.length+j]? =some v->VT w E t v:=by
 obtain⟨sz,arr,e,h1,h2,h3,h4⟩:=h;have hl:=h2 r (ww hr);subst hl;have hi:i<rows.length:=og;exact⟨arr,e,h1,by rw[h3];exact wQ _ hi,fun j t v g1 g2=>h4 i j r t v hr g1 g2⟩
def Je{P:Program}(h:Program.ldk P t=some none)(a:Addr)(w:j5):(loadVar t a).run P w=(load a).run P w:=by
 unfold Program.ldk at h;cases hu:P.underlying t with
 | none=>grind
 | some d=>
  cases hi:P.info? t with
  | none=>grind
  | some i=>
   rw[hu,hi]at h;have hg:(isAgg t).run P w= .ok false w:=by
    cases d<;>first|(simp[isAgg,run_underlying hu];done)|cases h
   simp[loadVar,hg]
def Jf{P:Program}{t:j8}{k:Nat}(h:Program.ldk P t=some (some k))(a:Addr)(w:j5):
  (loadVar t a).run P w=((loadCells a k).run P w).andThen fun cs w'=>.ok (.agg cs) w':=by
 unfold Program.ldk at h;cases hu:P.underlying t with
 | none=>grind
 | some d=>
  cases hi:P.info? t with
  | none=>grind
  | some i=>
   rw[hu,hi]at h;have hk:i.size=k:=og;have hg:(isAgg t).run P w= .ok true w:=by
    cases d<;>first|(simp[isAgg,run_underlying hu];done)|(simp at h)
   simp[loadVar,hg,sizeOf,typeInfo,hi,hk]
def vE(b o n:Nat):(⟨b,o,none⟩:Addr).add n=⟨b,o+n,none⟩:=by
 unfold Addr.add;split
 ·simp
 ·rfl
def Pm{P:Program}{bx:vT}{t:j8}{x d:D}(h:C9 P bx t x=some d){w:j5}{E:Env}(hb: ∀n rows,bx n=some rows->rows≠ []->BoxIs w E (E.ρ n) rows){v:j6}
  (hv:VD w E x v): ∃ad u,v= .pointer (some ad)/\(loadVar t ad).run P w= .ok u w/\VD w E d u:=by
 unfold C9 at h;split at h
 ·rename_i hk;injection h with h;subst h
  cases hv with|one t v hv=>cases hv with|c c v hv=>cases hv with
   | pt cs b o cv hK hr=>
    refine⟨_,cv 0,rfl,?_,.one _ _ (.c _ _ (hr 0 _ rfl))⟩;rw[Je hk];have:=(hK 0 oh).2;simp only[jB]at this;simp[this]
 ·rename_i n sz i o hk;simp only[w7,wK]at h;obtain⟨rows,Ti,r,ZE,t',ht,rfl⟩:=h;obtain⟨g1,g2,g3⟩:=fN ZE;obtain⟨arr,e,h1,h2,h3⟩:=(hb n rows Ti g3).row g1;subst g2;cases hv with|one t v hv=>cases hv with
   | bx n sz i o=>
    have ho:o<r.length:=og;have qf:i*r.length+o<arr.size:=og;refine⟨_,arr[i*r.length+o],rfl,?_,.one _ _ (h3 o t' _ ht (wY qf))⟩;rw[Je hk];simp[World.cell?,h1,qf]
 ·rename_i k cs hk;split at h
  ·rename_i vh;injection h with h;subst h
   cases hv with|one t v hv=>cases hv with|c c v hv=>cases hv with
    | pt cs b o cv hK hr=>
     refine⟨_,.agg ((wR k).map cv).toArray,rfl,?_,?_⟩
     ·rw[Jf hk,run_loadCells w _ k cv (fun j hj=>by rw[vE];exact(hK j oa).2)];rfl
     ·refine .agg _ _ ot fun j c v h1 h2=>?_;rw[wh,yx]at h1;split at h1
      ·rename_i hj;have:v=cv j:=og;subst this;cases hc:cs[j]? with
       | none=>grind
       | some c'=>rw[hc]at h1;injection h1 with h1;subst h1;exact .c _ _ (hr j c' hc)
      ·cases h1
  ·cases h
 ·rename_i k n sz i o hk;simp only[w7]at h;obtain⟨rows,Ti,r,ZE,h⟩:=h;split at h
  ·rename_i vh;injection h with h;subst h
   obtain⟨g1,g2,g3⟩:=fN ZE;obtain⟨arr,e,h1,h2,h3⟩:=(hb n rows Ti g3).row g1;subst g2;rw[yo,jd]at h2;cases hv with|one t v hv=>cases hv with
    | bx n sz i o=>
     refine⟨_,.agg ((wR k).map fun j=>arr.getD (i*r.length+o+j) undef).toArray,rfl,?_,?_⟩
     ·rw[Jf hk,run_loadCells w _ k (fun j=>arr.getD (i*r.length+o+j) undef) (fun j hj=>by rw[vE];have:i*r.length+o+j<arr.size:=oa;simp[World.cell?,h1,this])]
      rfl
     ·refine .agg _ _ ot fun j c v k1 k2=>?_;have hj:j<k:=og;have qf:i*r.length+o+j<arr.size:=oa;have hv:v=arr[i*r.length+o+j]:=oA;subst hv;rw[yx,ae hj,yl]at k1;exact h3 (o+j) c _ k1 (by rw[<-ju];exact wY qf)
  ·cases h
 ·cases h
def E0(K:qM):Env:=⟨K,fun _=>0,fun _=>(.slice none 0 0,0)⟩
structure Ret(w:j5)(K:qM)(w':j5)(E':Env):Prop where
 below:Below w.heap.size w w'
 kin: ∀b o,K b o->E'.K b o
 kold: ∀b o,b<w.heap.size->E'.K b o->K b o
 kok:KOk w' E'.K
 free: ∀n b o,zP (E'.val n) b o->w.heap.size<=b/\¬E'.K b o/\Free w' b o
 disj: ∀n m b o,zP (E'.val n) b o->zP (E'.val m) b o->n=m
def Program.plainF(P:Program)(f:am):Bool:=
 match P.funcs[f]? with
 | some fn => fn.name != "runtime.NumGoroutine" && fn.body.isSome
 | none=>false
def DCalls(P:Program)(f:am)(ds:List D)(r:D):Prop:=
 Program.plainF P f=true/\∀(w:j5) (K:qM) (vs:Array j6),KOk w K->vs.size=ds.length->
  (∀(j:Nat) d v,ds[j]? =some d->vs[j]? =some v->VD w (E0 K) d v)->
  Calls P f vs w fun e w'=>∃v E',e= .returned v/\Ret w K w' E'/\VD w' E' r v
def fO(P:Program)(s:DS):List ResultVar->Option (List D)
 | []=>some []
 | .tmp t::r=>(fO P s r).map fun l=>s.sl t::l
 | .cell a t::r=>(C9 P s.bx t (s.sl a)).bind fun d=>(fO P s r).map fun l=>d::l
def Zs(P:Program)(s:DS)(rs:List ResultVar):Option D:=
 (fO P s rs).map fun
  | [d]=>d
  | ds=>.tup ds
def Kt(tmps:Array j6):ResultVar->Sem j6
 | .tmp t=>pure (tmps.getD t undef)
 | .cell b t=>do loadVar t (<-asAddr (tmps.getD b undef))
def tI(fn:Func)(tmps:Array j6):results fn tmps=(do
  let vs <-fn.results.mapM (Kt tmps)
  pure (if h:vs.size=1 then vs[0]else .tuple vs)):=by
 unfold results;congr 1
def BT{P:Program}{X:Origin}{s:DS}{E:Env}{a:Act}{w:j5}(hr:RelE X s E a w): ∀(rs:List ResultVar) (ds:List D),fO P s rs=some ds->
  ∃vs:List j6,(rs.mapM (Kt a.tmps)).run P w= .ok vs w/\vs.length=ds.length/\∀(j:Nat) d v,ds[j]? =some d->vs[j]? =some v->VD w E d v
 | [],ds,h=>by
  injection h with h;subst h
  exact⟨[],oh,rfl,fun j d v h1 _=>by simp at h1⟩
 | .tmp t::r,ds,h=>by
  simp only[fO,wK]at h;obtain⟨l,hl,rfl⟩:=h;obtain⟨vs,h1,h2,h3⟩:=BT hr r l hl;refine⟨a.tmps.getD t undef::vs,by simp only[jV,wq,Kt,wG,h1,wj],by simp[h2],fun j d v g1 g2=>?_⟩;cases j with
  | zero=>simp at g1 g2;subst g1;subst g2;simpa using hr.sl t
  | succ j=>grind
 | .cell b t::r,ds,h=>by
  simp only[fO,w7,wK]at h;obtain⟨d0,hd,l,hl,rfl⟩:=h;obtain⟨vs,h1,h2,h3⟩:=BT hr r l hl;obtain⟨ad,u,g1,g2,g3⟩:=Pm hd (fun n ts hn qH=>(hr.wi.boxes n ts hn qH).2.1) (hr.sl b);refine⟨u::vs,?_,by simp[h2],fun j d v k1 k2=>?_⟩
  ·have ha:(asAddr (a.tmps.getD b undef)).run P w= .ok ad w:=by rw[g1];rfl
   have hf:(Kt a.tmps (.cell b t)).run P w= .ok u w:=by simp only[Kt,wq,ha,wj,g2]
   simp only[jV,wq,hf,wG,h1,wj]
  ·grind
def BU{P:Program}{X:Origin}{s:DS}{E:Env}{a:Act}{w:j5}(hr:RelE X s E a w){fn:Func}{r:D}(h:Zs P s fn.results.toList=some r):
  ∃v,(results fn a.tmps).run P w= .ok v w/\VD w E r v:=by
 simp only[Zs,wK]at h;obtain⟨ds,hds,hr'⟩:=h;obtain⟨vs,h1,h2,h3⟩:=BT hr _ ds hds;have hm:(fn.results.mapM (Kt a.tmps)).run P w= .ok vs.toArray w:=by rw[Array.mapM_eq_mapM_toList];simp only[Sem.run_map,h1,wj]
 rw[tI];simp only[wq,hm,wj,wG]
 match ds,vs,h2 with
 | [d],[v],_=>
  subst hr';exact⟨v,oh,h3 0 d v rfl rfl⟩
 | [],[],_=>
  subst hr';exact⟨.tuple #[],oh,.tup [] #[] rfl (fun j d v g1 _=>by simp at g1)⟩
 | d::d'::ds,v::v'::vs,h2=>
  subst hr';exact⟨.tuple (v::v'::vs).toArray,oh,.tup _ _ (by simpa using h2) (fun j d v g1 g2=>h3 j d v g1 (by simpa using g2))⟩
def lv{fn:Func}{X:Origin}{s:DS}{E:Env}{a:Act}{w:j5}{u:FrameMode}(hu:u≠ .run)(Dc:X.w.heap.size<=X.mrk)(hE:RelE X s E a w){R:Ending->j5->Prop}
  (hR: ∀w₂,RelE X s E { a with defers:=X.base } w₂->LeavesInM ya 0 P fn a.tmps R X.base u w₂):LeavesInM ya 0 P fn a.tmps R a.defers u w:=by
 have key: ∀(Ds:List Nat) (w:j5),Ds.Nodup->RelE X s E { a with defers:=X.base } w->(∀D∈Ds,X.w.heap.size<=D/\w.heap[D]? =some (.deferred (some [])))->
   LeavesInM ya 0 P fn a.tmps R (Ds.map (fun D=>{ target:=.collected D,args:= #[] })++X.base) u w:=by
  intro Ds;induction Ds with
  | nil=>exact fun w _ h _=>hR w h
  | cons D Ds ih=>
   intro w rH h hD;obtain⟨h1,h2⟩:=jE.1 rH;obtain⟨h3,h4⟩:=hD D oh;refine⟨hu,.inl ⟨D,_,rfl,run_takeDeferred h4,ih _ h2 (h.hush (Hush.putObj _ h3 h4 oh) rfl (DefOK.nil _ _ hE.defers.1)) fun D' hD'=>?_⟩⟩;obtain⟨g1,g2⟩:=hD D' (by simp[hD']);exact⟨g1,(wX (show D'≠D from fun e=>h1 (by rw[<-e];exact hD'))).trans g2⟩
 obtain⟨h0,Ds,rH,hds,hD⟩:=hE.defers;rw[hds];exact key Ds w rH ⟨hE.wi,hE.sl,hE.size,DefOK.nil _ _ h0,hE.small,hE.pl⟩ fun D h=>⟨wu Dc (hD D h).1,(hD D h).2⟩
def EL{fn:Func}{X:Origin}{s:DS}{E:Env}{a:Act}{w:j5}(Fa:X.base= [])(Dc:X.w.heap.size<=X.mrk)(hE:RelE X s E a w){r:D}(hr:Zs P s fn.results.toList=some r){R:Ending->j5->Prop}
  (hR: ∀w₂ v,WI X w₂ E s.bx->VD w₂ E r v->R (.returned v) w₂):LeavesInM ya 0 P fn a.tmps R a.defers .returning w:=
 lv oh Dc hE fun w₂ h=>by rw[Fa];obtain⟨v,h1,h2⟩:=BU h hr;exact⟨v,h1,hR _ _ h.wi h2⟩
def zZ(N:Nat)(ds:List D)(H:vT):DS:={ n:=N,sl:=fun t=>ds.getD t .any,bx:=H }
def ECalls(P:Program)(f:am)(ds:List D)(H:vT)(Q:D->vT->Prop):Prop:=
 Program.plainF P f=true/\∀(w:j5) (E:Env) (F:qM) (vs:Array j6),WI ⟨w,E.K,F,E.ρ,NB,none,w.heap.size,[]⟩ w E H->vs.size=ds.length->
  (∀(j:Nat) d v,ds[j]? =some d->vs[j]? =some v->VD w E d v)->
  Calls P f vs w fun e w'=>∃v E' r H',e= .returned v/\Q r H'/\WI ⟨w,E.K,F,E.ρ,NB,none,w.heap.size,[]⟩ w' E' H'/\VD w' E' r v
def ni{P:Program}{f:am}{fn:Func}{c:Code}{ds:List D}{H:vT}{Q:D->vT->Prop}(hp:Program.plainF P f=true)(hf:P.funcs[f]? =some fn)(hb:fn.body=some c)(hn:ds.length<=fn.ntmps)(hN:fn.ntmps<=NB)
  (h:DW P c (zZ fn.ntmps ds H) (fun e s'=>(e= .normal\/e= .ret)/\∃r,Zs P s' fn.results.toList=some r/\Q r s'.bx)):ECalls P f ds H Q:=by
 refine⟨hp,fun w E F vs aM hl hv=>?_⟩;refine callsIn_wide (n:=0) |>.1 (callsIn_of_wp_marks hf hb trivial ?_)
 have Qk:Z1 ⟨w,E.K,F,E.ρ,NB,none,w.heap.size,[]⟩ (zZ fn.ntmps ds H) { tmps:=vs++yg (fn.ntmps - vs.size) undef,defers:= [] } w:=by
  refine⟨E,⟨aM,fun t=>?_,?_,DefOK.nil _ _ (wl _),⟨hN,wl _⟩,fun _=>rfl⟩⟩
  ·simp only[zZ];by_cases ht:t<ds.length
   ·have h1:ds[t]? =some (ds.getD t .any):=by grind
    have h2:vs[t]? =some (vs[t]' oa):=oh;have h3:(vs++yg (fn.ntmps - vs.size) undef).getD t undef=vs[t]' oa:=by have:t<vs.size:=oa;simp[jP,this]
    simp only[h3];exact hv t _ _ h1 h2
   ·have:ds.getD t .any= .any:=by grind
    rw[this];exact .any _
  ·simp[zZ];omega
 refine wpIn_mono (h _ _ w Qk) ?_;intro e a' w' ⟨s',⟨he,r,hr,hQ⟩,E',hE⟩;have iE:LeavesInM ya 0 P fn a'.tmps (fun e w'=>∃v E' r H',e= .returned v/\Q r H'/\WI ⟨w,E.K,F,E.ρ,NB,none,w.heap.size,[]⟩ w' E' H'/\VD w' E' r v) a'.defers .returning w':=
  EL rfl (wl _) hE hr fun w₂ v aM hv=>⟨v,E',r,s'.bx,rfl,hQ,aM,hv⟩
 rcases he with rfl|rfl<;>exact iE
def qA:vT:=fun _=>none
def BB(w:j5)(K:qM)(hk:KOk w K):WI ⟨w,K,fun _ _=>False,(E0 K).ρ,NB,none,w.heap.size,[]⟩ w (E0 K) qA:=by
 have hns: ∀n b o,¬zP ((E0 K).val n) b o:=fun n b o ⟨a,len,cap,h1,_⟩=>by simp[E0]at h1
 exact⟨Turn.refl _ _,fun _ _ _ h=>h,fun _ _ h=>h,fun _ _ _ _ h=>h,hk,(fun n ts hn=>by cases hn),fun n m rn rm hn=>(by cases hn),fun n b o hs=>ak hs (hns n b o),fun n m b o hs=>ak hs (hns n b o),
   fun n m b o rm hs=>ak hs (hns n b o),fun _ _=>rfl⟩
def ECalls.pure{P:Program}{ds:List D}{r:D}(h:ECalls P f ds qA (fun r' _=>r'=r)):DCalls P f ds r:=by refine⟨h.1,fun w K vs hk hl hv=>?_⟩;refine Calls.mono (h.2 w (E0 K) (fun _ _=>False) vs (BB w K hk) hl hv) ?_;rintro e w' ⟨v,E',r',H',rfl,rfl,aM,hv'⟩;refine⟨v,E',rfl,⟨aM.turn.below,aM.kin,fun b o hb=>aM.kold b o hb id,aM.kok,fun n b o hs=>?_,aM.disj⟩,hv'⟩;obtain⟨h1,h2,h3⟩:=aM.free n b o hs;exact⟨h1.resolve_right id,h2,h3⟩
def CG{P:Program}{f:am}{fn:Func}{c:Code}{ds:List D}{r:D}(hp:Program.plainF P f=true)(hf:P.funcs[f]? =some fn)(hb:fn.body=some c)(hn:ds.length<=fn.ntmps)(hN:fn.ntmps<=NB)
  (h:DW P c (zZ fn.ntmps ds qA) (fun e s'=>(e= .normal\/e= .ret)/\Zs P s' fn.results.toList=some r)):DCalls P f ds r:=
 ECalls.pure (ni hp hf hb hn hN (h.mono fun _ _ ⟨h1,h2⟩=>⟨h1,r,h2,rfl⟩))
end
def D.asLit:D->Option j6
 | .one (.c (.lit v))=>some v
 | _=>none
def D.asSl:D->Option (Nat×List (List C))
 | .one (.c (.sl sz xs))| .one (.own _ sz xs)| .one (.ex sz xs)=>some (sz,xs)
 | _=>none
def D.cells:D->Option (List T)
 | .one t=>some [t]
 | .agg ts=>some ts
 | _=>none
def D.cl:D->D
 | .one t=>.one (.c t.cl)
 | .agg ts=>.agg (ts.map fun t=>.c t.cl)
 | _=>.any
def xC(h:d.asLit=some u)(hv:VD w E d v):v=u:=by
 unfold D.asLit at h;split at h
 ·injection h with h;subst h;exact hv.lit
 ·cases h
def sV{xs:List (List C)}(h:d.asSl=some (sz,xs))(hv:VD w E d v):VC w E.K (.sl sz xs) v:=by
 unfold D.asSl at h;split at h<;>first|(cases h;done)|skip
 all_goals
  injection h with h
  injection h with h1 h2
  subst h1;subst h2;cases hv with|one t v hv=>cases hv;assumption
def gy{w:j5}{E:Env}{d:D}{ts:List T}{v:j6}(h:d.cells=some ts)(hv:VD w E d v):
  v.cells.size=ts.length/\(∀(j:Nat) t u,ts[j]? =some t->v.cells[j]? =some u->VT w E t u)/\∀u∈v.cells.toList,u.oneCell'=true:=by
 cases hv with
 | any v=>cases h
 | tup=>cases h
 | one t v hv=>
  injection h with h;subst h
  have h1:v.cells= #[v]:=by have:=hv.oneCell';cases v<;>first|rfl|(simp[Value.oneCell']at this)
  rw[h1];refine⟨rfl,fun j t u g1 g2=>?_,fun u hu=>?_⟩
  ·grind
  ·simp at hu;subst hu;exact hv.oneCell'
 | agg cs vs hl hr=>
  injection h with h;subst h
  refine⟨hl,hr,fun u hu=>?_⟩;obtain⟨j,hj,gd⟩:=List.mem_iff_getElem.1 hu;have hj':j<vs.size:=by simpa[Value.cells]using hj
  have h2:vs[j]? =some u:=by rw[wY hj'];simp[Value.cells]at gd;rw[gd]
  have h3:cs[j]? =some (cs[j]' oa):=oh;exact(hr j _ u h3 h2).oneCell'
def VD.cl(h:VD w E d v):VD w (E0 E.K) d.cl v:=by
 cases h with
 | any v=>exact .any v
 | one t v h=>exact .one _ _ (.c _ _ h.cl)
 | agg ts vs hl hr=>
  refine .agg _ vs (by simpa using hl) fun j t v h1 h2=>?_;rw[wh]at h1;cases hc:ts[j]? with
  | none=>grind
  | some t'=>rw[hc]at h1;injection h1 with h1;subst h1;exact .c _ _ (hr j t' v hc h2).cl
 | tup ds vs hl hr=>exact .any _
def VC.sl_inv{w:j5}{K:qM}{sz:Nat}{xs:List (List C)}{v:j6}(h:VC w K (.sl sz xs) v):
  (v= .slice none 0 0/\xs= [])\/∃(a:Addr) (cap:Nat) (cv:Nat->j6),v= .slice (some a) xs.length cap/\(∀r∈xs,r.length=sz)/\xs.length<=cap/\cap<=maxLen/\
   (∀j,j<xs.length*sz->a.spot=none/\K a.block (a.off+j)/\w.cell? ⟨a.block,a.off+j,none⟩=some (cv j))/\
   (∀(i j:Nat) r c,xs[i]? =some r->r[j]? =some c->VC w K c (cv (i*sz+j))):=by
 cases h with
 | nil=>simp
 | sl sz xs a cap cv vo hc hm hK hr=>exact .inr ⟨a,cap,cv,rfl,vo,hc,hm,hK,hr⟩
def Program.elemSz(P:Program)(t:j8):Option Nat:=
 match P.underlying t with
 | some (.slice e)=>(P.info? e).bind fun i=>if i.size=0 then none else some i.size
 | _=>none
def Program.fieldOff(P:Program)(t:j8)(f:Nat):Option Nat:=
 match P.underlying t with
 | some (.struct fs)=>match fs[f]? with
  | some fd=>match P.info? fd.type with
   | some i=>if i.size=0 then none else some fd.offset
   | none=>none
  | none=>none
 | _=>none
def Program.places(P:Program)(t:j8):Option (List (Nat×Nat)):=
 match P.underlying t with
 | some (.struct fs)=>fs.toList.mapM fun fd=>(P.info? fd.type).map fun i=>(fd.offset,i.size)
 | _=>none
def Program.cellTys(P:Program):Nat->j8->Option (List j8)
 | 0,_=>none
 | k+1,t=>match P.underlying t with
  | some (.struct fs)=>(fs.toList.mapM fun fd=>Program.cellTys P k fd.type).map List.flatten
  | some (.array n e)=>(Program.cellTys P k e).map fun l=>(yb n l).flatten
  | some _=>some [t]
  | none=>none
def Program.zc(P:Program)(v:j6)(t:j8):C:=
 match v,P.underlying t with
 | .slice none 0 0,some (.slice e)=>.sl (P.cellsOf e) []
 | v,_=>.lit v
def Program.zeroC(P:Program)(t:j8):Option (List C):=
 match (P.info? t).bind (·.zero),Program.cellTys P 8 t with
 | some z,some vy=>if z.cells.size=vy.length/\z.cells.all (·.oneCell')then some (List.zipWith (Program.zc P) z.cells.toList vy)else none
 | _,_=>none
def Program.zcT(P:Program)(v:j6)(t:j8):T:=
 match v,P.underlying t with
 | .slice none 0 0,some (.slice e)=>.ex (P.cellsOf e) []
 | v,_=>.c (.lit v)
def Program.zeroT(P:Program)(t:j8):Option (List T):=
 match (P.info? t).bind (·.zero),Program.cellTys P 8 t with
 | some z,some vy=>if z.cells.size=vy.length/\z.cells.all (·.oneCell')then some (List.zipWith (Program.zcT P) z.cells.toList vy)else none
 | _,_=>none
def YL(w:j5)(E:Env)(v:j6)(t:j8)(h:v.oneCell'=true):VT w E (Program.zcT P v t) v:=by
 unfold Program.zcT;split
 ·exact .ex _ _ _ (.nil _) ⟨none,0,rfl⟩
 ·exact .c _ _ (.lit _ h)
def qeg(w:j5)(K:qM)(v:j6)(t:j8)(h:v.oneCell'=true):VC w K (Program.zc P v t) v:=by
 unfold Program.zc;split
 ·exact .nil _
 ·exact .lit _ h
def sZ{P:Program}{t:j8}{cs:List C}(h:Program.zeroC P t=some cs): ∃i z,P.info? t=some i/\i.zero=some z/\z.cells.size=cs.length/\
  ∀(w:j5) (K:qM) (j:Nat) c u,cs[j]? =some c->z.cells[j]? =some u->VC w K c u:=by
 unfold Program.zeroC at h;cases hi:P.info? t with
 | none=>grind
 | some i=>
  cases hz:i.zero with
  | none=>grind
  | some z=>
   simp only[hi,hz,yT]at h;cases hc:Program.cellTys P 8 t with
   | none=>grind
   | some vy=>
    simp only[hc]at h;split at h
    ·rename_i hs;injection h with h;subst h
     refine⟨i,z,rfl,hz,by simp[hs.1],fun w K j c u g1 g2=>?_⟩;simp only[List.getElem?_zipWith]at g1;have g3:z.cells.toList[j]? =some u:=og;rw[g3]at g1;cases ht:vy[j]? with
     | none=>grind
     | some ty=>
      rw[ht]at g1;simp at g1;subst g1;have:=hs.2;rw[Array.all_eq_true]at this;obtain⟨qf,dC⟩:=wH.1 g2;exact qeg w K u ty (dC▸this j qf)
    ·cases h
def l8{P:Program}{t:j8}{cs:List T}(h:Program.zeroT P t=some cs): ∃i z,P.info? t=some i/\i.zero=some z/\z.cells.size=cs.length/\
  ∀(w:j5) (E:Env) (j:Nat) c u,cs[j]? =some c->z.cells[j]? =some u->VT w E c u:=by
 unfold Program.zeroT at h;cases hi:P.info? t with
 | none=>grind
 | some i=>
  cases hz:i.zero with
  | none=>grind
  | some z=>
   simp only[hi,hz,yT]at h;cases hc:Program.cellTys P 8 t with
   | none=>grind
   | some vy=>
    simp only[hc]at h;split at h
    ·rename_i hs;injection h with h;subst h
     refine⟨i,z,rfl,hz,by simp[hs.1],fun w E j c u g1 g2=>?_⟩;simp only[List.getElem?_zipWith]at g1;have g3:z.cells.toList[j]? =some u:=og;rw[g3]at g1;cases ht:vy[j]? with
     | none=>grind
     | some ty=>
      rw[ht]at g1;simp at g1;subst g1;have:=hs.2;rw[Array.all_eq_true]at this;obtain⟨qf,dC⟩:=wH.1 g2;exact YL w E u ty (dC▸this j qf)
    ·cases h
def QT(op:BinOp)(k:IntKind)(a b:Int):Int:=k.wrap ((match op with
 | .and=>BitVec.ofInt k.bits a &&& BitVec.ofInt k.bits b
 | .or=>BitVec.ofInt k.bits a ||| BitVec.ofInt k.bits b
 | .xor=>BitVec.ofInt k.bits a ^^^ BitVec.ofInt k.bits b
 | _=>BitVec.ofInt k.bits a &&& ~~~BitVec.ofInt k.bits b).toNat:Nat)
def sF(op:BinOp)(k:IntKind)(a b:Int):Int:=match op with
 | .shl=>k.wrap (a*2 ^ (min b.toNat k.bits))
 | _=>a.fdiv (2 ^ (min b.toNat k.bits))
def Xo(op:BinOp)(k:IntKind)(a b:Int):Option Value:=
 match op with
 | .shl=>if b<0 then none else some (.int k (sF .shl k a b))
 | .shr=>if b<0 then none else some (.int k (sF .shr k a b))
 | _=>none
def Pz(op:BinOp)(k:IntKind)(a b:Int):Option Value:=
 match op with
 | .add=>some (.int k (k.wrap (a+b)))
 | .sub=>some (.int k (k.wrap (a - b)))
 | .mul=>some (.int k (k.wrap (a*b)))
 | .eql=>some (.bool (a==b))
 | .neq=>some (.bool (a !=b))
 | .lss=>some (.bool (decide (a<b)))
 | .leq=>some (.bool (decide (a<=b)))
 | .gtr=>some (.bool (decide (b<a)))
 | .geq=>some (.bool (decide (b<=a)))
 | .shr=>if b=1 then some (.int k (a.fdiv 2))else Xo .shr k a b
 | .shl=>Xo .shl k a b
 | .and=>some (.int k (QT .and k a b))
 | .or=>some (.int k (QT .or k a b))
 | .xor=>some (.int k (QT .xor k a b))
 | .andNot=>some (.int k (QT .andNot k a b))
 | .quo=>if b=0 then none else some (.int k (k.wrap (a.tdiv b)))
 | .rem=>if b=0 then none else some (.int k (a.tmod b))
def DH(a b:ByteArray):Bool:=Op.bytesLess a.toList b.toList
def NH(op:BinOp)(a b:ByteArray):Option Value:=
 match op with
 | .add=>if a.size+b.size<=maxLen then some (.string (a++b))else none
 | .eql=>some (.bool (a==b))
 | .neq=>some (.bool (!(a==b)))
 | .lss=>some (.bool (DH a b))
 | .leq=>some (.bool (DH a b||(a==b)))
 | .gtr=>some (.bool (!(DH a b||(a==b))))
 | .geq=>some (.bool (!DH a b))
 | _=>none
def AO(P:Program)(t:j8)(off:Nat)(cs:List T):Option D:=
 match Program.ldk P t with
 | some none=>cs[off]?.map fun c=>.one c
 | some (some n)=>if off+n<=cs.length then some (.agg ((cs.drop off).take n))else none
 | none=>none
def RH(P:Program):Nat->j8->D->D->Option Bool
 | 0,_,_,_=>none
 | k+1,t,x,y=>match P.underlying t,x,y with
  | some (.int _),.one (.c (.lit (.int i a))),.one (.c (.lit (.int j b)))=>if i=j then some (a==b)else none
  | some .string,.one (.c (.lit (.string a))),.one (.c (.lit (.string b)))=>some (a==b)
  | some .bool,.one (.c (.lit (.bool a))),.one (.c (.lit (.bool b)))=>some (a==b)
  | some (.struct fs),.agg us,.agg bs=>if P.stoodInHeld t then none else
   fs.toList.foldr (fun f ig => if f.name ≠ "_" then
    (AO P f.type f.offset us).bind fun x=>(AO P f.type f.offset bs).bind fun y=>(RH P k f.type x y).bind fun b=>ig.map fun c=>b&&c else ig) (some true)
  | _,_,_=>none
def Program.isBoolT(P:Program)(t:j8):Bool:=
 match P.underlying t with
 | some .bool=>true
 | _=>false
def Cd:D->Option Bool
 | .one (.c (.lit (.slice none _ _)))=>some true
 | .one (.c (.lit (.slice (some _) _ _)))=>some false
 | .one (.c (.sl _ (_::_)))| .one (.own _ _ (_::_))| .one (.ex _ (_::_))=>some false
 | .one (.ba _ _ _ _ cap)=>if 0<cap then some false else none
 | _=>none
def Program.nilT(P:Program)(t:j8):Bool:=
 match P.underlying t with
 | some (.slice _)=>true
 | _=>false
def qa7(op:BinOp)(b:Bool):Option Value:=
 match op with
 | .eql=>some (.bool b)
 | .neq=>some (.bool (!b))
 | _=>none
def pR(P:Program)(op:BinOp)(t:j8)(x y:D):Option Value:=
 match x,y with
 | .one (.c (.lit (.int k a))),.one (.c (.lit (.int k' b)))=>if k=k' then Pz op k a b else Xo op k a b
 | .one (.c (.lit (.string a))),.one (.c (.lit (.string b)))=>NH op a b
 | .one (.c (.lit (.bool a))),.one (.c (.lit (.bool b)))=>if Program.isBoolT P t then(match op with
   | .eql=>some (.bool (a==b))
   | .neq=>some (.bool (!(a==b)))
   | _=>none)else none
 | .agg us,.agg bs=>if P.eqGuardType P.depth t then none else match op with
   | .eql=>(RH P 8 t (.agg us) (.agg bs)).map fun b=>.bool b
   | .neq=>(RH P 8 t (.agg us) (.agg bs)).map fun b=>.bool (!b)
   | _=>none
 | x,.one (.c (.lit (.slice none 0 0)))=>if Program.nilT P t then(Cd x).bind (qa7 op)else none
 | _,_=>none
def qdE(op:UnOp)(x:D):Option Value:=
 match op,x with
 | .not,.one (.c (.lit (.bool b)))=>some (.bool (!b))
 | .neg,.one (.c (.lit (.int k n)))=>some (.int k (k.wrap (0 - n)))
 | _,_=>none
def JH(P:Program)(src dst:j8)(x:D):Option Value:=
 match P.underlying src,P.underlying dst,x with
 | some _,some (.int k),.one (.c (.lit (.int _ n)))=>some (.int k (k.wrap n))
 | some _,some .string,.one (.c (.lit (.string s)))=>some (.string s)
 | _,_,_=>none
def QS(s:ByteArray):List (List C):=s.data.toList.map fun b=> [.lit (.int .u8 b.toNat)]
def Bs:C->Option UInt8
 | .lit (.int .u8 n)=>some (UInt8.ofNat n.toNat)
 | _=>none
def fM:List (List C)->Option (List UInt8)
 | []=>some []
 | [c]::l=>(Bs c).bind fun b=>(fM l).map fun r=>b::r
 | _=>none
def JG(P:Program)(src dst:j8)(x:D):Option D:=
 match P.underlying src,P.underlying dst,x with
 | some .string,some (.slice e),.one (.c (.lit (.string s)))=>match P.underlying e with
  | some (.int .u8)=>if s.size<=maxLen then some (.one (.c (.sl 1 (QS s))))else none
  | _=>none
 | some (.slice e),some .string,_=>match P.underlying e with
  | some (.int .u8)=>x.asSl.bind fun(sz,xs)=>if sz=1 then(fM xs).map fun l=>.one (.c (.lit (.string ⟨l.toArray⟩)))else none
  | _=>none
 | some (.int _),some .string,.one (.c (.lit (.int _ n)))=>some (.one (.c (.lit (.string (Utf8.encode n)))))
 | _,_,_=>none
def Bn(P:Program)(src dst:j8)(x:D):Option D:=
 match JH P src dst x with
 | some v=>some (.one (.c (.lit v)))
 | none=>JG P src dst x
def o8(P:Program)(t:j8)(x i:D):Option Value:=
 match P.underlying t,x,i with
 | some .string,.one (.c (.lit (.string s))),.one (.c (.lit (.int _ j)))=>if 0<=j then(s.data.toList[j.toNat]?).map fun b=>.int .u8 b.toNat else none
 | _,_,_=>none
def Lk(P:Program)(t:j8)(x:D):Option Int:=
 match P.underlying t,x with
 | some (.slice _),.one (.c (.sl _ xs))|some (.slice _),.one (.own _ _ xs)|some (.slice _),.one (.ex _ xs)=>some xs.length
 | some (.slice _),.one (.ba _ _ _ n _)=>some n
 | some (.slice _),.one (.c (.lit (.slice _ n _)))=>some n
 | some .string,.one (.c (.lit (.string s)))=>some s.size
 | _,_=>none
def Mg(P:Program)(t:j8)(x:D):Option Int:=
 match P.underlying t,x with
 | some (.slice _),.one (.ex _ xs)=>some xs.length
 | some (.slice _),.one (.ba _ _ _ _ cap)=>some cap
 | some (.slice _),.one (.c (.lit (.slice _ _ c)))=>some c
 | _,_=>none
def cE(x:Option D)(Wj:Nat):Option Nat:=
 match x with
 | none=>some Wj
 | some (.one (.c (.lit (.int _ n))))=>if 0<=n then some n.toNat else none
 | _=>none
def iX(P:Program)(t:j8)(x:D)(lo hi mx:Option D):Option D:=
 match P.underlying t,x with
 | some .string,.one (.c (.lit (.string s)))=>match mx with
  | some _=>none
  | none=>(cE lo 0).bind fun l=>(cE hi s.size).bind fun h=>if l<=h/\h<=s.size then some (.one (.c (.lit (.string (s.extract l h)))))else none
 | some (.slice _),.one (.ba n sz i len cap)=>if Program.elemSz P t=some sz then
   (cE lo 0).bind fun l=>(cE hi len).bind fun h=>(match mx with
    | none=>some cap
    | some m=>if hi.isSome then cE (some m) 0 else none).bind fun m=>if l<=h/\h<=m/\m<=cap then some (.one (.ba n sz (i+l) (h - l) (m - l)))else none
  else none
 | some (.slice _),x=>x.asSl.bind fun(sz,xs)=>if Program.elemSz P t=some sz then
   (cE lo 0).bind fun l=>(cE hi xs.length).bind fun h=>if l<=h/\h<=xs.length then
    match mx with
    | none=>some (.one (.c (.sl sz ((xs.take h).drop l))))
    | some m=>if hi.isSome then(cE (some m) 0).bind fun m=>if m=h then some (.one (.ex sz ((xs.take h).drop l)))else none else none
   else none
  else none
 | _,_=>none
def Fp(place:Nat->Option (Nat×Nat))(cells:List T):List (Nat×D)->Option (List T)
 | []=>some cells
 | (i,d)::rest=>
  match place i,d.cells with
  | some (off,size),some cs=>if cs.length=size/\off+size<=cells.length then Fp place (cells.take off++(cs++cells.drop (off+size))) rest else none
  | _,_=>none
def pO(P:Program)(t:j8)(parts:List (Nat×D)):Option (List T):=
 match Program.places P t,Program.zeroT P t with
 | some pl,some z=>Fp (pl[·]?) z parts
 | _,_=>none
def DY(rows:List (List C))(sz:Nat):List (Nat×D)->Option (List (List C))
 | []=>some rows
 | (i,d)::rest=>
  match d.cells with
  | some cs=>if cs.length=sz/\i<rows.length then DY (rows.set i (cs.map T.cl)) sz rest else none
  | none=>none
def qz(P:Program)(t:j8):Option Nat:=(P.info? t).map (·.size)
def Qi(P:Program)(t:j8)(len:Nat)(parts:List (Nat×D)):Option (Nat×List (List C)):=
 match P.underlying t with
 | some (.slice e)=>match Program.zeroC P e,qz P e with
  | some z,some n=>if n=z.length/\0<z.length/\len*z.length<=16777216 then(DY (yb len z) z.length parts).map fun r=>(z.length,r)else none
  | _,_=>none
 | _=>none
def Le(d d':D):Prop:=∀w K v,VD w (E0 K) d v->VD w (E0 K) d' v
inductive LeL:List D->List D->Prop where
 | nil:LeL [] []
 | cons {d d':D} {l l':List D}:Le d d'->LeL l l'->LeL (d::l) (d'::l')
def YI(P:Program)(f:D)(args:List D)(K:D->Prop):Prop:=
 ∃g caps ds r,f= .one (.c (.fn g caps))/\LeL (args.map D.cl++caps.map fun c=>D.one (.c c)) ds/\DCalls P g ds r/\K r.cl
def Bq:D->Option T
 | .one t=>some t
 | _=>none
def T.asC:T->Option C
 | .c x=>some x
 | _=>none
def Rt(f:am)(ts:List T):D:=
 match ts.mapM T.asC with
 | some cs=>.one (.c (.fn f cs))
 | none=>.one (.fv f ts)
def pv(P:Program)(t:j8)(f:Nat)(x:D):Option D:=
 match P.underlying t,x with
 | some (.struct fs),.agg cs=>match fs[f]? with
  | some fd=>AO P fd.type fd.offset cs
  | none=>none
 | _,_=>none
def qbk(g:Bool):D->D->Option D
 | .one (.c (.lit (.int k a))),.one (.c (.lit (.int _ b)))=>some (.one (.c (.lit (.int k (if(if g then a<b else b<a)then b else a)))))
 | _,_=>none
def Sw(b:Builtin)(args:List D):Option D:=
 match b,args with
 | .min,[x,y]=>qbk false x y
 | .max,[x,y]=>qbk true x y
 | _,_=>none
def QD(P:Program)(ev:j9->D)(bx:vT)(op:Op)(K:D->Prop):Prop:=
 match op with
 | .move x| .assign x=>K (ev x)
 | .pick c a b=>match (ev c).asLit with
  | some (.bool t)=>K (if t then ev a else ev b)
  | _=>False
 | .load t x=>match C9 P bx t (ev x)with
  | some d=>K d
  | none=>False
 | .build t parts=>match pO P t (parts.toList.map fun p=>(p.1,ev p.2))with
  | some cs=>K (.agg cs)
  | none=>False
 | .buildSlice t len parts=>match Qi P t len (parts.toList.map fun p=>(p.1,ev p.2))with
  | some (sz,rows)=>K (.one (.ex sz rows))
  | none=>False
 | .binOp op t x y _=>match pR P op t (ev x) (ev y)with
  | some v=>K (.one (.c (.lit v)))
  | none=>False
 | .unOp op _ x=>match qdE op (ev x)with
  | some v=>K (.one (.c (.lit v)))
  | none=>False
 | .convert src dst x=>match Bn P src dst (ev x)with
  | some d=>K d
  | none=>False
 | .index t x i=>match o8 P t (ev x) (ev i)with
  | some v=>K (.one (.c (.lit v)))
  | none=>False
 | .fieldAddr t x f=>match Program.fieldOff P t f,ev x with
  | some off,.one (.c (.pt cs))=>K (.one (.c (.pt (cs.drop off))))
  | some off,.one (.bx n sz i o)=>K (.one (.bx n sz i (o+off)))
  | _,_=>False
 | .field t x f=>match pv P t f (ev x)with
  | some d=>K d
  | none=>False
 | .indexAddr t x i=>match ev x,(ev i).asLit with
  | .one (.ba n sz i len _),some (.int _ j)=>Program.elemSz P t=some sz/\0<=j/\j.toNat<len/\K (.one (.bx n sz (i+j.toNat) 0))
  | x,some (.int _ j)=>(match x.asSl with
   | some (sz,xs)=>Program.elemSz P t=some sz/\0<=j/\∃r,xs[j.toNat]? =some r/\K (.one (.c (.pt r)))
   | none=>False)
  | _,_=>False
 | .slice t x lo hi mx=>match iX P t (ev x) (lo.map ev) (hi.map ev) (mx.map ev)with
  | some d=>K d
  | none=>False
 | .call c=>match c.callee with
  | .builtin .len=>(match c.args.toList,c.argTypes.toList with
   | [x],[t]=>(match Lk P t (ev x)with
    | some n=>K (.one (.c (.lit (.int .i64 n))))
    | none=>False)
   | _,_=>False)
  | .builtin .cap=>(match c.args.toList,c.argTypes.toList with
   | [x],[t]=>(match Mg P t (ev x)with
    | some n=>K (.one (.c (.lit (.int .i64 n))))
    | none=>False)
   | _,_=>False)
  | .builtin b=>(match Sw b (c.args.toList.map ev)with
   | some d=>K d
   | none=>False)
  | .value f=>YI P (ev f) (c.args.toList.map ev) K
  | _=>False
 | .extract x i=>match ev x with
  | .tup ds=>(match ds[i]? with
   | some d=>K d
   | none=>False)
  | _=>False
 | .nilCheck x=>match ev x with
  | .one (.bx n sz i o)=>K (.one (.bx n sz i o))
  | .one (.c (.pt cs))=>K (.one (.c (.pt cs)))
  | .one (.c (.fn f caps))=>K (.one (.c (.fn f caps)))
  | .one (.fv f caps)=>K (.one (.fv f caps))
  | _=>False
 | .makeFunc (.func f) first captured=>if first.isEmpty then
   match (captured.toList.map ev).mapM Bq with
   | some ts=>K (Rt f ts)
   | none=>False
  else False
 | _=>False
section
variable {P:Program}
def vg{o:aa}{K:Act->j5->Prop}(h:(execOp a.eval o).run P w= .ok (.value v) w')(hk:K (a.put o.dst v) w'):o.wp P a w K Q:=by unfold j4;rw[h];exact hk
def SL(o:aa)(a:Act)(w:j5)(E:Env)(K:D->Prop)(a':Act)(w':j5):Prop:=
 ∃d v E',K d/\a'=a.put o.dst v/\Quiet w E w' E'/\VD w' E' d v
def vj{o:aa}{a:Act}{w:j5}{E:Env}{K:D->Prop}{Q:ah->Act->j5->Prop}{v:j6}{d:D}(hk:KOk w E.K)
  (h:(execOp a.eval o).run P w= .ok (.value v) w) (hv:VD w E d v) (hK:K d):o.wp P a w (SL o a w E K) Q:=
 vg h ⟨d,v,E,hK,rfl,Quiet.refl hk,hv⟩
def GE{k k':IntKind}{a b:Int}(h:Xo op k a b=some v)(w:j5)(t:j8):(binOp op t (.int k a) (.int k' b)).run P w= .ok v w:=by
 cases op<;>simp only[Xo]at h<;>first|(cases h;done)|skip
 all_goals
  split at h
  ·cases h
  ·rename_i hb;injection h with h;subst h
   simp[binOp,Op.shift,hb,sF]
def tD{k:IntKind}{a b:Int}(h:Xo op k a b=some v):v.oneCell'=true:=by
 cases op<;>simp only[Xo]at h<;>first|(cases h;done)|(split at h<;>first|(cases h;done)|(injection h with h;subst h;rfl))
def Vo{k:IntKind}{a b:Int}(h:Pz op k a b=some v)(w:j5)(t:j8):(binOp op t (.int k a) (.int k b)).run P w= .ok v w:=by
 cases op<;>simp only[Pz]at h<;>first|(cases h;done)|skip
 case shr=>
  split at h
  ·rename_i hb;subst hb;injection h with h;subst h
   cases k<;>simp[binOp,Op.shift,IntKind.bits]
  ·exact GE h w t
 case shl=>exact GE h w t
 case quo=>
  split at h
  ·cases h
  ·rename_i hb;injection h with h;subst h
   simp[binOp,Op.intDiv,hb]
 case rem=>
  split at h
  ·cases h
  ·rename_i hb;injection h with h;subst h
   simp[binOp,Op.intDiv,hb]
 all_goals(injection h with h;subst h;simp[binOp,Op.intArith,Op.intCmp,Op.intBits,QT])
def T2{a b:ByteArray}(h:NH op a b=some v)(w:j5)(t:j8):(binOp op t (.string a) (.string b)).run P w= .ok v w:=by
 cases op<;>simp only[NH]at h<;>first|(cases h;done)|skip
 case add=>
  split at h
  ·rename_i hl;injection h with h;subst h
   have: ¬(((a.size+b.size:Nat):Int)>IntKind.i64.max):=by simp[IntKind.max,IntKind.signed,IntKind.bits,maxLen]at hl ⊢;omega
   simp only[binOp,Op.stringOp,this,ap];rfl
  ·cases h
 all_goals(injection h with h;subst h;simp[binOp,Op.stringOp,DH,beq_toListBytes])
def OQ(h:Program.ldk P t=some none)(vs:Array j6)(off:Nat)(v:j6)(hv:vs[off]? =some v)(w:j5):(part t vs off).run P w= .ok v w:=by
 unfold Program.ldk at h;cases hu:P.underlying t with
 | none=>grind
 | some d=>
  cases hi:P.info? t with
  | none=>grind
  | some i=>
   rw[hu,hi]at h;have hg:(isAgg t).run P w= .ok false w:=by
    cases d<;>first|(simp[isAgg,run_underlying hu];done)|cases h
   simp[part,hg,hv]
def OR(h:Program.ldk P t=some (some k))(vs:Array j6)(off:Nat)(w:j5):(part t vs off).run P w= .ok (.agg (vs.extract off (off+k))) w:=by
 unfold Program.ldk at h;cases hu:P.underlying t with
 | none=>grind
 | some d=>
  cases hi:P.info? t with
  | none=>grind
  | some i=>
   rw[hu,hi]at h;have hk:i.size=k:=og;have hg:(isAgg t).run P w= .ok true w:=by
    cases d<;>first|(simp[isAgg,run_underlying hu];done)|(simp at h)
   simp[part,hg,sizeOf,typeInfo,hi,hk]
def tY{cs:List T}(h:AO P t off cs=some d)(hv:VD w E (.agg cs) (.agg vs)): ∃u,(part t vs off).run P w= .ok u w/\VD w E d u:=by
 cases hv with
 | agg _ _ hl hr=>
  unfold AO at h;split at h
  ·rename_i hk;cases hc:cs[off]? with
   | none=>grind
   | some c=>
    rw[hc]at h;injection h with h;subst h
    have qf:off<vs.size:=og;have h2:vs[off]? =some vs[off]:=oh;exact⟨_,OQ hk vs off _ h2 w,.one _ _ (hr off _ _ hc h2)⟩
  ·rename_i n hk;split at h
   ·rename_i vh;injection h with h;subst h
    refine⟨_,OR hk vs off w,.agg _ _ ot fun j c v g1 g2=>?_⟩;rw[yx]at g1;split at g1
    ·grind
    ·cases g1
   ·cases h
  ·cases h
def RG: ∀(k:Nat) (t:j8) (x y:D) (r:Bool) (w:j5) (E:Env) (u v:j6) (d:Nat),RH P k t x y=some r->k<=d->VD w E x u->VD w E y v->
  (Op.equalIn d t u v).run P w= .ok r w
 | 0,_,_,_,_,_,_,_,_,_,h,_,_,_=>by cases h
 | k+1,t,x,y,r,w,E,u,v,d,h,hd,hx,hy=>by
  obtain⟨d,rfl⟩: ∃d',d=d'+1:=⟨d - 1,oa⟩;unfold RH at h;split at h
  ·rename_i hu;split at h
   ·rename_i A9;subst A9;injection h with h;subst h
    rw[hx.lit,hy.lit];exact run_equalIn_int w d t _ _ _ _ hu
   ·cases h
  ·rename_i hu;injection h with h;subst h
   rw[hx.lit,hy.lit,beq_toListBytes];exact run_equalIn_string w d t _ _ hu
  ·rename_i hu;injection h with h;subst h
   rw[hx.lit,hy.lit];exact run_equalIn_bool' w d t _ _ hu
  ·rename_i fs us bs hu;split at h
   ·cases h
   ·rename_i vO;have hst':P.stoodInHeld t=false:=og;obtain⟨xs,rfl⟩: ∃xs,u= .agg xs:=by cases hx with|agg _ vs=>exact⟨_,rfl⟩
    obtain⟨ys,rfl⟩: ∃xs,v= .agg xs:=by cases hy with|agg _ vs=>exact⟨_,rfl⟩
    have hf:P.underlying t=some (.struct (P.fieldsOf t)):=by simp[Program.fieldsOf,hu]
    rw[run_equalIn_struct w d t xs ys hf hst'];have Tg:P.fieldsOf t=fs:=og;rw[Tg];clear hf Tg hu;generalize fs.toList=l at h;induction l generalizing r with
    | nil=>simp at h;subst h;simp[Op.eqFields]
    | cons f l ih=>
     simp only[List.foldr_cons]at h;simp only[Op.eqFields];split at h
     ·rename_i hn;rw[ae hn];simp only[w7,wK]at h;obtain⟨dx,h1,dy,h2,b,h3,c,h4,h5⟩:=h;obtain⟨ux,g1,g2⟩:=tY h1 hx;obtain⟨uy,g3,g4⟩:=tY h2 hy;have g5:=RG k f.type dx dy b w E ux uy d h3 oa g2 g4;have g6:=ih c h4;simp only[wq,g1,wj,g3,g5,Sem.run_ite,wG,g6];subst h5;cases b<;>simp
     ·grind
  ·cases h
def Zm(op:BinOp)(t:j8)(x y:j9)(u v:j6)(w:j5)(h:u.oneCell'=true)(hu:u≠ .nilIface):
  (eqGuard op t x y u v).run P w= .ok () w:=by
 unfold eqGuard;cases u<;>first
  | exact ak rfl hu
  | (simp[Value.oneCell']at h;done)
  | (cases op<;>simp;done)
def Fv(op:BinOp)(t:j8)(x y:j9)(xs ys:Array j6)(w:j5)(h:P.eqGuardType P.depth t=false):
  (eqGuard op t x y (.agg xs) (.agg ys)).run P w= .ok () w:=by
 unfold eqGuard;cases op<;>simp[h]
def oL(d:Nat)(t e:j8)(a:Option Addr)(l c:Nat)(h:P.underlying t=some (.slice e))(w:j5):(Op.equalIn (d+1) t (.slice a l c) (.slice none 0 0)).run P w= .ok a.isNone w:=by
 cases a<;>simp[Op.equalIn,run_underlying h]
def Lr{b:Bool}(h:Cd x=some b)(hx:VD w E x u): ∃a l c,u= .slice a l c/\a.isNone=b:=by
 have sl: ∀{sz:Nat} {r:List C} {xs:List (List C)},VC w E.K (.sl sz (r::xs)) u->b=false->∃a l c,u= .slice a l c/\a.isNone=b:=fun hv hb=>by
  cases hv with|sl sz xs a cap cv=>exact⟨_,_,_,rfl,by rw[hb];rfl⟩
 unfold Cd at h;split at h
 ·injection h with h;subst h;rw[hx.lit];exact⟨_,_,_,rfl,rfl⟩
 ·injection h with h;subst h;rw[hx.lit];exact⟨_,_,_,rfl,rfl⟩
 ·injection h with h
  cases hx with|one t v hv=>cases hv with|c c v hv=>exact sl hv h.symm
 ·injection h with h
  cases hx with|one t v hv=>cases hv with|own n sz xs v hv=>exact sl hv h.symm
 ·injection h with h
  cases hx with|one t v hv=>cases hv with|ex sz xs v hv=>exact sl hv h.symm
 ·rename_i n sz i len cap;split at h
  ·rename_i hc;injection h with h
   cases hx with|one t v hv=>cases hv with
    | ba=>grind
    | bz=>omega
  ·cases h
 ·cases h
def JP{op:BinOp}{t:j8}{x y:D}{r:j6}(h:pR P op t x y=some r){w:j5}{E:Env}{u v:j6}(hx:VD w E x u)(hy:VD w E y v)(ox oy:j9):
  ((do eqGuard op t ox oy u v;binOp op t u v):Sem j6).run P w= .ok r w/\r.oneCell'=true:=by
 unfold pR at h;split at h
 ·rename_i k a k' b;split at h
  ·rename_i hk;subst hk;rw[hx.lit,hy.lit];refine⟨?_,?_⟩
   ·simp only[wq,Zm op t ox oy (.int k a) (.int k b) w rfl oh,wj];exact Vo h w t
   ·cases op<;>simp only[Pz]at h<;>first|(cases h;done)|(injection h with h;subst h;rfl)|exact tD h|(split at h<;>first|cases h;done|(injection h with h;subst h;rfl)|exact tD h)
  ·rw[hx.lit,hy.lit];refine⟨?_,tD h⟩;simp only[wq,Zm op t ox oy (.int k a) (.int k' b) w rfl oh,wj];exact GE h w t
 ·rename_i a b;rw[hx.lit,hy.lit];refine⟨?_,?_⟩
  ·simp only[wq,Zm op t ox oy (.string a) (.string b) w rfl oh,wj];exact T2 h w t
  ·cases op<;>simp only[NH]at h<;>first|(cases h;done)|(injection h with h;subst h;rfl)|(split at h<;>first|cases h;done|(injection h with h;subst h;rfl))
 ·rename_i a b;split at h
  ·rename_i hb;have hu:P.underlying t=some .bool:=by
    unfold Program.isBoolT at hb;split at hb
    ·omega
    ·cases hb
   rw[hx.lit,hy.lit];cases op<;>simp only at h<;>first|(cases h;done)|skip
   all_goals
    injection h with h;subst h
    refine⟨?_,rfl⟩;simp only[wq,Zm _ t ox oy (.bool a) (.bool b) w rfl oh,wj];simp[binOp,Op.equal,Op.maxDepth,run_equalIn_bool' w _ t _ _ hu]
  ·cases h
 ·rename_i us bs;split at h
  ·cases h
  ·rename_i hg;obtain⟨xs,rfl⟩: ∃xs,u= .agg xs:=by cases hx with|agg _ vs=>exact⟨_,rfl⟩
   obtain⟨ys,rfl⟩: ∃xs,v= .agg xs:=by cases hy with|agg _ vs=>exact⟨_,rfl⟩
   have hg':P.eqGuardType P.depth t=false:=og;cases op<;>simp only at h<;>first|(cases h;done)|skip
   all_goals
    simp only[wK]at h;obtain⟨b,h1,rfl⟩:=h;refine⟨?_,rfl⟩;have h2:=RG 8 t _ _ b w E _ _ 10000 h1 oa hx hy;simp only[wq,Fv _ t ox oy xs ys w hg',wj];simp[binOp,Op.equal,Op.maxDepth,h2]
 ·split at h
  ·rename_i hn;simp only[w7]at h;obtain⟨b,hb,hr⟩:=h;obtain⟨a,l,c,rfl,Fe⟩:=Lr hb hx;rw[hy.lit];obtain⟨e,hu⟩: ∃e,P.underlying t=some (.slice e):=by
    unfold Program.nilT at hn;split at hn
    ·grind
    ·cases hn
   cases op<;>simp only[qa7]at hr<;>first|(cases hr;done)|skip
   all_goals
    injection hr with hr;subst hr
    refine⟨?_,rfl⟩;simp only[wq,Zm _ t ox oy (.slice a l c) (.slice none 0 0) w rfl oh,wj];simp[binOp,Op.equal,Op.maxDepth,oL _ t e a l c hu w,Fe]
  ·cases h
 ·cases h
end
section
variable {P:Program}
def Y8{op:UnOp}{r:j6}(h:qdE op x=some r)(hx:VD w E x u):(Op.unary op u).run P w= .ok r w/\r.oneCell'=true:=by
 unfold qdE at h;split at h
 ·injection h with h;subst h;rw[hx.lit];exact⟨rfl,rfl⟩
 ·injection h with h;subst h;rw[hx.lit];exact⟨rfl,rfl⟩
 ·cases h
def R6{src dst:j8}{r:j6}(h:JH P src dst x=some r)(hx:VD w E x u):(convert src dst u).run P w= .ok r w/\r.oneCell'=true:=by
 unfold JH at h;split at h
 ·rename_i d k _ n hs hd;injection h with h;subst h;rw[hx.lit]
  exact⟨by simp[convert,run_underlying hs,run_underlying hd,Conv.intToInt],rfl⟩
 ·rename_i d s hs hd;injection h with h;subst h;rw[hx.lit]
  refine⟨?_,rfl⟩;simp only[convert,wq,run_underlying hs,run_underlying hd,wj];rfl
 ·cases h
def Vh{n:Int}(h:Lk P t x=some n)(hx:VD w E x u)(ty:j8):(Builtin.len_ #[t] ty #[u]).run P w= .ok (.int .i64 n) w:=by
 have dB: ∀sz xs e,x.asSl=some (sz,xs)->P.underlying t=some (.slice e)->(Builtin.len_ #[t] ty #[u]).run P w= .ok (.int .i64 xs.length) w:=by intro sz xs e h1 h2;rcases(sV h1 hx).sl_inv with⟨rfl,rfl⟩|⟨a,cap,cv,rfl,_⟩<;>simp[Builtin.len_,run_underlying h2,goInt]
 unfold Lk at h;split at h
 ·rename_i hu;injection h with h;subst h;exact dB _ _ _ rfl hu
 ·rename_i hu;injection h with h;subst h;exact dB _ _ _ rfl hu
 ·rename_i hu;injection h with h;subst h;exact dB _ _ _ rfl hu
 ·rename_i hu;injection h with h;subst h
  cases hx with|one t v hv=>cases hv<;>simp[Builtin.len_,run_underlying hu,goInt]
 ·rename_i hu;injection h with h;subst h
  rw[hx.lit];simp[Builtin.len_,run_underlying hu,goInt]
 ·rename_i hu;injection h with h;subst h
  rw[hx.lit];simp[Builtin.len_,run_underlying hu,goInt]
 ·cases h
def Wx{n:Int}(h:Mg P t x=some n)(hx:VD w E x u)(ty:j8):(Builtin.cap_ #[t] ty #[u]).run P w= .ok (.int .i64 n) w:=by
 unfold Mg at h;split at h
 ·rename_i sz xs hu;injection h with h;subst h
  cases hx with|one t v hv=>cases hv with|ex sz xs v hv hx=>
   rcases hv.sl_inv with⟨rfl,rfl⟩|⟨a,cap,cv,rfl,_⟩
   ·simp[Builtin.cap_,run_underlying hu,goInt]
   ·obtain⟨A,n,hx⟩:=hx;injection hx with h1 h2 h3
    simp[Builtin.cap_,run_underlying hu,goInt];omega
 ·rename_i hu;injection h with h;subst h
  cases hx with|one t v hv=>cases hv<;>simp[Builtin.cap_,run_underlying hu,goInt]
 ·rename_i hu;injection h with h;subst h
  rw[hx.lit];simp[Builtin.cap_,run_underlying hu,goInt]
 ·cases h
def Pa{g:Bool}{x y d:D}(h:qbk g x y=some d){w:j5}{E:Env}{u v:j6}(hx:VD w E x u)(hy:VD w E y v):
  ∃r,((if g then Builtin.max2 u v else Builtin.min2 u v)).run P w= .ok r w/\VD w E d r:=by
 unfold qbk at h;split at h
 ·rename_i k a k' b;injection h with h;subst h
  rw[hx.lit,hy.lit];cases g
  ·exact⟨_,by simp[Builtin.min2],.one _ _ (.c _ _ (.lit _ rfl))⟩
  ·exact⟨_,by simp[Builtin.max2],.one _ _ (.c _ _ (.lit _ rfl))⟩
 ·cases h
def WA{b:Builtin}{args:List j9}{ev:j9->D}{ρ:j9->j6}{d:D}(h:Sw b (args.map ev)=some d){w:j5}{E:Env}(Q6: ∀x,VD w E (ev x) (ρ x))(vy:Array j8)(ty:j8):
  ∃r,(∀cs,(builtin b vy ty cs (args.map ρ).toArray).run P w= .ok (.value r) w)/\VD w E d r:=by
 unfold Sw at h;split at h
 ·rename_i x y hl;obtain⟨a,rest,rfl,rfl,h2⟩:=List.map_eq_cons_iff.1 hl;obtain⟨b,rest',rfl,rfl,h4⟩:=List.map_eq_cons_iff.1 h2;obtain rfl:rest'= []:=by simpa using h4
  obtain⟨r,h5,h6⟩:=Pa (P:=P) h (Q6 a) (Q6 b);simp only[yq,ap]at h5;exact⟨r,fun cs=>by simp[builtin,Builtin.min_,h5],h6⟩
 ·rename_i x y hl;obtain⟨a,rest,rfl,rfl,h2⟩:=List.map_eq_cons_iff.1 hl;obtain⟨b,rest',rfl,rfl,h4⟩:=List.map_eq_cons_iff.1 h2;obtain rfl:rest'= []:=by simpa using h4
  obtain⟨r,h5,h6⟩:=Pa (P:=P) h (Q6 a) (Q6 b);simp only[an]at h5;exact⟨r,fun cs=>by simp[builtin,Builtin.max_,h5],h6⟩
 ·cases h
def bU(h:Program.elemSz P t=some sz): ∃e i,P.underlying t=some (.slice e)/\P.info? e=some i/\i.size=sz/\0<sz:=by
 unfold Program.elemSz at h;split at h
 ·rename_i e hu;cases hi:P.info? e with
  | none=>grind
  | some i=>grind
 ·cases h
def VC.pt_of_row{w:j5}{K:qM}{sz:Nat}{xs:List (List C)}{a:Addr}{cv:Nat->j6}(qZ:0<sz)(vo: ∀r∈xs,r.length=sz)
  (hK: ∀j,j<xs.length*sz->a.spot=none/\K a.block (a.off+j)/\w.cell? ⟨a.block,a.off+j,none⟩=some (cv j))
  (hr: ∀(i j:Nat) r c,xs[i]? =some r->r[j]? =some c->VC w K c (cv (i*sz+j))) {i:Nat} {r:List C} (hi:xs[i]? =some r):VC w K (.pt r) (.pointer (some (a.add (i*sz)))):=by
 have E9:i<xs.length:=og;have lF:r.length=sz:=og;have vh:i*sz+sz<=xs.length*sz:=by have:(i+1)*sz<=xs.length*sz:=wQ sz E9;rw[yo,jd]at this;exact this
 have XZ:a.spot=none:=(hK (i*sz) oa).1;have ha:a.add (i*sz)=⟨a.block,a.off+i*sz,none⟩:=by
  have:a=⟨a.block,a.off,none⟩:=by cases a;simp_all
  rw[this,vE]
 rw[ha];refine .pt r a.block (a.off+i*sz) (fun j=>cv (i*sz+j)) (fun j hj=>?_) (fun j c hc=>hr i j r c hi hc);have:=hK (i*sz+j) oa;rw[ju];exact⟨this.2.1,this.2.2⟩
def Hz{t:j8}{x:D}{sz:Nat}{xs:List (List C)}{j:Int}{r:List C}(hs:x.asSl=some (sz,xs))(he:Program.elemSz P t=some sz)(hj:0<=j)(hr:xs[j.toNat]? =some r)
  {w:j5} {E:Env} {u:j6} (hx:VD w E x u) (k:IntKind): ∃v,(Instr.indexAt t u (.int k j)).run P w= .ok v w/\VD w E (.one (.c (.pt r))) v:=by
 obtain⟨e,i,hu,hi,vo,qZ⟩:=bU he;have A8:j.toNat<xs.length:=og;rcases(sV hs hx).sl_inv with⟨rfl,rfl⟩|⟨a,cap,cv,rfl,h1,h2,h3,h4,h5⟩
 ·grind
 ·have hb:(0<=j/\j<(xs.length:Int)):=by omega
  refine⟨.pointer (some (a.add (j.toNat*sz))),?_,.one _ _ (.c _ _ (VC.pt_of_row qZ h1 h4 h5 hr))⟩;simp[Instr.indexAt,asIntOf,run_underlying hu,hb,sizeOf,typeInfo,hi,vo]
def Hy{t:j8}{n sz i len cap:Nat}{j:Int}(he:Program.elemSz P t=some sz)(hj:0<=j)(hl:j.toNat<len){w:j5}{E:Env}{u:j6}(hx:VD w E (.one (.ba n sz i len cap)) u)(k:IntKind):
  ∃v,(Instr.indexAt t u (.int k j)).run P w= .ok v w/\VD w E (.one (.bx n sz (i+j.toNat) 0)) v:=by
 obtain⟨e,inf,hu,hi,vo,qZ⟩:=bU he;cases hx with|one t' v hv=>cases hv with
  | ba _ _ _ _ _ h1 h2=>
   have hb:(0<=j/\j<(len:Int)):=oa;refine⟨.pointer (some ⟨E.ρ n,(i+j.toNat)*sz+0,none⟩),?_,.one _ _ (.bx n sz (i+j.toNat) 0)⟩;simp[Instr.indexAt,asIntOf,run_underlying hu,hb,sizeOf,typeInfo,hi,vo,vE,yo]
  | bz=>omega
def VC.cut{w:j5}{K:qM}{sz:Nat}{xs:List (List C)}{a:Addr}{cap:Nat}{cv:Nat->j6}(qZ:0<sz)(vo: ∀r∈xs,r.length=sz)(QH:xs.length<=cap)(hm:cap<=maxLen)
  (hK: ∀j,j<xs.length*sz->a.spot=none/\K a.block (a.off+j)/\w.cell? ⟨a.block,a.off+j,none⟩=some (cv j))
  (hr: ∀(i j:Nat) r c,xs[i]? =some r->r[j]? =some c->VC w K c (cv (i*sz+j))) {l h m:Nat} (hlh:l<=h) (hh:h<=xs.length) (hhm:h<=m) (hmc:m<=cap):
  VC w K (.sl sz ((xs.take h).drop l)) (.slice (some (if m=l then a else a.add (l*sz))) (h - l) (m - l)):=by
 have vG:((xs.take h).drop l).length=h - l:=og;have vh: ∀i,i<xs.length->i*sz+sz<=xs.length*sz:=fun i hi=>by have:(i+1)*sz<=xs.length*sz:=wQ sz hi;rw[yo,jd]at this;exact this
 rw[<-vG];by_cases EZ:m=l
 ·have h0:h - l=0:=by omega
  have he:(xs.take h).drop l= []:=og;rw[he];exact .sl sz [] _ _ (fun _=>undef) (fun r hr=>by simp at hr) oh oa (fun j hj=>by simp at hj) (fun i j r c h1=>by simp at h1)
 ·rw[j7 EZ];refine .sl sz _ _ _ (fun j=>cv (l*sz+j)) (fun r hrm=>vo r (yW (y5 hrm))) oa oa (fun j hj=>?_) (fun i j r c h1 h2=>?_)
  ·rw[vG]at hj;have hb:l*sz+j<xs.length*sz:=by
    have h1:(h - l)*sz+l*sz<=xs.length*sz:=by rw[<-yo];exact wQ sz oa
    omega
   have hb0:l*sz<xs.length*sz:=oa;have XZ:a.spot=none:=og;have ha:a.add (l*sz)=⟨a.block,a.off+l*sz,none⟩:=by
    have:a=⟨a.block,a.off,none⟩:=by cases a;simp_all
    rw[this,vE]
   rw[ha];have:=hK (l*sz+j) hb;simp only[ju];exact⟨trivial,this.2.1,this.2.2⟩
  ·grind
def nL(x:Option D)(u:Option j6)(w:j5)(E:Env):Prop:=
 match x,u with
 | none,none=>True
 | some d,some v=>VD w E d v
 | _,_=>False
def zO{x:Option D}{Wj:Nat}(h:cE x Wj=some n){u:Option j6}(hb:nL x u w E):(u=none/\n=Wj)\/∃k,u=some (.int k (n:Int)):=by
 unfold cE at h;split at h
 ·injection h with h
  cases u with
  | none=>grind
  | some v=>exact hb.elim
 ·rename_i k n';split at h
  ·rename_i hn;injection h with h
   cases u with
   | none=>exact hb.elim
   | some v=>
    have:v= .int k n':=VD.lit hb;subst this;exact .inr ⟨k,by rw[<-h,Int.toNat_of_nonneg hn]⟩
  ·cases h
 ·cases h
def dp{k:IntKind}{y:Nat}(hu:u= .int k (n:Int))(h:n<=y)(code:BoundsCode)(w:j5):(Instr.sliceBound u y code).run P w= .ok n w:=by subst hu;have:(0:Int)<=(n:Int)/\(n:Int)<=(y:Int):=oa;simp[Instr.sliceBound,asIntOf,this]
def cc{isSlice:Bool}{len cap l h m:Nat}{l0 h0 m0:Option j6}(h1:(l0=none/\l=0)\/∃k,l0=some (.int k (l:Int)))(h2:(h0=none/\h=len/\m0=none)\/∃k,h0=some (.int k (h:Int)))
  (h3:(m0=none/\m=cap)\/∃k,m0=some (.int k (m:Int))) (hlh:l<=h) (hhm:h<=m) (hmc:m<=cap) (w:j5):(Instr.sliceBounds isSlice len cap l0 h0 m0).run P w= .ok (l,h,m) w:=by
 rcases h1 with⟨rfl,rfl⟩|⟨k1,rfl⟩<;>rcases h2 with⟨rfl,rfl,rfl⟩|⟨k2,rfl⟩<;>rcases h3 with⟨h3,rfl⟩|⟨k3,h3⟩<;>
  first
  | (cases h3;done)
  | skip
 all_goals
  first|subst h3|skip
  simp[Instr.sliceBounds,dp (P:=P) rfl hlh,dp (P:=P) rfl hhm,dp (P:=P) rfl hmc]
def Aw{t:j8}{x d:D}{lo hi mx:Option D}(h:iX P t x lo hi mx=some d){w:j5}{E:Env}{u:j6}{l0 h0 m0:Option j6}(hx:VD w E x u)(hl:nL lo l0 w E)(hh:nL hi h0 w E)(hm:nL mx m0 w E):
  ∃v,(∀w',(Instr.sliceAt t u l0 h0 m0).run P w'= .ok v w')/\VD w E d v:=by
 unfold iX at h;split at h
 ·rename_i s hu;split at h
  ·cases h
  ·simp only[w7]at h;obtain⟨l,e1,hh',e2,e3⟩:=h;split at e3
   ·rename_i vh;injection e3 with e3;subst e3
    have bO:m0=none:=by cases m0 with|none=>rfl|some v=>exact hm.elim
    subst bO;rw[hx.lit];refine⟨.string (s.extract l hh'),fun w'=>?_,.one _ _ (.c _ _ (.lit _ rfl))⟩;have hb:=cc (P:=P) (isSlice:=false) (len:=s.size) (cap:=s.size) (l:=l) (h:=hh') (m:=s.size) (l0:=l0) (h0:=h0) (m0:=none) (zO e1 hl)
     ((zO e2 hh).imp (fun⟨a,b⟩=>⟨a,b,rfl⟩) id) (.inl ⟨rfl,rfl⟩) vh.1 vh.2 (wl _) w'
    simp[Instr.sliceAt,Instr.slice,run_underlying hu,hb]
   ·cases e3
 ·rename_i e n sz i len cap hu;split at h
  ·rename_i vo;obtain⟨e',inf,hu',P4,hisz,qZ⟩:=bU vo;rw[hu]at hu';injection hu' with hu';injection hu' with hu';subst hu'
   simp only[w7]at h;obtain⟨l,e1,hv,e2,m,e4,e3⟩:=h;split at e3
   ·rename_i vh;injection e3 with e3;subst e3
    have g1:(m0=none/\m=cap)\/∃k,m0=some (.int k (m:Int)):=by
     split at e4
     ·injection e4 with e4
      have bO:m0=none:=by cases m0 with|none=>rfl|some v=>exact hm.elim
      exact .inl ⟨bO,e4.symm⟩
     ·split at e4
      ·rcases zO e4 hm with⟨e,_⟩|e
       ·rw[e]at hm;exact hm.elim
       ·grind
      ·cases e4
    have g2:(h0=none/\hv=len/\m0=none)\/∃k,h0=some (.int k (hv:Int)):=by
     rcases zO e2 hh with⟨a,b⟩|b
     ·refine .inl ⟨a,b,?_⟩;split at e4
      ·cases m0 with|none=>rfl|some v=>exact hm.elim
      ·split at e4
       ·rename_i his;rw[a]at hh;cases hi':hi with
        | none=>grind
        | some _=>rw[hi']at hh;exact hh.elim
       ·cases e4
     ·grind
    have fin: ∀a:Option Addr,u= .slice a len cap->∀w',(Instr.sliceAt t u l0 h0 m0).run P w'= .ok (.slice (if m=l then a else a.map (·.add (l*sz))) (hv - l) (m - l)) w':=by intro a MI w';subst MI;have hb:=cc (P:=P) (isSlice:=true) (len:=len) (cap:=cap) (zO e1 hl) g2 g1 vh.1 vh.2.1 vh.2.2 w';simp[Instr.sliceAt,Instr.slice,run_underlying hu,hb,sizeOf,typeInfo,P4,hisz]
    cases hx with|one t' v hvv=>cases hvv with
     | ba _ _ _ _ _ h1 h2=>
      refine⟨_,fin _ rfl,.one _ _ ?_⟩;by_cases EZ:m=l
      ·have h3:hv - l=0:=by omega
       have h4:m - l=0:=oa;rw[h3,h4];exact .bz _ _ _ _
      ·rw[j7 EZ];simp only[yO,vE,<-yo];exact .ba _ _ _ _ _ oa oa
     | bz _ _ _ A=>
      have h3:hv - l=0:=oa;have h4:m - l=0:=oa;refine⟨_,fin A rfl,.one _ _ ?_⟩;rw[h3,h4];exact .bz _ _ _ _
   ·cases e3
  ·cases h
 ·rename_i e hu _;simp only[w7]at h;obtain⟨⟨sz,xs⟩,hs,h⟩:=h;split at h
  ·rename_i vo;obtain⟨e',i,hu',P4,hisz,qZ⟩:=bU vo;rw[hu]at hu';injection hu' with hu';injection hu' with hu';subst hu'
   simp only[w7]at h;obtain⟨l,e1,hv,e2,e3⟩:=h;split at e3
   ·rename_i vh
    -- the machine's answer, once the third bound is known
    have fin: ∀(m cap:Nat),((m0=none/\m=cap)\/∃k,m0=some (.int k (m:Int)))->((h0=none/\hv=xs.length/\m0=none)\/∃k,h0=some (.int k (hv:Int)))->hv<=m->m<=cap->∀a:Option Addr,u= .slice a xs.length cap->
      ∀w',(Instr.sliceAt t u l0 h0 m0).run P w'= .ok (.slice (if m=l then a else a.map (·.add (l*sz))) (hv - l) (m - l)) w':=by
     intro m cap g1 g2 g3 g4 a MI w';subst MI;have hb:=cc (P:=P) (isSlice:=true) (len:=xs.length) (cap:=cap) (zO e1 hl) g2 g1 vh.1 g3 g4 w';simp[Instr.sliceAt,Instr.slice,run_underlying hu,hb,sizeOf,typeInfo,P4,hisz]
    rcases(sV hs hx).sl_inv with⟨rfl,rfl⟩|⟨a,cap,cv,rfl,c1,c2,c3,c4,c5⟩
    ·simp only[wT]at vh fin e2;have Yb:l=0:=oa;have Jn:hv=0:=oa;subst Yb;subst Jn;split at e3
     ·injection e3 with e3;subst e3
      have bO:m0=none:=by cases m0 with|none=>rfl|some v=>exact hm.elim
      refine⟨_,fin 0 0 (.inl ⟨bO,rfl⟩) ((zO e2 hh).imp (fun⟨a,b⟩=>⟨a,oh,bO⟩) id) (wl _) (wl _) none rfl,?_⟩;simp only[an,List.take_nil,List.drop_nil,Nat.sub_self];exact .one _ _ (.c _ _ (.nil sz))
     ·rename_i m;split at e3
      ·rename_i his;simp only[w7]at e3;obtain⟨m',e4,e5⟩:=e3;split at e5
       ·rename_i hmh;injection e5 with e5;subst e5
        subst hmh;have hh0: ∃k,h0=some (.int k ((0:Nat):Int)):=by
         rcases zO e2 hh with⟨e,_⟩|e
         ·rw[e]at hh;cases hi':hi with
          | none=>grind
          | some _=>rw[hi']at hh;exact hh.elim
         ·exact e
        rcases zO e4 hm with⟨e,_⟩|e
        ·rw[e]at hm;exact hm.elim
        ·refine⟨_,fin 0 0 (.inr e) (.inr hh0) (wl _) (wl _) none rfl,?_⟩;simp only[an,List.take_nil,List.drop_nil,Nat.sub_self];exact .one _ _ (.ex _ _ _ (.nil sz) ⟨none,0,rfl⟩)
       ·cases e5
      ·cases e3
    ·split at e3
     ·injection e3 with e3;subst e3
      have bO:m0=none:=by cases m0 with|none=>rfl|some v=>exact hm.elim
      refine⟨_,fin cap cap (.inl ⟨bO,rfl⟩) ((zO e2 hh).imp (fun⟨a,b⟩=>⟨a,b,bO⟩) id) oa (wl _) (some a) rfl,?_⟩;have:=VC.cut qZ c1 c2 c3 c4 c5 vh.1 vh.2 (by omega:hv<=cap) (wl _);refine .one _ _ (.c _ _ ?_);split
      ·grind
      ·grind
     ·rename_i m;split at e3
      ·rename_i his;simp only[w7]at e3;obtain⟨m',e4,e5⟩:=e3;split at e5
       ·rename_i hmh;injection e5 with e5;subst e5
        subst hmh;have hh0: ∃k,h0=some (.int k (m':Int)):=by
         rcases zO e2 hh with⟨e,_⟩|e
         ·rw[e]at hh;cases hi':hi with
          | none=>grind
          | some _=>rw[hi']at hh;exact hh.elim
         ·exact e
        rcases zO e4 hm with⟨e,_⟩|e
        ·rw[e]at hm;exact hm.elim
        ·refine⟨_,fin m' cap (.inr e) (.inr hh0) (wl _) oa (some a) rfl,?_⟩;have:=VC.cut qZ c1 c2 c3 c4 c5 vh.1 vh.2 (wl _) oa;refine .one _ _ (.ex _ _ _ ?_ ⟨_,_,rfl⟩);split
         ·grind
         ·grind
       ·cases e5
      ·cases e3
   ·cases e3
  ·cases h
 ·cases h
end
section
variable {P:Program}
def Fo: ∀(l:List j6) (off n:Nat) (cells:Array j6),off+n+l.length<=cells.size->
  ((l.zipIdx n).foldl (fun(cs:Array j6) (p:j6×Nat)=>cs.setIfInBounds (off+p.2) p.1) cells).size=cells.size/\
  ∀k,((l.zipIdx n).foldl (fun(cs:Array j6) (p:j6×Nat)=>cs.setIfInBounds (off+p.2) p.1) cells)[k]? =if off+n<=k/\k<off+n+l.length then l[k - (off+n)]? else cells[k]?
 | [],off,n,cells,_=>by
  refine⟨oh,fun k=>?_⟩;rw[j7 (by rintro⟨h1,h2⟩;simp at h2;omega)];simp
 | v::l,off,n,cells,h=>by
  simp only[wW]at h;simp only[List.zipIdx_cons,yE];obtain⟨h1,h2⟩:=Fo l off (n+1) (cells.setIfInBounds (off+n) v) ot;refine⟨by rw[h1];simp,fun k=>?_⟩;rw[h2 k];by_cases hk:k=off+n
  ·grind
  ·grind
def uW(vs cells:Array j6)(off:Nat)(h:off+vs.size<=cells.size):
  (vs.zipIdx.foldl (fun cs (c,j)=>cs.setIfInBounds (off+j) c) cells).size=cells.size/\
  ∀k,(vs.zipIdx.foldl (fun cs (c,j)=>cs.setIfInBounds (off+j) c) cells)[k]? =if off<=k/\k<off+vs.size then vs[k - off]? else cells[k]? :=by
 have:=Fo vs.toList off 0 cells (by simpa using h);have he:(vs.zipIdx.foldl (fun cs (c,j)=>cs.setIfInBounds (off+j) c) cells)=((vs.toList.zipIdx 0).foldl (fun(cs:Array j6) (p:j6×Nat)=>cs.setIfInBounds (off+p.2) p.1) cells):=by rw[<-Array.foldl_toList,Array.toList_zipIdx]
 rw[he];simpa using this
def FY(w:j5)(E:Env)(cells:Array j6)(cs:List T):Prop:=cells.size=cs.length/\∀(j:Nat) c u,cs[j]? =some c->cells[j]? =some u->VT w E c u
def JA{place:Nat->Option (Nat×Nat)}{w:j5}{E:Env}{ev:j9->D}{ρ:j9->j6}(Q6: ∀x,VD w E (ev x) (ρ x)): ∀(parts:List (Nat×j9)) (cells:Array j6) (cs cs':List T),
  Fp place cs (parts.map fun p=>(p.1,ev p.2))=some cs'->FY w E cells cs->
  ∃cells',Instr.fill place cells (parts.map fun p=>(p.1,ρ p.2))=some cells'/\FY w E cells' cs'
 | [],cells,cs,cs',h,hc=>by
  injection h with h;subst h
  exact⟨cells,rfl,hc⟩
 | (i,x)::parts,cells,cs,cs',h,hc=>by
  simp only[wo,Fp]at h;simp only[wo,Instr.fill];cases hp:place i with
  | none=>grind
  | some os=>
   obtain⟨off,size⟩:=os;cases hd:(ev x).cells with
   | none=>grind
   | some ns=>
    simp only[hp,hd]at h;split at h
    ·rename_i vh;obtain⟨g1,g2,_⟩:=gy hd (Q6 x);obtain⟨c1,c2⟩:=hc;have hb: ¬((ρ x).cells.size≠size||decide (off+(ρ x).cells.size>cells.size))=true:=og;simp only[hb];obtain⟨f1,f2⟩:=uW (ρ x).cells cells off oa;refine JA Q6 parts _ _ cs' h ⟨?_,fun j c u k1 k2=>?_⟩
     ·grind
     ·grind
    ·cases h
def KQ{t:j8}{pl:List (Nat×Nat)}(h:Program.places P t=some pl): ∃fs,P.underlying t=some (.struct fs)/\
  ∀w:j5,((fs.mapM fun f=>do pure (f.offset,<-sizeOf f.type)):Sem (Array (Nat×Nat))).run P w= .ok pl.toArray w:=by
 unfold Program.places at h;split at h
 ·rename_i fs hu;refine⟨fs,hu,fun w=>?_⟩;have key: ∀(l:List Field) (pl:List (Nat×Nat)),(l.mapM fun fd=>(P.info? fd.type).map fun i=>(fd.offset,i.size))=some pl->
    ((l.mapM fun f=>do pure (f.offset,<-sizeOf f.type)):Sem (List (Nat×Nat))).run P w= .ok pl w:=by
   intro l;induction l with
   | nil=>simp
   | cons f l ih=>
    intro pl h;simp only[jV,Option.pure_def,Option.bind_eq_bind,w7,wK,Option.some.injEq]at h;obtain⟨x,⟨i,hi,rfl⟩,l',h2,rfl⟩:=h;have hs:(sizeOf f.type).run P w= .ok i.size w:=by simp[sizeOf,typeInfo,hi]
    simp only[jV,wq,hs,wj,wG,ih l' h2]
  rw[Array.mapM_eq_mapM_toList];simp only[Sem.run_map,key _ _ h,wj]
 ·cases h
def Mi{t:j8}{parts:Array (Nat×j9)}{ev:j9->D}{ρ:j9->j6}{cs:List T}(h:pO P t (parts.toList.map fun p=>(p.1,ev p.2))=some cs){w:j5}{E:Env}(Q6: ∀x,VD w E (ev x) (ρ x)):
  ∃v,(Instr.build t (parts.map fun(i,x)=>(i,ρ x))).run P w= .ok v w/\VD w E (.agg cs) v:=by
 unfold pO at h;split at h
 ·rename_i pl z Db hz;obtain⟨fs,hu,qS⟩:=KQ Db;obtain⟨i,zv,h1,h2,h3,h4⟩:=l8 hz;obtain⟨cells,f1,f2⟩:=JA Q6 parts.toList zv.cells z cs h ⟨h3,h4 w E⟩;refine⟨.agg cells,?_,.agg _ _ f2.1 f2.2⟩;have MF:(zeroValue t).run P w= .ok zv w:=by simp[zeroValue,typeInfo,h1,h2]
  have Jp:((parts.map fun(i,x)=>(i,ρ x)).toList)=parts.toList.map fun p=>(p.1,ρ p.2):=oh;have hpl':(fun(x:Nat)=>pl.toArray[x]?)=(fun(x:Nat)=>pl[x]?):=oh;simp only[Instr.build,wq,MF,wj,run_underlying hu,qS w,Jp,hpl',f1,wG]
 ·cases h
def fR{w:j5}{E:Env}(hk:KOk w E.K)(arr:Array j6)(e:j8)(N:Nat)(hN:N<=arr.size):
  Quiet w E (w.alloc (.cells arr e)) { E with K:=fun b o=>E.K b o\/(b=w.heap.size/\o<N) }:=by
 refine⟨(Below.refl _ _).alloc (wl _) _,fun b o h=>.inl h,fun b o hb h=>?_,hk.wide (fun b o q=>⟨.inl q,jw w _ ⟨b,o,none⟩ (qP (hk b o q))⟩) (fun b o h=>?_) (hk.z.below ((Below.refl _ _).alloc (wl _) _)),rfl,rfl⟩
 ·grind
 ·rcases h with h|⟨rfl,h⟩
  ·have qf:=qP (hk b o h);rw[jw w _ ⟨b,o,none⟩ qf];exact hk b o h
  ·simp;omega
def sY(w:j5)(E:Env)(sz:Nat)(cells:Array j6)(rows:List (List C)):Prop:=
 cells.size=rows.length*sz/\(∀r∈rows,r.length=sz)/\∀(i j:Nat) r c u,rows[i]? =some r->r[j]? =some c->cells[i*sz+j]? =some u->VC w E.K c u
def IL{sz:Nat}{w:j5}{E:Env}{ev:j9->D}{ρ:j9->j6}(Q6: ∀x,VD w E (ev x) (ρ x)): ∀(parts:List (Nat×j9)) (cells:Array j6) (rows rows':List (List C)),
  DY rows sz (parts.map fun p=>(p.1,ev p.2))=some rows'->sY w E sz cells rows->
  ∃cells',Instr.fill (fun i=>some (i*sz,sz)) cells (parts.map fun p=>(p.1,ρ p.2))=some cells'/\sY w E sz cells' rows'/\rows'.length=rows.length
 | [],cells,rows,rows',h,hc=>by
  injection h with h;subst h
  exact⟨cells,rfl,hc,rfl⟩
 | (i,x)::parts,cells,rows,rows',h,hc=>by
  simp only[wo,DY]at h;simp only[wo,Instr.fill];cases hd:(ev x).cells with
  | none=>grind
  | some ns=>
   simp only[hd]at h;split at h
   ·rename_i vh;obtain⟨g1,g2,_⟩:=gy hd (Q6 x);obtain⟨c1,c2,c3⟩:=hc;have hmul:i*sz+sz<=rows.length*sz:=by have:(i+1)*sz<=rows.length*sz:=wQ sz vh.2;rw[yo,jd]at this;exact this
    have hb: ¬((ρ x).cells.size≠sz||decide (i*sz+(ρ x).cells.size>cells.size))=true:=og;simp only[hb];obtain⟨f1,f2⟩:=uW (ρ x).cells cells (i*sz) oa;have bi:sY w E sz ((ρ x).cells.zipIdx.foldl (fun cs (c,j)=>cs.setIfInBounds (i*sz+j) c) cells) (rows.set i (ns.map T.cl)):=by
     refine⟨by rw[f1,c1,List.length_set],fun r hr=>?_,fun i' j r c u k1 k2 k3=>?_⟩
     ·grind
     ·rw[List.getElem?_set]at k1;rw[f2]at k3;by_cases qcd:i=i'
      ·subst qcd;rw[ae rfl,ae vh.2]at k1;injection k1 with k1;subst k1
       have hj:j<ns.length:=og;rw[ae oa]at k3;rw[wh]at k2;cases hn:ns[j]? with
       | none=>grind
       | some t'=>
        rw[hn]at k2;injection k2 with k2;subst k2
        exact(g2 j t' u hn (by rw[<-k3];congr 1;omega)).cl
      ·rw[j7 qcd]at k1;have lF:=c2 r (ww k1);have hj:j<sz:=og;have qH: ¬(i*sz<=i'*sz+j/\i'*sz+j<i*sz+(ρ x).cells.size):=by
        rintro⟨n1,n2⟩;rcases Nat.lt_or_gt_of_ne qcd with qf|qf
        ·have:(i+1)*sz<=i'*sz:=wQ sz qf;rw[yo,jd]at this;omega
        ·have:(i'+1)*sz<=i*sz:=wQ sz qf;rw[yo,jd]at this;omega
       rw[j7 qH]at k3;exact c3 i' j r c u k1 k2 k3
    obtain⟨cells',e1,e2,e3⟩:=IL Q6 parts _ _ rows' h bi;exact⟨cells',e1,e2,by rw[e3,List.length_set]⟩
   ·cases h
def xv{t:j8}{len:Nat}{parts:Array (Nat×j9)}{ev:j9->D}{ρ:j9->j6}{sz:Nat}{rows:List (List C)}(h:Qi P t len (parts.toList.map fun p=>(p.1,ev p.2))=some (sz,rows)){w:j5}{E:Env}
  (hk:KOk w E.K) (Q6: ∀x,VD w E (ev x) (ρ x)):
  ∃v w' E',(Instr.buildSlice t len (parts.map fun(i,x)=>(i,ρ x))).run P w= .ok v w'/\Quiet w E w' E'/\VD w' E' (.one (.ex sz rows)) v:=by
 unfold Qi at h;split at h
 ·rename_i e hu;split at h
  ·rename_i z n hz hn;simp only[qz,wK]at hn;obtain⟨i,hi,rfl⟩:=hn;split at h
   ·rename_i hc;simp only[wK,Prod.mk.injEq]at h;obtain⟨rows',hr,rfl,rfl⟩:=h;obtain⟨i',zv,h1,h2,h3,h4⟩:=sZ hz;rw[hi]at h1;injection h1 with h1;subst h1
    have MF:(zeroValue e).run P w= .ok zv w:=by simp[zeroValue,typeInfo,hi,h2]
    have vo:(sizeOf e).run P w= .ok z.length w:=by simp[sizeOf,typeInfo,hi,hc.1]
    have Jp:((parts.map fun(i,x)=>(i,ρ x)).toList)=parts.toList.map fun p=>(p.1,ρ p.2):=oh
    -- the zero rows
    let zero:Array Value:=if len*z.length=0 then #[]else zv.cells
    have hzrun:((if len*z.length=0 then pure #[]else do pure (<-zeroValue e).cells):Sem (Array j6)).run P w= .ok zero w:=by simp only[Sem.run_ite,wG,wq,MF,wj,zero];split<;>rfl
    have hinit:sY w E z.length ((Array.range (len*z.length)).map (zero[· % zero.size]!)) (yb len z):=by
     refine⟨oh,fun r hr=>by rw[yP hr],fun i j r c u k1 k2 k3=>?_⟩;have E9:i<len:=og;have VH:r=z:=og;subst VH;have hj:j<r.length:=og;have qZ:0<len*r.length:=og;have hze:zero=zv.cells:=og;rw[hze]at k3;obtain⟨qf,lH⟩:=wH.1 k3;simp only[Array.getElem_map,Array.getElem_range]at lH;have qb4:(i*r.length+j) % zv.cells.size=j:=by rw[h3,jF,Nat.mul_add_mod];exact Nat.mod_eq_of_lt hj
     rw[qb4]at lH;refine h4 w E.K j c u k2 ?_;have hjz:j<zv.cells.size:=oa;rw[wY hjz,<-lH];simp[hjz]
    obtain⟨cells,f1,f2,f3⟩:=IL Q6 parts.toList _ _ rows' hr hinit;obtain⟨c1,c2,c3⟩:=f2;have vG:rows'.length=len:=og;have hq:=fR hk cells e (rows'.length*z.length) oa;refine⟨.slice (some ⟨w.heap.size,0,none⟩) len len,_,_,?_,hq,?_⟩
    ·have VN: ¬(len*z.length>2 ^ 24):=by omega
     by_cases h0:len*z.length=0
     ·have AX:zero= #[]:=by grind
      rw[AX]at f1;simp only[Instr.buildSlice,wq,run_underlying hu,wj,vo,Sem.run_ite,VN,ap,wG,ae h0,Jp,f1,newRow,run_newObj];rfl
     ·have AX:zero=zv.cells:=by grind
      rw[AX]at f1;simp only[Instr.buildSlice,wq,run_underlying hu,wj,vo,Sem.run_ite,VN,ap,wG,j7 h0,MF,Jp,f1,newRow,run_newObj];rfl
    ·refine .one _ _ (.ex _ _ _ ?_ ⟨_,len,rfl⟩);have ga:=hq.later hk;rw[<-vG];have hm:rows'.length<=maxLen:=by have:rows'.length<=rows'.length*z.length:=jZ _ hc.2.1;have h2:=hc.2.2;rw[<-vG]at h2;unfold maxLen;omega
     refine .sl z.length rows' ⟨w.heap.size,0,none⟩ rows'.length (fun j=>cells.getD j undef) c2 (wl _) hm (fun j hj=>⟨rfl,.inr ⟨rfl,by simpa using hj⟩,?_⟩) (fun i j r c k1 k2=>?_)
     ·simp_all
     ·have ef:=c2 r (ww k1);have hj:j<z.length:=og;have Te:i<rows'.length:=og;have qf:i*z.length+j<cells.size:=by have:(i+1)*z.length<=rows'.length*z.length:=wQ _ Te;rw[yo,jd]at this;omega
      have:=c3 i j r c _ k1 k2 (wY qf);have hg:cells.getD (i*z.length+j) undef=cells[i*z.length+j]:=by simp[qf]
      rw[hg];exact this.mono ga.keep
   ·cases h
  ·cases h
 ·cases h
def lW{l l':List D}(h:LeL l l'){w:j5}{K:qM}{vs:Array j6}(hv: ∀(j:Nat) d v,l[j]? =some d->vs[j]? =some v->VD w (E0 K) d v):
  l.length=l'.length/\∀(j:Nat) d v,l'[j]? =some d->vs[j]? =some v->VD w (E0 K) d v:=by
 have key: ∀{l l':List D},LeL l l'->l.length=l'.length/\∀(j:Nat) d',l'[j]? =some d'->∃d,l[j]? =some d/\Le d d':=by
  intro l l' h;induction h with
  | nil=>exact⟨rfl,fun j d h=>by simp at h⟩
  | cons h1 h2 ih=>grind
 obtain⟨h1,h2⟩:=key h;refine⟨h1,fun j d v g1 g2=>?_⟩;obtain⟨d0,g3,g4⟩:=h2 j d g1;exact g4 w K v (hv j d0 v g3 g2)
def Qs(h:Program.plainF P f=true)(args:Array j6)(w:j5):(callFunc f args).run P w= .ok (.enter f args) w:=by
 unfold Program.plainF at h;cases hf:P.funcs[f]? with
 | none=>grind
 | some fn=>
  rw[hf]at h;simp only[we,bne_iff_ne,ne_eq]at h
  have h1 : (fn.name == "runtime.NumGoroutine") = false := og
  have h2:fn.body.isNone=false:=oA;have h3: ¬fn.body=none:=og;simp[callFunc,hf,h.1,h3]
def VD.ret_cl{r:D}(hr:VD w' E' r v):VD w' { K:=E'.K,ρ:=E.ρ,val:=E.val } r.cl v:=by
 cases hr with
 | any v=>exact .any v
 | one t v h=>exact .one _ _ (.c _ _ h.cl)
 | agg ts vs hl hr=>
  refine .agg _ vs (by simpa using hl) fun j t v h1 h2=>?_;rw[wh]at h1;cases hc:ts[j]? with
  | none=>grind
  | some t'=>rw[hc]at h1;injection h1 with h1;subst h1;exact .c _ _ (hr j t' v hc h2).cl
 | tup ds vs hl hr=>exact .any _
def Ret.quiet(h:Ret w E.K w' E'):Quiet w E w' { K:=E'.K,ρ:=E.ρ,val:=E.val }:=
 ⟨h.below,h.kin,h.kold,h.kok,rfl,rfl⟩
def sW{w:j5}{E:Env}{ev:j9->D}{ρ:j9->j6}(Q6: ∀x,VD w E (ev x) (ρ x))(args:List j9)(caps:List C)(vs:Array j6)(LD:vs.size=caps.length)
  (hc: ∀(j:Nat) c v,caps[j]? =some c->vs[j]? =some v->VC w E.K c v):
  ((args.map ρ).toArray++vs).size=((args.map ev).map D.cl++caps.map fun c=>D.one (.c c)).length/\
  ∀(j:Nat) d v,((args.map ev).map D.cl++caps.map fun c=>D.one (.c c))[j]? =some d->((args.map ρ).toArray++vs)[j]? =some v->VD w (E0 E.K) d v:=by
 refine⟨by simp[LD],fun j d v g1 g2=>?_⟩;by_cases hj:j<args.length
 ·rw[wU (by simpa using hj)]at g1;rw[jS (by simpa using hj)]at g2;simp[hj]at g1 g2;subst g1;subst g2;exact(Q6 _).cl
 ·rw[wL ot]at g1;rw[jN ot]at g2;simp only[wn,List.size_toArray]at g1 g2;rw[wh]at g1;cases Gb:caps[j - args.length]? with
  | none=>grind
  | some c=>rw[Gb]at g1;injection g1 with g1;subst g1;exact .one _ _ (.c _ _ (hc _ c v Gb g2))
def vC(ρ:j9->j6)(f:j9)(args:Array j9)(vy:Array j8)(ty:j8)(g:am)(vs:Array j6)(hf:ρ f= .func (.func g) #[] vs)(w:j5):
  (resolve ρ { callee:=.value f,args:=args,argTypes:=vy } ty).run P w= .ok { target:=.fn (.func g) vs,args:=args.map ρ } w:=by
 simp[resolve,hf,Deferred.ofValue]
def Sp{o:aa}{a:Act}{w:j5}{E:Env}{K:D->Prop}{f:j9}{args:Array j9}{vy:Array j8}(ho:o.op= .call { callee:=.value f,args:=args,argTypes:=vy }){ev:j9->D}
  (hk:KOk w E.K) (Q6: ∀x,VD w E (ev x) (a.eval x)) (h:YI P (ev f) (args.toList.map ev) K) {Q:ah->Act->j5->Prop}:o.wp P a w (SL o a w E K) Q:=by
 obtain⟨g,caps,ds,r,hf,vh,hc,hK⟩:=h;have hv:=Q6 f;rw[hf]at hv;cases mZ:a.eval f with
 | func fn first captured=>
  rw[mZ]at hv;cases hv with|one t v hv=>cases hv with|c c v hv=>cases hv with
   | fn g caps vs hl hr=>
    obtain⟨h1,h2⟩:=sW Q6 args.toList caps captured hl hr;have h1':(args.map a.eval++captured).size=ds.length:=by rw[<-(lW vh h2).1,<-h1];simp
    have h2': ∀(j:Nat) d v,ds[j]? =some d->(args.map a.eval++captured)[j]? =some v->VD w (E0 E.K) d v:=by have:=(lW vh h2).2;have he:(args.toList.map a.eval).toArray++captured=args.map a.eval++captured:=og;rw[he]at this;exact this
    have cp:=hc.2 w E.K _ hk h1' h2';have qS:(execOp a.eval o).run P w= .ok (.enter g (args.map a.eval++captured)) w:=by unfold execOp;simp only[ho,wq];rw[vC a.eval f args vy _ g captured mZ w];simp only[wj,invoke];exact Qs hc.1 _ w
    unfold j4;rw[qS];refine Calls.mono cp ?_;rintro e w' ⟨v,E',rfl,pg,hvd⟩;exact⟨r.cl,v,_,hK,rfl,pg.quiet,hvd.ret_cl⟩
 | _=>rw[mZ]at hv;cases hv with|one t v hv=>cases hv with|c c v hv=>cases hv
end
section
variable {P:Program}
def VD.bx_inv(h:VD w E (.one (.bx n sz i o)) v):v= .pointer (some ⟨E.ρ n,i*sz+o,none⟩):=by
 cases h with|one t v h=>cases h;rfl
def gq{f:Nat}(h:Program.fieldOff P t f=some off)(ad:Addr)(w:j5):(Instr.fieldAt t (.pointer (some ad)) f).run P w= .ok (.pointer (some (ad.add off))) w:=by
 unfold Program.fieldOff at h;split at h
 ·rename_i fs hu;split at h
  ·rename_i fd hf;split at h
   ·rename_i i hi;split at h
    ·cases h
    ·rename_i qH;injection h with h;subst h
     simp[Instr.fieldAt,run_underlying hu,hf,Instr.sureAddr,fieldPlace,sizeOf,typeInfo,hi,qH]
   ·cases h
  ·cases h
 ·cases h
def VC.pt_drop{cs:List C}(h:VC w K (.pt cs) v)(off:Nat): ∃ad,v= .pointer (some ad)/\VC w K (.pt (cs.drop off)) (.pointer (some (ad.add off))):=by
 cases h with
 | pt cs b o cv hK hr=>
  refine⟨_,rfl,?_⟩;rw[vE];refine .pt _ b (o+off) (fun j=>cv (off+j)) (fun j hj=>?_) (fun j c hc=>?_)
  ·grind
  ·grind
def LA{i:D}{r:j6}(h:o8 P t x i=some r)(hx:VD w E x u)(hi:VD w E i v):(Instr.index t u v).run P w= .ok r w/\r.oneCell'=true:=by
 unfold o8 at h;split at h
 ·rename_i s k j hu;split at h
  ·rename_i hj;rw[hx.lit,hi.lit];simp only[wK]at h;obtain⟨b,hb,rfl⟩:=h;have hb':s[j.toNat]? =some b:=by
    rw[<-hb];obtain⟨hl,e⟩:=wg.1 hb;have hl':j.toNat<s.size:=by simpa using hl
    rw[hb,getElem?_pos s j.toNat hl',Option.some.injEq,<-e];simp[ByteArray.getElem_eq_getElem_data]
   refine⟨?_,rfl⟩;simp[Instr.index,asIntOf,run_underlying hu,hj,hb']
  ·cases h
 ·cases h
def DZ: ∀{xs:List (List C)} {l:List UInt8},fM xs=some l->xs.length=l.length/\∀(j:Nat) r,xs[j]? =some r->∃n b,r= [.lit (.int .u8 n)]/\l[j]? =some b/\b=UInt8.ofNat n.toNat
 | [],l,h=>by simp[fM]at h;subst h;simp
 | x::xs,l,h=>by
  unfold fM at h;split at h
  ·grind
  ·rename_i c l' he;injection he with h1 h2
   subst h1;subst h2;cases hb:Bs c with
   | none=>grind
   | some b=>
    rw[hb]at h;cases hr:fM xs with
    | none=>grind
    | some r=>
     rw[hr]at h;simp at h;subst h;obtain⟨i1,i2⟩:=DZ hr;refine⟨by simp[i1],fun j q hq=>?_⟩;cases j with
     | zero=>
      simp at hq;subst hq;unfold Bs at hb;split at hb
      ·grind
      ·cases hb
     | succ j=>grind
  ·cases h
def dU: ∀(ns:List Int) (r:ByteArray),ns.foldl (fun r n=>r.push (UInt8.ofNat n.toNat)) r=⟨r.data++(ns.map fun n=>UInt8.ofNat n.toNat).toArray⟩
 | [],r=>oh
 | n::ns,r=>by rw[yE,dU ns];simp[ByteArray.push]
def FJ{src dst e:j8}{x d:D}(h:(x.asSl.bind fun(sz,xs)=>if sz=1 then(fM xs).map fun l=>D.one (.c (.lit (.string ⟨l.toArray⟩)))else none)=some d)(hs:P.underlying src=some (.slice e))(he:P.underlying e=some (.int .u8))(hd:P.underlying dst=some .string)
  {w:j5} {E:Env} (hk:KOk w E.K) {u:j6} (hx:VD w E x u): ∃v w' E',(convert src dst u).run P w= .ok v w'/\Quiet w E w' E'/\VD w' E' d v:=by
 cases ha:x.asSl with
 | none=>grind
 | some p=>
  obtain⟨sz,xs⟩:=p;rw[ha]at h;simp only[yT]at h;split at h
  ·rename_i vo;subst vo;cases hr:fM xs with
   | none=>grind
   | some l=>
    rw[hr]at h;injection h with h;subst h
    obtain⟨hl,gg⟩:=DZ hr;rcases(sV ha hx).sl_inv with⟨rfl,rfl⟩|⟨a,cap,cv,rfl,vo,hc,hm,hK,hV⟩
    ·have:l= []:=by grind
     subst this;refine⟨_,w,E,?_,Quiet.refl hk,.one _ _ (.c _ _ (.lit _ rfl))⟩;rw[run_convert_bytes_string w src dst e none 0 0 hs he hd];rfl
    ·obtain⟨ns,hns⟩: ∃ns:List Int,ns=(wR xs.length).map fun j=>match cv j with| .int _ n=>n|_=>0:=⟨_,rfl⟩
     have Bb: ∀j (hj:j<xs.length),∃n b,cv j= .int .u8 n/\l[j]? =some b/\b=UInt8.ofNat n.toNat:=fun j hj=>by
      obtain⟨n,b,h1,h2,h3⟩:=gg j xs[j] (wa hj);have hv:=hV j 0 xs[j] (.lit (.int .u8 n)) (wa hj) (by rw[h1];rfl);simp only[Nat.mul_one,jB]at hv;cases hv':cv j with
      | int k z=>rw[hv']at hv;cases hv with|lit _ _=>exact⟨n,b,rfl,h2,h3⟩
      | _=>rw[hv']at hv;cases hv
     have sa:ns.length=xs.length:=og;have hnat: ∀j (hj:j<xs.length),∃n b,ns[j]? =some n/\cv j= .int .u8 n/\l[j]? =some b/\b=UInt8.ofNat n.toNat:=fun j hj=>by obtain⟨n,b,h1,h2,h3⟩:=Bb j hj;refine⟨n,b,?_,h1,h2,h3⟩;rw[hns,wh,List.getElem?_range hj];simp[h1]
     have Ya:=run_loadCells_list (P:=P) w a (ns.map (Value.int .u8)) (fun j v hj=>by
      rw[wh]at hj;have A8:j<xs.length:=og;obtain⟨n,b,h1,h2,_⟩:=hnat j A8;rw[h1]at hj;injection hj with hj
      obtain⟨k1,_,k3⟩:=hK j oa;rw[<-hj,<-h2,<-k3];have:a.add j=⟨a.block,a.off+j,none⟩:=by
       obtain⟨ab,ao,asp⟩:=a;simp only at k1;subst k1;simp only[Addr.add];split
       ·rename_i h0;simp[h0]
       ·rfl
      rw[this])
     rw[wn,sa]at Ya;refine⟨_,w,E,?_,Quiet.refl hk,.one _ _ (.c _ _ (.lit _ rfl))⟩;rw[run_convert_bytes_string w src dst e (some a) xs.length cap hs he hd,run_bytesToString w a xs.length cap ns Ya,dU];congr 3;have:(ns.map fun n=>UInt8.ofNat n.toNat)=l:=by
      apply List.ext_getElem?;intro j;rcases yD j xs.length with hj|hj
      ·obtain⟨n,b,h1,_,h2,h3⟩:=hnat j hj;rw[wh,h1,h2,h3];rfl
      ·rw[jc ot,jc oa]
     rw[this];simp
  ·cases h
def R4{src dst:j8}{x d:D}(h:JG P src dst x=some d){w:j5}{E:Env}(hk:KOk w E.K){u:j6}(hx:VD w E x u):
  ∃v w' E',(convert src dst u).run P w= .ok v w'/\Quiet w E w' E'/\VD w' E' d v:=by
 unfold JG at h;split at h
 ·rename_i e s hs hd;split at h
  ·rename_i he;split at h
   ·rename_i hm;injection h with h;subst h
    rw[hx.lit];have qS:=Lib.run_convert_string_bytes w src dst e s hs hd he;have dC:=grownCap_ge w s.size 0 e;have vh:=grownCap_le_maxLen w s.size 0 e hm;refine⟨_,_,{ E with K:=fun b o=>E.K b o\/(b=w.heap.size/\o<s.size) },qS,?_,?_⟩
    ·have x7: ∀b o,b<w.heap.size->(Lib.bytesWorld w e s).cell? ⟨b,o,none⟩=w.cell? ⟨b,o,none⟩:=fun b o hb=>Lib.bytesWorld_old w e s ⟨b,o,none⟩ hb;refine⟨⟨rfl,rfl,rfl,by rw[Lib.bytesWorld_size];omega,fun b hb=>Lib.bytesWorld_at_old w e s b hb⟩,fun b o h=>.inl h,fun b o hb h=>?_,hk.wide (fun b o q=>⟨.inl q,x7 b o (qP (hk b o q))⟩) (fun b o h=>?_) (hk.z.below ⟨rfl,rfl,rfl,by rw[Lib.bytesWorld_size];omega,fun b hb=>Lib.bytesWorld_at_old w e s b hb⟩),rfl,rfl⟩
     ·rcases h with h|⟨h,_⟩
      ·exact h
      ·omega
     ·rcases h with h|⟨rfl,h⟩
      ·rw[x7 b o (qP (hk b o h))];exact hk b o h
      ·rw[Lib.bytesWorld_cell w e s o h];rfl
    ·refine .one _ _ (.c _ _ ?_);have vG:(QS s).length=s.size:=by simp[QS]
     have:=VC.sl (w:=Lib.bytesWorld w e s) (K:=fun b o=>E.K b o\/(b=w.heap.size/\o<s.size)) 1 (QS s) ⟨w.heap.size,0,none⟩ (grownCap w s.size 0 e) (fun j=>.int .u8 (s.data.toList.getD j 0).toNat)
      (fun r hr=>by simp only[QS,wN]at hr;obtain⟨b,_,rfl⟩:=hr;rfl) (by rw[vG];exact dC) vh
      (fun j hj=>by
       have hj':j<s.size:=by rw[vG,Nat.mul_one]at hj;exact hj
       simp only[yi];exact⟨trivial,.inr ⟨trivial,hj'⟩,Lib.bytesWorld_cell w e s j hj'⟩)
      (fun i j r c h1 h2=>by
       simp only[QS,wh]at h1;cases hb:s.data.toList[i]? with
       | none=>rw[hb]at h1;cases h1
       | some b=>
        rw[hb]at h1;injection h1 with h1;subst h1
        cases j with
        | zero=>
         simp at h2;subst h2;have:s.data.toList.getD (i*1+0) 0=b:=by simp[List.getD,hb]
         rw[this];exact .lit _ rfl
        | succ j=>simp at h2)
     rw[vG]at this;exact this
   ·cases h
  ·cases h
 ·rename_i e hs hd;split at h
  ·rename_i he;exact FJ h hs he hd hk hx
  ·cases h
 ·rename_i k n hs hd;injection h with h;subst h
  rw[hx.lit];exact⟨_,w,E,by simp[convert,run_underlying hs,run_underlying hd,Conv.intToString],Quiet.refl hk,.one _ _ (.c _ _ (.lit _ rfl))⟩
 ·cases h
def R5{src dst:j8}{x d:D}(h:Bn P src dst x=some d){w:j5}{E:Env}(hk:KOk w E.K){u:j6}(hx:VD w E x u):
  ∃v w' E',(convert src dst u).run P w= .ok v w'/\Quiet w E w' E'/\VD w' E' d v:=by
 unfold Bn at h;split at h
 ·rename_i v hd;injection h with h;subst h
  obtain⟨h1,h2⟩:=R6 hd hx;exact⟨v,w,E,h1,Quiet.refl hk,.one _ _ (.c _ _ (.lit _ h2))⟩
 ·exact R4 h hk hx
def LZ{f:Nat}(h:pv P t f x=some d)(hx:VD w E x u): ∃v,(Instr.field t u f).run P w= .ok v w/\VD w E d v:=by
 unfold pv at h;split at h
 ·rename_i fs cs hu;split at h
  ·rename_i fd hf;obtain⟨vs,rfl⟩: ∃vs,u= .agg vs:=by cases hx with|agg _ vs=>exact⟨_,rfl⟩
   obtain⟨v,h1,h2⟩:=tY h hx;exact⟨v,by simp[Instr.field,run_underlying hu,hf,asAgg,h1],h2⟩
  ·cases h
 ·cases h
def bW{ev:j9->D}{ρ:j9->j6}(Q6: ∀x,VD w E (ev x) (ρ x))(x:Option j9):nL (x.map ev) (x.map ρ) w E:=by
 cases x with
 | none=>trivial
 | some x=>exact Q6 x
def Io: ∀{ts:List T} {cs:List C},ts.mapM T.asC=some cs->ts=cs.map T.c
 | [],cs,h=>by simp at h;subst h;rfl
 | t::ts,cs,h=>by
  simp only[jV,Option.pure_def,Option.bind_eq_bind,w7]at h;obtain⟨c,h1,l,h2,h3⟩:=h;injection h3 with h3;subst h3
  have hc:t= .c c:=by cases t<;>simp[T.asC]at h1;rw[h1]
  rw[Io h2,hc];rfl
def V6(hl:vs.size=ts.length)(hr: ∀(j:Nat) t v,ts[j]? =some t->vs[j]? =some v->VT w E t v):VD w E (Rt f ts) (.func (.func f) #[] vs):=by
 unfold Rt;split
 ·rename_i cs nP;have:=Io nP;subst this;refine .one _ _ (.c _ _ (.fn f cs vs (by simpa using hl) fun j c v h1 h2=>?_));have:=hr j (.c c) v (by simp[h1]) h2;cases this;assumption
 ·exact .one _ _ (.fv f ts vs hl hr)
def SM{o:aa}{a:Act}{w:j5}{E:Env}{ev:j9->D}{bx:vT}{K:D->Prop}{Q:ah->Act->j5->Prop}
  (hk:KOk w E.K) (hb: ∀n rows,bx n=some rows->rows≠ []->BoxIs w E (E.ρ n) rows) (Q6: ∀x,VD w E (ev x) (a.eval x)) (h:QD P ev bx o.op K):
  o.wp P a w (SL o a w E K) Q:=by
 cases ho:o.op with
 | move x=>rw[ho]at h;exact vj hk (by simp[execOp,ho]) (Q6 x) h
 | assign x=>rw[ho]at h;exact vj hk (by simp[execOp,ho]) (Q6 x) h
 | pick c x y=>
  rw[ho]at h;simp only[QD]at h;split at h
  ·rename_i t ht;have hc:=xC ht (Q6 c);refine vj hk (v:=if t then a.eval x else a.eval y) (by cases t<;>simp[execOp,ho,hc,asBool]) ?_ h;cases t
   ·grind
   ·grind
  ·grind
 | load t x=>
  rw[ho]at h;simp only[QD]at h;split at h
  ·rename_i d hd;obtain⟨ad,u,h1,h2,h3⟩:=Pm hd hb (Q6 x);exact vj hk (by simp[execOp,ho,h1,Instr.loadAt,Instr.sureAddr,h2]) h3 h
  ·grind
 | build t parts=>
  rw[ho]at h;simp only[QD]at h;split at h
  ·rename_i cs hd;obtain⟨v,h1,h2⟩:=Mi hd Q6;exact vj hk (by simp only[execOp,ho,wq,h1,wj,wG]) h2 h
  ·grind
 | buildSlice t len parts=>
  rw[ho]at h;simp only[QD]at h;split at h
  ·rename_i sz rows hd;obtain⟨v,w',E',h1,h2,h3⟩:=xv hd hk Q6;exact vg (by simp only[execOp,ho,wq,h1,wj,wG]) ⟨_,v,E',h,rfl,h2,h3⟩
  ·grind
 | binOp op t x y ty=>
  rw[ho]at h;simp only[QD]at h;split at h
  ·rename_i v hd;obtain⟨h1,h2⟩:=JP hd (Q6 x) (Q6 y) x y;refine vj hk (v:=v) ?_ (.one _ _ (.c _ _ (.lit _ h2))) h;simp only[execOp,ho,wq]at h1 ⊢;rw[h1];rfl
  ·grind
 | unOp op t x=>
  rw[ho]at h;simp only[QD]at h;split at h
  ·rename_i v hd;obtain⟨h1,h2⟩:=Y8 (P:=P) hd (Q6 x);exact vj hk (by simp only[execOp,ho,wq,h1,wj,wG]) (.one _ _ (.c _ _ (.lit _ h2))) h
  ·grind
 | convert src dst x=>
  rw[ho]at h;simp only[QD]at h;split at h
  ·rename_i v hd;obtain⟨u,w',E',h1,h2,h3⟩:=R5 hd hk (Q6 x);exact vg (by simp only[execOp,ho,wq,h1,wj,wG]) ⟨_,u,E',h,rfl,h2,h3⟩
  ·grind
 | index t x i=>
  rw[ho]at h;simp only[QD]at h;split at h
  ·rename_i v hd;obtain⟨h1,h2⟩:=LA hd (Q6 x) (Q6 i);exact vj hk (by simp only[execOp,ho,wq,h1,wj,wG]) (.one _ _ (.c _ _ (.lit _ h2))) h
  ·grind
 | fieldAddr t x f=>
  rw[ho]at h;simp only[QD]at h;have hx:=Q6 x;split at h
  ·rename_i off cs h1 h2;rw[h2]at hx;cases hx with|one t v hx=>cases hx with|c c v hx=>
    obtain⟨ad,e1,e2⟩:=hx.pt_drop off;exact vj hk (by simp only[execOp,ho,wq,e1,gq h1,wj,wG]) (.one _ _ (.c _ _ e2)) h
  ·rename_i off n sz i o' h1 h2;rw[h2]at hx;have e1:=hx.bx_inv;refine vj hk (v:=.pointer (some ((⟨E.ρ n,i*sz+o',none⟩:Addr).add off))) (by simp only[execOp,ho,wq,e1,gq h1,wj,wG]) ?_ h;rw[vE,ju];exact .one _ _ (.bx n sz i (o'+off))
  ·grind
 | field t x f=>
  rw[ho]at h;simp only[QD]at h;split at h
  ·rename_i d hd;obtain⟨v,h1,h2⟩:=LZ hd (Q6 x);exact vj hk (by simp only[execOp,ho,wq,h1,wj,wG]) h2 h
  ·grind
 | indexAddr t x i=>
  rw[ho]at h;simp only[QD]at h;have hx:=Q6 x;split at h
  ·rename_i n sz i' len cap k j h1 h2;obtain⟨g1,g2,g3,g4⟩:=h;rw[h1]at hx;have hj:=xC h2 (Q6 i);obtain⟨v,e1,e2⟩:=Hy g1 g2 g3 hx k;exact vj hk (by simp only[execOp,ho,wq,hj,e1,wj,wG]) e2 g4
  ·rename_i d k j h2 qH;split at h
   ·rename_i sz xs h1;obtain⟨g1,g2,r,g3,g4⟩:=h;have hj:=xC h2 (Q6 i);obtain⟨v,e1,e2⟩:=Hz h1 g1 g2 g3 hx k;exact vj hk (by simp only[execOp,ho,wq,hj,e1,wj,wG]) e2 g4
   ·grind
  ·grind
 | slice t x lo hi mx=>
  rw[ho]at h;simp only[QD]at h;split at h
  ·rename_i d hd;obtain⟨v,h1,h2⟩:=Aw hd (Q6 x) (bW Q6 lo) (bW Q6 hi) (bW Q6 mx);exact vj hk (by simp only[execOp,ho,wq,h1,wj,wG]) h2 h
  ·grind
 | call c=>
  obtain⟨callee,args,vy⟩:=c;rw[ho]at h;simp only[QD]at h;cases callee with
  | value f=>exact Sp ho hk Q6 h
  | invoke r m=>grind
  | builtin b=>
   cases b with
   | len=>
    simp only at h;split at h
    ·rename_i x t hx ht;split at h
     ·rename_i n hn;have ha:args= #[x]:=og;have htt:vy= #[t]:=og;subst ha;subst htt;have h1:=Vh hn (Q6 x) o.type;refine vj hk (v:=.int .i64 n) ?_ (.one _ _ (.c _ _ (.lit _ rfl))) h;simp only[execOp,ho,resolve,wq,wG,wj,invoke,builtin,jL,wo,wm,h1]
     ·grind
    ·grind
   | cap=>
    simp only at h;split at h
    ·rename_i x t hx ht;split at h
     ·rename_i n hn;have ha:args= #[x]:=og;have htt:vy= #[t]:=og;subst ha;subst htt;have h1:=Wx hn (Q6 x) o.type;refine vj hk (v:=.int .i64 n) ?_ (.one _ _ (.c _ _ (.lit _ rfl))) h;simp only[execOp,ho,resolve,wq,wG,wj,invoke,builtin,jL,wo,wm,h1]
     ·grind
    ·grind
   | _=>
    simp only at h;split at h
    ·rename_i d hd;obtain⟨r,h1,h2⟩:=WA (P:=P) hd Q6 vy o.type;refine vj hk (v:=r) ?_ h2 h;simp only[execOp,ho,resolve,wq,wG,wj,invoke];rw[<-h1,<-jL,Array.toArray_toList]
    ·grind
 | extract x i=>
  rw[ho]at h;simp only[QD]at h;have hx:=Q6 x;split at h
  ·rename_i ds hds;rw[hds]at hx;split at h
   ·rename_i d hd;cases hv:a.eval x with
    | tuple vs=>
     rw[hv]at hx;cases hx with
     | tup _ _ hl hr=>
      have qf:i<vs.size:=og;exact vj hk (v:=vs[i]) (by simp[execOp,ho,hv,Instr.extract,qf]) (hr i d _ hd (wY qf)) h
    | _=>rw[hv]at hx;cases hx
   ·grind
  ·grind
 | nilCheck x=>
  rw[ho]at h;simp only[QD]at h;have hx:=Q6 x;split at h
  ·rename_i n sz i o' hd;rw[hd]at hx;have e1:=hx.bx_inv;exact vj hk (v:=a.eval x) (by simp only[execOp,ho,e1,wG]) hx h
  ·rename_i cs hd;rw[hd]at hx;have hx':=hx;cases hx with|one t v hx=>cases hx with|c c v hx=>
    obtain⟨ad,e1,_⟩:=hx.pt_drop 0;exact vj hk (v:=a.eval x) (by simp only[execOp,ho,e1,wG]) hx' h
  ·rename_i f caps hd;rw[hd]at hx;have hx':=hx;cases hv:a.eval x with
   | func fn first cap=>
    rw[hv]at hx hx';cases hx with|one t v hx=>cases hx with|c c v hx=>cases hx with
     | fn f caps vs hl hr=>exact vj hk (by simp only[execOp,ho,hv,wG]) hx' h
   | _=>rw[hv]at hx;cases hx with|one t v hx=>cases hx with|c c v hx=>cases hx
  ·rename_i f caps hd;rw[hd]at hx;have hx':=hx;cases hv:a.eval x with
   | func fn first cap=>
    rw[hv]at hx hx';cases hx with|one t v hx=>cases hx with
     | fv f caps vs hl hr=>exact vj hk (by simp only[execOp,ho,hv,wG]) hx' h
   | _=>rw[hv]at hx;cases hx with|one t v hx=>cases hx
  ·grind
 | makeFunc fn first captured=>
  rw[ho]at h;cases fn with
  | func f=>
   simp only[QD]at h;split at h
   ·rename_i hfe;split at h
    ·rename_i cs nP;have hf0:first= #[]:=og
     subst hf0;have key: ∀(l:List j9) (cs:List T),((l.map ev).mapM Bq)=some cs->
       l.length=cs.length/\∀(j:Nat) c v,cs[j]? =some c->(l.map a.eval)[j]? =some v->VT w E c v:=by
      intro l;induction l with
      | nil=>intro cs h;simp at h;subst h;exact⟨rfl,fun j c v h1 _=>by simp at h1⟩
      | cons x l ih=>
       intro cs h;simp only[wo,jV,Option.pure_def,Option.bind_eq_bind,w7]at h;obtain⟨c0,h1,l',h2,h3⟩:=h;injection h3 with h3;subst h3
       obtain⟨g1,g2⟩:=ih l' h2;refine⟨by simp[g1],fun j c v k1 k2=>?_⟩;cases j with
       | zero=>
        simp at k1 k2;subst k1;subst k2;have hx:=Q6 x;unfold Bq at h1;split at h1
        ·rename_i y hy;injection h1 with h1;subst h1
         rw[hy]at hx;cases hx with|one t v hx=>exact hx
        ·cases h1
       | succ j=>grind
     obtain⟨g1,g2⟩:=key captured.toList cs nP;have vo:(captured.map a.eval).size=cs.length:=og;have zW: ∀(j:Nat) c v,cs[j]? =some c->(captured.map a.eval)[j]? =some v->VT w E c v:=og;refine vj hk (v:=.func (.func f) #[] (captured.map a.eval)) (by simp[execOp,ho,Instr.makeFunc]) (V6 vo zW) h
    ·grind
   ·grind
  | _=>exact h.elim
 | _=>rw[ho]at h;exact h.elim
end
structure RowSet(w w':j5)(b:Nat)(e:j8)(arr arr':Array j6):Prop where
 was:w.heap[b]? =some (.cells arr e (0,0))
 is:w'.heap[b]? =some (.cells arr' e (0,0))
 size:arr'.size=arr.size
 heap:w'.heap.size=w.heap.size
 other: ∀k,k≠b->w'.heap[k]? =w.heap[k]?
 os:w'.os=w.os
 tape:w'.tape=w.tape
 output:w'.output=w.output
def RowSet.turn(h:RowSet w w' b e arr arr')(R:Nat->Prop)(hR: ∀o,¬R o->arr'[o]? =arr[o]?):Turn (fun c o=>c=b/\R o) w w':=by
 refine⟨h.os,h.tape,h.output,by rw[h.heap];exact wl _,fun k hk=>?_⟩;by_cases hb:k=b
 ·subst hb;exact .inr ⟨arr,e,arr',h.was,h.is,h.size,fun o ho=>hR o fun hr=>ho ⟨rfl,hr⟩⟩
 ·exact .inl (h.other k hb)
def RowSet.cell_other(h:RowSet w w' b e arr arr')(hk:k≠b):w'.cell? ⟨k,o,none⟩=w.cell? ⟨k,o,none⟩:=
 jf (w:=w) (a:=⟨k,o,none⟩) (h.other k hk)
def RowSet.cell_same(h:RowSet w w' b e arr arr')(ho:arr'[o]? =arr[o]?):w'.cell? ⟨b,o,none⟩=w.cell? ⟨b,o,none⟩:=by simp[World.cell?,h.was,h.is,ho]
def RowSet.free(h:RowSet w w' b e arr arr')(hf:Free w k o):Free w' k o:=by
 obtain⟨c,t,h1,h2⟩:=hf;by_cases hk:k=b
 ·subst hk;rw[h.was]at h1;injection h1 with h1;injection h1 with h1 h3
  subst h1;subst h3;exact⟨arr',e,h.is,by rw[h.size];exact h2⟩
 ·exact⟨c,t,(h.other k hk).trans h1,h2⟩
def RelE.commit{X:Origin}{s:DS}{E:Env}{a:Act}{w w':j5}(h:RelE X s E a w){b lo hi:Nat}{e:j8}{arr arr':Array j6}(hr:RowSet w w' b e arr arr')(vo:hi<=arr.size)
  (X3: ∀o,¬(lo<=o/\o<hi)->arr'[o]? =arr[o]?) (hB: ∀o,lo<=o->o<hi->X.Young b o) (hK: ∀o,lo<=o->o<hi->¬E.K b o) (XZ: ∀n o,lo<=o->o<hi->¬zP (E.val n) b o)
  (HJ: ∀m rows,s.bx m=some rows->rows≠ []->b≠E.ρ m):
  RelE X s { E with K:=fun c o=>E.K c o\/(c=b/\lo<=o/\o<hi) } a w'/\Later w E w' { E with K:=fun c o=>E.K c o\/(c=b/\lo<=o/\o<hi) }:=by
 have hl:Later w E w' { E with K:=fun c o=>E.K c o\/(c=b/\lo<=o/\o<hi) }:=by
  refine⟨fun c o hc=>⟨.inl hc,?_⟩,rfl,rfl⟩;by_cases hcb:c=b
  ·subst hcb;exact hr.cell_same (X3 o fun⟨h1,h2⟩=>hK o h1 h2 hc)
  ·exact hr.cell_other hcb
 have ht:=hr.turn (fun o=>lo<=o/\o<hi) X3;refine⟨⟨⟨h.wi.turn.trans ht (fun i o hi' ⟨h1,h2,h3⟩=>?_),h.wi.sep,fun c o hc=>.inl (h.wi.kin c o hc),fun c o hc hF hk=>?_,h.wi.kok.wide hl.keep (fun c o hk=>?_) (h.wi.kok.z.turn ht),fun n ts hn qH=>?_,h.wi.boxne,fun n c o hs=>?_,h.wi.disj,h.wi.sbox,h.wi.fix⟩,fun t=>(h.sl t).mono hl,h.size,h.defers.turn ht,h.small,h.pl⟩,hl⟩
 ·subst h1;rcases hB o h2 h3 with g|g
  ·omega
  ·exact g
 ·rcases hk with hk|⟨rfl,h1,h2⟩
  ·exact h.wi.kold c o hc hF hk
  ·rcases hB o h1 h2 with g|g
   ·omega
   ·grind
 ·rcases hk with hk|⟨rfl,h1,h2⟩
  ·rw[(hl.keep c o hk).2];exact h.wi.kok c o hk
  ·have:o<arr'.size:=by rw[hr.size];omega
   simp[World.cell?,hr.is,this]
 ·obtain⟨h1,h2,h3⟩:=h.wi.boxes n ts hn qH;have hne':=HJ n ts hn qH;refine⟨h1,h2.mono hl (hr.other _ (fun e=>hne' e.symm)),fun o ho=>?_⟩;rcases ho with ho|⟨ho,_⟩
  ·grind
  ·grind
 ·obtain⟨h1,h2,h3⟩:=h.wi.free n c o hs;refine⟨h1,fun hk=>?_,hr.free h3⟩;rcases hk with hk|⟨rfl,k1,k2⟩
  ·grind
  ·grind
def zw(h:(s.tr r).bx m=some rows): ∃rows',s.bx m=some rows'/\rows=Rows.tr r rows':=by simp only[DS.tr,wK]at h;obtain⟨r',h1,h2⟩:=h;exact⟨r',h1,h2.symm⟩
def RelE.setVal{X:Origin}{s:DS}{E:Env}{a:Act}{w:j5}(h:RelE X s E a w)(n:Nat)(p:j6×Nat)
  (hp: ∀b o,zP p b o->X.Young b o/\¬E.K b o/\Free w b o/\(∀m,m≠n->¬zP (E.val m) b o)/\(∀m rows,s.bx m=some rows->rows≠ []->b≠E.ρ m)):
  RelE X (s.close [n]) (E.setVal n p) a w:=by
 have hR:=fP E n p;refine⟨⟨h.wi.turn,h.wi.sep,h.wi.kin,h.wi.kold,h.wi.kok,fun m rows hm qH=>?_,fun m k rm rk hm h1 hk h2=>?_,fun m b o hs=>?_,fun m k b o hs hs'=>?_,fun m k b o rk hs hk h2=>?_,h.wi.fix⟩,fun t=>(h.sl t).tr hR,h.size,h.defers,h.small,h.pl⟩
 ·obtain⟨r',h1,rfl⟩:=zw hm;obtain⟨g1,g2,g5⟩:=h.wi.boxes m r' h1 (Rows.tr_ne qH);exact⟨g1,g2.tr hR,g5⟩
 ·obtain⟨r1,e1,rfl⟩:=zw hm;obtain⟨r2,e2,rfl⟩:=zw hk;exact h.wi.boxne m k r1 r2 e1 (Rows.tr_ne h1) e2 (Rows.tr_ne h2)
 ·simp only[Env.setVal]at hs;split at hs
  ·obtain⟨g1,g2,g3,_⟩:=hp b o hs;exact⟨g1,g2,g3⟩
  ·exact h.wi.free m b o hs
 ·simp only[Env.setVal]at hs hs';split at hs<;>split at hs'
  ·omega
  ·grind
  ·grind
  ·exact h.wi.disj m k b o hs hs'
 ·obtain⟨r2,e2,rfl⟩:=zw hk;simp only[Env.setVal]at hs;split at hs
  ·exact(hp b o hs).2.2.2.2 k r2 e2 (Rows.tr_ne h2)
  ·exact h.wi.sbox m k b o r2 hs e2 (Rows.tr_ne h2)
def RelE.quiet{X:Origin}(h:RelE X s E a w)(q:Quiet w E w' E'):RelE X s E' a w':=
 ⟨h.wi.quiet q,fun t=>(h.sl t).mono (q.later h.wi.kok),h.size,h.defers.turn (Below.turn q.below (fun _ _=>False)),h.small,h.pl⟩
def RelE.putOnly{X:Origin}(h:RelE X s E a w){dst:Option Nat}(hd: ∀d,dst=some d->d<s.n)(hv:VD w E d v):RelE X (s.put dst d) E (a.put dst v) w:=
 h.put (Quiet.refl h.wi.kok) hd hv
def RowsIs(w:j5)(E:Env)(arr:Array j6)(rows:Rows):Prop:=
 ∃sz,(∀r∈rows,r.length=sz)/\arr.size=rows.length*sz/\∀(i j:Nat) r t v,rows[i]? =some r->r[j]? =some t->arr[i*sz+j]? =some v->VT w E t v
def BoxIs.rowsIs(h:BoxIs w E b rows): ∃arr e,w.heap[b]? =some (.cells arr e (0,0))/\RowsIs w E arr rows:=by obtain⟨sz,arr,e,h1,h2,h3,h4⟩:=h;exact⟨arr,e,h1,sz,h2,h3,h4⟩
def RowsIs.boxIs(h:RowsIs w E arr rows)(hb:w.heap[b]? =some (.cells arr e (0,0))):BoxIs w E b rows:=by obtain⟨sz,h2,h3,h4⟩:=h;exact⟨sz,arr,e,hb,h2,h3,h4⟩
def RowsIs.mono(h:Later w E w' E')(hx:RowsIs w E arr rows):RowsIs w' E' arr rows:=by obtain⟨sz,h2,h3,h4⟩:=hx;exact⟨sz,h2,h3,fun i j r t v hi ht hv=>(h4 i j r t v hi ht hv).mono h⟩
def DS.newMem(s:DS)(m:Nat)(rows:Rows):DS:=(s.tr (lN m)).setBx m (some (Rows.tr (lN m) rows))
def DS.newBx(s:DS)(m:Nat)(ts:List T):DS:=(s.newMem m [ts]).put (some m) (.one (.bx m ts.length 0 0))
theorem K5(s:DS)(m:Nat)(rows:Rows)(k:Nat):(s.newMem m rows).bx k=if k=m then some (Rows.tr (lN m) rows)else(s.bx k).map (Rows.tr (lN m)):=rfl
def bg{r:Rows}(h:(s.newMem m rows).bx k=some r):(k=m/\r=Rows.tr (lN m) rows)\/(k≠m/\∃r',s.bx k=some r'/\r=Rows.tr (lN m) r'):=by
 rw[K5]at h;split at h
 ·grind
 ·rename_i hk;simp only[wK]at h;obtain⟨r',h1,h2⟩:=h;exact .inr ⟨hk,r',h1,h2.symm⟩
def RelE.newMem{X:Origin}{s:DS}{E:Env}{a:Act}{w:j5}(h:RelE X s E a w)(m:Nat)(hm:m<s.n)(arr:Array j6)(e:j8)(rows:Rows)(hv:RowsIs w E arr rows):
  RelE X (s.newMem m rows) (E.setρ m w.heap.size) a (w.alloc (.cells arr e)):=by
 have q:=fR h.wi.kok arr e 0 (wM _);have h1:=h.quiet q;have Z4:Later w E (w.alloc (.cells arr e)) E:=⟨fun b o hb=>⟨hb,by have:=qP (h.wi.kok b o hb);exact jw w _ ⟨b,o,none⟩ this⟩,rfl,rfl⟩;have qf: ∀n ts,s.bx n=some ts->ts≠ []->E.ρ n<w.heap.size:=fun n ts hn qH=>(h.wi.boxes n ts hn qH).2.1.lt;have vo:X.w.heap.size<=w.heap.size:=h.wi.turn.size;have bi:(w.alloc (.cells arr e)).heap[w.heap.size]? =some (.cells arr e (0,0)):=heap_alloc_new w _;have hR:=Ea E m w.heap.size;have LC:(E.setρ m w.heap.size).ρ m=w.heap.size:=by simp[Env.setρ]
 have hρ: ∀k,k≠m->(E.setρ m w.heap.size).ρ k=E.ρ k:=fun k hk=>by simp[Env.setρ,hk]
 refine⟨⟨h1.wi.turn,h.wi.sep,h.wi.kin,h.wi.kold,h.wi.kok.wide Z4.keep (fun b o hb=>?_) (h.wi.kok.z.below ((Below.refl _ _).alloc (wl _) _)),fun n us hn qH=>?_,fun n k rn rk hn h2 hk h3 qH=>?_,fun n b o hs=>?_,h.wi.disj,fun n k b o rk hs hk h3=>?_,fun n hn=>?_⟩,fun t=>((h.sl t).mono Z4).tr hR,h.size,h1.defers,h.small,h.pl⟩
 ·have:=qP (h.wi.kok b o hb);show((w.alloc (.cells arr e)).cell? ⟨b,o,none⟩).isSome=true;rw[jw w _ ⟨b,o,none⟩ this];exact h.wi.kok b o hb
 ·rcases bg hn with⟨rfl,rfl⟩|⟨fj,r',g1,rfl⟩
  ·rw[LC];exact⟨.inl vo,((hv.mono Z4).boxIs bi).tr hR,fun o ho=>ak (qP (h.wi.kok _ o ho)) oa⟩
  ·obtain⟨g2,g3,g4⟩:=h.wi.boxes n r' g1 (Rows.tr_ne qH);rw[hρ n fj];exact⟨g2,(g3.mono Z4 (Below.heap_alloc w _ _ g3.lt)).tr hR,g4⟩
 ·rcases bg hn with⟨rfl,rfl⟩|⟨fj,r',g1,rfl⟩
  ·rcases bg hk with⟨rfl,_⟩|⟨hkm',r2,g2,rfl⟩
   ·omega
   ·rw[LC,hρ k hkm'];have:=qf k r2 g2 (Rows.tr_ne h3);omega
  ·rcases bg hk with⟨rfl,_⟩|⟨hkm',r2,g2,rfl⟩
   ·rw[LC,hρ n fj];have:=qf n r' g1 (Rows.tr_ne h2);omega
   ·rw[hρ n fj,hρ k hkm'];exact h.wi.boxne n k r' r2 g1 (Rows.tr_ne h2) g2 (Rows.tr_ne h3) qH
 ·obtain⟨g1,g2,arr',e',g3,g4⟩:=h.wi.free n b o hs;have hb:b<w.heap.size:=og;exact⟨g1,g2,arr',e',by rw[Below.heap_alloc w _ _ hb];exact g3,g4⟩
 ·have hb:b<w.heap.size:=(h.wi.free n b o hs).2.2.lt;rcases bg hk with⟨rfl,rfl⟩|⟨fj,r',g1,rfl⟩
  ·omega
  ·rw[hρ k fj];exact h.wi.sbox n k b o r' hs g1 (Rows.tr_ne h3)
 ·rw[hρ n (by have:=h.small;omega)];exact h.wi.fix n hn
def RelE.newBx{X:Origin}{s:DS}{E:Env}{a:Act}{w:j5}(h:RelE X s E a w)(m:Nat)(hm:m<s.n)(arr:Array j6)(e:j8)(ts:List T)(hl:arr.size=ts.length)
  (hv: ∀(j:Nat) t v,ts[j]? =some t->arr[j]? =some v->VT w E t v):
  RelE X (s.newBx m ts) (E.setρ m w.heap.size) (a.put (some m) (.pointer (some ⟨w.heap.size,0,none⟩))) (w.alloc (.cells arr e)):=by
 have mW:RowsIs w E arr [ts]:=⟨ts.length,fun r hr=>by simp at hr;rw[hr],by simp[hl],fun i j r t v h1 h2 h3=>by
  cases i with
  | zero=>simp at h1;subst h1;exact hv j t v h2 (by simpa using h3)
  | succ i=>simp at h1⟩
 have h1:=h.newMem m hm arr e [ts] mW;refine h1.putOnly (fun d hd=>by injection hd with hd;subst hd;exact hm) ?_;have:=VT.bx (w:=w.alloc (.cells arr e)) (E:=E.setρ m w.heap.size) m ts.length 0 0;simp only[Env.setρ,an,Nat.zero_mul,yi]at this;exact .one _ _ this
def RelE.setBx{X:Origin}{s:DS}{E:Env}{a:Act}{w w':j5}(h:RelE X s E a w){m:Nat}{rows rows':Rows}(hm:s.bx m=some rows)(qH:rows≠ []){e:j8}{arr arr':Array j6}(hr:RowSet w w' (E.ρ m) e arr arr')
  (hv:RowsIs w E arr' rows'):RelE X (s.setBx m (some rows')) E a w':=by
 obtain⟨g1,g2,g5⟩:=h.wi.boxes m rows hm qH;have Z4:Later w E w' E:=⟨fun b o hb=>⟨hb,hr.cell_other fun hbm=>g5 o (hbm▸hb)⟩,rfl,rfl⟩;have Ti: ∀k rk,(s.setBx m (some rows')).bx k=some rk->rk≠ []->∃r0,s.bx k=some r0/\r0≠ []:=fun k rk hk h0=>by
  simp only[DS.setBx]at hk;by_cases fj:k=m
  ·grind
  ·grind
 refine⟨⟨h.wi.turn.trans (hr.turn (fun _=>True) (fun o ho=>ak trivial ho)) (fun i o hi ⟨h1,_⟩=>?_),h.wi.sep,h.wi.kin,h.wi.kold,h.wi.kok.wide Z4.keep (fun b o hb=>?_) (h.wi.kok.z.turn (hr.turn (fun _=>True) (fun o ho=>ak trivial ho))),fun n us hn hne'=>?_,fun n k rn rk hn h1 hk h2=>?_,fun n b o hs=>?_,h.wi.disj,fun n k b o rk hs hk h2=>?_,h.wi.fix⟩,
  fun t=>(h.sl t).mono Z4,h.size,h.defers.turn (hr.turn (fun _=>True) (fun o ho=>ak trivial ho)),h.small,h.pl⟩
 ·subst h1;rcases g1 with g1|g1
  ·omega
  ·grind
 ·rw[(Z4.keep b o hb).2];exact h.wi.kok b o hb
 ·simp only[DS.setBx]at hn;by_cases X8:n=m
  ·subst X8;rw[ae rfl]at hn;injection hn with hn;subst hn
   exact⟨g1,(hv.mono Z4).boxIs hr.is,g5⟩
  ·rw[j7 X8]at hn;obtain⟨k1,k2,k3⟩:=h.wi.boxes n us hn hne';exact⟨k1,k2.mono Z4 (hr.other _ (h.wi.boxne n m us rows hn hne' hm qH X8)),k3⟩
 ·obtain⟨r1,e1,f1⟩:=Ti n rn hn h1;obtain⟨r2,e2,f2⟩:=Ti k rk hk h2;exact h.wi.boxne n k r1 r2 e1 f1 e2 f2
 ·obtain⟨k1,k2,k3⟩:=h.wi.free n b o hs;exact⟨k1,k2,hr.free k3⟩
 ·obtain⟨r2,e2,f2⟩:=Ti k rk hk h2;exact h.wi.sbox n k b o r2 hs e2 f2
structure Lst(w:j5)(E:Env)(sz:Nat)(l:List j6)(rows:Rows):Prop where
 len:l.length=rows.length*sz
 row: ∀r∈rows,r.length=sz
 is: ∀(i j:Nat) r t v,rows[i]? =some r->r[j]? =some t->l[i*sz+j]? =some v->VT w E t v
def RowsIs.lst(h:RowsIs w E arr rows): ∃sz,Lst w E sz arr.toList rows:=by obtain⟨sz,h1,h2,h3⟩:=h;exact⟨sz,by simpa using h2,h1,fun i j r t v a b c=>h3 i j r t v a b (by simpa using c)⟩
def Lst.rowsIs(h:Lst w E sz arr.toList rows):RowsIs w E arr rows:=
 ⟨sz,h.row,by simpa using h.len,fun i j r t v a b c=>h.is i j r t v a b (by simpa using c)⟩
def Lst.mono(h:Later w E w' E')(hx:Lst w E sz l rows):Lst w' E' sz l rows:=
 ⟨hx.len,hx.row,fun i j r t v a b c=>(hx.is i j r t v a b c).mono h⟩
def HB(hi:i<n)(hj:j<sz):i*sz+j<n*sz:=by have:(i+1)*sz<=n*sz:=wQ sz hi;rw[yo,jd]at this;omega
def Lst.append{m:List j6}{xs ys:Rows}(h:Lst w E sz l xs)(k:Lst w E sz m ys):Lst w E sz (l++m) (xs++ys):=by
 refine⟨by simp[h.len,k.len,yo],fun r hr=>?_,fun i j r t v h1 h2 h3=>?_⟩
 ·rcases wF.1 hr with hr|hr
  ·exact h.row r hr
  ·exact k.row r hr
 ·by_cases hi:i<xs.length
  ·rw[wU hi]at h1;have lF:=h.row r (ww h1);have hj:j<sz:=og;rw[wU (by rw[h.len];exact HB hi hj)]at h3;exact h.is i j r t v h1 h2 h3
  ·rw[wL oa]at h1;have dC:xs.length*sz<=i*sz:=wQ sz oa;rw[wL (by rw[h.len];omega),h.len]at h3;refine k.is (i - xs.length) j r t v h1 h2 ?_;rw[<-h3];congr 1;rw[Nat.sub_mul];omega
def Lst.take{xs:Rows}(h:Lst w E sz l xs)(k:Nat)(hk:k<=xs.length):Lst w E sz (l.take (k*sz)) (xs.take k):=by
 have vh:k*sz<=xs.length*sz:=wQ sz hk;refine⟨by simp[h.len,jG hk,jG vh],fun r hr=>h.row r (yW hr),fun i j r t v h1 h2 h3=>?_⟩;rw[yx]at h1 h3;split at h1
 ·split at h3
  ·exact h.is i j r t v h1 h2 h3
  ·cases h3
 ·cases h1
def Lst.drop{xs:Rows}(h:Lst w E sz l xs)(k:Nat):Lst w E sz (l.drop (k*sz)) (xs.drop k):=by refine⟨by simp[h.len,Nat.sub_mul],fun r hr=>h.row r (y5 hr),fun i j r t v h1 h2 h3=>?_⟩;rw[yl]at h1 h3;refine h.is (k+i) j r t v h1 h2 ?_;rw[<-h3];congr 1;rw[yo];omega
def Lst.set{w:j5}{E:Env}{sz:Nat}{l m:List j6}{xs:Rows}(h:Lst w E sz l xs){i:Nat}(hi:i<xs.length){r:List T}(hr:Lst w E sz m [r]):
  Lst w E sz (l.take (i*sz)++(m++l.drop ((i+1)*sz))) (xs.set i r):=by
 rw[List.set_eq_take_append_cons_drop,ae hi];have:=(h.take i oa).append (hr.append (h.drop (i+1)));simpa using this
def Kq{sz':Nat}(h:Lst w E sz' l rows){r:List T}(hr:iy rows sz i=some r):sz'=sz/\i<rows.length/\rows[i]? =some r/\r.length=sz:=by obtain⟨h1,h2,h3⟩:=fN hr;exact⟨by rw[<-h.row r (ww h1),h2],(wg.1 h1).1,h1,h2⟩
def fF(P:Program)(s:DS)(t:j8)(x v:D):Option DS:=
 match x,v.cells,qz P t with
 | .one (.bx m sz i o),some us,some n=>(s.bx m).bind fun rows=>(iy rows sz i).bind fun r=>
   if us.length=n/\o+n<=r.length then some (s.setBx m (some (rows.set i (r.take o++(us++r.drop (o+n))))))else none
 | _,_,_=>none
section
variable {P:Program}
def qge(X:Origin)(K:DS->Prop)(a':Act)(w':j5):Prop:=∃s',K s'/\Z1 X s' a' w'
def fA{o:aa}{K:Act->j5->Prop}(h:(execOp a.eval o).run P w= .ok .skip w')(hk:K (a.put o.dst undef) w'):o.wp P a w K Q:=by unfold j4;rw[h];exact hk
def RelE.storeRow{X:Origin}{s:DS}{E:Env}{a:Act}{w:j5}(hr:RelE X s E a w){m:Nat}{rows rows':Rows}(hm:s.bx m=some rows)(qH:rows≠ []){sz off:Nat}{l m':List j6}
  (h1: ∀v∈m',v.oneCell'=true):(∀arr e,w.heap[E.ρ m]? =some (.cells arr e (0,0))->arr.toList=l->Lst w E sz (l.take off++m'++l.drop (off+m'.length)) rows')->(∃arr e,w.heap[E.ρ m]? =some (.cells arr e (0,0))/\arr.toList=l)->off+m'.length<=l.length->
  ∃w',(storeCells ⟨E.ρ m,off,none⟩ m' 0).run P w= .ok () w'/\RelE X (s.setBx m (some rows')) E a w':=by
 rintro h2 ⟨arr,e,h3,h4⟩ h5;have VV:arr.size=l.length:=og;have vO:=run_storeCells_at P (E.ρ m) off e m' 0 arr w h3 oa h1;simp only[jB,h4]at vO
 let arr':Array Value:=(l.take off++m'++l.drop (off+m'.length)).toArray
 have hsz':arr'.size=arr.size:=og;have eL:RowSet w (w.setRow (E.ρ m) arr') (E.ρ m) e arr arr':=
  ⟨h3,setRow_heap w _ _ _ _ _ h3,hsz',by simp[World.setRow],fun k hk=>setRow_other w _ k _ hk,rfl,rfl,rfl⟩
 exact⟨_,vO,hr.setBx hm qH eL (Lst.rowsIs (sz:=sz) (by simpa[arr']using h2 arr e h3 h4))⟩
def Ke{s s':DS}{t:j8}{x v:D}(h:fF P s t x v=some s'){X:Origin}{E:Env}{a:Act}{w:j5}(hr:RelE X s E a w){ux uv:j6}(hx:VD w E x ux)(hv:VD w E v uv):
  ∃w',(Instr.storeAt t ux uv).run P w= .ok () w'/\RelE X s' E a w':=by
 unfold fF at h;split at h
 ·rename_i m sz i o us n XV hn;simp only[w7]at h;obtain⟨rows,hm,r,ZE,h⟩:=h;split at h
  ·rename_i vh;injection h with h;subst h
   have hp:=hx.bx_inv;obtain⟨g1,g2,g3⟩:=gy XV hv;have qH:=(fN ZE).2.2;obtain⟨arr,e,k2,k3⟩:=(hr.wi.boxes m rows hm qH).2.1.rowsIs;obtain⟨sz',k4⟩:=k3.lst;obtain⟨rfl,hi,X4,lF⟩:=Kq k4 ZE;have hszo:(sizeOf t).run P w= .ok n w:=by
    unfold qz at hn;cases hi:P.info? t with
    | none=>grind
    | some i=>rw[hi]at hn;injection hn with hn;simp[sizeOf,typeInfo,hi,hn]
   have vG:uv.cells.toList.length=n:=og;have sJ:arr.toList.length=rows.length*sz':=k4.len;have hend:i*sz'+sz'<=rows.length*sz':=by have:(i+1)*sz'<=rows.length*sz':=wQ sz' hi;rw[yo,jd]at this;exact this
   -- the row, as it is then
   have bi:Lst w E sz' ((arr.toList.take (i*sz'+o)).drop (i*sz')++(uv.cells.toList++(arr.toList.drop (i*sz'+o+n)).take (sz' - (o+n)))) [r.take o++(us++r.drop (o+n))]:=by
    refine⟨?_,fun r' hr'=>?_,fun i' j r' t' v' e1 e2 e3=>?_⟩
    ·grind
    ·grind
    ·cases i' with
     | succ i'=>grind
     | zero=>
      simp only[yk,Option.some.injEq]at e1;subst e1;simp only[Nat.zero_mul,yi]at e3;have h0:((arr.toList.take (i*sz'+o)).drop (i*sz')).length=o:=og;by_cases c1:j<o
      ·rw[wU ot,yx,ae c1]at e2;rw[wU oa,yl,yx]at e3;split at e3
       ·exact k4.is i j r t' v' X4 e2 e3
       ·cases e3
      ·rw[wL ot,ym,jG oa]at e2;rw[wL oa,h0]at e3;by_cases c2:j - o<n
       ·grind
       ·rw[wL oa,vh.1,yl]at e2;rw[wL oa,vG,yx]at e3;split at e3
        ·rw[yl]at e3;refine k4.is i (o+n+(j - o - n)) r t' v' X4 e2 ?_;rw[<-e3];congr 1;omega
        ·cases e3
   have pd:=k4.set hi bi;have heq:arr.toList.take (i*sz'+o)++uv.cells.toList++arr.toList.drop (i*sz'+o+uv.cells.toList.length)=
     arr.toList.take (i*sz')++(((arr.toList.take (i*sz'+o)).drop (i*sz')++(uv.cells.toList++(arr.toList.drop (i*sz'+o+n)).take (sz' - (o+n))))++arr.toList.drop ((i+1)*sz')):=by
    have a1:arr.toList.take (i*sz'+o)=arr.toList.take (i*sz')++(arr.toList.take (i*sz'+o)).drop (i*sz'):=by have:=(yf (i*sz') (arr.toList.take (i*sz'+o))).symm;rw[List.take_take,jG oa]at this;exact this
    have a2:arr.toList.drop (i*sz'+o+n)=(arr.toList.drop (i*sz'+o+n)).take (sz' - (o+n))++arr.toList.drop ((i+1)*sz'):=by have:=(yf (sz' - (o+n)) (arr.toList.drop (i*sz'+o+n))).symm;rw[List.drop_drop]at this;rw[yo,jd];have e:i*sz'+o+n+(sz' - (o+n))=i*sz'+sz':=oa;rw[e]at this;exact this
    rw[vG]
    conv=>lhs;rw[a2]
    conv=>lhs;rw[a1]
    simp only[wS]
   obtain⟨w',mV,rG⟩:=hr.storeRow (P:=P) hm qH (sz:=sz') (off:=i*sz'+o) (l:=arr.toList) (m':=uv.cells.toList) (rows':=rows.set i (r.take o++(us++r.drop (o+n)))) g3
    (fun arr2 e2 h1 h2=>by rw[heq];exact pd) ⟨arr,e,k2,rfl⟩ (by rw[vG,sJ];omega)
   refine⟨w',?_,rG⟩;have:uv.cells.size=n:=oa;simp only[Instr.storeAt,hp,Instr.sureAddr,wq,wG,wj,storeVar,hszo];simp only[this,ne_eq,not_true_eq_false,ap,wq,wG,wj];exact mV
  ·cases h
 ·cases h
def lab(m:Nat):Ren:=⟨fun n=>if n=0 then some m else none,fun _=>none⟩
def cg(s:DS)(m:Nat)(r:D):DS:=
 match r with
 | .one (.c x)=>s.put (some m) (.one (.c x))
 | .one (.ex sz xs)=>s.put (some m) (.one (.ex sz xs))
 | r=>(s.close [m]).put (some m) (r.tr (lab m))
def oN{X:Origin}(hr:RelE X s E a w)(pg:Ret w E.K w' E')(hm:m<s.n){r:D}(hv:VD w' E' r v):Z1 X (cg s m r) (a.put (some m) v) w':=by
 have h1:=hr.quiet pg.quiet;have cK: ∀d,(some m:Option Nat)=some d->d<s.n:=og;have plain: ∀d:D,VD w' { K:=E'.K,ρ:=E.ρ,val:=E.val } d v->Z1 X (s.put (some m) d) (a.put (some m) v) w':=fun d hd=>⟨_,h1.putOnly cK hd⟩;have opened:Z1 X ((s.close [m]).put (some m) (r.tr (lab m))) (a.put (some m) v) w':=by
  have h2:=h1.setVal m (E'.val 0) (fun b o hs=>by
   obtain⟨g1,g2,g3⟩:=pg.free 0 b o hs;have vo:X.w.heap.size<=w.heap.size:=hr.wi.turn.size;refine⟨.inl oa,g2,g3,fun k hk hs'=>?_,fun k rows hk qH hb=>?_⟩
   ·have:=(hr.wi.free k b o hs').2.2.lt;omega
   ·have:=(hr.wi.boxes k rows hk qH).2.1.lt;simp only at hb;omega)
  refine⟨_,h2.putOnly (fun d hd=>cK d hd) (VD.tr (w:=w') (E:=E') (E':=Env.setVal { K:=E'.K,ρ:=E.ρ,val:=E.val } m (E'.val 0)) (r:=lab m) ⟨rfl,fun n k h=>?_,fun n k h=>(by cases h)⟩ hv)⟩;simp only[lab]at h;split at h
  ·rename_i h0;injection h with h;subst h;simp[Env.setVal,h0]
  ·cases h
 unfold cg;split
 ·refine plain _ ?_;cases hv with|one t v hv=>cases hv with|c c v hv=>exact .one _ _ (.c _ _ hv)
 ·refine plain _ ?_;cases hv with|one t v hv=>cases hv with|ex sz xs v hv hx=>exact .one _ _ (.ex _ _ _ hv hx)
 ·omega
end
def qT(P:Program)(t:j8):Option (Nat×Nat):=
 match P.underlying t with
 | some (.slice e)=>match P.info? e,Program.zeroC P e with
  | some i,some z=>if i.size=z.length/\0<z.length/\0<i.bytes then some (z.length,i.bytes)else none
  | _,_=>none
 | _=>none
def pU(m sz:Nat):D->Option (Nat×List (List C))
 | .one (.own n z xs)=>if z=sz then some (n,xs)else none
 | .one (.ex z xs)=>if z=sz then some (m,xs)else none
 | .one (.c (.lit (.slice none 0 0)))=>some (m,[])
 | _=>none
def pV(sz:Nat):D->Option (List (List C))
 | .one (.c (.lit (.slice none 0 0)))=>some []
 | .one (.c (.sl z ys))| .one (.own _ z ys)| .one (.ex z ys)=>if z=sz then some ys else none
 | _=>none
section
variable {P:Program}
def xF{by_:Nat}(h:qT P t=some (sz,by_)): ∃e i z,P.underlying t=some (.slice e)/\P.info? e=some i/\i.zero=some z/\i.size=sz/\i.bytes=by_/\z.cells.size=sz/\0<sz/\0<by_:=by
 unfold qT at h;split at h
 ·rename_i e hu;split at h
  ·rename_i i z hi hz;split at h
   ·rename_i hc;injection h with h
    injection h with h1 h2
    obtain⟨i',zv,g1,g2,g3,_⟩:=sZ hz;rw[hi]at g1;injection g1 with g1;subst g1
    exact⟨e,i,zv,hu,hi,g2,oa,h2,oa,oa,oa⟩
   ·cases h
  ·cases h
 ·cases h
def VC.cellsL{w:j5}{K:qM}{sz:Nat}{xs:List (List C)}{v:j6}(h:VC w K (.sl sz xs) v)(vo:0<sz):
  (v= .slice none 0 0/\xs= [])\/∃(a:Addr) (cap:Nat) (l:List j6),v= .slice (some a) xs.length cap/\(∀r∈xs,r.length=sz)/\xs.length<=cap/\cap<=maxLen/\l.length=xs.length*sz/\
   (0<xs.length->a.spot=none)/\(∀(j:Nat) u,l[j]? =some u->K a.block (a.off+j)/\w.cell? (a.add j)=some u/\u.oneCell'=true)/\
   (∀(i j:Nat) r c,xs[i]? =some r->r[j]? =some c->∃u,l[i*sz+j]? =some u/\VC w K c u):=by
 rcases h.sl_inv with h|⟨a,cap,cv,h1,h2,h3,h4,h5,h6⟩
 ·grind
 ·have hidx: ∀j,j<xs.length*sz->∃i k r c,j=i*sz+k/\xs[i]? =some r/\r[k]? =some c:=by
   intro j hj;have hi:j / sz<xs.length:=(Nat.div_lt_iff_lt_mul vo).2 hj;have hr:xs[j / sz]? =some (xs[j / sz]):=oh;have hl:(xs[j / sz]).length=sz:=og;have hk:j % sz<(xs[j / sz]).length:=by rw[hl];exact Nat.mod_lt _ vo
   refine⟨j / sz,j % sz,_,_,?_,hr,wa hk⟩;rw[jF];exact(Nat.div_add_mod j sz).symm
  refine .inr ⟨a,cap,(wR (xs.length*sz)).map cv,h1,h2,h3,h4,oh,fun qZ=>?_,fun j u hu=>?_,fun i j r c k1 k2=>?_⟩
  ·exact(h5 0 (Nat.mul_pos qZ vo)).1
  ·have hj:j<xs.length*sz:=by grind
   have Bb:u=cv j:=og;subst Bb;obtain⟨g1,g2,g3⟩:=h5 j hj;have ha:a.add j=⟨a.block,a.off+j,none⟩:=by
    have:a=⟨a.block,a.off,none⟩:=by cases a;simp_all
    rw[this,vE]
   obtain⟨i,k,r,c,rfl,e1,e2⟩:=hidx j hj;exact⟨g2,by rw[ha];exact g3,(h6 i k r c e1 e2).oneCell'⟩
  ·have lF:=h2 r (ww k1);have hi:i<xs.length:=og;have hj:j<sz:=og;have qf:i*sz+j<xs.length*sz:=by have:(i+1)*sz<=xs.length*sz:=wQ sz hi;rw[yo,jd]at this;omega
   exact⟨cv (i*sz+j),by simp[qf],h6 i j r c k1 k2⟩
def VC.join{w:j5}{K:qM}{sz:Nat}{xs ys:List (List C)}{l m:List j6}{b o cap:Nat}(hx: ∀r∈xs,r.length=sz)(hy: ∀r∈ys,r.length=sz)(hl:l.length=xs.length*sz)(hm:m.length=ys.length*sz)
  (hxv: ∀(i j:Nat) r c,xs[i]? =some r->r[j]? =some c->∃u,l[i*sz+j]? =some u/\VC w K c u)
  (hyv: ∀(i j:Nat) r c,ys[i]? =some r->r[j]? =some c->∃u,m[i*sz+j]? =some u/\VC w K c u)
  (QH:xs.length+ys.length<=cap) (qi:cap<=maxLen)
  (hc: ∀(j:Nat) u,(l++m)[j]? =some u->K b (o+j)/\w.cell? ⟨b,o+j,none⟩=some u):VC w K (.sl sz (xs++ys)) (.slice (some ⟨b,o,none⟩) (xs.length+ys.length) cap):=by
 rw[<-wz];refine .sl sz (xs++ys) _ cap (fun j=>(l++m).getD j undef) (fun r hr=>?_) (by simpa using QH) qi (fun j hj=>?_) (fun i j r c h1 h2=>?_)
 ·grind
 ·have qf:j<(l++m).length:=by rw[wz,hl,hm,<-yo];simpa using hj
  have hg:(l++m)[j]? =some ((l++m).getD j undef):=og;exact⟨rfl,hc j _ hg⟩
 ·by_cases hi:i<xs.length
  ·grind
  ·rw[wL oa]at h1;obtain⟨u,e1,e2⟩:=hyv (i - xs.length) j r c h1 h2;have dC:xs.length*sz<=i*sz:=wQ sz oa;have:(l++m)[i*sz+j]? =some u:=by rw[wL oa,hl];rw[<-e1];congr 1;rw[Nat.sub_mul];omega
   rw[ji,this];exact e2
def Mn{m sz n:Nat}{d:D}{xs:List (List C)}(h:pU m sz d=some (n,xs)){w:j5}{E:Env}{v:j6}(hv:VD w E d v):
  VC w E.K (.sl sz xs) v/\(E.val n=(v,sz)\/Exact v)/\Mw v:=by
 unfold pU at h;split at h
 ·split at h
  ·rename_i hz;injection h with h;injection h with h1 h2;subst h1;subst h2;subst hz
   cases hv with|one t v hv=>cases hv with|own n sz xs v hv hn ht=>exact⟨hv,.inl hn,ht⟩
  ·cases h
 ·split at h
  ·rename_i hz;injection h with h;injection h with h1 h2;subst h1;subst h2;subst hz
   cases hv with|one t v hv=>cases hv with|ex sz xs v hv hx=>exact⟨hv,.inr hx,hx.tame⟩
  ·cases h
 ·injection h with h;injection h with h1 h2;subst h1;subst h2
  rw[hv.lit];exact⟨.nil sz,.inr ⟨none,0,rfl⟩,Exact.tame ⟨none,0,rfl⟩⟩
 ·cases h
def Mp{ys:List (List C)}(h:pV sz d=some ys)(hv:VD w E d v):VC w E.K (.sl sz ys) v:=by
 unfold pV at h;split at h
 ·injection h with h;subst h;rw[hv.lit];exact .nil sz
 all_goals first|(cases h;done)|skip
 all_goals
  split at h
  ·rename_i hz;injection h with h;subst h;subst hz
   cases hv with|one t v hv=>cases hv;assumption
  ·cases h
def Mm{t ty:j8}{sz by_:Nat}(za:qT P t=some (sz,by_)){X:Origin}{s:DS}{E:Env}{a:Act}{w:j5}(hr:RelE X s E a w){n:Nat}{xs ys:List (List C)}{v u:j6}(hx:VC w E.K (.sl sz xs) v)
  (eM:E.val n=(v,sz)\/Exact v) (XW:Mw v) (hy:VC w E.K (.sl sz ys) u) (hb:(xs.length+ys.length)*by_<=140737488355328):
  ∃v' w' E',(yQ #[t,t] ty #[v,u]).run P w= .ok v' w'/\RelE X (s.close [n]) E' a w'/\VD w' E' (.one (.own n sz (xs++ys))) v':=by
 obtain⟨e,i,z,hu,hi,hz,hisz,hiby,hzsz,qZ,hbpos⟩:=xF za;have qi:xs.length+ys.length<=maxLen:=by have:xs.length+ys.length<=(xs.length+ys.length)*by_:=jZ _ hbpos;unfold maxLen;omega
 have hsm:xs.length+ys.length<=9223372036854775807:=by unfold maxLen at qi;omega
 -- a permission of one's own, moved to one's own name
 have same: ∀p:j6×Nat,(∀b o,zP p b o->zP (E.val n) b o)->RelE X (s.close [n]) (E.setVal n p) a w:=fun p hp=>
  hr.setVal n p fun b o hs=>by obtain⟨g1,g2,g3⟩:=hr.wi.free n b o (hp b o hs);exact⟨g1,g2,g3,fun m hm hs'=>hm (hr.wi.disj m n b o hs' (hp b o hs)),fun m rows hm qH=>hr.wi.sbox n m b o rows (hp b o hs) hm qH⟩
 have ZS: ∀b o,zP (v,sz) b o->zP (E.val n) b o:=by
  intro b o hs;rcases eM with h|⟨A,k,h⟩
  ·grind
  ·obtain⟨a',len,cap,g1,g2,g3,g4,g5⟩:=hs;rw[h]at g1;injection g1 with g1 g6 g7
   subst g6;subst g7;omega
 have G8: ∀{w':j5} {E1:Env} {v':j6},VC w' E1.K (.sl sz (xs++ys)) v'->E1.val n=(v',sz)->Mw v'->VD w' E1 (.one (.own n sz (xs++ys))) v':=fun h1 h2 h3=>.one _ _ (.own _ _ _ _ h1 h2 h3);by_cases hm:ys= []
 ·
  subst hm;have qS:(yQ #[t,t] ty #[v,u]).run P w= .ok v w:=by
   rcases hx.sl_inv with⟨rfl,rfl⟩|⟨a1,cap,cv,rfl,h1,h2,h3,h4,h5⟩<;>
    rcases hy.sl_inv with⟨rfl,_⟩|⟨a2,cap2,cv2,rfl,g1,g2,g3,g4,g5⟩<;>
     simp[yQ,run_underlying hu,sizeOf,typeInfo,hi,Builtin.lenOf,Builtin.firstCells,loadCells,loadCellsFrom,storeCells, *]
  refine⟨v,w,_,qS,same (v,sz) ZS,G8 (by rw[yG];exact hx) (by simp[Env.setVal]) XW⟩
 ·have hmpos:0<ys.length:=by grind
  rcases hy.cellsL qZ with⟨_,h0⟩|⟨a2,c2,news,rfl,hyr,_,_,sa,hnsp,hnc,hnv⟩
  ·grind
  ·have PZ: ∀(j:Nat) u,news[j]? =some u->w.cell? (a2.add j)=some u:=by grind
   have pj: ∀u∈news,u.oneCell'=true:=fun u hu'=>by obtain⟨j,hj⟩:=yM.1 hu';exact(hnc j u hj).2.2
   -- a new block
   have fresh: ∀(Zt:List j6) (old:Nat),Zt.length=xs.length*sz->(∀(i j:Nat) r c,xs[i]? =some r->r[j]? =some c->∃u,Zt[i*sz+j]? =some u/\VC w E.K c u)->(∀r∈xs,r.length=sz)->
     (yQ #[t,t] ty #[v,.slice (some a2) ys.length c2]).run P w= .ok (.slice (some ⟨w.heap.size,0,none⟩) (xs.length+ys.length) (grownCap w (xs.length+ys.length) old e))
      (w.drew.alloc (.cells (Zt.toArray++news.toArray++yr z.cells (grownCap w (xs.length+ys.length) old e - (xs.length+ys.length))) e))->
     ∃v' w' E',(yQ #[t,t] ty #[v,.slice (some a2) ys.length c2]).run P w= .ok v' w'/\RelE X (s.close [n]) E' a w'/\VD w' E' (.one (.own n sz (xs++ys))) v':=by
    intro Zt old ho qdV hxr qS;have dC:=grownCap_ge w (xs.length+ys.length) old e;have vh:=grownCap_le_maxLen w (xs.length+ys.length) old e qi;generalize grownCap w (xs.length+ys.length) old e=cap at qS dC vh
    let arr:Array Value:=Zt.toArray++news.toArray++yr z.cells (cap - (xs.length+ys.length))
    have VV:arr.size=cap*sz:=by simp only[arr,Array.size_append,List.size_toArray,size_zeroCells,hzsz,ho,sa,<-yo];congr 1;omega
    have hlow:(xs.length+ys.length)*sz<=cap*sz:=og;have q0:Quiet w E w.drew E:=⟨(Below.refl _ _).drew,fun _ _ h=>h,fun _ _ _ h=>h,hr.wi.kok.move (fun _ _ _=>rfl) (hr.wi.kok.z.below ((Below.refl _ _).drew)),rfl,rfl⟩;have h0:=hr.quiet q0;have q:=fR (w:=w.drew) h0.wi.kok arr e ((xs.length+ys.length)*sz) oa;have h1:=h0.quiet q;have Z4:=q.later h0.wi.kok;have hws:w.drew.heap.size=w.heap.size:=rfl;have bi:(w.drew.alloc (.cells arr e)).heap[w.heap.size]? =some (.cells arr e (0,0)):=heap_alloc_new w.drew _;have hXs:X.w.heap.size<=w.heap.size:=hr.wi.turn.size;have h2:=h1.setVal n (.slice (some ⟨w.heap.size,0,none⟩) (xs.length+ys.length) cap,sz) (fun b o hs=>by
     obtain⟨a',len,cap',g1,g2,g3,g4,g5⟩:=hs;injection g1 with g1 g6 g7
     injection g1 with g1
     subst g1;subst g6;subst g7;simp only at g3 g4 g5;subst g3;refine⟨.inl hXs,fun hk=>?_,⟨arr,e,bi,by rw[VV];omega⟩,fun m VP hs'=>?_,fun m rows hm qH hb'=>?_⟩
     ·rcases hk with hk|⟨_,hk⟩
      ·exact ak (qP (hr.wi.kok _ o hk)) oa
      ·omega
     ·have:=(hr.wi.free m _ o hs').2.2.lt;omega
     ·have:=(hr.wi.boxes m rows hm qH).2.1.lt;simp only at hb';omega)
    refine⟨_,_,_,qS,h2,G8 ?_ (by simp[Env.setVal]) (iW _ _ _ _)⟩;refine VC.join hxr hyr ho sa (fun i j r c k1 k2=>?_) (fun i j r c k1 k2=>?_) dC vh (fun j u gd=>?_)
    ·obtain⟨u,e1,e2⟩:=qdV i j r c k1 k2;exact⟨u,e1,VC.mono (w:=w) (K:=E.K) Z4.keep e2⟩
    ·obtain⟨u,e1,e2⟩:=hnv i j r c k1 k2;exact⟨u,e1,VC.mono (w:=w) (K:=E.K) Z4.keep e2⟩
    ·have hj:j<(xs.length+ys.length)*sz:=by grind
     refine⟨.inr ⟨rfl,oa⟩,?_⟩;show(w.drew.alloc (.cells arr e)).cell? ⟨w.heap.size,0+j,none⟩=some u;have hju':arr[j]? =some u:=og;rw[yi];simp only[World.cell?,bi,Option.isSome_none,yq,ap];exact hju'
   rcases hx.cellsL qZ with⟨rfl,rfl⟩|⟨a1,cap,Zt,rfl,hxr,hxc,VS,HG,hosp,hoc,qdV⟩
   ·
    have qS:=run_append_nil (P:=P) w t ty e i z hu hi hz a2 ys.length c2 news (by rw[sa,hisz]) PZ hmpos (by simp only[wT]at hsm;omega) (by rw[hiby];simp only[wT,yi]at hb;omega);refine fresh [] 0 oh (fun i j r c k1=>by simp at k1) (fun r hr'=>by simp at hr') ?_;simp only[wT,yi,Array.empty_append];exact qS
   ·by_cases vd:xs.length+ys.length<=cap
    ·
     have hval':E.val n=(.slice (some a1) xs.length cap,sz):=by
      rcases eM with h|⟨A,k,h⟩
      ·exact h
      ·grind
     -- where it lies
     have hsp1:a1.spot=none:=by
      cases h0:a1.spot with
      | none=>rfl
      | some k=>
       have:=XW a1 _ _ rfl (by rw[h0];simp);omega
     obtain⟨g,o,rfl⟩: ∃g o,a1=⟨g,o,none⟩:=⟨a1.block,a1.off,by cases a1;simp_all⟩;have hroom':(xs.length+ys.length)*sz<=cap*sz:=wQ sz vd;have hadd:(xs.length+ys.length)*sz=xs.length*sz+ys.length*sz:=og;have hypos:0<ys.length*sz:=oA;have lC: ∀k,o+xs.length*sz<=k->k<o+cap*sz->zP (E.val n) g k:=fun k h1 h2=>by rw[hval'];exact⟨⟨g,o,none⟩,xs.length,cap,rfl,rfl,rfl,h1,h2⟩
     obtain⟨f1,f2,arr,e',f3,f4⟩:=hr.wi.free n g (o+xs.length*sz) (lC _ (wl _) oa);have hsize:o+cap*sz<=arr.size:=by
      obtain⟨_,_,arr2,e2,f5,f6⟩:=hr.wi.free n g (o+cap*sz - 1) (lC _ oa oa);rw[f3]at f5;injection f5 with f5;injection f5 with f5 _
      subst f5;omega
     -- the permission shrinks to what is left
     have iD:=same (.slice (some ⟨g,o,none⟩) (xs.length+ys.length) cap,sz) (fun b k hs=>by
      obtain⟨a',len,cap',g1,g2,g3,g4,g5⟩:=hs;injection g1 with g1 g6 g7
      injection g1 with g1
      subst g1;subst g6;subst g7;simp only at g3 g4 g5;subst g3;exact lC k oa oa)
     have vO:=run_storeCells_at P g (o+xs.length*sz) e' news 0 arr w f3 (by rw[sa];omega) pj;simp only[jB]at vO
     let arr':Array Value:=(arr.toList.take (o+xs.length*sz)++news++arr.toList.drop (o+xs.length*sz+news.length)).toArray
     have VV:arr'.size=arr.size:=og;have lH: ∀k,arr'[k]? =if o+xs.length*sz<=k/\k<o+xs.length*sz+ys.length*sz then news[k - (o+xs.length*sz)]? else arr[k]? :=by
      intro k;have h0:arr'[k]? =(arr.toList.take (o+xs.length*sz)++(news++arr.toList.drop (o+xs.length*sz+ys.length*sz)))[k]? :=og;rw[h0];by_cases h1:k<o+xs.length*sz
      ·grind
      ·have sJ:arr.toList.length=arr.size:=by simp
       rw[wL ot,ym,sJ,jG oa];by_cases h2:k<o+xs.length*sz+ys.length*sz
       ·grind
       ·rw[j7 oa,wL oa,sa,yl];rw[show o+xs.length*sz+ys.length*sz+(k - (o+xs.length*sz) - ys.length*sz)=k from by omega];simp
     have eL:RowSet w (w.setRow g arr') g e' arr arr':=
      ⟨f3,setRow_heap w _ _ _ _ _ f3,VV,by simp[World.setRow],fun k hk=>setRow_other w _ k _ hk,rfl,rfl,rfl⟩
     obtain⟨iC,Z4⟩:=iD.commit eL (lo:=o+xs.length*sz) (hi:=o+xs.length*sz+ys.length*sz) oa (fun k hk=>by rw[lH,j7 hk]) (fun k h1 h2=>(hr.wi.free n g k (lC k h1 oa)).1)
      (fun k h1 h2=>(hr.wi.free n g k (lC k h1 oa)).2.1)
      (fun m k h1 h2 hs=>by
       simp only[Env.setVal]at hs;split at hs
       ·obtain⟨a',len,cap',g1,g2,g3,g4,g5⟩:=hs;injection g1 with g1 g6 g7
        injection g1 with g1
        subst g1;subst g6;subst g7;simp only at g4;omega
       ·rename_i VP;exact VP (hr.wi.disj m n g k hs (lC k h1 oa)))
      (fun m rows hm qH=>by obtain⟨r',e1,rfl⟩:=zw hm;exact hr.wi.sbox n m g _ r' (lC (o+xs.length*sz) (wl _) oa) e1 (Rows.tr_ne qH))
     refine⟨.slice (some ⟨g,o,none⟩) (xs.length+ys.length) cap,w.setRow g arr',_,?_,iC,G8 ?_ (by simp[Env.setVal]) (iW _ _ _ _)⟩
     ·have hf:=run_firstCells_some (P:=P) w i.size ys.length a2 ys.length c2 news (by rw[sa,hisz]) PZ;rw[hisz]at hf;simp only[yQ,wq,run_underlying hu,wj];simp[sizeOf,typeInfo,hi,run_underlying hu,Builtin.lenOf,vd,hf,hisz,vE,vO,arr']
     ·refine VC.join hxr hyr HG sa (fun i j r c k1 k2=>?_) (fun i j r c k1 k2=>?_) vd VS (fun j u gd=>?_)
      ·obtain⟨u,e1,e2⟩:=qdV i j r c k1 k2;exact⟨u,e1,VC.mono (w:=w) (K:=E.K) Z4.keep e2⟩
      ·obtain⟨u,e1,e2⟩:=hnv i j r c k1 k2;exact⟨u,e1,VC.mono (w:=w) (K:=E.K) Z4.keep e2⟩
      ·by_cases hj:j<xs.length*sz
       ·rw[wU oa]at gd;obtain⟨k1,k2,_⟩:=hoc j u gd;rw[vE]at k2;have:=Z4.keep g (o+j) k1;exact⟨this.1,this.2.trans k2⟩
       ·rw[wL oa,HG]at gd;have A8:j - xs.length*sz<ys.length*sz:=og;refine⟨.inr ⟨rfl,oa,oa⟩,?_⟩;have h5:arr'[o+j]? =some u:=og;simp[World.cell?,eL.is,h5]
    ·have qS:=run_append_grow (P:=P) w t ty e i z hu hi hz a1 xs.length cap Zt (by rw[HG,hisz]) (fun j u gd=>(hoc j u gd).2.1) a2 ys.length c2 news (by rw[sa,hisz]) PZ oa oa
      (by rw[hiby];exact growslice_fits oa hb)
     exact fresh Zt cap HG qdV hxr qS
end
def Ren.andThen(r q:Ren):Ren:=⟨fun n=>(r.f n).bind q.f,fun n=>(r.g n).bind q.g⟩
mutual
def T.tr_tr(r q:Ren): ∀t:T,(t.tr r).tr q=t.tr (r.andThen q)
 | .own n sz xs=>by simp only[T.tr,Ren.andThen];cases r.f n<;>simp[T.ownTo,T.tr]
 | .bx n sz i o=>by simp only[T.tr,Ren.andThen];cases r.g n<;>simp[T.bxTo,T.tr]
 | .ba n sz i len cap=>by simp only[T.tr,Ren.andThen];cases r.g n<;>simp[T.baTo,T.tr]
 | .fv f caps=>by simp only[T.tr];rw[T.trAll_trAll r q caps]
 | .c x=>by simp[T.tr]
 | .ex sz xs=>by simp[T.tr]
def T.trAll_trAll(r q:Ren): ∀l:List T,T.trAll q (T.trAll r l)=T.trAll (r.andThen q) l
 | []=>rfl
 | t::l=>by simp only[T.trAll];rw[T.tr_tr r q t,T.trAll_trAll r q l]
end
mutual
def D.tr_tr(r q:Ren): ∀d:D,(d.tr r).tr q=d.tr (r.andThen q)
 | .any=>rfl
 | .one t=>by simp only[D.tr,T.tr_tr]
 | .agg ts=>by simp only[D.tr,T.trAll_trAll]
 | .tup ds=>by simp only[D.tr];rw[D.trAll_trAll r q ds]
def D.trAll_trAll(r q:Ren): ∀l:List D,D.trAll q (D.trAll r l)=D.trAll (r.andThen q) l
 | []=>rfl
 | t::l=>by simp only[D.trAll];rw[D.tr_tr r q t,D.trAll_trAll r q l]
end
def Rows.tr_tr(r q:Ren)(rows:Rows):Rows.tr q (Rows.tr r rows)=Rows.tr (r.andThen q) rows:=by simp only[Rows.tr,yn];congr 1;funext l;exact T.trAll_trAll r q l
def dA(ms:List Nat):Ren:=⟨some,fun n=>if n∈ms then none else some n⟩
def BV(E:Env)(ms:List Nat)(hm:m∈ms)(b:Nat):Renames (dA ms) E (E.setρ m b):=
 ⟨rfl,fun n k h=>by injection h with h;rw[h];rfl,fun n k h=>by
  simp only[dA]at h;split at h
  ·cases h
  ·rename_i qH;injection h with h;subst h
   have:n≠m:=og;simp[Env.setρ,this]⟩
def DS.moveMem(s:DS)(n m:Nat)(rows:Rows):DS:=((s.tr (dA [n,m])).setBx n none).setBx m (some (Rows.tr (dA [n,m]) rows))
def QY{s:DS}{n m:Nat}{rows:Rows}{k:Nat}{r:Rows}(h:(s.moveMem n m rows).bx k=some r):
  (k=m/\r=Rows.tr (dA [n,m]) rows)\/(k≠m/\k≠n/\∃r',s.bx k=some r'/\r=Rows.tr (dA [n,m]) r'):=by
 simp only[DS.moveMem,DS.setBx]at h;split at h
 ·grind
 ·rename_i hk;split at h
  ·cases h
  ·rename_i fy;obtain⟨r',h1,h2⟩:=zw h;exact .inr ⟨hk,fy,r',h1,h2⟩
def RelE.moveMem{X:Origin}(h:RelE X s E a w)(hn:s.bx n=some rows)(hm:m<s.n):RelE X (s.moveMem n m rows) (E.setρ m (E.ρ n)) a w:=by
 have hR:=BV E [n,m] (m:=m) oh (E.ρ n);have LC:(E.setρ m (E.ρ n)).ρ m=E.ρ n:=by simp[Env.setρ]
 have hρ: ∀k,k≠m->(E.setρ m (E.ρ n)).ρ k=E.ρ k:=fun k hk=>by simp[Env.setρ,hk]
 refine⟨⟨h.wi.turn,h.wi.sep,h.wi.kin,h.wi.kold,h.wi.kok,fun k us hk qH=>?_,fun k j rk rj hk h2 hj h3 qH=>?_,h.wi.free,h.wi.disj,fun k j b o rj hs hj h3=>?_,fun k hk=>?_⟩,fun t=>(h.sl t).tr hR,h.size,h.defers,h.small,h.pl⟩
 ·rcases QY hk with⟨rfl,rfl⟩|⟨fj,Jr,r',g1,rfl⟩
  ·obtain⟨g1,g2,g3⟩:=h.wi.boxes n rows hn (Rows.tr_ne qH);rw[LC];exact⟨g1,g2.tr hR,g3⟩
  ·obtain⟨g2,g3,g4⟩:=h.wi.boxes k r' g1 (Rows.tr_ne qH);rw[hρ k fj];exact⟨g2,g3.tr hR,g4⟩
 ·rcases QY hk with⟨rfl,rfl⟩|⟨fj,Jr,r',g1,rfl⟩
  ·rcases QY hj with⟨rfl,_⟩|⟨hjm,hjn,r2,g2,rfl⟩
   ·omega
   ·rw[LC,hρ j hjm];exact h.wi.boxne n j rows r2 hn (Rows.tr_ne h2) g2 (Rows.tr_ne h3) (fun e=>hjn e.symm)
  ·rcases QY hj with⟨rfl,rfl⟩|⟨hjm,hjn,r2,g2,rfl⟩
   ·rw[LC,hρ k fj];exact h.wi.boxne k n r' rows g1 (Rows.tr_ne h2) hn (Rows.tr_ne h3) Jr
   ·rw[hρ k fj,hρ j hjm];exact h.wi.boxne k j r' r2 g1 (Rows.tr_ne h2) g2 (Rows.tr_ne h3) qH
 ·rcases QY hj with⟨rfl,rfl⟩|⟨hjm,hjn,r2,g2,rfl⟩
  ·rw[LC];exact h.wi.sbox k n b o rows hs hn (Rows.tr_ne h3)
  ·rw[hρ j hjm];exact h.wi.sbox k j b o r2 hs g2 (Rows.tr_ne h3)
 ·rw[hρ k (by have:=h.small;omega)];exact h.wi.fix k hk
def RelE.noRows{X:Origin}(h:RelE X s E a w)(n:Nat):RelE X (s.setBx n (some [])) E a w:=by
 have hb: ∀k r,(s.setBx n (some [])).bx k=some r->r≠ []->s.bx k=some r:=fun k r hk qH=>by
  simp only[DS.setBx]at hk;split at hk
  ·grind
  ·exact hk
 exact⟨⟨h.wi.turn,h.wi.sep,h.wi.kin,h.wi.kold,h.wi.kok,fun k us hk qH=>h.wi.boxes k us (hb k us hk qH) qH,fun k j rk rj hk h2 hj h3 qH=>h.wi.boxne k j rk rj (hb _ _ hk h2) h2 (hb _ _ hj h3) h3 qH,h.wi.free,h.wi.disj,
  fun k j b o rj hs hj h3=>h.wi.sbox k j b o rj hs (hb _ _ hj h3) h3,h.wi.fix⟩,h.sl,h.size,h.defers,h.small,h.pl⟩
inductive Src(bx:vT)(sz:Nat):D->Rows->Prop where
 | nil (A:Option Addr) (c:Nat):Src bx sz (.one (.c (.lit (.slice A 0 c)))) []
 | sl (ys:List (List C)):Src bx sz (.one (.c (.sl sz ys))) (ys.map (wt T.c))
 | own (n:Nat) (ys:List (List C)):Src bx sz (.one (.own n sz ys)) (ys.map (wt T.c))
 | ex (ys:List (List C)):Src bx sz (.one (.ex sz ys)) (ys.map (wt T.c))
 | ba (n i len cap:Nat) (rows:Rows) (h:bx n=some rows) (hl:i+len<=rows.length) (hz: ∀r∈rows,r.length=sz):Src bx sz (.one (.ba n sz i len cap)) ((rows.drop i).take len)
structure SrcIs(w:j5)(E:Env)(sz:Nat)(v:j6)(rows:Rows)(A:Option Addr)(c:Nat)(l:List j6):Prop where
 val:v= .slice A rows.length c
 lst:Lst w E sz l rows
 cell: ∀a,A=some a->∀(j:Nat) u,l[j]? =some u->w.cell? (a.add j)=some u
 one: ∀u∈l,u.oneCell'=true
 some:rows≠ []->∃a,A=Option.some a
def JN(h:Lst w E sz l rows)(qZ:0<sz): ∀u∈l,u.oneCell'=true:=by
 intro u hu;obtain⟨k,hk,hku⟩:=List.mem_iff_getElem.1 hu;have hi:k / sz<rows.length:=(Nat.div_lt_iff_lt_mul qZ).2 (by rw[<-h.len];exact hk);have ZE:rows[k / sz]? =some rows[k / sz]:=oh;have hj:k % sz<(rows[k / sz]).length:=by rw[h.row _ (yd hi)];exact Nat.mod_lt _ qZ
 refine(h.is (k / sz) (k % sz) _ _ u ZE (wa hj) ?_).oneCell';rw[jF,Nat.div_add_mod,wa hk,hku]
def GB{bx:vT}{sz:Nat}{d:D}{rows:Rows}(h:Src bx sz d rows)(qZ:0<sz){w:j5}{E:Env}(hb: ∀n rows,bx n=some rows->rows≠ []->BoxIs w E (E.ρ n) rows){v:j6}(hv:VD w E d v):
  ∃A c l,SrcIs w E sz v rows A c l:=by
 have HR: ∀ys:List (List C),VC w E.K (.sl sz ys) v->∃A c l,SrcIs w E sz v (ys.map (wt T.c)) A c l:=by
  intro ys hv;rcases hv.cellsL qZ with⟨rfl,rfl⟩|⟨a,cap,l,rfl,h1,h2,h3,h4,h5,h6,h7⟩
  ·exact⟨none,0,[],rfl,⟨oh,fun r hr=>(by simp at hr),fun i j r t v h1=>(by simp at h1)⟩,fun a h=>(by cases h),fun u hu=>(by simp at hu),fun h=>ak rfl h⟩
  ·refine⟨some a,cap,l,oh,⟨by simpa using h4,fun r hr=>?_,fun i j r t v g1 g2 g3=>?_⟩,fun a' ha j u gd=>?_,fun u hu=>?_,fun _=>⟨a,rfl⟩⟩
   ·grind
   ·rw[wh]at g1;cases hy:ys[i]? with
    | none=>grind
    | some y=>
     rw[hy]at g1;injection g1 with g1;subst g1
     rw[wh]at g2;cases hc:y[j]? with
     | none=>grind
     | some c=>
      rw[hc]at g2;injection g2 with g2;subst g2
      obtain⟨u,e1,e2⟩:=h7 i j y c hy hc;rw[e1]at g3;injection g3 with g3;subst g3
      exact .c _ _ e2
   ·grind
   ·obtain⟨j,hj⟩:=yM.1 hu;exact(h6 j u hj).2.2
 cases h with
 | nil A c=>
  rw[hv.lit];exact⟨A,c,[],rfl,⟨oh,fun r hr=>(by simp at hr),fun i j r t v h1=>(by simp at h1)⟩,fun a _ j u gd=>(by simp at gd),fun u hu=>(by simp at hu),fun h=>ak rfl h⟩
 | sl ys=>cases hv with|one t v hv=>cases hv with|c c v hv=>exact HR ys hv
 | own n ys=>cases hv with|one t v hv=>cases hv with|own n sz xs v hv=>exact HR ys hv
 | ex ys=>cases hv with|one t v hv=>cases hv with|ex sz xs v hv=>exact HR ys hv
 | ba n i len cap rows h hl hz=>
  have vG:((rows.drop i).take len).length=len:=og;have none_:len=0->∀A c,v= .slice A 0 c->∃A c l,SrcIs w E sz v ((rows.drop i).take len) A c l:=fun h0 A c hvv=>by subst h0;exact⟨A,c,[],by simpa using hvv,⟨oh,fun r hr=>(by simp at hr),fun i j r t v h1=>(by simp at h1)⟩,fun a _ j u gd=>(by simp at gd),fun u hu=>(by simp at hu),fun h=>ak oh h⟩
  cases hv with|one t v hv=>cases hv with
   | bz _ _ _ A=>exact none_ rfl A 0 rfl
   | ba _ _ _ _ _ h1 h2=>
    by_cases h0:len=0
    ·grind
    ·have qH:rows≠ []:=by grind
     obtain⟨arr,e,k1,k2⟩:=(hb n rows h qH).rowsIs;obtain⟨sz',k3⟩:=k2.lst;have hi:i<rows.length:=oa;have vo:sz'=sz:=by rw[<-k3.row _ (yd hi),hz _ (yd hi)]
     subst vo;have hL:=(k3.drop i).take len ot;refine⟨_,cap,_,by rw[vG],hL,fun a ha j u gd=>?_,JN hL qZ,fun _=>⟨_,rfl⟩⟩;injection ha with ha;subst ha
     rw[vE];rw[yx]at gd;split at gd
     ·rw[yl]at gd;have hju':arr[i*sz'+j]? =some u:=og;simp[World.cell?,k1,hju']
     ·cases gd
def iZ(h:s.bx n=some rows):s.setBx n (some rows)=s:=by unfold DS.setBx;have:(fun k=>if k=n then some rows else s.bx k)=s.bx:=og;rw[this]
section
variable {P:Program}
def rW{t ty e:j8}{i:TypeInfo}(hu:P.underlying t=some (.slice e))(hi:P.info? e=some i){b:Option Addr}{len cap:Nat}(hc:len<=cap)(A:Option Addr)(c:Nat)(w:j5):
  (yQ #[t,t] ty #[.slice b len cap,.slice A 0 c]).run P w= .ok (.slice b len cap) w:=by
 cases b<;>cases A<;>simp[yQ,run_underlying hu,sizeOf,typeInfo,hi,Builtin.lenOf,Builtin.firstCells,loadCells,loadCellsFrom,storeCells,hc]
def xG{t ty:j8}{sz by_:Nat}(za:qT P t=some (sz,by_)){X:Origin}{s:DS}{E:Env}{a:Act}{w:j5}(hr:RelE X s E a w){n i len cap:Nat}{rows ys:Rows}{v u:j6}{y:D}
  (hx:VD w E (.one (.ba n sz i len cap)) v) (hn:s.bx n=some rows) (QH:i+cap<=rows.length) (hz: ∀r∈rows,r.length=sz) (fw:Src s.bx sz y ys) (hy:VD w E y u) (vd:len+ys.length<=cap):
  ∃v' w',(yQ #[t,t] ty #[v,u]).run P w= .ok v' w'/\RelE X (s.setBx n (some (rows.take (i+len)++(ys++rows.drop (i+len+ys.length))))) E a w'/\VD w' E (.one (.ba n sz i (len+ys.length) cap)) v':=by
 obtain⟨e,inf,z,hu,hi,AX,hisz,hiby,hzsz,qZ,hbpos⟩:=xF za;have hb: ∀n rows,s.bx n=some rows->rows≠ []->BoxIs w E (E.ρ n) rows:=fun n rows h qH=>(hr.wi.boxes n rows h qH).2.1;obtain⟨A,c,l,hS⟩:=GB fw qZ hb hy;by_cases h0:ys= []
 ·subst h0;have MI:=hS.val;simp only[wT]at MI;subst MI;obtain⟨b,hv⟩: ∃b,v= .slice b len cap:=by cases hx with|one t v hx=>cases hx<;>exact⟨_,rfl⟩
  subst hv;refine⟨_,w,rW hu hi (by simp at vd;omega) A c w,?_,by simpa using hx⟩;have:rows.take (i+len)++([]++rows.drop (i+len+0))=rows:=oh;simp only[wT]at this ⊢;rw[this,iZ hn];exact hr
 ·have hk:0<ys.length:=by grind
  obtain⟨a2,hA⟩:=hS.some h0;subst hA;have MI:=hS.val;subst MI;have qH:rows≠ []:=og;obtain⟨arr,e',k1,k2⟩:=(hb n rows hn qH).rowsIs;obtain⟨sz',k3⟩:=k2.lst;have vo:sz'=sz:=by have hi0:0<rows.length:=oa;rw[<-k3.row _ (yd hi0),hz _ (yd hi0)]
  subst vo;cases hx with|one t' v hx=>cases hx with
   | bz=>omega
   | ba _ _ _ _ _ h1 h2=>
    have A4:l.length=ys.length*sz':=hS.lst.len;have bi:Lst w E sz' (arr.toList.take ((i+len)*sz')++l++arr.toList.drop ((i+len)*sz'+l.length)) (rows.take (i+len)++(ys++rows.drop (i+len+ys.length))):=by rw[wS,A4,<-yo];exact(k3.take (i+len) oa).append (hS.lst.append (k3.drop (i+len+ys.length)))
    have vh:(i+len)*sz'+l.length<=arr.toList.length:=by rw[A4,<-yo,k3.len];exact wQ _ oa
    obtain⟨w',mV,rG⟩:=hr.storeRow (P:=P) hn qH (sz:=sz') (off:=(i+len)*sz') (l:=arr.toList) (m':=l) hS.one (fun arr2 e2 g1 g2=>bi) ⟨arr,e',k1,rfl⟩ vh;refine⟨.slice (some ⟨E.ρ n,i*sz',none⟩) (len+ys.length) cap,w',?_,rG,.one _ _ (.ba _ _ _ _ _ vd h2)⟩;have hf:=run_firstCells_some (P:=P) w inf.size ys.length a2 ys.length c l (by rw[A4,hisz]) (hS.cell a2 rfl);rw[hisz]at hf;rw[yo]at mV;simp only[yQ,wq,run_underlying hu,wj];simp[sizeOf,typeInfo,hi,run_underlying hu,Builtin.lenOf,vd,hf,hisz,vE,mV]
def l7(w:j5)(E:Env)(z:Array j6)(hz: ∀(j:Nat) u,z[j]? =some u->u.oneCell'=true)(n:Nat):Lst w E z.size (yr z n).toList (yb n (yb z.size (.c .any))):=by
 refine⟨by simp[yr],fun r hr=>by rw[yP hr];simp,fun i j r t v h1 h2 h3=>?_⟩;have hr:=yP (ww h1);subst hr;have ht:=yP (ww h2);subst ht;refine .c _ _ (.any v ?_);have hj:j<z.size:=og;have qZ:0<z.size:=oa;simp only[yr,Array.toList_map,wh]at h3;cases hk:(Array.range (n*z.size)).toList[i*z.size+j]? with
 | none=>grind
 | some k=>
  rw[hk]at h3;injection h3 with h3
  have qf:k % z.size<z.size:=Nat.mod_lt _ qZ;refine hz (k % z.size) v ?_;rw[<-h3];simp[qf]
def nF(w:j5){t:j8}{sz by_:Nat}(za:qT P t=some (sz,by_)): ∃e i z,P.underlying t=some (.slice e)/\P.info? e=some i/\i.zero=some z/\i.size=sz/\i.bytes=by_/\z.cells.size=sz/\0<sz/\0<by_/\
  ∀(j:Nat) u,z.cells[j]? =some u->u.oneCell'=true:=by
 unfold qT at za;split at za
 ·rename_i e hu;split at za
  ·rename_i i z hi hz;split at za
   ·rename_i hc;injection za with h
    injection h with h1 h2
    obtain⟨i',zv,g1,g2,g3,g4⟩:=sZ hz;rw[hi]at g1;injection g1 with g1;subst g1
    refine⟨e,i,zv,hu,hi,g2,oa,h2,oa,oa,oa,fun j u hj=>?_⟩;have A8:j<z.length:=og;exact(g4 w (fun _ _=>False) j _ u (wa A8) hj).oneCell'
   ·grind
  ·grind
 ·grind
def RowsSz(sz:Nat)(rows:Rows):Prop:=∀r∈rows,r.length=sz
def Ip{t ty:j8}{sz by_:Nat}(za:qT P t=some (sz,by_)){X:Origin}{s:DS}{E:Env}{a:Act}{w:j5}(hr:RelE X s E a w){n i len cap m:Nat}{rows ys:Rows}{v u:j6}{y:D}
  (hx:VD w E (.one (.ba n sz i len cap)) v) (hn:s.bx n=some rows) (QH:i+cap<=rows.length) (hz:RowsSz sz rows) (fw:Src s.bx sz y ys) (hy:VD w E y u) (vd:cap<len+ys.length) (vh:len<=cap)
  (hb:(len+ys.length)*by_<=140737488355328) (hm:m<s.n):
  ∃v' w' E' js,(yQ #[t,t] ty #[v,u]).run P w= .ok v' w'/\RowsSz sz js/\RelE X (s.newMem m ((rows.drop i).take len++(ys++js))) E' a w'/\VD w' E' (.one (.ba m sz 0 (len+ys.length) (len+ys.length+js.length))) v':=by
 obtain⟨e,inf,z,hu,hi,AX,hisz,hiby,hzsz,qZ,hbpos,AW⟩:=nF w za;have VU: ∀n rows,s.bx n=some rows->rows≠ []->BoxIs w E (E.ρ n) rows:=fun n rows h qH=>(hr.wi.boxes n rows h qH).2.1;obtain⟨A,c,news,hS⟩:=GB fw qZ VU hy;have hk:0<ys.length:=oa;obtain⟨a2,hA⟩:=hS.some (List.length_pos_iff.1 hk);subst hA;have MI:=hS.val;subst MI;have qi:len+ys.length<=maxLen:=by have:len+ys.length<=(len+ys.length)*by_:=jZ _ hbpos;unfold maxLen;omega
 have hsm:len+ys.length<=9223372036854775807:=by unfold maxLen at qi;omega
 have sa:news.length=ys.length*sz:=hS.lst.len
 -- what was there
 have x7: ∃Zt:List j6,((∃b,v= .slice (some b) len cap/\∀(j:Nat) u,Zt[j]? =some u->w.cell? (b.add j)=some u)\/(v= .slice none 0 0/\len=0/\cap=0))/\Lst w E sz Zt ((rows.drop i).take len):=by
  have nil_:len=0->Lst w E sz [] ((rows.drop i).take len):=fun h0=>by subst h0;exact⟨oh,fun r hr=>(by simp at hr),fun i j r t v h1=>(by simp at h1)⟩
  cases hx with|one t' v hx=>cases hx with
   | bz _ _ _ A=>
    cases A with
    | none=>grind
    | some b=>exact⟨[],.inl ⟨b,rfl,fun j u h=>(by simp at h)⟩,nil_ rfl⟩
   | ba _ _ _ _ _ h1 h2=>
    by_cases h0:len=0
    ·grind
    ·have qH:rows≠ []:=by grind
     obtain⟨arr,e',k1,k2⟩:=(VU n rows hn qH).rowsIs;obtain⟨sz',k3⟩:=k2.lst;have vo:sz'=sz:=by have hi0:0<rows.length:=oa;rw[<-k3.row _ (yd hi0),hz _ (yd hi0)]
     subst vo;have hL:=(k3.drop i).take len ot;refine⟨_,.inl ⟨_,rfl,fun j u gd=>?_⟩,hL⟩;rw[vE];rw[yx]at gd;split at gd
     ·rw[yl]at gd;have hju':arr[i*sz'+j]? =some u:=og;simp[World.cell?,k1,hju']
     ·cases gd
 obtain⟨Zt,hv,hOl⟩:=x7;have hlen':((rows.drop i).take len).length=len:=og;have HG:Zt.length=len*sz:=by rw[hOl.len,hlen']
 have qS: ∃old,(yQ #[t,t] ty #[v,.slice (some a2) ys.length c]).run P w= .ok (.slice (some ⟨w.heap.size,0,none⟩) (len+ys.length) (grownCap w (len+ys.length) old e))
   (w.drew.alloc (.cells (Zt.toArray++news.toArray++yr z.cells (grownCap w (len+ys.length) old e - (len+ys.length))) e)):=by
  rcases hv with⟨b,rfl,QE⟩|⟨rfl,rfl,rfl⟩
  ·exact⟨cap,run_append_grow (P:=P) w t ty e inf z hu hi AX b len cap Zt (by rw[HG,hisz]) QE a2 ys.length c news (by rw[sa,hisz]) (hS.cell a2 rfl) vd oa (by rw[hiby];exact growslice_fits vd hb)⟩
  ·have ho:Zt= []:=by grind
   subst ho;refine⟨0,?_⟩;have:=run_append_nil (P:=P) w t ty e inf z hu hi AX a2 ys.length c news (by rw[sa,hisz]) (hS.cell a2 rfl) hk (by simp only[yi]at hsm;omega) (by rw[hiby];simp only[yi]at hb;omega);simpa using this
 obtain⟨old,qS⟩:=qS;have dC:=grownCap_ge w (len+ys.length) old e;have VS:=grownCap_le_maxLen w (len+ys.length) old e qi;generalize grownCap w (len+ys.length) old e=cap' at qS dC VS;have q0:Quiet w E w.drew E:=⟨(Below.refl _ _).drew,fun _ _ h=>h,fun _ _ _ h=>h,hr.wi.kok.move (fun _ _ _=>rfl) (hr.wi.kok.z.below ((Below.refl _ _).drew)),rfl,rfl⟩;have hq:=hr.quiet q0;have Z4:=q0.later hr.wi.kok;have hZ:=l7 w.drew E z.cells AW (cap' - (len+ys.length));rw[hzsz]at hZ;have zW:RowsIs w.drew E (Zt.toArray++news.toArray++yr z.cells (cap' - (len+ys.length))) ((rows.drop i).take len++(ys++yb (cap' - (len+ys.length)) (yb sz (.c .any)))):=by refine Lst.rowsIs (sz:=sz) ?_;have:=(hOl.mono Z4).append ((hS.lst.mono Z4).append hZ);simpa[wS]using this
 have h2:=hq.newMem m hm _ e _ zW;refine⟨_,_,_,yb (cap' - (len+ys.length)) (yb sz (.c .any)),qS,fun r hr'=>by rw[yP hr'];simp,h2,.one _ _ ?_⟩;have Th:len+ys.length+(yb (cap' - (len+ys.length)) (yb sz (T.c C.any))).length=cap':=og;rw[Th];have:=VT.ba (w:=w.drew.alloc (.cells (Zt.toArray++news.toArray++yr z.cells (cap' - (len+ys.length))) e)) (E:=E.setρ m w.drew.heap.size) m sz 0 (len+ys.length) cap' dC VS;simp only[Env.setρ,an,Nat.zero_mul]at this;exact this
end
def RelE.less{X:Origin}(h:RelE X s E a w)(hp:s'.pl=s.pl)(hn:s'.n=s.n)(dB: ∀t,s'.sl t=s.sl t)(hb: ∀k r,s'.bx k=some r->s.bx k=some r):RelE X s' E a w:=
 ⟨⟨h.wi.turn,h.wi.sep,h.wi.kin,h.wi.kold,h.wi.kok,fun k us hk qH=>h.wi.boxes k us (hb k us hk) qH,fun k j rk rj hk h2 hj h3 qH=>h.wi.boxne k j rk rj (hb _ _ hk) h2 (hb _ _ hj) h3 qH,h.wi.free,h.wi.disj,
  fun k j b o rj hs hj h3=>h.wi.sbox k j b o rj hs (hb _ _ hj) h3,h.wi.fix⟩,fun t=>by rw[dB];exact h.sl t,h.size.trans hn.symm,h.defers,by rw[hn];exact h.small,by rw[hp];exact h.pl⟩
def RelE.tr{X:Origin}(h:RelE X s E a w)(hR:Renames r E E):RelE X (s.tr r) E a w:=by
 refine⟨⟨h.wi.turn,h.wi.sep,h.wi.kin,h.wi.kold,h.wi.kok,fun k us hk qH=>?_,fun k j rk rj hk h2 hj h3 qH=>?_,h.wi.free,h.wi.disj,fun k j b o rj hs hj h3=>?_,h.wi.fix⟩,fun t=>(h.sl t).tr hR,h.size,h.defers,h.small,h.pl⟩
 ·obtain⟨r',e1,rfl⟩:=zw hk;obtain⟨g1,g2,g3⟩:=h.wi.boxes k r' e1 (Rows.tr_ne qH);exact⟨g1,g2.tr hR,g3⟩
 ·obtain⟨r1,e1,rfl⟩:=zw hk;obtain⟨r2,e2,rfl⟩:=zw hj;exact h.wi.boxne k j r1 r2 e1 (Rows.tr_ne h2) e2 (Rows.tr_ne h3) qH
 ·obtain⟨r2,e2,rfl⟩:=zw hj;exact h.wi.sbox k j b o r2 hs e2 (Rows.tr_ne h3)
def mC(E:Env)(ms:List Nat):Renames (dA ms) E E:=
 ⟨rfl,fun n k h=>by injection h with h;rw[h],fun n k h=>by
  simp only[dA]at h;split at h
  ·cases h
  ·injection h with h;rw[h]⟩
def gr(n m:Nat):(lN m).andThen (dA [n,m])=dA [n,m]:=by
 unfold Ren.andThen lN dA;congr 1;funext k;by_cases h:k=m
 ·simp[h]
 ·simp[h]
section
variable {P:Program}
def Mq{t ty:j8}{sz by_:Nat}(za:qT P t=some (sz,by_)){X:Origin}{s:DS}{E:Env}{a:Act}{w:j5}(hr:RelE X s E a w){n len cap m:Nat}{rows ys:Rows}{v u:j6}{y:D}
  (hx:VD w E (.one (.ba n sz 0 len cap)) v) (hn:s.bx n=some rows) (QH:rows.length=cap) (hz:RowsSz sz rows) (fw:Src s.bx sz y ys) (hy:VD w E y u) (vh:len<=cap)
  (hb:(len+ys.length)*by_<=140737488355328) (hm:m<s.n):
  ∃v' w' js,(yQ #[t,t] ty #[v,u]).run P w= .ok v' w'/\RowsSz sz js/\Z1 X ((s.moveMem n m (rows.take len++(ys++js))).put (some m) (.one (.ba m sz 0 (len+ys.length) (len+ys.length+js.length)))) (a.put (some m) v') w':=by
 have cK: ∀d,(some m:Option Nat)=some d->d<s.n:=fun d hd=>by injection hd with hd;omega
 by_cases vd:len+ys.length<=cap
 ·obtain⟨v',w',h1,h2,h3⟩:=xG (ty:=ty) za hr hx hn oa hz fw hy vd;simp only[yi]at h2;have h4:=h2.moveMem (n:=n) (m:=m) (rows:=rows.take len++(ys++rows.drop (len+ys.length))) (by simp[DS.setBx]) hm;have he:(s.setBx n (some (rows.take len++(ys++rows.drop (len+ys.length))))).moveMem n m (rows.take len++(ys++rows.drop (len+ys.length)))=s.moveMem n m (rows.take len++(ys++rows.drop (len+ys.length))):=by
   simp only[DS.moveMem,DS.setBx,DS.tr];congr 1;funext k;by_cases hk:k=m
   ·simp[hk]
   ·by_cases fy:k=n
    ·simp[hk,fy]
    ·simp[hk,fy]
  rw[he]at h4;refine⟨v',w',rows.drop (len+ys.length),h1,fun r hr'=>hz r (y5 hr'),_,h4.putOnly (fun d hd=>cK d hd) ?_⟩;have Th:len+ys.length+(rows.drop (len+ys.length)).length=cap:=ot;rw[Th];have:=VD.tr (E:=E) (E':=E.setρ m (E.ρ n)) (r:=⟨fun _=>none,fun k=>if k=n then some m else none⟩) ⟨rfl,fun _ _ h=>(by cases h),fun k j h=>by
   simp only at h;split at h
   ·rename_i hk;injection h with h;subst h;simp[Env.setρ,hk]
   ·cases h⟩ h3
  simp only[D.tr,T.tr,T.baTo,an]at this;exact this
 ·obtain⟨v',w',E',js,h1,h2,h3,h4⟩:=Ip (ty:=ty) za hr hx hn oa hz fw hy oa vh hb hm;simp only[yC]at h3;refine⟨v',w',js,h1,h2,E',?_⟩;have h5:=h3.tr (mC E' [n,m]);have h6:RelE X (s.moveMem n m (rows.take len++(ys++js))) E' a w':=by
   refine h5.less rfl rfl (fun t=>?_) (fun k r hk=>?_)
   ·simp only[DS.moveMem,DS.setBx,DS.tr,DS.newMem,D.tr_tr,gr]
   ·rcases QY hk with⟨rfl,rfl⟩|⟨fj,Jr,r',g1,rfl⟩
    ·simp only[DS.tr,DS.newMem,DS.setBx,an,yO,Rows.tr_tr,gr]
    ·simp only[DS.tr,DS.newMem,DS.setBx,j7 fj,g1,yO,Rows.tr_tr,gr]
  exact h6.putOnly (fun d hd=>cK d hd) h4
def qcU{t t2 ty:j8}{sz:Nat}(he:Program.elemSz P t=some sz){X:Origin}{s:DS}{E:Env}{a:Act}{w:j5}(hr:RelE X s E a w){n i len cap:Nat}{rows ys:Rows}{v u:j6}{y:D}
  (hx:VD w E (.one (.ba n sz i len cap)) v) (hn:s.bx n=some rows) (QH:i+len<=rows.length) (hz:RowsSz sz rows) (fw:Src s.bx sz y ys) (hy:VD w E y u):
  ∃w',(Builtin.copy_ #[t,t2] ty #[v,u]).run P w= .ok (.int .i64 (ys.take len).length) w'/\RelE X (s.setBx n (some (rows.take i++(ys.take len++rows.drop (i+(ys.take len).length))))) E a w':=by
 obtain⟨e,inf,hu,hi,hisz,qZ⟩:=bU he;have hb: ∀n rows,s.bx n=some rows->rows≠ []->BoxIs w E (E.ρ n) rows:=fun n rows h qH=>(hr.wi.boxes n rows h qH).2.1;obtain⟨A,c,l,hS⟩:=GB fw qZ hb hy;have MI:=hS.val;subst MI;have hk:(ys.take len).length=min ys.length len:=by simp[Nat.min_comm]
 have hmin:Nat.min ys.length len=min ys.length len:=rfl;obtain⟨b,hv⟩: ∃b,v= .slice b len cap:=by cases hx with|one t v hx=>cases hx<;>exact⟨_,rfl⟩
 have PU:(ys.take len).length=0->rows.take i++(ys.take len++rows.drop (i+(ys.take len).length))=rows:=fun h0=>by have h1:ys.take len= []:=j0.1 h0;rw[h1];simp
 by_cases h0:(ys.take len).length=0
 ·refine⟨w,?_,by rw[PU h0,iZ hn];exact hr⟩;subst hv;have bO:min ys.length len=0:=oa;rw[h0];cases b<;>cases A<;>simp[Builtin.copy_,run_underlying hu,Builtin.lenOf,Builtin.firstCells,sizeOf,typeInfo,hi,loadCells,loadCellsFrom,storeCells,bO,hmin,goInt]
 ·have XR:ys≠ []:=fun e=>h0 (by rw[e];simp);obtain⟨a2,hA⟩:=hS.some XR;subst hA;have qH:rows≠ []:=fun e=>by rw[e]at QH;simp at QH;omega
  obtain⟨arr,e',k1,k2⟩:=(hb n rows hn qH).rowsIs;obtain⟨sz',k3⟩:=k2.lst;have vo:sz'=sz:=by have hi0:0<rows.length:=List.length_pos_iff.2 qH;rw[<-k3.row _ (yd hi0),hz _ (yd hi0)]
  subst vo;subst hv;cases hx with|one t' v hx=>cases hx with
   | bz=>simp at h0
   | ba _ _ _ _ _ h1 h2=>
    have hL:=hS.lst.take (min ys.length len) (Nat.min_le_left _ _);have hte:ys.take (min ys.length len)=ys.take len:=by rw[Nat.min_comm,List.take_eq_take_min (i:=len)]
    rw[hte]at hL;have A4:(l.take (min ys.length len*sz')).length=(ys.take len).length*sz':=hL.len;have bi:Lst w E sz' (arr.toList.take (i*sz')++l.take (min ys.length len*sz')++arr.toList.drop (i*sz'+(l.take (min ys.length len*sz')).length)) (rows.take i++(ys.take len++rows.drop (i+(ys.take len).length))):=by rw[wS,A4,<-yo];exact(k3.take i oa).append (hL.append (k3.drop (i+(ys.take len).length)))
    have vh:i*sz'+(l.take (min ys.length len*sz')).length<=arr.toList.length:=by rw[A4,<-yo,k3.len];exact wQ _ oa
    obtain⟨w',mV,rG⟩:=hr.storeRow (P:=P) hn qH (sz:=sz') (off:=i*sz') (l:=arr.toList) (m':=l.take (min ys.length len*sz')) (fun u hu=>hS.one u (yW hu)) (fun arr2 e2 g1 g2=>bi) ⟨arr,e',k1,rfl⟩ vh;refine⟨w',?_,rG⟩;have hf:=run_firstCells_some (P:=P) w inf.size (min ys.length len) a2 ys.length c (l.take (min ys.length len*sz')) (by rw[A4,hisz,hk]) (fun j u gd=>by
     rw[yx]at gd;split at gd
     ·exact hS.cell a2 rfl j u gd
     ·cases gd)
    rw[hisz]at hf;rw[hk];simp[Builtin.copy_,run_underlying hu,Builtin.lenOf,sizeOf,typeInfo,hi,hisz,hmin,hf,mV,goInt]
end
section
variable {P:Program}
def qa(n sz:Nat):Rows:=yb n (yb sz (.c .any))
def Ws{t ty:j8}{sz by_:Nat}(za:qT P t=some (sz,by_)){X:Origin}{s:DS}{E:Env}{a:Act}{w:j5}(hr:RelE X s E a w){n i len cap:Nat}{rows:Rows}{v:j6}
  (hx:VD w E (.one (.ba n sz i len cap)) v) (hn:s.bx n=some rows) (QH:i+len<=rows.length) (hz:RowsSz sz rows):
  ∃w',(Builtin.clear_ #[t] ty #[v]).run P w= .ok (.tuple #[]) w'/\RelE X (s.setBx n (some (rows.take i++(qa len sz++rows.drop (i+len))))) E a w':=by
 obtain⟨e,inf,z,hu,hi,AX,hisz,hiby,hzsz,qZ,hbpos,AW⟩:=nF w za;by_cases h0:len=0
 ·subst h0;have PU:rows.take i++(qa 0 sz++rows.drop (i+0))=rows:=by simp[qa]
  refine⟨w,?_,by rw[PU,iZ hn];exact hr⟩;obtain⟨b,c,hv⟩: ∃b c,v= .slice b 0 c:=by cases hx with|one t v hx=>cases hx<;>exact⟨_,_,rfl⟩
  subst hv;cases b<;>simp[Builtin.clear_,run_underlying hu]
 ·have qH:rows≠ []:=by grind
  obtain⟨arr,e',k1,k2⟩:=(hr.wi.boxes n rows hn qH).2.1.rowsIs;obtain⟨sz',k3⟩:=k2.lst;have vo:sz'=sz:=by have hi0:0<rows.length:=oa;rw[<-k3.row _ (yd hi0),hz _ (yd hi0)]
  subst vo;cases hx with|one t' v hx=>cases hx with
   | bz=>omega
   | ba _ _ _ _ _ h1 h2=>
    have hL:=l7 w E z.cells AW len;rw[hzsz]at hL;have A4:(yr z.cells len).toList.length=len*sz':=by rw[hL.len];simp
    have bi:Lst w E sz' (arr.toList.take (i*sz')++(yr z.cells len).toList++arr.toList.drop (i*sz'+(yr z.cells len).toList.length)) (rows.take i++(qa len sz'++rows.drop (i+len))):=by rw[wS,A4,<-yo];exact(k3.take i oa).append (hL.append (k3.drop (i+len)))
    have vh:i*sz'+(yr z.cells len).toList.length<=arr.toList.length:=by rw[A4,<-yo,k3.len];exact wQ _ QH
    obtain⟨w',mV,rG⟩:=hr.storeRow (P:=P) hn qH (sz:=sz') (off:=i*sz') (l:=arr.toList) (m':=(yr z.cells len).toList) (JN hL qZ) (fun arr2 e2 g1 g2=>bi) ⟨arr,e',k1,rfl⟩ vh;refine⟨w',?_,rG⟩;have MF:(zeroValue e).run P w= .ok z w:=by simp[zeroValue,typeInfo,hi,AX]
    obtain⟨k,rfl⟩: ∃k,len=k+1:=⟨len - 1,oa⟩;simp[Builtin.clear_,run_underlying hu,MF,mV]
end
def V5(f:am)(ts:List T):T:=
 match ts.mapM T.asC with
 | some cs=>.c (.fn f cs)
 | none=>.fv f ts
def V4(hl:vs.size=ts.length)(hr: ∀(j:Nat) t v,ts[j]? =some t->vs[j]? =some v->VT w E t v):VT w E (V5 f ts) (.func (.func f) #[] vs):=by
 unfold V5;split
 ·rename_i cs nP;have:=Io nP;subst this;refine .c _ _ (.fn f cs vs (by simpa using hl) fun j c v h1 h2=>?_);have:=hr j (.c c) v (by simp[h1]) h2;cases this;assumption
 ·exact .fv f ts vs hl hr
def Rr(sz:Nat)(cs:List (List C))(z i o:Nat):T:=
 if z=sz then match cs[i]? with
  | some r=>.c (.pt (r.drop o))
  | none=>.c .any
 else .c .any
mutual
def T.frz(n sz:Nat)(cs:List (List C)):T->T
 | .own k z xs=>.own k z xs
 | .bx k z i o=>if k=n then Rr sz cs z i o else .bx k z i o
 | .ba k z i len cap=>if k=n then(if z=sz/\i+len<=cs.length then .c (.sl sz ((cs.drop i).take len))else .c .any)else .ba k z i len cap
 | .fv f caps=>V5 f (T.frzAll n sz cs caps)
 | .c x=>.c x
 | .ex z xs=>.ex z xs
def T.frzAll(n sz:Nat)(cs:List (List C)):List T->List T
 | []=> []
 | t::l=>t.frz n sz cs::T.frzAll n sz cs l
end
def T.frzAll_eq(n sz:Nat)(cs:List (List C))(l:List T):T.frzAll n sz cs l=l.map (T.frz n sz cs):=by
 induction l with
 | nil=>simp[T.frzAll]
 | cons t l ih=>simp[T.frzAll,ih]
mutual
def D.frz(n sz:Nat)(cs:List (List C)):D->D
 | .one t=>.one (t.frz n sz cs)
 | .any=>.any
 | .agg ts=>.agg (T.frzAll n sz cs ts)
 | .tup ds=>.tup (D.frzAll n sz cs ds)
def D.frzAll(n sz:Nat)(cs:List (List C)):List D->List D
 | []=> []
 | t::l=>t.frz n sz cs::D.frzAll n sz cs l
end
def D.frzAll_eq(n sz:Nat)(cs:List (List C))(l:List D):D.frzAll n sz cs l=l.map (D.frz n sz cs):=by
 induction l with
 | nil=>simp[D.frzAll]
 | cons t l ih=>simp[D.frzAll,ih]
structure Frozen(w:j5)(E E':Env)(n sz:Nat)(cs:List (List C)):Prop where
 later:Later w E w E'
 row: ∀r∈cs,r.length=sz
 is: ∀(i j:Nat) r c,cs[i]? =some r->r[j]? =some c->∃v,E'.K (E.ρ n) (i*sz+j)/\w.cell? ⟨E.ρ n,i*sz+j,none⟩=some v/\VC w E'.K c v
def VT.frz(hF:Frozen w E E' n sz cs)(qZ:0<sz){t:T}(h:VT w E t v):VT w E' (t.frz n sz cs) v:=by
 induction h with
 | c c v hv=>simp only[T.frz];exact VT.mono hF.later (.c c v hv)
 | own k z xs v hv hn ht=>simp only[T.frz];exact VT.mono hF.later (.own k z xs v hv hn ht)
 | ex z xs v hv hx=>simp only[T.frz];exact VT.mono hF.later (.ex z xs v hv hx)
 | bx k z i o=>
  simp only[T.frz];split
  ·rename_i hk;subst hk;unfold Rr;split
   ·rename_i hz;subst hz;split
    ·rename_i r hr;refine .c _ _ (.pt (r.drop o) (E.ρ k) (i*z+o) (fun j=>(w.cell? ⟨E.ρ k,i*z+o+j,none⟩).getD undef) (fun j hj=>?_) (fun j c hc=>?_))
     ·obtain⟨u,g1,g2,g3⟩:=hF.is i (o+j) r _ hr (wa (by simp at hj;omega));rw[<-ju]at g1 g2;exact⟨g1,by simp only[g2,yJ]⟩
     ·rw[yl]at hc;obtain⟨u,g1,g2,g3⟩:=hF.is i (o+j) r c hr hc;rw[<-ju]at g2;simp only[g2,yJ];exact g3
    ·exact .c _ _ (.any _ rfl)
   ·exact .c _ _ (.any _ rfl)
  ·exact VT.mono hF.later (.bx k z i o)
 | bz k z i A=>
  simp only[T.frz];split
  ·split
   ·simp only[wy];cases A with
    | none=>exact .c _ _ (.nil sz)
    | some a=>exact .c _ _ (.sl sz [] a 0 (fun _=>undef) (fun r hr=>by simp at hr) (wl _) (wM _) (fun j hj=>by simp at hj) (fun i j r c h1=>by simp at h1))
   ·exact .c _ _ (.any _ rfl)
  ·exact VT.mono hF.later (.bz k z i A)
 | ba k z i len cap h1 h2=>
  simp only[T.frz];split
  ·rename_i hk;subst hk;split
   ·rename_i hc;obtain⟨rfl,hc⟩:=hc;have vG:((cs.drop i).take len).length=len:=og;have key:=VC.sl (w:=w) (K:=E'.K) z ((cs.drop i).take len) ⟨E.ρ k,i*z,none⟩ cap (fun j=>(w.cell? ⟨E.ρ k,i*z+j,none⟩).getD undef)
     (fun r hr=>hF.row r (y5 (yW hr))) oa h2 (fun j hj=>?_) (fun i' j r c e1 e2=>?_)
    ·rw[vG]at key;exact .c _ _ key
    ·rw[vG]at hj;have hi':j / z<len:=(Nat.div_lt_iff_lt_mul qZ).2 hj;have ZE:cs[i+j / z]? =some (cs[i+j / z]' oa):=oh;have A8:j % z<(cs[i+j / z]' oa).length:=by rw[hF.row _ (yd _)];exact Nat.mod_lt _ qZ
     obtain⟨u,g1,g2,g3⟩:=hF.is (i+j / z) (j % z) _ _ ZE (wa A8);have he:(i+j / z)*z+j % z=i*z+j:=by rw[yo,ju,jF (j / z),Nat.div_add_mod]
     rw[he]at g1 g2;exact⟨rfl,g1,by simp only[g2,yJ]⟩
    ·rw[yx]at e1;split at e1
     ·rw[yl]at e1;obtain⟨u,g1,g2,g3⟩:=hF.is (i+i') j r c e1 e2;have he:(i+i')*z+j=i*z+(i'*z+j):=og;rw[he]at g2;simp only[g2,yJ];exact g3
     ·cases e1
   ·exact .c _ _ (.any _ rfl)
  ·exact VT.mono hF.later (.ba k z i len cap h1 h2)
 | fv f caps vs hl hr ih=>
  simp only[T.frz,T.frzAll_eq];refine V4 (by simpa using hl) fun j t v h1 h2=>?_;rw[wh]at h1;cases hc:caps[j]? with
  | none=>grind
  | some t'=>grind
def VD.frz(hF:Frozen w E E' n sz cs)(qZ:0<sz)(h:VD w E d v):VD w E' (d.frz n sz cs) v:=by
 induction h with
 | any v=>simp only[D.frz];exact .any v
 | one t v hv=>simp only[D.frz];exact .one _ v (hv.frz hF qZ)
 | agg ts vs hl hr=>
  simp only[D.frz,T.frzAll_eq];refine .agg _ vs (by simpa using hl) fun j t v h1 h2=>?_;rw[wh]at h1;cases hc:ts[j]? with
  | none=>grind
  | some t'=>rw[hc]at h1;cases h1;exact(hr j t' v hc h2).frz hF qZ
 | tup ds vs hl hr ih=>
  simp only[D.frz,D.frzAll_eq];refine .tup _ vs (by simpa using hl) fun j t v h1 h2=>?_;rw[wh]at h1;cases hc:ds[j]? with
  | none=>grind
  | some t'=>grind
def DS.frz(s:DS)(n sz:Nat)(cs:List (List C)):DS:={ s with sl:=fun t=>(s.sl t).frz n sz cs,bx:=fun k=>if k=n then none else(s.bx k).map (wt (T.frzAll n sz cs)) }
def bj{r:Rows}(h:(s.frz n sz cs).bx k=some r):k≠n/\∃r',s.bx k=some r'/\r=r'.map (T.frzAll n sz cs):=by
 simp only[DS.frz]at h;split at h
 ·cases h
 ·rename_i hk;simp only[wK]at h;obtain⟨r',h1,h2⟩:=h;exact⟨hk,r',h1,h2.symm⟩
theorem eG{f:List T->List T}(h:rows.map f≠ []):rows≠ []:=og
def RelE.frz{X:Origin}(h:RelE X s E a w)(qZ:0<sz){js:Rows}(hn:s.bx n=some (cs.map (wt T.c)++js))(hz: ∀r∈cs,r.length=sz):Z1 X (s.frz n sz cs) a w:=by
 by_cases h0:cs= []
 ·subst h0;have hF:Frozen w E E n sz []:=⟨⟨fun b o hb=>⟨hb,rfl⟩,rfl,rfl⟩,fun r hr=>by simp at hr,fun i j r c h1=>by simp at h1⟩;refine⟨E,⟨⟨h.wi.turn,h.wi.sep,h.wi.kin,h.wi.kold,h.wi.kok,fun k us hk qH=>?_,fun k j rk rj hk h2 hj h3 qH=>?_,h.wi.free,h.wi.disj,fun k j b o rj hs hj h3=>?_,h.wi.fix⟩,fun t=>(h.sl t).frz hF qZ,h.size,h.defers,h.small,h.pl⟩⟩
  ·obtain⟨Jr,r',e1,rfl⟩:=bj hk;obtain⟨g1,⟨z,arr,e,k1,k2,k3,k4⟩,g3⟩:=h.wi.boxes k r' e1 (eG qH);refine⟨g1,⟨z,arr,e,k1,fun x hx=>?_,by simpa using k3,fun i j x t v hi ht hv=>?_⟩,g3⟩
   ·simp only[wN]at hx;obtain⟨y,hy,rfl⟩:=hx;rw[T.frzAll_eq,wn];exact k2 y hy
   ·rw[wh]at hi;cases hc:r'[i]? with
    | none=>grind
    | some y=>
     rw[hc]at hi;injection hi with hi;subst hi
     rw[T.frzAll_eq,wh]at ht;cases hd:y[j]? with
     | none=>grind
     | some t'=>rw[hd]at ht;injection ht with ht;subst ht;exact(k4 i j y t' v hc hd hv).frz hF qZ
  ·obtain⟨Jr,r1,e1,rfl⟩:=bj hk;obtain⟨hjn,r2,e2,rfl⟩:=bj hj;exact h.wi.boxne k j r1 r2 e1 (eG h2) e2 (eG h3) qH
  ·obtain⟨hjn,r2,e2,rfl⟩:=bj hj;exact h.wi.sbox k j b o r2 hs e2 (eG h3)
 ·have P0:cs.map (wt T.c)++js≠ []:=by simp[h0]
  obtain⟨y1,y2,y3⟩:=h.wi.boxes n _ hn P0;obtain⟨arr,e,k1,k2⟩:=y2.rowsIs;obtain⟨sz',k3⟩:=k2.lst;have vo:sz'=sz:=by have hi0:0<cs.length:=og;have hm:(cs[0]'hi0).map T.c∈cs.map (wt T.c)++js:=og;have:=k3.row _ hm;rw[wn]at this;rw[<-this];exact hz _ (yd hi0)
  subst vo
  let E':Env:={ E with K:=fun b o=>E.K b o\/(b=E.ρ n/\o<cs.length*sz') }
  have Z4:Later w E w E':=⟨fun b o hb=>⟨.inl hb,rfl⟩,rfl,rfl⟩;have hlow:cs.length*sz'<=arr.toList.length:=by rw[k3.len];exact wQ _ oh
  have hF:Frozen w E E' n sz' cs:=by
   refine⟨Z4,hz,fun i j r c e1 e2=>?_⟩;have hi:i<cs.length:=og;have hj:j<sz':=og;have qf:=HB hi hj (sz:=sz');have sJ:i*sz'+j<arr.size:=og;have hv:=k3.is i j (r.map T.c) (.c c) arr[i*sz'+j] (by rw[wU (by simpa using hi)];simp[e1]) (by simp[e2]) (by simp[sJ]);cases hv with
   | c c v hv=>exact⟨_,.inr ⟨rfl,qf⟩,by simp[World.cell?,k1,sJ],hv.mono Z4.keep⟩
  refine⟨E',⟨⟨h.wi.turn,h.wi.sep,fun b o hb=>.inl (h.wi.kin b o hb),fun b o qf hF' hk=>?_,h.wi.kok.wide Z4.keep (fun b o hk=>?_) h.wi.kok.z,fun k us hk qH=>?_,fun k j rk rj hk h2 hj h3 qH=>?_,fun k b o hs=>?_,h.wi.disj,fun k j b o rj hs hj h3=>?_,h.wi.fix⟩,fun t=>(h.sl t).frz hF qZ,h.size,h.defers,h.small,h.pl⟩⟩
  ·rcases hk with hk|⟨rfl,_⟩
   ·exact h.wi.kold b o qf hF' hk
   ·rcases y1 with y1|y1
    ·omega
    ·grind
  ·rcases hk with hk|⟨rfl,hk⟩
   ·exact h.wi.kok b o hk
   ·have:o<arr.size:=by grind
    simp[World.cell?,k1,this]
  ·obtain⟨Jr,r',e1,rfl⟩:=bj hk;obtain⟨g1,⟨z,arr',e',l1,l2,l3,l4⟩,g3⟩:=h.wi.boxes k r' e1 (eG qH);refine⟨g1,⟨z,arr',e',l1,fun x hx=>?_,by simpa using l3,fun i j x t v hi ht hv=>?_⟩,fun o ho=>?_⟩
   ·simp only[wN]at hx;obtain⟨y,hy,rfl⟩:=hx;rw[T.frzAll_eq,wn];exact l2 y hy
   ·rw[wh]at hi;cases hc:r'[i]? with
    | none=>grind
    | some y=>
     rw[hc]at hi;injection hi with hi;subst hi
     rw[T.frzAll_eq,wh]at ht;cases hd:y[j]? with
     | none=>grind
     | some t'=>rw[hd]at ht;injection ht with ht;subst ht;exact(l4 i j y t' v hc hd hv).frz hF qZ
   ·rcases ho with ho|⟨ho,_⟩
    ·grind
    ·exact h.wi.boxne k n r' _ e1 (eG qH) hn P0 Jr ho
  ·obtain⟨Jr,r1,e1,rfl⟩:=bj hk;obtain⟨hjn,r2,e2,rfl⟩:=bj hj;exact h.wi.boxne k j r1 r2 e1 (eG h2) e2 (eG h3) qH
  ·obtain⟨g1,g2,g3⟩:=h.wi.free k b o hs;refine⟨g1,fun hk=>?_,g3⟩;rcases hk with hk|⟨rfl,_⟩
   ·grind
   ·exact h.wi.sbox k n _ o _ hs hn P0 rfl
  ·obtain⟨hjn,r2,e2,rfl⟩:=bj hj;exact h.wi.sbox k j b o r2 hs e2 (eG h3)
section
def C7(k:Nat):Nat:=if NB<=k then k - NB else k
variable {ms:Nat->Bool}
def zt(ms:Nat->Bool)(k:Nat):Prop:=1000<=k/\k<NB/\ms k=true
instance (ms:Nat->Bool) (k:Nat):Decidable (zt ms k):=by unfold zt;infer_instance
def ZK(ms:Nat->Bool)(ns:List Nat):Ren:=⟨fun n=>if n∈ns then some (n+NB)else if zt ms n then some n else none,fun n=>if n∈ns then some (n+NB)else if zt ms n then some n else none⟩
def il(ms:Nat->Bool)(ns:List Nat)(m:Option Nat):Ren:=
 ⟨fun k=>if k=0 then m else if NB<=k/\k - NB∈ns then some (k - NB)else if zt ms k then some k else none,fun k=>if k=0 then m else if NB<=k/\k - NB∈ns then some (k - NB)else if zt ms k then some k else none⟩
def bQ(ms:Nat->Bool)(ns:List Nat)(m:Option Nat):Ren:=⟨fun n=>if n∈ns\/zt ms n\/m=some n then none else some n,fun n=>if zt ms n\/m=some n then none else some n⟩
def vv(ms:Nat->Bool)(bx:vT)(ns:List Nat):vT:=fun k=>if NB<=k/\k - NB∈ns then(bx (k - NB)).map (Rows.tr (ZK ms ns))else if zt ms k then(bx k).map (Rows.tr (ZK ms ns))else none
def q9(ms:Nat->Bool)(bx H':vT)(ns:List Nat)(m:Option Nat):vT:=fun k=>
 if m=some k then(H' 0).map (Rows.tr (il ms ns m))else if k∈ns then(H' (k+NB)).map (Rows.tr (il ms ns m))else if zt ms k then(H' k).map (Rows.tr (il ms ns m))else(bx k).map (Rows.tr (bQ ms ns m))
def DS.aftCallM(s:DS)(ms:Nat->Bool)(ns:List Nat)(m:Option Nat)(r:D)(H':vT):DS:=
 ({ s with sl:=fun t=>(s.sl t).tr (bQ ms ns m),bx:=q9 ms s.bx H' ns m }:DS).put m (r.tr (il ms ns m))
def qB(ms:Nat->Bool)(E:Env)(ns:List Nat):Env:=⟨E.K,fun k=>if NB<=k then E.ρ (k - NB)else E.ρ k,fun k=>if NB<=k/\k - NB∈ns then E.val (k - NB)else if zt ms k then E.val k else(.slice none 0 0,0)⟩
def vW(ms:Nat->Bool)(bx:vT)(E:Env)(ns:List Nat):qM:=fun b o=>∃n,(n∈ns\/zt ms n)/\((∃rows,bx n=some rows/\rows≠ []/\b=E.ρ n)\/zP (E.val n) b o)
def Qr(E:Env)(ns:List Nat):Renames (ZK ms ns) E (qB ms E ns):=by
 refine⟨rfl,fun n k h=>?_,fun n k h=>?_⟩
 ·simp only[ZK]at h;split at h
  ·rename_i hn;injection h with h;subst h
   simp[qB,hn]
  ·split at h
   ·rename_i hn;injection h with h;subst h
    have: ¬(NB<=n/\n - NB∈ns):=fun e=>by have:=hn.2;omega
    simp[qB,this,hn]
   ·cases h
 ·simp only[ZK]at h;split at h
  ·injection h with h;subst h;simp[qB]
  ·split at h
   ·rename_i hn;injection h with h;subst h
    have: ¬NB<=n:=fun e=>by have:=hn.2;omega
    simp[qB,this]
   ·cases h
def ZW{r:Rows}(h:vv ms bx ns k=some r):((NB<=k/\k - NB∈ns)\/zt ms k)/\∃r',bx (C7 k)=some r'/\r=Rows.tr (ZK ms ns) r':=by
 unfold vv at h;split at h
 ·rename_i hk;simp only[wK]at h;obtain⟨r',h1,h2⟩:=h;exact⟨.inl hk,r',by simp only[C7,hk.1,an];exact h1,h2.symm⟩
 ·split at h
  ·rename_i hk;simp only[wK]at h;obtain⟨r',h1,h2⟩:=h;have: ¬NB<=k:=fun e=>by have:=hk.2;omega
   exact⟨.inr hk,r',by simp only[C7,this,ap];exact h1,h2.symm⟩
  ·cases h
def Dy(h:(NB<=k/\k - NB∈ns)\/zt ms k):C7 k∈ns\/zt ms (C7 k):=by
 rcases h with h|h
 ·exact .inl (by simp only[C7,h.1,an];exact h.2)
 ·have: ¬NB<=k:=fun e=>by have:=h.2;omega
  exact .inr (by simp only[C7,this,ap];exact h)
def Ar(hns: ∀n∈ns,¬zt ms n)(hk:(NB<=k/\k - NB∈ns)\/zt ms k)(hj:(NB<=j/\j - NB∈ns)\/zt ms j)(h:C7 k=C7 j):k=j:=by
 rcases hk with hk|hk<;>rcases hj with hj|hj
 ·simp only[C7,hk.1,hj.1,an]at h;have:=hk.1;have:=hj.1;omega
 ·have h2: ¬NB<=j:=fun e=>by have:=hj.2;omega
  simp only[C7,hk.1,h2,an,ap]at h;exact ak hj (h▸hns _ hk.2)
 ·have h2: ¬NB<=k:=fun e=>by have:=hk.2;omega
  simp only[C7,hj.1,h2,an,ap]at h;exact ak hk (h▸hns _ hj.2)
 ·have h1: ¬NB<=k:=fun e=>by have:=hk.2;omega
  have h2: ¬NB<=j:=fun e=>by have:=hj.2;omega
  simp only[C7,h1,h2,ap]at h;exact h
def dh(E:Env)(ns:List Nat)(k:Nat):(qB ms E ns).ρ k=E.ρ (C7 k):=by simp only[qB,C7];split<;>rfl
def dD{X:Origin}(h:WI X w E bx)(ns:List Nat)(hns: ∀n∈ns,¬zt ms n):WI ⟨w,E.K,vW ms bx E ns,(qB ms E ns).ρ,NB,none,w.heap.size,[]⟩ w (qB ms E ns) (vv ms bx ns):=by
 have hR:=Qr (ms:=ms) E ns;have ZS: ∀k b o,zP ((qB ms E ns).val k) b o->((NB<=k/\k - NB∈ns)\/zt ms k)/\zP (E.val (C7 k)) b o:=fun k b o hs=>by
  simp only[qB]at hs;split at hs
  ·rename_i hk;exact⟨.inl hk,by simp only[C7,hk.1,an];exact hs⟩
  ·split at hs
   ·rename_i hk;have: ¬NB<=k:=fun e=>by have:=hk.2;omega
    exact⟨.inr hk,by simp only[C7,this,ap];exact hs⟩
   ·obtain⟨a,len,cap,h1,_⟩:=hs;cases h1
 refine⟨Turn.refl _ _,fun b o hk hF=>?_,fun _ _ h=>h,fun _ _ _ _ h=>h,h.kok,fun k rows hk qH=>?_,fun k j rk rj hk h2 hj h3 qH=>?_,fun k b o hs=>?_,fun k j b o hs hs'=>?_,fun k j b o rj hs hj h3=>?_,fun _ _=>rfl⟩
 ·obtain⟨n,hn,⟨rows,h1,h2,rfl⟩|h1⟩:=hF
  ·exact(h.boxes n rows h1 h2).2.2 o hk
  ·exact(h.free n b o h1).2.1 hk
 ·obtain⟨g1,r',g3,rfl⟩:=ZW hk;obtain⟨k1,k2,k3⟩:=h.boxes _ r' g3 (Rows.tr_ne qH);rw[dh];exact⟨.inr fun o=>⟨_,Dy g1,.inl ⟨r',g3,Rows.tr_ne qH,rfl⟩⟩,k2.tr hR,k3⟩
 ·obtain⟨g1,r',g3,rfl⟩:=ZW hk;obtain⟨f1,r2,f3,rfl⟩:=ZW hj;rw[dh,dh];exact h.boxne _ _ r' r2 g3 (Rows.tr_ne h2) f3 (Rows.tr_ne h3) (fun e=>qH (Ar hns g1 f1 e))
 ·obtain⟨g1,g3⟩:=ZS k b o hs;obtain⟨k1,k2,k3⟩:=h.free _ b o g3;exact⟨.inr ⟨_,Dy g1,.inr g3⟩,k2,k3⟩
 ·obtain⟨g1,g3⟩:=ZS k b o hs;obtain⟨f1,f3⟩:=ZS j b o hs';exact Ar hns g1 f1 (h.disj _ _ b o g3 f3)
 ·obtain⟨g1,g3⟩:=ZS k b o hs;obtain⟨f1,r2,f3,rfl⟩:=ZW hj;rw[dh];exact h.sbox _ _ b o r2 g3 f3 (Rows.tr_ne h3)
def ve(ms:Nat->Bool)(E E':Env)(ns:List Nat)(m:Option Nat):Env:=
 ⟨E'.K,fun k=>if m=some k then E'.ρ 0 else if zt ms k then E'.ρ k else E.ρ k,fun k=>if m=some k then E'.val 0 else if k∈ns then E'.val (k+NB)else if zt ms k then E'.val k else E.val k⟩
section
variable {X:Origin} {w w':j5} {E E':Env} {bx H':vT} {ns:List Nat} {m:Option Nat}
def aX(h:WI X w E bx)(hF:vW ms bx E ns b o):X.Young b o:=by
 obtain⟨n,hn,⟨rows,h1,h2,rfl⟩|h1⟩:=hF
 ·exact(h.boxes n rows h1 h2).1.imp id fun g=>g o
 ·exact(h.free n b o h1).1
def df(h:WI X w E bx)(hk:bx k=some rows)(qH:rows≠ [])(hn: ¬(k∈ns\/zt ms k))(o:Nat): ¬vW ms bx E ns (E.ρ k) o:=by
 rintro⟨n,hn',⟨rows',h1,h2,h3⟩|h1⟩
 ·exact h.boxne k n rows rows' hk qH h1 h2 (fun e=>hn (e▸hn')) h3
 ·exact h.sbox n k _ o rows h1 hk qH rfl
def aY(h:WI X w E bx)(hs:zP (E.val k) b o)(hn: ¬(k∈ns\/zt ms k)): ¬vW ms bx E ns b o:=by
 rintro⟨n,hn',⟨rows',h1,h2,h3⟩|h1⟩
 ·exact h.sbox k n b o rows' hs h1 h2 h3
 ·exact hn (h.disj k n b o hs h1▸hn')
def Gc(h:WI X w E bx)(hy:w.heap.size<=b\/∀o,vW ms bx E ns b o):X.young b:=by
 rcases hy with hy|hy
 ·exact .inl (wu h.turn.size hy)
 ·rcases yD b X.w.heap.size with hb|hb
  ·exact .inr fun o=>(aX h (hy o)).resolve_left oa
  ·exact .inl hb
def Is(h:WI X w E bx)(hy:w.heap.size<=b\/vW ms bx E ns b o):X.Young b o:=by
 rcases hy with hy|hy
 ·exact .inl (wu h.turn.size hy)
 ·exact aX h hy
def WW(ms:Nat->Bool)(ns:List Nat)(m:Option Nat)(k' k:Nat):Prop:=(k'=0/\m=some k)\/(m≠some k/\((k'=k+NB/\k∈ns)\/(k'=k/\zt ms k)))
def cG{k:Nat}{r:Rows}(h:q9 ms bx H' ns m k=some r):
  (∃k' r',H' k'=some r'/\r=Rows.tr (il ms ns m) r'/\WW ms ns m k' k)\/(m≠some k/\¬(k∈ns\/zt ms k)/\∃r',bx k=some r'/\r=Rows.tr (bQ ms ns m) r'):=by
 unfold q9 at h;split at h
 ·rename_i hm;simp only[wK]at h;obtain⟨r',h1,h2⟩:=h;exact .inl ⟨0,r',h1,h2.symm,.inl ⟨rfl,hm⟩⟩
 ·rename_i hm;split at h
  ·rename_i hn;simp only[wK]at h;obtain⟨r',h1,h2⟩:=h;exact .inl ⟨k+NB,r',h1,h2.symm,.inr ⟨hm,.inl ⟨rfl,hn⟩⟩⟩
  ·rename_i hn;split at h
   ·rename_i Cm;simp only[wK]at h;obtain⟨r',h1,h2⟩:=h;exact .inl ⟨k,r',h1,h2.symm,.inr ⟨hm,.inr ⟨rfl,Cm⟩⟩⟩
   ·rename_i Cm;simp only[wK]at h;obtain⟨r',h1,h2⟩:=h;exact .inr ⟨hm,fun e=>e.elim hn Cm,r',h1,h2.symm⟩
def bN(h:WI X w E bx)(h':WI ⟨w,E.K,vW ms bx E ns,(qB ms E ns).ρ,NB,none,w.heap.size,[]⟩ w' E' H'):Later w E w' ⟨E'.K,E.ρ,E.val⟩:=
 ⟨fun b o hb=>⟨h'.kin b o hb,h'.turn.cell (qP (h.kok b o hb)) (h'.sep b o hb)⟩,rfl,rfl⟩
def aU(E E':Env)(ns:List Nat)(m:Option Nat):Renames (bQ ms ns m) ⟨E'.K,E.ρ,E.val⟩ (ve ms E E' ns m):=by
 refine⟨rfl,fun n k h=>?_,fun n k h=>?_⟩
 ·simp only[bQ]at h;split at h
  ·cases h
  ·rename_i hn;injection h with h;subst h
   have h1:n∉ns:=og;have h3: ¬zt ms n:=og;have h2: ¬m=some n:=og;simp[ve,h1,h2,h3]
 ·simp only[bQ]at h;split at h
  ·cases h
  ·rename_i hn;injection h with h;subst h
   have h3: ¬zt ms n:=og;have h2: ¬m=some n:=og;simp[ve,h2,h3]
structure CallOkM(ms:Nat->Bool)(ns:List Nat)(dst:Option Nat):Prop where
 hns: ∀n∈ns,¬zt ms n
 hm: ∀x,dst=some x->x∉ns/\x<1000
def CallOkM.nmid(h:CallOkM ms ns m)(hk:zt ms k): ¬m=some k:=fun e=>by have:=(h.hm k e).2;have:=hk.1;omega
def CallOkM.nin(h:CallOkM ms ns m)(hk:k∈ns): ¬m=some k:=fun e=>(h.hm k e).1 hk
def B4(hc:CallOkM ms ns m)(h':WI ⟨w,E.K,vW ms bx E ns,(qB ms E ns).ρ,NB,none,w.heap.size,[]⟩ w' E' H')(g:WW ms ns m k' k):(ve ms E E' ns m).ρ k=E'.ρ k'/\(ve ms E E' ns m).val k=E'.val k':=by
 rcases g with⟨rfl,h1⟩|⟨h0,⟨rfl,h1⟩|⟨rfl,h1⟩⟩
 ·simp[ve,h1]
 ·have hf:=h'.fix (k+NB) oh;simp only[qB,Nat.add_sub_cancel,y7,an]at hf;simp[ve,h0,h1,hf,hc.hns k h1]
 ·have:k'∉ns:=fun e=>hc.hns k' e h1;simp[ve,h0,h1,this]
def O0(hc:CallOkM ms ns m)(h1:m≠some k)(h2: ¬(k∈ns\/zt ms k)):(ve ms E E' ns m).ρ k=E.ρ k/\(ve ms E E' ns m).val k=E.val k:=by have g1:k∉ns:=og;have g2: ¬zt ms k:=og;simp[ve,h1,g1,g2]
def O1(hc:CallOkM ms ns m){j':Nat}(g:WW ms ns m k' k)(f:WW ms ns m j' j):k'=j'↔k=j:=by
 have Rh:=qX;rcases g with⟨rfl,h1⟩|⟨h0,⟨rfl,h1⟩|⟨rfl,h1⟩⟩<;>rcases f with⟨rfl,h2⟩|⟨h3,⟨rfl,h2⟩|⟨rfl,h2⟩⟩
 ·grind
 ·grind
 ·exact⟨fun e=>by have:=h2.1;omega,fun e=>ak (e▸h1) h3⟩
 ·grind
 ·omega
 ·exact⟨fun e=>by have:=h2.2;omega,fun e=>ak (e▸h2) (hc.hns _ h1)⟩
 ·exact⟨fun e=>by have:=h1.1;omega,fun e=>ak (e▸h2) h0⟩
 ·exact⟨fun e=>by have:=h1.2;omega,fun e=>ak (e▸h1) (hc.hns _ h2)⟩
 ·omega
def aT(hc:CallOkM ms ns m)(h':WI ⟨w,E.K,vW ms bx E ns,(qB ms E ns).ρ,NB,none,w.heap.size,[]⟩ w' E' H'):Renames (il ms ns m) E' (ve ms E E' ns m):=by
 have key: ∀n k,(if n=0 then m else if NB<=n/\n - NB∈ns then some (n - NB)else if zt ms n then some n else none)=some k->WW ms ns m n k:=by
  intro n k h;split at h
  ·rename_i hk;exact .inl ⟨hk,h⟩
  ·split at h
   ·rename_i hk fy;injection h with h;subst h
    exact .inr ⟨hc.nin fy.2,.inl ⟨oa,fy.2⟩⟩
   ·split at h
    ·rename_i hk fy P3;injection h with h;subst h
     exact .inr ⟨hc.nmid P3,.inr ⟨rfl,P3⟩⟩
    ·cases h
 exact⟨rfl,fun n k h=>(B4 hc h' (key n k h)).2,fun n k h=>(B4 hc h' (key n k h)).1⟩
def ma(h:WI X w E bx)(hB:NB<=X.B)(h':WI ⟨w,E.K,vW ms bx E ns,(qB ms E ns).ρ,NB,none,w.heap.size,[]⟩ w' E' H')(hc:CallOkM ms ns m):WI X w' (ve ms E E' ns m) (q9 ms bx H' ns m):=by
 have Z4:=bN h h';have hRa:=aU (ms:=ms) E E' ns m;have hRu:=aT hc h';have qb2: ∀b o,b<w.heap.size->¬vW ms bx E ns b o->E'.K b o->E.K b o:=fun b o h1 h2 h3=>h'.kold b o h1 h2 h3;have nm: ∀{k' k:Nat},WW ms ns m k' k->(ve ms E E' ns m).ρ k=E'.ρ k'/\(ve ms E E' ns m).val k=E'.val k':=fun g=>B4 hc h' g;have KX: ∀{k:Nat},m≠some k->¬(k∈ns\/zt ms k)->(ve ms E E' ns m).ρ k=E.ρ k/\(ve ms E E' ns m).val k=E.val k:=fun h1 h2=>O0 hc h1 h2;have nmI: ∀{k' k j' j:Nat},WW ms ns m k' k->WW ms ns m j' j->(k'=j'↔k=j):=fun g f=>O1 hc g f;have Mb: ∀k,(∃k',WW ms ns m k' k)\/(m≠some k/\¬(k∈ns\/zt ms k)):=fun k=>by
  by_cases h1:m=some k
  ·exact .inl ⟨0,.inl ⟨rfl,h1⟩⟩
  ·by_cases h2:k∈ns
   ·exact .inl ⟨_,.inr ⟨h1,.inl ⟨rfl,h2⟩⟩⟩
   ·by_cases h3:zt ms k
    ·exact .inl ⟨_,.inr ⟨h1,.inr ⟨rfl,h3⟩⟩⟩
    ·grind
 refine⟨h.turn.trans h'.turn (fun i o hi hF=>(aX h hF).resolve_left oa),h.sep,fun b o hb=>h'.kin b o (h.kin b o hb),fun b o qf hXF hk=>?_,h'.kok,fun k rows hk hne'=>?_,fun k j rk rj hk h2 hj h3 hkj=>?_,fun k b o hs=>?_,fun k j b o hs hs'=>?_,fun k j b o rj hs hj h3=>?_,fun k hk=>?_⟩
 ·have hbw:b<w.heap.size:=jp qf h.turn.size;exact h.kold b o qf hXF (qb2 b o hbw (fun hF=>hXF ((aX h hF).resolve_left oa)) hk)
 ·rcases cG hk with⟨k',r',g1,rfl,g2⟩|⟨g1,g2,r',g3,rfl⟩
  ·obtain⟨l1,l2,l3⟩:=h'.boxes k' r' g1 (Rows.tr_ne hne');rw[(nm g2).1];exact⟨Gc h l1,l2.tr hRu,l3⟩
  ·obtain⟨l1,l2,l3⟩:=h.boxes k r' g3 (Rows.tr_ne hne');have hF:=df h g3 (Rows.tr_ne hne') g2;rw[(KX g1 g2).1];exact⟨l1,(l2.mono Z4 (h'.turn.whole l2.lt hF)).tr hRa,fun o ho=>l3 o (qb2 _ o l2.lt (hF o) ho)⟩
 ·rcases cG hk with⟨k',r1,g1,rfl,g2⟩|⟨g1,g2,r1,g3,rfl⟩
  ·rcases cG hj with⟨j',r2,f1,rfl,f2⟩|⟨f1,f2,r2,f3,rfl⟩
   ·rw[(nm g2).1,(nm f2).1];exact h'.boxne k' j' r1 r2 g1 (Rows.tr_ne h2) f1 (Rows.tr_ne h3) fun e=>hkj ((nmI g2 f2).1 e)
   ·rw[(nm g2).1,(KX f1 f2).1];intro e;have qf:=(h.boxes j r2 f3 (Rows.tr_ne h3)).2.1.lt;rcases(h'.boxes k' r1 g1 (Rows.tr_ne h2)).1 with l|l
    ·grind
    ·exact df h f3 (Rows.tr_ne h3) f2 0 (e▸l 0)
  ·rcases cG hj with⟨j',r2,f1,rfl,f2⟩|⟨f1,f2,r2,f3,rfl⟩
   ·rw[(KX g1 g2).1,(nm f2).1];intro e;have qf:=(h.boxes k r1 g3 (Rows.tr_ne h2)).2.1.lt;rcases(h'.boxes j' r2 f1 (Rows.tr_ne h3)).1 with l|l
    ·grind
    ·exact df h g3 (Rows.tr_ne h2) g2 0 (e▸l 0)
   ·rw[(KX g1 g2).1,(KX f1 f2).1];exact h.boxne k j r1 r2 g3 (Rows.tr_ne h2) f3 (Rows.tr_ne h3) hkj
 ·rcases Mb k with⟨k',g⟩|⟨g1,g2⟩
  ·rw[(nm g).2]at hs;obtain⟨l1,l2,l3⟩:=h'.free k' b o hs;exact⟨Is h l1,l2,l3⟩
  ·rw[(KX g1 g2).2]at hs;obtain⟨l1,l2,l3⟩:=h.free k b o hs;exact⟨l1,fun hk=>l2 (qb2 b o l3.lt (aY h hs g2) hk),h'.turn.free l3.lt l3⟩
 ·rcases Mb k with⟨k',g⟩|⟨g1,g2⟩
  ·rcases Mb j with⟨j',f⟩|⟨f1,f2⟩
   ·rw[(nm g).2]at hs;rw[(nm f).2]at hs';exact(nmI g f).1 (h'.disj k' j' b o hs hs')
   ·rw[(nm g).2]at hs;rw[(KX f1 f2).2]at hs';have qf:=(h.free j b o hs').2.2.lt;rcases(h'.free k' b o hs).1 with l|l
    ·grind
    ·exact ak l (aY h hs' f2)
  ·rcases Mb j with⟨j',f⟩|⟨f1,f2⟩
   ·rw[(KX g1 g2).2]at hs;rw[(nm f).2]at hs';have qf:=(h.free k b o hs).2.2.lt;rcases(h'.free j' b o hs').1 with l|l
    ·grind
    ·exact ak l (aY h hs g2)
   ·rw[(KX g1 g2).2]at hs;rw[(KX f1 f2).2]at hs';exact h.disj k j b o hs hs'
 ·rcases cG hj with⟨j',r2,f1,rfl,f2⟩|⟨f1,f2,r2,f3,rfl⟩
  ·rw[(nm f2).1];rcases Mb k with⟨k',g⟩|⟨g1,g2⟩
   ·rw[(nm g).2]at hs;exact h'.sbox k' j' b o r2 hs f1 (Rows.tr_ne h3)
   ·rw[(KX g1 g2).2]at hs;intro e;have qf:=(h.free k b o hs).2.2.lt;rcases(h'.boxes j' r2 f1 (Rows.tr_ne h3)).1 with l|l
    ·grind
    ·exact ak (e▸l o) (aY h hs g2)
  ·rw[(KX f1 f2).1];rcases Mb k with⟨k',g⟩|⟨g1,g2⟩
   ·rw[(nm g).2]at hs;intro e;have qf:=(h.boxes j r2 f3 (Rows.tr_ne h3)).2.1.lt;rcases(h'.free k' b o hs).1 with l|l
    ·grind
    ·exact df h f3 (Rows.tr_ne h3) f2 o (e▸l)
   ·rw[(KX g1 g2).2]at hs;exact h.sbox k j b o r2 hs f3 (Rows.tr_ne h3)
 ·have Rh:=qX;have Dc:m≠some k:=fun e=>by have:=(hc.hm k e).2;omega
  have qdW: ¬zt ms k:=fun e=>by have:=e.2;omega
  simp only[ve,j7 Dc,j7 qdW];exact h.fix k hk
end
def AG{X:Origin}{s:DS}{E E':Env}{a:Act}{w w':j5}{H':vT}{ns:List Nat}{m:Option Nat}(h:RelE X s E a w)(h':WI ⟨w,E.K,vW ms s.bx E ns,(qB ms E ns).ρ,NB,none,w.heap.size,[]⟩ w' E' H')(hc:CallOkM ms ns m)(hm: ∀x,m=some x->x<s.n)
  {r:D} {v:j6} (hv:VD w' E' r v):Z1 X (s.aftCallM ms ns m r H') (a.put m v) w':=by
 have uP:RelE X { s with sl:=fun t=>(s.sl t).tr (bQ ms ns m),bx:=q9 ms s.bx H' ns m } (ve ms E E' ns m) a w':=
  ⟨ma h.wi h.small.2 h' hc,fun t=>((h.sl t).mono (bN h.wi h')).tr (aU E E' ns m),h.size,h.defers.turn h'.turn,h.small,h.pl⟩
 exact⟨_,uP.putOnly (fun d hd=>hm d hd) (hv.tr (aT hc h'))⟩
def mid(k:Nat):Prop:=1000<=k/\k<NB
instance (k:Nat):Decidable (mid k):=by unfold mid;infer_instance
def Km(ns:List Nat):Ren:=⟨fun n=>if n∈ns then some (n+NB)else if mid n then some n else none,fun n=>if n∈ns then some (n+NB)else if mid n then some n else none⟩
def S4(ns:List Nat)(m:Option Nat):Ren:=
 ⟨fun k=>if k=0 then m else if NB<=k/\k - NB∈ns then some (k - NB)else if mid k then some k else none,fun k=>if k=0 then m else if NB<=k/\k - NB∈ns then some (k - NB)else if mid k then some k else none⟩
def aft(ns:List Nat)(m:Option Nat):Ren:=⟨fun n=>if n∈ns\/mid n\/m=some n then none else some n,fun n=>if mid n\/m=some n then none else some n⟩
def vf(bx:vT)(ns:List Nat):vT:=fun k=>if NB<=k/\k - NB∈ns then(bx (k - NB)).map (Rows.tr (Km ns))else if mid k then(bx k).map (Rows.tr (Km ns))else none
def qF(bx H':vT)(ns:List Nat)(m:Option Nat):vT:=fun k=>
 if m=some k then(H' 0).map (Rows.tr (S4 ns m))else if k∈ns then(H' (k+NB)).map (Rows.tr (S4 ns m))else if mid k then(H' k).map (Rows.tr (S4 ns m))else(bx k).map (Rows.tr (aft ns m))
def DS.aftCall(s:DS)(ns:List Nat)(m:Option Nat)(r:D)(H':vT):DS:=
 ({ s with sl:=fun t=>(s.sl t).tr (aft ns m),bx:=qF s.bx H' ns m }:DS).put m (r.tr (S4 ns m))
def vH(E:Env)(ns:List Nat):Env:=⟨E.K,fun k=>if NB<=k then E.ρ (k - NB)else E.ρ k,fun k=>if NB<=k/\k - NB∈ns then E.val (k - NB)else if mid k then E.val k else(.slice none 0 0,0)⟩
def iM(bx:vT)(E:Env)(ns:List Nat):qM:=fun b o=>∃n,(n∈ns\/mid n)/\((∃rows,bx n=some rows/\rows≠ []/\b=E.ρ n)\/zP (E.val n) b o)
def C3(E E':Env)(ns:List Nat)(m:Option Nat):Env:=
 ⟨E'.K,fun k=>if m=some k then E'.ρ 0 else if mid k then E'.ρ k else E.ρ k,fun k=>if m=some k then E'.val 0 else if k∈ns then E'.val (k+NB)else if mid k then E'.val k else E.val k⟩
structure CallOk(ns:List Nat)(dst:Option Nat):Prop where
 hns: ∀n∈ns,¬Dl.mid n
 hm: ∀x,dst=some x->x∉ns/\x<1000
def sr:Nat->Bool:=fun _=>true
def iz:zt sr=mid:=funext fun _=>propext ⟨fun h=>⟨h.1,h.2.1⟩,fun h=>⟨h.1,h.2,rfl⟩⟩
def Xl(ns:List Nat):ZK sr ns=Km ns:=by simp only[ZK,Km,iz]
def Ns(ns:List Nat)(m:Option Nat):il sr ns m=S4 ns m:=by simp only[il,S4,iz]
def YE(ns:List Nat)(m:Option Nat):bQ sr ns m=aft ns m:=by simp only[bQ,aft,iz]
def qg3(bx:vT)(ns:List Nat):vv sr bx ns=vf bx ns:=by funext k;simp only[vv,vf,iz,Xl]
def qf1(bx H:vT)(ns:List Nat)(m:Option Nat):q9 sr bx H ns m=qF bx H ns m:=by funext k;simp only[q9,qF,iz,Ns,YE]
def Sn(E:Env)(ns:List Nat):qB sr E ns=vH E ns:=by simp only[qB,vH,iz]
def Wt(bx:vT)(E:Env)(ns:List Nat):vW sr bx E ns=iM bx E ns:=by unfold vW iM;rw[iz]
def qf6(E E':Env)(ns:List Nat)(m:Option Nat):ve sr E E' ns m=C3 E E' ns m:=by simp only[ve,C3,iz]
def CallOk.toM{m:Option Nat}(h:CallOk ns m):CallOkM sr ns m:=⟨by rw[iz];exact h.1,h.2⟩
def rr(E:Env)(ns:List Nat):Renames (Km ns) E (vH E ns):=by have:=Qr (ms:=sr) E ns;rwa [Xl,Sn]at this
def BC{X:Origin}(h:WI X w E bx)(ns:List Nat)(hns: ∀n∈ns,¬mid n):WI ⟨w,E.K,iM bx E ns,(vH E ns).ρ,NB,none,w.heap.size,[]⟩ w (vH E ns) (vf bx ns):=by have:=dD (ms:=sr) h ns (by rwa [iz]);rwa [Wt,Sn,qg3]at this
section
variable {X:Origin} {w w':j5} {E E':Env} {bx H':vT} {ns:List Nat} {m:Option Nat}
def D8(hc:CallOk ns m)(h':WI ⟨w,E.K,iM bx E ns,(vH E ns).ρ,NB,none,w.heap.size,[]⟩ w' E' H'):Renames (S4 ns m) E' (C3 E E' ns m):=by rw[<-Ns,<-qf6];rw[<-Wt,<-Sn]at h';exact aT hc.toM h'
def YY(h:WI X w E bx)(hB:NB<=X.B)(h':WI ⟨w,E.K,iM bx E ns,(vH E ns).ρ,NB,none,w.heap.size,[]⟩ w' E' H')(hc:CallOk ns m):WI X w' (C3 E E' ns m) (qF bx H' ns m):=by rw[<-qf1,<-qf6];rw[<-Wt,<-Sn]at h';exact ma h hB h' hc.toM
def IQ{s:DS}{a:Act}(h:RelE X s E a w)(h':WI ⟨w,E.K,iM s.bx E ns,(vH E ns).ρ,NB,none,w.heap.size,[]⟩ w' E' H')(hc:CallOk ns m)(hm: ∀x,m=some x->x<s.n)
  {r:D} {v:j6} (hv:VD w' E' r v):Z1 X (s.aftCall ns m r H') (a.put m v) w':=by
 rw[<-Wt,<-Sn]at h';have:=AG h h' hc.toM hm hv;simpa only[DS.aftCallM,DS.aftCall,Ns,YE,qf1]using this
end
end
def DLe(d d':D):Prop:=∀w E v,VD w E d v->VD w E d' v
inductive DLeL:List D->List D->Prop where
 | nil:DLeL [] []
 | cons {d d':D} {l l':List D}:DLe d d'->DLeL l l'->DLeL (d::l) (d'::l')
def DLeL.get{l l':List D}(h:DLeL l l'):l.length=l'.length/\∀(j:Nat) d',l'[j]? =some d'->∃d,l[j]? =some d/\DLe d d':=by
 induction h with
 | nil=>exact⟨rfl,fun j d h=>by simp at h⟩
 | cons h1 h2 ih=>grind
def WI.less{X:Origin}{bx':vT}(h:WI X w E bx)(hb: ∀k r,bx' k=some r->bx k=some r):WI X w E bx':=
 ⟨h.turn,h.sep,h.kin,h.kold,h.kok,fun k us hk qH=>h.boxes k us (hb k us hk) qH,fun k j rk rj hk h2 hj h3 qH=>h.boxne k j rk rj (hb _ _ hk) h2 (hb _ _ hj) h3 qH,h.free,h.disj,
  fun k j b o rj hs hj h3=>h.sbox k j b o rj hs (hb _ _ hj) h3,h.fix⟩
def D.asFn:D->Option (am×List T)
 | .one (.c (.fn g caps))=>some (g,caps.map T.c)
 | .one (.fv g caps)=>some (g,caps)
 | _=>none
def nE{d:D}{g:am}{caps:List T}(h:d.asFn=some (g,caps)){w:j5}{E:Env}{v:j6}(hv:VD w E d v):
  ∃vs,v= .func (.func g) #[] vs/\vs.size=caps.length/\∀(j:Nat) t u,caps[j]? =some t->vs[j]? =some u->VT w E t u:=by
 unfold D.asFn at h;split at h
 ·injection h with h;injection h with h1 h2;subst h1;subst h2
  cases hv with|one t v hv=>cases hv with|c c v hv=>cases hv with
   | fn f caps vs hl hr=>
    refine⟨vs,rfl,by simpa using hl,fun j t u g1 g2=>?_⟩;rw[wh,wK]at g1;obtain⟨c,hc,rfl⟩:=g1;exact .c _ _ (hr j c u hc g2)
 ·injection h with h;injection h with h1 h2;subst h1;subst h2
  cases hv with|one t v hv=>cases hv with
   | fv f caps vs hl hr=>exact⟨vs,rfl,hl,hr⟩
 ·cases h
section
variable {P:Program}
def So{o:aa}{a:Act}{w:j5}{X:Origin}{s:DS}{E:Env}{f:j9}{args:Array j9}{vy:Array j8}(ho:o.op= .call { callee:=.value f,args:=args,argTypes:=vy })(hr:RelE X s E a w)
  {g:am} {caps:List T} {ns:List Nat} {ds:List D} {H:vT} {R:D->vT->Prop} (hf:(s.ev f).asFn=some (g,caps)) (vh:DLeL ((args.toList.map s.ev++caps.map D.one).map (D.tr (Km ns))) ds) (hc:ECalls P g ds H R)
  (hH: ∀k r,H k=some r->vf s.bx ns k=some r) (QC:CallOk ns o.dst) (hm: ∀x,o.dst=some x->x<s.n) {Q:ah->Act->j5->Prop}:
  o.wp P a w (fun a' w'=>∃r H',R r H'/\Z1 X (s.aftCall ns o.dst r H') a' w') Q:=by
 obtain⟨captured,mZ,nP,Bb⟩:=nE hf (hr.ev f);have hR:=rr E ns;obtain⟨vG,lH⟩:=vh.get;have vo:(args.map a.eval++captured).size=ds.length:=og;have LD: ∀(j:Nat) d v,ds[j]? =some d->(args.map a.eval++captured)[j]? =some v->VD w (vH E ns) d v:=by
  intro j d v g1 g2;obtain⟨d0,g3,g4⟩:=lH j d g1;refine g4 w _ v ?_;rw[wh]at g3;cases hd:(args.toList.map s.ev++caps.map D.one)[j]? with
  | none=>grind
  | some d1=>
   rw[hd]at g3;injection g3 with g3;subst g3
   refine VD.tr hR ?_;by_cases hj:j<args.size
   ·rw[wU (by simpa using hj)]at hd;rw[jS (by simpa using hj)]at g2;simp[hj]at hd g2;subst hd;subst g2;exact hr.ev _
   ·rw[wL ot]at hd;rw[jN ot]at g2;simp only[wn,Array.size_map,Array.length_toList]at hd g2;rw[wh]at hd;cases Gb:caps[j - args.size]? with
    | none=>grind
    | some c=>rw[Gb]at hd;injection hd with hd;subst hd;exact .one _ _ (Bb _ c v Gb g2)
 have aM:=(BC hr.wi ns QC.hns).less hH;have cp:=hc.2 w (vH E ns) (iM s.bx E ns) _ aM vo LD;have qS:(execOp a.eval o).run P w= .ok (.enter g (args.map a.eval++captured)) w:=by unfold execOp;simp only[ho,wq];rw[vC a.eval f args vy _ g captured mZ w];simp only[wj,invoke];exact Qs hc.1 _ w
 unfold j4;rw[qS];refine Calls.mono cp ?_;rintro e w' ⟨v,E',r,H',rfl,hQ,hwi',hv'⟩;exact⟨r,H',hQ,IQ hr hwi' QC hm hv'⟩
end
section
variable {ms:Nat->Bool}
section
variable {P:Program}
def Ii{o:aa}{a:Act}{w:j5}{X:Origin}{s:DS}{E:Env}{f:j9}{args:Array j9}{vy:Array j8}(ho:o.op= .call { callee:=.value f,args:=args,argTypes:=vy })(hr:RelE X s E a w)
  {g:am} {caps:List T} {ns:List Nat} {ds:List D} {H:vT} {R:D->vT->Prop} (hf:(s.ev f).asFn=some (g,caps)) (vh:DLeL ((args.toList.map s.ev++caps.map D.one).map (D.tr (ZK ms ns))) ds) (hc:ECalls P g ds H R)
  (hH: ∀k r,H k=some r->vv ms s.bx ns k=some r) (QC:CallOkM ms ns o.dst) (hm: ∀x,o.dst=some x->x<s.n) {Q:ah->Act->j5->Prop}:
  o.wp P a w (fun a' w'=>∃r H',R r H'/\Z1 X (s.aftCallM ms ns o.dst r H') a' w') Q:=by
 obtain⟨captured,mZ,nP,Bb⟩:=nE hf (hr.ev f);have hR:=Qr (ms:=ms) E ns;obtain⟨vG,lH⟩:=vh.get;have vo:(args.map a.eval++captured).size=ds.length:=og;have LD: ∀(j:Nat) d v,ds[j]? =some d->(args.map a.eval++captured)[j]? =some v->VD w (qB ms E ns) d v:=by
  intro j d v g1 g2;obtain⟨d0,g3,g4⟩:=lH j d g1;refine g4 w _ v ?_;rw[wh]at g3;cases hd:(args.toList.map s.ev++caps.map D.one)[j]? with
  | none=>grind
  | some d1=>
   rw[hd]at g3;injection g3 with g3;subst g3
   refine VD.tr hR ?_;by_cases hj:j<args.size
   ·rw[wU (by simpa using hj)]at hd;rw[jS (by simpa using hj)]at g2;simp[hj]at hd g2;subst hd;subst g2;exact hr.ev _
   ·rw[wL ot]at hd;rw[jN ot]at g2;simp only[wn,Array.size_map,Array.length_toList]at hd g2;rw[wh]at hd;cases Gb:caps[j - args.size]? with
    | none=>grind
    | some c=>rw[Gb]at hd;injection hd with hd;subst hd;exact .one _ _ (Bb _ c v Gb g2)
 have aM:=(dD hr.wi ns QC.hns).less hH;have cp:=hc.2 w (qB ms E ns) (vW ms s.bx E ns) _ aM vo LD;have qS:(execOp a.eval o).run P w= .ok (.enter g (args.map a.eval++captured)) w:=by unfold execOp;simp only[ho,wq];rw[vC a.eval f args vy _ g captured mZ w];simp only[wj,invoke];exact Qs hc.1 _ w
 unfold j4;rw[qS];refine Calls.mono cp ?_;rintro e w' ⟨v,E',r,H',rfl,hQ,hwi',hv'⟩;exact⟨r,H',hQ,AG hr hwi' QC hm hv'⟩
end
def zi:Nat->Bool:=fun _=>false
def Qt(k:Nat): ¬zt zi k:=fun h=>by cases h.2.2
end
section
variable {P:Program}
def Step(P:Program)(o:aa)(s:DS)(K:DS->Prop):Prop:=
 (∀d,o.dst=some d->d<s.n)->∀X a w,Z1 X s a w->∀Q:ah->Act->j5->Prop,o.wp P a w (qge X fun s'=>s'.n=s.n/\K s') Q
def Step.mono{o:aa}{K K':DS->Prop}(h:Step P o s K)(hk: ∀s',s'.n=s.n->K s'->K' s'):Step P o s K':=fun hd X a w hr Q=>
 yL (fun a' w' ⟨s',⟨h1,h2⟩,h3⟩=>⟨s',⟨h1,hk s' h1 h2⟩,h3⟩) (h hd X a w hr Q)
def zD(s:DS)(dst:Option Nat)(d:D):(s.put dst d).n=s.n:=by cases dst<;>rfl
def Step.quiet{o:aa}{K:DS->Prop}(h:QD P s.ev s.bx o.op fun d=>K (s.put o.dst d)):Step P o s K:=by rintro hd X a w ⟨E,hE⟩ Q;refine yL ?_ (SM (P:=P) hE.wi.kok (fun n ts hn qH=>(hE.wi.boxes n ts hn qH).2.1) (fun x=>hE.ev x) h);rintro a' w' ⟨d,v,E',hK,rfl,hq,hv⟩;exact⟨_,⟨zD _ _ _,hK⟩,E',hE.put hq hd hv⟩
def Mt(t:j8){i:TypeInfo}{z:j6}(hi:P.info? t=some i)(hz:i.zero=some z)(w:j5):(Instr.alloc t true (.tuple #[])).run P w= .ok (.pointer (some ⟨w.heap.size,0,none⟩)) (w.alloc (.cells z.cells t)):=by simp only[Instr.alloc,zeroValue,typeInfo,hi,hz,newVar,newRow,wq,wG,run_program,wj,run_newObj];rfl
def Wy(t:j8)(v:j6)(w:j5):(Instr.box t v).run P w= .ok (.pointer (some ⟨w.heap.size,0,none⟩)) (w.alloc (.cells v.cells t)):=by simp only[Instr.box,newVar,newRow,wq,wG,wj,run_newObj];rfl
def Step.alloc{o:aa}{K:DS->Prop}{z:List T}(ho:o.op= .alloc t)(hm:o.dst=some m)(hz:Program.zeroT P t=some z)(h:K (s.newBx m z)):Step P o s K:=by rintro hd X a w ⟨E,hE⟩ Q;obtain⟨i,zv,h1,h2,h3,h4⟩:=l8 hz;refine vg (v:=.pointer (some ⟨w.heap.size,0,none⟩)) (w':=w.alloc (.cells zv.cells t)) (by simp only[execOp,ho,wq,Mt t h1 h2,wj,wG]) ⟨s.newBx m z,⟨rfl,h⟩,?_⟩;rw[hm];exact⟨_,hE.newBx m (hd m hm) zv.cells t _ h3 fun j t' v k1 k2=>h4 w E j t' v k1 k2⟩
def Step.box{o:aa}{K:DS->Prop}{x:j9}(ho:o.op= .box t x)(hm:o.dst=some m)(hz:(s.ev x).cells=some ts)(h:K (s.newBx m ts)):Step P o s K:=by rintro hd X a w ⟨E,hE⟩ Q;obtain⟨g1,g2,_⟩:=gy hz (hE.ev x);refine vg (v:=.pointer (some ⟨w.heap.size,0,none⟩)) (w':=w.alloc (.cells (a.eval x).cells t)) (by simp only[execOp,ho,wq,Wy,wj,wG]) ⟨s.newBx m ts,⟨rfl,h⟩,?_⟩;rw[hm];exact⟨_,hE.newBx m (hd m hm) _ t _ g1 g2⟩
def NI{v:D}(h:fF P s t x v=some s'):s'.n=s.n:=by
 unfold fF at h;split at h
 ·simp only[w7]at h;obtain⟨rows,_,r,_,h⟩:=h;split at h
  ·injection h with h;subst h;rfl
  ·cases h
 ·cases h
def Step.store{o:aa}{K:DS->Prop}{x v:j9}(ho:o.op= .store t x v)(hm:o.dst=none)(hs:fF P s t (s.ev x) (s.ev v)=some s')(h:K s'):Step P o s K:=by rintro hd X a w ⟨E,hE⟩ Q;obtain⟨w',h1,h2⟩:=Ke hs hE (hE.ev x) (hE.ev v);refine fA (w':=w') (by simp only[execOp,ho,wq,h1,wj,wG]) ⟨s',⟨NI hs,h⟩,E,?_⟩;rw[hm];exact h2
def mB(s:DS)(m:Nat)(r:D):(cg s m r).n=s.n:=by unfold cg;split<;>rfl
def zI(s:DS)(dst:Option Nat)(r:D):DS:=
 match dst with
 | some m=>cg s m r
 | none=>s
def Step.callP{o:aa}{s:DS}{K:DS->Prop}{f:j9}{args:Array j9}{vy:Array j8}{g:am}{caps:List C}{ds:List D}{r:D}(ho:o.op= .call { callee:=.value f,args:=args,argTypes:=vy })
  (hf:s.ev f= .one (.c (.fn g caps))) (vh:LeL ((args.toList.map s.ev).map D.cl++caps.map fun c=>D.one (.c c)) ds) (hc:DCalls P g ds r) (h:K (zI s o.dst r)):Step P o s K:=by
 rintro hd X a w ⟨E,hE⟩ Q;have hv:=hE.ev f;rw[hf]at hv;cases mZ:a.eval f with
 | func fn first captured=>
  rw[mZ]at hv;cases hv with|one t v hv=>cases hv with|c c v hv=>cases hv with
   | fn g caps vs hl hr=>
    obtain⟨h1,h2⟩:=sW (fun x=>hE.ev x) args.toList caps captured hl hr;have h1':(args.map a.eval++captured).size=ds.length:=by rw[<-(lW vh h2).1,<-h1];simp
    have h2': ∀(j:Nat) d v,ds[j]? =some d->(args.map a.eval++captured)[j]? =some v->VD w (E0 E.K) d v:=by have:=(lW vh h2).2;have he:(args.toList.map a.eval).toArray++captured=args.map a.eval++captured:=og;rw[he]at this;exact this
    have cp:=hc.2 w E.K _ hE.wi.kok h1' h2';have qS:(execOp a.eval o).run P w= .ok (.enter g (args.map a.eval++captured)) w:=by unfold execOp;simp only[ho,wq];rw[vC a.eval f args vy _ g captured mZ w];simp only[wj,invoke];exact Qs hc.1 _ w
    unfold j4;rw[qS];refine Calls.mono cp ?_;rintro e w' ⟨v,E',rfl,pg,hvd⟩;cases cK:o.dst with
    | none=>
     rw[cK]at h;exact⟨s,⟨rfl,h⟩,_,hE.quiet pg.quiet⟩
    | some m=>
     rw[cK]at h;exact⟨_,⟨mB s m r,h⟩,oN hE pg (hd m cK) hvd⟩
 | _=>rw[mZ]at hv;cases hv with|one t v hv=>cases hv with|c c v hv=>cases hv
def Bw(s:DS)(ns:List Nat)(m:Option Nat)(r:D)(H':vT):(s.aftCall ns m r H').n=s.n:=by cases m<;>rfl
def Step.callE{o:aa}{s:DS}{K:DS->Prop}{f:j9}{args:Array j9}{vy:Array j8}{g:am}{caps:List T}{ns:List Nat}{ds:List D}{H:vT}{R:D->vT->Prop}(ho:o.op= .call { callee:=.value f,args:=args,argTypes:=vy })
  (hf:(s.ev f).asFn=some (g,caps)) (vh:DLeL ((args.toList.map s.ev++caps.map D.one).map (D.tr (Km ns))) ds) (hc:ECalls P g ds H R) (hH: ∀k r,H k=some r->vf s.bx ns k=some r) (hm:CallOk ns o.dst)
  (h: ∀r H',R r H'->K (s.aftCall ns o.dst r H')):Step P o s K:=by
 rintro hd X a w ⟨E,hE⟩ Q;refine yL ?_ (So ho hE hf vh hc hH hm hd);rintro a' w' ⟨r,H',hR,hr⟩;exact⟨_,⟨Bw _ _ _ _ _,h r H' hR⟩,hr⟩
section
variable {ms:Nat->Bool}
def lT(s:DS)(ns:List Nat)(m:Option Nat)(r:D)(H':vT):(s.aftCallM ms ns m r H').n=s.n:=by cases m<;>rfl
def Step.callM{P:Program}{o:aa}{s:DS}{K:DS->Prop}{f:j9}{args:Array j9}{vy:Array j8}{g:am}{caps:List T}{ns:List Nat}{ds:List D}{H:vT}{R:D->vT->Prop}(ms:Nat->Bool)(ho:o.op= .call { callee:=.value f,args:=args,argTypes:=vy })
  (hf:(s.ev f).asFn=some (g,caps)) (vh:DLeL ((args.toList.map s.ev++caps.map D.one).map (D.tr (ZK ms ns))) ds) (hc:ECalls P g ds H R) (hH: ∀k r,H k=some r->vv ms s.bx ns k=some r) (hm:CallOkM ms ns o.dst)
  (h: ∀r H',R r H'->K (s.aftCallM ms ns o.dst r H')):Step P o s K:=by
 rintro hd X a w ⟨E,hE⟩ Q;refine yL ?_ (Ii ho hE hf vh hc hH hm hd);rintro a' w' ⟨r,H',hR,hr⟩;exact⟨_,⟨lT _ _ _ _ _,h r H' hR⟩,hr⟩
end
def Qp(b:Builtin)(ρ:j9->j6)(x y:j9)(t t2 ty:j8)(w:j5): ∃cs,(resolve ρ { callee:=.builtin b,args:= #[x,y],argTypes:= #[t,t2] } ty).run P w= .ok { target:=.builtin b #[t,t2] ty cs,args:= #[ρ x,ρ y] } w:=
 ⟨_,by simp only[resolve,jL,wo,wm,wG];rfl⟩
def Step.appendOwn{o:aa}{s:DS}{K:DS->Prop}{m n sz by_:Nat}{x y:j9}{t:j8}{xs ys:List (List C)}(ho:o.op= .call { callee:=.builtin .append,args:= #[x,y],argTypes:= #[t,t] })(hm:o.dst=some m)
  (za:qT P t=some (sz,by_)) (hx:pU m sz (s.ev x)=some (n,xs)) (hy:pV sz (s.ev y)=some ys) (hb:(xs.length+ys.length)*by_<=140737488355328) (h:K ((s.close [n]).put (some m) (.one (.own n sz (xs++ys))))):Step P o s K:=by
 rintro hd X a w ⟨E,hE⟩ Q;obtain⟨e1,e2,e3⟩:=Mn hx (hE.ev x);obtain⟨v',w',E',qS,hE',hv'⟩:=Mm (P:=P) (ty:=o.type) za hE (n:=n) e1 e2 e3 (Mp hy (hE.ev y)) hb;obtain⟨cs,dR⟩:=Qp (P:=P) .append a.eval x y t t o.type w;refine vg (v:=v') (w':=w') ?_ ⟨(s.close [n]).put (some m) (.one (.own n sz (xs++ys))),⟨rfl,h⟩,?_⟩
 ·unfold execOp;simp only[ho,wq];rw[dR];simp only[wj,invoke,builtin,wq,qS,wG]
 ·rw[hm];exact⟨E',hE'.putOnly (fun d hd'=>by injection hd' with hd';subst hd';exact hd m hm) hv'⟩
def Step.appendRoom{o:aa}{s:DS}{K:DS->Prop}{m n sz by_ i len cap:Nat}{x y:j9}{t:j8}{rows ys:Rows}(ho:o.op= .call { callee:=.builtin .append,args:= #[x,y],argTypes:= #[t,t] })(hm:o.dst=some m)
  (za:qT P t=some (sz,by_)) (hx:s.ev x= .one (.ba n sz i len cap)) (hn:s.bx n=some rows) (QH:i+cap<=rows.length) (hz:RowsSz sz rows) (fw:Src s.bx sz (s.ev y) ys) (vd:len+ys.length<=cap)
  (h:K ((s.setBx n (some (rows.take (i+len)++(ys++rows.drop (i+len+ys.length))))).put (some m) (.one (.ba n sz i (len+ys.length) cap)))):Step P o s K:=by
 rintro hd X a w ⟨E,hE⟩ Q;have uG:=hE.ev x;rw[hx]at uG;obtain⟨v',w',qS,hE',hv'⟩:=xG (P:=P) (ty:=o.type) za hE uG hn QH hz fw (hE.ev y) vd;obtain⟨cs,dR⟩:=Qp (P:=P) .append a.eval x y t t o.type w;refine vg (v:=v') (w':=w') ?_ ⟨_,⟨by rfl,h⟩,?_⟩
 ·unfold execOp;simp only[ho,wq];rw[dR];simp only[wj,invoke,builtin,wq,qS,wG]
 ·rw[hm];exact⟨E,hE'.putOnly (fun d hd'=>by injection hd' with hd';subst hd';exact hd m hm) hv'⟩
def Step.appendLin{o:aa}{s:DS}{K:DS->Prop}{m n sz by_ len cap:Nat}{x y:j9}{t:j8}{rows ys:Rows}(ho:o.op= .call { callee:=.builtin .append,args:= #[x,y],argTypes:= #[t,t] })(hm:o.dst=some m)
  (za:qT P t=some (sz,by_)) (hx:s.ev x= .one (.ba n sz 0 len cap)) (hn:s.bx n=some rows) (QH:rows.length=cap) (hz:RowsSz sz rows) (fw:Src s.bx sz (s.ev y) ys) (vh:len<=cap)
  (hb:(len+ys.length)*by_<=140737488355328) (h: ∀js,RowsSz sz js->K ((s.moveMem n m (rows.take len++(ys++js))).put (some m) (.one (.ba m sz 0 (len+ys.length) (len+ys.length+js.length))))):Step P o s K:=by
 rintro hd X a w ⟨E,hE⟩ Q;have uG:=hE.ev x;rw[hx]at uG;obtain⟨v',w',js,qS,E8,hE'⟩:=Mq (P:=P) (ty:=o.type) za hE uG hn QH hz fw (hE.ev y) vh hb (hd m hm);obtain⟨cs,dR⟩:=Qp (P:=P) .append a.eval x y t t o.type w;refine vg (v:=v') (w':=w') ?_ ⟨_,⟨by rfl,h js E8⟩,?_⟩
 ·unfold execOp;simp only[ho,wq];rw[dR];simp only[wj,invoke,builtin,wq,qS,wG]
 ·grind
def Step.copy{o:aa}{s:DS}{K:DS->Prop}{n sz i len cap:Nat}{x y:j9}{t t2:j8}{rows ys:Rows}(ho:o.op= .call { callee:=.builtin .copy,args:= #[x,y],argTypes:= #[t,t2] })
  (he:Program.elemSz P t=some sz) (hx:s.ev x= .one (.ba n sz i len cap)) (hn:s.bx n=some rows) (QH:i+len<=rows.length) (hz:RowsSz sz rows) (fw:Src s.bx sz (s.ev y) ys)
  (h:K ((s.setBx n (some (rows.take i++(ys.take len++rows.drop (i+(ys.take len).length))))).put o.dst (.one (.c (.lit (.int .i64 (ys.take len).length)))))):Step P o s K:=by
 rintro hd X a w ⟨E,hE⟩ Q;have uG:=hE.ev x;rw[hx]at uG;obtain⟨w',qS,hE'⟩:=qcU (P:=P) (t2:=t2) (ty:=o.type) he hE uG hn QH hz fw (hE.ev y);obtain⟨cs,dR⟩:=Qp (P:=P) .copy a.eval x y t t2 o.type w;refine vg (v:=.int .i64 (ys.take len).length) (w':=w') ?_ ⟨_,⟨by rw[zD];rfl,h⟩,?_⟩
 ·unfold execOp;simp only[ho,wq];rw[dR];simp only[wj,invoke,builtin,wq,qS,wG]
 ·exact⟨E,hE'.putOnly hd (.one _ _ (.c _ _ (.lit _ rfl)))⟩
def Step.buildOne{o:aa}{s:DS}{K:DS->Prop}{m sz by_:Nat}{x:j9}{t:j8}{ns:List T}(ho:o.op= .buildSlice t 1 #[(0,x)])(hm:o.dst=some m)(za:qT P t=some (sz,by_))(Ra:sz<=16777216)(hx:(s.ev x).cells=some ns)(hl:ns.length=sz)
  (h:K ((s.newMem m [ns]).put (some m) (.one (.ba m sz 0 1 1)))):Step P o s K:=by
 rintro hd X a w ⟨E,hE⟩ Q;obtain⟨e,inf,z,hu,hi,AX,hisz,hiby,hzsz,qZ,hbpos,AW⟩:=nF w za;obtain⟨g1,g2,_⟩:=gy hx (hE.ev x);have MF:(zeroValue e).run P w= .ok z w:=by simp[zeroValue,typeInfo,hi,AX]
 have vo:(sizeOf e).run P w= .ok sz w:=by simp[sizeOf,typeInfo,hi,hisz]
 let base:Array Value:=(Array.range (1*sz)).map (z.cells[· % z.cells.size]!)
 have Fa:base.size=sz:=og;have hb: ¬((a.eval x).cells.size≠sz||decide (0*sz+(a.eval x).cells.size>base.size))=true:=og;obtain⟨f1,f2⟩:=uW (a.eval x).cells base (0*sz) oa
 let cells:=(a.eval x).cells.zipIdx.foldl (fun cs (c,j)=>cs.setIfInBounds (0*sz+j) c) base
 have hfill:Instr.fill (fun i=>some (i*sz,sz)) base [(0,a.eval x)]=some cells:=by simp only[Instr.fill,hb];rfl
 have mW:RowsIs w E cells [ns]:=by
  refine⟨sz,fun r hr=>by rw[yp.1 hr];exact hl,by rw[f1,Fa];simp,fun i j r t' v k1 k2 k3=>?_⟩;have hi0:i=0:=og;subst hi0;simp only[yk]at k1;injection k1 with k1;subst k1
  have hj:j<ns.length:=og;have P3:(a.eval x).cells[j]? =some v:=og;exact g2 j t' v k2 P3
 have VN: ¬(1*sz>2 ^ 24):=oa;have P0: ¬(1*sz=0):=oa;have qS:(Instr.buildSlice t 1 #[(0,a.eval x)]).run P w= .ok (.slice (some ⟨w.heap.size,0,none⟩) 1 1) (w.alloc (.cells cells e)):=by have VQ:Instr.fill (fun i=>some (i*sz,sz)) ((Array.range (1*sz)).map (z.cells[· % z.cells.size]!)) [(0,a.eval x)]=some cells:=hfill;simp only[Instr.buildSlice,wq,run_underlying hu,wj,vo,Sem.run_ite,VN,ap,wG,j7 P0,MF,VQ,newRow,run_newObj];rfl
 have h2:=hE.newMem m (hd m hm) cells e _ mW;refine vg (v:=.slice (some ⟨w.heap.size,0,none⟩) 1 1) (w':=w.alloc (.cells cells e)) ?_ ⟨_,⟨by rfl,h⟩,?_⟩
 ·have:(#[(0,x)].map fun(i,x)=>(i,a.eval x):Array (Nat×j6))= #[(0,a.eval x)]:=by simp
  simp only[execOp,ho,wq,this,qS,wj,wG]
 ·rw[hm];refine⟨_,h2.putOnly (fun d hd'=>by injection hd' with hd';subst hd';exact hd m hm) (.one _ _ ?_)⟩;have:=VT.ba (w:=w.alloc (.cells cells e)) (E:=E.setρ m w.heap.size) m sz 0 1 1 (wl _) (by simp[maxLen]);simp only[Env.setρ,an,Nat.zero_mul]at this;exact this
end
end Go.Dl
