/- The logic of data over the kit's walk, and contracts of the functions that the laws reach, each said by plain data; part 3 of 7. -/
import Derived.Laws.MakeOwn
import Derived.ProofKit
import Derived.Deep.Slices
import Derived.OpenShut
import Derived.ChangeOld
import Derived.Laws.RangeString
import Derived.Maps.OwnSet
import Derived.Maps.Range
import Derived.Test.YtaaodllggdjhiaaGreatDoorRows
import Derived.KernelRfl
import Derived.Shelf.SortM.Plain
import Derived.Shelf.SortM.SortNone
import Derived.Ground.SlgmProg
import Derived.Test.YtaaodllggdjhiaaGreatDoorChecked
import Derived.Shelf.Unicode.ValidAny
import Derived.Ground.NamesProg
import Derived.Shelf.SlicesE.DeleteFunc
import Derived.Shelf.SlicesE.Clone
import Derived.Ground.SlgfProg
import Derived.Ground.SlgnProg
import Derived.Shelf.SlGeneric
import Derived.Lib.ValidLaws
import Derived.Test.YtaaodllggdjhiaaGreatDoorm1
set_option linter.all false
set_option linter.unusedVariables false
set_option linter.unusedSimpArgs false
set_option maxRecDepth 10000
set_option maxHeartbeats 8000000
open Array renaming getElem?_eq_getElem → wY, getElem?_eq_some_iff → wF, getElem?_eq_none → yz, getElem?_append → jq
open Bool renaming false_eq_true → w8, and_eq_true → wu, true_and → yy, or_false → yf, or_eq_true → yX, eq_false_or_eq_true → wN
open Go.Proofs.Tryz renaming prog → pP
open Int renaming toNat_natCast → wB
open List renaming mem_cons → ws, eq_of_mem_replicate → yb, getElem?_eq_some_iff → wd, mem_of_getElem? → wl, getElem?_cons_succ → yJ, getElem?_eq_getElem → wc, take_append_drop → wS, mem_singleton → yd, getElem?_eq_none → wZ, map_map → yw, mem_map → wI, getElem?_map → wq, map_cons → wt, all_eq_true → w5, filter_cons → jl, length_cons → wz, append_assoc → wU, length_map → we, mem_range → y9, getD_eq_getElem?_getD → yv, cons_append → wH, getElem?_of_mem → jw, getElem?_drop → ya, getElem?_take → yj, pairwise_append → wW, take_succ_cons → wm, take_zero → wg, foldl_nil → w9, getD_cons_zero → jk, getD_cons_succ → jF, drop_succ_cons → wj, drop_zero → ww, foldl_cons → w6, map_congr_left → yC, length_pos_iff → yn, eq_nil_of_length_eq_zero → jj, any_eq_false → jb, map_nil → wn, take_length → wh, any_eq_true → yo
open Nat renaming mul_comm → jg, le_refl → wv, le_trans → wD, lt_or_ge → yg, sub_self → yM, add_assoc → yL, zero_le → ye, lt_of_lt_of_le → yA
open Option renaming map_some → w4, isSome_iff_exists → y7, map_eq_some_iff → wy
namespace Go.Dl
open Go.RowKit
noncomputable section
inductive PT where
 | leaf
 | run (l:List Nat) (t:PT)
 | two (i:Nat) (t:PT) (j:Nat) (u:PT)
def qgc(ops:List Oper):List Nat->Array Bool->Bool
 | [],_=>true
 | i::l,listed=>(Region.ready .any ops.toArray listed== [i])&&qgc ops l (listed.setIfInBounds i true)
def Z2(ops:List Oper)(m:Mode):List Nat->List (Mode×Oper)
 | []=>[]
 | i::l=>match ops[i]? with
  | some o=>(m,o)::Z2 ops m l
  | none=>[]
def qT(ops:List Oper)(hd:List Nat):List Nat->List (Mode×Oper)
 | []=>[]
 | i::l=>match ops[i]? with
  | some o=>(if i∈hd then .hand else .step,o)::qT ops hd l
  | none=>[]
def PT.wk(P:Program)(ops:List Oper)(hd:List Nat)(ds:List (Option Nat)):PT->DS->(DS->Prop)->Prop
 | .leaf,s,K=>K s
 | .run l t,s,K=>Go.Dl.wk P ds (qT ops hd l) s fun s'=>t.wk P ops hd ds s' K
 | .two i t j u,s,K=>(Go.Dl.wk P ds (qT ops hd [i]) s fun s'=>t.wk P ops hd ds s' K)/\Go.Dl.wk P ds (qT ops hd [j]) s fun s'=>u.wk P ops hd ds s' K
section
variable {P : Program}
theorem Zm{ops:List Oper}{N:Nat}(hb:dstB ops N=true){K:DS->Prop}{fuel:Nat}{listed:Array Bool}{s:DS}{l:List Nat}(hr:Region.ready .any ops.toArray listed=l)(hne:l≠ [])
  (h: ∀i∈l,∃o,ops[i]? =some o/\vj P ops o s (z7 P ops N K fuel (listed.setIfInBounds i true))):z7 P ops N K (fuel+1) listed s:=by
 intro hn X a w hrel
 refine wpAny_all hr hne fun j hj=>?_
 obtain⟨o,ho,h⟩:=h j hj
 have hd:=qg9 hb ho
 unfold wpOp
 have ho':ops.toArray[j]? =some o:=by simpa using ho
 simp only[ho']
 unfold vj at h
 split at h
 ·rename_i t ht
  rw[v6 ht hrel]
  split at h
  ·rename_i h3
   rw[if_pos h3]
   refine .inl (Oper.wp_mono ?_ (h (fun d hd'=>by rw[hn];exact hd d hd') X a w hrel _))
   rintro a' w' ⟨s',⟨hn',hs'⟩,hr'⟩
   exact hs' (hn'.trans hn) X a' w' hr'
  ·rename_i h3
   rw[if_neg h3]
   exact h (by rw[za];exact hn) X _ w (qcR hrel (fun d hd'=>by rw[hn];exact hd d hd'))
 ·exact h.elim
theorem zF{ops:List Oper}{o:Oper}{l:List (Mode×Oper)}{s:DS}{K:DS->Prop}{p:Prop} [Decidable p](h:wk P (ops.map (·.dst)) ((if p then .hand else .step,o)::l) s K):vj P ops o s fun s'=>wk P (ops.map (·.dst)) l s' K:=by
 have h:=Q5 h
 unfold GIs at h
 simp only[vj]
 split at h
 ·rename_i hw
  simp only[hw,if_true]
  split at h
  ·cases h with
   | hand h=>exact h
  ·cases h with
   | step h=>exact h
 ·rename_i hw
  simp only[hw,w8,if_false]
  exact h
 ·exact h.elim
theorem vB{ops:List Oper}{o:Oper}{s:DS}{K K':DS->Prop}(hk: ∀s,K s->K' s)(h:vj P ops o s K):vj P ops o s K':=by
 revert h
 simp only[vj]
 split
 ·split
  ·exact fun h=>h.mono fun s' _=>hk s'
  ·exact hk _
 ·exact id
theorem qrm{ops:List Oper}{hd:List Nat}{N:Nat}(hb:dstB ops N=true){K K1:DS->Prop}{fuel:Nat}: ∀(l:List Nat) (listed:Array Bool) (s:DS),qgc ops l listed=true->
  wk P (ops.map (·.dst)) (qT ops hd l) s K1->(∀s,K1 s->z7 P ops N K fuel (qbb l listed) s)->(∀i∈l,(ops[i]?).isSome=true)->z7 P ops N K (l.length+fuel) listed s
 | [],listed,s,_,h,hk,_=>by
  have:=hk s (by simpa[qT,wk]using h)
  simpa[qbb]using this
 | i::l,listed,s,hr,h,hk,hs=>by
  simp only[qgc,wu,beq_iff_eq]at hr
  have hi:=hs i (by simp)
  cases ho:ops[i]? with
  | none=>rw[ho]at hi;cases hi
  | some o=>
   simp only[qT,ho]at h
   have hfu:(i::l).length+fuel=(l.length+fuel)+1:=by simp;omega
   rw[hfu]
   exact qq7 hb hr.1 ho (vB (fun s' h'=>qrm hb l _ s' hr.2 h' hk fun j hj=>hs j (by simp[hj])) (zF h))
theorem qky{ops:List Oper}{listed:Array Bool}{i:Nat}(h:i∈Region.ready .any ops.toArray listed):(ops[i]?).isSome=true:=by
 have h1:i<ops.toArray.size:=by
  unfold Region.ready at h
  have:=(List.mem_filter.1 h).1
  simpa using this
 simp at h1
 simp[h1]
theorem qjf{ops:List Oper}: ∀(l:List Nat) (listed:Array Bool),qgc ops l listed=true->∀i∈l,(ops[i]?).isSome=true
 | [],_,_=>by simp
 | i::l,listed,hr=>by
  simp only[qgc,wu,beq_iff_eq]at hr
  intro j hj
  rcases ws.1 hj with rfl|hj
  ·exact qky (listed:=listed) (by rw[hr.1];simp)
  ·exact qjf l _ hr.2 j hj
theorem qm2(ops:List Oper)(m:Mode):Z2 ops m []= []:=rfl
theorem qkW(ops:List Oper)(m:Mode)(i:Nat)(l:List Nat):Z2 ops m (i::l)=match ops[i]? with|some o=>(m,o)::Z2 ops m l|none=>[]:=rfl
theorem qm3(ops:List Oper)(hd:List Nat):qT ops hd []= []:=rfl
theorem qkX(ops:List Oper)(hd:List Nat)(i:Nat)(l:List Nat):qT ops hd (i::l)=match ops[i]? with|some o=>(if i∈hd then .hand else .step,o)::qT ops hd l|none=>[]:=rfl
theorem qmU(ops:List Oper)(hd:List Nat)(ds:List (Option Nat))(s:DS)(K:DS->Prop):PT.leaf.wk P ops hd ds s K=K s:=rfl
theorem qpV(ops:List Oper)(hd:List Nat)(ds:List (Option Nat))(l:List Nat)(t:PT)(s:DS)(K:DS->Prop):(PT.run l t).wk P ops hd ds s K=Go.Dl.wk P ds (qT ops hd l) s fun s'=>t.wk P ops hd ds s' K:=rfl
theorem qpU(ops:List Oper)(hd:List Nat)(ds:List (Option Nat))(i j:Nat)(t u:PT)(s:DS)(K:DS->Prop):(PT.two i t j u).wk P ops hd ds s K=((Go.Dl.wk P ds (qT ops hd [i]) s fun s'=>t.wk P ops hd ds s' K)/\Go.Dl.wk P ds (qT ops hd [j]) s fun s'=>u.wk P ops hd ds s' K):=rfl
attribute [go_sem] qm2 qkW qm3 qkX qmU qpV qpU
end
end
end Go.Dl
namespace Go.Dl
open Go.RowKit
noncomputable section
theorem vz{P:Program}{α:Type}{id:Nat}{c rest:Code}{s:DS}{Q Q2:Exit->DS->Prop}(S:α->DS)(F:α->Prop)(h1:DW P c s (fun e s'=>e= .exit id/\∃y,F y/\s'.Sub (S y)))(h2: ∀y,F y->DW P rest (S y) Q):
  DW P c s (zV id (QM (fun s'=>DW P rest s' Q) Q2)):=
 h1.mono fun e s' ⟨he,y,hF,hs⟩=>by
  subst he
  simp only[zV,if_true,QM]
  exact dw_weaken hs (h2 y hF)
theorem vq{P:Program}{α:Type}{c rest:Code}{s:DS}{Q Q2:Exit->DS->Prop}(S:α->DS)(F:α->Prop)(h1:DW P c s (fun e s'=>e= .normal/\∃y,F y/\s'.Sub (S y)))(h2: ∀y,F y->DW P rest (S y) Q):
  DW P c s (QM (fun s'=>DW P rest s' Q) Q2):=
 h1.mono fun e s' ⟨he,y,hF,hs⟩=>by
  subst he
  simp only[QM]
  exact dw_weaken hs (h2 y hF)
theorem nb_1000:(1000<NB)=True:=eq_true (by have:=qL;omega)
attribute [go_sem] nb_1000
end
end Go.Dl
namespace Go.Dl
open Go.RowKit
noncomputable section
section
variable {P : Program}
theorem Step.makeSlice{o:Oper}{s:DS}{K:DS->Prop}{m n:Nat}{x y:Operand}{t e:TypeId}{z:List T}{inf:TypeInfo}{kx ky:IntKind}(ho:o.op= .makeSlice t x y)(hm:o.dst=some m)(hu:P.underlying t=some (.slice e))(hi:P.info? e=some inf)(hz:Program.zeroT P e=some z)
  (vo:0<z.length) (hsz:inf.size=z.length) (hx:s.ev x= .one (.c (.lit (.int kx (n:Int))))) (hy:s.ev y= .one (.c (.lit (.int ky (n:Int))))) (hn:n*z.length<=16777216) (hb:inf.bytes*n<=281474976710656) (h63:n<=maxLen)
  (h:K ((s.newMem m (List.replicate n z)).put (some m) (.one (.ba m z.length 0 n n)))):Step P o s K:=by
 rintro hd X a w ⟨E,hE⟩ Q
 have hvx:=hE.ev x
 have hvy:=hE.ev y
 rw[hx]at hvx
 rw[hy]at hvy
 obtain⟨inf',z0,h1,h2,h3,h4⟩:=qeE hz
 rw[hi]at h1;injection h1 with h1;subst h1
 have hb':(inf.bytes:Int)*(n:Int)<=281474976710656:=by
  have:((inf.bytes*n:Nat):Int)<=281474976710656:=by omega
  rwa [Int.natCast_mul]at this
 have h63':(n:Int)<=9223372036854775807:=by have:=h63;simp[maxLen]at this;omega
 have vi:=run_makeSlice (P:=P) w t e inf z0 hu hi h2 kx ky (n:Int) (n:Int) (Int.natCast_nonneg n) (Int.le_refl _) (by rw[hsz];simpa using hn) hb' h63'
 simp only[wB,hsz]at vi
 have hz0:0<z0.cells.size:=by omega
 have qfj:RowsIs w E (madeCells z0.cells (n*z.length)) (List.replicate n z):=by
  refine⟨z.length,fun r hr=>by rw[yb hr],by simp[size_madeCells],fun i j r t' v k1 k2 k3=>?_⟩
  have hin:i<n:=by have:=(wd.1 k1).1;simpa using this
  have hr:r=z:=yb (wl k1)
  subst hr
  have hj:j<r.length:=(wd.1 k2).1
  have hlt:=qnV hin hj (sz:=r.length)
  have hmod:(i*r.length+j) % z0.cells.size=j:=by rw[h3,jg,Nat.mul_add_mod,Nat.mod_eq_of_lt hj]
  have hv:v=z0.cells[j]'(by omega):=by
   simp only[madeCells,Array.getElem?_map,Array.getElem?_range,hlt,if_true,w4,hmod]at k3
   injection k3 with k3
   rw[<-k3,getElem!_pos z0.cells j (by omega)]
  subst hv
  exact h4 w E j t' _ k2 (wY (by omega))
 have h5:=hE.newMem m (hd m hm) (madeCells z0.cells (n*z.length)) e _ qfj
 refine vu (v:=.slice (some ⟨w.heap.size,0,none⟩) n n) (w':=w.alloc (.cells (madeCells z0.cells (n*z.length)) e)) ?_ ⟨_,⟨by rfl,h⟩,?_⟩
 ·simp only[execOp,ho,Sem.run_bind,hvx.lit,hvy.lit,vi,Result.andThen_ok,Sem.run_pure]
 ·rw[hm]
  refine⟨_,h5.putOnly (fun d hd'=>by injection hd' with hd';subst hd';exact hd m hm) (.one _ _ ?_)⟩
  have:=VT.ba (w:=w.alloc (.cells (madeCells z0.cells (n*z.length)) e)) (E:=E.setρ m w.heap.size) m z.length 0 n n (wv _) h63
  simpa[Env.setρ]using this
end
theorem nb_lt(a:Nat):(a+NB<NB)=False:=eq_false (by omega)
attribute [go_sem] nb_lt
end
end Go.Dl
namespace Go.Dl
open Go.RowKit Go.ChangeShapes Go.WideShapes Go.ChangeAt
inductive Sh where
 | int (k:IntKind)
 | bool
 | str
 | sl (sz:Nat) (e:Sh)
 | nil
 | cons (f r:Sh)
def Val:Sh->Type
 | .int _=>Int
 | .bool=>Bool
 | .str=>ByteArray
 | .sl _ e=>List (Val e)
 | .nil=>Unit
 | .cons f r=>Val f×Val r
def Sh.size:Sh->Nat
 | .nil=>0
 | .cons f r=>f.size+r.size
 | _=>1
def Sh.enc:(s:Sh)->Val s->List C
 | .int k,n=>[.lit (.int k n)]
 | .bool,b=>[.lit (.bool b)]
 | .str,s=>[.lit (.string s)]
 | .sl sz e,l=>[.sl sz (List.map (Sh.enc e) l)]
 | .nil,_=>[]
 | .cons f r,x=>Sh.enc f x.1++Sh.enc r x.2
def Sh.ok:(s:Sh)->Val s->Prop
 | .int k,n=>(Lit.int k n).wf=true
 | .bool,_=>True
 | .str,s=>s.size<=maxLen
 | .sl _ e,l=>(show List (Val e) from l).length<=maxLen/\∀x∈(show List (Val e) from l),Sh.ok e x
 | .nil,_=>True
 | .cons f r,x=>Sh.ok f x.1/\Sh.ok r x.2
theorem Sh.enc_len:(s:Sh)->(x:Val s)->(s.enc x).length=s.size
 | .int k,n=>rfl
 | .bool,b=>rfl
 | .str,s=>rfl
 | .sl sz e,l=>rfl
 | .nil,_=>rfl
 | .cons f r,x=>by simp only[Sh.enc,List.length_append,Sh.enc_len f,Sh.enc_len r,Sh.size]
def Program.has(P:Program):Sh->TypeId ⊕ (List Field×Nat)->Bool
 | .int k,.inl t=>match P.underlying t with|some (.int k')=>decide (k'=k)|_=>false
 | .bool,.inl t=>match P.underlying t with|some .bool=>true|_=>false
 | .str,.inl t=>match P.underlying t with|some .string=>true|_=>false
 | .sl sz e,.inl t=>match P.underlying t with|some (.slice el)=>P.cellsOf el==sz&&decide (0<sz)&&e.size==sz&&Program.has P e (.inl el)|_=>false
 | .cons f r,.inl t=>match P.underlying t with
  | some (.struct fs)=>match fs.toList with
   | fd::rest=>P.cellsOf t==f.size+r.size&&fd.offset==0&&P.cellsOf fd.type==f.size&&Program.has P f (.inl fd.type)&&Program.has P r (.inr (rest,f.size))
   | []=>false
  | _=>false
 | .nil,.inr (fs,_)=>fs.isEmpty
 | .cons f r,.inr (fs,o)=>match fs with
  | fd::rest=>fd.offset==o&&P.cellsOf fd.type==f.size&&Program.has P f (.inl fd.type)&&Program.has P r (.inr (rest,o+f.size))
  | []=>false
 | _,_=>false
def Kall(w:World):KSet:=fun b o=>(w.cell? ⟨b,o,none⟩).isSome=true
def CellsC(w:World)(cs:List C)(vs:List Value):Prop:=vs.length=cs.length/\∀(j:Nat) c v,cs[j]? =some c->vs[j]? =some v->VC w (Kall w) c v
theorem CellsC.app{w:World}{a b:List C}{u v:List Value}(h:CellsC w a u)(k:CellsC w b v):CellsC w (a++b) (u++v):=by
 refine⟨by simp[h.1,k.1],fun j c x h1 h2=>?_⟩
 rw[List.getElem?_append]at h1 h2
 rw[h.1]at h2
 split at h1
 ·rename_i hj;rw[if_pos hj]at h2;exact h.2 j c x h1 h2
 ·rename_i hj;rw[if_neg hj]at h2;exact k.2 _ c x h1 h2
theorem CellsC.one{w:World}{c:C}{v:Value}(h:VC w (Kall w) c v):CellsC w [c] [v]:=
 ⟨rfl,fun j c' v' h1 h2=>by
  cases j with
  | zero=>simp at h1 h2;subst h1;subst h2;exact h
  | succ j=>simp at h1⟩
section
variable {P : Program} {H : Type} {enc : TypeId × Value -> H} {w : World} {sp : Nat -> Bool} {held : Bool}
theorem cells?_get{base:Nat}{a:Addr}{n:Nat}{vs:List Value}(h:w.cells? base a n=some vs):vs.length=n/\∀j,j<n->w.cell? (a.add j)=vs[j]? :=by
 unfold World.cells? at h
 split at h
 ·have hl:vs.length=n:=by
   have:=mapM_some_length h
   simpa using this
  refine⟨hl,fun j hj=>?_⟩
  have:=mapM_some_get h j j (by simp[hj])
  simpa using this
 ·cases h
end
end Go.Dl
namespace Go.Dl
open Go.RowKit Go.ChangeShapes Go.WideShapes Go.ChangeAt
theorem CellsC.one_inv{w:World}{c:C}{v:Value}(h:CellsC w [c] [v]):VC w (Kall w) c v:=h.2 0 c v rfl rfl
def ArgD(s:Sh)(a:Val s):D:=
 match s,s.enc a with
 | .cons _ _,cs=>.agg (cs.map T.c)
 | .nil,cs=>.agg (cs.map T.c)
 | _,[c]=>.one (.c c)
 | _,_=>.any
def qrL(w:World):Prop:=∀g vs,gtab g=some vs->∀(o:Nat) v,vs[o]? =some v->v.oneCell'=true/\w.cell? ⟨g,o,none⟩=some v
theorem qnE{P:Program}{f:FuncId}{ds:List D}(hc:DCalls P f ds (.one (.c (.lit (.bool true))))){w:World}{vs:Array Value}(hl:vs.size=ds.length)(hv: ∀(j:Nat) d v,ds[j]? =some d->vs[j]? =some v->VD w (E0 (Kall w)) d v)
  (ht:qrL w) (hz:GSz w:=by intro g hg;exact absurd hg (by simp[ztab])) (hE: ∀g∈etab,∃ev,w.cell? ⟨g,0,none⟩=some ev/\(ev= .nilIface\/∃te pe,ev= .iface te pe):=by intro g hg;exact absurd hg (by simp[etab])):Calls P f vs w fun e w'=>e= .returned (.bool true)/\Below w.heap.size w w':=by
 refine(hc.2 w (Kall w) vs ⟨fun b o h=>h,fun g vs hg o v hv=>?_,fun g hg=>?_,hz⟩ hl hv).mono ?_
 ·obtain⟨h1,h2⟩:=ht g vs hg o v hv
  exact⟨h1,by simp[Kall,h2],h2⟩
 ·obtain⟨ev,h1,h2⟩:=hE g hg
  exact⟨by simp[Kall,h1],ev,h1,h2⟩
 rintro e w' ⟨v,E',rfl,hr,hvd⟩
 exact⟨by rw[hvd.lit],hr.below⟩
end Go.Dl
namespace Go.Dl
open Go.RowKit
section
variable {P : Program}
theorem kc{id:Nat}{l:List Oper}{s:DS}{Q:Exit->DS->Prop}{N:Nat}(h:wk P (l.map (·.dst)) (tagS l) s (Q .normal))(hn:s.n=N:=by rfl)(hb:dstB l N=true:=by kernel_rfl):DW P (.region id l.toArray false) s Q:=dw_reg hn hb h
theorem kj{id:Nat}{l:List Oper}{s:DS}{Q:Exit->DS->Prop}{N:Nat}{l':List (Mode×Oper)}(pl:Nat->List (Nat×Mode))(h:wk P (l.map (·.dst)) l' s (Q .normal))(hm:P.follows .mixedOrders=true:=by kernel_rfl)(hn:s.n=N:=by rfl)
  (hc:qj1 l N (pl id)=true:=by kernel_rfl) (hp:Picks l (pl id) l':=by repeat(first|exact Picks.nil|(apply Picks.cons;rfl))):DW P (.region id l.toArray true) s Q:=dw_drw (pl id) hm hn hc hp h
variable {o : Oper} {args : List D} {s : DS} {dst : Option Nat} {ds : List (Option Nat)} {l : List (Mode × Oper)} {K : DS -> Prop} {g : FuncId} {es : List D} {r : D} {caps : List C}
theorem kw(hc:DCalls P g es r)(hk:wk P ds l (QG s dst r) K)(hle:LeL (args.map D.cl++caps.map fun c=>D.one (.c c)) es:=by exact LeL.of_eq rfl):CallC .step P o (.one (.c (.fn g caps))) args s dst ds l K:=CallC.mk hc hle hk
theorem kv(hc:DCalls P g es r)(hk:wk P ds l (s.put dst r.cl) K)(hle:LeL (args.map D.cl++caps.map fun c=>D.one (.c c)) es:=by exact LeL.of_eq rfl):CallC .light P o (.one (.c (.fn g caps))) args s dst ds l K:=CallC.light hc hle hk
def putK(md:Mode)(s:DS)(dst:Option Nat)(r:D):DS:=match md with
 | .step=>QG s dst r
 | _=>s.put dst r.cl
theorem qmT(s:DS)(dst:Option Nat)(r:D):putK .step s dst r=QG s dst r:=rfl
theorem qkS(s:DS)(dst:Option Nat)(r:D):putK .light s dst r=s.put dst r.cl:=rfl
def Mode.calls:Mode->Bool
 | .step| .light=>true
 | _=>false
theorem kx{md:Mode}(hc:DCalls P g es r)(hk:wk P ds l (putK md s dst r) K)(hle:LeL (args.map D.cl++caps.map fun c=>D.one (.c c)) es:=by exact LeL.of_eq rfl)(hm:md.calls=true:=by rfl):CallC md P o (.one (.c (.fn g caps))) args s dst ds l K:=by
 cases md with
 | step=>exact CallC.mk hc hle hk
 | light=>exact CallC.light hc hle hk
 | _=>cases hm
attribute [go_sem] qmT qkS
theorem kd{f:FuncId}{fn:Func}{c:Code}{ds':List D}{N:Nat}{rs:List ResultVar}(hf:P.funcs[f]? =some fn)(h:DW P c (Zd N ds' qc) (fun e s'=>(e= .normal\/e= .ret)/\resD P s' rs=some r))(hp:Program.plainF P f=true:=by kernel_rfl)
  (hb:fn.body=some c:=by rfl) (hN:fn.ntmps=N:=by rfl) (hrs:fn.results.toList=rs:=by rfl) (hn:(decide (ds'.length<=N)&&decide (N<=100000))=true:=by simp):DCalls P f ds' r:=dcalls hp hf hb hN hrs hn h
theorem kz{p:Prop}{G:Prop}(h:p)(hn: ¬p:=by decide):G:=absurd h hn
def qiE(b:Bool)(A B:Prop):Prop:=(b=true->A)/\(b=false->B)
theorem condS_t(A B:Prop):qiE true A B=A:=by simp[qiE]
theorem condS_f(A B:Prop):qiE false A B=B:=by simp[qiE]
def qqQ(d:D)(A B:Prop):Prop:=∃b:Bool,d= .one (.c (.lit (.bool b)))/\qiE b A B
theorem qom(b:Bool)(A B:Prop):qqQ (.one (.c (.lit (.bool b)))) A B=qiE b A B:=by
 refine propext ⟨fun⟨b',h,k⟩=>?_,fun k=>⟨b,rfl,k⟩⟩
 injection h with h;injection h with h;injection h with h;injection h with h
 rw[h];exact k
theorem kg{c:Operand}{x y:Code}{s:DS}{Q:Exit->DS->Prop}(h:qqQ (s.ev c) (DW P x s Q) (DW P y s Q)):DW P (.cond c x y) s Q:=by
 obtain⟨b,h1,h2,h3⟩:=h
 exact dw_cond h1 h2 h3
theorem kh{b:Bool}{A B:Prop}(h1:b=true->A)(h2:b=false->B):qiE b A B:=⟨h1,h2⟩
attribute [go_sem] condS_t condS_f qom
theorem kl{s:DS}{N:Nat}{sls:List (Nat×D)}(hn:s.n=N:=by rfl)(h1:AllS s sls:=by simp (decide:=true) only[go_sem,reduceIte,reduceCtorEq,Nat.reduceEqDiff,Nat.reduceAdd,Nat.reduceMul,Nat.reduceSub,Nat.reduceLeDiff,Nat.reduceBEq])(h2: ∀k r,qc k=some r->s.bx k=some r:=by simp[qc]):s.Sub (kn N sls qc):=sub_kn hn h1 h2
theorem km{s:DS}{N:Nat}{sls:List (Nat×D)}{bxs:List (Nat×Rows)}(h2:AllB s bxs)(hn:s.n=N:=by rfl)(h1:AllS s sls:=by simp (decide:=true) only[go_sem,reduceIte,reduceCtorEq,Nat.reduceEqDiff,Nat.reduceAdd,Nat.reduceMul,Nat.reduceSub,Nat.reduceLeDiff,Nat.reduceBEq]):s.Sub (kn N sls (ml bxs)):=sub_ml hn h1 h2
theorem kcc{id:Nat}{l:List Oper}{s:DS}{Q:Exit->DS->Prop}(h:wk P (l.map (·.dst)) (tagS l) s (Q .normal))(hb:dstB l s.n=true:=by kernel_rfl):DW P (.region id l.toArray false) s Q:=dw_reg rfl hb h
theorem kjj{id:Nat}{l:List Oper}{s:DS}{Q:Exit->DS->Prop}{l':List (Mode×Oper)}(pl:Nat->List (Nat×Mode))(h:wk P (l.map (·.dst)) l' s (Q .normal))(hm:P.follows .mixedOrders=true:=by kernel_rfl)
  (hc:qj1 l s.n (pl id)=true:=by kernel_rfl) (hp:Picks l (pl id) l':=by repeat(first|exact Picks.nil|(apply Picks.cons;rfl))):DW P (.region id l.toArray true) s Q:=dw_drw (pl id) hm rfl hc hp h
structure StpD(P:Program)(c:Code) where
 f:DS->(Exit->DS->Prop)->Prop
 ok: ∀s Q,f s Q->DW P c s Q
instance iSeq(a b:Code):Inhabited (StpD P (.seq a b)):=⟨⟨fun s Q=>DW P a s (QM (fun s'=>DW P b s' Q) Q),fun _ _ h=>dw_seq h⟩⟩
instance iBlk(id:Nat)(a:Code):Inhabited (StpD P (.block id a)):=⟨⟨fun s Q=>DW P a s (zV id Q),fun _ _ h=>dw_block h⟩⟩
instance iSkp:Inhabited (StpD P .skip):=⟨⟨fun s Q=>Q .normal s,fun _ _ h=>dw_skip h⟩⟩
instance iExt(id:Nat):Inhabited (StpD P (.exit id)):=⟨⟨fun s Q=>Q (.exit id) s,fun _ _ h=>dw_exit h⟩⟩
instance iCnd(c:Operand)(x y:Code):Inhabited (StpD P (.cond c x y)):=⟨⟨fun s Q=>qqQ (s.ev c) (DW P x s Q) (DW P y s Q),fun _ _ h=>kg h⟩⟩
theorem kU{c:Code}{s:DS}{Q:Exit->DS->Prop} [i:Inhabited (StpD P c)](h:i.default.f s Q):DW P c s Q:=i.default.ok s Q h
theorem iSeq_f(a b:Code)(s:DS)(Q:Exit->DS->Prop):StpD.f (P:=P) (iSeq a b).default s Q=DW P a s (QM (fun s'=>DW P b s' Q) Q):=rfl
theorem iBlk_f(id:Nat)(a:Code)(s:DS)(Q:Exit->DS->Prop):StpD.f (P:=P) (iBlk id a).default s Q=DW P a s (zV id Q):=rfl
theorem iSkp_f(s:DS)(Q:Exit->DS->Prop):StpD.f (P:=P) iSkp.default s Q=Q .normal s:=rfl
theorem iExt_f(id:Nat)(s:DS)(Q:Exit->DS->Prop):StpD.f (P:=P) (iExt id).default s Q=Q (.exit id) s:=rfl
theorem iCnd_f(c:Operand)(x y:Code)(s:DS)(Q:Exit->DS->Prop):StpD.f (P:=P) (iCnd c x y).default s Q=qqQ (s.ev c) (DW P x s Q) (DW P y s Q):=rfl
attribute [go_sem] iSeq_f iBlk_f iSkp_f iExt_f iCnd_f
theorem kmm{s:DS}{N:Nat}{sls:List (Nat×D)}{bxs:List (Nat×Rows)}(hn:s.n=N:=by rfl)(h1:AllS s sls:=by simp (decide:=true) only[go_sem,reduceIte,reduceCtorEq,Nat.reduceEqDiff,Nat.reduceAdd,Nat.reduceMul,Nat.reduceSub,Nat.reduceLeDiff,Nat.reduceBEq])(h2:AllB s bxs:=by simp (decide:=true) only[go_sem,reduceIte,reduceCtorEq,Nat.reduceEqDiff,Nat.reduceAdd,Nat.reduceMul,Nat.reduceSub,Nat.reduceLeDiff,Nat.reduceBEq]):s.Sub (kn N sls (ml bxs)):=sub_ml hn h1 h2
theorem kmax:maxLen=9223372036854775807:=rfl
end
end Go.Dl
namespace Go.Dl
open Go.RowKit
noncomputable section
def botD:D:=.one (.c (.lit (.agg #[])))
theorem botD_no{w:World}{E:Env}{v:Value}: ¬VD w E botD v:=by
 intro h
 unfold botD at h
 cases h with|one t v h=>cases h with|c c v h=>cases h with|lit v h=>simp[Value.oneCell']at h
def dbl:List (List D)->List (List D)
 | []=>[]
 | x::l=>[botD]::x::dbl l
theorem qix: ∀(xs:List (List D)) (k:Nat),(dbl xs)[2*k+1]? =xs[k]?
 | [],k=>by simp[dbl]
 | x::l,0=>by simp[dbl]
 | x::l,k+1=>by
  rw[show 2*(k+1)+1=(2*k+1)+1+1 by omega]
  simp only[dbl,yJ]
  exact qix l k
theorem qjY: ∀(xs:List (List D)) (k:Nat) (ds:List D),(dbl xs)[2*k]? =some ds->ds= [botD]
 | [],k,ds,h=>by simp[dbl]at h
 | x::l,0,ds,h=>by simp[dbl]at h;exact h.symm
 | x::l,k+1,ds,h=>by
  rw[show 2*(k+1)=(2*k)+1+1 by omega]at h
  simp only[dbl,yJ]at h
  exact qjY l k ds h
def strJ(J:Option Nat->World->KSet->Prop)(b:Nat)(s:ByteArray)(pos:Nat->Nat):Option Nat->World->KSet->Prop
 | none,w,K=>J none w K
 | some m,w,K=>J (some (m / 2)) w K/\w.heap[b]? =some (.stringIter s (pos ((m+1) / 2)))
def half:Option Nat->Option Nat:=Option.map (· / 2)
theorem qnZ(k:Nat):half (some (2*k))=some k:=by simp[half]
theorem qmf{J:Option Nat->World->KSet->Prop}{b:Nat}{s:ByteArray}{pos:Nat->Nat}{g:Option Nat}{w:World}{K:KSet}(h:strJ J b s pos g w K):J (half g) w K:=by
 cases g with
 | none=>exact h
 | some m=>exact h.1
section
variable {P : Program} {m n : Nat} {J : Option Nat -> World -> KSet -> Prop} {s : DS} {g ro : Option Nat} {Q : Exit -> DS -> Option Nat -> Prop}
theorem qpk(hJ:Stab n J){n' b:Nat}{str:ByteArray}{pos:Nat->Nat}(hn:n<=n')(hb:b<n'):Stab n' (strJ J b str pos):=fun g A B L L' h hu hL=>by
 cases g with
 | none=>exact hJ _ A B L L' h (hu.mono hn) hL
 | some m=>exact⟨hJ _ A B L L' h.1 (hu.mono hn) hL,(hu.old b hb).trans h.2⟩
theorem qkc{l:Nat}{xs:List (List D)}(hY:Q3 P m n J l xs){n' b:Nat}{str:ByteArray}{pos:Nat->Nat}(hn:n<=n')(hb:m<=b):Q3 P m n' (strJ J b str pos) l (dbl xs):=by
 refine⟨hY.1,fun k ds W L va h1 h2 h3 h4 h5=>?_⟩
 rcases Nat.mod_two_eq_zero_or_one k with hk|hk
 ·obtain⟨j,rfl⟩: ∃j,k=2*j:=⟨k / 2,by omega⟩
  have:=qjY xs j ds h1
  subst this
  have hv:=h5 0 botD (va[0]'(by simp at h4;omega)) rfl (wY _)
  exact absurd hv botD_no
 ·obtain⟨j,rfl⟩: ∃j,k=2*j+1:=⟨k / 2,by omega⟩
  rw[qix]at h1
  have e1:(2*j+1) / 2=j:=by omega
  have e2:(2*j+1+1) / 2=j+1:=by omega
  have e3:(2*j+1+1+1) / 2=j+1:=by omega
  obtain⟨q1,q2⟩:=h2
  rw[e1]at q1
  rw[e2]at q2
  obtain⟨fn,tmps,assign,body,hy,hr⟩:=hY.2 j ds W L va h1 q1 (wD hn h3) h4 h5
  refine⟨fn,tmps,assign,body,hy,hr.mono ?_⟩
  rintro e W' ⟨b',rfl,r1,r2⟩
  refine⟨b',rfl,?_,r2.size,r2.cells,fun c ob hc=>r2.others c ob hc,r2.z⟩
  cases b' with
  | false=>exact r1
  | true=>
   simp only[if_true]at r1 ⊢
   refine⟨by rw[e2];exact r1,?_⟩
   rw[e3]
   exact r2.others b _ hb q2 (by simp)
def itD(b:Nat):D:=.one (.c (.lit (.pointer (some ⟨b,0,none⟩))))
theorem qgD(hJ:Stab n J){l:Nat}{xs:List (List D)}(hY:Q3 P m n J l xs){id:Nat}{pre:List Oper}{o:Oper}{t:TypeId}{x:Operand}{d:Nat}{y:Code}{str:ByteArray}(pos:Nat->Nat)(h0:pos 0=0)
  (hop:o.op= .range t x) (hg:o.guard=none) (qeo:o.dst=some d) (hu:P.underlying t=some .string) (hb:dstB (pre++[o]) s.n=true)
  (h:wk P ((pre++[o]).map (·.dst)) (tagS pre) s.bare fun s1=>s1.flat.ev x= .one (.c (.lit (.string str)))/\
   ∀b n' J',Stab n' J'->Q3 P m n' J' l (dbl xs)->J'=strJ J b str pos->n<=b->b<n'->IW P m n' J' ro y (s1.flat.put (some d) (itD b)) (some 0) (fun e s g=>Q e s (half g))):
  IW P m n J ro (.seq (.region id (pre++[o]).toArray false) y) s (some 0) Q:=by
 intro K a w hf hj
 refine wpIn_seq ?_
 have hol:o∈pre++[o]:=by simp
 refine wpIn_region_lit ?_
 refine Q6 (X:=⟨w,K,fun _ _=>False,(E0 K).ρ,NB,ro,m⟩) (N:=s.n) (ops:=pre++[o]) (fun s1 a1 w1 hn1 hs1 hr1=>?_) pre s.bare a w (Qx hb fun x hx=>List.mem_append_left _ hx) rfl ⟨_,hf.rel ro⟩ (zS _ _ h)
 obtain⟨K1,q1,q2,q3⟩:=Qa hf hJ hj hr1
 obtain⟨hx,hy⟩:=hs1
 obtain⟨h00,h11,_⟩:=QY (Qx hb (l':=[o]) fun x hx=>List.mem_append_right _ hx)
 have hd:d<s1.flat.n:=by rw[show s1.flat.n=s.n from hn1];exact h11 d qeo
 refine wpListIn_step fun K' hK'=>?_
 have hwant:vR (pre++[o]) s1.flat.bare o=some true:=by simp[vR,hg]
 rw[v6 hwant ⟨_,q1.rel ro⟩]
 simp only[if_true]
 have hev:=q1.ev x
 rw[hx]at hev
 have hxv:a1.eval x= .string str:=hev.lit
 have vi:(execOp a1.eval o).run P w1= .ok (.value (.pointer (some ⟨w1.heap.size,0,none⟩))) (w1.iter str 0):=by
  unfold execOp
  simp[hop,hxv,Sem.run_bind,run_range_string w1 t str hu]
 refine zo h00 (vu vi ?_)
 refine hK' _ _ (wpListIn_nil ?_)
 have hush:Hush w1.heap.size w1 (w1.iter str 0):=Hush.alloc _ (wv _)
 have hush':Hush n w1 (w1.iter str 0):=hush.mono q1.mrk
 have qlS:=hush.ext q1.kok (fun _ _ h=>h)
 have hsz:(w1.iter str 0).heap.size=w1.heap.size+1:=by simp[World.iter]
 have hf2:Flat m n (s1.flat.put (some d) (itD w1.heap.size)) K1 (a1.put o.dst (.pointer (some ⟨w1.heap.size,0,none⟩))) (w1.iter str 0):=by
  rw[qeo]
  refine q1.put (fun b o hb=>(qlS b o hb).2) (by omega) (q1.kok.z.hush hush) (fun D hD hh=>?_) (fun e he=>by injection he with he;subst he;exact hd) (.one _ _ (.c _ _ (.lit _ rfl)))
  have hlt:D<w1.heap.size:=(wF.1 hh).1
  exact(hush.old D hlt).trans hh
 have hnb:n<=w1.heap.size:=q1.mrk
 have hmn:=q1.mn
 have hj2:strJ J w1.heap.size str pos (some 0) (w1.iter str 0) K1:=⟨hJ _ w1 _ K1 K1 q2 hush' fun b o h=>.inl h,by rw[show pos ((0+1) / 2)=0 from h0];exact World.iter_heap w1 str 0⟩
 have hf3:Flat m (w1.heap.size+1) (s1.flat.put (some d) (itD w1.heap.size)) K1 (a1.put o.dst (.pointer (some ⟨w1.heap.size,0,none⟩))) (w1.iter str 0):=by
  obtain⟨r1,r2,r3,r4,r5,r6,r7⟩:=hf2
  exact⟨r1,r2,r3,r4,by omega,by omega,r7⟩
 have:=hy w1.heap.size (w1.heap.size+1) _ (qpk hJ (by omega) (Nat.lt_succ_self _)) (qkc hY (by omega) (by omega)) rfl (by omega) (by omega) K1 _ _ hf3 hj2
 refine wpIn_mono this ?_
 rintro e a' w' ⟨s',g',K',z1,z2,z3,z4⟩
 obtain⟨r1,r2,r3,r4,r5,r6,r7⟩:=z2
 exact⟨s',half g',K',z1,⟨r1,r2,r3,r4,by omega,q1.mn,r7⟩,qmf z3,q3.trans (qlS.trans z4)⟩
def nextD(b:Nat)(str:ByteArray)(pos:Nat->Nat)(o:Oper)(s:DS)(g:Option Nat)(K:DS->Option Nat->Prop):Prop:=
 ∃it k,o.op= .next it true/\o.guard=none/\s.ev it=itD b/\g=some (2*k)/\
  (pos k<str.size->pos (k+1)=pos k+(Utf8.decode str (pos k)).2/\
   K (s.put o.dst (.tup [.one (.c (.lit (.bool true))),.one (.c (.lit (.int .i64 (pos k)))),.one (.c (.lit (.int .i32 (Utf8.decode str (pos k)).1)))])) (some (2*k+1)))/\
  (¬pos k<str.size->K (s.put o.dst (.tup [.one (.c (.lit (.bool false)))])) (some (2*k)))
theorem qhN(w:World)(b:Nat)(str:ByteArray)(q:Nat)(ty:TypeId)(hh:w.heap[b]? =some (.stringIter str q))(h:q<str.size):
  (Instr.next (.pointer (some ⟨b,0,none⟩)) true ty).run P w= .ok (.tuple #[.bool true,.int .i64 q,.int .i32 (Utf8.decode str q).1]) (w.putObj b (.stringIter str (q+(Utf8.decode str q).2))):=by
 simp[Instr.next,getObj,setObj,Sem.run_bind,Sem.run,hh,Result.andThen,h,goInt,World.putObj]
theorem qeQ(w:World)(b:Nat)(str:ByteArray)(q:Nat)(ty:TypeId)(hh:w.heap[b]? =some (.stringIter str q))(h: ¬q<str.size):
  (Instr.next (.pointer (some ⟨b,0,none⟩)) true ty).run P w= .ok (.tuple #[.bool false]) w:=by
 simp[Instr.next,getObj,Sem.run_bind,Sem.run,hh,Result.andThen,h]
theorem next_ok{n0 b:Nat}{str:ByteArray}{pos:Nat->Nat}(hJ0:Stab n0 J)(hnb:n0<=b){ops r:List Oper}{o:Oper}{N:Nat}{Kp:DS->Option Nat->Prop}{Q':Exit->Act->World->Prop}{K0:KSet}{w0:World}
  (hK: ∀s g K a w,s.n=N->Kp s g->Flat m n s K a w->strJ J b str pos g w K->Ext w0 K0 w K->wpListIn (rd ro) 0 P ops.toArray Q' r a w) {K:KSet} {a:Act} {w:World} (hb:dstB [o] N=true) (hn:s.n=N) (hf:Flat m n s K a w) (hj:strJ J b str pos g w K) (he:Ext w0 K0 w K)
  (h:nextD b str pos o s g Kp):wpListIn (rd ro) 0 P ops.toArray Q' (o::r) a w:=by
 obtain⟨h0,h1,_⟩:=QY hb
 have hd: ∀d,o.dst=some d->d<s.n:=fun d hd=>by rw[hn];exact h1 d hd
 refine wpListIn_step fun K' hK'=>?_
 obtain⟨it,k,hop,hg,hev,rfl,hin,hout⟩:=h
 have hwant:vR ops s.bare o=some true:=by simp[vR,hg]
 rw[v6 hwant ⟨_,hf.rel ro⟩]
 simp only[if_true]
 have hv:=hf.ev it
 rw[hev]at hv
 have hit:a.eval it= .pointer (some ⟨b,0,none⟩):=hv.lit
 obtain⟨j1,j2⟩:=hj
 have e1:2*k / 2=k:=by omega
 have e2:(2*k+1) / 2=k:=by omega
 have e3:(2*k+1+1) / 2=k+1:=by omega
 rw[e1]at j1
 rw[e2]at j2
 by_cases hlt:pos k<str.size
 ·obtain⟨hp,hKp⟩:=hin hlt
  have vi:(execOp a.eval o).run P w= .ok (.value (.tuple #[.bool true,.int .i64 (pos k),.int .i32 (Utf8.decode str (pos k)).1])) (w.putObj b (.stringIter str (pos k+(Utf8.decode str (pos k)).2))):=by
   unfold execOp
   simp[hop,hit,Sem.run_bind,qhN w b str (pos k) _ j2 hlt]
  have hu:Hush n0 w (w.putObj b (.stringIter str (pos k+(Utf8.decode str (pos k)).2))):=Hush.putObj _ hnb j2 (by simp)
  have qlS:=hu.ext hf.kok (fun _ _ h=>h)
  refine zo h0 (vu vi ?_)
  refine hK' _ _ (hK _ _ K _ _ (by rw[za];exact hn) hKp (hf.put (fun c o hc=>(qlS c o hc).2) hu.size (hf.kok.z.hush hu) (fun D _ hh=>?_) hd ?_) ⟨by rw[e2];exact hJ0 _ w _ K K j1 hu fun b o h=>.inl h,?_⟩ (he.trans qlS))
  ·have:D≠b:=fun e=>by rw[e,j2]at hh;cases hh
   exact(World.putObj_heap_other this).trans hh
  ·refine .tup _ _ rfl fun j d v h1 h2=>?_
   match j with
   | 0=>simp at h1 h2;subst h1;subst h2;exact .one _ _ (.c _ _ (.lit _ rfl))
   | 1=>simp at h1 h2;subst h1;subst h2;exact .one _ _ (.c _ _ (.lit _ rfl))
   | 2=>simp at h1 h2;subst h1;subst h2;exact .one _ _ (.c _ _ (.lit _ rfl))
   | j+3=>simp at h1
  ·rw[e3,hp]
   exact World.putObj_heap_same (wF.1 j2).1
 ·have vi:(execOp a.eval o).run P w= .ok (.value (.tuple #[.bool false])) w:=by
   unfold execOp
   simp[hop,hit,Sem.run_bind,qeQ w b str (pos k) _ j2 hlt]
  refine zo h0 (vu vi ?_)
  refine hK' _ _ (hK _ _ K _ _ (by rw[za];exact hn) (hout hlt) (hf.put (fun _ _ _=>rfl) (wv _) hf.kok.z (fun _ _ h=>h) hd ?_) ⟨by rw[e1];exact j1,by rw[e2];exact j2⟩ he)
  refine .tup _ _ rfl fun j d v h1 h2=>?_
  match j with
  | 0=>simp at h1 h2;subst h1;subst h2;exact .one _ _ (.c _ _ (.lit _ rfl))
  | j+1=>simp at h1
theorem qdR{n0 b:Nat}{str:ByteArray}{pos:Nat->Nat}(hJ0:Stab n0 J)(hnb:n0<=b)(hJ:Stab n (strJ J b str pos)){id:Nat}{ops:List Oper}(i:Nat){o:Oper}(ho:ops[i]? =some o)(hb:dstB ops s.n=true)
  (h:wk P (ops.map (·.dst)) (tagS (ops.take i)) s.bare fun s1=>nextD b str pos o s1.flat g fun s2 g2=>wk P (ops.map (·.dst)) (tagS (ops.drop (i+1))) s2.bare fun s3=>Q .normal s3.flat g2):IW P m n (strJ J b str pos) ro (.region id ops.toArray false) s g Q:=by
 intro K a w hf hj
 have hi:i<ops.length:=(wd.1 ho).1
 have hsp:ops=ops.take i++(o::ops.drop (i+1)):=by
  have:o=ops[i]:=by rw[wc hi]at ho;injection ho with ho;exact ho.symm
  rw[this,<-List.drop_eq_getElem_cons hi,wS]
 have hol:o∈ops:=wl ho
 refine wpIn_region_lit ?_
 conv=>arg 6;rw[hsp]
 refine Q6 (X:=⟨w,K,fun _ _=>False,(E0 K).ρ,NB,ro,m⟩) (N:=s.n) (fun s1 a1 w1 hn1 hs1 hr1=>?_) (ops.take i) s.bare a w (Qx hb fun x hx=>List.mem_of_mem_take hx) rfl ⟨_,hf.rel ro⟩ (zS _ _ h)
 obtain⟨K1,q1,q2,q3⟩:=Qa hf hJ hj hr1
 refine next_ok (s:=s1.flat) (N:=s.n) (w0:=w) (K0:=K) hJ0 hnb (fun s2 g2 K2 a2 w2 hn2 hs2 hf2 hj2 he2=>?_) (Qx hb fun x hx=>by simp at hx;exact hx▸hol) hn1 q1 q2 q3 hs1
 have:=Q6 (X:=⟨w2,K2,fun _ _=>False,(E0 K2).ρ,NB,ro,m⟩) (N:=s.n) (r:=[]) (Q':=fun e a' w'=>∃s' g' K',Q e s' g'/\Flat m n s' K' a' w'/\strJ J b str pos g' w' K'/\Ext w K w' K') (fun s3 a3 w3 _ hs3 hr3=>?_) (ops.drop (i+1)) s2.bare a2 w2 (Qx hb fun x hx=>List.mem_of_mem_drop hx) hn2 ⟨_,hf2.rel ro⟩ (zS _ _ hs2)
 ·rw[List.append_nil]at this;exact this
 ·obtain⟨K3,p1,p2,p3⟩:=Qa hf2 hJ hj2 hr3
  exact wpListIn_nil ⟨_,g2,K3,hs3,p1,p2,he2.trans p3⟩
end
end
end Go.Dl
namespace Go.Dl
open Go.RowKit Go.ChangeShapes Go.WideShapes Go.ChangeAt
def qY:(s:Sh)->Val s->Nat
 | .int _,_=>1
 | .bool,_=>1
 | .str,s=>(show ByteArray from s).size+1
 | .sl _ e,l=>1+((show List (Val e) from l).map (qY e)).sum
 | .nil,_=>0
 | .cons f r,x=>qY f x.1+qY r x.2
structure IsBulk{H:Type}(B:DataW H->Nat):Prop where
 pos: ∀d,1<=B d
 str: ∀bs:List UInt8,bs.length+1<=B (.lit (.string bs))
 sl: ∀es ss:List (DataW H),1+(es.map B).sum<=B (.slice es ss)
 agg: ∀ps:List (DataW H),(ps.map B).sum<=B (.agg ps)
section
variable {P : Program} {H : Type} {enc : TypeId × Value -> H} {w : World} {sp : Nat -> Bool} {held : Bool}
theorem qi9{B:DataW H->Nat}(hB:IsBulk B):(s:Sh)->(∀(t:TypeId),Program.has P s (.inl t)=true->∀(fuel:Nat) (vs:List Value) x,DataW.trod enc P w 0 sp held fuel t vs=some x->∃a:Val s,s.ok a/\CellsC w (s.enc a) vs/\qY s a<=B x.1)/\
  (∀(fs:List Field) (o:Nat),Program.has P s (.inr (fs,o))=true->∀(fuel:Nat) (vs:List Value),∀ys:List (DataW H×List MemPlace),ys.length=fs.length->(∀(i:Nat) (f:Field),fs[i]? =some f->DataW.trod enc P w 0 sp held fuel f.type ((vs.drop f.offset).take (P.cellsOf f.type))=ys[i]?)->vs.length=o+s.size->
   ∃a:Val s,s.ok a/\CellsC w (s.enc a) (vs.drop o)/\qY s a<=(ys.map fun y=>B y.1).sum)
 | .int k=>by
  refine⟨fun t ht fuel vs x h=>?_,fun fs o h=>by simp[Program.has]at h⟩
  simp only[Program.has]at ht
  split at ht
  ·rename_i k' hu
   have hk:k'=k:=by simpa using ht
   subst hk
   obtain⟨n,rfl,_,hw⟩:=DataW.trod_int hu h
   exact⟨n,hw,CellsC.one (.lit _ rfl),hB.pos _⟩
  ·cases ht
 | .bool=>by
  refine⟨fun t ht fuel vs x h=>?_,fun fs o h=>by simp[Program.has]at h⟩
  simp only[Program.has]at ht
  split at ht
  ·rename_i hu
   obtain⟨b,rfl,_⟩:=DataW.trod_bool hu h
   exact⟨b,trivial,CellsC.one (.lit _ rfl),hB.pos _⟩
  ·cases ht
 | .str=>by
  refine⟨fun t ht fuel vs x h=>?_,fun fs o h=>by simp[Program.has]at h⟩
  simp only[Program.has]at ht
  split at ht
  ·rename_i hu
   obtain⟨s,rfl,rfl,hs⟩:=DataW.trod_string hu h
   exact⟨s,hs,CellsC.one (.lit _ rfl),by have:=hB.str s.data.toList;simp only[qY];simpa using this⟩
  ·cases ht
 | .sl sz e=>by
  refine⟨fun t ht fuel vs x h=>?_,fun fs o h=>by simp[Program.has]at h⟩
  simp only[Program.has]at ht
  split at ht
  ·rename_i el hu
   simp only[wu,beq_iff_eq,decide_eq_true_eq]at ht
   obtain⟨⟨⟨hc,vo⟩,hes⟩,he⟩:=ht
   rcases Go.Deep.open_slice hu h with⟨rfl,rfl⟩|⟨a,len,cap,m,n,D,Pl,rfl,hb,hl,hm,hmm,rfl,hx⟩
   ·exact⟨([]:List (Val e)),⟨by simp,by simp⟩,CellsC.one (.nil sz),hB.pos _⟩
   ·have hlm:len<=m:=by subst hmm;split<;>omega
    have each: ∀i,i<len->∃y:Val e,e.ok y/\∃cs',w.cells? 0 (a.add (i*sz)) sz=some cs'/\CellsC w (e.enc y) cs'/\qY e y<=B (D i):=fun i hi=>by
     obtain⟨cs',h1,h2⟩:=hx i (by omega)
     rw[hc]at h1
     obtain⟨y,hy,hy2⟩:=(qi9 hB e).1 el he n cs' _ h2
     exact⟨y,hy,cs',h1,hy2.1,hy2.2⟩
    have build: ∀k,k<=len->∃l:List (Val e),l.length=k/\(∀y∈l,e.ok y)/\(∀i y,l[i]? =some y->∃cs',w.cells? 0 (a.add (i*sz)) sz=some cs'/\CellsC w (e.enc y) cs')/\(l.map (qY e)).sum<=((List.range k).map fun i=>B (D i)).sum:=by
     intro k
     induction k with
     | zero=>exact fun _=>⟨[],rfl,by simp,by simp,by simp⟩
     | succ k ih=>
      intro hk
      obtain⟨l,h1,h2,h3,h6⟩:=ih (by omega)
      obtain⟨y,hy,cs',h4,h5,h7⟩:=each k (by omega)
      refine⟨l++[y],by simp[h1],fun z hz=>?_,fun i z hz=>?_,by simp[List.range_succ];omega⟩
      ·rcases List.mem_append.1 hz with hz|hz
       ·exact h2 z hz
       ·rw[yd.1 hz];exact hy
      ·rw[List.getElem?_append]at hz
       split at hz
       ·exact h3 i z hz
       ·rename_i hi
        have:i=k:=by
         rcases yg (i - l.length) 1 with h|h
         ·omega
         ·rw[wZ (by simpa using h)]at hz;cases hz
        subst this
        rw[h1,yM]at hz
        simp at hz;subst hz
        exact⟨cs',h4,h5⟩
    obtain⟨l,hll,hok,QF,hsum⟩:=build len (wv _)
    subst hll
    refine⟨l,⟨by show l.length<=_;omega,hok⟩,CellsC.one ?_,by have:=hB.sl ((List.range l.length).map D) ((List.range (m - l.length)).map fun j=>D (l.length+j));simp only[qY];rw[yw]at this;exact wD (Nat.add_le_add_left hsum 1) this⟩
    show VC w (Kall w) (.sl sz (l.map (Sh.enc e))) _
    have hlen:(l.map (Sh.enc e)).length=l.length:=by simp
    have hsplit: ∀j,j<l.length*sz->j / sz<l.length:=fun j hj=>Nat.div_lt_of_lt_mul (by rw[jg];exact hj)
    have hspot:0<l.length*sz->a.spot=none:=fun h0=>by
     have hi:0<l.length:=Nat.pos_of_mul_pos_right h0
     obtain⟨cs',h1,h2⟩:=QF 0 _ (wc hi)
     obtain⟨g1,g2⟩:=cells?_get h1
     have:=g2 0 vo
     rw[wc (by omega)]at this
     simpa[Addr.add]using World.cell?_spot this
    have hcv: ∀i j,i<l.length->j<sz->a.spot=none->∃y cs' v,l[i]? =some y/\cs'[j]? =some v/\CellsC w (e.enc y) cs'/\w.cell? ⟨a.block,a.off+(i*sz+j),none⟩=some v:=fun i j hi hj hs=>by
     obtain⟨cs',h1,h2⟩:=QF i _ (wc hi)
     obtain⟨g1,g2⟩:=cells?_get h1
     have h3:=g2 j hj
     have hcj:cs'[j]? =some (cs'[j]'(by omega)):=wc (by omega)
     have ha:a=⟨a.block,a.off,none⟩:=by cases a;simp at hs;subst hs;rfl
     rw[ha,qR,qR,hcj]at h3
     refine⟨_,cs',_,wc hi,hcj,h2,?_⟩
     rw[<-h3,yL]
    rw[show (Value.slice (some a) l.length cap)= .slice (some a) (l.map (Sh.enc e)).length cap by rw[hlen]]
    refine .sl sz _ a cap (fun j=>(w.cell? ⟨a.block,a.off+j,none⟩).getD undef) (fun r hr=>?_) (by rw[hlen];exact hl) hm (fun j hj=>?_) (fun i j r c hr hc=>?_)
    ·obtain⟨y,_,rfl⟩:=wI.1 hr
     rw[Sh.enc_len,hes]
    ·rw[hlen]at hj
     have hs:=hspot (by omega)
     obtain⟨y,cs',v,_,_,_,h⟩:=hcv (j / sz) (j % sz) (hsplit j hj) (Nat.mod_lt _ vo) hs
     have hd:=Nat.div_add_mod j sz
     rw[jg]at hd
     rw[hd]at h
     exact⟨hs,by simp[Kall,h],by simp[h]⟩
    ·rw[wq]at hr
     cases hy:l[i]? with
     | none=>rw[hy]at hr;cases hr
     | some y=>
      rw[hy]at hr;injection hr with hr;subst hr
      have hi:i<l.length:=(wd.1 hy).1
      have hj:j<sz:=by
       have:=(wd.1 hc).1
       rw[Sh.enc_len,hes]at this;exact this
      have hs:=hspot (Nat.mul_pos (by omega) vo)
      obtain⟨y',cs',v,h1,h2,h3,h4⟩:=hcv i j hi hj hs
      rw[hy]at h1;injection h1 with h1;subst h1
      have:=h3.2 j c v hc h2
      simpa[h4]using this
  ·cases ht
 | .nil=>by
  refine⟨fun t ht=>by simp[Program.has]at ht,fun fs o h fuel vs ys hy hf hl=>⟨(),trivial,?_,ye _⟩⟩
  simp[Sh.size]at hl
  exact⟨by simp[Sh.enc,hl],fun j c v h=>by simp[Sh.enc]at h⟩
 | .cons f r=>by
  have key: ∀(fs:List Field) (o:Nat) fd rest,fs=fd::rest->fd.offset=o->P.cellsOf fd.type=f.size->Program.has P f (.inl fd.type)=true->Program.has P r (.inr (rest,o+f.size))=true->
    ∀(fuel:Nat) (vs:List Value),∀ys:List (DataW H×List MemPlace),ys.length=fs.length->(∀(i:Nat) (f:Field),fs[i]? =some f->DataW.trod enc P w 0 sp held fuel f.type ((vs.drop f.offset).take (P.cellsOf f.type))=ys[i]?)->vs.length=o+(Sh.cons f r).size->
    ∃a:Val (.cons f r),Sh.ok (.cons f r) a/\CellsC w (Sh.enc (.cons f r) a) (vs.drop o)/\qY (.cons f r) a<=(ys.map fun y=>B y.1).sum:=fun fs o fd rest e1 e2 e3 e4 e5 fuel vs ys hyl hf hl=>by
   subst e1
   cases ys with
   | nil=>simp at hyl
   | cons y ys=>
   have hy:=hf 0 fd rfl
   rw[e2,e3]at hy
   obtain⟨a,ha,hca,hsa⟩:=(qi9 hB f).1 _ e4 fuel _ y hy
   simp only[Sh.size]at hl
   obtain⟨b,hb,hcb,hsb⟩:=(qi9 hB r).2 rest (o+f.size) e5 fuel vs ys (by simpa using hyl) (fun i g hg=>by simpa using hf (i+1) g (by simpa using hg)) (by omega)
   refine⟨(a,b),⟨ha,hb⟩,?_,by simp only[qY,wt,List.sum_cons];omega⟩
   have:vs.drop o=(vs.drop o).take f.size++vs.drop (o+f.size):=by
    rw[<-List.drop_drop,wS]
   rw[this]
   exact hca.app hcb
  refine⟨fun t ht fuel vs x h=>?_,fun fs o h fuel vs ys hyl hf hl=>?_⟩
  ·simp only[Program.has]at ht
   split at ht
   ·rename_i fa hu
    split at ht
    ·rename_i fd rest hfs
     simp only[wu,beq_iff_eq]at ht
     obtain⟨⟨⟨⟨h1,h2⟩,h3⟩,h4⟩,h5⟩:=ht
     obtain⟨xs,n,_,rfl,hlen,hxl,hx⟩:=DataW.trod_struct hu h
     obtain⟨a,q1,q2,q3⟩:=key fa.toList 0 fd rest hfs h2 h3 h4 (by simpa using h5) n vs xs (by simpa using hxl) (fun i g hg=>hx i g (by simpa using hg)) (by simp only[Sh.size];omega)
     refine⟨a,q1,by simpa using q2,wD q3 ?_⟩
     have:=hB.agg (xs.map (·.1))
     rw[yw]at this;exact this
    ·cases ht
   ·cases ht
  ·simp only[Program.has]at h
   split at h
   ·rename_i fd rest
    simp only[wu,beq_iff_eq]at h
    obtain⟨⟨⟨h2,h3⟩,h4⟩,h5⟩:=h
    exact key _ o fd rest rfl h2 h3 h4 h5 fuel vs ys hyl hf hl
   ·cases h
end
theorem qdF{P:Program}{H:Type}{enc:TypeId×Value->H}{B:DataW H->Nat}(hB:IsBulk B){w:World}{t:TypeId}{v:Value}{d:DataW H}{ps:List MemPlace}{base:Nat}(s:Sh)(hs:Program.has P s (.inl t)=true)
  (hok:Value.okWide P w .any base t v) (h:DataW.Trod enc P w 0 (fun _=>true) true t v d ps): ∃a:Val s,s.ok a/\VD w (E0 (Kall w)) (ArgD s a) v/\qY s a<=B d:=by
 obtain⟨fuel,hf⟩:=h
 obtain⟨a,ha,hc,hsz⟩:=(qi9 hB s).1 t hs fuel _ _ hf
 refine⟨a,ha,?_,hsz⟩
 have single: ∀c:C,s.enc a= [c]->(∃x,v=x/\x.cells= #[x])->VD w (E0 (Kall w)) (.one (.c c)) v:=fun c e ⟨x,e1,e2⟩=>by
  subst e1
  rw[e,e2]at hc
  exact .one _ _ (.c _ _ hc.one_inv)
 have aggr:(∃cs,v= .agg cs)->VD w (E0 (Kall w)) (.agg ((s.enc a).map T.c)) v:=fun⟨cs,e⟩=>by
  subst e
  have hcs:CellsC w (s.enc a) cs.toList:=hc
  refine .agg _ _ (by have:=hcs.1;simpa using this) fun j t v h1 h2=>?_
  rw[wq]at h1
  cases hx:(s.enc a)[j]? with
  | none=>rw[hx]at h1;cases h1
  | some c=>
   rw[hx]at h1;injection h1 with h1;subst h1
   exact .c _ _ (hcs.2 j c v hx (by simpa using h2))
 cases s with
 | int k=>
  simp only[Program.has]at hs
  split at hs
  ·rename_i k' hu
   obtain⟨n,rfl⟩:=okWide_int hu hok
   exact single _ rfl ⟨_,rfl,rfl⟩
  ·cases hs
 | bool=>
  simp only[Program.has]at hs
  split at hs
  ·rename_i hu
   obtain⟨n,rfl⟩:=okWide_bool hu hok
   exact single _ rfl ⟨_,rfl,rfl⟩
  ·cases hs
 | str=>
  simp only[Program.has]at hs
  split at hs
  ·rename_i hu
   obtain⟨n,rfl⟩:=okWide_string hu hok
   exact single _ rfl ⟨_,rfl,rfl⟩
  ·cases hs
 | sl sz e=>
  simp only[Program.has]at hs
  split at hs
  ·rename_i el hu
   obtain⟨x,len,cap,rfl⟩:=okWide_slice hu hok
   exact single _ rfl ⟨_,rfl,rfl⟩
  ·cases hs
 | nil=>simp[Program.has]at hs
 | cons f r=>
  simp only[Program.has]at hs
  split at hs
  ·rename_i fs hu
   simp only[Value.okWide,hu]at hok
   obtain⟨cs,rfl,_⟩:=hok
   exact aggr ⟨cs,rfl⟩
  ·cases hs
end Go.Dl
namespace Go.Dl
open Go.RowKit
noncomputable section
theorem ZL{w w':World}{K:KSet}(hk:KOk w K)(hb:Below w.heap.size w w'):KOk w' K:=
 hk.move (fun b o h=>hb.cell (p:=⟨b,o,none⟩) (qy (hk b o h))) (hk.z.below hb)
theorem qhc{P:Program}{f:FuncId}{ds:List D}{u:Value}(hp:Program.plainF P f=true)(hu:u.oneCell'=true)
  (h: ∀(w:World) (K:KSet) (vs:Array Value),KOk w K->vs.size=ds.length->(∀(j:Nat) d v,ds[j]? =some d->vs[j]? =some v->VD w (E0 K) d v)->Calls P f vs w fun e w'=>e= .returned u/\Below w.heap.size w w'):
  DCalls P f ds (.one (.c (.lit u))):=by
 refine⟨hp,fun w K vs hk hl hv=>(h w K vs hk hl hv).mono ?_⟩
 rintro e w' ⟨rfl,hb⟩
 have hns: ∀n b o,¬vX ((E0 K).val n) b o:=fun n b o ⟨a,len,cap,h1,_⟩=>by simp[E0]at h1
 exact⟨u,E0 K,rfl,⟨hb,fun _ _ h=>h,fun _ _ _ h=>h,ZL hk hb,fun n b o hs=>absurd hs (hns n b o),fun n m b o hs=>absurd hs (hns n b o)⟩,.one _ _ (.c _ _ (.lit _ hu))⟩
def qh8(Q:Exit->DS->Prop):Exit->DS->Prop
 | .goto _,_=>False
 | e,s=>Q e s
theorem qdQ(Q:Exit->DS->Prop)(s:DS):qh8 Q .normal s=Q .normal s:=rfl
theorem qh7(Q:Exit->DS->Prop)(s:DS):qh8 Q .ret s=Q .ret s:=rfl
theorem qgs(Q:Exit->DS->Prop)(id:Nat)(s:DS):qh8 Q (.exit id) s=Q (.exit id) s:=rfl
attribute [go_sem ↓] qdQ qh7 qgs
end
end Go.Dl
namespace Go.Dl
open Go.RowKit
noncomputable section
inductive PQ where
 | leaf
 | run (l:List Nat) (t:PQ)
 | two (i:Nat) (t:PQ) (j:Nat) (u:PQ)
 | thr (i:Nat) (t:PQ) (j:Nat) (u:PQ) (k:Nat) (v:PQ)
def PQ.wk(P:Program)(ops:List Oper)(hd:List Nat)(ds:List (Option Nat)):PQ->DS->(DS->Prop)->Prop
 | .leaf,s,K=>K s
 | .run l t,s,K=>Go.Dl.wk P ds (qT ops hd l) s fun s'=>t.wk P ops hd ds s' K
 | .two i t j u,s,K=>(Go.Dl.wk P ds (qT ops hd [i]) s fun s'=>t.wk P ops hd ds s' K)/\Go.Dl.wk P ds (qT ops hd [j]) s fun s'=>u.wk P ops hd ds s' K
 | .thr i t j u k v,s,K=>(Go.Dl.wk P ds (qT ops hd [i]) s fun s'=>t.wk P ops hd ds s' K)/\(Go.Dl.wk P ds (qT ops hd [j]) s fun s'=>u.wk P ops hd ds s' K)/\Go.Dl.wk P ds (qT ops hd [k]) s fun s'=>v.wk P ops hd ds s' K
section
variable {P : Program}
theorem qmY(ops:List Oper)(hd:List Nat)(ds:List (Option Nat))(s:DS)(K:DS->Prop):PQ.leaf.wk P ops hd ds s K=K s:=rfl
theorem qp2(ops:List Oper)(hd:List Nat)(ds:List (Option Nat))(l:List Nat)(t:PQ)(s:DS)(K:DS->Prop):(PQ.run l t).wk P ops hd ds s K=Go.Dl.wk P ds (qT ops hd l) s fun s'=>t.wk P ops hd ds s' K:=rfl
theorem qp0(ops:List Oper)(hd:List Nat)(ds:List (Option Nat))(i j:Nat)(t u:PQ)(s:DS)(K:DS->Prop):(PQ.two i t j u).wk P ops hd ds s K=((Go.Dl.wk P ds (qT ops hd [i]) s fun s'=>t.wk P ops hd ds s' K)/\Go.Dl.wk P ds (qT ops hd [j]) s fun s'=>u.wk P ops hd ds s' K):=rfl
theorem qp1(ops:List Oper)(hd:List Nat)(ds:List (Option Nat))(i j k:Nat)(t u v:PQ)(s:DS)(K:DS->Prop):(PQ.thr i t j u k v).wk P ops hd ds s K=((Go.Dl.wk P ds (qT ops hd [i]) s fun s'=>t.wk P ops hd ds s' K)/\(Go.Dl.wk P ds (qT ops hd [j]) s fun s'=>u.wk P ops hd ds s' K)/\Go.Dl.wk P ds (qT ops hd [k]) s fun s'=>v.wk P ops hd ds s' K):=rfl
attribute [go_sem] qmY qp2 qp0 qp1
end
end
end Go.Dl
namespace Go.Dl
open Go.RowKit
noncomputable section
inductive TLeL:List T->List T->Prop where
 | nil:TLeL [] []
 | same (t:T) {l l':List T} (h:TLeL l l'):TLeL (t::l) (t::l')
 | none (sz:Nat) {l l':List T} (h:TLeL l l'):TLeL (.c (.lit (.slice Option.none 0 0))::l) (.c (.sl sz [])::l')
theorem TLeL.refl_: ∀l:List T,TLeL l l
 | []=>.nil
 | t::l=>.same t (TLeL.refl_ l)
inductive PR where
 | leaf
 | run (l:List Nat) (t:PR)
 | bl (i:Nat) (t:PR)
 | ex (i:Nat) (t:PR)
 | dia (i j:Nat) (t:PR)
 | here (a:Array Bool) (t:PR)
 | two (i:Nat) (t:PR) (j:Nat) (u:PR)
 | thr (i:Nat) (t:PR) (j:Nat) (u:PR) (k:Nat) (v:PR)
def PR.len:PR->Nat
 | .leaf=>0
 | .run l t=>l.length+t.len
 | .bl _ t=>1+t.len
 | .ex _ t=>1+t.len
 | .dia _ _ t=>2+t.len
 | .here _ t=>t.len
 | .two _ t _ _=>1+t.len
 | .thr _ t _ _ _ _=>1+t.len
def qaP(o:Option Oper):Bool:=match o with
 | some o=>match o.op with
  | .extract _ _=>true
  | _=>false
 | none=>false
def qiS(ops:List Oper)(i j:Nat):Bool:=match ops[i]?,ops[j]? with
 | some oi,some oj=>oi.apart ops.toArray oj
 | _,_=>false
def PR.ok(ops:List Oper):PR->Array Bool->Bool
 | .leaf,listed=>(Region.ready .any ops.toArray listed).isEmpty
 | .run l t,listed=>qgc ops l listed&&t.ok ops (qbb l listed)
 | .bl i t,listed=>Region.free .any ops.toArray listed i&&(Region.ready .any ops.toArray listed).contains i&&(ops[i]?).isSome&&t.ok ops (listed.setIfInBounds i true)
 | .ex i t,listed=>Region.free .any ops.toArray listed i&&(Region.ready .any ops.toArray listed).contains i&&qaP ops[i]? &&t.ok ops (listed.setIfInBounds i true)
 | .dia i j t,listed=>(Region.ready .any ops.toArray listed== [i,j])&&(Region.ready .any ops.toArray (listed.setIfInBounds i true)== [j])&&(Region.ready .any ops.toArray (listed.setIfInBounds j true)== [i])&&qiS ops i j&&(i !=j)&&t.ok ops ((listed.setIfInBounds i true).setIfInBounds j true)
 | .here a t,listed=>(listed==a)&&t.ok ops a
 | .two i t j u,listed=>(Region.ready .any ops.toArray listed== [i,j])&&(ops[i]?).isSome&&(ops[j]?).isSome&&(t.len==u.len)&&t.ok ops (listed.setIfInBounds i true)&&u.ok ops (listed.setIfInBounds j true)
 | .thr i t j u k v,listed=>(Region.ready .any ops.toArray listed== [i,j,k])&&(ops[i]?).isSome&&(ops[j]?).isSome&&(ops[k]?).isSome&&(t.len==u.len)&&(t.len==v.len)&&t.ok ops (listed.setIfInBounds i true)&&u.ok ops (listed.setIfInBounds j true)&&v.ok ops (listed.setIfInBounds k true)
def PR.wk(P:Program)(ops:List Oper)(hd:List Nat)(ds:List (Option Nat)):PR->DS->(DS->Prop)->Prop
 | .leaf,s,K=>K s
 | .run l t,s,K=>Go.Dl.wk P ds (qT ops hd l) s fun s'=>t.wk P ops hd ds s' K
 | .bl i t,s,K=>Go.Dl.wk P ds (Z2 ops .blind [i]) s fun s'=>t.wk P ops hd ds s' K
 | .ex i t,s,K=>Go.Dl.wk P ds (Z2 ops .light [i]) s fun s'=>t.wk P ops hd ds s' K
 | .dia i j t,s,K=>Go.Dl.wk P ds (Z2 ops .light [i,j]) s fun s'=>t.wk P ops hd ds s' K
 | .here _ t,s,K=>t.wk P ops hd ds s K
 | .two i t j u,s,K=>(Go.Dl.wk P ds (qT ops hd [i]) s fun s'=>t.wk P ops hd ds s' K)/\Go.Dl.wk P ds (qT ops hd [j]) s fun s'=>u.wk P ops hd ds s' K
 | .thr i t j u k v,s,K=>(Go.Dl.wk P ds (qT ops hd [i]) s fun s'=>t.wk P ops hd ds s' K)/\(Go.Dl.wk P ds (qT ops hd [j]) s fun s'=>u.wk P ops hd ds s' K)/\Go.Dl.wk P ds (qT ops hd [k]) s fun s'=>v.wk P ops hd ds s' K
section
variable {P : Program}
theorem qfA{s:DS}{o:Oper}{x:Operand}{i:Nat}{ds:List D}{d:D}(ho:o.op= .extract x i)(hx:s.ev x= .tup ds)(hi:ds[i]? =some d):qbe P s o d:=fun X E a w hE=>by
 have hv:=hE.ev x
 rw[hx]at hv
 generalize he:a.eval x=v at hv
 cases hv with
 | tup _ vs hl hr=>
  have hlt:i<vs.size:=by rw[hl];exact(wd.1 hi).1
  exact⟨vs[i],fun w'=>by simp[execOp,ho,he,Instr.extract,hlt],hr i d _ hi (wY hlt)⟩
theorem qfs{s:DS}{o:Oper}{d:D}(h:qaP (some o)=true)(hq:QD P s.ev s.bx o.op (· =d)):qbe P s o d:=by
 obtain⟨dst,op,ty,pos,aft,g⟩:=o
 cases op with
 | extract x i=>
  simp only[QD]at hq
  split at hq
  ·rename_i ds hx
   split at hq
   ·rename_i d' hd
    subst hq
    exact qfA rfl hx hd
   ·exact hq.elim
  ·exact hq.elim
 | _=>simp[qaP]at h
theorem wk_AL{ops:List Oper}{o:Oper}{l:List (Mode×Oper)}{s:DS}{K:DS->Prop}(h:wk P (ops.map (·.dst)) ((.light,o)::l) s K):AL P ops o s fun s'=>wk P (ops.map (·.dst)) l s' K:=by
 have h:=Q5 h
 unfold GIs at h
 unfold AL
 split at h
 ·rename_i hw
  simp only[hw]
  cases h with
  | light d hq hk=>exact⟨d,hq,hk⟩
 ·rename_i hw
  simp only[hw]
  exact h
 ·exact h.elim
theorem qbs{ops:List Oper}{hd:List Nat}{N:Nat}(hb:dstB ops N=true)(hs:Region.noSelect ops.toArray=true){K:DS->Prop}: ∀(t:PR) (listed:Array Bool) (s:DS),t.ok ops listed=true->t.wk P ops hd (ops.map (·.dst)) s K->z7 P ops N K t.len listed s
 | .leaf,listed,s,hc,h=>qcq (by simpa[PR.ok]using hc) h
 | .run l t,listed,s,hc,h=>by
  simp only[PR.ok,wu]at hc
  exact qrm hb l listed s hc.1 h (fun s' h'=>qbs hb hs t _ s' hc.2 h') (qjf l listed hc.1)
 | .bl i t,listed,s,hc,h=>by
  simp only[PR.ok,wu]at hc
  obtain⟨⟨⟨h1,h2⟩,h3⟩,h4⟩:=hc
  have hl:(PR.bl i t).len=t.len+1:=by simp[PR.len];omega
  rw[hl]
  cases ho:ops[i]? with
  | none=>rw[ho]at h3;cases h3
  | some o=>
   simp only[PR.wk,Z2,ho]at h
   have h7:=Q5 h
   unfold GIs at h7
   split at h7
   ·rename_i hw
    cases h7 with
    | blind d hbl hk=>exact qba hb ho hs h1 h2 hw hbl (qbs hb hs t _ _ h4 hk)
   ·rename_i hw
    exact qfH hb ho hs h1 h2 hw (qbs hb hs t _ _ h4 h7)
   ·exact h7.elim
 | .ex i t,listed,s,hc,h=>by
  simp only[PR.ok,wu]at hc
  obtain⟨⟨⟨h1,h2⟩,h3⟩,h4⟩:=hc
  have hl:(PR.ex i t).len=t.len+1:=by simp[PR.len];omega
  rw[hl]
  cases ho:ops[i]? with
  | none=>rw[ho]at h3;cases h3
  | some o=>
   rw[ho]at h3
   simp only[PR.wk,Z2,ho]at h
   have h7:=Q5 h
   unfold GIs at h7
   split at h7
   ·rename_i hw
    cases h7 with
    | light d hq hk=>exact qba hb ho hs h1 h2 hw (qfs h3 hq) (qbs hb hs t _ _ h4 hk)
   ·rename_i hw
    exact qfH hb ho hs h1 h2 hw (qbs hb hs t _ _ h4 h7)
   ·exact h7.elim
 | .here a t,listed,s,hc,h=>by
  simp only[PR.ok,wu,beq_iff_eq]at hc
  obtain⟨rfl,h2⟩:=hc
  exact qbs hb hs t _ s h2 h
 | .dia i j t,listed,s,hc,h=>by
  simp only[PR.ok,wu,beq_iff_eq,bne_iff_ne]at hc
  obtain⟨⟨⟨⟨⟨h1,h2⟩,h3⟩,h4⟩,hne⟩,h5⟩:=hc
  have hl:(PR.dia i j t).len=(t.len+1)+1:=by simp[PR.len];omega
  rw[hl]
  unfold qiS at h4
  split at h4
  ·rename_i oi oj hi hj
   simp only[PR.wk,Z2,hi,hj]at h
   have g1:AL P ops oi s fun s1=>AL P ops oj s1 fun s2=>z7 P ops N K t.len ((listed.setIfInBounds i true).setIfInBounds j true) s2:=Qm (fun s1 q1=>Qm (fun s2 q2=>qbs hb hs t _ s2 h5 q2) (wk_AL q1)) (wk_AL h)
   have g2:=qiw h4 g1
   refine Zm hb h1 (by simp) fun k hk=>?_
   have hk':k=i\/k=j:=by simpa using hk
   rcases hk' with rfl|rfl
   ·exact⟨oi,hi,qbf (Qm (fun s1 q1=>Zm hb h2 (by simp) fun q hq=>by
     obtain rfl:q=j:=by simpa using hq
     exact⟨oj,hj,qbf q1⟩) g1)⟩
   ·refine⟨oj,hj,qbf (Qm (fun s1 q1=>Zm hb h3 (by simp) fun q hq=>?_) g2)⟩
    obtain rfl:q=i:=by simpa using hq
    rw[Array.setIfInBounds_comm _ _ hne]at q1
    exact⟨oi,hi,qbf q1⟩
  ·cases h4
 | .two i t j u,listed,s,hc,h=>by
  simp only[PR.ok,wu,beq_iff_eq]at hc
  obtain⟨⟨⟨⟨⟨h1,h2⟩,h3⟩,h4⟩,h5⟩,h6⟩:=hc
  have hl:(PR.two i t j u).len=t.len+1:=by simp[PR.len];omega
  rw[hl]
  refine Zm hb h1 (by simp) fun k hk=>?_
  have hk':k=i\/k=j:=by simpa using hk
  rcases hk' with rfl|rfl
  ·cases ho:ops[k]? with
   | none=>rw[ho]at h2;cases h2
   | some o=>
    have h7:=h.1
    simp only[qT,ho]at h7
    exact⟨o,rfl,vB (fun s' h'=>qbs hb hs t _ s' h5 h') (zF h7)⟩
  ·cases ho:ops[k]? with
   | none=>rw[ho]at h3;cases h3
   | some o=>
    have h7:=h.2
    simp only[qT,ho]at h7
    refine⟨o,rfl,vB (fun s' h'=>?_) (zF h7)⟩
    rw[h4]
    exact qbs hb hs u _ s' h6 h'
 | .thr i t j u k v,listed,s,hc,h=>by
  simp only[PR.ok,wu,beq_iff_eq]at hc
  obtain⟨⟨⟨⟨⟨⟨⟨⟨h1,h2⟩,h3⟩,h3'⟩,h4⟩,h4'⟩,h5⟩,h6⟩,h6'⟩:=hc
  have hl:(PR.thr i t j u k v).len=t.len+1:=by simp[PR.len];omega
  rw[hl]
  refine Zm hb h1 (by simp) fun q hq=>?_
  have hq':q=i\/q=j\/q=k:=by simpa using hq
  rcases hq' with rfl|rfl|rfl
  ·cases ho:ops[q]? with
   | none=>rw[ho]at h2;cases h2
   | some o=>
    have h7:=h.1
    simp only[qT,ho]at h7
    exact⟨o,rfl,vB (fun s' h'=>qbs hb hs t _ s' h5 h') (zF h7)⟩
  ·cases ho:ops[q]? with
   | none=>rw[ho]at h3;cases h3
   | some o=>
    have h7:=h.2.1
    simp only[qT,ho]at h7
    refine⟨o,rfl,vB (fun s' h'=>?_) (zF h7)⟩
    rw[h4]
    exact qbs hb hs u _ s' h6 h'
  ·cases ho:ops[q]? with
   | none=>rw[ho]at h3';cases h3'
   | some o=>
    have h7:=h.2.2
    simp only[qT,ho]at h7
    refine⟨o,rfl,vB (fun s' h'=>?_) (zF h7)⟩
    rw[h4']
    exact qbs hb hs v _ s' h6' h'
def qiG(ops:List Oper)(N:Nat)(t:PR):Bool:=
 dstB ops N&&Region.noSelect ops.toArray&&t.ok ops (Array.replicate ops.length false)&&(t.len==ops.length)
theorem qqG{id:Nat}{l:List Oper}{s:DS}{Q:Exit->DS->Prop}{N:Nat}(hd:List Nat)(t:PR)(hm:P.follows .mixedOrders=true)(hn:s.n=N)(hc:qiG l N t=true)
  (h:t.wk P l hd (l.map (·.dst)) s (Q .normal)):DW P (.region id l.toArray true) s Q:=by
 simp only[qiG,wu,beq_iff_eq]at hc
 obtain⟨⟨⟨h1,h2⟩,h3⟩,h4⟩:=hc
 subst hn
 refine qjV h1 hm ?_
 have:=qbs h1 h2 t _ s h3 h
 rwa [h4]at this
theorem qmW(ops:List Oper)(hd:List Nat)(ds:List (Option Nat))(s:DS)(K:DS->Prop):PR.leaf.wk P ops hd ds s K=K s:=rfl
theorem qpY(ops:List Oper)(hd:List Nat)(ds:List (Option Nat))(l:List Nat)(t:PR)(s:DS)(K:DS->Prop):(PR.run l t).wk P ops hd ds s K=Go.Dl.wk P ds (qT ops hd l) s fun s'=>t.wk P ops hd ds s' K:=rfl
theorem prwk_bl(ops:List Oper)(hd:List Nat)(ds:List (Option Nat))(i:Nat)(t:PR)(s:DS)(K:DS->Prop):(PR.bl i t).wk P ops hd ds s K=Go.Dl.wk P ds (Z2 ops .blind [i]) s fun s'=>t.wk P ops hd ds s' K:=rfl
theorem prwk_ex(ops:List Oper)(hd:List Nat)(ds:List (Option Nat))(i:Nat)(t:PR)(s:DS)(K:DS->Prop):(PR.ex i t).wk P ops hd ds s K=Go.Dl.wk P ds (Z2 ops .light [i]) s fun s'=>t.wk P ops hd ds s' K:=rfl
theorem qpZ(ops:List Oper)(hd:List Nat)(ds:List (Option Nat))(i j:Nat)(t:PR)(s:DS)(K:DS->Prop):(PR.dia i j t).wk P ops hd ds s K=Go.Dl.wk P ds (Z2 ops .light [i,j]) s fun s'=>t.wk P ops hd ds s' K:=rfl
theorem qmX(ops:List Oper)(hd:List Nat)(ds:List (Option Nat))(a:Array Bool)(t:PR)(s:DS)(K:DS->Prop):(PR.here a t).wk P ops hd ds s K=t.wk P ops hd ds s K:=rfl
theorem qpW(ops:List Oper)(hd:List Nat)(ds:List (Option Nat))(i j:Nat)(t u:PR)(s:DS)(K:DS->Prop):(PR.two i t j u).wk P ops hd ds s K=((Go.Dl.wk P ds (qT ops hd [i]) s fun s'=>t.wk P ops hd ds s' K)/\Go.Dl.wk P ds (qT ops hd [j]) s fun s'=>u.wk P ops hd ds s' K):=rfl
theorem qpX(ops:List Oper)(hd:List Nat)(ds:List (Option Nat))(i j k:Nat)(t u v:PR)(s:DS)(K:DS->Prop):(PR.thr i t j u k v).wk P ops hd ds s K=((Go.Dl.wk P ds (qT ops hd [i]) s fun s'=>t.wk P ops hd ds s' K)/\(Go.Dl.wk P ds (qT ops hd [j]) s fun s'=>u.wk P ops hd ds s' K)/\Go.Dl.wk P ds (qT ops hd [k]) s fun s'=>v.wk P ops hd ds s' K):=rfl
attribute [go_sem] qmW qpY prwk_bl prwk_ex qpZ qmX qpW qpX
end
end
end Go.Dl
namespace Go.Dl
open Go.RowKit
noncomputable section
def zA(o:Oper):List Nat:=(o.after.toList.filter fun e=>Region.binds .any e).map (·.on)
def qbS(m:Nat):List (List Nat)->Nat->List Nat
 | [],_=>[]
 | l::r,i=>if(!m.testBit i&&l.all fun k=>m.testBit k)=true then i::qbS m r (i+1)else qbS m r (i+1)
def vM(E:List (List Nat))(m:Nat):List Nat:=qbS m E 0
def zj(n m:Nat):Array Bool:=((List.range n).map fun i=>m.testBit i).toArray
theorem qhv{n m i:Nat}(d:Bool)(h:i<n):(zj n m).getD i d=m.testBit i:=by
 simp[zj,Array.getD,h]
theorem vl{n m i:Nat}(h:i<n):(zj n m).setIfInBounds i true=zj n (m ||| 2 ^ i):=by
 apply Array.ext
 ·simp[zj]
 ·intro j h1 h2
  have hj:j<n:=by simpa[zj]using h2
  rw[Array.getElem_setIfInBounds (by simpa[zj]using hj)]
  by_cases hij:i=j
  ·subst hij;simp[zj,Nat.testBit_or,Nat.testBit_two_pow]
  ·simp[zj,Nat.testBit_or,Nat.testBit_two_pow,hij]
theorem qbM(n:Nat):Array.replicate n false=zj n 0:=by
 apply Array.ext
 ·simp[zj]
 ·intro j h1 h2
  simp[zj]
theorem vf{ops:List Oper}{E:List (List Nat)}(hE:ops.map zA=E)(hn:E.all (fun l=>l.all fun k=>decide (k<ops.length))=true)(m:Nat):Region.ready .any ops.toArray (zj ops.length m)=vM E m:=by
 subst hE
 have key: ∀(suf:List Oper) (k:Nat),(∀(i:Nat) o,suf[i]? =some o->ops[k+i]? =some o)->k+suf.length=ops.length->
   ((List.range' k suf.length).filter fun i=> !(zj ops.length m).getD i true&&((ops.toArray[i]?).map fun o:Oper=>o.after.all fun e=> !Region.binds .any e||(zj ops.length m).getD e.on false).getD false)=qbS m (suf.map zA) k:=by
  intro suf
  induction suf with
  | nil=>intro k _ _;rfl
  | cons o suf ih=>
   intro k hs hl
   have hk:k<ops.length:=by simp at hl;omega
   have ho:ops[k]? =some o:=hs 0 o rfl
   have hb:(o.after.all fun e=> !Region.binds .any e||(zj ops.length m).getD e.on false)=(zA o).all fun k=>m.testBit k:=by
    have h1:(zA o).all (fun k=>decide (k<ops.length))=true:=by
     rw[w5]at hn
     exact hn _ (wI.2 ⟨o,wl ho,rfl⟩)
    unfold zA at h1 ⊢
    rw[<-Array.all_toList]
    generalize o.after.toList=l at h1 ⊢
    induction l with
    | nil=>rfl
    | cons e l ih2=>
     cases hbe:Region.binds .any e
     ·simp only[jl,hbe,w8,if_false,List.all_cons,Bool.not_false,Bool.true_or,yy]at h1 ⊢
      exact ih2 h1
     ·simp only[jl,hbe,if_true,wt,List.all_cons,wu,decide_eq_true_eq,Bool.not_true,Bool.false_or]at h1 ⊢
      rw[qhv _ h1.1,ih2 h1.2]
   rw[wz,List.range'_succ,jl,wt,qbS]
   have ih':=ih (k+1) (fun i o' h=>by rw[yL,Nat.add_comm 1 i];exact hs (i+1) o' (by simpa using h)) (by simp at hl;omega)
   simp only[List.getElem?_toArray]at ih' ⊢
   rw[ih',qhv _ hk,ho]
   simp only[w4,Option.getD_some,hb]
 have h:=key ops 0 (fun i o h=>by simpa using h) (by simp)
 unfold Region.ready vM
 rw[<-h]
 simp only[List.size_toArray,List.range_eq_range']
def runM(E:List (List Nat)):List Nat->Nat->Bool
 | [],_=>true
 | i::l,m=>(vM E m== [i])&&runM E l (m ||| 2 ^ i)
def vJ:List Nat->Nat->Nat
 | [],m=>m
 | i::l,m=>vJ l (m ||| 2 ^ i)
def ltB(n:Nat)(l:List Nat):Bool:=l.all fun i=>decide (i<n)
def PR.okM(ops:List Oper)(E:List (List Nat)):PR->Nat->Bool
 | .leaf,m=>(vM E m).isEmpty
 | .run l t,m=>ltB ops.length l&&(runM E l m&&t.okM ops E (vJ l m))
 | .bl i t,m=>decide (i<ops.length)&&(Region.free .any ops.toArray (zj ops.length m) i&&(vM E m).contains i&&(ops[i]?).isSome&&t.okM ops E (m ||| 2 ^ i))
 | .ex i t,m=>decide (i<ops.length)&&(Region.free .any ops.toArray (zj ops.length m) i&&(vM E m).contains i&&qaP ops[i]? &&t.okM ops E (m ||| 2 ^ i))
 | .dia i j t,m=>decide (i<ops.length)&&decide (j<ops.length)&&((vM E m== [i,j])&&(vM E (m ||| 2 ^ i)== [j])&&(vM E (m ||| 2 ^ j)== [i])&&qiS ops i j&&(i !=j)&&t.okM ops E ((m ||| 2 ^ i) ||| 2 ^ j))
 | .here a t,m=>(zj ops.length m==a)&&t.okM ops E m
 | .two i t j u,m=>decide (i<ops.length)&&decide (j<ops.length)&&((vM E m== [i,j])&&(ops[i]?).isSome&&(ops[j]?).isSome&&(t.len==u.len)&&t.okM ops E (m ||| 2 ^ i)&&u.okM ops E (m ||| 2 ^ j))
 | .thr i t j u k v,m=>decide (i<ops.length)&&decide (j<ops.length)&&decide (k<ops.length)&&((vM E m== [i,j,k])&&(ops[i]?).isSome&&(ops[j]?).isSome&&(ops[k]?).isSome&&(t.len==u.len)&&(t.len==v.len)&&t.okM ops E (m ||| 2 ^ i)&&u.okM ops E (m ||| 2 ^ j)&&v.okM ops E (m ||| 2 ^ k))
theorem qjg{ops:List Oper}{E:List (List Nat)}(hE:ops.map zA=E)(hn:E.all (fun l=>l.all fun k=>decide (k<ops.length))=true): ∀(l:List Nat) (m:Nat),ltB ops.length l=true->runM E l m=true->qgc ops l (zj ops.length m)=true/\qbb l (zj ops.length m)=zj ops.length (vJ l m)
 | [],m,_,_=>⟨rfl,rfl⟩
 | i::l,m,hl,h=>by
  simp only[ltB,List.all_cons,wu,decide_eq_true_eq]at hl
  simp only[runM,wu]at h
  have ih:=qjg hE hn l _ (by simpa[ltB]using hl.2) h.2
  simp only[qgc,qbb,vJ,vl hl.1,vf hE hn,h.1,yy]
  exact ih
theorem Qf{ops:List Oper}{E:List (List Nat)}(hE:ops.map zA=E)(hn:E.all (fun l=>l.all fun k=>decide (k<ops.length))=true): ∀(t:PR) (m:Nat),t.okM ops E m=true->t.ok ops (zj ops.length m)=true
 | .leaf,m,h=>by simpa only[PR.ok,PR.okM,vf hE hn]using h
 | .run l t,m,h=>by
  simp only[PR.okM,wu]at h
  have h1:=qjg hE hn l m h.1 h.2.1
  simp only[PR.ok,h1.1,h1.2,yy]
  exact Qf hE hn t _ h.2.2
 | .bl i t,m,h=>by
  simp only[PR.okM,wu,decide_eq_true_eq]at h
  simp only[PR.ok,vf hE hn,vl h.1,h.2.1.1.1,h.2.1.1.2,h.2.1.2,yy]
  exact Qf hE hn t _ h.2.2
 | .ex i t,m,h=>by
  simp only[PR.okM,wu,decide_eq_true_eq]at h
  simp only[PR.ok,vf hE hn,vl h.1,h.2.1.1.1,h.2.1.1.2,h.2.1.2,yy]
  exact Qf hE hn t _ h.2.2
 | .dia i j t,m,h=>by
  simp only[PR.okM,wu,decide_eq_true_eq]at h
  obtain⟨⟨hi,hj⟩,⟨⟨⟨⟨h1,h2⟩,h3⟩,h4⟩,h5⟩,h6⟩:=h
  simp only[PR.ok,vf hE hn,vl hi,vl hj,h1,h2,h3,h4,h5,yy]
  exact Qf hE hn t _ h6
 | .here a t,m,h=>by
  simp only[PR.okM,wu,beq_iff_eq]at h
  obtain⟨rfl,h2⟩:=h
  simp only[PR.ok,BEq.rfl,yy]
  exact Qf hE hn t _ h2
 | .two i t j u,m,h=>by
  simp only[PR.okM,wu,decide_eq_true_eq]at h
  obtain⟨⟨hi,hj⟩,⟨⟨⟨⟨h1,h2⟩,h3⟩,h4⟩,h5⟩,h6⟩:=h
  simp only[PR.ok,vf hE hn,vl hi,vl hj,h1,h2,h3,h4,yy,Qf hE hn t _ h5,Qf hE hn u _ h6]
 | .thr i t j u k v,m,h=>by
  simp only[PR.okM,wu,decide_eq_true_eq]at h
  obtain⟨⟨⟨hi,hj⟩,hk⟩,⟨⟨⟨⟨⟨⟨⟨h1,h2⟩,h3⟩,h4⟩,h5⟩,h6⟩,h7⟩,h8⟩,h9⟩:=h
  simp only[PR.ok,vf hE hn,vl hi,vl hj,vl hk,h1,h2,h3,h4,h5,h6,yy,Qf hE hn t _ h7,Qf hE hn u _ h8,Qf hE hn v _ h9]
def qor(ops:List Oper)(N:Nat)(E:List (List Nat))(t:PR):Bool:=
 dstB ops N&&Region.noSelect ops.toArray&&(E.all fun l=>l.all fun k=>decide (k<ops.length))&&t.okM ops E 0&&(t.len==ops.length)
theorem Zh{P:Program}{id:Nat}{l:List Oper}{s:DS}{Q:Exit->DS->Prop}{N:Nat}(hd:List Nat)(E:List (List Nat))(t:PR)(hm:P.follows .mixedOrders=true)(hn:s.n=N)(hE:l.map zA=E)(hc:qor l N E t=true)
  (h:t.wk P l hd (l.map (·.dst)) s (Q .normal)):DW P (.region id l.toArray true) s Q:=by
 simp only[qor,wu]at hc
 obtain⟨⟨⟨⟨h1,h2⟩,h3⟩,h4⟩,h5⟩:=hc
 refine qqG hd t hm hn ?_ h
 simp only[qiG,wu]
 rw[qbM]
 exact⟨⟨⟨h1,h2⟩,Qf hE h3 t 0 h4⟩,h5⟩
end
end Go.Dl
namespace Go.Dl
open Go.RowKit
noncomputable section
def qdm(P:Program)(ops:List Oper)(hd:List Nat)(ds:List (Option Nat))(St:Nat->DS):List (Nat×Nat)->Prop
 | []=>True
 | (m,i)::r=>Go.Dl.wk P ds (qT ops hd [i]) (St m) (fun s'=>s'.Sub (St (m ||| 2 ^ i)))/\qdm P ops hd ds St r
def qce(n:Nat)(E:List (List Nat))(T:List (Nat×Nat)):List (List Nat)->Bool
 | []=>false
 | [L]=>L.all fun m=>(vM E m).isEmpty
 | L::L'::r=>(L.all fun m=> !(vM E m).isEmpty&&(vM E m).all fun i=>decide (i<n)&&(T.contains (m,i)&&L'.contains (m ||| 2 ^ i)))&&qce n E T (L'::r)
section
variable {P : Program}
theorem qdG{ops:List Oper}{N fuel:Nat}{K:DS->Prop}{listed:Array Bool}{s s':DS}(h:s.Sub s')(hn:s'.n=N)(H:z7 P ops N K fuel listed s'):z7 P ops N K fuel listed s:=
 fun _ X a w hr=>H hn X a w (h X a w hr)
theorem qjU{ops:List Oper}{hd:List Nat}{ds:List (Option Nat)}{St:Nat->DS}: ∀{T:List (Nat×Nat)},qdm P ops hd ds St T->∀{m i:Nat},(m,i)∈T->Go.Dl.wk P ds (qT ops hd [i]) (St m) (fun s'=>s'.Sub (St (m ||| 2 ^ i)))
 | (m',i')::T,h,m,i,hm=>by
  rcases ws.1 hm with e|hm
  ·injection e with e1 e2;subst e1;subst e2;exact h.1
  ·exact qjU h.2 hm
theorem qrF{ops:List Oper}{hd:List Nat}{N:Nat}{E:List (List Nat)}{T:List (Nat×Nat)}{St:Nat->DS}{K:DS->Prop}(hb:dstB ops N=true)(hE:ops.map zA=E)(hn:E.all (fun l=>l.all fun k=>decide (k<ops.length))=true)
  (hSt: ∀m,(St m).n=N) (hed:qdm P ops hd (ops.map (·.dst)) St T): ∀(Ls:List (List Nat)) (L:List Nat),qce ops.length E T (L::Ls)=true->(∀L',(L::Ls).getLast? =some L'->∀m∈L',K (St m))->∀m∈L,z7 P ops N K Ls.length (zj ops.length m) (St m)
 | [],L,hc,hK,m,hm=>by
  have h1:=w5.1 (show(L.all fun m=>(vM E m).isEmpty)=true from hc) m hm
  exact qcq (by rw[vf hE hn];simpa using h1) (hK L rfl m hm)
 | L'::r,L,hc,hK,m,hm=>by
  have hc':((L.all fun m=> !(vM E m).isEmpty&&(vM E m).all fun i=>decide (i<ops.length)&&(T.contains (m,i)&&L'.contains (m ||| 2 ^ i)))&&qce ops.length E T (L'::r))=true:=hc
  rw[wu]at hc'
  obtain⟨h1,h2⟩:=hc'
  have h3:=w5.1 h1 m hm
  rw[wu]at h3
  obtain⟨h4,h5⟩:=h3
  refine Zm hb (vf hE hn m) (by intro e;rw[e]at h4;simp at h4) fun i hi=>?_
  have h6:=w5.1 h5 i hi
  simp only[wu,decide_eq_true_eq,List.contains_iff_mem]at h6
  obtain⟨h7,h8,h9⟩:=h6
  have h10:=qjU hed h8
  have ho:ops[i]? =some ops[i]:=wc h7
  refine⟨ops[i],ho,?_⟩
  simp only[qT,ho]at h10
  rw[vl h7]
  have ih:=qrF hb hE hn hSt hed r L' h2 (fun L'' h=>hK L'' (by simpa using h)) _ h9
  exact vB (fun s' h'=>qdG h' (hSt _) ih) (zF h10)
def blW(P:Program)(ops:List Oper)(ds:List (Option Nat)):List Nat->DS->(DS->Prop)->Prop
 | [],s,K=>K s
 | i::l,s,K=>Go.Dl.wk P ds (Z2 ops .blind [i]) s fun s'=>blW P ops ds l s' K
def blOk(ops:List Oper)(E:List (List Nat)):List Nat->Nat->Bool
 | [],_=>true
 | i::l,m=>decide (i<ops.length)&&(Region.free .any ops.toArray (zj ops.length m) i&&(vM E m).contains i&&blOk ops E l (m ||| 2 ^ i))
theorem bl_ok{ops:List Oper}{N fuel:Nat}{E:List (List Nat)}{K:DS->Prop}{S1:DS}(hS:S1.n=N)(hb:dstB ops N=true)(hs:Region.noSelect ops.toArray=true)(hE:ops.map zA=E)(hn:E.all (fun l=>l.all fun k=>decide (k<ops.length))=true):
  ∀(l:List Nat) (m:Nat) (s:DS),blOk ops E l m=true->z7 P ops N K fuel (zj ops.length (vJ l m)) S1->blW P ops (ops.map (·.dst)) l s (fun s'=>s'.Sub S1)->z7 P ops N K (fuel+l.length) (zj ops.length m) s
 | [],m,s,_,H,h=>qdG h hS H
 | i::l,m,s,hc,H,h=>by
  simp only[blOk,wu,decide_eq_true_eq]at hc
  obtain⟨h0,⟨h1,h2⟩,h3⟩:=hc
  have ho:ops[i]? =some ops[i]:=wc h0
  simp only[blW,Z2,ho]at h
  have h7:=Q5 h
  have hr:(Region.ready .any ops.toArray (zj ops.length m)).contains i=true:=by rw[vf hE hn];exact h2
  have e:fuel+(i::l).length=(fuel+l.length)+1:=rfl
  rw[e]
  have ih:=fun s'=>bl_ok (fuel:=fuel) (K:=K) hS hb hs hE hn l (m ||| 2 ^ i) s' h3 H
  unfold GIs at h7
  split at h7
  ·rename_i hw
   cases h7 with
   | blind d hbl hk=>exact qba hb ho hs h1 hr hw hbl (by rw[vl h0];exact ih _ hk)
  ·rename_i hw
   exact qfH hb ho hs h1 hr hw (by rw[vl h0];exact ih _ h7)
  ·exact h7.elim
def qj2(ops:List Oper)(N:Nat)(E:List (List Nat))(pa:List Nat)(T:List (Nat×Nat))(Ls:List (List Nat))(full:Nat):Bool:=
 dstB ops N&&Region.noSelect ops.toArray&&(E.all fun l=>l.all fun k=>decide (k<ops.length))&&blOk ops E pa 0&&qce ops.length E T ([vJ pa 0]::Ls)&&(([vJ pa 0]::Ls).getLast? ==some [full])&&(Ls.length+pa.length==ops.length)
theorem qod{id:Nat}{l:List Oper}{s:DS}{Q:Exit->DS->Prop}{N:Nat}(hd:List Nat)(E:List (List Nat))(pa:List Nat)(T:List (Nat×Nat))(Ls:List (List Nat))(St:Nat->DS)(full:Nat)(hm:P.follows .mixedOrders=true)(hn:s.n=N)(hE:l.map zA=E)(hc:qj2 l N E pa T Ls full=true)
  (hSt: ∀m,(St m).n=N) (h0:blW P l (l.map (·.dst)) pa s fun s'=>s'.Sub (St (vJ pa 0))) (he:qdm P l hd (l.map (·.dst)) St T) (hq:Q .normal (St full)):DW P (.region id l.toArray true) s Q:=by
 simp only[qj2,wu,beq_iff_eq]at hc
 obtain⟨⟨⟨⟨⟨⟨h1,h6⟩,h2⟩,h7⟩,h3⟩,h4⟩,h5⟩:=hc
 subst hn
 refine qjV h1 hm ?_
 have:=qrF (K:=Q .normal) h1 hE h2 hSt he Ls [vJ pa 0] h3 (fun L' h m hmm=>by
  rw[h4]at h;injection h with h;subst h
  rw[yd.1 hmm];exact hq) (vJ pa 0) (by simp)
 have key:=bl_ok (hSt _) h1 h6 hE h2 pa 0 s h7 this h0
 rw[h5]at key
 rw[qbM]
 exact key
theorem blW_nil(ops:List Oper)(ds:List (Option Nat))(s:DS)(K:DS->Prop):blW P ops ds [] s K=K s:=rfl
theorem qq2(ops:List Oper)(ds:List (Option Nat))(i:Nat)(l:List Nat)(s:DS)(K:DS->Prop):blW P ops ds (i::l) s K=Go.Dl.wk P ds (Z2 ops .blind [i]) s fun s'=>blW P ops ds l s' K:=rfl
theorem qlq(ops:List Oper)(hd:List Nat)(ds:List (Option Nat))(St:Nat->DS):qdm P ops hd ds St []=True:=rfl
theorem qit(ops:List Oper)(hd:List Nat)(ds:List (Option Nat))(St:Nat->DS)(m i:Nat)(r:List (Nat×Nat)):qdm P ops hd ds St ((m,i)::r)=(Go.Dl.wk P ds (qT ops hd [i]) (St m) (fun s'=>s'.Sub (St (m ||| 2 ^ i)))/\qdm P ops hd ds St r):=rfl
attribute [go_sem] blW_nil qq2 qlq qit
end
end
end Go.Dl
namespace Go.Dl
open Go.RowKit
noncomputable section
section
variable {P : Program}
theorem qdO(w:World)(t tz ty e:TypeId)(k:IntKind)(i:TypeInfo)(z:Value)(ht:P.underlying t=some (.slice e))(htz:P.underlying tz=some (.int k))(hi:P.info? e=some i)(hz:i.zero=some z)
  (A:Option Addr) (n:Nat) (hn0:0<n) (hsz:0<i.size) (h63:n<=maxLen) (hfit:Builtin.nextslicecap n 0*i.bytes<=281474976710656) (hby:n*i.bytes<=281474976710656):
  (Builtin.append_ #[t,tz] ty #[.slice A 0 0,.int .i64 n]).run P w=
   .ok (.slice (some ⟨w.heap.size,0,none⟩) n (grownCap w n 0 e))
    (w.drew.alloc (.cells (Builtin.zeroCells z.cells n++Builtin.zeroCells z.cells (grownCap w n 0 e - n)) e)):=by
 unfold maxLen at h63
 have hw:IntKind.i64.wrap (n:Int)=(n:Int):=wrap_i64 (by omega) (by omega)
 have hneg: ¬((n:Int)<0):=by omega
 have hbig: ¬(281474976710656<(n:Int)*(i.bytes:Int)):=by
  have h:=Int.ofNat_le.2 hby
  rw[Int.natCast_mul]at h
  omega
 have h63': ¬(9223372036854775807<(n:Int)):=by omega
 have h48': ¬(281474976710656<Builtin.nextslicecap n 0*i.bytes):=by omega
 have hne: ¬(n*i.size=0):=by
  intro e
  rcases Nat.mul_eq_zero.1 e with h|h<;>omega
 have hne1: ¬(n=0):=by omega
 have hne2: ¬(i.size=0):=by omega
 have hn1: ¬(n<=0):=by omega
 cases A with
 | none=>
  simp[Builtin.append_,run_underlying ht,run_underlying htz,sizeOf,typeInfo,zeroValue,hi,hz,asInt,asIntOf,hw,hneg,hbig,h63',h48',Question.forced,newRow,grownCap,hne1,hne2,hn1,Builtin.firstCells]
  intro h;exact absurd h hne
 | some b=>
  have hfo:=run_firstCells_some (P:=P) w.drew i.size 0 b 0 0 [] (by simp) (by simp)
  simp[Builtin.append_,run_underlying ht,run_underlying htz,sizeOf,typeInfo,zeroValue,hi,hz,asInt,asIntOf,hw,hneg,hbig,h63',h48',Question.forced,hfo,newRow,grownCap,hne1,hne2,hn1]
  intro h;exact absurd h hne
theorem app0_mk{t tz ty:TypeId}{sz by_:Nat}{kd:IntKind}(vw:qA P t=some (sz,by_))(htz:P.underlying tz=some (.int kd)){X:Origin}{s:DS}{E:Env}{a:Act}{w:World}(hr:RelE X s E a w){n i m k:Nat}{v:Value}
  (hx:VD w E (.one (.ba n sz i 0 0)) v) (hk:0<k) (hb:k*by_<=140737488355328) (hm:m<s.n):
  ∃v' w' E' js,(Builtin.append_ #[t,tz] ty #[v,.int .i64 k]).run P w= .ok v' w'/\RowsSz sz js/\RelE X (s.newMem m (qb k sz++js)) E' a w'/\VD w' E' (.one (.ba m sz 0 k (k+js.length))) v':=by
 obtain⟨e,inf,z,hu,hi,hz0,hisz,hiby,hzsz,vo,hbpos,hz1⟩:=qa9 w vw
 have qK:k<=maxLen:=by
  have:k<=k*by_:=Nat.le_mul_of_pos_right _ hbpos
  unfold maxLen;omega
 have hold: ∃A,v= .slice A 0 0:=by
  cases hx with|one t' v hx=>cases hx with
   | bz _ _ _ A=>exact⟨A,rfl⟩
   | ba _ _ _ _ _ h1 h2=>exact⟨_,rfl⟩
 obtain⟨A,rfl⟩:=hold
 have zJ:0<k:=hk
 have vi:=qdO (P:=P) w t tz ty e kd inf z hu htz hi hz0 A k hk (by omega) qK (by rw[hiby];exact growslice_fits zJ hb) (by rw[hiby];omega)
 have hge:=grownCap_ge w k 0 e
 have hcm:=grownCap_le_maxLen w k 0 e qK
 generalize grownCap w k 0 e=cap' at vi hge hcm
 have q0:Quiet w E w.drew E:=⟨(Below.refl _ _).drew,fun _ _ h=>h,fun _ _ _ h=>h,hr.wi.kok.move (fun _ _ _=>rfl) (hr.wi.kok.z.below ((Below.refl _ _).drew)),rfl,rfl⟩
 have hq:=hr.quiet q0
 have qaR:=q0.later hr.wi.kok
 have hZ:=qb5 w.drew E z.cells hz1 (cap' - k)
 have hZk:=qb5 w.drew E z.cells hz1 k
 rw[hzsz]at hZ hZk
 have Zr:RowsIs w.drew E (Builtin.zeroCells z.cells k++Builtin.zeroCells z.cells (cap' - k)) (qb k sz++List.replicate (cap' - k) (List.replicate sz (.c .any))):=by
  refine Lst.rowsIs (sz:=sz) ?_
  have:=hZk.append hZ
  simpa[wU,qb]using this
 have h2:=hq.newMem m hm _ e _ Zr
 refine⟨_,_,_,List.replicate (cap' - k) (List.replicate sz (.c .any)),vi,fun r hr'=>by rw[yb hr'];simp,h2,.one _ _ ?_⟩
 have hc2:k+(List.replicate (cap' - k) (List.replicate sz (T.c C.any))).length=cap':=by simp;omega
 rw[hc2]
 have:=VT.ba (w:=w.drew.alloc (.cells (Builtin.zeroCells z.cells k++Builtin.zeroCells z.cells (cap' - k)) e)) (E:=E.setρ m w.drew.heap.size) m sz 0 k cap' hge hcm
 simp only[Env.setρ,if_true,Nat.zero_mul]at this
 exact this
theorem Step.appendMk0{o:Oper}{s:DS}{K:DS->Prop}{kd:IntKind}{m n sz by_ i k:Nat}{x y:Operand}{t tz:TypeId}(ho:o.op= .call { callee:=.builtin .append,args:= #[x,y],argTypes:= #[t,tz] })(hm:o.dst=some m)
  (vw:qA P t=some (sz,by_)) (htz:P.underlying tz=some (.int kd)) (hx:s.ev x= .one (.ba n sz i 0 0)) (hy:s.ev y= .one (.c (.lit (.int .i64 (k:Int))))) (hk:0<k) (hb:k*by_<=140737488355328)
  (h: ∀js,RowsSz sz js->K ((s.newMem m (qb k sz++js)).put (some m) (.one (.ba m sz 0 k (k+js.length))))):Step P o s K:=by
 rintro hd X a w ⟨E,hE⟩ Q
 have hvx:=hE.ev x
 rw[hx]at hvx
 have hvy:=hE.ev y
 rw[hy]at hvy
 have hy':=hvy.lit
 obtain⟨v',w',E',js,vi,hjs,hE',hv'⟩:=app0_mk (P:=P) (ty:=o.type) vw htz hE hvx hk hb (hd m hm)
 obtain⟨cs,qbg⟩:=zh (P:=P) .append a.eval x y t tz o.type w
 refine vu (v:=v') (w':=w') ?_ ⟨_,⟨by rfl,h js hjs⟩,?_⟩
 ·unfold execOp
  simp only[ho,Sem.run_bind]
  rw[qbg]
  simp only[Result.andThen_ok,invoke,builtin,Sem.run_bind,hy',vi,Sem.run_pure]
 ·rw[hm]
  exact⟨E',hE'.putOnly (fun d hd'=>by injection hd' with hd';subst hd';exact hd m hm) hv'⟩
theorem Step.appendMk0List{o:Oper}{s:DS}{K:DS->Prop}{kd:IntKind}{m n sz by_ i k:Nat}{x y:Operand}{t tz:TypeId}(ho:o.op= .call { callee:=.builtin .append,args:= #[x,y],argTypes:= #[t,tz] })(hm:o.dst=some m)
  (vw:qA P t=some (sz,by_)) (htz:P.underlying tz=some (.int kd)) (hx:s.ev x= .one (.ba n sz i 0 0)) (hy:s.ev y= .one (.c (.lit (.int .i64 (k:Int))))) (hk:0<k) (hb:k*by_<=140737488355328)
  (h: ∀j',K ((s.newMem m (qb (k+j') sz)).put (some m) (.one (.ba m sz 0 k (k+j'))))):Step P o s K:=by
 refine Step.weaken (K:=fun s'=>∃js,RowsSz sz js/\s'=(s.newMem m (qb k sz++js)).put (some m) (.one (.ba m sz 0 k (k+js.length)))) ?_ ?_
 ·exact Step.appendMk0 ho hm vw htz hx hy hk hb fun js hjs=>⟨js,hjs,rfl⟩
 ·rintro s' hs' ⟨js,hjs,rfl⟩
  refine⟨_,qja m sz (xs:=Rows.tr (fgt m) (qb k sz)) (js:=Rows.tr (fgt m) js) ?_ (hjs.tr _),rfl,?_⟩
  ·rw[qhZ,qee,if_pos rfl,<-Rows.tr_append]
  ·have hl:(Rows.tr (fgt m) js).length=js.length:=by simp[Rows.tr]
   have hsum:qb k sz++qb js.length sz=qb (k+js.length) sz:=by simp[qb,List.replicate_append_replicate]
   have:=h js.length
   have e:((s.newMem m (qb k sz++js)).put (some m) (.one (.ba m sz 0 k (k+js.length)))).setBx m (some (Rows.tr (fgt m) (qb k sz)++qb (Rows.tr (fgt m) js).length sz))=
     (s.newMem m (qb (k+js.length) sz)).put (some m) (.one (.ba m sz 0 k (k+js.length))):=by
    rw[hl,<-hsum]
    simp only[DS.newMem,DS.setBx,DS.put,DS.tr]
    congr 1
    funext q
    by_cases hq:q=m
    ·simp only[if_pos hq,Rows.tr_append,qbN]
    ·simp only[if_neg hq]
   rw[e];exact this
end
end
end Go.Dl
namespace Go.Dl
open Go.RowKit
def qo(P:Program)(f:FuncId)(ds:List D)(R:D->Prop):Prop:=
 Program.plainF P f=true/\∀(w:World) (K:KSet) (vs:Array Value),KOk w K->vs.size=ds.length->
  (∀(j:Nat) d v,ds[j]? =some d->vs[j]? =some v->VD w (E0 K) d v)->
  Calls P f vs w fun e w'=>∃v E' r,e= .returned v/\R r/\Ret w K w' E'/\VD w' E' r v
theorem ECalls.some{P:Program}{f:FuncId}{ds:List D}{R:D->Prop}(h:ECalls P f ds qc (fun r _=>R r)):qo P f ds R:=by
 refine⟨h.1,fun w K vs hk hl hv=>?_⟩
 refine Calls.mono (h.2 w (E0 K) (fun _ _=>False) vs (qhG w K hk) hl hv) ?_
 rintro e w' ⟨v,E',r',H',rfl,hR,hwi,hv'⟩
 refine⟨v,E',r',rfl,hR,⟨hwi.turn.below,hwi.kin,fun b o hb=>hwi.kold b o hb id,hwi.kok,fun n b o hs=>?_,hwi.disj⟩,hv'⟩
 obtain⟨h1,h2,h3⟩:=hwi.free n b o hs
 exact⟨h1.resolve_right id,h2,h3⟩
theorem vt{P:Program}{f:FuncId}{fn:Func}{c:Code}{ds:List D}{R:D->Prop}{N:Nat}{rs:List ResultVar}(hp:Program.plainF P f=true)(hf:P.funcs[f]? = .some fn)(hb:fn.body= .some c)(hN:fn.ntmps=N)(hrs:fn.results.toList=rs)(hn:(decide (ds.length<=N)&&decide (N<=100000))=true)
  (h:DW P c (Zd N ds qc) (fun e s'=>(e= .normal\/e= .ret)/\∃r,resD P s' rs= .some r/\R r)):qo P f ds R:=
 ECalls.some (vW hp hf hb hN hrs hn h)
theorem Step.callN{P:Program}{o:Oper}{s:DS}{K:DS->Prop}{f:Operand}{args:Array Operand}{tys:Array TypeId}{g:FuncId}{caps:List C}{ds:List D}{R:D->Prop}(ho:o.op= .call { callee:=.value f,args:=args,argTypes:=tys })
  (hf:s.ev f= .one (.c (.fn g caps))) (hle:LeL ((args.toList.map s.ev).map D.cl++caps.map fun c=>D.one (.c c)) ds) (hc:qo P g ds R) (h: ∀r,R r->K (QG s o.dst r)):Step P o s K:=by
 rintro hd X a w ⟨E,hE⟩ Q
 have hv:=hE.ev f
 rw[hf]at hv
 cases hfv:a.eval f with
 | func fn first captured=>
  rw[hfv]at hv
  cases hv with|one t v hv=>cases hv with|c c v hv=>cases hv with
   | fn g caps vs hl hr=>
    obtain⟨h1,h2⟩:=qiQ (fun x=>hE.ev x) args.toList caps captured hl hr
    have h1':(args.map a.eval++captured).size=ds.length:=by
     rw[<-(qeD hle h2).1,<-h1];simp
    have h2': ∀(j:Nat) d v,ds[j]? =some d->(args.map a.eval++captured)[j]? =some v->VD w (E0 E.K) d v:=by
     have:=(qeD hle h2).2
     have he:(args.toList.map a.eval).toArray++captured=args.map a.eval++captured:=by
      congr 1;apply Array.ext';simp
     rw[he]at this;exact this
    have qaq:=hc.2 w E.K _ hE.wi.kok h1' h2'
    have vi:(execOp a.eval o).run P w= .ok (.enter g (args.map a.eval++captured)) w:=by
     unfold execOp
     simp only[ho,Sem.run_bind]
     rw[vg a.eval f args tys _ g captured hfv w]
     simp only[Result.andThen_ok,invoke]
     exact zH hc.1 _ w
    unfold Oper.wp
    rw[vi]
    refine Calls.mono qaq ?_
    rintro e w' ⟨v,E',r,rfl,hR,hret,hvd⟩
    have h:=h r hR
    cases qeo:o.dst with
    | none=>
     rw[qeo]at h
     exact⟨s,⟨rfl,h⟩,_,hE.quiet hret.quiet⟩
    | some m=>
     rw[qeo]at h
     exact⟨_,⟨qjl s m r,h⟩,qgg hE hret (hd m qeo) hvd⟩
 | _=>rw[hfv]at hv;cases hv with|one t v hv=>cases hv with|c c v hv=>cases hv
theorem CallC.nd{P:Program}{s:DS}{f:Operand}{args:List Operand}{tys:Array TypeId}{dst:Option Nat}{ty:TypeId}{pos:String}{aft:Array Edge}{F:D}{A:List D}{ds:List (Option Nat)}{l:List (Mode×Oper)}{K:DS->Prop}
  {g:FuncId} {caps:List C} {es:List D} {R:D->Prop} (hc:qo P g es R) (hf:s.ev f= .one (.c (.fn g caps))) (hle:LeL ((args.map s.ev).map D.cl++caps.map fun c=>D.one (.c c)) es) (hk: ∀r,R r->wk P ds l (QG s dst r) K):
  CallC .step P ⟨dst,.call ⟨.value f,args.toArray,tys⟩,ty,pos,aft,none⟩ F A s dst ds l K:=
 CallC.step (Step.callN (args:=args.toArray) rfl hf (by simpa using hle) hc hk)
end Go.Dl
namespace Go.Dl
open Go.RowKit
section
variable {P : Program} {s : DS} {Q : Exit -> DS -> Prop}
theorem qpi(t n sz:Nat)(xs:List (List C))(h:s.sl t= .one (.ex sz xs)):s.Sub ((s.close [n]).put (some t) (.one (.own n sz xs))):=by
 rintro X a w ⟨E,hE⟩
 have hv:=hE.sl t
 rw[h]at hv
 obtain⟨v,hveq⟩: ∃v,a.tmps.getD t undef=v:=⟨_,rfl⟩
 rw[hveq]at hv
 obtain⟨hvc,hex⟩:VC w E.K (.sl sz xs) v/\Exact v:=by
  cases hv with|one _ _ hv=>cases hv with|ex _ _ _ h1 h2=>exact⟨h1,h2⟩
 have hns: ∀b o,¬vX (v,sz) b o:=fun b o ⟨a',len,cap,h1,_,_,h2,h3⟩=>by
  obtain⟨A,q,hq⟩:=hex
  simp only at h1
  rw[hq]at h1
  injection h1 with h1 h4 h5
  subst h4;subst h5
  simp only at h2 h3
  omega
 have h1:=hE.setVal n (v,sz) (fun b o hs=>absurd hs (hns b o))
 refine⟨_,⟨h1.wi,fun u=>?_,h1.size,h1.defers,h1.small,h1.pl⟩⟩
 simp only[DS.put]
 by_cases hu:u=t
 ·subst hu
  rw[if_pos rfl,hveq]
  exact .one _ _ (.own n sz xs _ (by simpa[Env.setVal]using hvc) (by simp[Env.setVal]) hex.tame)
 ·rw[if_neg hu];exact h1.sl u
theorem qau(t n sz:Nat)(xs:List (List C)){c:Code}(h:s.sl t= .one (.ex sz xs))(hc:DW P c ((s.close [n]).put (some t) (.one (.own n sz xs))) Q):DW P c s Q:=dw_weaken (qpi t n sz xs h) hc
end
end Go.Dl
namespace Go.Dl
noncomputable def stQ(N:Nat)(base:List (Nat×D))(tab:List (Nat×Nat×Nat×D))(bxs:List (Nat×Nat×Nat×Dl.Rows))(m:Nat):DS:=
 kn N (base++tab.filterMap fun p=>if m &&& p.1=p.1/\m &&& p.2.1=0 then some p.2.2 else none) (ml (bxs.filterMap fun p=>if m &&& p.1=p.1/\m &&& p.2.1=0 then some p.2.2 else none))
theorem qie(a b:Int):(if b<a then b else a)=min a b:=by rw[Int.min_def];(repeat' split)<;>omega
theorem qe8(a b:Int):(if a<b then b else a)=max a b:=by rw[Int.max_def];(repeat' split)<;>omega
end Go.Dl
namespace Go.Dl
theorem qoe{P:Program}{α:Type}{c:Code}{s:DS}{Q:Exit->DS->Prop}(S:α->DS)(F:α->Prop)(h1:DW P c s (fun e s'=>e= .normal/\∃y,F y/\s'.Sub (S y)))(h2: ∀y,F y->∀s',s'.Sub (S y)->Q .normal s'):DW P c s Q:=
 h1.mono fun e s' h=>by
  obtain⟨he,y,hF,hs⟩:=h
  rw[he];exact h2 y hF s' hs
end Go.Dl
namespace Go.Dl
open Go.RowKit
noncomputable section
theorem vI(m i j:Nat):(m ||| 2 ^ i).testBit j=(m.testBit j||decide (i=j)):=by rw[Nat.testBit_or,Nat.testBit_two_pow]
def cnt:Nat->Nat->Nat
 | 0,_=>0
 | n+1,m=>cnt n m+if m.testBit n then 0 else 1
theorem qhh{m m':Nat}: ∀n,(∀j,j<n->m.testBit j=m'.testBit j)->cnt n m=cnt n m'
 | 0,_=>rfl
 | n+1,h=>by rw[cnt,cnt,qhh n (fun j hj=>h j (by omega)),h n (by omega)]
theorem qrH{m i:Nat}(hm:m.testBit i=false): ∀n,i<n->cnt n m=cnt n (m ||| 2 ^ i)+1
 | 0,h=>by omega
 | n+1,h=>by
  rw[cnt,cnt,vI]
  by_cases e:i=n
  ·subst e
   rw[hm,qhh (m:=m) (m':=m ||| 2 ^ i) i fun j hj=>by rw[vI,decide_eq_false (by omega),yf]]
   simp
  ·rw[qrH hm n (by omega),decide_eq_false e,yf]
   omega
theorem qj0{m:Nat}: ∀n,cnt n m=0->∀i,i<n->m.testBit i=true
 | 0,_,i,h=>by omega
 | n+1,h,i,hi=>by
  rw[cnt]at h
  by_cases e:i=n
  ·subst e
   cases hb:m.testBit i
   ·rw[hb]at h;simp at h
   ·rfl
  ·exact qj0 n (by omega) i (by omega)
theorem ZN{m:Nat}: ∀(E:List (List Nat)) (k i:Nat),i∈qbS m E k↔∃j l,E[j]? =some l/\i=k+j/\m.testBit i=false/\(l.all fun k=>m.testBit k)=true
 | [],k,i=>by simp[qbS]
 | l::r,k,i=>by
  have ih:=ZN (m:=m) r (k+1) i
  have hex:(∃j l',(l::r)[j]? =some l'/\i=k+j/\m.testBit i=false/\(l'.all fun k=>m.testBit k)=true)↔(i=k/\m.testBit i=false/\(l.all fun k=>m.testBit k)=true)\/∃j l',r[j]? =some l'/\i=(k+1)+j/\m.testBit i=false/\(l'.all fun k=>m.testBit k)=true:=by
   constructor
   ·rintro⟨j,l',h1,h2,h3,h4⟩
    cases j with
    | zero=>simp at h1;subst h1;exact .inl ⟨by omega,h3,h4⟩
    | succ j=>exact .inr ⟨j,l',by simpa using h1,by omega,h3,h4⟩
   ·rintro(⟨h2,h3,h4⟩|⟨j,l',h1,h2,h3,h4⟩)
    ·exact⟨0,l,by simp,by omega,h3,h4⟩
    ·exact⟨j+1,l',by simpa using h1,by omega,h3,h4⟩
  rw[hex,<-ih,qbS]
  by_cases h:(!m.testBit k&&l.all fun k=>m.testBit k)=true
  ·rw[if_pos h,ws]
   simp only[wu,Bool.not_eq_true']at h
   constructor
   ·rintro(e|e)
    ·subst e;exact .inl ⟨rfl,h.1,h.2⟩
    ·exact .inr e
   ·rintro(⟨e,_,_⟩|e)
    ·exact .inl e
    ·exact .inr e
  ·rw[if_neg h]
   constructor
   ·exact .inr
   ·rintro(⟨e,h3,h4⟩|e)
    ·subst e;exact absurd (by rw[h3,h4];rfl) h
    ·exact e
def qdn(P:Program)(ops:List Oper)(hd:List Nat)(ds:List (Option Nat))(St:Nat->DS)(E:List (List Nat)):List Nat->Prop
 | []=>True
 | i::r=>(∀m,m.testBit i=false->(∀j,m.testBit j=true->∀k∈E.getD j [],m.testBit k=true)->(∀k∈E.getD i [],m.testBit k=true)->Go.Dl.wk P ds (qT ops hd [i]) (St m) (fun s'=>s'.Sub (St (m ||| 2 ^ i))))/\qdn P ops hd ds St E r
section
variable {P : Program}
theorem qg6{ops:List Oper}{hd:List Nat}{ds:List (Option Nat)}{St:Nat->DS}{E:List (List Nat)}: ∀{I:List Nat},qdn P ops hd ds St E I->∀{i:Nat},i∈I->∀m,m.testBit i=false->(∀j,m.testBit j=true->∀k∈E.getD j [],m.testBit k=true)->(∀k∈E.getD i [],m.testBit k=true)->Go.Dl.wk P ds (qT ops hd [i]) (St m) (fun s'=>s'.Sub (St (m ||| 2 ^ i)))
 | i'::I,h,i,hi=>by
  rcases ws.1 hi with e|hi
  ·subst e;exact h.1
  ·exact qg6 h.2 hi
theorem qof{ops:List Oper}{hd:List Nat}{N:Nat}{E:List (List Nat)}{M0:Nat}{I:List Nat}{St:Nat->DS}{K:DS->Prop}(hb:dstB ops N=true)(hE:ops.map zA=E)(hn:E.all (fun l=>l.all fun k=>decide (k<ops.length))=true)
  (hlt:((List.range ops.length).all fun i=>(E.getD i []).all fun k=>decide (k<i))=true) (hI:((List.range ops.length).all fun i=>M0.testBit i||I.contains i)=true)
  (hSt: ∀m,(St m).n=N) (hed:qdn P ops hd (ops.map (·.dst)) St E I) (hK:K (St (2 ^ ops.length - 1))): ∀(fuel m:Nat),m<2 ^ ops.length->(∀i,M0.testBit i=true->m.testBit i=true)->(∀j,m.testBit j=true->∀k∈E.getD j [],m.testBit k=true)->cnt ops.length m=fuel->z7 P ops N K fuel (zj ops.length m) (St m)
 | 0,m,hm,hM,hcl,hc=>by
  have Zr:=qj0 _ hc
  have hme:m=2 ^ ops.length - 1:=Nat.eq_of_testBit_eq fun i=>by
   rw[Nat.testBit_two_pow_sub_one]
   by_cases h:i<ops.length
   ·rw[Zr i h,decide_eq_true h]
   ·rw[decide_eq_false h];exact Nat.testBit_lt_two_pow (yA hm (Nat.pow_le_pow_right (by omega) (by omega)))
  refine qcq ?_ (by rw[hme];exact hK)
  rw[vf hE hn]
  have:vM E m= []:=List.eq_nil_iff_forall_not_mem.2 fun i hi=>by
   obtain⟨j,l,h1,h2,h3,_⟩:=(ZN E 0 i).1 hi
   have hj:=(wd.1 h1).1
   rw[<-hE,we]at hj
   rw[Zr i (by omega)]at h3;cases h3
  rw[this]
 | fuel+1,m,hm,hM,hcl,hc=>by
  have hne:vM E m≠ []:=fun e=>by
   have Qu: ∀n,n<=ops.length->∀i,i<n->m.testBit i=true:=by
    intro n
    induction n with
    | zero=>intro _ i h;omega
    | succ n ih=>
     intro hnl i hi
     have ih:=ih (by omega)
     by_cases e2:i=n
     ·subst e2
      cases hb2:m.testBit i
      ·have hil:i<E.length:=by rw[<-hE,we];omega
       have:i∈vM E m:=(ZN E 0 i).2 ⟨i,E[i],wc hil,by omega,hb2,w5.2 fun k hk=>by
        have h1:=w5.1 hlt i (y9.2 (by omega))
        rw[yv,wc hil]at h1
        have h2:=w5.1 h1 k hk
        exact ih k (by simpa using h2)⟩
       rw[e]at this;cases this
      ·rfl
     ·exact ih i (by omega)
   have: ∀n,n<=ops.length->cnt n m=0:=by
    intro n
    induction n with
    | zero=>intro _;rfl
    | succ n ih=>intro h;rw[cnt,ih (by omega),Qu (n+1) h n (by omega)];rfl
   rw[this _ (wv _)]at hc
   omega
  refine Zm hb (vf hE hn m) hne fun i hi=>?_
  obtain⟨j,l,h1,h2,h3,h4⟩:=(ZN E 0 i).1 hi
  have hj:=(wd.1 h1).1
  rw[<-hE,we]at hj
  have hij:i=j:=by omega
  subst hij
  have hi0:i∈I:=by
   have:=w5.1 hI i (y9.2 hj)
   rw[yX]at this
   rcases this with h|h
   ·rw[hM i h]at h3;cases h3
   ·simpa using h
  have hdi: ∀k∈E.getD i [],m.testBit k=true:=fun k hk=>by
   rw[yv,h1]at hk
   exact w5.1 h4 k hk
  have h10:=qg6 hed hi0 m h3 hcl hdi
  have ho:ops[i]? =some ops[i]:=wc hj
  refine⟨ops[i],ho,?_⟩
  simp only[qT,ho]at h10
  rw[vl hj]
  have ih:=qof hb hE hn hlt hI hSt hed hK fuel (m ||| 2 ^ i) (Nat.or_lt_two_pow hm (Nat.pow_lt_pow_right (by omega) hj)) (fun k hk=>by rw[vI,hM k hk];rfl) (fun j hj2 k hk=>by
   rw[vI,yX]at hj2 ⊢
   rcases hj2 with h|h
   ·exact .inl (hcl j h k hk)
   ·have:i=j:=by simpa using h
    subst this;exact .inl (hdi k hk)) (by have:=qrH h3 _ hj;omega)
  exact vB (fun s' h'=>qdG h' (hSt _) ih) (zF h10)
def qhk(ops:List Oper)(N:Nat)(E:List (List Nat))(pa I:List Nat):Bool:=
 dstB ops N&&Region.noSelect ops.toArray&&(E.all fun l=>l.all fun k=>decide (k<ops.length))&&blOk ops E pa 0&&((List.range ops.length).all fun i=>(E.getD i []).all fun k=>decide (k<i))&&((List.range ops.length).all fun i=>(vJ pa 0).testBit i||I.contains i)&&((List.range E.length).all fun j=> !(vJ pa 0).testBit j||(E.getD j []).all fun k=>(vJ pa 0).testBit k)&&decide (vJ pa 0<2 ^ ops.length)&&(cnt ops.length (vJ pa 0)+pa.length==ops.length)
theorem qoc{id:Nat}{l:List Oper}{s:DS}{Q:Exit->DS->Prop}{N:Nat}(hd:List Nat)(E:List (List Nat))(pa I:List Nat)(St:Nat->DS)(full:Nat)(hm:P.follows .mixedOrders=true)(hn:s.n=N)(hE:l.map zA=E)(hc:qhk l N E pa I=true)(hf:2 ^ l.length - 1=full)
  (hSt: ∀m,(St m).n=N) (h0:blW P l (l.map (·.dst)) pa s fun s'=>s'.Sub (St (vJ pa 0))) (he:qdn P l hd (l.map (·.dst)) St E I) (hq:Q .normal (St full)):DW P (.region id l.toArray true) s Q:=by
 simp only[qhk,wu,beq_iff_eq,decide_eq_true_eq]at hc
 obtain⟨⟨⟨⟨⟨⟨⟨⟨h1,h6⟩,h2⟩,h7⟩,h3⟩,h4⟩,h9⟩,h8⟩,h5⟩:=hc
 subst hn
 refine qjV h1 hm ?_
 have:=qof (K:=Q .normal) h1 hE h2 h3 h4 hSt he (by rw[hf];exact hq) _ (vJ pa 0) h8 (fun _ h=>h) (fun j hj k hk=>by
  by_cases hl:j<E.length
  ·have:=w5.1 h9 j (y9.2 hl)
   rw[hj]at this
   exact w5.1 (by simpa using this) k hk
  ·rw[yv,wZ (by omega)]at hk;cases hk) rfl
 have key:=bl_ok (hSt _) h1 h6 hE h2 pa 0 s h7 this h0
 rw[h5]at key
 rw[qbM]
 exact key
theorem qlr(ops:List Oper)(hd:List Nat)(ds:List (Option Nat))(St:Nat->DS)(E:List (List Nat)):qdn P ops hd ds St E []=True:=rfl
theorem qiu(ops:List Oper)(hd:List Nat)(ds:List (Option Nat))(St:Nat->DS)(E:List (List Nat))(i:Nat)(r:List Nat):qdn P ops hd ds St E (i::r)=((∀m,m.testBit i=false->(∀j,m.testBit j=true->∀k∈E.getD j [],m.testBit k=true)->(∀k∈E.getD i [],m.testBit k=true)->Go.Dl.wk P ds (qT ops hd [i]) (St m) (fun s'=>s'.Sub (St (m ||| 2 ^ i))))/\qdn P ops hd ds St E r):=rfl
attribute [go_sem] qlr qiu
end
def stG(N:Nat)(base:List (Nat×D))(tab:List (Nat×Nat×D))(bx:Nat->Mem)(m:Nat):DS:=
 kn N (base++tab.map fun p=>(p.2.1,if m.testBit p.1=true then p.2.2 else .any)) (bx m)
end
end Go.Dl
namespace Go.Dl
open Go.RowKit Go.Maps
noncomputable section
abbrev MRd:=Value->Option (DataW Unit×List MemPlace)
inductive MO where
 | mp (k:TypeId) (R:MRd) (n:Nat) (D:DataW Unit)
 | it (b:Nat) (k:TypeId) (R:MRd) (n:Nat) (D:DataW Unit) (left:Lit->Bool) (cnt:Nat) (cur:Option (Value×Value))
 | st (s:ByteArray) (pos:Nat)
abbrev MS:=Nat->Option MO
def noMap:MS:=fun _=>none
def MS.set(M:MS)(b:Nat)(m:MO):MS:=fun k=>if k=b then some m else M k
def mlB:Obj->Bool
 | .map .. =>true
 | .mapIter .. =>true
 | .stringIter .. =>true
 | _=>false
def MapLike(w:World)(b:Nat):Prop:=∃ob,w.heap[b]? =some ob/\mlB ob=true
theorem MapLike.lt{w:World}{b:Nat}(h:MapLike w b):b<w.heap.size:=by
 obtain⟨_,h,_⟩:=h;exact(wF.1 h).1
theorem MapLike.no{w:World}{b:Nat}(h:MapLike w b){arr e m}(h2:w.heap[b]? =some (.cells arr e m)):False:=by
 obtain⟨_,h,h3⟩:=h;rw[h]at h2;injection h2 with h2;subst h2;cases h3
theorem MapLike.noD{w:World}{b:Nat}(h:MapLike w b){l}(h2:w.heap[b]? =some (.deferred l)):False:=by
 obtain⟨_,h,h3⟩:=h;rw[h]at h2;injection h2 with h2;subst h2;cases h3
theorem MapLike.cell{w:World}{b:Nat}(h:MapLike w b)(o:Nat):w.cell? ⟨b,o,none⟩=none:=by
 obtain⟨ob,h,h3⟩:=h
 cases ob<;>first|(cases h3;done)|simp[World.cell?,h]
theorem MapLike.congr{w w':World}{b:Nat}(h:MapLike w b)(e:w'.heap[b]? =w.heap[b]?):MapLike w' b:=by
 unfold MapLike;rw[e];exact h
def Entry(P:Program)(w:World)(r:Nat)(kv:Value×Value):Prop:=(Instr.entry (.pointer (some ⟨r,0,none⟩))).run P w= .ok (.tuple #[kv.1,kv.2]) w
theorem Entry.same{P:Program}{w w':World}{r b:Nat}{kv:Value×Value}(h:Entry P w r kv){s:Nat}{seen:Array Nat}{c:Nat}(hr:w.heap[r]? =some (.mapIter (some b) s seen c))(h1:w'.heap[r]? =w.heap[r]?)(h2:w'.heap[b]? =w.heap[b]?):Entry P w' r kv:=by
 unfold Entry at*
 have hr':=h1.trans hr
 cases hs:seen.back? with
 | none=>simp[Instr.entry,getObj,Sem.run,hr,hs,Result.andThen]at h
 | some st=>
  cases hb:w.heap[b]? with
  | none=>simp[Instr.entry,getObj,Sem.run,hr,hs,hb,Result.andThen]at h
  | some ob=>
   have hb':=h2.trans hb
   cases ob with
   | map es cl=>
    by_cases hc:cl=c
    rotate_left
    ·simp[Instr.entry,getObj,Sem.run,hr,hs,hb,hc,Result.andThen]at h
    ·cases hf:es.find? (·.born==st)with
     | none=>simp[Instr.entry,getObj,Sem.run,hr,hs,hb,hc,hf,Result.andThen]at h
     | some e=>
      simp[Instr.entry,getObj,Sem.run,hr,hs,hb,hc,hf,Result.andThen]at h
      simp[Instr.entry,getObj,Sem.run,hr',hs,hb',hc,hf,Result.andThen,h]
   | _=>simp[Instr.entry,getObj,Sem.run,hr,hs,hb,Result.andThen]at h
def MO.ok(P:Program)(w:World)(b:Nat):MO->Prop
 | .mp k R n D=>w.ownsMap P k R b n D
 | .it b' k R n D left cnt cur=>w.ranges P k R b' b n D left cnt/\∀kv,cur=some kv->Entry P w b kv
 | .st s pos=>w.heap[b]? =some (.stringIter s pos)
theorem MO.ok.like{P:Program}{w:World}{b:Nat}: ∀{m:MO},m.ok P w b->MapLike w b
 | .mp ..,⟨es,c,h,_⟩=>⟨_,h,rfl⟩
 | .it ..,⟨⟨_,_,_,_,_,_,_,_,_,h,_⟩,_⟩=>⟨_,h,rfl⟩
 | .st ..,h=>⟨_,h,rfl⟩
def MO.on(b:Nat):MO->Prop
 | .mp .. =>False
 | .it b' .. =>b'=b
 | .st .. =>False
theorem MO.ok.keep1{P:Program}{w w':World}{b:Nat}{m:MO}(h:m.ok P w b)(h1:w'.heap[b]? =w.heap[b]?)(h2: ∀c,m.on c->MapLike w c->w'.heap[c]? =w.heap[c]?):m.ok P w' b:=by
 cases m with
 | mp k R n D=>
  obtain⟨es,c,g1,g2⟩:=h
  exact⟨es,c,h1.trans g1,g2⟩
 | it b' k R n D left cnt cur=>
  obtain⟨⟨es,clock,since,seen,c0,hb,F,hs,hD,hr,rest⟩,hc⟩:=h
  have hb':=h2 b' rfl ⟨_,hb,rfl⟩
  exact⟨⟨es,clock,since,seen,c0,hb'.trans hb,F,hs,hD,h1.trans hr,rest⟩,fun kv e=>(hc kv e).same hr h1 hb'⟩
 | st s pos=>exact h1.trans h
theorem MO.ok.keep{P:Program}{w w':World}{b:Nat}{m:MO}(h:m.ok P w b)(hk: ∀b,MapLike w b->w'.heap[b]? =w.heap[b]?):m.ok P w' b:=h.keep1 (hk b h.like) fun c _ hc=>hk c hc
def MOk(P:Program)(w:World)(M:MS):Prop:=∀b m,M b=some m->m.ok P w b
theorem MOk.keep{P:Program}{w w':World}{M:MS}(h:MOk P w M)(hk: ∀b,MapLike w b->w'.heap[b]? =w.heap[b]?):MOk P w' M:=fun b m hm=>(h b m hm).keep hk
theorem MOk.lt{P:Program}{w:World}{M:MS}(h:MOk P w M){b:Nat}(hb:(M b).isSome=true):b<w.heap.size:=by
 obtain⟨m,hm⟩:=y7.1 hb
 exact(h b m hm).like.lt
theorem qqh(P:Program)(w:World):MOk P w noMap:=fun b m h=>by cases h
structure MT(G:Nat->Prop)(w w':World):Prop where
 os:w'.os=w.os
 tape:w'.tape=w.tape
 output:w'.output=w.output
 size:w'.heap.size=w.heap.size
 block: ∀b,w'.heap[b]? =w.heap[b]?\/(G b/\MapLike w b/\MapLike w' b)
theorem MT.refl(G:Nat->Prop)(w:World):MT G w w:=⟨rfl,rfl,rfl,rfl,fun _=>.inl rfl⟩
theorem MT.mono{G G':Nat->Prop}{w w':World}(h:MT G w w')(hG: ∀b,b<w.heap.size->G b->G' b):MT G' w w':=
 ⟨h.os,h.tape,h.output,h.size,fun b=>(h.block b).imp id fun⟨h1,h2,h3⟩=>⟨hG b h2.lt h1,h2,h3⟩⟩
theorem MT.trans{G:Nat->Prop}{a b c:World}(h:MT G a b)(k:MT G b c):MT G a c:=by
 refine⟨k.os.trans h.os,k.tape.trans h.tape,k.output.trans h.output,k.size.trans h.size,fun i=>?_⟩
 rcases h.block i with h1|⟨h1,h2,h3⟩
 ·rcases k.block i with k1|⟨k1,k2,k3⟩
  ·exact .inl (k1.trans h1)
  ·exact .inr ⟨k1,k2.congr h1.symm,k3⟩
 ·rcases k.block i with k1|⟨k1,k2,k3⟩
  ·exact .inr ⟨h1,h2,h3.congr k1⟩
  ·exact .inr ⟨h1,h2,k3⟩
theorem MT.cells{G:Nat->Prop}{w w':World}(h:MT G w w'){b:Nat}{arr e m}(hb:w.heap[b]? =some (.cells arr e m)):w'.heap[b]? =w.heap[b]? :=
 (h.block b).resolve_right fun⟨_,h2,_⟩=>h2.no hb
theorem MT.cell{G:Nat->Prop}{w w':World}(h:MT G w w')(b o:Nat):w'.cell? ⟨b,o,none⟩=w.cell? ⟨b,o,none⟩:=by
 rcases h.block b with h1|⟨_,h2,h3⟩
 ·exact World.cell?_of_block (w:=w) (a:=⟨b,o,none⟩) h1
 ·rw[h2.cell,h3.cell]
def Z3(x w':World):World:={ x with heap:=x.heap.mapIdx fun i o=>if mlB o=true then(w'.heap[i]?).getD o else o }
theorem qbu{x w':World}{b:Nat}(h:MapLike x b)(hs:x.heap.size<=w'.heap.size):(Z3 x w').heap[b]? =w'.heap[b]? :=by
 have hlt:=h.lt
 have hw:w'.heap[b]? =some (w'.heap[b]'(by omega)):=wY (by omega)
 obtain⟨ob,h,h3⟩:=h
 simp[Z3,Array.getElem?_mapIdx,h,hw,h3]
theorem qcV{x w':World}{b:Nat}(h: ¬MapLike x b):(Z3 x w').heap[b]? =x.heap[b]? :=by
 simp only[Z3,Array.getElem?_mapIdx]
 cases hb:x.heap[b]? with
 | none=>rfl
 | some o=>
  have: ¬mlB o=true:=fun e=>h ⟨o,hb,e⟩
  simp[this]
theorem Free.mt{G:Nat->Prop}{w w':World}(h:MT G w w'){b o:Nat}(hf:Free w b o):Free w' b o:=by
 obtain⟨arr,e,h1,h2⟩:=hf
 exact⟨arr,e,(h.cells h1).trans h1,h2⟩
theorem GSz.mt{G:Nat->Prop}{w w':World}(h:GSz w)(t:MT G w w'):GSz w':=h.same fun b cs e m hb=>⟨cs,e,m,(t.cells hb).trans hb,rfl⟩
theorem MT.later{G:Nat->Prop}{w w':World}(h:MT G w w')(E:Env):Later w E w' E:=⟨fun b o hb=>⟨hb,h.cell b o⟩,rfl,rfl⟩
theorem qe1{F:KSet}{G:Nat->Prop}{x w w':World}(t:Turn F x w)(h:MT G w w'):MT G x (Z3 x w')/\Turn F (Z3 x w') w':=by
 have hs:x.heap.size<=w'.heap.size:=by rw[h.size];exact t.size
 have like: ∀b,MapLike x b->w.heap[b]? =x.heap[b]? :=fun b hb=>(t.block b hb.lt).resolve_right fun⟨arr,e,arr',h1,_⟩=>hb.no h1
 refine⟨⟨rfl,rfl,rfl,by simp[Z3],fun b=>?_⟩,⟨h.os.trans t.os,h.tape.trans t.tape,h.output.trans t.output,by simpa[Z3]using hs,fun b hb=>?_⟩⟩
 ·by_cases hl:MapLike x b
  ·rw[qbu hl hs]
   rcases h.block b with h1|⟨h1,h2,h3⟩
   ·exact .inl (h1.trans (like b hl))
   ·exact .inr ⟨h1,hl,h3.congr (qbu hl hs)⟩
  ·exact .inl (qcV hl)
 ·have hb':b<x.heap.size:=by simpa[Z3]using hb
  by_cases hl:MapLike x b
  ·exact .inl (qbu hl hs).symm
  ·rw[qcV hl]
   rcases t.block b hb' with h1|⟨arr,e,arr',h1,h2,h3,h4⟩
   ·rcases h.block b with k1|⟨k1,k2,k3⟩
    ·exact .inl (k1.trans h1)
    ·exact absurd (k2.congr h1.symm) hl
   ·exact .inr ⟨arr,e,arr',h1,(h.cells h2).trans h2,h3,h4⟩
theorem WI.mt{X:Origin}{w w':World}{E:Env}{bx:Mem}{G:Nat->Prop}(h:WI X w E bx)(t:MT G w w'):WI { X with w:=Z3 X.w w' } w' E bx:=by
 have hl:=t.later E
 have hsz:(Z3 X.w w').heap.size=X.w.heap.size:=by simp[Z3]
 refine⟨(qe1 h.turn t).2,h.sep,h.kin,fun b o hb hF hk=>h.kold b o (by rw[<-hsz];exact hb) hF hk,h.kok.move (fun b o _=>t.cell b o) (h.kok.z.mt t),fun n rows hn hne=>?_,h.boxne,fun n b o hs=>?_,h.disj,h.sbox,h.fix⟩
 ·obtain⟨h1,h2,h3⟩:=h.boxes n rows hn hne
  obtain⟨sz,arr,e,q,_⟩:=id h2
  exact⟨h1.imp (fun g=>by rw[hsz];exact g) id,h2.mono hl (t.cells q),h3⟩
 ·obtain⟨h1,h2,h3⟩:=h.free n b o hs
  exact⟨h1.imp (fun g=>by rw[hsz];exact g) id,h2,h3.mt t⟩
theorem DefOK.mt{X:Origin}{ds:List Deferred}{w w':World}{G:Nat->Prop}(h:DefOK X ds w)(t:MT G w w'):DefOK { X with w:=Z3 X.w w' } ds w':=by
 obtain⟨h0,Ds,h1,h2,h3⟩:=h
 refine⟨by simpa[Z3]using h0,Ds,h1,h2,fun D hD=>⟨(h3 D hD).1,((t.block D).resolve_right fun⟨_,g,_⟩=>?_).trans (h3 D hD).2⟩⟩
 exact g.noD (h3 D hD).2
theorem RelE.mt{X:Origin}{s:DS}{E:Env}{a:Act}{w w':World}{G:Nat->Prop}(h:RelE X s E a w)(t:MT G w w'):RelE { X with w:=Z3 X.w w' } s E a w':=
 ⟨h.wi.mt t,fun x=>(h.sl x).mono (t.later E),h.size,h.defers.mt t,h.small,h.pl⟩
theorem qkx{X:Origin}{s:DS}{a:Act}{w:World}(h:Rel X s a w): ∃X2:Origin,X2.w=w/\X2.ro=X.ro/\Rel X2 s a w/\∀s' a' w',Rel X2 s' a' w'->Rel X s' a' w':=by
 obtain⟨E,hE⟩:=h
 obtain⟨F2,hF2⟩: ∃F2:KSet,F2=fun b o=>¬X.K b o/\((b<X.w.heap.size/\X.F b o)\/X.w.heap.size<=b):=⟨_,rfl⟩
 have hsz:=hE.wi.turn.size
 have yF: ∀{b o:Nat},¬X.K b o->X.Young b o->F2 b o:=fun {b o} hk hy=>by
  rw[hF2]
  rcases hy with hy|hy
  ·exact⟨hk,.inr hy⟩
  ·rcases yg b X.w.heap.size with hlt|hge
   ·exact⟨hk,.inl ⟨hlt,hy⟩⟩
   ·exact⟨hk,.inr hge⟩
 have Fy: ∀{b o:Nat},F2 b o->X.Young b o:=fun {b o} hf=>by
  rw[hF2]at hf
  exact hf.2.symm.imp id fun g=>g.2
 have Flt: ∀{b o:Nat},b<X.w.heap.size->F2 b o->X.F b o:=fun {b o} hlt hf=>(Fy hf).resolve_left (by omega)
 refine⟨{ X with w:=w,K:=fun b o=>E.K b o/\¬F2 b o,F:=F2 },rfl,rfl,⟨E,⟨⟨Turn.refl _ _,fun b o h=>h.2,fun b o h=>h.1,fun b o _ hF hk=>⟨hk,hF⟩,hE.wi.kok,fun n rows hn hne=>?_,hE.wi.boxne,fun n b o hs=>?_,hE.wi.disj,hE.wi.sbox,hE.wi.fix⟩,hE.sl,hE.size,?_,hE.small,hE.pl⟩⟩,?_⟩
 ·obtain⟨h1,h2,h3⟩:=hE.wi.boxes n rows hn hne
  exact⟨.inr fun o=>yF (fun hk=>h3 o (hE.wi.kin _ o hk)) (h1.imp id fun g=>g o),h2,h3⟩
 ·obtain⟨h1,h2,h3⟩:=hE.wi.free n b o hs
  exact⟨.inr (yF (fun hk=>h2 (hE.wi.kin _ o hk)) h1),h2,h3⟩
 ·obtain⟨h0,h1⟩:=hE.defers
  exact⟨wD h0 hsz,h1⟩
 ·rintro s' a' w' ⟨E',h⟩
  refine⟨E',⟨⟨hE.wi.turn.trans h.wi.turn fun i o hi hf=>Flt hi hf,hE.wi.sep,fun b o hk=>h.wi.kin b o ⟨hE.wi.kin b o hk,fun hf=>by rw[hF2]at hf;exact hf.1 hk⟩,fun b o hlt hF hk=>?_,h.wi.kok,fun n rows hn hne=>?_,h.wi.boxne,fun n b o hs=>?_,h.wi.disj,h.wi.sbox,h.wi.fix⟩,h.sl,h.size,?_,h.small,h.pl⟩⟩
  ·exact hE.wi.kold b o hlt hF (h.wi.kold b o (yA hlt hsz) (fun hf=>hF (Flt hlt hf)) hk).1
  ·obtain⟨h1,h2,h3⟩:=h.wi.boxes n rows hn hne
   refine⟨?_,h2,h3⟩
   rcases h1 with h1|h1
   ·exact .inl (wD hsz h1)
   ·rcases yg (E'.ρ n) X.w.heap.size with hlt|hge
    ·exact .inr fun o=>Flt hlt (h1 o)
    ·exact .inl hge
  ·obtain⟨h1,h2,h3⟩:=h.wi.free n b o hs
   refine⟨?_,h2,h3⟩
   rcases h1 with h1|h1
   ·exact .inl (wD hsz h1)
   ·exact Fy h1
  ·obtain⟨h0,h1⟩:=h.defers
   exact⟨hE.defers.1,h1⟩
def RelM(P:Program)(G:Nat->Prop)(X:Origin)(s:DS)(M:MS)(a:Act)(w:World):Prop:=
 ∃x,MT G X.w x/\Rel { X with w:=x } s a w/\MOk P w M/\∀b,(M b).isSome=true->b<X.w.heap.size->G b
theorem RelM.keep{P:Program}{G:Nat->Prop}{X:Origin}{s:DS}{M:MS}{a:Act}{w:World}(h:RelM P G X s M a w):
  ∃X2:Origin,X2.ro=X.ro/\Rel X2 s a w/\∀s' a' w',Rel X2 s' a' w'->RelM P G X s' M a' w':=by
 obtain⟨x,h1,h2,h3,h4⟩:=h
 obtain⟨X2,e1,e2,h5,h6⟩:=qkx h2
 refine⟨X2,e2,h5,fun s' a' w' h=>⟨x,h1,h6 _ _ _ h,h3.keep fun b hb=>?_,h4⟩⟩
 obtain⟨E',hE⟩:=h
 have ht:=hE.wi.turn
 rw[e1]at ht
 exact(ht.block b hb.lt).resolve_right fun⟨arr,e,arr',k1,_⟩=>hb.no k1
def MW(P:Program)(c:Code)(s:DS)(M:MS)(Q:Exit->DS->MS->Prop):Prop:=
 ∀G X a w,RelM P G X s M a w->c.wpIn (rd X.ro) 0 P (fun e a' w'=>∃s' M',Q e s' M'/\RelM P G X s' M' a' w') a w
def qdN(next:DS->MS->Prop)(Q:Exit->DS->MS->Prop):Exit->DS->MS->Prop
 | .normal,s,M=>next s M
 | e,s,M=>Q e s M
def Ze(id:Nat)(Q:Exit->DS->MS->Prop):Exit->DS->MS->Prop
 | .exit id',s,M=>if id'=id then Q .normal s M else Q (.exit id') s M
 | e,s,M=>Q e s M
section
variable {P : Program} {s : DS} {M : MS} {Q : Exit -> DS -> MS -> Prop}
theorem MW.mono{c:Code}{Q':Exit->DS->MS->Prop}(h:MW P c s M Q)(hq: ∀e s M,Q e s M->Q' e s M):MW P c s M Q':=
 fun G X a w hr=>wpIn_mono (h G X a w hr) fun _ _ _ ⟨s',M',h1,h2⟩=>⟨s',M',hq _ _ _ h1,h2⟩
theorem qam{c:Code}(h:DW P c s (fun e s'=>Q e s' M)):MW P c s M Q:=fun G X a w hr=>by
 obtain⟨X2,e,h1,h2⟩:=hr.keep
 refine wpIn_mono (e▸h X2 a w h1) ?_
 rintro e' a' w' ⟨s',h3,h4⟩
 exact⟨s',M,h3,h2 _ _ _ h4⟩
theorem qe{x y:Code}(h:MW P x s M (qdN (fun s' M'=>MW P y s' M' Q) Q)):MW P (.seq x y) s M Q:=by
 intro G X a w hr
 refine wpIn_seq (wpIn_mono (h G X a w hr) ?_)
 rintro e a' w' ⟨s',M',h1,h2⟩
 cases e with
 | normal=>exact h1 G X a' w' h2
 | _=>exact⟨s',M',h1,h2⟩
theorem vK(h:Q .normal s M):MW P .skip s M Q:=fun _ _ _ _ hr=>wpIn_skip ⟨s,M,h,hr⟩
theorem qbv{id:Nat}(h:Q (.exit id) s M):MW P (.exit id) s M Q:=fun _ _ _ _ hr=>wpIn_exit ⟨s,M,h,hr⟩
theorem qc1(h:Q .ret s M):MW P .ret s M Q:=fun _ _ _ _ hr=>wpIn_ret ⟨s,M,h,hr⟩
theorem vh{id:Nat}{c:Code}(h:MW P c s M (Ze id Q)):MW P (.block id c) s M Q:=by
 intro G X a w hr
 refine wpIn_block (wpIn_mono (h G X a w hr) ?_)
 rintro e a' w' ⟨s',M',h1,h2⟩
 cases e with
 | exit id'=>
  simp only[Exit.inBlock,Ze]at h1 ⊢
  split
  ·rename_i he;rw[if_pos he]at h1;exact⟨s',M',h1,h2⟩
  ·rename_i he;rw[if_neg he]at h1;exact⟨s',M',h1,h2⟩
 | _=>exact⟨s',M',h1,h2⟩
theorem qP{c:Operand}{x y:Code}{t:Bool}(hc:s.ev c= .one (.c (.lit (.bool t))))(ht:t=true->MW P x s M Q)(hf:t=false->MW P y s M Q):MW P (.cond c x y) s M Q:=by
 intro G X a w hr
 obtain⟨x0,h1,⟨E,hE⟩,h2⟩:=id hr
 have hv:=hE.ev c
 rw[hc]at hv
 exact wpIn_cond_split hv.lit (fun h=>ht h G X a w hr) (fun h=>hf h G X a w hr)
theorem vN{c:Code}{s':DS}(hs:s.Sub s')(h:MW P c s' M Q):MW P c s M Q:=fun G X a w ⟨x,h1,h2,h3⟩=>h G X a w ⟨x,h1,hs _ _ _ h2,h3⟩
theorem qe7{α:Type}{c:Code}(S:α->DS)(MM:α->MS)(Inv:α->Prop)(μ:α->Nat)(x0:α)(h0:s.Sub (S x0))(hg:M=MM x0)(hi:Inv x0)
  (round: ∀x,Inv x->MW P c (S x) (MM x) (qdN (fun s' M'=>∃x',Inv x'/\μ x'<μ x/\s'.Sub (S x')/\M'=MM x') Q)):MW P (.loop c) s M Q:=by
 intro G X a w hr b k cs hro hb zJ
 have key: ∀q x,μ x=q->Inv x->∀a w,RelM P G X (S x) (MM x) a w->
   ∃e a' w',(∃s' M',Q e s' M'/\RelM P G X s' M' a' w')/\ArrivesIn (Machine.fenced P (rd X.ro)) P (lone (b.atR a (.code c:: .inLoop c::k)) cs w) b k cs e a' w':=by
  intro q
  induction q using Nat.strongRecOn with
  | _ q ih=>
   intro x hm hI a w hr
   obtain⟨e,a₁,w₁,⟨s₁,M₁,hq,hr₁⟩,qbh⟩:=round x hI G X a w hr b (.inLoop c::k) cs hro hb zJ
   cases e with
   | normal=>
    obtain⟨x',hI₁,hlt,hsub,rfl⟩:=hq
    obtain⟨y,q1,q2,q3⟩:=hr₁
    obtain⟨e₂,a₂,w₂,q4,harr₂⟩:=ih (μ x') (hm▸hlt) x' rfl hI₁ a₁ w₁ ⟨y,q1,hsub _ _ _ q2,q3⟩
    exact⟨e₂,a₂,w₂,q4,.of_steps (StepsIn.trans qbh (.one (fenced_calm hb zJ rfl) stepR_inLoop)) harr₂⟩
   | exit id=>exact⟨_,a₁,w₁,⟨s₁,M₁,hq,hr₁⟩,.pass (x:=.inLoop c) rfl (fun _ _=>.inl (by simp)) qbh⟩
   | goto l=>exact⟨_,a₁,w₁,⟨s₁,M₁,hq,hr₁⟩,.pass (x:=.inLoop c) rfl (fun _ _=>.inl (by simp)) qbh⟩
   | ret=>exact⟨_,a₁,w₁,⟨s₁,M₁,hq,hr₁⟩,.pass (x:=.inLoop c) rfl (fun _ _=>.inl (by simp)) qbh⟩
   | panic ch=>exact⟨_,a₁,w₁,⟨s₁,M₁,hq,hr₁⟩,.pass (x:=.inLoop c) rfl (fun _ _=>.inl (by simp)) qbh⟩
   | outgrown=>exact⟨_,a₁,w₁,⟨s₁,M₁,hq,hr₁⟩,.pass (x:=.inLoop c) rfl (fun _ _=>.inl (by simp)) qbh⟩
 obtain⟨x,q1,q2,q3⟩:=hr
 obtain⟨e,a',w',hq,qbh⟩:=key _ x0 rfl hi a w ⟨x,q1,h0 _ _ _ q2,hg▸q3⟩
 exact⟨e,a',w',hq,.of_steps (.one (fenced_calm hb zJ rfl) stepR_loop) qbh⟩
end
end
end Go.Dl
namespace Go.Dl
open Go.RowKit Go.Maps
noncomputable section
def StepM(P:Program)(o:Oper)(s:DS)(M:MS)(K:DS->MS->Prop):Prop:=
 (∀d,o.dst=some d->d<s.n)->∀G X a w,RelM P G X s M a w->∀Q:Exit->Act->World->Prop,o.wp P a w (fun a' w'=>∃s' M',(s'.n=s.n/\K s' M')/\RelM P G X s' M' a' w') Q
section
variable {P : Program} {o : Oper} {s : DS} {M : MS} {K : DS -> MS -> Prop}
theorem StepM.of(h:Step P o s (fun s'=>K s' M)):StepM P o s M K:=by
 intro hd G X a w hr Q
 obtain⟨X2,_,h1,h2⟩:=hr.keep
 refine Oper.wp_mono ?_ (h hd X2 a w h1 Q)
 rintro a' w' ⟨s',h3,h4⟩
 exact⟨s',M,h3,h2 _ _ _ h4⟩
theorem putAnyM{G:Nat->Prop}{X:Origin}{a:Act}{w:World}(h:RelM P G X s M a w){dst:Option Nat}(hd: ∀d,dst=some d->d<s.n):RelM P G X (s.put dst (.tup [])) M (a.put dst undef) w:=by
 obtain⟨x,h1,h2,h3⟩:=h
 exact⟨x,h1,qcR h2 hd,h3⟩
theorem RelM.put{G:Nat->Prop}{X:Origin}{a:Act}{w:World}(h:RelM P G X s M a w){dst:Option Nat}(hd: ∀d,dst=some d->d<s.n){d:D}{v:Value}(hv: ∀E,VD w E d v):RelM P G X (s.put dst d) M (a.put dst v) w:=by
 obtain⟨x,h1,⟨E,hE⟩,h3⟩:=h
 exact⟨x,h1,⟨E,hE.putOnly hd (hv E)⟩,h3⟩
theorem RelM.ev{G:Nat->Prop}{X:Origin}{a:Act}{w:World}(h:RelM P G X s M a w){x:Operand}{u:Value}(hx:s.ev x= .one (.c (.lit u))):a.eval x=u:=by
 obtain⟨y,h1,⟨E,hE⟩,h3⟩:=h
 have:=hE.ev x
 rw[hx]at this
 exact this.lit
theorem RelM.map{G:Nat->Prop}{X:Origin}{a:Act}{w:World}(h:RelM P G X s M a w){b:Nat}{m:MO}(hb:M b=some m):m.ok P w b:=by
 obtain⟨x,_,_,h3,_⟩:=h
 exact h3 b m hb
def qde(P:Program)(ops:List Oper)(o:Oper)(s:DS)(M:MS)(K:DS->MS->Prop):Prop:=
 match vR ops s o with
 | some t=>if t=true then StepM P o s M K else K (s.put o.dst (.tup [])) M
 | none=>False
def vL(P:Program)(ops:List Oper):List Oper->DS->MS->(DS->MS->Prop)->Prop
 | [],s,M,K=>K s M
 | o::l,s,M,K=>qde P ops o s M fun s' M'=>vL P ops l s' M' K
theorem qeG{ro:Option Nat}{Q':Exit->Act->World->Prop}{ops:List Oper}{G:Nat->Prop}{X:Origin}{N:Nat}{K:DS->MS->Prop}(hK: ∀s M a w,K s M->RelM P G X s M a w->Q' .normal a w): ∀(l:List Oper) (s:DS) (M:MS) (a:Act) (w:World),dstB l N=true->s.n=N->RelM P G X s M a w->
  vL P ops l s M K->wpListIn (rd ro) 0 P ops.toArray Q' l a w
 | [],s,M,a,w,_,hn,hr,h=>wpListIn_nil (hK s M a w h hr)
 | o::l,s,M,a,w,hb,hn,hr,h=>by
  obtain⟨h0,h1,h2⟩:=QY hb
  refine wpListIn_step fun K' hK'=>?_
  simp only[vL,qde]at h
  split at h
  ·rename_i t ht
   obtain⟨x,_,hrx,_⟩:=id hr
   rw[v6 ht hrx]
   split at h
   ·rename_i h3
    rw[if_pos h3]
    refine zo h0 (Oper.wp_mono ?_ (h (fun d hd=>by rw[hn];exact h1 d hd) G X a w hr Q'))
    rintro a' w' ⟨s',M',⟨hn',hs'⟩,hr'⟩
    exact hK' _ _ (qeG hK l s' M' a' w' h2 (hn'.trans hn) hr' hs')
   ·rename_i h3
    rw[if_neg h3]
    refine⟨fun f _=>qhV ro f,?_⟩
    exact hK' _ _ (qeG hK l _ _ _ w h2 (by rw[za];exact hn) (putAnyM hr (fun d hd=>by rw[hn];exact h1 d hd)) h)
  ·exact h.elim
theorem qbj{ops:List Oper}{K:DS->MS->Prop}{M:MS}{l2:List Oper}: ∀(l1:List Oper) (s:DS),qbY P ops l1 s (fun s'=>vL P ops l2 s' M K)->vL P ops (l1++l2) s M K
 | [],_,h=>h
 | o::l,s,h=>by
  simp only[qbY,vj]at h
  simp only[wH,vL,qde]
  split at h
  ·split at h
   ·rename_i t ht h3
    simp only[ht,if_pos h3]
    exact(StepM.of (h.mono fun s' _ hs'=>qbj l s' hs'))
   ·rename_i t ht h3
    simp only[ht,if_neg h3]
    exact qbj l _ h
  ·exact h.elim
theorem qh{ops:List Oper}{K:DS->MS->Prop}{M:MS}{l:List Oper}{s:DS}(k:Nat)(h:wk P (ops.map (·.dst)) (tagS (l.take k)) s (fun s'=>vL P ops (l.drop k) s' M K)):vL P ops l s M K:=by
 have:=qbj (l.take k) s (zS (l.take k) s h)
 rwa [wS]at this
theorem qx{ops:List Oper}{K:DS->MS->Prop}{M:MS}{o:Oper}{l:List Oper}{s:DS}(hg:o.guard=none)(h:StepM P o s M fun s' M'=>vL P ops l s' M' K):vL P ops (o::l) s M K:=by
 simp only[vL,qde,vR,hg,if_true]
 exact h
theorem qcs{ops:List Oper}{K:DS->MS->Prop}{M:MS}{o:Oper}{l:List Oper}{s:DS}{b:Bool}(hg:vR ops s o=some b)(ht:b=true->StepM P o s M fun s' M'=>vL P ops l s' M' K)(hf:b=false->vL P ops l (s.put o.dst (.tup [])) M K):vL P ops (o::l) s M K:=by
 simp only[vL,qde,hg]
 cases b
 ·simp only[w8,if_false];exact hf rfl
 ·simp only[if_true];exact ht rfl
theorem qu{id:Nat}{l:List Oper}{Q:Exit->DS->MS->Prop}{N:Nat}(hn:s.n=N)(hb:dstB l N=true)(h:vL P l l s M (Q .normal)):MW P (.region id l.toArray false) s M Q:=by
 intro G X a w hr
 exact wpIn_region_lit (qeG (G:=G) (X:=X) (K:=Q .normal) (fun s M a w h1 h2=>⟨s,M,h1,h2⟩) l s M a w hb hn hr h)
theorem RelM.alloc{G:Nat->Prop}{X:Origin}{a:Act}{w:World}(h:RelM P G X s M a w)(ob:Obj){m:MO}(hm:m.ok P (w.alloc ob) w.heap.size):RelM P G X s (M.set w.heap.size m) a (w.alloc ob):=by
 obtain⟨x,h1,⟨E,hE⟩,h3,h4⟩:=h
 have hsz:X.w.heap.size<=w.heap.size:=by have:=hE.wi.turn.size;simp only at this;rw[h1.size]at this;exact this
 have hsx:x.heap.size<=w.heap.size:=hE.wi.turn.size
 refine⟨x,h1,⟨E,hE.hush (Hush.alloc ob hsx) rfl (hE.defers.of fun D hD hb=>(Below.heap_alloc w ob D (wF.1 hb).1).trans hb)⟩,fun b m' hb=>?_,fun b hb hlt=>?_⟩
 ·by_cases e:b=w.heap.size
  ·simp only[MS.set,e,if_true]at hb
   injection hb with hb;subst hb;rw[e];exact hm
  ·simp only[MS.set,e,if_false]at hb
   exact(h3 b m' hb).keep fun c hc=>Below.heap_alloc w ob c hc.lt
 ·have e:b≠w.heap.size:=by omega
  simp only[MS.set,e,if_false]at hb
  exact h4 b hb hlt
theorem RelM.fresh{G:Nat->Prop}{X:Origin}{a:Act}{w:World}(h:RelM P G X s M a w):M w.heap.size=none:=by
 cases hb:M w.heap.size with
 | none=>rfl
 | some m=>have:=(h.map hb).like.lt;omega
theorem RelM.turn{G:Nat->Prop}{X:Origin}{a:Act}{w w':World}(h:RelM P G X s M a w){b:Nat}(hb:(M b).isSome=true)(t:MT (fun c=>c=b) w w'){m:MO}(hm:m.ok P w' b)(hon: ∀r m,M r=some m->r≠b->¬m.on b):RelM P G X s (M.set b m) a w':=by
 obtain⟨x,h1,⟨E,hE⟩,h3,h4⟩:=h
 refine⟨Z3 x w',h1.trans ((qe1 hE.wi.turn t).1.mono fun c hc e=>?_),⟨E,hE.mt t⟩,fun c m' hc=>?_,fun c hc hlt=>?_⟩
 ·subst e;exact h4 c hb (by rw[h1.size]at hc;exact hc)
 ·by_cases e:c=b
  ·simp only[MS.set,e,if_true]at hc
   injection hc with hc;subst hc;rw[e];exact hm
  ·simp only[MS.set,e,if_false]at hc
   have hne:=hon c m' hc e
   have hk:=h3 c m' hc
   exact hk.keep1 ((t.block c).resolve_right fun g=>e g.1) fun d hd _=>(t.block d).resolve_right fun g=>hne (g.1▸hd)
 ·by_cases e:c=b
  ·subst e;exact h4 c hb hlt
  ·simp only[MS.set,e,if_false]at hc;exact h4 c hc hlt
theorem qjz{w w':World}{b:Nat}(h:w.grownBy w' (some b))(hs:w'.heap.size=w.heap.size)(h1:MapLike w b)(h2:MapLike w' b):MT (fun c=>c=b) w w':=by
 refine⟨h.os,h.tape,h.output,hs,fun c=>?_⟩
 by_cases e:c=b
 ·subst e;exact .inr ⟨rfl,h1,h2⟩
 ·left
  rcases yg c w.heap.size with hlt|hge
  ·exact h.block c hlt (fun g=>e (by injection g))
  ·rw[yz hge,yz (by omega)]
abbrev mpD(b:Nat):D:=.one (.c (.lit (.map (some b))))
abbrev itrD(b:Nat):D:=.one (.c (.lit (.pointer (some ⟨b,0,none⟩))))
theorem StepM.makeMap{t:TypeId}(ho:o.op= .makeMap t none)(k:TypeId)(R:MRd)(h: ∀b,M b=none->K (s.put o.dst (mpD b)) (M.set b (.mp k R 0 (.map [])))):StepM P o s M K:=by
 intro hd G X a w hr Q
 refine vu (v:=.map (some w.heap.size)) (w':=w.alloc (.map #[] 0)) (by simp only[execOp,ho,Option.map_none,Sem.run_bind,run_makeMap,Result.andThen_ok,Sem.run_pure]) ⟨_,_,⟨za _ _ _,h _ hr.fresh⟩,?_⟩
 exact(hr.alloc _ (m:=.mp k R 0 (.map [])) (World.ownsMap_made w P k R)).put hd fun E=>.one _ _ (.c _ _ (.lit _ rfl))
theorem StepM.lookup{t:TypeId}{m x:Operand}(ho:o.op= .lookup t m x false){b:Nat}{k e:TypeId}{R:MRd}{n:Nat}{D0:DataW Unit}(hb:M b=some (.mp k R n D0))(hm:s.ev m=mpD b)(hK:Keyed P k)(ht:P.underlying t=some (.map k e)){z:Value}(hz: ∀w,(zeroValue e).run P w= .ok z w){zd:DataW Unit}{zp:List MemPlace}(hzd:R z=some (zd,zp))
  {key:Value} {kl:Lit} (hx:s.ev x= .one (.c (.lit key))) (qlR:keyOf P k key=some kl) {v:Value} (hv: ∀u ps,R u=some (D0.atKey kl zd,ps)->u=v) (h1:v.oneCell'=true) (h:K (s.put o.dst (.one (.c (.lit v)))) M):StepM P o s M K:=by
 intro hd G X a w hr Q
 obtain⟨u,ps,vi,hu⟩:=World.ownsMap.lookup (hr.map hb) hK ht (hz w) hzd qlR
 obtain rfl:=hv u ps hu
 refine vu (v:=u) (w':=w) (by simp only[execOp,ho,hr.ev hm,hr.ev hx,Sem.run_bind,vi,Result.andThen_ok,Sem.run_pure]) ⟨_,_,⟨za _ _ _,h⟩,?_⟩
 exact hr.put hd fun E=>.one _ _ (.c _ _ (.lit _ h1))
theorem StepM.update{t:TypeId}{m x y:Operand}(ho:o.op= .mapUpdate t m x y)(hm':o.dst=none){b:Nat}{k e:TypeId}{R:MRd}{n:Nat}{D0:DataW Unit}(hb:M b=some (.mp k R n D0))(hm:s.ev m=mpD b)(hK:Keyed P k)(ht:P.underlying t=some (.map k e))(hn:n<maxLen)
  {key val:Value} {kl:Lit} (hx:s.ev x= .one (.c (.lit key))) (qlR:keyOf P k key=some kl) (hy:s.ev y= .one (.c (.lit val))) {d:DataW Unit} {ps:List MemPlace} (qfh:R val=some (d,ps)) (hon: ∀r m,M r=some m->r≠b->¬m.on b) (h:K s (M.set b (.mp k R (n+1) (D0.put kl d)))):StepM P o s M K:=by
 intro hd G X a w hr Q
 have ZX:=hr.map hb
 obtain⟨w',vi,h1,h2⟩:=World.ownsMap.store ZX hK ht hn qlR qfh
 refine qct (w':=w') (by simp only[execOp,ho,hr.ev hm,hr.ev hx,hr.ev hy,Sem.run_bind,vi,Result.andThen_ok,Sem.run_pure]) ⟨s,_,⟨rfl,h⟩,?_⟩
 rw[hm']
 have hsz:w'.heap.size=w.heap.size:=by obtain⟨_,_,_,_,_,rfl⟩:=h2;simp[Go.ChangeMaps.setBlock]
 exact hr.turn (b:=b) (by rw[hb];rfl) (qjz h2.grown hsz (MO.ok.like (m:=.mp k R n D0) ZX) (MO.ok.like (m:=.mp k R (n+1) (D0.put kl d)) h1)) h1 hon
theorem StepM.range{t:TypeId}{m:Operand}(ho:o.op= .range t m){b:Nat}{k e:TypeId}{R:MRd}{n:Nat}{D0:DataW Unit}(hb:M b=some (.mp k R n D0))(hm:s.ev m=mpD b)(hK:Keyed P k)(ht:P.underlying t=some (.map k e))
  (h: ∀r,M r=none->K (s.put o.dst (itrD r)) (M.set r (.it b k R n D0 (Maps.has D0) (Maps.size D0) none))):StepM P o s M K:=by
 intro hd G X a w hr Q
 have ZX:=hr.map hb
 obtain⟨w',vi,h1,h2,h3⟩:=World.ownsMap.range ZX hK ht
 obtain⟨ob,rfl⟩: ∃ob,w'=w.alloc ob:=by
  obtain⟨es,clock,g1,_⟩:=ZX
  rw[run_range_map w t k e b es clock ht g1]at vi
  injection vi with _ vi
  exact⟨_,vi.symm⟩
 refine vu (v:=.pointer (some ⟨w.heap.size,0,none⟩)) (w':=w.alloc ob) (by simp only[execOp,ho,hr.ev hm,Sem.run_bind,vi,Result.andThen_ok,Sem.run_pure]) ⟨_,_,⟨za _ _ _,h _ hr.fresh⟩,?_⟩
 exact(hr.alloc ob (m:=.it b k R n D0 (Maps.has D0) (Maps.size D0) none) ⟨h1,fun _ h=>by cases h⟩).put hd fun E=>.one _ _ (.c _ _ (.lit _ rfl))
theorem StepM.next{it:Operand}(ho:o.op= .next it false){b r:Nat}{k:TypeId}{R:MRd}{n:Nat}{D0:DataW Unit}{left:Lit->Bool}{cnt:Nat}{cur:Option (Value×Value)}(hr0:M r=some (.it b k R n D0 left cnt cur))(hm:s.ev it=itrD r)(hK:Keyed P k)
  (qdd:cnt=0->(∀kl,left kl=false)->K (s.put o.dst (.tup [.one (.c (.lit (.bool false)))])) M)
  (hmore: ∀key v kl y cnt',keyOf P k key=some kl->left kl=true->R v=some y->(∀zd,D0.atKey kl zd=y.1)->cnt'<cnt->K (s.put o.dst (.tup [.one (.c (.lit (.bool true))),.any,.any])) (M.set r (.it b k R n D0 (fun x=>left x&& !x.sameKey kl) cnt' (some (key,v))))):StepM P o s M K:=by
 intro hd G X a w hr Q
 have ZX:=(hr.map hr0).1
 have hb:r≠b:=World.ranges.ne ZX
 rcases World.ranges.next ZX hK o.type with⟨h0,hl,vi⟩|⟨key,v,kl,y,w',cnt',qlR,hlk,hv,hat,vi,hrg,hlt,hgr,hsz,hen⟩
 ·refine vu (v:=.tuple #[.bool false]) (w':=w) (by simp only[execOp,ho,hr.ev hm,Sem.run_bind,vi,Result.andThen_ok,Sem.run_pure]) ⟨_,_,⟨za _ _ _,qdd h0 hl⟩,?_⟩
  refine hr.put hd fun E=>.tup _ _ rfl fun j d v h1 h2=>?_
  match j with
  | 0=>simp at h1 h2;subst h1;subst h2;exact .one _ _ (.c _ _ (.lit _ rfl))
  | _+1=>simp at h1
 ·refine vu (v:=.tuple #[.bool true,key,v]) (w':=w') (by simp only[execOp,ho,hr.ev hm,Sem.run_bind,vi,Result.andThen_ok,Sem.run_pure]) ⟨_,_,⟨za _ _ _,hmore key v kl y cnt' qlR hlk hv hat hlt⟩,?_⟩
  have hon: ∀r' m,M r'=some m->r'≠r->¬m.on r:=fun r' m hm2 _ ho2=>by
   have h5:=hr.map hm2
   cases m with
   | mp _ _ _ _=>exact ho2
   | it b' _ _ _ _ _ _ _=>
    have:b'=r:=ho2
    subst this
    obtain⟨⟨es,clock,since,seen,c0,hb',_⟩,_⟩:=h5
    obtain⟨_,_,_,_,_,_,_,_,_,hr',_⟩:=ZX
    rw[hb']at hr';cases hr'
   | st _ _=>exact ho2
  refine(hr.turn (b:=r) (by rw[hr0];rfl) (qjz hgr hsz (MO.ok.like (m:=.it b k R n D0 left cnt none) ⟨ZX,fun _ h=>by cases h⟩) (MO.ok.like (m:=.it b k R n D0 _ cnt' none) ⟨hrg,fun _ h=>by cases h⟩)) (m:=.it b k R n D0 (fun x=>left x&& !x.sameKey kl) cnt' (some (key,v))) ⟨hrg,fun kv e=>by injection e with e;subst e;exact hen⟩ hon).put hd fun E=>.tup _ _ rfl fun j d v h1 h2=>?_
  match j with
  | 0=>simp at h1 h2;subst h1;subst h2;exact .one _ _ (.c _ _ (.lit _ rfl))
  | 1=>simp at h1 h2;subst h1;exact .any _
  | 2=>simp at h1 h2;subst h1;exact .any _
  | _+3=>simp at h1
theorem StepM.entry{it:Operand}(ho:o.op= .entry it){b r:Nat}{k:TypeId}{R:MRd}{n:Nat}{D0:DataW Unit}{left:Lit->Bool}{cnt:Nat}{key v:Value}(hr0:M r=some (.it b k R n D0 left cnt (some (key,v))))(hm:s.ev it=itrD r){dk dv':D}(hk: ∀w E,VD w E dk key)(hv: ∀w E,VD w E dv' v)
  (h:K (s.put o.dst (.tup [dk,dv'])) M):StepM P o s M K:=by
 intro hd G X a w hr Q
 have vi:=(hr.map hr0).2 _ rfl
 unfold Entry at vi
 refine vu (v:=.tuple #[key,v]) (w':=w) (by simp only[execOp,ho,hr.ev hm,Sem.run_bind,vi,Result.andThen_ok,Sem.run_pure]) ⟨_,_,⟨za _ _ _,h⟩,?_⟩
 refine hr.put hd fun E=>.tup _ _ rfl fun j d u h1 h2=>?_
 match j with
 | 0=>simp at h1 h2;subst h1;subst h2;exact hk _ _
 | 1=>simp at h1 h2;subst h1;subst h2;exact hv _ _
 | _+2=>simp at h1
theorem StepM.rangeS{t:TypeId}{x:Operand}(ho:o.op= .range t x){sx:ByteArray}(hx:s.ev x= .one (.c (.lit (.string sx))))(ht:P.underlying t=some .string)(h: ∀r,M r=none->K (s.put o.dst (itrD r)) (M.set r (.st sx 0))):StepM P o s M K:=by
 intro hd G X a w hr Q
 have vi:=run_range_string w t sx ht
 refine vu (v:=.pointer (some ⟨w.heap.size,0,none⟩)) (w':=w.alloc (.stringIter sx 0)) (by simp only[execOp,ho,hr.ev hx,Sem.run_bind,vi,Result.andThen_ok,Sem.run_pure];rfl) ⟨_,_,⟨za _ _ _,h _ hr.fresh⟩,?_⟩
 exact(hr.alloc _ (m:=.st sx 0) (World.iter_heap w sx 0)).put hd fun E=>.one _ _ (.c _ _ (.lit _ rfl))
theorem StepM.nextS{it:Operand}(ho:o.op= .next it true){r:Nat}{sx:ByteArray}{pos:Nat}(hr0:M r=some (.st sx pos))(hm:s.ev it=itrD r)
  (qdd: ¬pos<sx.size->K (s.put o.dst (.tup [.one (.c (.lit (.bool false)))])) M)
  (hmore:pos<sx.size->K (s.put o.dst (.tup [.one (.c (.lit (.bool true))),.one (.c (.lit (.int .i64 pos))),.one (.c (.lit (.int .i32 (Utf8.decode sx pos).1)))])) (M.set r (.st sx (pos+(Utf8.decode sx pos).2)))):StepM P o s M K:=by
 intro hd G X a w hr Q
 have hst:w.heap[r]? =some (.stringIter sx pos):=hr.map hr0
 by_cases hlt:pos<sx.size
 ·have vi:(Instr.next (.pointer (some ⟨r,0,none⟩)) true o.type).run P w= .ok (.tuple #[.bool true,.int .i64 pos,.int .i32 (Utf8.decode sx pos).1]) (Go.ChangeMaps.setBlock w r (.stringIter sx (pos+(Utf8.decode sx pos).2))):=by
   simp[Instr.next,getObj,setObj,Sem.run,hst,hlt,Result.andThen,goInt,Go.ChangeMaps.setBlock]
  refine vu (v:=.tuple #[.bool true,.int .i64 pos,.int .i32 (Utf8.decode sx pos).1]) (w':=Go.ChangeMaps.setBlock w r (.stringIter sx (pos+(Utf8.decode sx pos).2))) (by simp only[execOp,ho,hr.ev hm,Sem.run_bind,vi,Result.andThen_ok,Sem.run_pure]) ⟨_,_,⟨za _ _ _,hmore hlt⟩,?_⟩
  have Zu:=(wF.1 hst).1
  have qdS:(Go.ChangeMaps.setBlock w r (.stringIter sx (pos+(Utf8.decode sx pos).2))).heap[r]? =some (.stringIter sx (pos+(Utf8.decode sx pos).2)):=by simp[Go.ChangeMaps.setBlock,Zu]
  have ht:MT (fun c=>c=r) w (Go.ChangeMaps.setBlock w r (.stringIter sx (pos+(Utf8.decode sx pos).2))):=⟨rfl,rfl,rfl,by simp[Go.ChangeMaps.setBlock],fun c=>by
   by_cases e:c=r
   ·subst e;exact .inr ⟨rfl,⟨_,hst,rfl⟩,⟨_,qdS,rfl⟩⟩
   ·left;simp[Go.ChangeMaps.setBlock,Array.getElem?_setIfInBounds,Ne.symm e]⟩
  have hon: ∀r' m,M r'=some m->r'≠r->¬m.on r:=fun r' m hm2 _ ho2=>by
   have h5:=hr.map hm2
   cases m with
   | mp _ _ _ _=>exact ho2
   | it b' _ _ _ _ _ _ _=>
    have:b'=r:=ho2
    subst this
    obtain⟨⟨es,clock,since,seen,c0,hb',_⟩,_⟩:=h5
    rw[hst]at hb';cases hb'
   | st _ _=>exact ho2
  refine(hr.turn (b:=r) (by rw[hr0];rfl) ht (m:=.st sx _) qdS hon).put hd fun E=>.tup _ _ rfl fun j d v h1 h2=>?_
  match j with
  | 0=>simp at h1 h2;subst h1;subst h2;exact .one _ _ (.c _ _ (.lit _ rfl))
  | 1=>simp at h1 h2;subst h1;subst h2;exact .one _ _ (.c _ _ (.lit _ rfl))
  | 2=>simp at h1 h2;subst h1;subst h2;exact .one _ _ (.c _ _ (.lit _ rfl))
  | _+3=>simp at h1
 ·have vi:(Instr.next (.pointer (some ⟨r,0,none⟩)) true o.type).run P w= .ok (.tuple #[.bool false]) w:=by
   simp[Instr.next,getObj,Sem.run,hst,hlt]
  refine vu (v:=.tuple #[.bool false]) (w':=w) (by simp only[execOp,ho,hr.ev hm,Sem.run_bind,vi,Result.andThen_ok,Sem.run_pure]) ⟨_,_,⟨za _ _ _,qdd hlt⟩,?_⟩
  refine hr.put hd fun E=>.tup _ _ rfl fun j d v h1 h2=>?_
  match j with
  | 0=>simp at h1 h2;subst h1;subst h2;exact .one _ _ (.c _ _ (.lit _ rfl))
  | _+1=>simp at h1
end
end
end Go.Dl
namespace Go.Dl
open Go.RowKit Go.Maps
noncomputable section
def MCalls(P:Program)(f:FuncId)(ds:List D)(H:Mem)(M:MS)(Q:D->Mem->MS->Prop):Prop:=
 Program.plainF P f=true/\∀(w:World) (E:Env) (F:KSet) (vs:Array Value),WI ⟨w,E.K,F,E.ρ,NB,none,w.heap.size⟩ w E H->MOk P w M->vs.size=ds.length->
  (∀(j:Nat) d v,ds[j]? =some d->vs[j]? =some v->VD w E d v)->
  Calls P f vs w fun e w'=>∃v E' r H' M' x,e= .returned v/\Q r H' M'/\MT (fun b=>(M b).isSome=true) w x/\WI ⟨x,E.K,F,E.ρ,NB,none,w.heap.size⟩ w' E' H'/\VD w' E' r v/\MOk P w' M'/\
   ∀b,(M' b).isSome=true->b<w.heap.size->(M b).isSome=true
theorem qgA{P:Program}{fn:Func}{X:Origin}{s:DS}{E:Env}{a:Act}{w:World}(hmk:X.w.heap.size<=X.mrk)(hE:RelE X s E a w){r:D}(hr:resD P s fn.results.toList=some r){R:Ending->World->Prop}
  (hR: ∀w₂ v,WI X w₂ E s.bx->VD w₂ E r v->(∀b,MapLike w b->w₂.heap[b]? =w.heap[b]?)->R (.returned v) w₂):LeavesInM Fence.wide 0 P fn a.tmps R a.defers .returning w:=by
 have key: ∀(Ds:List Nat) (w1:World),Ds.Nodup->RelE X s E { a with defers:=[] } w1->(∀b,MapLike w b->w1.heap[b]? =w.heap[b]?)->(∀D∈Ds,X.w.heap.size<=D/\w1.heap[D]? =some (.deferred (some [])))->
   LeavesInM Fence.wide 0 P fn a.tmps R (Ds.map (fun D=>{ target:=.collected D,args:= #[] })) .returning w1:=by
  intro Ds
  induction Ds with
  | nil=>
   intro w1 _ h hm _
   obtain⟨v,h1,h2⟩:=qmy h hr
   exact⟨v,h1,hR _ _ h.wi h2 hm⟩
  | cons D Ds ih=>
   intro w1 hnd h hm hD
   obtain⟨h1,h2⟩:=List.nodup_cons.1 hnd
   obtain⟨h3,h4⟩:=hD D (by simp)
   refine⟨by simp,.inl ⟨D,_,rfl,run_takeDeferred h4,ih _ h2 (h.hush (Hush.putObj _ h3 h4 (by simp)) rfl (DefOK.nil _ _ hE.defers.1)) (fun b hb=>?_) fun D' hD'=>?_⟩⟩
   ·refine(World.putObj_heap_other (show b≠D from fun e=>?_)).trans (hm b hb)
    have h5:=hb.congr (hm b hb)
    rw[e]at h5
    exact h5.noD h4
   ·obtain⟨g1,g2⟩:=hD D' (by simp[hD'])
    exact⟨g1,(World.putObj_heap_other (show D'≠D from fun e=>h1 (by rw[<-e];exact hD'))).trans g2⟩
 obtain⟨h0,Ds,hnd,hds,hD⟩:=hE.defers
 rw[hds]
 exact key Ds w hnd ⟨hE.wi,hE.sl,hE.size,DefOK.nil _ _ h0,hE.small,hE.pl⟩ (fun _ _=>rfl) fun D h=>⟨wD hmk (hD D h).1,(hD D h).2⟩
section
variable {P : Program}
theorem QS{f:FuncId}{fn:Func}{c:Code}{ds:List D}{H:Mem}{M:MS}{Q:D->Mem->MS->Prop}{N:Nat}{rs:List ResultVar}(hp:Program.plainF P f=true)(hf:P.funcs[f]? =some fn)(hb:fn.body=some c)(hN:fn.ntmps=N)(hrs:fn.results.toList=rs)(hn:(decide (ds.length<=N)&&decide (N<=100000))=true)
  (h:MW P c (Zd N ds H) M (fun e s' M'=>(e= .normal\/e= .ret)/\∃r,resD P s' rs=some r/\Q r s'.bx M')):MCalls P f ds H M Q:=by
 subst hN;subst hrs
 simp only[wu,decide_eq_true_eq]at hn
 obtain⟨hn,hN⟩:=hn
 have hN:=wD hN qL
 refine⟨hp,fun w E F vs hwi hmo hl hv=>?_⟩
 refine callsIn_wide (n:=0) |>.1 (callsIn_of_wp_marks hf hb trivial ?_)
 have hrel:RelM P (fun b=>(M b).isSome=true) ⟨w,E.K,F,E.ρ,NB,none,w.heap.size⟩ (Zd fn.ntmps ds H) M { tmps:=vs++Array.replicate (fn.ntmps - vs.size) undef,defers:=[] } w:=by
  refine⟨w,MT.refl _ _,⟨E,⟨hwi,fun t=>?_,?_,DefOK.nil _ _ (wv _),⟨hN,wv _⟩,fun _=>rfl⟩⟩,hmo,fun b hb _=>hb⟩
  ·simp only[Zd]
   by_cases ht:t<ds.length
   ·have h1:ds[t]? =some (ds.getD t .any):=by simp[List.getD,ht]
    have h2:vs[t]? =some (vs[t]'(by omega)):=wY (by omega)
    have h3:(vs++Array.replicate (fn.ntmps - vs.size) undef).getD t undef=vs[t]'(by omega):=by
     have:t<vs.size:=by omega
     simp[jq,this]
    simp only[h3]
    exact hv t _ _ h1 h2
   ·have:ds.getD t .any= .any:=by simp[List.getD,wZ (Nat.le_of_not_lt ht)]
    rw[this];exact .any _
  ·simp[Zd];omega
 refine wpIn_mono (h _ _ _ w hrel) ?_
 rintro e a' w' ⟨s',M',⟨he,r,hr,hQ⟩,x,h1,⟨E',hE⟩,h3,h4⟩
 have qlg:LeavesInM Fence.wide 0 P fn a'.tmps (fun e w'=>∃v E' r H' M' x,e= .returned v/\Q r H' M'/\MT (fun b=>(M b).isSome=true) w x/\WI ⟨x,E.K,F,E.ρ,NB,none,w.heap.size⟩ w' E' H'/\VD w' E' r v/\MOk P w' M'/\
   ∀b,(M' b).isSome=true->b<w.heap.size->(M b).isSome=true) a'.defers .returning w':=
  qgA (by simp only;rw[h1.size];exact wv _) hE hr fun w₂ v hwi hv hm=>⟨v,E',r,s'.bx,M',x,rfl,hQ,h1,hwi,hv,h3.keep hm,h4⟩
 rcases he with rfl|rfl<;>exact qlg
def qan(M M0 M':MS):MS:=fun b=>match M' b with
 | some m=>some m
 | none=>if(M0 b).isSome=true then none else M b
theorem StepM.call{o:Oper}{s:DS}{M:MS}{K:DS->MS->Prop}{f:Operand}{args:Array Operand}{tys:Array TypeId}{g:FuncId}{caps:List T}{ns:List Nat}{ds:List D}{H:Mem}{M0:MS}{R:D->Mem->MS->Prop}(ho:o.op= .call { callee:=.value f,args:=args,argTypes:=tys })
  (hc:MCalls P g ds H M0 R) (hf:(s.ev f).asFn=some (g,caps)) (hle:DLeL ((args.toList.map s.ev++caps.map D.one).map (D.tr (shf ns))) ds) (hH: ∀k r,H k=some r->qJ s.bx ns k=some r) (hok:CallOk ns o.dst)
  (hM: ∀b m,M0 b=some m->M b=some m) (hon: ∀r m,M r=some m->M0 r=none->∀b,m.on b->M0 b=none)
  (h: ∀r H' M',R r H' M'->(∀b,(M' b).isSome=true->(M0 b).isSome=true\/M b=none)->K (s.aftCall ns o.dst r H') (qan M M0 M')):StepM P o s M K:=by
 intro hm G X a w hrm Q
 obtain⟨x0,q1,⟨E,hr⟩,q3,q4⟩:=hrm
 obtain⟨captured,hfv,hcs,hcv⟩:=qdE hf (hr.ev f)
 have hR:=qaj E ns
 obtain⟨hlen,qby⟩:=hle.get
 have hsz:(args.map a.eval++captured).size=ds.length:=by
  rw[<-hlen];simp[hcs]
 have hvs: ∀(j:Nat) d v,ds[j]? =some d->(args.map a.eval++captured)[j]? =some v->VD w (q7 E ns) d v:=by
  intro j d v g1 g2
  obtain⟨d0,g3,g4⟩:=qby j d g1
  refine g4 w _ v ?_
  rw[wq]at g3
  cases hd:(args.toList.map s.ev++caps.map D.one)[j]? with
  | none=>rw[hd]at g3;cases g3
  | some d1=>
   rw[hd]at g3;injection g3 with g3;subst g3
   refine VD.tr hR ?_
   by_cases hj:j<args.size
   ·rw[List.getElem?_append_left (by simpa using hj)]at hd
    rw[Array.getElem?_append_left (by simpa using hj)]at g2
    simp[hj]at hd g2
    subst hd;subst g2
    exact hr.ev _
   ·rw[List.getElem?_append_right (by simp;omega)]at hd
    rw[Array.getElem?_append_right (by simp;omega)]at g2
    simp only[we,Array.size_map,Array.length_toList]at hd g2
    rw[wq]at hd
    cases hcc:caps[j - args.size]? with
    | none=>rw[hcc]at hd;cases hd
    | some c=>rw[hcc]at hd;injection hd with hd;subst hd;exact .one _ _ (hcv _ c v hcc g2)
 have hwi:=(qlX hr.wi ns hok.hns).less hH
 have qaq:=hc.2 w (q7 E ns) (Z6 s.bx E ns) _ hwi (fun b m hb=>q3 b m (hM b m hb)) hsz hvs
 have vi:(execOp a.eval o).run P w= .ok (.enter g (args.map a.eval++captured)) w:=by
  unfold execOp
  simp only[ho,Sem.run_bind]
  rw[vg a.eval f args tys _ g captured hfv w]
  simp only[Result.andThen_ok,invoke]
  exact zH hc.1 _ w
 unfold Oper.wp
 rw[vi]
 refine Calls.mono qaq ?_
 rintro e w' ⟨v,E',r,H',M',x,rfl,hQ,ht,hwi',hv',hmo',hdom⟩
 have qdS: ∀b,(M' b).isSome=true->(M0 b).isSome=true\/M b=none:=fun b hb=>by
  rcases yg b w.heap.size with hlt|hge
  ·exact .inl (hdom b hb hlt)
  ·refine .inr ?_
   cases hmb:M b with
   | none=>rfl
   | some m=>have:=(q3 b m hmb).like.lt;omega
 have hrx:=hr.mt ht
 have hk1:=(qe1 hr.wi.turn ht).1
 have hsome: ∀b,(M0 b).isSome=true->(M b).isSome=true:=fun b hb=>by
  obtain⟨m,hm⟩:=y7.1 hb
  rw[hM b m hm];rfl
 have hsz0:X.w.heap.size<=w.heap.size:=by have:=hr.wi.turn.size;simp only at this;rw[q1.size]at this;exact this
 have keep: ∀b,MapLike w b->¬(M0 b).isSome=true->w'.heap[b]? =w.heap[b]? :=fun b hb h0=>by
  have e1:x.heap[b]? =w.heap[b]? :=(ht.block b).resolve_right fun g=>h0 g.1
  exact((hwi'.turn.block b (by simp only;rw[ht.size];exact hb.lt)).resolve_right fun⟨arr,e,arr',k1,_⟩=>(hb.congr e1).no k1).trans e1
 refine⟨_,_,⟨qhz _ _ _ _ _,h r H' M' hQ qdS⟩,_,q1.trans (hk1.mono fun b hb h0=>q4 b (hsome b h0) (by rw[q1.size]at hb;exact hb)),qmB (w:=x) hrx (by
  rw[show (⟨x,E.K,Z6 s.bx E ns,(q7 E ns).ρ,NB,none,x.heap.size⟩:Origin)=⟨x,E.K,Z6 s.bx E ns,(q7 E ns).ρ,NB,none,w.heap.size⟩ from by rw[ht.size]]
  exact hwi') hok hm hv',fun b m hb=>?_,fun b hb hlt=>?_⟩
 ·unfold qan at hb
  split at hb
  ·rename_i m' hm'
   injection hb with hb;subst hb
   exact hmo' b m' hm'
  ·split at hb
   ·cases hb
   ·rename_i h0
    have hb2:M0 b=none:=by
     cases h5:M0 b with
     | none=>rfl
     | some _=>rw[h5]at h0;exact absurd rfl h0
    have hok:=q3 b m hb
    refine hok.keep1 (keep b hok.like h0) fun c hc hlc=>keep c hlc ?_
    rw[hon b m hb hb2 c hc];simp
 ·unfold qan at hb
  split at hb
  ·rename_i m' hm'
   have h5:=hdom b (by rw[hm'];rfl) (by omega)
   exact q4 b (hsome b h5) hlt
  ·split at hb
   ·cases hb
   ·exact q4 b hb hlt
theorem StepM.less{o:Oper}{s:DS}{M M1:MS}{K:DS->MS->Prop}(hM: ∀b m,M1 b=some m->M b=some m)(h:StepM P o s M1 K):StepM P o s M K:=fun hd G X a w ⟨x,h1,h2,h3,h4⟩ Q=>
 h hd G X a w ⟨x,h1,h2,fun b m hb=>h3 b m (hM b m hb),fun b hb=>h4 b (by obtain⟨m,hm⟩:=y7.1 hb;rw[hM b m hm];rfl)⟩ Q
theorem qic{c:Code}{s:DS}{M M1:MS}{Q:Exit->DS->MS->Prop}(hM: ∀b m,M1 b=some m->M b=some m)(h:MW P c s M1 Q):MW P c s M Q:=fun G X a w ⟨x,h1,h2,h3,h4⟩=>
 h G X a w ⟨x,h1,h2,fun b m hb=>h3 b m (hM b m hb),fun b hb=>h4 b (by obtain⟨m,hm⟩:=y7.1 hb;rw[hM b m hm];rfl)⟩
theorem ECalls.of_maps{f:FuncId}{ds:List D}{H:Mem}{R:D->Mem->Prop}(h:MCalls P f ds H noMap (fun r H' _=>R r H')):ECalls P f ds H R:=by
 refine⟨h.1,fun w E F vs hwi hl hv=>(h.2 w E F vs hwi (qqh P w) hl hv).mono ?_⟩
 rintro e w' ⟨v,E',r,H',M',x,rfl,hQ,ht,hwi',hv',hmo',hdom⟩
 refine⟨v,E',r,H',rfl,hQ,?_,hv'⟩
 have hx: ∀b,x.heap[b]? =w.heap[b]? :=fun b=>(ht.block b).resolve_right fun g=>by have:=g.1;cases this
 refine⟨⟨hwi'.turn.os.trans ht.os,hwi'.turn.tape.trans ht.tape,hwi'.turn.output.trans ht.output,by have:=hwi'.turn.size;simp only at this;rw[ht.size]at this;exact this,fun b hb=>?_⟩,hwi'.sep,hwi'.kin,fun b o hb hF hk=>hwi'.kold b o (by simp only;rw[ht.size];exact hb) hF hk,hwi'.kok,fun n rows hn hne=>?_,hwi'.boxne,fun n b o hs=>?_,hwi'.disj,hwi'.sbox,hwi'.fix⟩
 ·rw[<-hx b];exact hwi'.turn.block b (by simp only;rw[ht.size];exact hb)
 ·obtain⟨h1,h2,h3⟩:=hwi'.boxes n rows hn hne
  exact⟨h1.imp (fun g=>by simp only at g;rw[ht.size]at g;exact g) id,h2,h3⟩
 ·obtain⟨h1,h2,h3⟩:=hwi'.free n b o hs
  exact⟨h1.imp (fun g=>by simp only at g;rw[ht.size]at g;exact g) id,h2,h3⟩
theorem DCalls.of_maps{f:FuncId}{ds:List D}{r:D}(h:MCalls P f ds qc noMap (fun r' _ _=>r'=r)):DCalls P f ds r:=ECalls.pure (ECalls.of_maps h)
theorem qef{α σ:Type}{c:Code}{s:DS}{M:MS}{Q:Exit->DS->MS->Prop}(xs:List α)(S:Nat->σ->DS)(MM:Nat->σ->MS)(Inv:Nat->σ->Prop)(st0:σ)(qK:xs.length<=maxLen)(h0:s.Sub (S 0 st0))(hM:M=MM 0 st0)(hi:Inv 0 st0)
  (body: ∀k x st,xs[k]? =some x->k<xs.length->x∈xs->xs.take (k+1)=xs.take k++[x]->decide ((k:Int)<(xs.length:Int))=true->IntKind.i64.wrap ((k:Int)+1)=((k+1:Nat):Int)->Inv k st->
   MW P c (S k st) (MM k st) (qdN (fun s' M'=>∃st',Inv (k+1) st'/\s'.Sub (S (k+1) st')/\M'=MM (k+1) st') Q))
  (done: ∀st,decide ((xs.length:Int)<(xs.length:Int))=false->Inv xs.length st->MW P c (S xs.length st) (MM xs.length st) (qdN (fun _ _=>False) Q)):MW P (.loop c) s M Q:=by
 refine qe7 (fun y:Nat×σ=>S y.1 y.2) (fun y=>MM y.1 y.2) (fun y=>y.1<=xs.length/\Inv y.1 y.2) (fun y=>xs.length - y.1) (0,st0) h0 hM ⟨ye _,hi⟩ ?_
 rintro⟨k,st⟩ ⟨hk,hi⟩
 rcases yg k xs.length with hlt|hge
 ·have hx:xs[k]? =some xs[k]:=wc hlt
  refine(body k _ st hx hlt (List.getElem_mem hlt) (qH hx) (by simpa using hlt) (qt k (by simp only at hk;omega)) hi).mono ?_
  intro e s' M' h
  cases e<;>first|exact h|skip
  obtain⟨st',h1,h2,h3⟩:=h
  exact⟨(k+1,st'),⟨by simp only;omega,h1⟩,by simp only;omega,h2,h3⟩
 ·have hkl:k=xs.length:=by simp only at hk;omega
  subst hkl
  refine(done st (by simp) hi).mono ?_
  intro e s' M' h
  cases e<;>first|exact h|exact h.elim
theorem ZS{α:Type}{id:Nat}{c rest:Code}{s:DS}{M:MS}{Q Q2:Exit->DS->MS->Prop}(S:α->DS)(MM:α->MS)(F:α->Prop)(h1:MW P c s M (fun e s' M'=>e= .exit id/\∃y,F y/\s'.Sub (S y)/\M'=MM y))(h2: ∀y,F y->MW P rest (S y) (MM y) Q):
  MW P c s M (Ze id (qdN (fun s' M'=>MW P rest s' M' Q) Q2)):=
 h1.mono fun e s' M' ⟨he,y,hF,hs,hM⟩=>by
  subst he;subst hM
  simp only[Ze,if_true,qdN]
  exact vN hs (h2 y hF)
theorem qaL{c:Code}{s:DS}{M:MS}{Q:Exit->DS->MS->Prop}(n sz:Nat)(cs:List (List C))(js:Rows)(vo:0<sz)(hn:s.bx n=some (cs.map (List.map T.c)++js))(hz: ∀r∈cs,r.length=sz)(h:MW P c (s.frz n sz cs) M Q):MW P c s M Q:=
 vN (fun X a w ⟨E,hE⟩=>hE.frz vo hn hz) h
theorem qq{id:Nat}{l:List Oper}{s:DS}{M:MS}{Q:Exit->DS->MS->Prop}{N:Nat}(hn:s.n=N)(hb:dstB l N=true)(h:wk P (l.map (·.dst)) (tagS l) s (fun s'=>Q .normal s' M)):MW P (.region id l.toArray false) s M Q:=
 qam (dw_reg hn hb h)
end
theorem qfX(next:DS->MS->Prop)(Q:Exit->DS->MS->Prop)(s:DS)(M:MS):qdN next Q .normal s M=next s M:=rfl
theorem ql9(next:DS->MS->Prop)(Q:Exit->DS->MS->Prop)(s:DS)(M:MS):qdN next Q .ret s M=Q .ret s M:=rfl
theorem qki(next:DS->MS->Prop)(Q:Exit->DS->MS->Prop)(i:Nat)(s:DS)(M:MS):qdN next Q (.exit i) s M=Q (.exit i) s M:=rfl
theorem qc8(id:Nat)(Q:Exit->DS->MS->Prop)(s:DS)(M:MS):Ze id Q .normal s M=Q .normal s M:=rfl
theorem qgK(id:Nat)(Q:Exit->DS->MS->Prop)(s:DS)(M:MS):Ze id Q .ret s M=Q .ret s M:=rfl
theorem qfe(id i:Nat)(Q:Exit->DS->MS->Prop)(s:DS)(M:MS):Ze id Q (.exit i) s M=if i=id then Q .normal s M else Q (.exit i) s M:=rfl
theorem wsm_nil(P:Program)(ops:List Oper)(s:DS)(M:MS)(K:DS->MS->Prop):vL P ops [] s M K=K s M:=rfl
attribute [go_sem ↓] wsm_nil qfX ql9 qki qc8 qgK qfe
end
end Go.Dl
namespace Go.Dl
open Go.RowKit
noncomputable section
def rnF(s:ByteArray):Nat->Nat->List Int
 | 0,_=>[]
 | b+1,i=>if i<s.size then((Utf8.decode s i).1:Int)::rnF s b (i+(Utf8.decode s i).2)else []
def rnL(s:ByteArray):List Int:=rnF s s.size 0
def i32s(l:List Int):List (List C):=l.map fun n=>[.lit (.int .i32 n)]
theorem qcg(l:List Int):(i32s l).length=l.length:=by simp[i32s]
theorem i32s_at{l:List Int}{k:Nat}{x:Int}(h:l[k]? =some x):(i32s l)[k]? =some [.lit (.int .i32 x)]:=by simp[i32s,h]
theorem qbR(s:ByteArray): ∀(b i:Nat) (acc:Array Value),Conv.runesFrom s b i acc=acc++((rnF s b i).map (Value.int .i32)).toArray
 | 0,_,acc=>by simp[Conv.runesFrom,rnF]
 | b+1,i,acc=>by
  unfold Conv.runesFrom rnF
  by_cases h:i<s.size
  ·rw[if_pos h,if_pos h]
   show Conv.runesFrom s b (i+(Utf8.decode s i).2) (acc.push (.int .i32 (Int.ofNat (Utf8.decode s i).1)))=_
   rw[qbR s b]
   apply Array.ext';simp
  ·rw[if_neg h,if_neg h];simp
theorem qmv(s:ByteArray): ∀(b i:Nat),(rnF s b i).length<=b
 | 0,_=>wv _
 | b+1,i=>by
  unfold rnF
  split
  ·have:=qmv s b (i+(Utf8.decode s i).2);simp;omega
  ·simp
theorem Step.runes{P:Program}{o:Oper}{s:DS}{K:DS->Prop}{src dst e:TypeId}{x:Operand}{str:ByteArray}(ho:o.op= .convert src dst x)(hs:P.underlying src=some .string)(hd:P.underlying dst=some (.slice e))(he:P.underlying e=some (.int .i32))
  (hx:s.ev x= .one (.c (.lit (.string str)))) (hm:str.size<=maxLen) (h:K (s.put o.dst (.one (.c (.sl 1 (i32s (rnL str))))))):Step P o s K:=by
 rintro hdd X a w ⟨E,hE⟩ Q
 have hv:=hE.ev x
 rw[hx]at hv
 have hv:=hv.lit
 obtain⟨l,hl⟩: ∃l,l=rnL str:=⟨_,rfl⟩
 have hll:l.length<=maxLen:=by rw[hl];exact wD (qmv str _ _) hm
 obtain⟨cap,ZY⟩: ∃cap,cap=grownCap w l.length 0 e:=⟨_,rfl⟩
 have hge:l.length<=cap:=by rw[ZY];exact grownCap_ge w l.length 0 e
 have hle:cap<=maxLen:=by rw[ZY];exact grownCap_le_maxLen w l.length 0 e hll
 obtain⟨cs,hcs⟩: ∃cs:Array Value,cs=(l.map (Value.int .i32)).toArray++Array.replicate (cap - l.length) (.int .i32 0):=⟨_,rfl⟩
 have vi:(convert src dst (.string str)).run P w= .ok (.slice (some ⟨w.heap.size,0,none⟩) l.length cap) (w.drew.alloc (.cells cs e)):=by
  have e1:Conv.runesFrom str str.size 0 #[]=(l.map (Value.int .i32)).toArray:=by rw[qbR,hl];simp[rnL]
  rw[hcs,ZY]
  simp[convert,run_underlying hs,run_underlying hd,run_underlying he,Conv.stringToRunes,e1,newRow,Question.forced,grownCap,Result.andThen]
 have hold: ∀b,b<w.heap.size->(w.drew.alloc (.cells cs e)).heap[b]? =w.heap[b]? :=fun b hb=>Below.heap_alloc w.drew _ b hb
 have qdS:(w.drew.alloc (.cells cs e)).heap[w.heap.size]? =some (.cells cs e (0,0)):=World.alloc_heap_new w.drew _
 have QF: ∀j (hj:j<l.length),(w.drew.alloc (.cells cs e)).cell? ⟨w.heap.size,j,none⟩=some (.int .i32 l[j]):=fun j hj=>by
  have e1:(w.drew.alloc (.cells cs e)).cell? ⟨w.heap.size,j,none⟩=cs[j]? :=by unfold World.cell?;simp only[qdS];rfl
  rw[e1,hcs];simp[jq,hj]
 have hcold: ∀b o,b<w.heap.size->(w.drew.alloc (.cells cs e)).cell? ⟨b,o,none⟩=w.cell? ⟨b,o,none⟩:=fun b o hb=>World.cell?_of_block (w:=w) (a:=⟨b,o,none⟩) (hold b hb)
 have hsz:w.heap.size<=(w.drew.alloc (.cells cs e)).heap.size:=by rw[World.size_alloc];exact Nat.le_succ _
 have hbl:Below w.heap.size w (w.drew.alloc (.cells cs e)):=⟨rfl,rfl,rfl,hsz,hold⟩
 refine vu (v:=.slice (some ⟨w.heap.size,0,none⟩) l.length cap) (w':=w.drew.alloc (.cells cs e)) (by simp only[execOp,ho,hv,Sem.run_bind,vi,Result.andThen_ok,Sem.run_pure]) ⟨_,⟨za _ _ _,h⟩,{ E with K:=fun b o=>E.K b o\/(b=w.heap.size/\o<l.length) },hE.put (E':={ E with K:=fun b o=>E.K b o\/(b=w.heap.size/\o<l.length) }) ⟨hbl,fun b o h=>Or.inl h,fun b o hb h=>?_,hE.wi.kok.wide (fun b o q=>⟨Or.inl q,hcold b o (qy (hE.wi.kok b o q))⟩) (fun b o h=>?_) (hE.wi.kok.z.below hbl),rfl,rfl⟩ hdd ?_⟩
 ·rcases h with h|⟨h,_⟩
  ·exact h
  ·omega
 ·rcases h with h|⟨rfl,h⟩
  ·rw[hcold b o (qy (hE.wi.kok b o h))];exact hE.wi.kok b o h
  ·rw[QF o h];rfl
 ·refine .one _ _ (.c _ _ ?_)
  rw[<-hl]
  have:=VC.sl (w:=w.drew.alloc (.cells cs e)) (K:=fun b o=>E.K b o\/(b=w.heap.size/\o<l.length)) 1 (i32s l) ⟨w.heap.size,0,none⟩ cap (fun j=>.int .i32 (l.getD j 0))
   (fun r hr=>by simp only[i32s,wI]at hr;obtain⟨b,_,rfl⟩:=hr;rfl) (by rw[qcg];exact hge) hle
   (fun j hj=>by
    have hj':j<l.length:=by rw[qcg,Nat.mul_one]at hj;exact hj
    simp only[Nat.zero_add]
    refine⟨trivial,.inr ⟨trivial,hj'⟩,?_⟩
    rw[QF j hj'];simp[List.getD,hj'])
   (fun i j r c h1 h2=>by
    simp only[i32s,wq]at h1
    cases hb:l[i]? with
    | none=>rw[hb]at h1;cases h1
    | some b=>
     rw[hb]at h1;injection h1 with h1;subst h1
     cases j with
     | zero=>
      simp at h2;subst h2
      have:l.getD (i*1+0) 0=b:=by simp[List.getD,hb]
      rw[this];exact .lit _ rfl
     | succ j=>simp at h2)
  rw[qcg]at this
  exact this
theorem MCalls.plain{P:Program}{f:FuncId}{cs:List C}{c:C}(h:DCalls P f (cs.map fun c=>D.one (.c c)) (.one (.c c)))(M:MS):MCalls P f (cs.map fun c=>D.one (.c c)) qc M (fun r H' M'=>r= .one (.c c)/\H'=qc/\M'=M):=by
 refine⟨h.1,fun w E F vs hwi hmo hl hv=>(h.2 w E.K vs hwi.kok hl fun j d v h1 h2=>?_).mono ?_⟩
 ·have h3:=hv j d v h1 h2
  rw[wq,wy]at h1
  obtain⟨c',_,rfl⟩:=h1
  cases h3 with|one t v h3=>cases h3 with|c c v h3=>exact .one _ _ (.c _ _ h3)
 ·rintro e w' ⟨v,E',rfl,hR,hv'⟩
  have hns: ∀(n b o:Nat),¬vX ((fun _:Nat=>((.slice none 0 0,0):Value×Nat)) n) b o:=fun n b o ⟨a,len,cap,h1,_⟩=>by cases h1
  refine⟨v,⟨E'.K,E.ρ,fun _=>(.slice none 0 0,0)⟩,.one (.c c),qc,M,w,rfl,⟨rfl,rfl,rfl⟩,MT.refl _ _,⟨Below.turn hR.below F,hwi.sep,hR.kin,fun b o hb _ hk=>hR.kold b o hb hk,hR.kok,(fun n ts hn=>by cases hn),fun n m rn rm hn=>(by cases hn),fun n b o hs=>absurd hs (hns n b o),fun n m b o hs=>absurd hs (hns n b o),fun n m b o rm hs=>absurd hs (hns n b o),fun _ _=>rfl⟩,?_,hmo.keep fun b hb=>hR.below.block b hb.lt,fun b hb _=>hb⟩
  cases hv' with|one t v h3=>cases h3 with|c c v h3=>exact .one _ _ (.c _ _ h3)
end
end Go.Dl
attribute [go_sem] reduceIte reduceCtorEq Nat.reduceEqDiff Nat.reduceAdd Nat.reduceMul Nat.reduceSub Nat.reduceLeDiff Nat.reduceBEq
open Go.Dl renaming dw_seq → kA, dw_block → kB, dw_reg → kC, dw_skip → kD, dw_exit → kE, dw_ret → kF, dw_cond → kG, guardC_f → kH, guardC_t → kI, dw_drw → kJ, dw_weaken → kK, sub_kn → kL, sub_ml → kM
open Go.Dl.CallC renaming mk → kN, light → kO
open Go.Dl.LeL renaming of_eq → kP
namespace Go.Proofs.YtaaodllggdjhiaaGreatDoor
open Go.Dl
@[go_sem] theorem ldk_3:Program.ldk pP 3=some none/\qf pP 3=some 1/\Program.zeroC pP 3=some [.lit (.int .i64 0)]/\Program.zeroT pP 3=some [.c (.lit (.int .i64 0))]/\Program.ldk pP 4=some none/\qf pP 4=some 1/\Program.zeroC pP 4=some [.lit (.bool false)]/\Program.zeroT pP 4=some [.c (.lit (.bool false))]/\Program.isBoolT pP 4=true/\Program.ldk pP 5=some none/\qf pP 5=some 1/\Program.zeroC pP 5=some [.lit (.int .u8 0)]:=by
 refine⟨?_,?_,?_,?_,?_,?_,?_,?_,?_,?_,?_,?_⟩<;>kernel_rfl
@[go_sem] theorem zeroT_5:Program.zeroT pP 5=some [.c (.lit (.int .u8 0))]/\Program.ldk pP 9=some none/\qf pP 9=some 1/\Program.zeroC pP 9=some [.lit (.string ⟨#[]⟩)]/\Program.zeroT pP 9=some [.c (.lit (.string ⟨#[]⟩))]/\Program.ldk pP 21=some none/\qf pP 21=some 1/\Program.zeroC pP 21=some [.lit (.int .i32 0)]/\Program.zeroT pP 21=some [.c (.lit (.int .i32 0))]/\Program.ldk pP 22=some none/\qf pP 22=some 1/\Program.elemSz pP 22=some 3:=by
 refine⟨?_,?_,?_,?_,?_,?_,?_,?_,?_,?_,?_,?_⟩<;>kernel_rfl
@[go_sem] theorem appInfo_22:qA pP 22=some (3,32)/\Program.zeroC pP 22=some [.sl 3 []]/\Program.zeroT pP 22=some [.ex 3 []]/\Program.nilT pP 22=true/\Program.ldk pP 23=some none/\qf pP 23=some 1/\Program.elemSz pP 23=some 4/\qA pP 23=some (4,72)/\Program.zeroC pP 23=some [.sl 4 []]/\Program.zeroT pP 23=some [.ex 4 []]/\Program.nilT pP 23=true/\Program.ldk pP 24=some none:=by
 refine⟨?_,?_,?_,?_,?_,?_,?_,?_,?_,?_,?_,?_⟩<;>kernel_rfl
@[go_sem] theorem cellsOfT_24:qf pP 24=some 1/\Program.elemSz pP 24=some 4/\qA pP 24=some (4,32)/\Program.zeroC pP 24=some [.sl 4 []]/\Program.zeroT pP 24=some [.ex 4 []]/\Program.nilT pP 24=true/\Program.ldk pP 25=some none/\qf pP 25=some 1/\Program.elemSz pP 25=some 6/\qA pP 25=some (6,64)/\Program.zeroC pP 25=some [.sl 6 []]/\Program.zeroT pP 25=some [.ex 6 []]:=by
 refine⟨?_,?_,?_,?_,?_,?_,?_,?_,?_,?_,?_,?_⟩<;>kernel_rfl
@[go_sem] theorem nilT_25:Program.nilT pP 25=true/\Program.ldk pP 27=some (some 4)/\qf pP 27=some 4/\Program.zeroC pP 27=some [.sl 3 [],.sl 4 [],.sl 4 [],.sl 6 []]/\Program.zeroT pP 27=some [.ex 3 [],.ex 4 [],.ex 4 [],.ex 6 []]/\Program.places pP 27=some [(0,1),(1,1),(2,1),(3,1)]/\Program.fieldOff pP 27 0=some 0/\Program.fieldOff pP 27 1=some 1/\Program.fieldOff pP 27 2=some 2/\Program.fieldOff pP 27 3=some 3/\Program.ldk pP 28=some none/\qf pP 28=some 1:=by
 refine⟨?_,?_,?_,?_,?_,?_,?_,?_,?_,?_,?_,?_⟩<;>kernel_rfl
@[go_sem] theorem qlG:qA pP 28=some (1,8):=by kernel_rfl
@[go_sem] theorem elemSz_28:Program.elemSz pP 28=some 1/\Program.zeroC pP 28=some [.sl 1 []]/\Program.zeroT pP 28=some [.ex 1 []]/\Program.nilT pP 28=true/\Program.ldk pP 30=some (some 5)/\qf pP 30=some 5/\Program.zeroC pP 30=some [.lit (.int .i64 0),.lit (.string ⟨#[]⟩),.lit (.int .i64 0),.lit (.int .i64 0),.sl 1 []]/\Program.zeroT pP 30=some [.c (.lit (.int .i64 0)),.c (.lit (.string ⟨#[]⟩)),.c (.lit (.int .i64 0)),.c (.lit (.int .i64 0)),.ex 1 []]/\Program.places pP 30=some [(0,1),(1,1),(2,1),(3,1),(4,1)]/\Program.fieldOff pP 30 0=some 0/\Program.fieldOff pP 30 1=some 1/\Program.fieldOff pP 30 2=some 2:=by
 refine⟨?_,?_,?_,?_,?_,?_,?_,?_,?_,?_,?_,?_⟩<;>kernel_rfl
@[go_sem] theorem qqD:Program.fieldOff pP 30 3=some 3/\Program.fieldOff pP 30 4=some 4/\Program.ldk pP 31=some none/\qf pP 31=some 1/\Program.elemSz pP 31=some 4/\qA pP 31=some (4,40)/\Program.zeroC pP 31=some [.sl 4 []]/\Program.zeroT pP 31=some [.ex 4 []]/\Program.nilT pP 31=true/\Program.ldk pP 32=some none/\qf pP 32=some 1/\Program.elemSz pP 32=some 7:=by
 refine⟨?_,?_,?_,?_,?_,?_,?_,?_,?_,?_,?_,?_⟩<;>kernel_rfl
@[go_sem] theorem appInfo_32:qA pP 32=some (7,64)/\Program.zeroC pP 32=some [.sl 7 []]/\Program.zeroT pP 32=some [.ex 7 []]/\Program.nilT pP 32=true/\Program.ldk pP 34=some (some 7)/\qf pP 34=some 7/\Program.zeroC pP 34=some [.lit (.int .i64 0),.lit (.string ⟨#[]⟩),.lit (.int .i64 0),.lit (.int .i64 0),.sl 1 [],.sl 4 [],.sl 7 []]/\Program.zeroT pP 34=some [.c (.lit (.int .i64 0)),.c (.lit (.string ⟨#[]⟩)),.c (.lit (.int .i64 0)),.c (.lit (.int .i64 0)),.ex 1 [],.ex 4 [],.ex 7 []]/\Program.places pP 34=some [(0,5),(5,1),(6,1)]/\Program.fieldOff pP 34 0=some 0/\Program.fieldOff pP 34 1=some 5/\Program.fieldOff pP 34 2=some 6:=by
 refine⟨?_,?_,?_,?_,?_,?_,?_,?_,?_,?_,?_,?_⟩<;>kernel_rfl
@[go_sem] theorem ldk_36:Program.ldk pP 36=some (some 2)/\qf pP 36=some 2/\Program.zeroC pP 36=some [.lit (.int .i64 0),.lit (.int .i64 0)]/\Program.zeroT pP 36=some [.c (.lit (.int .i64 0)),.c (.lit (.int .i64 0))]/\Program.places pP 36=some [(0,1),(1,1)]/\Program.fieldOff pP 36 0=some 0/\Program.fieldOff pP 36 1=some 1/\Program.ldk pP 37=some none/\qf pP 37=some 1/\Program.elemSz pP 37=some 4/\qA pP 37=some (4,56)/\Program.zeroC pP 37=some [.sl 4 []]:=by
 refine⟨?_,?_,?_,?_,?_,?_,?_,?_,?_,?_,?_,?_⟩<;>kernel_rfl
@[go_sem] theorem zeroT_37:Program.zeroT pP 37=some [.ex 4 []]/\Program.nilT pP 37=true/\Program.ldk pP 39=some (some 4)/\qf pP 39=some 4/\Program.zeroC pP 39=some [.lit (.int .i64 0),.lit (.int .i64 0),.lit (.string ⟨#[]⟩),.sl 4 []]/\Program.zeroT pP 39=some [.c (.lit (.int .i64 0)),.c (.lit (.int .i64 0)),.c (.lit (.string ⟨#[]⟩)),.ex 4 []]/\Program.places pP 39=some [(0,1),(1,1),(2,1),(3,1)]/\Program.fieldOff pP 39 0=some 0/\Program.fieldOff pP 39 1=some 1/\Program.fieldOff pP 39 2=some 2/\Program.fieldOff pP 39 3=some 3/\Program.ldk pP 42=some none:=by
 refine⟨?_,?_,?_,?_,?_,?_,?_,?_,?_,?_,?_,?_⟩<;>kernel_rfl
@[go_sem] theorem cellsOfT_42:qf pP 42=some 1/\Program.elemSz pP 42=some 5/\qA pP 42=some (5,64)/\Program.zeroC pP 42=some [.sl 5 []]/\Program.zeroT pP 42=some [.ex 5 []]/\Program.nilT pP 42=true/\Program.ldk pP 44=some none/\qf pP 44=some 1/\Program.zeroC pP 44=some [.lit (.int .i64 0)]/\Program.zeroT pP 44=some [.c (.lit (.int .i64 0))]/\Program.ldk pP 47=some none/\qf pP 47=some 1:=by
 refine⟨?_,?_,?_,?_,?_,?_,?_,?_,?_,?_,?_,?_⟩<;>kernel_rfl
@[go_sem] theorem elemSz_47:Program.elemSz pP 47=some 2/\qA pP 47=some (2,16)/\Program.zeroC pP 47=some [.sl 2 []]/\Program.zeroT pP 47=some [.ex 2 []]/\Program.nilT pP 47=true/\Program.ldk pP 51=some none/\qf pP 51=some 1/\Program.elemSz pP 51=some 3/\qA pP 51=some (3,48)/\Program.zeroC pP 51=some [.sl 3 []]/\Program.zeroT pP 51=some [.ex 3 []]/\Program.nilT pP 51=true:=by
 refine⟨?_,?_,?_,?_,?_,?_,?_,?_,?_,?_,?_,?_⟩<;>kernel_rfl
@[go_sem] theorem ldk_53:Program.ldk pP 53=some (some 1)/\qf pP 53=some 1/\Program.zeroC pP 53=some [.sl 3 []]/\Program.zeroT pP 53=some [.ex 3 []]/\Program.places pP 53=some [(0,1)]/\Program.fieldOff pP 53 0=some 0/\Program.ldk pP 60=some (some 2)/\qf pP 60=some 2/\Program.zeroC pP 60=some [.lit (.int .i64 0),.lit (.int .i64 0)]/\Program.zeroT pP 60=some [.c (.lit (.int .i64 0)),.c (.lit (.int .i64 0))]/\Program.places pP 60=some [(0,1),(1,1)]/\Program.fieldOff pP 60 0=some 0:=by
 refine⟨?_,?_,?_,?_,?_,?_,?_,?_,?_,?_,?_,?_⟩<;>kernel_rfl
@[go_sem] theorem qqC:Program.fieldOff pP 60 1=some 1/\Program.ldk pP 62=some (some 7)/\qf pP 62=some 7/\Program.zeroC pP 62=some [.lit (.int .i64 0),.lit (.int .i64 0),.lit (.int .i64 0),.lit (.int .i64 0),.lit (.int .i64 0),.lit (.int .i64 0),.lit (.string ⟨#[]⟩)]/\Program.zeroT pP 62=some [.c (.lit (.int .i64 0)),.c (.lit (.int .i64 0)),.c (.lit (.int .i64 0)),.c (.lit (.int .i64 0)),.c (.lit (.int .i64 0)),.c (.lit (.int .i64 0)),.c (.lit (.string ⟨#[]⟩))]/\Program.places pP 62=some [(0,1),(1,1),(2,1),(3,2),(5,1),(6,1)]/\Program.fieldOff pP 62 0=some 0/\Program.fieldOff pP 62 1=some 1/\Program.fieldOff pP 62 2=some 2/\Program.fieldOff pP 62 3=some 3/\Program.fieldOff pP 62 4=some 5/\Program.fieldOff pP 62 5=some 6:=by
 refine⟨?_,?_,?_,?_,?_,?_,?_,?_,?_,?_,?_,?_⟩<;>kernel_rfl
@[go_sem] theorem ldk_73:Program.ldk pP 73=some (some 4)/\qf pP 73=some 4/\Program.zeroC pP 73=some [.sl 3 [],.sl 4 [],.sl 4 [],.sl 6 []]/\Program.zeroT pP 73=some [.ex 3 [],.ex 4 [],.ex 4 [],.ex 6 []]/\Program.places pP 73=some [(0,4)]/\Program.fieldOff pP 73 0=some 0/\Program.ldk pP 75=some (some 11)/\qf pP 75=some 11/\Program.zeroC pP 75=some [.sl 3 [],.sl 4 [],.sl 4 [],.sl 6 [],.lit (.int .i64 0),.lit (.string ⟨#[]⟩),.lit (.int .i64 0),.lit (.int .i64 0),.sl 1 [],.lit (.int .i64 0),.lit (.int .i64 0)]/\Program.zeroT pP 75=some [.ex 3 [],.ex 4 [],.ex 4 [],.ex 6 [],.c (.lit (.int .i64 0)),.c (.lit (.string ⟨#[]⟩)),.c (.lit (.int .i64 0)),.c (.lit (.int .i64 0)),.ex 1 [],.c (.lit (.int .i64 0)),.c (.lit (.int .i64 0))]/\Program.places pP 75=some [(0,4),(4,5),(9,2)]/\Program.fieldOff pP 75 0=some 0:=by
 refine⟨?_,?_,?_,?_,?_,?_,?_,?_,?_,?_,?_,?_⟩<;>kernel_rfl
@[go_sem] theorem qqB:Program.fieldOff pP 75 1=some 4/\Program.fieldOff pP 75 2=some 9/\Program.ldk pP 77=some none/\qf pP 77=some 1/\Program.zeroC pP 77=some [.lit (.map none)]/\Program.zeroT pP 77=some [.c (.lit (.map none))]/\Program.ldk pP 79=some none/\qf pP 79=some 1/\Program.zeroC pP 79=some [.lit .nilFunc]/\Program.zeroT pP 79=some [.c (.lit .nilFunc)]/\Program.ldk pP 86=some (some 4)/\qf pP 86=some 4:=by
 refine⟨?_,?_,?_,?_,?_,?_,?_,?_,?_,?_,?_,?_⟩<;>kernel_rfl
@[go_sem] theorem zeroC_86:Program.zeroC pP 86=some [.lit (.string ⟨#[]⟩),.lit (.int .i64 0),.lit (.int .i64 0),.lit (.int .i64 0)]/\Program.zeroT pP 86=some [.c (.lit (.string ⟨#[]⟩)),.c (.lit (.int .i64 0)),.c (.lit (.int .i64 0)),.c (.lit (.int .i64 0))]/\Program.places pP 86=some [(0,1),(1,1),(2,1),(3,1)]/\Program.fieldOff pP 86 0=some 0/\Program.fieldOff pP 86 1=some 1/\Program.fieldOff pP 86 2=some 2/\Program.fieldOff pP 86 3=some 3/\Program.ldk pP 90=some (some 3)/\qf pP 90=some 3/\Program.zeroC pP 90=some [.lit (.int .i64 0),.sl 1 [],.lit (.int .i64 0)]/\Program.zeroT pP 90=some [.c (.lit (.int .i64 0)),.ex 1 [],.c (.lit (.int .i64 0))]/\Program.places pP 90=some [(0,1),(1,1),(2,1)]:=by
 refine⟨?_,?_,?_,?_,?_,?_,?_,?_,?_,?_,?_,?_⟩<;>kernel_rfl
@[go_sem] theorem qqA:Program.fieldOff pP 90 0=some 0/\Program.fieldOff pP 90 1=some 1/\Program.fieldOff pP 90 2=some 2/\Program.ldk pP 92=some (some 6)/\qf pP 92=some 6/\Program.zeroC pP 92=some [.lit (.int .i64 0),.lit (.int .i64 0),.lit (.int .i64 0),.lit (.int .i64 0),.sl 1 [],.lit (.int .i64 0)]/\Program.zeroT pP 92=some [.c (.lit (.int .i64 0)),.c (.lit (.int .i64 0)),.c (.lit (.int .i64 0)),.c (.lit (.int .i64 0)),.ex 1 [],.c (.lit (.int .i64 0))]/\Program.places pP 92=some [(0,1),(1,2),(3,3)]/\Program.fieldOff pP 92 0=some 0/\Program.fieldOff pP 92 1=some 1/\Program.fieldOff pP 92 2=some 3/\Program.ldk pP 110=some (some 3):=by
 refine⟨?_,?_,?_,?_,?_,?_,?_,?_,?_,?_,?_,?_⟩<;>kernel_rfl
@[go_sem] theorem qrJ:qf pP 110=some 3/\Program.zeroC pP 110=some [.lit (.int .i64 0),.lit (.string ⟨#[]⟩),.lit (.bool false)]/\Program.zeroT pP 110=some [.c (.lit (.int .i64 0)),.c (.lit (.string ⟨#[]⟩)),.c (.lit (.bool false))]/\Program.places pP 110=some [(0,1),(1,1),(2,1)]/\Program.fieldOff pP 110 0=some 0/\Program.fieldOff pP 110 1=some 1/\Program.fieldOff pP 110 2=some 2/\Program.ldk pP 112=some (some 4)/\qf pP 112=some 4/\Program.zeroC pP 112=some [.lit (.int .i64 0),.lit (.int .i64 0),.lit (.int .i64 0),.lit (.int .i64 0)]/\Program.zeroT pP 112=some [.c (.lit (.int .i64 0)),.c (.lit (.int .i64 0)),.c (.lit (.int .i64 0)),.c (.lit (.int .i64 0))]/\Program.places pP 112=some [(0,1),(1,1),(2,1),(3,1)]:=by
 refine⟨?_,?_,?_,?_,?_,?_,?_,?_,?_,?_,?_,?_⟩<;>kernel_rfl
@[go_sem] theorem qoR:Program.fieldOff pP 112 0=some 0/\Program.fieldOff pP 112 1=some 1/\Program.fieldOff pP 112 2=some 2/\Program.fieldOff pP 112 3=some 3/\Program.ldk pP 116=some none/\qf pP 116=some 1/\Program.zeroC pP 116=some [.lit .nilFunc]/\Program.zeroT pP 116=some [.c (.lit .nilFunc)]/\Program.ldk pP 120=some none/\qf pP 120=some 1/\Program.zeroC pP 120=some [.lit .nilFunc]/\Program.zeroT pP 120=some [.c (.lit .nilFunc)]:=by
 refine⟨?_,?_,?_,?_,?_,?_,?_,?_,?_,?_,?_,?_⟩<;>kernel_rfl
@[go_sem] theorem ldk_124:Program.ldk pP 124=some none/\qf pP 124=some 1/\Program.zeroC pP 124=some [.lit (.map none)]/\Program.zeroT pP 124=some [.c (.lit (.map none))]/\Program.ldk pP 128=some none/\qf pP 128=some 1/\Program.zeroC pP 128=some [.lit .nilFunc]/\Program.zeroT pP 128=some [.c (.lit .nilFunc)]/\Program.ldk pP 133=some (some 3)/\qf pP 133=some 3/\Program.zeroC pP 133=some [.lit (.int .i64 0),.lit (.string ⟨#[]⟩),.sl 1 []]/\Program.zeroT pP 133=some [.c (.lit (.int .i64 0)),.c (.lit (.string ⟨#[]⟩)),.ex 1 []]:=by
 refine⟨?_,?_,?_,?_,?_,?_,?_,?_,?_,?_,?_,?_⟩<;>kernel_rfl
@[go_sem] theorem places_133:Program.places pP 133=some [(0,1),(1,1),(2,1)]/\Program.fieldOff pP 133 0=some 0/\Program.fieldOff pP 133 1=some 1/\Program.fieldOff pP 133 2=some 2/\Program.ldk pP 135=some none/\qf pP 135=some 1/\Program.elemSz pP 135=some 1/\qA pP 135=some (1,1)/\Program.zeroC pP 135=some [.sl 1 []]/\Program.zeroT pP 135=some [.ex 1 []]/\Program.nilT pP 135=true/\Program.ldk pP 142=some none:=by
 refine⟨?_,?_,?_,?_,?_,?_,?_,?_,?_,?_,?_,?_⟩<;>kernel_rfl
@[go_sem] theorem qrI:qf pP 142=some 1/\Program.zeroC pP 142=some [.lit .nilFunc]/\Program.zeroT pP 142=some [.c (.lit .nilFunc)]/\Program.ldk pP 156=some (some 4)/\qf pP 156=some 4/\Program.zeroC pP 156=some [.lit (.int .i64 0),.lit (.string ⟨#[]⟩),.sl 1 [],.sl 1 []]/\Program.zeroT pP 156=some [.c (.lit (.int .i64 0)),.c (.lit (.string ⟨#[]⟩)),.ex 1 [],.ex 1 []]/\Program.places pP 156=some [(0,1),(1,1),(2,1),(3,1)]/\Program.fieldOff pP 156 0=some 0/\Program.fieldOff pP 156 1=some 1/\Program.fieldOff pP 156 2=some 2/\Program.fieldOff pP 156 3=some 3:=by
 refine⟨?_,?_,?_,?_,?_,?_,?_,?_,?_,?_,?_,?_⟩<;>kernel_rfl
@[go_sem] theorem ldk_166:Program.ldk pP 166=some none/\qf pP 166=some 1/\Program.zeroC pP 166=some [.lit .nilFunc]/\Program.zeroT pP 166=some [.c (.lit .nilFunc)]/\Program.ldk pP 168=some none/\qf pP 168=some 1/\Program.zeroC pP 168=some [.lit .nilFunc]/\Program.zeroT pP 168=some [.c (.lit .nilFunc)]/\Program.ldk pP 172=some none/\qf pP 172=some 1/\Program.elemSz pP 172=some 1/\qA pP 172=some (1,4):=by
 refine⟨?_,?_,?_,?_,?_,?_,?_,?_,?_,?_,?_,?_⟩<;>kernel_rfl
@[go_sem] theorem zeroC_172:Program.zeroC pP 172=some [.sl 1 []]/\Program.zeroT pP 172=some [.ex 1 []]/\Program.nilT pP 172=true/\Program.ldk pP 173=some none/\qf pP 173=some 1/\Program.elemSz pP 173=some 2/\qA pP 173=some (2,16)/\Program.zeroC pP 173=some [.sl 2 []]/\Program.zeroT pP 173=some [.ex 2 []]/\Program.nilT pP 173=true/\Program.ldk pP 177=some (some 2)/\qf pP 177=some 2:=by
 refine⟨?_,?_,?_,?_,?_,?_,?_,?_,?_,?_,?_,?_⟩<;>kernel_rfl
@[go_sem] theorem zeroC_177:Program.zeroC pP 177=some [.lit (.int .i64 0),.lit (.int .i32 0)]/\Program.zeroT pP 177=some [.c (.lit (.int .i64 0)),.c (.lit (.int .i32 0))]/\Program.places pP 177=some [(0,1),(1,1)]/\Program.fieldOff pP 177 0=some 0/\Program.fieldOff pP 177 1=some 1/\Program.ldk pP 181=some none/\qf pP 181=some 1/\Program.zeroC pP 181=some [.lit .nilFunc]/\Program.zeroT pP 181=some [.c (.lit .nilFunc)]/\Program.ldk pP 183=some none/\qf pP 183=some 1/\Program.elemSz pP 183=some 1:=by
 refine⟨?_,?_,?_,?_,?_,?_,?_,?_,?_,?_,?_,?_⟩<;>kernel_rfl
@[go_sem] theorem appInfo_183:qA pP 183=some (1,24)/\Program.zeroC pP 183=some [.sl 1 []]/\Program.zeroT pP 183=some [.ex 1 []]/\Program.nilT pP 183=true/\Program.ldk pP 190=some none/\qf pP 190=some 1/\Program.zeroC pP 190=some [.lit (.int .u64 0)]/\Program.zeroT pP 190=some [.c (.lit (.int .u64 0))]/\Program.ldk pP 204=some none/\qf pP 204=some 1/\Program.zeroC pP 204=some [.lit (.int .i64 0)]/\Program.zeroT pP 204=some [.c (.lit (.int .i64 0))]:=by
 refine⟨?_,?_,?_,?_,?_,?_,?_,?_,?_,?_,?_,?_⟩<;>kernel_rfl
@[go_sem] theorem ldk_211:Program.ldk pP 211=some none/\qf pP 211=some 1/\Program.zeroC pP 211=some [.lit (.int .u32 0)]/\Program.zeroT pP 211=some [.c (.lit (.int .u32 0))]/\Program.ldk pP 213=some none/\qf pP 213=some 1/\Program.zeroC pP 213=some [.lit (.int .u64 0)]/\Program.zeroT pP 213=some [.c (.lit (.int .u64 0))]/\Program.ldk pP 214=some none/\qf pP 214=some 1/\Program.zeroC pP 214=some [.lit .nilFunc]/\Program.zeroT pP 214=some [.c (.lit .nilFunc)]:=by
 refine⟨?_,?_,?_,?_,?_,?_,?_,?_,?_,?_,?_,?_⟩<;>kernel_rfl
@[go_sem] theorem ldk_219:Program.ldk pP 219=some none/\qf pP 219=some 1/\Program.zeroC pP 219=some [.lit .nilFunc]/\Program.zeroT pP 219=some [.c (.lit .nilFunc)]/\Program.ldk pP 227=some none/\qf pP 227=some 1/\Program.zeroC pP 227=some [.lit .nilFunc]/\Program.zeroT pP 227=some [.c (.lit .nilFunc)]/\Program.ldk pP 237=some none/\qf pP 237=some 1/\Program.zeroC pP 237=some [.lit .nilFunc]/\Program.zeroT pP 237=some [.c (.lit .nilFunc)]:=by
 refine⟨?_,?_,?_,?_,?_,?_,?_,?_,?_,?_,?_,?_⟩<;>kernel_rfl
@[go_sem] theorem ldk_245:Program.ldk pP 245=some none/\qf pP 245=some 1/\Program.elemSz pP 245=some 1/\qA pP 245=some (1,1)/\Program.zeroC pP 245=some [.sl 1 []]/\Program.zeroT pP 245=some [.ex 1 []]/\Program.nilT pP 245=true/\Program.ldk pP 250=some none/\qf pP 250=some 1/\Program.zeroC pP 250=some [.lit .nilFunc]/\Program.zeroT pP 250=some [.c (.lit .nilFunc)]/\pP.eqGuardType pP.depth 36=false:=by
 refine⟨?_,?_,?_,?_,?_,?_,?_,?_,?_,?_,?_,?_⟩<;>kernel_rfl
@[go_sem] theorem eqT_36(a0 b0:Int)(a1 b1:Int):eqT pP 8 36 (.agg [.c (.lit (.int .i64 a0)),.c (.lit (.int .i64 a1))]) (.agg [.c (.lit (.int .i64 b0)),.c (.lit (.int .i64 b1))])=some ((a0==b0)&&((a1==b1)&&true)):=by kernel_rfl
@[go_sem] theorem eqGuard_60:pP.eqGuardType pP.depth 60=false:=by kernel_rfl
@[go_sem] theorem eqT_60(a0 b0:Int)(a1 b1:Int):eqT pP 8 60 (.agg [.c (.lit (.int .i64 a0)),.c (.lit (.int .i64 a1))]) (.agg [.c (.lit (.int .i64 b0)),.c (.lit (.int .i64 b1))])=some ((a0==b0)&&((a1==b1)&&true)):=by kernel_rfl
@[go_sem] theorem eqGuard_62:pP.eqGuardType pP.depth 62=false:=by kernel_rfl
@[go_sem] theorem eqT_62(a0 b0:Int)(a1 b1:Int)(a2 b2:Int)(a3 b3:Int)(a4 b4:Int)(a5 b5:Int)(a6 b6:ByteArray):eqT pP 8 62 (.agg [.c (.lit (.int .i64 a0)),.c (.lit (.int .i64 a1)),.c (.lit (.int .i64 a2)),.c (.lit (.int .i64 a3)),.c (.lit (.int .i64 a4)),.c (.lit (.int .i64 a5)),.c (.lit (.string a6))]) (.agg [.c (.lit (.int .i64 b0)),.c (.lit (.int .i64 b1)),.c (.lit (.int .i64 b2)),.c (.lit (.int .i64 b3)),.c (.lit (.int .i64 b4)),.c (.lit (.int .i64 b5)),.c (.lit (.string b6))])=some ((a0==b0)&&((a1==b1)&&((a2==b2)&&(((a3==b3)&&((a4==b4)&&true))&&((a5==b5)&&((a6==b6)&&true)))))):=by kernel_rfl
@[go_sem] theorem eqGuard_86:pP.eqGuardType pP.depth 86=false:=by kernel_rfl
@[go_sem] theorem eqT_86(a0 b0:ByteArray)(a1 b1:Int)(a2 b2:Int)(a3 b3:Int):eqT pP 8 86 (.agg [.c (.lit (.string a0)),.c (.lit (.int .i64 a1)),.c (.lit (.int .i64 a2)),.c (.lit (.int .i64 a3))]) (.agg [.c (.lit (.string b0)),.c (.lit (.int .i64 b1)),.c (.lit (.int .i64 b2)),.c (.lit (.int .i64 b3))])=some ((a0==b0)&&((a1==b1)&&((a2==b2)&&((a3==b3)&&true)))):=by kernel_rfl
@[go_sem] theorem eqGuard_110:pP.eqGuardType pP.depth 110=false:=by kernel_rfl
@[go_sem] theorem eqT_110(a0 b0:Int)(a1 b1:ByteArray)(a2 b2:Bool):eqT pP 8 110 (.agg [.c (.lit (.int .i64 a0)),.c (.lit (.string a1)),.c (.lit (.bool a2))]) (.agg [.c (.lit (.int .i64 b0)),.c (.lit (.string b1)),.c (.lit (.bool b2))])=some ((a0==b0)&&((a1==b1)&&((a2==b2)&&true))):=by kernel_rfl
@[go_sem] theorem eqGuard_112:pP.eqGuardType pP.depth 112=false:=by kernel_rfl
@[go_sem] theorem eqT_112(a0 b0:Int)(a1 b1:Int)(a2 b2:Int)(a3 b3:Int):eqT pP 8 112 (.agg [.c (.lit (.int .i64 a0)),.c (.lit (.int .i64 a1)),.c (.lit (.int .i64 a2)),.c (.lit (.int .i64 a3))]) (.agg [.c (.lit (.int .i64 b0)),.c (.lit (.int .i64 b1)),.c (.lit (.int .i64 b2)),.c (.lit (.int .i64 b3))])=some ((a0==b0)&&((a1==b1)&&((a2==b2)&&((a3==b3)&&true)))):=by kernel_rfl
@[go_sem] theorem eqGuard_177:pP.eqGuardType pP.depth 177=false:=by kernel_rfl
@[go_sem] theorem eqT_177(a0 b0:Int)(a1 b1:Int):eqT pP 8 177 (.agg [.c (.lit (.int .i64 a0)),.c (.lit (.int .i32 a1))]) (.agg [.c (.lit (.int .i64 b0)),.c (.lit (.int .i32 b1))])=some ((a0==b0)&&((a1==b1)&&true)):=by kernel_rfl
attribute [go_sem] Tryz.underlying3 Tryz.underlying4 Tryz.underlying5 Tryz.underlying9 Tryz.underlying21 Tryz.underlying22 Tryz.underlying23 Tryz.underlying24 Tryz.underlying25 Tryz.underlying28 Tryz.underlying31 Tryz.underlying32 Tryz.underlying37 Tryz.underlying42 Tryz.underlying44 Tryz.underlying47 Tryz.underlying51 Tryz.underlying77 Tryz.underlying79 Tryz.underlying116 Tryz.underlying120 Tryz.underlying124 Tryz.underlying128 Tryz.underlying135 Tryz.underlying142 Tryz.underlying166 Tryz.underlying168 Tryz.underlying172 Tryz.underlying173 Tryz.underlying181 Tryz.underlying183 Tryz.underlying190 Tryz.underlying204 Tryz.underlying211 Tryz.underlying213 Tryz.underlying214 Tryz.underlying219 Tryz.underlying227 Tryz.underlying237 Tryz.underlying245 Tryz.underlying250
end Go.Proofs.YtaaodllggdjhiaaGreatDoor
namespace Go.Proofs.YtaaodllggdjhiaaGreatDoor
open Go.Shelf
def qml:Go.Shelf.Ren:=⟨fun|5=>179|8=>167|7=>203|19=>190|20=>191|10=>216|11=>217|12=>218|13=>219|14=>220|15=>221|16=>222|17=>223|18=>224|30=>231|31=>207|32=>208|33=>232|34=>233|35=>168|40=>234|n=>n,fun|23=>28|25=>3|3=>3|32=>190|22=>28|0=>0|44=>211|46=>213|4=>4|36=>205|35=>204|41=>130|5=>5|9=>9|53=>231|57=>235|63=>246|64=>201|n=>n,fun|n=>n⟩
theorem sortA:Go.Proofs.SlLaysM.n5 pP qml:={
 mixed:=by kernel_rfl
 f5:=⟨Tryz.f179.name,by decide,Tryz.func179.trans (congrArg some (by kernel_rfl))⟩
 f7:=⟨Tryz.f203.name,by decide,Tryz.func203.trans (congrArg some (by kernel_rfl))⟩
 f8:=Tryz.func167.trans (congrArg some (by kernel_rfl))
 f10:=⟨Tryz.f216.name,by decide,Tryz.func216.trans (congrArg some (by kernel_rfl))⟩
 f11:=⟨Tryz.f217.name,by decide,Tryz.func217.trans (congrArg some (by kernel_rfl))⟩
 f12:=⟨Tryz.f218.name,by decide,Tryz.func218.trans (congrArg some (by kernel_rfl))⟩
 f13:=⟨Tryz.f219.name,by decide,Tryz.func219.trans (congrArg some (by kernel_rfl))⟩
 f14:=⟨Tryz.f220.name,by decide,Tryz.func220.trans (congrArg some (by kernel_rfl))⟩
 f15:=⟨Tryz.f221.name,by decide,Tryz.func221.trans (congrArg some (by kernel_rfl))⟩
 f16:=⟨Tryz.f222.name,by decide,Tryz.func222.trans (congrArg some (by kernel_rfl))⟩
 f17:=⟨Tryz.f223.name,by decide,Tryz.func223.trans (congrArg some (by kernel_rfl))⟩
 f18:=⟨Tryz.f224.name,by decide,Tryz.func224.trans (congrArg some (by kernel_rfl))⟩
 f19:=Tryz.func190.trans (congrArg some (by kernel_rfl))
 f20:=Tryz.func191.trans (congrArg some (by kernel_rfl))
 f30:=⟨Tryz.f231.name,by decide,Tryz.func231.trans (congrArg some (by kernel_rfl))⟩
 f31:=Tryz.func207.trans (congrArg some (by kernel_rfl))
 f32:=Tryz.func208.trans (congrArg some (by kernel_rfl))
 f33:=⟨Tryz.f232.name,by decide,Tryz.func232.trans (congrArg some (by kernel_rfl))⟩
 f34:=⟨Tryz.f233.name,by decide,Tryz.func233.trans (congrArg some (by kernel_rfl))⟩
 f35:=⟨Tryz.f168.name,by decide,Tryz.func168.trans (congrArg some (by kernel_rfl))⟩
 f40:=⟨Tryz.f234.name,by decide,Tryz.func234.trans (congrArg some (by kernel_rfl))⟩
 t0:=Tryz.underlying0
 a0:=Tryz.isAgg0
 z0:=Tryz.sizeOf0
 v0:=Tryz.zeroValue0
 t3:=Tryz.underlying3
 a3:=Tryz.isAgg3
 z3:=Tryz.sizeOf3
 v3:=Tryz.zeroValue3
 t4:=Tryz.underlying4
 a4:=Tryz.isAgg4
 z4:=Tryz.sizeOf4
 v4:=Tryz.zeroValue4
 t5:=Tryz.underlying5
 a5:=Tryz.isAgg5
 z5:=Tryz.sizeOf5
 v5:=Tryz.zeroValue5
 t9:=Tryz.underlying9
 a9:=Tryz.isAgg9
 z9:=Tryz.sizeOf9
 v9:=Tryz.zeroValue9
 t22:=Tryz.underlying28
 a22:=Tryz.isAgg28
 z22:=Tryz.sizeOf28
 v22:=Tryz.zeroValue28
 t23:=Tryz.underlying28
 a23:=Tryz.isAgg28
 z23:=Tryz.sizeOf28
 v23:=Tryz.zeroValue28
 t25:=Tryz.underlying3
 a25:=Tryz.isAgg3
 z25:=Tryz.sizeOf3
 v25:=Tryz.zeroValue3
 t32:=Tryz.underlying190
 a32:=Tryz.isAgg190
 z32:=Tryz.sizeOf190
 v32:=Tryz.zeroValue190
 t35:=Tryz.underlying204
 a35:=Tryz.isAgg204
 z35:=Tryz.sizeOf204
 v35:=Tryz.zeroValue204
 t36:=Tryz.underlying205
 a36:=Tryz.isAgg205
 z36:=Tryz.sizeOf205
 v36:=Tryz.zeroValue205
 t41:=Tryz.underlying130
 a41:=Tryz.isAgg130
 z41:=Tryz.sizeOf130
 v41:=Tryz.zeroValue130
 t44:=Tryz.underlying211
 a44:=Tryz.isAgg211
 z44:=Tryz.sizeOf211
 v44:=Tryz.zeroValue211
 t46:=Tryz.underlying213
 a46:=Tryz.isAgg213
 z46:=Tryz.sizeOf213
 v46:=Tryz.zeroValue213
 t53:=Tryz.underlying231
 a53:=Tryz.isAgg231
 z53:=Tryz.sizeOf231
 v53:=Tryz.zeroValue231
 t57:=Tryz.underlying235
 a57:=Tryz.isAgg235
 z57:=Tryz.sizeOf235
 v57:=Tryz.zeroValue235
 t63:=Tryz.underlying246
 a63:=Tryz.isAgg246
 z63:=Tryz.sizeOf246
 v63:=Tryz.zeroValue246
 t64:=Tryz.underlying201
 a64:=Tryz.isAgg201
 z64:=Tryz.sizeOf201
 v64:=Tryz.zeroValue201 }
def Tryz.laysV_ren:Go.Shelf.Ren:=⟨fun|196=>175|259=>200|n=>n,fun|9=>9|4=>4|3=>3|5=>5|12=>12|119=>223|0=>0|46=>190|139=>226|138=>225|53=>213|n=>n,fun|3=>0|4=>1|n=>n⟩
theorem Tryz.laysV:Go.Proofs.Lays.n196 pP Tryz.laysV_ren:={
 mixed:=by kernel_rfl
 f196:=Tryz.func175.trans (congrArg some (by kernel_rfl))
 f259:=Tryz.func200.trans (congrArg some (by kernel_rfl))
 t0:=Tryz.underlying0
 a0:=Tryz.isAgg0
 z0:=Tryz.sizeOf0
 v0:=Tryz.zeroValue0
 t3:=Tryz.underlying3
 a3:=Tryz.isAgg3
 z3:=Tryz.sizeOf3
 v3:=Tryz.zeroValue3
 t4:=Tryz.underlying4
 a4:=Tryz.isAgg4
 z4:=Tryz.sizeOf4
 v4:=Tryz.zeroValue4
 t5:=Tryz.underlying5
 a5:=Tryz.isAgg5
 z5:=Tryz.sizeOf5
 v5:=Tryz.zeroValue5
 t9:=Tryz.underlying9
 a9:=Tryz.isAgg9
 z9:=Tryz.sizeOf9
 v9:=Tryz.zeroValue9
 t12:=Tryz.underlying12
 a12:=Tryz.isAgg12
 z12:=Tryz.sizeOf12
 v12:=Tryz.zeroValue12
 t46:=Tryz.underlying190
 a46:=Tryz.isAgg190
 z46:=Tryz.sizeOf190
 v46:=Tryz.zeroValue190
 t53:=Tryz.underlying213
 a53:=Tryz.isAgg213
 z53:=Tryz.sizeOf213
 v53:=Tryz.zeroValue213
 t119:=Tryz.underlying223
 a119:=Tryz.isAgg223
 z119:=Tryz.sizeOf223
 t138:=Tryz.underlying225
 a138:=Tryz.isAgg225
 z138:=Tryz.sizeOf225
 v138:=Tryz.zeroValue225
 t139:=Tryz.underlying226
 a139:=Tryz.isAgg226
 z139:=Tryz.sizeOf226
 v139:=Tryz.zeroValue226
 g3:=by kernel_rfl
 g4:=by kernel_rfl }
def Tryz.delF_ren:Go.Shelf.Ren:=⟨fun|10=>146|6=>177|n=>n,fun|22=>28|23=>3|25=>128|3=>3|4=>4|0=>0|n=>n,fun|n=>n⟩
theorem Tryz.delF:Go.Proofs.SlLaysH.n10 pP Tryz.delF_ren:={
 mixed:=by kernel_rfl
 f6:=⟨Tryz.f177.name,by decide,Tryz.func177.trans (congrArg some (by kernel_rfl))⟩
 f10:=⟨Tryz.f146.name,by decide,Tryz.func146.trans (congrArg some (by kernel_rfl))⟩
 t0:=Tryz.underlying0
 a0:=Tryz.isAgg0
 z0:=Tryz.sizeOf0
 v0:=Tryz.zeroValue0
 t3:=Tryz.underlying3
 a3:=Tryz.isAgg3
 z3:=Tryz.sizeOf3
 v3:=Tryz.zeroValue3
 t4:=Tryz.underlying4
 a4:=Tryz.isAgg4
 z4:=Tryz.sizeOf4
 v4:=Tryz.zeroValue4
 t22:=Tryz.underlying28
 a22:=Tryz.isAgg28
 z22:=Tryz.sizeOf28
 v22:=Tryz.zeroValue28
 a23:=Tryz.isAgg3
 z23:=Tryz.sizeOf3
 t25:=Tryz.underlying128
 a25:=Tryz.isAgg128
 z25:=Tryz.sizeOf128
 v25:=Tryz.zeroValue128 }
def Tryz.cloN_ren:Go.Shelf.Ren:=⟨fun|41=>147|n=>n,fun|22=>28|23=>3|4=>4|n=>n,fun|n=>n⟩
theorem Tryz.cloN:Go.Proofs.SlLaysE0.n41 pP Tryz.cloN_ren:={
 mixed:=by kernel_rfl
 f41:=⟨Tryz.f147.name,by decide,Tryz.func147.trans (congrArg some (by kernel_rfl))⟩
 t4:=Tryz.underlying4
 a4:=Tryz.isAgg4
 z4:=Tryz.sizeOf4
 v4:=Tryz.zeroValue4
 t22:=Tryz.underlying28
 a22:=Tryz.isAgg28
 z22:=Tryz.sizeOf28
 v22:=Tryz.zeroValue28 }
end Go.Proofs.YtaaodllggdjhiaaGreatDoor
namespace Go.Proofs.YtaaodllggdjhiaaGreatDoor
def or3(x y z:Int):Int:=if x≠0 then x else if y≠0 then y else z
def q9{α:Type}(q:α->Bool)(l:List α):Nat->Nat
 | 0=>0
 | n+1=>match l[n]? with
  | some x=>if q x=true then q9 q l n else n+1
  | none=>0
def qU{α:Type}(q:α->Bool)(l:List α)(x:α):List α:=l.take (q9 q l l.length)++x::l.drop (q9 q l l.length)
theorem qfE{α:Type}(q:α->Bool)(l:List α): ∀n,q9 q l n<=n
 | 0=>by simp[q9]
 | n+1=>by
  simp only[q9]
  split
  ·split
   ·exact Nat.le_succ_of_le (qfE q l n)
   ·exact wv _
  ·exact ye _
theorem qdB{α:Type}(q:α->Bool)(l:List α): ∀n,n<=l.length->∀k,q9 q l n<=k->k<n->∀x,l[k]? =some x->q x=true
 | 0,_,k,_,hk,_,_=>absurd hk (Nat.not_lt_zero _)
 | n+1,hn,k,h1,hk,x,hx=>by
  have e:l[n]? =some l[n]:=wc (by omega)
  simp only[q9,e]at h1
  by_cases h:q l[n]=true
  ·rw[if_pos h]at h1
   by_cases hkn:k=n
   ·subst hkn;rw[e]at hx;injection hx with hx;rw[<-hx];exact h
   ·exact qdB q l n (by omega) k h1 (by omega) x hx
  ·rw[if_neg h]at h1;omega
theorem qez{α:Type}(q:α->Bool)(l:List α): ∀n,n<=l.length->∀k,q9 q l n=k+1->∃x,l[k]? =some x/\q x=false
 | 0,_,k,h=>by simp[q9]at h
 | n+1,hn,k,h1=>by
  have e:l[n]? =some l[n]:=wc (by omega)
  simp only[q9,e]at h1
  by_cases h:q l[n]=true
  ·rw[if_pos h]at h1;exact qez q l n (by omega) k h1
  ·rw[if_neg h]at h1
   have hk:k=n:=by omega
   subst hk
   exact⟨_,e,by simpa using h⟩
theorem ZD{α:Type}(q:α->Bool)(l:List α)(x:α):(qU q l x).Perm (x::l):=by
 unfold qU
 refine(List.perm_middle).trans ?_
 rw[wS]
theorem putBack_mem{α:Type}{q:α->Bool}{l:List α}{x y:α}:y∈qU q l x↔y=x\/y∈l:=by
 rw[(ZD q l x).mem_iff];simp
theorem qaa{α:Type}(le:α->α->Prop)(q:α->Bool)(l:List α)(x:α)(tr: ∀a b c,le a b->le b c->le a c)
  (h1: ∀y∈l,q y=true->le x y) (h2: ∀y∈l,q y=false->le y x) (hs:l.Pairwise le):(qU q l x).Pairwise le:=by
 unfold qU
 have hle:=qfE q l l.length
 have hd: ∀y∈l.drop (q9 q l l.length),le x y:=fun y hy=>by
  obtain⟨k,hk⟩:=jw hy
  rw[ya]at hk
  have hlt:q9 q l l.length+k<l.length:=(wd.1 hk).1
  exact h1 y (wl hk) (qdB q l _ (wv _) _ (by omega) hlt y hk)
 have ht: ∀y∈l.take (q9 q l l.length),le y x:=fun y hy=>by
  obtain⟨k,hk⟩:=jw hy
  rw[yj]at hk
  split at hk
  ·rename_i hkb
   obtain⟨m,hm⟩: ∃m,q9 q l l.length=m+1:=⟨q9 q l l.length - 1,by omega⟩
   obtain⟨z,hz,hq⟩:=qez q l _ (wv _) m hm
   have hzx:=h2 z (wl hz) hq
   by_cases e:k=m
   ·subst e;rw[hk]at hz;injection hz with hz;rw[hz];exact hzx
   ·refine tr _ _ _ ?_ hzx
    obtain⟨hkl,ek⟩:=wd.1 hk
    obtain⟨hml,em⟩:=wd.1 hz
    rw[<-ek,<-em]
    exact List.pairwise_iff_getElem.1 hs k m hkl hml (by omega)
  ·cases hk
 have hcut:(l.take (q9 q l l.length)++l.drop (q9 q l l.length)).Pairwise le:=by rw[wS];exact hs
 obtain⟨p1,p2,p3⟩:=wW.1 hcut
 refine wW.2 ⟨p1,List.pairwise_cons.2 ⟨hd,p2⟩,fun a ha b hb=>?_⟩
 rcases ws.1 hb with rfl|hb
 ·exact ht a ha
 ·exact p3 a ha b hb
end Go.Proofs.YtaaodllggdjhiaaGreatDoor
namespace Go.Proofs.YtaaodllggdjhiaaGreatDoor
open Go.Dl
attribute [local irreducible] DW DCalls ECalls wk IW
abbrev li(n:Int):C:=.lit (.int .i64 n)
abbrev lb(b:Bool):C:=.lit (.bool b)
abbrev dv(c:C):D:=.one (.c c)
abbrev ints(xs:List Int):List (List C):=xs.map fun x=>[li x]
abbrev ls(s:ByteArray):C:=.lit (.string s)
structure Lnk where
 kind:Int
 tgt:Int
deriving DecidableEq
structure Sns where
 gloss:ByteArray
 txt:ByteArray
deriving DecidableEq
structure Phon where
 name:ByteArray
 feat:Int
deriving DecidableEq
structure Ent where
 id:Int
 form:List Int
 cls:Int
 alts:List (List Int)
 main:Int
 senses:List Sns
 links:List Lnk
 refs:List Lnk
deriving DecidableEq
def Lnk.enc(x:Lnk):List C:=[li x.kind,li x.tgt]
def Sns.enc(x:Sns):List C:=[ls x.gloss,ls x.txt]
def Phon.enc(x:Phon):List C:=[ls x.name,li x.feat]
abbrev altC(a:List Int):List C:=[.sl 1 (ints a)]
def Ent.enc(e:Ent):List C:=[li e.id,.sl 1 (ints e.form),li e.cls,.sl 1 (e.alts.map altC),li e.main,.sl 2 (e.senses.map Sns.enc),.sl 2 (e.links.map Lnk.enc),.sl 2 (e.refs.map Lnk.enc)]
def Ent.row(e:Ent):List T:=[.c (li e.id),.c (.sl 1 (ints e.form)),.c (li e.cls),.c (.sl 1 (e.alts.map altC)),.c (li e.main),.c (.sl 2 (e.senses.map Sns.enc)),.c (.sl 2 (e.links.map Lnk.enc)),.c (.sl 2 (e.refs.map Lnk.enc))]
def Lnk.row(x:Lnk):List T:=[.c (li x.kind),.c (li x.tgt)]
def Sns.row(x:Sns):List T:=[.c (ls x.gloss),.c (ls x.txt)]
theorem qp{xs:List Int}{k:Nat}{x:Int}(h:xs[k]? =some x):(ints xs)[k]? =some [li x]:=by simp[h]
theorem ZZ(a b:ByteArray):(a==b)=true↔a=b:=by
 constructor
 ·intro h;cases a;cases b;rw[ByteArray.mk.injEq];exact eq_of_beq h
 ·intro h;subst h;cases a;exact beq_self_eq_true (α:=Array UInt8) _
theorem qq1{a b:ByteArray}(h:a≠b):(a==b)=false:=by
 cases h2:(a==b)
 ·rfl
 ·exact absurd ((ZZ a b).1 h2) h
def qlf(n:Int):Bool:=decide (1<=n)&&decide (n<=1099511627776)
theorem qb9(n:Int):DCalls pP 118 [dv (li n)] (dv (lb (qlf n))):=by
 refine kd (N:=9) (rs:=[.tmp 2]) Tryz.func118 ?_
 repeat' first|(first|refine kcc ?_|apply kU|apply kF);simp only[go_sem]|apply kh<;>intro qa|((first|apply kH|apply kI)<;>(intro qa;simp only[go_sem,qa]))
 all_goals(simp_all [qlf]<;>omega)
def cmpI(a b:Int):Int:=if a<b then -1 else if b<a then 1 else 0
theorem qnO(a:Int):DCalls pP 168 [dv (li a)] (dv (lb false)):=by
 refine kd (N:=6) (rs:=[.tmp 2]) Tryz.func168 ?_
 have h:(a !=a)=false:=by simp
 repeat' first|(first|refine kcc ?_|apply kU|apply kF);simp only[go_sem,h]|apply kh<;>intro qa
theorem qqT(a b:Int):DCalls pP 133 [dv (li a),dv (li b)] (dv (li (cmpI a b))):=by
 refine kd (N:=20) (rs:=[.tmp 4]) Tryz.func133 ?_
 repeat' first|(first|refine kcc ?_|refine kx (qnO a) ?_|refine kx (qnO b) ?_|apply kU|apply kF);simp only[go_sem]|apply kh<;>intro qa
 all_goals first|(simp_all [cmpI];done)|(simp only[cmpI];simp at *;split<;>first|rfl|omega|(split<;>first|rfl|omega))
end Go.Proofs.YtaaodllggdjhiaaGreatDoor
namespace Go.Proofs.YtaaodllggdjhiaaGreatDoor
open Go.Lib
def encN(p:Nat):List Nat:=
 if p<128 then [p]else if p<2048 then [192+p / 64,128+p % 64]else if p<65536 then [224+p / 4096,128+p / 64 % 64,128+p % 64]
 else [240+p / 262144,128+p / 4096 % 64,128+p / 64 % 64,128+p % 64]
def leadN(b0:Nat):Nat:=if 240<=b0 then 4 else if 224<=b0 then 3 else if 192<=b0 then 2 else 1
def valN(b0 b1 b2 b3:Nat):Nat:=
 if 240<=b0 then(((b0 - 240)*64+b1 % 64)*64+b2 % 64)*64+b3 % 64 else if 224<=b0 then((b0 - 224)*64+b1 % 64)*64+b2 % 64
 else if 192<=b0 then(b0 - 192)*64+b1 % 64 else b0
def qbn(p:Nat):Prop:=p<=1114111/\(p<55296\/57343<p)
instance (p:Nat):Decidable (qbn p):=by unfold qbn;infer_instance
def fstN(n b0 b1 b2 b3:Nat):Option (Nat×Nat):=
 if n<leadN b0 then none
 else if qbn (valN b0 b1 b2 b3)/\encN (valN b0 b1 b2 b3)= [b0,b1,b2,b3].take (leadN b0)then some (valN b0 b1 b2 b3,leadN b0)else none
def okN(d:Nat×Nat):Option (Nat×Nat):=if d=(65533,1)then none else some d
theorem QB:okN (65533,1)=none:=by simp[okN]
theorem qaJ{a b:Nat}(h: ¬(a=65533/\b=1)):okN (a,b)=some (a,b):=by simp[okN,h]
theorem qdh{n b0 b1 b2 b3 k p:Nat}(e1:leadN b0=k)(e2:valN b0 b1 b2 b3=p)(hn: ¬n<k)(h:qbn p/\encN p= [b0,b1,b2,b3].take k):fstN n b0 b1 b2 b3=some (p,k):=by
 subst e1;subst e2
 unfold fstN
 rw[if_neg hn,if_pos h]
theorem qaW{n b0 b1 b2 b3 k p:Nat}(e1:leadN b0=k)(e2:valN b0 b1 b2 b3=p)(h: ¬(qbn p/\encN p= [b0,b1,b2,b3].take k)):fstN n b0 b1 b2 b3=none:=by
 subst e1;subst e2
 unfold fstN
 split
 ·rfl
 ·first|rfl|rw[if_neg h]
theorem qaV{n b0 b1 b2 b3 k:Nat}(e1:leadN b0=k)(hn:n<k):fstN n b0 b1 b2 b3=none:=by
 subst e1
 unfold fstN
 rw[if_pos hn]
theorem fst1(n b0 b1 b2 b3:Nat)(hn:1<=n)(h:b0<192):fstN n b0 b1 b2 b3=okN (decodeN n b0 b1 b2 b3):=by
 have e1:leadN b0=1:=by unfold leadN;(repeat' split)<;>omega
 have e2:valN b0 b1 b2 b3=b0:=by unfold valN;(repeat' split)<;>omega
 by_cases h1:b0<128
 ·have e3:decodeN n b0 b1 b2 b3=(b0,1):=by simp[decodeN,h1]
  rw[e3,qaJ (by omega)]
  exact qdh e1 e2 (by omega) ⟨⟨by omega,by omega⟩,by simp[encN,h1]⟩
 ·have e3:decodeN n b0 b1 b2 b3=(65533,1):=decodeN_bad n b0 b1 b2 b3 (.inl ⟨by omega,by omega⟩)
  rw[e3,QB]
  refine qaW e1 e2 ?_
  simp only[wm,wg]
  rintro⟨_,h2⟩
  simp[encN,h1,show b0<2048 by omega]at h2
theorem fst2(n b0 b1 b2 b3:Nat)(h1:b1<256)(h:192<=b0)(h':b0<224):fstN n b0 b1 b2 b3=okN (decodeN n b0 b1 b2 b3):=by
 have e1:leadN b0=2:=by unfold leadN;(repeat' split)<;>omega
 have e2:valN b0 b1 b2 b3=(b0 - 192)*64+b1 % 64:=by unfold valN;(repeat' split)<;>omega
 have hb:b0 / 32=6:=by omega
 have hp:b0 % 32*64+b1 % 64=(b0 - 192)*64+b1 % 64:=by omega
 by_cases hn:n<2
 ·rw[qaV e1 hn]
  have e3:decodeN n b0 b1 b2 b3=(65533,1):=by
   unfold decodeN
   rw[if_neg (by omega),if_neg (by omega),if_neg (by omega),if_neg (by omega)]
  rw[e3,QB]
 by_cases hc:b1 / 64=2
 ·have e3:decodeN n b0 b1 b2 b3=if b0 % 32*64+b1 % 64≥128 then(b0 % 32*64+b1 % 64,2)else(65533,1):=by
   unfold decodeN
   rw[if_neg (by omega),if_pos ⟨hb,by omega,hc⟩]
  rw[e3,hp]
  by_cases hv:(b0 - 192)*64+b1 % 64≥128
  ·rw[if_pos hv,qaJ (by omega)]
   refine qdh e1 e2 hn ⟨⟨by omega,by omega⟩,?_⟩
   simp only[wm,wg]
   rw[encN,if_neg (by omega),if_pos (by omega)]
   simp only[List.cons.injEq,and_true]
   omega
  ·rw[if_neg hv,QB]
   refine qaW e1 e2 ?_
   simp only[wm,wg]
   rintro⟨_,h2⟩
   rw[encN,if_pos (by omega)]at h2
   simp at h2
 ·have e3:decodeN n b0 b1 b2 b3=(65533,1):=by
   unfold decodeN
   rw[if_neg (by omega),if_neg (by omega),if_neg (by omega),if_neg (by omega)]
  rw[e3,QB]
  refine qaW e1 e2 ?_
  simp only[wm,wg]
  rintro⟨_,h2⟩
  rw[encN]at h2
  split at h2
  ·simp at h2
  ·rw[if_pos (by omega)]at h2
   simp only[List.cons.injEq,and_true]at h2
   omega
theorem fst3(n b0 b1 b2 b3:Nat)(h1:b1<256)(h2:b2<256)(h:224<=b0)(h':b0<240):fstN n b0 b1 b2 b3=okN (decodeN n b0 b1 b2 b3):=by
 have e1:leadN b0=3:=by unfold leadN;(repeat' split)<;>omega
 have e2:valN b0 b1 b2 b3=((b0 - 224)*64+b1 % 64)*64+b2 % 64:=by unfold valN;(repeat' split)<;>omega
 have hb:b0 / 16=14:=by omega
 have hp:b0 % 16*4096+b1 % 64*64+b2 % 64=((b0 - 224)*64+b1 % 64)*64+b2 % 64:=by omega
 have bad: ¬(3<=n/\b1 / 64=2/\b2 / 64=2)->decodeN n b0 b1 b2 b3=(65533,1):=fun hh=>by
  unfold decodeN
  rw[if_neg (by omega),if_neg (by omega),if_neg (by omega),if_neg (by omega)]
 by_cases hn:n<3
 ·rw[qaV e1 hn,bad (by omega),QB]
 generalize hq:((b0 - 224)*64+b1 % 64)*64+b2 % 64=p at*
 by_cases hc:b1 / 64=2/\b2 / 64=2
 ·have e3:decodeN n b0 b1 b2 b3=if p≥2048/\(p<55296\/(57344<=p/\p<=1114111))then(p,3)else(65533,1):=by
   unfold decodeN
   rw[if_neg (by omega),if_neg (by omega),if_pos ⟨hb,by omega,by omega⟩,hp]
  rw[e3]
  by_cases hv:p≥2048/\(p<55296\/(57344<=p/\p<=1114111))
  ·rw[if_pos hv,qaJ (by omega)]
   refine qdh e1 e2 hn ⟨⟨by omega,by omega⟩,?_⟩
   simp only[wm,wg]
   rw[encN,if_neg (by omega),if_neg (by omega),if_pos (by omega)]
   simp only[List.cons.injEq,and_true]
   omega
  ·rw[if_neg hv,QB]
   refine qaW e1 e2 ?_
   simp only[wm,wg]
   rintro⟨⟨s1,s2⟩,h2⟩
   rw[encN]at h2
   split at h2
   ·simp at h2
   ·rw[if_pos (by omega)]at h2
    simp at h2
 ·rw[bad (by omega),QB]
  refine qaW e1 e2 ?_
  simp only[wm,wg]
  rintro⟨_,h2⟩
  rw[encN]at h2
  split at h2
  ·simp at h2
  ·split at h2
   ·simp at h2
   ·rw[if_pos (by omega)]at h2
    simp only[List.cons.injEq,and_true]at h2
    omega
theorem fst4(n b0 b1 b2 b3:Nat)(h0:b0<256)(h1:b1<256)(h2:b2<256)(h3:b3<256)(h:240<=b0):fstN n b0 b1 b2 b3=okN (decodeN n b0 b1 b2 b3):=by
 have e1:leadN b0=4:=by unfold leadN;(repeat' split)<;>omega
 have e2:valN b0 b1 b2 b3=(((b0 - 240)*64+b1 % 64)*64+b2 % 64)*64+b3 % 64:=by unfold valN;(repeat' split)<;>omega
 have bad: ¬(4<=n/\b0<248/\b1 / 64=2/\b2 / 64=2/\b3 / 64=2)->decodeN n b0 b1 b2 b3=(65533,1):=fun hh=>by
  unfold decodeN
  rw[if_neg (by omega),if_neg (by omega),if_neg (by omega),if_neg (by omega)]
 by_cases hn:n<4
 ·rw[qaV e1 hn,bad (by omega),QB]
 by_cases hc:b0<248/\b1 / 64=2/\b2 / 64=2/\b3 / 64=2
 ·have hp:b0 % 8*262144+b1 % 64*4096+b2 % 64*64+b3 % 64=(((b0 - 240)*64+b1 % 64)*64+b2 % 64)*64+b3 % 64:=by omega
  have hb:b0 / 8=30:=by omega
  generalize hq:(((b0 - 240)*64+b1 % 64)*64+b2 % 64)*64+b3 % 64=p at*
  have e3:decodeN n b0 b1 b2 b3=if p≥65536/\(p<55296\/(57344<=p/\p<=1114111))then(p,4)else(65533,1):=by
   unfold decodeN
   rw[if_neg (by omega),if_neg (by omega),if_neg (by omega),if_pos ⟨hb,by omega,by omega,by omega⟩,hp]
  rw[e3]
  by_cases hv:p≥65536/\(p<55296\/(57344<=p/\p<=1114111))
  ·rw[if_pos hv,qaJ (by omega)]
   refine qdh e1 e2 hn ⟨⟨by omega,by omega⟩,?_⟩
   simp only[wm,wg]
   rw[encN,if_neg (by omega),if_neg (by omega),if_neg (by omega)]
   simp only[List.cons.injEq,and_true]
   omega
  ·rw[if_neg hv,QB]
   refine qaW e1 e2 ?_
   simp only[wm,wg]
   rintro⟨⟨s1,s2⟩,h2⟩
   rw[encN]at h2
   split at h2
   ·simp at h2
   ·split at h2
    ·simp at h2
    ·rw[if_pos (by omega)]at h2
     simp at h2
 ·rw[bad (by omega),QB]
  refine qaW e1 e2 ?_
  simp only[wm,wg]
  rintro⟨⟨s1,s2⟩,h2⟩
  generalize hq:(((b0 - 240)*64+b1 % 64)*64+b2 % 64)*64+b3 % 64=p at*
  rw[encN]at h2
  split at h2
  ·simp at h2
  ·split at h2
   ·simp at h2
   ·split at h2
    ·simp at h2
    ·simp only[List.cons.injEq,and_true]at h2
     omega
theorem qln(n b0 b1 b2 b3:Nat)(hn:1<=n)(h0:b0<256)(h1:b1<256)(h2:b2<256)(h3:b3<256):fstN n b0 b1 b2 b3=okN (decodeN n b0 b1 b2 b3):=by
 by_cases c1:b0<192
 ·exact fst1 n b0 b1 b2 b3 hn c1
 by_cases c2:b0<224
 ·exact fst2 n b0 b1 b2 b3 h1 (by omega) c2
 by_cases c3:b0<240
 ·exact fst3 n b0 b1 b2 b3 h1 h2 (by omega) c3
 ·exact fst4 n b0 b1 b2 b3 h0 h1 h2 h3 (by omega)
def bAt(bs:List UInt8)(i:Nat):Nat:=(bs.getD i 0).toNat
def fstL(bs:List UInt8):Option (Nat×Nat):=fstN bs.length (bAt bs 0) (bAt bs 1) (bAt bs 2) (bAt bs 3)
def baseN(b0:Nat):Nat:=if 240<=b0 then b0 - 240 else if 224<=b0 then b0 - 224 else if 192<=b0 then b0 - 192 else b0
def pf(p:Nat)(xs:List UInt8):Nat:=xs.foldl (fun p b=>p*64+b.toNat % 64) p
theorem pf_snoc(p:Nat)(xs:List UInt8)(b:UInt8):pf p (xs++[b])=pf p xs*64+b.toNat % 64:=by simp[pf]
theorem pf_lt: ∀(xs:List UInt8) (p:Nat),pf p xs<(p+1)*64 ^ xs.length
 | [],p=>by simp[pf]
 | b::xs,p=>by
  have h:=pf_lt xs (p*64+b.toNat % 64)
  have e:pf p (b::xs)=pf (p*64+b.toNat % 64) xs:=rfl
  rw[e]
  refine yA h ?_
  rw[wz,Nat.pow_succ,jg (64 ^ xs.length) 64,<-Nat.mul_assoc]
  exact Nat.mul_le_mul_right _ (by omega)
theorem QT(b0:Nat):(leadN b0=1/\b0<192)\/(leadN b0=2/\192<=b0/\b0<224)\/(leadN b0=3/\224<=b0/\b0<240)\/(leadN b0=4/\240<=b0):=by
 unfold leadN;(repeat' split)<;>omega
theorem base_le(b0:Nat):baseN b0<=b0:=by unfold baseN;(repeat' split)<;>omega
def zT(bs:List UInt8):List UInt8:=(bs.drop 1).take (leadN (bAt bs 0) - 1)
theorem val_pf{bs:List UInt8}(h:leadN (bAt bs 0)<=bs.length):valN (bAt bs 0) (bAt bs 1) (bAt bs 2) (bAt bs 3)=pf (baseN (bAt bs 0)) (zT bs):=by
 unfold zT
 rcases QT (bAt bs 0)with⟨e,c⟩|⟨e,c,c'⟩|⟨e,c,c'⟩|⟨e,c⟩<;>rw[e]at h ⊢
 ·simp only[yM,wg,pf,w9]
  unfold valN baseN;(repeat' split)<;>omega
 ·match bs,h with
  | a::b::l,_=>
   simp only[bAt,jk,jF,wj,ww,wm,wg,pf,w6,w9]at*
   unfold valN baseN;(repeat' split)<;>omega
 ·match bs,h with
  | a::b::d::l,_=>
   simp only[bAt,jk,jF,wj,ww,wm,wg,pf,w6,w9]at*
   unfold valN baseN;(repeat' split)<;>omega
 ·match bs,h with
  | a::b::d::f::l,_=>
   simp only[bAt,jk,jF,wj,ww,wm,wg,pf,w6,w9]at*
   unfold valN baseN;(repeat' split)<;>omega
theorem qgQ{bs:List UInt8}(h:leadN (bAt bs 0)<=bs.length): [bAt bs 0,bAt bs 1,bAt bs 2,bAt bs 3].take (leadN (bAt bs 0))=(bs.take (leadN (bAt bs 0))).map UInt8.toNat:=by
 rcases QT (bAt bs 0)with⟨e,c⟩|⟨e,c,c'⟩|⟨e,c,c'⟩|⟨e,c⟩<;>rw[e]at h ⊢
 ·match bs,h with
  | a::l,_=>simp[bAt]
 ·match bs,h with
  | a::b::l,_=>simp[bAt]
 ·match bs,h with
  | a::b::d::l,_=>simp[bAt]
 ·match bs,h with
  | a::b::d::f::l,_=>simp[bAt]
theorem qeJ{bs:List UInt8}(h:leadN (bAt bs 0)<=bs.length):(zT bs).length+1=leadN (bAt bs 0):=by
 unfold zT
 rcases QT (bAt bs 0)with⟨e,c⟩|⟨e,c,c'⟩|⟨e,c,c'⟩|⟨e,c⟩<;>rw[e]at h ⊢ <;>simp<;>omega
theorem tail_at{bs:List UInt8}{k:Nat}{b:UInt8}(h:(zT bs)[k]? =some b):bs[k+1]? =some b:=by
 unfold zT at h
 rw[yj]at h
 split at h
 ·rw[ya]at h;rwa [Nat.add_comm]
 ·cases h
theorem qrC{p:Nat}(hp:p<=1114111): ∀x∈encN p,x<256:=by
 unfold encN
 (repeat' split)<;>simp<;>omega
theorem qdl{p:Nat}(hp:p<=1114111){tk:List UInt8}:(encN p).map UInt8.ofNat=tk↔encN p=tk.map UInt8.toNat:=by
 constructor
 ·intro h
  rw[<-h,yw]
  conv=>lhs;rw[<-List.map_id (encN p)]
  apply yC
  intro x hx
  have:=qrC hp x hx
  simp[Function.comp];omega
 ·intro h
  rw[h,yw]
  conv=>rhs;rw[<-List.map_id tk]
  apply yC
  intro x hx
  simp[Function.comp]
theorem qbC{bs:List UInt8}(h:bs.length<leadN (bAt bs 0)):fstL bs=none:=qaV rfl h
theorem qin{bs:List UInt8}(h:leadN (bAt bs 0)<=bs.length):fstL bs=if qbn (pf (baseN (bAt bs 0)) (zT bs))/\(encN (pf (baseN (bAt bs 0)) (zT bs))).map UInt8.ofNat=bs.take (leadN (bAt bs 0))then some (pf (baseN (bAt bs 0)) (zT bs),leadN (bAt bs 0))else none:=by
 have e:=val_pf h
 unfold fstL
 by_cases hs:qbn (pf (baseN (bAt bs 0)) (zT bs))
 ·by_cases he:(encN (pf (baseN (bAt bs 0)) (zT bs))).map UInt8.ofNat=bs.take (leadN (bAt bs 0))
  ·rw[if_pos ⟨hs,he⟩]
   exact qdh rfl e (by omega) ⟨hs,by rw[qgQ h];exact(qdl hs.1).1 he⟩
  ·rw[if_neg (fun hh=>he hh.2)]
   exact qaW rfl e fun hh=>he ((qdl hs.1).2 (by rw[<-qgQ h];exact hh.2))
 ·rw[if_neg (fun hh=>hs hh.1)]
  exact qaW rfl e fun hh=>hs hh.1
theorem qar{bs:List UInt8}(h:bs≠ []):fstL bs=okN (decodeL bs):=by
 rw[decodeL_N]
 have hl:1<=bs.length:=yn.2 h
 exact qln _ _ _ _ _ hl (UInt8.toNat_lt _) (UInt8.toNat_lt _) (UInt8.toNat_lt _) (UInt8.toNat_lt _)
theorem vV{bs:List UInt8}{p k:Nat}(h:fstL bs=some (p,k)):1<=k/\k<=bs.length/\p<=1114111:=by
 by_cases hl:leadN (bAt bs 0)<=bs.length
 ·rw[qin hl]at h
  split at h
  ·rename_i hs
   injection h with h;injection h with h1 h2
   subst h1;subst h2
   have:=qeJ hl
   exact⟨by omega,hl,hs.1.1⟩
  ·cases h
 ·rw[qbC (by omega)]at h;cases h
def ptsN:Nat->List UInt8->Option (List Nat)
 | 0,_=>some []
 | n+1,bs=>if bs= []then some []else match fstL bs with
  | none=>none
  | some (p,k)=>(ptsN n (bs.drop k)).map fun l=>p::l
theorem qgr: ∀(n m:Nat) (bs:List UInt8),bs.length<=n->bs.length<=m->ptsN n bs=ptsN m bs
 | 0,m,bs,hn,_=>by
  have:bs= []:=jj (by omega)
  subst this
  cases m<;>simp[ptsN]
 | n+1,0,bs,_,hm=>by
  have:bs= []:=jj (by omega)
  subst this
  simp[ptsN]
 | n+1,m+1,bs,hn,hm=>by
  unfold ptsN
  split
  ·rfl
  ·split
   ·rfl
   ·rename_i p k hf
    have:=vV hf
    rw[qgr n m (bs.drop k) (by simp;omega) (by simp;omega)]
def ptsL(bs:List UInt8):Option (List Nat):=ptsN bs.length bs
theorem ZP:ptsL []=some []:=rfl
theorem ZQ{bs:List UInt8}(h:bs≠ [])(hf:fstL bs=none):ptsL bs=none:=by
 have:0<bs.length:=yn.2 h
 obtain⟨n,hn⟩: ∃n,bs.length=n+1:=⟨bs.length - 1,by omega⟩
 unfold ptsL
 rw[hn]
 simp[ptsN,h,hf]
theorem QP{bs:List UInt8}{p k:Nat}(hf:fstL bs=some (p,k)):ptsL bs=(ptsL (bs.drop k)).map fun l=>p::l:=by
 have hw:=vV hf
 have h:bs≠ []:=fun e=>by subst e;simp at hw;omega
 obtain⟨n,hn⟩: ∃n,bs.length=n+1:=⟨bs.length - 1,by omega⟩
 unfold ptsL
 rw[hn]
 simp only[ptsN,h,if_false,hf]
 rw[qgr n (bs.drop k).length (bs.drop k) (by simp;omega) (wv _)]
theorem qnd{d:Nat×Nat}:okN d=if d.1=65533/\d.2=1 then none else some d:=by
 unfold okN
 obtain⟨a,b⟩:=d
 simp
theorem qec: ∀(n:Nat) (bs:List UInt8),bs.length<=n->(ptsL bs).isSome=validD bs
 | n,[],_=>rfl
 | 0,b::l,h=>by simp at h
 | n+1,b::l,h=>by
  have hne:(b::l)≠ []:=by simp
  have hd:=qar hne
  rw[qnd]at hd
  rw[validD_step _ hne]
  split
  ·rename_i hb
   rw[if_pos hb]at hd
   rw[ZQ hne hd];rfl
  ·rename_i hb
   rw[if_neg hb]at hd
   have hw:=vV (p:=(decodeL (b::l)).1) (k:=(decodeL (b::l)).2) hd
   rw[QP (p:=(decodeL (b::l)).1) (k:=(decodeL (b::l)).2) hd]
   rw[Option.isSome_map]
   exact qec n _ (by simp at h ⊢;omega)
theorem qcS(bs:List UInt8):(ptsL bs).isSome=validD bs:=qec bs.length bs (wv _)
def ctl(n:Nat):Bool:=decide (n<32)||n==127
theorem qn2{b:UInt8}{l:List UInt8}(h:b.toNat<128):fstL (b::l)=some (b.toNat,1):=by
 rw[qar (by simp),decodeL_ascii b l h]
 exact qaJ (by omega)
theorem qqx{bs:List UInt8}{p k:Nat}(h:fstL bs=some (p,k))(hb:128<=bAt bs 0):128<=p/\∀x∈bs.take k,128<=x.toNat:=by
 by_cases hl:leadN (bAt bs 0)<=bs.length
 ·rw[qin hl]at h
  split at h
  ·rename_i hs
   injection h with h;injection h with h1 h2
   obtain⟨hs1,hs2⟩:=hs
   rw[h1]at hs1 hs2
   rw[h2]at hs2
   have hp:128<=p:=by
    rcases yg p 128 with hlt|hge
    ·exfalso
     rw[encN,if_pos hlt]at hs2
     have h3:=(qdl hs1.1 (tk:=bs.take k)).1 (by rw[encN,if_pos hlt];exact hs2)
     rw[encN,if_pos hlt]at h3
     have hw:1<=k/\k<=bs.length:=by have:=qeJ hl;omega
     cases hbs:bs with
     | nil=>rw[hbs]at hw;simp at hw;omega
     | cons a l=>
      rw[hbs]at h3 hb
      obtain⟨j,hj⟩: ∃j,k=j+1:=⟨k - 1,by omega⟩
      rw[hj]at h3
      simp[bAt]at h3 hb
      omega
    ·exact hge
   refine⟨hp,fun x hx=>?_⟩
   rw[<-hs2]at hx
   obtain⟨y,hy,rfl⟩:=wI.1 hx
   have hlt:=qrC hs1.1 y hy
   have:128<=y:=by
    unfold encN at hy
    (repeat' split at hy)<;>simp at hy<;>omega
   simp;omega
  ·cases h
 ·rw[qbC (by omega)]at h;cases h
theorem qiz: ∀(n:Nat) (bs:List UInt8) (l:List Nat),bs.length<=n->ptsL bs=some l->l.any ctl=bs.any fun b=>ctl b.toNat
 | n,[],l,_,h=>by rw[ZP]at h;injection h with h;subst h;rfl
 | 0,b::r,l,hn,_=>by simp at hn
 | n+1,b::r,l,hn,h=>by
  have hne:(b::r)≠ []:=by simp
  cases hf:fstL (b::r)with
  | none=>rw[ZQ hne hf]at h;cases h
  | some d=>
   obtain⟨p,k⟩:=d
   have hw:=vV hf
   rw[QP hf]at h
   cases hr:ptsL ((b::r).drop k)with
   | none=>rw[hr]at h;cases h
   | some q=>
    rw[hr]at h;injection h with h;subst h
    have ih:=qiz n _ q (by simp at hn ⊢;omega) hr
    rw[List.any_cons,ih]
    conv=>rhs;rw[<-wS k (b::r)]
    rw[List.any_append]
    congr 1
    by_cases hb:b.toNat<128
    ·rw[qn2 hb]at hf
     injection hf with hf;injection hf with h1 h2
     subst h1;subst h2;simp
    ·obtain⟨h1,h2⟩:=qqx hf (by simp[bAt];omega)
     have e1:ctl p=false:=by simp[ctl];omega
     rw[e1]
     symm
     rw[jb]
     intro x hx
     have:=h2 x hx
     simp[ctl];omega
end Go.Proofs.YtaaodllggdjhiaaGreatDoor
namespace Go.Proofs.YtaaodllggdjhiaaGreatDoor
open Go.Dl
attribute [local irreducible] DW DCalls ECalls wk IW
theorem qpv(p:Nat):DCalls pP 204 [dv (li p)] (dv (lb (decide (qbn p)))):=by
 refine kd (N:=17) (rs:=[.tmp 2]) Tryz.func204 ?_
 have t0:decide ((0:Int)<=(p:Int))=true:=by simp
 rcases wN (decide ((p:Int)<=1114111))with t1|t1
 rotate_left
 ·repeat' first|(first|refine kcc ?_|apply kU|apply kF);simp only[go_sem,t1]|apply kh<;>intro qa
  have: ¬qbn p:=fun h=>by simp at t1;have:=h.1;omega
  simp[this]
 rcases wN (decide ((p:Int)<55296))with t2|t2
 ·repeat' first|(first|refine kcc ?_|apply kU|apply kF);simp only[go_sem,t1,t2]|apply kh<;>intro qa
  have:qbn p:=⟨by simp at t1;omega,by simp at t2;omega⟩
  simp[this]
 rcases wN (decide ((57343:Int)<(p:Int)))with t3|t3
 ·repeat' first|(first|refine kcc ?_|apply kU|apply kF);simp only[go_sem,t1,t2,t3]|apply kh<;>intro qa
  have:qbn p:=⟨by simp at t1;omega,by simp at t3;omega⟩
  simp[this]
 ·repeat' first|(first|refine kcc ?_|apply kU|apply kF);simp only[go_sem,t1,t2,t3]|apply kh<;>intro qa
  have: ¬qbn p:=fun h=>by simp at t2 t3;have:=h.2;omega
  simp[this]
def encB(p:Nat):ByteArray:=⟨((encN p).map UInt8.ofNat).toArray⟩
theorem wrap_u8{x:Int}(h:0<=x)(h':x<256):IntKind.u8.wrap x=x:=by
 have:IntKind.u8.wrap x=x % 256:=by simp[IntKind.wrap,IntKind.bits,IntKind.signed]
 rw[this];omega
theorem qeI(p k:Nat):((p:Int).tdiv (k:Int))=((p / k:Nat):Int):=by
 rw[Int.tdiv_eq_ediv_of_nonneg (by omega)];rfl
theorem qb7(p k:Nat):((p:Int).tmod (k:Int))=((p % k:Nat):Int):=by
 rw[Int.tmod_eq_emod_of_nonneg (by omega)];rfl
theorem qkd{a x:Nat}(h:a+x<256):IntKind.u8.wrap (IntKind.i64.wrap ((a:Int)+(x:Int)))=((a+x:Nat):Int):=by
 rw[wrap_i64 (by omega) (by omega),wrap_u8 (by omega) (by omega)];rfl
theorem qbi{x:Nat}(h:x<9223372036854775808):IntKind.i64.wrap (x:Int)=(x:Int):=wrap_i64 (by omega) (by omega)
theorem qoa(p:Nat)(hp:p<=1114111):DCalls pP 205 [dv (li p)] (dv (ls (encB p))):=by
 have d1:(p:Int).tdiv 64=((p / 64:Nat):Int):=qeI p 64
 have d2:(p:Int).tdiv 4096=((p / 4096:Nat):Int):=qeI p 4096
 have d3:(p:Int).tdiv 262144=((p / 262144:Nat):Int):=qeI p 262144
 have m0:(p:Int).tmod 64=((p % 64:Nat):Int):=qb7 p 64
 have m1:((p / 64:Nat):Int).tmod 64=((p / 64 % 64:Nat):Int):=qb7 (p / 64) 64
 have m2:((p / 4096:Nat):Int).tmod 64=((p / 4096 % 64:Nat):Int):=qb7 (p / 4096) 64
 have q1:IntKind.i64.wrap ((p / 64:Nat):Int)=((p / 64:Nat):Int):=qbi (by omega)
 have q2:IntKind.i64.wrap ((p / 4096:Nat):Int)=((p / 4096:Nat):Int):=qbi (by omega)
 have q3:IntKind.i64.wrap ((p / 262144:Nat):Int)=((p / 262144:Nat):Int):=qbi (by omega)
 have w0:IntKind.u8.wrap (IntKind.i64.wrap (128+((p % 64:Nat):Int)))=((128+p % 64:Nat):Int):=qkd (a:=128) (by omega)
 have w1:IntKind.u8.wrap (IntKind.i64.wrap (128+((p / 64 % 64:Nat):Int)))=((128+p / 64 % 64:Nat):Int):=qkd (a:=128) (by omega)
 have w2:IntKind.u8.wrap (IntKind.i64.wrap (128+((p / 4096 % 64:Nat):Int)))=((128+p / 4096 % 64:Nat):Int):=qkd (a:=128) (by omega)
 refine kd (N:=61) (rs:=[.tmp 2]) Tryz.func205 ?_
 by_cases h1:p<128
 ·have t1:decide ((p:Int)<128)=true:=by simp;omega
  have w3:IntKind.u8.wrap (p:Int)=p:=wrap_u8 (by omega) (by omega)
  repeat' first|(first|refine kcc ?_|apply kU|apply kF);simp +decide only[go_sem,t1,w3]|apply kh<;>intro qa
  simp[encB,encN,h1]
 ·have t1:decide ((p:Int)<128)=false:=by simp;omega
  by_cases h2:p<2048
  ·have t2:decide ((p:Int)<2048)=true:=by simp;omega
   have w3:IntKind.u8.wrap (IntKind.i64.wrap (192+((p / 64:Nat):Int)))=((192+p / 64:Nat):Int):=qkd (a:=192) (by omega)
   repeat' first|(first|refine kcc ?_|apply kU|apply kF);simp +decide only[go_sem,t1,t2,d1,q1,m0,w0,w3]|apply kh<;>intro qa
   simp only[encB,encN,h1,h2,if_false,if_true,wt,wn]
  ·have t2:decide ((p:Int)<2048)=false:=by simp;omega
   by_cases h3:p<65536
   ·have t3:decide ((p:Int)<65536)=true:=by simp;omega
    have w3:IntKind.u8.wrap (IntKind.i64.wrap (224+((p / 4096:Nat):Int)))=((224+p / 4096:Nat):Int):=qkd (a:=224) (by omega)
    repeat' first|(first|refine kcc ?_|apply kU|apply kF);simp +decide only[go_sem,t1,t2,t3,d1,d2,q1,q2,m0,m1,w0,w1,w3]|apply kh<;>intro qa
    simp only[encB,encN,h1,h2,h3,if_false,if_true,wt,wn]
   ·have t3:decide ((p:Int)<65536)=false:=by simp;omega
    have w3:IntKind.u8.wrap (IntKind.i64.wrap (240+((p / 262144:Nat):Int)))=((240+p / 262144:Nat):Int):=qkd (a:=240) (by omega)
    repeat' first|(first|refine kcc ?_|apply kU|apply kF);simp +decide only[go_sem,t1,t2,t3,d1,d2,d3,q1,q2,q3,m0,m1,m2,w0,w1,w2,w3]|apply kh<;>intro qa
    simp only[encB,encN,h1,h2,h3,if_false,wt,wn]
end Go.Proofs.YtaaodllggdjhiaaGreatDoor
namespace Go.Proofs.YtaaodllggdjhiaaGreatDoor
abbrev kpm0:List (Nat×Go.Dl.Mode):=[(0,.light),(1,.step),(2,.light),(3,.light),(4,.light),(5,.light),(6,.light),(7,.light),(8,.light),(9,.light),(10,.light),(11,.light),(12,.light),(13,.light)]
abbrev kq0:Nat->List (Nat×Go.Dl.Mode):=fun n=>match n with|18=>kpm0|_=>[]
end Go.Proofs.YtaaodllggdjhiaaGreatDoor
namespace Go.Proofs.YtaaodllggdjhiaaGreatDoor
open Go.Dl
attribute [local irreducible] DW DCalls ECalls wk IW
def Qw(s:ByteArray)(a:Nat):Int×Int:=
 match fstL (s.data.toList.drop a)with
 | some (p,k)=>(p,k)
 | none=>(-1,0)
theorem first_D(s:ByteArray)(a:Nat)(ha:a<s.size)(hs:s.size<=1048576):DCalls pP 181 [dv (ls s),dv (li a)] (.tup [dv (li (Qw s a).1),dv (li (Qw s a).2)]):=by
 obtain⟨bs,hbs⟩: ∃bs,bs=s.data.toList.drop a:=⟨_,rfl⟩
 have hlen:bs.length+a=s.size:=by rw[hbs];simp;omega
 have hx0:s.data.toList[a]? =some (bs.getD 0 0):=by
  rw[hbs,yv,ya,Nat.add_zero]
  have:a<s.data.toList.length:=by simpa using ha
  rw[wc this];rfl
 have hb0:bAt bs 0<256:=UInt8.toNat_lt _
 have hw0:IntKind.i64.wrap (((bs.getD 0 0).toNat:Nat):Int)=((bAt bs 0:Nat):Int):=qbi (by have:=UInt8.toNat_lt (bs.getD 0 0);omega)
 obtain⟨b0,hbb⟩: ∃b0,b0=bAt bs 0:=⟨_,rfl⟩
 rw[<-hbb]at hw0 hb0
 have hbl:=base_le b0
 have qK:=kmax
 refine kd (N:=65) (rs:=[.tmp 4,.tmp 5]) Tryz.func181 ?_
 apply kA
 refine kcc ?_;simp +decide only[go_sem]
 apply kA
 refine kcc ?_;simp +decide only[go_sem,hx0,hw0]
 apply kA
 refine kcc ?_;simp +decide only[go_sem]
 apply kA
 refine vq (fun _:Unit=>kn 65 [(0,dv (ls s)),(1,dv (li a)),(6,dv (li (baseN b0))),(7,dv (li (leadN b0)))] qc) (fun _=>True) ?_ ?_
 ·rcases QT b0 with⟨e,c⟩|⟨e,c,c'⟩|⟨e,c,c'⟩|⟨e,c⟩
  ·have t1:decide ((240:Int)<=(b0:Int))=false:=by simp;omega
   have t2:decide ((224:Int)<=(b0:Int))=false:=by simp;omega
   have t3:decide ((192:Int)<=(b0:Int))=false:=by simp;omega
   have hb:baseN b0=b0:=by unfold baseN;(repeat' split)<;>omega
   repeat' first|(first|refine kcc ?_|refine kjj kq0 ?_|apply kU|apply kF);simp +decide only[go_sem,t1,t2,t3]|apply kh<;>intro qa
   exact⟨(),kL rfl (by simp +decide only[go_sem,e,hb]) (by simp[qc])⟩
  ·have t1:decide ((240:Int)<=(b0:Int))=false:=by simp;omega
   have t2:decide ((224:Int)<=(b0:Int))=false:=by simp;omega
   have t3:decide ((192:Int)<=(b0:Int))=true:=by simp;omega
   have hb:IntKind.i64.wrap ((b0:Int) - 192)=(baseN b0:Int):=by
    have:baseN b0=b0 - 192:=by unfold baseN;(repeat' split)<;>omega
    rw[this,wrap_i64 (by omega) (by omega)];omega
   repeat' first|(first|refine kcc ?_|refine kjj kq0 ?_|apply kU|apply kF);simp +decide only[go_sem,t1,t2,t3,hb]|apply kh<;>intro qa
   exact⟨(),kL rfl (by simp +decide only[go_sem,e]) (by simp[qc])⟩
  ·have t1:decide ((240:Int)<=(b0:Int))=false:=by simp;omega
   have t2:decide ((224:Int)<=(b0:Int))=true:=by simp;omega
   have hb:IntKind.i64.wrap ((b0:Int) - 224)=(baseN b0:Int):=by
    have:baseN b0=b0 - 224:=by unfold baseN;(repeat' split)<;>omega
    rw[this,wrap_i64 (by omega) (by omega)];omega
   repeat' first|(first|refine kcc ?_|refine kjj kq0 ?_|apply kU|apply kF);simp +decide only[go_sem,t1,t2,hb]|apply kh<;>intro qa
   exact⟨(),kL rfl (by simp +decide only[go_sem,e]) (by simp[qc])⟩
  ·have t1:decide ((240:Int)<=(b0:Int))=true:=by simp;omega
   have hb:IntKind.i64.wrap ((b0:Int) - 240)=(baseN b0:Int):=by
    have:baseN b0=b0 - 240:=by unfold baseN;(repeat' split)<;>omega
    rw[this,wrap_i64 (by omega) (by omega)];omega
   repeat' first|(first|refine kcc ?_|refine kjj kq0 ?_|apply kU|apply kF);simp +decide only[go_sem,t1,hb]|apply kh<;>intro qa
   exact⟨(),kL rfl (by simp +decide only[go_sem,e]) (by simp[qc])⟩
 intro _ _
 have hl14:1<=leadN b0/\leadN b0<=4:=by rcases QT b0 with h|h|h|h<;>omega
 have hw1:IntKind.i64.wrap ((a:Int)+(leadN b0:Int))=((a+leadN b0:Nat):Int):=by rw[wrap_i64 (by omega) (by omega)];rfl
 by_cases hk:leadN b0<=bs.length
 rotate_left
 ·have t1:decide ((s.size:Int)<((a+leadN b0:Nat):Int))=true:=by simp;omega
  repeat' first|(first|refine kcc ?_|refine kjj kq0 ?_|apply kU|apply kF);simp +decide only[go_sem,hw1,t1]|apply kh<;>intro qa
  have:Qw s a=(-1,0):=by unfold Qw;rw[<-hbs,qbC (by rw[<-hbb];omega)]
  rw[this]
 have t1:decide ((s.size:Int)<((a+leadN b0:Nat):Int))=false:=by simp;omega
 have hk':=hk
 rw[hbb]at hk'
 have htl:=qeJ hk'
 rw[<-hbb]at htl
 have hpf: ∀k,k<=(zT bs).length->pf (baseN b0) ((zT bs).take k)<268435456:=fun k hk=>by
  have h1:=pf_lt ((zT bs).take k) (baseN b0)
  have h2:((zT bs).take k).length<=3:=by rw[List.length_take];omega
  have h3:64 ^ ((zT bs).take k).length<=64 ^ 3:=Nat.pow_le_pow_right (by omega) h2
  have h4:(baseN b0+1)*64 ^ ((zT bs).take k).length<=257*64 ^ 3:=Nat.mul_le_mul (by omega) h3
  omega
 repeat' first|(first|refine kcc ?_|refine kjj kq0 ?_|apply kU);simp +decide only[go_sem,hw1,t1]|apply kh<;>intro qa
 refine qj (zT bs) (fun k=>kn 65 [(0,dv (ls s)),(1,dv (li a)),(6,dv (li (pf (baseN b0) ((zT bs).take k)))),(7,dv (li (leadN b0))),(8,dv (li ((k+1:Nat):Int)))] qc) (by omega) (kL rfl (by simp +decide only[go_sem,wg,pf,w9]) (by simp[qc])) ?_ ?_
 ·intro k b hb hkl hm htk _ _
  have u1:decide (((k+1:Nat):Int)<(leadN b0:Int))=true:=by simp;omega
  have hp:=hpf k (by omega)
  obtain⟨q,hq⟩: ∃q,q=pf (baseN b0) ((zT bs).take k):=⟨_,rfl⟩
  have hps:pf (baseN b0) ((zT bs).take (k+1))=q*64+b.toNat % 64:=by rw[htk,pf_snoc,hq]
  rw[<-hq]at hp ⊢
  rw[hps]
  have hbt:=UInt8.toNat_lt b
  have u2:IntKind.i64.wrap ((q:Int)*64)=((q*64:Nat):Int):=by rw[wrap_i64 (by omega) (by omega)];omega
  have u3:IntKind.i64.wrap ((a:Int)+((k+1:Nat):Int))=((a+(k+1):Nat):Int):=by rw[wrap_i64 (by omega) (by omega)];rfl
  have u4:s.data.toList[a+(k+1)]? =some b:=by
   have:=tail_at hb
   rw[hbs,ya]at this;exact this
  have u5:IntKind.i64.wrap ((b.toNat:Nat):Int)=((b.toNat:Nat):Int):=qbi (by omega)
  have u6:((b.toNat:Nat):Int).tmod 64=((b.toNat % 64:Nat):Int):=qb7 b.toNat 64
  have u7:IntKind.i64.wrap (((q*64:Nat):Int)+((b.toNat % 64:Nat):Int))=((q*64+b.toNat % 64:Nat):Int):=by rw[wrap_i64 (by omega) (by omega)];omega
  have u8:IntKind.i64.wrap (((k+1:Nat):Int)+1)=((k+1+1:Nat):Int):=by rw[wrap_i64 (by omega) (by omega)];rfl
  repeat' first|(first|refine kcc ?_|refine kjj kq0 ?_|apply kU|apply kF);simp +decide only[go_sem,u1,u2,u3,u4,u5,u6,u7,u8,wB]|apply kh<;>intro qa
  exact kl
 ·intro _
  have u1:decide ((((zT bs).length+1:Nat):Int)<(leadN b0:Int))=false:=by simp;omega
  rw[wh]
  have hp:=hpf (zT bs).length (wv _)
  rw[wh]at hp
  have hf:=qin hk'
  rw[<-hbb]at hf
  obtain⟨p,hpq⟩: ∃p,p=pf (baseN b0) (zT bs):=⟨_,rfl⟩
  rw[<-hpq]at hf hp ⊢
  have hS:=qpv p
  by_cases hsc:qbn p
  rotate_left
  ·rw[decide_eq_false hsc]at hS
   rw[if_neg (fun h=>hsc h.1)]at hf
   repeat' first|(first|refine kcc ?_|refine kjj kq0 ?_|refine kx hS ?_|apply kU|apply kF);simp +decide only[go_sem,u1]|apply kh<;>intro qa
   have:Qw s a=(-1,0):=by unfold Qw;rw[<-hbs,hf]
   rw[this]
  rw[decide_eq_true hsc]at hS
  have hE:=qoa p hsc.1
  have hsl:(s.extract a (a+leadN b0)).data.toList=bs.take (leadN b0):=by
   rw[hbs]
   simp[ByteArray.data_extract]
  have u2:(a<=a+leadN b0/\a+leadN b0<=s.size)=True:=eq_true ⟨by omega,by omega⟩
  have qlS:encB p=s.extract a (a+leadN b0)↔(encN p).map UInt8.ofNat=bs.take (leadN b0):=by
   rw[<-hsl]
   constructor
   ·intro h;rw[<-h];simp[encB]
   ·intro h
    have:(encB p).data=(s.extract a (a+leadN b0)).data:=by
     apply Array.ext'
     rw[<-h];simp[encB]
    cases h1:encB p;cases h2:s.extract a (a+leadN b0)
    rw[h1,h2]at this;simp at this;rw[this]
  by_cases he:encB p=s.extract a (a+leadN b0)
  ·have u3:(encB p==s.extract a (a+leadN b0))=true:=(ZZ _ _).2 he
   rw[if_pos ⟨hsc,qlS.1 he⟩]at hf
   have:Qw s a=((p:Int),((leadN b0:Nat):Int)):=by unfold Qw;rw[<-hbs,hf]
   rw[this]
   repeat' first|(first|refine kcc ?_|refine kjj kq0 ?_|refine kx hS ?_|refine kx hE ?_|apply kU|apply kF);simp +decide only[go_sem,u1,hw1,u2,u3,wB,Int.natCast_nonneg]|apply kh<;>intro qa
  ·have u3:(encB p==s.extract a (a+leadN b0))=false:=qq1 he
   rw[if_neg (fun h=>he (qlS.2 h.2))]at hf
   have:Qw s a=(-1,0):=by unfold Qw;rw[<-hbs,hf]
   rw[this]
   repeat' first|(first|refine kcc ?_|refine kjj kq0 ?_|refine kx hS ?_|refine kx hE ?_|apply kU|apply kF);simp +decide only[go_sem,u1,hw1,u2,u3,wB,Int.natCast_nonneg]|apply kh<;>intro qa
def nl(l:List Nat):List Int:=l.map fun p:Nat=>(p:Int)
theorem nl_snoc(l:List Nat)(p:Nat):ints (nl (l++[p]))=ints (nl l)++[[li (p:Int)]]:=by simp[nl]
def ptsR(s:ByteArray):List Int:=nl ((ptsL s.data.toList).getD [])
def okS(s:ByteArray):Bool:=Go.Lib.validD s.data.toList
theorem qaH(s:ByteArray)(hs:s.size<=1048576):DCalls pP 156 [dv (ls s)] (.tup [dv (.sl 1 (ints (ptsR s))),dv (lb (okS s))]):=by
 have hv:=qcS s.data.toList
 refine kd (N:=28) (rs:=[.tmp 2,.tmp 3]) Tryz.func156 ?_
 repeat' first|(first|refine kcc ?_|apply kU);simp +decide only[go_sem]|apply kh<;>intro qa
 refine zl 4 4 1 (by simp +decide only[go_sem]) ?_
 refine qk (fun y:Nat×List Nat=>kn 28 [(0,dv (ls s)),(4,.one (.own 4 1 (ints (nl y.2)))),(5,dv (li y.1))] qc)
  (fun y=>y.1<=s.size/\y.2.length<=y.1/\ptsL s.data.toList=(ptsL (s.data.toList.drop y.1)).map fun l=>y.2++l) (fun y=>s.size - y.1) (0,[]) (kL rfl (by simp +decide only[go_sem,nl,wn]) (by simp[qc])) ⟨by omega,by simp,by simp⟩ ?_
 rintro⟨a,o⟩ ⟨h1,h2,h3⟩
 simp only at h1 h2 h3 ⊢
 by_cases ha:a<s.size
 ·have t1:decide ((a:Int)<(s.size:Int))=true:=by simp;omega
  have hF:=first_D s a ha hs
  have hne:s.data.toList.drop a≠ []:=by simp;omega
  cases hf:fstL (s.data.toList.drop a)with
  | none=>
   have e:Qw s a=(-1,0):=by unfold Qw;rw[hf]
   rw[e]at hF
   rw[ZQ hne hf]at h3
   have hok:okS s=false:=by unfold okS;rw[<-hv,h3];rfl
   have hpt:ptsR s= []:=by unfold ptsR;rw[h3];rfl
   repeat' first|(first|refine kcc ?_|refine kx hF ?_|apply kU);simp +decide only[go_sem,t1]|apply kh<;>intro qa
   refine qw 2 (dv (.sl 1 [])) (by simp +decide only[go_sem]) ?_
   apply kF;simp +decide only[go_sem]
   rw[hpt,hok];rfl
  | some d=>
   obtain⟨p,k⟩:=d
   have hw:=vV hf
   have e:Qw s a=((p:Int),(k:Int)):=by unfold Qw;rw[hf]
   rw[e]at hF
   rw[QP hf]at h3
   have t2:((k:Int)==0)=false:=by simp;omega
   have hk2:k<=s.size - a:=by have:=hw.2.1;simp at this;omega
   have u1:IntKind.i64.wrap ((a:Int)+(k:Int))=((a+k:Nat):Int):=by rw[wrap_i64 (by omega) (by omega)];rfl
   repeat' first|(first|refine kcc ?_|refine kx hF ?_|apply kU);simp +decide only[go_sem,t1,t2]|apply kh<;>intro qa
   have hl:((nl o).length+1)*8<=140737488355328:=by simp[nl];omega
   refine⟨hl,?_⟩
   repeat' first|(first|refine kcc ?_|apply kU);simp +decide only[go_sem,u1]|apply kh<;>intro qa
   refine⟨(a+k,o++[p]),⟨by simp only;omega,by simp;omega,?_⟩,by simp only;omega,kL rfl (by simp +decide only[go_sem,nl_snoc]) (by simp[qc])⟩
   simp only
   rw[h3,List.drop_drop]
   cases ptsL (s.data.toList.drop (a+k))<;>simp
 ·have t1:decide ((a:Int)<(s.size:Int))=false:=by simp;omega
  repeat' first|(first|refine kcc ?_|apply kU);simp +decide only[go_sem,t1]|apply kh<;>intro qa
  refine qw 2 (dv (.sl 1 (ints (nl o)))) (by simp +decide only[go_sem]) ?_
  apply kF;simp +decide only[go_sem]
  have hn:s.data.toList.drop a= []:=List.drop_eq_nil_of_le (by simp;omega)
  rw[hn,ZP]at h3
  simp at h3
  have hpt:ptsR s=nl o:=by unfold ptsR;rw[h3];rfl
  have hok:okS s=true:=by unfold okS;rw[<-hv,h3];rfl
  rw[hpt,hok]
theorem tabs_of{w:World}{K:KSet}(h:KOk w K):Go.Lib.Utf8Tabs (Tryz.laysV_ren.g 3) (Tryz.laysV_ren.g 4) w:=by
 have h0:=h.g (Tryz.laysV_ren.g 3) _ rfl
 have h1:=h.g (Tryz.laysV_ren.g 4) _ rfl
 refine⟨fun c hc=>?_,fun i hi=>?_⟩
 ·refine(h0 c _ ?_).2.2
  simp[Go.Lib.firstTab,hc]
 ·have e: ∀j,j<2->((List.range 16).flatMap fun i=>[Value.int .u8 (Go.Lib.accLo i),Value.int .u8 (Go.Lib.accHi i)])[2*i+j]? =some (if j=0 then Value.int .u8 (Go.Lib.accLo i)else Value.int .u8 (Go.Lib.accHi i)):=by
   have Zr: ∀i:Fin 16,∀j:Fin 2,((List.range 16).flatMap fun i=>[Value.int .u8 (Go.Lib.accLo i),Value.int .u8 (Go.Lib.accHi i)])[2*i.val+j.val]? =some (if j.val=0 then Value.int .u8 (Go.Lib.accLo i.val)else Value.int .u8 (Go.Lib.accHi i.val)):=by
    intro i j
    match i,j with
    | ⟨i,hi⟩,⟨j,hj⟩=>
     have:i=0\/i=1\/i=2\/i=3\/i=4\/i=5\/i=6\/i=7\/i=8\/i=9\/i=10\/i=11\/i=12\/i=13\/i=14\/i=15:=by omega
     have h2:j=0\/j=1:=by omega
     rcases this with rfl|rfl|rfl|rfl|rfl|rfl|rfl|rfl|rfl|rfl|rfl|rfl|rfl|rfl|rfl|rfl<;>rcases h2 with rfl|rfl<;>rfl
   exact fun j hj=>Zr ⟨i,hi⟩ ⟨j,hj⟩
  exact⟨(h1 (2*i) _ (e 0 (by omega))).2.2,(h1 (2*i+1) _ (e 1 (by omega))).2.2⟩
theorem valid_D(s:ByteArray)(hs:s.size<=9223372036854775807):DCalls pP 175 [dv (ls s)] (dv (lb (okS s))):=by
 refine qhc (by kernel_rfl) rfl fun w K vs hk hl hv=>?_
 obtain⟨v,rfl⟩: ∃v,vs= #[v]:=by
  match vs,hl with
  | ⟨[v]⟩,_=>exact⟨v,rfl⟩
 have h0:=(hv 0 _ v rfl rfl).lit
 subst h0
 exact Go.Proofs.Any.utf8_ValidString Tryz.laysV s w hs (tabs_of hk)
def posF(s:ByteArray)(p:Nat):Nat->Nat
 | 0=>p
 | k+1=>posF s p k+(Utf8.decode s (posF s p k)).2
theorem qbt(s:ByteArray)(p:Nat): ∀k,posF s (p+(Utf8.decode s p).2) k=posF s p (k+1)
 | 0=>rfl
 | k+1=>by
  have h:=qbt s p k
  show posF s (p+(Utf8.decode s p).2) k+_=_
  rw[h];rfl
def qgb(s:ByteArray)(k:Nat):List D:=[dv (li (posF s 0 k)),dv (li (Utf8.decode s (posF s 0 k)).1)]
def cntF(s:ByteArray):Nat->Nat->Nat
 | 0,_=>0
 | n+1,p=>if p<s.size then cntF s n (p+(Utf8.decode s p).2)+1 else 0
theorem qop(s:ByteArray): ∀n p,cntF s n p<=n
 | 0,_=>wv _
 | n+1,p=>by
  unfold cntF
  split
  ·have:=qop s n (p+(Utf8.decode s p).2);omega
  ·omega
theorem qiF(s:ByteArray): ∀n p,(∀k,k<cntF s n p->posF s p k<s.size)/\(s.size<=p+n->s.size<=posF s p (cntF s n p))
 | 0,p=>⟨fun k h=>by simp[cntF]at h,fun h=>by simpa[cntF,posF]using h⟩
 | n+1,p=>by
  have hw:=Go.Lib.width_pos s p
  obtain⟨i1,i2⟩:=qiF s n (p+(Utf8.decode s p).2)
  unfold cntF
  split
  ·rename_i hp
   refine⟨fun k hk=>?_,fun h=>?_⟩
   ·cases k with
    | zero=>exact hp
    | succ k=>rw[<-qbt];exact i1 k (by omega)
   ·rw[<-qbt];exact i2 (by omega)
  ·rename_i hp
   exact⟨fun k h=>by omega,fun _=>by simp[posF];omega⟩
def cnt(s:ByteArray):Nat:=cntF s s.size 0
def qd6(s:ByteArray):List (List D):=(List.range (cnt s)).map (qgb s)
theorem cnt_lt{s:ByteArray}{k:Nat}(h:k<cnt s):posF s 0 k<s.size:=(qiF s s.size 0).1 k h
theorem cnt_end(s:ByteArray):s.size<=posF s 0 (cnt s):=(qiF s s.size 0).2 (by omega)
theorem cnt_le(s:ByteArray):cnt s<=s.size:=qop s _ _
theorem qbo(s:ByteArray):(qd6 s).length=cnt s:=by simp[qd6]
theorem qga{s:ByteArray}{k:Nat}(h:k<cnt s):(qd6 s)[k]? =some (qgb s k):=by simp[qd6,h]
theorem qko(s:ByteArray)(hs:s.size<=1000000):SeqD pP 201 [dv (.pt [ls s])] (qd6 s):=by
 refine ZM (by kernel_rfl) Tryz.func201 rfl rfl (by simp) (by have:=qL;simp;omega) ?_
 intro n l J hJ hY
 refine qgD (pre:=[_]) (str:=s) hJ hY (posF s 0) rfl rfl rfl rfl (by kernel_rfl) (by kernel_rfl) ?_
 simp only[wt,wn,wH,List.nil_append]
 simp only[go_sem]
 intro b n' J' hJ' hY' hJe hnb hbn
 subst hJe
 refine Qt ?_
 refine qii (fun k:Nat=>kn 17 [(0,dv (.lit (.func (.yield l) #[] #[]))),(6,itD b)] qc) (fun k=>some (2*k)) (fun k=>k<=cnt s) (fun k=>cnt s - k) 0 (Zg rfl (by simp only[go_sem])) rfl (by omega) ?_
 intro k hk
 refine zf ?_
 refine qdR hJ hnb hJ' 0 rfl (by kernel_rfl) ?_
 simp only[wg,wj,ww,wt,wn]
 simp only[go_sem]
 refine⟨_,k,rfl,rfl,by simp only[go_sem,itD],rfl,fun hlt=>⟨rfl,?_⟩,fun hge=>?_⟩
 ·have hkc:k<cnt s:=by
   rcases yg k (cnt s)with h|h
   ·exact h
   ·have:k=cnt s:=by omega
    subst this;have:=cnt_end s;omega
  simp only[go_sem]
  refine zf ?_
  refine zx (by simp only[go_sem];rfl) (fun _=>ZG ?_) (fun h=>by cases h)
  simp only[go_sem]
  refine Qt ?_
  refine zf (zD hJ' ?_)
  repeat first|apply kA|apply kB|(first|refine kcc ?_|apply kD|apply kE);simp only[go_sem]
  refine zf ?_
  have hr:(dbl (qd6 s))[2*k+1]? =some (qgb s k):=by rw[qix];exact qga hkc
  have hrl:(Utf8.decode s (posF s 0 k)).1<=1114111:=Go.Lib.rune_le s _
  have hw:IntKind.i64.wrap (((Utf8.decode s (posF s 0 k)).1:Nat):Int)=(((Utf8.decode s (posF s 0 k)).1:Nat):Int):=qbi (by omega)
  refine qaO hJ' hY' 4 rfl (by kernel_rfl) ?_
  simp only[wm,wg,wj,ww,wt,wn]
  simp only[go_sem,hw]
  refine⟨true,rfl,fun h=>(by cases h),fun _=>⟨_,_,_,2*k+1,_,rfl,by simp only[go_sem],rfl,hr,DLeL.of_eq (by simp only[go_sem,qgb]),fun bb=>?_⟩⟩
  simp only[go_sem]
  cases bb
  ·refine zx (by simp only[go_sem];rfl) (fun _=>qjH ?_) (fun h=>by cases h)
   simp only[go_sem]
   exact .inr rfl
  ·refine zx (by simp only[go_sem];rfl) (fun h=>by cases h) (fun _=>ZG ?_)
   simp only[go_sem]
   exact⟨k+1,by omega,by omega,Zg rfl (by simp only[go_sem,itD]),rfl⟩
 ·have hkc:k=cnt s:=by
   rcases yg k (cnt s)with h|h
   ·exact absurd (cnt_lt h) hge
   ·omega
  simp only[go_sem]
  refine zf ?_
  refine zx (by simp only[go_sem];rfl) (fun h=>by cases h) (fun _=>qij ?_)
  simp only[go_sem]
  exact .inl (by rw[qnZ,hkc,qbo])
theorem qmp(s:ByteArray):DCalls pP 176 [dv (ls s)] (dv (.fn 201 [.pt [ls s]])):=by
 refine kd (N:=4) (rs:=[.tmp 2]) Tryz.func176 ?_
 repeat first|apply kA|apply kB|(first|refine kcc ?_|apply kD|apply kE);simp only[go_sem]
 refine qav 1 [ls s] (by simp) (by simp only[go_sem]) ?_
 apply kF;simp only[go_sem]
def iRG(xs:List Int):Dl.Rows:=xs.map fun x=>[T.c (li x)]
theorem iRG_tr(r:Ren)(xs:List Int):Dl.Rows.tr r (iRG xs)=iRG xs:=by
 simp[iRG,Dl.Rows.tr,T.trAll,T.tr]
theorem iRG_sz(xs:List Int):RowsSz 1 (iRG xs):=fun r hr=>by
 simp only[iRG,wI]at hr;obtain⟨x,_,rfl⟩:=hr;rfl
theorem iRG_len(xs:List Int):(iRG xs).length=xs.length:=by simp[iRG]
theorem iRG_app(xs ys:List Int):iRG (xs++ys)=iRG xs++iRG ys:=by simp[iRG]
attribute [go_sem] iRG_tr
def qpx(s:ByteArray)(k:Nat):Int:=(Utf8.decode s (posF s 0 k)).1
def qcH(s:ByteArray)(k:Nat):List Int:=(List.range k).map (qpx s)
theorem qhM(s:ByteArray)(k:Nat):qcH s (k+1)=qcH s k++[qpx s k]:=by simp[qcH,List.range_succ]
theorem qbp(s:ByteArray)(k:Nat):(qcH s k).length=k:=by simp[qcH]
theorem qjs(s:ByteArray)(hs:s.size<=1000000):DCalls pP 144 [dv (ls s)] (.tup [.any,dv (lb (okS s))]):=by
 have qK:=kmax
 have hV:=valid_D s (by omega)
 refine kd (N:=19) (rs:=[.tmp 2,.tmp 3]) Tryz.func144 ?_
 cases hok:okS s
 ·rw[hok]at hV
  repeat' first|(first|refine kcc ?_|refine kx hV ?_|apply kU);simp +decide only[go_sem]|apply kh<;>intro qa
  refine qw 2 .any (DLe.any_ _) ?_
  apply kF;simp +decide only[go_sem]
 ·rw[hok]at hV
  repeat' first|(first|refine kcc ?_|refine kx hV ?_|refine kx (qmp s) ?_|apply kU);simp +decide only[go_sem]|apply kh<;>intro qa
  have hl:=cnt_le s
  refine kK (qd3 (i:=0) (j:=0) 4 1000 1 1 (rows:=[[.ex 1 []]]) (r:=[.ex 1 []]) (by simp +decide only[go_sem]) (by decide) rfl rfl) ?_
  refine qrD 19 Zo [4] (fun k (j:Nat)=>kn 19 [(4,.one (.bx 4 1 0 0))] (ml [(4,[[.ba 1000 1 0 k (k+j)]]),(1000,iRG (qcH s k)++qb j 1)])) (fun k j=>True) 0 trivial rfl rfl (by decide) (by simp +decide only[go_sem];exact⟨rfl,rfl⟩) (qko s hs)
   (km (by simp +decide only[go_sem]<;>rfl)) (fun _ _=>rfl) (by intro ds h;obtain⟨c,_,rfl⟩:=wI.1 h;rfl) ?_ ?_
  ·intro k ds j hk _
   have hkc:k<cnt s:=by have:=(wd.1 hk).1;rwa [qbo]at this
   rw[qga hkc]at hk
   injection hk with hk;subst hk
   repeat first|apply kA|apply kB|(first|refine kcc ?_|apply kD|apply kE);simp +decide only[go_sem,qgb]
   refine StepC.mk (Step.appendList (n:=1000) (rows:=iRG (qcH s k)) (ys:=iRG [qpx s k]) (j:=j) (sz:=1) (by_:=8) rfl rfl (by simp +decide only[go_sem]) (by simp +decide only[go_sem,iRG_len,qbp]) (by simp +decide only[go_sem]) (iRG_sz _) (.ex [[li (qpx s k)]]) (by rw[iRG_len,iRG_len,qbp];simp;omega) ?_)
   intro j'
   simp +decide only[go_sem,iRG_len,qbp]
   repeat first|apply kA|apply kB|(first|refine kcc ?_|apply kD|apply kE);simp +decide only[go_sem]
   refine⟨_,Qq 17 1000 (by decide),?_⟩
   refine⟨j',km (by simp +decide only[go_sem];rw[qhM,iRG_app,wU])⟩
  ·intro j _
   rw[qbo]
   repeat first|apply kA|apply kB|(first|refine kcc ?_|apply kD|apply kE);simp +decide only[go_sem]
   refine qw 2 .any (DLe.any_ _) ?_
   apply kF;simp +decide only[go_sem]
def idxF{α:Type}(q:α->Bool)(l:List α):Int:=if l.any q then((l.findIdx q:Nat):Int)else -1
theorem QE{α:Type}{q:α->Bool}{l:List α}{k:Nat}{x:α}(hx:l[k]? =some x)(hi: ∀y∈l.take k,q y=false)(h:q x=true):idxF q l=(k:Int):=by
 have hk:=(wd.1 hx).1
 have hany:l.any q=true:=yo.2 ⟨x,wl hx,h⟩
 have hf:l.findIdx q=k:=by
  rw[List.findIdx_eq hk]
  refine⟨by obtain⟨h1,h2⟩:=wd.1 hx;rw[h2];exact h,fun j hj=>?_⟩
  exact hi _ (List.mem_iff_getElem?.2 ⟨j,by rw[List.getElem?_take_of_lt hj];exact wc (by omega)⟩)
 rw[idxF,if_pos hany,hf]
theorem QC{α:Type}{q:α->Bool}{l:List α}(hi: ∀y∈l,q y=false):idxF q l= -1:=by
 rw[idxF,if_neg];simpa using hi
def ctlB(s:ByteArray):Bool:=s.data.toList.any fun b=>ctl b.toNat
theorem qhd(n:Nat):(decide (((n:Nat):Int)<32)||(((n:Nat):Int)==127))=ctl n:=by
 rw[Bool.eq_iff_iff];simp[ctl];omega
def qbU(s:ByteArray):Bool:= !(s.size==0)&&(!decide ((32:Int)<(s.size:Int))&&(!ctlB s&&okS s))
theorem qmc(s:ByteArray):s.data.toList.length=s.size:=by simp
theorem qax{α:Type}{q:α->Bool}{l:List α}(h: ∀x∈l.take l.length,q x=false):l.any q=false:=by
 rw[wh]at h;rw[jb];intro x hx;rw[h x hx];decide
theorem qhx{α:Type}{q:α->Bool}{l:List α}{k:Nat}{x:α}(hx:l[k]? =some x)(h:q x=true):l.any q=true:=yo.2 ⟨x,wl hx,h⟩
theorem qmV: ∀(n:Nat) (bs:List UInt8) (l:List Nat),bs.length<=n->ptsL bs=some l->l.length<=bs.length
 | n,[],l,_,h=>by rw[ZP]at h;injection h with h;subst h;simp
 | 0,b::r,l,hn,_=>by simp at hn
 | n+1,b::r,l,hn,h=>by
  cases hf:fstL (b::r)with
  | none=>rw[ZQ (by simp) hf]at h;cases h
  | some d=>
   obtain⟨p,k⟩:=d
   have hw:=vV hf
   rw[QP hf]at h
   cases hr:ptsL ((b::r).drop k)with
   | none=>rw[hr]at h;cases h
   | some q=>
    rw[hr]at h;injection h with h;subst h
    have ih:=qmV n _ q (by simp at hn ⊢;omega) hr
    simp at ih hw ⊢;omega
theorem qpN(s:ByteArray)(hs:s.size<=1048576):DCalls pP 119 [dv (ls s)] (dv (lb (qbU s))):=by
 have qK:=kmax
 have hsz:=qmc s
 have hP:=qaH s hs
 refine kd (N:=38) (rs:=[.tmp 2]) Tryz.func119 ?_
 repeat' first|(first|refine kcc ?_|apply kU);simp only[go_sem]|apply kh<;>intro qa
 refine qC s.data.toList (fun k=>kn 38 [(0,dv (ls s)),(3,dv (li k))] qc) (fun k=>∀e∈s.data.toList.take k,ctl e.toNat=false) (by omega) kl (by simp) ?_ ?_
 ·intro k e he hk hm htk hlt hw hi
  rw[hsz]at hlt
  have ht:=qhd e.toNat
  rcases wN (decide (((e.toNat:Nat):Int)<32))with t1|t1
  ·have hc:ctl e.toNat=true:=by rw[<-ht,t1];rfl
   have hB:ctlB s=true:=qhx he hc
   repeat' first|(first|refine kcc ?_|apply kU|apply kF);simp only[go_sem,hlt,he,t1,wB]|apply kh<;>intro qa
   simp[qbU,hB]
  ·rcases wN (((e.toNat:Nat):Int)==127)with t2|t2
   ·have hc:ctl e.toNat=true:=by rw[<-ht,t1,t2];rfl
    have hB:ctlB s=true:=qhx he hc
    repeat' first|(first|refine kcc ?_|apply kU|apply kF);simp only[go_sem,hlt,he,t1,t2,wB]|apply kh<;>intro qa
    simp[qbU,hB]
   ·have hc:ctl e.toNat=false:=by rw[<-ht,t1,t2];rfl
    repeat' first|(first|refine kcc ?_|apply kU|apply kF);simp only[go_sem,hlt,hw,he,t1,t2,wB]|apply kh<;>intro qa
    exact⟨qv htk hi hc,kl⟩
 ·intro hlt hi
  rw[hsz]at hlt ⊢
  have hB:ctlB s=false:=qax hi
  cases hok:okS s
  ·rw[hok]at hP
   repeat' first|(first|refine kcc ?_|refine kx hP ?_|apply kU|apply kF);simp only[go_sem,hlt]|apply kh<;>intro qa
   simp[qbU,hok]
  ·rw[hok]at hP
   rcases wN (decide ((1:Int)<=(s.size:Int)))with t1|t1
   ·rcases wN (decide ((s.size:Int)<=32))with t2|t2
    ·repeat' first|(first|refine kcc ?_|refine kx hP ?_|apply kU|apply kF);simp only[go_sem,hlt,t1,t2]|apply kh<;>intro qa
     have e0:(s.size==0)=false:=beq_eq_false_iff_ne.2 (by have:=of_decide_eq_true t1;omega)
     have e1:decide ((32:Int)<(s.size:Int))=false:=by simp at t2 ⊢;omega
     simp only[qbU,hok,hB,e0,e1];rfl
    ·repeat' first|(first|refine kcc ?_|refine kx hP ?_|apply kU|apply kF);simp only[go_sem,hlt,t1,t2]|apply kh<;>intro qa
     have e1:decide ((32:Int)<(s.size:Int))=true:=by simp at t2 ⊢;omega
     simp only[qbU,hok,hB,e1];simp
   ·repeat' first|(first|refine kcc ?_|refine kx hP ?_|apply kU|apply kF);simp only[go_sem,hlt,t1]|apply kh<;>intro qa
    have e0:(s.size==0)=true:=beq_iff_eq.2 (by have:=of_decide_eq_false t1;omega)
    simp only[qbU,hok,hB,e0];rfl
def qbZ(s:ByteArray):Int:=if(200:Int)<(s.size:Int)then 5 else if okS s=false then 3 else if ctlB s=true then 3 else 0
theorem rText_D(s:ByteArray):DCalls pP 111 [dv (ls s)] (dv (li (qbZ s))):=by
 have qK:=kmax
 refine kd (N:=34) (rs:=[.tmp 2]) Tryz.func111 ?_
 cases h1:decide ((200:Int)<(s.size:Int))
 rotate_left
 ·repeat' first|(first|refine kcc ?_|apply kU|apply kF);simp only[go_sem,h1]|apply kh<;>intro qa
  simp only[decide_eq_true_eq]at h1
  simp[qbZ,h1]
 have hs:s.size<=200:=by simp at h1;omega
 have hn: ¬(200:Int)<(s.size:Int):=by omega
 have hP:=qaH s (by omega)
 cases hok:okS s
 ·rw[hok]at hP
  repeat' first|(first|refine kcc ?_|refine kx hP ?_|apply kU|apply kF);simp only[go_sem,h1]|apply kh<;>intro qa
  simp[qbZ,hn,hok]
 rw[hok]at hP
 obtain⟨l,hl⟩: ∃l,ptsL s.data.toList=some l:=by
  have:=qcS s.data.toList
  unfold okS at hok
  rw[hok]at this
  exact y7.1 this
 have hB:ctlB s=l.any ctl:=(qiz _ _ l (wv _) hl).symm
 have hpl:ptsR s=nl l:=by unfold ptsR;rw[hl];rfl
 rw[hpl]at hP
 have hll:l.length<=1000000:=by
  have:=qmV _ _ l (wv _) hl
  simp at this;omega
 have hnl:(ints (nl l)).length=l.length:=by simp[nl]
 repeat' first|(first|refine kcc ?_|refine kx hP ?_|apply kU);simp only[go_sem,h1]|apply kh<;>intro qa
 refine qC l (fun k=>kn 34 [(3,dv (.sl 1 (ints (nl l)))),(5,dv (li k))] qc) (fun k=>∀e∈l.take k,ctl e=false) (by omega) kl (by simp) ?_ ?_
 ·intro k e he hk hm htk hlt hw hi
  have ht:=qhd e
  have hx:(ints (nl l))[k]? =some [li (e:Int)]:=by simp[nl,he]
  rcases wN (decide (((e:Nat):Int)<32))with t1|t1
  ·have hc:ctl e=true:=by rw[<-ht,t1];rfl
   have hB':ctlB s=true:=by rw[hB];exact qhx he hc
   repeat' first|(first|refine kcc ?_|apply kU|apply kF);simp only[go_sem,hnl,hlt,hx,t1]|apply kh<;>intro qa
   simp[qbZ,hn,hok,hB']
  ·rcases wN (((e:Nat):Int)==127)with t2|t2
   ·have hc:ctl e=true:=by rw[<-ht,t1,t2];rfl
    have hB':ctlB s=true:=by rw[hB];exact qhx he hc
    repeat' first|(first|refine kcc ?_|apply kU|apply kF);simp only[go_sem,hnl,hlt,hx,t1,t2]|apply kh<;>intro qa
    simp[qbZ,hn,hok,hB']
   ·have hc:ctl e=false:=by rw[<-ht,t1,t2];rfl
    repeat' first|(first|refine kcc ?_|apply kU|apply kF);simp only[go_sem,hnl,hlt,hw,hx,t1,t2]|apply kh<;>intro qa
    exact⟨qv htk hi hc,kl⟩
 ·intro hlt hi
  have hB':ctlB s=false:=by rw[hB];exact qax hi
  repeat' first|(first|refine kcc ?_|apply kU|apply kF);simp only[go_sem,hnl,hlt]|apply kh<;>intro qa
  simp[qbZ,hn,hok,hB']
end Go.Proofs.YtaaodllggdjhiaaGreatDoor
namespace Go.Proofs.YtaaodllggdjhiaaGreatDoor.S
open Go.Dl
attribute [local irreducible] DW DCalls ECalls wk IW
abbrev li(n:Int):C:=.lit (.int .i64 n)
abbrev lb(b:Bool):C:=.lit (.bool b)
abbrev dv(c:C):D:=.one (.c c)
abbrev ints(xs:List Int):List (List C):=xs.map fun x=>[li x]
theorem ql2(xs:List Int)(hl:xs.length<=maxLen):SeqD pP 180 [dv (.pt [.sl 1 (ints xs)])] (xs.map fun x=>[dv (li x)]):=by
 refine ZM (by kernel_rfl) Tryz.func180 rfl rfl (by simp) (by have:=qL;simp;omega) ?_
 intro n l J hJ hY
 refine zf (zD hJ ?_)
 repeat first|apply kA|apply kB|(first|refine kcc ?_|apply kD|apply kE);simp +decide only[go_sem]
 refine Qt ?_
 refine qii (fun k:Nat=>kn 16 [(0,dv (.lit (.func (.yield l) #[] #[]))),(5,dv (.sl 1 (ints xs))),(6,dv (li xs.length)),(7,dv (li k))] qc) (fun k=>some k) (fun k=>k<=xs.length) (fun k=>xs.length - k) 0 (Zg rfl (by simp +decide only[go_sem])) rfl (by omega) ?_
 intro k hk
 refine zf (zD hJ ?_)
 repeat first|apply kA|apply kB|(first|refine kcc ?_|apply kD|apply kE);simp +decide only[go_sem]
 refine zf ?_
 refine zx (by simp +decide only[go_sem];rfl) ?_ ?_
 ·intro hc
  have hk':k<xs.length:=by simpa using hc
  refine ZG ?_
  simp +decide only[go_sem]
  refine zf ?_
  refine Qt ?_
  refine zf (zD hJ ?_)
  have hx:xs[k]? =some xs[k]:=wc hk'
  repeat first|apply kA|apply kB|(first|refine kcc ?_|apply kD|apply kE);simp +decide only[go_sem,hx]
  refine zf ?_
  refine qaO hJ hY 2 rfl (by kernel_rfl) ?_
  simp only[wm,wg,wj,ww,wt,wn]
  simp +decide only[go_sem]
  refine⟨true,rfl,fun h=>(by cases h),fun _=>⟨_,_,_,k,[dv (li xs[k])],rfl,by simp +decide only[go_sem],rfl,by simp[hx],DLeL.of_eq (by simp +decide only[go_sem]),fun b=>?_⟩⟩
  simp +decide only[go_sem]
  cases b
  ·refine zx (by simp +decide only[go_sem];rfl) (fun _=>qjH ?_) (fun h=>by cases h)
   simp +decide only[go_sem]
   exact .inr rfl
  ·refine zx (by simp +decide only[go_sem];rfl) (fun h=>by cases h) (fun _=>ZG ?_)
   simp +decide only[go_sem]
   refine zD hJ ?_
   have hw:=qt k (by omega)
   repeat first|apply kA|apply kB|(first|refine kcc ?_|apply kD|apply kE);simp +decide only[go_sem,hw]
   exact⟨k+1,by omega,by omega,Zg rfl (by simp +decide only[go_sem]),rfl⟩
 ·intro hc
  have hk':k=xs.length:=by simp at hc;omega
  refine qij ?_
  simp +decide only[go_sem]
  simp[qlb,hk']
theorem qo7(xs:List Int):DCalls pP 151 [dv (.sl 1 (ints xs))] (dv (.fn 180 [.pt [.sl 1 (ints xs)]])):=by
 refine kd (N:=4) (rs:=[.tmp 2]) Tryz.func151 ?_
 repeat first|apply kA|apply kB|(first|refine kcc ?_|apply kD|apply kE);simp +decide only[go_sem]
 refine qav 1 [.sl 1 (ints xs)] (by simp) (by simp +decide only[go_sem]) ?_
 apply kF;simp +decide only[go_sem]
theorem iRows_tr(r:Ren)(xs:List Int):Dl.Rows.tr r (iRows xs)=iRows xs:=by
 simp[iRows,Dl.Rows.tr,T.trAll,T.tr]
theorem iRows_sz(xs:List Int):RowsSz 1 (iRows xs):=fun r hr=>by
 obtain⟨x,_,rfl⟩:=wI.1 hr;rfl
theorem iRows_len(xs:List Int):(iRows xs).length=xs.length:=by simp[iRows]
theorem iRows_app(xs ys:List Int):iRows (xs++ys)=iRows xs++iRows ys:=by simp[iRows]
attribute [go_sem] iRows_tr
theorem qiR(xs:List Int)(hl:xs.length<=1000000):ECalls pP 202 [dv (.lit (.slice none 0 0)),dv (.fn 180 [.pt [.sl 1 (ints xs)]])] qc
  (fun r H'=>∃j,r= .one (.ba 0 1 0 xs.length (xs.length+j))/\H'=ml [(0,iRows xs++qb j 1)]):=by
 have qK:=kmax
 refine vW (N:=13) (rs:=[.tmp 4]) (by kernel_rfl) Tryz.func202 rfl rfl rfl (by simp) ?_
 repeat first|apply kA|apply kB|(first|refine kcc ?_|apply kD|apply kE);simp +decide only[go_sem]
 refine kK (qme 2 1 (by simp +decide only[go_sem])) ?_
 refine kK (qd3 (i:=0) (j:=0) 2 1000 1 1 (rows:=[[.ex 1 []]]) (r:=[.ex 1 []]) (by simp +decide only[go_sem]) (by decide) rfl rfl) ?_
 refine qrD 13 Zo [2] (fun k (j:Nat)=>kn 13 [(2,.one (.bx 2 1 0 0))] (ml [(2,[[.ba 1000 1 0 k (k+j)]]),(1000,iRows (xs.take k)++qb j 1)])) (fun k j=>True) 0 trivial rfl rfl (by decide) (by simp +decide only[go_sem];exact⟨rfl,rfl⟩) (ql2 xs (by omega))
  (kmm) (fun _ _=>rfl) (by intro ds h;obtain⟨c,_,rfl⟩:=wI.1 h;rfl) ?_ ?_
 ·intro k ds j hk _
  simp only[wq,wy]at hk
  obtain⟨x,hx,rfl⟩:=hk
  have hkl:k<xs.length:=(wd.1 hx).1
  have htk:(xs.take k).length=k:=by simp;omega
  repeat first|apply kA|apply kB|(first|refine kcc ?_|apply kD|apply kE);simp +decide only[go_sem]
  refine StepC.mk (Step.appendList (n:=1000) (rows:=iRows (xs.take k)) (ys:=iRows [x]) (j:=j) (sz:=1) (by_:=8) rfl rfl (by simp +decide only[go_sem]) (by simp +decide only[go_sem,iRows_len,htk]) (by simp +decide only[go_sem]) (iRows_sz _) (.ex [[li x]]) (by simp[iRows];omega) ?_)
  intro j'
  simp +decide only[go_sem,iRows_len,htk]
  repeat first|apply kA|apply kB|(first|refine kcc ?_|apply kD|apply kE);simp +decide only[go_sem]
  refine⟨_,Qq 11 1000 (by decide),?_⟩
  refine⟨j',km (by simp +decide only[go_sem];rw[qH hx,iRows_app,wU])⟩
 ·intro j _
  rw[we,wh]
  repeat first|apply kA|apply kB|(first|refine kcc ?_|apply kD|apply kE);simp +decide only[go_sem]
  refine kK (DS.Sub.trans (Qq 1000 0 (by decide)) (kM (N:=13) (sls:=[(4,.one (.ba 0 1 0 xs.length (xs.length+j)))]) (bxs:=[(0,iRows xs++qb j 1)]) rfl (by simp +decide only[go_sem]) (by simp +decide only[go_sem]))) ?_
  apply kF;simp +decide only[go_sem]
  exact⟨j,rfl,rfl⟩
theorem qoo(xs:List Int)(hl:xs.length<=1000000):ECalls pP 178 [dv (.fn 180 [.pt [.sl 1 (ints xs)]])] qc
  (fun r H'=>∃j,r= .one (.ba 0 1 0 xs.length (xs.length+j))/\H'=ml [(0,iRows xs++qb j 1)]):=by
 refine vW (N:=5) (rs:=[.tmp 2]) (by kernel_rfl) Tryz.func178 rfl rfl rfl (by simp) ?_
 repeat first|apply kA|apply kB|(first|refine kcc ?_|apply kD|apply kE);simp +decide only[go_sem]
 refine CallC.eff [] (qiR xs hl) rfl (DLeL.of_eq (by simp +decide only[go_sem])) (fun k r h=>by cases h) (by constructor<;>simp) ?_
 rintro r H' ⟨j,rfl,rfl⟩
 simp +decide only[go_sem]
 refine kK (DS.Sub.trans (Qq 4 0 (by decide)) (kM (N:=5) (sls:=[(2,.one (.ba 0 1 0 xs.length (xs.length+j)))]) (bxs:=[(0,iRows xs++qb j 1)]) rfl (by simp +decide only[go_sem]) (by simp +decide only[go_sem,qd]))) ?_
 apply kF;simp +decide only[go_sem]
 exact⟨j,rfl,rfl⟩
theorem sortI_E(q cap:Nat)(H:Mem)(xs:List Int)(js:Dl.Rows)(hq:H q=some (iRows xs++js))(hjs:RowsSz 1 js)(hl:xs.length<4611686018427387904):
  ECalls pP 179 [.one (.ba q 1 0 xs.length cap)] H (fun r H'=>r= .tup []/\H'=fun k=>if k=q then some (iRows (xs.mergeSort fun x y=>decide (x<=y))++js)else H k):=
 sort_E (by kernel_rfl) (AnyM.slices_Sort_int sortA) (AnyM.slices_Sort_int_none sortA) q cap H xs js hq hjs hl
abbrev srt(xs:List Int):List Int:=xs.mergeSort fun x y=>decide (x<=y)
theorem qmi(xs:List Int):(srt xs).length=xs.length:=List.length_mergeSort _
theorem qmk(xs:List Int)(hl:xs.length<=1000000):ECalls pP 150 [dv (.fn 180 [.pt [.sl 1 (ints xs)]])] qc
  (fun r H'=>∃j,r= .one (.ba 0 1 0 xs.length (xs.length+j))/\H'=ml [(0,iRows (srt xs)++qb j 1)]):=by
 refine vW (N:=9) (rs:=[.tmp 2]) (by kernel_rfl) Tryz.func150 rfl rfl rfl (by simp) ?_
 repeat first|apply kA|apply kB|(first|refine kcc ?_|apply kD|apply kE);simp +decide only[go_sem]
 refine CallC.eff [] (qoo xs hl) rfl (DLeL.of_eq (by simp +decide only[go_sem])) (fun k r h=>by cases h) (by constructor<;>simp) ?_
 rintro r H' ⟨j,rfl,rfl⟩
 simp +decide only[go_sem]
 repeat first|apply kA|apply kB|(first|refine kcc ?_|apply kD|apply kE);simp +decide only[go_sem]
 refine CallC.eff [5] (sortI_E (5+NB) (xs.length+j) (fun k=>if k=5+NB then some (iRows xs++qb j 1)else none) xs (qb j 1) (by simp) (Z1 j 1) (by omega)) rfl (DLeL.of_eq (by simp +decide only[go_sem])) (fun k r h=>?_) (by constructor<;>simp[mid]) ?_
 ·by_cases hk:k=5+NB
  ·subst hk;simp +decide only[go_sem]at h;subst h;simp +decide only[go_sem,qd,qJ]
  ·simp +decide only[go_sem,hk]at h
 rintro r H' ⟨rfl,rfl⟩
 simp +decide only[go_sem]
 repeat first|apply kA|apply kB|(first|refine kcc ?_|apply kD|apply kE);simp +decide only[go_sem]
 refine kK (DS.Sub.trans (Qq 5 0 (by decide)) (kM (N:=9) (sls:=[(2,.one (.ba 0 1 0 xs.length (xs.length+j)))]) (bxs:=[(0,iRows (srt xs)++qb j 1)]) rfl (by simp +decide only[go_sem]) (by simp +decide only[go_sem,qd]))) ?_
 apply kF;simp +decide only[go_sem]
 exact⟨j,rfl,rfl⟩
end Go.Proofs.YtaaodllggdjhiaaGreatDoor.S
