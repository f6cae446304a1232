/- The statements about what a viewer finds: their frames. For every input (of the size that the statement names) the law returns true. -/
import Derived.Test.YtaaodllggdjhiaaGreatDoorCards
import Derived.Test.YtaaodllggdjhiaaGreatDoorTie
import Derived.WalkKit
import Derived.ProofKit
import Derived.OpenShut
import Derived.ShutString
import Derived.ChangeOld
import Derived.Below
import Derived.Deep.DeepHandedRow
import Derived.Lib.LaidIn
import Derived.Lib.LaidU8T
import Derived.Test.YtaaodllggdjhiaaGreatDoorm6
set_option linter.all false
set_option linter.unusedVariables false
set_option linter.unusedSimpArgs false
open List renaming getElem?_eq_some_iff → wd, map_map → yw, mem_map → wI
open Nat renaming le_refl → wv
namespace Go.Proofs.YtaaodllggdjhiaaGreatDoor
open Go.ChangeShapes Go.WideShapes Go.ChangeAt Go.RowKit
open Go.ChangeMaps (open_string shut_string)
open Go.Dl (Sh Val)
theorem Tryz.own:ownKnob Tryz.prog.godebug=none:=by kernel_rfl
theorem Tryz.laidOut:laidOutB Tryz.prog=true:=by kernel_rfl
/-- A world for the witness: the settled one, the two tables holding what their initialisers lay. -/
noncomputable def qc5(os:Os):World:=
 let w0:=World.holding Tryz.prog os ⟨#[],#[],[]⟩
 let put (h:Array Obj) (g:Nat) (cs:Array Value):Array Obj:=h.modify g fun
  | .cells _ t frozen=>.cells cs t frozen
  | o=>o
 let h1:=put w0.heap 0 (Go.Lib.firstTab.map fun z=>Value.int .u8 z).toArray
 let h2:=put h1 1 ((List.range 16).flatMap fun i=>[Value.int .u8 (Go.Lib.accLo i),Value.int .u8 (Go.Lib.accHi i)]).toArray
 { w0 with heap:=h2 }
def laidL : List (String × DataW Unit) := [("unicode/utf8.acceptRanges", Rows.laid_unicode_utf8_acceptRanges), ("unicode/utf8.first", Rows.laid_unicode_utf8_first)]
theorem laid1:Rows.laid_unicode_utf8_first=Go.Lib.firstData:=by kernel_rfl
theorem laid2:(Rows.laid_unicode_utf8_acceptRanges:DataW Unit)=Go.Lib.acceptData:=by kernel_rfl
theorem acc_all: ∀i:Fin 16,∀j:Fin 2,((List.range 16).flatMap fun i=>[Value.int .u8 (Go.Lib.accLo i),Value.int .u8 (Go.Lib.accHi i)])[2*i.val+j.val]? =some (if j.val=0 then Value.int .u8 (Go.Lib.accLo i.val)else Value.int .u8 (Go.Lib.accHi i.val)):=by
 intro i j
 match i,j with
 | ⟨i,hi⟩,⟨j,hj⟩=>
  have:i=0\/i=1\/i=2\/i=3\/i=4\/i=5\/i=6\/i=7\/i=8\/i=9\/i=10\/i=11\/i=12\/i=13\/i=14\/i=15:=by omega
  have h2:j=0\/j=1:=by omega
  rcases this with rfl|rfl|rfl|rfl|rfl|rfl|rfl|rfl|rfl|rfl|rfl|rfl|rfl|rfl|rfl|rfl<;>rcases h2 with rfl|rfl<;>rfl
theorem tabs_at{W:World}(h:laidMetH Tryz.prog laidL W):Go.Dl.qrL W:=by
 have hm:laidMet Tryz.prog laidL W:=h
 have ht:Go.Lib.Utf8Tabs (Tryz.laysV_ren.g 3) (Tryz.laysV_ren.g 4) W:=
  utf8Tabs_of_readsT (U8Types.of196 Tryz.laysV) ⟨by kernel_rfl,by kernel_rfl,by kernel_rfl,by kernel_rfl,by kernel_rfl,by kernel_rfl,by kernel_rfl⟩ (laid1▸Go.Lib.laidMet.reads hm (.tail _ (.head _))) (laid2▸Go.Lib.laidMet.reads hm (.head _))
 intro g vs hg o v hv
 unfold Go.Dl.gtab at hg
 split at hg
 ·rename_i e
  subst e
  injection hg with hg
  subst hg
  have ho:o<256:=by
   have:=(wd.1 hv).1
   simpa [Go.Lib.firstTab]using this
  simp [Go.Lib.firstTab,ho]at hv
  subst hv
  exact⟨rfl,ht.1 o ho⟩
 ·split at hg
  ·rename_i e
   subst e
   injection hg with hg
   subst hg
   have ho:o<32:=by
    have:=(wd.1 hv).1
    exact this
   obtain⟨i,j,hi,hj,rfl⟩: ∃i j,i<16/\j<2/\o=2*i+j:=⟨o / 2,o % 2,by omega,by omega,by omega⟩
   have h2:=acc_all ⟨i,hi⟩ ⟨j,hj⟩
   simp only at h2
   rw [hv]at h2
   injection h2 with h2
   have h3:=ht.2 i hi
   have hj':j=0\/j=1:=by omega
   rcases hj' with rfl|rfl
   ·subst h2;exact⟨rfl,h3.1⟩
   ·subst h2;exact⟨rfl,h3.2⟩
  ·cases hg
theorem qfz{H:Type}: ∀l:List (DataW H),Rows.uptoBulkAll l=(l.map Rows.uptoBulk).sum
 | []=>by simp [Rows.uptoBulkAll]
 | d::l=>by simp [Rows.uptoBulkAll,qfz l]
theorem qjL(H:Type):Go.Dl.IsBulk (Rows.uptoBulk (H:=H)) where
 pos d:=by
  cases d with
  | lit l=>cases l<;>simp [Rows.uptoBulk]
  | nil=>simp [Rows.uptoBulk]
  | ptr d=>simp [Rows.uptoBulk]
  | slice elems vX=>simp [Rows.uptoBulk]
  | agg parts=>simp [Rows.uptoBulk]
  | iface t d=>simp [Rows.uptoBulk]
  | map entries=>simp [Rows.uptoBulk]
  | held h=>simp [Rows.uptoBulk]
 str bs:=by simp [Rows.uptoBulk]
 sl es ss:=by simp only [Rows.uptoBulk,qfz];omega
 agg ps:=by simp only [Rows.uptoBulk,qfz];omega
abbrev zt:Sh:=.int .i64
abbrev zR:Sh:=.sl 1 zt
abbrev shSpn:Sh:=.cons zt (.cons zt .nil)
abbrev qbQ:Sh:=.cons zt (.cons .str (.cons .bool .nil))
abbrev qf8:Sh:=.cons zt (.cons .str (.cons zR (.cons zR .nil)))
abbrev qcF:Sh:=.cons zt (.cons zt (.cons zt (.cons zt .nil)))
abbrev shPro:Sh:=.cons zt (.cons zR (.cons zt .nil))
abbrev qf7:Sh:=.cons zt (.cons shSpn (.cons shPro .nil))
abbrev qcE:Sh:=.cons (.sl 3 qbQ) (.cons (.sl 4 qf8) (.cons (.sl 4 qcF) (.cons (.sl 6 qf7) .nil)))
abbrev shRcd:Sh:=.cons zt (.cons .str (.cons zt (.cons zt (.cons zR .nil))))
abbrev qf6:Sh:=.cons .str (.cons zt (.cons zt (.cons zt .nil)))
abbrev qkn:Sh:=.cons zt (.cons zt (.cons zt (.cons shSpn (.cons zt (.cons .str .nil)))))
abbrev qeO:Sh:=.cons shRcd (.cons (.sl 4 qf6) (.cons (.sl 7 qkn) .nil))
abbrev qps:Sh:=.cons zt (.cons zt .nil)
def intsOf(v:Val zR):List Int:=v
def Pers.ofVal(v:Val qbQ):Pers:=⟨v.1,v.2.1,v.2.2.1⟩
def Grp.ofVal(v:Val qf8):Grp:=⟨v.1,v.2.1,v.2.2.1,v.2.2.2.1⟩
def Cons.ofVal(v:Val qcF):Cons:=⟨v.1,v.2.1,v.2.2.1,v.2.2.2.1⟩
def Rle.ofVal(v:Val qf7):Rle:=⟨v.1,v.2.1.1,v.2.1.2.1,v.2.2.1.1,v.2.2.1.2.1,v.2.2.1.2.2.1⟩
def Rgt.ofVal(v:Val qcE):Rgt:=⟨List.map Pers.ofVal v.1,List.map Grp.ofVal v.2.1,List.map Cons.ofVal v.2.2.1,List.map Rle.ofVal v.2.2.2.1⟩
def Tir.ofVal(v:Val qf6):Tir:=⟨v.1,v.2.1,v.2.2.1,v.2.2.2.1⟩
def Nte.ofVal(v:Val qkn):Nte:=⟨v.1,v.2.1,v.2.2.1,v.2.2.2.1.1,v.2.2.2.1.2.1,v.2.2.2.2.1,v.2.2.2.2.2.1⟩
def Rcd.ofVal(v:Val shRcd):Rcd:=⟨v.1,v.2.1,v.2.2.1,v.2.2.2.1,v.2.2.2.2.1⟩
def Dcm.ofVal(v:Val qeO):Dcm:=⟨Rcd.ofVal v.1,List.map Tir.ofVal v.2.1,List.map Nte.ofVal v.2.2.1⟩
theorem qp4(l:List (Val qbQ)):List.map (Sh.enc qbQ) l=(List.map Pers.ofVal l).map Pers.enc:=by
 rw [yw];rfl
theorem grp_enc(l:List (Val qf8)):List.map (Sh.enc qf8) l=(List.map Grp.ofVal l).map Grp.enc:=by
 rw [yw];rfl
theorem qqP(l:List (Val qcF)):List.map (Sh.enc qcF) l=(List.map Cons.ofVal l).map Cons.enc:=by
 rw [yw];rfl
theorem rle_enc(l:List (Val qf7)):List.map (Sh.enc qf7) l=(List.map Rle.ofVal l).map Rle.enc:=by
 rw [yw];rfl
theorem tir_enc(l:List (Val qf6)):List.map (Sh.enc qf6) l=(List.map Tir.ofVal l).map Tir.enc:=by
 rw [yw];rfl
theorem nte_enc(l:List (Val qkn)):List.map (Sh.enc qkn) l=(List.map Nte.ofVal l).map Nte.enc:=by
 rw [yw];rfl
theorem rgtVD{w:World}{E:Go.Dl.Env}{v:Value}(x:Val qcE)(h:Go.Dl.VD w E (Go.Dl.ArgD qcE x) v):Go.Dl.VD w E (.agg (Rgt.ofVal x).row) v:=by
 have e1:=qp4 x.1
 have e2:=grp_enc x.2.1
 have e3:=qqP x.2.2.1
 have e4:=rle_enc x.2.2.2.1
 have e:Go.Dl.ArgD qcE x= .agg (Rgt.ofVal x).row:=by
  show Go.Dl.D.agg [.c (.sl 3 (List.map (Sh.enc qbQ) x.1)),.c (.sl 4 (List.map (Sh.enc qf8) x.2.1)),.c (.sl 4 (List.map (Sh.enc qcF) x.2.2.1)),.c (.sl 6 (List.map (Sh.enc qf7) x.2.2.2.1))]=_
  rw [e1,e2,e3,e4];rfl
 rw [<-e];exact h
theorem docVD{w:World}{E:Go.Dl.Env}{v:Value}(x:Val qeO)(h:Go.Dl.VD w E (Go.Dl.ArgD qeO x) v):Go.Dl.VD w E (.agg (Dcm.ofVal x).row) v:=by
 have e1:=tir_enc x.2.1
 have e2:=nte_enc x.2.2.1
 have e:Go.Dl.ArgD qeO x= .agg (Dcm.ofVal x).row:=by
  show Go.Dl.D.agg [.c (li x.1.1),.c (ls x.1.2.1),.c (li x.1.2.2.1),.c (li x.1.2.2.2.1),.c (.sl 1 (List.map (Sh.enc zt) x.1.2.2.2.2.1)),.c (.sl 4 (List.map (Sh.enc qf6) x.2.1)),.c (.sl 7 (List.map (Sh.enc qkn) x.2.2.1))]=_
  rw [e1,e2];rfl
 rw [<-e];exact h
theorem vwrVD{w:World}{E:Go.Dl.Env}{v:Value}(x:Val qps)(h:Go.Dl.VD w E (Go.Dl.ArgD qps x) v):Go.Dl.VD w E (.agg [.c (li x.1),.c (li x.2.1)]) v:=h
theorem qfZ{α:Type}(f:α->Nat): ∀{l:List α} {a:α},a∈l->f a<=(l.map f).sum
 | b::l,a,h=>by
  rcases List.mem_cons.1 h with rfl|h
  ·simp
  ·have:=qfZ f h;simp;omega
theorem qhL{α:Type}(f:α->Nat)(n:Nat)(hf: ∀a,n<=f a): ∀l:List α,n*l.length<=(l.map f).sum
 | []=>by simp
 | b::l=>by have:=qhL f n hf l;have:=hf b;simp [Nat.mul_add];omega
theorem qfd{n:Nat}(a:Val zR)(h:Go.Dl.qY zR a<=n):(intsOf a).length<=n:=by
 have e:Go.Dl.qY zR a=1+(List.map (Go.Dl.qY zt) a).sum:=rfl
 have h2:=qhL (Go.Dl.qY zt) 1 (fun _=>wv 1) a
 rw [Nat.one_mul]at h2
 exact Nat.le_trans h2 (by omega)
theorem rgt_sz{x:Val qcE}(h:Go.Dl.qY qcE x<=1048576):RgtS (Rgt.ofVal x):=by
 have e0:Go.Dl.qY qcE x=(1+(List.map (Go.Dl.qY qbQ) x.1).sum)+((1+(List.map (Go.Dl.qY qf8) x.2.1).sum)+((1+(List.map (Go.Dl.qY qcF) x.2.2.1).sum)+((1+(List.map (Go.Dl.qY qf7) x.2.2.2.1).sum)+0))):=rfl
 have hg: ∀g∈(Rgt.ofVal x).groups,g.name.size<=1048576/\g.people.length<=1048576/\g.subs.length<=1048576:=fun g hg=>by
  obtain⟨y,hy,rfl⟩:=wI.1 hg
  have h1:=qfZ (Go.Dl.qY qf8) hy
  have e2:Go.Dl.qY qf8 y=1+(((Grp.ofVal y).name.size+1)+(Go.Dl.qY zR y.2.2.1+(Go.Dl.qY zR y.2.2.2.1+0))):=rfl
  have h3:=qfd y.2.2.1 (wv _)
  have h4:=qfd y.2.2.2.1 (wv _)
  have h3':(Grp.ofVal y).people.length<=Go.Dl.qY zR y.2.2.1:=h3
  have h4':(Grp.ofVal y).subs.length<=Go.Dl.qY zR y.2.2.2.1:=h4
  omega
 refine⟨fun p hp=>?_,⟨fun g h=>(hg g h).1,fun g h=>(hg g h).2.1,fun g h=>(hg g h).2.2⟩,?_,fun r hr=>?_⟩
 ·obtain⟨y,hy,rfl⟩:=wI.1 hp
  have h1:=qfZ (Go.Dl.qY qbQ) hy
  have e2:Go.Dl.qY qbQ y=1+(((Pers.ofVal y).name.size+1)+(1+0)):=rfl
  omega
 ·have h1:=qhL (Go.Dl.qY qcF) 4 (fun _=>wv 4) x.2.2.1
  have e2:(Rgt.ofVal x).cons.length=List.length x.2.2.1:=List.length_map ..
  omega
 ·obtain⟨y,hy,rfl⟩:=wI.1 hr
  have h1:=qfZ (Go.Dl.qY qf7) hy
  have e2:Go.Dl.qY qf7 y=1+((1+(1+0))+((1+(Go.Dl.qY zR y.2.2.1.2.1+(1+0)))+0)):=rfl
  have h3:(Rle.ofVal y).grps.length<=Go.Dl.qY zR y.2.2.1.2.1:=qfd y.2.2.1.2.1 (wv _)
  omega
mutual
theorem qed: ∀q:Qry,q.nodes<=q.size
 | .mk _ _ _ kids=>by rw [Qry.nodes,Qry.size];have:=qcZ kids;omega
theorem qcZ: ∀l:List Qry,Qry.nodesL l<=Qry.sizeL l
 | []=>wv _
 | q::r=>by rw [Qry.nodesL,Qry.sizeL];have:=qed q;have:=qcZ r;omega
end
theorem fnd_sz{x:Val qcE}{y:Val qeO}{q:Qry}(h0:Go.Dl.qY qcE x<=1048576)(h1:Go.Dl.qY qeO y<=1048576)(h3:q.size<=1048576):FndS (Rgt.ofVal x) (Dcm.ofVal y) q:=by
 have e1:Go.Dl.qY qeO y=(1+(((Dcm.ofVal y).rc.name.size+1)+(1+(1+(Go.Dl.qY zR y.1.2.2.2.2.1+0)))))+((1+(List.map (Go.Dl.qY qf6) y.2.1).sum)+((1+(List.map (Go.Dl.qY qkn) y.2.2.1).sum)+0)):=rfl
 have hq:=qed q
 have hsp:(Dcm.ofVal y).rc.sp.length<=Go.Dl.qY zR y.1.2.2.2.2.1:=qfd y.1.2.2.2.2.1 (wv _)
 refine⟨fun t ht=>?_,by omega,by omega,rgt_sz h0,h3,by omega⟩
 obtain⟨z,hz,rfl⟩:=wI.1 ht
 have h1:=qfZ (Go.Dl.qY qf6) hz
 have e2:Go.Dl.qY qf6 z=((Tir.ofVal z).name.size+1)+(1+(1+(1+0))):=rfl
 omega
/-- A query handed over. -/
theorem qoE{P:Program}{H:Type}{enc:TypeId×Value->H}{B:DataW H->Nat}(hB:Go.Dl.IsBulk B){w:World}{tq ti ts tl:TypeId}(hQ:QryAt P tq ti ts tl){v:Value}{d:DataW H}{ps:List MemPlace}{base:Nat}
  (hok:Value.okWide P w .any base tq v) (h:DataW.Trod enc P w 0 (fun _=>true) true tq v d ps): ∃q:Qry,Go.Dl.VD w (Go.Dl.E0 (Go.Dl.Kall w)) (.agg q.row) v/\q.size<=B d:=by
 obtain⟨fuel,hf⟩:=h
 obtain⟨q,hc,hsz⟩:=trod_Q hB hQ (B d) fuel _ _ (wv _) hf
 obtain⟨fs,_,_,_,_,hu,_⟩:=hQ.q
 simp only [Value.okWide,hu]at hok
 obtain⟨cs,rfl,_⟩:=hok
 refine⟨q,?_,hsz⟩
 have hcs:Go.Dl.CellsC w q.enc cs.toList:=hc
 rw [row_enc]
 refine .agg _ _ (by have:=hcs.1;simpa using this) fun j t v h1 h2=>?_
 rw [List.getElem?_map]at h1
 cases hx:q.enc[j]? with
 | none=>rw [hx]at h1;cases h1
 | some c=>
  rw [hx]at h1;injection h1 with h1;subst h1
  exact .c _ _ (hcs.2 j c v hx (by simpa using h2))
theorem qryAt:QryAt Tryz.prog 39 3 9 37 where
 q:=⟨_,_,_,_,_,Tryz.underlying39,rfl,rfl,rfl,rfl,rfl,rfl,rfl,rfl,rfl⟩
 i:=Tryz.underlying3
 s:=Tryz.underlying9
 l:=Tryz.underlying37
 ci:=by kernel_rfl
 cs:=by kernel_rfl
 cl:=by kernel_rfl
 cq:=by kernel_rfl
theorem read4{w:World}{K}{d0 d1 d2 d3:Go.Dl.D}{v0 v1 v2 v3:Value}(h0:Go.Dl.VD w K d0 v0)(h1:Go.Dl.VD w K d1 v1)(h2:Go.Dl.VD w K d2 v2)(h3:Go.Dl.VD w K d3 v3): ∀(j:Nat) d v,[d0,d1,d2,d3][j]? =some d-> #[v0,v1,v2,v3][j]? =some v->Go.Dl.VD w K d v:=fun j d v g1 g2=>by
 match j with
 | 0=>simp at g1 g2;subst g1;subst g2;exact h0
 | 1=>simp at g1 g2;subst g1;subst g2;exact h1
 | 2=>simp at g1 g2;subst g1;subst g2;exact h2
 | 3=>simp at g1 g2;subst g1;subst g2;exact h3
 | j+4=>simp at g1
end Go.Proofs.YtaaodllggdjhiaaGreatDoor

