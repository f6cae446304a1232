/- The logic of data over the kit's walk, and contracts of the functions that the laws reach, each said by plain data; part 6 of 6. -/
import Derived.ProofKit
import Derived.Deep.Slices
import Derived.OpenShut
import Derived.ChangeOld
import Derived.Test.YtehdkccjaeckhaaGreatDoorn4
set_option linter.all false
set_option linter.unusedVariables false
set_option linter.unusedSimpArgs false
set_option maxRecDepth 10000
set_option maxHeartbeats 8000000
namespace Go.Dl
open Go.RowKit Go.ChangeShapes Go.WideShapes Go.ChangeAt
inductive Sh where
 | int (k:IntKind)
 | bool
 | str
 | sl (sz:Nat) (e:Sh)
 | nil
 | cons (f r:Sh)
def Val:Sh→Type
 | .int _=>Int
 | .bool=>Bool
 | .str=>ByteArray
 | .sl _ e=>List (Val e)
 | .nil=>Unit
 | .cons f r=>Val f×Val r
def Sh.size:Sh→Nat
 | .nil=>0
 | .cons f r=>f.size+r.size
 | _=>1
def Sh.enc:(s:Sh)→Val s→List C
 | .int k,n=> [.lit (.int k n)]
 | .bool,b=> [.lit (.bool b)]
 | .str,s=> [.lit (.string s)]
 | .sl sz e,l=> [.sl sz (List.map (Sh.enc e) l)]
 | .nil,_=> []
 | .cons f r,x=>Sh.enc f x.1++Sh.enc r x.2
def Sh.ok:(s:Sh)→Val s→Prop
 | .int k,n=>(Lit.int k n).wf=true
 | .bool,_=>True
 | .str,s=>s.size≤maxLen
 | .sl _ e,l=>(show List (Val e) from l).length≤maxLen∧∀x∈(show List (Val e) from l),Sh.ok e x
 | .nil,_=>True
 | .cons f r,x=>Sh.ok f x.1∧Sh.ok r x.2
theorem Sh.enc_len:(s:Sh)→(x:Val s)→(s.enc x).length=s.size
 | .int k,n=>rfl
 | .bool,b=>rfl
 | .str,s=>rfl
 | .sl sz e,l=>rfl
 | .nil,_=>rfl
 | .cons f r,x=>by simp only[Sh.enc,List.length_append,Sh.enc_len f,Sh.enc_len r,Sh.size]
def Program.has(P:Program):Sh→TypeId ⊕ (List Field×Nat)→Bool
 | .int k,.inl t=>match P.underlying t with|some (.int k')=>decide (k'=k)|_=>false
 | .bool,.inl t=>match P.underlying t with|some .bool=>true|_=>false
 | .str,.inl t=>match P.underlying t with|some .string=>true|_=>false
 | .sl sz e,.inl t=>match P.underlying t with|some (.slice el)=>P.cellsOf el==sz&&decide (0<sz)&&e.size==sz&&Program.has P e (.inl el)|_=>false
 | .cons f r,.inl t=>match P.underlying t with
  | some (.struct fs)=>match fs.toList with
   | fd::rest=>P.cellsOf t==f.size+r.size&&fd.offset==0&&P.cellsOf fd.type==f.size&&Program.has P f (.inl fd.type)&&Program.has P r (.inr (rest,f.size))
   | []=>false
  | _=>false
 | .nil,.inr (fs,_)=>fs.isEmpty
 | .cons f r,.inr (fs,o)=>match fs with
  | fd::rest=>fd.offset==o&&P.cellsOf fd.type==f.size&&Program.has P f (.inl fd.type)&&Program.has P r (.inr (rest,o+f.size))
  | []=>false
 | _,_=>false
def Kall(w:World):KSet:=fun b o=>(w.cell? ⟨b,o,none⟩).isSome=true
def CellsC(w:World)(cs:List C)(vs:List Value):Prop:=vs.length=cs.length∧∀(j:Nat) c v,cs[j]? =some c→vs[j]? =some v→VC w (Kall w) c v
theorem CellsC.app{w:World}{a b:List C}{u v:List Value}(h:CellsC w a u)(k:CellsC w b v):CellsC w (a++b) (u++v):=by
 refine⟨by simp[h.1,k.1],fun j c x h1 h2=>?_⟩
 rw[List.getElem?_append]at h1 h2
 rw[h.1]at h2
 split at h1
 ·rename_i hj;rw[if_pos hj]at h2;exact h.2 j c x h1 h2
 ·rename_i hj;rw[if_neg hj]at h2;exact k.2 _ c x h1 h2
theorem CellsC.one{w:World}{c:C}{v:Value}(h:VC w (Kall w) c v):CellsC w [c] [v]:=
 ⟨rfl,fun j c' v' h1 h2=>by
  cases j with
  | zero=>simp at h1 h2;subst h1;subst h2;exact h
  | succ j=>simp at h1⟩
section
variable {P : Program} {H : Type} {enc : TypeId × Value → H} {w : World} {sp : Nat → Bool} {held : Bool}
theorem cells?_get{base:Nat}{a:Addr}{n:Nat}{vs:List Value}(h:w.cells? base a n=some vs):vs.length=n∧∀j,j<n→w.cell? (a.add j)=vs[j]? :=by
 unfold World.cells? at h
 split at h
 ·have hl:vs.length=n:=by
   have:=mapM_some_length h
   simpa using this
  refine⟨hl,fun j hj=>?_⟩
  have:=mapM_some_get h j j (by simp[hj])
  simpa using this
 ·cases h
theorem trod_C:(s:Sh)→(∀(t:TypeId),Program.has P s (.inl t)=true→∀(fuel:Nat) (vs:List Value) x,DataW.trod enc P w 0 sp held fuel t vs=some x→∃a:Val s,s.ok a∧CellsC w (s.enc a) vs)∧
  (∀(fs:List Field) (o:Nat),Program.has P s (.inr (fs,o))=true→∀(fuel:Nat) (vs:List Value),(∀f∈fs,∃y,DataW.trod enc P w 0 sp held fuel f.type ((vs.drop f.offset).take (P.cellsOf f.type))=some y)→vs.length=o+s.size→
   ∃a:Val s,s.ok a∧CellsC w (s.enc a) (vs.drop o))
 | .int k=>by
  refine⟨fun t ht fuel vs x h=>?_,fun fs o h=>by simp[Program.has]at h⟩
  simp only[Program.has]at ht
  split at ht
  ·rename_i k' hu
   have hk:k'=k:=by simpa using ht
   subst hk
   obtain⟨n,rfl,_,hw⟩:=DataW.trod_int hu h
   exact⟨n,hw,CellsC.one (.lit _ rfl)⟩
  ·cases ht
 | .bool=>by
  refine⟨fun t ht fuel vs x h=>?_,fun fs o h=>by simp[Program.has]at h⟩
  simp only[Program.has]at ht
  split at ht
  ·rename_i hu
   obtain⟨b,rfl,_⟩:=DataW.trod_bool hu h
   exact⟨b,trivial,CellsC.one (.lit _ rfl)⟩
  ·cases ht
 | .str=>by
  refine⟨fun t ht fuel vs x h=>?_,fun fs o h=>by simp[Program.has]at h⟩
  simp only[Program.has]at ht
  split at ht
  ·rename_i hu
   obtain⟨s,rfl,_,hs⟩:=DataW.trod_string hu h
   exact⟨s,hs,CellsC.one (.lit _ rfl)⟩
  ·cases ht
 | .sl sz e=>by
  refine⟨fun t ht fuel vs x h=>?_,fun fs o h=>by simp[Program.has]at h⟩
  simp only[Program.has]at ht
  split at ht
  ·rename_i el hu
   simp only[Bool.and_eq_true,beq_iff_eq,decide_eq_true_eq]at ht
   obtain⟨⟨⟨hc,hpos⟩,hes⟩,he⟩:=ht
   rcases Go.Deep.open_slice hu h with⟨rfl,_⟩|⟨a,len,cap,m,n,D,Pl,rfl,hb,hl,hm,hmm,_,hx⟩
   ·exact⟨([]:List (Val e)),⟨by simp,by simp⟩,CellsC.one (.nil sz)⟩
   ·have hlm:len≤m:=by subst hmm;split<;>omega
    have each: ∀i,i<len→∃y:Val e,e.ok y∧∃cs',w.cells? 0 (a.add (i*sz)) sz=some cs'∧CellsC w (e.enc y) cs':=fun i hi=>by
     obtain⟨cs',h1,h2⟩:=hx i (by omega)
     rw[hc]at h1
     obtain⟨y,hy,hy2⟩:=(trod_C e).1 el he n cs' _ h2
     exact⟨y,hy,cs',h1,hy2⟩
    have build: ∀k,k≤len→∃l:List (Val e),l.length=k∧(∀y∈l,e.ok y)∧∀i y,l[i]? =some y→∃cs',w.cells? 0 (a.add (i*sz)) sz=some cs'∧CellsC w (e.enc y) cs':=by
     intro k
     induction k with
     | zero=>exact fun _=>⟨[],rfl,by simp,by simp⟩
     | succ k ih=>
      intro hk
      obtain⟨l,h1,h2,h3⟩:=ih (by omega)
      obtain⟨y,hy,cs',h4,h5⟩:=each k (by omega)
      refine⟨l++ [y],by simp[h1],fun z hz=>?_,fun i z hz=>?_⟩
      ·rcases List.mem_append.1 hz with hz|hz
       ·exact h2 z hz
       ·rw[List.mem_singleton.1 hz];exact hy
      ·rw[List.getElem?_append]at hz
       split at hz
       ·exact h3 i z hz
       ·rename_i hi
        have:i=k:=by
         rcases Nat.lt_or_ge (i - l.length) 1 with h|h
         ·omega
         ·rw[List.getElem?_eq_none (by simpa using h)]at hz;cases hz
        subst this
        rw[h1,Nat.sub_self]at hz
        simp at hz;subst hz
        exact⟨cs',h4,h5⟩
    obtain⟨l,hll,hok,hcell⟩:=build len (Nat.le_refl _)
    subst hll
    refine⟨l,⟨by show l.length≤_;omega,hok⟩,CellsC.one ?_⟩
    show VC w (Kall w) (.sl sz (l.map (Sh.enc e))) _
    have hlen:(l.map (Sh.enc e)).length=l.length:=by simp
    have hsplit: ∀j,j<l.length*sz→j / sz<l.length:=fun j hj=>Nat.div_lt_of_lt_mul (by rw[Nat.mul_comm];exact hj)
    have hspot:0<l.length*sz→a.spot=none:=fun h0=>by
     have hi:0<l.length:=Nat.pos_of_mul_pos_right h0
     obtain⟨cs',h1,h2⟩:=hcell 0 _ (List.getElem?_eq_getElem hi)
     obtain⟨g1,g2⟩:=cells?_get h1
     have:=g2 0 hpos
     rw[List.getElem?_eq_getElem (by omega)]at this
     simpa[Addr.add]using World.cell?_spot this
    have hcv: ∀i j,i<l.length→j<sz→a.spot=none→∃y cs' v,l[i]? =some y∧cs'[j]? =some v∧CellsC w (e.enc y) cs'∧w.cell? ⟨a.block,a.off+(i*sz+j),none⟩=some v:=fun i j hi hj hs=>by
     obtain⟨cs',h1,h2⟩:=hcell i _ (List.getElem?_eq_getElem hi)
     obtain⟨g1,g2⟩:=cells?_get h1
     have h3:=g2 j hj
     have hcj:cs'[j]? =some (cs'[j]'(by omega)):=List.getElem?_eq_getElem (by omega)
     have ha:a=⟨a.block,a.off,none⟩:=by cases a;simp at hs;subst hs;rfl
     rw[ha,add_none,add_none,hcj]at h3
     refine⟨_,cs',_,List.getElem?_eq_getElem hi,hcj,h2,?_⟩
     rw[← h3,Nat.add_assoc]
    rw[show (Value.slice (some a) l.length cap)= .slice (some a) (l.map (Sh.enc e)).length cap by rw[hlen]]
    refine .sl sz _ a cap (fun j=>(w.cell? ⟨a.block,a.off+j,none⟩).getD undef) (fun r hr=>?_) (by rw[hlen];exact hl) hm (fun j hj=>?_) (fun i j r c hr hc=>?_)
    ·obtain⟨y,_,rfl⟩:=List.mem_map.1 hr
     rw[Sh.enc_len,hes]
    ·rw[hlen]at hj
     have hs:=hspot (by omega)
     obtain⟨y,cs',v,_,_,_,h⟩:=hcv (j / sz) (j % sz) (hsplit j hj) (Nat.mod_lt _ hpos) hs
     have hd:=Nat.div_add_mod j sz
     rw[Nat.mul_comm]at hd
     rw[hd]at h
     exact⟨hs,by simp[Kall,h],by simp[h]⟩
    ·rw[List.getElem?_map]at hr
     cases hy:l[i]? with
     | none=>rw[hy]at hr;cases hr
     | some y=>
      rw[hy]at hr;injection hr with hr;subst hr
      have hi:i<l.length:=(List.getElem?_eq_some_iff.1 hy).1
      have hj:j<sz:=by
       have:=(List.getElem?_eq_some_iff.1 hc).1
       rw[Sh.enc_len,hes]at this;exact this
      have hs:=hspot (Nat.mul_pos (by omega) hpos)
      obtain⟨y',cs',v,h1,h2,h3,h4⟩:=hcv i j hi hj hs
      rw[hy]at h1;injection h1 with h1;subst h1
      have:=h3.2 j c v hc h2
      simpa[h4]using this
  ·cases ht
 | .nil=>by
  refine⟨fun t ht=>by simp[Program.has]at ht,fun fs o h fuel vs hf hl=>⟨(),trivial,?_⟩⟩
  simp[Sh.size]at hl
  exact⟨by simp[Sh.enc,hl],fun j c v h=>by simp[Sh.enc]at h⟩
 | .cons f r=>by
  have key: ∀(fs:List Field) (o:Nat) fd rest,fs=fd::rest→fd.offset=o→P.cellsOf fd.type=f.size→Program.has P f (.inl fd.type)=true→Program.has P r (.inr (rest,o+f.size))=true→
    ∀(fuel:Nat) (vs:List Value),(∀f∈fs,∃y,DataW.trod enc P w 0 sp held fuel f.type ((vs.drop f.offset).take (P.cellsOf f.type))=some y)→vs.length=o+(Sh.cons f r).size→
    ∃a:Val (.cons f r),Sh.ok (.cons f r) a∧CellsC w (Sh.enc (.cons f r) a) (vs.drop o):=fun fs o fd rest e1 e2 e3 e4 e5 fuel vs hf hl=>by
   subst e1
   obtain⟨y,hy⟩:=hf fd (by simp)
   rw[e2,e3]at hy
   obtain⟨a,ha,hca⟩:=(trod_C f).1 _ e4 fuel _ _ hy
   simp only[Sh.size]at hl
   obtain⟨b,hb,hcb⟩:=(trod_C r).2 rest (o+f.size) e5 fuel vs (fun g hg=>hf g (by simp[hg])) (by omega)
   refine⟨(a,b),⟨ha,hb⟩,?_⟩
   have:vs.drop o=(vs.drop o).take f.size++vs.drop (o+f.size):=by
    rw[← List.drop_drop,List.take_append_drop]
   rw[this]
   exact hca.app hcb
  refine⟨fun t ht fuel vs x h=>?_,fun fs o h fuel vs hf hl=>?_⟩
  ·simp only[Program.has]at ht
   split at ht
   ·rename_i fa hu
    split at ht
    ·rename_i fd rest hfs
     simp only[Bool.and_eq_true,beq_iff_eq]at ht
     obtain⟨⟨⟨⟨h1,h2⟩,h3⟩,h4⟩,h5⟩:=ht
     obtain⟨xs,n,_,_,hlen,hxl,hx⟩:=DataW.trod_struct hu h
     have:=key fa.toList 0 fd rest hfs h2 h3 h4 (by simpa using h5) n vs (fun g hg=>by
      obtain⟨i,hi⟩:=List.getElem?_of_mem hg
      have hi':fa[i]? =some g:=by simpa using hi
      have hlt:i<fa.size:=(Array.getElem?_eq_some_iff.1 hi').1
      exact⟨_,(hx i g hi').trans (List.getElem?_eq_getElem (by omega))⟩) (by simp only[Sh.size];omega)
     simpa using this
    ·cases ht
   ·cases ht
  ·simp only[Program.has]at h
   split at h
   ·rename_i fd rest
    simp only[Bool.and_eq_true,beq_iff_eq]at h
    obtain⟨⟨⟨h2,h3⟩,h4⟩,h5⟩:=h
    exact key _ o fd rest rfl h2 h3 h4 h5 fuel vs hf hl
   ·cases h
end
end Go.Dl
namespace Go.Dl
open Go.RowKit Go.ChangeShapes Go.WideShapes Go.ChangeAt
theorem CellsC.one_inv{w:World}{c:C}{v:Value}(h:CellsC w [c] [v]):VC w (Kall w) c v:=h.2 0 c v rfl rfl
def ArgD(s:Sh)(a:Val s):D:=
 match s,s.enc a with
 | .cons _ _,cs=>.agg (cs.map T.c)
 | .nil,cs=>.agg (cs.map T.c)
 | _,[c]=>.one (.c c)
 | _,_=>.any
theorem arg_read{P:Program}{H:Type}{enc:TypeId×Value→H}{w:World}{t:TypeId}{v:Value}{d:DataW H}{ps:List MemPlace}{base:Nat}(s:Sh)(hs:Program.has P s (.inl t)=true)
  (hok:Value.okWide P w .any base t v) (h:DataW.Trod enc P w 0 (fun _=>true) true t v d ps): ∃a:Val s,s.ok a∧VD w (E0 (Kall w)) (ArgD s a) v:=by
 obtain⟨fuel,hf⟩:=h
 obtain⟨a,ha,hc⟩:=(trod_C s).1 t hs fuel _ _ hf
 refine⟨a,ha,?_⟩
 have single: ∀c:C,s.enc a= [c]→(∃x,v=x∧x.cells= #[x])→VD w (E0 (Kall w)) (.one (.c c)) v:=fun c e ⟨x,e1,e2⟩=>by
  subst e1
  rw[e,e2]at hc
  exact .one _ _ (.c _ _ hc.one_inv)
 have aggr:(∃cs,v= .agg cs)→VD w (E0 (Kall w)) (.agg ((s.enc a).map T.c)) v:=fun⟨cs,e⟩=>by
  subst e
  have hcs:CellsC w (s.enc a) cs.toList:=hc
  refine .agg _ _ (by have:=hcs.1;simpa using this) fun j t v h1 h2=>?_
  rw[List.getElem?_map]at h1
  cases hx:(s.enc a)[j]? with
  | none=>rw[hx]at h1;cases h1
  | some c=>
   rw[hx]at h1;injection h1 with h1;subst h1
   exact .c _ _ (hcs.2 j c v hx (by simpa using h2))
 cases s with
 | int k=>
  simp only[Program.has]at hs
  split at hs
  ·rename_i k' hu
   obtain⟨n,rfl⟩:=okWide_int hu hok
   exact single _ rfl ⟨_,rfl,rfl⟩
  ·cases hs
 | bool=>
  simp only[Program.has]at hs
  split at hs
  ·rename_i hu
   obtain⟨n,rfl⟩:=okWide_bool hu hok
   exact single _ rfl ⟨_,rfl,rfl⟩
  ·cases hs
 | str=>
  simp only[Program.has]at hs
  split at hs
  ·rename_i hu
   obtain⟨n,rfl⟩:=okWide_string hu hok
   exact single _ rfl ⟨_,rfl,rfl⟩
  ·cases hs
 | sl sz e=>
  simp only[Program.has]at hs
  split at hs
  ·rename_i el hu
   obtain⟨x,len,cap,rfl⟩:=okWide_slice hu hok
   exact single _ rfl ⟨_,rfl,rfl⟩
  ·cases hs
 | nil=>simp[Program.has]at hs
 | cons f r=>
  simp only[Program.has]at hs
  split at hs
  ·rename_i fs hu
   simp only[Value.okWide,hu]at hok
   obtain⟨cs,rfl,_⟩:=hok
   exact aggr ⟨cs,rfl⟩
  ·cases hs
def TabsAt(w:World):Prop:=∀g vs,gtab g=some vs→∀(o:Nat) v,vs[o]? =some v→v.oneCell'=true∧w.cell? ⟨g,o,none⟩=some v
theorem law_calls{P:Program}{f:FuncId}{ds:List D}(hc:DCalls P f ds (.one (.c (.lit (.bool true))))){w:World}{vs:Array Value}(hl:vs.size=ds.length)(hv: ∀(j:Nat) d v,ds[j]? =some d→vs[j]? =some v→VD w (E0 (Kall w)) d v)
  (ht:TabsAt w) (hz:GSz w:=by intro g hg;exact absurd hg (by simp[ztab])) (hE: ∀g∈etab,∃ev,w.cell? ⟨g,0,none⟩=some ev∧(ev= .nilIface∨∃te pe,ev= .iface te pe):=by intro g hg;exact absurd hg (by simp[etab])):Calls P f vs w fun e w'=>e= .returned (.bool true)∧Below w.heap.size w w':=by
 refine(hc.2 w (Kall w) vs ⟨fun b o h=>h,fun g vs hg o v hv=>?_,fun g hg=>?_,hz⟩ hl hv).mono ?_
 ·obtain⟨h1,h2⟩:=ht g vs hg o v hv
  exact⟨h1,by simp[Kall,h2],h2⟩
 ·obtain⟨ev,h1,h2⟩:=hE g hg
  exact⟨by simp[Kall,h1],ev,h1,h2⟩
 rintro e w' ⟨v,E',rfl,hr,hvd⟩
 exact⟨by rw[hvd.lit],hr.below⟩
theorem tabs_none{w:World}(h: ∀g,gtab g=none):TabsAt w:=fun g vs hg=>by rw[h]at hg;cases hg
end Go.Dl
namespace Go.Dl
open Go.RowKit Go.ChangeShapes Go.WideShapes Go.ChangeAt
def sizeV:(s:Sh)→Val s→Nat
 | .int _,_=>1
 | .bool,_=>1
 | .str,s=>(show ByteArray from s).size+1
 | .sl _ e,l=>1+((show List (Val e) from l).map (sizeV e)).sum
 | .nil,_=>0
 | .cons f r,x=>sizeV f x.1+sizeV r x.2
structure IsBulk{H:Type}(B:DataW H→Nat):Prop where
 pos: ∀d,1≤B d
 str: ∀bs:List UInt8,bs.length+1≤B (.lit (.string bs))
 sl: ∀es ss:List (DataW H),1+(es.map B).sum≤B (.slice es ss)
 agg: ∀ps:List (DataW H),(ps.map B).sum≤B (.agg ps)
section
variable {P : Program} {H : Type} {enc : TypeId × Value → H} {w : World} {sp : Nat → Bool} {held : Bool}
theorem trod_B{B:DataW H→Nat}(hB:IsBulk B):(s:Sh)→(∀(t:TypeId),Program.has P s (.inl t)=true→∀(fuel:Nat) (vs:List Value) x,DataW.trod enc P w 0 sp held fuel t vs=some x→∃a:Val s,s.ok a∧CellsC w (s.enc a) vs∧sizeV s a≤B x.1)∧
  (∀(fs:List Field) (o:Nat),Program.has P s (.inr (fs,o))=true→∀(fuel:Nat) (vs:List Value),∀ys:List (DataW H×List MemPlace),ys.length=fs.length→(∀(i:Nat) (f:Field),fs[i]? =some f→DataW.trod enc P w 0 sp held fuel f.type ((vs.drop f.offset).take (P.cellsOf f.type))=ys[i]?)→vs.length=o+s.size→
   ∃a:Val s,s.ok a∧CellsC w (s.enc a) (vs.drop o)∧sizeV s a≤(ys.map fun y=>B y.1).sum)
 | .int k=>by
  refine⟨fun t ht fuel vs x h=>?_,fun fs o h=>by simp[Program.has]at h⟩
  simp only[Program.has]at ht
  split at ht
  ·rename_i k' hu
   have hk:k'=k:=by simpa using ht
   subst hk
   obtain⟨n,rfl,_,hw⟩:=DataW.trod_int hu h
   exact⟨n,hw,CellsC.one (.lit _ rfl),hB.pos _⟩
  ·cases ht
 | .bool=>by
  refine⟨fun t ht fuel vs x h=>?_,fun fs o h=>by simp[Program.has]at h⟩
  simp only[Program.has]at ht
  split at ht
  ·rename_i hu
   obtain⟨b,rfl,_⟩:=DataW.trod_bool hu h
   exact⟨b,trivial,CellsC.one (.lit _ rfl),hB.pos _⟩
  ·cases ht
 | .str=>by
  refine⟨fun t ht fuel vs x h=>?_,fun fs o h=>by simp[Program.has]at h⟩
  simp only[Program.has]at ht
  split at ht
  ·rename_i hu
   obtain⟨s,rfl,rfl,hs⟩:=DataW.trod_string hu h
   exact⟨s,hs,CellsC.one (.lit _ rfl),by have:=hB.str s.data.toList;simp only[sizeV];simpa using this⟩
  ·cases ht
 | .sl sz e=>by
  refine⟨fun t ht fuel vs x h=>?_,fun fs o h=>by simp[Program.has]at h⟩
  simp only[Program.has]at ht
  split at ht
  ·rename_i el hu
   simp only[Bool.and_eq_true,beq_iff_eq,decide_eq_true_eq]at ht
   obtain⟨⟨⟨hc,hpos⟩,hes⟩,he⟩:=ht
   rcases Go.Deep.open_slice hu h with⟨rfl,rfl⟩|⟨a,len,cap,m,n,D,Pl,rfl,hb,hl,hm,hmm,rfl,hx⟩
   ·exact⟨([]:List (Val e)),⟨by simp,by simp⟩,CellsC.one (.nil sz),hB.pos _⟩
   ·have hlm:len≤m:=by subst hmm;split<;>omega
    have each: ∀i,i<len→∃y:Val e,e.ok y∧∃cs',w.cells? 0 (a.add (i*sz)) sz=some cs'∧CellsC w (e.enc y) cs'∧sizeV e y≤B (D i):=fun i hi=>by
     obtain⟨cs',h1,h2⟩:=hx i (by omega)
     rw[hc]at h1
     obtain⟨y,hy,hy2⟩:=(trod_B hB e).1 el he n cs' _ h2
     exact⟨y,hy,cs',h1,hy2.1,hy2.2⟩
    have build: ∀k,k≤len→∃l:List (Val e),l.length=k∧(∀y∈l,e.ok y)∧(∀i y,l[i]? =some y→∃cs',w.cells? 0 (a.add (i*sz)) sz=some cs'∧CellsC w (e.enc y) cs')∧(l.map (sizeV e)).sum≤((List.range k).map fun i=>B (D i)).sum:=by
     intro k
     induction k with
     | zero=>exact fun _=>⟨[],rfl,by simp,by simp,by simp⟩
     | succ k ih=>
      intro hk
      obtain⟨l,h1,h2,h3,h6⟩:=ih (by omega)
      obtain⟨y,hy,cs',h4,h5,h7⟩:=each k (by omega)
      refine⟨l++ [y],by simp[h1],fun z hz=>?_,fun i z hz=>?_,by simp[List.range_succ];omega⟩
      ·rcases List.mem_append.1 hz with hz|hz
       ·exact h2 z hz
       ·rw[List.mem_singleton.1 hz];exact hy
      ·rw[List.getElem?_append]at hz
       split at hz
       ·exact h3 i z hz
       ·rename_i hi
        have:i=k:=by
         rcases Nat.lt_or_ge (i - l.length) 1 with h|h
         ·omega
         ·rw[List.getElem?_eq_none (by simpa using h)]at hz;cases hz
        subst this
        rw[h1,Nat.sub_self]at hz
        simp at hz;subst hz
        exact⟨cs',h4,h5⟩
    obtain⟨l,hll,hok,hcell,hsum⟩:=build len (Nat.le_refl _)
    subst hll
    refine⟨l,⟨by show l.length≤_;omega,hok⟩,CellsC.one ?_,by have:=hB.sl ((List.range l.length).map D) ((List.range (m - l.length)).map fun j=>D (l.length+j));simp only[sizeV];rw[List.map_map]at this;exact Nat.le_trans (Nat.add_le_add_left hsum 1) this⟩
    show VC w (Kall w) (.sl sz (l.map (Sh.enc e))) _
    have hlen:(l.map (Sh.enc e)).length=l.length:=by simp
    have hsplit: ∀j,j<l.length*sz→j / sz<l.length:=fun j hj=>Nat.div_lt_of_lt_mul (by rw[Nat.mul_comm];exact hj)
    have hspot:0<l.length*sz→a.spot=none:=fun h0=>by
     have hi:0<l.length:=Nat.pos_of_mul_pos_right h0
     obtain⟨cs',h1,h2⟩:=hcell 0 _ (List.getElem?_eq_getElem hi)
     obtain⟨g1,g2⟩:=cells?_get h1
     have:=g2 0 hpos
     rw[List.getElem?_eq_getElem (by omega)]at this
     simpa[Addr.add]using World.cell?_spot this
    have hcv: ∀i j,i<l.length→j<sz→a.spot=none→∃y cs' v,l[i]? =some y∧cs'[j]? =some v∧CellsC w (e.enc y) cs'∧w.cell? ⟨a.block,a.off+(i*sz+j),none⟩=some v:=fun i j hi hj hs=>by
     obtain⟨cs',h1,h2⟩:=hcell i _ (List.getElem?_eq_getElem hi)
     obtain⟨g1,g2⟩:=cells?_get h1
     have h3:=g2 j hj
     have hcj:cs'[j]? =some (cs'[j]'(by omega)):=List.getElem?_eq_getElem (by omega)
     have ha:a=⟨a.block,a.off,none⟩:=by cases a;simp at hs;subst hs;rfl
     rw[ha,add_none,add_none,hcj]at h3
     refine⟨_,cs',_,List.getElem?_eq_getElem hi,hcj,h2,?_⟩
     rw[← h3,Nat.add_assoc]
    rw[show (Value.slice (some a) l.length cap)= .slice (some a) (l.map (Sh.enc e)).length cap by rw[hlen]]
    refine .sl sz _ a cap (fun j=>(w.cell? ⟨a.block,a.off+j,none⟩).getD undef) (fun r hr=>?_) (by rw[hlen];exact hl) hm (fun j hj=>?_) (fun i j r c hr hc=>?_)
    ·obtain⟨y,_,rfl⟩:=List.mem_map.1 hr
     rw[Sh.enc_len,hes]
    ·rw[hlen]at hj
     have hs:=hspot (by omega)
     obtain⟨y,cs',v,_,_,_,h⟩:=hcv (j / sz) (j % sz) (hsplit j hj) (Nat.mod_lt _ hpos) hs
     have hd:=Nat.div_add_mod j sz
     rw[Nat.mul_comm]at hd
     rw[hd]at h
     exact⟨hs,by simp[Kall,h],by simp[h]⟩
    ·rw[List.getElem?_map]at hr
     cases hy:l[i]? with
     | none=>rw[hy]at hr;cases hr
     | some y=>
      rw[hy]at hr;injection hr with hr;subst hr
      have hi:i<l.length:=(List.getElem?_eq_some_iff.1 hy).1
      have hj:j<sz:=by
       have:=(List.getElem?_eq_some_iff.1 hc).1
       rw[Sh.enc_len,hes]at this;exact this
      have hs:=hspot (Nat.mul_pos (by omega) hpos)
      obtain⟨y',cs',v,h1,h2,h3,h4⟩:=hcv i j hi hj hs
      rw[hy]at h1;injection h1 with h1;subst h1
      have:=h3.2 j c v hc h2
      simpa[h4]using this
  ·cases ht
 | .nil=>by
  refine⟨fun t ht=>by simp[Program.has]at ht,fun fs o h fuel vs ys hy hf hl=>⟨(),trivial,?_,Nat.zero_le _⟩⟩
  simp[Sh.size]at hl
  exact⟨by simp[Sh.enc,hl],fun j c v h=>by simp[Sh.enc]at h⟩
 | .cons f r=>by
  have key: ∀(fs:List Field) (o:Nat) fd rest,fs=fd::rest→fd.offset=o→P.cellsOf fd.type=f.size→Program.has P f (.inl fd.type)=true→Program.has P r (.inr (rest,o+f.size))=true→
    ∀(fuel:Nat) (vs:List Value),∀ys:List (DataW H×List MemPlace),ys.length=fs.length→(∀(i:Nat) (f:Field),fs[i]? =some f→DataW.trod enc P w 0 sp held fuel f.type ((vs.drop f.offset).take (P.cellsOf f.type))=ys[i]?)→vs.length=o+(Sh.cons f r).size→
    ∃a:Val (.cons f r),Sh.ok (.cons f r) a∧CellsC w (Sh.enc (.cons f r) a) (vs.drop o)∧sizeV (.cons f r) a≤(ys.map fun y=>B y.1).sum:=fun fs o fd rest e1 e2 e3 e4 e5 fuel vs ys hyl hf hl=>by
   subst e1
   cases ys with
   | nil=>simp at hyl
   | cons y ys=>
   have hy:=hf 0 fd rfl
   rw[e2,e3]at hy
   obtain⟨a,ha,hca,hsa⟩:=(trod_B hB f).1 _ e4 fuel _ y hy
   simp only[Sh.size]at hl
   obtain⟨b,hb,hcb,hsb⟩:=(trod_B hB r).2 rest (o+f.size) e5 fuel vs ys (by simpa using hyl) (fun i g hg=>by simpa using hf (i+1) g (by simpa using hg)) (by omega)
   refine⟨(a,b),⟨ha,hb⟩,?_,by simp only[sizeV,List.map_cons,List.sum_cons];omega⟩
   have:vs.drop o=(vs.drop o).take f.size++vs.drop (o+f.size):=by
    rw[← List.drop_drop,List.take_append_drop]
   rw[this]
   exact hca.app hcb
  refine⟨fun t ht fuel vs x h=>?_,fun fs o h fuel vs ys hyl hf hl=>?_⟩
  ·simp only[Program.has]at ht
   split at ht
   ·rename_i fa hu
    split at ht
    ·rename_i fd rest hfs
     simp only[Bool.and_eq_true,beq_iff_eq]at ht
     obtain⟨⟨⟨⟨h1,h2⟩,h3⟩,h4⟩,h5⟩:=ht
     obtain⟨xs,n,_,rfl,hlen,hxl,hx⟩:=DataW.trod_struct hu h
     obtain⟨a,q1,q2,q3⟩:=key fa.toList 0 fd rest hfs h2 h3 h4 (by simpa using h5) n vs xs (by simpa using hxl) (fun i g hg=>hx i g (by simpa using hg)) (by simp only[Sh.size];omega)
     refine⟨a,q1,by simpa using q2,Nat.le_trans q3 ?_⟩
     have:=hB.agg (xs.map (·.1))
     rw[List.map_map]at this;exact this
    ·cases ht
   ·cases ht
  ·simp only[Program.has]at h
   split at h
   ·rename_i fd rest
    simp only[Bool.and_eq_true,beq_iff_eq]at h
    obtain⟨⟨⟨h2,h3⟩,h4⟩,h5⟩:=h
    exact key _ o fd rest rfl h2 h3 h4 h5 fuel vs ys hyl hf hl
   ·cases h
end
theorem arg_readB{P:Program}{H:Type}{enc:TypeId×Value→H}{B:DataW H→Nat}(hB:IsBulk B){w:World}{t:TypeId}{v:Value}{d:DataW H}{ps:List MemPlace}{base:Nat}(s:Sh)(hs:Program.has P s (.inl t)=true)
  (hok:Value.okWide P w .any base t v) (h:DataW.Trod enc P w 0 (fun _=>true) true t v d ps): ∃a:Val s,s.ok a∧VD w (E0 (Kall w)) (ArgD s a) v∧sizeV s a≤B d:=by
 obtain⟨fuel,hf⟩:=h
 obtain⟨a,ha,hc,hsz⟩:=(trod_B hB s).1 t hs fuel _ _ hf
 refine⟨a,ha,?_,hsz⟩
 have single: ∀c:C,s.enc a= [c]→(∃x,v=x∧x.cells= #[x])→VD w (E0 (Kall w)) (.one (.c c)) v:=fun c e ⟨x,e1,e2⟩=>by
  subst e1
  rw[e,e2]at hc
  exact .one _ _ (.c _ _ hc.one_inv)
 have aggr:(∃cs,v= .agg cs)→VD w (E0 (Kall w)) (.agg ((s.enc a).map T.c)) v:=fun⟨cs,e⟩=>by
  subst e
  have hcs:CellsC w (s.enc a) cs.toList:=hc
  refine .agg _ _ (by have:=hcs.1;simpa using this) fun j t v h1 h2=>?_
  rw[List.getElem?_map]at h1
  cases hx:(s.enc a)[j]? with
  | none=>rw[hx]at h1;cases h1
  | some c=>
   rw[hx]at h1;injection h1 with h1;subst h1
   exact .c _ _ (hcs.2 j c v hx (by simpa using h2))
 cases s with
 | int k=>
  simp only[Program.has]at hs
  split at hs
  ·rename_i k' hu
   obtain⟨n,rfl⟩:=okWide_int hu hok
   exact single _ rfl ⟨_,rfl,rfl⟩
  ·cases hs
 | bool=>
  simp only[Program.has]at hs
  split at hs
  ·rename_i hu
   obtain⟨n,rfl⟩:=okWide_bool hu hok
   exact single _ rfl ⟨_,rfl,rfl⟩
  ·cases hs
 | str=>
  simp only[Program.has]at hs
  split at hs
  ·rename_i hu
   obtain⟨n,rfl⟩:=okWide_string hu hok
   exact single _ rfl ⟨_,rfl,rfl⟩
  ·cases hs
 | sl sz e=>
  simp only[Program.has]at hs
  split at hs
  ·rename_i el hu
   obtain⟨x,len,cap,rfl⟩:=okWide_slice hu hok
   exact single _ rfl ⟨_,rfl,rfl⟩
  ·cases hs
 | nil=>simp[Program.has]at hs
 | cons f r=>
  simp only[Program.has]at hs
  split at hs
  ·rename_i fs hu
   simp only[Value.okWide,hu]at hok
   obtain⟨cs,rfl,_⟩:=hok
   exact aggr ⟨cs,rfl⟩
  ·cases hs
end Go.Dl
