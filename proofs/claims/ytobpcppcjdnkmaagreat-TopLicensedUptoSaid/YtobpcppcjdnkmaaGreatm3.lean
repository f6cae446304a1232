/- Contracts of the functions that the law reaches; part 4. -/
import Derived.Lib.ValidLaws
import Derived.Shelf.SortM.Plain
import Derived.Shelf.SortM.SortNone
import Derived.Test.YtobpcppcjdnkmaaGreatm2
set_option linter.all false
set_option maxRecDepth 10000
set_option maxHeartbeats 8000000
open ByteArray renaming empty → ye
open Go renaming FuncId → am
open Go.IntKind renaming wrap → aD
open Go.Proofs.Tryz renaming prog → pP
open List renaming range → wR, replicate → yb
open Go.Dl.CallC renaming mk → kN, light → kO
open Go.Dl.LeL renaming of_eq → kP
namespace Go.Proofs.YtobpcppcjdnkmaaGreat
open Go.Proofs.Tryz
open Go.Dl
variable {b0 b1 b2 b3 k p sz:Nat}{i nx t w x:Int}{a s:ByteArray}{b:UInt8}{bs:List UInt8}{α:Type}{fs gs:List ByteArray}{W:List Int}{K:qM}{v:Value}
attribute [local irreducible] DW DCalls ECalls wk IW
abbrev li(n:Int):C:=.lit (.int .i64 n)
abbrev lb(b:Bool):C:=.lit (.bool b)
abbrev dv(c:C):D:=.one (.c c)
abbrev ints(xs:List Int):List (List C):=xs.map fun x=>[li x]
abbrev ls(s:ByteArray):C:=.lit (.string s)
structure Lnk where
 kind:Int
 tgt:Int
deriving DecidableEq
structure Sns where
 gloss:ByteArray
 txt:ByteArray
deriving DecidableEq
structure Phon where
 name:ByteArray
 feat:Int
deriving DecidableEq
structure Ent where
 id:Int
 form:List Int
 cls:Int
 alts:List (List Int)
 main:Int
 senses:List Sns
 links:List Lnk
 refs:List Lnk
deriving DecidableEq
def Lnk.enc(x:Lnk):List C:=[li x.kind,li x.tgt]
def Sns.enc(x:Sns):List C:=[ls x.gloss,ls x.txt]
def Phon.enc(x:Phon):List C:=[ls x.name,li x.feat]
abbrev bB(a:List Int):List C:=[.sl 1 (ints a)]
def Ent.enc(e:Ent):List C:=[li e.id,.sl 1 (ints e.form),li e.cls,.sl 1 (e.alts.map bB),li e.main,.sl 2 (e.senses.map Sns.enc),.sl 2 (e.links.map Lnk.enc),.sl 2 (e.refs.map Lnk.enc)]
def Ent.row(e:Ent):List T:=[.c (li e.id),.c (.sl 1 (ints e.form)),.c (li e.cls),.c (.sl 1 (e.alts.map bB)),.c (li e.main),.c (.sl 2 (e.senses.map Sns.enc)),.c (.sl 2 (e.links.map Lnk.enc)),.c (.sl 2 (e.refs.map Lnk.enc))]
def Lnk.row(x:Lnk):List T:=[.c (li x.kind),.c (li x.tgt)]
def Sns.row(x:Sns):List T:=[.c (ls x.gloss),.c (ls x.txt)]
def qj(g:List Phon):List T:=[.c (.sl 2 (g.map Phon.enc))]
def cS:Ent:=⟨0,[],0,[],0,[],[],[]⟩
def ZQ{xs:List Int}(h:xs[k]? =some x):(ints xs)[k]? =some [li x]:=by simp[h]
def pM(h:s.data.toList[k]? =some b):(QS s)[k]? =some [.lit (.int .u8 b.toNat)]:=by simp[QS,h]
def ZX(a b:ByteArray):(a==b)=true↔a=b:=by
 constructor
 ·intro h;cases a;cases b;rw[ByteArray.mk.injEq];exact eq_of_beq h
 ·intro h;subst h;cases a;exact beq_self_eq_true (α:=Array UInt8) _
def Sq{b:ByteArray}(h:a≠b):(a==b)=false:=by
 cases h2:(a==b)
 ·rfl
 ·exact ak ((ZX a b).1 h2) h
def co(n:Int):Bool:=decide (1<=n)&&decide (n<=1099511627776)
def eK(n:Int):DCalls pP 319 [dv (li n)] (dv (lb (co n))):=by refine kd (N:=9) (rs:=[.tmp 2]) func319 ?_;refine wC qg ?_ ?_;all_goals(simp_all [co]<;>omega)
def bc(n:Int):DCalls pP 20 [dv (li n)] (dv (lb (co n))):=by refine kd (N:=9) (rs:=[.tmp 2]) func20 ?_;refine wC qg ?_ ?_;all_goals(simp_all [co]<;>omega)
def rC(r:Lnk):Bool:=co r.kind&&co r.tgt
def U1(r:Lnk):DCalls pP 327 [.agg r.row] (dv (lb (rC r))):=by
 refine kd (N:=11) (rs:=[.tmp 2]) func327 ?_;cases h:co r.kind
 ·(repeat' first|(first|refine qC ?_|refine kx (eK r.kind) ?_|apply kU|apply qb);simp only[go_sem,h,Lnk.row]|apply kh<;>intro qe)
  simp[rC,h]
 ·(repeat' first|(first|refine qC ?_|refine kx (eK r.kind) ?_|refine kx (eK r.tgt) ?_|apply kU|apply qb);simp only[go_sem,h,Lnk.row]|apply kh<;>intro qe)
  simp[rC,h]
def qaR(r:Lnk):DCalls pP 200 [.agg r.row] (dv (lb (rC r))):=by
 refine kd (N:=11) (rs:=[.tmp 2]) func200 ?_;cases h:co r.kind
 ·(repeat' first|(first|refine qC ?_|refine kx (bc r.kind) ?_|apply kU|apply qb);simp only[go_sem,h,Lnk.row]|apply kh<;>intro qe)
  simp[rC,h]
 ·(repeat' first|(first|refine qC ?_|refine kx (bc r.kind) ?_|refine kx (bc r.tgt) ?_|apply kU|apply qb);simp only[go_sem,h,Lnk.row]|apply kh<;>intro qe)
  simp[rC,h]
def Pj(a b:Lnk):Bool:=decide (a.kind<b.kind)||(a.kind==b.kind&&decide (a.tgt<b.tgt))
def qaW(a b:Lnk):DCalls pP 201 [.agg a.row,.agg b.row] (dv (lb (Pj a b))):=by
 refine kd (N:=24) (rs:=[.tmp 4]) func201 ?_
 (repeat' first|(first|refine qC ?_|apply kU|apply qb);simp +decide only[go_sem,Lnk.row]|apply kh<;>intro qe|((first|apply qy|apply qx)<;>(intro qe;simp +decide only[go_sem,qe])))
 all_goals simp_all [Pj]
def a7(g:List Phon)(n:Int):Bool:=decide (1<=n)&&decide (n<=(g.length:Int))
def Xp(g:List Phon)(n:Int):DCalls pP 248 [.agg (qj g),dv (li n)] (dv (lb (a7 g n))):=by
 refine kd (N:=14) (rs:=[.tmp 4]) func248 ?_
 (repeat' first|(first|refine qC ?_|apply kU|apply qb);simp +decide only[go_sem,qj]|apply kh<;>intro qe|((first|apply qy|apply qx)<;>(intro qe;simp +decide only[go_sem,qe])))
 all_goals(simp_all [a7]<;>omega)
def Xu(g:List Phon)(n:Int):DCalls pP 151 [.agg (qj g),dv (li n)] (dv (lb (a7 g n))):=by
 refine kd (N:=14) (rs:=[.tmp 4]) func151 ?_
 (repeat' first|(first|refine qC ?_|apply kU|apply qb);simp +decide only[go_sem,qj]|apply kh<;>intro qe|((first|apply qy|apply qx)<;>(intro qe;simp +decide only[go_sem,qe])))
 all_goals(simp_all [a7]<;>omega)
def Zo(a b:Int):Int:=if a<b then -1 else if b<a then 1 else 0
def Ji(a:Int):DCalls pP 139 [dv (li a)] (dv (lb false)):=by refine kd (N:=6) (rs:=[.tmp 2]) func139 ?_;have h:(a !=a)=false:=oh;exact wA qg
def nv(a b:Int):DCalls pP 77 [dv (li a),dv (li b)] (dv (li (Zo a b))):=by
 refine kd (N:=20) (rs:=[.tmp 4]) func77 ?_
 (repeat' first|(first|refine qC ?_|refine kx (Ji a) ?_|refine kx (Ji b) ?_|apply kU|apply qb);simp only[go_sem]|apply kh<;>intro qe)
 all_goals first|(simp_all [Zo];done)|(simp only[Zo];simp at *;split<;>first|rfl|omega|(split<;>first|rfl|omega))
def XH:List Int->Int
 | []=>0
 | x::l=>if x=0 then XH l else x
open Go.Lib
def If{n m c1 c2 c3 lo hi:Nat}(h:checkN n b1 b2 b3 sz lo hi=some k)(hn:n<=m)(h1:1<n->c1=b1)(h2:2<n->c2=b2)(h3:3<n->c3=b3):checkN m c1 c2 c3 sz lo hi=some k/\k<=n:=by
 unfold checkN at h ⊢;split at h
 ·grind
 ·grind
def iT: ∀(n:Nat) (a c:List UInt8),a.length<=n->validD a=true->validD c=true->validD (a++c)=true
 | _,[],c,_,_,hc=>hc
 | 0,b::t,c,hn,_,_=>by simp at hn
 | n+1,b::t,c,hn,ha,hc=>by
  by_cases hb:b.toNat<128
  ·rw[wD,validD_cons b _ hb];rw[validD_cons b _ hb]at ha;exact iT n t c (by simp at hn;omega) ha hc
  ·have g: ∀i,i<(b::t).length->((b::t)++c).getD i 0=(b::t).getD i 0:=fun i hi=>by simp only[ji];rw[wU hi]
   have Yb:0<(b::t).length:=oh;rw[validD_lead _ oh (by simpa using hb)]at ha;have h0:128<=(((b::t)++c).getD 0 0).toNat:=og;rw[validD_lead _ oh h0,g 0 Yb];cases hk:checkN (b::t).length ((b::t).getD 1 0).toNat ((b::t).getD 2 0).toNat ((b::t).getD 3 0).toNat (firstT ((b::t).getD 0 0).toNat % 8) (accLo (firstT ((b::t).getD 0 0).toNat / 16)) (accHi (firstT ((b::t).getD 0 0).toNat / 16))with
   | none=>grind
   | some k=>
    rw[hk]at ha;obtain⟨e,Jr⟩:=If (m:=((b::t)++c).length) (c1:=(((b::t)++c).getD 1 0).toNat) (c2:=(((b::t)++c).getD 2 0).toNat) (c3:=(((b::t)++c).getD 3 0).toNat) hk oh (fun h=>by rw[g 1 h]) (fun h=>by rw[g 2 h]) (fun h=>by rw[g 3 h]);rw[e];simp only at ha ⊢;have Z5:0<k:=by
     unfold checkN at hk;split at hk
     ·grind
     ·grind
    rw[List.drop_append_of_le_length Jr];exact iT n _ c (by rw[yA];simp at hn ⊢;omega) ha hc
def Zw(p:Nat):List Nat:=
 if p<128 then [p]else if p<2048 then [192+p / 64,128+p % 64]else if p<65536 then [224+p / 4096,128+p / 64 % 64,128+p % 64]
 else [240+p / 262144,128+p / 4096 % 64,128+p / 64 % 64,128+p % 64]
def leadN(b0:Nat):Nat:=if 240<=b0 then 4 else if 224<=b0 then 3 else if 192<=b0 then 2 else 1
def fm(b0 b1 b2 b3:Nat):Nat:=
 if 240<=b0 then(((b0 - 240)*64+b1 % 64)*64+b2 % 64)*64+b3 % 64 else if 224<=b0 then((b0 - 224)*64+b1 % 64)*64+b2 % 64
 else if 192<=b0 then(b0 - 192)*64+b1 % 64 else b0
def Zg(p:Nat):Prop:=p<=1114111/\(p<55296\/57343<p)
instance (p:Nat):Decidable (Zg p):=by unfold Zg;infer_instance
def sd(n b0 b1 b2 b3:Nat):Option (Nat×Nat):=
 if n<leadN b0 then none
 else if Zg (fm b0 b1 b2 b3)/\Zw (fm b0 b1 b2 b3)= [b0,b1,b2,b3].take (leadN b0)then some (fm b0 b1 b2 b3,leadN b0)else none
def MB(d:Nat×Nat):Option (Nat×Nat):=if d=(65533,1)then none else some d
def aV:MB (65533,1)=none:=by simp[MB]
def fV{a b:Nat}(h: ¬(a=65533/\b=1)):MB (a,b)=some (a,b):=by simp[MB,h]
def ng{n:Nat}(e1:leadN b0=k)(e2:fm b0 b1 b2 b3=p)(hn: ¬n<k)(h:Zg p/\Zw p= [b0,b1,b2,b3].take k):sd n b0 b1 b2 b3=some (p,k):=by subst e1;subst e2;unfold sd;grind
def eP{n:Nat}(e1:leadN b0=k)(e2:fm b0 b1 b2 b3=p)(h: ¬(Zg p/\Zw p= [b0,b1,b2,b3].take k)):sd n b0 b1 b2 b3=none:=by
 subst e1;subst e2;unfold sd;split
 ·rfl
 ·simp
def gZ{n:Nat}(e1:leadN b0=k)(hn:n<k):sd n b0 b1 b2 b3=none:=by subst e1;unfold sd;rw[ae hn]
def qgY(n b0 b1 b2 b3:Nat)(hn:1<=n)(h:b0<192):sd n b0 b1 b2 b3=MB (decodeN n b0 b1 b2 b3):=by
 have e1:leadN b0=1:=by unfold leadN;(repeat' split)<;>omega
 have e2:fm b0 b1 b2 b3=b0:=by unfold fm;(repeat' split)<;>omega
 by_cases h1:b0<128
 ·have e3:decodeN n b0 b1 b2 b3=(b0,1):=by simp[decodeN,h1]
  rw[e3,fV oa];exact ng e1 e2 oa ⟨⟨oa,oa⟩,by simp[Zw,h1]⟩
 ·have e3:decodeN n b0 b1 b2 b3=(65533,1):=decodeN_bad n b0 b1 b2 b3 (.inl ⟨oa,oa⟩);rw[e3,aV];refine eP e1 e2 ?_;simp only[wV,wy];rintro⟨_,h2⟩;simp[Zw,h1,show b0<2048 by omega]at h2
def qgX(n b0 b1 b2 b3:Nat)(h1:b1<256)(h:192<=b0)(h':b0<224):sd n b0 b1 b2 b3=MB (decodeN n b0 b1 b2 b3):=by
 have e1:leadN b0=2:=by unfold leadN;(repeat' split)<;>omega
 have e2:fm b0 b1 b2 b3=(b0 - 192)*64+b1 % 64:=by unfold fm;(repeat' split)<;>omega
 have hb:b0 / 32=6:=oa;have hp:b0 % 32*64+b1 % 64=(b0 - 192)*64+b1 % 64:=oa;by_cases hn:n<2
 ·rw[gZ e1 hn];have e3:decodeN n b0 b1 b2 b3=(65533,1):=by unfold decodeN;grind
  rw[e3,aV]
 by_cases hc:b1 / 64=2
 ·have e3:decodeN n b0 b1 b2 b3=if b0 % 32*64+b1 % 64≥128 then(b0 % 32*64+b1 % 64,2)else(65533,1):=by unfold decodeN;grind
  rw[e3,hp];by_cases hv:(b0 - 192)*64+b1 % 64≥128
  ·rw[ae hv,fV oa];refine ng e1 e2 hn ⟨⟨oa,oa⟩,?_⟩;simp only[wV,wy];rw[Zw,j7 oa,ae oa];grind
  ·rw[j7 hv,aV];refine eP e1 e2 ?_;simp only[wV,wy];rintro⟨_,h2⟩;rw[Zw,ae oa]at h2;simp at h2
 ·have e3:decodeN n b0 b1 b2 b3=(65533,1):=by unfold decodeN;grind
  rw[e3,aV];refine eP e1 e2 ?_;simp only[wV,wy];rintro⟨_,h2⟩;rw[Zw]at h2;grind
def qgW(n b0 b1 b2 b3:Nat)(h1:b1<256)(h2:b2<256)(h:224<=b0)(h':b0<240):sd n b0 b1 b2 b3=MB (decodeN n b0 b1 b2 b3):=by
 have e1:leadN b0=3:=by unfold leadN;(repeat' split)<;>omega
 have e2:fm b0 b1 b2 b3=((b0 - 224)*64+b1 % 64)*64+b2 % 64:=by unfold fm;(repeat' split)<;>omega
 have hb:b0 / 16=14:=oa;have hp:b0 % 16*4096+b1 % 64*64+b2 % 64=((b0 - 224)*64+b1 % 64)*64+b2 % 64:=oa;have bad: ¬(3<=n/\b1 / 64=2/\b2 / 64=2)->decodeN n b0 b1 b2 b3=(65533,1):=fun hh=>by unfold decodeN;rw[j7 oa,j7 oa,j7 oa,j7 oa]
 by_cases hn:n<3
 ·rw[gZ e1 hn,bad oa,aV]
 generalize hq:((b0 - 224)*64+b1 % 64)*64+b2 % 64=p at*
 by_cases hc:b1 / 64=2/\b2 / 64=2
 ·have e3:decodeN n b0 b1 b2 b3=if p≥2048/\(p<55296\/(57344<=p/\p<=1114111))then(p,3)else(65533,1):=by unfold decodeN;grind
  rw[e3];by_cases hv:p≥2048/\(p<55296\/(57344<=p/\p<=1114111))
  ·rw[ae hv,fV oa];refine ng e1 e2 hn ⟨⟨oa,oa⟩,?_⟩;simp only[wV,wy];rw[Zw,j7 oa,j7 oa,ae oa];grind
  ·rw[j7 hv,aV];refine eP e1 e2 ?_;simp only[wV,wy];rintro⟨⟨s1,s2⟩,h2⟩;rw[Zw]at h2;grind
 ·rw[bad oa,aV];refine eP e1 e2 ?_;simp only[wV,wy];rintro⟨_,h2⟩;rw[Zw]at h2;grind
def qgV(n b0 b1 b2 b3:Nat)(h0:b0<256)(h1:b1<256)(h2:b2<256)(h3:b3<256)(h:240<=b0):sd n b0 b1 b2 b3=MB (decodeN n b0 b1 b2 b3):=by
 have e1:leadN b0=4:=by unfold leadN;(repeat' split)<;>omega
 have e2:fm b0 b1 b2 b3=(((b0 - 240)*64+b1 % 64)*64+b2 % 64)*64+b3 % 64:=by unfold fm;(repeat' split)<;>omega
 have bad: ¬(4<=n/\b0<248/\b1 / 64=2/\b2 / 64=2/\b3 / 64=2)->decodeN n b0 b1 b2 b3=(65533,1):=fun hh=>by unfold decodeN;rw[j7 oa,j7 oa,j7 oa,j7 oa]
 by_cases hn:n<4
 ·rw[gZ e1 hn,bad oa,aV]
 by_cases hc:b0<248/\b1 / 64=2/\b2 / 64=2/\b3 / 64=2
 ·have hp:b0 % 8*262144+b1 % 64*4096+b2 % 64*64+b3 % 64=(((b0 - 240)*64+b1 % 64)*64+b2 % 64)*64+b3 % 64:=by omega
  have hb:b0 / 8=30:=oa;generalize hq:(((b0 - 240)*64+b1 % 64)*64+b2 % 64)*64+b3 % 64=p at*
  have e3:decodeN n b0 b1 b2 b3=if p≥65536/\(p<55296\/(57344<=p/\p<=1114111))then(p,4)else(65533,1):=by unfold decodeN;grind
  rw[e3];by_cases hv:p≥65536/\(p<55296\/(57344<=p/\p<=1114111))
  ·rw[ae hv,fV oa];refine ng e1 e2 hn ⟨⟨oa,oa⟩,?_⟩;simp only[wV,wy];rw[Zw,j7 oa,j7 oa,j7 oa];grind
  ·rw[j7 hv,aV];refine eP e1 e2 ?_;simp only[wV,wy];rintro⟨⟨s1,s2⟩,h2⟩;rw[Zw]at h2;grind
 ·rw[bad oa,aV];refine eP e1 e2 ?_;simp only[wV,wy];rintro⟨⟨s1,s2⟩,h2⟩;generalize hq:(((b0 - 240)*64+b1 % 64)*64+b2 % 64)*64+b3 % 64=p at*
  rw[Zw]at h2;grind
def HQ(n b0 b1 b2 b3:Nat)(hn:1<=n)(h0:b0<256)(h1:b1<256)(h2:b2<256)(h3:b3<256):sd n b0 b1 b2 b3=MB (decodeN n b0 b1 b2 b3):=by
 by_cases c1:b0<192
 ·exact qgY n b0 b1 b2 b3 hn c1
 by_cases c2:b0<224
 ·exact qgX n b0 b1 b2 b3 h1 oa c2
 by_cases c3:b0<240
 ·exact qgW n b0 b1 b2 b3 h1 h2 oa c3
 ·exact qgV n b0 b1 b2 b3 h0 h1 h2 h3 oa
def N2(p:Nat):DCalls pP 226 [dv (li p)] (dv (lb (decide (Zg p)))):=by
 refine kd (N:=17) (rs:=[.tmp 2]) func226 ?_;have t0:decide ((0:Int)<=(p:Int))=true:=oh;rcases wv (decide ((p:Int)<=1114111))with t1|t1;rotate_left
 ·refine wB qg ?_;have: ¬Zg p:=fun h=>by simp at t1;have:=h.1;omega
  simp[this]
 rcases wv (decide ((p:Int)<55296))with t2|t2
 ·refine wB qg ?_;have:Zg p:=⟨by simp at t1;omega,by simp at t2;omega⟩;simp[this]
 rcases wv (decide ((57343:Int)<(p:Int)))with t3|t3
 ·refine wB qg ?_;have:Zg p:=⟨by simp at t1;omega,by simp at t3;omega⟩;simp[this]
 ·refine wB qg ?_;have: ¬Zg p:=fun h=>by simp at t2 t3;have:=h.2;omega
  simp[this]
def pB(p:Nat):ByteArray:=⟨((Zw p).map UInt8.ofNat).toArray⟩
def Iy(h:0<=x)(h':x<256):IntKind.u8.wrap x=x:=by
 have:IntKind.u8.wrap x=x % 256:=by simp[IntKind.wrap,IntKind.bits,IntKind.signed]
 rw[this];omega
theorem qet(p k:Nat):((p:Int).tdiv (k:Int))=((p / k:Nat):Int):=oh
theorem qep(p k:Nat):((p:Int).tmod (k:Int))=((p % k:Nat):Int):=og
def An{a x:Nat}(h:a+x<256):IntKind.u8.wrap (aD .i64 ((a:Int)+(x:Int)))=((a+x:Nat):Int):=by rw[wrap_i64 oa oa,Iy oa oa];rfl
def Zp{x:Nat}(h:x<9223372036854775808):aD .i64 (x:Int)=(x:Int):=wrap_i64 oa oa
def L4(p:Nat)(hp:p<=1114111):DCalls pP 227 [dv (li p)] (dv (ls (pB p))):=by
 have d1:(p:Int).tdiv 64=((p / 64:Nat):Int):=oh;have d2:(p:Int).tdiv 4096=((p / 4096:Nat):Int):=oh;have d3:(p:Int).tdiv 262144=((p / 262144:Nat):Int):=oh;have m0:(p:Int).tmod 64=((p % 64:Nat):Int):=og;have m1:((p / 64:Nat):Int).tmod 64=((p / 64 % 64:Nat):Int):=og;have m2:((p / 4096:Nat):Int).tmod 64=((p / 4096 % 64:Nat):Int):=og;have q1:aD .i64 ((p / 64:Nat):Int)=((p / 64:Nat):Int):=Zp oa;have q2:aD .i64 ((p / 4096:Nat):Int)=((p / 4096:Nat):Int):=Zp oa;have q3:aD .i64 ((p / 262144:Nat):Int)=((p / 262144:Nat):Int):=Zp oa;have w0:IntKind.u8.wrap (aD .i64 (128+((p % 64:Nat):Int)))=((128+p % 64:Nat):Int):=An (a:=128) oa;have w1:IntKind.u8.wrap (aD .i64 (128+((p / 64 % 64:Nat):Int)))=((128+p / 64 % 64:Nat):Int):=An (a:=128) oa;have w2:IntKind.u8.wrap (aD .i64 (128+((p / 4096 % 64:Nat):Int)))=((128+p / 4096 % 64:Nat):Int):=An (a:=128) oa;refine kd (N:=61) (rs:=[.tmp 2]) func227 ?_;by_cases h1:p<128
 ·have t1:decide ((p:Int)<128)=true:=by grind
  have w3:IntKind.u8.wrap (p:Int)=p:=Iy oa oa;refine wB qg ?_;simp[pB,Zw,h1]
 ·have t1:decide ((p:Int)<128)=false:=by grind
  by_cases h2:p<2048
  ·have t2:decide ((p:Int)<2048)=true:=by grind
   have w3:IntKind.u8.wrap (aD .i64 (192+((p / 64:Nat):Int)))=((192+p / 64:Nat):Int):=An (a:=192) oa;refine wB qg ?_;simp only[pB,Zw,h1,h2,ap,an,wo,wm]
  ·have t2:decide ((p:Int)<2048)=false:=by grind
   by_cases h3:p<65536
   ·have t3:decide ((p:Int)<65536)=true:=by grind
    have w3:IntKind.u8.wrap (aD .i64 (224+((p / 4096:Nat):Int)))=((224+p / 4096:Nat):Int):=An (a:=224) oa;refine wB qg ?_;simp only[pB,Zw,h1,h2,h3,ap,an,wo,wm]
   ·have t3:decide ((p:Int)<65536)=false:=by grind
    have w3:IntKind.u8.wrap (aD .i64 (240+((p / 262144:Nat):Int)))=((240+p / 262144:Nat):Int):=An (a:=240) oa;refine wB qg ?_;simp only[pB,Zw,h1,h2,h3,ap,wo,wm]
def bJ(bs:List UInt8)(i:Nat):Nat:=(bs.getD i 0).toNat
def lL(bs:List UInt8):Option (Nat×Nat):=sd bs.length (bJ bs 0) (bJ bs 1) (bJ bs 2) (bJ bs 3)
def baseN(b0:Nat):Nat:=if 240<=b0 then b0 - 240 else if 224<=b0 then b0 - 224 else if 192<=b0 then b0 - 192 else b0
def pf(p:Nat)(xs:List UInt8):Nat:=xs.foldl (fun p b=>p*64+b.toNat % 64) p
def US(p:Nat)(xs:List UInt8)(b:UInt8):pf p (xs++[b])=pf p xs*64+b.toNat % 64:=by simp[pf]
def XE: ∀(xs:List UInt8) (p:Nat),pf p xs<(p+1)*64 ^ xs.length
 | [],p=>by simp[pf]
 | b::xs,p=>by have h:=XE xs (p*64+b.toNat % 64);have e:pf p (b::xs)=pf (p*64+b.toNat % 64) xs:=rfl;rw[e];refine jp h ?_;rw[wW,Nat.pow_succ,jF (64 ^ xs.length) 64,<-Nat.mul_assoc];exact wQ _ oa
def cm(b0:Nat):(leadN b0=1/\b0<192)\/(leadN b0=2/\192<=b0/\b0<224)\/(leadN b0=3/\224<=b0/\b0<240)\/(leadN b0=4/\240<=b0):=by unfold leadN;(repeat' split)<;>omega
def WD(b0:Nat):baseN b0<=b0:=by unfold baseN;(repeat' split)<;>omega
def Qz(bs:List UInt8):List UInt8:=(bs.drop 1).take (leadN (bJ bs 0) - 1)
def Y3(h:leadN (bJ bs 0)<=bs.length):fm (bJ bs 0) (bJ bs 1) (bJ bs 2) (bJ bs 3)=pf (baseN (bJ bs 0)) (Qz bs):=by
 unfold Qz;rcases cm (bJ bs 0)with⟨e,c⟩|⟨e,c,c'⟩|⟨e,c,c'⟩|⟨e,c⟩<;>rw[e]at h ⊢
 ·simp only[Nat.sub_self,wy,pf,yj];unfold fm baseN;(repeat' split)<;>omega
 ·match bs,h with
  | a::b::l,_=>
   simp only[bJ,List.getD_cons_zero,List.getD_cons_succ,yh,yC,wV,wy,pf,yE,yj]at*
   unfold fm baseN;(repeat' split)<;>omega
 ·match bs,h with
  | a::b::d::l,_=>
   simp only[bJ,List.getD_cons_zero,List.getD_cons_succ,yh,yC,wV,wy,pf,yE,yj]at*
   unfold fm baseN;(repeat' split)<;>omega
 ·match bs,h with
  | a::b::d::f::l,_=>
   simp only[bJ,List.getD_cons_zero,List.getD_cons_succ,yh,yC,wV,wy,pf,yE,yj]at*
   unfold fm baseN;(repeat' split)<;>omega
def Ba(h:leadN (bJ bs 0)<=bs.length): [bJ bs 0,bJ bs 1,bJ bs 2,bJ bs 3].take (leadN (bJ bs 0))=(bs.take (leadN (bJ bs 0))).map UInt8.toNat:=by
 rcases cm (bJ bs 0)with⟨e,c⟩|⟨e,c,c'⟩|⟨e,c,c'⟩|⟨e,c⟩<;>rw[e]at h ⊢
 ·match bs,h with
  | a::l,_=>simp[bJ]
 ·match bs,h with
  | a::b::l,_=>simp[bJ]
 ·match bs,h with
  | a::b::d::l,_=>simp[bJ]
 ·match bs,h with
  | a::b::d::f::l,_=>simp[bJ]
def DD(h:leadN (bJ bs 0)<=bs.length):(Qz bs).length+1=leadN (bJ bs 0):=by unfold Qz;rcases cm (bJ bs 0)with⟨e,c⟩|⟨e,c,c'⟩|⟨e,c,c'⟩|⟨e,c⟩<;>rw[e]at h ⊢ <;>simp<;>omega
def TX(h:(Qz bs)[k]? =some b):bs[k+1]? =some b:=by
 unfold Qz at h;rw[yx]at h;split at h
 ·grind
 ·cases h
def RJ(hp:p<=1114111): ∀x∈Zw p,x<256:=by
 unfold Zw
 (repeat' split)<;>simp<;>omega
def pA(hp:p<=1114111){tk:List UInt8}:(Zw p).map UInt8.ofNat=tk↔Zw p=tk.map UInt8.toNat:=by
 constructor
 ·intro h;rw[<-h,yn]
  conv=>lhs;rw[<-List.map_id (Zw p)]
  apply yz;intro x hx;have:=RJ hp x hx;simp[Function.comp];omega
 ·intro h;rw[h,yn]
  conv=>rhs;rw[<-List.map_id tk]
  apply yz;intro x hx;simp[Function.comp]
def eQ(h:bs.length<leadN (bJ bs 0)):lL bs=none:=gZ rfl h
def sK(h:leadN (bJ bs 0)<=bs.length):lL bs=if Zg (pf (baseN (bJ bs 0)) (Qz bs))/\(Zw (pf (baseN (bJ bs 0)) (Qz bs))).map UInt8.ofNat=bs.take (leadN (bJ bs 0))then some (pf (baseN (bJ bs 0)) (Qz bs),leadN (bJ bs 0))else none:=by
 have e:=Y3 h;unfold lL;by_cases hs:Zg (pf (baseN (bJ bs 0)) (Qz bs))
 ·by_cases he:(Zw (pf (baseN (bJ bs 0)) (Qz bs))).map UInt8.ofNat=bs.take (leadN (bJ bs 0))
  ·rw[ae ⟨hs,he⟩];exact ng rfl e oa ⟨hs,by rw[Ba h];exact(pA hs.1).1 he⟩
  ·rw[j7 (fun hh=>he hh.2)];exact eP rfl e fun hh=>he ((pA hs.1).2 (by rw[<-Ba h];exact hh.2))
 ·rw[j7 (fun hh=>hs hh.1)];exact eP rfl e fun hh=>hs hh.1
def gm(h:bs≠ []):lL bs=MB (decodeL bs):=by rw[decodeL_N];have hl:1<=bs.length:=og;exact HQ _ _ _ _ _ hl (UInt8.toNat_lt _) (UInt8.toNat_lt _) (UInt8.toNat_lt _) (UInt8.toNat_lt _)
def ZU(s:ByteArray)(a:Nat):Int×Int:=
 match lL (s.data.toList.drop a)with
 | some (p,k)=>(p,k)
 | none=>(-1,0)
abbrev Zh:Dl.PL:=fun|18=> (0,.light)::(1,.step)::Dl.ll 2 12 []|_=>[]
def V7(s:ByteArray)(a:Nat)(ha:a<s.size)(hs:s.size<=1048576):DCalls pP 193 [dv (ls s),dv (li a)] (.tup [dv (li (ZU s a).1),dv (li (ZU s a).2)]):=by
 obtain⟨bs,Fa⟩: ∃bs,bs=s.data.toList.drop a:=⟨_,rfl⟩;have vG:bs.length+a=s.size:=by simp_all;omega
 have hx0:s.data.toList[a]? =some (bs.getD 0 0):=og;have hb0:bJ bs 0<256:=UInt8.toNat_lt _;have VF:aD .i64 (((bs.getD 0 0).toNat:Nat):Int)=((bJ bs 0:Nat):Int):=Zp (by have:=UInt8.toNat_lt (bs.getD 0 0);omega);obtain⟨b0,uO⟩: ∃b0,b0=bJ bs 0:=⟨_,rfl⟩;rw[<-uO]at VF hb0;have lJ:=WD b0;have qi:=qo;refine kd (N:=65) (rs:=[.tmp 4,.tmp 5]) func193 ?_;apply qk;refine qC ?_;simp +decide only[go_sem];apply qk;refine qC ?_;simp +decide only[go_sem,hx0,VF];apply qk;refine qC ?_;simp +decide only[go_sem];apply qk;refine pF (fun _:Unit=>kn 65 [(0,dv (ls s)),(1,dv (li a)),(6,dv (li (baseN b0))),(7,dv (li (leadN b0)))] qA) (fun _=>True) ?_ ?_
 ·rcases cm b0 with⟨e,c⟩|⟨e,c,c'⟩|⟨e,c,c'⟩|⟨e,c⟩
  ·have t1:decide ((240:Int)<=(b0:Int))=false:=by grind
   have t2:decide ((224:Int)<=(b0:Int))=false:=og;have t3:decide ((192:Int)<=(b0:Int))=false:=og;have hb:baseN b0=b0:=by unfold baseN;(repeat' split)<;>omega
   (repeat' first|(first|refine qC ?_|refine zU Zh ?_|apply kU|apply qb);simp only[go_sem,t1,t2,t3]|apply kh<;>intro qe)
   exact⟨(),vU rfl (by simp +decide only[go_sem,e,hb]) (by simp[qA])⟩
  ·have t1:decide ((240:Int)<=(b0:Int))=false:=by grind
   have t2:decide ((224:Int)<=(b0:Int))=false:=og;have t3:decide ((192:Int)<=(b0:Int))=true:=og;have hb:aD .i64 ((b0:Int) - 192)=(baseN b0:Int):=by
    have:baseN b0=b0 - 192:=by unfold baseN;(repeat' split)<;>omega
    rw[this,wrap_i64 oa oa];omega
   (repeat' first|(first|refine qC ?_|refine zU Zh ?_|apply kU|apply qb);simp only[go_sem,t1,t2,t3,hb]|apply kh<;>intro qe)
   exact⟨(),vU rfl (by simp +decide only[go_sem,e]) (by simp[qA])⟩
  ·have t1:decide ((240:Int)<=(b0:Int))=false:=by grind
   have t2:decide ((224:Int)<=(b0:Int))=true:=og;have hb:aD .i64 ((b0:Int) - 224)=(baseN b0:Int):=by
    have:baseN b0=b0 - 224:=by unfold baseN;(repeat' split)<;>omega
    rw[this,wrap_i64 oa oa];omega
   (repeat' first|(first|refine qC ?_|refine zU Zh ?_|apply kU|apply qb);simp only[go_sem,t1,t2,hb]|apply kh<;>intro qe)
   exact⟨(),vU rfl (by simp +decide only[go_sem,e]) (by simp[qA])⟩
  ·have t1:decide ((240:Int)<=(b0:Int))=true:=by grind
   have hb:aD .i64 ((b0:Int) - 240)=(baseN b0:Int):=by
    have:baseN b0=b0 - 240:=by unfold baseN;(repeat' split)<;>omega
    rw[this,wrap_i64 oa oa];omega
   (repeat' first|(first|refine qC ?_|refine zU Zh ?_|apply kU|apply qb);simp only[go_sem,t1,hb]|apply kh<;>intro qe)
   exact⟨(),vU rfl (by simp +decide only[go_sem,e]) (by simp[qA])⟩
 intro _ _;have hl14:1<=leadN b0/\leadN b0<=4:=by rcases cm b0 with h|h|h|h<;>omega
 have mV:aD .i64 ((a:Int)+(leadN b0:Int))=((a+leadN b0:Nat):Int):=by rw[wrap_i64 oa oa];rfl
 by_cases hk:leadN b0<=bs.length;rotate_left
 ·have t1:decide ((s.size:Int)<((a+leadN b0:Nat):Int))=true:=by grind
  (repeat' first|(first|refine qC ?_|refine zU Zh ?_|apply kU|apply qb);simp only[go_sem,mV,t1]|apply kh<;>intro qe)
  have:ZU s a=(-1,0):=by unfold ZU;rw[<-Fa,eQ (by rw[<-uO];omega)]
  rw[this]
 have t1:decide ((s.size:Int)<((a+leadN b0:Nat):Int))=false:=og;have hk':=hk;rw[uO]at hk';have qdS:=DD hk';rw[<-uO]at qdS;have hpf: ∀k,k<=(Qz bs).length->pf (baseN b0) ((Qz bs).take k)<268435456:=fun k hk=>by have h1:=XE ((Qz bs).take k) (baseN b0);have h2:((Qz bs).take k).length<=3:=og;have h3:64 ^ ((Qz bs).take k).length<=64 ^ 3:=Nat.pow_le_pow_right oa h2;have h4:(baseN b0+1)*64 ^ ((Qz bs).take k).length<=257*64 ^ 3:=Nat.mul_le_mul oa h3;omega
 (repeat' first|(first|refine qC ?_|refine zU Zh ?_|apply kU);simp only[go_sem,mV,t1]|apply kh<;>intro qe)
 refine eU (Qz bs) (fun k=>kn 65 [(0,dv (ls s)),(1,dv (li a)),(6,dv (li (pf (baseN b0) ((Qz bs).take k)))),(7,dv (li (leadN b0))),(8,dv (li ((k+1:Nat):Int)))] qA) oa (vU rfl (by simp +decide only[go_sem,wy,pf,yj]) (by simp[qA])) ?_ ?_
 ·intro k b hb bw hm qs _ _;have u1:decide (((k+1:Nat):Int)<(leadN b0:Int))=true:=og;have hp:=hpf k oa;obtain⟨q,hq⟩: ∃q,q=pf (baseN b0) ((Qz bs).take k):=⟨_,rfl⟩;have PX:pf (baseN b0) ((Qz bs).take (k+1))=q*64+b.toNat % 64:=by rw[qs,US,hq]
  rw[<-hq]at hp ⊢;rw[PX];have hbt:=UInt8.toNat_lt b;have u2:aD .i64 ((q:Int)*64)=((q*64:Nat):Int):=by rw[wrap_i64 oa oa];omega
  have u3:aD .i64 ((a:Int)+((k+1:Nat):Int))=((a+(k+1):Nat):Int):=by rw[wrap_i64 oa oa];rfl
  have u4:s.data.toList[a+(k+1)]? =some b:=by have:=TX hb;rw[Fa,yl]at this;exact this
  have u5:aD .i64 ((b.toNat:Nat):Int)=((b.toNat:Nat):Int):=Zp oa;have u6:((b.toNat:Nat):Int).tmod 64=((b.toNat % 64:Nat):Int):=og;have u7:aD .i64 (((q*64:Nat):Int)+((b.toNat % 64:Nat):Int))=((q*64+b.toNat % 64:Nat):Int):=by rw[wrap_i64 oa oa];omega
  have u8:aD .i64 (((k+1:Nat):Int)+1)=((k+1+1:Nat):Int):=by rw[wrap_i64 oa oa];rfl
  (repeat' first|(first|refine qC ?_|refine zU Zh ?_|apply kU|apply qb);simp +decide only[go_sem,u1,u2,u3,u4,u5,u6,u7,u8,wO]|apply kh<;>intro qe|((first|apply qy|apply qx)<;>(intro qe;simp +decide only[go_sem,qe,u1,u2,u3,u4,u5,u6,u7,u8,wO])))
  exact kl
 ·intro _;have u1:decide ((((Qz bs).length+1:Nat):Int)<(leadN b0:Int))=false:=og;rw[wc];have hp:=hpf (Qz bs).length (wl _);rw[wc]at hp;have hf:=sK hk';rw[<-uO]at hf;obtain⟨p,hpq⟩: ∃p,p=pf (baseN b0) (Qz bs):=⟨_,rfl⟩;rw[<-hpq]at hf hp ⊢;have hS:=N2 p;by_cases qbV:Zg p;rotate_left
  ·rw[au qbV]at hS;rw[j7 (fun h=>qbV h.1)]at hf
   (repeat' first|(first|refine qC ?_|refine zU Zh ?_|refine kx hS ?_|apply kU|apply qb);simp only[go_sem,u1]|apply kh<;>intro qe)
   have:ZU s a=(-1,0):=by unfold ZU;rw[<-Fa,hf]
   rw[this]
  rw[ay qbV]at hS;have hE:=L4 p qbV.1;have dB:(s.extract a (a+leadN b0)).data.toList=bs.take (leadN b0):=oA;have u2:(a<=a+leadN b0/\a+leadN b0<=s.size)=True:=og;have x9:pB p=s.extract a (a+leadN b0)↔(Zw p).map UInt8.ofNat=bs.take (leadN b0):=by
   rw[<-dB];constructor
   ·intro h;rw[<-h];simp[pB]
   ·intro h;have:(pB p).data=(s.extract a (a+leadN b0)).data:=by apply Array.ext';rw[<-h];simp[pB]
    cases h1:pB p;cases h2:s.extract a (a+leadN b0);rw[h1,h2]at this;simp at this;rw[this]
  by_cases he:pB p=s.extract a (a+leadN b0)
  ·have u3:(pB p==s.extract a (a+leadN b0))=true:=(ZX _ _).2 he;rw[ae ⟨qbV,x9.1 he⟩]at hf;have:ZU s a=((p:Int),((leadN b0:Nat):Int)):=by unfold ZU;rw[<-Fa,hf]
   rw[this]
   (repeat' first|(first|refine qC ?_|refine zU Zh ?_|refine kx hS ?_|refine kx hE ?_|apply kU|apply qb);simp only[go_sem,u1,mV,u2,u3,wO,Int.natCast_nonneg]|apply kh<;>intro qe)
  ·have u3:(pB p==s.extract a (a+leadN b0))=false:=Sq he;rw[j7 (fun h=>he (x9.2 h.2))]at hf;have:ZU s a=(-1,0):=by unfold ZU;rw[<-Fa,hf]
   rw[this]
   (repeat' first|(first|refine qC ?_|refine zU Zh ?_|refine kx hS ?_|refine kx hE ?_|apply kU|apply qb);simp only[go_sem,u1,mV,u2,u3,wO,Int.natCast_nonneg]|apply kh<;>intro qe)
def Zv(h:lL bs=some (p,k)):1<=k/\k<=bs.length/\p<=1114111:=by
 by_cases hl:leadN (bJ bs 0)<=bs.length
 ·rw[sK hl]at h;split at h
  ·rename_i hs;injection h with h;injection h with h1 h2
   subst h1;subst h2;have:=DD hl;exact⟨oa,hl,hs.1.1⟩
  ·cases h
 ·rw[eQ oa]at h;cases h
def BY:Nat->List UInt8->Option (List Nat)
 | 0,_=>some []
 | n+1,bs=>if bs= []then some []else match lL bs with
  | none=>none
  | some (p,k)=>(BY n (bs.drop k)).map fun l=>p::l
def AN: ∀(n m:Nat) (bs:List UInt8),bs.length<=n->bs.length<=m->BY n bs=BY m bs
 | 0,m,bs,hn,_=>by
  have:bs= []:=og;subst this;cases m<;>simp[BY]
 | n+1,0,bs,_,hm=>by
  have:bs= []:=og;subst this;simp[BY]
 | n+1,m+1,bs,hn,hm=>by
  unfold BY;split
  ·rfl
  ·split
   ·rfl
   ·rename_i p k hf;have:=Zv hf;rw[AN n m (bs.drop k) ot ot]
def ci(bs:List UInt8):Option (List Nat):=BY bs.length bs
theorem tW:ci []=some []:=rfl
def fU(h:bs≠ [])(hf:lL bs=none):ci bs=none:=by have:0<bs.length:=og;obtain⟨n,hn⟩: ∃n,bs.length=n+1:=⟨bs.length - 1,oa⟩;unfold ci;rw[hn];simp[BY,h,hf]
def dI(hf:lL bs=some (p,k)):ci bs=(ci (bs.drop k)).map fun l=>p::l:=by have hw:=Zv hf;have h:bs≠ []:=og;obtain⟨n,hn⟩: ∃n,bs.length=n+1:=⟨bs.length - 1,oa⟩;unfold ci;rw[hn];simp only[BY,h,ap,hf];rw[AN n (bs.drop k).length (bs.drop k) ot (wl _)]
def I4{d:Nat×Nat}:MB d=if d.1=65533/\d.2=1 then none else some d:=by unfold MB;obtain⟨a,b⟩:=d;simp
def tV: ∀(n:Nat) (bs:List UInt8),bs.length<=n->(ci bs).isSome=validD bs
 | n,[],_=>rfl
 | 0,b::l,h=>by simp at h
 | n+1,b::l,h=>by
  have qH:(b::l)≠ []:=oh;have hd:=gm qH;rw[I4]at hd;rw[validD_step _ qH];split
  ·rename_i hb;rw[ae hb]at hd;rw[fU qH hd];rfl
  ·rename_i hb;rw[j7 hb]at hd;have hw:=Zv (p:=(decodeL (b::l)).1) (k:=(decodeL (b::l)).2) hd;rw[dI (p:=(decodeL (b::l)).1) (k:=(decodeL (b::l)).2) hd];rw[Option.isSome_map];exact tV n _ (by simp at h ⊢;omega)
def oT(bs:List UInt8):(ci bs).isSome=validD bs:=tV bs.length bs (wl _)
def Bl(n:Nat):Bool:=decide (n<32)||n==127
def Be{l:List UInt8}(h:b.toNat<128):lL (b::l)=some (b.toNat,1):=by rw[gm oh,decodeL_ascii b l h];exact fV oa
def Fj(h:lL bs=some (p,k))(hb:128<=bJ bs 0):128<=p/\∀x∈bs.take k,128<=x.toNat:=by
 by_cases hl:leadN (bJ bs 0)<=bs.length
 ·rw[sK hl]at h;split at h
  ·rename_i hs;injection h with h;injection h with h1 h2
   obtain⟨iD,iC⟩:=hs;rw[h1]at iD iC;rw[h2]at iC;have hp:128<=p:=by
    rcases yD p 128 with qf|dC
    ·exfalso;rw[Zw,ae qf]at iC;have h3:=(pA iD.1 (tk:=bs.take k)).1 (by rw[Zw,ae qf];exact iC);rw[Zw,ae qf]at h3;have hw:1<=k/\k<=bs.length:=og;cases Fa:bs with
     | nil=>grind
     | cons a l=>
      rw[Fa]at h3 hb;obtain⟨j,hj⟩: ∃j,k=j+1:=⟨k - 1,oa⟩;rw[hj]at h3;simp[bJ]at h3 hb;omega
    ·exact dC
   refine⟨hp,fun x hx=>?_⟩;rw[<-iC]at hx;obtain⟨y,hy,rfl⟩:=wN.1 hx;have qf:=RJ iD.1 y hy;have:128<=y:=by
    unfold Zw at hy
    (repeat' split at hy)<;>simp at hy<;>omega
   simp;omega
  ·cases h
 ·rw[eQ oa]at h;cases h
def JF: ∀(n:Nat) (bs:List UInt8) (l:List Nat),bs.length<=n->ci bs=some l->l.any Bl=bs.any fun b=>Bl b.toNat
 | n,[],l,_,h=>by rw[tW]at h;injection h with h;subst h;rfl
 | 0,b::r,l,hn,_=>by simp at hn
 | n+1,b::r,l,hn,h=>by
  have qH:(b::r)≠ []:=oh;cases hf:lL (b::r)with
  | none=>rw[fU qH hf]at h;cases h
  | some d=>
   obtain⟨p,k⟩:=d;have hw:=Zv hf;rw[dI hf]at h;cases hr:ci ((b::r).drop k)with
   | none=>grind
   | some q=>
    rw[hr]at h;injection h with h;subst h
    have ih:=JF n _ q (by simp at hn ⊢;omega) hr;rw[List.any_cons,ih]
    conv=>rhs;rw[<-yf k (b::r)]
    rw[List.any_append];congr 1;by_cases hb:b.toNat<128
    ·rw[Be hb]at hf;injection hf with hf;injection hf with h1 h2
     subst h1;subst h2;simp
    ·obtain⟨h1,h2⟩:=Fj hf (by simp[bJ];omega);have e1:Bl p=false:=by simp[Bl];omega
     rw[e1];symm;rw[yY];intro x hx;have:=h2 x hx;simp[Bl];omega
def nl(l:List Nat):List Int:=l.map fun p:Nat=>(p:Int)
def UW(l:List Nat)(p:Nat):ints (nl (l++[p]))=ints (nl l)++[[li (p:Int)]]:=by simp[nl]
def G3(s:ByteArray):List Int:=nl ((ci s.data.toList).getD [])
def F3(s:ByteArray):Bool:=Go.Lib.validD s.data.toList
def AJ(s:ByteArray)(hs:s.size<=1048576):DCalls pP 147 [dv (ls s)] (.tup [dv (.sl 1 (ints (G3 s))),dv (lb (F3 s))]):=by
 have hv:=oT s.data.toList;refine kd (N:=28) (rs:=[.tmp 2,.tmp 3]) func147 ?_
 (repeat' first|(first|refine qC ?_|apply kU);simp only[go_sem]|apply kh<;>intro qe)
 refine CA 4 4 1 oe ?_;refine q8 (fun y:Nat×List Nat=>kn 28 [(0,dv (ls s)),(4,.one (.own 4 1 (ints (nl y.2)))),(5,dv (li y.1))] qA)
  (fun y=>y.1<=s.size/\y.2.length<=y.1/\ci s.data.toList=(ci (s.data.toList.drop y.1)).map fun l=>y.2++l) (fun y=>s.size - y.1) (0,[]) (vU rfl (by simp +decide only[go_sem,nl,wm]) (by simp[qA])) ⟨oa,oh,oh⟩ ?_
 rintro⟨a,o⟩ ⟨h1,h2,h3⟩;simp only at h1 h2 h3 ⊢;by_cases ha:a<s.size
 ·have t1:decide ((a:Int)<(s.size:Int))=true:=by grind
  have hF:=V7 s a ha hs;have qH:s.data.toList.drop a≠ []:=ot;cases hf:lL (s.data.toList.drop a)with
  | none=>
   have e:ZU s a=(-1,0):=by unfold ZU;rw[hf]
   rw[e]at hF;rw[fU qH hf]at h3;have QC:F3 s=false:=by unfold F3;rw[<-hv,h3];rfl
   have Jp:G3 s= []:=by unfold G3;rw[h3];rfl
   (repeat' first|(first|refine qC ?_|refine kx hF ?_|apply kU);simp only[go_sem,t1]|apply kh<;>intro qe)
   refine ze 2 (dv (.sl 1 [])) oe ?_;apply qb;simp +decide only[go_sem];rw[Jp,QC];rfl
  | some d=>
   obtain⟨p,k⟩:=d;have hw:=Zv hf;have e:ZU s a=((p:Int),(k:Int)):=by unfold ZU;rw[hf]
   rw[e]at hF;rw[dI hf]at h3;have t2:((k:Int)==0)=false:=og;have fy:k<=s.size - a:=oA;have u1:aD .i64 ((a:Int)+(k:Int))=((a+k:Nat):Int):=by rw[wrap_i64 oa oa];rfl
   (repeat' first|(first|refine qC ?_|refine kx hF ?_|apply kU);simp +decide only[go_sem,t1,t2]|apply kh<;>intro qe|((first|apply qy|apply qx)<;>(intro qe;simp +decide only[go_sem,qe,t1,t2,u1])))
   have hl:((nl o).length+1)*8<=140737488355328:=by simp[nl];omega
   refine⟨hl,?_⟩
   (repeat'(first|apply qk|apply qm|((first|refine qC ?_|apply qt|apply qv);simp +decide only[go_sem,u1])|(apply qW;(simp +decide only[go_sem,u1];rfl);all_goals(intro qe;try exact kz qe))))
   refine⟨(a+k,o++[p]),⟨oz,ot,?_⟩,oz,vU rfl (by simp +decide only[go_sem,UW]) (by simp[qA])⟩;simp only;rw[h3,List.drop_drop];cases ci (s.data.toList.drop (a+k))<;>simp
 ·have t1:decide ((a:Int)<(s.size:Int))=false:=by grind
  (repeat' first|(first|refine qC ?_|apply kU);simp only[go_sem,t1]|apply kh<;>intro qe)
  refine ze 2 (dv (.sl 1 (ints (nl o)))) oe ?_;apply qb;simp +decide only[go_sem];have hn:s.data.toList.drop a= []:=ot;rw[hn,tW]at h3;simp at h3;have Jp:G3 s=nl o:=by unfold G3;rw[h3];rfl
  have QC:F3 s=true:=by unfold F3;rw[<-hv,h3];rfl
  rw[Jp,QC]
def zG{α:Type}(q:α->Bool)(l:List α):Int:=if l.any q then((l.findIdx q:Nat):Int)else -1
def z8{q:α->Bool}{l:List α}{x:α}(hx:l[k]? =some x)(hi: ∀y∈l.take k,q y=false)(h:q x=true):zG q l=(k:Int):=by
 have hk:=(wg.1 hx).1;have VX:l.any q=true:=og;have hf:l.findIdx q=k:=by rw[List.findIdx_eq hk];refine⟨by obtain⟨h1,h2⟩:=wg.1 hx;rw[h2];exact h,fun j hj=>?_⟩;exact hi _ (yM.2 ⟨j,by rw[jt hj];exact wa oa⟩)
 rw[zG,ae VX,hf]
def z7{q:α->Bool}{l:List α}(hi: ∀y∈l,q y=false):zG q l= -1:=by rw[zG,j7];simpa using hi
def cn(q:α->Bool)(l:List α):decide ((0:Int)<=zG q l)=l.any q:=by
 unfold zG;split
 ·grind
 ·grind
def lQ(s:ByteArray):Bool:=s.data.toList.any fun b=>Bl b.toNat
def pH(n:Nat):(decide (((n:Nat):Int)<32)||(((n:Nat):Int)==127))=Bl n:=by rw[y8];simp[Bl];omega
def vm(s:ByteArray):Bool:= !(s.size==0)&&(!decide ((32:Int)<(s.size:Int))&&(!lQ s&&F3 s))
theorem sx(s:ByteArray):s.data.toList.length=s.size:=oh
theorem gE{q:α->Bool}{l:List α}(h: ∀x∈l.take l.length,q x=false):l.any q=false:=og
theorem xJ{q:α->Bool}{l:List α}{x:α}(hx:l[k]? =some x)(h:q x=true):l.any q=true:=og
def IY: ∀(n:Nat) (bs:List UInt8) (l:List Nat),bs.length<=n->ci bs=some l->l.length<=bs.length
 | n,[],l,_,h=>by rw[tW]at h;injection h with h;subst h;simp
 | 0,b::r,l,hn,_=>by simp at hn
 | n+1,b::r,l,hn,h=>by
  cases hf:lL (b::r)with
  | none=>rw[fU oh hf]at h;cases h
  | some d=>
   obtain⟨p,k⟩:=d;have hw:=Zv hf;rw[dI hf]at h;cases hr:ci ((b::r).drop k)with
   | none=>grind
   | some q=>
    rw[hr]at h;injection h with h;subst h
    have ih:=IY n _ q (by simp at hn ⊢;omega) hr;simp at ih hw ⊢;omega
def tQ(s:ByteArray)(hs:s.size<=1048576):DCalls pP 94 [dv (ls s)] (dv (lb (vm s))):=by
 have qi:=qo;have vo:=sx s;have hP:=AJ s hs;refine kd (N:=38) (rs:=[.tmp 2]) func94 ?_
 (repeat' first|(first|refine qC ?_|apply kU);simp only[go_sem]|apply kh<;>intro qe)
 refine vq s.data.toList (fun k=>kn 38 [(0,dv (ls s)),(3,dv (li k))] qA) (fun k=>∀e∈s.data.toList.take k,Bl e.toNat=false) oa kl oh ?_ ?_
 ·intro k e he hk hm qs qf hw hi;rw[vo]at qf;have ht:=pH e.toNat;rcases wv (decide (((e.toNat:Nat):Int)<32))with t1|t1
  ·have hc:Bl e.toNat=true:=by grind
   have hB:lQ s=true:=xJ he hc
   (repeat' first|(first|refine qC ?_|apply kU|apply qb);simp only[go_sem,qf,he,t1,wO]|apply kh<;>intro qe)
   simp[vm,hB]
  ·rcases wv (((e.toNat:Nat):Int)==127)with t2|t2
   ·have hc:Bl e.toNat=true:=by grind
    have hB:lQ s=true:=xJ he hc
    (repeat' first|(first|refine qC ?_|apply kU|apply qb);simp only[go_sem,qf,he,t1,t2,wO]|apply kh<;>intro qe)
    simp[vm,hB]
   ·have hc:Bl e.toNat=false:=by grind
    (repeat' first|(first|refine qC ?_|apply kU|apply qb);simp only[go_sem,qf,hw,he,t1,t2,wO]|apply kh<;>intro qe)
    exact⟨qG qs hi hc,kl⟩
 ·intro qf hi;rw[vo]at qf ⊢;have hB:lQ s=false:=gE hi;cases QC:F3 s
  ·rw[QC]at hP
   (repeat' first|(first|refine qC ?_|refine kx hP ?_|apply kU|apply qb);simp only[go_sem,qf]|apply kh<;>intro qe)
   simp[vm,QC]
  ·rw[QC]at hP;rcases wv (decide ((1:Int)<=(s.size:Int)))with t1|t1
   ·rcases wv (decide ((s.size:Int)<=32))with t2|t2
    ·(repeat' first|(first|refine qC ?_|refine kx hP ?_|apply kU|apply qb);simp only[go_sem,qf,t1,t2]|apply kh<;>intro qe)
     have e0:(s.size==0)=false:=og;have e1:decide ((32:Int)<(s.size:Int))=false:=og;simp only[vm,QC,hB,e0,e1];rfl
    ·(repeat' first|(first|refine qC ?_|refine kx hP ?_|apply kU|apply qb);simp only[go_sem,qf,t1,t2]|apply kh<;>intro qe)
     have e1:decide ((32:Int)<(s.size:Int))=true:=og;simp only[vm,QC,hB,e1];simp
   ·(repeat' first|(first|refine qC ?_|refine kx hP ?_|apply kU|apply qb);simp only[go_sem,qf,t1]|apply kh<;>intro qe)
    have e0:(s.size==0)=true:=og;simp only[vm,QC,hB,e0];rfl
def S5(s:ByteArray):Bool:=s.data.toList.any fun b=>((b.toNat:Nat):Int)==32||((b.toNat:Nat):Int)==45
def Zu(s:ByteArray):Bool:=vm s&& !S5 s
def Ou(s:ByteArray)(hs:s.size<=1048576):DCalls pP 229 [dv (ls s)] (dv (lb (Zu s))):=by
 have qi:=qo;have vo:=sx s;refine kd (N:=22) (rs:=[.tmp 2]) func229 ?_
 (repeat' first|(first|refine qC ?_|apply kU);simp only[go_sem]|apply kh<;>intro qe)
 refine vq s.data.toList (fun k=>kn 22 [(0,dv (ls s)),(3,dv (li k))] qA) (fun k=>∀e∈s.data.toList.take k,(((e.toNat:Nat):Int)==32||((e.toNat:Nat):Int)==45)=false) oa kl oh ?_ ?_
 ·intro k e he hk hm qs qf hw hi;rw[vo]at qf;rcases wv (((e.toNat:Nat):Int)==32)with t1|t1
  ·have hB:S5 s=true:=xJ he (by rw[t1];rfl)
   (repeat' first|(first|refine qC ?_|apply kU|apply qb);simp only[go_sem,qf,he,t1,wO]|apply kh<;>intro qe)
   simp[Zu,hB]
  ·rcases wv (((e.toNat:Nat):Int)==45)with t2|t2
   ·have hB:S5 s=true:=xJ he (by rw[t1,t2];rfl)
    (repeat' first|(first|refine qC ?_|apply kU|apply qb);simp only[go_sem,qf,he,t1,t2,wO]|apply kh<;>intro qe)
    simp[Zu,hB]
   ·(repeat' first|(first|refine qC ?_|apply kU|apply qb);simp only[go_sem,qf,hw,he,t1,t2,wO]|apply kh<;>intro qe)
    exact⟨qG qs hi (by rw[t1,t2];rfl),kl⟩
 ·intro qf hi;rw[vo]at qf ⊢;have hB:S5 s=false:=gE hi
  (repeat' first|(first|refine qC ?_|refine kx (tQ s hs) ?_|apply kU|apply qb);simp only[go_sem,qf]|apply kh<;>intro qe)
  simp[Zu,hB]
def Qh(s:ByteArray):Int:=if(200:Int)<(s.size:Int)then 5 else if F3 s=false then 3 else if lQ s=true then 3 else 0
def IT(s:ByteArray):DCalls pP 84 [dv (ls s)] (dv (li (Qh s))):=by
 have qi:=qo;refine kd (N:=34) (rs:=[.tmp 2]) func84 ?_;cases h1:decide ((200:Int)<(s.size:Int));rotate_left
 ·(repeat' first|(first|refine qC ?_|apply kU|apply qb);simp only[go_sem,h1]|apply kh<;>intro qe)
  simp only[aj]at h1;simp[Qh,h1]
 have hs:s.size<=200:=og;have hn: ¬(200:Int)<(s.size:Int):=oa;have hP:=AJ s oa;cases QC:F3 s
 ·rw[QC]at hP
  (repeat' first|(first|refine qC ?_|refine kx hP ?_|apply kU|apply qb);simp only[go_sem,h1]|apply kh<;>intro qe)
  simp[Qh,hn,QC]
 rw[QC]at hP;obtain⟨l,hl⟩: ∃l,ci s.data.toList=some l:=by have:=oT s.data.toList;unfold F3 at QC;rw[QC]at this;exact Option.isSome_iff_exists.1 this
 have hB:lQ s=l.any Bl:=(JF _ _ l (wl _) hl).symm;have Db:G3 s=nl l:=by unfold G3;rw[hl];rfl
 rw[Db]at hP;have A4:l.length<=1000000:=by have:=IY _ _ l (wl _) hl;simp at this;omega
 have sa:(ints (nl l)).length=l.length:=by simp[nl]
 (repeat' first|(first|refine qC ?_|refine kx hP ?_|apply kU);simp only[go_sem,h1]|apply kh<;>intro qe)
 refine vq l (fun k=>kn 34 [(3,dv (.sl 1 (ints (nl l)))),(5,dv (li k))] qA) (fun k=>∀e∈l.take k,Bl e=false) oa kl oh ?_ ?_
 ·intro k e he hk hm qs qf hw hi;have ht:=pH e;have hx:(ints (nl l))[k]? =some [li (e:Int)]:=by simp[nl,he]
  rcases wv (decide (((e:Nat):Int)<32))with t1|t1
  ·have hc:Bl e=true:=by grind
   have hB':lQ s=true:=og
   (repeat' first|(first|refine qC ?_|apply kU|apply qb);simp only[go_sem,sa,qf,hx,t1]|apply kh<;>intro qe)
   simp[Qh,hn,QC,hB']
  ·rcases wv (((e:Nat):Int)==127)with t2|t2
   ·have hc:Bl e=true:=by grind
    have hB':lQ s=true:=og
    (repeat' first|(first|refine qC ?_|apply kU|apply qb);simp only[go_sem,sa,qf,hx,t1,t2]|apply kh<;>intro qe)
    simp[Qh,hn,QC,hB']
   ·have hc:Bl e=false:=by grind
    (repeat' first|(first|refine qC ?_|apply kU|apply qb);simp only[go_sem,sa,qf,hw,hx,t1,t2]|apply kh<;>intro qe)
    exact⟨qG qs hi hc,kl⟩
 ·intro qf hi;have hB':lQ s=false:=og
  (repeat' first|(first|refine qC ?_|apply kU|apply qb);simp only[go_sem,sa,qf]|apply kh<;>intro qe)
  simp[Qh,hn,QC,hB']
def qdM(x y z:Int):Int:=if x≠0 then x else if y≠0 then y else z
def vR{α:Type}(q:α->Bool)(l:List α):Nat->Nat
 | 0=>0
 | n+1=>match l[n]? with
  | some x=>if q x=true then vR q l n else n+1
  | none=>0
def vF{α:Type}(q:α->Bool)(l:List α)(x:α):List α:=l.take (vR q l l.length)++x::l.drop (vR q l l.length)
def xA{α:Type}(q:α->Bool)(l:List α): ∀n,vR q l n<=n
 | 0=>by simp[vR]
 | n+1=>by
  simp only[vR];split
  ·split
   ·exact Nat.le_succ_of_le (xA q l n)
   ·omega
  ·omega
def rP{α:Type}(q:α->Bool)(l:List α): ∀n,n<=l.length->∀k,vR q l n<=k->k<n->∀x,l[k]? =some x->q x=true
 | 0,_,k,_,hk,_,_=>ak hk (Nat.not_lt_zero _)
 | n+1,hn,k,h1,hk,x,hx=>by
  have e:l[n]? =some l[n]:=oh;simp only[vR,e]at h1;by_cases h:q l[n]=true
  ·rw[ae h]at h1;by_cases Jr:k=n
   ·grind
   ·exact rP q l n oa k h1 oa x hx
  ·grind
def xB{α:Type}(q:α->Bool)(l:List α): ∀n,n<=l.length->∀k,vR q l n=k+1->∃x,l[k]? =some x/\q x=false
 | 0,_,k,h=>by simp[vR]at h
 | n+1,hn,k,h1=>by
  have e:l[n]? =some l[n]:=oh;simp only[vR,e]at h1;by_cases h:q l[n]=true
  ·rw[ae h]at h1;exact xB q l n oa k h1
  ·grind
def bL(q:α->Bool)(l:List α)(x:α):(vF q l x).Perm (x::l):=by unfold vF;refine(List.perm_middle).trans ?_;rw[yf]
def rA(q:α->Bool)(l:List α)(x:α):(vF q l x).length=l.length+1:=by simpa using (bL q l x).length_eq
def putBack_mem{q:α->Bool}{l:List α}{x y:α}:y∈vF q l x↔y=x\/y∈l:=by rw[(bL q l x).mem_iff];simp
def tU{α:Type}(le:α->α->Prop)(q:α->Bool)(l:List α)(x:α)(tr: ∀a b c,le a b->le b c->le a c)
  (h1: ∀y∈l,q y=true->le x y) (h2: ∀y∈l,q y=false->le y x) (hs:l.Pairwise le):(vF q l x).Pairwise le:=by
 unfold vF;have vh:=xA q l l.length;have hd: ∀y∈l.drop (vR q l l.length),le x y:=fun y hy=>by obtain⟨k,hk⟩:=jI hy;rw[yl]at hk;have qf:vR q l l.length+k<l.length:=og;exact h1 y (ww hk) (rP q l _ (wl _) _ oa qf y hk)
 have ht: ∀y∈l.take (vR q l l.length),le y x:=fun y hy=>by
  obtain⟨k,hk⟩:=jI hy;rw[yx]at hk;split at hk
  ·rename_i hkb;obtain⟨m,hm⟩: ∃m,vR q l l.length=m+1:=⟨vR q l l.length - 1,oa⟩;obtain⟨z,hz,hq⟩:=xB q l _ (wl _) m hm;have hzx:=h2 z (ww hz) hq;by_cases e:k=m
   ·grind
   ·refine tr _ _ _ ?_ hzx;obtain⟨bw,ek⟩:=wg.1 hk;obtain⟨EZ,em⟩:=wg.1 hz;rw[<-ek,<-em];exact yH.1 hs k m bw EZ oa
  ·cases hk
 have lI:(l.take (vR q l l.length)++l.drop (vR q l l.length)).Pairwise le:=og;obtain⟨p1,p2,p3⟩:=y9.1 lI;refine y9.2 ⟨p1,yy.2 ⟨hd,p2⟩,fun a ha b hb=>?_⟩;rcases wJ.1 hb with rfl|hb
 ·grind
 ·grind
structure Unt where
 graph:ByteArray
 segs:List Int
 deriving DecidableEq
variable {us:List Unt}
def qe9:Unt:=⟨ye,[]⟩
def bZ(us:List Unt)(b:Int):Unt:=(us[b.toNat]?).getD qe9
def cO(w:List Int)(u:Unt):Bool:=decide (u.segs <+: w)
def vQ(us:List Unt)(w:List Int):Nat->Int
 | 0=> -1
 | n+1=>match us[n]? with
  | some u=>if(cO w u&&(decide (vQ us w n<0)||decide ((bZ us (vQ us w n)).segs.length<u.segs.length)))=true then(n:Int)else vQ us w n
  | none=>vQ us w n
def pS(us:List Unt)(w:List Int): ∀n,n<=us.length-> -1<=vQ us w n/\vQ us w n<n
 | 0,_=>by simp[vQ]
 | n+1,hn=>by obtain⟨h1,h2⟩:=pS us w n oa;have e:us[n]? =some us[n]:=oh;simp only[vQ,e];split<;>omega
def nD(us:List Unt)(w:List Int): ∀n,n<=us.length->0<=vQ us w n->∃u,us[(vQ us w n).toNat]? =some u/\u.segs <+: w
 | 0,_,h=>by simp[vQ]at h
 | n+1,hn,h=>by
  have e:us[n]? =some us[n]:=oh;simp only[vQ,e]at h ⊢;split at h
  ·rename_i hc;rw[ae hc];simp only[we]at hc;exact⟨us[n],oh,by simpa[cO]using hc.1⟩
  ·rename_i hc;rw[j7 hc];exact nD us w n oa h
def Q8(us:List Unt)(w:List Int):Nat->Nat->ByteArray->ByteArray×Int×Int
 | 0,_,s=>(s,0,0)
 | n+1,p,s=>if w.length<=p then(s,0,0)else
  if vQ us (w.drop p) us.length<0 then(ye,(p:Int),20)else
   Q8 us w n (p+(bZ us (vQ us (w.drop p) us.length)).segs.length) (s++(bZ us (vQ us (w.drop p) us.length)).graph)
def ZJ(us:List Unt)(w:List Int):ByteArray×Int×Int:=
 if w.length=0 then(ye,0,4)else if 24<w.length then(ye,0,5)else Q8 us w w.length 0 ye
structure OkU(us:List Unt):Prop where
 segs: ∀u∈us,u.segs≠ []
 graph: ∀u∈us,u.graph.size≠0
def Aq{w:List Int}(h: ¬vQ us w us.length<0): ∃u,us[(vQ us w us.length).toNat]? =some u/\bZ us (vQ us w us.length)=u/\u∈us/\u.segs <+: w:=by obtain⟨u,h1,h2⟩:=nD us w us.length (wl _) oa;exact⟨u,h1,by unfold bZ;rw[h1];rfl,ww h1,h2⟩
def aF(s:ByteArray):Bool:=F3 s&& !lQ s
def LU{b:ByteArray}(ha:aF a=true)(hb:aF b=true):aF (a++b)=true:=by
 simp only[aF,we,jz]at*
 have e:(a++b).data.toList=a.data.toList++b.data.toList:=oh;refine⟨?_,?_⟩
 ·unfold F3 at*
  rw[e];exact iT _ _ _ (wl _) ha.1 hb.1
 ·unfold lQ at*
  rw[e,List.any_append,ha.2,hb.2];rfl
def Au(h:aF s=true)(hs:s.size<=200):Qh s=0:=by simp only[aF,we,jz]at h;unfold Qh;rw[j7 oa,h.1,h.2];rfl
def Hr(h:vm s=true):aF s=true/\s.size<=32/\s.size≠0:=by simp only[vm,we,jz,az,aA]at h;exact⟨by simp[aF,h.2.2.1,h.2.2.2],oa,h.1⟩
theorem gi:aF ye=true:=oo
def p8{us:List Unt}(hu: ∀u∈us,aF u.graph=true)(w:List Int): ∀(n p:Nat) (s:ByteArray),aF s=true->aF (Q8 us w n p s).1=true
 | 0,p,s,h=>h
 | n+1,p,s,h=>by
  simp only[Q8];split
  ·exact h
  ·split
   ·exact gi
   ·refine p8 hu w n _ _ (LU h ?_);unfold bZ;cases e:us[(vQ us (List.drop p w) us.length).toNat]? with
    | none=>exact gi
    | some u=>grind
def DN(hu: ∀u∈us,aF u.graph=true)(w:List Int):aF (ZJ us w).1=true:=by
 unfold ZJ;split
 ·exact gi
 ·split
  ·exact gi
  ·exact p8 hu w _ _ _ gi
structure Spn where
 fr:Int
 tg:Int
deriving DecidableEq
structure Nte where
 id:Int
 tier:Int
 par:Int
 fr:Int
 tg:Int
 rank:Int
 txt:ByteArray
deriving DecidableEq
variable {m n:Nte}{l:List Nte}{G:Nte->Bool}
structure Tir where
 name:ByteArray
 kind:Int
 role:Int
 par:Int
deriving DecidableEq
variable {ts:List Tir}
structure Rcd where
 id:Int
 name:ByteArray
 len:Int
 day:Int
 sp:List Int
structure Dcm where
 rc:Rcd
 tiers:List Tir
 notes:List Nte
variable {d d':Dcm}
def Spn.enc(s:Spn):List C:=[li s.fr,li s.tg]
def Nte.enc(n:Nte):List C:=[li n.id,li n.tier,li n.par,li n.fr,li n.tg,li n.rank,ls n.txt]
def Tir.enc(t:Tir):List C:=[ls t.name,li t.kind,li t.role,li t.par]
def Spn.row(s:Spn):List T:=[.c (li s.fr),.c (li s.tg)]
def Nte.row(n:Nte):List T:=[.c (li n.id),.c (li n.tier),.c (li n.par),.c (li n.fr),.c (li n.tg),.c (li n.rank),.c (ls n.txt)]
def Tir.row(t:Tir):List T:=[.c (ls t.name),.c (li t.kind),.c (li t.role),.c (li t.par)]
def Rcd.row(r:Rcd):List T:=[.c (li r.id),.c (ls r.name),.c (li r.len),.c (li r.day),.c (.sl 1 (ints r.sp))]
def Rcd.enc(r:Rcd):List C:=[li r.id,ls r.name,li r.len,li r.day,.sl 1 (ints r.sp)]
def Dcm.row(d:Dcm):List T:=[.c (li d.rc.id),.c (ls d.rc.name),.c (li d.rc.len),.c (li d.rc.day),.c (.sl 1 (ints d.rc.sp)),.c (.sl 4 (d.tiers.map Tir.enc)),.c (.sl 7 (d.notes.map Nte.enc))]
def fi:Nte:=⟨0,0,0,0,0,0,⟨#[]⟩⟩
def qI(l:List Nte)(id:Int):Nte×Bool:=match l.find? (fun n=>n.id==id)with
 | some n=>(n,true)
 | none=>(fi,false)
def bC(k:Int):Bool:=k==0||k==1||k==2
def QJ(ts:List Tir)(i:Int):Option Tir:=if 0<=i then ts[i.toNat]? else none
def qdf(ts:List Tir)(i:Int):Bool:=match QJ ts i with
 | some t=>bC t.kind
 | none=>false
def Nte.span(n:Nte):Spn:=⟨n.fr,n.tg⟩
theorem V8{id:Int}(h:l.find? (fun n=>n.id==id)=some n):n∈l/\n.id=id:=og
theorem qeb{id:Int}(h:l.find? (fun n=>n.id==id)=none): ∀n∈l,n.id≠id:=og
def zL(h:l.Pairwise (fun a b=>a.id<b.id)): ∀{a b:Nte},a∈l->b∈l->a.id=b.id->a=b:=by
 induction l with
 | nil=>simp
 | cons x l ih=>
  obtain⟨h1,h2⟩:=yy.1 h;intro a b ha hb e;rcases wJ.1 ha with ea|ha'
  ·grind
  ·grind
def vV(d:Dcm)(t p:Int):List Nte:=d.notes.filter fun n=>n.tier==t&&n.par==p
def ovl(l:List Nte):Prop:=∃(i k:Nat) (a b:Nte),k<i/\l[i]? =some a/\l[k]? =some b/\a.fr<b.tg/\b.fr<a.tg
def rnk(l:List Nte):Prop:=∀m:Nat,m<l.length->∃n∈l,n.rank=(m:Int)
structure PlcA(d:Dcm)(n:Nte)(t:Tir):Prop where
 root:t.kind=0->n.par=0
 par:t.kind≠0->(qI d.notes n.par).2=true/\(qI d.notes n.par).1.tier=t.par
 flat:bC t.kind=false->n.fr=0/\n.tg=0
 right:bC t.kind=true->n.fr<n.tg
 rank:n.rank≠0->t.kind=3
 rng:bC t.kind=true->0<=n.fr
 top:t.kind=0->n.tg<=d.rc.len
 inn:bC t.kind=true->t.kind≠0->(qI d.notes n.par).1.fr<=n.fr/\n.tg<=(qI d.notes n.par).1.tg
 rank0:0<=n.rank
 mx:bC t.kind=true->n.tg<=86400000
structure SibA(cov:List Nte->Nte->Prop)(d:Dcm)(n:Nte)(t:Tir):Prop where
 ovl:bC t.kind=true->¬ovl (vV d n.tier n.par)
 cov:t.kind=1->cov (vV d n.tier n.par) (qI d.notes n.par).1
 rnk:t.kind=3->rnk (vV d n.tier n.par)
 lab:t.kind=4->(vV d n.tier n.par).length<=1
structure NtsA(cov:List Nte->Nte->Prop)(tx:ByteArray->Prop)(d:Dcm):Prop where
 up:d.notes.Pairwise (fun a b=>a.id<b.id)
 id: ∀n∈d.notes,1<=n.id/\n.id<=1099511627776
 note: ∀n∈d.notes,tx n.txt/\∃t,QJ d.tiers n.tier=some t/\PlcA d n t/\SibA cov d n t
def dE(h:l.Pairwise (fun a b=>a.id<b.id)):l.Nodup:=h.imp fun {a b} h e=>by rw[e]at h;omega
def nV: ∀{l m:List Nte},l.Pairwise (fun a b=>a.id<b.id)->m.Pairwise (fun a b=>a.id<b.id)->(∀n,n∈l↔n∈m)->l=m
 | [],m,_,_,h=>by
  cases m with
  | nil=>rfl
  | cons b m=>exact ak ((h b).2 oh) oh
 | a::l,[],_,_,h=>ak ((h a).1 oh) oh
 | a::l,b::m,h1,h2,h=>by
  have g1:=yy.1 h1;have g2:=yy.1 h2;have e:a=b:=og;subst e;congr 1;refine nV g1.2 g2.2 fun n=>?_;have:=h n;simp only[wJ]at this;constructor
  ·grind
  ·grind
def zH(h:l.Pairwise (fun a b=>a.id<b.id))(hn:n∈l):qI l n.id=(n,true):=by
 unfold qI;cases e:l.find? (fun m=>m.id==n.id)with
 | none=>grind
 | some m=>
  obtain⟨h1,h2⟩:=V8 e;rw[zL h h1 hn h2]
def ZC(h:(qI l i).2=true):(qI l i).1∈l/\(qI l i).1.id=i:=by unfold qI at h ⊢;grind
def eu(h:d.notes.Pairwise (fun a b=>a.id<b.id))(t p:Int):(vV d t p).Pairwise (fun a b=>a.id<b.id):=h.sublist List.filter_sublist
def mem_sibs{p:Int}:n∈vV d t p↔n∈d.notes/\n.tier=t/\n.par=p:=by simp[vV,and_assoc]
structure Cut(d:Dcm)(G:Nte->Bool):Prop where
 low: ∀n∈d.notes,∀p∈d.notes,n.par=p.id->G p=true->G n=true
 sib: ∀a∈d.notes,∀b∈d.notes,a.tier=b.tier->a.par=b.par->G a=G b
 al: ∀n∈d.notes,qdf d.tiers n.tier=true->G n=false
def Dcm.cut(d:Dcm)(G:Nte->Bool):Dcm:={ d with notes:=d.notes.filter fun n=> !G n }
def C1{t:Tir}(h:QJ ts i=some t):qdf ts i=bC t.kind:=by unfold qdf;rw[h]
def cut_mem:n∈(d.cut G).notes↔n∈d.notes/\G n=false:=by simp[Dcm.cut]
def H6(h:d.notes.Pairwise (fun a b=>a.id<b.id)):(d.cut G).notes.Pairwise (fun a b=>a.id<b.id):=h.sublist List.filter_sublist
def nn{p:Int}(h: ∀a∈d.notes,a.tier=t->a.par=p->G a=false):vV (d.cut G) t p=vV d t p:=by unfold vV Dcm.cut;rw[List.filter_filter];refine List.filter_congr fun a ha=>?_;grind
def np(h:d.notes.Pairwise (fun a b=>a.id<b.id))(hn:n∈d.notes)(hg:G n=false):qI (d.cut G).notes n.id=qI d.notes n.id:=by rw[zH h hn,zH (H6 h) (cut_mem.2 ⟨hn,hg⟩)]
def NtsA.cut{cov:List Nte->Nte->Prop}{tx:ByteArray->Prop}(H:NtsA cov tx d)(C:Cut d G):NtsA cov tx (d.cut G):=by
 refine⟨H6 H.up,fun n hn=>H.id n (cut_mem.1 hn).1,fun n hn=>?_⟩;obtain⟨hn,hg⟩:=cut_mem.1 hn;obtain⟨h1,t,ht,hp,hs⟩:=H.note n hn;have Ck:vV (d.cut G) n.tier n.par=vV d n.tier n.par:=nn fun a ha e1 e2=>by rw[C.sib a ha n hn e1 e2];exact hg
 have HF:t.kind≠0->qI (d.cut G).notes n.par=qI d.notes n.par:=fun hk=>by
  obtain⟨p1,p2⟩:=ZC (hp.par hk).1;rw[<-p2];refine np H.up p1 ?_;cases e:G (qI d.notes n.par).1 with
  | false=>rfl
  | true=>rw[C.low n hn _ p1 p2.symm e]at hg;cases hg
 refine⟨h1,t,ht,⟨hp.root,fun hk=>by rw[HF hk];exact hp.par hk,hp.flat,hp.right,hp.rank,hp.rng,hp.top,fun ha hk=>by rw[HF hk];exact hp.inn ha hk,hp.rank0,hp.mx⟩,⟨fun h=>by rw[Ck];exact hs.ovl h,fun h=>?_,fun h=>by rw[Ck];exact hs.rnk h,fun h=>by rw[Ck];exact hs.lab h⟩⟩;rw[Ck,HF oa];exact hs.cov h
def Dcm.withN(d:Dcm)(L:List Nte):Dcm:={ d with notes:=L }
structure Put(d:Dcm)(w tm tg:Int)(M Gs L:List Nte):Prop where
 up:L.Pairwise (fun a b=>a.id<b.id)
 mem: ∀n,n∈L↔n∈d.notes\/n∈M\/n∈Gs
 mup:M.Pairwise (fun a b=>a.id<b.id)
 mo: ∀(k:Nat) m,M[k]? =some m->m.tier=tm/\m.par=w/\m.rank=k/\m.fr=0/\m.tg=0
 go: ∀g∈Gs,g.tier=tg/\g.rank=0/\g.fr=0/\g.tg=0/\∃m∈M,g.par=m.id
 one: ∀g∈Gs,∀g'∈Gs,g.par=g'.par->g=g'
 idn: ∀n,n∈M\/n∈Gs->1<=n.id/\n.id<=1099511627776
 new: ∀n∈d.notes,∀m∈M,n.id≠m.id
 none: ∀n∈d.notes,n.tier=tm->n.par≠w
 ne:tm≠tg
namespace Put
variable {cov:List Nte->Nte->Prop} {tx:ByteArray->Prop} {d:Dcm} {w tm tg:Int} {M Gs L:List Nte} (Q:Put d w tm tg M Gs L) (H:NtsA cov tx d)
include Q
theorem mem_m(h:m∈M):m.tier=tm/\m.par=w/\0<=m.rank/\m.fr=0/\m.tg=0:=by obtain⟨k,hk⟩:=yM.1 h;have:=Q.mo k m hk;omega
theorem get_m(h:m∈L):qI (d.withN L).notes m.id=(m,true):=zH Q.up h
include H
theorem get_old(hn:n∈d.notes):qI (d.withN L).notes n.id=qI d.notes n.id:=by rw[zH H.up hn];exact zH Q.up ((Q.mem n).2 (.inl hn))
theorem nobelow(hn:n∈d.notes)(hm:m∈M):n.par≠m.id:=by
 intro e;obtain⟨_,t,ht,hp,_⟩:=H.note n hn;by_cases hk:t.kind=0
 ·have h1:=hp.root hk;have h2:=(Q.idn m (.inl hm)).1;omega
 ·obtain⟨p1,p2⟩:=ZC (hp.par hk).1;exact Q.new _ p1 m hm (by rw[p2,e])
theorem sibs_old{p:Int}(h1:t=tm->p≠w)(h2:t=tg->∀m∈M,p≠m.id):vV (d.withN L) t p=vV d t p:=by
 refine nV (eu (d:=d.withN L) Q.up t p) (eu H.up t p) fun n=>?_;rw[mem_sibs,mem_sibs];have:n∈(d.withN L).notes↔n∈L:=Iff.rfl;rw[this,Q.mem n];constructor
 ·rintro⟨h|h|h,e1,e2⟩
  ·grind
  ·have:=Q.mem_m h;exact ak (e2▸this.2.1) (h1 (by rw[<-e1];exact this.1))
  ·obtain⟨g1,_,_,_,m,hm,g2⟩:=Q.go n h;exact ak (by rw[<-e2,g2]) (h2 (by rw[<-e1];exact g1) m hm)
 ·grind
theorem sibs_m:vV (d.withN L) tm w=M:=by
 refine nV (eu (d:=d.withN L) Q.up tm w) Q.mup fun n=>?_;rw[mem_sibs];have:n∈(d.withN L).notes↔n∈L:=Iff.rfl;rw[this,Q.mem n];constructor
 ·rintro⟨h|h|h,e1,e2⟩
  ·exact ak e2 (Q.none n h e1)
  ·exact h
  ·have:=(Q.go n h).1;exact ak (e1.symm.trans this) Q.ne
 ·intro h;have:=Q.mem_m h;exact⟨.inr (.inl h),this.1,this.2.1⟩
theorem sibs_g{g:Nte}(hg:g∈Gs):vV (d.withN L) tg g.par= [g]:=by
 obtain⟨g1,_,_,_,m,hm,g2⟩:=Q.go g hg;refine nV (eu (d:=d.withN L) Q.up tg g.par) (List.pairwise_singleton ..) fun n=>?_;rw[mem_sibs];have:n∈(d.withN L).notes↔n∈L:=Iff.rfl;rw[this,Q.mem n,yp];constructor
 ·rintro⟨h|h|h,e1,e2⟩
  ·exact ak (by rw[e2,g2]) (Q.nobelow H h hm)
  ·exact ak ((Q.mem_m h).1.symm.trans e1) Q.ne
  ·exact Q.one n h g hg e2
 ·grind
theorem nts{tM tG:Tir}(hM:QJ d.tiers tm=some tM)(hMk:tM.kind=3)(hG:QJ d.tiers tg=some tG)(qd8:tG.kind=4)(hGp:tG.par=tm)(hw:(qI d.notes w).2=true/\(qI d.notes w).1.tier=tM.par)
  (qdR: ∀n,n∈M\/n∈Gs->tx n.txt):NtsA cov tx (d.withN L):=by
 have ka: ¬bC tM.kind=true:=by rw[hMk];decide
 have kb: ¬bC tG.kind=true:=by rw[qd8];decide
 obtain⟨w1,w2⟩:=ZC hw.1;have hgw:qI (d.withN L).notes w=qI d.notes w:=by have:=Q.get_old H w1;rwa [w2]at this
 refine⟨Q.up,fun n hn=>?_,fun n hn=>?_⟩
 ·rcases(Q.mem n).1 hn with h|h
  ·exact H.id n h
  ·exact Q.idn n h
 rcases(Q.mem n).1 hn with h|h|h
 ·obtain⟨h1,t,ht,hp,hs⟩:=H.note n h;have HF:t.kind≠0->qI (d.withN L).notes n.par=qI d.notes n.par:=fun hk=>by obtain⟨p1,p2⟩:=ZC (hp.par hk).1;rw[<-p2];exact Q.get_old H p1
  have Ck:vV (d.withN L) n.tier n.par=vV d n.tier n.par:=Q.sibs_old H (fun e=>Q.none n h e) fun _ m hm=>Q.nobelow H h hm;refine⟨h1,t,ht,⟨hp.root,fun hk=>by rw[HF hk];exact hp.par hk,hp.flat,hp.right,hp.rank,hp.rng,hp.top,fun ha hk=>by rw[HF hk];exact hp.inn ha hk,hp.rank0,hp.mx⟩,⟨fun h=>by rw[Ck];exact hs.ovl h,fun h=>?_,fun h=>by rw[Ck];exact hs.rnk h,fun h=>by rw[Ck];exact hs.lab h⟩⟩;rw[Ck,HF oa];exact hs.cov h
 ·obtain⟨m1,m2,m3,m4,m5⟩:=Q.mem_m h;refine⟨qdR n (.inl h),tM,by rw[m1];exact hM,⟨fun e=>oa,fun _=>(by rw[m2,hgw];exact hw),fun _=>⟨m4,m5⟩,fun e=>ak e ka,fun _=>hMk,fun e=>ak e ka,fun e=>oa,fun e=>ak e ka,m3,fun e=>ak e ka⟩,
   ⟨fun e=>ak e ka,fun e=>oa,fun _=>?_,fun e=>oa⟩⟩
  rw[m1,m2,Q.sibs_m H];exact fun k hk=>⟨M[k],yd hk,(Q.mo k _ (wa hk)).2.2.1⟩
 ·obtain⟨g1,g2,g3,g4,m,hm,g5⟩:=Q.go n h;have hgm:qI (d.withN L).notes n.par=(m,true):=by rw[g5];exact Q.get_m ((Q.mem m).2 (.inr (.inl hm)))
  refine⟨qdR n (.inr h),tG,by rw[g1];exact hG,⟨fun e=>oa,fun _=>by rw[hgm];exact⟨rfl,by rw[hGp];exact(Q.mem_m hm).1⟩,fun _=>⟨g3,g4⟩,fun e=>ak e kb,fun e=>ak g2 e,fun e=>ak e kb,fun e=>oa,fun e=>ak e kb,oa,fun e=>ak e kb⟩,
   ⟨fun e=>ak e kb,fun e=>oa,fun e=>oa,fun _=>?_⟩⟩
  rw[g1,Q.sibs_g H h];simp
end Put
def Z3{α:Type}(lt:α->α->Bool)(l:List α):List α:=l.foldl (fun ig x=>vF (fun y=>lt x y) ig x) []
def AU{α:Type}(lt:α->α->Bool): ∀(l ig:List α),(l.foldl (fun ig x=>vF (fun y=>lt x y) ig x) ig).Perm (ig++l)
 | [],ig=>oh
 | x::l,ig=>by rw[yE];refine(AU lt l _).trans ?_;refine((bL _ ig x).append_right l).trans ?_;exact(List.perm_middle).symm
def aL(lt:α->α->Bool)(l:List α):(Z3 lt l).Perm l:=AU lt l []
def insB_mem{lt:α->α->Bool}{l:List α}{x:α}:x∈Z3 lt l↔x∈l:=(aL lt l).mem_iff
def uA(lt:α->α->Bool)(l:List α):(Z3 lt l).length=l.length:=(aL lt l).length_eq
def rE{α:Type}(lt:α->α->Bool)(P:α->Prop)(tr: ∀a b c,P a->P b->P c->lt a b=true->lt b c=true->lt a c=true)(tot: ∀a b,P a->P b->a≠b->lt a b=true\/lt b a=true):
  ∀(l ig:List α),(∀x∈l,P x)->(∀x∈ig,P x)->(ig++l).Nodup->ig.Pairwise (fun a b=>lt a b=true)->(l.foldl (fun ig x=>vF (fun y=>lt x y) ig x) ig).Pairwise (fun a b=>lt a b=true)
 | [],ig,_,_,_,h=>h
 | x::l,ig,hl,ha,hn,h=>by
  rw[yE];have hx:=hl x oh;have qH: ∀y∈ig,y≠x:=fun y hy e=>by subst e;have:=(List.nodup_append.1 hn).2.2 y hy y oh;exact this rfl
  refine rE lt P tr tot l _ (fun y hy=>hl y (by simp[hy])) (fun y hy=>?_) ?_ ?_
  ·rcases putBack_mem.1 hy with rfl|hy
   ·exact hx
   ·grind
  ·have p:(vF (fun y=>lt x y) ig x++l).Perm (ig++x::l):=((bL _ ig x).append_right l).trans (List.perm_middle).symm;exact p.nodup_iff.2 hn
  ·have hs:ig.Pairwise (fun a b=>P a/\P b/\lt a b=true):=by refine List.Pairwise.imp_of_mem ?_ h;exact fun {a b} h1 h2 h3=>⟨ha a h1,ha b h2,h3⟩
   refine(tU (fun a b=>P a/\P b/\lt a b=true) _ ig x (fun a b c h1 h2=>⟨h1.1,h2.2.1,tr a b c h1.1 h1.2.1 h2.2.1 h1.2.2 h2.2.2⟩) (fun y hy h=>⟨hx,ha y hy,h⟩) (fun y hy h=>⟨ha y hy,hx,?_⟩) hs).imp fun h=>h.2.2;rcases tot x y hx (ha y hy) (Ne.symm (qH y hy))with h'|h'
   ·grind
   ·exact h'
def rF{lt:α->α->Bool}{l:List α}(tr: ∀a b c,a∈l->b∈l->c∈l->lt a b=true->lt b c=true->lt a c=true)(tot: ∀a b,a∈l->b∈l->a≠b->lt a b=true\/lt b a=true)(hn:l.Nodup):(Z3 lt l).Pairwise (fun a b=>lt a b=true):=
 rE lt (· ∈l) tr tot l [] (fun _ h=>h) (fun _ h=>by cases h) (by simpa using hn) List.Pairwise.nil
def rX(a b:Nte):Int:=qdM (Zo a.par b.par) (Zo a.fr b.fr) (Zo a.rank b.rank)
def Dcm.kidN(d:Dcm)(id t:Int):List Nte:=if 0<=t/\t<d.tiers.length then Z3 (fun x y=>decide (rX x y<0)) (d.notes.filter fun n=>n.tier==t&&n.par==id)else []
def Dcm.kids(d:Dcm)(id t:Int):List Int:=(d.kidN id t).map (·.id)
theorem Zz(d:Dcm)(id t:Int):d.kidN id t=if 0<=t/\t<d.tiers.length then Z3 (fun x y=>decide (rX x y<0)) (vV d t id)else []:=rfl
def Lo{id:Int}(ht:d'.tiers=d.tiers)(hs:vV d' t id=vV d t id):d'.kidN id t=d.kidN id t:=by rw[Zz,Zz,ht,hs]
def ZN{id:Int}(h:n∈d.kidN id t):n∈d.notes/\n.tier=t/\n.par=id:=by
 rw[Zz]at h;split at h
 ·exact mem_sibs.1 (insB_mem.1 h)
 ·cases h
def dN{id:Int}(ht:d'.tiers=d.tiers)(hs:vV d' t id=vV d t id):d'.kids id t=d.kids id t:=by unfold Dcm.kids;rw[Lo ht hs]
def Ln{id:Int}(h: ∀n∈d.notes,n.tier=t->n.par≠id):d.kids id t= []:=by
 have:d.kidN id t= []:=List.eq_nil_iff_forall_not_mem.2 fun n hn=>by obtain⟨h1,h2,h3⟩:=ZN hn;exact h n h1 h2 h3
 unfold Dcm.kids;rw[this];rfl
structure Plc where
 w:Int
 m:Int
 g:Int
def qu(l:List Nte)(id:Int):ByteArray:=(qI l id).1.txt
def Zr(d:Dcm)(id t:Int):ByteArray:=(d.kids id t).foldl (fun _ k=>qu d.notes k) ye
def Qa(d:Dcm)(p:Plc)(w:Int):List ByteArray:=(d.kids w p.m).map (qu d.notes)
def Ql(d:Dcm)(p:Plc)(w:Int):List ByteArray:=(d.kids w p.m).map fun k=>Zr d k p.g
def vK(d:Dcm)(p:Plc)(w:Int):Bool:=(qI d.notes w).2&&(qI d.notes w).1.tier==p.w
def vk(d:Dcm)(p:Plc)(w:Int):List ByteArray×List ByteArray:=if vK d p w=true then(Qa d p w,Ql d p w)else([],[])
structure TrsA(ts:List Tir)(p:Plc):Prop where
 par: ∀(i:Nat) t,ts[i]? =some t->t.kind=0\/(0<=t.par/\t.par<i)
 al: ∀(i:Nat) t,ts[i]? =some t->bC t.kind=true->t.kind≠0->qdf ts t.par=true
 m: ∃t,QJ ts p.m=some t/\t.kind=3/\t.par=p.w
 g: ∃t,QJ ts p.g=some t/\t.kind=4/\t.par=p.m
def zk{t:Tir}(h:QJ ts i=some t):0<=i/\ts[i.toNat]? =some t/\i<ts.length:=by unfold QJ at h;grind
def TrsA.par'{p:Plc}(H:TrsA ts p){t:Tir}(h:QJ ts i=some t):t.kind=0\/(0<=t.par/\t.par<i):=by
 obtain⟨h0,h1,_⟩:=zk h;rcases H.par _ t h1 with h|h
 ·omega
 ·omega
def TrsA.lt{p:Plc}(H:TrsA ts p):0<=p.w/\p.w<p.m/\p.m<p.g:=by obtain⟨t,h1,h2,h3⟩:=H.m;obtain⟨u,k1,k2,k3⟩:=H.g;have a:=H.par' h1;have b:=H.par' k1;omega
structure Gone(d:Dcm)(p:Plc)(w:Int)(G:Nte->Bool):Prop where
 kid: ∀n∈d.notes,n.tier=p.m->n.par=w->G n=true
 low: ∀n∈d.notes,∀q∈d.notes,n.par=q.id->G q=true->G n=true
 why: ∀n∈d.notes,G n=true->(n.tier=p.m/\n.par=w)\/∃q∈d.notes,n.par=q.id/\G q=true
namespace Gone
variable {cov:List Nte->Nte->Prop} {tx:ByteArray->Prop} {d:Dcm} {p:Plc} {w:Int} {G:Nte->Bool} (Q:Gone d p w G) (H:NtsA cov tx d) (T:TrsA d.tiers p)
include Q H T
theorem tiers_: ∀(k:Nat) (n:Nte),n.tier.toNat<k->n∈d.notes->G n=true->p.m<=n.tier/\(n.tier=p.m->n.par=w)/\qdf d.tiers n.tier=false
 | 0,n,hk,_,_=>oa
 | k+1,n,hk,hn,hg=>by
  obtain⟨_,t,ht,hp,_⟩:=H.note n hn;obtain⟨tm,m1,m2,m3⟩:=T.m;rcases Q.why n hn hg with⟨h1,h2⟩|⟨q,hq,h1,h2⟩
  ·refine⟨oa,fun _=>h2,?_⟩;rw[h1,C1 m1,m2];decide
  ·have hq1:=(H.id q hq).1;have Z5:t.kind≠0:=fun e=>by have:=hp.root e;omega
   obtain⟨p1,p2⟩:=hp.par Z5;rw[h1,zH H.up hq]at p2;obtain⟨g0,g1,_⟩:=zk ht;rcases T.par' ht with h|⟨h,h'⟩
   ·omega
   have Tc:q.tier=t.par:=p2;obtain⟨i1,i2,i3⟩:=tiers_ k q oa hq h2;refine⟨oa,fun e=>oa,?_⟩;cases e:qdf d.tiers n.tier with
   | false=>rfl
   | true=>
    rw[C1 ht]at e;have:=T.al _ t g1 e Z5;rw[<-Tc,i3]at this;cases this
theorem tier(hn:n∈d.notes)(hg:G n=true):p.m<=n.tier/\(n.tier=p.m->n.par=w)/\qdf d.tiers n.tier=false:=Q.tiers_ H T _ n (Nat.lt_succ_self _) hn hg
theorem cut:Cut d G:=by
 refine⟨Q.low,fun a ha b hb e1 e2=>?_,fun n hn ha=>?_⟩
 ·have key: ∀a∈d.notes,∀b∈d.notes,a.tier=b.tier->a.par=b.par->G a=true->G b=true:=fun a ha b hb e1 e2 hg=>by
   rcases Q.why a ha hg with⟨h1,h2⟩|⟨q,hq,h1,h2⟩
   ·exact Q.kid b hb oa oa
   ·exact Q.low b hb q hq oa h2
  cases h:G a with
  | true=>grind
  | false=>grind
 ·cases h:G n with
  | false=>rfl
  | true=>have:=(Q.tier H T hn h).2.2;rw[ha]at this;cases this
theorem nts:NtsA cov tx (d.cut G):=H.cut (Q.cut H T)
theorem sibs_low(ht:t<p.m)(i:Int):vV (d.cut G) t i=vV d t i:=nn fun a ha e1 _=>by
 cases h:G a with
 | false=>rfl
 | true=>have:=(Q.tier H T ha h).1;omega
theorem sibs_oth(hi:i≠w):vV (d.cut G) p.m i=vV d p.m i:=nn fun a ha e1 e2=>by
 cases h:G a with
 | false=>rfl
 | true=>exact ak (e2▸(Q.tier H T ha h).2.1 e1) hi
theorem keep(hn:n∈d.notes)(h1:n.tier<=p.m)(h2:n.tier=p.m->n.par≠w):G n=false:=by
 cases h:G n with
 | false=>rfl
 | true=>
  have:=Q.tier H T hn h;omega
theorem sibs_gl(hn:n∈d.notes)(hg:G n=false):vV (d.cut G) p.g n.id=vV d p.g n.id:=nn fun a ha e1 e2=>by
 cases h:G a with
 | false=>rfl
 | true=>
  have qf:=T.lt;rcases Q.why a ha h with⟨h1,_⟩|⟨q,hq,h1,h2⟩
  ·omega
  ·rw[zL H.up hn hq oa,h2]at hg;cases hg
theorem none_: ∀n∈(d.cut G).notes,n.tier=p.m->n.par≠w:=fun n hn e1 e2=>by obtain⟨h1,h2⟩:=cut_mem.1 hn;rw[Q.kid n h1 e1 e2]at h2;cases h2
theorem kids_w:(d.cut G).kids w p.m= []:=Ln (Q.none_ H T)
theorem get_low(hi: ∀n,qI d.notes i=(n,true)->n.tier<p.m):qI (d.cut G).notes i=qI d.notes i:=by
 cases e:(qI d.notes i).2 with
 | true=>
  obtain⟨h1,h2⟩:=ZC e;have h3:=hi (qI d.notes i).1 (by rw[<-e]);rw[<-h2];exact np H.up h1 (Q.keep H T h1 oa oa)
 | false=>
  have fZ: ∀n∈d.notes,n.id≠i:=fun n hn e'=>by subst e';rw[zH H.up hn]at e;cases e
  have hno': ∀n∈(d.cut G).notes,n.id≠i:=fun n hn=>fZ n (cut_mem.1 hn).1;unfold qI;grind
theorem lines(hi:i≠w):(d.cut G).kids i p.m=d.kids i p.m/\Qa (d.cut G) p i=Qa d p i/\Ql (d.cut G) p i=Ql d p i:=by
 have hk:(d.cut G).kids i p.m=d.kids i p.m:=dN rfl (Q.sibs_oth H T hi);have hx: ∀k∈d.kids i p.m,qu (d.cut G).notes k=qu d.notes k/\Zr (d.cut G) k p.g=Zr d k p.g:=fun k hk=>by
  obtain⟨n,hn,rfl⟩:=wN.1 hk;obtain⟨h1,h2,h3⟩:=ZN hn;have hg:=Q.keep H T h1 oa (fun _=>by rw[h3];exact hi);refine⟨by unfold qu;rw[np H.up h1 hg],?_⟩;have fy:(d.cut G).kids n.id p.g=d.kids n.id p.g:=dN rfl (Q.sibs_gl H T h1 hg);unfold Zr;rw[fy];have hy: ∀j∈d.kids n.id p.g,qu (d.cut G).notes j=qu d.notes j:=fun j hj=>by
   obtain⟨q,hq,rfl⟩:=wN.1 hj;obtain⟨q1,q2,q3⟩:=ZN hq;unfold qu;rw[np H.up q1 ?_];have:q∈vV (d.cut G) p.g n.id:=by rw[Q.sibs_gl H T h1 hg];exact mem_sibs.2 ⟨q1,q2,q3⟩
   exact(cut_mem.1 (mem_sibs.1 this).1).2
  generalize ye=z;generalize d.kids n.id p.g=l at hy;induction l generalizing z with
  | nil=>rfl
  | cons a l ih=>grind
 refine⟨hk,?_,?_⟩
 ·unfold Qa;rw[hk];exact yz fun k hk=>(hx k hk).1
 ·unfold Ql;rw[hk];exact yz fun k hk=>(hx k hk).2
end Gone
def En{q:α->Bool}{l:List α}{x:α}(h: ∀y∈l,q y=false):vF q l x=l++[x]:=by
 have hb:vR q l l.length=l.length:=by
  cases e:l.length with
  | zero=>rfl
  | succ n=>
   have hl:l[n]? =some l[n]:=oh;simp only[vR,hl];grind
 unfold vF;rw[hb];simp
def PD{lt:α->α->Bool}{l:List α}(h:l.Pairwise fun a b=>lt b a=false):Z3 lt l=l:=by
 have key: ∀(l ig:List α),(ig++l).Pairwise (fun a b=>lt b a=false)->l.foldl (fun ig x=>vF (fun y=>lt x y) ig x) ig=ig++l:=by
  intro l;induction l with
  | nil=>simp
  | cons x l ih=>
   intro ig hp;rw[yE,En fun y hy=>(y9.1 hp).2.2 y hy x oh,ih _ (by simpa using hp)];simp
 have:=key l [] (by simpa using h);simpa[Z3]using this
def nM(p:Plc)(w nx:Int)(fs:List ByteArray)(k:Nat):Nte:=⟨nx+2*k,p.m,w,0,0,k,(fs[k]?).getD ye⟩
def nG(p:Plc)(nx:Int)(gs:List ByteArray)(k:Nat):Nte:=⟨nx+2*k+1,p.g,nx+2*k,0,0,0,(gs[k]?).getD ye⟩
def Hd(p:Plc)(w nx:Int)(fs:List ByteArray):List Nte:=(wR fs.length).map (nM p w nx fs)
def U4(p:Plc)(nx:Int)(gs:List ByteArray)(n:Nat):List Nte:=(wR n).map (nG p nx gs)
def aK(p:Plc)(w nx:Int)(fs gs:List ByteArray):List Nte:=(wR fs.length).flatMap fun k=>[nM p w nx fs k,nG p nx gs k]
def mem_nAll{p:Plc}:n∈aK p w nx fs gs↔n∈Hd p w nx fs\/n∈U4 p nx gs fs.length:=by simp only[aK,Hd,U4,List.mem_flatMap,wN,yU,wJ,w9,ax];grind
def mem_nM{p:Plc}:n∈Hd p w nx fs↔∃k,k<fs.length/\n=nM p w nx fs k:=by simp only[Hd,wN,yU];grind
def mem_nG{p:Plc}{c:Nat}:n∈U4 p nx gs c↔∃k,k<c/\n=nG p nx gs k:=by simp only[U4,wN,yU];grind
def O4{p:Plc}{R:Nte->Nte->Prop}(h: ∀i j,i<j->R (nM p w nx fs i) (nM p w nx fs j)):(Hd p w nx fs).Pairwise R:=by unfold Hd;rw[List.pairwise_map];exact List.pairwise_lt_range.imp fun {i j} A9=>h i j A9
section
variable {cov:List Nte->Nte->Prop} {tx:ByteArray->Prop} {d:Dcm} {p:Plc} {w nx:Int} {fs gs:List ByteArray} {L:List Nte} (H:NtsA cov tx d) (T:TrsA d.tiers p)
include H T
theorem OB(hw:(qI d.notes w).2=true)(PY: ∀n∈d.notes,n.tier=p.m->n.par≠w)(h1:1<=nx)(h2:nx+2*fs.length<=1099511627776)(hid: ∀n∈d.notes,n.id<nx\/nx+2*fs.length<=n.id)
  (MH:L.Pairwise (fun a b=>a.id<b.id)) (pk: ∀n,n∈L↔n∈d.notes\/n∈aK p w nx fs gs):Put d w p.m p.g (Hd p w nx fs) (U4 p nx gs fs.length) L:=by
 have qf:=T.lt;refine⟨MH,fun n=>by rw[pk,mem_nAll],O4 fun i j h=>by simp only[nM];omega,fun k m hk=>?_,fun g hg=>?_,fun g hg g' hg' e=>?_,fun n hn=>?_,fun n hn m hm=>?_,PY,oa⟩
 ·have hk':k<fs.length:=by have:=(wg.1 hk).1;simpa[Hd]using this
  have:m=nM p w nx fs k:=by simpa[Hd,hk']using hk.symm
  rw[this];exact⟨rfl,rfl,rfl,rfl,rfl⟩
 ·obtain⟨k,hk,rfl⟩:=mem_nG.1 hg;exact⟨rfl,rfl,rfl,rfl,nM p w nx fs k,mem_nM.2 ⟨k,hk,rfl⟩,rfl⟩
 ·obtain⟨k,hk,rfl⟩:=mem_nG.1 hg;obtain⟨j,hj,rfl⟩:=mem_nG.1 hg';have:k=j:=by simp only[nG]at e;omega
  rw[this]
 ·rcases hn with hn|hn
  ·obtain⟨k,hk,rfl⟩:=mem_nM.1 hn;simp only[nM];omega
  ·obtain⟨k,hk,rfl⟩:=mem_nG.1 hn;simp only[nG];omega
 ·obtain⟨k,hk,rfl⟩:=mem_nM.1 hm;have:=hid n hn;simp only[nM];omega
end
namespace Put
variable {cov:List Nte->Nte->Prop} {tx:ByteArray->Prop} {d:Dcm} {p:Plc} {w nx:Int} {fs gs:List ByteArray} {L:List Nte} (Q:Put d w p.m p.g (Hd p w nx fs) (U4 p nx gs fs.length) L) (H:NtsA cov tx d) (T:TrsA d.tiers p)
include Q H T
theorem kids_w:(d.withN L).kids w p.m=(wR fs.length).map fun k:Nat=>nx+2*(k:Int):=by
 have qf:=T.lt;obtain⟨u,k1,_⟩:=T.g;have hb:=(zk k1).2.2;have hk:(d.withN L).kidN w p.m=Hd p w nx fs:=by rw[Zz,Q.sibs_m H,ae ⟨oa,by show p.m<(d.tiers.length:Int);omega⟩];refine PD (O4 fun i j h=>?_);simp only[az];unfold rX qdM Zo nM;simp;omega
 unfold Dcm.kids;rw[hk];simp[Hd,nM,Function.comp_def]
theorem kids_g(hk:k<fs.length):(d.withN L).kids (nx+2*k) p.g= [nx+2*k+1]:=by have qf:=T.lt;obtain⟨u,k1,_⟩:=T.g;have hb:=(zk k1).2.2;have hg:nG p nx gs k∈U4 p nx gs fs.length:=mem_nG.2 ⟨k,hk,rfl⟩;have h1:=Q.sibs_g H hg;have:(nG p nx gs k).par=nx+2*k:=rfl;rw[this]at h1;unfold Dcm.kids;rw[Zz,h1,ae ⟨oa,hb⟩];rfl
theorem lines_w(hgs:gs.length=fs.length):Qa (d.withN L) p w=fs/\Ql (d.withN L) p w=gs:=by
 have ht: ∀(k:Nat),k<fs.length->qu (d.withN L).notes (nx+2*k)=(fs[k]?).getD ye/\qu (d.withN L).notes (nx+2*k+1)=(gs[k]?).getD ye:=fun k hk=>by
  have h1:=Q.get_m ((Q.mem _).2 (.inr (.inl (mem_nM.2 ⟨k,hk,rfl⟩))));have h2:=Q.get_m ((Q.mem _).2 (.inr (.inr (mem_nG.2 ⟨k,hk,rfl⟩))));unfold qu;constructor
  ·have:(nM p w nx fs k).id=nx+2*k:=rfl;rw[<-this,h1];rfl
  ·have:(nG p nx gs k).id=nx+2*k+1:=rfl;rw[<-this,h2];rfl
 unfold Qa Ql;rw[Q.kids_w H T,yn,yn];constructor
 ·refine List.ext_getElem? fun k=>?_;grind
 ·refine List.ext_getElem? fun k=>?_;rw[wh];by_cases hk:k<fs.length
  ·rw[List.getElem?_range hk];simp only[yO,Function.comp,Zr];rw[Q.kids_g H T hk];grind
  ·grind
theorem sibs_low(ht:t<p.m)(i:Int):vV (d.withN L) t i=vV d t i:=by have qf:=T.lt;exact Q.sibs_old H (fun e=>oa) (fun e=>oa)
theorem get_low(hi:(qI d.notes i).2=true):qI (d.withN L).notes i=qI d.notes i:=by obtain⟨h1,h2⟩:=ZC hi;have:=Q.get_old H h1;rwa [h2]at this
theorem lines(hi:i≠w):(d.withN L).kids i p.m=d.kids i p.m/\Qa (d.withN L) p i=Qa d p i/\Ql (d.withN L) p i=Ql d p i:=by
 have qf:=T.lt;have hk:(d.withN L).kids i p.m=d.kids i p.m:=dN rfl (Q.sibs_old H (fun _=>hi) (fun e=>oa));have hx: ∀k∈d.kids i p.m,qu (d.withN L).notes k=qu d.notes k/\Zr (d.withN L) k p.g=Zr d k p.g:=fun k hk=>by
  obtain⟨n,hn,rfl⟩:=wN.1 hk;obtain⟨h1,h2,h3⟩:=ZN hn;refine⟨by unfold qu;rw[Q.get_old H h1],?_⟩;have fy:(d.withN L).kids n.id p.g=d.kids n.id p.g:=dN rfl (Q.sibs_old H (fun e=>oa) (fun _ m hm=>Q.new n h1 m hm));unfold Zr;rw[fy];have hy: ∀j∈d.kids n.id p.g,qu (d.withN L).notes j=qu d.notes j:=fun j hj=>by obtain⟨q,hq,rfl⟩:=wN.1 hj;unfold qu;rw[Q.get_old H (ZN hq).1]
  generalize ye=z;generalize d.kids n.id p.g=l at hy;induction l generalizing z with
  | nil=>rfl
  | cons a l ih=>grind
 refine⟨hk,?_,?_⟩
 ·unfold Qa;rw[hk];exact yz fun k hk=>(hx k hk).1
 ·unfold Ql;rw[hk];exact yz fun k hk=>(hx k hk).2
end Put
def cL(l:List Nte):Nat->Int->List Int
 | 0,_=>[]
 | f+1,id=>(l.filter fun n=>n.par==id).flatMap fun n=>n.id::cL l f n.id
def JW(l:List Nte)(k:Int):Nat->Int->Prop
 | 0,x=>∃n∈l,n.par=k/\n.id=x
 | j+1,x=>∃n∈l,n.id=x/\JW l k j n.par
def FN{l:List Nte}{n:Nte}(hn:n∈l): ∀{j:Nat} {x:Int},JW l n.id j x->JW l n.par (j+1) x
 | 0,x,⟨m,hm,h1,h2⟩=>⟨m,hm,h2,n,hn,rfl,h1.symm⟩
 | j+1,x,⟨m,hm,h1,h2⟩=>⟨m,hm,h1,FN hn h2⟩
def SA{l:List Nte}{k:Int}: ∀{j:Nat} {x:Int},JW l k (j+1) x->∃n∈l,n.par=k/\JW l n.id j x
 | 0,x,⟨m,hm,h1,n,hn,h2,h3⟩=>⟨n,hn,h2,m,hm,h3.symm,h1⟩
 | j+1,x,⟨m,hm,h1,h2⟩=>by obtain⟨n,hn,h3,h4⟩:=SA h2;exact⟨n,hn,h3,m,hm,h1,h4⟩
def mem_col{l:List Nte}: ∀{f:Nat} {k x:Int},x∈cL l f k↔∃j,j<f/\JW l k j x
 | 0,k,x=>by simp[cL]
 | f+1,k,x=>by
  simp only[cL,List.mem_flatMap,yR,wJ,aq];constructor
  ·rintro⟨n,⟨hn,hp⟩,e|h⟩
   ·exact⟨0,oa,n,hn,hp,e.symm⟩
   ·obtain⟨j,hj,hb⟩:=mem_col.1 h;exact⟨j+1,oa,by rw[<-hp];exact FN hn hb⟩
  ·rintro⟨j,hj,hb⟩;cases j with
   | zero=>obtain⟨n,hn,h1,h2⟩:=hb;exact⟨n,⟨hn,h1⟩,.inl h2.symm⟩
   | succ j=>
    obtain⟨n,hn,h1,h2⟩:=SA hb;exact⟨n,⟨hn,h1⟩,.inr (mem_col.2 ⟨j,oa,h2⟩)⟩
def aQ(d:Dcm)(id:Int):List Int:=cL d.notes d.tiers.length id
def zb(d:Dcm)(p:Plc)(w:Int)(n:Nte):Bool:=(d.kids w p.m).any fun k=>n.id==k||(aQ d k).any fun x=>n.id==x
section
variable {cov:List Nte->Nte->Prop} {tx:ByteArray->Prop} {d:Dcm} {p:Plc} (H:NtsA cov tx d) (T:TrsA d.tiers p)
include H T
theorem cj{q:Nte}(hn:n∈d.notes)(hq:q∈d.notes)(e:n.par=q.id):0<=q.tier/\q.tier<n.tier:=by
 obtain⟨_,t,ht,hp,_⟩:=H.note n hn;have h1:=(H.id q hq).1;have Z5:t.kind≠0:=fun e'=>by have:=hp.root e';omega
 obtain⟨p1,p2⟩:=hp.par Z5;rw[e,zH H.up hq]at p2;rcases T.par' ht with h|h
 ·omega
 ·grind
theorem FM{k:Int}: ∀{j:Nat} {n:Nte},n∈d.notes->JW d.notes k j n.id->(j:Int)<=n.tier
 | 0,n,hn,_=>by
  obtain⟨_,t,ht,_⟩:=H.note n hn;have:=(zk ht).1;omega
 | j+1,n,hn,⟨m,hm,h1,h2⟩=>by
  rw[zL H.up hm hn h1]at h2;cases j with
  | zero=>
   obtain⟨q,hq,h3,h4⟩:=h2;have:=cj H T hn hq h4.symm;omega
  | succ j=>
   obtain⟨q,hq,h3,h4⟩:=h2;have h5:=FM hq (show JW d.notes k (j+1) q.id from⟨q,hq,rfl,h4⟩);have:=cj H T hn hq h3.symm;omega
theorem AR{k:Int}:x∈aQ d k↔∃j,JW d.notes k j x:=by
 unfold aQ;rw[mem_col];refine⟨fun⟨j,_,h⟩=>⟨j,h⟩,fun⟨j,h⟩=>⟨j,?_,h⟩⟩;have: ∃n∈d.notes,n.id=x:=by
  cases j with
  | zero=>obtain⟨n,hn,_,h2⟩:=h;exact⟨n,hn,h2⟩
  | succ j=>obtain⟨n,hn,h2,_⟩:=h;exact⟨n,hn,h2⟩
 obtain⟨n,hn,rfl⟩:=this;have h1:=FM H T hn h;obtain⟨_,t,ht,_⟩:=H.note n hn;have:=(zk ht).2.2;omega
theorem cu:zb d p w n=true↔∃k∈d.kids w p.m,n.id=k\/∃j,JW d.notes k j n.id:=by
 unfold zb;simp only[yK,jQ,aq];constructor
 ·rintro⟨k,hk,h|⟨x,hx,rfl⟩⟩
  ·grind
  ·exact⟨k,hk,.inr ((AR H T).1 hx)⟩
 ·rintro⟨k,hk,h|h⟩
  ·grind
  ·exact⟨k,hk,.inr ⟨n.id,(AR H T).2 h,rfl⟩⟩
theorem uq:x∈d.kids w p.m↔∃n∈d.notes,n.id=x/\n.tier=p.m/\n.par=w:=by
 obtain⟨t,h1,_⟩:=T.m;have h2:=zk h1;unfold Dcm.kids;rw[Zz,ae ⟨h2.1,h2.2.2⟩,wN];constructor
 ·rintro⟨n,hn,rfl⟩;obtain⟨h3,h4,h5⟩:=mem_sibs.1 (insB_mem.1 hn);exact⟨n,h3,rfl,h4,h5⟩
 ·rintro⟨n,hn,rfl,h4,h5⟩;exact⟨n,insB_mem.2 (mem_sibs.2 ⟨hn,h4,h5⟩),rfl⟩
theorem Ju(w:Int):Gone d p w (zb d p w):=by
 refine⟨fun n hn h1 h2=>(cu H T).2 ⟨n.id,(uq H T).2 ⟨n,hn,rfl,h1,h2⟩,.inl rfl⟩,fun n hn q hq e hg=>?_,fun n hn hg=>?_⟩
 ·obtain⟨k,hk,h|⟨j,h⟩⟩:=(cu H T).1 hg
  ·exact(cu H T).2 ⟨k,hk,.inr ⟨0,n,hn,by rw[e,h],rfl⟩⟩
  ·exact(cu H T).2 ⟨k,hk,.inr ⟨j+1,n,hn,rfl,by rw[e];exact h⟩⟩
 ·obtain⟨k,hk,h|⟨j,h⟩⟩:=(cu H T).1 hg
  ·obtain⟨m,hm,h1,h2,h3⟩:=(uq H T).1 hk;rw[<-zL H.up hm hn oa];exact .inl ⟨h2,h3⟩
  ·right;cases j with
   | zero=>
    obtain⟨m,hm,h1,h2⟩:=h;rw[zL H.up hm hn h2]at h1;obtain⟨q,hq,h3,h4,h5⟩:=(uq H T).1 hk;exact⟨q,hq,oa,(cu H T).2 ⟨k,hk,.inl h3⟩⟩
   | succ j=>
    obtain⟨m,hm,h1,h2⟩:=h;rw[zL H.up hm hn h1]at h2;have: ∃q∈d.notes,q.id=n.par:=by
     cases j with
     | zero=>obtain⟨q,hq,_,h4⟩:=h2;exact⟨q,hq,h4⟩
     | succ j=>obtain⟨q,hq,h4,_⟩:=h2;exact⟨q,hq,h4⟩
    obtain⟨q,hq,h4⟩:=this;exact⟨q,hq,h4.symm,(cu H T).2 ⟨k,hk,.inr ⟨j,by rw[h4];exact h2⟩⟩⟩
end
def noDcm:Dcm:=⟨⟨0,ye,0,0,[]⟩,[],[]⟩
structure Svc(α:Type) where
 st:Int->ByteArray->Int×α
 lic:ByteArray->α->Bool
 lin:α->List ByteArray×List ByteArray×Int
 len:α->Nat
def cD(d:Dcm)(p:Plc)(w:Int):Dcm×Int:=if vK d p w=true then(d.cut (zb d p w),0)else(noDcm,9)
def bF(l:List Nte):List Nte:=Z3 (fun x y=>decide (x.id<y.id)) l
def uX(d:Dcm)(p:Plc)(w nx:Int)(fs gs:List ByteArray):Dcm:=d.withN (bF (d.notes++aK p w nx fs gs))
def bI(d:Dcm)(nx:Int)(ok:Bool)(fs:List ByteArray)(e:Int):Int:=
 if ok=false then 23 else if e≠0 then e else if(fs.any fun s=>decide (200<s.size))=true then 5 else if nx<1\/1099511627768<nx then 2
 else if((wR (2*fs.length)).any fun i:Nat=>(qI d.notes (nx+(i:Int))).2)=true then 8 else if 300<d.notes.length+2*fs.length then 11 else 0
def dW{α:Type}(S:Svc α)(d:Dcm)(p:Plc)(w:Int)(a:α)(nx:Int):Dcm×Int:=
 if vK d p w=true then
  (if bI (d.cut (zb d p w)) nx (S.lic (qu (d.cut (zb d p w)).notes w) a) (S.lin a).1 (S.lin a).2.2=0 then(uX (d.cut (zb d p w)) p w nx (S.lin a).1 (S.lin a).2.1,0)
  else(noDcm,bI (d.cut (zb d p w)) nx (S.lic (qu (d.cut (zb d p w)).notes w) a) (S.lin a).1 (S.lin a).2.2))
 else(noDcm,9)
def Qx{α:Type}(S:Svc α)(d:Dcm)(p:Plc)(w:Int)(a:α):Bool:=decide ((S.lin a).2.2=0)&&(decide ((S.lin a).1=(vk d p w).1)&&decide ((S.lin a).2.1=(vk d p w).2))
def cJ{α:Type}(S:Svc α)(p:Plc)(d:Dcm)(nx w:Int):Dcm×Int×Int:=
 if(S.st w (qu d.notes w)).1≠4 then(if 0<(d.kids w p.m).length then((cD d p w).1,(cD d p w).2,nx)else(d,0,nx))
 else if Qx S d p w (S.st w (qu d.notes w)).2=true then(d,0,nx)
 else((dW S d p w (S.st w (qu d.notes w)).2 nx).1,(dW S d p w (S.st w (qu d.notes w)).2 nx).2,nx+2*S.len (S.st w (qu d.notes w)).2)
def QI{α:Type}(S:Svc α)(p:Plc):List Int->Dcm->Int->Dcm×Int
 | [],d,_=>(d,0)
 | w::ws,d,nx=>if(cJ S p d nx w).2.1≠0 then(noDcm,(cJ S p d nx w).2.1)else QI S p ws (cJ S p d nx w).1 (cJ S p d nx w).2.2
structure LinOk{α:Type}(S:Svc α)(tx:ByteArray->Prop):Prop where
 len: ∀a,(S.lin a).2.2=0->(S.lin a).1.length=S.len a/\(S.lin a).2.1.length=S.len a/\0<S.len a/\S.len a<=4
 gl: ∀a,(S.lin a).2.2=0->∀s∈(S.lin a).2.1,tx s
 fo: ∀a,(S.lin a).2.2=0->∀s∈(S.lin a).1,s.size<=200->tx s
def ZZ{α:Type}(S:Svc α)(p:Plc)(d:Dcm)(w:Int):Prop:=
 if(S.st w (qu d.notes w)).1=4 then Qx S d p w (S.st w (qu d.notes w)).2=true else d.kids w p.m= []
structure Stay(p:Plc)(W:List Int)(d d':Dcm):Prop where
 rc:d'.rc=d.rc
 trs:d'.tiers=d.tiers
 low: ∀t,t<p.m->∀i,vV d' t i=vV d t i
 get: ∀i,(qI d.notes i).2=true->(qI d.notes i).1.tier<p.m->qI d'.notes i=qI d.notes i
 oth: ∀i,i∉W->d'.kids i p.m=d.kids i p.m/\Qa d' p i=Qa d p i/\Ql d' p i=Ql d p i
 back: ∀i,(qI d'.notes i).2=true->(qI d'.notes i).1.tier<p.m->qI d'.notes i=qI d.notes i
def Stay.refl(p:Plc)(W:List Int)(d:Dcm):Stay p W d d:=⟨rfl,rfl,fun _ _ _=>rfl,fun _ _ _=>rfl,fun _ _=>⟨rfl,rfl,rfl⟩,fun _ _ _=>rfl⟩
def Stay.trans{p:Plc}{W':List Int}{a b c:Dcm}(h:Stay p W a b)(k:Stay p W' b c):Stay p (W++W') a c:=
 ⟨k.rc.trans h.rc,k.trs.trans h.trs,fun t ht i=>(k.low t ht i).trans (h.low t ht i),fun i h1 h2=>by
  have e:=h.get i h1 h2;rw[k.get i (by rw[e];exact h1) (by rw[e];exact h2),e],fun i hi=>by
  rw[wF,not_or]at hi;have e1:=h.oth i hi.1;have e2:=k.oth i hi.2;exact⟨e2.1.trans e1.1,e2.2.1.trans e1.2.1,e2.2.2.trans e1.2.2⟩,fun i h1 h2=>by
  have e:=k.back i h1 h2;rw[e];exact h.back i (by rw[<-e];exact h1) (by rw[<-e];exact h2)⟩
section
variable {α:Type} {S:Svc α} {cov:List Nte->Nte->Prop} {tx:ByteArray->Prop} {d:Dcm} {p:Plc}
def isWord_iff:vK d p w=true↔(qI d.notes w).2=true/\(qI d.notes w).1.tier=p.w:=by simp[vK]
def Stay.word(h:Stay p W d d')(hl:p.w<p.m):vK d' p w=vK d p w:=by
 rw[y8,isWord_iff,isWord_iff];constructor
 ·rintro⟨h1,h2⟩;have e:=h.back w h1 oa;grind
 ·rintro⟨h1,h2⟩;have e:=h.get w h1 oa;rw[e];exact⟨h1,h2⟩
def RZ(H:NtsA cov tx d)(T:TrsA d.tiers p)(w:Int):Stay p [w] d (d.cut (zb d p w)):=by have Q:=Ju H T w;refine⟨rfl,rfl,fun t ht i=>Q.sibs_low H T ht i,fun i h1 h2=>Q.get_low H T (fun n hn=>by rw[hn]at h2;exact h2),fun i hi=>Q.lines H T (by simpa using hi),fun i h1 h2=>?_⟩;obtain⟨h3,h4⟩:=ZC h1;obtain⟨h5,h6⟩:=cut_mem.1 h3;have:=np (G:=zb d p w) H.up h5 h6;rwa [h4]at this
def Rx(H:NtsA cov tx d)(T:TrsA d.tiers p){w nx:Int}{fs gs:List ByteArray}(hw:(qI d.notes w).2=true)(hn: ∀n∈d.notes,n.tier=p.m->n.par≠w)(h1:1<=nx)(h2:nx+2*fs.length<=1099511627776)
  (hf:((wR (2*fs.length)).any fun i:Nat=>(qI d.notes (nx+(i:Int))).2)=false):Put d w p.m p.g (Hd p w nx fs) (U4 p nx gs fs.length) (bF (d.notes++aK p w nx fs gs)):=by
 have hid: ∀n∈d.notes,n.id<nx\/nx+2*fs.length<=n.id:=fun n hn=>by
  rcases Int.lt_or_le n.id nx with h|h
  ·omega
  ·right;refine Int.not_lt.1 fun h'=>?_;have:=yY.1 hf (n.id - nx).toNat (yU.2 oa);have e:nx+((n.id - nx).toNat:Int)=n.id:=oa;rw[e,zH H.up hn]at this;exact this rfl
 have VJ:(aK p w nx fs gs).Pairwise (fun a b=>a.id<b.id):=by unfold aK;rw[List.pairwise_flatMap];refine⟨fun k hk=>by simp[nM,nG];omega,?_⟩;refine List.pairwise_lt_range.imp fun {i j} A9=>?_;intro a ha b hb;simp only[wJ,w9,ax]at ha hb;rcases ha with rfl|rfl<;>rcases hb with rfl|rfl<;>simp only[nM,nG]<;>omega
 have hrng: ∀n∈aK p w nx fs gs,nx<=n.id/\n.id<nx+2*fs.length:=fun n hn=>by
  rcases mem_nAll.1 hn with h|h
  ·obtain⟨k,hk,rfl⟩:=mem_nM.1 h;simp only[nM];omega
  ·obtain⟨k,hk,rfl⟩:=mem_nG.1 h;simp only[nG];omega
 have qH: ∀a∈d.notes++aK p w nx fs gs,∀b∈d.notes++aK p w nx fs gs,a.id=b.id->a=b:=fun a ha b hb e=>by
  rcases wF.1 ha with ha|ha<;>rcases wF.1 hb with hb|hb
  ·exact zL H.up ha hb e
  ·grind
  ·grind
  ·exact zL VJ ha hb e
 refine OB H T hw hn h1 h2 hid ?_ fun n=>by unfold bF;rw[insB_mem,wF]
 refine(rF (fun a b c _ _ _ h h'=>?_) (fun a b ha hb h=>?_) ?_).imp fun h=>by simpa using h
 ·grind
 ·grind
 ·refine List.nodup_append.2 ⟨dE H.up,dE VJ,fun a ha b hb e=>?_⟩;subst e;have:=hid a ha;have:=hrng a hb;omega
end
structure Rul where
 src:List Int
 dst:List Int
 (left right:List Lnk)
 beg:Bool
 fin:Bool
structure Stp where
 src:Int
 cls:Int
 dst:Int
structure Lg where
 inv:List Phon
 nm:ByteArray
 units:List Unt
 letters:List (List ByteArray)
 rules:List Rul
 states:Int
 steps:List Stp
 fin:List Int
 lex:List Ent
structure Prt where
 ent:Int
 alt:Int
 sns:Int
deriving DecidableEq
structure Rf where
 rc:Int
 note:Int
deriving DecidableEq
structure Dcs where
 ref:Rf
 yes:Bool
 pick:List Prt
structure Sta where
 ref:Rf
 kind:Int
 pick:List Prt
deriving DecidableEq
def Rul.enc(r:Rul):List C:=[.sl 1 (ints r.src),.sl 1 (ints r.dst),.sl 2 (r.left.map Lnk.enc),.sl 2 (r.right.map Lnk.enc),lb r.beg,lb r.fin]
def Rul.row(r:Rul):List T:=[.c (.sl 1 (ints r.src)),.c (.sl 1 (ints r.dst)),.c (.sl 2 (r.left.map Lnk.enc)),.c (.sl 2 (r.right.map Lnk.enc)),.c (lb r.beg),.c (lb r.fin)]
def Stp.enc(x:Stp):List C:=[li x.src,li x.cls,li x.dst]
def Stp.row(x:Stp):List T:=[.c (li x.src),.c (li x.cls),.c (li x.dst)]
def Unt.enc(u:Unt):List C:=[ls u.graph,.sl 1 (ints u.segs)]
def Unt.row(u:Unt):List T:=[.c (ls u.graph),.c (.sl 1 (ints u.segs))]
def strs(l:List ByteArray):List (List C):=l.map fun s=>[ls s]
def Z2(l:List ByteArray):List C:=[.sl 1 (strs l)]
def eD(g:Lg):List T:=[.c (ls g.nm),.c (.sl 2 (g.units.map Unt.enc)),.c (.sl 1 (g.letters.map Z2))]
def eF(g:Lg):List T:=[.c (li g.states),.c (.sl 3 (g.steps.map Stp.enc)),.c (.sl 1 (ints g.fin))]
def Lg.row(g:Lg):List T:=[.c (.sl 2 (g.inv.map Phon.enc))]++(eD g++([.c (.sl 6 (g.rules.map Rul.enc))]++(eF g++[.c (.sl 8 (g.lex.map Ent.enc))])))
def Prt.enc(p:Prt):List C:=[li p.ent,li p.alt,li p.sns]
def Prt.row(p:Prt):List T:=[.c (li p.ent),.c (li p.alt),.c (li p.sns)]
def Zf(l:List Prt):C:=.sl 3 (l.map Prt.enc)
def Dcs.enc(d:Dcs):List C:=[li d.ref.rc,li d.ref.note,lb d.yes,Zf d.pick]
def Dcs.row(d:Dcs):List T:=[.c (li d.ref.rc),.c (li d.ref.note),.c (lb d.yes),.c (Zf d.pick)]
def Sta.enc(s:Sta):List C:=[li s.ref.rc,li s.ref.note,li s.kind,Zf s.pick]
def Sta.row(s:Sta):List T:=[.c (li s.ref.rc),.c (li s.ref.note),.c (li s.kind),.c (Zf s.pick)]
def N0(g:List Phon)(n:Int):Bool:=decide (1<=n)&&decide (n<=(g.length:Int))
def RB(g:List Phon)(n:Int):Int:=((g[(n - 1).toNat]?).map (·.feat)).getD 0
def uE(g:List Phon)(n:Int)(c:Lnk):Bool:=N0 g n&&c.tgt==QT .and .i64 (RB g n) c.kind
def dV(g:List Phon):List Lnk->List Int->Bool
 | c::l,n::w=>uE g n c&&dV g l w
 | _,_=>true
def mm(g:List Phon)(r:Rul)(w:List Int)(i:Nat):Bool:=
 (r.src.any fun x=>(w[i]?).getD 0==x)&&decide (r.left.length<=i)&&decide (i+1+r.right.length<=w.length)&& !(r.beg&&decide (r.left.length<i))&& !(r.fin&&decide (i+1+r.right.length<w.length))&&
  (dV g r.left ((w.take i).drop (i - r.left.length))&&dV g r.right ((w.take (i+1+r.right.length)).drop (i+1)))
def oV(r:Rul)(s:Int):Int:=(((r.src.zip r.dst).find? fun p=>p.1==s).map (·.2)).getD 0
def Ze(g:List Phon)(r:Rul)(w:List Int):Nat->List Int
 | 0=>[]
 | k+1=>match w[k]? with
  | none=>Ze g r w k
  | some s=>if mm g r w k=true then(if oV r s=0 then Ze g r w k else Ze g r w k++[oV r s])else Ze g r w k++[s]
def pT(g:List Phon)(r:Rul)(w:List Int):List Int:=Ze g r w w.length
def Zi(g:List Phon)(rs:List Rul)(w:List Int):List Int:=rs.foldl (fun w r=>pT g r w) w
def cN(s q:Int):Int:=QT .or .u32 s (sF .shl .u32 1 (IntKind.u64.wrap q))
def gh(s q:Int):Bool:=QT .and .u32 (sF .shr .u32 s (IntKind.u64.wrap q)) 1==1
def cF(st:List Stp)(s c:Int):Int:=st.foldl (fun out x=>if(gh s x.src&&x.cls==c)=true then cN out x.dst else out) 0
def bA(f:List Int):Int:=f.foldl cN 0
def nI(st:List Stp)(f l:List Int):Bool:=QT .and .u32 (l.foldl (cF st) 1) (bA f)!=0
def vz(l:List Ent)(id:Int):Ent×Bool:=match l.find? fun e=>e.id==id with
 | some e=>(e,true)
 | none=>(cS,false)
def QR(e:Ent):List (List Int):=e.form::e.alts
def rf(l:List Ent):Nat->Int->List Sns
 | 0,_=>[]
 | f+1,id=>if(vz l id).2=true then(if(vz l id).1.senses≠ []then(vz l id).1.senses else if(vz l id).1.main=0 then []else rf l f (vz l id).1.main)else []
def Zy(l:List Ent)(id:Int):List Sns:=rf l (l.length+1) id
def cy(l:List Ent)(p:Prt):Bool:=(vz l p.ent).2&&decide (0<=p.alt)&&decide (p.alt<((QR (vz l p.ent).1).length:Int))
def cY(l:List Ent)(p:Prt):List Int:=((QR (vz l p.ent).1)[p.alt.toNat]?).getD []
def pL(l:List Ent)(a:List Prt):List Int:=a.flatMap fun p=>if cy l p=true then [(vz l p.ent).1.cls]else []
def ZY(l:List Ent)(a:List Prt):List Int:=a.flatMap fun p=>if cy l p=true then cY l p else []
def fh(l:List Ent)(p:Prt):Int:=if(vz l p.ent).2=false then 9 else if cy l p=false then 2 else if p.sns<0\/((Zy l p.ent).length:Int)<=p.sns then 22 else 0
def cx:List Int->Int
 | []=>0
 | e::l=>if e≠0 then e else cx l
def Qy(g:Lg)(a:List Prt):Int:=if a.length=0 then 4 else if 4<a.length then 11 else if cx (a.map (fh g.lex))≠0 then cx (a.map (fh g.lex))
 else if nI g.steps g.fin (pL g.lex a)=false then 21 else if 24<(ZY g.lex a).length then 5 else 0
def iG(g:Lg)(a:List Prt):List Int×Int:=if Qy g a≠0 then([],Qy g a)else if Zi g.inv g.rules (ZY g.lex a)= []then([],23)else(Zi g.inv g.rules (ZY g.lex a),0)
def Pi(g:Lg)(w:List Int)(a:List Prt):Bool:=decide ((iG g a).2=0)&&decide ((iG g a).1=w)
def gY(l:List Ent)(p:Prt):ByteArray:=(((Zy l p.ent)[p.sns.toNat]?).map (·.gloss)).getD ye
def tB(g:Lg)(p:Prt):ByteArray×Int×Int:=ZJ g.units (cY g.lex p)
def ck(g:Lg):List Prt->List ByteArray×List ByteArray->List ByteArray×List ByteArray×Int
 | [],r=>(r.1,r.2,0)
 | p::a,r=>if(tB g p).2.2≠0 then([],[],(tB g p).2.2)else ck g a (r.1++[(tB g p).1],r.2++[gY g.lex p])
def QZ(g:Lg)(a:List Prt):List ByteArray×List ByteArray×Int:=if Qy g a≠0 then([],[],Qy g a)else ck g a ([],[])
def po: ∀{l:List Int},cx l=0->∀e∈l,e=0
 | [],_,e,h=>by cases h
 | a::l,h,e,he=>by
  simp only[cx]at h;split at h
  ·omega
  ·rename_i h0;rcases wJ.1 he with rfl|he
   ·omega
   ·exact po h e he
def Az{l:List Ent}{s:Sns}: ∀{f:Nat} {id:Int},s∈rf l f id->∃e∈l,s∈e.senses
 | 0,_,h=>by cases h
 | f+1,id,h=>by
  simp only[rf]at h;split at h
  ·rename_i h2;split at h
   ·unfold vz at h h2;split at h
    ·grind
    ·grind
   ·split at h
    ·cases h
    ·exact Az h
  ·cases h
def Jb{g:Lg}(hu: ∀u∈g.units,aF u.graph=true): ∀{a:List Prt} {r:List ByteArray×List ByteArray},(ck g a r).2.2=0->
  (ck g a r).1.length=r.1.length+a.length/\(ck g a r).2.1.length=r.2.length+a.length/\(∀s∈(ck g a r).1,s∈r.1\/aF s=true)/\∀s∈(ck g a r).2.1,s∈r.2\/∃p∈a,s=gY g.lex p
 | [],r,_=>⟨rfl,rfl,fun s h=>.inl h,fun s h=>.inl h⟩
 | p::a,r,h=>by
  simp only[ck]at h ⊢;split at h
  ·grind
  ·rename_i h0;rw[j7 h0];obtain⟨h1,h2,h3,h4⟩:=Jb hu h;refine⟨by rw[h1];simp;omega,by rw[h2];simp;omega,fun s hs=>?_,fun s hs=>?_⟩
   ·rcases h3 s hs with h|h
    ·rcases wF.1 h with h|h
     ·grind
     ·rw[yp]at h;rw[h];exact .inr (DN hu _)
    ·grind
   ·grind
structure LgT(g:Lg):Prop where
 graph: ∀u∈g.units,aF u.graph=true
 gloss: ∀e∈g.lex,∀s∈e.senses,vm s.gloss=true
def sH{g:Lg}(H:LgT g){a:List Prt}(h:(QZ g a).2.2=0):(QZ g a).1.length=a.length/\(QZ g a).2.1.length=a.length/\0<a.length/\a.length<=4/\
  (∀s∈(QZ g a).2.1,Qh s=0)/\∀s∈(QZ g a).1,s.size<=200->Qh s=0:=by
 unfold QZ at h ⊢;split at h
 ·grind
 ·rename_i h0;rw[j7 h0];have h0:Qy g a=0:=oa;obtain⟨h1,h2,h3,h4⟩:=Jb H.graph h;unfold Qy at h0;split at h0
  ·omega
  split at h0
  ·omega
  split at h0
  ·omega
  rename_i h5;have h5:=po (by simpa using h5);refine⟨by simpa using h1,by simpa using h2,oa,oa,fun s hs=>?_,fun s hs hz=>?_⟩
  ·rcases h4 s hs with h|⟨p,hp,rfl⟩
   ·cases h
   ·have AZ:=h5 _ (wN.2 ⟨p,hp,rfl⟩);unfold fh at AZ;split at AZ
    ·omega
    split at AZ
    ·omega
    split at AZ
    ·omega
    rename_i h6;have hx:(Zy g.lex p.ent)[p.sns.toNat]? =some ((Zy g.lex p.ent)[p.sns.toNat]' oa):=oh;obtain⟨e,he,hs'⟩:=Az (ww hx);have:=H.gloss e he _ hs';unfold gY;rw[hx];obtain⟨k1,k2,_⟩:=Hr this;exact Au k1 (by simp only[yO,yJ];omega)
  ·rcases h3 s hs with h|h
   ·cases h
   ·exact Au h hz
attribute [local irreducible] NCalls
section
attribute [local go_sem] vp
def S6(k:Nat)(c:Int):Bool:=(decide (97<=c)&&decide (c<=122))||(!((k:Int)==0)&&((c==45)||((c==95)||(!decide (c<48)&& !decide (57<c)))))
def XJ(s:ByteArray):Bool:=decide (1<=(s.size:Int))&&decide ((s.size:Int)<=32)&&(s.data.toList.zipIdx.all fun p=>S6 p.2 p.1.toNat)
def qa6{e:UInt8}(he:s.data.toList[k]? =some e)(h:S6 k e.toNat=false):XJ s=false:=by
 unfold XJ;have:(s.data.toList.zipIdx.all fun p=>S6 p.2 p.1.toNat)=false:=by rw[List.all_eq_false];exact⟨(e,k),yM.2 ⟨k,by simp[List.getElem?_zipIdx,he]⟩,by simp[h]⟩
 rw[this,Bool.and_false]
def UV(h: ∀(k:Nat) e,s.data.toList[k]? =some e->S6 k e.toNat=true):XJ s=(decide (1<=(s.size:Int))&&decide ((s.size:Int)<=32)):=by unfold XJ;have:(s.data.toList.zipIdx.all fun p=>S6 p.2 p.1.toNat)=true:=og;rw[this,Bool.and_true]
def IU(s:ByteArray)(hs:s.size<=1048576):DCalls pP 95 [dv (ls s)] (dv (lb (XJ s))):=by
 have qi:=qo;have vo:=sx s;refine dX (N:=59) (rs:=[.tmp 2]) qg func95 ?_;refine gk ?_;refine lp s.data.toList [0] [] (fun k=>[(3,dv (li k))]) (fun _=>[]) (fun k=>∀(i:Nat) e,i<k->s.data.toList[i]? =some e->S6 i e.toNat=true) (by intro i e h;omega) ?_ ?_
 ·intro k e he hk hm qs qf hw hi;rw[vo]at qf;have hn:S6 k e.toNat=true->∀(i:Nat) e',i<k+1->s.data.toList[i]? =some e'->S6 i e'.toNat=true:=fun hq i e' h h'=>by
   by_cases HI:i=k
   ·grind
   ·grind
  clear hi;repeat' first|refine gQ ?_|exact gU|refine gS ?_|exact gT|(first|apply xc|apply gf|apply gt)<;>intro hc
  all_goals first|exact⟨hn (by simp[S6, *]),Zb⟩|(rw[qa6 he (by simp[S6, *]),QV];trivial)
 ·intro qf hi;rw[UV fun k e h=>hi k e (by have:=(wg.1 h).1;omega) h];rw[vo]at qf;exact gA
attribute [local go_sem] vp Unt.enc Unt.row qj Z2 strs
def On(s:ByteArray)(hs:s.size<=1048576):NCalls pP 97 [dv (ls s)] (bn (vm s=true)):=by
 have qi:=qo;have vo:=sx s;have hL:=tQ s hs;refine nX (N:=16) (rs:=[.tmp 2]) qg func97 ?_;refine gk ?_;refine lq s.data.toList [0] [] 3 ?_ ?_
 ·intro k e he hk hm qs qf hw _;rw[vo]at qf;clear hm qs;refine gC ?_ ?_<;>intro hc;all_goals exact gJ
 ·intro qf _;rw[vo]at qf;refine gB ?_;all_goals exact gJ
def Ot(l:List ByteArray)(s:ByteArray)(hl:l.length<=1000000000):NCalls pP 98 [dv (.sl 1 (l.map fun s=>[ls s])),dv (ls s)] (bn True):=by
 have qi:=qo;refine nX (N:=18) (rs:=[.tmp 4]) qg func98 ?_;refine gk ?_;refine lq l [0,1] [] 5 ?_ ?_
 ·intro k e he hk hm qs qf hw _;clear hm qs;refine gB ?_;intro hc;all_goals exact gJ
 ·intro qf _;exact gA
abbrev qgA:Dl.PL:=fun|7=> Dl.ll 0 9 []|14=> Dl.ll 0 17 []|_=>[]
def Uv(g:List Phon)(us:List Unt)(lt nm:C)(i:Nat)(u:Unt)(hu:us[i]? =some u)(XV:us.length<=1048576)(hs:u.graph.size<=1048576):NCalls pP 96 [.agg (qj g),.agg [.c nm,.c (.sl 2 (us.map Unt.enc)),.c lt],dv (li i)] (zJ (vm u.graph=true/\0<u.segs.length/\u.segs.length<=3)):=by
 have qi:=qo;have hL:=On u.graph hs;have E9:=(wg.1 hu).1;refine nX (N:=67) (rs:=[.tmp 6]) qgA func96 ?_;repeat' first|refine gQ ?_|exact gU|(refine eH ?_<;>intro er eN)|(refine dM ?_<;>intro bo eO)|refine gS ?_|exact gT|(first|apply xc|apply gf|apply gt)<;>intro hc
 ·omega
 refine Pd i [2,3,4,7] [3,4,7] (fun k=>[(8,dv (li k))]) (fun _=>[]) (fun _=>True) trivial ?_ ?_
 ·intro k hk qf hw _;obtain⟨v,hv⟩: ∃v,us[k]? =some v:=⟨_,wa oa⟩;repeat' first|refine gQ ?_|exact gU|refine gS ?_|exact gT|(first|apply xc|apply gf|apply gt)<;>intro hc
  all_goals exact gJ
 intro qf _;repeat' first|refine gQ ?_|exact gU|refine gS ?_|exact gT|(first|apply xc|apply gf|apply gt)<;>intro hc
 all_goals first|exact qJ|(intro hz;grind)|exact cC og|exact iq og|skip
 refine lq u.segs [3,7] [3,7] 9 ?_ ?_ (qi:=og)
 ·intro k x hx hk hm qs qf hw _;clear hm qs;repeat' first|refine gQ ?_|exact gU|refine gS ?_|exact gT|(first|apply xc|apply gf|apply gt)<;>intro hc
  all_goals exact gJ
 intro qf _;repeat' first|refine gQ ?_|exact gU|refine gS ?_|exact gT|(first|apply xc|apply gf|apply gt)<;>intro hc
 all_goals exact gJ
def KC(g:List Phon)(nm:ByteArray)(us:List Unt)(lt:List (List ByteArray))(X8:nm.size<=1048576)(XV:us.length<=1048576)(hs: ∀u∈us,u.graph.size<=1048576)(qf:lt.length<=1048576)(A4: ∀l∈lt,l.length<=1048576)(hls: ∀l∈lt,∀s∈l,s.size<=1048576):
  NCalls pP 49 [.agg (qj g),.agg [.c (ls nm),.c (.sl 2 (us.map Unt.enc)),.c (.sl 1 (lt.map Z2))]] (zJ (∀u∈us,vm u.graph=true/\0<u.segs.length/\u.segs.length<=3)):=by
 have qi:=qo;have hN:=IU nm X8;generalize XJ nm=nb at hN;by_cases h0:nb=false\/100<us.length
 ·refine nX (N:=79) (rs:=[.tmp 4]) qg func49 ?_;refine gD ?_ ?_ ?_;all_goals exact gJ
 have n0:nb=true:=og;have n1: ¬(100:Int)<(us.length:Int):=oa;rw[n0]at hN;refine nX (N:=79) (rs:=[.tmp 4]) qg func49 ?_;refine gk ?_;refine lp us [2,3] [2,3] (fun k=>[(5,dv (li k))]) (fun _=>[]) (fun k=>∀u∈us.take k,vm u.graph=true/\0<u.segs.length/\u.segs.length<=3) oh ?_ ?_
 ·intro k u hu hk hm qs qf hw hi;have hU:=Uv g us (.sl 1 (lt.map Z2)) (ls nm) k u hu XV (hs u hm);have hi':vm u.graph=true/\0<u.segs.length/\u.segs.length<=3->∀u∈us.take (k+1),vm u.graph=true/\0<u.segs.length/\u.segs.length<=3:=fun e=>by
   rw[qs];intro y hy;rcases wF.1 hy with hy|hy
   ·grind
   ·grind
  clear hm qs hi hN;repeat' first|refine gQ ?_|exact gU|(refine eH ?_<;>intro er eN)|(refine dM ?_<;>intro bo eO)|refine gS ?_|exact gT|(first|apply xc|apply gf|apply gt)<;>intro hc
  all_goals first|exact⟨hi' og,qJ⟩|(intro hz;grind)
 intro qf hi;rw[wc]at hi;clear hN;refine gC ?_ ?_<;>intro hc;all_goals first|exact qJ|(intro hz;grind)|exact cC og|exact iq og|skip
 have hc': ¬100<lt.length:=og;refine xo 7 7 1 ?_;refine S7 lt [3] [3] (fun k (y:List ByteArray)=>[(7,.one (.own 7 1 (y.map fun s=>[ls s]))),(8,dv (li k))]) (fun _ _=>[]) (fun k y=>y.length<=k*1048576) [] (by show(0:Nat)<=_;omega) ?_ ?_
 ·intro k l y hl hk hm qs qf hw hy;have F7:=A4 l hm;have ga:=hls l hm;clear hm qs;repeat' first|refine gQ ?_|exact gU|refine gS ?_|exact gT|(first|apply xc|apply gf|apply gt)<;>intro hc
  all_goals first|exact qJ|(intro hz;grind)|exact cC og|exact iq og|skip
  refine S7 l [3,8] [3] (fun j (z:List ByteArray)=>[(7,.one (.own 7 1 (z.map fun s=>[ls s]))),(9,dv (li j))]) (fun _ _=>[]) (fun j z=>z.length<=k*1048576+j) y (wu hy (jX _ _)) ?_ ?_
  ·intro j s z hs hj hm qs hlt' hw' hz;have hL:=On s (ga s hm);have hH:=Ot z s oa;have lE:(z.length+1)*16<=140737488355328:=oa;clear hm qs;repeat' first|refine gQ ?_|exact gU|(refine eH ?_<;>intro er eN)|(refine dM ?_<;>intro bo eO)|refine gS ?_|exact gT|(first|apply xc|apply gf|apply gt)<;>intro hc
   all_goals first|exact qJ|(intro hz;grind)|exact cC og|exact iq og|skip
   all_goals exact⟨z++[s],ot,qJ⟩
  ·intro z hlt' hz;repeat' first|refine gQ ?_|exact gU|refine gS ?_|exact gT|(first|apply xc|apply gf|apply gt)<;>intro hc
   all_goals exact⟨z,oa,qJ⟩
 intro y qf hy;repeat' first|refine gQ ?_|exact gU|refine gS ?_|exact gT|(first|apply xc|apply gf|apply gt)<;>intro hc
 exact fun _=>hi
def vM(g:List Phon)(xs:List Int):Int:=if xs.length=0 then 4 else if 24<xs.length then 5 else if xs.any (fun n=> !a7 g n)then 19 else 0
abbrev bS:Dl.PL:=fun|8=> Dl.ll 0 5 [(5,.step),(6,.light)]|_=>[]
def Tz(g:List Phon)(n:Int):DCalls pP 247 [dv (li n),dv (.pt [.sl 2 (g.map Phon.enc)])] (dv (lb (!a7 g n))):=by have hc:=Xp g n;simp only[qj]at hc;refine kd (N:=8) (rs:=[.tmp 3]) func247 ?_;exact wA qg
def qbE(g:List Phon)(xs:List Int)(hl:xs.length<=1000000):DCalls pP 158 [dv (.sl 1 (ints xs)),dv (.fn 247 [.pt [.sl 2 (g.map Phon.enc)]])] (dv (li (zG (fun n=> !a7 g n) xs))):=by
 have qi:=qo;refine kd (N:=19) (rs:=[.tmp 4]) func158 ?_;refine uB qg ?_;refine vq xs (fun k=>kn 19 [(0,dv (.sl 1 (ints xs))),(1,dv (.fn 247 [.pt [.sl 2 (g.map Phon.enc)]])),(7,dv (li xs.length)),(8,dv (li k))] qA) (fun k=>∀e∈xs.take k,(!a7 g e)=false) oa kl oh ?_ ?_
 ·intro k e he hk hm qs qf hw hi;have hc:=Tz g e;have ha:=ZQ he
  (repeat' first|(first|refine qC ?_|refine kx hc ?_|apply kU|apply qb);simp only[go_sem,qf,hw,ha]|apply kh<;>intro qe)
  ·rw[z8 he hi qe]
  ·exact⟨qG qs hi qe,kl⟩
 ·intro qf hi;rw[wc]at hi;refine wB qg ?_;rw[z7 hi]
def qcV(g:List Phon)(xs:List Int)(hl:xs.length<=1000000):DCalls pP 120 [dv (.sl 1 (ints xs)),dv (.fn 247 [.pt [.sl 2 (g.map Phon.enc)]])] (dv (lb (xs.any fun n=> !a7 g n))):=by
 refine kd (N:=9) (rs:=[.tmp 4]) func120 ?_
 (repeat' first|(first|refine qC ?_|refine kx (qbE g xs hl) ?_|apply kU|apply qb);simp only[go_sem,cn]|apply kh<;>intro qe)
def s6(g:List Phon)(xs:List Int):DCalls pP 232 [.agg (qj g),dv (.sl 1 (ints xs))] (dv (li (vM g xs))):=by
 refine kd (N:=17) (rs:=[.tmp 4]) func232 ?_;rcases wv ((xs.length:Int)==0)with t1|t1
 ·have n1:xs.length=0:=by grind
  refine wB qg ?_;rw[vM,ae n1]
 have n1: ¬xs.length=0:=og;rcases wv (decide ((24:Int)<(xs.length:Int)))with t2|t2
 ·have n2:24<xs.length:=by grind
  refine wB qg ?_;rw[vM,j7 n1,ae n2]
 have n2: ¬24<xs.length:=og
 (repeat' first|(first|refine qC ?_|apply kU);simp only[go_sem,qj,t1,t2]|apply kh<;>intro qe)
 refine CallC.frz 2 [.sl 2 (g.map Phon.enc)] oh oe ?_;simp +decide only[go_sem]
 (first|refine kx (qcV g xs oa) ?_);simp +decide only[go_sem]
 cases t3:xs.any fun n=> !a7 g n<;>(repeat' first|(first|refine qC ?_|apply kU|apply qb);simp only[go_sem]|apply kh<;>intro qe)<;>simp only[vM,j7 n1,j7 n2,t3]<;>rfl
def IS(g:List Phon)(xs:List Int):DCalls pP 197 [.agg (qj g),dv (.sl 1 (ints xs))] (dv (li (vM g xs))):=by
 have qi:=qo;refine kd (N:=25) (rs:=[.tmp 4]) func197 ?_;rcases wv ((xs.length:Int)==0)with t1|t1
 ·have n1:xs.length=0:=by grind
  (repeat' first|(first|refine qC ?_|refine zU bS ?_|apply kU|apply qb);simp only[go_sem,qj,t1]|apply kh<;>intro qe)
  rw[vM,ae n1]
 have n1: ¬xs.length=0:=og;rcases wv (decide ((24:Int)<(xs.length:Int)))with t2|t2
 ·have n2:24<xs.length:=by grind
  (repeat' first|(first|refine qC ?_|refine zU bS ?_|apply kU|apply qb);simp only[go_sem,qj,t1,t2]|apply kh<;>intro qe)
  rw[vM,j7 n1,ae n2]
 have n2: ¬24<xs.length:=og
 (repeat' first|(first|refine qC ?_|refine zU bS ?_|apply kU);simp only[go_sem,qj,t1,t2]|apply kh<;>intro qe)
 refine vq xs (fun k=>kn 25 [(1,dv (.sl 1 (ints xs))),(2,.one (.bx 2 1 0 0)),(13,dv (li xs.length)),(14,dv (li k))] (ml [(2,[qj g])])) (fun k=>∀e∈xs.take k,(!a7 g e)=false) oa (km (by simp +decide only[go_sem,qj])) oh ?_ ?_
 ·intro k e he hk hm qs qf hw hi;have hc:=Xu g e;have ha:=ZQ he;simp only[qj]at hc;cases t3:a7 g e
  ·rw[t3]at hc;have hB:(xs.any fun n=> !a7 g n)=true:=og
   (repeat' first|(first|refine qC ?_|refine zU bS ?_|refine kx hc ?_|apply kU|apply qb);simp only[go_sem,qf,ha,qj]|apply kh<;>intro qe)
   rw[vM,j7 n1,j7 n2,hB];rfl
  ·rw[t3]at hc
   (repeat' first|(first|refine qC ?_|refine zU bS ?_|refine kx hc ?_|apply kU|apply qb);simp +decide only[go_sem,qf,hw,ha,qj]|apply kh<;>intro qe|((first|apply qy|apply qx)<;>(intro qe;simp +decide only[go_sem,qe,qf,hw,ha,qj])))
   exact⟨qG qs hi (by rw[t3];rfl),Zb⟩
 ·intro qf hi;have hB:(xs.any fun n=> !a7 g n)=false:=og
  (repeat' first|(first|refine qC ?_|refine zU bS ?_|apply kU|apply qb);simp only[go_sem,qf]|apply kh<;>intro qe)
  rw[vM,j7 n1,j7 n2,hB];rfl
def aW{l:List α}{x:α}(h:l[k]? =some x):l.drop k=x::l.drop (k+1):=by obtain⟨hk,e⟩:=wg.1 h;rw[wP hk,e]
def nU{w:World}{xs:List (List Dl.C)}(h:VC w K (.sl sz xs) v):xs.length<=maxLen:=by
 cases h with
 | nil=>simp
 | sl _ _ _ _ _ _ hc hm _ _=>omega
def qek{w:World}{xs:List (List Dl.C)}(h:VC w K (.sl sz xs) v){r:List Dl.C}{c:Dl.C}(hr:r∈xs)(hc:c∈r): ∃v',VC w K c v':=by
 cases h with
 | nil=>grind
 | sl _ _ _ _ cv _ _ _ _ h2=>
  obtain⟨i,hi⟩:=yM.1 hr;obtain⟨j,hj⟩:=yM.1 hc;exact⟨_,h2 i j r c hi hj⟩
def CH{P:Program}{f:am}{ds:List D}{r:D}{p:Prop}(hp:Program.plainF P f=true)(hg: ∀(w:World) (K:qM),(∀d∈ds,∃v,VD w (E0 K) d v)->p)(h:p->DCalls P f ds r):DCalls P f ds r:=by
 unfold DCalls at h⊢;exact⟨hp,fun w K vs hK vo hv=>by
  have:p:=hg w K fun d hd=>by obtain⟨j,hj⟩:=yM.1 hd;have A8:j<ds.length:=og;exact⟨vs[j],hv j d vs[j] hj (wY oa)⟩
  exact(h this).2 w K vs hK vo hv⟩
structure OkE(e:Ent):Prop where
 form:e.form.length<=maxLen
 alts:e.alts.length<=maxLen
 alt: ∀a∈e.alts,a.length<=maxLen
 senses:e.senses.length<=maxLen
 links:e.links.length<=maxLen
 refs:e.refs.length<=maxLen
def qa3{w:World}{E:Env}{e:Ent}(h:VD w E (.agg e.row) v):OkE e:=by
 cases h with
 | agg _ vs hl hr=>
  have vo:vs.size=8:=hl;have hc: ∀(j:Nat) (c:Dl.C),j<8->e.row[j]? =some (.c c)->∃v,VC w E.K c v:=fun j c hj hjr=>by
   have:=hr j _ vs[j] hjr (wY oa);cases this with
   | c _ _ h=>grind
  obtain⟨v1,h1⟩:=hc 1 _ oo rfl;obtain⟨v3,h3⟩:=hc 3 _ oo rfl;obtain⟨v5,h5⟩:=hc 5 _ oo rfl;obtain⟨v6,h6⟩:=hc 6 _ oo rfl;obtain⟨v7,h7⟩:=hc 7 _ oo rfl;refine⟨by simpa using nU h1,by simpa using nU h3,fun a ha=>?_,by simpa using nU h5,by simpa using nU h6,by simpa using nU h7⟩;obtain⟨v',h'⟩:=qek h3 (wN.2 ⟨a,ha,rfl⟩) (yp.2 rfl);simpa using nU h'
def lnk_eq(x y:Lnk):(x.kind==y.kind&&(x.tgt==y.tgt))=decide (x=y):=by rw[y8];cases x;cases y;simp
abbrev oS:Dl.PL:=fun|6=> Dl.ll 0 9 []|_=>[]
abbrev oR:Dl.PL:=fun|6=> Dl.ll 0 9 []|_=>[]
def IJ(xs ys:List Int)(hx:xs.length<=maxLen):DCalls pP 198 [dv (.sl 1 (ints xs)),dv (.sl 1 (ints ys))] (dv (lb (decide (xs=ys)))):=by
 refine kd (N:=26) (rs:=[.tmp 4]) func198 ?_
 (repeat' first|(first|refine qC ?_|refine zU oS ?_|apply kU|apply qb);simp only[go_sem]|apply kh<;>intro qe)
 ·have:xs≠ys:=by grind
  simp[this]
 ·have hl:xs.length=ys.length:=by grind
  refine vq xs (fun k=>kn 26 [(0,dv (.sl 1 (ints xs))),(1,dv (.sl 1 (ints ys))),(12,dv (li xs.length)),(13,dv (li k))] qA) (fun k=>xs.take k=ys.take k) hx kl rfl ?_ ?_
  ·intro k x hx hk hm qs qf hw hi;have hyk:k<ys.length:=oa;have hy:ys[k]? =some ys[k]:=oh;have hx':=ZQ hx;have hy':=ZQ hy
   (repeat' first|(first|refine qC ?_|refine zU oS ?_|apply kU|apply qb);simp only[go_sem,qf,hw,hx',hy']|apply kh<;>intro qe)
   ·have qH:x≠ys[k]:=by grind
    have:xs≠ys:=fun e=>by subst e;rw[hx]at hy;injection hy with hy;exact qH hy
    simp[this]
   ·have he:x=ys[k]:=by grind
    exact⟨by rw[qs,hi,he,<-zy hy],kl⟩
  ·intro qf hi;rw[wc,hl,wc]at hi
   (repeat' first|(first|refine qC ?_|refine zU oS ?_|apply kU|apply qb);simp +decide only[go_sem,qf]|apply kh<;>intro qe|((first|apply qy|apply qx)<;>(intro qe;simp +decide only[go_sem,qe,qf])))
   simp[hi]
def Yq(xs ys:List Int)(hx:xs.length<=maxLen):DCalls pP 209 [dv (.sl 1 (ints xs)),dv (.sl 1 (ints ys))] (dv (lb (decide (xs=ys)))):=by
 refine kd (N:=26) (rs:=[.tmp 4]) func209 ?_
 (repeat' first|(first|refine qC ?_|refine zU oR ?_|apply kU|apply qb);simp only[go_sem]|apply kh<;>intro qe)
 ·have:xs≠ys:=by grind
  simp[this]
 ·have hl:xs.length=ys.length:=by grind
  refine vq xs (fun k=>kn 26 [(0,dv (.sl 1 (ints xs))),(1,dv (.sl 1 (ints ys))),(12,dv (li xs.length)),(13,dv (li k))] qA) (fun k=>xs.take k=ys.take k) hx kl rfl ?_ ?_
  ·intro k x hx hk hm qs qf hw hi;have hyk:k<ys.length:=oa;have hy:ys[k]? =some ys[k]:=oh;have hx':=ZQ hx;have hy':=ZQ hy
   (repeat' first|(first|refine qC ?_|refine zU oR ?_|apply kU|apply qb);simp only[go_sem,qf,hw,hx',hy']|apply kh<;>intro qe)
   ·have qH:x≠ys[k]:=by grind
    have:xs≠ys:=fun e=>by subst e;rw[hx]at hy;injection hy with hy;exact qH hy
    simp[this]
   ·have he:x=ys[k]:=by grind
    exact⟨by rw[qs,hi,he,<-zy hy],kl⟩
  ·intro qf hi;rw[wc,hl,wc]at hi
   (repeat' first|(first|refine qC ?_|refine zU oR ?_|apply kU|apply qb);simp +decide only[go_sem,qf]|apply kh<;>intro qe|((first|apply qy|apply qx)<;>(intro qe;simp +decide only[go_sem,qe,qf])))
   simp[hi]
def qcl(xs:List (List Int))(a:List Int):Bool:=xs.any fun b=>decide (b=a)
def F_(g:List Phon)(seen:List (List Int)):List (List Int)->Int
 | []=>0
 | a::l=>if vM g a≠0 then vM g a else if qcl seen a=true then 8 else F_ g (seen++[a]) l
def eR(g:List Phon)(e:Ent):Int:=
 if vM g e.form≠0 then vM g e.form else if e.cls<1\/20<e.cls then 21 else if 3<e.alts.length then 11 else F_ g [e.form] e.alts
def qg9(f:am)(a:List Int):Prop:=∀b:List Int,b.length<=maxLen->DCalls pP f [dv (.sl 1 (ints b)),dv (.pt [.sl 1 (ints a)])] (dv (lb (decide (b=a))))
def Rs(a:List Int):qg9 325 a:=by
 intro b hb;refine kd (N:=7) (rs:=[.tmp 3]) func325 ?_
 (repeat' first|(first|refine qC ?_|refine kx (Yq b a hb) ?_|apply kU|apply qb);simp only[go_sem]|apply kh<;>intro qe)
def qbJ(f:am)(a:List Int)(hf:qg9 f a)(xs:List (List Int))(hl:xs.length<=maxLen)(hx: ∀b∈xs,b.length<=maxLen):DCalls pP 329 [dv (.sl 1 (xs.map bB)),dv (.fn f [.pt [.sl 1 (ints a)]])] (dv (li (zG (fun b=>decide (b=a)) xs))):=by
 have qi:=qo;refine kd (N:=19) (rs:=[.tmp 4]) func329 ?_;refine uB qg ?_;refine vq xs (fun k=>kn 19 [(0,dv (.sl 1 (xs.map bB))),(1,dv (.fn f [.pt [.sl 1 (ints a)]])),(7,dv (li xs.length)),(8,dv (li k))] qA) (fun k=>∀b∈xs.take k,decide (b=a)=false) oa kl oh ?_ ?_
 ·intro k b hb hk hm qs qf hw hi;have hc:=hf b (hx b hm)
  (repeat' first|(first|refine qC ?_|refine kx hc ?_|apply kU|apply qb);simp only[go_sem,qf,hw,hb,bB]|apply kh<;>intro qe)
  ·rw[z8 hb hi qe]
  ·exact⟨qG qs hi qe,kl⟩
 ·intro qf hi;rw[wc]at hi;refine wB qg ?_;rw[z7 hi]
def qcW(f:am)(a:List Int)(hf:qg9 f a)(xs:List (List Int))(hl:xs.length<=maxLen)(hx: ∀b∈xs,b.length<=maxLen):DCalls pP 324 [dv (.sl 1 (xs.map bB)),dv (.fn f [.pt [.sl 1 (ints a)]])] (dv (lb (qcl xs a))):=by
 refine kd (N:=9) (rs:=[.tmp 4]) func324 ?_;have h:=cn (fun b=>decide (b=a)) xs
 (repeat' first|(first|refine qC ?_|refine kx (qbJ f a hf xs hl hx) ?_|apply kU|apply qb);simp only[go_sem,h]|apply kh<;>intro qe)
 rfl
def Jv(g:List Phon)(e:Ent):DCalls pP 320 [.agg (qj g),.agg e.row] (dv (li (eR g e))):=by
 have qi:=qo;refine CH (p:=OkE e) om (fun w K h=>?_) fun he=>?_
 ·obtain⟨v,hv⟩:=h (.agg e.row) oh;exact qa3 hv
 have hW:=s6 g e.form;simp only[qj]at hW;refine kd (N:=53) (rs:=[.tmp 4]) func320 ?_;rcases wv (vM g e.form !=0)with t1|t1
 ·have n1:vM g e.form≠0:=by grind
  (repeat' first|(first|refine qC ?_|refine kx hW ?_|apply kU|apply qb);simp +decide only[go_sem,t1,Ent.row,qj]|apply kh<;>intro qe|((first|apply qy|apply qx)<;>(intro qe;simp +decide only[go_sem,qe,t1,Ent.row,qj])))
  rw[eR,ae n1]
 have n1: ¬vM g e.form≠0:=og;rcases wv (decide (e.cls<1))with t2|t2
 ·have n2:=aw t2
  (repeat' first|(first|refine qC ?_|refine kx hW ?_|apply kU|apply qb);simp +decide only[go_sem,t1,t2,Ent.row,qj]|apply kh<;>intro qe|((first|apply qy|apply qx)<;>(intro qe;simp +decide only[go_sem,qe,t1,t2,Ent.row,qj])))
  rw[eR,j7 n1,ae (.inl n2)]
 have n2:=of_decide_eq_false t2;rcases wv (decide ((20:Int)<e.cls))with t3|t3
 ·have n3:=aw t3
  (repeat' first|(first|refine qC ?_|refine kx hW ?_|apply kU|apply qb);simp +decide only[go_sem,t1,t2,t3,Ent.row,qj]|apply kh<;>intro qe|((first|apply qy|apply qx)<;>(intro qe;simp +decide only[go_sem,qe,t1,t2,t3,Ent.row,qj])))
  rw[eR,j7 n1,ae (.inr n3)]
 have n3:=of_decide_eq_false t3;rcases wv (decide ((3:Int)<(e.alts.length:Int)))with t4|t4
 ·have n4:3<e.alts.length:=by grind
  (repeat' first|(first|refine qC ?_|refine kx hW ?_|apply kU|apply qb);simp +decide only[go_sem,t1,t2,t3,t4,Ent.row,qj]|apply kh<;>intro qe|((first|apply qy|apply qx)<;>(intro qe;simp +decide only[go_sem,qe,t1,t2,t3,t4,Ent.row,qj])))
  rw[eR,j7 n1,j7 oa,ae n4]
 have n4: ¬3<e.alts.length:=og
 (repeat' first|(first|refine qC ?_|refine kx hW ?_|apply kU);simp +decide only[go_sem,t1,t2,t3,t4,Ent.row,qj]|apply kh<;>intro qe|((first|apply qy|apply qx)<;>(intro qe;simp +decide only[go_sem,qe,t1,t2,t3,t4,Ent.row,qj])))
 refine Wg 6 6 1 ow ?_;refine vq e.alts (fun k=>kn 53 [(2,.one (.bx 2 1 0 0)),(3,.one (.bx 3 8 0 0)),(6,.one (.own 6 1 ((e.form::e.alts.take k).map bB))),(33,dv (.sl 1 (e.alts.map bB))),(34,dv (li e.alts.length)),(35,dv (li k))] (ml [(2,[qj g]),(3,[e.row])])) (fun k=>F_ g (e.form::e.alts.take k) (e.alts.drop k)=eR g e) oa (km (by simp +decide only[go_sem,Ent.row,qj])) (by rw[eR,j7 n1,j7 oa,j7 n4];simp) ?_ ?_
 ·intro k a ha hk hm qs qf hw hi;rw[aW ha,F_]at hi;have hWa:=s6 g a;simp only[qj]at hWa;rcases wv (vM g a !=0)with t5|t5
  ·have n5:vM g a≠0:=by grind
   rw[ae n5]at hi
   (repeat' first|(first|refine qC ?_|refine kx hWa ?_|apply kU|apply qb);simp +decide only[go_sem,qf,ha,t5,Ent.row,qj,bB]|apply kh<;>intro qe|((first|apply qy|apply qx)<;>(intro qe;simp +decide only[go_sem,qe,qf,hw,ha,t5,Ent.row,qj,bB])))
   rw[hi]
  have n5: ¬vM g a≠0:=og;rw[j7 n5]at hi
  (repeat' first|(first|refine qC ?_|refine kx hWa ?_|apply kU);simp +decide only[go_sem,qf,ha,t5,Ent.row,qj,bB]|apply kh<;>intro qe|((first|apply qy|apply qx)<;>(intro qe;simp +decide only[go_sem,qe,qf,hw,ha,t5,Ent.row,qj,bB])))
  refine CallC.frz 8 [.sl 1 (ints a)] oh oe ?_;simp +decide only[go_sem];have sJ:a.length<=maxLen:=he.alt a hm;have dB:(e.form::e.alts.take k).length<=maxLen:=og;have hsa: ∀b∈e.form::e.alts.take k,b.length<=maxLen:=fun b hb=>by
   rcases wJ.1 hb with h|h
   ·rw[h];exact he.form
   ·exact he.alt b (yW h)
  refine kw (qcW _ a (Rs a) (e.form::e.alts.take k) dB hsa) ?_;simp +decide only[go_sem];have vd:(((e.alts.take k).length+1+1)*24<=140737488355328)=True:=og;cases t6:qcl (e.form::e.alts.take k) a
  ·rw[t6,j7 oo]at hi
   (repeat' first|(first|refine qC ?_|apply kU|apply qb);simp +decide only[go_sem,hw,vd]|apply kh<;>intro qe|((first|apply qy|apply qx)<;>(intro qe;simp +decide only[go_sem,qe,qf,hw,ha,t5,t6,vd,Ent.row,qj,bB])))
   refine⟨by rw[qs,<-wD];exact hi,qw rfl (by simp +decide only[go_sem,qs,yt]) oe⟩
  ·rw[t6,ae rfl]at hi
   (repeat' first|(first|refine qC ?_|apply kU|apply qb);simp +decide only[go_sem]|apply kh<;>intro qe|((first|apply qy|apply qx)<;>(intro qe;simp +decide only[go_sem,qe,qf,hw,ha,t5,t6,Ent.row,qj,bB])))
   rw[hi]
 ·intro qf hi
  (repeat' first|(first|refine qC ?_|apply kU|apply qb);simp +decide only[go_sem,qf]|apply kh<;>intro qe|((first|apply qy|apply qx)<;>(intro qe;simp +decide only[go_sem,qe,qf])))
  rw[<-hi];simp[F_]
def ZT(e:Ent):List (List Int):=e.form::e.alts
def uV(e:Ent)(he:e.alts.length<=1048576):DCalls pP 135 [.agg e.row] (dv (.sl 1 ((ZT e).map bB))):=by
 have vd:((1+e.alts.length)*24<=140737488355328)=True:=aB oa;refine kd (N:=9) (rs:=[.tmp 2]) func135 ?_
 (repeat' first|(first|refine qC ?_|apply kU);simp +decide only[go_sem,Ent.row,vd]|apply kh<;>intro qe|((first|apply qy|apply qx)<;>(intro qe;simp +decide only[go_sem,qe,Ent.row,vd])))
 refine ze 2 (dv (.sl 1 ((ZT e).map bB))) (by simp +decide only[go_sem,ZT,wo]) ?_;apply qb;simp +decide only[go_sem]
def HM(seen:List Sns)(g:ByteArray):Bool:=seen.any fun x=>x.gloss==g
def NZ(x s:Sns):DCalls pP 333 [.agg x.row,dv (.pt s.enc)] (dv (lb (x.gloss==s.gloss))):=by
 refine kd (N:=9) (rs:=[.tmp 3]) func333 ?_
 (repeat' first|(first|refine qC ?_|apply kU|apply qb);simp only[go_sem,Sns.row,Sns.enc]|apply kh<;>intro qe)
def qbF(s:Sns)(xs:List Sns)(hl:xs.length<=maxLen):DCalls pP 335 [dv (.sl 2 (xs.map Sns.enc)),dv (.fn 333 [.pt s.enc])] (dv (li (zG (fun x=>x.gloss==s.gloss) xs))):=by
 have qi:=qo;refine kd (N:=19) (rs:=[.tmp 4]) func335 ?_;refine uB qg ?_;refine vq xs (fun k=>kn 19 [(0,dv (.sl 2 (xs.map Sns.enc))),(1,dv (.fn 333 [.pt s.enc])),(7,dv (li xs.length)),(8,dv (li k))] qA) (fun k=>∀x∈xs.take k,(x.gloss==s.gloss)=false) oa kl oh ?_ ?_
 ·intro k x hx hk hm qs qf hw hi;have hc:=NZ x s;simp only[Sns.row]at hc
  (repeat' first|(first|refine qC ?_|refine kx hc ?_|apply kU|apply qb);simp only[go_sem,qf,hw,hx,Sns.enc]|apply kh<;>intro qe)
  ·rw[z8 hx hi qe]
  ·exact⟨qG qs hi qe,kl⟩
 ·intro qf hi;rw[wc]at hi;refine wB qg ?_;rw[z7 hi]
def R7(s:Sns)(xs:List Sns)(hl:xs.length<=maxLen):DCalls pP 332 [dv (.sl 2 (xs.map Sns.enc)),dv (.fn 333 [.pt s.enc])] (dv (lb (HM xs s.gloss))):=by
 have h:=cn (fun x:Sns=>x.gloss==s.gloss) xs;refine kd (N:=9) (rs:=[.tmp 4]) func332 ?_
 (repeat' first|(first|refine qC ?_|refine kx (qbF s xs hl) ?_|apply kU|apply qb);simp only[go_sem,h]|apply kh<;>intro qe)
 rfl
def UF(xs:List Sns)(g:ByteArray)(hl:xs.length<=maxLen):DCalls pP 230 [dv (.sl 2 (xs.map Sns.enc)),dv (ls g)] (dv (lb (HM xs g))):=by
 have qi:=qo;refine kd (N:=19) (rs:=[.tmp 4]) func230 ?_;refine uB qg ?_;refine vq xs (fun k=>kn 19 [(0,dv (.sl 2 (xs.map Sns.enc))),(1,dv (ls g)),(5,dv (li k))] qA) (fun k=>∀x∈xs.take k,(x.gloss==g)=false) oa kl oh ?_ ?_
 ·intro k x hx hk hm qs qf hw hi
  (repeat' first|(first|refine qC ?_|apply kU|apply qb);simp only[go_sem,qf,hw,hx,Sns.enc]|apply kh<;>intro qe)
  ·rw[HM,xJ hx qe]
  ·exact⟨qG qs hi qe,kl⟩
 ·intro qf hi;refine wB qg ?_;rw[HM,gE hi]
abbrev KH:Dl.PL:=fun|1=> Dl.ll 0 9 [(9,.step),(10,.light),(11,.step),(12,.light)]|_=>[]
def qe6(xs:List Int)(hl:xs.length<=maxLen):DCalls pP 129 [dv (.sl 1 (ints xs))] (dv (li (XH xs))):=by
 have qi:=qo;refine kd (N:=18) (rs:=[.tmp 2]) func129 ?_;refine uB qg ?_;refine vq xs (fun k=>kn 18 [(3,dv (li 0)),(6,dv (.sl 1 (ints xs))),(7,dv (li xs.length)),(8,dv (li k))] qA) (fun k=>XH (xs.drop k)=XH xs) oa kl oh ?_ ?_
 ·intro k x hx hk hm qs qf hw hi;have hx':=ZQ hx;rw[aW hx,XH]at hi;rcases wv (x !=0)with t1|t1
  ·rw[j7 (by simpa using t1)]at hi
   (repeat' first|(first|refine qC ?_|apply kU|apply qb);simp only[go_sem,qf,hx',t1]|apply kh<;>intro qe)
   rw[hi]
  ·rw[ae (by simpa using t1)]at hi
   (repeat' first|(first|refine qC ?_|apply kU|apply qb);simp only[go_sem,qf,hw,hx',t1]|apply kh<;>intro qe)
   exact⟨hi,kl⟩
 ·intro qf hi;refine wB qg ?_;rw[<-hi];simp[XH]
def qe5(a b:Lnk):Int:=XH [Zo a.kind b.kind,Zo a.tgt b.tgt]
def UT(a b:Lnk):DCalls pP 328 [.agg a.row,.agg b.row] (dv (li (qe5 a b))):=by
 have hO:=qe6 [Zo a.kind b.kind,Zo a.tgt b.tgt] (show 2<=maxLen by decide);refine kd (N:=17) (rs:=[.tmp 4]) func328 ?_
 (repeat' first|(first|refine qC ?_|refine zU KH ?_|refine kx (nv a.kind b.kind) ?_|refine kx (nv a.tgt b.tgt) ?_|refine kx hO ?_|apply kU|apply qb);simp +decide only[go_sem,Lnk.row]|apply kh<;>intro qe|((first|apply qy|apply qx)<;>(intro qe;simp +decide only[go_sem,qe,Lnk.row])))
 rfl
structure MidE(e:Ent):Prop where
 form:e.form.length<=1048576
 alts:e.alts.length<=1048576
 alt: ∀a∈e.alts,a.length<=1048576
 senses:e.senses.length<=1048576
 links:e.links.length<=1048576
 refs:e.refs.length<=1048576
 strs: ∀s∈e.senses,s.gloss.size<=1048576/\s.txt.size<=1048576
end
def Su(l:List Ent)(id:Int):Nat->Nat->Nat->Nat
 | 0,i,_=>i
 | n+1,i,j=>if i<j then(match l[(i+j) / 2]? with
  | some e=>if e.id<id then Su l id n ((i+j) / 2+1) j else Su l id n i ((i+j) / 2)
  | none=>i)else i
def bv(l:List Ent)(id:Int):Nat:=Su l id l.length 0 l.length
def Zd(l:List Ent)(id:Int):Bool:=match l[bv l id]? with
 | some e=>e.id==id
 | none=>false
def ZB(l:List Ent)(id:Int):Bool:=l.any fun e=>e.id==id
def C5(l:List Ent):Prop:=l.Pairwise fun a b=>a.id<b.id
end Go.Proofs.YtobpcppcjdnkmaaGreat
namespace Go.Proofs.YtobpcppcjdnkmaaGreat.S
open Go.Proofs.Tryz
open Go.Dl
attribute [local irreducible] DW DCalls ECalls wk IW
abbrev li(n:Int):C:=.lit (.int .i64 n)
abbrev lb(b:Bool):C:=.lit (.bool b)
abbrev dv(c:C):D:=.one (.c c)
abbrev ints(xs:List Int):List (List C):=xs.map fun x=>[li x]
def J1(xs:List Int)(hl:xs.length<=maxLen):It pP 143 [dv (.pt [.sl 1 (ints xs)])] (xs.map fun x=>[dv (li x)]):=by
 refine la om func143 rfl rfl oh (by have:=qX;simp;omega) ?_;intro n l J hJ hY;refine QP (Zj hJ ?_);refine uB qg ?_;refine dQ ?_;refine Cb (fun k:Nat=>kn 16 [(0,dv (.lit (.func (.yield l) #[] #[]))),(5,dv (.sl 1 (ints xs))),(6,dv (li xs.length)),(7,dv (li k))] qA) (fun k=>some k) (fun k=>k<=xs.length) (fun k=>xs.length - k) 0 (cX rfl oe) rfl oa ?_;intro k hk;refine QP (Zj hJ ?_);refine uB qg ?_;refine QP ?_;refine ZP ow ?_ ?_
 ·intro hc;have hk':k<xs.length:=og;refine eJ ?_;simp +decide only[go_sem];refine QP ?_;refine dQ ?_;refine QP (Zj hJ ?_);have hx:xs[k]? =some xs[k]:=oh;refine uB qg ?_;refine QP ?_;refine o0 hJ hY 2 rfl om ?_;simp only[wV,wy,yh,yC,wo,wm];simp +decide only[go_sem];refine⟨true,rfl,fun h=>(by cases h),fun _=>⟨_,_,_,k,[dv (li xs[k])],rfl,oe,rfl,by simp[hx],DLeL.of_eq oe,fun b=>?_⟩⟩;simp +decide only[go_sem];cases b
  ·refine ZP ow (fun _=>Hw ?_) (fun h=>by cases h);simp +decide only[go_sem];exact .inr rfl
  ·refine ZP ow (fun h=>by cases h) (fun _=>eJ ?_);simp +decide only[go_sem];refine Zj hJ ?_;have hw:=zx k oa;refine uB qg ?_;exact⟨k+1,oa,oa,cX rfl oe,rfl⟩
 ·intro hc;have hk':k=xs.length:=og;refine Cc ?_;simp +decide only[go_sem];simp[Jh,hk']
end Go.Proofs.YtobpcppcjdnkmaaGreat.S
namespace Go.Proofs.YtobpcppcjdnkmaaGreat
open Go.Proofs.Tryz
open Go.Shelf
def Kk:Go.Shelf.Ren:=⟨fun|5=>142|8=>138|7=>192|19=>189|20=>190|10=>217|11=>218|12=>219|13=>220|14=>221|15=>222|16=>223|17=>224|18=>225|30=>243|31=>213|32=>214|33=>244|34=>245|35=>139|40=>254|n=>n,fun|23=>31|25=>3|3=>3|32=>225|22=>31|0=>0|44=>288|46=>290|4=>4|36=>282|35=>281|41=>196|5=>5|9=>9|53=>310|57=>314|63=>332|64=>293|n=>n,fun|n=>n⟩
def Xk:Go.Proofs.SlLaysM.n5 pP Kk:={
 mixed:=om
 f5:=⟨Tryz.f142.name,oo,func142.trans (af some om)⟩
 f7:=⟨Tryz.f192.name,oo,func192.trans (af some om)⟩
 f8:=func138.trans (af some om)
 f10:=⟨Tryz.f217.name,oo,func217.trans (af some om)⟩
 f11:=⟨Tryz.f218.name,oo,func218.trans (af some om)⟩
 f12:=⟨Tryz.f219.name,oo,func219.trans (af some om)⟩
 f13:=⟨Tryz.f220.name,oo,func220.trans (af some om)⟩
 f14:=⟨Tryz.f221.name,oo,func221.trans (af some om)⟩
 f15:=⟨Tryz.f222.name,oo,func222.trans (af some om)⟩
 f16:=⟨Tryz.f223.name,oo,func223.trans (af some om)⟩
 f17:=⟨Tryz.f224.name,oo,func224.trans (af some om)⟩
 f18:=⟨Tryz.f225.name,oo,func225.trans (af some om)⟩
 f19:=func189.trans (af some om)
 f20:=func190.trans (af some om)
 f30:=⟨Tryz.f243.name,oo,func243.trans (af some om)⟩
 f31:=func213.trans (af some om)
 f32:=func214.trans (af some om)
 f33:=⟨Tryz.f244.name,oo,func244.trans (af some om)⟩
 f34:=⟨Tryz.f245.name,oo,func245.trans (af some om)⟩
 f35:=⟨Tryz.f139.name,oo,func139.trans (af some om)⟩
 f40:=⟨Tryz.f254.name,oo,func254.trans (af some om)⟩
 t0:=underlying0
 a0:=Tryz.isAgg0
 z0:=Tryz.sizeOf0
 v0:=Tryz.zeroValue0
 t3:=underlying3
 a3:=Tryz.isAgg3
 z3:=Tryz.sizeOf3
 v3:=Tryz.zeroValue3
 t4:=underlying4
 a4:=Tryz.isAgg4
 z4:=Tryz.sizeOf4
 v4:=Tryz.zeroValue4
 t5:=underlying5
 a5:=Tryz.isAgg5
 z5:=Tryz.sizeOf5
 v5:=Tryz.zeroValue5
 t9:=underlying9
 a9:=Tryz.isAgg9
 z9:=Tryz.sizeOf9
 v9:=Tryz.zeroValue9
 t22:=underlying31
 a22:=Tryz.isAgg31
 z22:=Tryz.sizeOf31
 v22:=Tryz.zeroValue31
 t23:=underlying31
 a23:=Tryz.isAgg31
 z23:=Tryz.sizeOf31
 v23:=Tryz.zeroValue31
 t25:=underlying3
 a25:=Tryz.isAgg3
 z25:=Tryz.sizeOf3
 v25:=Tryz.zeroValue3
 t32:=underlying225
 a32:=Tryz.isAgg225
 z32:=Tryz.sizeOf225
 v32:=Tryz.zeroValue225
 t35:=underlying281
 a35:=Tryz.isAgg281
 z35:=Tryz.sizeOf281
 v35:=Tryz.zeroValue281
 t36:=underlying282
 a36:=Tryz.isAgg282
 z36:=Tryz.sizeOf282
 v36:=Tryz.zeroValue282
 t41:=underlying196
 a41:=Tryz.isAgg196
 z41:=Tryz.sizeOf196
 v41:=Tryz.zeroValue196
 t44:=underlying288
 a44:=Tryz.isAgg288
 z44:=Tryz.sizeOf288
 v44:=Tryz.zeroValue288
 t46:=underlying290
 a46:=Tryz.isAgg290
 z46:=Tryz.sizeOf290
 v46:=Tryz.zeroValue290
 t53:=underlying310
 a53:=Tryz.isAgg310
 z53:=Tryz.sizeOf310
 v53:=Tryz.zeroValue310
 t57:=underlying314
 a57:=Tryz.isAgg314
 z57:=Tryz.sizeOf314
 v57:=Tryz.zeroValue314
 t63:=underlying332
 a63:=Tryz.isAgg332
 z63:=Tryz.sizeOf332
 v63:=Tryz.zeroValue332
 t64:=underlying293
 a64:=Tryz.isAgg293
 z64:=Tryz.sizeOf293
 v64:=Tryz.zeroValue293 }
end Go.Proofs.YtobpcppcjdnkmaaGreat
namespace Go.Proofs.YtobpcppcjdnkmaaGreat.S
open Go.Proofs.Tryz
open Go.Dl
attribute [local irreducible] DW DCalls ECalls wk IW
def Nq(xs:List Int):DCalls pP 82 [dv (.sl 1 (ints xs))] (dv (.fn 143 [.pt [.sl 1 (ints xs)]])):=by refine kd (N:=4) (rs:=[.tmp 2]) func82 ?_;refine uB qg ?_;refine Q3 1 [.sl 1 (ints xs)] oh oe ?_;apply qb;simp +decide only[go_sem]
def PI(r:Ren)(xs:List Int):Dl.Rows.tr r (qQ xs)=qQ xs:=by simp[qQ,Dl.Rows.tr,T.trAll,T.tr]
def ES(xs:List Int):RowsSz 1 (qQ xs):=fun r hr=>by obtain⟨x,_,rfl⟩:=wN.1 hr;rfl
def bT(xs:List Int):(qQ xs).length=xs.length:=by simp[qQ]
def AV(xs ys:List Int):qQ (xs++ys)=qQ xs++qQ ys:=by simp[qQ]
attribute [go_sem] PI
def FP(xs:List Int)(hl:xs.length<=1000000):ECalls pP 191 [dv (.lit (.slice none 0 0)),dv (.fn 143 [.pt [.sl 1 (ints xs)]])] qA
  (fun r H'=>∃j,r= .one (.ba 0 1 0 xs.length (xs.length+j))/\H'=ml [(0,qQ xs++qa j 1)]):=by
 have qi:=qo;refine Qn (N:=13) (rs:=[.tmp 4]) om func191 rfl rfl rfl oh ?_;refine uB qg ?_;refine qn (Kb 2 1 oe) ?_;refine qn (eo (i:=0) (j:=0) 2 1000 1 1 (rows:=[[.ex 1 []]]) (r:=[.ex 1 []]) oe oo rfl rfl) ?_;refine HY 13 vJ [2] (fun k (j:Nat)=>kn 13 [(2,.one (.bx 2 1 0 0))] (ml [(2,[[.ba 1000 1 0 k (k+j)]]),(1000,qQ (xs.take k)++qa j 1)])) (fun k j=>True) 0 trivial rfl rfl oo oC (J1 xs oa)
  (Zb) (fun _ _=>rfl) (by intro ds h;obtain⟨c,_,rfl⟩:=wN.1 h;rfl) ?_ ?_
 ·intro k ds j hk _;simp only[wh,wK]at hk;obtain⟨x,hx,rfl⟩:=hk;have bw:k<xs.length:=og;have qs:(xs.take k).length=k:=og;refine uB qg ?_;refine StepC.mk (Step.appendList (n:=1000) (rows:=qQ (xs.take k)) (ys:=qQ [x]) (j:=j) (sz:=1) (by_:=8) rfl rfl oe (by simp +decide only[go_sem,bT,qs]) oe (ES _) (.ex [[li x]]) (by simp[qQ];omega) ?_);intro j';simp +decide only[go_sem,bT,qs];refine uB qg ?_;refine⟨_,zB 11 1000 oo,?_⟩;refine⟨j',km (by simp +decide only[go_sem];rw[zy hx,AV,wS])⟩
 ·intro j _;rw[wn,wc];refine uB qg ?_;refine qn (DS.Sub.trans (zB 1000 0 oo) (qw (N:=13) (sls:=[(4,.one (.ba 0 1 0 xs.length (xs.length+j)))]) (bxs:=[(0,qQ xs++qa j 1)]) rfl oe oe)) ?_;apply qb;simp +decide only[go_sem];exact⟨j,rfl,rfl⟩
def Ma(xs:List Int)(hl:xs.length<=1000000):ECalls pP 141 [dv (.fn 143 [.pt [.sl 1 (ints xs)]])] qA
  (fun r H'=>∃j,r= .one (.ba 0 1 0 xs.length (xs.length+j))/\H'=ml [(0,qQ xs++qa j 1)]):=by
 refine Qn (N:=5) (rs:=[.tmp 2]) om func141 rfl rfl rfl oh ?_;refine uB qg ?_;refine CallC.eff [] (FP xs hl) rfl (DLeL.of_eq oe) (fun k r h=>by cases h) (by constructor<;>simp) ?_;rintro r H' ⟨j,rfl,rfl⟩;simp +decide only[go_sem];refine qn (DS.Sub.trans (zB 4 0 oo) (qw (N:=5) (sls:=[(2,.one (.ba 0 1 0 xs.length (xs.length+j)))]) (bxs:=[(0,qQ xs++qa j 1)]) rfl oe (by simp +decide only[go_sem,qF]))) ?_;apply qb;simp +decide only[go_sem];exact⟨j,rfl,rfl⟩
def Ub(q cap:Nat)(H:vT)(xs:List Int)(js:Dl.Rows)(hq:H q=some (qQ xs++js))(E8:RowsSz 1 js)(hl:xs.length<4611686018427387904):
  ECalls pP 142 [.one (.ba q 1 0 xs.length cap)] H (fun r H'=>r= .tup []/\H'=fun k=>if k=q then some (qQ (xs.mergeSort fun x y=>decide (x<=y))++js)else H k):=
 qay om (AnyM.slices_Sort_int Xk) (AnyM.slices_Sort_int_none Xk) q cap H xs js hq E8 hl
abbrev srt(xs:List Int):List Int:=xs.mergeSort fun x y=>decide (x<=y)
theorem srt_len(xs:List Int):(srt xs).length=xs.length:=oh
def Kj(xs:List Int)(hl:xs.length<=1000000):ECalls pP 81 [dv (.fn 143 [.pt [.sl 1 (ints xs)]])] qA
  (fun r H'=>∃j,r= .one (.ba 0 1 0 xs.length (xs.length+j))/\H'=ml [(0,qQ (srt xs)++qa j 1)]):=by
 refine Qn (N:=9) (rs:=[.tmp 2]) om func81 rfl rfl rfl oh ?_;refine uB qg ?_;refine CallC.eff [] (Ma xs hl) rfl (DLeL.of_eq oe) (fun k r h=>by cases h) (by constructor<;>simp) ?_;rintro r H' ⟨j,rfl,rfl⟩;simp +decide only[go_sem];refine uB qg ?_;refine CallC.eff [5] (Ub (5+NB) (xs.length+j) (fun k=>if k=5+NB then some (qQ xs++qa j 1)else none) xs (qa j 1) oh (zm j 1) oa) rfl (DLeL.of_eq oe) (fun k r h=>?_) (by constructor<;>simp[mid]) ?_
 ·by_cases hk:k=5+NB
  ·subst hk;simp +decide only[go_sem]at h;subst h;simp +decide only[go_sem,qF,vf]
  ·simp +decide only[go_sem,hk]at h
 rintro r H' ⟨rfl,rfl⟩;simp +decide only[go_sem];refine uB qg ?_;refine qn (DS.Sub.trans (zB 5 0 oo) (qw (N:=9) (sls:=[(2,.one (.ba 0 1 0 xs.length (xs.length+j)))]) (bxs:=[(0,qQ (srt xs)++qa j 1)]) rfl oe (by simp +decide only[go_sem,qF]))) ?_;apply qb;simp +decide only[go_sem];exact⟨j,rfl,rfl⟩
end Go.Proofs.YtobpcppcjdnkmaaGreat.S
namespace Go.Proofs.YtobpcppcjdnkmaaGreat
open Go.Proofs.Tryz
abbrev kpm0:List (Nat×Dl.Mode):= Dl.ll 0 10 []
abbrev kq0:Dl.PL:=fun|6=>kpm0|11=>kpm0|_=>[]
end Go.Proofs.YtobpcppcjdnkmaaGreat
namespace Go.Proofs.YtobpcppcjdnkmaaGreat.S
open Go.Proofs.Tryz
open Go.Dl
attribute [local irreducible] DW DCalls ECalls wk IW
def cptF(p:Option Int):List Int->List Int
 | []=>[]
 | x::r=>if p=some x then cptF (some x) r else x::cptF (some x) r
def cpt(xs:List Int):List Int:=cptF none xs
def pI(x:Int): ∀(l:List Int) (p:Option Int),cptF p (l++[x])=cptF p l++if(l.getLast?.or p)=some x then []else [x]
 | [],p=>by by_cases h:p=some x<;>simp[cptF,h]
 | y::l,p=>by
  simp only[wD,cptF];have hl:((y::l).getLast?.or p)=(l.getLast?.or (some y)):=og;rw[hl];split
  ·exact pI x l (some y)
  ·rw[pI x l (some y)];rfl
def xg{xs:List Int}{k:Nat}{x y:Int}(hx:xs[k+1]? =some x)(hy:xs[k]? =some y):cpt (xs.take (k+2))=cpt (xs.take (k+1))++if y=x then []else [x]:=by have h1:xs.take (k+2)=xs.take (k+1)++[x]:=zy hx;have h2:(xs.take (k+1)).getLast? =some y:=og;rw[cpt,h1,pI,h2];simp[cpt]
def cptF_len: ∀(l:List Int) (p:Option Int),(cptF p l).length<=l.length
 | [],p=>by simp[cptF]
 | x::l,p=>by
  simp only[cptF];split
  ·have:=cptF_len l (some x);simp;omega
  ·have:=cptF_len l (some x);simp;omega
def CM{xs:List Int}{k:Nat}(h: ∀i x y,i+1<k->xs[i]? =some x->xs[i+1]? =some y->x≠y)(hk:k<=xs.length):cpt (xs.take k)=xs.take k:=by
 induction k with
 | zero=>simp[cpt,cptF]
 | succ k ih=>
  have ih':=ih (fun i x y hi=>h i x y oa) oa;cases k with
  | zero=>
   cases xs with
   | nil=>grind
   | cons x xs=>simp[cpt,cptF]
  | succ k=>
   have h1:xs[k+1]? =some xs[k+1]:=oh;have h0:xs[k]? =some xs[k]:=oh;rw[xg h1 h0,j7 (h k _ _ oa h0 h1),ih',<-zy h1]
def uF{zs:List Int}{js:Dl.Rows}{i:Nat}{x:Int}(h:zs[i]? =some x):(qQ zs++js)[i]? =some [T.c (li x)]:=by rw[wU (by rw[bT];exact(wg.1 h).1)];exact o9 h
def LB{zs:List Int}{js:Dl.Rows}{i:Nat}{x:Int}(h:i<zs.length):(qQ zs++js).set i [T.c (li x)]=qQ (zs.set i x)++js:=by rw[List.set_append_left _ _ (by rw[bT];exact h)];simp[qQ,List.map_set]
def L9(xs:List Int)(j q:Nat)(hq:NB<=q)(hl:xs.length<=1000000):ECalls pP 80 [.one (.ba q 1 0 xs.length (xs.length+j))] (ml [(q,qQ xs++qa j 1)])
  (fun r H'=>∃j',r= .one (.ba q 1 0 (cpt xs).length (xs.length+j))/\H'=ml [(q,qQ (cpt xs)++qa j' 1)]):=by
 have qi:=qo;have h64: ∀z:Int,-1<=z->z<=10000000->IntKind.wrap .i64 z=z:=fun z h1 h2=>wrap_i64 oa oa;refine Qn (N:=61) (rs:=[.tmp 2]) om func80 rfl rfl rfl oh ?_
 (repeat(first|apply qk|apply qm|((first|refine qC ?_|refine zU kq0 ?_|apply qt|apply qv);simp +decide only[go_sem])))
 apply qW;(simp +decide only[go_sem];rfl)
 ·intro hc;have hs:cpt xs=xs:=by have:=CM (xs:=xs) (k:=xs.length) (fun i x y hi=>by simp at hc;omega) (wl _);rwa [wc]at this
  (repeat(first|apply qk|apply qm|((first|refine qC ?_|refine zU kq0 ?_|apply qt|apply qv);simp +decide only[go_sem])))
  refine qn (qw (N:=61) (sls:=[(2,.one (.ba q 1 0 xs.length (xs.length+j)))]) (bxs:=[(q,qQ xs++qa j 1)]) rfl oe oe) ?_;apply qb;simp +decide only[go_sem];exact⟨j,by rw[hs],by rw[hs];rfl⟩
 ·intro hc;have Th:2<=xs.length:=og
  (repeat(first|apply qk|apply qm|((first|refine qC ?_|refine zU kq0 ?_|apply qt|apply qv);simp +decide only[go_sem])))
  refine q8 (fun m:Nat=>kn 61 [(0,.one (.ba q 1 0 xs.length (xs.length+j))),(3,dv (li m))] (ml [(q,qQ xs++qa j 1)]))
   (fun m=>1<=m/\m<=xs.length/\∀i x y,i+1<m->xs[i]? =some x->xs[i+1]? =some y->x≠y) (fun k=>xs.length - k) 1 (Zb) ⟨oa,oa,fun i x y hi=>oa⟩ ?_
  rintro m ⟨hm1,hm,zW⟩
  (repeat(first|apply qk|apply qm|((first|refine qC ?_|refine zU kq0 ?_|apply qt|apply qv);simp +decide only[go_sem])))
  apply qW;(simp +decide only[go_sem];rfl)
  ·intro h1;have hk':m<xs.length:=og;have hx:xs[m]? =some xs[m]:=oh;have bw:m - 1<xs.length:=oa;have hy:xs[m - 1]? =some xs[m - 1]:=oh;have hw:IntKind.wrap .i64 ((m:Int) - 1)=((m - 1:Nat):Int):=og;have hRx:=uF (js:=qa j 1) hx;have hRy:=uF (js:=qa j 1) hy
   (repeat(first|apply qk|apply qm|((first|refine qC ?_|refine zU kq0 ?_|apply qt|apply qv);simp +decide only[go_sem,hw,hRx,hRy,hk',bw])))
   apply qW;(simp +decide only[go_sem];rfl)
   ·intro h2;have vh:xs.length<=xs.length+j:=oa
    (repeat(first|apply qk|apply qm|((first|refine qC ?_|refine zU kq0 ?_|apply qt|apply qv);simp +decide only[go_sem,hm,vh])))
    have Vz:xs[m - 1]=xs[m]:=og;have nQ:cpt (xs.take (m+1))=xs.take m:=by obtain⟨k,rfl⟩: ∃k,m=k+1:=⟨m - 1,oa⟩;rw[xg hx hy,ae (by simpa using Vz),yG,CM zW hm]
    refine q8 (fun d:Nat=>kn 61 [(0,.one (.ba q 1 0 xs.length (xs.length+j))),(3,dv (li (cpt (xs.take (m+d))).length)),(4,.one (.ba q 1 m (xs.length - m) (xs.length+j - m))),(5,dv (li d))] (ml [(q,qQ (cpt (xs.take (m+d))++xs.drop (cpt (xs.take (m+d))).length)++qa j 1)]))
     (fun d=>1<=d/\m+d<=xs.length/\(cpt (xs.take (m+d))).length<m+d) (fun d=>xs.length - d) 1 (qw rfl (by simp +decide only[go_sem,nQ,ym,jG hm]) (by simp +decide only[go_sem,nQ,ym,jG hm,yf])) ⟨oa,oa,by rw[nQ];simp;omega⟩ ?_
    rintro d ⟨hd1,hd,MN⟩;obtain⟨C,hC⟩: ∃C,C=cpt (xs.take (m+d)):=⟨_,rfl⟩;rw[<-hC]at MN ⊢
    (repeat(first|apply qk|apply qm|((first|refine qC ?_|refine zU kq0 ?_|apply qt|apply qv);simp +decide only[go_sem])))
    apply qW;(simp +decide only[go_sem];rfl)
    ·intro h3;have qdW:m+d<xs.length:=og;have hZ: ∀i (h:i<xs.length),C.length<=i->(qQ (C++xs.drop C.length)++qa j 1)[i]? =some [T.c (li xs[i])]:=fun i h hi=>uF (by
      rw[wL hi,yl,show C.length+(i - C.length)=i by omega,wa h])
     have hm1d:m+d - 1<xs.length:=oa;have hZ1:=hZ (m+d) qdW oa;have hZ2:=hZ (m+d - 1) hm1d oa;have rG:IntKind.wrap .i64 ((d:Int) - 1)=((d - 1:Nat):Int):=og;have VE:IntKind.wrap .i64 ((d:Int)+1)=((d+1:Nat):Int):=og;have hw4:IntKind.wrap .i64 ((C.length:Int)+1)=((C.length+1:Nat):Int):=og;have hdm:m+(d - 1)=m+d - 1:=oa;have hdn:d<xs.length - m:=oa;have hdn1:d - 1<xs.length - m:=oa;have qd9:C.length<xs.length:=oa
     (repeat(first|apply qk|apply qm|((first|refine qC ?_|refine zU kq0 ?_|apply qt|apply qv);simp +decide only[go_sem,rG,hdm,hZ1,hZ2,hdn,hdn1])))
     have Z9:cpt (xs.take (m+(d+1)))=C++if xs[m+d - 1]=xs[m+d]then []else [xs[m+d]]:=by rw[hC,show m+(d+1)=(m+d - 1)+2 by omega];have e1:(m+d - 1)+1=m+d:=oa;rw[xg (k:=m+d - 1) (x:=xs[m+d]) (y:=xs[m+d - 1]) (by rw[e1];exact wa qdW) (wa hm1d),e1]
     apply qW;(simp +decide only[go_sem];rfl)
     ·intro h4;have qH: ¬xs[m+d - 1]=xs[m+d]:=og;rw[j7 qH]at Z9;have hZC:(qQ (C++xs.drop C.length)++qa j 1)[C.length]? =some [T.c (li xs[C.length])]:=og;have pd:(qQ (C++xs.drop C.length)++qa j 1).set C.length [T.c (li xs[m+d])]=qQ ((C++[xs[m+d]])++xs.drop (C.length+1))++qa j 1:=by rw[LB ot];congr 2;rw[List.set_append_right _ _ (wl _),wP qd9,Nat.sub_self,List.set_cons_zero,wS];rfl
      (repeat(first|apply qk|apply qm|((first|refine qC ?_|refine zU kq0 ?_|apply qt|apply qv);simp +decide only[go_sem,hZ1,hdn,hZC,pd,VE,hw4,qd9])))
      refine⟨d+1,⟨oa,oa,by rw[Z9];simp;omega⟩,oa,qw rfl (by simp +decide only[go_sem,Z9,wz]) (by simp +decide only[go_sem,Z9,wz])⟩
     ·intro h4;have heq:xs[m+d - 1]=xs[m+d]:=og;rw[ae heq,yG]at Z9;apply qt;simp +decide only[go_sem]
      (repeat(first|apply qk|apply qm|((first|refine qC ?_|refine zU kq0 ?_|apply qt|apply qv);simp +decide only[go_sem,VE])))
      refine⟨d+1,⟨oa,oa,by rw[Z9];omega⟩,oa,qw rfl (by simp +decide only[go_sem,Z9]) (by simp +decide only[go_sem,Z9])⟩
    ·intro h3;have qdW:m+d=xs.length:=og;rw[qdW,wc]at hC;have qd9:C.length<=xs.length:=oa;have hCj:C.length<=xs.length+j:=oa;have qcp:=wM C.length
     (repeat(first|apply qk|apply qm|((first|refine qC ?_|refine zU kq0 ?_|apply qt|apply qv);simp +decide only[go_sem,qd9,vh])))
     have lF:(qQ (C++xs.drop C.length)).length=xs.length:=by rw[bT];simp;omega
     refine StepC.mk (Step.clear (n:=q) (rows:=qQ (C++xs.drop C.length)++qa j 1) (i:=C.length) (len:=xs.length - C.length) (cap:=xs.length+j - C.length) (sz:=1) (by_:=8) rfl oe oe oe (by rw[wz,lF];omega)
      (fun r hr=>(wF.1 hr).elim (ES _ r) (zm j 1 r)) ?_)
     have mW:(qQ (C++xs.drop C.length)++qa j 1).take C.length++(qa (xs.length - C.length) 1++(qQ (C++xs.drop C.length)++qa j 1).drop (C.length+(xs.length - C.length)))=qQ C++qa (xs.length - C.length+j) 1:=by rw[show C.length+(xs.length - C.length)=(qQ (C++xs.drop C.length)).length by rw[lF];omega,List.drop_left,AV,wS,List.take_left' (bT C)];congr 1;simp[qa,jj]
     rw[mW];simp +decide only[go_sem]
     (repeat(first|apply qk|apply qm|((first|refine qC ?_|refine zU kq0 ?_|apply qt|apply qv);simp +decide only[go_sem,hCj,qcp,jW])))
     refine qn (qw (N:=61) (sls:=[(2,.one (.ba q 1 0 C.length (xs.length+j)))]) (bxs:=[(q,qQ C++qa (xs.length - C.length+j) 1)]) rfl oe oe) ?_;apply qb;simp +decide only[go_sem];exact⟨_,by rw[hC],by rw[hC];rfl⟩
   ·intro h2;have qH: ¬xs[m - 1]=xs[m]:=og;have VE:IntKind.wrap .i64 ((m:Int)+1)=((m+1:Nat):Int):=og;apply qt;simp +decide only[go_sem]
    (repeat(first|apply qk|apply qm|((first|refine qC ?_|refine zU kq0 ?_|apply qt|apply qv);simp +decide only[go_sem,VE])))
    refine⟨m+1,⟨oa,oa,fun i x y hi g1 g2=>?_⟩,oa,Zb⟩;rcases yD (i+1) m with qf|dC
    ·grind
    ·grind
  ·intro h1;have VP:m=xs.length:=og;have hs:cpt xs=xs:=by have:=CM zW hm;rwa [VP,wc]at this
   (repeat(first|apply qk|apply qm|((first|refine qC ?_|refine zU kq0 ?_|apply qt|apply qv);simp +decide only[go_sem])))
   refine qn (qw (N:=61) (sls:=[(2,.one (.ba q 1 0 xs.length (xs.length+j)))]) (bxs:=[(q,qQ xs++qa j 1)]) rfl oe oe) ?_;apply qb;simp +decide only[go_sem];exact⟨j,by rw[hs],by rw[hs];rfl⟩
def usort(xs:List Int):List Int:=cpt (srt xs)
def usort_len(xs:List Int):(usort xs).length<=xs.length:=by have:=cptF_len (srt xs) none;rw[srt_len]at this;exact this
def qbA(xs:List Int):(ints xs).map (List.map T.c)=qQ xs:=by simp[qQ]
def sorted_D(xs:List Int)(hl:xs.length<=1000000):DCalls pP 40 [dv (.sl 1 (ints xs))] (dv (.sl 1 (ints (usort xs)))):=by
 refine kd (N:=7) (rs:=[.tmp 2]) func40 ?_;refine uB qg ?_
 (first|refine kx (Nq xs) ?_);simp +decide only[go_sem]
 refine CallC.eff [] (Kj xs hl) rfl (DLeL.of_eq oe) (fun k r h=>by cases h) (by constructor<;>simp) ?_;rintro r H' ⟨j,rfl,rfl⟩;simp +decide only[go_sem];have dB:=srt_len xs;refine CallC.eff [5] (L9 (srt xs) j (5+NB) (y7 _ _) oa) rfl (DLeL.of_eq (by simp +decide only[go_sem,dB])) (fun k r h=>?_) (by constructor<;>simp[mid]) ?_
 ·by_cases hk:k=5+NB
  ·subst hk;simp +decide only[go_sem]at h;subst h;simp +decide only[go_sem,qF,vf]
  ·simp +decide only[go_sem,hk]at h
 rintro r H' ⟨j',rfl,rfl⟩;simp +decide only[go_sem];refine uB qg ?_;refine pE 5 1 (ints (usort xs)) (qa j' 1) oo (by simp +decide only[go_sem,qF,qbA];rfl) oh ?_;have vG:(ints (usort xs)).length=(cpt (srt xs)).length:=by simp[usort]
 have vh:(cpt (srt xs)).length<=(usort xs).length:=og;have qs:(ints (usort xs)).take (cpt (srt xs)).length=ints (usort xs):=og;apply qb;simp +decide only[go_sem,vh,qs]
end Go.Proofs.YtobpcppcjdnkmaaGreat.S
namespace Go.Proofs.YtobpcppcjdnkmaaGreat
open Go.Proofs.Tryz
open Go.Dl
def CW(l:List Ent)(id:Int)(hs:C5 l): ∀n i j,j<=l.length->i<=j->j - i<=n->(∀k,k<i->∀y,l[k]? =some y->y.id<id)->(∀k,j<=k->∀y,l[k]? =some y->id<=y.id)->
  Su l id n i j<=l.length/\(∀k,k<Su l id n i j->∀y,l[k]? =some y->y.id<id)/\(∀k,Su l id n i j<=k->∀y,l[k]? =some y->id<=y.id)
 | 0,i,j,hj,A9,hn,h1,h2=>by
  simp only[Su];exact⟨oa,h1,fun k hk=>h2 k oa⟩
 | n+1,i,j,hj,A9,hn,h1,h2=>by
  unfold Su;by_cases qf:i<j
  ·rw[ae qf];have hm:(i+j) / 2<l.length:=oa;have hx:l[(i+j) / 2]? =some l[(i+j) / 2]:=oh;rw[hx];simp only;by_cases hl:l[(i+j) / 2].id<id
   ·rw[ae hl];refine CW l id hs n _ j hj oa oa (fun k hk y hy=>?_) h2;by_cases fy:k=(i+j) / 2
    ·grind
    ·obtain⟨bw,LL⟩:=wg.1 hy;have:=yH.1 hs k ((i+j) / 2) bw hm oa;rw[LL]at this;omega
   ·rw[j7 hl];refine CW l id hs n i _ oa oa oa h1 (fun k hk y hy=>?_);by_cases fy:k=(i+j) / 2
    ·grind
    ·obtain⟨bw,LL⟩:=wg.1 hy;have:=yH.1 hs ((i+j) / 2) k hm bw oa;rw[LL]at this;omega
  ·grind
def Eo(l:List Ent)(id:Int)(hs:C5 l):bv l id<=l.length/\(∀y∈l.take (bv l id),y.id<id)/\∀y∈l.drop (bv l id),id<=y.id:=by
 obtain⟨h0,h1,h2⟩:=CW l id hs l.length 0 l.length (wl _) (wM _) oa (fun k hk=>ak hk oa) (fun k hk y hy=>by rw[jc hk]at hy;cases hy);refine⟨h0,fun y hy=>?_,fun y hy=>?_⟩
 ·obtain⟨k,hk⟩:=jI hy;rw[yx]at hk;split at hk
  ·rename_i qf;exact h1 k qf y hk
  ·cases hk
 ·obtain⟨k,hk⟩:=jI hy;rw[yl]at hk;exact h2 _ (jX _ _) y hk
def gX(l:List Ent)(id:Int):ZB l id=true↔∃e∈l,e.id=id:=by simp[ZB]
def Re{l:List Ent}{id:Int}(h:ZB l id=false): ∀e∈l,e.id≠id:=fun e he hid=>by have:=(gX l id).2 ⟨e,he,hid⟩;rw[h]at this;cases this
def ia(l:List Ent)(id:Int)(hs:C5 l):Zd l id=ZB l id:=by
 obtain⟨h0,h1,h2⟩:=Eo l id hs;unfold Zd;cases hx:l[bv l id]? with
 | none=>
  have hp:l.length<=bv l id:=og;cases hh:ZB l id
  ·rfl
  ·obtain⟨e,he,hid⟩:=(gX l id).1 hh;have:=h1 e (by rw[yv hp];exact he);omega
 | some x=>
  simp only;obtain⟨hp,hxe⟩:=wg.1 hx;cases hb:x.id==id
  ·cases hh:ZB l id
   ·rfl
   ·exfalso;obtain⟨e,he,hid⟩:=(gX l id).1 hh;rw[<-yf (bv l id) l]at he;rcases wF.1 he with he|he
    ·grind
    ·rw[wP hp,hxe]at he;rcases wJ.1 he with rfl|he
     ·grind
     ·have hxd:=h2 x (by rw[wP hp,hxe];simp);obtain⟨k,hk,LL⟩:=List.getElem_of_mem he;rw[List.getElem_drop]at LL;have bw:bv l id+1+k<l.length:=og;have:=yH.1 hs (bv l id) (bv l id+1+k) hp bw oa;rw[hxe,LL]at this;have:x.id≠id:=oa;omega
  ·exact((gX l id).2 ⟨x,ww hx,by simpa using hb⟩).symm
def IZ{l:List Ent}{id:Int}(hs:C5 l)(h:ZB l id=true): ∃e,l[bv l id]? =some e/\e.id=id:=by
 have hf:=ia l id hs;rw[h]at hf;unfold Zd at hf;split at hf
 ·grind
 ·cases hf
open S (usort cpt cptF srt)
attribute [local irreducible] DW DCalls ECalls wk IW
def Ew(e:Ent):DCalls pP 114 [.agg e.row] (dv (li e.id)):=by
 refine kd (N:=5) (rs:=[.tmp 2]) func114 ?_
 (repeat' first|(first|refine qC ?_|apply kU|apply qb);simp only[go_sem,Ent.row]|apply kh<;>intro qe)
def LN(i j:Nat)(h:i+j<=20000000):aD .i64 ((i:Int)+(j:Int))=((i+j:Nat):Int)/\(((i+j:Nat):Int).tdiv 2)=(((i+j) / 2:Nat):Int)/\aD .i64 (((i+j) / 2:Nat):Int)=(((i+j) / 2:Nat):Int):=by refine⟨by rw[wrap_i64 oa oa];omega,?_,by rw[wrap_i64 oa oa]⟩;rw[Int.tdiv_eq_ediv_of_nonneg oa];omega
def DP(l:List Ent)(id:Int)(hl:l.length<=2000000):DCalls pP 113 [dv (.sl 8 (l.map Ent.enc)),dv (li id),dv (.fn 114 [])] (.tup [dv (li (bv l id)),dv (lb (Zd l id))]):=by
 have qi:=qo;refine kd (N:=46) (rs:=[.tmp 6,.tmp 7]) func113 ?_
 (repeat(first|apply qk|apply qm|((first|refine qC ?_|apply qt|apply qv);simp only[go_sem])))
 refine q8 (fun y:Nat×Nat=>kn 46 [(0,dv (.sl 8 (l.map Ent.enc))),(1,dv (li id)),(2,dv (.fn 114 [])),(8,dv (li y.1)),(9,dv (li y.2))] qA)
  (fun y=>y.1<=y.2/\y.2<=l.length/\∃n,y.2 - y.1<=n/\Su l id n y.1 y.2=bv l id) (fun y=>y.2 - y.1) (0,l.length) kl ⟨oa,oa,l.length,oh,rfl⟩ ?_
 rintro⟨i,j⟩ ⟨h1,h2,n,h3,h4⟩;simp only at h1 h2 h3 h4;obtain⟨w1,w2,w3⟩:=LN i j oa;rcases yD i j with qf|dC
 ·have hd:decide ((i:Int)<(j:Int))=true:=by grind
  have hhl:(i+j) / 2<l.length:=oa;obtain⟨q,hq⟩: ∃q,l[(i+j) / 2]? =some q:=⟨_,wa hhl⟩;have hw:=zx ((i+j) / 2) oa;have hO:=Ew q;simp only[Ent.row]at hO;obtain⟨n',hn'⟩: ∃n',n=n'+1:=⟨n - 1,oa⟩;subst hn';rw[Su,ae qf,hq]at h4;simp only at h4;cases t1:decide (q.id<id)
  ·rw[j7 (by simpa using t1)]at h4
   (repeat'(first|apply qk|apply qm|((first|refine qC ?_|apply qt|apply qv|refine kx hO ?_);simp +decide only[go_sem,hd,w1,w2,w3,hq,t1,wO,Ent.enc])|(apply qW;(simp +decide only[go_sem];rfl);all_goals(intro qe;try exact kz qe))|((first|apply qy|apply qx)<;>(intro qe;first|(exact ak qe oo)|(simp +decide only[go_sem,qe,hd,w1,w2,w3,hw,hq,t1,wO,Ent.enc])))))
   exact⟨(i,(i+j) / 2),⟨oz,oz,n',oz,h4⟩,oz,kl⟩
  ·rw[ae (by simpa using t1)]at h4
   (repeat'(first|apply qk|apply qm|((first|refine qC ?_|apply qt|apply qv|refine kx hO ?_);simp +decide only[go_sem,hd,w1,w2,w3,hw,hq,t1,wO,Ent.enc])|(apply qW;(simp +decide only[go_sem];rfl);all_goals(intro qe;try exact kz qe))|((first|apply qy|apply qx)<;>(intro qe;first|(exact ak qe oo)|(simp +decide only[go_sem,qe,hd,w1,w2,w3,hw,hq,t1,wO,Ent.enc])))))
   exact⟨((i+j) / 2+1,j),⟨oz,oz,n',oz,h4⟩,oz,kl⟩
 ·have A9:i=j:=by omega
  subst A9;have hd:decide ((i:Int)<(i:Int))=false:=oh;have hr:bv l id=i:=by rw[<-h4];cases n<;>simp[Su]
  rcases yD i l.length with qf|dC
  ·have hd2:decide ((i:Int)<(l.length:Int))=true:=by grind
   obtain⟨q,hq⟩: ∃q,l[i]? =some q:=⟨_,wa qf⟩;have hO:=Ew q;simp only[Ent.row]at hO
   (repeat' first|(first|refine qC ?_|refine kx hO ?_|apply kU|apply qb);simp only[go_sem,hd,hd2,hq,wO,Ent.enc]|apply kh<;>intro qe)
   rw[Zd,hr,hq]
  ·have hd2:decide ((i:Int)<(l.length:Int))=false:=by grind
   (repeat' first|(first|refine qC ?_|apply kU|apply qb);simp only[go_sem,hd,hd2]|apply kh<;>intro qe)
   rw[Zd,hr,jc dC]
def Pb(l:List Ent)(id:Int)(hl:l.length<=2000000):DCalls pP 317 [dv (li id),dv (.pt [.sl 8 (l.map Ent.enc)])] (dv (lb (!Zd l id))):=by
 refine kd (N:=14) (rs:=[.tmp 3]) func317 ?_
 (repeat' first|(first|refine qC ?_|refine kx (DP l id hl) ?_|apply kU|apply qb);simp only[go_sem]|apply kh<;>intro qe)
def sorted_D(xs:List Int)(hl:xs.length<=1000000):DCalls pP 40 [dv (.sl 1 (ints xs))] (dv (.sl 1 (ints (usort xs)))):=S.sorted_D xs hl
def Zl(l:List Ent)(id:Int):Ent×Bool:=
 match l.find? fun e=>e.id==id with
 | some e=>(e,true)
 | none=>(cS,false)
def Fh(l:List Ent)(id:Int):(Zl l id).2=ZB l id:=by
 unfold Zl ZB;cases h:l.find? fun e=>e.id==id with
 | none=>grind
 | some e=>grind
def V9{α:Type}{l:List α}{q:α->Bool}{x:α}(h:l.find? q=some x): ∃k,l[k]? =some x/\(∀y∈l.take k,q y=false)/\q x=true:=by
 obtain⟨hq,us,vs,hl,hu⟩:=List.find?_eq_some_iff_append.1 h;refine⟨us.length,by rw[hl];simp,fun y hy=>?_,hq⟩;rw[hl,List.take_left']at hy
 ·grind
 ·rfl
theorem Rv{α:Type}{l:List α}{q:α->Bool}(h:l.find? q=none): ∀y∈l,q y=false:=og
def Rw{α:Type}{l:List α}{q:α->Bool}{k:Nat}{x:α}(hx:l[k]? =some x)(hi: ∀y∈l.take k,q y=false)(h:q x=true):l.find? q=some x:=by obtain⟨hk,e⟩:=wg.1 hx;refine List.find?_eq_some_iff_append.2 ⟨h,l.take k,l.drop (k+1),?_,fun y hy=>by simpa using hi y hy⟩;rw[<-e,<-wP hk,yf]
def qct(e:Ent)(id:Int):DCalls pP 176 [.agg e.row,dv (.pt [li id])] (dv (lb (e.id==id))):=by
 refine kd (N:=8) (rs:=[.tmp 3]) func176 ?_
 (repeat(first|apply qk|apply qm|((first|refine qC ?_|apply qt|apply qv);simp only[go_sem,Ent.row])))
 apply qb;simp +decide only[go_sem]
def qbH(l:List Ent)(id:Int)(hl:l.length<=1000000):DCalls pP 175 [dv (.sl 8 (l.map Ent.enc)),dv (.fn 176 [.pt [li id]])] (dv (li (zG (fun e=>e.id==id) l))):=by
 have qi:=qo;refine kd (N:=19) (rs:=[.tmp 4]) func175 ?_;refine uB qg ?_;refine vq l (fun k=>kn 19 [(0,dv (.sl 8 (l.map Ent.enc))),(1,dv (.fn 176 [.pt [li id]])),(7,dv (li l.length)),(8,dv (li k))] qA) (fun k=>∀e∈l.take k,(e.id==id)=false) oa kl oh ?_ ?_
 ·intro k e he hk hm qs qf hw hi;have hc:=qct e id;simp only[Ent.row]at hc
  (repeat' first|(first|refine qC ?_|refine kx hc ?_|apply kU|apply qb);simp only[go_sem,qf,hw,he,Ent.enc]|apply kh<;>intro qe)
  ·rw[z8 he hi qe]
  ·exact⟨qG qs hi qe,kl⟩
 ·intro qf hi;rw[wc]at hi;refine wB qg ?_;rw[z7 hi]
def rK(l:List Ent)(id:Int)(hl:l.length<=1000000):DCalls pP 133 [dv (.sl 8 (l.map Ent.enc)),dv (li id)] (.tup [.agg (Zl l id).1.row,dv (lb (Zl l id).2)]):=by
 refine kd (N:=17) (rs:=[.cell 4 77,.tmp 5]) func133 ?_
 (repeat(first|apply qk|apply qm|((first|refine qC ?_|apply qt|apply qv);simp +decide only[go_sem])))
 refine CallC.frz 3 [li id] oh oe ?_;simp +decide only[go_sem]
 (first|refine kx (qbH l id hl) ?_);simp +decide only[go_sem]
 cases hf:l.find? (fun e=>e.id==id)with
 | none=>
  rw[z7 (Rv hf)]
  (repeat'(first|apply qk|apply qm|((first|refine qC ?_|apply qt|apply qv);simp +decide only[go_sem])|(apply qW;(simp +decide only[go_sem];rfl);all_goals(intro qe;try exact kz qe))))
  refine RP 4 ow ?_;apply qb;simp +decide only[go_sem];simp[Zl,hf,Ent.row,cS]
 | some e=>
  obtain⟨k,he,hi,hq⟩:=V9 hf;have hn:decide ((k:Int)<0)=false:=oh;rw[z8 he hi hq]
  (repeat' first|(first|refine qC ?_|apply kU|apply qb);simp only[go_sem,hn,he,Ent.enc]|apply kh<;>intro qe)
  simp[Zl,hf,Ent.row]
def Ov(l:List Ent)(id:Int)(hl:l.length<=1000000):DCalls pP 15 [dv (.sl 8 (l.map Ent.enc)),dv (li id)] (.tup [.agg (Zl l id).1.row,dv (lb (Zl l id).2)]):=by
 have qi:=qo;refine kd (N:=25) (rs:=[.cell 4 77,.tmp 5]) func15 ?_;refine uB qg ?_;refine vq l (fun k=>kn 25 [(0,dv (.sl 8 (l.map Ent.enc))),(1,dv (li id)),(4,.one (.bx 4 8 0 0)),(8,dv (li l.length)),(9,dv (li k))] (ml [(4,[[.c (li 0),.ex 1 [],.c (li 0),.ex 1 [],.c (li 0),.ex 2 [],.ex 2 [],.ex 2 []]])])) (fun k=>∀e∈l.take k,(e.id==id)=false) oa (Zb) oh ?_ ?_
 ·intro k e he hk hm qs qf hw hi;cases t1:e.id==id
  ·(repeat' first|(first|refine qC ?_|apply kU|apply qb);simp only[go_sem,qf,hw,he,t1,Ent.enc]|apply kh<;>intro qe)
   exact⟨qG qs hi t1,Zb⟩
  ·(repeat' first|(first|refine qC ?_|apply kU|apply qb);simp only[go_sem,qf,he,t1,Ent.enc]|apply kh<;>intro qe)
   simp[Zl,Rw (q:=fun e=>e.id==id) he hi t1,Ent.row]
 ·intro qf hi;rw[wc]at hi;refine vB qg ?_;refine RP 4 ow ?_;apply qb;simp +decide only[go_sem];have hf:l.find? (fun e=>e.id==id)=none:=og;simp[Zl,hf,Ent.row,cS]
def Ej(l:List Ent)(id:Int)(hl:l.length<=1000000):DCalls pP 102 [dv (.sl 8 (l.map Ent.enc)),dv (li id)] (dv (lb (ZB l id))):=by have h:=Ov l id hl;have h2:=Fh l id;generalize Zl l id=p at h h2;obtain⟨e,b⟩:=p;simp only at h2;subst h2;simp only[Ent.row]at h;refine kd (N:=14) (rs:=[.tmp 4]) func102 ?_;exact wA qg
def Bm: ∀(l:List Int) (p:Int),l.Pairwise (· <= ·)->(∀x∈l,p<=x)->
  (cptF (some p) l).Pairwise (· < ·)/\(∀x∈cptF (some p) l,p<x)/\∀x,x∈cptF (some p) l↔x∈l/\x≠p
 | [],p,_,_=>by simp[cptF]
 | x::l,p,hs,hp=>by
  obtain⟨h1,h2⟩:=yy.1 hs;have hpx:=hp x oh;obtain⟨i1,i2,i3⟩:=Bm l x h2 h1;simp only[cptF];split
  ·grind
  ·rename_i he;have qf:p<x:=og;refine⟨yy.2 ⟨i2,i1⟩,fun y hy=>?_,fun y=>?_⟩
   ·grind
   ·grind
def R2(l:List Int)(hs:l.Pairwise (· <= ·)):(cpt l).Pairwise (· < ·)/\∀x,x∈cpt l↔x∈l:=by
 cases l with
 | nil=>simp[cpt,cptF]
 | cons x l=>
  obtain⟨h1,h2⟩:=yy.1 hs;obtain⟨i1,i2,i3⟩:=Bm l x h2 h1;have he:cpt (x::l)=x::cptF (some x) l:=by simp[cpt,cptF]
  rw[he];refine⟨yy.2 ⟨i2,i1⟩,fun y=>?_⟩;grind
def BP(l:List Int):(srt l).Pairwise (· <= ·):=by have:=List.pairwise_mergeSort (le:=fun x y:Int=>decide (x<=y)) (fun a b c h1 h2=>by simp at *;omega) (fun a b=>ot) l;grind
def Qj(l:List Int):(usort l).Pairwise (· < ·)/\∀x,x∈usort l↔x∈l:=by obtain⟨h1,h2⟩:=R2 (srt l) (BP l);exact⟨h1,fun x=>(h2 x).trans (List.mem_mergeSort)⟩
def Pc: ∀{xs ys:List Int},xs.Pairwise (· < ·)->ys.Pairwise (· < ·)->(∀x,x∈xs↔x∈ys)->xs=ys
 | [],[],_,_,_=>rfl
 | [],y::ys,_,_,h=>by have:=(h y).2 oh;simp at this
 | x::xs,[],_,_,h=>by have:=(h x).1 oh;simp at this
 | x::xs,y::ys,hx,hy,h=>by
  obtain⟨a1,a2⟩:=yy.1 hx;obtain⟨b1,b2⟩:=yy.1 hy;have e:x=y:=by
   rcases wJ.1 ((h x).1 oh)with e|e
   ·exact e
   ·rcases wJ.1 ((h y).2 oh)with f|f
    ·omega
    ·grind
  subst e;rw[Pc a2 b2 fun z=>?_];constructor
  ·grind
  ·grind
def Nr{xs ys:List Int}(hs:ys.Pairwise (· < ·))(hm: ∀x,x∈ys↔x∈xs):usort xs=ys:=
 Pc (Qj xs).1 hs fun x=>((Qj xs).2 x).trans (hm x).symm
def Em(l:List Int)(n:Int):List Int:=(l.takeWhile fun x=>decide (x<n))++n::(l.dropWhile fun x=>decide (x<n)).dropWhile fun x=>decide (x=n)
def KN{l:List Int}(n:Int)(h:l.Pairwise (· < ·)):(Em l n).Pairwise (· < ·)/\∀x,x∈Em l n↔x∈l\/x=n:=by
 have key: ∀l:List Int,l.Pairwise (· < ·)->∃a b,l=a++b/\(l.takeWhile fun x=>decide (x<n))=a/\(l.dropWhile fun x=>decide (x<n))=b/\(∀x∈a,x<n)/\∀x∈b,n<=x:=by
  intro l;induction l with
  | nil=>intro _;exact⟨[],[],rfl,rfl,rfl,oh,oh⟩
  | cons y l ih=>
   intro h;obtain⟨h1,h2⟩:=yy.1 h;by_cases hy:y<n
   ·obtain⟨a,b,e,ea,eb,ha,hb⟩:=ih h2;refine⟨y::a,b,by rw[e];rfl,?_,?_,?_,hb⟩
    ·simp_all
    ·simp_all
    ·grind
   ·refine⟨[],y::l,rfl,?_,?_,oh,?_⟩
    ·simp_all
    ·simp_all
    ·grind
 obtain⟨a,b,e,ea,eb,ha,hb⟩:=key l h;have hP:=h;rw[e,y9]at hP;obtain⟨pa,pb,pab⟩:=hP;have hd: ∃c,(b.dropWhile fun x=>decide (x=n))=c/\(b=c\/b=n::c)/\(∀x∈c,n<x)/\c.Pairwise (· < ·):=by
  cases b with
  | nil=>simp
  | cons y b=>
   obtain⟨q1,q2⟩:=yy.1 pb;by_cases hy:y=n
   ·subst hy;have fz:(b.dropWhile fun x=>decide (x=y))=b:=by
     cases b with
     | nil=>rfl
     | cons z b=>
      have:=q1 z oh;rw[jY,j7 ot]
    simp_all
   ·have hny:=hb y oh;refine⟨y::b,by rw[jY,j7 (by simpa using hy)],.inl rfl,fun x hx=>?_,pb⟩;grind
 obtain⟨c,ec,hbc,hc,pc⟩:=hd;have aN:Em l n=a++n::c:=by rw[Em,ea,eb,ec]
 rw[aN];refine⟨?_,fun x=>?_⟩
 ·rw[y9,yy];grind
 ·grind
def G2(xs:List Int)(n:Int):Em (usort xs) n=usort (xs++[n]):=by obtain⟨h1,h2⟩:=KN n (Qj xs).1;refine(Nr h1 fun x=>?_).symm;rw[h2,(Qj xs).2];simp
def J2:usort []= []:=by simp[usort,srt,cpt,cptF]
def qbn{l:List Int}{n:Int}{k:Nat}(hk:k<=l.length)(h1: ∀x∈l.take k,x<n)(h2: ∀x,l[k]? =some x->¬x<n):l.takeWhile (fun x=>decide (x<n))=l.take k/\l.dropWhile (fun x=>decide (x<n))=l.drop k:=by
 induction l generalizing k with
 | nil=>simp
 | cons y l ih=>
  cases k with
  | zero=>simp_all
  | succ k=>
   have hy:=h1 y oh;have:=ih (k:=k) (by simpa using hk) (fun x hx=>h1 x (by simp[hx])) (fun x hx=>h2 x (by simpa using hx));simp[hy,this]
def UK{l:List Int}{n:Int}{k:Nat}(hs:l.Pairwise (· < ·))(hk:k<=l.length)(h1: ∀x∈l.take k,x<n)(h2: ∀x,l[k]? =some x->¬x<n):
  Em l n=l.take k++n::l.drop (if l[k]? =some n then k+1 else k):=by
 obtain⟨e1,e2⟩:=qbn hk h1 h2;rw[Em,e1,e2];congr 2;rcases yD k l.length with qf|dC
 ·have hx:l[k]? =some l[k]:=by simp
  rw[wP qf,hx];by_cases he:l[k]=n
  ·rw[ae (by rw[he]),jY,ae (by simpa using he)];cases hd:l.drop (k+1)with
   | nil=>rfl
   | cons z r=>
    have hz:k+1<l.length:=og;have hze:l[k+1]=z:=by rw[wP hz]at hd;injection hd
    have:=yH.1 hs k (k+1) qf hz oa;rw[jY,j7 ot]
  ·rw[j7 (by simpa using he),jY,j7 (by simpa using he),<-wP qf]
 ·rw[List.drop_eq_nil_of_le dC,jc dC];simp;omega
def UG(l:List Int)(n:Int)(hs:l.Pairwise (· < ·))(hl:l.length<=1000000):DCalls pP 196 [dv (.sl 1 (ints l)),dv (li n)] (dv (.sl 1 (ints (Em l n)))):=by
 have qi:=qo;refine kd (N:=51) (rs:=[.tmp 4]) func196 ?_;refine vB qg ?_;refine CA 5 5 1 oe ?_;refine RS (fun k:Nat=>kn 51 [(0,dv (.sl 1 (ints l))),(1,dv (li n)),(5,.one (.own 5 1 (ints (l.take k)))),(6,dv (li k))] qA) (fun k=>k<=l.length/\(∀x∈l.take k,x<n)/\∀x,l[k]? =some x->¬x<n) ?_ ?_
 ·refine q8 (fun k:Nat=>kn 51 [(0,dv (.sl 1 (ints l))),(1,dv (li n)),(5,.one (.own 5 1 (ints (l.take k)))),(6,dv (li k))] qA) (fun k=>k<=l.length/\∀x∈l.take k,x<n) (fun k=>l.length - k) 0 (vU rfl (by simp +decide only[go_sem,wy,wm]) (by simp[qA])) ⟨wM _,oh⟩ ?_;rintro k ⟨hk,h1⟩;cases t1:decide ((k:Int)<(l.length:Int))
  ·have LL:l.length<=k:=by grind
   refine vB qg ?_;exact⟨k,⟨hk,h1,fun x hx=>by rw[jc LL]at hx;cases hx⟩,kl⟩
  ·have bw:k<l.length:=by grind
   obtain⟨x,hx⟩: ∃x,l[k]? =some x:=⟨_,wa bw⟩;have hw:=zx k oa;have r1:(((l.take k).length+1)*8<=140737488355328)=True:=og;cases t2:decide (x<n)
   ·refine vB qg ?_;exact⟨k,⟨hk,h1,fun y hy=>by rw[hx]at hy;injection hy with hy;subst hy;simpa using t2⟩,kl⟩
   ·have qs:l.take (k+1)=l.take k++[x]:=zy hx;refine vB qg ?_;exact⟨k+1,⟨oa,fun y hy=>by
     rw[qs]at hy;rcases wF.1 hy with hy|hy
     ·grind
     ·rw[yp.1 hy];simpa using t2⟩,oa,vU rfl (by simp +decide only[go_sem,qs,yt]) (by simp[qA])⟩
 rintro k ⟨hk,h1,h2⟩;have aN:=UK hs hk h1 h2;have r1:(((l.take k).length+1)*8<=140737488355328)=True:=og;have hw:=zx k oa;have F8:(l.take k).length=k:=og;have qdT:List.take l.length (ints l)=ints l:=yv oh;have qd1: ∀m,List.drop m (ints l)=ints (l.drop m):=oh;have na: ∀m,ints (l.take k)++[[li n]]++ints (l.drop m)=ints (l.take k++n::l.drop m):=oh;have r2: ∀m,m<=l.length->(((l.take k).length+1+(l.length - m))*8<=140737488355328)=True:=og;cases t1:decide ((k:Int)<(l.length:Int))
 ·have LL:l.length<=k:=by grind
  have hke2:k=l.length:=oa;rw[jc LL,j7 oh]at aN;have LK:=r2 k hk;have Yc:(k<=l.length)=True:=og
  (repeat' first|(first|refine qC ?_|apply kU);simp +decide only[go_sem,t1,r1,LK,Yc,qdT,qd1,wO,wz,wn,wW,wT,yA]|apply kh<;>intro qe|((first|apply qy|apply qx)<;>(intro qe;simp +decide only[go_sem,qe,t1,r1,LK,Yc,qdT,qd1,wO,wz,wn,wW,wT,yA])))
  rw[aN,<-na];refine ze 4 _ (DLe.own_ _ _ _) ?_;apply qb;simp +decide only[go_sem]
 ·have bw:k<l.length:=by grind
  obtain⟨x,hx⟩: ∃x,l[k]? =some x:=⟨_,wa bw⟩;cases t2:x==n
  ·rw[hx,j7 (by simpa using t2)]at aN;have LK:=r2 k hk;have Yc:(k<=l.length)=True:=og
   (repeat' first|(first|refine qC ?_|apply kU);simp +decide only[go_sem,t1,hx,t2,r1,LK,Yc,qdT,qd1,wO,wz,wn,wW,wT,yA]|apply kh<;>intro qe|((first|apply qy|apply qx)<;>(intro qe;simp +decide only[go_sem,qe,t1,hx,t2,r1,LK,Yc,qdT,qd1,wO,wz,wn,wW,wT,yA])))
   rw[aN,<-na];refine ze 4 _ (DLe.own_ _ _ _) ?_;apply qb;simp +decide only[go_sem]
  ·rw[hx,ae (by simpa using t2)]at aN;have LK:=r2 (k+1) bw;have Yc:(k+1<=l.length)=True:=og
   (repeat' first|(first|refine qC ?_|apply kU);simp +decide only[go_sem,t1,hx,t2,hw,r1,LK,Yc,qdT,qd1,wO,wz,wn,wW,wT,yA]|apply kh<;>intro qe|((first|apply qy|apply qx)<;>(intro qe;simp +decide only[go_sem,qe,t1,hx,t2,hw,r1,LK,Yc,qdT,qd1,wO,wz,wn,wW,wT,yA])))
   rw[aN,<-na];refine ze 4 _ (DLe.own_ _ _ _) ?_;apply qb;simp +decide only[go_sem]
attribute [local irreducible] NCalls
section
attribute [local go_sem] vp Rul.enc Rul.row Stp.enc Stp.row qj eF
def UH(xs:List Int)(n:Int)(hl:xs.length<=999999):DCalls pP 196 [dv (.sl 1 (ints (usort xs))),dv (li n)] (dv (.sl 1 (ints (usort (xs++[n]))))):=by have h:=UG (usort xs) n (Qj xs).1 (by have:=S.usort_len xs;omega);rw[G2]at h;exact h
def GS(ws:List Int)(hl:ws.length<=999999):DCalls pP 152 [dv (.sl 1 (ints ws))] (dv (.sl 1 (ints (usort ws)))):=by
 have qi:=qo;refine dX (N:=18) (rs:=[.tmp 2]) qg func152 ?_;refine gk ?_;refine Dl.xs 3 (dv (.sl 1 [])) oe ?_;refine lp ws [0,6] [] (fun k=>[(3,dv (.sl 1 (ints (usort (ws.take k))))),(7,dv (li k))]) (fun _=>[]) (fun _=>True) trivial ?_ ?_ (h0:=by simp +decide only[go_sem,wy,J2,wm])
 ·intro k x hx hk hm qs qf hw _;have hP:=UH (ws.take k) x (by rw[ym];omega);rw[<-qs]at hP;clear hm qs;refine gB ?_;all_goals exact gJ
 ·intro qf _;rw[wc];exact gA
abbrev qeJ:Dl.PL:=fun|6=> Dl.ll 0 6 ((6,.step)::Dl.ll 7 15 ((22,.step)::Dl.ll 23 3 []))|9=> Dl.ll 0 8 []|_=>[]
def Uy(g:List Phon)(r:Rul)(hl:r.src.length<=999999):NCalls pP 99 [.agg (qj g),.agg r.row] (zJ (r.dst.length=r.src.length)):=by
 have qi:=qo;have hS:=GS r.src hl;have hI:=Xu g;by_cases h0:r.src.length=0\/r.dst.length≠r.src.length
 ·refine nX (N:=70) (rs:=[.tmp 4]) qeJ func99 ?_;refine gD ?_ ?_ ?_;all_goals exact gJ
 have n1:((r.src.length:Int)==0)=false:=og;have n2:((r.dst.length:Int)==(r.src.length:Int))=true:=og;refine nX (N:=70) (rs:=[.tmp 4]) qeJ func99 ?_;refine gk ?_;refine lq r.src [2,3,21] [2,3] 22 ?_ ?_
 ·intro k x hx hk hm qs qf hw _;obtain⟨y,hy⟩: ∃y,r.dst[k]? =some y:=⟨_,wa oa⟩;have h1:=hI x;have h2:=hI y;clear hm qs hI;repeat' first|refine kx h1 ?_|refine kx h2 ?_|refine gQ ?_|exact gU|refine gS ?_|exact gT|(first|apply xc|apply gf|apply gt)<;>intro hc
  all_goals exact gJ
 intro qf _;repeat' first|refine gQ ?_|exact gU|refine gS ?_|exact gT|(first|apply xc|apply gf|apply gt)<;>intro hc
 all_goals exact gJ
def Oh(n:Int)(l:List Stp)(f:List Int)(q:Int):DCalls pP 100 [.agg [.c (li n),.c (.sl 3 (l.map Stp.enc)),.c (.sl 1 (ints f))],dv (li q)] (dv (lb (decide (0<=q)&&decide (q<n)))):=by refine dX (N:=13) (rs:=[.tmp 4]) qg func100 ?_;exact gA;all_goals simp[QV, *]
abbrev qeO:Dl.PL:=fun|16=> Dl.ll 0 7 []|21=> Dl.ll 0 12 []|26=> Dl.ll 0 6 [(6,.step),(7,.light)]|_=>[]
def qaT(n:Int)(l:List Stp)(f:List Int)(hf:f.length<=1048576):NCalls pP 51 [.agg [.c (li n),.c (.sl 3 (l.map Stp.enc)),.c (.sl 1 (ints f))]] (zJ ((∀x∈l,0<=x.src/\x.src<n/\0<=x.dst/\x.dst<n)/\∀q∈f,0<=q/\q<n)):=by
 have qi:=qo;have hS:=Oh n l f;by_cases h0:n<1\/24<n\/200<l.length
 ·refine nX (N:=98) (rs:=[.tmp 2]) qeO func51 ?_;repeat' first|refine gQ ?_|exact gU|refine gS ?_|exact gT|(first|apply xc|apply gf|apply gt)<;>intro hc
  all_goals exact gJ
 have n1: ¬n<1:=oa;have n2: ¬24<n:=oa;have n3: ¬(200:Int)<(l.length:Int):=oa;refine nX (N:=98) (rs:=[.tmp 2]) qeO func51 ?_;refine gk ?_;refine lp l [1] [1] (fun k=>[(3,dv (li k))]) (fun _=>[]) (fun k=>∀x∈l.take k,0<=x.src/\x.src<n/\0<=x.dst/\x.dst<n) oh ?_ ?_
 ·intro k x hx hk hm qs qf hw hi;have h1:=hS x.src;have h2:=hS x.dst;have hi':(decide (0<=x.src)&&decide (x.src<n))=true->(decide (0<=x.dst)&&decide (x.dst<n))=true->∀y∈l.take (k+1),0<=y.src/\y.src<n/\0<=y.dst/\y.dst<n:=fun e1 e2=>by
   rw[qs];intro y hy;rcases wF.1 hy with hy|hy
   ·grind
   ·grind
  generalize (decide (0<=x.src)&&decide (x.src<n))=b1 at*
  generalize (decide (0<=x.dst)&&decide (x.dst<n))=b2 at*
  clear hm qs hi hS;repeat' first|refine kx h1 ?_|refine kx h2 ?_|refine gQ ?_|exact gU|refine gS ?_|exact gT|(first|apply xc|apply gf|apply gt)<;>intro hc
  all_goals first|exact qJ|(intro hz;grind)|exact cC og|exact iq og|skip
  clear h1 h2;refine Pd k [1,3,4] [1,4] (fun j=>[(5,dv (li j))]) (fun _=>[]) (fun _=>True) trivial ?_ ?_
  ·intro j hj hlt' hw' _;obtain⟨v,hv⟩: ∃v,l[j]? =some v:=⟨_,wa oa⟩;repeat' first|refine gQ ?_|exact gU|refine gS ?_|exact gT|(first|apply xc|apply gf|apply gt)<;>intro hc
   all_goals exact gJ
  intro hlt' _;repeat' first|refine gQ ?_|exact gU|refine gS ?_|exact gT|(first|apply xc|apply gf|apply gt)<;>intro hc
  all_goals exact⟨hi' og og,qJ⟩
 intro qf hi;rw[wc]at hi;refine gB ?_;refine Pd (f.length - 1) [1] [1] (fun k=>[(6,dv (li (k+1:Nat)))]) (fun _=>[]) (fun _=>True) trivial ?_ ?_
 ·intro k hk _ _ _;obtain⟨a,ha⟩: ∃a,f[k]? =some a:=⟨_,wa oa⟩;obtain⟨b,hb⟩: ∃b,f[k+1]? =some b:=⟨_,wa oa⟩;have h1:decide (((k+1:Nat):Int)<(f.length:Int))=true:=og;have h2:aD .i64 (((k+1:Nat):Int)+1)=((k+1+1:Nat):Int):=by rw[wrap_i64 oa oa];omega
  have h3:aD .i64 (((k+1:Nat):Int) - 1)=(k:Int):=by rw[wrap_i64 oa oa];omega
  have h4: ¬((k+1:Nat):Int)<0:=oa;clear hS hi;refine gC ?_ ?_<;>intro hc;all_goals exact gJ
 intro _ _;have h1:decide (((f.length - 1+1:Nat):Int)<(f.length:Int))=false:=og;refine gB ?_;refine lp f [1] [1] (fun k=>[(7,dv (li k))]) (fun _=>[]) (fun k=>∀q∈f.take k,0<=q/\q<n) oh ?_ ?_
 ·intro k q hq hk hm qs qf hw hj;have h1:=hS q;have hj':(decide (0<=q)&&decide (q<n))=true->∀q∈f.take (k+1),0<=q/\q<n:=fun e=>by
   rw[qs];intro y hy;rcases wF.1 hy with hy|hy
   ·grind
   ·grind
  generalize (decide (0<=q)&&decide (q<n))=b1 at*
  clear hm qs hi hj hS;refine gC ?_ ?_<;>intro hc;all_goals first|exact⟨hj' og,qJ⟩|(intro hz;grind)
 intro qf hj;rw[wc]at hj;refine gB ?_;exact fun _=>⟨hi,hj⟩
abbrev qeP:Dl.PL:=fun|6=> Dl.ll 0 7 [(7,.step),(8,.light)]|_=>[]
def Ol(g:Lg)(hl: ∀r∈g.rules,r.src.length<=999999):NCalls pP 50 [.agg g.row] (zJ (∀r∈g.rules,r.dst.length=r.src.length)):=by
 have qi:=qo;unfold Lg.row eD eF;simp only[wD,wI];by_cases h0:12<g.rules.length
 ·refine nX (N:=27) (rs:=[.tmp 2]) qeP func50 ?_;refine gC ?_ ?_;all_goals exact gJ
 have n1: ¬(12:Int)<(g.rules.length:Int):=oa;refine nX (N:=27) (rs:=[.tmp 2]) qeP func50 ?_;refine gk ?_;refine lp g.rules [1] [1] (fun k=>[(3,dv (li k))]) (fun _=>[]) (fun k=>∀r∈g.rules.take k,r.dst.length=r.src.length) oh ?_ ?_
 ·intro k u hu hk hm qs qf hw hi;have hU:=Uy g.inv u (hl u hm);have hi':u.dst.length=u.src.length->∀u∈g.rules.take (k+1),u.dst.length=u.src.length:=fun e=>by
   rw[qs];intro y hy;rcases wF.1 hy with hy|hy
   ·grind
   ·grind
  clear hm qs hi;repeat' first|refine gQ ?_|exact gU|(refine eH ?_<;>intro er eN)|(refine dM ?_<;>intro bo eO)|refine gS ?_|exact gT|(first|apply xc|apply gf|apply gt)<;>intro hc
  all_goals first|exact⟨hi' og,qJ⟩|(intro hz;grind)
 intro qf hi;rw[wc]at hi;refine gB ?_;exact fun _=>hi
def PH(xs:List Int)(n:Int)(hx:xs.length<=maxLen):DCalls pP 170 [dv (.sl 1 (ints xs)),dv (li n)] (dv (li (zG (fun x=>n==x) xs))):=by
 refine kd (N:=19) (rs:=[.tmp 4]) func170 ?_;refine uB qg ?_;refine vq xs (fun k=>kn 19 [(0,dv (.sl 1 (ints xs))),(1,dv (li n)),(7,dv (li xs.length)),(8,dv (li k))] qA) (fun k=>∀x∈xs.take k,(n==x)=false) hx kl oh ?_ ?_
 ·intro k x hx hk hm qs qf hw hi;have hx':=ZQ hx
  (repeat' first|(first|refine qC ?_|apply kU|apply qb);simp only[go_sem,qf,hw,hx']|apply kh<;>intro qe)
  ·rw[z8 hx hi qe]
  ·exact⟨qG qs hi qe,kl⟩
 ·intro qf hi;rw[wc]at hi;refine wB qg ?_;rw[z7 hi]
def SJ(g:am)(caps:List Dl.C)(p:Lnk->Bool)(l:List Lnk):Prop:=∀s∈l,DCalls pP g ((.agg s.row)::caps.map fun c=>D.one (.c c)) (dv (lb (p s)))
def Vv(g:am)(caps:List Dl.C)(p:Lnk->Bool)(l:List Lnk)(ht:SJ g caps p l)(hl:l.length<=1048576):DCalls pP 157 [dv (.sl 2 (l.map Lnk.enc)),dv (.fn g caps)] (dv (li (zG p l))):=by
 have qi:=qo;refine kd (N:=19) (rs:=[.tmp 4]) func157 ?_;refine uB qg ?_;refine vq l (fun k=>kn 19 [(0,dv (.sl 2 (l.map Lnk.enc))),(1,dv (.fn g caps)),(7,dv (li l.length)),(8,dv (li k))] qA) (fun k=>∀e∈l.take k,p e=false) oa kl oh ?_ ?_
 ·intro k e he hk hm qs qf hw hi;have hc:=ht e hm;simp only[Lnk.row]at hc
  (repeat' first|(first|refine qC ?_|refine kx hc ?_|apply kU|apply qb);simp only[go_sem,qf,hw,he,Lnk.enc]|apply kh<;>intro qe)
  ·rw[z8 he hi qe]
  ·exact⟨qG qs hi qe,kl⟩
 ·intro qf hi;rw[wc]at hi;refine wB qg ?_;rw[z7 hi]
def CN(g:am)(caps:List Dl.C)(p:Lnk->Bool)(l:List Lnk)(ht:SJ g caps p l)(hl:l.length<=1048576):DCalls pP 115 [dv (.sl 2 (l.map Lnk.enc)),dv (.fn g caps)] (dv (lb (l.any p))):=by
 refine kd (N:=9) (rs:=[.tmp 4]) func115 ?_;have h:=cn p l
 (repeat' first|(first|refine qC ?_|refine kx (Vv g caps p l ht hl) ?_|apply kU|apply qb);simp only[go_sem,h]|apply kh<;>intro qe)
def U9(l:List Ent)(x:Lnk)(hl:l.length<=2000000):DCalls pP 318 [.agg x.row,dv (.pt [.fn 317 [.pt [.sl 8 (l.map Ent.enc)]]])] (dv (lb (!Zd l x.tgt))):=by
 have h:=Pb l x.tgt hl;refine kd (N:=8) (rs:=[.tmp 3]) func318 ?_
 (repeat' first|(first|refine qC ?_|refine kx h ?_|apply kU|apply qb);simp only[go_sem,Lnk.row]|apply kh<;>intro qe)
end
end Go.Proofs.YtobpcppcjdnkmaaGreat
namespace Go.Proofs.YtobpcppcjdnkmaaGreat.W
open Go.Proofs.Tryz
open Go.Dl
variable {l:List Ent}
attribute [local irreducible] DW DCalls ECalls wk IW
def inv(k:Int):Int:=if k=0\/k=1 then k else if k=2 then 3 else if k=3 then 2 else if k=4 then 5 else if k=5 then 4 else -1
def lnk_eq(x y:Lnk):(x.kind==y.kind&&(x.tgt==y.tgt))=decide (x=y):=by rw[y8];cases x;cases y;simp
def qcj(e:Ent)(x:Lnk):Bool:=e.links.any fun y=>decide (x=y)
def dF(l:List Ent)(kind:Int)(rec:Int->List Int->List Int)(out:List Int)(x:Lnk):List Int:=
 if x.kind !=kind||out.any (fun y=>x.tgt==y)then out else if(Zl l x.tgt).2 then rec x.tgt (out++[x.tgt])else out
def free(l:List Ent)(out:List Int):Nat:=l.countP fun e=> !(out.any fun y=>e.id==y)
def LW{id:Int}(h:(Zl l id).2=true): ∃e∈l,e.id=id:=by
 unfold Zl at h;split at h
 ·rename_i e he;have h1:=List.find?_some he;exact⟨e,jD he,by simpa using h1⟩
 ·cases h
def L7{α:Type}{p q:α->Bool}{l:List α}(h: ∀x∈l,q x=true->p x=true)(hx: ∃x∈l,p x=true/\q x=false):l.countP q<l.countP p:=by
 induction l with
 | nil=>obtain⟨x,hx,_⟩:=hx;simp at hx
 | cons y l ih=>
  have vh:l.countP q<=l.countP p:=List.countP_mono_left fun x hx'=>h x (List.mem_cons_of_mem _ hx');obtain⟨x,hx,h1,h2⟩:=hx;rw[List.countP_cons,List.countP_cons];rcases wJ.1 hx with rfl|hx
  ·simp[h1,h2];omega
  ·have:=ih (fun z hz=>h z (List.mem_cons_of_mem _ hz)) ⟨x,hx,h1,h2⟩;have hy:=h y oh;cases hq:q y<;>cases hp:p y<;>simp_all<;>omega
def Bf{out:List Int}{id:Int}(h:(Zl l id).2=true)(hn:(out.any fun y=>id==y)=false):free l (out++[id])+1<=free l out:=by
 refine L7 (fun e _ he=>?_) ?_
 ·simp only[List.any_append,Bool.not_or,we]at he;exact he.1
 ·obtain⟨e,he,rfl⟩:=LW h;exact⟨e,he,by simpa using hn,oh⟩
def Grow(l:List Ent)(out out':List Int):Prop:=free l out'<=free l out/\out'.length+free l out'<=out.length+free l out
def Grow.refl(l:List Ent)(out:List Int):Grow l out out:=⟨wl _,wl _⟩
def Grow.trans{a b c:List Int}(h:Grow l a b)(k:Grow l b c):Grow l a c:=⟨wu k.1 h.1,wu k.2 h.2⟩
def LS{kind:Int}{rec:Int->List Int->List Int}(hr: ∀id out,Grow l out (rec id out))(out:List Int)(x:Lnk):Grow l out (dF l kind rec out x):=by
 unfold dF;split
 ·exact Grow.refl l out
 ·rename_i h;split
  ·rename_i hg;simp only[jQ,not_or,Bool.not_eq_true]at h;have:=Bf hg h.2;exact Grow.trans ⟨oa,ot⟩ (hr x.tgt (out++[x.tgt]))
  ·exact Grow.refl l out
def pm{l:List Ent}{kind:Int}{rec:Int->List Int->List Int}(hr: ∀id out,Grow l out (rec id out)): ∀(xs:List Lnk) (out:List Int),Grow l out (xs.foldl (dF l kind rec) out)
 | [],out=>Grow.refl l out
 | x::xs,out=>(LS hr out x).trans (pm hr xs _)
def xK(l:List Ent):Prop:=l.length<=1000000/\∀e∈l,e.links.length<=1000000
def MidE(l:List Ent):Prop:=l.length<=100000/\∀e∈l,e.links.length<=100000
def MidE.small(h:MidE l):xK l:=⟨by have:=h.1;omega,fun e he=>by have:=h.2 e he;omega⟩
def Fs(l:List Ent)(e:Ent)(x:Lnk):Option Int:=
 if inv x.kind<0 then some 14 else if(Zl l x.tgt).2=false then some 9 else if qcj (Zl l x.tgt).1 ⟨inv x.kind,e.id⟩=false then some 1 else none
def We(l:List Ent)(e:Ent):Option Int:=e.links.findSome? (Fs l e)
def ring(qdI:Int->Int->List Int)(e:Ent):Bool:=decide (e.id∈qdI e.id 2)||decide (e.id∈qdI e.id 4)
def chkF(l:List Ent)(qdI:Int->Int->List Int):Int:=
 match l.findSome? (We l)with
 | some c=>c
 | none=>if l.any (ring qdI)then 17 else 0
def Rn{α β:Type}{g:α->Option β}: ∀{l:List α} {k:Nat} {x:α} {c:β},l[k]? =some x->(∀y∈l.take k,g y=none)->g x=some c->l.findSome? g=some c
 | [],k,x,c,h,_,_=>by simp at h
 | y::l,0,x,c,h,_,hg=>by
  simp at h;subst h;simp[hg]
 | y::l,k+1,x,c,h,hi,hg=>by have h0:=hi y oh;simp only[List.findSome?_cons,h0];exact Rn (by simpa using h) (fun z hz=>hi z (by simp[hz])) hg
def CS{l:List Ent}{qdI:Int->Int->List Int}{k m:Nat}{e:Ent}{x:Lnk}{c:Int}(he:l[k]? =some e)(hi: ∀y∈l.take k,We l y=none)(hx:e.links[m]? =some x)(hj: ∀y∈e.links.take m,Fs l e y=none)
  (h:Fs l e x=some c):chkF l qdI=c:=by
 rw[chkF,Rn he hi (Rn hx hj h)]
end Go.Proofs.YtobpcppcjdnkmaaGreat.W
namespace Go.Proofs.YtobpcppcjdnkmaaGreat
open Go.Proofs.Tryz
open Go.Dl
section
variable {α:Type} {S:Svc α} {cov:List Nte->Nte->Prop} {tx:ByteArray->Prop} {d:Dcm} {p:Plc}
def Stay.less{W W':List Int}{a b:Dcm}(h:Stay p W a b)(hi: ∀i,i∈W->i∈W'):Stay p W' a b:=⟨h.rc,h.trs,h.low,h.get,fun i hn=>h.oth i fun e=>hn (hi i e),h.back⟩
def O5(p:Plc)(w nx:Int)(fs gs:List ByteArray):(aK p w nx fs gs).length=2*fs.length:=by
 unfold aK;rw[List.length_flatMap];have:(wR fs.length).map (fun k=>[nM p w nx fs k,nG p nx gs k].length)=yb fs.length 2:=by rw[List.eq_replicate_iff];simp
 rw[this,List.sum_replicate_nat];omega
def Oz(H:NtsA cov tx d)(T:TrsA d.tiers p){w nx:Int}{fs gs:List ByteArray}{L:List Nte}(Q:Put d w p.m p.g (Hd p w nx fs) (U4 p nx gs fs.length) L):Stay p [w] d (d.withN L):=by
 have qf:=T.lt;refine⟨rfl,rfl,fun t ht i=>Q.sibs_low H T ht i,fun i h1 _=>Q.get_low H T h1,fun i hi=>Q.lines H T (by simpa using hi),fun i h1 h2=>?_⟩;obtain⟨h3,h4⟩:=ZC h1;rcases(Q.mem _).1 h3 with h|h|h
 ·have:=Q.get_old H h;rwa [h4]at this
 ·have:=(Q.mem_m h).1;omega
 ·have:=(Q.go _ h).1;omega
def GJ{W:List Int}{d':Dcm}(h:Stay p W d d')(T:TrsA d.tiers p){w:Int}(hw:vK d p w=true)(hn:w∉W)(hr:ZZ S p d w):ZZ S p d' w:=by
 have qf:=T.lt;obtain⟨h1,h2⟩:=isWord_iff.1 hw;have e:=h.get w h1 oa;have et:qu d'.notes w=qu d.notes w:=by unfold qu;rw[e]
 obtain⟨k1,k2,k3⟩:=h.oth w hn;unfold ZZ at hr ⊢;rw[et,k1];have es: ∀a,Qx S d' p w a=Qx S d p w a:=fun a=>by unfold Qx vk;rw[h.word oa,k2,k3]
 rw[es];exact hr
def SP(d:Dcm):Prop:=∀t q,(vV d t q).length<=14
def JD{G:Nte->Bool}(h:SP d):SP (d.cut G):=fun t q=>by refine wu ?_ (h t q);unfold vV Dcm.cut;exact(List.filter_sublist.filter _).length_le
def UI(H:NtsA cov tx d){w tm tg:Int}{M Gs L:List Nte}(Q:Put d w tm tg M Gs L)(h:SP d)(hM:M.length<=14):SP (d.withN L):=fun t q=>by
 by_cases h1:t=tm/\q=w
 ·rw[h1.1,h1.2,Q.sibs_m H];exact hM
 ·by_cases h2:t=tg/\∃g∈Gs,g.par=q
  ·obtain⟨e,g,hg,e2⟩:=h2;rw[e,<-e2,Q.sibs_g H hg];simp
  ·have:vV (d.withN L) t q=vV d t q:=by
    refine nV (eu (d:=d.withN L) Q.up t q) (eu H.up t q) fun n=>?_;rw[mem_sibs,mem_sibs];have:n∈(d.withN L).notes↔n∈L:=Iff.rfl;rw[this,Q.mem n];constructor
    ·rintro⟨h|h|h,e1,e2⟩
     ·grind
     ·have:=Q.mem_m h;exact ak ⟨by rw[<-e1];exact this.1,by rw[<-e2];exact this.2.1⟩ h1
     ·exact ak ⟨by rw[<-e1];exact(Q.go n h).1,n,h,e2⟩ h2
    ·grind
   rw[this];exact h t q
def OV(H:NtsA cov tx d)(T:TrsA d.tiers p)(Y:LinOk S tx){w nx:Int}(hw:vK d p w=true)(h0:(cJ S p d nx w).2.1=0)(hl:d.notes.length<=300)(hs:SP d):
  NtsA cov tx (cJ S p d nx w).1/\Stay p [w] d (cJ S p d nx w).1/\ZZ S p (cJ S p d nx w).1 w/\(cJ S p d nx w).1.notes.length<=300/\SP (cJ S p d nx w).1:=by
 have qf:=T.lt;obtain⟨w1,w2⟩:=isWord_iff.1 hw;have Q:=Ju H T w;have C:=RZ H T w;have QG:(d.cut (zb d p w)).notes.length<=d.notes.length:=yN ..;have ce:=C.get w w1 oa;have ct:qu (d.cut (zb d p w)).notes w=qu d.notes w:=by unfold qu;rw[ce]
 have cw:vK (d.cut (zb d p w)) p w=true:=by rw[C.word oa];exact hw
 unfold cJ at h0 ⊢;by_cases hk:(S.st w (qu d.notes w)).1=4
 ·rw[j7 (by simpa using hk)]at h0 ⊢;by_cases uI:Qx S d p w (S.st w (qu d.notes w)).2=true
  ·rw[ae uI]at h0 ⊢;exact⟨H,Stay.refl ..,by unfold ZZ;rw[ae hk];exact uI,hl,hs⟩
  ·rw[j7 uI]at h0 ⊢;simp only at h0 ⊢;generalize ha:(S.st w (qu d.notes w)).2=a at*
   unfold dW at h0 ⊢;rw[ae hw]at h0 ⊢;by_cases hf:bI (d.cut (zb d p w)) nx (S.lic (qu (d.cut (zb d p w)).notes w) a) (S.lin a).1 (S.lin a).2.2=0
   ·rw[ae hf]at h0 ⊢;simp only;have hc:=Q.nts H T;unfold bI at hf;split at hf
    ·omega
    split at hf
    ·omega
    rename_i he;have he:(S.lin a).2.2=0:=oa;split at hf
    ·omega
    rename_i vo;split at hf
    ·omega
    split at hf
    ·omega
    rename_i Q5 P7;split at hf
    ·omega
    rename_i hfull;obtain⟨y1,y2,y3,y4⟩:=Y.len a he;have P:=Rx (gs:=(S.lin a).2.1) hc T (w:=w) (nx:=nx) (fs:=(S.lin a).1) (by rw[ce];exact w1) (Q.none_ H T) oa oa (by simpa using P7);have D:=Oz hc T P;obtain⟨tM,m1,m2,m3⟩:=T.m;obtain⟨tG,g1,g2,g3⟩:=T.g;have hN:=P.nts hc m1 m2 g1 g2 g3 ⟨by rw[ce];exact w1,by rw[ce,m3];exact w2⟩ (fun n hn=>by
     rcases hn with hn|hn
     ·obtain⟨k,hk',rfl⟩:=mem_nM.1 hn;have hx:(S.lin a).1[k]? =some (S.lin a).1[k]:=oh;simp only[nM,hx,yJ];refine Y.fo a he _ (yd hk') ?_;have:=yY.1 (by simpa using vo:((S.lin a).1.any fun s=>decide (200<s.size))=false) _ (yd hk');simpa using this
     ·obtain⟨k,hk',rfl⟩:=mem_nG.1 hn;have hx:(S.lin a).2.1[k]? =some ((S.lin a).2.1[k]' oa):=oh;simp only[nG,hx,yJ];exact Y.gl a he _ (yd _))
    refine⟨hN,(C.trans D).less (fun i hi=>by simpa using hi),?_,?_,UI hc P (JD hs) (by simp only[Hd,wn,List.length_range];omega)⟩
    ·have de:=D.get w (by rw[ce];exact w1) (by rw[ce];omega);have dt:qu (uX (d.cut (zb d p w)) p w nx (S.lin a).1 (S.lin a).2.1).notes w=qu d.notes w:=by rw[<-ct];unfold qu;exact af (fun x=>x.1.txt) de
     obtain⟨q1,q2⟩:=P.lines_w hc T oa;have dw:=D.word oa (w:=w);unfold ZZ;rw[dt,ae hk,ha];unfold Qx vk;have:vK (uX (d.cut (zb d p w)) p w nx (S.lin a).1 (S.lin a).2.1) p w=true:=by rw[<-cw];exact dw
     rw[ae this];unfold uX;rw[q1,q2];simp[he]
    ·show(bF _).length<=300;unfold bF;rw[uA,wz];have:(aK p w nx (S.lin a).1 (S.lin a).2.1).length=2*(S.lin a).1.length:=O5 ..;omega
   ·grind
 ·rw[ae hk]at h0 ⊢;by_cases hc:0<(d.kids w p.m).length
  ·rw[ae hc]at h0 ⊢;simp only at h0 ⊢;unfold cD;rw[ae hw];simp only;refine⟨Q.nts H T,C,?_,wu QG hl,JD hs⟩;unfold ZZ;rw[ct,j7 hk];exact Q.kids_w H T
  ·rw[j7 hc]at h0 ⊢;refine⟨H,Stay.refl ..,?_,hl,hs⟩;unfold ZZ;rw[j7 hk];exact j0.1 (Nat.le_zero.1 (Nat.not_lt.1 hc))
def lS{ts:List Tir}(T0: ∀d:Dcm,d.tiers=ts->TrsA d.tiers p)(Y:LinOk S tx): ∀(ws:List Int) (d:Dcm) (nx:Int),d.tiers=ts->NtsA cov tx d->(∀w∈ws,vK d p w=true)->ws.Nodup->d.notes.length<=300->SP d->(QI S p ws d nx).2=0->
  NtsA cov tx (QI S p ws d nx).1/\Stay p ws d (QI S p ws d nx).1/\(∀w∈ws,ZZ S p (QI S p ws d nx).1 w)/\(QI S p ws d nx).1.notes.length<=300/\SP (QI S p ws d nx).1
 | [],d,nx,_,H,_,_,hl,hs,_=>⟨H,Stay.refl ..,fun w hw=>(by cases hw),hl,hs⟩
 | w::ws,d,nx,ht,H,hw,hn,hl,hs,h0=>by
  have T:=T0 d ht;have qf:=T.lt;simp only[QI]at h0 ⊢;by_cases h1:(cJ S p d nx w).2.1=0
  ·rw[j7 (by simpa using h1)]at h0 ⊢;obtain⟨o1,o2,o3,o4,o5⟩:=OV H T Y (hw w oh) h1 hl hs;obtain⟨n1,n2⟩:=jE.1 hn;have ht':(cJ S p d nx w).1.tiers=ts:=o2.trs.trans ht;have hw': ∀v∈ws,vK (cJ S p d nx w).1 p v=true:=fun v hv=>by rw[o2.word oa];exact hw v (by simp[hv])
   obtain⟨a1,a2,a3,a4,a5⟩:=lS T0 Y ws _ _ ht' o1 hw' n2 o4 o5 h0;refine⟨a1,o2.trans a2,fun v hv=>?_,a4,a5⟩;rcases wJ.1 hv with rfl|hv
   ·exact GJ a2 (T0 _ ht') (by rw[o2.word oa];exact hw v oh) n1 o3
   ·grind
  ·grind
end
attribute [local irreducible] DW DCalls ECalls NCalls wk IW
section
attribute [local go_sem] vp qj Ent.enc Ent.row Lnk.enc Lnk.row Sns.enc Sns.row bB
abbrev qe1:Dl.PL:=fun|13=> Dl.ll 0 38 []|_=>[]
def Om(e:Ent)(hl:e.links.length<=1048576):NCalls pP 155 [.agg e.row] (zJ (e.links.length<=12)):=by
 have qi:=qo;have hI:=bc;replace hI:Kp _:=⟨hI⟩;refine nX (N:=76) (rs:=[.tmp 2]) qe1 func155 ?_;refine gC ?_ ?_<;>intro hc;all_goals first|exact qJ|(intro hz;grind)|exact cC og|exact iq og|skip
 refine lq e.links [1] [1] 3 ?_ ?_
 ·intro k x hx hk hm qs qf hw _;have h1:=hI.1 x.tgt;generalize co x.tgt=b at*
  clear hm qs;rcases jC k with Z5|Z5
  ·have h0:decide ((0:Int)<(k:Int))=false:=by grind
   clear Z5 hc;repeat' first|refine gQ ?_|exact gU|refine gS ?_|exact gT|(first|apply xc|apply gf|apply gt)<;>intro hc
   all_goals exact gJ
  obtain⟨m,fj⟩: ∃m,k=m+1:=⟨k - 1,oa⟩;obtain⟨y,hy⟩: ∃y,e.links[m]? =some y:=⟨_,wa oa⟩;have h0:decide ((0:Int)<(k:Int))=true:=og;have hwm:aD .i64 ((k:Int) - 1)=(m:Int):=by rw[show (k:Int) - 1=(m:Int) by omega];exact Zp oa
  clear Z5 fj hc;repeat' first|refine gQ ?_|exact gU|refine gS ?_|exact gT|(first|apply xc|apply gf|apply gt)<;>intro hc
  all_goals exact gJ
 intro qf _;repeat' first|refine gQ ?_|exact gU|refine gS ?_|exact gT|(first|apply xc|apply gf|apply gt)<;>intro hc
 all_goals exact gJ
abbrev qe0:Dl.PL:=fun|8=> Dl.ll 0 12 ((12,.step)::Dl.ll 13 2 [])|_=>[]
def Uz(rs:List Lnk)(n:Int)(hl:rs.length<=1048576):NCalls pP 156 [dv (.sl 2 (rs.map Lnk.enc)),dv (li n)] (zJ True):=by
 have qi:=qo;have hR:=qaR;have hP:=qaW;simp only[Lnk.row]at hR hP;replace hR:Kp _:=⟨hR⟩;replace hP:Kp _:=⟨hP⟩;refine nX (N:=37) (rs:=[.tmp 4]) qe0 func156 ?_;refine gB ?_;intro hc;refine lq rs [0] [] 5 ?_ ?_
 ·intro k x hx hk hm qs qf hw _;have h1:=hR.1 x;generalize rC x=b at*
  clear hm qs;rcases jC k with Z5|Z5
  ·have h0:decide ((0:Int)<(k:Int))=false:=by grind
   clear Z5;repeat' first|refine gQ ?_|exact gU|refine gS ?_|exact gT|(first|apply xc|apply gf|apply gt)<;>intro hc
   all_goals exact gJ
  obtain⟨m,fj⟩: ∃m,k=m+1:=⟨k - 1,oa⟩;obtain⟨y,hy⟩: ∃y,rs[m]? =some y:=⟨_,wa oa⟩;have h0:decide ((0:Int)<(k:Int))=true:=og;have hwm:aD .i64 ((k:Int) - 1)=(m:Int):=by rw[show (k:Int) - 1=(m:Int) by omega];exact Zp oa
  have h2:=hP.1 y x;generalize Pj y x=b2 at*
  clear Z5 fj;repeat' first|refine gQ ?_|exact gU|refine gS ?_|exact gT|(first|apply xc|apply gf|apply gt)<;>intro hc
  all_goals exact gJ
 intro qf _;exact gA
def Oj(xs:List Sns)(s:Sns)(hl:xs.length<=1048576)(h1:s.gloss.size<=1048576)(h2:s.txt.size<=1048576):NCalls pP 199 [dv (.sl 2 (xs.map Sns.enc)),.agg s.row] (zJ (Zu s.gloss=true)):=by
 have qi:=qo;have hG:=Ou s.gloss h1;have hT:=IT s.txt;have hH:=UF xs s.gloss oa;generalize Qh s.txt=t at*
 generalize HM xs s.gloss=b at*
 generalize Zu s.gloss=b2 at*
 clear h1 h2 hl;refine nX (N:=20) (rs:=[.tmp 4]) qg func199 ?_;repeat' first|refine gQ ?_|exact gU|refine gS ?_|exact gT|(first|apply xc|apply gf|apply gt)<;>intro hc
 all_goals exact gJ
abbrev qe2:Dl.PL:=fun|12=> Dl.ll 0 9 [(9,.step),(10,.light)]|_=>[]
def Ky(e:Ent)(hl:e.senses.length<=1048576)(hs: ∀s∈e.senses,s.gloss.size<=1048576/\s.txt.size<=1048576):NCalls pP 154 [.agg e.row] (zJ (e.senses.length<=5/\∀s∈e.senses,Zu s.gloss=true)):=by
 have qi:=qo;have hI:=bc e.main;generalize co e.main=b at*
 replace hs:Kp _:=⟨hs⟩;refine nX (N:=52) (rs:=[.tmp 2]) qe2 func154 ?_;repeat' first|refine gQ ?_|exact gU|refine gS ?_|exact gT|(first|apply xc|apply gf|apply gt)<;>intro hc
 all_goals first|exact qJ|(intro hz;grind)|exact cC og|exact iq og|skip
 all_goals
  have hc5:e.senses.length<=5:=og;refine lp e.senses [1] [1] (fun k=>[(3,dv (li k))]) (fun _=>[]) (fun k=>∀s∈e.senses.take k,Zu s.gloss=true) oh ?_ ?_
  ·intro k s hx hk hm qs qf hw hi;obtain⟨ut,hut,Ta⟩: ∃ut:List Sns,(e.senses.map Sns.enc).take k=ut.map Sns.enc/\ut.length<=1048576:=⟨e.senses.take k,jv.symm,by rw[ym];omega⟩;have hz:=wM k;have bw:=Nat.le_of_lt hk;have hC:=Oj ut s Ta (hs.1 s hm).1 (hs.1 s hm).2;have hi':=fun h=>qG (q:=fun s=>Zu s.gloss=true) qs hi h;simp only[Sns.row]at hC;clear hm qs hi;repeat' first|refine gQ ?_|exact gU|(refine eH ?_<;>intro er eN)|(refine dM ?_<;>intro bo eO)|refine gS ?_|exact gT|(first|apply xc|apply gf|apply gt)<;>intro hc
   all_goals exact gJ
  intro qf hi;rw[wc]at hi;repeat' first|refine gQ ?_|exact gU|refine gS ?_|exact gT|(first|apply xc|apply gf|apply gt)<;>intro hc
  all_goals exact gJ
abbrev qe3:Dl.PL:=fun|13=> Dl.ll 0 6 [(6,.step),(7,.light)]|16=> Dl.ll 0 7 [(7,.step)]|21=> Dl.ll 0 10 [(10,.step)]|_=>[]
def Og(g:List Phon)(e:Ent)(hf:e.form.length<=1048576)(ha:e.alts.length<=1048576)(hw: ∀w∈e.alts,w.length<=1048576):NCalls pP 153 [.agg (qj g),.agg e.row] (zJ (vM g e.form=0/\∀w∈e.alts,vM g w=0)):=by
 have qi:=qo;have hI:=bc e.id;have hF:=IS g e.form;have hW:=IS g;simp only[qj]at hW hF;generalize co e.id=b at*
 generalize vM g e.form=c at*
 replace hw:Kp _:=⟨hw⟩;replace hW:Kp _:=⟨hW⟩;have hl:=hw;clear hw;refine nX (N:=73) (rs:=[.tmp 4]) qe3 func153 ?_;repeat' first|refine kx hI ?_|refine kx hF ?_|refine gQ ?_|exact gU|refine gS ?_|exact gT|(first|apply xc|apply gf|apply gt)<;>intro hc
 all_goals first|exact qJ|(intro hz;grind)|exact cC og|exact iq og|skip
 refine lp e.alts [2,3] [2,3] (fun k=>[(6,dv (li k))]) (fun _=>[]) (fun k=>∀w∈e.alts.take k,vM g w=0) oh ?_ ?_
 ·intro k w hx hk hm qs qf hw hi;have h1:=hW.1 w;have hwl:=hl.1 w hm;have h2:=IJ w e.form oa;generalize hcw:vM g w=c2 at*
  generalize decide (w=e.form)=b2 at*
  have hi':=fun(h:c2=0)=>qG (q:=fun w=>vM g w=0) qs hi (hcw.trans h);clear hm qs hi hI hF hcw;repeat' first|refine gQ ?_|exact gU|refine gS ?_|exact gT|(first|apply xc|apply gf|apply gt)<;>intro hc
  all_goals first|exact qJ|(intro hz;grind)|exact cC og|exact iq og|skip
  clear h1 h2;refine Pd k [2,3,6] [2,3] (fun j=>[(8,dv (li j))]) (fun _=>[]) (fun _=>True) trivial ?_ ?_
  ·intro j hj Zk rG _;obtain⟨z,hz⟩: ∃z,e.alts[j]? =some z:=⟨_,wa oa⟩;have h3:=IJ w z oa;generalize decide (w=z)=b3 at*
   clear hj hi';repeat' first|refine gQ ?_|exact gU|refine gS ?_|exact gT|(first|apply xc|apply gf|apply gt)<;>intro hc
   all_goals exact gJ
  intro Zk _;repeat' first|refine gQ ?_|exact gU|refine gS ?_|exact gT|(first|apply xc|apply gf|apply gt)<;>intro hc
  all_goals exact gJ
 intro qf hi;rw[wc]at hi;repeat' first|refine gQ ?_|exact gU|refine gS ?_|exact gT|(first|apply xc|apply gf|apply gt)<;>intro hc
 all_goals exact gJ
structure EntN(g:List Phon)(e:Ent):Prop where
 form:vM g e.form=0
 alts: ∀w∈e.alts,vM g w=0
 few:e.senses.length<=5
 gls: ∀s∈e.senses,Zu s.gloss=true
 lnk:e.links.length<=12
def KF(g:List Phon)(e:Ent)(m:MidE e):NCalls pP 101 [.agg (qj g),.agg e.row] (zJ (EntN g e)):=by
 have h1:=Og g e m.form m.alts m.alt;have h2:=Ky e m.senses m.strs;have h3:=Om e m.links;have h4:=Uz e.refs 12 m.refs;have hf:(vM g e.form=0/\∀w∈e.alts,vM g w=0)->(e.senses.length<=5/\∀s∈e.senses,Zu s.gloss=true)->e.links.length<=12->EntN g e:=fun h1 h2 h3=>⟨h1.1,h1.2,h2.1,h2.2,h3⟩;generalize (vM g e.form=0/\∀w∈e.alts,vM g w=0)=p1 at*
 generalize (e.senses.length<=5/\∀s∈e.senses,Zu s.gloss=true)=p2 at*
 generalize (e.links.length<=12)=p3 at*
 generalize EntN g e=p4 at*
 clear m;simp only[Ent.row,qj]at h1 h2 h3 h4 ⊢;replace hf:Kp _:=⟨hf⟩;refine nX (N:=27) (rs:=[.tmp 4]) qg func101 ?_;repeat' first|refine gQ ?_|exact gU|(refine eH ?_<;>intro er eN)|(refine dM ?_<;>intro bo eO)|refine gS ?_|exact gT|(first|apply xc|apply gf|apply gt)<;>intro hc
 all_goals(have hf:=hf.1;clear h1 h2 h3 h4;intro hz;grind)
attribute [local go_sem] vp qj Ent.enc Ent.row Lnk.enc Lnk.row
structure LexN(g:List Phon)(l:List Ent):Prop where
 up:C5 l
 each: ∀e∈l,EntN g e
def TQ{l:List Ent}{k:Nat}{p e:Ent}(hp:l[k]? =some p)(h:C5 (l.take (k+1)))(AZ:p.id<e.id):C5 (l.take (k+1)++[e]):=by
 have ht:l.take (k+1)=l.take k++[p]:=by rw[yV,hp];rfl
 unfold C5 at*
 rw[ht]at h ⊢;simp only[y9,List.pairwise_singleton,yp,wF]at h ⊢;grind
abbrev qeN:Dl.PL:=fun|6=> Dl.ll 0 5 [(5,.step),(6,.light)]|9=> Dl.ll 0 16 []|_=>[]
def KD(g:List Phon)(l:List Ent)(hm: ∀e∈l,MidE e):NCalls pP 52 [.agg (qj g),dv (.sl 8 (l.map Ent.enc))] (zJ (LexN g l)):=by
 have qi:=qo;replace hm:Kp _:=⟨hm⟩;by_cases t0:100<l.length
 ·refine nX (N:=87) (rs:=[.tmp 4]) qeN func52 ?_;refine gC ?_ ?_;all_goals exact gJ
 have n0: ¬(100:Int)<(l.length:Int):=oa;refine nX (N:=87) (rs:=[.tmp 4]) qeN func52 ?_;refine gB ?_;refine lp l [1,2,13] [2] (fun k=>[(14,dv (li k))]) (fun _=>[]) (fun k=>LexN g (l.take k)) ⟨by simp[C5],oh⟩ ?_ ?_
 ·intro k e he hk qb5 qs qf hw hi;have hC:=KF g e (hm.1 e qb5);simp only[Ent.row,qj]at hC;have hE:=fun h=>qG (q:=EntN g) qs hi.each h;clear qb5;rcases jC k with Z5|Z5
  ·have hz:decide ((0:Int)<(k:Int))=false:=by grind
   have hU:C5 (l.take (k+1)):=by rw[qs,Z5];simp[C5]
   clear hi qs Z5;repeat' first|refine gQ ?_|exact gU|(refine eH ?_<;>intro er eN)|(refine dM ?_<;>intro bo eO)|refine gS ?_|exact gT|(first|apply xc|apply gf|apply gt)<;>intro hc
   all_goals first|exact⟨⟨hU,hE og⟩,qJ⟩|(intro hz;grind)
  obtain⟨m,fj⟩: ∃m,k=m+1:=⟨k - 1,oa⟩;obtain⟨p,hp⟩: ∃p,l[m]? =some p:=⟨_,wa oa⟩;have hz:decide ((0:Int)<(k:Int))=true:=og;have AY:aD .i64 ((k:Int) - 1)=(m:Int):=by rw[show (k:Int) - 1=(m:Int) by omega];exact Zp oa
  have hU:p.id<e.id->C5 (l.take (k+1)):=fun h=>by rw[qs,fj];exact TQ hp (by rw[<-fj];exact hi.up) h
  clear hi qs Z5 fj;repeat' first|refine gQ ?_|exact gU|(refine eH ?_<;>intro er eN)|(refine dM ?_<;>intro bo eO)|refine gS ?_|exact gT|(first|apply xc|apply gf|apply gt)<;>intro hc
  all_goals first|exact⟨⟨hU og,hE og⟩,qJ⟩|(intro hz;grind)
 intro qf hi;rw[wc]at hi;refine gB ?_;refine lq l [1,44] [] 45 ?_ ?_
 ·intro k e he hk qb5 qs qf hw _;have hM:=Ej l e.main oa;generalize ZB l e.main=b at*
  have hl:=(hm.1 e qb5).links;clear qb5 qs hi;repeat' first|refine gQ ?_|exact gU|refine gS ?_|exact gT|(first|apply xc|apply gf|apply gt)<;>intro hc
  all_goals first|exact qJ|(intro hz;grind)|exact cC og|exact iq og|skip
  all_goals
   clear hM;refine lq e.links [1,7,44,45,69] [] 70 ?_ ?_
   ·intro j x hx hj VO qs Zk rG _;have hX:=Ej l x.tgt oa;generalize ZB l x.tgt=b2 at*
    clear VO qs;repeat' first|refine gQ ?_|exact gU|refine gS ?_|exact gT|(first|apply xc|apply gf|apply gt)<;>intro hc
    all_goals exact gJ
   intro Zk _;repeat' first|refine gQ ?_|exact gU|refine gS ?_|exact gT|(first|apply xc|apply gf|apply gt)<;>intro hc
   all_goals exact gJ
 intro Zk _;exact gA
attribute [local go_sem] vp Ent.enc Ent.row Lnk.enc Lnk.row
def Py(k:Int):Int:=if k=0\/k=1 then k else if k=2 then 3 else if k=3 then 2 else if k=4 then 5 else if k=5 then 4 else -1
def Oo(k:Int):DCalls pP 103 [dv (li k)] (dv (li (Py k))):=by
 refine dX (N:=16) (rs:=[.tmp 2]) qg func103 ?_;repeat' first|refine gQ ?_|exact gU|refine gS ?_|exact gT|(first|apply xc|apply gf|apply gt)<;>intro hc
 all_goals exact cC (by unfold Py;grind)
def AM(l:List Ent)(id:Int)(hl:l.length<=1048576):DCalls pP 104 [dv (.sl 8 (l.map Ent.enc)),dv (li id)] (dv (li (zG (fun e=>e.id==id) l))):=by
 have qi:=qo;refine dX (N:=20) (rs:=[.tmp 4]) qg func104 ?_;refine gk ?_;refine lp l [0,1] [] (fun k=>[(5,dv (li k))]) (fun _=>[]) (fun k=>∀e∈l.take k,(e.id==id)=false) oh ?_ ?_
 ·intro k e he hk hm qs qf hw hv;have ha:=fun hc=>z8 (q:=fun e:Ent=>e.id==id) he hv hc;clear hm;refine gB ?_;intro hc;exact⟨iF hv hc,qJ⟩
 ·intro qf hv;rw[wc]at hv;refine gB ?_;exact cC (z7 hv)
abbrev qe4:Dl.PL:=fun|4=> Dl.ll 0 7 []|_=>[]
def Oq(e:Ent)(x:Lnk)(hl:e.links.length<=1048576):NCalls pP 105 [.agg e.row,.agg x.row] (bn True):=by
 have qi:=qo;refine nX (N:=20) (rs:=[.tmp 4]) qe4 func105 ?_;refine gB ?_;refine lq e.links [2,3] [2,3] 5 ?_ ?_
 ·intro k y hy hk hm qs qf hw _;clear hm qs;refine gB ?_;intro hc;all_goals exact gJ
 intro qf _;exact gA
def IV(l:List Int)(x:Int)(hl:l.length<=1000000000):NCalls pP 106 [dv (.sl 1 (ints l)),dv (li x)] (bn True):=by
 have qi:=qo;refine nX (N:=18) (rs:=[.tmp 4]) qg func106 ?_;refine gB ?_;refine lq l [0,1] [] 5 ?_ ?_
 ·intro k y hy hk hm qs qf hw _;have hx:=ZQ hy;clear hm qs;refine gB ?_;intro hc;all_goals exact gJ
 intro qf _;exact gA
def Cj{α:Type}(q:α->Bool)(l:List α):zG q l= -1\/∃(k:Nat) (x:α),zG q l=k/\l[k]? =some x:=by
 unfold zG;by_cases h:l.any q=true
 ·rw[ae h];obtain⟨x,hx,hq⟩:=yK.1 h;have qf:=List.findIdx_lt_length_of_exists ⟨x,hx,hq⟩;exact .inr ⟨_,l[l.findIdx q],rfl,wa qf⟩
 ·grind
def di(bs:List Bool):Dl.Rows:=bs.map fun b=>[T.c (lb b)]
def SC(r:Ren)(bs:List Bool):Dl.Rows.tr r (di bs)=di bs:=by simp[di,Dl.Rows.tr,T.trAll,T.tr]
def FO{bs:List Bool}{j:Nat}{b:Bool}(h:bs[j]? =some b):(di bs)[j]? =some [T.c (lb b)]:=by simp[di,h]
def Ml(bs:List Bool)(j:Nat):(di bs).set j [T.c (lb true)]=di (bs.set j true):=by simp[di,List.map_set]
attribute [local go_sem] SC Ml
def JO{bs:List Bool}{l:List Ent}{j:Nat}{e:Ent}(h:bs.length=l.length)(he:l[j]? =some e): ∃b,bs[j]? =some b:=⟨_,wa (by rw[h];exact(wg.1 he).1)⟩
def qdL(l:List Ent)(kind:Int)(y:List Int×List Bool)(x:Lnk):List Int×List Bool:=
 if x.kind=kind/\0<=zG (fun e=>e.id==x.tgt) l/\y.2[(zG (fun e=>e.id==x.tgt) l).toNat]? =some false then(y.1++[x.tgt],y.2.set (zG (fun e=>e.id==x.tgt) l).toNat true)else y
def qdK(l:List Ent)(kind:Int)(y:List Int×List Bool)(n:Int):List Int×List Bool:=
 if zG (fun e=>e.id==n) l= -1 then y else((l[(zG (fun e=>e.id==n) l).toNat]?.map (·.links)).getD []).foldl (qdL l kind) y
def qdJ(l:List Ent)(id kind:Int):Nat->List Int×List Bool
 | 0=>([id],yb l.length false)
 | r+1=>(qdJ l id kind r).1.foldl (qdK l kind) ([],(qdJ l id kind r).2)
def Xs(l:List Ent)(bs:List Bool):Nat->List Int
 | 0=>[]
 | k+1=>if bs[k]? =some true then Xs l bs k++(l[k]?.map (·.id)).toList else Xs l bs k
def gO(l:List Ent)(id kind:Int):List Int:=Xs l (qdJ l id kind (l.length+1)).2 l.length
def GT(l:List Ent)(id kind:Int)(h5:l.length<=5)(Rj: ∀e∈l,e.links.length<=12):DCalls pP 107 [dv (.sl 8 (l.map Ent.enc)),dv (li id),dv (li kind)] (dv (.sl 1 (ints (gO l id kind)))):=by
 have qi:=qo;have hb4:Tryz.t4.bytes*l.length<=281474976710656:=by have:Tryz.t4.bytes=1:=om;rw[this];omega
 have hF:=fun n=>AM l n oa;have hI:=fun n=>Cj (fun e:Ent=>e.id==n) l;have hrep:yb l.length [T.c (lb false)]=di (yb l.length false):=by simp[di]
 replace hF:Kp _:=⟨hF⟩;replace hI:Kp _:=⟨hI⟩;replace Rj:Kp _:=⟨Rj⟩;refine dX (N:=110) (rs:=[.tmp 6]) qg func107 ?_;refine gB ?_;refine StepC.mk (Step.makeSlice (n:=l.length) (e:=4) (z:=[T.c (lb false)]) (inf:=Tryz.t4) (kx:=.i64) (ky:=.i64) rfl rfl om om om oo om oe oe ot hb4 oa ?_);rw[hrep];refine gB ?_;refine lw (σ:=Nat×List Int×List Bool) [0,2,7] [] (fun y=>[(8,dv (.sl 1 (ints y.2.1))),(9,dv (li y.1))]) (fun y=>[(20,di y.2.2)]) (fun y=>y.1<=l.length+1/\y.2.1.length<=12 ^ y.1/\y.2.2.length=l.length/\y.2=qdJ l id kind y.1) (fun y=>l.length+1 - y.1) (0,[id],yb l.length false) ⟨wM _,oh,oh,rfl⟩ ?_ (h0:=by simp +decide only[go_sem,ints,wo,wm]);rintro⟨r,nx,bs⟩ ⟨hr,Q5,Fa,hy⟩;simp only at hr Q5 Fa hy ⊢;replace hy:Kp _:=⟨hy⟩;cases lF:decide ((r:Int)<=(l.length:Int))
 ·clear Q5 hF hI Rj;refine gB ?_;refine xo 16 16 1 ?_;refine S7 l [0,7] [20] (fun k y=>[(16,.one (.own 16 1 (ints y))),(17,dv (li k))]) (fun _ _=>[]) (fun k (y:List Int)=>y.length<=k/\y=Xs l bs k) [] ⟨wM _,rfl⟩ ?_ ?_
  ·rintro k e o he hk hm qs qf hw ⟨ho,qb1⟩;obtain⟨b,hb⟩:=JO Fa he;have hbr:=FO hb;have lE:(o.length+1)*8<=140737488355328:=oa;have VM:Xs l bs (k+1)=if b=true then o++[e.id]else o:=by rw[Xs,hb,he,<-qb1];simp
   replace VM:Kp _:=⟨VM⟩;clear hm qs hb qb1;cases b
   ·refine gB ?_;exact⟨o,⟨oa,VM.1.symm⟩,qJ⟩
   ·refine gB ?_;have he:ints o++[[li e.id]]=ints (o++[e.id]):=oh;exact⟨o++[e.id],⟨ot,VM.1.symm⟩,by rw[<-he];clear he;exact qJ⟩
  ·rintro o qf ⟨ho,qb1⟩;have X5:gO l id kind=o:=by rw[gO,show l.length+1=r by simp at lF;omega,<-hy.1,qb1]
   rw[X5];clear qb1 X5;exact gA
 have hwr:aD .i64 ((r:Int)+1)=((r+1:Nat):Int):=by rw[wrap_i64 oa oa];simp
 have hr5:r<=5:=og;have hn5:nx.length<=12 ^ 5:=wu Q5 (Nat.pow_le_pow_right oo hr5);have hn6:12*nx.length<=12 ^ (r+1):=oa;clear Q5;refine gB ?_;refine xo 10 10 1 ?_;refine S7 nx [0,2,7,8,9] [] (fun k y=>[(10,.one (.own 10 1 (ints y.1))),(11,dv (li k))]) (fun _ y=>[(20,di y.2)]) (fun k (y:List Int×List Bool)=>(y.1.length<=12*k/\y.2.length=l.length)/\y=(nx.take k).foldl (qdK l kind) ([],bs)) ([],bs) ⟨⟨oh,Fa⟩,rfl⟩ ?_ ?_
 ·rintro k n ⟨o,cs⟩ hn hk hm qs qf hw ⟨⟨ho,nP⟩,hye⟩;simp only at ho nP ⊢;have vO:(nx.take (k+1)).foldl (qdK l kind) ([],bs)=qdK l kind (o,cs) n:=og;clear hye;have hx:=ZQ hn;have hf:=hF.1 n;have lE: ∀j,j<=12->(o.length+j+1)*8<=140737488355328:=oa;rcases hI.1 n with h0|⟨i,e,h0,hi⟩
  ·rw[h0]at hf;rw[qdK,ae h0]at vO;replace vO:Kp _:=⟨vO⟩;clear hm qs;refine gB ?_;refine S7 ([]:List Lnk) [0,2,7,8,9,11,12] [] (fun j y=>[(10,.one (.own 10 1 (ints y))),(13,dv (li j))]) (fun _ _=>[(20,di cs)]) (fun _ (y:List Int)=>y=o) o rfl ?_ ?_ (qi:=by have:=qo;simp;try omega)
   ·simp
   ·rintro y - rfl;refine gB ?_;exact⟨(y,cs),⟨⟨oz,nP⟩,vO.1.symm⟩,qJ⟩
  ·rw[qdK,j7 oa,h0,wO,hi]at vO;simp only[yO,yJ]at vO;replace vO:Kp _:=⟨vO⟩;rw[h0]at hf;have Cn:=Rj.1 e (ww hi);have E9:i<l.length:=og;have h0i:decide ((0:Int)<=(i:Int))=true:=oh;clear hm qs;refine gB ?_;clear hf hx;refine S7 e.links [0,2,7,8,9,11,12] [] (fun j y=>[(10,.one (.own 10 1 (ints y.1))),(13,dv (li j))]) (fun _ y=>[(20,di y.2)]) (fun j (y:List Int×List Bool)=>(y.1.length<=o.length+j/\y.2.length=l.length)/\y=(e.links.take j).foldl (qdL l kind) (o,cs)) (o,cs) ⟨⟨wl _,nP⟩,rfl⟩ ?_ ?_
   ·rintro j x ⟨p,ds⟩ hx hj VO htj qb7 hwj ⟨⟨hp,hds⟩,AZ⟩;simp only at hp hds ⊢;have iC:(e.links.take (j+1)).foldl (qdL l kind) (o,cs)=qdL l kind (p,ds) x:=og;clear AZ;have hfx:=hF.1 x.tgt;have hb8:(p.length+1)*8<=140737488355328:=oa;clear VO htj;rcases hI.1 x.tgt with g0|⟨i2,e2,g0,qce⟩
    ·rw[g0]at hfx;rw[qdL,j7 oa]at iC;replace iC:Kp _:=⟨iC⟩;have hm1:decide ((0:Int)<= -1)=false:=oo;refine gC ?_ ?_<;>intro hc;all_goals exact⟨(p,ds),⟨⟨oz,hds⟩,iC.1.symm⟩,qJ⟩
    ·rw[g0]at hfx;rw[qdL,g0,wO]at iC;simp only at iC;obtain⟨b,hb⟩:=JO hds qce;have hbr:=FO hb;have h0i2:decide ((0:Int)<=(i2:Int))=true:=oh;have hil2:i2<l.length:=og;rw[hb]at iC;replace iC:Kp _:=⟨iC⟩;clear hb;cases b
     ·refine gC ?_ ?_<;>intro hc
      ·exact⟨(p++[x.tgt],ds.set i2 true),⟨⟨ot,by simpa using hds⟩,by rw[iC.1,ae ⟨by simpa using hc,oa,rfl⟩]⟩,by rw[show ints (p++[x.tgt])=ints p++[[li x.tgt]] by simp];exact qJ⟩
      exact⟨(p,ds),⟨⟨oz,hds⟩,by rw[iC.1,j7 (by simp at hc;simp[hc])]⟩,qJ⟩
     ·refine gC ?_ ?_<;>intro hc;all_goals exact⟨(p,ds),⟨⟨oz,hds⟩,by rw[iC.1,j7 oh]⟩,qJ⟩
   ·rintro⟨p,ds⟩ qb7 ⟨⟨hp,hds⟩,AZ⟩;rw[wc]at AZ;have qbZ:=vO.1.trans AZ.symm;replace qbZ:Kp _:=⟨qbZ⟩;clear AZ;simp only at hp hds ⊢;refine gB ?_;exact⟨(p,ds),⟨⟨oz,hds⟩,qbZ.1.symm⟩,qJ⟩
 ·rintro⟨o,cs⟩ qf ⟨⟨ho,nP⟩,hye⟩;rw[wc]at hye;have F4:(o,cs)=qdJ l id kind (r+1):=by rw[qdJ,<-hy.1,hye]
  replace F4:Kp _:=⟨F4⟩;clear hye;simp only at ho nP ⊢;refine gB ?_;exact⟨(r+1,o,cs),⟨by simp at lF;omega,wu ho hn6,nP,F4.1⟩,by simp at lF;omega,qJ⟩
abbrev qgD:Dl.PL:=fun|13=> Dl.ll 0 13 [(13,.step),(14,.light)]|18=> Dl.ll 0 12 ((12,.step)::Dl.ll 13 13 [(26,.step),(27,.light)])|_=>[]
def GY(l:List Ent)(h5:l.length<=5)(Rj: ∀e∈l,e.links.length<=12):NCalls pP 53 [dv (.sl 8 (l.map Ent.enc))] (zJ True):=by
 have qi:=qo;have hF:=fun n=>AM l n oa;have hI:=fun n=>Cj (fun e:Ent=>e.id==n) l;have hO: ∀bs k,(Xs l bs k).length<=k:=fun bs k=>by
  induction k with
  | zero=>exact wl _
  | succ k ih=>
   rw[Xs];split
   ·grind
   ·omega
 have hR: ∀id k,(gO l id k).length<=1000000000:=fun id k=>wu (hO _ _) oa;have hC:=fun id k=>GT l id k h5 Rj;replace hF:Kp _:=⟨hF⟩;replace hI:Kp _:=⟨hI⟩;replace hR:Kp _:=⟨hR⟩;replace hC:Kp _:=⟨hC⟩;replace Rj:Kp _:=⟨Rj⟩;clear hO;refine nX (N:=91) (rs:=[.tmp 2]) qgD func53 ?_;refine gB ?_;refine lq l [0] [] 3 ?_ ?_
 ·intro k e he hk hm qs qf hw _;have Cn:=Rj.1 e hm;clear hm qs;refine gB ?_;refine lq e.links [0,3] [] 4 ?_ ?_
  ·intro j x hx hj VO htj qb7 hwj _;have hV:=Oo x.kind;generalize Py x.kind=v at*
   have hf:=hF.1 x.tgt;clear VO htj;rcases hI.1 x.tgt with h0|⟨i,y,h0,hi⟩
   ·rw[h0]at hf;exact gA
   rw[h0]at hf;have E9:i<l.length:=og;have hH:=Oq y ⟨v,e.id⟩ (by have:=Rj.1 y (ww hi);omega);simp only[Ent.row,Lnk.row]at hH;have hi0:decide ((i:Int)<0)=false:=oh;exact gA
  intro qb7 _;exact gA
 intro qf _;refine gB ?_;refine lq l [0] [] 7 ?_ ?_
 ·intro k e he hk hm qs qf hw _;have c1:=hC.1 e.id 2;have c2:=hC.1 e.id 4;have i1:=IV (gO l e.id 2) e.id (hR.1 _ _);have i2:=IV (gO l e.id 4) e.id (hR.1 _ _);replace i1:Kp _:=⟨i1⟩;replace i2:Kp _:=⟨i2⟩;clear hm qs;repeat' first|refine kx c1 ?_|refine kx c2 ?_|refine gQ ?_|exact gU|(refine eH ?_<;>intro er eN)|(refine dM ?_<;>intro bo eO)|refine gS ?_|exact gT|(first|apply xc|apply gf|apply gt)<;>intro hc
  refine dM ?_ i1.1;intro b1 _;repeat' first|refine kx c1 ?_|refine kx c2 ?_|refine gQ ?_|exact gU|(refine eH ?_<;>intro er eN)|(refine dM ?_<;>intro bo eO)|refine gS ?_|exact gT|(first|apply xc|apply gf|apply gt)<;>intro hc
  refine dM ?_ i2.1;intro b2 _;exact gA
 intro qf _;exact gA
end
section
attribute [local go_sem] vp qj Phon.enc Ent.enc Ent.row Lnk.enc Lnk.row
abbrev qgE:Dl.PL:=fun|11=> Dl.ll 0 13 []|_=>[]
def KE(g:List Phon)(hg: ∀p∈g,p.name.size<=1048576)(hl:g.length<=1048576):NCalls pP 48 [.agg (qj g)] (zJ True):=by
 have qi:=qo;replace hg:Kp _:=⟨hg⟩;refine nX (N:=58) (rs:=[.tmp 2]) qgE func48 ?_;refine gB ?_;intro hc;refine lq g [1,11] [1] 12 ?_ ?_
 ·intro k p hp hk hm qs qf hw _;have hL:=tQ p.name (hg.1 p hm);generalize vm p.name=b at*
  clear hm qs;repeat' first|refine gQ ?_|exact gU|refine gS ?_|exact gT|(first|apply xc|apply gf|apply gt)<;>intro hc
  refine Pd k [1,3,11,12] [1] (fun j=>[(4,dv (li j))]) (fun _=>[]) (fun _=>True) trivial ?_ ?_
  ·intro j hj Zk rG _;obtain⟨q,hq⟩: ∃q,g[j]? =some q:=⟨_,wa oa⟩;clear hj;repeat' first|refine gQ ?_|exact gU|refine gS ?_|exact gT|(first|apply xc|apply gf|apply gt)<;>intro hc
   all_goals exact gJ
  intro Zk _;repeat' first|refine gQ ?_|exact gU|refine gS ?_|exact gT|(first|apply xc|apply gf|apply gt)<;>intro hc
  all_goals exact gJ
 intro qf _;exact gA
abbrev pl322:Dl.PL:=fun|12=> Dl.ll 0 22 ((22,.step)::(23,.light)::(24,.step)::Dl.ll 25 3 [])|_=>[]
def Vb(e:Ent)(hl:e.links.length<=1048576):NCalls pP 322 [.agg e.row] (zJ True):=by
 have qi:=qo;have hI:=eK;have hC:=nv;have hO:=qe6;replace hI:Kp _:=⟨hI⟩;replace hC:Kp _:=⟨hC⟩;replace hO:Kp _:=⟨hO⟩;refine nX (N:=66) (rs:=[.tmp 2]) pl322 func322 ?_;refine gB ?_;intro hc;refine lq e.links [1,10,11] [1] 12 ?_ ?_
 ·intro k x hx hk hm qs qf hw _;have h1:=hI.1 x.tgt;generalize co x.tgt=b at*
  clear hm qs;rcases jC k with Z5|Z5
  ·have h0:decide ((0:Int)<(k:Int))=false:=by grind
   clear Z5;repeat' first|refine gQ ?_|exact gU|refine gS ?_|exact gT|(first|apply xc|apply gf|apply gt)<;>intro hc
   all_goals exact gJ
  obtain⟨m,fj⟩: ∃m,k=m+1:=⟨k - 1,oa⟩;obtain⟨y,hy⟩: ∃y,e.links[m]? =some y:=⟨_,wa oa⟩;have h0:decide ((0:Int)<(k:Int))=true:=og;have hwm:aD .i64 ((k:Int) - 1)=(m:Int):=by rw[show (k:Int) - 1=(m:Int) by omega];exact Zp oa
  have c1:=hC.1 y.kind x.kind;have c2:=hC.1 y.tgt x.tgt;have c3:=hO.1 [Zo y.kind x.kind,Zo y.tgt x.tgt] (by have:=qo;simp;omega);generalize XH [Zo y.kind x.kind,Zo y.tgt x.tgt]=o at*
  generalize Zo y.kind x.kind=o1 at*
  generalize Zo y.tgt x.tgt=o2 at*
  clear Z5 fj;repeat' first|refine kx c1 ?_|refine kx c2 ?_|refine gQ ?_|exact gU|refine gS ?_|exact gT|(first|apply xc|apply gf|apply gt)<;>intro hc
  all_goals exact gJ
 intro qf _;exact gA
abbrev pl323:Dl.PL:=fun|8=> Dl.ll 0 10 ((10,.step)::Dl.ll 11 2 [])|_=>[]
def qaK(e:Ent)(hl:e.refs.length<=1048576):NCalls pP 323 [.agg e.row] (zJ True):=by
 have qi:=qo;have hR:=U1;have hP:=UT;simp only[Lnk.row]at hR hP;replace hR:Kp _:=⟨hR⟩;replace hP:Kp _:=⟨hP⟩;refine nX (N:=34) (rs:=[.tmp 2]) pl323 func323 ?_;refine gB ?_;intro hc;refine lq e.refs [1,10,11] [1] 12 ?_ ?_
 ·intro k x hx hk hm qs qf hw _;have h1:=hR.1 x;generalize rC x=b at*
  clear hm qs;rcases jC k with Z5|Z5
  ·have h0:decide ((0:Int)<(k:Int))=false:=by grind
   clear Z5;repeat' first|refine gQ ?_|exact gU|refine gS ?_|exact gT|(first|apply xc|apply gf|apply gt)<;>intro hc
   all_goals exact gJ
  obtain⟨m,fj⟩: ∃m,k=m+1:=⟨k - 1,oa⟩;obtain⟨y,hy⟩: ∃y,e.refs[m]? =some y:=⟨_,wa oa⟩;have h0:decide ((0:Int)<(k:Int))=true:=og;have hwm:aD .i64 ((k:Int) - 1)=(m:Int):=by rw[show (k:Int) - 1=(m:Int) by omega];exact Zp oa
  have h2:=hP.1 y x;generalize qe5 y x=b2 at*
  clear Z5 fj;repeat' first|refine gQ ?_|exact gU|refine gS ?_|exact gT|(first|apply xc|apply gf|apply gt)<;>intro hc
  all_goals exact gJ
 intro qf _;exact gA
end
end Go.Proofs.YtobpcppcjdnkmaaGreat
namespace Go.Proofs.YtobpcppcjdnkmaaGreat.A
open Go.Proofs.Tryz
open Go.Dl
attribute [local irreducible] DW DCalls ECalls NCalls wk IW
section
attribute [local go_sem] vp Ent.enc Ent.row Lnk.enc Lnk.row
abbrev pl322:Dl.PL:=fun|12=> Dl.ll 0 22 ((22,.step)::(23,.light)::(24,.step)::Dl.ll 25 3 [])|_=>[]
def Vc(e:Ent)(h:e.links= []):DCalls pP 322 [.agg e.row] (dv (li 0)):=by
 have qi:=qo;simp only[Ent.row,h];refine dX (N:=66) (rs:=[.tmp 2]) pl322 func322 ?_;refine gB ?_;refine lq ([]:List Lnk) [1,10,11] [1] 12 ?_ ?_ (qi:=by have:=qo;simp;try omega)
 ·simp
 intro qf _;exact gA
abbrev pl323:Dl.PL:=fun|8=> Dl.ll 0 10 ((10,.step)::Dl.ll 11 2 [])|_=>[]
def qaL(e:Ent)(h:e.refs= []):DCalls pP 323 [.agg e.row] (dv (li 0)):=by
 have qi:=qo;simp only[Ent.row,h];refine dX (N:=34) (rs:=[.tmp 2]) pl323 func323 ?_;refine gB ?_;refine lq ([]:List Lnk) [1,10,11] [1] 12 ?_ ?_ (qi:=by have:=qo;simp;try omega)
 ·simp
 intro qf _;exact gA
end
end Go.Proofs.YtobpcppcjdnkmaaGreat.A
namespace Go.Proofs.YtobpcppcjdnkmaaGreat
open Go.Proofs.Tryz
open Go.Dl
attribute [local irreducible] DW DCalls ECalls NCalls wk IW
section
attribute [local go_sem] vp Ent.enc Ent.row bB Rul.enc
def AK(l:List Ent)(id:Int)(hl:l.length<=1048576):DCalls pP 108 [dv (.sl 8 (l.map Ent.enc)),dv (li id)] (dv (li (zG (fun e=>e.id==id) l))):=by
 have qi:=qo;refine dX (N:=20) (rs:=[.tmp 4]) qg func108 ?_;refine gk ?_;refine lp l [0,1] [] (fun k=>[(5,dv (li k))]) (fun _=>[]) (fun k=>∀e∈l.take k,(e.id==id)=false) oh ?_ ?_
 ·intro k e he hk hm qs qf hw hv;have ha:=fun hc=>z8 (q:=fun e:Ent=>e.id==id) he hv hc;clear hm;refine gB ?_;intro hc;exact⟨iF hv hc,qJ⟩
 ·intro qf hv;rw[wc]at hv;refine gB ?_;exact cC (z7 hv)
def qaM(l:List Ent)(id:Int)(hl:l.length<=1000000):NCalls pP 109 [dv (.sl 8 (l.map Ent.enc)),dv (li id)] (fun r=>∃ws:List Int,r=dv (.sl 1 (ints ws))):=by
 have qi:=qo;have hF:=fun n=>AK l n oa;have hI:=fun n=>Cj (fun e:Ent=>e.id==n) l;refine NCalls.wk (R:=fun r=>∃ws:List Int,DLe r (dv (.sl 1 (ints ws)))) ?_ fun r ⟨ws,h⟩=>⟨_,h,ws,rfl⟩;have h0:=hF id;have i0:=hI id;generalize zG (fun e:Ent=>e.id==id) l=f0 at*
 refine nX (N:=42) (rs:=[.tmp 4]) qg func109 ?_;repeat' first|refine kx h0 ?_|refine gQ ?_|exact gU|refine gS ?_|exact gT|(first|apply xc|apply gf|apply gt)<;>intro hc
 refine xe 5 5 1 [] ?_;refine lw (σ:=List Int×Int) [0] [] (fun y=>[(5,.one (.own 5 1 (ints y.1))),(6,dv (li y.2))]) (fun _=>[]) (fun y=>y.1.length<=l.length+1/\(y.2= -1\/∃(k:Nat) (x:Ent),y.2=k/\l[k]? =some x)) (fun y=>l.length+2 - y.1.length) ([],f0) ⟨wM _,i0⟩ ?_;rintro⟨o,i⟩ ⟨h1,h2⟩;rcases h2 with h2|⟨k,e,h2,hk⟩
 ·simp only at h2 h1;subst h2;refine gB ?_;all_goals exact⟨o,DLe.own_ _ _ _⟩
 ·simp only at h2 h1;subst h2;have h3:=hF e.main;have h4:=hI e.main;generalize zG (fun x:Ent=>x.id==e.main) l=f1 at*
  have lE:(o.length+1)*8<=140737488355328:=oa;clear h0 i0 hF hI;repeat' first|refine gQ ?_|exact gU|refine gS ?_|exact gT|(first|apply xc|apply gf|apply gt)<;>intro hc
  ·have he:ints o++[[li e.id]]=ints (o++[e.id]):=by simp
   exact⟨o++[e.id],by rw[<-he];exact DLe.own_ _ _ _⟩
  ·exact⟨(o++[e.id],f1),⟨og,h4⟩,og,qJ⟩
  ·exact⟨o,DLe.own_ _ _ _⟩
def qaN(l:List Ent)(hl:l.length<=999999):NCalls pP 54 [dv (.sl 8 (l.map Ent.enc))] (zJ True):=by
 have qi:=qo;refine nX (N:=44) (rs:=[.tmp 2]) qg func54 ?_;refine gk ?_;refine lq l [0] [] 3 ?_ ?_
 ·intro k e he hk hm qs qf hw _;have hF:=AK l e.main oa;clear hm qs;repeat' first|refine gQ ?_|exact gU|refine gS ?_|exact gT|(first|apply xc|apply gf|apply gt)<;>intro hc
  all_goals exact gJ
 intro qf _;refine gB ?_;refine lq l [0] [] 4 ?_ ?_
 ·intro k e he hk hm qs qf hw _;have hW:=qaM l e.id oa;clear hm qs;refine gB ?_;refine MD ?_ hW;rintro _ ⟨ws,rfl⟩;refine gB ?_;intro hc;all_goals exact gJ
 intro qf _;exact gA
def Oi(l:List Ent)(hl:l.length<=1048576):NCalls pP 18 [dv (.sl 8 (l.map Ent.enc))] (bn (l.length<=5/\∀e∈l,e.form.length<=3/\e.alts.length<=1/\∀w∈e.alts,w.length<=3)):=by
 have qi:=qo;by_cases h0:5<l.length
 ·refine nX (N:=50) (rs:=[.tmp 2]) qg func18 ?_;refine gC ?_ ?_;all_goals exact gJ
 have n0: ¬(5:Int)<(l.length:Int):=oa;refine nX (N:=50) (rs:=[.tmp 2]) qg func18 ?_;refine gk ?_;refine lp l [0] [] (fun k=>[(3,dv (li k))]) (fun _=>[]) (fun k=>∀e∈l.take k,e.form.length<=3/\e.alts.length<=1/\∀w∈e.alts,w.length<=3) oh ?_ ?_
 ·intro k e he hk hm qs qf hw hv;have hi':(e.form.length<=3/\e.alts.length<=1/\∀w∈e.alts,w.length<=3)->∀e∈l.take (k+1),e.form.length<=3/\e.alts.length<=1/\∀w∈e.alts,w.length<=3:=fun h=>by
   rw[qs];intro y hy;rcases wF.1 hy with hy|hy
   ·grind
   ·grind
  clear hm qs hv;repeat' first|refine gQ ?_|exact gU|refine gS ?_|exact gT|(first|apply xc|apply gf|apply gt)<;>intro hc
  all_goals first|exact qJ|(intro hz;grind)|exact cC og|exact iq og|skip
  have c1:e.form.length<=3/\e.alts.length<=1:=og;refine lp e.alts [0,3] [] (fun k=>[(4,dv (li k))]) (fun _=>[]) (fun j=>∀w∈e.alts.take j,w.length<=3) oh ?_ ?_
  ·intro j w hj A8 hm qs hlt' hw' hv;have hv':w.length<=3->∀x∈e.alts.take (j+1),x.length<=3:=fun h=>by
    rw[qs];intro y hy;rcases wF.1 hy with hy|hy
    ·grind
    ·grind
   clear hm qs hv hi';repeat' first|refine gQ ?_|exact gU|refine gS ?_|exact gT|(first|apply xc|apply gf|apply gt)<;>intro hc
   all_goals first|exact⟨hv' og,qJ⟩|(intro hz;grind)
  intro hlt' hv;rw[wc]at hv;repeat' first|refine gQ ?_|exact gU|refine gS ?_|exact gT|(first|apply xc|apply gf|apply gt)<;>intro hc
  exact⟨hi' ⟨c1.1,c1.2,hv⟩,qJ⟩
 intro qf hv;rw[wc]at hv;refine gB ?_;exact fun _=>⟨oa,hv⟩
structure MidG(g:Lg):Prop where
 nm:g.nm.size<=1048576
 inv:g.inv.length<=1048576
 names: ∀p∈g.inv,p.name.size<=1048576
 units:g.units.length<=1048576
 graph: ∀u∈g.units,u.graph.size<=1048576
 segs: ∀u∈g.units,u.segs.length<=1048576
 lets:g.letters.length<=1048576
 letl: ∀l∈g.letters,l.length<=1048576
 lett: ∀l∈g.letters,∀s∈l,s.size<=1048576
 rules:g.rules.length<=1048576
 src: ∀r∈g.rules,r.src.length<=1048576/\r.dst.length<=1048576/\r.left.length<=1048576/\r.right.length<=1048576
 steps:g.steps.length<=1048576
 fin:g.fin.length<=1048576
 lex:g.lex.length<=1048576
 ents: ∀e∈g.lex,MidE e
structure LgtG(g:Lg):Prop where
 inv:g.inv.length<=8
 units:g.units.length<=10
 rules:g.rules.length<=2
 states:g.states<=3
 steps:g.steps.length<=6
 fin:g.fin.length<=3
 lex:g.lex.length<=5
 words: ∀e∈g.lex,e.form.length<=3/\e.alts.length<=1/\∀w∈e.alts,w.length<=3
 src: ∀r∈g.rules,r.src.length<=8
 dst: ∀r∈g.rules,r.dst.length=r.src.length
 unit: ∀u∈g.units,vm u.graph=true/\0<u.segs.length/\u.segs.length<=3
 step: ∀x∈g.steps,0<=x.src/\x.src<g.states/\0<=x.dst/\x.dst<g.states
 fins: ∀q∈g.fin,0<=q/\q<g.states
 right:LexN g.inv g.lex
def GX(g:Lg)(hm:MidG g)(hr: ∀r∈g.rules,r.src.length<=8)(hf:g.lex.length<=5):NCalls pP 19 [.agg g.row] (zJ ((∀r∈g.rules,r.dst.length=r.src.length)/\
  (∀u∈g.units,vm u.graph=true/\0<u.segs.length/\u.segs.length<=3)/\(∀x∈g.steps,0<=x.src/\x.src<g.states/\0<=x.dst/\x.dst<g.states)/\(∀q∈g.fin,0<=q/\q<g.states)/\LexN g.inv g.lex)):=by
 have qi:=qo;have hI:=KE g.inv hm.names hm.inv;have hO:=KC g.inv g.nm g.units g.letters hm.nm hm.units hm.graph hm.lets hm.letl hm.lett;have hR:=Ol g fun r h=>by have:=hr r h;omega
 have hN:=qaT g.states g.steps g.fin hm.fin;have hL:=KD g.inv g.lex hm.ents;have hV:=qaN g.lex oa;simp only[qj,Lg.row,eD,eF,wD,wI]at hI hO hR hN hL hV;unfold Lg.row eD eF;simp only[wD,wI];refine nX (N:=46) (rs:=[.tmp 2]) qg func19 ?_;repeat' first|refine gQ ?_|exact gU|(refine eH ?_<;>intro er eN)|(refine dM ?_<;>intro bo eO)|refine gS ?_|exact gT|(first|apply xc|apply gf|apply gt)<;>intro hc
 all_goals first|exact qJ|(intro hz;grind)|exact cC og|exact iq og|skip
 have qbW:LexN g.inv g.lex:=og;have hC:=GY g.lex hf (fun e he=>(qbW.each e he).lnk);repeat' first|refine gQ ?_|exact gU|(refine eH ?_<;>intro er eN)|(refine dM ?_<;>intro bo eO)|refine gS ?_|exact gT|(first|apply xc|apply gf|apply gt)<;>intro hc
 all_goals(intro hz;clear hI hO hR hN hL hV hC hm;grind)
def Ei(g:Lg)(hm:MidG g):NCalls pP 5 [.agg g.row] (bn (LgtG g)):=by
 have qi:=qo;have hS:=Oi g.lex hm.lex;have hC:=GX g hm;simp only[Lg.row,eD,eF,wD,wI]at hC;unfold Lg.row eD eF;simp only[wD,wI];refine nX (N:=66) (rs:=[.tmp 2]) qg func5 ?_;repeat' first|refine gQ ?_|exact gU|(refine eH ?_<;>intro er eN)|(refine dM ?_<;>intro bo eO)|refine gS ?_|exact gT|(first|apply xc|apply gf|apply gt)<;>intro hc
 all_goals first|(intro hz;exact hz.elim)|skip
 have b1:bo=true:=og;obtain⟨b2,b3⟩:=eO b1;have n1: ¬8<g.inv.length/\¬10<g.units.length/\¬2<g.rules.length/\¬3<g.states/\¬6<g.steps.length/\¬3<g.fin.length:=og;refine lp g.rules [1] [1] (fun k=>[(3,dv (li k))]) (fun _=>[]) (fun k=>∀r∈g.rules.take k,r.src.length<=8) oh ?_ ?_
 ·intro k r hk bw hm qs qf hw hi;have hi':r.src.length<=8->∀u∈g.rules.take (k+1),u.src.length<=8:=fun e=>by
   rw[qs];intro y hy;rcases wF.1 hy with hy|hy
   ·grind
   ·grind
  clear hS hC hm qs hi;repeat' first|refine gQ ?_|exact gU|refine gS ?_|exact gT|(first|apply xc|apply gf|apply gt)<;>intro hc
  all_goals first|exact⟨hi' og,qJ⟩|(intro hz;grind)
 intro qf hi;rw[wc]at hi;have hC:=hC hi b2;repeat' first|refine gQ ?_|exact gU|(refine eH ?_<;>intro er eN)|(refine dM ?_<;>intro bo eO)|refine gS ?_|exact gT|(first|apply xc|apply gf|apply gt)<;>intro hc
 intro hz;obtain⟨c1,c2,c3,c4,c5⟩:=eN (by simpa using hz);exact⟨oa,oa,oa,oa,oa,oa,b2,b3,hi,c1,c2,c3,c4,c5⟩
end
end Go.Proofs.YtobpcppcjdnkmaaGreat
