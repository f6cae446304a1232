/- Contracts of the functions that the law reaches; part 6. -/
import Derived.Shelf.Strings.Search3
import Derived.Shelf.Strings.Builder1
import Derived.StillTailTactics
import Derived.Test.YtobpcppcjdnkmaaGreatm4
set_option linter.all false
set_option maxRecDepth 10000
set_option maxHeartbeats 8000000
open ByteArray renaming empty → ye
open Go renaming World → j5, Value → j6
open Go.IntKind renaming wrap → aD
open Go.Maps renaming has → jl
open Go.Proofs.Tryz renaming prog → pP
open Go.World renaming cell?_alloc_lt → jw
open Go.Dl.CallC renaming mk → kN, light → kO
open Go.Dl.LeL renaming of_eq → kP
namespace Go.Proofs.YtobpcppcjdnkmaaGreat
open Go.Proofs.Tryz
open Go.Dl Go.RowKit Go.Shelf
attribute [local irreducible] DW DCalls ECalls wk IW
def sp2:ByteArray:={ data:= #[32,45] }
def qg1{c:Nat}(h:128<=c)(h2:c<2048): ∃x y:UInt8,Utf8.encode (c:Int)={ data:= #[x,y] }/\128<=y.toNat:=by
  refine⟨UInt8.ofNat (0xC0+c / 64),UInt8.ofNat (0x80+c % 64),?_,?_⟩
  · have hv:Utf8.valid (c:Int)=true:=by simp[Utf8.valid];omega
    simp[Utf8.encode,hv,show ¬c<128 by omega,h2]
  · simp;omega
def qfL{c:Nat}(h:2048<=c)(hc:Zg c): ∃k:Nat,k<=1/\(Utf8.encode (c:Int)).size=k+3:=by
  have hv:Utf8.valid (c:Int)=true:=by obtain⟨h1,h2⟩:=hc;simp[Utf8.valid];omega
  by_cases h3:c<65536
  · exact⟨0,oa,by simp[Utf8.encode,hv,show ¬c<128 by omega,show ¬c<2048 by omega,h3];rfl⟩
  · exact⟨1,oa,by simp[Utf8.encode,hv,show ¬c<128 by omega,show ¬c<2048 by omega,h3];rfl⟩
abbrev aJ:Dl.PL:=fun|6=> Dl.ll 0 7 []|7=> Dl.ll 0 7 [(7,.step),(8,.light)]|14=> Dl.ll 0 11 []|31=> Dl.ll 0 11 []|_=>[]
def p6(c:Nat)(hc:Zg c):DCalls pP 342 [dv (.lit (.int .i32 (c:Int)))] (dv (lb true)):=by
  obtain⟨h1,h2⟩:=hc;have e1:decide ((0:Int)<=(c:Int))=true:=oh;by_cases h3:c<55296
  · have e2:decide ((c:Int)<55296)=true:=by grind
    refine kd (N:=17) (rs:=[.tmp 2]) func342 ?_;exact wA qg
  · have e2:decide ((c:Int)<55296)=false:=by grind
    have e3:decide ((57343:Int)<(c:Int))=true:=og;have e4:decide ((c:Int)<=1114111)=true:=og;refine kd (N:=17) (rs:=[.tmp 2]) func342 ?_;exact wA qg
def Cg(y:Int):DCalls pP 341 [dv (ls ye),dv (.lit (.int .u8 y))] (dv (li (-1))):=by
  refine eW om rfl fun w K vs hk hl hv=>?_;obtain⟨a,b,rfl⟩: ∃a b,vs= #[a,b]:=by
    rcases vs with⟨l⟩
    match l,hl with
    | [a,b],_=>exact⟨a,b,rfl⟩
  have h0:=(hv 0 _ a rfl rfl).lit;have h1:=(hv 1 _ b rfl rfl).lit;subst h0;subst h1;refine(Any.strings_IndexByte { Tryz.laysC with } _ _ _).mono ?_;rintro e w1 ⟨rfl,rfl⟩;exact⟨rfl,Below.refl _ _⟩
def u9{P:Program}{s:DS}{Q:Exit->DS->Prop}{c:Code}(h:DW P c s (vP (fun _=>False) Q)):DW P (.loop c) s Q:=
  q8 (fun _:Unit=>s) (fun _=>True) (fun _=>0) () (DS.Sub.refl _) trivial fun _ _=>h.mono fun e s' hs=>by
    cases e<;>first|exact hs|exact hs.elim
def Cf(c:Nat)(hc:Zg c)(h:128<=c)(h2:c<2048):DCalls pP 337 [dv (ls sp2),dv (.lit (.int .i32 (c:Int)))] (dv (li (-1))):=by
  obtain⟨x,y,hE,hy⟩:=qg1 h h2;have e1:decide ((0:Int)<=(c:Int))=true:=oh;have e2:decide ((c:Int)<128)=false:=og;have e3:((c:Int)==65533)=false:=og;have z1:(Utf8.encode (c:Int)).size=2:=by rw[hE];rfl
  have z2:(Utf8.encode (c:Int)).data.toList[1]? =some y:=og;have z3:sp2.size=2:=rfl;have z4:sp2.data.toList[1]? =some 45:=rfl;have z5:sp2.extract 2 2=ye:=oo;have e4:((UInt8.toNat 45:Int)!=(y.toNat:Int))=true:=og;have w1:aD .i64 (2 - 1)=1:=rfl;have w2:aD .i64 (1+1)=2:=rfl;have w3:(1:Int).toNat=1:=rfl;have w4:(2:Int).toNat=2:=rfl;refine kd (N:=187) (rs:=[.tmp 4]) func337 ?_
  (repeat' first|(first|refine qC ?_|refine zU aJ ?_|refine kx (p6 c hc) ?_|apply kU);simp +decide only[go_sem,e2,e3]|apply kh<;>intro qe|((first|apply qy|apply qx)<;>(intro qe;simp +decide only[go_sem,qe,e1,e2,e3])))
  refine nj ?_
  (repeat' first|(first|refine qC ?_|refine zU aJ ?_|apply kU);simp only[go_sem,z1,w1]|apply kh<;>intro qe)
  refine u9 ?_
  (repeat' first|(first|refine qC ?_|refine zU aJ ?_|apply kU);simp only[go_sem,z3]|apply kh<;>intro qe)
  refine nj ?_
  (repeat' first|(first|refine qC ?_|refine zU aJ ?_|refine kx (Cg y.toNat) ?_|apply kU|apply qb);simp only[go_sem,z2,z3,z4,z5,w2,w3,w4,e4]|apply kh<;>intro qe)
def Ce(c:Nat)(hc:Zg c)(h:2048<=c)(hx:c≠65533):DCalls pP 337 [dv (ls sp2),dv (.lit (.int .i32 (c:Int)))] (dv (li (-1))):=by
  have qi:=qo;obtain⟨k,LM,hk⟩:=qfL h hc;have e1:decide ((0:Int)<=(c:Int))=true:=oh;have e2:decide ((c:Int)<128)=false:=og;have e3:((c:Int)==65533)=false:=og;have z3:sp2.size=2:=rfl;have w1:aD .i64 (((k+3:Nat):Int) - 1)=((k+2:Nat):Int):=by rw[show ((k+3:Nat):Int) - 1=((k+2:Nat):Int) by omega];exact Zp oa
  have w2:decide (((k+2:Nat):Int)<2)=false:=og;refine kd (N:=187) (rs:=[.tmp 4]) func337 ?_
  (repeat' first|(first|refine qC ?_|refine zU aJ ?_|refine kx (p6 c hc) ?_|apply kU);simp only[go_sem,e2,e3]|apply kh<;>intro qe)
  refine nj ?_;refine vB aJ ?_;refine u9 ?_;exact wA aJ
def Ko{s:ByteArray}{q:Nat}(hq:q<s.size)(hv:(ci (s.data.toList.drop q)).isSome=true):
    Zg (Utf8.decode s q).1/\(ci (s.data.toList.drop (q+(Utf8.decode s q).2))).isSome=true/\1<=(Utf8.decode s q).2/\q+(Utf8.decode s q).2<=s.size/\
      (((Utf8.decode s q).1<128/\(Utf8.decode s q).2=1/\s.data.toList[q]? =some (UInt8.ofNat (Utf8.decode s q).1))\/(128<=(Utf8.decode s q).1/\∀j,q<=j->j<q+(Utf8.decode s q).2->∀b,s.data.toList[j]? =some b->128<=b.toNat)):=by
  rw[<-Go.Lib.decodeL_drop];have vo:s.data.toList.length=s.size:=oh;cases hb:s.data.toList.drop q with
  | nil=>simp_all;omega
  | cons b r=>
    rw[hb]at hv;have qH:(b::r)≠ []:=oh;have gg: ∀j,s.data.toList[q+j]? =(b::r)[j]? :=og;have hqb:s.data.toList[q]? =some b:=gg 0;have lJ:(b::r).length=s.size - q:=og;cases hf:lL (b::r)with
    | none=>rw[fU qH hf]at hv;cases hv
    | some d=>
      obtain⟨p,k⟩:=d;have hw:=Zv hf;have hd:Go.Lib.decodeL (b::r)=(p,k):=by
        have h:=gm qH;rw[hf,I4]at h;split at h
        · cases h
        · grind
      rw[hd];have qbV:Zg p:=by
        by_cases hl:leadN (bJ (b::r) 0)<=(b::r).length
        · rw[sK hl]at hf;split at hf
          · grind
          · cases hf
        · rw[eQ oa]at hf;cases hf
      refine⟨qbV,?_,hw.1,by show q+k<=_;omega,?_⟩
      · rw[dI hf,Option.isSome_map]at hv;rw[<-List.drop_drop,hb];exact hv
      · by_cases h128:b.toNat<128
        · rw[Be h128]at hf;injection hf with hf;injection hf with h1 h2
          subst h1;subst h2;exact .inl ⟨h128,rfl,by rw[hqb];simp⟩
        · obtain⟨h1,h2⟩:=Fj hf (by simp[bJ];omega);refine .inr ⟨h1,fun j Yd HH x hx=>h2 x ?_⟩;obtain⟨m,rfl⟩: ∃m,j=q+m:=⟨j - q,oa⟩;rw[gg]at hx;have hm:m<k:=oa;exact ww (i:=m) (by rw[yx,ae hm];exact hx)
def qax{b:UInt8}(h:128<=b.toNat):sp2.data.toList.contains b=false:=by
  have h1: ¬b=32:=fun e=>by subst e;exact ak h oo
  have h2: ¬b=45:=fun e=>by subst e;exact ak h oo
  show List.contains [32,45] b=false;simp[h1,h2]
def qfb(s:ByteArray)(q:Nat):Prop:=Go.Lib.NoAny s.data.toList sp2.data.toList q
set_option maxRecDepth 1000000 in
def xW(w:j5):Calls pP 337 #[.string sp2,.int .i32 65533] w fun e w'=>e= .returned (.int .i64 (-1))/\Below w.heap.size w w':=by
  go_enter func337,ntmps337
  go_wp2
  go_loopg [5,6] 2 (fun g _ _ wx=>∃i:Nat,i+g=2/\wx=w.iter sp2 i)
  case atStart=>exact⟨0,oa,rfl⟩
  case round=>
    obtain⟨i,hig,rfl⟩:=hrel;cases gk with
    | zero=>
      obtain rfl:i=2:=oa;have Q5:=fun ty=>run_next_end (P:=pP) w sp2 2 ty oo;go_wp2
      go_ret
      exact⟨rfl,(Below.refl _ w).alloc (wl _) _⟩
    | succ g=>
      have hi:i<sp2.size:=by show i<2;omega
      obtain⟨x,hx,Jm⟩: ∃x:UInt8,sp2[i]'hi=x/\x.toNat<128:=by
        obtain rfl|rfl:i=0\/i=1:=oa
        · exact⟨32,rfl,oo⟩
        · exact⟨45,rfl,oo⟩
      have Q5:=fun ty=>run_next_ascii (P:=pP) w sp2 i ty hi (by rw[hx];exact Jm);rw[hx]at Q5;have e1:((x.toNat:Int)==65533)=false:=og;go_wp2
      go_roundg g
      case measure=>omega
      case rel=>exact⟨i+1,oa,rfl⟩
def EQ(c:Nat)(hc:Zg c)(h:128<=c){w:j5}{K:qM}(hk:KOk w K):Calls pP 337 #[.string sp2,.int .i32 (c:Int)] w fun e w'=>e= .returned (.int .i64 (-1))/\Below w.heap.size w w':=by
  by_cases hx:c=65533
  · subst hx;exact xW w
  · have hD:DCalls pP 337 [dv (ls sp2),dv (.lit (.int .i32 (c:Int)))] (dv (li (-1))):=by
      rcases yD c 2048 with h2|h2
      · exact Cf c hc h h2
      · exact Ce c hc h2 hx
    refine Br hD hk rfl ?_;intro j d v h1 h2
    match j with
    | 0=>simp at h1 h2;subst h1;subst h2;exact .one _ _ (.c _ _ (.lit _ rfl))
    | 1=>simp at h1 h2;subst h1;subst h2;exact .one _ _ (.c _ _ (.lit _ rfl))
    | _+2=>simp at h1
set_option maxRecDepth 1000000 in
def uC(s:ByteArray)(hs:s.size<=8)(QC:(ci s.data.toList).isSome=true){w:j5}{K:qM}(hk:KOk w K):
    Calls pP 336 #[.string s,.string sp2] w fun e w'=>e= .returned (.int .i64 (Go.Lib.indexAny s.data.toList sp2.data.toList))/\Below w.heap.size w w':=by
  have hemp:sp2.toList.isEmpty=false:=by rw[Go.Lib.toList_data];rfl
  have pj:((sp2.size:Int)==1)=false:=oo;have h8z:decide ((8:Int)<(s.size:Int))=false:=og
  go_enter func336,ntmps336
  go_wp2_with (go_at_call 338;refine(Any.strings_shouldUseASCIISet { Tryz.laysC with } _ _).mono ?_;rintro e w' ⟨rfl,hw⟩;rw[hw,h8z])
  go_loopg [9,10] s.size (fun g _ _ wx=>∃i:Nat,i+g=s.size/\wx.heap[w.heap.size]? =some (.stringIter s i)/\Below w.heap.size w wx/\qfb s i/\(ci (s.data.toList.drop i)).isSome=true)
  case atStart=>exact⟨0,oa,World.iter_heap w s 0,(Below.refl _ w).alloc (wl _) _,Go.Lib.NoAny.zero _ _,QC⟩
  case round=>
    obtain⟨i,hig,hh,lJ,fZ,VL⟩:=hrel;have HN:Aside (qfb s i):=fZ;have HV:Aside ((ci (s.data.toList.drop i)).isSome=true):=VL;have HK:Aside (KOk w K):=hk;clear fZ VL QC;by_cases hi:i<s.size
    · have Q5:=fun ty=>Go.Lib.run_next_any_at (P:=pP) wr w.heap.size s i ty hh hi;obtain⟨r1,r2,r3,r4,r5⟩:=Ko hi HV.out;have hh1:=Go.Lib.iterAt_heap wr w.heap.size s i (i+(Utf8.decode s i).2) hh;have cq:Below w.heap.size w (wr.iterAt w.heap.size s (i+(Utf8.decode s i).2)):=Go.Lib.below_iterAt lJ (wl _) s _;have x8:KOk (wr.iterAt w.heap.size s (i+(Utf8.decode s i).2)) K:=aP HK.out cq;generalize wr.iterAt w.heap.size s (i+(Utf8.decode s i).2)=W1 at Q5 hh1 cq x8;obtain⟨c,hc⟩: ∃c,(Utf8.decode s i).1=c:=⟨_,rfl⟩;obtain⟨k,hk⟩: ∃k,(Utf8.decode s i).2=k:=⟨_,rfl⟩;rw[hc]at Q5 r1 r5;rw[hk]at hh1 r2 r3 r4 r5;clear hc hk;have HK1:Aside (KOk W1 K):=x8;have H2:Aside ((ci (s.data.toList.drop (i+k))).isSome=true):=r2;have H4:Aside (i+k<=s.size):=r4;have H3:Aside (1<=k):=r3;have H1:Aside (Zg c):=r1;clear x8 r1 r2 r3 r4;rcases r5 with⟨r6,r7,r8⟩|⟨r6,r7⟩
      · have Fc:((c:Int)).toNat.toUInt8=UInt8.ofNat c:=by simp
        have Hx:Aside (s.data.toList[i]? =some (UInt8.ofNat c)):=r8;clear r8;have Ab:=Go.Lib.contains_iff_indexByte sp2.data.toList (UInt8.ofNat c);cases MK:sp2.data.toList.contains (UInt8.ofNat c)
        · rw[MK]at Ab;have qf: ¬((0:Int)<=Go.Lib.indexByte sp2.data.toList (UInt8.ofNat c)):=og;clear Ab;go_wp2_with (go_at_call 337;refine(Any.strings_IndexRune_ascii { Tryz.laysC with } _ _ _ oa oa).mono ?_;rintro e w' ⟨rfl,hw⟩;rw[hw,Fc])
          go_roundg (s.size - (i+k))
          case measure=>have:=H3.out;have:=H4.out;omega
          case rel=>
            subst r7;exact⟨i+1,by have:=H4.out;omega,hh1,cq,HN.out.succ Hx.out MK,H2.out⟩
        · rw[MK]at Ab;have dC:(0:Int)<=Go.Lib.indexByte sp2.data.toList (UInt8.ofNat c):=og;clear Ab;go_wp2_with (go_at_call 337;refine(Any.strings_IndexRune_ascii { Tryz.laysC with } _ _ _ oa oa).mono ?_;rintro e w' ⟨rfl,hw⟩;rw[hw,Fc])
          go_ret
          exact⟨by rw[Go.Lib.indexAny_hit HN.out Hx.out MK];rfl,cq⟩
      · have H7:Aside (∀j,i<=j->j<i+k->∀b,s.data.toList[j]? =some b->128<=b.toNat):=r7;clear r7;have HD:w.heap.size<W1.heap.size:=og;go_wp2_with (go_at_call 337;refine(EQ c H1.out r6 HK1.out).mono ?_;rintro e W2 ⟨rfl,fz⟩);have hh2:W2.heap[w.heap.size]? =some (.stringIter s (i+k)):=(fz.block _ HD).trans hh1;have Bc:Below w.heap.size w W2:=cq.trans (fz.mono oa);go_wp2
        go_roundg (s.size - (i+k))
        case measure=>have:=H3.out;have:=H4.out;omega
        case rel=>
          refine⟨i+k,by have:=H4.out;omega,hh2,Bc,fun j b hj hb=>?_,H2.out⟩;rcases yD j i with h|h
          · exact HN.out j b h hb
          · exact qax (H7.out j h hj b hb)
    · have Q5:=fun ty=>Go.Lib.run_next_end_at (P:=pP) wr w.heap.size s i ty hh hi;go_wp2
      go_ret
      have:i=s.data.toList.length:=ot;subst this;exact⟨by rw[Go.Lib.indexAny_none HN.out];rfl,lJ⟩
def Ki(j:Nat)(b:UInt8)(h:sp2.data.toList[j]? =some b):b.toNat<128:=by
  match j with
  | 0=>have:b=32:=(by injection h with h;exact h.symm);subst this;decide
  | 1=>have:b=45:=(by injection h with h;exact h.symm);subst this;decide
  | _+2=>cases h
def Dz{P:Program}{vs:Array j6}{w:j5}{E:Env}{a b:j6}(hl:vs.size=2)(hv: ∀(j:Nat) d v,[dv (.lit a),dv (.lit b)][j]? =some d->vs[j]? =some v->VD w E d v):vs= #[a,b]:=by
  obtain⟨x,y,rfl⟩: ∃x y,vs= #[x,y]:=by
    rcases vs with⟨l⟩
    match l,hl with
    | [x,y],_=>exact⟨x,y,rfl⟩
  rw[(hv 0 _ x rfl rfl).lit,(hv 1 _ y rfl rfl).lit]
def HA(s:ByteArray)(QC:F3 s=true)(hs:s.size<=32):DCalls pP 336 [dv (ls s),dv (ls sp2)] (dv (li (Go.Lib.indexAny s.data.toList sp2.data.toList))):=by
  refine eW om rfl fun w K vs hk hl hv=>?_;have:=Dz (P:=pP) hl hv;subst this;by_cases h:s.size<=8
  · exact uC s h (by rw[oT];exact QC) hk
  · have h116:(pP.info? (Tryz.laysC_ren.t 116)).map (fun i=>(i.zero,i.size))=some (some (Value.agg (Array.replicate 256 (.bool false))),256):=by kernel_rfl
    refine(Any.strings_IndexAny_long { Tryz.laysC with } (zero_of_info h116).1 (zero_of_info h116).2 s sp2 w (wl 2) oa oa oo Ki).mono ?_;rintro e w1 ⟨rfl,rfl⟩;exact⟨rfl,((Below.refl _ w).alloc (wl _) _).alloc oh _⟩
def ER(s:ByteArray):decide ((0:Int)<=Go.Lib.indexAny s.data.toList sp2.data.toList)=S5 s:=by
  unfold S5;generalize s.data.toList=l;induction l with
  | nil=>rfl
  | cons b l ih=>
    have h1:=Go.Lib.indexAny_ge sp2.data.toList l;rw[List.any_cons,<-ih,Go.Lib.indexAny];have hc:sp2.data.toList.contains b=(((b.toNat:Nat):Int)==32||((b.toNat:Nat):Int)==45):=by
      have e1:(b==32)=(((b.toNat:Nat):Int)==32):=by rw[y8,aq,aq,<-UInt8.toNat_inj];simp;omega
      have e2:(b==45)=(((b.toNat:Nat):Int)==45):=by rw[y8,aq,aq,<-UInt8.toNat_inj];simp;omega
      show List.contains [32,45] b=_;rw[List.contains_cons,List.contains_cons,e1,e2];simp
    rw[hc];cases (((b.toNat:Nat):Int)==32||((b.toNat:Nat):Int)==45)
    · grind
    · simp
def iK(s:ByteArray)(QC:F3 s=true)(hs:s.size<=32):DCalls pP 334 [dv (ls s),dv (ls sp2)] (dv (lb (S5 s))):=by
  have:=ER s;refine kd (N:=9) (rs:=[.tmp 4]) func334 ?_
  (repeat' first|(first|refine qC ?_|refine kx (HA s QC hs) ?_|apply kU|apply qb);simp only[go_sem,this]|apply kh<;>intro qe)
def VZ(s:ByteArray)(hl:vm s=true):NCalls pP 330 [dv (ls s)] (bn True):=by
  have hL:=B9 s;have QC:F3 s=true:=by simp only[vm,we]at hl;simp_all
  have hs:s.size<=32:=by simp only[vm,we]at hl;simp_all;omega
  have hC:=iK s QC hs;unfold sp2 at hC;clear QC hl;refine nX (N:=10) (rs:=[.tmp 2]) qg func330 ?_;refine gS ?_;refine qhd ?_ hL;intro b _;cases b
  · exact gA
  · exact gA
attribute [local irreducible] NCalls
section
attribute [local go_sem] vp qj Phon.enc
def Jz(p:Phon)(s:ByteArray):DCalls pP 288 [.agg [.c (ls p.name),.c (li p.feat)],dv (.pt [ls s])] (dv (lb (p.name==s))):=by refine dX (N:=8) (rs:=[.tmp 3]) qg func288 ?_;exact gA
def Vt(f:Nat)(cs:List Dl.C)(l:List Phon)(q:Phon->Bool)(hf: ∀d∈l,DCalls pP f (.agg [.c (ls d.name),.c (li d.feat)]::cs.map fun c=>D.one (.c c)) (dv (lb (q d))))(hl:l.length<=1048576):
  NCalls pP 287 [dv (.sl 2 (l.map Phon.enc)),dv (.fn f cs)] (zJ True):=by
 have qi:=qo;replace hf:Kp _:=⟨hf⟩;refine nX (N:=19) (rs:=[.tmp 4]) qg func287 ?_;refine gB ?_;refine lq l [0,1,7] [] 8 ?_ ?_
 ·intro k d hd hk hm qs qf hw _;have hc:=hf.1 d hm;clear hm qs;generalize q d=b at*
  cases b
  ·exact gA
  ·exact gA
 intro qf _;exact gA
def OO(g:List Phon)(s:ByteArray)(hl:g.length<=1048576):NCalls pP 283 [.agg (qj g),dv (ls s)] (zJ True):=by have hI:=Vt 288 [.pt [ls s]] g (fun d=>d.name==s) (fun d _=>Jz d s) hl;refine nX (N:=10) (rs:=[.tmp 4]) qg func283 ?_;simp only[go_sem, *];refine CallC.frz 3 [ls s] oh oe ?_;refine gS ?_;refine eH ?_ hI;intro e _;simp only[go_sem, *]
def KT(g:List Phon)(hl:g.length<=1048576):NCalls pP 281 [.agg (qj g)] (zJ True):=by
 have qi:=qo;have hF:=fun s=>OO g s hl;replace hF:Kp _:=⟨hF⟩;refine nX (N:=40) (rs:=[.tmp 2]) qg func281 ?_;refine gB ?_;intro hc;refine lq g [1,10,11] [1] 12 ?_ ?_
 ·intro k p hp hk hm qs qf hw _;have h1:=hF.1 p.name;have h2:=B9 p.name;clear hm qs;exact gA
 intro qf _;exact gA
def BO(s:ByteArray):(s==({ data:= #[] }:ByteArray))=decide (s.size=0):=by
 rw[y8,ZX,aj];constructor
 ·intro h;subst h;rfl
 ·intro h;cases s with|mk d=>
  have:d= #[]:=Array.eq_empty_of_size_eq_zero h;subst this;rfl
def U2(s:ByteArray):NCalls pP 296 [dv (ls s)] (bn True):=by
 have qi:=qo;have hn:=BO s;by_cases h0:s.size=0
 ·have e:decide (s.size=0)=true:=by grind
  rw[e]at hn;clear e;refine nX (N:=52) (rs:=[.tmp 2]) qg func296 ?_;exact gA
 have e:decide (s.size=0)=false:=og;rw[e]at hn;clear e;obtain⟨b,hb⟩:=aZ (t:=s) (k:=0) oa;cases h1:decide ((32:Int)<(s.size:Int));rotate_left
 ·refine nX (N:=52) (rs:=[.tmp 2]) qg func296 ?_;exact gA
 have hs:s.size<=32:=og;have hm:(s.size<=maxLen)=True:=og;rcases wv (decide ((b.toNat:Int)<97))with a1|a1
 ·refine nX (N:=52) (rs:=[.tmp 2]) qg func296 ?_;exact gA
 rcases wv (decide ((122:Int)<(b.toNat:Int)))with a2|a2
 ·refine nX (N:=52) (rs:=[.tmp 2]) qg func296 ?_;exact gA
 have hlb:(QS s).length=s.data.toList.length:=by simp[QS]
 have dB:s.data.toList.length=s.size:=oh;have hm:(s.size<=9223372036854775807)=True:=og;replace dB:Kp _:=⟨dB⟩;clear hn;refine nX (N:=52) (rs:=[.tmp 2]) qg func296 ?_;refine gB ?_;intro hc;clear hb;refine lq s.data.toList [23,24] [] 25 ?_ ?_ (qi:=by have:=dB.h;omega)
 ·intro k e he hk EY qs qf hw _;have hx:=pM he;clear he EY qs;repeat' first|refine gQ ?_|exact gU|refine gS ?_|exact gT|(first|apply xc|apply gf|apply gt)<;>intro hc
  all_goals exact qJ
 intro qf _;exact gA
def rN(s:ByteArray):DCalls pP 299 [dv (ls s),dv (ls ⟨#[32]⟩)] (dv (lb (decide (0<=Go.Lib.indexByte s.data.toList 32)))):=by refine eW om rfl fun w K vs hk hl hv=>?_;have:=Dz (P:=pP) hl hv;subst this;refine(Any.strings_Contains_one { Tryz.laysK with } s 32 w).mono ?_;rintro e w1 ⟨rfl,rfl⟩;exact⟨rfl,Go.RowKit.Below.refl _ _⟩
def I0(s:ByteArray):NCalls pP 297 [dv (ls s)] (bn True):=by
 have h1:=B9 s;have h2:=rN s;generalize decide (0<=Go.Lib.indexByte s.data.toList 32)=b at*
 refine nX (N:=10) (rs:=[.tmp 2]) qg func297 ?_;exact gA
end
end Go.Proofs.YtobpcppcjdnkmaaGreat
namespace Go.Proofs.YtobpcppcjdnkmaaGreat.A
open Go.Proofs.Tryz
open Go.Dl
attribute [local irreducible] DW DCalls ECalls NCalls wk IW
section
attribute [local go_sem] vp
def Al(s:ByteArray):Bool:=decide (s.size<=8)&&s.data.toList.all fun b=>decide (b.toNat<128)
def SD{t:ByteArray}(h:Al t=true):Al (t.extract 1 t.size)=true:=by unfold Al at h ⊢;simp only[we,aj,wZ]at h ⊢;refine⟨by rw[vZ];omega,fun b hb=>h.2 b ?_⟩;have:(t.extract 1 t.size).data.toList=(t.data.toList.drop 1).take (t.size - 1):=oh;rw[this]at hb;exact y5 (yW hb)
abbrev pl290:Dl.PL:=fun|7=> Dl.ll 0 8 ((8,.step)::Dl.ll 9 4 [])|9=> Dl.ll 0 21 []|17=> Dl.ll 0 17 []|21=> Dl.ll 0 27 []|25=> Dl.ll 0 37 []|_=>[]
def TN(s:ByteArray)(hs:Al s=true):DCalls pP 290 [dv (ls s)] (dv (lb true)):=by
 have qi:=qo;refine NCalls.det (R:=fun r=>r=dv (lb true)) ?_ (fun _ h=>h);refine dq (N:=169) (rs:=[.tmp 2]) om func290 rfl rfl rfl oh (yw (N:=169) pl290 [11,13] ?_);simp +decide only[go_sem, *];refine q8 (fun t:ByteArray=>kn 169 [(0,dv (ls t))] (ml [])) (fun t=>Al t=true) (fun t=>t.size) s ?_ hs ?_
 ·exact Zb
 intro t ht;have hx:=SD ht;unfold Al at ht;simp only[we,aj,wZ]at ht;obtain⟨ht8,XX⟩:=ht;replace XX:Kp _:=⟨XX⟩;replace hx:Kp _:=⟨hx⟩;refine yw (N:=169) pl290 [11,13] ?_;have qbS:t.size<=maxLen:=oa;simp +decide only[go_sem, *];refine yc (fun h0=>?_) (fun h0=>?_);rotate_left
 ·simp +decide only[go_sem, *]
 have qZ:0<t.size:=og;obtain⟨b,hb⟩:=aZ qZ;have hb128:decide ((b.toNat:Int)<128)=true:=by have:=XX.h b (ww hb);simp;omega
 replace qZ:Kp _:=⟨qZ⟩;have h1t:(1<=t.size)=True:=og;have z1:Kp _:=⟨vZ t 1⟩;have g1:decide ((8:Int)<((t.extract 1 t.size).size:Int))=false:=by rw[vZ];simp;omega
 simp +decide only[go_sem, *];exact⟨t.extract 1 t.size,hx.h,by have:=z1.h;have:=qZ.h;omega,Zb⟩
def Er(s:ByteArray)(hv:Al s=true)(hs:s.size<=1000000):NCalls pP 286 [dv (ls s)] (fun r=>r= .tup [.any,dv (lb true)]):=by
 have qi:=qo;have hV:=TN s hv;refine dq (N:=19) (rs:=[.tmp 2,.tmp 3]) om func286 rfl rfl rfl oh ?_
 ·(repeat' first|(first|refine qC ?_|refine kx hV ?_|refine kx (AB s) ?_|apply kU);simp only[go_sem]|apply kh<;>intro qe)
  have hl:=Sa s;refine qn (eo (i:=0) (j:=0) 4 1000 1 1 (rows:=[[.ex 1 []]]) (r:=[.ex 1 []]) oe oo rfl rfl) ?_;refine HY 19 vJ [4] (fun k (j:Nat)=>kn 19 [(4,.one (.bx 4 1 0 0))] (ml [(4,[[.ba 1000 1 0 k (k+j)]]),(1000,ET (ew s k)++qa j 1)])) (fun k j=>True) 0 trivial rfl rfl oo oC (tE s hs)
   (km oD) (fun _ _=>rfl) (by intro ds h;obtain⟨c,_,rfl⟩:=wN.1 h;rfl) ?_ ?_
  ·intro k ds j hk _;have qcc:k<cnt s:=by have:=(wg.1 hk).1;rwa [cf]at this
   rw[oI qcc]at hk;injection hk with hk;subst hk
   (repeat(first|apply qk|apply qm|((first|refine qC ?_|apply qt|apply qv);simp only[go_sem,oK])))
   refine StepC.mk (Step.appendList (n:=1000) (rows:=ET (ew s k)) (ys:=ET [AD s k]) (j:=j) (sz:=1) (by_:=8) rfl rfl oe (by simp +decide only[go_sem,cV,aI]) oe (PJ _) (.ex [[li (AD s k)]]) (by rw[cV,cV,aI];simp;omega) ?_);intro j';simp +decide only[go_sem,cV,aI];refine uB qg ?_;refine⟨_,zB 17 1000 oo,?_⟩;refine⟨j',km (by simp +decide only[go_sem];rw[rh,Jl,wS])⟩
  ·intro j _;rw[cf];refine uB qg ?_;refine ze 2 .any (DLe.any_ _) ?_;apply qb;simp +decide only[go_sem]
def Vk(s:ByteArray)(hv:Al s=true)(h0:(s==({ data:= #[] }:ByteArray))=false)(hc:lQ s=false):DCalls pP 282 [dv (ls s)] (dv (lb true)):=by
 have h8:s.size<=8:=by unfold Al at hv;simp only[we,aj]at hv;exact hv.1
 have Jp:=Er s hv oa;have hC:=R8 s oa;rw[hc]at hC;have h1:decide ((32:Int)<(s.size:Int))=false:=og;have hm:(s.size<=maxLen)=True:=aB (by have qi:=qo;omega);refine NCalls.det (R:=fun r=>r=dv (lb true)) ?_ (fun _ h=>h);refine nX (N:=23) (rs:=[.tmp 2]) qg func282 ?_;try simp only[go_sem, *]
 repeat'((first|refine kq ?_|refine xj ?_|(apply xc<;>intro hc)|(apply gf<;>intro hc)|(apply gt<;>intro hc))<;>simp only[go_sem, *])
 refine qft ?_ Jp;rintro _ rfl;exact gA
end
end Go.Proofs.YtobpcppcjdnkmaaGreat.A
namespace Go.Proofs.YtobpcppcjdnkmaaGreat
open Go.Proofs.Tryz
open Go.Dl
attribute [local irreducible] DW DCalls ECalls NCalls wk IW
abbrev Q7(l:List Spn):List (List C):=l.map Spn.enc
abbrev fT:Dl.PL:=fun|6=> Dl.ll 0 8 []|8=> Dl.ll 0 8 []|10=> Dl.ll 0 17 [(17,.step)]|_=>[]
def bR(s:Spn):DCalls pP 148 [.agg s.row] (dv (lb (qV s))):=by
 refine kd (N:=18) (rs:=[.tmp 2]) func148 ?_
 (repeat' first|(first|refine qC ?_|apply kU|apply qb);simp +decide only[go_sem,Spn.row]|apply kh<;>intro qe|((first|apply qy|apply qx)<;>(intro qe;simp +decide only[go_sem,qe])))
 all_goals(simp_all [qV]<;>omega)
def mU: ∀(l:List Spn) (p:List Spn×List Spn×Spn),(l.foldl zF p).1.length+(l.foldl zF p).2.1.length<=p.1.length+p.2.1.length+l.length
 | [],p=>oh
 | x::l,p=>by
  have h:=mU l (zF p x);have:(zF p x).1.length+(zF p x).2.1.length<=p.1.length+p.2.1.length+1:=by
   unfold zF;split
   ·grind
   ·grind
  simp only[yE,wW]at*
  omega
def PB(l:List Spn)(s:Spn):(uz l s).length<=l.length+1:=by have:=mU l ([],[],s);unfold uz;simp at *;omega
@[go_sem] theorem e180:Program.elemSz pP 180=some 2:=by kernel_rfl
def GV(l:List Spn)(s:Spn)(hl:l.length<=100000):DCalls pP 228 [dv (.sl 2 (Q7 l)),.agg s.row] (dv (.sl 2 (Q7 (uz l s)))):=by
 have qi:=qo;refine kd (N:=69) (rs:=[.tmp 4]) func228 ?_
 (repeat(first|apply qk|apply qm|((first|refine qC ?_|refine zU fT ?_|apply qt|apply qv);simp +decide only[go_sem,Spn.row])))
 refine sO 5 5 2 [] oe ?_;refine sO 6 6 2 [] oe ?_;refine eU l (fun k=>kn 69 [(0,dv (.sl 2 (Q7 l))),(3,.one (.bx 3 2 0 0)),(5,.one (.own 5 2 (Q7 ((l.take k).foldl zF ([],[],s)).1))),(6,.one (.own 6 2 (Q7 ((l.take k).foldl zF ([],[],s)).2.1))),(7,dv (li k))] (ml [(3,[((l.take k).foldl zF ([],[],s)).2.2.row])])) oa (qw rfl (by simp +decide only[go_sem,wy,yj,wm]) (by simp +decide only[go_sem,wy,yj,Spn.row])) ?_ ?_
 ·intro k x hx hk hm qs qf hw;obtain⟨p,hp⟩: ∃p,p=(l.take k).foldl zF ([],[],s):=⟨_,rfl⟩;have Q5:(l.take (k+1)).foldl zF ([],[],s)=zF p x:=og;have vG:p.1.length+p.2.1.length<=100000:=by have:=mU (l.take k) ([],[],s);rw[<-hp]at this;simp at this;omega
  rw[Q5,<-hp];have cq:((p.1.length+1)*16<=140737488355328)=True:=og;have fz:((p.2.1.length+1)*16<=140737488355328)=True:=og;cases h1:decide (x.tg<p.2.2.fr)
  ·cases h2:decide (p.2.2.tg<x.fr)
   ·have e:zF p x=(p.1,p.2.1,⟨min p.2.2.fr x.fr,max p.2.2.tg x.tg⟩):=by simp at h1 h2;unfold zF;rw[j7 oa,j7 oa]
    rw[e]
    (repeat' first|(first|refine qC ?_|refine zU fT ?_|apply kU);simp only[go_sem,qf,hw,hx,h1,h2,Spn.enc,Spn.row]|apply kh<;>intro qe)
    exact km (by simp +decide only[go_sem,I8,I9])
   ·have e:zF p x=(p.1,p.2.1++[x],p.2.2):=by simp at h1 h2;unfold zF;rw[j7 oa,ae oa]
    rw[e]
    (repeat' first|(first|refine qC ?_|refine zU fT ?_|apply kU);simp +decide only[go_sem,qf,hw,hx,h1,h2,fz,Spn.enc,Spn.row]|apply kh<;>intro qe|((first|apply qy|apply qx)<;>(intro qe;simp +decide only[go_sem,qe,qf,hw,hx,h1,h2,fz,Spn.enc,Spn.row])))
    exact qw rfl (by simp +decide only[go_sem,yt,wo,wm,Spn.enc]) oe
  ·have e:zF p x=(p.1++[x],p.2.1,p.2.2):=by simp at h1;unfold zF;rw[ae oa]
   rw[e]
   (repeat' first|(first|refine qC ?_|refine zU fT ?_|apply kU);simp +decide only[go_sem,qf,hw,hx,h1,cq,Spn.enc,Spn.row]|apply kh<;>intro qe|((first|apply qy|apply qx)<;>(intro qe;simp +decide only[go_sem,qe,qf,hw,hx,h1,cq,Spn.enc,Spn.row])))
   exact qw rfl (by simp +decide only[go_sem,yt,wo,wm,Spn.enc]) oe
 ·intro qf;rw[wc];obtain⟨p,hp⟩: ∃p,p=l.foldl zF ([],[],s):=⟨_,rfl⟩;have vG:p.1.length+p.2.1.length<=100000:=by have:=mU l ([],[],s);rw[<-hp]at this;simp at this;omega
  have hr:uz l s=p.1++p.2.2::p.2.1:=by rw[hp];rfl
  rw[hr,<-hp];have cq:((p.1.length+1)*16<=140737488355328)=True:=og;have fz:((Q7 p.1++[[li p.2.2.fr,li p.2.2.tg]]).length+p.2.1.length)*16<=140737488355328:=og
  (repeat' first|(first|refine qC ?_|refine zU fT ?_|apply kU|apply qb);simp +decide only[go_sem,qf,cq,Spn.row]|apply kh<;>intro qe|((first|apply qy|apply qx)<;>(intro qe;simp +decide only[go_sem,qe,qf,cq,Spn.row])))
  refine⟨fz,?_⟩;refine ze 4 _ (DLe.own_ _ _ _) ?_;apply qb;simp +decide only[go_sem];simp[Spn.enc]
def iU: ∀(l out:List Spn),(l.foldl uz out).length<=out.length+l.length
 | [],out=>oh
 | x::l,out=>by have h:=iU l (uz out x);have:=PB out x;simp only[yE,wW]at *;omega
def Gt(l:List Spn):(fD l).length<=l.length:=by have h:=iU (l.filter qV) [];have:=yN qV l;unfold fD;simp at h;omega
theorem gn{α:Type}(q:α->Bool){l:List α}{k:Nat}{x:α}(h:l.take (k+1)=l.take k++[x]):(l.take (k+1)).filter q=(l.take k).filter q++if q x=true then [x]else []:=og
def Kx(l:List Spn)(hl:l.length<=10000):DCalls pP 194 [dv (.sl 2 (Q7 l))] (dv (.sl 2 (Q7 (fD l)))):=by
 have qi:=qo;refine kd (N:=24) (rs:=[.tmp 2]) func194 ?_;refine uB qg ?_;refine ze 3 _ (DLe.ex_ _ _) ?_;refine eU l (fun k=>kn 24 [(0,dv (.sl 2 (Q7 l))),(3,dv (.sl 2 (Q7 (((l.take k).filter qV).foldl uz [])))),(4,dv (li k))] qA) oa (vU rfl (by simp +decide only[go_sem,wy,jJ,yj,wm]) (by simp[qA])) ?_ ?_
 ·intro k x hx hk hm qs qf hw;obtain⟨p,hp⟩: ∃p,p=((l.take k).filter qV).foldl uz []:=⟨_,rfl⟩;have vG:p.length<=10000:=by have h1:=iU ((l.take k).filter qV) [];have h2:=yN qV (l.take k);rw[<-hp]at h1;simp at h1 h2;omega
  have hr:=bR x;have hi:=GV p x oa;rw[gn qV qs,yZ,<-hp];simp only[Spn.row]at hr hi;cases h1:qV x
  ·rw[h1]at hr
   (repeat' first|(first|refine qC ?_|refine kx hr ?_|refine kx hi ?_|apply kU);simp only[go_sem,qf,hw,hx,Spn.enc]|apply kh<;>intro qe)
   exact vU rfl (by simp +decide only[go_sem,yj]) (by simp[qA])
  ·rw[h1]at hr
   (repeat' first|(first|refine qC ?_|refine kx hr ?_|refine kx hi ?_|apply kU);simp only[go_sem,qf,hw,hx,Spn.enc]|apply kh<;>intro qe)
   exact vU rfl (by simp +decide only[go_sem,yj,yE]) (by simp[qA])
 ·intro qf;rw[wc];refine wB qg ?_;rfl
open S
def I5(l:List Nte): ∀r∈l.map Nte.enc,r.length=7:=fun r hr=>by obtain⟨x,_,rfl⟩:=wN.1 hr;rfl
def ly(d:Dcm)(id t:Int)(n:Nte):Bool:=n.tier==t&&n.par==id&&(decide (0<=t)&&decide (t<(d.tiers.length:Int)))
def Pp(d:Dcm)(id t:Int):d.kidN id t=Z3 (fun x y=>decide (rX x y<0)) (d.notes.filter (ly d id t)):=by
 unfold Dcm.kidN;by_cases h:0<=t/\t<d.tiers.length
 ·rw[ae h];congr 1;refine List.filter_congr fun n _=>?_;unfold ly;rw[ay h.1,ay h.2];simp
 ·rw[j7 h];have:d.notes.filter (ly d id t)= []:=List.filter_eq_nil_iff.2 fun n _ hn=>by unfold ly at hn;simp at hn;exact h ⟨hn.2.1,hn.2.2⟩
  rw[this];rfl
def oZ(d:Dcm)(id t:Int)(hl:d.notes.length<=1000000)(hs:(d.kidN id t).length<=19):DCalls pP 34 [.agg d.row,dv (li id),dv (li t)] (dv (.sl 1 (ints (d.kids id t)))):=by
 have qi:=qo;have Z5:d.kids id t=(Z3 (fun x y=>decide (rX x y<0)) (d.notes.filter (ly d id t))).map (·.id):=by unfold Dcm.kids;rw[Pp]
 rw[Z5];rw[Pp,(aL _ _).length_eq]at hs;refine kd (N:=61) (rs:=[.tmp 6]) func34 ?_
 (repeat' first|(first|refine qC ?_|apply kU);simp only[go_sem,Dcm.row]|apply kh<;>intro qe)
 refine qn (DS.Sub.trans (sub_zero 7 7 7 (.inl oe)) (qw (N:=61) (sls:=[(1,dv (li id)),(2,dv (li t)),(3,.one (.bx 3 7 0 0)),(7,.one (.ba 7 7 0 0 0)),(14,dv (.sl 7 (d.notes.map Nte.enc))),(15,dv (li d.notes.length)),(16,dv (li 0))]) (bxs:=[(3,[d.row]),(7,[])]) rfl oe (by simp +decide only[go_sem,Dcm.row]))) ?_;refine u0 d.notes (fun k (j:Nat)=>kn 61 [(1,dv (li id)),(2,dv (li t)),(3,.one (.bx 3 7 0 0)),(7,.one (.ba 7 7 0 ((d.notes.take k).filter (ly d id t)).length (((d.notes.take k).filter (ly d id t)).length+j))),(14,dv (.sl 7 (d.notes.map Nte.enc))),(15,dv (li d.notes.length)),(16,dv (li k))] (ml [(3,[d.row]),(7,cr (((d.notes.take k).filter (ly d id t)).map Nte.enc)++qa j 7)])) (fun _ _=>True) 0 oa (qw rfl (by simp +decide only[go_sem,wy,jJ]) (by simp +decide only[go_sem,wy,jJ,Dcm.row])) trivial ?_ ?_
 ·intro k n j hn hk hm qs qf hw _;have P8:=yN (ly d id t) (d.notes.take k);have bw:(d.notes.take k).length<=d.notes.length:=og;rw[gn _ qs];generalize (d.notes.take k).filter (ly d id t)=C at*
  cases hB:ly d id t n
  ·cases c1:n.tier==t
   ·(repeat' first|(first|refine qC ?_|apply kU);simp only[go_sem,qf,hw,hn,c1,Dcm.row,Nte.enc]|apply kh<;>intro qe)
    exact⟨j,Zb⟩
   cases c2:n.par==id
   ·(repeat' first|(first|refine qC ?_|apply kU);simp only[go_sem,qf,hw,hn,c1,c2,Dcm.row,Nte.enc]|apply kh<;>intro qe)
    exact⟨j,Zb⟩
   cases c3:decide (0<=t)
   ·(repeat' first|(first|refine qC ?_|apply kU);simp only[go_sem,qf,hw,hn,c1,c2,c3,Dcm.row,Nte.enc]|apply kh<;>intro qe)
    exact⟨j,Zb⟩
   cases c4:decide (t<(d.tiers.length:Int))
   ·(repeat' first|(first|refine qC ?_|apply kU);simp only[go_sem,qf,hw,hn,c1,c2,c3,c4,Dcm.row,Nte.enc]|apply kh<;>intro qe)
    exact⟨j,Zb⟩
   ·unfold ly at hB;rw[c1,c2,c3,c4]at hB;cases hB
  ·have hB':=hB;unfold ly at hB';simp only[we]at hB';obtain⟨⟨c1,c2⟩,c3,c4⟩:=hB'
   (repeat' first|(first|refine qC ?_|apply kU);simp +decide only[go_sem,qf,hn,c1,c2,c3,c4,Dcm.row,Nte.enc]|apply kh<;>intro qe|((first|apply qy|apply qx)<;>(intro qe;simp +decide only[go_sem,qe,qf,hw,hn,c1,c2,c3,c4,Dcm.row,Nte.enc])))
   refine StepC.mk (Step.appendList (n:=7) (sz:=7) (by_:=64) (rows:=cr (C.map Nte.enc)) (j:=j) (ys:=cr [n.enc]) rfl rfl oe (by simp +decide only[go_sem,qK,wn]) oe (nu (I5 C)) (srcEx (by simp +decide only[go_sem,Nte.enc])) (by rw[qK,wn,qK];simp;omega) ?_);intro j';simp +decide only[go_sem]
   (repeat' first|(first|refine qC ?_|apply kU);simp only[go_sem,hw]|apply kh<;>intro qe)
   exact⟨j',DS.Sub.trans (zB 44 7 oa) (qw rfl (by simp +decide only[go_sem,qK,wz,wn,wT,wW]) (by simp +decide only[go_sem,yt,Qv,wo,wm,wS,Nte.enc]))⟩
 ·intro j qf _;rw[wc];have P8:=yN (ly d id t) d.notes;generalize d.notes.filter (ly d id t)=C at*
  (repeat' first|(first|refine qC ?_|apply kU);simp only[go_sem,qf]|apply kh<;>intro qe)
  refine CallC.eff [7] (T9 (fun x y=>decide (rX x y<0)) rX (fun _ _=>rfl) 69 (fun a b=>OT a b) C j (7+NB) oa (y7 _ _)) rfl (DLeL.of_eq oe) (fun k r h=>?_) (by constructor<;>simp[mid]) ?_
  ·by_cases hk:k=7+NB
   ·subst hk;simp +decide only[go_sem]at h;subst h;simp +decide only[go_sem,vf]
   ·simp +decide only[go_sem,hk]at h
  rintro r H' ⟨rfl,rfl⟩;simp +decide only[go_sem]
  (repeat' first|(first|refine qC ?_|apply kU);simp only[go_sem]|apply kh<;>intro qe)
  have hSl:(Z3 (fun x y=>decide (rX x y<0)) C).length=C.length:=(aL _ C).length_eq;rw[<-hSl];have hS19:(Z3 (fun x y=>decide (rX x y<0)) C).length<=19:=oa;generalize Z3 (fun x y=>decide (rX x y<0)) C=S at*
  refine pE 7 7 (S.map Nte.enc) (qa j 7) oo (by simp +decide only[go_sem,qF];rfl) (I5 S) ?_;have qs:(S.map Nte.enc).take S.length=S.map Nte.enc:=by rw[<-wn (f:=Nte.enc),wc]
  have vh:S.length<=(S.map Nte.enc).length:=oh;refine CA 10 10 1 oe ?_;refine eU S (fun k=>kn 61 [(10,.one (.own 10 1 (ints ((S.take k).map (·.id))))),(48,dv (.sl 7 (S.map Nte.enc))),(49,dv (li S.length)),(50,dv (li k))] qA) oa (vU rfl (by simp +decide only[go_sem,qs,yC,wy,wm]) (by simp[qA])) ?_ ?_
  ·intro k n hn hk hm LG Zk hw;have vO:(S.take (k+1)).map (·.id)=(S.take k).map (·.id)++[n.id]:=og;rw[vO];have qbY:((S.take k).map (·.id)).length<=19:=og;generalize (S.take k).map (·.id)=q at*
   have hb8:((q.length+1)*8<=140737488355328)=True:=og
   (repeat' first|(first|refine qC ?_|apply kU);simp +decide only[go_sem,Zk,hw,hn,hb8,Nte.enc]|apply kh<;>intro qe|((first|apply qy|apply qx)<;>(intro qe;simp +decide only[go_sem,qe,Zk,hw,hn,hb8,Nte.enc])))
   exact vU rfl (by simp +decide only[go_sem,yt,wo,wm]) (by simp[qA])
  ·intro Zk;rw[wc]
   (repeat' first|(first|refine qC ?_|apply kU);simp only[go_sem,Zk]|apply kh<;>intro qe)
   refine ze 6 (dv (.sl 1 (ints (S.map (·.id))))) oe ?_;apply qb;simp +decide only[go_sem]
section
attribute [local go_sem] vp Tir.enc Dcm.row
structure KidsOk(d:Dcm):Prop where
 notes:d.notes.length<=1000000
 tiers:d.tiers.length<=1000000
 kids: ∀id t,(d.kidN id t).length<=19
 ofs: ∀f t,(B1 d f t).length<=1000000
 par: ∀(k:Nat) t,d.tiers[k]? =some t->t.kind=0\/(0<=t.par/\t.par<k)
def LY{α β:Type}(g:α->List β)(l:List α)(k:Nat):((l.take k).flatMap g).length<=(l.flatMap g).length:=by
 conv=>rhs;rw[<-yf k l]
 rw[jm,wz];omega
abbrev UR:Dl.PL:=fun|6=> Dl.ll 0 10 []|_=>[]
def qa4(d:Dcm)(H:KidsOk d): ∀(f:Nat) (t:Int),t<f->DCalls pP 32 [.agg d.row,dv (li t)] (dv (.sl 1 (ints (B1 d f t)))):=by
 have qi:=qo;intro f;induction f with
 | zero=>
  intro t ht;have h0:t<0:=ht;rw[show B1 d 0 t= [] from rfl];refine dX (N:=48) (rs:=[.tmp 4]) UR func32 ?_;exact gA
 | succ f ih=>
  intro t ht;have hof:=H.ofs (f+1) t;by_cases hr:0<=t/\t<d.tiers.length;rotate_left
  ·have hn:B1 d (f+1) t= []:=by
    have:QJ d.tiers t=none:=by
     unfold QJ;by_cases h0:0<=t
     ·grind
     ·grind
    simp only[B1,this]
   rw[hn];refine dX (N:=48) (rs:=[.tmp 4]) UR func32 ?_;repeat' first|refine gQ ?_|exact gU|refine gS ?_|exact gT|(first|apply xc|apply gf|apply gt)<;>intro hc
   all_goals(exfalso;grind)
  obtain⟨k,rfl⟩: ∃k:Nat,t=k:=⟨t.toNat,oa⟩;obtain⟨x,hx⟩: ∃x,d.tiers[k]? =some x:=⟨_,wa oa⟩;have vO:B1 d (f+1) k=if x.kind=0 then d.kids 0 k else(B1 d f x.par).flatMap fun id=>d.kids id k:=by simp only[B1,gI hx]
  have h1: ¬(k:Int)<0:=oa;have h2: ¬(d.tiers.length:Int)<=(k:Int):=oa;have hK:=oZ d;by_cases h0:x.kind=0
  ·have hK:=hK 0 k H.notes (H.kids 0 k);rw[vO,ae h0];simp only[Dcm.row]at hK;refine dX (N:=48) (rs:=[.tmp 4]) UR func32 ?_;exact gA
  rw[vO,j7 h0]at hof;rw[vO,j7 h0];have hp:=H.par k x hx;have ih:=ih x.par oa;have MK:=H.ofs f x.par;generalize B1 d f x.par=W at*
  simp only[Dcm.row]at ih;refine dX (N:=48) (rs:=[.tmp 4]) UR func32 ?_;refine gC ?_ ?_<;>intro hc
  ·grind
  clear ih vO;refine xo 5 5 1 ?_;refine lp W [1,2,34,35] [2] (fun j=>[(5,.one (.own 5 1 (ints ((W.take j).flatMap fun id=>d.kids id k)))),(36,dv (li j))]) (fun _=>[]) (fun _=>True) trivial ?_ ?_ (h0:=oB)
  ·intro j w hw hj hm qs qf hww _;have hK:=hK w k H.notes (H.kids w k);have hS:(W.take (j+1)).flatMap (fun id=>d.kids id k)=(W.take j).flatMap (fun id=>d.kids id k)++d.kids w k:=og;have hb:=LY (fun id=>d.kids id k) W (j+1);rw[hS,wz]at hb;rw[hS];generalize (W.take j).flatMap (fun id=>d.kids id k)=q at*
   generalize d.kids w k=kk at*
   simp only[Dcm.row]at hK;have lE:(q.length+kk.length)*8<=140737488355328:=oa;clear hm qs hS hb hof hx hp H;repeat' first|refine gQ ?_|exact gU|refine gS ?_|exact gT|(first|apply xc|apply gf|apply gt)<;>intro hc
   all_goals exact gJ
  intro qf _;rw[wc];exact gA
def Dcm.enc(d:Dcm):List Dl.C:=[li d.rc.id,ls d.rc.name,li d.rc.len,li d.rc.day,.sl 1 (ints d.rc.sp),.sl 4 (d.tiers.map Tir.enc),.sl 7 (d.notes.map Nte.enc)]
attribute [local go_sem] vp Dcm.enc
def xM(d:Dcm)(w:Int):List Dl.C:=[li d.rc.id,li w,ls (qu d.notes w)]
abbrev qgG:Dl.PL:=fun|5=> Dl.ll 0 7 []|_=>[]
def Tx(d:Dcm)(H:KidsOk d):DCalls pP 38 [dv (.sl 7 [d.enc])] (dv (.sl 3 ((Za d (vA d.tiers 2)).map (xM d)))):=by
 have qi:=qo;have hR:=sG d.tiers 2 (by have:=H.tiers;omega);have hO:=qa4 d H _ (vA d.tiers 2) (show vA d.tiers 2<((vA d.tiers 2).toNat+1:Nat) by omega);have hG:=fun w=>uR d w (by have:=H.notes;omega);have HG:=H.ofs ((vA d.tiers 2).toNat+1) (vA d.tiers 2);unfold Za;generalize B1 d ((vA d.tiers 2).toNat+1) (vA d.tiers 2)=l at*
 generalize vA d.tiers 2=t at*
 clear H;refine dX (N:=46) (rs:=[.tmp 2]) qgG func38 ?_;refine gB ?_;refine xo 3 3 3 ?_;refine lp [d] [10,11] [] (fun k=>[(3,.one (.own 3 3 (if k=0 then []else l.map (xM d)))),(12,dv (li k))]) (fun _=>[]) (fun k=>True) trivial ?_ ?_ (qi:=by simp only[List.length_singleton];omega)
 ·intro k x hx hk hm qs qf hw hi;have Z5:k=0:=og;subst Z5;have hxd:x=d:=og;subst hxd;clear hm qs hx hi;refine gB ?_;refine lp l [5,10,11,12,20,21] [5] (fun k=>[(3,.one (.own 3 3 ((l.take k).map (xM x)))),(22,dv (li k))]) (fun _=>[]) (fun k=>True) trivial ?_ ?_
  ·intro k w hx hk hm qs qf hw hi;have hGw:=hG w;have vO:(l.take (k+1)).map (xM x)=(l.take k).map (xM x)++[xM x w]:=og;rw[vO];have qbY:((l.take k).map (xM x)).length=k:=og;generalize (l.take k).map (xM x)=q at*
   unfold xM qu;generalize qI x.notes w=r at*
   obtain⟨n,b⟩:=r;simp only[Nte.row]at hGw ⊢;have lE:(k+1)*32<=140737488355328:=oa;clear hm qs vO hG;exact gA
  ·intro qf hi;rw[wc];clear hG;have mV:aD .i64 1=1:=oo;exact gA
 ·intro qf hi;simp only[List.length_singleton,Nat.succ_ne_zero,ap]at qf ⊢;clear hG hO;exact gA
  done
end
open Go.Maps
attribute [local irreducible] MW StepM zg MCalls
section
attribute [local go_sem] vp ZO Sta.ag Sta.enc xM
abbrev qei:Value:=.agg #[.int .i64 0,.int .i64 0,.int .i64 0,.slice none 0 0]
abbrev qeh:D:=.agg [.c (.lit (.int .i64 0)),.c (.lit (.int .i64 0)),.c (.lit (.int .i64 0)),.c (.lit (.slice none 0 0))]
theorem YK(w:j5):(zeroValue 71).run pP w= .ok qei w:=om
def YM(w:j5)(E:Env):VD w E qeh qei:=.agg _ _ rfl fun j t v h1 h2=>by
 match j with
 | 0=>simp at h1 h2;subst h1;subst h2;exact .c _ _ (.lit _ rfl)
 | 1=>simp at h1 h2;subst h1;subst h2;exact .c _ _ (.lit _ rfl)
 | 2=>simp at h1 h2;subst h1;subst h2;exact .c _ _ (.lit _ rfl)
 | 3=>simp at h1 h2;subst h1;subst h2;exact .c _ _ (.lit _ rfl)
 | _+4=>simp at h1
def NG(n:Nat)(F:Lit->Option (List Dl.C)):MO:=.mv 9 n F
def StaOk(g:Lg)(F:Lit->Option (List Dl.C)):Prop:=∀(t:ByteArray) cs,F (.string t.data.toList)=some cs->∃r,cs=(vI g r t []).enc
def qc9{s t:ByteArray}(h:Lit.string s.data.toList=Lit.string t.data.toList):s=t:=by
 injection h with h
 cases s;cases t;simp only[Array.toList_inj]at h;rw[h]
def StaOk.put{g:Lg}{F:Lit->Option (List Dl.C)}(h:StaOk g F)(r:Rf)(t:ByteArray):StaOk g (qea F (.string t.data.toList) (vI g r t []).enc):=fun u cs hu=>by
 by_cases e:Lit.string u.data.toList=Lit.string t.data.toList
 ·have:=qc9 e;subst this;rw[uU]at hu;injection hu with hu
  exact⟨r,hu.symm⟩
 ·rw[pn e]at hu;exact h u cs hu
def qew(d:Dcs)(r:Rf)(s:ByteArray):DCalls pP 79 [.agg d.row,dv (.pt [li r.rc,li r.note,ls s])] (dv (lb (decide (d.ref=r)))):=by rw[show decide (d.ref=r)=(d.ref.rc==r.rc&&d.ref.note==r.note) by rw[y8];cases d with|mk ref yes pick=>cases ref;cases r;simp];simp only[Dcs.row];refine dX (N:=9) (rs:=[.tmp 3]) qg func79 ?_;exact gA
def EP(s:ByteArray)(h:s.size<=maxLen):keyOf pP 9 (.string s)=some (.string s.data.toList):=Go.WideMaps.keyOf_string_mk underlying9 h
def I2(b:Nat)(m:MO):Q9 b m b=some m:=by simp[Q9]
def qc6(g:Lg)(l:List Dcs)(bm:Nat):List Dl.C:=ZO g++[.sl 4 (l.map Dcs.enc),.lit (.map (some bm))]
def qgw{g:Lg}(H:SrL g)(l:List Dcs)(r:Rf)(s:ByteArray)(bm n:Nat)(F:Lit->Option (List Dl.C))(hF:StaOk g F)(hn:n<maxLen)(hs:s.size<=1048576)(hl:l.length<=1048576)(hp: ∀d∈l,d.pick.length<=1000000):
  MCalls pP 39 [.agg ((qc6 g l bm).map T.c),.agg [.c (li r.rc),.c (li r.note),.c (ls s)]] (ml []) (Q9 bm (NG n F)) (fun q H' M'=>q=(vI g r s l).ag/\∃n' F',n'<=n+1/\StaOk g F'/\M'=Q9 bm (NG n' F')):=by
 have qi:=qo;have hC:=JK (fun d=>decide (d.ref=r)) 79 [.pt [li r.rc,li r.note,ls s]] l (fun d _=>qew d r s) hl;have hS:=NM H r s l hs hl hp;have qcn:=NM H r s [] hs (wM _) (fun d h=>by cases h);have hk:=EP s oa;rw[<-qD]at hS qcn;have aN:=StaOk.put hF r s;have fZ:l.any (fun d=>decide (d.ref=r))=false->vI g r s l=vI g r s []:=fun h=>Kh fun d hd=>by have:=yY.1 h d hd;simpa using this
 have P6: ∀cs,F (.string s.data.toList)=some cs->∃B:Sta,cs=B.enc/\vI g r s []=⟨r,B.kind,B.pick⟩:=fun cs h=>by obtain⟨r0,h0⟩:=hF s cs h;exact⟨_,h0,(DK g r0 r s).symm⟩
 have href:(vI g r s []).ref=r:=by rw[<-DK g r r s]
 replace fZ:Kp _:=⟨fZ⟩;replace P6:Kp _:=⟨P6⟩;replace aN:Kp _:=⟨aN⟩;replace qcn:Kp _:=⟨qcn⟩;generalize l.any (fun d=>decide (d.ref=r))=bb at*
 generalize vI g r s l=Z at*
 generalize vI g r s []=A at*
 simp only[qc6];refine mX (N:=46) (rs:=[.cell 4 71]) qg func39 ?_;refine gB ?_;refine CallM.sub (s':=kn 46 [(2,.one (.bx 2 11 0 0)),(3,dv (.pt [li r.rc,li r.note,ls s])),(4,.one (.bx 4 4 0 0)),(8,dv (.sl 4 (l.map Dcs.enc))),(9,dv (.fn 79 [.pt [li r.rc,li r.note,ls s]]))]
  (ml [(2,[(ZO g++[Dl.C.sl 4 (l.map Dcs.enc),.lit (.map (some bm))]).map T.c]),(4,[[.c (li 0),.c (li 0),.c (li 0),.ex 3 []]])]))
  (DS.Sub.trans (QK 3 [li r.rc,li r.note,ls s] oh ou) (qw rfl oq oq)) rfl ?_
 refine gC ?_ ?_<;>intro hc
 ·grind
 have hZ:=fZ.1 (by assumption);subst hZ;have qcn:=qcn.1;clear fZ hS hC;refine oM (StepM.lookupV rfl (I2 bm _) ?_ Hq underlying108 YK (fun w E=>YM w E) ?_ hk (fun cs nP=>?_) (fun nP=>?_))
 ·simp only[go_sem, *]
 ·simp only[go_sem, *]
 ·obtain⟨B,rfl,rfl⟩:=P6.1 cs nP;clear P6 aN qcn;repeat' first|refine gQ ?_|exact gU|refine gS ?_|exact gT|(first|apply xc|apply lX|apply gf|apply gt|apply l6|apply lZ)<;>intro hc
  exact⟨n,F,Nat.le_succ n,hF,rfl⟩
 ·clear P6;repeat' first|refine gQ ?_|exact gU|refine gS ?_|exact gT|(first|apply xc|apply lX|apply gf|apply gt|apply l6|apply lZ)<;>intro hc
  refine cM (kq ?_ qcn (vh:=?_));rotate_left
  ·simp only[go_sem,wm, *];exact .cons (Le.refl_ _) (.cons (Le.refl_ _) (.cons (Le.refl_ _) (.cons (Le.nil_ _) .nil)))
  repeat' first|refine gQ ?_|exact gU|refine gS ?_|exact gT|(first|apply xc|apply lX|apply gf|apply gt|apply l6|apply lZ)<;>intro hc
  refine oM (StepM.updateV rfl rfl (I2 bm _) ?_ Hq underlying108 hn ?_ hk (cs:=Z.enc) ?_ (fun r m h hn=>by simp[Q9,hn]at h) ?_)
  ·simp only[go_sem, *]
  ·simp only[go_sem, *]
  ·simp only[go_sem,wo,wm, *]
  rw[mH];repeat' first|refine gQ ?_|exact gU|refine gS ?_|exact gT|(first|apply xc|apply lX|apply gf|apply gt|apply l6|apply lZ)<;>intro hc
  exact⟨n+1,_,wl _,aN.1,by simp only[Sta.enc,href];rfl⟩
def bE(g:Lg)(l:List Dcs)(d:Dcm):List Sta:=(Za d (vA d.tiers 2)).map fun w=>vI g ⟨d.rc.id,w⟩ (qu d.notes w) l
def AH{g:Lg}(H:SrL g)(l:List Dcs)(d:Dcm)(hd:KidsOk d)(hs: ∀n∈d.notes,n.txt.size<=1048576)(hl:l.length<=1048576)(hp: ∀d∈l,d.pick.length<=1000000):
  DCalls pP 10 [.agg g.row,dv (.sl 7 [d.enc]),dv (.sl 4 (l.map Dcs.enc))] (dv (.sl 4 ((bE g l d).map Sta.enc))):=by
 refine DCalls.le (r:=.one (.own 8 4 ((bE g l d).map Sta.enc))) (DCalls.of_maps ?_) oE;have qi:=qo;have hW:=Tx d hd;have hT: ∀w,(qu d.notes w).size<=1048576:=fun w=>by
  unfold qu qI;split
  ·grind
  ·exact wM _
 have hwl:(Za d (vA d.tiers 2)).length<=1000000:=hd.ofs _ _;unfold bE;generalize Za d (vA d.tiers 2)=ws at*
 rw[<-qD];refine mX (N:=30) (rs:=[.tmp 6]) qg func10 ?_;refine gB ?_;refine oM (StepM.makeMapV rfl 9 fun bm hbm=>?_);rw[show (noMap.set bm (.mv 9 0 fun _=>none))=Q9 bm (NG 0 fun _=>none) from by funext k;simp only[MS.set,Q9,noMap,NG]];refine gB ?_;refine xoM 8 8 4 ?_;refine XO ws [7,16,17] [7] (fun k _=>[(8,.one (.own 8 4 ((ws.take k).map fun w=>(vI g ⟨d.rc.id,w⟩ (qu d.notes w) l).enc))),(18,dv (li k))]) (fun _ _=>[]) (fun _ (y:Nat×(Lit->Option (List Dl.C)))=>Q9 bm (NG y.1 y.2)) (fun k y=>y.1<=k/\StaOk g y.2) (0,fun _=>none) rfl ⟨wl _,fun t cs h=>by cases h⟩ ?_ ?_
 ·rintro k w ⟨n,F⟩ hx hk hm qs qf AY ⟨hn,hF⟩;simp only at hn hF;have hS:=qgw H l ⟨d.rc.id,w⟩ (qu d.notes w) bm n F hF oa (hT w) hl hp;have vO:(ws.take (k+1)).map (fun w=>(vI g ⟨d.rc.id,w⟩ (qu d.notes w) l).enc)=(ws.take k).map (fun w=>(vI g ⟨d.rc.id,w⟩ (qu d.notes w) l).enc)++[(vI g ⟨d.rc.id,w⟩ (qu d.notes w) l).enc]:=og;rw[vO];have qbY:((ws.take k).map (fun w=>(vI g ⟨d.rc.id,w⟩ (qu d.notes w) l).enc)).length=k:=og;generalize (ws.take k).map (fun w=>(vI g ⟨d.rc.id,w⟩ (qu d.notes w) l).enc)=q at*
  generalize vI g ⟨d.rc.id,w⟩ (qu d.notes w) l=Z at*
  have lE:(k+1)*48<=140737488355328:=oa;clear hm qs vO;simp only[qc6]at hS;refine gB ?_;refine qfw [] ?_ hS (h1:=oh) (h2:=by intro x hx;injection hx with hx;subst hx;simp);rintro r' H' M' ⟨rfl,n',F',hn',hF',rfl⟩;refine gB ?_;exact⟨(n',F'),⟨oz,hF'⟩,qJ,rfl⟩
 ·rintro⟨n,F⟩ qf _;rw[wc,show(fun w=>(vI g ⟨d.rc.id,w⟩ (qu d.notes w) l).enc)=Sta.enc∘fun w=>vI g ⟨d.rc.id,w⟩ (qu d.notes w) l from rfl,<-yn];clear hT hW;exact gA
def Dv{g:Lg}(H:SrL g)(g0:Lg)(o:List Sta)(l:List Dcs)(d:Dcm)(hd:KidsOk d)(hs: ∀n∈d.notes,n.txt.size<=1048576)(hl:l.length<=1048576)(hp: ∀d∈l,d.pick.length<=1000000):
  DCalls pP 11 [dv (.sl 4 (o.map Sta.enc)),.agg g0.row,.agg g.row,dv (.sl 7 [d.enc]),dv (.sl 4 (l.map Dcs.enc))] (dv (.sl 4 ((bE g l d).map Sta.enc))):=by
 have hA:=AH H l d hd hs hl hp;rw[<-qD]at hA ⊢;rw[<-qD];refine dX (N:=15) (rs:=[.tmp 10]) qg func11 ?_;exact gA
attribute [local go_sem] vp qj Unt.enc Z2 strs
structure SetOk(D:DataW j6):Prop where
 map:IsMap D
 at_: ∀kl,jl D kl=true->D.atKey kl (.lit (.bool false))= .lit (.bool true)
def SetOk.put{D:DataW j6}(h:SetOk D)(s:ByteArray):SetOk (D.put (.string s.data.toList) (.lit (.bool true))):=by
 refine⟨h.map.put _ _,fun c hh=>?_⟩;by_cases e:c= .string s.data.toList
 ·subst e;exact atKey_put_same h.map (by simp[WideAt.IsKeyLit]) _ _
 ·rw[has_put_other e]at hh;rw[atKey_put_other e];exact h.at_ c hh
def SetOk.look{D:DataW j6}(h:SetOk D)(kl:Lit)(u:j6)(ps:List MemPlace)(hr:plainElem pP 4 u=some (D.atKey kl (.lit (.bool false)),ps)):u= .bool (jl D kl):=by
 have e:D.atKey kl (.lit (.bool false))= .lit (.bool (jl D kl)):=by
  cases hh:jl D kl with
  | true=>rw[h.at_ kl hh]
  | false=>rw[atKey_of_not_has hh]
 rw[e]at hr;unfold plainElem at hr;rw[underlying4]at hr;cases u<;>simp at hr;rw[hr.1]
def SetOk.nil:SetOk (.map []):=⟨isMap_empty,fun kl h=>by simp[jl]at h⟩
def Li(nm:ByteArray)(us:List Unt)(lt:List (List ByteArray))(hl:lt.length<=1048576)(h2: ∀l∈lt,l.length<=1048576/\∀s∈l,s.size<=1048576):
  NCalls pP 298 [.agg [.c (ls nm),.c (.sl 2 (us.map Unt.enc)),.c (.sl 1 (lt.map Z2))]] (zJ True):=by
 refine ECalls.some (ECalls.of_maps (R:=fun r _=>zJ True r) ?_);have qi:=qo;refine mX (N:=39) (rs:=[.tmp 2]) qg func298 ?_;repeat' first|refine gQ ?_|exact gU|refine gS ?_|exact gT|(first|apply xc|apply lX|apply gf|apply gt|apply l6|apply lZ)<;>intro hc
 refine oM (StepM.makeMap rfl 9 (plainElem pP 4) fun bm hbm=>?_);rw[show (noMap.set bm (.mp 9 (plainElem pP 4) 0 (.map [])))=Q9 bm (bK 0 (.map [])) from by funext k;simp only[MS.set,Q9,noMap,bK]];repeat' first|refine gQ ?_|exact gU|refine gS ?_|exact gT|(first|apply xc|apply lX|apply gf|apply gt|apply l6|apply lZ)<;>intro hc
 refine XO lt [3,14,15] [] (fun k _=>[(16,dv (li k))]) (fun _ _=>[]) (fun _ (y:Nat×DataW j6)=>Q9 bm (bK y.1 y.2)) (fun k y=>y.1<=k*1048576/\SetOk y.2) (0,.map []) rfl ⟨oz,SetOk.nil⟩ ?_ ?_
 ·rintro k l ⟨n,D⟩ hx hk hm qs qf AY ⟨hn,hD⟩;simp only at hn hD;obtain⟨F7,ga⟩:=h2 l hm;clear hm qs;replace ga:Kp _:=⟨ga⟩;replace hn:Kp _:=⟨hn⟩;repeat' first|refine gQ ?_|exact gU|refine gS ?_|exact gT|(first|apply xc|apply lX|apply gf|apply gt|apply l6|apply lZ)<;>intro hc
  have h00:n<=k*1048576+0:=wu hn.1 (jX _ _);refine XO l [3,14,15,16,23,24] [] (fun j _=>[(25,dv (li j))]) (fun _ _=>[]) (fun _ (y:Nat×DataW j6)=>Q9 bm (bK y.1 y.2)) (fun j y=>y.1<=k*1048576+j/\SetOk y.2) (n,D) rfl ⟨h00,hD⟩ ?_ ?_
  ·rintro j t ⟨n',D'⟩ Jm fy LJ LG Zk hwk2 ⟨hn',hD'⟩;simp only at hn' hD';have hts:=ga.1 t LJ;have hP:=I0 t;have hky:=EP t oa;have ZA:=hD'.look (.string t.data.toList);clear LJ LG;replace ZA:Kp _:=⟨ZA⟩;replace hn':Kp _:=⟨hn'⟩;repeat' first|refine gQ ?_|exact gU|refine gS ?_|exact gT|(first|apply xc|apply lX|apply gf|apply gt|apply l6|apply lZ)<;>intro hc
   refine cM (dM ?_ hP);intro b _;cases b
   ·repeat' first|refine gQ ?_|exact gU|refine gS ?_|exact gT|(first|apply xc|apply lX|apply gf|apply gt|apply l6|apply lZ)<;>intro hc
   repeat' first|refine gQ ?_|exact gU|refine gS ?_|exact gT|(first|apply xc|apply lX|apply gf|apply gt|apply l6|apply lZ)<;>intro hc
   refine oM (StepM.lookup rfl (mI bm (bK n' D')) ?_ Hq underlying341 Xc (plainElem_bool underlying4 false) ?_ hky ZA.1 rfl ?_)
   ·simp only[go_sem, *]
   ·simp only[go_sem, *]
   repeat' first|refine gQ ?_|exact gU|refine gS ?_|exact gT|(first|apply xc|apply lX|apply gf|apply gt|apply l6|apply lZ)<;>intro hc
   refine oM (StepM.update rfl rfl (mI bm (bK n' D')) ?_ Hq underlying341 (by have:=hn'.1;omega) ?_ hky ?_ (plainElem_bool underlying4 true) B0 ?_)
   ·simp only[go_sem, *]
   ·simp only[go_sem, *]
   ·simp only[go_sem, *]
   rw[mH];repeat' first|refine gQ ?_|exact gU|refine gS ?_|exact gT|(first|apply xc|apply lX|apply gf|apply gt|apply l6|apply lZ)<;>intro hc
   exact⟨(n'+1,_),⟨by have:=hn'.1;simp only;omega,hD'.put t⟩,qJ,rfl⟩
  ·rintro⟨n',D'⟩ Zk ⟨hn',hD'⟩;replace hn':Kp _:=⟨hn'⟩;repeat' first|refine gQ ?_|exact gU|refine gS ?_|exact gT|(first|apply xc|apply lX|apply gf|apply gt|apply l6|apply lZ)<;>intro hc
   exact⟨(n',D'),⟨by have:=hn'.1;simp only at *;omega,hD'⟩,qJ,rfl⟩
 ·rintro⟨n',D'⟩ Zk ⟨hn',hD'⟩;repeat' first|refine gQ ?_|exact gU|refine gS ?_|exact gT|(first|apply xc|apply lX|apply gf|apply gt|apply l6|apply lZ)<;>intro hc
def OW(g:List Phon)(nm:ByteArray)(us:List Unt)(lt:List (List ByteArray))(hg:g.length<=1048576)(hu:us.length<=1048576)(XV: ∀u∈us,u.segs.length<=1000000)(hl:lt.length<=1048576)(h2: ∀l∈lt,l.length<=1048576/\∀s∈l,s.size<=1048576):
  NCalls pP 295 [.agg (qj g),.agg [.c (ls nm),.c (.sl 2 (us.map Unt.enc)),.c (.sl 1 (lt.map Z2))]] (zJ True):=by
 have qi:=qo;have hN:=U2 nm;have hL:=Li nm us lt hl h2;clear h2;refine nX (N:=64) (rs:=[.tmp 4]) qg func295 ?_;repeat' first|refine gQ ?_|exact gU|(refine eH ?_<;>intro er eN)|(refine dM ?_<;>intro bo eO)|refine gS ?_|exact gT|(first|apply xc|apply gf|apply gt)<;>intro hc
 refine lq us [2,3,18,19] [2,3] 20 ?_ ?_
 ·intro k u hx hk hm qs qf hw _;have hP:=I0 u.graph;have dB:=XV u hm;have hW:=s6 g u.segs;obtain⟨ut,hut,Ta⟩: ∃ut:List Unt,(us.map Unt.enc).take k=ut.map Unt.enc/\ut.length<=1048576:=⟨us.take k,jv.symm,by rw[ym];omega⟩;have hz:=wM k;have bw:=Nat.le_of_lt hk;clear hm qs XV;generalize vM g u.segs=wE at*
  simp only[qj]at hW;repeat' first|refine gQ ?_|exact gU|(refine eH ?_<;>intro er eN)|(refine dM ?_<;>intro bo eO)|refine gS ?_|exact gT|(first|apply xc|apply gf|apply gt)<;>intro hc
  refine lp ut [2,3,6,18,19,20,32,33] [2,3,6] (fun j=>[(34,dv (li j))]) (fun _=>[]) (fun _=>True) trivial ?_ ?_
  ·intro j v Jm fy LJ LG Zk rG _;clear LJ LG;exact gA
  intro Zk _;exact gA
 intro qf _;exact gA
end
end Go.Proofs.YtobpcppcjdnkmaaGreat
namespace Go.Proofs.YtobpcppcjdnkmaaGreat.A
open Go.Proofs.Tryz
open Go.Dl Go.Maps
attribute [local irreducible] DW DCalls ECalls NCalls wk IW MW StepM zg MCalls
section
attribute [local go_sem] vp qj Phon.enc Unt.enc Z2 strs
def EM(s:ByteArray):Bool:=Al s&& !(s==({ data:= #[] }:ByteArray))&& !(lQ s)
def Ht{s:ByteArray}(h:EM s=true):DCalls pP 282 [dv (ls s)] (dv (lb true)):=by unfold EM at h;simp only[we,jz]at h;exact Vk s h.1.1 h.1.2 h.2
def Vu(f:Nat)(cs:List Dl.C)(l:List Phon)(q:Phon->Bool)(hf: ∀d∈l,DCalls pP f (.agg [.c (ls d.name),.c (li d.feat)]::cs.map fun c=>D.one (.c c)) (dv (lb (q d))))(hl:l.length<=1048576):
  DCalls pP 287 [dv (.sl 2 (l.map Phon.enc)),dv (.fn f cs)] (dv (li (zG q l))):=by
 have qi:=qo;replace hf:Kp _:=⟨hf⟩;obtain⟨R,hR⟩: ∃R,R=zG q l:=⟨_,rfl⟩;rw[<-hR];replace hR:Kp _:=⟨hR⟩;refine dX (N:=19) (rs:=[.tmp 4]) qg func287 ?_;refine gB ?_;refine lp l [0,1,7] [] (fun k=>[(8,dv (li k))]) (fun _=>[]) (fun k=>∀d∈l.take k,q d=false) oh ?_ ?_
 ·intro k d hd hk hm qs qf hw hi;have hc:=hf.1 d hm;have hF:=fun h=>z8 hd hi h;have hT:=fun h=>qG qs hi h;clear hm qs hi;generalize q d=b at*
  cases b
  ·replace hF:Kp _:=⟨hF⟩;replace hT:Kp _:=⟨hT⟩;repeat' first|refine gQ ?_|exact gU|refine gS ?_|exact gT|(first|apply xc|apply gf|apply gt)<;>intro hc
   exact⟨hT.1 rfl,qJ⟩
  ·replace hF:Kp _:=⟨hF⟩;replace hT:Kp _:=⟨hT⟩;repeat' first|refine gQ ?_|exact gU|refine gS ?_|exact gT|(first|apply xc|apply gf|apply gt)<;>intro hc
   exact cC (by rw[hR.1];exact hF.1 rfl)
 intro qf hi;rw[wc]at hi;have hF:=z7 hi;replace hi:Kp _:=⟨hi⟩;replace hF:Kp _:=⟨hF⟩;refine gB ?_;exact cC (by rw[hR.1];exact hF.1)
def OP(g:List Phon)(s:ByteArray)(hl:g.length<=1048576):DCalls pP 283 [.agg (qj g),dv (ls s)] (dv (li (aD .i64 (zG (fun d:Phon=>d.name==s) g+1)))):=by
 have hI:=Vu 288 [.pt [ls s]] g (fun d=>d.name==s) (fun d _=>Jz d s) hl;generalize zG (fun d:Phon=>d.name==s) g=i at*
 refine dX (N:=10) (rs:=[.tmp 4]) qg func283 ?_;refine gS ?_;refine CallC.frz 3 [ls s] oh oe ?_;exact gA
structure PhA(g:List Phon):Prop where
 few:g.length<=60
 lab: ∀p∈g,EM p.name=true
 one: ∀(k:Nat) p,g[k]? =some p->zG (fun d:Phon=>d.name==p.name) g=k
 feat: ∀p∈g,0<=p.feat/\p.feat<65536
def KU(g:List Phon)(h:PhA g):DCalls pP 281 [.agg (qj g)] (dv (li 0)):=by
 have qi:=qo;have vG:=h.few;have hd:decide ((60:Int)<(g.length:Int))=false:=og;replace h:Kp _:=⟨h⟩;refine dX (N:=40) (rs:=[.tmp 2]) qg func281 ?_;refine gB ?_;refine lq g [1,10,11] [1] 12 ?_ ?_
 ·intro k p hp hk hm qs qf hw _;have h1:=OP g p.name oa;rw[h.1.one k p hp,hw]at h1;have h2:=Ht (h.1.lab p hm);have f1:decide (p.feat<0)=false:=by have:=(h.1.feat p hm).1;simp;omega
  have f2:decide ((65536:Int)<=p.feat)=false:=by have:=(h.1.feat p hm).2;simp;omega
  clear hm qs;exact gA
 intro qf _;exact gA
def UO(s:ByteArray)(h:EM s=true)(h1:decide (0<=Go.Lib.indexByte s.data.toList 32)=false):DCalls pP 297 [dv (ls s)] (dv (lb true)):=by have h2:=Ht h;have h3:=rN s;rw[h1]at h3;refine dX (N:=10) (rs:=[.tmp 2]) qg func297 ?_;exact gA
end
end Go.Proofs.YtobpcppcjdnkmaaGreat.A
namespace Go.Proofs.YtobpcppcjdnkmaaGreat
open Go.Proofs.Tryz
open Go.Dl
attribute [local irreducible] DW DCalls ECalls NCalls wk IW
section
attribute [local go_sem] vp Stp.enc Stp.row
def Xh(q n:Int)(a b:Dl.C):DCalls pP 311 [dv (li q),dv (.pt [li n,a,b])] (dv (lb (decide (0<=q)&&decide (q<n)))):=by
 cases h:decide (0<=q)
 ·refine dX (N:=12) (rs:=[.tmp 3]) qg func311 ?_;exact gA
 ·refine dX (N:=12) (rs:=[.tmp 3]) qg func311 ?_;exact gA
abbrev pl313:Dl.PL:=fun|4=> Dl.ll 0 6 []|_=>[]
def Vs(l:List Stp)(x:Stp)(hl:l.length<=1048576):NCalls pP 313 [dv (.sl 3 (l.map Stp.enc)),.agg x.row] (zJ True):=by
 have qi:=qo;refine nX (N:=19) (rs:=[.tmp 4]) pl313 func313 ?_;refine gB ?_;refine lq l [0,3,7] [3] 8 ?_ ?_
 ·intro k y hx hk hm qs qf hw _;clear hm qs;exact gA
 intro qf _;exact gA
def Wp(l:List Stp)(x:Stp)(hl:l.length<=1048576):NCalls pP 312 [dv (.sl 3 (l.map Stp.enc)),.agg x.row] (bn True):=by have hI:=Vs l x hl;simp only[Stp.row]at hI ⊢;refine nX (N:=9) (rs:=[.tmp 4]) qg func312 ?_;exact gA
abbrev pl310:Dl.PL:=fun|13=> Dl.ll 0 5 [(5,.step)]|19=> Dl.ll 0 12 []|_=>[]
def NA(n:Int)(st:List Stp)(fin:List Int)(hs:st.length<=1048576)(hf:fin.length<=1048576):NCalls pP 310 [.agg [.c (li n),.c (.sl 3 (st.map Stp.enc)),.c (.sl 1 (ints fin))]] (zJ True):=by
 have qi:=qo;have hT:=fun q=>Xh q n (.sl 3 (st.map Stp.enc)) (.sl 1 (ints fin));replace hT:Kp _:=⟨hT⟩;refine nX (N:=88) (rs:=[.tmp 2]) pl310 func310 ?_;repeat' first|refine gQ ?_|exact gU|(refine eH ?_<;>intro er eN)|(refine dM ?_<;>intro bo eO)|refine gS ?_|exact gT|(first|apply xc|apply gf|apply gt)<;>intro hc
 refine xl (Q3 1 [li n,.sl 3 (st.map Stp.enc),.sl 1 (ints fin)] oh oe (xw (N:=88) pl310 ?_));refine lq st [1,3,23,24] [] 25 ?_ ?_
 ·intro k y hx hk hm qs qf hw _;have h1:=hT.1 y.src;have h2:=hT.1 y.dst;obtain⟨ut,hut,Ta⟩: ∃ut:List Stp,(st.map Stp.enc).take k=ut.map Stp.enc/\ut.length<=1048576:=⟨st.take k,jv.symm,by rw[ym];omega⟩;have hz:=wM k;have bw:=Nat.le_of_lt hk;have hC:=Wp ut y Ta;simp only[Stp.row]at hC;clear hm qs;repeat' first|refine kx h1 ?_|refine kx h2 ?_|refine gQ ?_|exact gU|(refine eH ?_<;>intro er eN)|(refine dM ?_<;>intro bo eO)|refine gS ?_|exact gT|(first|apply xc|apply gf|apply gt)<;>intro hc
  all_goals exact qJ
 intro qf _;repeat' first|refine gQ ?_|exact gU|(refine eH ?_<;>intro er eN)|(refine dM ?_<;>intro bo eO)|refine gS ?_|exact gT|(first|apply xc|apply gf|apply gt)<;>intro hc
 refine xl (q8 (fun i:Nat=>kn 88 [(6,dv (li i)),(1,dv (.pt [li n,.sl 3 (st.map Stp.enc),.sl 1 (ints fin)])),(3,dv (.fn 311 [.pt [li n,.sl 3 (st.map Stp.enc),.sl 1 (ints fin)]]))] (ml [])) (fun i=>1<=i/\i<=1048577) (fun i=>1048577 - i) 1 ?_ ⟨wl _,oo⟩ ?_)
 ·exact Zb
 ·rintro i ⟨Te,qce⟩;refine xw (N:=88) pl310 ?_;by_cases hif:i<fin.length
  ·have hd:decide ((i:Int)<(fin.length:Int))=true:=by grind
   obtain⟨x,hx⟩: ∃x,fin[i - 1]? =some x:=⟨_,wa oa⟩;obtain⟨y,hy⟩: ∃y,fin[i]? =some y:=⟨_,wa hif⟩;have mV:aD .i64 ((i:Int) - 1)=((i - 1:Nat):Int):=by rw[wrap_i64 oa oa];omega
   have rG:aD .i64 ((i:Int)+1)=((i+1:Nat):Int):=by rw[wrap_i64 oa oa];omega
   have hg: ∃j:Nat,j=i+1/\(1<=j/\j<=1048577)/\1048577 - j<1048577 - i:=og;obtain⟨j,hj,Yd,HH⟩:=hg;rw[<-hj]at rG;clear Te qce hif hj;repeat' first|refine gQ ?_|exact gU|(refine eH ?_<;>intro er eN)|(refine dM ?_<;>intro bo eO)|refine gS ?_|exact gT|(first|apply xc|apply gf|apply gt)<;>intro hc
   exact⟨j,Yd,HH,qJ⟩
  ·have hd:decide ((i:Int)<(fin.length:Int))=false:=by grind
   clear Te qce hif;repeat' first|refine gQ ?_|exact gU|(refine eH ?_<;>intro er eN)|(refine dM ?_<;>intro bo eO)|refine gS ?_|exact gT|(first|apply xc|apply gf|apply gt)<;>intro hc
   refine lq fin [3,77,78] [] 79 ?_ ?_
   ·intro k y hx hk hm qs qf hw _;have h1:=hT.1 y;clear hm qs;exact gA
   intro qf _;exact gA
end
end Go.Proofs.YtobpcppcjdnkmaaGreat
namespace Go.Proofs.YtobpcppcjdnkmaaGreat.A
open Go.Proofs.Tryz
open Go.Dl Go.Maps
attribute [local irreducible] DW DCalls ECalls NCalls wk IW MW StepM zg MCalls
section
attribute [local go_sem] vp qj Phon.enc Unt.enc Z2 strs Stp.enc Stp.row
def qbo(s:ByteArray):Bool:=decide (0<s.size)&&decide (s.size<=32)&&s.data.toList.all fun b=>decide (97<=b.toNat)&&decide (b.toNat<=122)
def U3(s:ByteArray)(h:qbo s=true):DCalls pP 296 [dv (ls s)] (dv (lb true)):=by
 have qi:=qo;unfold qbo at h;simp only[we,aj,wZ]at h;obtain⟨⟨h0,hs⟩,ha⟩:=h;have hn:=BO s;have e:decide (s.size=0)=false:=og;rw[e]at hn;clear e;obtain⟨b,hb⟩:=aZ (t:=s) (k:=0) oa;have uO:=ha b (ww hb);have h1:decide ((32:Int)<(s.size:Int))=false:=og;have hm:(s.size<=maxLen)=True:=og;have a1:decide ((b.toNat:Int)<97)=false:=og;have a2:decide ((122:Int)<(b.toNat:Int))=false:=og;have hlb:(QS s).length=s.data.toList.length:=by simp[QS]
 have dB:s.data.toList.length=s.size:=oh;have hm:(s.size<=9223372036854775807)=True:=og;replace dB:Kp _:=⟨dB⟩;replace ha:Kp _:=⟨ha⟩;clear uO h0;refine dX (N:=52) (rs:=[.tmp 2]) qg func296 ?_;refine gB ?_;clear hb hn a1 a2;refine lq s.data.toList [23,24] [] 25 ?_ ?_ (qi:=by have:=dB.h;omega)
 ·intro k e he hk EY qs qf hw _;have hx:=pM he;have c1:decide ((e.toNat:Int)<97)=false:=by have:=ha.1 e EY;simp;omega
  have c2:decide ((122:Int)<(e.toNat:Int))=false:=by have:=ha.1 e EY;simp;omega
  clear he EY qs;exact gA
 intro qf _;exact gA
def Lj(nm:ByteArray)(us:List Unt):DCalls pP 298 [.agg [.c (ls nm),.c (.sl 2 (us.map Unt.enc)),.c (.sl 1 [])]] (dv (li 0)):=by
 refine NCalls.det (R:=fun r=>r=dv (li 0)) (ECalls.some (ECalls.of_maps (R:=fun r _=>r=dv (li 0)) ?_)) (fun _ h=>h);have qi:=qo;refine mX (N:=39) (rs:=[.tmp 2]) qg func298 ?_;refine gB ?_;refine oM (StepM.makeMap rfl 9 (plainElem pP 4) fun bm hbm=>?_);rw[show (noMap.set bm (.mp 9 (plainElem pP 4) 0 (.map [])))=Q9 bm (bK 0 (.map [])) from by funext k;simp only[MS.set,Q9,noMap,bK]];refine gB ?_;refine XO ([]:List (List ByteArray)) [3,14,15] [] (fun k _=>[(16,dv (li k))]) (fun _ _=>[]) (fun _ (y:Nat×DataW j6)=>Q9 bm (bK y.1 y.2)) (fun k y=>True) (0,.map []) rfl trivial ?_ ?_ (qi:=wM _)
 ·simp
 ·rintro⟨n',D'⟩ Zk _;exact gA
structure OrA(g:List Phon)(nm:ByteArray)(us:List Unt):Prop where
 nm:qbo nm=true
 few:us.length<=100
 lab: ∀u∈us,EM u.graph=true/\decide (0<=Go.Lib.indexByte u.graph.data.toList 32)=false
 seg: ∀u∈us,0<u.segs.length/\u.segs.length<=3/\vM g u.segs=0
 one: ∀(k:Nat) u,us[k]? =some u->∀v∈us.take k,(v.graph==u.graph)=false
def OX(g:List Phon)(nm:ByteArray)(us:List Unt)(h:OrA g nm us):
  DCalls pP 295 [.agg (qj g),.agg [.c (ls nm),.c (.sl 2 (us.map Unt.enc)),.c (.sl 1 [])]] (dv (li 0)):=by
 have qi:=qo;have hN:=U3 nm h.nm;have hL:=Lj nm us;have hu:=h.few;have hd:decide ((100:Int)<(us.length:Int))=false:=og;replace h:Kp _:=⟨h⟩;refine dX (N:=64) (rs:=[.tmp 4]) qg func295 ?_;refine gB ?_;refine lq us [2,3,18,19] [2,3] 20 ?_ ?_
 ·intro k u hx hk hm qs qf hw _;have hP:=UO u.graph (h.1.lab u hm).1 (h.1.lab u hm).2;obtain⟨s1,s2,s3⟩:=h.1.seg u hm;have hW:=s6 g u.segs;rw[s3]at hW;have d1:((u.segs.length:Int)==0)=false:=og;have d2:decide ((3:Int)<(u.segs.length:Int))=false:=og;obtain⟨ut,hut,Ta,S9⟩: ∃ut:List Unt,(us.map Unt.enc).take k=ut.map Unt.enc/\ut.length<=1048576/\∀v∈ut,(v.graph==u.graph)=false:=⟨us.take k,jv.symm,by rw[ym];omega,h.1.one k u hx⟩;have hz:=wM k;have bw:=Nat.le_of_lt hk;replace S9:Kp _:=⟨S9⟩;clear hm qs s1 s2 s3;simp only[qj]at hW;refine gB ?_;refine lp ut [2,3,6,18,19,20,32,33] [2,3,6] (fun j=>[(34,dv (li j))]) (fun _=>[]) (fun _=>True) trivial ?_ ?_
  ·intro j v Jm fy LJ LG Zk rG _;have qH:=S9.1 v LJ;clear LJ LG;exact gA
  intro Zk _;exact gA
 intro qf _;exact gA
abbrev pl61:Dl.PL:=fun|6=> Dl.ll 0 8 []|_=>[]
def Kn(g:List Phon)(r:Rul)(h1:r.src.length<=1000000)(h2:r.dst.length<=1000000)(e0:((r.src.length:Int)==0)=false)(e1:r.dst.length=r.src.length)(e2:r.src.any (oU g)=false)(e3:(r.dst.any fun n=> !(n==0)&&oU g n)=false)
  (e4:(S.usort r.src).length=r.src.length) (e5:r.left.length<=2) (e6:r.right.length<=2):DCalls pP 61 [.agg (qj g),.agg r.row] (dv (li 0)):=by
 have qi:=qo;have hC1:=CP (oU g) 119 [.pt [.sl 2 (g.map Phon.enc)]] r.src (fun d _=>Of g d) oa;have hC2:=CP (fun n=> !(n==0)&&oU g n) 121 [.pt [.fn 119 [.pt [.sl 2 (g.map Phon.enc)]]]] r.dst (fun d _=>Xt g d) oa;have hS:=sorted_D r.src h1;rw[e2]at hC1;rw[e3]at hC2;have f1:((r.dst.length:Int)!=(r.src.length:Int))=false:=og;have f2:decide (((S.usort r.src).length:Int)<(r.src.length:Int))=false:=og;have f3:decide ((2:Int)<(r.left.length:Int))=false:=og;have f4:decide ((2:Int)<(r.right.length:Int))=false:=og;clear e1 e2 e3 e4 e5 e6 h1 h2;generalize S.usort r.src=us at*
 simp only[Rul.row];refine NCalls.det (R:=fun r=>r=dv (li 0)) ?_ (fun _ h=>h);refine nX (N:=48) (rs:=[.tmp 4]) pl61 func61 ?_;refine gB ?_;refine CallC.sub (s':=kn 48 [(3,.one (.bx 3 6 0 0)),(4,dv (li 0)),(5,dv (.pt [.fn 119 [.pt [.sl 2 (g.map Phon.enc)]]])),(21,dv (.sl 1 (ints r.src))),(22,dv (.fn 119 [.pt [.sl 2 (g.map Phon.enc)]]))] (ml [(3,[[.c (.sl 1 (ints r.src)),.c (.sl 1 (ints r.dst)),.c (.sl 2 (r.left.map Lnk.enc)),.c (.sl 2 (r.right.map Lnk.enc)),.c (lb r.beg),.c (lb r.fin)]])]))
  (DS.Sub.trans (QK 2 [.sl 2 (g.map Phon.enc)] oh oq) (DS.Sub.trans (QK 5 [.fn 119 [.pt [.sl 2 (g.map Phon.enc)]]] oh oq) (qw rfl oq oq))) rfl ?_
 repeat' first|refine kx hC1 ?_|refine kx hC2 ?_|refine kx hS ?_|refine gQ ?_|exact gU|refine gS ?_|exact gT|(first|apply xc|apply gf|apply gt)<;>intro hc
end
end Go.Proofs.YtobpcppcjdnkmaaGreat.A
namespace Go.Proofs.YtobpcppcjdnkmaaGreat
open Go.Proofs.Tryz
open Go.Dl
attribute [local irreducible] DW DCalls ECalls NCalls wk IW
section
attribute [local go_sem] vp Sns.enc Sns.row Ent.enc Ent.row qj Lnk.enc Lnk.row
theorem lM(s:DS)(n sz:Nat)(cs:List (List Dl.C)):(s.frz n sz cs).n=s.n:=rfl
attribute [local go_sem] lM
def qam(s:ByteArray):NCalls pP 331 [dv (ls s)] (zJ True):=by
 have qi:=qo;cases h1:decide ((200:Int)<(s.size:Int));rotate_left
 ·refine nX (N:=32) (rs:=[.tmp 2]) qg func331 ?_;exact gA
 have hs:s.size<=200:=og;have hP:=Ep s oa;have dB:s.data.toList.length=s.size:=oh;replace dB:Kp _:=⟨dB⟩;clear qi;refine nX (N:=32) (rs:=[.tmp 2]) qg func331 ?_;refine gB ?_;refine qft ?_ hP;rintro _ ⟨b,rfl⟩;clear hP h1;cases b
 ·exact gA
 refine gB ?_;refine lq s.data.toList [0,17] [] 18 ?_ ?_ (qi:=by have:=qo;have:=dB.h;omega)
 ·intro k e he hk hm qs qf hw _;rw[dB.h]at qf;clear hm qs;exact gA
 intro qf _;rw[dB.h]at qf ⊢;exact gA
def Uo(xs:List Sns)(s:Sns)(hl:xs.length<=1048576)(hg:vm s.gloss=true):NCalls pP 326 [dv (.sl 2 (xs.map Sns.enc)),.agg s.row] (zJ True):=by
 have h1:=VZ s.gloss hg;have h2:=qam s.txt;have h3:=R7 s xs (by have:=qo;omega);generalize HM xs s.gloss=b at*
 simp only[Sns.enc,Sns.row]at h3 ⊢;refine nX (N:=19) (rs:=[.tmp 4]) qg func326 ?_;repeat' first|refine gQ ?_|exact gU|(refine eH ?_<;>intro er eN)|(refine dM ?_<;>intro bo eO)|refine gS ?_|exact gT|(first|apply xc|apply gf|apply gt)<;>intro hc
 refine CallC.frz 3 [ls s.gloss,ls s.txt] oh oe ?_;exact gA
abbrev pl321:Dl.PL:=fun|12=> Dl.ll 0 5 [(5,.step),(6,.light)]|_=>[]
def NX(e:Ent)(hl:e.senses.length<=1048576)(hg: ∀s∈e.senses,vm s.gloss=true):NCalls pP 321 [.agg e.row] (zJ True):=by
 have qi:=qo;have hI:=eK e.main;generalize co e.main=b at*
 refine nX (N:=55) (rs:=[.tmp 2]) pl321 func321 ?_;repeat' first|refine gQ ?_|exact gU|(refine eH ?_<;>intro er eN)|(refine dM ?_<;>intro bo eO)|refine gS ?_|exact gT|(first|apply xc|apply gf|apply gt)<;>intro hc
 all_goals
  refine lq e.senses [1,38,39] [1] 40 ?_ ?_
  ·intro k s hx hk hm qs qf hw _;obtain⟨ut,hut,Ta⟩: ∃ut:List Sns,(e.senses.map Sns.enc).take k=ut.map Sns.enc/\ut.length<=1048576:=⟨e.senses.take k,jv.symm,by rw[ym];omega⟩;have hz:=wM k;have bw:=Nat.le_of_lt hk;have hC:=Uo ut s Ta (hg s hm);simp only[Sns.row]at hC;clear hm qs hg;exact gA
  intro qf _;exact gA
def RK(g:List Phon)(e:Ent)(hl:e.senses.length<=1048576)(hk:e.links.length<=1048576)(hr:e.refs.length<=1048576)(hg: ∀s∈e.senses,vm s.gloss=true):NCalls pP 316 [.agg (qj g),.agg e.row] (zJ True):=by
 have h0:=eK e.id;have h1:=Jv g e;have h2:=NX e hl hg;have h3:=Vb e hk;have h4:=qaK e hr;generalize co e.id=b at*
 generalize eR g e=b1 at*
 clear hg hk hr;simp only[Ent.row,qj]at h1 h2 h3 h4 ⊢;refine nX (N:=30) (rs:=[.tmp 4]) qg func316 ?_;exact gA
attribute [local go_sem] vp Ent.enc Ent.row qj lM
abbrev pl315:Dl.PL:=fun|9=> Dl.ll 0 13 []|_=>[]
def qbs(g:List Phon)(l:List Ent)(hl:l.length<=1000000)(hs: ∀e∈l,e.senses.length<=1048576/\e.links.length<=1048576/\e.refs.length<=1048576/\∀s∈e.senses,vm s.gloss=true):
  NCalls pP 315 [.agg (qj g),dv (.sl 8 (l.map Ent.enc))] (zJ True):=by
 have qi:=qo;replace hs:Kp _:=⟨hs⟩;refine nX (N:=64) (rs:=[.tmp 4]) pl315 func315 ?_;refine gB ?_;intro hc;refine lq l [2,3,14,15] [2,3] 16 ?_ ?_
 ·intro k e hx hk hm qs qf hw _;obtain⟨h1,h2,h4,h3⟩:=hs.1 e hm;have hC:=RK g e h1 h2 h4 h3;simp only[Ent.row,qj]at hC;clear hm qs h1 h2 h3 h4;rcases jC k with Z5|Z5
  ·have hz:decide ((0:Int)<(k:Int))=false:=by grind
   clear Z5;exact gA
  ·have hz:decide ((0:Int)<(k:Int))=true:=by grind
   obtain⟨p,hp⟩: ∃p,l[k - 1]? =some p:=⟨_,wa oa⟩;have AY:aD .i64 ((k:Int) - 1)=((k - 1:Nat):Int):=by rw[wrap_i64 oa oa];omega
   clear Z5;exact gA
 intro qf _;repeat' first|refine gQ ?_|exact gU|(refine eH ?_<;>intro er eN)|(refine dM ?_<;>intro bo eO)|refine gS ?_|exact gT|(first|apply xc|apply gf|apply gt)<;>intro hc
 refine xl (Q3 3 [.sl 8 (l.map Ent.enc)] oh oe ?_);refine Q3 8 [.fn 317 [.pt [.sl 8 (l.map Ent.enc)]]] oh oe (xw (N:=64) pl315 ?_);refine lq l [8,42,43] [] 44 ?_ ?_
 ·intro k e hx hk hm qs qf hw _;obtain⟨h1,h2,h4,h3⟩:=hs.1 e hm;have hM:=Pb l e.main oa;have hA:=CN 318 [.pt [.fn 317 [.pt [.sl 8 (l.map Ent.enc)]]]] (fun x=> !Zd l x.tgt) e.links (fun x _=>U9 l x oa) h2;generalize (e.links.any fun x=> !Zd l x.tgt)=b1 at*
  generalize (!Zd l e.main)=b2 at*
  clear hm qs h1 h2 h3 h4;exact gA
 intro qf _;exact gA
end
end Go.Proofs.YtobpcppcjdnkmaaGreat
namespace Go.Proofs.YtobpcppcjdnkmaaGreat.A
open Go.Proofs.Tryz
open Go.Dl
attribute [local irreducible] DW DCalls ECalls NCalls wk IW
section
attribute [local go_sem] vp qj Stp.enc Stp.row Sns.enc Sns.row Ent.enc Ent.row Lnk.enc Lnk.row lM
def qaq{x y:Stp}(h:x≠y):(x.src==y.src&&(x.cls==y.cls&&x.dst==y.dst))=false:=by rw[Bool.eq_false_iff];intro e;apply h;cases x;cases y;simpa using e
abbrev pl313:Dl.PL:=fun|4=> Dl.ll 0 6 []|_=>[]
def PG(l:List Stp)(x:Stp)(hl:l.length<=1048576)(hn: ∀y∈l,x≠y):DCalls pP 313 [dv (.sl 3 (l.map Stp.enc)),.agg x.row] (dv (li (-1))):=by
 have qi:=qo;replace hn:Kp _:=⟨hn⟩;refine dX (N:=19) (rs:=[.tmp 4]) pl313 func313 ?_;refine gB ?_;refine lq l [0,3,7] [3] 8 ?_ ?_
 ·intro k y hx hk hm qs qf hw _;have he:=qaq (hn.1 y hm);clear hm qs;exact gA
 intro qf _;exact gA
def Sb(l:List Stp)(x:Stp)(hl:l.length<=1048576)(hn: ∀y∈l,x≠y):DCalls pP 312 [dv (.sl 3 (l.map Stp.enc)),.agg x.row] (dv (lb false)):=by have hI:=PG l x hl hn;simp only[Stp.row]at hI ⊢;clear hn;refine dX (N:=9) (rs:=[.tmp 4]) qg func312 ?_;exact gA
structure TaA(n:Int)(st:List Stp)(fin:List Int):Prop where
 n1:1<=n
 n2:n<=24
 few:st.length<=200
 stp: ∀x∈st,(0<=x.src/\x.src<n)/\(0<=x.dst/\x.dst<n)/\1<=x.cls/\x.cls<=20
 one: ∀(k:Nat) x,st[k]? =some x->∀y∈st.take k,x≠y
 fin: ∃q,fin= [q]/\0<=q/\q<n
abbrev pl310:Dl.PL:=fun|13=> Dl.ll 0 5 [(5,.step)]|19=> Dl.ll 0 12 []|_=>[]
def NC(n:Int)(st:List Stp)(fin:List Int)(h:TaA n st fin):DCalls pP 310 [.agg [.c (li n),.c (.sl 3 (st.map Stp.enc)),.c (.sl 1 (ints fin))]] (dv (li 0)):=by
 have qi:=qo;have hT:=fun q=>Xh q n (.sl 3 (st.map Stp.enc)) (.sl 1 (ints fin));have pj:decide (n<1)=false:=by have:=h.n1;simp;omega
 have MJ:decide (24<n)=false:=by have:=h.n2;simp;omega
 have hf:=h.few;have hd:decide ((200:Int)<(st.length:Int))=false:=og;obtain⟨q0,hq,q1,q2⟩:=h.fin;have ht0:(decide (0<=q0)&&decide (q0<n))=true:=og;replace hT:Kp _:=⟨hT⟩;replace h:Kp _:=⟨h⟩;subst hq;clear q1 q2;refine NCalls.det (R:=fun r=>r=dv (li 0)) ?_ (fun _ h=>h);refine nX (N:=88) (rs:=[.tmp 2]) pl310 func310 ?_;refine gB ?_;refine xl (Q3 1 [li n,.sl 3 (st.map Stp.enc),.sl 1 (ints [q0])] oh oe (xw (N:=88) pl310 ?_));refine lq st [1,3,23,24] [] 25 ?_ ?_
 ·intro k y hx hk hm qs qf hw _;have h1:=hT.1 y.src;have h2:=hT.1 y.dst;obtain⟨g1,g2,g3,g4⟩:=h.1.stp y hm;have b1:(decide (0<=y.src)&&decide (y.src<n))=true:=by simp[g1]
  have b2:(decide (0<=y.dst)&&decide (y.dst<n))=true:=by simp[g2]
  have b3:decide (y.cls<1)=false:=og;have b4:decide (20<y.cls)=false:=og;rw[b1]at h1;rw[b2]at h2;obtain⟨ut,hut,Ta,S9⟩: ∃ut:List Stp,(st.map Stp.enc).take k=ut.map Stp.enc/\ut.length<=1048576/\∀z∈ut,y≠z:=⟨st.take k,jv.symm,by rw[ym];omega,h.1.one k y hx⟩;have hz:=wM k;have bw:=Nat.le_of_lt hk;have hC:=Sb ut y Ta S9;simp only[Stp.row]at hC;clear hm qs b1 b2 S9 g1 g2 g3 g4;repeat' first|refine kx h1 ?_|refine kx h2 ?_|refine gQ ?_|exact gU|refine gS ?_|exact gT|(first|apply xc|apply gf|apply gt)<;>intro hc
  all_goals exact qJ
 intro qf _;refine gB ?_;refine xl (u9 (xw (N:=88) pl310 ?_));refine gB ?_;refine lq [q0] [3,77,78] [] 79 ?_ ?_ (qi:=by have:=qo;simp;omega)
 ·intro k y hx hk hm qs qf hw _;have:y=q0:=og;subst this;have Z5:k=0:=og;subst Z5;have w1:aD .i64 1=1:=oo;have h1:=hT.1 y;rw[ht0]at h1;clear hm qs;exact gA
 intro qf _;exact gA
attribute [local go_sem] vp qj Sns.enc Sns.row Ent.enc Ent.row Lnk.enc Lnk.row lM
def V0(s:ByteArray)(hA:EM s=true)(hl:vm s=true)(hp:S5 s=false):DCalls pP 330 [dv (ls s)] (dv (lb true)):=by
 have hL:=Ht hA;have QC:F3 s=true:=by simp only[vm,we]at hl;simp_all
 have hs:s.size<=32:=by simp only[vm,we]at hl;simp_all;omega
 have hC:=iK s QC hs;rw[hp]at hC;unfold sp2 at hC;clear QC hl;refine dX (N:=10) (rs:=[.tmp 2]) qg func330 ?_;exact gA
def qan:DCalls pP 331 [dv (ls ⟨#[]⟩)] (dv (li 0)):=by
 have qi:=qo;have hP:=Er ⟨#[]⟩ oo oo;have vo:(({ data:= #[] }:ByteArray).size)=0:=rfl;refine NCalls.det (R:=fun r=>r=dv (li 0)) ?_ (fun _ h=>h);refine nX (N:=32) (rs:=[.tmp 2]) qg func331 ?_;refine gB ?_;refine qft ?_ hP;rintro _ rfl;clear hP;refine gB ?_;refine lq ([]:List UInt8) [0,17] [] 18 ?_ ?_ (qi:=by have:=qo;simp;try omega)
 ·simp
 intro qf _;exact gA
def Up(s:Sns)(hA:EM s.gloss=true)(hl:vm s.gloss=true)(hp:S5 s.gloss=false)(ht:s.txt=⟨#[]⟩):DCalls pP 326 [dv (.sl 2 []),.agg s.row] (dv (li 0)):=by have h1:=V0 s.gloss hA hl hp;have h2:=qan;have h3:=R7 s [] oo;rw[show HM [] s.gloss=false from rfl]at h3;rw[<-ht]at h2;simp only[Sns.enc,Sns.row,wm]at h3 ⊢;clear ht;refine dX (N:=19) (rs:=[.tmp 4]) qg func326 ?_;refine gB ?_;refine CallC.frz 3 [ls s.gloss,ls s.txt] oh oe ?_;exact gA
structure EnA(g:List Phon)(e:Ent):Prop where
 id:co e.id=true
 forms:eR g e=0
 main:e.main=0
 own:(e.main==e.id)=false
 links:e.links= []
 refs:e.refs= []
 sens: ∃s,e.senses= [s]/\EM s.gloss=true/\vm s.gloss=true/\S5 s.gloss=false/\s.txt=⟨#[]⟩
abbrev pl321:Dl.PL:=fun|12=> Dl.ll 0 5 [(5,.step),(6,.light)]|_=>[]
def NY(g:List Phon)(e:Ent)(h:EnA g e):DCalls pP 321 [.agg e.row] (dv (li 0)):=by
 have qi:=qo;obtain⟨s,hs,s1,s2,s3,s4⟩:=h.sens;have hC:=Up s s1 s2 s3 s4;have ho:=h.own;have h0:=h.main;obtain⟨id,form,cls,alts,main,senses,links,refs⟩:=e;simp only at hs h0 ho;subst hs;subst h0;simp only[Ent.row,Sns.row]at hC ⊢;clear h s1 s2 s3 s4;refine NCalls.det (R:=fun r=>r=dv (li 0)) ?_ (fun _ h=>h);refine nX (N:=55) (rs:=[.tmp 2]) pl321 func321 ?_;refine gB ?_;refine lq [s] [1,38,39] [1] 40 ?_ ?_ (qi:=by have:=qo;simp;try omega)
 ·intro k x hx hk hm qs qf hw _;have Z5:k=0:=og;subst Z5;have w1:aD .i64 1=1:=oo;have:x=s:=og;subst this;clear hm qs;exact gA
 intro qf _;exact gA
def RL(g:List Phon)(e:Ent)(h:EnA g e):DCalls pP 316 [.agg (qj g),.agg e.row] (dv (li 0)):=by have h0:=eK e.id;have h1:=Jv g e;have h2:=NY g e h;have h3:=Vc e h.links;have h4:=qaL e h.refs;rw[h.id]at h0;rw[h.forms]at h1;clear h;simp only[Ent.row,qj]at h1 h2 h3 h4 ⊢;refine dX (N:=30) (rs:=[.tmp 4]) qg func316 ?_;exact gA
abbrev pl315:Dl.PL:=fun|9=> Dl.ll 0 13 []|_=>[]
def qbt(g:List Phon)(e:Ent)(h:EnA g e):DCalls pP 315 [.agg (qj g),dv (.sl 8 [e.enc])] (dv (li 0)):=by
 have qi:=qo;have hC:=RL g e h;have h0:=h.main;have hL:=h.links;clear h;obtain⟨id,form,cls,alts,main,senses,links,refs⟩:=e;simp only at h0 hL;subst h0;subst hL;have hA:=CN 318 [.pt [.fn 317 [.pt [.sl 8 [Ent.enc ⟨id,form,cls,alts,0,senses,[],refs⟩]]]]] (fun x=>false) [] (fun x hx=>by cases hx) oo;simp only[Ent.row,Ent.enc,qj,List.any_nil,wm]at hC hA ⊢;refine NCalls.det (R:=fun r=>r=dv (li 0)) ?_ (fun _ h=>h);refine nX (N:=64) (rs:=[.tmp 4]) pl315 func315 ?_;refine gB ?_;refine lq [(⟨id,form,cls,alts,0,senses,[],refs⟩:Ent)] [2,3,14,15] [2,3] 16 ?_ ?_ (qi:=by have:=qo;simp;try omega)
 ·intro k x hx hk hm qs qf hw _;have Z5:k=0:=og;subst Z5;have w1:aD .i64 1=1:=oo;have:x=⟨id,form,cls,alts,0,senses,[],refs⟩:=og;subst this;clear hm qs hA;exact gA
 intro qf _;refine gB ?_;refine xl (Q3 3 [.sl 8 [[li id,.sl 1 (ints form),li cls,.sl 1 (alts.map bB),li 0,.sl 2 (senses.map Sns.enc),.sl 2 [],.sl 2 (refs.map Lnk.enc)]]] oh oe ?_);refine Q3 8 [.fn 317 [.pt [.sl 8 [[li id,.sl 1 (ints form),li cls,.sl 1 (alts.map bB),li 0,.sl 2 (senses.map Sns.enc),.sl 2 [],.sl 2 (refs.map Lnk.enc)]]]]] oh oe (xw (N:=64) pl315 ?_);refine lq [(⟨id,form,cls,alts,0,senses,[],refs⟩:Ent)] [8,42,43] [] 44 ?_ ?_ (qi:=by have:=qo;simp;try omega)
 ·intro k x hx hk hm qs qf hw _;have Z5:k=0:=og;subst Z5;have w1:aD .i64 1=1:=oo;have:x=⟨id,form,cls,alts,0,senses,[],refs⟩:=og;subst this;clear hm qs;exact gA
 intro qf _;exact gA
end
end Go.Proofs.YtobpcppcjdnkmaaGreat.A
namespace Go.Proofs.YtobpcppcjdnkmaaGreat.W
open Go.Proofs.Tryz
open Go.Dl
attribute [local irreducible] DW DCalls ECalls wk IW
def Ey(xs:List Int)(n:Int)(hx:xs.length<=1048576):DCalls pP 71 [dv (.sl 1 (ints xs)),dv (li n)] (dv (lb (xs.any fun x=>n==x))):=Co xs n hx
def FF(xs:List Int)(n:Int)(hx:xs.length<=1048576):DCalls pP 131 [dv (.sl 1 (ints xs)),dv (li n)] (dv (lb (xs.any fun x=>n==x))):=JI xs n hx
abbrev oP:Dl.PL:=fun|4=> Dl.ll 0 6 []|_=>[]
def Lu(k:Int):DCalls pP 345 [dv (li k)] (dv (li (inv k))):=by
 refine kd (N:=16) (rs:=[.tmp 2]) func345 ?_
 (repeat' first|(first|refine qC ?_|apply kU|apply qb);simp only[go_sem]|apply kh<;>intro qe)
 all_goals
  congr 3;unfold inv;(repeat' split)<;>first|rfl|(exfalso;simp only[aq,aA,ne_eq]at *;first|omega|simp_all)|(simp only[aq,aA,ne_eq]at *;omega)
def qbG(l:List Lnk)(x:Lnk)(hl:l.length<=maxLen):DCalls pP 350 [dv (.sl 2 (l.map Lnk.enc)),.agg x.row] (dv (li (zG (fun y=>decide (x=y)) l))):=by
 refine kd (N:=19) (rs:=[.tmp 4]) func350 ?_
 (repeat(first|apply qk|apply qm|((first|refine qC ?_|refine zU oP ?_|apply qt|apply qv);simp only[go_sem,Lnk.row])))
 refine vq l (fun k=>kn 19 [(0,dv (.sl 2 (l.map Lnk.enc))),(3,.one (.bx 3 2 0 0)),(7,dv (li l.length)),(8,dv (li k))] (ml [(3,[x.row])])) (fun k=>∀y∈l.take k,decide (x=y)=false) hl (km oD) oh ?_ ?_
 ·intro k y hy hk hm qs qf hw hi;have he:=lnk_eq x y
  (repeat' first|(first|refine qC ?_|refine zU oP ?_|apply kU|apply qb);simp only[go_sem,qf,hw,hy,he,Lnk.enc,Lnk.row]|apply kh<;>intro qe)
  ·rw[z8 hy hi qe]
  ·exact⟨qG qs hi qe,Zb⟩
 ·intro qf hi;rw[wc]at hi;refine wB oP ?_;rw[z7 hi]
def FE(l:List Lnk)(x:Lnk)(hl:l.length<=maxLen):DCalls pP 348 [dv (.sl 2 (l.map Lnk.enc)),.agg x.row] (dv (lb (l.any fun y=>decide (x=y)))):=by
 have h:=qbG l x hl;simp only[Lnk.row]at h;refine kd (N:=9) (rs:=[.tmp 4]) func348 ?_
 (repeat' first|(first|refine qC ?_|refine kx h ?_|apply kU|apply qb);simp only[go_sem,cn,Lnk.row]|apply kh<;>intro qe)
def qfE(e:Ent)(x:Lnk)(hl:e.links.length<=maxLen):DCalls pP 346 [.agg e.row,.agg x.row] (dv (lb (qcj e x))):=by
 have h:=FE e.links x hl;simp only[Lnk.row]at h;refine kd (N:=9) (rs:=[.tmp 4]) func346 ?_
 (repeat' first|(first|refine qC ?_|refine kx h ?_|apply kU|apply qb);simp only[go_sem,Ent.row,Lnk.row]|apply kh<;>intro qe)
 rfl
def L5(l:List Ent)(kind:Int):Nat->Int->List Int->List Int
 | 0,_,out=>out
 | n+1,id,out=>(Zl l id).1.links.foldl (dF l kind (L5 l kind n)) out
def uQ(l:List Ent)(kind:Int): ∀(n:Nat) (id:Int) (out:List Int),Grow l out (L5 l kind n id out)
 | 0,_,out=>Grow.refl l out
 | n+1,id,out=>pm (uQ l kind n) _ out
def uT{l:List Ent}(h:xK l)(id:Int):(Zl l id).1.links.length<=1000000:=by
 unfold Zl;split
 ·rename_i e he;exact h.2 e (jD he)
 ·simp[cS]
def vi(l:List Ent)(kind:Int)(a b:Nat):List T:=[.c (.pt [.sl 8 (l.map Ent.enc)]),.c (.pt [li kind]),.bx a 1 0 0,.bx b 1 0 0]
def vD(l:List Ent)(kind:Int)(out:List Int)(a b:Nat):vT:=ml [(a,[[.own a 1 (ints out)]]),(b,[[.fv 349 (vi l kind a b)]])]
def xT{l:List Ent}{kind:Int}{out:List Int}{a b:Nat}(Fe:a≠b){bx:vT}(h1:bx (a+NB)=some [[.own (a+NB) 1 (ints out)]])(h2:bx (b+NB)=some [[.fv 349 (vi l kind (a+NB) (b+NB))]]):
  ∀k r,vD l kind out (a+NB+NB) (b+NB+NB) k=some r->vf bx [a+NB,b+NB] k=some r:=fun k r h=>by
 have Rb:(b=a)=False:=og;have hab':(a=b)=False:=og;by_cases hk:k=a+NB+NB
 ·subst hk;simp +decide only[go_sem,vD]at h;simp +decide only[go_sem,vf,h1];exact h
 ·by_cases fy:k=b+NB+NB
  ·subst fy;simp +decide only[go_sem,vD,Rb,vi]at h;simp +decide only[go_sem,vf,h2,vi];exact h
  ·simp +decide only[go_sem,vD,hk,fy]at h
def tL{l:List Ent}{kind:Int}{out:List Int}{bx:vT}(h1:bx 7=some [[.own 7 1 (ints out)]])(h2:bx 8=some [[.fv 349 (vi l kind 7 8)]]):
  ∀k r,vD l kind out (7+NB) (8+NB) k=some r->vf bx [7,8] k=some r:=fun k r h=>by
 by_cases hk:k=7+NB
 ·subst hk;simp +decide only[go_sem,vD]at h;simp +decide only[go_sem,vf,h1];exact h
 ·by_cases fy:k=8+NB
  ·subst fy;simp +decide only[go_sem,vD,vi]at h;simp +decide only[go_sem,vf,h2,vi];exact h
  ·simp +decide only[go_sem,vD,hk,fy]at h
def nb_z:(NB=0)=False:=aC (by have:=qX;omega)
def pW(l:List Ent)(kind:Int)(rec:Int->List Int->List Int)(a b:Nat)(id:Int)(out:List Int):Prop:=
 ECalls pP 349 [dv (li id),dv (.pt [.sl 8 (l.map Ent.enc)]),dv (.pt [li kind]),.one (.bx (a+NB) 1 0 0),.one (.bx (b+NB) 1 0 0)] (vD l kind out (a+NB) (b+NB))
   (fun r H'=>r= .tup []/\H'=vD l kind (rec id out) (a+NB) (b+NB))
def ru(l:List Ent)(kind:Int)(hl:xK l)(m N:Nat)(ih: ∀a b id out,a≠b->free l out<N->out.length+free l out<=1000000->pW l kind (L5 l kind m) a b id out)(a b:Nat)(Fe:a≠b)(id:Int)(out:List Int)
  (hn:free l out<=N) (hb:out.length+free l out<=1000000):pW l kind (L5 l kind (m+1)) a b id out:=by
 unfold pW;have Rb:(b=a)=False:=og;have hab':(a=b)=False:=og;have E7:=uT hl id;have qi:=qo;have hg:=rK l id hl.1;have hdfs:L5 l kind (m+1) id out=(Zl l id).1.links.foldl (dF l kind (L5 l kind m)) out:=rfl;rw[hdfs];obtain⟨g,dC⟩: ∃g,g=(Zl l id).1:=⟨_,rfl⟩;rw[<-dC]at hg E7 ⊢;refine Qn (N:=53) (rs:=[]) om func349 rfl rfl rfl oh ?_
 (repeat(first|apply qk|apply qm|((first|refine qC ?_|apply qt|apply qv);simp only[go_sem,vi,vD])))
 (first|refine kx hg ?_);simp +decide only[go_sem,Ent.row]
 (repeat(first|apply qk|apply qm|((first|refine qC ?_|apply qt|apply qv);simp only[go_sem])))
 refine eU g.links (fun k=>kn 53 [(1,dv (.pt [.sl 8 (l.map Ent.enc)])),(2,dv (.pt [li kind])),(3,.one (.bx (a+NB) 1 0 0)),(4,.one (.bx (b+NB) 1 0 0)),(19,dv (.sl 2 (g.links.map Lnk.enc))),(20,dv (li g.links.length)),(21,dv (li k))] (vD l kind ((g.links.take k).foldl (dF l kind (L5 l kind m)) out) (a+NB) (b+NB))) oa (km (by simp +decide only[go_sem,vi,Rb,hab',wy,yj])) ?_ ?_
 ·intro k x hx hk hm qs qf hw;obtain⟨cur,hcur⟩: ∃cur,cur=(g.links.take k).foldl (dF l kind (L5 l kind m)) out:=⟨_,rfl⟩;have Q5:(g.links.take (k+1)).foldl (dF l kind (L5 l kind m)) out=dF l kind (L5 l kind m) cur x:=og;have hgr:Grow l out cur:=by rw[hcur];exact pm (uQ l kind m) _ _
  rw[<-hcur,Q5];have QG:cur.length<=1000000:=by have:=hgr.2;omega
  have Gb:=FF cur x.tgt oa;have qdZ:=rK l x.tgt hl.1;cases h1:x.kind !=kind
  ·cases h2:cur.any fun y=>x.tgt==y
   ·cases h3:(Zl l x.tgt).2
    ·rw[h3]at qdZ;obtain⟨g2,hge2⟩: ∃g2,g2=(Zl l x.tgt).1:=⟨_,rfl⟩;rw[<-hge2]at qdZ
     (repeat' first|(first|refine qC ?_|refine kx Gb ?_|refine kx qdZ ?_|apply kU|apply qb);simp only[go_sem,qf,hw,hx,h1,h2,Lnk.enc,Ent.row,vi,vD,hab']|apply kh<;>intro qe)
     exact km (by simp +decide only[go_sem,dF,h1,h2,h3,Rb,hab'])
    ·rw[h3]at qdZ;have Tg:=Bf h3 h2;have ML:=hgr.1;have P8:=hgr.2;have hb8:(cur.length+1)*8<=140737488355328:=oa;obtain⟨g2,hge2⟩: ∃g2,g2=(Zl l x.tgt).1:=⟨_,rfl⟩;rw[<-hge2]at qdZ
     (repeat' first|(first|refine qC ?_|refine kx Gb ?_|refine kx qdZ ?_|apply kU|apply qb);simp only[go_sem,qf,hx,h1,h2,hb8,Lnk.enc,Ent.row,vi,vD,Rb,hab']|apply kh<;>intro qe)
     have hi:=ih (a+NB) (b+NB) x.tgt (cur++[x.tgt]) oa oa ot;unfold pW at hi;have hia:ints (cur++[x.tgt])=ints cur++[[li x.tgt]]:=oh;refine CallC.eff [a+NB,b+NB] hi rfl (DLeL.of_eq oe) (xT Fe (by simp +decide only[go_sem,hab',hia]) (by simp +decide only[go_sem,Rb,vi])) ⟨fun n hn=>?_,fun n hn=>?_⟩ ?_
     ·simp only[wJ,w9,ax]at hn;rcases hn with rfl|rfl<;>exact mK (y7 _ _)
     ·injection hn with hn;subst hn
      have:=qX;exact⟨ot,oa⟩
     rintro r H' ⟨rfl,rfl⟩;simp +decide only[go_sem,vD,vi]
     (repeat' first|(first|refine qC ?_|apply kU);simp only[go_sem,hw]|apply kh<;>intro qe)
     exact km (by simp +decide only[go_sem,qF,dF,h1,h2,h3,Rb,hab',nb_z])
   ·(repeat' first|(first|refine qC ?_|refine kx Gb ?_|apply kU|apply qb);simp only[go_sem,qf,hw,hx,h1,h2,Lnk.enc,vi,vD,hab']|apply kh<;>intro qe)
    exact km (by simp +decide only[go_sem,dF,h1,h2,Rb,hab'])
  ·(repeat' first|(first|refine qC ?_|refine kx Gb ?_|apply kU|apply qb);simp +decide only[go_sem,qf,hw,hx,h1,Lnk.enc,vi,vD]|apply kh<;>intro qe|((first|apply qy|apply qx)<;>(intro qe;simp +decide only[go_sem,qe,qf,hw,hx,h1,Lnk.enc,Ent.row,vi,vD,Rb,hab'])))
   exact km (by simp +decide only[go_sem,dF,h1,Rb,hab'])
 ·intro qf;rw[wc]
  (repeat'(first|apply qk|apply qm|((first|refine qC ?_|apply qt|apply qv);simp +decide only[go_sem,qf,vi,vD])|(apply qW;(simp +decide only[go_sem];rfl);all_goals(intro qe;try exact kz qe))|((first|apply qy|apply qx)<;>(intro qe;first|(exact ak qe oo)|(simp +decide only[go_sem,qe,qf,vi,vD,Rb,hab'])))))
  rfl
def Ed(l:List Ent)(kind:Int)(hl:xK l): ∀(n:Nat) (a b:Nat) (id:Int) (out:List Int),a≠b->free l out<=n->out.length+free l out<=1000000->pW l kind (L5 l kind (n+1)) a b id out
 | 0,a,b,id,out,Fe,h1,h2=>ru l kind hl 0 0 (fun _ _ _ _ _ h _=>ak h (Nat.not_lt_zero _)) a b Fe id out h1 h2
 | n+1,a,b,id,out,Fe,h1,h2=>ru l kind hl (n+1) (n+1) (fun a b id out Fe h1 h2=>Ed l kind hl n a b id out Fe oa h2) a b Fe id out h1 h2
def oO(l:List Ent)(id kind:Int):List Int:=L5 l kind (l.length+1) id []
def reachK(l:List Ent)(id kind:Int):List Int:=S.usort (oO l id kind)
def tN(l:List Ent)(id kind:Int):(oO l id kind).length<=l.length:=by
 have h:=(uQ l kind (l.length+1) id []).2;have h2:free l []<=l.length:=List.countP_le_length;simp only[oO]at*
 simp at h;omega
def IR(l:List Ent)(id kind:Int)(hl:xK l):DCalls pP 347 [dv (.sl 8 (l.map Ent.enc)),dv (li id),dv (li kind)] (dv (.sl 1 (ints (reachK l id kind)))):=by
 have P7:free l []<=l.length:=List.countP_le_length;have vG:=hl.1;have lF:=tN l id kind;refine kd (N:=15) (rs:=[.tmp 6]) func347 ?_;refine uB qg ?_;refine CallC.frz 3 [.sl 8 (l.map Ent.enc)] oh oe ?_;simp +decide only[go_sem];refine CallC.frz 5 [li kind] oh oe ?_;simp +decide only[go_sem];refine CallC.sub (Ka 7 0 0 7 1 [] (rows:=[[.ex 1 []]]) (r:=[.ex 1 []]) oe rfl rfl) rfl ?_;simp +decide only[go_sem];have hr:=Ed l kind hl l.length 7 8 id [] oo P7 ot;unfold pW at hr;refine CallC.eff [7,8] hr rfl (DLeL.of_eq oe) (tL oe (by simp +decide only[go_sem,vi])) (by constructor<;>simp[mid]) ?_;rintro r H' ⟨rfl,rfl⟩;simp +decide only[go_sem,vD,vi]
 (repeat' first|(first|refine qC ?_|refine kx (sorted_D (L5 l kind (l.length+1) id []) (by simp only[oO]at lF;omega)) ?_|apply kU|apply qb);simp only[go_sem,qF]|apply kh<;>intro qe)
 rfl
def tO(l:List Ent)(id kind:Int):(reachK l id kind).length<=l.length:=by
 have h1:=tN l id kind;have h2:=S.cptF_len (S.srt (oO l id kind)) none;have h3:=S.srt_len (oO l id kind);simp only[reachK,S.usort,S.cpt]at*
 omega
theorem qf2(xs:List Int)(n:Int):(xs.any fun x=>n==x)=decide (n∈xs):=og
abbrev zN:Dl.PL:=fun|20=> Dl.ll 0 6 ((6,.step)::Dl.ll 7 7 [(14,.step),(15,.light)])|_=>[]
def check_D(l:List Ent)(hl:MidE l):DCalls pP 344 [dv (.sl 8 (l.map Ent.enc))] (dv (li (chkF l (reachK l)))):=by
 have qi:=qo;have F7:=hl.1;refine kd (N:=71) (rs:=[.tmp 2]) func344 ?_
 (repeat(first|apply qk|apply qm|((first|refine qC ?_|refine zU zN ?_|apply qt|apply qv);simp only[go_sem])))
 refine vq l (fun k=>kn 71 [(0,dv (.sl 8 (l.map Ent.enc))),(12,dv (.sl 8 (l.map Ent.enc))),(13,dv (li l.length)),(14,dv (li k))] qA) (fun k=>∀e∈l.take k,We l e=none) oa kl oh ?_ ?_
 ·intro k e he hk hm qs qf hw hi;have Cn:=hl.2 e hm
  (repeat' first|(first|refine qC ?_|refine zU zN ?_|apply kU);simp only[go_sem,qf,he,Ent.enc]|apply kh<;>intro qe)
  refine vq e.links (fun m=>kn 71 [(0,dv (.sl 8 (l.map Ent.enc))),(12,dv (.sl 8 (l.map Ent.enc))),(13,dv (li l.length)),(14,dv (li k)),(4,.one (.bx 4 8 0 0)),(19,dv (.sl 2 (e.links.map Lnk.enc))),(20,dv (li e.links.length)),(21,dv (li m))] (ml [(4,[e.row])])) (fun m=>∀x∈e.links.take m,Fs l e x=none) oa (km (by simp +decide only[go_sem,Ent.row])) oh ?_ ?_
  ·intro m x hx Dc EY qbS Zk rG hj;have hI:=Lu x.kind;have hG:=rK l x.tgt oa;have hH:=qfE (Zl l x.tgt).1 ⟨inv x.kind,e.id⟩ (by have:=uT hl.small x.tgt;omega);simp only[Ent.row,Lnk.row]at hG hH;cases bO:decide (inv x.kind<0)
   ·cases hf:(Zl l x.tgt).2
    ·rw[hf]at hG
     (repeat' first|(first|refine qC ?_|refine zU zN ?_|refine kx hI ?_|refine kx hG ?_|refine kx hH ?_|apply kU|apply qb);simp only[go_sem,Zk,hx,bO,Lnk.enc,Ent.row]|apply kh<;>intro qe)
     exact(CS he hi hx hj (by rw[Fs,j7 (by simpa using bO),ae hf])).symm▸rfl
    ·rw[hf]at hG;cases hh:qcj (Zl l x.tgt).1 ⟨inv x.kind,e.id⟩
     ·rw[hh]at hH
      (repeat' first|(first|refine qC ?_|refine zU zN ?_|refine kx hI ?_|refine kx hG ?_|refine kx hH ?_|apply kU|apply qb);simp only[go_sem,Zk,hx,bO,Lnk.enc,Ent.row]|apply kh<;>intro qe)
      exact(CS he hi hx hj (by rw[Fs,j7 (by simpa using bO),j7 (by simp[hf]),ae hh])).symm▸rfl
     ·rw[hh]at hH
      (repeat' first|(first|refine qC ?_|refine zU zN ?_|refine kx hI ?_|refine kx hG ?_|refine kx hH ?_|apply kU|apply qb);simp only[go_sem,Zk,rG,hx,bO,Lnk.enc,Ent.row]|apply kh<;>intro qe)
      refine⟨qG qbS hj (by rw[Fs,j7 (by simpa using bO),j7 (by simp[hf]),j7 (by simp[hh])]),Zb⟩
   ·(repeat' first|(first|refine qC ?_|refine zU zN ?_|refine kx hI ?_|refine kx hG ?_|refine kx hH ?_|apply kU|apply qb);simp only[go_sem,Zk,hx,bO,Lnk.enc,Ent.row]|apply kh<;>intro qe)
    exact(CS he hi hx hj (by rw[Fs,ae (by simpa using bO)])).symm▸rfl
  ·intro Zk hj;rw[wc]at hj
   (repeat' first|(first|refine qC ?_|refine zU zN ?_|apply kU);simp only[go_sem,Zk,hw]|apply kh<;>intro qe)
   refine⟨qG qs hi (List.findSome?_eq_none_iff.2 hj),kl⟩
 ·intro qf hi;rw[wc]at hi;have hn:l.findSome? (We l)=none:=og;have hc: ∀b,l.any (ring (reachK l))=b->chkF l (reachK l)=if b then 17 else 0:=fun b hb=>by rw[chkF,hn];simp only[hb]
  (repeat' first|(first|refine qC ?_|refine zU zN ?_|apply kU);simp only[go_sem,qf]|apply kh<;>intro qe)
  refine vq l (fun k=>kn 71 [(0,dv (.sl 8 (l.map Ent.enc))),(48,dv (.sl 8 (l.map Ent.enc))),(49,dv (li l.length)),(50,dv (li k))] qA) (fun k=>∀e∈l.take k,ring (reachK l) e=false) oa kl oh ?_ ?_
  ·intro k e he hk hm qs qf hw hr;have MP:=IR l e.id 2 hl.small;have hR4:=IR l e.id 4 hl.small;have qd6:=Ey (reachK l e.id 2) e.id (by have:=tO l e.id 2;omega);have qd5:=Ey (reachK l e.id 4) e.id (by have:=tO l e.id 4;omega);rw[qf2]at qd6 qd5;cases h2:decide (e.id∈reachK l e.id 2)
   ·rw[h2]at qd6;cases h4:decide (e.id∈reachK l e.id 4)
    ·rw[h4]at qd5
     (repeat' first|(first|refine qC ?_|refine zU zN ?_|refine kx MP ?_|refine kx hR4 ?_|refine kx qd6 ?_|refine kx qd5 ?_|apply kU|apply qb);simp only[go_sem,qf,hw,he,Ent.enc]|apply kh<;>intro qe)
     exact⟨qG qs hr (by rw[ring,h2,h4];rfl),kl⟩
    ·rw[h4]at qd5
     (repeat' first|(first|refine qC ?_|refine zU zN ?_|refine kx MP ?_|refine kx hR4 ?_|refine kx qd6 ?_|refine kx qd5 ?_|apply kU|apply qb);simp only[go_sem,qf,he,Ent.enc]|apply kh<;>intro qe)
     rw[hc true (yK.2 ⟨e,hm,by rw[ring,h2,h4];rfl⟩)];rfl
   ·rw[h2]at qd6
    (repeat' first|(first|refine qC ?_|refine zU zN ?_|refine kx MP ?_|refine kx hR4 ?_|refine kx qd6 ?_|refine kx qd5 ?_|apply kU|apply qb);simp only[go_sem,qf,he,Ent.enc]|apply kh<;>intro qe)
    rw[hc true (yK.2 ⟨e,hm,by rw[ring,h2];rfl⟩)];rfl
  ·intro qf hr;rw[wc]at hr
   (repeat' first|(first|refine qC ?_|refine zU zN ?_|apply kU|apply qb);simp only[go_sem,qf]|apply kh<;>intro qe)
   rw[hc false (by simpa using hr)];rfl
end Go.Proofs.YtobpcppcjdnkmaaGreat.W
namespace Go.Proofs.YtobpcppcjdnkmaaGreat
open Go.Proofs.Tryz
open Go.Dl
variable {g:Lg}
attribute [local irreducible] DW DCalls ECalls NCalls wk IW
section
attribute [local go_sem] Ent.row
def bh(ys:List Ent):Nat->List T
 | 0=>[.c (.lit (.int .i64 0)),.ex 1 [],.c (.lit (.int .i64 0)),.ex 1 [],.c (.lit (.int .i64 0)),.ex 2 [],.ex 2 [],.ex 2 []]
 | k+1=>((ys[k]?).getD cS).row
def Ll(ys:List Ent)(k:Nat):(bh ys k).length=8:=by cases k<;>rfl
def Jg(ys:List Ent):Ent:=ys.getLast?.getD cS
def Po(r:Ren)(ys:List Ent)(k:Nat):T.trAll r (bh ys k)=bh ys k:=by
 cases k with
 | zero=>simp only[bh,go_sem]
 | succ k=>simp only[bh,go_sem]
def Dp(l:List Ent): ∀(f:Nat) (id:Int),(eh l f id).length<=f
 | 0,_=>wl _
 | f+1,id=>by
  rw[gH];split
  ·simp
  ·split
   ·simp
   ·simpa using Dp l f _
abbrev OH:Dl.PL:=fun|6=>[(0,.light),(1,.look []),(2,.step),(3,.light)]|_=>[]
def Vi(l:List Ent)(id:Int)(hl:l.length<=1000000):DCalls pP 353 [dv (.sl 8 (l.map Ent.enc)),dv (li id)] (.tup [.agg (Jg (eh l (l.length+1) id)).row,dv (li (eh l (l.length+1) id).length)]):=by
 have hn:=Dp l (l.length+1) id;have hW:=Xe l id;have hP:=Nc l id hl;generalize eh l (l.length+1) id=ys at*
 refine dX (N:=18) (rs:=[.cell 4 77,.tmp 5]) OH func353 ?_;simp -implicitDefEqProofs only[go_sem, *];refine CallC.eff [] hW rfl (DLeL.of_eq oe) (fun k r h=>by cases h) (by constructor<;>simp) ?_;rintro r H' ⟨rfl,rfl⟩;clear hW;simp -implicitDefEqProofs only[go_sem,qF,As,SI];refine iI (gf:=211) (caps:=[.c (.pt [.sl 8 (l.map Ent.enc)])]) (xs:=ys.map fun(e:Ent)=>[D.agg (Ent.row e)]) zi [6,7]
  (fun k (_:Unit)=>kn 18 [(4,.one (.bx 4 8 0 0)),(6,.one (.bx 6 8 0 0)),(7,.one (.bx 7 1 0 0))] (ml [(4,[bh ys 0]),(6,[bh ys k]),(7,[[.c (li k)]]),(11,[[.c .any]])])) (fun k _=>k<=ys.length) () (wM _) rfl 11 (.int .i64 id) oo oh (by simp +decide only[go_sem,qF]) (fun _ _=>oe) (by simp +decide only[go_sem,qF]) hP
  (sC rfl (by simp +decide only[go_sem,qF]) (by simp +decide only[go_sem,qF,bh,Int.natCast_zero])) (fun _ _=>rfl) (by show 18<=1000;decide) (fun p hp=>by rw[yp.1 hp];show 12<18;decide) (fun ds hd=>by obtain⟨e,_,rfl⟩:=wN.1 hd;rfl) ⟨fun n _=>Qt n,fun x h=>by cases h⟩ ?_ ?_
 ·intro k ds _ hk hi;obtain⟨e,he,rfl⟩: ∃e,ys[k]? =some e/\ [D.agg (Ent.row e)]=ds:=by
   rw[wh]at hk;cases h:ys[k]? with
   | none=>grind
   | some e=>grind
  have qf:k<ys.length:=og;have hlS:bh ys (k+1)=e.row:=by simp only[bh,he,yJ]
  have hw:aD .i64 ((k:Int)+1)=((k+1:Nat):Int):=zx _ (by unfold maxLen;omega);clear hk hP;have Rh:=qX;obtain⟨p,hp⟩: ∃p,6+NB=p:=⟨_,rfl⟩;obtain⟨q,hq⟩: ∃q,7+NB=q:=⟨_,rfl⟩;have q1:(8=q)=False:=og;have q2:(q=8)=False:=og;have q3:NB<=q:=oa;have q4:q - NB=7:=oa;have p1:(8=p)=False:=og;have p2:(p=8)=False:=og;have p3:NB<=p:=oa;have p4:p - NB=6:=oa;have pq:(p=q)=False:=og;have qp:(q=p)=False:=og;have hL:=Ll ys k;have ht:=fun r=>Po r ys k;refine qn (s':=kn 18 [(6,.one (.bx p 8 0 0)),(7,.one (.bx q 1 0 0)),(12,.agg e.row)] (ml [(p,[bh ys k]),(q,[[.c (li k)]])])) (qw rfl ?_ ?_) ?_
  ·simp +decide only[go_sem,DS.round,DS.round0,DS.puts,hp,hq,ZK,Qt]
  ·simp +decide only[go_sem,DS.round,DS.round0,DS.puts,hp,hq,vv,ZK,q3,q4,p3,p4,Qt,ht,pq,qp]
  refine aR (pl:=OH) (N:=18) _ _ _ om ?_;simp -implicitDefEqProofs only[go_sem,q1,q2,p1,p2];replace hlS:Kp _:=⟨hlS⟩;refine aR (pl:=OH) (N:=18) _ _ _ om ?_;simp -implicitDefEqProofs only[go_sem];refine xd ?_;apply Zn (id:=5) (N:=18) [] [[],[],[1],[0,0],[2,3,0,1,2,3]] (.two 0 (.two 1 (.bl 2 (.run [3,4] .leaf)) 3 (.run [1,2,4] .leaf)) 1 (.bl 2 (.run [0,3,4] .leaf)));kernel_rfl;rfl;kernel_rfl;kernel_rfl;simp -implicitDefEqProofs only[go_sem, *];have x8:k+1<=ys.length:=qf;have hdr:List.drop 8 (bh ys k)= []:=og;rw[hdr];rw[hlS.1]
  (repeat' apply And.intro)<;>
  exact⟨(),x8,sC rfl oe (by simp +decide only[go_sem,bh,q9,hp,hq,Qt,q1,q2,p1,p2,pq,qp])⟩
 ·intro _ hd;simp -implicitDefEqProofs only[go_sem,As];rcases ys.eq_nil_or_concat with rfl|⟨zs,z,rfl⟩
  ·simp only[wT,bh];clear hP hd hn;refine xd ?_;apply Zn (id:=6) (N:=18) [] [[],[],[0,0],[1,2,0,1,2]] (.two 0 (.two 1 (.run [2,3] .leaf) 2 (.run [1,3] .leaf)) 1 (.run [0,2,3] .leaf));kernel_rfl;rfl;kernel_rfl;kernel_rfl;simp -implicitDefEqProofs only[go_sem, *];exact eV [.c (.lit (.int .i64 0)),.ex 1 [],.c (.lit (.int .i64 0)),.ex 1 [],.c (.lit (.int .i64 0)),.ex 2 [],.ex 2 [],.ex 2 []]
  ·rw[List.concat_eq_append];have h1:bh (zs++[z]) (zs++[z]).length=z.row:=by simp[bh]
   have h2:Jg (zs++[z])=z:=by simp[Jg]
   rw[h1,h2];generalize (zs++[z]).length=n at*
   simp only[bh];clear h1 h2 hP hd hn;refine xd ?_;apply Zn (id:=6) (N:=18) [] [[],[],[0,0],[1,2,0,1,2]] (.two 0 (.two 1 (.run [2,3] .leaf) 2 (.run [1,3] .leaf)) 1 (.run [0,2,3] .leaf));kernel_rfl;rfl;kernel_rfl;kernel_rfl;simp -implicitDefEqProofs only[go_sem, *]
attribute [local go_sem] vp Ent.row Ent.enc
def Gp(l:List Ent)(e:Ent):Bool:= !(e.main==0)&& !(vz l e.main).2
def BH(l:List Ent)(e:Ent):Bool:=decide (l.length<(eh l (l.length+1) e.id).length)
def No(l:List Ent):Int:=if l.any (Gp l)=true then 9 else if l.any (BH l)=true then 17 else 0
def Np(l:List Ent)(hl:l.length<=1000000):DCalls pP 352 [dv (.sl 8 (l.map Ent.enc))] (dv (li (No l))):=by
 have qi:=qo;have hG:=fun i=>rK l i hl;have hN:=fun i=>Vi l i hl;replace hG:Kp _:=⟨hG⟩;replace hN:Kp _:=⟨hN⟩;obtain⟨R,hR⟩: ∃R,R=No l:=⟨_,rfl⟩;rw[<-hR];replace hR:Kp _:=⟨hR⟩;refine dX (N:=50) (rs:=[.tmp 2]) qg func352 ?_;refine gB ?_;refine lp l [0,11,12] [] (fun k=>[(13,dv (li k))]) (fun _=>[]) (fun k=>∀e∈l.take k,Gp l e=false) oh ?_ ?_
 ·intro k e he bw hm qs qf hw hv;have hg:=hG.1 e.main;rw[<-uS]at hg;have hb:Gp l e=(!(e.main==0)&& !(vz l e.main).2):=rfl;have h9:Gp l e=true->R=9:=fun h=>by rw[hR.1,No,ae (yK.2 ⟨e,hm,h⟩)]
  have Q5:Gp l e=false->∀x∈l.take (k+1),Gp l x=false:=fun h x hx=>by
   rw[qs,wF]at hx;rcases hx with hx|hx
   ·grind
   ·grind
  clear hR qs hm hv;generalize Gp l e=vb at*
  generalize vz l e.main=gb at*
  obtain⟨g,b⟩:=gb;simp only[Ent.row]at hg hb;replace h9:Kp _:=⟨h9⟩;replace Q5:Kp _:=⟨Q5⟩;replace hb:Kp _:=⟨hb⟩;repeat' first|refine kx hg ?_|refine gQ ?_|exact gU|refine gS ?_|exact gT|(first|apply xc|apply gf|apply gt)<;>intro hc
  all_goals first|exact⟨Q5.1 (by rw[hb.1];simp_all),qJ⟩|exact⟨Q5.1 (by rw[hb.1];simp_all),Zb⟩|exact cC (h9.1 (by rw[hb.1];simp_all))
 ·intro qf hv;rw[wc]at hv;have h0:R=if l.any (BH l)=true then 17 else 0:=by rw[hR.1,No,j7 (by simpa using hv)]
  clear hR hv hG;replace h0:Kp _:=⟨h0⟩;refine gB ?_;refine lp l [0,32,33] [] (fun k=>[(34,dv (li k))]) (fun _=>[]) (fun k=>∀e∈l.take k,BH l e=false) oh ?_ ?_
  ·intro k e he bw hm qs qf hw hv;have hg:=hN.1 e.id;have hb:BH l e=decide ((l.length:Int)<((eh l (l.length+1) e.id).length:Int)):=by unfold BH;simp only[Int.ofNat_lt]
   have h9:BH l e=true->R=17:=fun h=>by rw[h0.1,ae (yK.2 ⟨e,hm,h⟩)]
   have Q5:BH l e=false->∀x∈l.take (k+1),BH l x=false:=fun h x hx=>by
    rw[qs,wF]at hx;rcases hx with hx|hx
    ·grind
    ·grind
   clear h0 qs hm hv;generalize BH l e=vb at*
   generalize (eh l (l.length+1) e.id).length=m at*
   generalize Jg (eh l (l.length+1) e.id)=g at*
   simp only[Ent.row]at hg;replace h9:Kp _:=⟨h9⟩;replace Q5:Kp _:=⟨Q5⟩;replace hb:Kp _:=⟨hb⟩;repeat' first|refine kx hg ?_|refine gQ ?_|exact gU|refine gS ?_|exact gT|(first|apply xc|apply gf|apply gt)<;>intro hc
   all_goals first|exact⟨Q5.1 (by rw[hb.1];simp_all),qJ⟩|exact⟨Q5.1 (by rw[hb.1];simp_all),Zb⟩|exact cC (h9.1 (by rw[hb.1];simp_all))
  ·intro qf hv;rw[wc]at hv;have h1:R=0:=by rw[h0.1,j7 (by simpa using hv)]
   subst h1;clear h0 hv;exact gA
attribute [local go_sem] vp qj eD eF List.cons_append List.nil_append Rul.enc Rul.row
structure SurfOk(g:Lg):Prop where
 inv:g.inv.length<=1048576
 units:g.units.length<=1048576
 segs: ∀u∈g.units,u.segs.length<=1000000
 letters:g.letters.length<=1048576
 lets: ∀l∈g.letters,l.length<=1048576/\∀s∈l,s.size<=1048576
 nrules:g.rules.length<=1048576
 rules: ∀r∈g.rules,r.src.length<=1000000/\r.dst.length<=1000000
 steps:g.steps.length<=1048576
 fin:g.fin.length<=1048576
 lex:W.MidE g.lex
 sens: ∀e∈g.lex,e.senses.length<=1048576/\e.refs.length<=1048576/\∀s∈e.senses,vm s.gloss=true
def Uq(H:SurfOk g):NCalls pP 280 [.agg [],.agg g.row] (zJ True):=by
 have hC:=KT g.inv H.inv;simp only[Lg.row];refine nX (N:=8) (rs:=[.tmp 4]) qg func280 ?_;try simp -implicitDefEqProofs only[go_sem, *]
 repeat'((first|refine kq ?_|(refine eH ?_<;>intro er eN)|(refine dM ?_<;>intro bo eO)|refine xk ?_|(apply xc<;>intro hc)|(apply gf<;>intro hc)|(apply gt<;>intro hc))<;>simp -implicitDefEqProofs only[go_sem, *])
def qav(H:SurfOk g):NCalls pP 294 [.agg [],.agg g.row] (zJ True):=by
 have hC:=OW g.inv g.nm g.units g.letters H.inv H.units H.segs H.letters H.lets;simp only[Lg.row];refine nX (N:=10) (rs:=[.tmp 4]) qg func294 ?_;try simp -implicitDefEqProofs only[go_sem, *]
 repeat'((first|refine kq ?_|(refine eH ?_<;>intro er eN)|(refine dM ?_<;>intro bo eO)|refine xk ?_|(apply xc<;>intro hc)|(apply gf<;>intro hc)|(apply gt<;>intro hc))<;>simp -implicitDefEqProofs only[go_sem, *])
def qa8(H:SurfOk g):NCalls pP 309 [.agg [],.agg g.row] (zJ True):=by
 have hC:=NA g.states g.steps g.fin H.steps H.fin;simp only[Lg.row];refine nX (N:=8) (rs:=[.tmp 4]) qg func309 ?_;try simp -implicitDefEqProofs only[go_sem, *]
 repeat'((first|refine kq ?_|(refine eH ?_<;>intro er eN)|(refine dM ?_<;>intro bo eO)|refine xk ?_|(apply xc<;>intro hc)|(apply gf<;>intro hc)|(apply gt<;>intro hc))<;>simp -implicitDefEqProofs only[go_sem, *])
def qcJ(H:SurfOk g):NCalls pP 314 [.agg [],.agg g.row] (zJ True):=by
 have hC:=qbs g.inv g.lex (wu H.lex.1 oo) (fun e he=>⟨(H.sens e he).1,wu (H.lex.2 e he) oo,(H.sens e he).2⟩);simp only[Lg.row];refine nX (N:=10) (rs:=[.tmp 4]) qg func314 ?_;try simp -implicitDefEqProofs only[go_sem, *]
 repeat'((first|refine kq ?_|(refine eH ?_<;>intro er eN)|(refine dM ?_<;>intro bo eO)|refine xk ?_|(apply xc<;>intro hc)|(apply gf<;>intro hc)|(apply gt<;>intro hc))<;>simp -implicitDefEqProofs only[go_sem, *])
def qaI(H:SurfOk g):NCalls pP 343 [.agg [],.agg g.row] (zJ True):=by
 have hC:=W.check_D g.lex H.lex;simp only[Lg.row];refine nX (N:=8) (rs:=[.tmp 4]) qg func343 ?_;try simp -implicitDefEqProofs only[go_sem, *]
 repeat'((first|refine kq ?_|(refine eH ?_<;>intro er eN)|(refine dM ?_<;>intro bo eO)|refine xk ?_|(apply xc<;>intro hc)|(apply gf<;>intro hc)|(apply gt<;>intro hc))<;>simp -implicitDefEqProofs only[go_sem, *])
 all_goals exact⟨_,rfl,fun _=>trivial⟩
def Y1(H:SurfOk g):NCalls pP 351 [.agg [],.agg g.row] (zJ True):=by
 have hC:=Np g.lex (wu H.lex.1 oo);simp only[Lg.row];refine nX (N:=8) (rs:=[.tmp 4]) qg func351 ?_;try simp -implicitDefEqProofs only[go_sem, *]
 repeat'((first|refine kq ?_|(refine eH ?_<;>intro er eN)|(refine dM ?_<;>intro bo eO)|refine xk ?_|(apply xc<;>intro hc)|(apply gf<;>intro hc)|(apply gt<;>intro hc))<;>simp -implicitDefEqProofs only[go_sem, *])
 all_goals exact⟨_,rfl,fun _=>trivial⟩
attribute [local go_sem] vp Rul.enc Rul.row List.cons_append List.nil_append
def qaG(H:SurfOk g):NCalls pP 308 [.agg [],.agg g.row] (zJ True):=by
 have qi:=qo;obtain⟨O,hO⟩: ∃O,O=eD g:=⟨_,rfl⟩;have hr:=H.rules;have lF:=H.nrules;have hC:=fun r (h:r∈g.rules)=>(AC g.inv r (hr r h).1 (wu (hr r h).2 oo)).mono (S:=zJ True) (by rintro q ⟨e,rfl⟩;exact⟨e,rfl,fun _=>trivial⟩);replace hr:Kp _:=⟨hr⟩;replace hC:Kp _:=⟨hC⟩;replace H:Kp _:=⟨H⟩;simp only[Lg.row,eD,eF,wD,wI];clear hO;refine nX (N:=27) (rs:=[.tmp 4]) qg func308 ?_;refine gB ?_;intro hc;refine lq g.rules [3,13,14] [3] 15 ?_ ?_
 ·intro k r hx hk hm qs qf hw _;have hD:=hC.1 r hm;simp only[qj,Rul.row]at hD;clear hm qs;exact gA
 intro qf _;exact gA
def qao(H:SurfOk g):NCalls pP 112 [.agg g.row] (zJ True):=by
 have qi:=qo;obtain⟨L,hL⟩: ∃L:List Nat,L= [238,239,240,241,242,243,244]:=⟨_,rfl⟩
 have zW : ∀ x ∈ L, ∃ f, (∀ (vs : Array j6) w, (callMethod (.iface x (.agg #[])) "langdoc/surface.errno" vs).run pP w = .ok (.enter f (#[.agg #[]] ++ vs)) w) ∧ NCalls pP f [.agg [], .agg g.row] (zJ True) := by
  rw[hL];simp only[List.forall_mem_cons,w9,false_implies,implies_true,and_true];exact⟨⟨_,fun _ _=>om,Uq H⟩,⟨_,fun _ _=>om,qav H⟩,⟨_,fun _ _=>om,qaG H⟩,⟨_,fun _ _=>om,qa8 H⟩,⟨_,fun _ _=>om,qcJ H⟩,⟨_,fun _ _=>om,qaI H⟩,⟨_,fun _ _=>om,Y1 H⟩⟩
 simp only[Lg.row,eD,eF,wD,wI]at zW ⊢;refine dq (N:=33) (rs:=[.tmp 2]) om func112 rfl rfl rfl oh ?_;refine qk (xw (N:=33) (fun _=>[]) ?_);refine gS ?_;refine qk (qk (Q0 om ?_));refine vL [_] ?_;refine gS ?_;refine zq (Step.ifz (fs:= #[]) rfl om oe ?_);refine vL [_] ?_;refine gS ?_;refine zq (Step.ifz (fs:= #[]) rfl om oe ?_);refine vL [_] ?_;refine gS ?_;refine zq (Step.ifz (fs:= #[]) rfl om oe ?_);refine vL [_] ?_;refine gS ?_;refine zq (Step.ifz (fs:= #[]) rfl om oe ?_);refine vL [_] ?_;refine gS ?_;refine zq (Step.ifz (fs:= #[]) rfl om oe ?_);refine vL [_] ?_;refine gS ?_;refine zq (Step.ifz (fs:= #[]) rfl om oe ?_);refine vL [_] ?_;refine gS ?_;refine zq (Step.ifz (fs:= #[]) rfl om oe ?_);refine vL (l2:=[]) [_,_,_] ?_;refine gS ?_;refine iP ?_;refine gS ?_;refine ze 20 (dv (.sl 1 (L.map fun x=>[ifz x]))) (by rw[hL];first|exact DLe.ex_ _ _|(simp +decide only[go_sem,wo,wm];first|done|exact DLe.ex_ _ _)) ?_;refine ze 21 (dv (li L.length)) (by rw[hL];simp +decide only[go_sem,wW,wT]) ?_;have qd7:L.length<=maxLen:=oA;clear hL;refine qm (vq L (fun k=>kn 33 [(1,.one (.bx 1 9 0 0)),(20,dv (.sl 1 (L.map fun x=>[ifz x]))),(21,dv (li L.length)),(22,dv (li k))] (ml [(1,[[.c (.sl 2 (g.inv.map Phon.enc)),.c (ls g.nm),.c (.sl 2 (g.units.map Unt.enc)),.c (.sl 1 (g.letters.map Z2)),.c (.sl 6 (g.rules.map Rul.enc)),.c (li g.states),.c (.sl 3 (g.steps.map Stp.enc)),.c (.sl 1 (ints g.fin)),.c (.sl 8 (g.lex.map Ent.enc))]])])) (fun _=>True) qd7 (Zb) trivial ?_ ?_)
 ·intro k x hx hk hm qs qf hw _;obtain⟨f,hf,hC⟩:=zW x hm;have hx':(L.map fun x=>[ifz x])[k]? =some [ifz x]:=og;clear hm qs;refine qk (xw (N:=33) (fun _=>[]) ?_);refine gS ?_;refine qk (xw (N:=33) (fun _=>[]) ?_);refine gS ?_;refine qk (qm (qk (xw (N:=33) (fun _=>[]) ?_)));refine gS ?_;refine qk (Q0 om ?_);refine vL [_,_] ?_;refine gS ?_;refine zq (Step.invoke (args:= #[.tmp 27]) rfl oe hf (by simp +decide only[go_sem];exact kP rfl) hC ?_);rintro _ ⟨e,rfl,-⟩;refine vL (l2:=[]) [_] ?_;refine gS ?_;refine iP ?_;refine gS ?_;clear hf hC hx hx';refine xw (N:=33) (fun _=>[]) ?_;repeat' first|refine gQ ?_|exact gU|(refine eH ?_<;>intro er eN)|(refine dM ?_<;>intro bo eO)|refine gS ?_|exact gT|(first|apply xc|apply gf|apply gt)<;>intro hc
  ·refine xw (N:=33) (fun _=>[]) ?_;exact gA
 ·intro qf _;refine xw (N:=33) (fun _=>[]) ?_;refine gB ?_;refine xw (N:=33) (fun _=>[]) ?_;exact gA
end
end Go.Proofs.YtobpcppcjdnkmaaGreat
namespace Go.Proofs.YtobpcppcjdnkmaaGreat.A
open Go.Proofs.Tryz
open Go.Dl
variable {g:Lg}
attribute [local irreducible] DW DCalls ECalls NCalls wk IW
section
attribute [local go_sem] vp qj eD eF List.cons_append List.nil_append Rul.enc Rul.row
structure SurfA(g:Lg):Prop where
 ph:PhA g.inv
 ort:OrA g.inv g.nm g.units
 lets:g.letters= []
 rule: ∃r,g.rules= [r]/\r.src.length<=1000000/\r.dst.length<=1000000/\((r.src.length:Int)==0)=false/\r.dst.length=r.src.length/\r.src.any (oU g.inv)=false/\(r.dst.any fun n=> !(n==0)&&oU g.inv n)=false/\(S.usort r.src).length=r.src.length/\r.left.length<=2/\r.right.length<=2
 net:TaA g.states g.steps g.fin
 ent: ∃e,g.lex= [e]/\EnA g.inv e
 mid:W.MidE g.lex
 rel:W.chkF g.lex (W.reachK g.lex)=0
 var:No g.lex=0
def Ur(H:SurfA g):DCalls pP 280 [.agg [],.agg g.row] (dv (li 0)):=by have hC:=KU g.inv H.ph;simp only[Lg.row];refine dX (N:=8) (rs:=[.tmp 4]) qg func280 ?_;exact gA
def qaw(H:SurfA g):DCalls pP 294 [.agg [],.agg g.row] (dv (li 0)):=by have hC:=OX g.inv g.nm g.units H.ort;have hl:=H.lets;rw[<-show(g.letters.map Z2)= [] by rw[hl];rfl]at hC;clear hl;simp only[Lg.row];refine dX (N:=10) (rs:=[.tmp 4]) qg func294 ?_;exact gA
def qa9(H:SurfA g):DCalls pP 309 [.agg [],.agg g.row] (dv (li 0)):=by have hC:=NC g.states g.steps g.fin H.net;simp only[Lg.row];refine dX (N:=8) (rs:=[.tmp 4]) qg func309 ?_;exact gA
def qcK(H:SurfA g):DCalls pP 314 [.agg [],.agg g.row] (dv (li 0)):=by
 have hC:=(show DCalls pP 315 [.agg (qj g.inv),dv (.sl 8 (g.lex.map Ent.enc))] (dv (li 0)) from by
  obtain⟨e,he,hE⟩:=H.ent;rw[he];exact qbt g.inv e hE)
 simp only[Lg.row];refine dX (N:=10) (rs:=[.tmp 4]) qg func314 ?_;exact gA
def qaJ(H:SurfA g):DCalls pP 343 [.agg [],.agg g.row] (dv (li 0)):=by have hC:=W.check_D g.lex H.mid;rw[H.rel]at hC;simp only[Lg.row];refine dX (N:=8) (rs:=[.tmp 4]) qg func343 ?_;exact gA
def Y2(H:SurfA g):DCalls pP 351 [.agg [],.agg g.row] (dv (li 0)):=by have hC:=Np g.lex (wu H.mid.1 oo);rw[H.var]at hC;simp only[Lg.row];refine dX (N:=8) (rs:=[.tmp 4]) qg func351 ?_;exact gA
def qaH(H:SurfA g):DCalls pP 308 [.agg [],.agg g.row] (dv (li 0)):=by
 have qi:=qo;obtain⟨r,hr,h1,h2,h3,h4,h5,h6,h7,h8,h9⟩:=H.rule;have hD:=Kn g.inv r h1 h2 h3 h4 h5 h6 h7 h8 h9;clear H h1 h2 h3 h4 h5 h6 h7 h8 h9;obtain⟨inv,nm,units,letters,rules,states,steps,fin,lex⟩:=g;simp only at hr hD;subst hr;simp only[qj,Rul.row]at hD;simp only[Lg.row,eD,eF,wD,wI];refine dX (N:=27) (rs:=[.tmp 4]) qg func308 ?_;refine gB ?_;refine lq [r] [3,13,14] [3] 15 ?_ ?_ (qi:=by have:=qo;simp;try omega)
 ·intro k x hx hk hm qs qf hw _;have Z5:k=0:=og;subst Z5;have w1:aD .i64 1=1:=oo;have:x=r:=og;subst this;clear hm qs;exact gA
 intro qf _;exact gA
def surf_A(H:SurfA g):NCalls pP 112 [.agg g.row] (fun r=>∃e,r=dv (li e)/\e=0):=by
 have qi:=qo;obtain⟨L,hL⟩: ∃L:List Nat,L= [238,239,240,241,242,243,244]:=⟨_,rfl⟩
 have zW : ∀ x ∈ L, ∃ f, (∀ (vs : Array j6) w, (callMethod (.iface x (.agg #[])) "langdoc/surface.errno" vs).run pP w = .ok (.enter f (#[.agg #[]] ++ vs)) w) ∧ NCalls pP f [.agg [], .agg g.row] (fun r => r = dv (li 0)) := by
  rw[hL];simp only[List.forall_mem_cons,w9,false_implies,implies_true,and_true];exact⟨⟨_,fun _ _=>om,NCalls.one (Ur H)⟩,⟨_,fun _ _=>om,NCalls.one (qaw H)⟩,⟨_,fun _ _=>om,NCalls.one (qaH H)⟩,⟨_,fun _ _=>om,NCalls.one (qa9 H)⟩,⟨_,fun _ _=>om,NCalls.one (qcK H)⟩,⟨_,fun _ _=>om,NCalls.one (qaJ H)⟩,⟨_,fun _ _=>om,NCalls.one (Y2 H)⟩⟩
 simp only[Lg.row,eD,eF,wD,wI]at zW ⊢;refine dq (N:=33) (rs:=[.tmp 2]) om func112 rfl rfl rfl oh ?_;refine qk (xw (N:=33) (fun _=>[]) ?_);refine gS ?_;refine qk (qk (Q0 om ?_));refine vL [_] ?_;refine gS ?_;refine zq (Step.ifz (fs:= #[]) rfl om oe ?_);refine vL [_] ?_;refine gS ?_;refine zq (Step.ifz (fs:= #[]) rfl om oe ?_);refine vL [_] ?_;refine gS ?_;refine zq (Step.ifz (fs:= #[]) rfl om oe ?_);refine vL [_] ?_;refine gS ?_;refine zq (Step.ifz (fs:= #[]) rfl om oe ?_);refine vL [_] ?_;refine gS ?_;refine zq (Step.ifz (fs:= #[]) rfl om oe ?_);refine vL [_] ?_;refine gS ?_;refine zq (Step.ifz (fs:= #[]) rfl om oe ?_);refine vL [_] ?_;refine gS ?_;refine zq (Step.ifz (fs:= #[]) rfl om oe ?_);refine vL (l2:=[]) [_,_,_] ?_;refine gS ?_;refine iP ?_;refine gS ?_;refine ze 20 (dv (.sl 1 (L.map fun x=>[ifz x]))) (by rw[hL];first|exact DLe.ex_ _ _|(simp +decide only[go_sem,wo,wm];first|done|exact DLe.ex_ _ _)) ?_;refine ze 21 (dv (li L.length)) (by rw[hL];simp +decide only[go_sem,wW,wT]) ?_;have qd7:L.length<=maxLen:=oA;clear hL;refine qm (vq L (fun k=>kn 33 [(1,.one (.bx 1 9 0 0)),(20,dv (.sl 1 (L.map fun x=>[ifz x]))),(21,dv (li L.length)),(22,dv (li k))] (ml [(1,[[.c (.sl 2 (g.inv.map Phon.enc)),.c (ls g.nm),.c (.sl 2 (g.units.map Unt.enc)),.c (.sl 1 (g.letters.map Z2)),.c (.sl 6 (g.rules.map Rul.enc)),.c (li g.states),.c (.sl 3 (g.steps.map Stp.enc)),.c (.sl 1 (ints g.fin)),.c (.sl 8 (g.lex.map Ent.enc))]])])) (fun _=>True) qd7 (Zb) trivial ?_ ?_)
 ·intro k x hx hk hm qs qf hw _;obtain⟨f,hf,hC⟩:=zW x hm;have hx':(L.map fun x=>[ifz x])[k]? =some [ifz x]:=og;clear hm qs;refine qk (xw (N:=33) (fun _=>[]) ?_);refine gS ?_;refine qk (xw (N:=33) (fun _=>[]) ?_);refine gS ?_;refine qk (qm (qk (xw (N:=33) (fun _=>[]) ?_)));refine gS ?_;refine qk (Q0 om ?_);refine vL [_,_] ?_;refine gS ?_;refine zq (Step.invoke (args:= #[.tmp 27]) rfl oe hf (by simp +decide only[go_sem];exact kP rfl) hC ?_);rintro _ rfl;refine vL (l2:=[]) [_] ?_;refine gS ?_;refine iP ?_;refine gS ?_;clear hf hC hx hx';refine xw (N:=33) (fun _=>[]) ?_;refine gB ?_
  ·refine xw (N:=33) (fun _=>[]) ?_;exact gA
 ·intro qf _;refine xw (N:=33) (fun _=>[]) ?_;refine gB ?_;refine xw (N:=33) (fun _=>[]) ?_;refine gB ?_;exact⟨0,rfl,rfl⟩
end
end Go.Proofs.YtobpcppcjdnkmaaGreat.A
namespace Go.Proofs.YtobpcppcjdnkmaaGreat
open Go.Proofs.Tryz
open Go.Shelf
variable {w:List Int}{g:Lg}{d:Dcm}{l:List Ent}
def Tryz.laysB_ren:Go.Shelf.Ren:=⟨fun|169=>179|n=>n,fun|70=>267|9=>9|0=>0|72=>270|37=>268|127=>309|3=>3|5=>5|n=>n,fun|n=>n⟩
def Tryz.laysB:Go.Proofs.Lays.n169 pP Tryz.laysB_ren:={
 mixed:=om
 f169:=func179.trans (af some om)
 t0:=underlying0
 a0:=Tryz.isAgg0
 z0:=Tryz.sizeOf0
 v0:=Tryz.zeroValue0
 t3:=underlying3
 a3:=Tryz.isAgg3
 z3:=Tryz.sizeOf3
 v3:=Tryz.zeroValue3
 t9:=underlying9
 a9:=Tryz.isAgg9
 z9:=Tryz.sizeOf9
 v9:=Tryz.zeroValue9
 t37:=underlying268
 a37:=Tryz.isAgg268
 z37:=Tryz.sizeOf268
 v37:=Tryz.zeroValue268
 t70:=underlying267
 a70:=Tryz.isAgg267
 z70:=Tryz.sizeOf267
 v70:=Tryz.zeroValue267
 t72:=underlying270
 a72:=Tryz.isAgg270
 z72:=Tryz.sizeOf270
 v72:=Tryz.zeroValue270
 t127:=underlying309
 a127:=Tryz.isAgg309
 z127:=Tryz.sizeOf309
 v127:=Tryz.zeroValue309 }
def Tryz.laysW_ren:Go.Shelf.Ren:=⟨fun|166=>178|240=>210|276=>241|n=>n,fun|0=>0|3=>3|4=>4|5=>5|9=>9|20=>20|37=>268|70=>267|72=>270|75=>273|80=>276|164=>330|n=>n,fun|n=>n⟩
def Tryz.laysW:Go.Proofs.Lays.n166 pP Tryz.laysW_ren:={
 mixed:=om
 f166:=func178.trans (af some om)
 f240:=func210.trans (af some om)
 f276:=func241.trans (af some om)
 t0:=underlying0
 a0:=Tryz.isAgg0
 z0:=Tryz.sizeOf0
 v0:=Tryz.zeroValue0
 t3:=underlying3
 a3:=Tryz.isAgg3
 z3:=Tryz.sizeOf3
 v3:=Tryz.zeroValue3
 t4:=underlying4
 a4:=Tryz.isAgg4
 z4:=Tryz.sizeOf4
 v4:=Tryz.zeroValue4
 t9:=underlying9
 a9:=Tryz.isAgg9
 z9:=Tryz.sizeOf9
 v9:=Tryz.zeroValue9
 t20:=underlying20
 a20:=Tryz.isAgg20
 z20:=Tryz.sizeOf20
 v20:=Tryz.zeroValue20
 t37:=underlying268
 a37:=Tryz.isAgg268
 z37:=Tryz.sizeOf268
 v37:=Tryz.zeroValue268
 t70:=underlying267
 a70:=Tryz.isAgg267
 z70:=Tryz.sizeOf267
 v70:=Tryz.zeroValue267
 t72:=underlying270
 a72:=Tryz.isAgg270
 z72:=Tryz.sizeOf270
 v72:=Tryz.zeroValue270
 t75:=underlying273
 a75:=Tryz.isAgg273
 z75:=Tryz.sizeOf273
 v75:=Tryz.zeroValue273
 t164:=underlying330
 a164:=Tryz.isAgg330
 z164:=Tryz.sizeOf330
 v164:=Tryz.zeroValue330 }
theorem Tryz.extraB:Go.Proofs.Builder.Extra pP Tryz.laysB_ren where
 sizeBuilder:=om
 liesBuilder:=om
 t5:=underlying5
 a5:=Tryz.isAgg5
 z5:=Tryz.sizeOf5
 v5:=Tryz.zeroValue5
 infoByte:=om
 cellsByte:=om
 sizeByte:=om
 neB5:=oo
theorem Tryz.extraW:Go.Proofs.Builder.Extra pP Tryz.laysW_ren where
 sizeBuilder:=om
 liesBuilder:=om
 t5:=underlying5
 a5:=Tryz.isAgg5
 z5:=Tryz.sizeOf5
 v5:=Tryz.zeroValue5
 infoByte:=om
 cellsByte:=om
 sizeByte:=om
 neB5:=oo
open Go.Dl Go.RowKit
attribute [local irreducible] DW DCalls ECalls NCalls wk IW
def Im{us:List Unt}{n:Nat}{u:Unt}(e:us[n]? =some u):vQ us w (n+1)=if(cO w u&&(decide (vQ us w n<0)||decide ((bZ us (vQ us w n)).segs.length<u.segs.length)))=true then(n:Int)else vQ us w n:=by simp only[vQ,e]
def DJ{u:Unt}(h:u.segs.length<=w.length):decide (u.segs=w.take u.segs.length)=cO w u:=by unfold cO;congr 1;rw[eq_iff_iff];exact List.prefix_iff_eq_take.symm
section
attribute [local go_sem] vp Unt.enc
abbrev qeX:Dl.PL:=fun|5=> Dl.ll 0 14 ((14,.step)::Dl.ll 15 2 [])|6=> Dl.ll 0 15 []|_=>[]
def Y6(nm lt:Dl.C)(us:List Unt)(w:List Int)(hl:us.length<=1048576)(VF:w.length<=1048576)(VG: ∀u∈us,u.segs.length<=1048576):
  DCalls pP 177 [.agg [.c nm,.c (.sl 2 (us.map Unt.enc)),.c lt],dv (.sl 1 (ints w))] (dv (li (vQ us w us.length))):=by
 have qi:=qo;refine dX (N:=51) (rs:=[.tmp 4]) qeX func177 ?_;refine gB ?_;refine lp us [1,2,9,10] [2] (fun k=>[(5,dv (li (vQ us w k))),(11,dv (li k))]) (fun _=>[]) (fun _=>True) trivial ?_ ?_ (h0:=by simp +decide only[go_sem,vQ])
 ·intro k u hu hk hm qs qf hw _;have hb:=Im (w:=w) hu;have hr:=pS us w k oa;have Ta:=VG u hm;generalize vQ us w k=b at*
  clear hm qs VG;by_cases g0:w.length<u.segs.length
  ·have t0:((w.length:Int)<(u.segs.length:Int)):=by omega
   have t4:cO w u=false:=by unfold cO;rw[az];intro h;have:=h.length_le;omega
   rw[t4,j7 oh]at hb;clear t4;rw[hb];clear hb;exact gA
  have t0: ¬((w.length:Int)<(u.segs.length:Int)):=oa;have hE:=Yq u.segs (w.take u.segs.length) oa;rw[DJ oa]at hE;have ht:(ints w).take u.segs.length=ints (w.take u.segs.length):=oh;have z1:u.segs.length<=w.length:=oa;have z0:(0:Nat)<=u.segs.length:=wM _;cases t4:cO w u
  ·rw[t4]at hE hb;rw[j7 oh]at hb;clear t4;rw[hb];clear hb;exact gA
  ·rw[t4]at hE hb;clear t4;by_cases t5:b<0
   ·rw[ae (by simp[t5])]at hb;rw[hb];clear hb;exact gA
   ·obtain⟨j,rfl⟩: ∃j:Nat,b=j:=⟨b.toNat,oa⟩;have hj:j<us.length:=oa;have ej:us[j]? =some us[j]:=wa hj;generalize us[j]=v at ej;have ev:bZ us (j:Int)=v:=by unfold bZ;simp[ej]
    rw[ev]at hb;by_cases t7:v.segs.length<u.segs.length
    ·have t8:((v.segs.length:Int)<(u.segs.length:Int)):=by omega
     rw[ae (by simp[t7])]at hb;rw[hb];clear hb;exact gA
    ·have t8: ¬((v.segs.length:Int)<(u.segs.length:Int)):=by omega
     rw[j7 (by simp[t7])]at hb;rw[hb];clear hb;exact gA
 intro qf _;exact gA
def p9{us:List Unt}(ho:OkU us)(w:List Int): ∀n n' p s,w.length - p<=n->w.length - p<=n'->Q8 us w n p s=Q8 us w n' p s
 | 0,0,_,_,_,_=>rfl
 | 0,n'+1,p,s,h,_=>by
  simp only[Q8];rw[ae oa]
 | n+1,0,p,s,_,h=>by
  simp only[Q8];rw[ae oa]
 | n+1,n'+1,p,s,h1,h2=>by
  simp only[Q8];by_cases hp:w.length<=p
  ·rw[ae hp,ae hp]
  ·rw[j7 hp,j7 hp];by_cases hb:vQ us (w.drop p) us.length<0
   ·rw[ae hb,ae hb]
   ·rw[j7 hb,j7 hb];obtain⟨u,-,e2,e3,-⟩:=Aq hb;rw[e2];have:=ho.segs u e3;have:u.segs.length≠0:=by simpa using this
    exact p9 ho w n n' _ _ oa oa
def qaA{w:j5}{K:qM}{sz:Nat}{xs:List (List Dl.C)}{v:j6}(h:VC w K (.sl sz xs) v): ∃A c,v= .slice A xs.length c:=by
 rcases h.sl_inv with⟨h1,h2⟩|⟨a,cap,cv,h1,_⟩
 ·exact⟨_,_,by rw[h1,h2];rfl⟩
 ·exact⟨_,_,h1⟩
def DM{us:List Unt}{w:List Int}{p:Nat}{s:ByteArray}(h:p<w.length):Q8 us w (w.length - p) p s=if vQ us (w.drop p) us.length<0 then(ye,(p:Int),20)else
  Q8 us w (w.length - p - 1) (p+(bZ us (vQ us (w.drop p) us.length)).segs.length) (s++(bZ us (vQ us (w.drop p) us.length)).graph):=by
 obtain⟨m,hm⟩: ∃m,w.length - p=m+1:=⟨w.length - p - 1,oa⟩;rw[hm,Q8,j7 oa];rfl
def Ah{T e B b:Nat}{bs:List j6}{w w':j5}(h:Lib.IsBuilder T e B b bs w)(hb:Below w.heap.size w w'):Lib.IsBuilder T e B b bs w':=by
 have key: ∀p,Lib.BuilderAt T e B b p bs w->Lib.BuilderAt T e B b p bs w':=by rintro p ⟨h1,v,h2,h3,h4⟩;exact⟨h1,v,(hb.block _ (wH.1 h2).1).trans h2,h3.kept (row:=none) ⟨hb.os,hb.tape,hb.output,hb.size,fun k hk _=>hb.block k hk⟩ (by cases v.ownBlock<;>simp),h4⟩
 exact h.imp (key _) (key _)
def Gr(nm lt:Dl.C)(us:List Unt)(wd:List Int)(hl:us.length<=1000000)(VF:wd.length<=1048576)(VG: ∀u∈us,u.segs.length<=1048576){w:j5}{K:qM}(hk:KOk w K){vn vu vl vw:j6}
  (hn:VC w K nm vn) (hu:VC w K (.sl 2 (us.map Unt.enc)) vu) (hlv:VC w K lt vl) (hw:VC w K (.sl 1 (ints wd)) vw):
  Calls pP 177 #[.agg #[vn,vu,vl],vw] w fun e w'=>e= .returned (.int .i64 (vQ us wd us.length))/\Below w.heap.size w w':=
 Br (Y6 nm lt us wd oa VF VG) hk rfl fun j d v h1 h2=>by
  match j with
  | 0=>
   simp at h1 h2;subst h1;subst h2;refine .agg _ _ rfl fun j t v g1 g2=>?_
   match j with
   | 0=>simp at g1 g2;subst g1;subst g2;exact .c _ _ hn
   | 1=>simp at g1 g2;subst g1;subst g2;exact .c _ _ hu
   | 2=>simp at g1 g2;subst g1;subst g2;exact .c _ _ hlv
   | j+3=>simp at g1
  | 1=>simp at h1 h2;subst h1;subst h2;exact .one _ _ (.c _ _ hw)
  | j+2=>simp at h1
set_option maxRecDepth 100000 in
def DL(nm lt:Dl.C)(us:List Unt)(wd:List Int)(ho:OkU us)(hl:us.length<=1000000)(hg: ∀u∈us,u.graph.size<=1048576)(VG: ∀u∈us,u.segs.length<=1048576){w:j5}{K:qM}(hk:KOk w K){vn vu vl:j6}{Ij off cap:Nat}
  (hn:VC w K nm vn) (hu:VC w K (.sl 2 (us.map Unt.enc)) vu) (hlv:VC w K lt vl) (lI: ∀p,p<wd.length->VC w K (.sl 1 (ints (wd.drop p))) (.slice (some ⟨Ij,off+p,none⟩) (wd.length - p) (cap - p)))
  (QH:wd.length<=cap) (vG:0<wd.length) (h24:wd.length<=24):
  Calls pP 134 #[.agg #[vn,vu,vl],.slice (some ⟨Ij,off,none⟩) wd.length cap] w fun e w'=>e= .returned (.tuple #[.string (ZJ us wd).1,.int .i64 (ZJ us wd).2.1,.int .i64 (ZJ us wd).2.2])/\Below w.heap.size w w':=by
 have hE:ZJ us wd=Q8 us wd wd.length 0 ye:=by unfold ZJ;rw[j7 oa,j7 oa]
 rw[hE];have qcm:Below w.heap.size w ((w.alloc (.cells #[vn,vu,vl] 28)).alloc (.cells #[.pointer none,.slice none 0 0] 270)):=
  ((Below.refl _ w).alloc (wl _) _).alloc oh _
 have z0:((wd.length:Int)==0)=false:=by rw[aA];omega
 have z1:decide ((24:Int)<(wd.length:Int))=false:=ot
 go_enter func134,ntmps134
 go_wp2
 go_loopw [8] (fun i wr=>∃(p:Nat) (s:ByteArray),p<=wd.length/\i= .int .i64 p/\Lib.IsBuilder 270 5 (w.heap.size+1) (w.heap.size+1) (Lib.strCells s) wr/\Below w.heap.size w wr/\w.heap.size+1<wr.heap.size/\
   wr.cell? ⟨w.heap.size,0,none⟩=some vn/\wr.cell? ⟨w.heap.size,1,none⟩=some vu/\wr.cell? ⟨w.heap.size,2,none⟩=some vl/\s.size<=p*1048576/\
   Q8 us wd wd.length 0 ye=Q8 us wd (wd.length - p) p s)
   (fun i _=>wd.length - (intOf i).toNat)
 case atStart=>
  refine⟨0,ye,wM _,rfl,?_,qcm,?_,?_,?_,?_,?_,rfl⟩
  ·have:=Lib.fresh_isBuilder 270 5 (w.alloc (.cells #[vn,vu,vl] 28));rw[World.size_alloc]at this;exact this
  ·simp
  ·rw[jw _ _ _ oh,World.cell?_alloc_at _ _ _ 0 rfl];rfl
  ·rw[jw _ _ _ oh,World.cell?_alloc_at _ _ _ 1 rfl];rfl
  ·rw[jw _ _ _ oh,World.cell?_alloc_at _ _ _ 2 rfl];rfl
  ·simp
 case round=>
  obtain⟨p,s,hp,rfl,hB,hb,vo,c0,c1,c2,hs,hF⟩:=hrel;by_cases qf:p<wd.length
  ·have hlt':((p:Int)<(wd.length:Int))=True:=by simp;omega
   go_wp2
   go_still_tail 4,om
   change wpList _ _ _ _ _ wr.drew;rw[j7 (show ¬cap=p by omega)];generalize MG:wr.drew=wd1;have qcf:Below w.heap.size w wd1:=MG▸hb.drew;have hBd:Lib.IsBuilder 270 5 (w.heap.size+1) (w.heap.size+1) (Lib.strCells s) wd1:=MG▸hB.imp (fun h=>h.drew) (fun h=>h.drew);have hszd:w.heap.size+1<wd1.heap.size:=MG▸vo;have d0:wd1.cell? ⟨w.heap.size,0,none⟩=some vn:=MG▸c0;have d1:wd1.cell? ⟨w.heap.size,1,none⟩=some vu:=MG▸c1;have d2:wd1.cell? ⟨w.heap.size,2,none⟩=some vl:=MG▸c2;clear c0 c1 c2 hB hb vo MG;have x8:KOk wd1 K:=aP hk qcf;have mv: ∀{c:Dl.C} {v:j6},VC w K c v->VC wd1 K c v:=fun h=>h.mono fun b o hK=>⟨hK,qcf.cell (p:=⟨b,o,none⟩) (qP (hk b o hK))⟩;have hU:=Gr nm lt us (wd.drop p) hl ot VG x8 (mv hn) (mv hu) (mv hlv) (mv (lI p qf));have vh:=pS us (wd.drop p) us.length (wl _);rw[DM qf]at hF;by_cases hb0:vQ us (wd.drop p) us.length<0
   ·rw[ae hb0]at hF;generalize hbv:vQ us (wd.drop p) us.length=b at hb0 hU hF vh;clear hbv;go_wp2_with (go_at_call 177;refine hU.mono ?_);rintro e W1 ⟨rfl,cq⟩;have fz:Below w.heap.size w W1:=qcf.trans (cq.mono qcf.size);go_wp2;refine bodyPost_ret (results_tmp3 rfl _ _ _) rfl ?_;exact⟨by rw[hF];rfl,fz⟩
   ·have hb0':(vQ us (wd.drop p) us.length<0)=False:=by simpa using hb0
    rw[j7 hb0]at hF;obtain⟨u,e1,e2,e3,e4⟩:=Aq hb0;rw[e2]at hF;have hz:u.segs.length≠0:=by simpa using ho.segs u e3
    have hle2:u.segs.length<=wd.length - p:=by have:=e4.length_le;rwa [yA]at this
    have hgs:=hg u e3;obtain⟨j,hj⟩: ∃j:Nat,vQ us (wd.drop p) us.length=j:=⟨(vQ us (wd.drop p) us.length).toNat,oa⟩;rw[hj]at hU e1 vh;have e1':us[j]? =some u:=by simpa using e1
    clear e1 hj hb0 hb0' e2;rcases hu.sl_inv with⟨_,h⟩|⟨ua,ucap,ucv,hv,usz,h2,h3,h4,h5⟩
    ·have:us= []:=by simpa using h
     rw[this]at e1';simp at e1'
    have gd:j<us.length:=(wg.1 e1').1;rw[wn]at h2 h4 hv;obtain⟨ub,uo,usp⟩:=ua;obtain rfl:usp=none:=(h4 0 oa).1;subst hv;have q0:=h5 j 0 u.enc (ls u.graph) (by simp[e1']) rfl;have q1:=h5 j 1 u.enc (.sl 1 (ints u.segs)) (by simp[e1']) rfl;obtain⟨sA,sc,q2⟩:=qaA q1;rw[wn]at q2;have q3:ucv (j*2+0)= .string u.graph:=(VD.one _ _ (VT.c _ _ q0):VD w (E0 K) (dv (ls u.graph)) (ucv (j*2+0))).lit;have g0:=(h4 (j*2+0) oa).2;have g1:=(h4 (j*2+1) oa).2;rw[q3]at g0;rw[q2]at g1;have hlt0:=qP (hk _ _ g0.1);clear q0 q1 q3 h5 h4 lI mv hu hlv hn;go_wp2_with (go_at_call 177;refine hU.mono ?_);rintro e W1 rfl cq;have fz:Below w.heap.size w W1:=qcf.trans (cq.mono qcf.size);have r0:W1.cell? ⟨ub,uo+j*2,none⟩=some (.string u.graph):=(fz.cell (p:=⟨ub,uo+j*2,none⟩) hlt0).trans g0.2;have r1:W1.cell? ⟨ub,uo+j*2+1,none⟩=some (.slice sA u.segs.length sc):=(fz.cell (p:=⟨ub,uo+(j*2+1),none⟩) hlt0).trans g1.2;have k0:W1.cell? ⟨w.heap.size,0,none⟩=some vn:=(cq.cell (p:=⟨w.heap.size,0,none⟩) ot).trans d0;have k1:W1.cell? ⟨w.heap.size,1,none⟩=some (.slice (some ⟨ub,uo,none⟩) us.length ucap):=(cq.cell (p:=⟨w.heap.size,1,none⟩) ot).trans d1;have k2:W1.cell? ⟨w.heap.size,2,none⟩=some vl:=(cq.cell (p:=⟨w.heap.size,2,none⟩) ot).trans d2;have hB1:Lib.IsBuilder 270 5 (w.heap.size+1) (w.heap.size+1) (Lib.strCells s) W1:=Ah hBd cq;have HD:w.heap.size+1<W1.heap.size:=jp hszd cq.size;have dB:(Lib.strCells s).length+u.graph.size<=140737488355328:=by rw[Lib.strCells_length];have:p*1048576<=24*1048576:=wQ _ oa;omega
    have hWS:=Any.Builder_WriteString Tryz.laysW Tryz.extraW (w.heap.size+1) (w.heap.size+1) (Lib.strCells s) u.graph W1 hB1 dB oa;clear hBd cq qcf d0 d1 d2 hB1 g0 g1 q2 h2;go_wp2_with (go_at_call 178;refine hWS.mono ?_);rintro e W2 ⟨rfl,hB2,Bc⟩;have hb4:Below w.heap.size w W2:=fz.trans (Bc.mono oa);have m1:W2.cell? ⟨ub,uo+j*2+1,none⟩=some (.slice sA u.segs.length sc):=(Bc.cell (p:=⟨ub,uo+j*2+1,none⟩) ot).trans r1;have n0:W2.cell? ⟨w.heap.size,0,none⟩=some vn:=(Bc.cell (p:=⟨w.heap.size,0,none⟩) oh).trans k0;have n1:W2.cell? ⟨w.heap.size,1,none⟩=some (.slice (some ⟨ub,uo,none⟩) us.length ucap):=(Bc.cell (p:=⟨w.heap.size,1,none⟩) oh).trans k1;have n2:W2.cell? ⟨w.heap.size,2,none⟩=some vl:=(Bc.cell (p:=⟨w.heap.size,2,none⟩) oh).trans k2;have hsz2:w.heap.size+1<W2.heap.size:=Lib.BuilderAt.lt hB2;clear Bc fz r0 r1 k0 k1 k2 hWS;go_wp2
    go_roundw
    case rel=>
     refine⟨p+u.segs.length,s++u.graph,oa,by go_num,Or.inr ?_,hb4,hsz2,n0,n1,n2,?_,?_⟩
     ·have:Lib.strCells (s++u.graph)=Lib.strCells s++Lib.strCells u.graph:=by simp[Lib.strCells]
      rw[this];exact hB2
     ·rw[ByteArray.size_append];have:(p+1)*1048576<=(p+u.segs.length)*1048576:=wQ _ oa;rw[Nat.succ_mul]at this;omega
     ·rw[hF];exact p9 ho wd _ _ _ _ oa oa
    case measure=>simp[intOf];omega
  ·have hlt':((p:Int)<(wd.length:Int))=False:=by simp;omega
   have hz:wd.length - p=0:=oa;rw[hz,Q8]at hF;have hS:=Any.Builder_String_any Tryz.laysB Tryz.extraB (w.heap.size+1) (w.heap.size+1) s.data.toList wr hB oa;rw[Lib.mk_data]at hS;go_wp2_with (go_at_call 179;refine hS.mono ?_);rintro e W1 ⟨rfl,cq⟩;have fz:Below w.heap.size w W1:=hb.trans (cq.mono oa);go_wp2;refine bodyPost_ret (results_tmp3 rfl _ _ _) rfl ?_;exact⟨by rw[hF];rfl,fz⟩
def Ae{P:Program}{f:FuncId}{ds:List D}{u u' u'':j6}(hp:Program.plainF P f=true)(hu:u.oneCell'=true)(hu':u'.oneCell'=true)(hu'':u''.oneCell'=true)
  (h: ∀(w:j5) (K:qM) (vs:Array j6),KOk w K->vs.size=ds.length->(∀(j:Nat) d v,ds[j]? =some d->vs[j]? =some v->VD w (E0 K) d v)->Calls P f vs w fun e w'=>e= .returned (.tuple #[u,u',u''])/\Below w.heap.size w w'):
  DCalls P f ds (.tup [dv (.lit u),dv (.lit u'),dv (.lit u'')]):=by
 unfold DCalls;refine⟨hp,fun w K vs hk hl hv=>(h w K vs hk hl hv).mono ?_⟩;rintro e w' ⟨rfl,hb⟩;have hns: ∀n b o,¬zP ((E0 K).val n) b o:=fun n b o ⟨a,len,cap,h1,_⟩=>by simp[E0]at h1
 refine⟨_,E0 K,rfl,⟨hb,fun _ _ h=>h,fun _ _ _ h=>h,aP hk hb,fun n b o hs=>ak hs (hns n b o),fun n m b o hs=>ak hs (hns n b o)⟩,.tup _ _ rfl fun j d v h1 h2=>?_⟩
 match j with
 | 0=>simp at h1 h2;subst h1;subst h2;exact .one _ _ (.c _ _ (.lit _ hu))
 | 1=>simp at h1 h2;subst h1;subst h2;exact .one _ _ (.c _ _ (.lit _ hu'))
 | 2=>simp at h1 h2;subst h1;subst h2;exact .one _ _ (.c _ _ (.lit _ hu''))
 | j+3=>simp at h1
abbrev XC:Dl.PL:=fun|8=> Dl.ll 0 4 [(4,.step),(5,.light)]|_=>[]
def T7(nm lt:Dl.C)(us:List Unt)(wd:List Int)(ho:OkU us)(hl:us.length<=1000000)(hg: ∀u∈us,u.graph.size<=1048576)(VG: ∀u∈us,u.segs.length<=1048576):
  DCalls pP 134 [.agg [.c nm,.c (.sl 2 (us.map Unt.enc)),.c lt],dv (.sl 1 (ints wd))] (.tup [dv (ls (ZJ us wd).1),dv (li (ZJ us wd).2.1),dv (li (ZJ us wd).2.2)]):=by
 have qi:=qo;by_cases w0:wd.length=0
 ·have t1:((wd.length:Int)==0)=true:=by rw[aq];omega
  unfold ZJ;rw[ae w0];refine dX (N:=45) (rs:=[.tmp 4,.tmp 5,.tmp 6]) XC func134 ?_;refine gB ?_;exact DLe.rfl_ _
 by_cases w1:24<wd.length
 ·have t1:((wd.length:Int)==0)=false:=by rw[aA];omega
  have t2:decide ((24:Int)<(wd.length:Int))=true:=ot;unfold ZJ;rw[j7 w0,ae w1];refine dX (N:=45) (rs:=[.tmp 4,.tmp 5,.tmp 6]) XC func134 ?_;refine gB ?_;exact DLe.rfl_ _
 refine Ae om rfl rfl rfl fun w K vs hk hs hv=>?_;obtain⟨va,vb,rfl⟩: ∃va vb,vs= #[va,vb]:=by
  match vs,hs with
  | ⟨[va,vb]⟩,_=>exact⟨va,vb,rfl⟩
 have h0:=hv 0 _ va rfl rfl;have h1:=hv 1 _ vb rfl rfl;cases h0 with|agg ts vs Yb hr0=>
  cases h1 with|one t v h1=>cases h1 with|c c v h1=>
   obtain⟨vn,vu,vl,rfl⟩: ∃vn vu vl,vs= #[vn,vu,vl]:=by
    match vs,Yb with
    | ⟨[vn,vu,vl]⟩,_=>exact⟨vn,vu,vl,rfl⟩
   have a0:=(hr0 0 _ vn rfl rfl).cl;have a1:=(hr0 1 _ vu rfl rfl).cl;have a2:=(hr0 2 _ vl rfl rfl).cl;rcases h1.sl_inv with⟨_,h⟩|⟨ua,ucap,ucv,rfl,usz,h2,h3,h4,h5⟩
   ·have:wd= []:=by simpa using h
    rw[this]at w0;simp at w0
   have vG:(ints wd).length=wd.length:=oh;rw[vG]at h2;obtain⟨ub,uo,usp⟩:=ua;obtain rfl:usp=none:=(h4 0 (by rw[vG];omega)).1;have lI: ∀p,p<wd.length->VC w K (.sl 1 (ints (wd.drop p))) (.slice (some ⟨ub,uo+p,none⟩) (wd.length - p) (ucap - p)):=fun p hp=>by have:=VC.cut (xs:=ints wd) oa usz (by rw[vG];exact h2) h3 h4 h5 (l:=p) (h:=wd.length) (m:=ucap) oa (by rw[vG];exact wl _) h2 (wl _);rw[j7 oa]at this;have e1:(ints wd).take wd.length=ints wd:=yv (by rw[vG];exact wl _);rw[e1,Nat.mul_one,vE]at this;rw[ints,List.map_drop];exact this
   have:=DL nm lt us wd ho hl hg VG hk a0 a1 a2 lI h2 oa oa;rwa [<-vG]at this
end
section
attribute [local go_sem] vp Nte.row underlying100 List.getElem?_toArray List.getElem?_cons_zero List.getElem?_cons_succ
def qh(d:Dcm):Plc:=⟨vA d.tiers 2,vA d.tiers 3,vA d.tiers 4⟩
def Plc.row(p:Plc):List T:=[.c (li p.w),.c (li p.m),.c (li p.g)]
def QM(p:Plc):Bool:=decide (0<=p.w)&&decide (0<=p.m)&&decide (0<=p.g)
abbrev qgH:Dl.PL:=fun|1=> Dl.ll 0 8 [(8,.step),(9,.light),(10,.step)]|_=>[]
def cZ(d:Dcm)(hl:d.tiers.length<=1048576):DCalls pP 31 [.agg d.row] (.agg (qh d).row):=by
 have h2:=sG d.tiers 2 hl;have h3:=sG d.tiers 3 hl;have h4:=sG d.tiers 4 hl;unfold qh Plc.row;simp only;generalize vA d.tiers 2=a at*
 generalize vA d.tiers 3=b at*
 generalize vA d.tiers 4=c at*
 simp only[Dcm.row];refine dX (N:=13) (rs:=[.cell 2 100]) qgH func31 ?_;repeat' first|refine kx h2 ?_|refine kx h3 ?_|refine kx h4 ?_|refine gQ ?_|exact gU|refine gS ?_|exact gT|(first|apply xc|apply gf|apply gt)<;>intro hc
def dG(d:Dcm)(hl:d.tiers.length<=1048576):DCalls pP 29 [.agg d.row] (dv (lb (QM (qh d)))):=by
 have hF:=cZ d hl;generalize qh d=p at*
 obtain⟨w,m,g⟩:=p;simp only[Plc.row,Dcm.row,QM]at*
 refine dX (N:=19) (rs:=[.tmp 2]) qg func29 ?_;exact gA
def Cs(d:Dcm)(id:Int)(hl:d.tiers.length<=1048576)(hn:d.notes.length<=1048576):DCalls pP 44 [.agg d.row,dv (li id)] (.tup [.agg (qI d.notes id).1.row,dv (lb ((qI d.notes id).2&&((qI d.notes id).1.tier==(qh d).w)))]):=by
 have hF:=cZ d hl;have hG:=uR d id hn;generalize qh d=p at*
 obtain⟨w,m,g⟩:=p;generalize qI d.notes id=nb at*
 obtain⟨n,b⟩:=nb;simp only[Plc.row,Dcm.row,Nte.row]at*
 refine dX (N:=24) (rs:=[.cell 4 122,.tmp 5]) qg func44 ?_;refine gS ?_;refine kq ?_;simp -implicitDefEqProofs only[go_sem, *];refine xd ?_;cases b
 ·apply Zn (id:=2) (N:=24) [] [[],[],[1],[2],[3,2],[2],[5,2,2],[6,2],[4,7,2],[2,8],[0,6,0],[9,10,0,1,2,3,4,5,6,7,8,9,10]] (.bl 1 (.bl 2 (.bl 3 (.thr 0 (.two 4 (.run [5,6] (.two 7 (.two 8 (.two 9 (.run [10,11] .leaf) 10 (.run [9,11] .leaf)) 10 (.run [8,9,11] .leaf)) 10 (.run [7,8,9,11] .leaf))) 5 (.two 4 (.run [6] (.two 7 (.two 8 (.two 9 (.run [10,11] .leaf) 10 (.run [9,11] .leaf)) 10 (.run [8,9,11] .leaf)) 10 (.run [7,8,9,11] .leaf))) 6 (.thr 4 (.two 7 (.two 8 (.two 9 (.run [10,11] .leaf) 10 (.run [9,11] .leaf)) 10 (.run [8,9,11] .leaf)) 10 (.run [7,8,9,11] .leaf)) 7 (.two 4 (.two 8 (.two 9 (.run [10,11] .leaf) 10 (.run [9,11] .leaf)) 10 (.run [8,9,11] .leaf)) 10 (.run [4,8,9,11] .leaf)) 10 (.dia 4 7 (.run [8,9,11] .leaf))))) 4 (.two 0 (.run [5,6] (.two 7 (.two 8 (.two 9 (.run [10,11] .leaf) 10 (.run [9,11] .leaf)) 10 (.run [8,9,11] .leaf)) 10 (.run [7,8,9,11] .leaf))) 5 (.two 0 (.run [6] (.two 7 (.two 8 (.two 9 (.run [10,11] .leaf) 10 (.run [9,11] .leaf)) 10 (.run [8,9,11] .leaf)) 10 (.run [7,8,9,11] .leaf))) 6 (.two 0 (.two 7 (.two 8 (.two 9 (.run [10,11] .leaf) 10 (.run [9,11] .leaf)) 10 (.run [8,9,11] .leaf)) 10 (.run [7,8,9,11] .leaf)) 7 (.two 0 (.two 8 (.two 9 (.run [10,11] .leaf) 10 (.run [9,11] .leaf)) 10 (.run [8,9,11] .leaf)) 8 (.two 0 (.two 9 (.run [10,11] .leaf) 10 (.run [9,11] .leaf)) 9 (.run [0,10,11] .leaf)))))) 5 (.thr 0 (.two 4 (.run [6] (.two 7 (.two 8 (.two 9 (.run [10,11] .leaf) 10 (.run [9,11] .leaf)) 10 (.run [8,9,11] .leaf)) 10 (.run [7,8,9,11] .leaf))) 6 (.thr 4 (.two 7 (.two 8 (.two 9 (.run [10,11] .leaf) 10 (.run [9,11] .leaf)) 10 (.run [8,9,11] .leaf)) 10 (.run [7,8,9,11] .leaf)) 7 (.two 4 (.two 8 (.two 9 (.run [10,11] .leaf) 10 (.run [9,11] .leaf)) 10 (.run [8,9,11] .leaf)) 10 (.run [4,8,9,11] .leaf)) 10 (.dia 4 7 (.run [8,9,11] .leaf)))) 4 (.two 0 (.run [6] (.two 7 (.two 8 (.two 9 (.run [10,11] .leaf) 10 (.run [9,11] .leaf)) 10 (.run [8,9,11] .leaf)) 10 (.run [7,8,9,11] .leaf))) 6 (.two 0 (.two 7 (.two 8 (.two 9 (.run [10,11] .leaf) 10 (.run [9,11] .leaf)) 10 (.run [8,9,11] .leaf)) 10 (.run [7,8,9,11] .leaf)) 7 (.two 0 (.two 8 (.two 9 (.run [10,11] .leaf) 10 (.run [9,11] .leaf)) 10 (.run [8,9,11] .leaf)) 8 (.two 0 (.two 9 (.run [10,11] .leaf) 10 (.run [9,11] .leaf)) 9 (.run [0,10,11] .leaf))))) 6 (.thr 0 (.thr 4 (.two 7 (.two 8 (.two 9 (.run [10,11] .leaf) 10 (.run [9,11] .leaf)) 10 (.run [8,9,11] .leaf)) 10 (.run [7,8,9,11] .leaf)) 7 (.two 4 (.two 8 (.two 9 (.run [10,11] .leaf) 10 (.run [9,11] .leaf)) 10 (.run [8,9,11] .leaf)) 10 (.run [4,8,9,11] .leaf)) 10 (.dia 4 7 (.run [8,9,11] .leaf))) 4 (.two 0 (.two 7 (.two 8 (.two 9 (.run [10,11] .leaf) 10 (.run [9,11] .leaf)) 10 (.run [8,9,11] .leaf)) 10 (.run [7,8,9,11] .leaf)) 7 (.two 0 (.two 8 (.two 9 (.run [10,11] .leaf) 10 (.run [9,11] .leaf)) 10 (.run [8,9,11] .leaf)) 8 (.two 0 (.two 9 (.run [10,11] .leaf) 10 (.run [9,11] .leaf)) 9 (.run [0,10,11] .leaf)))) 7 (.two 0 (.two 4 (.two 8 (.two 9 (.run [10,11] .leaf) 10 (.run [9,11] .leaf)) 10 (.run [8,9,11] .leaf)) 10 (.run [4,8,9,11] .leaf)) 4 (.two 0 (.two 8 (.two 9 (.run [10,11] .leaf) 10 (.run [9,11] .leaf)) 10 (.run [8,9,11] .leaf)) 8 (.two 0 (.two 9 (.run [10,11] .leaf) 10 (.run [9,11] .leaf)) 9 (.run [0,10,11] .leaf))))))))));kernel_rfl;rfl;kernel_rfl;kernel_rfl;simp -implicitDefEqProofs only[go_sem, *]
 ·apply Zn (id:=2) (N:=24) [] [[],[],[1],[2],[3,2],[2],[5,2,2],[6,2],[4,7,2],[2,8],[0,6,0],[9,10,0,1,2,3,4,5,6,7,8,9,10]] (.bl 1 (.bl 2 (.bl 3 (.thr 0 (.two 4 (.run [5,6] (.two 7 (.two 8 (.two 9 (.run [10,11] .leaf) 10 (.run [9,11] .leaf)) 10 (.run [8,9,11] .leaf)) 10 (.run [7,8,9,11] .leaf))) 5 (.two 4 (.run [6] (.two 7 (.two 8 (.two 9 (.run [10,11] .leaf) 10 (.run [9,11] .leaf)) 10 (.run [8,9,11] .leaf)) 10 (.run [7,8,9,11] .leaf))) 6 (.thr 4 (.two 7 (.two 8 (.two 9 (.run [10,11] .leaf) 10 (.run [9,11] .leaf)) 10 (.run [8,9,11] .leaf)) 10 (.run [7,8,9,11] .leaf)) 7 (.two 4 (.two 8 (.two 9 (.run [10,11] .leaf) 10 (.run [9,11] .leaf)) 10 (.run [8,9,11] .leaf)) 10 (.run [4,8,9,11] .leaf)) 10 (.dia 4 7 (.run [8,9,11] .leaf))))) 4 (.two 0 (.run [5,6] (.two 7 (.two 8 (.two 9 (.run [10,11] .leaf) 10 (.run [9,11] .leaf)) 10 (.run [8,9,11] .leaf)) 10 (.run [7,8,9,11] .leaf))) 5 (.two 0 (.run [6] (.two 7 (.two 8 (.two 9 (.run [10,11] .leaf) 10 (.run [9,11] .leaf)) 10 (.run [8,9,11] .leaf)) 10 (.run [7,8,9,11] .leaf))) 6 (.two 0 (.two 7 (.two 8 (.two 9 (.run [10,11] .leaf) 10 (.run [9,11] .leaf)) 10 (.run [8,9,11] .leaf)) 10 (.run [7,8,9,11] .leaf)) 7 (.two 0 (.two 8 (.two 9 (.run [10,11] .leaf) 10 (.run [9,11] .leaf)) 10 (.run [8,9,11] .leaf)) 8 (.two 0 (.two 9 (.run [10,11] .leaf) 10 (.run [9,11] .leaf)) 9 (.run [0,10,11] .leaf)))))) 5 (.thr 0 (.two 4 (.run [6] (.two 7 (.two 8 (.two 9 (.run [10,11] .leaf) 10 (.run [9,11] .leaf)) 10 (.run [8,9,11] .leaf)) 10 (.run [7,8,9,11] .leaf))) 6 (.thr 4 (.two 7 (.two 8 (.two 9 (.run [10,11] .leaf) 10 (.run [9,11] .leaf)) 10 (.run [8,9,11] .leaf)) 10 (.run [7,8,9,11] .leaf)) 7 (.two 4 (.two 8 (.two 9 (.run [10,11] .leaf) 10 (.run [9,11] .leaf)) 10 (.run [8,9,11] .leaf)) 10 (.run [4,8,9,11] .leaf)) 10 (.dia 4 7 (.run [8,9,11] .leaf)))) 4 (.two 0 (.run [6] (.two 7 (.two 8 (.two 9 (.run [10,11] .leaf) 10 (.run [9,11] .leaf)) 10 (.run [8,9,11] .leaf)) 10 (.run [7,8,9,11] .leaf))) 6 (.two 0 (.two 7 (.two 8 (.two 9 (.run [10,11] .leaf) 10 (.run [9,11] .leaf)) 10 (.run [8,9,11] .leaf)) 10 (.run [7,8,9,11] .leaf)) 7 (.two 0 (.two 8 (.two 9 (.run [10,11] .leaf) 10 (.run [9,11] .leaf)) 10 (.run [8,9,11] .leaf)) 8 (.two 0 (.two 9 (.run [10,11] .leaf) 10 (.run [9,11] .leaf)) 9 (.run [0,10,11] .leaf))))) 6 (.thr 0 (.thr 4 (.two 7 (.two 8 (.two 9 (.run [10,11] .leaf) 10 (.run [9,11] .leaf)) 10 (.run [8,9,11] .leaf)) 10 (.run [7,8,9,11] .leaf)) 7 (.two 4 (.two 8 (.two 9 (.run [10,11] .leaf) 10 (.run [9,11] .leaf)) 10 (.run [8,9,11] .leaf)) 10 (.run [4,8,9,11] .leaf)) 10 (.dia 4 7 (.run [8,9,11] .leaf))) 4 (.two 0 (.two 7 (.two 8 (.two 9 (.run [10,11] .leaf) 10 (.run [9,11] .leaf)) 10 (.run [8,9,11] .leaf)) 10 (.run [7,8,9,11] .leaf)) 7 (.two 0 (.two 8 (.two 9 (.run [10,11] .leaf) 10 (.run [9,11] .leaf)) 10 (.run [8,9,11] .leaf)) 8 (.two 0 (.two 9 (.run [10,11] .leaf) 10 (.run [9,11] .leaf)) 9 (.run [0,10,11] .leaf)))) 7 (.two 0 (.two 4 (.two 8 (.two 9 (.run [10,11] .leaf) 10 (.run [9,11] .leaf)) 10 (.run [8,9,11] .leaf)) 10 (.run [4,8,9,11] .leaf)) 4 (.two 0 (.two 8 (.two 9 (.run [10,11] .leaf) 10 (.run [9,11] .leaf)) 10 (.run [8,9,11] .leaf)) 8 (.two 0 (.two 9 (.run [10,11] .leaf) 10 (.run [9,11] .leaf)) 9 (.run [0,10,11] .leaf))))))))));kernel_rfl;rfl;kernel_rfl;kernel_rfl;refine gS ?_
  (repeat' apply And.intro)<;>(refine kq ?_;simp -implicitDefEqProofs only[go_sem, *])
attribute [local go_sem] vp Nte.row Nte.enc underlying100 List.getElem?_toArray List.getElem?_cons_zero List.getElem?_cons_succ
def Af(d:Dcm)(w:Int)(U:Int->List Int):List Int:=(d.kids w (qh d).m).flatMap fun k=>k::U k
def Se(d:Dcm)(w:Int)(U:Int->List Int):Dcm×Int:=
 if QM (qh d)=false then(noDcm,14)else if((qI d.notes w).2&&((qI d.notes w).1.tier==(qh d).w))=false then(noDcm,9)else(d.withN (d.notes.filter fun n=> !((Af d w U).any fun x=>n.id==x)),0)
abbrev pl35:Dl.PL:=fun|7=> Dl.ll 0 8 []|_=>[]
def Wr(d:Dcm)(w:Int)(U:Int->List Int)(hl:d.tiers.length<=1048576)(hn:d.notes.length<=1000000)(uL:(d.kidN w (qh d).m).length<=19)(hU: ∀k∈d.kids w (qh d).m,DCalls pP 70 [.agg d.row,dv (li k)] (dv (.sl 1 (ints (U k))))/\(U k).length<=20000):
  DCalls pP 35 [.agg d.row,dv (li w)] (.tup [.agg (Se d w U).1.row,dv (li (Se d w U).2)]):=by
 have qi:=qo;have hR:=dG d hl;have hG:=Cs d w hl oa;have hF:=cZ d hl;have hK:=oZ d w (qh d).m hn uL;unfold Se Af;generalize qh d=p at*
 obtain⟨pw,m,g⟩:=p;generalize QM ⟨pw,m,g⟩=rb at*
 generalize qI d.notes w=nb at*
 obtain⟨n,b⟩:=nb;simp only at*
 generalize (b&&n.tier==pw)=ok at*
 have hks:(d.kids w m).length<=19:=by unfold Dcm.kids;rw[wn];exact uL
 generalize d.kids w m=ks at*
 simp only[Plc.row,Dcm.row,Nte.row]at*
 cases rb
 ·simp only[an];clear hG hF hK hU;refine dX (N:=67) (rs:=[.cell 4 42,.tmp 5]) pl35 func35 ?_;refine gB ?_;exact eV [.c (.lit (.int .i64 0)),.c (.lit (.string ⟨#[]⟩)),.c (.lit (.int .i64 0)),.c (.lit (.int .i64 0)),.ex 1 [],.ex 4 [],.ex 7 []]
 ·cases ok
  ·simp only[an,Bool.true_eq_false,ap];clear hF hK hU;refine dX (N:=67) (rs:=[.cell 4 42,.tmp 5]) pl35 func35 ?_;repeat' first|refine kx hR ?_|refine kx hG ?_|refine gQ ?_|exact gU|refine gS ?_|exact gT|(first|apply xc|apply gf|apply gt)<;>intro hc
   exact eV [.c (.lit (.int .i64 0)),.c (.lit (.string ⟨#[]⟩)),.c (.lit (.int .i64 0)),.c (.lit (.int .i64 0)),.ex 1 [],.ex 4 [],.ex 7 []]
  ·simp only[Bool.true_eq_false,ap];replace hU:Kp _:=⟨hU⟩;refine dX (N:=67) (rs:=[.cell 4 42,.tmp 5]) pl35 func35 ?_;repeat' first|refine kx hR ?_|refine kx hG ?_|refine kx hF ?_|refine kx hK ?_|refine gQ ?_|exact gU|refine gS ?_|exact gT|(first|apply xc|apply gf|apply gt)<;>intro hc
   clear hR hG hF hK;refine xo 8 8 1 ?_;refine lp ks [2,4,32,33] [2,4] (fun k=>[(8,.one (.own 8 1 (ints ((ks.take k).flatMap fun k=>k::U k)))),(34,dv (li k))]) (fun _=>[]) (fun k=>((ks.take k).flatMap fun k=>k::U k).length<=k*20001) oh ?_ ?_ (h0:=oB)
   ·intro k x hx bw hm qs qf hw hv;obtain⟨hUx,hUl⟩:=hU.1 x hm;have vO:(ks.take (k+1)).flatMap (fun k=>k::U k)=(ks.take k).flatMap (fun k=>k::U k)++x::U x:=og;rw[vO];generalize (ks.take k).flatMap (fun k=>k::U k)=q at*
    clear qs vO hm hU;have lE:(q.length+1)*8<=140737488355328:=oa;refine gS ?_;refine xd ?_;apply Zn (id:=10) (N:=67) [] [[],[],[1],[0,2],[],[],[4,5,3],[3,6,6],[7,7,0,1,2,3,4,5,6,7]] (.bl 0 (.bl 1 (.bl 5 (.two 2 (.two 3 (.run [4,6,7,8] .leaf) 4 (.run [3,6,7,8] .leaf)) 4 (.run [2,3,6,7,8] .leaf)))));kernel_rfl;rfl;kernel_rfl;kernel_rfl;refine gS ?_;have vh:(q++x::U x).length<=(k+1)*20001:=og;have Ac:ints (q++x::U x)=ints q++[li x]::ints (U x):=oh;have hro2:(q.length+1+(U x).length)*8<=140737488355328:=oa
    (repeat' apply And.intro)<;>(refine kq ?_;simp -implicitDefEqProofs only[go_sem, *])
    all_goals refine⟨by simp[ints];omega,?_⟩
    all_goals rw[wS]
    all_goals first|exact Zb|exact⟨vh,Zb⟩
   ·intro qf hv;rw[wc]at hv ⊢;generalize ks.flatMap (fun k=>k::U k)=L at*
    have hH:=fun x=>Co L x oa;clear hU;refine gB ?_;refine xo 11 11 7 ?_;refine lp d.notes [2,4,8,48,49] [2,4] (fun k=>[(11,.one (.own 11 7 (((d.notes.take k).filter fun n=> !(L.any fun x=>n.id==x)).map Nte.enc))),(50,dv (li k))]) (fun _=>[]) (fun k=>((d.notes.take k).filter fun n=> !(L.any fun x=>n.id==x)).length<=k) oh ?_ ?_ (h0:=by simp +decide only[go_sem,wy,jJ,wm])
    ·intro k n hx bw hm qs qf hw hv;have hHn:=hH n.id;have vO:((d.notes.take (k+1)).filter fun n=> !(L.any fun x=>n.id==x))=((d.notes.take k).filter fun n=> !(L.any fun x=>n.id==x))++(if(L.any fun x=>n.id==x)=true then []else [n]):=og;rw[vO];generalize ((d.notes.take k).filter fun n=> !(L.any fun x=>n.id==x))=q at*
     generalize (L.any fun x=>n.id==x)=bb at*
     clear qs vO hm hH;have lE:(q.length+1)*64<=140737488355328:=oa;cases bb
     ·refine gB ?_;exact⟨ot,Zb⟩
     ·refine gB ?_;exact⟨oa,Zb⟩
    ·intro qf hv;rw[wc]at hv ⊢;refine gB ?_;exact eV [.c (li d.rc.id),.c (ls d.rc.name),.c (li d.rc.len),.c (li d.rc.day),.c (.sl 1 (ints d.rc.sp)),.c (.sl 4 (d.tiers.map Tir.enc)),.own 11 7 ((d.notes.filter fun n=> !L.any fun x=>n.id==x).map Nte.enc)]
attribute [local go_sem] vp Nte.row Nte.enc
def xO(l:List ByteArray):List (List Dl.C):=l.map fun s=>[ls s]
def qfc:DLe (.one (.c (.lit (.slice none 0 0)))) (.one (.c (.sl 1 (xO [])))):=by simp only[go_sem,xO,wm]
def DG(l:List ByteArray)(s:ByteArray):xO (l++[s])=xO l++[[ls s]]:=by simp[xO]
def NT(d:Dcm)(w:Int):Bool:=((qI d.notes w).2&&((qI d.notes w).1.tier==(qh d).w))&&QM (qh d)
def Um(d:Dcm)(w:Int)(hl:d.tiers.length<=1048576)(hn:d.notes.length<=1000000)(uL: ∀id t,(d.kidN id t).length<=19):
  DCalls pP 14 [.agg d.row,dv (li w)] (.tup [dv (.sl 1 (xO (if NT d w=true then Qa d (qh d) w else []))),dv (.sl 1 (xO (if NT d w=true then Ql d (qh d) w else [])))]):=by
 have qi:=qo;have hR:=dG d hl;have hG:=Cs d w hl oa;have hF:=cZ d hl;have hT:=fun k=>uR d k oa;have hK:=fun id t=>oZ d id t hn (uL id t);unfold NT Qa Ql;generalize qh d=p at*
 obtain⟨pw,m,g⟩:=p;generalize QM ⟨pw,m,g⟩=rb at*
 generalize rI:qI d.notes w=nb at*
 obtain⟨n,b⟩:=nb;simp only at*
 generalize (b&&n.tier==pw)=ok at*
 have hks: ∀id t,(d.kids id t).length<=19:=fun id t=>by unfold Dcm.kids;rw[wn];exact uL id t
 clear rI;simp only[Plc.row,Dcm.row,Nte.row]at*
 cases ok
 ·simp only[Bool.false_and,yq,ap];clear hR hF hK hT;refine dX (N:=82) (rs:=[.tmp 4,.tmp 5]) qg func14 ?_;refine gB ?_;all_goals exact qfc
 ·cases rb
  ·simp only[jb,yq,ap];clear hF hK hT;refine dX (N:=82) (rs:=[.tmp 4,.tmp 5]) qg func14 ?_;repeat' first|refine kx hG ?_|refine kx hR ?_|refine gQ ?_|exact gU|refine gS ?_|exact gT|(first|apply xc|apply gf|apply gt)<;>intro hc
   all_goals exact qfc
  ·simp only[jb,an];replace hT:Kp _:=⟨hT⟩;replace hK:Kp _:=⟨hK⟩;have hKw:=hK.1 w m;refine dX (N:=82) (rs:=[.tmp 4,.tmp 5]) qg func14 ?_;repeat' first|refine kx hG ?_|refine kx hR ?_|refine kx hF ?_|refine kx hKw ?_|refine gQ ?_|exact gU|refine gS ?_|exact gT|(first|apply xc|apply gf|apply gt)<;>intro hc
   clear hG hR hF hKw;have hksl:=hks w m;generalize d.kids w m=ks at*
   refine xo 9 9 1 ?_;refine xo 10 10 1 ?_;refine lp ks [2,8,39,40] [2,8] (fun k=>[(9,.one (.own 9 1 (xO ((ks.take k).map (qu d.notes))))),(10,.one (.own 10 1 (xO ((ks.take k).map fun k=>Zr d k g)))),(41,dv (li k))]) (fun _=>[]) (fun _=>True) trivial ?_ ?_ (h0:=by simp +decide only[go_sem,wy,wm,xO])
   ·intro k x hx bw hm qs qf hw _;have hTx:=hT.1 x;have hKx:=hK.1 x g;rw[qs,yt,yt,wo,wo,wm,wm,DG,DG];have hq1:(xO ((ks.take k).map (qu d.notes))).length<=19:=by simp[xO];omega
    have LH:(xO ((ks.take k).map fun k=>Zr d k g)).length<=19:=by simp[xO];omega
    generalize xO ((ks.take k).map (qu d.notes))=Q1 at*
    generalize xO ((ks.take k).map fun k=>Zr d k g)=Q2 at*
    have hxt:qu d.notes x=(qI d.notes x).1.txt:=rfl;unfold Zr;rw[hxt];generalize qI d.notes x=nb at*
    obtain⟨n',b'⟩:=nb;simp only at hTx ⊢;have hks2:=hks x g;generalize d.kids x g=js at*
    clear qs hm hxt;repeat' first|refine kx hTx ?_|refine kx hKx ?_|refine gQ ?_|exact gU|refine gS ?_|exact gT|(first|apply xc|apply gf|apply gt)<;>intro hc
    clear hTx hKx hx;refine lp js [2,8,9,10,13,39,40,41,55,56] [2,8,13] (fun j=>[(15,dv (ls ((js.take j).foldl (fun _ k=>qu d.notes k) ye))),(57,dv (li j))]) (fun _=>[]) (fun _=>True) trivial ?_ ?_ (h0:=by simp +decide only[go_sem,wy,yj,ye,ByteArray.emptyWithCapacity];exact .inl rfl)
    ·intro j y hy A8 hm qs qf hw _;have hTy:=hT.1 y;rw[qs,yZ,yE,yj];have qdP:qu d.notes y=(qI d.notes y).1.txt:=rfl;rw[qdP];generalize qI d.notes y=nb at*
     obtain⟨n2,b2⟩:=nb;simp only at hTy ⊢;clear qs hm qdP;repeat' first|refine kx hTy ?_|refine gQ ?_|exact gU|refine gS ?_|exact gT|(first|apply xc|apply gf|apply gt)<;>intro hc
     all_goals first|exact qJ|exact Zb|exact⟨trivial,Zb⟩
    ·intro qf _;rw[wc];generalize js.foldl (fun _ k=>qu d.notes k) ye=last;have ef:(Q1.length+1)*16<=140737488355328:=oa;have hr2:(Q2.length+1)*16<=140737488355328:=oa;refine gB ?_;all_goals first|exact qJ|exact Zb|exact⟨trivial,Zb⟩
   ·intro qf _;rw[wc];exact gA
attribute [local go_sem] vp ZO Sns.enc Prt.enc Prt.row Ent.row
structure SpG(g:Lg):Prop where
 sz:SzG g
 ok:OkU g.units
 units:g.units.length<=1000000
abbrev qeM:Dl.PL:=fun|9=> Dl.ll 0 8 ((8,.step)::Dl.ll 9 7 [])|13=> Dl.ll 0 12 [(12,.step),(13,.light)]|_=>[]
def Ja(H:SpG g)(a:List Prt)(hn:a.length<=1000000):DCalls pP 72 [.agg g.row,.agg [.c (Zf a)]] (.tup [dv (.sl 1 (strs (QZ g a).1)),dv (.sl 1 (strs (QZ g a).2.1)),dv (li (QZ g a).2.2)]):=by
 have qi:=qo;have hR:=IN g a H.sz hn;rw[<-qD]at hR ⊢;simp only[Zf]at hR ⊢;unfold QZ;by_cases h0:Qy g a=0;rotate_left
 ·rw[ae h0];have t0:(Qy g a==0)=false:=by rw[aA];exact h0
  clear h0;generalize Qy g a=e at*
  refine dX (N:=74) (rs:=[.tmp 4,.tmp 5,.tmp 6]) qeM func72 ?_;refine gB ?_;simp only[go_sem,strs,wm]
  done
 rw[j7 (by simpa using h0)];have AZ: ∀p∈a,fh g.lex p=0:=fun p hp=>by
  unfold Qy at h0;split at h0
  ·omega
  split at h0
  ·omega
  split at h0
  ·rename_i h5;exact ak h0 h5
  rename_i h5;exact po (by simpa using h5) _ (List.mem_map_of_mem hp)
 rw[h0]at hR;clear h0;have hG:=fun p:Prt=>rK g.lex p.ent H.sz.lex;simp only[<-uS]at hG;have hS:=fun p:Prt=>my g.lex p.ent H.sz.lex H.sz.sens;have hSp:=fun w=>T7 (ls g.nm) (.sl 1 (g.letters.map Z2)) g.units w H.ok H.units (fun u hu=>(H.sz.unit u hu).1) (fun u hu=>(H.sz.unit u hu).2);obtain⟨R,Yk⟩: ∃R,R=ck g a ([],[]):=⟨_,rfl⟩;rw[<-Yk];replace Yk:Kp _:=⟨Yk⟩;refine dX (N:=74) (rs:=[.tmp 4,.tmp 5,.tmp 6]) qeM func72 ?_;refine gB ?_;refine xo 8 8 1 ?_;refine xo 9 9 1 ?_;refine S7 a [2,24,25] [2] (fun k (y:List ByteArray×List ByteArray)=>[(8,.one (.own 8 1 (strs y.1))),(9,.one (.own 9 1 (strs y.2))),(26,dv (li k))]) (fun _ _=>[]) (fun k y=>R=ck g (a.drop k) y/\y.1.length=k/\y.2.length=k) ([],[]) ⟨Yk.1,rfl,rfl⟩ ?_ ?_ (h0:=by simp +decide only[go_sem,strs,wm])
 ·rintro k p ⟨fs,gs⟩ hp hk hm qs qf hw ⟨hi,F7,ga⟩;simp only at F7 ga;have EW:=AZ p hm;rw[aW hp,ck]at hi;unfold fh at EW;split at EW
  ·omega
  rename_i g1;split at EW
  ·omega
  rename_i g2;split at EW
  ·omega
  rename_i g3;clear EW AZ;have hG:=hG p;have hS:=hS p;have Cn:(vz g.lex p.ent).1.alts.length<=1048576:=by
   rcases gj g.lex p.ent with h|h
   ·have:=(H.sz.ents _ h).1;omega
   ·rw[h];exact wM _
  have hF:=uV (vz g.lex p.ent).1 Cn;have hSp:=hSp (cY g.lex p);unfold tB at hi;unfold cy at g2;have g5:0<=p.alt/\p.alt<((ZT (vz g.lex p.ent).1).length:Int):=by simp only[Bool.not_eq_false,we,aj]at g2;exact⟨g2.1.2,g2.2⟩
  obtain⟨x,hx⟩: ∃x,(ZT (vz g.lex p.ent).1)[p.alt.toNat]? =some x:=⟨_,wa oa⟩;obtain⟨y,hy⟩: ∃y,(Zy g.lex p.ent)[p.sns.toNat]? =some y:=⟨_,wa oa⟩;have s0:0<=p.sns:=oa;have hA:cY g.lex p=x:=by unfold cY;rw[show QR (vz g.lex p.ent).1=ZT (vz g.lex p.ent).1 from rfl,hx];rfl
  have hB:gY g.lex p=y.gloss:=by unfold gY;rw[hy];rfl
  rw[hA]at hSp hi;rw[hB]at hi;clear hA hB Cn;generalize ZT (vz g.lex p.ent).1=fo at*
  generalize Zy g.lex p.ent=ss at*
  generalize vz g.lex p.ent=eb at*
  generalize ZJ g.units x=sp at*
  obtain⟨e,b⟩:=eb;obtain⟨s1,s2,s3⟩:=sp;obtain⟨ent,alt,sns⟩:=p;have g4:0<=alt:=g5.1;have s1':0<=sns:=s0;obtain⟨ai,rfl⟩: ∃ai:Nat,alt=ai:=⟨alt.toNat,oa⟩;obtain⟨si,rfl⟩: ∃si:Nat,sns=si:=⟨sns.toNat,oa⟩;simp only[wO,Ent.row]at hG hS hF hSp hx hy hi;clear g1 g2 g3 g4 g5 s0 s1' hm qs hR;replace hi:Kp _:=⟨hi⟩;have lE:(k+1)*16<=140737488355328:=oa;have hsf:(strs fs).length=k:=by simp[strs,F7]
  have VG:(strs gs).length=k:=by simp[strs,ga]
  replace F7:Kp _:=⟨F7⟩;replace ga:Kp _:=⟨ga⟩;refine gC ?_ ?_<;>intro hc
  ·have e:=hi.1;rw[ae oA]at e;rw[e];exact⟨by simp only[go_sem,strs,wm],by simp only[go_sem,strs,wm],DLe.rfl_ _⟩
  ·have e:=hi.1;rw[j7 oA]at e;exact⟨(fs++[s1],gs++[y.gloss]),⟨e,by simp[F7.1],by simp[ga.1]⟩,by simp only[strs,yt,wo,wm];exact qJ⟩
 rintro⟨fs,gs⟩ qf ⟨hi,F7,ga⟩;rw[jh,ck]at hi;subst hi;clear hG hS hSp;exact gA
 done
attribute [local go_sem] vp ZO Dcm.row
def EH{g:Lg}: ∀(a:List Prt) (r:List ByteArray×List ByteArray),(ck g a r).1.length<=r.1.length+a.length/\(ck g a r).2.1.length<=r.2.length+a.length
  | [],r=>⟨by simp[ck],by simp[ck]⟩
  | p::a,r=>by
    simp only[ck];split
    · simp
    · have:=EH (g:=g) a (r.1++[(tB g p).1],r.2++[gY g.lex p]);simp at this ⊢;omega
def EI(g:Lg)(a:List Prt):(QZ g a).1.length<=a.length/\(QZ g a).2.1.length<=a.length:=by
  unfold QZ;split
  · simp
  · have:=EH (g:=g) a ([],[]);simpa using this
def Kl(hr:QM (qh d)=true)(w:Int):NT d w=vK d (qh d) w:=by unfold NT vK;rw[hr,Bool.and_true]
structure GlsD(d:Dcm):Prop where
  tiers:d.tiers.length<=1000000
  notes:d.notes.length<=1000000
  kids: ∀id t,(d.kidN id t).length<=19
  txt: ∀n∈d.notes,n.txt.size<=1048576
  ready:QM (qh d)=true
def GlsD.at_(h:GlsD d)(w:Int):(qu d.notes w).size<=1048576:=by
  unfold qu qI;split
  · rename_i n hn;exact h.txt n (jD hn)
  · exact wM _
def lx(h:GlsD d)(id t:Int):(d.kids id t).length<=19:=by unfold Dcm.kids;rw[wn];exact h.kids id t
def fK(h:GlsD d)(w:Int):DCalls pP 14 [.agg d.row,dv (li w)] (.tup [dv (.sl 1 (strs (vk d (qh d) w).1)),dv (.sl 1 (strs (vk d (qh d) w).2))]):=by
  have:=Um d w (by have:=h.tiers;omega) h.notes h.kids;rw[Kl h.ready]at this;unfold vk;split
  · rename_i e;rw[ae e,ae e]at this;exact this
  · rename_i e;rw[j7 e,j7 e]at this;exact this
def iY(h:GlsD d)(w:Int):(vk d (qh d) w).1.length<=19/\(vk d (qh d) w).2.length<=19:=by
  have:=lx h w (qh d).m;unfold vk Qa Ql;split
  · grind
  · simp
def IH{g:Lg}(H:SpG g)(l:List Dcs)(rc:Int){d:Dcm}(h:GlsD d)(w:Int)(a:List Prt)(hn:a.length<=1000000):
    DCalls pP 36 [.agg d.row,.agg g.row,dv (li w),.agg [.c (Zf a)]] (dv (lb (Qx (fc g l rc) d (qh d) w a))):=by
  have hL:=Ja H a hn;have hS:=fK h w;have hl:=EI g a;have hs:=iY h w;have Tl:=Ft (QZ g a).1 (vk d (qh d) w).1 oa oa;have De:=Ft (QZ g a).2.1 (vk d (qh d) w).2 oa oa;have uI:Qx (fc g l rc) d (qh d) w a=(decide ((QZ g a).2.2=0)&&(decide ((QZ g a).1=(vk d (qh d) w).1)&&decide ((QZ g a).2.1=(vk d (qh d) w).2))):=rfl;rw[uI,<-qD];rw[<-qD]at hL;clear uI hl hs h;generalize vk d (qh d) w=s at*
  generalize QZ g a=r at*
  obtain⟨s1,s2⟩:=s;obtain⟨r1,r2,r3⟩:=r;simp only[Zf]at hL hS Tl De ⊢;generalize decide (r1=s1)=b1 at*
  generalize decide (r2=s2)=b2 at*
  have he:decide (r3=0)=(r3==0):=rfl;rw[he];replace Tl:Kp _:=⟨Tl⟩;replace De:Kp _:=⟨De⟩;cases ht:(r3==0)
  · refine dX (N:=39) (rs:=[.tmp 8]) qg func36 ?_;exact gA
  · cases b1
    · have Tl:=Tl.1;refine dX (N:=39) (rs:=[.tmp 8]) qg func36 ?_;exact gA
    · refine dX (N:=39) (rs:=[.tmp 8]) qg func36 ?_;repeat' first|refine kx Tl.1 ?_|refine kx De.1 ?_|refine gQ ?_|exact gU|refine gS ?_|exact gT|(first|apply xc|apply gf|apply gt)<;>intro hc
def qbr(H:SzG g)(s:ByteArray)(a:List Prt)(hs:s.size<=1048576)(hn:a.length<=1000000):DCalls pP 74 [.agg g.row,dv (ls s),.agg [.c (Zf a)]] (dv (lb (EJ g s a))):=by
  have hR:=GQ (ls g.nm) (.sl 1 (g.letters.map Z2)) g.units s H.units H.unit hs;have hL:=XP g (a8 g.units s).1 a H hn (by have:=AI g.units s;omega) (by have:=Bg g a;omega);rw[<-qD]at hL ⊢;unfold EJ;generalize a8 g.units s=R at*
  obtain⟨w,x,e⟩:=R;simp only at hR hL ⊢;generalize Pi g w a=b at*
  have he:decide (e=0)=(e==0):=rfl;rw[he];generalize ht:(e==0)=t0 at*
  cases t0
  · refine dX (N:=26) (rs:=[.tmp 6]) qg func74 ?_;exact gA
  · refine dX (N:=26) (rs:=[.tmp 6]) qg func74 ?_;exact gA
attribute [local go_sem] Sta.ag Sta.enc Nte.row
def DI{g:Lg}(H:SrL g)(l:List Dcs){d:Dcm}(h:GlsD d)(w:Int)(hl:l.length<=1048576)(hp: ∀d∈l,d.pick.length<=1000000):
    DCalls pP 33 [.agg d.row,.agg g.row,dv (.sl 4 (l.map Dcs.enc)),dv (li w)] (vI g ⟨d.rc.id,w⟩ (qu d.notes w) l).ag:=by
  have hG:=uR d w (by have:=h.notes;omega);have hS:=NM H ⟨d.rc.id,w⟩ (qu d.notes w) l (h.at_ w) hl hp;rw[<-qD]at hS ⊢;unfold qu at*
  generalize qI d.notes w=r at*
  obtain⟨n,b⟩:=r;simp only at hS hG ⊢;generalize vI g ⟨d.rc.id,w⟩ n.txt l=Z at*
  refine dX (N:=27) (rs:=[.cell 8 71]) qg func33 ?_;exact gA
def nR(g:Lg)(l:List Dcs)(d:Dcm)(w:Int):Bool:=
  decide (0<(d.kids w (qh d).m).length)&&(decide ((vI g ⟨d.rc.id,w⟩ (qu d.notes w) l).kind≠4)|| !Qx (fc g l d.rc.id) d (qh d) w (vI g ⟨d.rc.id,w⟩ (qu d.notes w) l).pick)
def fI{r:Rf}{s:ByteArray}{l:List Dcs}(hp: ∀d∈l,d.pick.length<=1000000):(vI g r s l).pick.length<=1000000:=by
  have hk:=JL g r s l;unfold vI;split
  · rename_i a ha;have:a.length<=1000000:=by
      unfold dK at ha;cases hfd:l.find? fun d=>decide (d.ref=r)&&d.yes with
      | none=>grind
      | some d=>grind
    split<;>exact this
  · grind
def Tu{g:Lg}(H:SrL g)(Hs:SpG g)(l:List Dcs){d:Dcm}(h:GlsD d)(hd:KidsOk d)(hl:l.length<=1048576)(hp: ∀d∈l,d.pick.length<=1000000):
    DCalls pP 12 [.agg d.row,.agg g.row,dv (.sl 4 (l.map Dcs.enc))] (dv (.sl 1 (ints (S.usort ((Za d (qh d).w).filter (nR g l d)))))):=by
  have qi:=qo;have hR:=dG d (by have:=h.tiers;omega);have hF:=cZ d (by have:=h.tiers;omega);have hO:=qa4 d hd _ (qh d).w (show(qh d).w<((qh d).w.toNat+1:Nat) by omega);have hwl:(Za d (qh d).w).length<=1000000:=hd.ofs _ _;have hW:=sorted_D ((Za d (qh d).w).filter (nR g l d)) (wu (yN _ _) hwl);have Cp:=fun w=>DI H l h w hl hp;have hK:=fun w=>oZ d w (qh d).m h.notes (h.kids _ _);have Dd:=fun w=>IH Hs l d.rc.id h w (vI g ⟨d.rc.id,w⟩ (qu d.notes w) l).pick (fI hp);have uL:=fun w=>lx h w (qh d).m;rw[h.ready]at hR;have hB: ∀w,nR g l d w=(decide (0<(d.kids w (qh d).m).length)&&(decide ((vI g ⟨d.rc.id,w⟩ (qu d.notes w) l).kind≠4)|| !Qx (fc g l d.rc.id) d (qh d) w (vI g ⟨d.rc.id,w⟩ (qu d.notes w) l).pick)):=fun w=>rfl;have EV: ∀k w,(Za d (qh d).w)[k]? =some w->((Za d (qh d).w).take (k+1)).filter (nR g l d)=((Za d (qh d).w).take k).filter (nR g l d)++(if nR g l d w=true then [w]else []):=fun k w hw=>by rw[zy hw,jr];congr 1;cases hb:nR g l d w<;>simp[hb]
  change DCalls pP 32 _ (dv (.sl 1 (ints (Za d (qh d).w))))at hO;rw[<-qD]at*
  generalize Za d (qh d).w=ws at*
  have hP:(qh d).row= [.c (li (qh d).w),.c (li (qh d).m),.c (li (qh d).g)]:=rfl;rw[hP]at hF;clear hP;refine dX (N:=59) (rs:=[.tmp 6]) qg func12 ?_;refine gB ?_;refine xo 8 8 1 ?_;refine lp ws [2,3,4,7,20,21] [3,4,7] (fun k=>[(8,.one (.own 8 1 (ints ((ws.take k).filter (nR g l d))))),(22,dv (li k))]) (fun _=>[]) (fun _=>True) trivial ?_ ?_
  · intro k w hx hk hm qs qf hw _;have Cp:=Cp w;have hK:=hK w;have Dd:=Dd w;have uL:=uL w;have hB:=hB w;rw[EV k w hx];have qbY:((ws.take k).filter (nR g l d)).length<=k:=og;clear hm qs EV hW hO hF hR;generalize (ws.take k).filter (nR g l d)=q at*
    generalize nR g l d w=wb at*
    generalize vI g ⟨d.rc.id,w⟩ (qu d.notes w) l=Z at*
    generalize Qx (fc g l d.rc.id) d (qh d) w Z.pick=sh at*
    generalize d.kids w (qh d).m=K at*
    have lE:(q.length+1)*8<=140737488355328:=oa;have hql':(ints q).length=q.length:=oh;replace hB:Kp _:=⟨hB⟩;simp only[Zf]at Dd;repeat' first|refine gQ ?_|exact gU|refine gS ?_|exact gT|(first|apply xc|apply gf|apply gt)<;>intro hc
    all_goals first
      | (have e:wb=true:=by have hb:=hB.1;clear hB Cp hK Dd;rw[hb];simp_all
         rw[e];simp only[an,wo,wm];exact qJ)
      | (have e:wb=false:=by have hb:=hB.1;clear hB Cp hK Dd;rw[hb];simp_all
         rw[e];simp only[yq,ap];exact qJ)
  intro qf _;rw[wc];exact gA
def Si(xs:List (List Dl.C))(hz: ∀r∈xs,r.length=8)(hl:xs.length<=1000000):
  ECalls pP 118 [dv (.sl 8 xs)] qA (fun r H'=>∃j,r= .one (.ba 0 8 0 xs.length (xs.length+j))/\H'=ml [(0,cr xs++qa j 8)]):=by
 refine Qn (N:=8) (rs:=[.tmp 2]) om func118 rfl rfl rfl oh ?_;cases xs with
 | nil=>
  refine CC (sz:=8) 0 oe ?_ (fun a cap QH=>?_)
  ·refine uB qg ?_;apply qW;(simp +decide only[go_sem];rfl)
   ·intro _;refine uB qg ?_;refine qn (DS.Sub.trans (sub_zero 2 0 8 (.inl oe)) (qw (N:=8) (sls:=[(2,.one (.ba 0 8 0 0 0))]) (bxs:=[(0,[])]) rfl oe oe)) ?_;apply qb;simp +decide only[go_sem];exact⟨0,rfl,rfl⟩
   ·simp
  ·refine uB qg ?_;apply qW;(simp +decide only[go_sem];rfl)
   ·simp
   intro _;apply qt;simp +decide only[go_sem];refine qn (s':=kn 8 [(0,dv (.sl 8 []))] qA) (vU rfl ⟨.inr (by simp +decide only[go_sem];exact DLe.emp 8 QH),trivial⟩ (by simp[qA])) ?_;apply qk;refine dc (N:=8) [.hand] rfl om ?_;simp +decide only[go_sem];refine StepC.mk (Step.buildNone (sz:=8) rfl rfl oe ?_);simp +decide only[go_sem];refine StepC.mk (Step.appendList (n:=5) (sz:=8) (by_:=144) (rows:=[]) (j:=0) (ys:=[]) rfl rfl oe oe oe (by simp[RowsSz]) (mj (ys:=[]) oe) oh ?_);intro j';simp +decide only[go_sem];refine vB qg ?_;refine qn (DS.Sub.trans (zB 7 0 oa) (qw (N:=8) (sls:=[(2,.one (.ba 0 8 0 0 (0+j')))]) (bxs:=[(0,cr []++qa j' 8)]) rfl oe (by simp +decide only[go_sem,xf]))) ?_;apply qb;simp +decide only[go_sem];exact⟨j',rfl,rfl⟩
 | cons x xs=>
  refine uB qg ?_;apply qW;(simp +decide only[go_sem];rfl)
  ·simp
  intro _;apply qt;simp +decide only[go_sem];apply qk;refine dc (N:=8) [.hand] rfl om ?_;simp +decide only[go_sem];refine StepC.mk (Step.buildNone (sz:=8) rfl rfl oe ?_);simp +decide only[go_sem];refine StepC.mk (Step.appendList (n:=5) (sz:=8) (by_:=144) (rows:=[]) (j:=0) (ys:=cr (x::xs)) rfl rfl oe oe oe (by simp[RowsSz]) (mj oe) (by simp only[qK,wT];omega) ?_);intro j';simp +decide only[go_sem];refine vB qg ?_;refine qn (DS.Sub.trans (zB 7 0 oa) (qw (N:=8) (sls:=[(2,.one (.ba 0 8 0 (x::xs).length ((x::xs).length+j')))]) (bxs:=[(0,cr (x::xs)++qa j' 8)]) rfl (by simp +decide only[go_sem,qK]) oe)) ?_;apply qb;simp +decide only[go_sem];exact⟨j',rfl,rfl⟩
end
abbrev kpm1:List (Nat×Dl.Mode):= Dl.ll 0 6 [(6,.step),(7,.light)]
abbrev kq1:Dl.PL:=fun|5=>kpm1|_=>[]
def qcQ(ys:List (List Dl.C))(j a i:Nat)(hz: ∀r∈ys,r.length=8)(hi:i<ys.length)(hl:ys.length<=1048576):
  ECalls pP 117 [.one (.ba (a+NB) 8 0 ys.length (ys.length+j)),dv (li i),dv (li ((i+1:Nat):Int))] (ml [(a+NB,cr ys++qa j 8)])
   (fun r H'=>∃j',r= .one (.ba (a+NB) 8 0 (ys.length - 1) (ys.length+j))/\H'=ml [(a+NB,cr (ys.take i++ys.drop (i+1))++qa j' 8)]):=by
 have qi:=qo;have h0:(0<=i)=True:=oh;have h1:(i<=i+1)=True:=oh;have h2:(i+1<=ys.length)=True:=og;have h3:(ys.length<=ys.length+j)=True:=oh;have h4:(i<=ys.length+j)=True:=og;have h5:((i:Int)==((i+1:Nat):Int))=false:=og;have VH: ∀r∈cr ys++qa j 8,r.length=8:=fun r hr=>(wF.1 hr).elim (fun h=>by obtain⟨x,hx,rfl⟩:=wN.1 h;rw[wn];exact hz x hx) (zm j 8 r);have QG:(cr ys).length=ys.length:=qK ys;refine Qn (N:=33) (rs:=[.tmp 6]) om func117 rfl rfl rfl oh ?_
 (repeat'(first|apply qk|apply qm|((first|refine qC ?_|refine zU kq1 ?_|apply qt|apply qv);simp +decide only[go_sem,h0,h1,h2,h3,h4,h5,wO,Option.isSome_some,yT,Nat.add_sub_cancel_left,yi,jW])|(apply qW;(simp +decide only[go_sem];rfl);all_goals(intro qe;try exact kz qe))))
 have MN:(cr (ys.drop (i+1))).length=ys.length - (i+1):=by rw[qK,yA]
 have hcd:cr (ys.drop (i+1))=(cr ys).drop (i+1):=by simp[cr,List.map_drop]
 have hct:cr (ys.take i)=(cr ys).take i:=by simp[cr,jv]
 have hsr:cr (ys.drop (i+1))=((cr ys++qa j 8).drop (i+1)).take (ys.length - (i+1)):=og;have lF:(cr ys++qa j 8).length=ys.length+j:=by rw[wz,QG];simp[qa]
 have bi:(cr ys++qa j 8).take (0+i)++(cr (ys.drop (i+1))++(cr ys++qa j 8).drop (0+i+(cr (ys.drop (i+1))).length))=cr (ys.take i++ys.drop (i+1))++(cr ys++qa j 8).drop (ys.length - 1):=by rw[MN,yi,jo (by rw[QG];omega),<-hct,<-wS,Qv,show i+(ys.length - (i+1))=ys.length - 1 by omega]
 refine StepC.mk (Step.appendRoom (n:=a+NB) (sz:=8) (by_:=144) (i:=0) (len:=i) (cap:=ys.length+j) (rows:=cr ys++qa j 8) (ys:=cr (ys.drop (i+1))) rfl rfl oe oe oe (by rw[lF];omega) VH
  (Av (n:=a+NB) (i:=i+1) (len:=ys.length - (i+1)) (cap:=ys.length+j - (i+1)) (rows:=cr ys++qa j 8) oe oe (by rw[lF];omega) VH hsr) (by rw[MN];omega) ?_)
 rw[bi,MN,show i+(ys.length - (i+1))=ys.length - 1 by omega];have g1:(ys.length - 1<=ys.length)=True:=oh;have g2:(ys.length<=ys.length+j)=True:=oa;have g3:(ys.length - 1<=ys.length+j)=True:=og;simp +decide only[go_sem]
 (repeat'(first|apply qk|apply qm|((first|refine qC ?_|refine zU kq1 ?_|apply qt|apply qv);simp +decide only[go_sem,g1,g2,wO,yT,yi])|(apply qW;(simp +decide only[go_sem,g1,g2,g3,wO,Option.isSome_some,yT,yi,jW];rfl);all_goals(intro qe;try exact kz qe))))
 have Cn:(cr (ys.take i++ys.drop (i+1))).length=ys.length - 1:=by rw[qK,wz,ym,yA];omega
 have hez: ∀r∈cr (ys.take i++ys.drop (i+1))++(cr ys++qa j 8).drop (ys.length - 1),r.length=8:=fun r hr=>by
  rcases wF.1 hr with h|h
  ·grind
  ·grind
 have na:(cr (ys.take i++ys.drop (i+1))++(cr ys++qa j 8).drop (ys.length - 1)).take (ys.length - 1)++(qa (ys.length - (ys.length - 1)) 8++(cr (ys.take i++ys.drop (i+1))++(cr ys++qa j 8).drop (ys.length - 1)).drop (ys.length - 1+(ys.length - (ys.length - 1))))=cr (ys.take i++ys.drop (i+1))++qa (1+j) 8:=by generalize cr (ys.take i++ys.drop (i+1))=E at Cn ⊢;have e1:ys.length - 1+(ys.length - (ys.length - 1))=E.length+1:=oa;have e2:(E++(cr ys++qa j 8).drop (ys.length - 1)).drop (E.length+1)=qa j 8:=og;rw[List.take_left' Cn,e1,e2,show ys.length - (ys.length - 1)=1 by omega];congr 1;simp only[qa,jj]
 refine StepC.mk (Step.clear (n:=a+NB) (rows:=cr (ys.take i++ys.drop (i+1))++(cr ys++qa j 8).drop (ys.length - 1)) (i:=ys.length - 1) (len:=ys.length - (ys.length - 1)) (cap:=ys.length+j - (ys.length - 1)) (sz:=8) (by_:=144) rfl oe oe oe
  (by rw[wz,Cn,yA,lF];omega) hez ?_)
 rw[na];simp +decide only[go_sem]
 (repeat(first|apply qk|apply qm|((first|refine qC ?_|refine zU kq1 ?_|apply qt|apply qv);simp +decide only[go_sem])))
 refine qn (qw (N:=33) (sls:=[(6,.one (.ba (a+NB) 8 0 (ys.length - 1) (ys.length+j)))]) (bxs:=[(a+NB,cr (ys.take i++ys.drop (i+1))++qa (1+j) 8)]) rfl oe oe) ?_;apply qb;simp +decide only[go_sem];exact⟨_,rfl⟩
def dm(id:Int)(e:Ent):Bool:=e.main==id||e.links.any fun x=>x.tgt==id
def zQ(l:List Ent)(id:Int):List Ent:=l.filter fun e=> !(e.id==id)
def JE{l:List Ent}(id:Int)(hs:C5 l): ∃a b,l.take (bv l id)=a/\l.drop (if Zd l id=true then bv l id+1 else bv l id)=b/\(∀x∈a,x.id<id)/\(∀x∈b,id<x.id)/\
  ((Zd l id=false/\l=a++b)\/∃o,Zd l id=true/\o.id=id/\l=a++o::b/\l[bv l id]? =some o):=by
 obtain⟨h0,h1,h2⟩:=Eo l id hs;have hf:=ia l id hs;cases hh:ZB l id
 ·rw[hh]at hf;refine⟨_,_,rfl,rfl,h1,fun x hx=>?_,.inl ⟨hf,?_⟩⟩
  ·rw[hf,j7 oo]at hx;have:=h2 x hx;have:=Re hh x (y5 hx);omega
  ·simp_all
 ·rw[hh]at hf;obtain⟨o,ho,hid⟩:=IZ hs hh;obtain⟨hp,AZ⟩:=wg.1 ho;refine⟨_,_,rfl,rfl,h1,fun x hx=>?_,.inr ⟨o,hf,hid,?_,ho⟩⟩
  ·rw[hf,ae rfl]at hx;obtain⟨k,hk,LL⟩:=List.getElem_of_mem hx;rw[List.getElem_drop]at LL;have bw:bv l id+1+k<l.length:=og;have:=yH.1 hs (bv l id) (bv l id+1+k) hp bw oa;rw[AZ,LL]at this;omega
  ·rw[hf,ae rfl]
   conv=>lhs;rw[<-yf (bv l id) l,wP hp,AZ]
def eS{id:Int}(h: ∀x∈l,x.id≠id):zQ l id=l:=List.filter_eq_self.2 fun x hx=>by simpa using h x hx
def tZ(a b:List Ent)(e:Ent){id:Int}(he:e.id=id):zQ (a++e::b) id=zQ a id++zQ b id:=by simp[zQ,jr,List.filter_cons,he]
def qa2{id:Int}(hs:C5 l)(h:ZB l id=true):(zQ l id).length+1=l.length:=by
 obtain⟨a,b,_,_,h1,h2,h3⟩:=JE id hs;have hf:=ia l id hs;rw[h]at hf;rcases h3 with⟨hff,_⟩|⟨o,_,ho,hl,_⟩
 ·grind
 ·rw[hl,tZ a b o ho,eS (fun x hx=>by have:=h1 x hx;omega),eS (fun x hx=>by have:=h2 x hx;omega)];simp;omega
def Ha{id:Int}(hs:C5 l)(h:Zd l id=true):zQ l id=l.take (bv l id)++l.drop (bv l id+1):=by
 obtain⟨a,b,ha,hb,h1,h2,h3⟩:=JE id hs;rcases h3 with⟨hff,_⟩|⟨o,_,ho,hl,_⟩
 ·grind
 ·rw[h,ae rfl]at hb;rw[ha,hb]
  conv=>lhs;rw[hl]
  rw[tZ a b o ho,eS (fun x hx=>by have:=h1 x hx;omega),eS (fun x hx=>by have:=h2 x hx;omega)]
def JB(l:List Ent): ∀r∈l.map Ent.enc,r.length=8:=fun r hr=>by obtain⟨x,_,rfl⟩:=wN.1 hr;rfl
def v8(l:List Ent)(id:Int):List Ent×Int:=if ZB l id=false then([],9)else if(zQ l id).any (dm id)=true then([],18)else(zQ l id,0)
def RV{id:Int}(h:ZB l id=false):v8 l id=([],9):=by rw[v8,ae h]
def xa{id:Int}(h:ZB l id=true){e:Ent}(he:e∈l)(h1:e.id≠id)(h2:dm id e=true):v8 l id=([],18):=by rw[v8,j7 (by simp[h]),ae];exact yK.2 ⟨e,yR.2 ⟨he,by simpa using h1⟩,h2⟩
def RU{id:Int}(h:ZB l id=true)(hu: ∀e∈l,e.id≠id->dm id e=false):v8 l id=(zQ l id,0):=by rw[v8,j7 (by simp[h]),j7];intro hc;obtain⟨e,he,h2⟩:=yK.1 hc;obtain⟨he,hi⟩:=yR.1 he;rw[hu e he (by simpa using hi)]at h2;cases h2
def TP(x:Lnk)(id:Int):DCalls pP 116 [.agg x.row,dv (.pt [li id])] (dv (lb (x.tgt==id))):=by
 refine kd (N:=8) (rs:=[.tmp 3]) func116 ?_
 (repeat' first|(first|refine qC ?_|apply kU|apply qb);simp only[go_sem,Lnk.row]|apply kh<;>intro qe)
def qcN(l:List Ent)(id:Int)(hs:C5 l)(hl:l.length<=99999)(hm: ∀x∈l,x.links.length<=1048576):DCalls pP 58 [dv (.sl 8 (l.map Ent.enc)),dv (li id)] (.tup [dv (.sl 8 ((v8 l id).1.map Ent.enc)),dv (li (v8 l id).2)]):=by
 have qi:=qo;have hS:=DP l id oa;have QG:(l.map Ent.enc).length=l.length:=oh;have hf:=ia l id hs;obtain⟨p,hp⟩: ∃p,bv l id=p:=⟨_,rfl⟩;have lI:=fun h=>Ha (l:=l) (id:=id) hs h;have gg:=fun h=>IZ (l:=l) (id:=id) hs h;rw[hp]at hS lI gg;refine kd (N:=47) (rs:=[.tmp 4,.tmp 5]) func58 ?_;cases t0:Zd l id
 ·rw[RV (by rw[<-hf];exact t0)]
  (repeat' first|(first|refine qC ?_|refine kx hS ?_|apply kU);simp only[go_sem,t0]|apply kh<;>intro qe)
  refine ze 4 (dv (.sl 8 [])) oe ?_;apply qb;simp +decide only[go_sem]
 have hh:ZB l id=true:=og;obtain⟨o,ho,F5⟩:=gg hh;have Db:p<l.length:=og
 (repeat' first|(first|refine qC ?_|refine kx hS ?_|apply kU);simp only[go_sem,t0]|apply kh<;>intro qe)
 refine Q3 3 [li id] oh oe ?_;refine vq l (fun k=>kn 47 [(0,dv (.sl 8 (l.map Ent.enc))),(3,dv (.pt [li id])),(6,dv (li p)),(18,dv (.sl 8 (l.map Ent.enc))),(19,dv (li l.length)),(20,dv (li k))] qA) (fun k=>∀e∈l.take k,e.id≠id->dm id e=false) oa (vU rfl oe (by intro _ _ h;simp[qA]at h)) oh ?_ ?_
 ·intro k e he hk EY qs qf hw hi;have hA:=CN 116 [.pt [li id]] (fun x=>x.tgt==id) e.links (fun x _=>TP x id) (hm e EY);by_cases hkp:k=p
  ·have h1:((k:Int)!=(p:Int))=false:=by grind
   have h2:e.id≠id->dm id e=false:=fun h=>by rw[hkp,ho]at he;injection he with he;rw[<-he]at h;exact ak F5 h
   (repeat' first|(first|refine qC ?_|apply kU|apply qb);simp only[go_sem,qf,hw,he,h1,Ent.enc]|apply kh<;>intro qe)
   exact⟨qG qs hi h2,kl⟩
  ·have h1:((k:Int)!=(p:Int))=true:=by grind
   have qH:e.id≠id:=fun h=>by
    obtain⟨q1,q2⟩:=wg.1 he;obtain⟨q3,q4⟩:=wg.1 ho;have lY:=yH.1 hs;rcases Nat.lt_or_gt_of_ne hkp with h3|h3
    ·grind
    ·grind
   cases t1:e.main==id
   ·cases t2:e.links.any fun x=>x.tgt==id
    ·have h2:e.id≠id->dm id e=false:=fun _=>by rw[dm,t1,t2];rfl
     (repeat' first|(first|refine qC ?_|refine kx hA ?_|apply kU|apply qb);simp only[go_sem,qf,hw,he,h1,t1,t2,Ent.enc]|apply kh<;>intro qe)
     exact⟨qG qs hi h2,kl⟩
    ·rw[xa hh EY qH (by rw[dm,t1,t2];rfl)]
     (repeat' first|(first|refine qC ?_|refine kx hA ?_|apply kU);simp +decide only[go_sem,qf,he,h1,t1,t2,Ent.enc]|apply kh<;>intro qe|((first|apply qy|apply qx)<;>(intro qe;simp +decide only[go_sem,qe,qf,hw,he,h1,t1,t2,Ent.enc])))
     refine ze 4 (dv (.sl 8 [])) oe ?_;apply qb;simp +decide only[go_sem]
   ·rw[xa hh EY qH (by rw[dm,t1];rfl)]
    (repeat'(first|apply qk|apply qm|((first|refine qC ?_|apply qt|apply qv|refine kx hA ?_);simp +decide only[go_sem,qf,he,h1,t1,Ent.enc])|(apply qW;(simp +decide only[go_sem];rfl);all_goals(intro qe;try exact kz qe))|((first|apply qy|apply qx)<;>(intro qe;first|(exact ak qe oo)|(simp +decide only[go_sem,qe,qf,hw,he,h1,t1,Ent.enc])))))
    refine ze 4 (dv (.sl 8 [])) oe ?_;apply qb;simp +decide only[go_sem]
 ·intro qf hi;rw[wc]at hi;rw[RU hh hi];have hwp:=zx p oa
  (repeat' first|(first|refine qC ?_|apply kU);simp only[go_sem,qf]|apply kh<;>intro qe)
  have hz:=JB l;refine CallC.eff [] (Si (l.map Ent.enc) hz ot) rfl (DLeL.of_eq oe) (fun k r h=>by cases h) (by constructor<;>simp) ?_;rintro r H' ⟨j,rfl,rfl⟩;simp +decide only[go_sem,hwp,QG];refine CallC.eff [42] (qcQ (l.map Ent.enc) j 42 p hz oa oa) rfl (DLeL.of_eq (by simp +decide only[go_sem,QG])) (fun k r h=>?_) (by constructor<;>simp[mid]) ?_
  ·by_cases hk:k=42+NB
   ·subst hk;simp +decide only[go_sem]at h;subst h;simp +decide only[go_sem,qF,vf]
   ·simp +decide only[go_sem,hk]at h
  rintro r H' ⟨j',rfl,rfl⟩;simp +decide only[go_sem];have qb1:(l.map Ent.enc).take p++(l.map Ent.enc).drop (p+1)=(zQ l id).map Ent.enc:=oA;have HG:(zQ l id).length=l.length - 1:=og;have Cn:l.length - 1<=(zQ l id).length:=oa;have qs:((zQ l id).map Ent.enc).take (l.length - 1)=(zQ l id).map Ent.enc:=yv ot;rw[qb1];refine pE 42 8 ((zQ l id).map Ent.enc) (qa j' 8) oo (by simp +decide only[go_sem,qF];rfl) (JB _) ?_;apply qb;simp +decide only[go_sem,Cn,qs]
section
attribute [local go_sem] vp ZO lM
def qfN{P:Program}{f:FuncId}{ds:List D}{H:vT}{R S:D->vT->Prop}(h:ECalls P f ds H R)(hi: ∀r H',R r H'->S r H'):ECalls P f ds H S:=by unfold ECalls at h ⊢;exact⟨h.1,fun w E F vs hk hl hv=>(h.2 w E F vs hk hl hv).mono (by rintro e w' ⟨v,E',r,H',rfl,hr,hR,hv⟩;exact⟨v,E',r,H',rfl,hi r H' hr,hR,hv⟩)⟩
def qfQ(l:List Ent)(id:Int)(hs:C5 l)(hl:l.length<=99999)(hm: ∀x∈l,x.links.length<=1048576):
  DCalls pP 57 [dv (.sl 8 (l.map Ent.enc)),dv (.pt [li id])] (.tup [dv (.sl 8 ((v8 l id).1.map Ent.enc)),dv (li (v8 l id).2)]):=by
 have hD:=qcN l id hs hl hm;refine dX (N:=10) (rs:=[.tmp 3,.tmp 4]) qg func57 ?_;exact gA
abbrev XD:Dl.PL:=fun|1=> Dl.ll 0 5 ((5,.step)::Dl.ll 6 5 [])|_=>[]
def qfM{g:Lg}(id:Int)(hs:C5 g.lex)(hl:g.lex.length<=99999)(hm: ∀x∈g.lex,x.links.length<=1048576){F:Int->Prop}(hS:NCalls pP 112 [.agg ({ g with lex:=(v8 g.lex id).1 }:Lg).row] (fun r=>∃e,r=dv (li e)/\F e)):
  ECalls pP 111 [.one (.bx (2+NB) 9 0 0),dv (.pt [.fn 57 [.pt [li id]]])] (ml [(2+NB,[g.row])])
   (fun r H'=>∃e,r=dv (li e)/\(((v8 g.lex id).2≠0/\e=(v8 g.lex id).2/\AllM H' [(2+NB,[g.row])])\/((v8 g.lex id).2=0/\F e/\AllM H' [(2+NB,[({ g with lex:=(v8 g.lex id).1 }:Lg).row])]))):=by
 have hD:=qfQ g.lex id hs hl hm;generalize v8 g.lex id=dr at*
 obtain⟨l',e'⟩:=dr;simp only[<-qD]at hS ⊢;simp only[ZO,wo,wm]at hS hD ⊢;clear hs hl hm;by_cases h0:e'=0
 ·subst h0;refine eX (N:=26) (rs:=[.tmp 3]) XD func111 ?_;refine gB ?_;refine MD ?_ hS;rintro _ ⟨e,rfl,hF⟩;refine gB ?_;exact⟨e,rfl,hF⟩
 ·have hb:(e'==0)=false:=by simpa using h0
  refine eX (N:=26) (rs:=[.tmp 3]) XD func111 ?_;refine gB ?_;exact⟨e',rfl,rfl⟩
def zE:List T:=[.ex 2 [],.c (.lit (.string .empty)),.ex 2 [],.ex 1 [],.ex 6 [],.c (li 0),.ex 3 [],.ex 1 [],.ex 8 []]
def zC:List T:=[.c (.sl 2 []),.c (.lit (.string .empty)),.c (.sl 2 []),.c (.sl 1 []),.c (.sl 6 []),.c (li 0),.c (.sl 3 []),.c (.sl 1 []),.c (.sl 8 [])]
def ChgR(Q:Int->Lg->Prop):D->Prop:=fun r=>∃e h,Q e h/\((e=0/\r= .tup [.agg h.row,dv (li e)])\/(e≠0/\(r= .tup [.agg zE,dv (li e)]\/r= .tup [.agg zC,dv (li e)])))
def Sk{g:Lg}{f:FuncId}{caps:List Dl.C}{Q:Int->Lg->Prop}(hF:ECalls pP f (.one (.bx (2+NB) 9 0 0)::caps.map fun c=>D.one (.c c)) (ml [(2+NB,[g.row])]) (fun r H'=>∃e h,r=dv (li e)/\Q e h/\AllM H' [(2+NB,[h.row])])):
  NCalls pP 59 [.agg g.row,dv (.fn f caps)] (ChgR Q):=by
 simp only[<-qD]at*
 simp only[ZO,wo,wm]at*
 refine nX (N:=14) (rs:=[.cell 4 36,.tmp 5]) qg func59 ?_;refine gB ?_;refine Vm [2] ?_ hF (vh:=by simp +decide [go_sem,D.tr,T.tr]);rintro _ H' ⟨e,h,rfl,hq,hH,_⟩;by_cases he:e=0
 ·subst he;refine gB ?_;exact⟨0,h,hq,.inl ⟨rfl,rfl⟩⟩
 ·have hb:(e==0)=false:=by simpa using he
  refine gB ?_;exact⟨e,h,hq,.inr ⟨he,.inl rfl⟩⟩
def qcH{g:Lg}{id:Int}{Q:Int->Lg->Prop}(hC:NCalls pP 59 [.agg g.row,dv (.fn 111 [.pt [.fn 57 [.pt [li id]]]])] (ChgR Q)):
  NCalls pP 56 [.agg g.row,dv (.fn 57 [.pt [li id]])] (ChgR Q):=by
 simp only[<-qD]at*
 simp only[ZO,wo,wm]at*
 refine nX (N:=11) (rs:=[.cell 4 36,.tmp 5]) qg func56 ?_;refine gB ?_;refine CallC.frz 3 [.fn 57 [.pt [li id]]] oh oe ?_;refine gS ?_;refine MD ?_ hC;rintro _ ⟨e,h,hq,⟨rfl,rfl⟩|⟨he,rfl|rfl⟩⟩
 ·simp only[<-qD];simp only[ZO,wo,wm];refine gB ?_;exact⟨0,h,hq,.inl ⟨rfl,rfl⟩⟩
 ·simp only[zE];refine gB ?_;exact⟨e,h,hq,.inr ⟨he,by first|exact .inl rfl|exact .inr rfl⟩⟩
 ·simp only[zC];refine gB ?_;exact⟨e,h,hq,.inr ⟨he,by first|exact .inl rfl|exact .inr rfl⟩⟩
def rM{g:Lg}(id:Int)(hs:C5 g.lex)(hl:g.lex.length<=99999)(hm: ∀x∈g.lex,x.links.length<=1048576){F:Int->Prop}(hS:NCalls pP 112 [.agg ({ g with lex:=(v8 g.lex id).1 }:Lg).row] (fun r=>∃e,r=dv (li e)/\F e)):
  NCalls pP 24 [.agg g.row,dv (li id)] (ChgR fun e h=>((v8 g.lex id).2≠0/\e=(v8 g.lex id).2/\h=g)\/((v8 g.lex id).2=0/\F e/\h={ g with lex:=(v8 g.lex id).1 })):=by
 have hC:=qcH (Sk (f:=111) (caps:=[.pt [.fn 57 [.pt [li id]]]]) (Q:=fun e h=>((v8 g.lex id).2≠0/\e=(v8 g.lex id).2/\h=g)\/((v8 g.lex id).2=0/\F e/\h={ g with lex:=(v8 g.lex id).1 })) (qfN (qfM id hs hl hm hS) (by
  rintro r H' ⟨e,rfl,⟨h1,h2,h3⟩|⟨h1,h2,h3⟩⟩
  ·exact⟨e,g,rfl,.inl ⟨h1,h2,rfl⟩,h3⟩
  ·exact⟨e,_,rfl,.inr ⟨h1,h2,rfl⟩,h3⟩)))
 generalize (fun(e:Int) (h:Lg)=>((v8 g.lex id).2≠0/\e=(v8 g.lex id).2/\h=g)\/((v8 g.lex id).2=0/\F e/\h={ g with lex:=(v8 g.lex id).1 }))=Q at*
 clear hs hl hm hS;simp only[<-qD]at*
 simp only[ZO,wo,wm]at*
 refine nX (N:=11) (rs:=[.cell 4 36,.tmp 5]) qg func24 ?_;refine gB ?_;refine CallC.frz 3 [li id] oh oe ?_;refine gS ?_;refine MD ?_ hC;rintro _ ⟨e,h,hq,⟨rfl,rfl⟩|⟨he,rfl|rfl⟩⟩
 ·simp only[<-qD];simp only[ZO,wo,wm];refine gB ?_;exact⟨0,h,hq,.inl ⟨rfl,rfl⟩⟩
 ·simp only[zE];refine gB ?_;exact⟨e,h,hq,.inr ⟨he,by first|exact .inl rfl|exact .inr rfl⟩⟩
 ·simp only[zC];refine gB ?_;exact⟨e,h,hq,.inr ⟨he,by first|exact .inl rfl|exact .inr rfl⟩⟩
@[go_sem] theorem n29:Program.nilT pP 29=true:=by kernel_rfl
abbrev zh:Dl.PL:=fun|11=> Dl.ll 0 8 [(8,.step)]|15=> Dl.ll 0 8 [(8,.step)]|_=>[]
abbrev tT:Dl.PL:=fun|5=> Dl.ll 0 6 [(6,.step),(7,.light)]|_=>[]
def xm(xs:List (List Dl.C))(hz: ∀r∈xs,r.length=6)(hl:xs.length<=1000000):
  ECalls pP 63 [dv (.sl 6 xs)] qA (fun r H'=>∃j,r= .one (.ba 0 6 0 xs.length (xs.length+j))/\H'=ml [(0,cr xs++qa j 6)]):=by
 refine Qn (N:=8) (rs:=[.tmp 2]) om func63 rfl rfl rfl oh ?_;cases xs with
 | nil=>
  refine CC (sz:=6) 0 oe ?_ (fun a cap QH=>?_)
  ·(repeat(first|apply qk|apply qm|((first|refine qC ?_|apply qt|apply qv);simp only[go_sem])))
   apply qW;(simp +decide only[go_sem];rfl)
   ·intro _
    (repeat(first|apply qk|apply qm|((first|refine qC ?_|apply qt|apply qv);simp only[go_sem])))
    refine qn (DS.Sub.trans (sub_zero 2 0 6 (.inl oe)) (qw (N:=8) (sls:=[(2,.one (.ba 0 6 0 0 0))]) (bxs:=[(0,[])]) rfl oe oe)) ?_;apply qb;simp +decide only[go_sem];exact⟨0,rfl,rfl⟩
   ·simp
  ·(repeat(first|apply qk|apply qm|((first|refine qC ?_|apply qt|apply qv);simp only[go_sem])))
   apply qW;(simp +decide only[go_sem];rfl)
   ·simp
   intro _;apply qt;simp +decide only[go_sem];refine qn (s':=kn 8 [(0,dv (.sl 6 []))] qA) (vU rfl ⟨.inr (by simp +decide only[go_sem];exact DLe.emp 6 QH),trivial⟩ (by simp[qA])) ?_;apply qk;refine dc (N:=8) [.hand] rfl om ?_;simp +decide only[go_sem];refine StepC.mk (Step.buildNone (sz:=6) rfl rfl oe ?_);simp +decide only[go_sem];refine StepC.mk (Step.appendList (n:=5) (sz:=6) (by_:=104) (rows:=[]) (j:=0) (ys:=[]) rfl rfl oe oe oe (by simp[RowsSz]) (mj (ys:=[]) oe) oh ?_);intro j';simp +decide only[go_sem]
   (repeat' first|(first|refine qC ?_|apply kU);simp only[go_sem]|apply kh<;>intro qe)
   refine qn (DS.Sub.trans (zB 7 0 oa) (qw (N:=8) (sls:=[(2,.one (.ba 0 6 0 0 (0+j')))]) (bxs:=[(0,cr []++qa j' 6)]) rfl oe (by simp +decide only[go_sem,xf]))) ?_;apply qb;simp +decide only[go_sem];exact⟨j',rfl,rfl⟩
 | cons x xs=>
  (repeat(first|apply qk|apply qm|((first|refine qC ?_|apply qt|apply qv);simp only[go_sem])))
  apply qW;(simp +decide only[go_sem];rfl)
  ·simp
  intro _;apply qt;simp +decide only[go_sem];apply qk;refine dc (N:=8) [.hand] rfl om ?_;simp +decide only[go_sem];refine StepC.mk (Step.buildNone (sz:=6) rfl rfl oe ?_);simp +decide only[go_sem];refine StepC.mk (Step.appendList (n:=5) (sz:=6) (by_:=104) (rows:=[]) (j:=0) (ys:=cr (x::xs)) rfl rfl oe oe oe (by simp[RowsSz]) (mj oe) (by simp only[qK,wT];omega) ?_);intro j';simp +decide only[go_sem]
  (repeat' first|(first|refine qC ?_|apply kU);simp only[go_sem]|apply kh<;>intro qe)
  refine qn (DS.Sub.trans (zB 7 0 oa) (qw (N:=8) (sls:=[(2,.one (.ba 0 6 0 (x::xs).length ((x::xs).length+j')))]) (bxs:=[(0,cr (x::xs)++qa j' 6)]) rfl (by simp +decide only[go_sem,qK]) oe)) ?_;apply qb;simp +decide only[go_sem];exact⟨j',rfl,rfl⟩
def Vp(a:Nat)(xs:List (List Dl.C))(j:Nat)(v:List Dl.C)(hz: ∀r∈xs,r.length=6)(hvl:v.length=6)(i:Nat)(hi:i<=xs.length)(hl:xs.length<=100000):
  ECalls pP 62 [.one (.ba 1000 6 0 xs.length (xs.length+j)),dv (li i),.one (.ba (a+NB) 6 0 1 1)] (gR xs j 6 (a+NB) v)
   (fun r H'=>∃j',r= .one (.ba 1000 6 0 (xs.length+1) (xs.length+1+j'))/\H'=ml [(1000,cr (xs.take i++v::xs.drop i)++qa j' 6)]):=by
 have Rh:=qX;have qi:(1000000:Nat)<maxLen:=by simp[maxLen]
 have Jo:a+NB≠1000:=oa;have le1:(0:Nat)<=i:=oa;have hlj:xs.length<=xs.length+j:=oa;have hib:i<=xs.length+j:=oa;have QG:=qK xs;have MF:=nu hz;have xL:RowsSz 6 (cr xs++qa j 6):=fun r hr=>(wF.1 hr).elim (MF r) (zm j 6 r);have EZ:=Lh xs j 6 (a+NB) v;have X9:=Lf xs j 6 a v;have hvT:(v.map T.c).length=6:=og;refine Qn (N:=95) (rs:=[.tmp 6]) om func62 rfl rfl rfl oh ?_;rcases yD i xs.length with qf|dC
 ·have he:((i:Int)==(xs.length:Int))=false:=by grind
  have hlt':i<(cr xs).length:=oa;have mV:aD .i64 ((xs.length:Int)+1)=((xs.length+1:Nat):Int):=by rw[wrap_i64 oa oa];rfl
  have rG:aD .i64 (((xs.length+1:Nat):Int) - (i:Int))=((xs.length+1 - i:Nat):Int):=by rw[wrap_i64 oa oa];omega
  have VE:aD .i64 ((i:Int)+1)=((i+1:Nat):Int):=by rw[wrap_i64 oa oa];rfl
  (repeat(first|apply qk|apply qm|((first|refine qC ?_|refine zU zh ?_|apply qt|apply qv);simp only[go_sem,hi,hlj])))
  apply qW;(simp +decide only[go_sem];rfl)
  ·simp
  intro _
  (repeat(first|apply qk|apply qm|((first|refine qC ?_|refine zU zh ?_|apply qt|apply qv);simp only[go_sem,he])))
  apply qW;(simp +decide only[go_sem];rfl)
  ·simp
  intro _;rcases jC j with hj0|hj0
  ·have hg:decide (((xs.length+j:Nat):Int)<((xs.length+1:Nat):Int))=true:=by grind
   (repeat(first|apply qk|apply qm|((first|refine qC ?_|refine zU zh ?_|apply qt|apply qv);simp only[go_sem,mV,hg])))
   apply qW;(simp +decide only[go_sem];rfl)
   ·intro _;have HI:i+(xs.length+1 - i)=xs.length+1:=oa;have h0i:=wM i
    (repeat(first|apply qk|apply qm|((first|refine qC ?_|refine zU zh ?_|apply qt|apply qv);simp only[go_sem,hib,mV,rG,h0i,jW])))
    refine StepC.mk (Step.appendMkList (kd:=.i64) (n:=1000) (rows:=cr xs++qa j 6) (i:=0) (len:=i) (cap:=xs.length+j) (k:=xs.length+1 - i) (sz:=6) (by_:=104) rfl rfl oe oe oe oe (by simp +decide only[go_sem,EZ]) (by simp[qK,zS]) xL oa oa oa oa ?_);intro j';have hik2:i<=xs.length+1:=oa;have hlj2:xs.length+1<=xs.length+1+j':=oa;have ht0:((cr xs++qa j 6).drop 0).take i=cr (xs.take i):=by rw[yC,jo oa,nr]
    simp only[ht0,HI];simp +decide only[go_sem]
    (repeat(first|apply qk|apply qm|((first|refine qC ?_|refine zU zh ?_|apply qt|apply qv);simp only[go_sem,hik2,hlj2])))
    have hzt0:RowsSz 6 (cr (xs.take i)):=nu fun r hr=>hz r (yW hr);have hzt:RowsSz 6 (cr (xs.take i)++qa (xs.length+1 - i+j') 6):=fun r hr=>(wF.1 hr).elim (hzt0 r) (zm _ 6 r);have hzt2:RowsSz 6 (cr (xs.take i)++v.map T.c::qa (xs.length - i+j') 6):=fun r hr=>by
     simp only[wF,wJ]at hr;rcases hr with h|rfl|h
     ·exact hzt0 r h
     ·exact hvT
     ·exact zm _ 6 r h
    have hti:(cr (xs.take i)).length=i:=og;have g1:=Ly (cr xs) (v.map T.c) i j' 6 hlt';have g2:=Lx (cr xs) (v.map T.c) i j' 6 hlt';rw[nr,QG]at g1 g2;refine StepC.mk (Step.copyTo (n:=40) (sz:=6) (i:=i) (len:=xs.length+1 - i) (cap:=xs.length+1+j' - i) (ys:=[v.map T.c]) (rows:=cr (xs.take i)++qa (xs.length+1 - i+j') 6) (rows':=cr (xs.take i)++v.map T.c::qa (xs.length - i+j') 6) (c:=1)
     rfl oe oe oe (by simp only[wz,zS,hti];omega) hzt (GC (n:=a+NB) oe (by simp +decide only[go_sem,X9]) hvT) (by simp<;>omega) g1 ?_)
    have Te:i+1<=xs.length+1:=oa;simp +decide only[go_sem]
    (repeat(first|apply qk|apply qm|((first|refine qC ?_|refine zU zh ?_|apply qt|apply qv);simp only[go_sem,VE,Te,hlj2,hi,hlj])))
    refine StepC.mk (Step.copyTo (n:=40) (sz:=6) (i:=i+1) (len:=xs.length+1 - (i+1)) (cap:=xs.length+1+j' - (i+1)) (ys:=(cr xs).drop i) (rows:=cr (xs.take i)++v.map T.c::qa (xs.length - i+j') 6) (rows':=cr (xs.take i)++(v.map T.c::((cr xs).drop i++qa j' 6))) (c:=xs.length - i)
     rfl oe oe oe (by simp only[wz,wW,zS,hti];omega) hzt2
     (Av (n:=1000) (i:=i) (len:=xs.length - i) (cap:=xs.length+j - i) (rows:=cr xs++qa j 6) oe (by simp +decide only[go_sem,EZ]) (by simp only[wz,zS,QG];omega) xL (by rw[List.drop_append_of_le_length oa,jo (by simp[qK]),yv (by simp[qK])])) (by simp[qK]<;>omega) g2 ?_)
    simp +decide only[go_sem]
    (repeat(first|apply qk|apply qm|((first|refine qC ?_|refine zU zh ?_|apply qt|apply qv);simp only[go_sem])))
    refine qn (DS.Sub.trans (zB 40 1000 oo) (qw (N:=95) (sls:=[(6,.one (.ba 1000 6 0 (xs.length+1) (xs.length+1+j')))]) (bxs:=[(1000,cr (xs.take i++v::xs.drop i)++qa j' 6)]) rfl oe (by simp +decide only[go_sem,Qv,sR,CL,wS]))) ?_;apply qb;simp +decide only[go_sem];exact⟨j',rfl,rfl⟩
   ·simp
  ·have hg:decide (((xs.length+j:Nat):Int)<((xs.length+1:Nat):Int))=false:=by grind
   (repeat(first|apply qk|apply qm|((first|refine qC ?_|refine zU zh ?_|apply qt|apply qv);simp only[go_sem,mV,hg])))
   apply qW;(simp +decide only[go_sem];rfl)
   ·simp
   intro _;have Yd:xs.length+1<=xs.length+j:=oa;have h0l:=wM (xs.length+1);have Te:i+1<=xs.length+1:=oa
   (repeat(first|apply qk|apply qm|((first|refine qC ?_|refine zU zh ?_|apply qt|apply qv);simp only[go_sem,mV,VE,Yd,h0l,jW,Te])))
   refine CallC.step (Step.overlaps (t:=29) (tr:=4) (q:=a+NB) (sz:=6) (m:=1) (rowsq:=[v.map T.c]) (n:=1000) (i:=i+1) (len:=xs.length+1 - (i+1)) (cap:=xs.length+j - (i+1)) (rows:=cr xs++qa j 6) rfl oe func122 om om om om underlying29 (inf:=Tryz.t46) om
    oe (by simp +decide only[go_sem,X9]) oh oa oa oe (by simp +decide only[go_sem,EZ]) (fun e=>by have:=af List.length e;simp[zS,qK]at this;omega) xL oa Jo ?_)
   simp +decide only[go_sem]
   (repeat(first|apply qk|apply qm|((first|refine qC ?_|refine zU zh ?_|apply qt|apply qv);simp only[go_sem])))
   apply qW;(simp +decide only[go_sem];rfl)
   ·intro _;have qce:i<=xs.length+1:=oa;have hRl:xs.length+j=(cr xs++qa j 6).length:=by simp[zS,qK]
    have g1:=Lw (cr xs) i j 6 hlt' hj0;have g2:=Lv (cr xs) (v.map T.c) i (j - 1) 6 hlt';rw[nr,QG]at g1 g2;have hzr2:RowsSz 6 (cr (xs.take (i+1))++((cr xs).drop i++qa (j - 1) 6)):=fun r hr=>by
     simp only[wF]at hr;rcases hr with h|h|h
     ·exact nu (fun r hr=>hz r (yW hr)) r h
     ·exact MF r (y5 h)
     ·exact zm _ 6 r h
    (repeat(first|apply qk|apply qm|((first|refine qC ?_|refine zU zh ?_|apply qt|apply qv);simp only[go_sem,VE,Yd,Te,qce])))
    refine StepC.mk (Step.copyTo (n:=1000) (sz:=6) (i:=i+1) (len:=xs.length+1 - (i+1)) (cap:=xs.length+j - (i+1)) (ys:=((cr xs++qa j 6).drop i).take (xs.length+1 - i)) (rows:=cr xs++qa j 6) (rows':=cr (xs.take (i+1))++((cr xs).drop i++qa (j - 1) 6)) (c:=xs.length - i)
     rfl oe oe (by simp +decide only[go_sem,EZ]) (by rw[<-hRl];omega) xL
     (Av (n:=1000) (i:=i) (len:=xs.length+1 - i) (cap:=xs.length+j - i) (rows:=cr xs++qa j 6) oe (by simp +decide only[go_sem,EZ]) (by rw[<-hRl];omega) xL rfl) (by simp[zS,qK];omega) g1 ?_)
    simp +decide only[go_sem]
    (repeat(first|apply qk|apply qm|((first|refine qC ?_|refine zU zh ?_|apply qt|apply qv);simp only[go_sem,Yd,qce])))
    have hti:(cr (xs.take (i+1))).length=i+1:=by simp[qK];omega
    rw[nr]at g2;refine StepC.mk (Step.copyTo (n:=1000) (sz:=6) (i:=i) (len:=xs.length+1 - i) (cap:=xs.length+j - i) (ys:=[v.map T.c]) (rows:=cr (xs.take (i+1))++((cr xs).drop i++qa (j - 1) 6)) (rows':=cr (xs.take i)++(v.map T.c::((cr xs).drop i++qa (j - 1) 6))) (c:=1)
     rfl oe oe oe (by simp only[wz,yA,zS,hti,QG];omega) hzr2 (GC (n:=a+NB) oe (by simp +decide only[go_sem,X9]) hvT) (by simp<;>omega) g2 ?_)
    simp +decide only[go_sem]
    (repeat(first|apply qk|apply qm|((first|refine qC ?_|refine zU zh ?_|apply qt|apply qv);simp only[go_sem])))
    have hjj:xs.length+1+(j - 1)=xs.length+j:=oa;refine qn (qw (N:=95) (sls:=[(6,.one (.ba 1000 6 0 (xs.length+1) (xs.length+1+(j - 1))))]) (bxs:=[(1000,cr (xs.take i++v::xs.drop i)++qa (j - 1) 6)]) rfl (by simp +decide only[go_sem,hjj]) (by simp +decide only[go_sem,Qv,sR,CL,wS])) ?_;apply qb;simp +decide only[go_sem];exact⟨j - 1,rfl,rfl⟩
   ·simp
 ·have hie:i=xs.length:=by omega
  have he:((i:Int)==(xs.length:Int))=true:=og
  (repeat(first|apply qk|apply qm|((first|refine qC ?_|refine zU zh ?_|apply qt|apply qv);simp only[go_sem,hi,hlj])))
  apply qW;(simp +decide only[go_sem];rfl)
  ·simp
  intro _
  (repeat(first|apply qk|apply qm|((first|refine qC ?_|refine zU zh ?_|apply qt|apply qv);simp only[go_sem,he])))
  apply qW;(simp +decide only[go_sem];rfl)
  ·intro _
   (repeat(first|apply qk|apply qm|((first|refine qC ?_|refine zU zh ?_|apply qt|apply qv);simp only[go_sem])))
   refine StepC.mk (Step.appendList (n:=1000) (rows:=cr xs) (ys:=[v.map T.c]) (j:=j) (sz:=6) (by_:=104) rfl rfl oe (by simp +decide only[go_sem,QG]) (by simp +decide only[go_sem,EZ]) MF (GC (n:=a+NB) oe (by simp +decide only[go_sem,X9]) hvT) (by simp[qK];omega) ?_);intro j';simp +decide only[go_sem,QG]
   (repeat(first|apply qk|apply qm|((first|refine qC ?_|refine zU zh ?_|apply qt|apply qv);simp only[go_sem])))
   have XX:xs.take i++v::xs.drop i=xs++[v]:=og;refine qn (DS.Sub.trans (zB 25 1000 oo) (qw (N:=95) (sls:=[(6,.one (.ba 1000 6 0 (xs.length+1) (xs.length+1+j')))]) (bxs:=[(1000,cr (xs.take i++v::xs.drop i)++qa j' 6)]) rfl oe (by simp +decide only[go_sem,XX,Qv,sR,xf,wS]))) ?_;apply qb;simp +decide only[go_sem];exact⟨j',rfl,rfl⟩
  ·simp
def qcP(ys:List (List Dl.C))(j a i:Nat)(hz: ∀r∈ys,r.length=6)(hi:i<ys.length)(hl:ys.length<=1048576):
  ECalls pP 65 [.one (.ba (a+NB) 6 0 ys.length (ys.length+j)),dv (li i),dv (li ((i+1:Nat):Int))] (ml [(a+NB,cr ys++qa j 6)])
   (fun r H'=>∃j',r= .one (.ba (a+NB) 6 0 (ys.length - 1) (ys.length+j))/\H'=ml [(a+NB,cr (ys.take i++ys.drop (i+1))++qa j' 6)]):=by
 have qi:=qo;have h0:(0<=i)=True:=oh;have h1:(i<=i+1)=True:=oh;have h2:(i+1<=ys.length)=True:=og;have h3:(ys.length<=ys.length+j)=True:=oh;have h4:(i<=ys.length+j)=True:=og;have h5:((i:Int)==((i+1:Nat):Int))=false:=og;have VH: ∀r∈cr ys++qa j 6,r.length=6:=fun r hr=>(wF.1 hr).elim (fun h=>by obtain⟨x,hx,rfl⟩:=wN.1 h;rw[wn];exact hz x hx) (zm j 6 r);have QG:(cr ys).length=ys.length:=qK ys;refine Qn (N:=33) (rs:=[.tmp 6]) om func65 rfl rfl rfl oh ?_
 (repeat' first|(first|refine qC ?_|refine zU tT ?_|apply kU);simp only[go_sem,h0,h1,h2,h3,h4,h5,wO,Option.isSome_some,yT,Nat.add_sub_cancel_left,yi,jW]|apply kh<;>intro qe)
 have MN:(cr (ys.drop (i+1))).length=ys.length - (i+1):=by rw[qK,yA]
 have hcd:cr (ys.drop (i+1))=(cr ys).drop (i+1):=by simp[cr,List.map_drop]
 have hct:cr (ys.take i)=(cr ys).take i:=by simp[cr,jv]
 have hsr:cr (ys.drop (i+1))=((cr ys++qa j 6).drop (i+1)).take (ys.length - (i+1)):=og;have lF:(cr ys++qa j 6).length=ys.length+j:=by rw[wz,QG];simp[qa]
 have bi:(cr ys++qa j 6).take (0+i)++(cr (ys.drop (i+1))++(cr ys++qa j 6).drop (0+i+(cr (ys.drop (i+1))).length))=cr (ys.take i++ys.drop (i+1))++(cr ys++qa j 6).drop (ys.length - 1):=by rw[MN,yi,jo (by rw[QG];omega),<-hct,<-wS,Qv,show i+(ys.length - (i+1))=ys.length - 1 by omega]
 refine StepC.mk (Step.appendRoom (n:=a+NB) (sz:=6) (by_:=104) (i:=0) (len:=i) (cap:=ys.length+j) (rows:=cr ys++qa j 6) (ys:=cr (ys.drop (i+1))) rfl rfl oe oe oe (by rw[lF];omega) VH
  (Av (n:=a+NB) (i:=i+1) (len:=ys.length - (i+1)) (cap:=ys.length+j - (i+1)) (rows:=cr ys++qa j 6) oe oe (by rw[lF];omega) VH hsr) (by rw[MN];omega) ?_)
 rw[bi,MN,show i+(ys.length - (i+1))=ys.length - 1 by omega];have g1:(ys.length - 1<=ys.length)=True:=oh;have g2:(ys.length<=ys.length+j)=True:=oa;have g3:(ys.length - 1<=ys.length+j)=True:=og;simp +decide only[go_sem]
 (repeat' first|(first|refine qC ?_|refine zU tT ?_|apply kU);simp only[go_sem,g1,g2,wO,yT,yi]|apply kh<;>intro qe)
 have Cn:(cr (ys.take i++ys.drop (i+1))).length=ys.length - 1:=by rw[qK,wz,ym,yA];omega
 have hez: ∀r∈cr (ys.take i++ys.drop (i+1))++(cr ys++qa j 6).drop (ys.length - 1),r.length=6:=fun r hr=>by
  rcases wF.1 hr with h|h
  ·grind
  ·grind
 have na:(cr (ys.take i++ys.drop (i+1))++(cr ys++qa j 6).drop (ys.length - 1)).take (ys.length - 1)++(qa (ys.length - (ys.length - 1)) 6++(cr (ys.take i++ys.drop (i+1))++(cr ys++qa j 6).drop (ys.length - 1)).drop (ys.length - 1+(ys.length - (ys.length - 1))))=cr (ys.take i++ys.drop (i+1))++qa (1+j) 6:=by generalize cr (ys.take i++ys.drop (i+1))=E at Cn ⊢;have e1:ys.length - 1+(ys.length - (ys.length - 1))=E.length+1:=oa;have e2:(E++(cr ys++qa j 6).drop (ys.length - 1)).drop (E.length+1)=qa j 6:=og;rw[List.take_left' Cn,e1,e2,show ys.length - (ys.length - 1)=1 by omega];congr 1;simp only[qa,jj]
 refine StepC.mk (Step.clear (n:=a+NB) (rows:=cr (ys.take i++ys.drop (i+1))++(cr ys++qa j 6).drop (ys.length - 1)) (i:=ys.length - 1) (len:=ys.length - (ys.length - 1)) (cap:=ys.length+j - (ys.length - 1)) (sz:=6) (by_:=104) rfl oe oe oe
  (by rw[wz,Cn,yA,lF];omega) hez ?_)
 rw[na];simp +decide only[go_sem]
 (repeat(first|apply qk|apply qm|((first|refine qC ?_|refine zU tT ?_|apply qt|apply qv);simp only[go_sem])))
 refine qn (qw (N:=33) (sls:=[(6,.one (.ba (a+NB) 6 0 (ys.length - 1) (ys.length+j)))]) (bxs:=[(a+NB,cr (ys.take i++ys.drop (i+1))++qa (1+j) 6)]) rfl oe oe) ?_;apply qb;simp +decide only[go_sem];exact⟨_,rfl⟩
attribute [local go_sem] vp ZO lM Rul.enc
def eT(l:List Rul): ∀r∈l.map Rul.enc,r.length=6:=fun r hr=>by obtain⟨x,_,rfl⟩:=wN.1 hr;rfl
abbrev qa0:Dl.PL:=fun|1=> Dl.ll 0 11 []|3=>[(0,.blind),(1,.light),(2,.light),(3,.light),(4,.light),(6,.look [20]),(7,.look [20]),(8,.look [20]),(5,.fresh),(9,.step),(10,.light),(11,.light),(12,.step)]|_=>[]
def qcM(g:Lg)(n:Int)(hl:g.rules.length<=1000000):ECalls pP 64 [.one (.bx (2+NB) 9 0 0),dv (.pt [li n])] (ml [(2+NB,[g.row])])
  (fun r H'=>∃e h,r=dv (li e)/\(∃rs:List Rul,rs.length<=g.rules.length+1/\(∀x∈rs,x∈g.rules)/\h={ g with rules:=rs })/\AllM H' [(2+NB,[h.row])]):=by
 have qi:=qo;simp only[<-qD];simp only[ZO,wo,wm];by_cases h0:n<0\/(g.rules.length:Int)<=n
 ·by_cases h1:n<0
  ·have e1:decide (n<0)=true:=by grind
   refine eX (N:=27) (rs:=[.tmp 3]) qa0 func64 ?_;refine gB ?_;exact⟨2,g,rfl,⟨g.rules,oa,fun _ h=>h,rfl⟩,rfl⟩
  ·have e1:decide (n<0)=false:=by grind
   have e2:decide ((g.rules.length:Int)<=n)=true:=og;refine eX (N:=27) (rs:=[.tmp 3]) qa0 func64 ?_;refine gB ?_;exact⟨2,g,rfl,⟨g.rules,oa,fun _ h=>h,rfl⟩,rfl⟩
 obtain⟨i,rfl⟩: ∃i:Nat,n=i:=⟨n.toNat,oa⟩;have e1:decide ((i:Int)<0)=false:=oh;have e2:decide ((g.rules.length:Int)<=(i:Int))=false:=og;have hi:i<g.rules.length:=oa;clear h0;refine eX (N:=27) (rs:=[.tmp 3]) qa0 func64 ?_;refine gB ?_;have QG:(g.rules.map Rul.enc).length=g.rules.length:=oh;have hwp:aD .i64 ((i:Int)+1)=((i+1:Nat):Int):=by rw[wrap_i64 oa oa];omega
 have hz:=eT g.rules;refine CallC.new (xm (g.rules.map Rul.enc) hz ot) rfl (DLeL.of_eq oe) (by constructor<;>simp[mid]) ?_;rintro r H' ⟨j,rfl,rfl⟩;simp +decide only[go_sem,hwp,QG];obtain⟨rs,eL⟩: ∃rs:List Rul,rs=g.rules.take i++g.rules.drop (i+1):=⟨_,rfl⟩;have X5:(g.rules.map Rul.enc).take i++(g.rules.map Rul.enc).drop (i+1)=rs.map Rul.enc:=oA;have lF:rs.length=g.rules.length - 1:=og;have pk: ∀x∈rs,x∈g.rules:=fun x hx=>by
  rw[eL]at hx;rcases wF.1 hx with h|h
  ·grind
  ·grind
 have hD:=qcP (g.rules.map Rul.enc) j 20 i hz oa oa;rw[QG,X5]at hD;have EZ:(rs.map Rul.enc).length=rs.length:=oh;have sJ:g.rules.length - 1<=(rs.map Rul.enc).length:=oa;have gg:(rs.map Rul.enc).take (g.rules.length - 1)=rs.map Rul.enc:=og;clear X5 eL;refine Lm [20] ?_ hD;rintro r H' ⟨j',rfl,rfl⟩;refine⟨kn 27 [(15,.one (.bx (2+NB) 9 0 0)),(24,dv (.sl 6 (rs.map Rul.enc)))] (ml [(2+NB,[[.c (.sl 2 (g.inv.map Phon.enc)),.c (ls g.nm),.c (.sl 2 (g.units.map Unt.enc)),.c (.sl 1 (g.letters.map Z2)),.c (.sl 6 (g.rules.map Rul.enc)),.c (li g.states),.c (.sl 3 (g.steps.map Stp.enc)),.c (.sl 1 (ints g.fin)),.c (.sl 8 (g.lex.map Ent.enc))]])]),
  DS.Sub.trans (ca 20 6 (rs.map Rul.enc) (qa j' 6) oo oq (eT rs)) (qw rfl oq oq),rfl,?_⟩
 refine gB ?_;exact⟨0,{ g with rules:=rs },rfl,⟨rs,oa,pk,rfl⟩,rfl⟩
def Hp(xs:List (List Dl.C))(j sz a:Nat)(v:List Dl.C):gR xs j sz (a+NB) v=ml [(1000,cr xs++qa j sz),(a+NB,[v.map T.c])]:=by
 have:=qX;funext k;unfold gR;simp only[ml];by_cases h1:k=1000
 ·simp[h1,lk]
 ·by_cases h2:k=a+NB
  ·have h3: ¬a+NB=1000:=by omega
   simp[h2,h3,lk]
  ·simp[h1,h2,lk]
abbrev UP:Dl.PL:=fun|1=> Dl.ll 0 11 []|5=> Dl.ll 0 5 [(5,.step),(6,.light)]|_=>[]
def qaV(g:Lg)(n:Int)(r:Rul)(hl:g.rules.length<=90000)(h1:r.src.length<=1000000)(h2:r.dst.length<=1048576):ECalls pP 60 [.one (.bx (2+NB) 9 0 0),dv (.pt [li n]),dv (.pt r.enc)] (ml [(2+NB,[g.row])])
  (fun q H'=>∃e h,q=dv (li e)/\(∃rs:List Rul,rs.length<=g.rules.length+1/\(∀x∈rs,x∈g.rules\/x=r)/\h={ g with rules:=rs })/\AllM H' [(2+NB,[h.row])]):=by
 have qi:=qo;have hC:=(AC g.inv r h1 h2).mono (S:=zJ True) (by rintro q ⟨e,rfl⟩;exact⟨e,rfl,fun _=>trivial⟩);simp only[<-qD];simp only[ZO,wo,wm,qj,Rul.row]at hC ⊢;by_cases h0:n<0\/(g.rules.length:Int)<n
 ·by_cases h1:n<0
  ·have e1:decide (n<0)=true:=by grind
   refine eX (N:=44) (rs:=[.tmp 4]) UP func60 ?_;refine gB ?_;exact⟨2,g,rfl,⟨g.rules,oa,fun _ h=>.inl h,rfl⟩,rfl⟩
  ·have e1:decide (n<0)=false:=by grind
   have e2:decide ((g.rules.length:Int)<n)=true:=og;refine eX (N:=44) (rs:=[.tmp 4]) UP func60 ?_;refine gB ?_;exact⟨2,g,rfl,⟨g.rules,oa,fun _ h=>.inl h,rfl⟩,rfl⟩
 obtain⟨i,rfl⟩: ∃i:Nat,n=i:=⟨n.toNat,oa⟩;have e1:decide ((i:Int)<0)=false:=oh;have e2:decide ((g.rules.length:Int)<(i:Int))=false:=og;have hi:i<=g.rules.length:=oa;clear h0;by_cases Rj:12<=g.rules.length
 ·have e3:decide ((12:Int)<=(g.rules.length:Int))=true:=by grind
  refine eX (N:=44) (rs:=[.tmp 4]) UP func60 ?_;refine gB ?_;exact⟨11,g,rfl,⟨g.rules,oa,fun _ h=>.inl h,rfl⟩,rfl⟩
 have e3:decide ((12:Int)<=(g.rules.length:Int))=false:=og;refine eX (N:=44) (rs:=[.tmp 4]) UP func60 ?_;repeat' first|refine gQ ?_|exact gU|refine gS ?_|exact gT|(first|apply xc|apply gf|apply gt)<;>intro hc
 refine eH ?_ hC;intro e _;by_cases he:e=0;rotate_left
 ·have hb:(e==0)=false:=by grind
  refine gB ?_;exact⟨e,g,rfl,⟨g.rules,oa,fun _ h=>.inl h,rfl⟩,rfl⟩
 subst he;clear hC;refine gS ?_;refine xd ?_;refine Wh (N:=44) [(0,.blind),(1,.blind),(2,.blind),(3,.blind),(4,.look [37,40]),(6,.look [37,40]),(7,.look [37,40])] 5 ((8,.fresh)::(9,.step)::Dl.ll 10 2 [(12,.step)]) 8 ((5,.fresh)::(9,.step)::Dl.ll 10 2 [(12,.step)]) ?_;refine gS ?_;obtain⟨rs,eL⟩: ∃rs:List Rul,rs=g.rules.take i++r::g.rules.drop i:=⟨_,rfl⟩;have X5:(g.rules.map Rul.enc).take i++Rul.enc r::(g.rules.map Rul.enc).drop i=rs.map Rul.enc:=oA;have lF:rs.length=g.rules.length+1:=og;have pk: ∀x∈rs,x∈g.rules\/x=r:=fun x hx=>by
  rw[eL]at hx;rcases wF.1 hx with h|h
  ·grind
  ·grind
 have QG:(g.rules.map Rul.enc).length=g.rules.length:=oh;have hI:=fun j=>Vp 40 (g.rules.map Rul.enc) j (Rul.enc r) (eT g.rules) rfl i oa oa;simp only[Hp,QG,X5]at hI;simp only[Rul.enc,wo,wm]at hI;have EZ:(rs.map Rul.enc).length=rs.length:=oh;have sJ:g.rules.length+1<=(rs.map Rul.enc).length:=oa;have gg:(rs.map Rul.enc).take (g.rules.length+1)=rs.map Rul.enc:=og;have VO:g.rules.length<=1000000:=oa;clear X5 eL;replace hI:Kp _:=⟨hI⟩;constructor
 ·refine CallC.new (xm (g.rules.map Rul.enc) (eT g.rules) oa) rfl (DLeL.of_eq oe) (by constructor<;>simp[mid]) ?_;rintro q H' ⟨j,rfl,rfl⟩;simp +decide only[go_sem,QG];refine CallC.sub (zB 37 1000 oo) rfl ?_;refine CallC.sub (s':=kn 44 [(32,.one (.bx (2+NB) 9 0 0)),(37,.one (.ba 1000 6 0 g.rules.length (g.rules.length+j))),(38,dv (li i)),(40,.one (.ba 40 6 0 1 1))] (ml [(2+NB,[[.c (.sl 2 (g.inv.map Phon.enc)),.c (ls g.nm),.c (.sl 2 (g.units.map Unt.enc)),.c (.sl 1 (g.letters.map Z2)),.c (.sl 6 (g.rules.map Rul.enc)),.c (li g.states),.c (.sl 3 (g.steps.map Stp.enc)),.c (.sl 1 (ints g.fin)),.c (.sl 8 (g.lex.map Ent.enc))]]),(1000,cr (g.rules.map Rul.enc)++qa j 6),(40,[[.c (.sl 1 (ints r.src)),.c (.sl 1 (ints r.dst)),.c (.sl 2 (r.left.map Lnk.enc)),.c (.sl 2 (r.right.map Lnk.enc)),.c (lb r.beg),.c (lb r.fin)]])])) (Zb) rfl ?_;simp +decide only[go_sem];refine Lm [40] ?_ (hI.1 j);rintro q H' ⟨j',rfl,rfl⟩;refine⟨kn 44 [(32,.one (.bx (2+NB) 9 0 0)),(41,dv (.sl 6 (rs.map Rul.enc)))] (ml [(2+NB,[[.c (.sl 2 (g.inv.map Phon.enc)),.c (ls g.nm),.c (.sl 2 (g.units.map Unt.enc)),.c (.sl 1 (g.letters.map Z2)),.c (.sl 6 (g.rules.map Rul.enc)),.c (li g.states),.c (.sl 3 (g.steps.map Stp.enc)),.c (.sl 1 (ints g.fin)),.c (.sl 8 (g.lex.map Ent.enc))]])]),
   DS.Sub.trans (ca 1000 6 (rs.map Rul.enc) (qa j' 6) oo oq (eT rs)) (qw rfl oq oq),rfl,?_⟩
  refine gB ?_;exact⟨0,{ g with rules:=rs },rfl,⟨rs,oa,pk,rfl⟩,rfl⟩
 ·refine CallC.new (xm (g.rules.map Rul.enc) (eT g.rules) oa) rfl (DLeL.of_eq oe) (by constructor<;>simp[mid]) ?_;rintro q H' ⟨j,rfl,rfl⟩;simp +decide only[go_sem,QG];refine CallC.sub (zB 37 1000 oo) rfl ?_;refine CallC.sub (s':=kn 44 [(32,.one (.bx (2+NB) 9 0 0)),(37,.one (.ba 1000 6 0 g.rules.length (g.rules.length+j))),(38,dv (li i)),(40,.one (.ba 40 6 0 1 1))] (ml [(2+NB,[[.c (.sl 2 (g.inv.map Phon.enc)),.c (ls g.nm),.c (.sl 2 (g.units.map Unt.enc)),.c (.sl 1 (g.letters.map Z2)),.c (.sl 6 (g.rules.map Rul.enc)),.c (li g.states),.c (.sl 3 (g.steps.map Stp.enc)),.c (.sl 1 (ints g.fin)),.c (.sl 8 (g.lex.map Ent.enc))]]),(1000,cr (g.rules.map Rul.enc)++qa j 6),(40,[[.c (.sl 1 (ints r.src)),.c (.sl 1 (ints r.dst)),.c (.sl 2 (r.left.map Lnk.enc)),.c (.sl 2 (r.right.map Lnk.enc)),.c (lb r.beg),.c (lb r.fin)]])])) (Zb) rfl ?_;simp +decide only[go_sem];refine Lm [40] ?_ (hI.1 j);rintro q H' ⟨j',rfl,rfl⟩;refine⟨kn 44 [(32,.one (.bx (2+NB) 9 0 0)),(41,dv (.sl 6 (rs.map Rul.enc)))] (ml [(2+NB,[[.c (.sl 2 (g.inv.map Phon.enc)),.c (ls g.nm),.c (.sl 2 (g.units.map Unt.enc)),.c (.sl 1 (g.letters.map Z2)),.c (.sl 6 (g.rules.map Rul.enc)),.c (li g.states),.c (.sl 3 (g.steps.map Stp.enc)),.c (.sl 1 (ints g.fin)),.c (.sl 8 (g.lex.map Ent.enc))]])]),
   DS.Sub.trans (ca 1000 6 (rs.map Rul.enc) (qa j' 6) oo oq (eT rs)) (qw rfl oq oq),rfl,?_⟩
  refine gB ?_;exact⟨0,{ g with rules:=rs },rfl,⟨rs,oa,pk,rfl⟩,rfl⟩
attribute [local go_sem] vp ZO lM
def ChgR.mono{Q Q':Int->Lg->Prop}(h: ∀e g,Q e g->Q' e g): ∀r,ChgR Q r->ChgR Q' r:=fun _ ⟨e,g,h1,h2⟩=>⟨e,g,h e g h1,h2⟩
def H0{g:Lg}(n:Int)(hl:g.rules.length<=1000000):
  NCalls pP 27 [.agg g.row,dv (li n)] (ChgR fun _ h=>∃rs:List Rul,rs.length<=g.rules.length+1/\(∀x∈rs,x∈g.rules)/\h={ g with rules:=rs }):=by
 have hC:=Sk (f:=64) (caps:=[.pt [li n]]) (Q:=fun _ h=>∃rs:List Rul,rs.length<=g.rules.length+1/\(∀x∈rs,x∈g.rules)/\h={ g with rules:=rs }) (qcM g n hl);generalize (fun(_:Int) (h:Lg)=>∃rs:List Rul,rs.length<=g.rules.length+1/\(∀x∈rs,x∈g.rules)/\h={ g with rules:=rs })=Q at*
 clear hl;simp only[<-qD]at*
 simp only[ZO,wo,wm]at*
 refine nX (N:=11) (rs:=[.cell 4 36,.tmp 5]) qg func27 ?_;try simp only[go_sem, *]
 repeat'((first|refine kq ?_|refine xj ?_|(apply xc<;>intro hc)|(apply gf<;>intro hc)|(apply gt<;>intro hc))<;>simp only[go_sem, *])
 refine CallC.frz 3 [li n] oh oe ?_;simp only[go_sem, *];refine MD ?_ hC;rintro _ ⟨e,h,hq,⟨rfl,rfl⟩|⟨he,rfl|rfl⟩⟩
 ·simp only[<-qD];simp only[ZO,wo,wm];try simp only[go_sem, *]
  repeat'((first|refine kq ?_|refine xj ?_|(apply xc<;>intro hc)|(apply gf<;>intro hc)|(apply gt<;>intro hc))<;>simp only[go_sem, *])
  exact⟨0,h,hq,.inl ⟨rfl,rfl⟩⟩
 ·simp only[zE];try simp only[go_sem, *]
  repeat'((first|refine kq ?_|refine xj ?_|(apply xc<;>intro hc)|(apply gf<;>intro hc)|(apply gt<;>intro hc))<;>simp only[go_sem, *])
  exact⟨e,h,hq,.inr ⟨he,by first|exact .inl rfl|exact .inr rfl⟩⟩
 ·simp only[zC];try simp only[go_sem, *]
  repeat'((first|refine kq ?_|refine xj ?_|(apply xc<;>intro hc)|(apply gf<;>intro hc)|(apply gt<;>intro hc))<;>simp only[go_sem, *])
  exact⟨e,h,hq,.inr ⟨he,by first|exact .inl rfl|exact .inr rfl⟩⟩
def KJ{g:Lg}(n:Int)(r:Rul)(hl:g.rules.length<=90000)(h1:r.src.length<=1000000)(h2:r.dst.length<=1048576):
  NCalls pP 26 [.agg g.row,dv (li n),.agg r.row] (ChgR fun _ h=>∃rs:List Rul,rs.length<=g.rules.length+1/\(∀x∈rs,x∈g.rules\/x=r)/\h={ g with rules:=rs }):=by
 have hC:=Sk (f:=60) (caps:=[.pt [li n],.pt r.enc]) (Q:=fun _ h=>∃rs:List Rul,rs.length<=g.rules.length+1/\(∀x∈rs,x∈g.rules\/x=r)/\h={ g with rules:=rs }) (qaV g n r hl h1 h2);generalize (fun(_:Int) (h:Lg)=>∃rs:List Rul,rs.length<=g.rules.length+1/\(∀x∈rs,x∈g.rules\/x=r)/\h={ g with rules:=rs })=Q at*
 clear hl h1 h2;simp only[<-qD]at*
 simp only[ZO,Rul.row,Rul.enc,wo,wm]at*
 refine nX (N:=13) (rs:=[.cell 6 36,.tmp 7]) qg func26 ?_;try simp only[go_sem, *]
 repeat'((first|refine kq ?_|refine xj ?_|(apply xc<;>intro hc)|(apply gf<;>intro hc)|(apply gt<;>intro hc))<;>simp only[go_sem, *])
 refine CallC.frz 4 [li n] oh oe ?_;simp only[go_sem, *];refine CallC.frz 5 [.sl 1 (ints r.src),.sl 1 (ints r.dst),.sl 2 (r.left.map Lnk.enc),.sl 2 (r.right.map Lnk.enc),lb r.beg,lb r.fin] oh oe ?_;simp only[go_sem, *];refine MD ?_ hC;rintro _ ⟨e,h,hq,⟨rfl,rfl⟩|⟨he,rfl|rfl⟩⟩
 ·simp only[<-qD];simp only[ZO,wo,wm];try simp only[go_sem, *]
  repeat'((first|refine kq ?_|refine xj ?_|(apply xc<;>intro hc)|(apply gf<;>intro hc)|(apply gt<;>intro hc))<;>simp only[go_sem, *])
  exact⟨0,h,hq,.inl ⟨rfl,rfl⟩⟩
 ·simp only[zE];try simp only[go_sem, *]
  repeat'((first|refine kq ?_|refine xj ?_|(apply xc<;>intro hc)|(apply gf<;>intro hc)|(apply gt<;>intro hc))<;>simp only[go_sem, *])
  exact⟨e,h,hq,.inr ⟨he,by first|exact .inl rfl|exact .inr rfl⟩⟩
 ·simp only[zC];try simp only[go_sem, *]
  repeat'((first|refine kq ?_|refine xj ?_|(apply xc<;>intro hc)|(apply gf<;>intro hc)|(apply gt<;>intro hc))<;>simp only[go_sem, *])
  exact⟨e,h,hq,.inr ⟨he,by first|exact .inl rfl|exact .inr rfl⟩⟩
def LgtG.surf{g:Lg}(h:LgtG g)(m:MidG g)(l:List Ent)(hl:l.length<=g.lex.length)(hs: ∀e∈l,e∈g.lex):SurfOk { g with lex:=l } where
 inv:=wu h.inv oo
 units:=wu h.units oo
 segs:=fun u hu=>wu (h.unit u hu).2.2 oo
 letters:=m.lets
 lets:=fun l hl=>⟨m.letl l hl,m.lett l hl⟩
 nrules:=wu h.rules oo
 rules:=fun r hr=>⟨wu (h.src r hr) oo,by rw[h.dst r hr];exact wu (h.src r hr) oo⟩
 steps:=wu h.steps oo
 fin:=wu h.fin oo
 lex:=⟨wu hl (wu h.lex oo),fun e he=>wu (h.right.each e (hs e he)).lnk oo⟩
 sens:=fun e he=>⟨wu (h.right.each e (hs e he)).few oo,(m.ents e (hs e he)).refs,fun s hx=>by have:=(h.right.each e (hs e he)).gls s hx;unfold Zu at this;simp only[we]at this;exact this.1⟩
def MidG.lexed(m:MidG g)(l:List Ent)(hl:l.length<=g.lex.length)(hs: ∀e∈l,e∈g.lex):MidG { g with lex:=l }:=
 { m with lex:=wu hl m.lex,ents:=fun e he=>m.ents e (hs e he) }
def SO(r:Rul):Prop:=r.src.length<=1048576/\r.dst.length<=1048576/\r.left.length<=1048576/\r.right.length<=1048576
def MidG.ruled(m:MidG g)(rs:List Rul)(hl:rs.length<=1048576)(hs: ∀r∈rs,SO r):MidG { g with rules:=rs }:=
 { m with rules:=hl,src:=hs }
end
end Go.Proofs.YtobpcppcjdnkmaaGreat
