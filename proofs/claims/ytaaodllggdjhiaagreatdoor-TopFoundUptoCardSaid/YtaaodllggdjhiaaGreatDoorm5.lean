/- The logic of data over the kit's walk, and contracts of the functions that the laws reach, each said by plain data; part 6 of 7. -/
import Derived.Maps.RangeWalk
import Derived.WalkKit
import Derived.Deep.RegionHeld3
import Derived.Deep.DeepCutAuto
import Derived.Tactics
import Derived.Tactics2
import Derived.Test.YtaaodllggdjhiaaGreatDoorm4
set_option linter.all false
set_option linter.unusedVariables false
set_option linter.unusedSimpArgs false
set_option maxRecDepth 10000
set_option maxHeartbeats 8000000
open Bool renaming or_false → yf, or_true → yD, false_and → jB, and_eq_true → wu, eq_iff_iff → yH, false_eq_true → w8, not_true → wT, and_false → jA
open Go.Proofs.Tryz renaming prog → pP
open Int renaming toNat_natCast → wB
open List renaming take_of_length_le → wO, drop_eq_nil_of_le → yE, append_nil → wM, getElem?_eq_getElem → wc, drop_eq_getElem_cons → wL, length_take → wx, take_length → wh, drop_length → jE, nil_append → wE, getElem?_map → wq, getElem?_append_right → wG, append_assoc → wU, length_map → we, map_set → yZ, mem_cons → ws, not_mem_nil → yl, any_eq_false → jb, any_eq_true → yo, getElem?_eq_some_iff → wd, filter_append → yG, take_append_drop → wS, length_append → wA, mem_append → wo, mem_map → wI, map_append → wJ, getElem?_drop → ya, set_append_right → je, length_cons → wz, length_nil → wR, foldl_cons → w6, drop_zero → ww, take_zero → wg, foldl_nil → w9, foldl_append → yp, map_cons → wt, map_nil → wn, cons_append → wH, length_filter_le → wC, filter_nil → yi, mem_of_getElem? → wl, mem_filter → wQ, filter_congr → jt, length_drop → yc, takeWhile_append_of_pos → jn, takeWhile_cons → jc, getElem?_eq_none → wZ, eq_of_mem_replicate → yb, map_drop → ji, mem_of_mem_drop → ym, map_map → yw, map_congr_left → yC, filter_cons_of_pos → yK, filter_cons_of_neg → ja, length_eq_zero_iff → yh, take_succ_cons → wm, drop_succ_cons → wj, mem_cons_of_mem → yN, length_range → ju, mem_of_mem_take → yt
open Nat renaming le_refl → wv, le_add_left → yx, zero_le → ye, sub_self → yM, le_trans → wD, zero_add → yr, lt_of_lt_of_le → yA, add_mul → w7
open Option renaming map_eq_some_iff → wy
open Go.Dl renaming dw_seq → kA, dw_block → kB, dw_reg → kC, dw_skip → kD, dw_exit → kE, dw_ret → kF, dw_cond → kG, guardC_f → kH, guardC_t → kI, dw_drw → kJ, dw_weaken → kK, sub_kn → kL, sub_ml → kM
open Go.Dl.CallC renaming mk → kN, light → kO
open Go.Dl.LeL renaming of_eq → kP
namespace Go.Proofs.YtaaodllggdjhiaaGreatDoor
open Go.Dl
attribute [local irreducible] DW DCalls ECalls qo wk IW
theorem insN_E(lt:Nte->Nte->Bool)(c:Nte->Nte->Int)(hlt: ∀a b,lt a b=decide (c a b<0))(f:Nat)(hf: ∀a b:Nte,DCalls pP f [.agg a.row,.agg b.row] (dv (li (c a b))))(xs:List Nte)(j q:Nat)(hq:NB<=q)(hl:xs.length<=1000000):
  ECalls pP 198 [.one (.ba q 7 0 xs.length (xs.length+j)),dv (li 0),dv (li xs.length),dv (.fn f [])] (ml [(q,cr (xs.map Nte.enc)++qb j 7)])
   (fun r H'=>r= .tup []/\H'=ml [(q,cr ((insB lt xs).map Nte.enc)++qb j 7)]):=by
 have qK:=kmax
 have h64: ∀z:Int,-1<=z->z<=10000000->IntKind.wrap .i64 z=z:=fun z h1 h2=>wrap_i64 (by omega) (by omega)
 have hsh: ∀x:Nte,x.enc.map T.c=x.row:=fun _=>rfl
 have hw0:IntKind.wrap .i64 1=1:=by decide
 refine vW (N:=53) (rs:=[]) (by kernel_rfl) Tryz.func198 rfl rfl rfl (by simp) ?_
 repeat' first|(first|refine kcc ?_|refine kjj kq31 ?_|apply kU);simp +decide only[go_sem,hw0]|apply kh<;>intro qa
 refine qk (fun i:Nat=>kn 53 [(0,.one (.ba q 7 0 xs.length (xs.length+j))),(1,dv (li 0)),(2,dv (li xs.length)),(3,dv (.fn f [])),(8,dv (li i))] (ml [(q,cr ((insB lt (xs.take i)++xs.drop i).map Nte.enc)++qb j 7)]))
  (fun i=>1<=i/\(i<=xs.length\/i=1)) (fun i=>xs.length - i) 1 (km (by simp +decide only[go_sem,qjM])) ⟨by omega,.inr rfl⟩ ?_
 rintro i ⟨hi1,hi⟩
 cases t1:decide ((i:Int)<(xs.length:Int))
 ·have hge:xs.length<=i:=by simpa using t1
  rw[wO hge,yE hge,wM]
  repeat' first|(first|refine kcc ?_|refine kjj kq31 ?_|apply kU);simp +decide only[go_sem,t1]|apply kh<;>intro qa
  rfl
 have hil:i<xs.length:=by simpa using t1
 repeat' first|(first|refine kcc ?_|refine kjj kq31 ?_|apply kU);simp +decide only[go_sem,t1]|apply kh<;>intro qa
 obtain⟨x,hx⟩: ∃x,xs[i]? =some x:=⟨_,wc hil⟩
 have hdr:xs.drop i=x::xs.drop (i+1):=by
  rw[wL hil];congr 1
  rw[wc hil]at hx;injection hx
 have hnx:insB lt (xs.take (i+1))++xs.drop (i+1)=qU (fun y=>lt x y) (insB lt (xs.take i)) x++xs.drop (i+1):=by
  rw[qH hx,qgH]
 have hSl:(insB lt (xs.take i)).length=i:=by rw[(zI lt _).length_eq,wx];omega
 rw[hdr]
 generalize hS:insB lt (xs.take i)=S at*
 generalize hR:xs.drop (i+1)=R at*
 have hRl:R.length=xs.length - (i+1):=by rw[<-hR];simp
 refine qk (fun k:Nat=>kn 53 [(0,.one (.ba q 7 0 xs.length (xs.length+j))),(1,dv (li 0)),(2,dv (li xs.length)),(3,dv (.fn f [])),(8,dv (li i)),(9,dv (li k))] (ml [(q,cr ((S.take k++x::(S.drop k++R)).map Nte.enc)++qb j 7)]))
  (fun k=>k<=i/\q9 (fun y=>lt x y) S S.length=q9 (fun y=>lt x y) S k) (fun k=>k) i (km (by simp +decide only[go_sem,<-hSl,wh,jE,wE])) ⟨wv _,by rw[hSl]⟩ ?_
 rintro k ⟨hk,hbk⟩
 have hwi:IntKind.wrap .i64 ((i:Int)+1)=((i+1:Nat):Int):=by rw[h64 _ (by omega) (by omega)];omega
 cases k with
 | zero=>
  have h0:decide (((0:Nat):Int)>0)=false:=rfl
  have hpb:qU (fun y=>lt x y) S x++R=x::(S++R):=by
   unfold qU;rw[hbk];simp[q9]
  repeat' first|(first|refine kcc ?_|refine kjj kq31 ?_|apply kU);simp +decide only[go_sem,hwi]|apply kh<;>intro qa
  refine⟨i+1,⟨by omega,.inl (by omega)⟩,by omega,km (by simp +decide only[go_sem,hnx,hpb,hR])⟩
 | succ m=>
  obtain⟨y,hy⟩: ∃y,S[m]? =some y:=⟨_,wc (by omega)⟩
  have hml:m<S.length:=by omega
  have htk:S.take (m+1)=S.take m++[y]:=qH hy
  have hdk:S.drop m=y::S.drop (m+1):=by
   rw[wL hml];congr 1
   rw[wc hml]at hy;injection hy
  have hZl:(S.take m).length=m:=by rw[wx];omega
  have hz1:(cr ((S.take (m+1)++x::(S.drop (m+1)++R)).map Nte.enc)++qb j 7)[m+1]? =some x.row:=by
   rw[qhf (x:=x.enc) (by rw[wq,wG (by rw[wx];omega),wx,Nat.min_eq_left (by omega)];simp),hsh]
  have hz2:(cr ((S.take (m+1)++x::(S.drop (m+1)++R)).map Nte.enc)++qb j 7)[m]? =some y.row:=by
   rw[qhf (x:=y.enc) (by rw[wq,htk,wU,wG (by omega),hZl];simp),hsh]
  have hw1:IntKind.wrap .i64 (((m+1:Nat):Int) - 1)=(m:Int):=by rw[h64 _ (by omega) (by omega)];omega
  have hgt:decide ((0:Int)<((m+1:Nat):Int))=true:=decide_eq_true (by omega)
  have hml2:m<xs.length:=by omega
  have hml1:m+1<xs.length:=by omega
  have hc:=hf x y
  have hcl:=hlt x y
  generalize c x y=cv at hc hcl
  cases t2:decide (cv<0)
  ·have hq2:lt x y=false:=by rw[hcl,t2]
   have hpb:qU (fun y=>lt x y) S x++R=S.take (m+1)++x::(S.drop (m+1)++R):=by
    have hb:q9 (fun y=>lt x y) S (m+1)=m+1:=by simp only[q9,hy];rw[if_neg (by rw[hq2];simp)]
    unfold qU;rw[hbk,hb];simp
   repeat' first|(first|refine kcc ?_|refine kjj kq31 ?_|refine kx hc ?_|apply kU);simp +decide only[go_sem,hgt,hw1,hz1,hz2,hml1,hml2,t2,hwi,wB,Nte.row]|apply kh<;>intro qa
   exact⟨i+1,⟨by omega,.inl (by omega)⟩,by omega,km (by simp +decide only[go_sem,hnx,hpb,hR])⟩
  ·have hq2:lt x y=true:=by rw[hcl,t2]
   have hb:q9 (fun y=>lt x y) S (m+1)=q9 (fun y=>lt x y) S m:=by simp only[q9,hy];rw[if_pos hq2]
   have Qu:((cr ((S.take (m+1)++x::(S.drop (m+1)++R)).map Nte.enc)++qb j 7).set (m+1) y.row).set m x.row=cr ((S.take m++x::(S.drop m++R)).map Nte.enc)++qb j 7:=by
    have hLl:(S.take (m+1)++x::(S.drop (m+1)++R)).length=S.length+1+R.length:=by simp;omega
    rw[<-hsh x,<-hsh y,qes (by rw[we,hLl];omega),qes (by rw[List.length_set,we,hLl];omega),<-yZ,<-yZ]
    congr 3
    rw[htk,hdk]
    simp[hZl]
   have hz3:(List.set (cr ((S.take (m+1)++x::(S.drop (m+1)++R)).map Nte.enc)++qb j 7) (m+1) y.row)[m]? =some y.row:=by rw[List.getElem?_set_ne (by omega)];exact hz2
   simp only[Nte.row]at hz1 hz2 hz3 Qu hc
   repeat' first|(first|refine kcc ?_|refine kjj kq31 ?_|refine kx hc ?_|apply kU);simp +decide only[go_sem,hgt,hw1,hz1,hz2,hml1,hml2,t2,wB,hz3,Qu]|apply kh<;>intro qa
   exact⟨m,⟨by omega,by rw[hbk,hb]⟩,by omega,kmm⟩
end Go.Proofs.YtaaodllggdjhiaaGreatDoor
namespace Go.Proofs.YtaaodllggdjhiaaGreatDoor
abbrev kpm32:List (Nat×Go.Dl.Mode):=[(0,.light),(1,.light),(2,.light),(3,.light),(4,.light),(5,.light),(6,.light),(7,.light),(8,.light),(9,.light),(10,.light),(11,.light),(12,.light),(13,.step),(14,.light),(15,.light),(16,.light)]
abbrev kq32:Nat->List (Nat×Go.Dl.Mode):=fun n=>match n with|17=>kpm32|_=>[]
end Go.Proofs.YtaaodllggdjhiaaGreatDoor
namespace Go.Proofs.YtaaodllggdjhiaaGreatDoor
open Go.Dl
attribute [local irreducible] DW DCalls ECalls qo wk IW
theorem tab_at{P:Program}{l:List (Dl.Mode×Oper)}{ds:List (Option Nat)}{d:Option Nat}{s:DS}{K:DS->Prop}(f:UInt8->Value)(tab:List UInt8)(n:Nat)(hn:n<tab.length)(h: ∀b:UInt8,zM (andA True (litA (some (f b)))) P ds d l s K):zM (andA True (litA (Option.map f tab[n]?))) P ds d l s K:=by
 rw[wc hn]
 exact h _
theorem len64_N(n:Nat)(hn:n<=255):qo pP 191 [dv (.lit (.int .u64 (n:Int)))] (fun r=>∃k:Int,r=dv (li k)):=by
 have h1:decide ((4294967296:Int)<=(n:Int))=false:=decide_eq_false (by omega)
 have h2:decide ((65536:Int)<=(n:Int))=false:=decide_eq_false (by omega)
 have h3:decide ((256:Int)<=(n:Int))=false:=decide_eq_false (by omega)
 refine vt (N:=25) (rs:=[.tmp 2]) (by kernel_rfl) Tryz.func191 rfl rfl rfl (by simp) ?_
 repeat' first|(first|refine kcc ?_|apply kU);simp only[go_sem,h1,h2,h3]|apply kh<;>intro qa
 have hw:(IntKind.u8.wrap (n:Int)).toNat=n:=by
  rw[IntKind.wrap_u8];omega
 rw[hw]
 refine tab_at _ _ n (by first|(show n<256;omega)|(simp;omega)) fun b=>?_
 simp only[go_sem]
 repeat' first|(first|refine kcc ?_|apply kU);simp only[go_sem]|apply kh<;>intro qa
 apply kF;simp only[go_sem]
 exact⟨_,rfl⟩
theorem len_N(n:Nat)(hn:n<=255):qo pP 167 [dv (.lit (.int .u64 (n:Int)))] (fun r=>∃k:Int,r=dv (li k)):=by
 refine vt (N:=8) (rs:=[.tmp 2]) (by kernel_rfl) Tryz.func167 rfl rfl rfl (by simp) ?_
 repeat' first|(first|refine kcc ?_|apply kU);simp only[go_sem]|apply kh<;>intro qa
 refine CallC.nd (caps:=[]) (len64_N n hn) (by simp only[go_sem]) (kP (by simp only[go_sem])) ?_
 rintro _ ⟨k,rfl⟩
 simp only[go_sem]
 repeat' first|(first|refine kcc ?_|apply kU);simp only[go_sem]|apply kh<;>intro qa
 apply kF;simp only[go_sem]
 exact⟨_,rfl⟩
theorem pdqS_E(lt:Spn->Spn->Bool)(c:Spn->Spn->Int)(hlt: ∀a b,lt a b=decide (c a b<0))(f:Nat)(hf: ∀a b:Spn,DCalls pP f [.agg a.row,.agg b.row] (dv (li (c a b))))(xs:List Spn)(j q:Nat)(lim:Int)(hl:xs.length<=12)(hq:NB<=q):
  ECalls pP 166 [.one (.ba q 2 0 xs.length (xs.length+j)),dv (li 0),dv (li xs.length),dv (li lim),dv (.fn f [])] (ml [(q,cr (xs.map Spn.enc)++qb j 2)])
   (fun r H'=>r= .tup []/\H'=ml [(q,cr ((insB lt xs).map Spn.enc)++qb j 2)]):=by
 have h1:IntKind.wrap .i64 ((xs.length:Int) - 0)=(xs.length:Int):=by rw[wrap_i64 (by omega) (by omega)];omega
 have h2:decide ((xs.length:Int)<=12)=true:=decide_eq_true (by omega)
 refine vW (N:=148) (rs:=[]) (by kernel_rfl) Tryz.func166 rfl rfl rfl (by simp) ?_
 repeat' first|(first|refine kcc ?_|refine kjj kq32 ?_|apply kU);simp only[go_sem]|apply kh<;>intro qa
 refine qk (fun _:Unit=>kn 148 [(0,.one (.ba q 2 0 xs.length (xs.length+j))),(1,dv (li 0)),(2,dv (li xs.length)),(3,dv (li lim)),(4,dv (.fn f []))] (ml [(q,cr (xs.map Spn.enc)++qb j 2)])) (fun _=>True) (fun _=>0) () (kmm) trivial ?_
 rintro _ _
 repeat' first|(first|refine kcc ?_|refine kjj kq32 ?_|apply kU);simp only[go_sem,h1,h2]|apply kh<;>intro qa
 have hqn:(q<NB)=False:=eq_false (Nat.not_lt.2 hq)
 have hqt:(30=q)=False:=eq_false (by have:=qL;omega)
 refine CallC.eff [q] (insS_E lt c hlt f hf xs j (q+NB) (yx _ _) (by omega)) rfl (DLeL.of_eq (by simp only[go_sem])) (fun k r h=>?_) ⟨fun n hn=>?_,fun n hn=>?_⟩ ?_
 ·by_cases hk:k=q+NB
  ·subst hk;simp only[go_sem]at h;subst h;simp only[go_sem,qJ]
  ·simp only[go_sem,hk]at h
 ·simp only[ws,yl,or_false]at hn
  subst hn;exact Qr hq
 ·injection hn with hn;subst hn
  have:=qL
  exact⟨by simp;omega,by omega⟩
 rintro r H' ⟨rfl,rfl⟩
 simp only[go_sem]
 repeat' first|(first|refine kcc ?_|refine kjj kq32 ?_|apply kU);simp only[go_sem,qd]|apply kh<;>intro qa
 refine kK (kM (N:=148) (sls:=[]) (bxs:=[(q,cr ((insB lt xs).map Spn.enc)++qb j 2)]) rfl (by simp only[go_sem]) (by simp only[go_sem,qd,hqt])) ?_
 apply kF;simp only[go_sem]
 rfl
theorem sortS_E(lt:Spn->Spn->Bool)(c:Spn->Spn->Int)(hlt: ∀a b,lt a b=decide (c a b<0))(f:Nat)(hf: ∀a b:Spn,DCalls pP f [.agg a.row,.agg b.row] (dv (li (c a b))))(xs:List Spn)(j q:Nat)(hl:xs.length<=12)(hq:NB<=q):
  ECalls pP 131 [.one (.ba q 2 0 xs.length (xs.length+j)),dv (.fn f [])] (ml [(q,cr (xs.map Spn.enc)++qb j 2)])
   (fun r H'=>r= .tup []/\H'=ml [(q,cr ((insB lt xs).map Spn.enc)++qb j 2)]):=by
 have h1:IntKind.wrap .u64 (xs.length:Int)=(xs.length:Int):=by rw[IntKind.wrap_u64];omega
 refine vW (N:=14) (rs:=[]) (by kernel_rfl) Tryz.func131 rfl rfl rfl (by simp) ?_
 repeat' first|(first|refine kcc ?_|apply kU);simp +decide only[go_sem,h1]|apply kh<;>intro qa
 refine CallC.nd (caps:=[]) (len_N xs.length (by omega)) (by simp +decide only[go_sem]) (kP (by simp +decide only[go_sem])) ?_
 rintro _ ⟨lim,rfl⟩
 simp +decide only[go_sem]
 repeat' first|(first|refine kcc ?_|apply kU);simp +decide only[go_sem]|apply kh<;>intro qa
 have hqn:(q<NB)=False:=eq_false (Nat.not_lt.2 hq)
 have hqt:(13=q)=False:=eq_false (by have:=qL;omega)
 refine CallC.eff [q] (pdqS_E lt c hlt f hf xs j (q+NB) lim (by omega) (yx _ _)) rfl (DLeL.of_eq (by simp +decide only[go_sem])) (fun k r h=>?_) ⟨fun n hn=>?_,fun n hn=>?_⟩ ?_
 ·by_cases hk:k=q+NB
  ·subst hk;simp +decide only[go_sem]at h;subst h;simp +decide only[go_sem,qJ]
  ·simp +decide only[go_sem,hk]at h
 ·simp only[ws,yl,or_false]at hn
  subst hn;exact Qr hq
 ·injection hn with hn;subst hn
  have:=qL
  exact⟨by simp;omega,by omega⟩
 rintro r H' ⟨rfl,rfl⟩
 simp +decide only[go_sem]
 repeat' first|(first|refine kcc ?_|apply kU);simp +decide only[go_sem,qd]|apply kh<;>intro qa
 funext k
 by_cases hk:k=q
 ·subst hk;simp +decide only[go_sem,qd,hqt,hqn]
 ·simp +decide only[go_sem,qd,hk]
  split
  ·rfl
  ·split
   ·rename_i h;rw[if_neg (by omega)];rfl
   ·rfl
theorem qmh(lt:Nte->Nte->Bool)(c:Nte->Nte->Int)(hlt: ∀a b,lt a b=decide (c a b<0))(f:Nat)(hf: ∀a b:Nte,DCalls pP f [.agg a.row,.agg b.row] (dv (li (c a b))))(xs:List Nte)(j q:Nat)(hl:xs.length<=19)(hq:NB<=q):
  ECalls pP 172 [.one (.ba q 7 0 xs.length (xs.length+j)),dv (li xs.length),dv (.fn f [])] (ml [(q,cr (xs.map Nte.enc)++qb j 7)])
   (fun r H'=>r= .tup []/\H'=ml [(q,cr ((insB lt xs).map Nte.enc)++qb j 7)]):=by
 have h2:decide ((20:Int)<=(xs.length:Int))=false:=decide_eq_false (by omega)
 have h3:decide ((20:Int)<(xs.length:Int))=false:=decide_eq_false (by omega)
 refine vW (N:=63) (rs:=[]) (by kernel_rfl) Tryz.func172 rfl rfl rfl (by simp) ?_
 repeat' first|(first|refine kcc ?_|apply kU);simp only[go_sem]|apply kh<;>intro qa
 refine qk (fun _:Unit=>kn 63 [(0,.one (.ba q 7 0 xs.length (xs.length+j))),(1,dv (li xs.length)),(2,dv (.fn f [])),(6,dv (li 20)),(7,dv (li 0)),(8,dv (li 20))] (ml [(q,cr (xs.map Nte.enc)++qb j 7)])) (fun _=>True) (fun _=>0) () (kmm) trivial ?_
 rintro _ _
 repeat' first|(first|refine kcc ?_|apply kU);simp only[go_sem,h2]|apply kh<;>intro qa
 have hqn:(q<NB)=False:=eq_false (Nat.not_lt.2 hq)
 have hqt:(27=q)=False:=eq_false (by have:=qL;omega)
 refine CallC.eff [q] (insN_E lt c hlt f hf xs j (q+NB) (yx _ _) (by omega)) rfl (DLeL.of_eq (by simp only[go_sem])) (fun k r h=>?_) ⟨fun n hn=>?_,fun n hn=>?_⟩ ?_
 ·by_cases hk:k=q+NB
  ·subst hk;simp only[go_sem]at h;subst h;simp only[go_sem,qJ]
  ·simp only[go_sem,hk]at h
 ·simp only[ws,yl,or_false]at hn
  subst hn;exact Qr hq
 ·injection hn with hn;subst hn
  have:=qL
  exact⟨by simp;omega,by omega⟩
 rintro r H' ⟨rfl,rfl⟩
 simp only[go_sem]
 repeat' first|(first|refine kcc ?_|apply kU);simp only[go_sem,qd]|apply kh<;>intro qa
 refine qk (fun _:Unit=>kn 63 [(0,.one (.ba q 7 0 xs.length (xs.length+j))),(1,dv (li xs.length)),(2,dv (.fn f [])),(6,dv (li 20))] (ml [(q,cr ((insB lt xs).map Nte.enc)++qb j 7)])) (fun _=>True) (fun _=>0) () (kM rfl (by simp only[go_sem,hqt,hqn,Nat.reduceEqDiff,and_false,or_false]) (by simp only[go_sem,qd,hqt,hqn])) trivial ?_
 rintro _ _
 repeat' first|(first|refine kcc ?_|apply kU);simp only[go_sem,h3]|apply kh<;>intro qa
 rfl
theorem sortN_E(lt:Nte->Nte->Bool)(c:Nte->Nte->Int)(hlt: ∀a b,lt a b=decide (c a b<0))(f:Nat)(hf: ∀a b:Nte,DCalls pP f [.agg a.row,.agg b.row] (dv (li (c a b))))(xs:List Nte)(j q:Nat)(hl:xs.length<=19)(hq:NB<=q):
  ECalls pP 138 [.one (.ba q 7 0 xs.length (xs.length+j)),dv (.fn f [])] (ml [(q,cr (xs.map Nte.enc)++qb j 7)])
   (fun r H'=>r= .tup []/\H'=ml [(q,cr ((insB lt xs).map Nte.enc)++qb j 7)]):=by
 refine vW (N:=9) (rs:=[]) (by kernel_rfl) Tryz.func138 rfl rfl rfl (by simp) ?_
 repeat' first|(first|refine kcc ?_|apply kU);simp +decide only[go_sem]|apply kh<;>intro qa
 have hqn:(q<NB)=False:=eq_false (Nat.not_lt.2 hq)
 have hqt:(8=q)=False:=eq_false (by have:=qL;omega)
 refine CallC.eff [q] (qmh lt c hlt f hf xs j (q+NB) (by omega) (yx _ _)) rfl (DLeL.of_eq (by simp +decide only[go_sem])) (fun k r h=>?_) ⟨fun n hn=>?_,fun n hn=>?_⟩ ?_
 ·by_cases hk:k=q+NB
  ·subst hk;simp +decide only[go_sem]at h;subst h;simp +decide only[go_sem,qJ]
  ·simp +decide only[go_sem,hk]at h
 ·simp only[ws,yl,or_false]at hn
  subst hn;exact Qr hq
 ·injection hn with hn;subst hn
  have:=qL
  exact⟨by simp;omega,by omega⟩
 rintro r H' ⟨rfl,rfl⟩
 simp +decide only[go_sem]
 repeat' first|(first|refine kcc ?_|apply kU);simp +decide only[go_sem,qd]|apply kh<;>intro qa
 funext k
 by_cases hk:k=q
 ·subst hk;simp +decide only[go_sem,qd,hqt,hqn]
 ·simp +decide only[go_sem,qd,hk]
  split
  ·rfl
  ·split
   ·rename_i h;rw[if_neg (by omega)];rfl
   ·rfl
theorem qjk(s:Spn):DCalls pP 130 [.agg s.row] (dv (lb (qg s))):=by
 refine kd (N:=18) (rs:=[.tmp 2]) Tryz.func130 ?_
 repeat' first|(first|refine kcc ?_|apply kU|apply kF);simp only[go_sem,Spn.row]|apply kh<;>intro qa|((first|apply kH|apply kI)<;>(intro qa;simp only[go_sem,qa]))
 all_goals(simp only[qg];simp_all;try omega)
theorem qpa(s:Spn):DCalls pP 129 [.agg s.row] (dv (lb (!qg s))):=by
 have hR:=qjk s
 simp only[Spn.row]at hR
 refine kd (N:=6) (rs:=[.tmp 2]) Tryz.func129 ?_
 repeat' first|(first|refine kcc ?_|refine kx hR ?_|apply kU|apply kF);simp only[go_sem,Spn.row]|apply kh<;>intro qa
theorem qo9(a b:Spn):DCalls pP 132 [.agg a.row,.agg b.row] (dv (li (cmpI a.fr b.fr))):=by
 refine kd (N:=10) (rs:=[.tmp 4]) Tryz.func132 ?_
 repeat' first|(first|refine kcc ?_|refine kx (qqT a.fr b.fr) ?_|apply kU|apply kF);simp only[go_sem,Spn.row]|apply kh<;>intro qa
theorem idxS_E(p:Spn->Bool)(f:Nat)(hf: ∀s:Spn,DCalls pP f [.agg s.row] (dv (lb (p s))))(xs:List Spn)(j q:Nat)(hq:NB<=q)(hl:xs.length<=1000000):
  ECalls pP 165 [.one (.ba q 2 0 xs.length (xs.length+j)),dv (.fn f [])] (ml [(q,cr (xs.map Spn.enc)++qb j 2)])
   (fun r H'=>r=dv (li (idxF p xs))/\H'=ml [(q,cr (xs.map Spn.enc)++qb j 2)]):=by
 have qK:=kmax
 have hsh: ∀x:Spn,x.enc.map T.c=x.row:=fun _=>rfl
 refine vW (N:=19) (rs:=[.tmp 4]) (by kernel_rfl) Tryz.func165 rfl rfl rfl (by simp) ?_
 repeat' first|(first|refine kcc ?_|apply kU);simp only[go_sem]|apply kh<;>intro qa
 refine qC xs (fun k=>kn 19 [(0,.one (.ba q 2 0 xs.length (xs.length+j))),(1,dv (.fn f [])),(7,dv (li xs.length)),(8,dv (li k))] (ml [(q,cr (xs.map Spn.enc)++qb j 2)])) (fun k=>∀s∈xs.take k,p s=false) (by omega) (kmm) (by simp) ?_ ?_
 ·intro k x hx hk hm htk hlt hw hi
  have hc:=hf x
  have hz:(cr (xs.map Spn.enc)++qb j 2)[k]? =some x.row:=by rw[qhf (x:=x.enc) (by rw[wq,hx];rfl),hsh]
  simp only[Spn.row]at hc hz
  cases h1:p x<;>rw[h1]at hc
  ·repeat' first|(first|refine kcc ?_|refine kx hc ?_|apply kU);simp only[go_sem,hlt,hw,hz,hk]|apply kh<;>intro qa
   exact⟨qv htk hi h1,kmm⟩
  ·repeat' first|(first|refine kcc ?_|refine kx hc ?_|apply kU);simp only[go_sem,hlt,hz,hk]|apply kh<;>intro qa
   refine kK (kM (N:=19) (sls:=[(4,dv (li k))]) (bxs:=[(q,cr (xs.map Spn.enc)++qb j 2)]) rfl (by simp only[go_sem]) (by simp only[go_sem])) ?_
   apply kF;simp only[go_sem]
   rw[QE hx hi h1]
   exact⟨rfl,rfl⟩
 ·intro hlt hi
  rw[wh]at hi
  repeat' first|(first|refine kcc ?_|apply kU);simp only[go_sem,hlt]|apply kh<;>intro qa
  refine kK (kM (N:=19) (sls:=[(4,dv (li (-1)))]) (bxs:=[(q,cr (xs.map Spn.enc)++qb j 2)]) rfl (by simp only[go_sem]) (by simp only[go_sem])) ?_
  apply kF;simp only[go_sem]
  rw[QC hi]
  exact⟨rfl,rfl⟩
theorem delS_E(p:Spn->Bool)(f:Nat)(hf: ∀s:Spn,DCalls pP f [.agg s.row] (dv (lb (p s))))(xs:List Spn)(j q:Nat)(hq:NB<=q)(hl:xs.length<=1000000):
  ECalls pP 127 [.one (.ba q 2 0 xs.length (xs.length+j)),dv (.fn f [])] (ml [(q,cr (xs.map Spn.enc)++qb j 2)])
   (fun r H'=>∃j',r= .one (.ba q 2 0 (xs.filter fun s=> !p s).length ((xs.filter fun s=> !p s).length+j'))/\H'=ml [(q,cr ((xs.filter fun s=> !p s).map Spn.enc)++qb j' 2)]):=by
 have qK:=kmax
 have hsh: ∀x:Spn,x.enc.map T.c=x.row:=fun _=>rfl
 have hqn:(q<NB)=False:=eq_false (Nat.not_lt.2 hq)
 have hq7:(q=7)=False:=eq_false (by have:=qL;omega)
 have hq7':(7=q)=False:=eq_false (by have:=qL;omega)
 have hqt:(10=q)=False:=eq_false (by have:=qL;omega)
 have hI:=idxS_E p f hf xs j (q+NB) (yx _ _) hl
 refine vW (N:=42) (rs:=[.tmp 4]) (by kernel_rfl) Tryz.func127 rfl rfl rfl (by simp) ?_
 repeat' first|(first|refine kcc ?_|apply kU);simp only[go_sem]|apply kh<;>intro qa
 refine CallC.eff [q] hI rfl (DLeL.of_eq (by simp only[go_sem])) (fun k r h=>?_) ⟨fun n hn=>?_,fun n hn=>?_⟩ ?_
 ·by_cases hk:k=q+NB
  ·subst hk;simp only[go_sem]at h;subst h;simp only[go_sem,qJ]
  ·simp only[go_sem,hk]at h
 ·simp only[ws,yl,or_false]at hn
  subst hn;exact Qr hq
 ·injection hn with hn;subst hn
  have:=qL
  exact⟨by simp;omega,by omega⟩
 rintro r H' ⟨rfl,rfl⟩
 simp only[go_sem]
 cases h0:xs.any p
 ·have hi:idxF p xs= -1:=QC fun y hy=>by
   have:=jb.1 h0 y hy;simpa using this
  have hfl:xs.filter (fun s=> !p s)=xs:=List.filter_eq_self.2 fun y hy=>by
   have:=jb.1 h0 y hy;simpa using this
  rw[hi,hfl]
  repeat' first|(first|refine kcc ?_|apply kU);simp only[go_sem]|apply kh<;>intro qa
  refine kK (kM (N:=42) (sls:=[(4,.one (.ba q 2 0 xs.length (xs.length+j)))]) (bxs:=[(q,cr (xs.map Spn.enc)++qb j 2)]) rfl (by simp only[go_sem,hqn,hqt,Nat.reduceEqDiff,and_false,or_false]) (by simp only[go_sem,qd,hqt,hqn])) ?_
  apply kF;simp only[go_sem]
  exact⟨j,rfl,rfl⟩
 obtain⟨y0,k0,hy0,hk0,hp0⟩: ∃(y:Spn) (k:Nat),xs[k]? =some y/\(∀z∈xs.take k,p z=false)/\p y=true:=by
  cases hf0:xs.find? p with
  | none=> 
   obtain⟨z,hz,hpz⟩:=yo.1 h0
   exact absurd hpz (by simpa using List.find?_eq_none.1 hf0 z hz)
  | some y=>
   obtain⟨h1,l1,l2,e,h2⟩:=List.find?_eq_some_iff_append.1 hf0
   exact⟨y,l1.length,by rw[e];simp,by rw[e];simpa using h2,h1⟩
 have hkl:=(wd.1 hy0).1
 have hi:idxF p xs=(k0:Int):=QE hy0 hk0 hp0
 have hne:((k0:Int)== -1)=false:=by rw[beq_eq_false_iff_ne];omega
 have hw0:=qt k0 (by omega)
 rw[hi]
 repeat' first|(first|refine kcc ?_|apply kU);simp only[go_sem,hne,hw0]|apply kh<;>intro qa
 have hft:(xs.take (k0+1)).filter (fun s=> !p s)=xs.take k0:=by
  rw[qH hy0,yG];simp[hp0]
  exact fun z hz=>hk0 z hz
 have hkt:(xs.take k0).length=k0:=by rw[wx];omega
 refine qk (fun i:Nat=>kn 42 [(0,.one (.ba q 2 0 xs.length (xs.length+j))),(1,dv (.fn f [])),(5,dv (li ((xs.take i).filter fun s=> !p s).length)),(6,dv (li i))] (ml [(q,cr ((((xs.take i).filter fun s=> !p s)++xs.drop ((xs.take i).filter fun s=> !p s).length).map Spn.enc)++qb j 2)]))
  (fun i=>i<=xs.length/\((xs.take i).filter fun s=> !p s).length<i) (fun i=>xs.length - i) (k0+1) (kM rfl (by simp only[go_sem,hft,hkt,hqn,hqt,Nat.reduceEqDiff,and_false,or_false]) (by simp only[go_sem,hft,hkt,wS,qd,hqt,hqn])) ⟨by omega,by rw[hft];omega⟩ ?_
 rintro i ⟨hil,hCl⟩
 cases t1:decide ((i:Int)<(xs.length:Int))
 ·have hie:i=xs.length:=by simp at t1;omega
  have hfx:xs.filter (fun s=> !p s)=(xs.take i).filter fun s=> !p s:=by rw[hie,wh]
  rw[hfx]
  generalize (xs.take i).filter (fun s=> !p s)=C at*
  have hCn:C.length<=xs.length:=by omega
  have hCj:C.length<=xs.length+j:=by omega
  have hCj0:=ye C.length
  have hle:xs.length<=xs.length+j:=by omega
  repeat' first|(first|refine kcc ?_|apply kU);simp only[go_sem,t1,hCn,hle]|apply kh<;>intro qa
  have hrl:(cr ((C++xs.drop C.length).map Spn.enc)).length=xs.length:=by rw[qW,we];simp;omega
  refine StepC.mk (Step.clear (n:=q) (rows:=cr ((C++xs.drop C.length).map Spn.enc)++qb j 2) (i:=C.length) (len:=xs.length - C.length) (cap:=xs.length+j - C.length) (sz:=2) (by_:=16) rfl (by simp only[go_sem]) (by simp only[go_sem]) (by simp only[go_sem]) (by rw[wA,hrl];omega)
   (fun r hr=>(wo.1 hr).elim (qhe (sz:=2) (fun r hr=>by obtain⟨x,_,rfl⟩:=wI.1 hr;rfl) r) (Z1 j 2 r)) ?_)
  have qfj:(cr ((C++xs.drop C.length).map Spn.enc)++qb j 2).take C.length++(qb (xs.length - C.length) 2++(cr ((C++xs.drop C.length).map Spn.enc)++qb j 2).drop (C.length+(xs.length - C.length)))=cr (C.map Spn.enc)++qb (xs.length - C.length+j) 2:=by
   rw[show C.length+(xs.length - C.length)=(cr ((C++xs.drop C.length).map Spn.enc)).length by rw[hrl];omega,List.drop_left,wJ,zL,wU,List.take_left' (by rw[qW,we])]
   congr 1
   simp[qb,List.replicate_append_replicate]
  rw[qfj]
  simp only[go_sem]
  repeat' first|(first|refine kcc ?_|apply kU);simp only[go_sem,hCj,hCj0,Nat.sub_zero]|apply kh<;>intro qa
  have ZY:xs.length+j=C.length+(xs.length - C.length+j):=by omega
  refine kK (kM (N:=42) (sls:=[(4,.one (.ba q 2 0 C.length (xs.length+j)))]) (bxs:=[(q,cr (C.map Spn.enc)++qb (xs.length - C.length+j) 2)]) rfl (by simp only[go_sem]) (by simp only[go_sem])) ?_
  apply kF;simp only[go_sem]
  exact⟨_,by rw[<-ZY],rfl⟩
 ·have hin:i<xs.length:=by simpa using t1
  obtain⟨x,hx⟩: ∃x,xs[i]? =some x:=⟨_,wc hin⟩
  have QU:(xs.take (i+1)).filter (fun s=> !p s)=((xs.take i).filter fun s=> !p s)++if p x then []else [x]:=by
   rw[qH hx,yG];congr 1;cases hp:p x<;>simp[hp]
  have hc:=hf x
  have hw1:=qt i (by omega)
  generalize (xs.take i).filter (fun s=> !p s)=C at*
  have hw2:=qt C.length (by omega)
  have hCx:C.length<xs.length:=by omega
  have hz:(cr ((C++xs.drop C.length).map Spn.enc)++qb j 2)[i]? =some x.row:=by
   rw[qhf (x:=x.enc) (by rw[wq,wG (by omega),ya,show C.length+(i - C.length)=i by omega,hx];rfl),hsh]
  obtain⟨z,hzz⟩: ∃z,xs[C.length]? =some z:=⟨_,wc hCx⟩
  have hz2:(cr ((C++xs.drop C.length).map Spn.enc)++qb j 2)[C.length]? =some z.row:=by
   rw[qhf (x:=z.enc) (by rw[wq,wG (wv _),ya,yM,Nat.add_zero,hzz];rfl),hsh]
  have Qu:(cr ((C++xs.drop C.length).map Spn.enc)++qb j 2).set C.length x.row=cr (((C++[x])++xs.drop (C.length+1)).map Spn.enc)++qb j 2:=by
   rw[<-hsh x,qes (by rw[we];simp;omega),<-yZ]
   congr 3
   rw[je _ _ (wv _),wL hCx,yM,List.set_cons_zero,wU];rfl
  simp only[Spn.row]at hc hz hz2 Qu
  cases h1:p x<;>rw[h1]at hc QU
  ·rw[if_neg (by simp)]at QU
   repeat' first|(first|refine kcc ?_|refine kx hc ?_|apply kU);simp only[go_sem,t1,hz,hz2,hin,hCx,hw1,hw2,Qu,hq7,hq7',wB]|apply kh<;>intro qa
   refine⟨i+1,⟨by omega,by rw[QU];simp;omega⟩,by omega,kM rfl (by simp only[go_sem,QU,hq7,wA,wz,wR]) (by simp only[go_sem,QU,hq7,wA,wz,wR])⟩
  ·rw[if_pos rfl,wM]at QU
   repeat' first|(first|refine kcc ?_|refine kx hc ?_|apply kU);simp only[go_sem,t1,hz,hin,hw1,hq7',wB]|apply kh<;>intro qa
   refine⟨i+1,⟨by omega,by rw[QU];omega⟩,by omega,kM rfl (by simp only[go_sem,QU,hq7]) (by simp only[go_sem,QU,hq7])⟩
theorem qqW(xs:List (List Dl.C))(hz: ∀r∈xs,r.length=2)(hl:xs.length<=1000000):
  ECalls pP 128 [dv (.sl 2 xs)] qc (fun r H'=>∃j,r= .one (.ba 0 2 0 xs.length (xs.length+j))/\H'=ml [(0,cr xs++qb j 2)]):=by
 refine vW (N:=8) (rs:=[.tmp 2]) (by kernel_rfl) Tryz.func128 rfl rfl rfl (by simp) ?_
 cases xs with
 | nil=>
  refine qrE (sz:=2) 0 (by simp +decide only[go_sem]) ?_ (fun a cap ZY=>?_)
  ·repeat first|apply kA|apply kB|(first|refine kcc ?_|apply kD|apply kE);simp +decide only[go_sem]
   apply kG;(simp +decide only[go_sem];rfl)
   ·intro _
    repeat first|apply kA|apply kB|(first|refine kcc ?_|apply kD|apply kE);simp +decide only[go_sem]
    refine kK (DS.Sub.trans (sub_zero 2 0 2 (.inl (by simp +decide only[go_sem]))) (kM (N:=8) (sls:=[(2,.one (.ba 0 2 0 0 0))]) (bxs:=[(0,[])]) rfl (by simp +decide only[go_sem]) (by simp +decide only[go_sem]))) ?_
    apply kF;simp +decide only[go_sem]
    exact⟨0,rfl,rfl⟩
   ·simp
  ·repeat first|apply kA|apply kB|(first|refine kcc ?_|apply kD|apply kE);simp +decide only[go_sem]
   apply kG;(simp +decide only[go_sem];rfl)
   ·simp
   intro _
   apply kD
   simp +decide only[go_sem]
   refine kK (s':=kn 8 [(0,dv (.sl 2 []))] qc) (kL rfl ⟨.inr (by simp +decide only[go_sem];exact DLe.emp 2 ZY),trivial⟩ (by simp[qc])) ?_
   apply kA
   refine qiv (N:=8) [.hand] rfl (by kernel_rfl) ?_
   simp +decide only[go_sem]
   refine StepC.mk (Step.buildNone (sz:=2) rfl rfl (by simp +decide only[go_sem]) ?_)
   simp +decide only[go_sem]
   refine StepC.mk (Step.appendList (n:=5) (sz:=2) (by_:=16) (rows:=[]) (j:=0) (ys:=[]) rfl rfl (by simp +decide only[go_sem]) (by simp +decide only[go_sem]) (by simp +decide only[go_sem]) (by simp[RowsSz]) (qcA (ys:=[]) (by simp +decide only[go_sem])) (by simp) ?_)
   intro j'
   simp +decide only[go_sem]
   repeat' first|(first|refine kcc ?_|apply kU);simp +decide only[go_sem]|apply kh<;>intro qa
   refine kK (DS.Sub.trans (Qq 7 0 (by omega)) (kM (N:=8) (sls:=[(2,.one (.ba 0 2 0 0 (0+j')))]) (bxs:=[(0,cr []++qb j' 2)]) rfl (by simp +decide only[go_sem]) (by simp +decide only[go_sem,qoh]))) ?_
   apply kF;simp +decide only[go_sem]
   exact⟨j',rfl,rfl⟩
 | cons x xs=>
  repeat first|apply kA|apply kB|(first|refine kcc ?_|apply kD|apply kE);simp +decide only[go_sem]
  apply kG;(simp +decide only[go_sem];rfl)
  ·simp
  intro _
  apply kD
  simp +decide only[go_sem]
  apply kA
  refine qiv (N:=8) [.hand] rfl (by kernel_rfl) ?_
  simp +decide only[go_sem]
  refine StepC.mk (Step.buildNone (sz:=2) rfl rfl (by simp +decide only[go_sem]) ?_)
  simp +decide only[go_sem]
  refine StepC.mk (Step.appendList (n:=5) (sz:=2) (by_:=16) (rows:=[]) (j:=0) (ys:=cr (x::xs)) rfl rfl (by simp +decide only[go_sem]) (by simp +decide only[go_sem]) (by simp +decide only[go_sem]) (by simp[RowsSz]) (qcA (by simp +decide only[go_sem])) (by simp only[qW,wR];omega) ?_)
  intro j'
  simp +decide only[go_sem]
  repeat' first|(first|refine kcc ?_|apply kU);simp +decide only[go_sem]|apply kh<;>intro qa
  refine kK (DS.Sub.trans (Qq 7 0 (by omega)) (kM (N:=8) (sls:=[(2,.one (.ba 0 2 0 (x::xs).length ((x::xs).length+j')))]) (bxs:=[(0,cr (x::xs)++qb j' 2)]) rfl (by simp +decide only[go_sem,qW]) (by simp +decide only[go_sem]))) ?_
  apply kF;simp +decide only[go_sem]
  exact⟨j',rfl,rfl⟩
end Go.Proofs.YtaaodllggdjhiaaGreatDoor
namespace Go.Proofs.YtaaodllggdjhiaaGreatDoor
abbrev kpm33:List (Nat×Go.Dl.Mode):=[(0,.light),(1,.light),(2,.light),(3,.light),(4,.light),(5,.light),(6,.light),(7,.light),(8,.light),(9,.light),(10,.light),(11,.light),(12,.light),(13,.light),(14,.step)]
abbrev kq33:Nat->List (Nat×Go.Dl.Mode):=fun n=>match n with|8=>kpm15|9=>kpm33|_=>[]
end Go.Proofs.YtaaodllggdjhiaaGreatDoor
namespace Go.Proofs.YtaaodllggdjhiaaGreatDoor
open Go.Dl
attribute [local irreducible] DW DCalls ECalls qo wk IW
theorem srcEx{bx:Mem}{sz:Nat}{d:D}{ys:List (List C)}(hd:d= .one (.ex sz ys)):Src bx sz d (cr ys):=by
 subst hd;exact .ex ys
theorem qc4: ∀(l out:List Spn),(l.foldl qE out).length<=out.length+l.length
 | [],out=>by simp
 | s::l,out=>by
  have h:=qc4 l (qE out s)
  have h2:(qE out s).length<=out.length+1:=by
   unfold qE
   split
   ·split
    ·rename_i z hz _
     have:0<out.length:=by cases out<;>simp at*
     simp;try omega
    ·simp
   ·simp
  simp only[w6,wz]
  omega
theorem cmp_lt(a b:Int):decide (cmpI a b<0)=decide (a<b):=by
 unfold cmpI;split
 ·rename_i h;simp[h]
 ·split<;>simp<;>omega
theorem qeN(l:List Spn): ∀r∈l.map Spn.enc,r.length=2:=fun r hr=>by obtain⟨x,_,rfl⟩:=wI.1 hr;rfl
theorem qaD(l:List Spn)(hl:l.length<=100000)(h12:(l.filter qg).length<=12):DCalls pP 66 [dv (.sl 2 (spns l))] (dv (.sl 2 (spns (qO l)))):=by
 have qK:=kmax
 have hff:(l.filter fun s=> !!qg s)=l.filter qg:=by congr 1;funext s;simp
 refine kd (N:=53) (rs:=[.tmp 2]) Tryz.func66 ?_
 repeat first|apply kA|apply kB|(first|refine kcc ?_|refine kjj kq33 ?_|apply kD|apply kE);simp +decide only[go_sem]
 refine CallC.eff [] (qqW (l.map Spn.enc) (qeN l) (by simp;omega)) rfl (DLeL.of_eq (by simp +decide only[go_sem])) (fun k r h=>by cases h) (by constructor<;>simp) ?_
 rintro r H' ⟨j,rfl,rfl⟩
 simp +decide only[go_sem,we]
 refine CallC.eff [8] (delS_E (fun s=> !qg s) 129 (fun s=>qpa s) l j (8+NB) (yx _ _) (by omega)) rfl (DLeL.of_eq (by simp +decide only[go_sem])) (fun k r h=>?_) (by constructor<;>simp[mid]) ?_
 ·by_cases hk:k=8+NB
  ·subst hk;simp +decide only[go_sem]at h;subst h;simp +decide only[go_sem,qd,qJ]
  ·simp +decide only[go_sem,hk]at h
 rintro r H' ⟨j2,rfl,rfl⟩
 rw[hff]
 generalize hK:l.filter qg=K at*
 simp +decide only[go_sem]
 repeat' first|(first|refine kcc ?_|refine kjj kq33 ?_|apply kU);simp +decide only[go_sem]|apply kh<;>intro qa
 refine CallC.eff [8] (sortS_E (fun x y=>decide (x.fr<y.fr)) (fun x y=>cmpI x.fr y.fr) (fun a b=>(cmp_lt a.fr b.fr).symm) 132 (fun a b=>qo9 a b) K j2 (8+NB) (by omega) (yx _ _)) rfl (DLeL.of_eq (by simp +decide only[go_sem])) (fun k r h=>?_) (by constructor<;>simp[mid]) ?_
 ·by_cases hk:k=8+NB
  ·subst hk;simp +decide only[go_sem]at h;subst h;simp +decide only[go_sem,qd,qJ]
  ·simp +decide only[go_sem,hk]at h
 rintro r H' ⟨rfl,rfl⟩
 simp +decide only[go_sem]
 repeat' first|(first|refine kcc ?_|refine kjj kq33 ?_|apply kU);simp +decide only[go_sem]|apply kh<;>intro qa
 have hUg:qO l=(insB (fun x y:Spn=>decide (x.fr<y.fr)) K).foldl qE []:=by unfold qO qf2;rw[hK]
 have hSl:(insB (fun x y:Spn=>decide (x.fr<y.fr)) K).length=K.length:=(zI _ K).length_eq
 rw[hUg]
 rw[<-hSl]at h12 ⊢
 generalize insB (fun x y:Spn=>decide (x.fr<y.fr)) K=S at*
 refine qae 8 2 (spns S) (qb j2 2) (by decide) (by simp +decide only[go_sem,qd];rfl) (qeN S) ?_
 have htk:(spns S).take S.length=spns S:=by rw[<-we (f:=Spn.enc),wh]
 have hle:S.length<=(spns S).length:=by simp
 refine kK (DS.Sub.trans (sub_zero 3 3 2 (.inl (by simp +decide only[go_sem]))) (kM (N:=53) (sls:=[(3,.one (.ba 3 2 0 0 0)),(12,dv (.sl 2 (spns S))),(13,dv (li S.length)),(14,dv (li 0))]) (bxs:=[(3,[])]) rfl (by simp +decide only[go_sem,htk,ww]) (by simp +decide only[go_sem]))) ?_
 refine qaZ S (fun k (j:Nat)=>kn 53 [(3,.one (.ba 3 2 0 ((S.take k).foldl qE []).length (((S.take k).foldl qE []).length+j))),(12,dv (.sl 2 (spns S))),(13,dv (li S.length)),(14,dv (li k))] (ml [(3,cr (((S.take k).foldl qE []).map Spn.enc)++qb j 2)])) (fun _ _=>True) 0 (by omega) (kM rfl (by simp +decide only[go_sem,wg,w9]) (by simp +decide only[go_sem,wg,w9])) trivial ?_ ?_
 ·intro k s j hs hk hm htk hlt hw _
  have hst:(S.take (k+1)).foldl qE []=qE ((S.take k).foldl qE []) s:=by rw[htk,yp];rfl
  have hol:((S.take k).foldl qE []).length<=12:=by
   have h:=qc4 (S.take k) []
   have:(S.take k).length<=S.length:=by rw[wx];omega
   simp only[wR]at h;omega
  rw[hst]
  generalize (S.take k).foldl qE []=out at*
  have hb8:((out.length+1)*16<=140737488355328)=True:=eq_true (by omega)
  cases qlh:out.getLast? with
  | none=>
   have he:out= []:=List.getLast?_eq_none_iff.1 qlh
   subst he
   have hmg:qE [] s= [s]:=rfl
   rw[hmg]
   repeat' first|(first|refine kcc ?_|refine kjj kq33 ?_|apply kU);simp +decide only[go_sem,hlt,hs,Spn.enc]|apply kh<;>intro qa
   refine StepC.mk (Step.appendList (n:=3) (sz:=2) (by_:=16) (rows:=[]) (j:=j) (ys:=cr [[li s.fr,li s.tg]]) rfl rfl (by simp +decide only[go_sem]) (by simp +decide only[go_sem]) (by simp +decide only[go_sem,qoh,wE]) (by simp[RowsSz]) (srcEx (by simp +decide only[go_sem])) (by simp[qW]) ?_)
   intro j'
   simp +decide only[go_sem]
   repeat' first|(first|refine kcc ?_|refine kjj kq33 ?_|apply kU);simp +decide only[go_sem,hw]|apply kh<;>intro qa
   exact⟨j',DS.Sub.trans (Qq 50 3 (by omega)) (kM rfl (by simp +decide only[go_sem,qW,wR,wz]) (by simp +decide only[go_sem,qoh,wE]))⟩
  | some z=>
   obtain⟨hne,hz0⟩:out≠ []/\out=out.dropLast++[z]:=by
    obtain⟨l1,e⟩:=List.getLast?_eq_some_iff.1 qlh
    refine⟨by rw[e];simp,by rw[e];simp⟩
   obtain⟨m,hm1⟩: ∃m,out.length=m+1:=⟨out.length - 1,by have:=List.length_pos_iff.2 hne;omega⟩
   have hdl:out.dropLast.length=m:=by simp[hm1]
   have vo:decide ((0:Int)<(out.length:Int))=true:=decide_eq_true (by omega)
   have hwm:IntKind.wrap .i64 ((out.length:Int) - 1)=(m:Int):=by rw[wrap_i64 (by omega) (by omega)];omega
   have hml:m<out.length:=by omega
   have hzr:(cr (out.map Spn.enc)++qb j 2)[m]? =some [T.c (li z.fr),T.c (li z.tg)]:=by
    have hom:out[m]? =some z:=by rw[List.getLast?_eq_getElem?,hm1]at qlh;simpa using qlh
    rw[qhf (x:=z.enc) (by rw[wq,hom];rfl)];rfl
   by_cases c1:s.fr<=z.tg
   ·have c1':decide (s.fr<=z.tg)=true:=by simpa using c1
    have hmg:qE out s=out.dropLast++[⟨z.fr,max z.tg s.tg⟩]:=by unfold qE;rw[qlh];simp only;rw[if_pos c1]
    have hmgl:(qE out s).length=out.length:=by rw[hmg];simp;omega
    have Qu:(cr (out.map Spn.enc)++qb j 2).set m [T.c (li z.fr),T.c (li (if z.tg<s.tg then s.tg else z.tg))]=cr ((qE out s).map Spn.enc)++qb j 2:=by
     have hrw:([T.c (li z.fr),T.c (li (if z.tg<s.tg then s.tg else z.tg))]:List T)=(Spn.enc ⟨z.fr,max z.tg s.tg⟩).map T.c:=by rw[<-qe8];rfl
     rw[hrw,qes (by rw[we];omega),<-yZ,hmg]
     congr 3
     conv=>lhs;rw[hz0]
     rw[je _ _ (by omega),hdl,yM];rfl
    rw[hmgl]
    repeat' first|(first|refine kcc ?_|refine kjj kq33 ?_|apply kU);simp +decide only[go_sem,hlt,hw,hs,vo,hwm,hml,hzr,c1',Qu,wB,Spn.enc]|apply kh<;>intro qa
    exact⟨j,kmm⟩
   ·have c1':decide (s.fr<=z.tg)=false:=by simpa using c1
    have hmg:qE out s=out++[s]:=by unfold qE;rw[qlh];simp only;rw[if_neg c1]
    rw[hmg]
    repeat' first|(first|refine kcc ?_|refine kjj kq33 ?_|apply kU);simp +decide only[go_sem,hlt,hs,vo,hwm,hml,hzr,c1',wB,Spn.enc]|apply kh<;>intro qa
    refine StepC.mk (Step.appendList (n:=3) (sz:=2) (by_:=16) (rows:=cr (out.map Spn.enc)) (j:=j) (ys:=cr [[li s.fr,li s.tg]]) rfl rfl (by simp +decide only[go_sem]) (by simp +decide only[go_sem,qW,we]) (by simp +decide only[go_sem]) (qhe (qeN out)) (srcEx (by simp +decide only[go_sem])) (by rw[qW,we,qW];simp;omega) ?_)
    intro j'
    simp +decide only[go_sem]
    repeat' first|(first|refine kcc ?_|refine kjj kq33 ?_|apply kU);simp +decide only[go_sem,hw]|apply kh<;>intro qa
    exact⟨j',DS.Sub.trans (Qq 50 3 (by omega)) (kM rfl (by simp +decide only[go_sem,qW,wA,we,wR,wz]) (by simp +decide only[go_sem,wJ,zL,wt,wn,Spn.enc,wU]))⟩
 ·intro j hlt _
  rw[wh]
  repeat' first|(first|refine kcc ?_|refine kjj kq33 ?_|apply kU);simp +decide only[go_sem,hlt]|apply kh<;>intro qa
  refine qae 3 2 (spns (S.foldl qE [])) (qb j 2) (by decide) (by simp +decide only[go_sem];rfl) (qeN _) ?_
  have htk2:(spns (S.foldl qE [])).take (S.foldl qE []).length=spns (S.foldl qE []):=by rw[<-we (f:=Spn.enc),wh]
  have hle2:(S.foldl qE []).length<=(spns (S.foldl qE [])).length:=by simp
  apply kF;simp +decide only[go_sem,htk2,ww]
end Go.Proofs.YtaaodllggdjhiaaGreatDoor
namespace Go.Proofs.YtaaodllggdjhiaaGreatDoor
abbrev kq34:Nat->List (Nat×Go.Dl.Mode):=fun n=>match n with|8=>kpm24|_=>[(99,.step)]
end Go.Proofs.YtaaodllggdjhiaaGreatDoor
namespace Go.Proofs.YtaaodllggdjhiaaGreatDoor
open Go.Dl
attribute [local irreducible] DW DCalls ECalls qo wk IW
theorem qev(x y:Spn)(a b:List Spn):QH (x::a) (y::b)=(if max x.fr y.fr<min x.tg y.tg then [⟨max x.fr y.fr,min x.tg y.tg⟩]else [])++(if x.tg<y.tg then QH a (y::b)else QH (x::a) b):=by rw[QH]
theorem qdu(b:List Spn):QH [] b= []:=by rw[QH];intros;simp_all
theorem qdt(a:List Spn):QH a []= []:=by rw[QH];intros;simp_all
theorem qdv: ∀(n:Nat) (a b:List Spn),a.length+b.length<=n->(QH a b).length<=a.length+b.length
 | _,[],b,_=>by rw[qdu];simp
 | _,x::a,[],_=>by rw[qdt];simp
 | 0,x::a,y::b,h=>by simp at h
 | n+1,x::a,y::b,h=>by
  rw[qev,wA]
  have h1:=qdv n a (y::b) (by simp only[wz]at *;omega)
  have h2:=qdv n (x::a) b (by simp only[wz]at *;omega)
  simp only[wz]at*
  split<;>split<;>simp only[wz,wR]<;>omega
theorem bothP_D(l1 l2:List Spn)(hl1:l1.length<=100000)(hl2:l2.length<=100000)(h1:(l1.filter qg).length<=12)(h2:(l2.filter qg).length<=12)(hu1:(qO l1).length<=1000)(hu2:(qO l2).length<=1000):DCalls pP 137 [dv (.sl 2 (spns l1)),dv (.sl 2 (spns l2))] (dv (.sl 2 (spns (qlB l1 l2)))):=by
 have qK:=kmax
 have hA:=qaD l1 hl1 h1
 have hB:=qaD l2 hl2 h2
 unfold qlB
 generalize qO l1=a at*
 generalize qO l2=b at*
 refine kd (N:=71) (rs:=[.tmp 4]) Tryz.func137 ?_
 repeat' first|(first|refine kcc ?_|refine kjj kq34 ?_|refine kx hA ?_|refine kx hB ?_|apply kU);simp +decide only[go_sem]|apply kh<;>intro qa
 refine zl 5 5 2 (by simp +decide only[go_sem]) ?_
 refine qk (fun(p:Nat×Nat×List Spn)=>kn 71 [(0,dv (.sl 2 (spns a))),(1,dv (.sl 2 (spns b))),(5,.one (.own 5 2 (spns p.2.2))),(6,dv (li p.1)),(7,dv (li p.2.1))] qc) (fun p=>p.1<=a.length/\p.2.1<=b.length/\p.2.2.length<=p.1+p.2.1/\p.2.2++QH (a.drop p.1) (b.drop p.2.1)=QH a b) (fun p=>a.length+b.length - p.1 - p.2.1) (0,0,[]) (kL rfl (by simp +decide only[go_sem,wn]) (by simp[qc])) ⟨ye _,ye _,by simp,by simp⟩ ?_
 rintro⟨i,k,out⟩ ⟨hi,hk,hol,hout⟩
 dsimp only at hi hk hol hout ⊢
 cases t1:decide ((i:Int)<(a.length:Int))
 ·have hie:i=a.length:=by simp at t1;omega
  rw[hie,jE,qdu,wM]at hout
  repeat' first|(first|refine kcc ?_|refine kjj kq34 ?_|apply kU);simp +decide only[go_sem,t1]|apply kh<;>intro qa
  refine qw 4 (dv (.sl 2 (spns out))) (by simp +decide only[go_sem]) ?_
  apply kF;simp +decide only[go_sem]
  rw[hout]
 have hil:i<a.length:=by simpa using t1
 cases t2:decide ((k:Int)<(b.length:Int))
 ·have hke:k=b.length:=by simp at t2;omega
  rw[hke,jE,qdt,wM]at hout
  repeat' first|(first|refine kcc ?_|refine kjj kq34 ?_|apply kU);simp +decide only[go_sem,t1,t2]|apply kh<;>intro qa
  refine qw 4 (dv (.sl 2 (spns out))) (by simp +decide only[go_sem]) ?_
  apply kF;simp +decide only[go_sem]
  rw[hout]
 have hkl:k<b.length:=by simpa using t2
 obtain⟨x,hx⟩: ∃x,a[i]? =some x:=⟨_,wc hil⟩
 obtain⟨y,hy⟩: ∃y,b[k]? =some y:=⟨_,wc hkl⟩
 have hda:a.drop i=x::a.drop (i+1):=by
  rw[wL hil];congr 1
  rw[wc hil]at hx;injection hx
 have hdb:b.drop k=y::b.drop (k+1):=by
  rw[wL hkl];congr 1
  rw[wc hkl]at hy;injection hy
 rw[hda,hdb,qev]at hout
 repeat' first|(first|refine kcc ?_|refine kjj kq34 ?_|apply kU);simp +decide only[go_sem,t1,t2]|apply kh<;>intro qa
 obtain⟨L,hL⟩: ∃L:Spn,L=⟨max x.fr y.fr,min x.tg y.tg⟩:=⟨_,rfl⟩
 refine vq (fun _:Unit=>kn 71 [(0,dv (.sl 2 (spns a))),(1,dv (.sl 2 (spns b))),(5,.one (.own 5 2 (spns out))),(6,dv (li i)),(7,dv (li k)),(8,.one (.bx 8 2 0 0))] (ml [(8,[L.row])])) (fun _=>True) ?_ ?_
 ·refine qoc (id:=5) (N:=71) [] [[],[],[0,1],[2],[3],[],[],[5,6],[7],[8],[4,9],[],[],[11,12],[13],[14],[],[],[16,17],[18],[19],[15,20],[10,21],[],[23,22,0,1,2,3,4,5,6,7,8,9,10,11,12,13,14,15,16,17,18,19,20,21,22,23]] [0,1,5,6,11,12,16,17] [2,3,4,7,8,9,10,13,14,15,18,19,20,21,22,23,24] (stG 71 [(0,dv (.sl 2 (spns a))),(1,dv (.sl 2 (spns b))),(5,.one (.own 5 2 (spns out))),(6,dv (li i)),(7,dv (li k)),(23,dv (.sl 2 (spns a))),(24,dv (li i)),(28,dv (.sl 2 (spns b))),(29,dv (li k)),(34,dv (.sl 2 (spns a))),(35,dv (li i)),(39,dv (.sl 2 (spns b))),(40,dv (li k))] [(2,25,dv (.pt x.enc)),(3,26,dv (.pt x.enc)),(4,27,dv (li x.fr)),(7,30,dv (.pt y.enc)),(8,31,dv (.pt y.enc)),(9,32,dv (li y.fr)),(10,33,dv (li (if x.fr<y.fr then y.fr else x.fr))),(13,36,dv (.pt x.enc)),(14,37,dv (.pt [li x.tg])),(15,38,dv (li x.tg)),(18,41,dv (.pt y.enc)),(19,42,dv (.pt [li y.tg])),(20,43,dv (li y.tg)),(21,44,dv (li (if y.tg<x.tg then y.tg else x.tg))),(22,45,.agg [.c (li (if x.fr<y.fr then y.fr else x.fr)),.c (li (if y.tg<x.tg then y.tg else x.tg))]),(23,8,.one (.bx 8 2 0 0))] (fun m k=>if k=8 then(if m.testBit 24=true then some [L.row]else if m.testBit 23=true then some [[.c (li 0),.c (li 0)]]else none)else none)) 33554431 (by kernel_rfl) rfl (by kernel_rfl) (by kernel_rfl) (by kernel_rfl) (fun m=>rfl) ?_ ?_ ?_
  ·simp +decide only[go_sem,stG,wt,wn,wH,wE,vJ]
   exact kL rfl (by simp +decide only[go_sem]) (fun k r h=>by simp at h)
  ·refine⟨?_,?_,?_,?_,?_,?_,?_,?_,?_,?_,?_,?_,?_,?_,?_,?_,?_,trivial⟩
   all_goals(intro m hm0 hcl qfk)
   all_goals(simp only[List.getD_eq_getElem?_getD,List.getElem?_cons_succ,List.getElem?_cons_zero,Option.getD_some,List.forall_mem_cons,yl,false_implies,implies_true,and_true]at qfk)
   iterate 15
    focus
     simp +decide only[go_sem,stG,wt,wn,wH,wE,qfk,hm0,hx,hy,wB,Option.map_some,Spn.row,Spn.enc]
     exact kL rfl (by simp +decide only[go_sem,vI,hm0,qfk,yf,yD]) (fun k r h=>by
      simp +decide only[go_sem,vI,yf]at h ⊢
      exact h)
   ·have h24:m.testBit 24=false:=by
     cases h:m.testBit 24
     ·rfl
     ·rw[hcl 24 h 23 (by decide)]at hm0;cases hm0
    simp +decide only[go_sem,stG,wt,wn,wH,wE,hm0,h24]
    exact kL rfl (by simp +decide only[go_sem,vI,hm0,yf,yD,apply_ite (D.tr (fgt 8))]) (fun k r h=>by
     simp +decide only[go_sem,vI,hm0,h24,yf,yD]at h ⊢
     by_cases hk8:k=8
     ·rw[if_pos hk8]at h ⊢;exact h
     ·rw[if_neg hk8]at h;cases h)
   ·simp +decide only[go_sem,stG,wt,wn,wH,wE,qfk,hm0]
    exact kL rfl (by simp +decide only[go_sem,vI,qfk,yf]) (fun k r h=>by
     simp +decide only[go_sem,vI,hm0,qfk,yf,yD,hL,Spn.row,qe8,qie]at h ⊢
     by_cases hk8:k=8
     ·rw[if_pos hk8]at h ⊢;exact h
     ·rw[if_neg hk8]at h;cases h)
  ·simp +decide only[go_sem,stG,wt,wn,wH,wE]
   exact⟨(),kmm⟩
 rintro _ _
 have hL1:L.fr=max x.fr y.fr:=by rw[hL]
 have hL2:L.tg=min x.tg y.tg:=by rw[hL]
 rw[<-hL1,<-hL2]at hout
 have hwi:=qt i (by omega)
 have hwk:=qt k (by omega)
 have hb8:((out.length+1)*16<=140737488355328)=True:=eq_true (by omega)
 clear hL
 cases c3:decide (L.fr<L.tg)
 ·rw[if_neg (by simpa using c3),wE]at hout
  cases c4:decide (x.tg<y.tg)
  ·rw[if_neg (by simpa using c4),<-hda]at hout
   repeat' first|(first|refine kcc ?_|refine kjj kq34 ?_|apply kU);simp +decide only[go_sem,hwk,c3,c4,hx,hy,Spn.row,Spn.enc]|apply kh<;>intro qa
   exact⟨(i,k+1,out),⟨by dsimp only;omega,by dsimp only;omega,by dsimp only;omega,hout⟩,by dsimp only;omega,kl⟩
  ·rw[if_pos (by simpa using c4),<-hdb]at hout
   repeat' first|(first|refine kcc ?_|refine kjj kq34 ?_|apply kU);simp +decide only[go_sem,hwi,c3,c4,hx,hy,Spn.row,Spn.enc]|apply kh<;>intro qa
   exact⟨(i+1,k,out),⟨by dsimp only;omega,by dsimp only;omega,by dsimp only;omega,hout⟩,by dsimp only;omega,kl⟩
 ·rw[if_pos (by simpa using c3),<-wU]at hout
  have hol2:(out++[L]).length<=i+k+1:=by simp;omega
  cases c4:decide (x.tg<y.tg)
  ·rw[if_neg (by simpa using c4),<-hda]at hout
   repeat' first|(first|refine kcc ?_|refine kjj kq34 ?_|apply kU);simp +decide only[go_sem,hwk,c3,c4,hx,hy,hb8,Spn.row,Spn.enc]|apply kh<;>intro qa
   exact⟨(i,k+1,out++[L]),⟨by dsimp only;omega,by dsimp only;omega,by dsimp only;omega,hout⟩,by dsimp only;omega,kL rfl (by simp +decide only[go_sem,wJ,wt,wn,Spn.enc]) (by simp[qc])⟩
  ·rw[if_pos (by simpa using c4),<-hdb]at hout
   repeat' first|(first|refine kcc ?_|refine kjj kq34 ?_|apply kU);simp +decide only[go_sem,hwi,c3,c4,hx,hy,hb8,Spn.row,Spn.enc]|apply kh<;>intro qa
   exact⟨(i+1,k,out++[L]),⟨by dsimp only;omega,by dsimp only;omega,by dsimp only;omega,hout⟩,by dsimp only;omega,kL rfl (by simp +decide only[go_sem,wJ,wt,wn,Spn.enc]) (by simp[qc])⟩
def covB(s x:Spn):Bool:=decide (x.fr<=s.fr)&&decide (s.tg<=x.tg)
theorem qok(s x:Spn):DCalls pP 142 [.agg x.row,dv (.pt [li s.fr,li s.tg])] (dv (lb (covB s x))):=by
 unfold covB
 refine kd (N:=16) (rs:=[.tmp 3]) Tryz.func142 ?_
 cases h1:decide (x.fr<=s.fr)
 ·repeat' first|(first|refine kcc ?_|apply kU|apply kF);simp only[go_sem,Spn.row,h1]|apply kh<;>intro qa
 ·repeat' first|(first|refine kcc ?_|apply kU|apply kF);simp only[go_sem,Spn.row,h1]|apply kh<;>intro qa
theorem idxC_D(s:Spn)(l:List Spn)(hl:l.length<=1000000):DCalls pP 165 [dv (.sl 2 (spns l)),dv (.fn 142 [.pt [li s.fr,li s.tg]])] (dv (li (idxF (covB s) l))):=by
 have qK:=kmax
 refine kd (N:=19) (rs:=[.tmp 4]) Tryz.func165 ?_
 repeat first|apply kA|apply kB|(first|refine kcc ?_|apply kD|apply kE);simp only[go_sem]
 refine qaZ l (fun k (_:Unit)=>kn 19 [(0,dv (.sl 2 (spns l))),(1,dv (.fn 142 [.pt [li s.fr,li s.tg]])),(7,dv (li l.length)),(8,dv (li k))] qc) (fun k _=>∀p∈l.take k,covB s p=false) () (by omega) kl (by simp) ?_ ?_
 ·intro k p _ hp hk hm htk hlt hw hi
  have hc:=qok s p
  simp only[Spn.row]at hc
  cases h1:covB s p<;>rw[h1]at hc
  ·repeat' first|(first|refine kcc ?_|refine kx hc ?_|apply kU);simp only[go_sem,hlt,hw,hp,Spn.enc]|apply kh<;>intro qa
   exact⟨(),qv htk hi h1,kl⟩
  ·repeat' first|(first|refine kcc ?_|refine kx hc ?_|apply kU|apply kF);simp only[go_sem,hlt,hp,Spn.enc]|apply kh<;>intro qa
   rw[QE hp hi h1]
 ·intro _ hlt hi
  rw[wh]at hi
  repeat' first|(first|refine kcc ?_|apply kU|apply kF);simp only[go_sem,hlt]|apply kh<;>intro qa
  rw[QC hi]
theorem conC_D(s:Spn)(l:List Spn)(hl:l.length<=1000000):DCalls pP 141 [dv (.sl 2 (spns l)),dv (.fn 142 [.pt [li s.fr,li s.tg]])] (dv (lb (l.any (covB s)))):=by
 have hI:=idxC_D s l hl
 have hd:decide ((0:Int)<=idxF (covB s) l)=l.any (covB s):=by
  unfold idxF
  cases l.any (covB s)
  ·simp
  ·simp
 refine kd (N:=9) (rs:=[.tmp 4]) Tryz.func141 ?_
 repeat' first|(first|refine kcc ?_|refine kx hI ?_|apply kU|apply kF);simp only[go_sem]|apply kh<;>intro qa
 all_goals simp[hd]
theorem qoj(l:List Spn)(s:Spn)(hl:l.length<=100000)(h12:(l.filter qg).length<=12)(hu:(qO l).length<=1000000):DCalls pP 74 [dv (.sl 2 (spns l)),.agg s.row] (dv (lb (qbE l s))):=by
 have hR:=qjk s
 have hU:=qaD l hl h12
 have hC:=conC_D s (qO l) hu
 have hcg:qbE l s=(qg s&&(qO l).any (covB s)):=rfl
 rw[hcg]
 generalize qO l=U at*
 simp only[Spn.row]at hR
 cases h1:qg s<;>rw[h1]at hR
 ·refine kd (N:=13) (rs:=[.tmp 4]) Tryz.func74 ?_
  repeat' first|(first|refine kcc ?_|refine kx hR ?_|apply kU|apply kF);simp only[go_sem,Spn.row]|apply kh<;>intro qa
 ·refine kd (N:=13) (rs:=[.tmp 4]) Tryz.func74 ?_
  repeat' first|(first|refine kcc ?_|refine kx hR ?_|refine kx hU ?_|apply kU);simp only[go_sem,Spn.row]|apply kh<;>intro qa
  refine CallC.frz 3 [li s.fr,li s.tg] (by simp) (by simp only[go_sem]) ?_
  simp only[go_sem]
  repeat' first|(first|refine kcc ?_|refine kx hC ?_|apply kU|apply kF);simp only[go_sem]|apply kh<;>intro qa
end Go.Proofs.YtaaodllggdjhiaaGreatDoor
namespace Go.Proofs.YtaaodllggdjhiaaGreatDoor
open Go.Dl S
attribute [local irreducible] DW DCalls ECalls qo wk IW
theorem qmo(d:Dcm)(W:WfD d)(sp:List Spn)(id:Int)(hn:d.notes.length<=10000)(ht:d.tiers.length<=10000)(hl:sp.length<=100000)(h12:(sp.filter qg).length<=12)(hu:(qO sp).length<=1000000):DCalls pP 29 [.agg d.row,dv (.sl 2 (spns sp)),dv (li id)] (dv (lb (Zx d sp id))):=by
 have hW:=qhH d W id (by omega) (by omega)
 have hC:=qoj sp (d.wher id).1 hl h12 hu
 unfold Zx
 generalize d.wher id=p at*
 obtain⟨s,ok⟩:=p
 simp only[Dcm.row,Spn.row]at hW hC
 refine kd (N:=21) (rs:=[.tmp 6]) Tryz.func29 ?_
 cases ok
 ·repeat' first|(first|refine kcc ?_|refine kx hW ?_|refine kx hC ?_|apply kU|apply kF);simp only[go_sem,Dcm.row]|apply kh<;>intro qa
 ·repeat' first|(first|refine kcc ?_|refine kx hW ?_|refine kx hC ?_|apply kU|apply kF);simp only[go_sem,Dcm.row]|apply kh<;>intro qa
def v8(a:Rgt)(r:Rcd)(p day:Int):List T:=a.row++r.row++[.c (li p),.c (li day)]
theorem baseA_D(a:Rgt)(r:Rcd)(p day:Int)(hp:a.people.length<=1000000)(hc:a.cons.length<=1000000)(hs:r.sp.length<=1048576):DCalls pP 67 [.agg (v8 a r p day)] (dv (li (qbL a.cons (memE a.people p) r.id day r.sp))):=by
 have qK:=kmax
 have hM:=qnv a p hp
 generalize hmem:memE a.people p=mem at*
 simp only[Rgt.row]at hM
 refine kd (N:=40) (rs:=[.tmp 2]) Tryz.func67 ?_
 repeat' first|(first|refine kcc ?_|apply kU);simp only[go_sem,v8,Rgt.row,Rcd.row,wH,wE]|apply kh<;>intro qa
 refine qC r.sp (fun k=>kn 40 [(1,.one (.bx 1 11 0 0)),(8,dv (.sl 1 (ints r.sp))),(9,dv (li r.sp.length)),(10,dv (li k))] (ml [(1,[v8 a r p day])])) (fun k=>qbL a.cons mem r.id day (r.sp.drop k)=qbL a.cons mem r.id day r.sp) (by omega) (km (by simp only[go_sem,v8,Rgt.row,Rcd.row,wH,wE])) (by simp) ?_ ?_
 ·intro k x hk hmk hkk htk hlt hw hi
  have hk':=qp hk
  have hA:=at_D a.cons x r.id day (by omega)
  have hdr:r.sp.drop k=x::r.sp.drop (k+1):=by
   rw[wL hmk];congr 1
   rw[wc hmk]at hk;injection hk
  rw[hdr,qey]at hi
  rw[<-hi]
  generalize atK a.cons x r.id day=lv at*
  cases c1:lv==0
  rotate_left
  ·have:lv=0:=by simpa using c1
   repeat' first|(first|refine kcc ?_|refine kx hA ?_|apply kU|apply kF);simp only[go_sem,hlt,hk',c1,v8,Rgt.row,Rcd.row,wH,wE]|apply kh<;>intro qa
   rw[if_pos this]
  have n1: ¬lv=0:=by simpa using c1
  rw[if_neg n1]at hi ⊢
  cases c2:lv==1
  ·have n2: ¬lv=1:=by simpa using c2
   rw[if_neg (fun h=>n2 h.1)]at hi ⊢
   repeat' first|(first|refine kcc ?_|refine kx hA ?_|apply kU);simp only[go_sem,hlt,hw,hk',c1,c2,v8,Rgt.row,Rcd.row,wH,wE]|apply kh<;>intro qa
   exact kmm
  have n2:lv=1:=by simpa using c2
  cases mem
  ·rw[if_pos ⟨n2,rfl⟩]
   repeat' first|(first|refine kcc ?_|refine kx hA ?_|refine kx hM ?_|apply kU|apply kF);simp only[go_sem,hlt,hk',c1,c2,v8,Rgt.row,Rcd.row,wH,wE]|apply kh<;>intro qa
  ·rw[if_neg (fun h=>by cases h.2)]
   repeat' first|(first|refine kcc ?_|refine kx hA ?_|refine kx hM ?_|apply kU);simp only[go_sem,hlt,hw,hk',c1,c2,v8,Rgt.row,Rcd.row,wH,wE]|apply kh<;>intro qa
   exact kmm
 ·intro hlt hi
  rw[jE]at hi
  rw[<-hi]
  repeat' first|(first|refine kcc ?_|apply kU|apply kF);simp only[go_sem,hlt]|apply kh<;>intro qa
  rfl
def qbB(p:List Spn×Int)(s:Spn):List Spn×Int:=(p.1++[⟨p.2,s.fr⟩],s.tg)
theorem qaU: ∀(l G:List Spn) (t:Int),(l.foldl qbB (G,t)).1++[⟨(l.foldl qbB (G,t)).2,86400000⟩]=G++Zs t l
 | [],G,t=>rfl
 | s::l,G,t=>by rw[w6];show _=G++(⟨t,s.fr⟩::Zs s.tg l);rw[qbB,qaU l];simp
theorem qaT: ∀(l G:List Spn) (t:Int),(l.foldl qbB (G,t)).1.length=G.length+l.length
 | [],G,t=>by simp
 | s::l,G,t=>by rw[w6,qbB,qaT l];simp;omega
theorem qqi(l1 l2:List Spn)(hl1:l1.length<=100000)(hl2:l2.length<=100000)(h1:(l1.filter qg).length<=12)(h2:(l2.filter qg).length<=11)(hu1:(qO l1).length<=1000)(hu2:(qO l2).length<=11)(hu3:(qO (Zs 0 (qO l2))).length<=1000):DCalls pP 69 [dv (.sl 2 (spns l1)),dv (.sl 2 (spns l2))] (dv (.sl 2 (spns (qeh l1 l2)))):=by
 have qK:=kmax
 have hB:=qaD l2 hl2 (by omega)
 unfold qeh
 generalize qO l2=U at*
 have hgl:(Zs 0 U).length=U.length+1:=by
  have:=qaU U [] 0
  rw[wE]at this
  rw[<-this,wA,qaT];simp
 have hgf:=wC qg (Zs 0 U)
 have hBo:=bothP_D l1 (Zs 0 U) hl1 (by omega) h1 (by omega) hu1 hu3
 have hgg:=qaU U [] 0
 rw[wE]at hgg
 refine kd (N:=33) (rs:=[.tmp 4]) Tryz.func69 ?_
 repeat' first|(first|refine kcc ?_|refine kx hB ?_|apply kU);simp +decide only[go_sem]|apply kh<;>intro qa
 refine zl 5 5 2 (by simp +decide only[go_sem]) ?_
 refine qj U (fun k=>kn 33 [(0,dv (.sl 2 (spns l1))),(5,.one (.own 5 2 (spns ((U.take k).foldl qbB ([],0)).1))),(6,dv (li ((U.take k).foldl qbB ([],0)).2)),(10,dv (.sl 2 (spns U))),(11,dv (li U.length)),(12,dv (li k))] qc) (by omega) (kL rfl (by simp +decide only[go_sem,wg,w9,wn]) (by simp[qc])) ?_ ?_
 ·intro k s hs hk hm htk hlt hw
  have hst:(U.take (k+1)).foldl qbB ([],0)=qbB ((U.take k).foldl qbB ([],0)) s:=by rw[htk,yp];rfl
  have hln:=qaT (U.take k) [] 0
  have hkl:(U.take k).length<=U.length:=by rw[wx];omega
  rw[hst]
  generalize (U.take k).foldl qbB ([],0)=p at*
  obtain⟨G,t⟩:=p
  dsimp only[qbB,wR]at hln ⊢
  have hb8:((G.length+1)*16<=140737488355328)=True:=eq_true (by omega)
  repeat' first|(first|refine kcc ?_|apply kU);simp +decide only[go_sem,hlt,hw,hs,hb8,Spn.enc]|apply kh<;>intro qa
  exact kL rfl (by simp +decide only[go_sem,wJ,wt,wn,Spn.enc]) (by simp[qc])
 ·intro hlt
  rw[wh]
  have hln:=qaT U [] 0
  generalize U.foldl qbB ([],0)=p at*
  obtain⟨G,t⟩:=p
  dsimp only[wR]at hln hgg ⊢
  have hb8:((G.length+1)*16<=140737488355328)=True:=eq_true (by omega)
  have hsp:spns (Zs 0 U)=spns G++[[li t,li 86400000]]:=by rw[<-hgg];simp[Spn.enc]
  rw[hsp]at hBo
  repeat' first|(first|refine kcc ?_|refine kx hBo ?_|apply kU|apply kF);simp +decide only[go_sem,hlt,hb8]|apply kh<;>intro qa
  try rfl
theorem qkh(l:List Spn):(qO l).length<=(l.filter qg).length:=by
 have h:=qc4 (qf2 (l.filter qg)) []
 have h2:(qf2 (l.filter qg)).length=(l.filter qg).length:=(zI _ _).length_eq
 unfold qO
 simp only[wR]at h
 omega
theorem vS(l:List Spn):(qO l).length<=l.length:=wD (qkh l) (wC _ _)
def hitG(a:Rgt)(rid p day:Int)(r:Rle):Bool:=decide (r.rcd=rid)&& !mayG a r p day
theorem qpm(a:Rgt)(r:Rcd)(p day:Int)(hD:RgtD a)(hS:RgtS a)(hp:a.people.length<=1000)(hs:r.sp.length<=1048576)(hrl:a.rules.length<=10):DCalls pP 27 [.agg (v8 a r p day)] (dv (.sl 2 (spns (Z7 a r p day)))):=by
 have qK:=kmax
 have hB:=baseA_D a r p day (by omega) hS.cons hs
 unfold Z7 spG
 generalize qbL a.cons (memE a.people p) r.id day r.sp=b at hB ⊢
 simp only[v8,Rgt.row,Rcd.row,wH,wE]at hB
 cases c1:b !=0
 rotate_left
 ·have hb:decide (b=0)=false:=by simpa using c1
  rw[hb,jB,if_neg (by simp)]
  refine kd (N:=52) (rs:=[.tmp 2]) Tryz.func27 ?_
  repeat' first|(first|refine kcc ?_|refine kx hB ?_|apply kU);simp +decide only[go_sem,c1,v8,Rgt.row,Rcd.row,wH,wE]|apply kh<;>intro qa
  refine qw 2 (dv (.sl 2 [])) (by simp +decide only[go_sem]) ?_
  apply kF;simp +decide only[go_sem]
  all_goals rfl
 have hb:decide (b=0)=true:=by simpa using c1
 rw[hb,Bool.true_and]
 have hh:qgP a r.id p day=a.rules.filter (hitG a r.id p day):=rfl
 rw[hh]
 refine kd (N:=52) (rs:=[.tmp 2]) Tryz.func27 ?_
 repeat' first|(first|refine kcc ?_|refine kx hB ?_|apply kU);simp +decide only[go_sem,c1,v8,Rgt.row,Rcd.row,wH,wE]|apply kh<;>intro qa
 refine zl 4 4 2 (by simp +decide only[go_sem]) ?_
 refine qC a.rules (fun k=>kn 52 [(1,.one (.bx 1 11 0 0)),(3,.one (.ex 2 [[li 0,li r.len]])),(4,.one (.own 4 2 (spns (((a.rules.take k).filter (hitG a r.id p day)).map Rle.span)))),(18,dv (.sl 6 (a.rules.map Rle.enc))),(19,dv (li a.rules.length)),(20,dv (li k))] (ml [(1,[v8 a r p day])])) (fun k=>((a.rules.take k).filter (hitG a r.id p day)).any Rle.zero=false) (by omega) (kM rfl (by simp +decide only[go_sem,wg,yi,wn]) (by simp +decide only[go_sem,v8,Rgt.row,Rcd.row,wH,wE])) (by simp) ?_ ?_
 ·intro k u hk hmk hkk htk hlt hw hi
  have hum:=wl hk
  have hM:=mayA_D a u p day (by omega) hD.grp (hS.rul u hum)
  simp only[Rgt.row]at hM
  have hz:(u.fr==0&&u.tg==0)=u.zero:=rfl
  have hol:((a.rules.take k).filter (hitG a r.id p day)).length<=10:=by
   have h2:=wC (hitG a r.id p day) (a.rules.take k)
   have h3:(a.rules.take k).length<=a.rules.length:=by rw[wx];omega
   omega
  rw[qZ _ htk,List.any_append,hi]
  generalize (a.rules.take k).filter (hitG a r.id p day)=out at*
  have hb8:((out.length+1)*16<=140737488355328)=True:=eq_true (by omega)
  cases c2:u.rcd !=r.id
  rotate_left
  ·have hn:hitG a r.id p day u=false:=by
    have: ¬u.rcd=r.id:=by simpa using c2
    simp[hitG,this]
   rw[hn]
   repeat' first|(first|refine kcc ?_|apply kU);simp +decide only[go_sem,hlt,hw,hk,c2,Rle.enc,v8,Rgt.row,Rcd.row,wH,wE]|apply kh<;>intro qa
   exact kmm
  have hid:decide (u.rcd=r.id)=true:=by simpa using c2
  cases c3:mayG a u p day
  rotate_left
  ·have hn:hitG a r.id p day u=false:=by simp[hitG,c3]
   rw[hn]
   rw[c3]at hM
   repeat' first|(first|refine kcc ?_|refine kx hM ?_|apply kU);simp +decide only[go_sem,hlt,hw,hk,c2,Rle.enc,v8,Rgt.row,Rcd.row,wH,wE]|apply kh<;>intro qa
   exact kmm
  have hn:hitG a r.id p day u=true:=by simp[hitG,c3,hid]
  rw[hn]
  rw[c3]at hM
  cases c4:u.zero
  ·rw[c4]at hz
   repeat' first|(first|refine kcc ?_|refine kx hM ?_|apply kU);simp +decide only[go_sem,hlt,hw,hk,c2,hz,hb8,we,Rle.enc,v8,Rgt.row,Rcd.row,wH,wE]|apply kh<;>intro qa
   exact⟨by simp[c4],kM rfl (by simp +decide only[go_sem,wJ,wt,wn,Spn.enc,Rle.span]) (by simp +decide only[go_sem])⟩
  ·rw[c4]at hz
   have hany:(a.rules.filter (hitG a r.id p day)).any Rle.zero=true:=yo.2 ⟨u,wQ.2 ⟨hum,hn⟩,c4⟩
   rw[hany]
   repeat' first|(first|refine kcc ?_|refine kx hM ?_|apply kU);simp +decide only[go_sem,hlt,hk,c2,hz,Rle.enc,v8,Rgt.row,Rcd.row,wH,wE]|apply kh<;>intro qa
   refine qw 2 (dv (.sl 2 [])) (by simp +decide only[go_sem]) ?_
   apply kF;simp +decide only[go_sem]
   all_goals rfl
 ·intro hlt hi
  rw[wh]at hi ⊢
  rw[hi]
  have hfl:=wC (hitG a r.id p day) a.rules
  generalize a.rules.filter (hitG a r.id p day)=H at*
  have hf2:=wC qg (H.map Rle.span)
  have hf1:=wC qg [(⟨0,r.len⟩:Spn)]
  have hu1:=vS [(⟨0,r.len⟩:Spn)]
  have hu2:=vS (H.map Rle.span)
  have hu3:=vS (Zs 0 (qO (H.map Rle.span)))
  have hgl:(Zs 0 (qO (H.map Rle.span))).length=(qO (H.map Rle.span)).length+1:=by
   have:=qaU (qO (H.map Rle.span)) [] 0
   rw[wE]at this
   rw[<-this,wA,qaT];simp
  simp only[we,wz,wR]at hf2 hf1 hu1 hu2
  have hMn:=qqi [⟨0,r.len⟩] (H.map Rle.span) (by simp) (by rw[we];omega) (by omega) (by omega) (by omega) (by omega) (by omega)
  have hs1:spns [(⟨0,r.len⟩:Spn)]= [[li 0,li r.len]]:=rfl
  rw[hs1]at hMn
  repeat' first|(first|refine kcc ?_|refine kx hMn ?_|apply kU|apply kF);simp +decide only[go_sem,hlt]|apply kh<;>intro qa
theorem qjb(a:Rgt)(r:Rcd)(p day:Int)(hD:RgtD a)(hS:RgtS a)(hp:a.people.length<=1000)(hs:r.sp.length<=1048576)(hrl:a.rules.length<=10):DCalls pP 9 [.agg a.row,.agg r.row,.agg [.c (li p),.c (li day)]] (dv (.sl 2 (spns (Z7 a r p day)))):=by
 have hB:=qpm a r p day hD hS hp hs hrl
 simp only[v8,Rgt.row,Rcd.row,wH,wE]at hB
 refine kd (N:=13) (rs:=[.tmp 6]) Tryz.func9 ?_
 repeat' first|(first|refine kcc ?_|refine kx hB ?_|apply kU|apply kF);simp only[go_sem,Rgt.row,Rcd.row]|apply kh<;>intro qa
end Go.Proofs.YtaaodllggdjhiaaGreatDoor
namespace Go.Proofs.YtaaodllggdjhiaaGreatDoor
abbrev kpm34:List (Nat×Go.Dl.Mode):=[(0,.light),(1,.light),(2,.light),(3,.light),(4,.light),(5,.light),(6,.light),(7,.light),(8,.light),(9,.light),(10,.light),(11,.light),(12,.light),(13,.light),(14,.light),(15,.light),(16,.step),(17,.light),(18,.step),(19,.light)]
abbrev kq35:Nat->List (Nat×Go.Dl.Mode):=fun n=>match n with|1=>kpm34|_=>[]
end Go.Proofs.YtaaodllggdjhiaaGreatDoor
namespace Go.Proofs.YtaaodllggdjhiaaGreatDoor
open Go.Dl S
attribute [local irreducible] DW DCalls ECalls qo wk IW
def orZ:List Int->Int
 | []=>0
 | x::l=>if x=0 then orZ l else x
theorem qcm{xs:List Int}{k:Nat}{x:Int}(hx:xs[k]? =some x):xs.drop k=x::xs.drop (k+1):=by
 have hk:=(wd.1 hx).1
 rw[wL hk];congr 1
 rw[wc hk]at hx;injection hx
theorem orZ_D(xs:List Int)(hl:xs.length<=maxLen):DCalls pP 173 [dv (.sl 1 (ints xs))] (dv (li (orZ xs))):=by
 have qK:=kmax
 refine kd (N:=18) (rs:=[.tmp 2]) Tryz.func173 ?_
 repeat first|apply kA|apply kB|(first|refine kcc ?_|apply kD|apply kE);simp only[go_sem]
 refine qC xs (fun k=>kn 18 [(3,dv (li 0)),(6,dv (.sl 1 (ints xs))),(7,dv (li xs.length)),(8,dv (li k))] qc) (fun k=>orZ (xs.drop k)=orZ xs) (by omega) kl (by simp) ?_ ?_
 ·intro k x hx hk hm htk hlt hw hi
  have hx':=qp hx
  rw[qcm hx,orZ]at hi
  rcases Bool.eq_false_or_eq_true (x !=0)with t1|t1
  ·rw[if_neg (by simpa using t1)]at hi
   repeat' first|(first|refine kcc ?_|apply kU|apply kF);simp only[go_sem,hlt,hx',t1]|apply kh<;>intro qa
   rw[hi]
  ·rw[if_pos (by simpa using t1)]at hi
   repeat' first|(first|refine kcc ?_|apply kU|apply kF);simp only[go_sem,hlt,hw,hx',t1]|apply kh<;>intro qa
   exact⟨hi,kl⟩
 ·intro hlt hi
  repeat' first|(first|refine kcc ?_|apply kU|apply kF);simp only[go_sem,hlt]|apply kh<;>intro qa
  rw[<-hi];simp[orZ]
theorem or3_Z(x y z:Int):orZ [x,y,z]=or3 x y z:=by
 unfold orZ orZ orZ orZ or3
 by_cases h1:x=0
 ·by_cases h2:y=0
  ·by_cases h3:z=0<;>simp[h1,h2,h3]
  ·simp[h1,h2]
 ·simp[h1]
theorem order_D(a b:Nte):DCalls pP 139 [.agg a.row,.agg b.row] (dv (li (ordN a b))):=by
 have hO:=orZ_D [cmpI a.par b.par,cmpI a.fr b.fr,cmpI a.rank b.rank] (show 3<=maxLen by decide)
 rw[or3_Z]at hO
 have ho:ordN a b=or3 (cmpI a.par b.par) (cmpI a.fr b.fr) (cmpI a.rank b.rank):=rfl
 rw[ho]
 simp only[wt,wn]at hO
 refine kd (N:=24) (rs:=[.tmp 4]) Tryz.func139 ?_
 repeat' first|(first|refine kcc ?_|refine kjj kq35 ?_|refine kx (qqT a.par b.par) ?_|refine kx (qqT a.fr b.fr) ?_|refine kx (qqT a.rank b.rank) ?_|refine kx hO ?_|apply kU|apply kF);simp +decide only[go_sem,Nte.row]|apply kh<;>intro qa
theorem qni(l:List Nte): ∀r∈l.map Nte.enc,r.length=7:=fun r hr=>by obtain⟨x,_,rfl⟩:=wI.1 hr;rfl
def kidB(d:Dcm)(id t:Int)(n:Nte):Bool:=n.tier==t&&n.par==id&&(decide (0<=t)&&decide (t<(d.tiers.length:Int)))
theorem qrw(d:Dcm)(id t:Int):d.kidN id t=insB (fun x y=>decide (ordN x y<0)) (d.notes.filter (kidB d id t)):=by
 unfold Dcm.kidN
 by_cases h:0<=t/\t<d.tiers.length
 ·rw[if_pos h];congr 1
  refine jt fun n _=>?_
  unfold kidB;rw[decide_eq_true h.1,decide_eq_true h.2];simp
 ·rw[if_neg h]
  have:d.notes.filter (kidB d id t)= []:=List.filter_eq_nil_iff.2 fun n _ hn=>by
   unfold kidB at hn;simp at hn;exact h ⟨hn.2.1,hn.2.2⟩
  rw[this];rfl
theorem qrv(d:Dcm)(id t:Int)(hl:d.notes.length<=19):DCalls pP 72 [.agg d.row,dv (li id),dv (li t)] (dv (.sl 1 (ints (d.kids id t)))):=by
 have qK:=kmax
 have hk0:d.kids id t=(insB (fun x y=>decide (ordN x y<0)) (d.notes.filter (kidB d id t))).map (·.id):=by unfold Dcm.kids;rw[qrw]
 rw[hk0]
 refine kd (N:=61) (rs:=[.tmp 6]) Tryz.func72 ?_
 repeat' first|(first|refine kcc ?_|apply kU);simp +decide only[go_sem,Dcm.row]|apply kh<;>intro qa
 refine kK (DS.Sub.trans (sub_zero 7 7 7 (.inl (by simp +decide only[go_sem]))) (kM (N:=61) (sls:=[(1,dv (li id)),(2,dv (li t)),(3,.one (.bx 3 7 0 0)),(7,.one (.ba 7 7 0 0 0)),(14,dv (.sl 7 (d.notes.map Nte.enc))),(15,dv (li d.notes.length)),(16,dv (li 0))]) (bxs:=[(3,[d.row]),(7,[])]) rfl (by simp +decide only[go_sem]) (by simp +decide only[go_sem,Dcm.row]))) ?_
 refine qaZ d.notes (fun k (j:Nat)=>kn 61 [(1,dv (li id)),(2,dv (li t)),(3,.one (.bx 3 7 0 0)),(7,.one (.ba 7 7 0 ((d.notes.take k).filter (kidB d id t)).length (((d.notes.take k).filter (kidB d id t)).length+j))),(14,dv (.sl 7 (d.notes.map Nte.enc))),(15,dv (li d.notes.length)),(16,dv (li k))] (ml [(3,[d.row]),(7,cr (((d.notes.take k).filter (kidB d id t)).map Nte.enc)++qb j 7)])) (fun _ _=>True) 0 (by omega) (kM rfl (by simp +decide only[go_sem,wg,yi]) (by simp +decide only[go_sem,wg,yi,Dcm.row])) trivial ?_ ?_
 ·intro k n j hn hk hm htk hlt hw _
  have hfl:=wC (kidB d id t) (d.notes.take k)
  have hkl:(d.notes.take k).length<=d.notes.length:=by rw[wx];omega
  rw[qZ _ htk]
  generalize (d.notes.take k).filter (kidB d id t)=C at*
  cases hB:kidB d id t n
  ·cases c1:n.tier==t
   ·repeat' first|(first|refine kcc ?_|apply kU);simp +decide only[go_sem,hlt,hw,hn,c1,Dcm.row,Nte.enc]|apply kh<;>intro qa
    exact⟨j,kmm⟩
   cases c2:n.par==id
   ·repeat' first|(first|refine kcc ?_|apply kU);simp +decide only[go_sem,hlt,hw,hn,c1,c2,Dcm.row,Nte.enc]|apply kh<;>intro qa
    exact⟨j,kmm⟩
   cases c3:decide (0<=t)
   ·repeat' first|(first|refine kcc ?_|apply kU);simp +decide only[go_sem,hlt,hw,hn,c1,c2,c3,Dcm.row,Nte.enc]|apply kh<;>intro qa
    exact⟨j,kmm⟩
   cases c4:decide (t<(d.tiers.length:Int))
   ·repeat' first|(first|refine kcc ?_|apply kU);simp +decide only[go_sem,hlt,hw,hn,c1,c2,c3,c4,Dcm.row,Nte.enc]|apply kh<;>intro qa
    exact⟨j,kmm⟩
   ·unfold kidB at hB;rw[c1,c2,c3,c4]at hB;cases hB
  ·have hB':=hB
   unfold kidB at hB'
   simp only[wu]at hB'
   obtain⟨⟨c1,c2⟩,c3,c4⟩:=hB'
   repeat' first|(first|refine kcc ?_|apply kU);simp +decide only[go_sem,hlt,hn,c1,c2,c3,c4,Dcm.row,Nte.enc]|apply kh<;>intro qa
   refine StepC.mk (Step.appendList (n:=7) (sz:=7) (by_:=64) (rows:=cr (C.map Nte.enc)) (j:=j) (ys:=cr [n.enc]) rfl rfl (by simp +decide only[go_sem]) (by simp +decide only[go_sem,qW,we]) (by simp +decide only[go_sem]) (qhe (qni C)) (srcEx (by simp +decide only[go_sem,Nte.enc])) (by rw[qW,we,qW];simp;omega) ?_)
   intro j'
   simp +decide only[go_sem]
   repeat' first|(first|refine kcc ?_|apply kU);simp +decide only[go_sem,hw]|apply kh<;>intro qa
   exact⟨j',DS.Sub.trans (Qq 44 7 (by omega)) (kM rfl (by simp +decide only[go_sem,qW,wA,we,wR,wz]) (by simp +decide only[go_sem,wJ,zL,wt,wn,wU]))⟩
 ·intro j hlt _
  rw[wh]
  have hfl:=wC (kidB d id t) d.notes
  generalize d.notes.filter (kidB d id t)=C at*
  repeat' first|(first|refine kcc ?_|apply kU);simp +decide only[go_sem,hlt]|apply kh<;>intro qa
  refine CallC.eff [7] (sortN_E (fun x y=>decide (ordN x y<0)) ordN (fun _ _=>rfl) 139 (fun a b=>order_D a b) C j (7+NB) (by omega) (yx _ _)) rfl (DLeL.of_eq (by simp +decide only[go_sem])) (fun k r h=>?_) (by constructor<;>simp[mid]) ?_
  ·by_cases hk:k=7+NB
   ·subst hk;simp +decide only[go_sem]at h;subst h;simp +decide only[go_sem,qJ]
   ·simp +decide only[go_sem,hk]at h
  rintro r H' ⟨rfl,rfl⟩
  simp +decide only[go_sem]
  repeat' first|(first|refine kcc ?_|apply kU);simp +decide only[go_sem]|apply kh<;>intro qa
  have hSl:(insB (fun x y=>decide (ordN x y<0)) C).length=C.length:=(zI _ C).length_eq
  rw[<-hSl]
  have hS19:(insB (fun x y=>decide (ordN x y<0)) C).length<=19:=by omega
  generalize insB (fun x y=>decide (ordN x y<0)) C=S at*
  refine qae 7 7 (S.map Nte.enc) (qb j 7) (by decide) (by simp +decide only[go_sem,qd];rfl) (qni S) ?_
  have htk:(S.map Nte.enc).take S.length=S.map Nte.enc:=by rw[<-we (f:=Nte.enc),wh]
  have hle:S.length<=(S.map Nte.enc).length:=by simp
  refine zl 10 10 1 (by simp +decide only[go_sem]) ?_
  refine qj S (fun k=>kn 61 [(10,.one (.own 10 1 (ints ((S.take k).map (·.id))))),(48,dv (.sl 7 (S.map Nte.enc))),(49,dv (li S.length)),(50,dv (li k))] qc) (by omega) (kL rfl (by simp +decide only[go_sem,htk,ww,wg,wn]) (by simp[qc])) ?_ ?_
  ·intro k n hn hk hm htk2 Zu hw
   have hst:(S.take (k+1)).map (·.id)=(S.take k).map (·.id)++[n.id]:=by rw[htk2];simp
   rw[hst]
   have hql:((S.take k).map (·.id)).length<=19:=by rw[we,wx];omega
   generalize (S.take k).map (·.id)=q at*
   have hb8:((q.length+1)*8<=140737488355328)=True:=eq_true (by omega)
   repeat' first|(first|refine kcc ?_|apply kU);simp +decide only[go_sem,Zu,hw,hn,hb8,Nte.enc]|apply kh<;>intro qa
   exact kL rfl (by simp +decide only[go_sem,wJ,wt,wn]) (by simp[qc])
  ·intro Zu
   rw[wh]
   repeat' first|(first|refine kcc ?_|apply kU);simp +decide only[go_sem,Zu]|apply kh<;>intro qa
   refine qw 6 (dv (.sl 1 (ints (S.map (·.id))))) (by simp +decide only[go_sem]) ?_
   apply kF;simp +decide only[go_sem]
theorem qia{l:List Int}(h:l.length<=1)(id:Int):ZE l id=0:=by
 cases l with
 | nil=>rfl
 | cons a l=>cases l with
  | nil=>rfl
  | cons b l=>simp at h
theorem qjG(d:Dcm)(id t:Int):(d.kids id t).length<=d.notes.length:=by
 unfold Dcm.kids;rw[qrw,we,(zI _ _).length_eq]
 exact wC _ _
theorem nextP_D(d:Dcm)(id:Int)(hl:d.notes.length<=19):DCalls pP 85 [.agg d.row,dv (li id)] (dv (li (d.next id))):=by
 have qK:=kmax
 have hG:=qgV d id (by omega)
 have hnx:d.next id=if(getN d.notes id).2=true then ZE (d.kids (getN d.notes id).1.par (getN d.notes id).1.tier) id else 0:=by
  unfold Dcm.next getN;cases d.notes.find? (fun n=>n.id==id)<;>simp
 rw[hnx]
 generalize getN d.notes id=g at*
 obtain⟨n,ok⟩:=g
 simp only[Dcm.row,Nte.row]at hG
 cases ok
 ·refine kd (N:=40) (rs:=[.tmp 4]) Tryz.func85 ?_
  repeat' first|(first|refine kcc ?_|refine kx hG ?_|apply kU|apply kF);simp only[go_sem,Dcm.row]|apply kh<;>intro qa
 rw[if_pos rfl]
 have hK:=qrv d n.par n.tier hl
 have hLl:=qjG d n.par n.tier
 dsimp only
 generalize d.kids n.par n.tier=L at*
 simp only[Dcm.row]at hK
 refine kd (N:=40) (rs:=[.tmp 4]) Tryz.func85 ?_
 repeat' first|(first|refine kcc ?_|refine kx hG ?_|refine kx hK ?_|apply kU);simp only[go_sem,Dcm.row]|apply kh<;>intro qa
 refine qk (fun m:Nat=>kn 40 [(1,dv (li id)),(7,dv (.sl 1 (ints L))),(8,dv (li m))] qc) (fun m=>1<=m/\m<=1000/\ZE (L.drop (m - 1)) id=ZE L id) (fun m=>1000 - m) 1 kl ⟨by omega,by omega,by simp⟩ ?_
 rintro m ⟨hm1,hm2,hc⟩
 cases t1:decide ((m:Int)<(L.length:Int))
 ·have hge:L.length<=m:=by simpa using t1
  rw[qia (by rw[yc];omega)]at hc
  repeat' first|(first|refine kcc ?_|apply kU|apply kF);simp only[go_sem,t1]|apply kh<;>intro qa
  rw[hc]
 have hml:m<L.length:=by simpa using t1
 obtain⟨j,rfl⟩: ∃j,m=j+1:=⟨m - 1,by omega⟩
 obtain⟨x,hx⟩: ∃x,L[j]? =some x:=⟨_,wc (by omega)⟩
 obtain⟨y,hy⟩: ∃y,L[j+1]? =some y:=⟨_,wc hml⟩
 have hx':=qp hx
 have hy':=qp hy
 have hw1:IntKind.wrap .i64 (((j+1:Nat):Int) - 1)=(j:Int):=by rw[wrap_i64 (by omega) (by omega)];omega
 have hw2:=qt (j+1) (by omega)
 rw[Nat.add_sub_cancel,qcm hx,qcm hy]at hc
 have hnl:ZE (x::y::L.drop (j+1+1)) id=if x=id then y else ZE (y::L.drop (j+1+1)) id:=rfl
 rw[hnl]at hc
 cases t2:x==id
 ·rw[if_neg (by simpa using t2),<-qcm hy]at hc
  repeat' first|(first|refine kcc ?_|apply kU);simp only[go_sem,t1,t2,hw1,hw2,hx',wB]|apply kh<;>intro qa
  exact⟨j+1+1,⟨by omega,by omega,by rw[Nat.add_sub_cancel];exact hc⟩,by omega,kl⟩
 ·rw[if_pos (by simpa using t2)]at hc
  repeat' first|(first|refine kcc ?_|apply kU|apply kF);simp only[go_sem,t1,t2,hw1,hx',hy',wB]|apply kh<;>intro qa
  rw[hc]
theorem zK{α:Type}{xs:List α}{k:Nat}{x:α}(hx:xs[k]? =some x):xs.drop k=x::xs.drop (k+1):=by
 have hk:=(wd.1 hx).1
 rw[wL hk];congr 1
 rw[wc hk]at hx;injection hx
theorem qlw(p:Pst)(role:Int)(txt:ByteArray):DCalls pP 153 [.agg p.row,dv (li role),dv (ls txt)] (dv (li (cmpP p role txt))):=by
 refine kd (N:=35) (rs:=[.tmp 6]) Tryz.func153 ?_
 rcases Int.lt_trichotomy p.role role with h|h|h
 ·have h1:decide (p.role<role)=true:=by simpa using h
  repeat' first|(first|refine kcc ?_|apply kU|apply kF);simp only[go_sem,Pst.row,h1]|apply kh<;>intro qa
  rw[cmpP,if_pos (pLt_iff.2 (.inl h))]
 ·have h1:decide (p.role<role)=false:=by simp;omega
  have h2:(p.role==role)=true:=by simpa using h
  cases h3:qaE p.txt txt
  ·cases h4:p.txt==txt
   ·repeat' first|(first|refine kcc ?_|apply kU|apply kF);simp only[go_sem,Pst.row,h1,h2,h3,h4]|apply kh<;>intro qa
    rw[cmpP,if_neg (by rw[pLt_iff];exact fun e=>e.elim (fun e=>by omega) (fun e=>by rw[h3]at e;cases e.2)),if_neg (by rw[pEq,h4];simp)]
   ·repeat' first|(first|refine kcc ?_|apply kU|apply kF);simp only[go_sem,Pst.row,h1,h2,h3,h4]|apply kh<;>intro qa
    rw[cmpP,if_neg (by rw[pLt_iff];exact fun e=>e.elim (fun e=>by omega) (fun e=>by rw[h3]at e;cases e.2)),if_pos (by rw[pEq,h4,decide_eq_true h];rfl)]
  ·repeat' first|(first|refine kcc ?_|apply kU|apply kF);simp only[go_sem,Pst.row,h1,h2,h3]|apply kh<;>intro qa
   rw[cmpP,if_pos (pLt_iff.2 (.inr ⟨h,h3⟩))]
 ·have h1:decide (p.role<role)=false:=by simp;omega
  have h2:(p.role==role)=false:=by simp;omega
  repeat' first|(first|refine kcc ?_|apply kU|apply kF);simp only[go_sem,Pst.row,h1,h2]|apply kh<;>intro qa
  rw[cmpP,if_neg (by rw[pLt_iff];rintro(e|⟨e,_⟩)<;>omega),if_neg (by rw[pEq,decide_eq_false (by omega)];simp)]
theorem qcU(l:List Pst)(role:Int)(txt:ByteArray):qz l role txt<=l.length:=by
 unfold qz;exact(List.takeWhile_prefix _).length_le
theorem cmp_neg(p:Pst)(role:Int)(txt:ByteArray):decide (cmpP p role txt<0)=pLt p role txt:=by
 unfold cmpP
 cases h:pLt p role txt
 ·rw[if_neg (by simp)];split<;>rfl
 ·rw[if_pos rfl];rfl
theorem cmp_eq0{p:Pst}{role:Int}{txt:ByteArray}:(cmpP p role txt==0)=pEq p role txt:=by
 unfold cmpP
 cases h:pLt p role txt
 ·rw[if_neg (by simp)]
  cases h2:pEq p role txt
  ·rw[if_neg (by simp)];rfl
  ·rw[if_pos rfl];rfl
 ·rw[if_pos rfl]
  cases h2:pEq p role txt
  ·rfl
  ·rw[qjv h2]at h;cases h
theorem qkU{l:List Pst}{k:Nat}{p:Pst}{role:Int}{txt:ByteArray}(hp:l[k]? =some p)(Zr: ∀q∈l.take k,pLt q role txt=true)(h:pLt p role txt=false):qz l role txt=k:=by
 have hk:=(wd.1 hp).1
 have hd:=zK hp
 unfold qz
 rw[<-wS k l,jn Zr,hd,jc,h]
 simp;omega
theorem qm0{l:List Pst}{role:Int}{txt:ByteArray}(Zr: ∀q∈l,pLt q role txt=true):qz l role txt=l.length:=by
 unfold qz
 have:l.takeWhile (fun p=>pLt p role txt)=l:=by
  have:=jn (p:=fun p=>pLt p role txt) (l₂:=[]) Zr
  simpa using this
 rw[this]
theorem qm1(l:List Pst)(role:Int)(txt:ByteArray)(hl:l.length<=1000000):DCalls pP 90 [.agg [.c (.sl 3 (l.map Pst.enc))],dv (li role),dv (ls txt)] (.tup [dv (li (qz l role txt)),dv (lb (QQ l role txt))]):=by
 have qK:=kmax
 refine kd (N:=44) (rs:=[.tmp 6,.tmp 7]) Tryz.func90 ?_
 repeat' first|(first|refine kcc ?_|apply kU);simp only[go_sem]|apply kh<;>intro qa
 refine qC l (fun k=>kn 44 [(1,dv (li role)),(2,dv (ls txt)),(3,.one (.bx 3 1 0 0)),(8,dv (li k))] (ml [(3,[[.c (.sl 3 (l.map Pst.enc))]])])) (fun k=>∀q∈l.take k,pLt q role txt=true) (by omega) (kmm) (by simp) ?_ ?_
 ·intro k p hp hk hm htk hlt hw hi
  have hC:=qlw p role txt
  have hn:=cmp_neg p role txt
  have h0:=cmp_eq0 (p:=p) (role:=role) (txt:=txt)
  simp only[Pst.row]at hC
  generalize cmpP p role txt=cv at*
  cases h1:pLt p role txt<;>rw[h1]at hn
  ·have hpn:=qkU hp hi h1
   have hpb:QQ l role txt=pEq p role txt:=by unfold QQ;rw[hpn,hp]
   rw[hpn,hpb,<-h0]
   repeat' first|(first|refine kcc ?_|refine kx hC ?_|apply kU|apply kF);simp only[go_sem,hlt,hp,hn,Pst.enc]|apply kh<;>intro qa
  ·repeat' first|(first|refine kcc ?_|refine kx hC ?_|apply kU);simp only[go_sem,hlt,hw,hp,hn,Pst.enc]|apply kh<;>intro qa
   refine⟨fun q hq=>?_,kmm⟩
   rw[htk]at hq
   rcases wo.1 hq with hq|hq
   ·exact hi q hq
   ·simp at hq;rw[hq];exact h1
 ·intro hlt hi
  rw[wh]at hi
  have hpn:=qm0 hi
  have hpb:QQ l role txt=false:=by unfold QQ;rw[hpn,wZ (wv _)]
  rw[hpn,hpb]
  repeat' first|(first|refine kcc ?_|apply kU|apply kF);simp only[go_sem,hlt]|apply kh<;>intro qa
end Go.Proofs.YtaaodllggdjhiaaGreatDoor
namespace Go.Proofs.YtaaodllggdjhiaaGreatDoor
abbrev kq36:Nat->List (Nat×Go.Dl.Mode):=fun n=>match n with|9=>kpm6|_=>[]
end Go.Proofs.YtaaodllggdjhiaaGreatDoor
namespace Go.Proofs.YtaaodllggdjhiaaGreatDoor
open Go.Dl S
attribute [local irreducible] DW DCalls ECalls qo wk IW
theorem qqj{l:List Int}{k:Nat}{x n:Int}(hp:l[k]? =some x)(Zr: ∀q∈l.take k,q<n)(h: ¬x<n):lowI l n=k:=by
 have hk:=(wd.1 hp).1
 have hd:=zK hp
 unfold lowI
 rw[<-wS k l,jn (fun q hq=>decide_eq_true (Zr q hq)),hd,jc,decide_eq_false h]
 simp;omega
theorem low_end{l:List Int}{n:Int}(Zr: ∀q∈l,q<n):lowI l n=l.length:=by
 unfold lowI
 have:l.takeWhile (fun x=>decide (x<n))=l:=by
  have:=jn (p:=fun x:Int=>decide (x<n)) (l₂:=[]) (fun q hq=>decide_eq_true (Zr q hq))
  simpa using this
 rw[this]
theorem low_le(l:List Int)(n:Int):lowI l n<=l.length:=(List.takeWhile_prefix _).length_le
theorem with_D(l:List Int)(n:Int)(hl:l.length<=1000000):DCalls pP 91 [dv (.sl 1 (ints l)),dv (li n)] (dv (.sl 1 (ints (qaA l n)))):=by
 have qK:=kmax
 have hll:=low_le l n
 refine kd (N:=56) (rs:=[.tmp 4]) Tryz.func91 ?_
 apply kA
 refine kcc ?_;simp only[go_sem]
 apply kA
 refine kcc ?_;simp only[go_sem]
 apply kA
 refine vq (fun _:Unit=>kn 56 [(0,dv (.sl 1 (ints l))),(1,dv (li n)),(5,dv (li (lowI l n)))] qc) (fun _=>True) ?_ ?_
 ·apply kB
  refine qC l (fun k=>kn 56 [(0,dv (.sl 1 (ints l))),(1,dv (li n)),(5,dv (li k))] qc) (fun k=>∀q∈l.take k,q<n) (by omega) kl (by simp) ?_ ?_
  ·intro k x hx hk hm htk hlt hw hi
   have hx':=qp hx
   cases h1:decide (x<n)
   ·rw[qqj hx hi (by simpa using h1)]
    repeat' first|(first|refine kcc ?_|refine kjj kq36 ?_|apply kU);simp only[go_sem,hlt,hx',h1]|apply kh<;>intro qa
    exact⟨(),kl⟩
   ·repeat' first|(first|refine kcc ?_|refine kjj kq36 ?_|apply kU);simp only[go_sem,hlt,hw,hx',h1]|apply kh<;>intro qa
    refine⟨fun q hq=>?_,kl⟩
    rw[htk]at hq
    rcases wo.1 hq with hq|hq
    ·exact hi q hq
    ·simp at hq;rw[hq];simpa using h1
  ·intro hlt hi
   rw[wh]at hi
   rw[low_end hi]
   repeat' first|(first|refine kcc ?_|refine kjj kq36 ?_|apply kU);simp only[go_sem,hlt]|apply kh<;>intro qa
   exact⟨(),kl⟩
 rintro _ _
 unfold qaA
 generalize lowI l n=k at*
 have hwl:=qt l.length (by omega)
 have hb:Tryz.t3.bytes*(l.length+1)<=281474976710656:=by
  have:Tryz.t3.bytes=8:=by kernel_rfl
  rw[this];omega
 have hkt:(l.take k).length=k:=by rw[wx];omega
 rcases Nat.lt_or_ge k l.length with hkl|hkl
 ·obtain⟨x,hx⟩: ∃x,l[k]? =some x:=⟨_,wc hkl⟩
  have hx':=qp hx
  have t1:decide ((k:Int)<(l.length:Int))=true:=decide_eq_true (by omega)
  cases t2:x==n
  rotate_left
  ·have:x=n:=by simpa using t2
   rw[if_pos (by rw[hx,this])]
   repeat' first|(first|refine kcc ?_|refine kjj kq36 ?_|apply kU|apply kF);simp only[go_sem,t1,t2,hx']|apply kh<;>intro qa
  have hne: ¬l[k]? =some n:=by rw[hx];intro e;injection e with e;simp[e]at t2
  rw[if_neg hne]
  repeat' first|(first|refine kcc ?_|refine kjj kq36 ?_|apply kU);simp only[go_sem,t1,t2,hx',hwl]|apply kh<;>intro qa
  refine StepC.mk (Step.makeSlice (n:=l.length+1) (e:=3) (z:=[T.c (li 0)]) (inf:=Tryz.t3) (kx:=.i64) (ky:=.i64) rfl rfl (by kernel_rfl) (by kernel_rfl) (by kernel_rfl) (by decide) (by kernel_rfl) (by simp only[go_sem]) (by simp only[go_sem]) (by simp;omega) hb (by omega) ?_)
  have hrep:List.replicate (l.length+1) [T.c (li 0)]=cr (List.replicate (l.length+1) [li 0]):=by simp[cr]
  rw[hrep]
  have hzl:(List.replicate (l.length+1) [li 0]).length=l.length+1:=by simp
  have hzz: ∀r∈List.replicate (l.length+1) [li 0],r.length=1:=fun r hr=>by rw[yb hr];rfl
  generalize List.replicate (l.length+1) [li 0]=Z at*
  obtain⟨z,hz⟩: ∃z,Z[k]? =some z:=⟨_,wc (by omega)⟩
  have hdz:Z.drop k=z::Z.drop (k+1):=zK hz
  have hz1:=hzz z (wl hz)
  obtain⟨v,rfl⟩: ∃v,z= [v]:=List.length_eq_one_iff.1 hz1
  have hta:List.take k (ints l)=ints (l.take k):=List.map_take.symm
  have htd:List.drop k (ints l)=ints (l.drop k):=ji.symm
  have htd2:List.drop k (List.take l.length (ints l))=ints (l.drop k):=by rw[wO (by simp)];exact htd
  have hkl':k<=l.length:=by omega
  have hk0:=ye k
  have hk1:k<l.length+1:=by omega
  have hwk:=qt k (by omega)
  have qby:(cr (ints (l.take k)++[v]::Z.drop (k+1)))[k]? =some [T.c v]:=by
   unfold cr;rw[wq,wG (by rw[we,hkt];omega),we,hkt,yM];rfl
  have Qu:(cr (ints (l.take k)++[v]::Z.drop (k+1))).set k [T.c (li n)]=cr (ints (l.take k)++[li n]::Z.drop (k+1)):=by
   have e:([T.c (li n)]:List T)=([li n]:List C).map T.c:=rfl
   unfold cr
   rw[e,<-yZ];congr 1
   rw[je _ _ (by rw[we,hkt];omega),we,hkt,yM];rfl
  simp only[go_sem]
  repeat' first|(first|refine kcc ?_|refine kjj kq36 ?_|apply kU);simp only[go_sem,hkl',hk0,hta]|apply kh<;>intro qa
  refine StepC.mk (Step.copyTo (n:=37) (sz:=1) (i:=0) (len:=l.length+1) (cap:=l.length+1) (ys:=cr (ints (l.take k))) (rows:=cr Z) (rows':=cr (ints (l.take k)++[v]::Z.drop (k+1))) (c:=k) rfl (by simp only[go_sem]) (by simp only[go_sem]) (by simp only[go_sem]) (by rw[qW];omega) (qhe hzz) (qcA (by simp only[go_sem])) (by rw[wx,qW,we,hkt];omega) (by rw[wg,wE,yr,wO (by rw[qW,we,hkt];omega),zL,<-hdz,qoi]) ?_)
  simp only[go_sem]
  repeat' first|(first|refine kcc ?_|refine kjj kq36 ?_|apply kU);simp only[go_sem,hk1,qby,Qu,hwk,hkl']|apply kh<;>intro qa
  have hdl:(l.drop k).length=l.length - k:=yc
  have hyl:(cr (ints (l.drop k))).length=l.length - k:=by rw[qW,we,hdl]
  have hrl:(cr (ints (l.take k)++[li n]::Z.drop (k+1))).length=l.length+1:=by rw[qW,wA,we,hkt,wz,yc,hzl];omega
  have hsz2:RowsSz 1 (cr (ints (l.take k)++[li n]::Z.drop (k+1))):=qhe fun r hr=>by
   rcases wo.1 hr with hr|hr
   ·obtain⟨y,_,rfl⟩:=wI.1 hr;rfl
   ·rcases ws.1 hr with hr|hr
    ·rw[hr];rfl
    ·exact hzz r (ym hr)
  refine StepC.mk (Step.copyTo (n:=37) (sz:=1) (i:=k+1) (len:=l.length+1 - (k+1)) (cap:=l.length+1 - (k+1)) (ys:=cr (ints (l.drop k))) (rows:=cr (ints (l.take k)++[li n]::Z.drop (k+1))) (rows':=cr (ints (l.take k++n::l.drop k))) (c:=l.length - k) rfl (by simp only[go_sem]) (by simp only[go_sem]) (by simp only[go_sem]) (by rw[hrl];omega) hsz2 (qcA (by simp only[go_sem,htd2])) (by rw[wx,hyl];omega) ?_ ?_)
  ·have a1:(cr (ints (l.take k)++[li n]::Z.drop (k+1))).take (k+1)=cr (ints (l.take k)++[[li n]]):=by
    have e1:ints (l.take k)++[li n]::Z.drop (k+1)=(ints (l.take k)++[[li n]])++Z.drop (k+1):=by simp
    rw[e1,qog,List.take_left' (by rw[wA,we,hkt];rfl)]
   have a2:(cr (ints (l.drop k))).take (l.length+1 - (k+1))=cr (ints (l.drop k)):=wO (by rw[hyl];omega)
   have a3:(cr (ints (l.take k)++[li n]::Z.drop (k+1))).drop (k+1+(l.length - k))= []:=yE (by rw[hrl];omega)
   rw[a1,a2,a3,wM,<-zL]
   congr 1
   simp
  simp only[go_sem]
  refine qae 37 1 (ints (l.take k++n::l.drop k)) [] (by decide) (by simp only[go_sem,wM];rfl) (fun r hr=>by obtain⟨y,_,rfl⟩:=wI.1 hr;rfl) ?_
  have hXl:(ints (l.take k++n::l.drop k)).length=l.length+1:=by rw[we,wA,wz,hkt,hdl];omega
  have htk:(ints (l.take k++n::l.drop k)).take (l.length+1)=ints (l.take k++n::l.drop k):=wO (by omega)
  have hle:l.length+1<=(l.take k++n::l.drop k).length:=by rw[we]at hXl;omega
  repeat' first|(first|refine kcc ?_|refine kjj kq36 ?_|apply kU);simp only[go_sem]|apply kh<;>intro qa
  apply kF;simp only[go_sem,hle,htk]
 ·have t1:decide ((k:Int)<(l.length:Int))=false:=decide_eq_false (by omega)
  rw[if_neg (by rw[wZ hkl];simp)]
  repeat' first|(first|refine kcc ?_|refine kjj kq36 ?_|apply kU);simp only[go_sem,t1,hwl]|apply kh<;>intro qa
  refine StepC.mk (Step.makeSlice (n:=l.length+1) (e:=3) (z:=[T.c (li 0)]) (inf:=Tryz.t3) (kx:=.i64) (ky:=.i64) rfl rfl (by kernel_rfl) (by kernel_rfl) (by kernel_rfl) (by decide) (by kernel_rfl) (by simp only[go_sem]) (by simp only[go_sem]) (by simp;omega) hb (by omega) ?_)
  have hrep:List.replicate (l.length+1) [T.c (li 0)]=cr (List.replicate (l.length+1) [li 0]):=by simp[cr]
  rw[hrep]
  have hzl:(List.replicate (l.length+1) [li 0]).length=l.length+1:=by simp
  have hzz: ∀r∈List.replicate (l.length+1) [li 0],r.length=1:=fun r hr=>by rw[yb hr];rfl
  generalize List.replicate (l.length+1) [li 0]=Z at*
  obtain⟨z,hz⟩: ∃z,Z[k]? =some z:=⟨_,wc (by omega)⟩
  have hdz:Z.drop k=z::Z.drop (k+1):=zK hz
  have hz1:=hzz z (wl hz)
  obtain⟨v,rfl⟩: ∃v,z= [v]:=List.length_eq_one_iff.1 hz1
  have hta:List.take k (ints l)=ints (l.take k):=List.map_take.symm
  have htd:List.drop k (ints l)=ints (l.drop k):=ji.symm
  have htd2:List.drop k (List.take l.length (ints l))=ints (l.drop k):=by rw[wO (by simp)];exact htd
  have hkl':k<=l.length:=by omega
  have hk0:=ye k
  have hk1:k<l.length+1:=by omega
  have hwk:=qt k (by omega)
  have qby:(cr (ints (l.take k)++[v]::Z.drop (k+1)))[k]? =some [T.c v]:=by
   unfold cr;rw[wq,wG (by rw[we,hkt];omega),we,hkt,yM];rfl
  have Qu:(cr (ints (l.take k)++[v]::Z.drop (k+1))).set k [T.c (li n)]=cr (ints (l.take k)++[li n]::Z.drop (k+1)):=by
   have e:([T.c (li n)]:List T)=([li n]:List C).map T.c:=rfl
   unfold cr
   rw[e,<-yZ];congr 1
   rw[je _ _ (by rw[we,hkt];omega),we,hkt,yM];rfl
  simp only[go_sem]
  repeat' first|(first|refine kcc ?_|refine kjj kq36 ?_|apply kU);simp only[go_sem,hkl',hk0,hta]|apply kh<;>intro qa
  refine StepC.mk (Step.copyTo (n:=37) (sz:=1) (i:=0) (len:=l.length+1) (cap:=l.length+1) (ys:=cr (ints (l.take k))) (rows:=cr Z) (rows':=cr (ints (l.take k)++[v]::Z.drop (k+1))) (c:=k) rfl (by simp only[go_sem]) (by simp only[go_sem]) (by simp only[go_sem]) (by rw[qW];omega) (qhe hzz) (qcA (by simp only[go_sem])) (by rw[wx,qW,we,hkt];omega) (by rw[wg,wE,yr,wO (by rw[qW,we,hkt];omega),zL,<-hdz,qoi]) ?_)
  simp only[go_sem]
  repeat' first|(first|refine kcc ?_|refine kjj kq36 ?_|apply kU);simp only[go_sem,hk1,qby,Qu,hwk,hkl']|apply kh<;>intro qa
  have hdl:(l.drop k).length=l.length - k:=yc
  have hyl:(cr (ints (l.drop k))).length=l.length - k:=by rw[qW,we,hdl]
  have hrl:(cr (ints (l.take k)++[li n]::Z.drop (k+1))).length=l.length+1:=by rw[qW,wA,we,hkt,wz,yc,hzl];omega
  have hsz2:RowsSz 1 (cr (ints (l.take k)++[li n]::Z.drop (k+1))):=qhe fun r hr=>by
   rcases wo.1 hr with hr|hr
   ·obtain⟨y,_,rfl⟩:=wI.1 hr;rfl
   ·rcases ws.1 hr with hr|hr
    ·rw[hr];rfl
    ·exact hzz r (ym hr)
  refine StepC.mk (Step.copyTo (n:=37) (sz:=1) (i:=k+1) (len:=l.length+1 - (k+1)) (cap:=l.length+1 - (k+1)) (ys:=cr (ints (l.drop k))) (rows:=cr (ints (l.take k)++[li n]::Z.drop (k+1))) (rows':=cr (ints (l.take k++n::l.drop k))) (c:=l.length - k) rfl (by simp only[go_sem]) (by simp only[go_sem]) (by simp only[go_sem]) (by rw[hrl];omega) hsz2 (qcA (by simp only[go_sem,htd2])) (by rw[wx,hyl];omega) ?_ ?_)
  ·have a1:(cr (ints (l.take k)++[li n]::Z.drop (k+1))).take (k+1)=cr (ints (l.take k)++[[li n]]):=by
    have e1:ints (l.take k)++[li n]::Z.drop (k+1)=(ints (l.take k)++[[li n]])++Z.drop (k+1):=by simp
    rw[e1,qog,List.take_left' (by rw[wA,we,hkt];rfl)]
   have a2:(cr (ints (l.drop k))).take (l.length+1 - (k+1))=cr (ints (l.drop k)):=wO (by rw[hyl];omega)
   have a3:(cr (ints (l.take k)++[li n]::Z.drop (k+1))).drop (k+1+(l.length - k))= []:=yE (by rw[hrl];omega)
   rw[a1,a2,a3,wM,<-zL]
   congr 1
   simp
  simp only[go_sem]
  refine qae 37 1 (ints (l.take k++n::l.drop k)) [] (by decide) (by simp only[go_sem,wM];rfl) (fun r hr=>by obtain⟨y,_,rfl⟩:=wI.1 hr;rfl) ?_
  have hXl:(ints (l.take k++n::l.drop k)).length=l.length+1:=by rw[we,wA,wz,hkt,hdl];omega
  have htk:(ints (l.take k++n::l.drop k)).take (l.length+1)=ints (l.take k++n::l.drop k):=wO (by omega)
  have hle:l.length+1<=(l.take k++n::l.drop k).length:=by rw[we]at hXl;omega
  repeat' first|(first|refine kcc ?_|refine kjj kq36 ?_|apply kU);simp only[go_sem]|apply kh<;>intro qa
  apply kF;simp only[go_sem,hle,htk]
theorem qpT{l:List Pst}{role:Int}{txt:ByteArray}{id:Int}(h0: ¬(role<1\/role>5))(hb:QQ l role txt=false):putP l role txt id=l.take (qz l role txt)++⟨role,txt,[id]⟩::l.drop (qz l role txt):=by
 have hpl:=qcU l role txt
 unfold QQ at hb
 unfold putP
 rw[if_neg h0]
 generalize qz l role txt=k at*
 cases h:l[k]? with
 | none=>
  have:=List.getElem?_eq_none_iff.1 h
  have e:k=l.length:=by omega
  simp[e]
 | some p=>rw[h]at hb;simp only at hb ⊢;rw[hb];rfl
theorem qpS{l:List Pst}{role:Int}{txt:ByteArray}{id:Int}{p:Pst}(h0: ¬(role<1\/role>5))(hp:l[qz l role txt]? =some p)(he:pEq p role txt=true):putP l role txt id=l.set (qz l role txt) { p with ids:=qaA p.ids id }:=by
 unfold putP
 rw[if_neg h0,hp]
 simp only[he,if_true]
def pstZ:List T:=[.c (li 0),.c (ls ⟨#[]⟩),.ex 1 []]
theorem qca:pstZ.length=3:=rfl
theorem qh1(f:Ren)(n:Nat):Dl.Rows.tr f (List.replicate n pstZ)=List.replicate n pstZ:=by
 unfold Dl.Rows.tr
 rw[List.map_replicate]
 rfl
theorem put_D(l:List Pst)(role:Int)(txt:ByteArray)(id:Int)(hl:l.length<=100000)(hi: ∀p∈l,p.ids.length<=100000):DCalls pP 40 [.agg [.c (.sl 3 (l.map Pst.enc))],dv (li role),dv (ls txt),dv (li id)] (.agg [.c (.sl 3 ((putP l role txt id).map Pst.enc))]):=by
 have qK:=kmax
 have hP:=qm1 l role txt (by omega)
 by_cases h0:role<1\/role>5
 ·unfold putP
  rw[if_pos h0]
  refine kd (N:=79) (rs:=[.cell 8 53]) Tryz.func40 ?_
  cases c1:decide (role<1)
  ·have c2:decide ((5:Int)<role)=true:=by simp at c1 ⊢;omega
   repeat' first|(first|refine kcc ?_|refine kjj kq23 ?_|apply kU|apply kF);simp +decide only[go_sem,c1,c2]|apply kh<;>intro qa
  ·repeat' first|(first|refine kcc ?_|refine kjj kq23 ?_|apply kU|apply kF);simp +decide only[go_sem,c1]|apply kh<;>intro qa
 ·have hins:=fun hb=>qpT (l:=l) (role:=role) (txt:=txt) (id:=id) h0 hb
  have hst:=fun(p:Pst) hp he=>qpS (l:=l) (role:=role) (txt:=txt) (id:=id) (p:=p) h0 hp he
  have c1:decide (role<1)=false:=by simp;omega
  have c2:decide ((5:Int)<role)=false:=by simp;omega
  have hpl:=qcU l role txt
  have hpb:QQ l role txt=match l[qz l role txt]? with|some p=>pEq p role txt|none=>false:=rfl
  generalize hk:qz l role txt=k at*
  generalize QQ l role txt=fnd at*
  cases fnd
  ·rw[hins rfl]
   have hkt:(l.take k).length=k:=by rw[wx];omega
   have hdl:(l.drop k).length=l.length - k:=yc
   have hwl:=qt l.length (by omega)
   have hwk:=qt k (by omega)
   have hb:Tryz.t133.bytes*(l.length+1)<=281474976710656:=by
    have h1:Tryz.t133.bytes<=100:=by decide
    have:=Nat.mul_le_mul h1 (show l.length+1<=100001 by omega)
    omega
   refine kd (N:=79) (rs:=[.cell 8 53]) Tryz.func40 ?_
   repeat' first|(first|refine kcc ?_|refine kjj kq23 ?_|refine kx hP ?_|apply kU);simp +decide only[go_sem,c1,c2,hwl]|apply kh<;>intro qa
   refine StepC.mk (Step.makeSlice (n:=l.length+1) (e:=133) (z:=pstZ) (inf:=Tryz.t133) (kx:=.i64) (ky:=.i64) rfl rfl (by kernel_rfl) (by kernel_rfl) (by kernel_rfl) (by decide) (by kernel_rfl) (by simp +decide only[go_sem]) (by simp +decide only[go_sem]) (by simp[pstZ];omega) hb (by omega) ?_)
   have hRl:(List.replicate (l.length+1) pstZ).length=l.length+1:=by simp
   have hRz:RowsSz 3 (List.replicate (l.length+1) pstZ):=fun r hr=>by rw[yb hr];rfl
   have hRt: ∀f,Dl.Rows.tr f (List.replicate (l.length+1) pstZ)=List.replicate (l.length+1) pstZ:=fun f=>qh1 f _
   generalize List.replicate (l.length+1) pstZ=R at*
   have hRt2: ∀f j,Dl.Rows.tr f (R.drop j)=R.drop j:=fun f j=>by
    have:=hRt f;unfold Dl.Rows.tr at this ⊢;rw[ji,this]
   obtain⟨z,hz⟩: ∃z,R[k]? =some z:=⟨_,wc (by omega)⟩
   have hdz:R.drop k=z::R.drop (k+1):=zK hz
   have hz1:z.length=3:=hRz z (wl hz)
   obtain⟨z0,z1,z2,rfl⟩: ∃a b c,z= [a,b,c]:=by
    match z,hz1 with
    | [a,b,c],_=>exact⟨a,b,c,rfl⟩
   have hta:List.take k (l.map Pst.enc)=(l.take k).map Pst.enc:=List.map_take.symm
   have htd:List.drop k (l.map Pst.enc)=(l.drop k).map Pst.enc:=ji.symm
   have hkl':k<=l.length:=by omega
   have hk0:=ye k
   have hk1:k<l.length+1:=by omega
   have hcl:(cr ((l.take k).map Pst.enc)).length=k:=by rw[qW,we,hkt]
   have qby:(cr ((l.take k).map Pst.enc)++[z0,z1,z2]::R.drop (k+1))[k]? =some [z0,z1,z2]:=by
    rw[wG (by omega),hcl,yM];rfl
   have Qu: ∀y:List T,(cr ((l.take k).map Pst.enc)++[z0,z1,z2]::R.drop (k+1)).set k y=cr ((l.take k).map Pst.enc)++y::R.drop (k+1):=fun y=>by
    rw[je _ _ (by omega),hcl,yM];rfl
   simp +decide only[go_sem]
   repeat' first|(first|refine kcc ?_|refine kjj kq23 ?_|apply kU);simp +decide only[go_sem,hkl',hk0,hta]|apply kh<;>intro qa
   refine StepC.mk (Step.copyTo (n:=53) (sz:=3) (i:=0) (len:=l.length+1) (cap:=l.length+1) (ys:=cr ((l.take k).map Pst.enc)) (rows:=R) (rows':=cr ((l.take k).map Pst.enc)++[z0,z1,z2]::R.drop (k+1)) (c:=k) rfl (by simp +decide only[go_sem]) (by simp +decide only[go_sem,qca]) (by simp +decide only[go_sem,hRt]) (by omega) hRz (qcA (by simp +decide only[go_sem])) (by rw[wx,hcl];omega) (by rw[wg,wE,yr,wO (by omega),<-hdz]) ?_)
   simp +decide only[go_sem]
   repeat' first|(first|refine kcc ?_|refine kjj kq23 ?_|apply kU);simp +decide only[go_sem,hk1,qby,Qu,hwk,hkl',qca]|apply kh<;>intro qa
   have hyl:(cr ((l.drop k).map Pst.enc)).length=l.length - k:=by rw[qW,we,hdl]
   obtain⟨nw,hnw⟩: ∃nw:List T,nw= [.c (li role),.c (ls txt),.ex 1 [[li id]]]:=⟨_,rfl⟩
   have hnl:nw.length=3:=by rw[hnw];rfl
   have hrl:(cr ((l.take k).map Pst.enc)++nw::R.drop (k+1)).length=l.length+1:=by rw[wA,hcl,wz,yc,hRl];omega
   have hsz2:RowsSz 3 (cr ((l.take k).map Pst.enc)++nw::R.drop (k+1)):=fun r hr=>by
    rcases wo.1 hr with hr|hr
    ·exact qhe (sz:=3) (fun r hr=>by obtain⟨y,_,rfl⟩:=wI.1 hr;rfl) r hr
    ·rcases ws.1 hr with hr|hr
     ·rw[hr];exact hnl
     ·exact hRz r (ym hr)
   rw[<-hnw]
   have htd2:List.drop k (List.take l.length (l.map Pst.enc))=(l.drop k).map Pst.enc:=by rw[wO (by simp)];exact htd
   refine StepC.mk (Step.copyTo (n:=53) (sz:=3) (i:=k+1) (len:=l.length+1 - (k+1)) (cap:=l.length+1 - (k+1)) (ys:=cr ((l.drop k).map Pst.enc)) (rows:=cr ((l.take k).map Pst.enc)++nw::R.drop (k+1)) (rows':=cr ((l.take k).map Pst.enc)++nw::cr ((l.drop k).map Pst.enc)) (c:=l.length - k) rfl (by simp +decide only[go_sem]) (by simp +decide only[go_sem]) (by simp +decide only[go_sem]) (by rw[hrl];omega) hsz2 (qcA (by simp +decide only[go_sem,htd2])) (by rw[wx,hyl];omega) ?_ ?_)
   ·have a1:(cr ((l.take k).map Pst.enc)++nw::R.drop (k+1)).take (k+1)=cr ((l.take k).map Pst.enc)++[nw]:=by
     have e1:cr ((l.take k).map Pst.enc)++nw::R.drop (k+1)=(cr ((l.take k).map Pst.enc)++[nw])++R.drop (k+1):=by simp
     rw[e1,List.take_left' (by rw[wA,hcl];rfl)]
    have a2:(cr ((l.drop k).map Pst.enc)).take (l.length+1 - (k+1))=cr ((l.drop k).map Pst.enc):=wO (by rw[hyl];omega)
    have a3:(cr ((l.take k).map Pst.enc)++nw::R.drop (k+1)).drop (k+1+(l.length - k))= []:=yE (by rw[hrl];omega)
    rw[a1,a2,a3,wM];simp
   simp +decide only[go_sem]
   repeat' first|(first|refine kcc ?_|refine kjj kq23 ?_|apply kU);simp +decide only[go_sem]|apply kh<;>intro qa
   have hcx: ∀xs:List (List C),(cr xs).map (List.map T.exc)=cr xs:=fun xs=>by
    unfold cr;rw[yw];refine yC fun r _=>?_
    simp only[Function.comp_apply,yw];rfl
   have hex:(cr ((l.take k).map Pst.enc)++nw::cr ((l.drop k).map Pst.enc)).map (List.map T.exc)=cr ((l.take k++⟨role,txt,[id]⟩::l.drop k).map Pst.enc):=by
    rw[wJ,wt,hcx,hcx,wJ,wt,zL,cr_cons,hnw];rfl
   refine qdo 53 (rows:=cr ((l.take k).map Pst.enc)++nw::cr ((l.drop k).map Pst.enc)) (by simp +decide only[go_sem]) ?_
   rw[hex]
   refine qae 53 3 ((l.take k++⟨role,txt,[id]⟩::l.drop k).map Pst.enc) [] (by decide) (by simp +decide only[go_sem,wM];rfl) (fun r hr=>by obtain⟨y,_,rfl⟩:=wI.1 hr;rfl) ?_
   have hXl:(l.take k++(⟨role,txt,[id]⟩:Pst)::l.drop k).length=l.length+1:=by rw[wA,wz,hkt,hdl];omega
   have htk:((l.take k++(⟨role,txt,[id]⟩:Pst)::l.drop k).map Pst.enc).take (l.length+1)=(l.take k++(⟨role,txt,[id]⟩:Pst)::l.drop k).map Pst.enc:=wO (by rw[we];omega)
   have hle:l.length+1<=(l.take k++(⟨role,txt,[id]⟩:Pst)::l.drop k).length:=by omega
   apply kF;simp +decide only[go_sem,hle,htk,ww]
  ·obtain⟨p,hp,he⟩: ∃p,l[k]? =some p/\pEq p role txt=true:=by
    cases h:l[k]? with
    | none=>rw[h]at hpb;cases hpb
    | some p=>rw[h]at hpb;exact⟨p,rfl,hpb.symm⟩
   have hkl:=(wd.1 hp).1
   rw[hst p hp he]
   have hW:=with_D p.ids id (by have:=hi p (wl hp);omega)
   have hb:Tryz.t133.bytes*l.length<=281474976710656:=by
    have:Tryz.t133.bytes<=100:=by decide
    have:=Nat.mul_le_mul this hl
    omega
   refine kd (N:=79) (rs:=[.cell 8 53]) Tryz.func40 ?_
   repeat' first|(first|refine kcc ?_|refine kjj kq23 ?_|refine kx hP ?_|apply kU);simp +decide only[go_sem,c1,c2]|apply kh<;>intro qa
   refine StepC.mk (Step.makeSlice (n:=l.length) (e:=133) (z:=pstZ) (inf:=Tryz.t133) (kx:=.i64) (ky:=.i64) rfl rfl (by kernel_rfl) (by kernel_rfl) (by kernel_rfl) (by decide) (by kernel_rfl) (by simp +decide only[go_sem]) (by simp +decide only[go_sem]) (by simp[pstZ];omega) hb (by omega) ?_)
   have hRtr:=qh1
   have hRl:(List.replicate l.length pstZ).length=l.length:=by simp
   have hRz:RowsSz 3 (List.replicate l.length pstZ):=fun r hr=>by rw[yb hr];rfl
   have hRt: ∀f,Dl.Rows.tr f (List.replicate l.length pstZ)=List.replicate l.length pstZ:=fun f=>qh1 f _
   generalize List.replicate l.length pstZ=R at*
   simp +decide only[go_sem]
   repeat' first|(first|refine kcc ?_|refine kjj kq23 ?_|apply kU);simp +decide only[go_sem]|apply kh<;>intro qa
   refine StepC.mk (Step.copyTo (n:=31) (sz:=3) (i:=0) (len:=l.length) (cap:=l.length) (ys:=cr (l.map Pst.enc)) (rows:=R) (rows':=cr (l.map Pst.enc)) (c:=l.length) rfl (by simp +decide only[go_sem]) (by simp +decide only[go_sem,qca]) (by simp +decide only[go_sem,hRt]) (by omega) hRz (qcA (by simp +decide only[go_sem])) (by rw[wx,qW,we];omega) (by rw[wg,wE,yr,wO (by rw[qW,we];omega),yE (by omega),wM]) ?_)
   simp +decide only[go_sem]
   have qby:(cr (l.map Pst.enc))[k]? =some [.c (li p.role),.c (ls p.txt),.c (.sl 1 (ints p.ids))]:=by
    unfold cr;rw[wq,wq,hp];rfl
   repeat' first|(first|refine kcc ?_|refine kjj kq23 ?_|refine kx hW ?_|apply kU);simp +decide only[go_sem,hkl,qby,qca]|apply kh<;>intro qa
   obtain⟨l2,hl2⟩: ∃l2,l2=l.set k { p with ids:=qaA p.ids id }:=⟨_,rfl⟩
   have Qu:List.set (cr (l.map Pst.enc)) k [.c (li p.role),.c (ls p.txt),.c (.sl 1 (ints (qaA p.ids id)))]=cr (l2.map Pst.enc):=by
    rw[hl2];unfold cr;rw[yZ,yZ];rfl
   have hl2l:l2.length=l.length:=by rw[hl2];simp
   have hsame:({ role:=p.role,txt:=p.txt,ids:=qaA p.ids id }:Pst)={ p with ids:=qaA p.ids id }:=rfl
   rw[hsame,<-hl2]
   rw[Qu]
   refine qae 31 3 (l2.map Pst.enc) [] (by decide) (by simp +decide only[go_sem,wM];rfl) (fun r hr=>by obtain⟨y,_,rfl⟩:=wI.1 hr;rfl) ?_
   have htk:(l2.map Pst.enc).take l.length=l2.map Pst.enc:=wO (by rw[we];omega)
   have hle:l.length<=l2.length:=by omega
   apply kF;simp +decide only[go_sem,hle,htk,ww]
theorem qpg{l:List Pst}{role:Int}{txt:ByteArray}{id:Int}(hb:QQ l role txt=false):qbl l role txt id=l:=by
 unfold QQ at hb
 unfold qbl
 split
 ·rename_i p h;rw[h]at hb;simp only at hb;rw[hb];rfl
 ·rfl
theorem qph{l:List Pst}{role:Int}{txt:ByteArray}{id:Int}{p:Pst}(hp:l[qz l role txt]? =some p)(he:pEq p role txt=true):qbl l role txt id=l.take (qz l role txt)++(if(p.ids.filter fun n=>n !=id).length>0 then [⟨role,txt,p.ids.filter fun n=>n !=id⟩]else [])++l.drop (qz l role txt+1):=by
 unfold qbl
 rw[hp]
 simp only[he,if_true]
theorem take_D(l:List Pst)(role:Int)(txt:ByteArray)(id:Int)(hl:l.length<=100000)(hi: ∀p∈l,p.ids.length<=100000):DCalls pP 39 [.agg [.c (.sl 3 (l.map Pst.enc))],dv (li role),dv (ls txt),dv (li id)] (.agg [.c (.sl 3 ((qbl l role txt id).map Pst.enc))]):=by
 have qK:=kmax
 have hP:=qm1 l role txt (by omega)
 have hno:=qpg (l:=l) (role:=role) (txt:=txt) (id:=id)
 have hat:=fun(p:Pst) hp he=>qph (l:=l) (role:=role) (txt:=txt) (id:=id) (p:=p) hp he
 have hpl:=qcU l role txt
 have hpb:QQ l role txt=match l[qz l role txt]? with|some p=>pEq p role txt|none=>false:=rfl
 generalize hk:qz l role txt=k at*
 generalize QQ l role txt=fnd at*
 cases fnd
 ·rw[hno rfl]
  refine kd (N:=68) (rs:=[.cell 8 53]) Tryz.func39 ?_
  repeat' first|(first|refine kcc ?_|refine kx hP ?_|apply kU|apply kF);simp +decide only[go_sem]|apply kh<;>intro qa
 ·obtain⟨p,hp,he⟩: ∃p,l[k]? =some p/\pEq p role txt=true:=by
   cases h:l[k]? with
   | none=>rw[h]at hpb;cases hpb
   | some p=>rw[h]at hpb;exact⟨p,rfl,hpb.symm⟩
  have hkl:=(wd.1 hp).1
  have hil:=hi p (wl hp)
  rw[hat p hp he]
  refine kd (N:=68) (rs:=[.cell 8 53]) Tryz.func39 ?_
  repeat' first|(first|refine kcc ?_|refine kx hP ?_|apply kU);simp +decide only[go_sem,hp,Pst.enc,wB]|apply kh<;>intro qa
  refine zl 11 11 1 (by simp +decide only[go_sem]) ?_
  refine qj p.ids (fun i=>kn 68 [(1,dv (li role)),(2,dv (ls txt)),(3,dv (li id)),(4,.one (.bx 4 1 0 0)),(8,.one (.bx 8 1 0 0)),(9,dv (li k)),(11,.one (.own 11 1 (ints ((p.ids.take i).filter fun n=>n !=id)))),(30,dv (.sl 1 (ints p.ids))),(31,dv (li p.ids.length)),(32,dv (li i))] (ml [(4,[[.c (.sl 3 (l.map Pst.enc))]]),(8,[[.ex 3 []]])])) (by omega) (kM rfl (by simp +decide only[go_sem,wg,yi,wn]) (by simp +decide only[go_sem])) ?_ ?_
  ·intro i x hx hxm hxk htx Qj hwi
   have hx':=qp hx
   rw[qZ _ htx]
   have hql:((p.ids.take i).filter fun n=>n !=id).length<=100000:=by
    have h1:=wC (fun n=>n !=id) (p.ids.take i)
    have h2:(p.ids.take i).length<=p.ids.length:=by rw[wx];omega
    omega
   generalize (p.ids.take i).filter (fun n=>n !=id)=q at*
   have hb8:((q.length+1)*8<=140737488355328)=True:=eq_true (by omega)
   cases h1:x !=id
   ·repeat' first|(first|refine kcc ?_|apply kU);simp +decide only[go_sem,Qj,hwi,hx',h1]|apply kh<;>intro qa
    exact kmm
   ·repeat' first|(first|refine kcc ?_|apply kU);simp +decide only[go_sem,Qj,hwi,hx',h1,hb8]|apply kh<;>intro qa
    exact kM rfl (by simp +decide only[go_sem,wJ,wt,wn]) (by simp +decide only[go_sem])
  ·intro Qj
   rw[wh]
   generalize p.ids.filter (fun n=>n !=id)=F at*
   refine qw 11 (dv (.sl 1 (ints F))) (by simp +decide only[go_sem]) ?_
   have hkl':k<=l.length:=by omega
   have hk0:=ye k
   repeat' first|(first|refine kcc ?_|apply kU);simp +decide only[go_sem,Qj,hkl',hk0]|apply kh<;>intro qa
   refine⟨by simp;omega,?_⟩
   have hta:List.take k (l.map Pst.enc)=(l.take k).map Pst.enc:=List.map_take.symm
   have htd:List.drop (k+1) (l.map Pst.enc)=(l.drop (k+1)).map Pst.enc:=ji.symm
   rw[hta]
   have hkt:(l.take k).length=k:=by rw[wx];omega
   have hdl:(l.drop (k+1)).length=l.length - (k+1):=yc
   have hwk:=qt k (by omega)
   have hk1:k+1<=l.length:=by omega
   have htd2:List.drop (k+1) (List.take l.length (l.map Pst.enc))=(l.drop (k+1)).map Pst.enc:=by rw[wO (by simp)];exact htd
   by_cases hF:F.length>0
   ·rw[if_pos hF]
    have t1:decide ((0:Int)<(F.length:Int))=true:=decide_eq_true (by omega)
    repeat' first|(first|refine kcc ?_|apply kU);simp +decide only[go_sem,t1,hkt]|apply kh<;>intro qa
    refine⟨by omega,?_⟩
    repeat' first|(first|refine kcc ?_|apply kU);simp +decide only[go_sem,hwk,hk1,htd2,hdl]|apply kh<;>intro qa
    refine⟨by simp;omega,?_⟩
    refine qdo 8 (by simp +decide only[go_sem];rfl) ?_
    apply kF;simp +decide only[go_sem]
    simp[Pst.enc]
   ·rw[if_neg hF]
    have t1:decide ((0:Int)<(F.length:Int))=false:=decide_eq_false (by omega)
    repeat' first|(first|refine kcc ?_|apply kU);simp +decide only[go_sem,t1,hwk,hk1,htd2,hdl,hkt]|apply kh<;>intro qa
    refine⟨by omega,?_⟩
    refine qdo 8 (by simp +decide only[go_sem];rfl) ?_
    apply kF;simp +decide only[go_sem]
    simp
end Go.Proofs.YtaaodllggdjhiaaGreatDoor
namespace Go.Proofs.YtaaodllggdjhiaaGreatDoor
open Go.Dl
def vE(d:Dcm):Nat->Int->List Int->List Int
 | 0,_,S=>S
 | f+1,id,S=>if(getN d.notes id).2=false\/inL S id=true then S
  else if Zn d.tiers (getN d.notes id).1.tier=true then(d.kids (getN d.notes id).1.par (getN d.notes id).1.tier).foldl (fun S k=>vE d f k S) (vE d f (getN d.notes id).1.par (S++[id]))
  else vE d f (getN d.notes id).1.par (S++[id])
def zy(d:Dcm)(S:List Int):Nat:=(d.notes.filter fun n=> !inL S n.id).length
def Qi(d:Dcm)(seen:Int->Bool)(l:List Nte):List Int:=l.foldl (fun S n=>if seen n.id=true then vE d d.notes.length n.id S else S) []
theorem ZU{d:Dcm}{f:Nat}{id:Int}{S:List Int}(h:(getN d.notes id).2=false\/inL S id=true):vE d f id S=S:=by
 cases f with
 | zero=>rfl
 | succ f=>rw[vE,if_pos h]
theorem qik(S:List Int)(x y:Int):inL (S++[x]) y=(inL S y||x==y):=by simp[inL]
theorem z8(l:List Nte)(id:Int):(∃n∈l,n.id=id/\getN l id=(n,true))\/((∀n∈l,n.id≠id)/\getN l id=(noNte,false)):=by
 unfold getN
 cases h:l.find? (fun n=>n.id==id)with
 | none=>exact .inr ⟨qg1 h,rfl⟩
 | some n=>exact .inl ⟨n,(zQ h).1,(zQ h).2,rfl⟩
theorem qdk{α:Type}{p q:α->Bool}(hpq: ∀x,p x=true->q x=true): ∀l:List α,(l.filter p).length<=(l.filter q).length
 | []=>wv _
 | y::l=>by
  have:=qdk hpq l
  by_cases hp:p y=true
  ·rw[yK hp,yK (hpq y hp)];simpa using this
  ·rw[ja hp]
   by_cases hq:q y=true
   ·rw[yK hq,wz];omega
   ·rw[ja hq];exact this
theorem qqy(d:Dcm){S S':List Int}(h: ∀x,inL S x=true->inL S' x=true):zy d S'<=zy d S:=by
 unfold zy
 refine qdk (fun n hn=>?_) _
 cases hs:inL S n.id
 ·rfl
 ·rw[h _ hs]at hn;exact hn
theorem qg2{α:Type}{p q:α->Bool}(hpq: ∀x,p x=true->q x=true): ∀{l:List α} {x:α},x∈l->p x=false->q x=true->(l.filter p).length<(l.filter q).length
 | y::l,x,hx,h1,h2=>by
  have hle:=qdk hpq l
  rcases ws.1 hx with rfl|hx
  ·rw[ja (by simp[h1]),yK h2,wz];omega
  ·have:=qg2 hpq hx h1 h2
   by_cases hp:p y=true
   ·rw[yK hp,yK (hpq y hp)];simpa using this
   ·rw[ja hp]
    by_cases hq:q y=true
    ·rw[yK hq,wz];omega
    ·rw[ja hq];exact this
theorem qci(d:Dcm){S:List Int}{n:Nte}(hn:n∈d.notes)(h:inL S n.id=false):zy d (S++[n.id])<zy d S:=by
 unfold zy
 refine qg2 (fun m hm=>?_) hn (by simp[qik]) (by simp[h])
 rw[qik]at hm
 cases hs:inL S m.id
 ·rfl
 ·rw[hs]at hm;simp at hm
structure GrowM(d:Dcm)(S S':List Int):Prop where
 sub: ∀x,inL S x=true->inL S' x=true
 len:S'.length+zy d S'<=S.length+zy d S
theorem GrowM.refl(d:Dcm)(S:List Int):GrowM d S S:=⟨fun _ h=>h,wv _⟩
theorem GrowM.trans{d:Dcm}{a b c:List Int}(h:GrowM d a b)(k:GrowM d b c):GrowM d a c:=⟨fun x hx=>k.sub x (h.sub x hx),wD k.len h.len⟩
theorem GrowM.free{d:Dcm}{a b:List Int}(h:GrowM d a b):zy d b<=zy d a:=qqy d h.sub
theorem qn0(d:Dcm){S:List Int}{n:Nte}(hn:n∈d.notes)(h:inL S n.id=false):GrowM d S (S++[n.id]):=
 ⟨fun x hx=>by rw[qik,hx];rfl,by have:=qci d hn h;simp;omega⟩
theorem QW{d:Dcm}{g:List Int->Int->List Int}(hg: ∀S x,GrowM d S (g S x)): ∀(xs:List Int) (S:List Int),GrowM d S (xs.foldl g S)
 | [],S=>GrowM.refl d S
 | x::xs,S=>(hg S x).trans (QW hg xs _)
theorem qdT(d:Dcm): ∀(f:Nat) (id:Int) (S:List Int),GrowM d S (vE d f id S)
 | 0,_,S=>GrowM.refl d S
 | f+1,id,S=>by
  by_cases h:(getN d.notes id).2=false\/inL S id=true
  ·rw[ZU h];exact GrowM.refl d S
  ·rw[vE,if_neg h]
   rcases z8 d.notes id with⟨n,hn,e,hg⟩|⟨_,hg⟩
   rotate_left
   ·exact absurd (.inl (by rw[hg])) h
   rw[hg];subst e
   have h1:GrowM d S (S++[n.id]):=qn0 d hn (by cases hs:inL S n.id<;>first|rfl|exact absurd (.inr hs) h)
   have h2:=h1.trans (qdT d f n.par (S++[n.id]))
   split
   ·exact h2.trans (QW (fun S k=>qdT d f k S) _ _)
   ·exact h2
theorem Za(d:Dcm)(S:List Int):Onward d S S:=fun a _ h1 h2=>absurd h1 h2
theorem inL_in{S:List Int}{x:Int}:x∈S↔inL S x=true:=inL_mem.symm
theorem Onward.trans{d:Dcm}{a b c:List Int}(h:Onward d a b)(k:Onward d b c)(hbc: ∀x∈b,x∈c):Onward d a c:=fun n hn h1 h2=>by
 by_cases hb:n.id∈b
 ·obtain⟨g1,g2⟩:=h n hn hb h2
  exact⟨fun m hm e=>hbc _ (g1 m hm e),fun m hm e1 e2 e3=>hbc _ (g2 m hm e1 e2 e3)⟩
 ·exact k n hn h1 hb
theorem GrowM.mem{d:Dcm}{a b:List Int}(h:GrowM d a b): ∀x∈a,x∈b:=fun x hx=>inL_in.2 (h.sub x (inL_in.1 hx))
theorem mark_on{d:Dcm}(W:WfD d): ∀(f:Nat) (id:Int) (S:List Int),zy d S<=f->Onward d S (vE d f id S)/\((∃n∈d.notes,n.id=id)->id∈vE d f id S):=by
 intro f
 induction f with
 | zero=>
  intro id S hf
  refine⟨Za d S,fun⟨n,hn,e⟩=>?_⟩
  show id∈S
  rw[inL_in]
  cases hs:inL S id
  ·exfalso
   unfold zy at hf
   have h0:=yh.1 (Nat.le_zero.1 hf)
   have:n∈d.notes.filter fun n=> !inL S n.id:=wQ.2 ⟨hn,by rw[e,hs];rfl⟩
   rw[h0]at this;cases this
  ·rfl
 | succ f ih=>
  intro id S hf
  by_cases h:(getN d.notes id).2=false\/inL S id=true
  ·rw[ZU h]
   refine⟨Za d S,fun⟨n,hn,e⟩=>?_⟩
   rcases h with h|h
   ·rw[<-e,W.get hn]at h;cases h
   ·exact inL_in.2 h
  ·rw[vE,if_neg h]
   rcases z8 d.notes id with⟨n,hn,e,hg⟩|⟨_,hg⟩
   rotate_left
   ·exact absurd (.inl (by rw[hg])) h
   rw[hg];subst e
   have hns:inL S n.id=false:=by cases hs:inL S n.id<;>first|rfl|exact absurd (.inr hs) h
   have h0:zy d (S++[n.id])<=f:=by have:=qci d hn hns;omega
   obtain⟨h1,h2⟩:=ih n.par (S++[n.id]) h0
   have h3:=qdT d f n.par (S++[n.id])
   generalize vE d f n.par (S++[n.id])=S1 at*
   have hfold: ∀(xs:List Int) (S1:List Int),zy d S1<=f->Onward d S1 (xs.foldl (fun S k=>vE d f k S) S1)/\∀k∈xs,(∃m∈d.notes,m.id=k)->k∈xs.foldl (fun S k=>vE d f k S) S1:=by
    intro xs
    induction xs with
    | nil=>exact fun S1 _=>⟨Za d S1,fun k hk=>by cases hk⟩
    | cons x xs ihx=>
     intro S1 hS
     have g1:=ih x S1 hS
     have g2:=qdT d f x S1
     have g3:=ihx (vE d f x S1) (wD g2.free hS)
     have g4:=QW (fun S k=>qdT d f k S) xs (vE d f x S1)
     refine⟨g1.1.trans g3.1 g4.mem,fun k hk hm=>?_⟩
     rcases ws.1 hk with rfl|hk
     ·exact g4.mem _ (g1.2 hm)
     ·exact g3.2 k hk hm
   have key: ∀S2:List Int,Onward d (S++[n.id]) S2->GrowM d S1 S2->(Zn d.tiers n.tier=true->∀k∈d.kids n.par n.tier,k∈S2)->Onward d S S2/\((∃m∈d.notes,m.id=n.id)->n.id∈S2):=by
    intro S2 g1 g2 g3
    refine⟨fun a ha ha2 ha3=>?_,fun _=>g2.mem _ (h3.mem _ (by simp))⟩
    by_cases e:a.id=n.id
    ·have ean:=W.inj ha hn e
     subst ean
     refine⟨fun b hb eb=>?_,fun b hb ht hp hk=>?_⟩
     ·rw[eb];exact g2.mem _ (h2 ⟨b,hb,eb⟩)
     ·exact g3 hk b.id (wI.2 ⟨b,W.kidN_mem.2 ⟨hb,ht,hp⟩,rfl⟩)
    ·exact g1 a ha ha2 fun hm=>by
      rcases wo.1 hm with hm|hm
      ·exact ha3 hm
      ·simp at hm;exact e hm
   split
   ·rename_i hp
    have hS1:=wD h3.free h0
    obtain⟨k1,k2⟩:=hfold (d.kids n.par n.tier) S1 hS1
    have k3:=QW (fun S k=>qdT d f k S) (d.kids n.par n.tier) S1
    refine key _ (h1.trans k1 k3.mem) k3 fun _ k hk=>k2 k hk ?_
    obtain⟨m,hm,e⟩:=wI.1 hk
    exact⟨m,(W.kidN_mem.1 hm).1,e⟩
   ·rename_i hp
    exact key _ h1 (GrowM.refl d S1) fun h=>absurd h hp
theorem mark_kp{d:Dcm}(W:WfD d){seen:Int->Bool}: ∀(f:Nat) (id:Int) (S:List Int),((∃n∈d.notes,n.id=id)->IsKp d seen id)->(∀x∈S,IsKp d seen x)->∀x∈vE d f id S,IsKp d seen x:=by
 intro f
 induction f with
 | zero=>exact fun _ S _ h=>h
 | succ f ih=>
  intro id S hid hS
  by_cases h:(getN d.notes id).2=false\/inL S id=true
  ·rw[ZU h];exact hS
  ·rw[vE,if_neg h]
   rcases z8 d.notes id with⟨n,hn,e,hg⟩|⟨_,hg⟩
   rotate_left
   ·exact absurd (.inl (by rw[hg])) h
   rw[hg];subst e
   have hk:Kp d seen n:=(hid ⟨n,hn,rfl⟩).of W hn
   have h1: ∀x∈vE d f n.par (S++[n.id]),IsKp d seen x:=ih n.par _ (fun⟨m,hm,e⟩=>⟨m,.par n m hk hm e,e⟩) fun x hx=>by
    rcases wo.1 hx with hx|hx
    ·exact hS x hx
    ·simp at hx;rw[hx];exact⟨n,hk,rfl⟩
   generalize vE d f n.par (S++[n.id])=S1 at*
   split
   ·rename_i hp
    have hkid: ∀k∈d.kids n.par n.tier,IsKp d seen k:=fun k hk2=>by
     obtain⟨m,hm,e⟩:=wI.1 hk2
     obtain⟨g1,g2,g3⟩:=W.kidN_mem.1 hm
     exact⟨m,.sib n m hk g1 g2 g3 hp,e⟩
    revert hkid
    generalize d.kids n.par n.tier=ks
    clear hg
    induction ks generalizing S1 with
    | nil=>exact fun _=>h1
    | cons k ks ihk=>
     intro hkid
     exact ihk (vE d f k S1) (ih k S1 (fun _=>hkid k (by simp)) h1) fun k' hk'=>hkid k' (by simp[hk'])
   ·exact h1
theorem qgY(d:Dcm):zy d []=d.notes.length:=by
 unfold zy
 rw[List.filter_eq_self.2 fun n _=>by simp[inL]]
theorem qek(d:Dcm)(seen:Int->Bool)(l:List Nte)(n:Nte):Qi d seen (l++[n])=if seen n.id=true then vE d d.notes.length n.id (Qi d seen l)else Qi d seen l:=by
 unfold Qi;rw[yp];rfl
theorem qgB(d:Dcm)(seen:Int->Bool)(l:List Nte):GrowM d [] (Qi d seen l):=by
 unfold Qi
 generalize hS:([]:List Int)=S
 clear hS
 induction l generalizing S with
 | nil=>exact GrowM.refl d S
 | cons n l ih=>
  refine GrowM.trans ?_ (ih _)
  show GrowM d S (if seen n.id=true then vE d d.notes.length n.id S else S)
  split
  ·exact qdT d _ _ _
  ·exact GrowM.refl d S
theorem qgC(d:Dcm)(seen:Int->Bool)(l:List Nte):zy d (Qi d seen l)<=d.notes.length:=by
 have:=(qgB d seen l).free;rw[qgY]at this;exact this
theorem qqk(d:Dcm)(seen:Int->Bool)(l:List Nte):(Qi d seen l).length+zy d (Qi d seen l)<=d.notes.length:=by
 have:=(qgB d seen l).len;rw[qgY]at this;simpa using this
theorem qnJ{d:Dcm}(W:WfD d)(seen:Int->Bool){n:Nte}(hn:n∈d.notes):inL (Qi d seen d.notes) n.id=true↔Kp d seen n:=by
 have main: ∀l:List Nte,(∀n∈l,n∈d.notes)->(∀n∈l,seen n.id=true->n.id∈Qi d seen l)/\(∀x∈Qi d seen l,IsKp d seen x)/\Onward d [] (Qi d seen l):=by
  intro l
  generalize hm:l.length=m
  induction m generalizing l with
  | zero=>
   rw[yh.1 hm]
   exact fun _=>⟨(fun n hn=>by cases hn),(fun x hx=>by cases hx),Za d []⟩
  | succ m ih=>
   intro hl
   obtain⟨ys,y,rfl⟩: ∃ys y,l=ys++[y]:=⟨l.dropLast,l.getLast (by intro e;rw[e]at hm;simp at hm),(List.dropLast_concat_getLast _).symm⟩
   obtain⟨i1,i2,i3⟩:=ih ys (by simp at hm;omega) fun n hn=>hl n (by simp[hn])
   have hy:=hl y (by simp)
   rw[qek]
   split
   ·rename_i hs
    have hf:=qgC d seen ys
    have k1:=mark_on W d.notes.length y.id (Qi d seen ys) hf
    have k2:=qdT d d.notes.length y.id (Qi d seen ys)
    refine⟨fun n hn hsn=>?_,mark_kp W _ _ _ (fun _=>⟨y,.seen y hy hs,rfl⟩) i2,i3.trans k1.1 k2.mem⟩
    rcases wo.1 hn with hn|hn
    ·exact k2.mem _ (i1 n hn hsn)
    ·simp at hn;rw[hn];exact k1.2 ⟨y,hy,rfl⟩
   ·rename_i hs
    refine⟨fun n hn hsn=>?_,i2,i3⟩
    rcases wo.1 hn with hn|hn
    ·exact i1 n hn hsn
    ·simp at hn;rw[hn]at hsn;exact absurd hsn hs
 obtain⟨m1,m2,m3⟩:=main d.notes fun _ h=>h
 rw[<-inL_in]
 exact qla W m1 m2 m3 hn
theorem qfQ{d:Dcm}(W:WfD d)(seen:Int->Bool):(d.notes.filter fun n=>inL (Qi d seen d.notes) n.id).map (vr seen)=(qah d seen).notes:=by
 show _=(Z5 d seen).map (vr seen)
 congr 1
 unfold Z5
 refine jt fun n hn=>?_
 rw[yH,qnJ W seen hn]
 simp
end Go.Proofs.YtaaodllggdjhiaaGreatDoor
namespace Go.Proofs.YtaaodllggdjhiaaGreatDoor
open Go.Dl S Go.Maps
attribute [local irreducible] DW DCalls ECalls qo wk IW MW StepM vL MCalls
def Dcm.enc(d:Dcm):List C:=[li d.rc.id,ls d.rc.name,li d.rc.len,li d.rc.day,.sl 1 (ints d.rc.sp),.sl 4 (d.tiers.map Tir.enc),.sl 7 (d.notes.map Nte.enc)]
def oneM(b:Nat)(m:MO):MS:=fun k=>if k=b then some m else none
noncomputable def setM(S:List Int):MO:=.mp 3 (plainElem pP 4) S.length (vA S)
theorem zb(b:Nat)(m:MO):oneM b m b=some m:=by simp[oneM]
theorem qjx(b:Nat)(m m':MO):(oneM b m).set b m'=oneM b m':=by funext k;simp only[MS.set,oneM];split<;>rfl
theorem qgw(b:Nat)(m m':MO):qan (oneM b m) (oneM b m) (oneM b m')=oneM b m':=by
 funext k;simp only[qan,oneM];by_cases h:k=b<;>simp[h]
theorem qnb{b:Nat}{S:List Int}: ∀r m,oneM b (setM S) r=some m->r≠b->¬m.on b:=fun r m h hn=>by simp[oneM,hn]at h
theorem qcb{b:Nat}{S:List Int}(M0:MS): ∀r m,oneM b (setM S) r=some m->M0 r=none->∀c,m.on c->M0 c=none:=fun r m h _ c hc=>by
 simp only[oneM]at h
 split at h
 ·injection h with h;subst h;exact hc.elim
 ·cases h
set_option maxRecDepth 100000 in
theorem qaN(S:List Int)(x:Int)(u:Value)(ps:List MemPlace)(h:plainElem pP 4 u=some ((vA S).atKey (.int .i64 x) (.lit (.bool false)),ps)):u= .bool (inL S x):=by
 rw[qjD x _ S rfl]at h
 unfold plainElem at h
 rw[Tryz.underlying4]at h
 cases u<;>simp at h
 rw[h.1]
theorem snocM(S:List Int)(x:Int):(MO.mp 3 (plainElem pP 4) (S.length+1) ((vA S).put (.int .i64 x) (.lit (.bool true))))=setM (S++[x]):=by
 unfold setM;rw[ZV,show(S++[x]).length=S.length+1 by simp]
def IdB(d:Dcm):Prop:=∀n∈d.notes,n.id<=1099511627776
theorem ql0{x:Int}(h1: -9223372036854775808<=x)(h2:x<=9223372036854775807):wfI x:=by
 show(decide _&&decide _)=true
 have e1:IntKind.i64.min= -9223372036854775808:=by decide
 have e2:IntKind.i64.max=9223372036854775807:=by decide
 rw[e1,e2];simp;exact⟨h1,h2⟩
theorem Qo{d:Dcm}(W:WfD d)(hi:IdB d){n:Nte}(hn:n∈d.notes):wfI n.id:=by
 have h1:=W.pos n hn
 have h2:=hi n hn
 exact ql0 (by omega) (by omega)
theorem wfI_par{d:Dcm}(W:WfD d)(hi:IdB d){n:Nte}(hn:n∈d.notes):wfI n.par:=by
 rcases W.par hn with⟨_,h⟩|⟨p,hp,e,_⟩
 ·rw[h];exact ql0 (by omega) (by omega)
 ·rw[<-e];exact Qo W hi hp
def qD(d:Dcm)(bm c:Nat):List T:=[.c (.pt d.enc),.c (.pt [.lit (.map (some bm))]),.bx c 1 0 0]
def ze(d:Dcm)(bm c:Nat):Mem:=ml [(c,[[.fv 70 (qD d bm c)]])]
def MrkC(d:Dcm)(bm f c:Nat)(id:Int)(S:List Int):Prop:=
 MCalls pP 70 [dv (li id),dv (.pt d.enc),dv (.pt [.lit (.map (some bm))]),.one (.bx (c+NB) 1 0 0)] (ze d bm (c+NB)) (oneM bm (setM S)) (fun r H' M'=>r= .tup []/\H'=ze d bm (c+NB)/\M'=oneM bm (setM (vE d f id S)))
theorem qid{d:Dcm}{bm c:Nat}{bx:Mem}(h:bx (c+NB)=some [[.fv 70 (qD d bm (c+NB))]]):
  ∀k r,ze d bm (c+NB+NB) k=some r->qJ bx [c+NB] k=some r:=fun k r hk=>by
 by_cases e:k=c+NB+NB
 ·subst e
  simp only[go_sem,ze,qD]at hk
  simp only[go_sem,qJ,h,qD]
  exact hk
 ·simp only[go_sem,ze,e]at hk
def qns(d:Dcm)(bm c:Nat)(id:Int)(g:Nte)(ok:Bool):DS:=kn 51 [(0,dv (li id)),(1,dv (.pt d.enc)),(2,dv (.pt [.lit (.map (some bm))])),(3,.one (.bx c 1 0 0)),(5,.one (.bx 5 7 0 0)),(6,dv (lb ok))] (ml [(c,[[.fv 70 (qD d bm c)]]),(5,[g.row])])
theorem ZT(d:Dcm)(bm c:Nat)(r:Ren)(h:r.g (c+NB)=some (c+NB)):T.trAll r (qD d bm (c+NB))=qD d bm (c+NB):=by
 simp[qD,T.trAll,T.tr,h,T.bxTo]
theorem nb5(c:Nat):(c+NB=5)=False:=eq_false (by have:=qL;omega)
theorem qjC(d:Dcm)(bm c:Nat)(S:List Int)(nx:DS->MS->Prop)(s':DS)(h1:s'.n=51)(h2:s'.bx (c+NB)=some [[.fv 70 (qD d bm (c+NB))]])(h3:s'.sl 21=dv (lb true)):
  MW pP (.cond (.tmp 21) .ret .skip) s' (oneM bm (setM S)) (qdN nx fun e s' M'=>(e= .normal\/e= .ret)/\s'.bx=ze d bm (c+NB)/\M'=oneM bm (setM S)):=by
 refine vN (kM (N:=51) (sls:=[(21,dv (lb true))]) (bxs:=[(c+NB,[[.fv 70 (qD d bm (c+NB))]])]) h1 (by simp only[go_sem,h3]) (by simp only[go_sem,h2])) ?_
 apply qP;(simp only[go_sem];rfl)
 ·intro _
  refine qc1 ?_
  simp only[go_sem]
  rfl
 ·intro h;cases h
theorem qap(d:Dcm)(hl:d.notes.length<=19)(bm f c:Nat)(id:Int)(S:List Int)(hw:wfI id)(h:(getN d.notes id).2=false\/inL S id=true):MrkC d bm f c id S:=by
 unfold MrkC
 rw[ZU h]
 have hg:=qgV d id (by omega)
 obtain⟨g,hge⟩: ∃g,g=(getN d.notes id).1:=⟨_,rfl⟩
 rw[<-hge]at hg
 generalize (getN d.notes id).2=ok at*
 simp only[Dcm.row]at hg
 refine QS (N:=51) (rs:=[]) (by kernel_rfl) Tryz.func70 rfl rfl rfl (by simp) ?_
 refine qe ?_
 refine qq (N:=51) rfl (by kernel_rfl) ?_;simp +decide only[go_sem,Dcm.enc]
 (first|refine kx hg ?_);simp +decide only[go_sem,Nte.row]
 refine vN (s':=qns d bm (c+NB) id g ok) (kM rfl (by simp +decide only[go_sem,Dcm.enc]) (by simp +decide only[go_sem,Nte.row,ze,nb5];rw[ZT _ _ _ _ (by simp[cls]),ZT _ _ _ _ (by simp[fgt,nb5])])) ?_
 refine qe ?_
 refine qe ?_
 refine qu (N:=51) rfl (by kernel_rfl) ?_
 cases ok
 ·refine qh 5 ?_;simp only[wm,wg,wj,ww];simp +decide only[go_sem,qns]
  refine qcs (b:=false) (qqw rfl (by simp +decide only[go_sem])) ?_ ?_
  ·intro h;cases h
  ·intro _
   refine qh 1 ?_;simp only[wm,wg,wj,ww];simp +decide only[go_sem]
   exact qjC d bm c S _ _ rfl (by simp +decide only[go_sem]) (by simp +decide only[go_sem])
 ·refine qh 5 ?_;simp only[wm,wg,wj,ww];simp +decide only[go_sem,qns]
  refine qcs (b:=true) (qqw rfl (by simp +decide only[go_sem])) ?_ ?_
  ·intro _
   refine StepM.lookup rfl (zb bm (setM S)) ?_ law3 Tryz.underlying77 qka (plainElem_bool Tryz.underlying4 false) ?_ (keyOf_int_mk Tryz.underlying3 hw) (qaN S id) rfl ?_
   ·simp +decide only[go_sem]
   ·simp +decide only[go_sem]
   ·rw[h.resolve_left (by decide)]
    refine qh 1 ?_;simp only[wm,wg,wj,ww];simp +decide only[go_sem]
    exact qjC d bm c S _ _ rfl (by simp +decide only[go_sem]) (by simp +decide only[go_sem])
  ·intro h;cases h
theorem qm6{d:Dcm}(W:WfD d){n:Nte}(hn:n∈d.notes): ∃t,0<=n.tier/\d.tiers[n.tier.toNat]? =some t/\Zn d.tiers n.tier=(t.kind==1):=by
 obtain⟨h0,_,t,ht⟩:=W.tier hn
 refine⟨t,h0,ht,?_⟩
 unfold Zn QL
 rw[if_pos h0,ht]
def qrq(d:Dcm)(bm c:Nat)(n:Nte):DS:=kn 51 [(0,dv (li n.id)),(1,dv (.pt d.enc)),(2,dv (.pt [.lit (.map (some bm))])),(3,.one (.bx c 1 0 0)),(5,.one (.bx 5 7 0 0)),(21,dv (lb false))] (ml [(c,[[.fv 70 (qD d bm c)]]),(5,[n.row])])
def qrp(d:Dcm)(bm c:Nat)(n:Nte):DS:=kn 51 [(1,dv (.pt d.enc)),(2,dv (.pt [.lit (.map (some bm))])),(3,.one (.bx c 1 0 0)),(5,.one (.bx 5 7 0 0))] (ml [(c,[[.fv 70 (qD d bm c)]]),(5,[n.row])])
theorem qjA(d:Dcm)(bm f c:Nat)(id:Int)(S S2:List Int)(hC:MrkC d bm f (c+NB) id S)(hS2:vE d f id S=S2){o:Oper}{s:DS}{K:DS->MS->Prop}{fo xo:Operand}{tys:Array TypeId}(ho:o.op= .call { callee:=.value fo,args:= #[xo],argTypes:=tys })(qeo: ∀x,o.dst=some x->x<1000)
  (hf:s.ev fo= .one (.fv 70 (qD d bm (c+NB)))) (hx:s.ev xo=dv (li id)) (hm:s.bx (c+NB)=some [[.fv 70 (qD d bm (c+NB))]])
  (hK:K (s.aftCall [c+NB] o.dst (.tup []) (ze d bm (c+NB+NB))) (oneM bm (setM S2))):StepM pP o s (oneM bm (setM S)) K:=by
 unfold MrkC at hC
 refine StepM.call (ns:=[c+NB]) (caps:=qD d bm (c+NB)) ho hC (by rw[hf];rfl) (DLeL.of_eq ?_) (qid hm) ⟨fun n hn=>?_,fun x h=>?_⟩ (fun _ _ h=>h) (qcb _) ?_
 ·simp only[wt,wn,hx,qD]
  simp only[go_sem]
 ·simp only[ws,yl,or_false]at hn
  rw[hn];exact Qr (yx _ _)
 ·have:=qL
  have:=qeo x h
  exact⟨fun e=>by simp only[ws,yl,or_false]at e;exact absurd e (Nat.ne_of_lt (yA this (by omega:1000<=c+NB))),this⟩
 ·rintro r H' M' ⟨rfl,rfl,rfl⟩ _
  rw[qgw,hS2]
  exact hK
theorem qny(d:Dcm)(W:WfD d)(hl:d.notes.length<=19)(hi:IdB d)(bm f:Nat)(ih: ∀c id S,wfI id->zy d S<=f->S.length+zy d S<=1000->MrkC d bm f c id S)(c:Nat)(S:List Int){n:Nte}(hn:n∈d.notes)(hin:inL S n.id=false)(hf:zy d S<=f+1)(hS:S.length+zy d S<=1000):MrkC d bm (f+1) c n.id S:=by
 have qK:=kmax
 have hgn:=W.get hn
 have hg:=qgV d n.id (by omega)
 rw[hgn]at hg
 have hmk:vE d (f+1) n.id S=if Zn d.tiers n.tier=true then(d.kids n.par n.tier).foldl (fun S k=>vE d f k S) (vE d f n.par (S++[n.id]))else vE d f n.par (S++[n.id]):=by
  rw[vE,if_neg (by rw[hgn,hin];simp),hgn]
 have hK:=qrv d n.par n.tier hl
 have hw:=Qo W hi hn
 have h0:zy d (S++[n.id])<=f:=by have:=qci d hn hin;omega
 have hS0:(S++[n.id]).length+zy d (S++[n.id])<=1000:=by have:=qci d hn hin;simp;omega
 have hC:=ih (c+NB) n.par (S++[n.id]) (wfI_par W hi hn) h0 hS0
 have hgr:=qdT d f n.par (S++[n.id])
 obtain⟨t,ht0,ht1,ht2⟩:=qm6 W hn
 unfold MrkC
 rw[hmk]
 generalize hS1:vE d f n.par (S++[n.id])=S1 at*
 simp only[Dcm.row]at hg hK
 refine QS (N:=51) (rs:=[]) (by kernel_rfl) Tryz.func70 rfl rfl rfl (by simp) ?_
 refine qe ?_
 refine qq (N:=51) rfl (by kernel_rfl) ?_;simp +decide only[go_sem,Dcm.enc]
 (first|refine kx hg ?_);simp +decide only[go_sem,Nte.row]
 refine vN (s':=qns d bm (c+NB) n.id n true) (kM rfl (by simp +decide only[go_sem,Dcm.enc]) (by simp +decide only[go_sem,Nte.row,ze,nb5];rw[ZT _ _ _ _ (by simp[cls]),ZT _ _ _ _ (by simp[fgt,nb5])])) ?_
 refine qe ?_
 refine qe ?_
 refine qu (N:=51) rfl (by kernel_rfl) ?_
 refine qh 5 ?_;simp only[wm,wg,wj,ww];simp +decide only[go_sem,qns]
 refine qcs (b:=true) (qqw rfl (by simp +decide only[go_sem])) ?_ (fun h=>by cases h)
 intro _
 refine StepM.lookup rfl (zb bm (setM S)) (by simp +decide only[go_sem]) law3 Tryz.underlying77 qka (plainElem_bool Tryz.underlying4 false) (by simp +decide only[go_sem]) (keyOf_int_mk Tryz.underlying3 hw) (qaN S n.id) rfl ?_
 rw[hin]
 refine qh 1 ?_;simp only[wm,wg,wj,ww];simp +decide only[go_sem]
 refine vN (s':=qrq d bm (c+NB) n) (km (by simp +decide only[go_sem,nb5])) ?_
 unfold qrq
 apply qP;(simp +decide only[go_sem];rfl)
 ·intro h;cases h
 intro _
 refine vK ?_
 simp +decide only[go_sem]
 refine qe ?_
 refine qu (N:=51) rfl (by kernel_rfl) ?_
 refine qh 2 ?_;simp only[wm,wg,wj,ww];simp +decide only[go_sem]
 refine qx rfl (StepM.update rfl rfl (zb bm (setM S)) (by simp +decide only[go_sem]) law3 Tryz.underlying77 (by omega) (by simp +decide only[go_sem]) (keyOf_int_mk Tryz.underlying3 hw) (by simp +decide only[go_sem]) (plainElem_bool Tryz.underlying4 true) qnb ?_)
 rw[qjx,snocM]
 simp +decide only[go_sem]
 refine qe ?_
 refine qu (N:=51) rfl (by kernel_rfl) ?_
 refine qh 3 ?_;simp only[wm,wg,wj,ww];simp +decide only[go_sem,Nte.row]
 refine qx rfl ?_
 refine qjA d bm f c n.par (S++[n.id]) S1 hC hS1 rfl (by simp) (by simp +decide only[go_sem]) (by simp +decide only[go_sem]) (by simp +decide only[go_sem]) ?_
 simp +decide only[go_sem]
 refine vN (s':=qrp d bm (c+NB) n) (kM rfl (by simp +decide only[go_sem,qd,nb5,ze,Nte.row]) (by simp +decide only[go_sem,qd,nb5,ze,qD,nb_z,Nte.row])) ?_
 refine qe ?_
 have hz0:(0:Int)<=n.tier:=ht0
 unfold qrp
 refine qq (N:=51) rfl (by kernel_rfl) ?_;simp +decide only[go_sem,Dcm.enc,Nte.row,Tir.enc,ht1,hz0]
 cases hp:Zn d.tiers n.tier
 ·rw[hp]at ht2
  rw[if_neg (by decide)]
  refine vN (kM (N:=51) (sls:=[(35,dv (lb false))]) (bxs:=[(c+NB,[[.fv 70 (qD d bm (c+NB))]])]) rfl (by simp +decide only[go_sem,<-ht2]) (by simp +decide only[go_sem])) ?_
  apply qP;(simp +decide only[go_sem];rfl)
  ·intro h;cases h
  intro _
  refine vK ?_
  simp +decide only[go_sem]
  rfl
 ·rw[hp]at ht2
  rw[if_pos rfl]
  refine qP (t:=true) (by simp +decide only[go_sem,<-ht2]) ?_ (fun h=>by cases h)
  intro _
  have hkl:=qjG d n.par n.tier
  have hkm: ∀k∈d.kids n.par n.tier,wfI k:=fun k hk=>by
   obtain⟨m,hm,e⟩:=wI.1 hk
   rw[<-e];exact Qo W hi (W.kidN_mem.1 hm).1
  generalize d.kids n.par n.tier=ks at*
  refine qe ?_
  refine qq (N:=51) rfl (by kernel_rfl) ?_;simp +decide only[go_sem]
  (first|refine kx hK ?_);simp +decide only[go_sem,Nte.row]
  refine vh ?_
  refine qef ks (fun k (_:Unit)=>kn 51 [(3,.one (.bx (c+NB) 1 0 0)),(41,dv (.sl 1 (ints ks))),(42,dv (li ks.length)),(43,dv (li k))] (ml [(c+NB,[[.fv 70 (qD d bm (c+NB))]])])) (fun k _=>oneM bm (setM ((ks.take k).foldl (fun S k=>vE d f k S) S1))) (fun _ _=>True) () (by omega) (kmm) rfl trivial ?_ ?_
  ·intro k x _ hx hk hm htk hlt hw1 _
   have hx':=qp hx
   have hg2:=QW (fun S k=>qdT d f k S) (ks.take k) S1
   have hfr:=hg2.free
   have hfr1:=hgr.free
   have hln:=hg2.len
   have hln1:=hgr.len
   rw[htk,yp,w6,w9]
   generalize (ks.take k).foldl (fun S k=>vE d f k S) S1=cur at*
   have hC2:=ih (c+NB) x cur (hkm x hm) (by omega) (by omega)
   refine qe ?_
   refine qq (N:=51) rfl (by kernel_rfl) ?_;simp +decide only[go_sem,hlt]
   refine qe ?_
   apply qP;(simp +decide only[go_sem,hlt];rfl)
   ·intro _
    refine vK ?_
    simp +decide only[go_sem]
    refine qe ?_
    refine vh ?_
    refine qe ?_
    refine qq (N:=51) rfl (by kernel_rfl) ?_;simp +decide only[go_sem,hx']
    refine qu (N:=51) rfl (by kernel_rfl) ?_
    refine qh 2 ?_;simp only[wm,wg,wj,ww];simp +decide only[go_sem]
    refine qx rfl ?_
    refine qjA d bm f c x cur _ hC2 rfl rfl (by simp) (by simp +decide only[go_sem]) (by simp +decide only[go_sem]) (by simp +decide only[go_sem]) ?_
    simp +decide only[go_sem]
    refine qq (N:=51) rfl (by kernel_rfl) ?_;simp +decide only[go_sem,hw1]
    exact⟨(),kM rfl (by simp +decide only[go_sem,qd,ze]) (by simp +decide only[go_sem,qd,nb5,ze,qD,nb_z])⟩
   ·intro h;cases h
  ·intro _ hlt _
   rw[wh]
   refine qe ?_
   refine qq (N:=51) rfl (by kernel_rfl) ?_;simp +decide only[go_sem,hlt]
   refine qe ?_
   apply qP;(simp +decide only[go_sem,hlt];rfl)
   ·intro h;cases h
   ·intro _
    refine qbv ?_
    simp +decide only[go_sem]
    rfl
theorem mark_C(d:Dcm)(W:WfD d)(hl:d.notes.length<=19)(hi:IdB d)(bm:Nat): ∀(f c:Nat) (id:Int) (S:List Int),wfI id->zy d S<=f->S.length+zy d S<=1000->MrkC d bm f c id S:=by
 intro f
 induction f with
 | zero=>
  intro c id S hw hf hS
  refine qap d hl bm 0 c id S hw ?_
  rcases z8 d.notes id with⟨n,hn,e,hg⟩|⟨_,hg⟩
  ·refine .inr ?_
   cases hs:inL S id
   ·exfalso
    unfold zy at hf
    have h0:=yh.1 (Nat.le_zero.1 hf)
    have:n∈d.notes.filter fun n=> !inL S n.id:=wQ.2 ⟨hn,by rw[e,hs];rfl⟩
    rw[h0]at this;cases this
   ·rfl
  ·exact .inl (by rw[hg])
 | succ f ih=>
  intro c id S hw hf hS
  rcases z8 d.notes id with⟨n,hn,e,hg⟩|⟨_,hg⟩
  ·subst e
   cases hs:inL S n.id
   ·exact qny d W hl hi bm f ih c S hn hs hf hS
   ·exact qap d hl bm _ c n.id S hw (.inr hs)
  ·exact qap d hl bm _ c id S hw (.inl (by rw[hg]))
theorem qeP:MO.mp 3 (plainElem pP 4) 0 (.map [])=setM []:=rfl
theorem qc0(b:Nat)(m:MO):noMap.set b m=oneM b m:=by funext k;simp only[MS.set,oneM,noMap]
theorem qgv{d:Dcm}{bm:Nat}{bx:Mem}(h:bx 6=some [[.fv 70 (qD d bm 6)]]):
  ∀k r,ze d bm (6+NB) k=some r->qJ bx [6] k=some r:=fun k r hk=>by
 by_cases e:k=6+NB
 ·subst e
  simp only[go_sem,ze,qD]at hk
  simp only[go_sem,qJ,h,qD]
  exact hk
 ·simp only[go_sem,ze,e]at hk
theorem qnr(d:Dcm)(bm f:Nat)(id:Int)(S S2:List Int)(hC:MrkC d bm f 6 id S)(hS2:vE d f id S=S2){o:Oper}{s:DS}{K:DS->MS->Prop}{fo xo:Operand}{tys:Array TypeId}(ho:o.op= .call { callee:=.value fo,args:= #[xo],argTypes:=tys })(qeo: ∀x,o.dst=some x->x<1000/\x≠6)
  (hf:s.ev fo= .one (.fv 70 (qD d bm 6))) (hx:s.ev xo=dv (li id)) (hm:s.bx 6=some [[.fv 70 (qD d bm 6)]])
  (hK:K (s.aftCall [6] o.dst (.tup []) (ze d bm (6+NB))) (oneM bm (setM S2))):StepM pP o s (oneM bm (setM S)) K:=by
 unfold MrkC at hC
 refine StepM.call (ns:=[6]) (caps:=qD d bm 6) ho hC (by rw[hf];rfl) (DLeL.of_eq ?_) (qgv hm) ⟨fun n hn=>?_,fun x h=>?_⟩ (fun _ _ h=>h) (qcb _) ?_
 ·simp only[wt,wn,hx,qD]
  simp only[go_sem]
 ·simp only[ws,yl,or_false]at hn
  rw[hn];decide
 ·have:=qeo x h
  exact⟨fun e=>by simp only[ws,yl,or_false]at e;exact this.2 e,this.1⟩
 ·rintro r H' M' ⟨rfl,rfl,rfl⟩ _
  rw[qgw,hS2]
  exact hK
theorem kept_C(d:Dcm)(W:WfD d)(hl:d.notes.length<=19)(hi:IdB d)(sp:List Spn)(seen:Int->Bool)(hSeen: ∀id,DCalls pP 29 [.agg d.row,dv (.sl 2 (spns sp)),dv (li id)] (dv (lb (seen id)))):
  MCalls pP 28 [.agg d.row,dv (.sl 2 (spns sp))] qc noMap (fun r H' M'=>∃bm,r=mpD bm/\H'=qc/\M'=oneM bm (setM (Qi d seen d.notes))):=by
 have qK:=kmax
 refine QS (N:=29) (rs:=[.tmp 4]) (by kernel_rfl) Tryz.func28 rfl rfl rfl (by simp) ?_
 refine qe ?_
 refine qq (N:=29) rfl (by kernel_rfl) ?_;simp only[go_sem,Dcm.row]
 refine qe ?_
 refine qu (N:=29) rfl (by kernel_rfl) ?_
 refine qx rfl ?_
 refine StepM.makeMap rfl 3 (plainElem pP 4) ?_
 intro bm _
 rw[qeP,qc0]
 refine qh 2 ?_;simp only[wm,wg,wj,ww];simp only[go_sem]
 refine qe ?_
 refine qq (N:=29) rfl (by kernel_rfl) ?_;simp only[go_sem]
 refine qe ?_
 refine qq (N:=29) rfl (by kernel_rfl) ?_;simp only[go_sem]
 refine qaL 2 7 [d.enc] [] (by decide) (by simp only[go_sem,Dcm.enc,wM]) (fun r hr=>by simp at hr;rw[hr];rfl) ?_
 refine qaL 5 1 [[.lit (.map (some bm))]] [] (by decide) (by simp only[go_sem,wM]) (fun r hr=>by simp at hr;rw[hr];rfl) ?_
 refine vN (kM (N:=29) (sls:=[(1,dv (.sl 2 (spns sp))),(2,dv (.pt d.enc)),(5,dv (.pt [.lit (.map (some bm))])),(6,.one (.bx 6 1 0 0))]) (bxs:=[(6,[[.fv 70 (qD d bm 6)]])]) rfl (by simp only[go_sem]) (by simp only[go_sem,qD])) ?_
 refine qe ?_
 refine qe ?_
 refine qq (N:=29) rfl (by kernel_rfl) ?_;simp only[go_sem,Dcm.enc]
 refine vh ?_
 refine ZS (fun _:Unit=>kn 29 [(5,dv (.pt [.lit (.map (some bm))]))] qc) (fun _=>oneM bm (setM (Qi d seen d.notes))) (fun _=>True) ?_ ?_
 ·refine qef d.notes (fun k (_:Unit)=>kn 29 [(1,dv (.sl 2 (spns sp))),(2,dv (.pt d.enc)),(5,dv (.pt [.lit (.map (some bm))])),(6,.one (.bx 6 1 0 0)),(12,dv (.sl 7 (d.notes.map Nte.enc))),(13,dv (li d.notes.length)),(14,dv (li k))] (ml [(6,[[.fv 70 (qD d bm 6)]])])) (fun k _=>oneM bm (setM (Qi d seen (d.notes.take k)))) (fun _ _=>True) () (by omega) (kM rfl (by simp only[go_sem,Dcm.enc]) (by simp only[go_sem])) rfl trivial ?_ ?_
  ·intro k n _ hn hk hm htk hlt hw1 _
   have hfr:=qgC d seen (d.notes.take k)
   have hln:=qqk d seen (d.notes.take k)
   rw[htk,qek]
   generalize Qi d seen (d.notes.take k)=cur at*
   have hC:=mark_C d W hl hi bm d.notes.length 6 n.id cur (Qo W hi hm) hfr (by omega)
   have hS:=hSeen n.id
   have mcT:T.trAll (fgt 8) (qD d bm 6)=qD d bm 6:=by simp only[go_sem,qD]
   simp only[Dcm.row]at hS
   refine qe ?_
   refine qq (N:=29) rfl (by kernel_rfl) ?_;simp only[go_sem,hlt]
   refine qe ?_
   apply qP;(simp only[go_sem,hlt];rfl)
   ·intro _
    refine vK ?_
    simp only[go_sem]
    refine qe ?_
    refine vh ?_
    refine qe ?_
    refine qq (N:=29) rfl (by kernel_rfl) ?_;simp only[go_sem,hn,Nte.enc]
    refine qe ?_
    refine qq (N:=29) rfl (by kernel_rfl) ?_;simp only[go_sem,Dcm.enc]
    (first|refine kx hS ?_);simp only[go_sem]
    cases hs:seen n.id
    ·apply qP;(simp only[go_sem];rfl)
     ·intro h;cases h
     ·intro _
      refine vK ?_
      simp only[go_sem]
      refine qq (N:=29) rfl (by kernel_rfl) ?_;simp only[go_sem,hw1]
      exact⟨(),kM rfl (by simp only[go_sem,Dcm.enc]) (by simp only[go_sem,mcT])⟩
    ·apply qP;(simp only[go_sem];rfl)
     ·intro _
      refine qu (N:=29) rfl (by kernel_rfl) ?_
      refine qh 3 ?_;simp only[wm,wg,wj,ww];simp only[go_sem]
      refine qx rfl ?_
      refine qnr d bm d.notes.length n.id cur _ hC rfl rfl (by simp) (by simp only[go_sem,mcT]) (by simp only[go_sem]) (by simp only[go_sem,mcT]) ?_
      simp only[go_sem]
      refine qq (N:=29) rfl (by kernel_rfl) ?_;simp only[go_sem,hw1]
      exact⟨(),kM rfl (by simp only[go_sem,qd,ze,Dcm.enc]) (by simp only[go_sem,qd,ze,qD,nb_z])⟩
     ·intro h;cases h
   ·intro h;cases h
  ·intro _ hlt _
   rw[wh]
   refine qe ?_
   refine qq (N:=29) rfl (by kernel_rfl) ?_;simp only[go_sem,hlt]
   refine qe ?_
   apply qP;(simp only[go_sem,hlt];rfl)
   ·intro h;cases h
   ·intro _
    refine qbv ?_
    simp only[go_sem]
    exact⟨(),kl⟩
 ·intro _ _
  refine qe ?_
  refine qq (N:=29) rfl (by kernel_rfl) ?_;simp only[go_sem]
  refine qc1 ?_
  simp only[go_sem]
  exact⟨bm,rfl,rfl,rfl⟩
theorem qcd(M':MS):qan noMap noMap M'=M':=by
 funext b;unfold qan noMap;cases M' b<;>rfl
theorem zB{k:Nat}(hk:k<1000):CallOk [] (some k):=⟨fun n hn=>(by cases hn),fun x h=>by injection h with h;subst h;exact⟨(by simp),hk⟩⟩
theorem vF(bx:Mem): ∀k r,qc k=some r->qJ bx [] k=some r:=fun k r h=>by cases h
def zDoc:List T:=[.c (li 0),.c (ls ⟨#[]⟩),.c (li 0),.c (li 0),.ex 1 [],.ex 4 [],.ex 7 []]
def vDoc(d:Dcm)(q:List (List C)):List T:=[.c (li d.rc.id),.c (ls d.rc.name),.c (li d.rc.len),.c (li d.rc.day),.c (.sl 1 (ints d.rc.sp)),.c (.sl 4 (d.tiers.map Tir.enc)),.own 50 7 q]
theorem qrh(d:Dcm)(W:WfD d)(hl:d.notes.length<=19)(hi:IdB d)(sp:List Spn)(seen:Int->Bool)(hSeen: ∀id,DCalls pP 29 [.agg d.row,dv (.sl 2 (spns sp)),dv (li id)] (dv (lb (seen id)))):
  DCalls pP 10 [.agg d.row,dv (.sl 2 (spns sp))] (.agg (qah d seen).row):=by
 have qK:=kmax
 have hK:=kept_C d W hl hi sp seen hSeen
 have hv:qah d seen={ d with notes:=(d.notes.filter fun n=>inL (Qi d seen d.notes) n.id).map (vr seen) }:=by
  rw[qfQ W];rfl
 rw[hv]
 generalize Qi d seen d.notes=S at*
 refine DCalls.of_maps ?_
 refine QS (N:=44) (rs:=[.cell 4 34]) (by kernel_rfl) Tryz.func10 rfl rfl rfl (by simp) ?_
 refine qe ?_
 refine qq (N:=44) rfl (by kernel_rfl) ?_;simp +decide only[go_sem,Dcm.row]
 refine qe ?_
 refine qu (N:=44) rfl (by kernel_rfl) ?_
 refine qh 2 ?_;simp only[wm,wg,wj,ww];simp +decide only[go_sem]
 refine qx rfl ?_
 refine StepM.call (ns:=[]) (caps:=[]) rfl hK rfl (DLeL.of_eq (by simp +decide only[go_sem,Dcm.row])) (vF _) (zB (by decide)) (fun _ _ h=>h) (fun _ _ h=>by cases h) ?_
 rintro r H' M' ⟨bm,rfl,rfl,rfl⟩ _
 rw[qcd]
 refine qh 1 ?_;simp only[wm,wg,wj,ww];simp +decide only[go_sem]
 refine vN (kM (N:=44) (sls:=[(1,dv (.sl 2 (spns sp))),(2,.one (.bx 2 7 0 0)),(4,.one (.bx 4 7 0 0)),(5,mpD bm)]) (bxs:=[(2,[d.row]),(4,[zDoc])]) rfl (by simp +decide only[go_sem]) (by simp +decide only[go_sem,qd,Dcm.row,zDoc])) ?_
 refine qe ?_
 refine qq (N:=44) rfl (by kernel_rfl) ?_;simp +decide only[go_sem,Dcm.row]
 refine qe ?_
 refine qe ?_
 refine qq (N:=44) rfl (by kernel_rfl) ?_;simp +decide only[go_sem]
 refine vh ?_
 refine vN (qcy 6 0 6 50 7 [] (rows:=[[.c (li d.rc.id),.c (ls d.rc.name),.c (li d.rc.len),.c (li d.rc.day),.c (.sl 1 (ints d.rc.sp)),.c (.sl 4 (d.tiers.map Tir.enc)),.ex 7 []]]) (r:=[.c (li d.rc.id),.c (ls d.rc.name),.c (li d.rc.len),.c (li d.rc.day),.c (.sl 1 (ints d.rc.sp)),.c (.sl 4 (d.tiers.map Tir.enc)),.ex 7 []]) (by simp +decide only[go_sem]) rfl (by rfl)) ?_
 refine qef d.notes (fun k (_:Unit)=>kn 44 [(1,dv (.sl 2 (spns sp))),(2,.one (.bx 2 7 0 0)),(4,.one (.bx 4 7 0 0)),(5,mpD bm),(6,.one (.bx 6 7 0 0)),(18,dv (.sl 7 (d.notes.map Nte.enc))),(19,dv (li d.notes.length)),(20,dv (li k))] (ml [(2,[d.row]),(4,[zDoc]),(6,[vDoc d ((((d.notes.take k).filter fun n=>inL S n.id).map (vr seen)).map Nte.enc)])])) (fun _ _=>oneM bm (setM S)) (fun _ _=>True) () (by omega) (km (by simp +decide only[go_sem,Dcm.row,zDoc,vDoc,wg,yi,wn])) rfl trivial ?_ ?_
 ·intro k n _ hn hk hm htk hlt hw _
  have hS:=hSeen n.id
  simp only[Dcm.row]at hS
  rw[qZ _ htk]
  have hql:(((((d.notes.take k).filter fun n=>inL S n.id).map (vr seen)).map Nte.enc)).length<=19:=by
   have h1:=wC (fun n:Nte=>inL S n.id) (d.notes.take k)
   have h2:(d.notes.take k).length<=d.notes.length:=by rw[wx];omega
   simp only[we];omega
  rw[wJ,wJ]
  generalize (((d.notes.take k).filter fun n=>inL S n.id).map (vr seen)).map Nte.enc=q at hql ⊢
  have hb8:((q.length+1)*64<=140737488355328)=True:=eq_true (by omega)
  refine qe ?_
  refine qq (N:=44) rfl (by kernel_rfl) ?_;simp +decide only[go_sem,hlt]
  refine qe ?_
  apply qP;(simp +decide only[go_sem];rfl)
  ·intro _
   refine vK ?_
   simp +decide only[go_sem]
   refine qe ?_
   refine vh ?_
   refine qe ?_
   refine qq (N:=44) rfl (by kernel_rfl) ?_;simp +decide only[go_sem,hn,Nte.enc]
   refine qe ?_
   refine qe ?_
   refine qu (N:=44) rfl (by kernel_rfl) ?_
   refine qh 3 ?_;simp only[wm,wg,wj,ww];simp +decide only[go_sem]
   refine qx rfl ?_
   refine StepM.lookup rfl (zb bm (setM S)) (by simp +decide only[go_sem]) law3 Tryz.underlying77 qka (plainElem_bool Tryz.underlying4 false) (by simp +decide only[go_sem]) (keyOf_int_mk Tryz.underlying3 (Qo W hi hm)) (qaN S n.id) rfl ?_
   refine qh 1 ?_;simp only[wm,wg,wj,ww];simp +decide only[go_sem]
   cases hin:inL S n.id
   ·refine qP (t:=true) (by simp +decide only[go_sem]) ?_ (fun h=>by cases h)
    intro _
    refine qbv ?_
    simp +decide only[go_sem]
    refine qq (N:=44) rfl (by kernel_rfl) ?_;simp +decide only[go_sem,hw]
    exact⟨(),km (by simp +decide only[go_sem,Dcm.row,zDoc,vDoc,if_false])⟩
   ·refine qP (t:=false) (by simp +decide only[go_sem]) (fun h=>by cases h) ?_
    intro _
    refine vK ?_
    simp +decide only[go_sem]
    refine qam ?_
    cases c1:seen n.id
    ·rw[c1]at hS
     have hbl:(vr seen n).enc= [li n.id,li n.tier,li n.par,li n.fr,li n.tg,li n.rank,ls ⟨#[]⟩]:=by unfold vr;rw[c1];rfl
     rw[hbl]
     repeat' first|(first|refine kcc ?_|refine kx hS ?_|apply kU);simp +decide only[go_sem,hb8,Dcm.row,vDoc]|apply kh<;>intro qa
     refine qq (N:=44) rfl (by kernel_rfl) ?_;simp +decide only[go_sem,hw]
     exact⟨(),km (by simp +decide only[go_sem,zDoc])⟩
    ·rw[c1]at hS
     have hbl:(vr seen n).enc= [li n.id,li n.tier,li n.par,li n.fr,li n.tg,li n.rank,ls n.txt]:=by unfold vr;rw[c1];rfl
     rw[hbl]
     repeat' first|(first|refine kcc ?_|refine kx hS ?_|apply kU);simp +decide only[go_sem,hb8,Dcm.row,vDoc]|apply kh<;>intro qa
     refine qq (N:=44) rfl (by kernel_rfl) ?_;simp +decide only[go_sem,hw]
     exact⟨(),km (by simp +decide only[go_sem,zDoc])⟩
  ·intro h;cases h
 ·intro _ hlt _
  rw[wh]
  refine qam ?_
  repeat' first|(first|refine kcc ?_|apply kU);simp +decide only[go_sem,hlt]|apply kh<;>intro qa
  refine qe ?_
  refine qq (N:=44) rfl (by kernel_rfl) ?_;simp +decide only[go_sem,vDoc,zDoc]
  refine qam ?_
  refine qdo 4 (by simp +decide only[go_sem];rfl) ?_
  apply kF;simp +decide only[go_sem]
  trace_state
theorem qbw{M M0:MS}(h: ∀b m,M0 b=some m->M b=some m):qan M M0 M0=M:=by
 funext b;unfold qan
 cases h0:M0 b with
 | none=>simp
 | some m=>exact(h b m h0).symm
def isN(d:Dcm)(x:Int):Bool:=(getN d.notes x).2
theorem qfc{d:Dcm}(W:WfD d){x:Int}:isN d x=true↔x∈d.ids:=by
 unfold isN
 rw[WfD.ids_mem]
 rcases z8 d.notes x with⟨n,hn,e,hg⟩|⟨hno,hg⟩
 ·rw[hg];exact⟨fun _=>⟨n,hn,e⟩,fun _=>rfl⟩
 ·rw[hg];exact⟨(fun h=>by cases h),fun⟨n,hn,e⟩=>absurd e (hno n hn)⟩
theorem of_C(d:Dcm)(W:WfD d)(hl:d.notes.length<=1000)(hi:IdB d)(l:List Int)(hll:l.length<=1000000):
  MCalls pP 82 [.agg d.row,dv (.sl 1 (ints l))] qc noMap (fun r H' M'=>∃bm,r=mpD bm/\H'=qc/\M'=oneM bm (setM (l.filter (isN d)))):=by
 have qK:=kmax
 refine QS (N:=28) (rs:=[.tmp 4]) (by kernel_rfl) Tryz.func82 rfl rfl rfl (by simp) ?_
 refine qe ?_
 refine qq (N:=28) rfl (by kernel_rfl) ?_;simp only[go_sem,Dcm.row]
 refine qe ?_
 refine qu (N:=28) rfl (by kernel_rfl) ?_
 refine qx rfl ?_
 refine StepM.makeMap rfl 3 (plainElem pP 4) ?_
 intro bm _
 rw[qeP,qc0]
 refine qh 1 ?_;simp only[wm,wg,wj,ww];simp only[go_sem]
 refine qaL 2 7 [d.enc] [] (by decide) (by simp only[go_sem,Dcm.enc,wM]) (fun r hr=>by simp at hr;rw[hr];rfl) ?_
 refine vN (kL (N:=28) (sls:=[(1,dv (.sl 1 (ints l))),(2,dv (.pt d.enc)),(5,mpD bm)]) (bx:=qc) rfl (by simp only[go_sem]) (by simp[qc])) ?_
 refine qe ?_
 refine qe ?_
 refine qq (N:=28) rfl (by kernel_rfl) ?_;simp only[go_sem]
 refine vh ?_
 refine ZS (fun _:Unit=>kn 28 [(5,mpD bm)] qc) (fun _=>oneM bm (setM (l.filter (isN d)))) (fun _=>True) ?_ ?_
 ·refine qef l (fun k (_:Unit)=>kn 28 [(2,dv (.pt d.enc)),(5,mpD bm),(11,dv (.sl 1 (ints l))),(12,dv (li l.length)),(13,dv (li k))] qc) (fun k _=>oneM bm (setM ((l.take k).filter (isN d)))) (fun _ _=>True) () (by omega) kl rfl trivial ?_ ?_
  ·intro k x _ hx hk hm htk hlt hw1 _
   have hx':=qp hx
   have hG:=qgV d x (by omega)
   have hql:((l.take k).filter (isN d)).length<=1000000:=by
    have h1:=wC (isN d) (l.take k)
    have h2:(l.take k).length<=l.length:=by rw[wx];omega
    omega
   have hwf:isN d x=true->wfI x:=fun h=>by
    obtain⟨n,hn,e⟩:=WfD.ids_mem.1 ((qfc W).1 h)
    rw[<-e];exact Qo W hi hn
   rw[qZ _ htk]
   generalize (l.take k).filter (isN d)=q at*
   obtain⟨g,hg⟩: ∃g,g=(getN d.notes x).1:=⟨_,rfl⟩
   rw[<-hg]at hG
   have hgB:(getN d.notes x).2=isN d x:=rfl
   rw[hgB]at hG
   simp only[Dcm.row,Nte.row]at hG
   refine qe ?_
   refine qq (N:=28) rfl (by kernel_rfl) ?_;simp only[go_sem,hlt]
   refine qe ?_
   apply qP;(simp only[go_sem];rfl)
   ·intro _
    refine vK ?_
    simp only[go_sem]
    refine qe ?_
    refine vh ?_
    refine qe ?_
    refine qq (N:=28) rfl (by kernel_rfl) ?_;simp only[go_sem,hx']
    refine qe ?_
    refine qq (N:=28) rfl (by kernel_rfl) ?_;simp only[go_sem,Dcm.enc]
    (first|refine kx hG ?_);simp only[go_sem]
    refine qe ?_
    refine qq (N:=28) rfl (by kernel_rfl) ?_;simp only[go_sem]
    cases hb:isN d x
    ·rw[if_neg (by decide),wM]
     refine qP (t:=false) (by simp only[go_sem]) (fun h=>by cases h) ?_
     intro _
     refine vK ?_
     simp only[go_sem]
     refine qq (N:=28) rfl (by kernel_rfl) ?_;simp only[go_sem,hw1]
     exact⟨(),kl⟩
    ·rw[if_pos rfl]
     refine qP (t:=true) (by simp only[go_sem]) ?_ (fun h=>by cases h)
     intro _
     refine qu (N:=28) rfl (by kernel_rfl) ?_
     refine qh 2 ?_;simp only[wm,wg,wj,ww];simp only[go_sem]
     refine qx rfl (StepM.update rfl rfl (zb bm (setM q)) (by simp only[go_sem]) law3 Tryz.underlying124 (by omega) (by simp only[go_sem]) (keyOf_int_mk Tryz.underlying3 (hwf hb)) (by simp only[go_sem]) (plainElem_bool Tryz.underlying4 true) qnb ?_)
     rw[qjx,snocM]
     simp only[go_sem]
     refine qq (N:=28) rfl (by kernel_rfl) ?_;simp only[go_sem,hw1]
     exact⟨(),kl⟩
   ·intro h;cases h
  ·intro _ hlt _
   rw[wh]
   refine qe ?_
   refine qq (N:=28) rfl (by kernel_rfl) ?_;simp only[go_sem,hlt]
   refine qe ?_
   apply qP;(simp only[go_sem];rfl)
   ·intro h;cases h
   ·intro _
    refine qbv ?_
    simp only[go_sem]
    exact⟨(),kl⟩
 ·intro _ _
  refine qe ?_
  refine qq (N:=28) rfl (by kernel_rfl) ?_;simp only[go_sem]
  refine qc1 ?_
  simp only[go_sem]
  exact⟨bm,rfl,rfl,rfl⟩
theorem qfl{S:List Int}(x:Int):Maps.has (vA S) (.int .i64 x)=inL S x:=by
 unfold vA
 rw[Maps.has_setOf _ _ _ (fun y hy=>by obtain⟨z,_,rfl⟩:=wI.1 hy;simp[WideAt.IsKeyLit])]
 unfold inL
 rw[List.any_map]
 congr 1
 funext y
 simp only[Function.comp_apply,Lit.sameKey,true_and]
 rw[yH];simp
theorem qnF{key:Value}{kl:Lit}(h:keyOf pP 3 key=some kl): ∃x,key= .int .i64 x/\kl= .int .i64 x/\wfI x:=Maps.keyOf_int_inv Tryz.underlying3 h
theorem qje: ∀(n:Nat) (S:List Int),S.length=n->Maps.Tidy (vA S)/\Maps.size (vA S)<=S.length:=by
 intro n
 induction n with
 | zero=>intro S h;rw[yh.1 h];exact⟨Maps.tidy_empty,wv _⟩
 | succ n ih=>
  intro S h
  obtain⟨ys,y,rfl⟩: ∃ys y,S=ys++[y]:=⟨S.dropLast,S.getLast (by intro e;rw[e]at h;simp at h),(List.dropLast_concat_getLast _).symm⟩
  obtain⟨h1,h2⟩:=ih ys (by simp at h;omega)
  rw[ZV]
  refine⟨h1.put (by simp[WideAt.IsKeyLit]) _,?_⟩
  rw[Maps.size_put h1]
  simp only[wA,wz,wR]
  split<;>omega
noncomputable def itM(bm:Nat)(S:List Int)(left:Lit->Bool)(cnt:Nat)(cur:Option (Value×Value)):MO:=.it bm 3 (plainElem pP 4) S.length (vA S) left cnt cur
def twoM(b:Nat)(m:MO)(r:Nat)(m2:MO):MS:=fun k=>if k=r then some m2 else if k=b then some m else none
theorem qp9(b:Nat)(m:MO)(r:Nat)(m2:MO):(oneM b m).set r m2=twoM b m r m2:=rfl
theorem qpc(b:Nat)(m:MO)(r:Nat)(m2 m3:MO):(twoM b m r m2).set r m3=twoM b m r m3:=by funext k;simp only[MS.set,twoM];split<;>rfl
theorem ql5(b:Nat)(m:MO)(r:Nat)(m2:MO):twoM b m r m2 r=some m2:=by simp[twoM]
theorem qh4{b r:Nat}(h:r≠b)(m m2:MO): ∀k x,oneM b m k=some x->twoM b m r m2 k=some x:=fun k x hk=>by
 simp only[oneM]at hk
 split at hk
 ·rename_i e;subst e;simp only[twoM,if_neg (Ne.symm h),if_true];exact hk
 ·cases hk
structure LstI(S out:List Int)(left:Lit->Bool)(cnt:Nat):Prop where
 len:out.length+cnt<=S.length
 sub: ∀x∈out,x∈S
 all: ∀x∈S,x∈out\/left (.int .i64 x)=true
 has: ∀kl,left kl=true->Maps.has (vA S) kl=true
theorem qrt(S:List Int)(hS:S.length<=1000000)(bm:Nat):
  MCalls pP 86 [mpD bm] qc (oneM bm (setM S)) (fun r H' M'=>r=dv (.sl 1 (ints (usort S)))/\H'=qc/\M'=oneM bm (setM S)):=by
 have qK:=kmax
 refine QS (N:=17) (rs:=[.tmp 2]) (by kernel_rfl) Tryz.func86 rfl rfl rfl (by simp) ?_
 refine qe ?_
 refine qq (N:=17) rfl (by kernel_rfl) ?_;simp +decide only[go_sem]
 refine qe ?_
 refine qq (N:=17) rfl (by kernel_rfl) ?_;simp +decide only[go_sem]
 refine qe ?_
 refine qe ?_
 refine qu (N:=17) rfl (by kernel_rfl) ?_
 refine qh 1 ?_;simp only[wm,wg,wj,ww];simp +decide only[go_sem]
 refine qx rfl ?_
 refine StepM.range rfl (zb bm (setM S)) (by simp +decide only[go_sem]) law3 Tryz.underlying124 ?_
 intro r hr
 have hrb:r≠bm:=fun e=>by rw[e,zb]at hr;cases hr
 simp +decide only[go_sem]
 rw[qp9]
 refine vN (qeK 3 3 1 (by simp +decide only[go_sem])) ?_
 refine vh ?_
 refine ZS (fun y:List Int×(Lit->Bool)×Nat×Option (Value×Value)=>kn 17 [(3,.one (.own 3 1 (ints y.1)))] qc) (fun y=>twoM bm (setM S) r (itM bm S y.2.1 y.2.2.1 y.2.2.2)) (fun y=>usort y.1=usort S/\y.1.length<=S.length) ?_ ?_
 ·refine qe7 (fun y:List Int×(Lit->Bool)×Nat×Option (Value×Value)=>kn 17 [(3,.one (.own 3 1 (ints y.1))),(6,itrD r)] qc) (fun y=>twoM bm (setM S) r (itM bm S y.2.1 y.2.2.1 y.2.2.2)) (fun y=>LstI S y.1 y.2.1 y.2.2.1) (fun y=>y.2.2.1) ([],Maps.has (vA S),Maps.size (vA S),none) (kL rfl (by simp +decide only[go_sem,wn]) (by simp[qc])) rfl ⟨by simpa using (qje _ S rfl).2,by simp,fun x hx=>.inr ((qfl (S:=S) x).trans (inL_mem.2 hx)),fun _ h=>h⟩ ?_
  rintro⟨out,left,cnt,cur⟩ ⟨g1,g2,g3,g4⟩
  simp only at g1 g2 g3 g4 ⊢
  have hb8:((out.length+1)*8<=140737488355328)=True:=eq_true (by omega)
  refine qe ?_
  refine qu (N:=17) rfl (by kernel_rfl) ?_
  refine qx rfl ?_
  refine StepM.next rfl (ql5 bm (setM S) r (itM bm S left cnt cur)) (by simp +decide only[go_sem]) law3 ?_ ?_
  ·intro hc hl
   refine qh 1 ?_;simp only[wm,wg,wj,ww];simp +decide only[go_sem]
   refine qam ?_
   repeat' first|(first|refine kcc ?_|apply kU);simp +decide only[go_sem]|apply kh<;>intro qa
   refine⟨(out,left,cnt,cur),⟨qai fun x=>⟨g2 x,fun hx=>(g3 x hx).resolve_right (by rw[hl];decide)⟩,by simp only;omega⟩,kl,rfl⟩
  ·intro key v kl y cnt' qlR hlk hv hat hlt
   obtain⟨x,rfl,rfl,hw⟩:=qnF qlR
   have hxS:x∈S:=by have:=g4 _ hlk;rw[qfl]at this;exact inL_mem.1 this
   rw[qpc]
   refine qh 1 ?_;simp only[wm,wg,wj,ww];simp +decide only[go_sem]
   refine qe ?_
   apply qP;(simp +decide only[go_sem];rfl)
   ·intro _
    refine vK ?_
    simp +decide only[go_sem]
    refine vh ?_
    refine qe ?_
    refine qu (N:=17) rfl (by kernel_rfl) ?_
    refine qx rfl ?_
    refine StepM.entry (key:=.int .i64 x) (v:=v) (dk:=dv (li x)) (dv':=.any) rfl (ql5 bm (setM S) r (itM bm S _ cnt' (some (.int .i64 x,v)))) (by simp +decide only[go_sem]) (fun w E=>.one _ _ (.c _ _ (.lit _ rfl))) (fun w E=>.any _) ?_
    refine qh 2 ?_;simp only[wm,wg,wj,ww];simp +decide only[go_sem]
    refine qam ?_
    repeat' first|(first|refine kcc ?_|apply kU);simp +decide only[go_sem,hb8]|apply kh<;>intro qa
    refine⟨(out++[x],(fun z=>left z&& !z.sameKey (.int .i64 x)),cnt',some (.int .i64 x,v)),⟨by simp;omega,fun z hz=>?_,fun z hz=>?_,fun kl h=>g4 kl (by simp only[wu]at h;exact h.1)⟩,hlt,kL rfl (by simp +decide only[go_sem,ints,wJ,wt,wn]) (by simp[qc]),rfl⟩
    ·rcases wo.1 hz with hz|hz
     ·exact g2 z hz
     ·simp at hz;rw[hz];exact hxS
    ·by_cases e:z=x
     ·exact .inl (by simp[e])
     ·rcases g3 z hz with h|h
      ·exact .inl (by simp[h])
      ·refine .inr ?_
       simp only[wu]
       exact⟨h,by simp[Lit.sameKey,e]⟩
   ·intro h;cases h
 ·rintro⟨out,left,cnt,cur⟩ ⟨h1,h2⟩
  simp only at h1 h2 ⊢
  refine qic (qh4 hrb _ _) ?_
  have hSo:=sorted_D out (by omega)
  rw[h1]at hSo
  refine qam ?_
  refine qw 3 (dv (.sl 1 (ints out))) (by simp +decide only[go_sem]) ?_
  repeat' first|(first|refine kcc ?_|refine kx hSo ?_|apply kU);simp +decide only[go_sem]|apply kh<;>intro qa
  apply kF;simp +decide only[go_sem]
  rfl
theorem qnK(S:List Int)(hS:S.length<=1000000)(bm:Nat)(M:MS)(hM:M bm=some (setM S))(hon: ∀r m,M r=some m->∀c,¬m.on c)(g:FuncId)(caps:List C)(p:Int->Bool)
  (hg: ∀x∈S,MCalls pP g ([dv (li x)]++caps.map fun c=>D.one (.c c)) qc M (fun r H' M'=>r=dv (lb (p x))/\H'=qc/\M'=M)):
  MCalls pP 83 [mpD bm,dv (.fn g caps)] qc M (fun r H' M'=>r=dv (.sl 1 (ints ((usort S).filter p)))/\H'=qc/\M'=M):=by
 have qK:=kmax
 have hsm: ∀x∈usort S,x∈S:=fun x hx=>((qi S).2 x).1 hx
 have hsl:(usort S).length<=1000000:=wD (zq S) hS
 generalize hU:usort S=U at*
 refine QS (N:=24) (rs:=[.tmp 4]) (by kernel_rfl) Tryz.func83 rfl rfl rfl (by simp) ?_
 refine qe ?_
 refine qq (N:=24) rfl (by kernel_rfl) ?_;simp +decide only[go_sem]
 refine qe ?_
 refine qq (N:=24) rfl (by kernel_rfl) ?_;simp +decide only[go_sem]
 refine qe ?_
 refine qe ?_
 refine qu (N:=24) rfl (by kernel_rfl) ?_
 refine qh 1 ?_;simp only[wm,wg,wj,ww];simp +decide only[go_sem]
 refine qx rfl ?_
 refine StepM.call (ns:=[]) (caps:=[]) rfl (qrt S hS bm) rfl (DLeL.of_eq (by simp +decide only[go_sem])) (vF _) (zB (by decide)) (fun b m hb=>?_) (fun r m hr _ c hc=>absurd hc (hon r m hr c)) ?_
 ·simp only[oneM]at hb
  split at hb
  ·rename_i e;rw[e,hM];exact hb
  ·cases hb
 rintro r H' M' ⟨rfl,rfl,rfl⟩ _
 rw[qbw (fun b m hb=>by
  simp only[oneM]at hb
  split at hb
  ·rename_i e;rw[e,hM];exact hb
  ·cases hb),hU]
 refine qh 2 ?_;simp only[wm,wg,wj,ww];simp +decide only[go_sem]
 refine vN (kL (N:=24) (sls:=[(1,dv (.fn g caps)),(5,dv (.lit (.slice none 0 0))),(9,dv (.sl 1 (ints U))),(10,dv (li U.length)),(11,dv (li 0))]) (bx:=qc) rfl (by simp +decide only[go_sem]) (by simp[qc])) ?_
 refine vN (qeK 5 5 1 (by simp +decide only[go_sem])) ?_
 refine vh ?_
 refine ZS (fun _:Unit=>kn 24 [(5,.one (.own 5 1 (ints (U.filter p))))] qc) (fun _=>M) (fun _=>True) ?_ ?_
 ·refine qef U (fun k (_:Unit)=>kn 24 [(1,dv (.fn g caps)),(5,.one (.own 5 1 (ints ((U.take k).filter p)))),(9,dv (.sl 1 (ints U))),(10,dv (li U.length)),(11,dv (li k))] qc) (fun k _=>M) (fun _ _=>True) () (by omega) (kL rfl (by simp +decide only[go_sem,wg,yi,wn]) (by simp[qc])) rfl trivial ?_ ?_
  ·intro k x _ hx hk hm htk hlt hw1 _
   have hx':=qp hx
   have hC:=hg x (hsm x hm)
   have hql:((U.take k).filter p).length<=1000000:=by
    have h1:=wC p (U.take k)
    have h2:(U.take k).length<=U.length:=by rw[wx];omega
    omega
   rw[qZ _ htk]
   generalize (U.take k).filter p=q at*
   have hb8:((q.length+1)*8<=140737488355328)=True:=eq_true (by omega)
   refine qe ?_
   refine qq (N:=24) rfl (by kernel_rfl) ?_;simp +decide only[go_sem,hlt]
   refine qe ?_
   apply qP;(simp +decide only[go_sem];rfl)
   ·intro _
    refine vK ?_
    simp +decide only[go_sem]
    refine qe ?_
    refine vh ?_
    refine qe ?_
    refine qq (N:=24) rfl (by kernel_rfl) ?_;simp +decide only[go_sem,hx']
    refine qe ?_
    refine qu (N:=24) rfl (by kernel_rfl) ?_
    refine qh 2 ?_;simp only[wm,wg,wj,ww];simp +decide only[go_sem]
    refine qx rfl ?_
    refine StepM.call (ns:=[]) (caps:=caps.map T.c) rfl hC (by simp +decide only[go_sem]) (DLeL.of_eq (by simp +decide only[go_sem];simp[D.tr,T.tr])) (vF _) (zB (by decide)) (fun _ _ h=>h) (fun r m hr _ c hc=>absurd hc (hon r m hr c)) ?_
    rintro r H' M' ⟨rfl,rfl,hM'⟩ _
    rw[hM',qbw (fun _ _ h=>h)]
    simp +decide only[go_sem]
    cases hp:p x
    ·refine qP (t:=false) (by simp +decide only[go_sem]) (fun h=>by cases h) ?_
     intro _
     refine vK ?_
     simp +decide only[go_sem]
     refine qq (N:=24) rfl (by kernel_rfl) ?_;simp +decide only[go_sem,hw1]
     exact⟨(),kL rfl (by simp +decide only[go_sem,if_false]) (by simp[qc])⟩
    ·refine qP (t:=true) (by simp +decide only[go_sem]) ?_ (fun h=>by cases h)
     intro _
     refine qam ?_
     repeat' first|(first|refine kcc ?_|apply kU);simp +decide only[go_sem,hb8]|apply kh<;>intro qa
     refine qq (N:=24) rfl (by kernel_rfl) ?_;simp +decide only[go_sem,hw1]
     exact⟨(),kL rfl (by simp +decide only[go_sem,ints,wJ,wt,wn]) (by simp[qc])⟩
   ·intro h;cases h
  ·intro _ hlt _
   rw[wh]
   refine qe ?_
   refine qq (N:=24) rfl (by kernel_rfl) ?_;simp +decide only[go_sem,hlt]
   refine qe ?_
   apply qP;(simp +decide only[go_sem];rfl)
   ·intro h;cases h
   ·intro _
    refine qbv ?_
    simp +decide only[go_sem]
    exact⟨(),kl⟩
 ·intro _ _
  refine qam ?_
  refine qw 5 (dv (.sl 1 (ints (U.filter p)))) (by simp +decide only[go_sem]) ?_
  repeat' first|(first|refine kcc ?_|apply kU);simp +decide only[go_sem]|apply kh<;>intro qa
  apply kF;simp +decide only[go_sem]
  rfl
def insQ(d:Dcm)(id k:Int):Bool:=k !=id&&Zp (d.wher k).1 (d.wher id).1
theorem qoJ{α:Type}{q:α->Bool}{l:List α}{k:Nat}{x:α}(hx:l[k]? =some x)(hi:(l.take k).any q=false)(h:q x=false):(l.take (k+1)).any q=false:=by
 rw[qH hx,List.any_append,hi];simp[h]
theorem qlV(d:Dcm)(W:WfD d)(hl:d.notes.length<=1000)(ht:d.tiers.length<=100000)(B:List Int)(hB:B.length<=1000000)(id:Int):DCalls pP 87 [dv (li id),dv (.pt d.enc),dv (.pt [.sl 1 (ints B)])] (dv (lb (B.any (insQ d id)))):=by
 have qK:=kmax
 have hW:=qhH d W id (by omega) (by omega)
 have hWk:=fun k=>qhH d W k (by omega) (by omega)
 obtain⟨t,hte⟩: ∃t,t=(d.wher id).1:=⟨_,rfl⟩
 have hq: ∀k,insQ d id k=(k !=id&&(decide ((d.wher k).1.fr<=t.fr)&&decide (t.tg<=(d.wher k).1.tg))):=fun k=>by unfold insQ Zp;rw[hte]
 rw[<-hte]at hW
 generalize (d.wher id).2=ok at*
 simp only[Dcm.row,Spn.row]at hW hWk
 refine kd (N:=47) (rs:=[.tmp 4]) Tryz.func87 ?_
 repeat' first|(first|refine kcc ?_|refine kx hW ?_|apply kU);simp only[go_sem,Dcm.enc]|apply kh<;>intro qa
 refine qC B (fun k=>kn 47 [(0,dv (li id)),(1,dv (.pt d.enc)),(5,.one (.bx 5 2 0 0)),(17,dv (.sl 1 (ints B))),(18,dv (li B.length)),(19,dv (li k))] (ml [(5,[t.row])])) (fun k=>(B.take k).any (insQ d id)=false) (by omega) (kM rfl (by simp only[go_sem,Dcm.enc]) (by simp only[go_sem,Spn.row])) (by simp) ?_ ?_
 ·intro k x hx hk hm htk hlt hw hi
  have hx':=qp hx
  have hG:=hWk x
  have hqx:=hq x
  have hn:=qoJ (q:=insQ d id) hx hi
  have hy:=qq6 (p:=insQ d id) hm
  obtain⟨u,hue⟩: ∃u,u=(d.wher x).1:=⟨_,rfl⟩
  rw[<-hue]at hG hqx
  generalize (d.wher x).2=okx at*
  cases c1:x !=id
  ·rw[c1]at hqx
   repeat' first|(first|refine kcc ?_|refine kx hG ?_|apply kU);simp only[go_sem,hlt,hw,hx',c1,Dcm.enc,Spn.row]|apply kh<;>intro qa
   exact⟨hn (by rw[hqx];rfl),kmm⟩
  cases c2:decide (u.fr<=t.fr)
  ·rw[c1,c2]at hqx
   repeat' first|(first|refine kcc ?_|refine kx hG ?_|apply kU);simp only[go_sem,hlt,hw,hx',c1,c2,Dcm.enc,Spn.row]|apply kh<;>intro qa
   exact⟨hn (by rw[hqx];rfl),kmm⟩
  cases c3:decide (t.tg<=u.tg)
  ·rw[c1,c2,c3]at hqx
   repeat' first|(first|refine kcc ?_|refine kx hG ?_|apply kU);simp only[go_sem,hlt,hw,hx',c1,c2,c3,Dcm.enc,Spn.row]|apply kh<;>intro qa
   exact⟨hn (by rw[hqx];rfl),kmm⟩
  ·rw[c1,c2,c3]at hqx
   repeat' first|(first|refine kcc ?_|refine kx hG ?_|apply kU|apply kF);simp only[go_sem,hlt,hx',c1,c2,c3,Dcm.enc,Spn.row]|apply kh<;>intro qa
   rw[hy (by rw[hqx];rfl)]
 ·intro hlt hi
  rw[wh]at hi
  repeat' first|(first|refine kcc ?_|apply kU|apply kF);simp only[go_sem,hlt]|apply kh<;>intro qa
  rw[hi]
theorem qnc(b:Nat)(S:List Int): ∀r m,oneM b (setM S) r=some m->∀c,¬m.on c:=fun r m h c hc=>by
 simp only[oneM]at h
 split at h
 ·injection h with h;subst h;exact hc.elim
 ·cases h
theorem vT{d:Dcm}(W:WfD d)(l:List Int):usort (l.filter (isN d))=qI d l:=by
 refine W.notesI_eq (qi _).1 fun x=>?_
 rw[(qi _).2,wQ,qfc W]
 exact And.comm
theorem qo5(d:Dcm)(W:WfD d)(hl:d.notes.length<=1000)(ht:d.tiers.length<=100000)(hi:IdB d)(a b:List Int)(ha:a.length<=1000000)(hb:b.length<=1000000):DCalls pP 37 [.agg d.row,dv (.sl 1 (ints a)),dv (.sl 1 (ints b))] (dv (.sl 1 (ints (qhF d a b)))):=by
 have qK:=kmax
 have hB:=of_C d W hl hi b hb
 have hA:=of_C d W hl hi a ha
 have hbl:(b.filter (isN d)).length<=1000000:=wD (wC _ _) hb
 have hal:(a.filter (isN d)).length<=1000000:=wD (wC _ _) ha
 have hub:=vT W b
 have hua:=vT W a
 have hnl:=WfD.notesI_len (d:=d) b
 have qbg:qhF d a b=(qI d a).filter fun i=>(qI d b).any (insQ d i):=rfl
 rw[qbg]
 generalize b.filter (isN d)=B0 at*
 generalize a.filter (isN d)=A0 at*
 refine DCalls.of_maps ?_
 refine QS (N:=17) (rs:=[.tmp 6]) (by kernel_rfl) Tryz.func37 rfl rfl rfl (by simp) ?_
 refine qe ?_
 refine qq (N:=17) rfl (by kernel_rfl) ?_;simp only[go_sem,Dcm.row]
 refine qaL 3 7 [d.enc] [] (by decide) (by simp only[go_sem,Dcm.enc,wM]) (fun r hr=>by simp at hr;rw[hr];rfl) ?_
 refine qe ?_
 refine qu (N:=17) rfl (by kernel_rfl) ?_
 refine qh 2 ?_;simp only[wm,wg,wj,ww];simp only[go_sem,Dcm.enc]
 refine qx rfl ?_
 refine StepM.call (ns:=[]) (caps:=[]) rfl hB rfl (DLeL.of_eq (by simp only[go_sem,Dcm.row])) (vF _) (zB (by decide)) (fun _ _ h=>h) (fun _ _ h=>by cases h) ?_
 rintro r H' M' ⟨bm,rfl,rfl,rfl⟩ _
 rw[qcd]
 refine qx rfl ?_
 refine StepM.call (ns:=[]) (caps:=[]) rfl (qrt B0 hbl bm) rfl (DLeL.of_eq (by simp only[go_sem])) (vF _) (zB (by decide)) (fun _ _ h=>h) (qcb _) ?_
 rintro r H' M' ⟨rfl,rfl,rfl⟩ _
 rw[qbw (fun _ _ h=>h),hub]
 refine qh 2 ?_;simp only[wm,wg,wj,ww];simp only[go_sem]
 refine qaL 7 1 [[.sl 1 (ints (qI d b))]] [] (by decide) (by simp only[go_sem,wM]) (fun r hr=>by simp at hr;rw[hr];rfl) ?_
 refine vN (kL (N:=17) (sls:=[(1,dv (.sl 1 (ints a))),(3,dv (.pt d.enc)),(7,dv (.pt [.sl 1 (ints (qI d b))]))]) (bx:=qc) rfl (by simp only[go_sem,Dcm.enc]) (by simp[qc])) ?_
 refine qic (M1:=noMap) (fun _ _ h=>by cases h) ?_
 refine qe ?_
 refine qu (N:=17) rfl (by kernel_rfl) ?_
 refine qh 2 ?_;simp only[wm,wg,wj,ww];simp only[go_sem,Dcm.enc]
 refine qx rfl ?_
 refine StepM.call (ns:=[]) (caps:=[]) rfl hA rfl (DLeL.of_eq (by simp only[go_sem,Dcm.row])) (vF _) (zB (by decide)) (fun _ _ h=>h) (fun _ _ h=>by cases h) ?_
 rintro r H' M' ⟨bm2,rfl,rfl,rfl⟩ _
 rw[qcd]
 refine qh 1 ?_;simp only[wm,wg,wj,ww];simp only[go_sem]
 refine qx rfl ?_
 refine StepM.call (ns:=[]) (caps:=[]) rfl (qnK A0 hal bm2 (oneM bm2 (setM A0)) (zb _ _) (qnc _ _) 87 [.pt d.enc,.pt [.sl 1 (ints (qI d b))]] (fun i=>(qI d b).any (insQ d i)) (fun x _=>MCalls.plain (cs:=[li x,.pt d.enc,.pt [.sl 1 (ints (qI d b))]]) (qlV d W hl ht (qI d b) (by omega) x) _)) rfl (DLeL.of_eq (by simp only[go_sem,Dcm.enc])) (vF _) (zB (by decide)) (fun _ _ h=>h) (qcb _) ?_
 rintro r H' M' ⟨rfl,rfl,rfl⟩ _
 rw[hua]
 refine qh 1 ?_;simp only[wm,wg,wj,ww];simp only[go_sem]
 refine qc1 ?_
 simp only[go_sem]
theorem has1_C(ba:Nat)(S:List Int)(M:MS)(hM:M ba=some (setM S))(x:Int)(hw:wfI x):MCalls pP 89 [dv (li x),dv (.pt [.lit (.map (some ba))])] qc M (fun r H' M'=>r=dv (lb (inL S x))/\H'=qc/\M'=M):=by
 refine QS (N:=7) (rs:=[.tmp 3]) (by kernel_rfl) Tryz.func89 rfl rfl rfl (by simp) ?_
 refine qe ?_
 refine qq (N:=7) rfl (by kernel_rfl) ?_;simp only[go_sem]
 refine qe ?_
 refine qu (N:=7) rfl (by kernel_rfl) ?_
 refine qh 2 ?_;simp only[wm,wg,wj,ww];simp only[go_sem]
 refine qx rfl ?_
 refine StepM.lookup rfl hM (by simp only[go_sem]) law3 Tryz.underlying124 qka (plainElem_bool Tryz.underlying4 false) (by simp only[go_sem]) (keyOf_int_mk Tryz.underlying3 hw) (qaN S x) rfl ?_
 refine qh 1 ?_;simp only[wm,wg,wj,ww];simp only[go_sem]
 refine qc1 ?_
 simp only[go_sem]
 rfl
theorem Zv{d:Dcm}(W:WfD d)(hi:IdB d){x:Int}(h:x∈d.ids):wfI x:=by
 obtain⟨n,hn,e⟩:=WfD.ids_mem.1 h
 rw[<-e];exact Qo W hi hn
theorem qov{d:Dcm}(W:WfD d){k x:Int}(h:x∈d.chain k):x∈d.ids:=by
 unfold Dcm.chain at h
 obtain⟨n,hn,e⟩:=wI.1 h
 exact WfD.ids_mem.2 ⟨n,W.up_mem _ n hn,e⟩
theorem qot{d:Dcm}(W:WfD d){k:Int}(h:k∈d.ids):1<=(d.chain k).length:=by
 obtain⟨n,hn,e⟩:=WfD.ids_mem.1 h
 subst e
 unfold Dcm.chain;rw[we,W.up_cons hn];simp
theorem qou{d:Dcm}(W:WfD d)(k:Int):(d.chain k).length<=d.tiers.length:=by
 unfold Dcm.chain;rw[we];exact W.up_le k
structure HasI(d:Dcm)(B S:List Int)(left:Lit->Bool)(cnt:Nat):Prop where
 len:S.length+cnt*100000<=B.length*100000
 sub: ∀x,x∈S->∃k∈B,x∈(d.chain k).drop 1
 all: ∀k∈B,left (.int .i64 k)=true\/∀x∈(d.chain k).drop 1,x∈S
 has: ∀kl,left kl=true->Maps.has (vA B) kl=true
def thrM(ba:Nat)(m:MO)(bb:Nat)(m2:MO)(r:Nat)(m3:MO):MS:=fun k=>if k=r then some m3 else if k=bb then some m2 else if k=ba then some m else none
theorem qpe(ba:Nat)(m:MO)(bb:Nat)(m2:MO)(r:Nat)(m3 m4:MO):(thrM ba m bb m2 r m3).set r m4=thrM ba m bb m2 r m4:=by funext k;simp only[MS.set,thrM];split<;>rfl
theorem ql8(ba:Nat)(m:MO)(bb:Nat)(m2:MO)(r:Nat)(m3:MO):thrM ba m bb m2 r m3 r=some m3:=by simp[thrM]
theorem qrj{ba bb r:Nat}(h1:ba≠bb)(h2:ba≠r)(m m2 m3:MO):thrM ba m bb m2 r m3 ba=some m:=by simp[thrM,h1,h2]
theorem ql7{ba bb r:Nat}(h1:ba≠bb)(h2:ba≠r)(m m2 m3 m4:MO):(thrM ba m bb m2 r m3).set ba m4=thrM ba m4 bb m2 r m3:=by
 funext k;simp only[MS.set,thrM]
 by_cases e:k=ba
 ·subst e;simp[h1,h2]
 ·simp[e]
theorem thrM_on{ba bb r:Nat}(h1:ba≠bb){S B:List Int}{left:Lit->Bool}{cnt:Nat}{cur:Option (Value×Value)}: ∀q m,thrM ba (setM S) bb (setM B) r (itM bb B left cnt cur) q=some m->q≠ba->¬m.on ba:=fun q m h hq hc=>by
 simp only[thrM,if_neg hq]at h
 split at h
 ·injection h with h;subst h
  have:bb=ba:=hc
  exact h1 this.symm
 ·split at h
  ·injection h with h;subst h;exact hc.elim
  ·cases h
theorem thrM_le{ba bb r:Nat}(h1:ba≠bb)(h2:ba≠r)(m m2 m3:MO): ∀k x,oneM ba m k=some x->thrM ba m bb m2 r m3 k=some x:=fun k x h=>by
 simp only[oneM]at h
 split at h
 ·rename_i e;rw[e,qrj h1 h2];exact h
 ·cases h
theorem hasM_D(d:Dcm)(W:WfD d)(hl:d.notes.length<=1000)(ht:d.tiers.length<=100000)(hi:IdB d)(a b:List Int)(ha:a.length<=1000000)(hb:b.length<=1000000):DCalls pP 38 [.agg d.row,dv (.sl 1 (ints a)),dv (.sl 1 (ints b))] (dv (.sl 1 (ints (hasE d a b)))):=by
 have qK:=kmax
 have hB:=of_C d W hl hi b hb
 have hA:=of_C d W hl hi a ha
 have hbl:(b.filter (isN d)).length<=1000000:=wD (wC _ _) hb
 have hal:(a.filter (isN d)).length<=1000000:=wD (wC _ _) ha
 have hub:=vT W b
 have hua:=vT W a
 have hA0: ∀x∈a.filter (isN d),wfI x:=fun x hx=>Zv W hi ((qfc W).1 (wQ.1 hx).2)
 have qbg:hasE d a b=(qI d a).filter fun i=>(qI d b).any fun k=>inL ((d.chain k).drop 1) i:=rfl
 have hB0: ∀x∈b.filter (isN d),x∈d.ids:=fun x hx=>(qfc W).1 (wQ.1 hx).2
 have hBm: ∀k,k∈b.filter (isN d)↔k∈qI d b:=fun k=>by rw[<-hub,(qi _).2]
 rw[qbg]
 generalize b.filter (isN d)=B0 at*
 generalize a.filter (isN d)=A0 at*
 have hC:=fun k=>chain_D d W k (by omega) (by omega)
 refine DCalls.of_maps ?_
 refine QS (N:=37) (rs:=[.tmp 6]) (by kernel_rfl) Tryz.func38 rfl rfl rfl (by simp) ?_
 refine qe ?_
 refine qq (N:=37) rfl (by kernel_rfl) ?_;simp +decide only[go_sem,Dcm.row]
 refine qaL 3 7 [d.enc] [] (by decide) (by simp +decide only[go_sem,Dcm.enc,wM]) (fun r hr=>by simp at hr;rw[hr];rfl) ?_
 refine qe ?_
 refine qu (N:=37) rfl (by kernel_rfl) ?_
 refine qx rfl ?_
 refine StepM.makeMap rfl 3 (plainElem pP 4) ?_
 intro ba _
 rw[qeP,qc0]
 refine qh 2 ?_;simp only[wm,wg,wj,ww];simp +decide only[go_sem]
 refine qaL 7 1 [[.lit (.map (some ba))]] [] (by decide) (by simp +decide only[go_sem,wM]) (fun r hr=>by simp at hr;rw[hr];rfl) ?_
 refine vN (kL (N:=37) (sls:=[(1,dv (.sl 1 (ints a))),(2,dv (.sl 1 (ints b))),(3,dv (.pt d.enc)),(7,dv (.pt [.lit (.map (some ba))]))]) (bx:=qc) rfl (by simp +decide only[go_sem,Dcm.enc]) (by simp[qc])) ?_
 refine qe ?_
 refine qe ?_
 refine qu (N:=37) rfl (by kernel_rfl) ?_
 refine qh 2 ?_;simp only[wm,wg,wj,ww];simp +decide only[go_sem,Dcm.enc]
 refine qx rfl ?_
 refine StepM.call (ns:=[]) (caps:=[]) rfl hB rfl (DLeL.of_eq (by simp +decide only[go_sem,Dcm.row])) (vF _) (zB (by decide)) (fun _ _ h=>by cases h) (fun _ _ _ _ _ _=>rfl) ?_
 rintro r H' M' ⟨bb,rfl,rfl,rfl⟩ hfr
 have hab:ba≠bb:=fun e=>by
  have:=hfr bb (by rw[zb];rfl)
  rcases this with h|h
  ·cases h
  ·rw[<-e,zb]at h;cases h
 have hj:qan (oneM ba (setM [])) noMap (oneM bb (setM B0))=twoM ba (setM []) bb (setM B0):=by
  funext k;unfold qan noMap oneM twoM;by_cases e:k=bb<;>simp[e]
 rw[hj]
 refine qx rfl ?_
 refine StepM.range rfl (b:=bb) (n:=B0.length) (D0:=vA B0) (R:=plainElem pP 4) (by simp[twoM,setM]) (by simp +decide only[go_sem]) law3 Tryz.underlying124 ?_
 intro r hr
 have hrb:ba≠r:=fun e=>by
  subst e
  simp only[twoM,if_neg hab,if_true]at hr
  cases hr
 rw[show (twoM ba (setM []) bb (setM B0)).set r (.it bb 3 (plainElem pP 4) B0.length (vA B0) (Maps.has (vA B0)) (Maps.size (vA B0)) none)=thrM ba (setM []) bb (setM B0) r (itM bb B0 (Maps.has (vA B0)) (Maps.size (vA B0)) none) from rfl]
 simp +decide only[go_sem]
 refine vN (kL (N:=37) (sls:=[(1,dv (.sl 1 (ints a))),(3,dv (.pt d.enc)),(7,dv (.pt [.lit (.map (some ba))])),(15,itrD r)]) (bx:=qc) rfl (by simp +decide only[go_sem,Dcm.enc]) (by simp[qc])) ?_
 refine vh ?_
 refine ZS (fun y:List Int×(Lit->Bool)×Nat×Option (Value×Value)=>kn 37 [(1,dv (.sl 1 (ints a))),(3,dv (.pt d.enc)),(7,dv (.pt [.lit (.map (some ba))]))] qc) (fun y=>thrM ba (setM y.1) bb (setM B0) r (itM bb B0 y.2.1 y.2.2.1 y.2.2.2)) (fun y=>∀x,x∈y.1↔∃k∈B0,x∈(d.chain k).drop 1) ?_ ?_
 ·refine qe7 (fun y:List Int×(Lit->Bool)×Nat×Option (Value×Value)=>kn 37 [(1,dv (.sl 1 (ints a))),(3,dv (.pt d.enc)),(7,dv (.pt [.lit (.map (some ba))])),(15,itrD r)] qc) (fun y=>thrM ba (setM y.1) bb (setM B0) r (itM bb B0 y.2.1 y.2.2.1 y.2.2.2)) (fun y=>HasI d B0 y.1 y.2.1 y.2.2.1) (fun y=>y.2.2.1) ([],Maps.has (vA B0),Maps.size (vA B0),none) (kL rfl (by simp +decide only[go_sem,Dcm.enc]) (by simp[qc])) rfl ⟨by have:=(qje _ B0 rfl).2;simp only[wR];omega,by simp,fun k hk=>.inl ((qfl (S:=B0) k).trans (inL_mem.2 hk)),fun _ h=>h⟩ ?_
  rintro⟨S,left,cnt,cur⟩ ⟨g1,g2,g3,g4⟩
  simp only at g1 g2 g3 g4 ⊢
  refine qe ?_
  refine qu (N:=37) rfl (by kernel_rfl) ?_
  refine qx rfl ?_
  refine StepM.next rfl (ql8 ba (setM S) bb (setM B0) r (itM bb B0 left cnt cur)) (by simp +decide only[go_sem]) law3 ?_ ?_
  ·intro hc hl
   refine qh 1 ?_;simp only[wm,wg,wj,ww];simp +decide only[go_sem]
   refine qam ?_
   repeat' first|(first|refine kcc ?_|apply kU);simp +decide only[go_sem]|apply kh<;>intro qa
   refine⟨(S,left,cnt,cur),fun x=>⟨g2 x,fun⟨k,hk,hx⟩=>((g3 k hk).resolve_left (by rw[hl];decide)) x hx⟩,kL rfl (by simp +decide only[go_sem,Dcm.enc]) (by simp[qc]),rfl⟩
  ·intro key v kl y cnt' qlR hlk hv hat hlt
   obtain⟨x,rfl,rfl,hw⟩:=qnF qlR
   have hxB:x∈B0:=by have:=g4 _ hlk;rw[qfl]at this;exact inL_mem.1 this
   rw[qpe]
   obtain⟨left',hleft'⟩: ∃l':Lit->Bool,l'=fun z=>left z&& !z.sameKey (.int .i64 x):=⟨_,rfl⟩
   rw[<-hleft']
   have hCx:=hC x
   have hcl:=qou W x
   have hcw: ∀z∈(d.chain x).drop 1,wfI z:=fun z hz=>Zv W hi (qov W (ym hz))
   simp only[Dcm.row]at hCx
   refine qh 1 ?_;simp only[wm,wg,wj,ww];simp +decide only[go_sem]
   refine qe ?_
   apply qP;(simp +decide only[go_sem];rfl)
   ·intro _
    refine vK ?_
    simp +decide only[go_sem]
    refine vh ?_
    refine qe ?_
    refine qu (N:=37) rfl (by kernel_rfl) ?_
    refine qx rfl ?_
    refine StepM.entry (key:=.int .i64 x) (v:=v) (dk:=dv (li x)) (dv':=.any) rfl (ql8 ba (setM S) bb (setM B0) r (itM bb B0 left' cnt' (some (.int .i64 x,v)))) (by simp +decide only[go_sem]) (fun w E=>.one _ _ (.c _ _ (.lit _ rfl))) (fun w E=>.any _) ?_
    refine qh 2 ?_;simp only[wm,wg,wj,ww];simp +decide only[go_sem]
    refine qe ?_
    have h1c:Int.toNat 1<=(d.chain x).length:=qot W (hB0 x hxB)
    have hdc:List.drop (Int.toNat 1) (List.take (d.chain x).length (ints (d.chain x)))=ints ((d.chain x).drop 1):=by
     rw[wO (by simp)];exact ji.symm
    refine qq (N:=37) rfl (by kernel_rfl) ?_;simp +decide only[go_sem,Dcm.enc]
    (first|refine kx hCx ?_);simp +decide only[go_sem,h1c,hdc]
    generalize hL:(d.chain x).drop 1=L at*
    have hLl:L.length<=100000:=by rw[<-hL,yc];omega
    refine vh ?_
    refine qef L (fun k (_:Unit)=>kn 37 [(1,dv (.sl 1 (ints a))),(3,dv (.pt d.enc)),(7,dv (.pt [.lit (.map (some ba))])),(15,itrD r),(23,dv (.sl 1 (ints L))),(24,dv (li L.length)),(25,dv (li k))] qc) (fun k _=>thrM ba (setM (S++L.take k)) bb (setM B0) r (itM bb B0 left' cnt' (some (.int .i64 x,v)))) (fun _ _=>True) () (by omega) (kL rfl (by simp +decide only[go_sem,Dcm.enc]) (by simp[qc])) (by rw[wg,wM];rfl) trivial ?_ ?_
    ·intro k z _ hz hk hm htk qgO hw1 _
     have hz':=qp hz
     have hwz:=hcw z hm
     have hln:(S++L.take k).length<maxLen:=by rw[wA,wx];omega
     rw[htk,<-wU]
     generalize S++L.take k=S2 at*
     refine qe ?_
     refine qq (N:=37) rfl (by kernel_rfl) ?_;simp +decide only[go_sem,qgO]
     refine qe ?_
     apply qP;(simp +decide only[go_sem];rfl)
     ·intro _
      refine vK ?_
      simp +decide only[go_sem]
      refine qe ?_
      refine vh ?_
      refine qe ?_
      refine qq (N:=37) rfl (by kernel_rfl) ?_;simp +decide only[go_sem,hz']
      refine qu (N:=37) rfl (by kernel_rfl) ?_
      refine qh 2 ?_;simp only[wm,wg,wj,ww];simp +decide only[go_sem]
      refine qx rfl ?_
      refine StepM.update rfl rfl (qrj hab hrb (setM S2) (setM B0) _) (by simp +decide only[go_sem]) law3 Tryz.underlying124 hln (by simp +decide only[go_sem]) (keyOf_int_mk Tryz.underlying3 hwz) (by simp +decide only[go_sem]) (plainElem_bool Tryz.underlying4 true) (thrM_on hab) ?_
      rw[ql7 hab hrb,snocM]
      simp +decide only[go_sem]
      refine qq (N:=37) rfl (by kernel_rfl) ?_;simp +decide only[go_sem,hw1]
      exact⟨(),kl⟩
     ·intro h;cases h
    ·intro _ qgO _
     rw[wh]
     refine qe ?_
     refine qq (N:=37) rfl (by kernel_rfl) ?_;simp +decide only[go_sem,qgO]
     refine qe ?_
     apply qP;(simp +decide only[go_sem];rfl)
     ·intro h;cases h
     ·intro _
      refine qbv ?_
      simp +decide only[go_sem]
      refine⟨(S++L,left',cnt',some (.int .i64 x,v)),⟨by simp;omega,fun z hz=>?_,fun k hk=>?_,fun kl h=>g4 kl (by rw[hleft']at h;simp only[wu]at h;exact h.1)⟩,hlt,kL rfl (by simp +decide only[go_sem,Dcm.enc]) (by simp[qc]),rfl⟩
      ·rcases wo.1 hz with hz|hz
       ·exact g2 z hz
       ·exact⟨x,hxB,by rw[hL];exact hz⟩
      ·by_cases e:k=x
       ·subst e
        exact .inr fun z hz=>wo.2 (.inr (by rw[<-hL];exact hz))
       ·rcases g3 k hk with h|h
        ·refine .inl ?_
         rw[hleft']
         simp only[wu]
         exact⟨h,by simp[Lit.sameKey,e]⟩
        ·exact .inr fun z hz=>wo.2 (.inl (h z hz))
   ·intro h;cases h
 ·rintro⟨S,left,cnt,cur⟩ hS
  simp only at hS ⊢
  refine qic (thrM_le hab hrb _ _ _) ?_
  refine qe ?_
  refine qu (N:=37) rfl (by kernel_rfl) ?_
  refine qh 2 ?_;simp only[wm,wg,wj,ww];simp +decide only[go_sem,Dcm.enc]
  refine qx rfl ?_
  refine StepM.call (ns:=[]) (caps:=[]) rfl hA rfl (DLeL.of_eq (by simp +decide only[go_sem,Dcm.row])) (vF _) (zB (by decide)) (fun _ _ h=>by cases h) (fun _ _ _ _ _ _=>rfl) ?_
  rintro r2 H' M' ⟨b2,rfl,rfl,rfl⟩ hfr2
  have hab2:ba≠b2:=fun e=>by
   have:=hfr2 b2 (by rw[zb];rfl)
   rcases this with h|h
   ·cases h
   ·rw[<-e,zb]at h;cases h
  have hj2:qan (oneM ba (setM S)) noMap (oneM b2 (setM A0))=twoM ba (setM S) b2 (setM A0):=by
   funext k;unfold qan noMap oneM twoM;by_cases e:k=b2<;>simp[e]
  rw[hj2]
  have hon2: ∀q m,twoM ba (setM S) b2 (setM A0) q=some m->∀c,¬m.on c:=fun q m h c hc=>by
   simp only[twoM]at h
   split at h
   ·injection h with h;subst h;exact hc.elim
   ·split at h
    ·injection h with h;subst h;exact hc.elim
    ·cases h
  refine qh 1 ?_;simp only[wm,wg,wj,ww];simp +decide only[go_sem]
  refine qx rfl ?_
  refine StepM.call (ns:=[]) (caps:=[]) rfl (qnK A0 hal b2 (twoM ba (setM S) b2 (setM A0)) (by simp[twoM]) hon2 89 [.pt [.lit (.map (some ba))]] (inL S) (fun x hx=>has1_C ba S _ (by simp[twoM,hab2]) x (hA0 x hx))) rfl (DLeL.of_eq (by simp +decide only[go_sem])) (vF _) (zB (by decide)) (fun _ _ h=>h) (fun r m hr _ c hc=>absurd hc (hon2 r m hr c)) ?_
  rintro r3 H' M' ⟨rfl,rfl,hM'⟩ _
  rw[hua]
  have hfe:(qI d a).filter (inL S)=(qI d a).filter fun i=>(qI d b).any fun k=>inL ((d.chain k).drop 1) i:=by
   refine jt fun x _=>?_
   rw[yH,inL_mem,hS,yo]
   constructor
   ·rintro⟨k,hk,hx⟩;exact⟨k,(hBm k).1 hk,inL_mem.2 hx⟩
   ·rintro⟨k,hk,hx⟩;exact⟨k,(hBm k).2 hk,inL_mem.1 hx⟩
  rw[hfe]
  refine qh 1 ?_;simp only[wm,wg,wj,ww];simp +decide only[go_sem]
  refine qc1 ?_
  simp +decide only[go_sem]
end Go.Proofs.YtaaodllggdjhiaaGreatDoor
namespace Go.Proofs.YtaaodllggdjhiaaGreatDoor
open Go.Dl S Go.Maps Go.RowKit
attribute [local irreducible] DW DCalls ECalls qo wk IW MW StepM vL
theorem qgu: ∀(l:List Int) (x:Int),ZE l x=0\/ZE l x∈l
 | [],_=>.inl (by simp[ZE])
 | [a],_=>.inl (by simp[ZE])
 | a::b::r,x=>by
  unfold ZE
  split
  ·exact .inr (by simp)
  ·rcases qgu (b::r) x with h|h
   ·exact .inl h
   ·exact .inr (yN _ h)
theorem next_wf{d:Dcm}(W:WfD d)(hi:IdB d)(x:Int):wfI (d.next x):=by
 have h0:wfI 0:=ql0 (by decide) (by decide)
 unfold Dcm.next
 split
 ·exact h0
 ·rename_i n hn
  rcases qgu (d.kids n.par n.tier) x with h|h
  ·rw[h];exact h0
  ·obtain⟨m,hm,e⟩:=wI.1 h
   rw[<-e];exact Qo W hi (W.kidN_mem.1 hm).1
set_option maxRecDepth 100000 in
theorem then1_C(d:Dcm)(W:WfD d)(hl:d.notes.length<=19)(hi:IdB d)(bm:Nat)(S:List Int)(M:MS)(hM:M bm=some (setM S))(x:Int):
  MCalls pP 84 [dv (li x),dv (.pt [.lit (.map (some bm))]),dv (.pt d.enc)] qc M (fun r H' M'=>r=dv (lb (inL S (d.next x)))/\H'=qc/\M'=M):=by
 have hN:=nextP_D d x hl
 refine⟨by kernel_rfl,fun w E F vs hwi hmo hsz hv=>?_⟩
 obtain⟨v0,v1,v2,rfl⟩: ∃v0 v1 v2,vs= #[v0,v1,v2]:=by
  match vs,hsz with
  | ⟨[a,b,c]⟩,_=>exact⟨a,b,c,rfl⟩
 obtain rfl:=(hv 0 _ v0 rfl rfl).lit
 have h1:=hv 1 _ v1 rfl rfl
 have h2:=hv 2 _ v2 rfl rfl
 have ZX:w.ownsMap pP 3 (plainElem pP 4) bm S.length (vA S):=hmo bm _ hM
 cases h1 with|one t v h1=>cases h1 with|c c v h1=>cases h1 with
  | pt cs b1 o1 cv1 hK1 hr1=>
   have c1:w.cell? ⟨b1,o1,none⟩=some (.map (some bm)):=by
    have e:=(hK1 0 (by simp)).2
    have e2:=hr1 0 _ rfl
    have e3:cv1 0= .map (some bm):=(VD.one _ _ (VT.c _ _ e2):VD w E (mpD bm) (cv1 0)).lit
    rw[e3]at e;exact e
   have k1:=(hK1 0 (by simp)).1
   cases h2 with|one t v h2=>cases h2 with|c c v h2=>cases h2 with
    | pt cs b2 o2 cv2 hK2 hr2=>
     have hD:VD w E (dv (.pt d.enc)) (.pointer (some ⟨b2,o2,none⟩)):=.one _ _ (.c _ _ (.pt _ b2 o2 cv2 hK2 hr2))
     have hk0:KOk w E.K:=hwi.kok
     have hb1:b1<w.heap.size:=qy (hk0 _ _ k1)
     have hbm:bm<w.heap.size:=(MO.ok.like (m:=setM S) ZX).lt
     obtain⟨y0,y1,y2,y3,y4,y5,y6,hyc,hud⟩: ∃y0 y1 y2 y3 y4 y5 y6,(∀w',Below w.heap.size w w'->w'.cell? ⟨b2,o2,none⟩=some y0/\w'.cell? ⟨b2,o2+1,none⟩=some y1/\w'.cell? ⟨b2,o2+2,none⟩=some y2/\w'.cell? ⟨b2,o2+3,none⟩=some y3/\w'.cell? ⟨b2,o2+4,none⟩=some y4/\w'.cell? ⟨b2,o2+5,none⟩=some y5/\w'.cell? ⟨b2,o2+6,none⟩=some y6)/\VD w (E0 E.K) (.agg d.row) (.agg #[y0,y1,y2,y3,y4,y5,y6]):=by
      have hb2:b2<w.heap.size:=qy (hk0 _ _ (hK2 0 (by simp[Dcm.enc])).1)
      have hcj: ∀j,j<7->∀w',Below w.heap.size w w'->w'.cell? ⟨b2,o2+j,none⟩=some (cv2 j):=fun j hj w' hb=>(hb.cell (p:=⟨b2,o2+j,none⟩) hb2).trans (hK2 j (by simp[Dcm.enc];exact hj)).2
      refine⟨cv2 0,cv2 1,cv2 2,cv2 3,cv2 4,cv2 5,cv2 6,fun w' hb=>⟨hcj 0 (by decide) w' hb,hcj 1 (by decide) w' hb,hcj 2 (by decide) w' hb,hcj 3 (by decide) w' hb,hcj 4 (by decide) w' hb,hcj 5 (by decide) w' hb,hcj 6 (by decide) w' hb⟩,.agg _ _ rfl fun j t v h1 h2=>?_⟩
      match j with
      | 0=>simp[Dcm.row]at h1 h2;subst h1;subst h2;exact .c _ _ (hr2 0 _ rfl)
      | 1=>simp[Dcm.row]at h1 h2;subst h1;subst h2;exact .c _ _ (hr2 1 _ rfl)
      | 2=>simp[Dcm.row]at h1 h2;subst h1;subst h2;exact .c _ _ (hr2 2 _ rfl)
      | 3=>simp[Dcm.row]at h1 h2;subst h1;subst h2;exact .c _ _ (hr2 3 _ rfl)
      | 4=>simp[Dcm.row]at h1 h2;subst h1;subst h2;exact .c _ _ (hr2 4 _ rfl)
      | 5=>simp[Dcm.row]at h1 h2;subst h1;subst h2;exact .c _ _ (hr2 5 _ rfl)
      | 6=>simp[Dcm.row]at h1 h2;subst h1;subst h2;exact .c _ _ (hr2 6 _ rfl)
      | _+7=>simp[Dcm.row]at h1
     have qb2: ∀w',Below w.heap.size w w'->(Instr.lookup 124 (.map (some bm)) (.int .i64 (d.next x)) false).run pP w'= .ok (.bool (inL S (d.next x))) w':=fun w' hb=>by
      have hown':w'.ownsMap pP 3 (plainElem pP 4) bm S.length (vA S):=by
       obtain⟨es,c,g1,g2⟩:=ZX
       exact⟨es,c,(hb.block bm hbm).trans g1,g2⟩
      obtain⟨v,ps,vi,hv⟩:=World.ownsMap.lookup hown' law3 Tryz.underlying124 (qka w') (plainElem_bool Tryz.underlying4 false) (keyOf_int_mk Tryz.underlying3 (next_wf W hi x))
      rw[vi,qaN S (d.next x) v ps hv]
     have QF: ∀w',Below w.heap.size w w'->w'.cell? ⟨b1,o1,none⟩=some (.map (some bm)):=fun w' hb=>(hb.cell (p:=⟨b1,o1,none⟩) hb1).trans c1
     have Zr: ∀w',Below w.heap.size w w'->(Below w.heap.size w w'/\w'.cell? ⟨b1,o1,none⟩=some (.map (some bm))/\w'.cell? ⟨b2,o2,none⟩=some y0/\w'.cell? ⟨b2,o2+1,none⟩=some y1/\w'.cell? ⟨b2,o2+2,none⟩=some y2/\w'.cell? ⟨b2,o2+3,none⟩=some y3/\w'.cell? ⟨b2,o2+4,none⟩=some y4/\w'.cell? ⟨b2,o2+5,none⟩=some y5/\w'.cell? ⟨b2,o2+6,none⟩=some y6/\(Instr.lookup 124 (.map (some bm)) (.int .i64 (d.next x)) false).run pP w'= .ok (.bool (inL S (d.next x))) w'):=fun w' h=>by
      obtain⟨e0,e1,e2,e3,e4,e5,e6⟩:=hyc w' h
      exact⟨h,QF w' h,e0,e1,e2,e3,e4,e5,e6,qb2 w' h⟩
     have qaq: ∀w',Below w.heap.size w w'->Calls pP 85 #[.agg #[y0,y1,y2,y3,y4,y5,y6],.int .i64 x] w' fun e w2=>e= .returned (.int .i64 (d.next x))/\Below w.heap.size w w2:=fun w' hb=>by
      have hk':KOk w' E.K:=ZL hk0 hb
      have hcl:Later w (E0 E.K) w' (E0 E.K):=⟨fun b o h=>⟨h,hb.cell (p:=⟨b,o,none⟩) (qy (hk0 b o h))⟩,rfl,rfl⟩
      unfold DCalls at hN
      refine(hN.2 w' E.K #[.agg #[y0,y1,y2,y3,y4,y5,y6],.int .i64 x] hk' rfl fun j d v h1 h2=>?_).mono ?_
      ·match j with
       | 0=>simp at h1 h2;subst h1;subst h2;exact hud.mono hcl
       | 1=>simp at h1 h2;subst h1;subst h2;exact .one _ _ (.c _ _ (.lit _ rfl))
       | _+2=>simp at h1
      ·rintro e w2 ⟨v,E',rfl,hR,hv2⟩
       rw[hv2.lit]
       exact⟨rfl,hb.trans (hR.below.mono hb.size)⟩
     have hfin: ∀w',Below w.heap.size w w'->∃v E' r H' M' y,Ending.returned (.bool (inL S (d.next x)))= .returned v/\(r=dv (lb (inL S (d.next x)))/\H'=qc/\M'=M)/\MT (fun b=>(M b).isSome=true) w y/\WI ⟨y,E.K,F,E.ρ,NB,none,w.heap.size⟩ w' E' H'/\VD w' E' r v/\MOk pP w' M'/\∀b,(M' b).isSome=true->b<w.heap.size->(M b).isSome=true:=fun w' hb=>
      ⟨_,E,_,qc,M,w,rfl,⟨rfl,rfl,rfl⟩,MT.refl _ _,hwi.quiet ⟨hb,fun _ _ h=>h,fun _ _ _ h=>h,ZL hwi.kok hb,rfl,rfl⟩,.one _ _ (.c _ _ (.lit _ rfl)),hmo.keep (fun b hb'=>hb.block b hb'.lt),fun b hb _=>hb⟩
     clear ZX hmo hM hv hwi hD hr1 hr2 hK1 hK2
     go_enter Tryz.func84,Tryz.ntmps84
     go_wp2
     go_region_held3 (fun w'=>Below w.heap.size w w'/\w'.cell? ⟨b1,o1,none⟩=some (.map (some bm))/\w'.cell? ⟨b2,o2,none⟩=some y0/\w'.cell? ⟨b2,o2+1,none⟩=some y1/\w'.cell? ⟨b2,o2+2,none⟩=some y2/\w'.cell? ⟨b2,o2+3,none⟩=some y3/\w'.cell? ⟨b2,o2+4,none⟩=some y4/\w'.cell? ⟨b2,o2+5,none⟩=some y5/\w'.cell? ⟨b2,o2+6,none⟩=some y6/\(Instr.lookup 124 (.map (some bm)) (.int .i64 (d.next x)) false).run pP w'= .ok (.bool (inL S (d.next x))) w')
      (first
       | (exact Zr _ (Below.refl _ _))
       | (exact Zr _ (Below.refl _ _).drew)
       | (go_split_ands;exact Zr _ (by assumption))
       | (go_split_ands;exact Zr _ (Below.drew (by assumption))))
      (first|(go_at_call 85;refine(qaq _ (by first|assumption|exact(Below.refl _ _).drew)).mono ?_;rintro e w' ⟨rfl,hbw⟩))
     go_wp2
     go_ret
     exact hfin _ (by assumption)
end Go.Proofs.YtaaodllggdjhiaaGreatDoor
namespace Go.Proofs.YtaaodllggdjhiaaGreatDoor
open Go.Dl S Go.Maps
attribute [local irreducible] DW DCalls ECalls qo wk IW MW StepM vL MCalls
theorem qfU(a:Nat)(S:List Int)(b:Nat)(T:List Int): ∀q m,twoM a (setM S) b (setM T) q=some m->∀c,¬m.on c:=fun q m h c hc=>by
 simp only[twoM]at h
 split at h
 ·injection h with h;subst h;exact hc.elim
 ·split at h
  ·injection h with h;subst h;exact hc.elim
  ·cases h
theorem qnu{a b:Nat}(m m2:MO):qan (oneM a m) noMap (oneM b m2)=twoM a m b m2:=by
 funext k;unfold qan noMap oneM twoM;by_cases e:k=b<;>simp[e]
theorem two_ne{a b:Nat}{m m2:MO}(h: ∀c,(oneM b m2 c).isSome=true->(noMap c).isSome=true\/oneM a m c=none):a≠b:=fun e=>by
 have:=h b (by rw[zb];rfl)
 rcases this with h|h
 ·cases h
 ·rw[<-e,zb]at h;cases h
theorem thenM_D(d:Dcm)(W:WfD d)(hl:d.notes.length<=19)(hi:IdB d)(a b:List Int)(ha:a.length<=1000000)(hb:b.length<=1000000):DCalls pP 36 [.agg d.row,dv (.sl 1 (ints a)),dv (.sl 1 (ints b))] (dv (.sl 1 (ints (qhK d a b)))):=by
 have qK:=kmax
 have hB:=of_C d W (by omega) hi b hb
 have hA:=of_C d W (by omega) hi a ha
 have hal:(a.filter (isN d)).length<=1000000:=wD (wC _ _) ha
 have hub:=vT W b
 have hua:=vT W a
 have qbg:qhK d a b=(qI d a).filter fun i=>inL (qI d b) (d.next i):=rfl
 have hBm: ∀k,k∈b.filter (isN d)↔k∈qI d b:=fun k=>by rw[<-hub,(qi _).2]
 rw[qbg]
 generalize b.filter (isN d)=B0 at*
 generalize a.filter (isN d)=A0 at*
 refine DCalls.of_maps ?_
 refine QS (N:=16) (rs:=[.tmp 6]) (by kernel_rfl) Tryz.func36 rfl rfl rfl (by simp) ?_
 refine qe ?_
 refine qq (N:=16) rfl (by kernel_rfl) ?_;simp only[go_sem,Dcm.row]
 refine qaL 3 7 [d.enc] [] (by decide) (by simp only[go_sem,Dcm.enc,wM]) (fun r hr=>by simp at hr;rw[hr];rfl) ?_
 refine qe ?_
 refine qu (N:=16) rfl (by kernel_rfl) ?_
 refine qh 2 ?_;simp only[wm,wg,wj,ww];simp only[go_sem,Dcm.enc]
 refine qx rfl ?_
 refine StepM.call (ns:=[]) (caps:=[]) rfl hB rfl (DLeL.of_eq (by simp only[go_sem,Dcm.row])) (vF _) (zB (by decide)) (fun _ _ h=>h) (fun _ _ h=>by cases h) ?_
 rintro r H' M' ⟨bb,rfl,rfl,rfl⟩ _
 rw[qcd]
 refine qh 2 ?_;simp only[wm,wg,wj,ww];simp only[go_sem]
 refine qaL 7 1 [[.lit (.map (some bb))]] [] (by decide) (by simp only[go_sem,wM]) (fun r hr=>by simp at hr;rw[hr];rfl) ?_
 refine vN (kL (N:=16) (sls:=[(1,dv (.sl 1 (ints a))),(3,dv (.pt d.enc)),(7,dv (.pt [.lit (.map (some bb))]))]) (bx:=qc) rfl (by simp only[go_sem,qd,Dcm.enc]) (by simp[qc])) ?_
 refine qe ?_
 refine qu (N:=16) rfl (by kernel_rfl) ?_
 refine qh 2 ?_;simp only[wm,wg,wj,ww];simp only[go_sem,Dcm.enc]
 refine qx rfl ?_
 refine StepM.call (ns:=[]) (caps:=[]) rfl hA rfl (DLeL.of_eq (by simp only[go_sem,Dcm.row])) (vF _) (zB (by decide)) (fun _ _ h=>by cases h) (fun _ _ _ _ _ _=>rfl) ?_
 rintro r2 H' M' ⟨b2,rfl,rfl,rfl⟩ hfr
 have hne:=two_ne hfr
 rw[qnu]
 refine qh 1 ?_;simp only[wm,wg,wj,ww];simp only[go_sem]
 refine qx rfl ?_
 refine StepM.call (ns:=[]) (caps:=[]) rfl (qnK A0 hal b2 (twoM bb (setM B0) b2 (setM A0)) (by simp[twoM]) (qfU _ _ _ _) 84 [.pt [.lit (.map (some bb))],.pt d.enc] (fun i=>inL B0 (d.next i)) (fun x _=>then1_C d W hl hi bb B0 _ (by simp[twoM,hne]) x)) rfl (DLeL.of_eq (by simp only[go_sem,Dcm.enc])) (vF _) (zB (by decide)) (fun _ _ h=>h) (fun r m hr _ c hc=>absurd hc (qfU _ _ _ _ r m hr c)) ?_
 rintro r3 H' M' ⟨rfl,rfl,hM'⟩ _
 rw[hua]
 have hfe:(qI d a).filter (fun i=>inL B0 (d.next i))=(qI d a).filter fun i=>inL (qI d b) (d.next i):=by
  refine jt fun x _=>?_
  rw[yH,inL_mem,inL_mem,hBm]
 rw[hfe]
 refine qh 1 ?_;simp only[wm,wg,wj,ww];simp only[go_sem]
 refine qc1 ?_
 simp only[go_sem]
def tokE(t:Int):List C:=if t= -1 then [li 2,.lit (.int .i32 0)]else if t= -2 then [li 1,.lit (.int .i32 0)]else [li 0,.lit (.int .i32 t)]
def Qn(l:List Int):List (List C):=l.map tokE
theorem Qb(l:List Int):(Qn l).length=l.length:=by simp[Qn]
theorem qpd(t:Int):(tokE t).length=2:=by unfold tokE;split<;>(try split)<;>rfl
theorem qjr{s:ByteArray}{q:Nat}(hq:q<s.size){l:List Nat}(h:ptsL (s.data.toList.drop q)=some l):
  ∃l',ptsL (s.data.toList.drop (q+(Utf8.decode s q).2))=some l'/\l=(Utf8.decode s q).1::l'/\1<=(Utf8.decode s q).2/\q+(Utf8.decode s q).2<=s.size:=by
 rw[<-Go.Lib.decodeL_drop]
 have hsz:s.data.toList.length=s.size:=by simp
 cases hb:s.data.toList.drop q with
 | nil=>have:=congrArg List.length hb;simp at this;omega
 | cons b r=>
  rw[hb]at h
  have hne:(b::r)≠ []:=by simp
  have hbl:(b::r).length=s.size - q:=by rw[<-hb];simp
  cases hf:fstL (b::r)with
  | none=>rw[ZQ hne hf]at h;cases h
  | some d=>
   obtain⟨p,k⟩:=d
   have hw:=vV hf
   have hd:Go.Lib.decodeL (b::r)=(p,k):=by
    have h:=qar hne
    rw[hf,qnd]at h
    split at h
    ·cases h
    ·injection h with h;exact h.symm
   rw[hd]
   rw[QP hf]at h
   obtain⟨l',h1,h2⟩:=wy.1 h
   refine⟨l',?_,h2.symm,hw.1,by show q+k<=_;omega⟩
   rw[<-List.drop_drop,hb];exact h1
theorem qh0{s:ByteArray}{q:Nat}(hq: ¬q<s.size):ptsL (s.data.toList.drop q)=some []:=by
 rw[yE (by simp;omega)];exact ZP
theorem qrn(s:ByteArray): ∀(n q:Nat) (l:List Nat),s.size<=q+n->ptsL (s.data.toList.drop q)=some l->rnF s n q=l.map fun n:Nat=>(n:Int)
 | 0,q,l,hn,h=>by
  rw[qh0 (by omega)]at h;injection h with h;subst h;rfl
 | n+1,q,l,hn,h=>by
  unfold rnF
  by_cases hq:q<s.size
  ·rw[if_pos hq]
   obtain⟨l',h1,h2,h3,h4⟩:=qjr hq h
   subst h2
   rw[qrn s n _ l' (by omega) h1];rfl
  ·rw[if_neg hq]
   rw[qh0 hq]at h;injection h with h;subst h;rfl
theorem ptsI_rn{s:ByteArray}{l:List Int}(h:ptsI s=some l):rnL s=l:=by
 unfold ptsI at h
 obtain⟨l0,h1,h2⟩:=wy.1 h
 rw[<-h2]
 exact qrn s s.size 0 l0 (by omega) (by rw[ww];exact h1)
theorem qjJ(e:Bool):itmL e []=if e=true then none else some []:=by rw[itmL]
theorem qgF(e:Bool)(c:Int)(r:List Int):itmL e (c::r)=if(e&& !spcl c)=true then none else if(e|| !spcl c)=true then(itmL false r).map (c:: ·)else if c=42 then(itmL false r).map (-1:: ·)else if c=63 then(itmL false r).map (-2:: ·)else itmL true r:=by rw[itmL]
def oneS(r:Nat)(s:ByteArray)(pos:Nat):MS:=fun k=>if k=r then some (.st s pos)else none
theorem oneS_at(r:Nat)(s:ByteArray)(pos:Nat):oneS r s pos r=some (.st s pos):=by simp[oneS]
theorem qp8(r:Nat)(s:ByteArray)(pos pos':Nat):(oneS r s pos).set r (.st s pos')=oneS r s pos':=by funext k;simp only[MS.set,oneS];split<;>rfl
theorem qk0(r:Nat)(s:ByteArray)(pos:Nat):noMap.set r (.st s pos)=oneS r s pos:=by funext k;simp only[MS.set,oneS,noMap]
theorem qnM(p:ByteArray)(hs:p.size<=64){l t:List Int}(hp:ptsI p=some l)(ht:itmL false l=some t):DCalls pP 145 [dv (ls p)] (.tup [dv (.sl 2 (Qn t)),dv (lb true)]):=by
 have qK:=kmax
 obtain⟨l0,hl0,hl1⟩: ∃l0,ptsL p.data.toList=some l0/\(l0.map fun n:Nat=>(n:Int))=l:=by
  unfold ptsI at hp;exact wy.1 hp
 refine DCalls.of_maps ?_
 refine QS (N:=58) (rs:=[.tmp 2,.tmp 3]) (by kernel_rfl) Tryz.func145 rfl rfl rfl (by simp) ?_
 refine qe ?_
 refine qq (N:=58) rfl (by kernel_rfl) ?_;simp +decide only[go_sem]
 refine qe ?_
 refine qq (N:=58) rfl (by kernel_rfl) ?_;simp +decide only[go_sem]
 refine qe ?_
 refine qq (N:=58) rfl (by kernel_rfl) ?_;simp +decide only[go_sem]
 refine qe ?_
 refine qe ?_
 refine qu (N:=58) rfl (by kernel_rfl) ?_
 refine qh 1 ?_;simp only[wm,wg,wj,ww];simp +decide only[go_sem]
 refine qx rfl (StepM.rangeS (sx:=p) rfl (by simp +decide only[go_sem]) Tryz.underlying9 ?_)
 intro r _
 simp +decide only[go_sem]
 refine vN (qeK 4 4 2 (by simp +decide only[go_sem])) ?_
 refine vh ?_
 refine ZS (fun y:List Int×Bool×Nat=>kn 58 [(4,.one (.own 4 2 (Qn y.1))),(5,dv (lb y.2.1))] qc) (fun y=>oneS r p y.2.2) (fun y=>y.1=t/\y.2.1=false) ?_ ?_
 ·refine qe7 (fun y:Nat×List Nat×Bool×List Int=>kn 58 [(4,.one (.own 4 2 (Qn y.2.2.2))),(5,dv (lb y.2.2.1)),(10,itrD r)] qc) (fun y=>oneS r p y.1)
   (fun y=>ptsL (p.data.toList.drop y.1)=some y.2.1/\y.1<=p.size/\y.2.2.2.length<=y.1/\∃t',itmL y.2.2.1 (y.2.1.map fun n:Nat=>(n:Int))=some t'/\t=y.2.2.2++t') (fun y=>p.size - y.1) (0,l0,false,[]) (kL rfl (by simp +decide only[go_sem,Qn,wn]) (by simp[qc])) (qk0 r p 0) ⟨by rw[ww];exact hl0,by simp,by simp,t,by simp only;rw[hl1];exact ht,rfl⟩ ?_
  rintro⟨pos,rest,e,out⟩ ⟨g1,g2,g3,t',g4,g5⟩
  simp only at g1 g2 g3 g4 g5 ⊢
  refine qe ?_
  refine qu (N:=58) rfl (by kernel_rfl) ?_
  refine qx rfl (StepM.nextS rfl (oneS_at r p pos) (by simp +decide only[go_sem]) ?_ ?_)
  ·intro hlt
   rw[qh0 hlt]at g1
   injection g1 with g1;subst g1
   rw[wn,qjJ]at g4
   cases e
   rotate_left
   ·rw[if_pos rfl]at g4;cases g4
   rw[if_neg (by decide)]at g4
   injection g4 with g4;subst g4
   rw[wM]at g5;subst g5
   refine qh 1 ?_;simp only[wm,wg,wj,ww];simp +decide only[go_sem]
   refine qam ?_
   repeat' first|(first|refine kcc ?_|apply kU);simp +decide only[go_sem]|apply kh<;>intro qa
   exact⟨(t,false,pos),⟨rfl,rfl⟩,kl,rfl⟩
  ·intro hlt
   obtain⟨l',k1,k2,k3,k4⟩:=qjr hlt g1
   subst k2
   rw[qp8]
   rw[wt,qgF]at g4
   have hx0:(0:Int)<=((Utf8.decode p pos).1:Int):=by omega
   generalize ((Utf8.decode p pos).1:Int)=x at*
   generalize hq:pos+(Utf8.decode p pos).2=q at*
   have hb8:((out.length+1)*16<=140737488355328)=True:=eq_true (by omega)
   have hmu:p.size - q<p.size - pos:=by omega
   refine qh 1 ?_;simp only[wm,wg,wj,ww];simp +decide only[go_sem]
   refine qam ?_
   have sp42:spcl 42=true:=by decide
   have sp63:spcl 63=true:=by decide
   have sp92:spcl 92=true:=by decide
   have e42:tokE (-1)= [li 2,.lit (.int .i32 0)]:=rfl
   have e63:tokE (-2)= [li 1,.lit (.int .i32 0)]:=rfl
   have ex:tokE x= [li 0,.lit (.int .i32 x)]:=by unfold tokE;rw[if_neg (by omega),if_neg (by omega)]
   have fin: ∀(tok:Int) (t2:List Int) (s':DS),itmL false (l'.map fun n:Nat=>(n:Int))=some t2->tok::t2=t'->s'.Sub (kn 58 [(4,.one (.own 4 2 (Qn (out++[tok])))),(5,dv (lb false)),(10,itrD r)] qc)->
     ∃x':Nat×List Nat×Bool×List Int,(ptsL (p.data.toList.drop x'.1)=some x'.2.1/\x'.1<=p.size/\x'.2.2.2.length<=x'.1/\∃t',itmL x'.2.2.1 (x'.2.1.map fun n:Nat=>(n:Int))=some t'/\t=x'.2.2.2++t')/\p.size - x'.1<p.size - pos/\s'.Sub (kn 58 [(4,.one (.own 4 2 (Qn x'.2.2.2))),(5,dv (lb x'.2.2.1)),(10,itrD r)] qc)/\oneS r p q=oneS r p x'.1:=fun tok t2 s' h2 h3 h4=>
    ⟨(q,l',false,out++[tok]),⟨k1,k4,by simp;omega,t2,h2,by rw[g5,<-h3];simp⟩,hmu,h4,rfl⟩
   cases e
   ·cases c1:x==42
    ·cases c2:x==63
     ·cases c3:x==92
      ·have hsp:spcl x=false:=by unfold spcl;simp at c1 c2 c3;simp[c1,c2,c3]
       rw[hsp]at g4
       simp only[jB,w8,if_false,Bool.not_false,yD,if_true]at g4
       obtain⟨t2,h2,h3⟩:=wy.1 g4
       repeat' first|(first|refine kcc ?_|apply kU);simp +decide only[go_sem,c1,c2,c3,hb8,Qb]|apply kh<;>intro qa
       exact fin x t2 _ h2 h3 (kL rfl (by simp +decide only[go_sem,Qn,wJ,wt,wn,ex]) (by simp[qc]))
      ·have:x=92:=by simpa using c3
       subst this
       rw[sp92]at g4
       simp only[wT,jA,Bool.or_self,w8,if_false]at g4
       rw[if_neg (by decide),if_neg (by decide)]at g4
       repeat' first|(first|refine kcc ?_|apply kU);simp +decide only[go_sem,c1,c2,c3]|apply kh<;>intro qa
       exact⟨(q,l',true,out),⟨k1,k4,by simp only;omega,t',g4,g5⟩,hmu,kl,rfl⟩
     ·have:x=63:=by simpa using c2
      subst this
      rw[sp63]at g4
      simp only[wT,jA,Bool.or_self,w8,if_false,if_true]at g4
      rw[if_neg (by decide)]at g4
      obtain⟨t2,h2,h3⟩:=wy.1 g4
      repeat' first|(first|refine kcc ?_|apply kU);simp +decide only[go_sem,c1,c2,hb8,Qb]|apply kh<;>intro qa
      exact fin (-2) t2 _ h2 h3 (kL rfl (by simp +decide only[go_sem,Qn,wJ,wt,wn,e63]) (by simp[qc]))
    ·have:x=42:=by simpa using c1
     subst this
     rw[sp42]at g4
     simp only[wT,jA,Bool.or_self,w8,if_false,if_true]at g4
     obtain⟨t2,h2,h3⟩:=wy.1 g4
     repeat' first|(first|refine kcc ?_|apply kU);simp +decide only[go_sem,c1,hb8,Qb]|apply kh<;>intro qa
     exact fin (-1) t2 _ h2 h3 (kL rfl (by simp +decide only[go_sem,Qn,wJ,wt,wn,e42]) (by simp[qc]))
   ·cases hsp:spcl x
    ·rw[hsp]at g4;simp at g4
    rw[hsp]at g4
    simp only[wT,jA,yf,w8,if_false,if_true]at g4
    obtain⟨t2,h2,h3⟩:=wy.1 g4
    cases c1:x==42
    ·cases c2:x==63
     ·cases c3:x==92
      ·exfalso;unfold spcl at hsp;simp at hsp c1 c2 c3;omega
      ·repeat' first|(first|refine kcc ?_|apply kU);simp +decide only[go_sem,c1,c2,c3,hb8,Qb]|apply kh<;>intro qa
       exact fin x t2 _ h2 h3 (kL rfl (by simp +decide only[go_sem,Qn,wJ,wt,wn,ex]) (by simp[qc]))
     ·repeat' first|(first|refine kcc ?_|apply kU);simp +decide only[go_sem,c1,c2,hb8,Qb]|apply kh<;>intro qa
      exact fin x t2 _ h2 h3 (kL rfl (by simp +decide only[go_sem,Qn,wJ,wt,wn,ex]) (by simp[qc]))
    ·repeat' first|(first|refine kcc ?_|apply kU);simp +decide only[go_sem,c1,hb8,Qb]|apply kh<;>intro qa
     exact fin x t2 _ h2 h3 (kL rfl (by simp +decide only[go_sem,Qn,wJ,wt,wn,ex]) (by simp[qc]))
 ·rintro⟨o,e,pos⟩ ⟨h1,h2⟩
  simp only at h1 h2
  subst h1;subst h2
  refine qam ?_
  refine qw 4 (dv (.sl 2 (Qn o))) (by simp +decide only[go_sem]) ?_
  repeat' first|(first|refine kcc ?_|apply kU|apply kF);simp +decide only[go_sem]|apply kh<;>intro qa
theorem ctl_at{s:ByteArray}(h:s.data.toList.any (fun b=>ctl b.toNat)=false){k:Nat}{b:UInt8}(hb:s.data.toList[k]? =some b):ctl b.toNat=false:=by
 have:=jb.1 h b (wl hb)
 simpa using this
theorem qqY(p:ByteArray){t:List Int}(h:patT p=some t):DCalls pP 143 [dv (ls p)] (dv (li 0)):=by
 have qK:=kmax
 obtain⟨hc,l,hl,ht,h0,h64⟩:=qju h
 have hP:=qjs p (by omega)
 have hI:=qnM p h64 hl ht
 have hok:okS p=true:=by
  cases ho:okS p
  ·rw[qbr,ho]at hl;simp at hl
  ·rfl
 rw[hok]at hP
 have he:(p==({ data:= #[] }:ByteArray))=false:=by
  cases hh:p==({ data:= #[] }:ByteArray)
  ·rfl
  ·rw[ZZ]at hh;rw[hh]at h0;exact absurd h0 (by decide)
 have t1:decide ((64:Int)<(p.size:Int))=false:=decide_eq_false (by omega)
 refine kd (N:=43) (rs:=[.tmp 2]) Tryz.func143 ?_
 repeat' first|(first|refine kcc ?_|refine kx hP ?_|apply kU);simp only[go_sem,he,t1]|apply kh<;>intro qa
 refine qj p.data.toList (fun k=>kn 43 [(0,dv (ls p)),(21,dv (li p.size)),(22,dv (li k))] qc) (by simp;omega) kl ?_ ?_
 ·intro k b hb hk hm htk hlt hw
  rw[show p.data.toList.length=p.size by simp]at hlt
  have hcb:=ctl_at hc hb
  unfold ctl at hcb
  have c1:decide (((b.toNat:Nat):Int)<32)=false:=by simp at hcb ⊢;omega
  have c2:(((b.toNat:Nat):Int)==127)=false:=by simp at hcb ⊢;omega
  have hbk:p.data.toList[(k:Int).toNat]? =some b:=by simpa using hb
  have hk0:(0:Int)<=(k:Int):=by omega
  repeat' first|(first|refine kcc ?_|apply kU);simp only[go_sem,hlt,hw,hb,hk0,c1,c2]|apply kh<;>intro qa
  exact kl
 ·intro hlt
  rw[show p.data.toList.length=p.size by simp]at hlt ⊢
  repeat' first|(first|refine kcc ?_|refine kx hI ?_|apply kU|apply kF);simp only[go_sem,hlt]|apply kh<;>intro qa
end Go.Proofs.YtaaodllggdjhiaaGreatDoor
namespace Go.Proofs.YtaaodllggdjhiaaGreatDoor
abbrev kpm35:List (Nat×Go.Dl.Mode):=[(0,.light),(1,.light),(2,.light),(3,.light),(4,.light),(5,.light),(6,.light),(7,.light),(8,.light),(9,.light),(10,.light),(11,.light),(12,.light),(13,.light),(14,.light),(15,.light),(16,.light),(17,.light),(18,.light),(19,.light),(20,.light),(21,.light),(22,.step)]
abbrev kq37:Nat->List (Nat×Go.Dl.Mode):=fun n=>match n with|18=>kpm35|_=>[]
end Go.Proofs.YtaaodllggdjhiaaGreatDoor
namespace Go.Proofs.YtaaodllggdjhiaaGreatDoor
open Go.Dl S Go.Maps
attribute [local irreducible] DW DCalls ECalls qo wk IW MW StepM vL MCalls
def Qk(f:Nat->Bool)(n:Nat):Dl.Rows:=(List.range n).map fun i=>[T.c (lb (f i))]
theorem qdw(f:Nat->Bool)(n:Nat):(Qk f n).length=n:=by simp[Qk]
theorem z6(f:Nat->Bool){n i:Nat}(h:i<n):(Qk f n)[i]? =some [.c (lb (f i))]:=by simp[Qk,h]
theorem qj4(r:Ren)(f:Nat->Bool)(n:Nat):Dl.Rows.tr r (Qk f n)=Qk f n:=by
 unfold Dl.Rows.tr Qk
 rw[yw];refine yC fun i _=>?_
 simp[T.trAll,T.tr]
theorem qho(f:Nat->Bool){n i:Nat}(h:i<n)(b:Bool):(Qk f n).set i [.c (lb b)]=Qk (fun j=>if j=i then b else f j) n:=by
 apply List.ext_getElem?
 intro j
 rw[List.getElem?_set]
 by_cases e:i=j
 ·subst e
  rw[if_pos rfl,if_pos (by rw[qdw];exact h),z6 _ h,if_pos rfl]
 ·rw[if_neg e]
  by_cases hj:j<n
  ·rw[z6 _ hj,z6 _ hj,if_neg (Ne.symm e)]
  ·rw[wZ (by rw[qdw];omega),wZ (by rw[qdw];omega)]
theorem qaw{f g:Nat->Bool}{n:Nat}(h: ∀i,i<n->f i=g i):Qk f n=Qk g n:=by
 unfold Qk
 refine yC fun i hi=>?_
 rw[h i (List.mem_range.1 hi)]
theorem qew(n:Nat):List.replicate n [T.c (lb false)]=Qk (fun _=>false) n:=by
 unfold Qk;rw[List.map_const',ju]
theorem qfa: ∀(l:List Int) (e:Bool) (t:List Int),itmL e l=some t->t.length<=l.length
 | [],e,t,h=>by
  rw[qjJ]at h
  split at h
  ·cases h
  ·injection h with h;subst h;exact wv _
 | c::r,e,t,h=>by
  rw[qgF]at h
  have map: ∀(x:Int) (t:List Int),(itmL false r).map (x:: ·)=some t->t.length<=(c::r).length:=fun x t h=>by
   obtain⟨t',h1,h2⟩:=wy.1 h
   rw[<-h2]
   have:=qfa r false t' h1
   simp;omega
  split at h
  ·cases h
  ·split at h
   ·exact map _ _ h
   ·split at h
    ·exact map _ _ h
    ·split at h
     ·exact map _ _ h
     ·have:=qfa r true t h
      simp;omega
theorem qqa(l:List Int)(tok:Int)(can:Nat->Bool)(i:Nat):nxM l tok can (i+1)=if tok= -1 then can (i+1)||nxM l tok can i else can i&&(decide (tok= -2)||l[i]? ==some tok):=rfl
def qb1(f:Nat->Bool)(i j:Nat):Bool:=if j<i then f j else false
theorem qkY(f:Nat->Bool)(i:Nat):(fun j=>if j=i then f i else qb1 f i j)=qb1 f (i+1):=by
 funext j
 unfold qb1
 by_cases h:j=i
 ·subst h;simp
 ·rw[if_neg h]
  by_cases h2:j<i
  ·rw[if_pos h2,if_pos (by omega)]
  ·rw[if_neg h2,if_neg (by omega)]
theorem match_D(p s:ByteArray){t:List Int}(h:patT p=some t)(hs:s.size<=1000000):DCalls pP 77 [dv (ls p),dv (ls s)] (dv (lb (ql p s))):=by
 have qK:=kmax
 have hC:=qqY p h
 have hP:=qjs s hs
 obtain⟨hc,lp,hlp,hit,h0,h64⟩:=qju h
 have hI:=qnM p h64 hlp hit
 have hps:=qbr s
 have htl:t.length<=64:=by
  have h1:=qfa lp false t hit
  have h2:=qaI p
  rw[qbr]at hlp
  split at hlp
  ·injection hlp with hlp;rw[hlp]at h2;omega
  ·cases hlp
 have hm:ql p s=match ptsI s with|some l=>dpM t l|none=>false:=by unfold ql;rw[h];cases ptsI s<;>rfl
 rw[hm]
 refine DCalls.of_maps ?_
 refine QS (N:=119) (rs:=[.tmp 4]) (by kernel_rfl) Tryz.func77 rfl rfl rfl (by simp) ?_
 refine qe ?_
 refine qq (N:=119) rfl (by kernel_rfl) ?_;simp +decide only[go_sem]
 refine qe ?_
 refine qe ?_
 refine qq (N:=119) rfl (by kernel_rfl) ?_;simp +decide only[go_sem]
 (first|refine kx hC ?_);simp +decide only[go_sem]
 refine qP (t:=false) (by simp +decide only[go_sem];rfl) (fun h=>by cases h) ?_
 intro _
 refine vK ?_
 simp +decide only[go_sem]
 cases hok:okS s
 ·rw[hok]at hP hps
  rw[if_neg (by decide)]at hps
  rw[hps]
  refine qam ?_
  (repeat'(first|apply kA|apply kB|((first|refine kcc ?_|refine kjj kq37 ?_|apply kD|apply kE|refine kx hP ?_|apply kF);simp +decide only[go_sem])|(apply kG;(simp +decide only[go_sem];rfl);all_goals(intro qa;try exact kz qa))))
 rw[hok]at hP hps
 rw[if_pos rfl]at hps
 have hrn:=ptsI_rn hps
 rw[hps]
 simp only
 refine qe ?_
 refine qe ?_
 refine qq (N:=119) rfl (by kernel_rfl) ?_;simp +decide only[go_sem]
 (first|refine kx hP ?_);simp +decide only[go_sem]
 refine qe ?_
 refine qq (N:=119) rfl (by kernel_rfl) ?_;simp +decide only[go_sem]
 refine qP (t:=false) (by simp +decide only[go_sem]) (fun h=>by cases h) ?_
 intro _
 refine vK ?_
 simp +decide only[go_sem]
 refine qe ?_
 refine qu (N:=119) rfl (by kernel_rfl) ?_
 refine qh 1 ?_;simp only[wm,wg,wj,ww];simp +decide only[go_sem]
 refine qx rfl (StepM.of (Step.runes (e:=21) rfl Tryz.underlying9 Tryz.underlying172 Tryz.underlying21 (str:=s) (by simp +decide only[go_sem]) (by omega) ?_))
 have hll:=qaI s
 rw[hrn]
 generalize ptsR s=l at*
 refine qh 1 ?_;simp only[wm,wg,wj,ww];simp +decide only[go_sem]
 refine vN (kL (N:=119) (sls:=[(0,dv (ls p)),(7,dv (.sl 1 (i32s l)))]) (bx:=qc) rfl (by simp +decide only[go_sem]) (by simp[qc])) ?_
 refine qam ?_
 have hil:=qcg l
 have hw1:IntKind.i64.wrap ((l.length:Int)+1)=((l.length+1:Nat):Int):=qt l.length (by omega)
 have hb:Tryz.t4.bytes*(l.length+1)<=281474976710656:=by
  have h1:Tryz.t4.bytes<=100:=by decide
  have:=Nat.mul_le_mul h1 (show l.length+1<=1000001 by omega)
  omega
 (repeat'(first|apply kA|apply kB|((first|refine kcc ?_|refine kjj kq37 ?_|apply kD|apply kE);simp +decide only[go_sem,hil,hw1])|(apply kG;(simp +decide only[go_sem,hil,hw1];rfl);all_goals(intro qa;try exact kz qa))))
 refine StepC.mk (Step.makeSlice (n:=l.length+1) (e:=4) (z:=[.c (lb false)]) (inf:=Tryz.t4) (kx:=.i64) (ky:=.i64) rfl rfl (by kernel_rfl) (by kernel_rfl) (by kernel_rfl) (by decide) (by kernel_rfl) (by simp +decide only[go_sem]) (by simp +decide only[go_sem]) (by simp;omega) hb (by omega) ?_)
 rw[qew]
 have hg0:=z6 (fun _=>false) (n:=l.length+1) (i:=0) (by omega)
 have hs0:=qho (fun _=>false) (n:=l.length+1) (i:=0) (by omega) true
 have hbt:=qj4
 have hz1:(0<l.length+1)=True:=eq_true (by omega)
 simp +decide only[go_sem]
 (repeat'(first|apply kA|apply kB|((first|refine kcc ?_|refine kjj kq37 ?_|apply kD|apply kE|refine kx hI ?_);simp +decide only[go_sem,hg0,hs0,hbt,hz1])|(apply kG;(simp +decide only[go_sem,hg0,hs0,hbt,hz1];rfl);all_goals(intro qa;try exact kz qa))))
 refine qj t (fun k=>kn 119 [(7,dv (.sl 1 (i32s l))),(8,.one (.ba 30 1 0 (l.length+1) (l.length+1))),(38,dv (.sl 2 (Qn t))),(39,dv (li t.length)),(40,dv (li k))] (ml [(30,Qk (canM l (t.take k)) (l.length+1))])) ?_ (kM rfl (by simp +decide only[go_sem,Qb]) (by simp +decide only[go_sem,hbt];exact qaw fun i _=>by cases i<;>rfl)) ?_ ?_
 ·omega
 ·intro k x hx hk hm htk hlt hw
  rw[htk,qhl]
  generalize canM l (t.take k)=can
  have hxe:(Qn t)[k]? =some (tokE x):=by simp[Qn,hx]
  have hxl:=qpd x
  obtain⟨u,v,huv⟩: ∃u v,tokE x= [u,v]:=by
   match h:tokE x,hxl with
   | [u,v],_=>exact⟨u,v,rfl⟩
  rw[huv]at hxe
  (repeat'(first|apply kA|apply kB|((first|refine kcc ?_|refine kjj kq37 ?_|apply kD|apply kE);simp +decide only[go_sem,hlt,hxe,hil,hw1])|(apply kG;(simp +decide only[go_sem];rfl);all_goals(intro qa;try exact kz qa))))
  refine StepC.mk (Step.makeSlice (n:=l.length+1) (e:=4) (z:=[.c (lb false)]) (inf:=Tryz.t4) (kx:=.i64) (ky:=.i64) rfl rfl (by kernel_rfl) (by kernel_rfl) (by kernel_rfl) (by decide) (by kernel_rfl) (by simp +decide only[go_sem]) (by simp +decide only[go_sem]) (by simp;omega) hb (by omega) ?_)
  rw[qew]
  simp +decide only[go_sem]
  (repeat'(first|apply kA|apply kB|((first|refine kcc ?_|refine kjj kq37 ?_|apply kD|apply kE);simp +decide only[go_sem])|(apply kG;(simp +decide only[go_sem,hbt];rfl);all_goals(intro qa;try exact kz qa))))
  have hrl:(List.range (l.length+1)).length=l.length+1:=ju
  refine vz (fun _:Unit=>kn 119 [(7,dv (.sl 1 (i32s l))),(13,.one (.ba 47 1 0 (l.length+1) (l.length+1))),(38,dv (.sl 2 (Qn t))),(39,dv (li t.length)),(40,dv (li k))] (ml [(47,Qk (nxM l x can) (l.length+1))])) (fun _=>True) ?_ ?_
  ·refine qj (List.range (l.length+1)) (fun i=>kn 119 [(7,dv (.sl 1 (i32s l))),(8,.one (.ba 30 1 0 (l.length+1) (l.length+1))),(12,.one (.bx 12 2 0 0)),(13,.one (.ba 47 1 0 (l.length+1) (l.length+1))),(38,dv (.sl 2 (Qn t))),(39,dv (li t.length)),(40,dv (li k)),(49,dv (li (l.length+1:Nat))),(50,dv (li i))] (ml [(30,Qk can (l.length+1)),(12,[[.c u,.c v]]),(47,Qk (qb1 (nxM l x can) i) (l.length+1))])) (by rw[hrl];omega) (km (by simp +decide only[go_sem,hbt];exact qaw fun i _=>by simp[qb1])) ?_ ?_
   ·intro i y hy hi hym hyt qgO hwi
    rw[hrl]at hi qgO
    have hgi:=z6 (qb1 (nxM l x can) i) hi
    have hgc:=z6 can hi
    have hst:=qho (qb1 (nxM l x can) i) hi (nxM l x can i)
    rw[qkY]at hst
    have hin:(i<l.length+1)=True:=eq_true hi
    have fin: ∀(s':DS) (b:Bool),nxM l x can i=b->s'.n=119->AllS s' [(7,dv (.sl 1 (i32s l))),(8,.one (.ba 30 1 0 (l.length+1) (l.length+1))),(12,.one (.bx 12 2 0 0)),(13,.one (.ba 47 1 0 (l.length+1) (l.length+1))),(38,dv (.sl 2 (Qn t))),(39,dv (li t.length)),(40,dv (li k)),(49,dv (li (l.length+1:Nat))),(50,dv (li ((i+1:Nat):Int)))]->s'.bx 30=some (Qk can (l.length+1))->s'.bx 12=some [[.c u,.c v]]->s'.bx 47=some ((Qk (qb1 (nxM l x can) i) (l.length+1)).set i [.c (lb b)])->
      s'.Sub (kn 119 [(7,dv (.sl 1 (i32s l))),(8,.one (.ba 30 1 0 (l.length+1) (l.length+1))),(12,.one (.bx 12 2 0 0)),(13,.one (.ba 47 1 0 (l.length+1) (l.length+1))),(38,dv (.sl 2 (Qn t))),(39,dv (li t.length)),(40,dv (li k)),(49,dv (li (l.length+1:Nat))),(50,dv (li ((i+1:Nat):Int)))] (ml [(30,Qk can (l.length+1)),(12,[[.c u,.c v]]),(47,Qk (qb1 (nxM l x can) (i+1)) (l.length+1))])):=fun s' b e1 e2 e3 e4 e5 e6=>by
     rw[e1]at hst
     refine kM e2 e3 (by simp +decide only[go_sem,e4,e5,e6];exact hst)
    generalize hpf:Qk (qb1 (nxM l x can) i) (l.length+1)=R at*
    have hRt: ∀r,Dl.Rows.tr r R=R:=fun r=>by rw[<-hpf];exact qj4 r _ _
    cases vo:decide ((0:Int)<(i:Int))
    ·have hi0:i=0:=by simp at vo;exact vo
     have hnx:nxM l x can i=(decide (x= -1)&&can i):=by rw[hi0];rfl
     by_cases h1:x= -1
     ·subst h1
      obtain⟨rfl,rfl⟩:li 2=u/\C.lit (.int .i32 0)=v:=by simpa[tokE]using huv
      cases hc:can i
      ·rw[hc]at hgc
       (repeat'(first|apply kA|apply kB|((first|refine kcc ?_|refine kjj kq37 ?_|apply kD|apply kE);simp +decide only[go_sem,qgO,hwi,hgc,hgi,hin,vo])|(apply kG;(simp +decide only[go_sem];rfl);all_goals(intro qa;try exact kz qa))))
       exact fin _ false (by rw[hnx,hc];rfl) rfl (by simp +decide only[go_sem]) (by simp +decide only[go_sem]) (by simp +decide only[go_sem]) (by simp +decide only[go_sem])
      ·rw[hc]at hgc
       (repeat'(first|apply kA|apply kB|((first|refine kcc ?_|refine kjj kq37 ?_|apply kD|apply kE);simp +decide only[go_sem,qgO,hwi,hgc,hgi,hin])|(apply kG;(simp +decide only[go_sem];rfl);all_goals(intro qa;try exact kz qa))))
       exact fin _ true (by rw[hnx,hc];rfl) rfl (by simp +decide only[go_sem]) (by simp +decide only[go_sem]) (by simp +decide only[go_sem]) (by simp +decide only[go_sem])
     ·have hnx0:nxM l x can i=false:=by rw[hnx,decide_eq_false h1];rfl
      by_cases h2:x= -2
      ·subst h2
       obtain⟨rfl,rfl⟩:li 1=u/\C.lit (.int .i32 0)=v:=by simpa[tokE]using huv
       (repeat'(first|apply kA|apply kB|((first|refine kcc ?_|refine kjj kq37 ?_|apply kD|apply kE);simp +decide only[go_sem,qgO,hwi,hgi,hin,vo])|(apply kG;(simp +decide only[go_sem];rfl);all_goals(intro qa;try exact kz qa))))
       exact fin _ false hnx0 rfl (by simp +decide only[go_sem]) (by simp +decide only[go_sem]) (by simp +decide only[go_sem]) (by simp +decide only[go_sem])
      ·obtain⟨rfl,rfl⟩:li 0=u/\C.lit (.int .i32 x)=v:=by simpa[tokE,h1,h2]using huv
       (repeat'(first|apply kA|apply kB|((first|refine kcc ?_|refine kjj kq37 ?_|apply kD|apply kE);simp +decide only[go_sem,qgO,hwi,hgi,hin,vo])|(apply kG;(simp +decide only[go_sem];rfl);all_goals(intro qa;try exact kz qa))))
       exact fin _ false hnx0 rfl (by simp +decide only[go_sem]) (by simp +decide only[go_sem]) (by simp +decide only[go_sem]) (by simp +decide only[go_sem])
    ·obtain⟨j,hij⟩: ∃j,i=j+1:=⟨i - 1,by simp at vo;omega⟩
     have hwj:IntKind.i64.wrap ((i:Int) - 1)=(j:Int):=by rw[wrap_i64 (by omega) (by omega)];omega
     have hjl:j<l.length:=by omega
     have hjl1:(j<l.length+1)=True:=eq_true (by omega)
     have hjl2:(j<l.length)=True:=eq_true hjl
     have hgcj:=z6 can (n:=l.length+1) (i:=j) (by omega)
     have hgj:R[j]? =some [.c (lb (nxM l x can j))]:=by
      rw[<-hpf,z6 _ (by omega)];unfold qb1;rw[if_pos (by omega)]
     obtain⟨c,hcj⟩: ∃c,l[j]? =some c:=⟨_,wc hjl⟩
     have hcc:=i32s_at hcj
     have hnx:nxM l x can i=if x= -1 then can i||nxM l x can j else can j&&(decide (x= -2)||(c==x)):=by
      rw[hij,qqa,hcj];rfl
     by_cases h1:x= -1
     ·subst h1
      obtain⟨rfl,rfl⟩:li 2=u/\C.lit (.int .i32 0)=v:=by simpa[tokE]using huv
      rw[if_pos rfl]at hnx
      cases hc:can i
      ·rw[hc]at hgc hnx
       generalize nxM l (-1) can j=bj at*
       (repeat'(first|apply kA|apply kB|((first|refine kcc ?_|refine kjj kq37 ?_|apply kD|apply kE);simp +decide only[go_sem,qgO,hwi,hgc,hgi,hin,vo,hwj,hjl1,hgj])|(apply kG;(simp +decide only[go_sem];rfl);all_goals(intro qa;try exact kz qa))))
       exact fin _ bj (by rw[hnx];rfl) rfl (by simp +decide only[go_sem]) (by simp +decide only[go_sem]) (by simp +decide only[go_sem]) (by simp +decide only[go_sem])
      ·rw[hc]at hgc hnx
       (repeat'(first|apply kA|apply kB|((first|refine kcc ?_|refine kjj kq37 ?_|apply kD|apply kE);simp +decide only[go_sem,qgO,hwi,hgc,hgi,hin])|(apply kG;(simp +decide only[go_sem];rfl);all_goals(intro qa;try exact kz qa))))
       exact fin _ true (by rw[hnx];rfl) rfl (by simp +decide only[go_sem]) (by simp +decide only[go_sem]) (by simp +decide only[go_sem]) (by simp +decide only[go_sem])
     ·rw[if_neg h1]at hnx
      by_cases h2:x= -2
      ·subst h2
       obtain⟨rfl,rfl⟩:li 1=u/\C.lit (.int .i32 0)=v:=by simpa[tokE]using huv
       generalize can j=cj at*
       (repeat'(first|apply kA|apply kB|((first|refine kcc ?_|refine kjj kq37 ?_|apply kD|apply kE);simp +decide only[go_sem,qgO,hwi,hgi,hin,vo,hwj,hjl1,hgcj])|(apply kG;(simp +decide only[go_sem];rfl);all_goals(intro qa;try exact kz qa))))
       exact fin _ cj (by rw[hnx];simp) rfl (by simp +decide only[go_sem]) (by simp +decide only[go_sem]) (by simp +decide only[go_sem]) (by simp +decide only[go_sem])
      ·obtain⟨rfl,rfl⟩:li 0=u/\C.lit (.int .i32 x)=v:=by simpa[tokE,h1,h2]using huv
       rw[decide_eq_false h2]at hnx
       cases hc:can j
       ·rw[hc]at hgcj hnx
        (repeat'(first|apply kA|apply kB|((first|refine kcc ?_|refine kjj kq37 ?_|apply kD|apply kE);simp +decide only[go_sem,qgO,hwi,hgi,hin,vo,hwj,hjl1,hgcj])|(apply kG;(simp +decide only[go_sem];rfl);all_goals(intro qa;try exact kz qa))))
        exact fin _ false (by rw[hnx];rfl) rfl (by simp +decide only[go_sem]) (by simp +decide only[go_sem]) (by simp +decide only[go_sem]) (by simp +decide only[go_sem])
       ·rw[hc]at hgcj hnx
        (repeat'(first|apply kA|apply kB|((first|refine kcc ?_|refine kjj kq37 ?_|apply kD|apply kE);simp +decide only[go_sem,qgO,hwi,hgi,hin,vo,hwj,hjl1,hgcj,hcc])|(apply kG;(simp +decide only[go_sem];rfl);all_goals(intro qa;try exact kz qa))))
        exact fin _ (c==x) (by rw[hnx];rfl) rfl (by simp +decide only[go_sem]) (by simp +decide only[go_sem]) (by simp +decide only[go_sem]) (by simp +decide only[go_sem])
   ·intro qgO
    rw[hrl]at qgO ⊢
    (repeat'(first|apply kA|apply kB|((first|refine kcc ?_|refine kjj kq37 ?_|apply kD|apply kE);simp +decide only[go_sem,qgO])|(apply kG;(simp +decide only[go_sem];rfl);all_goals(intro qa;try exact kz qa))))
    exact⟨(),km (by simp +decide only[go_sem];exact qaw fun i hi=>by simp[qb1,hi])⟩
  ·intro _ _
   (repeat'(first|apply kA|apply kB|((first|refine kcc ?_|refine kjj kq37 ?_|apply kD|apply kE);simp +decide only[go_sem,hw])|(apply kG;(simp +decide only[go_sem,hw];rfl);all_goals(intro qa;try exact kz qa))))
   exact DS.Sub.trans (Qq 47 30 (by omega)) (km (by simp +decide only[go_sem,hbt]))
 ·intro hlt
  rw[wh]
  have hgl:=z6 (canM l t) (n:=l.length+1) (i:=l.length) (by omega)
  have hle:(l.length<l.length+1)=True:=eq_true (by omega)
  (repeat'(first|apply kA|apply kB|((first|refine kcc ?_|refine kjj kq37 ?_|apply kD|apply kE|apply kF);simp +decide only[go_sem,hlt,hil,hgl,hle])|(apply kG;(simp +decide only[go_sem];rfl);all_goals(intro qa;try exact kz qa))))
  rfl
end Go.Proofs.YtaaodllggdjhiaaGreatDoor
namespace Go.Proofs.YtaaodllggdjhiaaGreatDoor
abbrev kpm36:List (Nat×Go.Dl.Mode):=[(0,.light),(1,.light),(2,.light),(3,.light),(4,.light),(5,.light),(6,.light),(7,.light),(8,.light),(9,.light),(10,.light),(11,.light),(12,.step),(13,.step)]
abbrev kq38:Nat->List (Nat×Go.Dl.Mode):=fun n=>match n with|5=>kpm36|_=>[]
abbrev kq39:Nat->List (Nat×Go.Dl.Mode):=fun n=>match n with|4=>kpm36|9=>kpm36|_=>[]
end Go.Proofs.YtaaodllggdjhiaaGreatDoor
namespace Go.Proofs.YtaaodllggdjhiaaGreatDoor
open Go.Dl S
attribute [local irreducible] DW DCalls ECalls qo wk IW
structure PsB(n:Nat)(l:List Pst):Prop where
 len:l.length<=n
 ids: ∀p∈l,p.ids.length<=n
theorem qlW(l:List Int)(n:Int):(qaA l n).length<=l.length+1:=by
 unfold qaA
 split
 ·omega
 ·simp only[wA,wz,wx,yc];omega
theorem PsB.put{n:Nat}{l:List Pst}(h:PsB n l)(role:Int)(txt:ByteArray)(id:Int):PsB (n+1) (putP l role txt id):=by
 have h1:=h.len
 unfold putP
 split
 ·exact⟨by omega,fun p hp=>wD (h.ids p hp) (by omega)⟩
 split
 ·rename_i q hq
  split
  ·refine⟨by rw[List.length_set];omega,fun p hp=>?_⟩
   rcases List.mem_or_eq_of_mem_set hp with hp|hp
   ·exact wD (h.ids p hp) (by omega)
   ·rw[hp]
    have:=qlW q.ids id
    have:=h.ids q (wl hq)
    simp only;omega
  ·refine⟨by simp only[wA,wz,wx,yc];omega,fun p hp=>?_⟩
   rcases wo.1 hp with hp|hp
   ·exact wD (h.ids p (yt hp)) (by omega)
   ·rcases ws.1 hp with hp|hp
    ·rw[hp];simp
    ·exact wD (h.ids p (ym hp)) (by omega)
 ·refine⟨by simp;omega,fun p hp=>?_⟩
  rcases wo.1 hp with hp|hp
  ·exact wD (h.ids p hp) (by omega)
  ·simp at hp;rw[hp];simp
theorem PsB.take{n:Nat}{l:List Pst}(h:PsB n l)(role:Int)(txt:ByteArray)(id:Int):PsB n (qbl l role txt id):=by
 have h1:=h.len
 unfold qbl
 split
 ·rename_i q hq
  have hlt:=(wd.1 hq).1
  split
  ·refine⟨?_,fun p hp=>?_⟩
   ·simp only[wA,wx,yc]
    split<;>simp<;>omega
   ·rcases wo.1 hp with hp|hp
    ·rcases wo.1 hp with hp|hp
     ·exact h.ids p (yt hp)
     ·split at hp
      ·simp at hp;rw[hp]
       exact wD (wC _ _) (h.ids q (wl hq))
      ·cases hp
    ·exact h.ids p (ym hp)
  ·exact h
 ·exact h
theorem qh2:PsB 0 []:=⟨wv _,fun p hp=>by cases hp⟩
theorem PsB.mono{n m:Nat}{l:List Pst}(h:PsB n l)(hm:n<=m):PsB m l:=⟨wD h.len hm,fun p hp=>wD (h.ids p hp) hm⟩
theorem qdr(ts:List Tir)(l:List Nte)(n:Nte)(p:List Pst):vO ts (l++[n]) p=putP (vO ts l p) (zU ts n) n.txt n.id:=by unfold vO;rw[yp];rfl
theorem qls(ts:List Tir)(l:List Nte)(n:Nte)(p:List Pst):qbD ts (l++[n]) p=qbl (qbD ts l p) (zU ts n) n.txt n.id:=by unfold qbD;rw[yp];rfl
theorem PsB.build(ts:List Tir): ∀(l:List Nte) {n:Nat} {p:List Pst},PsB n p->PsB (n+l.length) (vO ts l p)
 | [],n,p,h=>h
 | x::l,n,p,h=>by
  have:=PsB.build ts l (h.put (zU ts x) x.txt x.id)
  rw[wz,show n+(l.length+1)=n+1+l.length by omega]
  exact this
theorem PsB.drop(ts:List Tir): ∀(l:List Nte) {n:Nat} {p:List Pst},PsB n p->PsB n (qbD ts l p)
 | [],n,p,h=>h
 | x::l,n,p,h=>PsB.drop ts l (h.take (zU ts x) x.txt x.id)
theorem qeT{ts:List Tir}{n:Nte}{t:Tir}(h0:0<=n.tier)(ht:ts[n.tier.toNat]? =some t):zU ts n=t.role:=by
 unfold zU QL;rw[if_pos h0,ht]
theorem qox(d:Dcm)(W:WfD d)(hl:d.notes.length<=1000):DCalls pP 13 [.agg d.row] (.agg [.c (.sl 3 ((vO d.tiers d.notes []).map Pst.enc))]):=by
 have qK:=kmax
 refine kd (N:=28) (rs:=[.cell 2 53]) Tryz.func13 ?_
 repeat' first|(first|refine kcc ?_|refine kjj kq38 ?_|apply kU);simp only[go_sem,Dcm.row]|apply kh<;>intro qa
 refine qdo 3 (by simp only[go_sem];rfl) ?_
 refine qj d.notes (fun k=>kn 28 [(1,.one (.bx 1 7 0 0)),(2,.one (.bx 2 1 0 0)),(3,.one (.bx 3 1 0 0)),(7,dv (.sl 7 (d.notes.map Nte.enc))),(8,dv (li d.notes.length)),(9,dv (li k))] (ml [(1,[d.row]),(2,[[.ex 3 []]]),(3,[[.c (.sl 3 ((vO d.tiers (d.notes.take k) []).map Pst.enc))]])])) (by omega) (km (by simp only[go_sem,Dcm.row];rfl)) ?_ ?_
 ·intro k n hn hk hm htk hlt hw
  have hB:=PsB.build d.tiers (d.notes.take k) qh2
  have hkl:(d.notes.take k).length<=1000:=by rw[wx];omega
  rw[htk,qdr]
  generalize vO d.tiers (d.notes.take k) []=q at*
  obtain⟨h0,_,t,ht⟩:=W.tier hm
  rw[qeT h0 ht]
  have hP:=put_D q t.role n.txt n.id (by have:=hB.len;omega) (fun p hp=>by have:=hB.ids p hp;omega)
  repeat' first|(first|refine kcc ?_|refine kjj kq38 ?_|refine kx hP ?_|apply kU);simp only[go_sem,hlt,hw,hn,h0,ht,Dcm.row,Nte.enc,Tir.enc]|apply kh<;>intro qa
  exact kmm
 ·intro hlt
  rw[wh]
  repeat' first|(first|refine kcc ?_|refine kjj kq38 ?_|apply kU|apply kF);simp only[go_sem,hlt]|apply kh<;>intro qa
theorem qi5(p:List Pst)(d e:Dcm)(W:WfD d)(V:WfD e)(hl:d.notes.length<=1000)(hle:e.notes.length<=1000)(hp:PsB 1000 p):DCalls pP 12 [.agg [.c (.sl 3 (p.map Pst.enc))],.agg d.row,.agg e.row] (.agg [.c (.sl 3 ((vO e.tiers e.notes (qbD d.tiers d.notes p)).map Pst.enc))]):=by
 have qK:=kmax
 refine kd (N:=54) (rs:=[.cell 6 53]) Tryz.func12 ?_
 repeat' first|(first|refine kcc ?_|refine kjj kq39 ?_|apply kU);simp only[go_sem,Dcm.row]|apply kh<;>intro qa
 refine vz (fun _:Unit=>kn 54 [(3,.one (.bx 3 1 0 0)),(5,.one (.bx 5 7 0 0)),(6,.one (.bx 6 1 0 0))] (ml [(3,[[.c (.sl 3 ((qbD d.tiers d.notes p).map Pst.enc))]]),(5,[e.row]),(6,[[.ex 3 []]])])) (fun _=>True) ?_ ?_
 ·refine qj d.notes (fun k=>kn 54 [(3,.one (.bx 3 1 0 0)),(4,.one (.bx 4 7 0 0)),(5,.one (.bx 5 7 0 0)),(6,.one (.bx 6 1 0 0)),(12,dv (.sl 7 (d.notes.map Nte.enc))),(13,dv (li d.notes.length)),(14,dv (li k))] (ml [(3,[[.c (.sl 3 ((qbD d.tiers (d.notes.take k) p).map Pst.enc))]]),(4,[d.row]),(5,[e.row]),(6,[[.ex 3 []]])])) (by omega) (km (by simp only[go_sem,Dcm.row];rfl)) ?_ ?_
  ·intro k n hn hk hm htk hlt hw
   have hB:=PsB.drop d.tiers (d.notes.take k) hp
   rw[htk,qls]
   generalize qbD d.tiers (d.notes.take k) p=q at*
   obtain⟨h0,_,t,ht⟩:=W.tier hm
   rw[qeT h0 ht]
   have hP:=take_D q t.role n.txt n.id (by have:=hB.len;omega) (fun p hp=>by have:=hB.ids p hp;omega)
   repeat' first|(first|refine kcc ?_|refine kjj kq39 ?_|refine kx hP ?_|apply kU);simp only[go_sem,hlt,hw,hn,h0,ht,Dcm.row,Nte.enc,Tir.enc]|apply kh<;>intro qa
   exact kmm
  ·intro hlt
   rw[wh]
   repeat' first|(first|refine kcc ?_|refine kjj kq39 ?_|apply kU);simp only[go_sem,hlt]|apply kh<;>intro qa
   exact⟨(),kmm⟩
 intro _ _
 have hp2:=PsB.drop d.tiers d.notes hp
 generalize qbD d.tiers d.notes p=p2 at*
 repeat' first|(first|refine kcc ?_|refine kjj kq39 ?_|apply kU);simp only[go_sem,Dcm.row]|apply kh<;>intro qa
 refine qj e.notes (fun k=>kn 54 [(3,.one (.bx 3 1 0 0)),(5,.one (.bx 5 7 0 0)),(6,.one (.bx 6 1 0 0)),(33,dv (.sl 7 (e.notes.map Nte.enc))),(34,dv (li e.notes.length)),(35,dv (li k))] (ml [(3,[[.c (.sl 3 ((vO e.tiers (e.notes.take k) p2).map Pst.enc))]]),(5,[e.row]),(6,[[.ex 3 []]])])) (by omega) (km (by simp only[go_sem,Dcm.row];rfl)) ?_ ?_
 ·intro k n hn hk hm htk hlt hw
  have hB:=PsB.build e.tiers (e.notes.take k) hp2
  have hkl:(e.notes.take k).length<=1000:=by rw[wx];omega
  rw[htk,qdr]
  generalize vO e.tiers (e.notes.take k) p2=q at*
  obtain⟨h0,_,t,ht⟩:=V.tier hm
  rw[qeT h0 ht]
  have hP:=put_D q t.role n.txt n.id (by have:=hB.len;omega) (fun p hp=>by have:=hB.ids p hp;omega)
  repeat' first|(first|refine kcc ?_|refine kjj kq39 ?_|refine kx hP ?_|apply kU);simp only[go_sem,hlt,hw,hn,h0,ht,Dcm.row,Nte.enc,Tir.enc]|apply kh<;>intro qa
  exact kmm
 ·intro hlt
  rw[wh]
  repeat' first|(first|refine kcc ?_|refine kjj kq39 ?_|apply kU|apply kF);simp only[go_sem,hlt]|apply kh<;>intro qa
theorem qn3{l:List Pst}{k:Nat}{p:Pst}(q:Pst->Bool)(h:l.take (k+1)=l.take k++[p]):((l.take (k+1)).filter q).flatMap (·.ids)=((l.take k).filter q).flatMap (·.ids)++(if q p=true then p.ids else []):=by
 rw[h,yG,List.flatMap_append]
 congr 1
 by_cases hq:q p=true
 ·rw[if_pos hq,yK hq];simp
 ·rw[if_neg hq,ja hq];simp
theorem qg0{l:List Pst}(h: ∀p∈l,p.ids.length<=1000)(q:Pst->Bool):((l.filter q).flatMap (·.ids)).length<=l.length*1000:=by
 induction l with
 | nil=>simp
 | cons p l ih=>
  have h1:=ih fun x hx=>h x (yN _ hx)
  have h2:=h p (by simp)
  rw[List.filter_cons]
  split
  ·rw[List.flatMap_cons,wA,wz,w7,Nat.one_mul];exact wD (Nat.add_le_add h2 h1) (Nat.le_of_eq (Nat.add_comm _ _))
  ·rw[wz,w7];exact wD h1 (Nat.le_add_right _ _)
theorem ids_D(l:List Pst)(hl:PsB 1000 l)(role:Int)(g:FuncId)(caps:List C)(wanted:ByteArray->Bool)(hg: ∀p∈l,DCalls pP g ([dv (ls p.txt)]++caps.map fun c=>D.one (.c c)) (dv (lb (wanted p.txt)))):
  DCalls pP 75 [.agg [.c (.sl 3 (l.map Pst.enc))],dv (li role),dv (.fn g caps)] (dv (.sl 1 (ints (idsP l wanted role)))):=by
 have qK:=kmax
 have hll:=hl.len
 refine kd (N:=34) (rs:=[.tmp 6]) Tryz.func75 ?_
 repeat' first|(first|refine kcc ?_|apply kU);simp only[go_sem]|apply kh<;>intro qa
 refine zl 7 7 1 (by simp only[go_sem]) ?_
 refine qj l (fun k=>kn 34 [(1,dv (li role)),(2,dv (.fn g caps)),(7,.one (.own 7 1 (ints (((l.take k).filter fun p=>p.role==role&&wanted p.txt).flatMap (·.ids))))),(11,dv (.sl 3 (l.map Pst.enc))),(12,dv (li l.length)),(13,dv (li k))] qc) (by omega) (kL rfl (by simp only[go_sem,wg,yi,List.flatMap_nil,wn]) (by simp[qc])) ?_ ?_
 ·intro k p hp hk hm htk hlt hw
  have hql:=qg0 (l:=l.take k) (fun x hx=>hl.ids x (yt hx)) (fun p=>p.role==role&&wanted p.txt)
  have hkl:(l.take k).length<=1000:=by rw[wx];omega
  have hpl:=hl.ids p hm
  have hC:=hg p hm
  rw[qn3 _ htk]
  generalize ((l.take k).filter fun p=>p.role==role&&wanted p.txt).flatMap (·.ids)=q at*
  have hb8:((q.length+p.ids.length)*8<=140737488355328)=True:=eq_true (by omega)
  cases c1:p.role==role
  ·repeat' first|(first|refine kcc ?_|apply kU);simp only[go_sem,hlt,hw,hp,Pst.enc,c1]|apply kh<;>intro qa
   exact kL rfl (by simp only[go_sem,if_false]) (by simp[qc])
  ·cases c2:wanted p.txt
   ·rw[c2]at hC
    repeat' first|(first|refine kcc ?_|refine kx hC ?_|apply kU);simp only[go_sem,hlt,hw,hp,Pst.enc,c1]|apply kh<;>intro qa
    exact kL rfl (by simp only[go_sem,if_false]) (by simp[qc])
   ·rw[c2]at hC
    repeat' first|(first|refine kcc ?_|refine kx hC ?_|apply kU);simp only[go_sem,hlt,hw,hp,Pst.enc,c1,hb8]|apply kh<;>intro qa
    exact kL rfl (by simp only[go_sem,ints,wJ]) (by simp[qc])
 ·intro hlt
  rw[wh]
  have hql:=qg0 hl.ids (fun p=>p.role==role&&wanted p.txt)
  have hSo:=sorted_D ((l.filter fun p=>p.role==role&&wanted p.txt).flatMap (·.ids)) (by omega)
  have hid:idsP l wanted role=usort ((l.filter fun p=>p.role==role&&wanted p.txt).flatMap (·.ids)):=rfl
  rw[hid]
  generalize (l.filter fun p=>p.role==role&&wanted p.txt).flatMap (·.ids)=q at*
  refine qw 7 (dv (.sl 1 (ints q))) (by simp only[go_sem]) ?_
  repeat' first|(first|refine kcc ?_|refine kx hSo ?_|apply kU|apply kF);simp only[go_sem,hlt]|apply kh<;>intro qa
theorem text1_D(p s:ByteArray){t:List Int}(h:patT p=some t)(hs:s.size<=1000000):DCalls pP 76 [dv (ls s),dv (.pt [ls p])] (dv (lb (ql p s))):=by
 have hM:=match_D p s h hs
 refine kd (N:=7) (rs:=[.tmp 3]) Tryz.func76 ?_
 repeat' first|(first|refine kcc ?_|refine kx hM ?_|apply kU|apply kF);simp only[go_sem]|apply kh<;>intro qa
theorem all1_D(s:ByteArray):DCalls pP 79 [dv (ls s)] (dv (lb true)):=by
 refine kd (N:=3) (rs:=[.tmp 2]) Tryz.func79 ?_
 repeat' first|(first|refine kcc ?_|apply kU|apply kF);simp only[go_sem]|apply kh<;>intro qa
theorem textS_D(l:List Pst)(hl:PsB 1000 l)(hs: ∀p∈l,p.txt.size<=1000000)(role:Int)(p:ByteArray){t:List Int}(h:patT p=some t):
  DCalls pP 31 [.agg [.c (.sl 3 (l.map Pst.enc))],dv (li role),dv (ls p)] (dv (.sl 1 (ints (idsP l (ql p) role)))):=by
 have hI:=ids_D l hl role 76 [.pt [ls p]] (ql p) (fun q hq=>text1_D p q.txt h (hs q hq))
 refine kd (N:=11) (rs:=[.tmp 6]) Tryz.func31 ?_
 repeat first|apply kA|apply kB|(first|refine kcc ?_|apply kD|apply kE);simp only[go_sem]
 refine CallC.frz 5 [ls p] (by simp) (by simp only[go_sem]) ?_
 simp only[go_sem]
 repeat' first|(first|refine kcc ?_|refine kx hI ?_|apply kU|apply kF);simp only[go_sem]|apply kh<;>intro qa
theorem allS_D(l:List Pst)(hl:PsB 1000 l)(role:Int):
  DCalls pP 33 [.agg [.c (.sl 3 (l.map Pst.enc))],dv (li role)] (dv (.sl 1 (ints (idsP l (fun _=>true) role)))):=by
 have hI:=ids_D l hl role 79 [] (fun _=>true) (fun q _=>all1_D q.txt)
 refine kd (N:=8) (rs:=[.tmp 4]) Tryz.func33 ?_
 repeat' first|(first|refine kcc ?_|refine kx hI ?_|apply kU|apply kF);simp only[go_sem]|apply kh<;>intro qa
end Go.Proofs.YtaaodllggdjhiaaGreatDoor
namespace Go.Proofs.YtaaodllggdjhiaaGreatDoor
abbrev kpm37:List (Nat×Go.Dl.Mode):=[(0,.light),(1,.light),(2,.light),(3,.light),(4,.light),(5,.step),(6,.light)]
abbrev kq40:Nat->List (Nat×Go.Dl.Mode):=fun n=>match n with|3=>kpm37|8=>kpm37|_=>[]
end Go.Proofs.YtaaodllggdjhiaaGreatDoor
namespace Go.Proofs.YtaaodllggdjhiaaGreatDoor
open Go.Dl S
attribute [local irreducible] DW DCalls ECalls qo wk IW
def qB(l:List Pst)(d:Dcm)(c:Nat):List T:=[.c (.pt [.sl 3 (l.map Pst.enc)]),.bx c 1 0 0,.c (.pt d.enc)]
def v7(l:List Pst)(d:Dcm)(c:Nat):Mem:=ml [(c,[[.fv 30 (qB l d c)]])]
def RunC(l:List Pst)(d:Dcm)(c:Nat)(q:Qry):Prop:=
 ECalls pP 30 [.agg q.row,dv (.pt [.sl 3 (l.map Pst.enc)]),.one (.bx (c+NB) 1 0 0),dv (.pt d.enc)] (v7 l d (c+NB)) (fun r H'=>r=dv (.sl 1 (ints (q.ev d ql)))/\H'=v7 l d (c+NB))
theorem zu{l:List Pst}{d:Dcm}{c:Nat}{bx:Mem}(h:bx (c+NB)=some [[.fv 30 (qB l d (c+NB))]]):
  ∀k r,v7 l d (c+NB+NB) k=some r->qJ bx [c+NB] k=some r:=fun k r hk=>by
 by_cases e:k=c+NB+NB
 ·subst e
  simp only[go_sem,v7,qB]at hk
  simp only[go_sem,qJ,h,qB]
  exact hk
 ·simp only[go_sem,v7,e]at hk
theorem qbF(c:Nat){k:Nat}(hk:k<1000):CallOk [c+NB] (some k):=⟨fun n hn=>by
  simp only[ws,yl,or_false]at hn
  rw[hn];exact Qr (yx _ _),fun n hn=>by
  injection hn with hn;subst hn
  have:=qL
  exact⟨fun e=>by simp only[ws,yl,or_false]at e;exact absurd e (Nat.ne_of_lt (yA hk (by omega:1000<=c+NB))),hk⟩⟩
structure SrcH(l:List Pst)(d:Dcm):Prop where
 W:WfD d
 hl:d.notes.length<=19
 ht:d.tiers.length<=100000
 hi:IdB d
 ix:IxOk l (TriN d.tiers d.notes)
 ps:PsB 1000 l
 txt: ∀p∈l,p.txt.size<=1000000
def okT(p:ByteArray):Bool:=(patT p).isSome
theorem qpz{l:List Pst}{d:Dcm}(H:SrcH l d)(c:Nat)(role:Int)(txt:ByteArray)(kids:List Qry)(h1:1<=role)(h5:role<=5)(hp:okT txt=true):RunC l d c (.mk 0 role txt kids):=by
 obtain⟨t,ht⟩:=Option.isSome_iff_exists.1 hp
 have hT:=textS_D l H.ps H.txt role txt ht
 have he:Qry.ev d ql (.mk 0 role txt kids)=txtE d (ql txt) role:=by rw[Qry.ev];rfl
 unfold RunC
 rw[he,<-qnX H.W H.ix (ql txt) h1 h5]
 have h4:(c+NB=4)=False:=eq_false (by have:=qL;omega)
 refine vW (N:=74) (rs:=[.tmp 5]) (by kernel_rfl) Tryz.func30 rfl rfl rfl (by simp) ?_
 repeat' first|(first|refine kcc ?_|refine kjj kq40 ?_|refine kx hT ?_|apply kU);simp only[go_sem,Qry.row,v7,qB]|apply kh<;>intro qa
 refine kK (kM (N:=74) (sls:=[(5,dv (.sl 1 (ints (idsP l (ql txt) role))))]) (bxs:=[(c+NB,[[.fv 30 (qB l d (c+NB))]])]) rfl (by simp only[go_sem]) (by simp only[go_sem,qB,h4])) ?_
 apply kF;simp only[go_sem]
 rfl
theorem run_not{l:List Pst}{d:Dcm}(H:SrcH l d)(c:Nat)(role:Int)(txt:ByteArray)(k0:Qry)(h1:1<=role)(h5:role<=5)(hr:RunC l d (c+NB) k0):RunC l d c (.mk 3 role txt [k0]):=by
 have hA:=allS_D l H.ps role
 rw[qnX H.W H.ix _ h1 h5,qmb]at hA
 have he:Qry.ev d ql (.mk 3 role txt [k0])=minI (QA d role) (k0.ev d ql):=by rw[Qry.ev];rfl
 have hev:=zW H.W ql k0
 have hel:=qaY H.W ql k0
 have hl:=H.hl
 have hro: ∀x∈QA d role,x∈d.ids:=fun x hx=>by
  obtain⟨n,hn,_,e⟩:=WfD.role_mem.1 hx
  exact WfD.ids_mem.2 ⟨n,hn,e⟩
 have hrl:=qgJ H.W (H.W.role_up role) hro
 have hM:=minus_D (QA d role) (k0.ev d ql) (fun x hx=>Zv H.W H.hi (hro x hx)) (fun x hx=>Zv H.W H.hi (hev.2 x hx)) (by omega) (by omega)
 unfold RunC at hr ⊢
 rw[he]
 generalize k0.ev d ql=a at*
 obtain⟨o0,r0,t0,ks0⟩:=k0
 have h4:(c+NB=4)=False:=eq_false (by have:=qL;omega)
 refine vW (N:=74) (rs:=[.tmp 5]) (by kernel_rfl) Tryz.func30 rfl rfl rfl (by simp) ?_
 (repeat'(first|apply kA|apply kB|((first|refine kcc ?_|refine kjj kq40 ?_|apply kD|apply kE);simp +decide only[go_sem,Qry.row,Qry.encL,Qry.enc,v7,qB,h4])|(apply kG;(simp +decide only[go_sem];rfl);all_goals(intro qa;try exact kz qa))))
 refine CallC.eff [c+NB] hr rfl (DLeL.of_eq (by simp +decide only[go_sem,Qry.row])) (zu (by simp +decide only[go_sem,qB,h4])) (qbF c (by decide)) ?_
 rintro r H' ⟨rfl,rfl⟩
 simp +decide only[go_sem,v7,qB]
 (repeat'(first|apply kA|apply kB|((first|refine kcc ?_|refine kjj kq40 ?_|apply kD|apply kE|refine kx hA ?_|refine kx hM ?_);simp +decide only[go_sem,qd])|(apply kG;(simp +decide only[go_sem];rfl);all_goals(intro qa;try exact kz qa))))
 refine kK (kM (N:=74) (sls:=[(5,dv (.sl 1 (ints (minI (QA d role) a))))]) (bxs:=[(c+NB,[[.fv 30 (qB l d (c+NB))]])]) rfl (by simp +decide only[go_sem]) (by simp +decide only[go_sem,qd,qB,nb_z,h4])) ?_
 apply kF;simp +decide only[go_sem]
 rfl
end Go.Proofs.YtaaodllggdjhiaaGreatDoor
