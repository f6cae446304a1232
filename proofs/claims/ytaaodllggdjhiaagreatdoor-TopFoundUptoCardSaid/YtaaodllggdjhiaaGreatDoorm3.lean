/- The logic of data over the kit's walk, and contracts of the functions that the laws reach, each said by plain data; part 4 of 7. -/
import Derived.Lib.ItoaNum
import Derived.Lib.AtoiAll
import Derived.Maps.OwnSet
import Derived.WalkKit
import Derived.Lib.SliceRun
import Derived.Test.YtaaodllggdjhiaaGreatDoorm2
set_option linter.all false
set_option linter.unusedVariables false
set_option linter.unusedSimpArgs false
set_option maxRecDepth 10000
set_option maxHeartbeats 8000000
open Array renaming getElem?_eq_some_iff → wF
open Bool renaming eq_iff_iff → yH, or_false → yf, and_eq_true → wu, true_and → yy, not_eq_true' → yI, false_and → jB, false_or → jH, false_eq_true → w8
open Go.Proofs.Tryz renaming prog → pP
open Int renaming toNat_natCast → wB
open List renaming cons_append → wH, getElem?_eq_getElem → wc, getElem?_eq_some_iff → wd, take_length → wh, append_nil → wM, length_take → wx, take_append_drop → wS, getElem?_append_right → wG, drop_eq_getElem_cons → wL, append_assoc → wU, length_append → wA, mem_append → wo, pairwise_cons → wK, mem_cons_of_mem → yN, mem_cons → ws, takeWhile_cons → jc, dropWhile_cons → yW, pairwise_append → wW, pairwise_iff_getElem → jy, getElem?_eq_none → wZ, take_zero → wg, map_nil → wn, mem_singleton → yd, map_append → wJ, take_of_length_le → wO, length_map → we, length_cons → wz, length_nil → wR, length_drop → yc, filter_nil → yi, length_filter_le → wC, filter_append → yG, length_eq_zero_iff → yh, mem_map → wI, map_cons → wt, length_pos_iff → yn, getElem?_map → wq, map_map → yw, drop_succ_cons → wj, foldl_cons → w6, mem_filter → wQ, nil_append → wE, not_mem_nil → yl, any_eq_true → yo, flatMap_cons → jr, mem_of_getElem? → wl, mem_flatMap → jm, drop_zero → ww, take_succ_cons → wm, filter_cons → jl, foldl_nil → w9, foldl_append → yp, nodup_cons → jp, filterMap_cons → yQ, filterMap_nil → yS, mem_iff_getElem? → yq
open Nat renaming le_refl → wv, min_eq_left → yR, sub_self → yM, zero_le → ye, lt_or_ge → yg, zero_add → yr, add_zero → jf, le_trans → wD, mul_comm → jg
open Option renaming map_eq_some_iff → wy, map_some → w4
open Go.Dl renaming dw_seq → kA, dw_block → kB, dw_reg → kC, dw_skip → kD, dw_exit → kE, dw_ret → kF, dw_cond → kG, guardC_f → kH, guardC_t → kI, dw_drw → kJ, dw_weaken → kK, sub_kn → kL, sub_ml → kM
open Go.Dl.CallC renaming mk → kN, light → kO
open Go.Dl.LeL renaming of_eq → kP
namespace Go.Proofs.YtaaodllggdjhiaaGreatDoor
abbrev kpm1:List (Nat×Go.Dl.Mode):=[(0,.light),(1,.light),(2,.light),(3,.light),(4,.light),(5,.light),(6,.light),(7,.light),(8,.light),(9,.light)]
abbrev kq1:Nat->List (Nat×Go.Dl.Mode):=fun n=>match n with|6=>kpm1|11=>kpm1|_=>[]
end Go.Proofs.YtaaodllggdjhiaaGreatDoor
namespace Go.Proofs.YtaaodllggdjhiaaGreatDoor.S
open Go.Dl
attribute [local irreducible] DW DCalls ECalls wk IW
def cptF(p:Option Int):List Int->List Int
 | []=>[]
 | x::r=>if p=some x then cptF (some x) r else x::cptF (some x) r
def cpt(xs:List Int):List Int:=cptF none xs
theorem qdp(x:Int): ∀(l:List Int) (p:Option Int),cptF p (l++[x])=cptF p l++if(l.getLast?.or p)=some x then []else [x]
 | [],p=>by by_cases h:p=some x<;>simp[cptF,h]
 | y::l,p=>by
  simp only[wH,cptF]
  have hl:((y::l).getLast?.or p)=(l.getLast?.or (some y)):=by cases l<;>simp[List.getLast?_cons]
  rw[hl]
  split
  ·exact qdp x l (some y)
  ·rw[qdp x l (some y)];rfl
theorem qfx{xs:List Int}{k:Nat}{x y:Int}(hx:xs[k+1]? =some x)(hy:xs[k]? =some y):cpt (xs.take (k+2))=cpt (xs.take (k+1))++if y=x then []else [x]:=by
 have h1:xs.take (k+2)=xs.take (k+1)++[x]:=qH hx
 have h2:(xs.take (k+1)).getLast? =some y:=by rw[qH hy];simp
 rw[cpt,h1,qdp,h2];simp[cpt]
theorem qfy: ∀(l:List Int) (p:Option Int),(cptF p l).length<=l.length
 | [],p=>by simp[cptF]
 | x::l,p=>by
  simp only[cptF]
  split
  ·have:=qfy l (some x);simp;omega
  ·have:=qfy l (some x);simp;omega
theorem qiA{xs:List Int}{k:Nat}(h: ∀i x y,i+1<k->xs[i]? =some x->xs[i+1]? =some y->x≠y)(hk:k<=xs.length):cpt (xs.take k)=xs.take k:=by
 induction k with
 | zero=>simp[cpt,cptF]
 | succ k ih=>
  have ih':=ih (fun i x y hi=>h i x y (by omega)) (by omega)
  cases k with
  | zero=>
   cases xs with
   | nil=>simp[cpt,cptF]
   | cons x xs=>simp[cpt,cptF]
  | succ k=>
   have h1:xs[k+1]? =some xs[k+1]:=wc (by omega)
   have h0:xs[k]? =some xs[k]:=wc (by omega)
   rw[qfx h1 h0,if_neg (h k _ _ (by omega) h0 h1),ih',<-qH h1]
theorem qfg{zs:List Int}{js:Dl.Rows}{i:Nat}{x:Int}(h:zs[i]? =some x):(iRows zs++js)[i]? =some [T.c (li x)]:=by
 rw[List.getElem?_append_left (by rw[iRows_len];exact(wd.1 h).1)];exact qda h
theorem qnY{zs:List Int}{js:Dl.Rows}{i:Nat}{x:Int}(h:i<zs.length):(iRows zs++js).set i [T.c (li x)]=iRows (zs.set i x)++js:=by
 rw[List.set_append_left _ _ (by rw[iRows_len];exact h)]
 simp[iRows,List.map_set]
theorem qon(xs:List Int)(j q:Nat)(hq:NB<=q)(hl:xs.length<=1000000):ECalls pP 149 [.one (.ba q 1 0 xs.length (xs.length+j))] (ml [(q,iRows xs++qb j 1)])
  (fun r H'=>∃j',r= .one (.ba q 1 0 (cpt xs).length (xs.length+j))/\H'=ml [(q,iRows (cpt xs)++qb j' 1)]):=by
 have qK:=kmax
 have h64: ∀z:Int,-1<=z->z<=10000000->IntKind.wrap .i64 z=z:=fun z h1 h2=>wrap_i64 (by omega) (by omega)
 refine vW (N:=61) (rs:=[.tmp 2]) (by kernel_rfl) Tryz.func149 rfl rfl rfl (by simp) ?_
 repeat first|apply kA|apply kB|(first|refine kcc ?_|refine kjj kq1 ?_|apply kD|apply kE);simp +decide only[go_sem]
 apply kG;(simp +decide only[go_sem];rfl)
 ·intro hc
  have hs:cpt xs=xs:=by
   have:=qiA (xs:=xs) (k:=xs.length) (fun i x y hi=>by simp at hc;omega) (wv _)
   rwa [wh]at this
  repeat first|apply kA|apply kB|(first|refine kcc ?_|refine kjj kq1 ?_|apply kD|apply kE);simp +decide only[go_sem]
  refine kK (kM (N:=61) (sls:=[(2,.one (.ba q 1 0 xs.length (xs.length+j)))]) (bxs:=[(q,iRows xs++qb j 1)]) rfl (by simp +decide only[go_sem]) (by simp +decide only[go_sem])) ?_
  apply kF;simp +decide only[go_sem]
  exact⟨j,by rw[hs],by rw[hs];rfl⟩
 ·intro hc
  have hc2:2<=xs.length:=by simp at hc;omega
  repeat first|apply kA|apply kB|(first|refine kcc ?_|refine kjj kq1 ?_|apply kD|apply kE);simp +decide only[go_sem]
  refine qk (fun m:Nat=>kn 61 [(0,.one (.ba q 1 0 xs.length (xs.length+j))),(3,dv (li m))] (ml [(q,iRows xs++qb j 1)]))
   (fun m=>1<=m/\m<=xs.length/\∀i x y,i+1<m->xs[i]? =some x->xs[i+1]? =some y->x≠y) (fun k=>xs.length - k) 1 (kmm) ⟨by omega,by omega,fun i x y hi=>by omega⟩ ?_
  rintro m ⟨hm1,hm,Zr⟩
  repeat first|apply kA|apply kB|(first|refine kcc ?_|refine kjj kq1 ?_|apply kD|apply kE);simp +decide only[go_sem]
  apply kG;(simp +decide only[go_sem];rfl)
  ·intro h1
   have hk':m<xs.length:=by simp at h1;omega
   have hx:xs[m]? =some xs[m]:=wc hk'
   have hkl:m - 1<xs.length:=by omega
   have hy:xs[m - 1]? =some xs[m - 1]:=wc hkl
   have hw:IntKind.wrap .i64 ((m:Int) - 1)=((m - 1:Nat):Int):=by rw[h64 _ (by omega) (by omega)];omega
   have hRx:=qfg (js:=qb j 1) hx
   have hRy:=qfg (js:=qb j 1) hy
   repeat first|apply kA|apply kB|(first|refine kcc ?_|refine kjj kq1 ?_|apply kD|apply kE);simp +decide only[go_sem,hw,hRx,hRy,hk',hkl]
   apply kG;(simp +decide only[go_sem];rfl)
   ·intro h2
    have hle:xs.length<=xs.length+j:=by omega
    repeat first|apply kA|apply kB|(first|refine kcc ?_|refine kjj kq1 ?_|apply kD|apply kE);simp +decide only[go_sem,hm,hle]
    have hxy:xs[m - 1]=xs[m]:=by simp at h2;exact h2.symm
    have hc1:cpt (xs.take (m+1))=xs.take m:=by
     obtain⟨k,rfl⟩: ∃k,m=k+1:=⟨m - 1,by omega⟩
     rw[qfx hx hy,if_pos (by simpa using hxy),wM,qiA Zr hm]
    refine qk (fun d:Nat=>kn 61 [(0,.one (.ba q 1 0 xs.length (xs.length+j))),(3,dv (li (cpt (xs.take (m+d))).length)),(4,.one (.ba q 1 m (xs.length - m) (xs.length+j - m))),(5,dv (li d))] (ml [(q,iRows (cpt (xs.take (m+d))++xs.drop (cpt (xs.take (m+d))).length)++qb j 1)]))
     (fun d=>1<=d/\m+d<=xs.length/\(cpt (xs.take (m+d))).length<m+d) (fun d=>xs.length - d) 1 (kM rfl (by simp +decide only[go_sem,hc1,wx,yR hm]) (by simp +decide only[go_sem,hc1,wx,yR hm,wS])) ⟨by omega,by omega,by rw[hc1];simp;omega⟩ ?_
    rintro d ⟨hd1,hd,hdl⟩
    obtain⟨C,hC⟩: ∃C,C=cpt (xs.take (m+d)):=⟨_,rfl⟩
    rw[<-hC]at hdl ⊢
    repeat first|apply kA|apply kB|(first|refine kcc ?_|refine kjj kq1 ?_|apply kD|apply kE);simp +decide only[go_sem]
    apply kG;(simp +decide only[go_sem];rfl)
    ·intro h3
     have hmd:m+d<xs.length:=by simp at h3;omega
     have hZ: ∀i (h:i<xs.length),C.length<=i->(iRows (C++xs.drop C.length)++qb j 1)[i]? =some [T.c (li xs[i])]:=fun i h hi=>qfg (by
      rw[wG hi,List.getElem?_drop,show C.length+(i - C.length)=i by omega,wc h])
     have hm1d:m+d - 1<xs.length:=by omega
     have hZ1:=hZ (m+d) hmd (by omega)
     have hZ2:=hZ (m+d - 1) hm1d (by omega)
     have hw2:IntKind.wrap .i64 ((d:Int) - 1)=((d - 1:Nat):Int):=by rw[h64 _ (by omega) (by omega)];omega
     have hw3:IntKind.wrap .i64 ((d:Int)+1)=((d+1:Nat):Int):=by rw[h64 _ (by omega) (by omega)];omega
     have hw4:IntKind.wrap .i64 ((C.length:Int)+1)=((C.length+1:Nat):Int):=by rw[h64 _ (by omega) (by omega)];omega
     have hdm:m+(d - 1)=m+d - 1:=by omega
     have hdn:d<xs.length - m:=by omega
     have hdn1:d - 1<xs.length - m:=by omega
     have hCn:C.length<xs.length:=by omega
     repeat first|apply kA|apply kB|(first|refine kcc ?_|refine kjj kq1 ?_|apply kD|apply kE);simp +decide only[go_sem,hw2,hdm,hZ1,hZ2,hdn,hdn1]
     have QU:cpt (xs.take (m+(d+1)))=C++if xs[m+d - 1]=xs[m+d]then []else [xs[m+d]]:=by
      rw[hC,show m+(d+1)=(m+d - 1)+2 by omega]
      have e1:(m+d - 1)+1=m+d:=by omega
      rw[qfx (k:=m+d - 1) (x:=xs[m+d]) (y:=xs[m+d - 1]) (by rw[e1];exact wc hmd) (wc hm1d),e1]
     apply kG;(simp +decide only[go_sem];rfl)
     ·intro h4
      have hne: ¬xs[m+d - 1]=xs[m+d]:=by simp at h4;exact fun e=>h4 e.symm
      rw[if_neg hne]at QU
      have hZC:(iRows (C++xs.drop C.length)++qb j 1)[C.length]? =some [T.c (li xs[C.length])]:=hZ _ hCn (wv _)
      have Qu:(iRows (C++xs.drop C.length)++qb j 1).set C.length [T.c (li xs[m+d])]=iRows ((C++[xs[m+d]])++xs.drop (C.length+1))++qb j 1:=by
       rw[qnY (by simp;omega)]
       congr 2
       rw[List.set_append_right _ _ (wv _),wL hCn,yM,List.set_cons_zero,wU];rfl
      repeat first|apply kA|apply kB|(first|refine kcc ?_|refine kjj kq1 ?_|apply kD|apply kE);simp +decide only[go_sem,hw2,hdm,hZ1,hZ2,hdn,hdn1,hZC,Qu,hw3,hw4,hCn]
      refine⟨d+1,⟨by omega,by omega,by rw[QU];simp;omega⟩,by omega,kM rfl (by simp +decide only[go_sem,QU,wA]) (by simp +decide only[go_sem,QU,wA])⟩
     ·intro h4
      have heq:xs[m+d - 1]=xs[m+d]:=by simp at h4;exact h4.symm
      rw[if_pos heq,wM]at QU
      apply kD
      simp +decide only[go_sem]
      repeat first|apply kA|apply kB|(first|refine kcc ?_|refine kjj kq1 ?_|apply kD|apply kE);simp +decide only[go_sem,hw3]
      refine⟨d+1,⟨by omega,by omega,by rw[QU];omega⟩,by omega,kM rfl (by simp +decide only[go_sem,QU]) (by simp +decide only[go_sem,QU])⟩
    ·intro h3
     have hmd:m+d=xs.length:=by simp at h3;omega
     rw[hmd,wh]at hC
     have hCn:C.length<=xs.length:=by omega
     have hCj:C.length<=xs.length+j:=by omega
     have hCj0:=ye C.length
     repeat first|apply kA|apply kB|(first|refine kcc ?_|refine kjj kq1 ?_|apply kD|apply kE);simp +decide only[go_sem,hCn,hle]
     have hrl:(iRows (C++xs.drop C.length)).length=xs.length:=by rw[iRows_len];simp;omega
     refine StepC.mk (Step.clear (n:=q) (rows:=iRows (C++xs.drop C.length)++qb j 1) (i:=C.length) (len:=xs.length - C.length) (cap:=xs.length+j - C.length) (sz:=1) (by_:=8) rfl (by simp +decide only[go_sem]) (by simp +decide only[go_sem]) (by simp +decide only[go_sem]) (by rw[wA,hrl];omega)
      (fun r hr=>(wo.1 hr).elim (iRows_sz _ r) (Z1 j 1 r)) ?_)
     have qfj:(iRows (C++xs.drop C.length)++qb j 1).take C.length++(qb (xs.length - C.length) 1++(iRows (C++xs.drop C.length)++qb j 1).drop (C.length+(xs.length - C.length)))=iRows C++qb (xs.length - C.length+j) 1:=by
      rw[show C.length+(xs.length - C.length)=(iRows (C++xs.drop C.length)).length by rw[hrl];omega,List.drop_left,iRows_app,wU,List.take_left' (iRows_len C)]
      congr 1
      simp[qb,List.replicate_append_replicate]
     rw[qfj]
     simp +decide only[go_sem]
     repeat first|apply kA|apply kB|(first|refine kcc ?_|refine kjj kq1 ?_|apply kD|apply kE);simp +decide only[go_sem,hCj,hCj0,Nat.sub_zero]
     refine kK (kM (N:=61) (sls:=[(2,.one (.ba q 1 0 C.length (xs.length+j)))]) (bxs:=[(q,iRows C++qb (xs.length - C.length+j) 1)]) rfl (by simp +decide only[go_sem]) (by simp +decide only[go_sem])) ?_
     apply kF;simp +decide only[go_sem]
     exact⟨_,by rw[hC],by rw[hC];rfl⟩
   ·intro h2
    have hne: ¬xs[m - 1]=xs[m]:=by simp at h2;exact fun e=>h2 e.symm
    have hw3:IntKind.wrap .i64 ((m:Int)+1)=((m+1:Nat):Int):=by rw[h64 _ (by omega) (by omega)];omega
    apply kD
    simp +decide only[go_sem]
    repeat first|apply kA|apply kB|(first|refine kcc ?_|refine kjj kq1 ?_|apply kD|apply kE);simp +decide only[go_sem,hw3]
    refine⟨m+1,⟨by omega,by omega,fun i x y hi g1 g2=>?_⟩,by omega,kmm⟩
    rcases yg (i+1) m with hlt|hge
    ·exact Zr i x y hlt g1 g2
    ·obtain rfl:i=m - 1:=by omega
     rw[hy]at g1;rw[show m - 1+1=m by omega,hx]at g2
     injection g1 with g1;injection g2 with g2
     rw[<-g1,<-g2];exact hne
  ·intro h1
   have hmn:m=xs.length:=by simp at h1;omega
   have hs:cpt xs=xs:=by
    have:=qiA Zr hm
    rwa [hmn,wh]at this
   repeat first|apply kA|apply kB|(first|refine kcc ?_|refine kjj kq1 ?_|apply kD|apply kE);simp +decide only[go_sem]
   refine kK (kM (N:=61) (sls:=[(2,.one (.ba q 1 0 xs.length (xs.length+j)))]) (bxs:=[(q,iRows xs++qb j 1)]) rfl (by simp +decide only[go_sem]) (by simp +decide only[go_sem])) ?_
   apply kF;simp +decide only[go_sem]
   exact⟨j,by rw[hs],by rw[hs];rfl⟩
def usort(xs:List Int):List Int:=cpt (srt xs)
theorem usort_len(xs:List Int):(usort xs).length<=xs.length:=by
 have:=qfy (srt xs) none
 rw[qmi]at this;exact this
theorem ints_c(xs:List Int):(ints xs).map (List.map T.c)=iRows xs:=by simp[iRows]
theorem sorted_D(xs:List Int)(hl:xs.length<=1000000):DCalls pP 80 [dv (.sl 1 (ints xs))] (dv (.sl 1 (ints (usort xs)))):=by
 refine kd (N:=7) (rs:=[.tmp 2]) Tryz.func80 ?_
 repeat first|apply kA|apply kB|(first|refine kcc ?_|apply kD|apply kE);simp +decide only[go_sem]
 (first|refine kx (qo7 xs) ?_);simp +decide only[go_sem]
 refine CallC.eff [] (qmk xs hl) rfl (DLeL.of_eq (by simp +decide only[go_sem])) (fun k r h=>by cases h) (by constructor<;>simp) ?_
 rintro r H' ⟨j,rfl,rfl⟩
 simp +decide only[go_sem]
 have hsl:=qmi xs
 refine CallC.eff [5] (qon (srt xs) j (5+NB) (Nat.le_add_left _ _) (by omega)) rfl (DLeL.of_eq (by simp +decide only[go_sem,hsl])) (fun k r h=>?_) (by constructor<;>simp[mid]) ?_
 ·by_cases hk:k=5+NB
  ·subst hk;simp +decide only[go_sem]at h;subst h;simp +decide only[go_sem,qd,qJ]
  ·simp +decide only[go_sem,hk]at h
 rintro r H' ⟨j',rfl,rfl⟩
 simp +decide only[go_sem]
 repeat first|apply kA|apply kB|(first|refine kcc ?_|apply kD|apply kE);simp +decide only[go_sem]
 refine qae 5 1 (ints (usort xs)) (qb j' 1) (by decide) (by simp +decide only[go_sem,qd,ints_c];rfl) (by simp) ?_
 have hlen:(ints (usort xs)).length=(cpt (srt xs)).length:=by simp[usort]
 have hle:(cpt (srt xs)).length<=(usort xs).length:=wv _
 have htk:(ints (usort xs)).take (cpt (srt xs)).length=ints (usort xs):=by rw[<-hlen,wh]
 apply kF;simp +decide only[go_sem,hle,htk]
end Go.Proofs.YtaaodllggdjhiaaGreatDoor.S
namespace Go.Proofs.YtaaodllggdjhiaaGreatDoor
open Go.Dl S
theorem qhg: ∀(l:List Int) (p:Int),l.Pairwise (· <= ·)->(∀x∈l,p<=x)->
  (cptF (some p) l).Pairwise (· < ·)/\(∀x∈cptF (some p) l,p<x)/\∀x,x∈cptF (some p) l↔x∈l/\x≠p
 | [],p,_,_=>by simp[cptF]
 | x::l,p,hs,hp=>by
  obtain⟨h1,h2⟩:=wK.1 hs
  have hpx:=hp x (by simp)
  obtain⟨i1,i2,i3⟩:=qhg l x h2 h1
  simp only[cptF]
  split
  ·rename_i he
   injection he with he;subst he
   refine⟨i1,i2,fun y=>?_⟩
   rw[i3]
   constructor
   ·exact fun h=>⟨yN _ h.1,h.2⟩
   ·rintro⟨h,hn⟩
    rcases ws.1 h with h|h
    ·exact absurd h hn
    ·exact⟨h,hn⟩
  ·rename_i he
   have hlt:p<x:=by
    have:p≠x:=fun e=>he (by rw[e])
    omega
   refine⟨wK.2 ⟨i2,i1⟩,fun y hy=>?_,fun y=>?_⟩
   ·rcases ws.1 hy with rfl|hy
    ·exact hlt
    ·have:=i2 y hy;omega
   ·simp only[ws,i3]
    constructor
    ·rintro(rfl|⟨h,_⟩)
     ·exact⟨.inl rfl,by omega⟩
     ·have:=h1 y h;exact⟨.inr h,by omega⟩
    ·rintro⟨rfl|h,_⟩
     ·exact .inl rfl
     ·by_cases e:y=x
      ·exact .inl e
      ·exact .inr ⟨h,e⟩
theorem qqJ(l:List Int)(hs:l.Pairwise (· <= ·)):(cpt l).Pairwise (· < ·)/\∀x,x∈cpt l↔x∈l:=by
 cases l with
 | nil=>simp[cpt,cptF]
 | cons x l=>
  obtain⟨h1,h2⟩:=wK.1 hs
  obtain⟨i1,i2,i3⟩:=qhg l x h2 h1
  have he:cpt (x::l)=x::cptF (some x) l:=by simp[cpt,cptF]
  rw[he]
  refine⟨wK.2 ⟨i2,i1⟩,fun y=>?_⟩
  simp only[ws,i3]
  constructor
  ·rintro(h|h)
   ·exact .inl h
   ·exact .inr h.1
  ·rintro(h|h)
   ·exact .inl h
   ·by_cases e:y=x
    ·exact .inl e
    ·exact .inr ⟨h,e⟩
theorem qf1(l:List Int):(srt l).Pairwise (· <= ·):=by
 have:=List.pairwise_mergeSort (le:=fun x y:Int=>decide (x<=y)) (fun a b c h1 h2=>by simp at *;omega) (fun a b=>by simp;omega) l
 exact this.imp (by intro a b h;simpa using h)
theorem qi(l:List Int):(usort l).Pairwise (· < ·)/\∀x,x∈usort l↔x∈l:=by
 obtain⟨h1,h2⟩:=qqJ (srt l) (qf1 l)
 exact⟨h1,fun x=>(h2 x).trans (List.mem_mergeSort)⟩
theorem qjE: ∀{xs ys:List Int},xs.Pairwise (· < ·)->ys.Pairwise (· < ·)->(∀x,x∈xs↔x∈ys)->xs=ys
 | [],[],_,_,_=>rfl
 | [],y::ys,_,_,h=>by have:=(h y).2 (by simp);simp at this
 | x::xs,[],_,_,h=>by have:=(h x).1 (by simp);simp at this
 | x::xs,y::ys,hx,hy,h=>by
  obtain⟨a1,a2⟩:=wK.1 hx
  obtain⟨b1,b2⟩:=wK.1 hy
  have e:x=y:=by
   rcases ws.1 ((h x).1 (by simp))with e|e
   ·exact e
   ·rcases ws.1 ((h y).2 (by simp))with f|f
    ·exact f.symm
    ·have:=a1 y f;have:=b1 x e;omega
  subst e
  rw[qjE a2 b2 fun z=>?_]
  constructor
  ·intro hz
   rcases ws.1 ((h z).1 (by simp[hz]))with e|e
   ·have:=a1 z hz;omega
   ·exact e
  ·intro hz
   rcases ws.1 ((h z).2 (by simp[hz]))with e|e
   ·have:=b1 z hz;omega
   ·exact e
theorem qaC{xs ys:List Int}(hs:ys.Pairwise (· < ·))(hm: ∀x,x∈ys↔x∈xs):usort xs=ys:=
 qjE (qi xs).1 hs fun x=>((qi xs).2 x).trans (hm x).symm
theorem qai{xs ys:List Int}(hm: ∀x,x∈xs↔x∈ys):usort xs=usort ys:=
 qaC (qi ys).1 fun x=>((qi ys).2 x).trans (hm x).symm
theorem qo8{xs:List Int}(h:xs.Pairwise (· < ·)):usort xs=xs:=qaC h fun _=>Iff.rfl
def putI(l:List Int)(n:Int):List Int:=(l.takeWhile fun x=>decide (x<n))++n::(l.dropWhile fun x=>decide (x<n)).dropWhile fun x=>decide (x=n)
theorem QO{l:List Int}(n:Int)(h:l.Pairwise (· < ·)):(putI l n).Pairwise (· < ·)/\∀x,x∈putI l n↔x∈l\/x=n:=by
 have key: ∀l:List Int,l.Pairwise (· < ·)->∃a b,l=a++b/\(l.takeWhile fun x=>decide (x<n))=a/\(l.dropWhile fun x=>decide (x<n))=b/\(∀x∈a,x<n)/\∀x∈b,n<=x:=by
  intro l
  induction l with
  | nil=>intro _;exact⟨[],[],rfl,rfl,rfl,by simp,by simp⟩
  | cons y l ih=>
   intro h
   obtain⟨h1,h2⟩:=wK.1 h
   by_cases hy:y<n
   ·obtain⟨a,b,e,ea,eb,ha,hb⟩:=ih h2
    refine⟨y::a,b,by rw[e];rfl,?_,?_,?_,hb⟩
    ·rw[jc,if_pos (by simpa using hy),ea]
    ·rw[yW,if_pos (by simpa using hy),eb]
    ·intro x hx
     rcases ws.1 hx with rfl|hx
     ·exact hy
     ·exact ha x hx
   ·refine⟨[],y::l,rfl,?_,?_,by simp,?_⟩
    ·rw[jc,if_neg (by simpa using hy)]
    ·rw[yW,if_neg (by simpa using hy)]
    ·intro x hx
     rcases ws.1 hx with rfl|hx
     ·omega
     ·have:=h1 x hx;omega
 obtain⟨a,b,e,ea,eb,ha,hb⟩:=key l h
 have hP:=h
 rw[e,wW]at hP
 obtain⟨pa,pb,pab⟩:=hP
 have hd: ∃c,(b.dropWhile fun x=>decide (x=n))=c/\(b=c\/b=n::c)/\(∀x∈c,n<x)/\c.Pairwise (· < ·):=by
  cases b with
  | nil=>exact⟨[],rfl,.inl rfl,by simp,by simp⟩
  | cons y b=>
   obtain⟨q1,q2⟩:=wK.1 pb
   by_cases hy:y=n
   ·subst hy
    have hb2:(b.dropWhile fun x=>decide (x=y))=b:=by
     cases b with
     | nil=>rfl
     | cons z b=>
      have:=q1 z (by simp)
      rw[yW,if_neg (by simp;omega)]
    exact⟨b,by rw[yW,if_pos (by simp),hb2],.inr rfl,q1,q2⟩
   ·have hny:=hb y (by simp)
    refine⟨y::b,by rw[yW,if_neg (by simpa using hy)],.inl rfl,fun x hx=>?_,pb⟩
    rcases ws.1 hx with rfl|hx
    ·omega
    ·have:=q1 x hx;omega
 obtain⟨c,ec,hbc,hc,pc⟩:=hd
 have qgN:putI l n=a++n::c:=by rw[putI,ea,eb,ec]
 rw[qgN]
 refine⟨?_,fun x=>?_⟩
 ·rw[wW,wK]
  refine⟨pa,⟨hc,pc⟩,fun x hx y hy=>?_⟩
  rcases ws.1 hy with rfl|hy
  ·exact ha x hx
  ·have:=ha x hx;have:=hc y hy;omega
 ·rw[e]
  rcases hbc with rfl|rfl
  ·simp only[wo,ws]
   constructor
   ·rintro(h|h|h)
    ·exact .inl (.inl h)
    ·exact .inr h
    ·exact .inl (.inr h)
   ·rintro((h|h)|h)
    ·exact .inl h
    ·exact .inr (.inr h)
    ·exact .inr (.inl h)
  ·simp only[wo,ws]
   constructor
   ·rintro(h|h|h)
    ·exact .inl (.inl h)
    ·exact .inr h
    ·exact .inl (.inr (.inr h))
   ·rintro((h|h|h)|h)
    ·exact .inl h
    ·exact .inr (.inl h)
    ·exact .inr (.inr h)
    ·exact .inr (.inl h)
theorem qkT(xs:List Int)(n:Int):putI (usort xs) n=usort (xs++[n]):=by
 obtain⟨h1,h2⟩:=QO n (qi xs).1
 refine(qaC h1 fun x=>?_).symm
 rw[h2,(qi xs).2];simp
theorem QJ:usort []= []:=by simp[usort,srt,cpt,cptF]
def lowI(l:List Int)(n:Int):Nat:=(l.takeWhile fun x=>decide (x<n)).length
end Go.Proofs.YtaaodllggdjhiaaGreatDoor
namespace Go.Proofs.YtaaodllggdjhiaaGreatDoor
open Go.Lib
def okNum(v:Int)(s:List UInt8):Prop:=itoa v=s/\ -1099511627776<=v/\v<=1099511627776
instance (v:Int) (s:List UInt8):Decidable (okNum v s):=by unfold okNum;infer_instance
end Go.Proofs.YtaaodllggdjhiaaGreatDoor
namespace Go.Proofs.YtaaodllggdjhiaaGreatDoor
open Go.Dl
open S (usort)
attribute [local irreducible] DW DCalls ECalls wk IW
theorem low_is{l:List Int}{n:Int}{k:Nat}(hk:k<=l.length)(h1: ∀x∈l.take k,x<n)(h2: ∀x,l[k]? =some x->¬x<n):l.takeWhile (fun x=>decide (x<n))=l.take k/\l.dropWhile (fun x=>decide (x<n))=l.drop k:=by
 induction l generalizing k with
 | nil=>simp
 | cons y l ih=>
  cases k with
  | zero=>
   have:=h2 y rfl
   simp[this]
  | succ k=>
   have hy:=h1 y (by simp)
   have:=ih (k:=k) (by simpa using hk) (fun x hx=>h1 x (by simp[hx])) (fun x hx=>h2 x (by simpa using hx))
   simp[hy,this]
theorem putI_at{l:List Int}{n:Int}{k:Nat}(hs:l.Pairwise (· < ·))(hk:k<=l.length)(h1: ∀x∈l.take k,x<n)(h2: ∀x,l[k]? =some x->¬x<n):
  putI l n=l.take k++n::l.drop (if l[k]? =some n then k+1 else k):=by
 obtain⟨e1,e2⟩:=low_is hk h1 h2
 rw[putI,e1,e2]
 congr 2
 rcases yg k l.length with hlt|hge
 ·have hx:l[k]? =some l[k]:=wc hlt
  rw[wL hlt,hx]
  by_cases he:l[k]=n
  ·rw[if_pos (by rw[he]),yW,if_pos (by simpa using he)]
   cases hd:l.drop (k+1)with
   | nil=>rfl
   | cons z r=>
    have hz:k+1<l.length:=by
     have:=congrArg List.length hd;simp at this;omega
    have hze:l[k+1]=z:=by
     rw[wL hz]at hd;injection hd
    have:=jy.1 hs k (k+1) hlt hz (by omega)
    rw[yW,if_neg (by simp;omega)]
  ·rw[if_neg (by simpa using he),yW,if_neg (by simpa using he),<-wL hlt]
 ·rw[List.drop_eq_nil_of_le hge,wZ hge]
  simp
  omega
theorem qmQ(l:List Int)(n:Int)(hs:l.Pairwise (· < ·))(hl:l.length<=1000000):DCalls pP 102 [dv (.sl 1 (ints l)),dv (li n)] (dv (.sl 1 (ints (putI l n)))):=by
 have qK:=kmax
 refine kd (N:=51) (rs:=[.tmp 4]) Tryz.func102 ?_
 repeat' first|(first|refine kcc ?_|apply kU);simp +decide only[go_sem]|apply kh<;>intro qa
 refine zl 5 5 1 (by simp +decide only[go_sem]) ?_
 refine vz (fun k:Nat=>kn 51 [(0,dv (.sl 1 (ints l))),(1,dv (li n)),(5,.one (.own 5 1 (ints (l.take k)))),(6,dv (li k))] qc) (fun k=>k<=l.length/\(∀x∈l.take k,x<n)/\∀x,l[k]? =some x->¬x<n) ?_ ?_
 ·refine qk (fun k:Nat=>kn 51 [(0,dv (.sl 1 (ints l))),(1,dv (li n)),(5,.one (.own 5 1 (ints (l.take k)))),(6,dv (li k))] qc) (fun k=>k<=l.length/\∀x∈l.take k,x<n) (fun k=>l.length - k) 0 (kL rfl (by simp +decide only[go_sem,wg,wn]) (by simp[qc])) ⟨ye _,by simp⟩ ?_
  rintro k ⟨hk,h1⟩
  cases t1:decide ((k:Int)<(l.length:Int))
  ·have hke:l.length<=k:=by simpa using t1
   repeat' first|(first|refine kcc ?_|apply kU);simp +decide only[go_sem,t1]|apply kh<;>intro qa
   exact⟨k,⟨hk,h1,fun x hx=>by rw[wZ hke]at hx;cases hx⟩,kl⟩
  ·have hkl:k<l.length:=by simpa using t1
   obtain⟨x,hx⟩: ∃x,l[k]? =some x:=⟨_,wc hkl⟩
   have hw:=qt k (by omega)
   have r1:(((l.take k).length+1)*8<=140737488355328)=True:=eq_true (by rw[wx];omega)
   cases t2:decide (x<n)
   ·repeat' first|(first|refine kcc ?_|apply kU);simp +decide only[go_sem,t1,t2,hx]|apply kh<;>intro qa
    exact⟨k,⟨hk,h1,fun y hy=>by rw[hx]at hy;injection hy with hy;subst hy;simpa using t2⟩,kl⟩
   ·have htk:l.take (k+1)=l.take k++[x]:=qH hx
    repeat' first|(first|refine kcc ?_|apply kU);simp +decide only[go_sem,t1,t2,hx,hw,r1]|apply kh<;>intro qa
    exact⟨k+1,⟨by omega,fun y hy=>by
     rw[htk]at hy
     rcases wo.1 hy with hy|hy
     ·exact h1 y hy
     ·rw[yd.1 hy];simpa using t2⟩,by omega,kL rfl (by simp +decide only[go_sem,htk,wJ]) (by simp[qc])⟩
 rintro k ⟨hk,h1,h2⟩
 have qgN:=putI_at hs hk h1 h2
 have r1:(((l.take k).length+1)*8<=140737488355328)=True:=eq_true (by rw[wx];omega)
 have hw:=qt k (by omega)
 have hkk:(l.take k).length=k:=by rw[wx];omega
 have htI:List.take l.length (ints l)=ints l:=wO (by simp)
 have hdI: ∀m,List.drop m (ints l)=ints (l.drop m):=fun m=>by simp[List.map_drop]
 have hfin: ∀m,ints (l.take k)++[[li n]]++ints (l.drop m)=ints (l.take k++n::l.drop m):=fun m=>by simp
 have r2: ∀m,m<=l.length->(((l.take k).length+1+(l.length - m))*8<=140737488355328)=True:=fun m hm=>eq_true (by rw[hkk];omega)
 cases t1:decide ((k:Int)<(l.length:Int))
 ·have hke:l.length<=k:=by simpa using t1
  have hke2:k=l.length:=by omega
  rw[wZ hke,if_neg (by simp)]at qgN
  have hlo:=r2 k hk
  have hkT:(k<=l.length)=True:=eq_true hk
  repeat' first|(first|refine kcc ?_|apply kU);simp +decide only[go_sem,t1,r1,hlo,hkT,htI,hdI,wB,wA,we,wz,wR,yc]|apply kh<;>intro qa
  rw[qgN,<-hfin]
  refine qw 4 _ (DLe.own_ _ _ _) ?_
  apply kF;simp +decide only[go_sem]
 ·have hkl:k<l.length:=by simpa using t1
  obtain⟨x,hx⟩: ∃x,l[k]? =some x:=⟨_,wc hkl⟩
  cases t2:x==n
  ·rw[hx,if_neg (by simpa using t2)]at qgN
   have hlo:=r2 k hk
   have hkT:(k<=l.length)=True:=eq_true hk
   repeat' first|(first|refine kcc ?_|apply kU);simp +decide only[go_sem,t1,hx,t2,r1,hlo,hkT,htI,hdI,wB,wA,we,wz,wR,yc]|apply kh<;>intro qa
   rw[qgN,<-hfin]
   refine qw 4 _ (DLe.own_ _ _ _) ?_
   apply kF;simp +decide only[go_sem]
  ·rw[hx,if_pos (by simpa using t2)]at qgN
   have hlo:=r2 (k+1) hkl
   have hkT:(k+1<=l.length)=True:=eq_true hkl
   repeat' first|(first|refine kcc ?_|apply kU);simp +decide only[go_sem,t1,hx,t2,hw,r1,hlo,hkT,htI,hdI,wB,wA,we,wz,wR,yc]|apply kh<;>intro qa
   rw[qgN,<-hfin]
   refine qw 4 _ (DLe.own_ _ _ _) ?_
   apply kF;simp +decide only[go_sem]
theorem idxI_D(xs:List Int)(n:Int)(hx:xs.length<=maxLen):DCalls pP 226 [dv (.sl 1 (ints xs)),dv (li n)] (dv (li (idxF (fun x=>n==x) xs))):=by
 refine kd (N:=19) (rs:=[.tmp 4]) Tryz.func226 ?_
 repeat first|apply kA|apply kB|(first|refine kcc ?_|apply kD|apply kE);simp only[go_sem]
 refine qC xs (fun k=>kn 19 [(0,dv (.sl 1 (ints xs))),(1,dv (li n)),(7,dv (li xs.length)),(8,dv (li k))] qc) (fun k=>∀x∈xs.take k,(n==x)=false) hx kl (by simp) ?_ ?_
 ·intro k x hx hk hm htk hlt hw hi
  have hx':=qp hx
  repeat' first|(first|refine kcc ?_|apply kU|apply kF);simp only[go_sem,hlt,hw,hx']|apply kh<;>intro qa
  ·rw[QE hx hi qa]
  ·exact⟨qv htk hi qa,kl⟩
 ·intro hlt hi
  rw[wh]at hi
  repeat' first|(first|refine kcc ?_|apply kU|apply kF);simp only[go_sem,hlt]|apply kh<;>intro qa
  rw[QC hi]
theorem ZA(xs:List Int)(n:Int)(hx:xs.length<=maxLen):DCalls pP 92 [dv (.sl 1 (ints xs)),dv (li n)] (dv (lb (xs.any fun x=>x==n))):=by
 refine kd (N:=18) (rs:=[.tmp 4]) Tryz.func92 ?_
 repeat' first|(first|refine kcc ?_|apply kU);simp only[go_sem]|apply kh<;>intro qa
 refine qC xs (fun k=>kn 18 [(0,dv (.sl 1 (ints xs))),(1,dv (li n)),(7,dv (li xs.length)),(8,dv (li k))] qc) (fun k=>∀x∈xs.take k,(x==n)=false) hx kl (by simp) ?_ ?_
 ·intro k x hx hk hm htk hlt hw hi
  have hx':=qp hx
  repeat' first|(first|refine kcc ?_|apply kU|apply kF);simp only[go_sem,hlt,hw,hx']|apply kh<;>intro qa
  ·rw[qhx hx qa]
  ·exact⟨qv htk hi qa,kl⟩
 ·intro hlt hi
  rw[qax hi]
  repeat' first|(first|refine kcc ?_|apply kU|apply kF);simp only[go_sem,hlt]|apply kh<;>intro qa
theorem zq(xs:List Int):(usort xs).length<=xs.length:=S.usort_len xs
def inL(b:List Int)(n:Int):Bool:=b.any fun x=>x==n
def uniI(a b:List Int):List Int:=usort (a++b)
def minI(a b:List Int):List Int:=usort (a.filter fun x=> !inL b x)
def botI(a b:List Int):List Int:=usort (a.filter fun x=>inL b x)
theorem qe0(xs:List Int)(n:Int)(hl:xs.length<=999999):DCalls pP 102 [dv (.sl 1 (ints (usort xs))),dv (li n)] (dv (.sl 1 (ints (usort (xs++[n]))))):=by
 have h:=qmQ (usort xs) n (qi xs).1 (by have:=zq xs;omega)
 rw[qkT]at h
 exact h
theorem qcN(xs:List Int)(hl:xs.length<=999999):DCalls pP 103 [dv (.sl 1 (ints xs))] (dv (.sl 1 (ints (usort xs)))):=by
 have qK:=kmax
 refine kd (N:=18) (rs:=[.tmp 2]) Tryz.func103 ?_
 repeat' first|(first|refine kcc ?_|apply kU);simp only[go_sem]|apply kh<;>intro qa
 refine qw 3 (dv (.sl 1 [])) (by simp only[go_sem]) ?_
 refine qj xs (fun k=>kn 18 [(0,dv (.sl 1 (ints xs))),(3,dv (.sl 1 (ints (usort (xs.take k))))),(6,dv (li xs.length)),(7,dv (li k))] qc) (by omega) (kL rfl (by simp only[go_sem,wg,QJ,wn]) (by simp[qc])) ?_ ?_
 ·intro k x hx hk hm htk hlt hw
  have hx':=qp hx
  have hP:=qe0 (xs.take k) x (by rw[wx];omega)
  rw[<-htk]at hP
  repeat' first|(first|refine kcc ?_|refine kx hP ?_|apply kU);simp only[go_sem,hlt,hw,hx']|apply kh<;>intro qa
  exact kl
 ·intro hlt
  rw[wh]
  repeat' first|(first|refine kcc ?_|apply kU|apply kF);simp only[go_sem,hlt]|apply kh<;>intro qa
theorem qeW(a b:List Int)(hl:a.length+b.length<=999999):DCalls pP 48 [dv (.sl 1 (ints a)),dv (.sl 1 (ints b))] (dv (.sl 1 (ints (uniI a b)))):=by
 have qK:=kmax
 have hS:=qcN a (by omega)
 refine kd (N:=22) (rs:=[.tmp 4]) Tryz.func48 ?_
 repeat' first|(first|refine kcc ?_|refine kx hS ?_|apply kU);simp only[go_sem]|apply kh<;>intro qa
 refine qj b (fun k=>kn 22 [(1,dv (.sl 1 (ints b))),(5,dv (.sl 1 (ints (usort (a++b.take k))))),(10,dv (li b.length)),(11,dv (li k))] qc) (by omega) (kL rfl (by simp only[go_sem,wg,wM]) (by simp[qc])) ?_ ?_
 ·intro k x hx hk hm htk hlt hw
  have hx':=qp hx
  have hP:=qe0 (a++b.take k) x (by rw[wA,wx];omega)
  rw[wU,<-htk]at hP
  repeat' first|(first|refine kcc ?_|refine kx hP ?_|apply kU);simp only[go_sem,hlt,hw,hx']|apply kh<;>intro qa
  exact kl
 ·intro hlt
  rw[wh]
  repeat' first|(first|refine kcc ?_|apply kU|apply kF);simp only[go_sem,hlt]|apply kh<;>intro qa
  rfl
theorem qpL(a b:List Int)(hl:a.length<=999999)(hb:b.length<=maxLen):DCalls pP 49 [dv (.sl 1 (ints a)),dv (.sl 1 (ints b))] (dv (.sl 1 (ints (minI a b)))):=by
 have qK:=kmax
 refine kd (N:=27) (rs:=[.tmp 4]) Tryz.func49 ?_
 repeat' first|(first|refine kcc ?_|apply kU);simp only[go_sem]|apply kh<;>intro qa
 refine qw 5 (dv (.sl 1 [])) (by simp only[go_sem]) ?_
 refine qj a (fun k=>kn 27 [(0,dv (.sl 1 (ints a))),(1,dv (.sl 1 (ints b))),(5,dv (.sl 1 (ints (usort ((a.take k).filter fun x=> !inL b x))))),(8,dv (li a.length)),(9,dv (li k))] qc) (by omega) (kL rfl (by simp only[go_sem,wg,yi,QJ,wn]) (by simp[qc])) ?_ ?_
 ·intro k x hx hk hm htk hlt hw
  have hx':=qp hx
  have hH:=ZA b x hb
  have hP:=qe0 ((a.take k).filter fun x=> !inL b x) x (by have:=wC (fun x=> !inL b x) (a.take k);rw[wx]at this;omega)
  have hst:(a.take (k+1)).filter (fun x=> !inL b x)=(a.take k).filter (fun x=> !inL b x)++if inL b x=true then []else [x]:=by
   rw[htk,yG]
   cases h:inL b x<;>simp[h]
  rw[show (b.any fun y=>y==x)=inL b x from rfl]at hH
  cases t1:inL b x
  ·rw[t1]at hH
   rw[t1,if_neg (by decide)]at hst
   repeat' first|(first|refine kcc ?_|refine kx hH ?_|refine kx hP ?_|apply kU);simp only[go_sem,hlt,hw,hx']|apply kh<;>intro qa
   exact kL rfl (by simp only[go_sem,hst]) (by simp[qc])
  ·rw[t1]at hH
   rw[t1,if_pos rfl,wM]at hst
   repeat' first|(first|refine kcc ?_|refine kx hH ?_|refine kx hP ?_|apply kU);simp only[go_sem,hlt,hw,hx']|apply kh<;>intro qa
   exact kL rfl (by simp only[go_sem,hst]) (by simp[qc])
 ·intro hlt
  rw[wh]
  repeat' first|(first|refine kcc ?_|apply kU|apply kF);simp only[go_sem,hlt]|apply kh<;>intro qa
  rfl
theorem rBoth_D(a b:List Int)(hl:a.length<=999999)(hb:b.length<=maxLen):DCalls pP 47 [dv (.sl 1 (ints a)),dv (.sl 1 (ints b))] (dv (.sl 1 (ints (botI a b)))):=by
 have qK:=kmax
 refine kd (N:=26) (rs:=[.tmp 4]) Tryz.func47 ?_
 repeat' first|(first|refine kcc ?_|apply kU);simp only[go_sem]|apply kh<;>intro qa
 refine qw 5 (dv (.sl 1 [])) (by simp only[go_sem]) ?_
 refine qj a (fun k=>kn 26 [(0,dv (.sl 1 (ints a))),(1,dv (.sl 1 (ints b))),(5,dv (.sl 1 (ints (usort ((a.take k).filter fun x=>inL b x))))),(8,dv (li a.length)),(9,dv (li k))] qc) (by omega) (kL rfl (by simp only[go_sem,wg,yi,QJ,wn]) (by simp[qc])) ?_ ?_
 ·intro k x hx hk hm htk hlt hw
  have hx':=qp hx
  have hH:=ZA b x hb
  have hP:=qe0 ((a.take k).filter fun x=>inL b x) x (by have:=wC (fun x=>inL b x) (a.take k);rw[wx]at this;omega)
  have hst:(a.take (k+1)).filter (fun x=>inL b x)=(a.take k).filter (fun x=>inL b x)++if inL b x=true then [x]else []:=by
   rw[htk,yG]
   cases h:inL b x<;>simp[h]
  rw[show (b.any fun y=>y==x)=inL b x from rfl]at hH
  cases t1:inL b x
  ·rw[t1]at hH
   rw[t1,if_neg (by decide),wM]at hst
   repeat' first|(first|refine kcc ?_|refine kx hH ?_|refine kx hP ?_|apply kU);simp only[go_sem,hlt,hw,hx']|apply kh<;>intro qa
   exact kL rfl (by simp only[go_sem,hst]) (by simp[qc])
  ·rw[t1]at hH
   rw[t1,if_pos rfl]at hst
   repeat' first|(first|refine kcc ?_|refine kx hH ?_|refine kx hP ?_|apply kU);simp only[go_sem,hlt,hw,hx']|apply kh<;>intro qa
   exact kL rfl (by simp only[go_sem,hst]) (by simp[qc])
 ·intro hlt
  rw[wh]
  repeat' first|(first|refine kcc ?_|apply kU|apply kF);simp only[go_sem,hlt]|apply kh<;>intro qa
  rfl
theorem qlv(xs:List Int)(n:Int)(hx:xs.length<=maxLen):DCalls pP 212 [dv (.sl 1 (ints xs)),dv (li n)] (dv (lb (inL xs n))):=by
 have hI:=idxI_D xs n hx
 have e:decide ((0:Int)<=idxF (fun x=>n==x) xs)=inL xs n:=by
  have:(fun x:Int=>n==x)=fun x=>x==n:=by funext x;rw[yH];simp;exact eq_comm
  rw[this]
  unfold idxF inL
  cases xs.any fun x=>x==n<;>simp
 refine kd (N:=9) (rs:=[.tmp 4]) Tryz.func212 ?_
 repeat' first|(first|refine kcc ?_|refine kx hI ?_|apply kU|apply kF);simp only[go_sem,e]|apply kh<;>intro qa
theorem qrA(xs:List Int)(n:Int)(hx:xs.length<=maxLen):DCalls pP 196 [dv (.sl 1 (ints xs)),dv (li n)] (dv (lb (inL xs n))):=by
 have hI:=qlv xs n hx
 refine kd (N:=8) (rs:=[.tmp 4]) Tryz.func196 ?_
 repeat' first|(first|refine kcc ?_|refine kx hI ?_|apply kU|apply kF);simp only[go_sem]|apply kh<;>intro qa
theorem ba_nil(k sz:Nat):DLe (.one (.c (.lit (.slice none 0 0)))) (.one (.ba k sz 0 0 0)):=fun w E v h=>qiP k sz (.inl rfl) h
theorem grow0_D:DCalls pP 152 [dv (.lit (.slice none 0 0)),dv (li 0)] (dv (.lit (.slice none 0 0))):=by
 refine kd (N:=27) (rs:=[.tmp 4]) Tryz.func152 ?_
 repeat' first|(first|refine kcc ?_|apply kU|apply kF);simp +decide only[go_sem]|apply kh<;>intro qa
theorem grow_E(n:Nat)(h0:0<n)(hl:n<=1000000):ECalls pP 152 [dv (.lit (.slice none 0 0)),dv (li (n:Int))] qc (fun r H'=>∃j,r= .one (.ba 0 1 0 0 (n+j))/\H'=ml [(0,qb (n+j) 1)]):=by
 have qK:=kmax
 have t1:decide ((n:Int)<0)=false:=by simp
 have t2:decide ((0:Int)<(n:Int))=true:=by simp;omega
 have w1:IntKind.i64.wrap ((n:Int) - IntKind.i64.wrap ((0:Int) - 0))=(n:Int):=by
  rw[show IntKind.i64.wrap ((0:Int) - 0)=0 from rfl,wrap_i64 (by omega) (by omega)];omega
 have w2:IntKind.i64.wrap ((n:Int) - 0)=(n:Int):=by rw[wrap_i64 (by omega) (by omega)];omega
 refine vW (N:=27) (rs:=[.tmp 4]) (by kernel_rfl) Tryz.func152 rfl rfl rfl (by simp) ?_
 refine qw 0 (.one (.ba 900 1 0 0 0)) (ba_nil 900 1) ?_
 repeat' first|(first|refine kcc ?_|apply kU);simp +decide only[go_sem,t1,t2,w1]|apply kh<;>intro qa
 refine StepC.mk (Step.appendMk0List (n:=900) (i:=0) (sz:=1) (by_:=8) (k:=n) rfl rfl (by simp +decide only[go_sem]) Tryz.underlying3 (by simp +decide only[go_sem]) (by simp +decide only[go_sem]) h0 (by omega) ?_)
 intro j'
 have hz:(0<=n+j')=True:=eq_true (ye _)
 simp +decide only[go_sem,hz,Nat.sub_zero]
 repeat' first|(first|refine kcc ?_|apply kU);simp +decide only[go_sem]|apply kh<;>intro qa
 refine kK (DS.Sub.trans (Qq 22 0 (by omega)) (kM (N:=27) (sls:=[(4,.one (.ba 0 1 0 0 (n+j')))]) (bxs:=[(0,qb (n+j') 1)]) rfl (by simp +decide only[go_sem]) (by simp +decide only[go_sem]))) ?_
 apply kF;simp +decide only[go_sem]
 exact⟨j',rfl,rfl⟩
theorem qmd(LL:List (List Int))(k:Nat):((LL.take k).map List.length).sum<=(LL.map List.length).sum:=by
 have h:(LL.map List.length).sum=((LL.take k).map List.length).sum+((LL.drop k).map List.length).sum:=by
  rw[<-List.sum_append,<-wJ,wS]
 omega
theorem qnB: ∀{LL:List (List Int)} {a:List Int},a∈LL->a.length<=(LL.map List.length).sum
 | b::LL,a,h=>by
  rcases ws.1 h with rfl|h
  ·simp
  ·have:=qnB h;simp;omega
theorem qn4(LL:List (List Int)):LL.flatten.length=(LL.map List.length).sum:=by simp[List.length_flatten]
theorem cr_ints(xs:List Int):cr (ints xs)=Dl.iRows xs:=by simp[cr,Dl.iRows]
theorem iRows_c(xs:List Int):Dl.iRows xs=(ints xs).map (List.map T.c):=by simp[Dl.iRows]
theorem qqR(LL:List (List Int))(hn:LL.length<=1000)(hl:(LL.map List.length).sum<=1000000):DCalls pP 81 [dv (.sl 1 (LL.map altC))] (dv (.sl 1 (ints LL.flatten))):=by
 have qK:=kmax
 refine kd (N:=36) (rs:=[.tmp 2]) Tryz.func81 ?_
 repeat' first|(first|refine kcc ?_|apply kU);simp only[go_sem]|apply kh<;>intro qa
 refine vz (fun _:Unit=>kn 36 [(0,dv (.sl 1 (LL.map altC))),(3,dv (li (((LL.map List.length).sum:Nat):Int)))] qc) (fun _=>True) ?_ ?_
 ·refine qj LL (fun k=>kn 36 [(0,dv (.sl 1 (LL.map altC))),(3,dv (li ((((LL.take k).map List.length).sum:Nat):Int))),(9,dv (.sl 1 (LL.map altC))),(10,dv (li LL.length)),(11,dv (li k))] qc) (by omega) (kL rfl (by simp only[go_sem,wg,wn,List.sum_nil]) (by simp[qc])) ?_ ?_
  ·intro k a ha hk hm htk hlt hw
   have hle:=qmd LL (k+1)
   have hst:((LL.take (k+1)).map List.length).sum=((LL.take k).map List.length).sum+a.length:=by rw[htk];simp
   have w1:IntKind.i64.wrap ((((LL.take k).map List.length).sum:Nat)+(a.length:Int))=((((LL.take (k+1)).map List.length).sum:Nat):Int):=by rw[wrap_i64 (by omega) (by omega)];omega
   have t1:decide (((((LL.take (k+1)).map List.length).sum:Nat):Int)<0)=false:=by simp
   repeat' first|(first|refine kcc ?_|apply kU);simp only[go_sem,hlt,hw,ha,w1,t1]|apply kh<;>intro qa
   exact kl
  ·intro hlt
   rw[wh]
   repeat' first|(first|refine kcc ?_|apply kU);simp only[go_sem,hlt]|apply kh<;>intro qa
   exact⟨(),kl⟩
 rintro _ _
 rcases Nat.eq_zero_or_pos (LL.map List.length).sum with h0|h0
 ·have hz: ∀a∈LL,a= []:=fun a ha=>by
   have h1:=qnB ha
   exact yh.1 (by omega)
  rw[h0]
  repeat' first|(first|refine kcc ?_|refine kx grow0_D ?_|apply kU);simp only[go_sem]|apply kh<;>intro qa
  refine zl 6 6 1 (by simp only[go_sem]) ?_
  refine qj LL (fun k=>kn 36 [(6,.one (.own 6 1 [])),(25,dv (.sl 1 (LL.map altC))),(26,dv (li LL.length)),(27,dv (li k))] qc) (by omega) kl ?_ ?_
  ·intro k a ha hk hm htk hlt hw
   have ha0:=hz a hm
   subst ha0
   repeat' first|(first|refine kcc ?_|apply kU);simp only[go_sem,hlt,hw,ha]|apply kh<;>intro qa
   exact kl
  ·intro hlt
   have hf:LL.flatten= []:=List.flatten_eq_nil_iff.2 hz
   repeat' first|(first|refine kcc ?_|apply kU);simp only[go_sem,hlt]|apply kh<;>intro qa
   refine qw 2 (dv (.sl 1 [])) (DLe.own_ _ _ _) ?_
   apply kF;simp only[go_sem,hf]
 ·repeat first|apply kA|apply kB|(first|refine kcc ?_|apply kD|apply kE);simp only[go_sem]
  refine CallC.eff [] (grow_E (LL.map List.length).sum h0 hl) rfl (DLeL.of_eq (by simp only[go_sem])) (fun k r h=>by cases h) (by constructor<;>simp) ?_
  rintro r H' ⟨j,rfl,rfl⟩
  simp only[go_sem]
  refine kK (s':=kn 36 [(0,dv (.sl 1 (LL.map altC))),(6,.one (.ba 24 1 0 0 (0+((LL.map List.length).sum+j))))] (ml [(24,Dl.iRows []++qb ((LL.map List.length).sum+j) 1)])) (kM rfl (by simp only[go_sem,yr]) (by simp only[go_sem,qd,Dl.iRows])) ?_
  repeat' first|(first|refine kcc ?_|apply kU);simp only[go_sem]|apply kh<;>intro qa
  refine qk (fun p:Nat×Nat=>kn 36 [(6,.one (.ba 24 1 0 (LL.take p.1).flatten.length ((LL.take p.1).flatten.length+p.2))),(25,dv (.sl 1 (LL.map altC))),(26,dv (li LL.length)),(27,dv (li (p.1:Nat)))] (ml [(24,Dl.iRows (LL.take p.1).flatten++qb p.2 1)])) (fun p=>p.1<=LL.length) (fun p=>LL.length - p.1) (0,(LL.map List.length).sum+j) (kM rfl (by simp only[go_sem,wg,List.flatten_nil,wR]) (by simp only[go_sem,wg,List.flatten_nil])) (ye _) ?_
  rintro⟨k,q⟩ hk
  simp only at hk
  cases hlt:decide ((k:Int)<(LL.length:Int))
  ·have hke:LL.length<=k:=by simpa using hlt
   rw[wO hke]
   repeat' first|(first|refine kcc ?_|apply kU);simp only[go_sem,hlt]|apply kh<;>intro qa
   refine qae 24 1 (ints LL.flatten) (qb q 1) (by decide) (by simp only[go_sem,iRows_c]) (fun r hr=>by obtain⟨x,_,rfl⟩:=wI.1 hr;rfl) ?_
   have hle:LL.flatten.length<=(ints LL.flatten).length:=Nat.le_of_eq (we ..).symm
   have htk:(ints LL.flatten).take LL.flatten.length=ints LL.flatten:=wO (Nat.le_of_eq (we ..))
   apply kF;simp only[go_sem,htk]
  ·have hkl:k<LL.length:=by simpa using hlt
   obtain⟨a,ha⟩: ∃a,LL[k]? =some a:=⟨_,wc hkl⟩
   have hw:=qt k (by omega)
   have htk:(LL.take (k+1)).flatten=(LL.take k).flatten++a:=by rw[qH ha];simp
   have hle:(LL.take k).flatten.length+a.length<=1000000:=by
    have h1:=qmd LL (k+1)
    have h2:=qn4 (LL.take (k+1))
    rw[htk,wA]at h2
    omega
   repeat' first|(first|refine kcc ?_|apply kU);simp only[go_sem,hlt,ha]|apply kh<;>intro qa
   refine StepC.mk (Step.appendList (n:=24) (rows:=Dl.iRows (LL.take k).flatten) (ys:=cr (ints a)) (j:=q) (sz:=1) (by_:=8) rfl rfl (by simp only[go_sem]) (by simp only[go_sem,S.iRows_len]) (by simp only[go_sem]) (S.iRows_sz _) (qcA (by simp only[go_sem])) (by rw[S.iRows_len,qW,we];omega) ?_)
   intro j'
   simp only[go_sem,S.iRows_len,qW,we]
   repeat' first|(first|refine kcc ?_|apply kU);simp only[go_sem,hw]|apply kh<;>intro qa
   refine⟨(k+1,j'),by simp only;omega,by simp only;omega,DS.Sub.trans (Qq 33 24 (by decide)) (kM rfl (by simp only[go_sem,htk,wA]) (by simp only[go_sem,htk,S.iRows_app,cr_ints,wU]))⟩
theorem union_D(a b:List Int)(hl:a.length+b.length<=999999):DCalls pP 35 [dv (.sl 1 (ints a)),dv (.sl 1 (ints b))] (dv (.sl 1 (ints (uniI a b)))):=by
 have hC:=qqR [a,b] (by simp) (by simp;omega)
 have hS:=S.sorted_D (a++b) (by simp;omega)
 simp only[wt,wn,List.flatten_cons,List.flatten_nil,wM]at hC
 refine kd (N:=10) (rs:=[.tmp 4]) Tryz.func35 ?_
 repeat' first|(first|refine kcc ?_|refine kx hC ?_|refine kx hS ?_|apply kU|apply kF);simp +decide only[go_sem]|apply kh<;>intro qa
 rfl
end Go.Proofs.YtaaodllggdjhiaaGreatDoor
namespace Go.Proofs.YtaaodllggdjhiaaGreatDoor
open Go.Dl
attribute [local irreducible] DW DCalls ECalls wk IW
theorem qqX:DCalls pP 147 [dv (.sl 1 [])] (dv (.sl 1 [])):=by
 refine kd (N:=8) (rs:=[.tmp 2]) Tryz.func147 ?_
 refine qrE (sz:=1) 0 (by simp +decide only[go_sem]) ?_ (fun a cap ZY=>?_)
 ·repeat first|apply kA|apply kB|(first|refine kcc ?_|apply kD|apply kE);simp +decide only[go_sem]
  apply kG;(simp +decide only[go_sem];rfl)
  ·intro _
   repeat first|apply kA|apply kB|(first|refine kcc ?_|apply kD|apply kE);simp +decide only[go_sem]
   refine qw 2 (dv (.sl 1 [])) (DLe.nil_ 1) ?_
   apply kF;simp +decide only[go_sem]
  ·simp
 ·repeat first|apply kA|apply kB|(first|refine kcc ?_|apply kD|apply kE);simp +decide only[go_sem]
  apply kG;(simp +decide only[go_sem];rfl)
  ·simp
  intro _
  apply kD
  simp +decide only[go_sem]
  refine kK (s':=kn 8 [(0,dv (.sl 1 []))] qc) (kL rfl ⟨.inr (by simp +decide only[go_sem];exact DLe.emp 1 ZY),trivial⟩ (by simp[qc])) ?_
  apply kA
  refine qiv (N:=8) [.hand] rfl (by kernel_rfl) ?_
  simp +decide only[go_sem]
  refine StepC.mk (Step.buildNone (sz:=1) rfl rfl (by simp +decide only[go_sem]) ?_)
  simp +decide only[go_sem]
  refine StepC.mk (Step.appendList (n:=5) (sz:=1) (by_:=8) (rows:=[]) (j:=0) (ys:=[]) rfl rfl (by simp +decide only[go_sem]) (by simp +decide only[go_sem]) (by simp +decide only[go_sem]) (by simp[RowsSz]) (qcA (ys:=[]) (by simp +decide only[go_sem])) (by simp) ?_)
  intro j'
  simp +decide only[go_sem]
  repeat' first|(first|refine kcc ?_|apply kU);simp +decide only[go_sem]|apply kh<;>intro qa
  refine qae 7 1 [] (qb j' 1) (by decide) (by simp +decide only[go_sem]) (by simp) ?_
  have h0:(0<=0)=True:=by simp
  apply kF;simp +decide only[go_sem,List.take_nil]
end Go.Proofs.YtaaodllggdjhiaaGreatDoor
namespace Go.Proofs.YtaaodllggdjhiaaGreatDoor
open Go.RowKit Go.Maps Go.Lib Go.Sort
open Go.Dl hiding Rows
attribute [local irreducible] DW DCalls ECalls wk IW
def vA(xs:List Int):DataW Unit:=setOf (.lit (.bool true)) (xs.map fun x=>Lit.int .i64 x)
theorem ZV(xs:List Int)(x:Int):vA (xs++[x])=(vA xs).put (.int .i64 x) (.lit (.bool true)):=by
 unfold vA;rw[wJ,wt,wn,setOf_snoc]
def wfI(x:Int):Prop:=(Lit.int .i64 x).wf=true
theorem qel: ∀(acc:List Lit) (m:DataW Unit),IsMap m->IsMap (acc.foldl (fun m x=>m.put x (.lit (.bool true))) m)
 | [],_,h=>h
 | x::r,m,h=>qel r _ (h.put x _)
theorem qif(xs:List Int):IsMap (vA xs):=qel _ _ isMap_empty
theorem qqs(b:List Int)(x n:Int):inL (b++[x]) n=(inL b n||x==n):=by simp[inL]
theorem qjD(n:Int): ∀(m:Nat) (xs:List Int),xs.length=m->(vA xs).atKey (.int .i64 n) (.lit (.bool false))= .lit (.bool (inL xs n)):=by
 intro m
 induction m with
 | zero=>intro xs h;rw[yh.1 h];rfl
 | succ m ih=>
  intro xs h
  obtain⟨ys,y,rfl⟩: ∃ys y,xs=ys++[y]:=⟨xs.dropLast,xs.getLast (by intro e;rw[e]at h;simp at h),(List.dropLast_concat_getLast _).symm⟩
  have hl:ys.length=m:=by simp at h;omega
  rw[ZV,qqs]
  by_cases e:n=y
  ·subst e
   rw[atKey_put_same (qif ys) (by simp[WideAt.IsKeyLit])]
   simp
  ·rw[atKey_put_other (by intro e2;injection e2 with _ e2;exact e e2),ih ys hl]
   have:(y==n)=false:=by simp;exact fun e2=>e e2.symm
   rw[this,yf]
abbrev I64:={ x:Int // wfI x }
instance:Inhabited I64:=⟨⟨0,by show(Lit.int .i64 0).wf=true;decide⟩⟩
def encI(x:I64):Value:=.int .i64 x.1
theorem qqF:OneCell encI:=fun _=>rfl
theorem law3:Keyed pP 3:=int_keyed Tryz.underlying3
theorem qka(w:World):(zeroValue 4).run pP w= .ok (.bool false) w:=by kernel_rfl
theorem eg50: ∀args w,(callFunc 148 args).run pP w= .ok (.enter 148 args) w:=enters_of Tryz.func148 (by kernel_rfl) rfl
set_option maxRecDepth 100000 in
theorem qn1(b:List Int)(wanted:Bool)(B7 B5 bm n:Nat)(x:I64)(W:World)(h7:W.cell? ⟨B7,0,none⟩=some (.map (some bm)))(h5:W.cell? ⟨B5,0,none⟩=some (.bool wanted))(ZX:W.ownsMap pP 3 (plainElem (H:=Unit) pP 4) bm n (vA b)):
  FnGives pP 148 #[.pointer (some ⟨B7,0,none⟩),.pointer (some ⟨B5,0,none⟩)] #[encI x] (.bool (inL b x.1 !=wanted)) W:=by
 obtain⟨x,hx⟩:=x
 show Calls pP 148 #[.int .i64 x,.pointer (some ⟨B7,0,none⟩),.pointer (some ⟨B5,0,none⟩)] W _
 obtain⟨v,ps,vi,hv⟩:=ZX.lookup law3 Tryz.underlying77 (qka _) (plainElem_bool Tryz.underlying4 false) (keyOf_int_mk Tryz.underlying3 hx)
 rw[qjD x _ b rfl]at hv
 have hvb:v= .bool (inL b x):=by
  unfold plainElem at hv
  rw[Tryz.underlying4]at hv
  cases v<;>simp at hv
  rw[hv.1]
 subst hvb
 show Calls pP 148 #[.int .i64 x,.pointer (some ⟨B7,0,none⟩),.pointer (some ⟨B5,0,none⟩)] W fun e w'=>e= .returned (.bool (inL b x !=wanted))/\∃q,w'=W.drewN q
 go_enter Tryz.func148,Tryz.ntmps148
 go_wp2
 all_goals(go_ret;exact⟨by cases inL b x<;>cases wanted<;>rfl,0,rfl⟩)
theorem pred50(b:List Int)(wanted:Bool)(B7 B5 bm n:Nat)(w:World)(g7:B7<w.heap.size)(g5:B5<w.heap.size)(h7:w.cell? ⟨B7,0,none⟩=some (.map (some bm)))(h5:w.cell? ⟨B5,0,none⟩=some (.bool wanted))(ZX:w.ownsMap pP 3 (plainElem (H:=Unit) pP 4) bm n (vA b)):
  PredAt pP 148 #[.pointer (some ⟨B7,0,none⟩),.pointer (some ⟨B5,0,none⟩)] encI (fun x=>inL b x.1 !=wanted) w:=fun W x hb=>
 qn1 b wanted B7 B5 bm n x W ((hb.cell (p:=⟨B7,0,none⟩) g7).trans h7) ((hb.cell (p:=⟨B5,0,none⟩) g5).trans h5) (by
  obtain⟨es,clock,e1,e2⟩:=ZX
  exact⟨es,clock,(hb.block bm (wF.1 e1).1).trans e1,e2⟩)
theorem QV{α:Type} [Inhabited α](enc:α->Value)(w:World)(blk off:Nat)(d:Array α){b:Nat}(h:b≠blk):(putRow enc w blk off d).heap[b]? =w.heap[b]? :=by
 simp[putRow,mapBlock,Array.getElem?_modify,Ne.symm h]
theorem over50(b:List Int)(wanted:Bool)(B7 B5 bm n:Nat)(blk off size:Nat)(w:World)(g7:B7<w.heap.size)(g5:B5<w.heap.size)(n7:B7≠blk)(n5:B5≠blk)(nm:bm≠blk)(h7:w.cell? ⟨B7,0,none⟩=some (.map (some bm)))(h5:w.cell? ⟨B5,0,none⟩=some (.bool wanted))(ZX:w.ownsMap pP 3 (plainElem (H:=Unit) pP 4) bm n (vA b)):
  PredOver pP 148 #[.pointer (some ⟨B7,0,none⟩),.pointer (some ⟨B5,0,none⟩)] encI (fun x=>inL b x.1 !=wanted) blk off size w:=fun q os dk x _=>by
 have cel: ∀B,B<w.heap.size->B≠blk->(sortWorld encI w blk off q dk os).cell? ⟨B,0,none⟩=w.cell? ⟨B,0,none⟩:=fun B hB hne=>by
  unfold sortWorld
  rw[cell?_grow _ _ _ (by show B<(putRow _ _ _ _ _).heap.size;rw[size_putRow];exact hB),cell?_putRow_other _ _ blk off _ _ (Or.inl hne)]
  rfl
 refine qn1 b wanted B7 B5 bm n x _ ((cel B7 g7 n7).trans h7) ((cel B5 g5 n5).trans h5) ?_
 obtain⟨es,clock,e1,e2⟩:=ZX
 refine⟨es,clock,?_,e2⟩
 have hlt:=(wF.1 e1).1
 unfold sortWorld
 rw[heap_grow_old _ _ (by rw[size_putRow];exact hlt),QV _ _ _ _ _ nm]
 exact e1
def zP(l:List I64):List Int:=l.map (·.1)
def CL(l:List I64)(B:Nat)(v:Value)(W:World):Prop:=
 (l= []/\(v= .slice none 0 0\/∃a c,v= .slice (some a) 0 c/\c<=maxLen))\/
 ∃blk cap,v= .slice (some ⟨blk,0,none⟩) l.length cap/\B<=blk/\blk<W.heap.size/\l.length<=cap/\cap<=maxLen/\Holds encI W blk 0 l.toArray
set_option maxRecDepth 100000 in
theorem qoq(l:List I64)(hl:l.length<=1000000){w:World}{K:KSet}(hk:KOk w K){va:Value}(hva:VC w K (.sl 1 (ints (zP l))) va){W:World}(hW:Below w.heap.size w W):
  Calls pP 147 #[va] W fun e W'=>∃vc,e= .returned vc/\CL l W.heap.size vc W'/\Below W.heap.size W W':=by
 have hlen:(ints (zP l)).length=l.length:=by simp[zP]
 by_cases hl0:l= []
 ·subst hl0
  have hkW:KOk W K:=ZL hk hW
  have hvW:VC W K (.sl 1 []) va:=hva.mono fun b o h=>⟨h,hW.cell (p:=⟨b,o,none⟩) (qy (hk b o h))⟩
  have hD:=qqX
  unfold DCalls at hD
  refine(hD.2 W K #[va] hkW rfl (fun j d v h1 h2=>by
   match j with
   | 0=>simp at h1 h2;subst h1;subst h2;exact .one _ _ (.c _ _ hvW)
   | _+1=>simp at h1)).mono ?_
  rintro e W' ⟨v,E',rfl,hR,hv⟩
  refine⟨v,rfl,.inl ⟨rfl,?_⟩,hR.below⟩
  cases hv with|one t v hv=>cases hv with|c c v hv=>cases hv with
   | nil=>exact .inl rfl
   | sl _ _ a cap cv hsz hc hm hK hr=>exact .inr ⟨a,cap,rfl,hm⟩
 ·have vo:0<l.length:=yn.2 hl0
  obtain⟨a,cap,cv,rfl,hc,hm,hK,hr⟩: ∃(a:Addr) (cap:Nat) (cv:Nat->Value),va= .slice (some a) (ints (zP l)).length cap/\(ints (zP l)).length<=cap/\cap<=maxLen/\(∀j,j<(ints (zP l)).length*1->a.spot=none/\K a.block (a.off+j)/\w.cell? ⟨a.block,a.off+j,none⟩=some (cv j))/\(∀(i j:Nat) r c,(ints (zP l))[i]? =some r->r[j]? =some c->VC w K c (cv (i*1+j))):=by
   rcases hva.sl_inv with⟨_,h⟩|⟨a,cap,cv,h1,_,h2,h3,h4,h5⟩
   ·rw[h]at hlen;simp at hlen;omega
   ·exact⟨a,cap,cv,h1,h2,h3,h4,h5⟩
  rw[hlen]at hc hK ⊢
  obtain⟨blk,off,spot⟩:=a
  obtain rfl:spot=none:=(hK 0 (by omega)).1
  have hcv: ∀j (hj:j<l.length),cv j=encI l[j]:=fun j hj=>by
   have h1:=hr j 0 [li l[j].1] (li l[j].1) (by simp[zP,hj]) rfl
   rw[Nat.mul_one,jf]at h1
   exact(VD.one _ _ (VT.c _ _ h1):VD w (E0 K) (dv (li l[j].1)) (cv j)).lit
  have QF: ∀j u,(l.map encI)[j]? =some u->W.cell? ⟨blk,off+j,none⟩=some u:=fun j u hu=>by
   rw[wq]at hu
   obtain⟨x,hx,rfl⟩:=wy.1 hu
   obtain⟨hj,rfl⟩:=wd.1 hx
   obtain⟨_,h2,h3⟩:=hK j (by omega)
   rw[hW.cell (p:=⟨blk,off+j,none⟩) (qy (hk _ _ h2)),<-hcv j hj]
   exact h3
  obtain⟨e3,i0,z,hu,hi,hz0,hz1,hz2,hz3,_,_,_⟩:=qa9 (P:=pP) (t:=28) w qlG
  obtain rfl:e3=3:=by
   have h:=hu.symm.trans Tryz.underlying28
   injection h with h;injection h
  have hC:=Go.Proofs.AnyE.slices_Clone Tryz.cloN i0 z 1 8 hi hz0 hz1 hz2 hz3 (by decide) Tryz.sizeOf3 blk off l.length cap (l.map encI) W (by simp) (by unfold maxLen;omega) (by omega) QF (fun u hu=>by obtain⟨x,_,rfl⟩:=wI.1 hu;rfl)
  refine Calls.mono hC ?_
  rintro e W' ⟨v',rfl,ZX,hnn,hb⟩
  refine⟨v',rfl,.inr ?_,hb⟩
  obtain⟨_,h1⟩:=id ZX
  rcases h1 with⟨rfl,h2⟩|⟨g,cap',cur,rfl,hg,h3,h4,h5,h6,h7⟩
  ·omega
  ·refine⟨g,cap',rfl,hg,(wF.1 h3).1,h4,h5,fun j hj=>?_⟩
   have hj':j<l.length:=by simpa using hj
   rw[yr]
   refine⟨?_,ZX.frozenAt j⟩
   rw[ZX.cellAt j (by omega)]
   simp[hj']
set_option maxRecDepth 100000 in
theorem del_u(p:I64->Bool)(lb:Array Value)(l:List I64){B:Nat}{vc:Value}{W:World}(hcl:CL l B vc W)(hB:B<=W.heap.size)(hp:PredAt pP 148 lb encI p W)(hpo: ∀blk off size,B<=blk->PredOver pP 148 lb encI p blk off size W):
  Calls pP 146 #[vc,.func (.func 148) #[] lb] W fun e W'=>∃vd,e= .returned vd/\CL (l.filter fun x=> !p x) B vd W'/\Below B W W':=by
 rcases hcl with⟨rfl,hv⟩|⟨blk,cap,rfl,hb,hlt,hc,hm,hH⟩
 ·have hI: ∀(A:Option Addr) (c:Nat) (w:World),Calls pP 177 #[.slice A 0 c,.func (.func 148) #[] lb] w fun e w'=>e= .returned (.int .i64 (-1))/\w'=w:=fun A c w=>
   Go.Proofs.AnyE.slices_IndexFunc_empty { Tryz.delF with } A c _ w
  have hE: ∀(A:Option Addr) (c:Nat),Calls pP 146 #[.slice A 0 c,.func (.func 148) #[] lb] W fun e w'=>e= .returned (.slice A 0 c)/\w'=W:=fun A c=>by
   go_enter Tryz.func146,Tryz.ntmps146
   go_wp2_with (go_at_call 177;refine(hI A c _).mono ?_;rintro e w' ⟨rfl,rfl⟩)
   go_ret
   exact⟨rfl,rfl⟩
  rcases hv with rfl|⟨a,c,rfl,hcm⟩
  ·refine(hE none 0).mono ?_
   rintro e w' ⟨rfl,rfl⟩
   exact⟨_,rfl,.inl ⟨rfl,.inl rfl⟩,Below.refl _ _⟩
  ·refine(hE (some a) c).mono ?_
   rintro e w' ⟨rfl,rfl⟩
   exact⟨_,rfl,.inl ⟨rfl,.inr ⟨a,c,rfl,hcm⟩⟩,Below.refl _ _⟩
 ·have hsz:l.toArray.size=l.length:=by simp
  have hD:=Go.Proofs.AnyE.slices_DeleteFunc Tryz.delF encI qqF p 148 lb eg50 default Tryz.zeroValue3 blk 0 cap l.toArray W hp (hpo blk 0 _ hb) hH (by rw[hsz];unfold maxLen at hm;omega) (by rw[hsz];exact hc)
  rw[hsz]at hD
  refine Calls.mono hD ?_
  rintro e w' ⟨rfl,q,rfl⟩
  simp only[List.toList_toArray]
  obtain⟨r,hr⟩: ∃r,(l.filter fun x=> !p x)=r:=⟨_,rfl⟩
  rw[hr]
  have hrl:r.length<=l.length:=by rw[<-hr];exact wC _ _
  have hds:(r++List.replicate (l.length - r.length) default).toArray.size=l.toArray.size:=by simp;omega
  have hH2:=holds_putRow encI (Sort.ahead W q) blk 0 l.toArray _ (holds_ahead encI W q blk 0 _ hH) hds
  refine⟨_,rfl,.inr ⟨blk,cap,rfl,hb,by rw[size_putRow];exact hlt,by omega,hm,fun j hj=>?_⟩,rfl,rfl,rfl,by rw[size_putRow];exact wv _,fun k hk=>QV _ _ _ _ _ (by omega)⟩
  have hj':j<r.length:=by simpa using hj
  have h1:=hH2 j (by rw[hds];simp;omega)
  have e:(r++List.replicate (l.length - r.length) default).toArray[j]! =r.toArray[j]! :=by
   rw[getElem!_pos _ j (by simp;omega),getElem!_pos _ j (by simpa using hj')]
   simp[List.getElem_append_left hj']
  rw[e]at h1
  exact h1
end Go.Proofs.YtaaodllggdjhiaaGreatDoor
namespace Go.Proofs.YtaaodllggdjhiaaGreatDoor
open Go.RowKit Go.Maps Go.Lib Go.Sort
open Go.Dl hiding Rows
open S (usort)
attribute [local irreducible] DW DCalls ECalls wk IW
theorem qjc(r:List I64)(hl:r.length<=1000000){B:Nat}{vd:Value}{w W:World}{K:KSet}(hk:KOk w K)(hW:Below w.heap.size w W)(hB:w.heap.size<=B)(hcl:CL r B vd W):
  Calls pP 80 #[vd] W fun e W'=>∃v E',e= .returned v/\Ret w K W' E'/\VD W' E' (dv (.sl 1 (ints (usort (zP r))))) v:=by
 have hkW:KOk W K:=ZL hk hW
 have hS:=S.sorted_D (zP r) (by simp[zP];omega)
 unfold DCalls at hS
 have go: ∀K2:KSet,(∀b o,K b o->K2 b o)->(∀b o,K2 b o->K b o\/w.heap.size<=b)->KOk W K2->VC W K2 (.sl 1 (ints (zP r))) vd->Calls pP 80 #[vd] W fun e W'=>∃v E',e= .returned v/\Ret w K W' E'/\VD W' E' (dv (.sl 1 (ints (usort (zP r))))) v:=by
  intro K2 k1 k2 hk2 hv2
  refine(hS.2 W K2 #[vd] hk2 rfl (fun j d v h1 h2=>by
   match j with
   | 0=>simp at h1 h2;subst h1;subst h2;exact .one _ _ (.c _ _ hv2)
   | _+1=>simp at h1)).mono ?_
  rintro e W' ⟨v,E',rfl,hR,hv⟩
  refine⟨v,E',rfl,⟨hW.trans (hR.below.mono hW.size),fun b o h=>hR.kin b o (k1 b o h),fun b o hb h=>?_,hR.kok,fun n b o hs=>?_,hR.disj⟩,hv⟩
  ·have hbs:=hW.size
   rcases k2 b o (hR.kold b o (by omega) h)with h|h
   ·exact h
   ·omega
  ·obtain⟨h1,h2,h3⟩:=hR.free n b o hs
   exact⟨wD hW.size h1,h2,h3⟩
 rcases hcl with⟨rfl,hv⟩|⟨blk,cap,rfl,hb,hlt,hc,hm,hH⟩
 ·refine go K (fun _ _ h=>h) (fun _ _ h=>.inl h) hkW ?_
  rcases hv with rfl|⟨a,c,rfl,hcm⟩
  ·exact .nil 1
  ·exact VC.sl 1 [] a c (fun _=>.bool true) (fun r h=>by cases h) (ye _) hcm (fun j hj=>by simp at hj) (fun i j r c h=>by simp at h)
 ·refine go (fun b o=>K b o\/(b=blk/\o<r.length)) (fun _ _ h=>.inl h) (fun b o h=>h.imp id fun h=>by omega) (hkW.wide (fun b o h=>⟨.inl h,rfl⟩) (fun b o h=>?_) hkW.z) ?_
  ·rcases h with h|⟨rfl,ho⟩
   ·exact hkW.ok b o h
   ·have:=(hH o (by simpa using ho)).1
    rw[yr]at this
    rw[this];rfl
  ·have hlen:(ints (zP r)).length=r.length:=by simp[zP]
   have:=VC.sl (w:=W) (K:=fun b o=>K b o\/(b=blk/\o<r.length)) 1 (ints (zP r)) ⟨blk,0,none⟩ cap (fun j=>encI r.toArray[j]!) (fun r h=>by obtain⟨x,_,rfl⟩:=wI.1 h;rfl) (by rw[hlen];exact hc) hm
    (fun j hj=>by
     have hj':j<r.length:=by rw[hlen]at hj;omega
     have:=(hH j (by simpa using hj')).1
     exact⟨rfl,.inr ⟨rfl,by simp only;omega⟩,this⟩)
    (fun i j rr c h1 h2=>by
     simp only[ints,zP,yw,wq,wy]at h1
     obtain⟨x,hx,rfl⟩:=h1
     obtain⟨hi,hxe⟩:=wd.1 hx
     cases j with
     | zero=>
      simp at h2
      subst h2
      have e:r.toArray[i*1+0]! =x:=by rw[Nat.mul_one,jf,getElem!_pos _ i (by simpa using hi)];simpa using hxe
      rw[e]
      exact .lit _ rfl
     | succ j=>simp at h2)
   rwa [hlen]at this
theorem del2(b:List Int)(wanted:Bool)(s n:Nat){W W1:World}(hs:s+2<W.heap.size)(h7:W.cell? ⟨s+1+1,0,none⟩=some (.map (some (s+1))))(h5:W.cell? ⟨s,0,none⟩=some (.bool wanted))
  (ZX:W.ownsMap pP 3 (plainElem (H:=Unit) pP 4) (s+1) n (vA b)) (hb1:Below W.heap.size W W1) (l:List I64) {vc:Value} (hcl:CL l W.heap.size vc W1):
  Calls pP 146 #[vc,.func (.func 148) #[] #[.pointer (some ⟨s+1+1,0,none⟩),.pointer (some ⟨s,0,none⟩)]] W1 fun e W2=>∃vd,e= .returned vd/\CL (l.filter fun x=> !(inL b x.1 !=wanted)) W.heap.size vd W2/\Below W.heap.size W1 W2:=by
 have hsz:=hb1.size
 have k7:=(hb1.cell (p:=⟨s+1+1,0,none⟩) (by show s+1+1<_;omega)).trans h7
 have k5:=(hb1.cell (p:=⟨s,0,none⟩) (by show s<_;omega)).trans h5
 have kown:W1.ownsMap pP 3 (plainElem (H:=Unit) pP 4) (s+1) n (vA b):=by
  obtain⟨es,clock,e1,e2⟩:=ZX
  exact⟨es,clock,(hb1.block _ (wF.1 e1).1).trans e1,e2⟩
 exact del_u _ _ l hcl hb1.size (pred50 b wanted _ _ _ n W1 (by omega) (by omega) k7 k5 kown) (fun blk off size hB=>over50 b wanted _ _ _ n blk off size W1 (by omega) (by omega) (by omega) (by omega) (by omega) k7 k5 kown)
set_option maxRecDepth 100000 in
theorem qg3(l:List I64)(b:List Int)(hbw: ∀x∈b,wfI x)(hl:l.length<=1000000)(hbl:b.length<=1000000)(wanted:Bool){w:World}{K:KSet}(hk:KOk w K){va vb:Value}(hva:VC w K (.sl 1 (ints (zP l))) va)(hvb:VC w K (.sl 1 (ints b)) vb):
  Calls pP 78 #[va,vb,.bool wanted] w fun e w'=>∃v E',e= .returned v/\Ret w K w' E'/\VD w' E' (dv (.sl 1 (ints (usort (zP (l.filter fun x=> !(inL b x.1 !=wanted))))))) v:=by
 have hmm:=@run_makeMap pP
 have hfl:(l.filter fun x=> !(inL b x.1 !=wanted)).length<=1000000:=wD (wC _ _) hl
 have hW0:Below w.heap.size w (((w.alloc (.cells #[.bool wanted] 4)).alloc (.map #[] 0)).alloc (.cells #[.map (some (w.heap.size+1))] 77)):=
  (((Below.refl _ w).alloc (wv _) _).alloc (by simp) _).alloc (by simp;omega) _
 have f5:(((w.alloc (.cells #[.bool wanted] 4)).alloc (.map #[] 0)).alloc (.cells #[.map (some (w.heap.size+1))] 77)).cell? ⟨w.heap.size,0,none⟩=some (.bool wanted):=by
  rw[World.cell?_alloc_lt _ _ _ (by simp;omega),World.cell?_alloc_lt _ _ _ (by simp),World.cell?_alloc_at _ _ _ 0 rfl];rfl
 have f7:(((w.alloc (.cells #[.bool wanted] 4)).alloc (.map #[] 0)).alloc (.cells #[.map (some (w.heap.size+1))] 77)).cell? ⟨w.heap.size+1+1,0,none⟩=some (.map (some (w.heap.size+1))):=by
  rw[World.cell?_alloc_at _ _ _ 0 (by simp)];rfl
 have fown:(((w.alloc (.cells #[.bool wanted] 4)).alloc (.map #[] 0)).alloc (.cells #[.map (some (w.heap.size+1))] 77)).ownsMap pP 3 (plainElem (H:=Unit) pP 4) (w.heap.size+1) 0 (vA []):=by
  have h:=(World.ownsMap_made (w.alloc (.cells #[.bool wanted] 4)) pP 3 (plainElem (H:=Unit) pP 4)).alloc (.cells #[.map (some (w.heap.size+1))] 77)
  rwa [World.size_alloc]at h
 have fsz:w.heap.size+2<(((w.alloc (.cells #[.bool wanted] 4)).alloc (.map #[] 0)).alloc (.cells #[.map (some (w.heap.size+1))] 77)).heap.size:=by simp
 by_cases hb0:b= []
 ·obtain⟨A,c,rfl⟩: ∃A c,vb= .slice A 0 c:=by
   subst hb0
   rcases hvb.sl_inv with⟨h,_⟩|⟨a,cap,cv,h,_⟩
   ·exact⟨_,_,h⟩
   ·exact⟨_,_,h⟩
  subst hb0
  go_enter Tryz.func78,Tryz.ntmps78
  go_wp2
  refine wp_loop_rounds 1 ?_
  rw[rounds_succ]
  generalize (((w.alloc (.cells #[.bool wanted] 4)).alloc (.map #[] 0)).alloc (.cells #[.map (some (w.heap.size+1))] 77))=W at*
  go_wp2_with (go_at_call 147;refine(qoq l hl hk hva hW0).mono ?_)
  rintro e W1 ⟨vc,rfl,hcl,hb1⟩
  go_wp2_with (go_at_call 146;refine(del2 [] wanted w.heap.size 0 fsz f7 f5 fown hb1 l hcl).mono ?_)
  rintro e W2 ⟨vd,rfl,hcd,hb2⟩
  go_wp2_with (go_at_call 80;refine(qjc _ hfl hk (hW0.trans ((hb1.mono hW0.size).trans (hb2.mono hW0.size))) hW0.size hcd).mono ?_)
  rintro e W3 ⟨v,E',rfl,hR,hv⟩
  go_wp2
  go_ret
  exact⟨v,E',rfl,hR,hv⟩
 ·have vo:0<b.length:=yn.2 hb0
  have hlen:(ints b).length=b.length:=by simp
  obtain⟨a,cap,cv,rfl,hcc,hm,hK,hr⟩: ∃(a:Addr) (cap:Nat) (cv:Nat->Value),vb= .slice (some a) (ints b).length cap/\(ints b).length<=cap/\cap<=maxLen/\(∀j,j<(ints b).length*1->a.spot=none/\K a.block (a.off+j)/\w.cell? ⟨a.block,a.off+j,none⟩=some (cv j))/\(∀(i j:Nat) r c,(ints b)[i]? =some r->r[j]? =some c->VC w K c (cv (i*1+j))):=by
   rcases hvb.sl_inv with⟨_,h⟩|⟨a,cap,cv,h1,_,h2,h3,h4,h5⟩
   ·rw[h]at hlen;simp at hlen;omega
   ·exact⟨a,cap,cv,h1,h2,h3,h4,h5⟩
  rw[hlen]at hcc hK ⊢
  obtain⟨blk,off,spot⟩:=a
  obtain rfl:spot=none:=(hK 0 (by omega)).1
  have hbcell: ∀k,k<b.length->w.cell? ⟨blk,off+k,none⟩=some (.int .i64 (b.getD k 0)):=fun k hk2=>by
   have h1:=hr k 0 [li b[k]] (li b[k]) (by simp[hk2]) rfl
   rw[Nat.mul_one,jf]at h1
   have h2:cv k= .int .i64 b[k]:=(VD.one _ _ (VT.c _ _ h1):VD w (E0 K) (dv (li b[k])) (cv k)).lit
   rw[(hK k (by omega)).2.2,h2]
   simp[List.getD,hk2]
  have hblk:blk<w.heap.size:=qy (hk _ _ (hK 0 (by omega)).2.1)
  have hblen:b.length<=1000000:=hbl
  clear hK hr hvb hlen
  go_enter Tryz.func78,Tryz.ntmps78
  go_wp2
  go_loopw [13] (fun i wr=>∃k:Nat,k<=b.length/\i= .int .i64 k/\wr.ownsMap pP 3 (plainElem (H:=Unit) pP 4) (w.heap.size+1) k (vA (b.take k))/\Below w.heap.size w wr/\wr.cell? ⟨w.heap.size,0,none⟩=some (.bool wanted)/\wr.cell? ⟨w.heap.size+1+1,0,none⟩=some (.map (some (w.heap.size+1)))/\w.heap.size+2<wr.heap.size)
   (fun i _=>b.length - (intOf i).toNat)
  case atStart=>exact⟨0,ye _,rfl,fown,hW0,f5,f7,fsz⟩
  case round=>
   obtain⟨k,hkb,rfl,ZX,hbW,h5,h7,hsz⟩:=hrel
   clear f5 f7 fown fsz hW0
   obtain⟨x,hx⟩: ∃x:Int,x=b.getD k 0:=⟨_,rfl⟩
   have hcx:k<b.length->wr.cell? ⟨blk,off+k,none⟩=some (.int .i64 x):=fun h=>by rw[hx];exact(hbW.cell (by exact hblk)).trans (hbcell k h)
   have hwx:wfI x:=by
    rw[hx]
    by_cases h:k<b.length
    ·rw[List.getD,wc h];exact hbw _ (List.getElem_mem h)
    ·rw[List.getD,wZ (by omega)];show(Lit.int .i64 0).wf=true;decide
   have qlR:keyOf pP 3 (.int .i64 x)=some (.int .i64 x):=keyOf_int_mk Tryz.underlying3 hwx
   have htk:k<b.length->b.take (k+1)=b.take k++[x]:=fun h=>by
    rw[hx,qH (wc h),List.getD,wc h];rfl
   clear hx
   go_wp2_with (first
    | (at_mapUpdate;refine wpList_mapUpdate_own _ rfl _ _ _ 77 rfl 3 4 law3 Tryz.underlying77 (plainElem (H:=Unit) pP 4) (w.heap.size+1) k _ rfl ZX (by unfold maxLen;omega) _ _ _ rfl rfl qlR _ [] (plainElem_bool Tryz.underlying4 true) ?_)
    | (go_at_call 147;refine(qoq l hl hk hva hbW).mono ?_)
    | go_in)
   ·intro w1 hown1 qjO
    have hlt:k<b.length:=by assumption
    have R1:w1.ownsMap pP 3 (plainElem (H:=Unit) pP 4) (w.heap.size+1) (k+1) (vA (b.take (k+1))):=by rw[htk hlt,ZV];exact hown1
    have R2:=hbW.grown qjO hbW.size (fun j hj=>by cases hj;omega)
    have QF: ∀B,B<wr.heap.size->B≠w.heap.size+1->w1.cell? ⟨B,0,none⟩=wr.cell? ⟨B,0,none⟩:=fun B hB hne=>World.cell?_of_block (w:=wr) (a:=⟨B,0,none⟩) (qjO.block B hB (fun e=>hne (by injection e)))
    have R5:=(QF w.heap.size (by omega) (by omega)).trans h5
    have R7:=(QF (w.heap.size+1+1) (by omega) (by omega)).trans h7
    have R8:w.heap.size+2<w1.heap.size:=Nat.lt_of_lt_of_le hsz qjO.size
    clear hown1 qjO ZX QF h5 h7 hcx
    go_wp2
    go_roundw
    case rel=>exact⟨k+1,by omega,by go_num,R1,R2,R5,R7,R8⟩
    case measure=>simp[intOf];omega
   ·have hkk:k=b.length:=by omega
    subst hkk
    rw[wh]at ZX
    clear hcx htk qlR hwx
    rintro e W1 ⟨vc,rfl,hcl,hb1⟩
    go_wp2_with (go_at_call 146;refine(del2 b wanted w.heap.size _ hsz h7 h5 ZX hb1 l hcl).mono ?_)
    rintro e W2 ⟨vd,rfl,hcd,hb2⟩
    go_wp2_with (go_at_call 80;refine(qjc _ hfl hk (hbW.trans ((hb1.mono hbW.size).trans (hb2.mono hbW.size))) hbW.size hcd).mono ?_)
    rintro e W3 ⟨v,E',rfl,hR,hv⟩
    go_wp2
    go_ret
    exact⟨v,E',rfl,hR,hv⟩
end Go.Proofs.YtaaodllggdjhiaaGreatDoor
namespace Go.Proofs.YtaaodllggdjhiaaGreatDoor
open Go.Dl Go.Lib
open S (usort)
attribute [local irreducible] DW DCalls ECalls wk IW
theorem qjS(a b:List Int)(wanted:Bool)(ha: ∀x∈a,wfI x)(hb: ∀x∈b,wfI x)(hl:a.length<=1000000)(hbl:b.length<=1000000):DCalls pP 78 [dv (.sl 1 (ints a)),dv (.sl 1 (ints b)),dv (lb wanted)] (dv (.sl 1 (ints (usort (a.filter fun x=> !(inL b x !=wanted)))))):=by
 obtain⟨l,hla⟩: ∃l:List I64,zP l=a:=⟨a.attachWith wfI ha,by simp[zP]⟩
 subst hla
 have hf:(zP l).filter (fun x=> !(inL b x !=wanted))=zP (l.filter fun x=> !(inL b x.1 !=wanted)):=by
  unfold zP;rw[List.filter_map];rfl
 rw[hf]
 unfold DCalls
 refine⟨by kernel_rfl,fun w K vs hk hs hv=>?_⟩
 obtain⟨va,vb,vc,rfl⟩: ∃va vb vc,vs= #[va,vb,vc]:=by
  match vs,hs with
  | ⟨[va,vb,vc]⟩,_=>exact⟨va,vb,vc,rfl⟩
 have h0:=hv 0 _ va rfl rfl
 have h1:=hv 1 _ vb rfl rfl
 have h2:=(hv 2 _ vc rfl rfl).lit
 subst h2
 cases h0 with|one t v h0=>cases h0 with|c c v h0=>
  cases h1 with|one t v h1=>cases h1 with|c c v h1=>
   exact qg3 l b hb (by simpa[zP]using hl) hbl wanted hk h0 h1
theorem minus_D(a b:List Int)(ha: ∀x∈a,wfI x)(hb: ∀x∈b,wfI x)(hl:a.length<=1000000)(hbl:b.length<=1000000):DCalls pP 32 [dv (.sl 1 (ints a)),dv (.sl 1 (ints b))] (dv (.sl 1 (ints (minI a b)))):=by
 have hF:=qjS a b false ha hb hl hbl
 have e:(fun x=> !(inL b x !=false))=fun x=> !inL b x:=by funext x;cases inL b x<;>rfl
 rw[e]at hF
 refine kd (N:=8) (rs:=[.tmp 4]) Tryz.func32 ?_
 repeat' first|(first|refine kcc ?_|refine kx hF ?_|apply kU|apply kF);simp only[go_sem]|apply kh<;>intro qa
 rfl
theorem both_D(a b:List Int)(ha: ∀x∈a,wfI x)(hb: ∀x∈b,wfI x)(hl:a.length<=1000000)(hbl:b.length<=1000000):DCalls pP 34 [dv (.sl 1 (ints a)),dv (.sl 1 (ints b))] (dv (.sl 1 (ints (botI a b)))):=by
 have hF:=qjS a b true ha hb hl hbl
 have e:(fun x=> !(inL b x !=true))=fun x=>inL b x:=by funext x;cases inL b x<;>rfl
 rw[e]at hF
 refine kd (N:=8) (rs:=[.tmp 4]) Tryz.func34 ?_
 repeat' first|(first|refine kcc ?_|refine kx hF ?_|apply kU|apply kF);simp only[go_sem]|apply kh<;>intro qa
 rfl
end Go.Proofs.YtaaodllggdjhiaaGreatDoor
namespace Go.Proofs.YtaaodllggdjhiaaGreatDoor
open Go.Dl
attribute [local irreducible] DW DCalls ECalls wk IW
structure Spn where
 fr:Int
 tg:Int
deriving DecidableEq
structure Nte where
 id:Int
 tier:Int
 par:Int
 fr:Int
 tg:Int
 rank:Int
 txt:ByteArray
deriving DecidableEq
structure Tir where
 name:ByteArray
 kind:Int
 role:Int
 par:Int
deriving DecidableEq
structure Rcd where
 id:Int
 name:ByteArray
 len:Int
 day:Int
 sp:List Int
structure Dcm where
 rc:Rcd
 tiers:List Tir
 notes:List Nte
def Spn.enc(s:Spn):List C:=[li s.fr,li s.tg]
def Nte.enc(n:Nte):List C:=[li n.id,li n.tier,li n.par,li n.fr,li n.tg,li n.rank,ls n.txt]
def Tir.enc(t:Tir):List C:=[ls t.name,li t.kind,li t.role,li t.par]
def Spn.row(s:Spn):List T:=[.c (li s.fr),.c (li s.tg)]
def Nte.row(n:Nte):List T:=[.c (li n.id),.c (li n.tier),.c (li n.par),.c (li n.fr),.c (li n.tg),.c (li n.rank),.c (ls n.txt)]
def Tir.row(t:Tir):List T:=[.c (ls t.name),.c (li t.kind),.c (li t.role),.c (li t.par)]
def Rcd.row(r:Rcd):List T:=[.c (li r.id),.c (ls r.name),.c (li r.len),.c (li r.day),.c (.sl 1 (ints r.sp))]
def Rcd.enc(r:Rcd):List C:=[li r.id,ls r.name,li r.len,li r.day,.sl 1 (ints r.sp)]
def Dcm.row(d:Dcm):List T:=[.c (li d.rc.id),.c (ls d.rc.name),.c (li d.rc.len),.c (li d.rc.day),.c (.sl 1 (ints d.rc.sp)),.c (.sl 4 (d.tiers.map Tir.enc)),.c (.sl 7 (d.notes.map Nte.enc))]
def noNte:Nte:=⟨0,0,0,0,0,0,⟨#[]⟩⟩
end Go.Proofs.YtaaodllggdjhiaaGreatDoor
namespace Go.Proofs.YtaaodllggdjhiaaGreatDoor
open Go.Dl
def getN(l:List Nte)(id:Int):Nte×Bool:=match l.find? (fun n=>n.id==id)with
 | some n=>(n,true)
 | none=>(noNte,false)
def algK(k:Int):Bool:=k==0||k==1||k==2
def QL(ts:List Tir)(i:Int):Option Tir:=if 0<=i then ts[i.toNat]? else none
def alg(ts:List Tir)(i:Int):Bool:=match QL ts i with
 | some t=>algK t.kind
 | none=>false
def anc(l:List Nte):Nat->Int->List Nte
 | 0,_=>[]
 | f+1,id=>match l.find? (fun n=>n.id==id)with
  | none=>[]
  | some n=>n::anc l f n.par
def Dcm.up(d:Dcm)(id:Int):List Nte:=anc d.notes (d.tiers.length+1) id
def Dcm.chain(d:Dcm)(id:Int):List Int:=(d.up id).map (·.id)
def Nte.span(n:Nte):Spn:=⟨n.fr,n.tg⟩
def Dcm.wher(d:Dcm)(id:Int):Spn×Bool:=match (d.up id).find? (fun n=>alg d.tiers n.tier)with
 | some n=>(n.span,true)
 | none=>(⟨0,0⟩,false)
structure WfD(d:Dcm):Prop where
 up:d.notes.Pairwise (fun a b=>a.id<b.id)
 pos: ∀n∈d.notes,1<=n.id
 tpar: ∀(i:Nat) t,d.tiers[i]? =some t->t.kind=0\/(0<=t.par/\t.par<i)
 nt: ∀n∈d.notes,∃t,QL d.tiers n.tier=some t/\(t.kind=0/\n.par=0\/t.kind≠0/\∃p∈d.notes,p.id=n.par/\p.tier=t.par)/\(algK t.kind=true->n.rank=0)/\(algK t.kind=false->n.fr=0)
 sib: ∀a∈d.notes,∀b∈d.notes,a.tier=b.tier->a.par=b.par->a.fr=b.fr->a.rank=b.rank->a=b
theorem zQ{l:List Nte}{id:Int}{n:Nte}(h:l.find? (fun n=>n.id==id)=some n):n∈l/\n.id=id:=by
 have h1:=List.mem_of_find?_eq_some h
 have h2:=List.find?_some h
 exact⟨h1,by simpa using h2⟩
theorem qg1{l:List Nte}{id:Int}(h:l.find? (fun n=>n.id==id)=none): ∀n∈l,n.id≠id:=by
 intro n hn
 have:=List.find?_eq_none.1 h n hn
 simpa using this
theorem up_inj{l:List Nte}(h:l.Pairwise (fun a b=>a.id<b.id)): ∀{a b:Nte},a∈l->b∈l->a.id=b.id->a=b:=by
 induction l with
 | nil=>intro a b ha;cases ha
 | cons x l ih=>
  obtain⟨h1,h2⟩:=wK.1 h
  intro a b ha hb e
  rcases ws.1 ha with ea|ha'
  ·rcases ws.1 hb with eb|hb'
   ·rw[ea,eb]
   ·have:=h1 b hb';rw[ea]at e;omega
  ·rcases ws.1 hb with eb|hb'
   ·have:=h1 a ha';rw[eb]at e;omega
   ·exact ih h2 ha' hb' e
namespace WfD
variable {d : Dcm} (W : WfD d)
include W
theorem inj{a b:Nte}(ha:a∈d.notes)(hb:b∈d.notes)(e:a.id=b.id):a=b:=up_inj W.up ha hb e
theorem find{n:Nte}(hn:n∈d.notes):d.notes.find? (fun x=>x.id==n.id)=some n:=by
 cases h:d.notes.find? (fun x=>x.id==n.id)with
 | none=>exact absurd rfl (qg1 h n hn)
 | some m=>
  obtain⟨h1,h2⟩:=zQ h
  rw[W.inj h1 hn h2]
theorem find0:d.notes.find? (fun x=>x.id==0)=none:=by
 cases h:d.notes.find? (fun x=>x.id==0)with
 | none=>rfl
 | some m=>
  obtain⟨h1,h2⟩:=zQ h
  have:=W.pos m h1;omega
theorem get{n:Nte}(hn:n∈d.notes):getN d.notes n.id=(n,true):=by unfold getN;rw[W.find hn]
theorem tier{n:Nte}(hn:n∈d.notes):0<=n.tier/\n.tier<d.tiers.length/\∃t,d.tiers[n.tier.toNat]? =some t:=by
 obtain⟨t,ht,_⟩:=W.nt n hn
 unfold QL at ht
 split at ht
 ·rename_i h0
  have:=(wd.1 ht).1
  exact⟨h0,by omega,t,ht⟩
 ·cases ht
theorem par{n:Nte}(hn:n∈d.notes):(d.notes.find? (fun x=>x.id==n.par)=none/\n.par=0)\/∃p∈d.notes,p.id=n.par/\p.tier<n.tier/\d.notes.find? (fun x=>x.id==n.par)=some p:=by
 obtain⟨t,ht,h,_⟩:=W.nt n hn
 rcases h with⟨_,h⟩|⟨hk,p,hp,he,hpt⟩
 ·left;rw[h];exact⟨W.find0,rfl⟩
 ·right
  unfold QL at ht
  split at ht
  ·rename_i h0
   rcases W.tpar _ t ht with h|⟨h1,h2⟩
   ·exact absurd h hk
   ·exact⟨p,hp,he,by omega,by rw[<-he];exact W.find hp⟩
  ·cases ht
theorem anc_fuel: ∀(k:Nat) (n:Nte),n∈d.notes->n.tier<k->∀f g:Nat,k<=f->k<=g->anc d.notes f n.id=anc d.notes g n.id:=by
 intro k
 induction k with
 | zero=>intro n hn h;have:=(W.tier hn).1;omega
 | succ k ih=>
  intro n hn h f g hf hg
  obtain⟨f,rfl⟩: ∃f',f=f'+1:=⟨f - 1,by omega⟩
  obtain⟨g,rfl⟩: ∃g',g=g'+1:=⟨g - 1,by omega⟩
  simp only[anc,W.find hn]
  rcases W.par hn with⟨h0,h0'⟩|⟨p,hp,he,hlt,hf'⟩
  ·cases f<;>cases g<;>simp[anc,h0]
  ·rw[<-he,ih p hp (by omega) f g (by omega) (by omega)]
theorem up_cons{n:Nte}(hn:n∈d.notes):d.up n.id=n::d.up n.par:=by
 unfold Dcm.up
 obtain⟨h0,h1,_⟩:=W.tier hn
 rw[anc,W.find hn]
 simp only
 congr 1
 rcases W.par hn with⟨h2,h3⟩|⟨p,hp,he,hlt,hf'⟩
 ·cases hl:d.tiers.length with
  | zero=>simp[anc,h2]
  | succ m=>simp[anc,h2]
 ·rw[<-he]
  exact W.anc_fuel (p.tier.toNat+1) p hp (by have:=(W.tier hp).1;omega) _ _ (by have:=(W.tier hp).1;omega) (by have:=(W.tier hp).1;omega)
theorem up_none{id:Int}(h:d.notes.find? (fun x=>x.id==id)=none):d.up id= []:=by
 unfold Dcm.up;rw[anc,h]
theorem up_len: ∀(k:Nat) (n:Nte),n∈d.notes->n.tier<k->(d.up n.id).length<=k:=by
 intro k
 induction k with
 | zero=>intro n hn h;have:=(W.tier hn).1;omega
 | succ k ih=>
  intro n hn h
  rw[W.up_cons hn,wz]
  rcases W.par hn with⟨h2,h3⟩|⟨p,hp,he,hlt,hf'⟩
  ·rw[W.up_none h2];simp
  ·rw[<-he];have:=ih p hp (by omega);omega
theorem up_le(id:Int):(d.up id).length<=d.tiers.length:=by
 cases h:d.notes.find? (fun x=>x.id==id)with
 | none=>rw[W.up_none h];simp
 | some n=>
  obtain⟨h1,h2⟩:=zQ h
  subst h2
  obtain⟨h3,h4,_⟩:=W.tier h1
  exact W.up_len _ n h1 h4
theorem up_mem(id:Int): ∀n∈d.up id,n∈d.notes:=by
 unfold Dcm.up
 generalize d.tiers.length+1=f
 induction f generalizing id with
 | zero=>intro n hn;cases hn
 | succ f ih=>
  intro n hn
  rw[anc]at hn
  split at hn
  ·cases hn
  ·rename_i m hm
   rcases ws.1 hn with rfl|hn
   ·exact(zQ hm).1
   ·exact ih _ n hn
theorem up_get(id:Int):getN d.notes id=match (d.up id)[0]? with|some n=>(n,true)|none=>(noNte,false):=by
 unfold getN
 cases h:d.notes.find? (fun x=>x.id==id)with
 | none=>rw[W.up_none h];rfl
 | some n=>
  obtain⟨h1,h2⟩:=zQ h
  subst h2
  rw[W.up_cons h1];rfl
theorem up_next(id:Int): ∀(k:Nat) (n:Nte),(d.up id)[k]? =some n->getN d.notes n.par=match (d.up id)[k+1]? with|some n=>(n,true)|none=>(noNte,false):=by
 have key: ∀(k:Nat) (id:Int) (n:Nte),(d.up id)[k]? =some n->d.up n.par=(d.up id).drop (k+1):=by
  intro k
  induction k with
  | zero=>
   intro id n h
   cases hf:d.notes.find? (fun x=>x.id==id)with
   | none=>rw[W.up_none hf]at h;cases h
   | some m=>
    obtain⟨h1,h2⟩:=zQ hf
    subst h2
    rw[W.up_cons h1]at h ⊢
    simp at h;subst h;simp
  | succ k ih=>
   intro id n h
   cases hf:d.notes.find? (fun x=>x.id==id)with
   | none=>rw[W.up_none hf]at h;cases h
   | some m=>
    obtain⟨h1,h2⟩:=zQ hf
    subst h2
    rw[W.up_cons h1]at h ⊢
    rw[wj]
    exact ih _ n (by simpa using h)
 intro k n h
 rw[W.up_get n.par,key k id n h]
 simp
theorem above_lt: ∀(k:Nat) (n:Nte),n∈d.notes->n.tier<k->∀m∈d.up n.par,m.tier<n.tier:=by
 intro k
 induction k with
 | zero=>intro n hn h;have:=(W.tier hn).1;omega
 | succ k ih=>
  intro n hn h m hm
  rcases W.par hn with⟨h2,h3⟩|⟨p,hp,he,hlt,hf'⟩
  ·rw[W.up_none h2]at hm;cases hm
  ·rw[<-he,W.up_cons hp]at hm
   rcases ws.1 hm with rfl|hm
   ·exact hlt
   ·have:=ih p hp (by omega) m hm;omega
end WfD
def insB{α:Type}(lt:α->α->Bool)(l:List α):List α:=l.foldl (fun acc x=>qU (fun y=>lt x y) acc x) []
theorem qgG{α:Type}(lt:α->α->Bool): ∀(l acc:List α),(l.foldl (fun acc x=>qU (fun y=>lt x y) acc x) acc).Perm (acc++l)
 | [],acc=>by simp
 | x::l,acc=>by
  rw[w6]
  refine(qgG lt l _).trans ?_
  refine((ZD _ acc x).append_right l).trans ?_
  exact(List.perm_middle).symm
theorem zI{α:Type}(lt:α->α->Bool)(l:List α):(insB lt l).Perm l:=qgG lt l []
theorem insB_mem{α:Type}{lt:α->α->Bool}{l:List α}{x:α}:x∈insB lt l↔x∈l:=(zI lt l).mem_iff
theorem qqp{α:Type}(lt:α->α->Bool)(l:List α):(insB lt l).length=l.length:=(zI lt l).length_eq
theorem qc6{α:Type}(lt:α->α->Bool)(P:α->Prop)(tr: ∀a b c,P a->P b->P c->lt a b=true->lt b c=true->lt a c=true)(tot: ∀a b,P a->P b->a≠b->lt a b=true\/lt b a=true):
  ∀(l acc:List α),(∀x∈l,P x)->(∀x∈acc,P x)->(acc++l).Nodup->acc.Pairwise (fun a b=>lt a b=true)->(l.foldl (fun acc x=>qU (fun y=>lt x y) acc x) acc).Pairwise (fun a b=>lt a b=true)
 | [],acc,_,_,_,h=>h
 | x::l,acc,hl,ha,hn,h=>by
  rw[w6]
  have hx:=hl x (by simp)
  have hne: ∀y∈acc,y≠x:=fun y hy e=>by
   subst e
   have:=(List.nodup_append.1 hn).2.2 y hy y (by simp)
   exact this rfl
  refine qc6 lt P tr tot l _ (fun y hy=>hl y (by simp[hy])) (fun y hy=>?_) ?_ ?_
  ·rcases putBack_mem.1 hy with rfl|hy
   ·exact hx
   ·exact ha y hy
  ·have p:(qU (fun y=>lt x y) acc x++l).Perm (acc++x::l):=((ZD _ acc x).append_right l).trans (List.perm_middle).symm
   exact p.nodup_iff.2 hn
  ·have hs:acc.Pairwise (fun a b=>P a/\P b/\lt a b=true):=by
    refine List.Pairwise.imp_of_mem ?_ h
    exact fun {a b} h1 h2 h3=>⟨ha a h1,ha b h2,h3⟩
   refine(qaa (fun a b=>P a/\P b/\lt a b=true) _ acc x (fun a b c h1 h2=>⟨h1.1,h2.2.1,tr a b c h1.1 h1.2.1 h2.2.1 h1.2.2 h2.2.2⟩) (fun y hy h=>⟨hx,ha y hy,h⟩) (fun y hy h=>⟨ha y hy,hx,?_⟩) hs).imp fun h=>h.2.2
   rcases tot x y hx (ha y hy) (Ne.symm (hne y hy))with h'|h'
   ·exact absurd h' (by rw[h];decide)
   ·exact h'
theorem qc7{α:Type}{lt:α->α->Bool}{l:List α}(tr: ∀a b c,a∈l->b∈l->c∈l->lt a b=true->lt b c=true->lt a c=true)(tot: ∀a b,a∈l->b∈l->a≠b->lt a b=true\/lt b a=true)(hn:l.Nodup):(insB lt l).Pairwise (fun a b=>lt a b=true):=
 qc6 lt (· ∈l) tr tot l [] (fun _ h=>h) (fun _ h=>by cases h) (by simpa using hn) List.Pairwise.nil
def befF(d:Dcm):Nat->Nte->Nte->Bool
 | 0,_,_=>false
 | f+1,a,b=>if a.par≠b.par then befF d f (getN d.notes a.par).1 (getN d.notes b.par).1 else if alg d.tiers a.tier=true then decide (a.fr<b.fr)else decide (a.rank<b.rank)
def Dcm.bef(d:Dcm)(a b:Nte):Bool:=befF d d.tiers.length a b
def zr(a b:Nte):Prop:=a.fr<b.fr\/a.fr=b.fr/\a.rank<b.rank
instance (a b:Nte):Decidable (zr a b):=by unfold zr;infer_instance
def ordN(a b:Nte):Int:=or3 (cmpI a.par b.par) (cmpI a.fr b.fr) (cmpI a.rank b.rank)
def Dcm.kidN(d:Dcm)(id t:Int):List Nte:=if 0<=t/\t<d.tiers.length then insB (fun x y=>decide (ordN x y<0)) (d.notes.filter fun n=>n.tier==t&&n.par==id)else []
def Dcm.kids(d:Dcm)(id t:Int):List Int:=(d.kidN id t).map (·.id)
def Dcm.ofN(d:Dcm)(t:Int):List Nte:=insB d.bef (d.notes.filter fun n=>n.tier==t)
def Dcm.of(d:Dcm)(t:Int):List Int:=(d.ofN t).map (·.id)
def ZE:List Int->Int->Int
 | a::b::r,id=>if a=id then b else ZE (b::r) id
 | _,_=>0
def Dcm.next(d:Dcm)(id:Int):Int:=match d.notes.find? (fun n=>n.id==id)with
 | none=>0
 | some n=>ZE (d.kids n.par n.tier) id
def qal:List Nte->Int->Int->Int
 | a::b::r,id,par=>if a.id=id/\b.par=par then b.id else qal (b::r) id par
 | _,_,_=>0
def Dcm.nextD(d:Dcm)(id:Int):Int:=match d.notes.find? (fun n=>n.id==id)with
 | none=>0
 | some n=>qal (d.ofN n.tier) id n.par
theorem ZR{a b:Nte}(h:a.par=b.par):ordN a b<0↔zr a b:=by
 unfold ordN or3 cmpI zr
 rw[h]
 simp only[Int.lt_irrefl,if_false]
 by_cases h1:a.fr<b.fr
 ·simp[h1]
 ·by_cases h2:b.fr<a.fr
  ·have:a.fr≠b.fr:=by omega
   simp[h1,h2,this]
  ·have h3:a.fr=b.fr:=by omega
   simp[h3]
   by_cases h4:a.rank<b.rank
   ·simp[h4]
   ·by_cases h5:b.rank<a.rank<;>simp[h4,h5]
theorem zG(a:Nte): ¬zr a a:=by unfold zr;omega
theorem qd5{a b:Nte}(h:zr a b): ¬zr b a:=by unfold zr at *;omega
theorem qcD{a b c:Nte}(h:zr a b)(h2:zr b c):zr a c:=by unfold zr at *;omega
namespace WfD
variable {d : Dcm} (W : WfD d)
include W
theorem nodup:d.notes.Nodup:=by
 refine List.Pairwise.imp ?_ W.up
 intro a b h e
 subst e
 omega
theorem nodup_f(p:Nte->Bool):(d.notes.filter p).Nodup:=List.Pairwise.filter p W.nodup
theorem alg_eq{n:Nte}(hn:n∈d.notes):(alg d.tiers n.tier=true->n.rank=0)/\(alg d.tiers n.tier=false->n.fr=0):=by
 obtain⟨t,ht,_,h1,h2⟩:=W.nt n hn
 unfold alg;rw[ht];exact⟨h1,h2⟩
theorem key_eq{a b:Nte}(ha:a∈d.notes)(hb:b∈d.notes)(ht:a.tier=b.tier):(if alg d.tiers a.tier=true then decide (a.fr<b.fr)else decide (a.rank<b.rank))=decide (zr a b):=by
 have h1:=W.alg_eq ha
 have h2:=W.alg_eq hb
 rw[<-ht]at h2
 unfold zr
 cases h:alg d.tiers a.tier
 ·have e1:=h1.2 h
  have e2:=h2.2 h
  simp[e1,e2]
 ·have e1:=h1.1 h
  have e2:=h2.1 h
  simp[e1,e2]
theorem sib_tot{a b:Nte}(ha:a∈d.notes)(hb:b∈d.notes)(ht:a.tier=b.tier)(hp:a.par=b.par)(hne:a≠b):zr a b\/zr b a:=by
 have:=W.sib a ha b hb ht hp
 unfold zr
 by_cases h:a.fr=b.fr
 ·by_cases h':a.rank=b.rank
  ·exact absurd (this h h') hne
  ·omega
 ·omega
theorem pars{a b:Nte}(ha:a∈d.notes)(hb:b∈d.notes)(ht:a.tier=b.tier)(hp:a.par≠b.par):
  ∃p∈d.notes,∃q∈d.notes,p.id=a.par/\q.id=b.par/\p.tier=q.tier/\p.tier<a.tier/\p≠q/\getN d.notes a.par=(p,true)/\getN d.notes b.par=(q,true):=by
 obtain⟨t,h1,h2,_⟩:=W.nt a ha
 obtain⟨t',h1',h2',_⟩:=W.nt b hb
 rw[ht]at h1
 rw[h1]at h1'
 injection h1' with e
 subst e
 rcases h2 with⟨k1,k2⟩|⟨k1,p,hp1,hp2,hp3⟩
 ·rcases h2' with⟨_,k4⟩|⟨k3,_⟩
  ·exact absurd (k2.trans k4.symm) hp
  ·exact absurd k1 k3
 ·rcases h2' with⟨k3,_⟩|⟨_,q,hq1,hq2,hq3⟩
  ·exact absurd k3 k1
  ·have hlt:p.tier<a.tier:=by
    unfold QL at h1
    split at h1
    ·rcases W.tpar _ t h1 with h|⟨_,h⟩
     ·exact absurd h k1
     ·rw[hp3,ht];omega
    ·cases h1
   refine⟨p,hp1,q,hq1,hp2,hq2,hp3.trans hq3.symm,hlt,fun e=>hp (by rw[<-hp2,<-hq2,e]),?_,?_⟩
   ·rw[<-hp2];exact W.get hp1
   ·rw[<-hq2];exact W.get hq1
theorem bef_fuel: ∀(k:Nat) (a b:Nte),a∈d.notes->b∈d.notes->a.tier=b.tier->a.tier<k->∀f g:Nat,k<=f->k<=g->befF d f a b=befF d g a b:=by
 intro k
 induction k with
 | zero=>intro a b ha hb ht h;have:=(W.tier ha).1;omega
 | succ k ih=>
  intro a b ha hb ht h f g hf hg
  obtain⟨f,rfl⟩: ∃f',f=f'+1:=⟨f - 1,by omega⟩
  obtain⟨g,rfl⟩: ∃g',g=g'+1:=⟨g - 1,by omega⟩
  simp only[befF]
  by_cases hp:a.par=b.par
  ·simp[hp]
  ·obtain⟨p,hp1,q,hq1,hp2,hq2,hpq,hlt,_,e1,e2⟩:=W.pars ha hb ht hp
   rw[if_pos hp,if_pos hp,e1,e2]
   exact ih p q hp1 hq1 hpq (by omega) f g (by omega) (by omega)
theorem bef_sib{a b:Nte}(ha:a∈d.notes)(hb:b∈d.notes)(ht:a.tier=b.tier)(hp:a.par=b.par):d.bef a b=decide (zr a b):=by
 unfold Dcm.bef
 obtain⟨h0,h1,_⟩:=W.tier ha
 obtain⟨m,hm⟩: ∃m,d.tiers.length=m+1:=⟨d.tiers.length - 1,by omega⟩
 rw[hm,befF,if_neg (by simpa using hp)]
 exact W.key_eq ha hb ht
theorem bef_par{a b p q:Nte}(ha:a∈d.notes)(hb:b∈d.notes)(ht:a.tier=b.tier)(hp:a.par≠b.par)(e1:getN d.notes a.par=(p,true))(e2:getN d.notes b.par=(q,true)):d.bef a b=d.bef p q:=by
 obtain⟨p',hp1,q',hq1,hp2,hq2,hpq,hlt,_,e1',e2'⟩:=W.pars ha hb ht hp
 rw[e1]at e1';rw[e2]at e2'
 injection e1' with e1';injection e2' with e2'
 subst e1';subst e2'
 obtain⟨h0,h1,_⟩:=W.tier ha
 have h0':=(W.tier hp1).1
 have hu:d.bef a b=befF d d.tiers.length a b:=rfl
 rw[hu]
 obtain⟨m,hm⟩: ∃m,d.tiers.length=m+1:=⟨d.tiers.length - 1,by omega⟩
 rw[hm,befF,if_pos hp,e1,e2]
 unfold Dcm.bef
 exact W.bef_fuel (p.tier.toNat+1) p q hp1 hq1 hpq (by omega) _ _ (by omega) (by omega)
theorem bef_laws: ∀(k:Nat),(∀a,a∈d.notes->a.tier<k->d.bef a a=false)/\
  (∀a b,a∈d.notes->b∈d.notes->a.tier=b.tier->a.tier<k->a≠b->d.bef a b=true\/d.bef b a=true)/\
  (∀a b c,a∈d.notes->b∈d.notes->c∈d.notes->a.tier=b.tier->b.tier=c.tier->a.tier<k->d.bef a b=true->d.bef b c=true->d.bef a c=true):=by
 intro k
 induction k with
 | zero=>
  refine⟨fun a ha h=>?_,fun a b ha hb ht h=>?_,fun a b c ha hb hc ht ht' h=>?_⟩<;>
   (have:=(W.tier ha).1;omega)
 | succ k ih=>
  obtain⟨i1,i2,i3⟩:=ih
  have irr: ∀a,a∈d.notes->a.tier<(k+1:Nat)->d.bef a a=false:=fun a ha h=>by
   rw[W.bef_sib ha ha rfl rfl];simp[zG]
  refine⟨irr,fun a b ha hb ht h hne=>?_,fun a b c ha hb hc ht ht' h h1 h2=>?_⟩
  ·by_cases hp:a.par=b.par
   ·rw[W.bef_sib ha hb ht hp,W.bef_sib hb ha ht.symm hp.symm]
    simpa using W.sib_tot ha hb ht hp hne
   ·obtain⟨p,hp1,q,hq1,hp2,hq2,hpq,hlt,hpne,e1,e2⟩:=W.pars ha hb ht hp
    rw[W.bef_par ha hb ht hp e1 e2,W.bef_par hb ha ht.symm (Ne.symm hp) e2 e1]
    exact i2 p q hp1 hq1 hpq (by omega) hpne
  ·by_cases hp:a.par=b.par
   ·by_cases hq:b.par=c.par
    ·rw[W.bef_sib ha hb ht hp]at h1
     rw[W.bef_sib hb hc ht' hq]at h2
     rw[W.bef_sib ha hc (ht.trans ht') (hp.trans hq)]
     simp only[decide_eq_true_eq]at*
     exact qcD h1 h2
    ·obtain⟨p,hp1,q,hq1,hp2,hq2,hpq,hlt,hpne,e1,e2⟩:=W.pars hb hc ht' hq
     rw[W.bef_par hb hc ht' hq e1 e2]at h2
     rw[W.bef_par ha hc (ht.trans ht') (by rw[hp];exact hq) (by rw[hp];exact e1) e2]
     exact h2
   ·obtain⟨p,hp1,q,hq1,hp2,hq2,hpq,hlt,hpne,e1,e2⟩:=W.pars ha hb ht hp
    rw[W.bef_par ha hb ht hp e1 e2]at h1
    by_cases hq:b.par=c.par
    ·rw[W.bef_par ha hc (ht.trans ht') (by rw[<-hq];exact hp) e1 (by rw[<-hq];exact e2)]
     exact h1
    ·obtain⟨p',hp1',r,hr1,hp2',hr2,hpr,hlt',hpne',e1',e3⟩:=W.pars hb hc ht' hq
     rw[e2]at e1'
     injection e1' with e1'
     subst e1'
     rw[W.bef_par hb hc ht' hq e2 e3]at h2
     have h3:=i3 p q r hp1 hq1 hr1 hpq hpr (by omega) h1 h2
     have hac:a.par≠c.par:=fun e=>by
      rw[e,e3]at e1
      injection e1 with e1
      subst e1
      have:=i3 r q r hr1 hq1 hr1 hpq hpr (by omega) h1 h2
      rw[i1 r hr1 (by omega)]at this
      cases this
     rw[W.bef_par ha hc (ht.trans ht') hac e1 e3]
     exact h3
theorem bef_irr{a:Nte}(ha:a∈d.notes):d.bef a a=false:=(W.bef_laws (a.tier.toNat+1)).1 a ha (by have:=(W.tier ha).1;omega)
theorem bef_tot{a b:Nte}(ha:a∈d.notes)(hb:b∈d.notes)(ht:a.tier=b.tier)(hne:a≠b):d.bef a b=true\/d.bef b a=true:=
 (W.bef_laws (a.tier.toNat+1)).2.1 a b ha hb ht (by have:=(W.tier ha).1;omega) hne
theorem bef_trans{a b c:Nte}(ha:a∈d.notes)(hb:b∈d.notes)(hc:c∈d.notes)(ht:a.tier=b.tier)(ht':b.tier=c.tier)(h1:d.bef a b=true)(h2:d.bef b c=true):d.bef a c=true:=
 (W.bef_laws (a.tier.toNat+1)).2.2 a b c ha hb hc ht ht' (by have:=(W.tier ha).1;omega) h1 h2
theorem bef_asym{a b:Nte}(ha:a∈d.notes)(hb:b∈d.notes)(ht:a.tier=b.tier)(h1:d.bef a b=true)(h2:d.bef b a=true):False:=by
 have:=W.bef_trans ha hb ha ht ht.symm h1 h2
 rw[W.bef_irr ha]at this;cases this
theorem ofN_mem{t:Int}{n:Nte}:n∈d.ofN t↔n∈d.notes/\n.tier=t:=by
 unfold Dcm.ofN;rw[insB_mem,wQ];simp
theorem ofN_sorted(t:Int):(d.ofN t).Pairwise (fun a b=>d.bef a b=true):=by
 have hm: ∀x,x∈d.notes.filter (fun n=>n.tier==t)->x∈d.notes/\x.tier=t:=fun x hx=>by
  rw[wQ]at hx;exact⟨hx.1,by simpa using hx.2⟩
 refine qc7 (fun a b c ha hb hc h1 h2=>?_) (fun a b ha hb hne=>?_) (W.nodup_f _)
 ·obtain⟨a1,a2⟩:=hm a ha
  obtain⟨b1,b2⟩:=hm b hb
  obtain⟨c1,c2⟩:=hm c hc
  exact W.bef_trans a1 b1 c1 (a2.trans b2.symm) (b2.trans c2.symm) h1 h2
 ·obtain⟨a1,a2⟩:=hm a ha
  obtain⟨b1,b2⟩:=hm b hb
  exact W.bef_tot a1 b1 (a2.trans b2.symm) hne
theorem kidN_mem{id t:Int}{n:Nte}:n∈d.kidN id t↔n∈d.notes/\n.tier=t/\n.par=id:=by
 unfold Dcm.kidN
 split
 ·rw[insB_mem,wQ];simp
 ·rename_i h
  constructor
  ·intro h;cases h
  ·rintro⟨h1,rfl,_⟩
   obtain⟨a,b,_⟩:=W.tier h1
   exact absurd ⟨a,b⟩ h
theorem kidN_sorted(id t:Int):(d.kidN id t).Pairwise zr:=by
 unfold Dcm.kidN
 split
 ·have hm: ∀x,x∈d.notes.filter (fun n=>n.tier==t&&n.par==id)->x∈d.notes/\x.tier=t/\x.par=id:=fun x hx=>by
   rw[wQ]at hx;exact⟨hx.1,by simpa using hx.2⟩
  have h:=qc7 (lt:=fun x y=>decide (ordN x y<0)) (l:=d.notes.filter fun n=>n.tier==t&&n.par==id) (fun a b c ha hb hc h1 h2=>by
   obtain⟨a1,a2,a3⟩:=hm a ha
   obtain⟨b1,b2,b3⟩:=hm b hb
   obtain⟨c1,c2,c3⟩:=hm c hc
   rw[decide_eq_true_eq]at*
   rw[ZR (a3.trans b3.symm)]at h1
   rw[ZR (b3.trans c3.symm)]at h2
   rw[ZR (a3.trans c3.symm)]
   exact qcD h1 h2) (fun a b ha hb hne=>by
   obtain⟨a1,a2,a3⟩:=hm a ha
   obtain⟨b1,b2,b3⟩:=hm b hb
   rw[decide_eq_true_eq,decide_eq_true_eq,ZR (a3.trans b3.symm),ZR (b3.trans a3.symm)]
   exact W.sib_tot a1 b1 (a2.trans b2.symm) (a3.trans b3.symm) hne) (W.nodup_f _)
  refine List.Pairwise.imp_of_mem ?_ h
  intro a b ha hb h
  obtain⟨a1,a2,a3⟩:=hm a (insB_mem.1 ha)
  obtain⟨b1,b2,b3⟩:=hm b (insB_mem.1 hb)
  rw[decide_eq_true_eq,ZR (a3.trans b3.symm)]at h
  exact h
 ·exact List.Pairwise.nil
end WfD
theorem qe6: ∀(A:List Int) (x:Int) (B:List Int),x∉A->x∉B->ZE (A++x::B) x=B.headD 0
 | [],x,[],_,_=>rfl
 | [],x,b::B,_,_=>by simp[ZE]
 | [a],x,B,h,hB=>by
  have h1:a≠x:=fun e=>h (by simp[e])
  simp only[wH,wE,ZE,if_neg h1]
  exact qe6 [] x B (by simp) hB
 | a::a'::A,x,B,h,hB=>by
  have h1:a≠x:=fun e=>h (by simp[e])
  simp only[wH,ZE,if_neg h1]
  exact qe6 (a'::A) x B (fun e=>h (yN _ e)) hB
theorem qjy: ∀(B:List Nte) (id p:Int),(∀n∈B,n.id≠id)->qal B id p=0
 | [],_,_,_=>rfl
 | [_],_,_,_=>rfl
 | a::b::B,id,p,h=>by
  have h1:=h a (by simp)
  simp only[qal]
  rw[if_neg (fun e=>h1 e.1)]
  exact qjy (b::B) id p fun n hn=>h n (yN _ hn)
theorem qe5: ∀(A:List Nte) (x:Nte) (B:List Nte) (p:Int),(∀n∈A,n.id≠x.id)->(∀n∈B,n.id≠x.id)->qal (A++x::B) x.id p=match B with| []=>0|m::_=>if m.par=p then m.id else 0
 | [],x,[],p,_,_=>rfl
 | [],x,b::B,p,_,hB=>by
  simp only[wE,qal,true_and]
  split
  ·rfl
  ·exact qjy _ _ _ hB
 | [a],x,B,p,h,hB=>by
  have h1:a.id≠x.id:=h a (by simp)
  simp only[wH,wE,qal]
  rw[if_neg (fun e=>h1 e.1)]
  exact qe5 [] x B p (fun _ h=>by cases h) hB
 | a::a'::A,x,B,p,h,hB=>by
  have h1:a.id≠x.id:=h a (by simp)
  simp only[wH,qal]
  rw[if_neg (fun e=>h1 e.1)]
  exact qe5 (a'::A) x B p (fun n hn=>h n (yN _ hn)) hB
def qj7(d:Dcm)(n:Nte)(r:Int):Prop:=
 (∃m∈d.notes,m.tier=n.tier/\m.par=n.par/\zr n m/\(∀x∈d.notes,x.tier=n.tier->x.par=n.par->zr n x->x=m\/zr m x)/\r=m.id)\/
 ((∀x∈d.notes,x.tier=n.tier->x.par=n.par->¬zr n x)/\r=0)
theorem qfb{d:Dcm}{n:Nte}{r s:Int}(h1:qj7 d n r)(h2:qj7 d n s):r=s:=by
 rcases h1 with⟨m,hm,m1,m2,m3,m4,rfl⟩|⟨h,rfl⟩
 ·rcases h2 with⟨m',hm',n1,n2,n3,n4,rfl⟩|⟨h',rfl⟩
  ·rcases m4 m' hm' n1 n2 n3 with e|e
   ·rw[e]
   ·rcases n4 m hm m1 m2 m3 with e'|e'
    ·rw[e']
    ·exact absurd e' (qd5 e)
  ·exact absurd m3 (h' m hm m1 m2)
 ·rcases h2 with⟨m',hm',n1,n2,n3,n4,rfl⟩|⟨h',rfl⟩
  ·exact absurd n3 (h m' hm' n1 n2)
  ·rfl
namespace WfD
variable {d : Dcm} (W : WfD d)
include W
theorem next_is{n:Nte}(hn:n∈d.notes):qj7 d n (d.next n.id):=by
 unfold Dcm.next
 rw[W.find hn]
 simp only
 have hs:=W.kidN_sorted n.par n.tier
 have hm:=fun x=>@WfD.kidN_mem d W n.par n.tier x
 unfold Dcm.kids
 have hnL:n∈d.kidN n.par n.tier:=(hm n).2 ⟨hn,rfl,rfl⟩
 generalize d.kidN n.par n.tier=L at hs hm hnL
 obtain⟨A,B,rfl⟩:=List.append_of_mem hnL
 obtain⟨p1,p2,p3⟩:=wW.1 hs
 obtain⟨p4,p5⟩:=wK.1 p2
 have hA: ∀x∈A,zr x n:=fun x hx=>p3 x hx n (by simp)
 have inA:n.id∉A.map (·.id):=fun h=>by
  obtain⟨x,hx,e⟩:=wI.1 h
  have:=W.inj ((hm x).1 (by simp[hx])).1 hn e
  subst this
  exact zG _ (hA _ hx)
 have inB:n.id∉B.map (·.id):=fun h=>by
  obtain⟨x,hx,e⟩:=wI.1 h
  have:=W.inj ((hm x).1 (by simp[hx])).1 hn e
  subst this
  exact zG _ (p4 _ hx)
 rw[wJ,wt,qe6 _ _ _ inA inB]
 have hin: ∀x∈d.notes,x.tier=n.tier->x.par=n.par->zr n x->x∈B:=fun x hx h1 h2 h3=>by
  have:=(hm x).2 ⟨hx,h1,h2⟩
  rcases wo.1 this with h|h
  ·exact absurd h3 (qd5 (hA x h))
  ·rcases ws.1 h with rfl|h
   ·exact absurd h3 (zG _)
   ·exact h
 cases B with
 | nil=>exact .inr ⟨fun x hx h1 h2 h3=>yl (hin x hx h1 h2 h3),rfl⟩
 | cons m B=>
  obtain⟨q1,q2⟩:=(hm m).1 (by simp)
  refine .inl ⟨m,q1,q2.1,q2.2,p4 m (by simp),fun x hx h1 h2 h3=>?_,rfl⟩
  rcases ws.1 (hin x hx h1 h2 h3)with h|h
  ·exact .inl h
  ·exact .inr ((wK.1 p5).1 x h)
theorem nextD_is{n:Nte}(hn:n∈d.notes):qj7 d n (d.nextD n.id):=by
 unfold Dcm.nextD
 rw[W.find hn]
 simp only
 have hs:=W.ofN_sorted n.tier
 have hm:=fun x=>@WfD.ofN_mem d W n.tier x
 have hnL:n∈d.ofN n.tier:=(hm n).2 ⟨hn,rfl⟩
 generalize d.ofN n.tier=L at hs hm hnL
 obtain⟨A,B,rfl⟩:=List.append_of_mem hnL
 obtain⟨p1,p2,p3⟩:=wW.1 hs
 obtain⟨p4,p5⟩:=wK.1 p2
 have hA: ∀x∈A,d.bef x n=true:=fun x hx=>p3 x hx n (by simp)
 have inA: ∀x∈A,x.id≠n.id:=fun x hx e=>by
  have:=W.inj ((hm x).1 (by simp[hx])).1 hn e
  subst this
  have:=hA _ hx
  rw[W.bef_irr hn]at this;cases this
 have inB: ∀x∈B,x.id≠n.id:=fun x hx e=>by
  have:=W.inj ((hm x).1 (by simp[hx])).1 hn e
  subst this
  have:=p4 _ hx
  rw[W.bef_irr hn]at this;cases this
 rw[qe5 A n B n.par inA inB]
 have hin: ∀x∈d.notes,x.tier=n.tier->x.par=n.par->zr n x->x∈B:=fun x hx h1 h2 h3=>by
  have hb:d.bef n x=true:=by rw[W.bef_sib hn hx h1.symm h2.symm];simpa using h3
  have:=(hm x).2 ⟨hx,h1⟩
  rcases wo.1 this with h|h
  ·exact(W.bef_asym hn hx h1.symm hb (hA x h)).elim
  ·rcases ws.1 h with rfl|h
   ·exact absurd h3 (zG _)
   ·exact h
 cases B with
 | nil=>exact .inr ⟨fun x hx h1 h2 h3=>yl (hin x hx h1 h2 h3),rfl⟩
 | cons m B=>
  obtain⟨q1,q2⟩:=(hm m).1 (by simp)
  have hnm:=p4 m (by simp)
  simp only
  by_cases hp:m.par=n.par
  ·rw[if_pos hp]
   refine .inl ⟨m,q1,q2,hp,?_,fun x hx h1 h2 h3=>?_,rfl⟩
   ·rw[W.bef_sib hn q1 q2.symm hp.symm]at hnm;simpa using hnm
   ·rcases ws.1 (hin x hx h1 h2 h3)with h|h
    ·exact .inl h
    ·right
     have:=(wK.1 p5).1 x h
     rw[W.bef_sib q1 hx (q2.trans h1.symm) (hp.trans h2.symm)]at this;simpa using this
  ·rw[if_neg hp]
   refine .inr ⟨fun x hx h1 h2 h3=>?_,rfl⟩
   rcases ws.1 (hin x hx h1 h2 h3)with h|h
   ·exact hp (h▸h2)
   ·have hmx:=(wK.1 p5).1 x h
    obtain⟨p,hp1,q,hq1,hp2,hq2,hpq,hlt,_,e1,e2⟩:=W.pars hn q1 q2.symm (Ne.symm hp)
    rw[W.bef_par hn q1 q2.symm (Ne.symm hp) e1 e2]at hnm
    rw[W.bef_par q1 hx (q2.trans h1.symm) (by rw[h2];exact hp) e2 (by rw[h2];exact e1)]at hmx
    exact W.bef_asym hp1 hq1 hpq hnm hmx
theorem next_eq(id:Int):d.next id=d.nextD id:=by
 cases h:d.notes.find? (fun x=>x.id==id)with
 | none=>unfold Dcm.next Dcm.nextD;rw[h]
 | some n=>
  obtain⟨h1,rfl⟩:=zQ h
  exact qfb (W.next_is h1) (W.nextD_is h1)
end WfD
def qg(s:Spn):Bool:=decide (0<=s.fr)&&decide (s.fr<s.tg)&&decide (s.tg<=86400000)
theorem rightS_iff{s:Spn}:qg s=true↔0<=s.fr/\s.fr<s.tg/\s.tg<=86400000:=by simp[qg,and_assoc]
def inS(s:Spn)(t:Int):Prop:=s.fr<=t/\t<s.tg
def qG(l:List Spn)(t:Int):Prop:=∃s∈l,qg s=true/\inS s t
theorem qQ(t:Int): ¬qG [] t:=by rintro⟨s,h,_⟩;cases h
theorem qV{a b:List Spn}{t:Int}:qG (a++b) t↔qG a t\/qG b t:=by
 constructor
 ·rintro⟨s,h,h2⟩
  rcases wo.1 h with h|h
  ·exact .inl ⟨s,h,h2⟩
  ·exact .inr ⟨s,h,h2⟩
 ·rintro(⟨s,h,h2⟩|⟨s,h,h2⟩)
  ·exact⟨s,by simp[h],h2⟩
  ·exact⟨s,by simp[h],h2⟩
theorem times_one{s:Spn}{t:Int}:qG [s] t↔qg s=true/\inS s t:=by
 constructor
 ·rintro⟨s',h,h2⟩
  simp at h;subst h;exact h2
 ·exact fun h=>⟨s,by simp,h⟩
theorem qX{s:Spn}{l:List Spn}{t:Int}:qG (s::l) t↔(qg s=true/\inS s t)\/qG l t:=by
 rw[<-times_one (s:=s),<-qV];rfl
theorem ql6{a b:List Spn}{t:Int}(h: ∀s,s∈a↔s∈b):qG a t↔qG b t:=
 ⟨fun⟨s,h1,h2⟩=>⟨s,(h s).1 h1,h2⟩,fun⟨s,h1,h2⟩=>⟨s,(h s).2 h1,h2⟩⟩
theorem Zw{l:List Spn}{t:Int}:qG (l.filter qg) t↔qG l t:=
 ⟨fun⟨s,h1,h2⟩=>⟨s,(wQ.1 h1).1,h2⟩,fun⟨s,h1,h2⟩=>⟨s,wQ.2 ⟨h1,h2.1⟩,h2⟩⟩
def qE(out:List Spn)(s:Spn):List Spn:=match out.getLast? with
 | some z=>if s.fr<=z.tg then out.dropLast++[⟨z.fr,max z.tg s.tg⟩]else out++[s]
 | none=>out++[s]
def qf2(l:List Spn):List Spn:=insB (fun x y=>decide (x.fr<y.fr)) l
def qO(l:List Spn):List Spn:=(qf2 (l.filter qg)).foldl qE []
def QH:List Spn->List Spn->List Spn
 | x::a,y::b=>(if max x.fr y.fr<min x.tg y.tg then [⟨max x.fr y.fr,min x.tg y.tg⟩]else [])++(if x.tg<y.tg then QH a (y::b)else QH (x::a) b)
 | _,_=>[]
termination_by a b=>a.length+b.length
def qlB(a b:List Spn):List Spn:=QH (qO a) (qO b)
def Zs:Int->List Spn->List Spn
 | at_,[]=>[⟨at_,86400000⟩]
 | at_,s::l=>⟨at_,s.fr⟩::Zs s.tg l
def qeh(a b:List Spn):List Spn:=qlB a (Zs 0 (qO b))
def qbE(l:List Spn)(s:Spn):Bool:=qg s&&(qO l).any fun x=>decide (x.fr<=s.fr)&&decide (s.tg<=x.tg)
def zC(l:List Spn):Prop:=(∀s∈l,qg s=true)/\l.Pairwise (fun a b=>a.tg<b.fr)
theorem qjB: ∀(l out:List Spn),(∀s∈l,qg s=true)->l.Pairwise (fun a b=>a.fr<=b.fr)->zC out->(∀z∈out,∀s∈l,z.fr<=s.fr)->
  zC (l.foldl qE out)/\∀t,qG (l.foldl qE out) t↔qG out t\/qG l t
 | [],out,_,_,ho,_=>⟨ho,fun t=>by simp[qQ]⟩
 | s::l,out,hl,hs,ho,hz=>by
  obtain⟨s1,s2⟩:=wK.1 hs
  have hsr:=rightS_iff.1 (hl s (by simp))
  rw[w6]
  have key:zC (qE out s)/\(∀z∈qE out s,∀s∈l,z.fr<=s.fr)/\∀t,qG (qE out s) t↔qG out t\/(qg s=true/\inS s t):=by
   unfold qE
   cases hg:out.getLast? with
   | none=>
    have:out= []:=List.getLast?_eq_none_iff.1 hg
    subst this
    refine⟨⟨fun x hx=>?_,by simp⟩,fun z hz' x hx=>?_,fun t=>?_⟩
    ·simp at hx;subst hx;exact hl _ (by simp)
    ·simp at hz';subst hz';exact s1 x hx
    ·simp only[wE,times_one,qQ,false_or]
   | some z=>
    obtain⟨o,rfl⟩: ∃o,out=o++[z]:=by
     obtain⟨o,ho⟩:=List.getLast?_eq_some_iff.1 hg
     exact⟨o,ho⟩
    obtain⟨n1,n2⟩:=ho
    obtain⟨p1,p2,p3⟩:=wW.1 n2
    have hzr:=rightS_iff.1 (n1 z (by simp))
    have hzs:=hz z (by simp) s (by simp)
    simp only[List.dropLast_concat]
    split
    ·rename_i hle
     have hr:qg ⟨z.fr,max z.tg s.tg⟩=true:=rightS_iff.2 ⟨hzr.1,by show z.fr<max z.tg s.tg;omega,by show max z.tg s.tg<=_;omega⟩
     refine⟨⟨fun x hx=>?_,?_⟩,fun x hx y hy=>?_,fun t=>?_⟩
     ·rcases wo.1 hx with h|h
      ·exact n1 x (by simp[h])
      ·simp at h;subst h;exact hr
     ·refine wW.2 ⟨p1,by simp,fun a ha b hb=>?_⟩
      simp at hb;subst hb
      exact p3 a ha z (by simp)
     ·rcases wo.1 hx with h|h
      ·exact hz x (by simp[h]) y (by simp[hy])
      ·simp at h;subst h;exact hz z (by simp) y (by simp[hy])
     ·simp only[qV,times_one]
      have e:(qg ⟨z.fr,max z.tg s.tg⟩=true/\inS ⟨z.fr,max z.tg s.tg⟩ t)↔(qg z=true/\inS z t)\/(qg s=true/\inS s t):=by
       rw[hr,n1 z (by simp),hl s (by simp)]
       unfold inS
       simp only[true_and]
       show(z.fr<=t/\t<max z.tg s.tg)↔_
       omega
      rw[e,or_assoc]
    ·rename_i hle
     refine⟨⟨fun x hx=>?_,?_⟩,fun x hx y hy=>?_,fun t=>?_⟩
     ·rcases wo.1 hx with h|h
      ·exact n1 x h
      ·simp at h;subst h;exact hl _ (by simp)
     ·refine wW.2 ⟨n2,by simp,fun a ha b hb=>?_⟩
      simp at hb;subst hb
      rcases wo.1 ha with h|h
      ·have h1:=p3 a h z (by simp)
       have h2:=hzr.2.1
       omega
      ·simp at h;subst h;omega
     ·rcases wo.1 hx with h|h
      ·exact hz x h y (by simp[hy])
      ·simp at h;subst h;exact s1 y hy
     ·simp only[qV,times_one]
  obtain⟨k1,k2,k3⟩:=key
  obtain⟨r1,r2⟩:=qjB l (qE out s) (fun x hx=>hl x (by simp[hx])) s2 k1 k2
  refine⟨r1,fun t=>?_⟩
  rw[r2,k3,qX,or_assoc]
theorem sortS_mem{l:List Spn}{s:Spn}:s∈qf2 l↔s∈l:=insB_mem
theorem qpo(l:List Spn):(qf2 l).Pairwise (fun a b=>a.fr<=b.fr):=by
 unfold qf2 insB
 have: ∀(l acc:List Spn),acc.Pairwise (fun a b=>a.fr<=b.fr)->(l.foldl (fun acc x=>qU (fun y=>decide (x.fr<y.fr)) acc x) acc).Pairwise (fun a b=>a.fr<=b.fr):=by
  intro l
  induction l with
  | nil=>exact fun acc h=>h
  | cons x l ih=>
   intro acc h
   rw[w6]
   refine ih _ (qaa (fun a b:Spn=>a.fr<=b.fr) _ acc x (fun a b c h1 h2=>Int.le_trans h1 h2) (fun y _ h=>?_) (fun y _ h=>?_) h)
   ·have:=of_decide_eq_true h;omega
   ·have:=of_decide_eq_false h;omega
 exact this l [] List.Pairwise.nil
theorem Qp(l:List Spn):zC (qO l)/\∀t,qG (qO l) t↔qG l t:=by
 have h:=qjB (qf2 (l.filter qg)) [] (fun s hs=>(wQ.1 (sortS_mem.1 hs)).2) (qpo _) ⟨by simp,by simp⟩ (by simp)
 refine⟨h.1,fun t=>?_⟩
 rw[qO,h.2 t,<-Zw (l:=l)]
 simp only[qQ,false_or]
 exact ql6 fun s=>sortS_mem
theorem qiJ: ∀(n:Nat) (a b:List Spn),a.length+b.length<=n->zC a->zC b->(∀s∈QH a b,qg s=true)/\∀t,qG (QH a b) t↔qG a t/\qG b t
 | _,[],b,_,_,_=>⟨by simp[QH],fun t=>by simp[QH,qQ]⟩
 | _,x::a,[],_,_,_=>⟨by simp[QH],fun t=>by simp[QH,qQ]⟩
 | 0,x::a,y::b,h,_,_=>by simp at h
 | n+1,x::a,y::b,h,ha,hb=>by
  have hx:=rightS_iff.1 (ha.1 x (by simp))
  have hy:=rightS_iff.1 (hb.1 y (by simp))
  obtain⟨a1,a2⟩:=wK.1 ha.2
  obtain⟨b1,b2⟩:=wK.1 hb.2
  have ha':zC a:=⟨fun s hs=>ha.1 s (by simp[hs]),a2⟩
  have hb':zC b:=⟨fun s hs=>hb.1 s (by simp[hs]),b2⟩
  have head:(∀s∈(if max x.fr y.fr<min x.tg y.tg then [(⟨max x.fr y.fr,min x.tg y.tg⟩:Spn)]else []),qg s=true)/\∀t,qG (if max x.fr y.fr<min x.tg y.tg then [(⟨max x.fr y.fr,min x.tg y.tg⟩:Spn)]else []) t↔inS x t/\inS y t:=by
   split
   ·rename_i hlt
    have hr:qg ⟨max x.fr y.fr,min x.tg y.tg⟩=true:=rightS_iff.2 ⟨by show 0<=max x.fr y.fr;omega,hlt,by show min x.tg y.tg<=_;omega⟩
    refine⟨fun s hs=>by simp at hs;subst hs;exact hr,fun t=>?_⟩
    rw[times_one,hr]
    unfold inS
    show _/\(max x.fr y.fr<=t/\t<min x.tg y.tg)↔_
    simp only[true_and];omega
   ·rename_i hlt
    refine⟨by simp,fun t=>?_⟩
    simp only[qQ,false_iff]
    unfold inS;omega
  have later: ∀(z:Spn) (l:List Spn) (t:Int),(∀w∈l,z.tg<w.fr)->t<z.tg->¬qG l t:=by
   rintro z l t h1 h2 ⟨w,hw,_,h3,_⟩
   have:=h1 w hw;omega
  rw[QH]
  generalize (if max x.fr y.fr<min x.tg y.tg then [(⟨max x.fr y.fr,min x.tg y.tg⟩:Spn)]else [])=hd at head ⊢
  split
  ·rename_i hlt
   obtain⟨i1,i2⟩:=qiJ n a (y::b) (by simp at h ⊢;omega) ha' hb
   refine⟨fun s hs=>(wo.1 hs).elim (head.1 s) (i1 s),fun t=>?_⟩
   rw[qV,head.2,i2,qX,qX]
   constructor
   ·rintro(⟨h1,h2⟩|⟨h1,h2⟩)
    ·exact⟨.inl ⟨ha.1 x (by simp),h1⟩,.inl ⟨hb.1 y (by simp),h2⟩⟩
    ·exact⟨.inr h1,h2⟩
   ·rintro⟨⟨_,h1⟩|h1,h2⟩
    ·rcases h2 with⟨_,h2⟩|h2
     ·exact .inl ⟨h1,h2⟩
     ·exact absurd h2 (later y b t b1 (by have:=h1.2;omega))
    ·exact .inr ⟨h1,h2⟩
  ·rename_i hlt
   obtain⟨i1,i2⟩:=qiJ n (x::a) b (by simp at h ⊢;omega) ha hb'
   refine⟨fun s hs=>(wo.1 hs).elim (head.1 s) (i1 s),fun t=>?_⟩
   rw[qV,head.2,i2,qX,qX]
   constructor
   ·rintro(⟨h1,h2⟩|⟨h1,h2⟩)
    ·exact⟨.inl ⟨ha.1 x (by simp),h1⟩,.inl ⟨hb.1 y (by simp),h2⟩⟩
    ·exact⟨h1,.inr h2⟩
   ·rintro⟨h1,⟨_,h2⟩|h2⟩
    ·rcases h1 with⟨_,h1⟩|h1
     ·exact .inl ⟨h1,h2⟩
     ·exact absurd h1 (later x a t a1 (by have:=h2.2;omega))
    ·exact .inr ⟨h1,h2⟩
theorem qiK(a b:List Spn)(t:Int):qG (qlB a b) t↔qG a t/\qG b t:=by
 rw[qlB,(qiJ _ _ _ (wv _) (Qp a).1 (Qp b).1).2 t,(Qp a).2,(Qp b).2]
theorem qeq: ∀(l:List Spn) (at_:Int),zC l->0<=at_->(∀s∈l,at_<=s.fr)->∀t,qG (Zs at_ l) t↔at_<=t/\t<86400000/\¬qG l t
 | [],at_,_,h0,_,t=>by
  rw[Zs,times_one]
  simp only[qQ,not_false_eq_true,and_true]
  rw[rightS_iff];unfold inS
  show(0<=at_/\at_<86400000/\_)/\(at_<=t/\t<86400000)↔_
  simp only[Int.le_refl,and_true];omega
 | s::l,at_,hn,h0,hs,t=>by
  obtain⟨p1,p2⟩:=wK.1 hn.2
  have hr:=rightS_iff.1 (hn.1 s (by simp))
  have h1:=hs s (by simp)
  rw[Zs,qX,qX,qeq l s.tg ⟨fun x hx=>hn.1 x (by simp[hx]),p2⟩ (by omega) (fun x hx=>by have:=p1 x hx;omega) t,hn.1 s (by simp),rightS_iff]
  unfold inS
  show((0<=at_/\at_<s.fr/\s.fr<=86400000)/\(at_<=t/\t<s.fr))\/_↔_
  simp only[true_and]
  have hlow:t<s.tg->¬qG l t:=by
   rintro h ⟨w,hw,_,h3,_⟩
   have:=p1 w hw;omega
  by_cases ht:qG l t
  ·have: ¬t<s.tg:=fun h=>hlow h ht
   simp[ht];omega
  ·simp only[ht,or_false,not_false_eq_true,and_true];omega
theorem qgy(a b:List Spn)(t:Int):qG (qeh a b) t↔qG a t/\¬qG b t:=by
 rw[qeh,qiK,qeq _ 0 (Qp b).1 (Int.le_refl _) (fun s hs=>(rightS_iff.1 ((Qp b).1.1 s hs)).1),(Qp b).2]
 constructor
 ·exact fun h=>⟨h.1,h.2.2.2⟩
 ·rintro⟨⟨s,h1,h2,h3⟩,h⟩
  have:=rightS_iff.1 h2
  refine⟨⟨s,h1,h2,h3⟩,?_,?_,h⟩<;>(have h4:=h3.1;have h5:=h3.2;omega)
theorem qiD(l:List Spn)(s:Spn):qbE l s=true↔qg s=true/\∀t,inS s t->qG l t:=by
 obtain⟨⟨n1,n2⟩,ht⟩:=Qp l
 unfold qbE
 rw[wu,yo]
 refine and_congr_right fun hs=>?_
 have hr:=rightS_iff.1 hs
 constructor
 ·rintro⟨x,hx,h⟩ t hi
  simp only[wu,decide_eq_true_eq]at h
  exact(ht t).1 ⟨x,hx,n1 x hx,by have:=hi.1;have:=hi.2;exact⟨by omega,by omega⟩⟩
 ·intro h
  obtain⟨x,hx,hxr,hx1,hx2⟩:=(ht s.fr).2 (h s.fr ⟨by omega,by omega⟩)
  refine⟨x,hx,?_⟩
  simp only[wu,decide_eq_true_eq]
  refine⟨hx1,?_⟩
  by_cases hlt:x.tg<s.tg
  ·exfalso
   obtain⟨y,hy,hyr,hy1,hy2⟩:=(ht x.tg).2 (h x.tg ⟨by omega,by omega⟩)
   have hxr':=rightS_iff.1 hxr
   obtain⟨i,hi,rfl⟩:=List.getElem_of_mem hx
   obtain⟨j,hj,rfl⟩:=List.getElem_of_mem hy
   have hp:=jy.1 n2
   rcases Nat.lt_trichotomy i j with hij|hij|hij
   ·have:=hp i j hi hj hij;omega
   ·subst hij;omega
   ·have:=hp j i hj hi hij;omega
  ·omega
def q8(p:List Spn×List Spn×Spn)(x:Spn):List Spn×List Spn×Spn:=
 if x.tg<p.2.2.fr then(p.1++[x],p.2.1,p.2.2)else if x.fr>p.2.2.tg then(p.1,p.2.1++[x],p.2.2)else(p.1,p.2.1,⟨min p.2.2.fr x.fr,max p.2.2.tg x.tg⟩)
def insR(l:List Spn)(s:Spn):List Spn:=(l.foldl q8 ([],[],s)).1++(l.foldl q8 ([],[],s)).2.2::(l.foldl q8 ([],[],s)).2.1
def QK(l:List Spn):List Spn:=(l.filter qg).foldl insR []
def cutR(s x:Spn):List Spn:=(if qg ⟨x.fr,min x.tg s.fr⟩=true then [⟨x.fr,min x.tg s.fr⟩]else [])++(if qg ⟨max x.fr s.tg,x.tg⟩=true then [⟨max x.fr s.tg,x.tg⟩]else [])
def qm(l:List Spn)(s:Spn):List Spn:=l.flatMap (cutR s)
def Qs(a b:List Spn):List Spn:=(b.filter qg).foldl qm (QK a)
def ZJ(l:List Spn)(s:Spn):Bool:=qg s&&decide ((Qs [s] l).length=0)
def AllR(l:List Spn):Prop:=∀s∈l,qg s=true
theorem qnR: ∀(l:List Spn) (p:List Spn×List Spn×Spn),AllR l->AllR p.1->AllR p.2.1->qg p.2.2=true->
  AllR (l.foldl q8 p).1/\AllR (l.foldl q8 p).2.1/\qg (l.foldl q8 p).2.2=true/\∀t,(qG (l.foldl q8 p).1 t\/inS (l.foldl q8 p).2.2 t\/qG (l.foldl q8 p).2.1 t)↔(qG p.1 t\/inS p.2.2 t\/qG p.2.1 t)\/qG l t
 | [],p,_,h1,h2,h3=>⟨h1,h2,h3,fun t=>by simp[qQ]⟩
 | x::l,p,hl,h1,h2,h3=>by
  rw[w6]
  have hx:=hl x (by simp)
  have hxr:=rightS_iff.1 hx
  have hpr:=rightS_iff.1 h3
  have key:AllR (q8 p x).1/\AllR (q8 p x).2.1/\qg (q8 p x).2.2=true/\∀t,(qG (q8 p x).1 t\/inS (q8 p x).2.2 t\/qG (q8 p x).2.1 t)↔(qG p.1 t\/inS p.2.2 t\/qG p.2.1 t)\/inS x t:=by
   unfold q8
   split
   ·refine⟨fun s hs=>(wo.1 hs).elim (h1 s) (fun h=>by simp at h;subst h;exact hx),h2,h3,fun t=>?_⟩
    simp only[qV,times_one,hx,true_and]
    constructor
    ·rintro((h|h)|h|h)<;>simp[h]
    ·rintro((h|h|h)|h)<;>simp[h]
   ·split
    ·refine⟨h1,fun s hs=>(wo.1 hs).elim (h2 s) (fun h=>by simp at h;subst h;exact hx),h3,fun t=>?_⟩
     simp only[qV,times_one,hx,true_and]
     constructor
     ·rintro(h|h|h|h)<;>simp[h]
     ·rintro((h|h|h)|h)<;>simp[h]
    ·rename_i g1 g2
     refine⟨h1,h2,rightS_iff.2 ⟨by show 0<=min p.2.2.fr x.fr;omega,by show min p.2.2.fr x.fr<max p.2.2.tg x.tg;omega,by show max p.2.2.tg x.tg<=_;omega⟩,fun t=>?_⟩
     have e:inS ⟨min p.2.2.fr x.fr,max p.2.2.tg x.tg⟩ t↔inS p.2.2 t\/inS x t:=by
      unfold inS
      show(min p.2.2.fr x.fr<=t/\t<max p.2.2.tg x.tg)↔_
      omega
     simp only[e]
     constructor
     ·rintro(h|(h|h)|h)<;>simp[h]
     ·rintro((h|h|h)|h)<;>simp[h]
  obtain⟨k1,k2,k3,k4⟩:=key
  obtain⟨r1,r2,r3,r4⟩:=qnR l (q8 p x) (fun s hs=>hl s (by simp[hs])) k1 k2 k3
  refine⟨r1,r2,r3,fun t=>?_⟩
  rw[r4,k4,qX,hx,or_assoc]
  simp only[true_and]
theorem insR_ok{l:List Spn}{s:Spn}(hl:AllR l)(hs:qg s=true):AllR (insR l s)/\∀t,qG (insR l s) t↔qG l t\/inS s t:=by
 obtain⟨h1,h2,h3,h4⟩:=qnR l ([],[],s) hl (by simp[AllR]) (by simp[AllR]) hs
 refine⟨fun x hx=>?_,fun t=>?_⟩
 ·rcases wo.1 hx with h|h
  ·exact h1 x h
  ·rcases ws.1 h with rfl|h
   ·exact h3
   ·exact h2 x h
 ·unfold insR
  rw[qV,qX,h3]
  simp only[true_and]
  rw[h4 t]
  simp only[qQ,false_or,or_false]
  exact Or.comm
theorem qfS(l:List Spn):AllR (QK l)/\∀t,qG (QK l) t↔qG l t:=by
 have key: ∀(l out:List Spn),AllR l->AllR out->AllR (l.foldl insR out)/\∀t,qG (l.foldl insR out) t↔qG out t\/qG l t:=by
  intro l
  induction l with
  | nil=>exact fun out _ h=>⟨h,fun t=>by simp[qQ]⟩
  | cons x l ih=>
   intro out hl ho
   have hx:=hl x (by simp)
   obtain⟨g1,g2⟩:=insR_ok ho hx
   obtain⟨r1,r2⟩:=ih (insR out x) (fun s hs=>hl s (by simp[hs])) g1
   refine⟨r1,fun t=>?_⟩
   rw[w6,r2,g2,qX,hx,or_assoc]
   simp only[true_and]
 obtain⟨h1,h2⟩:=key (l.filter qg) [] (fun s hs=>(wQ.1 hs).2) (by simp[AllR])
 refine⟨h1,fun t=>?_⟩
 rw[QK,h2,Zw]
 simp only[qQ,false_or]
theorem cutR_ok{s x:Spn}(hs:qg s=true)(hx:qg x=true):AllR (cutR s x)/\∀t,qG (cutR s x) t↔inS x t/\¬inS s t:=by
 have hsr:=rightS_iff.1 hs
 have hxr:=rightS_iff.1 hx
 unfold cutR
 refine⟨fun y hy=>?_,fun t=>?_⟩
 ·rcases wo.1 hy with h|h
  ·split at h
   ·rename_i hr;simp at h;subst h;exact hr
   ·cases h
  ·split at h
   ·rename_i hr;simp at h;subst h;exact hr
   ·cases h
 ·rw[qV]
  have h1:qG (if qg ⟨x.fr,min x.tg s.fr⟩=true then [(⟨x.fr,min x.tg s.fr⟩:Spn)]else []) t↔x.fr<=t/\t<min x.tg s.fr:=by
   split
   ·rename_i hr
    rw[times_one,hr];simp only[true_and];exact Iff.rfl
   ·rename_i hr
    rw[rightS_iff]at hr
    simp only[qQ,false_iff]
    intro h
    exact hr ⟨hxr.1,by show x.fr<min x.tg s.fr;omega,by show min x.tg s.fr<=_;omega⟩
  have h2:qG (if qg ⟨max x.fr s.tg,x.tg⟩=true then [(⟨max x.fr s.tg,x.tg⟩:Spn)]else []) t↔max x.fr s.tg<=t/\t<x.tg:=by
   split
   ·rename_i hr
    rw[times_one,hr];simp only[true_and];exact Iff.rfl
   ·rename_i hr
    rw[rightS_iff]at hr
    simp only[qQ,false_iff]
    intro h
    exact hr ⟨by show 0<=max x.fr s.tg;omega,by show max x.fr s.tg<x.tg;omega,hxr.2.2⟩
  rw[h1,h2];unfold inS;omega
theorem qdZ{s:Spn}(hs:qg s=true): ∀{l:List Spn},AllR l->AllR (qm l s)/\∀t,qG (qm l s) t↔qG l t/\¬inS s t
 | [],_=>⟨by simp[qm,AllR],fun t=>by simp[qm,qQ]⟩
 | x::l,hl=>by
  have hx:=hl x (by simp)
  obtain⟨c1,c2⟩:=cutR_ok hs hx
  obtain⟨i1,i2⟩:=qdZ hs (l:=l) fun y hy=>hl y (by simp[hy])
  unfold qm at*
  rw[jr]
  refine⟨fun y hy=>(wo.1 hy).elim (c1 y) (i1 y),fun t=>?_⟩
  rw[qV,c2,i2,qX,hx]
  simp only[true_and]
  constructor
  ·rintro(⟨h1,h2⟩|⟨h1,h2⟩)
   ·exact⟨.inl h1,h2⟩
   ·exact⟨.inr h1,h2⟩
  ·rintro⟨h1|h1,h2⟩
   ·exact .inl ⟨h1,h2⟩
   ·exact .inr ⟨h1,h2⟩
theorem qgx(a b:List Spn):AllR (Qs a b)/\∀t,qG (Qs a b) t↔qG a t/\¬qG b t:=by
 have key: ∀(l out:List Spn),AllR l->AllR out->AllR (l.foldl qm out)/\∀t,qG (l.foldl qm out) t↔qG out t/\¬qG l t:=by
  intro l
  induction l with
  | nil=>exact fun out _ h=>⟨h,fun t=>by simp[qQ]⟩
  | cons x l ih=>
   intro out hl ho
   have hx:=hl x (by simp)
   obtain⟨g1,g2⟩:=qdZ hx ho
   obtain⟨r1,r2⟩:=ih (qm out x) (fun s hs=>hl s (by simp[hs])) g1
   refine⟨r1,fun t=>?_⟩
   rw[w6,r2,g2,qX,hx]
   simp only[true_and,not_or,and_assoc]
 obtain⟨h1,h2⟩:=key (b.filter qg) (QK a) (fun s hs=>(wQ.1 hs).2) (qfS a).1
 refine⟨h1,fun t=>?_⟩
 rw[Qs,h2,Zw,(qfS a).2]
theorem qiC(l:List Spn)(s:Spn):ZJ l s=true↔qg s=true/\∀t,inS s t->qG l t:=by
 obtain⟨h1,h2⟩:=qgx [s] l
 unfold ZJ
 rw[wu]
 refine and_congr_right fun hs=>?_
 rw[decide_eq_true_eq]
 constructor
 ·intro h t ht
  have hnil:Qs [s] l= []:=yh.1 h
  refine Classical.byContradiction fun hn=>?_
  have:=(h2 t).2 ⟨times_one.2 ⟨hs,ht⟩,hn⟩
  rw[hnil]at this
  exact qQ t this
 ·intro h
  cases hm:Qs [s] l with
  | nil=>rfl
  | cons x r=>
   exfalso
   have hx:=h1 x (by rw[hm];simp)
   have hxr:=rightS_iff.1 hx
   obtain⟨g1,g2⟩:=(h2 x.fr).1 ⟨x,by rw[hm];simp,hx,by exact⟨Int.le_refl _,hxr.2.1⟩⟩
   exact g2 (h x.fr (times_one.1 g1).2)
theorem qiB{a b:List Spn}(h: ∀t,qG a t↔qG b t)(s:Spn):qbE a s=ZJ b s:=by
 rw[yH,qiD,qiC]
 exact and_congr_right fun _=>forall_congr' fun t=>imp_congr_right fun _=>h t
def Zn(ts:List Tir)(i:Int):Bool:=match QL ts i with
 | some t=>t.kind==1
 | none=>false
inductive Kp(d:Dcm)(seen:Int->Bool):Nte->Prop where
 | seen (n:Nte) (h:n∈d.notes) (hs:seen n.id=true):Kp d seen n
 | par (a b:Nte) (h:Kp d seen a) (hb:b∈d.notes) (e:b.id=a.par):Kp d seen b
 | sib (a b:Nte) (h:Kp d seen a) (hb:b∈d.notes) (ht:b.tier=a.tier) (hp:b.par=a.par) (hk:Zn d.tiers a.tier=true):Kp d seen b
theorem Kp.mem{d:Dcm}{seen:Int->Bool}{n:Nte}(h:Kp d seen n):n∈d.notes:=by cases h<;>assumption
open Classical in
noncomputable def Z5(d:Dcm)(seen:Int->Bool):List Nte:=d.notes.filter fun n=>decide (Kp d seen n)
def vr(seen:Int->Bool)(n:Nte):Nte:=if seen n.id=true then n else { n with txt:=⟨#[]⟩ }
noncomputable def qah(d:Dcm)(seen:Int->Bool):Dcm:={ d with notes:=(Z5 d seen).map (vr seen) }
open Classical in
theorem keptN_mem{d:Dcm}{seen:Int->Bool}{n:Nte}:n∈Z5 d seen↔Kp d seen n:=by
 unfold Z5
 rw[wQ]
 exact⟨fun h=>of_decide_eq_true h.2,fun h=>⟨h.mem,decide_eq_true h⟩⟩
theorem Kp.all{d:Dcm}{seen:Int->Bool}{P:Nte->Prop}(h1: ∀n∈d.notes,seen n.id=true->P n)(h2: ∀a∈d.notes,P a->∀b∈d.notes,b.id=a.par->P b)
  (h3: ∀a∈d.notes,P a->∀b∈d.notes,b.tier=a.tier->b.par=a.par->Zn d.tiers a.tier=true->P b): ∀n,Kp d seen n->P n:=by
 intro n h
 induction h with
 | seen n h hs=>exact h1 n h hs
 | par a b h hb e ih=>exact h2 a h.mem ih b hb e
 | sib a b h hb ht hp hk ih=>exact h3 a h.mem ih b hb ht hp hk
theorem qcn(seen:Int->Bool)(n:Nte):(vr seen n).id=n.id:=by unfold vr;split<;>rfl
theorem Z0(seen:Int->Bool)(n:Nte):(vr seen n).tier=n.tier:=by unfold vr;split<;>rfl
theorem qdy(seen:Int->Bool)(n:Nte):(vr seen n).par=n.par:=by unfold vr;split<;>rfl
theorem qfD(seen:Int->Bool)(n:Nte):(vr seen n).fr=n.fr:=by unfold vr;split<;>rfl
theorem qbK(seen:Int->Bool)(n:Nte):(vr seen n).rank=n.rank:=by unfold vr;split<;>rfl
theorem viewD_mem{d:Dcm}{seen:Int->Bool}{m:Nte}:m∈(qah d seen).notes↔∃n,Kp d seen n/\vr seen n=m:=by
 show m∈(Z5 d seen).map (vr seen)↔_
 rw[wI]
 exact exists_congr fun n=>and_congr_left fun _=>keptN_mem
theorem qi4{d:Dcm}(W:WfD d)(seen:Int->Bool):WfD (qah d seen) where
 up:=by
  show((Z5 d seen).map (vr seen)).Pairwise _
  rw[List.pairwise_map]
  refine List.Pairwise.imp ?_ (List.Pairwise.filter _ W.up)
  intro a b h
  rw[qcn,qcn];exact h
 pos:=fun m hm=>by
  obtain⟨n,hn,rfl⟩:=viewD_mem.1 hm
  rw[qcn];exact W.pos n hn.mem
 tpar:=W.tpar
 nt:=fun m hm=>by
  obtain⟨n,hn,rfl⟩:=viewD_mem.1 hm
  obtain⟨t,h1,h2,h3,h4⟩:=W.nt n hn.mem
  rw[Z0,qdy,qbK,qfD]
  refine⟨t,h1,?_,h3,h4⟩
  rcases h2 with h2|⟨k1,p,hp,e1,e2⟩
  ·exact .inl h2
  ·exact .inr ⟨k1,vr seen p,viewD_mem.2 ⟨p,.par n p hn hp e1,rfl⟩,by rw[qcn];exact e1,by rw[Z0];exact e2⟩
 sib:=fun a ha b hb h1 h2 h3 h4=>by
  obtain⟨m,hm,rfl⟩:=viewD_mem.1 ha
  obtain⟨n,hn,rfl⟩:=viewD_mem.1 hb
  rw[Z0,Z0]at h1
  rw[qdy,qdy]at h2
  rw[qfD,qfD]at h3
  rw[qbK,qbK]at h4
  rw[W.sib m hm.mem n hn.mem h1 h2 h3 h4]
def Onward(d:Dcm)(S S':List Int):Prop:=∀a∈d.notes,a.id∈S'->a.id∉S->(∀b∈d.notes,b.id=a.par->b.id∈S')/\(∀b∈d.notes,b.tier=a.tier->b.par=a.par->Zn d.tiers a.tier=true->b.id∈S')
def IsKp(d:Dcm)(seen:Int->Bool)(x:Int):Prop:=∃n,Kp d seen n/\n.id=x
theorem IsKp.of{d:Dcm}(W:WfD d){seen:Int->Bool}{n:Nte}(hn:n∈d.notes)(h:IsKp d seen n.id):Kp d seen n:=by
 obtain⟨m,hm,e⟩:=h
 rw[<-W.inj hm.mem hn e];exact hm
theorem qla{d:Dcm}(W:WfD d){seen:Int->Bool}{S:List Int}(h1: ∀n∈d.notes,seen n.id=true->n.id∈S)(h2: ∀x∈S,IsKp d seen x)(h3:Onward d [] S){n:Nte}(hn:n∈d.notes):n.id∈S↔Kp d seen n:=by
 constructor
 ·exact fun h=>(h2 _ h).of W hn
 ·refine Kp.all (P:=fun n=>n.id∈S) h1 (fun a ha h b hb e=>(h3 a ha h (by simp)).1 b hb e) (fun a ha h b hb ht hp hk=>(h3 a ha h (by simp)).2 b hb ht hp hk) n
theorem kp_up{d:Dcm}(W:WfD d){seen:Int->Bool}: ∀(k:Nat) (n:Nte),Kp d seen n->n.tier<k->∀m∈d.up n.id,Kp d seen m:=by
 intro k
 induction k with
 | zero=>intro n hn h;have:=(W.tier hn.mem).1;omega
 | succ k ih=>
  intro n hn h m hm
  rw[W.up_cons hn.mem]at hm
  rcases ws.1 hm with rfl|hm
  ·exact hn
  ·rcases W.par hn.mem with⟨h2,h3⟩|⟨p,hp,he,hlt,hf'⟩
   ·rw[W.up_none h2]at hm;cases hm
   ·rw[<-he]at hm
    exact ih p (.par n p hn hp he) (by omega) m hm
end Go.Proofs.YtaaodllggdjhiaaGreatDoor
namespace Go.Proofs.YtaaodllggdjhiaaGreatDoor
open Go.Dl S
theorem qe9(a b:ByteArray):qaE a b=true↔a.data.toList<b.data.toList:=by
 unfold qaE;rw[bytesLess_eq,ByteArray.toList_eq,ByteArray.toList_eq];simp
structure Pst where
 role:Int
 txt:ByteArray
 ids:List Int
def Pst.enc(p:Pst):List C:=[li p.role,ls p.txt,.sl 1 (ints p.ids)]
def Pst.row(p:Pst):List T:=[.c (li p.role),.c (ls p.txt),.c (.sl 1 (ints p.ids))]
def pLt(p:Pst)(role:Int)(txt:ByteArray):Bool:=decide (p.role<role)||(decide (p.role=role)&&qaE p.txt txt)
def pEq(p:Pst)(role:Int)(txt:ByteArray):Bool:=decide (p.role=role)&&(p.txt==txt)
def cmpP(p:Pst)(role:Int)(txt:ByteArray):Int:=if pLt p role txt=true then -1 else if pEq p role txt=true then 0 else 1
def qz(l:List Pst)(role:Int)(txt:ByteArray):Nat:=(l.takeWhile fun p=>pLt p role txt).length
def QQ(l:List Pst)(role:Int)(txt:ByteArray):Bool:=match l[qz l role txt]? with
 | some p=>pEq p role txt
 | none=>false
def qaA(l:List Int)(n:Int):List Int:=if l[lowI l n]? =some n then l else l.take (lowI l n)++n::l.drop (lowI l n)
def putP(l:List Pst)(role:Int)(txt:ByteArray)(id:Int):List Pst:=
 if role<1\/role>5 then l else match l[qz l role txt]? with
 | some p=>if pEq p role txt=true then l.set (qz l role txt) { p with ids:=qaA p.ids id }else l.take (qz l role txt)++⟨role,txt,[id]⟩::l.drop (qz l role txt)
 | none=>l++[⟨role,txt,[id]⟩]
def qbl(l:List Pst)(role:Int)(txt:ByteArray)(id:Int):List Pst:=match l[qz l role txt]? with
 | some p=>if pEq p role txt=true then l.take (qz l role txt)++(if(p.ids.filter fun n=>n !=id).length>0 then [⟨role,txt,p.ids.filter fun n=>n !=id⟩]else [])++l.drop (qz l role txt+1)else l
 | none=>l
theorem pEq_iff{p:Pst}{role:Int}{txt:ByteArray}:pEq p role txt=true↔p.role=role/\p.txt=txt:=by
 unfold pEq;rw[wu,decide_eq_true_eq,ZZ]
theorem pLt_iff{p:Pst}{role:Int}{txt:ByteArray}:pLt p role txt=true↔p.role<role\/(p.role=role/\qaE p.txt txt=true):=by
 unfold pLt;simp
theorem qjv{p:Pst}{role:Int}{txt:ByteArray}(h:pEq p role txt=true):pLt p role txt=false:=by
 obtain⟨h1,h2⟩:=pEq_iff.1 h
 cases h3:pLt p role txt
 ·rfl
 ·rcases pLt_iff.1 h3 with h4|⟨_,h4⟩
  ·omega
  ·rw[h2,qe9]at h4
   exact absurd h4 (List.lt_irrefl _)
theorem qm7{p q:Pst}{role:Int}{txt:ByteArray}(h1:pLt p q.role q.txt=true)(h2:pLt q role txt=true):pLt p role txt=true:=by
 rw[pLt_iff]at*
 rcases h1 with h1|⟨h1,h1'⟩
 ·rcases h2 with h2|⟨h2,_⟩
  ·left;omega
  ·left;omega
 ·rcases h2 with h2|⟨h2,h2'⟩
  ·left;omega
  ·right
   refine⟨h1.trans h2,?_⟩
   rw[qe9]at*
   exact List.lt_trans h1' h2'
theorem qm8{p:Pst}{role:Int}{txt:ByteArray}(h1:pLt p role txt=false)(h2:pEq p role txt=false)(ids:List Int):pLt ⟨role,txt,ids⟩ p.role p.txt=true:=by
 rw[pLt_iff]
 show role<p.role\/(role=p.role/\qaE txt p.txt=true)
 by_cases h3:role<p.role
 ·exact .inl h3
 ·by_cases h4:p.role<role
  ·rw[pLt_iff.2 (.inl h4)]at h1;cases h1
  ·have h5:p.role=role:=by omega
   refine .inr ⟨h5.symm,?_⟩
   cases h6:qaE txt p.txt
   ·exfalso
    have h7:qaE p.txt txt=false:=by
     cases h8:qaE p.txt txt
     ·rfl
     ·rw[pLt_iff.2 (.inr ⟨h5,h8⟩)]at h1;cases h1
    have e:p.txt=txt:=by
     have a1: ¬p.txt.data.toList<txt.data.toList:=fun e=>by rw[(qe9 _ _).2 e]at h7;cases h7
     have a2: ¬txt.data.toList<p.txt.data.toList:=fun e=>by rw[(qe9 _ _).2 e]at h6;cases h6
     have:=List.le_antisymm (List.not_lt.1 a2) (List.not_lt.1 a1)
     rcases p with⟨_,⟨⟨x⟩⟩,_⟩
     rcases txt with⟨⟨y⟩⟩
     simp at this
     subst this;rfl
    rw[pEq_iff.2 ⟨h5,e⟩]at h2;cases h2
   ·rfl
theorem qi8{α:Type}(q:α->Bool)(l:List α):l=l.take (l.takeWhile q).length++l.drop (l.takeWhile q).length/\l.take (l.takeWhile q).length=l.takeWhile q/\(∀x∈l.takeWhile q,q x=true)/\∀x,l[(l.takeWhile q).length]? =some x->q x=false:=by
 refine⟨(wS _ l).symm,?_,fun x hx=>?_,?_⟩
 ·induction l with
  | nil=>rfl
  | cons x l ih=>
   rw[jc]
   split
   ·simp[ih]
   ·rfl
 ·induction l with
  | nil=>cases hx
  | cons y l ih=>
   rw[jc]at hx
   split at hx
   ·rename_i hy
    rcases ws.1 hx with rfl|hx
    ·exact hy
    ·exact ih hx
   ·cases hx
 ·induction l with
  | nil=>intro x h;simp at h
  | cons y l ih=>
   intro x h
   rw[jc]at h
   split at h
   ·rename_i hy
    exact ih x (by simpa using h)
   ·rename_i hy
    simp at h;subst h;simpa using hy
structure IxOk(l:List Pst)(S:Int->ByteArray->Int->Prop):Prop where
 pw:l.Pairwise (fun p q=>pLt p q.role q.txt=true)
 mem: ∀role txt id,(∃p∈l,p.role=role/\p.txt=txt/\id∈p.ids)↔S role txt id
theorem IxOk.nil:IxOk [] (fun _ _ _=>False):=⟨List.Pairwise.nil,fun role txt id=>by simp⟩
theorem IxOk.congr{l:List Pst}{S T:Int->ByteArray->Int->Prop}(h:IxOk l S)(e: ∀r t i,S r t i↔T r t i):IxOk l T:=⟨h.pw,fun r t i=>(h.mem r t i).trans (e r t i)⟩
theorem withI_mem{l:List Int}{n x:Int}:x∈qaA l n↔x∈l\/x=n:=by
 unfold qaA
 split
 ·rename_i h
  have:=wl h
  constructor
  ·exact fun h=>.inl h
  ·rintro(h|rfl)
   ·exact h
   ·exact this
 ·rw[wo,ws]
  have e:x∈l↔x∈l.take (lowI l n)\/x∈l.drop (lowI l n):=by rw[<-wo,wS]
  rw[e]
  constructor
  ·rintro(h|h|h)<;>simp[h]
  ·rintro((h|h)|h)<;>simp[h]
theorem qcT{l:List Pst}(h:l.Pairwise (fun p q=>pLt p q.role q.txt=true)){role:Int}{txt:ByteArray}{q:Pst}(hq:q∈l)(he:pEq q role txt=true):l[qz l role txt]? =some q:=by
 obtain⟨h1,h2,h3,h4⟩:=qi8 (fun p=>pLt p role txt) l
 unfold qz
 generalize hn:(l.takeWhile fun p=>pLt p role txt).length=n at*
 rw[<-h2]at h3
 rw[h1]at hq
 rcases wo.1 hq with hq|hq
 ·have:=h3 q hq
  rw[qjv he]at this;cases this
 ·cases hd:l.drop n with
  | nil=>rw[hd]at hq;cases hq
  | cons p r=>
   have hp:l[n]? =some p:=by
    have:=congrArg (fun l=>l[0]?) hd
    simpa using this
   rw[hd]at hq
   rcases ws.1 hq with rfl|hq
   ·exact hp
   ·exfalso
    rw[h1,hd]at h
    have hpq:=(wK.1 (wW.1 h).2.1).1 q hq
    obtain⟨e1,e2⟩:=pEq_iff.1 he
    rw[e1,e2]at hpq
    have:=h4 p hp
    rw[hpq]at this;cases this
theorem put_ok{l:List Pst}{S:Int->ByteArray->Int->Prop}(h:IxOk l S)(role:Int)(txt:ByteArray)(id:Int):IxOk (putP l role txt id) (fun r t i=>S r t i\/(1<=role/\role<=5/\r=role/\t=txt/\i=id)):=by
 unfold putP
 split
 ·rename_i hr
  refine h.congr fun r t i=>?_
  constructor
  ·exact fun h=>.inl h
  ·rintro(h|⟨h1,h2,_⟩)
   ·exact h
   ·omega
 ·rename_i hr
  obtain⟨h1,h2,h3,h4⟩:=qi8 (fun p=>pLt p role txt) l
  have hrole:1<=role/\role<=5:=by omega
  have addnew:(∀p,l[qz l role txt]? =some p->pEq p role txt=false)->IxOk (l.take (qz l role txt)++⟨role,txt,[id]⟩::l.drop (qz l role txt)) (fun r t i=>S r t i\/(1<=role/\role<=5/\r=role/\t=txt/\i=id)):=by
   intro hne
   have hpw:=h.pw
   unfold qz at*
   generalize hn:(l.takeWhile fun p=>pLt p role txt).length=n at*
   rw[<-h2]at h3
   have hpw':=hpw
   rw[h1]at hpw'
   obtain⟨p1,p2,p3⟩:=wW.1 hpw'
   refine⟨wW.2 ⟨p1,wK.2 ⟨fun q hq=>?_,p2⟩,fun a ha b hb=>?_⟩,fun r t i=>?_⟩
   ·cases hd:l.drop n with
    | nil=>rw[hd]at hq;cases hq
    | cons p rest=>
     have hp:l[n]? =some p:=by
      have:=congrArg (fun l=>l[0]?) hd
      simpa using this
     have hlt:=qm8 (h4 p hp) (hne p hp) [id]
     rw[hd]at hq
     rcases ws.1 hq with rfl|hq
     ·exact hlt
     ·rw[hd]at p2
      exact qm7 (q:=p) hlt ((wK.1 p2).1 q hq)
   ·rcases ws.1 hb with rfl|hb
    ·exact h3 a ha
    ·exact p3 a ha b hb
   ·rw[<-h.mem r t i]
    have e: ∀p,p∈l↔p∈l.take n\/p∈l.drop n:=fun p=>by rw[<-wo,wS]
    constructor
    ·rintro⟨p,hp,k⟩
     rcases wo.1 hp with hp|hp
     ·exact .inl ⟨p,(e p).2 (.inl hp),k⟩
     ·rcases ws.1 hp with rfl|hp
      ·obtain⟨k1,k2,k3⟩:=k
       simp at k3
       exact .inr ⟨hrole.1,hrole.2,k1.symm,k2.symm,k3⟩
      ·exact .inl ⟨p,(e p).2 (.inr hp),k⟩
    ·rintro(⟨p,hp,k⟩|⟨_,_,rfl,rfl,rfl⟩)
     ·rcases(e p).1 hp with hp|hp
      ·exact⟨p,by simp[hp],k⟩
      ·exact⟨p,by simp[hp],k⟩
     ·exact⟨⟨r,t,[i]⟩,by simp,rfl,rfl,by simp⟩
  cases hp:l[qz l role txt]? with
  | none=>
   simp only
   have hlen:l.length<=qz l role txt:=by simpa using hp
   have:=addnew (fun p hp'=>by rw[hp]at hp';cases hp')
   rw[wO hlen,List.drop_of_length_le hlen]at this
   exact this
  | some p=>
   simp only
   by_cases he:pEq p role txt=true
   ·rw[if_pos he]
    obtain⟨e1,e2⟩:=pEq_iff.1 he
    obtain⟨hlt,hpe⟩:=wd.1 hp
    have Qu:l.set (qz l role txt) { p with ids:=qaA p.ids id }=l.take (qz l role txt)++{ p with ids:=qaA p.ids id }::l.drop (qz l role txt+1):=List.set_eq_take_append_cons_drop (l:=l)▸if_pos hlt
    have hl:l=l.take (qz l role txt)++p::l.drop (qz l role txt+1):=by
     have:=wS (qz l role txt) l
     rw[wL hlt,hpe]at this
     exact this.symm
    rw[Qu]
    generalize l.take (qz l role txt)=A at*
    generalize l.drop (qz l role txt+1)=B at*
    have hpw:=h.pw
    rw[hl]at hpw
    obtain⟨p1,p2,p3⟩:=wW.1 hpw
    obtain⟨p4,p5⟩:=wK.1 p2
    refine⟨wW.2 ⟨p1,wK.2 ⟨fun q hq=>p4 q hq,p5⟩,fun a ha b hb=>?_⟩,fun r t i=>?_⟩
    ·rcases ws.1 hb with rfl|hb
     ·exact p3 a ha p (by simp)
     ·exact p3 a ha b (by simp[hb])
    ·rw[<-h.mem r t i,hl]
     constructor
     ·rintro⟨q,hq,k⟩
      rcases wo.1 hq with hq|hq
      ·exact .inl ⟨q,by simp[hq],k⟩
      ·rcases ws.1 hq with rfl|hq
       ·obtain⟨k1,k2,k3⟩:=k
        rcases withI_mem.1 k3 with k3|k3
        ·exact .inl ⟨p,by simp,k1,k2,k3⟩
        ·exact .inr ⟨hrole.1,hrole.2,by rw[<-k1];exact e1,by rw[<-k2];exact e2,k3⟩
       ·exact .inl ⟨q,by simp[hq],k⟩
     ·rintro(⟨q,hq,k⟩|⟨_,_,rfl,rfl,rfl⟩)
      ·rcases wo.1 hq with hq|hq
       ·exact⟨q,by simp[hq],k⟩
       ·rcases ws.1 hq with rfl|hq
        ·exact⟨_,wo.2 (.inr (List.mem_cons_self ..)),k.1,k.2.1,withI_mem.2 (.inl k.2.2)⟩
        ·exact⟨q,by simp[hq],k⟩
      ·exact⟨_,wo.2 (.inr (List.mem_cons_self ..)),e1,e2,withI_mem.2 (.inr rfl)⟩
   ·rw[if_neg he]
    exact addnew (fun q hq=>by rw[hp]at hq;injection hq with hq;subst hq;simpa using he)
theorem take_ok{l:List Pst}{S:Int->ByteArray->Int->Prop}(h:IxOk l S)(role:Int)(txt:ByteArray)(id:Int):IxOk (qbl l role txt id) (fun r t i=>S r t i/\¬(r=role/\t=txt/\i=id)):=by
 have nothing:(∀q∈l,pEq q role txt=false)->IxOk l (fun r t i=>S r t i/\¬(r=role/\t=txt/\i=id)):=by
  intro hn
  refine h.congr fun r t i=>?_
  constructor
  ·intro hs
   refine⟨hs,?_⟩
   rintro⟨rfl,rfl,rfl⟩
   obtain⟨q,hq,k1,k2,_⟩:=(h.mem _ _ _).2 hs
   have:=hn q hq
   rw[pEq_iff.2 ⟨k1,k2⟩]at this;cases this
  ·exact fun h=>h.1
 unfold qbl
 cases hp:l[qz l role txt]? with
 | none=>
  simp only
  refine nothing fun q hq=>?_
  cases he:pEq q role txt
  ·rfl
  ·rw[qcT h.pw hq he]at hp;cases hp
 | some p=>
  simp only
  by_cases he:pEq p role txt=true
  ·rw[if_pos he]
   obtain⟨e1,e2⟩:=pEq_iff.1 he
   obtain⟨hlt,hpe⟩:=wd.1 hp
   have hl:l=l.take (qz l role txt)++p::l.drop (qz l role txt+1):=by
    have:=wS (qz l role txt) l
    rw[wL hlt,hpe]at this
    exact this.symm
   have huniq: ∀q∈l,pEq q role txt=true->q=p:=fun q hq hqe=>by
    have:=qcT h.pw hq hqe
    rw[hp]at this;injection this with this;exact this.symm
   have hnp: ∀q,q∈l.take (qz l role txt)\/q∈l.drop (qz l role txt+1)->pEq q role txt=false:=fun q hq=>by
    have hpw:=h.pw
    rw[hl]at hpw
    obtain⟨p1,p2,p3⟩:=wW.1 hpw
    cases hqe:pEq q role txt
    ·rfl
    ·exfalso
     rcases hq with hq|hq
     ·have:=p3 q hq p (by simp)
      rw[e1,e2,qjv hqe]at this;cases this
     ·have:=(wK.1 p2).1 q hq
      obtain⟨f1,f2⟩:=pEq_iff.1 hqe
      rw[f1,f2,qjv he]at this;cases this
   generalize l.take (qz l role txt)=A at*
   generalize l.drop (qz l role txt+1)=B at*
   have hpw:=h.pw
   rw[hl]at hpw
   obtain⟨p1,p2,p3⟩:=wW.1 hpw
   obtain⟨p4,p5⟩:=wK.1 p2
   have memb: ∀r t i,(∃q∈A++(if(p.ids.filter fun n=>n !=id).length>0 then [⟨role,txt,p.ids.filter fun n=>n !=id⟩]else [])++B,q.role=r/\q.txt=t/\i∈q.ids)↔S r t i/\¬(r=role/\t=txt/\i=id):=by
    intro r t i
    rw[<-h.mem r t i,hl]
    constructor
    ·rintro⟨q,hq,k⟩
     rw[wU]at hq
     have side:(q∈A\/q∈B)->(∃q∈A++p::B,q.role=r/\q.txt=t/\i∈q.ids)/\¬(r=role/\t=txt/\i=id):=fun hs=>by
      refine⟨⟨q,?_,k⟩,?_⟩
      ·rcases hs with hs|hs<;>simp[hs]
      ·rintro⟨f1,f2,_⟩
       have:=hnp q hs
       rw[pEq_iff.2 ⟨k.1.trans f1,k.2.1.trans f2⟩]at this;cases this
     rcases wo.1 hq with hq|hq
     ·exact side (.inl hq)
     ·rcases wo.1 hq with hq|hq
      ·split at hq
       ·simp at hq;subst hq
        obtain⟨k1,k2,k3⟩:=k
        simp only[wQ,bne_iff_ne]at k3
        refine⟨⟨p,by simp,e1.trans k1,e2.trans k2,k3.1⟩,fun f=>k3.2 f.2.2⟩
       ·cases hq
      ·exact side (.inr hq)
    ·rintro⟨⟨q,hq,k⟩,hn⟩
     rcases wo.1 hq with hq|hq
     ·exact⟨q,by simp[hq],k⟩
     ·rcases ws.1 hq with rfl|hq
      ·have hi:i≠id:=fun e=>hn ⟨k.1.symm.trans e1,k.2.1.symm.trans e2,e⟩
       have hmem:i∈q.ids.filter fun n=>n !=id:=by simp[k.2.2,hi]
       have vo:(q.ids.filter fun n=>n !=id).length>0:=List.length_pos_of_mem hmem
       rw[if_pos vo]
       exact⟨⟨role,txt,q.ids.filter fun n=>n !=id⟩,by simp,e1.symm.trans k.1,e2.symm.trans k.2.1,hmem⟩
      ·exact⟨q,by simp[hq],k⟩
   refine⟨?_,memb⟩
   split
   ·refine wW.2 ⟨wW.2 ⟨p1,by simp,fun a ha b hb=>?_⟩,p5,fun a ha b hb=>?_⟩
    ·simp at hb;subst hb
     have:=p3 a ha p (by simp)
     rw[e1,e2]at this;exact this
    ·rcases wo.1 ha with ha|ha
     ·exact p3 a ha b (by simp[hb])
     ·simp at ha;subst ha
      have h6:=p4 b hb
      rw[pLt_iff]at h6 ⊢
      rw[e1,e2]at h6;exact h6
   ·rw[wM]
    exact wW.2 ⟨p1,p5,fun a ha b hb=>p3 a ha b (by simp[hb])⟩
  ·rw[if_neg he]
   refine nothing fun q hq=>?_
   cases hqe:pEq q role txt
   ·rfl
   ·have:=qcT h.pw hq hqe
    rw[hp]at this;injection this with this;subst this
    exact absurd hqe he
def zU(ts:List Tir)(n:Nte):Int:=match QL ts n.tier with
 | some t=>t.role
 | none=>0
def vO(ts:List Tir)(l:List Nte)(p:List Pst):List Pst:=l.foldl (fun p n=>putP p (zU ts n) n.txt n.id) p
def qbD(ts:List Tir)(l:List Nte)(p:List Pst):List Pst:=l.foldl (fun p n=>qbl p (zU ts n) n.txt n.id) p
def TriN(ts:List Tir)(l:List Nte)(r:Int)(t:ByteArray)(i:Int):Prop:=∃n∈l,1<=zU ts n/\zU ts n<=5/\r=zU ts n/\t=n.txt/\i=n.id
theorem qds(ts:List Tir): ∀(l:List Nte) (p:List Pst) (S:Int->ByteArray->Int->Prop),IxOk p S->IxOk (vO ts l p) (fun r t i=>S r t i\/TriN ts l r t i)
 | [],p,S,h=>h.congr fun r t i=>by simp[TriN]
 | n::l,p,S,h=>by
  have:=qds ts l _ _ (put_ok h (zU ts n) n.txt n.id)
  refine this.congr fun r t i=>?_
  rw[or_assoc]
  refine or_congr_right ?_
  unfold TriN
  constructor
  ·rintro(h|⟨m,hm,h⟩)
   ·exact⟨n,by simp,h⟩
   ·exact⟨m,by simp[hm],h⟩
  ·rintro⟨m,hm,h⟩
   rcases ws.1 hm with rfl|hm
   ·exact .inl h
   ·exact .inr ⟨m,hm,h⟩
theorem qjW(ts:List Tir): ∀(l:List Nte) (p:List Pst) (S:Int->ByteArray->Int->Prop),IxOk p S->IxOk (qbD ts l p) (fun r t i=>S r t i/\¬ ∃n∈l,r=zU ts n/\t=n.txt/\i=n.id)
 | [],p,S,h=>h.congr fun r t i=>by simp
 | n::l,p,S,h=>by
  have:=qjW ts l _ _ (take_ok h (zU ts n) n.txt n.id)
  refine this.congr fun r t i=>?_
  rw[and_assoc]
  refine and_congr_right fun _=>?_
  rw[<-not_or]
  refine not_congr ?_
  constructor
  ·rintro(h|⟨m,hm,h⟩)
   ·exact⟨n,by simp,h⟩
   ·exact⟨m,by simp[hm],h⟩
  ·rintro⟨m,hm,h⟩
   rcases ws.1 hm with rfl|hm
   ·exact .inl h
   ·exact .inr ⟨m,hm,h⟩
theorem ql3(ts us:List Tir)(l m:List Nte):IxOk (vO us m (qbD ts l (vO ts l []))) (TriN us m):=by
 have h1:=qds ts l [] _ IxOk.nil
 have h2:=qjW ts l _ _ h1
 refine(qds us m _ _ h2).congr fun r t i=>?_
 constructor
 ·rintro(⟨h|⟨n,hn,_,_,h⟩,h'⟩|h)
  ·exact h.elim
  ·exact absurd ⟨n,hn,h⟩ h'
  ·exact h
 ·exact fun h=>.inr h
inductive Qry where
 | mk (op role:Int) (txt:ByteArray) (kids:List Qry)
mutual
def Qry.enc:Qry->List C
 | .mk op role txt kids=>[li op,li role,ls txt,.sl 4 (Qry.encL kids)]
def Qry.encL:List Qry->List (List C)
 | []=>[]
 | q::r=>q.enc::Qry.encL r
end
def Qry.row:Qry->List T
 | .mk op role txt kids=>[.c (li op),.c (li role),.c (ls txt),.c (.sl 4 (Qry.encL kids))]
theorem qcl: ∀l:List Qry,Qry.encL l=l.map Qry.enc
 | []=>rfl
 | q::r=>by rw[Qry.encL,qcl r,wt]
mutual
def Qry.nodes:Qry->Nat
 | .mk _ _ _ kids=>1+Qry.nodesL kids
def Qry.nodesL:List Qry->Nat
 | []=>0
 | q::r=>q.nodes+Qry.nodesL r
end
theorem QR(q:Qry):1<=q.nodes:=by cases q;rw[Qry.nodes];omega
theorem Qg: ∀{l:List Qry} {q:Qry},q∈l->q.nodes<=Qry.nodesL l
 | a::l,q,h=>by
  rw[Qry.nodesL]
  rcases ws.1 h with rfl|h
  ·omega
  ·have:=Qg h;omega
def qdH(ts:List Tir):Prop:=∀(i j:Nat) (a b:Tir),ts[i]? =some a->ts[j]? =some b->a.role=b.role->a.role≠0->i=j
def Dcm.ids(d:Dcm):List Int:=d.notes.map (·.id)
def qI(d:Dcm)(a:List Int):List Int:=d.ids.filter (inL a)
def QA(d:Dcm)(role:Int):List Int:=(d.notes.filter fun n=>zU d.tiers n==role).map (·.id)
def txtE(d:Dcm)(mt:ByteArray->Bool)(role:Int):List Int:=(d.notes.filter fun n=>zU d.tiers n==role&&mt n.txt).map (·.id)
def qhK(d:Dcm)(a b:List Int):List Int:=(qI d a).filter fun i=>inL (qI d b) (d.next i)
def Zp(s t:Spn):Bool:=decide (s.fr<=t.fr)&&decide (t.tg<=s.tg)
def qhF(d:Dcm)(a b:List Int):List Int:=(qI d a).filter fun i=>(qI d b).any fun k=>k !=i&&Zp (d.wher k).1 (d.wher i).1
def hasE(d:Dcm)(a b:List Int):List Int:=(qI d a).filter fun i=>(qI d b).any fun k=>inL ((d.chain k).drop 1) i
def Zt(d:Dcm)(mt:ByteArray->ByteArray->Bool)(op role:Int)(txt:ByteArray)(a b:List Int):List Int:=
 if op=0 then txtE d (mt txt) role else if op=1 then botI a b else if op=2 then uniI a b else if op=3 then minI (QA d role) a
 else if op=4 then qhK d a b else if op=5 then qhF d a b else hasE d a b
mutual
def Qry.ev(d:Dcm)(mt:ByteArray->ByteArray->Bool):Qry->List Int
 | .mk op role txt kids=>Zt d mt op role txt ((Qry.evL d mt kids).getD 0 []) ((Qry.evL d mt kids).getD 1 [])
def Qry.evL(d:Dcm)(mt:ByteArray->ByteArray->Bool):List Qry->List (List Int)
 | []=>[]
 | q::r=>q.ev d mt::Qry.evL d mt r
end
def kidsN(op:Int):Nat:=if op=0 then 0 else if op=3 then 1 else 2
mutual
def Qry.ok(pk:ByteArray->Bool):Qry->Bool
 | .mk op role txt kids=>decide (0<=op)&&decide (op<=6)&&decide (kids.length=kidsN op)&&(if op=0\/op=3 then decide (1<=role)&&decide (role<=5)else true)&&(if op=0 then pk txt else true)&&Qry.okL pk kids
def Qry.okL(pk:ByteArray->Bool):List Qry->Bool
 | []=>true
 | q::r=>q.ok pk&&Qry.okL pk r
end
theorem qh5{pk:ByteArray->Bool}: ∀{l:List Qry},Qry.okL pk l=true->∀q∈l,q.ok pk=true
 | a::l,h,q,hq=>by
  rw[Qry.okL,wu]at h
  rcases ws.1 hq with rfl|hq
  ·exact h.1
  ·exact qh5 h.2 q hq
theorem inL_mem{a:List Int}{x:Int}:inL a x=true↔x∈a:=by
 unfold inL;rw[yo]
 constructor
 ·rintro⟨y,h1,h2⟩
  have:y=x:=by simpa using h2
  subst this;exact h1
 ·exact fun h=>⟨x,h,by simp⟩
namespace WfD
variable {d : Dcm} (W : WfD d)
include W
theorem ids_up:d.ids.Pairwise (· < ·):=by
 unfold Dcm.ids;rw[List.pairwise_map];exact W.up
theorem notesI_up(a:List Int):(qI d a).Pairwise (· < ·):=List.Pairwise.filter _ W.ids_up
omit W in
theorem notesI_mem{a:List Int}{x:Int}:x∈qI d a↔x∈d.ids/\x∈a:=by
 unfold qI;rw[wQ,inL_mem]
omit W in
theorem ids_mem{x:Int}:x∈d.ids↔∃n∈d.notes,n.id=x:=wI
omit W in
theorem notesI_len(a:List Int):(qI d a).length<=d.notes.length:=by
 have:=wC (inL a) d.ids
 unfold qI;unfold Dcm.ids at *;simpa using this
theorem notesI_eq{a l:List Int}(hl:l.Pairwise (· < ·))(hm: ∀x,x∈l↔x∈d.ids/\x∈a):l=qI d a:=
 qjE hl (W.notesI_up a) fun x=>(hm x).trans notesI_mem.symm
theorem role_up(role:Int):(QA d role).Pairwise (· < ·):=by
 unfold QA;rw[List.pairwise_map];exact List.Pairwise.filter _ W.up
theorem text_up(mt:ByteArray->Bool)(role:Int):(txtE d mt role).Pairwise (· < ·):=by
 unfold txtE;rw[List.pairwise_map];exact List.Pairwise.filter _ W.up
omit W in
theorem role_mem{role x:Int}:x∈QA d role↔∃n∈d.notes,zU d.tiers n=role/\n.id=x:=by
 unfold QA;simp[wI,wQ,and_assoc]
omit W in
theorem text_mem{mt:ByteArray->Bool}{role x:Int}:x∈txtE d mt role↔∃n∈d.notes,zU d.tiers n=role/\mt n.txt=true/\n.id=x:=by
 unfold txtE;simp[wI,wQ,and_assoc]
end WfD
def idsP(l:List Pst)(wanted:ByteArray->Bool)(role:Int):List Int:=usort ((l.filter fun p=>p.role==role&&wanted p.txt).flatMap (·.ids))
theorem qnX{d:Dcm}(W:WfD d){l:List Pst}(h:IxOk l (TriN d.tiers d.notes))(wanted:ByteArray->Bool){role:Int}(h1:1<=role)(h5:role<=5):idsP l wanted role=txtE d wanted role:=by
 unfold idsP
 refine qaC (W.text_up _ _) fun x=>?_
 rw[WfD.text_mem,jm]
 constructor
 ·rintro⟨n,hn,hr,hm,rfl⟩
  obtain⟨p,hp,k1,k2,k3⟩:=(h.mem (zU d.tiers n) n.txt n.id).2 ⟨n,hn,by omega,by omega,rfl,rfl,rfl⟩
  refine⟨p,wQ.2 ⟨hp,?_⟩,k3⟩
  rw[k1,k2,hr,hm];simp
 ·rintro⟨p,hp,hx⟩
  obtain⟨hp,hq⟩:=wQ.1 hp
  rw[wu]at hq
  have hr:p.role=role:=by simpa using hq.1
  obtain⟨n,hn,_,_,e1,e2,e3⟩:=(h.mem p.role p.txt x).1 ⟨p,hp,rfl,rfl,hx⟩
  exact⟨n,hn,e1.symm.trans hr,by rw[<-e2];exact hq.2,e3.symm⟩
theorem qmb(d:Dcm)(role:Int):txtE d (fun _=>true) role=QA d role:=by simp[txtE,QA]
def qeS(ts:List Tir)(role:Int):Int:=idxF (fun t=>decide (role≠0)&&(t.role==role)) ts
theorem qd8{ts:List Tir}(hu:qdH ts){role:Int}(h1:1<=role){d:Dcm}(W:WfD d)(ht:d.tiers=ts){n:Nte}(hn:n∈d.notes):n.tier=qeS ts role↔zU ts n=role:=by
 obtain⟨h0,hlt,t,htt⟩:=W.tier hn
 rw[ht]at htt hlt
 have hrn:zU ts n=t.role:=by unfold zU QL;rw[if_pos h0,htt]
 rw[hrn]
 have hr0:role≠0:=by omega
 unfold qeS idxF
 by_cases ha:ts.any (fun t=>decide (role≠0)&&(t.role==role))=true
 ·rw[if_pos ha]
  have hf:=List.findIdx_lt_length_of_exists (yo.1 ha)
  have hq:=List.findIdx_getElem (w:=hf)
  simp only[ne_eq,hr0,not_false_eq_true,decide_true,yy]at hq hf ⊢
  have hq':ts[ts.findIdx fun t=>t.role==role].role=role:=by simpa using hq
  constructor
  ·intro e
   have:n.tier.toNat=ts.findIdx fun t=>t.role==role:=by omega
   rw[this,wc hf]at htt
   injection htt with htt
   rw[<-htt];exact hq'
  ·intro e
   have:=hu _ _ t _ htt (wc hf) (e.trans hq'.symm) (by omega)
   omega
 ·rw[if_neg ha]
  constructor
  ·intro e;omega
  ·intro e
   exfalso
   apply ha
   rw[yo]
   exact⟨t,wl htt,by simp[hr0,e]⟩
theorem qpD{d:Dcm}(W:WfD d)(hu:qdH d.tiers){role:Int}(h1:1<=role):usort (d.of (qeS d.tiers role))=QA d role:=by
 refine qaC (W.role_up _) fun x=>?_
 rw[WfD.role_mem]
 unfold Dcm.of
 rw[wI]
 constructor
 ·rintro⟨n,hn,hr,rfl⟩
  exact⟨n,W.ofN_mem.2 ⟨hn,(qd8 hu h1 W rfl hn).2 hr⟩,rfl⟩
 ·rintro⟨n,hn,rfl⟩
  obtain⟨h2,h3⟩:=W.ofN_mem.1 hn
  exact⟨n,h2,(qd8 hu h1 W rfl h2).1 h3,rfl⟩
theorem qpf{d:Dcm}(W:WfD d)(mt:ByteArray->Bool)(role:Int):(QA d role).filter (fun id=>mt (getN d.notes id).1.txt)=txtE d mt role:=by
 refine qjE (List.Pairwise.filter _ (W.role_up role)) (W.text_up _ _) fun x=>?_
 rw[wQ,WfD.role_mem,WfD.text_mem]
 constructor
 ·rintro⟨⟨n,hn,hr,rfl⟩,hm⟩
  rw[W.get hn]at hm
  exact⟨n,hn,hr,hm,rfl⟩
 ·rintro⟨n,hn,hr,hm,rfl⟩
  exact⟨⟨n,hn,hr,rfl⟩,by rw[W.get hn];exact hm⟩
theorem qiH{d:Dcm}(W:WfD d){k i:Int}(hk:k∈d.ids):(k !=i&&inL (d.chain k) i)=inL ((d.chain k).drop 1) i:=by
 obtain⟨n,hn,rfl⟩:=WfD.ids_mem.1 hk
 have e:d.chain n.id=n.id::(d.up n.par).map (·.id):=by unfold Dcm.chain;rw[W.up_cons hn];rfl
 have hnot:n.id∉(d.up n.par).map (·.id):=fun h=>by
  obtain⟨m,hm,he⟩:=wI.1 h
  have hmm:=W.up_mem _ m hm
  have:=W.inj hmm hn he
  subst this
  have:=W.above_lt (m.tier.toNat+1) m hn (by have:=(W.tier hn).1;omega) m hm
  omega
 rw[e,wj,ww,yH,wu,inL_mem,inL_mem,ws,bne_iff_ne]
 constructor
 ·rintro⟨h1,h2|h2⟩
  ·exact absurd h2.symm h1
  ·exact h2
 ·exact fun h=>⟨fun e=>hnot (e▸h),.inr h⟩
theorem uni_mem{a b:List Int}{x:Int}:x∈uniI a b↔x∈a\/x∈b:=by rw[uniI,(qi _).2,wo]
theorem min_mem{a b:List Int}{x:Int}:x∈minI a b↔x∈a/\x∉b:=by
 rw[minI,(qi _).2,wQ,<-inL_mem (a:=b)];simp
theorem bot_mem{a b:List Int}{x:Int}:x∈botI a b↔x∈a/\x∈b:=by
 rw[botI,(qi _).2,wQ,inL_mem]
theorem qlx{d:Dcm}(W:WfD d)(mt:ByteArray->ByteArray->Bool)(op role:Int)(txt:ByteArray){a b:List Int}(ha: ∀x∈a,x∈d.ids)(hb: ∀x∈b,x∈d.ids):
  (Zt d mt op role txt a b).Pairwise (· < ·)/\∀x∈Zt d mt op role txt a b,x∈d.ids:=by
 unfold Zt
 have hf: ∀(q:Int->Bool) (l:List Int),((qI d l).filter q).Pairwise (· < ·)/\∀x∈(qI d l).filter q,x∈d.ids:=fun q l=>
  ⟨List.Pairwise.filter _ (W.notesI_up l),fun x hx=>(WfD.notesI_mem.1 (wQ.1 hx).1).1⟩
 repeat' split
 ·exact⟨W.text_up _ _,fun x hx=>by obtain⟨n,hn,_,_,e⟩:=WfD.text_mem.1 hx;exact WfD.ids_mem.2 ⟨n,hn,e⟩⟩
 ·exact⟨(qi _).1,fun x hx=>ha x (bot_mem.1 hx).1⟩
 ·exact⟨(qi _).1,fun x hx=>(uni_mem.1 hx).elim (ha x) (hb x)⟩
 ·refine⟨(qi _).1,fun x hx=>?_⟩
  obtain⟨n,hn,_,e⟩:=WfD.role_mem.1 (min_mem.1 hx).1
  exact WfD.ids_mem.2 ⟨n,hn,e⟩
 ·exact hf _ _
 ·exact hf _ _
 ·exact hf _ _
mutual
theorem zW{d:Dcm}(W:WfD d)(mt:ByteArray->ByteArray->Bool): ∀q:Qry,(q.ev d mt).Pairwise (· < ·)/\∀x∈q.ev d mt,x∈d.ids
 | .mk op role txt kids=>by
  rw[Qry.ev]
  have h:=qg4 W mt kids
  refine qlx W mt op role txt (fun x hx=>?_) (fun x hx=>?_)
  ·cases he:(Qry.evL d mt kids)[0]? with
   | none=>simp[List.getD,he]at hx
   | some l=>simp[List.getD,he]at hx;exact h l (wl he) x hx
  ·cases he:(Qry.evL d mt kids)[1]? with
   | none=>simp[List.getD,he]at hx
   | some l=>simp[List.getD,he]at hx;exact h l (wl he) x hx
theorem qg4{d:Dcm}(W:WfD d)(mt:ByteArray->ByteArray->Bool): ∀l:List Qry,∀r∈Qry.evL d mt l,∀x∈r,x∈d.ids
 | []=>by intro r hr;simp[Qry.evL]at hr
 | q::l=>by
  intro r hr
  rw[Qry.evL]at hr
  rcases ws.1 hr with rfl|hr
  ·exact(zW W mt q).2
  ·exact qg4 W mt l r hr
end
theorem qgJ{d:Dcm}(W:WfD d){l:List Int}(h1:l.Pairwise (· < ·))(h2: ∀x∈l,x∈d.ids):l.length<=d.notes.length:=by
 rw[W.notesI_eq (a:=l) h1 fun x=>⟨fun h=>⟨h2 x h,h⟩,fun h=>h.2⟩]
 exact WfD.notesI_len _
theorem qaY{d:Dcm}(W:WfD d)(mt:ByteArray->ByteArray->Bool)(q:Qry):(q.ev d mt).length<=d.notes.length:=qgJ W (zW W mt q).1 (zW W mt q).2
theorem qqS(d:Dcm)(mt:ByteArray->ByteArray->Bool){op:Int}(role:Int)(txt:ByteArray)(b:List Int)(h0:op≠0)(h2:op≠2)(h3:op≠3):Zt d mt op role txt [] b= []:=by
 have hn:qI d []= []:=by simp[qI,inL]
 unfold Zt
 rw[if_neg h0,if_neg h2,if_neg h3]
 split
 ·simp[botI,QJ]
 ·unfold qhK qhF hasE;rw[hn];simp
structure Grp where
 id:Int
 name:ByteArray
 people:List Int
 subs:List Int
def Grp.enc(g:Grp):List C:=[li g.id,ls g.name,.sl 1 (ints g.people),.sl 1 (ints g.subs)]
def Grp.row(g:Grp):List T:=[.c (li g.id),.c (ls g.name),.c (.sl 1 (ints g.people)),.c (.sl 1 (ints g.subs))]
def noGrp:Grp:=⟨0,⟨#[]⟩,[],[]⟩
def qr(l:List Grp)(id:Int):Grp×Bool:=match l.find? (fun g=>g.id==id)with
 | some g=>(g,true)
 | none=>(noGrp,false)
inductive RG(l:List Grp)(id:Int):Int->Prop where
 | refl:RG l id id
 | step (x y:Int) (h:RG l id x) (hy:y∈(qr l x).1.subs):RG l id y
theorem qaS{l:List Grp}{x:Int}(h:(qr l x).2=false):(qr l x).1=noGrp:=by
 unfold qr at*
 split at h
 ·cases h
 ·rfl
def Qc(l:List Grp)(rec:Int->List Int->List Int)(met:List Int)(x:Int):List Int:=
 if(qr l x).2=true/\inL met x=false then rec x (met++[x])else met
def visG(l:List Grp):Nat->Int->List Int->List Int
 | 0,_,met=>met
 | f+1,id,met=>(qr l id).1.subs.foldl (Qc l (visG l f)) met
def vZ(l:List Grp)(met:List Int):Nat:=l.countP fun g=> !inL met g.id
theorem inL_false{a:List Int}{x:Int}:inL a x=false↔x∉a:=by
 rw[<-inL_mem (a:=a) (x:=x)];simp
theorem qlo{l:List Grp}{a b:List Int}(h: ∀x∈a,x∈b):vZ l b<=vZ l a:=by
 unfold vZ
 refine List.countP_mono_left fun g _ hg=>?_
 simp only[yI]at*
 rw[inL_false]at*
 exact fun e=>hg (h _ e)
theorem qfn{l:List Grp}{x:Int}(h:(qr l x).2=true): ∃g∈l,g.id=x:=by
 unfold qr at h
 split at h
 ·rename_i g hg
  exact⟨g,List.mem_of_find?_eq_some hg,by simpa using List.find?_some hg⟩
 ·cases h
theorem qa2{α:Type}{p q:α->Bool}: ∀{l:List α},(∀x∈l,p x=true->q x=true)->(∃x∈l,q x=true/\p x=false)->l.countP p<l.countP q
 | [],_,h=>by obtain⟨x,hx,_⟩:=h;cases hx
 | a::l,h,he=>by
  have hm:l.countP p<=l.countP q:=List.countP_mono_left fun x hx=>h x (by simp[hx])
  obtain⟨x,hx,h1,h2⟩:=he
  rw[List.countP_cons,List.countP_cons]
  rcases ws.1 hx with rfl|hx
  ·rw[h1,h2];simp;omega
  ·have:=qa2 (fun x hx=>h x (by simp[hx])) ⟨x,hx,h1,h2⟩
   have ha:=h a (by simp)
   cases hp:p a
   ·simp;split<;>omega
   ·rw[ha hp];simp;omega
theorem qfp{l:List Grp}{met:List Int}{x:Int}(h:(qr l x).2=true)(hx:x∉met):vZ l (met++[x])<vZ l met:=by
 obtain⟨g,hg,e⟩:=qfn h
 unfold vZ
 refine qa2 (fun y _ hy=>?_) ⟨g,hg,?_,?_⟩
 ·simp only[yI]at*
  rw[inL_false]at*
  exact fun e=>hy (by simp[e])
 ·simp only[yI];rw[inL_false,e];exact hx
 ·simp[inL,e]
structure Vis(l:List Grp)(id:Int)(met out:List Int):Prop where
 sub: ∀x∈met,x∈out
 snd: ∀x∈out,x∈met\/((qr l x).2=true/\RG l id x)
 cls: ∀x∈out,x∉met->∀y∈(qr l x).1.subs,(qr l y).2=true->y∈out
theorem RG.trans{l:List Grp}{a b c:Int}(h1:RG l a b)(h2:RG l b c):RG l a c:=by
 induction h2 with
 | refl=>exact h1
 | step x y _ hy ih=>exact .step x y ih hy
theorem visG_ok(l:List Grp): ∀(f:Nat) (id:Int) (met:List Int),vZ l met<f->Vis l id met (visG l f id met)/\∀y∈(qr l id).1.subs,(qr l y).2=true->y∈visG l f id met:=by
 intro f
 induction f with
 | zero=>intro id met h;omega
 | succ f ih=>
  intro id met h
  have fold: ∀(xs:List Int) (m:List Int),(∀x∈xs,x∈(qr l id).1.subs)->vZ l m<=f->Vis l id m (xs.foldl (Qc l (visG l f)) m)/\∀y∈xs,(qr l y).2=true->y∈xs.foldl (Qc l (visG l f)) m:=by
   intro xs
   induction xs with
   | nil=>exact fun m _ _=>⟨⟨fun x h=>h,fun x h=>.inl h,fun x h1 h2=>absurd h1 h2⟩,fun y hy=>by cases hy⟩
   | cons x xs ihx=>
    intro m hx hm
    rw[w6]
    have hxs:=hx x (by simp)
    have one:Vis l id m (Qc l (visG l f) m x)/\((qr l x).2=true->x∈Qc l (visG l f) m x)/\vZ l (Qc l (visG l f) m x)<=f:=by
     unfold Qc
     split
     ·rename_i hc
      rw[inL_false]at hc
      have hlt:=qfp hc.1 hc.2
      obtain⟨v,vs⟩:=ih x (m++[x]) (by omega)
      have hR:RG l id x:=.step id x .refl hxs
      refine⟨⟨fun y hy=>v.sub y (by simp[hy]),fun y hy=>?_,fun y hy hn z hz hf=>?_⟩,fun _=>v.sub x (by simp),?_⟩
      ·rcases v.snd y hy with h|⟨h1,h2⟩
       ·rcases wo.1 h with h|h
        ·exact .inl h
        ·simp at h;subst h;exact .inr ⟨hc.1,hR⟩
       ·exact .inr ⟨h1,hR.trans h2⟩
      ·by_cases he:y=x
       ·subst he;exact vs z hz hf
       ·exact v.cls y hy (by simp[hn,he]) z hz hf
      ·have:=qlo (l:=l) v.sub;omega
     ·rename_i hc
      refine⟨⟨fun x h=>h,fun x h=>.inl h,fun x h1 h2=>absurd h1 h2⟩,fun hg=>?_,hm⟩
      refine Classical.byContradiction fun hn=>hc ⟨hg,inL_false.2 hn⟩
    obtain⟨v1,m1,f1⟩:=one
    obtain⟨v2,m2⟩:=ihx (Qc l (visG l f) m x) (fun y hy=>hx y (by simp[hy])) f1
    refine⟨⟨fun y hy=>v2.sub y (v1.sub y hy),fun y hy=>?_,fun y hy hn z hz hf=>?_⟩,fun y hy hf=>?_⟩
    ·rcases v2.snd y hy with h|h
     ·exact v1.snd y h
     ·exact .inr h
    ·by_cases hy1:y∈Qc l (visG l f) m x
     ·exact v2.sub z (v1.cls y hy1 hn z hz hf)
     ·exact v2.cls y hy hy1 z hz hf
    ·rcases ws.1 hy with rfl|hy
     ·exact v2.sub _ (m1 hf)
     ·exact m2 y hy hf
  exact fold _ met (fun x h=>h) (by omega)
def Q0(l:List Grp)(id:Int):List Int:=usort (visG l (l.length+1) id [])
def vy(l:List Grp)(id:Int):List Int:=usort ((id::Q0 l id).flatMap fun x=>(qr l x).1.people)
theorem qlE(l:List Grp)(id p:Int):p∈vy l id↔∃x,RG l id x/\p∈(qr l x).1.people:=by
 have hf:vZ l []<l.length+1:=by
  have:vZ l []<=l.length:=List.countP_le_length
  omega
 obtain⟨v,vs⟩:=visG_ok l (l.length+1) id [] hf
 unfold vy
 rw[(qi _).2,jm]
 have hb: ∀x,x∈Q0 l id↔x∈visG l (l.length+1) id []:=fun x=>(qi _).2 x
 constructor
 ·rintro⟨x,hx,hp⟩
  rcases ws.1 hx with rfl|hx
  ·exact⟨_,.refl,hp⟩
  ·rcases v.snd x ((hb x).1 hx)with h|h
   ·cases h
   ·exact⟨x,h.2,hp⟩
 ·rintro⟨x,hx,hp⟩
  have key: ∀x,RG l id x->x=id\/(qr l x).2=false\/x∈visG l (l.length+1) id []:=by
   intro x hx
   induction hx with
   | refl=>exact .inl rfl
   | step x y h hy ih=>
    cases hg:(qr l y).2
    ·exact .inr (.inl rfl)
    ·refine .inr (.inr ?_)
     rcases ih with rfl|ih|ih
     ·exact vs y hy hg
     ·rw[qaS ih]at hy;cases hy
     ·exact v.cls x ih (by simp) y hy hg
  rcases key x hx with rfl|h|h
  ·exact⟨_,by simp,hp⟩
  ·rw[qaS h]at hp;cases hp
  ·exact⟨x,yN _ ((hb x).2 h),hp⟩
def rndG(l:List Grp)(out:List Int):List Int:=usort (out++out.flatMap fun x=>(qr l x).1.subs)
def qge(l:List Grp):Nat->List Int->List Int
 | 0,out=>out
 | n+1,out=>qge l n (rndG l out)
def zN(l:List Grp)(id:Int):List Int:=qge l l.length (usort (qr l id).1.subs)
def vx(l:List Grp)(id:Int):List Int:=if(qr l id).2=false then []else usort ((putI (zN l id) id).flatMap fun x=>(qr l x).1.people)
theorem rndG_mem{l:List Grp}{out:List Int}{x:Int}:x∈rndG l out↔x∈out\/∃y∈out,x∈(qr l y).1.subs:=by
 unfold rndG;rw[(qi _).2,wo,jm]
def ClG(l:List Grp)(out:List Int):Prop:=∀x∈out,∀y∈(qr l x).1.subs,(qr l y).2=true->y∈out
theorem cl_rnd{l:List Grp}{out:List Int}(h:ClG l out):ClG l (rndG l out):=by
 intro x hx y hy hf
 rcases rndG_mem.1 hx with hx|⟨z,hz,hxz⟩
 ·exact rndG_mem.2 (.inl (h x hx y hy hf))
 ·cases hg:(qr l x).2
  ·rw[qaS hg]at hy;cases hy
  ·exact rndG_mem.2 (.inr ⟨x,h z hz x hxz hg,hy⟩)
theorem rnds_ok(l:List Grp)(id:Int): ∀(n:Nat) (out:List Int),(∀x∈out,RG l id x)->out.Pairwise (· < ·)->vZ l out<=n\/ClG l out->
  (∀x∈out,x∈qge l n out)/\(∀x∈qge l n out,RG l id x)/\ClG l (qge l n out)/\(qge l n out).Pairwise (· < ·):=by
 intro n
 induction n with
 | zero=>
  intro out hs hp h
  refine⟨fun x h=>h,hs,?_,hp⟩
  rcases h with h|h
  ·intro x hx y hy hf
   obtain⟨g,hg,e⟩:=qfn hf
   have:vZ l out=0:=by omega
   unfold vZ at this
   rw[List.countP_eq_zero]at this
   have:=this g hg
   simp only[yI,Bool.not_eq_false]at this
   rw[e]at this
   exact inL_mem.1 this
  ·exact h
 | succ n ih=>
  intro out hs hp h
  have hs': ∀x∈rndG l out,RG l id x:=fun x hx=>by
   rcases rndG_mem.1 hx with hx|⟨y,hy,hxy⟩
   ·exact hs x hx
   ·exact .step y x (hs y hy) hxy
  have hsub: ∀x∈out,x∈rndG l out:=fun x hx=>rndG_mem.2 (.inl hx)
  obtain⟨h1,h2,h3,h4⟩:=ih (rndG l out) hs' (qi _).1 (by
   by_cases hc:ClG l out
   ·exact .inr (cl_rnd hc)
   ·left
    rcases h with h|h
    ·have: ∃x∈out,∃y∈(qr l x).1.subs,(qr l y).2=true/\y∉out:=by
      refine Classical.byContradiction fun hn=>hc fun x hx y hy hf=>Classical.byContradiction fun hny=>hn ⟨x,hx,y,hy,hf,hny⟩
     obtain⟨x,hx,y,hy,hf,hny⟩:=this
     obtain⟨g,hg,e⟩:=qfn hf
     have hlt:vZ l (rndG l out)<vZ l out:=by
      unfold vZ
      refine qa2 (fun z _ hz=>?_) ⟨g,hg,?_,?_⟩
      ·simp only[yI]at*
       rw[inL_false]at*
       exact fun e=>hz (hsub _ e)
      ·simp only[yI];rw[inL_false,e];exact hny
      ·simp only[Bool.not_eq_false'];rw[inL_mem,e];exact rndG_mem.2 (.inr ⟨x,hx,hy⟩)
     omega
    ·exact absurd h hc)
  exact⟨fun x hx=>h1 x (hsub x hx),h2,h3,h4⟩
theorem qgz(l:List Grp)(id p:Int):p∈vx l id↔∃x,RG l id x/\p∈(qr l x).1.people:=by
 have hf:vZ l (usort (qr l id).1.subs)<=l.length:=List.countP_le_length
 obtain⟨h1,h2,h3,h4⟩:=rnds_ok l id l.length (usort (qr l id).1.subs) (fun x hx=>.step id x .refl ((qi _).2 x |>.1 hx)) (qi _).1 (.inl hf)
 unfold vx
 cases hg:(qr l id).2
 ·rw[if_pos rfl]
  constructor
  ·intro h;cases h
  ·rintro⟨x,hx,hp⟩
   have:x=id:=by
    induction hx with
    | refl=>rfl
    | step x y h hy ih=>
     by_cases he:x=id
     ·rw[he,qaS hg]at hy;cases hy
     ·cases hgx:(qr l x).2
      ·rw[qaS hgx]at hy;cases hy
      ·have key: ∀z,RG l id z->z=id:=by
        intro z hz
        induction hz with
        | refl=>rfl
        | step a b _ hb ih=>rw[ih,qaS hg]at hb;cases hb
       exact absurd (key x h) he
   rw[this,qaS hg]at hp;cases hp
 ·rw[if_neg (by decide),(qi _).2,jm]
  have qgN: ∀x,x∈putI (zN l id) id↔x∈zN l id\/x=id:=(QO id h4).2
  constructor
  ·rintro⟨x,hx,hp⟩
   rcases(qgN x).1 hx with hx|rfl
   ·exact⟨x,h2 x hx,hp⟩
   ·exact⟨_,.refl,hp⟩
  ·rintro⟨x,hx,hp⟩
   refine⟨x,(qgN x).2 ?_,hp⟩
   have key: ∀x,RG l id x->x=id\/(qr l x).2=false\/x∈zN l id:=by
    intro x hx
    induction hx with
    | refl=>exact .inl rfl
    | step x y h hy ih=>
     cases hg:(qr l y).2
     ·exact .inr (.inl rfl)
     ·refine .inr (.inr ?_)
      rcases ih with rfl|ih|ih
      ·exact h1 y ((qi _).2 y |>.2 hy)
      ·rw[qaS ih]at hy;cases hy
      ·exact h3 x ih y hy hg
   rcases key x hx with h|h|h
   ·exact .inr h
   ·rw[qaS h]at hp;cases hp
   ·exact .inl h
theorem qk6(l:List Grp)(id:Int):inL (vy l id)=inL (vx l id):=by
 funext p
 rw[yH,inL_mem,inL_mem,qlE,qgz]
end Go.Proofs.YtaaodllggdjhiaaGreatDoor
namespace Go.Proofs.YtaaodllggdjhiaaGreatDoor
open Go.Dl
attribute [local irreducible] DW DCalls ECalls wk IW
structure Cons where
 person:Int
 rcd:Int
 day:Int
 kind:Int
deriving DecidableEq
def Cons.enc(c:Cons):List C:=[li c.person,li c.rcd,li c.day,li c.kind]
def cRow(c:Cons):List T:=[.c (li c.person),.c (li c.rcd),.c (li c.day),.c (li c.kind)]
def qhu(l:List Cons):List (List D):=(List.range l.length).map fun(k:Nat)=>[dv (li ((l.length:Int) - 1 - (k:Int))),.agg (cRow (l.getD (l.length - 1 - k) ⟨0,0,0,0⟩))]
theorem qiO(xs:List Cons)(hl:xs.length<=maxLen):SeqD pP 211 [dv (.pt [.sl 4 (xs.map Cons.enc)])] (qhu xs):=by
 refine ZM (by kernel_rfl) Tryz.func211 rfl rfl (by simp) (by have:=qL;simp;omega) ?_
 intro n l J hJ hY
 have qK:=kmax
 have h64: ∀z:Int,-1<=z->z<=maxLen->IntKind.wrap .i64 z=z:=fun z h1 h2=>wrap_i64 (by omega) (by omega)
 have hN:(qhu xs).length=xs.length:=by simp[qhu]
 refine zf (zD hJ ?_)
 have hw0:=h64 ((xs.length:Int) - 1) (by omega) (by omega)
 repeat first|apply kA|apply kB|(first|refine kcc ?_|apply kD|apply kE);simp +decide only[go_sem,hw0]
 refine Qt ?_
 refine qii (fun k:Nat=>kn 19 [(0,dv (.lit (.func (.yield l) #[] #[]))),(1,dv (.pt [.sl 4 (xs.map Cons.enc)])),(3,dv (li ((xs.length:Int) - 1 - k)))] qc) (fun k=>some k) (fun k=>k<=xs.length) (fun k=>xs.length - k) 0 (Zg rfl (by simp +decide only[go_sem,Int.sub_zero,Int.natCast_zero])) rfl (by omega) ?_
 intro k hk
 refine zf ?_
 refine zf (zD hJ ?_)
 repeat first|apply kA|apply kB|(first|refine kcc ?_|apply kD|apply kE);simp +decide only[go_sem]
 refine zx (by simp +decide only[go_sem];rfl) ?_ ?_
 ·intro hc
  have hk':k<xs.length:=by simp at hc;omega
  refine ZG ?_
  simp +decide only[go_sem]
  have hi:xs.length - 1 - k<xs.length:=by omega
  have hx:xs[xs.length - 1 - k]? =some xs[xs.length - 1 - k]:=wc hi
  have hz:(xs.length:Int) - 1 - k=((xs.length - 1 - k:Nat):Int):=by omega
  refine zf ?_
  refine Qt ?_
  refine zf ?_
  refine qaO hJ hY 6 rfl (by kernel_rfl) ?_
  simp only[wm,wg,wj,ww,wt,wn]
  have hb:(qhu xs)[k]? =some [dv (li ((xs.length - 1 - k:Nat):Int)),.agg (cRow xs[xs.length - 1 - k])]:=by
   simp[qhu,hk',<-hz,hi]
  simp +decide only[go_sem,hz,hx,Cons.enc]
  refine⟨true,rfl,fun h=>(by cases h),fun _=>⟨_,_,_,k,_,rfl,by simp +decide only[go_sem],rfl,hb,DLeL.of_eq (by simp +decide only[go_sem,cRow]),fun b=>?_⟩⟩
  simp +decide only[go_sem]
  cases b
  ·refine zx (by simp +decide only[go_sem];rfl) (fun _=>qjH ?_) (fun h=>by cases h)
   simp +decide only[go_sem]
   exact .inr rfl
  ·refine zx (by simp +decide only[go_sem];rfl) (fun h=>by cases h) (fun _=>ZG ?_)
   simp +decide only[go_sem]
   refine zD hJ ?_
   have hw:=h64 (((xs.length - 1 - k:Nat):Int) - 1) (by omega) (by omega)
   have hz2:((xs.length - 1 - k:Nat):Int) - 1=(xs.length:Int) - 1 - ((k+1:Nat):Int):=by omega
   rw[hz2]at hw
   repeat first|apply kA|apply kB|(first|refine kcc ?_|apply kD|apply kE);simp +decide only[go_sem,hz2,hw]
   exact⟨k+1,by omega,by omega,Zg rfl (by simp +decide only[go_sem]),rfl⟩
 ·intro hc
  have hk':k=xs.length:=by simp at hc;omega
  refine qij ?_
  simp +decide only[go_sem]
  simp[qlb,hk',hN]
def fits(p r:Int)(c:Cons):Bool:=c.person==p&&(c.rcd==0||c.rcd==r)
theorem qlF(xs:List Cons):DCalls pP 193 [dv (.sl 4 (xs.map Cons.enc))]
  (dv (.fn 211 [.pt [.sl 4 (xs.map Cons.enc)]])):=by
 refine kd (N:=4) (rs:=[.tmp 2]) Tryz.func193 ?_
 repeat first|apply kA|apply kB|(first|refine kcc ?_|apply kD|apply kE);simp +decide only[go_sem]
 refine qav 1 [.sl 4 (xs.map Cons.enc)] (by simp) (by simp +decide only[go_sem]) ?_
 apply kF;simp +decide only[go_sem]
theorem given_D(xs:List Cons)(p r:Int):DCalls pP 169 [dv (.sl 4 (xs.map Cons.enc)),dv (li p),dv (li r)]
  (dv (.fn 192 [.pt [.sl 4 (xs.map Cons.enc)],.pt [li p],.pt [li r]])):=by
 refine kd (N:=8) (rs:=[.tmp 6]) Tryz.func169 ?_
 repeat first|apply kA|apply kB|(first|refine kcc ?_|apply kD|apply kE);simp +decide only[go_sem]
 refine qav 3 [.sl 4 (xs.map Cons.enc)] (by simp) (by simp +decide only[go_sem]) ?_
 refine qav 4 [li p] (by simp) (by simp +decide only[go_sem]) ?_
 refine qav 5 [li r] (by simp) (by simp +decide only[go_sem]) ?_
 apply kF;simp +decide only[go_sem]
def qgU(xs:List Cons)(p r:Int):List Cons:=xs.reverse.filter (fits p r)
theorem qlp{α:Type}{l:List α}{q:α->Bool}{k:Nat}{c:α}(h:l[k]? =some c)(hq:q c=true):(l.filter q)[((l.take k).filter q).length]? =some c:=by
  have h1:l=l.take k++c::l.drop (k+1):=by
    obtain⟨hk,rfl⟩:=wd.1 h
    rw[<-wL hk,wS]
  have h2:l.filter q=(l.take k).filter q++c::(l.drop (k+1)).filter q:=by
    have:=congrArg (List.filter q) h1
    rw[yG,jl,if_pos hq]at this
    exact this
  rw[h2,wG (wv _)];simp
theorem qir{α:Type}{l:List α}{q:α->Bool}{k:Nat}{c:α}(h:l[k]? =some c):((l.take (k+1)).filter q).length=((l.take k).filter q).length+if q c then 1 else 0:=by
  rw[qH h,yG,wA];simp[jl];split<;>rfl
theorem qht{xs:List Cons}{k:Nat}{ds:List D}(h:(qhu xs)[k]? =some ds): ∃c,xs.reverse[k]? =some c/\ds= [dv (li ((xs.length:Int) - 1 - (k:Int))),.agg (cRow c)]:=by
  simp only[qhu,wq,wy]at h
  obtain⟨j,h1,h2⟩:=h
  obtain⟨h1,rfl⟩:k<xs.length/\j=k:=by
    obtain⟨e1,e2⟩:=wd.1 h1
    simp at e1 e2
    exact⟨e1,e2.symm⟩
  refine⟨xs.getD (xs.length - 1 - j) ⟨0,0,0,0⟩,?_,h2.symm⟩
  rw[List.getElem?_reverse h1]
  simp[show xs.length - 1 - j<xs.length by omega]
theorem qqv(xs:List Cons)(p r:Int)(hl:xs.length<=maxLen):SeqD pP 192 [dv (.pt [.sl 4 (xs.map Cons.enc)]),dv (.pt [li p]),dv (.pt [li r])] ((qgU xs p r).map fun c=>[.agg (cRow c)]):=by
  refine ZM (by kernel_rfl) Tryz.func192 rfl rfl (by simp) (by have:=qL;simp;omega) ?_
  intro n l J hJ hY
  refine zf (qjI hJ ?_)
  repeat first|apply kA|apply kB|(first|refine kcc ?_|apply kD|apply kE);simp +decide only[go_sem]
  refine⟨_,DS.Sub.trans (qb8 4 [.lit (.func (.yield l) #[] #[])] (by simp) (by simp +decide only[go_sem])) (kL (N:=32) (sls:=[(1,dv (.pt [.sl 4 (xs.map Cons.enc)])),(2,dv (.pt [li p])),(3,dv (.pt [li r])),(4,dv (.pt [.lit (.func (.yield l) #[] #[])]))]) (bx:=qc) rfl (by simp +decide only[go_sem]) (by simp[qc])),?_⟩
  refine qnL (s':=kn 32 [(1,dv (.pt [.sl 4 (xs.map Cons.enc)])),(2,dv (.pt [li p])),(3,dv (.pt [li r])),(4,dv (.pt [.lit (.func (.yield l) #[] #[])]))] qc) (Zg rfl (by simp +decide only[go_sem])) ?_
  refine zf (zD hJ ?_)
  repeat first|apply kA|apply kB|(first|refine kcc ?_|apply kD|apply kE);simp +decide only[go_sem]
  (first|refine kx (qlF xs) ?_);simp +decide only[go_sem]
  repeat first|apply kA|apply kB|(first|refine kcc ?_|apply kD|apply kE);simp +decide only[go_sem]
  refine qnL (s':=kn 32 [(2,dv (.pt [li p])),(3,dv (.pt [li r])),(4,dv (.pt [.lit (.func (.yield l) #[] #[])])),(8,dv (.fn 211 [.pt [.sl 4 (xs.map Cons.enc)]]))] qc) (Zg rfl (by simp +decide only[go_sem])) ?_
  refine Qt ?_
  refine qgE (lo:=l) hJ hY (fun k=>some ((xs.reverse.take k).filter (fits p r)).length) (by simp +decide only[go_sem];exact⟨rfl,rfl⟩) (qiO xs hl) (by simp[kn]) (by intro ds h;obtain⟨k,hk⟩:=List.getElem?_of_mem h;obtain⟨c,_,rfl⟩:=qht hk;rfl) ?_ ?_
  · intro k ds hk rr n1 J1 hJ1 hY1
    obtain⟨c,hc,rfl⟩:=qht hk
    have hkl:k<xs.length:=by have:=(wd.1 hc).1;simpa using this
    refine qjI hJ1 ?_
    simp only[DS.rnd,wt,wn,List.zip_cons_cons,List.zip_nil_left,DS.puts]
    repeat first|apply kA|apply kB|(first|refine kcc ?_|apply kD|apply kE);simp +decide only[go_sem,cRow]
    refine⟨_,DS.Sub.trans (qb8 6 (Cons.enc c) (by simp[Cons.enc]) (by simp +decide only[go_sem,Cons.enc])) (kL (N:=32) (sls:=[(2,dv (.pt [li p])),(3,dv (.pt [li r])),(4,dv (.pt [.lit (.func (.yield l) #[] #[])])),(6,dv (.pt (Cons.enc c)))]) (bx:=qc) rfl (by simp +decide only[go_sem,Cons.enc]) (by simp[qc])),?_⟩
    simp +decide only[go_sem]
    intro n2 J2 hJ2 hY2
    refine qnL (s':=kn 32 [(2,dv (.pt [li p])),(3,dv (.pt [li r])),(4,dv (.pt [.lit (.func (.yield l) #[] #[])])),(6,dv (.pt (Cons.enc c)))] qc) (Zg rfl (by simp +decide only[go_sem])) ?_
    refine Qt ?_
    refine zf ?_
    refine qaO hJ2 hY2 18 rfl (by kernel_rfl) ?_
    simp only[wm,wg,wj,ww,wt,wn]
    have hG:=qir (q:=fits p r) hc
    have qby:fits p r c=true->((qgU xs p r).map fun c=>[D.agg [.c (li c.person),.c (li c.rcd),.c (li c.day),.c (li c.kind)]])[((xs.reverse.take k).filter (fits p r)).length]? =some [D.agg [.c (li c.person),.c (li c.rcd),.c (li c.day),.c (li c.kind)]]:=fun h=>by
      rw[wq,qgU,qlp hc h];rfl
    cases h1:c.person==p<;>cases h2:c.rcd==0<;>cases h3:c.rcd==r
    all_goals
      have hfit:fits p r c=(c.person==p&&(c.rcd==0||c.rcd==r)):=rfl
      simp only[h1,h2,h3,Bool.and_true,Bool.and_false,yy,jB,Bool.or_true,yf,Bool.true_or,jH]at hfit
      simp +decide only[go_sem,Cons.enc,h1,h2,h3]
      first
      | (have hf':fits p r c=true:=hfit
         refine⟨true,by simp +decide only[go_sem,vR],fun h=>(by cases h),fun _=>⟨_,_,_,_,_,rfl,by simp +decide only[go_sem],rfl,qby hf',DLeL.of_eq (by simp +decide only[go_sem]),fun b=>?_⟩⟩
         rw[hf']at hG
         simp +decide only[go_sem]
         cases b
         · refine zx (by simp +decide only[go_sem];rfl) (fun _=>qjH ?_) (fun h=>by cases h)
           simp +decide only[go_sem]
           simp[qjj,Zf,qlb]
         · refine zx (by simp +decide only[go_sem];rfl) (fun h=>by cases h) (fun _=>ZG ?_)
           simp +decide only[go_sem]
           simpa[qjj]using hG.symm)
      | (have hf':fits p r c=false:=hfit
         refine⟨false,by simp +decide only[go_sem,vR],fun _=>?_,fun h=>(by cases h)⟩
         rw[hf']at hG
         simp +decide only[go_sem]
         refine zx (by simp +decide only[go_sem];rfl) (fun h=>by cases h) (fun _=>ZG ?_)
         simp +decide only[go_sem]
         simpa[qjj]using hG.symm)
  · simp[Zf,qlb,qgU,qhu]
    rw[wO (by simp),List.filter_reverse,List.length_reverse]
def atK(xs:List Cons)(p r d:Int):Int:=(((qgU xs p r).find? fun c=>decide (c.day<=d)).map (·.kind)).getD 0
theorem at_D(xs:List Cons)(p r d:Int)(hl:xs.length<=maxLen):DCalls pP 134 [dv (.sl 4 (xs.map Cons.enc)),dv (li p),dv (li r),dv (li d)] (dv (li (atK xs p r d))):=by
 refine kd (N:=21) (rs:=[.cell 8 3]) Tryz.func134 ?_
 repeat first|apply kA|apply kB|(first|refine kcc ?_|apply kD|apply kE);simp +decide only[go_sem]
 (first|refine kx (given_D xs p r) ?_);simp +decide only[go_sem]
 repeat first|apply kA|apply kB|(first|refine kcc ?_|apply kD|apply kE);simp +decide only[go_sem]
 refine qav 7 [li d] (by simp) (by simp +decide only[go_sem]) ?_
 refine dw_rf 21 vY [8] (fun k (_:Unit)=>kn 21 [(7,dv (.pt [li d])),(8,.one (.bx 8 1 0 0))] (ml [(8,[[.c (li 0)]])])) (fun k _=>∀c∈(qgU xs p r).take k,decide (c.day<=d)=false) () (by simp) rfl rfl (by decide) (by simp +decide only[go_sem];exact⟨rfl,rfl⟩) (qqv xs p r hl) (kmm) (fun _ _=>rfl)
  (by intro ds h;obtain⟨c,_,rfl⟩:=wI.1 h;rfl) ?_ ?_
 ·intro k ds _ hk hi
  simp only[wq,wy]at hk
  obtain⟨c,hc,rfl⟩:=hk
  repeat first|apply kA|apply kB|(first|refine kcc ?_|apply kD|apply kE);simp +decide only[go_sem,cRow]
  apply kG;(simp +decide only[go_sem];rfl)
  ·intro h1
   repeat first|apply kA|apply kB|(first|refine kcc ?_|apply kD|apply kE);simp +decide only[go_sem]
   apply kF;simp +decide only[go_sem]
   simp[atK,qdj hc hi h1]
  ·intro h1
   apply kD
   simp +decide only[go_sem]
   exact⟨(),qv (qH hc) hi h1,kmm⟩
 ·intro _ hi
  rw[we,wh]at hi
  repeat first|apply kA|apply kB|(first|refine kcc ?_|apply kD|apply kE);simp +decide only[go_sem]
  apply kF;simp +decide only[go_sem]
  simp[atK,qdi hi]
structure Pers where
 id:Int
 name:ByteArray
 member:Bool
def Pers.enc(p:Pers):List C:=[li p.id,ls p.name,lb p.member]
def Pers.row(p:Pers):List T:=[.c (li p.id),.c (ls p.name),.c (lb p.member)]
def noPers:Pers:=⟨0,⟨#[]⟩,false⟩
def vH(l:List Pers)(id:Int):Pers×Bool:=
 match l.find? fun p=>p.id==id with
 | some p=>(p,true)
 | none=>(noPers,false)
theorem Qe(l:List Pers)(id:Int)(hl:l.length<=1000000):DCalls pP 95 [dv (.sl 3 (l.map Pers.enc)),dv (li id)] (.tup [.agg (vH l id).1.row,dv (lb (vH l id).2)]):=by
 have qK:=kmax
 refine kd (N:=25) (rs:=[.cell 4 110,.tmp 5]) Tryz.func95 ?_
 repeat first|apply kA|apply kB|(first|refine kcc ?_|apply kD|apply kE);simp +decide only[go_sem]
 refine qaZ l (fun k (_:Unit)=>kn 25 [(0,dv (.sl 3 (l.map Pers.enc))),(1,dv (li id)),(4,.one (.bx 4 3 0 0)),(8,dv (li l.length)),(9,dv (li k))] (ml [(4,[noPers.row])])) (fun k _=>∀p∈l.take k,(p.id==id)=false) () (by omega) (km (by simp +decide only[go_sem];rfl)) (by simp) ?_ ?_
 ·intro k p _ hp hk hm htk hlt hw hi
  repeat' first|(first|refine kcc ?_|apply kU|apply kF);simp +decide only[go_sem,hlt,hw,hp,Pers.enc]|apply kh<;>intro qa
  ·simp[vH,qdj hp hi qa,Pers.row]
  ·exact⟨(),qv htk hi qa,kmm⟩
 ·intro _ hlt hi
  rw[wh]at hi
  repeat' first|(first|refine kcc ?_|apply kU|apply kF);simp +decide only[go_sem,hlt]|apply kh<;>intro qa
  simp[vH,qdi hi,noPers,Pers.row]
theorem qm4(p:Pers)(id:Int):DCalls pP 195 [.agg p.row,dv (.pt [li id])] (dv (lb (p.id==id))):=by
 refine kd (N:=8) (rs:=[.tmp 3]) Tryz.func195 ?_
 repeat first|apply kA|apply kB|(first|refine kcc ?_|apply kD|apply kE);simp only[go_sem,Pers.row]
 apply kF;simp only[go_sem]
theorem qnW(l:List Pers)(id:Int)(hl:l.length<=1000000):DCalls pP 194 [dv (.sl 3 (l.map Pers.enc)),dv (.fn 195 [.pt [li id]])] (dv (li (idxF (fun p=>p.id==id) l))):=by
 have qK:=kmax
 refine kd (N:=19) (rs:=[.tmp 4]) Tryz.func194 ?_
 repeat first|apply kA|apply kB|(first|refine kcc ?_|apply kD|apply kE);simp only[go_sem]
 refine qaZ l (fun k (_:Unit)=>kn 19 [(0,dv (.sl 3 (l.map Pers.enc))),(1,dv (.fn 195 [.pt [li id]])),(7,dv (li l.length)),(8,dv (li k))] qc) (fun k _=>∀p∈l.take k,(p.id==id)=false) () (by omega) kl (by simp) ?_ ?_
 ·intro k p _ hp hk hm htk hlt hw hi
  have hc:=qm4 p id
  simp only[Pers.row]at hc
  repeat' first|(first|refine kcc ?_|refine kx hc ?_|apply kU|apply kF);simp only[go_sem,hlt,hw,hp,Pers.enc]|apply kh<;>intro qa
  ·rw[QE hp hi qa]
  ·exact⟨(),qv htk hi qa,kl⟩
 ·intro _ hlt hi
  rw[wh]at hi
  repeat' first|(first|refine kcc ?_|apply kU|apply kF);simp only[go_sem,hlt]|apply kh<;>intro qa
  rw[QC hi]
theorem qjt(l:List Pers)(id:Int)(hl:l.length<=1000000):DCalls pP 170 [dv (.sl 3 (l.map Pers.enc)),dv (li id)] (.tup [.agg (vH l id).1.row,dv (lb (vH l id).2)]):=by
 refine kd (N:=17) (rs:=[.cell 4 110,.tmp 5]) Tryz.func170 ?_
 repeat first|apply kA|apply kB|(first|refine kcc ?_|apply kD|apply kE);simp +decide only[go_sem]
 refine CallC.frz 3 [li id] (by simp) (by simp +decide only[go_sem]) ?_
 simp +decide only[go_sem]
 (first|refine kx (qnW l id hl) ?_);simp +decide only[go_sem]
 cases hf:l.find? (fun p=>p.id==id)with
 | none=>
  have hi: ∀y∈l,(y.id==id)=false:=by simpa using hf
  rw[QC hi]
  repeat' first|(first|refine kcc ?_|apply kU|apply kF);simp +decide only[go_sem]|apply kh<;>intro qa
  simp[vH,hf,Pers.row,noPers]
 | some p=>
  obtain⟨hq,us,vs,hl2,has⟩:=List.find?_eq_some_iff_append.1 hf
  have hp:l[us.length]? =some p:=by rw[hl2];simp
  have hi: ∀y∈l.take us.length,(y.id==id)=false:=by
   rw[hl2,List.take_left'];· intro y hy;simpa using has y hy
   ·rfl
  have hn:decide ((us.length:Int)<0)=false:=by simp
  rw[QE hp hi hq]
  repeat' first|(first|refine kcc ?_|apply kU|apply kF);simp +decide only[go_sem,hn,hp,Pers.enc]|apply kh<;>intro qa
  simp[vH,hf,Pers.row]
def hit(p r d:Int)(c:Cons):Bool:=fits p r c&&decide (c.day<=d)
def qbX(p r d:Int)(out:Int)(c:Cons):Int:=if hit p r d c then c.kind else out
def atR(xs:List Cons)(p r d:Int):Int:=xs.foldl (qbX p r d) 0
theorem atR_eq(xs:List Cons)(p r d:Int):atR xs p r d=atK xs p r d:=by
 have key: ∀(l:List Cons) (z:Int),l.foldl (qbX p r d) z=((l.reverse.find? (hit p r d)).map (·.kind)).getD z:=by
  intro l
  induction l with
  | nil=>intro z;rfl
  | cons c l ih=>
   intro z
   rw[w6,ih,List.reverse_cons,List.find?_append]
   cases hf:l.reverse.find? (hit p r d)with
   | none=>cases hc:hit p r d c<;>simp[qbX,hc]
   | some x=>simp
 have h2:(qgU xs p r).find? (fun c=>decide (c.day<=d))=xs.reverse.find? (hit p r d):=by
  rw[qgU,List.find?_filter]
  congr 1
  funext c
  simp[hit]
 rw[atR,key,atK,h2]
theorem rAt_D(xs:List Cons)(p r d:Int)(hl:xs.length<=1000000):DCalls pP 96 [dv (.sl 4 (xs.map Cons.enc)),dv (li p),dv (li r),dv (li d)] (dv (li (atK xs p r d))):=by
 have qK:=kmax
 rw[<-atR_eq]
 refine kd (N:=56) (rs:=[.tmp 8]) Tryz.func96 ?_
 repeat first|apply kA|apply kB|(first|refine kcc ?_|apply kD|apply kE);simp only[go_sem]
 refine qj xs (fun k=>kn 56 [(0,dv (.sl 4 (xs.map Cons.enc))),(1,dv (li p)),(2,dv (li r)),(3,dv (li d)),(9,dv (li ((xs.take k).foldl (qbX p r d) 0))),(10,dv (li k))] qc) (by omega) (kL rfl (by simp only[go_sem,w9]) (by simp[qc])) ?_ ?_
 ·intro k c hc hk hm htk hlt hw
  have hf:(xs.take (k+1)).foldl (qbX p r d) 0=qbX p r d ((xs.take k).foldl (qbX p r d) 0) c:=by rw[htk,yp];rfl
  cases h1:c.person==p<;>cases h2:c.rcd==0<;>cases h3:c.rcd==r<;>cases h4:decide (c.day<=d)<;>
  ((repeat'(first|((first|refine kcc ?_|apply kU|apply kF);simp only[go_sem,hlt,hw,hc,Cons.enc,h1,h2,h3,h4])|(apply kh<;>intro qa))))<;>
  exact kL rfl (by simp only[go_sem,hf,qbX,hit,fits,h1,h2,h3,h4]) (by simp[qc])
 ·intro hlt
  rw[wh]
  repeat' first|(first|refine kcc ?_|apply kU|apply kF);simp only[go_sem,hlt]|apply kh<;>intro qa
  rfl
def qab(ps:List Pers)(last:Int)(c:Cons):Int:=
 if(vH ps c.person).2=false then 9
 else if c.rcd<0\/1099511627776<c.rcd then 2
 else if c.day<1\/109573<c.day then 12
 else if c.kind<0\/2<c.kind then 14
 else if c.day<last then 10
 else 0
def ZI(ps:List Pers):Int->List Cons->Int
 | _,[]=>0
 | last,c::l=>if qab ps last c=0 then ZI ps c.day l else qab ps last c
def qhj(ps:List Pers)(l:List Cons):Int:=if 60<l.length then 11 else ZI ps 0 l
def zw(z:Int)(l:List Cons):Int:=(l.getLast?.map (·.day)).getD z
theorem ZH(ps:List Pers): ∀(l m:List Cons) (z:Int),ZI ps z (l++m)=if ZI ps z l=0 then ZI ps (zw z l) m else ZI ps z l
 | [],m,z=>by simp[ZI,zw]
 | c::l,m,z=>by
  have hl:zw z (c::l)=zw c.day l:=by cases l<;>simp[zw,List.getLast?_cons]
  by_cases h:qab ps z c=0
  ·have e1: ∀l,ZI ps z (c::l)=ZI ps c.day l:=fun l=>by simp[ZI,h]
   rw[wH,e1,e1,ZH ps l m c.day,hl]
  ·have e1: ∀l,ZI ps z (c::l)=qab ps z c:=fun l=>by simp[ZI,h]
   rw[wH,e1,e1,if_neg h]
end Go.Proofs.YtaaodllggdjhiaaGreatDoor
namespace Go.Proofs.YtaaodllggdjhiaaGreatDoor
abbrev kpm2:List (Nat×Go.Dl.Mode):=[(0,.light),(1,.light),(2,.light),(3,.light),(4,.light),(5,.light),(6,.light),(7,.light),(8,.light),(9,.light),(10,.light),(11,.light),(12,.light),(13,.light)]
abbrev kq2:Nat->List (Nat×Go.Dl.Mode):=fun n=>match n with|11=>kpm2|_=>[]
end Go.Proofs.YtaaodllggdjhiaaGreatDoor
namespace Go.Proofs.YtaaodllggdjhiaaGreatDoor
open Go.Dl
attribute [local irreducible] DW DCalls ECalls wk IW
theorem one_D(ps:List Pers)(xs:List Cons)(k:Nat)(c:Cons)(hc:xs[k]? =some c)(hp:ps.length<=1000000)(hl:xs.length<=1000000):
  DCalls pP 124 [dv (.sl 3 (ps.map Pers.enc)),dv (.sl 4 (xs.map Cons.enc)),dv (li k)] (dv (li (qab ps (zw 0 (xs.take k)) c))):=by
 have qK:=kmax
 have hk:k<xs.length:=(wd.1 hc).1
 refine kd (N:=65) (rs:=[.tmp 6]) Tryz.func124 ?_
 cases h0:decide ((0:Int)<(k:Int))
 ·have hk0:k=0:=by simp at h0;omega
  have hld:zw 0 (xs.take k)=0:=by simp[hk0,zw]
  rw[hld]
  repeat' first|(first|refine kcc ?_|refine kjj kq2 ?_|refine kx (Qe ps c.person hp) ?_|apply kU|apply kF);simp only[go_sem,hc,h0,Cons.enc,Pers.row]|apply kh<;>intro qa|((first|apply kH|apply kI)<;>(intro qa;simp only[go_sem,qa]))
  all_goals
   congr 3
   clear hc h0 hld
   unfold qab;(repeat' split)<;>first|rfl|(exfalso;simp only[decide_eq_true_eq,decide_eq_false_iff_not,yI,Bool.not_eq_false']at *;first|omega|simp_all)
 ·have hk0:0<k:=by simp at h0;omega
  have hkl:k - 1<xs.length:=by omega
  have hc1:xs[k - 1]? =some xs[k - 1]:=wc hkl
  have hw2:IntKind.wrap .i64 ((k:Int) - 1)=((k - 1:Nat):Int):=by rw[wrap_i64 (by omega) (by omega)];omega
  have hld:zw 0 (xs.take k)=xs[k - 1].day:=by
   obtain⟨m,rfl⟩: ∃m,k=m+1:=⟨k - 1,by omega⟩
   have hc2:xs[m]? =some xs[m]:=hc1
   rw[qH hc2,zw,List.getLast?_concat];rfl
  rw[hld]
  repeat' first|(first|refine kcc ?_|refine kjj kq2 ?_|refine kx (Qe ps c.person hp) ?_|apply kU|apply kF);simp only[go_sem,hc,h0,hw2,hc1,Cons.enc,Pers.row]|apply kh<;>intro qa|((first|apply kH|apply kI)<;>(intro qa;simp only[go_sem,qa]))
  all_goals
   congr 3
   clear hc h0 hld hw2 hc1
   unfold qab;(repeat' split)<;>first|rfl|(exfalso;simp only[decide_eq_true_eq,decide_eq_false_iff_not,yI,Bool.not_eq_false']at *;first|omega|simp_all)
theorem qpP(ps:List Pers)(xs:List Cons)(hp:ps.length<=1000000)(hl:xs.length<=1000000):DCalls pP 62 [dv (.sl 3 (ps.map Pers.enc)),dv (.sl 4 (xs.map Cons.enc))] (dv (li (qhj ps xs))):=by
 have qK:=kmax
 refine kd (N:=23) (rs:=[.tmp 4]) Tryz.func62 ?_
 repeat first|apply kA|apply kB|(first|refine kcc ?_|apply kD|apply kE);simp only[go_sem]
 apply kG;(simp only[go_sem];rfl)
 ·intro hc
  repeat first|apply kA|apply kB|(first|refine kcc ?_|apply kD|apply kE);simp only[go_sem]
  apply kF;simp only[go_sem]
  simp[qhj];simp at hc;omega
 ·intro hc
  have hk:qhj ps xs=ZI ps 0 xs:=by simp at hc;simp[qhj];omega
  rw[hk]
  repeat first|apply kA|apply kB|(first|refine kcc ?_|apply kD|apply kE);simp only[go_sem]
  refine qC xs (fun k=>kn 23 [(0,dv (.sl 3 (ps.map Pers.enc))),(1,dv (.sl 4 (xs.map Cons.enc))),(5,dv (li k))] qc) (fun k=>ZI ps 0 (xs.take k)=0) (by omega) kl rfl ?_ ?_
  ·intro k c hc hk hm htk hlt hw hi
   have hnext:ZI ps 0 (xs.take (k+1))=qab ps (zw 0 (xs.take k)) c:=by
    rw[htk,ZH,if_pos hi];simp only[ZI];split<;>simp_all
   have Zr:qab ps (zw 0 (xs.take k)) c≠0->ZI ps 0 xs=qab ps (zw 0 (xs.take k)) c:=fun h=>by
    rw[<-hnext]at h ⊢
    rw[<-wS (k+1) xs,ZH,if_neg (by simpa using h)];simp
   repeat' first|(first|refine kcc ?_|refine kx (one_D ps xs k c hc hp hl) ?_|apply kU|apply kF);simp only[go_sem,hlt,hw]|apply kh<;>intro qa
   ·rw[Zr (by simpa using qa)]
   ·exact⟨hnext.trans (by simpa using qa),kl⟩
  ·intro hlt hi
   rw[wh]at hi
   repeat' first|(first|refine kcc ?_|apply kU|apply kF);simp only[go_sem,hlt]|apply kh<;>intro qa
   rw[hi]
end Go.Proofs.YtaaodllggdjhiaaGreatDoor
namespace Go.Proofs.YtaaodllggdjhiaaGreatDoor
open Go.Dl S
structure Rle where
 rcd:Int
 fr:Int
 tg:Int
 lvl:Int
 grps:List Int
 til:Int
def Rle.enc(r:Rle):List C:=[li r.rcd,li r.fr,li r.tg,li r.lvl,.sl 1 (ints r.grps),li r.til]
def Rle.row(r:Rle):List T:=[.c (li r.rcd),.c (li r.fr),.c (li r.tg),.c (li r.lvl),.c (.sl 1 (ints r.grps)),.c (li r.til)]
def Rle.span(r:Rle):Spn:=⟨r.fr,r.tg⟩
def Rle.zero(r:Rle):Bool:=decide (r.fr=0)&&decide (r.tg=0)
def spG(ok:Bool)(l:List Rle)(len:Int):List Spn:=if(ok&& !l.any Rle.zero)=true then qeh [⟨0,len⟩] (l.map Rle.span)else []
def spR(ok:Bool)(l:List Rle)(len:Int):List Spn:=if(ok&& !l.any Rle.zero)=true then l.foldl (fun out r=>Qs out [r.span]) [⟨0,len⟩]else []
theorem qpn(ok:Bool)(l:List Rle)(len:Int)(t:Int):qG (spG ok l len) t↔qG (spR ok l len) t:=by
 have key: ∀(l:List Rle) (out:List Spn),qG (l.foldl (fun out r=>Qs out [r.span]) out) t↔qG out t/\¬qG (l.map Rle.span) t:=by
  intro l
  induction l with
  | nil=>intro out;simp[qQ]
  | cons r l ih=>
   intro out
   rw[w6,ih,(qgx out [r.span]).2,wt,times_one,qX,not_or,and_assoc]
 unfold spG spR
 split
 ·rw[qgy,key]
 ·exact Iff.rfl
def spcl(n:Int):Bool:=decide (n=42)||decide (n=63)||decide (n=92)
def tokL:List Int->Option (List Int)
 | []=>some []
 | a::r=>if a<32\/a=127 then none else if a=92 then(match r with| []=>none|b::r'=>if spcl b=true then(tokL r').map (b:: ·)else none)else(tokL r).map ((if a=42 then -1 else if a=63 then -2 else a):: ·)
def itmL:Bool->List Int->Option (List Int)
 | e,[]=>if e=true then none else some []
 | e,c::r=>if(e&& !spcl c)=true then none else if(e|| !spcl c)=true then(itmL false r).map (c:: ·)else if c=42 then(itmL false r).map (-1:: ·)else if c=63 then(itmL false r).map (-2:: ·)else itmL true r
theorem qhJ: ∀(n:Nat) (l t:List Int),l.length<=n->tokL l=some t->itmL false l=some t/\(∀x∈l,¬(x<32\/x=127))
 | _,[],t,_,h=>by rw[tokL]at h;injection h with h;subst h;exact⟨rfl,by simp⟩
 | 0,a::r,t,hn,_=>by simp at hn
 | n+1,a::r,t,hn,h=>by
  unfold tokL at h
  split at h
  ·cases h
  ·rename_i hc
   split at h
   ·rename_i h92
    subst h92
    split at h
    ·cases h
    ·rename_i b r'
     split at h
     ·rename_i hs
      cases ht:tokL r' with
      | none=>rw[ht]at h;cases h
      | some t'=>
       rw[ht]at h;injection h with h;subst h
       obtain⟨i1,i2⟩:=qhJ n r' t' (by simp at hn;omega) ht
       refine⟨?_,fun x hx=>?_⟩
       ·have e1:spcl 92=true:=by decide
        unfold itmL
        simp only[e1,jB,Bool.not_true,yf,w8,if_false]
        rw[if_neg (by decide),if_neg (by decide)]
        unfold itmL
        simp[hs,i1]
       ·rcases ws.1 hx with rfl|hx
        ·exact hc
        ·rcases ws.1 hx with rfl|hx
         ·unfold spcl at hs;simp at hs;omega
         ·exact i2 x hx
     ·cases h
   ·rename_i h92
    cases ht:tokL r with
    | none=>rw[ht]at h;cases h
    | some t'=>
     rw[ht]at h;injection h with h;subst h
     obtain⟨i1,i2⟩:=qhJ n r t' (by simp at hn;omega) ht
     refine⟨?_,fun x hx=>?_⟩
     ·unfold itmL
      simp only[jB,w8,if_false,jH]
      by_cases h42:a=42
      ·subst h42;simp[spcl,i1]
      ·by_cases h63:a=63
       ·subst h63;simp[spcl,i1]
       ·have:spcl a=false:=by simp[spcl,h42,h63,h92]
        simp[this,i1,h42,h63]
     ·rcases ws.1 hx with rfl|hx
      ·exact hc
      ·exact i2 x hx
def nxM(l:List Int)(tok:Int)(can:Nat->Bool):Nat->Bool
 | 0=>decide (tok= -1)&&can 0
 | i+1=>if tok= -1 then can (i+1)||nxM l tok can i else can i&&(decide (tok= -2)||l[i]? ==some tok)
def canM(l:List Int)(t:List Int):Nat->Bool:=t.foldl (fun can tok=>nxM l tok can) (fun i=>i==0)
def dpM(t l:List Int):Bool:=canM l t l.length
def ptsI(s:ByteArray):Option (List Int):=(ptsL s.data.toList).map fun l=>l.map fun n:Nat=>(n:Int)
def patT(p:ByteArray):Option (List Int):=if p.size=0\/p.size>64 then none else(ptsI p).bind tokL
def ql(p s:ByteArray):Bool:=match patT p,ptsI s with
 | some t,some l=>dpM t l
 | _,_=>false
theorem qhl(l t:List Int)(tok:Int):canM l (t++[tok])=nxM l tok (canM l t):=by unfold canM;rw[yp];rfl
theorem qju{p:ByteArray}{t:List Int}(h:patT p=some t):p.data.toList.any (fun b=>ctl b.toNat)=false/\∃l,ptsI p=some l/\itmL false l=some t/\0<p.size/\p.size<=64:=by
 unfold patT at h
 split at h
 ·cases h
 ·rename_i hs
  cases hp:ptsI p with
  | none=>rw[hp]at h;cases h
  | some l=>
   rw[hp]at h
   obtain⟨h1,h2⟩:=qhJ l.length l t (wv _) h
   refine⟨?_,l,rfl,h1,by omega,by omega⟩
   unfold ptsI at hp
   cases hq:ptsL p.data.toList with
   | none=>rw[hq]at hp;cases hp
   | some l0=>
    rw[hq]at hp;injection hp with hp;subst hp
    rw[<-qiz _ _ _ (wv _) hq]
    rw[List.any_eq_false]
    intro n hn
    have:=h2 (n:Int) (wI.2 ⟨n,hn,rfl⟩)
    unfold ctl
    simp;omega
end Go.Proofs.YtaaodllggdjhiaaGreatDoor
namespace Go.Proofs.YtaaodllggdjhiaaGreatDoor
open Go.Dl
def sibs(d:Dcm)(t p:Int):List Nte:=d.notes.filter fun n=>n.tier==t&&n.par==p
def ovl(l:List Nte):Prop:=∃(i k:Nat) (a b:Nte),k<i/\l[i]? =some a/\l[k]? =some b/\a.fr<b.tg/\b.fr<a.tg
def rnk(l:List Nte):Prop:=∀m:Nat,m<l.length->∃n∈l,n.rank=(m:Int)
structure PlcD(d:Dcm)(n:Nte)(t:Tir):Prop where
 root:t.kind=0->n.par=0
 par:t.kind≠0->(getN d.notes n.par).2=true/\(getN d.notes n.par).1.tier=t.par
 flat:algK t.kind=false->n.fr=0/\n.tg=0
 right:algK t.kind=true->n.fr<n.tg
 rank:n.rank≠0->t.kind=3
structure ChkD(d:Dcm):Prop where
 up:d.notes.Pairwise (fun a b=>a.id<b.id)
 pos: ∀n∈d.notes,1<=n.id
 tier: ∀(i:Nat) t,d.tiers[i]? =some t->(0<=t.kind/\t.kind<=4)/\(t.kind=0\/(0<=t.par/\t.par<i))/\∀(k:Nat) u,k<i->d.tiers[k]? =some u->t.role≠0->u.role≠t.role
 note: ∀n∈d.notes,∃t,QL d.tiers n.tier=some t/\PlcD d n t/\(algK t.kind=true->¬ovl (sibs d n.tier n.par))/\(t.kind=3->rnk (sibs d n.tier n.par))/\(t.kind=4->(sibs d n.tier n.par).length<=1)
theorem qhy: ∀(n:Nat) (r:List Int),r.length=n->(∀m:Nat,m<n->(m:Int)∈r)->r.Nodup/\∀x∈r,x<n
 | 0,r,h,_=>by rw[yh.1 h];simp
 | n+1,r,h,hm=>by
  have hn:=hm n (by omega)
  have hp:r.Perm ((n:Int)::r.erase n):=List.perm_cons_erase hn
  have hl:(r.erase (n:Int)).length=n:=by rw[List.length_erase_of_mem hn];omega
  obtain⟨i1,i2⟩:=qhy n (r.erase n) hl fun m hm'=>by
   have:=hm m (by omega)
   rcases ws.1 (hp.mem_iff.1 this)with h|h
   ·omega
   ·exact h
  refine⟨hp.nodup_iff.2 (jp.2 ⟨fun e=>by have:=i2 _ e;omega,i1⟩),fun x hx=>?_⟩
  rcases ws.1 (hp.mem_iff.1 hx)with h|h
  ·omega
  ·have:=i2 x h;omega
theorem qaK{α β:Type}{f:α->β}: ∀{l:List α},(l.map f).Nodup->∀{a b:α},a∈l->b∈l->f a=f b->a=b
 | x::l,h,a,b,ha,hb,e=>by
  rw[wt,jp]at h
  rcases ws.1 ha with ea|ha'
  ·rcases ws.1 hb with eb|hb'
   ·rw[ea,eb]
   ·exact absurd (wI.2 ⟨b,hb',by rw[<-e,ea]⟩) h.1
  ·rcases ws.1 hb with eb|hb'
   ·exact absurd (wI.2 ⟨a,ha',by rw[e,eb]⟩) h.1
   ·exact qaK h.2 ha' hb' e
theorem qlJ{k:Int}(h0:0<=k)(h4:k<=4):algK k=true\/(algK k=false/\(k=3\/k=4)):=by
 unfold algK
 rcases(by omega:k=0\/k=1\/k=2\/k=3\/k=4)with h|h|h|h|h<;>subst h<;>decide
theorem chk_wf{d:Dcm}(H:ChkD d):WfD d/\qdH d.tiers:=by
 have hsib: ∀a∈d.notes,∀b∈d.notes,a.tier=b.tier->a.par=b.par->a.fr=b.fr->a.rank=b.rank->a=b:=by
  intro a ha b hb ht hp hf hr
  obtain⟨t,h1,h2,h3,h4,h5⟩:=H.note a ha
  obtain⟨t',k1,k2,_⟩:=H.note b hb
  rw[<-ht,h1]at k1
  injection k1 with k1
  subst k1
  have am:a∈sibs d a.tier a.par:=wQ.2 ⟨ha,by simp⟩
  have bm:b∈sibs d a.tier a.par:=wQ.2 ⟨hb,by simp[ht,hp]⟩
  have hkind:0<=t.kind/\t.kind<=4:=by
   unfold QL at h1
   split at h1
   ·exact(H.tier _ _ h1).1
   ·cases h1
  rcases qlJ hkind.1 hkind.2 with hk|⟨hk,hk3|hk4⟩
  ·refine Classical.byContradiction fun hne=>h3 hk ?_
   obtain⟨i,hi,ei⟩:=List.getElem_of_mem am
   obtain⟨j,hj,ej⟩:=List.getElem_of_mem bm
   have ra:=h2.right hk
   have rb:=k2.right hk
   have gi:(sibs d a.tier a.par)[i]? =some a:=by rw[wc hi,ei]
   have gj:(sibs d a.tier a.par)[j]? =some b:=by rw[wc hj,ej]
   rcases Nat.lt_trichotomy i j with h|h|h
   ·exact⟨j,i,b,a,h,gj,gi,by omega,by omega⟩
   ·subst h;rw[gi]at gj;injection gj with gj;exact absurd gj hne
   ·exact⟨i,j,a,b,h,gi,gj,by omega,by omega⟩
  ·have hrk:=h4 hk3
   have:=(qhy _ ((sibs d a.tier a.par).map (·.rank)) (we ..) fun m hm=>by
    obtain⟨n,hn,e⟩:=hrk m hm
    exact wI.2 ⟨n,hn,e⟩).1
   exact qaK this am bm hr
  ·have hl:=h5 hk4
   cases hs:sibs d a.tier a.par with
   | nil=>rw[hs]at am;cases am
   | cons x r=>
    rw[hs]at am bm hl
    cases r with
    | nil=>simp at am bm;rw[am,bm]
    | cons y r=>simp at hl
 refine⟨⟨H.up,H.pos,fun i t h=>(H.tier i t h).2.1,fun n hn=>?_,hsib⟩,fun i j a b hi hj hr h0=>?_⟩
 ·obtain⟨t,h1,h2,_⟩:=H.note n hn
  refine⟨t,h1,?_,fun h=>?_,fun h=>(h2.flat h).1⟩
  ·by_cases hk:t.kind=0
   ·exact .inl ⟨hk,h2.root hk⟩
   ·right
    obtain⟨g1,g2⟩:=h2.par hk
    unfold getN at g1 g2
    split at g1
    ·rename_i p hp
     rw[hp]at g2
     obtain⟨f1,f2⟩:=zQ hp
     exact⟨hk,p,f1,f2,g2⟩
    ·cases g1
  ·refine Classical.byContradiction fun hr=>?_
   have:=h2.rank hr
   rw[this]at h
   revert h;decide
 ·rcases Nat.lt_trichotomy i j with h|h|h
  ·exact absurd hr ((H.tier j b hj).2.2 i a h hi (by rw[<-hr];exact h0))
  ·exact h
  ·exact absurd hr.symm ((H.tier i a hi).2.2 j b h hj h0)
end Go.Proofs.YtaaodllggdjhiaaGreatDoor
namespace Go.Proofs.YtaaodllggdjhiaaGreatDoor
open Go.Dl S
structure Rgt where
 people:List Pers
 groups:List Grp
 cons:List Cons
 rules:List Rle
def Rgt.row(a:Rgt):List T:=[.c (.sl 3 (a.people.map Pers.enc)),.c (.sl 4 (a.groups.map Grp.enc)),.c (.sl 4 (a.cons.map Cons.enc)),.c (.sl 6 (a.rules.map Rle.enc))]
def memE(ps:List Pers)(id:Int):Bool:=(vH ps id).2&&(vH ps id).1.member
def mayG(a:Rgt)(r:Rle)(p day:Int):Bool:=
 if day<r.til then false else if r.lvl=2 then r.grps.any (fun g=>inL (vy a.groups g) p)else if r.lvl=3 then false else if r.lvl=1 then memE a.people p else true
def mayR(a:Rgt)(r:Rle)(p day:Int):Bool:=
 if day<r.til then false else if r.lvl=0 then true else if r.lvl=1 then memE a.people p else if r.lvl=2 then r.grps.any (fun g=>inL (vx a.groups g) p)else false
theorem may_eq(a:Rgt){r:Rle}(h0:0<=r.lvl)(h3:r.lvl<=3)(p day:Int):mayG a r p day=mayR a r p day:=by
 unfold mayG mayR
 split
 ·rfl
 ·rcases(by omega:r.lvl=0\/r.lvl=1\/r.lvl=2\/r.lvl=3)with h|h|h|h<;>rw[h]<;>simp
  congr 1
  funext g
  rw[qk6]
def qbL(cs:List Cons)(mem:Bool)(rid day:Int):List Int->Int
 | []=>0
 | s::r=>if atK cs s rid day=0 then 26 else if atK cs s rid day=1/\mem=false then 25 else qbL cs mem rid day r
def qgP(a:Rgt)(rid p day:Int):List Rle:=a.rules.filter fun r=>decide (r.rcd=rid)&& !mayG a r p day
def qlj(a:Rgt)(rid p day:Int):List Rle:=a.rules.filter fun r=>decide (r.rcd=rid)&& !mayR a r p day
theorem hits_eq(a:Rgt)(h: ∀r∈a.rules,0<=r.lvl/\r.lvl<=3)(rid p day:Int):qgP a rid p day=qlj a rid p day:=by
 unfold qgP qlj
 refine List.filter_congr fun r hr=>?_
 rw[may_eq a (h r hr).1 (h r hr).2]
def Z7(a:Rgt)(r:Rcd)(p day:Int):List Spn:=spG (decide (qbL a.cons (memE a.people p) r.id day r.sp=0)) (qgP a r.id p day) r.len
def qbP(a:Rgt)(r:Rcd)(p day:Int):List Spn:=spR (decide (qbL a.cons (memE a.people p) r.id day r.sp=0)) (qlj a r.id p day) r.len
def Zx(d:Dcm)(sp:List Spn)(id:Int):Bool:=(d.wher id).2&&qbE sp (d.wher id).1
def qf9(d:Dcm)(sp:List Spn)(id:Int):Bool:=(d.wher id).2&&ZJ sp (d.wher id).1
theorem seen_eq(a:Rgt)(h: ∀r∈a.rules,0<=r.lvl/\r.lvl<=3)(d:Dcm)(p day:Int):Zx d (Z7 a d.rc p day)=qf9 d (qbP a d.rc p day):=by
 funext id
 unfold Zx qf9
 rw[qiB (a:=Z7 a d.rc p day) (b:=qbP a d.rc p day) fun t=>?_]
 unfold Z7 qbP
 rw[hits_eq a h]
 exact qpn _ _ _ t
end Go.Proofs.YtaaodllggdjhiaaGreatDoor
namespace Go.Proofs.YtaaodllggdjhiaaGreatDoor
open Go.Dl
open Go.RowKit Go.ChangeShapes Go.WideShapes Go.ChangeAt
mutual
def Qry.size:Qry->Nat
 | .mk _ _ txt kids=>1+(1+((txt.size+1)+(1+Qry.sizeL kids)))
def Qry.sizeL:List Qry->Nat
 | []=>0
 | q::r=>q.size+Qry.sizeL r
end
theorem qf5: ∀l:List Qry,Qry.sizeL l=(l.map Qry.size).sum
 | []=>rfl
 | q::r=>by rw[Qry.sizeL,qf5 r,wt,List.sum_cons]
theorem qft(q:Qry):q.enc.length=4:=by cases q;rw[Qry.enc];rfl
section
variable {P : Program} {H : Type} {enc : TypeId × Value -> H} {w : World} {sp : Nat -> Bool} {held : Bool}
structure QryAt(P:Program)(tq ti ts tl:TypeId):Prop where
 q: ∃fs f0 f1 f2 f3,P.underlying tq=some (.struct fs)/\fs= #[f0,f1,f2,f3]/\f0.type=ti/\f1.type=ti/\f2.type=ts/\f3.type=tl/\f0.offset=0/\f1.offset=1/\f2.offset=2/\f3.offset=3
 i:P.underlying ti=some (.int .i64)
 s:P.underlying ts=some .string
 l:P.underlying tl=some (.slice tq)
 ci:P.cellsOf ti=1
 cs:P.cellsOf ts=1
 cl:P.cellsOf tl=1
 cq:P.cellsOf tq=4
theorem trod_Q{B:DataW H->Nat}(hB:IsBulk B){tq ti ts tl:TypeId}(hQ:QryAt P tq ti ts tl): ∀(k fuel:Nat) (vs:List Value) x,B x.1<=k->DataW.trod enc P w 0 sp held fuel tq vs=some x->∃q:Qry,CellsC w q.enc vs/\q.size<=B x.1:=by
 intro k
 induction k with
 | zero=>intro fuel vs x hk _;have:=hB.pos x.1;omega
 | succ k IH=>
  intro fuel vs x hk h
  obtain⟨fs,f0,f1,f2,f3,hq,rfl,t0,t1,t2,t3,o0,o1,o2,o3⟩:=hQ.q
  obtain⟨xs,n,rfl,rfl,hlen,hxl,hx⟩:=DataW.trod_struct hq h
  obtain⟨y0,y1,y2,y3,rfl⟩: ∃y0 y1 y2 y3,xs= [y0,y1,y2,y3]:=by
   match xs,hxl with
   | [y0,y1,y2,y3],_=>exact⟨y0,y1,y2,y3,rfl⟩
  rw[hQ.cq]at hlen
  obtain⟨v0,v1,v2,v3,rfl⟩: ∃v0 v1 v2 v3,vs= [v0,v1,v2,v3]:=by
   match vs,hlen with
   | [v0,v1,v2,v3],_=>exact⟨v0,v1,v2,v3,rfl⟩
  have g0:=hx 0 f0 rfl
  have g1:=hx 1 f1 rfl
  have g2:=hx 2 f2 rfl
  have g3:=hx 3 f3 rfl
  rw[t0,o0,hQ.ci]at g0
  rw[t1,o1,hQ.ci]at g1
  rw[t2,o2,hQ.cs]at g2
  rw[t3,o3,hQ.cl]at g3
  simp only[ww,wj,wm,wg,List.getElem?_cons_zero,List.getElem?_cons_succ]at g0 g1 g2 g3
  obtain⟨op,e0,_,_⟩:=DataW.trod_int hQ.i g0
  obtain⟨role,e1,_,_⟩:=DataW.trod_int hQ.i g1
  obtain⟨txt,e2,e2',_⟩:=DataW.trod_string hQ.s g2
  obtain rfl:v0= .int .i64 op:=by simpa using e0
  obtain rfl:v1= .int .i64 role:=by simpa using e1
  obtain rfl:v2= .string txt:=by simpa using e2
  have hagg:=hB.agg [y0.1,y1.1,y2.1,y3.1]
  simp only[wt,wn,List.sum_cons,List.sum_nil]at hagg hk ⊢
  have p0:=hB.pos y0.1
  have p1:=hB.pos y1.1
  have p2:txt.size+1<=B y2.1:=by
   have:=hB.str txt.data.toList
   rw[e2'];simpa using this
  have kids: ∃l:List Qry,VC w (Kall w) (.sl 4 (Qry.encL l)) v3/\1+Qry.sizeL l<=B y3.1:=by
   have hy3:B y3.1<=k:=by omega
   generalize y3=x3 at g3 hy3 ⊢
   rcases Go.Deep.open_slice hQ.l g3 with⟨e3,rfl⟩|⟨a,len,cap,m,n',D,Pl,e3,hb,hl,hm,hmm,rfl,hx2⟩
   ·obtain rfl:v3= .slice none 0 0:=by simpa using e3
    exact⟨[],.nil 4,hB.pos _⟩
   ·obtain rfl:v3= .slice (some a) len cap:=by simpa using e3
    have hlm:len<=m:=by subst hmm;split<;>omega
    have hsl:=hB.sl ((List.range len).map D) ((List.range (m - len)).map fun j=>D (len+j))
    have vo:0<4:=by decide
    have each: ∀i,i<len->∃y:Qry,∃cs',w.cells? 0 (a.add (i*4)) 4=some cs'/\CellsC w y.enc cs'/\y.size<=B (D i):=fun i hi=>by
     obtain⟨cs',h1,h2⟩:=hx2 i (by omega)
     rw[hQ.cq]at h1
     have hDi:B (D i)<=((List.range len).map fun i=>B (D i)).sum:=by
      have hm:B (D i)∈(List.range len).map fun i=>B (D i):=wI.2 ⟨i,List.mem_range.2 hi,rfl⟩
      generalize ((List.range len).map fun i=>B (D i))=L at hm ⊢
      induction L with
      | nil=>cases hm
      | cons z L ih=>
       rcases ws.1 hm with e|hm
       ·simp[e]
       ·have:=ih hm;simp;omega
     rw[yw]at hsl
     have hsl':1+((List.range len).map fun i=>B (D i)).sum<=B (.slice ((List.range len).map D) ((List.range (m - len)).map fun j=>D (len+j))):=hsl
     obtain⟨y,hy1,hy2⟩:=IH n' cs' _ (by show B (D i)<=k;simp only at hy3;omega) h2
     exact⟨y,cs',h1,hy1,hy2⟩
    have build: ∀k,k<=len->∃l:List Qry,l.length=k/\True/\(∀i y,l[i]? =some y->∃cs',w.cells? 0 (a.add (i*4)) 4=some cs'/\CellsC w y.enc cs')/\(l.map Qry.size).sum<=((List.range k).map fun i=>B (D i)).sum:=by
     intro k
     induction k with
     | zero=>exact fun _=>⟨[],rfl,trivial,by simp,by simp⟩
     | succ k ih=>
      intro hk
      obtain⟨l,h1,h2,h3,h6⟩:=ih (by omega)
      obtain⟨y,cs',h4,h5,h7⟩:=each k (by omega)
      refine⟨l++[y],by simp[h1],trivial,fun i z hz=>?_,by simp[List.range_succ];omega⟩
      ·rw[List.getElem?_append]at hz
       split at hz
       ·exact h3 i z hz
       ·rename_i hi
        have:i=k:=by
         rcases yg (i - l.length) 1 with h|h
         ·omega
         ·rw[wZ (by simpa using h)]at hz;cases hz
        subst this
        rw[h1,yM]at hz
        simp at hz;subst hz
        exact⟨cs',h4,h5⟩
    obtain⟨l,hll,hok,QF,hsum⟩:=build len (wv _)
    subst hll
    refine⟨l,?_,by rw[qf5];rw[yw]at hsl;exact wD (Nat.add_le_add_left hsum 1) hsl⟩
    rw[qcl]
    show VC w (Kall w) (.sl 4 (l.map Qry.enc)) _
    have hlen:(l.map Qry.enc).length=l.length:=by simp
    have hsplit: ∀j,j<l.length*4->j / 4<l.length:=fun j hj=>Nat.div_lt_of_lt_mul (by rw[jg];exact hj)
    have hspot:0<l.length*4->a.spot=none:=fun h0=>by
     have hi:0<l.length:=Nat.pos_of_mul_pos_right h0
     obtain⟨cs',h1,h2⟩:=QF 0 _ (wc hi)
     obtain⟨g1,g2⟩:=cells?_get h1
     have:=g2 0 vo
     rw[wc (by omega)]at this
     simpa[Addr.add]using World.cell?_spot this
    have hcv: ∀i j,i<l.length->j<4->a.spot=none->∃y cs' v,l[i]? =some y/\cs'[j]? =some v/\CellsC w y.enc cs'/\w.cell? ⟨a.block,a.off+(i*4+j),none⟩=some v:=fun i j hi hj hs=>by
     obtain⟨cs',h1,h2⟩:=QF i _ (wc hi)
     obtain⟨g1,g2⟩:=cells?_get h1
     have h3:=g2 j hj
     have hcj:cs'[j]? =some (cs'[j]'(by omega)):=wc (by omega)
     have ha:a=⟨a.block,a.off,none⟩:=by cases a;simp at hs;subst hs;rfl
     rw[ha,qR,qR,hcj]at h3
     refine⟨_,cs',_,wc hi,hcj,h2,?_⟩
     rw[<-h3,Nat.add_assoc]
    rw[show (Value.slice (some a) l.length cap)= .slice (some a) (l.map Qry.enc).length cap by rw[hlen]]
    refine .sl 4 _ a cap (fun j=>(w.cell? ⟨a.block,a.off+j,none⟩).getD undef) (fun r hr=>?_) (by rw[hlen];exact hl) hm (fun j hj=>?_) (fun i j r c hr hc=>?_)
    ·obtain⟨y,_,rfl⟩:=wI.1 hr
     rw[qft]
    ·rw[hlen]at hj
     have hs:=hspot (by omega)
     obtain⟨y,cs',v,_,_,_,h⟩:=hcv (j / 4) (j % 4) (hsplit j hj) (Nat.mod_lt _ vo) hs
     have hd:=Nat.div_add_mod j 4
     rw[jg]at hd
     rw[hd]at h
     exact⟨hs,by simp[Kall,h],by simp[h]⟩
    ·rw[wq]at hr
     cases hy:l[i]? with
     | none=>rw[hy]at hr;cases hr
     | some y=>
      rw[hy]at hr;injection hr with hr;subst hr
      have hi:i<l.length:=(wd.1 hy).1
      have hj:j<4:=by
       have:=(wd.1 hc).1
       rw[qft]at this;exact this
      have hs:=hspot (Nat.mul_pos (by omega) vo)
      obtain⟨y',cs',v,h1,h2,h3,h4⟩:=hcv i j hi hj hs
      rw[hy]at h1;injection h1 with h1;subst h1
      have:=h3.2 j c v hc h2
      simpa[h4]using this
  obtain⟨l,hl,hs⟩:=kids
  refine⟨.mk op role txt l,⟨by rw[qft];rfl,fun j c v h1 h2=>?_⟩,by rw[Qry.size];omega⟩
  rw[Qry.enc]at h1
  match j with
  | 0=>simp at h1 h2;subst h1;subst h2;exact .lit _ rfl
  | 1=>simp at h1 h2;subst h1;subst h2;exact .lit _ rfl
  | 2=>simp at h1 h2;subst h1;subst h2;exact .lit _ rfl
  | 3=>simp at h1 h2;subst h1;subst h2;exact hl
  | j+4=>simp at h1
end
end Go.Proofs.YtaaodllggdjhiaaGreatDoor
namespace Go.Proofs.YtaaodllggdjhiaaGreatDoor
abbrev kpm3:List (Nat×Go.Dl.Mode):=[(0,.light),(1,.light),(2,.light),(3,.light),(4,.light),(5,.light),(6,.light),(7,.light)]
abbrev kpm4:List (Nat×Go.Dl.Mode):=[(0,.light),(1,.light),(2,.light),(3,.light),(4,.light),(5,.light),(6,.light),(7,.light),(8,.light),(9,.light),(10,.light),(11,.light),(12,.light),(13,.light),(14,.light),(15,.light),(16,.light),(17,.step)]
abbrev kq3:Nat->List (Nat×Go.Dl.Mode):=fun n=>match n with|6=>kpm3|8=>kpm3|10=>kpm4|_=>[]
end Go.Proofs.YtaaodllggdjhiaaGreatDoor
namespace Go.Proofs.YtaaodllggdjhiaaGreatDoor
open Go.Dl
attribute [local irreducible] DW DCalls ECalls qo wk IW
abbrev spns(l:List Spn):List (List C):=l.map Spn.enc
theorem Qd(s:Spn):DCalls pP 99 [.agg s.row] (dv (lb (qg s))):=by
 refine kd (N:=18) (rs:=[.tmp 2]) Tryz.func99 ?_
 repeat' first|(first|refine kcc ?_|apply kU|apply kF);simp only[go_sem,Spn.row]|apply kh<;>intro qa|((first|apply kH|apply kI)<;>(intro qa;simp only[go_sem,qa]))
 all_goals(simp_all [qg]<;>omega)
theorem qcf: ∀(l:List Spn) (p:List Spn×List Spn×Spn),(l.foldl q8 p).1.length+(l.foldl q8 p).2.1.length<=p.1.length+p.2.1.length+l.length
 | [],p=>by simp
 | x::l,p=>by
  have h:=qcf l (q8 p x)
  have:(q8 p x).1.length+(q8 p x).2.1.length<=p.1.length+p.2.1.length+1:=by
   unfold q8;split
   ·simp;omega
   ·split<;>simp<;>omega
  simp only[w6,wz]at*
  omega
theorem qqo(l:List Spn)(s:Spn):(insR l s).length<=l.length+1:=by
 have:=qcf l ([],[],s)
 unfold insR
 simp at *;omega
theorem qkJ(l:List Spn)(s:Spn)(hl:l.length<=100000):DCalls pP 155 [dv (.sl 2 (spns l)),.agg s.row] (dv (.sl 2 (spns (insR l s)))):=by
 have qK:=kmax
 refine kd (N:=69) (rs:=[.tmp 4]) Tryz.func155 ?_
 repeat first|apply kA|apply kB|(first|refine kcc ?_|refine kjj kq3 ?_|apply kD|apply kE);simp +decide only[go_sem,Spn.row]
 refine qau 5 5 2 [] (by simp +decide only[go_sem]) ?_
 refine qau 6 6 2 [] (by simp +decide only[go_sem]) ?_
 refine qj l (fun k=>kn 69 [(0,dv (.sl 2 (spns l))),(3,.one (.bx 3 2 0 0)),(5,.one (.own 5 2 (spns ((l.take k).foldl q8 ([],[],s)).1))),(6,.one (.own 6 2 (spns ((l.take k).foldl q8 ([],[],s)).2.1))),(7,dv (li k))] (ml [(3,[((l.take k).foldl q8 ([],[],s)).2.2.row])])) (by omega) (kM rfl (by simp +decide only[go_sem,wg,w9,wn]) (by simp +decide only[go_sem,wg,w9,Spn.row])) ?_ ?_
 ·intro k x hx hk hm htk hlt hw
  obtain⟨p,hp⟩: ∃p,p=(l.take k).foldl q8 ([],[],s):=⟨_,rfl⟩
  have hnx:(l.take (k+1)).foldl q8 ([],[],s)=q8 p x:=by rw[htk,yp,hp];rfl
  have hlen:p.1.length+p.2.1.length<=100000:=by
   have:=qcf (l.take k) ([],[],s)
   rw[<-hp]at this;simp at this;omega
  rw[hnx,<-hp]
  have hb1:((p.1.length+1)*16<=140737488355328)=True:=by simp;omega
  have hb2:((p.2.1.length+1)*16<=140737488355328)=True:=by simp;omega
  cases h1:decide (x.tg<p.2.2.fr)
  ·cases h2:decide (p.2.2.tg<x.fr)
   ·have e:q8 p x=(p.1,p.2.1,⟨min p.2.2.fr x.fr,max p.2.2.tg x.tg⟩):=by
     simp at h1 h2;unfold q8;rw[if_neg (by omega),if_neg (by omega)]
    rw[e]
    repeat' first|(first|refine kcc ?_|refine kjj kq3 ?_|apply kU);simp +decide only[go_sem,hlt,hw,hx,h1,h2,Spn.enc,Spn.row]|apply kh<;>intro qa
    exact km (by simp +decide only[go_sem,qie,qe8])
   ·have e:q8 p x=(p.1,p.2.1++[x],p.2.2):=by
     simp at h1 h2;unfold q8;rw[if_neg (by omega),if_pos (by omega)]
    rw[e]
    repeat' first|(first|refine kcc ?_|refine kjj kq3 ?_|apply kU);simp +decide only[go_sem,hlt,hw,hx,h1,h2,hb2,Spn.enc,Spn.row]|apply kh<;>intro qa
    exact kM rfl (by simp +decide only[go_sem,wJ,wt,wn,Spn.enc]) (by simp +decide only[go_sem])
  ·have e:q8 p x=(p.1++[x],p.2.1,p.2.2):=by
    simp at h1;unfold q8;rw[if_pos (by omega)]
   rw[e]
   repeat' first|(first|refine kcc ?_|refine kjj kq3 ?_|apply kU);simp +decide only[go_sem,hlt,hw,hx,h1,hb1,Spn.enc,Spn.row]|apply kh<;>intro qa
   exact kM rfl (by simp +decide only[go_sem,wJ,wt,wn,Spn.enc]) (by simp +decide only[go_sem])
 ·intro hlt
  rw[wh]
  obtain⟨p,hp⟩: ∃p,p=l.foldl q8 ([],[],s):=⟨_,rfl⟩
  have hlen:p.1.length+p.2.1.length<=100000:=by
   have:=qcf l ([],[],s)
   rw[<-hp]at this;simp at this;omega
  have hr:insR l s=p.1++p.2.2::p.2.1:=by rw[hp];rfl
  rw[hr,<-hp]
  have hb1:((p.1.length+1)*16<=140737488355328)=True:=by simp;omega
  have hb2:((spns p.1++[[li p.2.2.fr,li p.2.2.tg]]).length+p.2.1.length)*16<=140737488355328:=by simp;omega
  repeat' first|(first|refine kcc ?_|refine kjj kq3 ?_|apply kU|apply kF);simp +decide only[go_sem,hlt,hb1,Spn.row]|apply kh<;>intro qa
  refine⟨hb2,?_⟩
  refine qw 4 _ (DLe.own_ _ _ _) ?_
  apply kF;simp +decide only[go_sem]
  simp[Spn.enc]
theorem qbk: ∀(l out:List Spn),(l.foldl insR out).length<=out.length+l.length
 | [],out=>by simp
 | x::l,out=>by
  have h:=qbk l (insR out x)
  have:=qqo out x
  simp only[w6,wz]at *;omega
theorem qd1(l:List Spn):(QK l).length<=l.length:=by
 have h:=qbk (l.filter qg) []
 have:=wC qg l
 unfold QK;simp at h;omega
theorem qZ{α:Type}(q:α->Bool){l:List α}{k:Nat}{x:α}(h:l.take (k+1)=l.take k++[x]):(l.take (k+1)).filter q=(l.take k).filter q++if q x=true then [x]else []:=by
 rw[h,yG];congr 1;cases hq:q x<;>simp[hq]
theorem qmE(l:List Spn)(hl:l.length<=10000):DCalls pP 98 [dv (.sl 2 (spns l))] (dv (.sl 2 (spns (QK l)))):=by
 have qK:=kmax
 refine kd (N:=24) (rs:=[.tmp 2]) Tryz.func98 ?_
 repeat first|apply kA|apply kB|(first|refine kcc ?_|apply kD|apply kE);simp +decide only[go_sem]
 refine qw 3 _ (DLe.ex_ _ _) ?_
 refine qj l (fun k=>kn 24 [(0,dv (.sl 2 (spns l))),(3,dv (.sl 2 (spns (((l.take k).filter qg).foldl insR [])))),(4,dv (li k))] qc) (by omega) (kL rfl (by simp +decide only[go_sem,wg,yi,w9,wn]) (by simp[qc])) ?_ ?_
 ·intro k x hx hk hm htk hlt hw
  obtain⟨p,hp⟩: ∃p,p=((l.take k).filter qg).foldl insR []:=⟨_,rfl⟩
  have hlen:p.length<=10000:=by
   have h1:=qbk ((l.take k).filter qg) []
   have h2:=wC qg (l.take k)
   rw[<-hp]at h1;simp at h1 h2;omega
  have hr:=Qd x
  have hi:=qkJ p x (by omega)
  rw[qZ qg htk,yp,<-hp]
  simp only[Spn.row]at hr hi
  cases h1:qg x
  ·rw[h1]at hr
   repeat' first|(first|refine kcc ?_|refine kx hr ?_|refine kx hi ?_|apply kU);simp +decide only[go_sem,hlt,hw,hx,Spn.enc]|apply kh<;>intro qa
   exact kL rfl (by simp +decide only[go_sem,w9]) (by simp[qc])
  ·rw[h1]at hr
   repeat' first|(first|refine kcc ?_|refine kx hr ?_|refine kx hi ?_|apply kU);simp +decide only[go_sem,hlt,hw,hx,Spn.enc]|apply kh<;>intro qa
   exact kL rfl (by simp +decide only[go_sem,w9,w6]) (by simp[qc])
 ·intro hlt
  rw[wh]
  repeat' first|(first|refine kcc ?_|apply kU|apply kF);simp +decide only[go_sem,hlt]|apply kh<;>intro qa
  rfl
theorem qjZ(s x:Spn):(cutR s x).length<=2:=by unfold cutR;split<;>split<;>simp
theorem qcu(s:Spn): ∀l:List Spn,(qm l s).length<=2*l.length
 | []=>by simp[qm]
 | x::l=>by
  have h1:=qcu s l
  have h2:=qjZ s x
  simp only[qm,jr,wA,wz]at *;omega
theorem qfO(s:Spn){l:List Spn}{k:Nat}{x:Spn}(h:l.take (k+1)=l.take k++[x]):qm (l.take (k+1)) s=qm (l.take k) s++cutR s x:=by
 rw[h,qm,List.flatMap_append];simp[qm]
theorem qhW(l:List Spn)(s:Spn)(hl:l.length<=100000):DCalls pP 100 [dv (.sl 2 (spns l)),.agg s.row] (dv (.sl 2 (spns (qm l s)))):=by
 have qK:=kmax
 refine kd (N:=57) (rs:=[.tmp 4]) Tryz.func100 ?_
 repeat first|apply kA|apply kB|(first|refine kcc ?_|apply kD|apply kE);simp +decide only[go_sem,Spn.row]
 refine qau 5 5 2 [] (by simp +decide only[go_sem]) ?_
 refine qj l (fun k=>kn 57 [(0,dv (.sl 2 (spns l))),(3,.one (.bx 3 2 0 0)),(5,.one (.own 5 2 (spns (qm (l.take k) s)))),(6,dv (li k))] (ml [(3,[s.row])])) (by omega) (kM rfl (by simp +decide only[go_sem,wg,qm,List.flatMap_nil,wn]) (by simp +decide only[go_sem,Spn.row])) ?_ ?_
 ·intro k x hx hk hm htk hlt hw
  have hlen:=qcu s (l.take k)
  have hlk:(l.take k).length<=100000:=by simp;omega
  rw[qfO s htk]
  generalize qm (l.take k) s=p at hlen ⊢
  obtain⟨L,hL⟩: ∃L:Spn,L=⟨x.fr,min x.tg s.fr⟩:=⟨_,rfl⟩
  obtain⟨R,hR⟩: ∃R:Spn,R=⟨max x.fr s.tg,x.tg⟩:=⟨_,rfl⟩
  have hc:cutR s x=(if qg L=true then [L]else [])++(if qg R=true then [R]else []):=by rw[hL,hR];rfl
  have hrL:=Qd L
  have hrR:=Qd R
  simp only[Spn.row]at hrL hrR
  repeat' first|(first|refine kcc ?_|apply kU);simp +decide only[go_sem,hlt,Spn.row]|apply kh<;>intro qa
  refine vq (fun _:Unit=>kn 57 [(0,dv (.sl 2 (spns l))),(3,.one (.bx 3 2 0 0)),(5,.one (.own 5 2 (spns p))),(6,dv (li k)),(7,.one (.bx 7 2 0 0))] (ml [(3,[s.row]),(7,[L.row])])) (fun _=>True) ?_ ?_
  ·refine qod (id:=5) (N:=57) [] [[],[],[0,1],[2],[3],[],[],[5,6],[7],[8],[],[10],[9,11],[4,12],[],[14,13,0,1,2,3,4,5,6,7,8,9,10,11,12,13,14]] [0,1,5,6,10] [(1123,2),(1123,7),(1123,11),(1123,14),(1127,3),(1127,7),(1127,11),(1127,14),(1251,2),(1251,8),(1251,11),(1251,14),(3171,2),(3171,7),(3171,14),(17507,2),(17507,7),(17507,11),(1135,4),(1135,7),(1135,11),(1135,14),(1255,3),(1255,8),(1255,11),(1255,14),(3175,3),(3175,7),(3175,14),(17511,3),(17511,7),(17511,11),(1507,2),(1507,9),(1507,11),(1507,14),(3299,2),(3299,8),(3299,14),(17635,2),(17635,8),(17635,11),(19555,2),(19555,7),(1151,7),(1151,11),(1151,14),(1263,4),(1263,8),(1263,11),(1263,14),(3183,4),(3183,7),(3183,14),(17519,4),(17519,7),(17519,11),(1511,3),(1511,9),(1511,11),(1511,14),(3303,3),(3303,8),(3303,14),(17639,3),(17639,8),(17639,11),(19559,3),(19559,7),(2019,2),(2019,11),(2019,14),(3555,2),(3555,9),(3555,14),(17891,2),(17891,9),(17891,11),(19683,2),(19683,8),(1279,8),(1279,11),(1279,14),(3199,7),(3199,14),(17535,7),(17535,11),(1519,4),(1519,9),(1519,11),(1519,14),(3311,4),(3311,8),(3311,14),(17647,4),(17647,8),(17647,11),(19567,4),(19567,7),(2023,3),(2023,11),(2023,14),(3559,3),(3559,9),(3559,14),(17895,3),(17895,9),(17895,11),(19687,3),(19687,8),(4067,2),(4067,12),(4067,14),(18403,2),(18403,11),(19939,2),(19939,9),(1535,9),(1535,11),(1535,14),(3327,8),(3327,14),(17663,8),(17663,11),(19583,7),(2031,4),(2031,11),(2031,14),(3567,4),(3567,9),(3567,14),(17903,4),(17903,9),(17903,11),(19695,4),(19695,8),(4071,3),(4071,12),(4071,14),(18407,3),(18407,11),(19943,3),(19943,9),(8163,2),(8163,14),(20451,2),(20451,12),(2047,11),(2047,14),(3583,9),(3583,14),(17919,9),(17919,11),(19711,8),(4079,4),(4079,12),(4079,14),(18415,4),(18415,11),(19951,4),(19951,9),(8167,3),(8167,14),(20455,3),(20455,12),(24547,2),(4095,12),(4095,14),(18431,11),(19967,9),(8175,4),(8175,14),(20463,4),(20463,12),(24551,3),(8191,13),(8191,14),(20479,12),(24559,4),(16383,14),(24575,13),(32767,15)] [[1127,1251,3171,17507],[1135,1255,3175,17511,1507,3299,17635,19555],[1151,1263,3183,17519,1511,3303,17639,19559,2019,3555,17891,19683],[1279,3199,17535,1519,3311,17647,19567,2023,3559,17895,19687,4067,18403,19939],[1535,3327,17663,19583,2031,3567,17903,19695,4071,18407,19943,8163,20451],[2047,3583,17919,19711,4079,18415,19951,8167,20455,24547],[4095,18431,19967,8175,20463,24551],[8191,20479,24559],[16383,24575],[32767],[65535]] (stQ 57 [(0,dv (.sl 2 (spns l))),(3,.one (.bx 3 2 0 0)),(5,.one (.own 5 2 (spns p))),(6,dv (li k)),(16,dv (.sl 2 (spns l))),(17,dv (li k)),(21,dv (.sl 2 (spns l))),(22,dv (li k)),(26,.one (.bx 3 2 0 0))] [(4,0,18,dv (.pt x.enc)),(8,0,19,dv (.pt x.enc)),(16,0,20,dv (li x.fr)),(128,0,23,dv (.pt x.enc)),(256,0,24,dv (.pt [li x.tg])),(512,0,25,dv (li x.tg)),(2048,0,27,dv (li s.fr)),(4096,0,28,dv (li (if s.fr<x.tg then s.fr else x.tg))),(8192,0,29,.agg [.c (li x.fr),.c (li (if s.fr<x.tg then s.fr else x.tg))]),(16384,0,7,.one (.bx 7 2 0 0))] [(0,0,3,[s.row]),(16384,32768,7,[[.c (li 0),.c (li 0)]]),(32768,0,7,[[.c (li x.fr),.c (li (if s.fr<x.tg then s.fr else x.tg))]])]) 65535 (by kernel_rfl) rfl (by kernel_rfl) (by kernel_rfl) (fun m=>rfl) ?_ ?_ ?_
   ·simp +decide only[go_sem,stQ,vJ,yQ,yS,wH,wE,Spn.row]
    exact kmm
   ·simp +decide only[go_sem,stQ,yQ,yS,wH,wE,hx,wB,w4,Spn.row,Spn.enc]
    (repeat' apply And.intro)
    all_goals exact kmm
   ·simp +decide only[go_sem,stQ,yQ,yS,wH,wE]
    exact⟨(),km (by simp +decide only[go_sem,hL,Spn.row,qie])⟩
  rintro _ _
  apply kA
  refine vq (fun _:Unit=>kn 57 [(0,dv (.sl 2 (spns l))),(3,.one (.bx 3 2 0 0)),(5,.one (.own 5 2 (spns p))),(6,dv (li k)),(7,.one (.bx 7 2 0 0)),(8,.one (.bx 8 2 0 0))] (ml [(3,[s.row]),(7,[L.row]),(8,[R.row])])) (fun _=>True) ?_ ?_
  ·refine qod (id:=6) (N:=57) [] [[],[],[0,1],[2],[3],[],[5],[4,6],[],[],[8,9],[10],[11],[7,12],[],[14,13,0,1,2,3,4,5,6,7,8,9,10,11,12,13,14]] [0,1,5,8,9] [(803,2),(803,6),(803,10),(803,14),(807,3),(807,6),(807,10),(807,14),(867,2),(867,10),(867,14),(1827,2),(1827,6),(1827,11),(1827,14),(17187,2),(17187,6),(17187,10),(815,4),(815,6),(815,10),(815,14),(871,3),(871,10),(871,14),(1831,3),(1831,6),(1831,11),(1831,14),(17191,3),(17191,6),(17191,10),(1891,2),(1891,11),(1891,14),(17251,2),(17251,10),(3875,2),(3875,6),(3875,12),(3875,14),(18211,2),(18211,6),(18211,11),(831,6),(831,10),(831,14),(879,4),(879,10),(879,14),(1839,4),(1839,6),(1839,11),(1839,14),(17199,4),(17199,6),(17199,10),(1895,3),(1895,11),(1895,14),(17255,3),(17255,10),(3879,3),(3879,6),(3879,12),(3879,14),(18215,3),(18215,6),(18215,11),(3939,2),(3939,12),(3939,14),(18275,2),(18275,11),(7971,2),(7971,6),(7971,14),(20259,2),(20259,6),(20259,12),(895,7),(895,10),(895,14),(1855,6),(1855,11),(1855,14),(17215,6),(17215,10),(1903,4),(1903,11),(1903,14),(17263,4),(17263,10),(3887,4),(3887,6),(3887,12),(3887,14),(18223,4),(18223,6),(18223,11),(3943,3),(3943,12),(3943,14),(18279,3),(18279,11),(7975,3),(7975,6),(7975,14),(20263,3),(20263,6),(20263,12),(8035,2),(8035,14),(20323,2),(20323,12),(24355,2),(24355,6),(1023,10),(1023,14),(1919,7),(1919,11),(1919,14),(17279,7),(17279,10),(3903,6),(3903,12),(3903,14),(18239,6),(18239,11),(3951,4),(3951,12),(3951,14),(18287,4),(18287,11),(7983,4),(7983,6),(7983,14),(20271,4),(20271,6),(20271,12),(8039,3),(8039,14),(20327,3),(20327,12),(24359,3),(24359,6),(24419,2),(2047,11),(2047,14),(17407,10),(3967,7),(3967,12),(3967,14),(18303,7),(18303,11),(7999,6),(7999,14),(20287,6),(20287,12),(8047,4),(8047,14),(20335,4),(20335,12),(24367,4),(24367,6),(24423,3),(4095,12),(4095,14),(18431,11),(8063,7),(8063,14),(20351,7),(20351,12),(24383,6),(24431,4),(8191,13),(8191,14),(20479,12),(24447,7),(16383,14),(24575,13),(32767,15)] [[807,867,1827,17187],[815,871,1831,17191,1891,17251,3875,18211],[831,879,1839,17199,1895,17255,3879,18215,3939,18275,7971,20259],[895,1855,17215,1903,17263,3887,18223,3943,18279,7975,20263,8035,20323,24355],[1023,1919,17279,3903,18239,3951,18287,7983,20271,8039,20327,24359,24419],[2047,17407,3967,18303,7999,20287,8047,20335,24367,24423],[4095,18431,8063,20351,24383,24431],[8191,20479,24447],[16383,24575],[32767],[65535]] (stQ 57 [(0,dv (.sl 2 (spns l))),(3,.one (.bx 3 2 0 0)),(5,.one (.own 5 2 (spns p))),(6,dv (li k)),(7,.one (.bx 7 2 0 0)),(30,dv (.sl 2 (spns l))),(31,dv (li k)),(38,dv (.sl 2 (spns l))),(39,dv (li k)),(35,.one (.bx 3 2 0 1))] [(4,0,32,dv (.pt x.enc)),(8,0,33,dv (.pt x.enc)),(16,0,34,dv (li x.fr)),(1024,0,40,dv (.pt x.enc)),(2048,0,41,dv (.pt [li x.tg])),(4096,0,42,dv (li x.tg)),(64,0,36,dv (li s.tg)),(128,0,37,dv (li (if x.fr<s.tg then s.tg else x.fr))),(8192,0,43,.agg [.c (li (if x.fr<s.tg then s.tg else x.fr)),.c (li x.tg)]),(16384,0,8,.one (.bx 8 2 0 0))] [(0,0,3,[s.row]),(0,0,7,[L.row]),(16384,32768,8,[[.c (li 0),.c (li 0)]]),(32768,0,8,[[.c (li (if x.fr<s.tg then s.tg else x.fr)),.c (li x.tg)]])]) 65535 (by kernel_rfl) rfl (by kernel_rfl) (by kernel_rfl) (fun m=>rfl) ?_ ?_ ?_
   ·simp +decide only[go_sem,stQ,vJ,yQ,yS,wH,wE,Spn.row]
    exact kmm
   ·simp +decide only[go_sem,stQ,yQ,yS,wH,wE,hx,wB,w4,Spn.row,Spn.enc]
    (repeat' apply And.intro)
    all_goals exact kmm
   ·simp +decide only[go_sem,stQ,yQ,yS,wH,wE]
    exact⟨(),km (by simp +decide only[go_sem,hR,Spn.row,qe8])⟩
  rintro _ _
  rw[hc]
  cases h1:qg L
  ·rw[h1]at hrL
   cases h2:qg R
   ·rw[h2]at hrR
    repeat' first|(first|refine kcc ?_|refine kx hrL ?_|refine kx hrR ?_|apply kU);simp +decide only[go_sem,hw,Spn.row]|apply kh<;>intro qa
    exact kmm
   ·rw[h2]at hrR
    have hb1:((p.length+1)*16<=140737488355328)=True:=by simp;omega
    repeat' first|(first|refine kcc ?_|refine kx hrL ?_|refine kx hrR ?_|apply kU);simp +decide only[go_sem,hw,hb1,Spn.row]|apply kh<;>intro qa
    exact kM rfl (by simp +decide only[go_sem,wJ,wt,wn,Spn.enc]) (by simp +decide only[go_sem])
  ·rw[h1]at hrL
   have hb1:((p.length+1)*16<=140737488355328)=True:=by simp;omega
   cases h2:qg R
   ·rw[h2]at hrR
    repeat' first|(first|refine kcc ?_|refine kx hrL ?_|refine kx hrR ?_|apply kU);simp +decide only[go_sem,hw,hb1,Spn.row]|apply kh<;>intro qa
    exact kM rfl (by simp +decide only[go_sem,wJ,wt,wn,Spn.enc]) (by simp +decide only[go_sem])
   ·rw[h2]at hrR
    have hb2:((spns p++[[li L.fr,li L.tg]]).length+1)*16<=140737488355328:=by simp;omega
    repeat' first|(first|refine kcc ?_|refine kx hrL ?_|refine kx hrR ?_|apply kU);simp +decide only[go_sem,hw,hb1,eq_true hb2,Spn.row]|apply kh<;>intro qa
    exact kM rfl (by simp +decide only[go_sem,wU,wH,wE,wJ,wt,wn,Spn.enc]) (by simp +decide only[go_sem])
 ·intro hlt
  rw[wh]
  repeat' first|(first|refine kcc ?_|apply kU);simp +decide only[go_sem,hlt]|apply kh<;>intro qa
  refine qw 4 _ (DLe.own_ _ _ _) ?_
  apply kF;simp +decide only[go_sem]
theorem qcc: ∀(l:List Spn) (p:List Spn×List Spn×Spn),zC l->zC p.1->zC p.2.1->qg p.2.2=true->(∀b∈p.1,b.tg<p.2.2.fr)->(∀a∈p.2.1,p.2.2.tg<a.fr)->(∀b∈p.1,∀x∈l,b.tg<x.fr)->(∀a∈p.2.1,∀x∈l,a.tg<x.fr)->
  zC ((l.foldl q8 p).1++(l.foldl q8 p).2.2::(l.foldl q8 p).2.1)
 | [],(B,A,s),_,hB,hA,hs,h1,h2,_,_=>by
  have hs':=rightS_iff.1 hs
  simp only at hB hA h1 h2 hs'
  refine⟨fun z hz=>?_,?_⟩
  ·simp only[w9,wo,ws]at hz
   rcases hz with hz|rfl|hz
   ·exact hB.1 z hz
   ·exact hs
   ·exact hA.1 z hz
  ·simp only[w9]
   refine wW.2 ⟨hB.2,wK.2 ⟨h2,hA.2⟩,fun b hb z hz=>?_⟩
   rcases ws.1 hz with rfl|hz
   ·exact h1 b hb
   ·have:=h1 b hb;have:=h2 z hz;omega
 | x::l,(B,A,s),hl,hB,hA,hs,h1,h2,h3,h4=>by
  have hs':=rightS_iff.1 hs
  have hx':=rightS_iff.1 (hl.1 x (by simp))
  obtain⟨hp1,hp2⟩:=wK.1 hl.2
  have hl':zC l:=⟨fun z hz=>hl.1 z (by simp[hz]),hp2⟩
  simp only at hB hA h1 h2 h3 h4 hs'
  simp only[w6]
  have snoc: ∀(L:List Spn),zC L->(∀b∈L,b.tg<x.fr)->zC (L++[x]):=fun L hL hb=>⟨fun z hz=>by
    rcases wo.1 hz with hz|hz
    ·exact hL.1 z hz
    ·rw[yd.1 hz];exact hl.1 x (by simp),wW.2 ⟨hL.2,by simp,fun b hb' z hz=>by rw[yd.1 hz];exact hb b hb'⟩⟩
  by_cases c1:x.tg<s.fr
  ·have e:q8 (B,A,s) x=(B++[x],A,s):=by unfold q8;rw[if_pos c1]
   rw[e]
   refine qcc l _ hl' (snoc B hB fun b hb=>h3 b hb x (by simp)) hA hs (fun b hb=>?_) h2 (fun b hb z hz=>?_) (fun a ha z hz=>h4 a ha z (by simp[hz]))
   ·rcases wo.1 hb with hb|hb
    ·exact h1 b hb
    ·rw[yd.1 hb];exact c1
   ·rcases wo.1 hb with hb|hb
    ·exact h3 b hb z (by simp[hz])
    ·rw[yd.1 hb];exact hp1 z hz
  ·by_cases c2:x.fr>s.tg
   ·have e:q8 (B,A,s) x=(B,A++[x],s):=by unfold q8;rw[if_neg c1,if_pos c2]
    rw[e]
    refine qcc l _ hl' hB (snoc A hA fun a ha=>h4 a ha x (by simp)) hs h1 (fun a ha=>?_) (fun b hb z hz=>h3 b hb z (by simp[hz])) (fun a ha z hz=>?_)
    ·rcases wo.1 ha with ha|ha
     ·exact h2 a ha
     ·rw[yd.1 ha];exact c2
    ·rcases wo.1 ha with ha|ha
     ·exact h4 a ha z (by simp[hz])
     ·rw[yd.1 ha];exact hp1 z hz
   ·have e:q8 (B,A,s) x=(B,A,⟨min s.fr x.fr,max s.tg x.tg⟩):=by unfold q8;rw[if_neg c1,if_neg c2]
    rw[e]
    refine qcc l _ hl' hB hA (rightS_iff.2 ⟨by simp only;omega,by simp only;omega,by simp only;omega⟩) (fun b hb=>?_) (fun a ha=>?_) (fun b hb z hz=>h3 b hb z (by simp[hz])) (fun a ha z hz=>h4 a ha z (by simp[hz]))
    ·have:=h1 b hb;have:=h3 b hb x (by simp);simp only;omega
    ·have:=h2 a ha;have:=h4 a ha x (by simp);have:=rightS_iff.1 (hA.1 a ha);simp only;omega
theorem qnj{l:List Spn}{s:Spn}(hl:zC l)(hs:qg s=true):zC (insR l s):=
 qcc l ([],[],s) hl ⟨by simp,List.Pairwise.nil⟩ ⟨by simp,List.Pairwise.nil⟩ hs (by simp) (by simp) (by simp) (by simp)
theorem qcY: ∀(l out:List Spn),(∀s∈l,qg s=true)->zC out->zC (l.foldl insR out)
 | [],_,_,h=>h
 | x::l,out,h1,h2=>qcY l _ (fun s hs=>h1 s (by simp[hs])) (qnj h2 (h1 x (by simp)))
theorem qcX(l:List Spn):zC (QK l):=qcY _ [] (fun s hs=>(wQ.1 hs).2) ⟨by simp,List.Pairwise.nil⟩
theorem qiy{s x y:Spn}(hy:y∈cutR s x):qg y=true/\x.fr<=y.fr/\y.tg<=x.tg:=by
 unfold cutR at hy
 rcases wo.1 hy with h|h
 ·split at h
  ·rename_i hr;rw[yd.1 h];exact⟨hr,by simp,by simp only;omega⟩
  ·cases h
 ·split at h
  ·rename_i hr;rw[yd.1 h];exact⟨hr,by simp only;omega,by simp⟩
  ·cases h
theorem cutR_pw{s:Spn}(hs:qg s=true)(x:Spn):(cutR s x).Pairwise (fun a b=>a.tg<b.fr):=by
 have:=rightS_iff.1 hs
 unfold cutR
 split<;>split<;>simp
 omega
theorem qbT{s:Spn}(hs:qg s=true): ∀{l:List Spn},zC l->zC (qm l s)
 | [],_=>⟨by simp[qm],by simp[qm]⟩
 | x::l,h=>by
  obtain⟨hp1,hp2⟩:=wK.1 h.2
  have ih:=qbT hs (l:=l) ⟨fun z hz=>h.1 z (by simp[hz]),hp2⟩
  have e:qm (x::l) s=cutR s x++qm l s:=by simp[qm]
  rw[e]
  refine⟨fun z hz=>?_,wW.2 ⟨cutR_pw hs x,ih.2,fun a ha b hb=>?_⟩⟩
  ·rcases wo.1 hz with hz|hz
   ·exact(qiy hz).1
   ·exact ih.1 z hz
  ·obtain⟨y,hy,hb'⟩:=jm.1 hb
   have h1:=qiy ha;have h2:=qiy hb';have:=hp1 y hy;omega
theorem qd0{s:Spn}: ∀{l:List Spn},(∀y∈l,s.fr<=y.fr)->(qm l s).length<=l.length
 | [],_=>by simp[qm]
 | x::l,h=>by
  have ih:=qd0 (s:=s) (l:=l) (fun y hy=>h y (by simp[hy]))
  have e:qm (x::l) s=cutR s x++qm l s:=by simp[qm]
  have hx:=h x (by simp)
  have:(cutR s x).length<=1:=by
   unfold cutR
   have: ¬qg ⟨x.fr,min x.tg s.fr⟩=true:=fun hr=>by have:=rightS_iff.1 hr;simp only at this;omega
   rw[if_neg this];split<;>simp
  rw[e,wA,wz];omega
theorem qcv{s:Spn}(hs:qg s=true): ∀{l:List Spn},zC l->(qm l s).length<=l.length+1
 | [],_=>by simp[qm]
 | x::l,h=>by
  obtain⟨hp1,hp2⟩:=wK.1 h.2
  have hl:zC l:=⟨fun z hz=>h.1 z (by simp[hz]),hp2⟩
  have ih:=qcv hs hl
  have e:qm (x::l) s=cutR s x++qm l s:=by simp[qm]
  rw[e,wA,wz]
  by_cases hc:(cutR s x).length<=1
  ·omega
  ·have h2:=qjZ s x
   have hr:qg ⟨max x.fr s.tg,x.tg⟩=true:=by
    by_cases hr:qg ⟨max x.fr s.tg,x.tg⟩=true
    ·exact hr
    ·exfalso;apply hc;unfold cutR;rw[if_neg hr];split<;>simp
   have:=rightS_iff.1 hr;have:=rightS_iff.1 hs
   have:=qd0 (s:=s) (l:=l) fun y hy=>by have:=hp1 y hy;simp only at *;omega
   omega
theorem qc3: ∀(b out:List Spn),(∀s∈b,qg s=true)->zC out->zC (b.foldl qm out)/\(b.foldl qm out).length<=out.length+b.length
 | [],out,_,h=>⟨h,by simp⟩
 | x::b,out,h1,h=>by
  have hx:=h1 x (by simp)
  obtain⟨g1,g2⟩:=qc3 b (qm out x) (fun s hs=>h1 s (by simp[hs])) (qbT hx h)
  have:=qcv hx h
  exact⟨g1,by simp only[w6,wz];omega⟩
theorem qk5(a b:List Spn):(Qs a b).length<=a.length+b.length:=by
 have h:=(qc3 (b.filter qg) (QK a) (fun s hs=>(wQ.1 hs).2) (qcX a)).2
 have h2:=qd1 a
 have h3:=wC qg b
 unfold Qs;omega
theorem qgn(a b:List Spn)(ha:a.length<=10000)(hbl:b.length<=10000):DCalls pP 44 [dv (.sl 2 (spns a)),dv (.sl 2 (spns b))] (dv (.sl 2 (spns (Qs a b)))):=by
 have qK:=kmax
 have hU:=qmE a ha
 refine kd (N:=27) (rs:=[.tmp 4]) Tryz.func44 ?_
 repeat' first|(first|refine kcc ?_|refine kx hU ?_|apply kU);simp only[go_sem]|apply kh<;>intro qa
 refine qj b (fun k=>kn 27 [(1,dv (.sl 2 (spns b))),(5,dv (.sl 2 (spns (((b.take k).filter qg).foldl qm (QK a))))),(6,dv (li k))] qc) (by omega) (kL rfl (by simp only[go_sem,wg,yi,w9]) (by simp[qc])) ?_ ?_
 ·intro k x hx hk hm htk hlt hw
  obtain⟨p,hp⟩: ∃p,p=((b.take k).filter qg).foldl qm (QK a):=⟨_,rfl⟩
  have hlen:p.length<=100000:=by
   have h1:=(qc3 ((b.take k).filter qg) (QK a) (fun s hs=>(wQ.1 hs).2) (qcX a)).2
   have h2:=wC qg (b.take k)
   have h3:=qd1 a
   rw[hp];simp at h2;omega
  have hr:=Qd x
  have hi:=qhW p x hlen
  rw[qZ qg htk,yp,<-hp]
  simp only[Spn.row]at hr hi
  cases h1:qg x
  ·rw[h1]at hr
   repeat' first|(first|refine kcc ?_|refine kx hr ?_|refine kx hi ?_|apply kU);simp only[go_sem,hlt,hw,hx,Spn.enc]|apply kh<;>intro qa
   exact kL rfl (by simp only[go_sem,w9]) (by simp[qc])
  ·rw[h1]at hr
   repeat' first|(first|refine kcc ?_|refine kx hr ?_|refine kx hi ?_|apply kU);simp only[go_sem,hlt,hw,hx,Spn.enc]|apply kh<;>intro qa
   exact kL rfl (by simp only[go_sem,w9,w6]) (by simp[qc])
 ·intro hlt
  rw[wh]
  repeat' first|(first|refine kcc ?_|apply kU|apply kF);simp only[go_sem,hlt]|apply kh<;>intro qa
  rfl
theorem qea(l:List Spn)(s:Spn)(hl:l.length<=10000):DCalls pP 55 [dv (.sl 2 (spns l)),.agg s.row] (dv (lb (ZJ l s))):=by
 have hr:=Qd s
 have hm:=qgn [s] l (by simp) hl
 simp only[Spn.row,wt,wn,Spn.enc]at hr hm
 refine kd (N:=15) (rs:=[.tmp 4]) Tryz.func55 ?_
 cases h1:qg s
 ·rw[h1]at hr
  repeat' first|(first|refine kcc ?_|refine kx hr ?_|refine kx hm ?_|apply kU|apply kF);simp +decide only[go_sem,Spn.row]|apply kh<;>intro qa
  simp[ZJ,h1]
 ·rw[h1]at hr
  repeat' first|(first|refine kcc ?_|refine kx hr ?_|refine kx hm ?_|apply kU|apply kF);simp +decide only[go_sem,Spn.row]|apply kh<;>intro qa
  unfold ZJ
  rw[h1,yy]
  cases Qs [s] l<;>simp<;>omega
theorem qeX(k:Int):DCalls pP 158 [dv (li k)] (dv (lb (algK k))):=by
 refine kd (N:=13) (rs:=[.tmp 2]) Tryz.func158 ?_
 repeat' first|(first|refine kcc ?_|apply kU|apply kF);simp only[go_sem]|apply kh<;>intro qa|((first|apply kH|apply kI)<;>(intro qa;simp only[go_sem,qa]))
 all_goals simp_all [algK]
theorem ZC(k:Int):DCalls pP 114 [dv (li k)] (dv (lb (algK k))):=by
 refine kd (N:=13) (rs:=[.tmp 2]) Tryz.func114 ?_
 repeat' first|(first|refine kcc ?_|apply kU|apply kF);simp only[go_sem]|apply kh<;>intro qa|((first|apply kH|apply kI)<;>(intro qa;simp only[go_sem,qa]))
 all_goals simp_all [algK]
theorem qoM(k:Int):DCalls pP 174 [dv (li k)] (dv (lb (algK k))):=by
 refine kd (N:=10) (rs:=[.tmp 2]) Tryz.func174 ?_
 repeat' first|(first|refine kcc ?_|apply kU|apply kF);simp only[go_sem]|apply kh<;>intro qa
 all_goals simp_all [algK]
theorem qoN{ts:List Tir}{i:Int}(h0:0<=i){t:Tir}(h:ts[i.toNat]? =some t):alg ts i=algK t.kind:=by unfold alg QL;rw[if_pos h0,h]
theorem qrK{ts:List Tir}{i:Int}(h: ¬(0<=i/\i<ts.length)):alg ts i=false:=by
 unfold alg QL
 split
 ·rename_i t ht
  split at ht
  ·rename_i h0
   have:=(wd.1 ht).1
   exfalso;apply h;omega
  ·cases ht
 ·rfl
theorem qgp(ts:List Tir)(i:Int):DCalls pP 109 [dv (.sl 4 (ts.map Tir.enc)),dv (li i)] (dv (lb (alg ts i))):=by
 by_cases h:0<=i/\i<ts.length
 ·obtain⟨t,ht⟩: ∃t,ts[i.toNat]? =some t:=⟨_,wc (by omega)⟩
  have e1:decide (0<=i)=true:=by simp;omega
  have e2:decide (i<(ts.length:Int))=true:=by simp;omega
  have e3:i.toNat<ts.length:=by omega
  have hk:=qeX t.kind
  rw[qoN h.1 ht]
  refine kd (N:=21) (rs:=[.tmp 4]) Tryz.func109 ?_
  repeat' first|(first|refine kcc ?_|refine kx hk ?_|apply kU|apply kF);simp only[go_sem,e2,h.1,ht,Tir.enc]|apply kh<;>intro qa
 ·rw[qrK h]
  refine kd (N:=21) (rs:=[.tmp 4]) Tryz.func109 ?_
  cases e1:decide (0<=i)
  ·repeat' first|(first|refine kcc ?_|apply kU|apply kF);simp only[go_sem,e1]|apply kh<;>intro qa
  ·have e2:decide (i<(ts.length:Int))=false:=by simp at e1 ⊢;omega
   repeat' first|(first|refine kcc ?_|apply kU|apply kF);simp only[go_sem,e1,e2]|apply kh<;>intro qa
theorem qiU(ts:List Tir)(i:Int):DCalls pP 140 [dv (.sl 4 (ts.map Tir.enc)),dv (li i)] (dv (lb (alg ts i))):=by
 by_cases h:0<=i/\i<ts.length
 ·obtain⟨t,ht⟩: ∃t,ts[i.toNat]? =some t:=⟨_,wc (by omega)⟩
  have e1:decide (0<=i)=true:=by simp;omega
  have e2:decide (i<(ts.length:Int))=true:=by simp;omega
  have e3:i.toNat<ts.length:=by omega
  have hk:=qoM t.kind
  rw[qoN h.1 ht]
  refine kd (N:=21) (rs:=[.tmp 4]) Tryz.func140 ?_
  repeat' first|(first|refine kcc ?_|refine kx hk ?_|apply kU|apply kF);simp only[go_sem,e2,h.1,ht,Tir.enc]|apply kh<;>intro qa
 ·rw[qrK h]
  refine kd (N:=21) (rs:=[.tmp 4]) Tryz.func140 ?_
  cases e1:decide (0<=i)
  ·repeat' first|(first|refine kcc ?_|apply kU|apply kF);simp only[go_sem,e1]|apply kh<;>intro qa
  ·have e2:decide (i<(ts.length:Int))=false:=by simp at e1 ⊢;omega
   repeat' first|(first|refine kcc ?_|apply kU|apply kF);simp only[go_sem,e1,e2]|apply kh<;>intro qa
theorem qmI(ts:List Tir)(role:Int)(hl:ts.length<=1000000):DCalls pP 105 [dv (.sl 4 (ts.map Tir.enc)),dv (li role)] (dv (li (qeS ts role))):=by
 have qK:=kmax
 refine kd (N:=24) (rs:=[.tmp 4]) Tryz.func105 ?_
 repeat first|apply kA|apply kB|(first|refine kcc ?_|apply kD|apply kE);simp only[go_sem]
 refine qC ts (fun k=>kn 24 [(0,dv (.sl 4 (ts.map Tir.enc))),(1,dv (li role)),(5,dv (li k))] qc) (fun k=>∀t∈ts.take k,(decide (role≠0)&&(t.role==role))=false) (by omega) kl (by simp) ?_ ?_
 ·intro k t ht hk hm htk hlt hw hi
  cases h0:role !=0
  ·have hz:role=0:=by simpa using h0
   have hd:(decide (role≠0)&&(t.role==role))=false:=by simp[hz]
   repeat' first|(first|refine kcc ?_|apply kU);simp only[go_sem,hlt,hw,h0]|apply kh<;>intro qa
   exact⟨qv htk hi hd,kl⟩
  ·have hne:role≠0:=by simpa using h0
   repeat' first|(first|refine kcc ?_|apply kU|apply kF);simp only[go_sem,hlt,hw,ht,h0,Tir.enc]|apply kh<;>intro qa
   ·rw[qeS,QE ht hi (by simp[hne];simpa using qa)]
   ·exact⟨qv htk hi (by simp[hne];simpa using qa),kl⟩
 ·intro hlt hi
  rw[wh]at hi
  repeat' first|(first|refine kcc ?_|apply kU|apply kF);simp only[go_sem,hlt]|apply kh<;>intro qa
  rw[qeS,QC hi]
theorem vP(d:Dcm)(id:Int)(hl:d.notes.length<=1000000):DCalls pP 19 [.agg d.row,dv (li id)] (.tup [.agg (getN d.notes id).1.row,dv (lb (getN d.notes id).2)]):=by
 have qK:=kmax
 refine kd (N:=28) (rs:=[.cell 4 62,.tmp 5]) Tryz.func19 ?_
 repeat first|apply kA|apply kB|(first|refine kcc ?_|apply kD|apply kE);simp +decide only[go_sem,Dcm.row]
 refine qC d.notes (fun k=>kn 28 [(1,dv (li id)),(2,.one (.bx 2 7 0 0)),(4,.one (.bx 4 7 0 0)),(6,dv (li k))] (ml [(2,[d.row]),(4,[noNte.row])])) (fun k=>∀n∈d.notes.take k,(n.id==id)=false) (by omega) (km (by simp +decide only[go_sem,Dcm.row,noNte,Nte.row])) (by simp) ?_ ?_
 ·intro k n hn hk hm htk hlt hw hi
  repeat' first|(first|refine kcc ?_|apply kU|apply kF);simp +decide only[go_sem,hlt,hw,hn,Nte.enc,Dcm.row]|apply kh<;>intro qa
  ·simp[getN,qdj hn hi qa,Nte.row]
  ·exact⟨qv htk hi qa,kmm⟩
 ·intro hlt hi
  rw[wh]at hi
  repeat' first|(first|refine kcc ?_|apply kU|apply kF);simp +decide only[go_sem,hlt,Dcm.row]|apply kh<;>intro qa
  simp[getN,qdi hi,noNte,Nte.row]
theorem qgV(d:Dcm)(id:Int)(hl:d.notes.length<=1000000):DCalls pP 71 [.agg d.row,dv (li id)] (.tup [.agg (getN d.notes id).1.row,dv (lb (getN d.notes id).2)]):=by
 have qK:=kmax
 refine kd (N:=22) (rs:=[.cell 4 62,.tmp 5]) Tryz.func71 ?_
 repeat first|apply kA|apply kB|(first|refine kcc ?_|apply kD|apply kE);simp +decide only[go_sem,Dcm.row]
 refine qC d.notes (fun k=>kn 22 [(1,dv (li id)),(4,.one (.bx 4 7 0 0)),(9,dv (.sl 7 (d.notes.map Nte.enc))),(10,dv (li d.notes.length)),(11,dv (li k))] (ml [(4,[noNte.row])])) (fun k=>∀n∈d.notes.take k,(n.id==id)=false) (by omega) (km (by simp +decide only[go_sem,noNte,Nte.row])) (by simp) ?_ ?_
 ·intro k n hn hk hm htk hlt hw hi
  repeat' first|(first|refine kcc ?_|apply kU|apply kF);simp +decide only[go_sem,hlt,hw,hn,Nte.enc]|apply kh<;>intro qa
  ·simp[getN,qdj hn hi qa,Nte.row]
  ·exact⟨qv htk hi qa,km (by simp +decide only[go_sem,noNte,Nte.row])⟩
 ·intro hlt hi
  rw[wh]at hi
  repeat' first|(first|refine kcc ?_|apply kU|apply kF);simp +decide only[go_sem,hlt]|apply kh<;>intro qa
  simp[getN,qdi hi,noNte,Nte.row]
def curU(U:List Nte)(r:Nat):Nte:=(U[r]?).getD noNte
theorem qa1{U:List Nte}{r:Nat}(h:r<U.length):U[r]? =some (curU U r):=by unfold curU;rw[wc h];rfl
theorem qrG{U:List Nte}{r:Nat}(h:U.length<=r):curU U r=noNte:=by unfold curU;rw[wZ h];rfl
theorem qdg{d:Dcm}(W:WfD d)(id:Int):getN d.notes id=(curU (d.up id) 0,decide (0<(d.up id).length)):=by
 rw[W.up_get id]
 cases h:(d.up id)[0]? with
 | none=>
  have h':=List.getElem?_eq_none_iff.1 h
  have e:decide (0<(d.up id).length)=false:=by simp only[decide_eq_false_iff_not];omega
  rw[qrG h',e]
 | some n=>
  have hl:=(wd.1 h).1
  rw[qa1 hl]at h;injection h with h
  have e:decide (0<(d.up id).length)=true:=by simp only[decide_eq_true_eq];omega
  rw[h,e]
theorem qfo{d:Dcm}(W:WfD d)(id:Int){r:Nat}(hr:r<(d.up id).length):getN d.notes (curU (d.up id) r).par=(curU (d.up id) (r+1),decide (r+1<(d.up id).length)):=by
 rw[W.up_next id r _ (qa1 hr)]
 cases h:(d.up id)[r+1]? with
 | none=>
  have h':=List.getElem?_eq_none_iff.1 h
  have e:decide (r+1<(d.up id).length)=false:=by simp only[decide_eq_false_iff_not];omega
  rw[qrG h',e]
 | some n=>
  have hl:=(wd.1 h).1
  rw[qa1 hl]at h;injection h with h
  have e:decide (r+1<(d.up id).length)=true:=by simp only[decide_eq_true_eq];omega
  rw[h,e]
theorem qjN{U:List Nte}{r:Nat}(h:r<U.length):ints ((U.take (r+1)).map (·.id))=ints ((U.take r).map (·.id))++[[li (curU U r).id]]:=by
 rw[qH (qa1 h)];simp
theorem chain_D(d:Dcm)(W:WfD d)(id:Int)(hl:d.notes.length<=1000000)(ht:d.tiers.length<=1000000):DCalls pP 88 [.agg d.row,dv (li id)] (dv (.sl 1 (ints (d.chain id)))):=by
 have qK:=kmax
 have hU:=W.up_le id
 have hg:=qgV d id hl
 rw[qdg W id]at hg
 simp only[Dcm.row,Nte.row]at hg
 have hn: ∀r,r<(d.up id).length->DCalls pP 71 [.agg d.row,dv (li (curU (d.up id) r).par)] (.tup [.agg (curU (d.up id) (r+1)).row,dv (lb (decide (r+1<(d.up id).length)))]):=fun r hr=>by
  have:=qgV d (curU (d.up id) r).par hl
  rwa [qfo W id hr]at this
 have hch:d.chain id=(d.up id).map (·.id):=rfl
 rw[hch]
 generalize d.up id=U at*
 refine kd (N:=29) (rs:=[.tmp 4]) Tryz.func88 ?_
 repeat' first|(first|refine kcc ?_|refine kx hg ?_|apply kU);simp +decide only[go_sem,Dcm.row]|apply kh<;>intro qa
 refine zl 5 5 1 (by simp +decide only[go_sem]) ?_
 refine vz (fun _:Unit=>kn 29 [(5,.one (.own 5 1 (ints (U.map (·.id)))))] qc) (fun _=>True) ?_ ?_
 ·refine qk (fun r:Nat=>kn 29 [(2,.one (.bx 2 7 0 0)),(5,.one (.own 5 1 (ints ((U.take r).map (·.id))))),(6,.one (.bx 6 7 0 0)),(7,dv (lb (decide (r<U.length))))] (ml [(2,[d.row]),(6,[(curU U r).row])])) (fun r=>r<=U.length) (fun r=>U.length - r) 0 (kM rfl (by simp +decide only[go_sem,wg,wn]) (by simp +decide only[go_sem,Dcm.row,Nte.row])) (by omega) ?_
  intro r hr
  cases h1:decide (r<U.length)
  ·have hre:r=U.length:=by simp at h1;omega
   repeat' first|(first|refine kcc ?_|apply kU);simp +decide only[go_sem]|apply kh<;>intro qa
   exact⟨(),kL rfl (by simp +decide only[go_sem,hre,wh]) (by simp[qc])⟩
  ·have hlt:r<U.length:=by simpa using h1
   have hb8:(((U.take r).length+1)*8<=140737488355328)=True:=by simp;omega
   have hk:=hn r hlt
   simp only[Dcm.row,Nte.row]at hk
   repeat' first|(first|refine kcc ?_|refine kx hk ?_|apply kU);simp +decide only[go_sem,hb8,Dcm.row,Nte.row]|apply kh<;>intro qa
   exact⟨r+1,by omega,by omega,kM rfl (by simp +decide only[go_sem,qjN hlt]) (by simp +decide only[go_sem])⟩
 rintro - -
 repeat' first|(first|refine kcc ?_|apply kU);simp +decide only[go_sem]|apply kh<;>intro qa
 refine qw 4 _ (DLe.own_ _ _ _) ?_
 apply kF;simp +decide only[go_sem]
theorem qeZ(d:Dcm)(W:WfD d)(id:Int)(hl:d.notes.length<=1000000)(ht:d.tiers.length<=1000000):DCalls pP 93 [.agg d.row,dv (li id)] (dv (.sl 1 (ints (d.chain id)))):=by
 have qK:=kmax
 have hU:=W.up_le id
 have hg:=vP d id hl
 rw[qdg W id]at hg
 simp only[Dcm.row,Nte.row]at hg
 have hn: ∀r,r<(d.up id).length->DCalls pP 19 [.agg d.row,dv (li (curU (d.up id) r).par)] (.tup [.agg (curU (d.up id) (r+1)).row,dv (lb (decide (r+1<(d.up id).length)))]):=fun r hr=>by
  have:=vP d (curU (d.up id) r).par hl
  rwa [qfo W id hr]at this
 have hch:d.chain id=(d.up id).map (·.id):=rfl
 rw[hch]
 generalize d.up id=U at*
 refine kd (N:=38) (rs:=[.tmp 4]) Tryz.func93 ?_
 repeat' first|(first|refine kcc ?_|refine kx hg ?_|apply kU);simp +decide only[go_sem,Dcm.row]|apply kh<;>intro qa
 refine zl 5 5 1 (by simp +decide only[go_sem]) ?_
 refine vz (fun _:Unit=>kn 38 [(5,.one (.own 5 1 (ints (U.map (·.id)))))] qc) (fun _=>True) ?_ ?_
 ·refine qk (fun r:Nat=>kn 38 [(2,.one (.bx 2 7 0 0)),(5,.one (.own 5 1 (ints ((U.take r).map (·.id))))),(6,.one (.bx 6 7 0 0)),(7,dv (lb (decide (r<U.length)))),(8,dv (li r))] (ml [(2,[d.row]),(6,[(curU U r).row])])) (fun r=>r<=U.length) (fun r=>U.length - r) 0 (kM rfl (by simp +decide only[go_sem,wg,wn]) (by simp +decide only[go_sem,Dcm.row,Nte.row])) (by omega) ?_
  intro r hr
  have h0:decide ((r:Int)<=(d.tiers.length:Int))=true:=by simp;omega
  cases h1:decide (r<U.length)
  ·have hre:r=U.length:=by simp at h1;omega
   repeat' first|(first|refine kcc ?_|apply kU);simp +decide only[go_sem,h0,Dcm.row]|apply kh<;>intro qa
   exact⟨(),kL rfl (by simp +decide only[go_sem,hre,wh]) (by simp[qc])⟩
  ·have hlt:r<U.length:=by simpa using h1
   have hb8:(((U.take r).length+1)*8<=140737488355328)=True:=by simp;omega
   have hw:=qt r (by omega)
   have hk:=hn r hlt
   simp only[Dcm.row,Nte.row]at hk
   repeat' first|(first|refine kcc ?_|refine kx hk ?_|apply kU);simp +decide only[go_sem,h0,hw,hb8,Dcm.row,Nte.row]|apply kh<;>intro qa
   exact⟨r+1,by omega,by omega,kM rfl (by simp +decide only[go_sem,qjN hlt]) (by simp +decide only[go_sem])⟩
 rintro - -
 repeat' first|(first|refine kcc ?_|apply kU);simp +decide only[go_sem]|apply kh<;>intro qa
 refine qw 4 _ (DLe.own_ _ _ _) ?_
 apply kF;simp +decide only[go_sem]
theorem qlZ{d:Dcm}{id:Int}{r:Nat}(hr:r<(d.up id).length)(hi: ∀j,j<r->alg d.tiers (curU (d.up id) j).tier=false)(h:alg d.tiers (curU (d.up id) r).tier=true):d.wher id=((curU (d.up id) r).span,true):=by
 have hf:(d.up id).find? (fun n=>alg d.tiers n.tier)=some (curU (d.up id) r):=qdj (qa1 hr) (fun y hy=>by
  obtain⟨j,hj⟩:=yq.1 hy
  have hjr:j<r:=by have:=(wd.1 hj).1;simp at this;omega
  rw[List.getElem?_take_of_lt hjr,qa1 (by omega)]at hj
  injection hj with hj;rw[<-hj];exact hi j hjr) h
 unfold Dcm.wher;rw[hf]
theorem qlY{d:Dcm}{id:Int}(hi: ∀j,j<(d.up id).length->alg d.tiers (curU (d.up id) j).tier=false):d.wher id=(⟨0,0⟩,false):=by
 have hf:(d.up id).find? (fun n=>alg d.tiers n.tier)=none:=qdi fun y hy=>by
  obtain⟨j,hj⟩:=yq.1 hy
  have hjr:=(wd.1 hj).1
  rw[qa1 hjr]at hj
  injection hj with hj;rw[<-hj];exact hi j hjr
 unfold Dcm.wher;rw[hf]
theorem qhH(d:Dcm)(W:WfD d)(id:Int)(hl:d.notes.length<=1000000)(ht:d.tiers.length<=1000000):DCalls pP 73 [.agg d.row,dv (li id)] (.tup [.agg (d.wher id).1.row,dv (lb (d.wher id).2)]):=by
 have qK:=kmax
 have hg:=qgV d id hl
 rw[qdg W id]at hg
 simp only[Dcm.row,Nte.row]at hg
 have hn: ∀r,r<(d.up id).length->DCalls pP 71 [.agg d.row,dv (li (curU (d.up id) r).par)] (.tup [.agg (curU (d.up id) (r+1)).row,dv (lb (decide (r+1<(d.up id).length)))]):=fun r hr=>by
  have:=qgV d (curU (d.up id) r).par hl
  rwa [qfo W id hr]at this
 have hwa:=fun r=>@qlZ d id r
 have hwn:=@qlY d id
 generalize d.up id=U at*
 refine kd (N:=35) (rs:=[.cell 4 60,.tmp 5]) Tryz.func73 ?_
 repeat' first|(first|refine kcc ?_|refine kx hg ?_|apply kU);simp only[go_sem,Dcm.row]|apply kh<;>intro qa
 refine vz (fun r:Nat=>kn 35 [(4,.one (.bx 4 2 0 0)),(6,.one (.bx 6 7 0 0)),(7,dv (lb (decide (r<U.length))))] (ml [(4,[[.c (li 0),.c (li 0)]]),(6,[(curU U r).row])])) (fun r=>r<=U.length/\(∀j,j<r->alg d.tiers (curU U j).tier=false)/\(r<U.length->alg d.tiers (curU U r).tier=true)) ?_ ?_
 ·refine qk (fun r:Nat=>kn 35 [(2,.one (.bx 2 7 0 0)),(4,.one (.bx 4 2 0 0)),(6,.one (.bx 6 7 0 0)),(7,dv (lb (decide (r<U.length))))] (ml [(2,[d.row]),(4,[[.c (li 0),.c (li 0)]]),(6,[(curU U r).row])])) (fun r=>r<=U.length/\∀j,j<r->alg d.tiers (curU U j).tier=false) (fun r=>U.length - r) 0 (km (by simp only[go_sem,Dcm.row,Nte.row])) ⟨by omega,by omega⟩ ?_
  rintro r ⟨hr,hi⟩
  have hal:=qiU d.tiers (curU U r).tier
  cases h1:decide (r<U.length)
  ·have hre:r=U.length:=by simp at h1;omega
   repeat' first|(first|refine kcc ?_|apply kU);simp only[go_sem,Dcm.row]|apply kh<;>intro qa
   refine⟨r,⟨hr,hi,by omega⟩,kM rfl (by simp only[go_sem,h1]) (by simp only[go_sem,Nte.row])⟩
  ·have hlt:r<U.length:=by simpa using h1
   have hk:=hn r hlt
   simp only[Dcm.row,Nte.row]at hk
   cases h2:alg d.tiers (curU U r).tier
   ·rw[h2]at hal
    repeat' first|(first|refine kcc ?_|refine kx hal ?_|refine kx hk ?_|apply kU);simp only[go_sem,Dcm.row,Nte.row]|apply kh<;>intro qa
    refine⟨r+1,⟨by omega,fun j hj=>?_⟩,by omega,kmm⟩
    rcases Nat.lt_succ_iff_lt_or_eq.1 hj with h|h
    ·exact hi j h
    ·rw[h];exact h2
   ·rw[h2]at hal
    repeat' first|(first|refine kcc ?_|refine kx hal ?_|refine kx hk ?_|apply kU);simp only[go_sem,Dcm.row,Nte.row]|apply kh<;>intro qa
    exact⟨r,⟨hr,hi,fun _=>h2⟩,kM rfl (by simp only[go_sem,h1]) (by simp only[go_sem])⟩
 rintro r ⟨hr,hi,h2⟩
 cases h1:decide (r<U.length)
 ·have hre:r=U.length:=by simp at h1;omega
  rw[hwn (fun j hj=>hi j (by omega))]
  repeat' first|(first|refine kcc ?_|apply kU|apply kF);simp only[go_sem,Nte.row]|apply kh<;>intro qa
  rfl
 ·have hlt:r<U.length:=by simpa using h1
  rw[hwa r hlt hi (h2 hlt)]
  repeat' first|(first|refine kcc ?_|apply kU|apply kF);simp only[go_sem,Nte.row]|apply kh<;>intro qa
  rfl
theorem qgo(d:Dcm)(W:WfD d)(hl:d.notes.length<=1000000): ∀(k:Nat) (a b:Nte),a∈d.notes->b∈d.notes->a.tier=b.tier->a.tier<k->DCalls pP 157 [.agg d.row,.agg a.row,.agg b.row] (dv (lb (d.bef a b)))
 | 0,a,b,ha,_,_,h=>by have:=(W.tier ha).1;omega
 | k+1,a,b,ha,hb,ht,h=>by
  have qK:=kmax
  cases h0:a.par !=b.par
  ·have hp:a.par=b.par:=by simpa using h0
   rw[W.bef_sib ha hb ht hp,<-W.key_eq ha hb ht]
   obtain⟨g1,g2,t,gt⟩:=W.tier ha
   have hk:=ZC t.kind
   have e3:a.tier.toNat<d.tiers.length:=by omega
   rw[qoN g1 gt]
   refine kd (N:=54) (rs:=[.tmp 6]) Tryz.func157 ?_
   cases h1:algK t.kind
   ·rw[h1]at hk
    repeat' first|(first|refine kcc ?_|refine kx hk ?_|apply kU|apply kF);simp only[go_sem,Dcm.row,Nte.row,h0,g1,gt,Tir.enc]|apply kh<;>intro qa
   ·rw[h1]at hk
    repeat' first|(first|refine kcc ?_|refine kx hk ?_|apply kU|apply kF);simp only[go_sem,Dcm.row,Nte.row,h0,g1,gt,Tir.enc]|apply kh<;>intro qa
  ·have hp:a.par≠b.par:=by simpa using h0
   obtain⟨p,hpm,q,hqm,e1,e2,e3,e4,e5,e6,e7⟩:=W.pars ha hb ht hp
   rw[W.bef_par ha hb ht hp e6 e7]
   have i1:=vP d a.par hl
   have i2:=vP d b.par hl
   rw[e6]at i1
   rw[e7]at i2
   have i3:=qgo d W hl k p q hpm hqm e3 (by omega)
   simp only[Dcm.row,Nte.row]at i1 i2 i3
   refine kd (N:=54) (rs:=[.tmp 6]) Tryz.func157 ?_
   repeat' first|(first|refine kcc ?_|refine kx i1 ?_|refine kx i2 ?_|refine kx i3 ?_|apply kU|apply kF);simp only[go_sem,Dcm.row,Nte.row,h0]|apply kh<;>intro qa
theorem qnQ(d:Dcm)(t:Int){k:Nat}{n:Nte}(h:d.notes.take (k+1)=d.notes.take k++[n]):insB d.bef ((d.notes.take (k+1)).filter fun n=>n.tier==t)=if(n.tier==t)=true then qU (fun y=>d.bef n y) (insB d.bef ((d.notes.take k).filter fun n=>n.tier==t)) n else insB d.bef ((d.notes.take k).filter fun n=>n.tier==t):=by
 rw[h,yG]
 cases hq:n.tier==t
 ·simp[hq]
 ·simp only[jl,hq,yi,if_true]
  unfold insB;rw[yp];rfl
end Go.Proofs.YtaaodllggdjhiaaGreatDoor
