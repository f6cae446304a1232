/- Dictionaries: the laws that compare with the reference. -/
import Derived.Sort.Walk0
import Derived.Test.YtehdkccjaeckhaaGreatDoorm5
set_option linter.all false
set_option linter.unusedVariables false
set_option linter.unusedSimpArgs false
set_option maxRecDepth 10000
set_option maxHeartbeats 8000000
namespace Go.Proofs.YtehdkccjaeckhaaGreatDoor
abbrev kq36:Nat→List (Nat×Go.Dl.Mode):=fun n=>match n with|18=>kpm17|_=> []
abbrev kq37:Nat→List (Nat×Go.Dl.Mode):=fun n=>match n with|4=>kpm3|6=>kpm3|_=> []
abbrev kpxb33:List (Nat×Go.Dl.Mode):= [(0,.light),(1,.light),(2,.light),(3,.light),(4,.light),(5,.step)]
abbrev kq33:Nat→List (Nat×Go.Dl.Mode):=fun n=>match n with|6=>kpm30|_=> []
abbrev kq38:Nat→List (Nat×Go.Dl.Mode):=fun n=>match n with|5=>kpxb33|6=>kpm2|_=> []
abbrev kpxb34:List (Nat×Go.Dl.Mode):= [(0,.light),(1,.light),(2,.light),(3,.light),(4,.light),(5,.light),(6,.light),(7,.step),(8,.light),(9,.light),(10,.light),(11,.light),(12,.light),(13,.light),(14,.light),(15,.light),(16,.light),(17,.light),(18,.light),(19,.light),(20,.light),(21,.light),(22,.light),(23,.light),(24,.light),(25,.light),(26,.light),(27,.light),(28,.light)]
abbrev kq39:Nat→List (Nat×Go.Dl.Mode):=fun n=>match n with|12=>kpxb34|_=> []
abbrev kpxb35:List (Nat×Go.Dl.Mode):= [(0,.light),(1,.light),(2,.light),(3,.light),(4,.light),(5,.light),(6,.light),(7,.light),(8,.light),(9,.light),(10,.step),(11,.light)]
abbrev kpxb36:List (Nat×Go.Dl.Mode):= [(0,.light),(1,.light),(2,.light),(3,.light),(4,.light),(5,.light),(6,.light),(7,.light),(8,.light),(9,.light),(10,.light),(11,.light),(12,.light),(13,.light),(14,.step),(15,.light)]
abbrev kq40:Nat→List (Nat×Go.Dl.Mode):=fun n=>match n with|1=>kpxb35|_=> []
abbrev kq41:Nat→List (Nat×Go.Dl.Mode):=fun n=>match n with|6=>kpxb36|_=> []
abbrev kpxb37:List (Nat×Go.Dl.Mode):= [(0,.light),(1,.light),(2,.light),(3,.step),(4,.step),(5,.light),(6,.step),(7,.light),(8,.light)]
abbrev kq42:Nat→List (Nat×Go.Dl.Mode):=fun n=>match n with|3=>kpxb37|_=> []
end Go.Proofs.YtehdkccjaeckhaaGreatDoor
open Go.Dl renaming dw_seq → kA, dw_block → kB, dw_reg → kC, dw_skip → kD, dw_exit → kE, dw_ret → kF, dw_cond → kG, guardC_f → kH, guardC_t → kI, dw_drw → kJ, dw_weaken → kK, sub_kn → kL, sub_ml → kM
open Go.Dl.CallC renaming mk → kN, light → kO
open Go.Dl.LeL renaming of_eq → kP
namespace Go.Proofs.YtehdkccjaeckhaaGreatDoor
open Go.Dl
attribute [local irreducible] DW DCalls ECalls wk IW
def gI(a:Fst):Int:=match a with
 | some x=>(x.1:Int)
 | none=> -1
def gK(a:Fst):Int:=match a with
 | some x=>(x.2.1:Int)
 | none=> -1
theorem rLetters_D(nm:ByteArray)(us:List Unt)(lt:List (List ByteArray))(s:ByteArray)(hl:lt.length≤1000000)(hll: ∀l∈lt,l.length≤1000000)(hs:s.size≤1048576):
  DCalls Tryz.prog 60 [.agg (ortRow nm us lt),dv (ls s)] (.tup [dv (.sl 1 (ints (lettersE lt s).1)),dv (.sl 1 (ints (lettersE lt s).2.1)),dv (lb (lettersE lt s).2.2)]):=by
 have hmax:maxLen=9223372036854775807:=rfl
 refine kd (N:=85) (rs:= [.tmp 4,.tmp 5,.tmp 6]) Tryz.func60 ?_
 (repeat'(first|apply kA|apply kB|((first|refine kc (N:=85) ?_|refine kj (N:=85) kq36 ?_|apply kD|apply kE);simp +decide only[go_sem])|(apply kG;(simp +decide only[go_sem];rfl);all_goals(intro hcnd;try exact kz hcnd))|((first|apply kH|apply kI)<;>(intro hcnd;simp +decide only[go_sem,hcnd]))))
 refine dw_own 7 7 1 (by simp +decide only[go_sem]) ?_
 refine dw_own 8 8 1 (by simp +decide only[go_sem]) ?_
 refine dw_loop_fam (fun y:Nat×List Int×List Int×Bool=>kn 85 [(1,dv (ls s)),(2,.one (.bx 2 3 0 0)),(7,.one (.own 7 1 (ints y.2.1))),(8,.one (.own 8 1 (ints y.2.2.1))),(9,dv (lb y.2.2.2)),(10,dv (li y.1))] (ml [(2,[ortRow nm us lt])]))
  (fun y=>y.1≤s.size∧y.2.1.length≤y.1∧y.2.2.1.length≤y.1∧lettersE lt s=lettersF lt s (s.size - y.1) y.1 y.2.1 y.2.2.1 y.2.2.2) (fun y=>s.size - y.1) (0,[],[],true) (kM rfl (by simp +decide only[go_sem,List.map_nil,ortRow,List.length_cons,List.length_nil]) (by simp +decide only[go_sem,ortRow])) ⟨by simp,by simp,by simp,rfl⟩ ?_
 rintro⟨p,a,b,all⟩ ⟨h1,h2,h3,h4⟩
 simp only at h1 h2 h3 h4 ⊢
 have r1:((a.length+1)*8≤140737488355328)=True:=by simp;omega
 have r2:((b.length+1)*8≤140737488355328)=True:=by simp;omega
 by_cases ha:p<s.size
 ·have t1:decide ((p:Int)<(s.size:Int))=true:=by simp;omega
  have z0:(p≤s.size)=True:=by simp;omega
  have hok:=firstE_ok lt (s.extract p s.size)
  obtain⟨m,hm⟩: ∃m,s.size - p=m+1:=⟨s.size - p - 1,by omega⟩
  rw[hm,lettersF,if_neg (by omega)]at h4
  (repeat'(first|apply kA|apply kB|((first|refine kc (N:=85) ?_|refine kj (N:=85) kq36 ?_|apply kD|apply kE);simp +decide only[go_sem,t1,ortRow])|(apply kG;(simp +decide only[go_sem,t1,ortRow];rfl);all_goals(intro hcnd;try exact kz hcnd))|((first|apply kH|apply kI)<;>(intro hcnd;simp +decide only[go_sem,hcnd,t1,ortRow]))))
  refine dw_rng0 lt (fun i=>kn 85 [(1,dv (ls s)),(2,.one (.bx 2 3 0 0)),(7,.one (.own 7 1 (ints a))),(8,.one (.own 8 1 (ints b))),(9,dv (lb all)),(10,dv (li p)),(11,dv (li (gI (letL lt (s.extract p s.size) i)))),(12,dv (li (gK (letL lt (s.extract p s.size) i)))),(13,dv (li (fstSz (letL lt (s.extract p s.size) i)))),(23,dv (li lt.length)),(24,dv (li i))] (ml [(2,[ortRow nm us lt])])) (by omega) (kM rfl (by simp +decide only[go_sem,letL,gI,gK,fstSz,ortRow]) (by simp +decide only[go_sem,ortRow])) ?_ ?_
  ·intro i vs he hk hmm htk hlt hw
   have hvl:=hll vs hmm
   (repeat'(first|apply kA|apply kB|((first|refine kc (N:=85) ?_|refine kj (N:=85) kq36 ?_|apply kD|apply kE);simp +decide only[go_sem,hlt,hw,he,ortRow])|(apply kG;(simp +decide only[go_sem,hlt,hw,he,ortRow];rfl);all_goals(intro hcnd;try exact kz hcnd))|((first|apply kH|apply kI)<;>(intro hcnd;simp +decide only[go_sem,hcnd,hlt,hw,he,ortRow]))))
   refine dw_rng0 vs (fun k=>kn 85 [(1,dv (ls s)),(2,.one (.bx 2 3 0 0)),(7,.one (.own 7 1 (ints a))),(8,.one (.own 8 1 (ints b))),(9,dv (lb all)),(10,dv (li p)),(11,dv (li (gI (letV (s.extract p s.size) i vs (letL lt (s.extract p s.size) i) k)))),(12,dv (li (gK (letV (s.extract p s.size) i vs (letL lt (s.extract p s.size) i) k)))),(13,dv (li (fstSz (letV (s.extract p s.size) i vs (letL lt (s.extract p s.size) i) k)))),(14,dv (li i)),(23,dv (li lt.length)),(24,dv (li i)),(32,dv (li vs.length)),(33,dv (li k))] (ml [(2,[ortRow nm us lt])])) (by omega) (kM rfl (by simp +decide only[go_sem,letV]) (by simp +decide only[go_sem,ortRow])) ?_ ?_
   ·intro k v hs1 hmk hms htm hlt2 hw2
    have hsu:=letV_succ (s:=s.extract p s.size) (i:=i) (a:=letL lt (s.extract p s.size) i) hs1
    generalize letV (s.extract p s.size) i vs (letL lt (s.extract p s.size) i) k=d at hsu ⊢
    by_cases t2:fstSz d<v.size
    ·have h5:((fstSz d:Int)<(v.size:Int))=True:=by simp;omega
     have hp:=rBegins_D (s.extract p s.size) v (by rw[ext_size];omega)
     cases t3:begB (s.extract p s.size) v
     ·rw[t3]at hp
      rw[if_neg (by simp[t3])]at hsu
      (repeat'(first|apply kA|apply kB|((first|refine kc (N:=85) ?_|refine kj (N:=85) kq36 ?_|apply kD|apply kE|refine kx hp ?_|apply kF);simp +decide only[go_sem,hlt2,hw2,he,hs1,h5,z0,ortRow])|(apply kG;(simp +decide only[go_sem,hlt2,hw2,he,hs1,h5,z0,ortRow];rfl);all_goals(intro hcnd;try exact kz hcnd))|((first|apply kH|apply kI)<;>(intro hcnd;simp +decide only[go_sem,hcnd,hlt2,hw2,he,hs1,h5,z0,ortRow]))))
      exact kM rfl (by simp +decide only[go_sem,hsu]) (by simp +decide only[go_sem,ortRow])
     ·rw[t3]at hp
      rw[if_pos (by simp[t2,t3])]at hsu
      (repeat'(first|apply kA|apply kB|((first|refine kc (N:=85) ?_|refine kj (N:=85) kq36 ?_|apply kD|apply kE|refine kx hp ?_|apply kF);simp +decide only[go_sem,hlt2,hw2,he,hs1,h5,z0,ortRow])|(apply kG;(simp +decide only[go_sem,hlt2,hw2,he,hs1,h5,z0,ortRow];rfl);all_goals(intro hcnd;try exact kz hcnd))|((first|apply kH|apply kI)<;>(intro hcnd;simp +decide only[go_sem,hcnd,hlt2,hw2,he,hs1,h5,z0,ortRow]))))
      exact kM rfl (by simp +decide only[go_sem,hsu,gI,gK,fstSz]) (by simp +decide only[go_sem,ortRow])
    ·have h5:((fstSz d:Int)<(v.size:Int))=False:=by simp;omega
     rw[if_neg (by simp[t2])]at hsu
     (repeat'(first|apply kA|apply kB|((first|refine kc (N:=85) ?_|refine kj (N:=85) kq36 ?_|apply kD|apply kE|apply kF);simp +decide only[go_sem,hlt2,hw2,he,hs1,h5,z0,ortRow])|(apply kG;(simp +decide only[go_sem,hlt2,hw2,he,hs1,h5,z0,ortRow];rfl);all_goals(intro hcnd;try exact kz hcnd))|((first|apply kH|apply kI)<;>(intro hcnd;simp +decide only[go_sem,hcnd,hlt2,hw2,he,hs1,h5,z0,ortRow]))))
     exact kM rfl (by simp +decide only[go_sem,hsu]) (by simp +decide only[go_sem,ortRow])
   ·intro hlt2
    (repeat'(first|apply kA|apply kB|((first|refine kc (N:=85) ?_|refine kj (N:=85) kq36 ?_|apply kD|apply kE);simp +decide only[go_sem,hlt2,hw])|(apply kG;(simp +decide only[go_sem,hlt2,hw];rfl);all_goals(intro hcnd;try exact kz hcnd))|((first|apply kH|apply kI)<;>(intro hcnd;simp +decide only[go_sem,hcnd,hlt2,hw]))))
    exact kM rfl (by simp +decide only[go_sem,letL_succ he]) (by simp +decide only[go_sem,ortRow])
  ·intro hlt
   rw[← firstE]
   cases hf:firstE lt (s.extract p s.size)with
   | none=>
    rw[hf]at h4
    simp only at h4
    have hlp:p<s.data.toList.length:=by simpa using ha
    obtain⟨bt,hbt⟩: ∃bt,s.data.toList[p]? =some bt:=⟨_,List.getElem?_eq_getElem hlp⟩
    have hby:byteAt s p=(bt.toNat:Int):=by unfold byteAt;rw[hbt];rfl
    have h256:bt.toNat<256:=bt.toNat_lt
    have u0:IntKind.i64.wrap (bt.toNat:Int)=(bt.toNat:Int):=wrap_i64 (by omega) (by omega)
    have u1:IntKind.i64.wrap ((lt.length:Int)+(bt.toNat:Int))=(lt.length:Int)+(bt.toNat:Int):=wrap_i64 (by omega) (by omega)
    have u2:IntKind.i64.wrap ((p:Int)+1)=((p+1:Nat):Int):=wrap_succ p (by omega)
    (repeat'(first|apply kA|apply kB|((first|refine kc (N:=85) ?_|refine kj (N:=85) kq36 ?_|apply kD|apply kE);simp +decide only[go_sem,hlt,gI,gK,fstSz,ortRow,hbt,u0,u1,r1,r2,u2])|(apply kG;(simp +decide only[go_sem,hlt,gI,gK,fstSz,ortRow,hbt,u0,u1,r1,r2,u2];rfl);all_goals(intro hcnd;try exact kz hcnd))|((first|apply kH|apply kI)<;>(intro hcnd;simp +decide only[go_sem,hcnd,hlt,gI,gK,fstSz,ortRow,hbt,u0,u1,r1,r2,u2]))))
    refine⟨(p+1,a++ [(lt.length:Int)+byteAt s p],b++ [0],false),⟨by simp only;omega,by simp;omega,by simp;omega,?_⟩,by simp only;omega,kM rfl (by simp +decide only[go_sem,ints_snoc,hby,u0,u1,u2]) (by simp +decide only[go_sem,ortRow])⟩
    simp only
    rw[h4,show s.size - (p+1)=m by omega]
   | some x=>
    rw[hf]at h4
    simp only at h4
    obtain⟨x1,x2,x3,-⟩:=hok x hf
    have x4:x.2.2≤s.size - p:=by rw[ext_size]at x3;exact x3
    have u2:IntKind.i64.wrap ((p:Int)+(x.2.2:Int))=((p+x.2.2:Nat):Int):=by rw[wrap_i64 (by omega) (by omega)];rfl
    have t4:((x.1:Int)<0)=False:=by simp
    (repeat'(first|apply kA|apply kB|((first|refine kc (N:=85) ?_|refine kj (N:=85) kq36 ?_|apply kD|apply kE);simp +decide only[go_sem,hlt,gI,gK,fstSz,ortRow,r1,r2,u2,t4])|(apply kG;(simp +decide only[go_sem,hlt,gI,gK,fstSz,ortRow,r1,r2,u2,t4];rfl);all_goals(intro hcnd;try exact kz hcnd))|((first|apply kH|apply kI)<;>(intro hcnd;simp +decide only[go_sem,hcnd,hlt,gI,gK,fstSz,ortRow,r1,r2,u2,t4]))))
    refine⟨(p+x.2.2,a++ [(x.1:Int)],b++ [(x.2.1:Int)],all),⟨by simp only;omega,by simp;omega,by simp;omega,?_⟩,by simp only;omega,kM rfl (by simp +decide only[go_sem,ints_snoc,u2]) (by simp +decide only[go_sem,ortRow])⟩
    simp only
    rw[h4]
    exact lettersF_fuel lt s _ _ _ _ _ _ (by omega) (by omega)
 ·have t1:decide ((p:Int)<(s.size:Int))=false:=by simp;omega
  (repeat'(first|apply kA|apply kB|((first|refine kc (N:=85) ?_|refine kj (N:=85) kq36 ?_|apply kD|apply kE);simp +decide only[go_sem,t1])|(apply kG;(simp +decide only[go_sem,t1];rfl);all_goals(intro hcnd;try exact kz hcnd))|((first|apply kH|apply kI)<;>(intro hcnd;simp +decide only[go_sem,hcnd,t1]))))
  refine dw_slot 4 _ (DLe.own_ _ _ _) ?_
  refine dw_slot 5 _ (DLe.own_ _ _ _) ?_
  apply kF;simp +decide only[go_sem]
  have:s.size - p=0:=by omega
  rw[this,lettersF]at h4
  rw[h4]
theorem rOrder_D(a b:List Int)(ha:a.length≤1048576)(hb:b.length≤1048576):DCalls Tryz.prog 62 [dv (.sl 1 (ints a)),dv (.sl 1 (ints b))] (dv (li (cmpL a b))):=by
 have hmax:maxLen=9223372036854775807:=rfl
 refine kd (N:=46) (rs:= [.tmp 4]) Tryz.func62 ?_
 (repeat(first|apply kA|apply kB|((first|refine kc (N:=46) ?_|refine kj (N:=46) kq37 ?_|apply kD|apply kE);simp +decide only[go_sem])))
 refine dw_loop_fam (fun k:Nat=>kn 46 [(0,dv (.sl 1 (ints a))),(1,dv (.sl 1 (ints b))),(5,dv (li k))] noMem)
  (fun k=>k≤a.length∧k≤b.length∧cmpL a b=cmpL (a.drop k) (b.drop k)) (fun k=>a.length - k) 0 (kL rfl (by simp +decide only[go_sem]) (by simp[noMem])) ⟨by omega,by omega,rfl⟩ ?_
 rintro k ⟨h1,h2,h3⟩
 by_cases ka:k<a.length
 ·have t1:((k:Int)<(a.length:Int))=True:=by simp;omega
  by_cases kb:k<b.length
  ·have t2:((k:Int)<(b.length:Int))=True:=by simp;omega
   have ea:a[k]? =some a[k]:=List.getElem?_eq_getElem ka
   have eb:b[k]? =some b[k]:=List.getElem?_eq_getElem kb
   generalize a[k]=x at ea
   generalize b[k]=y at eb
   rw[drop_at2 ea,drop_at2 eb,cmpL_cons]at h3
   have fa:=ints_at2 ea
   have fb:=ints_at2 eb
   have u2:IntKind.i64.wrap ((k:Int)+1)=((k+1:Nat):Int):=wrap_succ k (by omega)
   by_cases g1:x<y
   ·rw[if_pos g1]at h3
    have v1:decide (x<y)=true:=by simpa using g1
    (repeat'(first|apply kA|apply kB|((first|refine kc (N:=46) ?_|refine kj (N:=46) kq37 ?_|apply kD|apply kE|apply kF);simp +decide only[go_sem,t1,t2,fa,fb,v1])|(apply kG;(simp +decide only[go_sem,t1,t2,fa,fb,v1];rfl);all_goals(intro hcnd;try exact kz hcnd))|((first|apply kH|apply kI)<;>(intro hcnd;simp +decide only[go_sem,hcnd,t1,t2,fa,fb,v1]))))
    rw[h3]
   ·rw[if_neg g1]at h3
    have v1:decide (x<y)=false:=by simpa using g1
    by_cases g2:y<x
    ·rw[if_pos g2]at h3
     have v2:decide (y<x)=true:=by simpa using g2
     (repeat'(first|apply kA|apply kB|((first|refine kc (N:=46) ?_|refine kj (N:=46) kq37 ?_|apply kD|apply kE|apply kF);simp +decide only[go_sem,t1,t2,fa,fb,v1,v2])|(apply kG;(simp +decide only[go_sem,t1,t2,fa,fb,v1,v2];rfl);all_goals(intro hcnd;try exact kz hcnd))|((first|apply kH|apply kI)<;>(intro hcnd;simp +decide only[go_sem,hcnd,t1,t2,fa,fb,v1,v2]))))
     rw[h3]
    ·rw[if_neg g2]at h3
     have v2:decide (y<x)=false:=by simpa using g2
     (repeat'(first|apply kA|apply kB|((first|refine kc (N:=46) ?_|refine kj (N:=46) kq37 ?_|apply kD|apply kE|apply kF);simp +decide only[go_sem,t1,t2,fa,fb,v1,v2,u2])|(apply kG;(simp +decide only[go_sem,t1,t2,fa,fb,v1,v2,u2];rfl);all_goals(intro hcnd;try exact kz hcnd))|((first|apply kH|apply kI)<;>(intro hcnd;simp +decide only[go_sem,hcnd,t1,t2,fa,fb,v1,v2,u2]))))
     exact⟨k+1,⟨by omega,by omega,h3⟩,by omega,kL rfl (by simp +decide only[go_sem,u2]) (by simp[noMem])⟩
  ·have t2:((k:Int)<(b.length:Int))=False:=by simp;omega
   have hk:k=b.length:=by omega
   subst hk
   rw[drop_at2 (List.getElem?_eq_getElem ka),List.drop_length,cmpL_cn]at h3
   have t3:((a.length:Int)<(b.length:Int))=False:=by simp;omega
   have t4:((b.length:Int)<(a.length:Int))=True:=by simp;omega
   (repeat'(first|apply kA|apply kB|((first|refine kc (N:=46) ?_|refine kj (N:=46) kq37 ?_|apply kD|apply kE|apply kF);simp +decide only[go_sem,t1,t2,t3,t4])|(apply kG;(simp +decide only[go_sem,t1,t2,t3,t4];rfl);all_goals(intro hcnd;try exact kz hcnd))|((first|apply kH|apply kI)<;>(intro hcnd;simp +decide only[go_sem,hcnd,t1,t2,t3,t4]))))
   rw[h3]
 ·have t1:((k:Int)<(a.length:Int))=False:=by simp;omega
  have hk:k=a.length:=by omega
  subst hk
  rw[List.drop_length]at h3
  by_cases kb:a.length<b.length
  ·rw[drop_at2 (List.getElem?_eq_getElem kb),cmpL_nc]at h3
   have t3:((a.length:Int)<(b.length:Int))=True:=by simp;omega
   (repeat'(first|apply kA|apply kB|((first|refine kc (N:=46) ?_|refine kj (N:=46) kq37 ?_|apply kD|apply kE|apply kF);simp +decide only[go_sem,t1,t3])|(apply kG;(simp +decide only[go_sem,t1,t3];rfl);all_goals(intro hcnd;try exact kz hcnd))|((first|apply kH|apply kI)<;>(intro hcnd;simp +decide only[go_sem,hcnd,t1,t3]))))
   rw[h3]
  ·have e:a.length=b.length:=by omega
   rw[e,List.drop_length,cmpL_nil]at h3
   have t3:((a.length:Int)<(b.length:Int))=False:=by simp;omega
   have t4:((b.length:Int)<(a.length:Int))=False:=by simp;omega
   (repeat'(first|apply kA|apply kB|((first|refine kc (N:=46) ?_|refine kj (N:=46) kq37 ?_|apply kD|apply kE|apply kF);simp +decide only[go_sem,t1,t3,t4])|(apply kG;(simp +decide only[go_sem,t1,t3,t4];rfl);all_goals(intro hcnd;try exact kz hcnd))|((first|apply kH|apply kI)<;>(intro hcnd;simp +decide only[go_sem,hcnd,t1,t3,t4]))))
   rw[h3]
theorem strLt_lst(a b:ByteArray):strLt a b=true↔a.data.toList<b.data.toList:=by
 unfold strLt;rw[bytesLess_eq,ByteArray.toList_eq,ByteArray.toList_eq];simp
theorem map_lt: ∀a b:List UInt8,(a.map fun b=>(b.toNat:Int))<(b.map fun b=>(b.toNat:Int))↔a<b
 | [],[]=>by simp
 | [],y::b=>by simp
 | x::a,[]=>by simp
 | x::a,y::b=>by
  rw[List.map_cons,List.map_cons,List.cons_lt_cons_iff,List.cons_lt_cons_iff,map_lt a b,UInt8.lt_iff_toNat_lt,← UInt8.toNat_inj]
  constructor<;>rintro(h|⟨h,h2⟩)<;>first|exact .inl (by omega)|exact .inr ⟨by omega,h2⟩
theorem byteL_inj{a b:ByteArray}(h:byteL a=byteL b):a=b:=by
 have h2:a.data.toList=b.data.toList:=by
  refine List.map_inj_right (f:=fun b:UInt8=>(b.toNat:Int)) (fun x y h=>?_) |>.1 h
  exact UInt8.toNat_inj.1 (by omega)
 cases a;cases b
 simpa using h2
theorem strLt_byteL(a b:ByteArray):strLt a b=decide (byteL a<byteL b):=by
 have h:=(strLt_lst a b).trans (map_lt a.data.toList b.data.toList).symm
 unfold byteL
 cases e:strLt a b
 ·symm;rw[decide_eq_false_iff_not];intro hh;rw[h.2 hh]at e;cases e
 ·symm;rw[decide_eq_true_iff];exact h.1 e
theorem rCompare_D(nm:ByteArray)(us:List Unt)(lt:List (List ByteArray))(s t:ByteArray)(hl:lt.length≤1000000)(hll: ∀l∈lt,l.length≤1000000)(hs:s.size≤1048576)(ht:t.size≤1048576):
  DCalls Tryz.prog 32 [.agg (ortRow nm us lt),dv (ls s),dv (ls t)] (dv (li (cmpK (keyE lt s) (keyE lt t)))):=by
 have hmax:maxLen=9223372036854775807:=rfl
 have hA:=rLetters_D nm us lt s hl hll hs
 have hB:=rLetters_D nm us lt t hl hll ht
 have la:=letters_len lt s
 have lb':=letters_len lt t
 have e:=or3_key (lettersE lt s).1 (lettersE lt s).2.1 (byteL s) (lettersE lt t).1 (lettersE lt t).2.1 (byteL t)
 rw[keyE,keyE]
 change _=cmpK [(lettersE lt s).1,(lettersE lt s).2.1,byteL s] [(lettersE lt t).1,(lettersE lt t).2.1,byteL t]at e
 change DCalls _ _ _ (dv (li (cmpK [(lettersE lt s).1,(lettersE lt s).2.1,byteL s] [(lettersE lt t).1,(lettersE lt t).2.1,byteL t])))
 rw[← e]
 clear e
 generalize lettersE lt s=r at hA la
 generalize lettersE lt t=q at hB lb'
 obtain⟨a,b,aa⟩:=r
 obtain⟨c,d,bb⟩:=q
 simp only at hA hB la lb' ⊢
 have h1:=rOrder_D a c (by omega) (by omega)
 have h2:=rOrder_D b d (by omega) (by omega)
 unfold or3
 rcases Bool.eq_false_or_eq_true (cmpL a c !=0)with t1|t1
 ·rw[if_pos (by simpa using t1)]
  refine kd (N:=47) (rs:= [.tmp 6]) Tryz.func32 ?_
  (repeat'(first|apply kA|apply kB|((first|refine kc (N:=47) ?_|apply kD|apply kE|refine kx hA ?_|refine kx hB ?_|refine kx h1 ?_|apply kF);simp +decide only[go_sem,ortRow,t1])|(apply kG;(simp +decide only[go_sem,ortRow,t1];rfl);all_goals(intro hcnd;try exact kz hcnd))))
 ·rw[if_neg (by simpa using t1)]
  rcases Bool.eq_false_or_eq_true (cmpL b d !=0)with t2|t2
  ·rw[if_pos (by simpa using t2)]
   refine kd (N:=47) (rs:= [.tmp 6]) Tryz.func32 ?_
   (repeat'(first|apply kA|apply kB|((first|refine kc (N:=47) ?_|apply kD|apply kE|refine kx hA ?_|refine kx hB ?_|refine kx h1 ?_|refine kx h2 ?_|apply kF);simp +decide only[go_sem,ortRow,t1,t2])|(apply kG;(simp +decide only[go_sem,ortRow,t1,t2];rfl);all_goals(intro hcnd;try exact kz hcnd))))
  ·rw[if_neg (by simpa using t2)]
   have x1:=strLt_byteL s t
   have x2:=strLt_byteL t s
   by_cases g1:byteL s<byteL t
   ·rw[decide_eq_true g1]at x1
    refine kd (N:=47) (rs:= [.tmp 6]) Tryz.func32 ?_
    (repeat'(first|apply kA|apply kB|((first|refine kc (N:=47) ?_|apply kD|apply kE|refine kx hA ?_|refine kx hB ?_|refine kx h1 ?_|refine kx h2 ?_|apply kF);simp +decide only[go_sem,ortRow,t1,t2,x1])|(apply kG;(simp +decide only[go_sem,ortRow,t1,t2,x1];rfl);all_goals(intro hcnd;try exact kz hcnd))))
    rw[cmpL,if_pos g1]
   ·rw[decide_eq_false g1]at x1
    by_cases g2:byteL t<byteL s
    ·rw[decide_eq_true g2]at x2
     have x3:(s==t)=false:=bytes_ne fun h=>by subst h;exact List.lt_irrefl _ g2
     refine kd (N:=47) (rs:= [.tmp 6]) Tryz.func32 ?_
     (repeat'(first|apply kA|apply kB|((first|refine kc (N:=47) ?_|apply kD|apply kE|refine kx hA ?_|refine kx hB ?_|refine kx h1 ?_|refine kx h2 ?_|apply kF);simp +decide only[go_sem,ortRow,t1,t2,x1,x2,x3])|(apply kG;(simp +decide only[go_sem,ortRow,t1,t2,x1,x2,x3];rfl);all_goals(intro hcnd;try exact kz hcnd))))
     rw[cmpL,if_neg g1,if_pos g2]
    ·rw[decide_eq_false g2]at x2
     have x3:(s==t)=true:=(bytes_eq s t).2 (byteL_inj (List.le_antisymm (List.not_lt.1 g2) (List.not_lt.1 g1)))
     refine kd (N:=47) (rs:= [.tmp 6]) Tryz.func32 ?_
     (repeat'(first|apply kA|apply kB|((first|refine kc (N:=47) ?_|apply kD|apply kE|refine kx hA ?_|refine kx hB ?_|refine kx h1 ?_|refine kx h2 ?_|apply kF);simp +decide only[go_sem,ortRow,t1,t2,x1,x2,x3])|(apply kG;(simp +decide only[go_sem,ortRow,t1,t2,x1,x2,x3];rfl);all_goals(intro hcnd;try exact kz hcnd))))
     rw[cmpL,if_neg g1,if_neg g2]
theorem rTextP_D(g:List Phon)(w:List Int)(hg: ∀p∈g,p.name.size≤1048576)(hgl:g.length≤1048576)(hw:w.length≤1048576):DCalls Tryz.prog 40 [.agg (invRow g),dv (.sl 1 (ints w))] (dv (ls (textP g w))):=by
 have hmax:maxLen=9223372036854775807:=rfl
 refine kd (N:=32) (rs:= [.tmp 4]) Tryz.func40 ?_
 (repeat(first|apply kA|apply kB|((first|refine kc (N:=32) ?_|refine kj (N:=32) kq38 ?_|apply kD|apply kE);simp +decide only[go_sem])))
 refine dw_rng0 w (fun k=>kn 32 [(1,dv (.sl 1 (ints w))),(2,.one (.bx 2 1 0 0)),(5,dv (ls (textP g (w.take k)))),(8,dv (li w.length)),(9,dv (li k))] (ml [(2,[invRow g])])) (by omega) (kM rfl (by simp +decide only[go_sem,List.take_zero,textP,List.foldl_nil,invRow,List.length_cons,List.length_nil,empty_mk]) (by simp +decide only[go_sem,invRow])) ?_ ?_
 ·intro k n he hk hmm htk hlt hwr
  have fa:=ints_at2 he
  have hs:=rIs_D g n
  have hst:textP g (w.take (k+1))=if segOk g n=true then textP g (w.take k)++nameAt g n else textP g (w.take k):=by rw[htk];exact textP_snoc g _ n
  have hle:=textP_le hg w k
  cases t1:segOk g n
  ·rw[t1]at hs hst
   rw[if_neg (by decide)]at hst
   (repeat'(first|apply kA|apply kB|((first|refine kc (N:=32) ?_|refine kj (N:=32) kq38 ?_|apply kD|apply kE|refine kx hs ?_|apply kF);simp +decide only[go_sem,hlt,hwr,fa,invRow])|(apply kG;(simp +decide only[go_sem,hlt,hwr,fa,invRow];rfl);all_goals(intro hcnd;try exact kz hcnd))))
   exact kM rfl (by simp +decide only[go_sem,hst]) (by simp +decide only[go_sem,invRow])
  ·rw[t1]at hs hst
   rw[if_pos rfl]at hst
   obtain⟨j,p,rfl,e1,e2⟩:=seg_name t1
   have hn:=nameAt_size hg ((j:Int)+1)
   have hj:=(List.getElem?_eq_some_iff.1 e1).1
   rw[e2]at hst hn
   have u1:IntKind.i64.wrap ((j:Int)+1 - 1)=(j:Int):=by rw[wrap_i64 (by omega) (by omega)];omega
   have u2:((textP g (w.take k)).size+p.name.size≤maxLen)=True:=by
    simp only[eq_iff_iff,iff_true]
    have:k*1048576≤1048576*1048576:=Nat.mul_le_mul_right _ (by omega)
    omega
   (repeat'(first|apply kA|apply kB|((first|refine kc (N:=32) ?_|refine kj (N:=32) kq38 ?_|apply kD|apply kE|refine kx hs ?_|apply kF);simp +decide only[go_sem,hlt,hwr,fa,invRow,u1,e1,u2,Phon.enc])|(apply kG;(simp +decide only[go_sem,hlt,hwr,fa,invRow,u1,e1,u2,Phon.enc];rfl);all_goals(intro hcnd;try exact kz hcnd))))
   exact kM rfl (by simp +decide only[go_sem,hst]) (by simp +decide only[go_sem,invRow])
 ·intro hlt
  rw[List.take_length]
  (repeat'(first|apply kA|apply kB|((first|refine kc (N:=32) ?_|refine kj (N:=32) kq38 ?_|apply kD|apply kE|apply kF);simp +decide only[go_sem,hlt])|(apply kG;(simp +decide only[go_sem,hlt];rfl);all_goals(intro hcnd;try exact kz hcnd))))
theorem starts_iff(w:List Int)(u:Unt):startsU w u=decide (u.segs <+: w):=rfl
theorem rStarts_D(w:List Int)(p:Nat)(u:Unt)(hp:p≤w.length)(hw:w.length≤1048576)(hu:u.segs.length≤1048576):DCalls Tryz.prog 74 [dv (.sl 1 (ints w)),dv (li p),.agg u.row] (dv (lb (startsU (w.drop p) u))):=by
 have hmax:maxLen=9223372036854775807:=rfl
 have u0:IntKind.i64.wrap ((w.length:Int) - (p:Int))=((w.length - p:Nat):Int):=by rw[wrap_i64 (by omega) (by omega)];omega
 rw[starts_iff]
 by_cases h0:w.length - p<u.segs.length
 ·have t1:decide (((w.length - p:Nat):Int)<(u.segs.length:Int))=true:=by simp;omega
  have e:decide (u.segs <+: w.drop p)=false:=by
   rw[decide_eq_false_iff_not]
   intro h
   have:=h.length_le
   rw[List.length_drop]at this
   omega
  rw[e]
  refine kd (N:=35) (rs:= [.tmp 6]) Tryz.func74 ?_
  (repeat'(first|apply kA|apply kB|((first|refine kc (N:=35) ?_|refine kj (N:=35) kq33 ?_|apply kD|apply kE|apply kF);simp +decide only[go_sem,Unt.row,u0,t1])|(apply kG;(simp +decide only[go_sem,Unt.row,u0,t1];rfl);all_goals(intro hcnd;try exact kz hcnd))))
 ·have t1:decide (((w.length - p:Nat):Int)<(u.segs.length:Int))=false:=by simp;omega
  refine kd (N:=35) (rs:= [.tmp 6]) Tryz.func74 ?_
  (repeat'(first|apply kA|apply kB|((first|refine kc (N:=35) ?_|refine kj (N:=35) kq33 ?_|apply kD|apply kE);simp +decide only[go_sem,Unt.row,u0,t1])|(apply kG;(simp +decide only[go_sem,Unt.row,u0,t1];rfl);all_goals(intro hcnd;try exact kz hcnd))))
  refine dw_rngI u.segs (fun k=>kn 35 [(0,dv (.sl 1 (ints w))),(1,dv (li p)),(5,.one (.bx 5 2 0 0)),(7,dv (li k))] (ml [(5,[u.row])])) (fun k=>u.segs.take k=(w.drop p).take k) (by omega) (kM rfl (by simp +decide only[go_sem,Unt.row,List.length_cons,List.length_nil]) (by simp +decide only[go_sem,Unt.row])) (by simp) ?_ ?_
  ·intro k x he hk hmm htk hlt hwr hi
   have hpk:p+k<w.length:=by omega
   have ew:w[p+k]? =some w[p+k]:=List.getElem?_eq_getElem hpk
   generalize w[p+k]=y at ew
   have fa:=ints_at2 he
   have fb:=ints_at2 ew
   have u1:IntKind.i64.wrap ((p:Int)+(k:Int))=((p+k:Nat):Int):=by rw[wrap_i64 (by omega) (by omega)];omega
   have ed:(w.drop p)[k]? =some y:=by rw[List.getElem?_drop];exact ew
   have htd:(w.drop p).take (k+1)=(w.drop p).take k++ [y]:=by rw[List.take_add_one,ed];rfl
   rcases Bool.eq_false_or_eq_true (y !=x)with t2|t2
   ·have e:decide (u.segs <+: w.drop p)=false:=by
     rw[decide_eq_false_iff_not]
     rintro⟨r,hr⟩
     rw[← hr,List.getElem?_append_left hk,he]at ed
     injection ed with ed
     rw[ed]at t2
     simp at t2
    rw[e]
    (repeat'(first|apply kA|apply kB|((first|refine kc (N:=35) ?_|refine kj (N:=35) kq33 ?_|apply kD|apply kE|apply kF);simp +decide only[go_sem,hlt,hwr,fa,fb,u1,t2,Unt.row])|(apply kG;(simp +decide only[go_sem,hlt,hwr,fa,fb,u1,t2,Unt.row];rfl);all_goals(intro hcnd;try exact kz hcnd))))
   ·have hxy:y=x:=by simpa using t2
    (repeat'(first|apply kA|apply kB|((first|refine kc (N:=35) ?_|refine kj (N:=35) kq33 ?_|apply kD|apply kE|apply kF);simp +decide only[go_sem,hlt,hwr,fa,fb,u1,t2,Unt.row])|(apply kG;(simp +decide only[go_sem,hlt,hwr,fa,fb,u1,t2,Unt.row];rfl);all_goals(intro hcnd;try exact kz hcnd))))
    exact⟨by rw[htk,htd,hi,hxy],kM rfl (by simp +decide only[go_sem,hwr]) (by simp +decide only[go_sem,Unt.row])⟩
  ·intro hlt hi
   rw[List.take_length]at hi
   have e:decide (u.segs <+: w.drop p)=true:=by
    rw[decide_eq_true_iff,hi]
    exact List.take_prefix _ _
   rw[e]
   (repeat'(first|apply kA|apply kB|((first|refine kc (N:=35) ?_|refine kj (N:=35) kq33 ?_|apply kD|apply kE|apply kF);simp +decide only[go_sem,hlt,Unt.row])|(apply kG;(simp +decide only[go_sem,hlt,Unt.row];rfl);all_goals(intro hcnd;try exact kz hcnd))))
theorem rSpell_D(nm:ByteArray)(us:List Unt)(lt:List (List ByteArray))(w:List Int)(ho:OkU us)(hl:us.length≤1000000)(hg: ∀u∈us,u.graph.size≤1048576)(hsg: ∀u∈us,u.segs.length≤1048576):
  DCalls Tryz.prog 39 [.agg (ortRow nm us lt),dv (.sl 1 (ints w))] (.tup [dv (ls (spellE us w).1),dv (li (spellE us w).2.1),dv (li (spellE us w).2.2)]):=by
 have hmax:maxLen=9223372036854775807:=rfl
 unfold spellE
 by_cases w0:w.length=0
 ·have t1:((w.length:Int)==0)=true:=by rw[beq_iff_eq];omega
  rw[if_pos w0]
  refine kd (N:=79) (rs:= [.tmp 4,.tmp 5,.tmp 6]) Tryz.func39 ?_
  (repeat'(first|apply kA|apply kB|((first|refine kc (N:=79) ?_|refine kj (N:=79) kq39 ?_|apply kD|apply kE|apply kF);simp +decide only[go_sem,t1])|(apply kG;(simp +decide only[go_sem,t1];rfl);all_goals(intro hcnd;try exact kz hcnd))|((first|apply kH|apply kI)<;>(intro hcnd;simp +decide only[go_sem,hcnd,t1]))))
  rfl
 rw[if_neg w0]
 have t1:((w.length:Int)==0)=false:=by rw[beq_eq_false_iff_ne];omega
 by_cases w1:24<w.length
 ·have t2:decide ((24:Int)<(w.length:Int))=true:=by simp;omega
  rw[if_pos w1]
  refine kd (N:=79) (rs:= [.tmp 4,.tmp 5,.tmp 6]) Tryz.func39 ?_
  (repeat'(first|apply kA|apply kB|((first|refine kc (N:=79) ?_|refine kj (N:=79) kq39 ?_|apply kD|apply kE|apply kF);simp +decide only[go_sem,t1,t2])|(apply kG;(simp +decide only[go_sem,t1,t2];rfl);all_goals(intro hcnd;try exact kz hcnd))|((first|apply kH|apply kI)<;>(intro hcnd;simp +decide only[go_sem,hcnd,t1,t2]))))
  rfl
 rw[if_neg w1]
 have t2:decide ((24:Int)<(w.length:Int))=false:=by simp;omega
 refine kd (N:=79) (rs:= [.tmp 4,.tmp 5,.tmp 6]) Tryz.func39 ?_
 (repeat'(first|apply kA|apply kB|((first|refine kc (N:=79) ?_|refine kj (N:=79) kq39 ?_|apply kD|apply kE);simp +decide only[go_sem,t1,t2])|(apply kG;(simp +decide only[go_sem,t1,t2];rfl);all_goals(intro hcnd;try exact kz hcnd))|((first|apply kH|apply kI)<;>(intro hcnd;simp +decide only[go_sem,hcnd,t1,t2]))))
 refine dw_loop_fam (fun y:Nat×ByteArray=>kn 79 [(1,dv (.sl 1 (ints w))),(2,.one (.bx 2 3 0 0)),(7,dv (ls y.2)),(8,dv (li y.1))] (ml [(2,[ortRow nm us lt])]))
  (fun y=>y.1≤w.length∧y.2.size≤y.1*1048576∧spellF us w w.length 0 ByteArray.empty=spellF us w (w.length - y.1) y.1 y.2) (fun y=>w.length - y.1) (0,ByteArray.empty) (kM rfl (by simp +decide only[go_sem,ortRow,List.length_cons,List.length_nil,empty_mk]) (by simp +decide only[go_sem,ortRow])) ⟨by simp,by simp,rfl⟩ ?_
 rintro⟨p,s⟩ ⟨h1,h2,h3⟩
 simp only at h1 h2 h3 ⊢
 rw[h3]
 by_cases ha:p<w.length
 ·have t3:decide ((p:Int)<(w.length:Int))=true:=by simp;omega
  obtain⟨m,hm⟩: ∃m,w.length - p=m+1:=⟨w.length - p - 1,by omega⟩
  (repeat'(first|apply kA|apply kB|((first|refine kc (N:=79) ?_|refine kj (N:=79) kq39 ?_|apply kD|apply kE);simp +decide only[go_sem,t3,ortRow])|(apply kG;(simp +decide only[go_sem,t3,ortRow];rfl);all_goals(intro hcnd;try exact kz hcnd))|((first|apply kH|apply kI)<;>(intro hcnd;simp +decide only[go_sem,hcnd,t3,ortRow]))))
  refine dw_rng0 us (fun i=>kn 79 [(1,dv (.sl 1 (ints w))),(2,.one (.bx 2 3 0 0)),(7,dv (ls s)),(8,dv (li p)),(9,dv (li (bestU us (w.drop p) i))),(10,dv (li i))] (ml [(2,[ortRow nm us lt])])) (by omega) (kM rfl (by simp +decide only[go_sem,bestU,ortRow]) (by simp +decide only[go_sem,ortRow])) ?_ ?_
  ·intro i u he hk hmm htk hlt hw
   have hS:=rStarts_D w p u h1 (by omega) (hsg u hmm)
   have hb:=bestU_succ (w:=w.drop p) he
   have hr:=bestU_rng us (w.drop p) i (by omega)
   generalize bestU us (w.drop p) i=b at hb hr ⊢
   cases t4:startsU (w.drop p) u
   ·rw[t4]at hS hb
    rw[if_neg (by simp)]at hb
    (repeat'(first|apply kA|apply kB|((first|refine kc (N:=79) ?_|refine kj (N:=79) kq39 ?_|apply kD|apply kE|refine kx hS ?_|apply kF);simp +decide only[go_sem,hlt,hw,he,ortRow,Unt.enc,Unt.row])|(apply kG;(simp +decide only[go_sem,hlt,hw,he,ortRow,Unt.enc,Unt.row];rfl);all_goals(intro hcnd;try exact kz hcnd))|((first|apply kH|apply kI)<;>(intro hcnd;simp +decide only[go_sem,hcnd,hlt,hw,he,ortRow,Unt.enc,Unt.row]))))
    exact kM rfl (by simp +decide only[go_sem,hb]) (by simp +decide only[go_sem,ortRow])
   ·rw[t4]at hS hb
    by_cases t5:b<0
    ·have t6:(b<0)=True:=by simpa using t5
     rw[if_pos (by simp[t5])]at hb
     (repeat'(first|apply kA|apply kB|((first|refine kc (N:=79) ?_|refine kj (N:=79) kq39 ?_|apply kD|apply kE|refine kx hS ?_|apply kF);simp +decide only[go_sem,hlt,hw,he,ortRow,Unt.enc,Unt.row,t6])|(apply kG;(simp +decide only[go_sem,hlt,hw,he,ortRow,Unt.enc,Unt.row,t6];rfl);all_goals(intro hcnd;try exact kz hcnd))|((first|apply kH|apply kI)<;>(intro hcnd;simp +decide only[go_sem,hcnd,hlt,hw,he,ortRow,Unt.enc,Unt.row,t6]))))
     exact kM rfl (by simp +decide only[go_sem,hb]) (by simp +decide only[go_sem,ortRow])
    ·have t6:(b<0)=False:=by simpa using t5
     obtain⟨j,rfl⟩: ∃j:Nat,b=j:=⟨b.toNat,by omega⟩
     have hj:j<us.length:=by omega
     have ej:us[j]? =some us[j]:=List.getElem?_eq_getElem hj
     generalize us[j]=v at ej
     have ev:unitAt us (j:Int)=v:=by unfold unitAt;simp[ej]
     rw[ev]at hb
     by_cases t7:v.segs.length<u.segs.length
     ·have t8:((v.segs.length:Int)<(u.segs.length:Int))=True:=by simp;omega
      rw[if_pos (by simp[t7])]at hb
      (repeat'(first|apply kA|apply kB|((first|refine kc (N:=79) ?_|refine kj (N:=79) kq39 ?_|apply kD|apply kE|refine kx hS ?_|apply kF);simp +decide only[go_sem,hlt,hw,he,ej,ortRow,Unt.enc,Unt.row,t6,t8])|(apply kG;(simp +decide only[go_sem,hlt,hw,he,ej,ortRow,Unt.enc,Unt.row,t6,t8];rfl);all_goals(intro hcnd;try exact kz hcnd))|((first|apply kH|apply kI)<;>(intro hcnd;simp +decide only[go_sem,hcnd,hlt,hw,he,ej,ortRow,Unt.enc,Unt.row,t6,t8]))))
      exact kM rfl (by simp +decide only[go_sem,hb]) (by simp +decide only[go_sem,ortRow])
     ·have t8:((v.segs.length:Int)<(u.segs.length:Int))=False:=by simp;omega
      rw[if_neg (by simp[t7])]at hb
      (repeat'(first|apply kA|apply kB|((first|refine kc (N:=79) ?_|refine kj (N:=79) kq39 ?_|apply kD|apply kE|refine kx hS ?_|apply kF);simp +decide only[go_sem,hlt,hw,he,ej,ortRow,Unt.enc,Unt.row,t6,t8])|(apply kG;(simp +decide only[go_sem,hlt,hw,he,ej,ortRow,Unt.enc,Unt.row,t6,t8];rfl);all_goals(intro hcnd;try exact kz hcnd))|((first|apply kH|apply kI)<;>(intro hcnd;simp +decide only[go_sem,hcnd,hlt,hw,he,ej,ortRow,Unt.enc,Unt.row,t6,t8]))))
      exact kM rfl (by simp +decide only[go_sem,hb]) (by simp +decide only[go_sem,ortRow])
  ·intro hlt
   rw[hm,spellF,if_neg (by omega)]
   by_cases hb:bestU us (w.drop p) us.length<0
   ·have t6:(bestU us (w.drop p) us.length<0)=True:=by simpa using hb
    rw[if_pos hb]
    (repeat'(first|apply kA|apply kB|((first|refine kc (N:=79) ?_|refine kj (N:=79) kq39 ?_|apply kD|apply kE|apply kF);simp +decide only[go_sem,hlt,t6,ortRow])|(apply kG;(simp +decide only[go_sem,hlt,t6,ortRow];rfl);all_goals(intro hcnd;try exact kz hcnd))|((first|apply kH|apply kI)<;>(intro hcnd;simp +decide only[go_sem,hcnd,hlt,t6,ortRow]))))
    rfl
   ·have t6:(bestU us (w.drop p) us.length<0)=False:=by simpa using hb
    rw[if_neg hb]
    obtain⟨u,e1,e2,e3,e4⟩:=unit_some hb
    rw[e2]
    have hz:u.segs.length≠0:=by simpa using ho.segs u e3
    have hle:u.segs.length≤w.length - p:=by have:=e4.length_le;rwa [List.length_drop]at this
    have hgs:=hg u e3
    obtain⟨j,hj⟩: ∃j:Nat,bestU us (w.drop p) us.length=j:=⟨(bestU us (w.drop p) us.length).toNat,by omega⟩
    rw[hj]at e1 t6
    have e1':us[j]? =some u:=by simpa using e1
    have u1:IntKind.i64.wrap ((p:Int)+(u.segs.length:Int))=((p+u.segs.length:Nat):Int):=by rw[wrap_i64 (by omega) (by omega)];omega
    have u2:(s.size+u.graph.size≤maxLen)=True:=by
     simp only[eq_iff_iff,iff_true]
     have:p*1048576≤24*1048576:=Nat.mul_le_mul_right _ (by omega)
     omega
    (repeat'(first|apply kA|apply kB|((first|refine kc (N:=79) ?_|refine kj (N:=79) kq39 ?_|apply kD|apply kE);simp +decide only[go_sem,hlt,hj,t6,e1',ortRow,Unt.enc,u1,u2])|(apply kG;(simp +decide only[go_sem,hlt,hj,t6,e1',ortRow,Unt.enc,u1,u2];rfl);all_goals(intro hcnd;try exact kz hcnd))|((first|apply kH|apply kI)<;>(intro hcnd;simp +decide only[go_sem,hcnd,hlt,hj,t6,e1',ortRow,Unt.enc,u1,u2]))))
    refine⟨(p+u.segs.length,s++u.graph),⟨by simp only;omega,?_,?_⟩,by simp only;omega,kM rfl (by simp +decide only[go_sem,u1]) (by simp +decide only[go_sem,ortRow])⟩
    ·simp only[ByteArray.size_append]
     have:(p+1)*1048576≤(p+u.segs.length)*1048576:=Nat.mul_le_mul_right _ (by omega)
     rw[Nat.succ_mul]at this
     omega
    ·exact spellF_fuel ho w _ _ _ _ (by omega) (by omega)
 ·have t3:decide ((p:Int)<(w.length:Int))=false:=by simp;omega
  have:w.length - p=0:=by omega
  rw[this,spellF]
  (repeat'(first|apply kA|apply kB|((first|refine kc (N:=79) ?_|refine kj (N:=79) kq39 ?_|apply kD|apply kE|apply kF);simp +decide only[go_sem,t3])|(apply kG;(simp +decide only[go_sem,t3];rfl);all_goals(intro hcnd;try exact kz hcnd))|((first|apply kH|apply kI)<;>(intro hcnd;simp +decide only[go_sem,hcnd,t3]))))
end Go.Proofs.YtehdkccjaeckhaaGreatDoor
namespace Go.Proofs.YtehdkccjaeckhaaGreatDoor
open Go.Dl
open S (usort)
attribute [local irreducible] DW DCalls ECalls wk IW
theorem rSpelled_D(x:LX){d:Dic}(hd:OkD d)(w:List Int)(hw:w.length≤1000):DCalls Tryz.prog 15 [.agg (lngRow x d),dv (.sl 1 (ints w))] (dv (ls (d.sp w))):=by
 have hmax:maxLen=9223372036854775807:=rfl
 have hS:=rSpell_D x.nm d.units d.letters w hd.units (by have:=hd.ulen;omega) (fun u hu=>by have:=hd.gsz u hu;omega) (fun u hu=>by have:=hd.usg u hu;omega)
 have hT:=rTextP_D d.inv w (fun p hp=>by have:=hd.nsz p hp;omega) hd.ilen (by omega)
 unfold Dic.sp spelledE
 simp only[ortRow]at hS
 simp only[invRow]at hT
 generalize spellE d.units w=r at hS ⊢
 obtain⟨a,b,c⟩:=r
 simp only at hS ⊢
 cases t1:c !=0
 ·have: ¬c≠0:=by simpa using t1
  rw[if_neg this]
  refine kd (N:=23) (rs:= [.tmp 4]) Tryz.func15 ?_
  (repeat'(first|apply kA|apply kB|((first|refine kc (N:=23) ?_|apply kD|apply kE|refine kx hS ?_|apply kF);simp +decide only[go_sem,lngRow,t1])|(apply kG;(simp +decide only[go_sem,lngRow,t1];rfl);all_goals(intro hcnd;try exact kz hcnd))))
 ·have:c≠0:=by simpa using t1
  rw[if_pos this]
  refine kd (N:=23) (rs:= [.tmp 4]) Tryz.func15 ?_
  (repeat'(first|apply kA|apply kB|((first|refine kc (N:=23) ?_|apply kD|apply kE|refine kx hS ?_|refine kx hT ?_|apply kF);simp +decide only[go_sem,lngRow,t1])|(apply kG;(simp +decide only[go_sem,lngRow,t1];rfl);all_goals(intro hcnd;try exact kz hcnd))))
theorem rBefore_D(x:LX){d:Dic}(hd:OkD d){a b:Ent}(ha:a∈d.lex)(hb:b∈d.lex):DCalls Tryz.prog 47 [.agg (lngRow x d),.agg a.row,.agg b.row] (dv (lb (d.before a b))):=by
 have hmax:maxLen=9223372036854775807:=rfl
 have hA:=rSpelled_D x hd a.form (by have:=hd.frm a ha;omega)
 have hB:=rSpelled_D x hd b.form (by have:=hd.frm b hb;omega)
 have hC:=rCompare_D x.nm d.units d.letters (d.sp a.form) (d.sp b.form) (by have:=hd.llen;omega) hd.lll (by have:=sp_sz hd ha;omega) (by have:=sp_sz hd hb;omega)
 have hcmp:cmpK (keyE d.letters (d.sp a.form)) (keyE d.letters (d.sp b.form))=d.cmp a b:=rfl
 rw[hcmp]at hC
 simp only[lngRow,ortRow]at hA hB hC
 unfold Dic.before
 refine kd (N:=28) (rs:= [.tmp 6]) Tryz.func47 ?_
 cases t1:d.cmp a b !=0
 ·rw[if_neg (by simpa using t1)]
  (repeat'(first|apply kA|apply kB|((first|refine kc (N:=28) ?_|refine kj (N:=28) kq40 ?_|apply kD|apply kE|refine kx hA ?_|refine kx hB ?_|refine kx hC ?_|apply kF);simp +decide only[go_sem,lngRow,Ent.row,t1])|(apply kG;(simp +decide only[go_sem,lngRow,Ent.row,t1];rfl);all_goals(intro hcnd;try exact kz hcnd))))
 ·rw[if_pos (by simpa using t1)]
  (repeat'(first|apply kA|apply kB|((first|refine kc (N:=28) ?_|refine kj (N:=28) kq40 ?_|apply kD|apply kE|refine kx hA ?_|refine kx hB ?_|refine kx hC ?_|apply kF);simp +decide only[go_sem,lngRow,Ent.row,t1])|(apply kG;(simp +decide only[go_sem,lngRow,Ent.row,t1];rfl);all_goals(intro hcnd;try exact kz hcnd))))
def Dic.accL(d:Dic)(k:Nat):List Ent:=d.ordL [] (d.lex.take k)
theorem ordL_snoc(d:Dic): ∀(l acc:List Ent) (e:Ent),d.ordL acc (l++ [e])=putBack (fun x=>d.before e x) (d.ordL acc l) e
 | [],_,_=>rfl
 | y::l,acc,e=>by
  simp only[List.cons_append,Dic.ordL]
  exact ordL_snoc d l _ e
theorem accL_zero(d:Dic):d.accL 0= []:=rfl
theorem accL_succ{d:Dic}{k:Nat}{e:Ent}(h:d.lex[k]? =some e):d.accL (k+1)=putBack (fun x=>d.before e x) (d.accL k) e:=by
 unfold Dic.accL
 rw[List.take_add_one,h]
 exact ordL_snoc d _ [] e
theorem accL_all(d:Dic):d.accL d.lex.length=d.ord:=by unfold Dic.accL Dic.ord;rw[List.take_length]
theorem accL_len{d:Dic}{k:Nat}(h:k≤d.lex.length):(d.accL k).length=k:=by
 have:=(ordL_perm d (d.lex.take k) []).length_eq
 unfold Dic.accL
 rw[this,List.nil_append,List.length_take];omega
theorem accL_mem{d:Dic}{k:Nat}{x:Ent}(h:x∈d.accL k):x∈d.lex:=by
 have:=(ordL_perm d (d.lex.take k) []).mem_iff.1 h
 rw[List.nil_append]at this
 exact List.mem_of_mem_take this
theorem rOrder56_D(x:LX){d:Dic}(hd:OkD d):DCalls Tryz.prog 20 [.agg (lngRow x d)] (dv (.sl 1 (ints (d.ord.map (·.id))))):=by
 have hmax:maxLen=9223372036854775807:=rfl
 have hf:=hd.few
 rw[← accL_all]
 refine kd (N:=69) (rs:= [.tmp 2]) Tryz.func20 ?_
 (repeat'(first|apply kA|apply kB|((first|refine kc (N:=69) ?_|refine kj (N:=69) kq41 ?_|apply kD|apply kE);simp +decide only[go_sem,lngRow])|(apply kG;(simp +decide only[go_sem,lngRow];rfl);all_goals(intro hcnd;try exact kz hcnd))|((first|apply kH|apply kI)<;>(intro hcnd;simp +decide only[go_sem,hcnd,lngRow]))))
 refine dw_slot 3 (dv (.sl 8 [])) (by simp +decide only[go_sem]) ?_
 refine dw_rng0 d.lex (fun k=>kn 69 [(1,.one (.bx 1 9 0 0)),(3,dv (.sl 8 ((d.accL k).map Ent.enc))),(4,dv (li k))] (ml [(1,[lngRow x d])])) (by omega)
  (kM rfl (by simp +decide only[go_sem,lngRow,accL_zero,List.map_nil]) (by simp +decide only[go_sem,lngRow])) ?_ ?_
 ·intro k e he hk hm htk hlt hw
  have hal:=accL_len (d:=d) (k:=k) (by omega)
  have hst:=accL_succ he
  have hmk: ∀y∈d.accL k,y∈d.lex:=fun y hy=>accL_mem hy
  rw[hst]
  generalize d.accL k=acc at hal hmk ⊢
  (repeat'(first|apply kA|apply kB|((first|refine kc (N:=69) ?_|apply kD|apply kE);simp +decide only[go_sem,hlt,lngRow,Ent.enc])|(apply kG;(simp +decide only[go_sem,hlt,lngRow,Ent.enc];rfl);all_goals(intro hcnd;try exact kz hcnd))|((first|apply kH|apply kI)<;>(intro hcnd;simp +decide only[go_sem,hcnd,hlt,lngRow,Ent.enc]))))
  refine dw_after (fun _:Unit=>kn 69 [(1,.one (.bx 1 9 0 0)),(3,dv (.sl 8 (acc.map Ent.enc))),(4,dv (li k)),(5,dv (li (backN (fun y=>d.before e y) acc k)))] (ml [(1,[lngRow x d])])) (fun _=>True) ?_ ?_
  ·refine dw_loop_fam (fun i:Nat=>kn 69 [(1,.one (.bx 1 9 0 0)),(3,dv (.sl 8 (acc.map Ent.enc))),(4,dv (li k)),(5,dv (li i))] (ml [(1,[lngRow x d])])) (fun i=>i≤k∧backN (fun y=>d.before e y) acc k=backN (fun y=>d.before e y) acc i) (fun i=>i) k (kM rfl (by simp +decide only[go_sem,lngRow,hal]) (by simp +decide only[go_sem,lngRow])) ⟨Nat.le_refl _,rfl⟩ ?_
   rintro i ⟨hik,hbk⟩
   rw[hbk]
   cases i with
   | zero=>
    have t1:((0:Int)<((0:Nat):Int))=False:=by simp
    (repeat'(first|apply kA|apply kB|((first|refine kc (N:=69) ?_|refine kj (N:=69) kq41 ?_|apply kD|apply kE);simp +decide only[go_sem,t1,lngRow])|(apply kG;(simp +decide only[go_sem,t1,lngRow];rfl);all_goals(intro hcnd;try exact kz hcnd))|((first|apply kH|apply kI)<;>(intro hcnd;simp +decide only[go_sem,hcnd,t1,lngRow]))))
    exact⟨(),kM rfl (by simp +decide only[go_sem,backN,lngRow]) (by simp +decide only[go_sem,lngRow])⟩
   | succ n=>
    obtain⟨y,hy⟩: ∃y,acc[n]? =some y:=⟨acc[n]'(by omega),List.getElem?_eq_getElem (by omega)⟩
    have hym:=hmk y (List.mem_of_getElem? hy)
    have hB:=rBefore_D x hd hm hym
    simp only[lngRow,Ent.row]at hB
    have w1:IntKind.i64.wrap (((n+1:Nat):Int) - 1)=(n:Int):=by rw[wrap_i64 (by omega) (by omega)];omega
    have t1:((0:Int)<((n+1:Nat):Int))=True:=eq_true (by omega)
    have hbe:backN (fun y=>d.before e y) acc (n+1)=if d.before e y=true then backN (fun y=>d.before e y) acc n else n+1:=by simp only[backN,hy]
    cases t2:d.before e y
    ·rw[t2]at hB
     rw[t2,if_neg (by decide)]at hbe
     (repeat'(first|apply kA|apply kB|((first|refine kc (N:=69) ?_|refine kj (N:=69) kq41 ?_|apply kD|apply kE|refine kx hB ?_);simp +decide only[go_sem,t1,w1,he,hy,lngRow,Ent.enc,Int.toNat_natCast])|(apply kG;(simp +decide only[go_sem,t1,w1,he,hy,lngRow,Ent.enc,Int.toNat_natCast];rfl);all_goals(intro hcnd;try exact kz hcnd))|((first|apply kH|apply kI)<;>(intro hcnd;simp +decide only[go_sem,hcnd,t1,w1,he,hy,lngRow,Ent.enc,Int.toNat_natCast]))))
     exact⟨(),kM rfl (by simp +decide only[go_sem,hbe,lngRow]) (by simp +decide only[go_sem,lngRow])⟩
    ·rw[t2]at hB
     rw[t2,if_pos rfl]at hbe
     (repeat'(first|apply kA|apply kB|((first|refine kc (N:=69) ?_|refine kj (N:=69) kq41 ?_|apply kD|apply kE|refine kx hB ?_);simp +decide only[go_sem,t1,w1,he,hy,lngRow,Ent.enc,Int.toNat_natCast])|(apply kG;(simp +decide only[go_sem,t1,w1,he,hy,lngRow,Ent.enc,Int.toNat_natCast];rfl);all_goals(intro hcnd;try exact kz hcnd))|((first|apply kH|apply kI)<;>(intro hcnd;simp +decide only[go_sem,hcnd,t1,w1,he,hy,lngRow,Ent.enc,Int.toNat_natCast]))))
     exact⟨n,⟨by omega,hbe⟩,by omega,kM rfl (by simp +decide only[go_sem,w1,lngRow]) (by simp +decide only[go_sem,lngRow])⟩
  rintro _ _
  have hpl:=backN_le (fun y=>d.before e y) acc k
  have hpb:putBack (fun y=>d.before e y) acc e=acc.take (backN (fun y=>d.before e y) acc k)++e::acc.drop (backN (fun y=>d.before e y) acc k):=by unfold putBack;rw[hal]
  rw[hpb]
  generalize backN (fun y=>d.before e y) acc k=p at hpl ⊢
  clear hpb hst
  have hkk:(acc.take p).length=p:=by rw[List.length_take];omega
  have hpT:(p≤acc.length)=True:=eq_true (by omega)
  have h0p:=Nat.zero_le p
  have htI:List.take acc.length (acc.map Ent.enc)=acc.map Ent.enc:=List.take_of_length_le (by simp)
  have htP:List.take p (acc.map Ent.enc)=(acc.take p).map Ent.enc:=by simp[List.map_take]
  have hdP:List.drop p (acc.map Ent.enc)=(acc.drop p).map Ent.enc:=by simp[List.map_drop]
  have hfin:(acc.take p++e::acc.drop p).map Ent.enc=(acc.take p).map Ent.enc++ [e.enc]++(acc.drop p).map Ent.enc:=by simp
  have r1:((acc.take p).length*144≤140737488355328)=True:=eq_true (by omega)
  have r2:(((acc.take p).length+1)*144≤140737488355328)=True:=eq_true (by omega)
  have r3:(((acc.take p).length+1+(acc.drop p).length)*144≤140737488355328)=True:=eq_true (by rw[List.length_drop];omega)
  rw[hfin]
  (repeat'(first|apply kA|apply kB|((first|refine kc (N:=69) ?_|refine kj (N:=69) kq41 ?_|apply kD|apply kE);simp +decide only[go_sem,he,hpT,h0p,htI,htP,hdP,r1,r2,r3,lngRow,Ent.enc,List.length_append,List.length_map,List.length_cons,List.length_nil,Int.toNat_natCast])|(apply kG;(simp +decide only[go_sem,he,hpT,h0p,htI,htP,hdP,r1,r2,r3,lngRow,Ent.enc,List.length_append,List.length_map,List.length_cons,List.length_nil,Int.toNat_natCast];rfl);all_goals(intro hcnd;try exact kz hcnd))|((first|apply kH|apply kI)<;>(intro hcnd;simp +decide only[go_sem,hcnd,he,hpT,h0p,htI,htP,hdP,r1,r2,r3,lngRow,Ent.enc,List.length_append,List.length_map,List.length_cons,List.length_nil,Int.toNat_natCast]))))
  exact kM rfl (by simp +decide only[go_sem,lngRow,hw]) (by simp +decide only[go_sem,lngRow])
 ·intro hlt
  have hal:(d.accL d.lex.length).length=d.lex.length:=accL_len (Nat.le_refl _)
  generalize d.accL d.lex.length=acc at hal ⊢
  (repeat'(first|apply kA|apply kB|((first|refine kc (N:=69) ?_|refine kj (N:=69) kq41 ?_|apply kD|apply kE);simp +decide only[go_sem,hlt,lngRow])|(apply kG;(simp +decide only[go_sem,hlt,lngRow];rfl);all_goals(intro hcnd;try exact kz hcnd))|((first|apply kH|apply kI)<;>(intro hcnd;simp +decide only[go_sem,hcnd,hlt,lngRow]))))
  refine dw_own 7 7 1 (by simp +decide only[go_sem]) ?_
  refine dw_rng0 acc (fun k=>kn 69 [(3,dv (.sl 8 (acc.map Ent.enc))),(7,.one (.own 7 1 (ints ((acc.take k).map (·.id))))),(8,dv (li k))] noMem) (by omega)
   (kL rfl (by simp +decide only[go_sem,List.take_zero,List.map_nil,List.length_cons,List.length_nil]) (by simp[noMem])) ?_ ?_
  ·intro k e he hk hm htk hlt2 hw
   have hkl:((acc.take k).map (·.id)).length=k:=by rw[List.length_map,List.length_take];omega
   have r1:(((acc.take k).length+1)*8≤140737488355328)=True:=eq_true (by rw[List.length_take];omega)
   have hst:ints ((acc.take (k+1)).map (·.id))=ints ((acc.take k).map (·.id))++ [[li e.id]]:=by rw[htk];simp
   rw[hst]
   (repeat'(first|apply kA|apply kB|((first|refine kc (N:=69) ?_|refine kj (N:=69) kq41 ?_|apply kD|apply kE);simp +decide only[go_sem,hlt2,hw,he,r1,Ent.enc,List.length_map])|(apply kG;(simp +decide only[go_sem,hlt2,hw,he,r1,Ent.enc,List.length_map];rfl);all_goals(intro hcnd;try exact kz hcnd))|((first|apply kH|apply kI)<;>(intro hcnd;simp +decide only[go_sem,hcnd,hlt2,hw,he,r1,Ent.enc,List.length_map]))))
   exact kL rfl (by simp +decide only[go_sem]) (by simp[noMem])
  ·intro hlt2
   rw[List.take_length]
   (repeat'(first|apply kA|apply kB|((first|refine kc (N:=69) ?_|refine kj (N:=69) kq41 ?_|apply kD|apply kE);simp +decide only[go_sem,hlt2])|(apply kG;(simp +decide only[go_sem,hlt2];rfl);all_goals(intro hcnd;try exact kz hcnd))|((first|apply kH|apply kI)<;>(intro hcnd;simp +decide only[go_sem,hcnd,hlt2]))))
   refine dw_slot 2 _ (DLe.own_ _ _ _) ?_
   apply kF;simp +decide only[go_sem]
theorem lawOrder(g:Lng)(hm:MidL g):DCalls Tryz.prog 4 [.agg (lngRow g.x g.d)] (dv (lb true)):=by
 have hmax:maxLen=9223372036854775807:=rfl
 have hL:=rLight_D g hm
 have hW:=awake_D
 simp only[lngRow]at hL
 refine kd (N:=15) (rs:= [.tmp 2]) Tryz.func4 ?_
 cases t1:lightB g
 ·rw[t1]at hL
  (repeat'(first|apply kA|apply kB|((first|refine kc (N:=15) ?_|refine kj (N:=15) kq42 ?_|apply kD|apply kE|refine kx hL ?_|refine kx hW ?_|apply kF);simp +decide only[go_sem,lngRow])|(apply kG;(simp +decide only[go_sem,lngRow];rfl);all_goals(intro hcnd;try exact kz hcnd))|((first|apply kH|apply kI)<;>(intro hcnd;simp +decide only[go_sem,hcnd,lngRow]))))
 rw[t1]at hL
 have hok:=light_ok hm t1
 have hA:=order56_D g.x hok
 have hB:=rOrder56_D g.x hok
 have hE:=sameI_D (g.d.ord.map (·.id)) (g.d.ord.map (·.id)) (by rw[List.length_map,ord_len];have:=hok.few;omega)
 rw[decide_eq_true rfl]at hE
 simp only[lngRow]at hA hB
 (repeat'(first|apply kA|apply kB|((first|refine kc (N:=15) ?_|refine kj (N:=15) kq42 ?_|apply kD|apply kE|refine kx hL ?_|refine kx hW ?_|refine kx hA ?_|refine kx hB ?_|refine kx hE ?_|apply kF);simp +decide only[go_sem,lngRow])|(apply kG;(simp +decide only[go_sem,lngRow];rfl);all_goals(intro hcnd;try exact kz hcnd))|((first|apply kH|apply kI)<;>(intro hcnd;simp +decide only[go_sem,hcnd,lngRow]))))
end Go.Proofs.YtehdkccjaeckhaaGreatDoor
