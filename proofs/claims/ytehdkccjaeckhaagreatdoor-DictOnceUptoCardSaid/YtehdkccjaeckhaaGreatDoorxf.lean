/- Dictionaries: the law that the lines consist of the articles. -/
import Derived.Test.YtehdkccjaeckhaaGreatDoorm5
set_option linter.all false
set_option linter.unusedVariables false
set_option linter.unusedSimpArgs false
set_option maxRecDepth 10000
set_option maxHeartbeats 8000000
namespace Go.Proofs.YtehdkccjaeckhaaGreatDoor
abbrev kpxf33:List (Nat×Go.Dl.Mode):= [(0,.light),(1,.light),(2,.light),(3,.light),(4,.light),(5,.light),(6,.light),(7,.light),(8,.light),(9,.light),(10,.light),(11,.light),(12,.light),(13,.light),(14,.light),(15,.light),(16,.light),(17,.light),(18,.light),(19,.light),(20,.light),(21,.light),(22,.light),(23,.light),(24,.light),(25,.light),(26,.light),(27,.light),(28,.light),(29,.light),(30,.light),(31,.light)]
abbrev kpxf34:List (Nat×Go.Dl.Mode):= [(0,.light),(1,.light),(2,.light),(3,.light),(4,.light),(5,.light),(6,.light),(7,.light),(8,.light),(9,.light),(10,.light),(11,.light),(12,.light),(13,.light),(14,.light),(15,.light),(16,.light),(17,.light),(18,.light),(19,.light),(20,.light),(21,.light),(22,.step),(23,.light),(24,.light)]
abbrev kt36:Nat→List (Nat×Go.Dl.Mode):=fun n=>match n with|18=>kpm17|_=> [(9999,.light)]
abbrev kt48:Nat→List (Nat×Go.Dl.Mode):=fun n=>match n with|2=>kpm30|_=> [(9999,.light)]
abbrev kt62:Nat→List (Nat×Go.Dl.Mode):=fun n=>match n with|10=>kpm4|14=>kpxf33|18=>kpm1|22=>kpxf34|_=> [(9999,.light)]
end Go.Proofs.YtehdkccjaeckhaaGreatDoor
open Go.Dl renaming dw_seq → kA, dw_block → kB, dw_reg → kC, dw_skip → kD, dw_exit → kE, dw_ret → kF, dw_cond → kG, guardC_f → kH, guardC_t → kI, dw_drw → kJ, dw_weaken → kK, sub_kn → kL, sub_ml → kM
open Go.Dl.CallC renaming mk → kN, light → kO
open Go.Dl.LeL renaming of_eq → kP
namespace Go.Dl
open Go.RowKit
noncomputable section
section
variable {P : Program}
theorem any_only{ops:List Oper}{N:Nat}(hb:dstB ops N=true){K:DS→Prop}{fuel:Nat}{listed:Array Bool}{s:DS}{i:Nat}{o:Oper}(hr:Region.ready .any ops.toArray listed= [i])(ho:ops[i]? =some o)
  (h:guardS P ops o s (AnyOk P ops N K fuel (listed.setIfInBounds i true))):AnyOk P ops N K (fuel+1) listed s:=by
 intro hn X a w hrel
 refine wpAny_all hr (by simp) fun j hj=>?_
 have hji:j=i:=by simpa using hj
 subst hji
 have hd:=dst_of hb ho
 unfold wpOp
 have ho':ops.toArray[j]? =some o:=by simpa using ho
 simp only[ho']
 unfold guardS at h
 split at h
 ·rename_i t ht
  rw[wantD_ok ht hrel]
  split at h
  ·rename_i h3
   rw[if_pos h3]
   refine .inl (Oper.wp_mono ?_ (h (fun d hd'=>by rw[hn];exact hd d hd') X a w hrel _))
   rintro a' w' ⟨s',⟨hn',hs'⟩,hr'⟩
   exact hs' (hn'.trans hn) X a' w' hr'
  ·rename_i h3
   rw[if_neg h3]
   exact h (by rw[put_n];exact hn) X _ w (putAny hrel (fun d hd'=>by rw[hn];exact hd d hd'))
 ·exact h.elim
end
end
end Go.Dl
namespace Go.Dl
open Go.RowKit
noncomputable section
def runOk(ops:List Oper):List Nat→Array Bool→Bool
 | [],_=>true
 | i::l,listed=>(Region.ready .any ops.toArray listed== [i])&&runOk ops l (listed.setIfInBounds i true)
section
variable {P : Program}
theorem any_each{ops:List Oper}{N:Nat}(hb:dstB ops N=true){K:DS→Prop}{fuel:Nat}{listed:Array Bool}{s:DS}{l:List Nat}(hr:Region.ready .any ops.toArray listed=l)(hne:l≠ [])
  (h: ∀i∈l,∃o,ops[i]? =some o∧guardS P ops o s (AnyOk P ops N K fuel (listed.setIfInBounds i true))):AnyOk P ops N K (fuel+1) listed s:=by
 intro hn X a w hrel
 refine wpAny_all hr hne fun j hj=>?_
 obtain⟨o,ho,h⟩:=h j hj
 have hd:=dst_of hb ho
 unfold wpOp
 have ho':ops.toArray[j]? =some o:=by simpa using ho
 simp only[ho']
 unfold guardS at h
 split at h
 ·rename_i t ht
  rw[wantD_ok ht hrel]
  split at h
  ·rename_i h3
   rw[if_pos h3]
   refine .inl (Oper.wp_mono ?_ (h (fun d hd'=>by rw[hn];exact hd d hd') X a w hrel _))
   rintro a' w' ⟨s',⟨hn',hs'⟩,hr'⟩
   exact hs' (hn'.trans hn) X a' w' hr'
  ·rename_i h3
   rw[if_neg h3]
   exact h (by rw[put_n];exact hn) X _ w (putAny hrel (fun d hd'=>by rw[hn];exact hd d hd'))
 ·exact h.elim
theorem wk_guardS{ops:List Oper}{o:Oper}{l:List (Mode×Oper)}{s:DS}{K:DS→Prop}{p:Prop} [Decidable p](h:wk P (ops.map (·.dst)) ((if p then .hand else .step,o)::l) s K):guardS P ops o s fun s'=>wk P (ops.map (·.dst)) l s' K:=by
 have h:=wk_cons h
 unfold GIs at h
 simp only[guardS]
 split at h
 ·rename_i hw
  simp only[hw,if_true]
  split at h
  ·cases h with
   | hand h=>exact h
  ·cases h with
   | step h=>exact h
 ·rename_i hw
  simp only[hw,Bool.false_eq_true,if_false]
  exact h
 ·exact h.elim
theorem guardS_mono{ops:List Oper}{o:Oper}{s:DS}{K K':DS→Prop}(hk: ∀s,K s→K' s)(h:guardS P ops o s K):guardS P ops o s K':=by
 revert h
 simp only[guardS]
 split
 ·split
  ·exact fun h=>h.mono fun s' _=>hk s'
  ·exact hk _
 ·exact id
theorem run_ok{ops:List Oper}{hd:List Nat}{N:Nat}(hb:dstB ops N=true){K K1:DS→Prop}{fuel:Nat}: ∀(l:List Nat) (listed:Array Bool) (s:DS),runOk ops l listed=true→
  wk P (ops.map (·.dst)) (pickH ops hd l) s K1→(∀s,K1 s→AnyOk P ops N K fuel (afterA l listed) s)→(∀i∈l,(ops[i]?).isSome=true)→AnyOk P ops N K (l.length+fuel) listed s
 | [],listed,s,_,h,hk,_=>by
  have:=hk s (by simpa[pickH,wk]using h)
  simpa[afterA]using this
 | i::l,listed,s,hr,h,hk,hs=>by
  simp only[runOk,Bool.and_eq_true,beq_iff_eq]at hr
  have hi:=hs i (by simp)
  cases ho:ops[i]? with
  | none=>rw[ho]at hi;cases hi
  | some o=>
   simp only[pickH,ho]at h
   have hfu:(i::l).length+fuel=(l.length+fuel)+1:=by simp;omega
   rw[hfu]
   exact any_only hb hr.1 ho (guardS_mono (fun s' h'=>run_ok hb l _ s' hr.2 h' hk fun j hj=>hs j (by simp[hj])) (wk_guardS h))
theorem ready_some{ops:List Oper}{listed:Array Bool}{i:Nat}(h:i∈Region.ready .any ops.toArray listed):(ops[i]?).isSome=true:=by
 have h1:i<ops.toArray.size:=by
  unfold Region.ready at h
  have:=(List.mem_filter.1 h).1
  simpa using this
 simp at h1
 simp[h1]
theorem run_some{ops:List Oper}: ∀(l:List Nat) (listed:Array Bool),runOk ops l listed=true→∀i∈l,(ops[i]?).isSome=true
 | [],_,_=>by simp
 | i::l,listed,hr=>by
  simp only[runOk,Bool.and_eq_true,beq_iff_eq]at hr
  intro j hj
  rcases List.mem_cons.1 hj with rfl|hj
  ·exact ready_some (listed:=listed) (by rw[hr.1];simp)
  ·exact run_some l _ hr.2 j hj
end
end
end Go.Dl
namespace Go.Proofs.YtehdkccjaeckhaaGreatDoor
theorem lettersF_head(ls:List (List ByteArray))(s:ByteArray): ∀n p x a b all,(lettersF ls s n p (x::a) b all).1.head? =some x
 | 0,_,x,a,b,all=>rfl
 | n+1,p,x,a,b,all=>by
  simp only[lettersF]
  split
  ·rfl
  ·split
   ·exact lettersF_head ls s n _ x _ _ _
   ·exact lettersF_head ls s n _ x _ _ _
theorem byteAt_nonneg(s:ByteArray)(p:Nat):0≤byteAt s p:=by
 unfold byteAt
 cases s.data.toList[p]? with
 | none=>simp
 | some b=>simp only[Option.map_some,Option.getD_some];omega
theorem sect_key(ls:List (List ByteArray))(s:ByteArray):(match (lettersE ls s).1.head? with|some x=>if(ls.length:Int)≤x then -1 else x|none=> -1)=sectE ls s:=by
 unfold lettersE sectE
 by_cases h:s.size=0
 ·simp[h,lettersF]
 ·obtain⟨n,hn⟩: ∃n,s.size=n+1:=⟨s.size - 1,by omega⟩
  rw[if_neg h]
  have hx:s.extract 0 s.size=s:=by simp
  rw[hn]
  simp only[lettersF]
  rw[if_neg (by omega),hx]
  cases e:firstE ls s with
  | none=>
   simp only[List.nil_append]
   rw[lettersF_head]
   have:=byteAt_nonneg s 0
   simp only
   rw[if_pos (by omega)]
  | some x=>
   simp only[List.nil_append]
   rw[lettersF_head]
   have:=(firstE_ok ls s x e).1
   simp only
   rw[if_neg (by omega)]
end Go.Proofs.YtehdkccjaeckhaaGreatDoor
namespace Go.Proofs.YtehdkccjaeckhaaGreatDoor
open S (usort)
theorem ord_ids{d:Dic}(hs:UpE d.lex):(d.ord.map (·.id)).Nodup:=by
 rw[((ord_perm d).map _).nodup_iff]
 refine List.Pairwise.map _ (fun a b h=>?_) hs
 omega
theorem article_ne{d:Dic}{id:Int}(h:(getE d.lex id).2=true):d.article id≠ []:=by
 unfold Dic.article
 rw[if_neg (by simp[h])]
 split
 ·simp
 ·simp[Dic.full]
-- nothing is empty that is joined
end Go.Proofs.YtehdkccjaeckhaaGreatDoor
namespace Go.Proofs.YtehdkccjaeckhaaGreatDoor
open Go.Dl
attribute [local irreducible] DW DCalls ECalls wk IW
def gI(a:Fst):Int:=match a with
 | some x=>(x.1:Int)
 | none=> -1
def gK(a:Fst):Int:=match a with
 | some x=>(x.2.1:Int)
 | none=> -1
theorem rLetters_D(nm:ByteArray)(us:List Unt)(lt:List (List ByteArray))(s:ByteArray)(hl:lt.length≤1000000)(hll: ∀l∈lt,l.length≤1000000)(hs:s.size≤1048576):
  DCalls Tryz.prog 60 [.agg (ortRow nm us lt),dv (ls s)] (.tup [dv (.sl 1 (ints (lettersE lt s).1)),dv (.sl 1 (ints (lettersE lt s).2.1)),dv (lb (lettersE lt s).2.2)]):=by
 have hmax:maxLen=9223372036854775807:=rfl
 refine kd (N:=85) (rs:= [.tmp 4,.tmp 5,.tmp 6]) Tryz.func60 ?_
 (repeat'(first|apply kA|apply kB|((first|refine kc (N:=85) ?_|refine kj (N:=85) kt36 ?_|apply kD|apply kE);simp +decide only[go_sem])|(apply kG;(simp +decide only[go_sem];rfl);all_goals(intro hcnd;try exact kz hcnd))|((first|apply kH|apply kI)<;>(intro hcnd;simp +decide only[go_sem,hcnd]))))
 refine dw_own 7 7 1 (by simp +decide only[go_sem]) ?_
 refine dw_own 8 8 1 (by simp +decide only[go_sem]) ?_
 refine dw_loop_fam (fun y:Nat×List Int×List Int×Bool=>kn 85 [(1,dv (ls s)),(2,.one (.bx 2 3 0 0)),(7,.one (.own 7 1 (ints y.2.1))),(8,.one (.own 8 1 (ints y.2.2.1))),(9,dv (lb y.2.2.2)),(10,dv (li y.1))] (ml [(2,[ortRow nm us lt])]))
  (fun y=>y.1≤s.size∧y.2.1.length≤y.1∧y.2.2.1.length≤y.1∧lettersE lt s=lettersF lt s (s.size - y.1) y.1 y.2.1 y.2.2.1 y.2.2.2) (fun y=>s.size - y.1) (0,[],[],true) (kM rfl (by simp +decide only[go_sem,List.map_nil,ortRow,List.length_cons,List.length_nil]) (by simp +decide only[go_sem,ortRow])) ⟨by simp,by simp,by simp,rfl⟩ ?_
 rintro⟨p,a,b,all⟩ ⟨h1,h2,h3,h4⟩
 simp only at h1 h2 h3 h4 ⊢
 have r1:((a.length+1)*8≤140737488355328)=True:=by simp;omega
 have r2:((b.length+1)*8≤140737488355328)=True:=by simp;omega
 by_cases ha:p<s.size
 ·have t1:decide ((p:Int)<(s.size:Int))=true:=by simp;omega
  have z0:(p≤s.size)=True:=by simp;omega
  have hok:=firstE_ok lt (s.extract p s.size)
  obtain⟨m,hm⟩: ∃m,s.size - p=m+1:=⟨s.size - p - 1,by omega⟩
  rw[hm,lettersF,if_neg (by omega)]at h4
  (repeat'(first|apply kA|apply kB|((first|refine kc (N:=85) ?_|refine kj (N:=85) kt36 ?_|apply kD|apply kE);simp +decide only[go_sem,t1,ortRow])|(apply kG;(simp +decide only[go_sem,t1,ortRow];rfl);all_goals(intro hcnd;try exact kz hcnd))|((first|apply kH|apply kI)<;>(intro hcnd;simp +decide only[go_sem,hcnd,t1,ortRow]))))
  refine dw_rng0 lt (fun i=>kn 85 [(1,dv (ls s)),(2,.one (.bx 2 3 0 0)),(7,.one (.own 7 1 (ints a))),(8,.one (.own 8 1 (ints b))),(9,dv (lb all)),(10,dv (li p)),(11,dv (li (gI (letL lt (s.extract p s.size) i)))),(12,dv (li (gK (letL lt (s.extract p s.size) i)))),(13,dv (li (fstSz (letL lt (s.extract p s.size) i)))),(23,dv (li lt.length)),(24,dv (li i))] (ml [(2,[ortRow nm us lt])])) (by omega) (kM rfl (by simp +decide only[go_sem,letL,gI,gK,fstSz,ortRow]) (by simp +decide only[go_sem,ortRow])) ?_ ?_
  ·intro i vs he hk hmm htk hlt hw
   have hvl:=hll vs hmm
   (repeat'(first|apply kA|apply kB|((first|refine kc (N:=85) ?_|refine kj (N:=85) kt36 ?_|apply kD|apply kE);simp +decide only[go_sem,hlt,hw,he,ortRow])|(apply kG;(simp +decide only[go_sem,hlt,hw,he,ortRow];rfl);all_goals(intro hcnd;try exact kz hcnd))|((first|apply kH|apply kI)<;>(intro hcnd;simp +decide only[go_sem,hcnd,hlt,hw,he,ortRow]))))
   refine dw_rng0 vs (fun k=>kn 85 [(1,dv (ls s)),(2,.one (.bx 2 3 0 0)),(7,.one (.own 7 1 (ints a))),(8,.one (.own 8 1 (ints b))),(9,dv (lb all)),(10,dv (li p)),(11,dv (li (gI (letV (s.extract p s.size) i vs (letL lt (s.extract p s.size) i) k)))),(12,dv (li (gK (letV (s.extract p s.size) i vs (letL lt (s.extract p s.size) i) k)))),(13,dv (li (fstSz (letV (s.extract p s.size) i vs (letL lt (s.extract p s.size) i) k)))),(14,dv (li i)),(23,dv (li lt.length)),(24,dv (li i)),(32,dv (li vs.length)),(33,dv (li k))] (ml [(2,[ortRow nm us lt])])) (by omega) (kM rfl (by simp +decide only[go_sem,letV]) (by simp +decide only[go_sem,ortRow])) ?_ ?_
   ·intro k v hs1 hmk hms htm hlt2 hw2
    have hsu:=letV_succ (s:=s.extract p s.size) (i:=i) (a:=letL lt (s.extract p s.size) i) hs1
    generalize letV (s.extract p s.size) i vs (letL lt (s.extract p s.size) i) k=d at hsu ⊢
    by_cases t2:fstSz d<v.size
    ·have h5:((fstSz d:Int)<(v.size:Int))=True:=by simp;omega
     have hp:=rBegins_D (s.extract p s.size) v (by rw[ext_size];omega)
     cases t3:begB (s.extract p s.size) v
     ·rw[t3]at hp
      rw[if_neg (by simp[t3])]at hsu
      (repeat'(first|apply kA|apply kB|((first|refine kc (N:=85) ?_|refine kj (N:=85) kt36 ?_|apply kD|apply kE|refine kx hp ?_|apply kF);simp +decide only[go_sem,hlt2,hw2,he,hs1,h5,z0,ortRow])|(apply kG;(simp +decide only[go_sem,hlt2,hw2,he,hs1,h5,z0,ortRow];rfl);all_goals(intro hcnd;try exact kz hcnd))|((first|apply kH|apply kI)<;>(intro hcnd;simp +decide only[go_sem,hcnd,hlt2,hw2,he,hs1,h5,z0,ortRow]))))
      exact kM rfl (by simp +decide only[go_sem,hsu]) (by simp +decide only[go_sem,ortRow])
     ·rw[t3]at hp
      rw[if_pos (by simp[t2,t3])]at hsu
      (repeat'(first|apply kA|apply kB|((first|refine kc (N:=85) ?_|refine kj (N:=85) kt36 ?_|apply kD|apply kE|refine kx hp ?_|apply kF);simp +decide only[go_sem,hlt2,hw2,he,hs1,h5,z0,ortRow])|(apply kG;(simp +decide only[go_sem,hlt2,hw2,he,hs1,h5,z0,ortRow];rfl);all_goals(intro hcnd;try exact kz hcnd))|((first|apply kH|apply kI)<;>(intro hcnd;simp +decide only[go_sem,hcnd,hlt2,hw2,he,hs1,h5,z0,ortRow]))))
      exact kM rfl (by simp +decide only[go_sem,hsu,gI,gK,fstSz]) (by simp +decide only[go_sem,ortRow])
    ·have h5:((fstSz d:Int)<(v.size:Int))=False:=by simp;omega
     rw[if_neg (by simp[t2])]at hsu
     (repeat'(first|apply kA|apply kB|((first|refine kc (N:=85) ?_|refine kj (N:=85) kt36 ?_|apply kD|apply kE|apply kF);simp +decide only[go_sem,hlt2,hw2,he,hs1,h5,z0,ortRow])|(apply kG;(simp +decide only[go_sem,hlt2,hw2,he,hs1,h5,z0,ortRow];rfl);all_goals(intro hcnd;try exact kz hcnd))|((first|apply kH|apply kI)<;>(intro hcnd;simp +decide only[go_sem,hcnd,hlt2,hw2,he,hs1,h5,z0,ortRow]))))
     exact kM rfl (by simp +decide only[go_sem,hsu]) (by simp +decide only[go_sem,ortRow])
   ·intro hlt2
    (repeat'(first|apply kA|apply kB|((first|refine kc (N:=85) ?_|refine kj (N:=85) kt36 ?_|apply kD|apply kE);simp +decide only[go_sem,hlt2,hw])|(apply kG;(simp +decide only[go_sem,hlt2,hw];rfl);all_goals(intro hcnd;try exact kz hcnd))|((first|apply kH|apply kI)<;>(intro hcnd;simp +decide only[go_sem,hcnd,hlt2,hw]))))
    exact kM rfl (by simp +decide only[go_sem,letL_succ he]) (by simp +decide only[go_sem,ortRow])
  ·intro hlt
   rw[← firstE]
   cases hf:firstE lt (s.extract p s.size)with
   | none=>
    rw[hf]at h4
    simp only at h4
    have hlp:p<s.data.toList.length:=by simpa using ha
    obtain⟨bt,hbt⟩: ∃bt,s.data.toList[p]? =some bt:=⟨_,List.getElem?_eq_getElem hlp⟩
    have hby:byteAt s p=(bt.toNat:Int):=by unfold byteAt;rw[hbt];rfl
    have h256:bt.toNat<256:=bt.toNat_lt
    have u0:IntKind.i64.wrap (bt.toNat:Int)=(bt.toNat:Int):=wrap_i64 (by omega) (by omega)
    have u1:IntKind.i64.wrap ((lt.length:Int)+(bt.toNat:Int))=(lt.length:Int)+(bt.toNat:Int):=wrap_i64 (by omega) (by omega)
    have u2:IntKind.i64.wrap ((p:Int)+1)=((p+1:Nat):Int):=wrap_succ p (by omega)
    (repeat'(first|apply kA|apply kB|((first|refine kc (N:=85) ?_|refine kj (N:=85) kt36 ?_|apply kD|apply kE);simp +decide only[go_sem,hlt,gI,gK,fstSz,ortRow,hbt,u0,u1,r1,r2,u2])|(apply kG;(simp +decide only[go_sem,hlt,gI,gK,fstSz,ortRow,hbt,u0,u1,r1,r2,u2];rfl);all_goals(intro hcnd;try exact kz hcnd))|((first|apply kH|apply kI)<;>(intro hcnd;simp +decide only[go_sem,hcnd,hlt,gI,gK,fstSz,ortRow,hbt,u0,u1,r1,r2,u2]))))
    refine⟨(p+1,a++ [(lt.length:Int)+byteAt s p],b++ [0],false),⟨by simp only;omega,by simp;omega,by simp;omega,?_⟩,by simp only;omega,kM rfl (by simp +decide only[go_sem,ints_snoc,hby,u0,u1,u2]) (by simp +decide only[go_sem,ortRow])⟩
    simp only
    rw[h4,show s.size - (p+1)=m by omega]
   | some x=>
    rw[hf]at h4
    simp only at h4
    obtain⟨x1,x2,x3,-⟩:=hok x hf
    have x4:x.2.2≤s.size - p:=by rw[ext_size]at x3;exact x3
    have u2:IntKind.i64.wrap ((p:Int)+(x.2.2:Int))=((p+x.2.2:Nat):Int):=by rw[wrap_i64 (by omega) (by omega)];rfl
    have t4:((x.1:Int)<0)=False:=by simp
    (repeat'(first|apply kA|apply kB|((first|refine kc (N:=85) ?_|refine kj (N:=85) kt36 ?_|apply kD|apply kE);simp +decide only[go_sem,hlt,gI,gK,fstSz,ortRow,r1,r2,u2,t4])|(apply kG;(simp +decide only[go_sem,hlt,gI,gK,fstSz,ortRow,r1,r2,u2,t4];rfl);all_goals(intro hcnd;try exact kz hcnd))|((first|apply kH|apply kI)<;>(intro hcnd;simp +decide only[go_sem,hcnd,hlt,gI,gK,fstSz,ortRow,r1,r2,u2,t4]))))
    refine⟨(p+x.2.2,a++ [(x.1:Int)],b++ [(x.2.1:Int)],all),⟨by simp only;omega,by simp;omega,by simp;omega,?_⟩,by simp only;omega,kM rfl (by simp +decide only[go_sem,ints_snoc,u2]) (by simp +decide only[go_sem,ortRow])⟩
    simp only
    rw[h4]
    exact lettersF_fuel lt s _ _ _ _ _ _ (by omega) (by omega)
 ·have t1:decide ((p:Int)<(s.size:Int))=false:=by simp;omega
  (repeat'(first|apply kA|apply kB|((first|refine kc (N:=85) ?_|refine kj (N:=85) kt36 ?_|apply kD|apply kE);simp +decide only[go_sem,t1])|(apply kG;(simp +decide only[go_sem,t1];rfl);all_goals(intro hcnd;try exact kz hcnd))|((first|apply kH|apply kI)<;>(intro hcnd;simp +decide only[go_sem,hcnd,t1]))))
  refine dw_slot 4 _ (DLe.own_ _ _ _) ?_
  refine dw_slot 5 _ (DLe.own_ _ _ _) ?_
  apply kF;simp +decide only[go_sem]
  have:s.size - p=0:=by omega
  rw[this,lettersF]at h4
  rw[h4]
theorem rSection_D(nm:ByteArray)(us:List Unt)(lt:List (List ByteArray))(s:ByteArray)(hl:lt.length≤1000000)(hll: ∀l∈lt,l.length≤1000000)(hs:s.size≤1048576):
  DCalls Tryz.prog 29 [.agg (ortRow nm us lt),dv (ls s)] (dv (li (sectE lt s))):=by
 have hmax:maxLen=9223372036854775807:=rfl
 have hF:=rLetters_D nm us lt s hl hll hs
 have hk:=sect_key lt s
 generalize lettersE lt s=r at hF hk
 obtain⟨a,b,all⟩:=r
 simp only at hF hk
 cases a with
 | nil=>
  simp only[List.head?_nil]at hk
  refine kd (N:=30) (rs:= [.tmp 4]) Tryz.func29 ?_
  (repeat'(first|apply kA|apply kB|((first|refine kc (N:=30) ?_|refine kj (N:=30) kt48 ?_|apply kD|apply kE|refine kx hF ?_|apply kF);simp +decide only[go_sem,ortRow])|(apply kG;(simp +decide only[go_sem,ortRow];rfl);all_goals(intro hcnd;try exact kz hcnd))|((first|apply kH|apply kI)<;>(intro hcnd;simp +decide only[go_sem,hcnd,ortRow]))))
  rw[← hk]
 | cons x a=>
  simp only[List.head?_cons]at hk
  have t0:((((a.length+1:Nat)):Int)==0)=false:=by rw[beq_eq_false_iff_ne];omega
  by_cases g:(lt.length:Int)≤x
  ·rw[if_pos g]at hk
   have t1:((lt.length:Int)≤x)=True:=by simpa using g
   refine kd (N:=30) (rs:= [.tmp 4]) Tryz.func29 ?_
   (repeat'(first|apply kA|apply kB|((first|refine kc (N:=30) ?_|refine kj (N:=30) kt48 ?_|apply kD|apply kE|refine kx hF ?_|apply kF);simp +decide only[go_sem,ortRow,t0,t1,ints,List.map_cons])|(apply kG;(simp +decide only[go_sem,ortRow,t0,t1,ints,List.map_cons];rfl);all_goals(intro hcnd;try exact kz hcnd))|((first|apply kH|apply kI)<;>(intro hcnd;simp +decide only[go_sem,hcnd,ortRow,t0,t1,ints,List.map_cons]))))
   rw[← hk]
  ·rw[if_neg g]at hk
   have t1:((lt.length:Int)≤x)=False:=by simpa using g
   refine kd (N:=30) (rs:= [.tmp 4]) Tryz.func29 ?_
   (repeat'(first|apply kA|apply kB|((first|refine kc (N:=30) ?_|refine kj (N:=30) kt48 ?_|apply kD|apply kE|refine kx hF ?_|apply kF);simp +decide only[go_sem,ortRow,t0,t1,ints,List.map_cons])|(apply kG;(simp +decide only[go_sem,ortRow,t0,t1,ints,List.map_cons];rfl);all_goals(intro hcnd;try exact kz hcnd))|((first|apply kH|apply kI)<;>(intro hcnd;simp +decide only[go_sem,hcnd,ortRow,t0,t1,ints,List.map_cons]))))
   rw[← hk]
end Go.Proofs.YtehdkccjaeckhaaGreatDoor
namespace Go.Proofs.YtehdkccjaeckhaaGreatDoor
open S (usort)
-- lines
theorem lines_pre(d:Dic): ∀(a b:List Ent) (last:Option Int),d.linesF last a <+: d.linesF last (a++b)
 | [],b,last=>List.nil_prefix
 | x::a,b,last=>by
  simp only[List.cons_append,Dic.linesF]
  exact(List.prefix_append_right_inj _).2 (lines_pre d a b _)
theorem lines_at(d:Dic)(k:Nat):d.linesF none (d.ord.take k) <+: d.lines:=by
 unfold Dic.lines
 conv=>rhs;rw[← List.take_append_drop k d.ord]
 exact lines_pre d _ _ _
theorem seg_of{α:Type}{a b c l:List α}(h:a++b++c=l):a.length+b.length≤l.length∧(l.drop a.length).take b.length=b:=by
 subst h
 rw[List.append_assoc]
 exact⟨by simp,by rw[List.drop_left,List.take_left]⟩
end Go.Proofs.YtehdkccjaeckhaaGreatDoor
namespace Go.Dl
open Go.RowKit
noncomputable section
def PR.len:PR→Nat
 | .leaf=>0
 | .run l t=>l.length+t.len
 | .bl _ t=>1+t.len
 | .ex _ t=>1+t.len
 | .dia _ _ t=>2+t.len
 | .here _ t=>t.len
 | .two _ t _ _=>1+t.len
 | .thr _ t _ _ _ _=>1+t.len
def isExtract(o:Option Oper):Bool:=match o with
 | some o=>match o.op with
  | .extract _ _=>true
  | _=>false
 | none=>false
def apartAt(ops:List Oper)(i j:Nat):Bool:=match ops[i]?,ops[j]? with
 | some oi,some oj=>oi.apart ops.toArray oj
 | _,_=>false
def PR.ok(ops:List Oper):PR→Array Bool→Bool
 | .leaf,listed=>(Region.ready .any ops.toArray listed).isEmpty
 | .run l t,listed=>runOk ops l listed&&t.ok ops (afterA l listed)
 | .bl i t,listed=>Region.free .any ops.toArray listed i&&(Region.ready .any ops.toArray listed).contains i&&(ops[i]?).isSome&&t.ok ops (listed.setIfInBounds i true)
 | .ex i t,listed=>Region.free .any ops.toArray listed i&&(Region.ready .any ops.toArray listed).contains i&&isExtract ops[i]? &&t.ok ops (listed.setIfInBounds i true)
 | .dia i j t,listed=>(Region.ready .any ops.toArray listed== [i,j])&&(Region.ready .any ops.toArray (listed.setIfInBounds i true)== [j])&&(Region.ready .any ops.toArray (listed.setIfInBounds j true)== [i])&&apartAt ops i j&&(i !=j)&&t.ok ops ((listed.setIfInBounds i true).setIfInBounds j true)
 | .here a t,listed=>(listed==a)&&t.ok ops a
 | .two i t j u,listed=>(Region.ready .any ops.toArray listed== [i,j])&&(ops[i]?).isSome&&(ops[j]?).isSome&&(t.len==u.len)&&t.ok ops (listed.setIfInBounds i true)&&u.ok ops (listed.setIfInBounds j true)
 | .thr i t j u k v,listed=>(Region.ready .any ops.toArray listed== [i,j,k])&&(ops[i]?).isSome&&(ops[j]?).isSome&&(ops[k]?).isSome&&(t.len==u.len)&&(t.len==v.len)&&t.ok ops (listed.setIfInBounds i true)&&u.ok ops (listed.setIfInBounds j true)&&v.ok ops (listed.setIfInBounds k true)
section
variable {P : Program}
theorem blind_extract{s:DS}{o:Oper}{x:Operand}{i:Nat}{ds:List D}{d:D}(ho:o.op= .extract x i)(hx:s.ev x= .tup ds)(hi:ds[i]? =some d):Blind P s o d:=fun X E a w hE=>by
 have hv:=hE.ev x
 rw[hx]at hv
 generalize he:a.eval x=v at hv
 cases hv with
 | tup _ vs hl hr=>
  have hlt:i<vs.size:=by rw[hl];exact(List.getElem?_eq_some_iff.1 hi).1
  exact⟨vs[i],fun w'=>by simp[execOp,ho,he,Instr.extract,hlt],hr i d _ hi (Array.getElem?_eq_getElem hlt)⟩
theorem extract_blind{s:DS}{o:Oper}{d:D}(h:isExtract (some o)=true)(hq:QD P s.ev s.bx o.op (· =d)):Blind P s o d:=by
 obtain⟨dst,op,ty,pos,aft,g⟩:=o
 cases op with
 | extract x i=>
  simp only[QD]at hq
  split at hq
  ·rename_i ds hx
   split at hq
   ·rename_i d' hd
    subst hq
    exact blind_extract rfl hx hd
   ·exact hq.elim
  ·exact hq.elim
 | _=>simp[isExtract]at h
theorem wk_AL{ops:List Oper}{o:Oper}{l:List (Mode×Oper)}{s:DS}{K:DS→Prop}(h:wk P (ops.map (·.dst)) ((.light,o)::l) s K):AL P ops o s fun s'=>wk P (ops.map (·.dst)) l s' K:=by
 have h:=wk_cons h
 unfold GIs at h
 unfold AL
 split at h
 ·rename_i hw
  simp only[hw]
  cases h with
  | light d hq hk=>exact⟨d,hq,hk⟩
 ·rename_i hw
  simp only[hw]
  exact h
 ·exact h.elim
theorem pr_ok{ops:List Oper}{hd:List Nat}{N:Nat}(hb:dstB ops N=true)(hs:Region.noSelect ops.toArray=true){K:DS→Prop}: ∀(t:PR) (listed:Array Bool) (s:DS),t.ok ops listed=true→t.wk P ops hd (ops.map (·.dst)) s K→AnyOk P ops N K t.len listed s
 | .leaf,listed,s,hc,h=>any_done (by simpa[PR.ok]using hc) h
 | .run l t,listed,s,hc,h=>by
  simp only[PR.ok,Bool.and_eq_true]at hc
  exact run_ok hb l listed s hc.1 h (fun s' h'=>pr_ok hb hs t _ s' hc.2 h') (run_some l listed hc.1)
 | .bl i t,listed,s,hc,h=>by
  simp only[PR.ok,Bool.and_eq_true]at hc
  obtain⟨⟨⟨h1,h2⟩,h3⟩,h4⟩:=hc
  have hl:(PR.bl i t).len=t.len+1:=by simp[PR.len];omega
  rw[hl]
  cases ho:ops[i]? with
  | none=>rw[ho]at h3;cases h3
  | some o=>
   simp only[PR.wk,pickM,ho]at h
   have h7:=wk_cons h
   unfold GIs at h7
   split at h7
   ·rename_i hw
    cases h7 with
    | blind d hbl hk=>exact any_blind hb ho hs h1 h2 hw hbl (pr_ok hb hs t _ _ h4 hk)
   ·rename_i hw
    exact any_not hb ho hs h1 h2 hw (pr_ok hb hs t _ _ h4 h7)
   ·exact h7.elim
 | .ex i t,listed,s,hc,h=>by
  simp only[PR.ok,Bool.and_eq_true]at hc
  obtain⟨⟨⟨h1,h2⟩,h3⟩,h4⟩:=hc
  have hl:(PR.ex i t).len=t.len+1:=by simp[PR.len];omega
  rw[hl]
  cases ho:ops[i]? with
  | none=>rw[ho]at h3;cases h3
  | some o=>
   rw[ho]at h3
   simp only[PR.wk,pickM,ho]at h
   have h7:=wk_cons h
   unfold GIs at h7
   split at h7
   ·rename_i hw
    cases h7 with
    | light d hq hk=>exact any_blind hb ho hs h1 h2 hw (extract_blind h3 hq) (pr_ok hb hs t _ _ h4 hk)
   ·rename_i hw
    exact any_not hb ho hs h1 h2 hw (pr_ok hb hs t _ _ h4 h7)
   ·exact h7.elim
 | .here a t,listed,s,hc,h=>by
  simp only[PR.ok,Bool.and_eq_true,beq_iff_eq]at hc
  obtain⟨rfl,h2⟩:=hc
  exact pr_ok hb hs t _ s h2 h
 | .dia i j t,listed,s,hc,h=>by
  simp only[PR.ok,Bool.and_eq_true,beq_iff_eq,bne_iff_ne]at hc
  obtain⟨⟨⟨⟨⟨h1,h2⟩,h3⟩,h4⟩,hne⟩,h5⟩:=hc
  have hl:(PR.dia i j t).len=(t.len+1)+1:=by simp[PR.len];omega
  rw[hl]
  unfold apartAt at h4
  split at h4
  ·rename_i oi oj hi hj
   simp only[PR.wk,pickM,hi,hj]at h
   have g1:AL P ops oi s fun s1=>AL P ops oj s1 fun s2=>AnyOk P ops N K t.len ((listed.setIfInBounds i true).setIfInBounds j true) s2:=AL_mono (fun s1 q1=>AL_mono (fun s2 q2=>pr_ok hb hs t _ s2 h5 q2) (wk_AL q1)) (wk_AL h)
   have g2:=diamond h4 g1
   refine any_each hb h1 (by simp) fun k hk=>?_
   have hk':k=i∨k=j:=by simpa using hk
   rcases hk' with rfl|rfl
   ·exact⟨oi,hi,AL_guard (AL_mono (fun s1 q1=>any_each hb h2 (by simp) fun q hq=>by
     obtain rfl:q=j:=by simpa using hq
     exact⟨oj,hj,AL_guard q1⟩) g1)⟩
   ·refine⟨oj,hj,AL_guard (AL_mono (fun s1 q1=>any_each hb h3 (by simp) fun q hq=>?_) g2)⟩
    obtain rfl:q=i:=by simpa using hq
    rw[Array.setIfInBounds_comm _ _ hne]at q1
    exact⟨oi,hi,AL_guard q1⟩
  ·cases h4
 | .two i t j u,listed,s,hc,h=>by
  simp only[PR.ok,Bool.and_eq_true,beq_iff_eq]at hc
  obtain⟨⟨⟨⟨⟨h1,h2⟩,h3⟩,h4⟩,h5⟩,h6⟩:=hc
  have hl:(PR.two i t j u).len=t.len+1:=by simp[PR.len];omega
  rw[hl]
  refine any_each hb h1 (by simp) fun k hk=>?_
  have hk':k=i∨k=j:=by simpa using hk
  rcases hk' with rfl|rfl
  ·cases ho:ops[k]? with
   | none=>rw[ho]at h2;cases h2
   | some o=>
    have h7:=h.1
    simp only[pickH,ho]at h7
    exact⟨o,rfl,guardS_mono (fun s' h'=>pr_ok hb hs t _ s' h5 h') (wk_guardS h7)⟩
  ·cases ho:ops[k]? with
   | none=>rw[ho]at h3;cases h3
   | some o=>
    have h7:=h.2
    simp only[pickH,ho]at h7
    refine⟨o,rfl,guardS_mono (fun s' h'=>?_) (wk_guardS h7)⟩
    rw[h4]
    exact pr_ok hb hs u _ s' h6 h'
 | .thr i t j u k v,listed,s,hc,h=>by
  simp only[PR.ok,Bool.and_eq_true,beq_iff_eq]at hc
  obtain⟨⟨⟨⟨⟨⟨⟨⟨h1,h2⟩,h3⟩,h3'⟩,h4⟩,h4'⟩,h5⟩,h6⟩,h6'⟩:=hc
  have hl:(PR.thr i t j u k v).len=t.len+1:=by simp[PR.len];omega
  rw[hl]
  refine any_each hb h1 (by simp) fun q hq=>?_
  have hq':q=i∨q=j∨q=k:=by simpa using hq
  rcases hq' with rfl|rfl|rfl
  ·cases ho:ops[q]? with
   | none=>rw[ho]at h2;cases h2
   | some o=>
    have h7:=h.1
    simp only[pickH,ho]at h7
    exact⟨o,rfl,guardS_mono (fun s' h'=>pr_ok hb hs t _ s' h5 h') (wk_guardS h7)⟩
  ·cases ho:ops[q]? with
   | none=>rw[ho]at h3;cases h3
   | some o=>
    have h7:=h.2.1
    simp only[pickH,ho]at h7
    refine⟨o,rfl,guardS_mono (fun s' h'=>?_) (wk_guardS h7)⟩
    rw[h4]
    exact pr_ok hb hs u _ s' h6 h'
  ·cases ho:ops[q]? with
   | none=>rw[ho]at h3';cases h3'
   | some o=>
    have h7:=h.2.2
    simp only[pickH,ho]at h7
    refine⟨o,rfl,guardS_mono (fun s' h'=>?_) (wk_guardS h7)⟩
    rw[h4']
    exact pr_ok hb hs v _ s' h6' h'
def checkPR(ops:List Oper)(N:Nat)(t:PR):Bool:=
 dstB ops N&&Region.noSelect ops.toArray&&t.ok ops (Array.replicate ops.length false)&&(t.len==ops.length)
theorem dw_treeR{id:Nat}{l:List Oper}{s:DS}{Q:Exit→DS→Prop}{N:Nat}(hd:List Nat)(t:PR)(hm:P.follows .mixedOrders=true)(hn:s.n=N)(hc:checkPR l N t=true)
  (h:t.wk P l hd (l.map (·.dst)) s (Q .normal)):DW P (.region id l.toArray true) s Q:=by
 simp only[checkPR,Bool.and_eq_true,beq_iff_eq]at hc
 obtain⟨⟨⟨h1,h2⟩,h3⟩,h4⟩:=hc
 subst hn
 refine dw_any h1 hm ?_
 have:=pr_ok h1 h2 t _ s h3 h
 rwa [h4]at this
end
end
end Go.Dl
namespace Go.Dl
open Go.RowKit
noncomputable section
def edgesOf(o:Oper):List Nat:=(o.after.toList.filter fun e=>Region.binds .any e).map (·.on)
def readyG(m:Nat):List (List Nat)→Nat→List Nat
 | [],_=> []
 | l::r,i=>if(!m.testBit i&&l.all fun k=>m.testBit k)=true then i::readyG m r (i+1)else readyG m r (i+1)
def readyM(E:List (List Nat))(m:Nat):List Nat:=readyG m E 0
def arrOf(n m:Nat):Array Bool:=((List.range n).map fun i=>m.testBit i).toArray
theorem arrOf_get{n m i:Nat}(d:Bool)(h:i<n):(arrOf n m).getD i d=m.testBit i:=by
 simp[arrOf,Array.getD,h]
theorem arrOf_set{n m i:Nat}(h:i<n):(arrOf n m).setIfInBounds i true=arrOf n (m ||| 2 ^ i):=by
 apply Array.ext
 ·simp[arrOf]
 ·intro j h1 h2
  have hj:j<n:=by simpa[arrOf]using h2
  rw[Array.getElem_setIfInBounds (by simpa[arrOf]using hj)]
  by_cases hij:i=j
  ·subst hij;simp[arrOf,Nat.testBit_or,Nat.testBit_two_pow]
  ·simp[arrOf,Nat.testBit_or,Nat.testBit_two_pow,hij]
theorem arrOf_zero(n:Nat):Array.replicate n false=arrOf n 0:=by
 apply Array.ext
 ·simp[arrOf]
 ·intro j h1 h2
  simp[arrOf]
theorem ready_mask{ops:List Oper}{E:List (List Nat)}(hE:ops.map edgesOf=E)(hn:E.all (fun l=>l.all fun k=>decide (k<ops.length))=true)(m:Nat):Region.ready .any ops.toArray (arrOf ops.length m)=readyM E m:=by
 subst hE
 have key: ∀(suf:List Oper) (k:Nat),(∀(i:Nat) o,suf[i]? =some o→ops[k+i]? =some o)→k+suf.length=ops.length→
   ((List.range' k suf.length).filter fun i=> !(arrOf ops.length m).getD i true&&((ops.toArray[i]?).map fun o:Oper=>o.after.all fun e=> !Region.binds .any e||(arrOf ops.length m).getD e.on false).getD false)=readyG m (suf.map edgesOf) k:=by
  intro suf
  induction suf with
  | nil=>intro k _ _;rfl
  | cons o suf ih=>
   intro k hs hl
   have hk:k<ops.length:=by simp at hl;omega
   have ho:ops[k]? =some o:=hs 0 o rfl
   have hb:(o.after.all fun e=> !Region.binds .any e||(arrOf ops.length m).getD e.on false)=(edgesOf o).all fun k=>m.testBit k:=by
    have h1:(edgesOf o).all (fun k=>decide (k<ops.length))=true:=by
     rw[List.all_eq_true]at hn
     exact hn _ (List.mem_map.2 ⟨o,List.mem_of_getElem? ho,rfl⟩)
    unfold edgesOf at h1 ⊢
    rw[← Array.all_toList]
    generalize o.after.toList=l at h1 ⊢
    induction l with
    | nil=>rfl
    | cons e l ih2=>
     cases hbe:Region.binds .any e
     ·simp only[List.filter_cons,hbe,Bool.false_eq_true,if_false,List.all_cons,Bool.not_false,Bool.true_or,Bool.true_and]at h1 ⊢
      exact ih2 h1
     ·simp only[List.filter_cons,hbe,if_true,List.map_cons,List.all_cons,Bool.and_eq_true,decide_eq_true_eq,Bool.not_true,Bool.false_or]at h1 ⊢
      rw[arrOf_get _ h1.1,ih2 h1.2]
   rw[List.length_cons,List.range'_succ,List.filter_cons,List.map_cons,readyG]
   have ih':=ih (k+1) (fun i o' h=>by rw[Nat.add_assoc,Nat.add_comm 1 i];exact hs (i+1) o' (by simpa using h)) (by simp at hl;omega)
   simp only[List.getElem?_toArray]at ih' ⊢
   rw[ih',arrOf_get _ hk,ho]
   simp only[Option.map_some,Option.getD_some,hb]
 have h:=key ops 0 (fun i o h=>by simpa using h) (by simp)
 unfold Region.ready readyM
 rw[← h]
 simp only[List.size_toArray,List.range_eq_range']
def runM(E:List (List Nat)):List Nat→Nat→Bool
 | [],_=>true
 | i::l,m=>(readyM E m== [i])&&runM E l (m ||| 2 ^ i)
def afterM:List Nat→Nat→Nat
 | [],m=>m
 | i::l,m=>afterM l (m ||| 2 ^ i)
def ltB(n:Nat)(l:List Nat):Bool:=l.all fun i=>decide (i<n)
def PR.okM(ops:List Oper)(E:List (List Nat)):PR→Nat→Bool
 | .leaf,m=>(readyM E m).isEmpty
 | .run l t,m=>ltB ops.length l&&(runM E l m&&t.okM ops E (afterM l m))
 | .bl i t,m=>decide (i<ops.length)&&(Region.free .any ops.toArray (arrOf ops.length m) i&&(readyM E m).contains i&&(ops[i]?).isSome&&t.okM ops E (m ||| 2 ^ i))
 | .ex i t,m=>decide (i<ops.length)&&(Region.free .any ops.toArray (arrOf ops.length m) i&&(readyM E m).contains i&&isExtract ops[i]? &&t.okM ops E (m ||| 2 ^ i))
 | .dia i j t,m=>decide (i<ops.length)&&decide (j<ops.length)&&((readyM E m== [i,j])&&(readyM E (m ||| 2 ^ i)== [j])&&(readyM E (m ||| 2 ^ j)== [i])&&apartAt ops i j&&(i !=j)&&t.okM ops E ((m ||| 2 ^ i) ||| 2 ^ j))
 | .here a t,m=>(arrOf ops.length m==a)&&t.okM ops E m
 | .two i t j u,m=>decide (i<ops.length)&&decide (j<ops.length)&&((readyM E m== [i,j])&&(ops[i]?).isSome&&(ops[j]?).isSome&&(t.len==u.len)&&t.okM ops E (m ||| 2 ^ i)&&u.okM ops E (m ||| 2 ^ j))
 | .thr i t j u k v,m=>decide (i<ops.length)&&decide (j<ops.length)&&decide (k<ops.length)&&((readyM E m== [i,j,k])&&(ops[i]?).isSome&&(ops[j]?).isSome&&(ops[k]?).isSome&&(t.len==u.len)&&(t.len==v.len)&&t.okM ops E (m ||| 2 ^ i)&&u.okM ops E (m ||| 2 ^ j)&&v.okM ops E (m ||| 2 ^ k))
theorem run_mask{ops:List Oper}{E:List (List Nat)}(hE:ops.map edgesOf=E)(hn:E.all (fun l=>l.all fun k=>decide (k<ops.length))=true): ∀(l:List Nat) (m:Nat),ltB ops.length l=true→runM E l m=true→runOk ops l (arrOf ops.length m)=true∧afterA l (arrOf ops.length m)=arrOf ops.length (afterM l m)
 | [],m,_,_=>⟨rfl,rfl⟩
 | i::l,m,hl,h=>by
  simp only[ltB,List.all_cons,Bool.and_eq_true,decide_eq_true_eq]at hl
  simp only[runM,Bool.and_eq_true]at h
  have ih:=run_mask hE hn l _ (by simpa[ltB]using hl.2) h.2
  simp only[runOk,afterA,afterM,arrOf_set hl.1,ready_mask hE hn,h.1,Bool.true_and]
  exact ih
theorem pr_mask{ops:List Oper}{E:List (List Nat)}(hE:ops.map edgesOf=E)(hn:E.all (fun l=>l.all fun k=>decide (k<ops.length))=true): ∀(t:PR) (m:Nat),t.okM ops E m=true→t.ok ops (arrOf ops.length m)=true
 | .leaf,m,h=>by simpa only[PR.ok,PR.okM,ready_mask hE hn]using h
 | .run l t,m,h=>by
  simp only[PR.okM,Bool.and_eq_true]at h
  have h1:=run_mask hE hn l m h.1 h.2.1
  simp only[PR.ok,h1.1,h1.2,Bool.true_and]
  exact pr_mask hE hn t _ h.2.2
 | .bl i t,m,h=>by
  simp only[PR.okM,Bool.and_eq_true,decide_eq_true_eq]at h
  simp only[PR.ok,ready_mask hE hn,arrOf_set h.1,h.2.1.1.1,h.2.1.1.2,h.2.1.2,Bool.true_and]
  exact pr_mask hE hn t _ h.2.2
 | .ex i t,m,h=>by
  simp only[PR.okM,Bool.and_eq_true,decide_eq_true_eq]at h
  simp only[PR.ok,ready_mask hE hn,arrOf_set h.1,h.2.1.1.1,h.2.1.1.2,h.2.1.2,Bool.true_and]
  exact pr_mask hE hn t _ h.2.2
 | .dia i j t,m,h=>by
  simp only[PR.okM,Bool.and_eq_true,decide_eq_true_eq]at h
  obtain⟨⟨hi,hj⟩,⟨⟨⟨⟨h1,h2⟩,h3⟩,h4⟩,h5⟩,h6⟩:=h
  simp only[PR.ok,ready_mask hE hn,arrOf_set hi,arrOf_set hj,h1,h2,h3,h4,h5,Bool.true_and]
  exact pr_mask hE hn t _ h6
 | .here a t,m,h=>by
  simp only[PR.okM,Bool.and_eq_true,beq_iff_eq]at h
  obtain⟨rfl,h2⟩:=h
  simp only[PR.ok,BEq.rfl,Bool.true_and]
  exact pr_mask hE hn t _ h2
 | .two i t j u,m,h=>by
  simp only[PR.okM,Bool.and_eq_true,decide_eq_true_eq]at h
  obtain⟨⟨hi,hj⟩,⟨⟨⟨⟨h1,h2⟩,h3⟩,h4⟩,h5⟩,h6⟩:=h
  simp only[PR.ok,ready_mask hE hn,arrOf_set hi,arrOf_set hj,h1,h2,h3,h4,Bool.true_and,pr_mask hE hn t _ h5,pr_mask hE hn u _ h6]
 | .thr i t j u k v,m,h=>by
  simp only[PR.okM,Bool.and_eq_true,decide_eq_true_eq]at h
  obtain⟨⟨⟨hi,hj⟩,hk⟩,⟨⟨⟨⟨⟨⟨⟨h1,h2⟩,h3⟩,h4⟩,h5⟩,h6⟩,h7⟩,h8⟩,h9⟩:=h
  simp only[PR.ok,ready_mask hE hn,arrOf_set hi,arrOf_set hj,arrOf_set hk,h1,h2,h3,h4,h5,h6,Bool.true_and,pr_mask hE hn t _ h7,pr_mask hE hn u _ h8,pr_mask hE hn v _ h9]
def checkPM(ops:List Oper)(N:Nat)(E:List (List Nat))(t:PR):Bool:=
 dstB ops N&&Region.noSelect ops.toArray&&(E.all fun l=>l.all fun k=>decide (k<ops.length))&&t.okM ops E 0&&(t.len==ops.length)
theorem dw_treeM{P:Program}{id:Nat}{l:List Oper}{s:DS}{Q:Exit→DS→Prop}{N:Nat}(hd:List Nat)(E:List (List Nat))(t:PR)(hm:P.follows .mixedOrders=true)(hn:s.n=N)(hE:l.map edgesOf=E)(hc:checkPM l N E t=true)
  (h:t.wk P l hd (l.map (·.dst)) s (Q .normal)):DW P (.region id l.toArray true) s Q:=by
 simp only[checkPM,Bool.and_eq_true]at hc
 obtain⟨⟨⟨⟨h1,h2⟩,h3⟩,h4⟩,h5⟩:=hc
 refine dw_treeR hd t hm hn ?_ h
 simp only[checkPR,Bool.and_eq_true]
 rw[arrOf_zero]
 exact⟨⟨⟨h1,h2⟩,pr_mask hE h3 t 0 h4⟩,h5⟩
end
end Go.Dl
namespace Go.Proofs.YtehdkccjaeckhaaGreatDoor
open Go.Dl
open S (usort)
attribute [local irreducible] DW DCalls ECalls wk IW
def Dic.lastR(d:Dic)(k:Nat):Int:=if k=0 then 0 else d.lastI k
theorem lastR_succ{d:Dic}{k:Nat}{e:Ent}(h:d.ord[k]? =some e):d.lastR (k+1)=d.sect e:=by
 unfold Dic.lastR;rw[if_neg (by omega)];exact lastI_succ h
theorem once_seg{d:Dic}{k:Nat}{e:Ent}(h:d.ord[k]? =some e): ∃c,d.lineP k++d.hdr k e++d.article e.id++c=d.lines:=by
 obtain⟨c,hc⟩:=lines_at d (k+1)
 refine⟨c,?_⟩
 have:=lineP_succ h
 unfold Dic.lineP at this
 unfold Dic.lineP Dic.hdr
 rw[← hc,this]
 simp only[List.append_assoc]
theorem once_at{d:Dic}{k:Nat}{e:Ent}(h:d.ord[k]? =some e)(h1:d.lastI k≠d.sect e):d.lines[(d.lineP k).length]? =some (d.sline (d.sect e)):=by
 obtain⟨c,hc⟩:=once_seg h
 rw[← hc]
 unfold Dic.hdr
 rw[if_neg h1]
 simp
theorem once_part{d:Dic}{k:Nat}{e:Ent}(h:d.ord[k]? =some e):(d.lineP k++d.hdr k e).length+(d.article e.id).length≤d.lines.length∧(d.lines.drop (d.lineP k++d.hdr k e).length).take (d.article e.id).length=d.article e.id:=by
 obtain⟨c,hc⟩:=once_seg h
 exact seg_of hc
theorem once_len{d:Dic}{k:Nat}{e:Ent}(h:d.ord[k]? =some e):(d.lineP (k+1)).length=(d.lineP k++d.hdr k e).length+(d.article e.id).length:=by
 rw[lineP_succ h]
 unfold Dic.hdr
 simp only[List.length_append];omega
theorem ord_few{d:Dic}(hd:OkD d):d.ord.length≤5:=by rw[ord_len];exact hd.few
theorem lines_len{d:Dic}(hd:OkD d):d.lines.length≤70:=by
 have:=lineP_len hd d.ord.length (Nat.le_refl _)
 rw[lineP_all]at this
 have:=ord_few hd
 omega
theorem ids_usort{d:Dic}(hs:UpE d.lex):(usort (d.ord.map (·.id))).length=d.lex.length:=by
 rw[usort_len (ord_ids hs),List.length_map,ord_len]
theorem lawOnce(g:Lng)(hm:MidL g):DCalls Tryz.prog 8 [.agg (lngRow g.x g.d)] (dv (lb true)):=by
 have hmax:maxLen=9223372036854775807:=rfl
 have hL:=rLight_D g hm
 have hW:=awake_D
 simp only[lngRow]at hL
 refine kd (N:=145) (rs:= [.tmp 2]) Tryz.func8 ?_
 cases t1:lightB g
 ·rw[t1]at hL
  (repeat'(first|apply kA|apply kB|((first|refine kc (N:=145) ?_|refine kj (N:=145) kt62 ?_|apply kD|apply kE|refine kx hL ?_|refine kx hW ?_|apply kF);simp +decide only[go_sem,lngRow])|(apply kG;(simp +decide only[go_sem,lngRow];rfl);all_goals(intro hcnd;try exact kz hcnd))|((first|apply kH|apply kI)<;>(intro hcnd;simp +decide only[go_sem,hcnd,lngRow]))))
 rw[t1]at hL
 have hok:=light_ok hm t1
 clear t1
 generalize g.x=x at hL ⊢
 generalize g.d=d at hL hok ⊢
 have hA:=lines_D x hok (order56_D x hok)
 have hO:=order56_D x hok
 have hf:=hok.few
 have hol:=ord_len d
 have hll:=lines_len hok
 simp only[lngRow]at hA hO
 (repeat'(first|apply kA|apply kB|((first|refine kc (N:=145) ?_|refine kj (N:=145) kt62 ?_|apply kD|apply kE|refine kx hL ?_|refine kx hA ?_|refine kx hO ?_);simp +decide only[go_sem,lngRow])|(apply kG;(simp +decide only[go_sem,lngRow];rfl);all_goals(intro hcnd;try exact kz hcnd))|((first|apply kH|apply kI)<;>(intro hcnd;simp +decide only[go_sem,hcnd,lngRow]))))
 refine dw_rng0 d.ord (fun k=>kn 145 [(1,.one (.bx 1 9 0 0)),(3,dv (.sl 1 (strs d.lines))),(4,dv (.sl 1 (ints (d.ord.map (·.id))))),(5,dv (li (d.lineP k).length)),(6,dv (li (d.lastR k))),(7,dv (li k))] (ml [(1,[lngRow x d])])) (by omega)
  (kM rfl (by simp +decide only[go_sem,lngRow,lineP_zero,List.length_nil];exact .inl rfl) (by simp +decide only[go_sem,lngRow])) ?_ ?_
 ·intro k e hy hj hmm htk hlt hw
  have hml:=(ord_perm d).mem_iff.1 hmm
  have hG:=rGet_D d.lex e.id (by omega)
  rw[getE_up hok.up hml]at hG
  have hS:=spelled_D x hok e.form (by have:=hok.frm e hml;omega)
  have hC:=rSection_D x.nm d.units d.letters (d.sp e.form) (by have:=hok.llen;omega) hok.lll (by have:=sp_sz hok hml;omega)
  have hAr:=article_D x hok e.id
  have hsi:=lastR_succ hy
  have hge:=sect_ge d e
  have hse:sectE d.letters (d.sp e.form)=d.sect e:=rfl
  rw[hse]at hC
  have hx:(ints (d.ord.map (·.id)))[k]? =some [li e.id]:=by simp[ints,hy]
  have hlast:(k=0→d.lastI k≠d.sect e)∧(k≠0→d.lastR k=d.lastI k):=by
   constructor
   ·rintro rfl;rw[lastI_zero];omega
   ·intro h;unfold Dic.lastR;rw[if_neg h]
  obtain⟨hp1,hp2⟩:=once_part hy
  have hln:=once_len hy
  have hat:=once_at hy
  have hal:=article_len hok e.id
  have hne:(d.article e.id).length≠0:=by
   have:=article_ne (d:=d) (id:=e.id) (by rw[getE_up hok.up hml])
   simpa using this
  simp only[lngRow,Ent.row,ortRow]at hS hC hAr hG
  rw[hsi,hln]
  (repeat'(first|apply kA|apply kB|((first|refine kc (N:=145) ?_|refine kj (N:=145) kt62 ?_|apply kD|apply kE);simp +decide only[go_sem,hlt,hw,hx,lngRow,Ent.row])|(apply kG;(simp +decide only[go_sem,hlt,hw,hx,lngRow,Ent.row];rfl);all_goals(intro hcnd;try exact kz hcnd))|((first|apply kH|apply kI)<;>(intro hcnd;simp +decide only[go_sem,hcnd,hlt,hw,hx,lngRow,Ent.row]))))
  refine dw_afterN (fun _:Unit=>kn 145 [(1,.one (.bx 1 9 0 0)),(3,dv (.sl 1 (strs d.lines))),(4,dv (.sl 1 (ints (d.ord.map (·.id))))),(5,dv (li (d.lineP k).length)),(6,dv (li (d.lastR k))),(7,dv (li k)),(8,.one (.bx 8 8 0 0)),(9,dv (lb true))] (ml [(1,[lngRow x d]),(8,[e.row])])) (fun _=>True) ?_ ?_
  ·apply dw_treeM (id:=9) (N:=145) [] [[],[0],[],[],[2,3],[4],[1,5],[6],[7],[7],[],[10,8,6,0,1,2,3,4,5,6,7,8,10],[9,11,0,1,2,3,4,5,6,7,8,9,10,11]] (.bl 0 (.bl 2 (.bl 3 (.thr 1 (.two 4 (.two 5 (.two 6 (.bl 7 (.ex 8 (.ex 9 (.run [10,11,12] .leaf)))) 10 (.run [6,7] (.ex 8 (.ex 9 (.run [11,12] .leaf))))) 10 (.run [5,6,7] (.ex 8 (.ex 9 (.run [11,12] .leaf))))) 10 (.run [4,5,6,7] (.ex 8 (.ex 9 (.run [11,12] .leaf))))) 4 (.thr 1 (.two 5 (.two 6 (.bl 7 (.ex 8 (.ex 9 (.run [10,11,12] .leaf)))) 10 (.run [6,7] (.ex 8 (.ex 9 (.run [11,12] .leaf))))) 10 (.run [5,6,7] (.ex 8 (.ex 9 (.run [11,12] .leaf))))) 5 (.two 1 (.two 6 (.bl 7 (.ex 8 (.ex 9 (.run [10,11,12] .leaf)))) 10 (.run [6,7] (.ex 8 (.ex 9 (.run [11,12] .leaf))))) 10 (.run [1,6,7] (.ex 8 (.ex 9 (.run [11,12] .leaf))))) 10 (.dia 1 5 (.run [6,7] (.ex 8 (.ex 9 (.run [11,12] .leaf)))))) 10 (.two 1 (.run [4,5,6,7] (.ex 8 (.ex 9 (.run [11,12] .leaf)))) 4 (.dia 1 5 (.run [6,7] (.ex 8 (.ex 9 (.run [11,12] .leaf))))))))));kernel_rfl;rfl;kernel_rfl;kernel_rfl
   simp only[List.append_eq,List.cons_append,List.nil_append,List.map_cons,List.map_nil]
   simp +decide only[go_sem,hx,hy,Option.map_some]
   (repeat'(first|apply And.intro|(refine kw hG ?_;simp +decide only[go_sem,hx,hy,Option.map_some,lngRow,Ent.row])|(refine kO (hG) (kP rfl) ?_;simp +decide only[go_sem,hx,hy,Option.map_some,lngRow,Ent.row])))
   all_goals exact⟨(),kM rfl (by simp +decide only[go_sem,lngRow,Ent.row]) (by simp +decide only[go_sem,lngRow,Ent.row])⟩
  rintro _ _
  have hE:=equal_D (d.article e.id) (d.article e.id) (by omega)
  rw[decide_eq_true rfl]at hE
  generalize hsl:d.sline (d.sect e)=sl at hat
  have hhd:d.lastI k=d.sect e→d.hdr k e= []:=fun h=>by unfold Dic.hdr;rw[if_pos h]
  have hhd2:d.lastI k≠d.sect e→(d.lineP k++d.hdr k e).length=(d.lineP k).length+1:=fun h=>by unfold Dic.hdr;rw[if_neg h,List.length_append];rfl
  have hsd: ∀n m,(d.lines.drop n).take m=d.article e.id→List.drop n (List.take (n+m) (strs d.lines))=strs (d.article e.id):=fun n m h=>by
   rw[← h,List.drop_take,Nat.add_sub_cancel_left];simp[strs,List.map_take,List.map_drop]
  unfold Dic.sline at hsl
  generalize d.article e.id=art at hAr hp1 hp2 hne hal hE hsd ⊢
  have t5:((art.length:Int)==0)=false:=by rw[beq_eq_false_iff_ne];omega
  by_cases h1:d.lastI k=d.sect e
  ·have h0:k≠0:=fun h=>hlast.1 h h1
   have t0:((k:Int)==0)=false:=by rw[beq_eq_false_iff_ne];omega
   have t1:(d.sect e !=d.lastR k)=false:=by rw[hlast.2 h0,h1];simp
   rw[hhd h1,List.append_nil]at hp1 hp2 ⊢
   generalize (d.lineP k).length=n at hp1 hp2 hat ⊢
   have w1:IntKind.i64.wrap ((n:Int)+(art.length:Int))=((n+art.length:Nat):Int):=by rw[wrap_i64 (by omega) (by omega)];omega
   have t6:decide ((d.lines.length:Int)<((n+art.length:Nat):Int))=false:=by simp;omega
   have t7:(n≤n+art.length∧n+art.length≤d.lines.length)=True:=eq_true (by omega)
   have hdt:=hsd _ _ hp2
   (repeat'(first|apply kA|apply kB|((first|refine kc (N:=145) ?_|refine kj (N:=145) kt62 ?_|apply kD|apply kE|refine kx hS ?_|refine kx hC ?_|refine kx hAr ?_|refine kx hE ?_);simp +decide only[go_sem,hlt,hw,hx,hy,Option.map_some,t0,t1,t5,t6,t7,hdt,w1,lngRow,Ent.row])|(apply kG;(simp +decide only[go_sem,hlt,hw,hx,hy,Option.map_some,t0,t1,t5,t6,t7,hdt,w1,lngRow,Ent.row];rfl);all_goals(intro hcnd;try exact kz hcnd))|((first|apply kH|apply kI)<;>(intro hcnd;simp +decide only[go_sem,hcnd,hlt,hw,hx,hy,Option.map_some,t0,t1,t5,t6,t7,hdt,w1,lngRow,Ent.row]))))
   exact kM rfl (by simp +decide only[go_sem,lngRow]) (by simp +decide only[go_sem,lngRow])
  have hgo: ∃ts:Bool,(ts=true∧k=0)∨(ts=false∧k≠0):=by
   by_cases h0:k=0
   ·exact⟨true,.inl ⟨rfl,h0⟩⟩
   ·exact⟨false,.inr ⟨rfl,h0⟩⟩
  obtain⟨ts,hts⟩:=hgo
  have t0:((k:Int)==0)=ts:=by
   rcases hts with⟨rfl,h0⟩|⟨rfl,h0⟩
   ·rw[beq_iff_eq];omega
   ·rw[beq_eq_false_iff_ne];omega
  have t1:ts=false→(d.sect e !=d.lastR k)=true:=by
   rcases hts with⟨rfl,h0⟩|⟨rfl,h0⟩
   ·intro h;cases h
   ·intro _;rw[hlast.2 h0];simpa using fun h=>h1 h.symm
  clear hts
  replace hat:=hat h1
  rw[hhd2 h1]at hp1 hp2 ⊢
  generalize (d.lineP k).length=n at hp1 hp2 hat ⊢
  have w0:IntKind.i64.wrap ((n:Int)+1)=((n+1:Nat):Int):=by rw[wrap_i64 (by omega) (by omega)];omega
  have w1:IntKind.i64.wrap (((n+1:Nat):Int)+(art.length:Int))=((n+1+art.length:Nat):Int):=by rw[wrap_i64 (by omega) (by omega)];omega
  have t6:decide ((d.lines.length:Int)<((n+1+art.length:Nat):Int))=false:=by simp;omega
  have t7:(n+1≤n+1+art.length∧n+1+art.length≤d.lines.length)=True:=eq_true (by omega)
  have t8:decide ((d.lines.length:Int)≤(n:Int))=false:=by simp;omega
  have hdt:=hsd _ _ hp2
  by_cases h2:0≤d.sect e
  ·rw[if_pos h2]at hsl
   have hH:=rHead_D x.nm d.units d.letters (d.sect e) (by have:=hok.llen;omega) hok.lne
   have hhl:=headS_le hok.lsz (d.sect e)
   simp only[ortRow]at hH
   have t3:(0≤d.sect e)=True:=eq_true h2
   have t4:(d.sect e<0)=False:=eq_false (by omega)
   generalize headS d.letters (d.sect e)=hh at hH hhl hsl
   have z1:(#[(61:UInt8),32].size+hh.size≤maxLen)=True:=mx (by simp only[List.size_toArray,List.length_cons,List.length_nil];omega)
   have z2:(#[(61:UInt8),32].size+hh.size+ #[(32:UInt8),61].size≤maxLen)=True:=mx (by simp only[List.size_toArray,List.length_cons,List.length_nil];omega)
   have c1:(sl==(({ data:= #[61,32] }:ByteArray)++hh++{ data:= #[32,61] }))=true:=(bytes_eq _ _).2 hsl.symm
   cases ts
   ·have t1':=t1 rfl
    (repeat'(first|apply kA|apply kB|((first|refine kc (N:=145) ?_|refine kj (N:=145) kt62 ?_|apply kD|apply kE|refine kx hS ?_|refine kx hC ?_|refine kx hAr ?_|refine kx hE ?_|refine kx hH ?_);simp +decide only[go_sem,hlt,hw,hx,hy,hat,Option.map_some,t0,t1',t3,t4,t5,t6,t7,t8,c1,Bool.not_true,hdt,w0,w1,z1,z2,lngRow,Ent.row])|(apply kG;(simp +decide only[go_sem,hlt,hw,hx,hy,hat,Option.map_some,t0,t1',t3,t4,t5,t6,t7,t8,c1,Bool.not_true,hdt,w0,w1,z1,z2,lngRow,Ent.row];rfl);all_goals(intro hcnd;try exact kz hcnd))|((first|apply kH|apply kI)<;>(intro hcnd;simp +decide only[go_sem,hcnd,hlt,hw,hx,hy,hat,Option.map_some,t0,t1',t3,t4,t5,t6,t7,t8,c1,Bool.not_true,hdt,w0,w1,z1,z2,lngRow,Ent.row]))))
    exact kM rfl (by simp +decide only[go_sem,lngRow]) (by simp +decide only[go_sem,lngRow])
   ·(repeat'(first|apply kA|apply kB|((first|refine kc (N:=145) ?_|refine kj (N:=145) kt62 ?_|apply kD|apply kE|refine kx hS ?_|refine kx hC ?_|refine kx hAr ?_|refine kx hE ?_|refine kx hH ?_);simp +decide only[go_sem,hlt,hw,hx,hy,hat,Option.map_some,t0,t3,t4,t5,t6,t7,t8,c1,Bool.not_true,hdt,w0,w1,z1,z2,lngRow,Ent.row])|(apply kG;(simp +decide only[go_sem,hlt,hw,hx,hy,hat,Option.map_some,t0,t3,t4,t5,t6,t7,t8,c1,Bool.not_true,hdt,w0,w1,z1,z2,lngRow,Ent.row];rfl);all_goals(intro hcnd;try exact kz hcnd))|((first|apply kH|apply kI)<;>(intro hcnd;simp +decide only[go_sem,hcnd,hlt,hw,hx,hy,hat,Option.map_some,t0,t3,t4,t5,t6,t7,t8,c1,Bool.not_true,hdt,w0,w1,z1,z2,lngRow,Ent.row]))))
    exact kM rfl (by simp +decide only[go_sem,lngRow]) (by simp +decide only[go_sem,lngRow])
  ·rw[if_neg h2]at hsl
   have t3:(0≤d.sect e)=False:=eq_false h2
   have t4:(d.sect e<0)=True:=eq_true (by omega)
   have c1:(sl==({ data:= #[61,32,35,32,61] }:ByteArray))=true:=(bytes_eq _ _).2 (hsl.symm.trans (by decide))
   cases ts
   ·have t1':=t1 rfl
    (repeat'(first|apply kA|apply kB|((first|refine kc (N:=145) ?_|refine kj (N:=145) kt62 ?_|apply kD|apply kE|refine kx hS ?_|refine kx hC ?_|refine kx hAr ?_|refine kx hE ?_);simp +decide only[go_sem,hlt,hw,hx,hy,hat,Option.map_some,t0,t1',t3,t4,t5,t6,t7,t8,c1,Bool.not_true,hdt,w0,w1,lngRow,Ent.row])|(apply kG;(simp +decide only[go_sem,hlt,hw,hx,hy,hat,Option.map_some,t0,t1',t3,t4,t5,t6,t7,t8,c1,Bool.not_true,hdt,w0,w1,lngRow,Ent.row];rfl);all_goals(intro hcnd;try exact kz hcnd))|((first|apply kH|apply kI)<;>(intro hcnd;simp +decide only[go_sem,hcnd,hlt,hw,hx,hy,hat,Option.map_some,t0,t1',t3,t4,t5,t6,t7,t8,c1,Bool.not_true,hdt,w0,w1,lngRow,Ent.row]))))
    exact kM rfl (by simp +decide only[go_sem,lngRow]) (by simp +decide only[go_sem,lngRow])
   ·(repeat'(first|apply kA|apply kB|((first|refine kc (N:=145) ?_|refine kj (N:=145) kt62 ?_|apply kD|apply kE|refine kx hS ?_|refine kx hC ?_|refine kx hAr ?_|refine kx hE ?_);simp +decide only[go_sem,hlt,hw,hx,hy,hat,Option.map_some,t0,t3,t4,t5,t6,t7,t8,c1,Bool.not_true,hdt,w0,w1,lngRow,Ent.row])|(apply kG;(simp +decide only[go_sem,hlt,hw,hx,hy,hat,Option.map_some,t0,t3,t4,t5,t6,t7,t8,c1,Bool.not_true,hdt,w0,w1,lngRow,Ent.row];rfl);all_goals(intro hcnd;try exact kz hcnd))|((first|apply kH|apply kI)<;>(intro hcnd;simp +decide only[go_sem,hcnd,hlt,hw,hx,hy,hat,Option.map_some,t0,t3,t4,t5,t6,t7,t8,c1,Bool.not_true,hdt,w0,w1,lngRow,Ent.row]))))
    exact kM rfl (by simp +decide only[go_sem,lngRow]) (by simp +decide only[go_sem,lngRow])
 ·intro hlt
  rw[lineP_all]
  have hS:=rSortedO_D (d.ord.map (·.id)) (by rw[List.length_map];omega)
  have hul:=ids_usort hok.up
  have c1:((d.lines.length:Int)==(d.lines.length:Int))=true:=beq_self_eq_true _
  have c2:((d.ord.length:Int)==(d.lex.length:Int))=true:=by rw[hol];exact beq_self_eq_true _
  have c3:(((usort (d.ord.map (·.id))).length:Int)==(d.lex.length:Int))=true:=by rw[hul];exact beq_self_eq_true _
  (repeat'(first|apply kA|apply kB|((first|refine kc (N:=145) ?_|refine kj (N:=145) kt62 ?_|apply kD|apply kE|refine kx hS ?_|refine kx hW ?_|apply kF);simp +decide only[go_sem,hlt,c1,c2,c3,lngRow])|(apply kG;(simp +decide only[go_sem,hlt,c1,c2,c3,lngRow];rfl);all_goals(intro hcnd;try exact kz hcnd))|((first|apply kH|apply kI)<;>(intro hcnd;simp +decide only[go_sem,hcnd,hlt,c1,c2,c3,lngRow]))))
end Go.Proofs.YtehdkccjaeckhaaGreatDoor
