/- Dictionaries: the law of homonyms. -/
import Derived.Lib.ItoaNum
import Derived.Lib.AtoiAll
import Derived.Test.YtehdkccjaeckhaaGreatDoorm5
set_option linter.all false
set_option linter.unusedVariables false
set_option linter.unusedSimpArgs false
set_option maxRecDepth 10000
set_option maxHeartbeats 8000000
namespace Go.Proofs.YtehdkccjaeckhaaGreatDoor
abbrev kpxi33:List (Nat×Go.Dl.Mode):= [(0,.light),(1,.light),(2,.light),(3,.light),(4,.step),(5,.light),(6,.light),(7,.light),(8,.light),(9,.light),(10,.light),(11,.light),(12,.light),(13,.step),(14,.light),(15,.light)]
abbrev kt65:Nat→List (Nat×Go.Dl.Mode):=fun n=>match n with|10=>kpxi33|12=>kpm28|13=>kpm28|_=> [(9999,.light)]
end Go.Proofs.YtehdkccjaeckhaaGreatDoor
open Go.Dl renaming dw_seq → kA, dw_block → kB, dw_reg → kC, dw_skip → kD, dw_exit → kE, dw_ret → kF, dw_cond → kG, guardC_f → kH, guardC_t → kI, dw_drw → kJ, dw_weaken → kK, sub_kn → kL, sub_ml → kM
open Go.Dl.CallC renaming mk → kN, light → kO
open Go.Dl.LeL renaming of_eq → kP
namespace Go.Dl
open Go.RowKit
noncomputable section
section
variable {P : Program}
theorem any_each{ops:List Oper}{N:Nat}(hb:dstB ops N=true){K:DS→Prop}{fuel:Nat}{listed:Array Bool}{s:DS}{l:List Nat}(hr:Region.ready .any ops.toArray listed=l)(hne:l≠ [])
  (h: ∀i∈l,∃o,ops[i]? =some o∧guardS P ops o s (AnyOk P ops N K fuel (listed.setIfInBounds i true))):AnyOk P ops N K (fuel+1) listed s:=by
 intro hn X a w hrel
 refine wpAny_all hr hne fun j hj=>?_
 obtain⟨o,ho,h⟩:=h j hj
 have hd:=dst_of hb ho
 unfold wpOp
 have ho':ops.toArray[j]? =some o:=by simpa using ho
 simp only[ho']
 unfold guardS at h
 split at h
 ·rename_i t ht
  rw[wantD_ok ht hrel]
  split at h
  ·rename_i h3
   rw[if_pos h3]
   refine .inl (Oper.wp_mono ?_ (h (fun d hd'=>by rw[hn];exact hd d hd') X a w hrel _))
   rintro a' w' ⟨s',⟨hn',hs'⟩,hr'⟩
   exact hs' (hn'.trans hn) X a' w' hr'
  ·rename_i h3
   rw[if_neg h3]
   exact h (by rw[put_n];exact hn) X _ w (putAny hrel (fun d hd'=>by rw[hn];exact hd d hd'))
 ·exact h.elim
theorem wk_guardS{ops:List Oper}{o:Oper}{l:List (Mode×Oper)}{s:DS}{K:DS→Prop}{p:Prop} [Decidable p](h:wk P (ops.map (·.dst)) ((if p then .hand else .step,o)::l) s K):guardS P ops o s fun s'=>wk P (ops.map (·.dst)) l s' K:=by
 have h:=wk_cons h
 unfold GIs at h
 simp only[guardS]
 split at h
 ·rename_i hw
  simp only[hw,if_true]
  split at h
  ·cases h with
   | hand h=>exact h
  ·cases h with
   | step h=>exact h
 ·rename_i hw
  simp only[hw,Bool.false_eq_true,if_false]
  exact h
 ·exact h.elim
theorem guardS_mono{ops:List Oper}{o:Oper}{s:DS}{K K':DS→Prop}(hk: ∀s,K s→K' s)(h:guardS P ops o s K):guardS P ops o s K':=by
 revert h
 simp only[guardS]
 split
 ·split
  ·exact fun h=>h.mono fun s' _=>hk s'
  ·exact hk _
 ·exact id
end
end
end Go.Dl
namespace Go.Proofs.YtehdkccjaeckhaaGreatDoor
open Go.Lib
theorem dig_nat{d:Nat}(h:d<10):(UInt8.ofNat (48+d)).toNat=48+d:=by
 rw[UInt8.toNat_ofNat'];exact Nat.mod_eq_of_lt (by omega)
theorem dd_digit: ∀u:Nat,∀c∈decDigits u,48≤c.toNat∧c.toNat≤57:=by
 intro u
 induction u using Nat.strongRecOn with
 | _ u ih=>
  intro c hc
  by_cases h:u<10
  ·rw[dd_small h]at hc
   rw[List.mem_singleton.1 hc,dig_nat h];omega
  ·rw[dd_big h]at hc
   rcases List.mem_append.1 hc with hc|hc
   ·exact ih (u / 10) (by omega) c hc
   ·rw[List.mem_singleton.1 hc,dig_nat (by omega)];omega
theorem dd_head(u:Nat): ∃c r,decDigits u=c::r∧48≤c.toNat∧c.toNat≤57:=by
 cases h:decDigits u with
 | nil=>
  exfalso
  by_cases h2:u<10
  ·rw[dd_small h2]at h;cases h
  ·rw[dd_big h2]at h;simp at h
 | cons c r=>exact⟨c,r,rfl,dd_digit u c (by rw[h];simp)⟩
def valD(l:List UInt8):Nat:=l.foldl (fun a c=>a*10+(c.toNat - 48)) 0
theorem valD_dd(u:Nat):valD (decDigits u)=u:=by
 induction u using Nat.strongRecOn with
 | _ u ih=>
  by_cases h:u<10
  ·rw[dd_small h];simp only[valD,List.foldl_cons,List.foldl_nil,dig_nat h];omega
  ·rw[dd_big h,valD,List.foldl_append]
   have:=ih (u / 10) (by omega)
   rw[valD]at this
   rw[this]
   simp only[List.foldl_cons,List.foldl_nil,dig_nat (show u % 10<10 by omega)];omega
theorem dd_inj{u v:Nat}(h:decDigits u=decDigits v):u=v:=by rw[← valD_dd u,h,valD_dd]
theorem itoa_neg{n:Int}(h:n<0):itoa n=45::decDigits n.natAbs:=by rw[itoa,if_pos h]
theorem dd_no45(u:Nat):(decDigits u).head?≠some 45:=by
 obtain⟨c,r,h,h1,_⟩:=dd_head u
 rw[h];intro e;simp at e;rw[e]at h1;exact absurd h1 (by decide)
theorem itoa_inj{a b:Int}(h:itoa a=itoa b):a=b:=by
 by_cases ha:a<0
 ·by_cases hb:b<0
  ·rw[itoa_neg ha,itoa_neg hb]at h
   injection h with _ h
   have:=dd_inj h;omega
  ·rw[itoa_neg ha,itoa_pos hb]at h
   exact absurd (by rw[← h];rfl) (dd_no45 b.natAbs)
 ·by_cases hb:b<0
  ·rw[itoa_pos ha,itoa_neg hb]at h
   exact absurd (by rw[h];rfl) (dd_no45 a.natAbs)
  ·rw[itoa_pos ha,itoa_pos hb]at h
   have:=dd_inj h;omega
theorem numB_list(n:Int):(numB n).data.toList=itoa n:=by simp[numB]
end Go.Proofs.YtehdkccjaeckhaaGreatDoor
namespace Go.Proofs.YtehdkccjaeckhaaGreatDoor
open S (usort)
theorem numB_inj{a b:Int}(h:numB a=numB b):a=b:=itoa_inj (by rw[← numB_list a,h,numB_list])
theorem bytes_app_inj{a b c:ByteArray}(h:a++b=a++c):b=c:=by
 have h1:=congrArg (fun x:ByteArray=>x.data.toList) h
 simp only[ByteArray.data_append,Array.toList_append]at h1
 have h2:=List.append_cancel_left h1
 cases b;cases c
 simp only at h2
 congr 1
 exact Array.toList_inj.1 h2
theorem take_count_lt{α:Type}{p:α→Bool}{l:List α}{i k:Nat}{x:α}(hik:k<i)(hx:l[k]? =some x)(hp:p x=true):(l.take k).countP p<(l.take i).countP p:=by
 have h1:(l.take (k+1)).countP p=(l.take k).countP p+1:=by
  rw[List.take_add_one,hx,List.countP_append];simp[hp]
 have h2:(l.take (k+1)).countP p≤(l.take i).countP p:=(List.take_sublist_take_left (by omega:k+1≤i)).countP_le
 omega
theorem head_ne{d:Dic}(hs:UpE d.lex){i k:Nat}{a b:Ent}(hik:k<i)(ha:d.lex[i]? =some a)(hb:d.lex[k]? =some b)(hf:a.form=b.form):d.head a.id≠d.head b.id:=by
 have ma:=List.mem_of_getElem? ha
 have mb:=List.mem_of_getElem? hb
 have e1:=hom_eq hs ha
 have e2:=hom_eq hs hb
 rw[hf]at e1
 have c1:=take_count_lt (p:=fun x=>decide (x.form=b.form)) hik hb (by simp)
 have hpa:(fun x:Ent=>decide (x.form=b.form)) a=true:=by simp[hf]
 have c2:(d.lex.take (i+1)).countP (fun x=>decide (x.form=b.form))=(d.lex.take i).countP (fun x=>decide (x.form=b.form))+1:=by
  rw[List.take_add_one,ha,List.countP_append];simp[hf]
 have c3:(d.lex.take (i+1)).countP (fun x=>decide (x.form=b.form))≤d.lex.countP (fun x=>decide (x.form=b.form)):=(List.take_sublist _ _).countP_le
 rw[if_neg (by omega)]at e1 e2
 unfold Dic.head
 rw[getE_up hs ma,getE_up hs mb,e1,e2,hf]
 simp only[Bool.true_eq_false,if_false]
 rw[if_pos (by omega),if_pos (by omega)]
 intro h
 have:=numB_inj (bytes_app_inj (bytes_app_inj h))
 omega
theorem head_begins{d:Dic}(hs:UpE d.lex){e:Ent}(he:e∈d.lex):(d.sp e.form).size≤(d.head e.id).size∧(d.head e.id).extract 0 (d.sp e.form).size=d.sp e.form:=by
 have h: ∃t,d.head e.id=d.sp e.form++t:=by
  unfold Dic.head
  rw[getE_up hs he]
  simp only[Bool.true_eq_false,if_false]
  split
  ·exact⟨_,rfl⟩
  ·exact⟨ByteArray.empty,by simp⟩
 obtain⟨t,ht⟩:=h
 rw[ht]
 exact⟨by simp,ByteArray.extract_append_eq_left rfl⟩
-- lines
end Go.Proofs.YtehdkccjaeckhaaGreatDoor
namespace Go.Dl
open Go.RowKit
noncomputable section
def edgesOf(o:Oper):List Nat:=(o.after.toList.filter fun e=>Region.binds .any e).map (·.on)
def readyG(m:Nat):List (List Nat)→Nat→List Nat
 | [],_=> []
 | l::r,i=>if(!m.testBit i&&l.all fun k=>m.testBit k)=true then i::readyG m r (i+1)else readyG m r (i+1)
def readyM(E:List (List Nat))(m:Nat):List Nat:=readyG m E 0
def arrOf(n m:Nat):Array Bool:=((List.range n).map fun i=>m.testBit i).toArray
theorem arrOf_get{n m i:Nat}(d:Bool)(h:i<n):(arrOf n m).getD i d=m.testBit i:=by
 simp[arrOf,Array.getD,h]
theorem arrOf_set{n m i:Nat}(h:i<n):(arrOf n m).setIfInBounds i true=arrOf n (m ||| 2 ^ i):=by
 apply Array.ext
 ·simp[arrOf]
 ·intro j h1 h2
  have hj:j<n:=by simpa[arrOf]using h2
  rw[Array.getElem_setIfInBounds (by simpa[arrOf]using hj)]
  by_cases hij:i=j
  ·subst hij;simp[arrOf,Nat.testBit_or,Nat.testBit_two_pow]
  ·simp[arrOf,Nat.testBit_or,Nat.testBit_two_pow,hij]
theorem arrOf_zero(n:Nat):Array.replicate n false=arrOf n 0:=by
 apply Array.ext
 ·simp[arrOf]
 ·intro j h1 h2
  simp[arrOf]
theorem ready_mask{ops:List Oper}{E:List (List Nat)}(hE:ops.map edgesOf=E)(hn:E.all (fun l=>l.all fun k=>decide (k<ops.length))=true)(m:Nat):Region.ready .any ops.toArray (arrOf ops.length m)=readyM E m:=by
 subst hE
 have key: ∀(suf:List Oper) (k:Nat),(∀(i:Nat) o,suf[i]? =some o→ops[k+i]? =some o)→k+suf.length=ops.length→
   ((List.range' k suf.length).filter fun i=> !(arrOf ops.length m).getD i true&&((ops.toArray[i]?).map fun o:Oper=>o.after.all fun e=> !Region.binds .any e||(arrOf ops.length m).getD e.on false).getD false)=readyG m (suf.map edgesOf) k:=by
  intro suf
  induction suf with
  | nil=>intro k _ _;rfl
  | cons o suf ih=>
   intro k hs hl
   have hk:k<ops.length:=by simp at hl;omega
   have ho:ops[k]? =some o:=hs 0 o rfl
   have hb:(o.after.all fun e=> !Region.binds .any e||(arrOf ops.length m).getD e.on false)=(edgesOf o).all fun k=>m.testBit k:=by
    have h1:(edgesOf o).all (fun k=>decide (k<ops.length))=true:=by
     rw[List.all_eq_true]at hn
     exact hn _ (List.mem_map.2 ⟨o,List.mem_of_getElem? ho,rfl⟩)
    unfold edgesOf at h1 ⊢
    rw[← Array.all_toList]
    generalize o.after.toList=l at h1 ⊢
    induction l with
    | nil=>rfl
    | cons e l ih2=>
     cases hbe:Region.binds .any e
     ·simp only[List.filter_cons,hbe,Bool.false_eq_true,if_false,List.all_cons,Bool.not_false,Bool.true_or,Bool.true_and]at h1 ⊢
      exact ih2 h1
     ·simp only[List.filter_cons,hbe,if_true,List.map_cons,List.all_cons,Bool.and_eq_true,decide_eq_true_eq,Bool.not_true,Bool.false_or]at h1 ⊢
      rw[arrOf_get _ h1.1,ih2 h1.2]
   rw[List.length_cons,List.range'_succ,List.filter_cons,List.map_cons,readyG]
   have ih':=ih (k+1) (fun i o' h=>by rw[Nat.add_assoc,Nat.add_comm 1 i];exact hs (i+1) o' (by simpa using h)) (by simp at hl;omega)
   simp only[List.getElem?_toArray]at ih' ⊢
   rw[ih',arrOf_get _ hk,ho]
   simp only[Option.map_some,Option.getD_some,hb]
 have h:=key ops 0 (fun i o h=>by simpa using h) (by simp)
 unfold Region.ready readyM
 rw[← h]
 simp only[List.size_toArray,List.range_eq_range']
def runM(E:List (List Nat)):List Nat→Nat→Bool
 | [],_=>true
 | i::l,m=>(readyM E m== [i])&&runM E l (m ||| 2 ^ i)
def afterM:List Nat→Nat→Nat
 | [],m=>m
 | i::l,m=>afterM l (m ||| 2 ^ i)
end
end Go.Dl
namespace Go.Dl
open Go.RowKit
noncomputable section
def levelsOk(n:Nat)(E:List (List Nat))(T:List (Nat×Nat)):List (List Nat)→Bool
 | []=>false
 | [L]=>L.all fun m=>(readyM E m).isEmpty
 | L::L'::r=>(L.all fun m=> !(readyM E m).isEmpty&&(readyM E m).all fun i=>decide (i<n)&&(T.contains (m,i)&&L'.contains (m ||| 2 ^ i)))&&levelsOk n E T (L'::r)
section
variable {P : Program}
theorem anyok_sub{ops:List Oper}{N fuel:Nat}{K:DS→Prop}{listed:Array Bool}{s s':DS}(h:s.Sub s')(hn:s'.n=N)(H:AnyOk P ops N K fuel listed s'):AnyOk P ops N K fuel listed s:=
 fun _ X a w hr=>H hn X a w (h X a w hr)
theorem edges_at{ops:List Oper}{hd:List Nat}{ds:List (Option Nat)}{St:Nat→DS}: ∀{T:List (Nat×Nat)},edgesW P ops hd ds St T→∀{m i:Nat},(m,i)∈T→Go.Dl.wk P ds (pickH ops hd [i]) (St m) (fun s'=>s'.Sub (St (m ||| 2 ^ i)))
 | (m',i')::T,h,m,i,hm=>by
  rcases List.mem_cons.1 hm with e|hm
  ·injection e with e1 e2;subst e1;subst e2;exact h.1
  ·exact edges_at h.2 hm
theorem dag_ok{ops:List Oper}{hd:List Nat}{N:Nat}{E:List (List Nat)}{T:List (Nat×Nat)}{St:Nat→DS}{K:DS→Prop}(hb:dstB ops N=true)(hE:ops.map edgesOf=E)(hn:E.all (fun l=>l.all fun k=>decide (k<ops.length))=true)
  (hSt: ∀m,(St m).n=N) (hed:edgesW P ops hd (ops.map (·.dst)) St T): ∀(Ls:List (List Nat)) (L:List Nat),levelsOk ops.length E T (L::Ls)=true→(∀L',(L::Ls).getLast? =some L'→∀m∈L',K (St m))→∀m∈L,AnyOk P ops N K Ls.length (arrOf ops.length m) (St m)
 | [],L,hc,hK,m,hm=>by
  have h1:=List.all_eq_true.1 (show(L.all fun m=>(readyM E m).isEmpty)=true from hc) m hm
  exact any_done (by rw[ready_mask hE hn];simpa using h1) (hK L rfl m hm)
 | L'::r,L,hc,hK,m,hm=>by
  have hc':((L.all fun m=> !(readyM E m).isEmpty&&(readyM E m).all fun i=>decide (i<ops.length)&&(T.contains (m,i)&&L'.contains (m ||| 2 ^ i)))&&levelsOk ops.length E T (L'::r))=true:=hc
  rw[Bool.and_eq_true]at hc'
  obtain⟨h1,h2⟩:=hc'
  have h3:=List.all_eq_true.1 h1 m hm
  rw[Bool.and_eq_true]at h3
  obtain⟨h4,h5⟩:=h3
  refine any_each hb (ready_mask hE hn m) (by intro e;rw[e]at h4;simp at h4) fun i hi=>?_
  have h6:=List.all_eq_true.1 h5 i hi
  simp only[Bool.and_eq_true,decide_eq_true_eq,List.contains_iff_mem]at h6
  obtain⟨h7,h8,h9⟩:=h6
  have h10:=edges_at hed h8
  have ho:ops[i]? =some ops[i]:=List.getElem?_eq_getElem h7
  refine⟨ops[i],ho,?_⟩
  simp only[pickH,ho]at h10
  rw[arrOf_set h7]
  have ih:=dag_ok hb hE hn hSt hed r L' h2 (fun L'' h=>hK L'' (by simpa using h)) _ h9
  exact guardS_mono (fun s' h'=>anyok_sub h' (hSt _) ih) (wk_guardS h10)
def blOk(ops:List Oper)(E:List (List Nat)):List Nat→Nat→Bool
 | [],_=>true
 | i::l,m=>decide (i<ops.length)&&(Region.free .any ops.toArray (arrOf ops.length m) i&&(readyM E m).contains i&&blOk ops E l (m ||| 2 ^ i))
theorem bl_ok{ops:List Oper}{N fuel:Nat}{E:List (List Nat)}{K:DS→Prop}{S1:DS}(hS:S1.n=N)(hb:dstB ops N=true)(hs:Region.noSelect ops.toArray=true)(hE:ops.map edgesOf=E)(hn:E.all (fun l=>l.all fun k=>decide (k<ops.length))=true):
  ∀(l:List Nat) (m:Nat) (s:DS),blOk ops E l m=true→AnyOk P ops N K fuel (arrOf ops.length (afterM l m)) S1→blW P ops (ops.map (·.dst)) l s (fun s'=>s'.Sub S1)→AnyOk P ops N K (fuel+l.length) (arrOf ops.length m) s
 | [],m,s,_,H,h=>anyok_sub h hS H
 | i::l,m,s,hc,H,h=>by
  simp only[blOk,Bool.and_eq_true,decide_eq_true_eq]at hc
  obtain⟨h0,⟨h1,h2⟩,h3⟩:=hc
  have ho:ops[i]? =some ops[i]:=List.getElem?_eq_getElem h0
  simp only[blW,pickM,ho]at h
  have h7:=wk_cons h
  have hr:(Region.ready .any ops.toArray (arrOf ops.length m)).contains i=true:=by rw[ready_mask hE hn];exact h2
  have e:fuel+(i::l).length=(fuel+l.length)+1:=rfl
  rw[e]
  have ih:=fun s'=>bl_ok (fuel:=fuel) (K:=K) hS hb hs hE hn l (m ||| 2 ^ i) s' h3 H
  unfold GIs at h7
  split at h7
  ·rename_i hw
   cases h7 with
   | blind d hbl hk=>exact any_blind hb ho hs h1 hr hw hbl (by rw[arrOf_set h0];exact ih _ hk)
  ·rename_i hw
   exact any_not hb ho hs h1 hr hw (by rw[arrOf_set h0];exact ih _ h7)
  ·exact h7.elim
def checkDag(ops:List Oper)(N:Nat)(E:List (List Nat))(pa:List Nat)(T:List (Nat×Nat))(Ls:List (List Nat))(full:Nat):Bool:=
 dstB ops N&&Region.noSelect ops.toArray&&(E.all fun l=>l.all fun k=>decide (k<ops.length))&&blOk ops E pa 0&&levelsOk ops.length E T ([afterM pa 0]::Ls)&&(([afterM pa 0]::Ls).getLast? ==some [full])&&(Ls.length+pa.length==ops.length)
theorem dw_dag{id:Nat}{l:List Oper}{s:DS}{Q:Exit→DS→Prop}{N:Nat}(hd:List Nat)(E:List (List Nat))(pa:List Nat)(T:List (Nat×Nat))(Ls:List (List Nat))(St:Nat→DS)(full:Nat)(hm:P.follows .mixedOrders=true)(hn:s.n=N)(hE:l.map edgesOf=E)(hc:checkDag l N E pa T Ls full=true)
  (hSt: ∀m,(St m).n=N) (h0:blW P l (l.map (·.dst)) pa s fun s'=>s'.Sub (St (afterM pa 0))) (he:edgesW P l hd (l.map (·.dst)) St T) (hq:Q .normal (St full)):DW P (.region id l.toArray true) s Q:=by
 simp only[checkDag,Bool.and_eq_true,beq_iff_eq]at hc
 obtain⟨⟨⟨⟨⟨⟨h1,h6⟩,h2⟩,h7⟩,h3⟩,h4⟩,h5⟩:=hc
 subst hn
 refine dw_any h1 hm ?_
 have:=dag_ok (K:=Q .normal) h1 hE h2 hSt he Ls [afterM pa 0] h3 (fun L' h m hmm=>by
  rw[h4]at h;injection h with h;subst h
  rw[List.mem_singleton.1 hmm];exact hq) (afterM pa 0) (by simp)
 have key:=bl_ok (hSt _) h1 h6 hE h2 pa 0 s h7 this h0
 rw[h5]at key
 rw[arrOf_zero]
 exact key
end
end
end Go.Dl
namespace Go.Proofs.YtehdkccjaeckhaaGreatDoor
open Go.Dl
open S (usort)
attribute [local irreducible] DW DCalls ECalls wk IW
def stM(N:Nat)(base:List (Nat×D))(tab:List (Nat×Nat×Nat×D))(bxs:List (Nat×Nat×Nat×Dl.Rows))(m:Nat):DS:=
 kn N (base++tab.filterMap fun p=>if m &&& p.1=p.1∧m &&& p.2.1=0 then some p.2.2 else none) (ml (bxs.filterMap fun p=>if m &&& p.1=p.1∧m &&& p.2.1=0 then some p.2.2 else none))
abbrev zE:List T:= [.c (li 0),.ex 1 [],.c (li 0),.ex 1 [],.c (li 0),.ex 2 [],.ex 2 [],.ex 2 []]
theorem lawHomonyms(g:Lng)(hm:MidL g):DCalls Tryz.prog 11 [.agg (lngRow g.x g.d)] (dv (lb true)):=by
 have hmax:maxLen=9223372036854775807:=rfl
 have hL:=rLight_D g hm
 have hW:=awake_D
 simp only[lngRow]at hL
 refine kd (N:=81) (rs:= [.tmp 2]) Tryz.func11 ?_
 cases t1:lightB g
 ·rw[t1]at hL
  (repeat'(first|apply kA|apply kB|((first|refine kc (N:=81) ?_|refine kj (N:=81) kt65 ?_|apply kD|apply kE|refine kx hL ?_|refine kx hW ?_|apply kF);simp +decide only[go_sem,lngRow])|(apply kG;(simp +decide only[go_sem,lngRow];rfl);all_goals(intro hcnd;try exact kz hcnd))|((first|apply kH|apply kI)<;>(intro hcnd;simp +decide only[go_sem,hcnd,lngRow]))))
 rw[t1]at hL
 have hok:=light_ok hm t1
 clear t1
 generalize g.x=x at hL ⊢
 generalize g.d=d at hL hok ⊢
 have hf:=hok.few
 (repeat'(first|apply kA|apply kB|((first|refine kc (N:=81) ?_|refine kj (N:=81) kt65 ?_|apply kD|apply kE|refine kx hL ?_);simp +decide only[go_sem,lngRow])|(apply kG;(simp +decide only[go_sem,lngRow];rfl);all_goals(intro hcnd;try exact kz hcnd))|((first|apply kH|apply kI)<;>(intro hcnd;simp +decide only[go_sem,hcnd,lngRow]))))
 refine dw_rng0 d.lex (fun k=>kn 81 [(1,.one (.bx 1 9 0 0)),(3,dv (li k))] (ml [(1,[lngRow x d])])) (by omega)
  (kM rfl (by simp +decide only[go_sem,lngRow]) (by simp +decide only[go_sem,lngRow])) ?_ ?_
 ·intro i a ha hj hma htk hlt hw
  have hHa:=head_D x hok a.id
  have hSa:=spelled_D x hok a.form (by have:=hok.frm a hma;omega)
  simp only[lngRow]at hHa hSa
  (repeat'(first|apply kA|apply kB|((first|refine kc (N:=81) ?_|refine kj (N:=81) kt65 ?_|apply kD|apply kE);simp +decide only[go_sem,hlt,hw,lngRow])|(apply kG;(simp +decide only[go_sem,hlt,hw,lngRow];rfl);all_goals(intro hcnd;try exact kz hcnd))|((first|apply kH|apply kI)<;>(intro hcnd;simp +decide only[go_sem,hcnd,hlt,hw,lngRow]))))
  refine dw_rng0 (d.lex.take i) (fun k=>kn 81 [(1,.one (.bx 1 9 0 0)),(3,dv (li i)),(4,dv (li k))] (ml [(1,[lngRow x d])])) (by rw[List.length_take];omega)
   (kM rfl (by simp +decide only[go_sem,lngRow]) (by simp +decide only[go_sem,lngRow])) ?_ ?_
  ·intro k b hb hk hmb htk2 hlt2 hw2
   have hkl:(d.lex.take i).length=i:=by rw[List.length_take];omega
   rw[hkl]at hlt2 hk
   have hb':d.lex[k]? =some b:=by rw[List.getElem?_take_of_lt hk]at hb;exact hb
   have hmb':=List.mem_of_getElem? hb'
   have hHb:=head_D x hok b.id
   have hE:=sameI_D a.form b.form (by have:=hok.frm a hma;omega)
   have hne:=head_ne hok.up hk ha hb'
   simp only[lngRow]at hHb
   (repeat'(first|apply kA|apply kB|((first|refine kc (N:=81) ?_|refine kj (N:=81) kt65 ?_|apply kD|apply kE);simp +decide only[go_sem,hlt2,lngRow])|(apply kG;(simp +decide only[go_sem,hlt2,lngRow];rfl);all_goals(intro hcnd;try exact kz hcnd))|((first|apply kH|apply kI)<;>(intro hcnd;simp +decide only[go_sem,hcnd,hlt2,lngRow]))))
   refine dw_afterN (fun _:Unit=>kn 81 [(1,.one (.bx 1 9 0 0)),(3,dv (li i)),(4,dv (li k)),(5,.one (.bx 5 8 0 0)),(6,.one (.bx 6 8 0 0))] (ml [(1,[lngRow x d]),(5,[a.row]),(6,[b.row])])) (fun _=>True) ?_ ?_
   ·refine dw_dag (id:=9) (N:=81) [] [[],[0],[],[1,2],[3],[],[5],[],[6,7],[8],[],[],[10,4,0,1,2,3,4,10,11],[11,9,12,0,1,2,3,4,5,6,7,8,9,10,11,12]] [0,2,5,7] [(165,1),(165,6),(165,10),(165,11),(167,3),(167,6),(167,10),(167,11),(229,1),(229,8),(229,10),(229,11),(1189,1),(1189,6),(1189,11),(2213,1),(2213,6),(2213,10),(175,4),(175,6),(175,10),(175,11),(231,3),(231,8),(231,10),(231,11),(1191,3),(1191,6),(1191,11),(2215,3),(2215,6),(2215,10),(485,1),(485,9),(485,10),(485,11),(1253,1),(1253,8),(1253,11),(2277,1),(2277,8),(2277,10),(3237,1),(3237,6),(191,6),(191,10),(191,11),(239,4),(239,8),(239,10),(239,11),(1199,4),(1199,6),(1199,11),(2223,4),(2223,6),(2223,10),(487,3),(487,9),(487,10),(487,11),(1255,3),(1255,8),(1255,11),(2279,3),(2279,8),(2279,10),(3239,3),(3239,6),(997,1),(997,10),(997,11),(1509,1),(1509,9),(1509,11),(2533,1),(2533,9),(2533,10),(3301,1),(3301,8),(255,8),(255,10),(255,11),(1215,6),(1215,11),(2239,6),(2239,10),(495,4),(495,9),(495,10),(495,11),(1263,4),(1263,8),(1263,11),(2287,4),(2287,8),(2287,10),(3247,4),(3247,6),(999,3),(999,10),(999,11),(1511,3),(1511,9),(1511,11),(2535,3),(2535,9),(2535,10),(3303,3),(3303,8),(2021,1),(2021,11),(3045,1),(3045,10),(3557,1),(3557,9),(511,9),(511,10),(511,11),(1279,8),(1279,11),(2303,8),(2303,10),(3263,6),(3263,12),(1007,4),(1007,10),(1007,11),(1519,4),(1519,9),(1519,11),(2543,4),(2543,9),(2543,10),(3311,4),(3311,8),(2023,3),(2023,11),(3047,3),(3047,10),(3559,3),(3559,9),(4069,1),(1023,10),(1023,11),(1535,9),(1535,11),(2559,9),(2559,10),(3327,8),(3327,12),(7359,6),(2031,4),(2031,11),(3055,4),(3055,10),(3567,4),(3567,9),(4071,3),(2047,11),(3071,10),(3583,9),(3583,12),(7423,8),(4079,4),(4095,12),(7679,9),(8191,13)] [[167,229,1189,2213],[175,231,1191,2215,485,1253,2277,3237],[191,239,1199,2223,487,1255,2279,3239,997,1509,2533,3301],[255,1215,2239,495,1263,2287,3247,999,1511,2535,3303,2021,3045,3557],[511,1279,2303,3263,1007,1519,2543,3311,2023,3047,3559,4069],[1023,1535,2559,3327,7359,2031,3055,3567,4071],[2047,3071,3583,7423,4079],[4095,7679],[8191],[16383]] (stM 81 [(1,.one (.bx 1 9 0 0)),(3,dv (li i)),(4,dv (li k)),(25,.one (.bx 1 9 0 8)),(27,dv (li i)),(30,.one (.bx 1 9 0 8)),(32,dv (li k))] [(2,0,26,dv (.sl 8 (d.lex.map Ent.enc))),(8,0,28,dv (.pt a.enc)),(16,0,29,.agg a.row),(64,0,31,dv (.sl 8 (d.lex.map Ent.enc))),(256,0,33,dv (.pt b.enc)),(512,0,34,.agg b.row),(1024,0,5,.one (.bx 5 8 0 0)),(2048,0,6,.one (.bx 6 8 0 0))] [(0,0,1,[lngRow x d]),(1024,4096,5,[zE]),(4096,0,5,[a.row]),(2048,8192,6,[zE]),(8192,0,6,[b.row])]) 16383 (by kernel_rfl) rfl (by kernel_rfl) (by kernel_rfl) (fun m=>rfl) ?_ ?_ ?_
    ·simp +decide only[go_sem,stM,afterM,List.filterMap_cons,List.filterMap_nil,List.cons_append,List.nil_append,lngRow,Ent.row,Ent.enc]
     exact kM rfl (by simp +decide only[go_sem]) (by simp +decide only[go_sem,Ent.row,lngRow])
    ·simp +decide only[go_sem,stM,List.filterMap_cons,List.filterMap_nil,List.cons_append,List.nil_append,ha,hb',Int.toNat_natCast,Option.map_some,lngRow,Ent.row,Ent.enc]
     (repeat' apply And.intro)
     all_goals exact kM rfl (by simp +decide only[go_sem]) (by simp +decide only[go_sem,Ent.row,lngRow])
    ·simp +decide only[go_sem,stM,List.filterMap_cons,List.filterMap_nil,List.cons_append,List.nil_append]
     exact⟨(),kM rfl (by simp +decide only[go_sem]) (by simp +decide only[go_sem,Ent.row,lngRow])⟩
   rintro _ _
   generalize d.head a.id=p at hHa hne
   generalize d.head b.id=q at hHb hne
   cases c1:decide (a.form=b.form)
   ·rw[c1]at hE
    (repeat'(first|apply kA|apply kB|((first|refine kc (N:=81) ?_|refine kj (N:=81) kt65 ?_|apply kD|apply kE|refine kx hE ?_|refine kx hHa ?_|refine kx hHb ?_);simp +decide only[go_sem,hw2,lngRow,Ent.row])|(apply kG;(simp +decide only[go_sem,hw2,lngRow,Ent.row];rfl);all_goals(intro hcnd;try exact kz hcnd))|((first|apply kH|apply kI)<;>(intro hcnd;simp +decide only[go_sem,hcnd,hw2,lngRow,Ent.row]))))
    exact kM rfl (by simp +decide only[go_sem,lngRow]) (by simp +decide only[go_sem,lngRow])
   ·rw[c1]at hE
    have c2:(p==q)=false:=bytes_ne (hne (of_decide_eq_true c1))
    (repeat'(first|apply kA|apply kB|((first|refine kc (N:=81) ?_|refine kj (N:=81) kt65 ?_|apply kD|apply kE|refine kx hE ?_|refine kx hHa ?_|refine kx hHb ?_);simp +decide only[go_sem,hw2,c2,lngRow,Ent.row])|(apply kG;(simp +decide only[go_sem,hw2,c2,lngRow,Ent.row];rfl);all_goals(intro hcnd;try exact kz hcnd))|((first|apply kH|apply kI)<;>(intro hcnd;simp +decide only[go_sem,hcnd,hw2,c2,lngRow,Ent.row]))))
    exact kM rfl (by simp +decide only[go_sem,lngRow]) (by simp +decide only[go_sem,lngRow])
  ·intro hlt2
   have hkl:(d.lex.take i).length=i:=by rw[List.length_take];omega
   rw[hkl]at hlt2 ⊢
   obtain⟨g1,g2⟩:=head_begins hok.up hma
   generalize d.head a.id=p at hHa g1 g2
   generalize d.sp a.form=q at hSa g1 g2
   have c1:decide ((p.size:Int)<(q.size:Int))=false:=by simp;omega
   have c2:(p.extract 0 q.size==q)=true:=by rw[g2];exact(bytes_eq _ _).2 rfl
   have c3:(q.size≤p.size)=True:=eq_true g1
   (repeat'(first|apply kA|apply kB|((first|refine kc (N:=81) ?_|refine kj (N:=81) kt65 ?_|apply kD|apply kE|refine kx hHa ?_|refine kx hSa ?_);simp +decide only[go_sem,hlt2,hw,ha,Int.toNat_natCast,Option.map_some,c1,c2,c3,Nat.zero_le,true_and,Bool.not_true,lngRow,Ent.enc])|(apply kG;(simp +decide only[go_sem,hlt2,hw,ha,Int.toNat_natCast,Option.map_some,c1,c2,c3,Nat.zero_le,true_and,Bool.not_true,lngRow,Ent.enc];rfl);all_goals(intro hcnd;try exact kz hcnd))|((first|apply kH|apply kI)<;>(intro hcnd;simp +decide only[go_sem,hcnd,hlt2,hw,ha,Int.toNat_natCast,Option.map_some,c1,c2,c3,Nat.zero_le,true_and,Bool.not_true,lngRow,Ent.enc]))))
   exact kM rfl (by simp +decide only[go_sem,lngRow]) (by simp +decide only[go_sem,lngRow])
 ·intro hlt
  (repeat'(first|apply kA|apply kB|((first|refine kc (N:=81) ?_|refine kj (N:=81) kt65 ?_|apply kD|apply kE|refine kx hW ?_|apply kF);simp +decide only[go_sem,hlt,lngRow])|(apply kG;(simp +decide only[go_sem,hlt,lngRow];rfl);all_goals(intro hcnd;try exact kz hcnd))|((first|apply kH|apply kI)<;>(intro hcnd;simp +decide only[go_sem,hcnd,hlt,lngRow]))))
end Go.Proofs.YtehdkccjaeckhaaGreatDoor
