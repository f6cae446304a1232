/- The logic of data over the kit's walk, and contracts of the functions that the laws reach, each said by plain data; part 3 of 6. -/
import Derived.Laws.MakeOwn
import Derived.Test.YtehdkccjaeckhaaGreatDoorRows
import Derived.KernelRfl
import Derived.Lib.ValidLaws
import Derived.Shelf.SortM.Plain
import Derived.Shelf.SortM.SortNone
import Derived.Ground.SlgmProg
import Derived.Test.YtehdkccjaeckhaaGreatDoorChecked
import Derived.Lib.ItoaNum
import Derived.Lib.AtoiAll
import Derived.Test.YtehdkccjaeckhaaGreatDoorn1
set_option linter.all false
set_option linter.unusedVariables false
set_option linter.unusedSimpArgs false
set_option maxRecDepth 10000
set_option maxHeartbeats 8000000
namespace Go.Dl
open Go.RowKit
noncomputable section
section
variable {P : Program}
theorem Step.makeSlice{o:Oper}{s:DS}{K:DS→Prop}{m n:Nat}{x y:Operand}{t e:TypeId}{z:List T}{inf:TypeInfo}{kx ky:IntKind}(ho:o.op= .makeSlice t x y)(hm:o.dst=some m)(hu:P.underlying t=some (.slice e))(hi:P.info? e=some inf)(hz:Program.zeroT P e=some z)
  (hpos:0<z.length) (hsz:inf.size=z.length) (hx:s.ev x= .one (.c (.lit (.int kx (n:Int))))) (hy:s.ev y= .one (.c (.lit (.int ky (n:Int))))) (hn:n*z.length≤16777216) (hb:inf.bytes*n≤281474976710656) (h63:n≤maxLen)
  (h:K ((s.newMem m (List.replicate n z)).put (some m) (.one (.ba m z.length 0 n n)))):Step P o s K:=by
 rintro hd X a w ⟨E,hE⟩ Q
 have hvx:=hE.ev x
 have hvy:=hE.ev y
 rw[hx]at hvx
 rw[hy]at hvy
 obtain⟨inf',z0,h1,h2,h3,h4⟩:=zeroT_ok hz
 rw[hi]at h1;injection h1 with h1;subst h1
 have hb':(inf.bytes:Int)*(n:Int)≤281474976710656:=by
  have:((inf.bytes*n:Nat):Int)≤281474976710656:=by omega
  rwa [Int.natCast_mul]at this
 have h63':(n:Int)≤9223372036854775807:=by have:=h63;simp[maxLen]at this;omega
 have hrun:=run_makeSlice (P:=P) w t e inf z0 hu hi h2 kx ky (n:Int) (n:Int) (Int.natCast_nonneg n) (Int.le_refl _) (by rw[hsz];simpa using hn) hb' h63'
 simp only[Int.toNat_natCast,hsz]at hrun
 have hz0:0<z0.cells.size:=by omega
 have hrows:RowsIs w E (madeCells z0.cells (n*z.length)) (List.replicate n z):=by
  refine⟨z.length,fun r hr=>by rw[List.eq_of_mem_replicate hr],by simp[size_madeCells],fun i j r t' v k1 k2 k3=>?_⟩
  have hin:i<n:=by have:=(List.getElem?_eq_some_iff.1 k1).1;simpa using this
  have hr:r=z:=List.eq_of_mem_replicate (List.mem_of_getElem? k1)
  subst hr
  have hj:j<r.length:=(List.getElem?_eq_some_iff.1 k2).1
  have hlt:=idx_lt hin hj (sz:=r.length)
  have hmod:(i*r.length+j) % z0.cells.size=j:=by rw[h3,Nat.mul_comm,Nat.mul_add_mod,Nat.mod_eq_of_lt hj]
  have hv:v=z0.cells[j]'(by omega):=by
   simp only[madeCells,Array.getElem?_map,Array.getElem?_range,hlt,if_true,Option.map_some,hmod]at k3
   injection k3 with k3
   rw[← k3,getElem!_pos z0.cells j (by omega)]
  subst hv
  exact h4 w E j t' _ k2 (Array.getElem?_eq_getElem (by omega))
 have h5:=hE.newMem m (hd m hm) (madeCells z0.cells (n*z.length)) e _ hrows
 refine wp_run (v:=.slice (some ⟨w.heap.size,0,none⟩) n n) (w':=w.alloc (.cells (madeCells z0.cells (n*z.length)) e)) ?_ ⟨_,⟨by rfl,h⟩,?_⟩
 ·simp only[execOp,ho,Sem.run_bind,hvx.lit,hvy.lit,hrun,Result.andThen_ok,Sem.run_pure]
 ·rw[hm]
  refine⟨_,h5.putOnly (fun d hd'=>by injection hd' with hd';subst hd';exact hd m hm) (.one _ _ ?_)⟩
  have:=VT.ba (w:=w.alloc (.cells (madeCells z0.cells (n*z.length)) e)) (E:=E.setρ m w.heap.size) m z.length 0 n n (Nat.le_refl _) h63
  simpa[Env.setρ]using this
end
theorem nb_lt(a:Nat):(a+NB<NB)=False:=eq_false (by omega)
attribute [go_sem] nb_lt
end
end Go.Dl
namespace Go.Proofs.YtehdkccjaeckhaaGreatDoor
def cmpL(a b:List Int):Int:=if a<b then -1 else if b<a then 1 else 0
def or3(x y z:Int):Int:=if x≠0 then x else if y≠0 then y else z
def cmpK(k m:List (List Int)):Int:=if k<m then -1 else if m<k then 1 else 0
theorem cmpL_zero{a b:List Int}:cmpL a b=0↔a=b:=by
 unfold cmpL
 constructor
 ·intro h
  split at h
  ·omega
  ·split at h
   ·omega
   ·rename_i h1 h2
    exact List.le_antisymm (List.not_lt.1 h2) (List.not_lt.1 h1)
 ·rintro rfl
  rw[if_neg (List.lt_irrefl a),if_neg (List.lt_irrefl a)]
theorem or3_key(a b c d e f:List Int):or3 (cmpL a d) (cmpL b e) (cmpL c f)=cmpK [a,b,c] [d,e,f]:=by
 have key:([a,b,c]< [d,e,f])↔(a<d∨a=d∧(b<e∨b=e∧c<f)):=by
  rw[List.cons_lt_cons_iff,List.cons_lt_cons_iff,List.cons_lt_cons_iff]
  simp
 have key2:([d,e,f]< [a,b,c])↔(d<a∨d=a∧(e<b∨e=b∧f<c)):=by
  rw[List.cons_lt_cons_iff,List.cons_lt_cons_iff,List.cons_lt_cons_iff]
  simp
 unfold or3 cmpK
 simp only[key,key2]
 by_cases h1:cmpL a d=0
 ·have ha:=cmpL_zero.1 h1
  subst ha
  rw[if_neg (by simpa using h1)]
  have la:=List.lt_irrefl a
  by_cases h2:cmpL b e=0
  ·have hb:=cmpL_zero.1 h2
   subst hb
   rw[if_neg (by simpa using h2)]
   have lb:=List.lt_irrefl b
   simp only[la,lb,false_or,true_and]
   rfl
  ·rw[if_pos h2]
   have hne:b≠e:=fun h=>h2 (cmpL_zero.2 h)
   simp only[la,false_or,true_and,hne,Ne.symm hne,false_and,or_false]
   rfl
 ·rw[if_pos h1]
  have hne:a≠d:=fun h=>h1 (cmpL_zero.2 h)
  simp only[hne,Ne.symm hne,false_and,or_false]
  rfl
def backN{α:Type}(q:α→Bool)(l:List α):Nat→Nat
 | 0=>0
 | n+1=>match l[n]? with
  | some x=>if q x=true then backN q l n else n+1
  | none=>0
def putBack{α:Type}(q:α→Bool)(l:List α)(x:α):List α:=l.take (backN q l l.length)++x::l.drop (backN q l l.length)
theorem backN_le{α:Type}(q:α→Bool)(l:List α): ∀n,backN q l n≤n
 | 0=>by simp[backN]
 | n+1=>by
  simp only[backN]
  split
  ·split
   ·exact Nat.le_succ_of_le (backN_le q l n)
   ·exact Nat.le_refl _
  ·exact Nat.zero_le _
theorem backN_congr{α:Type}{q r:α→Bool}{l:List α}(h: ∀x∈l,q x=r x): ∀n,backN q l n=backN r l n
 | 0=>rfl
 | n+1=>by
  simp only[backN]
  cases e:l[n]? with
  | none=>rfl
  | some x=>simp only;rw[h x (List.mem_of_getElem? e),backN_congr h n]
theorem putBack_congr{α:Type}{q r:α→Bool}{l:List α}(h: ∀x∈l,q x=r x)(x:α):putBack q l x=putBack r l x:=by
 unfold putBack;rw[backN_congr h]
theorem putBack_perm{α:Type}(q:α→Bool)(l:List α)(x:α):(putBack q l x).Perm (x::l):=by
 unfold putBack
 refine(List.perm_middle).trans ?_
 rw[List.take_append_drop]
theorem putBack_len{α:Type}(q:α→Bool)(l:List α)(x:α):(putBack q l x).length=l.length+1:=by
 simpa using (putBack_perm q l x).length_eq
theorem putBack_mem{α:Type}{q:α→Bool}{l:List α}{x y:α}:y∈putBack q l x↔y=x∨y∈l:=by
 rw[(putBack_perm q l x).mem_iff];simp
def comma:ByteArray:=⟨#[44,32]⟩
def joinR(l:List ByteArray):ByteArray:=match l with
 | []=>ByteArray.empty
 | s::r=>r.foldl (fun a t=>a++comma++t) s
def joinF(a:ByteArray):List ByteArray→ByteArray
 | []=>a
 | s::r=>if s.size=0 then joinF a r else joinF (if a.size=0 then s else a++comma++s) r
theorem joinF_fold: ∀(l:List ByteArray) (a:ByteArray),a.size≠0→(∀s∈l,s.size≠0)→joinF a l=l.foldl (fun a t=>a++comma++t) a
 | [],a,_,_=>rfl
 | s::r,a,ha,h=>by
  simp only[joinF,List.foldl_cons]
  rw[if_neg (h s (by simp)),if_neg ha]
  refine joinF_fold r _ ?_ fun t ht=>h t (by simp[ht])
  simp only[ByteArray.size_append];omega
theorem joinF_eq(l:List ByteArray)(h: ∀s∈l,s.size≠0):joinF ByteArray.empty l=joinR l:=by
 cases l with
 | nil=>rfl
 | cons s r=>
  simp only[joinF,joinR]
  rw[if_neg (h s (by simp)),if_pos (by simp)]
  exact joinF_fold r s (h s (by simp)) fun t ht=>h t (by simp[ht])
end Go.Proofs.YtehdkccjaeckhaaGreatDoor
attribute [go_sem] reduceIte reduceCtorEq Nat.reduceEqDiff Nat.reduceAdd Nat.reduceMul Nat.reduceSub Nat.reduceLeDiff Nat.reduceBEq
open Go.Dl renaming dw_seq → kA, dw_block → kB, dw_reg → kC, dw_skip → kD, dw_exit → kE, dw_ret → kF, dw_cond → kG, guardC_f → kH, guardC_t → kI, dw_drw → kJ, dw_weaken → kK, sub_kn → kL, sub_ml → kM
open Go.Dl.CallC renaming mk → kN, light → kO
open Go.Dl.LeL renaming of_eq → kP
namespace Go.Proofs.YtehdkccjaeckhaaGreatDoor
open Go.Dl
@[go_sem] theorem ldk_3:Program.ldk Tryz.prog 3=some none:=by kernel_rfl
@[go_sem] theorem cellsOfT_3:cellsOfT Tryz.prog 3=some 1:=by kernel_rfl
@[go_sem] theorem zeroC_3:Program.zeroC Tryz.prog 3=some [.lit (.int .i64 0)]:=by kernel_rfl
@[go_sem] theorem zeroT_3:Program.zeroT Tryz.prog 3=some [.c (.lit (.int .i64 0))]:=by kernel_rfl
attribute [go_sem] Tryz.underlying3
@[go_sem] theorem ldk_4:Program.ldk Tryz.prog 4=some none:=by kernel_rfl
@[go_sem] theorem cellsOfT_4:cellsOfT Tryz.prog 4=some 1:=by kernel_rfl
@[go_sem] theorem zeroC_4:Program.zeroC Tryz.prog 4=some [.lit (.bool false)]:=by kernel_rfl
@[go_sem] theorem zeroT_4:Program.zeroT Tryz.prog 4=some [.c (.lit (.bool false))]:=by kernel_rfl
attribute [go_sem] Tryz.underlying4
@[go_sem] theorem isBoolT_4:Program.isBoolT Tryz.prog 4=true:=by kernel_rfl
@[go_sem] theorem ldk_5:Program.ldk Tryz.prog 5=some none:=by kernel_rfl
@[go_sem] theorem cellsOfT_5:cellsOfT Tryz.prog 5=some 1:=by kernel_rfl
@[go_sem] theorem zeroC_5:Program.zeroC Tryz.prog 5=some [.lit (.int .u8 0)]:=by kernel_rfl
@[go_sem] theorem zeroT_5:Program.zeroT Tryz.prog 5=some [.c (.lit (.int .u8 0))]:=by kernel_rfl
attribute [go_sem] Tryz.underlying5
@[go_sem] theorem ldk_9:Program.ldk Tryz.prog 9=some none:=by kernel_rfl
@[go_sem] theorem cellsOfT_9:cellsOfT Tryz.prog 9=some 1:=by kernel_rfl
@[go_sem] theorem zeroC_9:Program.zeroC Tryz.prog 9=some [.lit (.string ⟨#[]⟩)]:=by kernel_rfl
@[go_sem] theorem zeroT_9:Program.zeroT Tryz.prog 9=some [.c (.lit (.string ⟨#[]⟩))]:=by kernel_rfl
attribute [go_sem] Tryz.underlying9
@[go_sem] theorem ldk_22:Program.ldk Tryz.prog 22=some none:=by kernel_rfl
@[go_sem] theorem cellsOfT_22:cellsOfT Tryz.prog 22=some 1:=by kernel_rfl
@[go_sem] theorem elemSz_22:Program.elemSz Tryz.prog 22=some 2:=by kernel_rfl
@[go_sem] theorem appInfo_22:appInfo Tryz.prog 22=some (2,24):=by kernel_rfl
@[go_sem] theorem zeroC_22:Program.zeroC Tryz.prog 22=some [.sl 2 []]:=by kernel_rfl
@[go_sem] theorem zeroT_22:Program.zeroT Tryz.prog 22=some [.ex 2 []]:=by kernel_rfl
@[go_sem] theorem nilT_22:Program.nilT Tryz.prog 22=true:=by kernel_rfl
attribute [go_sem] Tryz.underlying22
@[go_sem] theorem ldk_24:Program.ldk Tryz.prog 24=some (some 1):=by kernel_rfl
@[go_sem] theorem cellsOfT_24:cellsOfT Tryz.prog 24=some 1:=by kernel_rfl
@[go_sem] theorem zeroC_24:Program.zeroC Tryz.prog 24=some [.sl 2 []]:=by kernel_rfl
@[go_sem] theorem zeroT_24:Program.zeroT Tryz.prog 24=some [.ex 2 []]:=by kernel_rfl
@[go_sem] theorem places_24:Program.places Tryz.prog 24=some [(0,1)]:=by kernel_rfl
@[go_sem] theorem fieldOff_24_0:Program.fieldOff Tryz.prog 24 0=some 0:=by kernel_rfl
@[go_sem] theorem ldk_25:Program.ldk Tryz.prog 25=some none:=by kernel_rfl
@[go_sem] theorem cellsOfT_25:cellsOfT Tryz.prog 25=some 1:=by kernel_rfl
@[go_sem] theorem elemSz_25:Program.elemSz Tryz.prog 25=some 2:=by kernel_rfl
@[go_sem] theorem appInfo_25:appInfo Tryz.prog 25=some (2,40):=by kernel_rfl
@[go_sem] theorem zeroC_25:Program.zeroC Tryz.prog 25=some [.sl 2 []]:=by kernel_rfl
@[go_sem] theorem zeroT_25:Program.zeroT Tryz.prog 25=some [.ex 2 []]:=by kernel_rfl
@[go_sem] theorem nilT_25:Program.nilT Tryz.prog 25=true:=by kernel_rfl
attribute [go_sem] Tryz.underlying25
@[go_sem] theorem ldk_26:Program.ldk Tryz.prog 26=some none:=by kernel_rfl
@[go_sem] theorem cellsOfT_26:cellsOfT Tryz.prog 26=some 1:=by kernel_rfl
@[go_sem] theorem elemSz_26:Program.elemSz Tryz.prog 26=some 1:=by kernel_rfl
@[go_sem] theorem appInfo_26:appInfo Tryz.prog 26=some (1,24):=by kernel_rfl
@[go_sem] theorem zeroC_26:Program.zeroC Tryz.prog 26=some [.sl 1 []]:=by kernel_rfl
@[go_sem] theorem zeroT_26:Program.zeroT Tryz.prog 26=some [.ex 1 []]:=by kernel_rfl
@[go_sem] theorem nilT_26:Program.nilT Tryz.prog 26=true:=by kernel_rfl
attribute [go_sem] Tryz.underlying26
@[go_sem] theorem ldk_28:Program.ldk Tryz.prog 28=some (some 3):=by kernel_rfl
@[go_sem] theorem cellsOfT_28:cellsOfT Tryz.prog 28=some 3:=by kernel_rfl
@[go_sem] theorem zeroC_28:Program.zeroC Tryz.prog 28=some [.lit (.string ⟨#[]⟩),.sl 2 [],.sl 1 []]:=by kernel_rfl
@[go_sem] theorem zeroT_28:Program.zeroT Tryz.prog 28=some [.c (.lit (.string ⟨#[]⟩)),.ex 2 [],.ex 1 []]:=by kernel_rfl
@[go_sem] theorem places_28:Program.places Tryz.prog 28=some [(0,1),(1,1),(2,1)]:=by kernel_rfl
@[go_sem] theorem fieldOff_28_0:Program.fieldOff Tryz.prog 28 0=some 0:=by kernel_rfl
@[go_sem] theorem fieldOff_28_1:Program.fieldOff Tryz.prog 28 1=some 1:=by kernel_rfl
@[go_sem] theorem fieldOff_28_2:Program.fieldOff Tryz.prog 28 2=some 2:=by kernel_rfl
@[go_sem] theorem ldk_29:Program.ldk Tryz.prog 29=some none:=by kernel_rfl
@[go_sem] theorem cellsOfT_29:cellsOfT Tryz.prog 29=some 1:=by kernel_rfl
@[go_sem] theorem elemSz_29:Program.elemSz Tryz.prog 29=some 6:=by kernel_rfl
@[go_sem] theorem appInfo_29:appInfo Tryz.prog 29=some (6,104):=by kernel_rfl
@[go_sem] theorem zeroC_29:Program.zeroC Tryz.prog 29=some [.sl 6 []]:=by kernel_rfl
@[go_sem] theorem zeroT_29:Program.zeroT Tryz.prog 29=some [.ex 6 []]:=by kernel_rfl
@[go_sem] theorem nilT_29:Program.nilT Tryz.prog 29=true:=by kernel_rfl
attribute [go_sem] Tryz.underlying29
@[go_sem] theorem ldk_30:Program.ldk Tryz.prog 30=some none:=by kernel_rfl
@[go_sem] theorem cellsOfT_30:cellsOfT Tryz.prog 30=some 1:=by kernel_rfl
@[go_sem] theorem elemSz_30:Program.elemSz Tryz.prog 30=some 3:=by kernel_rfl
@[go_sem] theorem appInfo_30:appInfo Tryz.prog 30=some (3,24):=by kernel_rfl
@[go_sem] theorem zeroC_30:Program.zeroC Tryz.prog 30=some [.sl 3 []]:=by kernel_rfl
@[go_sem] theorem zeroT_30:Program.zeroT Tryz.prog 30=some [.ex 3 []]:=by kernel_rfl
@[go_sem] theorem nilT_30:Program.nilT Tryz.prog 30=true:=by kernel_rfl
attribute [go_sem] Tryz.underlying30
@[go_sem] theorem ldk_31:Program.ldk Tryz.prog 31=some none:=by kernel_rfl
@[go_sem] theorem cellsOfT_31:cellsOfT Tryz.prog 31=some 1:=by kernel_rfl
@[go_sem] theorem elemSz_31:Program.elemSz Tryz.prog 31=some 1:=by kernel_rfl
@[go_sem] theorem appInfo_31:appInfo Tryz.prog 31=some (1,8):=by kernel_rfl
@[go_sem] theorem zeroC_31:Program.zeroC Tryz.prog 31=some [.sl 1 []]:=by kernel_rfl
@[go_sem] theorem zeroT_31:Program.zeroT Tryz.prog 31=some [.ex 1 []]:=by kernel_rfl
@[go_sem] theorem nilT_31:Program.nilT Tryz.prog 31=true:=by kernel_rfl
attribute [go_sem] Tryz.underlying31
@[go_sem] theorem ldk_33:Program.ldk Tryz.prog 33=some (some 3):=by kernel_rfl
@[go_sem] theorem cellsOfT_33:cellsOfT Tryz.prog 33=some 3:=by kernel_rfl
@[go_sem] theorem zeroC_33:Program.zeroC Tryz.prog 33=some [.lit (.int .i64 0),.sl 3 [],.sl 1 []]:=by kernel_rfl
@[go_sem] theorem zeroT_33:Program.zeroT Tryz.prog 33=some [.c (.lit (.int .i64 0)),.ex 3 [],.ex 1 []]:=by kernel_rfl
@[go_sem] theorem places_33:Program.places Tryz.prog 33=some [(0,1),(1,1),(2,1)]:=by kernel_rfl
@[go_sem] theorem fieldOff_33_0:Program.fieldOff Tryz.prog 33 0=some 0:=by kernel_rfl
@[go_sem] theorem fieldOff_33_1:Program.fieldOff Tryz.prog 33 1=some 1:=by kernel_rfl
@[go_sem] theorem fieldOff_33_2:Program.fieldOff Tryz.prog 33 2=some 2:=by kernel_rfl
@[go_sem] theorem ldk_34:Program.ldk Tryz.prog 34=some none:=by kernel_rfl
@[go_sem] theorem cellsOfT_34:cellsOfT Tryz.prog 34=some 1:=by kernel_rfl
@[go_sem] theorem elemSz_34:Program.elemSz Tryz.prog 34=some 8:=by kernel_rfl
@[go_sem] theorem appInfo_34:appInfo Tryz.prog 34=some (8,144):=by kernel_rfl
@[go_sem] theorem zeroC_34:Program.zeroC Tryz.prog 34=some [.sl 8 []]:=by kernel_rfl
@[go_sem] theorem zeroT_34:Program.zeroT Tryz.prog 34=some [.ex 8 []]:=by kernel_rfl
@[go_sem] theorem nilT_34:Program.nilT Tryz.prog 34=true:=by kernel_rfl
attribute [go_sem] Tryz.underlying34
@[go_sem] theorem ldk_36:Program.ldk Tryz.prog 36=some (some 9):=by kernel_rfl
@[go_sem] theorem cellsOfT_36:cellsOfT Tryz.prog 36=some 9:=by kernel_rfl
@[go_sem] theorem zeroC_36:Program.zeroC Tryz.prog 36=some [.sl 2 [],.lit (.string ⟨#[]⟩),.sl 2 [],.sl 1 [],.sl 6 [],.lit (.int .i64 0),.sl 3 [],.sl 1 [],.sl 8 []]:=by kernel_rfl
@[go_sem] theorem zeroT_36:Program.zeroT Tryz.prog 36=some [.ex 2 [],.c (.lit (.string ⟨#[]⟩)),.ex 2 [],.ex 1 [],.ex 6 [],.c (.lit (.int .i64 0)),.ex 3 [],.ex 1 [],.ex 8 []]:=by kernel_rfl
@[go_sem] theorem places_36:Program.places Tryz.prog 36=some [(0,1),(1,3),(4,1),(5,3),(8,1)]:=by kernel_rfl
@[go_sem] theorem fieldOff_36_0:Program.fieldOff Tryz.prog 36 0=some 0:=by kernel_rfl
@[go_sem] theorem fieldOff_36_1:Program.fieldOff Tryz.prog 36 1=some 1:=by kernel_rfl
@[go_sem] theorem fieldOff_36_2:Program.fieldOff Tryz.prog 36 2=some 4:=by kernel_rfl
@[go_sem] theorem fieldOff_36_3:Program.fieldOff Tryz.prog 36 3=some 5:=by kernel_rfl
@[go_sem] theorem fieldOff_36_4:Program.fieldOff Tryz.prog 36 4=some 8:=by kernel_rfl
@[go_sem] theorem ldk_45:Program.ldk Tryz.prog 45=some none:=by kernel_rfl
@[go_sem] theorem cellsOfT_45:cellsOfT Tryz.prog 45=some 1:=by kernel_rfl
@[go_sem] theorem elemSz_45:Program.elemSz Tryz.prog 45=some 1:=by kernel_rfl
@[go_sem] theorem appInfo_45:appInfo Tryz.prog 45=some (1,16):=by kernel_rfl
@[go_sem] theorem zeroC_45:Program.zeroC Tryz.prog 45=some [.sl 1 []]:=by kernel_rfl
@[go_sem] theorem zeroT_45:Program.zeroT Tryz.prog 45=some [.ex 1 []]:=by kernel_rfl
@[go_sem] theorem nilT_45:Program.nilT Tryz.prog 45=true:=by kernel_rfl
attribute [go_sem] Tryz.underlying45
@[go_sem] theorem ldk_49:Program.ldk Tryz.prog 49=some none:=by kernel_rfl
@[go_sem] theorem cellsOfT_49:cellsOfT Tryz.prog 49=some 1:=by kernel_rfl
@[go_sem] theorem elemSz_49:Program.elemSz Tryz.prog 49=some 1:=by kernel_rfl
@[go_sem] theorem appInfo_49:appInfo Tryz.prog 49=some (1,24):=by kernel_rfl
@[go_sem] theorem zeroC_49:Program.zeroC Tryz.prog 49=some [.sl 1 []]:=by kernel_rfl
@[go_sem] theorem zeroT_49:Program.zeroT Tryz.prog 49=some [.ex 1 []]:=by kernel_rfl
@[go_sem] theorem nilT_49:Program.nilT Tryz.prog 49=true:=by kernel_rfl
attribute [go_sem] Tryz.underlying49
@[go_sem] theorem ldk_50:Program.ldk Tryz.prog 50=some none:=by kernel_rfl
@[go_sem] theorem cellsOfT_50:cellsOfT Tryz.prog 50=some 1:=by kernel_rfl
@[go_sem] theorem elemSz_50:Program.elemSz Tryz.prog 50=some 2:=by kernel_rfl
@[go_sem] theorem appInfo_50:appInfo Tryz.prog 50=some (2,32):=by kernel_rfl
@[go_sem] theorem zeroC_50:Program.zeroC Tryz.prog 50=some [.sl 2 []]:=by kernel_rfl
@[go_sem] theorem zeroT_50:Program.zeroT Tryz.prog 50=some [.ex 2 []]:=by kernel_rfl
@[go_sem] theorem nilT_50:Program.nilT Tryz.prog 50=true:=by kernel_rfl
attribute [go_sem] Tryz.underlying50
@[go_sem] theorem ldk_51:Program.ldk Tryz.prog 51=some none:=by kernel_rfl
@[go_sem] theorem cellsOfT_51:cellsOfT Tryz.prog 51=some 1:=by kernel_rfl
@[go_sem] theorem elemSz_51:Program.elemSz Tryz.prog 51=some 2:=by kernel_rfl
@[go_sem] theorem appInfo_51:appInfo Tryz.prog 51=some (2,16):=by kernel_rfl
@[go_sem] theorem zeroC_51:Program.zeroC Tryz.prog 51=some [.sl 2 []]:=by kernel_rfl
@[go_sem] theorem zeroT_51:Program.zeroT Tryz.prog 51=some [.ex 2 []]:=by kernel_rfl
@[go_sem] theorem nilT_51:Program.nilT Tryz.prog 51=true:=by kernel_rfl
attribute [go_sem] Tryz.underlying51
@[go_sem] theorem ldk_52:Program.ldk Tryz.prog 52=some none:=by kernel_rfl
@[go_sem] theorem cellsOfT_52:cellsOfT Tryz.prog 52=some 1:=by kernel_rfl
@[go_sem] theorem elemSz_52:Program.elemSz Tryz.prog 52=some 2:=by kernel_rfl
@[go_sem] theorem appInfo_52:appInfo Tryz.prog 52=some (2,16):=by kernel_rfl
@[go_sem] theorem zeroC_52:Program.zeroC Tryz.prog 52=some [.sl 2 []]:=by kernel_rfl
@[go_sem] theorem zeroT_52:Program.zeroT Tryz.prog 52=some [.ex 2 []]:=by kernel_rfl
@[go_sem] theorem nilT_52:Program.nilT Tryz.prog 52=true:=by kernel_rfl
attribute [go_sem] Tryz.underlying52
@[go_sem] theorem ldk_54:Program.ldk Tryz.prog 54=some (some 8):=by kernel_rfl
@[go_sem] theorem cellsOfT_54:cellsOfT Tryz.prog 54=some 8:=by kernel_rfl
@[go_sem] theorem zeroC_54:Program.zeroC Tryz.prog 54=some [.lit (.int .i64 0),.sl 1 [],.lit (.int .i64 0),.sl 1 [],.lit (.int .i64 0),.sl 2 [],.sl 2 [],.sl 2 []]:=by kernel_rfl
@[go_sem] theorem zeroT_54:Program.zeroT Tryz.prog 54=some [.c (.lit (.int .i64 0)),.ex 1 [],.c (.lit (.int .i64 0)),.ex 1 [],.c (.lit (.int .i64 0)),.ex 2 [],.ex 2 [],.ex 2 []]:=by kernel_rfl
@[go_sem] theorem places_54:Program.places Tryz.prog 54=some [(0,1),(1,1),(2,1),(3,1),(4,1),(5,1),(6,1),(7,1)]:=by kernel_rfl
@[go_sem] theorem fieldOff_54_0:Program.fieldOff Tryz.prog 54 0=some 0:=by kernel_rfl
@[go_sem] theorem fieldOff_54_1:Program.fieldOff Tryz.prog 54 1=some 1:=by kernel_rfl
@[go_sem] theorem fieldOff_54_2:Program.fieldOff Tryz.prog 54 2=some 2:=by kernel_rfl
@[go_sem] theorem fieldOff_54_3:Program.fieldOff Tryz.prog 54 3=some 3:=by kernel_rfl
@[go_sem] theorem fieldOff_54_4:Program.fieldOff Tryz.prog 54 4=some 4:=by kernel_rfl
@[go_sem] theorem fieldOff_54_5:Program.fieldOff Tryz.prog 54 5=some 5:=by kernel_rfl
@[go_sem] theorem fieldOff_54_6:Program.fieldOff Tryz.prog 54 6=some 6:=by kernel_rfl
@[go_sem] theorem fieldOff_54_7:Program.fieldOff Tryz.prog 54 7=some 7:=by kernel_rfl
@[go_sem] theorem ldk_62:Program.ldk Tryz.prog 62=some (some 2):=by kernel_rfl
@[go_sem] theorem cellsOfT_62:cellsOfT Tryz.prog 62=some 2:=by kernel_rfl
@[go_sem] theorem zeroC_62:Program.zeroC Tryz.prog 62=some [.lit (.string ⟨#[]⟩),.lit (.string ⟨#[]⟩)]:=by kernel_rfl
@[go_sem] theorem zeroT_62:Program.zeroT Tryz.prog 62=some [.c (.lit (.string ⟨#[]⟩)),.c (.lit (.string ⟨#[]⟩))]:=by kernel_rfl
@[go_sem] theorem places_62:Program.places Tryz.prog 62=some [(0,1),(1,1)]:=by kernel_rfl
@[go_sem] theorem fieldOff_62_0:Program.fieldOff Tryz.prog 62 0=some 0:=by kernel_rfl
@[go_sem] theorem fieldOff_62_1:Program.fieldOff Tryz.prog 62 1=some 1:=by kernel_rfl
@[go_sem] theorem ldk_65:Program.ldk Tryz.prog 65=some none:=by kernel_rfl
@[go_sem] theorem cellsOfT_65:cellsOfT Tryz.prog 65=some 1:=by kernel_rfl
@[go_sem] theorem elemSz_65:Program.elemSz Tryz.prog 65=some 2:=by kernel_rfl
@[go_sem] theorem appInfo_65:appInfo Tryz.prog 65=some (2,16):=by kernel_rfl
@[go_sem] theorem zeroC_65:Program.zeroC Tryz.prog 65=some [.sl 2 []]:=by kernel_rfl
@[go_sem] theorem zeroT_65:Program.zeroT Tryz.prog 65=some [.ex 2 []]:=by kernel_rfl
@[go_sem] theorem nilT_65:Program.nilT Tryz.prog 65=true:=by kernel_rfl
attribute [go_sem] Tryz.underlying65
@[go_sem] theorem ldk_67:Program.ldk Tryz.prog 67=some (some 6):=by kernel_rfl
@[go_sem] theorem cellsOfT_67:cellsOfT Tryz.prog 67=some 6:=by kernel_rfl
@[go_sem] theorem zeroC_67:Program.zeroC Tryz.prog 67=some [.sl 1 [],.sl 1 [],.sl 2 [],.sl 2 [],.lit (.bool false),.lit (.bool false)]:=by kernel_rfl
@[go_sem] theorem zeroT_67:Program.zeroT Tryz.prog 67=some [.ex 1 [],.ex 1 [],.ex 2 [],.ex 2 [],.c (.lit (.bool false)),.c (.lit (.bool false))]:=by kernel_rfl
@[go_sem] theorem places_67:Program.places Tryz.prog 67=some [(0,1),(1,1),(2,1),(3,1),(4,1),(5,1)]:=by kernel_rfl
@[go_sem] theorem fieldOff_67_0:Program.fieldOff Tryz.prog 67 0=some 0:=by kernel_rfl
@[go_sem] theorem fieldOff_67_1:Program.fieldOff Tryz.prog 67 1=some 1:=by kernel_rfl
@[go_sem] theorem fieldOff_67_2:Program.fieldOff Tryz.prog 67 2=some 2:=by kernel_rfl
@[go_sem] theorem fieldOff_67_3:Program.fieldOff Tryz.prog 67 3=some 3:=by kernel_rfl
@[go_sem] theorem fieldOff_67_4:Program.fieldOff Tryz.prog 67 4=some 4:=by kernel_rfl
@[go_sem] theorem fieldOff_67_5:Program.fieldOff Tryz.prog 67 5=some 5:=by kernel_rfl
@[go_sem] theorem ldk_68:Program.ldk Tryz.prog 68=some none:=by kernel_rfl
@[go_sem] theorem cellsOfT_68:cellsOfT Tryz.prog 68=some 1:=by kernel_rfl
@[go_sem] theorem zeroC_68:Program.zeroC Tryz.prog 68=some [.lit (.int .i64 0)]:=by kernel_rfl
@[go_sem] theorem zeroT_68:Program.zeroT Tryz.prog 68=some [.c (.lit (.int .i64 0))]:=by kernel_rfl
attribute [go_sem] Tryz.underlying68
@[go_sem] theorem ldk_83:Program.ldk Tryz.prog 83=some (some 2):=by kernel_rfl
@[go_sem] theorem cellsOfT_83:cellsOfT Tryz.prog 83=some 2:=by kernel_rfl
@[go_sem] theorem zeroC_83:Program.zeroC Tryz.prog 83=some [.lit (.int .i64 0),.lit (.int .i64 0)]:=by kernel_rfl
@[go_sem] theorem zeroT_83:Program.zeroT Tryz.prog 83=some [.c (.lit (.int .i64 0)),.c (.lit (.int .i64 0))]:=by kernel_rfl
@[go_sem] theorem places_83:Program.places Tryz.prog 83=some [(0,1),(1,1)]:=by kernel_rfl
@[go_sem] theorem fieldOff_83_0:Program.fieldOff Tryz.prog 83 0=some 0:=by kernel_rfl
@[go_sem] theorem fieldOff_83_1:Program.fieldOff Tryz.prog 83 1=some 1:=by kernel_rfl
@[go_sem] theorem ldk_84:Program.ldk Tryz.prog 84=some none:=by kernel_rfl
@[go_sem] theorem cellsOfT_84:cellsOfT Tryz.prog 84=some 1:=by kernel_rfl
@[go_sem] theorem elemSz_84:Program.elemSz Tryz.prog 84=some 2:=by kernel_rfl
@[go_sem] theorem appInfo_84:appInfo Tryz.prog 84=some (2,40):=by kernel_rfl
@[go_sem] theorem zeroC_84:Program.zeroC Tryz.prog 84=some [.sl 2 []]:=by kernel_rfl
@[go_sem] theorem zeroT_84:Program.zeroT Tryz.prog 84=some [.ex 2 []]:=by kernel_rfl
@[go_sem] theorem nilT_84:Program.nilT Tryz.prog 84=true:=by kernel_rfl
attribute [go_sem] Tryz.underlying84
@[go_sem] theorem ldk_86:Program.ldk Tryz.prog 86=some none:=by kernel_rfl
@[go_sem] theorem cellsOfT_86:cellsOfT Tryz.prog 86=some 1:=by kernel_rfl
@[go_sem] theorem elemSz_86:Program.elemSz Tryz.prog 86=some 3:=by kernel_rfl
@[go_sem] theorem appInfo_86:appInfo Tryz.prog 86=some (3,24):=by kernel_rfl
@[go_sem] theorem zeroC_86:Program.zeroC Tryz.prog 86=some [.sl 3 []]:=by kernel_rfl
@[go_sem] theorem zeroT_86:Program.zeroT Tryz.prog 86=some [.ex 3 []]:=by kernel_rfl
@[go_sem] theorem nilT_86:Program.nilT Tryz.prog 86=true:=by kernel_rfl
attribute [go_sem] Tryz.underlying86
@[go_sem] theorem ldk_88:Program.ldk Tryz.prog 88=some (some 2):=by kernel_rfl
@[go_sem] theorem cellsOfT_88:cellsOfT Tryz.prog 88=some 2:=by kernel_rfl
@[go_sem] theorem zeroC_88:Program.zeroC Tryz.prog 88=some [.lit (.string ⟨#[]⟩),.sl 3 []]:=by kernel_rfl
@[go_sem] theorem zeroT_88:Program.zeroT Tryz.prog 88=some [.c (.lit (.string ⟨#[]⟩)),.ex 3 []]:=by kernel_rfl
@[go_sem] theorem places_88:Program.places Tryz.prog 88=some [(0,1),(1,1)]:=by kernel_rfl
@[go_sem] theorem fieldOff_88_0:Program.fieldOff Tryz.prog 88 0=some 0:=by kernel_rfl
@[go_sem] theorem fieldOff_88_1:Program.fieldOff Tryz.prog 88 1=some 1:=by kernel_rfl
@[go_sem] theorem ldk_90:Program.ldk Tryz.prog 90=some (some 3):=by kernel_rfl
@[go_sem] theorem cellsOfT_90:cellsOfT Tryz.prog 90=some 3:=by kernel_rfl
@[go_sem] theorem zeroC_90:Program.zeroC Tryz.prog 90=some [.lit (.int .i64 0),.lit (.int .i64 0),.lit (.int .i64 0)]:=by kernel_rfl
@[go_sem] theorem zeroT_90:Program.zeroT Tryz.prog 90=some [.c (.lit (.int .i64 0)),.c (.lit (.int .i64 0)),.c (.lit (.int .i64 0))]:=by kernel_rfl
@[go_sem] theorem places_90:Program.places Tryz.prog 90=some [(0,1),(1,1),(2,1)]:=by kernel_rfl
@[go_sem] theorem fieldOff_90_0:Program.fieldOff Tryz.prog 90 0=some 0:=by kernel_rfl
@[go_sem] theorem fieldOff_90_1:Program.fieldOff Tryz.prog 90 1=some 1:=by kernel_rfl
@[go_sem] theorem fieldOff_90_2:Program.fieldOff Tryz.prog 90 2=some 2:=by kernel_rfl
@[go_sem] theorem ldk_101:Program.ldk Tryz.prog 101=some (some 2):=by kernel_rfl
@[go_sem] theorem cellsOfT_101:cellsOfT Tryz.prog 101=some 2:=by kernel_rfl
@[go_sem] theorem zeroC_101:Program.zeroC Tryz.prog 101=some [.lit (.string ⟨#[]⟩),.lit (.int .i64 0)]:=by kernel_rfl
@[go_sem] theorem zeroT_101:Program.zeroT Tryz.prog 101=some [.c (.lit (.string ⟨#[]⟩)),.c (.lit (.int .i64 0))]:=by kernel_rfl
@[go_sem] theorem places_101:Program.places Tryz.prog 101=some [(0,1),(1,1)]:=by kernel_rfl
@[go_sem] theorem fieldOff_101_0:Program.fieldOff Tryz.prog 101 0=some 0:=by kernel_rfl
@[go_sem] theorem fieldOff_101_1:Program.fieldOff Tryz.prog 101 1=some 1:=by kernel_rfl
@[go_sem] theorem ldk_103:Program.ldk Tryz.prog 103=some (some 2):=by kernel_rfl
@[go_sem] theorem cellsOfT_103:cellsOfT Tryz.prog 103=some 2:=by kernel_rfl
@[go_sem] theorem zeroC_103:Program.zeroC Tryz.prog 103=some [.lit (.string ⟨#[]⟩),.sl 1 []]:=by kernel_rfl
@[go_sem] theorem zeroT_103:Program.zeroT Tryz.prog 103=some [.c (.lit (.string ⟨#[]⟩)),.ex 1 []]:=by kernel_rfl
@[go_sem] theorem places_103:Program.places Tryz.prog 103=some [(0,1),(1,1)]:=by kernel_rfl
@[go_sem] theorem fieldOff_103_0:Program.fieldOff Tryz.prog 103 0=some 0:=by kernel_rfl
@[go_sem] theorem fieldOff_103_1:Program.fieldOff Tryz.prog 103 1=some 1:=by kernel_rfl
@[go_sem] theorem ldk_105:Program.ldk Tryz.prog 105=some (some 3):=by kernel_rfl
@[go_sem] theorem cellsOfT_105:cellsOfT Tryz.prog 105=some 3:=by kernel_rfl
@[go_sem] theorem zeroC_105:Program.zeroC Tryz.prog 105=some [.lit (.int .i64 0),.lit (.int .i64 0),.lit (.int .i64 0)]:=by kernel_rfl
@[go_sem] theorem zeroT_105:Program.zeroT Tryz.prog 105=some [.c (.lit (.int .i64 0)),.c (.lit (.int .i64 0)),.c (.lit (.int .i64 0))]:=by kernel_rfl
@[go_sem] theorem places_105:Program.places Tryz.prog 105=some [(0,1),(1,1),(2,1)]:=by kernel_rfl
@[go_sem] theorem fieldOff_105_0:Program.fieldOff Tryz.prog 105 0=some 0:=by kernel_rfl
@[go_sem] theorem fieldOff_105_1:Program.fieldOff Tryz.prog 105 1=some 1:=by kernel_rfl
@[go_sem] theorem fieldOff_105_2:Program.fieldOff Tryz.prog 105 2=some 2:=by kernel_rfl
@[go_sem] theorem ldk_107:Program.ldk Tryz.prog 107=some none:=by kernel_rfl
@[go_sem] theorem cellsOfT_107:cellsOfT Tryz.prog 107=some 1:=by kernel_rfl
@[go_sem] theorem elemSz_107:Program.elemSz Tryz.prog 107=some 1:=by kernel_rfl
@[go_sem] theorem appInfo_107:appInfo Tryz.prog 107=some (1,1):=by kernel_rfl
@[go_sem] theorem zeroC_107:Program.zeroC Tryz.prog 107=some [.sl 1 []]:=by kernel_rfl
@[go_sem] theorem zeroT_107:Program.zeroT Tryz.prog 107=some [.ex 1 []]:=by kernel_rfl
@[go_sem] theorem nilT_107:Program.nilT Tryz.prog 107=true:=by kernel_rfl
attribute [go_sem] Tryz.underlying107
@[go_sem] theorem ldk_109:Program.ldk Tryz.prog 109=some (some 2):=by kernel_rfl
@[go_sem] theorem cellsOfT_109:cellsOfT Tryz.prog 109=some 2:=by kernel_rfl
@[go_sem] theorem zeroC_109:Program.zeroC Tryz.prog 109=some [.lit (.pointer none),.sl 1 []]:=by kernel_rfl
@[go_sem] theorem zeroT_109:Program.zeroT Tryz.prog 109=some [.c (.lit (.pointer none)),.ex 1 []]:=by kernel_rfl
@[go_sem] theorem places_109:Program.places Tryz.prog 109=some [(0,1),(1,1)]:=by kernel_rfl
@[go_sem] theorem fieldOff_109_0:Program.fieldOff Tryz.prog 109 0=some 0:=by kernel_rfl
@[go_sem] theorem fieldOff_109_1:Program.fieldOff Tryz.prog 109 1=some 1:=by kernel_rfl
@[go_sem] theorem ldk_119:Program.ldk Tryz.prog 119=some none:=by kernel_rfl
@[go_sem] theorem cellsOfT_119:cellsOfT Tryz.prog 119=some 1:=by kernel_rfl
@[go_sem] theorem zeroC_119:Program.zeroC Tryz.prog 119=some [.lit .nilFunc]:=by kernel_rfl
@[go_sem] theorem zeroT_119:Program.zeroT Tryz.prog 119=some [.c (.lit .nilFunc)]:=by kernel_rfl
attribute [go_sem] Tryz.underlying119
@[go_sem] theorem ldk_126:Program.ldk Tryz.prog 126=some none:=by kernel_rfl
@[go_sem] theorem cellsOfT_126:cellsOfT Tryz.prog 126=some 1:=by kernel_rfl
@[go_sem] theorem zeroC_126:Program.zeroC Tryz.prog 126=some [.lit (.pointer none)]:=by kernel_rfl
@[go_sem] theorem zeroT_126:Program.zeroT Tryz.prog 126=some [.c (.lit (.pointer none))]:=by kernel_rfl
attribute [go_sem] Tryz.underlying126
@[go_sem] theorem ldk_129:Program.ldk Tryz.prog 129=some none:=by kernel_rfl
@[go_sem] theorem cellsOfT_129:cellsOfT Tryz.prog 129=some 1:=by kernel_rfl
@[go_sem] theorem zeroC_129:Program.zeroC Tryz.prog 129=some [.lit .nilFunc]:=by kernel_rfl
@[go_sem] theorem zeroT_129:Program.zeroT Tryz.prog 129=some [.c (.lit .nilFunc)]:=by kernel_rfl
attribute [go_sem] Tryz.underlying129
@[go_sem] theorem ldk_131:Program.ldk Tryz.prog 131=some (some 2):=by kernel_rfl
@[go_sem] theorem cellsOfT_131:cellsOfT Tryz.prog 131=some 2:=by kernel_rfl
@[go_sem] theorem zeroC_131:Program.zeroC Tryz.prog 131=some [.sl 2 [],.lit .nilFunc]:=by kernel_rfl
@[go_sem] theorem zeroT_131:Program.zeroT Tryz.prog 131=some [.ex 2 [],.c (.lit .nilFunc)]:=by kernel_rfl
@[go_sem] theorem places_131:Program.places Tryz.prog 131=some [(0,1),(1,1)]:=by kernel_rfl
@[go_sem] theorem fieldOff_131_0:Program.fieldOff Tryz.prog 131 0=some 0:=by kernel_rfl
@[go_sem] theorem fieldOff_131_1:Program.fieldOff Tryz.prog 131 1=some 1:=by kernel_rfl
@[go_sem] theorem ldk_133:Program.ldk Tryz.prog 133=some (some 2):=by kernel_rfl
@[go_sem] theorem cellsOfT_133:cellsOfT Tryz.prog 133=some 2:=by kernel_rfl
@[go_sem] theorem zeroC_133:Program.zeroC Tryz.prog 133=some [.sl 2 [],.lit .nilFunc]:=by kernel_rfl
@[go_sem] theorem zeroT_133:Program.zeroT Tryz.prog 133=some [.ex 2 [],.c (.lit .nilFunc)]:=by kernel_rfl
@[go_sem] theorem places_133:Program.places Tryz.prog 133=some [(0,2)]:=by kernel_rfl
@[go_sem] theorem fieldOff_133_0:Program.fieldOff Tryz.prog 133 0=some 0:=by kernel_rfl
@[go_sem] theorem ldk_153:Program.ldk Tryz.prog 153=some none:=by kernel_rfl
@[go_sem] theorem cellsOfT_153:cellsOfT Tryz.prog 153=some 1:=by kernel_rfl
@[go_sem] theorem zeroC_153:Program.zeroC Tryz.prog 153=some [.lit .nilFunc]:=by kernel_rfl
@[go_sem] theorem zeroT_153:Program.zeroT Tryz.prog 153=some [.c (.lit .nilFunc)]:=by kernel_rfl
attribute [go_sem] Tryz.underlying153
@[go_sem] theorem ldk_157:Program.ldk Tryz.prog 157=some none:=by kernel_rfl
@[go_sem] theorem cellsOfT_157:cellsOfT Tryz.prog 157=some 1:=by kernel_rfl
@[go_sem] theorem zeroC_157:Program.zeroC Tryz.prog 157=some [.lit .nilFunc]:=by kernel_rfl
@[go_sem] theorem zeroT_157:Program.zeroT Tryz.prog 157=some [.c (.lit .nilFunc)]:=by kernel_rfl
attribute [go_sem] Tryz.underlying157
@[go_sem] theorem ldk_159:Program.ldk Tryz.prog 159=some (some 2):=by kernel_rfl
@[go_sem] theorem cellsOfT_159:cellsOfT Tryz.prog 159=some 2:=by kernel_rfl
@[go_sem] theorem zeroC_159:Program.zeroC Tryz.prog 159=some [.sl 3 [],.lit .nilFunc]:=by kernel_rfl
@[go_sem] theorem zeroT_159:Program.zeroT Tryz.prog 159=some [.ex 3 [],.c (.lit .nilFunc)]:=by kernel_rfl
@[go_sem] theorem places_159:Program.places Tryz.prog 159=some [(0,1),(1,1)]:=by kernel_rfl
@[go_sem] theorem fieldOff_159_0:Program.fieldOff Tryz.prog 159 0=some 0:=by kernel_rfl
@[go_sem] theorem fieldOff_159_1:Program.fieldOff Tryz.prog 159 1=some 1:=by kernel_rfl
@[go_sem] theorem ldk_168:Program.ldk Tryz.prog 168=some none:=by kernel_rfl
@[go_sem] theorem cellsOfT_168:cellsOfT Tryz.prog 168=some 1:=by kernel_rfl
@[go_sem] theorem elemSz_168:Program.elemSz Tryz.prog 168=some 1:=by kernel_rfl
@[go_sem] theorem appInfo_168:appInfo Tryz.prog 168=some (1,1):=by kernel_rfl
@[go_sem] theorem zeroC_168:Program.zeroC Tryz.prog 168=some [.sl 1 []]:=by kernel_rfl
@[go_sem] theorem zeroT_168:Program.zeroT Tryz.prog 168=some [.ex 1 []]:=by kernel_rfl
@[go_sem] theorem nilT_168:Program.nilT Tryz.prog 168=true:=by kernel_rfl
attribute [go_sem] Tryz.underlying168
@[go_sem] theorem ldk_172:Program.ldk Tryz.prog 172=some none:=by kernel_rfl
@[go_sem] theorem cellsOfT_172:cellsOfT Tryz.prog 172=some 1:=by kernel_rfl
@[go_sem] theorem zeroC_172:Program.zeroC Tryz.prog 172=some [.lit .nilFunc]:=by kernel_rfl
@[go_sem] theorem zeroT_172:Program.zeroT Tryz.prog 172=some [.c (.lit .nilFunc)]:=by kernel_rfl
attribute [go_sem] Tryz.underlying172
@[go_sem] theorem ldk_179:Program.ldk Tryz.prog 179=some none:=by kernel_rfl
@[go_sem] theorem cellsOfT_179:cellsOfT Tryz.prog 179=some 1:=by kernel_rfl
@[go_sem] theorem zeroC_179:Program.zeroC Tryz.prog 179=some [.lit (.pointer none)]:=by kernel_rfl
@[go_sem] theorem zeroT_179:Program.zeroT Tryz.prog 179=some [.c (.lit (.pointer none))]:=by kernel_rfl
attribute [go_sem] Tryz.underlying179
@[go_sem] theorem ldk_183:Program.ldk Tryz.prog 183=some none:=by kernel_rfl
@[go_sem] theorem cellsOfT_183:cellsOfT Tryz.prog 183=some 1:=by kernel_rfl
@[go_sem] theorem zeroC_183:Program.zeroC Tryz.prog 183=some [.lit (.pointer none)]:=by kernel_rfl
@[go_sem] theorem zeroT_183:Program.zeroT Tryz.prog 183=some [.c (.lit (.pointer none))]:=by kernel_rfl
attribute [go_sem] Tryz.underlying183
@[go_sem] theorem ldk_195:Program.ldk Tryz.prog 195=some (some 2):=by kernel_rfl
@[go_sem] theorem cellsOfT_195:cellsOfT Tryz.prog 195=some 2:=by kernel_rfl
@[go_sem] theorem zeroC_195:Program.zeroC Tryz.prog 195=some [.lit (.int .i64 0),.lit (.int .i64 0)]:=by kernel_rfl
@[go_sem] theorem zeroT_195:Program.zeroT Tryz.prog 195=some [.c (.lit (.int .i64 0)),.c (.lit (.int .i64 0))]:=by kernel_rfl
@[go_sem] theorem places_195:Program.places Tryz.prog 195=some [(0,1),(1,1)]:=by kernel_rfl
@[go_sem] theorem fieldOff_195_0:Program.fieldOff Tryz.prog 195 0=some 0:=by kernel_rfl
@[go_sem] theorem fieldOff_195_1:Program.fieldOff Tryz.prog 195 1=some 1:=by kernel_rfl
@[go_sem] theorem ldk_206:Program.ldk Tryz.prog 206=some none:=by kernel_rfl
@[go_sem] theorem cellsOfT_206:cellsOfT Tryz.prog 206=some 1:=by kernel_rfl
@[go_sem] theorem zeroC_206:Program.zeroC Tryz.prog 206=some [.lit (.int .u64 0)]:=by kernel_rfl
@[go_sem] theorem zeroT_206:Program.zeroT Tryz.prog 206=some [.c (.lit (.int .u64 0))]:=by kernel_rfl
attribute [go_sem] Tryz.underlying206
@[go_sem] theorem eqGuard_62:Tryz.prog.eqGuardType Tryz.prog.depth 62=false:=by kernel_rfl
@[go_sem] theorem eqT_62(a0 b0:ByteArray)(a1 b1:ByteArray):eqT Tryz.prog 8 62 (.agg [.c (.lit (.string a0)),.c (.lit (.string a1))]) (.agg [.c (.lit (.string b0)),.c (.lit (.string b1))])=some ((a0==b0)&&((a1==b1)&&true)):=by kernel_rfl
@[go_sem] theorem eqGuard_83:Tryz.prog.eqGuardType Tryz.prog.depth 83=false:=by kernel_rfl
@[go_sem] theorem eqT_83(a0 b0:Int)(a1 b1:Int):eqT Tryz.prog 8 83 (.agg [.c (.lit (.int .i64 a0)),.c (.lit (.int .i64 a1))]) (.agg [.c (.lit (.int .i64 b0)),.c (.lit (.int .i64 b1))])=some ((a0==b0)&&((a1==b1)&&true)):=by kernel_rfl
@[go_sem] theorem eqGuard_90:Tryz.prog.eqGuardType Tryz.prog.depth 90=false:=by kernel_rfl
@[go_sem] theorem eqT_90(a0 b0:Int)(a1 b1:Int)(a2 b2:Int):eqT Tryz.prog 8 90 (.agg [.c (.lit (.int .i64 a0)),.c (.lit (.int .i64 a1)),.c (.lit (.int .i64 a2))]) (.agg [.c (.lit (.int .i64 b0)),.c (.lit (.int .i64 b1)),.c (.lit (.int .i64 b2))])=some ((a0==b0)&&((a1==b1)&&((a2==b2)&&true))):=by kernel_rfl
@[go_sem] theorem eqGuard_101:Tryz.prog.eqGuardType Tryz.prog.depth 101=false:=by kernel_rfl
@[go_sem] theorem eqT_101(a0 b0:ByteArray)(a1 b1:Int):eqT Tryz.prog 8 101 (.agg [.c (.lit (.string a0)),.c (.lit (.int .i64 a1))]) (.agg [.c (.lit (.string b0)),.c (.lit (.int .i64 b1))])=some ((a0==b0)&&((a1==b1)&&true)):=by kernel_rfl
@[go_sem] theorem eqGuard_105:Tryz.prog.eqGuardType Tryz.prog.depth 105=false:=by kernel_rfl
@[go_sem] theorem eqT_105(a0 b0:Int)(a1 b1:Int)(a2 b2:Int):eqT Tryz.prog 8 105 (.agg [.c (.lit (.int .i64 a0)),.c (.lit (.int .i64 a1)),.c (.lit (.int .i64 a2))]) (.agg [.c (.lit (.int .i64 b0)),.c (.lit (.int .i64 b1)),.c (.lit (.int .i64 b2))])=some ((a0==b0)&&((a1==b1)&&((a2==b2)&&true))):=by kernel_rfl
@[go_sem] theorem eqGuard_195:Tryz.prog.eqGuardType Tryz.prog.depth 195=false:=by kernel_rfl
@[go_sem] theorem eqT_195(a0 b0:Int)(a1 b1:Int):eqT Tryz.prog 8 195 (.agg [.c (.lit (.int .i64 a0)),.c (.lit (.int .i64 a1))]) (.agg [.c (.lit (.int .i64 b0)),.c (.lit (.int .i64 b1))])=some ((a0==b0)&&((a1==b1)&&true)):=by kernel_rfl
end Go.Proofs.YtehdkccjaeckhaaGreatDoor
namespace Go.Dl
open Go.RowKit
section
variable {P : Program}
theorem kc{id:Nat}{l:List Oper}{s:DS}{Q:Exit→DS→Prop}{N:Nat}(h:wk P (l.map (·.dst)) (tagS l) s (Q .normal))(hn:s.n=N:=by rfl)(hb:dstB l N=true:=by kernel_rfl):DW P (.region id l.toArray false) s Q:=dw_reg hn hb h
theorem kj{id:Nat}{l:List Oper}{s:DS}{Q:Exit→DS→Prop}{N:Nat}{l':List (Mode×Oper)}(pl:Nat→List (Nat×Mode))(h:wk P (l.map (·.dst)) l' s (Q .normal))(hm:P.follows .mixedOrders=true:=by kernel_rfl)(hn:s.n=N:=by rfl)
  (hc:checkW l N (pl id)=true:=by kernel_rfl) (hp:Picks l (pl id) l':=by repeat(first|exact Picks.nil|(apply Picks.cons;rfl))):DW P (.region id l.toArray true) s Q:=dw_drw (pl id) hm hn hc hp h
variable {o : Oper} {args : List D} {s : DS} {dst : Option Nat} {ds : List (Option Nat)} {l : List (Mode × Oper)} {K : DS → Prop} {g : FuncId} {es : List D} {r : D} {caps : List C}
theorem kw(hc:DCalls P g es r)(hk:wk P ds l (callPut s dst r) K)(hle:LeL (args.map D.cl++caps.map fun c=>D.one (.c c)) es:=by exact LeL.of_eq rfl):CallC .step P o (.one (.c (.fn g caps))) args s dst ds l K:=CallC.mk hc hle hk
theorem kv(hc:DCalls P g es r)(hk:wk P ds l (s.put dst r.cl) K)(hle:LeL (args.map D.cl++caps.map fun c=>D.one (.c c)) es:=by exact LeL.of_eq rfl):CallC .light P o (.one (.c (.fn g caps))) args s dst ds l K:=CallC.light hc hle hk
def putK(md:Mode)(s:DS)(dst:Option Nat)(r:D):DS:=match md with
 | .step=>callPut s dst r
 | _=>s.put dst r.cl
theorem putK_step(s:DS)(dst:Option Nat)(r:D):putK .step s dst r=callPut s dst r:=rfl
theorem putK_light(s:DS)(dst:Option Nat)(r:D):putK .light s dst r=s.put dst r.cl:=rfl
def Mode.calls:Mode→Bool
 | .step| .light=>true
 | _=>false
theorem kx{md:Mode}(hc:DCalls P g es r)(hk:wk P ds l (putK md s dst r) K)(hle:LeL (args.map D.cl++caps.map fun c=>D.one (.c c)) es:=by exact LeL.of_eq rfl)(hm:md.calls=true:=by rfl):CallC md P o (.one (.c (.fn g caps))) args s dst ds l K:=by
 cases md with
 | step=>exact CallC.mk hc hle hk
 | light=>exact CallC.light hc hle hk
 | _=>cases hm
attribute [go_sem] putK_step putK_light
theorem kd{f:FuncId}{fn:Func}{c:Code}{ds':List D}{N:Nat}{rs:List ResultVar}(hf:P.funcs[f]? =some fn)(h:DW P c (initE N ds' noMem) (fun e s'=>(e= .normal∨e= .ret)∧resD P s' rs=some r))(hp:Program.plainF P f=true:=by kernel_rfl)
  (hb:fn.body=some c:=by rfl) (hN:fn.ntmps=N:=by rfl) (hrs:fn.results.toList=rs:=by rfl) (hn:(decide (ds'.length≤N)&&decide (N≤100000))=true:=by simp):DCalls P f ds' r:=dcalls hp hf hb hN hrs hn h
theorem kz{p:Prop}{G:Prop}(h:p)(hn: ¬p:=by decide):G:=absurd h hn
end
end Go.Dl
namespace Go.Proofs.YtehdkccjaeckhaaGreatDoor
open Go.Dl
attribute [local irreducible] DW DCalls ECalls wk IW
abbrev li(n:Int):C:=.lit (.int .i64 n)
abbrev lb(b:Bool):C:=.lit (.bool b)
abbrev dv(c:C):D:=.one (.c c)
abbrev ints(xs:List Int):List (List C):=xs.map fun x=> [li x]
abbrev ls(s:ByteArray):C:=.lit (.string s)
structure Lnk where
 kind:Int
 tgt:Int
deriving DecidableEq
structure Sns where
 gloss:ByteArray
 txt:ByteArray
deriving DecidableEq
structure Phon where
 name:ByteArray
 feat:Int
deriving DecidableEq
structure Ent where
 id:Int
 form:List Int
 cls:Int
 alts:List (List Int)
 main:Int
 senses:List Sns
 links:List Lnk
 refs:List Lnk
deriving DecidableEq
def Lnk.enc(x:Lnk):List C:= [li x.kind,li x.tgt]
def Sns.enc(x:Sns):List C:= [ls x.gloss,ls x.txt]
def Phon.enc(x:Phon):List C:= [ls x.name,li x.feat]
abbrev altC(a:List Int):List C:= [.sl 1 (ints a)]
def Ent.enc(e:Ent):List C:= [li e.id,.sl 1 (ints e.form),li e.cls,.sl 1 (e.alts.map altC),li e.main,.sl 2 (e.senses.map Sns.enc),.sl 2 (e.links.map Lnk.enc),.sl 2 (e.refs.map Lnk.enc)]
def Ent.row(e:Ent):List T:= [.c (li e.id),.c (.sl 1 (ints e.form)),.c (li e.cls),.c (.sl 1 (e.alts.map altC)),.c (li e.main),.c (.sl 2 (e.senses.map Sns.enc)),.c (.sl 2 (e.links.map Lnk.enc)),.c (.sl 2 (e.refs.map Lnk.enc))]
def Lnk.row(x:Lnk):List T:= [.c (li x.kind),.c (li x.tgt)]
def Sns.row(x:Sns):List T:= [.c (ls x.gloss),.c (ls x.txt)]
def invRow(g:List Phon):List T:= [.c (.sl 2 (g.map Phon.enc))]
def noEnt:Ent:=⟨0,[],0,[],0,[],[],[]⟩
theorem ints_at{xs:List Int}{k:Nat}{x:Int}(h:xs[k]? =some x):(ints xs)[k]? =some [li x]:=by simp[h]
theorem bytes_eq(a b:ByteArray):(a==b)=true↔a=b:=by
 constructor
 ·intro h;cases a;cases b;rw[ByteArray.mk.injEq];exact eq_of_beq h
 ·intro h;subst h;cases a;exact beq_self_eq_true (α:=Array UInt8) _
theorem bytes_ne{a b:ByteArray}(h:a≠b):(a==b)=false:=by
 cases h2:(a==b)
 ·rfl
 ·exact absurd ((bytes_eq a b).1 h2) h
def ident(n:Int):Bool:=decide (1≤n)&&decide (n≤1099511627776)
theorem rIdent_D(n:Int):DCalls Tryz.prog 152 [dv (li n)] (dv (lb (ident n))):=by
 refine kd (N:=9) (rs:= [.tmp 2]) Tryz.func152 ?_
 (repeat'(first|apply kA|apply kB|((first|refine kc (N:=9) ?_|apply kD|apply kE|apply kF);simp +decide only[go_sem])|(apply kG;(simp +decide only[go_sem];rfl);all_goals(intro hcnd;try exact kz hcnd))|((first|apply kH|apply kI)<;>(intro hcnd;simp +decide only[go_sem,hcnd]))))
 all_goals(simp_all [ident]<;>omega)
def okRef(r:Lnk):Bool:=ident r.kind&&ident r.tgt
theorem rRef_D(r:Lnk):DCalls Tryz.prog 155 [.agg r.row] (dv (lb (okRef r))):=by
 refine kd (N:=11) (rs:= [.tmp 2]) Tryz.func155 ?_
 cases h:ident r.kind
 ·(repeat'(first|apply kA|apply kB|((first|refine kc (N:=11) ?_|apply kD|apply kE|refine kx (rIdent_D r.kind) ?_|apply kF);simp +decide only[go_sem,h,Lnk.row])|(apply kG;(simp +decide only[go_sem,h,Lnk.row];rfl);all_goals(intro hcnd;try exact kz hcnd))|((first|apply kH|apply kI)<;>(intro hcnd;simp +decide only[go_sem,hcnd,h,Lnk.row]))))
  simp[okRef,h]
 ·(repeat'(first|apply kA|apply kB|((first|refine kc (N:=11) ?_|apply kD|apply kE|refine kx (rIdent_D r.kind) ?_|refine kx (rIdent_D r.tgt) ?_|apply kF);simp +decide only[go_sem,h,Lnk.row])|(apply kG;(simp +decide only[go_sem,h,Lnk.row];rfl);all_goals(intro hcnd;try exact kz hcnd))|((first|apply kH|apply kI)<;>(intro hcnd;simp +decide only[go_sem,hcnd,h,Lnk.row]))))
  simp[okRef,h]
def lessL(a b:Lnk):Bool:=decide (a.kind<b.kind)||(a.kind==b.kind&&decide (a.tgt<b.tgt))
theorem prec_D(a b:Lnk):DCalls Tryz.prog 156 [.agg a.row,.agg b.row] (dv (lb (lessL a b))):=by
 refine kd (N:=24) (rs:= [.tmp 4]) Tryz.func156 ?_
 (repeat'(first|apply kA|apply kB|((first|refine kc (N:=24) ?_|apply kD|apply kE|apply kF);simp +decide only[go_sem,Lnk.row])|(apply kG;(simp +decide only[go_sem,Lnk.row];rfl);all_goals(intro hcnd;try exact kz hcnd))|((first|apply kH|apply kI)<;>(intro hcnd;simp +decide only[go_sem,hcnd,Lnk.row]))))
 all_goals simp_all [lessL]
def segOk(g:List Phon)(n:Int):Bool:=decide (1≤n)&&decide (n≤(g.length:Int))
theorem seg_D(g:List Phon)(n:Int):DCalls Tryz.prog 73 [.agg (invRow g),dv (li n)] (dv (lb (segOk g n))):=by
 refine kd (N:=14) (rs:= [.tmp 4]) Tryz.func73 ?_
 (repeat'(first|apply kA|apply kB|((first|refine kc (N:=14) ?_|apply kD|apply kE|apply kF);simp +decide only[go_sem,invRow])|(apply kG;(simp +decide only[go_sem,invRow];rfl);all_goals(intro hcnd;try exact kz hcnd))|((first|apply kH|apply kI)<;>(intro hcnd;simp +decide only[go_sem,hcnd,invRow]))))
 all_goals(simp_all [segOk]<;>omega)
theorem rIs_D(g:List Phon)(n:Int):DCalls Tryz.prog 75 [.agg (invRow g),dv (li n)] (dv (lb (segOk g n))):=by
 refine kd (N:=14) (rs:= [.tmp 4]) Tryz.func75 ?_
 (repeat'(first|apply kA|apply kB|((first|refine kc (N:=14) ?_|apply kD|apply kE|apply kF);simp +decide only[go_sem,invRow])|(apply kG;(simp +decide only[go_sem,invRow];rfl);all_goals(intro hcnd;try exact kz hcnd))|((first|apply kH|apply kI)<;>(intro hcnd;simp +decide only[go_sem,hcnd,invRow]))))
 all_goals(simp_all [segOk]<;>omega)
def cmpI(a b:Int):Int:=if a<b then -1 else if b<a then 1 else 0
theorem isNaN_D(a:Int):DCalls Tryz.prog 136 [dv (li a)] (dv (lb false)):=by
 refine kd (N:=6) (rs:= [.tmp 2]) Tryz.func136 ?_
 have h:(a !=a)=false:=by simp
 (repeat'(first|apply kA|apply kB|((first|refine kc (N:=6) ?_|apply kD|apply kE|apply kF);simp +decide only[go_sem,h])|(apply kG;(simp +decide only[go_sem,h];rfl);all_goals(intro hcnd;try exact kz hcnd))))
theorem cmp_D(a b:Int):DCalls Tryz.prog 114 [dv (li a),dv (li b)] (dv (li (cmpI a b))):=by
 refine kd (N:=20) (rs:= [.tmp 4]) Tryz.func114 ?_
 (repeat'(first|apply kA|apply kB|((first|refine kc (N:=20) ?_|apply kD|apply kE|refine kx (isNaN_D a) ?_|refine kx (isNaN_D b) ?_|apply kF);simp +decide only[go_sem])|(apply kG;(simp +decide only[go_sem];rfl);all_goals(intro hcnd;try exact kz hcnd))))
 all_goals first|(simp_all [cmpI];done)|(simp only[cmpI];simp at *;split<;>first|rfl|omega|(split<;>first|rfl|omega))
def orI:List Int→Int
 | []=>0
 | x::l=>if x=0 then orI l else x
end Go.Proofs.YtehdkccjaeckhaaGreatDoor
namespace Go.Proofs.YtehdkccjaeckhaaGreatDoor
structure Unt where
 graph:ByteArray
 segs:List Int
 deriving DecidableEq
def noUnt:Unt:=⟨ByteArray.empty,[]⟩
def unitAt(us:List Unt)(b:Int):Unt:=(us[b.toNat]?).getD noUnt
def startsU(w:List Int)(u:Unt):Bool:=decide (u.segs <+: w)
def bestU(us:List Unt)(w:List Int):Nat→Int
 | 0=> -1
 | n+1=>match us[n]? with
  | some u=>if(startsU w u&&(decide (bestU us w n<0)||decide ((unitAt us (bestU us w n)).segs.length<u.segs.length)))=true then(n:Int)else bestU us w n
  | none=>bestU us w n
theorem bestU_rng(us:List Unt)(w:List Int): ∀n,n≤us.length→ -1≤bestU us w n∧bestU us w n<n
 | 0,_=>by simp[bestU]
 | n+1,hn=>by
  obtain⟨h1,h2⟩:=bestU_rng us w n (by omega)
  have e:us[n]? =some us[n]:=List.getElem?_eq_getElem (by omega)
  simp only[bestU,e]
  split<;>omega
theorem bestU_starts(us:List Unt)(w:List Int): ∀n,n≤us.length→0≤bestU us w n→∃u,us[(bestU us w n).toNat]? =some u∧u.segs <+: w
 | 0,_,h=>by simp[bestU]at h
 | n+1,hn,h=>by
  have e:us[n]? =some us[n]:=List.getElem?_eq_getElem (by omega)
  simp only[bestU,e]at h ⊢
  split at h
  ·rename_i hc
   rw[if_pos hc]
   simp only[Bool.and_eq_true]at hc
   exact⟨us[n],by simp,by simpa[startsU]using hc.1⟩
  ·rename_i hc
   rw[if_neg hc]
   exact bestU_starts us w n (by omega) h
def spellF(us:List Unt)(w:List Int):Nat→Nat→ByteArray→ByteArray×Int×Int
 | 0,_,s=>(s,0,0)
 | n+1,p,s=>if w.length≤p then(s,0,0)else
  if bestU us (w.drop p) us.length<0 then(ByteArray.empty,(p:Int),20)else
   spellF us w n (p+(unitAt us (bestU us (w.drop p) us.length)).segs.length) (s++(unitAt us (bestU us (w.drop p) us.length)).graph)
def spellE(us:List Unt)(w:List Int):ByteArray×Int×Int:=
 if w.length=0 then(ByteArray.empty,0,4)else if 24<w.length then(ByteArray.empty,0,5)else spellF us w w.length 0 ByteArray.empty
structure OkU(us:List Unt):Prop where
 segs: ∀u∈us,u.segs≠ []
 graph: ∀u∈us,u.graph.size≠0
theorem unit_some{us:List Unt}{w:List Int}(h: ¬bestU us w us.length<0): ∃u,us[(bestU us w us.length).toNat]? =some u∧unitAt us (bestU us w us.length)=u∧u∈us∧u.segs <+: w:=by
 obtain⟨u,h1,h2⟩:=bestU_starts us w us.length (Nat.le_refl _) (by omega)
 exact⟨u,h1,by unfold unitAt;rw[h1];rfl,List.mem_of_getElem? h1,h2⟩
theorem spellF_size{us:List Unt}(ho:OkU us)(w:List Int): ∀n p s,(spellF us w n p s).2.2=0→s.size≤(spellF us w n p s).1.size∧(n≠0→p<w.length→s.size<(spellF us w n p s).1.size)
 | 0,p,s,_=>by simp[spellF]
 | n+1,p,s,h=>by
  simp only[spellF]at h ⊢
  by_cases h1:w.length≤p
  ·simp only[h1,if_true];exact⟨Nat.le_refl _,fun _ h2=>by omega⟩
  ·simp only[h1,if_false]at h ⊢
   by_cases h2:bestU us (w.drop p) us.length<0
   ·simp only[h2,if_true]at h;omega
   ·simp only[h2,if_false]at h ⊢
    obtain⟨u,e1,e2,e3,_⟩:=unit_some h2
    rw[e2]at h ⊢
    have g1:=ho.graph u e3
    have:=(spellF_size ho w n _ _ h).1
    simp only[ByteArray.size_append]at this
    exact⟨by omega,fun _ _=>by omega⟩
theorem spellE_size{us:List Unt}(ho:OkU us)(w:List Int)(h:(spellE us w).2.2=0):(spellE us w).1.size≠0:=by
 unfold spellE at h ⊢
 by_cases h1:w.length=0
 ·simp[h1]at h
 ·by_cases h2:24<w.length
  ·simp[h1,h2]at h
  ·rw[if_neg h1,if_neg h2]at h ⊢
   have:=(spellF_size ho w w.length 0 ByteArray.empty h).2 h1 (by omega)
   omega
def nameAt(g:List Phon)(n:Int):ByteArray:=((g[(n - 1).toNat]?).map (·.name)).getD ByteArray.empty
def textP(g:List Phon)(w:List Int):ByteArray:=w.foldl (fun s n=>if segOk g n=true then s++nameAt g n else s) ByteArray.empty
theorem textP_size{g:List Phon}(hg: ∀p∈g,p.name.size≠0): ∀(w:List Int) (s:ByteArray),(∀n∈w,segOk g n=true)→s.size+w.length≤(w.foldl (fun s n=>if segOk g n=true then s++nameAt g n else s) s).size
 | [],s,_=>by simp
 | n::w,s,h=>by
  have hn:=h n (by simp)
  simp only[List.foldl_cons,hn,if_true]
  refine Nat.le_trans ?_ (textP_size hg w _ fun m hm=>h m (by simp[hm]))
  unfold segOk at hn
  simp only[Bool.and_eq_true,decide_eq_true_eq]at hn
  have hlt:(n - 1).toNat<g.length:=by omega
  have e:g[(n - 1).toNat]? =some g[(n - 1).toNat]:=List.getElem?_eq_getElem hlt
  have hz:=hg _ (List.mem_of_getElem? e)
  simp only[nameAt,e,Option.map_some,Option.getD_some,ByteArray.size_append,List.length_cons]
  omega
def spelledE(g:List Phon)(us:List Unt)(w:List Int):ByteArray:=if(spellE us w).2.2≠0 then textP g w else(spellE us w).1
theorem spelledE_size{g:List Phon}{us:List Unt}(ho:OkU us)(hg: ∀p∈g,p.name.size≠0)(w:List Int)(hw:w≠ [])(h: ∀n∈w,segOk g n=true):(spelledE g us w).size≠0:=by
 unfold spelledE
 split
 ·have:=textP_size hg w ByteArray.empty h
  have:w.length≠0:=by simpa using hw
  unfold textP;omega
 ·rename_i h2
  exact spellE_size ho w (by simpa using h2)
def begB(s t:ByteArray):Bool:=decide (t.size≤s.size)&&(s.extract 0 t.size==t)
abbrev Fst:=Option (Nat×Nat×Nat)
def fstSz(a:Fst):Nat:=match a with
 | some x=>x.2.2
 | none=>0
def letV(s:ByteArray)(i:Nat)(vs:List ByteArray)(a:Fst):Nat→Fst
 | 0=>a
 | k+1=>match vs[k]? with
  | some v=>if(decide (fstSz (letV s i vs a k)<v.size)&&begB s v)=true then some (i,k,v.size)else letV s i vs a k
  | none=>letV s i vs a k
def letL(ls:List (List ByteArray))(s:ByteArray):Nat→Fst
 | 0=>none
 | i+1=>match ls[i]? with
  | some vs=>letV s i vs (letL ls s i) vs.length
  | none=>letL ls s i
def firstE(ls:List (List ByteArray))(s:ByteArray):Fst:=letL ls s ls.length
def FstOk(ls:List (List ByteArray))(s:ByteArray)(m:Nat)(a:Fst):Prop:=∀x,a=some x→x.1<m∧0<x.2.2∧x.2.2≤s.size∧∃vs v,ls[x.1]? =some vs∧vs[x.2.1]? =some v∧v.size=x.2.2
theorem FstOk.mono{ls:List (List ByteArray)}{s:ByteArray}{m m':Nat}{a:Fst}(h:FstOk ls s m a)(hm:m≤m'):FstOk ls s m' a:=fun x hx=>by
 obtain⟨h1,h2⟩:=h x hx
 exact⟨by omega,h2⟩
theorem letV_ok{ls:List (List ByteArray)}{s:ByteArray}{i:Nat}{vs:List ByteArray}(hi:ls[i]? =some vs){a:Fst}(ha:FstOk ls s (i+1) a): ∀k,FstOk ls s (i+1) (letV s i vs a k)
 | 0=>ha
 | k+1=>by
  have ih:=letV_ok hi ha k
  simp only[letV]
  cases e:vs[k]? with
  | none=>exact ih
  | some v=>
   simp only
   split
   ·rename_i hc
    simp only[Bool.and_eq_true,decide_eq_true_eq,begB]at hc
    intro x hx
    injection hx with hx
    subst hx
    exact⟨by simp,by simp only;omega,hc.2.1,vs,v,hi,e,rfl⟩
   ·exact ih
theorem letL_ok(ls:List (List ByteArray))(s:ByteArray): ∀m,m≤ls.length→FstOk ls s m (letL ls s m)
 | 0,_=>fun x hx=>by simp[letL]at hx
 | m+1,hm=>by
  have e:ls[m]? =some ls[m]:=List.getElem?_eq_getElem (by omega)
  simp only[letL,e]
  exact letV_ok e ((letL_ok ls s m (by omega)).mono (by omega)) _
theorem firstE_ok(ls:List (List ByteArray))(s:ByteArray):FstOk ls s ls.length (firstE ls s):=letL_ok ls s _ (Nat.le_refl _)
def byteAt(s:ByteArray)(p:Nat):Int:=((s.data.toList[p]?).map fun b=>(b.toNat:Int)).getD 0
def lettersF(ls:List (List ByteArray))(s:ByteArray):Nat→Nat→List Int→List Int→Bool→List Int×List Int×Bool
 | 0,_,a,b,all=>(a,b,all)
 | n+1,p,a,b,all=>if s.size≤p then(a,b,all)else match firstE ls (s.extract p s.size)with
  | some x=>lettersF ls s n (p+x.2.2) (a++ [(x.1:Int)]) (b++ [(x.2.1:Int)]) all
  | none=>lettersF ls s n (p+1) (a++ [(ls.length:Int)+byteAt s p]) (b++ [0]) false
theorem lettersF_fuel(ls:List (List ByteArray))(s:ByteArray): ∀n n' p a b all,s.size - p≤n→s.size - p≤n'→lettersF ls s n p a b all=lettersF ls s n' p a b all
 | 0,0,_,_,_,_,_,_=>rfl
 | 0,n'+1,p,a,b,all,h,_=>by
  simp only[lettersF]
  rw[if_pos (by omega)]
 | n+1,0,p,a,b,all,_,h=>by
  simp only[lettersF]
  rw[if_pos (by omega)]
 | n+1,n'+1,p,a,b,all,h1,h2=>by
  simp only[lettersF]
  by_cases hp:s.size≤p
  ·rw[if_pos hp,if_pos hp]
  ·rw[if_neg hp,if_neg hp]
   cases e:firstE ls (s.extract p s.size)with
   | none=>exact lettersF_fuel ls s n n' _ _ _ _ (by omega) (by omega)
   | some x=>
    have:=(firstE_ok ls _ x e).2.1
    exact lettersF_fuel ls s n n' _ _ _ _ (by omega) (by omega)
def lettersE(ls:List (List ByteArray))(s:ByteArray):List Int×List Int×Bool:=lettersF ls s s.size 0 [] [] true
theorem lettersF_len(ls:List (List ByteArray))(s:ByteArray): ∀n p a b all,a.length≤p→b.length≤p→p≤s.size→(lettersF ls s n p a b all).1.length≤s.size∧(lettersF ls s n p a b all).2.1.length≤s.size
 | 0,p,a,b,all,h1,h2,h3=>⟨by simp only[lettersF];omega,by simp only[lettersF];omega⟩
 | n+1,p,a,b,all,h1,h2,h3=>by
  simp only[lettersF]
  by_cases hp:s.size≤p
  ·rw[if_pos hp];exact⟨by simp only;omega,by simp only;omega⟩
  ·rw[if_neg hp]
   cases e:firstE ls (s.extract p s.size)with
   | none=>exact lettersF_len ls s n _ _ _ _ (by simp;omega) (by simp;omega) (by omega)
   | some x=>
    obtain⟨-,h4,h5,-⟩:=firstE_ok ls _ x e
    have h6:x.2.2≤s.size - p:=by simpa using h5
    exact lettersF_len ls s n _ _ _ _ (by simp;omega) (by simp;omega) (by omega)
theorem letters_len(ls:List (List ByteArray))(s:ByteArray):(lettersE ls s).1.length≤s.size∧(lettersE ls s).2.1.length≤s.size:=lettersF_len ls s _ _ _ _ _ (by simp) (by simp) (by omega)
def sectE(ls:List (List ByteArray))(s:ByteArray):Int:=if s.size=0 then -1 else match firstE ls s with
 | some x=>(x.1:Int)
 | none=> -1
def keyE(ls:List (List ByteArray))(s:ByteArray):List (List Int):= [(lettersE ls s).1,(lettersE ls s).2.1,s.data.toList.map fun b=>(b.toNat:Int)]
def headS(lt:List (List ByteArray))(i:Int):ByteArray:=if i<0 then ByteArray.empty else(((lt[i.toNat]?).getD [])[0]?).getD ByteArray.empty
end Go.Proofs.YtehdkccjaeckhaaGreatDoor
namespace Go.Proofs.YtehdkccjaeckhaaGreatDoor
open Go.Lib
def encN(p:Nat):List Nat:=
 if p<128 then [p]else if p<2048 then [192+p / 64,128+p % 64]else if p<65536 then [224+p / 4096,128+p / 64 % 64,128+p % 64]
 else [240+p / 262144,128+p / 4096 % 64,128+p / 64 % 64,128+p % 64]
def leadN(b0:Nat):Nat:=if 240≤b0 then 4 else if 224≤b0 then 3 else if 192≤b0 then 2 else 1
def valN(b0 b1 b2 b3:Nat):Nat:=
 if 240≤b0 then(((b0 - 240)*64+b1 % 64)*64+b2 % 64)*64+b3 % 64 else if 224≤b0 then((b0 - 224)*64+b1 % 64)*64+b2 % 64
 else if 192≤b0 then(b0 - 192)*64+b1 % 64 else b0
def scalN(p:Nat):Prop:=p≤1114111∧(p<55296∨57343<p)
instance (p:Nat):Decidable (scalN p):=by unfold scalN;infer_instance
def fstN(n b0 b1 b2 b3:Nat):Option (Nat×Nat):=
 if n<leadN b0 then none
 else if scalN (valN b0 b1 b2 b3)∧encN (valN b0 b1 b2 b3)= [b0,b1,b2,b3].take (leadN b0)then some (valN b0 b1 b2 b3,leadN b0)else none
def okN(d:Nat×Nat):Option (Nat×Nat):=if d=(65533,1)then none else some d
theorem okN_bad:okN (65533,1)=none:=by simp[okN]
theorem okN_some{a b:Nat}(h: ¬(a=65533∧b=1)):okN (a,b)=some (a,b):=by simp[okN,h]
theorem fst_yes{n b0 b1 b2 b3 k p:Nat}(e1:leadN b0=k)(e2:valN b0 b1 b2 b3=p)(hn: ¬n<k)(h:scalN p∧encN p= [b0,b1,b2,b3].take k):fstN n b0 b1 b2 b3=some (p,k):=by
 subst e1;subst e2
 unfold fstN
 rw[if_neg hn,if_pos h]
theorem fst_no{n b0 b1 b2 b3 k p:Nat}(e1:leadN b0=k)(e2:valN b0 b1 b2 b3=p)(h: ¬(scalN p∧encN p= [b0,b1,b2,b3].take k)):fstN n b0 b1 b2 b3=none:=by
 subst e1;subst e2
 unfold fstN
 split
 ·rfl
 ·first|rfl|rw[if_neg h]
theorem fst_short{n b0 b1 b2 b3 k:Nat}(e1:leadN b0=k)(hn:n<k):fstN n b0 b1 b2 b3=none:=by
 subst e1
 unfold fstN
 rw[if_pos hn]
theorem fst1(n b0 b1 b2 b3:Nat)(hn:1≤n)(h:b0<192):fstN n b0 b1 b2 b3=okN (decodeN n b0 b1 b2 b3):=by
 have e1:leadN b0=1:=by unfold leadN;(repeat' split)<;>omega
 have e2:valN b0 b1 b2 b3=b0:=by unfold valN;(repeat' split)<;>omega
 by_cases h1:b0<128
 ·have e3:decodeN n b0 b1 b2 b3=(b0,1):=by simp[decodeN,h1]
  rw[e3,okN_some (by omega)]
  exact fst_yes e1 e2 (by omega) ⟨⟨by omega,by omega⟩,by simp[encN,h1]⟩
 ·have e3:decodeN n b0 b1 b2 b3=(65533,1):=decodeN_bad n b0 b1 b2 b3 (.inl ⟨by omega,by omega⟩)
  rw[e3,okN_bad]
  refine fst_no e1 e2 ?_
  simp only[List.take_succ_cons,List.take_zero]
  rintro⟨_,h2⟩
  simp[encN,h1,show b0<2048 by omega]at h2
theorem fst2(n b0 b1 b2 b3:Nat)(h1:b1<256)(h:192≤b0)(h':b0<224):fstN n b0 b1 b2 b3=okN (decodeN n b0 b1 b2 b3):=by
 have e1:leadN b0=2:=by unfold leadN;(repeat' split)<;>omega
 have e2:valN b0 b1 b2 b3=(b0 - 192)*64+b1 % 64:=by unfold valN;(repeat' split)<;>omega
 have hb:b0 / 32=6:=by omega
 have hp:b0 % 32*64+b1 % 64=(b0 - 192)*64+b1 % 64:=by omega
 by_cases hn:n<2
 ·rw[fst_short e1 hn]
  have e3:decodeN n b0 b1 b2 b3=(65533,1):=by
   unfold decodeN
   rw[if_neg (by omega),if_neg (by omega),if_neg (by omega),if_neg (by omega)]
  rw[e3,okN_bad]
 by_cases hc:b1 / 64=2
 ·have e3:decodeN n b0 b1 b2 b3=if b0 % 32*64+b1 % 64≥128 then(b0 % 32*64+b1 % 64,2)else(65533,1):=by
   unfold decodeN
   rw[if_neg (by omega),if_pos ⟨hb,by omega,hc⟩]
  rw[e3,hp]
  by_cases hv:(b0 - 192)*64+b1 % 64≥128
  ·rw[if_pos hv,okN_some (by omega)]
   refine fst_yes e1 e2 hn ⟨⟨by omega,by omega⟩,?_⟩
   simp only[List.take_succ_cons,List.take_zero]
   rw[encN,if_neg (by omega),if_pos (by omega)]
   simp only[List.cons.injEq,and_true]
   omega
  ·rw[if_neg hv,okN_bad]
   refine fst_no e1 e2 ?_
   simp only[List.take_succ_cons,List.take_zero]
   rintro⟨_,h2⟩
   rw[encN,if_pos (by omega)]at h2
   simp at h2
 ·have e3:decodeN n b0 b1 b2 b3=(65533,1):=by
   unfold decodeN
   rw[if_neg (by omega),if_neg (by omega),if_neg (by omega),if_neg (by omega)]
  rw[e3,okN_bad]
  refine fst_no e1 e2 ?_
  simp only[List.take_succ_cons,List.take_zero]
  rintro⟨_,h2⟩
  rw[encN]at h2
  split at h2
  ·simp at h2
  ·rw[if_pos (by omega)]at h2
   simp only[List.cons.injEq,and_true]at h2
   omega
theorem fst3(n b0 b1 b2 b3:Nat)(h1:b1<256)(h2:b2<256)(h:224≤b0)(h':b0<240):fstN n b0 b1 b2 b3=okN (decodeN n b0 b1 b2 b3):=by
 have e1:leadN b0=3:=by unfold leadN;(repeat' split)<;>omega
 have e2:valN b0 b1 b2 b3=((b0 - 224)*64+b1 % 64)*64+b2 % 64:=by unfold valN;(repeat' split)<;>omega
 have hb:b0 / 16=14:=by omega
 have hp:b0 % 16*4096+b1 % 64*64+b2 % 64=((b0 - 224)*64+b1 % 64)*64+b2 % 64:=by omega
 have bad: ¬(3≤n∧b1 / 64=2∧b2 / 64=2)→decodeN n b0 b1 b2 b3=(65533,1):=fun hh=>by
  unfold decodeN
  rw[if_neg (by omega),if_neg (by omega),if_neg (by omega),if_neg (by omega)]
 by_cases hn:n<3
 ·rw[fst_short e1 hn,bad (by omega),okN_bad]
 generalize hq:((b0 - 224)*64+b1 % 64)*64+b2 % 64=p at*
 by_cases hc:b1 / 64=2∧b2 / 64=2
 ·have e3:decodeN n b0 b1 b2 b3=if p≥2048∧(p<55296∨(57344≤p∧p≤1114111))then(p,3)else(65533,1):=by
   unfold decodeN
   rw[if_neg (by omega),if_neg (by omega),if_pos ⟨hb,by omega,by omega⟩,hp]
  rw[e3]
  by_cases hv:p≥2048∧(p<55296∨(57344≤p∧p≤1114111))
  ·rw[if_pos hv,okN_some (by omega)]
   refine fst_yes e1 e2 hn ⟨⟨by omega,by omega⟩,?_⟩
   simp only[List.take_succ_cons,List.take_zero]
   rw[encN,if_neg (by omega),if_neg (by omega),if_pos (by omega)]
   simp only[List.cons.injEq,and_true]
   omega
  ·rw[if_neg hv,okN_bad]
   refine fst_no e1 e2 ?_
   simp only[List.take_succ_cons,List.take_zero]
   rintro⟨⟨s1,s2⟩,h2⟩
   rw[encN]at h2
   split at h2
   ·simp at h2
   ·rw[if_pos (by omega)]at h2
    simp at h2
 ·rw[bad (by omega),okN_bad]
  refine fst_no e1 e2 ?_
  simp only[List.take_succ_cons,List.take_zero]
  rintro⟨_,h2⟩
  rw[encN]at h2
  split at h2
  ·simp at h2
  ·split at h2
   ·simp at h2
   ·rw[if_pos (by omega)]at h2
    simp only[List.cons.injEq,and_true]at h2
    omega
theorem fst4(n b0 b1 b2 b3:Nat)(h0:b0<256)(h1:b1<256)(h2:b2<256)(h3:b3<256)(h:240≤b0):fstN n b0 b1 b2 b3=okN (decodeN n b0 b1 b2 b3):=by
 have e1:leadN b0=4:=by unfold leadN;(repeat' split)<;>omega
 have e2:valN b0 b1 b2 b3=(((b0 - 240)*64+b1 % 64)*64+b2 % 64)*64+b3 % 64:=by unfold valN;(repeat' split)<;>omega
 have bad: ¬(4≤n∧b0<248∧b1 / 64=2∧b2 / 64=2∧b3 / 64=2)→decodeN n b0 b1 b2 b3=(65533,1):=fun hh=>by
  unfold decodeN
  rw[if_neg (by omega),if_neg (by omega),if_neg (by omega),if_neg (by omega)]
 by_cases hn:n<4
 ·rw[fst_short e1 hn,bad (by omega),okN_bad]
 by_cases hc:b0<248∧b1 / 64=2∧b2 / 64=2∧b3 / 64=2
 ·have hp:b0 % 8*262144+b1 % 64*4096+b2 % 64*64+b3 % 64=(((b0 - 240)*64+b1 % 64)*64+b2 % 64)*64+b3 % 64:=by omega
  have hb:b0 / 8=30:=by omega
  generalize hq:(((b0 - 240)*64+b1 % 64)*64+b2 % 64)*64+b3 % 64=p at*
  have e3:decodeN n b0 b1 b2 b3=if p≥65536∧(p<55296∨(57344≤p∧p≤1114111))then(p,4)else(65533,1):=by
   unfold decodeN
   rw[if_neg (by omega),if_neg (by omega),if_neg (by omega),if_pos ⟨hb,by omega,by omega,by omega⟩,hp]
  rw[e3]
  by_cases hv:p≥65536∧(p<55296∨(57344≤p∧p≤1114111))
  ·rw[if_pos hv,okN_some (by omega)]
   refine fst_yes e1 e2 hn ⟨⟨by omega,by omega⟩,?_⟩
   simp only[List.take_succ_cons,List.take_zero]
   rw[encN,if_neg (by omega),if_neg (by omega),if_neg (by omega)]
   simp only[List.cons.injEq,and_true]
   omega
  ·rw[if_neg hv,okN_bad]
   refine fst_no e1 e2 ?_
   simp only[List.take_succ_cons,List.take_zero]
   rintro⟨⟨s1,s2⟩,h2⟩
   rw[encN]at h2
   split at h2
   ·simp at h2
   ·split at h2
    ·simp at h2
    ·rw[if_pos (by omega)]at h2
     simp at h2
 ·rw[bad (by omega),okN_bad]
  refine fst_no e1 e2 ?_
  simp only[List.take_succ_cons,List.take_zero]
  rintro⟨⟨s1,s2⟩,h2⟩
  generalize hq:(((b0 - 240)*64+b1 % 64)*64+b2 % 64)*64+b3 % 64=p at*
  rw[encN]at h2
  split at h2
  ·simp at h2
  ·split at h2
   ·simp at h2
   ·split at h2
    ·simp at h2
    ·simp only[List.cons.injEq,and_true]at h2
     omega
theorem fst_decode(n b0 b1 b2 b3:Nat)(hn:1≤n)(h0:b0<256)(h1:b1<256)(h2:b2<256)(h3:b3<256):fstN n b0 b1 b2 b3=okN (decodeN n b0 b1 b2 b3):=by
 by_cases c1:b0<192
 ·exact fst1 n b0 b1 b2 b3 hn c1
 by_cases c2:b0<224
 ·exact fst2 n b0 b1 b2 b3 h1 (by omega) c2
 by_cases c3:b0<240
 ·exact fst3 n b0 b1 b2 b3 h1 h2 (by omega) c3
 ·exact fst4 n b0 b1 b2 b3 h0 h1 h2 h3 (by omega)
end Go.Proofs.YtehdkccjaeckhaaGreatDoor
namespace Go.Proofs.YtehdkccjaeckhaaGreatDoor
open Go.Dl
attribute [local irreducible] DW DCalls ECalls wk IW
theorem scalar_D(p:Nat):DCalls Tryz.prog 170 [dv (li p)] (dv (lb (decide (scalN p)))):=by
 refine kd (N:=17) (rs:= [.tmp 2]) Tryz.func170 ?_
 have t0:decide ((0:Int)≤(p:Int))=true:=by simp
 rcases Bool.eq_false_or_eq_true (decide ((p:Int)≤1114111))with t1|t1
 rotate_left
 ·(repeat'(first|apply kA|apply kB|((first|refine kc (N:=17) ?_|apply kD|apply kE|apply kF);simp +decide only[go_sem,t0,t1])|(apply kG;(simp +decide only[go_sem,t0,t1];rfl);all_goals(intro hcnd;try exact kz hcnd))|((first|apply kH|apply kI)<;>(intro hcnd;simp +decide only[go_sem,hcnd,t0,t1]))))
  have: ¬scalN p:=fun h=>by simp at t1;have:=h.1;omega
  simp[this]
 rcases Bool.eq_false_or_eq_true (decide ((p:Int)<55296))with t2|t2
 ·(repeat'(first|apply kA|apply kB|((first|refine kc (N:=17) ?_|apply kD|apply kE|apply kF);simp +decide only[go_sem,t0,t1,t2])|(apply kG;(simp +decide only[go_sem,t0,t1,t2];rfl);all_goals(intro hcnd;try exact kz hcnd))|((first|apply kH|apply kI)<;>(intro hcnd;simp +decide only[go_sem,hcnd,t0,t1,t2]))))
  have:scalN p:=⟨by simp at t1;omega,by simp at t2;omega⟩
  simp[this]
 rcases Bool.eq_false_or_eq_true (decide ((57343:Int)<(p:Int)))with t3|t3
 ·(repeat'(first|apply kA|apply kB|((first|refine kc (N:=17) ?_|apply kD|apply kE|apply kF);simp +decide only[go_sem,t0,t1,t2,t3])|(apply kG;(simp +decide only[go_sem,t0,t1,t2,t3];rfl);all_goals(intro hcnd;try exact kz hcnd))|((first|apply kH|apply kI)<;>(intro hcnd;simp +decide only[go_sem,hcnd,t0,t1,t2,t3]))))
  have:scalN p:=⟨by simp at t1;omega,by simp at t3;omega⟩
  simp[this]
 ·(repeat'(first|apply kA|apply kB|((first|refine kc (N:=17) ?_|apply kD|apply kE|apply kF);simp +decide only[go_sem,t0,t1,t2,t3])|(apply kG;(simp +decide only[go_sem,t0,t1,t2,t3];rfl);all_goals(intro hcnd;try exact kz hcnd))|((first|apply kH|apply kI)<;>(intro hcnd;simp +decide only[go_sem,hcnd,t0,t1,t2,t3]))))
  have: ¬scalN p:=fun h=>by simp at t2 t3;have:=h.2;omega
  simp[this]
def encB(p:Nat):ByteArray:=⟨((encN p).map UInt8.ofNat).toArray⟩
theorem wrap_u8{x:Int}(h:0≤x)(h':x<256):IntKind.u8.wrap x=x:=by
 have:IntKind.u8.wrap x=x % 256:=by simp[IntKind.wrap,IntKind.bits,IntKind.signed]
 rw[this];omega
theorem tdiv_nat(p k:Nat):((p:Int).tdiv (k:Int))=((p / k:Nat):Int):=by
 rw[Int.tdiv_eq_ediv_of_nonneg (by omega)];rfl
theorem tmod_nat(p k:Nat):((p:Int).tmod (k:Int))=((p % k:Nat):Int):=by
 rw[Int.tmod_eq_emod_of_nonneg (by omega)];rfl
theorem wrap8{a x:Nat}(h:a+x<256):IntKind.u8.wrap (IntKind.i64.wrap ((a:Int)+(x:Int)))=((a+x:Nat):Int):=by
 rw[wrap_i64 (by omega) (by omega),wrap_u8 (by omega) (by omega)];rfl
theorem wrap64n{x:Nat}(h:x<9223372036854775808):IntKind.i64.wrap (x:Int)=(x:Int):=wrap_i64 (by omega) (by omega)
theorem encoded_D(p:Nat)(hp:p≤1114111):DCalls Tryz.prog 171 [dv (li p)] (dv (ls (encB p))):=by
 have d1:(p:Int).tdiv 64=((p / 64:Nat):Int):=tdiv_nat p 64
 have d2:(p:Int).tdiv 4096=((p / 4096:Nat):Int):=tdiv_nat p 4096
 have d3:(p:Int).tdiv 262144=((p / 262144:Nat):Int):=tdiv_nat p 262144
 have m0:(p:Int).tmod 64=((p % 64:Nat):Int):=tmod_nat p 64
 have m1:((p / 64:Nat):Int).tmod 64=((p / 64 % 64:Nat):Int):=tmod_nat (p / 64) 64
 have m2:((p / 4096:Nat):Int).tmod 64=((p / 4096 % 64:Nat):Int):=tmod_nat (p / 4096) 64
 have q1:IntKind.i64.wrap ((p / 64:Nat):Int)=((p / 64:Nat):Int):=wrap64n (by omega)
 have q2:IntKind.i64.wrap ((p / 4096:Nat):Int)=((p / 4096:Nat):Int):=wrap64n (by omega)
 have q3:IntKind.i64.wrap ((p / 262144:Nat):Int)=((p / 262144:Nat):Int):=wrap64n (by omega)
 have w0:IntKind.u8.wrap (IntKind.i64.wrap (128+((p % 64:Nat):Int)))=((128+p % 64:Nat):Int):=wrap8 (a:=128) (by omega)
 have w1:IntKind.u8.wrap (IntKind.i64.wrap (128+((p / 64 % 64:Nat):Int)))=((128+p / 64 % 64:Nat):Int):=wrap8 (a:=128) (by omega)
 have w2:IntKind.u8.wrap (IntKind.i64.wrap (128+((p / 4096 % 64:Nat):Int)))=((128+p / 4096 % 64:Nat):Int):=wrap8 (a:=128) (by omega)
 refine kd (N:=61) (rs:= [.tmp 2]) Tryz.func171 ?_
 by_cases h1:p<128
 ·have t1:decide ((p:Int)<128)=true:=by simp;omega
  have w3:IntKind.u8.wrap (p:Int)=p:=wrap_u8 (by omega) (by omega)
  (repeat'(first|apply kA|apply kB|((first|refine kc (N:=61) ?_|apply kD|apply kE|apply kF);simp +decide only[go_sem,t1,w3])|(apply kG;(simp +decide only[go_sem,t1,w3];rfl);all_goals(intro hcnd;try exact kz hcnd))))
  simp[encB,encN,h1]
 ·have t1:decide ((p:Int)<128)=false:=by simp;omega
  by_cases h2:p<2048
  ·have t2:decide ((p:Int)<2048)=true:=by simp;omega
   have w3:IntKind.u8.wrap (IntKind.i64.wrap (192+((p / 64:Nat):Int)))=((192+p / 64:Nat):Int):=wrap8 (a:=192) (by omega)
   (repeat'(first|apply kA|apply kB|((first|refine kc (N:=61) ?_|apply kD|apply kE|apply kF);simp +decide only[go_sem,t1,t2,d1,q1,m0,w0,w3])|(apply kG;(simp +decide only[go_sem,t1,t2,d1,q1,m0,w0,w3];rfl);all_goals(intro hcnd;try exact kz hcnd))))
   simp only[encB,encN,h1,h2,if_false,if_true,List.map_cons,List.map_nil,Int.toNat_natCast]
  ·have t2:decide ((p:Int)<2048)=false:=by simp;omega
   by_cases h3:p<65536
   ·have t3:decide ((p:Int)<65536)=true:=by simp;omega
    have w3:IntKind.u8.wrap (IntKind.i64.wrap (224+((p / 4096:Nat):Int)))=((224+p / 4096:Nat):Int):=wrap8 (a:=224) (by omega)
    (repeat'(first|apply kA|apply kB|((first|refine kc (N:=61) ?_|apply kD|apply kE|apply kF);simp +decide only[go_sem,t1,t2,t3,d1,d2,q1,q2,m0,m1,w0,w1,w3])|(apply kG;(simp +decide only[go_sem,t1,t2,t3,d1,d2,q1,q2,m0,m1,w0,w1,w3];rfl);all_goals(intro hcnd;try exact kz hcnd))))
    simp only[encB,encN,h1,h2,h3,if_false,if_true,List.map_cons,List.map_nil,Int.toNat_natCast]
   ·have t3:decide ((p:Int)<65536)=false:=by simp;omega
    have w3:IntKind.u8.wrap (IntKind.i64.wrap (240+((p / 262144:Nat):Int)))=((240+p / 262144:Nat):Int):=wrap8 (a:=240) (by omega)
    (repeat'(first|apply kA|apply kB|((first|refine kc (N:=61) ?_|apply kD|apply kE|apply kF);simp +decide only[go_sem,t1,t2,t3,d1,d2,d3,q1,q2,q3,m0,m1,m2,w0,w1,w2,w3])|(apply kG;(simp +decide only[go_sem,t1,t2,t3,d1,d2,d3,q1,q2,q3,m0,m1,m2,w0,w1,w2,w3];rfl);all_goals(intro hcnd;try exact kz hcnd))))
    simp only[encB,encN,h1,h2,h3,if_false,if_true,List.map_cons,List.map_nil,Int.toNat_natCast]
end Go.Proofs.YtehdkccjaeckhaaGreatDoor
namespace Go.Proofs.YtehdkccjaeckhaaGreatDoor
open Go.Lib
def bAt(bs:List UInt8)(i:Nat):Nat:=(bs.getD i 0).toNat
def fstL(bs:List UInt8):Option (Nat×Nat):=fstN bs.length (bAt bs 0) (bAt bs 1) (bAt bs 2) (bAt bs 3)
def baseN(b0:Nat):Nat:=if 240≤b0 then b0 - 240 else if 224≤b0 then b0 - 224 else if 192≤b0 then b0 - 192 else b0
def pf(p:Nat)(xs:List UInt8):Nat:=xs.foldl (fun p b=>p*64+b.toNat % 64) p
theorem pf_snoc(p:Nat)(xs:List UInt8)(b:UInt8):pf p (xs++ [b])=pf p xs*64+b.toNat % 64:=by simp[pf]
theorem pf_lt: ∀(xs:List UInt8) (p:Nat),pf p xs<(p+1)*64 ^ xs.length
 | [],p=>by simp[pf]
 | b::xs,p=>by
  have h:=pf_lt xs (p*64+b.toNat % 64)
  have e:pf p (b::xs)=pf (p*64+b.toNat % 64) xs:=rfl
  rw[e]
  refine Nat.lt_of_lt_of_le h ?_
  rw[List.length_cons,Nat.pow_succ,Nat.mul_comm (64 ^ xs.length) 64,← Nat.mul_assoc]
  exact Nat.mul_le_mul_right _ (by omega)
theorem lead_cases(b0:Nat):(leadN b0=1∧b0<192)∨(leadN b0=2∧192≤b0∧b0<224)∨(leadN b0=3∧224≤b0∧b0<240)∨(leadN b0=4∧240≤b0):=by
 unfold leadN;(repeat' split)<;>omega
theorem base_le(b0:Nat):baseN b0≤b0:=by unfold baseN;(repeat' split)<;>omega
def tailL(bs:List UInt8):List UInt8:=(bs.drop 1).take (leadN (bAt bs 0) - 1)
theorem val_pf{bs:List UInt8}(h:leadN (bAt bs 0)≤bs.length):valN (bAt bs 0) (bAt bs 1) (bAt bs 2) (bAt bs 3)=pf (baseN (bAt bs 0)) (tailL bs):=by
 unfold tailL
 rcases lead_cases (bAt bs 0)with⟨e,c⟩|⟨e,c,c'⟩|⟨e,c,c'⟩|⟨e,c⟩<;>rw[e]at h ⊢
 ·simp only[Nat.sub_self,List.take_zero,pf,List.foldl_nil]
  unfold valN baseN;(repeat' split)<;>omega
 ·match bs,h with
  | a::b::l,_=>
   simp only[bAt,List.getD_cons_zero,List.getD_cons_succ,List.drop_succ_cons,List.drop_zero,List.take_succ_cons,List.take_zero,pf,List.foldl_cons,List.foldl_nil]at*
   unfold valN baseN;(repeat' split)<;>omega
 ·match bs,h with
  | a::b::d::l,_=>
   simp only[bAt,List.getD_cons_zero,List.getD_cons_succ,List.drop_succ_cons,List.drop_zero,List.take_succ_cons,List.take_zero,pf,List.foldl_cons,List.foldl_nil]at*
   unfold valN baseN;(repeat' split)<;>omega
 ·match bs,h with
  | a::b::d::f::l,_=>
   simp only[bAt,List.getD_cons_zero,List.getD_cons_succ,List.drop_succ_cons,List.drop_zero,List.take_succ_cons,List.take_zero,pf,List.foldl_cons,List.foldl_nil]at*
   unfold valN baseN;(repeat' split)<;>omega
theorem head_take{bs:List UInt8}(h:leadN (bAt bs 0)≤bs.length): [bAt bs 0,bAt bs 1,bAt bs 2,bAt bs 3].take (leadN (bAt bs 0))=(bs.take (leadN (bAt bs 0))).map UInt8.toNat:=by
 rcases lead_cases (bAt bs 0)with⟨e,c⟩|⟨e,c,c'⟩|⟨e,c,c'⟩|⟨e,c⟩<;>rw[e]at h ⊢
 ·match bs,h with
  | a::l,_=>simp[bAt]
 ·match bs,h with
  | a::b::l,_=>simp[bAt]
 ·match bs,h with
  | a::b::d::l,_=>simp[bAt]
 ·match bs,h with
  | a::b::d::f::l,_=>simp[bAt]
theorem tail_len{bs:List UInt8}(h:leadN (bAt bs 0)≤bs.length):(tailL bs).length+1=leadN (bAt bs 0):=by
 unfold tailL
 rcases lead_cases (bAt bs 0)with⟨e,c⟩|⟨e,c,c'⟩|⟨e,c,c'⟩|⟨e,c⟩<;>rw[e]at h ⊢ <;>simp<;>omega
theorem tail_at{bs:List UInt8}{k:Nat}{b:UInt8}(h:(tailL bs)[k]? =some b):bs[k+1]? =some b:=by
 unfold tailL at h
 rw[List.getElem?_take]at h
 split at h
 ·rw[List.getElem?_drop]at h;rwa [Nat.add_comm]
 ·cases h
theorem enc_lt{p:Nat}(hp:p≤1114111): ∀x∈encN p,x<256:=by
 unfold encN
 (repeat' split)<;>simp<;>omega
theorem enc_bytes{p:Nat}(hp:p≤1114111){tk:List UInt8}:(encN p).map UInt8.ofNat=tk↔encN p=tk.map UInt8.toNat:=by
 constructor
 ·intro h
  rw[← h,List.map_map]
  conv=>lhs;rw[← List.map_id (encN p)]
  apply List.map_congr_left
  intro x hx
  have:=enc_lt hp x hx
  simp[Function.comp];omega
 ·intro h
  rw[h,List.map_map]
  conv=>rhs;rw[← List.map_id tk]
  apply List.map_congr_left
  intro x hx
  simp[Function.comp]
theorem fstL_short{bs:List UInt8}(h:bs.length<leadN (bAt bs 0)):fstL bs=none:=fst_short rfl h
theorem fstL_eq{bs:List UInt8}(h:leadN (bAt bs 0)≤bs.length):fstL bs=if scalN (pf (baseN (bAt bs 0)) (tailL bs))∧(encN (pf (baseN (bAt bs 0)) (tailL bs))).map UInt8.ofNat=bs.take (leadN (bAt bs 0))then some (pf (baseN (bAt bs 0)) (tailL bs),leadN (bAt bs 0))else none:=by
 have e:=val_pf h
 unfold fstL
 by_cases hs:scalN (pf (baseN (bAt bs 0)) (tailL bs))
 ·by_cases he:(encN (pf (baseN (bAt bs 0)) (tailL bs))).map UInt8.ofNat=bs.take (leadN (bAt bs 0))
  ·rw[if_pos ⟨hs,he⟩]
   exact fst_yes rfl e (by omega) ⟨hs,by rw[head_take h];exact(enc_bytes hs.1).1 he⟩
  ·rw[if_neg (fun hh=>he hh.2)]
   exact fst_no rfl e fun hh=>he ((enc_bytes hs.1).2 (by rw[← head_take h];exact hh.2))
 ·rw[if_neg (fun hh=>hs hh.1)]
  exact fst_no rfl e fun hh=>hs hh.1
theorem fstL_decode{bs:List UInt8}(h:bs≠ []):fstL bs=okN (decodeL bs):=by
 rw[decodeL_N]
 have hl:1≤bs.length:=List.length_pos_iff.2 h
 exact fst_decode _ _ _ _ _ hl (UInt8.toNat_lt _) (UInt8.toNat_lt _) (UInt8.toNat_lt _) (UInt8.toNat_lt _)
end Go.Proofs.YtehdkccjaeckhaaGreatDoor
namespace Go.Proofs.YtehdkccjaeckhaaGreatDoor
abbrev kpn0:List (Nat×Go.Dl.Mode):= [(0,.light),(1,.step),(2,.light),(3,.light),(4,.light),(5,.light),(6,.light),(7,.light),(8,.light),(9,.light),(10,.light),(11,.light),(12,.light),(13,.light)]
abbrev kq0:Nat→List (Nat×Go.Dl.Mode):=fun n=>match n with|18=>kpn0|_=> []
end Go.Proofs.YtehdkccjaeckhaaGreatDoor
namespace Go.Proofs.YtehdkccjaeckhaaGreatDoor
open Go.Dl
attribute [local irreducible] DW DCalls ECalls wk IW
def firstR(s:ByteArray)(a:Nat):Int×Int:=
 match fstL (s.data.toList.drop a)with
 | some (p,k)=>(p,k)
 | none=>(-1,0)
theorem first_D(s:ByteArray)(a:Nat)(ha:a<s.size)(hs:s.size≤1048576):DCalls Tryz.prog 151 [dv (ls s),dv (li a)] (.tup [dv (li (firstR s a).1),dv (li (firstR s a).2)]):=by
 obtain⟨bs,hbs⟩: ∃bs,bs=s.data.toList.drop a:=⟨_,rfl⟩
 have hlen:bs.length+a=s.size:=by rw[hbs];simp;omega
 have hx0:s.data.toList[a]? =some (bs.getD 0 0):=by
  rw[hbs,List.getD_eq_getElem?_getD,List.getElem?_drop,Nat.add_zero]
  have:a<s.data.toList.length:=by simpa using ha
  rw[List.getElem?_eq_getElem this];rfl
 have hb0:bAt bs 0<256:=UInt8.toNat_lt _
 have hw0:IntKind.i64.wrap (((bs.getD 0 0).toNat:Nat):Int)=((bAt bs 0:Nat):Int):=wrap64n (by have:=UInt8.toNat_lt (bs.getD 0 0);omega)
 obtain⟨b0,hbb⟩: ∃b0,b0=bAt bs 0:=⟨_,rfl⟩
 rw[← hbb]at hw0 hb0
 have hbl:=base_le b0
 have hmax:maxLen=9223372036854775807:=rfl
 refine kd (N:=65) (rs:= [.tmp 4,.tmp 5]) Tryz.func151 ?_
 apply kA
 refine kc (N:=65) ?_;simp +decide only[go_sem]
 apply kA
 refine kc (N:=65) ?_;simp +decide only[go_sem,hx0,hw0]
 apply kA
 refine kc (N:=65) ?_;simp +decide only[go_sem,hx0,hw0]
 apply kA
 refine dw_afterN (fun _:Unit=>kn 65 [(0,dv (ls s)),(1,dv (li a)),(6,dv (li (baseN b0))),(7,dv (li (leadN b0)))] noMem) (fun _=>True) ?_ ?_
 ·rcases lead_cases b0 with⟨e,c⟩|⟨e,c,c'⟩|⟨e,c,c'⟩|⟨e,c⟩
  ·have t1:decide ((240:Int)≤(b0:Int))=false:=by simp;omega
   have t2:decide ((224:Int)≤(b0:Int))=false:=by simp;omega
   have t3:decide ((192:Int)≤(b0:Int))=false:=by simp;omega
   have hb:baseN b0=b0:=by unfold baseN;(repeat' split)<;>omega
   (repeat'(first|apply kA|apply kB|((first|refine kc (N:=65) ?_|refine kj (N:=65) kq0 ?_|apply kD|apply kE|apply kF);simp +decide only[go_sem,t1,t2,t3])|(apply kG;(simp +decide only[go_sem,t1,t2,t3];rfl);all_goals(intro hcnd;try exact kz hcnd))|((first|apply kH|apply kI)<;>(intro hcnd;simp +decide only[go_sem,hcnd,t1,t2,t3]))))
   exact⟨(),kL rfl (by simp +decide only[go_sem,e,hb]) (by simp[noMem])⟩
  ·have t1:decide ((240:Int)≤(b0:Int))=false:=by simp;omega
   have t2:decide ((224:Int)≤(b0:Int))=false:=by simp;omega
   have t3:decide ((192:Int)≤(b0:Int))=true:=by simp;omega
   have hb:IntKind.i64.wrap ((b0:Int) - 192)=(baseN b0:Int):=by
    have:baseN b0=b0 - 192:=by unfold baseN;(repeat' split)<;>omega
    rw[this,wrap_i64 (by omega) (by omega)];omega
   (repeat'(first|apply kA|apply kB|((first|refine kc (N:=65) ?_|refine kj (N:=65) kq0 ?_|apply kD|apply kE|apply kF);simp +decide only[go_sem,t1,t2,t3,hb])|(apply kG;(simp +decide only[go_sem,t1,t2,t3,hb];rfl);all_goals(intro hcnd;try exact kz hcnd))|((first|apply kH|apply kI)<;>(intro hcnd;simp +decide only[go_sem,hcnd,t1,t2,t3,hb]))))
   exact⟨(),kL rfl (by simp +decide only[go_sem,e]) (by simp[noMem])⟩
  ·have t1:decide ((240:Int)≤(b0:Int))=false:=by simp;omega
   have t2:decide ((224:Int)≤(b0:Int))=true:=by simp;omega
   have hb:IntKind.i64.wrap ((b0:Int) - 224)=(baseN b0:Int):=by
    have:baseN b0=b0 - 224:=by unfold baseN;(repeat' split)<;>omega
    rw[this,wrap_i64 (by omega) (by omega)];omega
   (repeat'(first|apply kA|apply kB|((first|refine kc (N:=65) ?_|refine kj (N:=65) kq0 ?_|apply kD|apply kE|apply kF);simp +decide only[go_sem,t1,t2,hb])|(apply kG;(simp +decide only[go_sem,t1,t2,hb];rfl);all_goals(intro hcnd;try exact kz hcnd))|((first|apply kH|apply kI)<;>(intro hcnd;simp +decide only[go_sem,hcnd,t1,t2,hb]))))
   exact⟨(),kL rfl (by simp +decide only[go_sem,e]) (by simp[noMem])⟩
  ·have t1:decide ((240:Int)≤(b0:Int))=true:=by simp;omega
   have hb:IntKind.i64.wrap ((b0:Int) - 240)=(baseN b0:Int):=by
    have:baseN b0=b0 - 240:=by unfold baseN;(repeat' split)<;>omega
    rw[this,wrap_i64 (by omega) (by omega)];omega
   (repeat'(first|apply kA|apply kB|((first|refine kc (N:=65) ?_|refine kj (N:=65) kq0 ?_|apply kD|apply kE|apply kF);simp +decide only[go_sem,t1,hb])|(apply kG;(simp +decide only[go_sem,t1,hb];rfl);all_goals(intro hcnd;try exact kz hcnd))|((first|apply kH|apply kI)<;>(intro hcnd;simp +decide only[go_sem,hcnd,t1,hb]))))
   exact⟨(),kL rfl (by simp +decide only[go_sem,e]) (by simp[noMem])⟩
 intro _ _
 have hl14:1≤leadN b0∧leadN b0≤4:=by rcases lead_cases b0 with h|h|h|h<;>omega
 have hw1:IntKind.i64.wrap ((a:Int)+(leadN b0:Int))=((a+leadN b0:Nat):Int):=by rw[wrap_i64 (by omega) (by omega)];rfl
 by_cases hk:leadN b0≤bs.length
 rotate_left
 ·have t1:decide ((s.size:Int)<((a+leadN b0:Nat):Int))=true:=by simp;omega
  (repeat'(first|apply kA|apply kB|((first|refine kc (N:=65) ?_|refine kj (N:=65) kq0 ?_|apply kD|apply kE|apply kF);simp +decide only[go_sem,hw1,t1])|(apply kG;(simp +decide only[go_sem,hw1,t1];rfl);all_goals(intro hcnd;try exact kz hcnd))|((first|apply kH|apply kI)<;>(intro hcnd;simp +decide only[go_sem,hcnd,hw1,t1]))))
  have:firstR s a=(-1,0):=by unfold firstR;rw[← hbs,fstL_short (by rw[← hbb];omega)]
  rw[this]
 have t1:decide ((s.size:Int)<((a+leadN b0:Nat):Int))=false:=by simp;omega
 have hk':=hk
 rw[hbb]at hk'
 have htl:=tail_len hk'
 rw[← hbb]at htl
 have hpf: ∀k,k≤(tailL bs).length→pf (baseN b0) ((tailL bs).take k)<268435456:=fun k hk=>by
  have h1:=pf_lt ((tailL bs).take k) (baseN b0)
  have h2:((tailL bs).take k).length≤3:=by rw[List.length_take];omega
  have h3:64 ^ ((tailL bs).take k).length≤64 ^ 3:=Nat.pow_le_pow_right (by omega) h2
  have h4:(baseN b0+1)*64 ^ ((tailL bs).take k).length≤257*64 ^ 3:=Nat.mul_le_mul (by omega) h3
  omega
 (repeat'(first|apply kA|apply kB|((first|refine kc (N:=65) ?_|refine kj (N:=65) kq0 ?_|apply kD|apply kE);simp +decide only[go_sem,hw1,t1])|(apply kG;(simp +decide only[go_sem,hw1,t1];rfl);all_goals(intro hcnd;try exact kz hcnd))|((first|apply kH|apply kI)<;>(intro hcnd;simp +decide only[go_sem,hcnd,hw1,t1]))))
 refine dw_rng0 (tailL bs) (fun k=>kn 65 [(0,dv (ls s)),(1,dv (li a)),(6,dv (li (pf (baseN b0) ((tailL bs).take k)))),(7,dv (li (leadN b0))),(8,dv (li ((k+1:Nat):Int)))] noMem) (by omega) (kL rfl (by simp +decide only[go_sem,List.take_zero,pf,List.foldl_nil]) (by simp[noMem])) ?_ ?_
 ·intro k b hb hkl hm htk _ _
  have u1:decide (((k+1:Nat):Int)<(leadN b0:Int))=true:=by simp;omega
  have hp:=hpf k (by omega)
  obtain⟨q,hq⟩: ∃q,q=pf (baseN b0) ((tailL bs).take k):=⟨_,rfl⟩
  have hps:pf (baseN b0) ((tailL bs).take (k+1))=q*64+b.toNat % 64:=by rw[htk,pf_snoc,hq]
  rw[← hq]at hp ⊢
  rw[hps]
  have hbt:=UInt8.toNat_lt b
  have u2:IntKind.i64.wrap ((q:Int)*64)=((q*64:Nat):Int):=by rw[wrap_i64 (by omega) (by omega)];omega
  have u3:IntKind.i64.wrap ((a:Int)+((k+1:Nat):Int))=((a+(k+1):Nat):Int):=by rw[wrap_i64 (by omega) (by omega)];rfl
  have u4:s.data.toList[a+(k+1)]? =some b:=by
   have:=tail_at hb
   rw[hbs,List.getElem?_drop]at this;exact this
  have u5:IntKind.i64.wrap ((b.toNat:Nat):Int)=((b.toNat:Nat):Int):=wrap64n (by omega)
  have u6:((b.toNat:Nat):Int).tmod 64=((b.toNat % 64:Nat):Int):=tmod_nat b.toNat 64
  have u7:IntKind.i64.wrap (((q*64:Nat):Int)+((b.toNat % 64:Nat):Int))=((q*64+b.toNat % 64:Nat):Int):=by rw[wrap_i64 (by omega) (by omega)];omega
  have u8:IntKind.i64.wrap (((k+1:Nat):Int)+1)=((k+1+1:Nat):Int):=by rw[wrap_i64 (by omega) (by omega)];rfl
  (repeat'(first|apply kA|apply kB|((first|refine kc (N:=65) ?_|refine kj (N:=65) kq0 ?_|apply kD|apply kE|apply kF);simp +decide only[go_sem,u1,u2,u3,u4,u5,u6,u7,u8,Int.toNat_natCast])|(apply kG;(simp +decide only[go_sem,u1,u2,u3,u4,u5,u6,u7,u8,Int.toNat_natCast];rfl);all_goals(intro hcnd;try exact kz hcnd))|((first|apply kH|apply kI)<;>(intro hcnd;simp +decide only[go_sem,hcnd,u1,u2,u3,u4,u5,u6,u7,u8,Int.toNat_natCast]))))
  exact kL rfl (by simp +decide only[go_sem]) (by simp[noMem])
 ·intro _
  have u1:decide ((((tailL bs).length+1:Nat):Int)<(leadN b0:Int))=false:=by simp;omega
  rw[List.take_length]
  have hp:=hpf (tailL bs).length (Nat.le_refl _)
  rw[List.take_length]at hp
  have hf:=fstL_eq hk'
  rw[← hbb]at hf
  obtain⟨p,hpq⟩: ∃p,p=pf (baseN b0) (tailL bs):=⟨_,rfl⟩
  rw[← hpq]at hf hp ⊢
  have hS:=scalar_D p
  by_cases hsc:scalN p
  rotate_left
  ·rw[decide_eq_false hsc]at hS
   rw[if_neg (fun h=>hsc h.1)]at hf
   (repeat'(first|apply kA|apply kB|((first|refine kc (N:=65) ?_|refine kj (N:=65) kq0 ?_|apply kD|apply kE|refine kx hS ?_|apply kF);simp +decide only[go_sem,u1])|(apply kG;(simp +decide only[go_sem,u1];rfl);all_goals(intro hcnd;try exact kz hcnd))|((first|apply kH|apply kI)<;>(intro hcnd;simp +decide only[go_sem,hcnd,u1]))))
   have:firstR s a=(-1,0):=by unfold firstR;rw[← hbs,hf]
   rw[this]
  rw[decide_eq_true hsc]at hS
  have hE:=encoded_D p hsc.1
  have hsl:(s.extract a (a+leadN b0)).data.toList=bs.take (leadN b0):=by
   rw[hbs]
   simp[ByteArray.data_extract,List.drop_take]
  have u2:(a≤a+leadN b0∧a+leadN b0≤s.size)=True:=eq_true ⟨by omega,by omega⟩
  have hext:encB p=s.extract a (a+leadN b0)↔(encN p).map UInt8.ofNat=bs.take (leadN b0):=by
   rw[← hsl]
   constructor
   ·intro h;rw[← h];simp[encB]
   ·intro h
    have:(encB p).data=(s.extract a (a+leadN b0)).data:=by
     apply Array.ext'
     rw[← h];simp[encB]
    cases h1:encB p;cases h2:s.extract a (a+leadN b0)
    rw[h1,h2]at this;simp at this;rw[this]
  by_cases he:encB p=s.extract a (a+leadN b0)
  ·have u3:(encB p==s.extract a (a+leadN b0))=true:=(bytes_eq _ _).2 he
   rw[if_pos ⟨hsc,hext.1 he⟩]at hf
   have:firstR s a=((p:Int),((leadN b0:Nat):Int)):=by unfold firstR;rw[← hbs,hf]
   rw[this]
   (repeat'(first|apply kA|apply kB|((first|refine kc (N:=65) ?_|refine kj (N:=65) kq0 ?_|apply kD|apply kE|refine kx hS ?_|refine kx hE ?_|apply kF);simp +decide only[go_sem,u1,hw1,u2,u3,Int.toNat_natCast,Int.natCast_nonneg])|(apply kG;(simp +decide only[go_sem,u1,hw1,u2,u3,Int.toNat_natCast,Int.natCast_nonneg];rfl);all_goals(intro hcnd;try exact kz hcnd))|((first|apply kH|apply kI)<;>(intro hcnd;simp +decide only[go_sem,hcnd,u1,hw1,u2,u3,Int.toNat_natCast,Int.natCast_nonneg]))))
  ·have u3:(encB p==s.extract a (a+leadN b0))=false:=bytes_ne he
   rw[if_neg (fun h=>he (hext.2 h.2))]at hf
   have:firstR s a=(-1,0):=by unfold firstR;rw[← hbs,hf]
   rw[this]
   (repeat'(first|apply kA|apply kB|((first|refine kc (N:=65) ?_|refine kj (N:=65) kq0 ?_|apply kD|apply kE|refine kx hS ?_|refine kx hE ?_|apply kF);simp +decide only[go_sem,u1,hw1,u2,u3,Int.toNat_natCast,Int.natCast_nonneg])|(apply kG;(simp +decide only[go_sem,u1,hw1,u2,u3,Int.toNat_natCast,Int.natCast_nonneg];rfl);all_goals(intro hcnd;try exact kz hcnd))|((first|apply kH|apply kI)<;>(intro hcnd;simp +decide only[go_sem,hcnd,u1,hw1,u2,u3,Int.toNat_natCast,Int.natCast_nonneg]))))
end Go.Proofs.YtehdkccjaeckhaaGreatDoor
namespace Go.Proofs.YtehdkccjaeckhaaGreatDoor
open Go.Lib
theorem fstL_width{bs:List UInt8}{p k:Nat}(h:fstL bs=some (p,k)):1≤k∧k≤bs.length∧p≤1114111:=by
 by_cases hl:leadN (bAt bs 0)≤bs.length
 ·rw[fstL_eq hl]at h
  split at h
  ·rename_i hs
   injection h with h;injection h with h1 h2
   subst h1;subst h2
   have:=tail_len hl
   exact⟨by omega,hl,hs.1.1⟩
  ·cases h
 ·rw[fstL_short (by omega)]at h;cases h
def ptsN:Nat→List UInt8→Option (List Nat)
 | 0,_=>some []
 | n+1,bs=>if bs= []then some []else match fstL bs with
  | none=>none
  | some (p,k)=>(ptsN n (bs.drop k)).map fun l=>p::l
theorem ptsN_fuel: ∀(n m:Nat) (bs:List UInt8),bs.length≤n→bs.length≤m→ptsN n bs=ptsN m bs
 | 0,m,bs,hn,_=>by
  have:bs= []:=List.eq_nil_of_length_eq_zero (by omega)
  subst this
  cases m<;>simp[ptsN]
 | n+1,0,bs,_,hm=>by
  have:bs= []:=List.eq_nil_of_length_eq_zero (by omega)
  subst this
  simp[ptsN]
 | n+1,m+1,bs,hn,hm=>by
  unfold ptsN
  split
  ·rfl
  ·split
   ·rfl
   ·rename_i p k hf
    have:=fstL_width hf
    rw[ptsN_fuel n m (bs.drop k) (by simp;omega) (by simp;omega)]
def ptsL(bs:List UInt8):Option (List Nat):=ptsN bs.length bs
theorem ptsL_nil:ptsL []=some []:=rfl
theorem ptsL_bad{bs:List UInt8}(h:bs≠ [])(hf:fstL bs=none):ptsL bs=none:=by
 have:0<bs.length:=List.length_pos_iff.2 h
 obtain⟨n,hn⟩: ∃n,bs.length=n+1:=⟨bs.length - 1,by omega⟩
 unfold ptsL
 rw[hn]
 simp[ptsN,h,hf]
theorem ptsL_step{bs:List UInt8}{p k:Nat}(hf:fstL bs=some (p,k)):ptsL bs=(ptsL (bs.drop k)).map fun l=>p::l:=by
 have hw:=fstL_width hf
 have h:bs≠ []:=fun e=>by subst e;simp at hw;omega
 obtain⟨n,hn⟩: ∃n,bs.length=n+1:=⟨bs.length - 1,by omega⟩
 unfold ptsL
 rw[hn]
 simp only[ptsN,h,if_false,hf]
 rw[ptsN_fuel n (bs.drop k).length (bs.drop k) (by simp;omega) (Nat.le_refl _)]
theorem okN_iff{d:Nat×Nat}:okN d=if d.1=65533∧d.2=1 then none else some d:=by
 unfold okN
 obtain⟨a,b⟩:=d
 simp
theorem ptsL_valid: ∀(n:Nat) (bs:List UInt8),bs.length≤n→(ptsL bs).isSome=validD bs
 | n,[],_=>rfl
 | 0,b::l,h=>by simp at h
 | n+1,b::l,h=>by
  have hne:(b::l)≠ []:=by simp
  have hd:=fstL_decode hne
  rw[okN_iff]at hd
  rw[validD_step _ hne]
  split
  ·rename_i hb
   rw[if_pos hb]at hd
   rw[ptsL_bad hne hd];rfl
  ·rename_i hb
   rw[if_neg hb]at hd
   have hw:=fstL_width (p:=(decodeL (b::l)).1) (k:=(decodeL (b::l)).2) hd
   rw[ptsL_step (p:=(decodeL (b::l)).1) (k:=(decodeL (b::l)).2) hd]
   rw[Option.isSome_map]
   exact ptsL_valid n _ (by simp at h ⊢;omega)
theorem pts_valid(bs:List UInt8):(ptsL bs).isSome=validD bs:=ptsL_valid bs.length bs (Nat.le_refl _)
def ctl(n:Nat):Bool:=decide (n<32)||n==127
theorem fst_ascii{b:UInt8}{l:List UInt8}(h:b.toNat<128):fstL (b::l)=some (b.toNat,1):=by
 rw[fstL_decode (by simp),decodeL_ascii b l h]
 exact okN_some (by omega)
theorem fst_wide{bs:List UInt8}{p k:Nat}(h:fstL bs=some (p,k))(hb:128≤bAt bs 0):128≤p∧∀x∈bs.take k,128≤x.toNat:=by
 by_cases hl:leadN (bAt bs 0)≤bs.length
 ·rw[fstL_eq hl]at h
  split at h
  ·rename_i hs
   injection h with h;injection h with h1 h2
   obtain⟨hs1,hs2⟩:=hs
   rw[h1]at hs1 hs2
   rw[h2]at hs2
   have hp:128≤p:=by
    rcases Nat.lt_or_ge p 128 with hlt|hge
    ·exfalso
     rw[encN,if_pos hlt]at hs2
     have h3:=(enc_bytes hs1.1 (tk:=bs.take k)).1 (by rw[encN,if_pos hlt];exact hs2)
     rw[encN,if_pos hlt]at h3
     have hw:1≤k∧k≤bs.length:=by have:=tail_len hl;omega
     cases hbs:bs with
     | nil=>rw[hbs]at hw;simp at hw;omega
     | cons a l=>
      rw[hbs]at h3 hb
      obtain⟨j,hj⟩: ∃j,k=j+1:=⟨k - 1,by omega⟩
      rw[hj]at h3
      simp[bAt]at h3 hb
      omega
    ·exact hge
   refine⟨hp,fun x hx=>?_⟩
   rw[← hs2]at hx
   obtain⟨y,hy,rfl⟩:=List.mem_map.1 hx
   have hlt:=enc_lt hs1.1 y hy
   have:128≤y:=by
    unfold encN at hy
    (repeat' split at hy)<;>simp at hy<;>omega
   simp;omega
  ·cases h
 ·rw[fstL_short (by omega)]at h;cases h
theorem ctl_pts: ∀(n:Nat) (bs:List UInt8) (l:List Nat),bs.length≤n→ptsL bs=some l→l.any ctl=bs.any fun b=>ctl b.toNat
 | n,[],l,_,h=>by rw[ptsL_nil]at h;injection h with h;subst h;rfl
 | 0,b::r,l,hn,_=>by simp at hn
 | n+1,b::r,l,hn,h=>by
  have hne:(b::r)≠ []:=by simp
  cases hf:fstL (b::r)with
  | none=>rw[ptsL_bad hne hf]at h;cases h
  | some d=>
   obtain⟨p,k⟩:=d
   have hw:=fstL_width hf
   rw[ptsL_step hf]at h
   cases hr:ptsL ((b::r).drop k)with
   | none=>rw[hr]at h;cases h
   | some q=>
    rw[hr]at h;injection h with h;subst h
    have ih:=ctl_pts n _ q (by simp at hn ⊢;omega) hr
    rw[List.any_cons,ih]
    conv=>rhs;rw[← List.take_append_drop k (b::r)]
    rw[List.any_append]
    congr 1
    by_cases hb:b.toNat<128
    ·rw[fst_ascii hb]at hf
     injection hf with hf;injection hf with h1 h2
     subst h1;subst h2;simp
    ·obtain⟨h1,h2⟩:=fst_wide hf (by simp[bAt];omega)
     have e1:ctl p=false:=by simp[ctl];omega
     rw[e1]
     symm
     rw[List.any_eq_false]
     intro x hx
     have:=h2 x hx
     simp[ctl];omega
end Go.Proofs.YtehdkccjaeckhaaGreatDoor
namespace Go.Proofs.YtehdkccjaeckhaaGreatDoor
open Go.Dl
attribute [local irreducible] DW DCalls ECalls wk IW
def nl(l:List Nat):List Int:=l.map fun p:Nat=>(p:Int)
theorem nl_snoc(l:List Nat)(p:Nat):ints (nl (l++ [p]))=ints (nl l)++ [[li (p:Int)]]:=by simp[nl]
def ptsR(s:ByteArray):List Int:=nl ((ptsL s.data.toList).getD [])
def okS(s:ByteArray):Bool:=Go.Lib.validD s.data.toList
theorem rPoints_D(s:ByteArray)(hs:s.size≤1048576):DCalls Tryz.prog 129 [dv (ls s)] (.tup [dv (.sl 1 (ints (ptsR s))),dv (lb (okS s))]):=by
 have hv:=pts_valid s.data.toList
 refine kd (N:=28) (rs:= [.tmp 2,.tmp 3]) Tryz.func129 ?_
 (repeat'(first|apply kA|apply kB|((first|refine kc (N:=28) ?_|apply kD|apply kE);simp +decide only[go_sem])|(apply kG;(simp +decide only[go_sem];rfl);all_goals(intro hcnd;try exact kz hcnd))))
 refine dw_own 4 4 1 (by simp +decide only[go_sem]) ?_
 refine dw_loop_fam (fun y:Nat×List Nat=>kn 28 [(0,dv (ls s)),(4,.one (.own 4 1 (ints (nl y.2)))),(5,dv (li y.1))] noMem)
  (fun y=>y.1≤s.size∧y.2.length≤y.1∧ptsL s.data.toList=(ptsL (s.data.toList.drop y.1)).map fun l=>y.2++l) (fun y=>s.size - y.1) (0,[]) (kL rfl (by simp +decide only[go_sem,nl,List.map_nil]) (by simp[noMem])) ⟨by omega,by simp,by simp⟩ ?_
 rintro⟨a,o⟩ ⟨h1,h2,h3⟩
 simp only at h1 h2 h3 ⊢
 by_cases ha:a<s.size
 ·have t1:decide ((a:Int)<(s.size:Int))=true:=by simp;omega
  have hF:=first_D s a ha hs
  have hne:s.data.toList.drop a≠ []:=by simp;omega
  cases hf:fstL (s.data.toList.drop a)with
  | none=>
   have e:firstR s a=(-1,0):=by unfold firstR;rw[hf]
   rw[e]at hF
   rw[ptsL_bad hne hf]at h3
   have hok:okS s=false:=by unfold okS;rw[← hv,h3];rfl
   have hpt:ptsR s= []:=by unfold ptsR;rw[h3];rfl
   (repeat'(first|apply kA|apply kB|((first|refine kc (N:=28) ?_|apply kD|apply kE|refine kx hF ?_);simp +decide only[go_sem,t1])|(apply kG;(simp +decide only[go_sem,t1];rfl);all_goals(intro hcnd;try exact kz hcnd))))
   refine dw_slot 2 (dv (.sl 1 [])) (by simp +decide only[go_sem]) ?_
   apply kF;simp +decide only[go_sem]
   rw[hpt,hok];rfl
  | some d=>
   obtain⟨p,k⟩:=d
   have hw:=fstL_width hf
   have e:firstR s a=((p:Int),(k:Int)):=by unfold firstR;rw[hf]
   rw[e]at hF
   rw[ptsL_step hf]at h3
   have t2:((k:Int)==0)=false:=by simp;omega
   have hk2:k≤s.size - a:=by have:=hw.2.1;simp at this;omega
   have u1:IntKind.i64.wrap ((a:Int)+(k:Int))=((a+k:Nat):Int):=by rw[wrap_i64 (by omega) (by omega)];rfl
   (repeat'(first|apply kA|apply kB|((first|refine kc (N:=28) ?_|apply kD|apply kE|refine kx hF ?_);simp +decide only[go_sem,t1,t2,u1])|(apply kG;(simp +decide only[go_sem,t1,t2,u1];rfl);all_goals(intro hcnd;try exact kz hcnd))))
   have hl:((nl o).length+1)*8≤140737488355328:=by simp[nl];omega
   refine⟨hl,?_⟩
   (repeat'(first|apply kA|apply kB|((first|refine kc (N:=28) ?_|apply kD|apply kE);simp +decide only[go_sem,u1])|(apply kG;(simp +decide only[go_sem,u1];rfl);all_goals(intro hcnd;try exact kz hcnd))))
   refine⟨(a+k,o++ [p]),⟨by simp only;omega,by simp;omega,?_⟩,by simp only;omega,kL rfl (by simp +decide only[go_sem,nl_snoc]) (by simp[noMem])⟩
   simp only
   rw[h3,List.drop_drop]
   cases ptsL (s.data.toList.drop (a+k))<;>simp
 ·have t1:decide ((a:Int)<(s.size:Int))=false:=by simp;omega
  (repeat'(first|apply kA|apply kB|((first|refine kc (N:=28) ?_|apply kD|apply kE);simp +decide only[go_sem,t1])|(apply kG;(simp +decide only[go_sem,t1];rfl);all_goals(intro hcnd;try exact kz hcnd))))
  refine dw_slot 2 (dv (.sl 1 (ints (nl o)))) (by simp +decide only[go_sem]) ?_
  apply kF;simp +decide only[go_sem]
  have hn:s.data.toList.drop a= []:=List.drop_eq_nil_of_le (by simp;omega)
  rw[hn,ptsL_nil]at h3
  simp at h3
  have hpt:ptsR s=nl o:=by unfold ptsR;rw[h3];rfl
  have hok:okS s=true:=by unfold okS;rw[← hv,h3];rfl
  rw[hpt,hok]
end Go.Proofs.YtehdkccjaeckhaaGreatDoor
namespace Go.Dl
open Go.RowKit
noncomputable section
theorem below_kok{w w':World}{K:KSet}(hk:KOk w K)(hb:Below w.heap.size w w'):KOk w' K:=
 hk.move (fun b o h=>hb.cell (p:=⟨b,o,none⟩) (lt_of_cell (hk b o h))) (hk.z.below hb)
theorem dcalls_below{P:Program}{f:FuncId}{ds:List D}{u:Value}(hp:Program.plainF P f=true)(hu:u.oneCell'=true)
  (h: ∀(w:World) (K:KSet) (vs:Array Value),KOk w K→vs.size=ds.length→(∀(j:Nat) d v,ds[j]? =some d→vs[j]? =some v→VD w (E0 K) d v)→Calls P f vs w fun e w'=>e= .returned u∧Below w.heap.size w w'):
  DCalls P f ds (.one (.c (.lit u))):=by
 refine⟨hp,fun w K vs hk hl hv=>(h w K vs hk hl hv).mono ?_⟩
 rintro e w' ⟨rfl,hb⟩
 have hns: ∀n b o,¬spare ((E0 K).val n) b o:=fun n b o ⟨a,len,cap,h1,_⟩=>by simp[E0]at h1
 exact⟨u,E0 K,rfl,⟨hb,fun _ _ h=>h,fun _ _ _ h=>h,below_kok hk hb,fun n b o hs=>absurd hs (hns n b o),fun n m b o hs=>absurd hs (hns n b o)⟩,.one _ _ (.c _ _ (.lit _ hu))⟩
theorem calls_lit{P:Program}{f:FuncId}{ds:List D}{u:Value}(hD:DCalls P f ds (.one (.c (.lit u)))){w:World}{K:KSet}{vs:Array Value}(hk:KOk w K)(hl:vs.size=ds.length)(hv: ∀(j:Nat) d v,ds[j]? =some d→vs[j]? =some v→VD w (E0 K) d v):
  Calls P f vs w fun e w'=>e= .returned u∧Below w.heap.size w w':=
 (hD.2 w K vs hk hl hv).mono fun e w' h=>by
  obtain⟨v,E',rfl,hext,hv⟩:=h
  rw[hv.lit]
  exact⟨rfl,hext.1⟩
def noGotoD(Q:Exit→DS→Prop):Exit→DS→Prop
 | .goto _,_=>False
 | e,s=>Q e s
theorem noGotoD_normal(Q:Exit→DS→Prop)(s:DS):noGotoD Q .normal s=Q .normal s:=rfl
theorem noGotoD_ret(Q:Exit→DS→Prop)(s:DS):noGotoD Q .ret s=Q .ret s:=rfl
theorem noGotoD_exit(Q:Exit→DS→Prop)(id:Nat)(s:DS):noGotoD Q (.exit id) s=Q (.exit id) s:=rfl
attribute [go_sem ↓] noGotoD_normal noGotoD_ret noGotoD_exit
theorem sub_ownX{s:DS}(t n sz:Nat){xs:List (List C)}(h:s.sl t= .one (.ex sz xs)):s.Sub ((s.close [n]).put (some t) (.one (.own n sz xs))):=by
 rintro X a w ⟨E,hE⟩
 have hv:=hE.sl t
 rw[h]at hv
 cases hv with
 | one _ _ hv=>cases hv with
  | ex _ _ _ hvc hx=>
   have hns: ∀b o,¬spare ((a.tmps.getD t undef,sz):Value×Nat) b o:=fun b o ⟨_,len,cap,h1,_,_,h2,h3⟩=>by
    obtain⟨A,m,hA⟩:=hx
    simp only at h1
    rw[hA]at h1
    injection h1 with _ h4 h5
    simp only at h2 h3
    rw[← h4]at h2;rw[← h5]at h3
    omega
   have h1:=hE.setVal n (a.tmps.getD t undef,sz) (fun b o hs=>absurd hs (hns b o))
   refine⟨_,⟨h1.wi,fun u=>?_,h1.size,h1.defers,h1.small,h1.pl⟩⟩
   simp only[DS.put]
   by_cases hu:u=t
   ·subst hu
    rw[if_pos rfl]
    exact .one _ _ (.own n sz xs _ hvc (by simp[Env.setVal]) hx.tame)
   ·rw[if_neg hu];exact h1.sl u
theorem dw_ownX{P:Program}{s:DS}{Q:Exit→DS→Prop}(t n sz:Nat){xs:List (List C)}{c:Code}(h:s.sl t= .one (.ex sz xs))(hc:DW P c ((s.close [n]).put (some t) (.one (.own n sz xs))) Q):DW P c s Q:=dw_weaken (sub_ownX t n sz h) hc
end
end Go.Dl
namespace Go.Proofs.YtehdkccjaeckhaaGreatDoor
open Go.Dl
attribute [local irreducible] DW DCalls ECalls wk IW
def cntF(s:ByteArray):Nat→Nat→Nat
 | 0,_=>0
 | n+1,p=>if p<s.size then cntF s n (p+(Utf8.decode s p).2)+1 else 0
def cnt(s:ByteArray):Nat:=cntF s s.size 0
def iRows(xs:List Int):Dl.Rows:=xs.map fun x=> [T.c (li x)]
theorem iRows_tr(r:Ren)(xs:List Int):Dl.Rows.tr r (iRows xs)=iRows xs:=by
 simp[iRows,Dl.Rows.tr,T.trAll,T.tr]
theorem iRows_sz(xs:List Int):RowsSz 1 (iRows xs):=fun r hr=>by
 simp only[iRows,List.mem_map]at hr;obtain⟨x,_,rfl⟩:=hr;rfl
theorem iRows_len(xs:List Int):(iRows xs).length=xs.length:=by simp[iRows]
theorem iRows_app(xs ys:List Int):iRows (xs++ys)=iRows xs++iRows ys:=by simp[iRows]
attribute [go_sem] iRows_tr
def idxF{α:Type}(q:α→Bool)(l:List α):Int:=if l.any q then((l.findIdx q:Nat):Int)else -1
theorem idxF_at{α:Type}{q:α→Bool}{l:List α}{k:Nat}{x:α}(hx:l[k]? =some x)(hi: ∀y∈l.take k,q y=false)(h:q x=true):idxF q l=(k:Int):=by
 have hk:=(List.getElem?_eq_some_iff.1 hx).1
 have hany:l.any q=true:=List.any_eq_true.2 ⟨x,List.mem_of_getElem? hx,h⟩
 have hf:l.findIdx q=k:=by
  rw[List.findIdx_eq hk]
  refine⟨by obtain⟨h1,h2⟩:=List.getElem?_eq_some_iff.1 hx;rw[h2];exact h,fun j hj=>?_⟩
  exact hi _ (List.mem_iff_getElem?.2 ⟨j,by rw[List.getElem?_take_of_lt hj];exact List.getElem?_eq_getElem (by omega)⟩)
 rw[idxF,if_pos hany,hf]
theorem idxF_no{α:Type}{q:α→Bool}{l:List α}(hi: ∀y∈l,q y=false):idxF q l= -1:=by
 rw[idxF,if_neg];simpa using hi
def ctlB(s:ByteArray):Bool:=s.data.toList.any fun b=>ctl b.toNat
theorem ctl_tests(n:Nat):(decide (((n:Nat):Int)<32)||(((n:Nat):Int)==127))=ctl n:=by
 rw[Bool.eq_iff_iff];simp[ctl];omega
def labelB(s:ByteArray):Bool:= !(s.size==0)&&(!decide ((32:Int)<(s.size:Int))&&(!ctlB s&&okS s))
theorem sz_list(s:ByteArray):s.data.toList.length=s.size:=by simp
theorem any_take_no{α:Type}{q:α→Bool}{l:List α}(h: ∀x∈l.take l.length,q x=false):l.any q=false:=by
 rw[List.take_length]at h;rw[List.any_eq_false];intro x hx;rw[h x hx];decide
theorem any_at{α:Type}{q:α→Bool}{l:List α}{k:Nat}{x:α}(hx:l[k]? =some x)(h:q x=true):l.any q=true:=List.any_eq_true.2 ⟨x,List.mem_of_getElem? hx,h⟩
theorem pts_len: ∀(n:Nat) (bs:List UInt8) (l:List Nat),bs.length≤n→ptsL bs=some l→l.length≤bs.length
 | n,[],l,_,h=>by rw[ptsL_nil]at h;injection h with h;subst h;simp
 | 0,b::r,l,hn,_=>by simp at hn
 | n+1,b::r,l,hn,h=>by
  cases hf:fstL (b::r)with
  | none=>rw[ptsL_bad (by simp) hf]at h;cases h
  | some d=>
   obtain⟨p,k⟩:=d
   have hw:=fstL_width hf
   rw[ptsL_step hf]at h
   cases hr:ptsL ((b::r).drop k)with
   | none=>rw[hr]at h;cases h
   | some q=>
    rw[hr]at h;injection h with h;subst h
    have ih:=pts_len n _ q (by simp at hn ⊢;omega) hr
    simp at ih hw ⊢;omega
theorem rLabel_D(s:ByteArray)(hs:s.size≤1048576):DCalls Tryz.prog 96 [dv (ls s)] (dv (lb (labelB s))):=by
 have hmax:maxLen=9223372036854775807:=rfl
 have hsz:=sz_list s
 have hP:=rPoints_D s hs
 refine kd (N:=38) (rs:= [.tmp 2]) Tryz.func96 ?_
 (repeat'(first|apply kA|apply kB|((first|refine kc (N:=38) ?_|apply kD|apply kE);simp +decide only[go_sem])|(apply kG;(simp +decide only[go_sem];rfl);all_goals(intro hcnd;try exact kz hcnd))|((first|apply kH|apply kI)<;>(intro hcnd;simp +decide only[go_sem,hcnd]))))
 refine dw_rngI s.data.toList (fun k=>kn 38 [(0,dv (ls s)),(3,dv (li k))] noMem) (fun k=>∀e∈s.data.toList.take k,ctl e.toNat=false) (by omega) (kL rfl (by simp +decide only[go_sem]) (by simp[noMem])) (by simp) ?_ ?_
 ·intro k e he hk hm htk hlt hw hi
  rw[hsz]at hlt
  have ht:=ctl_tests e.toNat
  rcases Bool.eq_false_or_eq_true (decide (((e.toNat:Nat):Int)<32))with t1|t1
  ·have hc:ctl e.toNat=true:=by rw[← ht,t1];rfl
   have hB:ctlB s=true:=any_at he hc
   (repeat'(first|apply kA|apply kB|((first|refine kc (N:=38) ?_|apply kD|apply kE|apply kF);simp +decide only[go_sem,hlt,hw,he,t1,Int.toNat_natCast])|(apply kG;(simp +decide only[go_sem,hlt,hw,he,t1,Int.toNat_natCast];rfl);all_goals(intro hcnd;try exact kz hcnd))|((first|apply kH|apply kI)<;>(intro hcnd;simp +decide only[go_sem,hcnd,hlt,hw,he,t1,Int.toNat_natCast]))))
   simp[labelB,hB]
  ·rcases Bool.eq_false_or_eq_true (((e.toNat:Nat):Int)==127)with t2|t2
   ·have hc:ctl e.toNat=true:=by rw[← ht,t1,t2];rfl
    have hB:ctlB s=true:=any_at he hc
    (repeat'(first|apply kA|apply kB|((first|refine kc (N:=38) ?_|apply kD|apply kE|apply kF);simp +decide only[go_sem,hlt,hw,he,t1,t2,Int.toNat_natCast])|(apply kG;(simp +decide only[go_sem,hlt,hw,he,t1,t2,Int.toNat_natCast];rfl);all_goals(intro hcnd;try exact kz hcnd))|((first|apply kH|apply kI)<;>(intro hcnd;simp +decide only[go_sem,hcnd,hlt,hw,he,t1,t2,Int.toNat_natCast]))))
    simp[labelB,hB]
   ·have hc:ctl e.toNat=false:=by rw[← ht,t1,t2];rfl
    (repeat'(first|apply kA|apply kB|((first|refine kc (N:=38) ?_|apply kD|apply kE|apply kF);simp +decide only[go_sem,hlt,hw,he,t1,t2,Int.toNat_natCast])|(apply kG;(simp +decide only[go_sem,hlt,hw,he,t1,t2,Int.toNat_natCast];rfl);all_goals(intro hcnd;try exact kz hcnd))|((first|apply kH|apply kI)<;>(intro hcnd;simp +decide only[go_sem,hcnd,hlt,hw,he,t1,t2,Int.toNat_natCast]))))
    exact⟨forall_snoc htk hi hc,kL rfl (by simp +decide only[go_sem]) (by simp[noMem])⟩
 ·intro hlt hi
  rw[hsz]at hlt ⊢
  have hB:ctlB s=false:=any_take_no hi
  cases hok:okS s
  ·rw[hok]at hP
   (repeat'(first|apply kA|apply kB|((first|refine kc (N:=38) ?_|apply kD|apply kE|refine kx hP ?_|apply kF);simp +decide only[go_sem,hlt])|(apply kG;(simp +decide only[go_sem,hlt];rfl);all_goals(intro hcnd;try exact kz hcnd))|((first|apply kH|apply kI)<;>(intro hcnd;simp +decide only[go_sem,hcnd,hlt]))))
   simp[labelB,hok]
  ·rw[hok]at hP
   rcases Bool.eq_false_or_eq_true (decide ((1:Int)≤(s.size:Int)))with t1|t1
   ·rcases Bool.eq_false_or_eq_true (decide ((s.size:Int)≤32))with t2|t2
    ·(repeat'(first|apply kA|apply kB|((first|refine kc (N:=38) ?_|apply kD|apply kE|refine kx hP ?_|apply kF);simp +decide only[go_sem,hlt,t1,t2])|(apply kG;(simp +decide only[go_sem,hlt,t1,t2];rfl);all_goals(intro hcnd;try exact kz hcnd))|((first|apply kH|apply kI)<;>(intro hcnd;simp +decide only[go_sem,hcnd,hlt,t1,t2]))))
     have e0:(s.size==0)=false:=beq_eq_false_iff_ne.2 (by have:=of_decide_eq_true t1;omega)
     have e1:decide ((32:Int)<(s.size:Int))=false:=by simp at t2 ⊢;omega
     simp only[labelB,hok,hB,e0,e1];rfl
    ·(repeat'(first|apply kA|apply kB|((first|refine kc (N:=38) ?_|apply kD|apply kE|refine kx hP ?_|apply kF);simp +decide only[go_sem,hlt,t1,t2])|(apply kG;(simp +decide only[go_sem,hlt,t1,t2];rfl);all_goals(intro hcnd;try exact kz hcnd))|((first|apply kH|apply kI)<;>(intro hcnd;simp +decide only[go_sem,hcnd,hlt,t1,t2]))))
     have e1:decide ((32:Int)<(s.size:Int))=true:=by simp at t2 ⊢;omega
     simp only[labelB,hok,hB,e1];simp
   ·(repeat'(first|apply kA|apply kB|((first|refine kc (N:=38) ?_|apply kD|apply kE|refine kx hP ?_|apply kF);simp +decide only[go_sem,hlt,t1])|(apply kG;(simp +decide only[go_sem,hlt,t1];rfl);all_goals(intro hcnd;try exact kz hcnd))|((first|apply kH|apply kI)<;>(intro hcnd;simp +decide only[go_sem,hcnd,hlt,t1]))))
    have e0:(s.size==0)=true:=beq_iff_eq.2 (by have:=of_decide_eq_false t1;omega)
    simp only[labelB,hok,hB,e0];rfl
def spB(s:ByteArray):Bool:=s.data.toList.any fun b=>((b.toNat:Nat):Int)==32||((b.toNat:Nat):Int)==45
def glossB(s:ByteArray):Bool:=labelB s&& !spB s
theorem rGloss_D(s:ByteArray)(hs:s.size≤1048576):DCalls Tryz.prog 172 [dv (ls s)] (dv (lb (glossB s))):=by
 have hmax:maxLen=9223372036854775807:=rfl
 have hsz:=sz_list s
 refine kd (N:=22) (rs:= [.tmp 2]) Tryz.func172 ?_
 (repeat'(first|apply kA|apply kB|((first|refine kc (N:=22) ?_|apply kD|apply kE);simp +decide only[go_sem])|(apply kG;(simp +decide only[go_sem];rfl);all_goals(intro hcnd;try exact kz hcnd))|((first|apply kH|apply kI)<;>(intro hcnd;simp +decide only[go_sem,hcnd]))))
 refine dw_rngI s.data.toList (fun k=>kn 22 [(0,dv (ls s)),(3,dv (li k))] noMem) (fun k=>∀e∈s.data.toList.take k,(((e.toNat:Nat):Int)==32||((e.toNat:Nat):Int)==45)=false) (by omega) (kL rfl (by simp +decide only[go_sem]) (by simp[noMem])) (by simp) ?_ ?_
 ·intro k e he hk hm htk hlt hw hi
  rw[hsz]at hlt
  rcases Bool.eq_false_or_eq_true (((e.toNat:Nat):Int)==32)with t1|t1
  ·have hB:spB s=true:=any_at he (by rw[t1];rfl)
   (repeat'(first|apply kA|apply kB|((first|refine kc (N:=22) ?_|apply kD|apply kE|apply kF);simp +decide only[go_sem,hlt,hw,he,t1,Int.toNat_natCast])|(apply kG;(simp +decide only[go_sem,hlt,hw,he,t1,Int.toNat_natCast];rfl);all_goals(intro hcnd;try exact kz hcnd))|((first|apply kH|apply kI)<;>(intro hcnd;simp +decide only[go_sem,hcnd,hlt,hw,he,t1,Int.toNat_natCast]))))
   simp[glossB,hB]
  ·rcases Bool.eq_false_or_eq_true (((e.toNat:Nat):Int)==45)with t2|t2
   ·have hB:spB s=true:=any_at he (by rw[t1,t2];rfl)
    (repeat'(first|apply kA|apply kB|((first|refine kc (N:=22) ?_|apply kD|apply kE|apply kF);simp +decide only[go_sem,hlt,hw,he,t1,t2,Int.toNat_natCast])|(apply kG;(simp +decide only[go_sem,hlt,hw,he,t1,t2,Int.toNat_natCast];rfl);all_goals(intro hcnd;try exact kz hcnd))|((first|apply kH|apply kI)<;>(intro hcnd;simp +decide only[go_sem,hcnd,hlt,hw,he,t1,t2,Int.toNat_natCast]))))
    simp[glossB,hB]
   ·(repeat'(first|apply kA|apply kB|((first|refine kc (N:=22) ?_|apply kD|apply kE|apply kF);simp +decide only[go_sem,hlt,hw,he,t1,t2,Int.toNat_natCast])|(apply kG;(simp +decide only[go_sem,hlt,hw,he,t1,t2,Int.toNat_natCast];rfl);all_goals(intro hcnd;try exact kz hcnd))|((first|apply kH|apply kI)<;>(intro hcnd;simp +decide only[go_sem,hcnd,hlt,hw,he,t1,t2,Int.toNat_natCast]))))
    exact⟨forall_snoc htk hi (by rw[t1,t2];rfl),kL rfl (by simp +decide only[go_sem]) (by simp[noMem])⟩
 ·intro hlt hi
  rw[hsz]at hlt ⊢
  have hB:spB s=false:=any_take_no hi
  (repeat'(first|apply kA|apply kB|((first|refine kc (N:=22) ?_|apply kD|apply kE|refine kx (rLabel_D s hs) ?_|apply kF);simp +decide only[go_sem,hlt])|(apply kG;(simp +decide only[go_sem,hlt];rfl);all_goals(intro hcnd;try exact kz hcnd))|((first|apply kH|apply kI)<;>(intro hcnd;simp +decide only[go_sem,hcnd,hlt]))))
  simp[glossB,hB]
def textE(s:ByteArray):Int:=if(200:Int)<(s.size:Int)then 5 else if okS s=false then 3 else if ctlB s=true then 3 else 0
theorem rText_D(s:ByteArray):DCalls Tryz.prog 173 [dv (ls s)] (dv (li (textE s))):=by
 have hmax:maxLen=9223372036854775807:=rfl
 refine kd (N:=34) (rs:= [.tmp 2]) Tryz.func173 ?_
 cases h1:decide ((200:Int)<(s.size:Int))
 rotate_left
 ·(repeat'(first|apply kA|apply kB|((first|refine kc (N:=34) ?_|apply kD|apply kE|apply kF);simp +decide only[go_sem,h1])|(apply kG;(simp +decide only[go_sem,h1];rfl);all_goals(intro hcnd;try exact kz hcnd))|((first|apply kH|apply kI)<;>(intro hcnd;simp +decide only[go_sem,hcnd,h1]))))
  simp only[decide_eq_true_eq]at h1
  simp[textE,h1]
 have hs:s.size≤200:=by simp at h1;omega
 have hn: ¬(200:Int)<(s.size:Int):=by omega
 have hP:=rPoints_D s (by omega)
 cases hok:okS s
 ·rw[hok]at hP
  (repeat'(first|apply kA|apply kB|((first|refine kc (N:=34) ?_|apply kD|apply kE|refine kx hP ?_|apply kF);simp +decide only[go_sem,h1])|(apply kG;(simp +decide only[go_sem,h1];rfl);all_goals(intro hcnd;try exact kz hcnd))|((first|apply kH|apply kI)<;>(intro hcnd;simp +decide only[go_sem,hcnd,h1]))))
  simp[textE,hn,hok]
 rw[hok]at hP
 obtain⟨l,hl⟩: ∃l,ptsL s.data.toList=some l:=by
  have:=pts_valid s.data.toList
  unfold okS at hok
  rw[hok]at this
  exact Option.isSome_iff_exists.1 this
 have hB:ctlB s=l.any ctl:=(ctl_pts _ _ l (Nat.le_refl _) hl).symm
 have hpl:ptsR s=nl l:=by unfold ptsR;rw[hl];rfl
 rw[hpl]at hP
 have hll:l.length≤1000000:=by
  have:=pts_len _ _ l (Nat.le_refl _) hl
  simp at this;omega
 have hnl:(ints (nl l)).length=l.length:=by simp[nl]
 (repeat'(first|apply kA|apply kB|((first|refine kc (N:=34) ?_|apply kD|apply kE|refine kx hP ?_);simp +decide only[go_sem,h1])|(apply kG;(simp +decide only[go_sem,h1];rfl);all_goals(intro hcnd;try exact kz hcnd))|((first|apply kH|apply kI)<;>(intro hcnd;simp +decide only[go_sem,hcnd,h1]))))
 refine dw_rngI l (fun k=>kn 34 [(3,dv (.sl 1 (ints (nl l)))),(5,dv (li k))] noMem) (fun k=>∀e∈l.take k,ctl e=false) (by omega) (kL rfl (by simp +decide only[go_sem]) (by simp[noMem])) (by simp) ?_ ?_
 ·intro k e he hk hm htk hlt hw hi
  have ht:=ctl_tests e
  have hx:(ints (nl l))[k]? =some [li (e:Int)]:=by simp[nl,he]
  rcases Bool.eq_false_or_eq_true (decide (((e:Nat):Int)<32))with t1|t1
  ·have hc:ctl e=true:=by rw[← ht,t1];rfl
   have hB':ctlB s=true:=by rw[hB];exact any_at he hc
   (repeat'(first|apply kA|apply kB|((first|refine kc (N:=34) ?_|apply kD|apply kE|apply kF);simp +decide only[go_sem,hnl,hlt,hw,hx,t1])|(apply kG;(simp +decide only[go_sem,hnl,hlt,hw,hx,t1];rfl);all_goals(intro hcnd;try exact kz hcnd))|((first|apply kH|apply kI)<;>(intro hcnd;simp +decide only[go_sem,hcnd,hnl,hlt,hw,hx,t1]))))
   simp[textE,hn,hok,hB']
  ·rcases Bool.eq_false_or_eq_true (((e:Nat):Int)==127)with t2|t2
   ·have hc:ctl e=true:=by rw[← ht,t1,t2];rfl
    have hB':ctlB s=true:=by rw[hB];exact any_at he hc
    (repeat'(first|apply kA|apply kB|((first|refine kc (N:=34) ?_|apply kD|apply kE|apply kF);simp +decide only[go_sem,hnl,hlt,hw,hx,t1,t2])|(apply kG;(simp +decide only[go_sem,hnl,hlt,hw,hx,t1,t2];rfl);all_goals(intro hcnd;try exact kz hcnd))|((first|apply kH|apply kI)<;>(intro hcnd;simp +decide only[go_sem,hcnd,hnl,hlt,hw,hx,t1,t2]))))
    simp[textE,hn,hok,hB']
   ·have hc:ctl e=false:=by rw[← ht,t1,t2];rfl
    (repeat'(first|apply kA|apply kB|((first|refine kc (N:=34) ?_|apply kD|apply kE|apply kF);simp +decide only[go_sem,hnl,hlt,hw,hx,t1,t2])|(apply kG;(simp +decide only[go_sem,hnl,hlt,hw,hx,t1,t2];rfl);all_goals(intro hcnd;try exact kz hcnd))|((first|apply kH|apply kI)<;>(intro hcnd;simp +decide only[go_sem,hcnd,hnl,hlt,hw,hx,t1,t2]))))
    exact⟨forall_snoc htk hi hc,kL rfl (by simp +decide only[go_sem]) (by simp[noMem])⟩
 ·intro hlt hi
  have hB':ctlB s=false:=by rw[hB];exact any_take_no hi
  (repeat'(first|apply kA|apply kB|((first|refine kc (N:=34) ?_|apply kD|apply kE|apply kF);simp +decide only[go_sem,hnl,hlt])|(apply kG;(simp +decide only[go_sem,hnl,hlt];rfl);all_goals(intro hcnd;try exact kz hcnd))|((first|apply kH|apply kI)<;>(intro hcnd;simp +decide only[go_sem,hcnd,hnl,hlt]))))
  simp[textE,hn,hok,hB']
end Go.Proofs.YtehdkccjaeckhaaGreatDoor
namespace Go.Proofs.YtehdkccjaeckhaaGreatDoor
abbrev kpn1:List (Nat×Go.Dl.Mode):= [(0,.light),(1,.light),(2,.light),(3,.light),(4,.light),(5,.step),(6,.light)]
abbrev kpn2:List (Nat×Go.Dl.Mode):= [(0,.light),(1,.light),(2,.light),(3,.light),(4,.light),(5,.light),(6,.light),(7,.light),(8,.light),(9,.light),(10,.light),(11,.light),(12,.light)]
abbrev kq1:Nat→List (Nat×Go.Dl.Mode):=fun n=>match n with|8=>kpn1|_=> []
abbrev kq2:Nat→List (Nat×Go.Dl.Mode):=fun n=>match n with|11=>kpn2|_=> []
end Go.Proofs.YtehdkccjaeckhaaGreatDoor
namespace Go.Proofs.YtehdkccjaeckhaaGreatDoor
open Go.Dl
attribute [local irreducible] DW DCalls ECalls wk IW
def wordE(g:List Phon)(xs:List Int):Int:=if xs.length=0 then 4 else if 24<xs.length then 5 else if xs.any (fun n=> !segOk g n)then 19 else 0
theorem rWord_D(g:List Phon)(xs:List Int):DCalls Tryz.prog 153 [.agg (invRow g),dv (.sl 1 (ints xs))] (dv (li (wordE g xs))):=by
 have hmax:maxLen=9223372036854775807:=rfl
 refine kd (N:=25) (rs:= [.tmp 4]) Tryz.func153 ?_
 rcases Bool.eq_false_or_eq_true ((xs.length:Int)==0)with t1|t1
 ·have n1:xs.length=0:=by have:=beq_iff_eq.1 t1;omega
  (repeat'(first|apply kA|apply kB|((first|refine kc (N:=25) ?_|refine kj (N:=25) kq1 ?_|apply kD|apply kE|apply kF);simp +decide only[go_sem,invRow,t1])|(apply kG;(simp +decide only[go_sem,invRow,t1];rfl);all_goals(intro hcnd;try exact kz hcnd))))
  rw[wordE,if_pos n1]
 have n1: ¬xs.length=0:=by have:=beq_eq_false_iff_ne.1 t1;omega
 rcases Bool.eq_false_or_eq_true (decide ((24:Int)<(xs.length:Int)))with t2|t2
 ·have n2:24<xs.length:=by have:=of_decide_eq_true t2;omega
  (repeat'(first|apply kA|apply kB|((first|refine kc (N:=25) ?_|refine kj (N:=25) kq1 ?_|apply kD|apply kE|apply kF);simp +decide only[go_sem,invRow,t1,t2])|(apply kG;(simp +decide only[go_sem,invRow,t1,t2];rfl);all_goals(intro hcnd;try exact kz hcnd))))
  rw[wordE,if_neg n1,if_pos n2]
 have n2: ¬24<xs.length:=by have:=of_decide_eq_false t2;omega
 (repeat'(first|apply kA|apply kB|((first|refine kc (N:=25) ?_|refine kj (N:=25) kq1 ?_|apply kD|apply kE);simp +decide only[go_sem,invRow,t1,t2])|(apply kG;(simp +decide only[go_sem,invRow,t1,t2];rfl);all_goals(intro hcnd;try exact kz hcnd))))
 refine dw_rngI xs (fun k=>kn 25 [(1,dv (.sl 1 (ints xs))),(2,.one (.bx 2 1 0 0)),(13,dv (li xs.length)),(14,dv (li k))] (ml [(2,[invRow g])])) (fun k=>∀e∈xs.take k,(!segOk g e)=false) (by omega) (kM rfl (by simp +decide only[go_sem]) (by simp +decide only[go_sem,invRow])) (by simp) ?_ ?_
 ·intro k e he hk hm htk hlt hw hi
  have hc:=rIs_D g e
  have ha:=ints_at he
  simp only[invRow]at hc
  cases t3:segOk g e
  ·rw[t3]at hc
   have hB:(xs.any fun n=> !segOk g n)=true:=any_at he (by rw[t3];rfl)
   (repeat'(first|apply kA|apply kB|((first|refine kc (N:=25) ?_|refine kj (N:=25) kq1 ?_|apply kD|apply kE|refine kx hc ?_|apply kF);simp +decide only[go_sem,hlt,hw,ha,invRow])|(apply kG;(simp +decide only[go_sem,hlt,hw,ha,invRow];rfl);all_goals(intro hcnd;try exact kz hcnd))))
   rw[wordE,if_neg n1,if_neg n2,hB];rfl
  ·rw[t3]at hc
   (repeat'(first|apply kA|apply kB|((first|refine kc (N:=25) ?_|refine kj (N:=25) kq1 ?_|apply kD|apply kE|refine kx hc ?_|apply kF);simp +decide only[go_sem,hlt,hw,ha,invRow])|(apply kG;(simp +decide only[go_sem,hlt,hw,ha,invRow];rfl);all_goals(intro hcnd;try exact kz hcnd))))
   exact⟨forall_snoc htk hi (by rw[t3];rfl),kM rfl (by simp +decide only[go_sem]) (by simp +decide only[go_sem,invRow])⟩
 ·intro hlt hi
  have hB:(xs.any fun n=> !segOk g n)=false:=any_take_no hi
  (repeat'(first|apply kA|apply kB|((first|refine kc (N:=25) ?_|refine kj (N:=25) kq1 ?_|apply kD|apply kE|apply kF);simp +decide only[go_sem,hlt])|(apply kG;(simp +decide only[go_sem,hlt];rfl);all_goals(intro hcnd;try exact kz hcnd))))
  rw[wordE,if_neg n1,if_neg n2,hB];rfl
def chkI(seen:List ByteArray):List Phon→Int
 | []=>0
 | p::l=>if labelB p.name=false then 7 else if seen.any (fun s=>s==p.name)then 8 else if p.feat<0∨65536≤p.feat then 2 else chkI (seen++ [p.name]) l
def checkI(g:List Phon):Int:=if 60<g.length then 11 else chkI [] g
theorem drop_at{α:Type}{l:List α}{k:Nat}{x:α}(h:l[k]? =some x):l.drop k=x::l.drop (k+1):=by
 obtain⟨hk,e⟩:=List.getElem?_eq_some_iff.1 h
 rw[List.drop_eq_getElem_cons hk,e]
theorem rCheckI_D(g:List Phon)(hg: ∀p∈g,p.name.size≤1048576):DCalls Tryz.prog 63 [.agg (invRow g)] (dv (li (checkI g))):=by
 have hmax:maxLen=9223372036854775807:=rfl
 refine kd (N:=58) (rs:= [.tmp 2]) Tryz.func63 ?_
 rcases Bool.eq_false_or_eq_true (decide ((60:Int)<(g.length:Int)))with t1|t1
 ·have n1:60<g.length:=by have:=of_decide_eq_true t1;omega
  (repeat'(first|apply kA|apply kB|((first|refine kc (N:=58) ?_|refine kj (N:=58) kq2 ?_|apply kD|apply kE|apply kF);simp +decide only[go_sem,invRow,t1])|(apply kG;(simp +decide only[go_sem,invRow,t1];rfl);all_goals(intro hcnd;try exact kz hcnd))|((first|apply kH|apply kI)<;>(intro hcnd;simp +decide only[go_sem,hcnd,invRow,t1]))))
  rw[checkI,if_pos n1]
 have n1: ¬60<g.length:=by have:=of_decide_eq_false t1;omega
 (repeat'(first|apply kA|apply kB|((first|refine kc (N:=58) ?_|refine kj (N:=58) kq2 ?_|apply kD|apply kE);simp +decide only[go_sem,invRow,t1])|(apply kG;(simp +decide only[go_sem,invRow,t1];rfl);all_goals(intro hcnd;try exact kz hcnd))|((first|apply kH|apply kI)<;>(intro hcnd;simp +decide only[go_sem,hcnd,invRow,t1]))))
 refine dw_rngI g (fun k=>kn 58 [(1,.one (.bx 1 1 0 0)),(11,dv (li g.length)),(12,dv (li k))] (ml [(1,[invRow g])])) (fun k=>chkI ((g.take k).map (·.name)) (g.drop k)=checkI g) (by omega) (kM rfl (by simp +decide only[go_sem]) (by simp +decide only[go_sem,invRow])) (by simp[checkI,n1]) ?_ ?_
 ·intro k p hp hk hm htk hlt hw hi
  rw[drop_at hp,chkI]at hi
  have hL:=rLabel_D p.name (hg p hm)
  cases t2:labelB p.name
  ·rw[t2]at hL hi
   have hi':checkI g=7:=by rw[← hi];rfl
   (repeat'(first|apply kA|apply kB|((first|refine kc (N:=58) ?_|refine kj (N:=58) kq2 ?_|apply kD|apply kE|refine kx hL ?_|apply kF);simp +decide only[go_sem,hlt,hw,hp,invRow,Phon.enc])|(apply kG;(simp +decide only[go_sem,hlt,hw,hp,invRow,Phon.enc];rfl);all_goals(intro hcnd;try exact kz hcnd))|((first|apply kH|apply kI)<;>(intro hcnd;simp +decide only[go_sem,hcnd,hlt,hw,hp,invRow,Phon.enc]))))
   rw[hi']
  rw[t2]at hL hi
  have hkl:(g.take k).length=k:=by rw[List.length_take];omega
  (repeat'(first|apply kA|apply kB|((first|refine kc (N:=58) ?_|refine kj (N:=58) kq2 ?_|apply kD|apply kE|refine kx hL ?_);simp +decide only[go_sem,hlt,hw,hp,invRow,Phon.enc])|(apply kG;(simp +decide only[go_sem,hlt,hw,hp,invRow,Phon.enc];rfl);all_goals(intro hcnd;try exact kz hcnd))|((first|apply kH|apply kI)<;>(intro hcnd;simp +decide only[go_sem,hcnd,hlt,hw,hp,invRow,Phon.enc]))))
  refine dw_rngI (g.take k) (fun j=>kn 58 [(1,.one (.bx 1 1 0 0)),(3,dv (li k)),(4,dv (li j)),(11,dv (li g.length)),(12,dv (li k))] (ml [(1,[invRow g])])) (fun j=>∀e∈(g.take k).take j,(e.name==p.name)=false) (by omega) (kM rfl (by simp +decide only[go_sem]) (by simp +decide only[go_sem,invRow])) (by simp) ?_ ?_
  ·intro j q hq hjk hjm hjt hjlt hjw hji
   rw[hkl]at hjlt hjk
   have hgq:g[j]? =some q:=by rw[List.getElem?_take,if_pos hjk]at hq;exact hq
   cases t3:(q.name==p.name)
   ·(repeat'(first|apply kA|apply kB|((first|refine kc (N:=58) ?_|refine kj (N:=58) kq2 ?_|apply kD|apply kE|apply kF);simp +decide only[go_sem,hjlt,hjw,hp,hgq,t3,invRow,Phon.enc])|(apply kG;(simp +decide only[go_sem,hjlt,hjw,hp,hgq,t3,invRow,Phon.enc];rfl);all_goals(intro hcnd;try exact kz hcnd))|((first|apply kH|apply kI)<;>(intro hcnd;simp +decide only[go_sem,hcnd,hjlt,hjw,hp,hgq,t3,invRow,Phon.enc]))))
    exact⟨forall_snoc hjt hji t3,kM rfl (by simp +decide only[go_sem]) (by simp +decide only[go_sem,invRow])⟩
   ·have hs:(((g.take k).map (·.name)).any fun s=>s==p.name)=true:=by rw[List.any_map];exact any_at hq t3
    have hi':checkI g=8:=by rw[← hi,hs];rfl
    (repeat'(first|apply kA|apply kB|((first|refine kc (N:=58) ?_|refine kj (N:=58) kq2 ?_|apply kD|apply kE|apply kF);simp +decide only[go_sem,hjlt,hjw,hp,hgq,t3,invRow,Phon.enc])|(apply kG;(simp +decide only[go_sem,hjlt,hjw,hp,hgq,t3,invRow,Phon.enc];rfl);all_goals(intro hcnd;try exact kz hcnd))|((first|apply kH|apply kI)<;>(intro hcnd;simp +decide only[go_sem,hcnd,hjlt,hjw,hp,hgq,t3,invRow,Phon.enc]))))
    rw[hi']
  ·intro hjlt hji
   rw[hkl]at hjlt ⊢
   have hs:(((g.take k).map (·.name)).any fun s=>s==p.name)=false:=by rw[List.any_map];exact any_take_no hji
   rw[hs]at hi
   rcases Bool.eq_false_or_eq_true (decide (p.feat<0))with t4|t4
   ·have hi':checkI g=2:=by rw[← hi];simp at t4;simp[t4]
    (repeat'(first|apply kA|apply kB|((first|refine kc (N:=58) ?_|refine kj (N:=58) kq2 ?_|apply kD|apply kE|apply kF);simp +decide only[go_sem,hjlt,hp,t4,invRow,Phon.enc])|(apply kG;(simp +decide only[go_sem,hjlt,hp,t4,invRow,Phon.enc];rfl);all_goals(intro hcnd;try exact kz hcnd))|((first|apply kH|apply kI)<;>(intro hcnd;simp +decide only[go_sem,hcnd,hjlt,hp,t4,invRow,Phon.enc]))))
    rw[hi']
   rcases Bool.eq_false_or_eq_true (decide ((65536:Int)≤p.feat))with t5|t5
   ·have hi':checkI g=2:=by rw[← hi];simp at t5;simp[t5]
    (repeat'(first|apply kA|apply kB|((first|refine kc (N:=58) ?_|refine kj (N:=58) kq2 ?_|apply kD|apply kE|apply kF);simp +decide only[go_sem,hjlt,hp,t4,t5,invRow,Phon.enc])|(apply kG;(simp +decide only[go_sem,hjlt,hp,t4,t5,invRow,Phon.enc];rfl);all_goals(intro hcnd;try exact kz hcnd))|((first|apply kH|apply kI)<;>(intro hcnd;simp +decide only[go_sem,hcnd,hjlt,hp,t4,t5,invRow,Phon.enc]))))
    rw[hi']
   (repeat'(first|apply kA|apply kB|((first|refine kc (N:=58) ?_|refine kj (N:=58) kq2 ?_|apply kD|apply kE|apply kF);simp +decide only[go_sem,hjlt,hp,t4,t5,hw,invRow,Phon.enc])|(apply kG;(simp +decide only[go_sem,hjlt,hp,t4,t5,hw,invRow,Phon.enc];rfl);all_goals(intro hcnd;try exact kz hcnd))|((first|apply kH|apply kI)<;>(intro hcnd;simp +decide only[go_sem,hcnd,hjlt,hp,t4,t5,hw,invRow,Phon.enc]))))
   refine⟨?_,kM rfl (by simp +decide only[go_sem]) (by simp +decide only[go_sem,invRow])⟩
   rw[htk,List.map_append,← hi]
   have n4:=of_decide_eq_false t4
   have n5:=of_decide_eq_false t5
   rw[if_neg (by decide),if_neg (by decide),if_neg (by omega)];rfl
 ·intro hlt hi
  (repeat'(first|apply kA|apply kB|((first|refine kc (N:=58) ?_|refine kj (N:=58) kq2 ?_|apply kD|apply kE|apply kF);simp +decide only[go_sem,hlt])|(apply kG;(simp +decide only[go_sem,hlt];rfl);all_goals(intro hcnd;try exact kz hcnd))|((first|apply kH|apply kI)<;>(intro hcnd;simp +decide only[go_sem,hcnd,hlt]))))
  rw[← hi];simp[chkI]
end Go.Proofs.YtehdkccjaeckhaaGreatDoor
namespace Go.Proofs.YtehdkccjaeckhaaGreatDoor
abbrev kpn3:List (Nat×Go.Dl.Mode):= [(0,.light),(1,.light),(2,.light),(3,.light),(4,.light),(5,.light),(6,.light),(7,.light),(8,.light)]
abbrev kq3:Nat→List (Nat×Go.Dl.Mode):=fun n=>match n with|6=>kpn3|_=> []
end Go.Proofs.YtehdkccjaeckhaaGreatDoor
namespace Go.Proofs.YtehdkccjaeckhaaGreatDoor
open Go.Dl
attribute [local irreducible] DW ECalls wk IW
theorem vc_len{w:World}{K:KSet}{sz:Nat}{xs:List (List Dl.C)}{v:Value}(h:VC w K (.sl sz xs) v):xs.length≤maxLen:=by
 cases h with
 | nil=>simp
 | sl _ _ _ _ _ _ hc hm _ _=>omega
theorem vc_in{w:World}{K:KSet}{sz:Nat}{xs:List (List Dl.C)}{v:Value}(h:VC w K (.sl sz xs) v){r:List Dl.C}{c:Dl.C}(hr:r∈xs)(hc:c∈r): ∃v',VC w K c v':=by
 cases h with
 | nil=>simp at hr
 | sl _ _ _ _ cv _ _ _ _ h2=>
  obtain⟨i,hi⟩:=List.mem_iff_getElem?.1 hr
  obtain⟨j,hj⟩:=List.mem_iff_getElem?.1 hc
  exact⟨_,h2 i j r c hi hj⟩
theorem dcalls_grant{P:Program}{f:FuncId}{ds:List D}{r:D}{p:Prop}(hp:Program.plainF P f=true)(hg: ∀(w:World) (K:KSet),(∀d∈ds,∃v,VD w (E0 K) d v)→p)(h:p→DCalls P f ds r):DCalls P f ds r:=
 ⟨hp,fun w K vs hK hsz hv=>by
  have:p:=hg w K fun d hd=>by
   obtain⟨j,hj⟩:=List.mem_iff_getElem?.1 hd
   have hjl:j<ds.length:=(List.getElem?_eq_some_iff.1 hj).1
   exact⟨vs[j],hv j d vs[j] hj (Array.getElem?_eq_getElem (by omega))⟩
  exact(h this).2 w K vs hK hsz hv⟩
attribute [local irreducible] DCalls
structure OkE(e:Ent):Prop where
 form:e.form.length≤maxLen
 alts:e.alts.length≤maxLen
 alt: ∀a∈e.alts,a.length≤maxLen
 senses:e.senses.length≤maxLen
 links:e.links.length≤maxLen
 refs:e.refs.length≤maxLen
theorem okE_of{w:World}{E:Env}{e:Ent}{v:Value}(h:VD w E (.agg e.row) v):OkE e:=by
 cases h with
 | agg _ vs hl hr=>
  have hsz:vs.size=8:=hl
  have hc: ∀(j:Nat) (c:Dl.C),j<8→e.row[j]? =some (.c c)→∃v,VC w E.K c v:=fun j c hj hjr=>by
   have:=hr j _ vs[j] hjr (Array.getElem?_eq_getElem (by omega))
   cases this with
   | c _ _ h=>exact⟨_,h⟩
  obtain⟨v1,h1⟩:=hc 1 _ (by decide) rfl
  obtain⟨v3,h3⟩:=hc 3 _ (by decide) rfl
  obtain⟨v5,h5⟩:=hc 5 _ (by decide) rfl
  obtain⟨v6,h6⟩:=hc 6 _ (by decide) rfl
  obtain⟨v7,h7⟩:=hc 7 _ (by decide) rfl
  refine⟨by simpa using vc_len h1,by simpa using vc_len h3,fun a ha=>?_,by simpa using vc_len h5,by simpa using vc_len h6,by simpa using vc_len h7⟩
  obtain⟨v',h'⟩:=vc_in h3 (List.mem_map.2 ⟨a,ha,rfl⟩) (List.mem_singleton.2 rfl)
  simpa using vc_len h'
theorem lnk_eq(x y:Lnk):(x.kind==y.kind&&(x.tgt==y.tgt))=decide (x=y):=by rw[Bool.eq_iff_iff];cases x;cases y;simp
theorem sameI_D(xs ys:List Int)(hx:xs.length≤maxLen):DCalls Tryz.prog 18 [dv (.sl 1 (ints xs)),dv (.sl 1 (ints ys))] (dv (lb (decide (xs=ys)))):=by
 refine kd (N:=26) (rs:= [.tmp 4]) Tryz.func18 ?_
 (repeat'(first|apply kA|apply kB|((first|refine kc (N:=26) ?_|refine kj (N:=26) kq3 ?_|apply kD|apply kE|apply kF);simp +decide only[go_sem])|(apply kG;(simp +decide only[go_sem];rfl);all_goals(intro hcnd;try exact kz hcnd))))
 ·have:xs≠ys:=fun e=>by subst e;simp at hcnd
  simp[this]
 ·have hl:xs.length=ys.length:=by simp at hcnd;omega
  refine dw_rngI xs (fun k=>kn 26 [(0,dv (.sl 1 (ints xs))),(1,dv (.sl 1 (ints ys))),(12,dv (li xs.length)),(13,dv (li k))] noMem) (fun k=>xs.take k=ys.take k) hx (kL rfl (by simp +decide only[go_sem]) (by simp[noMem])) rfl ?_ ?_
  ·intro k x hx hk hm htk hlt hw hi
   have hyk:k<ys.length:=by omega
   have hy:ys[k]? =some ys[k]:=List.getElem?_eq_getElem hyk
   have hx':=ints_at hx
   have hy':=ints_at hy
   (repeat'(first|apply kA|apply kB|((first|refine kc (N:=26) ?_|refine kj (N:=26) kq3 ?_|apply kD|apply kE|apply kF);simp +decide only[go_sem,hlt,hw,hx',hy'])|(apply kG;(simp +decide only[go_sem,hlt,hw,hx',hy'];rfl);all_goals(intro hcnd;try exact kz hcnd))))
   ·have hne:x≠ys[k]:=by simpa using hcnd
    have:xs≠ys:=fun e=>by
     subst e;rw[hx]at hy;injection hy with hy;exact hne hy
    simp[this]
   ·have he:x=ys[k]:=by simpa using hcnd
    exact⟨by rw[htk,hi,he,← take_snoc hy],kL rfl (by simp +decide only[go_sem]) (by simp[noMem])⟩
  ·intro hlt hi
   rw[List.take_length,hl,List.take_length]at hi
   (repeat'(first|apply kA|apply kB|((first|refine kc (N:=26) ?_|refine kj (N:=26) kq3 ?_|apply kD|apply kE|apply kF);simp +decide only[go_sem,hlt])|(apply kG;(simp +decide only[go_sem,hlt];rfl);all_goals(intro hcnd;try exact kz hcnd))))
   simp[hi]
theorem eqI_D(xs ys:List Int)(hx:xs.length≤maxLen):DCalls Tryz.prog 80 [dv (.sl 1 (ints xs)),dv (.sl 1 (ints ys))] (dv (lb (decide (xs=ys)))):=by
 refine kd (N:=26) (rs:= [.tmp 4]) Tryz.func80 ?_
 (repeat'(first|apply kA|apply kB|((first|refine kc (N:=26) ?_|refine kj (N:=26) kq3 ?_|apply kD|apply kE|apply kF);simp +decide only[go_sem])|(apply kG;(simp +decide only[go_sem];rfl);all_goals(intro hcnd;try exact kz hcnd))))
 ·have:xs≠ys:=fun e=>by subst e;simp at hcnd
  simp[this]
 ·have hl:xs.length=ys.length:=by simp at hcnd;omega
  refine dw_rngI xs (fun k=>kn 26 [(0,dv (.sl 1 (ints xs))),(1,dv (.sl 1 (ints ys))),(12,dv (li xs.length)),(13,dv (li k))] noMem) (fun k=>xs.take k=ys.take k) hx (kL rfl (by simp +decide only[go_sem]) (by simp[noMem])) rfl ?_ ?_
  ·intro k x hx hk hm htk hlt hw hi
   have hyk:k<ys.length:=by omega
   have hy:ys[k]? =some ys[k]:=List.getElem?_eq_getElem hyk
   have hx':=ints_at hx
   have hy':=ints_at hy
   (repeat'(first|apply kA|apply kB|((first|refine kc (N:=26) ?_|refine kj (N:=26) kq3 ?_|apply kD|apply kE|apply kF);simp +decide only[go_sem,hlt,hw,hx',hy'])|(apply kG;(simp +decide only[go_sem,hlt,hw,hx',hy'];rfl);all_goals(intro hcnd;try exact kz hcnd))))
   ·have hne:x≠ys[k]:=by simpa using hcnd
    have:xs≠ys:=fun e=>by
     subst e;rw[hx]at hy;injection hy with hy;exact hne hy
    simp[this]
   ·have he:x=ys[k]:=by simpa using hcnd
    exact⟨by rw[htk,hi,he,← take_snoc hy],kL rfl (by simp +decide only[go_sem]) (by simp[noMem])⟩
  ·intro hlt hi
   rw[List.take_length,hl,List.take_length]at hi
   (repeat'(first|apply kA|apply kB|((first|refine kc (N:=26) ?_|refine kj (N:=26) kq3 ?_|apply kD|apply kE|apply kF);simp +decide only[go_sem,hlt])|(apply kG;(simp +decide only[go_sem,hlt];rfl);all_goals(intro hcnd;try exact kz hcnd))))
   simp[hi]
end Go.Proofs.YtehdkccjaeckhaaGreatDoor
namespace Go.Proofs.YtehdkccjaeckhaaGreatDoor
open Go.Dl
attribute [local irreducible] DW DCalls ECalls wk IW
def hasA(xs:List (List Int))(a:List Int):Bool:=xs.any fun b=>decide (b=a)
def altsE(g:List Phon)(seen:List (List Int)):List (List Int)→Int
 | []=>0
 | a::l=>if wordE g a≠0 then wordE g a else if hasA seen a=true then 8 else altsE g (seen++ [a]) l
def formsE(g:List Phon)(e:Ent):Int:=
 if wordE g e.form≠0 then wordE g e.form else if e.cls<1∨20<e.cls then 21 else if 3<e.alts.length then 11 else altsE g [e.form] e.alts
end Go.Proofs.YtehdkccjaeckhaaGreatDoor
namespace Go.Proofs.YtehdkccjaeckhaaGreatDoor
abbrev kpn4:List (Nat×Go.Dl.Mode):= [(0,.light),(1,.light),(2,.light),(3,.light),(4,.light),(5,.light),(6,.step),(7,.light)]
abbrev kpn5:List (Nat×Go.Dl.Mode):= [(0,.light),(1,.light),(2,.light),(3,.light),(4,.light),(5,.light),(6,.light),(7,.step)]
abbrev kpn6:List (Nat×Go.Dl.Mode):= [(0,.light),(1,.light),(2,.light),(3,.light),(4,.light),(5,.light),(6,.light),(7,.light),(8,.light),(9,.light),(10,.step)]
abbrev kq4:Nat→List (Nat×Go.Dl.Mode):=fun n=>match n with|13=>kpn4|16=>kpn5|21=>kpn6|_=> []
end Go.Proofs.YtehdkccjaeckhaaGreatDoor
namespace Go.Proofs.YtehdkccjaeckhaaGreatDoor
open Go.Dl
attribute [local irreducible] DW DCalls ECalls wk IW
theorem dec_symm{α:Type} [DecidableEq α](a b:α):decide (a=b)=decide (b=a):=by rw[Bool.eq_iff_iff];simp;exact eq_comm
theorem rWords_D(g:List Phon)(e:Ent):DCalls Tryz.prog 130 [.agg (invRow g),.agg e.row] (dv (li (if ident e.id=false then 2 else formsE g e))):=by
 have hmax:maxLen=9223372036854775807:=rfl
 refine dcalls_grant (p:=OkE e) (by kernel_rfl) (fun w K h=>?_) fun he=>?_
 ·obtain⟨v,hv⟩:=h (.agg e.row) (by simp)
  exact okE_of hv
 have hW:=rWord_D g e.form
 have hI:=rIdent_D e.id
 simp only[invRow]at hW
 refine kd (N:=73) (rs:= [.tmp 4]) Tryz.func130 ?_
 cases t0:ident e.id
 ·rw[t0]at hI
  (repeat'(first|apply kA|apply kB|((first|refine kc (N:=73) ?_|refine kj (N:=73) kq4 ?_|apply kD|apply kE|refine kx hI ?_|apply kF);simp +decide only[go_sem,t0,Ent.row,invRow])|(apply kG;(simp +decide only[go_sem,t0,Ent.row,invRow];rfl);all_goals(intro hcnd;try exact kz hcnd))|((first|apply kH|apply kI)<;>(intro hcnd;simp +decide only[go_sem,hcnd,t0,Ent.row,invRow]))))
 rw[t0]at hI
 rw[if_neg (by decide)]
 rcases Bool.eq_false_or_eq_true (wordE g e.form !=0)with t1|t1
 ·have n1:wordE g e.form≠0:=by simpa using t1
  (repeat'(first|apply kA|apply kB|((first|refine kc (N:=73) ?_|refine kj (N:=73) kq4 ?_|apply kD|apply kE|refine kx hI ?_|refine kx hW ?_|apply kF);simp +decide only[go_sem,t1,Ent.row,invRow])|(apply kG;(simp +decide only[go_sem,t1,Ent.row,invRow];rfl);all_goals(intro hcnd;try exact kz hcnd))|((first|apply kH|apply kI)<;>(intro hcnd;simp +decide only[go_sem,hcnd,t1,Ent.row,invRow]))))
  rw[formsE,if_pos n1]
 have n1: ¬wordE g e.form≠0:=by simpa using t1
 rcases Bool.eq_false_or_eq_true (decide (e.cls<1))with t2|t2
 ·have n2:=of_decide_eq_true t2
  (repeat'(first|apply kA|apply kB|((first|refine kc (N:=73) ?_|refine kj (N:=73) kq4 ?_|apply kD|apply kE|refine kx hI ?_|refine kx hW ?_|apply kF);simp +decide only[go_sem,t1,t2,Ent.row,invRow])|(apply kG;(simp +decide only[go_sem,t1,t2,Ent.row,invRow];rfl);all_goals(intro hcnd;try exact kz hcnd))|((first|apply kH|apply kI)<;>(intro hcnd;simp +decide only[go_sem,hcnd,t1,t2,Ent.row,invRow]))))
  rw[formsE,if_neg n1,if_pos (.inl n2)]
 have n2:=of_decide_eq_false t2
 rcases Bool.eq_false_or_eq_true (decide ((20:Int)<e.cls))with t3|t3
 ·have n3:=of_decide_eq_true t3
  (repeat'(first|apply kA|apply kB|((first|refine kc (N:=73) ?_|refine kj (N:=73) kq4 ?_|apply kD|apply kE|refine kx hI ?_|refine kx hW ?_|apply kF);simp +decide only[go_sem,t1,t2,t3,Ent.row,invRow])|(apply kG;(simp +decide only[go_sem,t1,t2,t3,Ent.row,invRow];rfl);all_goals(intro hcnd;try exact kz hcnd))|((first|apply kH|apply kI)<;>(intro hcnd;simp +decide only[go_sem,hcnd,t1,t2,t3,Ent.row,invRow]))))
  rw[formsE,if_neg n1,if_pos (.inr n3)]
 have n3:=of_decide_eq_false t3
 rcases Bool.eq_false_or_eq_true (decide ((3:Int)<(e.alts.length:Int)))with t4|t4
 ·have n4:3<e.alts.length:=by have:=of_decide_eq_true t4;omega
  (repeat'(first|apply kA|apply kB|((first|refine kc (N:=73) ?_|refine kj (N:=73) kq4 ?_|apply kD|apply kE|refine kx hI ?_|refine kx hW ?_|apply kF);simp +decide only[go_sem,t1,t2,t3,t4,Ent.row,invRow])|(apply kG;(simp +decide only[go_sem,t1,t2,t3,t4,Ent.row,invRow];rfl);all_goals(intro hcnd;try exact kz hcnd))|((first|apply kH|apply kI)<;>(intro hcnd;simp +decide only[go_sem,hcnd,t1,t2,t3,t4,Ent.row,invRow]))))
  rw[formsE,if_neg n1,if_neg (by omega),if_pos n4]
 have n4: ¬3<e.alts.length:=by have:=of_decide_eq_false t4;omega
 (repeat'(first|apply kA|apply kB|((first|refine kc (N:=73) ?_|refine kj (N:=73) kq4 ?_|apply kD|apply kE|refine kx hI ?_|refine kx hW ?_);simp +decide only[go_sem,t1,t2,t3,t4,Ent.row,invRow])|(apply kG;(simp +decide only[go_sem,t1,t2,t3,t4,Ent.row,invRow];rfl);all_goals(intro hcnd;try exact kz hcnd))|((first|apply kH|apply kI)<;>(intro hcnd;simp +decide only[go_sem,hcnd,t1,t2,t3,t4,Ent.row,invRow]))))
 refine dw_rngI e.alts (fun k=>kn 73 [(2,.one (.bx 2 1 0 0)),(3,.one (.bx 3 8 0 0)),(6,dv (li k))] (ml [(2,[invRow g]),(3,[e.row])])) (fun k=>altsE g (e.form::e.alts.take k) (e.alts.drop k)=formsE g e) (by omega) (kM rfl (by simp +decide only[go_sem]) (by simp +decide only[go_sem,Ent.row,invRow])) (by rw[formsE,if_neg n1,if_neg (by omega),if_neg n4];simp) ?_ ?_
 ·intro k a ha hk hm htk hlt hw hi
  rw[drop_at ha,altsE]at hi
  have hWa:=rWord_D g a
  simp only[invRow]at hWa
  rcases Bool.eq_false_or_eq_true (wordE g a !=0)with t5|t5
  ·have n5:wordE g a≠0:=by simpa using t5
   rw[if_pos n5]at hi
   (repeat'(first|apply kA|apply kB|((first|refine kc (N:=73) ?_|refine kj (N:=73) kq4 ?_|apply kD|apply kE|refine kx hWa ?_|apply kF);simp +decide only[go_sem,hlt,hw,ha,t5,Ent.row,invRow,altC])|(apply kG;(simp +decide only[go_sem,hlt,hw,ha,t5,Ent.row,invRow,altC];rfl);all_goals(intro hcnd;try exact kz hcnd))|((first|apply kH|apply kI)<;>(intro hcnd;simp +decide only[go_sem,hcnd,hlt,hw,ha,t5,Ent.row,invRow,altC]))))
   rw[hi]
  have n5: ¬wordE g a≠0:=by simpa using t5
  rw[if_neg n5]at hi
  have hal:a.length≤maxLen:=he.alt a hm
  have hS:=sameI_D a e.form hal
  cases t6:decide (a=e.form)
  rotate_left
  ·have hh:hasA (e.form::e.alts.take k) a=true:=by rw[hasA,List.any_cons,dec_symm,t6];rfl
   rw[hh,if_pos rfl]at hi
   rw[t6]at hS
   (repeat'(first|apply kA|apply kB|((first|refine kc (N:=73) ?_|refine kj (N:=73) kq4 ?_|apply kD|apply kE|refine kx hWa ?_|refine kx hS ?_|apply kF);simp +decide only[go_sem,hlt,hw,ha,t5,Ent.row,invRow,altC])|(apply kG;(simp +decide only[go_sem,hlt,hw,ha,t5,Ent.row,invRow,altC];rfl);all_goals(intro hcnd;try exact kz hcnd))|((first|apply kH|apply kI)<;>(intro hcnd;simp +decide only[go_sem,hcnd,hlt,hw,ha,t5,Ent.row,invRow,altC]))))
   rw[hi]
  rw[t6]at hS
  have hkl:(e.alts.take k).length=k:=by rw[List.length_take];omega
  (repeat'(first|apply kA|apply kB|((first|refine kc (N:=73) ?_|refine kj (N:=73) kq4 ?_|apply kD|apply kE|refine kx hWa ?_|refine kx hS ?_);simp +decide only[go_sem,hlt,hw,ha,t5,Ent.row,invRow,altC])|(apply kG;(simp +decide only[go_sem,hlt,hw,ha,t5,Ent.row,invRow,altC];rfl);all_goals(intro hcnd;try exact kz hcnd))|((first|apply kH|apply kI)<;>(intro hcnd;simp +decide only[go_sem,hcnd,hlt,hw,ha,t5,Ent.row,invRow,altC]))))
  refine dw_rngI (e.alts.take k) (fun j=>kn 73 [(2,.one (.bx 2 1 0 0)),(3,.one (.bx 3 8 0 0)),(6,dv (li k)),(8,dv (li j))] (ml [(2,[invRow g]),(3,[e.row])])) (fun j=>∀b∈(e.alts.take k).take j,decide (b=a)=false) (by omega) (kM rfl (by simp +decide only[go_sem]) (by simp +decide only[go_sem,Ent.row,invRow])) (by simp) ?_ ?_
  ·intro j b hb hjk hjm hjt hjlt hjw hji
   rw[hkl]at hjlt hjk
   have hgb:e.alts[j]? =some b:=by rw[List.getElem?_take,if_pos hjk]at hb;exact hb
   have hS2:=sameI_D a b hal
   cases t7:decide (a=b)
   ·rw[t7]at hS2
    (repeat'(first|apply kA|apply kB|((first|refine kc (N:=73) ?_|refine kj (N:=73) kq4 ?_|apply kD|apply kE|refine kx hS2 ?_|apply kF);simp +decide only[go_sem,hjlt,hjw,ha,hgb,Ent.row,invRow,altC])|(apply kG;(simp +decide only[go_sem,hjlt,hjw,ha,hgb,Ent.row,invRow,altC];rfl);all_goals(intro hcnd;try exact kz hcnd))|((first|apply kH|apply kI)<;>(intro hcnd;simp +decide only[go_sem,hcnd,hjlt,hjw,ha,hgb,Ent.row,invRow,altC]))))
    exact⟨forall_snoc hjt hji (by rw[dec_symm];exact t7),kM rfl (by simp +decide only[go_sem]) (by simp +decide only[go_sem,Ent.row,invRow])⟩
   ·have hh:hasA (e.form::e.alts.take k) a=true:=by
     rw[hasA,List.any_cons,Bool.or_eq_true]
     exact .inr (any_at hb (by rw[dec_symm];exact t7))
    rw[hh,if_pos rfl]at hi
    rw[t7]at hS2
    (repeat'(first|apply kA|apply kB|((first|refine kc (N:=73) ?_|refine kj (N:=73) kq4 ?_|apply kD|apply kE|refine kx hS2 ?_|apply kF);simp +decide only[go_sem,hjlt,hjw,ha,hgb,Ent.row,invRow,altC])|(apply kG;(simp +decide only[go_sem,hjlt,hjw,ha,hgb,Ent.row,invRow,altC];rfl);all_goals(intro hcnd;try exact kz hcnd))|((first|apply kH|apply kI)<;>(intro hcnd;simp +decide only[go_sem,hcnd,hjlt,hjw,ha,hgb,Ent.row,invRow,altC]))))
    rw[hi]
  ·intro hjlt hji
   rw[hkl]at hjlt ⊢
   have hh:hasA (e.form::e.alts.take k) a=false:=by
    rw[hasA,List.any_cons,dec_symm,t6,Bool.false_or]
    exact any_take_no hji
   rw[hh,if_neg (by decide)]at hi
   (repeat'(first|apply kA|apply kB|((first|refine kc (N:=73) ?_|refine kj (N:=73) kq4 ?_|apply kD|apply kE|apply kF);simp +decide only[go_sem,hjlt,hw,Ent.row,invRow])|(apply kG;(simp +decide only[go_sem,hjlt,hw,Ent.row,invRow];rfl);all_goals(intro hcnd;try exact kz hcnd))|((first|apply kH|apply kI)<;>(intro hcnd;simp +decide only[go_sem,hcnd,hjlt,hw,Ent.row,invRow]))))
   exact⟨by rw[htk,← List.cons_append];exact hi,kM rfl (by simp +decide only[go_sem]) (by simp +decide only[go_sem,Ent.row,invRow])⟩
 ·intro hlt hi
  (repeat'(first|apply kA|apply kB|((first|refine kc (N:=73) ?_|refine kj (N:=73) kq4 ?_|apply kD|apply kE|apply kF);simp +decide only[go_sem,hlt,Ent.row,invRow])|(apply kG;(simp +decide only[go_sem,hlt,Ent.row,invRow];rfl);all_goals(intro hcnd;try exact kz hcnd))|((first|apply kH|apply kI)<;>(intro hcnd;simp +decide only[go_sem,hcnd,hlt,Ent.row,invRow]))))
  rw[← hi];simp[altsE]
end Go.Proofs.YtehdkccjaeckhaaGreatDoor
namespace Go.Proofs.YtehdkccjaeckhaaGreatDoor
abbrev kpn7:List (Nat×Go.Dl.Mode):= [(0,.light),(1,.light),(2,.light),(3,.light),(4,.light),(5,.light),(6,.light),(7,.light),(8,.light),(9,.step),(10,.light)]
abbrev kq5:Nat→List (Nat×Go.Dl.Mode):=fun n=>match n with|12=>kpn7|_=> []
end Go.Proofs.YtehdkccjaeckhaaGreatDoor
namespace Go.Proofs.YtehdkccjaeckhaaGreatDoor
open Go.Dl
attribute [local irreducible] DW DCalls ECalls wk IW
def hasG(seen:List Sns)(g:ByteArray):Bool:=seen.any fun x=>x.gloss==g
def senseE(seen:List Sns)(s:Sns):Int:=if glossB s.gloss=false then 7 else if textE s.txt≠0 then textE s.txt else if hasG seen s.gloss=true then 8 else 0
def sensL(seen:List Sns):List Sns→Int
 | []=>0
 | s::l=>if senseE seen s≠0 then senseE seen s else sensL (seen++ [s]) l
def sensesE(e:Ent):Int:=
 if e.main≠0∧ident e.main=false then 2 else if e.main=e.id then 17 else if 5<e.senses.length then 11 else if e.senses.length=0∧e.main=0 then 4 else sensL [] e.senses
theorem rHasG_D(xs:List Sns)(g:ByteArray)(hl:xs.length≤maxLen):DCalls Tryz.prog 174 [dv (.sl 2 (xs.map Sns.enc)),dv (ls g)] (dv (lb (hasG xs g))):=by
 have hmax:maxLen=9223372036854775807:=rfl
 refine kd (N:=19) (rs:= [.tmp 4]) Tryz.func174 ?_
 (repeat(first|apply kA|apply kB|((first|refine kc (N:=19) ?_|apply kD|apply kE);simp +decide only[go_sem])))
 refine dw_rngI xs (fun k=>kn 19 [(0,dv (.sl 2 (xs.map Sns.enc))),(1,dv (ls g)),(5,dv (li k))] noMem) (fun k=>∀x∈xs.take k,(x.gloss==g)=false) (by omega) (kL rfl (by simp +decide only[go_sem]) (by simp[noMem])) (by simp) ?_ ?_
 ·intro k x hx hk hm htk hlt hw hi
  (repeat'(first|apply kA|apply kB|((first|refine kc (N:=19) ?_|apply kD|apply kE|apply kF);simp +decide only[go_sem,hlt,hw,hx,Sns.enc])|(apply kG;(simp +decide only[go_sem,hlt,hw,hx,Sns.enc];rfl);all_goals(intro hcnd;try exact kz hcnd))))
  ·rw[hasG,any_at hx hcnd]
  ·exact⟨forall_snoc htk hi hcnd,kL rfl (by simp +decide only[go_sem]) (by simp[noMem])⟩
 ·intro hlt hi
  (repeat'(first|apply kA|apply kB|((first|refine kc (N:=19) ?_|apply kD|apply kE|apply kF);simp +decide only[go_sem,hlt])|(apply kG;(simp +decide only[go_sem,hlt];rfl);all_goals(intro hcnd;try exact kz hcnd))))
  rw[hasG,any_take_no hi]
theorem rSense_D(xs:List Sns)(s:Sns)(hl:xs.length≤maxLen)(h1:s.gloss.size≤1048576)(h2:s.txt.size≤1048576):DCalls Tryz.prog 154 [dv (.sl 2 (xs.map Sns.enc)),.agg s.row] (dv (li (senseE xs s))):=by
 have hG:=rGloss_D s.gloss h1
 have hT:=rText_D s.txt
 have hC:=rHasG_D xs s.gloss hl
 refine kd (N:=20) (rs:= [.tmp 4]) Tryz.func154 ?_
 cases t1:glossB s.gloss
 ·rw[t1]at hG
  (repeat'(first|apply kA|apply kB|((first|refine kc (N:=20) ?_|apply kD|apply kE|refine kx hG ?_|apply kF);simp +decide only[go_sem,Sns.row])|(apply kG;(simp +decide only[go_sem,Sns.row];rfl);all_goals(intro hcnd;try exact kz hcnd))))
  rw[senseE,if_pos t1]
 rw[t1]at hG
 have n1: ¬glossB s.gloss=false:=by rw[t1];decide
 rcases Bool.eq_false_or_eq_true (textE s.txt !=0)with t2|t2
 ·have n2:textE s.txt≠0:=by simpa using t2
  (repeat'(first|apply kA|apply kB|((first|refine kc (N:=20) ?_|apply kD|apply kE|refine kx hG ?_|refine kx hT ?_|apply kF);simp +decide only[go_sem,Sns.row,t2])|(apply kG;(simp +decide only[go_sem,Sns.row,t2];rfl);all_goals(intro hcnd;try exact kz hcnd))))
  rw[senseE,if_neg n1,if_pos n2]
 have n2: ¬textE s.txt≠0:=by simpa using t2
 cases t3:hasG xs s.gloss
 ·rw[t3]at hC
  (repeat'(first|apply kA|apply kB|((first|refine kc (N:=20) ?_|apply kD|apply kE|refine kx hG ?_|refine kx hT ?_|refine kx hC ?_|apply kF);simp +decide only[go_sem,Sns.row,t2])|(apply kG;(simp +decide only[go_sem,Sns.row,t2];rfl);all_goals(intro hcnd;try exact kz hcnd))))
  rw[senseE,if_neg n1,if_neg n2,t3];rfl
 ·rw[t3]at hC
  (repeat'(first|apply kA|apply kB|((first|refine kc (N:=20) ?_|apply kD|apply kE|refine kx hG ?_|refine kx hT ?_|refine kx hC ?_|apply kF);simp +decide only[go_sem,Sns.row,t2])|(apply kG;(simp +decide only[go_sem,Sns.row,t2];rfl);all_goals(intro hcnd;try exact kz hcnd))))
  rw[senseE,if_neg n1,if_neg n2,t3];rfl
theorem rSenses_D(e:Ent)(hs2: ∀s∈e.senses,s.gloss.size≤1048576∧s.txt.size≤1048576):DCalls Tryz.prog 131 [.agg e.row] (dv (li (sensesE e))):=by
 have hmax:maxLen=9223372036854775807:=rfl
 refine dcalls_grant (p:=OkE e∧True) (by kernel_rfl) (fun w K h=>?_) fun he=>?_
 ·obtain⟨v,hv⟩:=h (.agg e.row) (by simp)
  exact⟨okE_of hv,trivial⟩
 have hI:=rIdent_D e.main
 refine kd (N:=52) (rs:= [.tmp 2]) Tryz.func131 ?_
 rcases Bool.eq_false_or_eq_true (e.main !=0)with t1|t1
 ·have n1:e.main≠0:=by simpa using t1
  have t5':(e.main==0)=false:=by simpa using n1
  cases t2:ident e.main
  ·rw[t2]at hI
   (repeat'(first|apply kA|apply kB|((first|refine kc (N:=52) ?_|refine kj (N:=52) kq5 ?_|apply kD|apply kE|refine kx hI ?_|apply kF);simp +decide only[go_sem,t1,Ent.row])|(apply kG;(simp +decide only[go_sem,t1,Ent.row];rfl);all_goals(intro hcnd;try exact kz hcnd))|((first|apply kH|apply kI)<;>(intro hcnd;simp +decide only[go_sem,hcnd,t1,Ent.row]))))
   rw[sensesE,if_pos ⟨n1,t2⟩]
  rw[t2]at hI
  have m1: ¬(e.main≠0∧ident e.main=false):=by simp[t2]
  rcases Bool.eq_false_or_eq_true (e.main==e.id)with t3|t3
  ·(repeat'(first|apply kA|apply kB|((first|refine kc (N:=52) ?_|refine kj (N:=52) kq5 ?_|apply kD|apply kE|refine kx hI ?_|apply kF);simp +decide only[go_sem,t1,t3,Ent.row])|(apply kG;(simp +decide only[go_sem,t1,t3,Ent.row];rfl);all_goals(intro hcnd;try exact kz hcnd))|((first|apply kH|apply kI)<;>(intro hcnd;simp +decide only[go_sem,hcnd,t1,t3,Ent.row]))))
   rw[sensesE,if_neg m1,if_pos (by simpa using t3)]
  have m3: ¬e.main=e.id:=by simpa using t3
  rcases Bool.eq_false_or_eq_true (decide ((5:Int)<(e.senses.length:Int)))with t4|t4
  ·(repeat'(first|apply kA|apply kB|((first|refine kc (N:=52) ?_|refine kj (N:=52) kq5 ?_|apply kD|apply kE|refine kx hI ?_|apply kF);simp +decide only[go_sem,t1,t3,t4,Ent.row])|(apply kG;(simp +decide only[go_sem,t1,t3,t4,Ent.row];rfl);all_goals(intro hcnd;try exact kz hcnd))|((first|apply kH|apply kI)<;>(intro hcnd;simp +decide only[go_sem,hcnd,t1,t3,t4,Ent.row]))))
   rw[sensesE,if_neg m1,if_neg m3,if_pos (by have:=of_decide_eq_true t4;omega)]
  have m4: ¬5<e.senses.length:=by have:=of_decide_eq_false t4;omega
  rcases Bool.eq_false_or_eq_true ((e.senses.length:Int)==0)with t5|t5
  ·(repeat'(first|apply kA|apply kB|((first|refine kc (N:=52) ?_|refine kj (N:=52) kq5 ?_|apply kD|apply kE|refine kx hI ?_);simp +decide only[go_sem,t1,t3,t4,t5,t5',Ent.row])|(apply kG;(simp +decide only[go_sem,t1,t3,t4,t5,t5',Ent.row];rfl);all_goals(intro hcnd;try exact kz hcnd))|((first|apply kH|apply kI)<;>(intro hcnd;simp +decide only[go_sem,hcnd,t1,t3,t4,t5,t5',Ent.row]))))
   refine dw_rngI e.senses (fun k=>kn 52 [(1,.one (.bx 1 8 0 0)),(3,dv (li k))] (ml [(1,[e.row])])) (fun k=>sensL (e.senses.take k) (e.senses.drop k)=sensesE e) he.1.senses (kM rfl (by simp +decide only[go_sem]) (by simp +decide only[go_sem,Ent.row])) (by rw[sensesE,if_neg m1,if_neg m3,if_neg m4,if_neg (by simp[n1])];simp) ?_ ?_
   ·intro k s hs hk hm htk hlt hw hi
    rw[drop_at hs,sensL]at hi
    have hkm:(k≤e.senses.length)=True:=eq_true (by omega)
    have hz:(0≤k)=True:=eq_true (Nat.zero_le k)
    have htm:List.take k (e.senses.map Sns.enc)=(e.senses.take k).map Sns.enc:=(List.map_take ..).symm
    have hkl:(e.senses.take k).length≤maxLen:=by rw[List.length_take];have:=he.1.senses;omega
    have hS:=rSense_D (e.senses.take k) s hkl (hs2 s hm).1 (hs2 s hm).2
    simp only[Sns.row]at hS
    rcases Bool.eq_false_or_eq_true (senseE (e.senses.take k) s !=0)with t6|t6
    ·have n6:senseE (e.senses.take k) s≠0:=by simpa using t6
     rw[if_pos n6]at hi
     (repeat'(first|apply kA|apply kB|((first|refine kc (N:=52) ?_|refine kj (N:=52) kq5 ?_|apply kD|apply kE|refine kx hS ?_|apply kF);simp +decide only[go_sem,hlt,hw,hs,t6,hkm,hz,htm,List.drop_zero,Int.toNat_natCast,Ent.row,Sns.enc])|(apply kG;(simp +decide only[go_sem,hlt,hw,hs,t6,hkm,hz,htm,List.drop_zero,Int.toNat_natCast,Ent.row,Sns.enc];rfl);all_goals(intro hcnd;try exact kz hcnd))|((first|apply kH|apply kI)<;>(intro hcnd;simp +decide only[go_sem,hcnd,hlt,hw,hs,t6,hkm,hz,htm,List.drop_zero,Int.toNat_natCast,Ent.row,Sns.enc]))))
     rw[hi]
    ·have n6: ¬senseE (e.senses.take k) s≠0:=by simpa using t6
     rw[if_neg n6]at hi
     (repeat'(first|apply kA|apply kB|((first|refine kc (N:=52) ?_|refine kj (N:=52) kq5 ?_|apply kD|apply kE|refine kx hS ?_|apply kF);simp +decide only[go_sem,hlt,hw,hs,t6,hkm,hz,htm,List.drop_zero,Int.toNat_natCast,Ent.row,Sns.enc])|(apply kG;(simp +decide only[go_sem,hlt,hw,hs,t6,hkm,hz,htm,List.drop_zero,Int.toNat_natCast,Ent.row,Sns.enc];rfl);all_goals(intro hcnd;try exact kz hcnd))|((first|apply kH|apply kI)<;>(intro hcnd;simp +decide only[go_sem,hcnd,hlt,hw,hs,t6,hkm,hz,htm,List.drop_zero,Int.toNat_natCast,Ent.row,Sns.enc]))))
     exact⟨by rw[htk];exact hi,kM rfl (by simp +decide only[go_sem]) (by simp +decide only[go_sem,Ent.row])⟩
   ·intro hlt hi
    (repeat'(first|apply kA|apply kB|((first|refine kc (N:=52) ?_|refine kj (N:=52) kq5 ?_|apply kD|apply kE|apply kF);simp +decide only[go_sem,hlt,Ent.row])|(apply kG;(simp +decide only[go_sem,hlt,Ent.row];rfl);all_goals(intro hcnd;try exact kz hcnd))|((first|apply kH|apply kI)<;>(intro hcnd;simp +decide only[go_sem,hcnd,hlt,Ent.row]))))
    rw[← hi];simp[sensL]
  ·(repeat'(first|apply kA|apply kB|((first|refine kc (N:=52) ?_|refine kj (N:=52) kq5 ?_|apply kD|apply kE|refine kx hI ?_);simp +decide only[go_sem,t1,t3,t4,t5,t5',Ent.row])|(apply kG;(simp +decide only[go_sem,t1,t3,t4,t5,t5',Ent.row];rfl);all_goals(intro hcnd;try exact kz hcnd))|((first|apply kH|apply kI)<;>(intro hcnd;simp +decide only[go_sem,hcnd,t1,t3,t4,t5,t5',Ent.row]))))
   refine dw_rngI e.senses (fun k=>kn 52 [(1,.one (.bx 1 8 0 0)),(3,dv (li k))] (ml [(1,[e.row])])) (fun k=>sensL (e.senses.take k) (e.senses.drop k)=sensesE e) he.1.senses (kM rfl (by simp +decide only[go_sem]) (by simp +decide only[go_sem,Ent.row])) (by rw[sensesE,if_neg m1,if_neg m3,if_neg m4,if_neg (by simp[n1])];simp) ?_ ?_
   ·intro k s hs hk hm htk hlt hw hi
    rw[drop_at hs,sensL]at hi
    have hkm:(k≤e.senses.length)=True:=eq_true (by omega)
    have hz:(0≤k)=True:=eq_true (Nat.zero_le k)
    have htm:List.take k (e.senses.map Sns.enc)=(e.senses.take k).map Sns.enc:=(List.map_take ..).symm
    have hkl:(e.senses.take k).length≤maxLen:=by rw[List.length_take];have:=he.1.senses;omega
    have hS:=rSense_D (e.senses.take k) s hkl (hs2 s hm).1 (hs2 s hm).2
    simp only[Sns.row]at hS
    rcases Bool.eq_false_or_eq_true (senseE (e.senses.take k) s !=0)with t6|t6
    ·have n6:senseE (e.senses.take k) s≠0:=by simpa using t6
     rw[if_pos n6]at hi
     (repeat'(first|apply kA|apply kB|((first|refine kc (N:=52) ?_|refine kj (N:=52) kq5 ?_|apply kD|apply kE|refine kx hS ?_|apply kF);simp +decide only[go_sem,hlt,hw,hs,t6,hkm,hz,htm,List.drop_zero,Int.toNat_natCast,Ent.row,Sns.enc])|(apply kG;(simp +decide only[go_sem,hlt,hw,hs,t6,hkm,hz,htm,List.drop_zero,Int.toNat_natCast,Ent.row,Sns.enc];rfl);all_goals(intro hcnd;try exact kz hcnd))|((first|apply kH|apply kI)<;>(intro hcnd;simp +decide only[go_sem,hcnd,hlt,hw,hs,t6,hkm,hz,htm,List.drop_zero,Int.toNat_natCast,Ent.row,Sns.enc]))))
     rw[hi]
    ·have n6: ¬senseE (e.senses.take k) s≠0:=by simpa using t6
     rw[if_neg n6]at hi
     (repeat'(first|apply kA|apply kB|((first|refine kc (N:=52) ?_|refine kj (N:=52) kq5 ?_|apply kD|apply kE|refine kx hS ?_|apply kF);simp +decide only[go_sem,hlt,hw,hs,t6,hkm,hz,htm,List.drop_zero,Int.toNat_natCast,Ent.row,Sns.enc])|(apply kG;(simp +decide only[go_sem,hlt,hw,hs,t6,hkm,hz,htm,List.drop_zero,Int.toNat_natCast,Ent.row,Sns.enc];rfl);all_goals(intro hcnd;try exact kz hcnd))|((first|apply kH|apply kI)<;>(intro hcnd;simp +decide only[go_sem,hcnd,hlt,hw,hs,t6,hkm,hz,htm,List.drop_zero,Int.toNat_natCast,Ent.row,Sns.enc]))))
     exact⟨by rw[htk];exact hi,kM rfl (by simp +decide only[go_sem]) (by simp +decide only[go_sem,Ent.row])⟩
   ·intro hlt hi
    (repeat'(first|apply kA|apply kB|((first|refine kc (N:=52) ?_|refine kj (N:=52) kq5 ?_|apply kD|apply kE|apply kF);simp +decide only[go_sem,hlt,Ent.row])|(apply kG;(simp +decide only[go_sem,hlt,Ent.row];rfl);all_goals(intro hcnd;try exact kz hcnd))|((first|apply kH|apply kI)<;>(intro hcnd;simp +decide only[go_sem,hcnd,hlt,Ent.row]))))
    rw[← hi];simp[sensL]
 ·have n1:e.main=0:=by simpa using t1
  have t5':(e.main==0)=true:=by simpa using n1
  have m1: ¬(e.main≠0∧ident e.main=false):=by simp[n1]
  rcases Bool.eq_false_or_eq_true (e.main==e.id)with t3|t3
  ·(repeat'(first|apply kA|apply kB|((first|refine kc (N:=52) ?_|refine kj (N:=52) kq5 ?_|apply kD|apply kE|apply kF);simp +decide only[go_sem,t1,t3,Ent.row])|(apply kG;(simp +decide only[go_sem,t1,t3,Ent.row];rfl);all_goals(intro hcnd;try exact kz hcnd))|((first|apply kH|apply kI)<;>(intro hcnd;simp +decide only[go_sem,hcnd,t1,t3,Ent.row]))))
   rw[sensesE,if_neg m1,if_pos (by simpa using t3)]
  have m3: ¬e.main=e.id:=by simpa using t3
  rcases Bool.eq_false_or_eq_true (decide ((5:Int)<(e.senses.length:Int)))with t4|t4
  ·(repeat'(first|apply kA|apply kB|((first|refine kc (N:=52) ?_|refine kj (N:=52) kq5 ?_|apply kD|apply kE|apply kF);simp +decide only[go_sem,t1,t3,t4,Ent.row])|(apply kG;(simp +decide only[go_sem,t1,t3,t4,Ent.row];rfl);all_goals(intro hcnd;try exact kz hcnd))|((first|apply kH|apply kI)<;>(intro hcnd;simp +decide only[go_sem,hcnd,t1,t3,t4,Ent.row]))))
   rw[sensesE,if_neg m1,if_neg m3,if_pos (by have:=of_decide_eq_true t4;omega)]
  have m4: ¬5<e.senses.length:=by have:=of_decide_eq_false t4;omega
  rcases Bool.eq_false_or_eq_true ((e.senses.length:Int)==0)with t5|t5
  ·have n5:e.senses.length=0:=by have:=beq_iff_eq.1 t5;omega
   (repeat'(first|apply kA|apply kB|((first|refine kc (N:=52) ?_|refine kj (N:=52) kq5 ?_|apply kD|apply kE|apply kF);simp +decide only[go_sem,t1,t3,t4,t5,t5',Ent.row])|(apply kG;(simp +decide only[go_sem,t1,t3,t4,t5,t5',Ent.row];rfl);all_goals(intro hcnd;try exact kz hcnd))|((first|apply kH|apply kI)<;>(intro hcnd;simp +decide only[go_sem,hcnd,t1,t3,t4,t5,t5',Ent.row]))))
   rw[sensesE,if_neg m1,if_neg m3,if_neg m4,if_pos ⟨n5,n1⟩]
  ·have n5: ¬e.senses.length=0:=by have:=beq_eq_false_iff_ne.1 t5;omega
   (repeat'(first|apply kA|apply kB|((first|refine kc (N:=52) ?_|refine kj (N:=52) kq5 ?_|apply kD|apply kE);simp +decide only[go_sem,t1,t3,t4,t5,t5',Ent.row])|(apply kG;(simp +decide only[go_sem,t1,t3,t4,t5,t5',Ent.row];rfl);all_goals(intro hcnd;try exact kz hcnd))|((first|apply kH|apply kI)<;>(intro hcnd;simp +decide only[go_sem,hcnd,t1,t3,t4,t5,t5',Ent.row]))))
   refine dw_rngI e.senses (fun k=>kn 52 [(1,.one (.bx 1 8 0 0)),(3,dv (li k))] (ml [(1,[e.row])])) (fun k=>sensL (e.senses.take k) (e.senses.drop k)=sensesE e) he.1.senses (kM rfl (by simp +decide only[go_sem]) (by simp +decide only[go_sem,Ent.row])) (by rw[sensesE,if_neg m1,if_neg m3,if_neg m4,if_neg (by simp[n5])];simp) ?_ ?_
   ·intro k s hs hk hm htk hlt hw hi
    rw[drop_at hs,sensL]at hi
    have hkm:(k≤e.senses.length)=True:=eq_true (by omega)
    have hz:(0≤k)=True:=eq_true (Nat.zero_le k)
    have htm:List.take k (e.senses.map Sns.enc)=(e.senses.take k).map Sns.enc:=(List.map_take ..).symm
    have hkl:(e.senses.take k).length≤maxLen:=by rw[List.length_take];have:=he.1.senses;omega
    have hS:=rSense_D (e.senses.take k) s hkl (hs2 s hm).1 (hs2 s hm).2
    simp only[Sns.row]at hS
    rcases Bool.eq_false_or_eq_true (senseE (e.senses.take k) s !=0)with t6|t6
    ·have n6:senseE (e.senses.take k) s≠0:=by simpa using t6
     rw[if_pos n6]at hi
     (repeat'(first|apply kA|apply kB|((first|refine kc (N:=52) ?_|refine kj (N:=52) kq5 ?_|apply kD|apply kE|refine kx hS ?_|apply kF);simp +decide only[go_sem,hlt,hw,hs,t6,hkm,hz,htm,List.drop_zero,Int.toNat_natCast,Ent.row,Sns.enc])|(apply kG;(simp +decide only[go_sem,hlt,hw,hs,t6,hkm,hz,htm,List.drop_zero,Int.toNat_natCast,Ent.row,Sns.enc];rfl);all_goals(intro hcnd;try exact kz hcnd))|((first|apply kH|apply kI)<;>(intro hcnd;simp +decide only[go_sem,hcnd,hlt,hw,hs,t6,hkm,hz,htm,List.drop_zero,Int.toNat_natCast,Ent.row,Sns.enc]))))
     rw[hi]
    ·have n6: ¬senseE (e.senses.take k) s≠0:=by simpa using t6
     rw[if_neg n6]at hi
     (repeat'(first|apply kA|apply kB|((first|refine kc (N:=52) ?_|refine kj (N:=52) kq5 ?_|apply kD|apply kE|refine kx hS ?_|apply kF);simp +decide only[go_sem,hlt,hw,hs,t6,hkm,hz,htm,List.drop_zero,Int.toNat_natCast,Ent.row,Sns.enc])|(apply kG;(simp +decide only[go_sem,hlt,hw,hs,t6,hkm,hz,htm,List.drop_zero,Int.toNat_natCast,Ent.row,Sns.enc];rfl);all_goals(intro hcnd;try exact kz hcnd))|((first|apply kH|apply kI)<;>(intro hcnd;simp +decide only[go_sem,hcnd,hlt,hw,hs,t6,hkm,hz,htm,List.drop_zero,Int.toNat_natCast,Ent.row,Sns.enc]))))
     exact⟨by rw[htk];exact hi,kM rfl (by simp +decide only[go_sem]) (by simp +decide only[go_sem,Ent.row])⟩
   ·intro hlt hi
    (repeat'(first|apply kA|apply kB|((first|refine kc (N:=52) ?_|refine kj (N:=52) kq5 ?_|apply kD|apply kE|apply kF);simp +decide only[go_sem,hlt,Ent.row])|(apply kG;(simp +decide only[go_sem,hlt,Ent.row];rfl);all_goals(intro hcnd;try exact kz hcnd))|((first|apply kH|apply kI)<;>(intro hcnd;simp +decide only[go_sem,hcnd,hlt,Ent.row]))))
    rw[← hi];simp[sensL]
theorem or_D(xs:List Int)(hl:xs.length≤maxLen):DCalls Tryz.prog 84 [dv (.sl 1 (ints xs))] (dv (li (orI xs))):=by
 have hmax:maxLen=9223372036854775807:=rfl
 refine kd (N:=18) (rs:= [.tmp 2]) Tryz.func84 ?_
 (repeat(first|apply kA|apply kB|((first|refine kc (N:=18) ?_|apply kD|apply kE);simp +decide only[go_sem])))
 refine dw_rngI xs (fun k=>kn 18 [(3,dv (li 0)),(6,dv (.sl 1 (ints xs))),(7,dv (li xs.length)),(8,dv (li k))] noMem) (fun k=>orI (xs.drop k)=orI xs) (by omega) (kL rfl (by simp +decide only[go_sem]) (by simp[noMem])) (by simp) ?_ ?_
 ·intro k x hx hk hm htk hlt hw hi
  have hx':=ints_at hx
  rw[drop_at hx,orI]at hi
  rcases Bool.eq_false_or_eq_true (x !=0)with t1|t1
  ·rw[if_neg (by simpa using t1)]at hi
   (repeat'(first|apply kA|apply kB|((first|refine kc (N:=18) ?_|apply kD|apply kE|apply kF);simp +decide only[go_sem,hlt,hw,hx',t1])|(apply kG;(simp +decide only[go_sem,hlt,hw,hx',t1];rfl);all_goals(intro hcnd;try exact kz hcnd))))
   rw[hi]
  ·rw[if_pos (by simpa using t1)]at hi
   (repeat'(first|apply kA|apply kB|((first|refine kc (N:=18) ?_|apply kD|apply kE|apply kF);simp +decide only[go_sem,hlt,hw,hx',t1])|(apply kG;(simp +decide only[go_sem,hlt,hw,hx',t1];rfl);all_goals(intro hcnd;try exact kz hcnd))))
   exact⟨hi,kL rfl (by simp +decide only[go_sem]) (by simp[noMem])⟩
 ·intro hlt hi
  (repeat'(first|apply kA|apply kB|((first|refine kc (N:=18) ?_|apply kD|apply kE|apply kF);simp +decide only[go_sem,hlt])|(apply kG;(simp +decide only[go_sem,hlt];rfl);all_goals(intro hcnd;try exact kz hcnd))))
  rw[← hi];simp[orI]
def prevAt(l:List Lnk)(k:Nat):Option Lnk:=if k=0 then none else l[k - 1]?
def badP(p:Option Lnk)(x:Lnk):Bool:=match p with
 | none=>false
 | some y=> !lessL y x
theorem prev_zero(l:List Lnk):prevAt l 0=none:=rfl
theorem prev_succ{l:List Lnk}{k:Nat}{x:Lnk}(h:l[k]? =some x):prevAt l (k+1)=some x:=by simp[prevAt,h]
def linkE(id:Int)(p:Option Lnk)(x:Lnk):Int:=if x.kind<0∨5<x.kind then 14 else if ident x.tgt=false then 2 else if x.tgt=id then 17 else if badP p x=true then 10 else 0
def linkL(id:Int)(p:Option Lnk):List Lnk→Int
 | []=>0
 | x::l=>if linkE id p x≠0 then linkE id p x else linkL id (some x) l
def linksE(e:Ent):Int:=if 12<e.links.length then 11 else linkL e.id none e.links
end Go.Proofs.YtehdkccjaeckhaaGreatDoor
namespace Go.Proofs.YtehdkccjaeckhaaGreatDoor
abbrev kpn8:List (Nat×Go.Dl.Mode):= [(0,.light),(1,.light),(2,.light),(3,.light),(4,.light),(5,.light),(6,.light),(7,.light),(8,.light),(9,.light),(10,.light),(11,.light),(12,.light),(13,.light),(14,.light),(15,.light),(16,.light),(17,.light),(18,.light),(19,.light),(20,.light),(21,.light),(22,.light),(23,.light),(24,.light),(25,.light),(26,.light),(27,.light),(28,.light),(29,.light),(30,.light),(31,.light),(32,.light),(33,.light),(34,.light),(35,.light),(36,.light),(37,.light)]
abbrev kpn9:List (Nat×Go.Dl.Mode):= [(0,.light),(1,.light),(2,.light),(3,.light),(4,.light),(5,.light),(6,.light),(7,.light),(8,.light),(9,.light),(10,.light),(11,.light),(12,.step),(13,.light),(14,.light)]
abbrev kq6:Nat→List (Nat×Go.Dl.Mode):=fun n=>match n with|13=>kpn8|_=> []
abbrev kq7:Nat→List (Nat×Go.Dl.Mode):=fun n=>match n with|8=>kpn9|_=> []
end Go.Proofs.YtehdkccjaeckhaaGreatDoor
namespace Go.Proofs.YtehdkccjaeckhaaGreatDoor
open Go.Dl
attribute [local irreducible] DW DCalls ECalls wk IW
theorem rLinks_D(e:Ent):DCalls Tryz.prog 132 [.agg e.row] (dv (li (linksE e))):=by
 have hmax:maxLen=9223372036854775807:=rfl
 refine kd (N:=76) (rs:= [.tmp 2]) Tryz.func132 ?_
 rcases Bool.eq_false_or_eq_true (decide ((12:Int)<(e.links.length:Int)))with t1|t1
 ·(repeat'(first|apply kA|apply kB|((first|refine kc (N:=76) ?_|refine kj (N:=76) kq6 ?_|apply kD|apply kE|apply kF);simp +decide only[go_sem,t1,Ent.row])|(apply kG;(simp +decide only[go_sem,t1,Ent.row];rfl);all_goals(intro hcnd;try exact kz hcnd))|((first|apply kH|apply kI)<;>(intro hcnd;simp +decide only[go_sem,hcnd,t1,Ent.row]))))
  rw[linksE,if_pos (by have:=of_decide_eq_true t1;omega)]
 have n1: ¬12<e.links.length:=by have:=of_decide_eq_false t1;omega
 (repeat'(first|apply kA|apply kB|((first|refine kc (N:=76) ?_|refine kj (N:=76) kq6 ?_|apply kD|apply kE);simp +decide only[go_sem,t1,Ent.row])|(apply kG;(simp +decide only[go_sem,t1,Ent.row];rfl);all_goals(intro hcnd;try exact kz hcnd))|((first|apply kH|apply kI)<;>(intro hcnd;simp +decide only[go_sem,hcnd,t1,Ent.row]))))
 refine dw_rngI e.links (fun k=>kn 76 [(1,.one (.bx 1 8 0 0)),(3,dv (li k))] (ml [(1,[e.row])])) (fun k=>linkL e.id (prevAt e.links k) (e.links.drop k)=linksE e) (by omega) (kM rfl (by simp +decide only[go_sem]) (by simp +decide only[go_sem,Ent.row])) (by rw[linksE,if_neg n1];simp[prev_zero]) ?_ ?_
 ·intro k x hx hk hm htk hlt hw hi
  rw[drop_at hx,linkL]at hi
  have hI:=rIdent_D x.tgt
  rcases Bool.eq_false_or_eq_true (decide (x.kind<0))with t2|t2
  ·have n2:=of_decide_eq_true t2
   have hE:linkE e.id (prevAt e.links k) x=14:=by rw[linkE,if_pos (.inl n2)]
   rw[hE,if_pos (by decide)]at hi
   (repeat'(first|apply kA|apply kB|((first|refine kc (N:=76) ?_|refine kj (N:=76) kq6 ?_|apply kD|apply kE|apply kF);simp +decide only[go_sem,hlt,hw,hx,t2,Ent.row,Lnk.enc])|(apply kG;(simp +decide only[go_sem,hlt,hw,hx,t2,Ent.row,Lnk.enc];rfl);all_goals(intro hcnd;try exact kz hcnd))|((first|apply kH|apply kI)<;>(intro hcnd;simp +decide only[go_sem,hcnd,hlt,hw,hx,t2,Ent.row,Lnk.enc]))))
   rw[hi]
  have n2:=of_decide_eq_false t2
  rcases Bool.eq_false_or_eq_true (decide ((5:Int)<x.kind))with t3|t3
  ·have n3:=of_decide_eq_true t3
   have hE:linkE e.id (prevAt e.links k) x=14:=by rw[linkE,if_pos (.inr n3)]
   rw[hE,if_pos (by decide)]at hi
   (repeat'(first|apply kA|apply kB|((first|refine kc (N:=76) ?_|refine kj (N:=76) kq6 ?_|apply kD|apply kE|apply kF);simp +decide only[go_sem,hlt,hw,hx,t2,t3,Ent.row,Lnk.enc])|(apply kG;(simp +decide only[go_sem,hlt,hw,hx,t2,t3,Ent.row,Lnk.enc];rfl);all_goals(intro hcnd;try exact kz hcnd))|((first|apply kH|apply kI)<;>(intro hcnd;simp +decide only[go_sem,hcnd,hlt,hw,hx,t2,t3,Ent.row,Lnk.enc]))))
   rw[hi]
  have n3:=of_decide_eq_false t3
  have n23: ¬(x.kind<0∨5<x.kind):=by omega
  cases t4:ident x.tgt
  ·rw[t4]at hI
   have hE:linkE e.id (prevAt e.links k) x=2:=by rw[linkE,if_neg n23,t4];rfl
   rw[hE,if_pos (by decide)]at hi
   (repeat'(first|apply kA|apply kB|((first|refine kc (N:=76) ?_|refine kj (N:=76) kq6 ?_|apply kD|apply kE|refine kx hI ?_|apply kF);simp +decide only[go_sem,hlt,hw,hx,t2,t3,Ent.row,Lnk.enc])|(apply kG;(simp +decide only[go_sem,hlt,hw,hx,t2,t3,Ent.row,Lnk.enc];rfl);all_goals(intro hcnd;try exact kz hcnd))|((first|apply kH|apply kI)<;>(intro hcnd;simp +decide only[go_sem,hcnd,hlt,hw,hx,t2,t3,Ent.row,Lnk.enc]))))
   rw[hi]
  rw[t4]at hI
  have n4: ¬ident x.tgt=false:=by rw[t4];decide
  rcases Bool.eq_false_or_eq_true (x.tgt==e.id)with t5|t5
  ·have hE:linkE e.id (prevAt e.links k) x=17:=by rw[linkE,if_neg n23,if_neg n4,if_pos (by simpa using t5)]
   rw[hE,if_pos (by decide)]at hi
   (repeat'(first|apply kA|apply kB|((first|refine kc (N:=76) ?_|refine kj (N:=76) kq6 ?_|apply kD|apply kE|refine kx hI ?_|apply kF);simp +decide only[go_sem,hlt,hw,hx,t2,t3,t5,Ent.row,Lnk.enc])|(apply kG;(simp +decide only[go_sem,hlt,hw,hx,t2,t3,t5,Ent.row,Lnk.enc];rfl);all_goals(intro hcnd;try exact kz hcnd))|((first|apply kH|apply kI)<;>(intro hcnd;simp +decide only[go_sem,hcnd,hlt,hw,hx,t2,t3,t5,Ent.row,Lnk.enc]))))
   rw[hi]
  have n5: ¬x.tgt=e.id:=by simpa using t5
  have hE5:linkE e.id (prevAt e.links k) x=if badP (prevAt e.links k) x=true then 10 else 0:=by rw[linkE,if_neg n23,if_neg n4,if_neg n5]
  rw[hE5]at hi
  clear hE5
  rcases Nat.eq_zero_or_pos k with hk0|hk0
  ·have h0:decide ((0:Int)<(k:Int))=false:=by simp[hk0]
   have hb:badP (prevAt e.links k) x=false:=by rw[hk0];rfl
   rw[hb,if_neg (by decide)]at hi
   (repeat'(first|apply kA|apply kB|((first|refine kc (N:=76) ?_|refine kj (N:=76) kq6 ?_|apply kD|apply kE|refine kx hI ?_|apply kF);simp +decide only[go_sem,hlt,hw,hx,t2,t3,t5,h0,Ent.row,Lnk.enc])|(apply kG;(simp +decide only[go_sem,hlt,hw,hx,t2,t3,t5,h0,Ent.row,Lnk.enc];rfl);all_goals(intro hcnd;try exact kz hcnd))|((first|apply kH|apply kI)<;>(intro hcnd;simp +decide only[go_sem,hcnd,hlt,hw,hx,t2,t3,t5,h0,Ent.row,Lnk.enc]))))
   exact⟨by rw[prev_succ hx];exact hi,kM rfl (by simp +decide only[go_sem]) (by simp +decide only[go_sem,Ent.row])⟩
  ·obtain⟨m,hkm⟩: ∃m,k=m+1:=⟨k - 1,by omega⟩
   obtain⟨y,hy⟩: ∃y,e.links[m]? =some y:=⟨_,List.getElem?_eq_getElem (by omega)⟩
   have h0:decide ((0:Int)<(k:Int))=true:=by simp;omega
   have hwm:IntKind.i64.wrap ((k:Int) - 1)=(m:Int):=by rw[show (k:Int) - 1=(m:Int) by omega];exact wrap64n (by omega)
   have bad:lessL y x=false→linkL e.id (prevAt e.links k) (x::e.links.drop (k+1))=10:=fun t7=>by
    have hb:badP (prevAt e.links k) x=true:=by rw[hkm,prev_succ hy,badP,t7];rfl
    rw[linkL,linkE,if_neg n23,if_neg n4,if_neg n5,hb,if_pos rfl,if_pos (by decide)]
   have good:lessL y x=true→linkL e.id (some x) (e.links.drop (k+1))=linksE e:=fun t7=>by
    have hb:badP (prevAt e.links k) x=false:=by rw[hkm,prev_succ hy,badP,t7];rfl
    rw[hb,if_neg (by decide)]at hi
    exact hi
   have all:linkL e.id (prevAt e.links k) (x::e.links.drop (k+1))=linksE e:=by
    rw[linkL,linkE,if_neg n23,if_neg n4,if_neg n5];exact hi
   rcases Bool.eq_false_or_eq_true (decide (x.kind<y.kind))with c1|c1
   ·have m1:=of_decide_eq_true c1
    rw[bad (by simp[lessL];omega)]at all
    (repeat'(first|apply kA|apply kB|((first|refine kc (N:=76) ?_|refine kj (N:=76) kq6 ?_|apply kD|apply kE|refine kx hI ?_|apply kF);simp +decide only[go_sem,hlt,hw,hx,hy,t2,t3,t5,h0,hwm,c1,Int.toNat_natCast,Ent.row,Lnk.enc])|(apply kG;(simp +decide only[go_sem,hlt,hw,hx,hy,t2,t3,t5,h0,hwm,c1,Int.toNat_natCast,Ent.row,Lnk.enc];rfl);all_goals(intro hcnd;try exact kz hcnd))|((first|apply kH|apply kI)<;>(intro hcnd;simp +decide only[go_sem,hcnd,hlt,hw,hx,hy,t2,t3,t5,h0,hwm,c1,Int.toNat_natCast,Ent.row,Lnk.enc]))))
    rw[all]
   have m1:=of_decide_eq_false c1
   rcases Bool.eq_false_or_eq_true (x.kind==y.kind)with c2|c2
   ·have m2:x.kind=y.kind:=by simpa using c2
    rcases Bool.eq_false_or_eq_true (decide (x.tgt≤y.tgt))with c3|c3
    ·have m3:=of_decide_eq_true c3
     rw[bad (by simp[lessL];omega)]at all
     (repeat'(first|apply kA|apply kB|((first|refine kc (N:=76) ?_|refine kj (N:=76) kq6 ?_|apply kD|apply kE|refine kx hI ?_|apply kF);simp +decide only[go_sem,hlt,hw,hx,hy,t2,t3,t5,h0,hwm,c1,c2,c3,Int.toNat_natCast,Ent.row,Lnk.enc])|(apply kG;(simp +decide only[go_sem,hlt,hw,hx,hy,t2,t3,t5,h0,hwm,c1,c2,c3,Int.toNat_natCast,Ent.row,Lnk.enc];rfl);all_goals(intro hcnd;try exact kz hcnd))|((first|apply kH|apply kI)<;>(intro hcnd;simp +decide only[go_sem,hcnd,hlt,hw,hx,hy,t2,t3,t5,h0,hwm,c1,c2,c3,Int.toNat_natCast,Ent.row,Lnk.enc]))))
     rw[all]
    ·have m3:=of_decide_eq_false c3
     have hg:=good (by simp[lessL];omega)
     (repeat'(first|apply kA|apply kB|((first|refine kc (N:=76) ?_|refine kj (N:=76) kq6 ?_|apply kD|apply kE|refine kx hI ?_|apply kF);simp +decide only[go_sem,hlt,hw,hx,hy,t2,t3,t5,h0,hwm,c1,c2,c3,Int.toNat_natCast,Ent.row,Lnk.enc])|(apply kG;(simp +decide only[go_sem,hlt,hw,hx,hy,t2,t3,t5,h0,hwm,c1,c2,c3,Int.toNat_natCast,Ent.row,Lnk.enc];rfl);all_goals(intro hcnd;try exact kz hcnd))|((first|apply kH|apply kI)<;>(intro hcnd;simp +decide only[go_sem,hcnd,hlt,hw,hx,hy,t2,t3,t5,h0,hwm,c1,c2,c3,Int.toNat_natCast,Ent.row,Lnk.enc]))))
     exact⟨by rw[prev_succ hx];exact hg,kM rfl (by simp +decide only[go_sem]) (by simp +decide only[go_sem,Ent.row])⟩
   ·have m2:x.kind≠y.kind:=by simpa using c2
    have hg:=good (by simp[lessL];omega)
    (repeat'(first|apply kA|apply kB|((first|refine kc (N:=76) ?_|refine kj (N:=76) kq6 ?_|apply kD|apply kE|refine kx hI ?_|apply kF);simp +decide only[go_sem,hlt,hw,hx,hy,t2,t3,t5,h0,hwm,c1,c2,Int.toNat_natCast,Ent.row,Lnk.enc])|(apply kG;(simp +decide only[go_sem,hlt,hw,hx,hy,t2,t3,t5,h0,hwm,c1,c2,Int.toNat_natCast,Ent.row,Lnk.enc];rfl);all_goals(intro hcnd;try exact kz hcnd))|((first|apply kH|apply kI)<;>(intro hcnd;simp +decide only[go_sem,hcnd,hlt,hw,hx,hy,t2,t3,t5,h0,hwm,c1,c2,Int.toNat_natCast,Ent.row,Lnk.enc]))))
    exact⟨by rw[prev_succ hx];exact hg,kM rfl (by simp +decide only[go_sem]) (by simp +decide only[go_sem,Ent.row])⟩
 ·intro hlt hi
  (repeat'(first|apply kA|apply kB|((first|refine kc (N:=76) ?_|refine kj (N:=76) kq6 ?_|apply kD|apply kE|apply kF);simp +decide only[go_sem,hlt,Ent.row])|(apply kG;(simp +decide only[go_sem,hlt,Ent.row];rfl);all_goals(intro hcnd;try exact kz hcnd))|((first|apply kH|apply kI)<;>(intro hcnd;simp +decide only[go_sem,hcnd,hlt,Ent.row]))))
  rw[← hi];simp[linkL]
def refE(p:Option Lnk)(x:Lnk):Int:=if okRef x=false then 2 else if badP p x=true then 10 else 0
def refL(p:Option Lnk):List Lnk→Int
 | []=>0
 | x::l=>if refE p x≠0 then refE p x else refL (some x) l
def refsE(rs:List Lnk):Int:=if 12<rs.length then 11 else refL none rs
theorem rRefs_D(rs:List Lnk):DCalls Tryz.prog 133 [dv (.sl 2 (rs.map Lnk.enc)),dv (li 12)] (dv (li (refsE rs))):=by
 have hmax:maxLen=9223372036854775807:=rfl
 refine kd (N:=37) (rs:= [.tmp 4]) Tryz.func133 ?_
 rcases Bool.eq_false_or_eq_true (decide ((12:Int)<(rs.length:Int)))with t1|t1
 ·(repeat'(first|apply kA|apply kB|((first|refine kc (N:=37) ?_|refine kj (N:=37) kq7 ?_|apply kD|apply kE|apply kF);simp +decide only[go_sem,t1])|(apply kG;(simp +decide only[go_sem,t1];rfl);all_goals(intro hcnd;try exact kz hcnd))|((first|apply kH|apply kI)<;>(intro hcnd;simp +decide only[go_sem,hcnd,t1]))))
  rw[refsE,if_pos (by have:=of_decide_eq_true t1;omega)]
 have n1: ¬12<rs.length:=by have:=of_decide_eq_false t1;omega
 (repeat'(first|apply kA|apply kB|((first|refine kc (N:=37) ?_|refine kj (N:=37) kq7 ?_|apply kD|apply kE);simp +decide only[go_sem,t1])|(apply kG;(simp +decide only[go_sem,t1];rfl);all_goals(intro hcnd;try exact kz hcnd))|((first|apply kH|apply kI)<;>(intro hcnd;simp +decide only[go_sem,hcnd,t1]))))
 refine dw_rngI rs (fun k=>kn 37 [(0,dv (.sl 2 (rs.map Lnk.enc))),(5,dv (li k))] noMem) (fun k=>refL (prevAt rs k) (rs.drop k)=refsE rs) (by omega) (kL rfl (by simp +decide only[go_sem]) (by simp[noMem])) (by rw[refsE,if_neg n1];simp[prev_zero]) ?_ ?_
 ·intro k x hx hk hm htk hlt hw hi
  rw[drop_at hx,refL]at hi
  have hI:=rRef_D x
  simp only[Lnk.row]at hI
  cases t4:okRef x
  ·rw[t4]at hI
   have hE:refE (prevAt rs k) x=2:=by rw[refE,t4];rfl
   rw[hE,if_pos (by decide)]at hi
   (repeat'(first|apply kA|apply kB|((first|refine kc (N:=37) ?_|refine kj (N:=37) kq7 ?_|apply kD|apply kE|refine kx hI ?_|apply kF);simp +decide only[go_sem,hlt,hw,hx,Lnk.enc,Lnk.row])|(apply kG;(simp +decide only[go_sem,hlt,hw,hx,Lnk.enc,Lnk.row];rfl);all_goals(intro hcnd;try exact kz hcnd))|((first|apply kH|apply kI)<;>(intro hcnd;simp +decide only[go_sem,hcnd,hlt,hw,hx,Lnk.enc,Lnk.row]))))
   rw[hi]
  rw[t4]at hI
  have n4: ¬okRef x=false:=by rw[t4];decide
  have hE5:refE (prevAt rs k) x=if badP (prevAt rs k) x=true then 10 else 0:=by rw[refE,if_neg n4]
  rw[hE5]at hi
  clear hE5
  rcases Nat.eq_zero_or_pos k with hk0|hk0
  ·have h0:decide ((0:Int)<(k:Int))=false:=by simp[hk0]
   have hb:badP (prevAt rs k) x=false:=by rw[hk0];rfl
   rw[hb,if_neg (by decide)]at hi
   (repeat'(first|apply kA|apply kB|((first|refine kc (N:=37) ?_|refine kj (N:=37) kq7 ?_|apply kD|apply kE|refine kx hI ?_|apply kF);simp +decide only[go_sem,hlt,hw,hx,h0,Lnk.enc,Lnk.row])|(apply kG;(simp +decide only[go_sem,hlt,hw,hx,h0,Lnk.enc,Lnk.row];rfl);all_goals(intro hcnd;try exact kz hcnd))|((first|apply kH|apply kI)<;>(intro hcnd;simp +decide only[go_sem,hcnd,hlt,hw,hx,h0,Lnk.enc,Lnk.row]))))
   exact⟨by rw[prev_succ hx];exact hi,kL rfl (by simp +decide only[go_sem]) (by simp[noMem])⟩
  ·obtain⟨m,hkm⟩: ∃m,k=m+1:=⟨k - 1,by omega⟩
   obtain⟨y,hy⟩: ∃y,rs[m]? =some y:=⟨_,List.getElem?_eq_getElem (by omega)⟩
   have h0:decide ((0:Int)<(k:Int))=true:=by simp;omega
   have hwm:IntKind.i64.wrap ((k:Int) - 1)=(m:Int):=by rw[show (k:Int) - 1=(m:Int) by omega];exact wrap64n (by omega)
   have hO:=prec_D y x
   simp only[Lnk.row]at hO
   cases t7:lessL y x
   ·rw[t7]at hO
    have hb:badP (prevAt rs k) x=true:=by rw[hkm,prev_succ hy,badP,t7];rfl
    rw[hb,if_pos (by decide),if_pos rfl]at hi
    (repeat'(first|apply kA|apply kB|((first|refine kc (N:=37) ?_|refine kj (N:=37) kq7 ?_|apply kD|apply kE|refine kx hI ?_|refine kx hO ?_|apply kF);simp +decide only[go_sem,hlt,hw,hx,hy,h0,hwm,Int.toNat_natCast,Lnk.enc,Lnk.row])|(apply kG;(simp +decide only[go_sem,hlt,hw,hx,hy,h0,hwm,Int.toNat_natCast,Lnk.enc,Lnk.row];rfl);all_goals(intro hcnd;try exact kz hcnd))|((first|apply kH|apply kI)<;>(intro hcnd;simp +decide only[go_sem,hcnd,hlt,hw,hx,hy,h0,hwm,Int.toNat_natCast,Lnk.enc,Lnk.row]))))
    rw[hi]
   ·rw[t7]at hO
    have hb:badP (prevAt rs k) x=false:=by rw[hkm,prev_succ hy,badP,t7];rfl
    rw[hb,if_neg (by decide)]at hi
    (repeat'(first|apply kA|apply kB|((first|refine kc (N:=37) ?_|refine kj (N:=37) kq7 ?_|apply kD|apply kE|refine kx hI ?_|refine kx hO ?_|apply kF);simp +decide only[go_sem,hlt,hw,hx,hy,h0,hwm,Int.toNat_natCast,Lnk.enc,Lnk.row])|(apply kG;(simp +decide only[go_sem,hlt,hw,hx,hy,h0,hwm,Int.toNat_natCast,Lnk.enc,Lnk.row];rfl);all_goals(intro hcnd;try exact kz hcnd))|((first|apply kH|apply kI)<;>(intro hcnd;simp +decide only[go_sem,hcnd,hlt,hw,hx,hy,h0,hwm,Int.toNat_natCast,Lnk.enc,Lnk.row]))))
    exact⟨by rw[prev_succ hx];exact hi,kL rfl (by simp +decide only[go_sem]) (by simp[noMem])⟩
 ·intro hlt hi
  (repeat'(first|apply kA|apply kB|((first|refine kc (N:=37) ?_|refine kj (N:=37) kq7 ?_|apply kD|apply kE|apply kF);simp +decide only[go_sem,hlt])|(apply kG;(simp +decide only[go_sem,hlt];rfl);all_goals(intro hcnd;try exact kz hcnd))|((first|apply kH|apply kI)<;>(intro hcnd;simp +decide only[go_sem,hcnd,hlt]))))
  rw[← hi];simp[refL]
structure MidE(e:Ent):Prop where
 form:e.form.length≤1048576
 alts:e.alts.length≤1048576
 alt: ∀a∈e.alts,a.length≤1048576
 senses:e.senses.length≤1048576
 links:e.links.length≤1048576
 refs:e.refs.length≤1048576
 strs: ∀s∈e.senses,s.gloss.size≤1048576∧s.txt.size≤1048576
def checkE(g:List Phon)(e:Ent):Int:=
 if ident e.id=false then 2 else if formsE g e≠0 then formsE g e else if sensesE e≠0 then sensesE e else if linksE e≠0 then linksE e else refsE e.refs
theorem rCheck_D(g:List Phon)(e:Ent)(he:MidE e):DCalls Tryz.prog 103 [.agg (invRow g),.agg e.row] (dv (li (checkE g e))):=by
 have h1:=rWords_D g e
 have h2:=rSenses_D e he.strs
 have h3:=rLinks_D e
 have h4:=rRefs_D e.refs
 simp only[Ent.row,invRow]at h1 h2 h3 h4
 refine kd (N:=27) (rs:= [.tmp 4]) Tryz.func103 ?_
 cases t0:ident e.id
 ·rw[t0,if_pos rfl]at h1
  (repeat'(first|apply kA|apply kB|((first|refine kc (N:=27) ?_|apply kD|apply kE|refine kx h1 ?_|apply kF);simp +decide only[go_sem,Ent.row,invRow])|(apply kG;(simp +decide only[go_sem,Ent.row,invRow];rfl);all_goals(intro hcnd;try exact kz hcnd))))
  rw[checkE,if_pos t0]
 have n0: ¬ident e.id=false:=by rw[t0];decide
 rw[if_neg n0]at h1
 rcases Bool.eq_false_or_eq_true (formsE g e !=0)with t1|t1
 ·have n1:formsE g e≠0:=by simpa using t1
  (repeat'(first|apply kA|apply kB|((first|refine kc (N:=27) ?_|apply kD|apply kE|refine kx h1 ?_|apply kF);simp +decide only[go_sem,t1,Ent.row,invRow])|(apply kG;(simp +decide only[go_sem,t1,Ent.row,invRow];rfl);all_goals(intro hcnd;try exact kz hcnd))))
  rw[checkE,if_neg n0,if_pos n1]
 have n1: ¬formsE g e≠0:=by simpa using t1
 rcases Bool.eq_false_or_eq_true (sensesE e !=0)with t2|t2
 ·have n2:sensesE e≠0:=by simpa using t2
  (repeat'(first|apply kA|apply kB|((first|refine kc (N:=27) ?_|apply kD|apply kE|refine kx h1 ?_|refine kx h2 ?_|apply kF);simp +decide only[go_sem,t1,t2,Ent.row,invRow])|(apply kG;(simp +decide only[go_sem,t1,t2,Ent.row,invRow];rfl);all_goals(intro hcnd;try exact kz hcnd))))
  rw[checkE,if_neg n0,if_neg n1,if_pos n2]
 have n2: ¬sensesE e≠0:=by simpa using t2
 rcases Bool.eq_false_or_eq_true (linksE e !=0)with t3|t3
 ·have n3:linksE e≠0:=by simpa using t3
  (repeat'(first|apply kA|apply kB|((first|refine kc (N:=27) ?_|apply kD|apply kE|refine kx h1 ?_|refine kx h2 ?_|refine kx h3 ?_|apply kF);simp +decide only[go_sem,t1,t2,t3,Ent.row,invRow])|(apply kG;(simp +decide only[go_sem,t1,t2,t3,Ent.row,invRow];rfl);all_goals(intro hcnd;try exact kz hcnd))))
  rw[checkE,if_neg n0,if_neg n1,if_neg n2,if_pos n3]
 have n3: ¬linksE e≠0:=by simpa using t3
 (repeat'(first|apply kA|apply kB|((first|refine kc (N:=27) ?_|apply kD|apply kE|refine kx h1 ?_|refine kx h2 ?_|refine kx h3 ?_|refine kx h4 ?_|apply kF);simp +decide only[go_sem,t1,t2,t3,Ent.row,invRow])|(apply kG;(simp +decide only[go_sem,t1,t2,t3,Ent.row,invRow];rfl);all_goals(intro hcnd;try exact kz hcnd))))
 rw[checkE,if_neg n0,if_neg n1,if_neg n2,if_neg n3]
end Go.Proofs.YtehdkccjaeckhaaGreatDoor
namespace Go.Proofs.YtehdkccjaeckhaaGreatDoor
open Go.Dl
def hasId(l:List Ent)(id:Int):Bool:=l.any fun e=>e.id==id
def UpE(l:List Ent):Prop:=l.Pairwise fun a b=>a.id<b.id
end Go.Proofs.YtehdkccjaeckhaaGreatDoor
namespace Go.Proofs.YtehdkccjaeckhaaGreatDoor.S
open Go.Dl
attribute [local irreducible] DW DCalls ECalls wk IW
abbrev li(n:Int):C:=.lit (.int .i64 n)
abbrev lb(b:Bool):C:=.lit (.bool b)
abbrev dv(c:C):D:=.one (.c c)
abbrev ints(xs:List Int):List (List C):=xs.map fun x=> [li x]
theorem values1_S(xs:List Int)(hl:xs.length≤maxLen):SeqD Tryz.prog 141 [dv (.pt [.sl 1 (ints xs)])] (xs.map fun x=> [dv (li x)]):=by
 refine seqD_intro (by kernel_rfl) Tryz.func141 rfl rfl (by simp) (by have:=NB_big;simp;omega) ?_
 intro n l J hJ hY
 refine iw_seq (iw_pureQ hJ ?_)
 (repeat(first|apply kA|apply kB|((first|refine kc (N:=16) ?_|apply kD|apply kE);simp +decide only[go_sem])))
 refine iw_block ?_
 refine iw_loop (fun k:Nat=>kn 16 [(0,dv (.lit (.func (.yield l) #[] #[]))),(5,dv (.sl 1 (ints xs))),(6,dv (li xs.length)),(7,dv (li k))] noMem) (fun k=>some k) (fun k=>k≤xs.length) (fun k=>xs.length - k) 0 (fsub_kn rfl (by simp +decide only[go_sem])) rfl (by omega) ?_
 intro k hk
 refine iw_seq (iw_pureQ hJ ?_)
 (repeat(first|apply kA|apply kB|((first|refine kc (N:=16) ?_|apply kD|apply kE);simp +decide only[go_sem])))
 refine iw_seq ?_
 refine iw_cond (by simp +decide only[go_sem];rfl) ?_ ?_
 ·intro hc
  have hk':k<xs.length:=by simpa using hc
  refine iw_skip ?_
  simp +decide only[go_sem]
  refine iw_seq ?_
  refine iw_block ?_
  refine iw_seq (iw_pureQ hJ ?_)
  have hx:xs[k]? =some xs[k]:=List.getElem?_eq_getElem hk'
  (repeat(first|apply kA|apply kB|((first|refine kc (N:=16) ?_|apply kD|apply kE);simp +decide only[go_sem,hx])))
  refine iw_seq ?_
  refine iw_region hJ hY 2 rfl (by kernel_rfl) ?_
  simp only[List.take_succ_cons,List.take_zero,List.drop_succ_cons,List.drop_zero,List.map_cons,List.map_nil]
  simp +decide only[go_sem]
  refine⟨true,rfl,fun h=>(by cases h),fun _=>⟨_,_,_,k,[dv (li xs[k])],rfl,by simp +decide only[go_sem],rfl,by simp[hx],DLeL.of_eq (by simp +decide only[go_sem]),fun b=>?_⟩⟩
  simp +decide only[go_sem]
  cases b
  ·refine iw_cond (by simp +decide only[go_sem];rfl) (fun _=>iw_ret ?_) (fun h=>by cases h)
   simp +decide only[go_sem]
   exact .inr rfl
  ·refine iw_cond (by simp +decide only[go_sem];rfl) (fun h=>by cases h) (fun _=>iw_skip ?_)
   simp +decide only[go_sem]
   refine iw_pureQ hJ ?_
   have hw:=wrap_succ k (by omega)
   (repeat(first|apply kA|apply kB|((first|refine kc (N:=16) ?_|apply kD|apply kE);simp +decide only[go_sem,hw])))
   exact⟨k+1,by omega,by omega,fsub_kn rfl (by simp +decide only[go_sem]),rfl⟩
 ·intro hc
  have hk':k=xs.length:=by simp at hc;omega
  refine iw_exit ?_
  simp +decide only[go_sem]
  simp[iterQ,hk']
end Go.Proofs.YtehdkccjaeckhaaGreatDoor.S
namespace Go.Proofs.YtehdkccjaeckhaaGreatDoor
open Go.Shelf
def sortA_ren:Go.Shelf.Ren:=⟨fun|5=>140|8=>164|7=>163|19=>189|20=>176|10=>180|11=>181|12=>182|13=>183|14=>184|15=>185|16=>186|17=>187|18=>188|30=>194|31=>195|32=>196|33=>197|34=>198|35=>136|40=>201|n=>n,fun|23=>31|25=>3|3=>3|32=>206|22=>31|0=>0|44=>215|46=>198|4=>4|36=>219|35=>218|41=>180|5=>5|9=>9|53=>226|57=>230|63=>236|64=>189|n=>n,fun|n=>n⟩
theorem sortA:Go.Proofs.SlLaysM.n5 Tryz.prog sortA_ren:={
 mixed:=by kernel_rfl
 f5:=⟨Tryz.f140.name,by decide,Tryz.func140.trans (congrArg some (by kernel_rfl))⟩
 f7:=⟨Tryz.f163.name,by decide,Tryz.func163.trans (congrArg some (by kernel_rfl))⟩
 f8:=Tryz.func164.trans (congrArg some (by kernel_rfl))
 f10:=⟨Tryz.f180.name,by decide,Tryz.func180.trans (congrArg some (by kernel_rfl))⟩
 f11:=⟨Tryz.f181.name,by decide,Tryz.func181.trans (congrArg some (by kernel_rfl))⟩
 f12:=⟨Tryz.f182.name,by decide,Tryz.func182.trans (congrArg some (by kernel_rfl))⟩
 f13:=⟨Tryz.f183.name,by decide,Tryz.func183.trans (congrArg some (by kernel_rfl))⟩
 f14:=⟨Tryz.f184.name,by decide,Tryz.func184.trans (congrArg some (by kernel_rfl))⟩
 f15:=⟨Tryz.f185.name,by decide,Tryz.func185.trans (congrArg some (by kernel_rfl))⟩
 f16:=⟨Tryz.f186.name,by decide,Tryz.func186.trans (congrArg some (by kernel_rfl))⟩
 f17:=⟨Tryz.f187.name,by decide,Tryz.func187.trans (congrArg some (by kernel_rfl))⟩
 f18:=⟨Tryz.f188.name,by decide,Tryz.func188.trans (congrArg some (by kernel_rfl))⟩
 f19:=Tryz.func189.trans (congrArg some (by kernel_rfl))
 f20:=Tryz.func176.trans (congrArg some (by kernel_rfl))
 f30:=⟨Tryz.f194.name,by decide,Tryz.func194.trans (congrArg some (by kernel_rfl))⟩
 f31:=Tryz.func195.trans (congrArg some (by kernel_rfl))
 f32:=Tryz.func196.trans (congrArg some (by kernel_rfl))
 f33:=⟨Tryz.f197.name,by decide,Tryz.func197.trans (congrArg some (by kernel_rfl))⟩
 f34:=⟨Tryz.f198.name,by decide,Tryz.func198.trans (congrArg some (by kernel_rfl))⟩
 f35:=⟨Tryz.f136.name,by decide,Tryz.func136.trans (congrArg some (by kernel_rfl))⟩
 f40:=⟨Tryz.f201.name,by decide,Tryz.func201.trans (congrArg some (by kernel_rfl))⟩
 t0:=Tryz.underlying0
 a0:=Tryz.isAgg0
 z0:=Tryz.sizeOf0
 v0:=Tryz.zeroValue0
 t3:=Tryz.underlying3
 a3:=Tryz.isAgg3
 z3:=Tryz.sizeOf3
 v3:=Tryz.zeroValue3
 t4:=Tryz.underlying4
 a4:=Tryz.isAgg4
 z4:=Tryz.sizeOf4
 v4:=Tryz.zeroValue4
 t5:=Tryz.underlying5
 a5:=Tryz.isAgg5
 z5:=Tryz.sizeOf5
 v5:=Tryz.zeroValue5
 t9:=Tryz.underlying9
 a9:=Tryz.isAgg9
 z9:=Tryz.sizeOf9
 v9:=Tryz.zeroValue9
 t22:=Tryz.underlying31
 a22:=Tryz.isAgg31
 z22:=Tryz.sizeOf31
 v22:=Tryz.zeroValue31
 t23:=Tryz.underlying31
 a23:=Tryz.isAgg31
 z23:=Tryz.sizeOf31
 v23:=Tryz.zeroValue31
 t25:=Tryz.underlying3
 a25:=Tryz.isAgg3
 z25:=Tryz.sizeOf3
 v25:=Tryz.zeroValue3
 t32:=Tryz.underlying206
 a32:=Tryz.isAgg206
 z32:=Tryz.sizeOf206
 v32:=Tryz.zeroValue206
 t35:=Tryz.underlying218
 a35:=Tryz.isAgg218
 z35:=Tryz.sizeOf218
 v35:=Tryz.zeroValue218
 t36:=Tryz.underlying219
 a36:=Tryz.isAgg219
 z36:=Tryz.sizeOf219
 v36:=Tryz.zeroValue219
 t41:=Tryz.underlying180
 a41:=Tryz.isAgg180
 z41:=Tryz.sizeOf180
 v41:=Tryz.zeroValue180
 t44:=Tryz.underlying215
 a44:=Tryz.isAgg215
 z44:=Tryz.sizeOf215
 v44:=Tryz.zeroValue215
 t46:=Tryz.underlying198
 a46:=Tryz.isAgg198
 z46:=Tryz.sizeOf198
 v46:=Tryz.zeroValue198
 t53:=Tryz.underlying226
 a53:=Tryz.isAgg226
 z53:=Tryz.sizeOf226
 v53:=Tryz.zeroValue226
 t57:=Tryz.underlying230
 a57:=Tryz.isAgg230
 z57:=Tryz.sizeOf230
 v57:=Tryz.zeroValue230
 t63:=Tryz.underlying236
 a63:=Tryz.isAgg236
 z63:=Tryz.sizeOf236
 v63:=Tryz.zeroValue236
 t64:=Tryz.underlying189
 a64:=Tryz.isAgg189
 z64:=Tryz.sizeOf189
 v64:=Tryz.zeroValue189 }
end Go.Proofs.YtehdkccjaeckhaaGreatDoor
namespace Go.Proofs.YtehdkccjaeckhaaGreatDoor.S
open Go.Dl
attribute [local irreducible] DW DCalls ECalls wk IW
theorem values_D(xs:List Int):DCalls Tryz.prog 119 [dv (.sl 1 (ints xs))] (dv (.fn 141 [.pt [.sl 1 (ints xs)]])):=by
 refine kd (N:=4) (rs:= [.tmp 2]) Tryz.func119 ?_
 (repeat(first|apply kA|apply kB|((first|refine kc (N:=4) ?_|apply kD|apply kE);simp +decide only[go_sem])))
 refine dw_frz1 1 [.sl 1 (ints xs)] (by simp) (by simp +decide only[go_sem]) ?_
 apply kF;simp +decide only[go_sem]
theorem iRows_tr(r:Ren)(xs:List Int):Dl.Rows.tr r (iRows xs)=iRows xs:=by
 simp[iRows,Dl.Rows.tr,T.trAll,T.tr]
theorem iRows_sz(xs:List Int):RowsSz 1 (iRows xs):=fun r hr=>by
 obtain⟨x,_,rfl⟩:=List.mem_map.1 hr;rfl
theorem iRows_len(xs:List Int):(iRows xs).length=xs.length:=by simp[iRows]
theorem iRows_app(xs ys:List Int):iRows (xs++ys)=iRows xs++iRows ys:=by simp[iRows]
attribute [go_sem] iRows_tr
theorem appendSeq_E(xs:List Int)(hl:xs.length≤1000000):ECalls Tryz.prog 162 [dv (.lit (.slice none 0 0)),dv (.fn 141 [.pt [.sl 1 (ints xs)]])] noMem
  (fun r H'=>∃j,r= .one (.ba 0 1 0 xs.length (xs.length+j))∧H'=ml [(0,iRows xs++anyRows j 1)]):=by
 have hmax:maxLen=9223372036854775807:=rfl
 refine ecalls (N:=13) (rs:= [.tmp 4]) (by kernel_rfl) Tryz.func162 rfl rfl rfl (by simp) ?_
 (repeat(first|apply kA|apply kB|((first|refine kc (N:=13) ?_|apply kD|apply kE);simp +decide only[go_sem])))
 refine kK (sub_nilAt 2 1 (by simp +decide only[go_sem])) ?_
 refine kK (sub_zeroAt (i:=0) (j:=0) 2 1000 1 1 (rows:= [[.ex 1 []]]) (r:= [.ex 1 []]) (by simp +decide only[go_sem]) (by decide) rfl rfl) ?_
 refine dw_rfS 13 oneMid [2] (fun k (j:Nat)=>kn 13 [(2,.one (.bx 2 1 0 0))] (ml [(2,[[.ba 1000 1 0 k (k+j)]]),(1000,iRows (xs.take k)++anyRows j 1)])) (fun k j=>True) 0 trivial rfl rfl (by decide) (by simp +decide only[go_sem];exact⟨rfl,rfl⟩) (values1_S xs (by omega))
  (kM rfl (by simp +decide only[go_sem]) (by simp +decide only[go_sem])) (fun _ _=>rfl) (by intro ds h;obtain⟨c,_,rfl⟩:=List.mem_map.1 h;rfl) ?_ ?_
 ·intro k ds j hk _
  simp only[List.getElem?_map,Option.map_eq_some_iff]at hk
  obtain⟨x,hx,rfl⟩:=hk
  have hkl:k<xs.length:=(List.getElem?_eq_some_iff.1 hx).1
  have htk:(xs.take k).length=k:=by simp;omega
  (repeat(first|apply kA|apply kB|((first|refine kc (N:=13) ?_|apply kD|apply kE);simp +decide only[go_sem])))
  refine StepC.mk (Step.appendList (n:=1000) (rows:=iRows (xs.take k)) (ys:=iRows [x]) (j:=j) (sz:=1) (by_:=8) rfl rfl (by simp +decide only[go_sem]) (by simp +decide only[go_sem,iRows_len,htk]) (by simp +decide only[go_sem]) (iRows_sz _) (.ex [[li x]]) (by simp[iRows];omega) ?_)
  intro j'
  simp +decide only[go_sem,iRows_len,htk]
  (repeat(first|apply kA|apply kB|((first|refine kc (N:=13) ?_|apply kD|apply kE);simp +decide only[go_sem])))
  refine⟨_,sub_mv 11 1000 (by decide),?_⟩
  refine⟨j',kM rfl (by simp +decide only[go_sem]) (by simp +decide only[go_sem];rw[take_snoc hx,iRows_app,List.append_assoc])⟩
 ·intro j _
  rw[List.length_map,List.take_length]
  (repeat(first|apply kA|apply kB|((first|refine kc (N:=13) ?_|apply kD|apply kE);simp +decide only[go_sem])))
  refine kK (DS.Sub.trans (sub_mv 1000 0 (by decide)) (kM (N:=13) (sls:= [(4,.one (.ba 0 1 0 xs.length (xs.length+j)))]) (bxs:= [(0,iRows xs++anyRows j 1)]) rfl (by simp +decide only[go_sem]) (by simp +decide only[go_sem]))) ?_
  apply kF;simp +decide only[go_sem]
  exact⟨j,rfl,rfl⟩
theorem collect_E(xs:List Int)(hl:xs.length≤1000000):ECalls Tryz.prog 139 [dv (.fn 141 [.pt [.sl 1 (ints xs)]])] noMem
  (fun r H'=>∃j,r= .one (.ba 0 1 0 xs.length (xs.length+j))∧H'=ml [(0,iRows xs++anyRows j 1)]):=by
 refine ecalls (N:=5) (rs:= [.tmp 2]) (by kernel_rfl) Tryz.func139 rfl rfl rfl (by simp) ?_
 (repeat(first|apply kA|apply kB|((first|refine kc (N:=5) ?_|apply kD|apply kE);simp +decide only[go_sem])))
 refine CallC.eff [] (appendSeq_E xs hl) rfl (DLeL.of_eq (by simp +decide only[go_sem])) (fun k r h=>by cases h) (by constructor<;>simp) ?_
 rintro r H' ⟨j,rfl,rfl⟩
 simp +decide only[go_sem]
 refine kK (DS.Sub.trans (sub_mv 4 0 (by decide)) (kM (N:=5) (sls:= [(2,.one (.ba 0 1 0 xs.length (xs.length+j)))]) (bxs:= [(0,iRows xs++anyRows j 1)]) rfl (by simp +decide only[go_sem]) (by simp +decide only[go_sem,callMemAft]))) ?_
 apply kF;simp +decide only[go_sem]
 exact⟨j,rfl,rfl⟩
theorem sortI_E(q cap:Nat)(H:Mem)(xs:List Int)(js:Dl.Rows)(hq:H q=some (iRows xs++js))(hjs:RowsSz 1 js)(hl:xs.length<4611686018427387904):
  ECalls Tryz.prog 140 [.one (.ba q 1 0 xs.length cap)] H (fun r H'=>r= .tup []∧H'=fun k=>if k=q then some (iRows (xs.mergeSort fun x y=>decide (x≤y))++js)else H k):=
 sort_E (by kernel_rfl) (AnyM.slices_Sort_int sortA) (AnyM.slices_Sort_int_none sortA) q cap H xs js hq hjs hl
abbrev srt(xs:List Int):List Int:=xs.mergeSort fun x y=>decide (x≤y)
theorem srt_len(xs:List Int):(srt xs).length=xs.length:=List.length_mergeSort _
theorem sortedS_E(xs:List Int)(hl:xs.length≤1000000):ECalls Tryz.prog 118 [dv (.fn 141 [.pt [.sl 1 (ints xs)]])] noMem
  (fun r H'=>∃j,r= .one (.ba 0 1 0 xs.length (xs.length+j))∧H'=ml [(0,iRows (srt xs)++anyRows j 1)]):=by
 refine ecalls (N:=9) (rs:= [.tmp 2]) (by kernel_rfl) Tryz.func118 rfl rfl rfl (by simp) ?_
 (repeat(first|apply kA|apply kB|((first|refine kc (N:=9) ?_|apply kD|apply kE);simp +decide only[go_sem])))
 refine CallC.eff [] (collect_E xs hl) rfl (DLeL.of_eq (by simp +decide only[go_sem])) (fun k r h=>by cases h) (by constructor<;>simp) ?_
 rintro r H' ⟨j,rfl,rfl⟩
 simp +decide only[go_sem]
 (repeat(first|apply kA|apply kB|((first|refine kc (N:=9) ?_|apply kD|apply kE);simp +decide only[go_sem])))
 refine CallC.eff [5] (sortI_E (5+NB) (xs.length+j) (fun k=>if k=5+NB then some (iRows xs++anyRows j 1)else none) xs (anyRows j 1) (by simp) (anyRows_sz j 1) (by omega)) rfl (DLeL.of_eq (by simp +decide only[go_sem])) (fun k r h=>?_) (by constructor<;>simp[mid]) ?_
 ·by_cases hk:k=5+NB
  ·subst hk;simp +decide only[go_sem]at h;subst h;simp +decide only[go_sem,callMemAft,callMem]
  ·simp +decide only[go_sem,hk]at h
 rintro r H' ⟨rfl,rfl⟩
 simp +decide only[go_sem]
 (repeat(first|apply kA|apply kB|((first|refine kc (N:=9) ?_|apply kD|apply kE);simp +decide only[go_sem])))
 refine kK (DS.Sub.trans (sub_mv 5 0 (by decide)) (kM (N:=9) (sls:= [(2,.one (.ba 0 1 0 xs.length (xs.length+j)))]) (bxs:= [(0,iRows (srt xs)++anyRows j 1)]) rfl (by simp +decide only[go_sem]) (by simp +decide only[go_sem,callMemAft]))) ?_
 apply kF;simp +decide only[go_sem]
 exact⟨j,rfl,rfl⟩
end Go.Proofs.YtehdkccjaeckhaaGreatDoor.S
namespace Go.Proofs.YtehdkccjaeckhaaGreatDoor
abbrev kpn10:List (Nat×Go.Dl.Mode):= [(0,.light),(1,.light),(2,.light),(3,.light),(4,.light),(5,.light),(6,.light),(7,.light),(8,.light),(9,.light)]
abbrev kq8:Nat→List (Nat×Go.Dl.Mode):=fun n=>match n with|6=>kpn10|11=>kpn10|_=> []
end Go.Proofs.YtehdkccjaeckhaaGreatDoor
namespace Go.Proofs.YtehdkccjaeckhaaGreatDoor.S
open Go.Dl
attribute [local irreducible] DW DCalls ECalls wk IW
def cptF(p:Option Int):List Int→List Int
 | []=> []
 | x::r=>if p=some x then cptF (some x) r else x::cptF (some x) r
def cpt(xs:List Int):List Int:=cptF none xs
theorem cptF_snoc(x:Int): ∀(l:List Int) (p:Option Int),cptF p (l++ [x])=cptF p l++if(l.getLast?.or p)=some x then []else [x]
 | [],p=>by by_cases h:p=some x<;>simp[cptF,h]
 | y::l,p=>by
  simp only[List.cons_append,cptF]
  have hl:((y::l).getLast?.or p)=(l.getLast?.or (some y)):=by cases l<;>simp[List.getLast?_cons]
  rw[hl]
  split
  ·exact cptF_snoc x l (some y)
  ·rw[cptF_snoc x l (some y)];rfl
theorem cpt_take{xs:List Int}{k:Nat}{x y:Int}(hx:xs[k+1]? =some x)(hy:xs[k]? =some y):cpt (xs.take (k+2))=cpt (xs.take (k+1))++if y=x then []else [x]:=by
 have h1:xs.take (k+2)=xs.take (k+1)++ [x]:=take_snoc hx
 have h2:(xs.take (k+1)).getLast? =some y:=by rw[take_snoc hy];simp
 rw[cpt,h1,cptF_snoc,h2];simp[cpt]
theorem cptF_len: ∀(l:List Int) (p:Option Int),(cptF p l).length≤l.length
 | [],p=>by simp[cptF]
 | x::l,p=>by
  simp only[cptF]
  split
  ·have:=cptF_len l (some x);simp;omega
  ·have:=cptF_len l (some x);simp;omega
theorem cpt_all{xs:List Int}{k:Nat}(h: ∀i x y,i+1<k→xs[i]? =some x→xs[i+1]? =some y→x≠y)(hk:k≤xs.length):cpt (xs.take k)=xs.take k:=by
 induction k with
 | zero=>simp[cpt,cptF]
 | succ k ih=>
  have ih':=ih (fun i x y hi=>h i x y (by omega)) (by omega)
  cases k with
  | zero=>
   cases xs with
   | nil=>simp[cpt,cptF]
   | cons x xs=>simp[cpt,cptF]
  | succ k=>
   have h1:xs[k+1]? =some xs[k+1]:=List.getElem?_eq_getElem (by omega)
   have h0:xs[k]? =some xs[k]:=List.getElem?_eq_getElem (by omega)
   rw[cpt_take h1 h0,if_neg (h k _ _ (by omega) h0 h1),ih',← take_snoc h1]
theorem iRows_at{zs:List Int}{js:Dl.Rows}{i:Nat}{x:Int}(h:zs[i]? =some x):(iRows zs++js)[i]? =some [T.c (li x)]:=by
 rw[List.getElem?_append_left (by rw[iRows_len];exact(List.getElem?_eq_some_iff.1 h).1)];exact iRows_get h
theorem iRows_set{zs:List Int}{js:Dl.Rows}{i:Nat}{x:Int}(h:i<zs.length):(iRows zs++js).set i [T.c (li x)]=iRows (zs.set i x)++js:=by
 rw[List.set_append_left _ _ (by rw[iRows_len];exact h)]
 simp[iRows,List.map_set]
theorem compact_E(xs:List Int)(j q:Nat)(hq:NB≤q)(hl:xs.length≤1000000):ECalls Tryz.prog 117 [.one (.ba q 1 0 xs.length (xs.length+j))] (ml [(q,iRows xs++anyRows j 1)])
  (fun r H'=>∃j',r= .one (.ba q 1 0 (cpt xs).length (xs.length+j))∧H'=ml [(q,iRows (cpt xs)++anyRows j' 1)]):=by
 have hmax:maxLen=9223372036854775807:=rfl
 have h64: ∀z:Int,-1≤z→z≤10000000→IntKind.wrap .i64 z=z:=fun z h1 h2=>wrap_i64 (by omega) (by omega)
 refine ecalls (N:=61) (rs:= [.tmp 2]) (by kernel_rfl) Tryz.func117 rfl rfl rfl (by simp) ?_
 (repeat(first|apply kA|apply kB|((first|refine kc (N:=61) ?_|refine kj (N:=61) kq8 ?_|apply kD|apply kE);simp +decide only[go_sem])))
 apply kG;(simp +decide only[go_sem];rfl)
 ·intro hc
  have hs:cpt xs=xs:=by
   have:=cpt_all (xs:=xs) (k:=xs.length) (fun i x y hi=>by simp at hc;omega) (Nat.le_refl _)
   rwa [List.take_length]at this
  (repeat(first|apply kA|apply kB|((first|refine kc (N:=61) ?_|refine kj (N:=61) kq8 ?_|apply kD|apply kE);simp +decide only[go_sem])))
  refine kK (kM (N:=61) (sls:= [(2,.one (.ba q 1 0 xs.length (xs.length+j)))]) (bxs:= [(q,iRows xs++anyRows j 1)]) rfl (by simp +decide only[go_sem]) (by simp +decide only[go_sem])) ?_
  apply kF;simp +decide only[go_sem]
  exact⟨j,by rw[hs],by rw[hs];rfl⟩
 ·intro hc
  have hc2:2≤xs.length:=by simp at hc;omega
  (repeat(first|apply kA|apply kB|((first|refine kc (N:=61) ?_|refine kj (N:=61) kq8 ?_|apply kD|apply kE);simp +decide only[go_sem])))
  refine dw_loop_fam (fun m:Nat=>kn 61 [(0,.one (.ba q 1 0 xs.length (xs.length+j))),(3,dv (li m))] (ml [(q,iRows xs++anyRows j 1)]))
   (fun m=>1≤m∧m≤xs.length∧∀i x y,i+1<m→xs[i]? =some x→xs[i+1]? =some y→x≠y) (fun k=>xs.length - k) 1 (kM rfl (by simp +decide only[go_sem]) (by simp +decide only[go_sem])) ⟨by omega,by omega,fun i x y hi=>by omega⟩ ?_
  rintro m ⟨hm1,hm,hall⟩
  (repeat(first|apply kA|apply kB|((first|refine kc (N:=61) ?_|refine kj (N:=61) kq8 ?_|apply kD|apply kE);simp +decide only[go_sem])))
  apply kG;(simp +decide only[go_sem];rfl)
  ·intro h1
   have hk':m<xs.length:=by simp at h1;omega
   have hx:xs[m]? =some xs[m]:=List.getElem?_eq_getElem hk'
   have hkl:m - 1<xs.length:=by omega
   have hy:xs[m - 1]? =some xs[m - 1]:=List.getElem?_eq_getElem hkl
   have hw:IntKind.wrap .i64 ((m:Int) - 1)=((m - 1:Nat):Int):=by rw[h64 _ (by omega) (by omega)];omega
   have hRx:=iRows_at (js:=anyRows j 1) hx
   have hRy:=iRows_at (js:=anyRows j 1) hy
   (repeat(first|apply kA|apply kB|((first|refine kc (N:=61) ?_|refine kj (N:=61) kq8 ?_|apply kD|apply kE);simp +decide only[go_sem,hw,hRx,hRy,hk',hkl])))
   apply kG;(simp +decide only[go_sem];rfl)
   ·intro h2
    have hle:xs.length≤xs.length+j:=by omega
    (repeat(first|apply kA|apply kB|((first|refine kc (N:=61) ?_|refine kj (N:=61) kq8 ?_|apply kD|apply kE);simp +decide only[go_sem,hm,hle])))
    have hxy:xs[m - 1]=xs[m]:=by simp at h2;exact h2.symm
    have hc1:cpt (xs.take (m+1))=xs.take m:=by
     obtain⟨k,rfl⟩: ∃k,m=k+1:=⟨m - 1,by omega⟩
     rw[cpt_take hx hy,if_pos (by simpa using hxy),List.append_nil,cpt_all hall hm]
    refine dw_loop_fam (fun d:Nat=>kn 61 [(0,.one (.ba q 1 0 xs.length (xs.length+j))),(3,dv (li (cpt (xs.take (m+d))).length)),(4,.one (.ba q 1 m (xs.length - m) (xs.length+j - m))),(5,dv (li d))] (ml [(q,iRows (cpt (xs.take (m+d))++xs.drop (cpt (xs.take (m+d))).length)++anyRows j 1)]))
     (fun d=>1≤d∧m+d≤xs.length∧(cpt (xs.take (m+d))).length<m+d) (fun d=>xs.length - d) 1 (kM rfl (by simp +decide only[go_sem,hc1,List.length_take,Nat.min_eq_left hm]) (by simp +decide only[go_sem,hc1,List.length_take,Nat.min_eq_left hm,List.take_append_drop])) ⟨by omega,by omega,by rw[hc1];simp;omega⟩ ?_
    rintro d ⟨hd1,hd,hdl⟩
    obtain⟨C,hC⟩: ∃C,C=cpt (xs.take (m+d)):=⟨_,rfl⟩
    rw[← hC]at hdl ⊢
    (repeat(first|apply kA|apply kB|((first|refine kc (N:=61) ?_|refine kj (N:=61) kq8 ?_|apply kD|apply kE);simp +decide only[go_sem])))
    apply kG;(simp +decide only[go_sem];rfl)
    ·intro h3
     have hmd:m+d<xs.length:=by simp at h3;omega
     have hZ: ∀i (h:i<xs.length),C.length≤i→(iRows (C++xs.drop C.length)++anyRows j 1)[i]? =some [T.c (li xs[i])]:=fun i h hi=>iRows_at (by
      rw[List.getElem?_append_right hi,List.getElem?_drop,show C.length+(i - C.length)=i by omega,List.getElem?_eq_getElem h])
     have hm1d:m+d - 1<xs.length:=by omega
     have hZ1:=hZ (m+d) hmd (by omega)
     have hZ2:=hZ (m+d - 1) hm1d (by omega)
     have hw2:IntKind.wrap .i64 ((d:Int) - 1)=((d - 1:Nat):Int):=by rw[h64 _ (by omega) (by omega)];omega
     have hw3:IntKind.wrap .i64 ((d:Int)+1)=((d+1:Nat):Int):=by rw[h64 _ (by omega) (by omega)];omega
     have hw4:IntKind.wrap .i64 ((C.length:Int)+1)=((C.length+1:Nat):Int):=by rw[h64 _ (by omega) (by omega)];omega
     have hdm:m+(d - 1)=m+d - 1:=by omega
     have hdn:d<xs.length - m:=by omega
     have hdn1:d - 1<xs.length - m:=by omega
     have hCn:C.length<xs.length:=by omega
     (repeat(first|apply kA|apply kB|((first|refine kc (N:=61) ?_|refine kj (N:=61) kq8 ?_|apply kD|apply kE);simp +decide only[go_sem,hw2,hdm,hZ1,hZ2,hdn,hdn1])))
     have hstep:cpt (xs.take (m+(d+1)))=C++if xs[m+d - 1]=xs[m+d]then []else [xs[m+d]]:=by
      rw[hC,show m+(d+1)=(m+d - 1)+2 by omega]
      have e1:(m+d - 1)+1=m+d:=by omega
      rw[cpt_take (k:=m+d - 1) (x:=xs[m+d]) (y:=xs[m+d - 1]) (by rw[e1];exact List.getElem?_eq_getElem hmd) (List.getElem?_eq_getElem hm1d),e1]
     apply kG;(simp +decide only[go_sem];rfl)
     ·intro h4
      have hne: ¬xs[m+d - 1]=xs[m+d]:=by simp at h4;exact fun e=>h4 e.symm
      rw[if_neg hne]at hstep
      have hZC:(iRows (C++xs.drop C.length)++anyRows j 1)[C.length]? =some [T.c (li xs[C.length])]:=hZ _ hCn (Nat.le_refl _)
      have hset:(iRows (C++xs.drop C.length)++anyRows j 1).set C.length [T.c (li xs[m+d])]=iRows ((C++ [xs[m+d]])++xs.drop (C.length+1))++anyRows j 1:=by
       rw[iRows_set (by simp;omega)]
       congr 2
       rw[List.set_append_right _ _ (Nat.le_refl _),List.drop_eq_getElem_cons hCn,Nat.sub_self,List.set_cons_zero,List.append_assoc];rfl
      (repeat(first|apply kA|apply kB|((first|refine kc (N:=61) ?_|refine kj (N:=61) kq8 ?_|apply kD|apply kE);simp +decide only[go_sem,hw2,hdm,hZ1,hZ2,hdn,hdn1,hZC,hset,hw3,hw4,hCn])))
      refine⟨d+1,⟨by omega,by omega,by rw[hstep];simp;omega⟩,by omega,kM rfl (by simp +decide only[go_sem,hstep,List.length_append]) (by simp +decide only[go_sem,hstep,List.length_append])⟩
     ·intro h4
      have heq:xs[m+d - 1]=xs[m+d]:=by simp at h4;exact h4.symm
      rw[if_pos heq,List.append_nil]at hstep
      apply kD
      simp +decide only[go_sem]
      (repeat(first|apply kA|apply kB|((first|refine kc (N:=61) ?_|refine kj (N:=61) kq8 ?_|apply kD|apply kE);simp +decide only[go_sem,hw3])))
      refine⟨d+1,⟨by omega,by omega,by rw[hstep];omega⟩,by omega,kM rfl (by simp +decide only[go_sem,hstep]) (by simp +decide only[go_sem,hstep])⟩
    ·intro h3
     have hmd:m+d=xs.length:=by simp at h3;omega
     rw[hmd,List.take_length]at hC
     have hCn:C.length≤xs.length:=by omega
     have hCj:C.length≤xs.length+j:=by omega
     have hCj0:=Nat.zero_le C.length
     (repeat(first|apply kA|apply kB|((first|refine kc (N:=61) ?_|refine kj (N:=61) kq8 ?_|apply kD|apply kE);simp +decide only[go_sem,hCn,hle])))
     have hrl:(iRows (C++xs.drop C.length)).length=xs.length:=by rw[iRows_len];simp;omega
     refine StepC.mk (Step.clear (n:=q) (rows:=iRows (C++xs.drop C.length)++anyRows j 1) (i:=C.length) (len:=xs.length - C.length) (cap:=xs.length+j - C.length) (sz:=1) (by_:=8) rfl (by simp +decide only[go_sem]) (by simp +decide only[go_sem]) (by simp +decide only[go_sem]) (by rw[List.length_append,hrl];omega)
      (fun r hr=>(List.mem_append.1 hr).elim (iRows_sz _ r) (anyRows_sz j 1 r)) ?_)
     have hrows:(iRows (C++xs.drop C.length)++anyRows j 1).take C.length++(anyRows (xs.length - C.length) 1++(iRows (C++xs.drop C.length)++anyRows j 1).drop (C.length+(xs.length - C.length)))=iRows C++anyRows (xs.length - C.length+j) 1:=by
      rw[show C.length+(xs.length - C.length)=(iRows (C++xs.drop C.length)).length by rw[hrl];omega,List.drop_left,iRows_app,List.append_assoc,List.take_left' (iRows_len C)]
      congr 1
      simp[anyRows,List.replicate_append_replicate]
     rw[hrows]
     simp +decide only[go_sem]
     (repeat(first|apply kA|apply kB|((first|refine kc (N:=61) ?_|refine kj (N:=61) kq8 ?_|apply kD|apply kE);simp +decide only[go_sem,hCj,hCj0,Nat.sub_zero])))
     refine kK (kM (N:=61) (sls:= [(2,.one (.ba q 1 0 C.length (xs.length+j)))]) (bxs:= [(q,iRows C++anyRows (xs.length - C.length+j) 1)]) rfl (by simp +decide only[go_sem]) (by simp +decide only[go_sem])) ?_
     apply kF;simp +decide only[go_sem]
     exact⟨_,by rw[hC],by rw[hC];rfl⟩
   ·intro h2
    have hne: ¬xs[m - 1]=xs[m]:=by simp at h2;exact fun e=>h2 e.symm
    have hw3:IntKind.wrap .i64 ((m:Int)+1)=((m+1:Nat):Int):=by rw[h64 _ (by omega) (by omega)];omega
    apply kD
    simp +decide only[go_sem]
    (repeat(first|apply kA|apply kB|((first|refine kc (N:=61) ?_|refine kj (N:=61) kq8 ?_|apply kD|apply kE);simp +decide only[go_sem,hw3])))
    refine⟨m+1,⟨by omega,by omega,fun i x y hi g1 g2=>?_⟩,by omega,kM rfl (by simp +decide only[go_sem]) (by simp +decide only[go_sem])⟩
    rcases Nat.lt_or_ge (i+1) m with hlt|hge
    ·exact hall i x y hlt g1 g2
    ·obtain rfl:i=m - 1:=by omega
     rw[hy]at g1;rw[show m - 1+1=m by omega,hx]at g2
     injection g1 with g1;injection g2 with g2
     rw[← g1,← g2];exact hne
  ·intro h1
   have hmn:m=xs.length:=by simp at h1;omega
   have hs:cpt xs=xs:=by
    have:=cpt_all hall hm
    rwa [hmn,List.take_length]at this
   (repeat(first|apply kA|apply kB|((first|refine kc (N:=61) ?_|refine kj (N:=61) kq8 ?_|apply kD|apply kE);simp +decide only[go_sem])))
   refine kK (kM (N:=61) (sls:= [(2,.one (.ba q 1 0 xs.length (xs.length+j)))]) (bxs:= [(q,iRows xs++anyRows j 1)]) rfl (by simp +decide only[go_sem]) (by simp +decide only[go_sem])) ?_
   apply kF;simp +decide only[go_sem]
   exact⟨j,by rw[hs],by rw[hs];rfl⟩
def usort(xs:List Int):List Int:=cpt (srt xs)
theorem usort_len(xs:List Int):(usort xs).length≤xs.length:=by
 have:=cptF_len (srt xs) none
 rw[srt_len]at this;exact this
theorem ints_c(xs:List Int):(ints xs).map (List.map T.c)=iRows xs:=by simp[iRows]
theorem sorted_D(xs:List Int)(hl:xs.length≤1000000):DCalls Tryz.prog 89 [dv (.sl 1 (ints xs))] (dv (.sl 1 (ints (usort xs)))):=by
 refine kd (N:=7) (rs:= [.tmp 2]) Tryz.func89 ?_
 (repeat(first|apply kA|apply kB|((first|refine kc (N:=7) ?_|apply kD|apply kE);simp +decide only[go_sem])))
 (first|refine kx (values_D xs) ?_);simp +decide only[go_sem]
 refine CallC.eff [] (sortedS_E xs hl) rfl (DLeL.of_eq (by simp +decide only[go_sem])) (fun k r h=>by cases h) (by constructor<;>simp) ?_
 rintro r H' ⟨j,rfl,rfl⟩
 simp +decide only[go_sem]
 have hsl:=srt_len xs
 refine CallC.eff [5] (compact_E (srt xs) j (5+NB) (Nat.le_add_left _ _) (by omega)) rfl (DLeL.of_eq (by simp +decide only[go_sem,hsl])) (fun k r h=>?_) (by constructor<;>simp[mid]) ?_
 ·by_cases hk:k=5+NB
  ·subst hk;simp +decide only[go_sem]at h;subst h;simp +decide only[go_sem,callMemAft,callMem]
  ·simp +decide only[go_sem,hk]at h
 rintro r H' ⟨j',rfl,rfl⟩
 simp +decide only[go_sem]
 (repeat(first|apply kA|apply kB|((first|refine kc (N:=7) ?_|apply kD|apply kE);simp +decide only[go_sem])))
 refine dw_frz 5 1 (ints (usort xs)) (anyRows j' 1) (by decide) (by simp +decide only[go_sem,callMemAft,ints_c];rfl) (by simp) ?_
 have hlen:(ints (usort xs)).length=(cpt (srt xs)).length:=by simp[usort]
 have hle:(cpt (srt xs)).length≤(usort xs).length:=Nat.le_refl _
 have htk:(ints (usort xs)).take (cpt (srt xs)).length=ints (usort xs):=by rw[← hlen,List.take_length]
 apply kF;simp +decide only[go_sem,hle,htk]
end Go.Proofs.YtehdkccjaeckhaaGreatDoor.S
namespace Go.Proofs.YtehdkccjaeckhaaGreatDoor
open Go.Dl
theorem hasId_iff(l:List Ent)(id:Int):hasId l id=true↔∃e∈l,e.id=id:=by simp[hasId]
theorem upE_inj{l:List Ent}(hs:UpE l){a b:Ent}(ha:a∈l)(hb:b∈l)(h:a.id=b.id):a=b:=by
 obtain⟨i,hi,rfl⟩:=List.getElem_of_mem ha
 obtain⟨j,hj,rfl⟩:=List.getElem_of_mem hb
 rcases Nat.lt_trichotomy i j with h1|h1|h1
 ·have:=List.pairwise_iff_getElem.1 hs i j hi hj h1;omega
 ·subst h1;rfl
 ·have:=List.pairwise_iff_getElem.1 hs j i hj hi h1;omega
def notUp(p:Option Int)(id:Int):Bool:=match p with
 | some q=>decide (id≤q)
 | none=>false
def ordL(g:List Phon)(p:Option Int):List Ent→Int
 | []=>0
 | e::l=>if checkE g e≠0 then checkE g e else if notUp p e.id=true then 10 else ordL g (some e.id) l
def refsIn(l:List Ent)(e:Ent):Bool:=(e.main==0||hasId l e.main)&&e.links.all fun x=>hasId l x.tgt
def lexE(g:List Phon)(l:List Ent):Int:=if 100<l.length then 11 else if ordL g none l≠0 then ordL g none l else if(l.all fun e=>refsIn l e)=true then 0 else 9
theorem ordL_iff(g:List Phon): ∀(l:List Ent) (p:Option Int),ordL g p l=0↔(∀e∈l,checkE g e=0)∧UpE l∧∀q,p=some q→∀e∈l,q<e.id
 | [],p=>by simp[ordL,UpE]
 | e::l,p=>by
  have ih:=ordL_iff g l (some e.id)
  rw[ordL]
  by_cases h1:checkE g e=0
  ·rw[if_neg (by simpa using h1)]
   have hp:notUp p e.id=true↔¬ ∀q,p=some q→q<e.id:=by
    cases p with
    | none=>simp[notUp]
    | some q=>simp[notUp]
   by_cases h2: ∀q,p=some q→q<e.id
   ·rw[if_neg (fun h=>(hp.1 h) h2),ih]
    simp only[UpE,List.mem_cons,List.pairwise_cons,forall_eq_or_imp]
    constructor
    ·rintro⟨a,b,c⟩
     exact⟨⟨h1,a⟩,⟨fun x hx=>c e.id rfl x hx,b⟩,fun q hq=>⟨h2 q hq,fun x hx=>Int.lt_trans (h2 q hq) (c e.id rfl x hx)⟩⟩
    ·rintro⟨⟨_,a⟩,⟨b,c⟩,d⟩
     exact⟨a,c,fun q hq x hx=>by injection hq with hq;rw[← hq];exact b x hx⟩
   ·rw[if_pos (hp.2 h2)]
    constructor
    ·intro h;exact absurd h (by decide)
    ·rintro⟨_,_,d⟩;exact absurd (fun q hq=>d q hq e (by simp)) h2
  ·rw[if_pos h1]
   constructor
   ·intro h;exact absurd h h1
   ·rintro⟨a,_,_⟩;exact absurd (a e (by simp)) h1
structure RightL(g:List Phon)(l:List Ent):Prop where
 len:l.length≤100
 each: ∀e∈l,checkE g e=0
 up:UpE l
 refs: ∀e∈l,refsIn l e=true
theorem lexE_iff(g:List Phon)(l:List Ent):lexE g l=0↔RightL g l:=by
 unfold lexE
 by_cases h0:100<l.length
 ·rw[if_pos h0];exact⟨fun h=>absurd h (by decide),fun h=>by have:=h.len;omega⟩
 rw[if_neg h0]
 by_cases h1:ordL g none l=0
 ·rw[if_neg (by simpa using h1)]
  obtain⟨a,b,_⟩:=(ordL_iff g l none).1 h1
  cases h2:l.all fun e=>refsIn l e
  ·rw[if_neg (by decide)]
   refine⟨fun h=>absurd h (by decide),fun h=>?_⟩
   rw[List.all_eq_true.2 h.refs]at h2;cases h2
  ·rw[if_pos rfl]
   exact⟨fun _=>⟨by omega,a,b,List.all_eq_true.1 h2⟩,fun _=>rfl⟩
 ·rw[if_pos h1]
  exact⟨fun h=>absurd h h1,fun h=>(ordL_iff g l none).2 ⟨h.each,h.up,fun q hq=>by cases hq⟩⟩
def idsOf(l:List Ent)(p:Ent→Bool):List Int:=(l.filter p).map (·.id)
theorem ids_up{l:List Ent}(hs:UpE l)(p:Ent→Bool):(idsOf l p).Pairwise (· < ·):=by
 rw[idsOf,List.pairwise_map]
 exact hs.sublist List.filter_sublist
theorem ids_app(a b:List Ent)(p:Ent→Bool):idsOf (a++b) p=idsOf a p++idsOf b p:=by simp[idsOf]
theorem mem_ids{l:List Ent}{p:Ent→Bool}{n:Int}:n∈idsOf l p↔∃e∈l,p e=true∧e.id=n:=by
 simp only[idsOf,List.mem_map,List.mem_filter]
 constructor
 ·rintro⟨e,⟨h1,h2⟩,h3⟩;exact⟨e,h1,h2,h3⟩
 ·rintro⟨e,h1,h2,h3⟩;exact⟨e,⟨h1,h2⟩,h3⟩
theorem ids_idx{l:List Ent}(hs:UpE l){p:Ent→Bool}{k:Nat}{e:Ent}(hk:l[k]? =some e)(hp:p e=true):idxF (fun x=>e.id==x) (idsOf l p)=((l.take k).countP p:Int):=by
 obtain⟨hkl,hke⟩:=List.getElem?_eq_some_iff.1 hk
 have hl:l=l.take k++e::l.drop (k+1):=by
  conv=>lhs;rw[← List.take_append_drop k l,List.drop_eq_getElem_cons hkl,hke]
 have hlt: ∀x∈l.take k,x.id<e.id:=fun x hx=>by
  obtain⟨j,hj,rfl⟩:=List.getElem_of_mem hx
  have hjk:j<k:=by simp at hj;omega
  rw[List.getElem_take]
  have:=List.pairwise_iff_getElem.1 hs j k (by omega) hkl hjk
  rwa [hke]at this
 have h1:idsOf l p=idsOf (l.take k) p++e.id::idsOf (l.drop (k+1)) p:=by
  conv=>lhs;rw[hl]
  rw[ids_app]
  simp[idsOf,List.filter_cons,hp]
 have h2: ∀x∈idsOf (l.take k) p,(e.id==x)=false:=fun x hx=>by
  obtain⟨y,hy,_,rfl⟩:=mem_ids.1 hx
  have:=hlt y hy
  simp;omega
 have h3:(idsOf l p).any (fun x=>e.id==x)=true:=by rw[h1];simp
 rw[idxF,h3,if_pos rfl]
 congr 1
 rw[h1,List.findIdx_append]
 have h4:(idsOf (l.take k) p).findIdx (fun x=>e.id==x)=(idsOf (l.take k) p).length:=List.findIdx_eq_length_of_false h2
 rw[h4,if_neg (by omega),List.findIdx_cons]
 simp[idsOf,List.countP_eq_length_filter]
theorem ids_len(l:List Ent)(p:Ent→Bool):(idsOf l p).length=l.countP p:=by simp[idsOf,List.countP_eq_length_filter]
end Go.Proofs.YtehdkccjaeckhaaGreatDoor
namespace Go.Proofs.YtehdkccjaeckhaaGreatDoor
open Go.Dl
open S (usort)
attribute [local irreducible] DW DCalls ECalls wk IW
theorem sorted_D(xs:List Int)(hl:xs.length≤1000000):DCalls Tryz.prog 89 [dv (.sl 1 (ints xs))] (dv (.sl 1 (ints (usort xs)))):=S.sorted_D xs hl
def TellsE(g:FuncId)(caps:List Dl.C)(p:Ent→Bool)(l:List Ent):Prop:=∀e∈l,DCalls Tryz.prog g ((.agg e.row)::caps.map fun c=>D.one (.c c)) (dv (lb (p e)))
theorem idsOf_snoc(l:List Ent)(p:Ent→Bool)(e:Ent):idsOf (l++ [e]) p=idsOf l p++if p e=true then [e.id]else []:=by
 rw[ids_app];congr 1
 by_cases h:p e=true<;>simp[idsOf,h]
theorem idsOf_len(l:List Ent)(p:Ent→Bool):(idsOf l p).length≤l.length:=by simp[idsOf];exact List.length_filter_le _ _
theorem idsOf_nil(p:Ent→Bool):idsOf [] p= []:=rfl
theorem by_D(g:FuncId)(caps:List Dl.C)(p:Ent→Bool)(l:List Ent)(ht:TellsE g caps p l)(hl:l.length≤1000000):DCalls Tryz.prog 78 [dv (.sl 8 (l.map Ent.enc)),dv (.fn g caps)] (dv (.sl 1 (ints (usort (idsOf l p))))):=by
 have hmax:maxLen=9223372036854775807:=rfl
 refine kd (N:=25) (rs:= [.tmp 4]) Tryz.func78 ?_
 (repeat(first|apply kA|apply kB|((first|refine kc (N:=25) ?_|apply kD|apply kE);simp +decide only[go_sem])))
 refine dw_own 5 5 1 (by simp +decide only[go_sem]) ?_
 refine dw_rngI l (fun k=>kn 25 [(1,dv (.fn g caps)),(5,.one (.own 5 1 (ints (idsOf (l.take k) p)))),(8,dv (.sl 8 (l.map Ent.enc))),(9,dv (li l.length)),(10,dv (li k))] noMem) (fun _=>True) (by omega) (kL rfl (by simp +decide only[go_sem,List.take_zero,idsOf_nil,List.map_nil]) (by simp[noMem])) trivial ?_ ?_
 ·intro k e he hk hm htk hlt hw _
  have hc:=ht e hm
  have hi:=idsOf_len (l.take k) p
  have r1:(((idsOf (l.take k) p).length+1)*8≤140737488355328)=True:=eq_true (by rw[List.length_take]at hi;omega)
  simp only[Ent.row]at hc
  cases t1:p e
  ·rw[t1]at hc
   have hst:idsOf (l.take (k+1)) p=idsOf (l.take k) p:=by rw[htk,idsOf_snoc,t1];simp
   (repeat'(first|apply kA|apply kB|((first|refine kc (N:=25) ?_|apply kD|apply kE|refine kx hc ?_|apply kF);simp +decide only[go_sem,hlt,hw,he,r1,Ent.enc])|(apply kG;(simp +decide only[go_sem,hlt,hw,he,r1,Ent.enc];rfl);all_goals(intro hcnd;try exact kz hcnd))))
   exact kL rfl (by simp +decide only[go_sem,hst]) (by simp[noMem])
  ·rw[t1]at hc
   have hst:ints (idsOf (l.take (k+1)) p)=ints (idsOf (l.take k) p)++ [[li e.id]]:=by rw[htk,idsOf_snoc,t1];simp
   (repeat'(first|apply kA|apply kB|((first|refine kc (N:=25) ?_|apply kD|apply kE|refine kx hc ?_|apply kF);simp +decide only[go_sem,hlt,hw,he,r1,Ent.enc])|(apply kG;(simp +decide only[go_sem,hlt,hw,he,r1,Ent.enc];rfl);all_goals(intro hcnd;try exact kz hcnd))))
   exact kL rfl (by simp +decide only[go_sem,hst]) (by simp[noMem])
 ·intro hlt _
  rw[List.take_length]
  have hi:=idsOf_len l p
  (repeat'(first|apply kA|apply kB|((first|refine kc (N:=25) ?_|apply kD|apply kE|refine kx (sorted_D (idsOf l p) (by omega)) ?_|apply kF);simp +decide only[go_sem,hlt])|(apply kG;(simp +decide only[go_sem,hlt];rfl);all_goals(intro hcnd;try exact kz hcnd))))
def getE(l:List Ent)(id:Int):Ent×Bool:=
 match l.find? fun e=>e.id==id with
 | some e=>(e,true)
 | none=>(noEnt,false)
theorem getE_has(l:List Ent)(id:Int):(getE l id).2=hasId l id:=by
 unfold getE hasId
 cases h:l.find? fun e=>e.id==id with
 | none=>exact(List.any_eq_false.2 (by simpa using h)).symm
 | some e=>exact(List.any_eq_true.2 ⟨e,List.mem_of_find?_eq_some h,by simpa using List.find?_some h⟩).symm
theorem find_ex{α:Type}{l:List α}{q:α→Bool}{x:α}(h:l.find? q=some x): ∃k,l[k]? =some x∧(∀y∈l.take k,q y=false)∧q x=true:=by
 obtain⟨hq,us,vs,hl,hu⟩:=List.find?_eq_some_iff_append.1 h
 refine⟨us.length,by rw[hl];simp,fun y hy=>?_,hq⟩
 rw[hl,List.take_left']at hy
 ·simpa using hu y hy
 ·rfl
theorem find_nex{α:Type}{l:List α}{q:α→Bool}(h:l.find? q=none): ∀y∈l,q y=false:=by simpa using h
theorem find_atK{α:Type}{l:List α}{q:α→Bool}{k:Nat}{x:α}(hx:l[k]? =some x)(hi: ∀y∈l.take k,q y=false)(h:q x=true):l.find? q=some x:=by
 obtain⟨hk,e⟩:=List.getElem?_eq_some_iff.1 hx
 refine List.find?_eq_some_iff_append.2 ⟨h,l.take k,l.drop (k+1),?_,fun y hy=>by simpa using hi y hy⟩
 rw[← e,← List.drop_eq_getElem_cons hk,List.take_append_drop]
theorem get1_D(e:Ent)(id:Int):DCalls Tryz.prog 77 [.agg e.row,dv (.pt [li id])] (dv (lb (e.id==id))):=by
 refine kd (N:=8) (rs:= [.tmp 3]) Tryz.func77 ?_
 (repeat(first|apply kA|apply kB|((first|refine kc (N:=8) ?_|apply kD|apply kE);simp +decide only[go_sem,Ent.row])))
 apply kF;simp +decide only[go_sem]
theorem idxE_D(l:List Ent)(id:Int)(hl:l.length≤1000000):DCalls Tryz.prog 76 [dv (.sl 8 (l.map Ent.enc)),dv (.fn 77 [.pt [li id]])] (dv (li (idxF (fun e=>e.id==id) l))):=by
 have hmax:maxLen=9223372036854775807:=rfl
 refine kd (N:=19) (rs:= [.tmp 4]) Tryz.func76 ?_
 (repeat(first|apply kA|apply kB|((first|refine kc (N:=19) ?_|apply kD|apply kE);simp +decide only[go_sem])))
 refine dw_rngI l (fun k=>kn 19 [(0,dv (.sl 8 (l.map Ent.enc))),(1,dv (.fn 77 [.pt [li id]])),(7,dv (li l.length)),(8,dv (li k))] noMem) (fun k=>∀e∈l.take k,(e.id==id)=false) (by omega) (kL rfl (by simp +decide only[go_sem]) (by simp[noMem])) (by simp) ?_ ?_
 ·intro k e he hk hm htk hlt hw hi
  have hc:=get1_D e id
  simp only[Ent.row]at hc
  (repeat'(first|apply kA|apply kB|((first|refine kc (N:=19) ?_|apply kD|apply kE|refine kx hc ?_|apply kF);simp +decide only[go_sem,hlt,hw,he,Ent.enc])|(apply kG;(simp +decide only[go_sem,hlt,hw,he,Ent.enc];rfl);all_goals(intro hcnd;try exact kz hcnd))))
  ·rw[idxF_at he hi hcnd]
  ·exact⟨forall_snoc htk hi hcnd,kL rfl (by simp +decide only[go_sem]) (by simp[noMem])⟩
 ·intro hlt hi
  rw[List.take_length]at hi
  (repeat'(first|apply kA|apply kB|((first|refine kc (N:=19) ?_|apply kD|apply kE|apply kF);simp +decide only[go_sem,hlt])|(apply kG;(simp +decide only[go_sem,hlt];rfl);all_goals(intro hcnd;try exact kz hcnd))))
  rw[idxF_no hi]
theorem get_D(l:List Ent)(id:Int)(hl:l.length≤1000000):DCalls Tryz.prog 41 [dv (.sl 8 (l.map Ent.enc)),dv (li id)] (.tup [.agg (getE l id).1.row,dv (lb (getE l id).2)]):=by
 refine kd (N:=17) (rs:= [.cell 4 54,.tmp 5]) Tryz.func41 ?_
 (repeat(first|apply kA|apply kB|((first|refine kc (N:=17) ?_|apply kD|apply kE);simp +decide only[go_sem])))
 refine CallC.frz 3 [li id] (by simp) (by simp +decide only[go_sem]) ?_
 simp +decide only[go_sem]
 (first|refine kx (idxE_D l id hl) ?_);simp +decide only[go_sem]
 cases hf:l.find? (fun e=>e.id==id)with
 | none=>
  rw[idxF_no (find_nex hf)]
  (repeat'(first|apply kA|apply kB|((first|refine kc (N:=17) ?_|apply kD|apply kE);simp +decide only[go_sem])|(apply kG;(simp +decide only[go_sem];rfl);all_goals(intro hcnd;try exact kz hcnd))))
  refine dw_exc 4 (by simp +decide only[go_sem];rfl) ?_
  apply kF;simp +decide only[go_sem]
  simp[getE,hf,Ent.row,noEnt]
 | some e=>
  obtain⟨k,he,hi,hq⟩:=find_ex hf
  have hn:decide ((k:Int)<0)=false:=by simp
  rw[idxF_at he hi hq]
  (repeat'(first|apply kA|apply kB|((first|refine kc (N:=17) ?_|apply kD|apply kE|apply kF);simp +decide only[go_sem,hn,he,Ent.enc])|(apply kG;(simp +decide only[go_sem,hn,he,Ent.enc];rfl);all_goals(intro hcnd;try exact kz hcnd))))
  simp[getE,hf,Ent.row]
theorem rGet_D(l:List Ent)(id:Int)(hl:l.length≤1000000):DCalls Tryz.prog 28 [dv (.sl 8 (l.map Ent.enc)),dv (li id)] (.tup [.agg (getE l id).1.row,dv (lb (getE l id).2)]):=by
 have hmax:maxLen=9223372036854775807:=rfl
 refine kd (N:=25) (rs:= [.cell 4 54,.tmp 5]) Tryz.func28 ?_
 (repeat(first|apply kA|apply kB|((first|refine kc (N:=25) ?_|apply kD|apply kE);simp +decide only[go_sem])))
 refine dw_rngI l (fun k=>kn 25 [(0,dv (.sl 8 (l.map Ent.enc))),(1,dv (li id)),(4,.one (.bx 4 8 0 0)),(8,dv (li l.length)),(9,dv (li k))] (ml [(4,[[.c (li 0),.ex 1 [],.c (li 0),.ex 1 [],.c (li 0),.ex 2 [],.ex 2 [],.ex 2 []]])])) (fun k=>∀e∈l.take k,(e.id==id)=false) (by omega) (kM rfl (by simp +decide only[go_sem]) (by simp +decide only[go_sem])) (by simp) ?_ ?_
 ·intro k e he hk hm htk hlt hw hi
  cases t1:e.id==id
  ·(repeat'(first|apply kA|apply kB|((first|refine kc (N:=25) ?_|apply kD|apply kE|apply kF);simp +decide only[go_sem,hlt,hw,he,t1,Ent.enc])|(apply kG;(simp +decide only[go_sem,hlt,hw,he,t1,Ent.enc];rfl);all_goals(intro hcnd;try exact kz hcnd))))
   exact⟨forall_snoc htk hi t1,kM rfl (by simp +decide only[go_sem]) (by simp +decide only[go_sem])⟩
  ·(repeat'(first|apply kA|apply kB|((first|refine kc (N:=25) ?_|apply kD|apply kE|apply kF);simp +decide only[go_sem,hlt,hw,he,t1,Ent.enc])|(apply kG;(simp +decide only[go_sem,hlt,hw,he,t1,Ent.enc];rfl);all_goals(intro hcnd;try exact kz hcnd))))
   simp[getE,find_atK (q:=fun e=>e.id==id) he hi t1,Ent.row]
 ·intro hlt hi
  rw[List.take_length]at hi
  (repeat'(first|apply kA|apply kB|((first|refine kc (N:=25) ?_|apply kD|apply kE);simp +decide only[go_sem,hlt])|(apply kG;(simp +decide only[go_sem,hlt];rfl);all_goals(intro hcnd;try exact kz hcnd))))
  refine dw_exc 4 (by simp +decide only[go_sem];rfl) ?_
  apply kF;simp +decide only[go_sem]
  have hf:l.find? (fun e=>e.id==id)=none:=List.find?_eq_none.2 fun e he=>by simpa using hi e he
  simp[getE,hf,Ent.row,noEnt]
theorem rHasId_D(l:List Ent)(id:Int)(hl:l.length≤1000000):DCalls Tryz.prog 104 [dv (.sl 8 (l.map Ent.enc)),dv (li id)] (dv (lb (hasId l id))):=by
 have h:=rGet_D l id hl
 have h2:=getE_has l id
 generalize getE l id=p at h h2
 obtain⟨e,b⟩:=p
 simp only at h2
 subst h2
 simp only[Ent.row]at h
 refine kd (N:=14) (rs:= [.tmp 4]) Tryz.func104 ?_
 (repeat'(first|apply kA|apply kB|((first|refine kc (N:=14) ?_|apply kD|apply kE|refine kx h ?_|apply kF);simp +decide only[go_sem])|(apply kG;(simp +decide only[go_sem];rfl);all_goals(intro hcnd;try exact kz hcnd))))
theorem hom1_D(e o:Ent)(he:e.form.length≤maxLen):DCalls Tryz.prog 79 [.agg e.row,dv (.pt o.enc)] (dv (lb (decide (e.form=o.form)))):=by
 have h:=eqI_D e.form o.form he
 refine kd (N:=9) (rs:= [.tmp 3]) Tryz.func79 ?_
 (repeat'(first|apply kA|apply kB|((first|refine kc (N:=9) ?_|apply kD|apply kE|refine kx h ?_|apply kF);simp +decide only[go_sem,Ent.row,Ent.enc])|(apply kG;(simp +decide only[go_sem,Ent.row,Ent.enc];rfl);all_goals(intro hcnd;try exact kz hcnd))))
def byGloss(l:List Ent)(g:ByteArray):List Int:=usort (idsOf l fun e=>hasG e.senses g)
end Go.Proofs.YtehdkccjaeckhaaGreatDoor
namespace Go.Proofs.YtehdkccjaeckhaaGreatDoor
open Go.Dl S
theorem cptF_spec: ∀(l:List Int) (p:Int),l.Pairwise (· ≤ ·)→(∀x∈l,p≤x)→
  (cptF (some p) l).Pairwise (· < ·)∧(∀x∈cptF (some p) l,p<x)∧∀x,x∈cptF (some p) l↔x∈l∧x≠p
 | [],p,_,_=>by simp[cptF]
 | x::l,p,hs,hp=>by
  obtain⟨h1,h2⟩:=List.pairwise_cons.1 hs
  have hpx:=hp x (by simp)
  obtain⟨i1,i2,i3⟩:=cptF_spec l x h2 h1
  simp only[cptF]
  split
  ·rename_i he
   injection he with he;subst he
   refine⟨i1,i2,fun y=>?_⟩
   rw[i3]
   constructor
   ·exact fun h=>⟨List.mem_cons_of_mem _ h.1,h.2⟩
   ·rintro⟨h,hn⟩
    rcases List.mem_cons.1 h with h|h
    ·exact absurd h hn
    ·exact⟨h,hn⟩
  ·rename_i he
   have hlt:p<x:=by
    have:p≠x:=fun e=>he (by rw[e])
    omega
   refine⟨List.pairwise_cons.2 ⟨i2,i1⟩,fun y hy=>?_,fun y=>?_⟩
   ·rcases List.mem_cons.1 hy with rfl|hy
    ·exact hlt
    ·have:=i2 y hy;omega
   ·simp only[List.mem_cons,i3]
    constructor
    ·rintro(rfl|⟨h,_⟩)
     ·exact⟨.inl rfl,by omega⟩
     ·have:=h1 y h;exact⟨.inr h,by omega⟩
    ·rintro⟨rfl|h,_⟩
     ·exact .inl rfl
     ·by_cases e:y=x
      ·exact .inl e
      ·exact .inr ⟨h,e⟩
theorem cpt_spec(l:List Int)(hs:l.Pairwise (· ≤ ·)):(cpt l).Pairwise (· < ·)∧∀x,x∈cpt l↔x∈l:=by
 cases l with
 | nil=>simp[cpt,cptF]
 | cons x l=>
  obtain⟨h1,h2⟩:=List.pairwise_cons.1 hs
  obtain⟨i1,i2,i3⟩:=cptF_spec l x h2 h1
  have he:cpt (x::l)=x::cptF (some x) l:=by simp[cpt,cptF]
  rw[he]
  refine⟨List.pairwise_cons.2 ⟨i2,i1⟩,fun y=>?_⟩
  simp only[List.mem_cons,i3]
  constructor
  ·rintro(h|h)
   ·exact .inl h
   ·exact .inr h.1
  ·rintro(h|h)
   ·exact .inl h
   ·by_cases e:y=x
    ·exact .inl e
    ·exact .inr ⟨h,e⟩
theorem srt_pairwise(l:List Int):(srt l).Pairwise (· ≤ ·):=by
 have:=List.pairwise_mergeSort (le:=fun x y:Int=>decide (x≤y)) (fun a b c h1 h2=>by simp at *;omega) (fun a b=>by simp;omega) l
 exact this.imp (by intro a b h;simpa using h)
theorem usort_spec(l:List Int):(usort l).Pairwise (· < ·)∧∀x,x∈usort l↔x∈l:=by
 obtain⟨h1,h2⟩:=cpt_spec (srt l) (srt_pairwise l)
 exact⟨h1,fun x=>(h2 x).trans (List.mem_mergeSort)⟩
theorem lt_ext: ∀{xs ys:List Int},xs.Pairwise (· < ·)→ys.Pairwise (· < ·)→(∀x,x∈xs↔x∈ys)→xs=ys
 | [],[],_,_,_=>rfl
 | [],y::ys,_,_,h=>by have:=(h y).2 (by simp);simp at this
 | x::xs,[],_,_,h=>by have:=(h x).1 (by simp);simp at this
 | x::xs,y::ys,hx,hy,h=>by
  obtain⟨a1,a2⟩:=List.pairwise_cons.1 hx
  obtain⟨b1,b2⟩:=List.pairwise_cons.1 hy
  have e:x=y:=by
   rcases List.mem_cons.1 ((h x).1 (by simp))with e|e
   ·exact e
   ·rcases List.mem_cons.1 ((h y).2 (by simp))with f|f
    ·exact f.symm
    ·have:=a1 y f;have:=b1 x e;omega
  subst e
  rw[lt_ext a2 b2 fun z=>?_]
  constructor
  ·intro hz
   rcases List.mem_cons.1 ((h z).1 (by simp[hz]))with e|e
   ·have:=a1 z hz;omega
   ·exact e
  ·intro hz
   rcases List.mem_cons.1 ((h z).2 (by simp[hz]))with e|e
   ·have:=b1 z hz;omega
   ·exact e
theorem usort_eq{xs ys:List Int}(hs:ys.Pairwise (· < ·))(hm: ∀x,x∈ys↔x∈xs):usort xs=ys:=
 lt_ext (usort_spec xs).1 hs fun x=>((usort_spec xs).2 x).trans (hm x).symm
theorem usort_up{xs:List Int}(h:xs.Pairwise (· < ·)):usort xs=xs:=usort_eq h fun _=>Iff.rfl
def putI(l:List Int)(n:Int):List Int:=(l.takeWhile fun x=>decide (x<n))++n::(l.dropWhile fun x=>decide (x<n)).dropWhile fun x=>decide (x=n)
theorem putI_spec{l:List Int}(n:Int)(h:l.Pairwise (· < ·)):(putI l n).Pairwise (· < ·)∧∀x,x∈putI l n↔x∈l∨x=n:=by
 have key: ∀l:List Int,l.Pairwise (· < ·)→∃a b,l=a++b∧(l.takeWhile fun x=>decide (x<n))=a∧(l.dropWhile fun x=>decide (x<n))=b∧(∀x∈a,x<n)∧∀x∈b,n≤x:=by
  intro l
  induction l with
  | nil=>intro _;exact⟨[],[],rfl,rfl,rfl,by simp,by simp⟩
  | cons y l ih=>
   intro h
   obtain⟨h1,h2⟩:=List.pairwise_cons.1 h
   by_cases hy:y<n
   ·obtain⟨a,b,e,ea,eb,ha,hb⟩:=ih h2
    refine⟨y::a,b,by rw[e];rfl,?_,?_,?_,hb⟩
    ·rw[List.takeWhile_cons,if_pos (by simpa using hy),ea]
    ·rw[List.dropWhile_cons,if_pos (by simpa using hy),eb]
    ·intro x hx
     rcases List.mem_cons.1 hx with rfl|hx
     ·exact hy
     ·exact ha x hx
   ·refine⟨[],y::l,rfl,?_,?_,by simp,?_⟩
    ·rw[List.takeWhile_cons,if_neg (by simpa using hy)]
    ·rw[List.dropWhile_cons,if_neg (by simpa using hy)]
    ·intro x hx
     rcases List.mem_cons.1 hx with rfl|hx
     ·omega
     ·have:=h1 x hx;omega
 obtain⟨a,b,e,ea,eb,ha,hb⟩:=key l h
 have hP:=h
 rw[e,List.pairwise_append]at hP
 obtain⟨pa,pb,pab⟩:=hP
 have hd: ∃c,(b.dropWhile fun x=>decide (x=n))=c∧(b=c∨b=n::c)∧(∀x∈c,n<x)∧c.Pairwise (· < ·):=by
  cases b with
  | nil=>exact⟨[],rfl,.inl rfl,by simp,by simp⟩
  | cons y b=>
   obtain⟨q1,q2⟩:=List.pairwise_cons.1 pb
   by_cases hy:y=n
   ·subst hy
    have hb2:(b.dropWhile fun x=>decide (x=y))=b:=by
     cases b with
     | nil=>rfl
     | cons z b=>
      have:=q1 z (by simp)
      rw[List.dropWhile_cons,if_neg (by simp;omega)]
    exact⟨b,by rw[List.dropWhile_cons,if_pos (by simp),hb2],.inr rfl,q1,q2⟩
   ·have hny:=hb y (by simp)
    refine⟨y::b,by rw[List.dropWhile_cons,if_neg (by simpa using hy)],.inl rfl,fun x hx=>?_,pb⟩
    rcases List.mem_cons.1 hx with rfl|hx
    ·omega
    ·have:=q1 x hx;omega
 obtain⟨c,ec,hbc,hc,pc⟩:=hd
 have hput:putI l n=a++n::c:=by rw[putI,ea,eb,ec]
 rw[hput]
 refine⟨?_,fun x=>?_⟩
 ·rw[List.pairwise_append,List.pairwise_cons]
  refine⟨pa,⟨hc,pc⟩,fun x hx y hy=>?_⟩
  rcases List.mem_cons.1 hy with rfl|hy
  ·exact ha x hx
  ·have:=ha x hx;have:=hc y hy;omega
 ·rw[e]
  rcases hbc with rfl|rfl
  ·simp only[List.mem_append,List.mem_cons]
   constructor
   ·rintro(h|h|h)
    ·exact .inl (.inl h)
    ·exact .inr h
    ·exact .inl (.inr h)
   ·rintro((h|h)|h)
    ·exact .inl h
    ·exact .inr (.inr h)
    ·exact .inr (.inl h)
  ·simp only[List.mem_append,List.mem_cons]
   constructor
   ·rintro(h|h|h)
    ·exact .inl (.inl h)
    ·exact .inr h
    ·exact .inl (.inr (.inr h))
   ·rintro((h|h|h)|h)
    ·exact .inl h
    ·exact .inr (.inl h)
    ·exact .inr (.inr h)
    ·exact .inr (.inl h)
theorem putI_usort(xs:List Int)(n:Int):putI (usort xs) n=usort (xs++ [n]):=by
 obtain⟨h1,h2⟩:=putI_spec n (usort_spec xs).1
 refine(usort_eq h1 fun x=>?_).symm
 rw[h2,(usort_spec xs).2];simp
theorem usort_nil:usort []= []:=by simp[usort,srt,cpt,cptF]
end Go.Proofs.YtehdkccjaeckhaaGreatDoor
namespace Go.Proofs.YtehdkccjaeckhaaGreatDoor
open Go.Dl
open S (usort)
attribute [local irreducible] DW DCalls ECalls wk IW
theorem low_is{l:List Int}{n:Int}{k:Nat}(hk:k≤l.length)(h1: ∀x∈l.take k,x<n)(h2: ∀x,l[k]? =some x→¬x<n):l.takeWhile (fun x=>decide (x<n))=l.take k∧l.dropWhile (fun x=>decide (x<n))=l.drop k:=by
 induction l generalizing k with
 | nil=>simp
 | cons y l ih=>
  cases k with
  | zero=>
   have:=h2 y rfl
   simp[List.takeWhile_cons,List.dropWhile_cons,this]
  | succ k=>
   have hy:=h1 y (by simp)
   have:=ih (k:=k) (by simpa using hk) (fun x hx=>h1 x (by simp[hx])) (fun x hx=>h2 x (by simpa using hx))
   simp[List.takeWhile_cons,List.dropWhile_cons,hy,this]
theorem putI_at{l:List Int}{n:Int}{k:Nat}(hs:l.Pairwise (· < ·))(hk:k≤l.length)(h1: ∀x∈l.take k,x<n)(h2: ∀x,l[k]? =some x→¬x<n):
  putI l n=l.take k++n::l.drop (if l[k]? =some n then k+1 else k):=by
 obtain⟨e1,e2⟩:=low_is hk h1 h2
 rw[putI,e1,e2]
 congr 2
 rcases Nat.lt_or_ge k l.length with hlt|hge
 ·have hx:l[k]? =some l[k]:=List.getElem?_eq_getElem hlt
  rw[List.drop_eq_getElem_cons hlt,hx]
  by_cases he:l[k]=n
  ·rw[if_pos (by rw[he]),List.dropWhile_cons,if_pos (by simpa using he)]
   cases hd:l.drop (k+1)with
   | nil=>rfl
   | cons z r=>
    have hz:k+1<l.length:=by
     have:=congrArg List.length hd;simp at this;omega
    have hze:l[k+1]=z:=by
     rw[List.drop_eq_getElem_cons hz]at hd;injection hd
    have:=List.pairwise_iff_getElem.1 hs k (k+1) hlt hz (by omega)
    rw[List.dropWhile_cons,if_neg (by simp;omega)]
  ·rw[if_neg (by simpa using he),List.dropWhile_cons,if_neg (by simpa using he),← List.drop_eq_getElem_cons hlt]
 ·rw[List.drop_eq_nil_of_le hge,List.getElem?_eq_none hge]
  simp
  omega
theorem r1Put_D(l:List Int)(n:Int)(hs:l.Pairwise (· < ·))(hl:l.length≤1000000):DCalls Tryz.prog 61 [dv (.sl 1 (ints l)),dv (li n)] (dv (.sl 1 (ints (putI l n)))):=by
 have hmax:maxLen=9223372036854775807:=rfl
 refine kd (N:=51) (rs:= [.tmp 4]) Tryz.func61 ?_
 (repeat'(first|apply kA|apply kB|((first|refine kc (N:=51) ?_|apply kD|apply kE);simp +decide only[go_sem])|(apply kG;(simp +decide only[go_sem];rfl);all_goals(intro hcnd;try exact kz hcnd))|((first|apply kH|apply kI)<;>(intro hcnd;simp +decide only[go_sem,hcnd]))))
 refine dw_own 5 5 1 (by simp +decide only[go_sem]) ?_
 refine dw_after (fun k:Nat=>kn 51 [(0,dv (.sl 1 (ints l))),(1,dv (li n)),(5,.one (.own 5 1 (ints (l.take k)))),(6,dv (li k))] noMem) (fun k=>k≤l.length∧(∀x∈l.take k,x<n)∧∀x,l[k]? =some x→¬x<n) ?_ ?_
 ·refine dw_loop_fam (fun k:Nat=>kn 51 [(0,dv (.sl 1 (ints l))),(1,dv (li n)),(5,.one (.own 5 1 (ints (l.take k)))),(6,dv (li k))] noMem) (fun k=>k≤l.length∧∀x∈l.take k,x<n) (fun k=>l.length - k) 0 (kL rfl (by simp +decide only[go_sem,List.take_zero,List.map_nil]) (by simp[noMem])) ⟨Nat.zero_le _,by simp⟩ ?_
  rintro k ⟨hk,h1⟩
  cases t1:decide ((k:Int)<(l.length:Int))
  ·have hke:l.length≤k:=by simpa using t1
   (repeat'(first|apply kA|apply kB|((first|refine kc (N:=51) ?_|apply kD|apply kE);simp +decide only[go_sem,t1])|(apply kG;(simp +decide only[go_sem,t1];rfl);all_goals(intro hcnd;try exact kz hcnd))|((first|apply kH|apply kI)<;>(intro hcnd;simp +decide only[go_sem,hcnd,t1]))))
   exact⟨k,⟨hk,h1,fun x hx=>by rw[List.getElem?_eq_none hke]at hx;cases hx⟩,kL rfl (by simp +decide only[go_sem]) (by simp[noMem])⟩
  ·have hkl:k<l.length:=by simpa using t1
   obtain⟨x,hx⟩: ∃x,l[k]? =some x:=⟨_,List.getElem?_eq_getElem hkl⟩
   have hw:=wrap_succ k (by omega)
   have r1:(((l.take k).length+1)*8≤140737488355328)=True:=eq_true (by rw[List.length_take];omega)
   cases t2:decide (x<n)
   ·(repeat'(first|apply kA|apply kB|((first|refine kc (N:=51) ?_|apply kD|apply kE);simp +decide only[go_sem,t1,t2,hx])|(apply kG;(simp +decide only[go_sem,t1,t2,hx];rfl);all_goals(intro hcnd;try exact kz hcnd))|((first|apply kH|apply kI)<;>(intro hcnd;simp +decide only[go_sem,hcnd,t1,t2,hx]))))
    exact⟨k,⟨hk,h1,fun y hy=>by rw[hx]at hy;injection hy with hy;subst hy;simpa using t2⟩,kL rfl (by simp +decide only[go_sem]) (by simp[noMem])⟩
   ·have htk:l.take (k+1)=l.take k++ [x]:=take_snoc hx
    (repeat'(first|apply kA|apply kB|((first|refine kc (N:=51) ?_|apply kD|apply kE);simp +decide only[go_sem,t1,t2,hx,hw,r1])|(apply kG;(simp +decide only[go_sem,t1,t2,hx,hw,r1];rfl);all_goals(intro hcnd;try exact kz hcnd))|((first|apply kH|apply kI)<;>(intro hcnd;simp +decide only[go_sem,hcnd,t1,t2,hx,hw,r1]))))
    exact⟨k+1,⟨by omega,fun y hy=>by
     rw[htk]at hy
     rcases List.mem_append.1 hy with hy|hy
     ·exact h1 y hy
     ·rw[List.mem_singleton.1 hy];simpa using t2⟩,by omega,kL rfl (by simp +decide only[go_sem,htk,List.map_append]) (by simp[noMem])⟩
 rintro k ⟨hk,h1,h2⟩
 have hput:=putI_at hs hk h1 h2
 have r1:(((l.take k).length+1)*8≤140737488355328)=True:=eq_true (by rw[List.length_take];omega)
 have hw:=wrap_succ k (by omega)
 have hkk:(l.take k).length=k:=by rw[List.length_take];omega
 have htI:List.take l.length (ints l)=ints l:=List.take_of_length_le (by simp)
 have hdI: ∀m,List.drop m (ints l)=ints (l.drop m):=fun m=>by simp[List.map_drop]
 have hfin: ∀m,ints (l.take k)++ [[li n]]++ints (l.drop m)=ints (l.take k++n::l.drop m):=fun m=>by simp
 have r2: ∀m,m≤l.length→(((l.take k).length+1+(l.length - m))*8≤140737488355328)=True:=fun m hm=>eq_true (by rw[hkk];omega)
 cases t1:decide ((k:Int)<(l.length:Int))
 ·have hke:l.length≤k:=by simpa using t1
  have hke2:k=l.length:=by omega
  rw[List.getElem?_eq_none hke,if_neg (by simp)]at hput
  have hlo:=r2 k hk
  have hkT:(k≤l.length)=True:=eq_true hk
  (repeat'(first|apply kA|apply kB|((first|refine kc (N:=51) ?_|apply kD|apply kE);simp +decide only[go_sem,t1,r1,hlo,hkT,htI,hdI,Int.toNat_natCast,List.length_append,List.length_map,List.length_cons,List.length_nil,List.length_drop])|(apply kG;(simp +decide only[go_sem,t1,r1,hlo,hkT,htI,hdI,Int.toNat_natCast,List.length_append,List.length_map,List.length_cons,List.length_nil,List.length_drop];rfl);all_goals(intro hcnd;try exact kz hcnd))|((first|apply kH|apply kI)<;>(intro hcnd;simp +decide only[go_sem,hcnd,t1,r1,hlo,hkT,htI,hdI,Int.toNat_natCast,List.length_append,List.length_map,List.length_cons,List.length_nil,List.length_drop]))))
  rw[hput,← hfin]
  refine dw_slot 4 _ (DLe.own_ _ _ _) ?_
  apply kF;simp +decide only[go_sem]
 ·have hkl:k<l.length:=by simpa using t1
  obtain⟨x,hx⟩: ∃x,l[k]? =some x:=⟨_,List.getElem?_eq_getElem hkl⟩
  cases t2:x==n
  ·rw[hx,if_neg (by simpa using t2)]at hput
   have hlo:=r2 k hk
   have hkT:(k≤l.length)=True:=eq_true hk
   (repeat'(first|apply kA|apply kB|((first|refine kc (N:=51) ?_|apply kD|apply kE);simp +decide only[go_sem,t1,hx,t2,r1,hlo,hkT,htI,hdI,Int.toNat_natCast,List.length_append,List.length_map,List.length_cons,List.length_nil,List.length_drop])|(apply kG;(simp +decide only[go_sem,t1,hx,t2,r1,hlo,hkT,htI,hdI,Int.toNat_natCast,List.length_append,List.length_map,List.length_cons,List.length_nil,List.length_drop];rfl);all_goals(intro hcnd;try exact kz hcnd))|((first|apply kH|apply kI)<;>(intro hcnd;simp +decide only[go_sem,hcnd,t1,hx,t2,r1,hlo,hkT,htI,hdI,Int.toNat_natCast,List.length_append,List.length_map,List.length_cons,List.length_nil,List.length_drop]))))
   rw[hput,← hfin]
   refine dw_slot 4 _ (DLe.own_ _ _ _) ?_
   apply kF;simp +decide only[go_sem]
  ·rw[hx,if_pos (by simpa using t2)]at hput
   have hlo:=r2 (k+1) hkl
   have hkT:(k+1≤l.length)=True:=eq_true hkl
   (repeat'(first|apply kA|apply kB|((first|refine kc (N:=51) ?_|apply kD|apply kE);simp +decide only[go_sem,t1,hx,t2,hw,r1,hlo,hkT,htI,hdI,Int.toNat_natCast,List.length_append,List.length_map,List.length_cons,List.length_nil,List.length_drop])|(apply kG;(simp +decide only[go_sem,t1,hx,t2,hw,r1,hlo,hkT,htI,hdI,Int.toNat_natCast,List.length_append,List.length_map,List.length_cons,List.length_nil,List.length_drop];rfl);all_goals(intro hcnd;try exact kz hcnd))|((first|apply kH|apply kI)<;>(intro hcnd;simp +decide only[go_sem,hcnd,t1,hx,t2,hw,r1,hlo,hkT,htI,hdI,Int.toNat_natCast,List.length_append,List.length_map,List.length_cons,List.length_nil,List.length_drop]))))
   rw[hput,← hfin]
   refine dw_slot 4 _ (DLe.own_ _ _ _) ?_
   apply kF;simp +decide only[go_sem]
theorem usort_lenI(xs:List Int):(usort xs).length≤xs.length:=S.usort_len xs
theorem idxI_D(xs:List Int)(n:Int)(hx:xs.length≤maxLen):DCalls Tryz.prog 81 [dv (.sl 1 (ints xs)),dv (li n)] (dv (li (idxF (fun x=>n==x) xs))):=by
 refine kd (N:=19) (rs:= [.tmp 4]) Tryz.func81 ?_
 (repeat(first|apply kA|apply kB|((first|refine kc (N:=19) ?_|apply kD|apply kE);simp +decide only[go_sem])))
 refine dw_rngI xs (fun k=>kn 19 [(0,dv (.sl 1 (ints xs))),(1,dv (li n)),(7,dv (li xs.length)),(8,dv (li k))] noMem) (fun k=>∀x∈xs.take k,(n==x)=false) hx (kL rfl (by simp +decide only[go_sem]) (by simp[noMem])) (by simp) ?_ ?_
 ·intro k x hx hk hm htk hlt hw hi
  have hx':=ints_at hx
  (repeat'(first|apply kA|apply kB|((first|refine kc (N:=19) ?_|apply kD|apply kE|apply kF);simp +decide only[go_sem,hlt,hw,hx'])|(apply kG;(simp +decide only[go_sem,hlt,hw,hx'];rfl);all_goals(intro hcnd;try exact kz hcnd))))
  ·rw[idxF_at hx hi hcnd]
  ·exact⟨forall_snoc htk hi hcnd,kL rfl (by simp +decide only[go_sem]) (by simp[noMem])⟩
 ·intro hlt hi
  rw[List.take_length]at hi
  (repeat'(first|apply kA|apply kB|((first|refine kc (N:=19) ?_|apply kD|apply kE|apply kF);simp +decide only[go_sem,hlt])|(apply kG;(simp +decide only[go_sem,hlt];rfl);all_goals(intro hcnd;try exact kz hcnd))))
  rw[idxF_no hi]
def homE(l:List Ent)(id:Int):Int:=
 if(getE l id).2=false then 0 else
 if(usort (idsOf l fun e=>decide (e.form=(getE l id).1.form))).length<2 then 0 else idxF (fun x=>id==x) (usort (idsOf l fun e=>decide (e.form=(getE l id).1.form)))+1
theorem idxF_rng{α:Type}(q:α→Bool)(l:List α): -1≤idxF q l∧idxF q l≤l.length:=by
 unfold idxF
 split
 ·have:=List.findIdx_le_length (p:=q) (xs:=l);omega
 ·omega
theorem hom_D(l:List Ent)(id:Int)(hl:l.length≤1000000)(hm: ∀e∈l,e.form.length≤maxLen):DCalls Tryz.prog 42 [dv (.sl 8 (l.map Ent.enc)),dv (li id)] (dv (li (homE l id))):=by
 have hmax:maxLen=9223372036854775807:=rfl
 have hG:=get_D l id hl
 unfold homE
 generalize getE l id=p at hG
 obtain⟨o,b⟩:=p
 have hB:=by_D 79 [.pt o.enc] (fun e=>decide (e.form=o.form)) l (fun e he=>hom1_D e o (hm e he)) hl
 simp only
 generalize hx:usort (idsOf l fun e=>decide (e.form=o.form))=xs at hB
 have hxl:xs.length≤1000000:=by
  rw[← hx]
  have:=usort_lenI (idsOf l fun e=>decide (e.form=o.form));have:=idsOf_len l (fun e=>decide (e.form=o.form));omega
 have hI:=idxI_D xs id (by omega)
 have hr:=idxF_rng (fun x=>id==x) xs
 have hw:IntKind.i64.wrap (idxF (fun x=>id==x) xs+1)=idxF (fun x=>id==x) xs+1:=wrap_i64 (by omega) (by omega)
 simp only[Ent.row]at hG
 simp only[Ent.enc]at hB
 refine kd (N:=26) (rs:= [.tmp 4]) Tryz.func42 ?_
 cases b
 ·(repeat'(first|apply kA|apply kB|((first|refine kc (N:=26) ?_|apply kD|apply kE|refine kx hG ?_|apply kF);simp +decide only[go_sem])|(apply kG;(simp +decide only[go_sem];rfl);all_goals(intro hcnd;try exact kz hcnd))))
 ·(repeat'(first|apply kA|apply kB|((first|refine kc (N:=26) ?_|apply kD|apply kE|refine kx hG ?_);simp +decide only[go_sem])|(apply kG;(simp +decide only[go_sem];rfl);all_goals(intro hcnd;try exact kz hcnd))))
  refine CallC.frz 5 o.enc (by simp[Ent.enc]) (by simp +decide only[go_sem,Ent.enc,List.map_cons,List.map_nil]) ?_
  simp +decide only[go_sem,Ent.enc,List.length_cons,List.length_nil]
  cases t1:decide ((xs.length:Int)<2)
  ·have n1: ¬xs.length<2:=by simp at t1;omega
   (repeat'(first|apply kA|apply kB|((first|refine kc (N:=26) ?_|apply kD|apply kE|refine kx hB ?_|refine kx hI ?_|apply kF);simp +decide only[go_sem,t1,hw])|(apply kG;(simp +decide only[go_sem,t1,hw];rfl);all_goals(intro hcnd;try exact kz hcnd))))
   rw[if_neg n1]
  ·have n1:xs.length<2:=by simp at t1;omega
   (repeat'(first|apply kA|apply kB|((first|refine kc (N:=26) ?_|apply kD|apply kE|refine kx hB ?_|refine kx hI ?_|apply kF);simp +decide only[go_sem,t1,hw])|(apply kG;(simp +decide only[go_sem,t1,hw];rfl);all_goals(intro hcnd;try exact kz hcnd))))
   rw[if_pos n1]
end Go.Proofs.YtehdkccjaeckhaaGreatDoor
namespace Go.Proofs.YtehdkccjaeckhaaGreatDoor
abbrev kpn11:List (Nat×Go.Dl.Mode):= [(0,.light),(1,.light),(2,.light),(3,.light),(4,.light),(5,.light),(6,.light),(7,.light),(8,.light),(9,.light),(10,.light),(11,.light),(12,.light),(13,.light),(14,.light),(15,.light)]
abbrev kq9:Nat→List (Nat×Go.Dl.Mode):=fun n=>match n with|6=>kpn1|9=>kpn11|_=> []
end Go.Proofs.YtehdkccjaeckhaaGreatDoor
namespace Go.Proofs.YtehdkccjaeckhaaGreatDoor
open Go.Dl
open S (usort)
attribute [local irreducible] DW DCalls ECalls wk IW
def prevI(l:List Ent)(k:Nat):Option Int:=if k=0 then none else(l[k - 1]?).map (·.id)
theorem prevI_succ{l:List Ent}{k:Nat}{e:Ent}(h:l[k]? =some e):prevI l (k+1)=some e.id:=by simp[prevI,h]
theorem lexE_full{g:List Phon}{l:List Ent}(h:100<l.length):lexE g l=11:=by rw[lexE,if_pos h]
theorem lexE_ord{g:List Phon}{l:List Ent}(h: ¬100<l.length){n:Int}(hn:ordL g none l=n)(h0:n≠0):lexE g l=n:=by rw[lexE,if_neg h,hn,if_pos h0]
theorem lexE_none{g:List Phon}{l:List Ent}(h: ¬100<l.length)(hn:ordL g none l=0){e:Ent}(he:e∈l)(hr:refsIn l e=false):lexE g l=9:=by
 rw[lexE,if_neg h,hn,if_neg (by decide),if_neg]
 intro h2
 have h3:=List.all_eq_true.1 h2 e he
 rw[hr]at h3;cases h3
theorem lexE_ok{g:List Phon}{l:List Ent}(h: ¬100<l.length)(hn:ordL g none l=0)(hr: ∀e∈l,refsIn l e=true):lexE g l=0:=by
 rw[lexE,if_neg h,hn,if_neg (by decide),if_pos (List.all_eq_true.2 hr)]
theorem refs_main{l:List Ent}{e:Ent}(h1:(e.main==0)=false)(h2:hasId l e.main=false):refsIn l e=false:=by simp[refsIn,h1,h2]
theorem refs_link{l:List Ent}{e:Ent}{x:Lnk}(hx:x∈e.links)(h2:hasId l x.tgt=false):refsIn l e=false:=by
 rw[refsIn,Bool.and_eq_false_iff]
 exact .inr (List.all_eq_false.2 ⟨x,hx,by simp[h2]⟩)
theorem rCheckL_D(g:List Phon)(l:List Ent)(hm: ∀e∈l,MidE e):DCalls Tryz.prog 67 [.agg (invRow g),dv (.sl 8 (l.map Ent.enc))] (dv (li (lexE g l))):=by
 have hmax:maxLen=9223372036854775807:=rfl
 refine kd (N:=87) (rs:= [.tmp 4]) Tryz.func67 ?_
 cases t0:decide ((100:Int)<(l.length:Int))
 rotate_left
 ·(repeat'(first|apply kA|apply kB|((first|refine kc (N:=87) ?_|refine kj (N:=87) kq9 ?_|apply kD|apply kE|apply kF);simp +decide only[go_sem,t0])|(apply kG;(simp +decide only[go_sem,t0];rfl);all_goals(intro hcnd;try exact kz hcnd))|((first|apply kH|apply kI)<;>(intro hcnd;simp +decide only[go_sem,hcnd,t0]))))
  rw[lexE_full (by simp at t0;omega)]
 have h0: ¬100<l.length:=by simp at t0;omega
 (repeat'(first|apply kA|apply kB|((first|refine kc (N:=87) ?_|refine kj (N:=87) kq9 ?_|apply kD|apply kE);simp +decide only[go_sem,t0,invRow])|(apply kG;(simp +decide only[go_sem,t0,invRow];rfl);all_goals(intro hcnd;try exact kz hcnd))|((first|apply kH|apply kI)<;>(intro hcnd;simp +decide only[go_sem,hcnd,t0,invRow]))))
 refine dw_rngI l (fun k=>kn 87 [(1,dv (.sl 8 (l.map Ent.enc))),(2,.one (.bx 2 1 0 0)),(13,dv (li l.length)),(14,dv (li k))] (ml [(2,[invRow g])])) (fun k=>ordL g (prevI l k) (l.drop k)=ordL g none l) (by omega) (kM rfl (by simp +decide only[go_sem]) (by simp +decide only[go_sem,invRow])) rfl ?_ ?_
 ·intro k e he hk hmm htk hlt hw hi
  have hC:=rCheck_D g e (hm e hmm)
  simp only[Ent.row,invRow]at hC
  rw[drop_at he,ordL]at hi
  cases t1:checkE g e !=0
  rotate_left
  ·have n1:checkE g e≠0:=by simpa using t1
   rw[if_pos n1]at hi
   (repeat'(first|apply kA|apply kB|((first|refine kc (N:=87) ?_|refine kj (N:=87) kq9 ?_|apply kD|apply kE|refine kx hC ?_|apply kF);simp +decide only[go_sem,hlt,hw,he,t1,Ent.enc,invRow])|(apply kG;(simp +decide only[go_sem,hlt,hw,he,t1,Ent.enc,invRow];rfl);all_goals(intro hcnd;try exact kz hcnd))|((first|apply kH|apply kI)<;>(intro hcnd;simp +decide only[go_sem,hcnd,hlt,hw,he,t1,Ent.enc,invRow]))))
   rw[lexE_ord h0 hi.symm n1]
  have n1: ¬checkE g e≠0:=by simpa using t1
  rw[if_neg n1]at hi
  rcases Nat.eq_zero_or_pos k with hk0|hk0
  ·have hz:decide ((0:Int)<(k:Int))=false:=by simp;omega
   have hp0:prevI l k=none:=by rw[hk0];rfl
   rw[hp0,notUp,if_neg (by decide)]at hi
   (repeat'(first|apply kA|apply kB|((first|refine kc (N:=87) ?_|refine kj (N:=87) kq9 ?_|apply kD|apply kE|refine kx hC ?_|apply kF);simp +decide only[go_sem,hlt,hw,he,t1,hz,Ent.enc,invRow])|(apply kG;(simp +decide only[go_sem,hlt,hw,he,t1,hz,Ent.enc,invRow];rfl);all_goals(intro hcnd;try exact kz hcnd))|((first|apply kH|apply kI)<;>(intro hcnd;simp +decide only[go_sem,hcnd,hlt,hw,he,t1,hz,Ent.enc,invRow]))))
   exact⟨by rw[prevI_succ he];exact hi,kM rfl (by simp +decide only[go_sem]) (by simp +decide only[go_sem,invRow])⟩
  ·have hz:decide ((0:Int)<(k:Int))=true:=by simp;omega
   obtain⟨p,hp⟩: ∃p,l[k - 1]? =some p:=⟨_,List.getElem?_eq_getElem (by omega)⟩
   have hwk:IntKind.wrap .i64 ((k:Int) - 1)=((k - 1:Nat):Int):=by rw[wrap_i64 (by omega) (by omega)];omega
   have hpi:prevI l k=some p.id:=by rw[prevI,if_neg (by omega),hp];rfl
   rw[hpi,notUp]at hi
   cases t2:decide (e.id≤p.id)
   ·rw[t2,if_neg (by decide)]at hi
    (repeat'(first|apply kA|apply kB|((first|refine kc (N:=87) ?_|refine kj (N:=87) kq9 ?_|apply kD|apply kE|refine kx hC ?_|apply kF);simp +decide only[go_sem,hlt,hw,he,hp,hwk,t1,hz,t2,Int.toNat_natCast,Ent.enc,invRow])|(apply kG;(simp +decide only[go_sem,hlt,hw,he,hp,hwk,t1,hz,t2,Int.toNat_natCast,Ent.enc,invRow];rfl);all_goals(intro hcnd;try exact kz hcnd))|((first|apply kH|apply kI)<;>(intro hcnd;simp +decide only[go_sem,hcnd,hlt,hw,he,hp,hwk,t1,hz,t2,Int.toNat_natCast,Ent.enc,invRow]))))
    exact⟨by rw[prevI_succ he];exact hi,kM rfl (by simp +decide only[go_sem]) (by simp +decide only[go_sem,invRow])⟩
   ·rw[t2,if_pos rfl]at hi
    (repeat'(first|apply kA|apply kB|((first|refine kc (N:=87) ?_|refine kj (N:=87) kq9 ?_|apply kD|apply kE|refine kx hC ?_|apply kF);simp +decide only[go_sem,hlt,hw,he,hp,hwk,t1,hz,t2,Int.toNat_natCast,Ent.enc,invRow])|(apply kG;(simp +decide only[go_sem,hlt,hw,he,hp,hwk,t1,hz,t2,Int.toNat_natCast,Ent.enc,invRow];rfl);all_goals(intro hcnd;try exact kz hcnd))|((first|apply kH|apply kI)<;>(intro hcnd;simp +decide only[go_sem,hcnd,hlt,hw,he,hp,hwk,t1,hz,t2,Int.toNat_natCast,Ent.enc,invRow]))))
    rw[lexE_ord h0 hi.symm (by decide)]
 intro hlt hord
 rw[List.drop_length]at hord
 replace hord:ordL g none l=0:=hord.symm
 (repeat'(first|apply kA|apply kB|((first|refine kc (N:=87) ?_|refine kj (N:=87) kq9 ?_|apply kD|apply kE);simp +decide only[go_sem,hlt])|(apply kG;(simp +decide only[go_sem,hlt];rfl);all_goals(intro hcnd;try exact kz hcnd))|((first|apply kH|apply kI)<;>(intro hcnd;simp +decide only[go_sem,hcnd,hlt]))))
 refine dw_rngI l (fun k=>kn 87 [(1,dv (.sl 8 (l.map Ent.enc))),(44,dv (li l.length)),(45,dv (li k))] noMem) (fun k=>∀e∈l.take k,refsIn l e=true) (by omega) (kL rfl (by simp +decide only[go_sem]) (by simp[noMem])) (by simp) ?_ ?_
 ·intro k e he hk hmm htk hlt hw hi
  have hM:=rHasId_D l e.main (by omega)
  have hel:=(hm e hmm).links
  have hgo:(e.main !=0)=false∨((e.main !=0)=true∧hasId l e.main=true)∨((e.main !=0)=true∧hasId l e.main=false):=by
   cases e.main !=0<;>cases hasId l e.main<;>simp
  rcases hgo with t1|⟨t1,t2⟩|⟨t1,t2⟩
  rotate_left 2
  ·(repeat'(first|apply kA|apply kB|((first|refine kc (N:=87) ?_|refine kj (N:=87) kq9 ?_|apply kD|apply kE|refine kx hM ?_|apply kF);simp +decide only[go_sem,hlt,hw,he,t1,t2,Ent.enc])|(apply kG;(simp +decide only[go_sem,hlt,hw,he,t1,t2,Ent.enc];rfl);all_goals(intro hcnd;try exact kz hcnd))|((first|apply kH|apply kI)<;>(intro hcnd;simp +decide only[go_sem,hcnd,hlt,hw,he,t1,t2,Ent.enc]))))
   rw[lexE_none h0 hord hmm (refs_main (by simpa using t1) t2)]
  ·have hmn:(e.main==0||hasId l e.main)=true:=by
    have:e.main=0:=by simpa using t1
    simp[this]
   (repeat'(first|apply kA|apply kB|((first|refine kc (N:=87) ?_|refine kj (N:=87) kq9 ?_|apply kD|apply kE);simp +decide only[go_sem,hlt,hw,he,t1,Ent.enc])|(apply kG;(simp +decide only[go_sem,hlt,hw,he,t1,Ent.enc];rfl);all_goals(intro hcnd;try exact kz hcnd))|((first|apply kH|apply kI)<;>(intro hcnd;simp +decide only[go_sem,hcnd,hlt,hw,he,t1,Ent.enc]))))
   refine dw_rngI e.links (fun j=>kn 87 [(1,dv (.sl 8 (l.map Ent.enc))),(7,dv (li k)),(44,dv (li l.length)),(45,dv (li k)),(69,dv (li e.links.length)),(70,dv (li j))] noMem) (fun j=>∀x∈e.links.take j,hasId l x.tgt=true) (by omega) (kL rfl (by simp +decide only[go_sem]) (by simp[noMem])) (by simp) ?_ ?_
   ·intro j x hx hj hxm htj hlt2 hw2 hi2
    have hX:=rHasId_D l x.tgt (by omega)
    cases t3:hasId l x.tgt
    ·(repeat'(first|apply kA|apply kB|((first|refine kc (N:=87) ?_|refine kj (N:=87) kq9 ?_|apply kD|apply kE|refine kx hX ?_|apply kF);simp +decide only[go_sem,hlt2,hw2,he,hx,t3,Ent.enc,Lnk.enc])|(apply kG;(simp +decide only[go_sem,hlt2,hw2,he,hx,t3,Ent.enc,Lnk.enc];rfl);all_goals(intro hcnd;try exact kz hcnd))|((first|apply kH|apply kI)<;>(intro hcnd;simp +decide only[go_sem,hcnd,hlt2,hw2,he,hx,t3,Ent.enc,Lnk.enc]))))
     rw[lexE_none h0 hord hmm (refs_link hxm t3)]
    ·(repeat'(first|apply kA|apply kB|((first|refine kc (N:=87) ?_|refine kj (N:=87) kq9 ?_|apply kD|apply kE|refine kx hX ?_|apply kF);simp +decide only[go_sem,hlt2,hw2,he,hx,t3,Ent.enc,Lnk.enc])|(apply kG;(simp +decide only[go_sem,hlt2,hw2,he,hx,t3,Ent.enc,Lnk.enc];rfl);all_goals(intro hcnd;try exact kz hcnd))|((first|apply kH|apply kI)<;>(intro hcnd;simp +decide only[go_sem,hcnd,hlt2,hw2,he,hx,t3,Ent.enc,Lnk.enc]))))
     exact⟨forall_snoc htj hi2 t3,kL rfl (by simp +decide only[go_sem]) (by simp[noMem])⟩
   ·intro hlt2 hi2
    rw[List.take_length]at hi2
    have hre:refsIn l e=true:=by
     rw[refsIn,hmn,Bool.true_and];exact List.all_eq_true.2 hi2
    (repeat'(first|apply kA|apply kB|((first|refine kc (N:=87) ?_|refine kj (N:=87) kq9 ?_|apply kD|apply kE|apply kF);simp +decide only[go_sem,hw,hlt2])|(apply kG;(simp +decide only[go_sem,hw,hlt2];rfl);all_goals(intro hcnd;try exact kz hcnd))|((first|apply kH|apply kI)<;>(intro hcnd;simp +decide only[go_sem,hcnd,hw,hlt2]))))
    exact⟨forall_snoc htk hi hre,kL rfl (by simp +decide only[go_sem]) (by simp[noMem])⟩
  ·have hmn:(e.main==0||hasId l e.main)=true:=by simp[t2]
   (repeat'(first|apply kA|apply kB|((first|refine kc (N:=87) ?_|refine kj (N:=87) kq9 ?_|apply kD|apply kE|refine kx hM ?_);simp +decide only[go_sem,hlt,hw,he,t1,t2,Ent.enc])|(apply kG;(simp +decide only[go_sem,hlt,hw,he,t1,t2,Ent.enc];rfl);all_goals(intro hcnd;try exact kz hcnd))|((first|apply kH|apply kI)<;>(intro hcnd;simp +decide only[go_sem,hcnd,hlt,hw,he,t1,t2,Ent.enc]))))
   refine dw_rngI e.links (fun j=>kn 87 [(1,dv (.sl 8 (l.map Ent.enc))),(7,dv (li k)),(44,dv (li l.length)),(45,dv (li k)),(69,dv (li e.links.length)),(70,dv (li j))] noMem) (fun j=>∀x∈e.links.take j,hasId l x.tgt=true) (by omega) (kL rfl (by simp +decide only[go_sem]) (by simp[noMem])) (by simp) ?_ ?_
   ·intro j x hx hj hxm htj hlt2 hw2 hi2
    have hX:=rHasId_D l x.tgt (by omega)
    cases t3:hasId l x.tgt
    ·(repeat'(first|apply kA|apply kB|((first|refine kc (N:=87) ?_|refine kj (N:=87) kq9 ?_|apply kD|apply kE|refine kx hX ?_|apply kF);simp +decide only[go_sem,hlt2,hw2,he,hx,t3,Ent.enc,Lnk.enc])|(apply kG;(simp +decide only[go_sem,hlt2,hw2,he,hx,t3,Ent.enc,Lnk.enc];rfl);all_goals(intro hcnd;try exact kz hcnd))|((first|apply kH|apply kI)<;>(intro hcnd;simp +decide only[go_sem,hcnd,hlt2,hw2,he,hx,t3,Ent.enc,Lnk.enc]))))
     rw[lexE_none h0 hord hmm (refs_link hxm t3)]
    ·(repeat'(first|apply kA|apply kB|((first|refine kc (N:=87) ?_|refine kj (N:=87) kq9 ?_|apply kD|apply kE|refine kx hX ?_|apply kF);simp +decide only[go_sem,hlt2,hw2,he,hx,t3,Ent.enc,Lnk.enc])|(apply kG;(simp +decide only[go_sem,hlt2,hw2,he,hx,t3,Ent.enc,Lnk.enc];rfl);all_goals(intro hcnd;try exact kz hcnd))|((first|apply kH|apply kI)<;>(intro hcnd;simp +decide only[go_sem,hcnd,hlt2,hw2,he,hx,t3,Ent.enc,Lnk.enc]))))
     exact⟨forall_snoc htj hi2 t3,kL rfl (by simp +decide only[go_sem]) (by simp[noMem])⟩
   ·intro hlt2 hi2
    rw[List.take_length]at hi2
    have hre:refsIn l e=true:=by
     rw[refsIn,hmn,Bool.true_and];exact List.all_eq_true.2 hi2
    (repeat'(first|apply kA|apply kB|((first|refine kc (N:=87) ?_|refine kj (N:=87) kq9 ?_|apply kD|apply kE|apply kF);simp +decide only[go_sem,hw,hlt2])|(apply kG;(simp +decide only[go_sem,hw,hlt2];rfl);all_goals(intro hcnd;try exact kz hcnd))|((first|apply kH|apply kI)<;>(intro hcnd;simp +decide only[go_sem,hcnd,hw,hlt2]))))
    exact⟨forall_snoc htk hi hre,kL rfl (by simp +decide only[go_sem]) (by simp[noMem])⟩
 ·intro hlt hi
  rw[List.take_length]at hi
  (repeat'(first|apply kA|apply kB|((first|refine kc (N:=87) ?_|refine kj (N:=87) kq9 ?_|apply kD|apply kE|apply kF);simp +decide only[go_sem,hlt])|(apply kG;(simp +decide only[go_sem,hlt];rfl);all_goals(intro hcnd;try exact kz hcnd))|((first|apply kH|apply kI)<;>(intro hcnd;simp +decide only[go_sem,hcnd,hlt]))))
  rw[lexE_ok h0 hord hi]
end Go.Proofs.YtehdkccjaeckhaaGreatDoor
namespace Go.Proofs.YtehdkccjaeckhaaGreatDoor
open Go.Dl
open S (usort)
theorem getE_mem{l:List Ent}{id:Int}(h:(getE l id).2=true):(getE l id).1∈l∧(getE l id).1.id=id:=by
 unfold getE at h ⊢
 cases hf:l.find? (fun e=>e.id==id)with
 | none=>rw[hf]at h;cases h
 | some e=>exact⟨List.mem_of_find?_eq_some hf,by simpa using List.find?_some hf⟩
theorem getE_up{l:List Ent}{e:Ent}(hs:UpE l)(he:e∈l):getE l e.id=(e,true):=by
 have h2:(getE l e.id).2=true:=by rw[getE_has];exact(hasId_iff _ _).2 ⟨e,he,rfl⟩
 obtain⟨h3,h4⟩:=getE_mem h2
 have h5:=upE_inj hs h3 he h4
 rw[← h2,← h5,h5]
 exact Prod.ext h5 rfl
theorem usort_ids{l:List Ent}(hs:UpE l)(p:Ent→Bool):usort (idsOf l p)=idsOf l p:=usort_up (ids_up hs p)
theorem hom_eq{l:List Ent}(hs:UpE l){k:Nat}{e:Ent}(hk:l[k]? =some e):homE l e.id=if l.countP (fun x=>decide (x.form=e.form))=1 then 0 else(((l.take k).countP (fun x=>decide (x.form=e.form)):Nat):Int)+1:=by
 have he:=List.mem_of_getElem? hk
 have hp:(decide (e.form=e.form))=true:=by simp
 have hpos:0<l.countP (fun x=>decide (x.form=e.form)):=List.countP_pos_iff.2 ⟨e,he,hp⟩
 rw[homE,getE_up hs he]
 simp only[if_neg (show ¬true=false by decide)]
 rw[usort_ids hs,ids_len]
 by_cases h1:l.countP (fun x=>decide (x.form=e.form))=1
 ·rw[if_pos (by omega),if_pos h1]
 ·rw[if_neg (by omega),if_neg h1,ids_idx hs hk hp]
end Go.Proofs.YtehdkccjaeckhaaGreatDoor
namespace Go.Proofs.YtehdkccjaeckhaaGreatDoor
open Go.Lib
theorem dd_small{u:Nat}(h:u<10):decDigits u= [UInt8.ofNat (48+u)]:=by rw[decDigits,dif_pos h]
theorem dd_big{u:Nat}(h: ¬u<10):decDigits u=decDigits (u / 10)++ [UInt8.ofNat (48+u % 10)]:=by rw[decDigits,dif_neg h]
theorem itoa_pos{n:Int}(h: ¬n<0):itoa n=decDigits n.natAbs:=by
 rw[itoa,if_neg h];congr 1;omega
def okNum(v:Int)(s:List UInt8):Prop:=itoa v=s∧ -1099511627776≤v∧v≤1099511627776
instance (v:Int) (s:List UInt8):Decidable (okNum v s):=by unfold okNum;infer_instance
def numB(n:Int):ByteArray:=⟨(itoa n).toArray⟩
end Go.Proofs.YtehdkccjaeckhaaGreatDoor
