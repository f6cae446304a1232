/- The statement about what a viewer finds: for every input of the size that the statement names the law returns true. -/
import Derived.Test.YtaaodllggdjhiaaGreatDoorh
import Derived.Test.YtaaodllggdjhiaaGreatDoorx
set_option linter.all false
set_option linter.unusedVariables false
set_option linter.unusedSimpArgs false
namespace Go.Proofs.YtaaodllggdjhiaaGreatDoor
open Go.ChangeShapes Go.WideShapes Go.ChangeAt Go.RowKit
open Go.Dl (Sh Val)
theorem qfV(os:Os):laidMet Tryz.prog Rows.topFoundUptoRow.laid ((qc5 os).forCall (fun _ _=>0) ⟨#[],#[.agg #[.slice none 0 0,.slice none 0 0,.slice none 0 0,.slice none 0 0],.agg #[.int .i64 0,.string ⟨#[]⟩,.int .i64 0,.int .i64 0,.slice none 0 0,.slice none 0 0,.slice none 0 0],.agg #[.int .i64 0,.int .i64 0],.agg #[.int .i64 0,.int .i64 0,.string ⟨#[]⟩,.slice none 0 0]],[]⟩).memory:=
 (LaidIn.of_run (l:=laidL) [0,1] 8 (by kernel_rfl) (by kernel_rfl) (by kernel_rfl) (by kernel_rfl)).met
theorem qdL(os:Os){H:Type}(enc:TypeId×Value->H): ∃places,DataW.whole enc Tryz.prog ((qc5 os).forCall (fun _ _=>0) ⟨#[],#[.agg #[.slice none 0 0,.slice none 0 0,.slice none 0 0,.slice none 0 0],.agg #[.int .i64 0,.string ⟨#[]⟩,.int .i64 0,.int .i64 0,.slice none 0 0,.slice none 0 0,.slice none 0 0],.agg #[.int .i64 0,.int .i64 0],.agg #[.int .i64 0,.int .i64 0,.string ⟨#[]⟩,.slice none 0 0]],[]⟩).memory Tryz.f3.params.toList Rows.topFoundSpec.vars false #[(.agg #[.slice none 0 0,.slice none 0 0,.slice none 0 0,.slice none 0 0]:Value),(.agg #[.int .i64 0,.string ⟨#[]⟩,.int .i64 0,.int .i64 0,.slice none 0 0,.slice none 0 0,.slice none 0 0]:Value),(.agg #[.int .i64 0,.int .i64 0]:Value),(.agg #[.int .i64 0,.int .i64 0,.string ⟨#[]⟩,.slice none 0 0]:Value)].toList 8=some ([.agg [.nil,.nil,.nil,.nil],.agg [.agg [.lit (.int .i64 0),.lit (.string []),.lit (.int .i64 0),.lit (.int .i64 0),.nil],.nil,.nil],.agg [.lit (.int .i64 0),.lit (.int .i64 0)],.agg [.lit (.int .i64 0),.lit (.int .i64 0),.lit (.string []),.nil]],[],places):=
 ⟨[],by kernel_rfl⟩
set_option maxRecDepth 100000 in
theorem qcx(os:Os)(started:os.Started)(H:Type)(enc:TypeId×Value->H)(F:Stop.Interp):
  ReturnsInHanded {} Tryz.checked os 3 .any ((Rows.OpenSpec.upto Rows.topFoundSpec).preRow enc Tryz.prog Tryz.f3 Rows.topFoundUptoRow.domain false Rows.topFoundUptoRow.laid) (((Rows.OpenSpec.upto Rows.topFoundSpec).at F).post enc Tryz.prog Tryz.f3 false true false false):=by
 obtain⟨places,hx⟩:=qdL os enc
 refine returnsInHanded_of_row (C:=Tryz.checked) (s:=(Rows.OpenSpec.upto Rows.topFoundSpec)) Tryz.own started (by kernel_rfl) Tryz.func3
  (witness_row_at (enc:=enc) (C:=Tryz.checked) false (qc5 os) #[.agg #[.slice none 0 0,.slice none 0 0,.slice none 0 0,.slice none 0 0],.agg #[.int .i64 0,.string ⟨#[]⟩,.int .i64 0,.int .i64 0,.slice none 0 0,.slice none 0 0,.slice none 0 0],.agg #[.int .i64 0,.int .i64 0],.agg #[.int .i64 0,.int .i64 0,.string ⟨#[]⟩,.slice none 0 0]] rfl (by kernel_rfl) (by kernel_rfl) (by kernel_rfl)
   (OpenSpec.preRow_of_cond 8 hx (by kernel_rfl) (fun k hk=>by cases hk;kernel_rfl) (by kernel_rfl) (qfV os))) ?_
 intro W base args ds gs before hval0 hW _ hcond _ hL _ _
 have qfh: ∀(j:Nat) t v,Tryz.f3.params[j]? =some t->args[j]? =some v->Value.okWide Tryz.prog W .any base t v:=hval0
 have hW':=hW
 obtain⟨p,q,hA0,hV,rfl,hfz,hnd⟩:=hW
 have hA:DataW.TrodAll enc Tryz.prog W 0 (fun _=>true) true Tryz.f3.params.toList args.toList ds p:=hA0
 rw [Tryz.params3]at hA qfh
 obtain⟨v0,vs0,d0,ds0,p0,q0,hargs,rfl,rfl,h0,r0⟩:=trodAll_cons hA
 obtain⟨v1,vs1,d1,ds1,p1,q1,rfl,rfl,rfl,h1,r1⟩:=trodAll_cons r0
 obtain⟨v2,vs2,d2,ds2,p2,q2,rfl,rfl,rfl,h2,r2⟩:=trodAll_cons r1
 obtain⟨v3,vs3,d3,ds3,p3,q3,rfl,rfl,rfl,h3,r3⟩:=trodAll_cons r2
 obtain⟨rfl,rfl,rfl⟩:=trodAll_nil r3
 obtain rfl:args= #[v0,v1,v2,v3]:=by cases args;simp_all
 obtain⟨rfl,rfl⟩:=trodVars_none hV
 have hbk:Rows.uptoBulkAll ([d0,d1,d2,d3]++[])<=1048576:=of_decide_eq_true (hcond _ rfl)
 simp only [List.append_nil,Rows.uptoBulkAll]at hbk
 have kk0:=h0
 have lt0: ∀x∈p0,x.block<W.heap.size:=by obtain⟨m,hm⟩:=kk0;exact DataW.trod_lt m _ _ _ hm
 obtain⟨x0,k0,a0,b0⟩:=Go.Dl.qdF (qjL H) qcE (by kernel_rfl) (qfh 0 27 v0 rfl rfl) h0
 replace a0:=rgtVD x0 a0
 have kk1:=h1
 have lt1: ∀x∈p1,x.block<W.heap.size:=by obtain⟨m,hm⟩:=kk1;exact DataW.trod_lt m _ _ _ hm
 obtain⟨x1,k1,a1,b1⟩:=Go.Dl.qdF (qjL H) qeO (by kernel_rfl) (qfh 1 34 v1 rfl rfl) h1
 replace a1:=docVD x1 a1
 have kk2:=h2
 have lt2: ∀x∈p2,x.block<W.heap.size:=by obtain⟨m,hm⟩:=kk2;exact DataW.trod_lt m _ _ _ hm
 obtain⟨x2,k2,a2,b2⟩:=Go.Dl.qdF (qjL H) qps (by kernel_rfl) (qfh 2 36 v2 rfl rfl) h2
 replace a2:=vwrVD x2 a2
 have kk3:=h3
 have lt3: ∀x∈p3,x.block<W.heap.size:=by obtain⟨m,hm⟩:=kk3;exact DataW.trod_lt m _ _ _ hm
 obtain⟨x3,a3,b3⟩:=qoE (qjL H) qryAt (qfh 3 39 v3 rfl rfl) h3
 clear hA0 hval0
 replace b0:Go.Dl.qY qcE x0<=1048576:=by omega
 replace b1:Go.Dl.qY qeO x1<=1048576:=by omega
 replace b2:Go.Dl.qY qps x2<=1048576:=by omega
 replace b3:x3.size<=1048576:=by omega
 have qaq:=Go.Dl.qnE (found_D (Rgt.ofVal x0) (Dcm.ofVal x1) x2.1 x2.2.1 x3 (fnd_sz b0 b1 b3)) (w:=W) (vs:= #[v0,v1,v2,v3]) rfl (read4 a0 a1 a2 a3) (tabs_at hL) (by intro g hg;exact absurd hg (by simp [Go.Dl.ztab])) (by intro g hg;exact absurd hg (by simp [Go.Dl.etab]))
 refine qaq.mono fun e W' ⟨he,bel⟩=>?_
 subst he
 exact⟨_,rfl,_,_,_,[],_,[],hW',trodAll_mk1 (shut_bool Tryz.underlying4 _),(trodAll_cons_mk (Below.trod Tryz.laidOut (by kernel_rfl) (of_decide_eq_true (by kernel_rfl)) kk0 bel lt0) (trodAll_cons_mk (Below.trod Tryz.laidOut (by kernel_rfl) (of_decide_eq_true (by kernel_rfl)) kk1 bel lt1) (trodAll_cons_mk (Below.trod Tryz.laidOut (by kernel_rfl) (of_decide_eq_true (by kernel_rfl)) kk2 bel lt2) (trodAll_cons_mk (Below.trod Tryz.laidOut (by kernel_rfl) (of_decide_eq_true (by kernel_rfl)) kk3 bel lt3) trodAll_mk0)))),rfl,bel.frame _,fun h=>by cases h⟩
theorem topFound_said:Rows.TopFoundUptoSaid:=
 OpenClaim.holds_of_cond 3 Tryz.f3 rfl rfl rfl rfl rfl rfl rfl ⟨rfl,rfl,rfl,rfl,rfl⟩ rfl rfl rfl rfl rfl (by kernel_rfl) Tryz.func3 (by kernel_rfl)
  (of_decide_eq_true (by kernel_rfl)) (by unfold Func.isWrapper;first|(rw [if_pos (by decide +kernel)];kernel_rfl)|(rw [if_neg (by decide +kernel)];exact⟨rfl,rfl⟩))
  (fun os started H enc _ F=>by rw [OpenClaim.pre_eq_preRow];exact qcx os started H enc F)
theorem qdM (f : FuncId) (fn : Func) (hf : Tryz.pinned.checked.prog.funcNamed "langdoc/langdoctop.TopFound" = some f) (hfn : Tryz.pinned.checked.prog.funcs[f]? = some fn) :
  false=Tryz.pinned.checked.prog.looks []/\∀(j:Nat) t,fn.params[j]? =some t->Tryz.pinned.checked.prog.wantsStandIn t=false:=by
 obtain rfl : f = 3 := Option.some.inj ((show Tryz.prog.funcNamed "langdoc/langdoctop.TopFound" = some 3 by kernel_rfl).symm.trans hf) |>.symm
 obtain rfl:fn=Tryz.f3:=(Option.some.inj (Tryz.func3.symm.trans hfn)).symm
 refine⟨by kernel_rfl,fun j t ht=>?_⟩
 rw [Tryz.params3]at ht
 have hm:t∈ [27,34,36,39]:=by simpa using Array.mem_of_getElem? ht
 have Zr:([27,34,36,39].all fun u=> !Tryz.prog.wantsStandIn u)=true:=by kernel_rfl
 exact(show Tryz.prog.wantsStandIn t=false by simpa using List.all_eq_true.1 Zr t hm)
/-- TopFound: the card, for arguments of the size that it names. -/
theorem topFound_holds:Rows.TopFoundUptoCardSaid:=
 Claim7.holds_tied_plain_at .later [] _ _ _ _ topFound_said (fun _ h=>by cases h) (by kernel_rfl) (fun _ h=>by cases h) topFoundUpto_row_tie rfl ⟨rfl,rfl⟩ (by kernel_rfl) rfl qdM (by kernel_rfl)
end Go.Proofs.YtaaodllggdjhiaaGreatDoor

