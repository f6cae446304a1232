/- The statement about words licensed: for every input of the size that the statement names the law returns true. -/
import Derived.Test.YtobpcppcjdnkmaaGreatht
set_option linter.all false
open Go renaming Value → j6
namespace Go.Proofs.YtobpcppcjdnkmaaGreat
open Go.Proofs.Tryz
open Go.ChangeShapes Go.WideShapes Go.ChangeAt Go.RowKit
open Go.Dl (Sh Val)
theorem qfu{w:World}{E:Dl.Env}{v:j6}(x:Val (.int .u8))(h:Dl.VD w E (Dl.ArgD (.int .u8) x) v):Dl.VD w E (dv (.lit (.int .u8 x))) v:=h
theorem Vl(x:Val (.int .u8))(h:Sh.ok (.int .u8) x):(0:Int)<=(show Int from x):=by
 have h2:(Lit.int .u8 (show Int from x)).wf=true:=h;generalize (show Int from x)=n at*
 have h3:(decide (IntKind.u8.min<=n)&&decide (n<=IntKind.u8.max))=true:=h2;simp only [we,aj]at h3;exact h3.1
theorem Ph{g:Lg}{d:Dcm}{l:List Dcs}{r:Rul}(H:LicS g d l r)(k:Int)(hk:0<=k)(id:Int):
  Dl.DCalls Tryz.prog 3 [.agg g.row,.agg d.row,dv (.sl 4 (l.map Dcs.enc)),dv (.lit (.int .u8 k)),dv (li id),.agg r.row] (.one (.c (.lit (.bool true)))):=by
 obtain⟨n,rfl⟩: ∃n:Nat,k=n:=⟨k.toNat,oa⟩;exact Dl.NCalls.det (qfn H n id) (fun _ h=>h)
theorem rS(os:Os):laidMet Tryz.prog Rows.topLicensedUptoRow.laid ((oY os).forCall (fun _ _=>0) ⟨#[],#[.agg #[.slice none 0 0,.string ⟨#[]⟩,.slice none 0 0,.slice none 0 0,.slice none 0 0,.int .i64 0,.slice none 0 0,.slice none 0 0,.slice none 0 0],.agg #[.int .i64 0,.string ⟨#[]⟩,.int .i64 0,.int .i64 0,.slice none 0 0,.slice none 0 0,.slice none 0 0],.slice none 0 0,.int .u8 0,.int .i64 0,.agg #[.slice none 0 0,.slice none 0 0,.slice none 0 0,.slice none 0 0,.bool false,.bool false]],[]⟩).memory:=
 ⟨[],rfl,.nil,fun b off h=>by cases h⟩
theorem mg(os:Os){H:Type}(enc:TypeId×j6->H): ∃places,DataW.whole enc Tryz.prog ((oY os).forCall (fun _ _=>0) ⟨#[],#[.agg #[.slice none 0 0,.string ⟨#[]⟩,.slice none 0 0,.slice none 0 0,.slice none 0 0,.int .i64 0,.slice none 0 0,.slice none 0 0,.slice none 0 0],.agg #[.int .i64 0,.string ⟨#[]⟩,.int .i64 0,.int .i64 0,.slice none 0 0,.slice none 0 0,.slice none 0 0],.slice none 0 0,.int .u8 0,.int .i64 0,.agg #[.slice none 0 0,.slice none 0 0,.slice none 0 0,.slice none 0 0,.bool false,.bool false]],[]⟩).memory Tryz.f3.params.toList Rows.topLicensedSpec.vars false #[(.agg #[.slice none 0 0,.string ⟨#[]⟩,.slice none 0 0,.slice none 0 0,.slice none 0 0,.int .i64 0,.slice none 0 0,.slice none 0 0,.slice none 0 0]:j6),(.agg #[.int .i64 0,.string ⟨#[]⟩,.int .i64 0,.int .i64 0,.slice none 0 0,.slice none 0 0,.slice none 0 0]:j6),(.slice none 0 0:j6),(.int .u8 0:j6),(.int .i64 0:j6),(.agg #[.slice none 0 0,.slice none 0 0,.slice none 0 0,.slice none 0 0,.bool false,.bool false]:j6)].toList 8=some ([.agg [.agg [.nil],.agg [.lit (.string []),.nil,.nil],.nil,.agg [.lit (.int .i64 0),.nil,.nil],.nil],.agg [.agg [.lit (.int .i64 0),.lit (.string []),.lit (.int .i64 0),.lit (.int .i64 0),.nil],.nil,.nil],.nil,.lit (.int .u8 0),.lit (.int .i64 0),.agg [.nil,.nil,.nil,.nil,.lit (.bool false),.lit (.bool false)]],[],places):=
 ⟨[],om⟩
set_option maxRecDepth 100000 in
theorem iV(os:Os)(started:os.Started)(H:Type)(enc:TypeId×j6->H)(F:Stop.Interp):
  ReturnsInHanded {} Tryz.checked os 3 .any ((Rows.OpenSpec.upto Rows.topLicensedSpec).preRow enc Tryz.prog Tryz.f3 Rows.topLicensedUptoRow.domain false Rows.topLicensedUptoRow.laid) (((Rows.OpenSpec.upto Rows.topLicensedSpec).at F).post enc Tryz.prog Tryz.f3 false true false false):=by
 obtain⟨places,hx⟩:=mg os enc;refine returnsInHanded_of_row (C:=Tryz.checked) (s:=(Rows.OpenSpec.upto Rows.topLicensedSpec)) Tryz.own started om func3
  (witness_row_at (enc:=enc) (C:=Tryz.checked) false (oY os) #[.agg #[.slice none 0 0,.string ⟨#[]⟩,.slice none 0 0,.slice none 0 0,.slice none 0 0,.int .i64 0,.slice none 0 0,.slice none 0 0,.slice none 0 0],.agg #[.int .i64 0,.string ⟨#[]⟩,.int .i64 0,.int .i64 0,.slice none 0 0,.slice none 0 0,.slice none 0 0],.slice none 0 0,.int .u8 0,.int .i64 0,.agg #[.slice none 0 0,.slice none 0 0,.slice none 0 0,.slice none 0 0,.bool false,.bool false]] rfl om om om
   (OpenSpec.preRow_of_cond 8 hx om (fun k hk=>by cases hk;kernel_rfl) om (rS os))) ?_
 intro W base args ds gs before XU hW _ hcond _ hL Dd _;have ZS: ∀(j:Nat) t v,Tryz.f3.params[j]? =some t->args[j]? =some v->Value.okWide Tryz.prog W .any base t v:=XU;have hW':=hW;obtain⟨p,q,hA0,hV,rfl,hfz,rH⟩:=hW;have hA:DataW.TrodAll enc Tryz.prog W 0 (fun _=>true) true Tryz.f3.params.toList args.toList ds p:=hA0;rw [Tryz.params3]at hA ZS;obtain⟨v0,vs0,d0,ds0,p0,q0,hargs,rfl,rfl,h0,r0⟩:=trodAll_cons hA;obtain⟨v1,vs1,d1,ds1,p1,q1,rfl,rfl,rfl,h1,r1⟩:=trodAll_cons r0;obtain⟨v2,vs2,d2,ds2,p2,q2,rfl,rfl,rfl,h2,r2⟩:=trodAll_cons r1;obtain⟨v3,vs3,d3,ds3,p3,q3,rfl,rfl,rfl,h3,r3⟩:=trodAll_cons r2;obtain⟨v4,vs4,d4,ds4,p4,q4,rfl,rfl,rfl,h4,r4⟩:=trodAll_cons r3;obtain⟨v5,vs5,d5,ds5,p5,q5,rfl,rfl,rfl,h5,r5⟩:=trodAll_cons r4;obtain⟨rfl,rfl,rfl⟩:=trodAll_nil r5;obtain rfl:args= #[v0,v1,v2,v3,v4,v5]:=by cases args;simp_all
 obtain⟨rfl,rfl⟩:=trodVars_none hV;have hbk:Rows.uptoBulkAll ([d0,d1,d2,d3,d4,d5]++[])<=1048576:=aw (hcond _ rfl);simp only [yG,Rows.uptoBulkAll]at hbk;have kk0:=h0;have lt0: ∀x∈p0,x.block<W.heap.size:=by obtain⟨m,hm⟩:=kk0;exact DataW.trod_lt m _ _ _ hm
 obtain⟨x0,k0,a0,b0⟩:=Dl.arg_readB (o7 H) fL om (ZS 0 36 v0 rfl rfl) h0;replace a0:=qgN x0 a0;have kk1:=h1;have lt1: ∀x∈p1,x.block<W.heap.size:=by obtain⟨m,hm⟩:=kk1;exact DataW.trod_lt m _ _ _ hm
 obtain⟨x1,k1,a1,b1⟩:=Dl.arg_readB (o7 H) mw om (ZS 1 42 v1 rfl rfl) h1;replace a1:=qfP x1 a1;have kk2:=h2;have lt2: ∀x∈p2,x.block<W.heap.size:=by obtain⟨m,hm⟩:=kk2;exact DataW.trod_lt m _ _ _ hm
 obtain⟨x2,k2,a2,b2⟩:=Dl.arg_readB (o7 H) (.sl 4 Z7) om (ZS 2 43 v2 rfl rfl) h2;replace a2:=qfR x2 a2;have kk3:=h3;have lt3: ∀x∈p3,x.block<W.heap.size:=by obtain⟨m,hm⟩:=kk3;exact DataW.trod_lt m _ _ _ hm
 obtain⟨x3,k3,a3,b3⟩:=Dl.arg_readB (o7 H) (.int .u8) om (ZS 3 5 v3 rfl rfl) h3;replace a3:=qfu x3 a3;have kk4:=h4;have lt4: ∀x∈p4,x.block<W.heap.size:=by obtain⟨m,hm⟩:=kk4;exact DataW.trod_lt m _ _ _ hm
 obtain⟨x4,k4,a4,b4⟩:=Dl.arg_readB (o7 H) qO om (ZS 4 3 v4 rfl rfl) h4;replace a4:=qfC x4 a4;have kk5:=h5;have lt5: ∀x∈p5,x.block<W.heap.size:=by obtain⟨m,hm⟩:=kk5;exact DataW.trod_lt m _ _ _ hm
 obtain⟨x5,k5,a5,b5⟩:=Dl.arg_readB (o7 H) Q4 om (ZS 5 46 v5 rfl rfl) h5;replace a5:=qeG x5 a5;clear hA0 XU;replace b0:Dl.sizeV fL x0<=1048576:=oa;replace b1:Dl.sizeV mw x1<=1048576:=oa;replace b2:Dl.sizeV (.sl 4 Z7) x2<=1048576:=oa;replace b3:Dl.sizeV (.int .u8) x3<=1048576:=oa;replace b4:Dl.sizeV qO x4<=1048576:=oa;replace b5:Dl.sizeV Q4 x5<=1048576:=oa;have kpos:(0:Int)<=(show Int from x3):=Vl x3 k3;have cp:=Dl.law_calls (Ph (qbq b0 b1 b2 b5) x3 kpos x4) (w:=W) (vs:= #[v0,v1,v2,v3,v4,v5]) rfl (qeH a0 a1 a2 a3 a4 a5) (Dl.tabs_none fun g=>rfl) (by intro g hg;exact ak hg (by simp [Dl.ztab])) (by intro g hg;exact ak hg (by simp [Dl.etab])) (TO Dd);refine cp.mono fun e W' ⟨he,bel⟩=>?_;subst he;exact⟨_,rfl,_,_,_,[],_,[],hW',trodAll_mk1 (shut_bool underlying4 _),(trodAll_cons_mk (Below.trod Tryz.laidOut om (aw om) kk0 bel lt0) (trodAll_cons_mk (Below.trod Tryz.laidOut om (aw om) kk1 bel lt1) (trodAll_cons_mk (Below.trod Tryz.laidOut om (aw om) kk2 bel lt2) (trodAll_cons_mk (Below.trod Tryz.laidOut om (aw om) kk3 bel lt3) (trodAll_cons_mk (Below.trod Tryz.laidOut om (aw om) kk4 bel lt4) (trodAll_cons_mk (Below.trod Tryz.laidOut om (aw om) kk5 bel lt5) trodAll_mk0)))))),rfl,bel.frame _,fun h=>by cases h⟩
theorem nW:Rows.TopLicensedUptoSaid:=
 OpenClaim.holds_of_cond 3 Tryz.f3 rfl rfl rfl rfl rfl rfl rfl ⟨rfl,rfl,rfl,rfl,rfl⟩ rfl rfl rfl rfl rfl om func3 J7
  (aw om) (by unfold Func.isWrapper;first|(rw [ae (by decide +kernel)];kernel_rfl)|(rw [j7 (by decide +kernel)];exact⟨rfl,rfl⟩))
  (fun os started H enc _ F=>by rw [OpenClaim.pre_eq_preRow];exact iV os started H enc F)
/-- TopLicensed, for arguments of the size that it names. -/
theorem topLicensed_holds:Rows.TopLicensedUptoSaid:=nW
end Go.Proofs.YtobpcppcjdnkmaaGreat
