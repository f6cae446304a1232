/- The statements about dictionaries: their frames. For every input of the size that the statement names the law returns true. -/
import Derived.Test.YtehdkccjaeckhaaGreatDoorCards
import Derived.Test.YtehdkccjaeckhaaGreatDoorTie
import Derived.WalkKit
import Derived.ProofKit
import Derived.OpenShut
import Derived.ShutString
import Derived.ChangeOld
import Derived.Below
import Derived.Deep.DeepHandedRow
import Derived.Lib.LaidIn
import Derived.Lib.LaidTab
import Derived.Stop.LaidErr
import Derived.Test.YtehdkccjaeckhaaGreatDoorn5
set_option linter.all false
set_option linter.unusedVariables false
set_option linter.unusedSimpArgs false
namespace Go.Proofs.YtehdkccjaeckhaaGreatDoor
open Go.ChangeShapes Go.WideShapes Go.ChangeAt Go.RowKit
open Go.ChangeMaps (open_string shut_string)
open Go.Dl (Sh Val)
theorem Tryz.own:ownKnob Tryz.prog.godebug=none:=by kernel_rfl
theorem Tryz.laidOut:laidOutB Tryz.prog=true:=by kernel_rfl
def deB32:List Int:= [0,1,28,2,29,14,24,3,30,22,20,15,25,17,4,8,31,27,13,23,21,19,16,7,26,12,18,6,11,5,10,9]
def deB64:List Int:= [0,1,56,2,57,49,28,3,61,58,42,50,38,29,17,4,62,47,59,36,45,43,51,22,53,39,33,30,24,18,12,5,63,55,48,27,60,41,37,16,46,35,44,21,52,32,23,11,54,26,40,15,34,20,31,10,25,14,19,9,13,8,7,6]
/-- A world for the witness: the settled one, the listed variables holding what their initialisers lay. -/
noncomputable def laidWorld(os:Os):World:=
 let w0:=World.holding Tryz.prog os ⟨#[],#[],[]⟩
 let put (h:Array Obj) (g:Nat) (cs:Array Value):Array Obj:=h.modify g fun
  | .cells _ t frozen=>.cells cs t frozen
  | o=>o
 let h0:=put w0.heap 0 (Go.Lib.pow10Tab.map fun z=>Value.int .u64 z).toArray
 let h1:=put h0 1 (deB32.map fun z=>Value.int .u8 z).toArray
 let h2:=put h1 2 (deB64.map fun z=>Value.int .u8 z).toArray
 { w0 with heap:=h2 }
def laidL : List (String × DataW Unit) := [("math/bits.deBruijn32tab", Rows.laid_math_bits_deBruijn32tab), ("math/bits.deBruijn64tab", Rows.laid_math_bits_deBruijn64tab), ("internal/strconv.uint64pow10", Rows.laid_internal_strconv_uint64pow10)]
theorem laidP:(Rows.laid_internal_strconv_uint64pow10:DataW Unit)=Go.Lib.tabData .u64 Go.Lib.pow10Tab:=by kernel_rfl
theorem gP : Tryz.prog.globalNamed "internal/strconv.uint64pow10" = some 0 := by kernel_rfl
theorem pow_is {W : World} (h : laidMet Tryz.prog laidL W) : Go.Lib.TabIs Tryz.prog W "internal/strconv.uint64pow10" .u64 Go.Lib.pow10Tab := by
 have h2:=h.tail.tail
 rw [laidP]at h2
 exact Go.Lib.tabIs_of_head gP (by kernel_rfl) Tryz.underlying214 Tryz.underlying198 (by kernel_rfl) (by kernel_rfl) h2
theorem tab_cells{W:World}{n:String}{g:Nat}{k:IntKind}{zs:List Int}(hg:Tryz.prog.globalNamed n=some g)(ht:Go.Lib.TabIs Tryz.prog W n k zs){o:Nat}{v:Value}(hv:(zs.map fun z=>Value.int k z)[o]? =some v):v.oneCell'=true∧W.cell? ⟨g,o,none⟩=some v:=by
 refine⟨?_,?_⟩
 ·rw [List.getElem?_map]at hv
  obtain⟨z,_,rfl⟩:=Option.map_eq_some_iff.1 hv
  rfl
 ·have:=World.var?_cell hg ht o
  rw [this]
  simpa using hv
theorem tabs_at{W:World}(h:laidMetH Tryz.prog laidL W):Go.Dl.TabsAt W:=by
 have hm:laidMet Tryz.prog laidL W:=h
 intro g vs hg o v hv
 unfold Go.Dl.gtab at hg
 split at hg
 ·rename_i e
  subst e
  injection hg with hg
  subst hg
  exact tab_cells gP (pow_is hm) hv
 ·cases hg
theorem size_at{W:World}(h:laidMetH Tryz.prog laidL W):Go.Dl.GSz W:=by
 have hm:laidMet Tryz.prog laidL W:=h
 intro g hg vs hvs
 obtain rfl:g=0:=by simpa [Go.Dl.ztab]using hg
 have e:vs=Go.Lib.pow10Tab.map fun z=>Value.int .u64 z:=by
  have:Go.Dl.gtab 0=some (Go.Lib.pow10Tab.map fun z=>Value.int .u64 z):=rfl
  rw [this]at hvs;injection hvs with hvs;exact hvs.symm
 subst e
 have ht:=pow_is hm
 rw [Go.Lib.TabIs,World.var?,gP]at ht
 simp only [Option.bind_some]at ht
 cases hh:W.heap[0]? with
 | none=>rw [hh]at ht;cases ht
 | some ob=>
  rw [hh]at ht
  cases ob with
  | cells cs e m=>injection ht with ht;subst ht;exact⟨_,_,_,rfl,by simp⟩
  | _=>cases ht
theorem errs_at{W:World}(_:laidMetH Tryz.prog laidL W): ∀g∈Go.Dl.etab,∃ev,W.cell? ⟨g,0,none⟩=some ev∧(ev= .nilIface∨∃te pe,ev= .iface te pe):=fun g hg=>by
 simp [Go.Dl.etab]at hg
theorem bulk_all{H:Type}: ∀l:List (DataW H),Rows.uptoBulkAll l=(l.map Rows.uptoBulk).sum
 | []=>by simp [Rows.uptoBulkAll]
 | d::l=>by simp [Rows.uptoBulkAll,bulk_all l]
theorem isBulk(H:Type):Go.Dl.IsBulk (Rows.uptoBulk (H:=H)) where
 pos d:=by
  cases d with
  | lit l=>cases l<;>simp [Rows.uptoBulk]
  | nil=>simp [Rows.uptoBulk]
  | ptr d=>simp [Rows.uptoBulk]
  | slice elems spare=>simp [Rows.uptoBulk]
  | agg parts=>simp [Rows.uptoBulk]
  | iface t d=>simp [Rows.uptoBulk]
  | map entries=>simp [Rows.uptoBulk]
  | held h=>simp [Rows.uptoBulk]
 str bs:=by simp [Rows.uptoBulk]
 sl es ss:=by simp only [Rows.uptoBulk,bulk_all];omega
 agg ps:=by simp only [Rows.uptoBulk,bulk_all];omega
abbrev shInt:Sh:=.int .i64
abbrev shSns:Sh:=.cons .str (.cons .str .nil)
abbrev shPhon:Sh:=.cons .str (.cons shInt .nil)
abbrev shInv:Sh:=.cons (.sl 2 shPhon) .nil
abbrev shLnk:Sh:=.cons shInt (.cons shInt .nil)
abbrev shAlt:Sh:=.sl 1 shInt
abbrev shEnt:Sh:=.cons shInt (.cons (.sl 1 shInt) (.cons shInt (.cons (.sl 1 shAlt) (.cons shInt (.cons (.sl 2 shSns) (.cons (.sl 2 shLnk) (.cons (.sl 2 shLnk) .nil)))))))
abbrev shUnt:Sh:=.cons .str (.cons (.sl 1 shInt) .nil)
abbrev shLet:Sh:=.sl 1 .str
abbrev shOrt:Sh:=.cons .str (.cons (.sl 2 shUnt) (.cons (.sl 1 shLet) .nil))
abbrev shRul:Sh:=.cons (.sl 1 shInt) (.cons (.sl 1 shInt) (.cons (.sl 2 shLnk) (.cons (.sl 2 shLnk) (.cons .bool (.cons .bool .nil)))))
abbrev shStp:Sh:=.cons shInt (.cons shInt (.cons shInt .nil))
abbrev shNet:Sh:=.cons shInt (.cons (.sl 3 shStp) (.cons (.sl 1 shInt) .nil))
abbrev shLng:Sh:=.cons shInv (.cons shOrt (.cons (.sl 6 shRul) (.cons shNet (.cons (.sl 8 shEnt) .nil))))
def Sns.ofVal(v:Val shSns):Sns:=⟨v.1,v.2.1⟩
def Phon.ofVal(v:Val shPhon):Phon:=⟨v.1,v.2.1⟩
def Lnk.ofVal(v:Val shLnk):Lnk:=⟨v.1,v.2.1⟩
def altOf(v:Val (.sl 1 shInt)):List Int:=v
def invOf(v:Val shInv):List Phon:=List.map Phon.ofVal v.1
def Ent.ofVal(v:Val shEnt):Ent:=⟨v.1,v.2.1,v.2.2.1,List.map altOf v.2.2.2.1,v.2.2.2.2.1,List.map Sns.ofVal v.2.2.2.2.2.1,List.map Lnk.ofVal v.2.2.2.2.2.2.1,List.map Lnk.ofVal v.2.2.2.2.2.2.2.1⟩
theorem sns_enc(l:List (Val shSns)):List.map (Sh.enc shSns) l=(List.map Sns.ofVal l).map Sns.enc:=by
 rw [List.map_map];rfl
theorem phon_enc(l:List (Val shPhon)):List.map (Sh.enc shPhon) l=(List.map Phon.ofVal l).map Phon.enc:=by
 rw [List.map_map];rfl
theorem lnk_enc(l:List (Val shLnk)):List.map (Sh.enc shLnk) l=(List.map Lnk.ofVal l).map Lnk.enc:=by
 rw [List.map_map];rfl
theorem alt_enc(l:List (Val (.sl 1 shInt))):List.map (Sh.enc (.sl 1 shInt)) l=(List.map altOf l).map altC:=by
 rw [List.map_map];rfl
theorem strVD{w:World}{E:Go.Dl.Env}{v:Value}(x:Val .str)(h:Go.Dl.VD w E (Go.Dl.ArgD .str x) v):Go.Dl.VD w E (dv (ls x)) v:=h
theorem intVD{w:World}{E:Go.Dl.Env}{v:Value}(x:Val shInt)(h:Go.Dl.VD w E (Go.Dl.ArgD shInt x) v):Go.Dl.VD w E (dv (li x)) v:=h
theorem intsVD{w:World}{E:Go.Dl.Env}{v:Value}(x:Val (.sl 1 shInt))(h:Go.Dl.VD w E (Go.Dl.ArgD (.sl 1 shInt) x) v):Go.Dl.VD w E (dv (.sl 1 (ints (altOf x)))) v:=h
theorem ent_encV(y:Val shEnt):Sh.enc shEnt y=Ent.enc (Ent.ofVal y):=by
 have e1:=alt_enc y.2.2.2.1
 have e2:=sns_enc y.2.2.2.2.2.1
 have e3:=lnk_enc y.2.2.2.2.2.2.1
 have e4:=lnk_enc y.2.2.2.2.2.2.2.1
 show [li y.1,.sl 1 (List.map (Sh.enc shInt) y.2.1),li y.2.2.1,.sl 1 (List.map (Sh.enc (.sl 1 shInt)) y.2.2.2.1),li y.2.2.2.2.1,.sl 2 (List.map (Sh.enc shSns) y.2.2.2.2.2.1),.sl 2 (List.map (Sh.enc shLnk) y.2.2.2.2.2.2.1),.sl 2 (List.map (Sh.enc shLnk) y.2.2.2.2.2.2.2.1)]=_
 rw [e1,e2,e3,e4];rfl
theorem ents_encL(l:List (Val shEnt)):List.map (Sh.enc shEnt) l=(List.map Ent.ofVal l).map Ent.enc:=by
 rw [List.map_map]
 exact List.map_congr_left fun y _=>ent_encV y
def Unt.ofVal(v:Val shUnt):Unt:=⟨v.1,v.2.1⟩
def letOf(v:Val shLet):List ByteArray:=v
def Rul.ofVal(v:Val shRul):Rul:=⟨v.1,v.2.1,List.map Lnk.ofVal v.2.2.1,List.map Lnk.ofVal v.2.2.2.1,v.2.2.2.2.1,v.2.2.2.2.2.1⟩
def Stp.ofVal(v:Val shStp):Stp:=⟨v.1,v.2.1,v.2.2.1⟩
theorem unt_enc(l:List (Val shUnt)):List.map (Sh.enc shUnt) l=(List.map Unt.ofVal l).map Unt.enc:=by
 rw [List.map_map];rfl
theorem let_enc(l:List (Val shLet)):List.map (Sh.enc shLet) l=(List.map letOf l).map letC:=by
 rw [List.map_map];rfl
theorem stp_enc(l:List (Val shStp)):List.map (Sh.enc shStp) l=(List.map Stp.ofVal l).map Stp.enc:=by
 rw [List.map_map];rfl
theorem rul_encV(y:Val shRul):Sh.enc shRul y=Rul.enc (Rul.ofVal y):=by
 have e1:=lnk_enc y.2.2.1
 have e2:=lnk_enc y.2.2.2.1
 show [Go.Dl.C.sl 1 (List.map (Sh.enc shInt) y.1),.sl 1 (List.map (Sh.enc shInt) y.2.1),.sl 2 (List.map (Sh.enc shLnk) y.2.2.1),.sl 2 (List.map (Sh.enc shLnk) y.2.2.2.1),lb y.2.2.2.2.1,lb y.2.2.2.2.2.1]=_
 rw [e1,e2];rfl
theorem rul_encL(l:List (Val shRul)):List.map (Sh.enc shRul) l=(List.map Rul.ofVal l).map Rul.enc:=by
 rw [List.map_map];exact List.map_congr_left fun y _=>rul_encV y
def lngOf(x:Val shLng):Lng:={ d:=⟨invOf x.1,List.map Unt.ofVal x.2.1.2.1,List.map letOf x.2.1.2.2.1,List.map Ent.ofVal x.2.2.2.2.1⟩,nm:=x.2.1.1,rules:=List.map Rul.ofVal x.2.2.1,states:=x.2.2.2.1.1,steps:=List.map Stp.ofVal x.2.2.2.1.2.1,fin:=x.2.2.2.1.2.2.1 }
theorem lngVD{w:World}{E:Go.Dl.Env}{v:Value}(x:Val shLng)(h:Go.Dl.VD w E (Go.Dl.ArgD shLng x) v):Go.Dl.VD w E (.agg (lngRow (lngOf x).x (lngOf x).d)) v:=by
 have e1:=phon_enc x.1.1
 have e2:=unt_enc x.2.1.2.1
 have e3:=let_enc x.2.1.2.2.1
 have e4:=rul_encL x.2.2.1
 have e5:=stp_enc x.2.2.2.1.2.1
 have e6:=ents_encL x.2.2.2.2.1
 have e:Go.Dl.ArgD shLng x= .agg (lngRow (lngOf x).x (lngOf x).d):=by
  show Go.Dl.D.agg [.c (.sl 2 (List.map (Sh.enc shPhon) x.1.1)),.c (ls x.2.1.1),.c (.sl 2 (List.map (Sh.enc shUnt) x.2.1.2.1)),.c (.sl 1 (List.map (Sh.enc shLet) x.2.1.2.2.1)),.c (.sl 6 (List.map (Sh.enc shRul) x.2.2.1)),.c (li x.2.2.2.1.1),.c (.sl 3 (List.map (Sh.enc shStp) x.2.2.2.1.2.1)),.c (.sl 1 (List.map (Sh.enc shInt) x.2.2.2.1.2.2.1)),.c (.sl 8 (List.map (Sh.enc shEnt) x.2.2.2.2.1))]=_
  rw [e1,e2,e3,e4,e5,e6];rfl
 rw [← e];exact h
theorem sum_ge{α:Type}(f:α→Nat): ∀{l:List α} {a:α},a∈l→f a≤(l.map f).sum
 | b::l,a,h=>by
  rcases List.mem_cons.1 h with rfl|h
  ·simp
  ·have:=sum_ge f h;simp;omega
theorem sum_len{α:Type}(f:α→Nat)(hf: ∀a,1≤f a): ∀l:List α,l.length≤(l.map f).sum
 | []=>by simp
 | b::l=>by have:=sum_len f hf l;have:=hf b;simp;omega
theorem inv_sz{x:Val shInv}{n:Nat}(h:Go.Dl.sizeV shInv x≤n): ∀p∈invOf x,p.name.size≤n:=by
 intro p hp
 obtain⟨y,hy,rfl⟩:=List.mem_map.1 hp
 have h1:=sum_ge (Go.Dl.sizeV shPhon) hy
 have e1:Go.Dl.sizeV shInv x=1+(List.map (Go.Dl.sizeV shPhon) x.1).sum+0:=rfl
 have e2:Go.Dl.sizeV shPhon y=(Phon.ofVal y).name.size+1+(1+0):=rfl
 omega
theorem sizeAlt(a:Val shAlt):1≤Go.Dl.sizeV shAlt a:=by
 have e:Go.Dl.sizeV shAlt a=1+(List.map (Go.Dl.sizeV shInt) a).sum:=rfl
 omega
theorem sizeSns(a:Val shSns):1≤Go.Dl.sizeV shSns a:=by
 have e:Go.Dl.sizeV shSns a=(Sns.ofVal a).gloss.size+1+((Sns.ofVal a).txt.size+1+0):=rfl
 omega
theorem sizeLnk(a:Val shLnk):1≤Go.Dl.sizeV shLnk a:=by
 have e:Go.Dl.sizeV shLnk a=1+(1+0):=rfl
 omega
theorem len_map_le{α β:Type}(f:α→β)(g:α→Nat)(hg: ∀a,1≤g a)(l:List α){n:Nat}(h:(l.map g).sum≤n):(l.map f).length≤n:=by
 have:=sum_len g hg l
 rw [List.length_map];omega
theorem all_map_le{α β:Type}(f:α→β)(g:α→Nat){p:β→Prop}{n:Nat}(hp: ∀a,g a≤n→p (f a))(l:List α)(h:(l.map g).sum≤n): ∀b∈l.map f,p b:=fun b hb=>by
 obtain⟨a,ha,rfl⟩:=List.mem_map.1 hb
 exact hp a (Nat.le_trans (sum_ge g ha) h)
theorem alt_sz{n:Nat}(a:Val shAlt)(h:Go.Dl.sizeV shAlt a≤n):(altOf a).length≤n:=by
 have e:Go.Dl.sizeV shAlt a=1+(List.map (Go.Dl.sizeV shInt) a).sum:=rfl
 have h2:=sum_len (Go.Dl.sizeV shInt) (fun _=>Nat.le_refl 1) a
 exact Nat.le_trans h2 (by omega)
theorem sns_sz{n:Nat}(s:Val shSns)(h:Go.Dl.sizeV shSns s≤n):(Sns.ofVal s).gloss.size≤n∧(Sns.ofVal s).txt.size≤n:=by
 have e:Go.Dl.sizeV shSns s=(Sns.ofVal s).gloss.size+1+((Sns.ofVal s).txt.size+1+0):=rfl
 omega
theorem str_sz{n:Nat}(x:Val .str)(h:Go.Dl.sizeV .str x≤n):ByteArray.size x≤n:=Nat.le_trans (Nat.le_succ _) h
theorem ent_sz{x:Val shEnt}(h:Go.Dl.sizeV shEnt x≤1048576):MidE (Ent.ofVal x):=by
 have e0:Go.Dl.sizeV shEnt x=1+((1+(List.map (Go.Dl.sizeV shInt) x.2.1).sum)+(1+((1+(List.map (Go.Dl.sizeV shAlt) x.2.2.2.1).sum)+(1+((1+(List.map (Go.Dl.sizeV shSns) x.2.2.2.2.2.1).sum)+((1+(List.map (Go.Dl.sizeV shLnk) x.2.2.2.2.2.2.1).sum)+((1+(List.map (Go.Dl.sizeV shLnk) x.2.2.2.2.2.2.2.1).sum)+0))))))):=rfl
 have q1:(List.map (Go.Dl.sizeV shInt) x.2.1).sum≤1048576:=by omega
 have q2:(List.map (Go.Dl.sizeV shAlt) x.2.2.2.1).sum≤1048576:=by omega
 have q3:(List.map (Go.Dl.sizeV shSns) x.2.2.2.2.2.1).sum≤1048576:=by omega
 have q4:(List.map (Go.Dl.sizeV shLnk) x.2.2.2.2.2.2.1).sum≤1048576:=by omega
 have q5:(List.map (Go.Dl.sizeV shLnk) x.2.2.2.2.2.2.2.1).sum≤1048576:=by omega
 exact⟨Nat.le_trans (sum_len (Go.Dl.sizeV shInt) (fun _=>Nat.le_refl 1) x.2.1) q1,len_map_le altOf _ sizeAlt _ q2,all_map_le altOf _ alt_sz _ q2,len_map_le Sns.ofVal _ sizeSns _ q3,len_map_le Lnk.ofVal _ sizeLnk _ q4,len_map_le Lnk.ofVal _ sizeLnk _ q5,all_map_le Sns.ofVal _ sns_sz _ q3⟩
theorem lng_sz{x:Val shLng}(h:Go.Dl.sizeV shLng x≤1048576):MidL (lngOf x):=by
 have e0:Go.Dl.sizeV shLng x=Go.Dl.sizeV shInv x.1+(((ByteArray.size x.2.1.1+1)+((1+(List.map (Go.Dl.sizeV shUnt) x.2.1.2.1).sum)+((1+(List.map (Go.Dl.sizeV shLet) x.2.1.2.2.1).sum)+0)))+((1+(List.map (Go.Dl.sizeV shRul) x.2.2.1).sum)+((1+((1+(List.map (Go.Dl.sizeV shStp) x.2.2.2.1.2.1).sum)+((1+(List.map (Go.Dl.sizeV shInt) x.2.2.2.1.2.2.1).sum)+0)))+((1+(List.map (Go.Dl.sizeV shEnt) x.2.2.2.2.1).sum)+0)))):=rfl
 have eI:Go.Dl.sizeV shInv x.1=1+(List.map (Go.Dl.sizeV shPhon) x.1.1).sum+0:=rfl
 refine { nsz:=inv_sz (by omega),ilen:=?_,nm:=?_,gsz:=?_,lsum:=?_,fin:=?_,llen:=?_,mid:=?_ }
 ·exact len_map_le Phon.ofVal (Go.Dl.sizeV shPhon) (fun a=>by
   have e:Go.Dl.sizeV shPhon a=(Phon.ofVal a).name.size+1+(1+0):=rfl
   omega) x.1.1 (by omega)
 ·show ByteArray.size x.2.1.1≤1048576
  omega
 ·exact all_map_le (p:=fun u:Unt=>u.graph.size≤1048576) Unt.ofVal (Go.Dl.sizeV shUnt) (n:=1048576) (fun a ha=>by
   have e:Go.Dl.sizeV shUnt a=(Unt.ofVal a).graph.size+1+((1+(List.map (Go.Dl.sizeV shInt) a.2.1).sum)+0):=rfl
   omega) x.2.1.2.1 (by omega)
 ·exact all_map_le (p:=fun l:List ByteArray=>(l.map fun s=>s.size+1).sum≤1048576) letOf (Go.Dl.sizeV shLet) (n:=1048576) (fun a ha=>by
   have e:Go.Dl.sizeV shLet a=1+((letOf a).map fun s=>s.size+1).sum:=rfl
   omega) x.2.1.2.2.1 (by omega)
 ·exact Nat.le_trans (sum_len (Go.Dl.sizeV shInt) (fun _=>Nat.le_refl 1) x.2.2.2.1.2.2.1) (by omega)
 ·exact len_map_le Ent.ofVal (Go.Dl.sizeV shEnt) (fun a=>by
   have e:Go.Dl.sizeV shEnt a=1+((1+(List.map (Go.Dl.sizeV shInt) a.2.1).sum)+(1+((1+(List.map (Go.Dl.sizeV shAlt) a.2.2.2.1).sum)+(1+((1+(List.map (Go.Dl.sizeV shSns) a.2.2.2.2.2.1).sum)+((1+(List.map (Go.Dl.sizeV shLnk) a.2.2.2.2.2.2.1).sum)+((1+(List.map (Go.Dl.sizeV shLnk) a.2.2.2.2.2.2.2.1).sum)+0))))))):=rfl
   omega) x.2.2.2.2.1 (by omega)
 ·exact all_map_le (p:=MidE) Ent.ofVal (Go.Dl.sizeV shEnt) (n:=1048576) (fun a ha=>ent_sz ha) x.2.2.2.2.1 (by omega)
theorem read1{w:World}{K}{d0:Go.Dl.D}{v0:Value}(h0:Go.Dl.VD w K d0 v0): ∀(j:Nat) d v,[d0][j]? =some d→ #[v0][j]? =some v→Go.Dl.VD w K d v:=fun j d v h1 h2=>by
 match j with
 | 0=>simp at h1 h2;subst h1;subst h2;exact h0
 | j+1=>simp at h1
theorem read2{w:World}{K}{d0 d1:Go.Dl.D}{v0 v1:Value}(h0:Go.Dl.VD w K d0 v0)(h1:Go.Dl.VD w K d1 v1): ∀(j:Nat) d v,[d0,d1][j]? =some d→ #[v0,v1][j]? =some v→Go.Dl.VD w K d v:=fun j d v g1 g2=>by
 match j with
 | 0=>simp at g1 g2;subst g1;subst g2;exact h0
 | 1=>simp at g1 g2;subst g1;subst g2;exact h1
 | j+2=>simp at g1
theorem read3{w:World}{K}{d0 d1 d2:Go.Dl.D}{v0 v1 v2:Value}(h0:Go.Dl.VD w K d0 v0)(h1:Go.Dl.VD w K d1 v1)(h2:Go.Dl.VD w K d2 v2): ∀(j:Nat) d v,[d0,d1,d2][j]? =some d→ #[v0,v1,v2][j]? =some v→Go.Dl.VD w K d v:=fun j d v g1 g2=>by
 match j with
 | 0=>simp at g1 g2;subst g1;subst g2;exact h0
 | 1=>simp at g1 g2;subst g1;subst g2;exact h1
 | 2=>simp at g1 g2;subst g1;subst g2;exact h2
 | j+3=>simp at g1
end Go.Proofs.YtehdkccjaeckhaaGreatDoor

