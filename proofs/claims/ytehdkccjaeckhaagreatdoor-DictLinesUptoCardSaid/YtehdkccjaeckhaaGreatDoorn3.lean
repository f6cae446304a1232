/- The logic of data over the kit's walk, and contracts of the functions that the laws reach, each said by plain data; part 4 of 6. -/
import Derived.Sort.Walk0
import Derived.Shelf.Strings.Builder1
import Derived.Test.YtehdkccjaeckhaaGreatDoorChecked
import Derived.WalkKit
import Derived.BigCall
import Derived.StillTailTactics
import Derived.RangeFuncNested
import Derived.RangeFuncBound
import Derived.RangeFuncCalls
import Derived.RangeFuncLeaves
import Derived.Shelf.Abstract
import Derived.Shelf.RegionOpen
import Derived.OwnWalkIn
import Derived.TacticsInMore
import Derived.LoopNIn
import Derived.LoopIn
import Derived.BigRegionIn
import Derived.Laws.ResultCell
import Derived.Laws.Rows
import Derived.Shelf.Strconv.Itoa3
import Derived.Ground.NamesProg
import Derived.Lib.LaidTab
import Derived.Test.YtehdkccjaeckhaaGreatDoorn2
set_option linter.all false
set_option linter.unusedVariables false
set_option linter.unusedSimpArgs false
set_option maxRecDepth 10000
set_option maxHeartbeats 8000000
namespace Go.Proofs.YtehdkccjaeckhaaGreatDoor
open S (usort)
structure Dic where
 inv:List Phon
 units:List Unt
 letters:List (List ByteArray)
 lex:List Ent
structure RightD(d:Dic):Prop extends RightL d.inv d.lex where
 names: ∀p∈d.inv,p.name.size≠0
 units:OkU d.units
def blank:ByteArray:=⟨#[32]⟩
def Dic.sp(d:Dic)(w:List Int):ByteArray:=spelledE d.inv d.units w
def Dic.head(d:Dic)(id:Int):ByteArray:=if(getE d.lex id).2=false then ByteArray.empty else
 if 0<homE d.lex id then d.sp (getE d.lex id).1.form++(blank++numB (homE d.lex id))else d.sp (getE d.lex id).1.form
def Dic.cmp(d:Dic)(a b:Ent):Int:=cmpK (keyE d.letters (d.sp a.form)) (keyE d.letters (d.sp b.form))
def Dic.before(d:Dic)(a b:Ent):Bool:=if d.cmp a b≠0 then decide (d.cmp a b<0)else decide (a.id<b.id)
def Dic.ordL(d:Dic):List Ent→List Ent→List Ent
 | acc,[]=>acc
 | acc,e::r=>Dic.ordL d (putBack (fun x=>d.before e x) acc e) r
def Dic.ordK(d:Dic):List Ent→List Ent→List Ent
 | acc,[]=>acc
 | acc,e::r=>Dic.ordK d (putBack (fun x=>decide (d.cmp e x<0)) acc e) r
theorem ordK_eq(d:Dic): ∀(l acc:List Ent),(∀a∈acc,∀e∈l,a.id<e.id)→UpE l→d.ordK acc l=d.ordL acc l
 | [],_,_,_=>rfl
 | e::r,acc,h,hs=>by
  obtain⟨h1,h2⟩:=List.pairwise_cons.1 hs
  simp only[Dic.ordK,Dic.ordL]
  have e1:putBack (fun x=>decide (d.cmp e x<0)) acc e=putBack (fun x=>d.before e x) acc e:=putBack_congr (fun x hx=>by
   have:=h x hx e (by simp)
   unfold Dic.before
   split
   ·rfl
   ·rename_i hc
    have:d.cmp e x=0:=by simpa using hc
    rw[this]
    simp;omega) e
  rw[e1]
  refine ordK_eq d r _ (fun a ha b hb=>?_) h2
  rcases putBack_mem.1 ha with rfl|ha
  ·exact h1 b hb
  ·exact h a ha b (by simp[hb])
def Dic.le(d:Dic)(a b:Ent):Prop:=keyE d.letters (d.sp a.form)<keyE d.letters (d.sp b.form)∨keyE d.letters (d.sp a.form)=keyE d.letters (d.sp b.form)∧a.id≤b.id
theorem ordL_perm(d:Dic): ∀(l acc:List Ent),(d.ordL acc l).Perm (acc++l)
 | [],acc=>by simp[Dic.ordL]
 | e::r,acc=>by
  simp only[Dic.ordL]
  refine(ordL_perm d r _).trans ?_
  refine((putBack_perm _ acc e).append_right r).trans ?_
  exact(List.perm_middle (l₁:=acc) (a:=e) (l₂:=r)).symm
def Dic.ord(d:Dic):List Ent:=d.ordL [] d.lex
theorem ord_perm(d:Dic):d.ord.Perm d.lex:=by
 have:=ordL_perm d d.lex []
 rwa [List.nil_append]at this
def seeS:ByteArray:=⟨#[58,32,115,101,101,32]⟩
def tildeS:ByteArray:=⟨#[32,126,32]⟩
def two:ByteArray:=⟨#[32,32]⟩
def dotS:ByteArray:=⟨#[46,32]⟩
def colonS:ByteArray:=⟨#[58,32]⟩
def varS:ByteArray:=⟨#[32,32,118,97,114,105,97,110,116,115,58,32]⟩
def kindS(k:Nat):ByteArray:=match k with
 | 0=>⟨#[115,121,110,111,110,121,109]⟩
 | 1=>⟨#[97,110,116,111,110,121,109]⟩
 | 2=>⟨#[98,114,111,97,100,101,114]⟩
 | 3=>⟨#[110,97,114,114,111,119,101,114]⟩
 | 4=>⟨#[112,97,114,116,32,111,102]⟩
 | _=>⟨#[119,104,111,108,101,32,111,102]⟩
def wayF(l:List Ent):Nat→Int→List Ent
 | 0,_=> []
 | n+1,id=>if(getE l id).2=false then []else(getE l id).1::(if(getE l id).1.main=0 then []else wayF l n (getE l id).1.main)
def wayE(l:List Ent)(id:Int):List Ent:=wayF l (l.length+1) id
def mainE(l:List Ent)(id:Int):Int:=((wayE l id).getLast?.map (·.id)).getD 0
def allE(l:List Ent)(id:Int):List Int:=idsOf l fun e=> !(e.id==id)&&mainE l e.id==id
def senseS(i:Nat)(s:Sns):ByteArray:=if s.txt.size≠0 then two++numB (i+1)++dotS++s.gloss++(colonS++s.txt)else two++numB (i+1)++dotS++s.gloss
def kindIds(e:Ent)(k:Nat):List Int:=(e.links.filter fun x=>x.kind==(k:Int)).map (·.tgt)
def Dic.heads(d:Dic)(ids:List Int):List ByteArray:=ids.map d.head
def Dic.kindL(d:Dic)(e:Ent)(k:Nat):List ByteArray:=if kindIds e k= []then []else [two++kindS k++colonS++joinR (d.heads (kindIds e k))]
def Dic.links(d:Dic)(e:Ent):List ByteArray:=(List.range 6).flatMap (d.kindL e)
def Dic.first(d:Dic)(e:Ent):ByteArray:=if e.alts= []then d.head e.id else d.head e.id++(tildeS++joinR (e.alts.map d.sp))
def Dic.full(d:Dic)(e:Ent):List ByteArray:=d.first e::(e.senses.mapIdx senseS++d.links e++(if allE d.lex e.id= []then []else [varS++joinR (d.heads (allE d.lex e.id))]))
def Dic.article(d:Dic)(id:Int):List ByteArray:=if(getE d.lex id).2=false then []else
 if(getE d.lex id).1.senses= []then [d.head id++seeS++d.head (getE d.lex id).1.main]else d.full (getE d.lex id).1
def hash:ByteArray:=⟨#[35]⟩
def eqL:ByteArray:=⟨#[61,32]⟩
def eqR:ByteArray:=⟨#[32,61]⟩
def Dic.sect(d:Dic)(e:Ent):Int:=sectE d.letters (d.sp e.form)
def Dic.sline(d:Dic)(n:Int):ByteArray:=eqL++(if 0≤n then headS d.letters n else hash)++eqR
def Dic.lineL(d:Dic)(last:Option Int)(e:Ent):List ByteArray:=(if last=some (d.sect e)then []else [d.sline (d.sect e)])++d.article e.id
def Dic.linesF(d:Dic):Option Int→List Ent→List ByteArray
 | _,[]=> []
 | last,e::r=>d.lineL last e++d.linesF (some (d.sect e)) r
def Dic.lines(d:Dic):List ByteArray:=d.linesF none d.ord
-- nothing is empty that is joined
theorem word_right{g:List Phon}{xs:List Int}(h:wordE g xs=0):xs≠ []∧xs.length≤24∧∀n∈xs,segOk g n=true:=by
 unfold wordE at h
 split at h
 ·omega
 ·rename_i h0
  split at h
  ·omega
  ·rename_i h1
   split at h
   ·omega
   ·rename_i h2
    refine⟨fun e=>h0 (by rw[e];rfl),by omega,fun n hn=>?_⟩
    have h3: ∀x∈xs,segOk g x=true:=by simpa using h2
    exact h3 n hn
theorem form_zero{g:List Phon}{e:Ent}(h:checkE g e=0):formsE g e=0:=by
 unfold checkE at h
 split at h
 ·omega
 ·split at h
  ·rename_i h2;exact absurd h h2
  ·rename_i h2;simpa using h2
theorem alts_right{g:List Phon}: ∀(l seen:List (List Int)),altsE g seen l=0→∀w∈l,wordE g w=0
 | [],_,_,w,hw=>absurd hw (by simp)
 | a::l,seen,h,w,hw=>by
  simp only[altsE]at h
  split at h
  ·rename_i h2;exact absurd h h2
  ·rename_i h2
   split at h
   ·omega
   ·rcases List.mem_cons.1 hw with rfl|hw
    ·simpa using h2
    ·exact alts_right l _ h w hw
theorem forms_right{g:List Phon}{e:Ent}(h:formsE g e=0):wordE g e.form=0∧∀w∈e.alts,wordE g w=0:=by
 unfold formsE at h
 split at h
 ·rename_i h2;exact absurd h h2
 ·rename_i h2
  split at h
  ·omega
  ·split at h
   ·omega
   ·exact⟨by simpa using h2,alts_right _ _ h⟩
theorem form_right{g:List Phon}{l:List Ent}(hr:RightL g l){e:Ent}(he:e∈l):e.form≠ []∧∀n∈e.form,segOk g n=true:=by
 have:=word_right (forms_right (form_zero (hr.each e he))).1
 exact⟨this.1,this.2.2⟩
theorem head_size{d:Dic}(hd:RightD d){id:Int}(h:hasId d.lex id=true):(d.head id).size≠0:=by
 have hg:(getE d.lex id).2=true:=by rw[getE_has];exact h
 obtain⟨hm,hi⟩:=getE_mem hg
 unfold Dic.head
 rw[if_neg (by simp[hg])]
 have hf:=form_right hd.toRightL hm
 have:(d.sp (getE d.lex id).1.form).size≠0:=spelledE_size hd.units hd.names _ hf.1 hf.2
 split
 ·simp only[ByteArray.size_append];omega
 ·exact this
theorem heads_size{d:Dic}(hd:RightD d){ids:List Int}(h: ∀n∈ids,hasId d.lex n=true): ∀s∈d.heads ids,s.size≠0:=fun s hs=>by
 obtain⟨n,hn,rfl⟩:=List.mem_map.1 hs
 exact head_size hd (h n hn)
theorem alts_size{d:Dic}(hd:RightD d){e:Ent}(he:e∈d.lex): ∀s∈e.alts.map d.sp,s.size≠0:=fun s hs=>by
 obtain⟨w,hw,rfl⟩:=List.mem_map.1 hs
 have:=word_right ((forms_right (form_zero (hd.each e he))).2 w hw)
 exact spelledE_size hd.units hd.names _ this.1 this.2.2
theorem links_has{d:Dic}(hd:RightD d){e:Ent}(he:e∈d.lex)(k:Nat): ∀n∈kindIds e k,hasId d.lex n=true:=fun n hn=>by
 obtain⟨x,hx,rfl⟩:=List.mem_map.1 hn
 have:=hd.refs e he
 unfold refsIn at this
 simp only[Bool.and_eq_true,List.all_eq_true]at this
 exact this.2 x (List.mem_filter.1 hx).1
theorem all_has{d:Dic}(id:Int): ∀n∈allE d.lex id,hasId d.lex n=true:=fun n hn=>by
 obtain⟨e,he,_,rfl⟩:=mem_ids.1 hn
 exact(hasId_iff _ _).2 ⟨e,he,rfl⟩
end Go.Proofs.YtehdkccjaeckhaaGreatDoor
open Go.Dl renaming dw_seq → kA, dw_block → kB, dw_reg → kC, dw_skip → kD, dw_exit → kE, dw_ret → kF, dw_cond → kG, guardC_f → kH, guardC_t → kI, dw_drw → kJ, dw_weaken → kK, sub_kn → kL, sub_ml → kM
open Go.Dl.CallC renaming mk → kN, light → kO
open Go.Dl.LeL renaming of_eq → kP
namespace Go.Proofs.YtehdkccjaeckhaaGreatDoor
open Go.Dl
attribute [local irreducible] DW DCalls ECalls wk IW
def Unt.enc(u:Unt):List C:= [ls u.graph,.sl 1 (ints u.segs)]
abbrev strs(l:List ByteArray):List (List C):=l.map fun s=> [ls s]
abbrev letC(l:List ByteArray):List C:= [.sl 1 (strs l)]
def ortRow(nm:ByteArray)(us:List Unt)(lt:List (List ByteArray)):List T:= [.c (ls nm),.c (.sl 2 (us.map Unt.enc)),.c (.sl 1 (lt.map letC))]
theorem rBegins_D(s t:ByteArray)(hs:s.size≤281474976710656):DCalls Tryz.prog 95 [dv (ls s),dv (ls t)] (dv (lb (begB s t))):=by
 have hmax:maxLen=9223372036854775807:=rfl
 unfold begB
 by_cases h:t.size≤s.size
 ·have h1:((t.size:Int)≤(s.size:Int))=True:=by simp;omega
  refine kd (N:=18) (rs:= [.tmp 4]) Tryz.func95 ?_
  (repeat'(first|apply kA|apply kB|((first|refine kc (N:=18) ?_|apply kD|apply kE|apply kF);simp +decide only[go_sem,h,h1,Nat.zero_le t.size])|(apply kG;(simp +decide only[go_sem,h,h1,Nat.zero_le t.size];rfl);all_goals(intro hcnd;try exact kz hcnd))|((first|apply kH|apply kI)<;>(intro hcnd;simp +decide only[go_sem,hcnd,h,h1,Nat.zero_le t.size]))))
 ·have h1:((t.size:Int)≤(s.size:Int))=False:=by simp;omega
  refine kd (N:=18) (rs:= [.tmp 4]) Tryz.func95 ?_
  (repeat'(first|apply kA|apply kB|((first|refine kc (N:=18) ?_|apply kD|apply kE|apply kF);simp +decide only[go_sem,h,h1,Nat.zero_le t.size])|(apply kG;(simp +decide only[go_sem,h,h1,Nat.zero_le t.size];rfl);all_goals(intro hcnd;try exact kz hcnd))|((first|apply kH|apply kI)<;>(intro hcnd;simp +decide only[go_sem,hcnd,h,h1,Nat.zero_le t.size]))))
theorem hasPre_D(s t:ByteArray)(hs:s.size≤281474976710656):DCalls Tryz.prog 142 [dv (ls s),dv (ls t)] (dv (lb (begB s t))):=by
 have hmax:maxLen=9223372036854775807:=rfl
 unfold begB
 by_cases h:t.size≤s.size
 ·have h1:((t.size:Int)≤(s.size:Int))=True:=by simp;omega
  refine kd (N:=18) (rs:= [.tmp 4]) Tryz.func142 ?_
  (repeat'(first|apply kA|apply kB|((first|refine kc (N:=18) ?_|apply kD|apply kE|apply kF);simp +decide only[go_sem,h,h1,Nat.zero_le t.size])|(apply kG;(simp +decide only[go_sem,h,h1,Nat.zero_le t.size];rfl);all_goals(intro hcnd;try exact kz hcnd))|((first|apply kH|apply kI)<;>(intro hcnd;simp +decide only[go_sem,hcnd,h,h1,Nat.zero_le t.size]))))
 ·have h1:((t.size:Int)≤(s.size:Int))=False:=by simp;omega
  refine kd (N:=18) (rs:= [.tmp 4]) Tryz.func142 ?_
  (repeat'(first|apply kA|apply kB|((first|refine kc (N:=18) ?_|apply kD|apply kE|apply kF);simp +decide only[go_sem,h,h1,Nat.zero_le t.size])|(apply kG;(simp +decide only[go_sem,h,h1,Nat.zero_le t.size];rfl);all_goals(intro hcnd;try exact kz hcnd))|((first|apply kH|apply kI)<;>(intro hcnd;simp +decide only[go_sem,hcnd,h,h1,Nat.zero_le t.size]))))
theorem hasP_D(s t:ByteArray)(hs:s.size≤281474976710656):DCalls Tryz.prog 120 [dv (ls s),dv (ls t)] (dv (lb (begB s t))):=by
 refine kd (N:=8) (rs:= [.tmp 4]) Tryz.func120 ?_
 (repeat'(first|apply kA|apply kB|((first|refine kc (N:=8) ?_|apply kD|apply kE|refine kx (hasPre_D s t hs) ?_|apply kF);simp +decide only[go_sem,hs])|(apply kG;(simp +decide only[go_sem,hs];rfl);all_goals(intro hcnd;try exact kz hcnd))))
theorem rHead_D(nm:ByteArray)(us:List Unt)(lt:List (List ByteArray))(i:Int)(hl:lt.length≤1000000)(hne: ∀l∈lt,l≠ []):DCalls Tryz.prog 30 [.agg (ortRow nm us lt),dv (li i)] (dv (ls (headS lt i))):=by
 have hmax:maxLen=9223372036854775807:=rfl
 unfold ortRow
 by_cases h0:i<0
 ·have h1:(i<0)=True:=by simpa using h0
  refine kd (N:=21) (rs:= [.tmp 4]) Tryz.func30 ?_
  (repeat'(first|apply kA|apply kB|((first|refine kc (N:=21) ?_|apply kD|apply kE|apply kF);simp +decide only[go_sem,h1])|(apply kG;(simp +decide only[go_sem,h1];rfl);all_goals(intro hcnd;try exact kz hcnd))|((first|apply kH|apply kI)<;>(intro hcnd;simp +decide only[go_sem,hcnd,h1]))))
  simp[headS,h0];rfl
 ·have h1:(i<0)=False:=by simpa using h0
  by_cases h2:(lt.length:Int)≤i
  ·have h3:((lt.length:Int)≤i)=True:=by simpa using h2
   refine kd (N:=21) (rs:= [.tmp 4]) Tryz.func30 ?_
   (repeat'(first|apply kA|apply kB|((first|refine kc (N:=21) ?_|apply kD|apply kE|apply kF);simp +decide only[go_sem,h1,h3])|(apply kG;(simp +decide only[go_sem,h1,h3];rfl);all_goals(intro hcnd;try exact kz hcnd))|((first|apply kH|apply kI)<;>(intro hcnd;simp +decide only[go_sem,hcnd,h1,h3]))))
   have:lt.length≤i.toNat:=by omega
   simp[headS,h0,this];rfl
  ·have h3:((lt.length:Int)≤i)=False:=by simpa using h2
   obtain⟨n,rfl⟩: ∃n:Nat,i=n:=⟨i.toNat,by omega⟩
   have hn:n<lt.length:=by omega
   have e:lt[n]? =some lt[n]:=List.getElem?_eq_getElem hn
   cases e2:lt[n]with
   | nil=>exact absurd e2 (hne _ (List.getElem_mem hn))
   | cons v r=>
    rw[e2]at e
    refine kd (N:=21) (rs:= [.tmp 4]) Tryz.func30 ?_
    (repeat'(first|apply kA|apply kB|((first|refine kc (N:=21) ?_|apply kD|apply kE|apply kF);simp +decide only[go_sem,h1,h3,e])|(apply kG;(simp +decide only[go_sem,h1,h3,e];rfl);all_goals(intro hcnd;try exact kz hcnd))|((first|apply kH|apply kI)<;>(intro hcnd;simp +decide only[go_sem,hcnd,h1,h3,e]))))
    simp[headS,e];omega
theorem cHead_D(nm:ByteArray)(us:List Unt)(lt:List (List ByteArray))(i:Int)(hl:lt.length≤1000000)(hne: ∀l∈lt,l≠ [])(hll: ∀l∈lt,l.length≤1000000):DCalls Tryz.prog 57 [.agg (ortRow nm us lt),dv (li i)] (dv (ls (headS lt i))):=by
 have hmax:maxLen=9223372036854775807:=rfl
 unfold ortRow
 by_cases h0:i<0
 ·have h1:(i<0)=True:=by simpa using h0
  refine kd (N:=30) (rs:= [.tmp 4]) Tryz.func57 ?_
  (repeat'(first|apply kA|apply kB|((first|refine kc (N:=30) ?_|apply kD|apply kE|apply kF);simp +decide only[go_sem,h1])|(apply kG;(simp +decide only[go_sem,h1];rfl);all_goals(intro hcnd;try exact kz hcnd))|((first|apply kH|apply kI)<;>(intro hcnd;simp +decide only[go_sem,hcnd,h1]))))
  simp[headS,h0];rfl
 ·have h1:(i<0)=False:=by simpa using h0
  by_cases h2:(lt.length:Int)≤i
  ·have h3:((lt.length:Int)≤i)=True:=by simpa using h2
   refine kd (N:=30) (rs:= [.tmp 4]) Tryz.func57 ?_
   (repeat'(first|apply kA|apply kB|((first|refine kc (N:=30) ?_|apply kD|apply kE|apply kF);simp +decide only[go_sem,h1,h3])|(apply kG;(simp +decide only[go_sem,h1,h3];rfl);all_goals(intro hcnd;try exact kz hcnd))|((first|apply kH|apply kI)<;>(intro hcnd;simp +decide only[go_sem,hcnd,h1,h3]))))
   have:lt.length≤i.toNat:=by omega
   simp[headS,h0,this];rfl
  ·have h3:((lt.length:Int)≤i)=False:=by simpa using h2
   obtain⟨n,rfl⟩: ∃n:Nat,i=n:=⟨i.toNat,by omega⟩
   have hn:n<lt.length:=by omega
   have e:lt[n]? =some lt[n]:=List.getElem?_eq_getElem hn
   have hlv:=hll _ (List.getElem_mem hn)
   cases e2:lt[n]with
   | nil=>exact absurd e2 (hne _ (List.getElem_mem hn))
   | cons v r=>
    rw[e2]at e hlv
    rw[List.length_cons]at hlv
    have h4:((((r.length+1:Nat)):Int)==0)=false:=by
     rw[beq_eq_false_iff_ne];omega
    refine kd (N:=30) (rs:= [.tmp 4]) Tryz.func57 ?_
    (repeat'(first|apply kA|apply kB|((first|refine kc (N:=30) ?_|apply kD|apply kE|apply kF);simp +decide only[go_sem,h1,h3,e,h4])|(apply kG;(simp +decide only[go_sem,h1,h3,e,h4];rfl);all_goals(intro hcnd;try exact kz hcnd))|((first|apply kH|apply kI)<;>(intro hcnd;simp +decide only[go_sem,hcnd,h1,h3,e,h4]))))
    simp[headS,e];omega
def fI(a:Fst):Int:=match a with
 | some x=>(x.1:Int)
 | none=>0
def fK(a:Fst):Int:=match a with
 | some x=>(x.2.1:Int)
 | none=>0
theorem letV_succ{s:ByteArray}{i k:Nat}{vs:List ByteArray}{a:Fst}{v:ByteArray}(e:vs[k]? =some v):letV s i vs a (k+1)=if(decide (fstSz (letV s i vs a k)<v.size)&&begB s v)=true then some (i,k,v.size)else letV s i vs a k:=by
 simp only[letV,e]
theorem letL_succ{lt:List (List ByteArray)}{s:ByteArray}{i:Nat}{vs:List ByteArray}(e:lt[i]? =some vs):letL lt s (i+1)=letV s i vs (letL lt s i) vs.length:=by
 simp only[letL,e]
theorem cFirst_D(nm:ByteArray)(us:List Unt)(lt:List (List ByteArray))(s:ByteArray)(hl:lt.length≤1000000)(hll: ∀l∈lt,l.length≤1000000)(hs:s.size≤281474976710656):
  DCalls Tryz.prog 91 [.agg (ortRow nm us lt),dv (ls s)] (.tup [dv (li (fI (firstE lt s))),dv (li (fK (firstE lt s))),dv (li (fstSz (firstE lt s))),dv (lb (firstE lt s).isSome)]):=by
 have hmax:maxLen=9223372036854775807:=rfl
 unfold ortRow
 refine kd (N:=46) (rs:= [.tmp 4,.tmp 5,.tmp 6,.tmp 7]) Tryz.func91 ?_
 (repeat(first|apply kA|apply kB|((first|refine kc (N:=46) ?_|apply kD|apply kE);simp +decide only[go_sem])))
 refine dw_rng0 lt (fun i=>kn 46 [(1,dv (ls s)),(4,dv (li (fI (letL lt s i)))),(5,dv (li (fK (letL lt s i)))),(6,dv (li (fstSz (letL lt s i)))),(7,dv (lb (letL lt s i).isSome)),(13,dv (.sl 1 (lt.map letC))),(14,dv (li lt.length)),(15,dv (li i))] noMem) (by omega) (kL rfl (by simp +decide only[go_sem,letL,fI,fK,fstSz,Option.isSome_none]) (by simp[noMem])) ?_ ?_
 ·intro i vs he hk hmm htk hlt hw
  have hvl:=hll vs hmm
  (repeat'(first|apply kA|apply kB|((first|refine kc (N:=46) ?_|apply kD|apply kE);simp +decide only[go_sem,hlt,hw,he])|(apply kG;(simp +decide only[go_sem,hlt,hw,he];rfl);all_goals(intro hcnd;try exact kz hcnd))|((first|apply kH|apply kI)<;>(intro hcnd;simp +decide only[go_sem,hcnd,hlt,hw,he]))))
  refine dw_rng0 vs (fun k=>kn 46 [(1,dv (ls s)),(4,dv (li (fI (letV s i vs (letL lt s i) k)))),(5,dv (li (fK (letV s i vs (letL lt s i) k)))),(6,dv (li (fstSz (letV s i vs (letL lt s i) k)))),(7,dv (lb (letV s i vs (letL lt s i) k).isSome)),(8,dv (li i)),(13,dv (.sl 1 (lt.map letC))),(14,dv (li lt.length)),(15,dv (li i)),(20,dv (.sl 1 (strs vs))),(21,dv (li vs.length)),(22,dv (li k))] noMem) (by omega) (kL rfl (by simp +decide only[go_sem,letV]) (by simp[noMem])) ?_ ?_
  ·intro k v hs1 hmk hms htm hlt2 hw2
   have hsu:=letV_succ (s:=s) (i:=i) (a:=letL lt s i) hs1
   generalize letV s i vs (letL lt s i) k=a at hsu ⊢
   by_cases t1:fstSz a<v.size
   ·have h1:((fstSz a:Int)<(v.size:Int))=True:=by simp;omega
    have hp:=hasP_D s v hs
    cases t2:begB s v
    ·rw[t2]at hp
     rw[if_neg (by simp[t2])]at hsu
     (repeat'(first|apply kA|apply kB|((first|refine kc (N:=46) ?_|apply kD|apply kE|refine kx hp ?_|apply kF);simp +decide only[go_sem,hlt2,hw2,hs1,h1])|(apply kG;(simp +decide only[go_sem,hlt2,hw2,hs1,h1];rfl);all_goals(intro hcnd;try exact kz hcnd))|((first|apply kH|apply kI)<;>(intro hcnd;simp +decide only[go_sem,hcnd,hlt2,hw2,hs1,h1]))))
     exact kL rfl (by simp +decide only[go_sem,hsu]) (by simp[noMem])
    ·rw[t2]at hp
     rw[if_pos (by simp[t1,t2])]at hsu
     (repeat'(first|apply kA|apply kB|((first|refine kc (N:=46) ?_|apply kD|apply kE|refine kx hp ?_|apply kF);simp +decide only[go_sem,hlt2,hw2,hs1,h1])|(apply kG;(simp +decide only[go_sem,hlt2,hw2,hs1,h1];rfl);all_goals(intro hcnd;try exact kz hcnd))|((first|apply kH|apply kI)<;>(intro hcnd;simp +decide only[go_sem,hcnd,hlt2,hw2,hs1,h1]))))
     exact kL rfl (by simp +decide only[go_sem,hsu,fI,fK,fstSz,Option.isSome_some]) (by simp[noMem])
   ·have h1:((fstSz a:Int)<(v.size:Int))=False:=by simp;omega
    rw[if_neg (by simp[t1])]at hsu
    (repeat'(first|apply kA|apply kB|((first|refine kc (N:=46) ?_|apply kD|apply kE|apply kF);simp +decide only[go_sem,hlt2,hw2,hs1,h1])|(apply kG;(simp +decide only[go_sem,hlt2,hw2,hs1,h1];rfl);all_goals(intro hcnd;try exact kz hcnd))|((first|apply kH|apply kI)<;>(intro hcnd;simp +decide only[go_sem,hcnd,hlt2,hw2,hs1,h1]))))
    exact kL rfl (by simp +decide only[go_sem,hsu]) (by simp[noMem])
  ·intro hlt2
   (repeat'(first|apply kA|apply kB|((first|refine kc (N:=46) ?_|apply kD|apply kE);simp +decide only[go_sem,hlt2,hw])|(apply kG;(simp +decide only[go_sem,hlt2,hw];rfl);all_goals(intro hcnd;try exact kz hcnd))|((first|apply kH|apply kI)<;>(intro hcnd;simp +decide only[go_sem,hcnd,hlt2,hw]))))
   exact kL rfl (by simp +decide only[go_sem,letL_succ he]) (by simp[noMem])
 ·intro hlt
  (repeat'(first|apply kA|apply kB|((first|refine kc (N:=46) ?_|apply kD|apply kE|apply kF);simp +decide only[go_sem,hlt])|(apply kG;(simp +decide only[go_sem,hlt];rfl);all_goals(intro hcnd;try exact kz hcnd))|((first|apply kH|apply kI)<;>(intro hcnd;simp +decide only[go_sem,hcnd,hlt]))))
  rfl
end Go.Proofs.YtehdkccjaeckhaaGreatDoor
namespace Go.Proofs.YtehdkccjaeckhaaGreatDoor
abbrev kq10:Nat→List (Nat×Go.Dl.Mode):=fun n=>match n with|6=>kpn10|_=> []
end Go.Proofs.YtehdkccjaeckhaaGreatDoor
namespace Go.Proofs.YtehdkccjaeckhaaGreatDoor
open Go.Dl
attribute [local irreducible] DW DCalls ECalls wk IW
theorem ext_size(s:ByteArray)(p:Nat):(s.extract p s.size).size=s.size - p:=by simp
theorem ext_ext(s:ByteArray)(p m:Nat)(h:p+m≤s.size):(s.extract p s.size).extract m (s.extract p s.size).size=s.extract (p+m) s.size:=by
 rw[ByteArray.extract_extract,ext_size]
 congr 1
 omega
theorem ints_snoc(xs:List Int)(n:Int):ints (xs++ [n])=ints xs++ [[li n]]:=by simp
theorem cLetters_D(nm:ByteArray)(us:List Unt)(lt:List (List ByteArray))(s:ByteArray)(hl:lt.length≤1000000)(hll: ∀l∈lt,l.length≤1000000)(hs:s.size≤1048576):
  DCalls Tryz.prog 83 [.agg (ortRow nm us lt),dv (ls s)] (.tup [dv (.sl 1 (ints (lettersE lt s).1)),dv (.sl 1 (ints (lettersE lt s).2.1)),dv (lb (lettersE lt s).2.2)]):=by
 have hmax:maxLen=9223372036854775807:=rfl
 refine kd (N:=47) (rs:= [.tmp 4,.tmp 5,.tmp 6]) Tryz.func83 ?_
 (repeat'(first|apply kA|apply kB|((first|refine kc (N:=47) ?_|refine kj (N:=47) kq10 ?_|apply kD|apply kE);simp +decide only[go_sem])|(apply kG;(simp +decide only[go_sem];rfl);all_goals(intro hcnd;try exact kz hcnd))))
 refine dw_own 7 7 1 (by simp +decide only[go_sem]) ?_
 refine dw_own 8 8 1 (by simp +decide only[go_sem]) ?_
 refine dw_loop_fam (fun y:Nat×List Int×List Int×Bool=>kn 47 [(1,dv (ls (s.extract y.1 s.size))),(2,.one (.bx 2 3 0 0)),(7,.one (.own 7 1 (ints y.2.1))),(8,.one (.own 8 1 (ints y.2.2.1))),(9,dv (lb y.2.2.2))] (ml [(2,[ortRow nm us lt])]))
  (fun y=>y.1≤s.size∧y.2.1.length≤y.1∧y.2.2.1.length≤y.1∧lettersE lt s=lettersF lt s (s.size - y.1) y.1 y.2.1 y.2.2.1 y.2.2.2) (fun y=>s.size - y.1) (0,[],[],true) (kM rfl (by simp +decide only[go_sem,ByteArray.extract_zero_size,List.map_nil,ortRow,List.length_cons,List.length_nil]) (by simp +decide only[go_sem,ortRow])) ⟨by simp,by simp,by simp,rfl⟩ ?_
 rintro⟨p,a,b,all⟩ ⟨h1,h2,h3,h4⟩
 simp only at h1 h2 h3 h4 ⊢
 have r1:((a.length+1)*8≤140737488355328)=True:=by simp;omega
 have r2:((b.length+1)*8≤140737488355328)=True:=by simp;omega
 by_cases ha:p<s.size
 ·have t1:(s.extract p s.size=={ data:= #[] })=false:=by
   refine bytes_ne fun h=>?_
   have:=congrArg ByteArray.size h
   rw[ext_size]at this
   have h0:(ByteArray.mk #[]).size=0:=rfl
   omega
  have hF:=cFirst_D nm us lt (s.extract p s.size) hl hll (by rw[ext_size];omega)
  have hok:=firstE_ok lt (s.extract p s.size)
  obtain⟨m,hm⟩: ∃m,s.size - p=m+1:=⟨s.size - p - 1,by omega⟩
  rw[hm,lettersF,if_neg (by omega)]at h4
  cases hf:firstE lt (s.extract p s.size)with
  | none=>
   rw[hf]at hF h4
   simp only[fI,fK,fstSz,Option.isSome_none]at hF h4
   have hlt:p<s.data.toList.length:=by simpa using ha
   obtain⟨bt,hbt⟩: ∃bt,s.data.toList[p]? =some bt:=⟨_,List.getElem?_eq_getElem hlt⟩
   have hb:(s.extract p s.size).data.toList[0]? =some bt:=by
    rw[← hbt]
    have h0:0<s.size - p:=by omega
    simp only[ByteArray.data_extract,Array.toList_extract,List.extract_eq_take_drop,List.getElem?_take,List.getElem?_drop,h0,if_true,Nat.add_zero]
   have hby:byteAt s p=(bt.toNat:Int):=by unfold byteAt;rw[hbt];rfl
   have h256:bt.toNat<256:=bt.toNat_lt
   have u0:IntKind.i64.wrap (bt.toNat:Int)=(bt.toNat:Int):=wrap_i64 (by omega) (by omega)
   have u1:IntKind.i64.wrap ((lt.length:Int)+(bt.toNat:Int))=(lt.length:Int)+(bt.toNat:Int):=wrap_i64 (by omega) (by omega)
   have z1:(Int.toNat 1≤(s.extract p s.size).size)=True:=by rw[ext_size];simp;omega
   have z2:(s.extract p s.size).extract (Int.toNat 1) (s.extract p s.size).size=s.extract (p+1) s.size:=ext_ext s p 1 (by omega)
   (repeat'(first|apply kA|apply kB|((first|refine kc (N:=47) ?_|refine kj (N:=47) kq10 ?_|apply kD|apply kE|refine kx hF ?_);simp +decide only[go_sem,t1,ortRow,hb,u1,r1,r2,z1])|(apply kG;(simp +decide only[go_sem,t1,ortRow,hb,u1,r1,r2,z1];rfl);all_goals(intro hcnd;try exact kz hcnd))))
   refine⟨(p+1,a++ [(lt.length:Int)+byteAt s p],b++ [0],false),⟨by simp only;omega,by simp;omega,by simp;omega,?_⟩,by simp only;omega,kM rfl (by simp +decide only[go_sem,ints_snoc,z2,hby,u0,u1]) (by simp +decide only[go_sem,ortRow])⟩
   simp only
   rw[h4,show s.size - (p+1)=m by omega]
  | some x=>
   rw[hf]at hF h4
   simp only[fI,fK,fstSz,Option.isSome_some]at hF h4
   obtain⟨x1,x2,x3,-⟩:=hok x hf
   have z1:(x.2.2≤(s.extract p s.size).size)=True:=by simpa using x3
   have x4:x.2.2≤s.size - p:=by rw[ext_size]at x3;exact x3
   have z2:(s.extract p s.size).extract x.2.2 (s.extract p s.size).size=s.extract (p+x.2.2) s.size:=ext_ext s p _ (by omega)
   (repeat'(first|apply kA|apply kB|((first|refine kc (N:=47) ?_|refine kj (N:=47) kq10 ?_|apply kD|apply kE|refine kx hF ?_);simp +decide only[go_sem,t1,ortRow,r1,r2,z1])|(apply kG;(simp +decide only[go_sem,t1,ortRow,r1,r2,z1];rfl);all_goals(intro hcnd;try exact kz hcnd))))
   refine⟨(p+x.2.2,a++ [(x.1:Int)],b++ [(x.2.1:Int)],all),⟨by simp only;omega,by simp;omega,by simp;omega,?_⟩,by simp only;omega,kM rfl (by simp +decide only[go_sem,ints_snoc,z2]) (by simp +decide only[go_sem,ortRow])⟩
   simp only
   rw[h4]
   exact lettersF_fuel lt s _ _ _ _ _ _ (by omega) (by omega)
 ·have t1:(s.extract p s.size=={ data:= #[] })=true:=by
   have:p=s.size:=by omega
   subst this
   rw[bytes_eq];simp;rfl
  (repeat'(first|apply kA|apply kB|((first|refine kc (N:=47) ?_|refine kj (N:=47) kq10 ?_|apply kD|apply kE);simp +decide only[go_sem,t1])|(apply kG;(simp +decide only[go_sem,t1];rfl);all_goals(intro hcnd;try exact kz hcnd))))
  refine dw_slot 4 _ (DLe.own_ _ _ _) ?_
  refine dw_slot 5 _ (DLe.own_ _ _ _) ?_
  apply kF;simp +decide only[go_sem]
  have:s.size - p=0:=by omega
  rw[this,lettersF]at h4
  rw[h4]
theorem cSection_D(nm:ByteArray)(us:List Unt)(lt:List (List ByteArray))(s:ByteArray)(hl:lt.length≤1000000)(hll: ∀l∈lt,l.length≤1000000)(hs:s.size≤1048576):
  DCalls Tryz.prog 56 [.agg (ortRow nm us lt),dv (ls s)] (dv (li (sectE lt s))):=by
 have hF:=cFirst_D nm us lt s hl hll (by omega)
 by_cases h0:s.size=0
 ·have t1:(s=={ data:= #[] })=true:=by
   rw[bytes_eq];exact ByteArray.size_eq_zero_iff.1 h0
  refine kd (N:=22) (rs:= [.tmp 4]) Tryz.func56 ?_
  (repeat'(first|apply kA|apply kB|((first|refine kc (N:=22) ?_|apply kD|apply kE|apply kF);simp +decide only[go_sem,t1])|(apply kG;(simp +decide only[go_sem,t1];rfl);all_goals(intro hcnd;try exact kz hcnd))))
  simp[sectE,h0]
 ·have t1:(s=={ data:= #[] })=false:=bytes_ne fun h=>h0 (by rw[h];rfl)
  cases hf:firstE lt s with
  | none=>
   rw[hf]at hF
   simp only[fI,fK,fstSz,Option.isSome_none]at hF
   refine kd (N:=22) (rs:= [.tmp 4]) Tryz.func56 ?_
   (repeat'(first|apply kA|apply kB|((first|refine kc (N:=22) ?_|apply kD|apply kE|refine kx hF ?_|apply kF);simp +decide only[go_sem,t1,ortRow])|(apply kG;(simp +decide only[go_sem,t1,ortRow];rfl);all_goals(intro hcnd;try exact kz hcnd))))
   simp[sectE,h0,hf]
  | some x=>
   rw[hf]at hF
   simp only[fI,fK,fstSz,Option.isSome_some]at hF
   refine kd (N:=22) (rs:= [.tmp 4]) Tryz.func56 ?_
   (repeat'(first|apply kA|apply kB|((first|refine kc (N:=22) ?_|apply kD|apply kE|refine kx hF ?_|apply kF);simp +decide only[go_sem,t1,ortRow])|(apply kG;(simp +decide only[go_sem,t1,ortRow];rfl);all_goals(intro hcnd;try exact kz hcnd))))
   simp[sectE,h0,hf]
theorem cmpL_cons(x y:Int)(a b:List Int):cmpL (x::a) (y::b)=if x<y then -1 else if y<x then 1 else cmpL a b:=by
 unfold cmpL
 simp only[List.cons_lt_cons_iff]
 by_cases h1:x<y
 ·simp[h1]
 ·by_cases h2:y<x
  ·have:x≠y:=by omega
   simp[h1,h2,this]
  ·have:x=y:=by omega
   subst this
   simp
theorem cmpL_nil:cmpL [] []=0:=by simp[cmpL]
theorem cmpL_nc(y:Int)(b:List Int):cmpL [] (y::b)= -1:=by simp[cmpL]
theorem cmpL_cn(x:Int)(a:List Int):cmpL (x::a) []=1:=by simp[cmpL]
theorem ints_at2{xs:List Int}{k:Nat}{x:Int}(h:xs[k]? =some x):(ints xs)[k]? =some [li x]:=by simp[h]
theorem drop_at2{α:Type}{l:List α}{k:Nat}{x:α}(h:l[k]? =some x):l.drop k=x::l.drop (k+1):=by
 obtain⟨hk,e⟩:=List.getElem?_eq_some_iff.1 h
 rw[← e];exact List.drop_eq_getElem_cons hk
end Go.Proofs.YtehdkccjaeckhaaGreatDoor
namespace Go.Proofs.YtehdkccjaeckhaaGreatDoor
abbrev kpn12:List (Nat×Go.Dl.Mode):= [(0,.light),(1,.light),(2,.light),(3,.light),(4,.light),(5,.light),(6,.light),(7,.light),(8,.step),(9,.light)]
abbrev kq11:Nat→List (Nat×Go.Dl.Mode):=fun n=>match n with|4=>kpn12|_=> []
end Go.Proofs.YtehdkccjaeckhaaGreatDoor
namespace Go.Proofs.YtehdkccjaeckhaaGreatDoor
open Go.Dl
attribute [local irreducible] DW DCalls ECalls wk IW
theorem cCmp_D(a b:List Int)(ha:a.length≤1048576)(hb:b.length≤1048576):DCalls Tryz.prog 85 [dv (.sl 1 (ints a)),dv (.sl 1 (ints b))] (dv (li (cmpL a b))):=by
 have hmax:maxLen=9223372036854775807:=rfl
 have hm:(if(b.length:Int)<(a.length:Int)then(b.length:Int)else(a.length:Int))=((min a.length b.length:Nat):Int):=by split<;>omega
 refine kd (N:=33) (rs:= [.tmp 4]) Tryz.func85 ?_
 (repeat(first|apply kA|apply kB|((first|refine kc (N:=33) ?_|refine kj (N:=33) kq11 ?_|apply kD|apply kE);simp +decide only[go_sem,hm])))
 refine dw_loop_fam (fun k:Nat=>kn 33 [(0,dv (.sl 1 (ints a))),(1,dv (.sl 1 (ints b))),(11,dv (li ((min a.length b.length:Nat):Int))),(12,dv (li k))] noMem)
  (fun k=>k≤a.length∧k≤b.length∧cmpL a b=cmpL (a.drop k) (b.drop k)) (fun k=>a.length - k) 0 (kL rfl (by simp +decide only[go_sem,hm]) (by simp[noMem])) ⟨by omega,by omega,rfl⟩ ?_
 rintro k ⟨h1,h2,h3⟩
 by_cases kk:k<min a.length b.length
 ·have t1:decide ((k:Int)<((min a.length b.length:Nat):Int))=true:=by simp;omega
  have ka:k<a.length:=by omega
  have kb:k<b.length:=by omega
  have ea:a[k]? =some a[k]:=List.getElem?_eq_getElem ka
  have eb:b[k]? =some b[k]:=List.getElem?_eq_getElem kb
  generalize a[k]=x at ea
  generalize b[k]=y at eb
  rw[drop_at2 ea,drop_at2 eb,cmpL_cons]at h3
  have fa:=ints_at2 ea
  have fb:=ints_at2 eb
  have u2:IntKind.i64.wrap ((k:Int)+1)=((k+1:Nat):Int):=wrap_succ k (by omega)
  have hc:=cmp_D x y
  by_cases g1:x<y
  ·rw[if_pos g1]at h3
   rw[show cmpI x y= -1 by unfold cmpI;rw[if_pos g1]]at hc
   (repeat'(first|apply kA|apply kB|((first|refine kc (N:=33) ?_|refine kj (N:=33) kq11 ?_|apply kD|apply kE|refine kx hc ?_|apply kF);simp +decide only[go_sem,t1,fa,fb])|(apply kG;(simp +decide only[go_sem,t1,fa,fb];rfl);all_goals(intro hcnd;try exact kz hcnd))))
   rw[h3]
  ·rw[if_neg g1]at h3
   by_cases g2:y<x
   ·rw[if_pos g2]at h3
    rw[show cmpI x y=1 by unfold cmpI;rw[if_neg g1,if_pos g2]]at hc
    (repeat'(first|apply kA|apply kB|((first|refine kc (N:=33) ?_|refine kj (N:=33) kq11 ?_|apply kD|apply kE|refine kx hc ?_|apply kF);simp +decide only[go_sem,t1,fa,fb])|(apply kG;(simp +decide only[go_sem,t1,fa,fb];rfl);all_goals(intro hcnd;try exact kz hcnd))))
    rw[h3]
   ·rw[if_neg g2]at h3
    rw[show cmpI x y=0 by unfold cmpI;rw[if_neg g1,if_neg g2]]at hc
    (repeat'(first|apply kA|apply kB|((first|refine kc (N:=33) ?_|refine kj (N:=33) kq11 ?_|apply kD|apply kE|refine kx hc ?_|apply kF);simp +decide only[go_sem,t1,fa,fb,u2])|(apply kG;(simp +decide only[go_sem,t1,fa,fb,u2];rfl);all_goals(intro hcnd;try exact kz hcnd))))
    exact⟨k+1,⟨by omega,by omega,h3⟩,by omega,kL rfl (by simp +decide only[go_sem,u2]) (by simp[noMem])⟩
 ·have t1:decide ((k:Int)<((min a.length b.length:Nat):Int))=false:=by simp;omega
  have hc:=cmp_D (a.length:Int) (b.length:Int)
  have e:cmpL a b=cmpI (a.length:Int) (b.length:Int):=by
   rw[h3]
   unfold cmpI
   by_cases ka:k<a.length
   ·have hk:k=b.length:=by omega
    subst hk
    rw[drop_at2 (List.getElem?_eq_getElem ka),List.drop_length,cmpL_cn,if_neg (by omega),if_pos (by omega)]
   ·have hk:k=a.length:=by omega
    subst hk
    rw[List.drop_length]
    by_cases kb:a.length<b.length
    ·rw[drop_at2 (List.getElem?_eq_getElem kb),cmpL_nc,if_pos (by omega)]
    ·have e:a.length=b.length:=by omega
     rw[e,List.drop_length,cmpL_nil,if_neg (by omega),if_neg (by omega)]
  rw[← e]at hc
  (repeat'(first|apply kA|apply kB|((first|refine kc (N:=33) ?_|refine kj (N:=33) kq11 ?_|apply kD|apply kE|refine kx hc ?_|apply kF);simp +decide only[go_sem,t1])|(apply kG;(simp +decide only[go_sem,t1];rfl);all_goals(intro hcnd;try exact kz hcnd))))
def byteL(s:ByteArray):List Int:=s.data.toList.map fun b=>(b.toNat:Int)
theorem textP_snoc(g:List Phon)(w:List Int)(n:Int):textP g (w++ [n])=if segOk g n=true then textP g w++nameAt g n else textP g w:=by
 simp[textP,List.foldl_append]
theorem nameAt_size{g:List Phon}{B:Nat}(hg: ∀p∈g,p.name.size≤B)(n:Int):(nameAt g n).size≤B:=by
 unfold nameAt
 cases e:g[(n - 1).toNat]? with
 | none=>simp
 | some p=>simpa using hg p (List.mem_of_getElem? e)
theorem textP_le{g:List Phon}{B:Nat}(hg: ∀p∈g,p.name.size≤B)(w:List Int): ∀k,(textP g (w.take k)).size≤k*B
 | 0=>by simp[textP]
 | k+1=>by
  have ih:=textP_le hg w k
  rw[Nat.succ_mul]
  cases e:w[k]? with
  | none=>
   have:w.length≤k:=List.getElem?_eq_none_iff.1 e
   rw[List.take_of_length_le (by omega)]
   rw[List.take_of_length_le this]at ih
   omega
  | some n=>
   have:w.take (k+1)=w.take k++ [n]:=by rw[List.take_add_one,e];rfl
   rw[this,textP_snoc]
   have:=nameAt_size hg n
   split
   ·rw[ByteArray.size_append];omega
   ·omega
theorem empty_mk:ByteArray.empty={ data:= #[] }:=rfl
theorem seg_name{g:List Phon}{n:Int}(h:segOk g n=true): ∃j:Nat,∃p:Phon,n=(j:Int)+1∧g[j]? =some p∧nameAt g n=p.name:=by
 unfold segOk at h
 simp only[Bool.and_eq_true,decide_eq_true_eq]at h
 have hlt:(n - 1).toNat<g.length:=by omega
 refine⟨(n - 1).toNat,g[(n - 1).toNat],by omega,List.getElem?_eq_getElem hlt,?_⟩
 unfold nameAt
 rw[List.getElem?_eq_getElem hlt];rfl
theorem pText_D(g:List Phon)(w:List Int)(hg: ∀p∈g,p.name.size≤1048576)(hgl:g.length≤1048576)(hw:w.length≤1048576):DCalls Tryz.prog 38 [.agg (invRow g),dv (.sl 1 (ints w))] (dv (ls (textP g w))):=by
 have hmax:maxLen=9223372036854775807:=rfl
 refine kd (N:=28) (rs:= [.tmp 4]) Tryz.func38 ?_
 (repeat(first|apply kA|apply kB|((first|refine kc (N:=28) ?_|apply kD|apply kE);simp +decide only[go_sem])))
 refine dw_rng0 w (fun k=>kn 28 [(2,.one (.bx 2 1 0 0)),(5,dv (ls (textP g (w.take k)))),(8,dv (.sl 1 (ints w))),(9,dv (li w.length)),(10,dv (li k))] (ml [(2,[invRow g])])) (by omega) (kM rfl (by simp +decide only[go_sem,List.take_zero,textP,List.foldl_nil,invRow,List.length_cons,List.length_nil,empty_mk]) (by simp +decide only[go_sem,invRow])) ?_ ?_
 ·intro k n he hk hmm htk hlt hwr
  have fa:=ints_at2 he
  have hs:=seg_D g n
  have hst:textP g (w.take (k+1))=if segOk g n=true then textP g (w.take k)++nameAt g n else textP g (w.take k):=by rw[htk];exact textP_snoc g _ n
  have hle:=textP_le hg w k
  cases t1:segOk g n
  ·rw[t1]at hs hst
   rw[if_neg (by decide)]at hst
   (repeat'(first|apply kA|apply kB|((first|refine kc (N:=28) ?_|apply kD|apply kE|refine kx hs ?_|apply kF);simp +decide only[go_sem,hlt,hwr,fa,invRow])|(apply kG;(simp +decide only[go_sem,hlt,hwr,fa,invRow];rfl);all_goals(intro hcnd;try exact kz hcnd))))
   exact kM rfl (by simp +decide only[go_sem,hst]) (by simp +decide only[go_sem,invRow])
  ·rw[t1]at hs hst
   rw[if_pos rfl]at hst
   obtain⟨j,p,rfl,e1,e2⟩:=seg_name t1
   have hn:=nameAt_size hg ((j:Int)+1)
   have hj:=(List.getElem?_eq_some_iff.1 e1).1
   rw[e2]at hst hn
   have u1:IntKind.i64.wrap ((j:Int)+1 - 1)=(j:Int):=by rw[wrap_i64 (by omega) (by omega)];omega
   have u2:((textP g (w.take k)).size+p.name.size≤maxLen)=True:=by
    simp only[eq_iff_iff,iff_true]
    have:k*1048576≤1048576*1048576:=Nat.mul_le_mul_right _ (by omega)
    omega
   (repeat'(first|apply kA|apply kB|((first|refine kc (N:=28) ?_|apply kD|apply kE|refine kx hs ?_|apply kF);simp +decide only[go_sem,hlt,hwr,fa,invRow,u1,e1,u2,Phon.enc])|(apply kG;(simp +decide only[go_sem,hlt,hwr,fa,invRow,u1,e1,u2,Phon.enc];rfl);all_goals(intro hcnd;try exact kz hcnd))))
   exact kM rfl (by simp +decide only[go_sem,hst]) (by simp +decide only[go_sem,invRow])
 ·intro hlt
  rw[List.take_length]
  (repeat'(first|apply kA|apply kB|((first|refine kc (N:=28) ?_|apply kD|apply kE|apply kF);simp +decide only[go_sem,hlt])|(apply kG;(simp +decide only[go_sem,hlt];rfl);all_goals(intro hcnd;try exact kz hcnd))))
def Unt.row(u:Unt):List T:= [.c (ls u.graph),.c (.sl 1 (ints u.segs))]
theorem spellF_fuel{us:List Unt}(ho:OkU us)(w:List Int): ∀n n' p s,w.length - p≤n→w.length - p≤n'→spellF us w n p s=spellF us w n' p s
 | 0,0,_,_,_,_=>rfl
 | 0,n'+1,p,s,h,_=>by
  simp only[spellF]
  rw[if_pos (by omega)]
 | n+1,0,p,s,_,h=>by
  simp only[spellF]
  rw[if_pos (by omega)]
 | n+1,n'+1,p,s,h1,h2=>by
  simp only[spellF]
  by_cases hp:w.length≤p
  ·rw[if_pos hp,if_pos hp]
  ·rw[if_neg hp,if_neg hp]
   by_cases hb:bestU us (w.drop p) us.length<0
   ·rw[if_pos hb,if_pos hb]
   ·rw[if_neg hb,if_neg hb]
    obtain⟨u,-,e2,e3,-⟩:=unit_some hb
    rw[e2]
    have:=ho.segs u e3
    have:u.segs.length≠0:=by simpa using this
    exact spellF_fuel ho w n n' _ _ (by omega) (by omega)
theorem bestU_succ{us:List Unt}{w:List Int}{n:Nat}{u:Unt}(e:us[n]? =some u):bestU us w (n+1)=if(startsU w u&&(decide (bestU us w n<0)||decide ((unitAt us (bestU us w n)).segs.length<u.segs.length)))=true then(n:Int)else bestU us w n:=by
 simp only[bestU,e]
end Go.Proofs.YtehdkccjaeckhaaGreatDoor
namespace Go.Proofs.YtehdkccjaeckhaaGreatDoor
abbrev kpn13:List (Nat×Go.Dl.Mode):= [(0,.light),(1,.light),(2,.light),(3,.light),(4,.light),(5,.light),(6,.light),(7,.light),(8,.light),(9,.light),(10,.light),(11,.light),(12,.light),(13,.light),(14,.step),(15,.light),(16,.light)]
abbrev kpn14:List (Nat×Go.Dl.Mode):= [(0,.light),(1,.light),(2,.light),(3,.light),(4,.light),(5,.light),(6,.light),(7,.light),(8,.light),(9,.light),(10,.light),(11,.light),(12,.light),(13,.light),(14,.light)]
abbrev kq12:Nat→List (Nat×Go.Dl.Mode):=fun n=>match n with|5=>kpn13|6=>kpn14|_=> []
end Go.Proofs.YtehdkccjaeckhaaGreatDoor
namespace Go.Proofs.YtehdkccjaeckhaaGreatDoor
open Go.Dl
attribute [local irreducible] DW DCalls ECalls wk IW
theorem starts_take{w:List Int}{u:Unt}(h:u.segs.length≤w.length):decide (u.segs=w.take u.segs.length)=startsU w u:=by
 unfold startsU
 congr 1
 rw[eq_iff_iff]
 exact List.prefix_iff_eq_take.symm
theorem unit_D(nm:ByteArray)(us:List Unt)(lt:List (List ByteArray))(w:List Int)(hl:us.length≤1000000)(hw0:w.length≤1048576)(hsg: ∀u∈us,u.segs.length≤1048576):
  DCalls Tryz.prog 70 [.agg (ortRow nm us lt),dv (.sl 1 (ints w))] (dv (li (bestU us w us.length))):=by
 have hmax:maxLen=9223372036854775807:=rfl
 refine kd (N:=51) (rs:= [.tmp 4]) Tryz.func70 ?_
 (repeat'(first|apply kA|apply kB|((first|refine kc (N:=51) ?_|refine kj (N:=51) kq12 ?_|apply kD|apply kE);simp +decide only[go_sem,ortRow])|(apply kG;(simp +decide only[go_sem,ortRow];rfl);all_goals(intro hcnd;try exact kz hcnd))|((first|apply kH|apply kI)<;>(intro hcnd;simp +decide only[go_sem,hcnd,ortRow]))))
 refine dw_rng0 us (fun i=>kn 51 [(1,dv (.sl 1 (ints w))),(2,.one (.bx 2 3 0 0)),(5,dv (li (bestU us w i))),(9,dv (.sl 2 (us.map Unt.enc))),(10,dv (li us.length)),(11,dv (li i))] (ml [(2,[ortRow nm us lt])])) (by omega) (kM rfl (by simp +decide only[go_sem,bestU,ortRow,List.length_cons,List.length_nil]) (by simp +decide only[go_sem,ortRow])) ?_ ?_
 ·intro i u he hk hmm htk hlt hw
  have hb:=bestU_succ (w:=w) he
  have hr:=bestU_rng us w i (by omega)
  have hul:=hsg u hmm
  generalize bestU us w i=b at hb hr ⊢
  by_cases g0:w.length<u.segs.length
  ·have t0:((w.length:Int)<(u.segs.length:Int))=True:=by simp;omega
   have t4:startsU w u=false:=by
    unfold startsU
    rw[decide_eq_false_iff_not]
    intro h
    have:=h.length_le
    omega
   rw[t4,if_neg (by simp)]at hb
   (repeat'(first|apply kA|apply kB|((first|refine kc (N:=51) ?_|refine kj (N:=51) kq12 ?_|apply kD|apply kE|apply kF);simp +decide only[go_sem,hlt,hw,he,ortRow,Unt.enc,t0])|(apply kG;(simp +decide only[go_sem,hlt,hw,he,ortRow,Unt.enc,t0];rfl);all_goals(intro hcnd;try exact kz hcnd))|((first|apply kH|apply kI)<;>(intro hcnd;simp +decide only[go_sem,hcnd,hlt,hw,he,ortRow,Unt.enc,t0]))))
   exact kM rfl (by simp +decide only[go_sem,hb]) (by simp +decide only[go_sem,ortRow])
  ·have t0:((w.length:Int)<(u.segs.length:Int))=False:=by simp;omega
   have hE:=eqI_D u.segs (w.take u.segs.length) (by omega)
   rw[starts_take (by omega)]at hE
   have ht:(ints w).take u.segs.length=ints (w.take u.segs.length):=by simp
   have z1:(u.segs.length≤w.length)=True:=by simp;omega
   cases t4:startsU w u
   ·rw[t4]at hE hb
    rw[if_neg (by simp)]at hb
    (repeat'(first|apply kA|apply kB|((first|refine kc (N:=51) ?_|refine kj (N:=51) kq12 ?_|apply kD|apply kE|refine kx hE ?_|apply kF);simp +decide only[go_sem,hlt,hw,he,ortRow,Unt.enc,t0,z1,ht,Nat.zero_le u.segs.length])|(apply kG;(simp +decide only[go_sem,hlt,hw,he,ortRow,Unt.enc,t0,z1,ht,Nat.zero_le u.segs.length];rfl);all_goals(intro hcnd;try exact kz hcnd))|((first|apply kH|apply kI)<;>(intro hcnd;simp +decide only[go_sem,hcnd,hlt,hw,he,ortRow,Unt.enc,t0,z1,ht,Nat.zero_le u.segs.length]))))
    exact kM rfl (by simp +decide only[go_sem,hb]) (by simp +decide only[go_sem,ortRow])
   ·rw[t4]at hE hb
    by_cases t5:b<0
    ·have t6:(b<0)=True:=by simpa using t5
     rw[if_pos (by simp[t5])]at hb
     (repeat'(first|apply kA|apply kB|((first|refine kc (N:=51) ?_|refine kj (N:=51) kq12 ?_|apply kD|apply kE|refine kx hE ?_|apply kF);simp +decide only[go_sem,hlt,hw,he,ortRow,Unt.enc,t0,t6,z1,ht,Nat.zero_le u.segs.length])|(apply kG;(simp +decide only[go_sem,hlt,hw,he,ortRow,Unt.enc,t0,t6,z1,ht,Nat.zero_le u.segs.length];rfl);all_goals(intro hcnd;try exact kz hcnd))|((first|apply kH|apply kI)<;>(intro hcnd;simp +decide only[go_sem,hcnd,hlt,hw,he,ortRow,Unt.enc,t0,t6,z1,ht,Nat.zero_le u.segs.length]))))
     exact kM rfl (by simp +decide only[go_sem,hb]) (by simp +decide only[go_sem,ortRow])
    ·have t6:(b<0)=False:=by simpa using t5
     obtain⟨j,rfl⟩: ∃j:Nat,b=j:=⟨b.toNat,by omega⟩
     have hj:j<us.length:=by omega
     have ej:us[j]? =some us[j]:=List.getElem?_eq_getElem hj
     generalize us[j]=v at ej
     have ev:unitAt us (j:Int)=v:=by unfold unitAt;simp[ej]
     rw[ev]at hb
     by_cases t7:v.segs.length<u.segs.length
     ·have t8:((v.segs.length:Int)<(u.segs.length:Int))=True:=by simp;omega
      rw[if_pos (by simp[t7])]at hb
      (repeat'(first|apply kA|apply kB|((first|refine kc (N:=51) ?_|refine kj (N:=51) kq12 ?_|apply kD|apply kE|refine kx hE ?_|apply kF);simp +decide only[go_sem,hlt,hw,he,ej,ortRow,Unt.enc,t0,t6,t8,z1,ht,Nat.zero_le u.segs.length])|(apply kG;(simp +decide only[go_sem,hlt,hw,he,ej,ortRow,Unt.enc,t0,t6,t8,z1,ht,Nat.zero_le u.segs.length];rfl);all_goals(intro hcnd;try exact kz hcnd))|((first|apply kH|apply kI)<;>(intro hcnd;simp +decide only[go_sem,hcnd,hlt,hw,he,ej,ortRow,Unt.enc,t0,t6,t8,z1,ht,Nat.zero_le u.segs.length]))))
      exact kM rfl (by simp +decide only[go_sem,hb]) (by simp +decide only[go_sem,ortRow])
     ·have t8:((v.segs.length:Int)<(u.segs.length:Int))=False:=by simp;omega
      rw[if_neg (by simp[t7])]at hb
      (repeat'(first|apply kA|apply kB|((first|refine kc (N:=51) ?_|refine kj (N:=51) kq12 ?_|apply kD|apply kE|refine kx hE ?_|apply kF);simp +decide only[go_sem,hlt,hw,he,ej,ortRow,Unt.enc,t0,t6,t8,z1,ht,Nat.zero_le u.segs.length])|(apply kG;(simp +decide only[go_sem,hlt,hw,he,ej,ortRow,Unt.enc,t0,t6,t8,z1,ht,Nat.zero_le u.segs.length];rfl);all_goals(intro hcnd;try exact kz hcnd))|((first|apply kH|apply kI)<;>(intro hcnd;simp +decide only[go_sem,hcnd,hlt,hw,he,ej,ortRow,Unt.enc,t0,t6,t8,z1,ht,Nat.zero_le u.segs.length]))))
      exact kM rfl (by simp +decide only[go_sem,hb]) (by simp +decide only[go_sem,ortRow])
 ·intro hlt
  (repeat'(first|apply kA|apply kB|((first|refine kc (N:=51) ?_|refine kj (N:=51) kq12 ?_|apply kD|apply kE|apply kF);simp +decide only[go_sem,hlt])|(apply kG;(simp +decide only[go_sem,hlt];rfl);all_goals(intro hcnd;try exact kz hcnd))|((first|apply kH|apply kI)<;>(intro hcnd;simp +decide only[go_sem,hcnd,hlt]))))
end Go.Proofs.YtehdkccjaeckhaaGreatDoor
namespace Go.Proofs.YtehdkccjaeckhaaGreatDoor
open Go.Shelf
def Tryz.laysB_ren:Go.Shelf.Ren:=⟨fun|169=>72|n=>n,fun|70=>106|9=>9|0=>0|72=>109|37=>107|127=>146|3=>3|5=>5|n=>n,fun|n=>n⟩
theorem Tryz.laysB:Go.Proofs.Lays.n169 Tryz.prog Tryz.laysB_ren:={
 mixed:=by kernel_rfl
 f169:=Tryz.func72.trans (congrArg some (by kernel_rfl))
 t0:=Tryz.underlying0
 a0:=Tryz.isAgg0
 z0:=Tryz.sizeOf0
 v0:=Tryz.zeroValue0
 t3:=Tryz.underlying3
 a3:=Tryz.isAgg3
 z3:=Tryz.sizeOf3
 v3:=Tryz.zeroValue3
 t9:=Tryz.underlying9
 a9:=Tryz.isAgg9
 z9:=Tryz.sizeOf9
 v9:=Tryz.zeroValue9
 t37:=Tryz.underlying107
 a37:=Tryz.isAgg107
 z37:=Tryz.sizeOf107
 v37:=Tryz.zeroValue107
 t70:=Tryz.underlying106
 a70:=Tryz.isAgg106
 z70:=Tryz.sizeOf106
 v70:=Tryz.zeroValue106
 t72:=Tryz.underlying109
 a72:=Tryz.isAgg109
 z72:=Tryz.sizeOf109
 v72:=Tryz.zeroValue109
 t127:=Tryz.underlying146
 a127:=Tryz.isAgg146
 z127:=Tryz.sizeOf146
 v127:=Tryz.zeroValue146 }
def Tryz.laysW_ren:Go.Shelf.Ren:=⟨fun|166=>71|240=>112|276=>134|n=>n,fun|0=>0|3=>3|4=>4|5=>5|9=>9|20=>20|37=>107|70=>106|72=>109|75=>112|80=>115|164=>169|n=>n,fun|n=>n⟩
theorem Tryz.laysW:Go.Proofs.Lays.n166 Tryz.prog Tryz.laysW_ren:={
 mixed:=by kernel_rfl
 f166:=Tryz.func71.trans (congrArg some (by kernel_rfl))
 f240:=Tryz.func112.trans (congrArg some (by kernel_rfl))
 f276:=Tryz.func134.trans (congrArg some (by kernel_rfl))
 t0:=Tryz.underlying0
 a0:=Tryz.isAgg0
 z0:=Tryz.sizeOf0
 v0:=Tryz.zeroValue0
 t3:=Tryz.underlying3
 a3:=Tryz.isAgg3
 z3:=Tryz.sizeOf3
 v3:=Tryz.zeroValue3
 t4:=Tryz.underlying4
 a4:=Tryz.isAgg4
 z4:=Tryz.sizeOf4
 v4:=Tryz.zeroValue4
 t9:=Tryz.underlying9
 a9:=Tryz.isAgg9
 z9:=Tryz.sizeOf9
 v9:=Tryz.zeroValue9
 t20:=Tryz.underlying20
 a20:=Tryz.isAgg20
 z20:=Tryz.sizeOf20
 v20:=Tryz.zeroValue20
 t37:=Tryz.underlying107
 a37:=Tryz.isAgg107
 z37:=Tryz.sizeOf107
 v37:=Tryz.zeroValue107
 t70:=Tryz.underlying106
 a70:=Tryz.isAgg106
 z70:=Tryz.sizeOf106
 v70:=Tryz.zeroValue106
 t72:=Tryz.underlying109
 a72:=Tryz.isAgg109
 z72:=Tryz.sizeOf109
 v72:=Tryz.zeroValue109
 t75:=Tryz.underlying112
 a75:=Tryz.isAgg112
 z75:=Tryz.sizeOf112
 v75:=Tryz.zeroValue112
 t164:=Tryz.underlying169
 a164:=Tryz.isAgg169
 z164:=Tryz.sizeOf169
 v164:=Tryz.zeroValue169 }
theorem Tryz.extraB:Go.Proofs.Builder.Extra Tryz.prog Tryz.laysB_ren where
 sizeBuilder:=by kernel_rfl
 liesBuilder:=by kernel_rfl
 t5:=Tryz.underlying5
 a5:=Tryz.isAgg5
 z5:=Tryz.sizeOf5
 v5:=Tryz.zeroValue5
 infoByte:=by kernel_rfl
 cellsByte:=by kernel_rfl
 sizeByte:=by kernel_rfl
 neB5:=by decide
theorem Tryz.extraW:Go.Proofs.Builder.Extra Tryz.prog Tryz.laysW_ren where
 sizeBuilder:=by kernel_rfl
 liesBuilder:=by kernel_rfl
 t5:=Tryz.underlying5
 a5:=Tryz.isAgg5
 z5:=Tryz.sizeOf5
 v5:=Tryz.zeroValue5
 infoByte:=by kernel_rfl
 cellsByte:=by kernel_rfl
 sizeByte:=by kernel_rfl
 neB5:=by decide
end Go.Proofs.YtehdkccjaeckhaaGreatDoor
namespace Go.Proofs.YtehdkccjaeckhaaGreatDoor
abbrev kpn15:List (Nat×Go.Dl.Mode):= [(0,.light),(1,.light),(2,.light),(3,.light),(4,.step),(5,.light)]
abbrev kq13:Nat→List (Nat×Go.Dl.Mode):=fun n=>match n with|8=>kpn15|_=> []
end Go.Proofs.YtehdkccjaeckhaaGreatDoor
namespace Go.Proofs.YtehdkccjaeckhaaGreatDoor
open Go.Dl Go.RowKit
attribute [local irreducible] DW DCalls ECalls wk IW
theorem sl_len{w:World}{K:KSet}{sz:Nat}{xs:List (List Dl.C)}{v:Value}(h:VC w K (.sl sz xs) v): ∃A c,v= .slice A xs.length c:=by
 rcases h.sl_inv with⟨h1,h2⟩|⟨a,cap,cv,h1,_⟩
 ·exact⟨_,_,by rw[h1,h2];rfl⟩
 ·exact⟨_,_,h1⟩
theorem spellF_next{us:List Unt}{w:List Int}{p:Nat}{s:ByteArray}(h:p<w.length):spellF us w (w.length - p) p s=if bestU us (w.drop p) us.length<0 then(ByteArray.empty,(p:Int),20)else
  spellF us w (w.length - p - 1) (p+(unitAt us (bestU us (w.drop p) us.length)).segs.length) (s++(unitAt us (bestU us (w.drop p) us.length)).graph):=by
 obtain⟨m,hm⟩: ∃m,w.length - p=m+1:=⟨w.length - p - 1,by omega⟩
 rw[hm,spellF,if_neg (by omega)]
 rfl
theorem builder_below{T e B b:Nat}{bs:List Value}{w w':World}(h:Lib.IsBuilder T e B b bs w)(hb:Below w.heap.size w w'):Lib.IsBuilder T e B b bs w':=by
 have key: ∀p,Lib.BuilderAt T e B b p bs w→Lib.BuilderAt T e B b p bs w':=by
  rintro p ⟨h1,v,h2,h3,h4⟩
  exact⟨h1,v,(hb.block _ (Array.getElem?_eq_some_iff.1 h2).1).trans h2,h3.kept (row:=none) ⟨hb.os,hb.tape,hb.output,hb.size,fun k hk _=>hb.block k hk⟩ (by cases v.ownBlock<;>simp),h4⟩
 exact h.imp (key _) (key _)
theorem unit_calls(nm:ByteArray)(us:List Unt)(lt:List (List ByteArray))(wd:List Int)(hl:us.length≤1000000)(hw0:wd.length≤1048576)(hsg: ∀u∈us,u.segs.length≤1048576){w:World}{K:KSet}(hk:KOk w K){vn vu vl vw:Value}
  (hn:VC w K (ls nm) vn) (hu:VC w K (.sl 2 (us.map Unt.enc)) vu) (hlv:VC w K (.sl 1 (lt.map letC)) vl) (hw:VC w K (.sl 1 (ints wd)) vw):
  Calls Tryz.prog 70 #[.agg #[vn,vu,vl],vw] w fun e w'=>e= .returned (.int .i64 (bestU us wd us.length))∧Below w.heap.size w w':=
 calls_lit (unit_D nm us lt wd hl hw0 hsg) hk rfl fun j d v h1 h2=>by
  match j with
  | 0=>
   simp at h1 h2;subst h1;subst h2
   refine .agg _ _ rfl fun j t v g1 g2=>?_
   match j with
   | 0=>simp[ortRow]at g1 g2;subst g1;subst g2;exact .c _ _ hn
   | 1=>simp[ortRow]at g1 g2;subst g1;subst g2;exact .c _ _ hu
   | 2=>simp[ortRow]at g1 g2;subst g1;subst g2;exact .c _ _ hlv
   | j+3=>simp[ortRow]at g1
  | 1=>simp at h1 h2;subst h1;subst h2;exact .one _ _ (.c _ _ hw)
  | j+2=>simp at h1
set_option maxRecDepth 100000 in
theorem spell_calls(nm:ByteArray)(us:List Unt)(lt:List (List ByteArray))(wd:List Int)(ho:OkU us)(hl:us.length≤1000000)(hg: ∀u∈us,u.graph.size≤1048576)(hsg: ∀u∈us,u.segs.length≤1048576){w:World}{K:KSet}(hk:KOk w K){vn vu vl:Value}{blk off cap:Nat}
  (hn:VC w K (ls nm) vn) (hu:VC w K (.sl 2 (us.map Unt.enc)) vu) (hlv:VC w K (.sl 1 (lt.map letC)) vl) (hcut: ∀p,p<wd.length→VC w K (.sl 1 (ints (wd.drop p))) (.slice (some ⟨blk,off+p,none⟩) (wd.length - p) (cap - p)))
  (hcap:wd.length≤cap) (hlen:0<wd.length) (h24:wd.length≤24):
  Calls Tryz.prog 37 #[.agg #[vn,vu,vl],.slice (some ⟨blk,off,none⟩) wd.length cap] w fun e w'=>e= .returned (.tuple #[.string (spellE us wd).1,.int .i64 (spellE us wd).2.1,.int .i64 (spellE us wd).2.2])∧Below w.heap.size w w':=by
 have hE:spellE us wd=spellF us wd wd.length 0 ByteArray.empty:=by
  unfold spellE;rw[if_neg (by omega),if_neg (by omega)]
 rw[hE]
 have hW0:Below w.heap.size w ((w.alloc (.cells #[vn,vu,vl] 28)).alloc (.cells #[.pointer none,.slice none 0 0] 109)):=
  ((Below.refl _ w).alloc (Nat.le_refl _) _).alloc (by simp) _
 have z0:((wd.length:Int)==0)=false:=by rw[beq_eq_false_iff_ne];omega
 have z1:decide ((24:Int)<(wd.length:Int))=false:=by simp;omega
 go_enter Tryz.func37,Tryz.ntmps37
 go_wp2
 go_loopw [8] (fun i wr=>∃(p:Nat) (s:ByteArray),p≤wd.length∧i= .int .i64 p∧Lib.IsBuilder 109 5 (w.heap.size+1) (w.heap.size+1) (Lib.strCells s) wr∧Below w.heap.size w wr∧w.heap.size+1<wr.heap.size∧
   wr.cell? ⟨w.heap.size,0,none⟩=some vn∧wr.cell? ⟨w.heap.size,1,none⟩=some vu∧wr.cell? ⟨w.heap.size,2,none⟩=some vl∧s.size≤p*1048576∧
   spellF us wd wd.length 0 ByteArray.empty=spellF us wd (wd.length - p) p s)
   (fun i _=>wd.length - (intOf i).toNat)
 case atStart=>
  refine⟨0,ByteArray.empty,Nat.zero_le _,rfl,?_,hW0,?_,?_,?_,?_,?_,rfl⟩
  ·have:=Lib.fresh_isBuilder 109 5 (w.alloc (.cells #[vn,vu,vl] 28))
   rw[World.size_alloc]at this
   exact this
  ·simp
  ·rw[World.cell?_alloc_lt _ _ _ (by simp),World.cell?_alloc_at _ _ _ 0 rfl];rfl
  ·rw[World.cell?_alloc_lt _ _ _ (by simp),World.cell?_alloc_at _ _ _ 1 rfl];rfl
  ·rw[World.cell?_alloc_lt _ _ _ (by simp),World.cell?_alloc_at _ _ _ 2 rfl];rfl
  ·simp
 case round=>
  obtain⟨p,s,hp,rfl,hB,hb,hsz,c0,c1,c2,hs,hF⟩:=hrel
  by_cases hlt:p<wd.length
  ·have hlt':((p:Int)<(wd.length:Int))=True:=by simp;omega
   go_wp2
   go_still_tail 4,(by kernel_rfl)
   change wpList _ _ _ _ _ wr.drew
   rw[if_neg (show ¬cap=p by omega)]
   generalize hwd:wr.drew=wd1
   have hbd:Below w.heap.size w wd1:=hwd▸hb.drew
   have hBd:Lib.IsBuilder 109 5 (w.heap.size+1) (w.heap.size+1) (Lib.strCells s) wd1:=hwd▸hB.imp (fun h=>h.drew) (fun h=>h.drew)
   have hszd:w.heap.size+1<wd1.heap.size:=hwd▸hsz
   have d0:wd1.cell? ⟨w.heap.size,0,none⟩=some vn:=hwd▸c0
   have d1:wd1.cell? ⟨w.heap.size,1,none⟩=some vu:=hwd▸c1
   have d2:wd1.cell? ⟨w.heap.size,2,none⟩=some vl:=hwd▸c2
   clear c0 c1 c2 hB hb hsz hwd
   have hk1:KOk wd1 K:=below_kok hk hbd
   have mv: ∀{c:Dl.C} {v:Value},VC w K c v→VC wd1 K c v:=fun h=>h.mono fun b o hK=>⟨hK,hbd.cell (p:=⟨b,o,none⟩) (lt_of_cell (hk b o hK))⟩
   have hU:=unit_calls nm us lt (wd.drop p) hl (by simp;omega) hsg hk1 (mv hn) (mv hu) (mv hlv) (mv (hcut p hlt))
   have hle:=bestU_rng us (wd.drop p) us.length (Nat.le_refl _)
   rw[spellF_next hlt]at hF
   by_cases hb0:bestU us (wd.drop p) us.length<0
   ·rw[if_pos hb0]at hF
    generalize hbv:bestU us (wd.drop p) us.length=b at hb0 hU hF hle
    clear hbv
    go_wp2_with (go_at_call 70;refine hU.mono ?_)
    rintro e W1 ⟨rfl,hb1⟩
    have hb2:Below w.heap.size w W1:=hbd.trans (hb1.mono hbd.size)
    go_wp2
    refine bodyPost_ret (results_tmp3 rfl _ _ _) rfl ?_
    exact⟨by rw[hF];rfl,hb2⟩
   ·have hb0':(bestU us (wd.drop p) us.length<0)=False:=by simpa using hb0
    rw[if_neg hb0]at hF
    obtain⟨u,e1,e2,e3,e4⟩:=unit_some hb0
    rw[e2]at hF
    have hz:u.segs.length≠0:=by simpa using ho.segs u e3
    have hle2:u.segs.length≤wd.length - p:=by have:=e4.length_le;rwa [List.length_drop]at this
    have hgs:=hg u e3
    obtain⟨j,hj⟩: ∃j:Nat,bestU us (wd.drop p) us.length=j:=⟨(bestU us (wd.drop p) us.length).toNat,by omega⟩
    rw[hj]at hU e1 hle
    have e1':us[j]? =some u:=by simpa using e1
    clear e1 hj hb0 hb0' e2
    rcases hu.sl_inv with⟨_,h⟩|⟨ua,ucap,ucv,hv,usz,h2,h3,h4,h5⟩
    ·have:us= []:=by simpa using h
     rw[this]at e1';simp at e1'
    have hju:j<us.length:=(List.getElem?_eq_some_iff.1 e1').1
    rw[List.length_map]at h2 h4 hv
    obtain⟨ub,uo,usp⟩:=ua
    obtain rfl:usp=none:=(h4 0 (by omega)).1
    subst hv
    have q0:=h5 j 0 u.enc (ls u.graph) (by simp[e1']) rfl
    have q1:=h5 j 1 u.enc (.sl 1 (ints u.segs)) (by simp[e1']) rfl
    obtain⟨sA,sc,q2⟩:=sl_len q1
    rw[List.length_map]at q2
    have q3:ucv (j*2+0)= .string u.graph:=(VD.one _ _ (VT.c _ _ q0):VD w (E0 K) (dv (ls u.graph)) (ucv (j*2+0))).lit
    have g0:=(h4 (j*2+0) (by omega)).2
    have g1:=(h4 (j*2+1) (by omega)).2
    rw[q3]at g0
    rw[q2]at g1
    have hlt0:=lt_of_cell (hk _ _ g0.1)
    clear q0 q1 q3 h5 h4 hcut mv hu hlv hn
    go_wp2_with (go_at_call 70;refine hU.mono ?_)
    rintro e W1 rfl hb1
    have hb2:Below w.heap.size w W1:=hbd.trans (hb1.mono hbd.size)
    have r0:W1.cell? ⟨ub,uo+j*2,none⟩=some (.string u.graph):=(hb2.cell (p:=⟨ub,uo+j*2,none⟩) hlt0).trans g0.2
    have r1:W1.cell? ⟨ub,uo+j*2+1,none⟩=some (.slice sA u.segs.length sc):=(hb2.cell (p:=⟨ub,uo+(j*2+1),none⟩) hlt0).trans g1.2
    have k0:W1.cell? ⟨w.heap.size,0,none⟩=some vn:=(hb1.cell (p:=⟨w.heap.size,0,none⟩) (by simp;omega)).trans d0
    have k1:W1.cell? ⟨w.heap.size,1,none⟩=some (.slice (some ⟨ub,uo,none⟩) us.length ucap):=(hb1.cell (p:=⟨w.heap.size,1,none⟩) (by simp;omega)).trans d1
    have k2:W1.cell? ⟨w.heap.size,2,none⟩=some vl:=(hb1.cell (p:=⟨w.heap.size,2,none⟩) (by simp;omega)).trans d2
    have hB1:Lib.IsBuilder 109 5 (w.heap.size+1) (w.heap.size+1) (Lib.strCells s) W1:=builder_below hBd hb1
    have hsz1:w.heap.size+1<W1.heap.size:=Nat.lt_of_lt_of_le hszd hb1.size
    have hsl:(Lib.strCells s).length+u.graph.size≤140737488355328:=by
     rw[Lib.strCells_length]
     have:p*1048576≤24*1048576:=Nat.mul_le_mul_right _ (by omega)
     omega
    have hWS:=Any.Builder_WriteString Tryz.laysW Tryz.extraW (w.heap.size+1) (w.heap.size+1) (Lib.strCells s) u.graph W1 hB1 hsl (by omega)
    clear hBd hb1 hbd d0 d1 d2 hB1 g0 g1 q2 h2
    go_wp2_with (go_at_call 71;refine hWS.mono ?_)
    rintro e W2 ⟨rfl,hB2,hb3⟩
    have hb4:Below w.heap.size w W2:=hb2.trans (hb3.mono (by omega))
    have m1:W2.cell? ⟨ub,uo+j*2+1,none⟩=some (.slice sA u.segs.length sc):=(hb3.cell (p:=⟨ub,uo+j*2+1,none⟩) (by simp;omega)).trans r1
    have n0:W2.cell? ⟨w.heap.size,0,none⟩=some vn:=(hb3.cell (p:=⟨w.heap.size,0,none⟩) (by simp)).trans k0
    have n1:W2.cell? ⟨w.heap.size,1,none⟩=some (.slice (some ⟨ub,uo,none⟩) us.length ucap):=(hb3.cell (p:=⟨w.heap.size,1,none⟩) (by simp)).trans k1
    have n2:W2.cell? ⟨w.heap.size,2,none⟩=some vl:=(hb3.cell (p:=⟨w.heap.size,2,none⟩) (by simp)).trans k2
    have hsz2:w.heap.size+1<W2.heap.size:=Lib.BuilderAt.lt hB2
    clear hb3 hb2 r0 r1 k0 k1 k2 hWS
    go_wp2
    go_roundw
    case rel=>
     refine⟨p+u.segs.length,s++u.graph,by omega,by go_num,Or.inr ?_,hb4,hsz2,n0,n1,n2,?_,?_⟩
     ·have:Lib.strCells (s++u.graph)=Lib.strCells s++Lib.strCells u.graph:=by simp[Lib.strCells]
      rw[this];exact hB2
     ·rw[ByteArray.size_append]
      have:(p+1)*1048576≤(p+u.segs.length)*1048576:=Nat.mul_le_mul_right _ (by omega)
      rw[Nat.succ_mul]at this
      omega
     ·rw[hF]
      exact spellF_fuel ho wd _ _ _ _ (by omega) (by omega)
    case measure=>simp[intOf];omega
  ·have hlt':((p:Int)<(wd.length:Int))=False:=by simp;omega
   have hz:wd.length - p=0:=by omega
   rw[hz,spellF]at hF
   have hS:=Any.Builder_String_any Tryz.laysB Tryz.extraB (w.heap.size+1) (w.heap.size+1) s.data.toList wr hB (by omega)
   rw[Lib.mk_data]at hS
   go_wp2_with (go_at_call 72;refine hS.mono ?_)
   rintro e W1 ⟨rfl,hb1⟩
   have hb2:Below w.heap.size w W1:=hb.trans (hb1.mono (by omega))
   go_wp2
   refine bodyPost_ret (results_tmp3 rfl _ _ _) rfl ?_
   exact⟨by rw[hF];rfl,hb2⟩
theorem dcalls_below3{P:Program}{f:FuncId}{ds:List D}{u u' u'':Value}(hp:Program.plainF P f=true)(hu:u.oneCell'=true)(hu':u'.oneCell'=true)(hu'':u''.oneCell'=true)
  (h: ∀(w:World) (K:KSet) (vs:Array Value),KOk w K→vs.size=ds.length→(∀(j:Nat) d v,ds[j]? =some d→vs[j]? =some v→VD w (E0 K) d v)→Calls P f vs w fun e w'=>e= .returned (.tuple #[u,u',u''])∧Below w.heap.size w w'):
  DCalls P f ds (.tup [dv (.lit u),dv (.lit u'),dv (.lit u'')]):=by
 unfold DCalls
 refine⟨hp,fun w K vs hk hl hv=>(h w K vs hk hl hv).mono ?_⟩
 rintro e w' ⟨rfl,hb⟩
 have hns: ∀n b o,¬spare ((E0 K).val n) b o:=fun n b o ⟨a,len,cap,h1,_⟩=>by simp[E0]at h1
 refine⟨_,E0 K,rfl,⟨hb,fun _ _ h=>h,fun _ _ _ h=>h,below_kok hk hb,fun n b o hs=>absurd hs (hns n b o),fun n m b o hs=>absurd hs (hns n b o)⟩,.tup _ _ rfl fun j d v h1 h2=>?_⟩
 match j with
 | 0=>simp at h1 h2;subst h1;subst h2;exact .one _ _ (.c _ _ (.lit _ hu))
 | 1=>simp at h1 h2;subst h1;subst h2;exact .one _ _ (.c _ _ (.lit _ hu'))
 | 2=>simp at h1 h2;subst h1;subst h2;exact .one _ _ (.c _ _ (.lit _ hu''))
 | j+3=>simp at h1
theorem spell_D(nm:ByteArray)(us:List Unt)(lt:List (List ByteArray))(wd:List Int)(ho:OkU us)(hl:us.length≤1000000)(hg: ∀u∈us,u.graph.size≤1048576)(hsg: ∀u∈us,u.segs.length≤1048576):
  DCalls Tryz.prog 37 [.agg (ortRow nm us lt),dv (.sl 1 (ints wd))] (.tup [dv (ls (spellE us wd).1),dv (li (spellE us wd).2.1),dv (li (spellE us wd).2.2)]):=by
 have hmax:maxLen=9223372036854775807:=rfl
 by_cases w0:wd.length=0
 ·have t1:((wd.length:Int)==0)=true:=by rw[beq_iff_eq];omega
  unfold spellE
  rw[if_pos w0]
  refine kd (N:=45) (rs:= [.tmp 4,.tmp 5,.tmp 6]) Tryz.func37 ?_
  (repeat'(first|apply kA|apply kB|((first|refine kc (N:=45) ?_|refine kj (N:=45) kq13 ?_|apply kD|apply kE|apply kF);simp +decide only[go_sem,t1])|(apply kG;(simp +decide only[go_sem,t1];rfl);all_goals(intro hcnd;try exact kz hcnd))))
  rfl
 by_cases w1:24<wd.length
 ·have t1:((wd.length:Int)==0)=false:=by rw[beq_eq_false_iff_ne];omega
  have t2:decide ((24:Int)<(wd.length:Int))=true:=by simp;omega
  unfold spellE
  rw[if_neg w0,if_pos w1]
  refine kd (N:=45) (rs:= [.tmp 4,.tmp 5,.tmp 6]) Tryz.func37 ?_
  (repeat'(first|apply kA|apply kB|((first|refine kc (N:=45) ?_|refine kj (N:=45) kq13 ?_|apply kD|apply kE|apply kF);simp +decide only[go_sem,t1,t2])|(apply kG;(simp +decide only[go_sem,t1,t2];rfl);all_goals(intro hcnd;try exact kz hcnd))))
  rfl
 refine dcalls_below3 (by kernel_rfl) rfl rfl rfl fun w K vs hk hs hv=>?_
 obtain⟨va,vb,rfl⟩: ∃va vb,vs= #[va,vb]:=by
  match vs,hs with
  | ⟨[va,vb]⟩,_=>exact⟨va,vb,rfl⟩
 have h0:=hv 0 _ va rfl rfl
 have h1:=hv 1 _ vb rfl rfl
 cases h0 with|agg ts vs hl0 hr0=>
  cases h1 with|one t v h1=>cases h1 with|c c v h1=>
   obtain⟨vn,vu,vl,rfl⟩: ∃vn vu vl,vs= #[vn,vu,vl]:=by
    match vs,hl0 with
    | ⟨[vn,vu,vl]⟩,_=>exact⟨vn,vu,vl,rfl⟩
   have a0:=(hr0 0 _ vn rfl rfl).cl
   have a1:=(hr0 1 _ vu rfl rfl).cl
   have a2:=(hr0 2 _ vl rfl rfl).cl
   rcases h1.sl_inv with⟨_,h⟩|⟨ua,ucap,ucv,rfl,usz,h2,h3,h4,h5⟩
   ·have:wd= []:=by simpa using h
    rw[this]at w0;simp at w0
   have hlen:(ints wd).length=wd.length:=by simp
   rw[hlen]at h2
   obtain⟨ub,uo,usp⟩:=ua
   obtain rfl:usp=none:=(h4 0 (by rw[hlen];omega)).1
   have hcut: ∀p,p<wd.length→VC w K (.sl 1 (ints (wd.drop p))) (.slice (some ⟨ub,uo+p,none⟩) (wd.length - p) (ucap - p)):=fun p hp=>by
    have:=VC.cut (xs:=ints wd) (by omega) usz (by rw[hlen];exact h2) h3 h4 h5 (l:=p) (h:=wd.length) (m:=ucap) (by omega) (by rw[hlen];exact Nat.le_refl _) h2 (Nat.le_refl _)
    rw[if_neg (by omega)]at this
    have e1:(ints wd).take wd.length=ints wd:=List.take_of_length_le (by rw[hlen];exact Nat.le_refl _)
    rw[e1,Nat.mul_one,add_none]at this
    rw[ints,List.map_drop]
    exact this
   have:=spell_calls nm us lt wd ho hl hg hsg hk a0 a1 a2 hcut h2 (by omega) (by omega)
   rwa [← hlen]at this
end Go.Proofs.YtehdkccjaeckhaaGreatDoor
namespace Go.Proofs.YtehdkccjaeckhaaGreatDoor
open Go.Dl Go.RowKit Go.Shelf
attribute [local irreducible] DW DCalls ECalls wk IW
attribute [local go_sem] Oper.semAt_some
theorem get_calls(l:List Ent)(id:Int)(hl:l.length≤1000000){w:World}{K:KSet}(hk:KOk w K){vl:Value}(hv:VC w K (.sl 8 (l.map Ent.enc)) vl):
  Calls Tryz.prog 41 #[vl,.int .i64 id] w fun e w'=>∃(cls:Int) (A1 A3 A5 A6 A7:Option Addr) (n1 c1 n3 c3 n5 c5 n6 c6 n7 c7:Nat),
   e= .returned (.tuple #[.agg #[.int .i64 (getE l id).1.id,.slice A1 n1 c1,.int .i64 cls,.slice A3 n3 c3,.int .i64 (getE l id).1.main,.slice A5 n5 c5,.slice A6 n6 c6,.slice A7 n7 c7],.bool (getE l id).2])∧Below w.heap.size w w':=by
 have hG:=get_D l id hl
 unfold DCalls at hG
 refine(hG.2 w K #[vl,.int .i64 id] hk rfl (fun j d v h1 h2=>by
  match j with
  | 0=>simp at h1 h2;subst h1;subst h2;exact .one _ _ (.c _ _ hv)
  | 1=>simp at h1 h2;subst h1;subst h2;exact .one _ _ (.c _ _ (.lit _ rfl))
  | _+2=>simp at h1)).mono ?_
 rintro e w' ⟨v,E',rfl,hR,hv⟩
 cases hv with|tup ds vs hl hr=>
  obtain⟨va,vb,rfl⟩: ∃va vb,vs= #[va,vb]:=by
   match vs,hl with
   | ⟨[va,vb]⟩,_=>exact⟨va,vb,rfl⟩
  have h0:=hr 0 _ va rfl rfl
  have h1:=(hr 1 _ vb rfl rfl).lit
  subst h1
  cases h0 with|agg ts vs hl0 hr0=>
   obtain⟨v0,v1,v2,v3,v4,v5,v6,v7,rfl⟩: ∃v0 v1 v2 v3 v4 v5 v6 v7,vs= #[v0,v1,v2,v3,v4,v5,v6,v7]:=by
    match vs,hl0 with
    | ⟨[v0,v1,v2,v3,v4,v5,v6,v7]⟩,_=>exact⟨v0,v1,v2,v3,v4,v5,v6,v7,rfl⟩
   have q0:v0=_:=(VD.one _ _ (hr0 0 _ v0 rfl rfl)).lit
   have q2:v2=_:=(VD.one _ _ (hr0 2 _ v2 rfl rfl)).lit
   have q4:v4=_:=(VD.one _ _ (hr0 4 _ v4 rfl rfl)).lit
   obtain⟨A1,c1,q1⟩:=sl_len (hr0 1 _ v1 rfl rfl).cl
   obtain⟨A3,c3,q3⟩:=sl_len (hr0 3 _ v3 rfl rfl).cl
   obtain⟨A5,c5,q5⟩:=sl_len (hr0 5 _ v5 rfl rfl).cl
   obtain⟨A6,c6,q6⟩:=sl_len (hr0 6 _ v6 rfl rfl).cl
   obtain⟨A7,c7,q7⟩:=sl_len (hr0 7 _ v7 rfl rfl).cl
   subst q0 q1 q2 q3 q4 q5 q6 q7
   exact⟨_,_,_,_,_,_,_,_,_,_,_,_,_,_,_,_,rfl,hR.below⟩
set_option maxRecDepth 100000 in
theorem way_calls(A:Option Addr)(n cap:Nat)(id:Int)(w:World):Calls Tryz.prog 138 #[.slice A n cap,.int .i64 id] w fun e w'=>
  e= .returned (.func (.func 161) #[] #[.pointer (some ⟨w.heap.size,0,none⟩),.pointer (some ⟨w.heap.size+1,0,none⟩)])∧w'=(w.alloc (.cells #[.slice A n cap] 34)).alloc (.cells #[.int .i64 id] 3):=by
 go_enter Tryz.func138,Tryz.ntmps138
 go_wp2
 go_ret
 exact⟨rfl,rfl⟩
def endF(l:List Ent):Nat→Int→Int→Int
 | 0,e,_=>e
 | f+1,e,cur=>if(getE l cur).2=false then e else if(getE l cur).1.main=0 then(getE l cur).1.id else endF l f (getE l cur).1.id (getE l cur).1.main
theorem endF_way(l:List Ent): ∀(f:Nat) (e cur:Int),endF l f e cur=((wayF l f cur).getLast?.map (·.id)).getD e
 | 0,e,cur=>rfl
 | f+1,e,cur=>by
  simp only[endF,wayF]
  by_cases h:(getE l cur).2=false
  ·rw[if_pos h,if_pos h];rfl
  ·rw[if_neg h,if_neg h]
   by_cases h2:(getE l cur).1.main=0
   ·rw[if_pos h2,if_pos h2];rfl
   ·rw[if_neg h2,if_neg h2,endF_way l f]
    cases hw:wayF l f (getE l cur).1.main with
    | nil=>rfl
    | cons x r=>
     rw[List.getLast?_cons_cons]
     obtain⟨y,hy⟩: ∃y,(x::r).getLast? =some y:=by
      cases e:(x::r).getLast? with
      | none=>simp at e
      | some y=>exact⟨y,rfl⟩
     rw[hy];rfl
theorem endF_main(l:List Ent)(id:Int):mainE l id=endF l (l.length+1) 0 id:=(endF_way l _ 0 id).symm
structure LInv(w:World)(vl:Value)(o:Obj)(W:World)(e0 cur:Int):Prop where
 below:Below w.heap.size w W
 res:W.heap[w.heap.size]? =some (.cells #[.int .i64 0,.slice none 0 0,.int .i64 0,.slice none 0 0,.int .i64 0,.slice none 0 0,.slice none 0 0,.slice none 0 0] 54 (0,0))
 met: ∃(cls main:Int) (A1 A3 A5 A6 A7:Option Addr) (n1 c1 n3 c3 n5 c5 n6 c6 n7 c7:Nat),W.heap[w.heap.size+1]? =some (.cells #[.int .i64 e0,.slice A1 n1 c1,.int .i64 cls,.slice A3 n3 c3,.int .i64 main,.slice A5 n5 c5,.slice A6 n6 c6,.slice A7 n7 c7] 54 (0,0))
 cnt: ∃n:Int,W.heap[w.heap.size+1+1]? =some (.cells #[.int .i64 n] 3 (0,0))
 lst:W.heap[w.heap.size+1+1+1]? =some (.cells #[vl] 34 (0,0))
 idb:W.heap[w.heap.size+1+1+1+1]? =some (.cells #[.int .i64 cur] 3 (0,0))
 dfr:W.heap[w.heap.size+1+1+1+1+1]? =some (.deferred (some []))
 loop:W.heap[w.heap.size+1+1+1+1+1+1]? =some o
theorem LInv.size{w:World}{vl:Value}{o:Obj}{W:World}{e0 cur:Int}(h:LInv w vl o W e0 cur):w.heap.size+7≤W.heap.size:=by
 have:=(Array.getElem?_eq_some_iff.1 h.loop).1
 omega
theorem LInv.step{w:World}{vl:Value}{o:Obj}{W W':World}{e0 cur:Int}(h:LInv w vl o W e0 cur)(hb:Below W.heap.size W W'):LInv w vl o W' e0 cur:=by
 have hs:=h.size
 have k: ∀b,b<w.heap.size+7→W'.heap[b]? =W.heap[b]? :=fun b hlt=>hb.block b (by omega)
 exact⟨h.below.trans (hb.mono (by omega)),(k _ (by omega)).trans h.res,h.met.imp fun _=>Exists.imp fun _=>Exists.imp fun _=>Exists.imp fun _=>Exists.imp fun _=>Exists.imp fun _=>Exists.imp fun _=>Exists.imp fun _=>Exists.imp fun _=>Exists.imp fun _=>Exists.imp fun _=>Exists.imp fun _=>Exists.imp fun _=>Exists.imp fun _=>Exists.imp fun _=>Exists.imp fun _=>Exists.imp fun _ h=>(k _ (by omega)).trans h,
  h.cnt.imp fun _ h=>(k _ (by omega)).trans h,(k _ (by omega)).trans h.lst,(k _ (by omega)).trans h.idb,(k _ (by omega)).trans h.dfr,(k _ (by omega)).trans h.loop⟩
theorem alloc_at(w:World)(o:Obj)(b:Nat):(w.alloc o).heap[b]? =if b=w.heap.size then some o else w.heap[b]? :=by
 by_cases h:b=w.heap.size
 ·subst h;rw[if_pos rfl];exact World.alloc_heap_new w o
 ·rw[if_neg h]
  rcases Nat.lt_or_ge b w.heap.size with h1|h1
  ·exact Below.heap_alloc w o b h1
  ·rw[Array.getElem?_eq_none h1,Array.getElem?_eq_none (by rw[World.size_alloc];omega)]
theorem rangeFunc_outer{P:Program}{g:Operand}{ps:Array Tmp}{assign body:Code}{Q:Exit→Act→World→Prop}{a:Act}{w:World}{gf:FuncId}{caps:Array Value}(hg:a.eval g= .func (.func gf) #[] caps)(hp:Program.plainF P gf=true)
  (h: ∀fn,CallsIn Fence.wide 0 P gf (#[.func (.yield (w.heap.size+1)) #[] #[]]++caps) ((w.alloc (.deferred (some []))).alloc (.loop { state:=.ready,pending:=none,fn,tmps:=a.tmps,params:=ps,assign,body,defers:=w.heap.size }))
   (rangePost Fence.wide 0 P (w.heap.size+1) Q { a with defers:= [{ target:=.collected w.heap.size,args:= #[] }]++a.defers })):(Code.rangeFunc g ps assign body).wpIn Fence.wide 0 P Q a w:=by
 refine wpIn_rangeFunc ?_
 intro fn _
 have h:=h fn
 obtain⟨W1,hW1⟩: ∃W1,(w.alloc (.deferred (some []))).alloc (.loop { state:=.ready,pending:=none,fn,tmps:=a.tmps,params:=ps,assign,body,defers:=w.heap.size })=W1:=⟨_,rfl⟩
 rw[hW1]at h
 refine⟨w.heap.size+1,[{ target:=.collected w.heap.size,args:= #[] }],W1,{ target:=.fn (.func gf) caps,args:= #[.func (.yield (w.heap.size+1)) #[] #[]] },W1,gf,#[.func (.yield (w.heap.size+1)) #[] #[]]++caps,W1,?_,?_,fun _ _=>trivial,?_,fun h=>(by cases h),?_⟩
 rotate_right
 ·show CallsIn Fence.wide 0 P gf _ W1 _
  exact h
 ·rw[← hW1];exact run_enterLoop_outer _ _ _ _ _
 ·have h:=resolve_value (P:=P) a.eval g #[.const (.func (.yield (w.heap.size+1)) #[] #[])] #[] 0 gf caps hg W1
  have e:Array.map a.eval #[.const (.func (.yield (w.heap.size+1)) #[] #[])]= #[.func (.yield (w.heap.size+1)) #[] #[]]:=by simp[Act.eval]
  rw[e]at h
  exact h
 ·exact plainF_ok hp _ W1
theorem setCell_same{w:World}{b:Nat}{cs:Array Value}{T:TypeId}{fz:Nat×Nat}(h:w.heap[b]? =some (.cells cs T fz))(j:Nat)(v:Value):(w.setCell ⟨b,j,none⟩ v).heap[b]? =some (.cells (cs.setIfInBounds j v) T fz):=by
 simp[World.setCell,Array.getElem?_modify,h]
theorem setCell_other{w:World}{c j b:Nat}(v:Value)(h:b≠c):(w.setCell ⟨c,j,none⟩ v).heap[b]? =w.heap[b]? :=Below.heap_setCell w ⟨c,j,none⟩ v b h
theorem LInv.setId{w:World}{vl:Value}{o:Obj}{W:World}{e0 cur:Int}(h:LInv w vl o W e0 cur)(x:Int):LInv w vl o (W.setCell ⟨w.heap.size+1+1+1+1,0,none⟩ (.int .i64 x)) e0 x:=by
 have k: ∀b,b≠w.heap.size+1+1+1+1→(W.setCell ⟨w.heap.size+1+1+1+1,0,none⟩ (.int .i64 x)).heap[b]? =W.heap[b]? :=fun b hb=>setCell_other _ hb
 exact⟨h.below.setCell (p:=⟨w.heap.size+1+1+1+1,0,none⟩) (by simp;omega) _,(k _ (by omega)).trans h.res,h.met.imp fun _=>Exists.imp fun _=>Exists.imp fun _=>Exists.imp fun _=>Exists.imp fun _=>Exists.imp fun _=>Exists.imp fun _=>Exists.imp fun _=>Exists.imp fun _=>Exists.imp fun _=>Exists.imp fun _=>Exists.imp fun _=>Exists.imp fun _=>Exists.imp fun _=>Exists.imp fun _=>Exists.imp fun _=>Exists.imp fun _ h=>(k _ (by omega)).trans h,
  h.cnt.imp fun _ h=>(k _ (by omega)).trans h,(k _ (by omega)).trans h.lst,setCell_same h.idb 0 _,(k _ (by omega)).trans h.dfr,(k _ (by omega)).trans h.loop⟩
def Rounds(w:World)(vl:Value)(o:Obj):Prop:=∀(W:World) (e0 cur id' cls main:Int) (A1 A3 A5 A6 A7:Option Addr) (n1 c1 n3 c3 n5 c5 n6 c6 n7 c7:Nat),LInv w vl o W e0 cur→
 YieldAt Fence.wide 0 Tryz.prog (w.heap.size+1+1+1+1+1+1) #[.agg #[.int .i64 id',.slice A1 n1 c1,.int .i64 cls,.slice A3 n3 c3,.int .i64 main,.slice A5 n5 c5,.slice A6 n6 c6,.slice A7 n7 c7]] W
  fun e W'=>e= .returned (.bool true)∧LInv w vl o W' id' cur∧(∀b,w.heap.size+7≤b→b<W.heap.size→W'.heap[b]? =W.heap[b]?)
set_option maxRecDepth 100000 in
theorem way1_calls(l:List Ent)(hl:l.length≤1000000){w:World}{K:KSet}(hk:KOk w K){A:Option Addr}{cap:Nat}(hv:VC w K (.sl 8 (l.map Ent.enc)) (.slice A l.length cap))(o:Obj)(hR:Rounds w (.slice A l.length cap) o)(W0:World)(id:Int)(h0:LInv w (.slice A l.length cap) o W0 0 id):
  CallsIn Fence.wide 0 Tryz.prog 161 #[.func (.yield (w.heap.size+1+1+1+1+1+1)) #[] #[],.pointer (some ⟨w.heap.size+1+1+1,0,none⟩),.pointer (some ⟨w.heap.size+1+1+1+1,0,none⟩)] W0
   fun e W'=>(∃v,e= .returned v)∧∃cur,LInv w (.slice A l.length cap) o W' (mainE l id) cur:=by
 have cl0:=Lib.cell_of_heap h0.lst 0
 have hw1:IntKind.i64.wrap ((l.length:Int)+1)=((l.length+1:Nat):Int):=wrap_succ _ (by unfold maxLen;omega)
 refine callsIn_of_wp Tryz.func161 rfl trivial ?_
 simp only[Tryz.ntmps161,List.size_toArray,List.length_cons,List.length_nil,Nat.reduceAdd,Nat.reduceSub,Array.replicate_succ,Array.replicate_zero,List.push_toArray,List.append_toArray,List.nil_append,List.cons_append]
 gi_wp2
 gi_loopw [9] (fun i wr=>∃(k:Nat) (e0 cur:Int),k≤l.length+1∧i= .int .i64 k∧LInv w (.slice A l.length cap) o wr e0 cur∧mainE l id=endF l (l.length+1 - k) e0 cur)
   (fun i _=>l.length+1 - (intOf i).toNat)
 case atStart=>exact⟨0,0,id,Nat.zero_le _,rfl,h0,endF_main l id⟩
 case round=>
  obtain⟨k,e0,cur,hkl,rfl,hI,hE⟩:=hrel
  clear cl0 h0
  by_cases hlt:k<l.length+1
  ·have hlt':((k:Int)<(l.length:Int)+1)=True:=by simp;omega
   have cA:=Lib.cell_of_heap hI.lst 0
   have cB:=Lib.cell_of_heap hI.idb 0
   have fB:=Lib.frozen_of_heap hI.idb 0
   simp only[List.getElem?_toArray,List.getElem?_cons_zero]at cA cB
   have hk1:KOk wr K:=below_kok hk hI.below
   have hv1:VC wr K (.sl 8 (l.map Ent.enc)) (.slice A l.length cap):=hv.mono fun b o hK=>⟨hK,hI.below.cell (p:=⟨b,o,none⟩) (lt_of_cell (hk b o hK))⟩
   have hG:=get_calls l cur hl hk1 hv1
   obtain⟨f,hf⟩: ∃f,l.length+1 - k=f+1:=⟨l.length - k,by omega⟩
   rw[hf,endF]at hE
   cases hg:(getE l cur).2
   ·rw[hg]at hE hG
    rw[if_pos rfl]at hE
    gi_wp2_with (refine⟨trivial,rfl,?_⟩;gi_at_call 41;refine(callsIn_wide (n:=0)).2 (hG.mono ?_))
    rintro e W1 ⟨cls,A1,A3,A5,A6,A7,n1,c1,n3,c3,n5,c5,n6,c6,n7,c7,rfl,hb⟩
    have hI1:=hI.step hb
    gi_wp2
    refine⟨fun _ h=>(by cases h),?_⟩
    have hI2:=hI1.step ((Below.refl _ W1).alloc (Nat.le_refl _) (.cells #[.int .i64 (getE l cur).1.id,.slice A1 n1 c1,.int .i64 cls,.slice A3 n3 c3,.int .i64 (getE l cur).1.main,.slice A5 n5 c5,.slice A6 n6 c6,.slice A7 n7 c7] 54))
    gi_wp2
    refine bodyPost_ret (results_none rfl _ _ _) rfl ?_
    exact⟨⟨_,rfl⟩,cur,by rw[hE];exact hI2⟩
   ·rw[hg]at hE hG
    rw[if_neg (by decide)]at hE
    gi_wp2_with (refine⟨trivial,rfl,?_⟩;gi_at_call 41;refine(callsIn_wide (n:=0)).2 (hG.mono ?_))
    rintro e W1 ⟨cls,A1,A3,A5,A6,A7,n1,c1,n3,c3,n5,c5,n6,c6,n7,c7,rfl,hb⟩
    have hI1:=hI.step hb
    have hI2:=hI1.step ((Below.refl _ W1).alloc (Nat.le_refl _) (.cells #[.int .i64 (getE l cur).1.id,.slice A1 n1 c1,.int .i64 cls,.slice A3 n3 c3,.int .i64 (getE l cur).1.main,.slice A5 n5 c5,.slice A6 n6 c6,.slice A7 n7 c7] 54))
    have hs1:=hI1.size
    obtain⟨fn,tmps,assign,body,hy,hRd⟩:=hR _ e0 cur (getE l cur).1.id cls (getE l cur).1.main A1 A3 A5 A6 A7 n1 c1 n3 c3 n5 c5 n6 c6 n7 c7 hI2
    generalize hid:(getE l cur).1.id=id' at*
    generalize hmn:(getE l cur).1.main=mn at*
    gi_wp2
    refine⟨rfl,hRd.mono ?_⟩
    rintro e W3 ⟨rfl,hI3,hk3⟩
    have hblk:=(hk3 W1.heap.size (by omega) (by simp)).trans (World.alloc_heap_new W1 _)
    have c4:=Lib.cell_of_heap hblk 4
    have d1:=Lib.cell_of_heap hI3.idb 0
    have g1:=Lib.frozen_of_heap hI3.idb 0
    simp only[List.getElem?_toArray,List.getElem?_cons_zero,List.getElem?_cons_succ]at c4 d1
    clear hk3 hblk hRd hy hI2 hI1 hI cA cB fB hG hb
    by_cases h0:mn=0
    ·rw[if_pos h0]at hE
     subst h0
     gi_wp2
     refine bodyPost_ret (results_none rfl _ _ _) rfl ?_
     exact⟨⟨_,rfl⟩,cur,by rw[hE];exact hI3⟩
    ·rw[if_neg h0]at hE
     have hI4:=hI3.setId mn
     gi_wp2
     exact⟨⟨k+1,id',mn,by omega,by rw[Int.natCast_add];rfl,hI4,by rw[hE,show l.length+1 - (k+1)=f by omega]⟩,by simp[intOf];omega⟩
  ·have hlt':((k:Int)<(l.length:Int)+1)=False:=by simp;omega
   have hz:l.length+1 - k=0:=by omega
   rw[hz,endF]at hE
   gi_wp2
   go_end0
   exact⟨⟨_,rfl⟩,cur,by rw[hE];exact hI⟩
structure HidP(p:Prop):Prop where
 out:p
theorem hid_in{p:Prop}(h:p):HidP p:=⟨h⟩
theorem met_facts{w Wb:World}{e0 cls0 main0 n:Int}{B1 B3 B5 B6 B7:Option Addr}{m1 d1 m3 d3 m5 d5 m6 d6 m7 d7:Nat}
  (f6:Wb.heap[w.heap.size+1]? =some (.cells #[.int .i64 e0,.slice B1 m1 d1,.int .i64 cls0,.slice B3 m3 d3,.int .i64 main0,.slice B5 m5 d5,.slice B6 m6 d6,.slice B7 m7 d7] 54 (0,0)))
  (f7:Wb.heap[w.heap.size+1+1]? =some (.cells #[.int .i64 n] 3 (0,0))) (id' cls main:Int) (A1 A3 A5 A6 A7:Option Addr) (n1 c1 n3 c3 n5 c5 n6 c6 n7 c7:Nat) (Wc:World) (hWc:(((((((((Wb.setCell ⟨w.heap.size+1,0,none⟩ (.int .i64 id')).setCell ⟨w.heap.size+1,1,none⟩ (.slice A1 n1 c1)).setCell ⟨w.heap.size+1,2,none⟩ (.int .i64 cls)).setCell ⟨w.heap.size+1,3,none⟩ (.slice A3 n3 c3)).setCell ⟨w.heap.size+1,4,none⟩ (.int .i64 main)).setCell ⟨w.heap.size+1,5,none⟩ (.slice A5 n5 c5)).setCell ⟨w.heap.size+1,6,none⟩ (.slice A6 n6 c6)).setCell ⟨w.heap.size+1,7,none⟩ (.slice A7 n7 c7)).setCell ⟨w.heap.size+1+1,0,none⟩ (.int .i64 (IntKind.i64.wrap (n+1)))).drew=Wc):
  (∀b,b≠w.heap.size+1→b≠w.heap.size+1+1→Wc.heap[b]? =Wb.heap[b]?)∧Wc.heap[w.heap.size+1]? =some (.cells #[.int .i64 id',.slice A1 n1 c1,.int .i64 cls,.slice A3 n3 c3,.int .i64 main,.slice A5 n5 c5,.slice A6 n6 c6,.slice A7 n7 c7] 54 (0,0))∧
   Wc.heap[w.heap.size+1+1]? =some (.cells #[.int .i64 (IntKind.i64.wrap (n+1))] 3 (0,0))∧Below w.heap.size Wb Wc∧Wc.heap.size=Wb.heap.size:=by
 have st: ∀(X Y:World) (c j:Nat) (v:Value),w.heap.size≤c→X.setCell ⟨c,j,none⟩ v=Y→(∀b,b≠c→Y.heap[b]? =X.heap[b]?)∧Below w.heap.size X Y∧Y.heap.size=X.heap.size∧(∀(cs:Array Value) (T:TypeId) (fz:Nat×Nat),X.heap[c]? =some (.cells cs T fz)→Y.heap[c]? =some (.cells (cs.setIfInBounds j v) T fz)):=by
  rintro X Y c j v hc rfl
  exact⟨fun b hb=>setCell_other v hb,(Below.refl _ X).setCell (p:=⟨c,j,none⟩) hc v,by simp[World.setCell],fun cs T fz h=>setCell_same h j v⟩
 obtain⟨X1,h1⟩: ∃X,Wb.setCell ⟨w.heap.size+1,0,none⟩ (.int .i64 id')=X:=⟨_,rfl⟩
 rw[h1]at hWc
 obtain⟨o1,b1,s1,k1⟩:=st _ _ _ _ _ (by omega) h1
 obtain⟨X2,h2⟩: ∃X,X1.setCell ⟨w.heap.size+1,1,none⟩ (.slice A1 n1 c1)=X:=⟨_,rfl⟩
 rw[h2]at hWc
 obtain⟨o2,b2,s2,k2⟩:=st _ _ _ _ _ (by omega) h2
 obtain⟨X3,h3⟩: ∃X,X2.setCell ⟨w.heap.size+1,2,none⟩ (.int .i64 cls)=X:=⟨_,rfl⟩
 rw[h3]at hWc
 obtain⟨o3,b3,s3,k3⟩:=st _ _ _ _ _ (by omega) h3
 obtain⟨X4,h4⟩: ∃X,X3.setCell ⟨w.heap.size+1,3,none⟩ (.slice A3 n3 c3)=X:=⟨_,rfl⟩
 rw[h4]at hWc
 obtain⟨o4,b4,s4,k4⟩:=st _ _ _ _ _ (by omega) h4
 obtain⟨X5,h5⟩: ∃X,X4.setCell ⟨w.heap.size+1,4,none⟩ (.int .i64 main)=X:=⟨_,rfl⟩
 rw[h5]at hWc
 obtain⟨o5,b5,s5,k5⟩:=st _ _ _ _ _ (by omega) h5
 obtain⟨X6,h6⟩: ∃X,X5.setCell ⟨w.heap.size+1,5,none⟩ (.slice A5 n5 c5)=X:=⟨_,rfl⟩
 rw[h6]at hWc
 obtain⟨o6,b6,s6,k6⟩:=st _ _ _ _ _ (by omega) h6
 obtain⟨X7,h7⟩: ∃X,X6.setCell ⟨w.heap.size+1,6,none⟩ (.slice A6 n6 c6)=X:=⟨_,rfl⟩
 rw[h7]at hWc
 obtain⟨o7,b7,s7,k7⟩:=st _ _ _ _ _ (by omega) h7
 obtain⟨X8,h8⟩: ∃X,X7.setCell ⟨w.heap.size+1,7,none⟩ (.slice A7 n7 c7)=X:=⟨_,rfl⟩
 rw[h8]at hWc
 obtain⟨o8,b8,s8,k8⟩:=st _ _ _ _ _ (by omega) h8
 obtain⟨X9,h9⟩: ∃X,X8.setCell ⟨w.heap.size+1+1,0,none⟩ (.int .i64 (IntKind.i64.wrap (n+1)))=X:=⟨_,rfl⟩
 rw[h9]at hWc
 obtain⟨o9,b9,s9,k9⟩:=st _ _ _ _ _ (by omega) h9
 have hd:X9.drew.heap=X9.heap:=rfl
 rw[hWc]at hd
 have hne:w.heap.size+1+1≠w.heap.size+1:=by omega
 have gO: ∀b,b≠w.heap.size+1→b≠w.heap.size+1+1→Wc.heap[b]? =Wb.heap[b]? :=fun b b1 b2=>by
  rw[hd,o9 b b2,o8 b b1,o7 b b1,o6 b b1,o5 b b1,o4 b b1,o3 b b1,o2 b b1,o1 b b1]
 have gE:Wc.heap[w.heap.size+1]? =some (.cells #[.int .i64 id',.slice A1 n1 c1,.int .i64 cls,.slice A3 n3 c3,.int .i64 main,.slice A5 n5 c5,.slice A6 n6 c6,.slice A7 n7 c7] 54 (0,0)):=by
  rw[hd,o9 _ hne.symm]
  have:=k8 _ _ _ (k7 _ _ _ (k6 _ _ _ (k5 _ _ _ (k4 _ _ _ (k3 _ _ _ (k2 _ _ _ (k1 _ _ _ f6)))))))
  simp only[List.setIfInBounds_toArray,List.set_cons_succ,List.set_cons_zero]at this
  exact this
 have gN:Wc.heap[w.heap.size+1+1]? =some (.cells #[.int .i64 (IntKind.i64.wrap (n+1))] 3 (0,0)):=by
  rw[hd]
  have:=k9 _ _ _ ((o8 _ hne).trans ((o7 _ hne).trans ((o6 _ hne).trans ((o5 _ hne).trans ((o4 _ hne).trans ((o3 _ hne).trans ((o2 _ hne).trans ((o1 _ hne).trans f7))))))))
  simp only[List.setIfInBounds_toArray,List.set_cons_zero]at this
  exact this
 have gB:Below w.heap.size Wb Wc:=hWc▸(b1.trans (b2.trans (b3.trans (b4.trans (b5.trans (b6.trans (b7.trans (b8.trans b9)))))))).drew
 have gS:Wc.heap.size=Wb.heap.size:=by rw[hd,s9,s8,s7,s6,s5,s4,s3,s2,s1]
 exact⟨gO,gE,gN,gB,gS⟩
theorem res_facts{w Wb:World}{u0 u1 u2 u3 u4 u5 u6 u7:Value}(f4:Wb.heap[w.heap.size]? =some (.cells #[u0,u1,u2,u3,u4,u5,u6,u7] 54 (0,0)))(v0 v1 v2 v3 v4 v5 v6 v7:Value)(Wc:World)(hWc:((((((((Wb.setCell ⟨w.heap.size,0,none⟩ v0).setCell ⟨w.heap.size,1,none⟩ v1).setCell ⟨w.heap.size,2,none⟩ v2).setCell ⟨w.heap.size,3,none⟩ v3).setCell ⟨w.heap.size,4,none⟩ v4).setCell ⟨w.heap.size,5,none⟩ v5).setCell ⟨w.heap.size,6,none⟩ v6).setCell ⟨w.heap.size,7,none⟩ v7).drew=Wc):
  (∀b,b≠w.heap.size→Wc.heap[b]? =Wb.heap[b]?)∧Wc.heap[w.heap.size]? =some (.cells #[v0,v1,v2,v3,v4,v5,v6,v7] 54 (0,0))∧Below w.heap.size Wb Wc:=by
 have st: ∀(X Y:World) (c j:Nat) (v:Value),w.heap.size≤c→X.setCell ⟨c,j,none⟩ v=Y→(∀b,b≠c→Y.heap[b]? =X.heap[b]?)∧Below w.heap.size X Y∧(∀(cs:Array Value) (T:TypeId) (fz:Nat×Nat),X.heap[c]? =some (.cells cs T fz)→Y.heap[c]? =some (.cells (cs.setIfInBounds j v) T fz)):=by
  rintro X Y c j v hc rfl
  exact⟨fun b hb=>setCell_other v hb,(Below.refl _ X).setCell (p:=⟨c,j,none⟩) hc v,fun cs T fz h=>setCell_same h j v⟩
 obtain⟨X1,h1⟩: ∃X,Wb.setCell ⟨w.heap.size,0,none⟩ v0=X:=⟨_,rfl⟩
 rw[h1]at hWc
 obtain⟨o1,b1,k1⟩:=st _ _ _ _ _ (Nat.le_refl _) h1
 obtain⟨X2,h2⟩: ∃X,X1.setCell ⟨w.heap.size,1,none⟩ v1=X:=⟨_,rfl⟩
 rw[h2]at hWc
 obtain⟨o2,b2,k2⟩:=st _ _ _ _ _ (Nat.le_refl _) h2
 obtain⟨X3,h3⟩: ∃X,X2.setCell ⟨w.heap.size,2,none⟩ v2=X:=⟨_,rfl⟩
 rw[h3]at hWc
 obtain⟨o3,b3,k3⟩:=st _ _ _ _ _ (Nat.le_refl _) h3
 obtain⟨X4,h4⟩: ∃X,X3.setCell ⟨w.heap.size,3,none⟩ v3=X:=⟨_,rfl⟩
 rw[h4]at hWc
 obtain⟨o4,b4,k4⟩:=st _ _ _ _ _ (Nat.le_refl _) h4
 obtain⟨X5,h5⟩: ∃X,X4.setCell ⟨w.heap.size,4,none⟩ v4=X:=⟨_,rfl⟩
 rw[h5]at hWc
 obtain⟨o5,b5,k5⟩:=st _ _ _ _ _ (Nat.le_refl _) h5
 obtain⟨X6,h6⟩: ∃X,X5.setCell ⟨w.heap.size,5,none⟩ v5=X:=⟨_,rfl⟩
 rw[h6]at hWc
 obtain⟨o6,b6,k6⟩:=st _ _ _ _ _ (Nat.le_refl _) h6
 obtain⟨X7,h7⟩: ∃X,X6.setCell ⟨w.heap.size,6,none⟩ v6=X:=⟨_,rfl⟩
 rw[h7]at hWc
 obtain⟨o7,b7,k7⟩:=st _ _ _ _ _ (Nat.le_refl _) h7
 obtain⟨X8,h8⟩: ∃X,X7.setCell ⟨w.heap.size,7,none⟩ v7=X:=⟨_,rfl⟩
 rw[h8]at hWc
 obtain⟨o8,b8,k8⟩:=st _ _ _ _ _ (Nat.le_refl _) h8
 have hd:X8.drew.heap=X8.heap:=rfl
 rw[hWc]at hd
 refine⟨fun b b1=>by rw[hd,o8 b b1,o7 b b1,o6 b b1,o5 b b1,o4 b b1,o3 b b1,o2 b b1,o1 b b1],?_,hWc▸(b1.trans (b2.trans (b3.trans (b4.trans (b5.trans (b6.trans (b7.trans b8))))))).drew⟩
 rw[hd]
 have:=k8 _ _ _ (k7 _ _ _ (k6 _ _ _ (k5 _ _ _ (k4 _ _ _ (k3 _ _ _ (k2 _ _ _ (k1 _ _ _ f4)))))))
 simp only[List.setIfInBounds_toArray,List.set_cons_succ,List.set_cons_zero]at this
 exact this
set_option maxRecDepth 100000 in
theorem last_calls(l:List Ent)(id:Int)(hl:l.length≤1000000){w:World}{K:KSet}(hk:KOk w K){A:Option Addr}{cap:Nat}(hv:VC w K (.sl 8 (l.map Ent.enc)) (.slice A l.length cap)):
  Calls Tryz.prog 116 #[.slice A l.length cap,.int .i64 id] w fun e w'=>∃(cls main n:Int) (A1 A3 A5 A6 A7:Option Addr) (n1 c1 n3 c3 n5 c5 n6 c6 n7 c7:Nat),
   e= .returned (.tuple #[.agg #[.int .i64 (mainE l id),.slice A1 n1 c1,.int .i64 cls,.slice A3 n3 c3,.int .i64 main,.slice A5 n5 c5,.slice A6 n6 c6,.slice A7 n7 c7],.int .i64 n])∧Below w.heap.size w w':=by
 refine(callsIn_wide (n:=0)).1 ?_
 refine callsIn_of_wp_marks Tryz.func116 rfl trivial ?_ rfl
 simp only[Tryz.ntmps116,List.size_toArray,List.length_cons,List.length_nil,Nat.reduceAdd,Nat.reduceSub,Array.replicate_succ,Array.replicate_zero,List.push_toArray,List.append_toArray,List.nil_append,List.cons_append]
 gi_wp2
 refine⟨trivial,rfl,(callsIn_wide (n:=0)).2 ((way_calls _ _ _ _ _).mono ?_)⟩
 rintro e w' ⟨rfl,rfl⟩
 gi_wp2
 refine rangeFunc_outer (gf:=161) (caps:= #[.pointer (some ⟨w.heap.size+1+1+1,0,none⟩),.pointer (some ⟨w.heap.size+1+1+1+1,0,none⟩)]) rfl (by kernel_rfl) fun fn=>?_
 simp only[World.size_alloc]
 generalize hrec:(Loop.mk _ _ _ _ _ _ _ _)=rec
 have h0:LInv w (.slice A l.length cap) (.loop rec) (((((((w.alloc (.cells #[.int .i64 0,.slice none 0 0,.int .i64 0,.slice none 0 0,.int .i64 0,.slice none 0 0,.slice none 0 0,.slice none 0 0] 54)).alloc (.cells #[.int .i64 0,.slice none 0 0,.int .i64 0,.slice none 0 0,.int .i64 0,.slice none 0 0,.slice none 0 0,.slice none 0 0] 54)).alloc
   (.cells #[.int .i64 0] 3)).alloc (.cells #[.slice A l.length cap] 34)).alloc (.cells #[.int .i64 id] 3)).alloc (.deferred (some []))).alloc (.loop rec)) 0 id:=by
  refine⟨?_,?_,⟨0,0,none,none,none,none,none,0,0,0,0,0,0,0,0,0,0,?_⟩,⟨0,?_⟩,?_,?_,?_,?_⟩
  ·exact(((((((Below.refl _ w).alloc (Nat.le_refl _) _).alloc (by simp) _).alloc (by simp;omega) _).alloc (by simp;omega) _).alloc (by simp;omega) _).alloc (by simp;omega) _).alloc (by simp;omega) _
  all_goals(simp only[alloc_at,World.size_alloc];repeat(first|rw[if_pos rfl]|rw[if_neg (by omega)]))
  all_goals rfl
 refine(way1_calls l hl hk hv (.loop rec) ?_ _ id h0).mono ?_
 ·intro W e0 cur id' cls main A1 A3 A5 A6 A7 n1 c1 n3 c3 n5 c5 n6 c6 n7 c7 hI
  have hy:=run_yield (P:=Tryz.prog) (args:= #[.agg #[.int .i64 id',.slice A1 n1 c1,.int .i64 cls,.slice A3 n3 c3,.int .i64 main,.slice A5 n5 c5,.slice A6 n6 c6,.slice A7 n7 c7]]) hI.loop (by rw[← hrec];rfl)
  refine⟨_,_,_,_,hy,?_⟩
  clear hy
  refine roundIn_of_wpIn trivial ?_
  have hs:=hI.size
  have hlp:=hI.loop
  subst hrec
  dsimp only[List.foldl_cons,Array.zip,Array.foldl]
  obtain⟨cls0,main0,B1,B3,B5,B6,B7,m1,d1,m3,d3,m5,d5,m6,d6,m7,d7,hmet⟩:=hI.met
  obtain⟨n,hcnt⟩:=hI.cnt
  gi_wp2
  generalize hrr:(Loop.mk _ _ _ _ _ _ _ _)=R at hlp ⊢
  have hst:R.state= .ready:=by rw[← hrr]
  have hpe:R.pending=none:=by rw[← hrr]
  have hlp1:=(Below.heap_alloc W (.cells #[.int .i64 id',.slice A1 n1 c1,.int .i64 cls,.slice A3 n3 c3,.int .i64 main,.slice A5 n5 c5,.slice A6 n6 c6,.slice A7 n7 c7] 54) _ (by omega)).trans hlp
  refine⟨_,run_beginRound hlp1 hst,?_⟩
  have hbW:Below W.heap.size W (W.alloc (.cells #[.int .i64 id',.slice A1 n1 c1,.int .i64 cls,.slice A3 n3 c3,.int .i64 main,.slice A5 n5 c5,.slice A6 n6 c6,.slice A7 n7 c7] 54)):=(Below.refl _ W).alloc (Nat.le_refl _) _
  have hnew:=World.alloc_heap_new W (.cells #[.int .i64 id',.slice A1 n1 c1,.int .i64 cls,.slice A3 n3 c3,.int .i64 main,.slice A5 n5 c5,.slice A6 n6 c6,.slice A7 n7 c7] 54)
  have hsa:(W.alloc (.cells #[.int .i64 id',.slice A1 n1 c1,.int .i64 cls,.slice A3 n3 c3,.int .i64 main,.slice A5 n5 c5,.slice A6 n6 c6,.slice A7 n7 c7] 54)).heap.size=W.heap.size+1:=World.size_alloc _ _
  generalize W.alloc (.cells #[.int .i64 id',.slice A1 n1 c1,.int .i64 cls,.slice A3 n3 c3,.int .i64 main,.slice A5 n5 c5,.slice A6 n6 c6,.slice A7 n7 c7] 54)=Wa at hlp1 hbW hnew hsa ⊢
  have h2: ∀b,b≠w.heap.size+1+1+1+1+1+1→(Wa.putObj (w.heap.size+1+1+1+1+1+1) (.loop { R with state:=.busy })).heap[b]? =Wa.heap[b]? :=fun b hb=>World.putObj_heap_other hb
  have h3:(Wa.putObj (w.heap.size+1+1+1+1+1+1) (.loop { R with state:=.busy })).heap[w.heap.size+1+1+1+1+1+1]? =some (.loop { R with state:=.busy }):=World.putObj_heap_same (by omega)
  have h4:(Wa.putObj (w.heap.size+1+1+1+1+1+1) (.loop { R with state:=.busy })).heap.size=Wa.heap.size:=by simp
  have h5:Below w.heap.size Wa (Wa.putObj (w.heap.size+1+1+1+1+1+1) (.loop { R with state:=.busy })):=⟨rfl,rfl,rfl,by simp,fun b hb=>h2 b (by omega)⟩
  generalize Wa.putObj (w.heap.size+1+1+1+1+1+1) (.loop { R with state:=.busy })=Wb at h2 h3 h4 h5 ⊢
  have f8:=(h2 W.heap.size (by omega)).trans hnew
  have f6:=((h2 (w.heap.size+1) (by omega)).trans (hbW.block _ (by omega))).trans hmet
  have f7:=((h2 (w.heap.size+1+1) (by omega)).trans (hbW.block _ (by omega))).trans hcnt
  clear hnew hmet hcnt hlp1
  have x0:=Lib.cell_of_heap f8 0
  have y0:=Lib.cell_of_heap f6 0
  have z0:=Lib.frozen_of_heap f6 0
  have x1:=Lib.cell_of_heap f8 1
  have y1:=Lib.cell_of_heap f6 1
  have z1:=Lib.frozen_of_heap f6 1
  have x2:=Lib.cell_of_heap f8 2
  have y2:=Lib.cell_of_heap f6 2
  have z2:=Lib.frozen_of_heap f6 2
  have x3:=Lib.cell_of_heap f8 3
  have y3:=Lib.cell_of_heap f6 3
  have z3:=Lib.frozen_of_heap f6 3
  have x4:=Lib.cell_of_heap f8 4
  have y4:=Lib.cell_of_heap f6 4
  have z4:=Lib.frozen_of_heap f6 4
  have x5:=Lib.cell_of_heap f8 5
  have y5:=Lib.cell_of_heap f6 5
  have z5:=Lib.frozen_of_heap f6 5
  have x6:=Lib.cell_of_heap f8 6
  have y6:=Lib.cell_of_heap f6 6
  have z6:=Lib.frozen_of_heap f6 6
  have x7:=Lib.cell_of_heap f8 7
  have y7:=Lib.cell_of_heap f6 7
  have z7:=Lib.frozen_of_heap f6 7
  have x9:=Lib.cell_of_heap f7 0
  have z9:=Lib.frozen_of_heap f7 0
  simp only[List.getElem?_toArray,List.getElem?_cons_zero,List.getElem?_cons_succ]at x0 y0 x1 y1 x2 y2 x3 y3 x4 y4 x5 y5 x6 y6 x7 y7 x9
  have f6':=hid_in f6
  have f7':=hid_in f7
  clear f6 f7 f8
  gi_wp2
  gi_region
  all_goals clear x0 y0 z0 x1 y1 z1 x2 y2 z2 x3 y3 z3 x4 y4 z4 x5 y5 z5 x6 y6 z6 x7 y7 z7 x9 z9
  all_goals(
   obtain⟨gO,gE,gN,gB,gS⟩:=met_facts f6'.out f7'.out id' cls main A1 A3 A5 A6 A7 n1 c1 n3 c3 n5 c5 n6 c6 n7 c7 _ rfl
   generalize World.drew _=Wc at gO gE gN gB gS ⊢
   have hL5:Wc.heap[w.heap.size+1+1+1+1+1+1]? =some (.loop { R with state:=.busy }):=(gO _ (by omega) (by omega)).trans h3
   have hRR:({ { R with state:=.busy }with state:=if(none:Option Code).isNone then .ready else .done,pending:=none }:Loop)=R:=by
    cases R
    simp only at hst hpe
    subst hst hpe
    rfl
   refine⟨_,_,run_endRound none hL5,?_⟩
   rw[hRR]
   have hsz:w.heap.size+1+1+1+1+1+1<Wc.heap.size:=by omega
   have keep: ∀b,b≠w.heap.size+1→b≠w.heap.size+1+1→b≠w.heap.size+1+1+1+1+1+1→b<W.heap.size→(Wc.putObj (w.heap.size+1+1+1+1+1+1) (.loop R)).heap[b]? =W.heap[b]? :=fun b b1 b2 b3 b4=>
    (World.putObj_heap_other b3).trans ((gO b b1 b2).trans ((h2 b b3).trans (hbW.block b b4)))
   refine⟨rfl,⟨?_,(keep _ (by omega) (by omega) (by omega) (by omega)).trans hI.res,⟨_,_,_,_,_,_,_,_,_,_,_,_,_,_,_,_,_,(World.putObj_heap_other (by omega)).trans gE⟩,⟨_,(World.putObj_heap_other (by omega)).trans gN⟩,
    (keep _ (by omega) (by omega) (by omega) (by omega)).trans hI.lst,(keep _ (by omega) (by omega) (by omega) (by omega)).trans hI.idb,(keep _ (by omega) (by omega) (by omega) (by omega)).trans hI.dfr,World.putObj_heap_same hsz⟩,fun b b1 b2=>keep b (by omega) (by omega) (by omega) b2⟩
   refine(hI.below.trans ((hbW.mono (by omega)).trans (h5.trans gB))).trans ⟨rfl,rfl,rfl,by simp,fun b hb=>World.putObj_heap_other (by omega)⟩)
 ·rintro e W2 ⟨⟨v,rfl⟩,cur,hI⟩
  have hst:rec.state≠ .busy:=by rw[← hrec];simp
  have hpe:rec.pending=none:=by rw[← hrec]
  have hend:=run_endLoop (P:=Tryz.prog) hI.loop hst
  have hend:=hend.trans (congrArg (fun p=>Result.ok p (W2.putObj (w.heap.size+1+1+1+1+1+1) (.loop { rec with state:=.exhausted }))) hpe)
  refine⟨none,_,hend,?_⟩
  clear hend h0
  obtain⟨cls0,main0,B1,B3,B5,B6,B7,m1,d1,m3,d3,m5,d5,m6,d6,m7,d7,hmet⟩:=hI.met
  obtain⟨n,hcnt⟩:=hI.cnt
  have hs:=hI.size
  have h2: ∀b,b≠w.heap.size+1+1+1+1+1+1→(W2.putObj (w.heap.size+1+1+1+1+1+1) (.loop { rec with state:=.exhausted })).heap[b]? =W2.heap[b]? :=fun b hb=>World.putObj_heap_other hb
  have h5:Below w.heap.size w (W2.putObj (w.heap.size+1+1+1+1+1+1) (.loop { rec with state:=.exhausted })):=hI.below.trans ⟨rfl,rfl,rfl,by simp,fun b hb=>h2 b (by omega)⟩
  have h4:(W2.putObj (w.heap.size+1+1+1+1+1+1) (.loop { rec with state:=.exhausted })).heap.size=W2.heap.size:=by simp
  have f4:=(h2 _ (by omega)).trans hI.res
  have f6:=(h2 _ (by omega)).trans hmet
  have f7:=(h2 _ (by omega)).trans hcnt
  have f5:=(h2 _ (by omega)).trans hI.dfr
  clear hmet hcnt hI h2
  generalize W2.putObj (w.heap.size+1+1+1+1+1+1) (.loop { rec with state:=.exhausted })=Wb at*
  have y0:=Lib.cell_of_heap f6 0
  have x0:=Lib.cell_of_heap f4 0
  have z0:=Lib.frozen_of_heap f4 0
  have y1:=Lib.cell_of_heap f6 1
  have x1:=Lib.cell_of_heap f4 1
  have z1:=Lib.frozen_of_heap f4 1
  have y2:=Lib.cell_of_heap f6 2
  have x2:=Lib.cell_of_heap f4 2
  have z2:=Lib.frozen_of_heap f4 2
  have y3:=Lib.cell_of_heap f6 3
  have x3:=Lib.cell_of_heap f4 3
  have z3:=Lib.frozen_of_heap f4 3
  have y4:=Lib.cell_of_heap f6 4
  have x4:=Lib.cell_of_heap f4 4
  have z4:=Lib.frozen_of_heap f4 4
  have y5:=Lib.cell_of_heap f6 5
  have x5:=Lib.cell_of_heap f4 5
  have z5:=Lib.frozen_of_heap f4 5
  have y6:=Lib.cell_of_heap f6 6
  have x6:=Lib.cell_of_heap f4 6
  have z6:=Lib.frozen_of_heap f4 6
  have y7:=Lib.cell_of_heap f6 7
  have x7:=Lib.cell_of_heap f4 7
  have z7:=Lib.frozen_of_heap f4 7
  have x9:=Lib.cell_of_heap f7 0
  simp only[List.getElem?_toArray,List.getElem?_cons_zero,List.getElem?_cons_succ]at x0 y0 x1 y1 x2 y2 x3 y3 x4 y4 x5 y5 x6 y6 x7 y7 x9
  have f4':=hid_in f4
  have f5':=hid_in f5
  clear f4 f5 f6 f7
  gi_wp2
  gi_region
  all_goals clear x0 y0 z0 x1 y1 z1 x2 y2 z2 x3 y3 z3 x4 y4 z4 x5 y5 z5 x6 y6 z6 x7 y7 z7 x9
  all_goals(
   obtain⟨gO,gE,gB⟩:=res_facts f4'.out (.int .i64 (mainE l id)) (.slice B1 m1 d1) (.int .i64 cls0) (.slice B3 m3 d3) (.int .i64 main0) (.slice B5 m5 d5) (.slice B6 m6 d6) (.slice B7 m7 d7) _ rfl
   generalize World.drew _=Wc at gO gE gB ⊢
   have hB:=h5.trans gB
   have hK:=(gO _ (by omega)).trans f5'.out
   clear gO f4' f5' h5
   gi_wp2
   refine⟨by simp,.inl ⟨_,_,rfl,run_takeDeferred hK,?_⟩⟩
   have hgW:(Wc.putObj (w.heap.size+1+1+1+1+1) (.deferred none)).heap[w.heap.size]? =_:=(World.putObj_heap_other (by omega)).trans gE
   have hld:=run_loadVar_row (P:=Tryz.prog) _ w.heap.size 54 54 _ _ _ hgW Tryz.underlying54 rfl (by kernel_rfl)
   have hres:(results Tryz.f116 #[.slice A l.length cap,.int .i64 id,undef,undef,.pointer (some ⟨w.heap.size,0,none⟩),.int .i64 n,.pointer (some ⟨w.heap.size+1,0,none⟩),.pointer (some ⟨w.heap.size+1+1,0,none⟩),undef,.slice A l.length cap,.int .i64 id,
     .func (.func 161) #[] #[.pointer (some ⟨w.heap.size+1+1+1,0,none⟩),.pointer (some ⟨w.heap.size+1+1+1+1,0,none⟩)],undef,undef,undef,undef,
     .agg #[.int .i64 (mainE l id),.slice B1 m1 d1,.int .i64 cls0,.slice B3 m3 d3,.int .i64 main0,.slice B5 m5 d5,.slice B6 m6 d6,.slice B7 m7 d7],.int .i64 n]).run Tryz.prog (Wc.putObj (w.heap.size+1+1+1+1+1) (.deferred none))=
     .ok (.tuple #[.agg #[.int .i64 (mainE l id),.slice B1 m1 d1,.int .i64 cls0,.slice B3 m3 d3,.int .i64 main0,.slice B5 m5 d5,.slice B6 m6 d6,.slice B7 m7 d7],.int .i64 n]) (Wc.putObj (w.heap.size+1+1+1+1+1) (.deferred none)):=by
    rw[results_cell_tmp rfl]
    simp[asAddr,hld,Result.andThen]
   exact⟨_,hres,cls0,main0,n,B1,B3,B5,B6,B7,m1,d1,m3,d3,m5,d5,m6,d6,m7,d7,rfl,hB.trans ⟨rfl,rfl,rfl,by simp,fun b hb=>World.putObj_heap_other (by omega)⟩⟩)
set_option maxRecDepth 100000 in
theorem main_calls(l:List Ent)(id:Int)(hl:l.length≤1000000){w:World}{K:KSet}(hk:KOk w K){A:Option Addr}{cap:Nat}(hv:VC w K (.sl 8 (l.map Ent.enc)) (.slice A l.length cap)):
  Calls Tryz.prog 88 #[.slice A l.length cap,.int .i64 id] w fun e w'=>e= .returned (.int .i64 (mainE l id))∧Below w.heap.size w w':=by
 have hL:=last_calls l id hl hk hv
 go_enter Tryz.func88,Tryz.ntmps88
 go_wp2_with (go_at_call 116;refine hL.mono ?_)
 rintro e W1 ⟨cls,main,n,A1,A3,A5,A6,A7,n1,c1,n3,c3,n5,c5,n6,c6,n7,c7,rfl,hb⟩
 go_wp2
 go_ret
 exact⟨rfl,hb.alloc (by simpa using hb.size) _⟩
theorem main_D(l:List Ent)(id:Int)(hl:l.length≤1000000):DCalls Tryz.prog 88 [dv (.sl 8 (l.map Ent.enc)),dv (li id)] (dv (li (mainE l id))):=by
 refine dcalls_below (by kernel_rfl) rfl fun w K vs hk hs hv=>?_
 obtain⟨va,vb,rfl⟩: ∃va vb,vs= #[va,vb]:=by
  match vs,hs with
  | ⟨[va,vb]⟩,_=>exact⟨va,vb,rfl⟩
 have h0:=hv 0 _ va rfl rfl
 have h1:=(hv 1 _ vb rfl rfl).lit
 subst h1
 cases h0 with|one t v h0=>cases h0 with|c c v h0=>
  obtain⟨A,cap,e⟩:=sl_len h0
  rw[List.length_map]at e
  subst e
  exact main_calls l id hl hk h0
end Go.Proofs.YtehdkccjaeckhaaGreatDoor
namespace Go.Proofs.YtehdkccjaeckhaaGreatDoor
open S (usort)
-- lines
theorem sect_ge(d:Dic)(e:Ent): -1≤d.sect e:=by
 unfold Dic.sect sectE
 split
 ·omega
 ·split<;>omega
def Dic.lastS(d:Dic)(last:Option Int)(l:List Ent):Option Int:=match l.getLast? with
 | some e=>some (d.sect e)
 | none=>last
theorem lines_snoc(d:Dic): ∀(l:List Ent) (last:Option Int) (e:Ent),d.linesF last (l++ [e])=d.linesF last l++d.lineL (d.lastS last l) e
 | [],last,e=>by simp[Dic.linesF,Dic.lastS]
 | x::l,last,e=>by
  have h:=lines_snoc d l (some (d.sect x)) e
  simp only[List.cons_append,Dic.linesF,h,List.append_assoc]
  congr 2
  congr 1
  unfold Dic.lastS
  cases l with
  | nil=>rfl
  | cons y l=>
   rw[List.getLast?_cons_cons]
   cases e:(y::l).getLast? with
   | none=>simp at e
   | some z=>rfl
theorem lastS_snoc(d:Dic)(last:Option Int)(l:List Ent)(e:Ent):d.lastS last (l++ [e])=some (d.sect e):=by simp[Dic.lastS]
theorem lines_take{d:Dic}{k:Nat}{e:Ent}(h:d.ord[k]? =some e):d.linesF none (d.ord.take (k+1))=d.linesF none (d.ord.take k)++d.lineL (d.lastS none (d.ord.take k)) e:=by
 rw[List.take_add_one,h];exact lines_snoc d _ none e
theorem lastS_some{d:Dic}{k:Nat}{x:Ent}(h:d.ord[k]? =some x):d.lastS none (d.ord.take (k+1))=some (d.sect x):=by
 rw[List.take_add_one,h];exact lastS_snoc d none _ x
theorem lines_all(d:Dic):d.linesF none (d.ord.take d.ord.length)=d.lines:=by rw[List.take_length];rfl
theorem ord_len(d:Dic):d.ord.length=d.lex.length:=(ord_perm d).length_eq
theorem usort_len{l:List Int}(h:l.Nodup):(usort l).length=l.length:=by
 have h1:=usort_spec l
 have hn:(usort l).Nodup:=h1.1.imp fun {a b} hab=>by omega
 exact(List.perm_ext_iff_of_nodup hn h).2 h1.2 |>.length_eq
end Go.Proofs.YtehdkccjaeckhaaGreatDoor
namespace Go.Proofs.YtehdkccjaeckhaaGreatDoor
open Go.Shelf
def Tryz.laysI_ren:Go.Shelf.Ren:=⟨fun|171=>82|243=>113|246=>135|283=>157|284=>158|285=>159|286=>160|129=>176|317=>175|318=>177|319=>178|320=>179|337=>192|338=>193|n=>n,fun|3=>3|9=>9|2=>2|4=>4|171=>197|0=>0|53=>198|37=>107|5=>5|173=>201|212=>214|51=>215|20=>20|213=>216|46=>206|232=>234|233=>235|n=>n,fun|17=>0|18=>1|19=>2|n=>n⟩
theorem Tryz.laysI:Go.Proofs.LaysM.n171 Tryz.prog Tryz.laysI_ren:={
 mixed:=by kernel_rfl
 f129:=Tryz.func176.trans (congrArg some (by kernel_rfl))
 f171:=Tryz.func82.trans (congrArg some (by kernel_rfl))
 f243:=Tryz.func113.trans (congrArg some (by kernel_rfl))
 f246:=Tryz.func135.trans (congrArg some (by kernel_rfl))
 f283:=Tryz.func157.trans (congrArg some (by kernel_rfl))
 f284:=Tryz.func158.trans (congrArg some (by kernel_rfl))
 f285:=Tryz.func159.trans (congrArg some (by kernel_rfl))
 f286:=Tryz.func160.trans (congrArg some (by kernel_rfl))
 f317:=Tryz.func175.trans (congrArg some (by kernel_rfl))
 f318:=Tryz.func177.trans (congrArg some (by kernel_rfl))
 f319:=Tryz.func178.trans (congrArg some (by kernel_rfl))
 f320:=Tryz.func179.trans (congrArg some (by kernel_rfl))
 f337:=Tryz.func192.trans (congrArg some (by kernel_rfl))
 f338:=Tryz.func193.trans (congrArg some (by kernel_rfl))
 t0:=Tryz.underlying0
 a0:=Tryz.isAgg0
 z0:=Tryz.sizeOf0
 v0:=Tryz.zeroValue0
 t2:=Tryz.underlying2
 a2:=Tryz.isAgg2
 z2:=Tryz.sizeOf2
 v2:=Tryz.zeroValue2
 t3:=Tryz.underlying3
 a3:=Tryz.isAgg3
 z3:=Tryz.sizeOf3
 v3:=Tryz.zeroValue3
 t4:=Tryz.underlying4
 a4:=Tryz.isAgg4
 z4:=Tryz.sizeOf4
 v4:=Tryz.zeroValue4
 t5:=Tryz.underlying5
 a5:=Tryz.isAgg5
 z5:=Tryz.sizeOf5
 v5:=Tryz.zeroValue5
 t9:=Tryz.underlying9
 a9:=Tryz.isAgg9
 z9:=Tryz.sizeOf9
 v9:=Tryz.zeroValue9
 t20:=Tryz.underlying20
 a20:=Tryz.isAgg20
 z20:=Tryz.sizeOf20
 v20:=Tryz.zeroValue20
 t37:=Tryz.underlying107
 a37:=Tryz.isAgg107
 z37:=Tryz.sizeOf107
 v37:=Tryz.zeroValue107
 t46:=Tryz.underlying206
 a46:=Tryz.isAgg206
 z46:=Tryz.sizeOf206
 v46:=Tryz.zeroValue206
 t51:=Tryz.underlying215
 a51:=Tryz.isAgg215
 z51:=Tryz.sizeOf215
 v51:=Tryz.zeroValue215
 t53:=Tryz.underlying198
 a53:=Tryz.isAgg198
 z53:=Tryz.sizeOf198
 v53:=Tryz.zeroValue198
 t171:=Tryz.underlying197
 a171:=Tryz.isAgg197
 z171:=Tryz.sizeOf197
 v171:=Tryz.zeroValue197
 t173:=Tryz.underlying201
 a173:=Tryz.isAgg201
 z173:=Tryz.sizeOf201
 v173:=Tryz.zeroValue201
 t212:=Tryz.underlying214
 a212:=Tryz.isAgg214
 z212:=Tryz.sizeOf214
 v212:=Tryz.zeroValue214
 t213:=Tryz.underlying216
 a213:=Tryz.isAgg216
 z213:=Tryz.sizeOf216
 t232:=Tryz.underlying234
 a232:=Tryz.isAgg234
 z232:=Tryz.sizeOf234
 v232:=Tryz.zeroValue234
 t233:=Tryz.underlying235
 a233:=Tryz.isAgg235
 z233:=Tryz.sizeOf235
 v233:=Tryz.zeroValue235
 g17:=by kernel_rfl
 g18:=by kernel_rfl
 g19:=by kernel_rfl
 i0:=by kernel_rfl
 i2:=by kernel_rfl
 i3:=by kernel_rfl
 i4:=by kernel_rfl
 i5:=by kernel_rfl
 i9:=by kernel_rfl
 i20:=by kernel_rfl
 i37:=by kernel_rfl
 i46:=by kernel_rfl
 i51:=by kernel_rfl
 i53:=by kernel_rfl
 i171:=by kernel_rfl
 i173:=by kernel_rfl
 i212:=by kernel_rfl
 i232:=by kernel_rfl
 i233:=by kernel_rfl
 m17:=by kernel_rfl
 m18:=by kernel_rfl
 m19:=by kernel_rfl }
end Go.Proofs.YtehdkccjaeckhaaGreatDoor
namespace Go.Proofs.YtehdkccjaeckhaaGreatDoor
open Go.Dl Go.RowKit Go.Lib
attribute [local irreducible] DW DCalls ECalls wk IW
theorem pow_tab {w : World} {K : KSet} (h : KOk w K) : Lib.TabIs Tryz.prog w "internal/strconv.uint64pow10" .u64 Lib.pow10Tab := by
 have hg:gtab 0=some (Lib.pow10Tab.map fun z=>Value.int .u64 z):=rfl
 obtain⟨cs,e,m,h1,h2⟩:=h.z 0 (by simp[ztab]) _ hg
 have hn : Program.globalNamed Tryz.prog "internal/strconv.uint64pow10" = some 0 := by kernel_rfl
 have hcs:cs=(Lib.pow10Tab.map fun z=>Value.int .u64 z).toArray:=by
  apply Array.ext'
  refine List.ext_getElem? fun o=>?_
  rcases Nat.lt_or_ge o (Lib.pow10Tab.map fun z=>Value.int .u64 z).length with ho|ho
  ·have h3:=(h.g 0 _ hg o _ (List.getElem?_eq_getElem ho)).2.2
   rw[List.getElem?_eq_getElem ho]
   simp only[World.cell?,h1]at h3
   rw[Array.getElem?_toList];exact(if_neg (by simp)).symm.trans h3
  ·rw[List.getElem?_eq_none (by rw[Array.length_toList,h2];exact ho),List.getElem?_eq_none ho]
 rw[Lib.TabIs,World.var?,hn]
 simp only[Option.bind_some,h1,hcs]
set_option maxRecDepth 100000 in
theorem itoa_D(n:Int)(h0: -9223372036854775808≤n)(h1:n≤9223372036854775807):DCalls Tryz.prog 82 [dv (li n)] (dv (ls (numB n))):=by
 refine dcalls_below (by kernel_rfl) rfl fun w K vs hk hl hv=>?_
 obtain⟨v,rfl⟩: ∃v,vs= #[v]:=by
  match vs,hl with
  | ⟨[v]⟩,_=>exact⟨v,rfl⟩
 have h2:=(hv 0 _ v rfl rfl).lit
 subst h2
 refine(Go.Proofs.Any.strconv_Itoa Tryz.laysI n h0 h1 w (pow_tab hk)).mono ?_
 rintro e w' ⟨rfl,k,os,rfl⟩
 refine⟨rfl,?_⟩
 exact⟨rfl,rfl,rfl,by simp[Sort.grow,World.drewN],fun b hb=>by simp[Sort.grow,World.drewN,Array.getElem?_append,hb]⟩
theorem textN_D(n:Int)(h0: -9223372036854775808≤n)(h1:n≤9223372036854775807):DCalls Tryz.prog 43 [dv (li n)] (dv (ls (numB n))):=by
 have hI:=itoa_D n h0 h1
 refine kd (N:=5) (rs:= [.tmp 2]) Tryz.func43 ?_
 (repeat'(first|apply kA|apply kB|((first|refine kc (N:=5) ?_|apply kD|apply kE|refine kx hI ?_|apply kF);simp +decide only[go_sem])|(apply kG;(simp +decide only[go_sem];rfl);all_goals(intro hcnd;try exact kz hcnd))))
theorem dd_len0: ∀u:Nat,(decDigits u).length≤u+1:=by
 intro u
 induction u using Nat.strongRecOn with
 | _ u ih=>
  by_cases h:u<10
  ·rw[dd_small h];simp
  ·rw[dd_big h];have:=ih (u / 10) (by omega);simp;omega
theorem dd_len(u:Nat):(decDigits u).length≤u / 10+2:=by
 by_cases h:u<10
 ·rw[dd_small h];simp
 ·rw[dd_big h];have:=dd_len0 (u / 10);simp;omega
end Go.Proofs.YtehdkccjaeckhaaGreatDoor
namespace Go.Proofs.YtehdkccjaeckhaaGreatDoor
open Go.Dl
open S (usort)
attribute [local irreducible] DW DCalls ECalls wk IW
abbrev varP(l:List Ent)(id:Int)(e:Ent):Bool:= !(e.id==id)&&mainE l e.id==id
theorem all_D(l:List Ent)(id:Int)(hl:l.length≤1000000)(hs:UpE l):DCalls Tryz.prog 50 [dv (.sl 8 (l.map Ent.enc)),dv (li id)] (dv (.sl 1 (ints (allE l id)))):=by
 have hmax:maxLen=9223372036854775807:=rfl
 have hS:=sorted_D (allE l id) (by have:(allE l id).length≤l.length:=idsOf_len l _;omega)
 rw[show usort (allE l id)=allE l id from usort_ids hs _]at hS
 refine kd (N:=34) (rs:= [.tmp 4]) Tryz.func50 ?_
 (repeat(first|apply kA|apply kB|((first|refine kc (N:=34) ?_|apply kD|apply kE);simp +decide only[go_sem])))
 refine dw_own 5 5 1 (by simp +decide only[go_sem]) ?_
 refine dw_rng0 l (fun k=>kn 34 [(0,dv (.sl 8 (l.map Ent.enc))),(1,dv (li id)),(5,.one (.own 5 1 (ints (idsOf (l.take k) (varP l id))))),(8,dv (.sl 8 (l.map Ent.enc))),(9,dv (li l.length)),(10,dv (li k))] noMem) (by omega) (kL rfl (by simp +decide only[go_sem,List.take_zero,idsOf_nil,List.map_nil]) (by simp[noMem])) ?_ ?_
 ·intro k e he hk hm htk hlt hw
  have hM:=main_D l e.id hl
  have hi:=idsOf_len (l.take k) (varP l id)
  have r1:(((idsOf (l.take k) (varP l id)).length+1)*8≤140737488355328)=True:=eq_true (by rw[List.length_take]at hi;omega)
  have hst:idsOf (l.take (k+1)) (varP l id)=idsOf (l.take k) (varP l id)++if varP l id e=true then [e.id]else []:=by rw[htk,idsOf_snoc]
  unfold varP at hst
  cases t1:e.id==id
  ·have t1':(e.id !=id)=true:=by simp[bne,t1]
   cases t2:mainE l e.id==id
   ·rw[t1,t2,if_neg (by decide),List.append_nil]at hst
    (repeat'(first|apply kA|apply kB|((first|refine kc (N:=34) ?_|apply kD|apply kE|refine kx hM ?_|apply kF);simp +decide only[go_sem,hlt,hw,he,t1',t2,r1,Ent.enc])|(apply kG;(simp +decide only[go_sem,hlt,hw,he,t1',t2,r1,Ent.enc];rfl);all_goals(intro hcnd;try exact kz hcnd))|((first|apply kH|apply kI)<;>(intro hcnd;simp +decide only[go_sem,hcnd,hlt,hw,he,t1',t2,r1,Ent.enc]))))
    exact kL rfl (by simp +decide only[go_sem,hst]) (by simp[noMem])
   ·rw[t1,t2,if_pos (by decide)]at hst
    have hst2:ints (idsOf (l.take (k+1)) (varP l id))=ints (idsOf (l.take k) (varP l id))++ [[li e.id]]:=by unfold varP;rw[hst];simp
    (repeat'(first|apply kA|apply kB|((first|refine kc (N:=34) ?_|apply kD|apply kE|refine kx hM ?_|apply kF);simp +decide only[go_sem,hlt,hw,he,t1',t2,r1,Ent.enc])|(apply kG;(simp +decide only[go_sem,hlt,hw,he,t1',t2,r1,Ent.enc];rfl);all_goals(intro hcnd;try exact kz hcnd))|((first|apply kH|apply kI)<;>(intro hcnd;simp +decide only[go_sem,hcnd,hlt,hw,he,t1',t2,r1,Ent.enc]))))
    exact kL rfl (by simp +decide only[go_sem,hst2]) (by simp[noMem])
  ·have t1':(e.id !=id)=false:=by simp[bne,t1]
   rw[t1,if_neg (by simp),List.append_nil]at hst
   (repeat'(first|apply kA|apply kB|((first|refine kc (N:=34) ?_|apply kD|apply kE|apply kF);simp +decide only[go_sem,hlt,hw,he,t1',r1,Ent.enc])|(apply kG;(simp +decide only[go_sem,hlt,hw,he,t1',r1,Ent.enc];rfl);all_goals(intro hcnd;try exact kz hcnd))|((first|apply kH|apply kI)<;>(intro hcnd;simp +decide only[go_sem,hcnd,hlt,hw,he,t1',r1,Ent.enc]))))
   exact kL rfl (by simp +decide only[go_sem,hst]) (by simp[noMem])
 ·intro hlt
  rw[List.take_length]
  (repeat'(first|apply kA|apply kB|((first|refine kc (N:=34) ?_|apply kD|apply kE|refine kx hS ?_|apply kF);simp +decide only[go_sem,hlt])|(apply kG;(simp +decide only[go_sem,hlt];rfl);all_goals(intro hcnd;try exact kz hcnd))|((first|apply kH|apply kI)<;>(intro hcnd;simp +decide only[go_sem,hcnd,hlt]))))
theorem rFind27_D(l:List Ent)(id:Int)(hl:l.length≤1000000):DCalls Tryz.prog 110 [dv (.sl 8 (l.map Ent.enc)),dv (li id)] (dv (li (idxF (fun e=>e.id==id) l))):=by
 have hmax:maxLen=9223372036854775807:=rfl
 refine kd (N:=20) (rs:= [.tmp 4]) Tryz.func110 ?_
 (repeat(first|apply kA|apply kB|((first|refine kc (N:=20) ?_|apply kD|apply kE);simp +decide only[go_sem])))
 refine dw_rngI l (fun k=>kn 20 [(0,dv (.sl 8 (l.map Ent.enc))),(1,dv (li id)),(5,dv (li k))] noMem) (fun k=>∀e∈l.take k,(e.id==id)=false) (by omega) (kL rfl (by simp +decide only[go_sem]) (by simp[noMem])) (by simp) ?_ ?_
 ·intro k e he hk hm htk hlt hw hi
  (repeat'(first|apply kA|apply kB|((first|refine kc (N:=20) ?_|apply kD|apply kE|apply kF);simp +decide only[go_sem,hlt,hw,he,Ent.enc])|(apply kG;(simp +decide only[go_sem,hlt,hw,he,Ent.enc];rfl);all_goals(intro hcnd;try exact kz hcnd))))
  ·rw[idxF_at he hi hcnd]
  ·exact⟨forall_snoc htk hi hcnd,kL rfl (by simp +decide only[go_sem]) (by simp[noMem])⟩
 ·intro hlt hi
  rw[List.take_length]at hi
  (repeat'(first|apply kA|apply kB|((first|refine kc (N:=20) ?_|apply kD|apply kE|apply kF);simp +decide only[go_sem,hlt])|(apply kG;(simp +decide only[go_sem,hlt];rfl);all_goals(intro hcnd;try exact kz hcnd))))
  rw[idxF_no hi]
theorem get_idx{l:List Ent}{id:Int}:((getE l id).2=false∧idxF (fun e=>e.id==id) l= -1)∨∃(k:Nat) (e:Ent),l[k]? =some e∧getE l id=(e,true)∧idxF (fun e=>e.id==id) l=(k:Int):=by
 cases hf:l.find? (fun e=>e.id==id)with
 | none=>exact .inl ⟨by simp[getE,hf],idxF_no (find_nex hf)⟩
 | some e=>
  obtain⟨k,he,hi,hq⟩:=find_ex hf
  exact .inr ⟨k,e,he,by simp[getE,hf],idxF_at he hi hq⟩
def wayI(l:List Ent)(id:Int):List Int:=(wayE l id).map (·.id)
theorem rWay_D(l:List Ent)(id:Int)(hl:l.length≤999999):DCalls Tryz.prog 111 [dv (.sl 8 (l.map Ent.enc)),dv (li id)] (dv (.sl 1 (ints (wayI l id)))):=by
 have hmax:maxLen=9223372036854775807:=rfl
 have hF:=rFind27_D l id (by omega)
 refine kd (N:=42) (rs:= [.tmp 4]) Tryz.func111 ?_
 (repeat'(first|apply kA|apply kB|((first|refine kc (N:=42) ?_|apply kD|apply kE|refine kx hF ?_);simp +decide only[go_sem])|(apply kG;(simp +decide only[go_sem];rfl);all_goals(intro hcnd;try exact kz hcnd))|((first|apply kH|apply kI)<;>(intro hcnd;simp +decide only[go_sem,hcnd]))))
 refine dw_ownX (xs:= []) 5 5 1 (by simp +decide only[go_sem]) ?_
 refine dw_loop_fam (fun y:List Int×Int=>kn 42 [(0,dv (.sl 8 (l.map Ent.enc))),(5,.one (.own 5 1 (ints y.1))),(6,dv (li (idxF (fun e=>e.id==y.2) l)))] noMem)
  (fun y=>y.1.length≤l.length+1∧wayI l id=y.1++(wayF l (l.length+1 - y.1.length) y.2).map (·.id)) (fun y=>l.length+1 - y.1.length) ([],id) (kL rfl (by simp +decide only[go_sem,List.map_nil]) (by simp[noMem])) ⟨by simp,rfl⟩ ?_
 rintro⟨pre,cur⟩ ⟨h1,h2⟩
 simp only at h1 h2 ⊢
 have r1:((pre.length+1)*8≤140737488355328)=True:=eq_true (by omega)
 rcases get_idx (l:=l) (id:=cur)with⟨g1,g2⟩|⟨k,e,g1,g2,g3⟩
 ·have e0:wayF l (l.length+1 - pre.length) cur= []:=by
   cases l.length+1 - pre.length with
   | zero=>rfl
   | succ n=>simp only[wayF];rw[if_pos g1]
  rw[e0,List.map_nil,List.append_nil]at h2
  rw[g2]
  (repeat'(first|apply kA|apply kB|((first|refine kc (N:=42) ?_|apply kD|apply kE);simp +decide only[go_sem,Int.reduceLE,Int.reduceNeg,r1])|(apply kG;(simp +decide only[go_sem,Int.reduceLE,Int.reduceNeg,r1];rfl);all_goals(intro hcnd;try exact kz hcnd))|((first|apply kH|apply kI)<;>(intro hcnd;simp +decide only[go_sem,hcnd,Int.reduceLE,Int.reduceNeg,r1]))))
  refine dw_slot 4 _ (DLe.own_ _ _ _) ?_
  apply kF;simp +decide only[go_sem,h2]
 ·rw[g3]
  have hn:((0:Int)≤(k:Int))=True:=by simp
  by_cases hp:pre.length≤l.length
  ·have t1:((pre.length:Int)≤(l.length:Int))=True:=by simp;omega
   obtain⟨f,hf⟩: ∃f,l.length+1 - pre.length=f+1:=⟨l.length - pre.length,by omega⟩
   rw[hf,wayF,g2]at h2
   simp only[Bool.true_eq_false,if_false]at h2
   cases t2:e.main==0
   ·have hF2:=rFind27_D l e.main (by omega)
    rw[if_neg (by simpa using t2)]at h2
    (repeat'(first|apply kA|apply kB|((first|refine kc (N:=42) ?_|apply kD|apply kE|refine kx hF2 ?_);simp +decide only[go_sem,hn,t1,g1,t2,r1,Ent.enc])|(apply kG;(simp +decide only[go_sem,hn,t1,g1,t2,r1,Ent.enc];rfl);all_goals(intro hcnd;try exact kz hcnd))|((first|apply kH|apply kI)<;>(intro hcnd;simp +decide only[go_sem,hcnd,hn,t1,g1,t2,r1,Ent.enc]))))
    exact⟨(pre++ [e.id],e.main),⟨by simp;omega,by rw[h2,List.map_cons,List.append_assoc];simp only[List.length_append,List.length_cons,List.length_nil,List.cons_append,List.nil_append];rw[show l.length+1 - (pre.length+(0+1))=f by omega]⟩,by simp;omega,kL rfl (by simp +decide only[go_sem,ints_snoc]) (by simp[noMem])⟩
   ·rw[if_pos (by simpa using t2),List.map_cons,List.map_nil]at h2
    (repeat'(first|apply kA|apply kB|((first|refine kc (N:=42) ?_|apply kD|apply kE);simp +decide only[go_sem,hn,t1,g1,t2,r1,Ent.enc])|(apply kG;(simp +decide only[go_sem,hn,t1,g1,t2,r1,Ent.enc];rfl);all_goals(intro hcnd;try exact kz hcnd))|((first|apply kH|apply kI)<;>(intro hcnd;simp +decide only[go_sem,hcnd,hn,t1,g1,t2,r1,Ent.enc]))))
    refine dw_slot 4 _ (DLe.own_ _ _ _) ?_
    apply kF;simp +decide only[go_sem]
    rw[h2,ints_snoc]
  ·have t1:((pre.length:Int)≤(l.length:Int))=False:=by simp;omega
   have e0:l.length+1 - pre.length=0:=by omega
   rw[e0,wayF,List.map_nil,List.append_nil]at h2
   (repeat'(first|apply kA|apply kB|((first|refine kc (N:=42) ?_|apply kD|apply kE);simp +decide only[go_sem,hn,t1])|(apply kG;(simp +decide only[go_sem,hn,t1];rfl);all_goals(intro hcnd;try exact kz hcnd))|((first|apply kH|apply kI)<;>(intro hcnd;simp +decide only[go_sem,hcnd,hn,t1]))))
   refine dw_slot 4 _ (DLe.own_ _ _ _) ?_
   apply kF;simp +decide only[go_sem,h2]
end Go.Proofs.YtehdkccjaeckhaaGreatDoor
namespace Go.Proofs.YtehdkccjaeckhaaGreatDoor
open Go.Dl
attribute [local irreducible] DW DCalls ECalls wk IW
def u8s(l:List Int):List (List C):=l.map fun n=> [.lit (.int .u8 n)]
theorem u8s_at2{xs:List Int}{k:Nat}{x:Int}(h:xs[k]? =some x):(u8s xs)[k]? =some [.lit (.int .u8 x)]:=by simp[u8s,h]
theorem u8s_len(xs:List Int):(u8s xs).length=xs.length:=by simp[u8s]
theorem bytesC_u8s(s:ByteArray):bytesC s=u8s (byteL s):=by simp[bytesC,u8s,byteL]
theorem byteL_len(s:ByteArray):(byteL s).length=s.size:=by simp[byteL]
theorem isNaNB_D(a:Int):DCalls Tryz.prog 137 [dv (.lit (.int .u8 a))] (dv (lb false)):=by
 refine kd (N:=6) (rs:= [.tmp 2]) Tryz.func137 ?_
 have h:(a !=a)=false:=by simp
 (repeat'(first|apply kA|apply kB|((first|refine kc (N:=6) ?_|apply kD|apply kE|apply kF);simp +decide only[go_sem,h])|(apply kG;(simp +decide only[go_sem,h];rfl);all_goals(intro hcnd;try exact kz hcnd))))
theorem cmpB_D(a b:Int):DCalls Tryz.prog 115 [dv (.lit (.int .u8 a)),dv (.lit (.int .u8 b))] (dv (li (cmpI a b))):=by
 refine kd (N:=20) (rs:= [.tmp 4]) Tryz.func115 ?_
 (repeat'(first|apply kA|apply kB|((first|refine kc (N:=20) ?_|apply kD|apply kE|refine kx (isNaNB_D a) ?_|refine kx (isNaNB_D b) ?_|apply kF);simp +decide only[go_sem])|(apply kG;(simp +decide only[go_sem];rfl);all_goals(intro hcnd;try exact kz hcnd))))
 all_goals first|(simp_all [cmpI];done)|(simp only[cmpI];simp at *;split<;>first|rfl|omega|(split<;>first|rfl|omega))
theorem cCmpB_D(a b:List Int)(ha:a.length≤1048576)(hb:b.length≤1048576):DCalls Tryz.prog 86 [dv (.sl 1 (u8s a)),dv (.sl 1 (u8s b))] (dv (li (cmpL a b))):=by
 have hmax:maxLen=9223372036854775807:=rfl
 have hm:(if(b.length:Int)<(a.length:Int)then(b.length:Int)else(a.length:Int))=((min a.length b.length:Nat):Int):=by split<;>omega
 refine kd (N:=33) (rs:= [.tmp 4]) Tryz.func86 ?_
 (repeat(first|apply kA|apply kB|((first|refine kc (N:=33) ?_|refine kj (N:=33) kq11 ?_|apply kD|apply kE);simp +decide only[go_sem,hm,u8s_len])))
 refine dw_loop_fam (fun k:Nat=>kn 33 [(0,dv (.sl 1 (u8s a))),(1,dv (.sl 1 (u8s b))),(11,dv (li ((min a.length b.length:Nat):Int))),(12,dv (li k))] noMem)
  (fun k=>k≤a.length∧k≤b.length∧cmpL a b=cmpL (a.drop k) (b.drop k)) (fun k=>a.length - k) 0 (kL rfl (by simp +decide only[go_sem,hm,u8s_len]) (by simp[noMem])) ⟨by omega,by omega,rfl⟩ ?_
 rintro k ⟨h1,h2,h3⟩
 by_cases kk:k<min a.length b.length
 ·have t1:decide ((k:Int)<((min a.length b.length:Nat):Int))=true:=by simp;omega
  have ka:k<a.length:=by omega
  have kb:k<b.length:=by omega
  have ea:a[k]? =some a[k]:=List.getElem?_eq_getElem ka
  have eb:b[k]? =some b[k]:=List.getElem?_eq_getElem kb
  generalize a[k]=x at ea
  generalize b[k]=y at eb
  rw[drop_at2 ea,drop_at2 eb,cmpL_cons]at h3
  have fa:=u8s_at2 ea
  have fb:=u8s_at2 eb
  have u2:IntKind.i64.wrap ((k:Int)+1)=((k+1:Nat):Int):=wrap_succ k (by omega)
  have hc:=cmpB_D x y
  by_cases g1:x<y
  ·rw[if_pos g1]at h3
   rw[show cmpI x y= -1 by unfold cmpI;rw[if_pos g1]]at hc
   (repeat'(first|apply kA|apply kB|((first|refine kc (N:=33) ?_|refine kj (N:=33) kq11 ?_|apply kD|apply kE|refine kx hc ?_|apply kF);simp +decide only[go_sem,t1,fa,fb])|(apply kG;(simp +decide only[go_sem,t1,fa,fb];rfl);all_goals(intro hcnd;try exact kz hcnd))))
   rw[h3]
  ·rw[if_neg g1]at h3
   by_cases g2:y<x
   ·rw[if_pos g2]at h3
    rw[show cmpI x y=1 by unfold cmpI;rw[if_neg g1,if_pos g2]]at hc
    (repeat'(first|apply kA|apply kB|((first|refine kc (N:=33) ?_|refine kj (N:=33) kq11 ?_|apply kD|apply kE|refine kx hc ?_|apply kF);simp +decide only[go_sem,t1,fa,fb])|(apply kG;(simp +decide only[go_sem,t1,fa,fb];rfl);all_goals(intro hcnd;try exact kz hcnd))))
    rw[h3]
   ·rw[if_neg g2]at h3
    rw[show cmpI x y=0 by unfold cmpI;rw[if_neg g1,if_neg g2]]at hc
    (repeat'(first|apply kA|apply kB|((first|refine kc (N:=33) ?_|refine kj (N:=33) kq11 ?_|apply kD|apply kE|refine kx hc ?_|apply kF);simp +decide only[go_sem,t1,fa,fb,u2])|(apply kG;(simp +decide only[go_sem,t1,fa,fb,u2];rfl);all_goals(intro hcnd;try exact kz hcnd))))
    exact⟨k+1,⟨by omega,by omega,h3⟩,by omega,kL rfl (by simp +decide only[go_sem,u2]) (by simp[noMem])⟩
 ·have t1:decide ((k:Int)<((min a.length b.length:Nat):Int))=false:=by simp;omega
  have hc:=cmp_D (a.length:Int) (b.length:Int)
  have e:cmpL a b=cmpI (a.length:Int) (b.length:Int):=by
   rw[h3]
   unfold cmpI
   by_cases ka:k<a.length
   ·have hk:k=b.length:=by omega
    subst hk
    rw[drop_at2 (List.getElem?_eq_getElem ka),List.drop_length,cmpL_cn,if_neg (by omega),if_pos (by omega)]
   ·have hk:k=a.length:=by omega
    subst hk
    rw[List.drop_length]
    by_cases kb:a.length<b.length
    ·rw[drop_at2 (List.getElem?_eq_getElem kb),cmpL_nc,if_pos (by omega)]
    ·have e:a.length=b.length:=by omega
     rw[e,List.drop_length,cmpL_nil,if_neg (by omega),if_neg (by omega)]
  rw[← e]at hc
  (repeat'(first|apply kA|apply kB|((first|refine kc (N:=33) ?_|refine kj (N:=33) kq11 ?_|apply kD|apply kE|refine kx hc ?_|apply kF);simp +decide only[go_sem,t1,u8s_len])|(apply kG;(simp +decide only[go_sem,t1,u8s_len];rfl);all_goals(intro hcnd;try exact kz hcnd))))
theorem or_or3(x y z:Int):orI [x,y,z]=or3 x y z:=by
 unfold or3
 by_cases hx:x=0
 ·rw[if_neg (by simpa using hx),orI,if_pos hx]
  by_cases hy:y=0
  ·rw[if_neg (by simpa using hy),orI,if_pos hy]
   by_cases hz:z=0
   ·rw[orI,if_pos hz,orI,hz]
   ·rw[orI,if_neg hz]
  ·rw[if_pos hy,orI,if_neg hy]
 ·rw[if_pos hx,orI,if_neg hx]
theorem cCompare_D(nm:ByteArray)(us:List Unt)(lt:List (List ByteArray))(s t:ByteArray)(hl:lt.length≤1000000)(hll: ∀l∈lt,l.length≤1000000)(hs:s.size≤1048576)(ht:t.size≤1048576):
  DCalls Tryz.prog 46 [.agg (ortRow nm us lt),dv (ls s),dv (ls t)] (dv (li (cmpK (keyE lt s) (keyE lt t)))):=by
 have hmax:maxLen=9223372036854775807:=rfl
 have hA:=cLetters_D nm us lt s hl hll hs
 have hB:=cLetters_D nm us lt t hl hll ht
 have la:=letters_len lt s
 have lb':=letters_len lt t
 have e:=or3_key (lettersE lt s).1 (lettersE lt s).2.1 (byteL s) (lettersE lt t).1 (lettersE lt t).2.1 (byteL t)
 change _=cmpK (keyE lt s) (keyE lt t)at e
 rw[← e]
 clear e
 generalize lettersE lt s=r at hA la
 generalize lettersE lt t=q at hB lb'
 obtain⟨a,b,aa⟩:=r
 obtain⟨c,d,bb⟩:=q
 simp only at hA hB la lb' ⊢
 have h1:=cCmp_D a c (by omega) (by omega)
 have h2:=cCmp_D b d (by omega) (by omega)
 have h3:=cCmpB_D (byteL s) (byteL t) (by rw[byteL_len];exact hs) (by rw[byteL_len];exact ht)
 have h4:=or_D [cmpL a c,cmpL b d,cmpL (byteL s) (byteL t)] (by simp[maxLen])
 rw[or_or3]at h4
 rw[← bytesC_u8s,← bytesC_u8s]at h3
 have z1:(s.size≤maxLen)=True:=by simp;omega
 have z2:(t.size≤maxLen)=True:=by simp;omega
 refine kd (N:=40) (rs:= [.tmp 6]) Tryz.func46 ?_
 (repeat'(first|apply kA|apply kB|((first|refine kc (N:=40) ?_|apply kD|apply kE|refine kx hA ?_|refine kx hB ?_|refine kx h1 ?_|refine kx h2 ?_|refine kx h3 ?_|refine kx h4 ?_|apply kF);simp +decide only[go_sem,ortRow,ints,List.map_cons,List.map_nil,z1,z2])|(apply kG;(simp +decide only[go_sem,ortRow,ints,List.map_cons,List.map_nil,z1,z2];rfl);all_goals(intro hcnd;try exact kz hcnd))))
end Go.Proofs.YtehdkccjaeckhaaGreatDoor
namespace Go.Proofs.YtehdkccjaeckhaaGreatDoor
open Go.Dl
open S (usort)
attribute [local irreducible] DW DCalls ECalls wk IW
structure LX where
 nm:ByteArray
 cr:Dl.C
 cs:Dl.C
 ct:Dl.C
 cf:Dl.C
def lngRow(x:LX)(d:Dic):List T:= [.c (.sl 2 (d.inv.map Phon.enc)),.c (ls x.nm),.c (.sl 2 (d.units.map Unt.enc)),.c (.sl 1 (d.letters.map letC)),.c x.cr,.c x.cs,.c x.ct,.c x.cf,.c (.sl 8 (d.lex.map Ent.enc))]
structure OkD(d:Dic):Prop extends RightD d where
 nsz: ∀p∈d.inv,p.name.size≤32
 ilen:d.inv.length≤1048576
 ulen:d.units.length≤1000
 gsz: ∀u∈d.units,u.graph.size≤32
 usg: ∀u∈d.units,u.segs.length≤1000
 llen:d.letters.length≤1000
 lne: ∀l∈d.letters,l≠ []
 lll: ∀l∈d.letters,l.length≤1000000
 lsz: ∀l∈d.letters,∀s∈l,s.size≤1048576
 few:d.lex.length≤5
 frm: ∀e∈d.lex,e.form.length≤3
 alt: ∀e∈d.lex,∀w∈e.alts,w.length≤3
 nalt: ∀e∈d.lex,e.alts.length≤1
 mid: ∀e∈d.lex,MidE e
theorem nameAt_le{g:List Phon}{B:Nat}(hg: ∀p∈g,p.name.size≤B)(n:Int):(nameAt g n).size≤B:=by
 unfold nameAt
 cases e:g[(n - 1).toNat]? with
 | none=>simp
 | some p=>exact hg p (List.mem_of_getElem? e)
theorem textF_le{g:List Phon}{B:Nat}(hg: ∀p∈g,p.name.size≤B): ∀(w:List Int) (s:ByteArray),(w.foldl (fun s n=>if segOk g n=true then s++nameAt g n else s) s).size≤s.size+w.length*B
 | [],s=>by simp
 | n::w,s=>by
  simp only[List.foldl_cons]
  refine Nat.le_trans (textF_le hg w _) ?_
  have:=nameAt_le hg n
  rw[List.length_cons,Nat.succ_mul]
  split
  ·rw[ByteArray.size_append];omega
  ·omega
theorem spellF_le{us:List Unt}{B:Nat}(ho:OkU us)(hg: ∀u∈us,u.graph.size≤B)(w:List Int): ∀n p s,s.size≤p*B→p≤w.length→(spellF us w n p s).1.size≤w.length*B
 | 0,p,s,h,hp=>by
  simp only[spellF]
  exact Nat.le_trans h (Nat.mul_le_mul_right _ hp)
 | n+1,p,s,h,hp=>by
  simp only[spellF]
  by_cases h1:w.length≤p
  ·rw[if_pos h1]
   exact Nat.le_trans h (Nat.mul_le_mul_right _ hp)
  ·rw[if_neg h1]
   by_cases h2:bestU us (w.drop p) us.length<0
   ·rw[if_pos h2];simp
   ·rw[if_neg h2]
    obtain⟨u,-,e2,e3,e4⟩:=unit_some h2
    rw[e2]
    have hz:u.segs.length≠0:=by simpa using ho.segs u e3
    have hle:u.segs.length≤w.length - p:=by have:=e4.length_le;rwa [List.length_drop]at this
    have:=hg u e3
    refine spellF_le ho hg w n _ _ ?_ (by omega)
    rw[ByteArray.size_append]
    have:(p+1)*B≤(p+u.segs.length)*B:=Nat.mul_le_mul_right _ (by omega)
    rw[Nat.succ_mul]at this
    omega
theorem sp_le{d:Dic}(hd:OkD d)(w:List Int):(d.sp w).size≤w.length*32:=by
 unfold Dic.sp spelledE
 split
 ·have:=textF_le hd.nsz w ByteArray.empty
  unfold textP
  simpa using this
 ·unfold spellE
  split
  ·simp
  ·split
   ·simp
   ·exact spellF_le hd.units hd.gsz w _ _ _ (by simp) (by omega)
theorem numB_le{n:Int}(h0:0≤n)(h:n≤1000):(numB n).size≤200:=by
 have:(numB n).size=(Lib.decDigits n.natAbs).length:=by
  unfold numB
  rw[itoa_pos (by omega)]
  simp[ByteArray.size]
 have h2:=dd_len n.natAbs
 omega
theorem hom_rng{l:List Ent}(id:Int):0≤homE l id∧homE l id≤l.length+1:=by
 unfold homE
 split
 ·omega
 ·split
  ·omega
  ·have h1:=idxF_rng (fun x=>id==x) (usort (idsOf l fun e=>decide (e.form=(getE l id).1.form)))
   have h2:=idsOf_len l (fun e=>decide (e.form=(getE l id).1.form))
   have h3:=usort_lenI (idsOf l fun e=>decide (e.form=(getE l id).1.form))
   omega
theorem get_form{d:Dic}(hd:OkD d){id:Int}:(getE d.lex id).1.form.length≤3:=by
 cases hg:(getE d.lex id).2
 ·unfold getE at hg ⊢
  cases hf:d.lex.find? (fun e=>e.id==id)with
  | none=>simp[noEnt]
  | some e=>rw[hf]at hg;cases hg
 ·exact hd.frm _ (getE_mem hg).1
theorem head_le{d:Dic}(hd:OkD d)(id:Int):(d.head id).size≤400:=by
 have h1:=sp_le hd (getE d.lex id).1.form
 have h2:=get_form hd (id:=id)
 have h3:=hom_rng (l:=d.lex) id
 have hf:=hd.few
 have h4:=numB_le h3.1 (by omega)
 have hb:blank.size=1:=rfl
 have:(getE d.lex id).1.form.length*32≤3*32:=Nat.mul_le_mul_right _ h2
 unfold Dic.head
 split
 ·simp
 ·split
  ·rw[ByteArray.size_append,ByteArray.size_append];omega
  ·omega
theorem spelled_D(x:LX){d:Dic}(hd:OkD d)(w:List Int)(hw:w.length≤1000):DCalls Tryz.prog 14 [.agg (lngRow x d),dv (.sl 1 (ints w))] (dv (ls (d.sp w))):=by
 have hmax:maxLen=9223372036854775807:=rfl
 have hS:=spell_D x.nm d.units d.letters w hd.units (by have:=hd.ulen;omega) (fun u hu=>by have:=hd.gsz u hu;omega) (fun u hu=>by have:=hd.usg u hu;omega)
 have hT:=pText_D d.inv w (fun p hp=>by have:=hd.nsz p hp;omega) hd.ilen (by omega)
 unfold Dic.sp spelledE
 simp only[ortRow]at hS
 simp only[invRow]at hT
 generalize spellE d.units w=r at hS ⊢
 obtain⟨a,b,c⟩:=r
 simp only at hS ⊢
 cases t1:c !=0
 ·have: ¬c≠0:=by simpa using t1
  rw[if_neg this]
  refine kd (N:=23) (rs:= [.tmp 4]) Tryz.func14 ?_
  (repeat'(first|apply kA|apply kB|((first|refine kc (N:=23) ?_|apply kD|apply kE|refine kx hS ?_|apply kF);simp +decide only[go_sem,lngRow,t1])|(apply kG;(simp +decide only[go_sem,lngRow,t1];rfl);all_goals(intro hcnd;try exact kz hcnd))))
 ·have:c≠0:=by simpa using t1
  rw[if_pos this]
  refine kd (N:=23) (rs:= [.tmp 4]) Tryz.func14 ?_
  (repeat'(first|apply kA|apply kB|((first|refine kc (N:=23) ?_|apply kD|apply kE|refine kx hS ?_|refine kx hT ?_|apply kF);simp +decide only[go_sem,lngRow,t1])|(apply kG;(simp +decide only[go_sem,lngRow,t1];rfl);all_goals(intro hcnd;try exact kz hcnd))))
theorem ok_form{d:Dic}(hd:OkD d): ∀e∈d.lex,e.form.length≤maxLen:=fun e he=>by
 have:=hd.frm e he
 unfold maxLen;omega
theorem head_D(x:LX){d:Dic}(hd:OkD d)(id:Int):DCalls Tryz.prog 16 [.agg (lngRow x d),dv (li id)] (dv (ls (d.head id))):=by
 have hmax:maxLen=9223372036854775807:=rfl
 have hf:=hd.few
 have hG:=get_D d.lex id (by omega)
 have hS:=spelled_D x hd (getE d.lex id).1.form (by have:=get_form hd (id:=id);omega)
 have hH:=hom_D d.lex id (by omega) (ok_form hd)
 have h3:=hom_rng (l:=d.lex) id
 have hN:=textN_D (homE d.lex id) (by omega) (by omega)
 have hnl:=numB_le h3.1 (by omega)
 have hsl:=sp_le hd (getE d.lex id).1.form
 have h2:=get_form hd (id:=id)
 have hsl2:(getE d.lex id).1.form.length*32≤3*32:=Nat.mul_le_mul_right _ h2
 simp only[lngRow]at hS
 unfold Dic.head
 generalize homE d.lex id=n at hH hN hnl ⊢
 generalize getE d.lex id=p at hG hS hsl hsl2 ⊢
 obtain⟨e,b⟩:=p
 simp only[Ent.row]at hG hS hsl hsl2 ⊢
 generalize d.sp e.form=s at hS hsl ⊢
 cases b
 ·rw[if_pos rfl]
  refine kd (N:=34) (rs:= [.tmp 4]) Tryz.func16 ?_
  (repeat'(first|apply kA|apply kB|((first|refine kc (N:=34) ?_|apply kD|apply kE|refine kx hG ?_|apply kF);simp +decide only[go_sem,lngRow])|(apply kG;(simp +decide only[go_sem,lngRow];rfl);all_goals(intro hcnd;try exact kz hcnd))))
  rfl
 rw[if_neg (by decide)]
 have z1:(#[(32:UInt8)].size+(numB n).size≤maxLen)=True:=eq_true (by rw[show #[(32:UInt8)].size=1 from rfl];omega)
 have z2:(s.size+(#[(32:UInt8)].size+(numB n).size)≤maxLen)=True:=eq_true (by rw[show #[(32:UInt8)].size=1 from rfl];omega)
 cases t1:decide (0<n)
 ·rw[if_neg (by simpa using t1)]
  refine kd (N:=34) (rs:= [.tmp 4]) Tryz.func16 ?_
  (repeat'(first|apply kA|apply kB|((first|refine kc (N:=34) ?_|apply kD|apply kE|refine kx hG ?_|refine kx hS ?_|refine kx hH ?_|apply kF);simp +decide only[go_sem,lngRow,t1])|(apply kG;(simp +decide only[go_sem,lngRow,t1];rfl);all_goals(intro hcnd;try exact kz hcnd))))
 ·rw[if_pos (by simpa using t1)]
  refine kd (N:=34) (rs:= [.tmp 4]) Tryz.func16 ?_
  (repeat'(first|apply kA|apply kB|((first|refine kc (N:=34) ?_|apply kD|apply kE|refine kx hG ?_|refine kx hS ?_|refine kx hH ?_|refine kx hN ?_|apply kF);simp +decide only[go_sem,lngRow,t1,z1,z2])|(apply kG;(simp +decide only[go_sem,lngRow,t1,z1,z2];rfl);all_goals(intro hcnd;try exact kz hcnd))))
  rfl
theorem strs_at{l:List ByteArray}{k:Nat}{s:ByteArray}(h:l[k]? =some s):(strs l)[k]? =some [ls s]:=by simp[h]
theorem strs_snoc(l:List ByteArray)(s:ByteArray):strs (l++ [s])=strs l++ [[ls s]]:=by simp
theorem joinF_snoc: ∀(l:List ByteArray) (a s:ByteArray),joinF a (l++ [s])=if s.size=0 then joinF a l else if(joinF a l).size=0 then s else joinF a l++comma++s
 | [],a,s=>by
  simp only[List.nil_append,joinF]
  rfl
 | x::l,a,s=>by
  by_cases h:x.size=0
  ·have e1:joinF a (x::l)=joinF a l:=by simp only[joinF];rw[if_pos h]
   have e2:joinF a (x::l++ [s])=joinF a (l++ [s]):=by simp only[List.cons_append,joinF];rw[if_pos h]
   exact e2.trans ((joinF_snoc l a s).trans (by simp only[e1]))
  ·have e1:joinF a (x::l)=joinF (if a.size=0 then x else a++comma++x) l:=by simp only[joinF];rw[if_neg h]
   have e2:joinF a (x::l++ [s])=joinF (if a.size=0 then x else a++comma++x) (l++ [s]):=by simp only[List.cons_append,joinF];rw[if_neg h]
   exact e2.trans ((joinF_snoc l _ s).trans (by simp only[e1]))
theorem joinF_le{B:Nat}: ∀(l:List ByteArray) (a:ByteArray),(∀s∈l,s.size≤B)→(joinF a l).size≤a.size+l.length*(B+2)
 | [],a,_=>by simp[joinF]
 | x::l,a,h=>by
  have hx:=h x (by simp)
  have hl: ∀s∈l,s.size≤B:=fun s hs=>h s (by simp[hs])
  have hc:comma.size=2:=rfl
  simp only[joinF,List.length_cons,Nat.succ_mul]
  split
  ·have:=joinF_le l a hl;omega
  ·split
   ·have:=joinF_le l x hl;omega
   ·have:=joinF_le l (a++comma++x) hl
    rw[ByteArray.size_append,ByteArray.size_append]at this
    omega
theorem size0(s:ByteArray):(s=={ data:= #[] })=(s.size==0):=by
 rw[Bool.eq_iff_iff,bytes_eq]
 constructor
 ·intro h;subst h;rfl
 ·intro h
  have h0:s.size=0:=by simpa using h
  cases s with|mk d=>
  have:d= #[]:=Array.eq_empty_of_size_eq_zero h0
  subst this;rfl
theorem joined_D(l:List ByteArray)(hl:l.length≤1000)(hs: ∀s∈l,s.size≤100000):DCalls Tryz.prog 48 [dv (.sl 1 (strs l))] (dv (ls (joinF ByteArray.empty l))):=by
 have hmax:maxLen=9223372036854775807:=rfl
 refine kd (N:=23) (rs:= [.tmp 2]) Tryz.func48 ?_
 (repeat(first|apply kA|apply kB|((first|refine kc (N:=23) ?_|apply kD|apply kE);simp +decide only[go_sem])))
 refine dw_rng0 l (fun k=>kn 23 [(3,dv (ls (joinF ByteArray.empty (l.take k)))),(6,dv (.sl 1 (strs l))),(7,dv (li l.length)),(8,dv (li k))] noMem) (by omega) (kL rfl (by simp +decide only[go_sem,List.take_zero,joinF,empty_mk]) (by simp[noMem])) ?_ ?_
 ·intro k s he hk hm htk hlt hw
  have hx:=strs_at he
  have hst:joinF ByteArray.empty (l.take (k+1))=if s.size=0 then joinF ByteArray.empty (l.take k)else if(joinF ByteArray.empty (l.take k)).size=0 then s else joinF ByteArray.empty (l.take k)++comma++s:=by rw[htk];exact joinF_snoc _ _ _
  have hle:=joinF_le (l.take k) ByteArray.empty (fun s hs'=>hs s (List.mem_of_mem_take hs'))
  have hsl:=hs s hm
  have hz:(ByteArray.empty).size=0:=rfl
  have h10:(l.take k).length*(100000+2)≤1000*(100000+2):=Nat.mul_le_mul_right _ (by rw[List.length_take];omega)
  generalize joinF ByteArray.empty (l.take k)=a at hst hle ⊢
  have z1:(a.size+ #[(44:UInt8),32].size≤maxLen)=True:=eq_true (by rw[show #[(44:UInt8),32].size=2 from rfl];omega)
  have z2:(a.size+ #[(44:UInt8),32].size+s.size≤maxLen)=True:=eq_true (by rw[show #[(44:UInt8),32].size=2 from rfl];omega)
  have z3:(a.size+s.size≤maxLen)=True:=eq_true (by omega)
  have e1:=size0 s
  have e2:=size0 a
  cases t1:s.size==0
  ·rw[if_neg (by simpa using t1)]at hst
   cases t2:a.size==0
   ·rw[if_neg (by simpa using t2)]at hst
    rw[t1]at e1
    rw[t2]at e2
    (repeat'(first|apply kA|apply kB|((first|refine kc (N:=23) ?_|apply kD|apply kE);simp +decide only[go_sem,hlt,hw,hx,e1,e2,z1,z2])|(apply kG;(simp +decide only[go_sem,hlt,hw,hx,e1,e2,z1,z2];rfl);all_goals(intro hcnd;try exact kz hcnd))))
    exact kL rfl (by simp +decide only[go_sem,hst,comma]) (by simp[noMem])
   ·have ha:a=ByteArray.empty:=by
     have:=size0 a
     rw[t2]at this
     exact(bytes_eq _ _).1 this
    rw[if_pos (by simpa using t2)]at hst
    rw[t1]at e1
    rw[t2]at e2
    subst ha
    (repeat'(first|apply kA|apply kB|((first|refine kc (N:=23) ?_|apply kD|apply kE);simp +decide only[go_sem,hlt,hw,hx,e1,e2,z3])|(apply kG;(simp +decide only[go_sem,hlt,hw,hx,e1,e2,z3];rfl);all_goals(intro hcnd;try exact kz hcnd))))
    exact kL rfl (by simp +decide only[go_sem,hst,ByteArray.empty_append]) (by simp[noMem])
  ·rw[if_pos (by simpa using t1)]at hst
   rw[t1]at e1
   (repeat'(first|apply kA|apply kB|((first|refine kc (N:=23) ?_|apply kD|apply kE);simp +decide only[go_sem,hlt,hw,hx,e1])|(apply kG;(simp +decide only[go_sem,hlt,hw,hx,e1];rfl);all_goals(intro hcnd;try exact kz hcnd))))
   exact kL rfl (by simp +decide only[go_sem,hst]) (by simp[noMem])
 ·intro hlt
  rw[List.take_length]
  (repeat'(first|apply kA|apply kB|((first|refine kc (N:=23) ?_|apply kD|apply kE|apply kF);simp +decide only[go_sem,hlt])|(apply kG;(simp +decide only[go_sem,hlt];rfl);all_goals(intro hcnd;try exact kz hcnd))))
theorem joinR_le2{B:Nat}: ∀(l:List ByteArray) (a:ByteArray),(∀s∈l,s.size≤B)→(l.foldl (fun a t=>a++comma++t) a).size≤a.size+l.length*(B+2)
 | [],a,_=>by simp
 | x::l,a,h=>by
  have hx:=h x (by simp)
  have hc:comma.size=2:=rfl
  simp only[List.foldl_cons,List.length_cons,Nat.succ_mul]
  have:=joinR_le2 l (a++comma++x) (fun s hs=>h s (by simp[hs]))
  rw[ByteArray.size_append,ByteArray.size_append]at this
  omega
theorem joinR_le3{B:Nat}{l:List ByteArray}(h: ∀s∈l,s.size≤B):(joinR l).size≤l.length*(B+2):=by
 cases l with
 | nil=>simp[joinR]
 | cons x l=>
  have hx:=h x (by simp)
  have:=joinR_le2 l x (fun s hs=>h s (by simp[hs]))
  simp only[joinR,List.length_cons,Nat.succ_mul]
  omega
theorem heads_len(d:Dic)(ids:List Int):(d.heads ids).length=ids.length:=by simp[Dic.heads]
theorem heads_take{d:Dic}{ids:List Int}{k:Nat}{n:Int}(h:ids.take (k+1)=ids.take k++ [n]):strs (d.heads (ids.take (k+1)))=strs (d.heads (ids.take k))++ [[ls (d.head n)]]:=by
 rw[h];simp[Dic.heads]
theorem heads_le{d:Dic}(hd:OkD d)(ids:List Int): ∀s∈d.heads ids,s.size≤400:=fun s hs=>by
 obtain⟨n,_,rfl⟩:=List.mem_map.1 hs
 exact head_le hd n
theorem heads_D(x:LX){d:Dic}(hd:OkD d)(ids:List Int)(hl:ids.length≤1000):DCalls Tryz.prog 51 [.agg (lngRow x d),dv (.sl 1 (ints ids))] (dv (.sl 1 (strs (d.heads ids)))):=by
 have hmax:maxLen=9223372036854775807:=rfl
 refine kd (N:=22) (rs:= [.tmp 4]) Tryz.func51 ?_
 (repeat'(first|apply kA|apply kB|((first|refine kc (N:=22) ?_|apply kD|apply kE);simp +decide only[go_sem,lngRow])|(apply kG;(simp +decide only[go_sem,lngRow];rfl);all_goals(intro hcnd;try exact kz hcnd))))
 refine dw_own 5 5 1 (by simp +decide only[go_sem]) ?_
 refine dw_rng0 ids (fun k=>kn 22 [(2,.one (.bx 2 9 0 0)),(5,.one (.own 5 1 (strs (d.heads (ids.take k))))),(8,dv (.sl 1 (ints ids))),(9,dv (li ids.length)),(10,dv (li k))] (ml [(2,[lngRow x d])])) (by omega) (kM rfl (by simp +decide only[go_sem,List.take_zero,Dic.heads,List.map_nil,lngRow,List.length_cons,List.length_nil]) (by simp +decide only[go_sem,lngRow])) ?_ ?_
 ·intro k n he hk hm htk hlt hw
  have hx:=ints_at2 he
  have hH:=head_D x hd n
  simp only[lngRow]at hH
  have hst:=heads_take (d:=d) htk
  have hkl:(d.heads (ids.take k)).length=k:=by rw[heads_len,List.length_take];omega
  have r1:(((d.heads (ids.take k)).length+1)*16≤140737488355328)=True:=eq_true (by omega)
  (repeat'(first|apply kA|apply kB|((first|refine kc (N:=22) ?_|apply kD|apply kE|refine kx hH ?_);simp +decide only[go_sem,hlt,hw,hx,lngRow,r1])|(apply kG;(simp +decide only[go_sem,hlt,hw,hx,lngRow,r1];rfl);all_goals(intro hcnd;try exact kz hcnd))))
  exact kM rfl (by simp +decide only[go_sem,hst]) (by simp +decide only[go_sem,lngRow])
 ·intro hlt
  rw[List.take_length]
  (repeat'(first|apply kA|apply kB|((first|refine kc (N:=22) ?_|apply kD|apply kE);simp +decide only[go_sem,hlt])|(apply kG;(simp +decide only[go_sem,hlt];rfl);all_goals(intro hcnd;try exact kz hcnd))))
  refine dw_slot 4 _ (DLe.own_ _ _ _) ?_
  apply kF;simp +decide only[go_sem]
theorem kind_D(k:Nat)(hk:k<6):DCalls Tryz.prog 87 [dv (li k)] (dv (ls (kindS k))):=by
 match k,hk with
 | 0,_=>
  refine kd (N:=14) (rs:= [.tmp 2]) Tryz.func87 ?_
  (repeat'(first|apply kA|apply kB|((first|refine kc (N:=14) ?_|apply kD|apply kE|apply kF);simp +decide only[go_sem])|(apply kG;(simp +decide only[go_sem];rfl);all_goals(intro hcnd;try exact kz hcnd))))
  rfl
 | 1,_=>
  refine kd (N:=14) (rs:= [.tmp 2]) Tryz.func87 ?_
  (repeat'(first|apply kA|apply kB|((first|refine kc (N:=14) ?_|apply kD|apply kE|apply kF);simp +decide only[go_sem])|(apply kG;(simp +decide only[go_sem];rfl);all_goals(intro hcnd;try exact kz hcnd))))
  rfl
 | 2,_=>
  refine kd (N:=14) (rs:= [.tmp 2]) Tryz.func87 ?_
  (repeat'(first|apply kA|apply kB|((first|refine kc (N:=14) ?_|apply kD|apply kE|apply kF);simp +decide only[go_sem])|(apply kG;(simp +decide only[go_sem];rfl);all_goals(intro hcnd;try exact kz hcnd))))
  rfl
 | 3,_=>
  refine kd (N:=14) (rs:= [.tmp 2]) Tryz.func87 ?_
  (repeat'(first|apply kA|apply kB|((first|refine kc (N:=14) ?_|apply kD|apply kE|apply kF);simp +decide only[go_sem])|(apply kG;(simp +decide only[go_sem];rfl);all_goals(intro hcnd;try exact kz hcnd))))
  rfl
 | 4,_=>
  refine kd (N:=14) (rs:= [.tmp 2]) Tryz.func87 ?_
  (repeat'(first|apply kA|apply kB|((first|refine kc (N:=14) ?_|apply kD|apply kE|apply kF);simp +decide only[go_sem])|(apply kG;(simp +decide only[go_sem];rfl);all_goals(intro hcnd;try exact kz hcnd))))
  rfl
 | 5,_=>
  refine kd (N:=14) (rs:= [.tmp 2]) Tryz.func87 ?_
  (repeat'(first|apply kA|apply kB|((first|refine kc (N:=14) ?_|apply kD|apply kE|apply kF);simp +decide only[go_sem])|(apply kG;(simp +decide only[go_sem];rfl);all_goals(intro hcnd;try exact kz hcnd))))
  rfl
end Go.Proofs.YtehdkccjaeckhaaGreatDoor
namespace Go.Proofs.YtehdkccjaeckhaaGreatDoor
abbrev kpn16:List (Nat×Go.Dl.Mode):= [(0,.light),(1,.light),(2,.light),(3,.light),(4,.light),(5,.light),(6,.light),(7,.light),(8,.light),(9,.light),(10,.light),(11,.step),(12,.light)]
abbrev kq14:Nat→List (Nat×Go.Dl.Mode):=fun n=>match n with|13=>kpn16|_=> []
end Go.Proofs.YtehdkccjaeckhaaGreatDoor
namespace Go.Proofs.YtehdkccjaeckhaaGreatDoor
open Go.Dl
open S (usort)
attribute [local irreducible] DW DCalls ECalls wk IW
theorem mx{n:Nat}(h:n≤9223372036854775807):(n≤maxLen)=True:=eq_true h
def kindT(l:List Lnk)(k:Nat):List Int:=(l.filter fun x=>x.kind==(k:Int)).map (·.tgt)
theorem kindT_snoc(l:List Lnk)(x:Lnk)(k:Nat):kindT (l++ [x]) k=kindT l k++if(x.kind==(k:Int))=true then [x.tgt]else []:=by
 unfold kindT
 rw[List.filter_append,List.map_append]
 congr 1
 by_cases h:(x.kind==(k:Int))=true<;>simp[h]
theorem kindT_len(l:List Lnk)(k:Nat):(kindT l k).length≤l.length:=by
 unfold kindT;rw[List.length_map];exact List.length_filter_le _ _
theorem kindS_le(k:Nat):(kindS k).size≤8:=by
 unfold kindS
 split<;>decide
theorem links_few{d:Dic}(hd:OkD d){e:Ent}(he:e∈d.lex):e.links.length≤12∧e.senses.length≤5:=by
 have h:=hd.each e he
 unfold checkE at h
 split at h
 ·omega
 ·split at h
  ·rename_i h2;exact absurd h h2
  ·split at h
   ·rename_i h2;exact absurd h h2
   ·split at h
    ·rename_i h2;exact absurd h h2
    ·rename_i h3 h4
     constructor
     ·unfold linksE at h4
      by_cases hl:12<e.links.length
      ·rw[if_pos hl]at h4;exact absurd (by decide) h4
      ·omega
     ·have h3':sensesE e=0:=by simpa using h3
      unfold sensesE at h3'
      by_cases hl:5<e.senses.length
      ·split at h3'
       ·omega
       ·split at h3'
        ·omega
        ·omega
      ·omega
theorem kind_join{d:Dic}(hd:OkD d){e:Ent}(he:e∈d.lex)(k:Nat):joinF ByteArray.empty (d.heads (kindIds e k))=joinR (d.heads (kindIds e k)):=
 joinF_eq _ (heads_size hd.toRightD (links_has hd.toRightD he k))
theorem range_flat{α:Type}(f:Nat→List α)(k:Nat):(List.range (k+1)).flatMap f=(List.range k).flatMap f++f k:=by
 rw[List.range_succ,List.flatMap_append];simp
theorem kindL_len(d:Dic)(e:Ent)(k:Nat):(d.kindL e k).length≤1:=by
 unfold Dic.kindL;split<;>simp
def Dic.linkP(d:Dic)(e:Ent)(k:Nat):List ByteArray:=(List.range k).flatMap (d.kindL e)
theorem linkP_zero(d:Dic)(e:Ent):d.linkP e 0= []:=rfl
theorem linkP_succ(d:Dic)(e:Ent)(k:Nat):d.linkP e (k+1)=d.linkP e k++d.kindL e k:=range_flat _ _
theorem flat_len(d:Dic)(e:Ent): ∀k,(d.linkP e k).length≤k
 | 0=>by simp[linkP_zero]
 | k+1=>by
  rw[linkP_succ,List.length_append]
  have:=flat_len d e k
  have:=kindL_len d e k
  omega
theorem links56_D(x:LX){d:Dic}(hd:OkD d){e:Ent}(he:e∈d.lex):DCalls Tryz.prog 49 [.agg (lngRow x d),.agg e.row] (dv (.sl 1 (strs (d.links e)))):=by
 have hmax:maxLen=9223372036854775807:=rfl
 have hlk:=(links_few hd he).1
 refine kd (N:=47) (rs:= [.tmp 4]) Tryz.func49 ?_
 (repeat'(first|apply kA|apply kB|((first|refine kc (N:=47) ?_|refine kj (N:=47) kq14 ?_|apply kD|apply kE);simp +decide only[go_sem,lngRow,Ent.row])|(apply kG;(simp +decide only[go_sem,lngRow,Ent.row];rfl);all_goals(intro hcnd;try exact kz hcnd))))
 refine dw_own 5 5 1 (by simp +decide only[go_sem]) ?_
 refine dw_loop_fam (fun k:Nat=>kn 47 [(2,.one (.bx 2 9 0 0)),(3,.one (.bx 3 8 0 0)),(5,.one (.own 5 1 (strs (d.linkP e k)))),(6,dv (li k))] (ml [(2,[lngRow x d]),(3,[e.row])])) (fun k=>k≤6) (fun k=>6 - k) 0
  (kM rfl (by simp +decide only[go_sem,lngRow,Ent.row,linkP_zero,List.map_nil,List.length_cons,List.length_nil]) (by simp +decide only[go_sem,lngRow,Ent.row])) (by omega) ?_
 intro k hk
 have hfl:=flat_len d e k
 have r1:(((d.linkP e k).length+1)*16≤140737488355328)=True:=eq_true (by omega)
 by_cases k6:k<6
 ·have t1:((k:Int)≤5)=True:=by simp;omega
  (repeat'(first|apply kA|apply kB|((first|refine kc (N:=47) ?_|refine kj (N:=47) kq14 ?_|apply kD|apply kE);simp +decide only[go_sem,t1,lngRow,Ent.row])|(apply kG;(simp +decide only[go_sem,t1,lngRow,Ent.row];rfl);all_goals(intro hcnd;try exact kz hcnd))))
  refine dw_own 7 7 1 (by simp +decide only[go_sem]) ?_
  refine dw_after (fun _:Unit=>kn 47 [(2,.one (.bx 2 9 0 0)),(3,.one (.bx 3 8 0 0)),(5,.one (.own 5 1 (strs (d.linkP e k)))),(6,dv (li k)),(7,.one (.own 7 1 (ints (kindIds e k))))] (ml [(2,[lngRow x d]),(3,[e.row])])) (fun _=>True) ?_ ?_
  ·refine dw_rng0 e.links (fun j=>kn 47 [(2,.one (.bx 2 9 0 0)),(3,.one (.bx 3 8 0 0)),(5,.one (.own 5 1 (strs (d.linkP e k)))),(6,dv (li k)),(7,.one (.own 7 1 (ints (kindT (e.links.take j) k)))),(15,dv (.sl 2 (e.links.map Lnk.enc))),(16,dv (li e.links.length)),(17,dv (li j))] (ml [(2,[lngRow x d]),(3,[e.row])])) (by omega)
    (kM rfl (by simp +decide only[go_sem,lngRow,Ent.row,List.take_zero,kindT,List.filter_nil,List.map_nil,List.length_cons,List.length_nil]) (by simp +decide only[go_sem,lngRow,Ent.row])) ?_ ?_
   ·intro j y hy hj hm htk hlt hw
    have hst:=kindT_snoc (e.links.take j) y k
    rw[← htk]at hst
    have hln:=kindT_len (e.links.take j) k
    have r2:(((kindT (e.links.take j) k).length+1)*8≤140737488355328)=True:=eq_true (by rw[List.length_take]at hln;omega)
    cases t2:y.kind==(k:Int)
    ·rw[t2,if_neg (by decide),List.append_nil]at hst
     (repeat'(first|apply kA|apply kB|((first|refine kc (N:=47) ?_|refine kj (N:=47) kq14 ?_|apply kD|apply kE);simp +decide only[go_sem,hlt,hw,hy,t2,r2,Lnk.enc,lngRow,Ent.row])|(apply kG;(simp +decide only[go_sem,hlt,hw,hy,t2,r2,Lnk.enc,lngRow,Ent.row];rfl);all_goals(intro hcnd;try exact kz hcnd))))
     exact kM rfl (by simp +decide only[go_sem,hst,lngRow,Ent.row]) (by simp +decide only[go_sem,lngRow,Ent.row])
    ·rw[t2,if_pos rfl]at hst
     have hst2:ints (kindT (e.links.take (j+1)) k)=ints (kindT (e.links.take j) k)++ [[li y.tgt]]:=by rw[hst];simp
     (repeat'(first|apply kA|apply kB|((first|refine kc (N:=47) ?_|refine kj (N:=47) kq14 ?_|apply kD|apply kE);simp +decide only[go_sem,hlt,hw,hy,t2,r2,Lnk.enc,lngRow,Ent.row])|(apply kG;(simp +decide only[go_sem,hlt,hw,hy,t2,r2,Lnk.enc,lngRow,Ent.row];rfl);all_goals(intro hcnd;try exact kz hcnd))))
     exact kM rfl (by simp +decide only[go_sem,hst2,lngRow,Ent.row]) (by simp +decide only[go_sem,lngRow,Ent.row])
   ·intro hlt
    rw[List.take_length]
    have hki:kindT e.links k=kindIds e k:=rfl
    (repeat'(first|apply kA|apply kB|((first|refine kc (N:=47) ?_|refine kj (N:=47) kq14 ?_|apply kD|apply kE);simp +decide only[go_sem,hlt])|(apply kG;(simp +decide only[go_sem,hlt];rfl);all_goals(intro hcnd;try exact kz hcnd))))
    exact⟨(),kM rfl (by simp +decide only[go_sem,lngRow,Ent.row,hki]) (by simp +decide only[go_sem,lngRow,Ent.row])⟩
  rintro _ _
  have hkl:(kindIds e k).length≤12:=Nat.le_trans (kindT_len e.links k) hlk
  have hH:=heads_D x hd (kindIds e k) (by omega)
  have hJ:=joined_D (d.heads (kindIds e k)) (by rw[heads_len];omega) (fun s hs=>by have:=heads_le hd (kindIds e k) s hs;omega)
  have hjs:=joinF_le (d.heads (kindIds e k)) ByteArray.empty (heads_le hd (kindIds e k))
  have hz:(ByteArray.empty).size=0:=rfl
  rw[heads_len]at hjs
  have h10:(kindIds e k).length*(400+2)≤12*(400+2):=Nat.mul_le_mul_right _ hkl
  rw[kind_join hd he]at hJ hjs
  have hK:=kind_D k k6
  have hks:=kindS_le k
  have hst:=linkP_succ d e k
  have w1:IntKind.i64.wrap ((k:Int)+1)=((k+1:Nat):Int):=wrap_succ k (by omega)
  simp only[lngRow]at hH
  unfold Dic.kindL at hst
  by_cases h0:kindIds e k= []
  ·rw[if_pos h0,List.append_nil]at hst
   have t3:((0:Int)<((kindIds e k).length:Int))=False:=by rw[h0];simp
   (repeat'(first|apply kA|apply kB|((first|refine kc (N:=47) ?_|refine kj (N:=47) kq14 ?_|apply kD|apply kE);simp +decide only[go_sem,t3,w1,lngRow,Ent.row])|(apply kG;(simp +decide only[go_sem,t3,w1,lngRow,Ent.row];rfl);all_goals(intro hcnd;try exact kz hcnd))))
   exact⟨k+1,by omega,by omega,kM rfl (by simp +decide only[go_sem,hst,lngRow,Ent.row]) (by simp +decide only[go_sem,lngRow,Ent.row])⟩
  ·rw[if_neg h0]at hst
   have hp:0<(kindIds e k).length:=List.length_pos_iff.2 h0
   have t3:((0:Int)<((kindIds e k).length:Int))=True:=by simp;omega
   generalize hks':kindS k=ks at hK hks hst
   generalize hjj:joinR (d.heads (kindIds e k))=jj at hJ hjs hst
   have z1:(#[(32:UInt8),32].size+ks.size≤maxLen)=True:=mx (by simp only[List.size_toArray,List.length_cons,List.length_nil];omega)
   have z2:(#[(32:UInt8),32].size+ks.size+ #[(58:UInt8),32].size≤maxLen)=True:=mx (by simp only[List.size_toArray,List.length_cons,List.length_nil];omega)
   have z3:(#[(32:UInt8),32].size+ks.size+ #[(58:UInt8),32].size+jj.size≤maxLen)=True:=mx (by simp only[List.size_toArray,List.length_cons,List.length_nil];omega)
   (repeat'(first|apply kA|apply kB|((first|refine kc (N:=47) ?_|refine kj (N:=47) kq14 ?_|apply kD|apply kE|refine kx hK ?_|refine kx hH ?_|refine kx hJ ?_);simp +decide only[go_sem,t3,w1,z1,z2,z3,r1,lngRow,Ent.row])|(apply kG;(simp +decide only[go_sem,t3,w1,z1,z2,z3,r1,lngRow,Ent.row];rfl);all_goals(intro hcnd;try exact kz hcnd))))
   have hst2:strs (d.linkP e (k+1))=strs (d.linkP e k)++ [[ls (({ data:= #[32,32] }:ByteArray)++ks++{ data:= #[58,32] }++jj)]]:=by
    rw[← strs_snoc,hst]
    rfl
   exact⟨k+1,by omega,by omega,kM rfl (by simp +decide only[go_sem,hst2,lngRow,Ent.row]) (by simp +decide only[go_sem,lngRow,Ent.row])⟩
 ·have t1:((k:Int)≤5)=False:=by simp;omega
  have e6:k=6:=by omega
  (repeat'(first|apply kA|apply kB|((first|refine kc (N:=47) ?_|refine kj (N:=47) kq14 ?_|apply kD|apply kE);simp +decide only[go_sem,t1,lngRow,Ent.row])|(apply kG;(simp +decide only[go_sem,t1,lngRow,Ent.row];rfl);all_goals(intro hcnd;try exact kz hcnd))))
  refine dw_slot 4 _ (DLe.own_ _ _ _) ?_
  apply kF;simp +decide only[go_sem]
  rw[e6];rfl
end Go.Proofs.YtehdkccjaeckhaaGreatDoor
namespace Go.Proofs.YtehdkccjaeckhaaGreatDoor
abbrev kpn17:List (Nat×Go.Dl.Mode):= [(0,.light),(1,.light),(2,.light),(3,.light),(4,.light),(5,.light),(6,.light),(7,.light),(8,.light),(9,.light),(10,.light)]
abbrev kq15:Nat→List (Nat×Go.Dl.Mode):=fun n=>match n with|5=>kpn17|19=>kpn3|_=> []
end Go.Proofs.YtehdkccjaeckhaaGreatDoor
namespace Go.Proofs.YtehdkccjaeckhaaGreatDoor
open Go.Dl
open S (usort)
attribute [local irreducible] DW DCalls ECalls wk IW
section
variable {P : Program} {s : DS} {Q : Exit → DS → Prop}
theorem dw_condT{c:Operand}{x y:Code}(hc:s.ev c= .one (.c (.lit (.bool true))))(h:DW P x s Q):DW P (.cond c x y) s Q:=kG hc (fun _=>h) (fun h=>by cases h)
theorem dw_condF{c:Operand}{x y:Code}(hc:s.ev c= .one (.c (.lit (.bool false))))(h:DW P y s Q):DW P (.cond c x y) s Q:=kG hc (fun h=>by cases h) (fun _=>h)
end
def senP(l:List Sns)(k:Nat):List ByteArray:=(l.take k).mapIdx senseS
theorem senP_zero(l:List Sns):senP l 0= []:=rfl
theorem senP_succ{l:List Sns}{k:Nat}{s:Sns}(h:l[k]? =some s):senP l (k+1)=senP l k++ [senseS k s]:=by
 have hk:k<l.length:=(List.getElem?_eq_some_iff.1 h).1
 unfold senP
 rw[List.take_add_one,h]
 simp only[Option.toList_some,List.mapIdx_append,List.mapIdx_cons,List.mapIdx_nil,List.length_take]
 rw[Nat.min_eq_left (by omega),Nat.zero_add]
theorem senP_all(l:List Sns):senP l l.length=l.mapIdx senseS:=by unfold senP;rw[List.take_length]
theorem senP_len(l:List Sns)(k:Nat):(senP l k).length≤l.length:=by unfold senP;rw[List.length_mapIdx,List.length_take];omega
theorem alts_take{d:Dic}{l:List (List Int)}{k:Nat}{w:List Int}(h:l.take (k+1)=l.take k++ [w]):strs ((l.take (k+1)).map d.sp)=strs ((l.take k).map d.sp)++ [[ls (d.sp w)]]:=by
 rw[h];simp
theorem alt_at{l:List (List Int)}{k:Nat}{w:List Int}(h:l[k]? =some w):(l.map altC)[k]? =some [.sl 1 (ints w)]:=by simp[h]
theorem links_len{d:Dic}(e:Ent):(d.links e).length≤6:=flat_len d e 6
theorem all_len(l:List Ent)(id:Int):(allE l id).length≤l.length:=idsOf_len l _
theorem article_D(x:LX){d:Dic}(hd:OkD d)(id:Int):DCalls Tryz.prog 22 [.agg (lngRow x d),dv (li id)] (dv (.sl 1 (strs (d.article id)))):=by
 have hmax:maxLen=9223372036854775807:=rfl
 have hf:=hd.few
 have hG:=get_D d.lex id (by omega)
 have hH:=head_D x hd id
 have hhl:=head_le hd id
 have hmem:(getE d.lex id).2=true→(getE d.lex id).1∈d.lex∧(getE d.lex id).1.id=id:=fun h=>getE_mem h
 unfold Dic.article
 generalize getE d.lex id=p at hG hmem ⊢
 obtain⟨e,b⟩:=p
 simp only[Ent.row]at hG hmem ⊢
 simp only[lngRow]at hH
 cases b
 ·rw[if_pos rfl]
  refine kd (N:=117) (rs:= [.tmp 4]) Tryz.func22 ?_
  (repeat'(first|apply kA|apply kB|((first|refine kc (N:=117) ?_|refine kj (N:=117) kq15 ?_|apply kD|apply kE|refine kx hG ?_);simp +decide only[go_sem,lngRow])|(apply kG;(simp +decide only[go_sem,lngRow];rfl);all_goals(intro hcnd;try exact kz hcnd))))
  refine dw_slot 4 _ (DLe.nil_ 1) ?_
  apply kF;simp +decide only[go_sem]
 rw[if_neg (by decide)]
 obtain⟨he,hid⟩:=hmem rfl
 have hM:=head_D x hd e.main
 have hml:=head_le hd e.main
 simp only[lngRow]at hM
 by_cases h0:e.senses= []
 ·rw[if_pos h0]
  have t1:((e.senses.length:Int)==0)=true:=by rw[h0];rfl
  generalize d.head id=hh at hH hhl ⊢
  generalize d.head e.main=hm at hM hml ⊢
  have z1:(hh.size+ #[(58:UInt8),32,115,101,101,32].size≤maxLen)=True:=mx (by simp only[List.size_toArray,List.length_cons,List.length_nil];omega)
  have z2:(hh.size+ #[(58:UInt8),32,115,101,101,32].size+hm.size≤maxLen)=True:=mx (by simp only[List.size_toArray,List.length_cons,List.length_nil];omega)
  refine kd (N:=117) (rs:= [.tmp 4]) Tryz.func22 ?_
  (repeat'(first|apply kA|apply kB|((first|refine kc (N:=117) ?_|refine kj (N:=117) kq15 ?_|apply kD|apply kE|refine kx hG ?_|refine kx hH ?_|refine kx hM ?_);simp +decide only[go_sem,lngRow,t1,z1,z2])|(apply kG;(simp +decide only[go_sem,lngRow,t1,z1,z2];rfl);all_goals(intro hcnd;try exact kz hcnd))))
  refine dw_slot 4 _ (DLe.ex_ _ _) ?_
  apply kF;simp +decide only[go_sem]
  rfl
 rw[if_neg h0]
 have hsl:e.senses.length≠0:=by simpa using h0
 have hsf:=(links_few hd he).2
 have t1:((e.senses.length:Int)==0)=false:=by rw[beq_eq_false_iff_ne];omega
 have hna:=hd.nalt e he
 have hmid:=hd.mid e he
 refine kd (N:=117) (rs:= [.tmp 4]) Tryz.func22 ?_
 (repeat'(first|apply kA|apply kB|((first|refine kc (N:=117) ?_|refine kj (N:=117) kq15 ?_|apply kD|apply kE|refine kx hG ?_|refine kx hH ?_);simp +decide only[go_sem,lngRow,t1])|(refine dw_condT ?_ ?_;focus (simp +decide only[go_sem,lngRow,t1];done))|(refine dw_condF ?_ ?_;focus (simp +decide only[go_sem,lngRow,t1];done))))
 -- the alternatives
 refine dw_afterN (fun _:Unit=>kn 117 [(1,dv (li id)),(2,.one (.bx 2 9 0 0)),(5,.one (.bx 5 8 0 0)),(7,dv (ls (d.first e)))] (ml [(2,[lngRow x d]),(5,[e.row])])) (fun _=>True) ?_ ?_
 ·by_cases ha:e.alts= []
  ·have t2:((0:Int)<(e.alts.length:Int))=False:=by rw[ha];simp
   have hfe:d.first e=d.head id:=by unfold Dic.first;rw[if_pos ha,hid]
   (repeat'(first|apply kA|apply kB|((first|refine kc (N:=117) ?_|refine kj (N:=117) kq15 ?_|apply kD|apply kE);simp +decide only[go_sem,t2,lngRow,Ent.row])|(apply kG;(simp +decide only[go_sem,t2,lngRow,Ent.row];rfl);all_goals(intro hcnd;try exact kz hcnd))))
   exact⟨(),kM rfl (by simp +decide only[go_sem,hfe,lngRow,Ent.row]) (by simp +decide only[go_sem,lngRow,Ent.row])⟩
  ·have hap:0<e.alts.length:=List.length_pos_iff.2 ha
   have t2:((0:Int)<(e.alts.length:Int))=True:=by simp;omega
   have hfe:d.first e=d.head id++(tildeS++joinR (e.alts.map d.sp)):=by unfold Dic.first;rw[if_neg ha,hid]
   have hsz: ∀s∈e.alts.map d.sp,s.size≤96:=fun s hs=>by
    obtain⟨w,hw,rfl⟩:=List.mem_map.1 hs
    have h1:=sp_le hd w
    have h2:=hd.alt e he w hw
    have:w.length*32≤3*32:=Nat.mul_le_mul_right _ h2
    omega
   have hJ:=joined_D (e.alts.map d.sp) (by rw[List.length_map];omega) (fun s hs=>by have:=hsz s hs;omega)
   rw[joinF_eq _ (alts_size hd.toRightD he)]at hJ
   have hjl:=joinR_le3 hsz
   rw[List.length_map]at hjl
   have h10:e.alts.length*(96+2)≤1*(96+2):=Nat.mul_le_mul_right _ hna
   generalize hjj:joinR (e.alts.map d.sp)=jj at hJ hjl hfe
   have z1:(#[(32:UInt8),126,32].size+jj.size≤maxLen)=True:=mx (by simp only[List.size_toArray,List.length_cons,List.length_nil];omega)
   have z2:((d.head id).size+(#[(32:UInt8),126,32].size+jj.size)≤maxLen)=True:=mx (by simp only[List.size_toArray,List.length_cons,List.length_nil];omega)
   (repeat'(first|apply kA|apply kB|((first|refine kc (N:=117) ?_|refine kj (N:=117) kq15 ?_|apply kD|apply kE);simp +decide only[go_sem,t2,lngRow,Ent.row])|(apply kG;(simp +decide only[go_sem,t2,lngRow,Ent.row];rfl);all_goals(intro hcnd;try exact kz hcnd))))
   refine dw_own 8 8 1 (by simp +decide only[go_sem]) ?_
   refine dw_rng0 e.alts (fun j=>kn 117 [(1,dv (li id)),(2,.one (.bx 2 9 0 0)),(5,.one (.bx 5 8 0 0)),(7,dv (ls (d.head id))),(8,.one (.own 8 1 (strs ((e.alts.take j).map d.sp)))),(47,dv (.sl 1 (e.alts.map altC))),(48,dv (li e.alts.length)),(49,dv (li j))] (ml [(2,[lngRow x d]),(5,[e.row])])) (by omega)
    (kM rfl (by simp +decide only[go_sem,lngRow,Ent.row,List.take_zero,List.map_nil,List.length_cons,List.length_nil]) (by simp +decide only[go_sem,lngRow,Ent.row])) ?_ ?_
   ·intro j w hy hj hm htk hlt hw
    have hS:=spelled_D x hd w (by have:=hd.alt e he w hm;omega)
    simp only[lngRow]at hS
    have hst:=alts_take (d:=d) htk
    have hat:=alt_at hy
    have hll:((e.alts.take j).map d.sp).length=j:=by rw[List.length_map,List.length_take];omega
    have r2:((((e.alts.take j).map d.sp).length+1)*16≤140737488355328)=True:=eq_true (by omega)
    have r3:(((e.alts.take j).length+1)*16≤140737488355328)=True:=eq_true (by rw[List.length_take];omega)
    (repeat'(first|apply kA|apply kB|((first|refine kc (N:=117) ?_|refine kj (N:=117) kq15 ?_|apply kD|apply kE|refine kx hS ?_);simp +decide only[go_sem,hlt,hw,hat,r2,r3,lngRow,Ent.row])|(apply kG;(simp +decide only[go_sem,hlt,hw,hat,r2,r3,lngRow,Ent.row];rfl);all_goals(intro hcnd;try exact kz hcnd))))
    exact kM rfl (by simp +decide only[go_sem,hst,lngRow,Ent.row]) (by simp +decide only[go_sem,lngRow,Ent.row])
   ·intro hlt
    rw[List.take_length]
    (repeat'(first|apply kA|apply kB|((first|refine kc (N:=117) ?_|refine kj (N:=117) kq15 ?_|apply kD|apply kE|refine kx hJ ?_);simp +decide only[go_sem,hlt,z1,z2,lngRow,Ent.row])|(apply kG;(simp +decide only[go_sem,hlt,z1,z2,lngRow,Ent.row];rfl);all_goals(intro hcnd;try exact kz hcnd))))
    exact⟨(),kM rfl (by simp +decide only[go_sem,hfe,tildeS,lngRow,Ent.row]) (by simp +decide only[go_sem,lngRow,Ent.row])⟩
 rintro _ _
 have hL:=links56_D x hd he
 have hV:=all_D d.lex id (by omega) hd.up
 have hll:=links_len (d:=d) e
 have hal:=all_len d.lex id
 simp only[lngRow,Ent.row]at hL
 (repeat'(first|apply kA|apply kB|((first|refine kc (N:=117) ?_|refine kj (N:=117) kq15 ?_|apply kD|apply kE);simp +decide only[go_sem,lngRow,Ent.row])|(refine dw_condT ?_ ?_;focus (simp +decide only[go_sem,lngRow,Ent.row];done))|(refine dw_condF ?_ ?_;focus (simp +decide only[go_sem,lngRow,Ent.row];done))))
 refine dw_ownX (xs:= [[ls (d.first e)]]) 11 11 1 (by simp +decide only[go_sem]) ?_
 refine dw_rng0 e.senses (fun k=>kn 117 [(1,dv (li id)),(2,.one (.bx 2 9 0 0)),(5,.one (.bx 5 8 0 0)),(11,.one (.own 11 1 (strs (d.first e::senP e.senses k)))),(68,dv (.sl 2 (e.senses.map Sns.enc))),(69,dv (li e.senses.length)),(70,dv (li k))] (ml [(2,[lngRow x d]),(5,[e.row])])) (by omega)
  (kM rfl (by simp +decide only[go_sem,lngRow,Ent.row,senP_zero,List.map_cons,List.map_nil,List.length_cons,List.length_nil]) (by simp +decide only[go_sem,lngRow,Ent.row])) ?_ ?_
 ·intro k s hs1 hk hm htk hlt hw
  have hst:=senP_succ hs1
  have hsl2:=senP_len e.senses k
  have r1:(((senP e.senses k).length+1+1)*16≤140737488355328)=True:=eq_true (by omega)
  have hN:=textN_D ((k+1:Nat):Int) (by omega) (by omega)
  have hnl:=numB_le (n:=((k+1:Nat):Int)) (by omega) (by omega)
  have hcast:((k:Int)+1)=((k+1:Nat):Int):=by omega
  have hstr:=hmid.strs s hm
  unfold senseS at hst
  rw[hcast]at hst
  generalize numB ((k+1:Nat):Int)=nb at hN hnl hst
  have z1:(#[(32:UInt8),32].size+nb.size≤maxLen)=True:=mx (by simp only[List.size_toArray,List.length_cons,List.length_nil];omega)
  have z2:(#[(32:UInt8),32].size+nb.size+ #[(46:UInt8),32].size≤maxLen)=True:=mx (by simp only[List.size_toArray,List.length_cons,List.length_nil];omega)
  have z3:(#[(32:UInt8),32].size+nb.size+ #[(46:UInt8),32].size+s.gloss.size≤maxLen)=True:=mx (by simp only[List.size_toArray,List.length_cons,List.length_nil];omega)
  have z4:(#[(58:UInt8),32].size+s.txt.size≤maxLen)=True:=mx (by simp only[List.size_toArray,List.length_cons,List.length_nil];omega)
  have z5:(#[(32:UInt8),32].size+nb.size+ #[(46:UInt8),32].size+s.gloss.size+(#[(58:UInt8),32].size+s.txt.size)≤maxLen)=True:=mx (by simp only[List.size_toArray,List.length_cons,List.length_nil];omega)
  have e1:=size0 s.txt
  cases t2:s.txt.size==0
  ·rw[t2]at e1
   rw[if_pos (by simpa using t2)]at hst
   (repeat'(first|apply kA|apply kB|((first|refine kc (N:=117) ?_|refine kj (N:=117) kq15 ?_|apply kD|apply kE|refine kx hN ?_);simp +decide only[go_sem,hlt,hw,hs1,e1,z1,z2,z3,z4,z5,r1,Sns.enc,lngRow,Ent.row])|(apply kG;(simp +decide only[go_sem,hlt,hw,hs1,e1,z1,z2,z3,z4,z5,r1,Sns.enc,lngRow,Ent.row];rfl);all_goals(intro hcnd;try exact kz hcnd))))
   refine kM rfl (by simp +decide only[go_sem,hst,lngRow,Ent.row,List.map_append,List.map_cons,List.map_nil,two,dotS,colonS]) (by simp +decide only[go_sem,lngRow,Ent.row])
  ·rw[t2]at e1
   rw[if_neg (by simpa using t2)]at hst
   (repeat'(first|apply kA|apply kB|((first|refine kc (N:=117) ?_|refine kj (N:=117) kq15 ?_|apply kD|apply kE|refine kx hN ?_);simp +decide only[go_sem,hlt,hw,hs1,e1,z1,z2,z3,z4,z5,r1,Sns.enc,lngRow,Ent.row])|(apply kG;(simp +decide only[go_sem,hlt,hw,hs1,e1,z1,z2,z3,z4,z5,r1,Sns.enc,lngRow,Ent.row];rfl);all_goals(intro hcnd;try exact kz hcnd))))
   refine kM rfl (by simp +decide only[go_sem,hst,lngRow,Ent.row,List.map_append,List.map_cons,List.map_nil,two,dotS,colonS]) (by simp +decide only[go_sem,lngRow,Ent.row])
 ·intro hlt
  have hsl2:=senP_len e.senses e.senses.length
  have hfull:d.full e=(d.first e::senP e.senses e.senses.length)++d.links e++(if allE d.lex id= []then []else [varS++joinR (d.heads (allE d.lex id))]):=by unfold Dic.full;rw[senP_all,hid];rfl
  rw[hfull]
  have r1:(((senP e.senses e.senses.length).length+1+(d.links e).length)*16≤140737488355328)=True:=eq_true (by omega)
  have r2:(((senP e.senses e.senses.length).length+1+(d.links e).length+1)*16≤140737488355328)=True:=eq_true (by omega)
  have r3:(((strs (senP e.senses e.senses.length)++strs (d.links e)).length+1+1)*16≤140737488355328)=True:=eq_true (by rw[List.length_append,List.length_map,List.length_map];omega)
  by_cases hv:allE d.lex id= []
  ·have t3:((0:Int)<((allE d.lex id).length:Int))=False:=by rw[hv];simp
   rw[if_pos hv,List.append_nil]
   (repeat'(first|apply kA|apply kB|((first|refine kc (N:=117) ?_|refine kj (N:=117) kq15 ?_|apply kD|apply kE|refine kx hL ?_|refine kx hV ?_);simp +decide only[go_sem,hlt,t3,r1,lngRow,Ent.row])|(apply kG;(simp +decide only[go_sem,hlt,t3,r1,lngRow,Ent.row];rfl);all_goals(intro hcnd;try exact kz hcnd))))
   refine dw_slot 4 _ (DLe.own_ _ _ _) ?_
   apply kF;simp +decide only[go_sem]
   simp only[strs,List.map_append]
  ·have hvp:0<(allE d.lex id).length:=List.length_pos_iff.2 hv
   have t3:((0:Int)<((allE d.lex id).length:Int))=True:=by simp;omega
   rw[if_neg hv]
   have hHs:=heads_D x hd (allE d.lex id) (by omega)
   simp only[lngRow]at hHs
   have hJ:=joined_D (d.heads (allE d.lex id)) (by rw[heads_len];omega) (fun s hs=>by have:=heads_le hd (allE d.lex id) s hs;omega)
   rw[joinF_eq _ (heads_size hd.toRightD (all_has id))]at hJ
   have hjl:=joinR_le3 (heads_le hd (allE d.lex id))
   rw[heads_len]at hjl
   have h10:(allE d.lex id).length*(400+2)≤5*(400+2):=Nat.mul_le_mul_right _ (by omega)
   generalize joinR (d.heads (allE d.lex id))=jj at hJ hjl ⊢
   have z1:(#[(32:UInt8),32,118,97,114,105,97,110,116,115,58,32].size+jj.size≤maxLen)=True:=mx (by simp only[List.size_toArray,List.length_cons,List.length_nil];omega)
   (repeat'(first|apply kA|apply kB|((first|refine kc (N:=117) ?_|refine kj (N:=117) kq15 ?_|apply kD|apply kE|refine kx hL ?_|refine kx hV ?_|refine kx hHs ?_|refine kx hJ ?_);simp +decide only[go_sem,hlt,t3,r1,r2,r3,z1,lngRow,Ent.row])|(apply kG;(simp +decide only[go_sem,hlt,t3,r1,r2,r3,z1,lngRow,Ent.row];rfl);all_goals(intro hcnd;try exact kz hcnd))))
   refine dw_slot 4 _ (DLe.own_ _ _ _) ?_
   apply kF;simp +decide only[go_sem]
   simp only[strs,List.map_append,List.map_cons,List.map_nil]
   rfl
end Go.Proofs.YtehdkccjaeckhaaGreatDoor
namespace Go.Proofs.YtehdkccjaeckhaaGreatDoor
abbrev kq16:Nat→List (Nat×Go.Dl.Mode):=fun n=>match n with|7=>kpn4|_=> []
end Go.Proofs.YtehdkccjaeckhaaGreatDoor
namespace Go.Proofs.YtehdkccjaeckhaaGreatDoor
open Go.Dl
open S (usort)
attribute [local irreducible] DW DCalls ECalls wk IW
def Dic.lastI(d:Dic)(k:Nat):Int:=(d.lastS none (d.ord.take k)).getD (-2)
theorem lastI_zero(d:Dic):d.lastI 0= -2:=rfl
theorem lastI_succ{d:Dic}{k:Nat}{e:Ent}(h:d.ord[k]? =some e):d.lastI (k+1)=d.sect e:=by
 unfold Dic.lastI;rw[lastS_some h];rfl
theorem lastI_iff(d:Dic)(k:Nat)(e:Ent):d.lastS none (d.ord.take k)=some (d.sect e)↔d.lastI k=d.sect e:=by
 unfold Dic.lastI
 cases h:d.lastS none (d.ord.take k)with
 | none=>
  have:=sect_ge d e
  simp only[Option.getD_none]
  constructor
  ·intro h2;cases h2
  ·intro h2;omega
 | some n=>simp
def Dic.lineP(d:Dic)(k:Nat):List ByteArray:=d.linesF none (d.ord.take k)
theorem lineP_zero(d:Dic):d.lineP 0= []:=rfl
theorem lineP_succ{d:Dic}{k:Nat}{e:Ent}(h:d.ord[k]? =some e):d.lineP (k+1)=d.lineP k++((if d.lastI k=d.sect e then []else [d.sline (d.sect e)])++d.article e.id):=by
 unfold Dic.lineP
 rw[lines_take h]
 unfold Dic.lineL
 by_cases h1:d.lastI k=d.sect e
 ·rw[if_pos h1,if_pos ((lastI_iff d k e).2 h1)]
 ·rw[if_neg h1,if_neg (fun h2=>h1 ((lastI_iff d k e).1 h2))]
theorem lineP_all(d:Dic):d.lineP d.ord.length=d.lines:=lines_all d
theorem article_len{d:Dic}(hd:OkD d)(id:Int):(d.article id).length≤13:=by
 unfold Dic.article
 split
 ·simp
 ·rename_i h
  have hm:=getE_mem (l:=d.lex) (id:=id) (by simpa using h)
  split
  ·simp
  ·unfold Dic.full
   have h1:=(links_few hd hm.1).2
   have h2:=links_len (d:=d) (getE d.lex id).1
   rw[List.length_cons,List.length_append,List.length_append,List.length_mapIdx]
   split
   ·simp;omega
   ·simp;omega
theorem lineP_len{d:Dic}(hd:OkD d): ∀k,k≤d.ord.length→(d.lineP k).length≤14*k
 | 0,_=>by simp[lineP_zero]
 | k+1,h=>by
  obtain⟨e,he⟩: ∃e,d.ord[k]? =some e:=⟨_,List.getElem?_eq_getElem (by omega)⟩
  rw[lineP_succ he,List.length_append,List.length_append]
  have h1:=lineP_len hd k (by omega)
  have h2:=article_len hd e.id
  have h3:(if d.lastI k=d.sect e then([]:List ByteArray)else [d.sline (d.sect e)]).length≤1:=by split<;>simp
  omega
theorem headS_le{lt:List (List ByteArray)}{B:Nat}(h: ∀l∈lt,∀s∈l,s.size≤B)(i:Int):(headS lt i).size≤B:=by
 unfold headS
 split
 ·simp
 ·cases e:lt[i.toNat]? with
  | none=>simp
  | some l=>
   have hl:=List.mem_of_getElem? e
   cases e2:l[0]? with
   | none=>simp[e2]
   | some s=>simpa[e2]using h l hl s (List.mem_of_getElem? e2)
theorem sp_sz{d:Dic}(hd:OkD d){e:Ent}(he:e∈d.lex):(d.sp e.form).size≤96:=by
 have h1:=sp_le hd e.form
 have h2:=hd.frm e he
 have:e.form.length*32≤3*32:=Nat.mul_le_mul_right _ h2
 omega
theorem lines_D(x:LX){d:Dic}(hd:OkD d)(hO:DCalls Tryz.prog 19 [.agg (lngRow x d)] (dv (.sl 1 (ints (d.ord.map (·.id)))))):DCalls Tryz.prog 24 [.agg (lngRow x d)] (dv (.sl 1 (strs d.lines))):=by
 have hmax:maxLen=9223372036854775807:=rfl
 have hf:=hd.few
 have hol:=ord_len d
 simp only[lngRow]at hO
 refine kd (N:=55) (rs:= [.tmp 2]) Tryz.func24 ?_
 (repeat'(first|apply kA|apply kB|((first|refine kc (N:=55) ?_|refine kj (N:=55) kq16 ?_|apply kD|apply kE|refine kx hO ?_);simp +decide only[go_sem,lngRow])|(apply kG;(simp +decide only[go_sem,lngRow];rfl);all_goals(intro hcnd;try exact kz hcnd))))
 refine dw_own 3 3 1 (by simp +decide only[go_sem]) ?_
 refine dw_rng0 d.ord (fun k=>kn 55 [(1,.one (.bx 1 9 0 0)),(3,.one (.own 3 1 (strs (d.lineP k)))),(4,dv (li (d.lastI k))),(12,dv (.sl 1 (ints (d.ord.map (·.id))))),(13,dv (li d.ord.length)),(14,dv (li k))] (ml [(1,[lngRow x d])])) (by omega)
  (kM rfl (by simp +decide only[go_sem,lngRow,lineP_zero,lastI_zero,List.map_nil,List.length_cons,List.length_nil]) (by simp +decide only[go_sem,lngRow])) ?_ ?_
 ·intro k e hy hj hm htk hlt hw
  have hml:=(ord_perm d).mem_iff.1 hm
  have hG:=get_D d.lex e.id (by omega)
  rw[getE_up hd.up hml]at hG
  have hS:=spelled_D x hd e.form (by have:=hd.frm e hml;omega)
  have hC:=cSection_D x.nm d.units d.letters (d.sp e.form) (by have:=hd.llen;omega) hd.lll (by have:=sp_sz hd hml;omega)
  have hA:=article_D x hd e.id
  have hst:=lineP_succ hy
  have hsi:=lastI_succ hy
  have hge:=sect_ge d e
  have hse:sectE d.letters (d.sp e.form)=d.sect e:=rfl
  rw[hse]at hC
  have hpl:=lineP_len hd k (by omega)
  have hal:=article_len hd e.id
  have hx:(ints (d.ord.map (·.id)))[k]? =some [li e.id]:=by simp[ints,hy]
  simp only[lngRow,Ent.row,ortRow]at hS hC hA hG
  rw[hst,hsi]
  generalize d.article e.id=art at hA hal ⊢
  unfold Dic.sline
  by_cases h1:d.lastI k=d.sect e
  ·rw[if_pos h1,List.nil_append]
   have t1:(d.sect e !=d.lastI k)=false:=by simp[h1]
   have t2:(d.sect e==d.lastI k)=true:=by simp[h1]
   have r1:(((d.lineP k).length+art.length)*16≤140737488355328)=True:=eq_true (by omega)
   (repeat'(first|apply kA|apply kB|((first|refine kc (N:=55) ?_|refine kj (N:=55) kq16 ?_|apply kD|apply kE|refine kx hG ?_|refine kx hS ?_|refine kx hC ?_|refine kx hA ?_);simp +decide only[go_sem,hlt,hw,hx,t1,t2,r1,lngRow,Ent.row])|(apply kG;(simp +decide only[go_sem,hlt,hw,hx,t1,t2,r1,lngRow,Ent.row];rfl);all_goals(intro hcnd;try exact kz hcnd))))
   exact kM rfl (by simp +decide only[go_sem,lngRow,Ent.row,List.map_append,h1]) (by simp +decide only[go_sem,lngRow,Ent.row])
  ·rw[if_neg h1]
   have t1:(d.sect e !=d.lastI k)=true:=by simpa using fun h=>h1 h.symm
   have t2:(d.sect e==d.lastI k)=false:=by simpa using fun h=>h1 h.symm
   have r1:(((d.lineP k).length+1)*16≤140737488355328)=True:=eq_true (by omega)
   have r2:(((d.lineP k).length+1+art.length)*16≤140737488355328)=True:=eq_true (by omega)
   by_cases h2:0≤d.sect e
   ·rw[if_pos h2]
    have hH:=cHead_D x.nm d.units d.letters (d.sect e) (by have:=hd.llen;omega) hd.lne hd.lll
    have hhl:=headS_le hd.lsz (d.sect e)
    simp only[ortRow]at hH
    have t3:(0≤d.sect e)=True:=eq_true h2
    generalize headS d.letters (d.sect e)=hh at hH hhl ⊢
    have z1:(#[(61:UInt8),32].size+hh.size≤maxLen)=True:=mx (by simp only[List.size_toArray,List.length_cons,List.length_nil];omega)
    have z2:(#[(61:UInt8),32].size+hh.size+ #[(32:UInt8),61].size≤maxLen)=True:=mx (by simp only[List.size_toArray,List.length_cons,List.length_nil];omega)
    (repeat'(first|apply kA|apply kB|((first|refine kc (N:=55) ?_|refine kj (N:=55) kq16 ?_|apply kD|apply kE|refine kx hG ?_|refine kx hS ?_|refine kx hC ?_|refine kx hA ?_|refine kx hH ?_);simp +decide only[go_sem,hlt,hw,hx,t1,t2,t3,r1,r2,z1,z2,lngRow,Ent.row,List.length_append,List.length_map,List.length_cons,List.length_nil])|(apply kG;(simp +decide only[go_sem,hlt,hw,hx,t1,t2,t3,r1,r2,z1,z2,lngRow,Ent.row,List.length_append,List.length_map,List.length_cons,List.length_nil];rfl);all_goals(intro hcnd;try exact kz hcnd))))
    exact kM rfl (by simp +decide only[go_sem,lngRow,Ent.row,List.map_append,List.map_cons,List.map_nil,List.append_assoc,List.cons_append,List.nil_append,eqL,eqR]) (by simp +decide only[go_sem,lngRow,Ent.row])
   ·rw[if_neg h2]
    have t3:(0≤d.sect e)=False:=eq_false h2
    have z1:(#[(61:UInt8),32].size+ #[(35:UInt8)].size≤maxLen)=True:=mx (by simp only[List.size_toArray,List.length_cons,List.length_nil];omega)
    have z2:(#[(61:UInt8),32].size+ #[(35:UInt8)].size+ #[(32:UInt8),61].size≤maxLen)=True:=mx (by simp only[List.size_toArray,List.length_cons,List.length_nil];omega)
    (repeat'(first|apply kA|apply kB|((first|refine kc (N:=55) ?_|refine kj (N:=55) kq16 ?_|apply kD|apply kE|refine kx hG ?_|refine kx hS ?_|refine kx hC ?_|refine kx hA ?_);simp +decide only[go_sem,hlt,hw,hx,t1,t2,t3,r1,r2,z1,z2,lngRow,Ent.row,List.length_append,List.length_map,List.length_cons,List.length_nil])|(apply kG;(simp +decide only[go_sem,hlt,hw,hx,t1,t2,t3,r1,r2,z1,z2,lngRow,Ent.row,List.length_append,List.length_map,List.length_cons,List.length_nil];rfl);all_goals(intro hcnd;try exact kz hcnd))))
    exact kM rfl (by simp +decide only[go_sem,lngRow,Ent.row,List.map_append,List.map_cons,List.map_nil,List.append_assoc,List.cons_append,List.nil_append,eqL,eqR,hash]) (by simp +decide only[go_sem,lngRow,Ent.row])
 ·intro hlt
  rw[lineP_all]
  (repeat'(first|apply kA|apply kB|((first|refine kc (N:=55) ?_|refine kj (N:=55) kq16 ?_|apply kD|apply kE);simp +decide only[go_sem,hlt,lngRow])|(apply kG;(simp +decide only[go_sem,hlt,lngRow];rfl);all_goals(intro hcnd;try exact kz hcnd))))
  refine dw_slot 2 _ (DLe.own_ _ _ _) ?_
  apply kF;simp +decide only[go_sem]
end Go.Proofs.YtehdkccjaeckhaaGreatDoor
namespace Go.Proofs.YtehdkccjaeckhaaGreatDoor.V
open Go.Dl
attribute [local irreducible] DW DCalls ECalls wk
structure Part where
 entry:Int
 alt:Int
 sense:Int
deriving DecidableEq
def Part.enc(p:Part):List C:= [.lit (.int .i64 p.entry),.lit (.int .i64 p.alt),.lit (.int .i64 p.sense)]
end Go.Proofs.YtehdkccjaeckhaaGreatDoor.V
namespace Go.Proofs.YtehdkccjaeckhaaGreatDoor
abbrev kpn18:List (Nat×Go.Dl.Mode):= [(0,.light),(1,.light),(2,.light),(3,.light),(4,.light),(5,.light),(6,.light),(7,.light),(8,.light),(9,.light),(10,.light),(11,.light),(12,.light),(13,.light),(14,.step),(15,.light),(16,.step),(17,.light)]
abbrev kq17:Nat→List (Nat×Go.Dl.Mode):=fun n=>match n with|1=>kpn18|_=> []
end Go.Proofs.YtehdkccjaeckhaaGreatDoor
namespace Go.Proofs.YtehdkccjaeckhaaGreatDoor.V
open Go.Dl
attribute [local irreducible] DW DCalls ECalls wk
theorem beq_bytes(a b:ByteArray):(a==b)=decide (a=b):=by
 obtain⟨x⟩:=a
 obtain⟨y⟩:=b
 show(x==y)=_
 by_cases h:x=y
 ·subst h;simp
 ·have h2: ¬(ByteArray.mk x=ByteArray.mk y):=fun e=>h (by injection e)
  simp[h,h2]
theorem beq_bytes_refl(a:ByteArray):(a==a)=true:=by rw[beq_bytes];simp
theorem isNaNi_D(a:Int):DCalls Tryz.prog 136 [dv (li a)] (dv (lb false)):=by
 refine kd (N:=6) (rs:= [.tmp 2]) Tryz.func136 ?_
 (repeat(first|apply kA|apply kB|((first|refine kc (N:=6) ?_|apply kD|apply kE);simp +decide only[go_sem])))
 have:(a !=a)=false:=by simp
 apply kF;simp +decide only[go_sem,this]
theorem isNaNs_D(a:ByteArray):DCalls Tryz.prog 165 [dv (ls a)] (dv (lb false)):=by
 refine kd (N:=6) (rs:= [.tmp 2]) Tryz.func165 ?_
 (repeat(first|apply kA|apply kB|((first|refine kc (N:=6) ?_|apply kD|apply kE);simp +decide only[go_sem])))
 apply kF;simp +decide only[go_sem,beq_bytes_refl a]
def cmpI(a b:Int):Int:=if a<b then -1 else if b<a then 1 else 0
def cmpS(a b:ByteArray):Int:=if strLt a b then -1 else if a==b then 0 else 1
theorem cmpI_D(a b:Int):DCalls Tryz.prog 114 [dv (li a),dv (li b)] (dv (li (cmpI a b))):=by
 refine kd (N:=20) (rs:= [.tmp 4]) Tryz.func114 ?_
 (repeat(first|apply kA|apply kB|((first|refine kc (N:=20) ?_|apply kD|apply kE);simp +decide only[go_sem])))
 refine kw (isNaNi_D a) ?_
 simp +decide only[go_sem]
 (repeat(first|apply kA|apply kB|((first|refine kc (N:=20) ?_|apply kD|apply kE);simp +decide only[go_sem])))
 refine kw (isNaNi_D b) ?_
 simp +decide only[go_sem]
 (repeat(first|apply kA|apply kB|((first|refine kc (N:=20) ?_|apply kD|apply kE);simp +decide only[go_sem])))
 apply kG;(simp +decide only[go_sem];rfl)
 ·simp
 intro _
 (repeat(first|apply kA|apply kB|((first|refine kc (N:=20) ?_|apply kD|apply kE);simp +decide only[go_sem])))
 apply kG;(simp +decide only[go_sem];rfl)
 ·simp
 intro _
 (repeat(first|apply kA|apply kB|((first|refine kc (N:=20) ?_|apply kD|apply kE);simp +decide only[go_sem])))
 apply kG;(simp +decide only[go_sem];rfl)
 ·intro h1
  have h1':a<b:=by simpa using h1
  (repeat(first|apply kA|apply kB|((first|refine kc (N:=20) ?_|apply kD|apply kE);simp +decide only[go_sem])))
  apply kF;simp +decide only[go_sem]
  simp[cmpI,h1']
 intro h1
 have h1': ¬a<b:=by simpa using h1
 (repeat(first|apply kA|apply kB|((first|refine kc (N:=20) ?_|apply kD|apply kE);simp +decide only[go_sem])))
 apply kG;(simp +decide only[go_sem];rfl)
 ·intro h2
  have h2':b<a:=by simpa using h2
  (repeat(first|apply kA|apply kB|((first|refine kc (N:=20) ?_|apply kD|apply kE);simp +decide only[go_sem])))
  apply kF;simp +decide only[go_sem]
  simp[cmpI,h1',h2']
 intro h2
 have h2': ¬b<a:=by simpa using h2
 (repeat(first|apply kA|apply kB|((first|refine kc (N:=20) ?_|apply kD|apply kE);simp +decide only[go_sem])))
 apply kF;simp +decide only[go_sem]
 simp[cmpI,h1',h2']
theorem cmpS_D(a b:ByteArray):DCalls Tryz.prog 143 [dv (ls a),dv (ls b)] (dv (li (cmpS a b))):=by
 refine kd (N:=20) (rs:= [.tmp 4]) Tryz.func143 ?_
 (repeat(first|apply kA|apply kB|((first|refine kc (N:=20) ?_|apply kD|apply kE);simp +decide only[go_sem])))
 refine kw (isNaNs_D a) ?_
 simp +decide only[go_sem]
 (repeat(first|apply kA|apply kB|((first|refine kc (N:=20) ?_|apply kD|apply kE);simp +decide only[go_sem])))
 refine kw (isNaNs_D b) ?_
 simp +decide only[go_sem]
 (repeat(first|apply kA|apply kB|((first|refine kc (N:=20) ?_|apply kD|apply kE);simp +decide only[go_sem])))
 apply kG;(simp +decide only[go_sem];rfl)
 ·simp
 intro _
 (repeat(first|apply kA|apply kB|((first|refine kc (N:=20) ?_|apply kD|apply kE);simp +decide only[go_sem])))
 apply kG;(simp +decide only[go_sem];rfl)
 ·simp
 intro _
 (repeat(first|apply kA|apply kB|((first|refine kc (N:=20) ?_|apply kD|apply kE);simp +decide only[go_sem])))
 apply kG;(simp +decide only[go_sem];rfl)
 ·intro h1
  (repeat(first|apply kA|apply kB|((first|refine kc (N:=20) ?_|apply kD|apply kE);simp +decide only[go_sem])))
  apply kF;simp +decide only[go_sem]
  simp[cmpS,h1]
 intro h1
 (repeat(first|apply kA|apply kB|((first|refine kc (N:=20) ?_|apply kD|apply kE);simp +decide only[go_sem])))
 apply kG;(simp +decide only[go_sem];rfl)
 ·intro h2
  have h2':(a==b)=false:=by simpa[h1]using h2
  (repeat(first|apply kA|apply kB|((first|refine kc (N:=20) ?_|apply kD|apply kE);simp +decide only[go_sem])))
  apply kF;simp +decide only[go_sem]
  simp[cmpS,h1,h2']
 intro h2
 have h2':(a==b)=true:=by simpa[h1]using h2
 (repeat(first|apply kA|apply kB|((first|refine kc (N:=20) ?_|apply kD|apply kE);simp +decide only[go_sem])))
 apply kF;simp +decide only[go_sem]
 simp[cmpS,h1,h2']
def firstNZ:List Int→Int
 | []=>0
 | x::l=>if x=0 then firstNZ l else x
theorem firstNZ_drop(xs:List Int): ∀k,(∀j<k,xs[j]? =some 0∨xs[j]? =none)→firstNZ (xs.drop k)=firstNZ xs:=by
 intro k
 induction k generalizing xs with
 | zero=>intro _;simp
 | succ k ih=>
  intro h
  cases xs with
  | nil=>simp
  | cons x l=>
   have h0:=h 0 (by omega)
   simp at h0
   subst h0
   simp only[List.drop_succ_cons,firstNZ,if_true]
   exact ih l fun j hj=>by simpa using h (j+1) (by omega)
theorem or_D(xs:List Int)(hx:xs.length≤maxLen):DCalls Tryz.prog 84 [dv (.sl 1 (xs.map fun x=> [li x]))] (dv (li (firstNZ xs))):=by
 refine kd (N:=18) (rs:= [.tmp 2]) Tryz.func84 ?_
 (repeat(first|apply kA|apply kB|((first|refine kc (N:=18) ?_|apply kD|apply kE);simp +decide only[go_sem])))
 refine dw_loop_fam (fun k:Nat=>kn 18 [(0,dv (.sl 1 (xs.map fun x=> [li x]))),(3,dv (li 0)),(6,dv (.sl 1 (xs.map fun x=> [li x]))),(7,dv (li xs.length)),(8,dv (li k))] noMem)
   (fun k=>k≤xs.length∧∀j<k,xs[j]? =some 0) (fun k=>xs.length - k) 0 (kL rfl (by simp +decide only[go_sem]) (by simp[noMem])) ⟨by omega,fun j hj=>by omega⟩ ?_
 rintro k ⟨hk,hall⟩
 (repeat(first|apply kA|apply kB|((first|refine kc (N:=18) ?_|apply kD|apply kE);simp +decide only[go_sem])))
 apply kG;(simp +decide only[go_sem];rfl)
 ·intro h1
  have hk':k<xs.length:=by simpa using h1
  obtain⟨x,hx1⟩: ∃x,xs[k]? =some x:=⟨xs[k],List.getElem?_eq_getElem hk'⟩
  (repeat(first|apply kA|apply kB|((first|refine kc (N:=18) ?_|apply kD|apply kE);simp +decide only[go_sem,hx1])))
  apply kG;(simp +decide only[go_sem];rfl)
  ·intro h2
   have hx0:x≠0:=by simpa using h2
   (repeat(first|apply kA|apply kB|((first|refine kc (N:=18) ?_|apply kD|apply kE);simp +decide only[go_sem])))
   apply kF;simp +decide only[go_sem]
   rw[← firstNZ_drop xs k fun j hj=>.inl (hall j hj),List.drop_eq_getElem_cons hk']
   have:xs[k]=x:=by rw[List.getElem?_eq_getElem hk']at hx1;injection hx1
   simp[firstNZ,this,hx0]
  ·intro h2
   have hx0:x=0:=by simpa using h2
   have hw:=wrap_succ k (by omega)
   (repeat(first|apply kA|apply kB|((first|refine kc (N:=18) ?_|apply kD|apply kE);simp +decide only[go_sem,hw])))
   refine⟨k+1,⟨by omega,fun j hj=>?_⟩,by omega,kL rfl (by simp +decide only[go_sem]) (by simp[noMem])⟩
   by_cases hjk:j<k
   ·exact hall j hjk
   ·obtain rfl:j=k:=by omega
    rw[hx1,hx0]
 ·intro h1
  have hk':k=xs.length:=by simp at h1;omega
  subst hk'
  (repeat(first|apply kA|apply kB|((first|refine kc (N:=18) ?_|apply kD|apply kE);simp +decide only[go_sem])))
  apply kF;simp +decide only[go_sem]
  rw[← firstNZ_drop xs xs.length fun j hj=>.inl (hall j hj)]
  simp[firstNZ]
theorem byGloss_D(a b:ByteArray)(x y:C):DCalls Tryz.prog 121 [.agg [.c (ls a),.c x],.agg [.c (ls b),.c y]] (dv (li (cmpS a b))):=by
 refine kd (N:=10) (rs:= [.tmp 4]) Tryz.func121 ?_
 (repeat(first|apply kA|apply kB|((first|refine kc (N:=10) ?_|apply kD|apply kE);simp +decide only[go_sem])))
 refine kw (cmpS_D a b) ?_
 simp +decide only[go_sem]
 (repeat(first|apply kA|apply kB|((first|refine kc (N:=10) ?_|apply kD|apply kE);simp +decide only[go_sem])))
 apply kF;simp +decide only[go_sem]
def cmpP(p q:Part):Int:=firstNZ [cmpI p.entry q.entry,cmpI p.alt q.alt,cmpI p.sense q.sense]
theorem byPart_D(p q:Part):DCalls Tryz.prog 124 [.agg (p.enc.map T.c),.agg (q.enc.map T.c)] (dv (li (cmpP p q))):=by
 refine kd (N:=22) (rs:= [.tmp 4]) Tryz.func124 ?_
 (repeat(first|apply kA|apply kB|((first|refine kc (N:=22) ?_|refine kj (N:=22) kq17 ?_|apply kD|apply kE);simp +decide only[go_sem,Part.enc])))
 (first|refine kx (cmpI_D p.entry q.entry) ?_);simp +decide only[go_sem]
 (first|refine kx (cmpI_D p.alt q.alt) ?_);simp +decide only[go_sem]
 (first|refine kx (cmpI_D p.sense q.sense) ?_);simp +decide only[go_sem]
 (first|refine kx (or_D [cmpI p.entry q.entry,cmpI p.alt q.alt,cmpI p.sense q.sense] (by simp[maxLen])) ?_);simp +decide only[go_sem]
 apply kF;simp +decide only[go_sem]
 rfl
def Part.lt(p q:Part):Bool:=decide (p.entry<q.entry)||(p.entry==q.entry&&decide (p.sense<q.sense))
theorem part_ext(p q:Part):p=q↔p.entry=q.entry∧p.alt=q.alt∧p.sense=q.sense:=by
 cases p;cases q;simp
def lows(l:List Part)(p:Part):Nat:=(l.takeWhile (·.lt p)).length
def ins(l:List Part)(p:Part):List Part:=
 l.take (lows l p)++p::l.drop (if l[lows l p]? =some p then lows l p+1 else lows l p)
theorem lows_eq(l:List Part)(p:Part)(k:Nat)(h1: ∀(j:Nat) q,j<k→l[j]? =some q→q.lt p=true)(hk:k≤l.length)(h2: ∀q,l[k]? =some q→q.lt p=false):lows l p=k:=by
 induction l generalizing k with
 | nil=>simp at hk;subst hk;rfl
 | cons a l ih=>
  cases k with
  | zero=>
   have:=h2 a rfl
   simp[lows,this]
  | succ k=>
   have ha:=h1 0 a (by omega) rfl
   have:=ih k (fun j q hj hq=>h1 (j+1) q (by omega) (by simpa using hq)) (by simpa using hk) (fun q hq=>h2 q (by simpa using hq))
   simp only[lows]at this
   simp[lows,ha,this]
structure Row where
 gloss:ByteArray
 senses:List Part
deriving DecidableEq
def Row.enc(r:Row):List C:= [ls r.gloss,.sl 3 (r.senses.map Part.enc)]
def lowR(l:List Row)(g:ByteArray):Nat:=(l.takeWhile fun r=>strLt r.gloss g).length
def atR(l:List Row)(g:ByteArray):Row:=match l[lowR l g]? with
 | some r=>if(r.gloss==g)=true then r else⟨g,[]⟩
 | none=>⟨g,[]⟩
def skipR(l:List Row)(g:ByteArray):Nat:=match l[lowR l g]? with
 | some r=>if(r.gloss==g)=true then lowR l g+1 else lowR l g
 | none=>lowR l g
def putR(l:List Row)(g:ByteArray)(p:Part):List Row:=
 l.take (lowR l g)++⟨(atR l g).gloss,ins (atR l g).senses p⟩::l.drop (skipR l g)
theorem lowR_eq(l:List Row)(g:ByteArray)(k:Nat)(h1: ∀(j:Nat) q,j<k→l[j]? =some q→strLt q.gloss g=true)(hk:k≤l.length)(h2: ∀q,l[k]? =some q→strLt q.gloss g=false):lowR l g=k:=by
 induction l generalizing k with
 | nil=>simp at hk;subst hk;rfl
 | cons a l ih=>
  cases k with
  | zero=>
   have:=h2 a rfl
   simp[lowR,this]
  | succ k=>
   have ha:=h1 0 a (by omega) rfl
   have:=ih k (fun j q hj hq=>h1 (j+1) q (by omega) (by simpa using hq)) (by simpa using hk) (fun q hq=>h2 q (by simpa using hq))
   simp only[lowR]at this
   simp[lowR,ha,this]
def keepP(same:Bool)(p:Part)(l:List Part):List Part:=l.filter fun q=> !same|| !decide (q=p)
def takeR(l:List Row)(g:ByteArray)(p:Part):List Row:=
 (l.map fun r=>(⟨r.gloss,keepP (r.gloss==g) p r.senses⟩:Row)).filter fun r=> !r.senses.isEmpty
def fs{α:Type}(n:Nat)(f:Nat→Option α):Option α:=(List.range n).findSome? f
def RowsOk(n:Nat)(l:List Row):Prop:=l.length≤n∧∀r∈l,r.senses.length≤n
theorem RowsOk.mono{n m:Nat}{l:List Row}(h:RowsOk n l)(hm:n≤m):RowsOk m l:=⟨Nat.le_trans h.1 hm,fun r hr=>Nat.le_trans (h.2 r hr) hm⟩
theorem ins_len(l:List Part)(p:Part):(ins l p).length≤l.length+1:=by
 have h1:lows l p≤l.length:=(List.takeWhile_prefix _).length_le
 unfold ins
 split<;>simp<;>omega
theorem atR_len(l:List Row)(g:ByteArray){n:Nat}(h:RowsOk n l):(atR l g).senses.length≤n:=by
 unfold atR
 split
 ·rename_i r hr
  split
  ·exact h.2 r (List.mem_of_getElem? hr)
  ·simp
 ·simp
theorem putR_ok{n:Nat}{l:List Row}(h:RowsOk n l)(g:ByteArray)(p:Part):RowsOk (n+1) (putR l g p):=by
 have h1:lowR l g≤l.length:=(List.takeWhile_prefix _).length_le
 have h2:lowR l g≤skipR l g:=by unfold skipR;split<;>first|omega|(split<;>omega)
 refine⟨?_,fun r hr=>?_⟩
 ·have:=h.1
  simp only[putR,List.length_append,List.length_take,List.length_cons,List.length_drop]
  omega
 ·simp only[putR,List.mem_append,List.mem_cons]at hr
  rcases hr with hr|rfl|hr
  ·exact Nat.le_succ_of_le (h.2 r (List.mem_of_mem_take hr))
  ·exact Nat.le_trans (ins_len _ _) (Nat.succ_le_succ (atR_len l g h))
  ·exact Nat.le_succ_of_le (h.2 r (List.mem_of_mem_drop hr))
abbrev pt(id:Int)(k:Nat):Part:=⟨id,0,k⟩
def putsN(rows:List Row)(id:Int)(ss:List Sns):Nat→List Row
 | 0=>rows
 | k+1=>match ss[k]? with
  | some s=>putR (putsN rows id ss k) s.gloss (pt id k)
  | none=>putsN rows id ss k
def buildN(l:List Ent):Nat→List Row
 | 0=> []
 | k+1=>match l[k]? with
  | some e=>putsN (buildN l k) e.id e.senses e.senses.length
  | none=>buildN l k
def buildR(l:List Ent):List Row:=buildN l l.length
theorem putsN_ok{n:Nat}{rows:List Row}(h:RowsOk n rows)(id:Int)(ss:List Sns): ∀k,RowsOk (n+k) (putsN rows id ss k)
 | 0=>h
 | k+1=>by
  simp only[putsN]
  split
  ·exact putR_ok (putsN_ok h id ss k) _ _
  ·exact(putsN_ok h id ss k).mono (by omega)
end Go.Proofs.YtehdkccjaeckhaaGreatDoor.V
namespace Go.Proofs.YtehdkccjaeckhaaGreatDoor
abbrev kq18:Nat→List (Nat×Go.Dl.Mode):=fun n=>match n with|5=>kpn4|8=>kpn11|_=> []
end Go.Proofs.YtehdkccjaeckhaaGreatDoor
namespace Go.Proofs.YtehdkccjaeckhaaGreatDoor.V
open Go.Dl
attribute [local irreducible] DW DCalls ECalls wk
def MemOk(H:Mem):Prop:=∀k r,H k=some r→1000≤k∧Dl.Rows.Mids r
theorem MemOk.tr{H:Mem}(h:MemOk H){r:Ren}(hr:r.Keeps)(k:Nat):(H k).map (Dl.Rows.tr r)=H k:=by
 cases hk:H k with
 | none=>rfl
 | some x=>simp only[Option.map_some,Dl.Rows.tr_mids hr (h k x hk).2]
theorem MemOk.fgt{H:Mem}(h:MemOk H){m:Nat}(hm:m<1000)(k:Nat):(H k).map (Dl.Rows.tr (fgt m))=H k:=h.tr (keeps_fgt (notmid hm)) k
theorem MemOk.cls{H:Mem}(h:MemOk H){m:Nat}(hm:m<1000)(k:Nat):(H k).map (Dl.Rows.tr (cls [m]))=H k:=h.tr (keeps_cls (by simpa using notmid hm)) k
theorem MemOk.low{H:Mem}(h:MemOk H){k:Nat}(hk:k<1000):H k=none:=by
 cases hc:H k with
 | none=>rfl
 | some x=>have:=(h k x hc).1;omega
theorem beq_eq_dec(a b:Int):(a==b)=decide (a=b):=rfl
def BsOk(f:Nat→Int)(n i:Nat):Prop:=i≤n∧(0<i→f (i - 1)<0)∧(i<n→0≤f i)
theorem half_facts(i j:Nat)(h:i+j≤2000000):IntKind.i64.wrap ((i:Int)+(j:Int))=((i+j:Nat):Int)∧IntKind.u64.wrap ((i+j:Nat):Int)=((i+j:Nat):Int)∧
  (((i+j:Nat):Int).fdiv 2)=(((i+j) / 2:Nat):Int)∧IntKind.i64.wrap (((i+j) / 2:Nat):Int)=(((i+j) / 2:Nat):Int):=by
 refine⟨by rw[wrap_i64 (by omega) (by omega)];omega,?_,?_,by rw[wrap_i64 (by omega) (by omega)]⟩
 ·rw[IntKind.wrap_u64];omega
 ·rw[Int.fdiv_eq_ediv_of_nonneg _ (by omega)];omega
theorem bsP_E(n cap:Nat)(hn:1000≤n)(H:Mem)(hH:MemOk H)(rows:Dl.Rows)(hr:H n=some rows)(ps:List Part)(p:Part)(hps: ∀(j:Nat) q,ps[j]? =some q→rows[j]? =some (q.enc.map T.c))(hl:ps.length≤1000000):
  ECalls Tryz.prog 146 [.one (.ba n 3 0 ps.length cap),.agg (p.enc.map T.c),.one (.c (.fn 124 []))] H
   (fun r H'=>(∃i,BsOk (fun j=>match ps[j]? with|some q=>cmpP q p|none=>0) ps.length i∧r= .tup [dv (li i),dv (lb (decide (ps[i]?.map (fun q=>cmpP q p)=some 0)))])∧∀k,1000≤k→H' k=H k):=by
 have hmax:(1000000:Nat)<maxLen:=by simp[maxLen]
 have hne: ∀k,k<1000→(n=k)=False:=fun k hk=>by simp;omega
 have hfg: ∀(m k:Nat),m<1000→(H k).map (Dl.Rows.tr (fgt m))=H k:=fun m k hm=>hH.fgt hm k
 refine ecalls (N:=49) (rs:= [.tmp 6,.tmp 7]) (by kernel_rfl) Tryz.func146 rfl rfl rfl (by simp) ?_
 (repeat(first|apply kA|apply kB|((first|refine kc (N:=49) ?_|refine kj (N:=49) kq18 ?_|apply kD|apply kE);simp +decide only[go_sem,Part.enc,hne,hfg])))
 refine dw_loop_fam (fun x:Nat×Nat=>kn 49 [(0,.one (.ba n 3 0 ps.length cap)),(2,.one (.c (.fn 124 []))),(4,.one (.bx 4 3 0 0)),(8,dv (li ps.length)),(9,dv (li x.1)),(10,dv (li x.2))] (fun k=>if k=4 then some [p.enc.map T.c]else H k))
  (fun x=>x.1≤x.2∧x.2≤ps.length∧(0<x.1→(match ps[x.1 - 1]? with|some q=>cmpP q p|none=>0)<0)∧(x.2<ps.length→0≤(match ps[x.2]? with|some q=>cmpP q p|none=>0))) (fun x=>x.2 - x.1) (0,ps.length)
  ?_ ⟨by omega,by omega,by simp,by simp⟩ ?_
 ·refine kL rfl (by simp +decide only[go_sem,hne]) ?_
  intro k r hk
  simp +decide only[go_sem,hfg]
  by_cases h4:k=4
  ·rw[if_pos h4]at hk ⊢;rw[← hk];rfl
  ·rw[if_neg h4]at hk ⊢;exact hk
 rintro⟨i,j⟩ ⟨h1,h2,h3,h4⟩
 simp only at h1 h2 h3 h4
 obtain⟨w1,w2,w3,w4⟩:=half_facts i j (by omega)
 rcases Nat.lt_or_ge i j with hlt|hge
 ·have hd:decide ((i:Int)<(j:Int))=true:=by simpa using hlt
  have hhl:(i+j) / 2<ps.length:=by omega
  obtain⟨q,hq1⟩: ∃q,ps[(i+j) / 2]? =some q:=⟨ps[(i+j) / 2],List.getElem?_eq_getElem hhl⟩
  have hq2:rows[(i+j) / 2]? =some [.c (li q.entry),.c (li q.alt),.c (li q.sense)]:=hps _ q hq1
  have hw:=wrap_succ ((i+j) / 2) (by omega)
  (repeat(first|apply kA|apply kB|((first|refine kc (N:=49) ?_|refine kj (N:=49) kq18 ?_|apply kD|apply kE);simp +decide only[go_sem,hd,hne])))
  apply kG;(simp +decide only[go_sem];rfl)
  ·intro _
   (repeat(first|apply kA|apply kB|((first|refine kc (N:=49) ?_|refine kj (N:=49) kq18 ?_|apply kD|apply kE);simp +decide only[go_sem,hne,w1,w2,w3,w4,hr,hq2,hhl,Part.enc])))
   (first|refine kx (byPart_D q p) ?_);simp +decide only[go_sem]
   apply kG;(simp +decide only[go_sem];rfl)
   ·intro h5
    have h6:cmpP q p<0:=by simpa using h5
    (repeat(first|apply kA|apply kB|((first|refine kc (N:=49) ?_|refine kj (N:=49) kq18 ?_|apply kD|apply kE);simp +decide only[go_sem,hw])))
    refine⟨((i+j) / 2+1,j),⟨by simp only;omega,h2,fun _=>by simp only[Nat.add_sub_cancel,hq1];exact h6,h4⟩,by simp only;omega,kL rfl (by simp +decide only[go_sem]) (fun k r hk=>?_)⟩
    simp +decide only[go_sem]
    exact hk
   ·intro h5
    have h6: ¬cmpP q p<0:=by simpa using h5
    (repeat(first|apply kA|apply kB|((first|refine kc (N:=49) ?_|refine kj (N:=49) kq18 ?_|apply kD|apply kE);simp +decide only[go_sem])))
    refine⟨(i,(i+j) / 2),⟨by simp only;omega,by simp only;omega,h3,fun _=>by simp only[hq1];omega⟩,by simp only;omega,kL rfl (by simp +decide only[go_sem]) (fun k r hk=>?_)⟩
    simp +decide only[go_sem]
    exact hk
  ·simp
 ·have hij:i=j:=by omega
  subst hij
  have hd:decide ((i:Int)<(i:Int))=false:=by simp
  (repeat(first|apply kA|apply kB|((first|refine kc (N:=49) ?_|refine kj (N:=49) kq18 ?_|apply kD|apply kE);simp +decide only[go_sem,hd,hne])))
  apply kG;(simp +decide only[go_sem];rfl)
  ·simp
  intro _
  have hbs:BsOk (fun j=>match ps[j]? with|some q=>cmpP q p|none=>0) ps.length i:=⟨h2,h3,h4⟩
  rcases Nat.lt_or_ge i ps.length with hlt|hge
  ·have hd:decide ((i:Int)<(ps.length:Int))=true:=by simpa using hlt
   obtain⟨q,hq1⟩: ∃q,ps[i]? =some q:=⟨ps[i],List.getElem?_eq_getElem hlt⟩
   have hq2:rows[i]? =some [.c (li q.entry),.c (li q.alt),.c (li q.sense)]:=hps _ q hq1
   (repeat(first|apply kA|apply kB|((first|refine kc (N:=49) ?_|refine kj (N:=49) kq18 ?_|apply kD|apply kE);simp +decide only[go_sem,hd,hne,hr,hq2,hlt,Part.enc])))
   (first|refine kx (byPart_D q p) ?_);simp +decide only[go_sem]
   apply kF;simp +decide only[go_sem]
   exact⟨⟨i,hbs,by simp[hq1,beq_eq_dec]⟩,fun k hk=>by rw[if_neg (by omega)]⟩
  ·have hd:decide ((i:Int)<(ps.length:Int))=false:=by simpa using hge
   have hnone:ps[i]? =none:=List.getElem?_eq_none hge
   (repeat(first|apply kA|apply kB|((first|refine kc (N:=49) ?_|refine kj (N:=49) kq18 ?_|apply kD|apply kE);simp +decide only[go_sem,hd])))
   apply kF;simp +decide only[go_sem]
   exact⟨⟨i,hbs,by simp[hnone]⟩,fun k hk=>by rw[if_neg (by omega)]⟩
end Go.Proofs.YtehdkccjaeckhaaGreatDoor.V
namespace Go.Proofs.YtehdkccjaeckhaaGreatDoor
abbrev kpn19:List (Nat×Go.Dl.Mode):= [(0,.light),(1,.light),(2,.light),(3,.light),(4,.light),(5,.light),(6,.light),(7,.light),(8,.step)]
abbrev kq19:Nat→List (Nat×Go.Dl.Mode):=fun n=>match n with|11=>kpn19|15=>kpn19|_=> []
end Go.Proofs.YtehdkccjaeckhaaGreatDoor
namespace Go.Proofs.YtehdkccjaeckhaaGreatDoor.V
open Go.Dl
attribute [local irreducible] DW DCalls ECalls wk
def KeepX(n:Nat)(r:Ren):Prop:=∀k,mid k→k≠n→r.f k=some k∧r.g k=some k
def FixX(n:Nat)(rows:Dl.Rows):Prop:=∀r,KeepX n r→Dl.Rows.tr r rows=rows
theorem keepX_fgts{n:Nat}{ms:List Nat}(h: ∀m∈ms,¬mid m∨m=n):KeepX n (fgts ms):=fun k hk hkn=>⟨rfl,by
 have:k∉ms:=fun e=>(h k e).elim (fun g=>g hk) hkn
 simp[fgts,this]⟩
theorem keepX_fgt{n m:Nat}(h: ¬mid m∨m=n):KeepX n (fgt m):=fun k hk hkn=>⟨rfl,by
 have:k≠m:=fun e=>by subst e;exact h.elim (fun g=>g hk) hkn
 simp[fgt,this]⟩
theorem keepX_mvr{n a b:Nat}(ha: ¬mid a∨a=n)(hb: ¬mid b∨b=n):KeepX n (mvr a b):=fun k hk hkn=>⟨rfl,by
 have h1:k≠a:=fun e=>by subst e;exact ha.elim (fun g=>g hk) hkn
 have h2:k≠b:=fun e=>by subst e;exact hb.elim (fun g=>g hk) hkn
 simp[mvr,h1,h2]⟩
theorem keepX_fgts2(n:Nat){m:Nat}(hm:m<1000):KeepX n (fgts [n,m]):=keepX_fgts fun k hk=>by
 simp only[List.mem_cons,List.not_mem_nil,or_false]at hk
 rcases hk with rfl|rfl
 ·exact .inr rfl
 ·exact .inl (notmid hm)
theorem keepX_fgt1(n:Nat){m:Nat}(hm:m<1000):KeepX n (fgt m):=keepX_fgt (.inl (notmid hm))
theorem keepX_mv1(n:Nat){m:Nat}(hm:m<1000):KeepX n (mvr m n):=keepX_mvr (.inl (notmid hm)) (.inr rfl)
theorem FixX.append_l{n:Nat}{xs ys:Dl.Rows}(h:FixX n (xs++ys)):FixX n xs:=fun r hr=>by
 have:=h r hr
 rw[Rows.tr_append]at this
 exact(List.append_inj this (by simp[Rows.tr])).1
theorem tr_take(r:Ren)(xs:Dl.Rows)(k:Nat):Dl.Rows.tr r (xs.take k)=(Dl.Rows.tr r xs).take k:=List.map_take
theorem tr_drop(r:Ren)(xs:Dl.Rows)(k:Nat):Dl.Rows.tr r (xs.drop k)=(Dl.Rows.tr r xs).drop k:=List.map_drop
theorem srcBa{bx:Mem}{sz n i len cap:Nat}{d:D}{rows ys:Dl.Rows}(hd:d= .one (.ba n sz i len cap))(hb:bx n=some rows)(hl:i+len≤rows.length)(hz: ∀r∈rows,r.length=sz)(hys:ys=(rows.drop i).take len):Src bx sz d ys:=by
 subst hd;subst hys;exact .ba n i len cap rows hb hl hz
theorem srcOne{bx:Mem}{sz n:Nat}{d:D}{v:List T}(hd:d= .one (.ba n sz 0 1 1))(hb:bx n=some [v])(hl:v.length=sz):Src bx sz d [v]:=
 srcBa hd hb (by simp) (by simpa using hl) (by simp)
theorem insP_E(n q:Nat)(hn:1000≤n)(hn2:n<100000)(hq:NB≤q)(H:Mem)(hH:MemOk H)(rows:Dl.Rows)(j:Nat)(v:List T)(hr:H n=some (rows++anyRows j 3))(hz:RowsSz 3 rows)(hv:H q=some [v])(hvl:v.length=3)
  (i:Nat) (hi:i≤rows.length) (hl:rows.length≤100000) (hnm: ∀k r,H k=some r→FixX n r):
  ECalls Tryz.prog 147 [.one (.ba n 3 0 rows.length (rows.length+j)),dv (li i),.one (.ba q 3 0 1 1)] H
   (fun r H'=>∃j',r= .one (.ba n 3 0 (rows.length+1) (rows.length+1+j'))∧H' n=some (rows.take i++(v::(rows.drop i++anyRows j' 3)))∧∀k,1000≤k→k≠n→H' k=H k):=by
 have hNB:=NB_big
 have hmax:(1000000:Nat)<maxLen:=by simp[maxLen]
 have hmidn:mid n:=⟨hn,by omega⟩
 have hqn:q≠n:=by omega
 have hqm: ¬mid q:=fun e=>by have:=e.2;omega
 have hne: ∀k,k<1000→(n=k)=False:=fun k hk=>by simp;omega
 have hqe: ∀k,k<1000→(q=k)=False:=fun k hk=>by simp;omega
 have hqne:(q=n)=False:=by simp[hqn]
 have hF: ∀(r:Ren) (k:Nat),KeepX n r→(H k).map (Dl.Rows.tr r)=H k:=fun r k hk=>by
  cases hc:H k with
  | none=>rfl
  | some x=>simp only[Option.map_some,hnm k x hc r hk]
 have hR: ∀r,KeepX n r→Dl.Rows.tr r rows=rows:=fun r hk=>(hnm n _ hr).append_l r hk
 have hV: ∀r,KeepX n r→T.trAll r v=v:=fun r hk=>by
  have:=hnm q _ hv r hk
  simp only[Rows.tr_cons,Rows.tr_nil,List.cons.injEq,and_true]at this
  exact this
 have le1:(0:Nat)≤i:=Nat.zero_le _
 have hlj:rows.length≤rows.length+j:=by omega
 have hib:i≤rows.length+j:=by omega
 have hz2:RowsSz 3 (rows++anyRows j 3):=fun r hr=>(List.mem_append.1 hr).elim (hz r) (anyRows_sz j 3 r)
 refine ecalls (N:=95) (rs:= [.tmp 6]) (by kernel_rfl) Tryz.func147 rfl rfl rfl (by simp) ?_
 rcases Nat.lt_or_ge i rows.length with hlt|hge
 ·have he:((i:Int)==(rows.length:Int))=false:=by simp;omega
  have hw1:IntKind.i64.wrap ((rows.length:Int)+1)=((rows.length+1:Nat):Int):=by rw[wrap_i64 (by omega) (by omega)];rfl
  have hw2:IntKind.i64.wrap (((rows.length+1:Nat):Int) - (i:Int))=((rows.length+1 - i:Nat):Int):=by rw[wrap_i64 (by omega) (by omega)];omega
  have hw3:IntKind.i64.wrap ((i:Int)+1)=((i+1:Nat):Int):=by rw[wrap_i64 (by omega) (by omega)];rfl
  (repeat(first|apply kA|apply kB|((first|refine kc (N:=95) ?_|refine kj (N:=95) kq19 ?_|apply kD|apply kE);simp +decide only[go_sem,hi,hib,hlj,he])))
  apply kG;(simp +decide only[go_sem];rfl)
  ·simp
  intro _
  (repeat(first|apply kA|apply kB|((first|refine kc (N:=95) ?_|refine kj (N:=95) kq19 ?_|apply kD|apply kE);simp +decide only[go_sem,hi,hib,hlj,he])))
  apply kG;(simp +decide only[go_sem];rfl)
  ·simp
  intro _
  rcases Nat.eq_zero_or_pos j with hj0|hj0
  ·have hg:decide (((rows.length+j:Nat):Int)<((rows.length+1:Nat):Int))=true:=by simp;omega
   (repeat(first|apply kA|apply kB|((first|refine kc (N:=95) ?_|refine kj (N:=95) kq19 ?_|apply kD|apply kE);simp +decide only[go_sem,hi,hib,hlj,he,hw1,hg])))
   apply kG;(simp +decide only[go_sem];rfl)
   ·intro _
    have hik:i+(rows.length+1 - i)=rows.length+1:=by omega
    have h0i:=Nat.zero_le i
    (repeat(first|apply kA|apply kB|((first|refine kc (N:=95) ?_|refine kj (N:=95) kq19 ?_|apply kD|apply kE);simp +decide only[go_sem,hi,hib,hlj,he,hw1,hw2,h0i,Nat.sub_zero])))
    refine StepC.mk (Step.appendMkList (kd:=.i64) (n:=n) (rows:=rows++anyRows j 3) (i:=0) (len:=i) (cap:=rows.length+j) (k:=rows.length+1 - i) (sz:=3) (by_:=24) rfl rfl (by simp +decide only[go_sem]) (by simp +decide only[go_sem]) (by simp +decide only[go_sem]) (by simp +decide only[go_sem]) (by simp +decide only[go_sem];exact hr) (by simp[anyRows_len]) hz2 (by omega) (by omega) (by omega) (by omega) ?_)
    intro j'
    have hik2:i≤rows.length+1:=by omega
    have hlj2:rows.length+1≤rows.length+1+j':=by omega
    have ht0:((rows++anyRows j 3).drop 0).take i=rows.take i:=by rw[List.drop_zero,List.take_append_of_le_length hi]
    have k1:KeepX n (fgt 40):=keepX_fgt1 n (by omega)
    have b1:Dl.Rows.tr (fgt 40) (rows.take i)=rows.take i:=by rw[tr_take,hR _ k1]
    have a1:=fun k=>hF _ k k1
    simp only[ht0,hik]
    simp +decide only[go_sem,hne]
    (repeat(first|apply kA|apply kB|((first|refine kc (N:=95) ?_|refine kj (N:=95) kq19 ?_|apply kD|apply kE);simp +decide only[go_sem,hne,hik2,hlj2])))
    have hzt:RowsSz 3 (rows.take i++anyRows (rows.length+1 - i+j') 3):=fun r hr=>(List.mem_append.1 hr).elim (fun h=>hz r (List.mem_of_mem_take h)) (anyRows_sz _ 3 r)
    have hzt2:RowsSz 3 (rows.take i++v::anyRows (rows.length - i+j') 3):=fun r hr=>by
     simp only[List.mem_append,List.mem_cons]at hr
     rcases hr with h|rfl|h
     ·exact hz r (List.mem_of_mem_take h)
     ·exact hvl
     ·exact anyRows_sz _ 3 r h
    have hti:(rows.take i).length=i:=by simp;omega
    refine StepC.mk (Step.copyTo (n:=40) (sz:=3) (i:=i) (len:=rows.length+1 - i) (cap:=rows.length+1+j' - i) (ys:= [v]) (rows:=rows.take i++anyRows (rows.length+1 - i+j') 3) (rows':=rows.take i++v::anyRows (rows.length - i+j') 3) (c:=1)
     rfl (by simp +decide only[go_sem]) (by simp +decide only[go_sem,hne]) (by simp +decide only[go_sem,hne,b1]) (by simp only[List.length_append,anyRows_len,hti];omega) hzt (srcOne (n:=q) (by simp +decide only[go_sem,hqe,hqm]) (by simp +decide only[go_sem,hqe,a1];exact hv) hvl) (by simp<;>omega) (ins_grow1 rows v i j' 3 hlt) ?_)
    have hi1:i+1≤rows.length+1:=by omega
    simp +decide only[go_sem,hne]
    (repeat(first|apply kA|apply kB|((first|refine kc (N:=95) ?_|refine kj (N:=95) kq19 ?_|apply kD|apply kE);simp +decide only[go_sem,hne,hw3,hi1,hlj2,hi,hlj])))
    refine StepC.mk (Step.copyTo (n:=40) (sz:=3) (i:=i+1) (len:=rows.length+1 - (i+1)) (cap:=rows.length+1+j' - (i+1)) (ys:=rows.drop i) (rows:=rows.take i++v::anyRows (rows.length - i+j') 3) (rows':=rows.take i++(v::(rows.drop i++anyRows j' 3))) (c:=rows.length - i)
     rfl (by simp +decide only[go_sem]) (by simp +decide only[go_sem,hne]) (by simp +decide only[go_sem,hne]) (by simp only[List.length_append,List.length_cons,anyRows_len,hti];omega) hzt2
     (srcBa (n:=n) (i:=i) (len:=rows.length - i) (cap:=rows.length+j - i) (rows:=rows++anyRows j 3) (by simp +decide only[go_sem,hne]) (by simp +decide only[go_sem,hne,a1];exact hr) (by simp only[List.length_append,anyRows_len];omega) hz2 (by rw[List.drop_append_of_le_length hi,List.take_append_of_le_length (by simp),List.take_of_length_le (by simp)])) (by simp<;>omega) (ins_grow2 rows v i j' 3 hlt) ?_)
    simp +decide only[go_sem,hne]
    (repeat(first|apply kA|apply kB|((first|refine kc (N:=95) ?_|refine kj (N:=95) kq19 ?_|apply kD|apply kE);simp +decide only[go_sem,hne])))
    refine kK (sub_mv 40 n hn2) ?_
    have k2:KeepX n (mvr 40 n):=keepX_mv1 n (by omega)
    have a2:=fun k=>hF _ k k2
    have b2:Dl.Rows.tr (mvr 40 n) (rows.take i)=rows.take i:=by rw[tr_take,hR _ k2]
    have b3:Dl.Rows.tr (mvr 40 n) (rows.drop i)=rows.drop i:=by rw[tr_drop,hR _ k2]
    have c2:=hV _ k2
    apply kF;simp +decide only[go_sem,hne]
    refine⟨j',rfl,?_,fun k hk hkn=>?_⟩
    ·simp +decide only[go_sem,hne,b2,b3,c2]
    ·have hk40: ¬k=40:=by omega
     simp +decide only[go_sem,hne,hkn,hk40,a1,a2]
   ·simp
  ·have hg:decide (((rows.length+j:Nat):Int)<((rows.length+1:Nat):Int))=false:=by simp;omega
   (repeat(first|apply kA|apply kB|((first|refine kc (N:=95) ?_|refine kj (N:=95) kq19 ?_|apply kD|apply kE);simp +decide only[go_sem,hi,hib,hlj,he,hw1,hg])))
   apply kG;(simp +decide only[go_sem];rfl)
   ·simp
   intro _
   have hj1:rows.length+1≤rows.length+j:=by omega
   have h0l:=Nat.zero_le (rows.length+1)
   have hi1:i+1≤rows.length+1:=by omega
   (repeat(first|apply kA|apply kB|((first|refine kc (N:=95) ?_|refine kj (N:=95) kq19 ?_|apply kD|apply kE);simp +decide only[go_sem,hi,hib,hlj,he,hw1,hw3,hj1,h0l,Nat.sub_zero,hi1])))
   refine CallC.step (Step.overlaps (t:=86) (tr:=4) (q:=q) (sz:=3) (m:=1) (rowsq:= [v]) (n:=n) (i:=i+1) (len:=rows.length+1 - (i+1)) (cap:=rows.length+j - (i+1)) (rows:=rows++anyRows j 3) rfl (by simp +decide only[go_sem]) Tryz.func168 (by kernel_rfl) (by kernel_rfl) (by kernel_rfl) (by kernel_rfl) Tryz.underlying86 (inf:=Tryz.t90) (by kernel_rfl)
    (by simp +decide only[go_sem]) (by simp +decide only[go_sem];exact hv) (by simp) (by omega) (by omega) (by simp +decide only[go_sem]) (by simp +decide only[go_sem];exact hr) (fun e=>by have:=congrArg List.length e;simp[anyRows_len]at this;omega) hz2 (by omega) hqn ?_)
   simp +decide only[go_sem]
   (repeat(first|apply kA|apply kB|((first|refine kc (N:=95) ?_|refine kj (N:=95) kq19 ?_|apply kD|apply kE);simp +decide only[go_sem])))
   apply kG;(simp +decide only[go_sem];rfl)
   ·intro _
    have hi2:i≤rows.length+1:=by omega
    have hRl:rows.length+j=(rows++anyRows j 3).length:=by simp[anyRows_len]
    have hzr:RowsSz 3 (rows.take (i+1)++(rows.drop i++anyRows (j - 1) 3)):=fun r hr=>by
     simp only[List.mem_append]at hr
     rcases hr with h|h|h
     ·exact hz r (List.mem_of_mem_take h)
     ·exact hz r (List.mem_of_mem_drop h)
     ·exact anyRows_sz _ 3 r h
    (repeat(first|apply kA|apply kB|((first|refine kc (N:=95) ?_|refine kj (N:=95) kq19 ?_|apply kD|apply kE);simp +decide only[go_sem,hi,hib,hlj,he,hw1,hw3,hj1,h0l,Nat.sub_zero,hi1,hi2])))
    refine StepC.mk (Step.copyTo (n:=n) (sz:=3) (i:=i+1) (len:=rows.length+1 - (i+1)) (cap:=rows.length+j - (i+1)) (ys:=((rows++anyRows j 3).drop i).take (rows.length+1 - i)) (rows:=rows++anyRows j 3) (rows':=rows.take (i+1)++(rows.drop i++anyRows (j - 1) 3)) (c:=rows.length - i)
     rfl (by simp +decide only[go_sem]) (by simp +decide only[go_sem]) (by simp +decide only[go_sem];exact hr) (by rw[← hRl];omega) hz2
     (srcBa (n:=n) (i:=i) (len:=rows.length+1 - i) (cap:=rows.length+j - i) (rows:=rows++anyRows j 3) (by simp +decide only[go_sem]) (by simp +decide only[go_sem];exact hr) (by rw[← hRl];omega) hz2 rfl) (by simp[anyRows_len];omega) (ins_room1 rows i j 3 hlt hj0) ?_)
    simp +decide only[go_sem]
    (repeat(first|apply kA|apply kB|((first|refine kc (N:=95) ?_|refine kj (N:=95) kq19 ?_|apply kD|apply kE);simp +decide only[go_sem,hi,hib,hlj,he,hw1,hw3,hj1,h0l,Nat.sub_zero,hi1,hi2])))
    have hti:(rows.take (i+1)).length=i+1:=by simp;omega
    refine StepC.mk (Step.copyTo (n:=n) (sz:=3) (i:=i) (len:=rows.length+1 - i) (cap:=rows.length+j - i) (ys:= [v]) (rows:=rows.take (i+1)++(rows.drop i++anyRows (j - 1) 3)) (rows':=rows.take i++(v::(rows.drop i++anyRows (j - 1) 3))) (c:=1)
     rfl (by simp +decide only[go_sem]) (by simp +decide only[go_sem]) (by simp +decide only[go_sem]) (by simp only[List.length_append,List.length_drop,anyRows_len,hti];omega) hzr (srcOne (n:=q) (by simp +decide only[go_sem]) (by simp +decide only[go_sem,hqne];exact hv) hvl) (by simp<;>omega) (ins_room2 rows v i (j - 1) 3 hlt) ?_)
    simp +decide only[go_sem]
    (repeat(first|apply kA|apply kB|((first|refine kc (N:=95) ?_|refine kj (N:=95) kq19 ?_|apply kD|apply kE);simp +decide only[go_sem])))
    apply kF;simp +decide only[go_sem]
    have hjj:rows.length+1+(j - 1)=rows.length+j:=by omega
    refine⟨j - 1,by rw[hjj],?_,fun k hk hkn=>?_⟩
    ·simp +decide only[go_sem]
    ·simp +decide only[go_sem,hkn]
   ·simp
 ·have hie:i=rows.length:=by omega
  have he:((i:Int)==(rows.length:Int))=true:=by simp;omega
  (repeat(first|apply kA|apply kB|((first|refine kc (N:=95) ?_|refine kj (N:=95) kq19 ?_|apply kD|apply kE);simp +decide only[go_sem,hi,hib,hlj,he])))
  apply kG;(simp +decide only[go_sem];rfl)
  ·simp
  intro _
  (repeat(first|apply kA|apply kB|((first|refine kc (N:=95) ?_|refine kj (N:=95) kq19 ?_|apply kD|apply kE);simp +decide only[go_sem,hi,hib,hlj,he])))
  apply kG;(simp +decide only[go_sem];rfl)
  ·intro _
   (repeat(first|apply kA|apply kB|((first|refine kc (N:=95) ?_|refine kj (N:=95) kq19 ?_|apply kD|apply kE);simp +decide only[go_sem,hi,hib,hlj,he])))
   refine StepC.mk (Step.appendList (n:=n) (rows:=rows) (ys:= [v]) (j:=j) (sz:=3) (by_:=24) rfl rfl (by simp +decide only[go_sem]) (by simp +decide only[go_sem]) (by simp +decide only[go_sem];exact hr) hz (srcOne (n:=q) (by simp +decide only[go_sem]) (by simp +decide only[go_sem];exact hv) hvl) (by simp;omega) ?_)
   intro j'
   simp +decide only[go_sem]
   (repeat(first|apply kA|apply kB|((first|refine kc (N:=95) ?_|refine kj (N:=95) kq19 ?_|apply kD|apply kE);simp +decide only[go_sem])))
   refine kK (sub_mv 25 n hn2) ?_
   have k1:KeepX n (fgts [n,25]):=keepX_fgts2 n (by omega)
   have k2:KeepX n (mvr 25 n):=keepX_mv1 n (by omega)
   have a1:=fun k=>hF _ k k1
   have a2:=fun k=>hF _ k k2
   have b1:=hR _ k1
   have b2:=hR _ k2
   have c1:=hV _ k1
   have c2:=hV _ k2
   apply kF;simp +decide only[go_sem,hne]
   refine⟨j',rfl,?_,fun k hk hkn=>?_⟩
   ·simp +decide only[go_sem,hne,b1,b2,c1,c2]
    subst hie
    simp
   ·have hk25: ¬k=25:=by omega
    simp +decide only[go_sem,hne,hkn,hk25,a1,a2]
  ·simp[hie]
theorem insR_E(n q:Nat)(hn:1000≤n)(hn2:n<100000)(hq:NB≤q)(H:Mem)(hH:MemOk H)(rows:Dl.Rows)(j:Nat)(v:List T)(hr:H n=some (rows++anyRows j 2))(hz:RowsSz 2 rows)(hv:H q=some [v])(hvl:v.length=2)
  (i:Nat) (hi:i≤rows.length) (hl:rows.length≤100000) (hnm: ∀k r,H k=some r→FixX n r):
  ECalls Tryz.prog 145 [.one (.ba n 2 0 rows.length (rows.length+j)),dv (li i),.one (.ba q 2 0 1 1)] H
   (fun r H'=>∃j',r= .one (.ba n 2 0 (rows.length+1) (rows.length+1+j'))∧H' n=some (rows.take i++(v::(rows.drop i++anyRows j' 2)))∧∀k,1000≤k→k≠n→H' k=H k):=by
 have hNB:=NB_big
 have hmax:(1000000:Nat)<maxLen:=by simp[maxLen]
 have hmidn:mid n:=⟨hn,by omega⟩
 have hqn:q≠n:=by omega
 have hqm: ¬mid q:=fun e=>by have:=e.2;omega
 have hne: ∀k,k<1000→(n=k)=False:=fun k hk=>by simp;omega
 have hqe: ∀k,k<1000→(q=k)=False:=fun k hk=>by simp;omega
 have hqne:(q=n)=False:=by simp[hqn]
 have hF: ∀(r:Ren) (k:Nat),KeepX n r→(H k).map (Dl.Rows.tr r)=H k:=fun r k hk=>by
  cases hc:H k with
  | none=>rfl
  | some x=>simp only[Option.map_some,hnm k x hc r hk]
 have hR: ∀r,KeepX n r→Dl.Rows.tr r rows=rows:=fun r hk=>(hnm n _ hr).append_l r hk
 have hV: ∀r,KeepX n r→T.trAll r v=v:=fun r hk=>by
  have:=hnm q _ hv r hk
  simp only[Rows.tr_cons,Rows.tr_nil,List.cons.injEq,and_true]at this
  exact this
 have le1:(0:Nat)≤i:=Nat.zero_le _
 have hlj:rows.length≤rows.length+j:=by omega
 have hib:i≤rows.length+j:=by omega
 have hz2:RowsSz 2 (rows++anyRows j 2):=fun r hr=>(List.mem_append.1 hr).elim (hz r) (anyRows_sz j 2 r)
 refine ecalls (N:=95) (rs:= [.tmp 6]) (by kernel_rfl) Tryz.func145 rfl rfl rfl (by simp) ?_
 rcases Nat.lt_or_ge i rows.length with hlt|hge
 ·have he:((i:Int)==(rows.length:Int))=false:=by simp;omega
  have hw1:IntKind.i64.wrap ((rows.length:Int)+1)=((rows.length+1:Nat):Int):=by rw[wrap_i64 (by omega) (by omega)];rfl
  have hw2:IntKind.i64.wrap (((rows.length+1:Nat):Int) - (i:Int))=((rows.length+1 - i:Nat):Int):=by rw[wrap_i64 (by omega) (by omega)];omega
  have hw3:IntKind.i64.wrap ((i:Int)+1)=((i+1:Nat):Int):=by rw[wrap_i64 (by omega) (by omega)];rfl
  (repeat(first|apply kA|apply kB|((first|refine kc (N:=95) ?_|refine kj (N:=95) kq19 ?_|apply kD|apply kE);simp +decide only[go_sem,hi,hib,hlj,he])))
  apply kG;(simp +decide only[go_sem];rfl)
  ·simp
  intro _
  (repeat(first|apply kA|apply kB|((first|refine kc (N:=95) ?_|refine kj (N:=95) kq19 ?_|apply kD|apply kE);simp +decide only[go_sem,hi,hib,hlj,he])))
  apply kG;(simp +decide only[go_sem];rfl)
  ·simp
  intro _
  rcases Nat.eq_zero_or_pos j with hj0|hj0
  ·have hg:decide (((rows.length+j:Nat):Int)<((rows.length+1:Nat):Int))=true:=by simp;omega
   (repeat(first|apply kA|apply kB|((first|refine kc (N:=95) ?_|refine kj (N:=95) kq19 ?_|apply kD|apply kE);simp +decide only[go_sem,hi,hib,hlj,he,hw1,hg])))
   apply kG;(simp +decide only[go_sem];rfl)
   ·intro _
    have hik:i+(rows.length+1 - i)=rows.length+1:=by omega
    have h0i:=Nat.zero_le i
    (repeat(first|apply kA|apply kB|((first|refine kc (N:=95) ?_|refine kj (N:=95) kq19 ?_|apply kD|apply kE);simp +decide only[go_sem,hi,hib,hlj,he,hw1,hw2,h0i,Nat.sub_zero])))
    refine StepC.mk (Step.appendMkList (kd:=.i64) (n:=n) (rows:=rows++anyRows j 2) (i:=0) (len:=i) (cap:=rows.length+j) (k:=rows.length+1 - i) (sz:=2) (by_:=40) rfl rfl (by simp +decide only[go_sem]) (by simp +decide only[go_sem]) (by simp +decide only[go_sem]) (by simp +decide only[go_sem]) (by simp +decide only[go_sem];exact hr) (by simp[anyRows_len]) hz2 (by omega) (by omega) (by omega) (by omega) ?_)
    intro j'
    have hik2:i≤rows.length+1:=by omega
    have hlj2:rows.length+1≤rows.length+1+j':=by omega
    have ht0:((rows++anyRows j 2).drop 0).take i=rows.take i:=by rw[List.drop_zero,List.take_append_of_le_length hi]
    have k1:KeepX n (fgt 40):=keepX_fgt1 n (by omega)
    have b1:Dl.Rows.tr (fgt 40) (rows.take i)=rows.take i:=by rw[tr_take,hR _ k1]
    have a1:=fun k=>hF _ k k1
    simp only[ht0,hik]
    simp +decide only[go_sem,hne]
    (repeat(first|apply kA|apply kB|((first|refine kc (N:=95) ?_|refine kj (N:=95) kq19 ?_|apply kD|apply kE);simp +decide only[go_sem,hne,hik2,hlj2])))
    have hzt:RowsSz 2 (rows.take i++anyRows (rows.length+1 - i+j') 2):=fun r hr=>(List.mem_append.1 hr).elim (fun h=>hz r (List.mem_of_mem_take h)) (anyRows_sz _ 2 r)
    have hzt2:RowsSz 2 (rows.take i++v::anyRows (rows.length - i+j') 2):=fun r hr=>by
     simp only[List.mem_append,List.mem_cons]at hr
     rcases hr with h|rfl|h
     ·exact hz r (List.mem_of_mem_take h)
     ·exact hvl
     ·exact anyRows_sz _ 2 r h
    have hti:(rows.take i).length=i:=by simp;omega
    refine StepC.mk (Step.copyTo (n:=40) (sz:=2) (i:=i) (len:=rows.length+1 - i) (cap:=rows.length+1+j' - i) (ys:= [v]) (rows:=rows.take i++anyRows (rows.length+1 - i+j') 2) (rows':=rows.take i++v::anyRows (rows.length - i+j') 2) (c:=1)
     rfl (by simp +decide only[go_sem]) (by simp +decide only[go_sem,hne]) (by simp +decide only[go_sem,hne,b1]) (by simp only[List.length_append,anyRows_len,hti];omega) hzt (srcOne (n:=q) (by simp +decide only[go_sem,hqe,hqm]) (by simp +decide only[go_sem,hqe,a1];exact hv) hvl) (by simp<;>omega) (ins_grow1 rows v i j' 2 hlt) ?_)
    have hi1:i+1≤rows.length+1:=by omega
    simp +decide only[go_sem,hne]
    (repeat(first|apply kA|apply kB|((first|refine kc (N:=95) ?_|refine kj (N:=95) kq19 ?_|apply kD|apply kE);simp +decide only[go_sem,hne,hw3,hi1,hlj2,hi,hlj])))
    refine StepC.mk (Step.copyTo (n:=40) (sz:=2) (i:=i+1) (len:=rows.length+1 - (i+1)) (cap:=rows.length+1+j' - (i+1)) (ys:=rows.drop i) (rows:=rows.take i++v::anyRows (rows.length - i+j') 2) (rows':=rows.take i++(v::(rows.drop i++anyRows j' 2))) (c:=rows.length - i)
     rfl (by simp +decide only[go_sem]) (by simp +decide only[go_sem,hne]) (by simp +decide only[go_sem,hne]) (by simp only[List.length_append,List.length_cons,anyRows_len,hti];omega) hzt2
     (srcBa (n:=n) (i:=i) (len:=rows.length - i) (cap:=rows.length+j - i) (rows:=rows++anyRows j 2) (by simp +decide only[go_sem,hne]) (by simp +decide only[go_sem,hne,a1];exact hr) (by simp only[List.length_append,anyRows_len];omega) hz2 (by rw[List.drop_append_of_le_length hi,List.take_append_of_le_length (by simp),List.take_of_length_le (by simp)])) (by simp<;>omega) (ins_grow2 rows v i j' 2 hlt) ?_)
    simp +decide only[go_sem,hne]
    (repeat(first|apply kA|apply kB|((first|refine kc (N:=95) ?_|refine kj (N:=95) kq19 ?_|apply kD|apply kE);simp +decide only[go_sem,hne])))
    refine kK (sub_mv 40 n hn2) ?_
    have k2:KeepX n (mvr 40 n):=keepX_mv1 n (by omega)
    have a2:=fun k=>hF _ k k2
    have b2:Dl.Rows.tr (mvr 40 n) (rows.take i)=rows.take i:=by rw[tr_take,hR _ k2]
    have b3:Dl.Rows.tr (mvr 40 n) (rows.drop i)=rows.drop i:=by rw[tr_drop,hR _ k2]
    have c2:=hV _ k2
    apply kF;simp +decide only[go_sem,hne]
    refine⟨j',rfl,?_,fun k hk hkn=>?_⟩
    ·simp +decide only[go_sem,hne,b2,b3,c2]
    ·have hk40: ¬k=40:=by omega
     simp +decide only[go_sem,hne,hkn,hk40,a1,a2]
   ·simp
  ·have hg:decide (((rows.length+j:Nat):Int)<((rows.length+1:Nat):Int))=false:=by simp;omega
   (repeat(first|apply kA|apply kB|((first|refine kc (N:=95) ?_|refine kj (N:=95) kq19 ?_|apply kD|apply kE);simp +decide only[go_sem,hi,hib,hlj,he,hw1,hg])))
   apply kG;(simp +decide only[go_sem];rfl)
   ·simp
   intro _
   have hj1:rows.length+1≤rows.length+j:=by omega
   have h0l:=Nat.zero_le (rows.length+1)
   have hi1:i+1≤rows.length+1:=by omega
   (repeat(first|apply kA|apply kB|((first|refine kc (N:=95) ?_|refine kj (N:=95) kq19 ?_|apply kD|apply kE);simp +decide only[go_sem,hi,hib,hlj,he,hw1,hw3,hj1,h0l,Nat.sub_zero,hi1])))
   refine CallC.step (Step.overlaps (t:=84) (tr:=4) (q:=q) (sz:=2) (m:=1) (rowsq:= [v]) (n:=n) (i:=i+1) (len:=rows.length+1 - (i+1)) (cap:=rows.length+j - (i+1)) (rows:=rows++anyRows j 2) rfl (by simp +decide only[go_sem]) Tryz.func166 (by kernel_rfl) (by kernel_rfl) (by kernel_rfl) (by kernel_rfl) Tryz.underlying84 (inf:=Tryz.t88) (by kernel_rfl)
    (by simp +decide only[go_sem]) (by simp +decide only[go_sem];exact hv) (by simp) (by omega) (by omega) (by simp +decide only[go_sem]) (by simp +decide only[go_sem];exact hr) (fun e=>by have:=congrArg List.length e;simp[anyRows_len]at this;omega) hz2 (by omega) hqn ?_)
   simp +decide only[go_sem]
   (repeat(first|apply kA|apply kB|((first|refine kc (N:=95) ?_|refine kj (N:=95) kq19 ?_|apply kD|apply kE);simp +decide only[go_sem])))
   apply kG;(simp +decide only[go_sem];rfl)
   ·intro _
    have hi2:i≤rows.length+1:=by omega
    have hRl:rows.length+j=(rows++anyRows j 2).length:=by simp[anyRows_len]
    have hzr:RowsSz 2 (rows.take (i+1)++(rows.drop i++anyRows (j - 1) 2)):=fun r hr=>by
     simp only[List.mem_append]at hr
     rcases hr with h|h|h
     ·exact hz r (List.mem_of_mem_take h)
     ·exact hz r (List.mem_of_mem_drop h)
     ·exact anyRows_sz _ 2 r h
    (repeat(first|apply kA|apply kB|((first|refine kc (N:=95) ?_|refine kj (N:=95) kq19 ?_|apply kD|apply kE);simp +decide only[go_sem,hi,hib,hlj,he,hw1,hw3,hj1,h0l,Nat.sub_zero,hi1,hi2])))
    refine StepC.mk (Step.copyTo (n:=n) (sz:=2) (i:=i+1) (len:=rows.length+1 - (i+1)) (cap:=rows.length+j - (i+1)) (ys:=((rows++anyRows j 2).drop i).take (rows.length+1 - i)) (rows:=rows++anyRows j 2) (rows':=rows.take (i+1)++(rows.drop i++anyRows (j - 1) 2)) (c:=rows.length - i)
     rfl (by simp +decide only[go_sem]) (by simp +decide only[go_sem]) (by simp +decide only[go_sem];exact hr) (by rw[← hRl];omega) hz2
     (srcBa (n:=n) (i:=i) (len:=rows.length+1 - i) (cap:=rows.length+j - i) (rows:=rows++anyRows j 2) (by simp +decide only[go_sem]) (by simp +decide only[go_sem];exact hr) (by rw[← hRl];omega) hz2 rfl) (by simp[anyRows_len];omega) (ins_room1 rows i j 2 hlt hj0) ?_)
    simp +decide only[go_sem]
    (repeat(first|apply kA|apply kB|((first|refine kc (N:=95) ?_|refine kj (N:=95) kq19 ?_|apply kD|apply kE);simp +decide only[go_sem,hi,hib,hlj,he,hw1,hw3,hj1,h0l,Nat.sub_zero,hi1,hi2])))
    have hti:(rows.take (i+1)).length=i+1:=by simp;omega
    refine StepC.mk (Step.copyTo (n:=n) (sz:=2) (i:=i) (len:=rows.length+1 - i) (cap:=rows.length+j - i) (ys:= [v]) (rows:=rows.take (i+1)++(rows.drop i++anyRows (j - 1) 2)) (rows':=rows.take i++(v::(rows.drop i++anyRows (j - 1) 2))) (c:=1)
     rfl (by simp +decide only[go_sem]) (by simp +decide only[go_sem]) (by simp +decide only[go_sem]) (by simp only[List.length_append,List.length_drop,anyRows_len,hti];omega) hzr (srcOne (n:=q) (by simp +decide only[go_sem]) (by simp +decide only[go_sem,hqne];exact hv) hvl) (by simp<;>omega) (ins_room2 rows v i (j - 1) 2 hlt) ?_)
    simp +decide only[go_sem]
    (repeat(first|apply kA|apply kB|((first|refine kc (N:=95) ?_|refine kj (N:=95) kq19 ?_|apply kD|apply kE);simp +decide only[go_sem])))
    apply kF;simp +decide only[go_sem]
    have hjj:rows.length+1+(j - 1)=rows.length+j:=by omega
    refine⟨j - 1,by rw[hjj],?_,fun k hk hkn=>?_⟩
    ·simp +decide only[go_sem]
    ·simp +decide only[go_sem,hkn]
   ·simp
 ·have hie:i=rows.length:=by omega
  have he:((i:Int)==(rows.length:Int))=true:=by simp;omega
  (repeat(first|apply kA|apply kB|((first|refine kc (N:=95) ?_|refine kj (N:=95) kq19 ?_|apply kD|apply kE);simp +decide only[go_sem,hi,hib,hlj,he])))
  apply kG;(simp +decide only[go_sem];rfl)
  ·simp
  intro _
  (repeat(first|apply kA|apply kB|((first|refine kc (N:=95) ?_|refine kj (N:=95) kq19 ?_|apply kD|apply kE);simp +decide only[go_sem,hi,hib,hlj,he])))
  apply kG;(simp +decide only[go_sem];rfl)
  ·intro _
   (repeat(first|apply kA|apply kB|((first|refine kc (N:=95) ?_|refine kj (N:=95) kq19 ?_|apply kD|apply kE);simp +decide only[go_sem,hi,hib,hlj,he])))
   refine StepC.mk (Step.appendList (n:=n) (rows:=rows) (ys:= [v]) (j:=j) (sz:=2) (by_:=40) rfl rfl (by simp +decide only[go_sem]) (by simp +decide only[go_sem]) (by simp +decide only[go_sem];exact hr) hz (srcOne (n:=q) (by simp +decide only[go_sem]) (by simp +decide only[go_sem];exact hv) hvl) (by simp;omega) ?_)
   intro j'
   simp +decide only[go_sem]
   (repeat(first|apply kA|apply kB|((first|refine kc (N:=95) ?_|refine kj (N:=95) kq19 ?_|apply kD|apply kE);simp +decide only[go_sem])))
   refine kK (sub_mv 25 n hn2) ?_
   have k1:KeepX n (fgts [n,25]):=keepX_fgts2 n (by omega)
   have k2:KeepX n (mvr 25 n):=keepX_mv1 n (by omega)
   have a1:=fun k=>hF _ k k1
   have a2:=fun k=>hF _ k k2
   have b1:=hR _ k1
   have b2:=hR _ k2
   have c1:=hV _ k1
   have c2:=hV _ k2
   apply kF;simp +decide only[go_sem,hne]
   refine⟨j',rfl,?_,fun k hk hkn=>?_⟩
   ·simp +decide only[go_sem,hne,b1,b2,c1,c2]
    subst hie
    simp
   ·have hk25: ¬k=25:=by omega
    simp +decide only[go_sem,hne,hkn,hk25,a1,a2]
  ·simp[hie]
theorem bsR_E(n cap:Nat)(hn:1000≤n)(H:Mem)(hH:MemOk H)(rows:Dl.Rows)(hr:H n=some rows)(ps:List ByteArray)(p:ByteArray)(hps: ∀(j:Nat) q,ps[j]? =some q→∃t,rows[j]? =some [.c (ls q),t])(hl:ps.length≤1000000):
  ECalls Tryz.prog 144 [.one (.ba n 2 0 ps.length cap),.agg [.c (ls p),.ex 3 []],.one (.c (.fn 121 []))] H
   (fun r H'=>(∃i,BsOk (fun j=>match ps[j]? with|some q=>cmpS q p|none=>0) ps.length i∧r= .tup [dv (li i),dv (lb (decide (ps[i]?.map (fun q=>cmpS q p)=some 0)))])∧∀k,1000≤k→H' k=H k):=by
 have hmax:(1000000:Nat)<maxLen:=by simp[maxLen]
 have hne: ∀k,k<1000→(n=k)=False:=fun k hk=>by simp;omega
 have hfg: ∀(m k:Nat),m<1000→(H k).map (Dl.Rows.tr (fgt m))=H k:=fun m k hm=>hH.fgt hm k
 refine ecalls (N:=49) (rs:= [.tmp 6,.tmp 7]) (by kernel_rfl) Tryz.func144 rfl rfl rfl (by simp) ?_
 (repeat(first|apply kA|apply kB|((first|refine kc (N:=49) ?_|refine kj (N:=49) kq18 ?_|apply kD|apply kE);simp +decide only[go_sem,hne,hfg])))
 refine dw_loop_fam (fun x:Nat×Nat=>kn 49 [(0,.one (.ba n 2 0 ps.length cap)),(2,.one (.c (.fn 121 []))),(4,.one (.bx 4 2 0 0)),(8,dv (li ps.length)),(9,dv (li x.1)),(10,dv (li x.2))] (fun k=>if k=4 then some [[.c (ls p),.ex 3 []]]else H k))
  (fun x=>x.1≤x.2∧x.2≤ps.length∧(0<x.1→(match ps[x.1 - 1]? with|some q=>cmpS q p|none=>0)<0)∧(x.2<ps.length→0≤(match ps[x.2]? with|some q=>cmpS q p|none=>0))) (fun x=>x.2 - x.1) (0,ps.length)
  ?_ ⟨by omega,by omega,by simp,by simp⟩ ?_
 ·refine kL rfl (by simp +decide only[go_sem,hne]) ?_
  intro k r hk
  simp +decide only[go_sem,hfg]
  by_cases h4:k=4
  ·rw[if_pos h4]at hk ⊢;rw[← hk]
  ·rw[if_neg h4]at hk ⊢;exact hk
 rintro⟨i,j⟩ ⟨h1,h2,h3,h4⟩
 simp only at h1 h2 h3 h4
 obtain⟨w1,w2,w3,w4⟩:=half_facts i j (by omega)
 rcases Nat.lt_or_ge i j with hlt|hge
 ·have hd:decide ((i:Int)<(j:Int))=true:=by simpa using hlt
  have hhl:(i+j) / 2<ps.length:=by omega
  obtain⟨q,hq1⟩: ∃q,ps[(i+j) / 2]? =some q:=⟨ps[(i+j) / 2],List.getElem?_eq_getElem hhl⟩
  obtain⟨tq,hq2⟩:=hps _ q hq1
  have hw:=wrap_succ ((i+j) / 2) (by omega)
  (repeat(first|apply kA|apply kB|((first|refine kc (N:=49) ?_|refine kj (N:=49) kq18 ?_|apply kD|apply kE);simp +decide only[go_sem,hd,hne])))
  apply kG;(simp +decide only[go_sem];rfl)
  ·intro _
   (repeat(first|apply kA|apply kB|((first|refine kc (N:=49) ?_|refine kj (N:=49) kq18 ?_|apply kD|apply kE);simp +decide only[go_sem,hne,w1,w2,w3,w4,hr,hq2,hhl])))
   (first|refine kx (byGloss_D q p tq.cl (.sl 3 [])) ?_);simp +decide only[go_sem]
   apply kG;(simp +decide only[go_sem];rfl)
   ·intro h5
    have h6:cmpS q p<0:=by simpa using h5
    (repeat(first|apply kA|apply kB|((first|refine kc (N:=49) ?_|refine kj (N:=49) kq18 ?_|apply kD|apply kE);simp +decide only[go_sem,hw])))
    refine⟨((i+j) / 2+1,j),⟨by simp only;omega,h2,fun _=>by simp only[Nat.add_sub_cancel,hq1];exact h6,h4⟩,by simp only;omega,kL rfl (by simp +decide only[go_sem]) (fun k r hk=>?_)⟩
    simp +decide only[go_sem]
    exact hk
   ·intro h5
    have h6: ¬cmpS q p<0:=by simpa using h5
    (repeat(first|apply kA|apply kB|((first|refine kc (N:=49) ?_|refine kj (N:=49) kq18 ?_|apply kD|apply kE);simp +decide only[go_sem])))
    refine⟨(i,(i+j) / 2),⟨by simp only;omega,by simp only;omega,h3,fun _=>by simp only[hq1];omega⟩,by simp only;omega,kL rfl (by simp +decide only[go_sem]) (fun k r hk=>?_)⟩
    simp +decide only[go_sem]
    exact hk
  ·simp
 ·have hij:i=j:=by omega
  subst hij
  have hd:decide ((i:Int)<(i:Int))=false:=by simp
  (repeat(first|apply kA|apply kB|((first|refine kc (N:=49) ?_|refine kj (N:=49) kq18 ?_|apply kD|apply kE);simp +decide only[go_sem,hd,hne])))
  apply kG;(simp +decide only[go_sem];rfl)
  ·simp
  intro _
  have hbs:BsOk (fun j=>match ps[j]? with|some q=>cmpS q p|none=>0) ps.length i:=⟨h2,h3,h4⟩
  rcases Nat.lt_or_ge i ps.length with hlt|hge
  ·have hd:decide ((i:Int)<(ps.length:Int))=true:=by simpa using hlt
   obtain⟨q,hq1⟩: ∃q,ps[i]? =some q:=⟨ps[i],List.getElem?_eq_getElem hlt⟩
   obtain⟨tq,hq2⟩:=hps _ q hq1
   (repeat(first|apply kA|apply kB|((first|refine kc (N:=49) ?_|refine kj (N:=49) kq18 ?_|apply kD|apply kE);simp +decide only[go_sem,hd,hne,hr,hq2,hlt])))
   (first|refine kx (byGloss_D q p tq.cl (.sl 3 [])) ?_);simp +decide only[go_sem]
   apply kF;simp +decide only[go_sem]
   exact⟨⟨i,hbs,by simp[hq1,beq_eq_dec]⟩,fun k hk=>by rw[if_neg (by omega)]⟩
  ·have hd:decide ((i:Int)<(ps.length:Int))=false:=by simpa using hge
   have hnone:ps[i]? =none:=List.getElem?_eq_none hge
   (repeat(first|apply kA|apply kB|((first|refine kc (N:=49) ?_|refine kj (N:=49) kq18 ?_|apply kD|apply kE);simp +decide only[go_sem,hd])))
   apply kF;simp +decide only[go_sem]
   exact⟨⟨i,hbs,by simp[hnone]⟩,fun k hk=>by rw[if_neg (by omega)]⟩
end Go.Proofs.YtehdkccjaeckhaaGreatDoor.V
namespace Go.Proofs.YtehdkccjaeckhaaGreatDoor
abbrev kpn20:List (Nat×Go.Dl.Mode):= [(0,.light),(1,.light),(2,.light),(3,.light),(4,.light),(5,.light),(6,.light),(7,.light),(8,.light),(9,.step),(10,.light),(11,.light),(12,.light),(13,.light),(14,.light)]
abbrev kpn21:List (Nat×Go.Dl.Mode):= [(0,.blind),(1,.blind),(2,.blind),(3,.blind),(5,.blind),(4,.look [29]),(6,.light),(7,.fresh),(8,.step),(9,.light),(10,.light),(11,.step)]
abbrev kq20:Nat→List (Nat×Go.Dl.Mode):=fun n=>match n with|1=>kpn20|3=>kpn21|_=> []
end Go.Proofs.YtehdkccjaeckhaaGreatDoor
namespace Go.Proofs.YtehdkccjaeckhaaGreatDoor.V
open Go.Dl
attribute [local irreducible] DW DCalls ECalls wk
noncomputable def carry(x:Nat)(o:Option Dl.Rows)(H:Mem):Mem:=fun k=>if k=x+NB then o else if mid k then H k else none
theorem carry_x(x:Nat)(o:Option Dl.Rows)(H:Mem):carry x o H (x+NB)=o:=by simp[carry]
theorem carry_mid{x k:Nat}{o:Option Dl.Rows}{H:Mem}(hk:mid k):carry x o H k=H k:=by
 have: ¬k=x+NB:=fun e=>by have:=hk.2;omega
 simp[carry,this,hk]
theorem carry_ok{x:Nat}{o:Option Dl.Rows}{H:Mem}(hH:MemOk H)(hm: ∀r,o=some r→Dl.Rows.Mids r):MemOk (carry x o H):=fun k r h=>by
 have hNB:=NB_big
 unfold carry at h
 split at h
 ·exact⟨by omega,hm r h⟩
 ·split at h
  ·exact hH k r h
  ·cases h
theorem carry_fix{x K:Nat}{o:Option Dl.Rows}{H:Mem}(h1: ∀r,o=some r→FixX K r)(h2: ∀k r,mid k→H k=some r→FixX K r): ∀k r,carry x o H k=some r→FixX K r:=fun k r h=>by
 unfold carry at h
 split at h
 ·exact h1 r h
 ·split at h
  ·rename_i hk;exact h2 k r hk h
  ·cases h
theorem keeps_shf1{x:Nat}(hx: ¬mid x):(shf [x]).Keeps:=keeps_shf (by simpa using hx)
theorem carry_call{x:Nat}{o:Option Dl.Rows}{H bx:Mem}(hH:MemOk H)(hx: ¬mid x)(h1:bx x=o)(hm: ∀r,o=some r→Dl.Rows.Mids r)(h2: ∀k,mid k→bx k=H k): ∀k r,carry x o H k=some r→callMem bx [x] k=some r:=fun k r h=>by
 unfold carry at h
 unfold callMem
 split at h
 ·rename_i hk
  subst hk
  rw[if_pos ⟨by omega,by simp⟩,Nat.add_sub_cancel,h1,h,Option.map_some,Dl.Rows.tr_mids (keeps_shf1 hx) (hm r h)]
 ·rename_i hk
  split at h
  ·rename_i hkm
   have: ¬(NB≤k∧k - NB∈ [x]):=fun e=>by have:=hkm.2;omega
   rw[if_neg this,if_pos hkm,h2 k hkm,h,Option.map_some,Dl.Rows.tr_mids (keeps_shf1 hx) (hH k r h).2]
  ·cases h
theorem aft_x{x:Nat}{o:Option Dl.Rows}{bx H':Mem}{m:Option Nat}(hx:m≠some x)(hm: ∀r,o=some r→Dl.Rows.Mids r)(h:H' (x+NB)=o):callMemAft bx H' [x] m x=o:=by
 simp only[callMemAft,hx,if_false,List.mem_singleton,if_true,h]
 cases o with
 | none=>rfl
 | some r=>simp only[Option.map_some,Dl.Rows.tr_mids keeps_usf (hm r rfl)]
theorem aft_out{x k:Nat}{bx H':Mem}{m:Option Nat}(hk: ¬mid k)(hx:k≠x)(hm:m≠some k):callMemAft bx H' [x] m k=(bx k).map (Dl.Rows.tr (aft [x] m)):=by
 simp only[callMemAft,hm,if_false,List.mem_singleton,hx,hk]
theorem fix_c(n:Nat)(xs:List (List C)):FixX n (xs.map (List.map T.c)):=fun r _=>Rows.tr_c r xs
theorem aft_mid{x k:Nat}{bx H':Mem}{m:Option Nat}{o:Option Dl.Rows}(hk:mid k)(hx:k≠x)(hm:m≠some k)(h:H' k=o)(ho: ∀r,o=some r→Dl.Rows.Mids r):callMemAft bx H' [x] m k=o:=by
 simp only[callMemAft,hm,if_false,List.mem_singleton,hx,hk,if_true,h]
 cases o with
 | none=>rfl
 | some r=>simp only[Option.map_some,Dl.Rows.tr_mids keeps_usf (ho r rfl)]
theorem aft_low{x k:Nat}{bx H':Mem}{m:Option Nat}(hk:k<1000)(hx:k≠x)(hm:m≠some k):callMemAft bx H' [x] m k=(bx k).map (Dl.Rows.tr (aft [x] m)):=by
 have: ¬mid k:=notmid hk
 simp only[callMemAft,hm,if_false,List.mem_singleton,hx,this]
abbrev pRow(p:Part):List T:=p.enc.map T.c
theorem pRows_mids(ps:List Part)(j:Nat):Dl.Rows.Mids (ps.map pRow++anyRows j 3):=Rows.mids_append (fun r hr=>by
 obtain⟨p,_,rfl⟩:=List.mem_map.1 hr
 exact midsAll_c _) (anyRows_mids j 3)
theorem pRows_sz(ps:List Part):RowsSz 3 (ps.map pRow):=fun r hr=>by
 obtain⟨p,_,rfl⟩:=List.mem_map.1 hr
 rfl
def putAt(ps:List Part)(p:Part)(i:Nat):List Part:=if ps[i]?.map (fun q=>cmpP q p)=some 0 then ps else ps.take i++p::ps.drop i
def bsF(ps:List Part)(p:Part):Nat→Int:=fun j=>match ps[j]? with|some q=>cmpP q p|none=>0
theorem putP_E(x K:Nat)(hx:NB≤x)(hK:1000≤K)(hK2:K<100000)(H:Mem)(hH:MemOk H)(ps:List Part)(j:Nat)(p:Part)(hl:ps.length≤10000)
  (hxr:H x=some [[.ba K 3 0 ps.length (ps.length+j),.c (.fn 124 [])]]) (hKr:H K=some (ps.map pRow++anyRows j 3)) (hfix: ∀k r,H k=some r→k≠x→FixX K r):
  ECalls Tryz.prog 125 [.one (.bx x 2 0 0),.agg (pRow p)] H
   (fun r H'=>∃i j',BsOk (bsF ps p) ps.length i∧H' x=some [[.ba K 3 0 (putAt ps p i).length ((putAt ps p i).length+j'),.c (.fn 124 [])]]∧H' K=some ((putAt ps p i).map pRow++anyRows j' 3)∧∀k,mid k→k≠K→H' k=H k):=by
 have hNB:=NB_big
 have hmax:(1000000:Nat)<maxLen:=by simp[maxLen]
 have hKm:mid K:=⟨hK,by omega⟩
 have hxm: ¬mid x:=notmidNB hx
 have hxK: ¬x=K:=by omega
 have hKx: ¬K=x:=by omega
 have hxlt:(x<NB)=False:=by simp;omega
 have hKlt:(K<NB)=True:=by simp;omega
 have hK1:(1000≤K)=True:=by simp[hK]
 have hne: ∀k,k<1000→(K=k)=False:=fun k hk=>by simp;omega
 have hxe: ∀k,k<1000→(x=k)=False:=fun k hk=>by simp;omega
 have hxe2: ∀k,k<1000→(k=x)=False:=fun k hk=>by simp;omega
 have hfg: ∀(m k:Nat),m<1000→(H k).map (Dl.Rows.tr (fgt m))=H k:=fun m k hm=>hH.fgt hm k
 have hxM: ∀r,H x=some r→Dl.Rows.Mids r:=fun r hr=>(hH x r hr).2
 refine ecalls (N:=34) (rs:= [.tmp 4]) (by kernel_rfl) Tryz.func125 rfl rfl rfl (by simp) ?_
 (repeat(first|apply kA|apply kB|((first|refine kc (N:=34) ?_|refine kj (N:=34) kq20 ?_|apply kD|apply kE);simp +decide only[go_sem,Part.enc,hxe,hne,hfg,hxr,hxlt])))
 have hbs:=bsP_E K (ps.length+j) hK (carry x (H x) H) (carry_ok hH hxM) (ps.map pRow++anyRows j 3) (by rw[carry_mid hKm,hKr]) ps p (fun q a hq=>by rw[List.getElem?_append_left (by simp;exact(List.getElem?_eq_some_iff.1 hq).1),List.getElem?_map,hq];rfl) (by omega)
 refine CallC.eff (caps:= []) [x] hbs (by simp +decide only[go_sem]) (DLeL.of_eq (by simp +decide only[go_sem,hKx,hxlt,hKlt,hK1,Part.enc])) (carry_call hH hxm (by simp +decide only[go_sem,hxe,hfg]) hxM (fun k hk=>?_)) ⟨by simpa using hxm,fun m hm=>by simp at hm;subst hm;simp;omega⟩ ?_
 ·have hmk: ∀m,m<1000→(k=m)=False:=fun m hm=>by simp;have:=hk.1;omega
  simp +decide only[go_sem,hmk,hfg]
 rintro r H1 ⟨⟨i,hb,rfl⟩,h1⟩
 have g1:H1 (x+NB)=H x:=by rw[h1 _ (by omega),carry_x]
 have g2: ∀k,mid k→H1 k=H k:=fun k hk=>by rw[h1 k hk.1,carry_mid hk]
 have q1: ∀bx,callMemAft bx H1 [x] (some 17) x=H x:=fun bx=>aft_x (by simp;omega) hxM g1
 have q2: ∀bx k,mid k→callMemAft bx H1 [x] (some 17) k=H k:=fun bx k hk=>aft_mid hk (fun e=>hxm (e▸hk)) (by simp;have:=hk.1;omega) (g2 k hk) (fun r hr=>(hH k r hr).2)
 have q3: ∀bx,callMemAft bx H1 [x] (some 17) 3=(bx 3).map (Dl.Rows.tr (aft [x] (some 17))):=fun bx=>aft_low (by omega) (by omega) (by simp)
 simp +decide only[go_sem,hxlt]
 (repeat(first|apply kA|apply kB|((first|refine kc (N:=34) ?_|refine kj (N:=34) kq20 ?_|apply kD|apply kE);simp +decide only[go_sem])))
 by_cases hf:ps[i]?.map (fun q=>cmpP q p)=some 0
 ·have hf':decide (ps[i]?.map (fun q=>cmpP q p)=some 0)=true:=by simpa using hf
  apply kG;(simp +decide only[go_sem,hf'];rfl)
  ·simp
  intro _
  (repeat(first|apply kA|apply kB|((first|refine kc (N:=34) ?_|refine kj (N:=34) kq20 ?_|apply kD|apply kE);simp +decide only[go_sem])))
  apply kF;simp +decide only[go_sem,q1]
  have hpa:putAt ps p i=ps:=by simp[putAt,hf]
  refine⟨i,j,hb,by rw[hpa,hxr],?_,fun k hk hkn=>?_⟩
  ·rw[hpa,← hKr]
   simp +decide only[go_sem,q2 _ K hKm]
  ·have q4:=fun bx=>q2 bx k hk
   simp +decide only[go_sem,q4]
 ·have hf':decide (ps[i]?.map (fun q=>cmpP q p)=some 0)=false:=by simpa using hf
  apply kG;(simp +decide only[go_sem,hf'];rfl)
  ·intro _
   (repeat(first|apply kA|apply kB|((first|refine kc (N:=34) ?_|refine kj (N:=34) kq20 ?_|apply kD|apply kE);simp +decide only[go_sem,hxe,hxe2,hxlt,q1,q3,hxr,Part.enc,hne])))
   have hpl:(ps.map pRow).length=ps.length:=by simp
   have hvM: ∀r,some [pRow p]=some r→Dl.Rows.Mids r:=fun r hr=>by injection hr with hr;subst hr;exact Rows.mids_c [p.enc]
   have hins:=insP_E K (29+NB) hK hK2 (by omega) (carry 29 (some [pRow p]) H) (carry_ok hH hvM) (ps.map pRow) j (pRow p) (by rw[carry_mid hKm,hKr]) (pRows_sz ps) (carry_x _ _ _) rfl i (by rw[hpl];exact hb.1) (by rw[hpl];omega)
    (carry_fix (fun r hr=>by injection hr with hr;subst hr;exact fix_c K [p.enc]) (fun k r hk hr=>hfix k r hr (fun e=>hxm (e▸hk))))
   rw[hpl]at hins
   have q4: ∀bx k,mid k→(callMemAft bx H1 [x] (some 17) k).map (Dl.Rows.tr (fgt 29))=H k:=fun bx k hk=>by rw[q2 bx k hk];exact hfg 29 k (by omega)
   refine CallC.eff (caps:= []) [29] hins (by simp +decide only[go_sem]) (DLeL.of_eq (by simp +decide only[go_sem,hKx,hxlt,hKlt,hK1,Part.enc,hne])) (carry_call hH (notmid (by omega)) (by simp +decide only[go_sem,Part.enc,pRow]) hvM (fun k hk=>?_)) ⟨by simpa using notmid (by omega),fun m hm=>by simp at hm;subst hm;simp⟩ ?_
   ·have hmk: ∀m,m<1000→(k=m)=False:=fun m hm=>by simp;have:=hk.1;omega
    have q5:=fun bx=>q4 bx k hk
    simp +decide only[go_sem,hmk,q5]
   rintro r H2 ⟨j',rfl,h2,h3⟩
   have hKnb:(NB≤K)=False:=by simp;omega
   have hnew:(ps.map pRow).take i++(pRow p::((ps.map pRow).drop i++anyRows j' 3))=(putAt ps p i).map pRow++anyRows j' 3:=by
    simp[putAt,hf,List.map_take,List.map_drop]
   rw[hnew]at h2
   have hpl2:(putAt ps p i).length=ps.length+1:=by
    have:=hb.1
    simp[putAt,hf];omega
   have g4: ∀k,mid k→k≠K→H2 k=H k:=fun k hk hkn=>by rw[h3 k hk.1 hkn,carry_mid hk]
   have p1: ∀bx,callMemAft bx H2 [29] (some 30) x=(bx x).map (Dl.Rows.tr (aft [29] (some 30))):=fun bx=>aft_out hxm (by omega) (by simp;omega)
   have p2: ∀bx,callMemAft bx H2 [29] (some 30) K=some ((putAt ps p i).map pRow++anyRows j' 3):=fun bx=>aft_mid hKm (by omega) (by simp;omega) h2 (fun r hr=>by injection hr with hr;subst hr;exact pRows_mids _ _)
   have p3: ∀bx k,mid k→k≠K→callMemAft bx H2 [29] (some 30) k=H k:=fun bx k hk hkn=>aft_mid hk (by have:=hk.1;omega) (by simp;have:=hk.1;omega) (g4 k hk hkn) (fun r hr=>(hH k r hr).2)
   have p4: ∀bx,callMemAft bx H2 [29] (some 30) 3=(bx 3).map (Dl.Rows.tr (aft [29] (some 30))):=fun bx=>aft_low (by omega) (by omega) (by simp)
   simp +decide only[go_sem,hne,hxe,hxe2,hxlt,p1,q1,hxr,hK1,hKlt,hKnb]
   (repeat(first|apply kA|apply kB|((first|refine kc (N:=34) ?_|refine kj (N:=34) kq20 ?_|apply kD|apply kE);simp +decide only[go_sem])))
   apply kF;simp +decide only[go_sem,hne,hxe,hxe2,hxlt,p1,q1,hxr,hK1,hKlt,hKnb]
   refine⟨i,j',hb,?_,?_,fun k hk hkn=>?_⟩
   ·simp +decide only[go_sem,hpl2]
   ·have hKx2:(K=x)=False:=by simp[hKx]
    simp +decide only[go_sem,hKx2,p2]
   ·have hkx:(k=x)=False:=by simp;intro e;exact hxm (e▸hk)
    have p5:=fun bx=>p3 bx k hk hkn
    simp +decide only[go_sem,hkx,p5]
  ·simp
def takeAt(ps:List Part)(p:Part)(i:Nat):List Part:=if ps[i]?.map (fun q=>cmpP q p)=some 0 then ps.take i++ps.drop (i+1)else ps
abbrev gRow(g:ByteArray):List T:= [.c (ls g),.ex 3 []]
theorem gRow_mids(g:ByteArray):Dl.Rows.Mids [gRow g]:=fun r hr=>by
 rw[List.mem_singleton.1 hr];exact⟨trivial,trivial,trivial⟩
theorem gRow_fix(n:Nat)(g:ByteArray):FixX n [gRow g]:=fun r _=>by simp[Rows.tr,T.trAll,T.tr]
def bsG(gs:List ByteArray)(g:ByteArray):Nat→Int:=fun j=>match gs[j]? with|some q=>cmpS q g|none=>0
def putRw(rows:Dl.Rows)(gs:List ByteArray)(g:ByteArray)(i:Nat):Dl.Rows:=if gs[i]?.map (fun q=>cmpS q g)=some 0 then rows else rows.take i++gRow g::rows.drop i
theorem putR_E(x K:Nat)(hx:NB≤x)(hK:1000≤K)(hK2:K<100000)(H:Mem)(hH:MemOk H)(rows:Dl.Rows)(gs:List ByteArray)(j:Nat)(g:ByteArray)(hl:rows.length≤10000)
  (hgl:gs.length=rows.length) (hgs: ∀(q:Nat) a,gs[q]? =some a→∃t,rows[q]? =some [.c (ls a),t]) (hz:RowsSz 2 rows)
  (hxr:H x=some [[.ba K 2 0 rows.length (rows.length+j),.c (.fn 121 [])]]) (hKr:H K=some (rows++anyRows j 2)) (hfix: ∀k r,H k=some r→k≠x→FixX K r):
  ECalls Tryz.prog 123 [.one (.bx x 2 0 0),.agg [.c (ls g),.ex 3 []]] H
   (fun r H'=>∃i j',BsOk (bsG gs g) rows.length i∧r=dv (li i)∧H' x=some [[.ba K 2 0 (putRw rows gs g i).length ((putRw rows gs g i).length+j'),.c (.fn 121 [])]]∧H' K=some (putRw rows gs g i++anyRows j' 2)∧∀k,mid k→k≠K→H' k=H k):=by
 have hNB:=NB_big
 have hmax:(1000000:Nat)<maxLen:=by simp[maxLen]
 have hKm:mid K:=⟨hK,by omega⟩
 have hxm: ¬mid x:=notmidNB hx
 have hxK: ¬x=K:=by omega
 have hKx: ¬K=x:=by omega
 have hxlt:(x<NB)=False:=by simp;omega
 have hKlt:(K<NB)=True:=by simp;omega
 have hK1:(1000≤K)=True:=by simp[hK]
 have hne: ∀k,k<1000→(K=k)=False:=fun k hk=>by simp;omega
 have hxe: ∀k,k<1000→(x=k)=False:=fun k hk=>by simp;omega
 have hxe2: ∀k,k<1000→(k=x)=False:=fun k hk=>by simp;omega
 have hfg: ∀(m k:Nat),m<1000→(H k).map (Dl.Rows.tr (fgt m))=H k:=fun m k hm=>hH.fgt hm k
 have hrM:Dl.Rows.Mids rows:=fun r hr=>(hH K _ hKr).2 r (List.mem_append_left _ hr)
 have hnM: ∀i j',Dl.Rows.Mids (putRw rows gs g i++anyRows j' 2):=fun i j'=>Rows.mids_append (fun r hr=>by
  unfold putRw at hr
  split at hr
  ·exact hrM r hr
  ·simp only[List.mem_append,List.mem_cons]at hr
   rcases hr with h|rfl|h
   ·exact hrM r (List.mem_of_mem_take h)
   ·exact gRow_mids g _ (List.mem_singleton.2 rfl)
   ·exact hrM r (List.mem_of_mem_drop h)) (anyRows_mids _ _)
 have hxM: ∀r,H x=some r→Dl.Rows.Mids r:=fun r hr=>(hH x r hr).2
 refine ecalls (N:=34) (rs:= [.tmp 4]) (by kernel_rfl) Tryz.func123 rfl rfl rfl (by simp) ?_
 (repeat(first|apply kA|apply kB|((first|refine kc (N:=34) ?_|refine kj (N:=34) kq20 ?_|apply kD|apply kE);simp +decide only[go_sem,hxe,hne,hfg,hxr,hxlt])))
 have hbs:=bsR_E K (rows.length+j) hK (carry x (H x) H) (carry_ok hH hxM) (rows++anyRows j 2) (by rw[carry_mid hKm,hKr]) gs g (fun q a hq=>by obtain⟨t,ht⟩:=hgs q a hq;exact⟨t,by rw[List.getElem?_append_left (List.getElem?_eq_some_iff.1 ht).1,ht]⟩) (by omega)
 rw[hgl]at hbs
 refine CallC.eff (caps:= []) [x] hbs (by simp +decide only[go_sem]) (DLeL.of_eq (by simp +decide only[go_sem,hKx,hxlt,hKlt,hK1])) (carry_call hH hxm (by simp +decide only[go_sem,hxe,hfg]) hxM (fun k hk=>?_)) ⟨by simpa using hxm,fun m hm=>by simp at hm;subst hm;simp;omega⟩ ?_
 ·have hmk: ∀m,m<1000→(k=m)=False:=fun m hm=>by simp;have:=hk.1;omega
  simp +decide only[go_sem,hmk,hfg]
 rintro r H1 ⟨⟨i,hb,rfl⟩,h1⟩
 have g1:H1 (x+NB)=H x:=by rw[h1 _ (by omega),carry_x]
 have g2: ∀k,mid k→H1 k=H k:=fun k hk=>by rw[h1 k hk.1,carry_mid hk]
 have q1: ∀bx,callMemAft bx H1 [x] (some 17) x=H x:=fun bx=>aft_x (by simp;omega) hxM g1
 have q2: ∀bx k,mid k→callMemAft bx H1 [x] (some 17) k=H k:=fun bx k hk=>aft_mid hk (fun e=>hxm (e▸hk)) (by simp;have:=hk.1;omega) (g2 k hk) (fun r hr=>(hH k r hr).2)
 have q3: ∀bx,callMemAft bx H1 [x] (some 17) 3=(bx 3).map (Dl.Rows.tr (aft [x] (some 17))):=fun bx=>aft_low (by omega) (by omega) (by simp)
 simp +decide only[go_sem,hxlt]
 (repeat(first|apply kA|apply kB|((first|refine kc (N:=34) ?_|refine kj (N:=34) kq20 ?_|apply kD|apply kE);simp +decide only[go_sem])))
 by_cases hf:gs[i]?.map (fun q=>cmpS q g)=some 0
 ·have hf':decide (gs[i]?.map (fun q=>cmpS q g)=some 0)=true:=by simpa using hf
  apply kG;(simp +decide only[go_sem,hf'];rfl)
  ·simp
  intro _
  (repeat(first|apply kA|apply kB|((first|refine kc (N:=34) ?_|refine kj (N:=34) kq20 ?_|apply kD|apply kE);simp +decide only[go_sem])))
  apply kF;simp +decide only[go_sem,q1]
  have hpa:putRw rows gs g i=rows:=by simp[putRw,hf]
  refine⟨i,j,hb,rfl,by rw[hpa,hxr],?_,fun k hk hkn=>?_⟩
  ·rw[hpa,← hKr]
   simp +decide only[go_sem,q2 _ K hKm]
  ·have q4:=fun bx=>q2 bx k hk
   simp +decide only[go_sem,q4]
 ·have hf':decide (gs[i]?.map (fun q=>cmpS q g)=some 0)=false:=by simpa using hf
  apply kG;(simp +decide only[go_sem,hf'];rfl)
  ·intro _
   (repeat(first|apply kA|apply kB|((first|refine kc (N:=34) ?_|refine kj (N:=34) kq20 ?_|apply kD|apply kE);simp +decide only[go_sem,hxe,hxe2,hxlt,q1,q3,hxr,hne])))
   have hpl:rows.length=rows.length:=rfl
   have hvM: ∀r,some [gRow g]=some r→Dl.Rows.Mids r:=fun r hr=>by injection hr with hr;subst hr;exact gRow_mids g
   have hins:=insR_E K (29+NB) hK hK2 (by omega) (carry 29 (some [gRow g]) H) (carry_ok hH hvM) rows j (gRow g) (by rw[carry_mid hKm,hKr]) hz (carry_x _ _ _) rfl i (by rw[hpl];exact hb.1) (by rw[hpl];omega)
    (carry_fix (fun r hr=>by injection hr with hr;subst hr;exact gRow_fix K g) (fun k r hk hr=>hfix k r hr (fun e=>hxm (e▸hk))))
   rw[hpl]at hins
   have q4: ∀bx k,mid k→(callMemAft bx H1 [x] (some 17) k).map (Dl.Rows.tr (fgt 29))=H k:=fun bx k hk=>by rw[q2 bx k hk];exact hfg 29 k (by omega)
   refine CallC.eff (caps:= []) [29] hins (by simp +decide only[go_sem]) (DLeL.of_eq (by simp +decide only[go_sem,hKx,hxlt,hKlt,hK1,hne])) (carry_call hH (notmid (by omega)) (by simp +decide only[go_sem,pRow]) hvM (fun k hk=>?_)) ⟨by simpa using notmid (by omega),fun m hm=>by simp at hm;subst hm;simp⟩ ?_
   ·have hmk: ∀m,m<1000→(k=m)=False:=fun m hm=>by simp;have:=hk.1;omega
    have q5:=fun bx=>q4 bx k hk
    simp +decide only[go_sem,hmk,q5]
   rintro r H2 ⟨j',rfl,h2,h3⟩
   have hKnb:(NB≤K)=False:=by simp;omega
   have hnew:rows.take i++(gRow g::(rows.drop i++anyRows j' 2))=putRw rows gs g i++anyRows j' 2:=by
    simp[putRw,hf,List.map_take,List.map_drop]
   rw[hnew]at h2
   have hpl2:(putRw rows gs g i).length=rows.length+1:=by
    have:=hb.1
    simp[putRw,hf];omega
   have g4: ∀k,mid k→k≠K→H2 k=H k:=fun k hk hkn=>by rw[h3 k hk.1 hkn,carry_mid hk]
   have p1: ∀bx,callMemAft bx H2 [29] (some 30) x=(bx x).map (Dl.Rows.tr (aft [29] (some 30))):=fun bx=>aft_out hxm (by omega) (by simp;omega)
   have p2: ∀bx,callMemAft bx H2 [29] (some 30) K=some (putRw rows gs g i++anyRows j' 2):=fun bx=>aft_mid hKm (by omega) (by simp;omega) h2 (fun r hr=>by injection hr with hr;subst hr;exact hnM i j')
   have p3: ∀bx k,mid k→k≠K→callMemAft bx H2 [29] (some 30) k=H k:=fun bx k hk hkn=>aft_mid hk (by have:=hk.1;omega) (by simp;have:=hk.1;omega) (g4 k hk hkn) (fun r hr=>(hH k r hr).2)
   have p4: ∀bx,callMemAft bx H2 [29] (some 30) 3=(bx 3).map (Dl.Rows.tr (aft [29] (some 30))):=fun bx=>aft_low (by omega) (by omega) (by simp)
   simp +decide only[go_sem,hne,hxe,hxe2,hxlt,p1,q1,hxr,hK1,hKlt,hKnb]
   (repeat(first|apply kA|apply kB|((first|refine kc (N:=34) ?_|refine kj (N:=34) kq20 ?_|apply kD|apply kE);simp +decide only[go_sem])))
   apply kF;simp +decide only[go_sem,hne,hxe,hxe2,hxlt,p1,q1,hxr,hK1,hKlt,hKnb]
   refine⟨i,j',hb,rfl,?_,?_,fun k hk hkn=>?_⟩
   ·simp +decide only[go_sem,hpl2]
   ·have hKx2:(K=x)=False:=by simp[hKx]
    simp +decide only[go_sem,hKx2,p2]
   ·have hkx:(k=x)=False:=by simp;intro e;exact hxm (e▸hk)
    have p5:=fun bx=>p3 bx k hk hkn
    simp +decide only[go_sem,hkx,p5]
  ·simp
structure IRow where
 gloss:ByteArray
 k:Nat
 ps:List Part
 j:Nat
def irow(r:IRow):List T:= [.c (ls r.gloss),.ba r.k 3 0 r.ps.length (r.ps.length+r.j)]
def kmem(r:IRow):Dl.Rows:=r.ps.map pRow++anyRows r.j 3
def ixM(X:Nat)(L:List IRow)(jr:Nat):Mem:=fun k=>
 if k=X then some [[.ba 1000 2 0 L.length (L.length+jr),.c (.fn 121 [])]]
 else if k=1000 then some (L.map irow++anyRows jr 2)
 else(L.find? fun r=>r.k==k).map kmem
structure IxOk(B:Nat)(L:List IRow):Prop where
 hB:B≤90000
 nd:(L.map (·.k)).Nodup
 rng: ∀r∈L,1001≤r.k∧r.k<B
 len:L.length≤5000
 lens: ∀r∈L,r.ps.length≤5000
theorem find_k{L:List IRow}(hnd:(L.map (·.k)).Nodup){r:IRow}(hr:r∈L):(L.find? fun q=>q.k==r.k)=some r:=by
 induction L with
 | nil=>cases hr
 | cons a l ih=>
  simp only[List.map_cons,List.nodup_cons,List.mem_map,not_exists,not_and]at hnd
  rcases List.mem_cons.1 hr with rfl|h
  ·simp
  ·have: ¬a.k=r.k:=fun e=>hnd.1 r h e.symm
   rw[List.find?_cons_of_neg (by simpa using this)]
   exact ih hnd.2 h
theorem ixM_x(X:Nat)(L:List IRow)(jr:Nat):ixM X L jr X=some [[.ba 1000 2 0 L.length (L.length+jr),.c (.fn 121 [])]]:=by simp[ixM]
theorem ixM_r{X:Nat}(hX:X≠1000)(L:List IRow)(jr:Nat):ixM X L jr 1000=some (L.map irow++anyRows jr 2):=by
 simp[ixM,Ne.symm hX]
theorem ixM_k{X B:Nat}{L:List IRow}(jr:Nat)(h:IxOk B L)(hX: ¬mid X){r:IRow}(hr:r∈L):ixM X L jr r.k=some (kmem r):=by
 have hNB:=NB_big
 have h1:=h.rng r hr
 have hB:=h.hB
 have h2: ¬r.k=X:=fun e=>hX (e▸⟨by omega,by omega⟩)
 have h3: ¬r.k=1000:=by omega
 simp only[ixM,if_neg h2,if_neg h3,find_k h.nd hr,Option.map_some]
theorem kmem_mids(r:IRow):Dl.Rows.Mids (kmem r):=pRows_mids _ _
theorem irow_mids{r:IRow}(h:mid r.k):T.MidsAll (irow r):=⟨trivial,h,trivial⟩
theorem rrows_mids{B:Nat}{L:List IRow}(h:IxOk B L)(jr:Nat):Dl.Rows.Mids (L.map irow++anyRows jr 2):=by
 have hNB:=NB_big
 refine Rows.mids_append (fun x hx=>?_) (anyRows_mids _ _)
 obtain⟨r,hr,rfl⟩:=List.mem_map.1 hx
 have:=h.rng r hr
 have hB:=h.hB
 exact irow_mids ⟨by omega,by omega⟩
theorem ixM_ok{X:Nat}(hX:NB≤X){B:Nat}{L:List IRow}(h:IxOk B L)(jr:Nat):MemOk (ixM X L jr):=fun k r hk=>by
 have hNB:=NB_big
 unfold ixM at hk
 split at hk
 ·rename_i e;injection hk with hk;subst hk
  refine⟨by omega,fun x hx=>?_⟩
  rw[List.mem_singleton.1 hx]
  exact⟨⟨Nat.le_refl _,by omega⟩,trivial,trivial⟩
 ·split at hk
  ·rename_i e;injection hk with hk;subst hk
   exact⟨by omega,rrows_mids h jr⟩
  ·simp only[Option.map_eq_some_iff]at hk
   obtain⟨q,hq,rfl⟩:=hk
   have hm:=List.mem_of_find?_eq_some hq
   have hkq:=List.find?_some hq
   have:=h.rng q hm
   have hB:=h.hB
   simp only[beq_iff_eq]at hkq
   exact⟨by omega,kmem_mids q⟩
theorem ixM_fix{X B:Nat}{L:List IRow}(h:IxOk B L)(jr:Nat): ∀k r,ixM X L jr k=some r→k≠X→FixX 1000 r:=fun k r hk hkX=>by
 have hNB:=NB_big
 unfold ixM at hk
 rw[if_neg hkX]at hk
 split at hk
 ·injection hk with hk;subst hk
  intro q hq
  rw[Rows.tr_append,anyRows_tr]
  congr 1
  unfold Dl.Rows.tr
  rw[List.map_map]
  refine List.map_congr_left fun x hx=>?_
  have hr:=h.rng x hx
  have hB:=h.hB
  have:=(hq x.k ⟨by omega,by omega⟩ (by omega)).2
  simp only[Function.comp,irow,T.trAll,T.tr,this,T.baTo]
 ·simp only[Option.map_eq_some_iff]at hk
  obtain⟨q,hq,rfl⟩:=hk
  intro r hr
  unfold kmem
  rw[Rows.tr_append,anyRows_tr]
  congr 1
  have:=fix_c 1000 (q.ps.map Part.enc) r hr
  have e:q.ps.map pRow=(q.ps.map Part.enc).map (List.map T.c):=by rw[List.map_map];rfl
  rw[e];exact this
theorem irow_sz(L:List IRow):RowsSz 2 (L.map irow):=fun r hr=>by
 obtain⟨p,_,rfl⟩:=List.mem_map.1 hr
 rfl
theorem irow_get(L:List IRow)(q:Nat)(a:ByteArray)(h:(L.map (·.gloss))[q]? =some a): ∃t,(L.map irow)[q]? =some [.c (ls a),t]:=by
 rw[List.getElem?_map]at h ⊢
 cases hc:L[q]? with
 | none=>rw[hc]at h;cases h
 | some r=>rw[hc]at h;injection h with h;subst h;exact⟨_,rfl⟩
theorem aftM_keepX(K:Nat){m:Nat}(hm:m<1000):KeepX K (aftM (fun k=>k==K) [10] (some m)):=fun k hk hkn=>by
 have h1:k∉ [10]:=by simp;have:=hk.1;omega
 have h2: ¬midM (fun k=>k==K) k:=fun h=>hkn (by have:=h.2.2;simpa using this)
 have h3: ¬(some m=some k):=by simp;have:=hk.1;omega
 simp only[aftM,h1,h2,h3,or_self,if_false,and_self]
theorem ixM_fixK{X K:Nat}(hK:K≠1000){L:List IRow}(jr:Nat): ∀k r,ixM X L jr k=some r→k≠1000→FixX K r:=fun k r hk hk1=>by
 have hNB:=NB_big
 unfold ixM at hk
 split at hk
 ·injection hk with hk;subst hk
  intro q hq
  have:=(hq 1000 ⟨Nat.le_refl _,by omega⟩ (Ne.symm hK)).2
  simp[Rows.tr,T.trAll,T.tr,this,T.baTo]
 ·simp only[if_neg hk1,Option.map_eq_some_iff]at hk
  obtain⟨q,hq,rfl⟩:=hk
  intro r hr
  unfold kmem
  rw[Rows.tr_append,anyRows_tr]
  congr 1
  have:=fix_c K (q.ps.map Part.enc) r hr
  have e:q.ps.map pRow=(q.ps.map Part.enc).map (List.map T.c):=by rw[List.map_map];rfl
  rw[e];exact this
theorem ixM_keep{X K:Nat}(hK:K≠1000){L:List IRow}(jr:Nat){r:Ren}(hr:KeepX K r){k:Nat}(hk:k≠1000):(ixM X L jr k).map (Dl.Rows.tr r)=ixM X L jr k:=by
 cases hc:ixM X L jr k with
 | none=>rfl
 | some x=>rw[Option.map_some,ixM_fixK hK jr k x hc hk r hr]
theorem rows_fgtK{B:Nat}{L:List IRow}(h:IxOk B L)(K jr:Nat){r:Ren}(hr:KeepX K r)(hK:r.g K=none):Dl.Rows.tr r (L.map irow++anyRows jr 2)=Dl.Rows.tr (fgt K) (L.map irow++anyRows jr 2):=by
 have hNB:=NB_big
 rw[Rows.tr_append,Rows.tr_append,anyRows_tr,anyRows_tr]
 congr 1
 unfold Dl.Rows.tr
 rw[List.map_map,List.map_map]
 refine List.map_congr_left fun x hx=>?_
 have h1:=h.rng x hx
 have hB:=h.hB
 by_cases hxk:x.k=K
 ·simp only[Function.comp,irow,T.trAll,T.tr,hxk,hK,fgt,if_true,T.baTo]
 ·have:=(hr x.k ⟨by omega,by omega⟩ hxk).2
  simp only[Function.comp,irow,T.trAll,T.tr,this,fgt,if_neg hxk]
theorem aftM_gK{K:Nat}(hK:mid K)(m:Option Nat):(aftM (fun k=>k==K) [10] m).g K=none:=by
 have h2:midM (fun k=>k==K) K:=⟨hK.1,hK.2,by simp⟩
 simp[aftM,h2]
end Go.Proofs.YtehdkccjaeckhaaGreatDoor.V
namespace Go.Proofs.YtehdkccjaeckhaaGreatDoor.V
open Go.Dl
theorem names_set{L:List IRow}{a:Nat}{r r2:IRow}(hr:L[a]? =some r)(hk:r2.k=r.k):(L.set a r2).map (·.k)=L.map (·.k):=by
 rw[List.map_set]
 apply List.ext_getElem?
 intro q
 rw[List.getElem?_set]
 split
 ·rename_i h;subst h
  have hl:a<L.length:=(List.getElem?_eq_some_iff.1 hr).1
  rw[if_pos (by simpa using hl),List.getElem?_map,hr,Option.map_some,hk]
 ·rfl
theorem find_set{k:Nat}{r2:IRow}(hk:r2.k≠k): ∀(L:List IRow) (a:Nat) (r:IRow),L[a]? =some r→r.k≠k→((L.set a r2).find? fun q=>q.k==k)=L.find? fun q=>q.k==k
 | [],a,r,h,_=>by simp at h
 | x::l,0,r,h,hr=>by
  simp only[List.getElem?_cons_zero,Option.some.injEq]at h
  subst h
  rw[List.set_cons_zero,List.find?_cons_of_neg (by simpa using hk),List.find?_cons_of_neg (by simpa using hr)]
 | x::l,a+1,r,h,hr=>by
  rw[List.set_cons_succ]
  by_cases hx:x.k=k
  ·rw[List.find?_cons_of_pos (by simpa using hx),List.find?_cons_of_pos (by simpa using hx)]
  ·rw[List.find?_cons_of_neg (by simpa using hx),List.find?_cons_of_neg (by simpa using hx)]
   exact find_set hk l a r (by simpa using h) hr
theorem IxOk.set{B:Nat}{L:List IRow}(h:IxOk B L){a:Nat}{r r2:IRow}(hr:L[a]? =some r)(hk:r2.k=r.k)(hl:r2.ps.length≤5000):IxOk B (L.set a r2):=by
 refine⟨h.hB,by rw[names_set hr hk];exact h.nd,fun x hx=>?_,by rw[List.length_set];exact h.len,fun x hx=>?_⟩
 ·rcases List.mem_or_eq_of_mem_set hx with hx|rfl
  ·exact h.rng x hx
  ·rw[hk];exact h.rng r (List.mem_of_getElem? hr)
 ·rcases List.mem_or_eq_of_mem_set hx with hx|rfl
  ·exact h.lens x hx
  ·exact hl
theorem rows_set{B:Nat}{L:List IRow}(h:IxOk B L){a:Nat}{r r2:IRow}(hr:L[a]? =some r)(jr:Nat):(Dl.Rows.tr (fgt r.k) (L.map irow++anyRows jr 2)).set a (irow r2)=(L.set a r2).map irow++anyRows jr 2:=by
 have hl:a<L.length:=(List.getElem?_eq_some_iff.1 hr).1
 rw[Rows.tr_append,anyRows_tr,List.set_append_left _ _ (by simp[Rows.tr,hl]),List.map_set]
 congr 1
 apply List.ext_getElem?
 intro q
 rw[List.getElem?_set,List.getElem?_set]
 by_cases hq:a=q
 ·subst hq
  simp[Rows.tr,hl]
 ·simp only[if_neg hq,Rows.tr,List.getElem?_map]
  cases hx:L[q]? with
  | none=>rfl
  | some x=>
   have hne:x.k≠r.k:=fun e=>by
    have hql:q<L.length:=(List.getElem?_eq_some_iff.1 hx).1
    have:=(List.getElem?_inj (i:=q) (j:=a) (l:=L.map (·.k)) (by simpa using hql) h.nd).1 (by rw[List.getElem?_map,List.getElem?_map,hx,hr,Option.map_some,Option.map_some,e])
    exact hq this.symm
   simp only[Option.map_some,irow,T.trAll,T.tr,fgt,if_neg hne,T.baTo]
theorem ixM_set{X B:Nat}(hX: ¬mid X){L:List IRow}(h:IxOk B L){a:Nat}{r r2:IRow}(hr:L[a]? =some r)(hk:r2.k=r.k)(jr k:Nat):ixM X (L.set a r2) jr k=
  if k=r.k then some (kmem r2)else if k=1000 then some ((Dl.Rows.tr (fgt r.k) (L.map irow++anyRows jr 2)).set a (irow r2))else ixM X L jr k:=by
 have hNB:=NB_big
 have hB:=h.hB
 have hrng:=h.rng r (List.mem_of_getElem? hr)
 have hl:a<L.length:=(List.getElem?_eq_some_iff.1 hr).1
 have hkX:r.k≠X:=fun e=>hX (e▸⟨by omega,by omega⟩)
 have h1X:(1000:Nat)≠X:=fun e=>hX (e▸⟨Nat.le_refl _,by omega⟩)
 by_cases h1:k=r.k
 ·subst h1
  have hnd:((L.set a r2).map (·.k)).Nodup:=by rw[names_set hr hk];exact h.nd
  have hm:r2∈L.set a r2:=List.mem_of_getElem? (i:=a) (by rw[List.getElem?_set,if_pos rfl,if_pos hl])
  have:=find_k hnd hm
  rw[hk]at this
  rw[if_pos rfl]
  simp only[ixM,if_neg hkX,if_neg (show ¬r.k=1000 by omega),this,Option.map_some]
 ·rw[if_neg h1]
  by_cases h2:k=1000
  ·subst h2
   rw[if_pos rfl,rows_set h hr jr]
   simp only[ixM,if_neg h1X,if_true]
  ·rw[if_neg h2]
   by_cases h3:k=X
   ·subst h3
    simp only[ixM,if_true,List.length_set]
   ·simp only[ixM,if_neg h3,if_neg h2]
    rw[find_set (by rw[hk];exact fun e=>h1 e.symm) L a r hr (fun e=>h1 e.symm)]
end Go.Proofs.YtehdkccjaeckhaaGreatDoor.V
