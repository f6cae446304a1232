/- The logic of data over the kit's walk, and contracts of the functions that the laws reach, each said by plain data; part 2 of 7. -/
import Derived.RangeFuncSeq
import Derived.Sort.Grow
import Derived.Test.YtaaodllggdjhiaaGreatDoorm0
set_option linter.all false
set_option linter.unusedVariables false
set_option linter.unusedSimpArgs false
set_option maxRecDepth 10000
set_option maxHeartbeats 8000000
open Array renaming getElem?_eq_none → yz, setIfInBounds_comm → jD, getElem?_eq_getElem → wY, getElem?_eq_some_iff → wF, getElem?_append → jq
open Bool renaming and_eq_true → wu, true_or → jC, false_eq_true → w8, not_eq_true' → yI, or_eq_true → yX, or_true → yD, false_or → jH
open List renaming getElem?_map → wq, getElem?_append_left → wP, getElem?_append_right → wG, length_map → we, map_cons → wt, map_nil → wn, mem_singleton → yd, getElem?_eq_some_iff → wd, getElem?_cons_zero → yT, all_eq_true → w5, mem_of_getElem? → wl, map_congr_left → yC, mem_map → wI, contains_iff_mem → yY, mem_range → y9, not_mem_nil → yl, map_map → yw, getElem?_set → jh, getElem?_eq_getElem → wc, eq_of_mem_replicate → yb, mem_append → wo, append_assoc → wU, take_append_drop → wS, drop_eq_getElem_cons → wL, append_nil → wM, mem_cons → ws, nodup_cons → jp, getElem?_of_mem → jw, getElem?_zip_eq_some → jx
open Nat renaming le_trans → wD, lt_or_ge → yg, le_add_left → yx, lt_of_lt_of_le → yA, le_refl → wv, add_mul → w7, one_mul → yO, zero_le → ye
open Option renaming map_eq_some_iff → wy, bind_eq_some_iff → wX, bind_some → yU, map_some → w4
namespace Go.Dl
open Go.RowKit
noncomputable section
def midM(ms:Nat->Bool)(k:Nat):Prop:=1000<=k/\k<NB/\ms k=true
instance (ms:Nat->Bool) (k:Nat):Decidable (midM ms k):=by unfold midM;infer_instance
variable {ms : Nat -> Bool}
def shfM(ms:Nat->Bool)(ns:List Nat):Ren:=⟨fun n=>if n∈ns then some (n+NB)else if midM ms n then some n else none,fun n=>if n∈ns then some (n+NB)else if midM ms n then some n else none⟩
def usfM(ms:Nat->Bool)(ns:List Nat)(m:Option Nat):Ren:=
 ⟨fun k=>if k=0 then m else if NB<=k/\k - NB∈ns then some (k - NB)else if midM ms k then some k else none,fun k=>if k=0 then m else if NB<=k/\k - NB∈ns then some (k - NB)else if midM ms k then some k else none⟩
def aftM(ms:Nat->Bool)(ns:List Nat)(m:Option Nat):Ren:=⟨fun n=>if n∈ns\/midM ms n\/m=some n then none else some n,fun n=>if midM ms n\/m=some n then none else some n⟩
def vQ(ms:Nat->Bool)(bx:Mem)(ns:List Nat):Mem:=fun k=>if NB<=k/\k - NB∈ns then(bx (k - NB)).map (Rows.tr (shfM ms ns))else if midM ms k then(bx k).map (Rows.tr (shfM ms ns))else none
def qS(ms:Nat->Bool)(bx H':Mem)(ns:List Nat)(m:Option Nat):Mem:=fun k=>
 if m=some k then(H' 0).map (Rows.tr (usfM ms ns m))else if k∈ns then(H' (k+NB)).map (Rows.tr (usfM ms ns m))else if midM ms k then(H' k).map (Rows.tr (usfM ms ns m))else(bx k).map (Rows.tr (aftM ms ns m))
def DS.aftCallM(s:DS)(ms:Nat->Bool)(ns:List Nat)(m:Option Nat)(r:D)(H':Mem):DS:=
 ({ s with sl:=fun t=>(s.sl t).tr (aftM ms ns m),bx:=qS ms s.bx H' ns m }:DS).put m (r.tr (usfM ms ns m))
def qF(ms:Nat->Bool)(E:Env)(ns:List Nat):Env:=⟨E.K,fun k=>if NB<=k then E.ρ (k - NB)else E.ρ k,fun k=>if NB<=k/\k - NB∈ns then E.val (k - NB)else if midM ms k then E.val k else(.slice none 0 0,0)⟩
def zm(ms:Nat->Bool)(bx:Mem)(E:Env)(ns:List Nat):KSet:=fun b o=>∃n,(n∈ns\/midM ms n)/\((∃rows,bx n=some rows/\rows≠ []/\b=E.ρ n)\/vX (E.val n) b o)
theorem Q8(E:Env)(ns:List Nat):Renames (shfM ms ns) E (qF ms E ns):=by
 refine⟨rfl,fun n k h=>?_,fun n k h=>?_⟩
 ·simp only[shfM]at h
  split at h
  ·rename_i hn;injection h with h;subst h
   simp[qF,hn]
  ·split at h
   ·rename_i hn;injection h with h;subst h
    have: ¬(NB<=n/\n - NB∈ns):=fun e=>by have:=hn.2;omega
    simp[qF,this,hn]
   ·cases h
 ·simp only[shfM]at h
  split at h
  ·injection h with h;subst h;simp[qF]
  ·split at h
   ·rename_i hn;injection h with h;subst h
    have: ¬NB<=n:=fun e=>by have:=hn.2;omega
    simp[qF,this]
   ·cases h
theorem zE{bx:Mem}{ns:List Nat}{k:Nat}{r:Rows}(h:vQ ms bx ns k=some r):((NB<=k/\k - NB∈ns)\/midM ms k)/\∃r',bx (und k)=some r'/\r=Rows.tr (shfM ms ns) r':=by
 unfold vQ at h
 split at h
 ·rename_i hk
  simp only[wy]at h
  obtain⟨r',h1,h2⟩:=h
  exact⟨.inl hk,r',by simp only[und,hk.1,if_true];exact h1,h2.symm⟩
 ·split at h
  ·rename_i hk
   simp only[wy]at h
   obtain⟨r',h1,h2⟩:=h
   have: ¬NB<=k:=fun e=>by have:=hk.2;omega
   exact⟨.inr hk,r',by simp only[und,this,if_false];exact h1,h2.symm⟩
  ·cases h
theorem qi6{ns:List Nat}{k:Nat}(h:(NB<=k/\k - NB∈ns)\/midM ms k):und k∈ns\/midM ms (und k):=by
 rcases h with h|h
 ·exact .inl (by simp only[und,h.1,if_true];exact h.2)
 ·have: ¬NB<=k:=fun e=>by have:=h.2;omega
  exact .inr (by simp only[und,this,if_false];exact h)
theorem qfT{ns:List Nat}(hns: ∀n∈ns,¬midM ms n){k j:Nat}(hk:(NB<=k/\k - NB∈ns)\/midM ms k)(hj:(NB<=j/\j - NB∈ns)\/midM ms j)(h:und k=und j):k=j:=by
 rcases hk with hk|hk<;>rcases hj with hj|hj
 ·simp only[und,hk.1,hj.1,if_true]at h;have:=hk.1;have:=hj.1;omega
 ·have h2: ¬NB<=j:=fun e=>by have:=hj.2;omega
  simp only[und,hk.1,h2,if_true,if_false]at h
  exact absurd hj (h▸hns _ hk.2)
 ·have h2: ¬NB<=k:=fun e=>by have:=hk.2;omega
  simp only[und,hj.1,h2,if_true,if_false]at h
  exact absurd hk (h▸hns _ hj.2)
 ·have h1: ¬NB<=k:=fun e=>by have:=hk.2;omega
  have h2: ¬NB<=j:=fun e=>by have:=hj.2;omega
  simp only[und,h1,h2,if_false]at h;exact h
theorem Zl(E:Env)(ns:List Nat)(k:Nat):(qF ms E ns).ρ k=E.ρ (und k):=by
 simp only[qF,und];split<;>rfl
theorem qfP{X:Origin}{w:World}{E:Env}{bx:Mem}(h:WI X w E bx)(ns:List Nat)(hns: ∀n∈ns,¬midM ms n):WI ⟨w,E.K,zm ms bx E ns,(qF ms E ns).ρ,NB,none,w.heap.size⟩ w (qF ms E ns) (vQ ms bx ns):=by
 have hR:=Q8 (ms:=ms) E ns
 have qfh: ∀k b o,vX ((qF ms E ns).val k) b o->((NB<=k/\k - NB∈ns)\/midM ms k)/\vX (E.val (und k)) b o:=fun k b o hs=>by
  simp only[qF]at hs
  split at hs
  ·rename_i hk;exact⟨.inl hk,by simp only[und,hk.1,if_true];exact hs⟩
  ·split at hs
   ·rename_i hk
    have: ¬NB<=k:=fun e=>by have:=hk.2;omega
    exact⟨.inr hk,by simp only[und,this,if_false];exact hs⟩
   ·obtain⟨a,len,cap,h1,_⟩:=hs;cases h1
 refine⟨Turn.refl _ _,fun b o hk hF=>?_,fun _ _ h=>h,fun _ _ _ _ h=>h,h.kok,fun k rows hk hne=>?_,fun k j rk rj hk h2 hj h3 hne=>?_,fun k b o hs=>?_,fun k j b o hs hs'=>?_,fun k j b o rj hs hj h3=>?_,fun _ _=>rfl⟩
 ·obtain⟨n,hn,⟨rows,h1,h2,rfl⟩|h1⟩:=hF
  ·exact(h.boxes n rows h1 h2).2.2 o hk
  ·exact(h.free n b o h1).2.1 hk
 ·obtain⟨g1,r',g3,rfl⟩:=zE hk
  obtain⟨k1,k2,k3⟩:=h.boxes _ r' g3 (Rows.tr_ne hne)
  rw[Zl]
  exact⟨.inr fun o=>⟨_,qi6 g1,.inl ⟨r',g3,Rows.tr_ne hne,rfl⟩⟩,k2.tr hR,k3⟩
 ·obtain⟨g1,r',g3,rfl⟩:=zE hk
  obtain⟨f1,r2,f3,rfl⟩:=zE hj
  rw[Zl,Zl]
  exact h.boxne _ _ r' r2 g3 (Rows.tr_ne h2) f3 (Rows.tr_ne h3) (fun e=>hne (qfT hns g1 f1 e))
 ·obtain⟨g1,g3⟩:=qfh k b o hs
  obtain⟨k1,k2,k3⟩:=h.free _ b o g3
  exact⟨.inr ⟨_,qi6 g1,.inr g3⟩,k2,k3⟩
 ·obtain⟨g1,g3⟩:=qfh k b o hs
  obtain⟨f1,f3⟩:=qfh j b o hs'
  exact qfT hns g1 f1 (h.disj _ _ b o g3 f3)
 ·obtain⟨g1,g3⟩:=qfh k b o hs
  obtain⟨f1,r2,f3,rfl⟩:=zE hj
  rw[Zl]
  exact h.sbox _ _ b o r2 g3 f3 (Rows.tr_ne h3)
def ve(ms:Nat->Bool)(E E':Env)(ns:List Nat)(m:Option Nat):Env:=
 ⟨E'.K,fun k=>if m=some k then E'.ρ 0 else if midM ms k then E'.ρ k else E.ρ k,fun k=>if m=some k then E'.val 0 else if k∈ns then E'.val (k+NB)else if midM ms k then E'.val k else E.val k⟩
section
variable {X : Origin} {w w' : World} {E E' : Env} {bx H' : Mem} {ns : List Nat} {m : Option Nat}
theorem zY(h:WI X w E bx){b o:Nat}(hF:zm ms bx E ns b o):X.Young b o:=by
 obtain⟨n,hn,⟨rows,h1,h2,rfl⟩|h1⟩:=hF
 ·exact(h.boxes n rows h1 h2).1.imp id fun g=>g o
 ·exact(h.free n b o h1).1
theorem Zk(h:WI X w E bx){k:Nat}{rows:Rows}(hk:bx k=some rows)(hne:rows≠ [])(hn: ¬(k∈ns\/midM ms k))(o:Nat): ¬zm ms bx E ns (E.ρ k) o:=by
 rintro⟨n,hn',⟨rows',h1,h2,h3⟩|h1⟩
 ·exact h.boxne k n rows rows' hk hne h1 h2 (fun e=>hn (e▸hn')) h3
 ·exact h.sbox n k _ o rows h1 hk hne rfl
theorem zZ(h:WI X w E bx){k b o:Nat}(hs:vX (E.val k) b o)(hn: ¬(k∈ns\/midM ms k)): ¬zm ms bx E ns b o:=by
 rintro⟨n,hn',⟨rows',h1,h2,h3⟩|h1⟩
 ·exact h.sbox k n b o rows' hs h1 h2 h3
 ·exact hn (h.disj k n b o hs h1▸hn')
theorem qkb(h:WI X w E bx){b:Nat}(hy:w.heap.size<=b\/∀o,zm ms bx E ns b o):X.young b:=by
 rcases hy with hy|hy
 ·exact .inl (wD h.turn.size hy)
 ·rcases yg b X.w.heap.size with hb|hb
  ·exact .inr fun o=>(zY h (hy o)).resolve_left (by omega)
  ·exact .inl hb
theorem qlN(h:WI X w E bx){b o:Nat}(hy:w.heap.size<=b\/zm ms bx E ns b o):X.Young b o:=by
 rcases hy with hy|hy
 ·exact .inl (wD h.turn.size hy)
 ·exact zY h hy
def GnM(ms:Nat->Bool)(ns:List Nat)(m:Option Nat)(k' k:Nat):Prop:=(k'=0/\m=some k)\/(m≠some k/\((k'=k+NB/\k∈ns)\/(k'=k/\midM ms k)))
theorem Q1{k:Nat}{r:Rows}(h:qS ms bx H' ns m k=some r):
  (∃k' r',H' k'=some r'/\r=Rows.tr (usfM ms ns m) r'/\GnM ms ns m k' k)\/(m≠some k/\¬(k∈ns\/midM ms k)/\∃r',bx k=some r'/\r=Rows.tr (aftM ms ns m) r'):=by
 unfold qS at h
 split at h
 ·rename_i hm
  simp only[wy]at h
  obtain⟨r',h1,h2⟩:=h
  exact .inl ⟨0,r',h1,h2.symm,.inl ⟨rfl,hm⟩⟩
 ·rename_i hm
  split at h
  ·rename_i hn
   simp only[wy]at h
   obtain⟨r',h1,h2⟩:=h
   exact .inl ⟨k+NB,r',h1,h2.symm,.inr ⟨hm,.inl ⟨rfl,hn⟩⟩⟩
  ·rename_i hn
   split at h
   ·rename_i hmid
    simp only[wy]at h
    obtain⟨r',h1,h2⟩:=h
    exact .inl ⟨k,r',h1,h2.symm,.inr ⟨hm,.inr ⟨rfl,hmid⟩⟩⟩
   ·rename_i hmid
    simp only[wy]at h
    obtain⟨r',h1,h2⟩:=h
    exact .inr ⟨hm,fun e=>e.elim hn hmid,r',h1,h2.symm⟩
theorem ZF(h:WI X w E bx)(h':WI ⟨w,E.K,zm ms bx E ns,(qF ms E ns).ρ,NB,none,w.heap.size⟩ w' E' H'):Later w E w' ⟨E'.K,E.ρ,E.val⟩:=
 ⟨fun b o hb=>⟨h'.kin b o hb,h'.turn.cell (qy (h.kok b o hb)) (h'.sep b o hb)⟩,rfl,rfl⟩
theorem Q9(E E':Env)(ns:List Nat)(m:Option Nat):Renames (aftM ms ns m) ⟨E'.K,E.ρ,E.val⟩ (ve ms E E' ns m):=by
 refine⟨rfl,fun n k h=>?_,fun n k h=>?_⟩
 ·simp only[aftM]at h
  split at h
  ·cases h
  ·rename_i hn
   injection h with h;subst h
   have h1:n∉ns:=fun e=>hn (.inl e)
   have h3: ¬midM ms n:=fun e=>hn (.inr (.inl e))
   have h2: ¬m=some n:=fun e=>hn (.inr (.inr e))
   simp[ve,h1,h2,h3]
 ·simp only[aftM]at h
  split at h
  ·cases h
  ·rename_i hn
   injection h with h;subst h
   have h3: ¬midM ms n:=fun e=>hn (.inl e)
   have h2: ¬m=some n:=fun e=>hn (.inr e)
   simp[ve,h2,h3]
structure CallOkM(ms:Nat->Bool)(ns:List Nat)(dst:Option Nat):Prop where
 hns: ∀n∈ns,¬midM ms n
 hm: ∀x,dst=some x->x∉ns/\x<1000
theorem CallOkM.nmid(h:CallOkM ms ns m){k:Nat}(hk:midM ms k): ¬m=some k:=fun e=>by
 have:=(h.hm k e).2;have:=hk.1;omega
theorem CallOkM.nin(h:CallOkM ms ns m){k:Nat}(hk:k∈ns): ¬m=some k:=fun e=>(h.hm k e).1 hk
theorem qh9(hc:CallOkM ms ns m)(h':WI ⟨w,E.K,zm ms bx E ns,(qF ms E ns).ρ,NB,none,w.heap.size⟩ w' E' H'){k' k:Nat}(g:GnM ms ns m k' k):(ve ms E E' ns m).ρ k=E'.ρ k'/\(ve ms E E' ns m).val k=E'.val k':=by
 rcases g with⟨rfl,h1⟩|⟨h0,⟨rfl,h1⟩|⟨rfl,h1⟩⟩
 ·simp[ve,h1]
 ·have hf:=h'.fix (k+NB) (by simp)
  simp only[qF,Nat.add_sub_cancel,yx,if_true]at hf
  simp[ve,h0,h1,hf,hc.hns k h1]
 ·have:k'∉ns:=fun e=>hc.hns k' e h1
  simp[ve,h0,h1,this]
theorem qqd(hc:CallOkM ms ns m){k:Nat}(h1:m≠some k)(h2: ¬(k∈ns\/midM ms k)):(ve ms E E' ns m).ρ k=E.ρ k/\(ve ms E E' ns m).val k=E.val k:=by
 have g1:k∉ns:=fun e=>h2 (.inl e)
 have g2: ¬midM ms k:=fun e=>h2 (.inr e)
 simp[ve,h1,g1,g2]
theorem qqe(hc:CallOkM ms ns m){k' k j' j:Nat}(g:GnM ms ns m k' k)(f:GnM ms ns m j' j):k'=j'↔k=j:=by
 have hNB:=qL
 rcases g with⟨rfl,h1⟩|⟨h0,⟨rfl,h1⟩|⟨rfl,h1⟩⟩<;>rcases f with⟨rfl,h2⟩|⟨h3,⟨rfl,h2⟩|⟨rfl,h2⟩⟩
 ·rw[h1]at h2;injection h2 with h2;simp[h2]
 ·exact⟨fun e=>by omega,fun e=>absurd (e▸h1) h3⟩
 ·exact⟨fun e=>by have:=h2.1;omega,fun e=>absurd (e▸h1) h3⟩
 ·exact⟨fun e=>by omega,fun e=>absurd (e▸h2) h0⟩
 ·exact⟨fun e=>by omega,fun e=>by omega⟩
 ·exact⟨fun e=>by have:=h2.2;omega,fun e=>absurd (e▸h2) (hc.hns _ h1)⟩
 ·exact⟨fun e=>by have:=h1.1;omega,fun e=>absurd (e▸h2) h0⟩
 ·exact⟨fun e=>by have:=h1.2;omega,fun e=>absurd (e▸h1) (hc.hns _ h2)⟩
 ·exact Iff.rfl
theorem qaG(hc:CallOkM ms ns m)(h':WI ⟨w,E.K,zm ms bx E ns,(qF ms E ns).ρ,NB,none,w.heap.size⟩ w' E' H'):Renames (usfM ms ns m) E' (ve ms E E' ns m):=by
 have key: ∀n k,(if n=0 then m else if NB<=n/\n - NB∈ns then some (n - NB)else if midM ms n then some n else none)=some k->GnM ms ns m n k:=by
  intro n k h
  split at h
  ·rename_i hk;exact .inl ⟨hk,h⟩
  ·split at h
   ·rename_i hk hk2
    injection h with h;subst h
    exact .inr ⟨hc.nin hk2.2,.inl ⟨by omega,hk2.2⟩⟩
   ·split at h
    ·rename_i hk hk2 hk3
     injection h with h;subst h
     exact .inr ⟨hc.nmid hk3,.inr ⟨rfl,hk3⟩⟩
    ·cases h
 exact⟨rfl,fun n k h=>(qh9 hc h' (key n k h)).2,fun n k h=>(qh9 hc h' (key n k h)).1⟩
theorem qi1(h:WI X w E bx)(hB:NB<=X.B)(h':WI ⟨w,E.K,zm ms bx E ns,(qF ms E ns).ρ,NB,none,w.heap.size⟩ w' E' H')(hc:CallOkM ms ns m):WI X w' (ve ms E E' ns m) (qS ms bx H' ns m):=by
 have qaR:=ZF h h'
 have hRa:=Q9 (ms:=ms) E E' ns m
 have hRu:=qaG hc h'
 have hnoK: ∀b o,b<w.heap.size->¬zm ms bx E ns b o->E'.K b o->E.K b o:=fun b o h1 h2 h3=>h'.kold b o h1 h2 h3
 have nm: ∀{k' k:Nat},GnM ms ns m k' k->(ve ms E E' ns m).ρ k=E'.ρ k'/\(ve ms E E' ns m).val k=E'.val k':=fun g=>qh9 hc h' g
 have nmU: ∀{k:Nat},m≠some k->¬(k∈ns\/midM ms k)->(ve ms E E' ns m).ρ k=E.ρ k/\(ve ms E E' ns m).val k=E.val k:=fun h1 h2=>qqd hc h1 h2
 have nmI: ∀{k' k j' j:Nat},GnM ms ns m k' k->GnM ms ns m j' j->(k'=j'↔k=j):=fun g f=>qqe hc g f
 have qly: ∀k,(∃k',GnM ms ns m k' k)\/(m≠some k/\¬(k∈ns\/midM ms k)):=fun k=>by
  by_cases h1:m=some k
  ·exact .inl ⟨0,.inl ⟨rfl,h1⟩⟩
  ·by_cases h2:k∈ns
   ·exact .inl ⟨_,.inr ⟨h1,.inl ⟨rfl,h2⟩⟩⟩
   ·by_cases h3:midM ms k
    ·exact .inl ⟨_,.inr ⟨h1,.inr ⟨rfl,h3⟩⟩⟩
    ·exact .inr ⟨h1,fun e=>e.elim h2 h3⟩
 refine⟨h.turn.trans h'.turn (fun i o hi hF=>(zY h hF).resolve_left (by omega)),h.sep,fun b o hb=>h'.kin b o (h.kin b o hb),fun b o hlt hXF hk=>?_,h'.kok,fun k rows hk hne'=>?_,fun k j rk rj hk h2 hj h3 hkj=>?_,fun k b o hs=>?_,fun k j b o hs hs'=>?_,fun k j b o rj hs hj h3=>?_,fun k hk=>?_⟩
 ·have hbw:b<w.heap.size:=yA hlt h.turn.size
  exact h.kold b o hlt hXF (hnoK b o hbw (fun hF=>hXF ((zY h hF).resolve_left (by omega))) hk)
 ·rcases Q1 hk with⟨k',r',g1,rfl,g2⟩|⟨g1,g2,r',g3,rfl⟩
  ·obtain⟨l1,l2,l3⟩:=h'.boxes k' r' g1 (Rows.tr_ne hne')
   rw[(nm g2).1]
   exact⟨qkb h l1,l2.tr hRu,l3⟩
  ·obtain⟨l1,l2,l3⟩:=h.boxes k r' g3 (Rows.tr_ne hne')
   have hF:=Zk h g3 (Rows.tr_ne hne') g2
   rw[(nmU g1 g2).1]
   exact⟨l1,(l2.mono qaR (h'.turn.whole l2.lt hF)).tr hRa,fun o ho=>l3 o (hnoK _ o l2.lt (hF o) ho)⟩
 ·rcases Q1 hk with⟨k',r1,g1,rfl,g2⟩|⟨g1,g2,r1,g3,rfl⟩
  ·rcases Q1 hj with⟨j',r2,f1,rfl,f2⟩|⟨f1,f2,r2,f3,rfl⟩
   ·rw[(nm g2).1,(nm f2).1]
    exact h'.boxne k' j' r1 r2 g1 (Rows.tr_ne h2) f1 (Rows.tr_ne h3) fun e=>hkj ((nmI g2 f2).1 e)
   ·rw[(nm g2).1,(nmU f1 f2).1]
    intro e
    have hlt:=(h.boxes j r2 f3 (Rows.tr_ne h3)).2.1.lt
    rcases(h'.boxes k' r1 g1 (Rows.tr_ne h2)).1 with l|l
    ·simp only at l;omega
    ·exact Zk h f3 (Rows.tr_ne h3) f2 0 (e▸l 0)
  ·rcases Q1 hj with⟨j',r2,f1,rfl,f2⟩|⟨f1,f2,r2,f3,rfl⟩
   ·rw[(nmU g1 g2).1,(nm f2).1]
    intro e
    have hlt:=(h.boxes k r1 g3 (Rows.tr_ne h2)).2.1.lt
    rcases(h'.boxes j' r2 f1 (Rows.tr_ne h3)).1 with l|l
    ·simp only at l;omega
    ·exact Zk h g3 (Rows.tr_ne h2) g2 0 (e▸l 0)
   ·rw[(nmU g1 g2).1,(nmU f1 f2).1]
    exact h.boxne k j r1 r2 g3 (Rows.tr_ne h2) f3 (Rows.tr_ne h3) hkj
 ·rcases qly k with⟨k',g⟩|⟨g1,g2⟩
  ·rw[(nm g).2]at hs
   obtain⟨l1,l2,l3⟩:=h'.free k' b o hs
   exact⟨qlN h l1,l2,l3⟩
  ·rw[(nmU g1 g2).2]at hs
   obtain⟨l1,l2,l3⟩:=h.free k b o hs
   exact⟨l1,fun hk=>l2 (hnoK b o l3.lt (zZ h hs g2) hk),h'.turn.free l3.lt l3⟩
 ·rcases qly k with⟨k',g⟩|⟨g1,g2⟩
  ·rcases qly j with⟨j',f⟩|⟨f1,f2⟩
   ·rw[(nm g).2]at hs;rw[(nm f).2]at hs'
    exact(nmI g f).1 (h'.disj k' j' b o hs hs')
   ·rw[(nm g).2]at hs;rw[(nmU f1 f2).2]at hs'
    have hlt:=(h.free j b o hs').2.2.lt
    rcases(h'.free k' b o hs).1 with l|l
    ·simp only at l;omega
    ·exact absurd l (zZ h hs' f2)
  ·rcases qly j with⟨j',f⟩|⟨f1,f2⟩
   ·rw[(nmU g1 g2).2]at hs;rw[(nm f).2]at hs'
    have hlt:=(h.free k b o hs).2.2.lt
    rcases(h'.free j' b o hs').1 with l|l
    ·simp only at l;omega
    ·exact absurd l (zZ h hs g2)
   ·rw[(nmU g1 g2).2]at hs;rw[(nmU f1 f2).2]at hs'
    exact h.disj k j b o hs hs'
 ·rcases Q1 hj with⟨j',r2,f1,rfl,f2⟩|⟨f1,f2,r2,f3,rfl⟩
  ·rw[(nm f2).1]
   rcases qly k with⟨k',g⟩|⟨g1,g2⟩
   ·rw[(nm g).2]at hs
    exact h'.sbox k' j' b o r2 hs f1 (Rows.tr_ne h3)
   ·rw[(nmU g1 g2).2]at hs
    intro e
    have hlt:=(h.free k b o hs).2.2.lt
    rcases(h'.boxes j' r2 f1 (Rows.tr_ne h3)).1 with l|l
    ·simp only at l;omega
    ·exact absurd (e▸l o) (zZ h hs g2)
  ·rw[(nmU f1 f2).1]
   rcases qly k with⟨k',g⟩|⟨g1,g2⟩
   ·rw[(nm g).2]at hs
    intro e
    have hlt:=(h.boxes j r2 f3 (Rows.tr_ne h3)).2.1.lt
    rcases(h'.free k' b o hs).1 with l|l
    ·simp only at l;omega
    ·exact Zk h f3 (Rows.tr_ne h3) f2 o (e▸l)
   ·rw[(nmU g1 g2).2]at hs
    exact h.sbox k j b o r2 hs f3 (Rows.tr_ne h3)
 ·have hNB:=qL
  have hmk:m≠some k:=fun e=>by have:=(hc.hm k e).2;omega
  have hmd: ¬midM ms k:=fun e=>by have:=e.2;omega
  simp only[ve,if_neg hmk,if_neg hmd]
  exact h.fix k hk
end
theorem qmA{X:Origin}{s:DS}{E E':Env}{a:Act}{w w':World}{H':Mem}{ns:List Nat}{m:Option Nat}(h:RelE X s E a w)(h':WI ⟨w,E.K,zm ms s.bx E ns,(qF ms E ns).ρ,NB,none,w.heap.size⟩ w' E' H')(hc:CallOkM ms ns m)(hm: ∀x,m=some x->x<s.n)
  {r:D} {v:Value} (hv:VD w' E' r v):Rel X (s.aftCallM ms ns m r H') (a.put m v) w':=by
 have hbase:RelE X { s with sl:=fun t=>(s.sl t).tr (aftM ms ns m),bx:=qS ms s.bx H' ns m } (ve ms E E' ns m) a w':=
  ⟨qi1 h.wi h.small.2 h' hc,fun t=>((h.sl t).mono (ZF h.wi h')).tr (Q9 E E' ns m),h.size,h.defers.turn h'.turn,h.small,h.pl⟩
 exact⟨_,hbase.putOnly (fun d hd=>hm d hd) (hv.tr (qaG hc h'))⟩
section
variable {P : Program}
theorem qlA{o:Oper}{a:Act}{w:World}{X:Origin}{s:DS}{E:Env}{f:Operand}{args:Array Operand}{tys:Array TypeId}(ho:o.op= .call { callee:=.value f,args:=args,argTypes:=tys })(hr:RelE X s E a w)
  {g:FuncId} {caps:List T} {ns:List Nat} {ds:List D} {H:Mem} {R:D->Mem->Prop} (hf:(s.ev f).asFn=some (g,caps)) (hle:DLeL ((args.toList.map s.ev++caps.map D.one).map (D.tr (shfM ms ns))) ds) (hc:ECalls P g ds H R)
  (hH: ∀k r,H k=some r->vQ ms s.bx ns k=some r) (hok:CallOkM ms ns o.dst) (hm: ∀x,o.dst=some x->x<s.n) {Q:Exit->Act->World->Prop}:
  o.wp P a w (fun a' w'=>∃r H',R r H'/\Rel X (s.aftCallM ms ns o.dst r H') a' w') Q:=by
 obtain⟨captured,hfv,hcs,hcv⟩:=qdE hf (hr.ev f)
 have hR:=Q8 (ms:=ms) E ns
 obtain⟨hlen,qby⟩:=hle.get
 have hsz:(args.map a.eval++captured).size=ds.length:=by
  rw[<-hlen];simp[hcs]
 have hvs: ∀(j:Nat) d v,ds[j]? =some d->(args.map a.eval++captured)[j]? =some v->VD w (qF ms E ns) d v:=by
  intro j d v g1 g2
  obtain⟨d0,g3,g4⟩:=qby j d g1
  refine g4 w _ v ?_
  rw[wq]at g3
  cases hd:(args.toList.map s.ev++caps.map D.one)[j]? with
  | none=>rw[hd]at g3;cases g3
  | some d1=>
   rw[hd]at g3;injection g3 with g3;subst g3
   refine VD.tr hR ?_
   by_cases hj:j<args.size
   ·rw[wP (by simpa using hj)]at hd
    rw[Array.getElem?_append_left (by simpa using hj)]at g2
    simp[hj]at hd g2
    subst hd;subst g2
    exact hr.ev _
   ·rw[wG (by simp;omega)]at hd
    rw[Array.getElem?_append_right (by simp;omega)]at g2
    simp only[we,Array.size_map,Array.length_toList]at hd g2
    rw[wq]at hd
    cases hcc:caps[j - args.size]? with
    | none=>rw[hcc]at hd;cases hd
    | some c=>rw[hcc]at hd;injection hd with hd;subst hd;exact .one _ _ (hcv _ c v hcc g2)
 have hwi:=(qfP hr.wi ns hok.hns).less hH
 have qaq:=hc.2 w (qF ms E ns) (zm ms s.bx E ns) _ hwi hsz hvs
 have vi:(execOp a.eval o).run P w= .ok (.enter g (args.map a.eval++captured)) w:=by
  unfold execOp
  simp only[ho,Sem.run_bind]
  rw[vg a.eval f args tys _ g captured hfv w]
  simp only[Result.andThen_ok,invoke]
  exact zH hc.1 _ w
 unfold Oper.wp
 rw[vi]
 refine Calls.mono qaq ?_
 rintro e w' ⟨v,E',r,H',rfl,hQ,hwi',hv'⟩
 exact⟨r,H',hQ,qmA hr hwi' hok hm hv'⟩
end
def vY:Nat->Bool:=fun _=>false
theorem qcW(k:Nat): ¬midM vY k:=fun h=>by cases h.2.2
end
end Go.Dl
namespace Go.Dl
open Go.RowKit
noncomputable section
section
variable {P : Program}
def Step(P:Program)(o:Oper)(s:DS)(K:DS->Prop):Prop:=
 (∀d,o.dst=some d->d<s.n)->∀X a w,Rel X s a w->∀Q:Exit->Act->World->Prop,o.wp P a w (SPost X fun s'=>s'.n=s.n/\K s') Q
theorem Step.mono{o:Oper}{s:DS}{K K':DS->Prop}(h:Step P o s K)(hk: ∀s',s'.n=s.n->K s'->K' s'):Step P o s K':=fun hd X a w hr Q=>
 Oper.wp_mono (fun a' w' ⟨s',⟨h1,h2⟩,h3⟩=>⟨s',⟨h1,hk s' h1 h2⟩,h3⟩) (h hd X a w hr Q)
theorem za(s:DS)(dst:Option Nat)(d:D):(s.put dst d).n=s.n:=by cases dst<;>rfl
theorem Step.quiet{o:Oper}{s:DS}{K:DS->Prop}(h:QD P s.ev s.bx o.op fun d=>K (s.put o.dst d)):Step P o s K:=by
 rintro hd X a w ⟨E,hE⟩ Q
 refine Oper.wp_mono ?_ (qra (P:=P) hE.wi.kok (fun n ts hn hne=>(hE.wi.boxes n ts hn hne).2.1) (fun x=>hE.ev x) h)
 rintro a' w' ⟨d,v,E',hK,rfl,hq,hv⟩
 exact⟨_,⟨za _ _ _,hK⟩,E',hE.put hq hd hv⟩
theorem qoL(t:TypeId){i:TypeInfo}{z:Value}(hi:P.info? t=some i)(hz:i.zero=some z)(w:World):(Instr.alloc t true (.tuple #[])).run P w= .ok (.pointer (some ⟨w.heap.size,0,none⟩)) (w.alloc (.cells z.cells t)):=by
 simp only[Instr.alloc,zeroValue,typeInfo,hi,hz,newVar,newRow,Sem.run_bind,Sem.run_pure,run_program,Result.andThen_ok,run_newObj]
 rfl
theorem box_run(t:TypeId)(v:Value)(w:World):(Instr.box t v).run P w= .ok (.pointer (some ⟨w.heap.size,0,none⟩)) (w.alloc (.cells v.cells t)):=by
 simp only[Instr.box,newVar,newRow,Sem.run_bind,Sem.run_pure,Result.andThen_ok,run_newObj]
 rfl
theorem Step.alloc{o:Oper}{s:DS}{K:DS->Prop}{t:TypeId}{m:Nat}{z:List T}(ho:o.op= .alloc t)(hm:o.dst=some m)(hz:Program.zeroT P t=some z)(h:K (s.newBx m z)):Step P o s K:=by
 rintro hd X a w ⟨E,hE⟩ Q
 obtain⟨i,zv,h1,h2,h3,h4⟩:=qeE hz
 refine vu (v:=.pointer (some ⟨w.heap.size,0,none⟩)) (w':=w.alloc (.cells zv.cells t)) (by simp only[execOp,ho,Sem.run_bind,qoL t h1 h2,Result.andThen_ok,Sem.run_pure]) ⟨s.newBx m z,⟨rfl,h⟩,?_⟩
 rw[hm]
 exact⟨_,hE.newBx m (hd m hm) zv.cells t _ h3 fun j t' v k1 k2=>h4 w E j t' v k1 k2⟩
theorem Step.box{o:Oper}{s:DS}{K:DS->Prop}{t:TypeId}{x:Operand}{m:Nat}{ts:List T}(ho:o.op= .box t x)(hm:o.dst=some m)(hz:(s.ev x).cells=some ts)(h:K (s.newBx m ts)):Step P o s K:=by
 rintro hd X a w ⟨E,hE⟩ Q
 obtain⟨g1,g2,_⟩:=qa3 hz (hE.ev x)
 refine vu (v:=.pointer (some ⟨w.heap.size,0,none⟩)) (w':=w.alloc (.cells (a.eval x).cells t)) (by simp only[execOp,ho,Sem.run_bind,box_run,Result.andThen_ok,Sem.run_pure]) ⟨s.newBx m ts,⟨rfl,h⟩,?_⟩
 rw[hm]
 exact⟨_,hE.newBx m (hd m hm) _ t _ g1 g2⟩
theorem qpj{s s':DS}{t:TypeId}{x v:D}(h:qbO P s t x v=some s'):s'.n=s.n:=by
 unfold qbO at h
 split at h
 ·simp only[wX]at h
  obtain⟨rows,_,r,_,h⟩:=h
  split at h
  ·injection h with h;subst h;rfl
  ·cases h
 ·cases h
theorem Step.store{o:Oper}{s s':DS}{K:DS->Prop}{t:TypeId}{x v:Operand}(ho:o.op= .store t x v)(hm:o.dst=none)(hs:qbO P s t (s.ev x) (s.ev v)=some s')(h:K s'):Step P o s K:=by
 rintro hd X a w ⟨E,hE⟩ Q
 obtain⟨w',h1,h2⟩:=qmg hs hE (hE.ev x) (hE.ev v)
 refine qct (w':=w') (by simp only[execOp,ho,Sem.run_bind,h1,Result.andThen_ok,Sem.run_pure]) ⟨s',⟨qpj hs,h⟩,E,?_⟩
 rw[hm];exact h2
theorem qjl(s:DS)(m:Nat)(r:D):(Zy s m r).n=s.n:=by
 unfold Zy
 split<;>rfl
def QG(s:DS)(dst:Option Nat)(r:D):DS:=
 match dst with
 | some m=>Zy s m r
 | none=>s
theorem Step.callP{o:Oper}{s:DS}{K:DS->Prop}{f:Operand}{args:Array Operand}{tys:Array TypeId}{g:FuncId}{caps:List C}{ds:List D}{r:D}(ho:o.op= .call { callee:=.value f,args:=args,argTypes:=tys })
  (hf:s.ev f= .one (.c (.fn g caps))) (hle:LeL ((args.toList.map s.ev).map D.cl++caps.map fun c=>D.one (.c c)) ds) (hc:DCalls P g ds r) (h:K (QG s o.dst r)):Step P o s K:=by
 rintro hd X a w ⟨E,hE⟩ Q
 have hv:=hE.ev f
 rw[hf]at hv
 cases hfv:a.eval f with
 | func fn first captured=>
  rw[hfv]at hv
  cases hv with|one t v hv=>cases hv with|c c v hv=>cases hv with
   | fn g caps vs hl hr=>
    obtain⟨h1,h2⟩:=qiQ (fun x=>hE.ev x) args.toList caps captured hl hr
    have h1':(args.map a.eval++captured).size=ds.length:=by
     rw[<-(qeD hle h2).1,<-h1];simp
    have h2': ∀(j:Nat) d v,ds[j]? =some d->(args.map a.eval++captured)[j]? =some v->VD w (E0 E.K) d v:=by
     have:=(qeD hle h2).2
     have he:(args.toList.map a.eval).toArray++captured=args.map a.eval++captured:=by
      congr 1;apply Array.ext';simp
     rw[he]at this;exact this
    have qaq:=hc.2 w E.K _ hE.wi.kok h1' h2'
    have vi:(execOp a.eval o).run P w= .ok (.enter g (args.map a.eval++captured)) w:=by
     unfold execOp
     simp only[ho,Sem.run_bind]
     rw[vg a.eval f args tys _ g captured hfv w]
     simp only[Result.andThen_ok,invoke]
     exact zH hc.1 _ w
    unfold Oper.wp
    rw[vi]
    refine Calls.mono qaq ?_
    rintro e w' ⟨v,E',rfl,hret,hvd⟩
    cases qeo:o.dst with
    | none=>
     rw[qeo]at h
     exact⟨s,⟨rfl,h⟩,_,hE.quiet hret.quiet⟩
    | some m=>
     rw[qeo]at h
     exact⟨_,⟨qjl s m r,h⟩,qgg hE hret (hd m qeo) hvd⟩
 | _=>rw[hfv]at hv;cases hv with|one t v hv=>cases hv with|c c v hv=>cases hv
theorem qhz(s:DS)(ns:List Nat)(m:Option Nat)(r:D)(H':Mem):(s.aftCall ns m r H').n=s.n:=by cases m<;>rfl
theorem Step.callE{o:Oper}{s:DS}{K:DS->Prop}{f:Operand}{args:Array Operand}{tys:Array TypeId}{g:FuncId}{caps:List T}{ns:List Nat}{ds:List D}{H:Mem}{R:D->Mem->Prop}(ho:o.op= .call { callee:=.value f,args:=args,argTypes:=tys })
  (hf:(s.ev f).asFn=some (g,caps)) (hle:DLeL ((args.toList.map s.ev++caps.map D.one).map (D.tr (shf ns))) ds) (hc:ECalls P g ds H R) (hH: ∀k r,H k=some r->qJ s.bx ns k=some r) (hm:CallOk ns o.dst)
  (h: ∀r H',R r H'->K (s.aftCall ns o.dst r H')):Step P o s K:=by
 rintro hd X a w ⟨E,hE⟩ Q
 refine Oper.wp_mono ?_ (qqZ ho hE hf hle hc hH hm hd)
 rintro a' w' ⟨r,H',hR,hr⟩
 exact⟨_,⟨qhz _ _ _ _ _,h r H' hR⟩,hr⟩
section
variable {ms : Nat -> Bool}
theorem qlM(s:DS)(ns:List Nat)(m:Option Nat)(r:D)(H':Mem):(s.aftCallM ms ns m r H').n=s.n:=by cases m<;>rfl
theorem Step.callM{P:Program}{o:Oper}{s:DS}{K:DS->Prop}{f:Operand}{args:Array Operand}{tys:Array TypeId}{g:FuncId}{caps:List T}{ns:List Nat}{ds:List D}{H:Mem}{R:D->Mem->Prop}(ms:Nat->Bool)(ho:o.op= .call { callee:=.value f,args:=args,argTypes:=tys })
  (hf:(s.ev f).asFn=some (g,caps)) (hle:DLeL ((args.toList.map s.ev++caps.map D.one).map (D.tr (shfM ms ns))) ds) (hc:ECalls P g ds H R) (hH: ∀k r,H k=some r->vQ ms s.bx ns k=some r) (hm:CallOkM ms ns o.dst)
  (h: ∀r H',R r H'->K (s.aftCallM ms ns o.dst r H')):Step P o s K:=by
 rintro hd X a w ⟨E,hE⟩ Q
 refine Oper.wp_mono ?_ (qlA ho hE hf hle hc hH hm hd)
 rintro a' w' ⟨r,H',hR,hr⟩
 exact⟨_,⟨qlM _ _ _ _ _,h r H' hR⟩,hr⟩
end
theorem zh(b:Builtin)(ρ:Operand->Value)(x y:Operand)(t t2 ty:TypeId)(w:World): ∃cs,(resolve ρ { callee:=.builtin b,args:= #[x,y],argTypes:= #[t,t2] } ty).run P w= .ok { target:=.builtin b #[t,t2] ty cs,args:= #[ρ x,ρ y] } w:=
 ⟨_,by simp only[resolve,List.map_toArray,wt,wn,Sem.run_pure];rfl⟩
theorem Step.appendOwn{o:Oper}{s:DS}{K:DS->Prop}{m n sz by_:Nat}{x y:Operand}{t:TypeId}{xs ys:List (List C)}(ho:o.op= .call { callee:=.builtin .append,args:= #[x,y],argTypes:= #[t,t] })(hm:o.dst=some m)
  (vw:qA P t=some (sz,by_)) (hx:qeA m sz (s.ev x)=some (n,xs)) (hy:qeB sz (s.ev y)=some ys) (hb:(xs.length+ys.length)*by_<=140737488355328) (h:K ((s.close [n]).put (some m) (.one (.own n sz (xs++ys))))):Step P o s K:=by
 rintro hd X a w ⟨E,hE⟩ Q
 obtain⟨e1,e2,e3⟩:=qoG hx (hE.ev x)
 obtain⟨v',w',E',vi,hE',hv'⟩:=qoF (P:=P) (ty:=o.type) vw hE (n:=n) e1 e2 e3 (qoH hy (hE.ev y)) hb
 obtain⟨cs,qbg⟩:=zh (P:=P) .append a.eval x y t t o.type w
 refine vu (v:=v') (w':=w') ?_ ⟨(s.close [n]).put (some m) (.one (.own n sz (xs++ys))),⟨rfl,h⟩,?_⟩
 ·unfold execOp
  simp only[ho,Sem.run_bind]
  rw[qbg]
  simp only[Result.andThen_ok,invoke,builtin,Sem.run_bind,vi,Sem.run_pure]
 ·rw[hm]
  exact⟨E',hE'.putOnly (fun d hd'=>by injection hd' with hd';subst hd';exact hd m hm) hv'⟩
theorem Step.appendLin{o:Oper}{s:DS}{K:DS->Prop}{m n sz by_ len cap:Nat}{x y:Operand}{t:TypeId}{rows ys:Rows}(ho:o.op= .call { callee:=.builtin .append,args:= #[x,y],argTypes:= #[t,t] })(hm:o.dst=some m)
  (vw:qA P t=some (sz,by_)) (hx:s.ev x= .one (.ba n sz 0 len cap)) (hn:s.bx n=some rows) (ZY:rows.length=cap) (hz:RowsSz sz rows) (qfK:Src s.bx sz (s.ev y) ys) (hle:len<=cap)
  (hb:(len+ys.length)*by_<=140737488355328) (h: ∀js,RowsSz sz js->K ((s.moveMem n m (rows.take len++(ys++js))).put (some m) (.one (.ba m sz 0 (len+ys.length) (len+ys.length+js.length))))):Step P o s K:=by
 rintro hd X a w ⟨E,hE⟩ Q
 have hvx:=hE.ev x
 rw[hx]at hvx
 obtain⟨v',w',js,vi,hjs,hE'⟩:=qoI (P:=P) (ty:=o.type) vw hE hvx hn ZY hz qfK (hE.ev y) hle hb (hd m hm)
 obtain⟨cs,qbg⟩:=zh (P:=P) .append a.eval x y t t o.type w
 refine vu (v:=v') (w':=w') ?_ ⟨_,⟨by rfl,h js hjs⟩,?_⟩
 ·unfold execOp
  simp only[ho,Sem.run_bind]
  rw[qbg]
  simp only[Result.andThen_ok,invoke,builtin,Sem.run_bind,vi,Sem.run_pure]
 ·rw[hm];exact hE'
theorem Step.copy{o:Oper}{s:DS}{K:DS->Prop}{n sz i len cap:Nat}{x y:Operand}{t t2:TypeId}{rows ys:Rows}(ho:o.op= .call { callee:=.builtin .copy,args:= #[x,y],argTypes:= #[t,t2] })
  (he:Program.elemSz P t=some sz) (hx:s.ev x= .one (.ba n sz i len cap)) (hn:s.bx n=some rows) (ZY:i+len<=rows.length) (hz:RowsSz sz rows) (qfK:Src s.bx sz (s.ev y) ys)
  (h:K ((s.setBx n (some (rows.take i++(ys.take len++rows.drop (i+(ys.take len).length))))).put o.dst (.one (.c (.lit (.int .i64 (ys.take len).length)))))):Step P o s K:=by
 rintro hd X a w ⟨E,hE⟩ Q
 have hvx:=hE.ev x
 rw[hx]at hvx
 obtain⟨w',vi,hE'⟩:=copyBa (P:=P) (t2:=t2) (ty:=o.type) he hE hvx hn ZY hz qfK (hE.ev y)
 obtain⟨cs,qbg⟩:=zh (P:=P) .copy a.eval x y t t2 o.type w
 refine vu (v:=.int .i64 (ys.take len).length) (w':=w') ?_ ⟨_,⟨by rw[za];rfl,h⟩,?_⟩
 ·unfold execOp
  simp only[ho,Sem.run_bind]
  rw[qbg]
  simp only[Result.andThen_ok,invoke,builtin,Sem.run_bind,vi,Sem.run_pure]
 ·exact⟨E,hE'.putOnly hd (.one _ _ (.c _ _ (.lit _ rfl)))⟩
theorem Step.buildOne{o:Oper}{s:DS}{K:DS->Prop}{m sz by_:Nat}{x:Operand}{t:TypeId}{ns:List T}(ho:o.op= .buildSlice t 1 #[(0,x)])(hm:o.dst=some m)(vw:qA P t=some (sz,by_))(hbig:sz<=16777216)(hx:(s.ev x).cells=some ns)(hl:ns.length=sz)
  (h:K ((s.newMem m [ns]).put (some m) (.one (.ba m sz 0 1 1)))):Step P o s K:=by
 rintro hd X a w ⟨E,hE⟩ Q
 obtain⟨e,inf,z,hu,hi,hz0,hisz,hiby,hzsz,vo,hbpos,hz1⟩:=qa9 w vw
 obtain⟨g1,g2,_⟩:=qa3 hx (hE.ev x)
 have hzr:(zeroValue e).run P w= .ok z w:=by simp[zeroValue,typeInfo,hi,hz0]
 have hsz:(sizeOf e).run P w= .ok sz w:=by simp[sizeOf,typeInfo,hi,hisz]
 let base:Array Value:=(Array.range (1*sz)).map (z.cells[· % z.cells.size]!)
 have hbs:base.size=sz:=by simp[base]
 have hb: ¬((a.eval x).cells.size≠sz||decide (0*sz+(a.eval x).cells.size>base.size))=true:=by simp[g1,hl,hbs]
 obtain⟨f1,f2⟩:=qfq (a.eval x).cells base (0*sz) (by omega)
 let cells:=(a.eval x).cells.zipIdx.foldl (fun cs (c,j)=>cs.setIfInBounds (0*sz+j) c) base
 have hfill:Instr.fill (fun i=>some (i*sz,sz)) base [(0,a.eval x)]=some cells:=by
  simp only[Instr.fill,hb]
  rfl
 have qfj:RowsIs w E cells [ns]:=by
  refine⟨sz,fun r hr=>by rw[yd.1 hr];exact hl,by rw[f1,hbs];simp,fun i j r t' v k1 k2 k3=>?_⟩
  have hi0:i=0:=by have:=(wd.1 k1).1;simp at this;exact this
  subst hi0
  simp only[yT]at k1
  injection k1 with k1;subst k1
  have hj:j<ns.length:=(wd.1 k2).1
  have hk3:(a.eval x).cells[j]? =some v:=by
   have:=f2 (0*sz+j)
   rw[if_pos (by omega)]at this
   rw[<-k3,this];congr 1;omega
  exact g2 j t' v k2 hk3
 have hnot: ¬(1*sz>2 ^ 24):=by omega
 have hne0: ¬(1*sz=0):=by omega
 have vi:(Instr.buildSlice t 1 #[(0,a.eval x)]).run P w= .ok (.slice (some ⟨w.heap.size,0,none⟩) 1 1) (w.alloc (.cells cells e)):=by
  have hf2:Instr.fill (fun i=>some (i*sz,sz)) ((Array.range (1*sz)).map (z.cells[· % z.cells.size]!)) [(0,a.eval x)]=some cells:=hfill
  simp only[Instr.buildSlice,Sem.run_bind,run_underlying hu,Result.andThen_ok,hsz,Sem.run_ite,hnot,if_false,Sem.run_pure,if_neg hne0,hzr,hf2,newRow,run_newObj]
  rfl
 have h2:=hE.newMem m (hd m hm) cells e _ qfj
 refine vu (v:=.slice (some ⟨w.heap.size,0,none⟩) 1 1) (w':=w.alloc (.cells cells e)) ?_ ⟨_,⟨by rfl,h⟩,?_⟩
 ·have:(#[(0,x)].map fun(i,x)=>(i,a.eval x):Array (Nat×Value))= #[(0,a.eval x)]:=by simp
  simp only[execOp,ho,Sem.run_bind,this,vi,Result.andThen_ok,Sem.run_pure]
 ·rw[hm]
  refine⟨_,h2.putOnly (fun d hd'=>by injection hd' with hd';subst hd';exact hd m hm) (.one _ _ ?_)⟩
  have:=VT.ba (w:=w.alloc (.cells cells e)) (E:=E.setρ m w.heap.size) m sz 0 1 1 (wv _) (by simp[maxLen])
  simp only[Env.setρ,if_true,Nat.zero_mul]at this
  exact this
end
end
end Go.Dl
namespace Go.Dl
open Go.RowKit
noncomputable section
section
variable {P : Program}
def vR(ops:List Oper)(s:DS)(o:Oper):Option Bool:=
 match o.guard with
 | none=>some true
 | some (j,want)=>match (ops[j]?).bind (·.dst)with
  | some t=>match s.sl t with
   | .one (.c (.lit (.bool b)))=>some (b==want)
   | .tup []=>some false
   | _=>none
  | none=>none
theorem v6{ops:List Oper}{s:DS}{o:Oper}{t:Bool}(h:vR ops s o=some t){X:Origin}{a:Act}{w:World}(hr:Rel X s a w):Region.wanted o (yielded ops.toArray a.tmps)=t:=by
 unfold vR at h
 unfold Region.wanted
 split at h
 ·rename_i hg;injection h with h;rw[hg];exact h
 ·rename_i j want hg
  rw[hg]
  simp only
  split at h
  ·rename_i u hu
   split at h
   ·rename_i b hb
    injection h with h
    obtain⟨E,hE⟩:=hr
    have hv:=hE.sl u
    rw[hb]at hv
    have hv':=hv.lit
    have hlt:u<a.tmps.size:=by
     rcases yg u a.tmps.size with h1|h1
     ·exact h1
     ·simp[undef,yz h1]at hv'
    have hsome:a.tmps[u]? =some (.bool b):=by
     simp[hlt]at hv'
     simp[hlt,hv']
    have hy:yielded ops.toArray a.tmps j=some b:=by
     unfold yielded
     have:(ops.toArray[j]?).bind (·.dst)=some u:=by simpa using hu
     rw[this]
     simp[hsome]
    rw[hy,<-h]
    cases b<;>cases want<;>rfl
   ·rename_i hb
    injection h with h
    obtain⟨E,hE⟩:=hr
    have hv:=hE.sl u
    rw[hb]at hv
    have hy:yielded ops.toArray a.tmps j=none:=by
     unfold yielded
     have:(ops.toArray[j]?).bind (·.dst)=some u:=by simpa using hu
     rw[this]
     simp only[yU]
     split
     ·rename_i b hb'
      exfalso
      have:a.tmps.getD u undef= .bool b:=by simp[hb']
      rw[this]at hv
      cases hv
     ·rfl
    rw[hy,<-h]
    cases want<;>rfl
   ·cases h
  ·cases h
def vj(P:Program)(ops:List Oper)(o:Oper)(s:DS)(K:DS->Prop):Prop:=
 match vR ops s o with
 | some t=>if t=true then Step P o s K else K (s.put o.dst (.tup []))
 | none=>False
def qbY(P:Program)(ops:List Oper):List Oper->DS->(DS->Prop)->Prop
 | [],s,K=>K s
 | o::l,s,K=>vj P ops o s fun s'=>qbY P ops l s' K
def noDf(o:Oper):Bool:=match o.op with| .defer _=>false|_=>true
def dstB(l:List Oper)(n:Nat):Bool:=l.all fun o=>noDf o&&match o.dst with|some d=>d<n|none=>true
theorem qgt{o:Oper}(h:noDf o=true): ∀c,o.op≠ .defer c:=fun c e=>by simp[noDf,e]at h
theorem QY{o:Oper}{l:List Oper}{n:Nat}(h:dstB (o::l) n=true):(∀c,o.op≠ .defer c)/\(∀d,o.dst=some d->d<n)/\dstB l n=true:=by
 simp only[dstB,List.all_cons,wu]at h
 refine⟨qgt h.1.1,fun d hd=>?_,h.2⟩
 have:=h.1.2
 rw[hd]at this
 simpa using this
theorem zo{ro:Option Nat}{o:Oper}(hd: ∀c,o.op≠ .defer c){a:Act}{w:World}{K:Act->World->Prop}{Q:Exit->Act->World->Prop}(h:o.wp P a w K Q):o.wpIn (rd ro) 0 P a w K Q:=by
 refine⟨fun f _=>qhV ro f,?_⟩
 rw[qjn,Oper.semAt_eq ro _ o hd]
 unfold Oper.wp at h
 revert h
 generalize (execOp a.eval o).run P w=r
 intro h
 have calls: ∀{f args w R},Calls P f args w R->CallsIn (rd ro) (0 - 1) P f args w R:=fun h=>by
  have h1:=callsIn_wide (n:=0 - 1).2 h
  cases ro with
  | none=>exact h1
  | some l=>exact h1
 cases r with
 | ok x w'=>
  cases x<;>simp only[Oper.upon,Oper.uponIn]at h ⊢
  case value v=>exact h
  case skip=>exact h
  case defer d=>exact h
  case enter f args=>exact⟨fun e=>(by rw[qeU]at e;cases e),calls h⟩
  case row row args=>
   refine⟨fun e=>(by rw[qeU]at e;cases e),fun c cs _=>?_⟩
   obtain⟨v,w'',h1,h2⟩:=h c cs
   exact⟨v,w'',h1,by rw[qmC];exact stepsIn_wide.2 h2⟩
 | halt x w'=>cases x<;>simp only[Oper.upon,Oper.uponIn]at h ⊢ <;>exact h
theorem qcR{X:Origin}{s:DS}{a:Act}{w:World}(h:Rel X s a w){dst:Option Nat}(hd: ∀d,dst=some d->d<s.n):Rel X (s.put dst (.tup [])) (a.put dst undef) w:=by
 obtain⟨E,hE⟩:=h
 exact⟨E,hE.putOnly hd (.tup [] #[] rfl (fun j d v h1 _=>by simp at h1))⟩
theorem qhI{ro:Option Nat}{Q':Exit->Act->World->Prop}{ops:List Oper}{X:Origin}{N:Nat}{K:DS->Prop}(hK: ∀s a w,K s->Rel X s a w->Q' .normal a w): ∀(l:List Oper) (s:DS) (a:Act) (w:World),dstB l N=true->s.n=N->Rel X s a w->
  qbY P ops l s K->wpListIn (rd ro) 0 P ops.toArray Q' l a w
 | [],s,a,w,_,hn,hr,h=>wpListIn_nil (hK s a w h hr)
 | o::l,s,a,w,hb,hn,hr,h=>by
  obtain⟨h0,h1,h2⟩:=QY hb
  refine wpListIn_step fun K' hK'=>?_
  simp only[qbY,vj]at h
  split at h
  ·rename_i t ht
   rw[v6 ht hr]
   split at h
   ·rename_i h3
    rw[if_pos h3]
    refine zo h0 (Oper.wp_mono ?_ (h (fun d hd=>by rw[hn];exact h1 d hd) X a w hr Q'))
    rintro a' w' ⟨s',⟨hn',hs'⟩,hr'⟩
    exact hK' _ _ (qhI hK l s' a' w' h2 (hn'.trans hn) hr' hs')
   ·rename_i h3
    rw[if_neg h3]
    refine⟨fun f _=>qhV ro f,?_⟩
    exact hK' _ _ (qhI hK l _ _ w h2 (by rw[za];exact hn) (qcR hr (fun d hd=>by rw[hn];exact h1 d hd)) h)
  ·exact h.elim
theorem qg7{id:Nat}{l:List Oper}{s:DS}{Q:Exit->DS->Prop}(hb:dstB l s.n=true)(h:qbY P l l s (Q .normal)):DW P (.region id l.toArray false) s Q:=by
 intro X a w hr
 refine wpIn_region_lit (qhI (X:=X) (K:=Q .normal) (fun s a w h1 h2=>⟨s,h1,h2⟩) l s a w hb rfl hr h)
theorem qb3(b:Builtin)(ρ:Operand->Value)(x:Operand)(t ty:TypeId)(w:World): ∃cs,(resolve ρ { callee:=.builtin b,args:= #[x],argTypes:= #[t] } ty).run P w= .ok { target:=.builtin b #[t] ty cs,args:= #[ρ x] } w:=
 ⟨_,by simp only[resolve,List.map_toArray,wt,wn,Sem.run_pure];rfl⟩
theorem Step.clear{o:Oper}{s:DS}{K:DS->Prop}{n sz by_ i len cap:Nat}{x:Operand}{t:TypeId}{rows:Rows}(ho:o.op= .call { callee:=.builtin .clear,args:= #[x],argTypes:= #[t] })
  (vw:qA P t=some (sz,by_)) (hx:s.ev x= .one (.ba n sz i len cap)) (hn:s.bx n=some rows) (ZY:i+len<=rows.length) (hz:RowsSz sz rows)
  (h:K ((s.setBx n (some (rows.take i++(qb len sz++rows.drop (i+len))))).put o.dst (.tup []))):Step P o s K:=by
 rintro hd X a w ⟨E,hE⟩ Q
 have hvx:=hE.ev x
 rw[hx]at hvx
 obtain⟨w',vi,hE'⟩:=clearBa (P:=P) (ty:=o.type) vw hE hvx hn ZY hz
 obtain⟨cs,qbg⟩:=qb3 (P:=P) .clear a.eval x t o.type w
 refine vu (v:=.tuple #[]) (w':=w') ?_ ⟨_,⟨by rw[za];rfl,h⟩,?_⟩
 ·unfold execOp
  simp only[ho,Sem.run_bind]
  rw[qbg]
  simp only[Result.andThen_ok,invoke,builtin,Sem.run_bind,vi,Sem.run_pure]
 ·exact⟨E,hE'.putOnly hd (.tup [] #[] rfl (fun j d v h1 _=>by simp at h1))⟩
theorem qae{c:Code}{s:DS}{Q:Exit->DS->Prop}(n sz:Nat)(cs:List (List C))(js:Rows)(vo:0<sz)(hn:s.bx n=some (cs.map (List.map T.c)++js))(hz: ∀r∈cs,r.length=sz)(h:DW P c (s.frz n sz cs) Q):DW P c s Q:=
 dw_weaken (fun X a w ⟨E,hE⟩=>hE.frz vo hn hz) h
end
end
end Go.Dl
namespace Go.Dl
open Go.RowKit
noncomputable section
section
variable {P : Program}
def QN(X:Origin)(K:DS->Prop)(e:Exit)(a:Act)(w:World):Prop:=e= .normal/\∃s',K s'/\Rel X s' a w
def z7(P:Program)(ops:List Oper)(N:Nat)(K:DS->Prop)(fuel:Nat)(listed:Array Bool)(s:DS):Prop:=
 s.n=N->∀X a w,Rel X s a w->wpAny P .any ops.toArray (QN X K) fuel listed a w
theorem qcq{ops:List Oper}{N:Nat}{K:DS->Prop}{fuel:Nat}{listed:Array Bool}{s:DS}(hr:Region.ready .any ops.toArray listed= [])(h:K s):z7 P ops N K fuel listed s:=
 fun _ X a w qaQ=>wpAny_done hr ⟨rfl,s,h,qaQ⟩ fuel
theorem qg9{ops:List Oper}{N:Nat}(hb:dstB ops N=true){i:Nat}{o:Oper}(ho:ops[i]? =some o): ∀d,o.dst=some d->d<N:=fun d hd=>by
 have:=w5.1 hb o (wl ho)
 rw[hd]at this
 simp only[wu]at this
 simpa using this.2
theorem df_of{ops:List Oper}{N:Nat}(hb:dstB ops N=true){i:Nat}{o:Oper}(ho:ops[i]? =some o): ∀c,o.op≠ .defer c:=by
 have:=w5.1 hb o (wl ho)
 simp only[wu]at this
 exact qgt this.1
theorem qjw{ro:Option Nat}{ops:Array Oper}{Q:Exit->Act->World->Prop}(hQ: ¬LetsOut Q)(hd: ∀(i:Nat) (o:Oper),ops[i]? =some o->∀c,o.op≠ .defer c): ∀(l:List Nat) (a:Act) (w:World),wpOps P ops Q l a w->wpOpsIn (rd ro) 0 P ops Q l a w
 | [],_,_,h=>h
 | i::l,a,w,h=>by
  simp only[wpOps,wpOpsIn]at h ⊢
  cases ho:ops[i]? with
  | none=>rw[ho]at h;exact qjw hQ hd l a w h
  | some o=>
   rw[ho]at h
   simp only at h ⊢
   split
   ·rename_i h3
    rw[if_pos h3]at h
    rcases h with h|⟨_,h⟩
    ·exact zo (hd i o ho) (Oper.wp_mono (fun a' w' h'=>qjw hQ hd l a' w' h') h)
    ·exact(hQ h).elim
   ·rename_i h3
    rw[if_neg h3]at h
    exact⟨fun f _=>qhV ro f,qjw hQ hd l _ w h⟩
theorem qq7{ops:List Oper}{N:Nat}(hb:dstB ops N=true){K:DS->Prop}{fuel:Nat}{listed:Array Bool}{s:DS}{i:Nat}{o:Oper}(hr:Region.ready .any ops.toArray listed= [i])(ho:ops[i]? =some o)
  (h:vj P ops o s (z7 P ops N K fuel (listed.setIfInBounds i true))):z7 P ops N K (fuel+1) listed s:=by
 intro hn X a w qaQ
 refine wpAny_all hr (by simp) fun j hj=>?_
 have hji:j=i:=by simpa using hj
 subst hji
 have hd:=qg9 hb ho
 unfold wpOp
 have ho':ops.toArray[j]? =some o:=by simpa using ho
 simp only[ho']
 unfold vj at h
 split at h
 ·rename_i t ht
  rw[v6 ht qaQ]
  split at h
  ·rename_i h3
   rw[if_pos h3]
   refine .inl (Oper.wp_mono ?_ (h (fun d hd'=>by rw[hn];exact hd d hd') X a w qaQ _))
   rintro a' w' ⟨s',⟨hn',hs'⟩,hr'⟩
   exact hs' (hn'.trans hn) X a' w' hr'
  ·rename_i h3
   rw[if_neg h3]
   exact h (by rw[za];exact hn) X _ w (qcR qaQ (fun d hd'=>by rw[hn];exact hd d hd'))
 ·exact h.elim
def qbe(P:Program)(s:DS)(o:Oper)(d:D):Prop:=
 ∀(X:Origin) (E:Env) (a:Act) (w:World),RelE X s E a w->∃v,(∀w',(execOp a.eval o).run P w'= .ok (.value v) w')/\VD w E d v
theorem qba{ops:List Oper}{N:Nat}(hb:dstB ops N=true){K:DS->Prop}{fuel:Nat}{listed:Array Bool}{s:DS}{i:Nat}{o:Oper}{d:D}(ho:ops[i]? =some o)(hs:Region.noSelect ops.toArray=true)
  (hf:Region.free .any ops.toArray listed i=true) (hr:(Region.ready .any ops.toArray listed).contains i=true) (hw:vR ops s o=some true) (hy:qbe P s o d)
  (h:z7 P ops N K fuel (listed.setIfInBounds i true) (s.put o.dst d)):z7 P ops N K (fuel+1) listed s:=by
 rintro hn X a w ⟨E,hE⟩
 have hd:=qg9 hb ho
 obtain⟨v,h1,h2⟩:=hy X E a w hE
 have qaQ:Rel X (s.put o.dst d) (a.put o.dst v) w:=⟨E,hE.putOnly (fun d' hd'=>by rw[hn];exact hd d' hd') h2⟩
 exact wpAny_take (by simpa using ho) hs hf hr (fun c a w hq=>absurd hq.1 (by simp)) (.inl ⟨v6 hw ⟨E,hE⟩,h1⟩) (h (by rw[za];exact hn) X _ w qaQ)
theorem qfH{ops:List Oper}{N:Nat}(hb:dstB ops N=true){K:DS->Prop}{fuel:Nat}{listed:Array Bool}{s:DS}{i:Nat}{o:Oper}(ho:ops[i]? =some o)(hs:Region.noSelect ops.toArray=true)
  (hf:Region.free .any ops.toArray listed i=true) (hr:(Region.ready .any ops.toArray listed).contains i=true) (hw:vR ops s o=some false)
  (h:z7 P ops N K fuel (listed.setIfInBounds i true) (s.put o.dst (.tup []))):z7 P ops N K (fuel+1) listed s:=by
 rintro hn X a w qaQ
 have hd:=qg9 hb ho
 exact wpAny_take (by simpa using ho) hs hf hr (fun c a w hq=>absurd hq.1 (by simp)) (.inr ⟨v6 hw qaQ,rfl⟩) (h (by rw[za];exact hn) X _ w (qcR qaQ (fun d' hd'=>by rw[hn];exact hd d' hd')))
theorem qjV{id:Nat}{l:List Oper}{s:DS}{Q:Exit->DS->Prop}(hb:dstB l s.n=true)(hm:P.follows .mixedOrders=true)(h:z7 P l s.n (Q .normal) l.length (Array.replicate l.length false) s):DW P (.region id l.toArray true) s Q:=by
 intro X a w hr
 have hr':Rel X s a { w with drawn:=w.drawn+1 }:=by
  obtain⟨E,hE⟩:=hr
  exact⟨E,hE.quiet ⟨(Below.refl _ _).drew,fun _ _ h=>h,fun _ _ _ h=>h,hE.wi.kok.move (fun _ _ _=>rfl) (hE.wi.kok.z.below ((Below.refl _ _).drew)),rfl,rfl⟩⟩
 refine wpIn_mono (Q:=QN X (Q .normal)) (wpIn_region_draw fun t=>?_) ?_
 ·refine qjw (Q:=QN X (Q .normal)) (fun⟨_,_,h,_⟩=>by cases h) (fun i o ho=>df_of hb (by simpa using ho)) _ _ _ ?_
  simp only[Region.schedule,hm,jC,if_true]
  exact wpAny_sound l.toArray.size t _ a _ (by simpa using h rfl X a _ hr')
 rintro e a' w' ⟨rfl,s',h1,h2⟩
 exact⟨s',h1,h2⟩
end
end
end Go.Dl
namespace Go.Dl
open Go.RowKit
noncomputable section
section
variable {P : Program} {s : DS} {o : Oper}
theorem qlC{x:Operand}(ho:o.op= .move x):qbe P s o (s.ev x):=fun X E a w hE=>⟨a.eval x,fun w'=>by simp[execOp,ho],hE.ev x⟩
theorem qhq{x:Operand}(ho:o.op= .assign x):qbe P s o (s.ev x):=fun X E a w hE=>⟨a.eval x,fun w'=>by simp[execOp,ho],hE.ev x⟩
theorem qdW{x:Operand}{n sz i k:Nat}(ho:o.op= .nilCheck x)(hx:s.ev x= .one (.bx n sz i k)):qbe P s o (.one (.bx n sz i k)):=fun X E a w hE=>by
 have hv:=hE.ev x
 rw[hx]at hv
 have e:=hv.bx_inv
 exact⟨a.eval x,fun w'=>by simp only[execOp,ho,e,Sem.run_pure],hv⟩
theorem qdx{t:TypeId}{x:Operand}{f off n sz i k:Nat}(ho:o.op= .fieldAddr t x f)(hf:Program.fieldOff P t f=some off)(hx:s.ev x= .one (.bx n sz i k)):qbe P s o (.one (.bx n sz i (k+off))):=fun X E a w hE=>by
 have hv:=hE.ev x
 rw[hx]at hv
 have e:=hv.bx_inv
 refine⟨.pointer (some ((⟨E.ρ n,i*sz+k,none⟩:Addr).add off)),fun w'=>by simp only[execOp,ho,Sem.run_bind,e,qas hf,Result.andThen_ok,Sem.run_pure],?_⟩
 rw[qR,Nat.add_assoc]
 exact .one _ _ (.bx n sz i (k+off))
theorem qiN{op:BinOp}{t ty:TypeId}{x y:Operand}{u v r:Value}(ho:o.op= .binOp op t x y ty)(hx:s.ev x= .one (.c (.lit u)))(hy:s.ev y= .one (.c (.lit v)))(hr:binD P op t (.one (.c (.lit u))) (.one (.c (.lit v)))=some r)(hu:u.oneCell'=true)(hv:v.oneCell'=true):
  qbe P s o (.one (.c (.lit r))):=fun X E a w hE=>by
 have h1:=hE.ev x
 have h2:=hE.ev y
 rw[hx]at h1
 rw[hy]at h2
 have e1:=h1.lit
 have e2:=h2.lit
 have key: ∀w',((do eqGuard op t x y (a.eval x) (a.eval y);binOp op t (a.eval x) (a.eval y)):Sem Value).run P w'= .ok r w'/\r.oneCell'=true:=fun w'=>by
  rw[e1,e2]
  exact qoB (w:=w') (E:=E) hr (.one _ _ (.c _ _ (.lit _ hu))) (.one _ _ (.c _ _ (.lit _ hv))) x y
 refine⟨r,fun w'=>?_,.one _ _ (.c _ _ (.lit _ (key w).2))⟩
 have:=(key w').1
 simp only[execOp,ho,Sem.run_bind]at this ⊢
 rw[this];rfl
theorem qiM{t:TypeId}{x y:Operand}{n sz i len cap:Nat}{k:IntKind}{j:Int}(ho:o.op= .indexAddr t x y)(he:Program.elemSz P t=some sz)(hx:s.ev x= .one (.ba n sz i len cap))(hy:s.ev y= .one (.c (.lit (.int k j))))(hj:0<=j)(hl:j.toNat<len):
  qbe P s o (.one (.bx n sz (i+j.toNat) 0)):=fun X E a w hE=>by
 obtain⟨e,inf,hu,hi,hsz,vo⟩:=QX he
 have hv:=hE.ev x
 have hw:=hE.ev y
 rw[hx]at hv
 rw[hy]at hw
 have ey:=hw.lit
 have hb:(0<=j/\j<(len:Int)):=by omega
 cases hux:a.eval x with
 | slice A l c=>
  rw[hux]at hv
  cases hv with|one t' v hv=>cases hv with
   | ba _ _ _ _ _ h1 h2=>
    refine⟨.pointer (some ⟨E.ρ n,(i+j.toNat)*sz+0,none⟩),fun w'=>?_,.one _ _ (.bx n sz (i+j.toNat) 0)⟩
    simp[execOp,ho,hux,ey,Instr.indexAt,asIntOf,run_underlying hu,hb,sizeOf,typeInfo,hi,hsz,qR,w7]
   | bz=>omega
 | _=>rw[hux]at hv;cases hv with|one t' v hv=>cases hv
end
end
end Go.Dl
namespace Go.Dl
open Go.RowKit
noncomputable section
section
variable {P : Program}
theorem QD_mono{ev:Operand->D}{bx:Mem}{op:Op}{K K':D->Prop}(hk: ∀d,K d->K' d)(h:QD P ev bx op K):QD P ev bx op K':=by
 cases op with
 | indexAddr t x i=>
  revert h
  simp only[QD]
  split
  ·exact fun h=>⟨h.1,h.2.1,h.2.2.1,hk _ h.2.2.2⟩
  ·split
   ·rintro⟨g1,g2,r,g3,g4⟩;exact⟨g1,g2,r,g3,hk _ g4⟩
   ·exact id
  ·exact id
 | call c=>
  obtain⟨callee,args,tys⟩:=c
  cases callee with
  | value f=>
   simp only[QD]at h ⊢
   obtain⟨g,caps,ds,r,h1,h2,h3,h4⟩:=h
   exact⟨g,caps,ds,r,h1,h2,h3,hk _ h4⟩
  | invoke r m=>exact h.elim
  | builtin b=>
   cases b with
   | len=>
    revert h
    simp only[QD]
    split
    ·split
     ·exact hk _
     ·exact id
    ·exact id
   | cap=>
    revert h
    simp only[QD]
    split
    ·split
     ·exact hk _
     ·exact id
    ·exact id
   | _=>
    revert h
    simp only[QD]
    split
    ·exact hk _
    ·exact id
 | makeFunc fn first captured=>
  cases fn with
  | func f=>
   revert h
   simp only[QD]
   split
   ·split
    ·exact hk _
    ·exact id
   ·exact id
  | _=>exact h.elim
 | move x=>exact hk _ h
 | assign x=>exact hk _ h
 | extract x i=>
  revert h
  simp only[QD]
  split
  ·split
   ·exact hk _
   ·exact id
  ·exact id
 | pick=>revert h;simp only[QD];split<;>first|exact hk _|exact id
 | load=>revert h;simp only[QD];split<;>first|exact hk _|exact id
 | build=>revert h;simp only[QD];split<;>first|exact hk _|exact id
 | buildSlice=>revert h;simp only[QD];split<;>first|exact hk _|exact id
 | binOp=>revert h;simp only[QD];split<;>first|exact hk _|exact id
 | unOp=>revert h;simp only[QD];split<;>first|exact hk _|exact id
 | convert=>revert h;simp only[QD];split<;>first|exact hk _|exact id
 | index=>revert h;simp only[QD];split<;>first|exact hk _|exact id
 | fieldAddr=>revert h;simp only[QD];split<;>first|exact hk _|exact id
 | field=>revert h;simp only[QD];split<;>first|exact hk _|exact id
 | slice=>revert h;simp only[QD];split<;>first|exact hk _|exact id
 | nilCheck=>revert h;simp only[QD];split<;>first|exact hk _|exact id
 | _=>exact h.elim
theorem qj6{ev ev':Operand->D}{bx:Mem}{op:Op}{K:D->Prop}(h: ∀x∈op.operands,ev x=ev' x)(hq:QD P ev bx op K):QD P ev' bx op K:=by
 have pairs: ∀(ps:Array (Nat×Operand)),(∀p∈ps.toList,ev p.2=ev' p.2)->(ps.toList.map fun p=>(p.1,ev p.2))=ps.toList.map fun p=>(p.1,ev' p.2):=fun ps hp=>
  yC fun p hm=>by rw[hp p hm]
 cases op with
 | move x=>simp only[QD]at hq ⊢;rw[<-h x (by simp[Op.operands])];exact hq
 | assign x=>simp only[QD]at hq ⊢;rw[<-h x (by simp[Op.operands])];exact hq
 | pick c a b=>
  simp only[QD]at hq ⊢
  rw[<-h c (by simp[Op.operands]),<-h a (by simp[Op.operands]),<-h b (by simp[Op.operands])];exact hq
 | load t x=>simp only[QD]at hq ⊢;rw[<-h x (by simp[Op.operands])];exact hq
 | build t parts=>
  simp only[QD]at hq ⊢
  rw[<-pairs parts fun p hp=>h p.2 (by simp only[Op.operands,List.mem_toArray,wI];exact⟨p,hp,rfl⟩)];exact hq
 | buildSlice t n parts=>
  simp only[QD]at hq ⊢
  rw[<-pairs parts fun p hp=>h p.2 (by simp only[Op.operands,List.mem_toArray,wI];exact⟨p,hp,rfl⟩)];exact hq
 | binOp op t x y ty=>simp only[QD]at hq ⊢;rw[<-h x (by simp[Op.operands]),<-h y (by simp[Op.operands])];exact hq
 | unOp op t x=>simp only[QD]at hq ⊢;rw[<-h x (by simp[Op.operands])];exact hq
 | convert s d x=>simp only[QD]at hq ⊢;rw[<-h x (by simp[Op.operands])];exact hq
 | index t x i=>simp only[QD]at hq ⊢;rw[<-h x (by simp[Op.operands]),<-h i (by simp[Op.operands])];exact hq
 | fieldAddr t x f=>simp only[QD]at hq ⊢;rw[<-h x (by simp[Op.operands])];exact hq
 | field t x f=>simp only[QD]at hq ⊢;rw[<-h x (by simp[Op.operands])];exact hq
 | indexAddr t x i=>simp only[QD]at hq ⊢;rw[<-h x (by simp[Op.operands]),<-h i (by simp[Op.operands])];exact hq
 | slice t x lo hi mx=>
  have e1:ev x=ev' x:=h x (by simp[Op.operands])
  have e2:lo.map ev=lo.map ev':=by cases lo with|none=>rfl|some l=>simp[h l (by simp[Op.operands])]
  have e3:hi.map ev=hi.map ev':=by cases hi with|none=>rfl|some l=>simp[h l (by simp[Op.operands])]
  have e4:mx.map ev=mx.map ev':=by cases mx with|none=>rfl|some l=>simp[h l (by simp[Op.operands])]
  simp only[QD]at hq ⊢
  rw[<-e1,<-e2,<-e3,<-e4];exact hq
 | call c=>
  obtain⟨callee,args,tys⟩:=c
  have ha: ∀x∈args.toList,ev x=ev' x:=fun x hx=>h x (by simp only[Op.operands,Call.operands,Array.mem_append];exact .inr (Array.mem_toList_iff.1 hx))
  cases callee with
  | value f=>
   have hf:ev f=ev' f:=h f (by simp[Op.operands,Call.operands])
   simp only[QD]at hq ⊢
   rw[<-hf,<-yC ha];exact hq
  | invoke r m=>exact hq.elim
  | builtin b=>
   cases b with
   | len=>
    revert hq
    simp only[QD]
    split
    ·rename_i x t hx ht
     rw[<-ha x (by rw[hx];simp)];exact id
    ·exact id
   | cap=>
    revert hq
    simp only[QD]
    split
    ·rename_i x t hx ht
     rw[<-ha x (by rw[hx];simp)];exact id
    ·exact id
   | _=>
    simp only[QD]at hq ⊢
    rw[<-yC ha];exact hq
 | extract x i=>simp only[QD]at hq ⊢;rw[<-h x (by simp[Op.operands])];exact hq
 | nilCheck x=>simp only[QD]at hq ⊢;rw[<-h x (by simp[Op.operands])];exact hq
 | makeFunc fn first captured=>
  cases fn with
  | func f=>
   have hc:captured.toList.map ev=captured.toList.map ev':=yC fun x hx=>h x (by simp only[Op.operands,Array.mem_append];exact .inr (Array.mem_toList_iff.1 hx))
   simp only[QD]at hq ⊢
   rw[<-hc];exact hq
  | _=>exact hq.elim
 | _=>exact hq.elim
end
end
end Go.Dl
namespace Go.Dl
open Go.RowKit
noncomputable section
section
variable {P : Program}
def AL(P:Program)(ops:List Oper)(o:Oper)(s:DS)(K:DS->Prop):Prop:=
 match vR ops s o with
 | some true=>∃d,QD P s.ev s.bx o.op (· =d)/\K (s.put o.dst d)
 | some false=>K (s.put o.dst (.tup []))
 | none=>False
def AFc(P:Program)(o:Oper)(s:DS)(K:DS->Prop):Prop:=
 ∃f args tys g caps ds R,o.op= .call { callee:=.value f,args:=args,argTypes:=tys }/\(s.ev f).asFn=some (g,caps)/\DLeL ((args.toList.map s.ev++caps.map D.one).map (D.tr (shfM vY []))) ds/\
  ECalls P g ds qc R/\CallOkM vY [] o.dst/\∀r H',R r H'->K (s.aftCallM vY [] o.dst r H')
def AFb(P:Program)(o:Oper)(s:DS)(K:DS->Prop):Prop:=
 ∃m t x ns sz by_,o.op= .buildSlice t 1 #[(0,x)]/\o.dst=some m/\qA P t=some (sz,by_)/\sz<=16777216/\(s.ev x).cells=some ns/\ns.length=sz/\m<1000/\K ((s.newMem m [ns]).put (some m) (.one (.ba m sz 0 1 1)))
def AF(P:Program)(ops:List Oper)(o:Oper)(s:DS)(K:DS->Prop):Prop:=
 vR ops s o=some true/\(AFc P o s K\/AFb P o s K)
inductive Kind where
 | light
 | fresh
 | step
def TD(P:Program)(ops:List Oper)(k:Nat->Kind)(i:Nat)(s:DS)(K:DS->Prop):Prop:=
 match ops[i]? with
 | none=>K s
 | some o=>match k i with
  | .light=>AL P ops o s K
  | .fresh=>AF P ops o s K
  | .step=>vj P ops o s K
theorem qi0{ops:List Oper}{o:Oper}{s:DS}{K K':DS->Prop}(hk: ∀s,K s->K' s)(h:AF P ops o s K):AF P ops o s K':=by
 obtain⟨h0,⟨f,args,tys,g,caps,ds,R,h1,h2,h3,h4,h6,h5⟩|⟨m,t,x,ns,sz,by_,h1,h2,h3,h4,h5,h6,h7,h8⟩⟩:=h
 ·exact⟨h0,.inl ⟨f,args,tys,g,caps,ds,R,h1,h2,h3,h4,h6,fun r H' hr=>hk _ (h5 r H' hr)⟩⟩
 ·exact⟨h0,.inr ⟨m,t,x,ns,sz,by_,h1,h2,h3,h4,h5,h6,h7,hk _ h8⟩⟩
theorem qre{ops:List Oper}{o:Oper}{s:DS}{K:DS->Prop}(h:AF P ops o s K):vj P ops o s K:=by
 obtain⟨h0,⟨f,args,tys,g,caps,ds,R,h1,h2,h3,h4,h6,h5⟩|⟨m,t,x,ns,sz,by_,h1,h2,h3,h4,h5,h6,h7,h8⟩⟩:=h
 ·unfold vj
  simp only[h0,if_true]
  exact Step.callM vY h1 h2 h3 h4 (fun k r hk=>by cases hk) h6 h5
 ·unfold vj
  simp only[h0,if_true]
  exact Step.buildOne h1 h2 h3 h4 h5 h6 h8
theorem Qm{ops:List Oper}{o:Oper}{s:DS}{K K':DS->Prop}(hk: ∀s,K s->K' s)(h:AL P ops o s K):AL P ops o s K':=by
 unfold AL at*
 split
 ·rename_i hw;simp only[hw]at h;obtain⟨d,h1,h2⟩:=h;exact⟨d,h1,hk _ h2⟩
 ·rename_i hw;simp only[hw]at h;exact hk _ h
 ·rename_i hw;simp only[hw]at h
theorem qbf{ops:List Oper}{o:Oper}{s:DS}{K:DS->Prop}(h:AL P ops o s K):vj P ops o s K:=by
 unfold AL at h
 unfold vj
 split at h
 ·rename_i hw
  simp only[hw,if_true]
  obtain⟨d,h1,h2⟩:=h
  exact Step.quiet (QD_mono (K:=(· =d)) (fun d' (hd':d'=d)=>by rw[hd'];exact h2) h1)
 ·rename_i hw
  simp only[hw,w8,if_false];exact h
 ·exact h.elim
theorem qn8{s:DS}{dst:Option Nat}{d:D}{x:Operand}(h: ∀t,dst=some t->x≠ .tmp t):(s.put dst d).ev x=s.ev x:=by
 cases dst with
 | none=>rfl
 | some t=>
  cases x with
  | tmp u=>
   have hne:u≠t:=fun e=>h t rfl (by rw[e])
   simp[DS.ev,DS.put,hne]
  | _=>rfl
theorem Zb{ops:Array Oper}{o:Oper}{t:Nat}(h:t∉o.looksAt ops): ∀x∈o.op.operands,x≠ .tmp t:=fun x hx e=>
 h (List.mem_append_left _ (List.mem_filterMap.2 ⟨.tmp t,by subst e;simpa using hx,rfl⟩))
theorem QI{ops:List Oper}{s:DS}{o:Oper}{dst:Option Nat}{d:D}(h: ∀t,dst=some t->t∉o.looksAt ops.toArray):vR ops (s.put dst d) o=vR ops s o:=by
 unfold vR
 cases hg:o.guard with
 | none=>rfl
 | some gw=>
  obtain⟨g,want⟩:=gw
  simp only
  cases hu:(ops[g]?).bind (·.dst)with
  | none=>rfl
  | some u=>
   simp only
   have:(s.put dst d).sl u=s.sl u:=by
    cases dst with
    | none=>rfl
    | some t=>
     have hne:u≠t:=fun e=>by
      subst e
      refine h u rfl ?_
      have hu':(ops.toArray[g]?).bind (·.dst)=some u:=by simpa using hu
      unfold Oper.looksAt
      rw[hg]
      exact List.mem_append_right _ (by simp only[hu'];simp)
     simp[DS.put,hne]
   rw[this]
theorem qjq(s:DS){x y:Option Nat}(d e:D)(h: ∀t,x=some t->y≠some t):(s.put x d).put y e=(s.put y e).put x d:=by
 cases x with
 | none=>rfl
 | some t=>
  cases y with
  | none=>rfl
  | some u=>
   have hne:t≠u:=fun e'=>h t rfl (by rw[e'])
   simp only[DS.put]
   congr 1
   funext k
   by_cases h1:k=u
   ·have: ¬k=t:=by omega
    simp[h1,this];omega
   ·by_cases h2:k=t
    ·simp[h2];omega
    ·simp[h1,h2]
theorem qoQ{ops:Array Oper}{o:Oper}{s:DS}{dst:Option Nat}{e:D}(h: ∀t,dst=some t->t∉o.looksAt ops){K:D->Prop}:QD P (s.put dst e).ev (s.put dst e).bx o.op K↔QD P s.ev s.bx o.op K:=by
 have hev: ∀x∈o.op.operands,(s.put dst e).ev x=s.ev x:=fun x hx=>qn8 fun t ht=>Zb (h t ht) x hx
 have hbx:(s.put dst e).bx=s.bx:=by cases dst<;>rfl
 rw[hbx]
 exact⟨fun h=>qj6 hev h,fun h=>qj6 (fun x hx=>(hev x hx).symm) h⟩
theorem qiw{ops:List Oper}{oi oj:Oper}(hap:oi.apart ops.toArray oj=true){s:DS}{K:DS->Prop}(h:AL P ops oi s fun s1=>AL P ops oj s1 K):AL P ops oj s fun s2=>AL P ops oi s2 K:=by
 obtain⟨h1,h2,h3⟩:=Oper.apart_spec hap
 unfold AL at h ⊢
 have second: ∀(d:D),(match vR ops (s.put oi.dst d) oj with
    | some true=>∃d',QD P (s.put oi.dst d).ev (s.put oi.dst d).bx oj.op (· =d')/\K ((s.put oi.dst d).put oj.dst d')
    | some false=>K ((s.put oi.dst d).put oj.dst (.tup []))
    | none=>False)->
   (match vR ops s oj with
    | some true=>∃d',QD P s.ev s.bx oj.op (· =d')/\K ((s.put oj.dst d').put oi.dst d)
    | some false=>K ((s.put oj.dst (.tup [])).put oi.dst d)
    | none=>False):=by
  intro d
  rw[QI h1]
  split
  ·rintro⟨d',g1,g2⟩
   exact⟨d',(qoQ h1).1 g1,by rw[<-qjq s d d' h2];exact g2⟩
  ·intro g;rw[<-qjq s d (.tup []) h2];exact g
  ·exact id
 split at h
 ·rename_i hw
  obtain⟨d,hy,hK⟩:=h
  have hs:=second d hK
  split at hs
  ·rename_i hwj
   obtain⟨d',g1,g2⟩:=hs
   exact⟨d',g1,by dsimp only;rw[QI h3,hw];exact⟨d,(qoQ h3).2 hy,g2⟩⟩
  ·rename_i hwj
   dsimp only
   rw[QI h3,hw]
   exact⟨d,(qoQ h3).2 hy,hs⟩
  ·exact hs.elim
 ·rename_i hw
  have hs:=second (.tup []) h
  split at hs
  ·rename_i hwj
   obtain⟨d',g1,g2⟩:=hs
   exact⟨d',g1,by dsimp only;rw[QI h3,hw];exact g2⟩
  ·rename_i hwj
   dsimp only
   rw[QI h3,hw]
   exact hs
  ·exact hs.elim
 ·exact h.elim
def anyD(P:Program)(ops:List Oper)(k:Nat->Kind)(K:DS->Prop):Nat->Array Bool->DS->Prop
 | 0,listed,s=>Region.ready .any ops.toArray listed= []/\K s
 | fuel+1,listed,s=>(Region.ready .any ops.toArray listed= []->K s)/\∀i∈Region.ready .any ops.toArray listed,TD P ops k i s (anyD P ops k K fuel (listed.setIfInBounds i true))
end
end
end Go.Dl
namespace Go.Dl
open Go.RowKit
noncomputable section
section
variable {P : Program}
def depB(ops:List Oper)(listed:Array Bool)(i:Nat)(D:List Nat):Bool:=
 D.all fun k=> !listed.getD k true&&k !=i&&match ops[k]? with
  | some o=>o.after.any fun e=>Region.binds .any e&&(e.on==i||D.contains e.on)
  | none=>false
def qhR(ops:List Oper)(k:Nat->Kind)(listed:Array Bool)(i:Nat)(D:List Nat):Bool:=
 match ops[i]? with
 | none=>false
 | some oi=>(List.range ops.length).all fun j=>j==i||listed.getD j true||D.contains j||match ops[j]? with
  | some oj=>(match k j with| .light=>true|_=>false)&&oi.apart ops.toArray oj
  | none=>true
theorem qoP{ops:List Oper}{k:Nat->Kind}{i:Nat}{s:DS}{K K':DS->Prop}(hk: ∀s,K s->K' s)(h:TD P ops k i s K):TD P ops k i s K':=by
 unfold TD at*
 split
 ·rename_i ho;simp only[ho]at h;exact hk _ h
 ·rename_i o ho
  simp only[ho]at h
  split
  ·rename_i hki;simp only[hki]at h;exact Qm hk h
  ·rename_i hki;simp only[hki]at h;exact qi0 hk h
  ·rename_i hki
   simp only[hki]at h
   unfold vj at*
   split at h
   ·rename_i t ht
    split at h
    ·rename_i h3;simp only[h3,if_true];exact Step.mono h fun s' _ hs'=>hk s' hs'
    ·rename_i h3;simp only[h3];exact hk _ h
   ·exact h
theorem qch{l:Array Bool}{x:Nat}(h:l.getD x true=false):l.getD x false=false:=by
 rcases yg x l.size with h'|h'
 ·simp[h']at h ⊢;exact h
 ·simp[yz h']at h
theorem qa0{ops:List Oper}{listed:Array Bool}{i:Nat}{D:List Nat}(h:depB ops listed i D=true){j:Nat}(hj:j∈D):listed.getD j true=false/\j≠i/\∃o,ops[j]? =some o/\∃e∈o.after,Region.binds .any e=true/\(e.on=i\/e.on∈D):=by
 have:=w5.1 h j hj
 simp only[wu,yI,bne_iff_ne,ne_eq]at this
 obtain⟨⟨h1,h2⟩,h3⟩:=this
 refine⟨h1,h2,?_⟩
 split at h3
 ·rename_i o ho
  obtain⟨e,he,hb⟩:=Array.any_eq_true'.1 h3
  simp only[wu,yX,beq_iff_eq,yY]at hb
  exact⟨o,ho,e,he,hb.1,hb.2⟩
 ·cases h3
theorem qfw{ops:List Oper}{listed:Array Bool}{i:Nat}{D:List Nat}(h:depB ops listed i D=true){j:Nat}(hj:j∉D):depB ops (listed.setIfInBounds j true) i D=true:=by
 unfold depB at*
 rw[w5]at*
 intro k hk
 have:=h k hk
 have hne:j≠k:=fun e=>hj (e▸hk)
 rw[getD_set_ne true hne]
 exact this
theorem qkw{ops:List Oper}{k:Nat->Kind}{listed:Array Bool}{i:Nat}{D:List Nat}{oi:Oper}(hi:ops[i]? =some oi)(h:qhR ops k listed i D=true){j:Nat}{oj:Oper}(hj:ops[j]? =some oj)(hne:j≠i)(hun:listed.getD j true=false)(hD:j∉D):
  k j= .light/\oi.apart ops.toArray oj=true:=by
 simp only[qhR,hi,w5,y9]at h
 have:=h j (wd.1 hj).1
 simp only[hj,yX,wu,beq_iff_eq,hne,hun,w8,false_or,yY,hD]at this
 refine⟨?_,this.2⟩
 have h1:=this.1
 cases hk:k j with
 | light=>rfl
 | _=>rw[hk]at h1;cases h1
theorem qmx{ops:List Oper}{k:Nat->Kind}{listed:Array Bool}{i:Nat}{D:List Nat}(h:qhR ops k listed i D=true)(j:Nat):qhR ops k (listed.setIfInBounds j true) i D=true:=by
 unfold qhR at*
 split at h
 ·cases h
 ·rename_i oi hoi
  rw[w5]at*
  intro x hx
  have:=h x hx
  by_cases hxj:j=x
  ·subst hxj
   have:(listed.setIfInBounds j true).getD j true=true:=by
    rcases yg j listed.size with h'|h'
    ·simp[h']
    ·simp[yz h']
   simp only[this,yD,jC]
  ·rw[getD_set_ne true hxj];exact this
theorem qoK{ops:List Oper}{k:Nat->Kind}{K:DS->Prop}{i:Nat}{oi:Oper}{D:List Nat}(hi:ops[i]? =some oi)(hk:k i= .light):
  ∀(fuel:Nat) (listed:Array Bool) (s:DS),depB ops listed i D=true->qhR ops k listed i D=true->i∈Region.ready .any ops.toArray listed->
   TD P ops k i s (anyD P ops k K fuel (listed.setIfInBounds i true))->anyD P ops k K (fuel+1) listed s:=by
 have notD: ∀{listed:Array Bool} {j:Nat},depB ops listed i D=true->i∈Region.ready .any ops.toArray listed->j∈Region.ready .any ops.toArray listed->j∉D:=by
  intro listed j hd hri hrj hj
  obtain⟨h1,h2,o,ho,e,he,hb,hon⟩:=qa0 hd hj
  obtain⟨_,o',ho',Zr⟩:=mem_ready.1 hrj
  have ho2:ops[j]? =some o':=by simpa using ho'
  rw[ho]at ho2;injection ho2 with ho2;subst ho2
  have hl:=Zr e he hb
  rcases hon with hon|hon
  ·rw[hon,qch (mem_ready.1 hri).1]at hl;cases hl
  ·rw[qch (qa0 hd hon).1]at hl;cases hl
 intro fuel
 induction fuel with
 | zero=>
  intro listed s hd qgM hr H
  refine⟨fun h=>(by rw[h]at hr;cases hr),fun j hj=>?_⟩
  by_cases hji:j=i
  ·subst hji;exact H
  ·have h1:=ready_mono hj hji
   have h2:Region.ready .any ops.toArray (listed.setIfInBounds i true)= []:=by
    unfold TD at H
    simp only[hi,hk]at H
    unfold AL at H
    split at H
    ·obtain⟨_,_,h⟩:=H;exact h.1
    ·exact H.1
    ·exact H.elim
   rw[h2]at h1
   cases h1
 | succ fuel ih=>
  intro listed s hd qgM hr H
  refine⟨fun h=>(by rw[h]at hr;cases hr),fun j hj=>?_⟩
  by_cases hji:j=i
  ·subst hji;exact H
  ·have hjD:=notD hd hr hj
   obtain⟨hjun,oj,hoj,Zr⟩:=mem_ready.1 hj
   have hoj':ops[j]? =some oj:=by simpa using hoj
   obtain⟨hkj,hap⟩:=qkw hi qgM hoj' hji hjun hjD
   have h0:AL P ops oi s (anyD P ops k K (fuel+1) (listed.setIfInBounds i true)):=by
    unfold TD at H
    simp only[hi,hk]at H
    exact H
   have h1:AL P ops oi s fun s1=>AL P ops oj s1 (anyD P ops k K fuel ((listed.setIfInBounds i true).setIfInBounds j true)):=Qm (fun s1 h=>by
    have:=h.2 j (ready_mono hj hji)
    unfold TD at this
    simp only[hoj',hkj]at this
    exact this) h0
   have h2:=qiw hap h1
   unfold TD
   simp only[hoj',hkj]
   refine Qm (fun s2 h3=>ih (listed.setIfInBounds j true) s2 (qfw hd hjD) (qmx qgM j) (ready_mono hr (Ne.symm hji)) ?_) h2
   unfold TD
   simp only[hi,hk]
   rw[jD _ _ hji]
   exact h3
theorem qcp{ops:List Oper}{N:Nat}(hb:dstB ops N=true){k:Nat->Kind}{K:DS->Prop}: ∀(fuel:Nat) (listed:Array Bool) (s:DS),anyD P ops k K fuel listed s->z7 P ops N K fuel listed s
 | 0,listed,s,h=>qcq h.1 h.2
 | fuel+1,listed,s,h=>by
  intro hn X a w qaQ
  refine⟨fun h0=>⟨rfl,s,h.1 h0,qaQ⟩,fun j hj=>?_⟩
  have hT:=h.2 j hj
  unfold wpOp
  split
  ·rename_i ho
   have ho':ops[j]? =none:=by simpa using ho
   unfold TD at hT
   simp only[ho']at hT
   exact qcp hb fuel _ s hT hn X a w qaQ
  ·rename_i o ho
   have ho':ops[j]? =some o:=by simpa using ho
   have hd:=qg9 hb ho'
   have hG:vj P ops o s (anyD P ops k K fuel (listed.setIfInBounds j true)):=by
    unfold TD at hT
    simp only[ho']at hT
    split at hT
    ·exact qbf hT
    ·exact qre hT
    ·exact hT
   unfold vj at hG
   split at hG
   ·rename_i t ht
    rw[v6 ht qaQ]
    split at hG
    ·rename_i h3
     rw[if_pos h3]
     refine .inl (Oper.wp_mono ?_ (hG (fun d hd'=>by rw[hn];exact hd d hd') X a w qaQ _))
     rintro a' w' ⟨s',⟨hn',hs'⟩,hr'⟩
     exact qcp hb fuel _ s' hs' (hn'.trans hn) X a' w' hr'
    ·rename_i h3
     rw[if_neg h3]
     exact qcp hb fuel _ _ hG (by rw[za];exact hn) X _ w (qcR qaQ (fun d hd'=>by rw[hn];exact hd d hd'))
   ·exact hG.elim
end
end
end Go.Dl
namespace Go.Dl
open Go.RowKit
noncomputable section
section
variable {P : Program}
theorem qji{r:Ren}{rows:Rows}{sz i:Nat}{x:List T}(h:qdP rows sz i=some x):qdP (Rows.tr r rows) sz i=some (x.map (T.tr r)):=by
 obtain⟨h1,h2,h3⟩:=qaF h
 unfold qdP
 simp only[Rows.tr,wq,h1,w4,yU,T.trAll_eq,we,h2,if_true]
theorem ldD_tr{bx bx':Mem}{t:TypeId}{n sz i o:Nat}{d:D}{r:Ren}(hb:bx' n=(bx n).map (Rows.tr r))(h:ldD P bx t (.one (.bx n sz i o))=some d):ldD P bx' t (.one (.bx n sz i o))=some (d.tr r):=by
 cases hk:Program.ldk P t with
 | none=>simp[ldD,hk]at h
 | some q=>
  cases q with
  | none=>
   simp only[ldD,hk,wX,wy]at h
   obtain⟨rows,h1,x,h2,t',h3,rfl⟩:=h
   simp only[ldD,hk,hb,h1,w4,yU,qji h2,wq,h3,D.tr]
  | some k=>
   simp only[ldD,hk,wX]at h
   obtain⟨rows,h1,x,h2,h3⟩:=h
   split at h3
   ·rename_i hle
    injection h3 with h3;subst h3
    simp only[ldD,hk,hb,h1,w4,yU,qji h2,we,hle,if_true,D.tr,T.trAll_eq,List.map_take,List.map_drop]
   ·cases h3
theorem qhB{s:DS}{i:Nat}{d:D}{m:Option Nat}{r:D}{H':Mem}(h:m≠some i):(s.put (some i) d).aftCallM vY [] m r H'=(s.aftCallM vY [] m r H').put (some i) (d.tr (aftM vY [] m)):=by
 cases m with
 | none=>
  simp only[DS.aftCallM,DS.put]
  congr 1
  funext u
  by_cases hu:u=i<;>simp[hu]
 | some m=>
  have hne:m≠i:=fun e=>h (by rw[e])
  simp only[DS.aftCallM,DS.put]
  congr 1
  funext u
  by_cases hu:u=i
  ·have: ¬i=m:=fun e=>hne e.symm
   simp[hu,this]
  ·simp[hu]
theorem qk3{s:DS}{i m:Nat}{d d2:D}{rows:Rows}(h:m≠i):((s.put (some i) d).newMem m rows).put (some m) d2=((s.newMem m rows).put (some m) d2).put (some i) (d.tr (fgt m)):=by
 simp only[DS.newMem,DS.setBx,DS.tr,DS.put]
 congr 1
 funext u
 by_cases hu:u=i
 ·have: ¬i=m:=fun e=>h e.symm
  simp[hu,this]
 ·by_cases hm:u=m
  ·simp[hm,h]
  ·simp[hu,hm]
theorem qjF{s s2:DS}{r:Ren}{t:TypeId}{x:Operand}{n sz i c:Nat}{d:D}{op:Op}(hop:op= .load t x)(hx:s.ev x= .one (.bx n sz i c))(hsl: ∀u,x= .tmp u->s2.sl u=(s.sl u).tr r)(hg:r.g n=some n)(hbx:s2.bx n=(s.bx n).map (Rows.tr r))
  (hq:QD P s.ev s.bx op (· =d)):QD P s2.ev s2.bx op (· =d.tr r):=by
 subst hop
 simp only[QD,hx]at hq
 split at hq
 ·rename_i d0 hd0
  subst hq
  cases x with
  | tmp u=>
   have hsl2:s2.ev (.tmp u)= .one (.bx n sz i c):=by
    have hx':s.sl u= .one (.bx n sz i c):=hx
    simp only[DS.ev]
    rw[hsl u rfl,hx']
    simp only[D.tr,T.tr,hg,T.bxTo]
   simp only[QD,hsl2,ldD_tr hbx hd0]
  | const v=>cases v<;>simp[DS.ev,qet]at hx
  | global g=>simp only[DS.ev,qlm]at hx;split at hx<;>simp at hx
  | func f=>simp[DS.ev]at hx
 ·exact hq.elim
theorem qha{ops:List Oper}{oi oj:Oper}(hap:oi.apart ops.toArray oj=true){t:TypeId}{x:Operand}(hop:oi.op= .load t x)(hg:oi.guard=none){s:DS}{n sz i c:Nat}(hx:s.ev x= .one (.bx n sz i c))(hn:oj.dst≠some n)(hmid: ¬mid n){K:DS->Prop}
  (h:AL P ops oi s fun s1=>AF P ops oj s1 K):AF P ops oj s fun s2=>s2.ev x= .one (.bx n sz i c)/\AL P ops oi s2 K:=by
 obtain⟨h1,h2,h3⟩:=Oper.apart_spec hap
 have hwi: ∀s',vR ops s' oi=some true:=fun s'=>by simp[vR,hg]
 unfold AL at h ⊢
 simp only[hwi]at h ⊢
 obtain⟨d,hq,hw,hF⟩:=h
 rw[QI h1]at hw
 have hev: ∀y∈oj.op.operands,(s.put oi.dst d).ev y=s.ev y:=fun y hy=>qn8 fun t ht=>Zb (h1 t ht) y hy
 have hnd: ∀u,x= .tmp u->¬oj.dst=some u:=fun u hu e=>Zb (h3 u e) (.tmp u) (by rw[hop,hu];simp[Op.operands]) rfl
 -- the slot of the address, behind it
 have hsx: ∀(s2:DS) (r:Ren),(∀u,x= .tmp u->s2.sl u=(s.sl u).tr r)->r.g n=some n->s2.ev x= .one (.bx n sz i c):=fun s2 r hs hr=>by
  cases x with
  | tmp u=>
   have hx':s.sl u= .one (.bx n sz i c):=hx
   simp only[DS.ev]
   rw[hs u rfl,hx']
   simp only[D.tr,T.tr,hr,T.bxTo]
  | const v=>cases v<;>simp[DS.ev,qet]at hx
  | global g=>simp only[DS.ev,qlm]at hx;split at hx<;>simp at hx
  | func f=>simp[DS.ev]at hx
 refine⟨hw,?_⟩
 rcases hF with⟨f,args,tys,g,caps,ds,R,k1,k2,k3,k4,k6,k5⟩|⟨m,tt,y,ns,z,by_,k1,k2,k3,k4,k5,k6,k8,k7⟩
 ·have hf:(s.put oi.dst d).ev f=s.ev f:=hev f (by rw[k1];simp[Op.operands,Call.operands])
  have ha:args.toList.map (s.put oi.dst d).ev=args.toList.map s.ev:=yC fun y hy=>hev y (by rw[k1];simp only[Op.operands,Call.operands,Array.mem_append];exact .inr (Array.mem_toList_iff.1 hy))
  rw[hf]at k2
  rw[ha]at k3
  refine .inl ⟨f,args,tys,g,caps,ds,R,k1,k2,k3,k4,k6,fun r H' hr=>?_⟩
  have hsl: ∀u,x= .tmp u->(s.aftCallM vY [] oj.dst r H').sl u=(s.sl u).tr (aftM vY [] oj.dst):=fun u hu=>by
   cases hm:oj.dst with
   | none=>simp only[DS.aftCallM,DS.put]
   | some m=>
    have: ¬u=m:=fun e=>hnd u hu (by rw[hm,e])
    simp only[DS.aftCallM,DS.put,if_neg this]
  have hgn:(aftM vY [] oj.dst).g n=some n:=by simp only[aftM,qcW,hn,false_or,if_false]
  have hbx:(s.aftCallM vY [] oj.dst r H').bx n=(s.bx n).map (Rows.tr (aftM vY [] oj.dst)):=by
   have:(s.aftCallM vY [] oj.dst r H').bx=qS vY s.bx H' [] oj.dst:=by cases oj.dst<;>rfl
   rw[this]
   simp only[qS,if_neg hn,yl,if_false,qcW]
  refine⟨hsx _ _ hsl hgn,d.tr (aftM vY [] oj.dst),qjF hop hx hsl hgn hbx hq,?_⟩
  have:=k5 r H' hr
  cases hm:oi.dst with
  | none=>rw[hm]at this;simpa only[DS.put]using this
  | some q=>
   rw[hm,qhB (fun e=>h2 q hm e)]at this
   exact this
 ·have hy:(s.put oi.dst d).ev y=s.ev y:=hev y (by rw[k1];simp[Op.operands])
  rw[hy]at k5
  have hnm:n≠m:=fun e=>hn (by rw[k2,e])
  refine .inr ⟨m,tt,y,ns,z,by_,k1,k2,k3,k4,k5,k6,k8,?_⟩
  have hsl: ∀u,x= .tmp u->((s.newMem m [ns]).put (some m) (.one (.ba m z 0 1 1))).sl u=(s.sl u).tr (fgt m):=fun u hu=>by
   have: ¬u=m:=fun e=>hnd u hu (by rw[k2,e])
   simp only[DS.put,DS.newMem,DS.setBx,DS.tr,if_neg this]
  have hgn:(fgt m).g n=some n:=by simp only[fgt,if_neg hnm]
  have hbx:((s.newMem m [ns]).put (some m) (.one (.ba m z 0 1 1))).bx n=(s.bx n).map (Rows.tr (fgt m)):=by
   simp only[DS.put,DS.newMem,DS.setBx,DS.tr,if_neg hnm]
  refine⟨hsx _ _ hsl hgn,d.tr (fgt m),qjF hop hx hsl hgn hbx hq,?_⟩
  cases hm:oi.dst with
  | none=>rw[hm]at k7;simpa only[DS.put]using k7
  | some q=>
   have hmq:m≠q:=fun e=>h2 q hm (by rw[k2,e])
   rw[hm,qk3 hmq]at k7
   exact k7
def qhQ(ops:List Oper)(k:Nat->Kind)(listed:Array Bool)(i:Nat)(D:List Nat):Bool:=
 match ops[i]? with
 | none=>false
 | some oi=>(List.range ops.length).all fun j=>j==i||listed.getD j true||D.contains j||match ops[j]? with
  | some oj=>(match k j with| .step=>false|_=>true)&&oi.apart ops.toArray oj
  | none=>true
theorem qkv{ops:List Oper}{k:Nat->Kind}{listed:Array Bool}{i:Nat}{D:List Nat}{oi:Oper}(hi:ops[i]? =some oi)(h:qhQ ops k listed i D=true){j:Nat}{oj:Oper}(hj:ops[j]? =some oj)(hne:j≠i)(hun:listed.getD j true=false)(hD:j∉D):
  k j≠ .step/\oi.apart ops.toArray oj=true:=by
 simp only[qhQ,hi,w5,y9]at h
 have:=h j (wd.1 hj).1
 simp only[hj,yX,wu,beq_iff_eq,hne,hun,w8,false_or,yY,hD]at this
 refine⟨fun e=>?_,this.2⟩
 have h1:=this.1
 rw[e]at h1
 cases h1
theorem qgh{ops:List Oper}{k:Nat->Kind}{listed:Array Bool}{i:Nat}{D:List Nat}(h:qhQ ops k listed i D=true)(j:Nat):qhQ ops k (listed.setIfInBounds j true) i D=true:=by
 unfold qhQ at*
 split at h
 ·cases h
 ·rename_i oi hoi
  rw[w5]at*
  intro x hx
  have:=h x hx
  by_cases hxj:j=x
  ·subst hxj
   have:(listed.setIfInBounds j true).getD j true=true:=by
    rcases yg j listed.size with h'|h'
    ·simp[h']
    ·simp[yz h']
   simp only[this,yD,jC]
  ·rw[getD_set_ne true hxj];exact this
def qjQ(ops:List Oper)(k:Nat->Kind)(n:Nat):Bool:=
 (List.range ops.length).all fun j=>match ops[j]? with
  | some o=>(match k j with| .fresh=>false|_=>true)||o.dst !=some n
  | none=>true
def qio(ops:List Oper)(k:Nat->Kind)(fr:List Nat):Bool:=
 (List.range ops.length).all fun j=>match ops[j]? with
  | some o=>(match k j with| .fresh=>false|_=>true)||(match o.dst with|some m=>fr.contains m|none=>true)
  | none=>true
theorem qgX{ops:List Oper}{k:Nat->Kind}{fr:List Nat}(h:qio ops k fr=true){n:Nat}(hn:n∉fr):qjQ ops k n=true:=by
 unfold qio at h
 unfold qjQ
 rw[w5]at*
 intro j hj
 have:=h j hj
 split at this
 ·rename_i o ho
  simp only[yX,bne_iff_ne,ne_eq]at this ⊢
  rcases this with h1|h1
  ·exact .inl h1
  ·refine .inr fun e=>?_
   rw[e]at h1
   simp only[yY]at h1
   exact hn h1
 ·rfl
theorem qip{ops:List Oper}{k:Nat->Kind}{n:Nat}(h:qjQ ops k n=true){j:Nat}{o:Oper}(hj:ops[j]? =some o)(hk:k j= .fresh):o.dst≠some n:=by
 have:=w5.1 h j (y9.2 (wd.1 hj).1)
 simp only[hj,hk,jH,bne_iff_ne,ne_eq]at this
 exact this
theorem qdY{ops:List Oper}{k:Nat->Kind}{K:DS->Prop}{i:Nat}{oi:Oper}{D:List Nat}(hi:ops[i]? =some oi)(hk:k i= .light){t:TypeId}{x:Operand}(hop:oi.op= .load t x)(hg:oi.guard=none){n sz q c:Nat}(hfr:qjQ ops k n=true)(hmid: ¬mid n):
  ∀(fuel:Nat) (listed:Array Bool) (s:DS),s.ev x= .one (.bx n sz q c)->depB ops listed i D=true->qhQ ops k listed i D=true->i∈Region.ready .any ops.toArray listed->
   TD P ops k i s (anyD P ops k K fuel (listed.setIfInBounds i true))->anyD P ops k K (fuel+1) listed s:=by
 have notD: ∀{listed:Array Bool} {j:Nat},depB ops listed i D=true->i∈Region.ready .any ops.toArray listed->j∈Region.ready .any ops.toArray listed->j∉D:=by
  intro listed j hd hri hrj hj
  obtain⟨h1,h2,o,ho,e,he,hb,hon⟩:=qa0 hd hj
  obtain⟨_,o',ho',Zr⟩:=mem_ready.1 hrj
  have ho2:ops[j]? =some o':=by simpa using ho'
  rw[ho]at ho2;injection ho2 with ho2;subst ho2
  have hl:=Zr e he hb
  rcases hon with hon|hon
  ·rw[hon,qch (mem_ready.1 hri).1]at hl;cases hl
  ·rw[qch (qa0 hd hon).1]at hl;cases hl
 intro fuel
 induction fuel with
 | zero=>
  intro listed s hx hd qgM hr H
  refine⟨fun h=>(by rw[h]at hr;cases hr),fun j hj=>?_⟩
  by_cases hji:j=i
  ·subst hji;exact H
  ·have h1:=ready_mono hj hji
   have h2:Region.ready .any ops.toArray (listed.setIfInBounds i true)= []:=by
    unfold TD at H
    simp only[hi,hk]at H
    unfold AL at H
    split at H
    ·obtain⟨_,_,h⟩:=H;exact h.1
    ·exact H.1
    ·exact H.elim
   rw[h2]at h1
   cases h1
 | succ fuel ih=>
  intro listed s hx hd qgM hr H
  refine⟨fun h=>(by rw[h]at hr;cases hr),fun j hj=>?_⟩
  by_cases hji:j=i
  ·subst hji;exact H
  ·have hjD:=notD hd hr hj
   obtain⟨hjun,oj,hoj,Zr⟩:=mem_ready.1 hj
   have hoj':ops[j]? =some oj:=by simpa using hoj
   obtain⟨hkj,hap⟩:=qkv hi qgM hoj' hji hjun hjD
   have qb2: ∀{d:Dl.D},(s.put oj.dst d).ev x= .one (.bx n sz q c):=fun {d}=>by
    obtain⟨h1,h2,h3⟩:=Oper.apart_spec hap
    rw[qn8 fun t ht=>Zb (h3 t ht) x (by rw[hop];simp[Op.operands])]
    exact hx
   have h0:AL P ops oi s (anyD P ops k K (fuel+1) (listed.setIfInBounds i true)):=by
    unfold TD at H
    simp only[hi,hk]at H
    exact H
   cases hkk:k j with
   | light=>
    have h1:AL P ops oi s fun s1=>AL P ops oj s1 (anyD P ops k K fuel ((listed.setIfInBounds i true).setIfInBounds j true)):=Qm (fun s1 h=>by
     have:=h.2 j (ready_mono hj hji)
     unfold TD at this
     simp only[hoj',hkk]at this
     exact this) h0
    have h2:=qiw hap h1
    have key: ∀s2,s2.ev x= .one (.bx n sz q c)->AL P ops oi s2 (anyD P ops k K fuel ((listed.setIfInBounds i true).setIfInBounds j true))->anyD P ops k K (fuel+1) (listed.setIfInBounds j true) s2:=fun s2 hx2 h3=>by
     refine ih (listed.setIfInBounds j true) s2 hx2 (qfw hd hjD) (qgh qgM j) (ready_mono hr (Ne.symm hji)) ?_
     unfold TD
     simp only[hi,hk]
     rw[jD _ _ hji]
     exact h3
    unfold TD
    simp only[hoj',hkk]
    revert h2
    unfold AL
    split
    ·rintro⟨d,e1,e2⟩
     exact⟨d,e1,key _ qb2 e2⟩
    ·exact fun h2=>key _ qb2 h2
    ·exact fun h2=>h2.elim
   | fresh=>
    have h1:AL P ops oi s fun s1=>AF P ops oj s1 (anyD P ops k K fuel ((listed.setIfInBounds i true).setIfInBounds j true)):=Qm (fun s1 h=>by
     have:=h.2 j (ready_mono hj hji)
     unfold TD at this
     simp only[hoj',hkk]at this
     exact this) h0
    have hnd:=qip hfr hoj' hkk
    have h3:=qha hap hop hg hx hnd hmid h1
    unfold TD
    simp only[hoj',hkk]
    refine qi0 (fun s2 hs2=>?_) h3
    refine ih (listed.setIfInBounds j true) _ hs2.1 (qfw hd hjD) (qgh qgM j) (ready_mono hr (Ne.symm hji)) ?_
    unfold TD
    simp only[hi,hk]
    rw[jD _ _ hji]
    exact hs2.2
   | step=>exact absurd hkk hkj
inductive Mode where
 | blind
 | light
 | look (fr:List Nat)
 | fresh
 | step
 | hand
def Mode.kind:Mode->Kind
 | .fresh=>.fresh
 | .step=>.step
 | .hand=>.step
 | _=>.light
def vp:List (Nat×Mode)->Nat->Kind
 | [],_=>.light
 | (j,m)::l,i=>if i==j then m.kind else vp l i
def deps(ops:List Oper)(listed:Array Bool)(i:Nat):List Nat:=
 (List.range ops.length).foldl (fun D k=>if !listed.getD k true&&k !=i&&(match ops[k]? with
  | some o=>o.after.any fun e=>Region.binds .any e&&(e.on==i||D.contains e.on)
  | none=>false)then k::D else D) []
def qrx(o:Oper):Bool:=
 match o.op,o.guard with
 | .load _ _,none=>true
 | _,_=>false
def qhi(ops:List Oper)(pl:List (Nat×Mode)):List (Nat×Mode)->Array Bool->Bool
 | [],listed=>(Region.ready .any ops.toArray listed).isEmpty
 | (i,m)::l,listed=>(match ops[i]? with
  | none=>false
  | some o=>(match m with
   | .blind=>false
   | .light=>(match vp pl i with| .light=>true|_=>false)&&(Region.ready .any ops.toArray listed).contains i&&depB ops listed i (deps ops listed i)&&qhR ops (vp pl) listed i (deps ops listed i)
   | .look fr=>qio ops (vp pl) fr&&(match vp pl i with| .light=>true|_=>false)&&qrx o&&(Region.ready .any ops.toArray listed).contains i&&depB ops listed i (deps ops listed i)&&qhQ ops (vp pl) listed i (deps ops listed i)
   | .fresh=>o.guard.isNone&&(match vp pl i with| .fresh=>true|_=>false)&&(Region.ready .any ops.toArray listed== [i])
   | .step| .hand=>(match vp pl i with| .step=>true|_=>false)&&(Region.ready .any ops.toArray listed== [i])))&&qhi ops pl l (listed.setIfInBounds i true)
def qei(fr:List Nat)(s:DS)(op:Op):Prop:=
 match op with
 | .load _ x=>match s.ev x with
  | .one (.bx n _ _ _)=>n∉fr/\¬mid n
  | _=>False
 | _=>False
def qaB(P:Program)(ops:List Oper)(k:Nat->Kind):List (Nat×Mode)->DS->(DS->Prop)->Prop
 | [],s,K=>K s
 | (i,m)::l,s,K=>match ops[i]? with
  | none=>False
  | some o=>match m with
   | .blind=>False
   | .light=>AL P ops o s fun s'=>qaB P ops k l s' K
   | .look fr=>o.guard≠none\/(qei fr s o.op/\AL P ops o s fun s'=>qaB P ops k l s' K)
   | .fresh=>o.guard≠none\/AF P ops o s fun s'=>qaB P ops k l s' K
   | .step| .hand=>vj P ops o s fun s'=>qaB P ops k l s' K
theorem qi2{ops:List Oper}{pl:List (Nat×Mode)}{K:DS->Prop}: ∀(l:List (Nat×Mode)) (listed:Array Bool) (s:DS),qhi ops pl l listed=true->qaB P ops (vp pl) l s K->anyD P ops (vp pl) K l.length listed s
 | [],listed,s,hc,hw=>by
  simp only[qhi,List.isEmpty_iff]at hc
  exact⟨hc,hw⟩
 | (i,m)::l,listed,s,hc,hw=>by
  simp only[qhi,wu]at hc
  obtain⟨hc1,hc2⟩:=hc
  simp only[qaB]at hw
  cases ho:ops[i]? with
  | none=>rw[ho]at hw;exact hw.elim
  | some o=>
   simp only[ho]at hw hc1
   have ih:=fun s'=>qi2 (K:=K) l (listed.setIfInBounds i true) s' hc2
   have kk: ∀{c:Kind},(match vp pl i with| .light=>true|_=>false)=true->vp pl i= .light:=fun {c} h=>by cases h':vp pl i<;>rw[h']at h<;>first|rfl|cases h
   cases m with
   | blind=>exact hw.elim
   | light=>
    simp only[wu,yY]at hc1
    obtain⟨⟨⟨g0,g1⟩,g2⟩,g3⟩:=hc1
    have hk:=kk (c:=.light) g0
    refine qoK ho hk _ listed s g2 g3 g1 ?_
    unfold TD
    simp only[ho,hk]
    exact Qm ih hw
   | look fr=>
    simp only[wu,yY]at hc1
    obtain⟨⟨⟨⟨⟨g5,g0⟩,g4⟩,g1⟩,g2⟩,g3⟩:=hc1
    have hk:=kk (c:=.light) g0
    have hg:o.guard=none:=by
     unfold qrx at g4
     split at g4
     ·assumption
     ·cases g4
    obtain⟨qb2,hw⟩:=hw.resolve_left (fun e=>e hg)
    unfold qei at qb2
    split at qb2
    ·rename_i t x hop
     split at qb2
     ·rename_i n sz q c hx
      refine qdY ho hk hop hg (qgX g5 qb2.1) qb2.2 _ listed s hx g2 g3 g1 ?_
      unfold TD
      simp only[ho,hk]
      exact Qm ih hw
     ·exact qb2.elim
    ·exact qb2.elim
   | fresh=>
    simp only[wu,beq_iff_eq]at hc1
    have hg:o.guard=none:=by simpa using hc1.1.1
    have hw:=hw.resolve_left (fun e=>e hg)
    have hk:vp pl i= .fresh:=by have h:=hc1.1.2;cases h':vp pl i<;>rw[h']at h<;>first|rfl|cases h
    refine⟨fun h=>(by rw[h]at hc1;cases hc1.2),fun j hj=>?_⟩
    rw[hc1.2,yd]at hj
    subst hj
    unfold TD
    simp only[ho,hk]
    exact qi0 ih hw
   | step=>
    simp only[wu,beq_iff_eq]at hc1
    have hk:vp pl i= .step:=by have h:=hc1.1;cases h':vp pl i<;>rw[h']at h<;>first|rfl|cases h
    refine⟨fun h=>(by rw[h]at hc1;cases hc1.2),fun j hj=>?_⟩
    rw[hc1.2,yd]at hj
    subst hj
    have:TD P ops (vp pl) j s fun s'=>qaB P ops (vp pl) l s' K:=by
     unfold TD
     simp only[ho,hk]
     exact hw
    exact qoP ih this
   | hand=>
    simp only[wu,beq_iff_eq]at hc1
    have hk:vp pl i= .step:=by have h:=hc1.1;cases h':vp pl i<;>rw[h']at h<;>first|rfl|cases h
    refine⟨fun h=>(by rw[h]at hc1;cases hc1.2),fun j hj=>?_⟩
    rw[hc1.2,yd]at hj
    subst hj
    have:TD P ops (vp pl) j s fun s'=>qaB P ops (vp pl) l s' K:=by
     unfold TD
     simp only[ho,hk]
     exact hw
    exact qoP ih this
def qj3(ops:List Oper):List Nat->Array Bool->Bool
 | [],_=>true
 | i::l,listed=>Region.free .any ops.toArray listed i&&(Region.ready .any ops.toArray listed).contains i&&qj3 ops l (listed.setIfInBounds i true)
def qbb:List Nat->Array Bool->Array Bool
 | [],listed=>listed
 | i::l,listed=>qbb l (listed.setIfInBounds i true)
def BL(P:Program)(ops:List Oper)(o:Oper)(s:DS)(K:DS->Prop):Prop:=
 match vR ops s o with
 | some true=>∃d,qbe P s o d/\K (s.put o.dst d)
 | some false=>K (s.put o.dst (.tup []))
 | none=>False
def qdK(P:Program)(ops:List Oper):List Nat->DS->(DS->Prop)->Prop
 | [],s,K=>K s
 | i::l,s,K=>match ops[i]? with
  | none=>False
  | some o=>BL P ops o s fun s'=>qdK P ops l s' K
theorem qi3{ops:List Oper}{N fuel:Nat}{K:DS->Prop}(hb:dstB ops N=true)(hs:Region.noSelect ops.toArray=true): ∀(l:List Nat) (listed:Array Bool) (s:DS),qj3 ops l listed=true->
  qdK P ops l s (z7 P ops N K fuel (qbb l listed))->z7 P ops N K (fuel+l.length) listed s
 | [],listed,s,_,h=>h
 | i::l,listed,s,hc,h=>by
  simp only[qj3,wu]at hc
  obtain⟨⟨h1,h2⟩,h3⟩:=hc
  simp only[qdK]at h
  cases ho:ops[i]? with
  | none=>rw[ho]at h;exact h.elim
  | some o=>
   simp only[ho]at h
   have ih:=fun s'=>qi3 (K:=K) (fuel:=fuel) hb hs l (listed.setIfInBounds i true) s' h3
   have e:fuel+(i::l).length=(fuel+l.length)+1:=rfl
   rw[e]
   unfold BL at h
   split at h
   ·rename_i hw
    obtain⟨d,hd,hk⟩:=h
    exact qba hb ho hs h1 h2 hw hd (ih _ hk)
   ·rename_i hw
    exact qfH hb ho hs h1 h2 hw (ih _ h)
   ·exact h.elim
def qos(ops:List Oper)(N:Nat)(pa:List Nat)(pb:List (Nat×Mode)):Bool:=
 dstB ops N&&(pa.isEmpty||Region.noSelect ops.toArray)&&qj3 ops pa (Array.replicate ops.length false)&&qhi ops pb pb (qbb pa (Array.replicate ops.length false))&&(pa.length+pb.length==ops.length)
theorem dw_plan{id:Nat}{l:List Oper}{s:DS}{Q:Exit->DS->Prop}(pa:List Nat)(pb:List (Nat×Mode))(hm:P.follows .mixedOrders=true)(hc:qos l s.n pa pb=true)
  (h:qdK P l pa s fun s'=>qaB P l (vp pb) pb s' (Q .normal)):DW P (.region id l.toArray true) s Q:=by
 simp only[qos,wu,yX,beq_iff_eq]at hc
 obtain⟨⟨⟨⟨h1,h2⟩,h3⟩,h4⟩,h5⟩:=hc
 refine qjV h1 hm ?_
 have mono: ∀{K K':DS->Prop} (hk: ∀s,K s->K' s) (pa:List Nat) (s:DS),qdK P l pa s K->qdK P l pa s K':=by
  intro K K' hk pa
  induction pa with
  | nil=>exact fun s h=>hk s h
  | cons i pa ih=>
   intro s h
   simp only[qdK]at h ⊢
   cases ho:l[i]? with
   | none=>rw[ho]at h;exact h.elim
   | some o=>
    simp only[ho]at h ⊢
    revert h
    unfold BL
    split
    ·rintro⟨d,e1,e2⟩;exact⟨d,e1,ih _ e2⟩
    ·exact fun h=>ih _ h
    ·exact fun h=>h.elim
 have ht: ∀s',qaB P l (vp pb) pb s' (Q .normal)->z7 P l s.n (Q .normal) pb.length (qbb pa (Array.replicate l.length false)) s':=fun s' hs'=>
  qcp h1 _ _ _ (qi2 pb _ s' h4 hs')
 cases pa with
 | nil=>
  have e:l.length=pb.length:=by simpa using h5.symm
  rw[e]at ht h4 ⊢
  exact ht s h
 | cons i pa=>
  have h2':Region.noSelect l.toArray=true:=by simpa using h2
  have e:l.length=pb.length+(i::pa).length:=by omega
  have:=qi3 (fuel:=pb.length) (K:=Q .normal) h1 h2' (i::pa) (Array.replicate l.length false) s h3 (mono ht _ _ h)
  rw[<-e]at this
  exact this
end
end
end Go.Dl
namespace Go.Dl
open Go.RowKit
noncomputable section
structure Ans where
 cond:Prop
 d:D
def optA:Option D->Ans
 | some d=>⟨True,d⟩
 | none=>⟨False,.any⟩
def litA:Option Value->Ans
 | some v=>⟨True,.one (.c (.lit v))⟩
 | none=>⟨False,.any⟩
def andA(c:Prop)(a:Ans):Ans:=⟨c/\a.cond,a.d⟩
def qdz(a:Ans)(K:D->Prop):Prop:=a.cond/\K a.d
theorem qm9(d:D):optA (some d)=⟨True,d⟩:=rfl
theorem qnA(v:Value):litA (some v)=⟨True,.one (.c (.lit v))⟩:=rfl
theorem andA_mk(c c':Prop)(d:D):andA c ⟨c',d⟩=⟨c/\c',d⟩:=rfl
def qp3:D->D->D->Ans
 | .one (.c (.lit (.bool t))),a,b=>⟨True,if t=true then a else b⟩
 | _,_,_=>⟨False,.any⟩
def qjT:Option Nat->D->Ans
 | some off,.one (.c (.pt cs))=>⟨True,.one (.c (.pt (cs.drop off)))⟩
 | some off,.one (.bx n sz i o)=>⟨True,.one (.bx n sz i (o+off))⟩
 | _,_=>⟨False,.any⟩
def slA(e:Option Nat)(sz:Nat)(xs:List (List C))(j:Int):Ans:=
 andA (e=some sz/\0<=j) (optA ((xs[j.toNat]?).map fun r=>.one (.c (.pt r))))
def qgI(e:Option Nat):D->D->Ans
 | .one (.ba n sz i len _),.one (.c (.lit (.int _ j)))=>⟨e=some sz/\0<=j/\j.toNat<len,.one (.bx n sz (i+j.toNat) 0)⟩
 | .one (.c (.sl sz xs)),.one (.c (.lit (.int _ j)))=>slA e sz xs j
 | .one (.own _ sz xs),.one (.c (.lit (.int _ j)))=>slA e sz xs j
 | .one (.ex sz xs),.one (.c (.lit (.int _ j)))=>slA e sz xs j
 | _,_=>⟨False,.any⟩
def qck:D->Nat->Ans
 | .tup ds,i=>optA ds[i]?
 | _,_=>⟨False,.any⟩
def nilA:D->Ans
 | .one (.bx n sz i o)=>⟨True,.one (.bx n sz i o)⟩
 | .one (.c (.pt cs))=>⟨True,.one (.c (.pt cs))⟩
 | .one (.c (.fn f caps))=>⟨True,.one (.c (.fn f caps))⟩
 | .one (.fv f caps)=>⟨True,.one (.fv f caps)⟩
 | _=>⟨False,.any⟩
def lenA:Option Int->Ans
 | some n=>⟨True,.one (.c (.lit (.int .i64 n)))⟩
 | none=>⟨False,.any⟩
def qpA:Option (Nat×List (List C))->Ans
 | some (sz,rows)=>⟨True,.one (.ex sz rows)⟩
 | none=>⟨False,.any⟩
def aggA:Option (List T)->Ans
 | some cs=>⟨True,.agg cs⟩
 | none=>⟨False,.any⟩
def fnA(f:FuncId):Option (List T)->Ans
 | some ts=>⟨True,fnOf f ts⟩
 | none=>⟨False,.any⟩
def qN(P:Program)(s:DS):Op->Ans
 | .move x| .assign x=>⟨True,s.ev x⟩
 | .pick c a b=>qp3 (s.ev c) (s.ev a) (s.ev b)
 | .load t x=>optA (ldD P s.bx t (s.ev x))
 | .build t parts=>aggA (qeu P t (parts.toList.map fun p=>(p.1,s.ev p.2)))
 | .buildSlice t len parts=>qpA (vC P t len (parts.toList.map fun p=>(p.1,s.ev p.2)))
 | .binOp op t x y _=>litA (binD P op t (s.ev x) (s.ev y))
 | .unOp op _ x=>litA (unD op (s.ev x))
 | .convert a b x=>optA (qlu P a b (s.ev x))
 | .index t x i=>litA (qen P t (s.ev x) (s.ev i))
 | .fieldAddr t x f=>qjT (Program.fieldOff P t f) (s.ev x)
 | .field t x f=>optA (qer P t f (s.ev x))
 | .indexAddr t x i=>qgI (Program.elemSz P t) (s.ev x) (s.ev i)
 | .slice t x lo hi mx=>optA (qcB P t (s.ev x) (lo.map s.ev) (hi.map s.ev) (mx.map s.ev))
 | .call ⟨.builtin .len,args,tys⟩=>match args.toList,tys.toList with
  | [x],[t]=>lenA (lenD P t (s.ev x))
  | _,_=>⟨False,.any⟩
 | .call ⟨.builtin .cap,args,tys⟩=>match args.toList,tys.toList with
  | [x],[t]=>lenA (capD P t (s.ev x))
  | _,_=>⟨False,.any⟩
 | .call ⟨.builtin .min,args,_⟩=>optA (bltD .min (args.toList.map s.ev))
 | .call ⟨.builtin .max,args,_⟩=>optA (bltD .max (args.toList.map s.ev))
 | .extract x i=>qck (s.ev x) i
 | .nilCheck x=>nilA (s.ev x)
 | .makeFunc (.func f) first captured=>if first.isEmpty then fnA f ((captured.toList.map s.ev).mapM qlz)else⟨False,.any⟩
 | _=>⟨False,.any⟩
def qlc:D->Prop
 | .one (.bx _ _ _ _)=>True
 | _=>False
def qem:D->Prop
 | .one (.c (.lit _))=>True
 | _=>False
def qqn:D->Prop
 | .one (.ba _ _ _ _ _)=>True
 | _=>False
def zi(s:DS):Op->Prop
 | .move _| .assign _| .slice _ _ _ _ _=>True
 | .nilCheck x| .fieldAddr _ x _=>qlc (s.ev x)
 | .binOp _ _ x y _=>qem (s.ev x)/\qem (s.ev y)
 | .indexAddr _ x _=>qqn (s.ev x)
 | _=>False
def mdOK(s:DS)(op:Op):Mode->Prop
 | .blind=>zi s op
 | .look fr=>qei fr s op
 | .fresh=>False
 | .hand=>False
 | .light| .step=>True
def qj9(P:Program)(f:D)(args:List D)(K:D->Prop):Prop:=
 ∃g caps ds r,f= .one (.c (.fn g caps))/\LeL (args.map D.cl++caps.map fun c=>D.one (.c c)) ds/\DCalls P g ds r/\K r
def CallEff(P:Program)(f:D)(args:List D)(s:DS)(dst:Option Nat)(ns:List Nat)(K:DS->Prop):Prop:=
 ∃g caps ds H R,f.asFn=some (g,caps)/\DLeL ((args++caps.map D.one).map (D.tr (shf ns))) ds/\ECalls P g ds H R/\(∀k r,H k=some r->qJ s.bx ns k=some r)/\CallOk ns dst/\
  ∀r H',R r H'->K (s.aftCall ns dst r H')
def CallNew(P:Program)(f:D)(args:List D)(s:DS)(dst:Option Nat)(K:DS->Prop):Prop:=
 ∃g caps ds R,f.asFn=some (g,caps)/\DLeL ((args++caps.map D.one).map (D.tr (shfM vY []))) ds/\ECalls P g ds qc R/\CallOkM vY [] dst/\∀r H',R r H'->K (s.aftCallM vY [] dst r H')
def CallW(P:Program)(o:Oper)(f:D)(args:List D)(s:DS)(dst:Option Nat)(K:DS->Prop):Mode->Prop
 | .light=>qj9 P f args fun r=>K (s.put dst r.cl)
 | .step=>qj9 P f args (fun r=>K (QG s dst r))\/(∃ns,CallEff P f args s dst ns K)\/Step P { o with guard:=none } s K
 | .fresh=>CallNew P f args s dst K
 | _=>False
def qep(g:Option Bool)(A B:Prop):Prop:=
 match g with
 | some b=>(b=true->A)/\(b=false->B)
 | none=>False
theorem qil(A B:Prop):qep (some true) A B=A:=by simp[qep]
theorem qgS(A B:Prop):qep (some false) A B=B:=by simp[qep]
def optW(r:Option DS)(K:DS->Prop):Prop:=
 match r with
 | some s=>K s
 | none=>False
structure AnsS where
 cond:Prop
 s:DS
def bindS(a:AnsS)(K:DS->Prop):Prop:=a.cond/\K a.s
def appS(s:DS)(m:Nat)(info:Option (Nat×Nat))(x y:D):AnsS:=
 match info with
 | some (sz,by_)=>(match qeA m sz x,qeB sz y with
  | some (n,xs),some ys=>⟨(xs.length+ys.length)*by_<=140737488355328,(s.close [n]).put (some m) (.one (.own n sz (xs++ys)))⟩
  | _,_=>⟨False,s⟩)
 | none=>⟨False,s⟩
def qlO(md:Mode)(P:Program)(o:Oper)(s:DS)(K:DS->Prop):Prop:=
 match md with
 | .step=>Step P { o with guard:=none } s K
 | _=>False
def AppW(md:Mode)(P:Program)(o:Oper)(s:DS)(m:Nat)(info:Option (Nat×Nat))(x y:D)(K:DS->Prop):Prop:=
 match x with
 | .one (.ba _ _ _ _ _)=>qlO md P o s K
 | x=>match md with
  | .step=>bindS (appS s m info x y) K
  | _=>False
def newW(md:Mode)(s:DS)(m:Nat)(r:Option (List T))(K:DS->Prop):Prop:=
 match md with
 | .step=>optW (r.map fun z=>s.newBx m z) K
 | _=>False
def stW(md:Mode)(r:Option DS)(K:DS->Prop):Prop:=
 match md with
 | .step=>optW r K
 | _=>False
def qnn(info:Option (Nat×Nat))(ts:Option (List T))(s:DS)(m:Nat)(K:DS->Prop):Prop:=
 match info,ts with
 | some (sz,_),some ns=>(ns.length=sz/\sz<=16777216/\m<1000)/\K ((s.newMem m [ns]).put (some m) (.one (.ba m sz 0 1 1)))
 | _,_=>False
def opW(md:Mode)(P:Program)(o:Oper)(s:DS)(K:DS->Prop):Prop:=
 match o.op with
 | .call ⟨.value f,args,_⟩=>CallW P o (s.ev f) (args.toList.map s.ev) s o.dst K md
 | .call ⟨.builtin .append,args,tys⟩=>(match o.dst,args.toList,tys.toList with
  | some m,[x,y],[t,t']=>if t=t' then AppW md P o s m (qA P t) (s.ev x) (s.ev y) K else qlO md P o s K
  | _,_,_=>False)
 | .call ⟨.builtin .copy,_,_⟩| .call ⟨.builtin .clear,_,_⟩=>qlO md P o s K
 | .makeSlice _ _ _=>qlO md P o s K
 | .alloc t=>(match o.dst with
  | some m=>newW md s m (Program.zeroT P t) K
  | none=>False)
 | .box _ x=>(match o.dst with
  | some m=>newW md s m (s.ev x).cells K
  | none=>False)
 | .buildSlice t len parts=>(match md with
  | .hand=>Step P { o with guard:=none } s K
  | .fresh=>(match o.dst,len,parts.toList with
   | some m,1,[(0,x)]=>qnn (qA P t) (s.ev x).cells s m K
   | _,_,_=>False)
  | md=>qdz (andA (mdOK s (.buildSlice t len parts) md) (qN P s (.buildSlice t len parts))) fun d=>K (s.put o.dst d))
 | .store t x v=>(match o.dst with
  | none=>stW md (qbO P s t (s.ev x) (s.ev v)) K
  | some _=>False)
 | op=>qdz (andA (mdOK s op md) (qN P s op)) fun d=>K (s.put o.dst d)
def gV:Option (Option Nat)->(Nat->D)->Bool->Option Bool
 | some (some t),sl,want=>match sl t with
  | .one (.c (.lit (.bool b)))=>some (b==want)
  | .tup []=>some false
  | _=>none
 | _,_,_=>none
def wk(P:Program)(ds:List (Option Nat)):List (Mode×Oper)->DS->(DS->Prop)->Prop
 | [],s,K=>K s
 | (md,o)::l,s,K=>match o.guard with
  | none=>opW md P o s fun s'=>wk P ds l s' K
  | some (j,want)=>qep (gV ds[j]? s.sl want) (opW md P { o with guard:=none } s fun s'=>wk P ds l s' K) (wk P ds l (s.put o.dst (.tup [])) K)
section
variable {P : Program}
theorem qcQ{s:DS}{op:Op}{K:D->Prop}(h:qdz (qN P s op) K):QD P s.ev s.bx op K:=by
 have nof: ∀{K:D->Prop},¬qdz ⟨False,.any⟩ K:=fun h=>h.1
 have lit: ∀{o:Option Value} {K:D->Prop},qdz (litA o) K->(match o with|some v=>K (.one (.c (.lit v)))|none=>False):=fun {o K} h=>by
  cases o with
  | none=>exact h.1
  | some v=>exact h.2
 have opt: ∀{o:Option D} {K:D->Prop},qdz (optA o) K->(match o with|some v=>K v|none=>False):=fun {o K} h=>by
  cases o with
  | none=>exact h.1
  | some v=>exact h.2
 cases op with
 | move x=>exact h.2
 | assign x=>exact h.2
 | pick c a b=>
  simp only[qN,qp3]at h
  simp only[QD,D.asLit]
  split at h
  ·rename_i hc;rw[hc];exact h.2
  ·exact(nof h).elim
 | load t x=>exact opt h
 | build t parts=>
  simp only[qN]at h
  simp only[QD]
  split
  ·rename_i hb;rw[hb]at h;exact h.2
  ·rename_i hb;rw[hb]at h;exact h.1
 | buildSlice t n parts=>
  simp only[qN]at h
  simp only[QD]
  split
  ·rename_i hb;rw[hb]at h;exact h.2
  ·rename_i hb;rw[hb]at h;exact h.1
 | binOp op t x y ty=>exact lit h
 | unOp op t x=>exact lit h
 | convert a b x=>exact opt h
 | index t x i=>exact lit h
 | fieldAddr t x f=>
  simp only[qN,qjT]at h
  simp only[QD]
  split at h
  ·rename_i h1 h2;simp only[h1,h2];exact h.2
  ·rename_i h1 h2;simp only[h1,h2];exact h.2
  ·exact(nof h).elim
 | field t x f=>exact opt h
 | indexAddr t x i=>
  have sl: ∀{sz:Nat} {xs:List (List C)} {j:Int},qdz (slA (Program.elemSz P t) sz xs j) K->Program.elemSz P t=some sz/\0<=j/\∃r,xs[j.toNat]? =some r/\K (.one (.c (.pt r))):=fun {sz xs j} h=>by
   unfold slA andA at h
   cases hr:xs[j.toNat]? with
   | none=>rw[hr]at h;exact h.1.2.elim
   | some r=>rw[hr]at h;exact⟨h.1.1.1,h.1.1.2,r,rfl,h.2⟩
  simp only[qN,qgI]at h
  simp only[QD,D.asLit,D.asSl]
  split at h
  ·rename_i h1 h2;rw[h1,h2];exact⟨h.1.1,h.1.2.1,h.1.2.2,h.2⟩
  ·rename_i h1 h2;rw[h1,h2];exact sl h
  ·rename_i h1 h2;rw[h1,h2];exact sl h
  ·rename_i h1 h2;rw[h1,h2];exact sl h
  ·exact(nof h).elim
 | slice t x lo hi mx=>exact opt h
 | call c=>
  obtain⟨callee,args,tys⟩:=c
  cases callee with
  | value f=>exact(nof h).elim
  | invoke r m=>exact(nof h).elim
  | builtin b=>
   cases b with
   | len=>
    simp only[qN]at h
    simp only[QD]
    split at h
    ·rename_i x t hx ht
     rw[hx,ht]
     simp only
     split
     ·rename_i hn;rw[hn]at h;exact h.2
     ·rename_i hn;rw[hn]at h;exact h.1
    ·exact(nof h).elim
   | cap=>
    simp only[qN]at h
    simp only[QD]
    split at h
    ·rename_i x t hx ht
     rw[hx,ht]
     simp only
     split
     ·rename_i hn;rw[hn]at h;exact h.2
     ·rename_i hn;rw[hn]at h;exact h.1
    ·exact(nof h).elim
   | min=>exact opt h
   | max=>exact opt h
   | _=>exact(nof h).elim
 | extract x i=>
  simp only[qN,qck]at h
  simp only[QD]
  split at h
  ·rename_i hx;rw[hx];exact opt h
  ·exact(nof h).elim
 | nilCheck x=>
  simp only[qN,nilA]at h
  simp only[QD]
  split at h
  ·rename_i hx;rw[hx];exact h.2
  ·rename_i hx;rw[hx];exact h.2
  ·rename_i hx;rw[hx];exact h.2
  ·rename_i hx;rw[hx];exact h.2
  ·exact(nof h).elim
 | makeFunc fn first captured=>
  cases fn with
  | func f=>
   simp only[qN]at h
   simp only[QD]
   split at h
   ·rename_i hfe
    rw[if_pos hfe]
    split
    ·rename_i hc;rw[hc]at h;exact h.2
    ·rename_i hc;rw[hc]at h;exact h.1
   ·exact(nof h).elim
  | _=>exact(nof h).elim
 | _=>exact(nof h).elim
theorem Z9{s:DS}{op:Op}{K:D->Prop}(h:qdz (qN P s op) K): ∃d,QD P s.ev s.bx op (· =d)/\K d:=
 ⟨_,qcQ ⟨h.1,rfl⟩,h.2⟩
theorem qlD{s:DS}{o:Oper}{K:D->Prop}(hb:zi s o.op)(h:qdz (qN P s o.op) K): ∃d,qbe P s o d/\K d:=by
 cases ho:o.op with
 | move x=>rw[ho]at h;exact⟨_,qlC ho,h.2⟩
 | assign x=>rw[ho]at h;exact⟨_,qhq ho,h.2⟩
 | slice t x lo hi mx=>
  rw[ho]at h
  simp only[qN]at h
  cases hs:qcB P t (s.ev x) (lo.map s.ev) (hi.map s.ev) (mx.map s.ev)with
  | none=>rw[hs]at h;exact h.1.elim
  | some d=>
   rw[hs]at h
   refine⟨d,fun X E a w hE=>?_,h.2⟩
   obtain⟨v,h1,h2⟩:=qf4 hs (hE.ev x) (QZ (fun x=>hE.ev x) lo) (QZ (fun x=>hE.ev x) hi) (QZ (fun x=>hE.ev x) mx)
   exact⟨v,fun w'=>by simp only[execOp,ho,Sem.run_bind,h1 w',Result.andThen_ok,Sem.run_pure],h2⟩
 | nilCheck x=>
  rw[ho]at h hb
  simp only[zi,qlc]at hb
  simp only[qN]at h
  split at hb
  ·rename_i n sz i k hx
   rw[hx]at h
   exact⟨_,qdW ho hx,h.2⟩
  ·exact hb.elim
 | fieldAddr t x f=>
  rw[ho]at h hb
  simp only[zi,qlc]at hb
  simp only[qN]at h
  split at hb
  ·rename_i n sz i k hx
   rw[hx]at h
   cases hf:Program.fieldOff P t f with
   | none=>rw[hf]at h;exact h.1.elim
   | some off=>rw[hf]at h;exact⟨_,qdx ho hf hx,h.2⟩
  ·exact hb.elim
 | binOp op t x y ty=>
  rw[ho]at h hb
  simp only[zi,qem]at hb
  simp only[qN]at h
  obtain⟨hb1,hb2⟩:=hb
  split at hb1
  ·rename_i u hx
   split at hb2
   ·rename_i v hy
    rw[hx,hy]at h
    cases hr:binD P op t (.one (.c (.lit u))) (.one (.c (.lit v)))with
    | none=>rw[hr]at h;exact h.1.elim
    | some r=>
     rw[hr]at h
     refine⟨.one (.c (.lit r)),fun X E a w hE=>?_,h.2⟩
     have e1:=hE.ev x
     have e2:=hE.ev y
     rw[hx]at e1
     rw[hy]at e2
     have hu:u.oneCell'=true:=by cases e1 with|one t v h=>cases h with|c c v h=>cases h with|lit v h=>exact h
     have hv:v.oneCell'=true:=by cases e2 with|one t v h=>cases h with|c c v h=>cases h with|lit v h=>exact h
     exact qiN ho hx hy hr hu hv X E a w hE
   ·exact hb2.elim
  ·exact hb1.elim
 | indexAddr t x y=>
  rw[ho]at h hb
  simp only[zi,qqn]at hb
  simp only[qN]at h
  split at hb
  ·rename_i n sz i len cap hx
   rw[hx]at h
   unfold qgI at h
   split at h
   ·rename_i n' sz' i' len' cap' k j hx' hy
    injection hx' with hx';injection hx' with q1 q2 q3 q4 q5
    subst q1;subst q2;subst q3;subst q4;subst q5
    exact⟨_,qiM ho h.1.1 hx hy h.1.2.1 h.1.2.2,h.2⟩
   ·rename_i hx' _;cases hx'
   ·rename_i hx' _;cases hx'
   ·rename_i hx' _;cases hx'
   ·exact h.1.elim
  ·exact hb.elim
 | _=>rw[ho]at hb;exact hb.elim
theorem Q4{o:Oper}{s:DS}{K:DS->Prop}(h:Step P { o with guard:=none } s K):Step P o s K:=h
theorem appS_ok{s:DS}{m:Nat}{info:Option (Nat×Nat)}{x y:D}{K:DS->Prop}(h:bindS (appS s m info x y) K):
  ∃sz by_ n xs ys,info=some (sz,by_)/\qeA m sz x=some (n,xs)/\qeB sz y=some ys/\(xs.length+ys.length)*by_<=140737488355328/\K ((s.close [n]).put (some m) (.one (.own n sz (xs++ys)))):=by
 unfold appS at h
 split at h
 ·rename_i sz by_
  split at h
  ·rename_i n xs ys h1 h2
   exact⟨sz,by_,n,xs,ys,rfl,h1,h2,h.1,h.2⟩
  ·exact h.1.elim
 ·exact h.1.elim
theorem qbd{md:Mode}{o:Oper}{s:DS}{K:DS->Prop}(h:qlO md P o s K):md= .step/\Step P o s K:=by
 cases md<;>first|exact⟨rfl,Q4 h⟩|exact h.elim
theorem qnm{md:Mode}{s:DS}{m:Nat}{r:Option (List T)}{K:DS->Prop}(h:newW md s m r K):md= .step/\∃z,r=some z/\K (s.newBx m z):=by
 cases md<;>first|exact h.elim|skip
 cases r with
 | none=>exact h.elim
 | some z=>exact⟨rfl,z,rfl,h⟩
theorem stW_ok{md:Mode}{r:Option DS}{K:DS->Prop}(h:stW md r K):md= .step/\∃z,r=some z/\K z:=by
 cases md<;>first|exact h.elim|skip
 cases r with
 | none=>exact h.elim
 | some z=>exact⟨rfl,z,rfl,h⟩
inductive OpIs(P:Program)(o:Oper)(s:DS)(K:DS->Prop):Mode->Prop where
 | hand (h:Step P o s K):OpIs P o s K .hand
 | step (h:Step P o s K):OpIs P o s K .step
 | light (d:D) (h:QD P s.ev s.bx o.op (· =d)) (hk:K (s.put o.dst d)):OpIs P o s K .light
 | look (fr:List Nat) (d:D) (hl:qei fr s o.op) (h:QD P s.ev s.bx o.op (· =d)) (hk:K (s.put o.dst d)):OpIs P o s K (.look fr)
 | blind (d:D) (h:qbe P s o d) (hk:K (s.put o.dst d)):OpIs P o s K .blind
 | fresh (h:AFc P o s K\/AFb P o s K):OpIs P o s K .fresh
theorem qeb{md:Mode}{o:Oper}{s:DS}{K:DS->Prop}(h:qdz (andA (mdOK s o.op md) (qN P s o.op)) fun d=>K (s.put o.dst d)):OpIs P o s K md:=by
 have h0:mdOK s o.op md:=h.1.1
 have hq:qdz (qN P s o.op) fun d=>K (s.put o.dst d):=⟨h.1.2,h.2⟩
 cases md with
 | step=>exact .step (Step.quiet (qcQ hq))
 | light=>obtain⟨d,h1,h2⟩:=Z9 hq;exact .light d h1 h2
 | look fr=>obtain⟨d,h1,h2⟩:=Z9 hq;exact .look fr d h0 h1 h2
 | blind=>obtain⟨d,h1,h2⟩:=qlD h0 hq;exact .blind d h1 h2
 | fresh=>exact h0.elim
 | hand=>exact h0.elim
theorem qna{md:Mode}{o:Oper}{s:DS}{K:DS->Prop}(h:opW md P o s K):OpIs P o s K md:=by
 have stp: ∀{md:Mode},md= .step/\Step P o s K->OpIs P o s K md:=fun h=>by rw[h.1];exact .step h.2
 unfold opW at h
 split at h
 ·rename_i f args tys ho
  cases md with
  | light=>
   obtain⟨g,caps,ds,r,h1,h2,h3,h4⟩:=h
   exact .light r.cl (by rw[ho];exact⟨g,caps,ds,r,h1,h2,h3,rfl⟩) h4
  | step=>
   rcases h with⟨g,caps,ds,r,h1,h2,h3,h4⟩|⟨ns,g,caps,ds,H,R,h1,h2,h3,h4,h5,h6⟩|h
   ·exact .step (Step.callP ho h1 h2 h3 h4)
   ·exact .step (Step.callE ho h1 h2 h3 h4 h5 h6)
   ·exact .step (Q4 h)
  | fresh=>
   obtain⟨g,caps,ds,R,h1,h2,h3,h5,h4⟩:=h
   exact .fresh (.inl ⟨f,args,tys,g,caps,ds,R,ho,h1,h2,h3,h5,h4⟩)
  | blind=>exact h.elim
  | hand=>exact h.elim
  | look fr=>exact h.elim
 ·rename_i args tys ho
  split at h
  ·rename_i m x y t t' hm ha ht
   have ho':o.op= .call { callee:=.builtin .append,args:= #[x,y],argTypes:= #[t,t'] }:=by
    rw[ho]
    congr 2
    ·apply Array.ext';simpa using ha
    ·apply Array.ext';simpa using ht
   split at h
   ·rename_i htt;subst htt
    unfold AppW at h
    split at h
    ·exact stp (qbd h)
    ·split at h
     ·obtain⟨sz,by_,n,xs,ys,h1,h2,h3,h4,h5⟩:=appS_ok h
      exact .step (Step.appendOwn ho' hm h1 h2 h3 h4 h5)
     ·exact h.elim
   ·exact stp (qbd h)
  ·exact h.elim
 ·exact stp (qbd h)
 ·exact stp (qbd h)
 ·exact stp (qbd h)
 ·rename_i t ho
  split at h
  ·rename_i m hm
   obtain⟨rfl,z,h1,h2⟩:=qnm h
   exact .step (Step.alloc ho hm h1 h2)
  ·exact h.elim
 ·rename_i t x ho
  split at h
  ·rename_i m hm
   obtain⟨rfl,z,h1,h2⟩:=qnm h
   exact .step (Step.box ho hm h1 h2)
  ·exact h.elim
 ·rename_i t len parts ho
  split at h
  ·exact .hand (Q4 h)
  ·split at h
   ·rename_i m x hm hp
    unfold qnn at h
    split at h
    ·rename_i sz by_ ns vw hx
     have hparts:parts= #[(0,x)]:=by apply Array.ext';simpa using hp
     exact .fresh (.inr ⟨m,t,x,ns,sz,by_,by rw[ho,hparts],hm,vw,h.1.2.1,hx,h.1.1,h.1.2.2,h.2⟩)
    ·exact h.elim
   ·exact h.elim
  ·rw[<-ho]at h
   exact qeb h
 ·rename_i t x v ho
  split at h
  ·rename_i hm
   obtain⟨rfl,z,h1,h2⟩:=stW_ok h
   exact .step (Step.store ho hm h1 h2)
  ·exact h.elim
 ·exact qeb h
theorem qrf{o:Oper}{s:DS}{K K':DS->Prop}(hk: ∀s,K s->K' s)(h:AFc P o s K\/AFb P o s K):AFc P o s K'\/AFb P o s K':=by
 obtain⟨f,args,tys,g,caps,ds,R,h1,h2,h3,h4,h6,h5⟩|⟨m,t,x,ns,sz,by_,h1,h2,h3,h4,h5,h6,h7,h8⟩:=h
 ·exact .inl ⟨f,args,tys,g,caps,ds,R,h1,h2,h3,h4,h6,fun r H' hr=>hk _ (h5 r H' hr)⟩
 ·exact .inr ⟨m,t,x,ns,sz,by_,h1,h2,h3,h4,h5,h6,h7,hk _ h8⟩
theorem qqw{ops:List Oper}{s:DS}{o:Oper}{j:Nat}{want b:Bool}(hg:o.guard=some (j,want))(h:gV (ops.map (·.dst))[j]? s.sl want=some b):vR ops s o=some b:=by
 unfold gV at h
 unfold vR
 rw[hg]
 simp only
 split at h
 ·rename_i t ht
  rw[wq,wy]at ht
  obtain⟨o',h1,h2⟩:=ht
  rw[h1]
  simp only[yU,h2]
  exact h
 ·cases h
def GIs(P:Program)(ops:List Oper)(o:Oper)(s:DS)(K:DS->Prop)(md:Mode):Prop:=
 match vR ops s o with
 | some true=>OpIs P o s K md
 | some false=>K (s.put o.dst (.tup []))
 | none=>False
theorem qiZ{o:Oper}{s:DS}{d:D}(h:qbe P s { o with guard:=none } d):qbe P s o d:=h
theorem qlP{md:Mode}{o:Oper}{s:DS}{K:DS->Prop}(h:OpIs P { o with guard:=none } s K md):OpIs P o s K md:=by
 cases h with
 | hand h=>exact .hand (Q4 h)
 | step h=>exact .step (Q4 h)
 | light d h h'=>exact .light d h h'
 | look fr d hl h h'=>exact .look fr d hl h h'
 | blind d h h'=>exact .blind d (qiZ h) h'
 | fresh h=>exact .fresh h
theorem Q5{ops:List Oper}{md:Mode}{o:Oper}{l:List (Mode×Oper)}{s:DS}{K:DS->Prop}(h:wk P (ops.map (·.dst)) ((md,o)::l) s K):GIs P ops o s (fun s'=>wk P (ops.map (·.dst)) l s' K) md:=by
 simp only[wk]at h
 unfold GIs
 split at h
 ·rename_i hg
  have hw:vR ops s o=some true:=by simp[vR,hg]
  simp only[hw]
  exact qna h
 ·rename_i j want hg
  cases hv:gV (ops.map (·.dst))[j]? s.sl want with
  | none=>rw[hv]at h;exact h.elim
  | some b=>
   rw[hv]at h
   rw[qqw hg hv]
   cases b with
   | true=>exact qlP (qna (h.1 rfl))
   | false=>exact h.2 rfl
def tagS:List Oper->List (Mode×Oper)
 | []=> []
 | o::l=>(.step,o)::tagS l
theorem zS{ops:List Oper}{K:DS->Prop}: ∀(l:List Oper) (s:DS),wk P (ops.map (·.dst)) (tagS l) s K->qbY P ops l s K
 | [],_,h=>h
 | o::l,s,h=>by
  have h:=Q5 h
  unfold GIs at h
  simp only[qbY,vj]
  split at h
  ·rename_i hw
   simp only[hw,if_true]
   cases h with
   | step h=>exact h.mono fun s' _ hs'=>zS l s' hs'
  ·rename_i hw
   simp only[hw,w8,if_false]
   exact zS l _ h
  ·exact h.elim
theorem dw_reg{id:Nat}{l:List Oper}{s:DS}{Q:Exit->DS->Prop}{N:Nat}(hn:s.n=N)(hb:dstB l N=true)(h:wk P (l.map (·.dst)) (tagS l) s (Q .normal)):DW P (.region id l.toArray false) s Q:=
 qg7 (by rw[hn];exact hb) (zS l s h)
inductive Picks(ops:List Oper):List (Nat×Mode)->List (Mode×Oper)->Prop where
 | nil:Picks ops [] []
 | cons {i:Nat} {m:Mode} {o:Oper} {l:List (Nat×Mode)} {l':List (Mode×Oper)} (h:ops[i]? =some o) (hl:Picks ops l l'):Picks ops ((i,m)::l) ((m,o)::l')
def Mode.isBlind:Mode->Bool
 | .blind=>true
 | _=>false
def qe3:List (Nat×Mode)->List Nat
 | []=> []
 | (i,m)::l=>if m.isBlind then i::qe3 l else []
def Z4:List (Nat×Mode)->List (Nat×Mode)
 | []=> []
 | (i,m)::l=>if m.isBlind then Z4 l else(i,m)::l
theorem qh3{ops:List Oper}{k:Nat->Kind}{K:DS->Prop}{pl:List (Nat×Mode)}{l':List (Mode×Oper)}(hp:Picks ops pl l')(hnb: ∀p∈pl,p.2.isBlind=false): ∀{s:DS},wk P (ops.map (·.dst)) l' s K->qaB P ops k pl s K:=by
 induction hp with
 | nil=>exact fun h=>h
 | @cons i m o l l' ho hl ih=>
  intro s h0
  have h:=Q5 h0
  clear h0
  have ih:=fun {s}=>ih (fun p hp=>hnb p (List.mem_cons_of_mem _ hp)) (s:=s)
  simp only[qaB,ho]
  unfold GIs at h
  split at h
  ·rename_i hw
   cases h with
   | hand h=>
    simp only[vj,hw,if_true]
    exact h.mono fun s' _ hs'=>ih hs'
   | step h=>
    simp only[vj,hw,if_true]
    exact h.mono fun s' _ hs'=>ih hs'
   | light d h h'=>
    simp only[AL,hw]
    exact⟨d,h,ih h'⟩
   | look fr d hlk h h'=>
    simp only[AL,hw]
    exact .inr ⟨hlk,d,h,ih h'⟩
   | blind d h h'=>
    have:=hnb _ List.mem_cons_self
    cases this
   | fresh h=>exact .inr ⟨hw,qrf (fun s' hs'=>ih hs') h⟩
  ·rename_i hw
   have hg:o.guard≠none:=fun e=>by simp[vR,e]at hw
   cases m with
   | step=>simp only[vj,hw,w8,if_false];exact ih h
   | hand=>simp only[vj,hw,w8,if_false];exact ih h
   | light=>simp only[AL,hw];exact ih h
   | look fr=>exact .inl hg
   | blind=>
    have:=hnb _ List.mem_cons_self
    cases this
   | fresh=>exact .inl hg
  ·exact h.elim
theorem qkV{ops:List Oper}{K:DS->Prop}{pl:List (Nat×Mode)}{l':List (Mode×Oper)}(hp:Picks ops pl l'): ∀{s:DS},(∀p∈Z4 pl,p.2.isBlind=false)->wk P (ops.map (·.dst)) l' s K->
  qdK P ops (qe3 pl) s fun s'=>qaB P ops (vp (Z4 pl)) (Z4 pl) s' K:=by
 have aux: ∀(k:List (Nat×Mode)->Nat->Kind),(∀p q m l,m=Mode.blind->k (Z4 ((p,m)::l)) q=k (Z4 l) q)->∀{pl:List (Nat×Mode)} {l':List (Mode×Oper)},Picks ops pl l'->∀{s:DS},(∀p∈Z4 pl,p.2.isBlind=false)->wk P (ops.map (·.dst)) l' s K->
  qdK P ops (qe3 pl) s fun s'=>qaB P ops (k (Z4 pl)) (Z4 pl) s' K:=by
  intro k hkk pl l' hp
  induction hp with
  | nil=>exact fun _ h=>h
  | @cons i m o l l' ho hl ih=>
   intro s hnb h
   cases hb:m.isBlind with
   | false=>
    have e1:qe3 ((i,m)::l)= []:=by simp[qe3,hb]
    have e2:Z4 ((i,m)::l)=(i,m)::l:=by simp[Z4,hb]
    rw[e1]
    rw[e2]at hnb ⊢
    exact qh3 (.cons ho hl) hnb h
   | true=>
    have hm:m= .blind:=by cases m<;>first|rfl|cases hb
    subst hm
    have e1:qe3 ((i,.blind)::l)=i::qe3 l:=rfl
    have e2:Z4 ((i,.blind)::l)=Z4 l:=rfl
    rw[e1]
    rw[e2]at hnb ⊢
    replace h:=Q5 h
    simp only[qdK,ho]
    unfold GIs at h
    unfold BL
    split at h
    ·rename_i hw
     simp only[hw]
     cases h with
     | blind d h h'=>exact⟨d,h,ih hnb h'⟩
    ·rename_i hw
     simp only[hw]
     exact ih hnb h
    ·exact h.elim
 intro s hnb h
 exact aux vp (fun p q m l hm=>by subst hm;rfl) hp hnb h
def qj1(ops:List Oper)(N:Nat)(pl:List (Nat×Mode)):Bool:=
 qos ops N (qe3 pl) (Z4 pl)&&(Z4 pl).all fun p=> !p.2.isBlind
theorem dw_drw{id:Nat}{l:List Oper}{s:DS}{Q:Exit->DS->Prop}{N:Nat}{l':List (Mode×Oper)}(pl:List (Nat×Mode))(hm:P.follows .mixedOrders=true)(hn:s.n=N)(hc:qj1 l N pl=true)(hp:Picks l pl l')
  (h:wk P (l.map (·.dst)) l' s (Q .normal)):DW P (.region id l.toArray true) s Q:=by
 simp only[qj1,wu,w5,yI]at hc
 exact dw_plan (qe3 pl) (Z4 pl) hm (by rw[hn];exact hc.1) (qkV hp hc.2 h)
end
end
end Go.Dl
namespace Go.Dl
open Go.RowKit
noncomputable section
theorem qfY(next:DS->Prop)(Q:Exit->DS->Prop)(s:DS):QM next Q .normal s=next s:=rfl
theorem qma(next:DS->Prop)(Q:Exit->DS->Prop)(s:DS):QM next Q .ret s=Q .ret s:=rfl
theorem qkk(next:DS->Prop)(Q:Exit->DS->Prop)(i:Nat)(s:DS):QM next Q (.exit i) s=Q (.exit i) s:=rfl
theorem qc9(id:Nat)(Q:Exit->DS->Prop)(s:DS):zV id Q .normal s=Q .normal s:=rfl
theorem qgL(id:Nat)(Q:Exit->DS->Prop)(s:DS):zV id Q .ret s=Q .ret s:=rfl
theorem qff(id i:Nat)(Q:Exit->DS->Prop)(s:DS):zV id Q (.exit i) s=if i=id then Q .normal s else Q (.exit i) s:=rfl
def zM(a:Ans)(P:Program)(ds:List (Option Nat))(dst:Option Nat)(l:List (Mode×Oper))(s:DS)(K:DS->Prop):Prop:=a.cond/\wk P ds l (s.put dst a.d) K
def qhs(md:Mode)(a:AnsS)(P:Program)(ds:List (Option Nat))(l:List (Mode×Oper))(K:DS->Prop):Prop:=
 match md with
 | .step=>bindS a fun s'=>wk P ds l s' K
 | _=>False
def stC(md:Mode)(r:Option DS)(P:Program)(ds:List (Option Nat))(l:List (Mode×Oper))(K:DS->Prop):Prop:=stW md r fun s'=>wk P ds l s' K
def newC(md:Mode)(r:Option (List T))(m:Nat)(P:Program)(ds:List (Option Nat))(l:List (Mode×Oper))(s:DS)(K:DS->Prop):Prop:=newW md s m r fun s'=>wk P ds l s' K
def CallC(md:Mode)(P:Program)(o:Oper)(f:D)(args:List D)(s:DS)(dst:Option Nat)(ds:List (Option Nat))(l:List (Mode×Oper))(K:DS->Prop):Prop:=CallW P o f args s dst (fun s'=>wk P ds l s' K) md
def StepC(md:Mode)(P:Program)(o:Oper)(s:DS)(ds:List (Option Nat))(l:List (Mode×Oper))(K:DS->Prop):Prop:=qlO md P o s fun s'=>wk P ds l s' K
def AppC(md:Mode)(P:Program)(o:Oper)(m:Nat)(info:Option (Nat×Nat))(x y:D)(s:DS)(ds:List (Option Nat))(l:List (Mode×Oper))(K:DS->Prop):Prop:=AppW md P o s m info x y fun s'=>wk P ds l s' K
def qib(info:Option (Nat×Nat))(ts:Option (List T))(P:Program)(m:Nat)(s:DS)(ds:List (Option Nat))(l:List (Mode×Oper))(K:DS->Prop):Prop:=qnn info ts s m fun s'=>wk P ds l s' K
def qad(g:Option Bool)(md:Mode)(P:Program)(ds:List (Option Nat))(dst:Option Nat)(op:Op)(ty:TypeId)(pos:String)(aft:Array Edge)(l:List (Mode×Oper))(s:DS)(K:DS->Prop):Prop:=
 qep g (wk P ds ((md,⟨dst,op,ty,pos,aft,none⟩)::l) s K) (wk P ds l (s.put dst (.tup [])) K)
section
variable (md : Mode) (P : Program) (ds : List (Option Nat)) (dst : Option Nat) (ty : TypeId) (pos : String) (aft : Array Edge) (l : List (Mode × Oper)) (s : DS) (K : DS -> Prop)
theorem qq3(c:Prop)(d:D):zM ⟨c,d⟩ P ds dst l s K=(c/\wk P ds l (s.put dst d) K):=rfl
theorem qoA(c:Prop)(s':DS):qhs .step ⟨c,s'⟩ P ds l K=(c/\wk P ds l s' K):=rfl
theorem qpl(s':DS):stC .step (some s') P ds l K=wk P ds l s' K:=rfl
theorem qnq(m:Nat)(ts:List T):newC .step (some ts) m P ds l s K=wk P ds l (s.newBx m ts) K:=rfl
theorem qim(op:Op):qad (some true) md P ds dst op ty pos aft l s K=wk P ds ((md,⟨dst,op,ty,pos,aft,none⟩)::l) s K:=qil _ _
theorem qgT(op:Op):qad (some false) md P ds dst op ty pos aft l s K=wk P ds l (s.put dst (.tup [])) K:=qgS _ _
theorem wk_nil:wk P ds [] s K=K s:=rfl
theorem wk_tag(o:Oper)(l:List Oper):wk P ds (tagS (o::l)) s K=wk P ds ((.step,o)::tagS l) s K:=rfl
theorem wk_tagn:wk P ds (tagS []) s K=K s:=rfl
theorem qoZ(op:Op)(j:Nat)(b:Bool):wk P ds ((md,⟨dst,op,ty,pos,aft,some (j,b)⟩)::l) s K=qad (gV ds[j]? s.sl b) md P ds dst op ty pos aft l s K:=rfl
theorem wk_move(x:Operand):wk P ds ((md,⟨dst,.move x,ty,pos,aft,none⟩)::l) s K=zM (andA (mdOK s (.move x) md) ⟨True,s.ev x⟩) P ds dst l s K:=rfl
theorem qlT(x:Operand):wk P ds ((md,⟨dst,.assign x,ty,pos,aft,none⟩)::l) s K=zM (andA (mdOK s (.assign x) md) ⟨True,s.ev x⟩) P ds dst l s K:=rfl
theorem wk_pick(c a b:Operand):wk P ds ((md,⟨dst,.pick c a b,ty,pos,aft,none⟩)::l) s K=zM (andA (mdOK s (.pick c a b) md) (qp3 (s.ev c) (s.ev a) (s.ev b))) P ds dst l s K:=rfl
theorem wk_load(t:TypeId)(x:Operand):wk P ds ((md,⟨dst,.load t x,ty,pos,aft,none⟩)::l) s K=zM (andA (mdOK s (.load t x) md) (optA (ldD P s.bx t (s.ev x)))) P ds dst l s K:=rfl
theorem qo2(t:TypeId)(parts:List (Nat×Operand)):wk P ds ((md,⟨dst,.build t parts.toArray,ty,pos,aft,none⟩)::l) s K=zM (andA (mdOK s (.build t parts.toArray) md) (aggA (qeu P t (parts.map fun p=>(p.1,s.ev p.2))))) P ds dst l s K:=rfl
theorem qay(t:TypeId)(n:Nat)(parts:List (Nat×Operand)):wk P ds ((.step,⟨dst,.buildSlice t n parts.toArray,ty,pos,aft,none⟩)::l) s K=zM (andA (mdOK s (.buildSlice t n parts.toArray) .step) (qpA (vC P t n (parts.map fun p=>(p.1,s.ev p.2))))) P ds dst l s K:=rfl
theorem qaf(t:TypeId)(n:Nat)(parts:List (Nat×Operand)):wk P ds ((.light,⟨dst,.buildSlice t n parts.toArray,ty,pos,aft,none⟩)::l) s K=zM (andA (mdOK s (.buildSlice t n parts.toArray) .light) (qpA (vC P t n (parts.map fun p=>(p.1,s.ev p.2))))) P ds dst l s K:=rfl
theorem qag(m:Nat)(t:TypeId)(x:Operand):wk P ds ((.fresh,⟨some m,.buildSlice t 1 #[(0,x)],ty,pos,aft,none⟩)::l) s K=qib (qA P t) (s.ev x).cells P m s ds l K:=rfl
theorem qk2(sz by_:Nat)(ns:List T)(m:Nat):qib (some (sz,by_)) (some ns) P m s ds l K=((ns.length=sz/\sz<=16777216/\m<1000)/\wk P ds l ((s.newMem m [ns]).put (some m) (.one (.ba m sz 0 1 1))) K):=rfl
theorem qaz(t:TypeId)(n:Nat)(parts:Array (Nat×Operand)):wk P ds ((.hand,⟨dst,.buildSlice t n parts,ty,pos,aft,none⟩)::l) s K=StepC .step P ⟨dst,.buildSlice t n parts,ty,pos,aft,none⟩ s ds l K:=rfl
theorem qo3(op:BinOp)(t t':TypeId)(x y:Operand):wk P ds ((md,⟨dst,.binOp op t x y t',ty,pos,aft,none⟩)::l) s K=zM (andA (mdOK s (.binOp op t x y t') md) (litA (binD P op t (s.ev x) (s.ev y)))) P ds dst l s K:=rfl
theorem wk_unOp(op:UnOp)(t:TypeId)(x:Operand):wk P ds ((md,⟨dst,.unOp op t x,ty,pos,aft,none⟩)::l) s K=zM (andA (mdOK s (.unOp op t x) md) (litA (unD op (s.ev x)))) P ds dst l s K:=rfl
theorem qkf(a b:TypeId)(x:Operand):wk P ds ((md,⟨dst,.convert a b x,ty,pos,aft,none⟩)::l) s K=zM (andA (mdOK s (.convert a b x) md) (optA (qlu P a b (s.ev x)))) P ds dst l s K:=rfl
theorem qoY(t:TypeId)(x i:Operand):wk P ds ((md,⟨dst,.index t x i,ty,pos,aft,none⟩)::l) s K=zM (andA (mdOK s (.index t x i) md) (litA (qen P t (s.ev x) (s.ev i)))) P ds dst l s K:=rfl
theorem qfN(t:TypeId)(x:Operand)(f:Nat):wk P ds ((md,⟨dst,.fieldAddr t x f,ty,pos,aft,none⟩)::l) s K=zM (andA (mdOK s (.fieldAddr t x f) md) (qjT (Program.fieldOff P t f) (s.ev x))) P ds dst l s K:=rfl
theorem qo0(t:TypeId)(x:Operand)(f:Nat):wk P ds ((md,⟨dst,.field t x f,ty,pos,aft,none⟩)::l) s K=zM (andA (mdOK s (.field t x f) md) (optA (qer P t f (s.ev x)))) P ds dst l s K:=rfl
theorem qfM(t:TypeId)(x i:Operand):wk P ds ((md,⟨dst,.indexAddr t x i,ty,pos,aft,none⟩)::l) s K=zM (andA (mdOK s (.indexAddr t x i) md) (qgI (Program.elemSz P t) (s.ev x) (s.ev i))) P ds dst l s K:=rfl
theorem qoX(t:TypeId)(x:Operand)(lo hi mx:Option Operand):wk P ds ((md,⟨dst,.slice t x lo hi mx,ty,pos,aft,none⟩)::l) s K=zM (andA (mdOK s (.slice t x lo hi mx) md) (optA (qcB P t (s.ev x) (lo.map s.ev) (hi.map s.ev) (mx.map s.ev)))) P ds dst l s K:=rfl
theorem wk_len(x:Operand)(t:TypeId):wk P ds ((md,⟨dst,.call ⟨.builtin .len,#[x],#[t]⟩,ty,pos,aft,none⟩)::l) s K=zM (andA (mdOK s (.call ⟨.builtin .len,#[x],#[t]⟩) md) (lenA (lenD P t (s.ev x)))) P ds dst l s K:=rfl
theorem wk_cap(x:Operand)(t:TypeId):wk P ds ((md,⟨dst,.call ⟨.builtin .cap,#[x],#[t]⟩,ty,pos,aft,none⟩)::l) s K=zM (andA (mdOK s (.call ⟨.builtin .cap,#[x],#[t]⟩) md) (lenA (capD P t (s.ev x)))) P ds dst l s K:=rfl
theorem wk_min(x y:Operand)(tys:Array TypeId):wk P ds ((md,⟨dst,.call ⟨.builtin .min,#[x,y],tys⟩,ty,pos,aft,none⟩)::l) s K=zM (andA (mdOK s (.call ⟨.builtin .min,#[x,y],tys⟩) md) (optA (mnD false (s.ev x) (s.ev y)))) P ds dst l s K:=rfl
theorem wk_max(x y:Operand)(tys:Array TypeId):wk P ds ((md,⟨dst,.call ⟨.builtin .max,#[x,y],tys⟩,ty,pos,aft,none⟩)::l) s K=zM (andA (mdOK s (.call ⟨.builtin .max,#[x,y],tys⟩) md) (optA (mnD true (s.ev x) (s.ev y)))) P ds dst l s K:=rfl
theorem qke(x:Operand)(i:Nat):wk P ds ((md,⟨dst,.extract x i,ty,pos,aft,none⟩)::l) s K=zM (andA (mdOK s (.extract x i) md) (qck (s.ev x) i)) P ds dst l s K:=rfl
theorem qhD(x:Operand):wk P ds ((md,⟨dst,.nilCheck x,ty,pos,aft,none⟩)::l) s K=zM (andA (mdOK s (.nilCheck x) md) (nilA (s.ev x))) P ds dst l s K:=rfl
theorem qhE(f:FuncId)(caps:List Operand):wk P ds ((md,⟨dst,.makeFunc (.func f) #[] caps.toArray,ty,pos,aft,none⟩)::l) s K=zM (andA (mdOK s (.makeFunc (.func f) #[] caps.toArray) md) (fnA f ((caps.map s.ev).mapM qlz))) P ds dst l s K:=rfl
theorem wk_call(f:Operand)(args:List Operand)(tys:Array TypeId):wk P ds ((md,⟨dst,.call ⟨.value f,args.toArray,tys⟩,ty,pos,aft,none⟩)::l) s K=CallC md P ⟨dst,.call ⟨.value f,args.toArray,tys⟩,ty,pos,aft,none⟩ (s.ev f) (args.map s.ev) s dst ds l K:=rfl
theorem qlU(m:Nat)(x y:Operand)(t:TypeId):wk P ds ((md,⟨some m,.call ⟨.builtin .append,#[x,y],#[t,t]⟩,ty,pos,aft,none⟩)::l) s K=
  AppC md P ⟨some m,.call ⟨.builtin .append,#[x,y],#[t,t]⟩,ty,pos,aft,none⟩ m (qA P t) (s.ev x) (s.ev y) s ds l K:=by
 simp[wk,opW,AppC]
theorem qo4(m:Nat)(t:TypeId):wk P ds ((md,⟨some m,.alloc t,ty,pos,aft,none⟩)::l) s K=newC md (Program.zeroT P t) m P ds l s K:=rfl
theorem wk_box(m:Nat)(t:TypeId)(x:Operand):wk P ds ((md,⟨some m,.box t x,ty,pos,aft,none⟩)::l) s K=newC md (s.ev x).cells m P ds l s K:=rfl
theorem qoW(t:TypeId)(x v:Operand):wk P ds ((md,⟨none,.store t x v,ty,pos,aft,none⟩)::l) s K=stC md (qbO P s t (s.ev x) (s.ev v)) P ds l K:=rfl
theorem wk_copy(args:Array Operand)(tys:Array TypeId):wk P ds ((md,⟨dst,.call ⟨.builtin .copy,args,tys⟩,ty,pos,aft,none⟩)::l) s K=StepC md P ⟨dst,.call ⟨.builtin .copy,args,tys⟩,ty,pos,aft,none⟩ s ds l K:=rfl
theorem qfL(t:TypeId)(x y:Operand):wk P ds ((md,⟨dst,.makeSlice t x y,ty,pos,aft,none⟩)::l) s K=StepC md P ⟨dst,.makeSlice t x y,ty,pos,aft,none⟩ s ds l K:=rfl
theorem qo1(args:Array Operand)(tys:Array TypeId):wk P ds ((md,⟨dst,.call ⟨.builtin .clear,args,tys⟩,ty,pos,aft,none⟩)::l) s K=StepC md P ⟨dst,.call ⟨.builtin .clear,args,tys⟩,ty,pos,aft,none⟩ s ds l K:=rfl
variable (o : Oper) (m : Nat) (info : Option (Nat × Nat)) (y : D)
theorem qrc(n sz:Nat)(xs:List (List C)):AppC md P o m info (.one (.own n sz xs)) y s ds l K=qhs md (appS s m info (.one (.own n sz xs)) y) P ds l K:=by cases md<;>rfl
theorem AppC_ex(sz:Nat)(xs:List (List C)):AppC md P o m info (.one (.ex sz xs)) y s ds l K=qhs md (appS s m info (.one (.ex sz xs)) y) P ds l K:=by cases md<;>rfl
theorem qrd:AppC md P o m info (.one (.c (.lit (.slice none 0 0)))) y s ds l K=qhs md (appS s m info (.one (.c (.lit (.slice none 0 0)))) y) P ds l K:=by cases md<;>rfl
theorem AppC_ba(n sz i len cap:Nat):AppC md P o m info (.one (.ba n sz i len cap)) y s ds l K=StepC md P o s ds l K:=rfl
theorem qnw(op:Op):mdOK s op .step=True:=rfl
theorem qk8(op:Op):mdOK s op .light=True:=rfl
theorem qk9(op:Op):mdOK s op .blind=zi s op:=rfl
theorem qnx(op:Op)(fr:List Nat):mdOK s op (.look fr)=qei fr s op:=rfl
theorem qhr(x:Operand):zi s (.move x)=True:=rfl
theorem qdX(x:Operand):zi s (.assign x)=True:=rfl
theorem qfB(t:TypeId)(x:Operand)(lo hi mx:Option Operand):zi s (.slice t x lo hi mx)=True:=rfl
theorem qb4(x:Operand):zi s (.nilCheck x)=qlc (s.ev x):=rfl
theorem qbJ(t:TypeId)(x:Operand)(f:Nat):zi s (.fieldAddr t x f)=qlc (s.ev x):=rfl
theorem qfC(op:BinOp)(t t':TypeId)(x y:Operand):zi s (.binOp op t x y t')=(qem (s.ev x)/\qem (s.ev y)):=rfl
theorem qbI(t:TypeId)(x i:Operand):zi s (.indexAddr t x i)=qqn (s.ev x):=rfl
theorem qql(n sz i k:Nat):qlc (.one (.bx n sz i k))=True:=rfl
theorem qnP(v:Value):qem (.one (.c (.lit v)))=True:=rfl
theorem qqm(n sz i k c:Nat):qqn (.one (.ba n sz i k c))=True:=rfl
def qrs(fr:List Nat):D->Prop
 | .one (.bx n _ _ _)=>n∉fr/\¬mid n
 | _=>False
theorem qig(fr:List Nat)(t:TypeId)(x:Operand):qei fr s (.load t x)=qrs fr (s.ev x):=rfl
theorem qnz(fr:List Nat)(n sz i k:Nat):qrs fr (.one (.bx n sz i k))=(n∉fr/\¬mid n):=rfl
end
section
variable {P : Program} {g : FuncId} {args es : List D} {r : D} {s : DS} {dst : Option Nat} {ds : List (Option Nat)} {l : List (Mode × Oper)} {K : DS -> Prop} {o : Oper}
theorem CallC.mk{caps:List C}(hc:DCalls P g es r)(hle:LeL (args.map D.cl++caps.map fun c=>D.one (.c c)) es)(hk:wk P ds l (QG s dst r) K):CallC .step P o (.one (.c (.fn g caps))) args s dst ds l K:=
 .inl ⟨g,caps,es,r,rfl,hle,hc,hk⟩
theorem CallC.light{caps:List C}(hc:DCalls P g es r)(hle:LeL (args.map D.cl++caps.map fun c=>D.one (.c c)) es)(hk:wk P ds l (s.put dst r.cl) K):CallC .light P o (.one (.c (.fn g caps))) args s dst ds l K:=
 ⟨g,caps,es,r,rfl,hle,hc,hk⟩
theorem CallC.eff{f:D}{caps:List T}{H:Mem}{R:D->Mem->Prop}(ns:List Nat)(hc:ECalls P g es H R)(hf:f.asFn=some (g,caps))(hle:DLeL ((args++caps.map D.one).map (D.tr (shf ns))) es)(hH: ∀k r,H k=some r->qJ s.bx ns k=some r)(hd:CallOk ns dst)
  (hk: ∀r H',R r H'->wk P ds l (s.aftCall ns dst r H') K):CallC .step P o f args s dst ds l K:=
 .inr <| .inl ⟨ns,g,caps,es,H,R,hf,hle,hc,hH,hd,hk⟩
theorem CallC.new{f:D}{caps:List T}{R:D->Mem->Prop}(hc:ECalls P g es qc R)(hf:f.asFn=some (g,caps))(hle:DLeL ((args++caps.map D.one).map (D.tr (shfM vY []))) es)(hd:CallOkM vY [] dst)
  (hk: ∀r H',R r H'->wk P ds l (s.aftCallM vY [] dst r H') K):CallC .fresh P o f args s dst ds l K:=
 ⟨g,caps,es,R,hf,hle,hc,hd,hk⟩
theorem CallC.step{f:D}(h:Step P { o with guard:=none } s fun s'=>wk P ds l s' K):CallC .step P o f args s dst ds l K:=.inr (.inr h)
theorem StepC.mk{o:Oper}(h:Step P o s fun s'=>wk P ds l s' K):StepC .step P o s ds l K:=h
end
theorem qqq(N:Nat)(ds:List D)(H:Mem)(t:Nat):(Zd N ds H).sl t=ds.getD t .any:=rfl
theorem qqr(N:Nat)(ds:List D)(H:Mem)(t:Nat):(Zd N ds H).bx t=H t:=rfl
theorem qqc(t:Nat):qc t=none:=rfl
theorem ev_tmp(s:DS)(t:Nat):s.ev (.tmp t)=s.sl t:=rfl
theorem qqE(s:DS)(v:Value):s.ev (.const v)=qet v:=rfl
theorem ev_func(s:DS)(f:FuncId):s.ev (.func f)= .one (.c (.fn f [])):=rfl
theorem qmS(s:DS)(m:Nat)(d:D)(t:Nat):(s.put (some m) d).sl t=if t=m then d else s.sl t:=rfl
theorem qhZ(s:DS)(dst:Option Nat)(d:D)(t:Nat):(s.put dst d).bx t=s.bx t:=by cases dst<;>rfl
theorem qpR(s:DS)(d:D):s.put none d=s:=rfl
theorem tr_sl(s:DS)(r:Ren)(t:Nat):(s.tr r).sl t=(s.sl t).tr r:=rfl
theorem tr_bx(s:DS)(r:Ren)(t:Nat):(s.tr r).bx t=(s.bx t).map (Rows.tr r):=rfl
theorem qqU(s:DS)(ns:List Nat)(t:Nat):(s.close ns).sl t=(s.sl t).tr (cls ns):=rfl
theorem qqV(s:DS)(ns:List Nat)(t:Nat):(s.close ns).bx t=(s.bx t).map (Rows.tr (cls ns)):=rfl
theorem qqf(s:DS)(m:Nat)(ts:List T)(t:Nat):(s.newBx m ts).sl t=if t=m then .one (.bx m ts.length 0 0)else(s.sl t).tr (fgt m):=rfl
theorem qqg(s:DS)(m:Nat)(ts:List T)(t:Nat):(s.newBx m ts).bx t=if t=m then some (Rows.tr (fgt m) [ts])else(s.bx t).map (Rows.tr (fgt m)):=rfl
theorem qno(s:DS)(m:Nat)(rows:Rows)(t:Nat):(s.newMem m rows).sl t=(s.sl t).tr (fgt m):=rfl
theorem qee(s:DS)(m:Nat)(rows:Rows)(t:Nat):(s.newMem m rows).bx t=if t=m then some (Rows.tr (fgt m) rows)else(s.bx t).map (Rows.tr (fgt m)):=rfl
theorem qpt(s:DS)(m:Nat)(ts:Option Rows)(t:Nat):(s.setBx m ts).sl t=s.sl t:=rfl
theorem qpu(s:DS)(m:Nat)(ts:Option Rows)(t:Nat):(s.setBx m ts).bx t=if t=m then ts else s.bx t:=rfl
theorem qk4(s:DS)(n m:Nat)(rows:Rows)(t:Nat):(s.moveMem n m rows).sl t=(s.sl t).tr (fgts [n,m]):=rfl
theorem qeg(s:DS)(n m:Nat)(rows:Rows)(t:Nat):(s.moveMem n m rows).bx t=if t=m then some (Rows.tr (fgts [n,m]) rows)else if t=n then none else(s.bx t).map (Rows.tr (fgts [n,m])):=rfl
theorem qlK(s:DS)(ns:List Nat)(m:Nat)(r:D)(H':Mem)(t:Nat):(s.aftCall ns (some m) r H').sl t=if t=m then r.tr (usf ns (some m))else(s.sl t).tr (aft ns (some m)):=rfl
theorem qiV(s:DS)(ns:List Nat)(r:D)(H':Mem)(t:Nat):(s.aftCall ns none r H').sl t=(s.sl t).tr (aft ns none):=rfl
theorem qlL(s:DS)(ns:List Nat)(m:Option Nat)(r:D)(H':Mem)(t:Nat):(s.aftCall ns m r H').bx t=qd s.bx H' ns m t:=by cases m<;>rfl
theorem cls_f(ns:List Nat)(n:Nat):(cls ns).f n=if n∈ns then none else some n:=rfl
theorem cls_g(ns:List Nat)(n:Nat):(cls ns).g n=some n:=rfl
theorem fgt_f(m n:Nat):(fgt m).f n=some n:=rfl
theorem fgt_g(m n:Nat):(fgt m).g n=if n=m then none else some n:=rfl
theorem fgts_f(ms:List Nat)(n:Nat):(fgts ms).f n=some n:=rfl
theorem fgts_g(ms:List Nat)(n:Nat):(fgts ms).g n=if n∈ms then none else some n:=rfl
theorem lab_f(m n:Nat):(lab m).f n=if n=0 then some m else none:=rfl
theorem lab_g(m n:Nat):(lab m).g n=none:=rfl
theorem shf_f(ns:List Nat)(n:Nat):(shf ns).f n=if n∈ns then some (n+NB)else if mid n then some n else none:=rfl
theorem shf_g(ns:List Nat)(n:Nat):(shf ns).g n=if n∈ns then some (n+NB)else if mid n then some n else none:=rfl
theorem usf_f(ns:List Nat)(m:Option Nat)(k:Nat):(usf ns m).f k=if k=0 then m else if NB<=k/\k - NB∈ns then some (k - NB)else if mid k then some k else none:=rfl
theorem usf_g(ns:List Nat)(m:Option Nat)(k:Nat):(usf ns m).g k=if k=0 then m else if NB<=k/\k - NB∈ns then some (k - NB)else if mid k then some k else none:=rfl
theorem aft_f(ns:List Nat)(m:Option Nat)(n:Nat):(aft ns m).f n=if n∈ns\/mid n\/m=some n then none else some n:=rfl
theorem aft_g(ns:List Nat)(m:Option Nat)(n:Nat):(aft ns m).g n=if mid n\/m=some n then none else some n:=rfl
theorem tr_c(r:Ren)(cs:List C):T.trAll r (cs.map T.c)=cs.map T.c:=by
 rw[T.trAll_eq,yw];congr 1
theorem Rows.tr_c(r:Ren)(xs:List (List C)):Rows.tr r (xs.map (List.map T.c))=xs.map (List.map T.c):=by
 simp only[Rows.tr,yw]
 congr 1
 funext l
 exact Go.Dl.tr_c r l
theorem Rows.tr_nil(r:Ren):Rows.tr r []= []:=rfl
theorem Rows.tr_cons(r:Ren)(x:List T)(xs:Rows):Rows.tr r (x::xs)=T.trAll r x::Rows.tr r xs:=rfl
theorem Rows.tr_append(r:Ren)(xs ys:Rows):Rows.tr r (xs++ys)=Rows.tr r xs++Rows.tr r ys:=List.map_append
theorem qhn(s:DS)(r:D):QG s none r=s:=rfl
theorem qhm(s:DS)(m:Nat)(r:D):QG s (some m) r=Zy s m r:=rfl
theorem qpF(s:DS)(m:Nat)(x:C):Zy s m (.one (.c x))=s.put (some m) (.one (.c x)):=rfl
theorem qmw(s:DS)(m sz:Nat)(xs:List (List C)):Zy s m (.one (.ex sz xs))=s.put (some m) (.one (.ex sz xs)):=rfl
theorem qkt(s:DS)(m sz:Nat)(xs:List (List C)):Zy s m (.one (.own 0 sz xs))=(s.close [m]).put (some m) (.one (.own m sz xs)):=rfl
theorem qks(s:DS)(m:Nat)(ds:List D):Zy s m (.tup ds)=(s.close [m]).put (some m) ((D.tup ds).tr (lab m)):=rfl
theorem qku(s:DS)(m:Nat)(ts:List T):Zy s m (.agg ts)=(s.close [m]).put (some m) ((D.agg ts).tr (lab m)):=rfl
theorem qjm(P:Program)(s:DS):resL P s []=some []:=rfl
theorem qpG(P:Program)(s:DS)(t:Nat)(r:List ResultVar):resL P s (.tmp t::r)=(resL P s r).map fun l=>s.sl t::l:=rfl
theorem qgi(P:Program)(s:DS)(a:Nat)(t:TypeId)(r:List ResultVar):resL P s (.cell a t::r)=(ldD P s.bx t (s.sl a)).bind fun d=>(resL P s r).map fun l=>d::l:=rfl
theorem qpH(P:Program)(s:DS)(t:Nat):resD P s [.tmp t]=some (s.sl t):=rfl
theorem qmz(P:Program)(s:DS)(a:Nat)(t:TypeId):resD P s [.cell a t]=ldD P s.bx t (s.sl a):=by
 unfold resD
 rw[qgi,qjm]
 cases ldD P s.bx t (s.sl a)<;>rfl
theorem qpI(P:Program)(s:DS):resD P s []=some (.tup []):=rfl
theorem dcalls{P:Program}{f:FuncId}{fn:Func}{c:Code}{ds:List D}{r:D}{N:Nat}{rs:List ResultVar}(hp:Program.plainF P f=true)(hf:P.funcs[f]? =some fn)(hb:fn.body=some c)(hN:fn.ntmps=N)(hrs:fn.results.toList=rs)(hn:(decide (ds.length<=N)&&decide (N<=100000))=true)
  (h:DW P c (Zd N ds qc) (fun e s'=>(e= .normal\/e= .ret)/\resD P s' rs=some r)):DCalls P f ds r:=by
 subst hN;subst hrs
 simp only[wu,decide_eq_true_eq]at hn
 exact qhb hp hf hb hn.1 (wD hn.2 qL) h
theorem vW{P:Program}{f:FuncId}{fn:Func}{c:Code}{ds:List D}{H:Mem}{R:D->Mem->Prop}{N:Nat}{rs:List ResultVar}(hp:Program.plainF P f=true)(hf:P.funcs[f]? =some fn)(hb:fn.body=some c)(hN:fn.ntmps=N)(hrs:fn.results.toList=rs)(hn:(decide (ds.length<=N)&&decide (N<=100000))=true)
  (h:DW P c (Zd N ds H) (fun e s'=>(e= .normal\/e= .ret)/\∃r,resD P s' rs=some r/\R r s'.bx)):ECalls P f ds H R:=by
 subst hN;subst hrs
 simp only[wu,decide_eq_true_eq]at hn
 exact qbV hp hf hb hn.1 (wD hn.2 qL) h
theorem LeL.refl_: ∀(l:List D),LeL l l
 | []=>.nil
 | _::l=>.cons (fun _ _ _ h=>h) (LeL.refl_ l)
theorem LeL.of_eq{l l':List D}(h:l=l'):LeL l l':=h▸LeL.refl_ l
theorem Le.refl_(d:D):Le d d:=fun _ _ _ h=>h
theorem Le.nil_(sz:Nat):Le (.one (.c (.lit (.slice none 0 0)))) (.one (.c (.sl sz []))):=fun w K v h=>by
 rw[h.lit];exact .one _ _ (.c _ _ (.nil sz))
theorem wrap_i64{n:Int}(h1: -9223372036854775808<=n)(h2:n<9223372036854775808):IntKind.i64.wrap n=n:=by
 rw[IntKind.wrap_i64]
 omega
theorem qn9(s:DS)(g:Nat):s.ev (.global g)=qlm g:=rfl
theorem qhO(b:ByteArray):qcJ (qbW b)=some b.data.toList:=by
 unfold qbW
 induction b.data.toList with
 | nil=>rfl
 | cons x l ih=>simp[qcJ,qow,ih]
theorem qt(k:Nat)(h:k<maxLen):IntKind.i64.wrap ((k:Int)+1)=((k+1:Nat):Int):=by
 unfold maxLen at h
 rw[wrap_i64 (by omega) (by omega)];rfl
attribute [go_sem ↓] wk_nil wk_tag wk_tagn qoZ wk_move qlT wk_pick wk_load qo2 qay qaf qaz qag qo3 wk_unOp qkf qfN qo0 qfM qoY qoX wk_len wk_cap wk_min wk_max qke qhD qhE wk_call qlU qo4 wk_box qoW wk_copy qo1 qfL
attribute [go_sem ↓] qfY qma qkk qc9 qgL qff
attribute [go_sem ↓] qnw qk8 qk9 qnx qhr qdX qfB qb4 qbJ qfC qbI qig qpH qmz qpI
attribute [go_sem] qql qnP qqm qnz
attribute [go_sem] qk2 qq3 qm9 qnA andA_mk qoA qpl qnq qim qgT qrc AppC_ex qrd AppC_ba List.getD_cons_zero List.getD_cons_succ List.getD_nil
attribute [go_sem] qqq qqr qqc ev_tmp qqE ev_func qmS qhZ qpR tr_sl tr_bx qqU qqV qqf qqg qno qee qpt qpu qk4 qeg qlK qiV qlL Rows.tr_c tr_c Rows.tr_nil Rows.tr_cons Rows.tr_append
attribute [go_sem] qhn qhm qpF qmw qkt qks qku qjm qpG qgi
attribute [go_sem] qp3 qjT slA qgI qck nilA lenA qpA aggA fnA fnOf appS gV resD qet ldD qdP D.cells T.cl D.cl T.tr T.trAll D.tr D.trAll T.ownTo T.bxTo T.baTo mid cls_f cls_g fgt_f fgt_g fgts_f fgts_g lab_f lab_g shf_f shf_g usf_f usf_g aft_f aft_g
attribute [go_sem] qlu qqL qen qow qcJ qhO qn9
attribute [go_sem] mnD qn6 qeu qms vC binD intB strB unD qqO lenD capD ZK qcB qer qkZ qbO qeA qeB D.asSl D.asLit qlz T.asC qjK nilB D.asFn
attribute [irreducible] qib zM qhs stC newC CallC StepC AppC qad
end
end Go.Dl
namespace Go.Dl
open Go.RowKit
noncomputable section
def lk{α:Type}(z:α):List (Nat×α)->Nat->α
 | [],_=>z
 | (u,d)::r,t=>if t=u then d else lk z r t
def ml(l:List (Nat×Rows)):Mem:=fun k=>lk none (l.map fun p=>(p.1,some p.2)) k
def kn(N:Nat)(sls:List (Nat×D))(bx:Mem):DS:={ n:=N,sl:=lk .any sls,bx:=bx,pl:=false }
theorem lk_nil{α:Type}(z:α)(t:Nat):lk z [] t=z:=rfl
theorem lk_cons{α:Type}(z:α)(u:Nat)(d:α)(r:List (Nat×α))(t:Nat):lk z ((u,d)::r) t=if t=u then d else lk z r t:=rfl
theorem kn_sl(N:Nat)(sls:List (Nat×D))(bx:Mem)(t:Nat):(kn N sls bx).sl t=lk .any sls t:=rfl
theorem kn_bx(N:Nat)(sls:List (Nat×D))(bx:Mem)(t:Nat):(kn N sls bx).bx t=bx t:=rfl
theorem ml_nil(t:Nat):ml [] t=none:=rfl
theorem qnt(u:Nat)(r:Rows)(l:List (Nat×Rows))(t:Nat):ml ((u,r)::l) t=if t=u then some r else ml l t:=rfl
theorem DLe.rfl_(d:D):DLe d d:=fun _ _ _ h=>h
theorem DLe.own_(n sz:Nat)(xs:List (List C)):DLe (.one (.own n sz xs)) (.one (.c (.sl sz xs))):=fun w E v h=>by
 cases h with|one t v h=>cases h with|own n sz xs v h _ _=>exact .one _ _ (.c _ _ h)
theorem DLe.ex_(sz:Nat)(xs:List (List C)):DLe (.one (.ex sz xs)) (.one (.c (.sl sz xs))):=fun w E v h=>by
 cases h with|one t v h=>cases h with|ex sz xs v h _=>exact .one _ _ (.c _ _ h)
theorem DLe.nil_(sz:Nat):DLe (.one (.c (.lit (.slice none 0 0)))) (.one (.c (.sl sz []))):=fun w E v h=>by
 rw[h.lit];exact .one _ _ (.c _ _ (.nil sz))
theorem DLe.nilx_(sz:Nat):DLe (.one (.c (.lit (.slice none 0 0)))) (.one (.ex sz [])):=fun w E v h=>by
 rw[h.lit];exact .one _ _ (.ex _ _ _ (.nil sz) ⟨none,0,rfl⟩)
theorem DLe.any_(d:D):DLe d .any:=fun w E v h=>.any v
theorem DLe.of_eq{d d':D}(h:d=d'):DLe d d':=h▸DLe.rfl_ d
theorem DLeL.rfl_: ∀(l:List D),DLeL l l
 | []=>.nil
 | _::l=>.cons (DLe.rfl_ _) (DLeL.rfl_ l)
theorem DLeL.of_eq{l l':List D}(h:l=l'):DLeL l l':=h▸DLeL.rfl_ l
def AllS(s:DS):List (Nat×D)->Prop
 | []=>True
 | (t,d)::r=>(s.sl t=d\/DLe (s.sl t) d)/\AllS s r
def AllB(s:DS):List (Nat×Rows)->Prop
 | []=>True
 | (m,ts)::r=>s.bx m=some ts/\AllB s r
theorem AllS.get{s:DS}: ∀{sls:List (Nat×D)},AllS s sls->∀t,lk .any sls t= .any\/DLe (s.sl t) (lk .any sls t)
 | [],_,t=>.inl rfl
 | (u,d)::r,h,t=>by
  simp only[lk]
  split
  ·rename_i ht;subst ht
   rcases h.1 with h1|h1
   ·exact .inr (h1▸DLe.rfl_ _)
   ·exact .inr h1
  ·exact AllS.get h.2 t
theorem AllB.get{s:DS}: ∀{bxs:List (Nat×Rows)},AllB s bxs->∀t r,ml bxs t=some r->s.bx t=some r
 | [],_,t,r,h=>by cases h
 | (u,d)::l,h,t,r,hr=>by
  rw[qnt]at hr
  split at hr
  ·rename_i ht;subst ht;rw[<-hr];exact h.1
  ·exact AllB.get h.2 t r hr
theorem qrl{s s':DS}(hp:s'.pl=true->s.pl=true)(hn:s.n=s'.n)(h1: ∀t,s'.sl t= .any\/DLe (s.sl t) (s'.sl t))(h2: ∀k r,s'.bx k=some r->s.bx k=some r):s.Sub s':=by
 rintro X a w ⟨E,hE⟩
 refine⟨E,⟨hE.wi.less h2,fun t=>?_,hE.size.trans hn,hE.defers,by rw[<-hn];exact hE.small,fun h=>hE.pl (hp h)⟩⟩
 rcases h1 t with h|h
 ·rw[h];exact .any _
 ·exact h w E _ (hE.sl t)
theorem sub_kn{s:DS}{N:Nat}{sls:List (Nat×D)}{bx:Mem}(hn:s.n=N)(h1:AllS s sls)(h2: ∀k r,bx k=some r->s.bx k=some r):s.Sub (kn N sls bx):=
 qrl (fun h=>by cases h) hn (AllS.get h1) h2
theorem sub_ml{s:DS}{N:Nat}{sls:List (Nat×D)}{bxs:List (Nat×Rows)}(hn:s.n=N)(h1:AllS s sls)(h2:AllB s bxs):s.Sub (kn N sls (ml bxs)):=
 qrl (fun h=>by cases h) hn (AllS.get h1) (AllB.get h2)
theorem DS.Sub.trans{a b c:DS}(h:a.Sub b)(k:b.Sub c):a.Sub c:=fun X x w hr=>k X x w (h X x w hr)
section
variable {P : Program} {s : DS} {Q : Exit -> DS -> Prop}
theorem qk{α:Type}{c:Code}(S:α->DS)(Inv:α->Prop)(μ:α->Nat)(x0:α)(h0:s.Sub (S x0))(hi:Inv x0)
  (round: ∀x,Inv x->DW P c (S x) (QM (fun s'=>∃x',Inv x'/\μ x'<μ x/\s'.Sub (S x')) Q)):DW P (.loop c) s Q:=by
 intro X a w hr b k cs hro hb zJ
 have key: ∀n x,μ x=n->Inv x->∀a w,Rel X (S x) a w->
   ∃e a' w',(∃s',Q e s'/\Rel X s' a' w')/\ArrivesIn (Machine.fenced P (rd X.ro)) P (lone (b.atR a (.code c:: .inLoop c::k)) cs w) b k cs e a' w':=by
  intro n
  induction n using Nat.strongRecOn with
  | _ n ih=>
   intro x hn hI a w hr
   obtain⟨e,a₁,w₁,⟨s₁,hq,hr₁⟩,qbh⟩:=round x hI X a w hr b (.inLoop c::k) cs hro hb zJ
   cases e with
   | normal=>
    obtain⟨x',hI₁,hlt,hsub⟩:=hq
    obtain⟨e₂,a₂,w₂,hq₂,harr₂⟩:=ih (μ x') (hn▸hlt) x' rfl hI₁ a₁ w₁ (hsub X a₁ w₁ hr₁)
    exact⟨e₂,a₂,w₂,hq₂,.of_steps (StepsIn.trans qbh (.one (fenced_calm hb zJ rfl) stepR_inLoop)) harr₂⟩
   | exit id=>exact⟨_,a₁,w₁,⟨s₁,hq,hr₁⟩,.pass (x:=.inLoop c) rfl (fun _ _=>.inl (by simp)) qbh⟩
   | goto l=>exact⟨_,a₁,w₁,⟨s₁,hq,hr₁⟩,.pass (x:=.inLoop c) rfl (fun _ _=>.inl (by simp)) qbh⟩
   | ret=>exact⟨_,a₁,w₁,⟨s₁,hq,hr₁⟩,.pass (x:=.inLoop c) rfl (fun _ _=>.inl (by simp)) qbh⟩
   | panic ch=>exact⟨_,a₁,w₁,⟨s₁,hq,hr₁⟩,.pass (x:=.inLoop c) rfl (fun _ _=>.inl (by simp)) qbh⟩
   | outgrown=>exact⟨_,a₁,w₁,⟨s₁,hq,hr₁⟩,.pass (x:=.inLoop c) rfl (fun _ _=>.inl (by simp)) qbh⟩
 obtain⟨e,a',w',hq,qbh⟩:=key _ x0 rfl hi a w (h0 X a w hr)
 exact⟨e,a',w',hq,.of_steps (.one (fenced_calm hb zJ rfl) stepR_loop) qbh⟩
theorem qeK(t n sz:Nat)(h:s.sl t= .one (.c (.lit (.slice none 0 0)))):s.Sub ((s.close [n]).put (some t) (.one (.own n sz []))):=by
 rintro X a w ⟨E,hE⟩
 have hv:=hE.sl t
 rw[h]at hv
 have hnil:=hv.lit
 have hns: ∀b o,¬vX ((.slice none 0 0,sz):Value×Nat) b o:=fun b o ⟨a,len,cap,h1,_⟩=>by cases h1
 have h1:=hE.setVal n (.slice none 0 0,sz) (fun b o hs=>absurd hs (hns b o))
 refine⟨_,⟨h1.wi,fun u=>?_,h1.size,h1.defers,h1.small,h1.pl⟩⟩
 simp only[DS.put]
 by_cases hu:u=t
 ·subst hu
  rw[if_pos rfl,hnil]
  exact .one _ _ (.own n sz [] _ (.nil sz) (by simp[Env.setVal]) (Exact.tame ⟨none,0,rfl⟩))
 ·rw[if_neg hu];exact h1.sl u
theorem zl(t n sz:Nat){c:Code}(h:s.sl t= .one (.c (.lit (.slice none 0 0))))(hc:DW P c ((s.close [n]).put (some t) (.one (.own n sz []))) Q):DW P c s Q:=dw_weaken (qeK t n sz h) hc
def mvr(n m:Nat):Ren:=⟨some,fun k=>if k=n then some m else if k=m then none else some k⟩
def DS.mv(s:DS)(n m:Nat):DS:={ s with sl:=fun t=>(s.sl t).tr (mvr n m),bx:=fun k=>if k=m then(s.bx n).map (Rows.tr (mvr n m))else if k=n then none else(s.bx k).map (Rows.tr (mvr n m)) }
theorem qhT(E:Env)(n m:Nat):Renames (mvr n m) E (E.setρ m (E.ρ n)):=
 ⟨rfl,fun k j h=>by injection h with h;rw[h];rfl,fun k j h=>by
  simp only[mvr]at h
  split at h
  ·rename_i hk;injection h with h;subst h;subst hk;simp[Env.setρ]
  ·split at h
   ·cases h
   ·rename_i hk;injection h with h;subst h;simp[Env.setρ,hk]⟩
theorem qc2{s:DS}{n m:Nat}{k:Nat}{r:Rows}(h:(s.mv n m).bx k=some r):
  (k=m/\∃r',s.bx n=some r'/\r=Rows.tr (mvr n m) r')\/(k≠m/\k≠n/\∃r',s.bx k=some r'/\r=Rows.tr (mvr n m) r'):=by
 simp only[DS.mv]at h
 split at h
 ·rename_i hk
  simp only[wy]at h
  obtain⟨r',h1,h2⟩:=h
  exact .inl ⟨hk,r',h1,h2.symm⟩
 ·rename_i hk
  split at h
  ·cases h
  ·rename_i hk2
   simp only[wy]at h
   obtain⟨r',h1,h2⟩:=h
   exact .inr ⟨hk,hk2,r',h1,h2.symm⟩
theorem Qq(n m:Nat)(hm:m<100000):s.Sub (s.mv n m):=by
 rintro X a w ⟨E,h⟩
 have hR:=qhT E n m
 have hρm:(E.setρ m (E.ρ n)).ρ m=E.ρ n:=by simp[Env.setρ]
 have hρ: ∀k,k≠m->(E.setρ m (E.ρ n)).ρ k=E.ρ k:=fun k hk=>by simp[Env.setρ,hk]
 refine⟨E.setρ m (E.ρ n),⟨⟨h.wi.turn,h.wi.sep,h.wi.kin,h.wi.kold,h.wi.kok,fun k us hk hne=>?_,fun k j rk rj hk h2 hj h3 hne=>?_,h.wi.free,h.wi.disj,fun k j b o rj hs hj h3=>?_,fun k hk=>?_⟩,fun t=>(h.sl t).tr hR,h.size,h.defers,h.small,h.pl⟩⟩
 ·rcases qc2 hk with⟨rfl,r',g0,rfl⟩|⟨hkm,hkn,r',g1,rfl⟩
  ·obtain⟨g1,g2,g3⟩:=h.wi.boxes n r' g0 (Rows.tr_ne hne)
   rw[hρm];exact⟨g1,g2.tr hR,g3⟩
  ·obtain⟨g2,g3,g4⟩:=h.wi.boxes k r' g1 (Rows.tr_ne hne)
   rw[hρ k hkm];exact⟨g2,g3.tr hR,g4⟩
 ·rcases qc2 hk with⟨rfl,r',g0,rfl⟩|⟨hkm,hkn,r',g1,rfl⟩
  ·rcases qc2 hj with⟨rfl,_⟩|⟨hjm,hjn,r2,g2,rfl⟩
   ·exact absurd rfl hne
   ·rw[hρm,hρ j hjm];exact h.wi.boxne n j r' r2 g0 (Rows.tr_ne h2) g2 (Rows.tr_ne h3) (fun e=>hjn e.symm)
  ·rcases qc2 hj with⟨rfl,r2,g0,rfl⟩|⟨hjm,hjn,r2,g2,rfl⟩
   ·rw[hρm,hρ k hkm];exact h.wi.boxne k n r' r2 g1 (Rows.tr_ne h2) g0 (Rows.tr_ne h3) hkn
   ·rw[hρ k hkm,hρ j hjm];exact h.wi.boxne k j r' r2 g1 (Rows.tr_ne h2) g2 (Rows.tr_ne h3) hne
 ·rcases qc2 hj with⟨rfl,r2,g0,rfl⟩|⟨hjm,hjn,r2,g2,rfl⟩
  ·rw[hρm];exact h.wi.sbox k n b o r2 hs g0 (Rows.tr_ne h3)
  ·rw[hρ j hjm];exact h.wi.sbox k j b o r2 hs g2 (Rows.tr_ne h3)
 ·have:=h.small.2
  have:=qL
  rw[hρ k (by omega)];exact h.wi.fix k hk
theorem qiP{w:World}{E:Env}{v:Value}{d:D}(k sz:Nat)(hd:d= .one (.c (.lit (.slice none 0 0)))\/∃z,d= .one (.ex z []))(h:VD w E d v):VD w E (.one (.ba k sz 0 0 0)) v:=by
 rcases hd with rfl|⟨z,rfl⟩
 ·rw[h.lit];exact .one _ _ (.bz k sz 0 none)
 ·cases h with|one t v h=>cases h with|ex _ _ v h hx=>
   obtain⟨A,n,rfl⟩:=hx
   have:n=0:=by
    cases h with
    | nil=>rfl
    | sl _ _ a cap cv=>rfl
   subst this
   exact .one _ _ (.bz k sz 0 A)
theorem sub_zero(t k sz:Nat)(hd:s.sl t= .one (.c (.lit (.slice none 0 0)))\/∃z,s.sl t= .one (.ex z [])):s.Sub ((s.setBx k (some [])).put (some t) (.one (.ba k sz 0 0 0))):=by
 rintro X a w ⟨E,h⟩
 have h1:=h.noRows k
 refine⟨E,⟨h1.wi,fun u=>?_,h1.size,h1.defers,h1.small,h1.pl⟩⟩
 rw[qmS]
 split
 ·rename_i hu;subst hu
  exact qiP k sz hd (h.sl u)
 ·exact h1.sl u
end
theorem Qr{m:Nat}(hm:NB<=m): ¬mid m:=fun h=>by have:=h.2;omega
theorem DLe_own(n sz:Nat)(xs:List (List C)):DLe (.one (.own n sz xs)) (.one (.c (.sl sz xs)))=True:=eq_true (DLe.own_ n sz xs)
theorem DLe_ex(sz:Nat)(xs:List (List C)):DLe (.one (.ex sz xs)) (.one (.c (.sl sz xs)))=True:=eq_true (DLe.ex_ sz xs)
theorem DLe_nil(sz:Nat):DLe (.one (.c (.lit (.slice none 0 0)))) (.one (.c (.sl sz [])))=True:=eq_true (DLe.nil_ sz)
theorem qrb(sz:Nat):DLe (.one (.c (.lit (.slice none 0 0)))) (.one (.ex sz []))=True:=eq_true (DLe.nilx_ sz)
theorem DLe_any(d:D):DLe d .any=True:=eq_true (DLe.any_ d)
attribute [go_sem] lk_nil lk_cons kn_sl kn_bx ml_nil qnt AllS AllB DLe_own DLe_ex DLe_nil qrb DLe_any
end
end Go.Dl
namespace Go.Dl
open Go.RowKit
noncomputable section
theorem qcy{s:DS}(m i j n sz:Nat)(xs:List (List C)){rows:Rows}{r:List T}(hm:s.bx m=some rows)(hi:rows[i]? =some r)(hj:r[j]? =some (.ex sz xs)):
  s.Sub ((s.close [n]).setBx m (some ((Rows.tr (cls [n]) rows).set i ((T.trAll (cls [n]) r).set j (.own n sz xs))))):=by
 rintro X a w ⟨E,hE⟩
 have hne:rows≠ []:=fun e=>by rw[e]at hi;simp at hi
 obtain⟨g1,⟨z,arr,e,k1,k2,k3,k4⟩,g3⟩:=hE.wi.boxes m rows hm hne
 have hil:i<rows.length:=(wd.1 hi).1
 have hjl:j<r.length:=(wd.1 hj).1
 have hrz:=k2 r (wl hi)
 have hlt:i*z+j<arr.size:=by
  rw[k3]
  calc i*z+j<i*z+z:=by omega
   _=(i+1)*z:=by rw[w7,yO]
   _<=rows.length*z:=Nat.mul_le_mul_right _ hil
 have hv:=k4 i j r _ _ hi hj (wY hlt)
 cases hv with
 | ex _ _ v hvc hx=>
  have hns: ∀b o,¬vX (arr[i*z+j],sz) b o:=fun b o ⟨a,len,cap,h1,_,_,h2,h3⟩=>by
   obtain⟨A,q,hq⟩:=hx
   simp only at h1
   rw[hq]at h1
   injection h1 with h1 h4 h5
   subst h4;subst h5
   simp only at h2 h3
   omega
  have h1:=hE.setVal n (arr[i*z+j],sz) (fun b o hs=>absurd hs (hns b o))
  have hbx:(s.close [n]).bx m=some (Rows.tr (cls [n]) rows):=by simp[DS.close,DS.tr,hm]
  have hR:=Z8 E n (arr[i*z+j],sz)
  refine⟨_,⟨⟨h1.wi.turn,h1.wi.sep,h1.wi.kin,h1.wi.kold,h1.wi.kok,fun k us hk hne'=>?_,fun k l rk rl hk h2 hl h3 hkl=>?_,h1.wi.free,h1.wi.disj,fun k l b o rl hs hl h3=>?_,h1.wi.fix⟩,h1.sl,h1.size,h1.defers,h1.small,h1.pl⟩⟩
  ·simp only[DS.setBx]at hk
   split at hk
   ·rename_i hkm;subst hkm
    injection hk with hk;subst hk
    refine⟨g1,⟨z,arr,e,k1,fun x hx'=>?_,?_,fun i' j' x t v q1 q2 q3=>?_⟩,g3⟩
    ·rcases List.mem_or_eq_of_mem_set hx' with h|h
     ·simp only[Rows.tr,wI]at h
      obtain⟨y,hy,rfl⟩:=h
      rw[T.trAll_eq,we];exact k2 y hy
     ·rw[h,List.length_set,T.trAll_eq,we];exact hrz
    ·simp[Rows.tr,k3]
    ·have old: ∀(r0:List T) (t0:T),rows[i']? =some r0->r0[j']? =some t0->VT w (E.setVal n (arr[i*z+j],sz)) (t0.tr (cls [n])) v:=fun r0 t0 a1 a2=>(k4 i' j' r0 t0 v a1 a2 q3).tr hR
     rw[jh]at q1
     split at q1
     ·rename_i hii
      subst hii
      have hil':i<(Rows.tr (cls [n]) rows).length:=by simpa[Rows.tr]using hil
      rw[if_pos hil']at q1
      injection q1 with q1;subst q1
      rw[jh]at q2
      split at q2
      ·rename_i hjj
       subst hjj
       have hjl':j<(T.trAll (cls [n]) r).length:=by rw[T.trAll_eq,we];exact hjl
       rw[if_pos hjl']at q2
       injection q2 with q2;subst q2
       rw[wY hlt]at q3
       injection q3 with q3;subst q3
       exact .own n sz xs _ hvc (by simp[Env.setVal]) hx.tame
      ·rw[T.trAll_eq,wq,wy]at q2
       obtain⟨t0,q4,rfl⟩:=q2
       exact old r t0 hi q4
     ·simp only[Rows.tr,wq,wy]at q1
      obtain⟨r0,q4,rfl⟩:=q1
      rw[T.trAll_eq,wq,wy]at q2
      obtain⟨t0,q5,rfl⟩:=q2
      exact old r0 t0 q4 q5
   ·exact h1.wi.boxes k us hk hne'
  ·simp only[DS.setBx]at hk hl
   have fx: ∀{k:Nat} {rk:Rows},(if k=m then some ((Rows.tr (cls [n]) rows).set i ((T.trAll (cls [n]) r).set j (.own n sz xs)))else(s.close [n]).bx k)=some rk->rk≠ []->∃rk',(s.close [n]).bx k=some rk'/\rk'≠ []:=by
    intro k rk hk4 hne4
    by_cases hkm:k=m
    ·rw[if_pos hkm]at hk4
     have h5:=Option.some.inj hk4
     exact⟨_,hkm▸hbx,fun e=>hne4 (by rw[<-h5,e];rfl)⟩
    ·rw[if_neg hkm]at hk4
     exact⟨rk,hk4,hne4⟩
   obtain⟨rk',a1,a2⟩:=fx hk h2
   obtain⟨rl',b1,b2⟩:=fx hl h3
   exact h1.wi.boxne k l rk' rl' a1 a2 b1 b2 hkl
  ·simp only[DS.setBx]at hl
   split at hl
   ·rename_i hlm;subst hlm;exact h1.wi.sbox k l b o _ hs hbx (fun e=>hne (by simpa[Rows.tr]using e))
   ·exact h1.wi.sbox k l b o rl hs hl h3
theorem qqH{P:Program}{s:DS}{Q:Exit->DS->Prop}{c:Code}(m j n sz:Nat)(xs:List (List C)){r:List T}(hm:s.bx m=some [r])(hj:r[j]? =some (.ex sz xs))
  (h:DW P c ((s.close [n]).setBx m (some [(T.trAll (cls [n]) r).set j (.own n sz xs)])) Q):DW P c s Q:=by
 have:=qcy m 0 j n sz xs hm rfl hj
 exact dw_weaken this (by simpa[Rows.tr]using h)
theorem qw{P:Program}{s:DS}{Q:Exit->DS->Prop}{c:Code}(t:Nat)(d:D)(hd:DLe (s.sl t) d)(h:DW P c (s.put (some t) d) Q):DW P c s Q:=by
 refine dw_weaken ?_ h
 rintro X a w ⟨E,hE⟩
 refine⟨E,⟨hE.wi,fun u=>?_,hE.size,hE.defers,hE.small,hE.pl⟩⟩
 rw[qmS]
 split
 ·rename_i hu;subst hu;exact hd w E _ (hE.sl u)
 ·exact hE.sl u
end
end Go.Dl
namespace Go.Dl
open Go.RowKit
noncomputable section
section
variable {P : Program}
theorem qeL{s:DS}(m:Nat){rows rows':Rows}(hm:s.bx m=some rows)(hl:rows'.length=rows.length)
  (h: ∀(i:Nat) r r',rows[i]? =some r->rows'[i]? =some r'->r'.length=r.length/\∀w E (j:Nat) t t' v,r[j]? =some t->r'[j]? =some t'->VT w E t v->VT w E t' v):s.Sub (s.setBx m (some rows')):=by
 rintro X a w ⟨E,hE⟩
 have hne:rows'≠ []->rows≠ []:=fun h0 e=>h0 (List.length_eq_zero_iff.1 (by rw[hl,e];rfl))
 have fx: ∀{k:Nat} {rk:Rows},(s.setBx m (some rows')).bx k=some rk->rk≠ []->∃rk',s.bx k=some rk'/\rk'≠ []:=by
  intro k rk hk hnk
  simp only[DS.setBx]at hk
  by_cases hkm:k=m
  ·rw[if_pos hkm]at hk
   have:=Option.some.inj hk
   exact⟨rows,hkm▸hm,hne (this▸hnk)⟩
  ·rw[if_neg hkm]at hk;exact⟨rk,hk,hnk⟩
 refine⟨E,⟨⟨hE.wi.turn,hE.wi.sep,hE.wi.kin,hE.wi.kold,hE.wi.kok,fun k us hk hne'=>?_,fun k l rk rl hk h2 hl' h3 hkl=>?_,hE.wi.free,hE.wi.disj,fun k l b o rl hs hl' h3=>?_,hE.wi.fix⟩,hE.sl,hE.size,hE.defers,hE.small,hE.pl⟩⟩
 ·by_cases hkm:k=m
  ·simp only[DS.setBx]at hk
   rw[if_pos hkm]at hk
   have:=Option.some.inj hk
   subst this
   subst hkm
   obtain⟨g1,⟨z,arr,e,k1,k2,k3,k4⟩,g3⟩:=hE.wi.boxes k rows hm (hne hne')
   have get: ∀(i:Nat) r',rows'[i]? =some r'->∃r,rows[i]? =some r:=fun i r' hi=>⟨rows[i]'(by have:=(wd.1 hi).1;omega),wc _⟩
   refine⟨g1,⟨z,arr,e,k1,fun x hx=>?_,by rw[k3,hl],fun i j r' t' v q1 q2 q3=>?_⟩,g3⟩
   ·obtain⟨i,hi,rfl⟩:=List.mem_iff_getElem.1 hx
    obtain⟨r,hr⟩:=get i _ (wc hi)
    rw[(h i r _ hr (wc hi)).1]
    exact k2 r (wl hr)
   ·obtain⟨r,hr⟩:=get i r' q1
    obtain⟨h1,h2⟩:=h i r r' hr q1
    have hj:j<r.length:=by rw[<-h1];exact(wd.1 q2).1
    exact h2 w E j r[j] t' v (wc hj) q2 (k4 i j r _ v hr (wc hj) q3)
  ·simp only[DS.setBx]at hk
   rw[if_neg hkm]at hk
   exact hE.wi.boxes k us hk hne'
 ·obtain⟨rk',a1,a2⟩:=fx hk h2
  obtain⟨rl',b1,b2⟩:=fx hl' h3
  exact hE.wi.boxne k l rk' rl' a1 a2 b1 b2 hkl
 ·obtain⟨rl',b1,b2⟩:=fx hl' h3
  exact hE.wi.sbox k l b o rl' hs b1 b2
theorem qiT{n sz i:Nat}{r:List T}(h:(qb n sz)[i]? =some r):r=List.replicate sz (.c .any):=yb (wl h)
theorem qja{s:DS}(m sz:Nat){xs js:Rows}(hm:s.bx m=some (xs++js))(hz:RowsSz sz js):s.Sub (s.setBx m (some (xs++qb js.length sz))):=by
 refine qeL m hm (by simp[qb]) fun i r r' h1 h2=>?_
 rw[List.getElem?_append]at h1 h2
 split at h1
 ·rename_i hi
  rw[if_pos hi]at h2
  rw[h1]at h2;injection h2 with h2;subst h2
  exact⟨rfl,fun w E j t t' v q1 q2 q3=>by rw[q1]at q2;injection q2 with q2;subst q2;exact q3⟩
 ·rename_i hi
  rw[if_neg hi]at h2
  have e:=qiT h2
  subst e
  refine⟨by rw[List.length_replicate];exact(hz r (wl h1)).symm,fun w E j t t' v q1 q2 q3=>?_⟩
  have:=yb (wl q2)
  subst this
  exact .c _ _ (.any v q3.oneCell')
theorem Step.weaken{o:Oper}{s:DS}{K K':DS->Prop}(h:Step P o s K)(hk: ∀s',s'.n=s.n->K s'->∃s2,s'.Sub s2/\s2.n=s'.n/\K' s2):Step P o s K':=fun hd X a w hr Q=>
 Oper.wp_mono (fun a' w' ⟨s',⟨h1,h2⟩,h3⟩=>by
  obtain⟨s2,g1,g2,g3⟩:=hk s' h1 h2
  exact⟨s2,⟨g2.trans h1,g3⟩,g1 X a' w' h3⟩) (h hd X a w hr Q)
theorem RowsSz.tr{sz:Nat}{rows:Rows}(h:RowsSz sz rows)(r:Ren):RowsSz sz (Rows.tr r rows):=fun x hx=>by
 simp only[Rows.tr,wI]at hx
 obtain⟨y,hy,rfl⟩:=hx
 rw[T.trAll_eq,we];exact h y hy
theorem Z1(n sz:Nat):RowsSz sz (qb n sz):=fun r hr=>by rw[yb hr];simp
theorem qbN(r:Ren)(n sz:Nat):Rows.tr r (qb n sz)=qb n sz:=by
 unfold Rows.tr qb
 rw[List.map_replicate,T.trAll_eq,List.map_replicate]
 rfl
theorem Step.appendList{o:Oper}{s:DS}{K:DS->Prop}{m n sz by_ j:Nat}{x y:Operand}{t:TypeId}{rows ys:Rows}(ho:o.op= .call { callee:=.builtin .append,args:= #[x,y],argTypes:= #[t,t] })(hm:o.dst=some m)
  (vw:qA P t=some (sz,by_)) (hx:s.ev x= .one (.ba n sz 0 rows.length (rows.length+j))) (hn:s.bx n=some (rows++qb j sz)) (hz:RowsSz sz rows) (qfK:Src s.bx sz (s.ev y) ys)
  (hb:(rows.length+ys.length)*by_<=140737488355328)
  (h: ∀j',K ((s.moveMem n m (rows++(ys++qb j' sz))).put (some m) (.one (.ba m sz 0 (rows.length+ys.length) (rows.length+ys.length+j'))))):Step P o s K:=by
 have hz2:RowsSz sz (rows++qb j sz):=fun r hr=>(wo.1 hr).elim (hz r) (Z1 j sz r)
 refine Step.weaken (K:=fun s'=>∃js,RowsSz sz js/\s'=(s.moveMem n m (rows++(ys++js))).put (some m) (.one (.ba m sz 0 (rows.length+ys.length) (rows.length+ys.length+js.length)))) ?_ ?_
 ·refine Step.appendLin ho hm vw hx hn (by simp[qb]) hz2 qfK (by omega) hb fun js hjs=>⟨js,hjs,?_⟩
  simp
 ·rintro s' hs' ⟨js,hjs,rfl⟩
  refine⟨_,qja m sz (xs:=Rows.tr (fgts [n,m]) (rows++ys)) (js:=Rows.tr (fgts [n,m]) js) ?_ (hjs.tr _),rfl,?_⟩
  ·rw[qhZ,qeg,if_pos rfl,<-Rows.tr_append,wU]
  ·have hl:(Rows.tr (fgts [n,m]) js).length=js.length:=by simp[Rows.tr]
   have:=h js.length
   have e:((s.moveMem n m (rows++(ys++js))).put (some m) (.one (.ba m sz 0 (rows.length+ys.length) (rows.length+ys.length+js.length)))).setBx m (some (Rows.tr (fgts [n,m]) (rows++ys)++qb (Rows.tr (fgts [n,m]) js).length sz))=
     (s.moveMem n m (rows++(ys++qb js.length sz))).put (some m) (.one (.ba m sz 0 (rows.length+ys.length) (rows.length+ys.length+js.length))):=by
    rw[hl]
    simp only[DS.moveMem,DS.setBx,DS.put,DS.tr]
    congr 1
    funext k
    by_cases hk:k=m
    ·simp only[if_pos hk,Rows.tr_append,qbN,wU]
    ·simp only[if_neg hk]
   rw[e];exact this
theorem Step.copyTo{o:Oper}{s:DS}{K:DS->Prop}{n sz i len cap c:Nat}{x y:Operand}{t t2:TypeId}{rows ys rows':Rows}(ho:o.op= .call { callee:=.builtin .copy,args:= #[x,y],argTypes:= #[t,t2] })
  (he:Program.elemSz P t=some sz) (hx:s.ev x= .one (.ba n sz i len cap)) (hn:s.bx n=some rows) (ZY:i+len<=rows.length) (hz:RowsSz sz rows) (qfK:Src s.bx sz (s.ev y) ys)
  (hc:(ys.take len).length=c) (qbg:rows.take i++(ys.take len++rows.drop (i+c))=rows')
  (h:K ((s.setBx n (some rows')).put o.dst (.one (.c (.lit (.int .i64 c)))))):Step P o s K:=by
 subst hc
 subst qbg
 exact Step.copy ho he hx hn ZY hz qfK h
theorem qkg(P:Program)(ds:List (Option Nat))(md:Mode)(m:Nat)(x y:Operand)(t t':TypeId)(ty:TypeId)(pos:String)(aft:Array Edge)(l:List (Mode×Oper))(s:DS)(K:DS->Prop)(h:(t==t')=false):
  wk P ds ((md,⟨some m,.call ⟨.builtin .append,#[x,y],#[t,t']⟩,ty,pos,aft,none⟩)::l) s K=StepC md P ⟨some m,.call ⟨.builtin .append,#[x,y],#[t,t']⟩,ty,pos,aft,none⟩ s ds l K:=by
 have h': ¬t=t':=by simpa using h
 simp[wk,opW,StepC,h']
attribute [go_sem ↓] qkg
theorem mv_sl(s:DS)(n m t:Nat):(s.mv n m).sl t=(s.sl t).tr (mvr n m):=rfl
theorem mv_bx(s:DS)(n m k:Nat):(s.mv n m).bx k=if k=m then(s.bx n).map (Rows.tr (mvr n m))else if k=n then none else(s.bx k).map (Rows.tr (mvr n m)):=rfl
theorem mvr_f(n m k:Nat):(mvr n m).f k=some k:=rfl
theorem mvr_g(n m k:Nat):(mvr n m).g k=if k=n then some m else if k=m then none else some k:=rfl
attribute [go_sem] mv_sl mv_bx mvr_f mvr_g qbN
end
end
end Go.Dl
namespace Go.Dl
open Go.RowKit
noncomputable section
variable {ms : Nat -> Bool}
theorem qiW(s:DS)(ns:List Nat)(m:Nat)(r:D)(H':Mem)(t:Nat):(s.aftCallM ms ns (some m) r H').sl t=if t=m then r.tr (usfM ms ns (some m))else(s.sl t).tr (aftM ms ns (some m)):=rfl
theorem qhA(s:DS)(ns:List Nat)(r:D)(H':Mem)(t:Nat):(s.aftCallM ms ns none r H').sl t=(s.sl t).tr (aftM ms ns none):=rfl
theorem qiX(s:DS)(ns:List Nat)(m:Option Nat)(r:D)(H':Mem)(t:Nat):(s.aftCallM ms ns m r H').bx t=qS ms s.bx H' ns m t:=by cases m<;>rfl
theorem shfM_f(ns:List Nat)(n:Nat):(shfM ms ns).f n=if n∈ns then some (n+NB)else if midM ms n then some n else none:=rfl
theorem shfM_g(ns:List Nat)(n:Nat):(shfM ms ns).g n=if n∈ns then some (n+NB)else if midM ms n then some n else none:=rfl
theorem usfM_f(ns:List Nat)(m:Option Nat)(k:Nat):(usfM ms ns m).f k=if k=0 then m else if NB<=k/\k - NB∈ns then some (k - NB)else if midM ms k then some k else none:=rfl
theorem usfM_g(ns:List Nat)(m:Option Nat)(k:Nat):(usfM ms ns m).g k=if k=0 then m else if NB<=k/\k - NB∈ns then some (k - NB)else if midM ms k then some k else none:=rfl
theorem aftM_f(ns:List Nat)(m:Option Nat)(n:Nat):(aftM ms ns m).f n=if n∈ns\/midM ms n\/m=some n then none else some n:=rfl
theorem aftM_g(ns:List Nat)(m:Option Nat)(n:Nat):(aftM ms ns m).g n=if midM ms n\/m=some n then none else some n:=rfl
attribute [go_sem] qiW qhA qiX shfM_f shfM_g usfM_f usfM_g aftM_f aftM_g
theorem qd3{s:DS}(m i j k sz z:Nat){rows:Rows}{r:List T}(hm:s.bx m=some rows)(hk:k≠m)(hi:rows[i]? =some r)(hj:r[j]? =some (.ex z [])):
  s.Sub ((s.setBx k (some [])).setBx m (some (rows.set i (r.set j (.ba k sz 0 0 0))))):=by
 have h1:s.Sub (s.setBx k (some [])):=fun X a w ⟨E,h⟩=>⟨E,h.noRows k⟩
 refine h1.trans (qeL m (rows:=rows) (by simp only[DS.setBx,if_neg (Ne.symm hk)];exact hm) (by simp) fun i' r1 r2 q1 q2=>?_)
 rw[jh]at q2
 by_cases hii:i=i'
 ·subst hii
  rw[hi]at q1;injection q1 with q1;subst q1
  have hlt:i<rows.length:=(wd.1 hi).1
  rw[if_pos rfl,if_pos hlt]at q2
  injection q2 with q2;subst q2
  refine⟨by simp,fun w E j' t t' v e1 e2 e3=>?_⟩
  rw[jh]at e2
  by_cases hjj:j=j'
  ·subst hjj
   have hjl:j<r.length:=(wd.1 hj).1
   rw[if_pos rfl,if_pos hjl]at e2
   injection e2 with e2;subst e2
   rw[hj]at e1;injection e1 with e1;subst e1
   have:=qiP (w:=w) (E:=E) (d:=.one (.ex z [])) k sz (.inr ⟨z,rfl⟩) (.one _ _ e3)
   cases this with|one _ _ h=>exact h
  ·rw[if_neg hjj]at e2
   rw[e1]at e2;injection e2 with e2;subst e2;exact e3
 ·rw[if_neg hii,q1]at q2
  injection q2 with q2;subst q2
  exact⟨rfl,fun w E j' t t' v e1 e2 e3=>by rw[e1]at e2;injection e2 with e2;subst e2;exact e3⟩
end
end Go.Dl
namespace Go.Dl
open Go.RowKit
noncomputable section
section
variable {P : Program} {s : DS} {Q : Exit -> DS -> Prop} {c : Code}
theorem qH{α:Type}{xs:List α}{k:Nat}{x:α}(h:xs[k]? =some x):xs.take (k+1)=xs.take k++ [x]:=by
 rw[List.take_add_one,h];rfl
theorem qaZ{α σ:Type}(xs:List α)(S:Nat->σ->DS)(Inv:Nat->σ->Prop)(st0:σ)(qK:xs.length<=maxLen)(h0:s.Sub (S 0 st0))(hi:Inv 0 st0)
  (body: ∀k x st,xs[k]? =some x->k<xs.length->x∈xs->xs.take (k+1)=xs.take k++ [x]->decide ((k:Int)<(xs.length:Int))=true->IntKind.i64.wrap ((k:Int)+1)=((k+1:Nat):Int)->Inv k st->
   DW P c (S k st) (QM (fun s'=>∃st',Inv (k+1) st'/\s'.Sub (S (k+1) st')) Q))
  (done: ∀st,decide ((xs.length:Int)<(xs.length:Int))=false->Inv xs.length st->DW P c (S xs.length st) (QM (fun _=>False) Q)):DW P (.loop c) s Q:=by
 refine qk (fun y:Nat×σ=>S y.1 y.2) (fun y=>y.1<=xs.length/\Inv y.1 y.2) (fun y=>xs.length - y.1) (0,st0) h0 ⟨ye _,hi⟩ ?_
 rintro⟨k,st⟩ ⟨hk,hi⟩
 rcases yg k xs.length with hlt|hge
 ·have hx:xs[k]? =some xs[k]:=wc hlt
  refine(body k _ st hx hlt (List.getElem_mem hlt) (qH hx) (by simpa using hlt) (qt k (by simp only at hk;omega)) hi).mono ?_
  intro e s' h
  cases e<;>first|exact h|skip
  obtain⟨st',h1,h2⟩:=h
  exact⟨(k+1,st'),⟨by simp only;omega,h1⟩,by simp only;omega,h2⟩
 ·have hkl:k=xs.length:=by simp only at hk;omega
  subst hkl
  refine(done st (by simp) hi).mono ?_
  intro e s' h
  cases e<;>first|exact h|exact h.elim
theorem qrE{sz:Nat}(t:Nat)(h:s.sl t= .one (.c (.sl sz [])))(h1:DW P c (s.put (some t) (.one (.c (.lit (.slice none 0 0))))) Q)
  (h2: ∀a cap,cap<=maxLen->DW P c (s.put (some t) (.one (.c (.lit (.slice (some a) 0 cap))))) Q):DW P c s Q:=by
 rintro X a w ⟨E,hE⟩
 have hv:=hE.sl t
 rw[h]at hv
 have put: ∀v,a.tmps.getD t undef=v->v.oneCell'=true->Rel X (s.put (some t) (.one (.c (.lit v)))) a w:=fun v e ho=>⟨E,⟨hE.wi,fun u=>by
  simp only[DS.put]
  split
  ·rename_i hu;subst hu;rw[e];exact .one _ _ (.c _ _ (.lit _ ho))
  ·exact hE.sl u,hE.size,hE.defers,hE.small,hE.pl⟩⟩
 generalize hg:a.tmps.getD t undef=v at hv
 cases hv with|one t' v hv=>cases hv with|c c' v hv=>cases hv with
  | nil=>exact h1 X a w (put _ hg rfl)
  | sl _ _ ad cap cv hsz hc hm=>exact h2 ad cap hm X a w (put _ hg rfl)
theorem DLe.emp(sz:Nat){a:Addr}{cap:Nat}(h:cap<=maxLen):DLe (.one (.c (.lit (.slice (some a) 0 cap)))) (.one (.c (.sl sz []))):=fun w E v hv=>by
 rw[hv.lit]
 exact .one _ _ (.c _ _ (.sl sz [] a cap (fun _=>undef) (fun r hr=>by simp at hr) (ye _) h (fun j hj=>by simp at hj) (fun i j r c h1=>by simp at h1)))
section
variable {md : Mode} {ds : List (Option Nat)} {dst : Option Nat} {ty : TypeId} {pos : String} {aft : Array Edge} {l : List (Mode × Oper)} {K : DS -> Prop} {op : Op} {b : Bool}
theorem guardC_t(h1:b=true->qad (some true) md P ds dst op ty pos aft l s K)(h2:b=false->qad (some false) md P ds dst op ty pos aft l s K):qad (some b) md P ds dst op ty pos aft l s K:=by
 cases b
 ·exact h2 rfl
 ·exact h1 rfl
theorem guardC_f(h1:b=true->qad (some false) md P ds dst op ty pos aft l s K)(h2:b=false->qad (some true) md P ds dst op ty pos aft l s K):qad (some (!b)) md P ds dst op ty pos aft l s K:=by
 cases b
 ·exact h2 rfl
 ·exact h1 rfl
end
theorem qq6{α:Type}{l:List α}{p:α->Bool}{x:α}(hm:x∈l)(h:p x=true):l.any p=true:=by
 rw[List.any_eq_true];exact⟨x,hm,h⟩
def tagM:List Mode->List Oper->List (Mode×Oper)
 | _,[]=> []
 | [],o::l=>(.step,o)::tagM [] l
 | m::ms,o::l=>(m,o)::tagM ms l
def Mode.byStep:Mode->Bool
 | .step=>true
 | .hand=>true
 | _=>false
theorem qb6{ops:List Oper}{K:DS->Prop}: ∀(ms:List Mode) (l:List Oper) (s:DS),ms.all Mode.byStep=true->wk P (ops.map (·.dst)) (tagM ms l) s K->qbY P ops l s K
 | _,[],_,_,h=>by
  simp only[tagM]at h
  exact h
 | ms,o::l,s,hm,h=>by
  obtain⟨m,ms',e,hb,hm'⟩: ∃m ms',tagM ms (o::l)=(m,o)::tagM ms' l/\m.byStep=true/\ms'.all Mode.byStep=true:=by
   cases ms with
   | nil=>exact⟨.step,[],rfl,rfl,rfl⟩
   | cons m ms=>
    simp only[List.all_cons,wu]at hm
    exact⟨m,ms,rfl,hm.1,hm.2⟩
  rw[e]at h
  have h2:=Q5 h
  clear h
  unfold GIs at h2
  simp only[qbY,vj]
  split at h2
  ·rename_i hw
   simp only[hw,if_true]
   cases h2 with
   | step h=>exact h.mono fun s' _ hs'=>qb6 ms' l s' hm' hs'
   | hand h=>exact h.mono fun s' _ hs'=>qb6 ms' l s' hm' hs'
   | _=>cases hb
  ·rename_i hw
   simp only[hw,w8,if_false]
   exact qb6 ms' l _ hm' h2
  ·exact h2.elim
theorem qiv{id:Nat}{l:List Oper}{N:Nat}(ms:List Mode)(hn:s.n=N)(hb:(dstB l N&&ms.all Mode.byStep)=true)(h:wk P (l.map (·.dst)) (tagM ms l) s (Q .normal)):DW P (.region id l.toArray false) s Q:=by
 simp only[wu]at hb
 exact qg7 (by rw[hn];exact hb.1) (qb6 ms l s hb.2 h)
theorem wk_tagM(ds:List (Option Nat))(K:DS->Prop)(m:Mode)(ms:List Mode)(o:Oper)(l:List Oper):wk P ds (tagM (m::ms) (o::l)) s K=wk P ds ((m,o)::tagM ms l) s K:=rfl
theorem qoV(ds:List (Option Nat))(K:DS->Prop)(o:Oper)(l:List Oper):wk P ds (tagM [] (o::l)) s K=wk P ds ((.step,o)::tagM [] l) s K:=rfl
theorem qoU(ds:List (Option Nat))(K:DS->Prop)(ms:List Mode):wk P ds (tagM ms []) s K=K s:=by
 cases ms<;>rfl
theorem Step.buildNone{o:Oper}{K:DS->Prop}{m sz:Nat}{t:TypeId}(ho:o.op= .buildSlice t 0 #[])(hm:o.dst=some m)(hb:vC P t 0 []=some (sz,[]))
  (h:K (((s.put (some m) (.one (.ex sz []))).setBx m (some [])).put (some m) (.one (.ba m sz 0 0 0)))):Step P o s K:=by
 have hq:Step P o s (fun s'=>s'=s.put (some m) (.one (.ex sz []))):=by
  refine Step.quiet ?_
  rw[ho,hm]
  unfold QD
  simp only[wn]
  rw[hb]
 refine Step.weaken hq fun s' hn e=>⟨_,sub_zero m m sz (.inr ⟨sz,?_⟩),rfl,?_⟩
 ·rw[e];simp[DS.put]
 ·rw[e];exact h
end
attribute [go_sem ↓] wk_tagM qoV qoU
end
end Go.Dl
namespace Go.Dl
open Go.RowKit
noncomputable section
def T.exc:T->T
 | .ex sz xs=>.c (.sl sz xs)
 | .own _ sz xs=>.c (.sl sz xs)
 | t=>t
theorem VT.exc{w:World}{E:Env}{t:T}{v:Value}(h:VT w E t v):VT w E t.exc v:=by
 cases h with
 | ex sz xs v h hx=>exact .c _ _ h
 | own n sz xs v h hv ht=>exact .c _ _ h
 | c c v h=>exact .c c v h
 | bx n sz i o=>exact .bx n sz i o
 | ba n sz i len cap h1 h2=>exact .ba n sz i len cap h1 h2
 | bz n sz i A=>exact .bz n sz i A
 | fv f caps vs hl hr=>exact .fv f caps vs hl hr
theorem sub_exc{s:DS}(m:Nat){rows:Rows}(hm:s.bx m=some rows):s.Sub (s.setBx m (some (rows.map (List.map T.exc)))):=by
 refine qeL m hm (by simp) fun i r1 r2 h1 h2=>?_
 rw[wq,h1]at h2
 injection h2 with h2;subst h2
 refine⟨by simp,fun w E j t t' v e1 e2 e3=>?_⟩
 rw[wq,e1]at e2
 injection e2 with e2;subst e2
 exact e3.exc
theorem qdo{P:Program}{s:DS}{Q:Exit->DS->Prop}{c:Code}(m:Nat){rows:Rows}(hm:s.bx m=some rows)(h:DW P c (s.setBx m (some (rows.map (List.map T.exc)))) Q):DW P c s Q:=dw_weaken (sub_exc m hm) h
theorem exc_c(c:C):(T.c c).exc= .c c:=rfl
theorem exc_ex(sz:Nat)(xs:List (List C)):(T.ex sz xs).exc= .c (.sl sz xs):=rfl
theorem exc_own(n sz:Nat)(xs:List (List C)):(T.own n sz xs).exc= .c (.sl sz xs):=rfl
theorem qdj{α:Type}{l:List α}{p:α->Bool}{k:Nat}{x:α}(hx:l[k]? =some x)(hi: ∀y∈l.take k,p y=false)(h:p x=true):l.find? p=some x:=by
 obtain⟨h1,h2⟩:=wd.1 hx
 rw[<-wS k l,List.find?_append,List.find?_eq_none.2 (fun y hy=>by simp[hi y hy]),wL h1,h2,List.find?_cons_of_pos h]
 rfl
theorem qdi{α:Type}{l:List α}{p:α->Bool}(hi: ∀y∈l,p y=false):l.find? p=none:=List.find?_eq_none.2 (fun y hy=>by simp[hi y hy])
theorem qv{α:Type}{l:List α}{q:α->Prop}{k:Nat}{x:α}(ht:l.take (k+1)=l.take k++ [x])(hi: ∀y∈l.take k,q y)(h:q x): ∀y∈l.take (k+1),q y:=fun y hy=>by
 rw[ht]at hy
 rcases wo.1 hy with hy|hy
 ·exact hi y hy
 ·rw[yd.1 hy];exact h
attribute [go_sem] exc_c exc_ex exc_own
end
end Go.Dl
namespace Go.Dl
attribute [go_sem] if_true if_false ite_true ite_false w4 Option.map_none yU Option.bind_none wt wn List.mapM_cons List.mapM_nil
attribute [go_sem] yT List.getElem?_cons_succ List.getElem?_nil wq List.take_succ_cons List.take_zero List.take_nil List.drop_succ_cons List.drop_zero List.drop_nil List.cons_append List.nil_append
attribute [go_sem] wM List.length_cons List.length_nil we List.zipWith_cons_cons List.replicate_succ List.replicate_zero List.set_cons_zero List.set_cons_succ List.foldr_cons List.foldr_nil and_true
attribute [go_sem] true_and and_false false_and and_self Bool.true_and Bool.and_true Bool.and_false Bool.false_and Bool.not_true Bool.not_false Bool.true_eq_false w8
attribute [go_sem] not_false_eq_true not_true_eq_false ne_eq beq_self_eq_true beq_true beq_false yd yl Int.toNat_natCast Int.natCast_zero Int.cast_ofNat_Int Int.natCast_nonneg
attribute [go_sem] Int.toNat_zero Int.zero_add wv true_or or_true false_or or_false exists_eq_left exists_eq_left' Option.some.injEq Prod.mk.injEq eq_self
attribute [go_sem] implies_true List.isEmpty_toArray List.isEmpty_nil List.isEmpty_cons yD Bool.or_false jC jH Nat.zero_add Nat.add_zero Nat.zero_mul Nat.mul_one
attribute [go_sem] yO decide_true decide_false List.toList_toArray
end Go.Dl
namespace Go.Dl
open Go.RowKit
noncomputable section
structure Keep(n:Nat)(K:KSet)(w w':World):Prop where
 size:w.heap.size<=w'.heap.size
 cells: ∀b o,K b o->w'.cell? ⟨b,o,none⟩=w.cell? ⟨b,o,none⟩
 others: ∀(b:Nat) ob,n<=b->w.heap[b]? =some ob->(∀arr e m,ob≠Obj.cells arr e m)->w'.heap[b]? =some ob
 z:GSz w->GSz w'
def Stab(n:Nat)(J:Option Nat->World->KSet->Prop):Prop:=
 ∀g A B (L L':KSet),J g A L->Hush n A B->(∀b o,L' b o->L b o\/(A.heap.size<=b/\(B.cell? ⟨b,o,none⟩).isSome=true))->J g B L'
def Iter(P:Program)(g:FuncId)(vs:Array Value)(xs:List (List D))(K:KSet)(w:World):Prop:=
 ∀(l:Nat) (J:Option Nat->World->KSet->Prop),l<w.heap.size->Stab w.heap.size J->
  (∀(k:Nat) ds W L (va:Array Value),xs[k]? =some ds->J (some k) W L->w.heap.size<=W.heap.size->va.size=ds.length->(∀(j:Nat) d v,ds[j]? =some d->va[j]? =some v->VD W (E0 L) d v)->
   YieldAt Fence.wide 0 P l va W fun e W'=>∃b,e= .returned (.bool b)/\J (if b then some (k+1)else none) W' L/\Keep w.heap.size L W W')->
  J (some 0) w K->CallsIn Fence.wide 0 P g (#[.func (.yield l) #[] #[]]++vs) w fun e W'=>(∃v,e= .returned v)/\∃L,J (some xs.length) W' L\/J none W' L
def SeqD(P:Program)(g:FuncId)(caps:List D)(xs:List (List D)):Prop:=
 Program.plainF P g=true/\∀(w:World) (K:KSet) (vs:Array Value),KOk w K->vs.size=caps.length->
  (∀(j:Nat) d v,caps[j]? =some d->vs[j]? =some v->VD w (E0 K) d v)->Iter P g vs xs K w
def qac:Ren:=⟨fun _=>none,fun _=>none⟩
theorem Zz(E E':Env)(h:E'.K=E.K):Renames qac E E':=⟨h,fun _ _ h=>(by cases h),fun _ _ h=>(by cases h)⟩
def DS.round0(s:DS)(ms:Nat->Bool)(ns:List Nat):DS:={ pl:=false,n:=s.n,sl:=fun t=>(s.sl t).tr (shfM ms ns),bx:=vQ ms s.bx ns }
def DS.puts(s:DS):List (Nat×D)->DS
 | []=>s
 | p::l=>(s.put (some p.1) p.2).puts l
def DS.round(s:DS)(ms:Nat->Bool)(ns:List Nat)(ps:List Nat)(ds:List D):DS:=(s.round0 ms ns).puts (ps.zip (ds.map (D.tr qac)))
theorem RelE.puts{X:Origin}{E:Env}{w:World}: ∀(l:List (Nat×Value×D)) (s:DS) (a:Act),RelE X s E a w->(∀p∈l,p.1<s.n/\VD w E p.2.2 p.2.1)->
  RelE X (s.puts (l.map fun p=>(p.1,p.2.2))) E { a with tmps:=(l.map fun p=>(p.1,p.2.1)).foldl (fun t p=>t.setIfInBounds p.1 p.2) a.tmps } w
 | [],s,a,h,_=>h
 | p::l,s,a,h,hl=>by
  obtain⟨h1,h2⟩:=hl p (by simp)
  have h3:=h.putOnly (dst:=some p.1) (fun d hd=>by injection hd with hd;subst hd;exact h1) h2
  have:=RelE.puts l _ _ h3 (fun q hq=>by rw[za];exact hl q (by simp[hq]))
  exact this
theorem qgq(w:World)(l:Nat)(o o':Obj):(w.putObj l o).putObj l o'=w.putObj l o':=by simp[World.putObj]
theorem Turn.loop{F:KSet}{w w':World}(h:Turn F w w'){b:Nat}{o:Obj}(ho:w.heap[b]? =some o)(hc: ∀arr e m,o≠Obj.cells arr e m):w'.heap[b]? =some o:=by
 have hlt:b<w.heap.size:=(wF.1 ho).1
 rcases h.block b hlt with g|⟨arr,e,arr',g1,_⟩
 ·exact g.trans ho
 ·rw[ho]at g1;injection g1 with g1;exact absurd g1 (hc _ _ _)
theorem WI.both{w0:World}{K F:KSet}{ρ:Nat->Nat}{B:Nat}{ro:Option Nat}{mk:Nat}{w:World}{E:Env}{bx:Mem}(h:WI ⟨w0,K,F,ρ,B,ro,mk⟩ w E bx){l:Nat}{o:Obj}(o':Obj)(ho:w0.heap[l]? =some o)(hc: ∀arr e m,o≠Obj.cells arr e m):
  WI ⟨w0.putObj l o',K,F,ρ,B,ro,mk⟩ (w.putObj l o') E bx:=by
 have ho2:=h.turn.loop ho hc
 have hlt:l<w0.heap.size:=(wF.1 ho).1
 have Zu:l<w.heap.size:=(wF.1 ho2).1
 have hush:Hush 0 w (w.putObj l o'):=Hush.putObj o' (ye _) ho2 hc
 have hl:=hush.later h.kok
 refine⟨⟨h.turn.os,h.turn.tape,h.turn.output,by simpa using h.turn.size,fun b hb=>?_⟩,h.sep,h.kin,fun b o hb=>?_,h.kok.wide hl.keep (fun b o hb=>?_) (h.kok.z.hush hush),fun n rows hn hne=>?_,h.boxne,fun n b o hs=>?_,h.disj,h.sbox,h.fix⟩
 ·by_cases hbl:b=l
  ·subst hbl
   exact .inl ((World.putObj_heap_same Zu).trans (World.putObj_heap_same hlt).symm)
  ·have hb':b<w0.heap.size:=by simpa using hb
   simp only[World.putObj_heap_other hbl]
   exact h.turn.block b hb'
 ·have hb':b<w0.heap.size:=by simpa using hb
  exact h.kold b o hb'
 ·rw[(hl.keep b o hb).2];exact h.kok b o hb
 ·obtain⟨h1,h2,h3⟩:=h.boxes n rows hn hne
  obtain⟨sz,arr,e,g,_⟩:=id h2
  refine⟨?_,h2.mono hl (hush.cells _ _ _ _ g),h3⟩
  rcases h1 with h1|h1
  ·exact .inl (by simpa using h1)
  ·exact .inr h1
 ·obtain⟨h1,h2,arr,e,h3,h4⟩:=h.free n b o hs
  refine⟨?_,h2,arr,e,(hush.cells _ _ _ _ h3).trans h3,h4⟩
  rcases h1 with h1|h1
  ·exact .inl (by simpa using h1)
  ·exact .inr h1
end
end Go.Dl
namespace Go.Dl
open Go.RowKit
noncomputable section
theorem WI.ro{X:Origin}{w:World}{E:Env}{bx:Mem}(h:WI X w E bx)(r:Option Nat)(m:Nat):WI { X with ro:=r,mrk:=m } w E bx:=
 ⟨h.turn,h.sep,h.kin,h.kold,h.kok,h.boxes,h.boxne,h.free,h.disj,h.sbox,h.fix⟩
def qd7(ms:Nat->Bool)(ns:List Nat)(s:DS)(N:DS->Prop)(Q:Exit->DS->Prop):Exit->DS->Prop
 | .normal,t=>N (s.aftCallM ms ns none (.tup []) t.bx)
 | .ret,t=>Q .ret (s.aftCallM ms ns none (.tup []) t.bx)
 | .exit id,t=>Q (.exit id) (s.aftCallM ms ns none (.tup []) t.bx)
 | .goto l,t=>Q (.goto l) (s.aftCallM ms ns none (.tup []) t.bx)
 | _,_=>False
theorem qpJ{ms:Nat->Bool}{X:Origin}{s:DS}{E E':Env}{a:Act}{w w':World}{H':Mem}{ns:List Nat}(h:RelE X s E a w)(h':WI ⟨w,E.K,zm ms s.bx E ns,(qF ms E ns).ρ,NB,none,w.heap.size⟩ w' E' H')(hc:CallOkM ms ns none):
  RelE X (s.aftCallM ms ns none (.tup []) H') (ve ms E E' ns none) a w':=
 ⟨qi1 h.wi h.small.2 h' hc,fun t=>((h.sl t).mono (ZF h.wi h')).tr (Q9 E E' ns none),h.size,h.defers.turn h'.turn,h.small,h.pl⟩
theorem qgZ(ps:Array Tmp)(vs:Array Value)(t:Array Value):
  (ps.zip vs).foldl (fun tmps (p:Tmp×Value)=>tmps.setIfInBounds p.1 p.2) t=(ps.toList.zip vs.toList).foldl (fun tmps p=>tmps.setIfInBounds p.1 p.2) t:=by
 rw[<-Array.foldl_toList,Array.toList_zip]
theorem zip3: ∀(ps:List Nat) (vs:List Value) (ds:List D),vs.length=ds.length->
  ((ps.zip (vs.zip ds)).map fun p=>(p.1,p.2.1))=ps.zip vs/\((ps.zip (vs.zip ds)).map fun p=>(p.1,p.2.2))=ps.zip ds
 | [],_,_,_=>⟨rfl,rfl⟩
 | _::_,[],[],_=>⟨rfl,rfl⟩
 | p::ps,v::vs,d::ds,h=>by
  obtain⟨h1,h2⟩:=zip3 ps vs ds (by simpa using h)
  simp[h1,h2]
def Origin.re(X:Origin)(w:World)(E:Env):Origin:=⟨w,E.K,fun b o=>X.Young b o/\¬E.K b o,E.ρ,X.B,X.ro,X.mrk⟩
theorem RelE.re{X:Origin}{s:DS}{E:Env}{a:Act}{w:World}(h:RelE X s E a w):RelE (X.re w E) s E a w:=by
 refine⟨⟨Turn.refl _ _,fun b o hk hf=>hf.2 hk,fun _ _ h=>h,fun _ _ _ _ h=>h,h.wi.kok,fun n rows hn hne=>?_,h.wi.boxne,fun n b o hs=>?_,h.wi.disj,h.wi.sbox,fun _ _=>rfl⟩,h.sl,h.size,⟨wD h.defers.1 h.wi.turn.size,h.defers.2⟩,h.small,h.pl⟩
 ·obtain⟨h1,h2,h3⟩:=h.wi.boxes n rows hn hne
  exact⟨.inr fun o=>⟨h1.imp id (fun g=>g o),h3 o⟩,h2,h3⟩
 ·obtain⟨h1,h2,h3⟩:=h.wi.free n b o hs
  exact⟨.inr ⟨h1,h2⟩,h2,h3⟩
theorem RelE.unre{X:Origin}{s0 s:DS}{E0 E:Env}{a0 a:Act}{w0 w:World}(h0:RelE X s0 E0 a0 w0)(h:RelE (X.re w0 E0) s E a w):RelE X s E a w:=by
 have hsz:=h0.wi.turn.size
 refine⟨⟨h0.wi.turn.trans h.wi.turn (fun i o hi hf=>hf.1.resolve_left (by omega)),h0.wi.sep,fun b o hb=>h.wi.kin b o (h0.wi.kin b o hb),fun b o hb hF hk=>?_,h.wi.kok,fun n rows hn hne=>?_,h.wi.boxne,fun n b o hs=>?_,h.wi.disj,h.wi.sbox,fun n hn=>(h.wi.fix n hn).trans (h0.wi.fix n hn)⟩,h.sl,h.size,⟨h0.defers.1,h.defers.2⟩,h.small,h.pl⟩
 ·refine h0.wi.kold b o hb hF (h.wi.kold b o (yA hb hsz) (fun hf=>?_) hk)
  rcases hf.1 with g|g
  ·omega
  ·exact hF g
 ·obtain⟨h1,h2,h3⟩:=h.wi.boxes n rows hn hne
  refine⟨?_,h2,h3⟩
  rcases h1 with h1|h1
  ·exact .inl (wD hsz h1)
  ·by_cases hb:X.w.heap.size<=E.ρ n
   ·exact .inl hb
   ·exact .inr fun o=>(h1 o).1.resolve_left hb
 ·obtain⟨h1,h2,h3⟩:=h.wi.free n b o hs
  refine⟨?_,h2,h3⟩
  rcases h1 with h1|h1
  ·exact .inl (wD hsz h1)
  ·exact h1.1
theorem RelE.sub{X:Origin}{s s':DS}{E:Env}{a:Act}{w:World}(h:RelE X s E a w)(hs:s.Sub s'): ∃E',RelE X s' E' a w/\∀b o,E.K b o->E'.K b o:=by
 obtain⟨E',h'⟩:=hs _ _ _ ⟨E,h.re⟩
 exact⟨E',h.unre h',h'.wi.kin⟩
section
variable {P : Program} {s : DS} {Q : Exit -> DS -> Prop}
theorem qg8{g:Operand}{ps:Array Tmp}{assign body:Code}{gf:FuncId}{caps:List T}{xs:List (List D)}{σ:Type}(ms:Nat->Bool)(ns:List Nat)(S:Nat->σ->DS)(Inv:Nat->σ->Prop)(st0:σ)(hi0:Inv 0 st0)(hpl:s.pl=true)
  (hg:(s.ev g).asFn=some (gf,caps)) (qlQ:SeqD P gf (caps.map fun t=>.one (.c t.cl)) xs) (h0:s.Sub (S 0 st0)) (hn: ∀k st,(S k st).n=s.n) (hN:s.n<=1000) (hps: ∀p∈ps.toList,p<s.n) (hxs: ∀ds∈xs,ds.length=ps.size)
  (hok:CallOkM ms ns none)
  (qdc: ∀k ds st,xs[k]? =some ds->Inv k st->DW P assign ((S k st).round ms ns ps.toList ds) (QM (fun s1=>DW P body s1 (qd7 ms ns (S k st) (fun s'=>∃st',Inv (k+1) st'/\s'.Sub (S (k+1) st')) Q)) (fun _ _=>False)))
  (qdd: ∀st,Inv xs.length st->Q .normal (S xs.length st)):DW P (.rangeFunc g ps assign body) s Q:=by
 rintro X a w ⟨E,hE⟩
 have hro:X.ro=none:=hE.pl hpl
 rw[hro]
 obtain⟨captured,hfv,hcs,hcv⟩:=qdE hg (hE.ev g)
 obtain⟨hmk,Ds,hnd,hds,hDs⟩:=hE.defers
 have hXw:X.w.heap.size<=w.heap.size:=hE.wi.turn.size
 have hNB:=qL
 refine wpIn_rangeFunc (F:=Fence.wide) ?_
 intro fn _
 obtain⟨rec,hrec⟩: ∃rec:LoopState->Option Code->Loop,rec=fun st pe=>{ state:=st,pending:=pe,fn,tmps:=a.tmps,params:=ps,assign,body,defers:=w.heap.size }:=⟨_,rfl⟩
 obtain⟨W1,hW1⟩: ∃W1,(w.alloc (.deferred (some []))).alloc (.loop (rec .ready none))=W1:=⟨_,rfl⟩
 have hsz1:W1.heap.size=w.heap.size+2:=by rw[<-hW1];simp
 have hL1:W1.heap[w.heap.size+1]? =some (.loop (rec .ready none)):=by
  rw[<-hW1];have:=World.alloc_heap_new (w.alloc (.deferred (some []))) (.loop (rec .ready none));rwa [World.size_alloc]at this
 have hK1:W1.heap[w.heap.size]? =some (.deferred (some [])):=by
  rw[<-hW1];exact(Below.heap_alloc _ _ _ (by simp)).trans (World.alloc_heap_new w _)
 have qfi:Hush w.heap.size w W1:=by rw[<-hW1];exact(Hush.alloc _ (wv _)).trans (Hush.alloc _ (by simp))
 have hDlt: ∀D∈Ds,D<w.heap.size:=fun D hD=>(wF.1 (hDs D hD).2).1
 have hDs1: ∀D∈w.heap.size::Ds,W1.heap[D]? =some (.deferred (some [])):=fun D hD=>by
  rcases ws.1 hD with rfl|hD
  ·exact hK1
  ·exact(qfi.old D (hDlt D hD)).trans (hDs D hD).2
 have hnd1:(w.heap.size::Ds).Nodup:=jp.2 ⟨fun h=>by have:=hDlt _ h;omega,hnd⟩
 have qgR: ∀D∈w.heap.size::Ds,D<w.heap.size+1:=fun D hD=>by
  rcases ws.1 hD with rfl|hD
  ·omega
  ·have:=hDlt D hD;omega
 have hDge1: ∀D∈w.heap.size::Ds,X.mrk<=D:=fun D hD=>by
  rcases ws.1 hD with rfl|hD
  ·exact wD hmk hXw
  ·exact(hDs D hD).1
 have hlat1:=qfi.later hE.wi.kok
 have hkok1:KOk W1 E.K:=hE.wi.kok.wide hlat1.keep (fun b o hb=>by rw[(hlat1.keep b o hb).2];exact hE.wi.kok b o hb) (hE.wi.kok.z.hush qfi)
 have hit:=qlQ.2 W1 E.K captured hkok1 (by simpa using hcs) (fun j d v h1 h2=>by
  rw[wq]at h1
  cases hc:caps[j]? with
  | none=>rw[hc]at h1;cases h1
  | some t=>rw[hc]at h1;injection h1 with h1;subst h1;exact .one _ _ (.c _ _ ((hcv j t v hc h2).cl.mono hlat1.keep)))
 refine⟨w.heap.size+1,[{ target:=.collected w.heap.size,args:= #[] }],W1,{ target:=.fn (.func gf) captured,args:= #[.func (.yield (w.heap.size+1)) #[] #[]] },W1,gf,
  #[.func (.yield (w.heap.size+1)) #[] #[]]++captured,W1,?_,?_,fun _ _=>trivial,?_,fun h=>(by cases h),?_⟩
 ·rw[<-hW1,hrec];exact run_enterLoop_outer _ _ _ _ _
 ·have h:=vg (P:=P) a.eval g #[.const (.func (.yield (w.heap.size+1)) #[] #[])] #[] 0 gf captured hfv W1
  simpa[Act.eval]using h
 ·exact zH qlQ.1 _ W1
 let Jk:Nat->World->KSet->Prop:=fun k W L=>∃st,Inv k st/\∃E',RelE X (S k st) E' { a with defers:= [] } W/\(∀b o,L b o->E'.K b o)/\(∀b o,E.K b o->E'.K b o/\W.cell? ⟨b,o,none⟩=W1.cell? ⟨b,o,none⟩)/\W.heap[w.heap.size+1]? =some (.loop (rec .ready none))/\
  ∀D∈w.heap.size::Ds,W.heap[D]? =some (.deferred (some []))
 let Jx:World->Prop:=fun W=>∃c E' s',RelE X s' E' { a with defers:= [] } W/\W.heap[w.heap.size+1]? =some (.loop (rec .done (some c)))/\(∀D∈w.heap.size::Ds,W.heap[D]? =some (.deferred (some [])))/\
  ∀a' W',Rel X s' a' W'->c.wpIn Fence.wide 0 P (fun e a w=>∃s'',Q e s''/\Rel X s'' a w) a' W'
 let J:Option Nat->World->KSet->Prop:=fun g W L=>match g with|some k=>Jk k W L|none=>Jx W
 have fin: ∀{s':DS} {E':Env} {W:World} (o:Loop),RelE X s' E' { a with defers:= [] } W->W.heap[w.heap.size+1]? =some (.loop o)->(∀D∈w.heap.size::Ds,W.heap[D]? =some (.deferred (some [])))->∀o':Loop,
   Rel X s' { a with defers:= [{ target:=.collected w.heap.size,args:= #[] }]++a.defers } (W.putObj (w.heap.size+1) (.loop o')):=fun o h1 h2 h3 o'=>by
  refine⟨_,h1.hush (Hush.putObj _ (by omega) h2 (by simp)) rfl ⟨hmk,w.heap.size::Ds,hnd1,by simp[hds],fun D hD=>⟨hDge1 D hD,?_⟩⟩⟩
  exact(World.putObj_heap_other (by have:=qgR D hD;omega)).trans (h3 D hD)
 have nil: ∀W,DefOK X [] W:=fun W=>DefOK.nil _ _ hmk
 refine(hit (w.heap.size+1) J (by omega) ?_ ?_ ?_).mono ?_
 ·rintro g A B L L' hJ hu hL
  cases g with
  | some k=>
   obtain⟨st,hi,E',h1,h0,h2,h3,h4⟩:=hJ
   have hw:Wider A B E' { E' with K:=fun b o=>E'.K b o\/(A.heap.size<=b/\(B.cell? ⟨b,o,none⟩).isSome=true) }:=⟨fun _ _ h=>.inl h,fun _ _ h=>h,rfl,rfl⟩
   have hl:=hu.later h1.wi.kok
   refine⟨st,hi,_,h1.hushW (hu.mono (by omega)) hw rfl (nil _),fun b o hb=>(hL b o hb).imp (h0 b o) id,fun b o hb=>⟨.inl (h2 b o hb).1,((hl.keep b o (h2 b o hb).1).2).trans (h2 b o hb).2⟩,(hu.old _ (by omega)).trans h3,fun D hD=>(hu.old D (by have:=qgR D hD;omega)).trans (h4 D hD)⟩
  | none=>
   obtain⟨c,E',s',h1,h3,h4,h5⟩:=hJ
   exact⟨c,E',s',h1.hush (hu.mono (by omega)) rfl (nil _),(hu.old _ (by omega)).trans h3,fun D hD=>(hu.old D (by have:=qgR D hD;omega)).trans (h4 D hD),h5⟩
 ·-- one round
  rintro k ds W L va hkx ⟨st,hik,E',h1,hL,h2,h3,h4⟩ _ v1 v2
  have hlen:ds.length=ps.size:=hxs _ (wl hkx)
  have hy:=run_yield (P:=P) (args:=va) h3 (by rw[hrec];exact v1.trans hlen)
  have hlW:w.heap.size+1<W.heap.size:=(wF.1 h3).1
  let Xr:Origin:=⟨W,E'.K,zm ms (S k st).bx E' ns,(qF ms E' ns).ρ,NB,some (w.heap.size+1),W.heap.size⟩
  have hwi:WI Xr W (qF ms E' ns) (vQ ms (S k st).bx ns):=(qfP h1.wi ns hok.hns).ro _ _
  have hbase:RelE Xr ((S k st).round0 ms ns) (qF ms E' ns) { tmps:=a.tmps,defers:= [] } W:=
   ⟨hwi,fun t=>(h1.sl t).tr (Q8 (ms:=ms) E' ns),h1.size,DefOK.nil _ _ (wv _),⟨by show(S k st).n<=NB;rw[hn];omega,wv _⟩,fun h=>(by cases h)⟩
  obtain⟨z1,z2⟩:=zip3 ps.toList va.toList (ds.map (D.tr qac)) (by simp[v1])
  have qgN:=RelE.puts (ps.toList.zip (va.toList.zip (ds.map (D.tr qac)))) _ _ hbase (fun p hp=>by
   obtain⟨i,hi⟩:=jw hp
   rw[jx,jx]at hi
   obtain⟨g1,g2,g3⟩:=hi
   refine⟨by show p.1<(S k st).n;rw[hn];exact hps _ (wl g1),?_⟩
   rw[wq]at g3
   cases hd:ds[i]? with
   | none=>rw[hd]at g3;cases g3
   | some d=>
    rw[hd]at g3;injection g3 with g3
    rw[<-g3]
    have hv:=v2 i d p.2.1 hd (by simpa using g2)
    have hla:Later W (E0 L) W { (E0 L)with K:=E'.K }:=⟨fun b o hb=>⟨hL b o hb,rfl⟩,rfl,rfl⟩
    exact VD.tr (Zz { (E0 L)with K:=E'.K } (qF ms E' ns) rfl) (hv.mono hla))
  rw[z1,z2]at qgN
  have htm:(((rec .ready none).params.zip va).foldl (fun tmps (p:Tmp×Value)=>tmps.setIfInBounds p.1 p.2) (rec .ready none).tmps)=(ps.toList.zip va.toList).foldl (fun t p=>t.setIfInBounds p.1 p.2) a.tmps:=by
   rw[hrec];exact qgZ _ _ _
  refine⟨_,_,_,_,hy,?_⟩
  have hass:=qdc k _ st hkx hik Xr _ W ⟨_,qgN⟩
  rw[show (rec .ready none).assign=assign by rw[hrec],show(rec .ready none).body=body by rw[hrec]]
  refine roundIn_of_wpIn trivial ?_
  rw[htm]
  refine wpIn_mono hass ?_
  rintro e a1 W2 ⟨s1,hs1,E1,hr1⟩
  cases e with
  | normal=>
   have hl2:=hr1.wi.turn.loop h3 (by simp)
   refine⟨_,run_beginRound hl2 (by rw[hrec]),?_⟩
   have hwb:=hr1.wi.both (.loop { rec .ready none with state:=.busy }) h3 (by simp)
   have hub:Hush 0 W2 (W2.putObj (w.heap.size+1) (.loop { rec .ready none with state:=.busy })):=Hush.putObj _ (ye _) hl2 (by simp)
   have hrb:RelE ⟨W.putObj (w.heap.size+1) (.loop { rec .ready none with state:=.busy }),E'.K,zm ms (S k st).bx E' ns,(qF ms E' ns).ρ,NB,some (w.heap.size+1),W.heap.size⟩ s1 E1 a1 (W2.putObj (w.heap.size+1) (.loop { rec .ready none with state:=.busy })):=by
    refine⟨hwb,fun t=>(hr1.sl t).mono (hub.later hr1.wi.kok),hr1.size,?_,hr1.small,hr1.pl⟩
    obtain⟨_,Ds2,q1,q2,q3⟩:=hr1.defers
    refine⟨by simp,Ds2,q1,q2,fun D hD=>?_⟩
    obtain⟨q4,q5⟩:=q3 D hD
    have q6:W.heap.size<=D:=q4
    exact⟨q6,(World.putObj_heap_other (by omega)).trans q5⟩
   refine wpIn_mono (hs1 _ _ _ ⟨E1,hrb⟩) ?_
   have hbl:(W.putObj (w.heap.size+1) (.loop { rec .ready none with state:=.busy })).heap[w.heap.size+1]? =some (.loop { rec .ready none with state:=.busy }):=World.putObj_heap_same hlW
   have after: ∀(jump:Option Code) {s4:DS} {E4:Env} {a4:Act} {W4:World},RelE ⟨W.putObj (w.heap.size+1) (.loop { rec .ready none with state:=.busy }),E'.K,zm ms (S k st).bx E' ns,(qF ms E' ns).ρ,NB,some (w.heap.size+1),W.heap.size⟩ s4 E4 a4 W4->
     ∃W5,(Instr.endRound (w.heap.size+1) jump).run P W4= .ok (.bool jump.isNone) W5/\RelE X ((S k st).aftCallM ms ns none (.tup []) s4.bx) (ve ms E' E4 ns none) { a with defers:= [] } W5/\
      W5.heap[w.heap.size+1]? =some (.loop (rec (if jump.isNone then .ready else .done) jump))/\(∀D∈w.heap.size::Ds,W5.heap[D]? =some (.deferred (some [])))/\
      (∀b o,E'.K b o->E4.K b o/\W5.cell? ⟨b,o,none⟩=W.cell? ⟨b,o,none⟩)/\Keep W1.heap.size L W W5:=by
    intro jump s4 E4 a4 W4 h5
    have hl4:=h5.wi.turn.loop hbl (by simp)
    have vi:=run_endRound (P:=P) jump hl4
    have hl4lt:w.heap.size+1<W4.heap.size:=(wF.1 hl4).1
    have he5:(.loop { ({ rec .ready none with state:=.busy }:Loop)with state:=if jump.isNone then .ready else .done,pending:=jump }:Obj)= .loop (rec (if jump.isNone then .ready else .done) jump):=by rw[hrec]
    rw[he5]at vi
    have hw5:=(h5.wi.both (.loop (rec (if jump.isNone then .ready else .done) jump)) hbl (by simp)).ro none (W.putObj (w.heap.size+1) (.loop (rec (if jump.isNone then .ready else .done) jump))).heap.size
    simp only[qgq]at hw5
    have hu1:Hush 0 W (W.putObj (w.heap.size+1) (.loop (rec (if jump.isNone then .ready else .done) jump))):=Hush.putObj _ (ye _) h3 (by simp)
    have hra:=qpJ (h1.hush (a':={ a with defers:= [] }) (Hush.putObj (.loop (rec (if jump.isNone then .ready else .done) jump)) (by omega) h3 (by simp)) rfl (nil _)) hw5 hok
    have hu4:Hush 0 W4 (W4.putObj (w.heap.size+1) (.loop (rec (if jump.isNone then .ready else .done) jump))):=Hush.putObj _ (ye _) hl4 (by simp)
    have QF: ∀b o,E'.K b o->E4.K b o/\(W4.putObj (w.heap.size+1) (.loop (rec (if jump.isNone then .ready else .done) jump))).cell? ⟨b,o,none⟩=W.cell? ⟨b,o,none⟩:=fun b o hb=>by
     have k4:=h5.wi.kin b o hb
     refine⟨k4,?_⟩
     rw[((hu4.later h5.wi.kok).keep b o k4).2]
     have hblt:=qy (h1.wi.kok b o hb)
     rw[h5.wi.turn.cell (by simpa using hblt) (h5.wi.sep b o hb)]
     have hub0:Hush 0 W (W.putObj (w.heap.size+1) (.loop { rec .ready none with state:=.busy })):=Hush.putObj _ (ye _) h3 (by simp)
     exact((hub0.later h1.wi.kok).keep b o hb).2
    refine⟨_,vi,hra,World.putObj_heap_same hl4lt,fun D hD=>?_,QF,?_,fun b o hb=>(QF b o (hL b o hb)).2,fun b ob hne hob hc=>?_,fun _=>hra.wi.kok.z⟩
    ·have hlt:=qgR D hD
     refine(World.putObj_heap_other (by omega)).trans (h5.wi.turn.loop ?_ (by simp))
     exact(World.putObj_heap_other (by omega)).trans (h4 D hD)
    ·have:=h5.wi.turn.size;simpa using this
    ·have hne:b≠w.heap.size+1:=by omega
     refine(World.putObj_heap_other hne).trans (h5.wi.turn.loop ?_ hc)
     exact(World.putObj_heap_other hne).trans hob
   have hcellJ: ∀{E4:Env} {W5:World},(∀b o,E'.K b o->E4.K b o/\W5.cell? ⟨b,o,none⟩=W.cell? ⟨b,o,none⟩)->∀b o,E.K b o->(ve ms E' E4 ns none).K b o/\W5.cell? ⟨b,o,none⟩=W1.cell? ⟨b,o,none⟩:=fun h b o hb=>
    ⟨(h b o (h2 b o hb).1).1,(h b o (h2 b o hb).1).2.trans (h2 b o hb).2⟩
   have stop: ∀(c:Code) {s4:DS} {E4:Env} {a4:Act} {W4:World},RelE ⟨W.putObj (w.heap.size+1) (.loop { rec .ready none with state:=.busy }),E'.K,zm ms (S k st).bx E' ns,(qF ms E' ns).ρ,NB,some (w.heap.size+1),W.heap.size⟩ s4 E4 a4 W4->
     (∀a' W',Rel X ((S k st).aftCallM ms ns none (.tup []) s4.bx) a' W'->c.wpIn Fence.wide 0 P (fun e a w=>∃s'',Q e s''/\Rel X s'' a w) a' W')->
     ∃v w',(Instr.endRound (w.heap.size+1) (some c)).run P W4= .ok v w'/\∃b,Ending.returned v= .returned (.bool b)/\J (if b then some (k+1)else none) w' L/\Keep W1.heap.size L W w':=fun c {s4 E4 a4 W4} h5 hc=>by
    obtain⟨W5,g1,g2,g3,g4,g5,g6⟩:=after (some c) h5
    exact⟨_,W5,g1,false,rfl,⟨c,_,_,g2,g3,g4,hc⟩,g6⟩
   rintro e a4 W4 ⟨s4,hq,E4,h5⟩
   cases e with
   | normal=>
    obtain⟨W5,g1,g2,g3,g4,g5,g6⟩:=after none h5
    refine⟨_,W5,g1,true,rfl,?_,g6⟩
    obtain⟨st',hi',hsub⟩:=hq
    obtain⟨E5,g7,g8⟩:=g2.sub hsub
    exact⟨st',hi',E5,g7,fun b o hb=>g8 b o (g5 b o (hL b o hb)).1,fun b o hb=>⟨g8 b o (hcellJ g5 b o hb).1,(hcellJ g5 b o hb).2⟩,g3,g4⟩
   | ret=>exact stop .ret h5 fun a' W' hr=>wpIn_ret ⟨_,hq,hr⟩
   | exit id=>exact stop (.exit id) h5 fun a' W' hr=>wpIn_exit ⟨_,hq,hr⟩
   | goto t=>exact stop (.goto t) h5 fun a' W' hr=>wpIn_goto ⟨_,hq,hr⟩
   | panic ch=>exact hq.elim
   | outgrown=>exact hq.elim
  | exit id=>exact hs1.elim
  | goto l=>exact hs1.elim
  | ret=>exact hs1.elim
  | panic ch=>exact hs1.elim
  | outgrown=>exact hs1.elim
 ·obtain⟨E',h1,h2⟩:=RelE.sub (a:={ a with defers:= [] }) ⟨hE.wi,hE.sl,hE.size,DefOK.nil _ _ hE.defers.1,hE.small,hE.pl⟩ h0
  exact⟨st0,hi0,E',h1.hush (qfi.mono (by omega)) rfl (nil _),h2,fun b o hb=>⟨h2 b o hb,rfl⟩,hL1,hDs1⟩
 ·rintro e W2 ⟨⟨v,rfl⟩,L,⟨st,hi,E',h1,_,h2,h3,h4⟩|⟨c,E',s',h1,h3,h4,h5⟩⟩
  ·exact⟨none,_,by have:=run_endLoop (P:=P) h3 (by rw[hrec];simp);rw[hrec]at this;exact this,S xs.length st,qdd st hi,fin _ h1 h3 h4 _⟩
  ·exact⟨some c,_,by have:=run_endLoop (P:=P) h3 (by rw[hrec];simp);rw[hrec]at this;exact this,h5 _ _ (fin _ h1 h3 h4 _)⟩
end
end
end Go.Dl
namespace Go.Dl
open Go.RowKit
noncomputable section
structure Flat(m n:Nat)(s:DS)(K:KSet)(a:Act)(w:World):Prop where
 kok:KOk w K
 sl: ∀t,VD w (E0 K) (s.sl t) (a.tmps.getD t undef)
 size:a.tmps.size=s.n
 small:s.n<=NB
 mrk:n<=w.heap.size
 mn:m<=n
 defers: ∃Ds:List Nat,Ds.Nodup/\a.defers=Ds.map (fun D=>{ target:=.collected D,args:= #[] })/\∀D∈Ds,m<=D/\w.heap[D]? =some (.deferred (some []))
def Ext(w:World)(K:KSet)(w':World)(K':KSet):Prop:=∀b o,K b o->K' b o/\w'.cell? ⟨b,o,none⟩=w.cell? ⟨b,o,none⟩
theorem Ext.refl(w:World)(K:KSet):Ext w K w K:=fun _ _ h=>⟨h,rfl⟩
theorem Ext.trans{a b c:World}{K L M:KSet}(h:Ext a K b L)(k:Ext b L c M):Ext a K c M:=fun x o hx=>⟨(k x o (h x o hx).1).1,(k x o (h x o hx).1).2.trans (h x o hx).2⟩
theorem Ext.later{a b:World}{K L:KSet}(h:Ext a K b L):Later a (E0 K) b (E0 L):=⟨h,rfl,rfl⟩
def DS.flat(s:DS):DS:={ n:=s.n,sl:=fun t=>(s.sl t).tr qac,bx:=qc,pl:=false }
def DS.bare(s:DS):DS:={ n:=s.n,sl:=s.sl,bx:=qc,pl:=false }
def IW(P:Program)(m n:Nat)(J:Option Nat->World->KSet->Prop)(ro:Option Nat)(c:Code)(s:DS)(g:Option Nat)(Q:Exit->DS->Option Nat->Prop):Prop:=
 ∀K a w,Flat m n s K a w->J g w K->c.wpIn (rd ro) 0 P (fun e a' w'=>∃s' g' K',Q e s' g'/\Flat m n s' K' a' w'/\J g' w' K'/\Ext w K w' K') a w
def qkj(next:DS->Option Nat->Prop)(Q:Exit->DS->Option Nat->Prop):Exit->DS->Option Nat->Prop
 | .normal,s,g=>next s g
 | e,s,g=>Q e s g
def Zf(id:Nat)(Q:Exit->DS->Option Nat->Prop):Exit->DS->Option Nat->Prop
 | .exit id',s,g=>if id'=id then Q .normal s g else Q (.exit id') s g
 | e,s,g=>Q e s g
section
variable {P : Program} {m n : Nat} {J : Option Nat -> World -> KSet -> Prop} {s : DS} {g ro : Option Nat} {Q : Exit -> DS -> Option Nat -> Prop}
theorem ZG(h:Q .normal s g):IW P m n J ro .skip s g Q:=fun K _ w hf hj=>wpIn_skip ⟨s,g,K,h,hf,hj,Ext.refl _ _⟩
theorem qij{id:Nat}(h:Q (.exit id) s g):IW P m n J ro (.exit id) s g Q:=fun K _ w hf hj=>wpIn_exit ⟨s,g,K,h,hf,hj,Ext.refl _ _⟩
theorem qjH(h:Q .ret s g):IW P m n J ro .ret s g Q:=fun K _ w hf hj=>wpIn_ret ⟨s,g,K,h,hf,hj,Ext.refl _ _⟩
theorem zf{x y:Code}(h:IW P m n J ro x s g (qkj (fun s' g'=>IW P m n J ro y s' g' Q) Q)):IW P m n J ro (.seq x y) s g Q:=by
 intro K a w hf hj
 refine wpIn_seq (wpIn_mono (h K a w hf hj) ?_)
 rintro e a' w' ⟨s',g',K',h1,h2,h3,h4⟩
 cases e with
 | normal=>exact wpIn_mono (h1 K' a' w' h2 h3) fun _ _ _ ⟨s2,g2,K2,q1,q2,q3,q4⟩=>⟨s2,g2,K2,q1,q2,q3,h4.trans q4⟩
 | _=>exact⟨s',g',K',h1,h2,h3,h4⟩
theorem Qt{id:Nat}{c:Code}(h:IW P m n J ro c s g (Zf id Q)):IW P m n J ro (.block id c) s g Q:=by
 intro K a w hf hj
 refine wpIn_block (wpIn_mono (h K a w hf hj) ?_)
 rintro e a' w' ⟨s',g',K',h1,h2⟩
 cases e with
 | exit id'=>
  simp only[Exit.inBlock,Zf]at h1 ⊢
  split
  ·rename_i he;rw[if_pos he]at h1;exact⟨s',g',K',h1,h2⟩
  ·rename_i he;rw[if_neg he]at h1;exact⟨s',g',K',h1,h2⟩
 | _=>exact⟨s',g',K',h1,h2⟩
theorem Flat.rel{K:KSet}{a:Act}{w:World}(h:Flat m n s K a w)(ro:Option Nat):RelE ⟨w,K,fun _ _=>False,(E0 K).ρ,NB,ro,m⟩ s.bare (E0 K) a w:=
 ⟨(qhG w K h.kok).ro ro m,h.sl,h.size,⟨wD h.mn h.mrk,h.defers⟩,⟨h.small,wv _⟩,fun h=>(by cases h)⟩
theorem Flat.ev{K:KSet}{a:Act}{w:World}(h:Flat m n s K a w)(x:Operand):VD w (E0 K) (s.ev x) (a.eval x):=(h.rel none).ev x
theorem zx{c:Operand}{x y:Code}{t:Bool}(hc:s.ev c= .one (.c (.lit (.bool t))))(ht:t=true->IW P m n J ro x s g Q)(hf:t=false->IW P m n J ro y s g Q):IW P m n J ro (.cond c x y) s g Q:=by
 intro K a w hfl hj
 have hv:=hfl.ev c
 rw[hc]at hv
 exact wpIn_cond_split hv.lit (fun h=>ht h K a w hfl hj) (fun h=>hf h K a w hfl hj)
theorem Qa{K:KSet}{a:Act}{w:World}(hf:Flat m n s K a w)(hJ:Stab n J)(hj:J g w K){ro:Option Nat}{s':DS}{a':Act}{w':World}(h:Rel ⟨w,K,fun _ _=>False,(E0 K).ρ,NB,ro,m⟩ s' a' w'):
  ∃K',Flat m n s'.flat K' a' w'/\J g w' K'/\Ext w K w' K':=by
 obtain⟨E',h⟩:=h
 have hb:=h.wi.turn.below
 refine⟨E'.K,⟨h.wi.kok,fun t=>VD.tr (Zz E' (E0 E'.K) rfl) (h.sl t),h.size,h.small.1,wD hf.mrk hb.size,hf.mn,h.defers.2⟩,?_,fun b o hk=>?_⟩
 ·refine hJ g w w' K E'.K hj ⟨hb.os,hb.tape,hb.output,hb.size,fun b hlt=>hb.block b (yA hlt hf.mrk),fun b arr e m hc=>hb.block b (wF.1 hc).1⟩ fun b o hk=>?_
  rcases yg b w.heap.size with hlt|hge
  ·exact .inl (h.wi.kold b o hlt id hk)
  ·exact .inr ⟨hge,h.wi.kok b o hk⟩
 ·have hk':=h.wi.kin b o hk
  exact⟨hk',hb.cell (p:=⟨b,o,none⟩) (qy (hf.kok b o hk))⟩
theorem iw_pure{c:Code}{Q':Exit->DS->Prop}(hJ:Stab n J)(h:DW P c s.bare Q')(hq: ∀e s',Q' e s'->Q e s'.flat g):IW P m n J ro c s g Q:=by
 intro K a w hf hj
 refine wpIn_mono (h _ a w ⟨_,hf.rel ro⟩) ?_
 rintro e a' w' ⟨s',h1,h2⟩
 obtain⟨K',h3,h4,h5⟩:=Qa hf hJ hj h2
 exact⟨_,g,K',hq _ _ h1,h3,h4,h5⟩
theorem zD{c:Code}(hJ:Stab n J)(h:DW P c s.bare (fun e s'=>Q e s'.flat g)):IW P m n J ro c s g Q:=iw_pure hJ h fun _ _ h=>h
def DS.FSub(s s':DS):Prop:=s.n=s'.n/\∀t,s'.sl t= .any\/DLe (s.sl t) (s'.sl t)
theorem Zg{s:DS}{N:Nat}{sls:List (Nat×D)}(hn:s.n=N)(h1:AllS s sls):s.FSub (kn N sls qc):=⟨hn,AllS.get h1⟩
theorem Flat.sub{s':DS}{K:KSet}{a:Act}{w:World}(h:Flat m n s K a w)(hs:s.FSub s'):Flat m n s' K a w:=
 ⟨h.kok,fun t=>by
  rcases hs.2 t with e|e
  ·rw[e];exact .any _
  ·exact e w (E0 K) _ (h.sl t),h.size.trans hs.1,hs.1▸h.small,h.mrk,h.mn,h.defers⟩
theorem qnL{c:Code}{s':DS}(hs:s.FSub s')(h:IW P m n J ro c s' g Q):IW P m n J ro c s g Q:=fun K a w hf hj=>h K a w (hf.sub hs) hj
theorem qii{α:Type}{c:Code}(S:α->DS)(G:α->Option Nat)(Inv:α->Prop)(μ:α->Nat)(x0:α)(h0:s.FSub (S x0))(hg:g=G x0)(hi:Inv x0)
  (round: ∀x,Inv x->IW P m n J ro c (S x) (G x) (qkj (fun s' g'=>∃x',Inv x'/\μ x'<μ x/\s'.FSub (S x')/\g'=G x') Q)):IW P m n J ro (.loop c) s g Q:=by
 intro K a w hf hj b k cs hro hb zJ
 have key: ∀q x,μ x=q->Inv x->∀K a w,Flat m n (S x) K a w->J (G x) w K->
   ∃e a' w',(∃s' g' K',Q e s' g'/\Flat m n s' K' a' w'/\J g' w' K'/\Ext w K w' K')/\ArrivesIn (Machine.fenced P (rd ro)) P (lone (b.atR a (.code c:: .inLoop c::k)) cs w) b k cs e a' w':=by
  intro q
  induction q using Nat.strongRecOn with
  | _ q ih=>
   intro x hm hI K a w hf hj
   obtain⟨e,a₁,w₁,⟨s₁,g₁,K₁,hq,hf₁,hj₁,he₁⟩,qbh⟩:=round x hI K a w hf hj b (.inLoop c::k) cs hro hb zJ
   cases e with
   | normal=>
    obtain⟨x',hI₁,hlt,hsub,rfl⟩:=hq
    obtain⟨e₂,a₂,w₂,⟨s₂,g₂,K₂,q1,q2,q3,q4⟩,harr₂⟩:=ih (μ x') (hm▸hlt) x' rfl hI₁ K₁ a₁ w₁ (hf₁.sub hsub) hj₁
    exact⟨e₂,a₂,w₂,⟨s₂,g₂,K₂,q1,q2,q3,he₁.trans q4⟩,.of_steps (StepsIn.trans qbh (.one (fenced_calm hb zJ rfl) stepR_inLoop)) harr₂⟩
   | exit id=>exact⟨_,a₁,w₁,⟨s₁,g₁,K₁,hq,hf₁,hj₁,he₁⟩,.pass (x:=.inLoop c) rfl (fun _ _=>.inl (by simp)) qbh⟩
   | goto l=>exact⟨_,a₁,w₁,⟨s₁,g₁,K₁,hq,hf₁,hj₁,he₁⟩,.pass (x:=.inLoop c) rfl (fun _ _=>.inl (by simp)) qbh⟩
   | ret=>exact⟨_,a₁,w₁,⟨s₁,g₁,K₁,hq,hf₁,hj₁,he₁⟩,.pass (x:=.inLoop c) rfl (fun _ _=>.inl (by simp)) qbh⟩
   | panic ch=>exact⟨_,a₁,w₁,⟨s₁,g₁,K₁,hq,hf₁,hj₁,he₁⟩,.pass (x:=.inLoop c) rfl (fun _ _=>.inl (by simp)) qbh⟩
   | outgrown=>exact⟨_,a₁,w₁,⟨s₁,g₁,K₁,hq,hf₁,hj₁,he₁⟩,.pass (x:=.inLoop c) rfl (fun _ _=>.inl (by simp)) qbh⟩
 obtain⟨e,a',w',hq,qbh⟩:=key _ x0 rfl hi K a w (hf.sub h0) (hg▸hj)
 exact⟨e,a',w',hq,.of_steps (.one (fenced_calm hb zJ rfl) stepR_loop) qbh⟩
def Q3(P:Program)(m n:Nat)(J:Option Nat->World->KSet->Prop)(l:Nat)(xs:List (List D)):Prop:=
 l<m/\∀(k:Nat) ds W L (va:Array Value),xs[k]? =some ds->J (some k) W L->n<=W.heap.size->va.size=ds.length->(∀(j:Nat) d v,ds[j]? =some d->va[j]? =some v->VD W (E0 L) d v)->
   YieldAt Fence.wide 0 P l va W fun e W'=>∃b,e= .returned (.bool b)/\J (if b then some (k+1)else none) W' L/\Keep m L W W'
def qrg(P:Program)(ops:List Oper)(l:Nat)(xs:List (List D))(o:Oper)(s:DS)(g:Option Nat)(K:DS->Option Nat->Prop):Prop:=
 ∃t,vR ops s.bare o=some t/\(t=false->K (s.put o.dst (.tup [])) g)/\
  (t=true->∃f args tys k ds,o.op= .call { callee:=.value f,args:=args,argTypes:=tys }/\s.ev f= .one (.c (.lit (.func (.yield l) #[] #[])))/\g=some k/\xs[k]? =some ds/\DLeL (args.toList.map s.ev) ds/\
   ∀b:Bool,K (s.put o.dst (.one (.c (.lit (.bool b))))) (if b then some (k+1)else none))
theorem Flat.put{K:KSet}{a:Act}{w w':World}(h:Flat m n s K a w)(hl: ∀b o,K b o->w'.cell? ⟨b,o,none⟩=w.cell? ⟨b,o,none⟩)(hsz:w.heap.size<=w'.heap.size)(hz:GSz w')
  (hD: ∀D:Nat,m<=D->w.heap[D]? =some (.deferred (some []))->w'.heap[D]? =some (.deferred (some []))) {dst:Option Nat} (hd: ∀d,dst=some d->d<s.n) {d:D} {v:Value} (hv:VD w' (E0 K) d v):Flat m n (s.put dst d) K (a.put dst v) w':=by
 have hla:Later w (E0 K) w' (E0 K):=⟨fun b o hb=>⟨hb,hl b o hb⟩,rfl,rfl⟩
 refine⟨h.kok.move hl hz,fun t=>?_,?_,by rw[za];exact h.small,wD h.mrk hsz,h.mn,?_⟩
 ·rw[qjP a dst v t (fun d he=>by rw[h.size];exact hd d he)]
  cases dst with
  | none=>simpa[DS.put]using (h.sl t).mono hla
  | some d'=>
   by_cases he:t=d'
   ·subst he;simpa[DS.put]using hv
   ·have: ¬(some d'=some t):=by simpa using fun e=>he e.symm
    simp only[DS.put,if_neg he,if_neg this]
    exact(h.sl t).mono hla
 ·rw[show (a.put dst v).tmps.size=a.tmps.size from by cases dst<;>simp[Act.put],h.size,za]
 ·obtain⟨Ds,h1,h2,h3⟩:=h.defers
  exact⟨Ds,h1,by rw[show (a.put dst v).defers=a.defers from by cases dst<;>rfl];exact h2,fun D hDs=>⟨(h3 D hDs).1,hD D (h3 D hDs).1 (h3 D hDs).2⟩⟩
theorem qkr{ro:Option Nat}{l:Nat}{f:FuncId}{tmps:Array Value}{assign body:Code}{w:World}{R:Ending->World->Prop}(h:RoundIn Fence.wide 0 P l f tmps assign body w R):RoundIn (rd ro) (0 - 1) P l f tmps assign body w R:=by
 cases ro with
 | none=>exact h
 | some l=>exact h
theorem Q6{Q':Exit->Act->World->Prop}{ops r:List Oper}{X:Origin}{N:Nat}{K:DS->Prop}(hK: ∀s a w,s.n=N->K s->Rel X s a w->wpListIn (rd X.ro) 0 P ops.toArray Q' r a w): ∀(l:List Oper) (s:DS) (a:Act) (w:World),dstB l N=true->s.n=N->Rel X s a w->
  qbY P ops l s K->wpListIn (rd X.ro) 0 P ops.toArray Q' (l++r) a w
 | [],s,a,w,_,hn,hr,h=>hK s a w hn h hr
 | o::l,s,a,w,hb,hn,hr,h=>by
  obtain⟨h0,h1,h2⟩:=QY hb
  refine wpListIn_step fun K' hK'=>?_
  simp only[qbY,vj]at h
  split at h
  ·rename_i t ht
   rw[v6 ht hr]
   split at h
   ·rename_i h3
    rw[if_pos h3]
    refine zo h0 (Oper.wp_mono ?_ (h (fun d hd=>by rw[hn];exact h1 d hd) X a w hr Q'))
    rintro a' w' ⟨s',⟨hn',hs'⟩,hr'⟩
    exact hK' _ _ (Q6 hK l s' a' w' h2 (hn'.trans hn) hr' hs')
   ·rename_i h3
    rw[if_neg h3]
    refine⟨fun f _=>qhV X.ro f,?_⟩
    exact hK' _ _ (Q6 hK l _ _ w h2 (by rw[za];exact hn) (qcR hr (fun d hd=>by rw[hn];exact h1 d hd)) h)
  ·exact h.elim
theorem Qx{l l':List Oper}{N:Nat}(h:dstB l N=true)(hs: ∀x∈l',x∈l):dstB l' N=true:=
 w5.2 fun x hx=>w5.1 h x (hs x hx)
theorem qoT{l:Nat}{xs:List (List D)}(hY:Q3 P m n J l xs){ops r:List Oper}{o:Oper}{N:Nat}{ro:Option Nat}{Kp:DS->Option Nat->Prop}{Q':Exit->Act->World->Prop}{K0:KSet}{w0:World}
  (hK: ∀s g K a w,s.n=N->Kp s g->Flat m n s K a w->J g w K->Ext w0 K0 w K->wpListIn (rd ro) 0 P ops.toArray Q' r a w) {K:KSet} {a:Act} {w:World} (hb:dstB [o] N=true) (hn:s.n=N) (hf:Flat m n s K a w) (hj:J g w K) (he:Ext w0 K0 w K)
  (h:qrg P ops l xs o s g Kp):wpListIn (rd ro) 0 P ops.toArray Q' (o::r) a w:=by
 obtain⟨h0,h1,_⟩:=QY hb
 have hd: ∀d,o.dst=some d->d<s.n:=fun d hd=>by rw[hn];exact h1 d hd
 refine wpListIn_step fun K' hK'=>?_
 obtain⟨t,ht,hfa,htr⟩:=h
 have qaQ:=hf.rel ro
 rw[v6 ht ⟨_,qaQ⟩]
 cases t with
 | false=>
  simp only[w8,if_false]
  refine⟨fun f _=>qhV ro f,hK' _ _ (hK _ g K _ w (by rw[za];exact hn) (hfa rfl) (hf.put (fun _ _ _=>rfl) (wv _) hf.kok.z (fun _ _ h=>h) hd ?_) hj he)⟩
  exact .tup [] #[] rfl (fun j d v h1 _=>by simp at h1)
 | true=>
  simp only[if_true]
  obtain⟨f,args,tys,k,ds,ho,hfv,rfl,hx,hle,hb2⟩:=htr rfl
  have hv:=hf.ev f
  rw[hfv]at hv
  have hfe:a.eval f= .func (.yield l) #[] #[]:=hv.lit
  obtain⟨hlen,qby⟩:=hle.get
  obtain⟨fn,tmps,assign,body,hy,hR⟩:=hY.2 k ds w K (args.map a.eval) hx hj hf.mrk (by rw[<-hlen];simp) (fun j d v g1 g2=>by
   obtain⟨d0,g3,g4⟩:=qby j d g1
   refine g4 w _ v ?_
   rw[wq]at g3
   rw[Array.getElem?_map]at g2
   cases hc:args[j]? with
   | none=>rw[hc]at g2;cases g2
   | some x=>
    rw[Array.getElem?_toList]at g3
    rw[hc]at g2 g3
    injection g2 with g2;injection g3 with g3
    rw[<-g2,<-g3];exact hf.ev x)
  have vi:(execOp a.eval o).run P w= .ok (.round l fn tmps assign body) w:=by
   unfold execOp
   simp only[ho,Sem.run_bind]
   have qbg:(resolve a.eval { callee:=.value f,args:=args,argTypes:=tys } o.type).run P w= .ok { target:=.fn (.yield l) #[],args:=args.map a.eval } w:=by simp[resolve,hfe,Deferred.ofValue]
   rw[qbg]
   simp only[Result.andThen_ok,invoke]
   exact hy
  refine⟨fun f _=>qhV ro f,?_⟩
  rw[qjn,Oper.semAt_eq ro _ o h0,vi,Oper.uponIn_round]
  refine⟨fun e=>(by rw[qeU]at e;cases e),(qkr hR).mono ?_⟩
  rintro e W' ⟨b,rfl,q1,q2⟩
  have hln:=hY.1
  exact hK' _ _ (hK _ _ K _ W' (by rw[za];exact hn) (hb2 b) (hf.put q2.cells q2.size (q2.z hf.kok.z) (fun D hD hh=>q2.others D _ hD hh (by simp)) hd (.one _ _ (.c _ _ (.lit _ rfl)))) q1
   (he.trans fun b o hb=>⟨hb,q2.cells b o hb⟩))
theorem qaO(hJ:Stab n J){l:Nat}{xs:List (List D)}(hY:Q3 P m n J l xs){id:Nat}{ops:List Oper}(i:Nat){o:Oper}(ho:ops[i]? =some o)(hb:dstB ops s.n=true)
  (h:wk P (ops.map (·.dst)) (tagS (ops.take i)) s.bare fun s1=>qrg P ops l xs o s1.flat g fun s2 g2=>wk P (ops.map (·.dst)) (tagS (ops.drop (i+1))) s2.bare fun s3=>Q .normal s3.flat g2):IW P m n J ro (.region id ops.toArray false) s g Q:=by
 intro K a w hf hj
 have hi:i<ops.length:=(wd.1 ho).1
 have hsp:ops=ops.take i++(o::ops.drop (i+1)):=by
  have:o=ops[i]:=by rw[wc hi]at ho;injection ho with ho;exact ho.symm
  rw[this,<-wL hi,wS]
 have hol:o∈ops:=wl ho
 refine wpIn_region_lit ?_
 conv=>arg 6;rw[hsp]
 refine Q6 (X:=⟨w,K,fun _ _=>False,(E0 K).ρ,NB,ro,m⟩) (N:=s.n) (fun s1 a1 w1 hn1 hs1 hr1=>?_) (ops.take i) s.bare a w (Qx hb fun x hx=>List.mem_of_mem_take hx) rfl ⟨_,hf.rel ro⟩ (zS _ _ h)
 obtain⟨K1,q1,q2,q3⟩:=Qa hf hJ hj hr1
 refine qoT (s:=s1.flat) (N:=s.n) (w0:=w) (K0:=K) hY (fun s2 g2 K2 a2 w2 hn2 hs2 hf2 hj2 he2=>?_) (Qx hb fun x hx=>by simp at hx;exact hx▸hol) hn1 q1 q2 q3 hs1
 have:=Q6 (X:=⟨w2,K2,fun _ _=>False,(E0 K2).ρ,NB,ro,m⟩) (N:=s.n) (r:= []) (Q':=fun e a' w'=>∃s' g' K',Q e s' g'/\Flat m n s' K' a' w'/\J g' w' K'/\Ext w K w' K') (fun s3 a3 w3 _ hs3 hr3=>?_) (ops.drop (i+1)) s2.bare a2 w2 (Qx hb fun x hx=>List.mem_of_mem_drop hx) hn2 ⟨_,hf2.rel ro⟩ (zS _ _ hs2)
 ·rw[wM]at this;exact this
 ·obtain⟨K3,p1,p2,p3⟩:=Qa hf2 hJ hj2 hr3
  exact wpListIn_nil ⟨_,g2,K3,hs3,p1,p2,he2.trans p3⟩
def qlb(N:Nat):Exit->DS->Option Nat->Prop
 | .normal,_,g| .ret,_,g=>g=some N\/g=none
 | _,_,_=>False
theorem ZM{f:FuncId}{fn:Func}{c:Code}{caps:List D}{xs:List (List D)}(hp:Program.plainF P f=true)(hf:P.funcs[f]? =some fn)(hb:fn.body=some c)(qbg:fn.results.toList= [])(hn:caps.length+1<=fn.ntmps)(hN:fn.ntmps<=NB)
  (h: ∀(n l:Nat) (J:Option Nat->World->KSet->Prop),Stab n J->Q3 P n n J l xs->IW P n n J none c (Zd fn.ntmps (.one (.c (.lit (.func (.yield l) #[] #[])))::caps) qc) (some 0) (qlb xs.length)):SeqD P f caps xs:=by
 refine⟨hp,fun w K vs hk hl hv l J hlw hJ hY h0=>?_⟩
 refine callsIn_of_wp_marks hf hb trivial ?_
 have hflat:Flat w.heap.size w.heap.size (Zd fn.ntmps (.one (.c (.lit (.func (.yield l) #[] #[])))::caps) qc) K { tmps:=(#[Value.func (.yield l) #[] #[]]++vs)++Array.replicate (fn.ntmps - (#[Value.func (.yield l) #[] #[]]++vs).size) undef,defers:= [] } w:=by
  refine⟨hk,fun t=>?_,?_,hN,wv _,wv _,⟨[],.nil,rfl,fun _ h=>by cases h⟩⟩
  ·simp only[Zd]
   cases t with
   | zero=>
    have h3:((#[Value.func (.yield l) #[] #[]]++vs)++Array.replicate (fn.ntmps - (#[Value.func (.yield l) #[] #[]]++vs).size) undef).getD 0 undef= .func (.yield l) #[] #[]:=by
     simp[jq]
    rw[h3]
    exact .one _ _ (.c _ _ (.lit _ rfl))
   | succ t=>
    by_cases ht:t<caps.length
    ·have h1:caps[t]? =some (caps.getD t .any):=by simp[List.getD,ht]
     have h2:vs[t]? =some (vs[t]'(by omega)):=wY (by omega)
     have h3:((#[Value.func (.yield l) #[] #[]]++vs)++Array.replicate (fn.ntmps - (#[Value.func (.yield l) #[] #[]]++vs).size) undef).getD (t+1) undef=vs[t]'(by omega):=by
      have:t<vs.size:=by omega
      simp[jq,this]
     rw[h3]
     simpa using hv t _ _ h1 h2
    ·have:(D.one (.c (.lit (.func (.yield l) #[] #[])))::caps).getD (t+1) .any= .any:=by simp[List.getD,List.getElem?_eq_none (Nat.le_of_not_lt ht)]
     rw[this];exact .any _
  ·simp[Zd];omega
 refine wpIn_mono (h w.heap.size l J hJ ⟨hlw,hY⟩ K _ w hflat h0) ?_
 rintro e a' w' ⟨s',g',K',hq,hf',hj',_⟩
 have key: ∀(Ds:List Nat) (w':World),Ds.Nodup->J g' w' K'->(∀D∈Ds,w.heap.size<=D/\w'.heap[D]? =some (.deferred (some [])))->(g'=some xs.length\/g'=none)->
   LeavesInM Fence.wide 0 P fn a'.tmps (fun e W'=>(∃v,e= .returned v)/\∃L,J (some xs.length) W' L\/J none W' L) (Ds.map (fun D=>{ target:=.collected D,args:= #[] })) .returning w':=by
  intro Ds
  induction Ds with
  | nil=>
   intro w' _ hj _ hg
   refine⟨.tuple #[],?_,⟨_,rfl⟩,K',?_⟩
   ·rw[qd9]
    have:fn.results= #[]:=by rw[<-Array.toList_eq_nil_iff];exact qbg
    rw[this];simp
   ·rcases hg with rfl|rfl
    ·exact .inl hj
    ·exact .inr hj
  | cons D Ds ih=>
   intro w' hnd hj hD hg
   obtain⟨h1,h2⟩:=jp.1 hnd
   obtain⟨h3,h4⟩:=hD D (by simp)
   refine⟨by simp,.inl ⟨D,_,rfl,run_takeDeferred h4,ih _ h2 (hJ _ _ _ K' K' hj (Hush.putObj _ h3 h4 (by simp)) fun _ _ h=>.inl h) (fun D' hD'=>?_) hg⟩⟩
   obtain⟨g1,g2⟩:=hD D' (by simp[hD'])
   exact⟨g1,(World.putObj_heap_other (show D'≠D from fun e=>h1 (by rw[<-e];exact hD'))).trans g2⟩
 obtain⟨Ds,hnd,hds,hD⟩:=hf'.defers
 have qlg:qlb xs.length e s' g'->e= .normal\/e= .ret->LeavesInM Fence.wide 0 P fn a'.tmps (fun e W'=>(∃v,e= .returned v)/\∃L,J (some xs.length) W' L\/J none W' L) a'.defers .returning w':=fun hq he=>by
  rw[hds]
  refine key Ds w' hnd hj' hD ?_
  rcases he with rfl|rfl<;>exact hq
 cases e with
 | normal=>exact qlg hq (.inl rfl)
 | ret=>exact qlg hq (.inr rfl)
 | _=>exact hq.elim
@[go_sem] theorem qrk{next:DS->Option Nat->Prop}{s:DS}{g:Option Nat}:qkj next Q .normal s g=next s g:=rfl
@[go_sem] theorem thenI_ret{next:DS->Option Nat->Prop}{s:DS}{g:Option Nat}:qkj next Q .ret s g=Q .ret s g:=rfl
@[go_sem] theorem thenI_exit{next:DS->Option Nat->Prop}{s:DS}{g:Option Nat}{i:Nat}:qkj next Q (.exit i) s g=Q (.exit i) s g:=rfl
@[go_sem] theorem qnT{s:DS}{g:Option Nat}{i:Nat}:Zf i Q .normal s g=Q .normal s g:=rfl
@[go_sem] theorem qry{s:DS}{g:Option Nat}{i:Nat}:Zf i Q .ret s g=Q .ret s g:=rfl
@[go_sem] theorem qqt{s:DS}{g:Option Nat}{i j:Nat}:Zf i Q (.exit j) s g=if j=i then Q .normal s g else Q (.exit j) s g:=rfl
attribute [go_sem] DS.flat DS.bare qac
end
end
end Go.Dl
namespace Go.Dl
open Go.RowKit
noncomputable section
def qjj(s:DS)(G:Nat->Option Nat)(k:Nat)(Q:Exit->DS->Option Nat->Prop):Exit->DS->Option Nat->Prop
 | .normal,_,g=>g=G (k+1)
 | .ret,_,g=>Q .ret s g
 | .exit id,_,g=>Q (.exit id) s g
 | .goto l,_,g=>Q (.goto l) s g
 | _,_,_=>False
def DS.rnd(s:DS)(ps:List Nat)(ds:List D):DS:=s.puts (ps.zip (ds.map (D.tr qac)))
section
variable {P : Program} {m n : Nat} {J : Option Nat -> World -> KSet -> Prop} {s : DS} {Q : Exit -> DS -> Option Nat -> Prop}
theorem Flat.puts{K:KSet}{w:World}: ∀(l:List (Nat×Value×D)) (s:DS) (a:Act),Flat m n s K a w->(∀p∈l,p.1<s.n/\VD w (E0 K) p.2.2 p.2.1)->
  Flat m n (s.puts (l.map fun p=>(p.1,p.2.2))) K { a with tmps:=(l.map fun p=>(p.1,p.2.1)).foldl (fun t p=>t.setIfInBounds p.1 p.2) a.tmps } w
 | [],s,a,h,_=>h
 | p::l,s,a,h,hl=>by
  obtain⟨h1,h2⟩:=hl p (by simp)
  have h3:=h.put (dst:=some p.1) (fun _ _ _=>rfl) (wv _) h.kok.z (fun _ _ h=>h) (fun d hd=>by injection hd with hd;subst hd;exact h1) h2
  exact Flat.puts l _ _ h3 (fun q hq=>by rw[za];exact hl q (by simp[hq]))
theorem Flat.move{K K':KSet}{a a':Act}{w w':World}{m' n':Nat}(h:Flat m n s K a w)(he:Ext w K w' K')(hk:KOk w' K')(ht:a'.tmps=a.tmps)(hn:n'<=w'.heap.size)(hmn:m'<=n')
  (hd: ∃Ds:List Nat,Ds.Nodup/\a'.defers=Ds.map (fun D=>{ target:=.collected D,args:= #[] })/\∀D∈Ds,m'<=D/\w'.heap[D]? =some (.deferred (some []))):Flat m' n' s K' a' w':=
 ⟨hk,fun t=>by rw[ht];exact(h.sl t).mono he.later,by rw[ht];exact h.size,h.small,hn,hmn,hd⟩
theorem Hush.ext{q:Nat}{w w':World}(c:Hush q w w'){K K':KSet}(hk:KOk w K)(hK: ∀b o,K b o->K' b o):Ext w K w' K':=fun b o hb=>by
 obtain⟨arr,e,m,h⟩:=qa4 (hk b o hb)
 exact⟨hK b o hb,World.cell?_of_block (w:=w) (a:=⟨b,o,none⟩) (c.cells b arr e m h)⟩
def zO(J:Option Nat->World->KSet->Prop)(R:Nat->Obj->Prop):Option Nat->World->KSet->Prop:=fun g W L=>J g W L/\∀b o,R b o->W.heap[b]? =some o
theorem qcz(hJ:Stab n J){n':Nat}(hn:n<=n'){R:Nat->Obj->Prop}(hR: ∀b o,R b o->b<n'):Stab n' (zO J R):=fun g A B L L' h hu hL=>
 ⟨hJ g A B L L' h.1 (hu.mono hn) hL,fun b o hp=>(hu.old b (hR b o hp)).trans (h.2 b o hp)⟩
theorem qhC{l:Nat}{xs:List (List D)}(hY:Q3 P m n J l xs){m' n':Nat}(hm:m<=m')(hn:n<=n'){R:Nat->Obj->Prop}(hR: ∀b o,R b o->m<=b/\∀arr e m,o≠Obj.cells arr e m):Q3 P m' n' (zO J R) l xs:=by
 refine⟨yA hY.1 hm,fun k ds W L va h1 h2 h3 h4 h5=>?_⟩
 obtain⟨fn,tmps,assign,body,hy,hr⟩:=hY.2 k ds W L va h1 h2.1 (wD hn h3) h4 h5
 refine⟨fn,tmps,assign,body,hy,hr.mono ?_⟩
 rintro e W' ⟨b,rfl,q1,q2⟩
 exact⟨b,rfl,⟨q1,fun p o hp=>q2.others p o (hR p o hp).1 (h2.2 p o hp) (hR p o hp).2⟩,q2.size,q2.cells,fun c ob hc=>q2.others c ob (wD hm hc),q2.z⟩
theorem qgE{g:Operand}{ps:Array Tmp}{assign body:Code}{gf:FuncId}{caps:List T}{ys:List (List D)}(hJ:Stab n J){lo:Nat}{xs:List (List D)}(hY:Q3 P m n J lo xs)(G:Nat->Option Nat) 
  (hg:(s.ev g).asFn=some (gf,caps)) (qlQ:SeqD P gf (caps.map fun t=>.one (.c t.cl)) ys) (hps: ∀p∈ps.toList,p<s.n) (hxs: ∀ds∈ys,ds.length=ps.size)
  (qdc: ∀k ds,ys[k]? =some ds->∀r n1 J1,Stab n1 J1->Q3 P n1 n1 J1 lo xs->IW P n1 n1 J1 (some r) assign (s.rnd ps.toList ds) (G k) (qkj (fun s1 g1=>∀n2 J2,Stab n2 J2->Q3 P n2 n2 J2 lo xs->IW P n2 n2 J2 (some r) body s1 g1 (qjj s G k Q)) (fun _ _ _=>False)))
  (qdd:Q .normal s (G ys.length)):IW P m n J none (.rangeFunc g ps assign body) s (G 0) Q:=by
 intro K a w hf hj
 obtain⟨captured,hfv,hcs,hcv⟩:=qdE hg (hf.ev g)
 obtain⟨Ds,hnd,hds,hDs⟩:=hf.defers
 have hnw:=hf.mrk
 refine wpIn_rangeFunc (F:=Fence.wide) ?_
 intro fn _
 obtain⟨rec,hrec⟩: ∃rec:LoopState->Option Code->Loop,rec=fun st pe=>{ state:=st,pending:=pe,fn,tmps:=a.tmps,params:=ps,assign,body,defers:=w.heap.size }:=⟨_,rfl⟩
 obtain⟨W1,hW1⟩: ∃W1,(w.alloc (.deferred (some []))).alloc (.loop (rec .ready none))=W1:=⟨_,rfl⟩
 have hsz1:W1.heap.size=w.heap.size+2:=by rw[<-hW1];simp
 have hL1:W1.heap[w.heap.size+1]? =some (.loop (rec .ready none)):=by
  rw[<-hW1];have:=World.alloc_heap_new (w.alloc (.deferred (some []))) (.loop (rec .ready none));rwa [World.size_alloc]at this
 have hK1:W1.heap[w.heap.size]? =some (.deferred (some [])):=by
  rw[<-hW1];exact(Below.heap_alloc _ _ _ (by simp)).trans (World.alloc_heap_new w _)
 have qfi:Hush w.heap.size w W1:=by rw[<-hW1];exact(Hush.alloc _ (wv _)).trans (Hush.alloc _ (by simp))
 have hDlt: ∀D∈Ds,D<w.heap.size:=fun D hD=>(wF.1 (hDs D hD).2).1
 have hDs1: ∀D∈w.heap.size::Ds,W1.heap[D]? =some (.deferred (some [])):=fun D hD=>by
  rcases ws.1 hD with rfl|hD
  ·exact hK1
  ·exact(qfi.old D (hDlt D hD)).trans (hDs D hD).2
 have hnd1:(w.heap.size::Ds).Nodup:=jp.2 ⟨fun h=>by have:=hDlt _ h;omega,hnd⟩
 have qgR: ∀D∈w.heap.size::Ds,D<w.heap.size+1:=fun D hD=>by
  rcases ws.1 hD with rfl|hD
  ·omega
  ·have:=hDlt D hD;omega
 have hDge1: ∀D∈w.heap.size::Ds,m<=D:=fun D hD=>by
  rcases ws.1 hD with rfl|hD
  ·exact wD hf.mn hnw
  ·exact(hDs D hD).1
 have hext1:Ext w K W1 K:=qfi.ext hf.kok (fun _ _ h=>h)
 have hkok1:KOk W1 K:=hf.kok.wide hext1 (fun b o hb=>by rw[(hext1 b o hb).2];exact hf.kok b o hb) (hf.kok.z.hush qfi)
 have hlo:lo<m:=hY.1
 have hmn:=hf.mn
 have hit:=qlQ.2 W1 K captured hkok1 (by simpa using hcs) (fun j d v h1 h2=>by
  rw[wq]at h1
  cases hc:caps[j]? with
  | none=>rw[hc]at h1;cases h1
  | some t=>rw[hc]at h1;injection h1 with h1;subst h1;exact .one _ _ (.c _ _ ((hcv j t v hc h2).cl.mono hext1)))
 refine⟨w.heap.size+1,[{ target:=.collected w.heap.size,args:= #[] }],W1,{ target:=.fn (.func gf) captured,args:= #[.func (.yield (w.heap.size+1)) #[] #[]] },W1,gf,
  #[.func (.yield (w.heap.size+1)) #[] #[]]++captured,W1,?_,?_,fun _ _=>trivial,?_,fun h=>(by cases h),?_⟩
 ·rw[<-hW1,hrec];exact run_enterLoop_outer _ _ _ _ _
 ·have h:=vg (P:=P) a.eval g #[.const (.func (.yield (w.heap.size+1)) #[] #[])] #[] 0 gf captured hfv W1
  simpa[Act.eval]using h
 ·exact zH qlQ.1 _ W1
 -- the marks and the record, as blocks beside the caller's world
 let mk:Obj->Nat->Obj->Prop:=fun o b ob=>(b=w.heap.size+1/\ob=o)\/(b∈w.heap.size::Ds/\ob= .deferred (some []))
 have mkOk: ∀(o:Obj),(∀arr e m,o≠Obj.cells arr e m)->∀b ob,mk o b ob->b<W1.heap.size/\m<=b/\∀arr e m,ob≠Obj.cells arr e m:=fun o ho b ob hp=>by
  rcases hp with⟨rfl,rfl⟩|⟨hD,rfl⟩
  ·exact⟨by omega,by omega,ho⟩
  ·have h1:=qgR b hD;have h2:=hDge1 b hD
   exact⟨by omega,h2,by simp⟩
 let a0:Act:={ a with defers:= [] }
 have nilD: ∀(q:Nat) (W:World),∃Ds:List Nat,Ds.Nodup/\([]:List Deferred)=Ds.map (fun D=>{ target:=.collected D,args:= #[] })/\∀D∈Ds,q<=D/\W.heap[D]? =some (.deferred (some [])):=fun q W=>⟨[],.nil,rfl,fun _ h=>by cases h⟩
 let Jk:Nat->World->KSet->Prop:=fun k W L=>∃K',Flat m n s K' a0 W/\(∀b o,L b o->K' b o)/\Ext W1 K W K'/\zO J (mk (.loop (rec .ready none))) (G k) W K'/\W1.heap.size<=W.heap.size
 let Jx:World->Prop:=fun W=>∃c g' K',Flat m n s K' a0 W/\Ext W1 K W K'/\zO J (mk (.loop (rec .done (some c)))) g' W K'/\
  ∀a' W' K',Flat m n s K' a' W'->J g' W' K'->c.wpIn Fence.wide 0 P (fun e a w=>∃s' g' K2,Q e s' g'/\Flat m n s' K2 a w/\J g' w K2/\Ext W' K' w K2) a' W'
 let J':Option Nat->World->KSet->Prop:=fun g W L=>match g with|some k=>Jk k W L|none=>Jx W
 refine(hit (w.heap.size+1) J' (by omega) ?_ ?_ ?_).mono ?_
 ·rintro g A B L L' hJ' hu hL
  cases g with
  | some k=>
   obtain⟨K',h1,h0,h2,h3,h4⟩:=hJ'
   refine⟨fun b o=>K' b o\/(A.heap.size<=b/\(B.cell? ⟨b,o,none⟩).isSome=true),?_,fun b o hb=>(hL b o hb).imp (h0 b o) id,h2.trans (hu.ext h1.kok fun _ _ h=>.inl h),?_,wD h4 hu.size⟩
   ·refine h1.move (hu.ext h1.kok fun _ _ h=>.inl h) (h1.kok.wide (hu.ext h1.kok fun _ _ h=>.inl h) (fun b o hb=>?_) (h1.kok.z.hush hu)) rfl (wD h1.mrk hu.size) h1.mn (nilD _ _)
    rcases hb with hb|hb
    ·rw[((hu.ext h1.kok fun _ _ h=>h) b o hb).2];exact h1.kok b o hb
    ·exact hb.2
   ·exact qcz hJ (by omega) (fun b ob hp=>(mkOk _ (by simp) b ob hp).1) _ A B K' _ h3 hu fun b o hb=>hb
  | none=>
   obtain⟨c,g',K',h1,h2,h3,h5⟩:=hJ'
   refine⟨c,g',K',h1.move (hu.ext h1.kok fun _ _ h=>h) (h1.kok.wide (hu.ext h1.kok fun _ _ h=>h) (fun b o hb=>?_) (h1.kok.z.hush hu)) rfl (wD h1.mrk hu.size) h1.mn (nilD _ _),h2.trans (hu.ext h1.kok fun _ _ h=>h),qcz hJ (by omega) (fun b ob hp=>(mkOk _ (by simp) b ob hp).1) _ A B K' K' h3 hu fun b o hb=>.inl hb,h5⟩
   rw[((hu.ext h1.kok fun _ _ h=>h) b o hb).2];exact h1.kok b o hb
 ·-- one round
  rintro k ds W L va hkx ⟨K',h1,hL,h2,h3,h4⟩ _ v1 v2
  have hl:W.heap[w.heap.size+1]? =some (.loop (rec .ready none)):=h3.2 _ _ (.inl ⟨rfl,rfl⟩)
  have hlen:ds.length=ps.size:=hxs _ (wl hkx)
  have hy:=run_yield (P:=P) (args:=va) hl (by rw[hrec];exact v1.trans hlen)
  have hlW:w.heap.size+1<W.heap.size:=(wF.1 hl).1
  let rk:Obj->Nat->Obj->Prop:=fun o b ob=>(b=w.heap.size+1/\ob=o)\/(b≠w.heap.size+1/\m<=b/\W.heap[b]? =some ob/\∀arr e m,ob≠Obj.cells arr e m)
  have rkOk: ∀(o:Loop) b ob,rk (.loop o) b ob->b<W.heap.size/\m<=b/\∀arr e m,ob≠Obj.cells arr e m:=fun o b ob hp=>by
   rcases hp with⟨rfl,rfl⟩|⟨_,hb,hob,hc⟩
   ·exact⟨hlW,by omega,by simp⟩
   ·exact⟨(wF.1 hob).1,hb,hc⟩
  have hst: ∀o:Loop,Stab W.heap.size (zO J (rk (.loop o))):=fun o=>qcz hJ (by omega) fun b ob hp=>(rkOk o b ob hp).1
  have hys: ∀o:Loop,Q3 P W.heap.size W.heap.size (zO J (rk (.loop o))) lo xs:=fun o=>qhC hY (by omega) (by omega) fun b ob hp=>(rkOk o b ob hp).2
  have h3r:zO J (rk (.loop (rec .ready none))) (G k) W K':=⟨h3.1,fun b ob hp=>by
   rcases hp with⟨rfl,rfl⟩|⟨_,_,hob,_⟩
   ·exact hl
   ·exact hob⟩
  obtain⟨z1,z2⟩:=zip3 ps.toList va.toList (ds.map (D.tr qac)) (by simp[v1])
  have qgN:=Flat.puts (ps.toList.zip (va.toList.zip (ds.map (D.tr qac)))) s { tmps:=a.tmps,defers:= [] } (h1.move (m':=W.heap.size) (n':=W.heap.size) (Ext.refl _ _) h1.kok rfl (wv _) (wv _) (nilD _ _)) (fun p hp=>by
   obtain⟨i,hi⟩:=jw hp
   rw[jx,jx]at hi
   obtain⟨g1,g2,g3⟩:=hi
   refine⟨hps _ (wl g1),?_⟩
   rw[wq]at g3
   cases hd:ds[i]? with
   | none=>rw[hd]at g3;cases g3
   | some d=>
    rw[hd]at g3;injection g3 with g3
    rw[<-g3]
    have hla:Later W (E0 L) W (E0 K'):=⟨fun b o hb=>⟨hL b o hb,rfl⟩,rfl,rfl⟩
    exact VD.tr (Zz (E0 K') (E0 K') rfl) ((v2 i d p.2.1 hd (by simpa using g2)).mono hla))
  rw[z1,z2]at qgN
  have htm:(((rec .ready none).params.zip va).foldl (fun tmps (p:Tmp×Value)=>tmps.setIfInBounds p.1 p.2) (rec .ready none).tmps)=(ps.toList.zip va.toList).foldl (fun t p=>t.setIfInBounds p.1 p.2) a.tmps:=by
   rw[hrec];exact qgZ _ _ _
  refine⟨_,_,_,_,hy,?_⟩
  have hass:=qdc k ds hkx (w.heap.size+1) _ _ (hst _) (hys _) K' _ W qgN h3r
  rw[show (rec .ready none).assign=assign by rw[hrec],show(rec .ready none).body=body by rw[hrec]]
  refine roundIn_of_wpIn trivial ?_
  rw[htm]
  have put: ∀{W0:World} {o:Loop} (o':Loop) {g0:Option Nat} {K0:KSet},zO J (rk (.loop o)) g0 W0 K0->(KOk W0 K0)->
    zO J (rk (.loop o')) g0 (W0.putObj (w.heap.size+1) (.loop o')) K0/\Ext W0 K0 (W0.putObj (w.heap.size+1) (.loop o')) K0/\∀D,D≠w.heap.size+1->(W0.putObj (w.heap.size+1) (.loop o')).heap[D]? =W0.heap[D]? :=fun {W0 o} o' {g0 K0} hw hk=>by
   have hlo:=hw.2 _ _ (.inl ⟨rfl,rfl⟩)
   have hu:Hush n W0 (W0.putObj (w.heap.size+1) (.loop o')):=Hush.putObj _ (by omega) hlo (by simp)
   refine⟨⟨hJ _ _ _ _ K0 hw.1 hu fun b o h=>.inl h,fun b ob hp=>?_⟩,hu.ext hk fun _ _ h=>h,fun D hD=>World.putObj_heap_other hD⟩
   rcases hp with⟨rfl,rfl⟩|⟨hb,hr⟩
   ·exact World.putObj_heap_same (wF.1 hlo).1
   ·exact(World.putObj_heap_other hb).trans (hw.2 b ob (.inr ⟨hb,hr⟩))
  refine wpIn_mono hass ?_
  rintro e a1 W2 ⟨s1,g1,K1,hs1,f1,j1,e1⟩
  cases e with
  | normal=>
   have hl2:=j1.2 _ _ (.inl ⟨rfl,rfl⟩)
   refine⟨_,run_beginRound hl2 (by rw[hrec]),?_⟩
   obtain⟨p1,p2,p3⟩:=put { rec .ready none with state:=.busy } j1 f1.kok
   have f2:Flat W.heap.size W.heap.size s1 K1 a1 (W2.putObj (w.heap.size+1) (.loop { rec .ready none with state:=.busy })):=by
    refine f1.move p2 (f1.kok.wide p2 (fun b o hb=>by rw[(p2 b o hb).2];exact f1.kok b o hb) (f1.kok.z.hush (Hush.putObj (n:=0) _ (ye _) hl2 (by simp)))) rfl (by simpa using f1.mrk) (wv _) ?_
    obtain⟨Ds2,q1,q2,q3⟩:=f1.defers
    exact⟨Ds2,q1,q2,fun D hD=>⟨(q3 D hD).1,(p3 D (by have:=(q3 D hD).1;omega)).trans (q3 D hD).2⟩⟩
   refine wpIn_mono (hs1 _ _ (hst _) (hys _) K1 a1 _ f2 p1) ?_
   have after: ∀(jump:Option Code) {s4:DS} {g4:Option Nat} {K4:KSet} {a4:Act} {W4:World},Flat W.heap.size W.heap.size s4 K4 a4 W4->zO J (rk (.loop { rec .ready none with state:=.busy })) g4 W4 K4->Ext (W2.putObj (w.heap.size+1) (.loop { rec .ready none with state:=.busy })) K1 W4 K4->
     ∃W5,(Instr.endRound (w.heap.size+1) jump).run P W4= .ok (.bool jump.isNone) W5/\Flat m n s K4 a0 W5/\zO J (mk (.loop (rec (if jump.isNone then .ready else .done) jump))) g4 W5 K4/\Ext W K' W5 K4/\Keep W1.heap.size L W W5:=by
    intro jump s4 g4 K4 a4 W4 f4 j4 e4
    have hl4:=j4.2 _ _ (.inl ⟨rfl,rfl⟩)
    have vi:=run_endRound (P:=P) jump hl4
    have he5:(.loop { ({ rec .ready none with state:=.busy }:Loop)with state:=if jump.isNone then .ready else .done,pending:=jump }:Obj)= .loop (rec (if jump.isNone then .ready else .done) jump):=by rw[hrec]
    rw[he5]at vi
    obtain⟨q1,q2,q3⟩:=put (rec (if jump.isNone then .ready else .done) jump) j4 f4.kok
    have qlS:Ext W K' (W4.putObj (w.heap.size+1) (.loop (rec (if jump.isNone then .ready else .done) jump))) K4:=e1.trans (p2.trans (e4.trans q2))
    have hsz:W.heap.size<=(W4.putObj (w.heap.size+1) (.loop (rec (if jump.isNone then .ready else .done) jump))).heap.size:=by simpa using f4.mrk
    refine⟨_,vi,h1.move qlS (f4.kok.wide q2 (fun b o hb=>by rw[(q2 b o hb).2];exact f4.kok b o hb) (f4.kok.z.hush (Hush.putObj (n:=0) _ (ye _) hl4 (by simp)))) rfl (wD h1.mrk hsz) h1.mn (nilD _ _),⟨q1.1,fun b ob hp=>?_⟩,qlS,hsz,fun b o hb=>(qlS b o (hL b o hb)).2,fun b ob hb hob hc=>?_,fun _=>f4.kok.z.hush (Hush.putObj (n:=0) _ (ye _) hl4 (by simp))⟩
    ·rcases hp with⟨rfl,rfl⟩|⟨hD,rfl⟩
     ·exact q1.2 _ _ (.inl ⟨rfl,rfl⟩)
     ·have hlt:=qgR b hD
      exact q1.2 _ _ (.inr ⟨by omega,hDge1 b hD,h3.2 _ _ (.inr ⟨hD,rfl⟩),by simp⟩)
    ·exact q1.2 _ _ (.inr ⟨by omega,by omega,hob,hc⟩)
   rintro e a4 W4 ⟨s4,g4,K4,hq,f4,j4,e4⟩
   have stop: ∀(c:Code),(∀a' W' K',Flat m n s K' a' W'->J g4 W' K'->c.wpIn Fence.wide 0 P (fun e a w=>∃s' g' K2,Q e s' g'/\Flat m n s' K2 a w/\J g' w K2/\Ext W' K' w K2) a' W')->
     ∃v w',(Instr.endRound (w.heap.size+1) (some c)).run P W4= .ok v w'/\∃b,Ending.returned v= .returned (.bool b)/\J' (if b then some (k+1)else none) w' L/\Keep W1.heap.size L W w':=fun c hc=>by
    obtain⟨W5,g1,g2,g3,g4',g5⟩:=after (some c) f4 j4 e4
    exact⟨_,W5,g1,false,rfl,⟨c,_,K4,g2,h2.trans g4',g3,hc⟩,g5⟩
   cases e with
   | normal=>
    obtain⟨W5,g1,g2,g3,g4',g5⟩:=after none f4 j4 e4
    have hq':g4=G (k+1):=hq
    subst hq'
    exact⟨_,W5,g1,true,rfl,⟨K4,g2,fun b o hb=>(g4' b o (hL b o hb)).1,h2.trans g4',g3,wD h4 g5.size⟩,g5⟩
   | ret=>exact stop .ret fun a' W' K2 q1 q2=>wpIn_ret ⟨s,g4,K2,hq,q1,q2,Ext.refl _ _⟩
   | exit id=>exact stop (.exit id) fun a' W' K2 q1 q2=>wpIn_exit ⟨s,g4,K2,hq,q1,q2,Ext.refl _ _⟩
   | goto t=>exact stop (.goto t) fun a' W' K2 q1 q2=>wpIn_goto ⟨s,g4,K2,hq,q1,q2,Ext.refl _ _⟩
   | panic ch=>exact hq.elim
   | outgrown=>exact hq.elim
  | _=>exact hs1.elim
 ·refine⟨K,hf.move hext1 hkok1 rfl (by omega) hf.mn (nilD _ _),fun _ _ h=>h,Ext.refl _ _,⟨hJ _ w W1 K K hj (qfi.mono hnw) fun b o h=>.inl h,fun b ob hp=>?_⟩,wv _⟩
  rcases hp with⟨rfl,rfl⟩|⟨hD,rfl⟩
  ·exact hL1
  ·exact hDs1 b hD
 ·have fin: ∀{o:Loop} {g':Option Nat} {K':KSet} {W:World} (o':Loop),Flat m n s K' a0 W->zO J (mk (.loop o)) g' W K'->Ext W1 K W K'->
    Flat m n s K' { a with defers:= [{ target:=.collected w.heap.size,args:= #[] }]++a.defers } (W.putObj (w.heap.size+1) (.loop o'))/\J g' (W.putObj (w.heap.size+1) (.loop o')) K'/\Ext w K (W.putObj (w.heap.size+1) (.loop o')) K':=fun {o g' K' W} o' h1 h3 h2=>by
   have hlo:=h3.2 _ _ (.inl ⟨rfl,rfl⟩)
   have hu:Hush n W (W.putObj (w.heap.size+1) (.loop o')):=Hush.putObj _ (by omega) hlo (by simp)
   have he:=hu.ext h1.kok fun _ _ h=>h
   refine⟨h1.move he (h1.kok.wide he (fun b o hb=>by rw[(he b o hb).2];exact h1.kok b o hb) (h1.kok.z.hush hu)) rfl (wD h1.mrk hu.size) h1.mn ⟨w.heap.size::Ds,hnd1,by simp[hds],fun D hD=>⟨hDge1 D hD,?_⟩⟩,hJ _ _ _ _ K' h3.1 hu fun b o h=>.inl h,hext1.trans (h2.trans he)⟩
   exact(World.putObj_heap_other (by have:=qgR D hD;omega)).trans (h3.2 _ _ (.inr ⟨hD,rfl⟩))
  rintro e W2 ⟨⟨v,rfl⟩,L,⟨K',h1,_,h2,h3,h4⟩|⟨c,g',K',h1,h2,h3,h5⟩⟩
  ·have hl:=h3.2 _ _ (.inl ⟨rfl,rfl⟩)
   refine⟨none,_,by have:=run_endLoop (P:=P) hl (by rw[hrec];simp);rw[hrec]at this;exact this,?_⟩
   obtain⟨q1,q2,q3⟩:=fin _ h1 h3 h2
   exact⟨s,_,K',qdd,q1,q2,q3⟩
  ·have hl:=h3.2 _ _ (.inl ⟨rfl,rfl⟩)
   refine⟨some c,_,by have:=run_endLoop (P:=P) hl (by rw[hrec];simp);rw[hrec]at this;exact this,?_⟩
   obtain⟨q1,q2,q3⟩:=fin _ h1 h3 h2
   exact wpIn_mono (h5 _ _ K' q1 q2) fun _ _ _ ⟨s2,g2,K2,r1,r2,r3,r4⟩=>⟨s2,g2,K2,r1,r2,r3,q3.trans r4⟩
end
end
end Go.Dl
namespace Go.Dl
open Go.RowKit
noncomputable section
theorem sub_frz{s:DS}(n sz:Nat)(cs:List (List C))(js:Rows)(vo:0<sz)(hn:s.bx n=some (cs.map (List.map T.c)++js))(hz: ∀r∈cs,r.length=sz):s.Sub (s.frz n sz cs):=
 fun _ _ _ ⟨_,hE⟩=>hE.frz vo hn hz
theorem qb8{s:DS}(n:Nat)(cs:List C)(vo:0<cs.length)(hn:s.bx n=some [cs.map T.c]):s.Sub (s.frz n cs.length [cs]):=
 sub_frz n cs.length [cs] [] vo (by simpa using hn) (by simp)
theorem qav{P:Program}{c:Code}{s:DS}{Q:Exit->DS->Prop}(n:Nat)(cs:List C)(vo:0<cs.length)(hn:s.bx n=some [cs.map T.c])(h:DW P c (s.frz n cs.length [cs]) Q):DW P c s Q:=
 dw_weaken (qb8 n cs vo hn) h
theorem frz_sl(s:DS)(n sz:Nat)(cs:List (List C))(t:Nat):(s.frz n sz cs).sl t=(s.sl t).frz n sz cs:=rfl
theorem frz_bx(s:DS)(n sz:Nat)(cs:List (List C))(k:Nat):(s.frz n sz cs).bx k=if k=n then none else(s.bx k).map (List.map (T.frzAll n sz cs)):=rfl
section
variable {P : Program} {m n : Nat} {J : Option Nat -> World -> KSet -> Prop} {s : DS} {g ro : Option Nat} {Q : Exit -> DS -> Option Nat -> Prop}
theorem qjI{c:Code}(hJ:Stab n J)(h:DW P c s.bare (fun e s'=>∃s2,s'.Sub s2/\Q e s2.flat g)):IW P m n J ro c s g Q:=
 zD hJ (qob h)
end
theorem qme{s:DS}(m sz:Nat)(hm:s.bx m=some [[.c (.lit (.slice none 0 0))]]):s.Sub (s.setBx m (some [[.ex sz []]])):=
 qeL m hm rfl fun i r r' h1 h2=>by
  cases i with
  | succ i=>simp at h1
  | zero=>
   simp at h1 h2
   subst h1;subst h2
   refine⟨rfl,fun w E j t t' v h1 h2 hv=>?_⟩
   cases j with
   | succ j=>simp at h1
   | zero=>
    simp at h1 h2
    subst h1;subst h2
    cases hv with|c c v hv=>cases hv with|lit v h=>exact .ex sz [] _ (.nil sz) ⟨none,0,rfl⟩
theorem qj{P:Program}{s:DS}{Q:Exit->DS->Prop}{c:Code}{α:Type}(xs:List α)(S:Nat->DS)(qK:xs.length<=maxLen)(h0:s.Sub (S 0))
  (body: ∀k x,xs[k]? =some x->k<xs.length->x∈xs->xs.take (k+1)=xs.take k++ [x]->decide ((k:Int)<(xs.length:Int))=true->IntKind.i64.wrap ((k:Int)+1)=((k+1:Nat):Int)->
   DW P c (S k) (QM (fun s'=>s'.Sub (S (k+1))) Q))
  (done:decide ((xs.length:Int)<(xs.length:Int))=false->DW P c (S xs.length) (QM (fun _=>False) Q)):DW P (.loop c) s Q:=
 qaZ xs (fun k (_:Unit)=>S k) (fun _ _=>True) () qK h0 trivial (fun k x _ h1 h2 h3 h4 h5 h6 _=>(body k x h1 h2 h3 h4 h5 h6).mono fun e s' h=>by
  cases e with
  | normal=>exact⟨(),trivial,h⟩
  | _=>exact h) (fun _ h _=>done h)
theorem qC{P:Program}{s:DS}{Q:Exit->DS->Prop}{c:Code}{α:Type}(xs:List α)(S:Nat->DS)(Inv:Nat->Prop)(qK:xs.length<=maxLen)(h0:s.Sub (S 0))(hi0:Inv 0)
  (body: ∀k x,xs[k]? =some x->k<xs.length->x∈xs->xs.take (k+1)=xs.take k++ [x]->decide ((k:Int)<(xs.length:Int))=true->IntKind.i64.wrap ((k:Int)+1)=((k+1:Nat):Int)->Inv k->
   DW P c (S k) (QM (fun s'=>Inv (k+1)/\s'.Sub (S (k+1))) Q))
  (done:decide ((xs.length:Int)<(xs.length:Int))=false->Inv xs.length->DW P c (S xs.length) (QM (fun _=>False) Q)):DW P (.loop c) s Q:=
 qaZ xs (fun k (_:Unit)=>S k) (fun k _=>Inv k) () qK h0 hi0 (fun k x _ h1 h2 h3 h4 h5 h6 h7=>(body k x h1 h2 h3 h4 h5 h6 h7).mono fun e s' h=>by
  cases e with
  | normal=>exact⟨(),h⟩
  | _=>exact h) (fun _ h h7=>done h h7)
theorem CallC.sub{P:Program}{s s':DS}{f:Operand}{args:List Operand}{tys:Array TypeId}{dst:Option Nat}{ty:TypeId}{pos:String}{aft:Array Edge}{F:D}{A:List D}{ds:List (Option Nat)}{l:List (Mode×Oper)}{K:DS->Prop}
  (hs:s.Sub s') (hn:s'.n=s.n) (h:CallC .step P ⟨dst,.call ⟨.value f,args.toArray,tys⟩,ty,pos,aft,none⟩ (s'.ev f) (args.map s'.ev) s' dst ds l K):
  CallC .step P ⟨dst,.call ⟨.value f,args.toArray,tys⟩,ty,pos,aft,none⟩ F A s dst ds l K:=by
 have h1:Step P ⟨dst,.call ⟨.value f,args.toArray,tys⟩,ty,pos,aft,none⟩ s' fun s'=>wk P ds l s' K:=by
  have:opW .step P ⟨dst,.call ⟨.value f,args.toArray,tys⟩,ty,pos,aft,none⟩ s' fun s'=>wk P ds l s' K:=by
   unfold CallC at h
   simpa[opW]using h
  cases qna this with
  | step h=>exact h
 refine CallC.step fun hd X a w hr Q=>?_
 refine Oper.wp_mono ?_ (h1 (fun d hd'=>by rw[hn];exact hd d hd') X a w (hs X a w hr) Q)
 rintro a' w' ⟨s2,⟨g1,g2⟩,g3⟩
 exact⟨s2,⟨g1.trans hn,g2⟩,g3⟩
theorem CallC.frz{P:Program}{s:DS}{f:Operand}{args:List Operand}{tys:Array TypeId}{dst:Option Nat}{ty:TypeId}{pos:String}{aft:Array Edge}{F:D}{A:List D}{ds:List (Option Nat)}{l:List (Mode×Oper)}{K:DS->Prop}
  (n:Nat) (cs:List C) (vo:0<cs.length) (hn:s.bx n=some [cs.map T.c]) (h:CallC .step P ⟨dst,.call ⟨.value f,args.toArray,tys⟩,ty,pos,aft,none⟩ ((s.frz n cs.length [cs]).ev f) (args.map (s.frz n cs.length [cs]).ev) (s.frz n cs.length [cs]) dst ds l K):
  CallC .step P ⟨dst,.call ⟨.value f,args.toArray,tys⟩,ty,pos,aft,none⟩ F A s dst ds l K:=
 CallC.sub (qb8 n cs vo hn) rfl h
theorem qbx(k:Nat):midM vY k=False:=eq_false (qcW k)
theorem qdU(bx:Mem)(ns:List Nat)(k:Nat):vQ vY bx ns k=if NB<=k/\k - NB∈ns then(bx (k - NB)).map (Rows.tr (shfM vY ns))else none:=by
 unfold vQ;simp only[qbx,if_false]
theorem qbG(bx H':Mem)(ns:List Nat)(m:Option Nat)(k:Nat):qS vY bx H' ns m k=
  if m=some k then(H' 0).map (Rows.tr (usfM vY ns m))else if k∈ns then(H' (k+NB)).map (Rows.tr (usfM vY ns m))else(bx k).map (Rows.tr (aftM vY ns m)):=by
 unfold qS;simp only[qbx,if_false]
theorem nb_ne(a k:Nat)(h:k<100000):(a+NB=k)=False:=eq_false (by have:=qL;omega)
theorem nb_ne'(a k:Nat)(h:k<100000):(k=a+NB)=False:=eq_false (by have:=qL;omega)
theorem nb_le(a:Nat):(NB<=a+NB)=True:=eq_true (yx _ _)
theorem nb_nle(k:Nat)(h:k<100000):(NB<=k)=False:=eq_false (by have:=qL;omega)
theorem nb_sub(a:Nat):a+NB - NB=a:=Nat.add_sub_cancel a NB
theorem nb_inj(a b:Nat):(a+NB=b+NB)=(a=b):=by simp
theorem nb_zero(a:Nat):(a+NB=0)=False:=eq_false (by have:=qL;omega)
theorem qeR(ms:Nat->Bool)(ns:List Nat)(s:DS)(N:DS->Prop)(Q:Exit->DS->Prop)(t:DS):qd7 ms ns s N Q .normal t=N (s.aftCallM ms ns none (.tup []) t.bx):=rfl
theorem qkq(ms:Nat->Bool)(ns:List Nat)(s:DS)(N:DS->Prop)(Q:Exit->DS->Prop)(t:DS):qd7 ms ns s N Q .ret t=Q .ret (s.aftCallM ms ns none (.tup []) t.bx):=rfl
theorem qhP(ms:Nat->Bool)(ns:List Nat)(s:DS)(N:DS->Prop)(Q:Exit->DS->Prop)(t:DS)(i:Nat):qd7 ms ns s N Q (.exit i) t=Q (.exit i) (s.aftCallM ms ns none (.tup []) t.bx):=rfl
theorem qpB(ms:Nat->Bool)(s:DS)(ns:List Nat)(t:Nat):(s.round0 ms ns).sl t=(s.sl t).tr (shfM ms ns):=rfl
theorem qpC(ms:Nat->Bool)(s:DS)(ns:List Nat)(t:Nat):(s.round0 ms ns).bx t=vQ ms s.bx ns t:=rfl
def Zo:Nat->Bool:=fun k=>k==1000
theorem qao(k:Nat):midM Zo k=(k=1000):=by
 have:=qL
 apply propext
 simp only[midM,Zo,beq_iff_eq]
 constructor
 ·exact fun h=>h.2.2
 ·rintro rfl;exact⟨wv _,by omega,rfl⟩
theorem qdq(bx:Mem)(ns:List Nat)(k:Nat):vQ Zo bx ns k=if NB<=k/\k - NB∈ns then(bx (k - NB)).map (Rows.tr (shfM Zo ns))else if k=1000 then(bx k).map (Rows.tr (shfM Zo ns))else none:=by
 unfold vQ;simp only[qao]
theorem qa5(bx H':Mem)(ns:List Nat)(m:Option Nat)(k:Nat):qS Zo bx H' ns m k=
  if m=some k then(H' 0).map (Rows.tr (usfM Zo ns m))else if k∈ns then(H' (k+NB)).map (Rows.tr (usfM Zo ns m))else if k=1000 then(H' k).map (Rows.tr (usfM Zo ns m))else(bx k).map (Rows.tr (aftM Zo ns m)):=by
 unfold qS;simp only[qao]
attribute [go_sem] qao qdq qa5
theorem qpQ(s:DS):s.puts []=s:=rfl
theorem qmR(s:DS)(u:Nat)(d:D)(l:List (Nat×D)):s.puts ((u,d)::l)=(s.put (some u) d).puts l:=rfl
theorem qkp(ms:Nat->Bool)(s:DS)(ns ps:List Nat)(ds:List D):s.round ms ns ps ds=(s.round0 ms ns).puts (ps.zip (ds.map (D.tr qac))):=rfl
attribute [go_sem] qbx qdU qbG nb_ne nb_ne' nb_le nb_nle nb_sub nb_inj nb_zero qeR qkq qhP qpB qpC qkp qpQ qmR Nat.add_eq_zero_iff ws
theorem dw_rf{P:Program}{s:DS}{Q:Exit->DS->Prop}{g:Operand}{ps:List Tmp}{assign body:Code}{gf:FuncId}{caps:List T}{xs:List (List D)}{σ:Type}(N:Nat)(ms:Nat->Bool)(ns:List Nat)(S:Nat->σ->DS)(Inv:Nat->σ->Prop)(st0:σ)(hi0:Inv 0 st0)(hsn:s.n=N)(hpl:s.pl=true)
  (hd:(decide (N<=1000)&&(ps.all fun p=>decide (p<N))&&ns.all fun k=>decide (k<1000))=true) (hg:(s.ev g).asFn=some (gf,caps)) (qlQ:SeqD P gf (caps.map fun t=>.one (.c t.cl)) xs) (h0:s.Sub (S 0 st0)) (hn: ∀k st,(S k st).n=N) (hxs: ∀ds∈xs,ds.length=ps.length)
  (qdc: ∀k ds st,xs[k]? =some ds->Inv k st->DW P assign ((S k st).round ms ns ps ds) (QM (fun s1=>DW P body s1 (qd7 ms ns (S k st) (fun s'=>∃st',Inv (k+1) st'/\s'.Sub (S (k+1) st')) Q)) (fun _ _=>False)))
  (qdd: ∀st,Inv xs.length st->Q .normal (S xs.length st)):DW P (.rangeFunc g ps.toArray assign body) s Q:=by
 simp only[wu,decide_eq_true_eq,w5]at hd
 subst hsn
 exact qg8 ms ns S Inv st0 hi0 hpl hg qlQ h0 hn hd.1.1 (by simpa using hd.1.2) (by simpa using hxs) ⟨fun n hn h=>by have:=hd.2 n hn;have:=h.1;omega,fun x h=>by cases h⟩ (by simpa using qdc) qdd
theorem qrD{P:Program}{s:DS}{Q:Exit->DS->Prop}{g:Operand}{ps:List Tmp}{assign body:Code}{gf:FuncId}{caps:List T}{xs:List (List D)}{σ:Type}(N:Nat)(ms:Nat->Bool)(ns:List Nat)(S:Nat->σ->DS)(Inv:Nat->σ->Prop)(st0:σ)(hi0:Inv 0 st0)(hsn:s.n=N)(hpl:s.pl=true)
  (hd:(decide (N<=1000)&&(ps.all fun p=>decide (p<N))&&ns.all fun k=>decide (k<1000))=true) (hg:(s.ev g).asFn=some (gf,caps)) (qlQ:SeqD P gf (caps.map fun t=>.one (.c t.cl)) xs) (h0:s.Sub (S 0 st0)) (hn: ∀k st,(S k st).n=N) (hxs: ∀ds∈xs,ds.length=ps.length)
  (qdc: ∀k ds st,xs[k]? =some ds->Inv k st->DW P assign ((S k st).round ms ns ps ds) (QM (fun s1=>DW P body s1 (fun e t=>∃t2,t.Sub t2/\qd7 ms ns (S k st) (fun s'=>∃st',Inv (k+1) st'/\s'.Sub (S (k+1) st')) Q e t2)) (fun _ _=>False)))
  (qdd: ∀st,Inv xs.length st->Q .normal (S xs.length st)):DW P (.rangeFunc g ps.toArray assign body) s Q:=by
 refine dw_rf N ms ns S Inv st0 hi0 hsn hpl hd hg qlQ h0 hn hxs (fun k ds st h1 h2=>(qdc k ds st h1 h2).mono fun e t ht=>?_) qdd
 cases e with
 | normal=>exact qob ht
 | _=>exact ht
attribute [go_sem] frz_sl frz_bx D.frz D.frzAll T.frz T.frzAll frzBx fnTT
attribute [go_sem] Option.pure_def Option.bind_eq_bind
attribute [go_sem] List.zip_cons_cons List.zip_nil_left
end
end Go.Dl
namespace Go.Dl
open Go.RowKit Go.Sort
noncomputable section
def iRows(xs:List Int):Rows:=xs.map fun x=> [T.c (.lit (.int .i64 x))]
theorem qda{xs:List Int}{i:Nat}{x:Int}(h:xs[i]? =some x):(iRows xs)[i]? =some [T.c (.lit (.int .i64 x))]:=by simp[iRows,h]
theorem WI.rel{X:Origin}{w:World}{E:Env}{H:Mem}(h:WI X w E H)(hm:X.mrk<=X.w.heap.size)(hB:NB<=X.B):RelE X { n:=0,sl:=fun _=>.any,bx:=H,pl:=false } E { tmps:= #[],defers:= [] } w:=
 ⟨h,fun _=>.any _,rfl,DefOK.nil _ _ hm,⟨ye _,hB⟩,fun h=>by cases h⟩
theorem sort_E{P:Program}{f:FuncId}(hp:Program.plainF P f=true)
  (hs: ∀(blk off cap:Nat) (zs:List Int) (w:World),Holds (Value.int .i64) w blk off zs.toArray->blk<w.heap.size->zs.length<4611686018427387904->
   Calls P f #[.slice (some ⟨blk,off,none⟩) zs.length cap] w fun e w'=>e= .returned (.tuple #[])/\∃n os,w'=grow (putRow (Value.int .i64) (Sort.ahead w n) blk off (zs.mergeSort fun x y=>decide (x<=y)).toArray) os)
  (hnone: ∀(p:Option Addr) (cap:Nat) (w:World),Calls P f #[.slice p 0 cap] w fun e w'=>e= .returned (.tuple #[])/\w'=w)
  (q cap:Nat) (H:Mem) (xs:List Int) (js:Rows) (hq:H q=some (iRows xs++js)) (hjs:RowsSz 1 js) (hl:xs.length<4611686018427387904):
  ECalls P f [.one (.ba q 1 0 xs.length cap)] H (fun r H'=>r= .tup []/\H'=fun k=>if k=q then some (iRows (xs.mergeSort fun x y=>decide (x<=y))++js)else H k):=by
 refine⟨hp,fun w E F vs hwi hsz hv=>?_⟩
 obtain⟨v,rfl⟩: ∃v,vs= #[v]:=by
  have:vs.size=1:=hsz
  refine⟨vs[0],?_⟩
  apply Array.ext
  ·simp[this]
  ·intro i h1 h2
   have h2':i<1:=h2
   obtain rfl:i=0:=by omega
   rfl
 have hv0:=hv 0 _ v rfl rfl
 by_cases h0:xs= []
 ·subst h0
  have hvs: ∃p c,v= .slice p 0 c:=by
   cases hv0 with|one t v hv0=>cases hv0 with
    | ba n sz i len cap h hm=>exact⟨_,_,rfl⟩
    | bz n sz i A=>exact⟨_,_,rfl⟩
  obtain⟨p,c,rfl⟩:=hvs
  refine(hnone p c w).mono ?_
  rintro e w' ⟨rfl,rfl⟩
  refine⟨_,E,.tup [],_,rfl,⟨rfl,rfl⟩,?_,.tup [] #[] rfl (fun j d v h1 _=>by simp at h1)⟩
  have:(fun k=>if k=q then some (iRows ([].mergeSort fun x y=>decide (x<=y))++js)else H k)=H:=by
   funext k;split
   ·rename_i hk;subst hk;simpa using hq.symm
   ·rfl
  rw[this];exact hwi
 ·have hvs: ∃c,v= .slice (some ⟨E.ρ q,0,none⟩) xs.length c:=by
   have vo:0<xs.length:=List.length_pos_iff.2 h0
   generalize hle:xs.length=len at hv0 vo
   cases hv0 with|one t v hv0=>cases hv0 with
    | ba n sz i len cap h hm=>exact⟨cap,by simp⟩
    | bz n sz i A=>omega
  obtain⟨c,rfl⟩:=hvs
  have hne:iRows xs++js≠ []:=by simp[iRows,h0]
  obtain⟨g1,g2,g3⟩:=hwi.boxes q _ hq hne
  obtain⟨arr,e,k1,k2⟩:=g2.rowsIs
  obtain⟨sz,k3⟩:=k2.lst
  have hsz1:sz=1:=by
   have hm: ∃r∈iRows xs,r.length=1:=by
    cases xs with
    | nil=>exact absurd rfl h0
    | cons x xs=>exact⟨_,List.mem_cons_self,rfl⟩
   obtain⟨r,hr,hr1⟩:=hm
   rw[<-k3.row r (List.mem_append_left _ hr)];exact hr1
  subst hsz1
  have hlen:arr.size=xs.length+js.length:=by
   have:=k3.len
   simp[iRows]at this;exact this
  have qbh: ∀j x,xs[j]? =some x->arr[j]? =some (Value.int .i64 x):=fun j x hj=>by
   have hjl:j<xs.length:=(wd.1 hj).1
   have hja:j<arr.size:=by omega
   have:=k3.is j 0 [T.c (.lit (.int .i64 x))] _ arr[j] (by rw[wP (by simpa[iRows]using hjl)];exact qda hj) rfl (by simp[hja])
   rw[wY hja]
   have hd:VD w E (.one (.c (.lit (.int .i64 x)))) arr[j]:=.one _ _ this
   rw[hd.lit]
  have hblt:E.ρ q<w.heap.size:=(wF.1 k1).1
  have hH:Holds (Value.int .i64) w (E.ρ q) 0 xs.toArray:=fun j hj=>by
   have hj':j<xs.length:=by simpa using hj
   refine⟨?_,by simp[World.frozen?,k1]⟩
   have:=qbh j xs[j] (wc hj')
   simp[World.cell?,k1,this,hj']
  refine(hs (E.ρ q) 0 c xs w hH hblt hl).mono ?_
  rintro en w' ⟨rfl,n,os,rfl⟩
  obtain⟨ts,hts⟩: ∃ts,ts=xs.mergeSort fun x y=>decide (x<=y):=⟨_,rfl⟩
  have htl:ts.length=xs.length:=by rw[hts];exact List.length_mergeSort _
  rw[<-hts]
  obtain⟨arr',harr'⟩: ∃arr',arr'=putCells (Value.int .i64) 0 ts.toArray arr:=⟨_,rfl⟩
  have hsz':arr'.size=arr.size:=by rw[harr'];simp[putCells]
  have qdJ:RowSet w (putRow (Value.int .i64) (Sort.ahead w n) (E.ρ q) 0 ts.toArray) (E.ρ q) e arr arr':=by
   refine⟨k1,?_,hsz',by simp[putRow,mapBlock,Sort.ahead],fun k hk=>?_,rfl,rfl,rfl⟩
   ·simp[putRow,mapBlock,Sort.ahead,Array.getElem?_modify,k1,onCells,harr']
   ·simp[putRow,mapBlock,Sort.ahead,Array.getElem?_modify,Ne.symm hk]
  have hv':RowsIs w E arr' (iRows ts++js):=by
   refine⟨1,fun r hr=>?_,by rw[hsz',hlen];simp[iRows,htl],fun i j r t v h1 h2 h3=>?_⟩
   ·rcases wo.1 hr with hr|hr
    ·obtain⟨x,_,rfl⟩:=wI.1 hr;rfl
    ·exact hjs r hr
   ·by_cases hi:i<ts.length
    ·rw[wP (by simpa[iRows]using hi),qda (wc hi)]at h1
     injection h1 with h1;subst h1
     cases j with
     | succ j=>simp at h2
     | zero=>
      simp at h2;subst h2
      have hia:i<arr.size:=by omega
      simp[harr',putCells,hi,hia]at h3
      subst h3
      exact .c _ _ (.lit _ rfl)
    ·have h1':=h1
     rw[wG (by simp[iRows];omega)]at h1
     have hr1:r.length=1:=hjs r (wl h1)
     have hj0:j=0:=by have:=(wd.1 h2).1;omega
     subst hj0
     refine k3.is i 0 r t v ?_ h2 ?_
     ·rw[wG (by simp[iRows];omega)]
      simpa[iRows,htl]using h1
     ·simp[harr',putCells,hi]at h3 ⊢
      exact h3
  have qaQ:=(hwi.rel (wv _) (wv _)).setBx hq hne qdJ hv'
  have hush:Hush w.heap.size (putRow (Value.int .i64) (Sort.ahead w n) (E.ρ q) 0 ts.toArray) (grow (putRow (Value.int .i64) (Sort.ahead w n) (E.ρ q) 0 ts.toArray) os):=by
   refine⟨rfl,rfl,rfl,by simp[grow],fun b hb=>?_,fun b a' e' m hb=>?_⟩
   ·exact heap_grow_old _ _ (by rw[qdJ.heap];exact hb)
   ·exact heap_grow_old _ _ (wF.1 hb).1
  have hfin:=qaQ.hush (a':={ tmps:= #[],defers:= [] }) hush rfl (DefOK.nil _ _ (wv _))
  exact⟨_,E,.tup [],_,rfl,⟨rfl,rfl⟩,hfin.wi,.tup [] #[] rfl (fun j d v h1 _=>by simp at h1)⟩
end
end Go.Dl
namespace Go.Dl
open Go.RowKit
noncomputable section
def cr(xs:List (List C)):Rows:=xs.map (List.map T.c)
theorem cr_tr(r:Ren)(xs:List (List C)):Rows.tr r (cr xs)=cr xs:=Rows.tr_c r xs
theorem qW(xs:List (List C)):(cr xs).length=xs.length:=by simp[cr]
theorem qog(xs:List (List C))(k:Nat):(cr xs).take k=cr (xs.take k):=by simp[cr]
theorem qoi(xs:List (List C))(k:Nat):(cr xs).drop k=cr (xs.drop k):=by simp[cr]
theorem zL(xs ys:List (List C)):cr (xs++ys)=cr xs++cr ys:=by simp[cr]
theorem cr_cons(x:List C)(xs:List (List C)):cr (x::xs)=x.map T.c::cr xs:=rfl
theorem qoh:cr []= []:=rfl
theorem qhe{sz:Nat}{xs:List (List C)}(hz: ∀r∈xs,r.length=sz):RowsSz sz (cr xs):=fun r hr=>by
 obtain⟨x,hx,rfl⟩:=wI.1 hr
 simpa using hz x hx
theorem qhf{xs:List (List C)}{js:Rows}{i:Nat}{x:List C}(h:xs[i]? =some x):(cr xs++js)[i]? =some (x.map T.c):=by
 rw[wP (by rw[qW];exact(wd.1 h).1),cr,wq,h];rfl
theorem qes{xs:List (List C)}{js:Rows}{i:Nat}{x:List C}(h:i<xs.length):(cr xs++js).set i (x.map T.c)=cr (xs.set i x)++js:=by
 rw[List.set_append_left _ _ (by rw[qW];exact h),cr,cr,List.map_set]
attribute [go_sem] cr_tr
theorem qcA{bx:Mem}{sz:Nat}{d:D}{ys:List (List C)}(hd:d= .one (.c (.sl sz ys))):Src bx sz d (cr ys):=by
 subst hd;exact .sl ys
end
end Go.Dl
