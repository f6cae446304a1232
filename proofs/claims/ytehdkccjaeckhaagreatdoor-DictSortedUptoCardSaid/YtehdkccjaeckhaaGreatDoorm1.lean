/- The logic of data over the kit's walk, and contracts of the functions that the laws reach, each said by plain data; part 2 of 6. -/
import Derived.Lib.Overlaps
import Derived.Laws.Externs
import Derived.RangeFuncSeq
import Derived.Sort.Grow
import Derived.Test.YtehdkccjaeckhaaGreatDoorm0
set_option linter.all false
set_option linter.unusedVariables false
set_option linter.unusedSimpArgs false
set_option maxRecDepth 10000
set_option maxHeartbeats 8000000
/- The logic of data: a call that is handed some of the names between alone (printed after Dm15, Dm16); it stands behind Dm16. -/
namespace Go.Dl
open Go.RowKit
noncomputable section
def midM(ms:Nat→Bool)(k:Nat):Prop:=1000≤k∧k<NB∧ms k=true
instance (ms:Nat→Bool) (k:Nat):Decidable (midM ms k):=by unfold midM;infer_instance
variable {ms : Nat → Bool}
def shfM(ms:Nat→Bool)(ns:List Nat):Ren:=⟨fun n=>if n∈ns then some (n+NB)else if midM ms n then some n else none,fun n=>if n∈ns then some (n+NB)else if midM ms n then some n else none⟩
def usfM(ms:Nat→Bool)(ns:List Nat)(m:Option Nat):Ren:=
 ⟨fun k=>if k=0 then m else if NB≤k∧k - NB∈ns then some (k - NB)else if midM ms k then some k else none,fun k=>if k=0 then m else if NB≤k∧k - NB∈ns then some (k - NB)else if midM ms k then some k else none⟩
def aftM(ms:Nat→Bool)(ns:List Nat)(m:Option Nat):Ren:=⟨fun n=>if n∈ns∨midM ms n∨m=some n then none else some n,fun n=>if midM ms n∨m=some n then none else some n⟩
def callMemM(ms:Nat→Bool)(bx:Mem)(ns:List Nat):Mem:=fun k=>if NB≤k∧k - NB∈ns then(bx (k - NB)).map (Rows.tr (shfM ms ns))else if midM ms k then(bx k).map (Rows.tr (shfM ms ns))else none
def callMemAftM(ms:Nat→Bool)(bx H':Mem)(ns:List Nat)(m:Option Nat):Mem:=fun k=>
 if m=some k then(H' 0).map (Rows.tr (usfM ms ns m))else if k∈ns then(H' (k+NB)).map (Rows.tr (usfM ms ns m))else if midM ms k then(H' k).map (Rows.tr (usfM ms ns m))else(bx k).map (Rows.tr (aftM ms ns m))
def DS.aftCallM(s:DS)(ms:Nat→Bool)(ns:List Nat)(m:Option Nat)(r:D)(H':Mem):DS:=
 ({ s with sl:=fun t=>(s.sl t).tr (aftM ms ns m),bx:=callMemAftM ms s.bx H' ns m }:DS).put m (r.tr (usfM ms ns m))
def callEnvM(ms:Nat→Bool)(E:Env)(ns:List Nat):Env:=⟨E.K,fun k=>if NB≤k then E.ρ (k - NB)else E.ρ k,fun k=>if NB≤k∧k - NB∈ns then E.val (k - NB)else if midM ms k then E.val k else(.slice none 0 0,0)⟩
def callFM(ms:Nat→Bool)(bx:Mem)(E:Env)(ns:List Nat):KSet:=fun b o=>∃n,(n∈ns∨midM ms n)∧((∃rows,bx n=some rows∧rows≠ []∧b=E.ρ n)∨spare (E.val n) b o)
theorem renames_shf_m(E:Env)(ns:List Nat):Renames (shfM ms ns) E (callEnvM ms E ns):=by
 refine⟨rfl,fun n k h=>?_,fun n k h=>?_⟩
 ·simp only [shfM]at h
  split at h
  ·rename_i hn;injection h with h;subst h
   simp [callEnvM,hn]
  ·split at h
   ·rename_i hn;injection h with h;subst h
    have: ¬(NB≤n∧n - NB∈ns):=fun e=>by have:=hn.2;omega
    simp [callEnvM,this,hn]
   ·cases h
 ·simp only [shfM]at h
  split at h
  ·injection h with h;subst h;simp [callEnvM]
  ·split at h
   ·rename_i hn;injection h with h;subst h
    have: ¬NB≤n:=fun e=>by have:=hn.2;omega
    simp [callEnvM,this]
   ·cases h
theorem callMem_some_m{bx:Mem}{ns:List Nat}{k:Nat}{r:Rows}(h:callMemM ms bx ns k=some r):((NB≤k∧k - NB∈ns)∨midM ms k)∧∃r',bx (und k)=some r'∧r=Rows.tr (shfM ms ns) r':=by
 unfold callMemM at h
 split at h
 ·rename_i hk
  simp only [Option.map_eq_some_iff]at h
  obtain⟨r',h1,h2⟩:=h
  exact⟨.inl hk,r',by simp only [und,hk.1,if_true];exact h1,h2.symm⟩
 ·split at h
  ·rename_i hk
   simp only [Option.map_eq_some_iff]at h
   obtain⟨r',h1,h2⟩:=h
   have: ¬NB≤k:=fun e=>by have:=hk.2;omega
   exact⟨.inr hk,r',by simp only [und,this,if_false];exact h1,h2.symm⟩
  ·cases h
theorem und_in_m{ns:List Nat}{k:Nat}(h:(NB≤k∧k - NB∈ns)∨midM ms k):und k∈ns∨midM ms (und k):=by
 rcases h with h|h
 ·exact .inl (by simp only [und,h.1,if_true];exact h.2)
 ·have: ¬NB≤k:=fun e=>by have:=h.2;omega
  exact .inr (by simp only [und,this,if_false];exact h)
theorem und_inj_m{ns:List Nat}(hns: ∀n∈ns,¬midM ms n){k j:Nat}(hk:(NB≤k∧k - NB∈ns)∨midM ms k)(hj:(NB≤j∧j - NB∈ns)∨midM ms j)(h:und k=und j):k=j:=by
 rcases hk with hk|hk<;>rcases hj with hj|hj
 ·simp only [und,hk.1,hj.1,if_true]at h;have:=hk.1;have:=hj.1;omega
 ·have h2: ¬NB≤j:=fun e=>by have:=hj.2;omega
  simp only [und,hk.1,h2,if_true,if_false]at h
  exact absurd hj (h▸hns _ hk.2)
 ·have h2: ¬NB≤k:=fun e=>by have:=hk.2;omega
  simp only [und,hj.1,h2,if_true,if_false]at h
  exact absurd hk (h▸hns _ hj.2)
 ·have h1: ¬NB≤k:=fun e=>by have:=hk.2;omega
  have h2: ¬NB≤j:=fun e=>by have:=hj.2;omega
  simp only [und,h1,h2,if_false]at h;exact h
theorem callEnv_ρ_m(E:Env)(ns:List Nat)(k:Nat):(callEnvM ms E ns).ρ k=E.ρ (und k):=by
 simp only [callEnvM,und];split<;>rfl
theorem wi_call_m{X:Origin}{w:World}{E:Env}{bx:Mem}(h:WI X w E bx)(ns:List Nat)(hns: ∀n∈ns,¬midM ms n):WI ⟨w,E.K,callFM ms bx E ns,(callEnvM ms E ns).ρ,NB,none,w.heap.size⟩ w (callEnvM ms E ns) (callMemM ms bx ns):=by
 have hR:=renames_shf_m (ms:=ms) E ns
 have hval: ∀k b o,spare ((callEnvM ms E ns).val k) b o→((NB≤k∧k - NB∈ns)∨midM ms k)∧spare (E.val (und k)) b o:=fun k b o hs=>by
  simp only [callEnvM]at hs
  split at hs
  ·rename_i hk;exact⟨.inl hk,by simp only [und,hk.1,if_true];exact hs⟩
  ·split at hs
   ·rename_i hk
    have: ¬NB≤k:=fun e=>by have:=hk.2;omega
    exact⟨.inr hk,by simp only [und,this,if_false];exact hs⟩
   ·obtain⟨a,len,cap,h1,_⟩:=hs;cases h1
 refine⟨Turn.refl _ _,fun b o hk hF=>?_,fun _ _ h=>h,fun _ _ _ _ h=>h,h.kok,fun k rows hk hne=>?_,fun k j rk rj hk h2 hj h3 hne=>?_,fun k b o hs=>?_,fun k j b o hs hs'=>?_,fun k j b o rj hs hj h3=>?_,fun _ _=>rfl⟩
 ·obtain⟨n,hn,⟨rows,h1,h2,rfl⟩|h1⟩:=hF
  ·exact(h.boxes n rows h1 h2).2.2 o hk
  ·exact(h.free n b o h1).2.1 hk
 ·obtain⟨g1,r',g3,rfl⟩:=callMem_some_m hk
  obtain⟨k1,k2,k3⟩:=h.boxes _ r' g3 (Rows.tr_ne hne)
  rw [callEnv_ρ_m]
  exact⟨.inr fun o=>⟨_,und_in_m g1,.inl ⟨r',g3,Rows.tr_ne hne,rfl⟩⟩,k2.tr hR,k3⟩
 ·obtain⟨g1,r',g3,rfl⟩:=callMem_some_m hk
  obtain⟨f1,r2,f3,rfl⟩:=callMem_some_m hj
  rw [callEnv_ρ_m,callEnv_ρ_m]
  exact h.boxne _ _ r' r2 g3 (Rows.tr_ne h2) f3 (Rows.tr_ne h3) (fun e=>hne (und_inj_m hns g1 f1 e))
 ·obtain⟨g1,g3⟩:=hval k b o hs
  obtain⟨k1,k2,k3⟩:=h.free _ b o g3
  exact⟨.inr ⟨_,und_in_m g1,.inr g3⟩,k2,k3⟩
 ·obtain⟨g1,g3⟩:=hval k b o hs
  obtain⟨f1,f3⟩:=hval j b o hs'
  exact und_inj_m hns g1 f1 (h.disj _ _ b o g3 f3)
 ·obtain⟨g1,g3⟩:=hval k b o hs
  obtain⟨f1,r2,f3,rfl⟩:=callMem_some_m hj
  rw [callEnv_ρ_m]
  exact h.sbox _ _ b o r2 g3 f3 (Rows.tr_ne h3)
def aftEnvM(ms:Nat→Bool)(E E':Env)(ns:List Nat)(m:Option Nat):Env:=
 ⟨E'.K,fun k=>if m=some k then E'.ρ 0 else if midM ms k then E'.ρ k else E.ρ k,fun k=>if m=some k then E'.val 0 else if k∈ns then E'.val (k+NB)else if midM ms k then E'.val k else E.val k⟩
section
variable {X : Origin} {w w' : World} {E E' : Env} {bx H' : Mem} {ns : List Nat} {m : Option Nat}
theorem callF_young_m(h:WI X w E bx){b o:Nat}(hF:callFM ms bx E ns b o):X.Young b o:=by
 obtain⟨n,hn,⟨rows,h1,h2,rfl⟩|h1⟩:=hF
 ·exact(h.boxes n rows h1 h2).1.imp id fun g=>g o
 ·exact(h.free n b o h1).1
theorem callF_box_m(h:WI X w E bx){k:Nat}{rows:Rows}(hk:bx k=some rows)(hne:rows≠ [])(hn: ¬(k∈ns∨midM ms k))(o:Nat): ¬callFM ms bx E ns (E.ρ k) o:=by
 rintro⟨n,hn',⟨rows',h1,h2,h3⟩|h1⟩
 ·exact h.boxne k n rows rows' hk hne h1 h2 (fun e=>hn (e▸hn')) h3
 ·exact h.sbox n k _ o rows h1 hk hne rfl
theorem callF_spare_m(h:WI X w E bx){k b o:Nat}(hs:spare (E.val k) b o)(hn: ¬(k∈ns∨midM ms k)): ¬callFM ms bx E ns b o:=by
 rintro⟨n,hn',⟨rows',h1,h2,h3⟩|h1⟩
 ·exact h.sbox k n b o rows' hs h1 h2 h3
 ·exact hn (h.disj k n b o hs h1▸hn')
theorem young_of_m(h:WI X w E bx){b:Nat}(hy:w.heap.size≤b∨∀o,callFM ms bx E ns b o):X.young b:=by
 rcases hy with hy|hy
 ·exact .inl (Nat.le_trans h.turn.size hy)
 ·rcases Nat.lt_or_ge b X.w.heap.size with hb|hb
  ·exact .inr fun o=>(callF_young_m h (hy o)).resolve_left (by omega)
  ·exact .inl hb
theorem Young_of_m(h:WI X w E bx){b o:Nat}(hy:w.heap.size≤b∨callFM ms bx E ns b o):X.Young b o:=by
 rcases hy with hy|hy
 ·exact .inl (Nat.le_trans h.turn.size hy)
 ·exact callF_young_m h hy
def GnM(ms:Nat→Bool)(ns:List Nat)(m:Option Nat)(k' k:Nat):Prop:=(k'=0∧m=some k)∨(m≠some k∧((k'=k+NB∧k∈ns)∨(k'=k∧midM ms k)))
theorem aft_some_m{k:Nat}{r:Rows}(h:callMemAftM ms bx H' ns m k=some r):
  (∃k' r',H' k'=some r'∧r=Rows.tr (usfM ms ns m) r'∧GnM ms ns m k' k)∨(m≠some k∧¬(k∈ns∨midM ms k)∧∃r',bx k=some r'∧r=Rows.tr (aftM ms ns m) r'):=by
 unfold callMemAftM at h
 split at h
 ·rename_i hm
  simp only [Option.map_eq_some_iff]at h
  obtain⟨r',h1,h2⟩:=h
  exact .inl ⟨0,r',h1,h2.symm,.inl ⟨rfl,hm⟩⟩
 ·rename_i hm
  split at h
  ·rename_i hn
   simp only [Option.map_eq_some_iff]at h
   obtain⟨r',h1,h2⟩:=h
   exact .inl ⟨k+NB,r',h1,h2.symm,.inr ⟨hm,.inl ⟨rfl,hn⟩⟩⟩
  ·rename_i hn
   split at h
   ·rename_i hmid
    simp only [Option.map_eq_some_iff]at h
    obtain⟨r',h1,h2⟩:=h
    exact .inl ⟨k,r',h1,h2.symm,.inr ⟨hm,.inr ⟨rfl,hmid⟩⟩⟩
   ·rename_i hmid
    simp only [Option.map_eq_some_iff]at h
    obtain⟨r',h1,h2⟩:=h
    exact .inr ⟨hm,fun e=>e.elim hn hmid,r',h1,h2.symm⟩
theorem later_call_m(h:WI X w E bx)(h':WI ⟨w,E.K,callFM ms bx E ns,(callEnvM ms E ns).ρ,NB,none,w.heap.size⟩ w' E' H'):Later w E w' ⟨E'.K,E.ρ,E.val⟩:=
 ⟨fun b o hb=>⟨h'.kin b o hb,h'.turn.cell (lt_of_cell (h.kok b o hb)) (h'.sep b o hb)⟩,rfl,rfl⟩
theorem renames_aft_m(E E':Env)(ns:List Nat)(m:Option Nat):Renames (aftM ms ns m) ⟨E'.K,E.ρ,E.val⟩ (aftEnvM ms E E' ns m):=by
 refine⟨rfl,fun n k h=>?_,fun n k h=>?_⟩
 ·simp only [aftM]at h
  split at h
  ·cases h
  ·rename_i hn
   injection h with h;subst h
   have h1:n∉ns:=fun e=>hn (.inl e)
   have h3: ¬midM ms n:=fun e=>hn (.inr (.inl e))
   have h2: ¬m=some n:=fun e=>hn (.inr (.inr e))
   simp [aftEnvM,h1,h2,h3]
 ·simp only [aftM]at h
  split at h
  ·cases h
  ·rename_i hn
   injection h with h;subst h
   have h3: ¬midM ms n:=fun e=>hn (.inl e)
   have h2: ¬m=some n:=fun e=>hn (.inr e)
   simp [aftEnvM,h2,h3]
structure CallOkM(ms:Nat→Bool)(ns:List Nat)(dst:Option Nat):Prop where
 hns: ∀n∈ns,¬midM ms n
 hm: ∀x,dst=some x→x∉ns∧x<1000
theorem CallOkM.nmid(h:CallOkM ms ns m){k:Nat}(hk:midM ms k): ¬m=some k:=fun e=>by
 have:=(h.hm k e).2;have:=hk.1;omega
theorem CallOkM.nin(h:CallOkM ms ns m){k:Nat}(hk:k∈ns): ¬m=some k:=fun e=>(h.hm k e).1 hk
theorem nm_of_m(hc:CallOkM ms ns m)(h':WI ⟨w,E.K,callFM ms bx E ns,(callEnvM ms E ns).ρ,NB,none,w.heap.size⟩ w' E' H'){k' k:Nat}(g:GnM ms ns m k' k):(aftEnvM ms E E' ns m).ρ k=E'.ρ k'∧(aftEnvM ms E E' ns m).val k=E'.val k':=by
 rcases g with⟨rfl,h1⟩|⟨h0,⟨rfl,h1⟩|⟨rfl,h1⟩⟩
 ·simp [aftEnvM,h1]
 ·have hf:=h'.fix (k+NB) (by simp)
  simp only [callEnvM,Nat.add_sub_cancel,Nat.le_add_left,if_true]at hf
  simp [aftEnvM,h0,h1,hf,hc.hns k h1]
 ·have:k'∉ns:=fun e=>hc.hns k' e h1
  simp [aftEnvM,h0,h1,this]
theorem nmU_of_m(hc:CallOkM ms ns m){k:Nat}(h1:m≠some k)(h2: ¬(k∈ns∨midM ms k)):(aftEnvM ms E E' ns m).ρ k=E.ρ k∧(aftEnvM ms E E' ns m).val k=E.val k:=by
 have g1:k∉ns:=fun e=>h2 (.inl e)
 have g2: ¬midM ms k:=fun e=>h2 (.inr e)
 simp [aftEnvM,h1,g1,g2]
theorem nmI_of_m(hc:CallOkM ms ns m){k' k j' j:Nat}(g:GnM ms ns m k' k)(f:GnM ms ns m j' j):k'=j'↔k=j:=by
 have hNB:=NB_big
 rcases g with⟨rfl,h1⟩|⟨h0,⟨rfl,h1⟩|⟨rfl,h1⟩⟩<;>rcases f with⟨rfl,h2⟩|⟨h3,⟨rfl,h2⟩|⟨rfl,h2⟩⟩
 ·rw [h1]at h2;injection h2 with h2;simp [h2]
 ·exact⟨fun e=>by omega,fun e=>absurd (e▸h1) h3⟩
 ·exact⟨fun e=>by have:=h2.1;omega,fun e=>absurd (e▸h1) h3⟩
 ·exact⟨fun e=>by omega,fun e=>absurd (e▸h2) h0⟩
 ·exact⟨fun e=>by omega,fun e=>by omega⟩
 ·exact⟨fun e=>by have:=h2.2;omega,fun e=>absurd (e▸h2) (hc.hns _ h1)⟩
 ·exact⟨fun e=>by have:=h1.1;omega,fun e=>absurd (e▸h2) h0⟩
 ·exact⟨fun e=>by have:=h1.2;omega,fun e=>absurd (e▸h1) (hc.hns _ h2)⟩
 ·exact Iff.rfl
theorem renames_usf_m(hc:CallOkM ms ns m)(h':WI ⟨w,E.K,callFM ms bx E ns,(callEnvM ms E ns).ρ,NB,none,w.heap.size⟩ w' E' H'):Renames (usfM ms ns m) E' (aftEnvM ms E E' ns m):=by
 have key: ∀n k,(if n=0 then m else if NB≤n∧n - NB∈ns then some (n - NB)else if midM ms n then some n else none)=some k→GnM ms ns m n k:=by
  intro n k h
  split at h
  ·rename_i hk;exact .inl ⟨hk,h⟩
  ·split at h
   ·rename_i hk hk2
    injection h with h;subst h
    exact .inr ⟨hc.nin hk2.2,.inl ⟨by omega,hk2.2⟩⟩
   ·split at h
    ·rename_i hk hk2 hk3
     injection h with h;subst h
     exact .inr ⟨hc.nmid hk3,.inr ⟨rfl,hk3⟩⟩
    ·cases h
 exact⟨rfl,fun n k h=>(nm_of_m hc h' (key n k h)).2,fun n k h=>(nm_of_m hc h' (key n k h)).1⟩
theorem wi_aft_m(h:WI X w E bx)(hB:NB≤X.B)(h':WI ⟨w,E.K,callFM ms bx E ns,(callEnvM ms E ns).ρ,NB,none,w.heap.size⟩ w' E' H')(hc:CallOkM ms ns m):WI X w' (aftEnvM ms E E' ns m) (callMemAftM ms bx H' ns m):=by
 have hlat:=later_call_m h h'
 have hRa:=renames_aft_m (ms:=ms) E E' ns m
 have hRu:=renames_usf_m hc h'
 have hnoK: ∀b o,b<w.heap.size→¬callFM ms bx E ns b o→E'.K b o→E.K b o:=fun b o h1 h2 h3=>h'.kold b o h1 h2 h3
 have nm: ∀{k' k:Nat},GnM ms ns m k' k→(aftEnvM ms E E' ns m).ρ k=E'.ρ k'∧(aftEnvM ms E E' ns m).val k=E'.val k':=fun g=>nm_of_m hc h' g
 have nmU: ∀{k:Nat},m≠some k→¬(k∈ns∨midM ms k)→(aftEnvM ms E E' ns m).ρ k=E.ρ k∧(aftEnvM ms E E' ns m).val k=E.val k:=fun h1 h2=>nmU_of_m hc h1 h2
 have nmI: ∀{k' k j' j:Nat},GnM ms ns m k' k→GnM ms ns m j' j→(k'=j'↔k=j):=fun g f=>nmI_of_m hc g f
 have cls_: ∀k,(∃k',GnM ms ns m k' k)∨(m≠some k∧¬(k∈ns∨midM ms k)):=fun k=>by
  by_cases h1:m=some k
  ·exact .inl ⟨0,.inl ⟨rfl,h1⟩⟩
  ·by_cases h2:k∈ns
   ·exact .inl ⟨_,.inr ⟨h1,.inl ⟨rfl,h2⟩⟩⟩
   ·by_cases h3:midM ms k
    ·exact .inl ⟨_,.inr ⟨h1,.inr ⟨rfl,h3⟩⟩⟩
    ·exact .inr ⟨h1,fun e=>e.elim h2 h3⟩
 refine⟨h.turn.trans h'.turn (fun i o hi hF=>(callF_young_m h hF).resolve_left (by omega)),h.sep,fun b o hb=>h'.kin b o (h.kin b o hb),fun b o hlt hXF hk=>?_,h'.kok,fun k rows hk hne'=>?_,fun k j rk rj hk h2 hj h3 hkj=>?_,fun k b o hs=>?_,fun k j b o hs hs'=>?_,fun k j b o rj hs hj h3=>?_,fun k hk=>?_⟩
 ·have hbw:b<w.heap.size:=Nat.lt_of_lt_of_le hlt h.turn.size
  exact h.kold b o hlt hXF (hnoK b o hbw (fun hF=>hXF ((callF_young_m h hF).resolve_left (by omega))) hk)
 ·rcases aft_some_m hk with⟨k',r',g1,rfl,g2⟩|⟨g1,g2,r',g3,rfl⟩
  ·obtain⟨l1,l2,l3⟩:=h'.boxes k' r' g1 (Rows.tr_ne hne')
   rw [(nm g2).1]
   exact⟨young_of_m h l1,l2.tr hRu,l3⟩
  ·obtain⟨l1,l2,l3⟩:=h.boxes k r' g3 (Rows.tr_ne hne')
   have hF:=callF_box_m h g3 (Rows.tr_ne hne') g2
   rw [(nmU g1 g2).1]
   exact⟨l1,(l2.mono hlat (h'.turn.whole l2.lt hF)).tr hRa,fun o ho=>l3 o (hnoK _ o l2.lt (hF o) ho)⟩
 ·rcases aft_some_m hk with⟨k',r1,g1,rfl,g2⟩|⟨g1,g2,r1,g3,rfl⟩
  ·rcases aft_some_m hj with⟨j',r2,f1,rfl,f2⟩|⟨f1,f2,r2,f3,rfl⟩
   ·rw [(nm g2).1,(nm f2).1]
    exact h'.boxne k' j' r1 r2 g1 (Rows.tr_ne h2) f1 (Rows.tr_ne h3) fun e=>hkj ((nmI g2 f2).1 e)
   ·rw [(nm g2).1,(nmU f1 f2).1]
    intro e
    have hlt:=(h.boxes j r2 f3 (Rows.tr_ne h3)).2.1.lt
    rcases(h'.boxes k' r1 g1 (Rows.tr_ne h2)).1 with l|l
    ·simp only at l;omega
    ·exact callF_box_m h f3 (Rows.tr_ne h3) f2 0 (e▸l 0)
  ·rcases aft_some_m hj with⟨j',r2,f1,rfl,f2⟩|⟨f1,f2,r2,f3,rfl⟩
   ·rw [(nmU g1 g2).1,(nm f2).1]
    intro e
    have hlt:=(h.boxes k r1 g3 (Rows.tr_ne h2)).2.1.lt
    rcases(h'.boxes j' r2 f1 (Rows.tr_ne h3)).1 with l|l
    ·simp only at l;omega
    ·exact callF_box_m h g3 (Rows.tr_ne h2) g2 0 (e▸l 0)
   ·rw [(nmU g1 g2).1,(nmU f1 f2).1]
    exact h.boxne k j r1 r2 g3 (Rows.tr_ne h2) f3 (Rows.tr_ne h3) hkj
 ·rcases cls_ k with⟨k',g⟩|⟨g1,g2⟩
  ·rw [(nm g).2]at hs
   obtain⟨l1,l2,l3⟩:=h'.free k' b o hs
   exact⟨Young_of_m h l1,l2,l3⟩
  ·rw [(nmU g1 g2).2]at hs
   obtain⟨l1,l2,l3⟩:=h.free k b o hs
   exact⟨l1,fun hk=>l2 (hnoK b o l3.lt (callF_spare_m h hs g2) hk),h'.turn.free l3.lt l3⟩
 ·rcases cls_ k with⟨k',g⟩|⟨g1,g2⟩
  ·rcases cls_ j with⟨j',f⟩|⟨f1,f2⟩
   ·rw [(nm g).2]at hs;rw [(nm f).2]at hs'
    exact(nmI g f).1 (h'.disj k' j' b o hs hs')
   ·rw [(nm g).2]at hs;rw [(nmU f1 f2).2]at hs'
    have hlt:=(h.free j b o hs').2.2.lt
    rcases(h'.free k' b o hs).1 with l|l
    ·simp only at l;omega
    ·exact absurd l (callF_spare_m h hs' f2)
  ·rcases cls_ j with⟨j',f⟩|⟨f1,f2⟩
   ·rw [(nmU g1 g2).2]at hs;rw [(nm f).2]at hs'
    have hlt:=(h.free k b o hs).2.2.lt
    rcases(h'.free j' b o hs').1 with l|l
    ·simp only at l;omega
    ·exact absurd l (callF_spare_m h hs g2)
   ·rw [(nmU g1 g2).2]at hs;rw [(nmU f1 f2).2]at hs'
    exact h.disj k j b o hs hs'
 ·rcases aft_some_m hj with⟨j',r2,f1,rfl,f2⟩|⟨f1,f2,r2,f3,rfl⟩
  ·rw [(nm f2).1]
   rcases cls_ k with⟨k',g⟩|⟨g1,g2⟩
   ·rw [(nm g).2]at hs
    exact h'.sbox k' j' b o r2 hs f1 (Rows.tr_ne h3)
   ·rw [(nmU g1 g2).2]at hs
    intro e
    have hlt:=(h.free k b o hs).2.2.lt
    rcases(h'.boxes j' r2 f1 (Rows.tr_ne h3)).1 with l|l
    ·simp only at l;omega
    ·exact absurd (e▸l o) (callF_spare_m h hs g2)
  ·rw [(nmU f1 f2).1]
   rcases cls_ k with⟨k',g⟩|⟨g1,g2⟩
   ·rw [(nm g).2]at hs
    intro e
    have hlt:=(h.boxes j r2 f3 (Rows.tr_ne h3)).2.1.lt
    rcases(h'.free k' b o hs).1 with l|l
    ·simp only at l;omega
    ·exact callF_box_m h f3 (Rows.tr_ne h3) f2 o (e▸l)
   ·rw [(nmU g1 g2).2]at hs
    exact h.sbox k j b o r2 hs f3 (Rows.tr_ne h3)
 ·have hNB:=NB_big
  have hmk:m≠some k:=fun e=>by have:=(hc.hm k e).2;omega
  have hmd: ¬midM ms k:=fun e=>by have:=e.2;omega
  simp only [aftEnvM,if_neg hmk,if_neg hmd]
  exact h.fix k hk
end
theorem rel_aft_m{X:Origin}{s:DS}{E E':Env}{a:Act}{w w':World}{H':Mem}{ns:List Nat}{m:Option Nat}(h:RelE X s E a w)(h':WI ⟨w,E.K,callFM ms s.bx E ns,(callEnvM ms E ns).ρ,NB,none,w.heap.size⟩ w' E' H')(hc:CallOkM ms ns m)(hm: ∀x,m=some x→x<s.n)
  {r:D} {v:Value} (hv:VD w' E' r v):Rel X (s.aftCallM ms ns m r H') (a.put m v) w':=by
 have hbase:RelE X { s with sl:=fun t=>(s.sl t).tr (aftM ms ns m),bx:=callMemAftM ms s.bx H' ns m } (aftEnvM ms E E' ns m) a w':=
  ⟨wi_aft_m h.wi h.small.2 h' hc,fun t=>((h.sl t).mono (later_call_m h.wi h')).tr (renames_aft_m E E' ns m),h.size,h.defers.turn h'.turn,h.small,h.pl⟩
 exact⟨_,hbase.putOnly (fun d hd=>hm d hd) (hv.tr (renames_usf_m hc h'))⟩
section
variable {P : Program}
theorem callE_ok_m{o:Oper}{a:Act}{w:World}{X:Origin}{s:DS}{E:Env}{f:Operand}{args:Array Operand}{tys:Array TypeId}(ho:o.op= .call { callee:=.value f,args:=args,argTypes:=tys })(hr:RelE X s E a w)
  {g:FuncId} {caps:List T} {ns:List Nat} {ds:List D} {H:Mem} {R:D→Mem→Prop} (hf:(s.ev f).asFn=some (g,caps)) (hle:DLeL ((args.toList.map s.ev++caps.map D.one).map (D.tr (shfM ms ns))) ds) (hc:ECalls P g ds H R)
  (hH: ∀k r,H k=some r→callMemM ms s.bx ns k=some r) (hok:CallOkM ms ns o.dst) (hm: ∀x,o.dst=some x→x<s.n) {Q:Exit→Act→World→Prop}:
  o.wp P a w (fun a' w'=>∃r H',R r H'∧Rel X (s.aftCallM ms ns o.dst r H') a' w') Q:=by
 obtain⟨captured,hfv,hcs,hcv⟩:=asFn_ok hf (hr.ev f)
 have hR:=renames_shf_m (ms:=ms) E ns
 obtain⟨hlen,hget⟩:=hle.get
 have hsz:(args.map a.eval++captured).size=ds.length:=by
  rw [← hlen];simp [hcs]
 have hvs: ∀(j:Nat) d v,ds[j]? =some d→(args.map a.eval++captured)[j]? =some v→VD w (callEnvM ms E ns) d v:=by
  intro j d v g1 g2
  obtain⟨d0,g3,g4⟩:=hget j d g1
  refine g4 w _ v ?_
  rw [List.getElem?_map]at g3
  cases hd:(args.toList.map s.ev++caps.map D.one)[j]? with
  | none=>rw [hd]at g3;cases g3
  | some d1=>
   rw [hd]at g3;injection g3 with g3;subst g3
   refine VD.tr hR ?_
   by_cases hj:j<args.size
   ·rw [List.getElem?_append_left (by simpa using hj)]at hd
    rw [Array.getElem?_append_left (by simpa using hj)]at g2
    simp [hj]at hd g2
    subst hd;subst g2
    exact hr.ev _
   ·rw [List.getElem?_append_right (by simp;omega)]at hd
    rw [Array.getElem?_append_right (by simp;omega)]at g2
    simp only [List.length_map,Array.size_map,Array.length_toList]at hd g2
    rw [List.getElem?_map]at hd
    cases hcc:caps[j - args.size]? with
    | none=>rw [hcc]at hd;cases hd
    | some c=>rw [hcc]at hd;injection hd with hd;subst hd;exact .one _ _ (hcv _ c v hcc g2)
 have hwi:=(wi_call_m hr.wi ns hok.hns).less hH
 have hcall:=hc.2 w (callEnvM ms E ns) (callFM ms s.bx E ns) _ hwi hsz hvs
 have hrun:(execOp a.eval o).run P w= .ok (.enter g (args.map a.eval++captured)) w:=by
  unfold execOp
  simp only [ho,Sem.run_bind]
  rw [resolve_value a.eval f args tys _ g captured hfv w]
  simp only [Result.andThen_ok,invoke]
  exact plainF_ok hc.1 _ w
 unfold Oper.wp
 rw [hrun]
 refine Calls.mono hcall ?_
 rintro e w' ⟨v,E',r,H',rfl,hQ,hwi',hv'⟩
 exact⟨r,H',hQ,rel_aft_m hr hwi' hok hm hv'⟩
end
def noMid:Nat→Bool:=fun _=>false
theorem not_noMid(k:Nat): ¬midM noMid k:=fun h=>by cases h.2.2
end
end Go.Dl
/- The logic of data: one step of a region, said by what it owes; a rule for each operation. -/
namespace Go.Dl
open Go.RowKit
noncomputable section
section
variable {P : Program}
def Step(P:Program)(o:Oper)(s:DS)(K:DS→Prop):Prop:=
 (∀d,o.dst=some d→d<s.n)→∀X a w,Rel X s a w→∀Q:Exit→Act→World→Prop,o.wp P a w (SPost X fun s'=>s'.n=s.n∧K s') Q
theorem Step.mono{o:Oper}{s:DS}{K K':DS→Prop}(h:Step P o s K)(hk: ∀s',s'.n=s.n→K s'→K' s'):Step P o s K':=fun hd X a w hr Q=>
 Oper.wp_mono (fun a' w' ⟨s',⟨h1,h2⟩,h3⟩=>⟨s',⟨h1,hk s' h1 h2⟩,h3⟩) (h hd X a w hr Q)
theorem put_n(s:DS)(dst:Option Nat)(d:D):(s.put dst d).n=s.n:=by cases dst<;>rfl
theorem Step.quiet{o:Oper}{s:DS}{K:DS→Prop}(h:QD P s.ev s.bx o.op fun d=>K (s.put o.dst d)):Step P o s K:=by
 rintro hd X a w ⟨E,hE⟩ Q
 refine Oper.wp_mono ?_ (QD_sound (P:=P) hE.wi.kok (fun n ts hn hne=>(hE.wi.boxes n ts hn hne).2.1) (fun x=>hE.ev x) h)
 rintro a' w' ⟨d,v,E',hK,rfl,hq,hv⟩
 exact⟨_,⟨put_n _ _ _,hK⟩,E',hE.put hq hd hv⟩
theorem alloc_run(t:TypeId){i:TypeInfo}{z:Value}(hi:P.info? t=some i)(hz:i.zero=some z)(w:World):(Instr.alloc t true (.tuple #[])).run P w= .ok (.pointer (some ⟨w.heap.size,0,none⟩)) (w.alloc (.cells z.cells t)):=by
 simp only [Instr.alloc,zeroValue,typeInfo,hi,hz,newVar,newRow,Sem.run_bind,Sem.run_pure,run_program,Result.andThen_ok,run_newObj]
 rfl
theorem box_run(t:TypeId)(v:Value)(w:World):(Instr.box t v).run P w= .ok (.pointer (some ⟨w.heap.size,0,none⟩)) (w.alloc (.cells v.cells t)):=by
 simp only [Instr.box,newVar,newRow,Sem.run_bind,Sem.run_pure,Result.andThen_ok,run_newObj]
 rfl
theorem Step.alloc{o:Oper}{s:DS}{K:DS→Prop}{t:TypeId}{m:Nat}{z:List T}(ho:o.op= .alloc t)(hm:o.dst=some m)(hz:Program.zeroT P t=some z)(h:K (s.newBx m z)):Step P o s K:=by
 rintro hd X a w ⟨E,hE⟩ Q
 obtain⟨i,zv,h1,h2,h3,h4⟩:=zeroT_ok hz
 refine wp_run (v:=.pointer (some ⟨w.heap.size,0,none⟩)) (w':=w.alloc (.cells zv.cells t)) (by simp only [execOp,ho,Sem.run_bind,alloc_run t h1 h2,Result.andThen_ok,Sem.run_pure]) ⟨s.newBx m z,⟨rfl,h⟩,?_⟩
 rw [hm]
 exact⟨_,hE.newBx m (hd m hm) zv.cells t _ h3 fun j t' v k1 k2=>h4 w E j t' v k1 k2⟩
theorem Step.box{o:Oper}{s:DS}{K:DS→Prop}{t:TypeId}{x:Operand}{m:Nat}{ts:List T}(ho:o.op= .box t x)(hm:o.dst=some m)(hz:(s.ev x).cells=some ts)(h:K (s.newBx m ts)):Step P o s K:=by
 rintro hd X a w ⟨E,hE⟩ Q
 obtain⟨g1,g2,_⟩:=cells_ok hz (hE.ev x)
 refine wp_run (v:=.pointer (some ⟨w.heap.size,0,none⟩)) (w':=w.alloc (.cells (a.eval x).cells t)) (by simp only [execOp,ho,Sem.run_bind,box_run,Result.andThen_ok,Sem.run_pure]) ⟨s.newBx m ts,⟨rfl,h⟩,?_⟩
 rw [hm]
 exact⟨_,hE.newBx m (hd m hm) _ t _ g1 g2⟩
theorem storeD_n{s s':DS}{t:TypeId}{x v:D}(h:storeD P s t x v=some s'):s'.n=s.n:=by
 unfold storeD at h
 split at h
 ·simp only [Option.bind_eq_some_iff]at h
  obtain⟨rows,_,r,_,h⟩:=h
  split at h
  ·injection h with h;subst h;rfl
  ·cases h
 ·cases h
theorem Step.store{o:Oper}{s s':DS}{K:DS→Prop}{t:TypeId}{x v:Operand}(ho:o.op= .store t x v)(hm:o.dst=none)(hs:storeD P s t (s.ev x) (s.ev v)=some s')(h:K s'):Step P o s K:=by
 rintro hd X a w ⟨E,hE⟩ Q
 obtain⟨w',h1,h2⟩:=storeD_ok hs hE (hE.ev x) (hE.ev v)
 refine wp_skip_run (w':=w') (by simp only [execOp,ho,Sem.run_bind,h1,Result.andThen_ok,Sem.run_pure]) ⟨s',⟨storeD_n hs,h⟩,E,?_⟩
 rw [hm];exact h2
theorem retPut_n(s:DS)(m:Nat)(r:D):(retPut s m r).n=s.n:=by
 unfold retPut
 split<;>rfl
def callPut(s:DS)(dst:Option Nat)(r:D):DS:=
 match dst with
 | some m=>retPut s m r
 | none=>s
theorem Step.callP{o:Oper}{s:DS}{K:DS→Prop}{f:Operand}{args:Array Operand}{tys:Array TypeId}{g:FuncId}{caps:List C}{ds:List D}{r:D}(ho:o.op= .call { callee:=.value f,args:=args,argTypes:=tys })
  (hf:s.ev f= .one (.c (.fn g caps))) (hle:LeL ((args.toList.map s.ev).map D.cl++caps.map fun c=>D.one (.c c)) ds) (hc:DCalls P g ds r) (h:K (callPut s o.dst r)):Step P o s K:=by
 rintro hd X a w ⟨E,hE⟩ Q
 have hv:=hE.ev f
 rw [hf]at hv
 cases hfv:a.eval f with
 | func fn first captured=>
  rw [hfv]at hv
  cases hv with|one t v hv=>cases hv with|c c v hv=>cases hv with
   | fn g caps vs hl hr=>
    obtain⟨h1,h2⟩:=args_ok (fun x=>hE.ev x) args.toList caps captured hl hr
    have h1':(args.map a.eval++captured).size=ds.length:=by
     rw [← (LeL_ok hle h2).1,← h1];simp
    have h2': ∀(j:Nat) d v,ds[j]? =some d→(args.map a.eval++captured)[j]? =some v→VD w (E0 E.K) d v:=by
     have:=(LeL_ok hle h2).2
     have he:(args.toList.map a.eval).toArray++captured=args.map a.eval++captured:=by
      congr 1;apply Array.ext';simp
     rw [he]at this;exact this
    have hcall:=hc.2 w E.K _ hE.wi.kok h1' h2'
    have hrun:(execOp a.eval o).run P w= .ok (.enter g (args.map a.eval++captured)) w:=by
     unfold execOp
     simp only [ho,Sem.run_bind]
     rw [resolve_value a.eval f args tys _ g captured hfv w]
     simp only [Result.andThen_ok,invoke]
     exact plainF_ok hc.1 _ w
    unfold Oper.wp
    rw [hrun]
    refine Calls.mono hcall ?_
    rintro e w' ⟨v,E',rfl,hret,hvd⟩
    cases hdst:o.dst with
    | none=>
     rw [hdst]at h
     exact⟨s,⟨rfl,h⟩,_,hE.quiet hret.quiet⟩
    | some m=>
     rw [hdst]at h
     exact⟨_,⟨retPut_n s m r,h⟩,retPut_ok hE hret (hd m hdst) hvd⟩
 | _=>rw [hfv]at hv;cases hv with|one t v hv=>cases hv with|c c v hv=>cases hv
theorem aftCall_n(s:DS)(ns:List Nat)(m:Option Nat)(r:D)(H':Mem):(s.aftCall ns m r H').n=s.n:=by cases m<;>rfl
theorem Step.callE{o:Oper}{s:DS}{K:DS→Prop}{f:Operand}{args:Array Operand}{tys:Array TypeId}{g:FuncId}{caps:List T}{ns:List Nat}{ds:List D}{H:Mem}{R:D→Mem→Prop}(ho:o.op= .call { callee:=.value f,args:=args,argTypes:=tys })
  (hf:(s.ev f).asFn=some (g,caps)) (hle:DLeL ((args.toList.map s.ev++caps.map D.one).map (D.tr (shf ns))) ds) (hc:ECalls P g ds H R) (hH: ∀k r,H k=some r→callMem s.bx ns k=some r) (hm:CallOk ns o.dst)
  (h: ∀r H',R r H'→K (s.aftCall ns o.dst r H')):Step P o s K:=by
 rintro hd X a w ⟨E,hE⟩ Q
 refine Oper.wp_mono ?_ (callE_ok ho hE hf hle hc hH hm hd)
 rintro a' w' ⟨r,H',hR,hr⟩
 exact⟨_,⟨aftCall_n _ _ _ _ _,h r H' hR⟩,hr⟩
section
variable {ms : Nat → Bool}
theorem aftCallM_n(s:DS)(ns:List Nat)(m:Option Nat)(r:D)(H':Mem):(s.aftCallM ms ns m r H').n=s.n:=by cases m<;>rfl
theorem Step.callM{P:Program}{o:Oper}{s:DS}{K:DS→Prop}{f:Operand}{args:Array Operand}{tys:Array TypeId}{g:FuncId}{caps:List T}{ns:List Nat}{ds:List D}{H:Mem}{R:D→Mem→Prop}(ms:Nat→Bool)(ho:o.op= .call { callee:=.value f,args:=args,argTypes:=tys })
  (hf:(s.ev f).asFn=some (g,caps)) (hle:DLeL ((args.toList.map s.ev++caps.map D.one).map (D.tr (shfM ms ns))) ds) (hc:ECalls P g ds H R) (hH: ∀k r,H k=some r→callMemM ms s.bx ns k=some r) (hm:CallOkM ms ns o.dst)
  (h: ∀r H',R r H'→K (s.aftCallM ms ns o.dst r H')):Step P o s K:=by
 rintro hd X a w ⟨E,hE⟩ Q
 refine Oper.wp_mono ?_ (callE_ok_m ho hE hf hle hc hH hm hd)
 rintro a' w' ⟨r,H',hR,hr⟩
 exact⟨_,⟨aftCallM_n _ _ _ _ _,h r H' hR⟩,hr⟩
end
theorem builtin_resolve(b:Builtin)(ρ:Operand→Value)(x y:Operand)(t t2 ty:TypeId)(w:World): ∃cs,(resolve ρ { callee:=.builtin b,args:= #[x,y],argTypes:= #[t,t2] } ty).run P w= .ok { target:=.builtin b #[t,t2] ty cs,args:= #[ρ x,ρ y] } w:=
 ⟨_,by simp only [resolve,List.map_toArray,List.map_cons,List.map_nil,Sem.run_pure];rfl⟩
theorem Step.appendOwn{o:Oper}{s:DS}{K:DS→Prop}{m n sz by_:Nat}{x y:Operand}{t:TypeId}{xs ys:List (List C)}(ho:o.op= .call { callee:=.builtin .append,args:= #[x,y],argTypes:= #[t,t] })(hm:o.dst=some m)
  (hinfo:appInfo P t=some (sz,by_)) (hx:appSrc m sz (s.ev x)=some (n,xs)) (hy:appNew sz (s.ev y)=some ys) (hb:(xs.length+ys.length)*by_≤140737488355328) (h:K ((s.close [n]).put (some m) (.one (.own n sz (xs++ys))))):Step P o s K:=by
 rintro hd X a w ⟨E,hE⟩ Q
 obtain⟨e1,e2,e3⟩:=appSrc_ok hx (hE.ev x)
 obtain⟨v',w',E',hrun,hE',hv'⟩:=append_ok (P:=P) (ty:=o.type) hinfo hE (n:=n) e1 e2 e3 (appNew_ok hy (hE.ev y)) hb
 obtain⟨cs,hres⟩:=builtin_resolve (P:=P) .append a.eval x y t t o.type w
 refine wp_run (v:=v') (w':=w') ?_ ⟨(s.close [n]).put (some m) (.one (.own n sz (xs++ys))),⟨rfl,h⟩,?_⟩
 ·unfold execOp
  simp only [ho,Sem.run_bind]
  rw [hres]
  simp only [Result.andThen_ok,invoke,builtin,Sem.run_bind,hrun,Sem.run_pure]
 ·rw [hm]
  exact⟨E',hE'.putOnly (fun d hd'=>by injection hd' with hd';subst hd';exact hd m hm) hv'⟩
theorem Step.appendLin{o:Oper}{s:DS}{K:DS→Prop}{m n sz by_ len cap:Nat}{x y:Operand}{t:TypeId}{rows ys:Rows}(ho:o.op= .call { callee:=.builtin .append,args:= #[x,y],argTypes:= #[t,t] })(hm:o.dst=some m)
  (hinfo:appInfo P t=some (sz,by_)) (hx:s.ev x= .one (.ba n sz 0 len cap)) (hn:s.bx n=some rows) (hcap:rows.length=cap) (hz:RowsSz sz rows) (hsrc:Src s.bx sz (s.ev y) ys) (hle:len≤cap)
  (hb:(len+ys.length)*by_≤140737488355328) (h: ∀js,RowsSz sz js→K ((s.moveMem n m (rows.take len++(ys++js))).put (some m) (.one (.ba m sz 0 (len+ys.length) (len+ys.length+js.length))))):Step P o s K:=by
 rintro hd X a w ⟨E,hE⟩ Q
 have hvx:=hE.ev x
 rw [hx]at hvx
 obtain⟨v',w',js,hrun,hjs,hE'⟩:=appBa_lin (P:=P) (ty:=o.type) hinfo hE hvx hn hcap hz hsrc (hE.ev y) hle hb (hd m hm)
 obtain⟨cs,hres⟩:=builtin_resolve (P:=P) .append a.eval x y t t o.type w
 refine wp_run (v:=v') (w':=w') ?_ ⟨_,⟨by rfl,h js hjs⟩,?_⟩
 ·unfold execOp
  simp only [ho,Sem.run_bind]
  rw [hres]
  simp only [Result.andThen_ok,invoke,builtin,Sem.run_bind,hrun,Sem.run_pure]
 ·rw [hm];exact hE'
theorem Step.copy{o:Oper}{s:DS}{K:DS→Prop}{n sz i len cap:Nat}{x y:Operand}{t t2:TypeId}{rows ys:Rows}(ho:o.op= .call { callee:=.builtin .copy,args:= #[x,y],argTypes:= #[t,t2] })
  (he:Program.elemSz P t=some sz) (hx:s.ev x= .one (.ba n sz i len cap)) (hn:s.bx n=some rows) (hcap:i+len≤rows.length) (hz:RowsSz sz rows) (hsrc:Src s.bx sz (s.ev y) ys)
  (h:K ((s.setBx n (some (rows.take i++(ys.take len++rows.drop (i+(ys.take len).length))))).put o.dst (.one (.c (.lit (.int .i64 (ys.take len).length)))))):Step P o s K:=by
 rintro hd X a w ⟨E,hE⟩ Q
 have hvx:=hE.ev x
 rw [hx]at hvx
 obtain⟨w',hrun,hE'⟩:=copyBa (P:=P) (t2:=t2) (ty:=o.type) he hE hvx hn hcap hz hsrc (hE.ev y)
 obtain⟨cs,hres⟩:=builtin_resolve (P:=P) .copy a.eval x y t t2 o.type w
 refine wp_run (v:=.int .i64 (ys.take len).length) (w':=w') ?_ ⟨_,⟨by rw [put_n];rfl,h⟩,?_⟩
 ·unfold execOp
  simp only [ho,Sem.run_bind]
  rw [hres]
  simp only [Result.andThen_ok,invoke,builtin,Sem.run_bind,hrun,Sem.run_pure]
 ·exact⟨E,hE'.putOnly hd (.one _ _ (.c _ _ (.lit _ rfl)))⟩
/-! ### A list of one element, in memory of one's own -/
theorem Step.buildOne{o:Oper}{s:DS}{K:DS→Prop}{m sz by_:Nat}{x:Operand}{t:TypeId}{ns:List T}(ho:o.op= .buildSlice t 1 #[(0,x)])(hm:o.dst=some m)(hinfo:appInfo P t=some (sz,by_))(hbig:sz≤16777216)(hx:(s.ev x).cells=some ns)(hl:ns.length=sz)
  (h:K ((s.newMem m [ns]).put (some m) (.one (.ba m sz 0 1 1)))):Step P o s K:=by
 rintro hd X a w ⟨E,hE⟩ Q
 obtain⟨e,inf,z,hu,hi,hz0,hisz,hiby,hzsz,hpos,hbpos,hz1⟩:=appZ_one w hinfo
 obtain⟨g1,g2,_⟩:=cells_ok hx (hE.ev x)
 have hzr:(zeroValue e).run P w= .ok z w:=by simp [zeroValue,typeInfo,hi,hz0]
 have hsz:(sizeOf e).run P w= .ok sz w:=by simp [sizeOf,typeInfo,hi,hisz]
 let base:Array Value:=(Array.range (1*sz)).map (z.cells[· % z.cells.size]!)
 have hbs:base.size=sz:=by simp [base]
 have hb: ¬((a.eval x).cells.size≠sz||decide (0*sz+(a.eval x).cells.size>base.size))=true:=by simp [g1,hl,hbs]
 obtain⟨f1,f2⟩:=fold_arr (a.eval x).cells base (0*sz) (by omega)
 let cells:=(a.eval x).cells.zipIdx.foldl (fun cs (c,j)=>cs.setIfInBounds (0*sz+j) c) base
 have hfill:Instr.fill (fun i=>some (i*sz,sz)) base [(0,a.eval x)]=some cells:=by
  simp only [Instr.fill,hb]
  rfl
 have hrows:RowsIs w E cells [ns]:=by
  refine⟨sz,fun r hr=>by rw [List.mem_singleton.1 hr];exact hl,by rw [f1,hbs];simp,fun i j r t' v k1 k2 k3=>?_⟩
  have hi0:i=0:=by have:=(List.getElem?_eq_some_iff.1 k1).1;simp at this;exact this
  subst hi0
  simp only [List.getElem?_cons_zero]at k1
  injection k1 with k1;subst k1
  have hj:j<ns.length:=(List.getElem?_eq_some_iff.1 k2).1
  have hk3:(a.eval x).cells[j]? =some v:=by
   have:=f2 (0*sz+j)
   rw [if_pos (by omega)]at this
   rw [← k3,this];congr 1;omega
  exact g2 j t' v k2 hk3
 have hnot: ¬(1*sz>2 ^ 24):=by omega
 have hne0: ¬(1*sz=0):=by omega
 have hrun:(Instr.buildSlice t 1 #[(0,a.eval x)]).run P w= .ok (.slice (some ⟨w.heap.size,0,none⟩) 1 1) (w.alloc (.cells cells e)):=by
  have hf2:Instr.fill (fun i=>some (i*sz,sz)) ((Array.range (1*sz)).map (z.cells[· % z.cells.size]!)) [(0,a.eval x)]=some cells:=hfill
  simp only [Instr.buildSlice,Sem.run_bind,run_underlying hu,Result.andThen_ok,hsz,Sem.run_ite,hnot,if_false,Sem.run_pure,if_neg hne0,hzr,hf2,newRow,run_newObj]
  rfl
 have h2:=hE.newMem m (hd m hm) cells e _ hrows
 refine wp_run (v:=.slice (some ⟨w.heap.size,0,none⟩) 1 1) (w':=w.alloc (.cells cells e)) ?_ ⟨_,⟨by rfl,h⟩,?_⟩
 ·have:(#[(0,x)].map fun(i,x)=>(i,a.eval x):Array (Nat×Value))= #[(0,a.eval x)]:=by simp
  simp only [execOp,ho,Sem.run_bind,this,hrun,Result.andThen_ok,Sem.run_pure]
 ·rw [hm]
  refine⟨_,h2.putOnly (fun d hd'=>by injection hd' with hd';subst hd';exact hd m hm) (.one _ _ ?_)⟩
  have:=VT.ba (w:=w.alloc (.cells cells e)) (E:=E.setρ m w.heap.size) m sz 0 1 1 (Nat.le_refl _) (by simp [maxLen])
  simp only [Env.setρ,if_true,Nat.zero_mul]at this
  exact this
end
end
end Go.Dl
/- The logic of data: a region in the order of its text. -/
namespace Go.Dl
open Go.RowKit
noncomputable section
section
variable {P : Program}
def wantD(ops:List Oper)(s:DS)(o:Oper):Option Bool:=
 match o.guard with
 | none=>some true
 | some (j,want)=>match (ops[j]?).bind (·.dst)with
  | some t=>match s.sl t with
   | .one (.c (.lit (.bool b)))=>some (b==want)
   | .tup []=>some false
   | _=>none
  | none=>none
theorem wantD_ok{ops:List Oper}{s:DS}{o:Oper}{t:Bool}(h:wantD ops s o=some t){X:Origin}{a:Act}{w:World}(hr:Rel X s a w):Region.wanted o (yielded ops.toArray a.tmps)=t:=by
 unfold wantD at h
 unfold Region.wanted
 split at h
 ·rename_i hg;injection h with h;rw [hg];exact h
 ·rename_i j want hg
  rw [hg]
  simp only
  split at h
  ·rename_i u hu
   split at h
   ·rename_i b hb
    injection h with h
    obtain⟨E,hE⟩:=hr
    have hv:=hE.sl u
    rw [hb]at hv
    have hv':=hv.lit
    have hlt:u<a.tmps.size:=by
     rcases Nat.lt_or_ge u a.tmps.size with h1|h1
     ·exact h1
     ·simp [undef,Array.getElem?_eq_none h1]at hv'
    have hsome:a.tmps[u]? =some (.bool b):=by
     simp [hlt]at hv'
     simp [hlt,hv']
    have hy:yielded ops.toArray a.tmps j=some b:=by
     unfold yielded
     have:(ops.toArray[j]?).bind (·.dst)=some u:=by simpa using hu
     rw [this]
     simp [hsome]
    rw [hy,← h]
    cases b<;>cases want<;>rfl
   ·rename_i hb
    injection h with h
    obtain⟨E,hE⟩:=hr
    have hv:=hE.sl u
    rw [hb]at hv
    have hy:yielded ops.toArray a.tmps j=none:=by
     unfold yielded
     have:(ops.toArray[j]?).bind (·.dst)=some u:=by simpa using hu
     rw [this]
     simp only [Option.bind_some]
     split
     ·rename_i b hb'
      exfalso
      have:a.tmps.getD u undef= .bool b:=by simp [hb']
      rw [this]at hv
      cases hv
     ·rfl
    rw [hy,← h]
    cases want<;>rfl
   ·cases h
  ·cases h
def guardS(P:Program)(ops:List Oper)(o:Oper)(s:DS)(K:DS→Prop):Prop:=
 match wantD ops s o with
 | some t=>if t=true then Step P o s K else K (s.put o.dst (.tup []))
 | none=>False
def walkS(P:Program)(ops:List Oper):List Oper→DS→(DS→Prop)→Prop
 | [],s,K=>K s
 | o::l,s,K=>guardS P ops o s fun s'=>walkS P ops l s' K
def noDf(o:Oper):Bool:=match o.op with| .defer _=>false|_=>true
def dstB(l:List Oper)(n:Nat):Bool:=l.all fun o=>noDf o&&match o.dst with|some d=>d<n|none=>true
theorem noDf_spec{o:Oper}(h:noDf o=true): ∀c,o.op≠ .defer c:=fun c e=>by simp [noDf,e]at h
theorem dstB_cons{o:Oper}{l:List Oper}{n:Nat}(h:dstB (o::l) n=true):(∀c,o.op≠ .defer c)∧(∀d,o.dst=some d→d<n)∧dstB l n=true:=by
 simp only [dstB,List.all_cons,Bool.and_eq_true]at h
 refine⟨noDf_spec h.1.1,fun d hd=>?_,h.2⟩
 have:=h.1.2
 rw [hd]at this
 simpa using this
theorem wpIn_of_wp{ro:Option Nat}{o:Oper}(hd: ∀c,o.op≠ .defer c){a:Act}{w:World}{K:Act→World→Prop}{Q:Exit→Act→World→Prop}(h:o.wp P a w K Q):o.wpIn (rd ro) 0 P a w K Q:=by
 refine⟨fun f _=>rd_fn ro f,?_⟩
 rw [rd_round,Oper.semAt_eq ro _ o hd]
 unfold Oper.wp at h
 revert h
 generalize (execOp a.eval o).run P w=r
 intro h
 have calls: ∀{f args w R},Calls P f args w R→CallsIn (rd ro) (0 - 1) P f args w R:=fun h=>by
  have h1:=callsIn_wide (n:=0 - 1).2 h
  cases ro with
  | none=>exact h1
  | some l=>exact h1
 cases r with
 | ok x w'=>
  cases x<;>simp only [Oper.upon,Oper.uponIn]at h ⊢
  case value v=>exact h
  case skip=>exact h
  case defer d=>exact h
  case enter f args=>exact⟨fun e=>(by rw [rd_depth]at e;cases e),calls h⟩
  case row row args=>
   refine⟨fun e=>(by rw [rd_depth]at e;cases e),fun c cs _=>?_⟩
   obtain⟨v,w'',h1,h2⟩:=h c cs
   exact⟨v,w'',h1,by rw [rd_fenced];exact stepsIn_wide.2 h2⟩
 | halt x w'=>cases x<;>simp only [Oper.upon,Oper.uponIn]at h ⊢ <;>exact h
theorem putAny{X:Origin}{s:DS}{a:Act}{w:World}(h:Rel X s a w){dst:Option Nat}(hd: ∀d,dst=some d→d<s.n):Rel X (s.put dst (.tup [])) (a.put dst undef) w:=by
 obtain⟨E,hE⟩:=h
 exact⟨E,hE.putOnly hd (.tup [] #[] rfl (fun j d v h1 _=>by simp at h1))⟩
theorem walk_ok{ro:Option Nat}{Q':Exit→Act→World→Prop}{ops:List Oper}{X:Origin}{N:Nat}{K:DS→Prop}(hK: ∀s a w,K s→Rel X s a w→Q' .normal a w): ∀(l:List Oper) (s:DS) (a:Act) (w:World),dstB l N=true→s.n=N→Rel X s a w→
  walkS P ops l s K→wpListIn (rd ro) 0 P ops.toArray Q' l a w
 | [],s,a,w,_,hn,hr,h=>wpListIn_nil (hK s a w h hr)
 | o::l,s,a,w,hb,hn,hr,h=>by
  obtain⟨h0,h1,h2⟩:=dstB_cons hb
  refine wpListIn_step fun K' hK'=>?_
  simp only [walkS,guardS]at h
  split at h
  ·rename_i t ht
   rw [wantD_ok ht hr]
   split at h
   ·rename_i h3
    rw [if_pos h3]
    refine wpIn_of_wp h0 (Oper.wp_mono ?_ (h (fun d hd=>by rw [hn];exact h1 d hd) X a w hr Q'))
    rintro a' w' ⟨s',⟨hn',hs'⟩,hr'⟩
    exact hK' _ _ (walk_ok hK l s' a' w' h2 (hn'.trans hn) hr' hs')
   ·rename_i h3
    rw [if_neg h3]
    refine⟨fun f _=>rd_fn ro f,?_⟩
    exact hK' _ _ (walk_ok hK l _ _ w h2 (by rw [put_n];exact hn) (putAny hr (fun d hd=>by rw [hn];exact h1 d hd)) h)
  ·exact h.elim
theorem dw_region{id:Nat}{l:List Oper}{s:DS}{Q:Exit→DS→Prop}(hb:dstB l s.n=true)(h:walkS P l l s (Q .normal)):DW P (.region id l.toArray false) s Q:=by
 intro X a w hr
 refine wpIn_region_lit (walk_ok (X:=X) (K:=Q .normal) (fun s a w h1 h2=>⟨s,h1,h2⟩) l s a w hb rfl hr h)
theorem builtin_resolve1(b:Builtin)(ρ:Operand→Value)(x:Operand)(t ty:TypeId)(w:World): ∃cs,(resolve ρ { callee:=.builtin b,args:= #[x],argTypes:= #[t] } ty).run P w= .ok { target:=.builtin b #[t] ty cs,args:= #[ρ x] } w:=
 ⟨_,by simp only [resolve,List.map_toArray,List.map_cons,List.map_nil,Sem.run_pure];rfl⟩
theorem Step.clear{o:Oper}{s:DS}{K:DS→Prop}{n sz by_ i len cap:Nat}{x:Operand}{t:TypeId}{rows:Rows}(ho:o.op= .call { callee:=.builtin .clear,args:= #[x],argTypes:= #[t] })
  (hinfo:appInfo P t=some (sz,by_)) (hx:s.ev x= .one (.ba n sz i len cap)) (hn:s.bx n=some rows) (hcap:i+len≤rows.length) (hz:RowsSz sz rows)
  (h:K ((s.setBx n (some (rows.take i++(anyRows len sz++rows.drop (i+len))))).put o.dst (.tup []))):Step P o s K:=by
 rintro hd X a w ⟨E,hE⟩ Q
 have hvx:=hE.ev x
 rw [hx]at hvx
 obtain⟨w',hrun,hE'⟩:=clearBa (P:=P) (ty:=o.type) hinfo hE hvx hn hcap hz
 obtain⟨cs,hres⟩:=builtin_resolve1 (P:=P) .clear a.eval x t o.type w
 refine wp_run (v:=.tuple #[]) (w':=w') ?_ ⟨_,⟨by rw [put_n];rfl,h⟩,?_⟩
 ·unfold execOp
  simp only [ho,Sem.run_bind]
  rw [hres]
  simp only [Result.andThen_ok,invoke,builtin,Sem.run_bind,hrun,Sem.run_pure]
 ·exact⟨E,hE'.putOnly hd (.tup [] #[] rfl (fun j d v h1 _=>by simp at h1))⟩
theorem dw_frz{c:Code}{s:DS}{Q:Exit→DS→Prop}(n sz:Nat)(cs:List (List C))(js:Rows)(hpos:0<sz)(hn:s.bx n=some (cs.map (List.map T.c)++js))(hz: ∀r∈cs,r.length=sz)(h:DW P c (s.frz n sz cs) Q):DW P c s Q:=
 dw_weaken (fun X a w ⟨E,hE⟩=>hE.frz hpos hn hz) h
end
end
end Go.Dl
/- The logic of data: a region whose order is drawn: the only operation that may come up; one that looks at no memory, taken first. -/
namespace Go.Dl
open Go.RowKit
noncomputable section
section
variable {P : Program}
def QN(X:Origin)(K:DS→Prop)(e:Exit)(a:Act)(w:World):Prop:=e= .normal∧∃s',K s'∧Rel X s' a w
def AnyOk(P:Program)(ops:List Oper)(N:Nat)(K:DS→Prop)(fuel:Nat)(listed:Array Bool)(s:DS):Prop:=
 s.n=N→∀X a w,Rel X s a w→wpAny P .any ops.toArray (QN X K) fuel listed a w
theorem any_done{ops:List Oper}{N:Nat}{K:DS→Prop}{fuel:Nat}{listed:Array Bool}{s:DS}(hr:Region.ready .any ops.toArray listed= [])(h:K s):AnyOk P ops N K fuel listed s:=
 fun _ X a w hrel=>wpAny_done hr ⟨rfl,s,h,hrel⟩ fuel
theorem dst_of{ops:List Oper}{N:Nat}(hb:dstB ops N=true){i:Nat}{o:Oper}(ho:ops[i]? =some o): ∀d,o.dst=some d→d<N:=fun d hd=>by
 have:=List.all_eq_true.1 hb o (List.mem_of_getElem? ho)
 rw [hd]at this
 simp only [Bool.and_eq_true]at this
 simpa using this.2
theorem df_of{ops:List Oper}{N:Nat}(hb:dstB ops N=true){i:Nat}{o:Oper}(ho:ops[i]? =some o): ∀c,o.op≠ .defer c:=by
 have:=List.all_eq_true.1 hb o (List.mem_of_getElem? ho)
 simp only [Bool.and_eq_true]at this
 exact noDf_spec this.1
theorem ops_in{ro:Option Nat}{ops:Array Oper}{Q:Exit→Act→World→Prop}(hQ: ¬LetsOut Q)(hd: ∀(i:Nat) (o:Oper),ops[i]? =some o→∀c,o.op≠ .defer c): ∀(l:List Nat) (a:Act) (w:World),wpOps P ops Q l a w→wpOpsIn (rd ro) 0 P ops Q l a w
 | [],_,_,h=>h
 | i::l,a,w,h=>by
  simp only [wpOps,wpOpsIn]at h ⊢
  cases ho:ops[i]? with
  | none=>rw [ho]at h;exact ops_in hQ hd l a w h
  | some o=>
   rw [ho]at h
   simp only at h ⊢
   split
   ·rename_i h3
    rw [if_pos h3]at h
    rcases h with h|⟨_,h⟩
    ·exact wpIn_of_wp (hd i o ho) (Oper.wp_mono (fun a' w' h'=>ops_in hQ hd l a' w' h') h)
    ·exact(hQ h).elim
   ·rename_i h3
    rw [if_neg h3]at h
    exact⟨fun f _=>rd_fn ro f,ops_in hQ hd l _ w h⟩
def Blind(P:Program)(s:DS)(o:Oper)(d:D):Prop:=
 ∀(X:Origin) (E:Env) (a:Act) (w:World),RelE X s E a w→∃v,(∀w',(execOp a.eval o).run P w'= .ok (.value v) w')∧VD w E d v
theorem any_blind{ops:List Oper}{N:Nat}(hb:dstB ops N=true){K:DS→Prop}{fuel:Nat}{listed:Array Bool}{s:DS}{i:Nat}{o:Oper}{d:D}(ho:ops[i]? =some o)(hs:Region.noSelect ops.toArray=true)
  (hf:Region.free .any ops.toArray listed i=true) (hr:(Region.ready .any ops.toArray listed).contains i=true) (hw:wantD ops s o=some true) (hy:Blind P s o d)
  (h:AnyOk P ops N K fuel (listed.setIfInBounds i true) (s.put o.dst d)):AnyOk P ops N K (fuel+1) listed s:=by
 rintro hn X a w ⟨E,hE⟩
 have hd:=dst_of hb ho
 obtain⟨v,h1,h2⟩:=hy X E a w hE
 have hrel:Rel X (s.put o.dst d) (a.put o.dst v) w:=⟨E,hE.putOnly (fun d' hd'=>by rw [hn];exact hd d' hd') h2⟩
 exact wpAny_take (by simpa using ho) hs hf hr (fun c a w hq=>absurd hq.1 (by simp)) (.inl ⟨wantD_ok hw ⟨E,hE⟩,h1⟩) (h (by rw [put_n];exact hn) X _ w hrel)
theorem any_not{ops:List Oper}{N:Nat}(hb:dstB ops N=true){K:DS→Prop}{fuel:Nat}{listed:Array Bool}{s:DS}{i:Nat}{o:Oper}(ho:ops[i]? =some o)(hs:Region.noSelect ops.toArray=true)
  (hf:Region.free .any ops.toArray listed i=true) (hr:(Region.ready .any ops.toArray listed).contains i=true) (hw:wantD ops s o=some false)
  (h:AnyOk P ops N K fuel (listed.setIfInBounds i true) (s.put o.dst (.tup []))):AnyOk P ops N K (fuel+1) listed s:=by
 rintro hn X a w hrel
 have hd:=dst_of hb ho
 exact wpAny_take (by simpa using ho) hs hf hr (fun c a w hq=>absurd hq.1 (by simp)) (.inr ⟨wantD_ok hw hrel,rfl⟩) (h (by rw [put_n];exact hn) X _ w (putAny hrel (fun d' hd'=>by rw [hn];exact hd d' hd')))
theorem dw_any{id:Nat}{l:List Oper}{s:DS}{Q:Exit→DS→Prop}(hb:dstB l s.n=true)(hm:P.follows .mixedOrders=true)(h:AnyOk P l s.n (Q .normal) l.length (Array.replicate l.length false) s):DW P (.region id l.toArray true) s Q:=by
 intro X a w hr
 have hr':Rel X s a { w with drawn:=w.drawn+1 }:=by
  obtain⟨E,hE⟩:=hr
  exact⟨E,hE.quiet ⟨(Below.refl _ _).drew,fun _ _ h=>h,fun _ _ _ h=>h,hE.wi.kok.move (fun _ _ _=>rfl) (hE.wi.kok.z.below ((Below.refl _ _).drew)),rfl,rfl⟩⟩
 refine wpIn_mono (Q:=QN X (Q .normal)) (wpIn_region_draw fun t=>?_) ?_
 ·refine ops_in (Q:=QN X (Q .normal)) (fun⟨_,_,h,_⟩=>by cases h) (fun i o ho=>df_of hb (by simpa using ho)) _ _ _ ?_
  simp only [Region.schedule,hm,Bool.true_or,if_true]
  exact wpAny_sound l.toArray.size t _ a _ (by simpa using h rfl X a _ hr')
 rintro e a' w' ⟨rfl,s',h1,h2⟩
 exact⟨s',h1,h2⟩
end
end
end Go.Dl
/- The logic of data: operations that look at no memory. -/
namespace Go.Dl
open Go.RowKit
noncomputable section
section
variable {P : Program} {s : DS} {o : Oper}
theorem blind_move{x:Operand}(ho:o.op= .move x):Blind P s o (s.ev x):=fun X E a w hE=>⟨a.eval x,fun w'=>by simp [execOp,ho],hE.ev x⟩
theorem blind_assign{x:Operand}(ho:o.op= .assign x):Blind P s o (s.ev x):=fun X E a w hE=>⟨a.eval x,fun w'=>by simp [execOp,ho],hE.ev x⟩
theorem blind_nilCheck{x:Operand}{n sz i k:Nat}(ho:o.op= .nilCheck x)(hx:s.ev x= .one (.bx n sz i k)):Blind P s o (.one (.bx n sz i k)):=fun X E a w hE=>by
 have hv:=hE.ev x
 rw [hx]at hv
 have e:=hv.bx_inv
 exact⟨a.eval x,fun w'=>by simp only [execOp,ho,e,Sem.run_pure],hv⟩
theorem blind_fieldAddr{t:TypeId}{x:Operand}{f off n sz i k:Nat}(ho:o.op= .fieldAddr t x f)(hf:Program.fieldOff P t f=some off)(hx:s.ev x= .one (.bx n sz i k)):Blind P s o (.one (.bx n sz i (k+off))):=fun X E a w hE=>by
 have hv:=hE.ev x
 rw [hx]at hv
 have e:=hv.bx_inv
 refine⟨.pointer (some ((⟨E.ρ n,i*sz+k,none⟩:Addr).add off)),fun w'=>by simp only [execOp,ho,Sem.run_bind,e,fieldOff_ok hf,Result.andThen_ok,Sem.run_pure],?_⟩
 rw [add_none,Nat.add_assoc]
 exact .one _ _ (.bx n sz i (k+off))
theorem blind_binOp{op:BinOp}{t ty:TypeId}{x y:Operand}{u v r:Value}(ho:o.op= .binOp op t x y ty)(hx:s.ev x= .one (.c (.lit u)))(hy:s.ev y= .one (.c (.lit v)))(hr:binD P op t (.one (.c (.lit u))) (.one (.c (.lit v)))=some r)(hu:u.oneCell'=true)(hv:v.oneCell'=true):
  Blind P s o (.one (.c (.lit r))):=fun X E a w hE=>by
 have h1:=hE.ev x
 have h2:=hE.ev y
 rw [hx]at h1
 rw [hy]at h2
 have e1:=h1.lit
 have e2:=h2.lit
 have key: ∀w',((do eqGuard op t x y (a.eval x) (a.eval y);binOp op t (a.eval x) (a.eval y)):Sem Value).run P w'= .ok r w'∧r.oneCell'=true:=fun w'=>by
  rw [e1,e2]
  exact binD_ok (w:=w') (E:=E) hr (.one _ _ (.c _ _ (.lit _ hu))) (.one _ _ (.c _ _ (.lit _ hv))) x y
 refine⟨r,fun w'=>?_,.one _ _ (.c _ _ (.lit _ (key w).2))⟩
 have:=(key w').1
 simp only [execOp,ho,Sem.run_bind]at this ⊢
 rw [this];rfl
theorem blind_index{t:TypeId}{x y:Operand}{n sz i len cap:Nat}{k:IntKind}{j:Int}(ho:o.op= .indexAddr t x y)(he:Program.elemSz P t=some sz)(hx:s.ev x= .one (.ba n sz i len cap))(hy:s.ev y= .one (.c (.lit (.int k j))))(hj:0≤j)(hl:j.toNat<len):
  Blind P s o (.one (.bx n sz (i+j.toNat) 0)):=fun X E a w hE=>by
 obtain⟨e,inf,hu,hi,hsz,hpos⟩:=elemSz_ok he
 have hv:=hE.ev x
 have hw:=hE.ev y
 rw [hx]at hv
 rw [hy]at hw
 have ey:=hw.lit
 have hb:(0≤j∧j<(len:Int)):=by omega
 cases hux:a.eval x with
 | slice A l c=>
  rw [hux]at hv
  cases hv with|one t' v hv=>cases hv with
   | ba _ _ _ _ _ h1 h2=>
    refine⟨.pointer (some ⟨E.ρ n,(i+j.toNat)*sz+0,none⟩),fun w'=>?_,.one _ _ (.bx n sz (i+j.toNat) 0)⟩
    simp [execOp,ho,hux,ey,Instr.indexAt,asIntOf,run_underlying hu,hb,sizeOf,typeInfo,hi,hsz,add_none,Nat.add_mul]
   | bz=>omega
 | _=>rw [hux]at hv;cases hv with|one t' v hv=>cases hv
end
end
end Go.Dl
/- The logic of data: a quiet operation looks at its operands alone. -/
namespace Go.Dl
open Go.RowKit
noncomputable section
section
variable {P : Program}
theorem QD_mono{ev:Operand→D}{bx:Mem}{op:Op}{K K':D→Prop}(hk: ∀d,K d→K' d)(h:QD P ev bx op K):QD P ev bx op K':=by
 cases op with
 | indexAddr t x i=>
  revert h
  simp only [QD]
  split
  ·exact fun h=>⟨h.1,h.2.1,h.2.2.1,hk _ h.2.2.2⟩
  ·split
   ·rintro⟨g1,g2,r,g3,g4⟩;exact⟨g1,g2,r,g3,hk _ g4⟩
   ·exact id
  ·exact id
 | call c=>
  obtain⟨callee,args,tys⟩:=c
  cases callee with
  | value f=>
   simp only [QD]at h ⊢
   obtain⟨g,caps,ds,r,h1,h2,h3,h4⟩:=h
   exact⟨g,caps,ds,r,h1,h2,h3,hk _ h4⟩
  | invoke r m=>exact h.elim
  | builtin b=>
   cases b with
   | len=>
    revert h
    simp only [QD]
    split
    ·split
     ·exact hk _
     ·exact id
    ·exact id
   | cap=>
    revert h
    simp only [QD]
    split
    ·split
     ·exact hk _
     ·exact id
    ·exact id
   | _=>
    revert h
    simp only [QD]
    split
    ·exact hk _
    ·exact id
 | makeFunc fn first captured=>
  cases fn with
  | func f=>
   revert h
   simp only [QD]
   split
   ·split
    ·exact hk _
    ·exact id
   ·exact id
  | _=>exact h.elim
 | move x=>exact hk _ h
 | assign x=>exact hk _ h
 | extract x i=>
  revert h
  simp only [QD]
  split
  ·split
   ·exact hk _
   ·exact id
  ·exact id
 | pick=>revert h;simp only [QD];split<;>first|exact hk _|exact id
 | load=>revert h;simp only [QD];split<;>first|exact hk _|exact id
 | build=>revert h;simp only [QD];split<;>first|exact hk _|exact id
 | buildSlice=>revert h;simp only [QD];split<;>first|exact hk _|exact id
 | binOp=>revert h;simp only [QD];split<;>first|exact hk _|exact id
 | unOp=>revert h;simp only [QD];split<;>first|exact hk _|exact id
 | convert=>revert h;simp only [QD];split<;>first|exact hk _|exact id
 | index=>revert h;simp only [QD];split<;>first|exact hk _|exact id
 | fieldAddr=>revert h;simp only [QD];split<;>first|exact hk _|exact id
 | field=>revert h;simp only [QD];split<;>first|exact hk _|exact id
 | slice=>revert h;simp only [QD];split<;>first|exact hk _|exact id
 | nilCheck=>revert h;simp only [QD];split<;>first|exact hk _|exact id
 | _=>exact h.elim
theorem QD_congr{ev ev':Operand→D}{bx:Mem}{op:Op}{K:D→Prop}(h: ∀x∈op.operands,ev x=ev' x)(hq:QD P ev bx op K):QD P ev' bx op K:=by
 have pairs: ∀(ps:Array (Nat×Operand)),(∀p∈ps.toList,ev p.2=ev' p.2)→(ps.toList.map fun p=>(p.1,ev p.2))=ps.toList.map fun p=>(p.1,ev' p.2):=fun ps hp=>
  List.map_congr_left fun p hm=>by rw [hp p hm]
 cases op with
 | move x=>simp only [QD]at hq ⊢;rw [← h x (by simp [Op.operands])];exact hq
 | assign x=>simp only [QD]at hq ⊢;rw [← h x (by simp [Op.operands])];exact hq
 | pick c a b=>
  simp only [QD]at hq ⊢
  rw [← h c (by simp [Op.operands]),← h a (by simp [Op.operands]),← h b (by simp [Op.operands])];exact hq
 | load t x=>simp only [QD]at hq ⊢;rw [← h x (by simp [Op.operands])];exact hq
 | build t parts=>
  simp only [QD]at hq ⊢
  rw [← pairs parts fun p hp=>h p.2 (by simp only [Op.operands,List.mem_toArray,List.mem_map];exact⟨p,hp,rfl⟩)];exact hq
 | buildSlice t n parts=>
  simp only [QD]at hq ⊢
  rw [← pairs parts fun p hp=>h p.2 (by simp only [Op.operands,List.mem_toArray,List.mem_map];exact⟨p,hp,rfl⟩)];exact hq
 | binOp op t x y ty=>simp only [QD]at hq ⊢;rw [← h x (by simp [Op.operands]),← h y (by simp [Op.operands])];exact hq
 | unOp op t x=>simp only [QD]at hq ⊢;rw [← h x (by simp [Op.operands])];exact hq
 | convert s d x=>simp only [QD]at hq ⊢;rw [← h x (by simp [Op.operands])];exact hq
 | index t x i=>simp only [QD]at hq ⊢;rw [← h x (by simp [Op.operands]),← h i (by simp [Op.operands])];exact hq
 | fieldAddr t x f=>simp only [QD]at hq ⊢;rw [← h x (by simp [Op.operands])];exact hq
 | field t x f=>simp only [QD]at hq ⊢;rw [← h x (by simp [Op.operands])];exact hq
 | indexAddr t x i=>simp only [QD]at hq ⊢;rw [← h x (by simp [Op.operands]),← h i (by simp [Op.operands])];exact hq
 | slice t x lo hi mx=>
  have e1:ev x=ev' x:=h x (by simp [Op.operands])
  have e2:lo.map ev=lo.map ev':=by cases lo with|none=>rfl|some l=>simp [h l (by simp [Op.operands])]
  have e3:hi.map ev=hi.map ev':=by cases hi with|none=>rfl|some l=>simp [h l (by simp [Op.operands])]
  have e4:mx.map ev=mx.map ev':=by cases mx with|none=>rfl|some l=>simp [h l (by simp [Op.operands])]
  simp only [QD]at hq ⊢
  rw [← e1,← e2,← e3,← e4];exact hq
 | call c=>
  obtain⟨callee,args,tys⟩:=c
  have ha: ∀x∈args.toList,ev x=ev' x:=fun x hx=>h x (by simp only [Op.operands,Call.operands,Array.mem_append];exact .inr (Array.mem_toList_iff.1 hx))
  cases callee with
  | value f=>
   have hf:ev f=ev' f:=h f (by simp [Op.operands,Call.operands])
   simp only [QD]at hq ⊢
   rw [← hf,← List.map_congr_left ha];exact hq
  | invoke r m=>exact hq.elim
  | builtin b=>
   cases b with
   | len=>
    revert hq
    simp only [QD]
    split
    ·rename_i x t hx ht
     rw [← ha x (by rw [hx];simp)];exact id
    ·exact id
   | cap=>
    revert hq
    simp only [QD]
    split
    ·rename_i x t hx ht
     rw [← ha x (by rw [hx];simp)];exact id
    ·exact id
   | _=>
    simp only [QD]at hq ⊢
    rw [← List.map_congr_left ha];exact hq
 | extract x i=>simp only [QD]at hq ⊢;rw [← h x (by simp [Op.operands])];exact hq
 | nilCheck x=>simp only [QD]at hq ⊢;rw [← h x (by simp [Op.operands])];exact hq
 | makeFunc fn first captured=>
  cases fn with
  | func f=>
   have hc:captured.toList.map ev=captured.toList.map ev':=List.map_congr_left fun x hx=>h x (by simp only [Op.operands,Array.mem_append];exact .inr (Array.mem_toList_iff.1 hx))
   simp only [QD]at hq ⊢
   rw [← hc];exact hq
  | _=>exact hq.elim
 | _=>exact hq.elim
end
end
end Go.Dl
/- The logic of data: a region whose order is drawn: light operations, taken in one order that serves for all. -/
namespace Go.Dl
open Go.RowKit
noncomputable section
section
variable {P : Program}
def lightB(o:Oper):Bool:=
 match o.op with
 | .move _| .assign _| .pick _ _ _| .load _ _| .build _ _| .buildSlice _ _ _| .binOp _ _ _ _ _| .unOp _ _ _| .convert _ _ _| .fieldAddr _ _ _| .field _ _ _| .index _ _ _| .indexAddr _ _ _| .slice _ _ _ _ _| .extract _ _| .nilCheck _| .makeFunc _ _ _=>true
 | .call ⟨.value _,_,_⟩| .call ⟨.builtin .len,_,_⟩| .call ⟨.builtin .cap,_,_⟩| .call ⟨.builtin .min,_,_⟩| .call ⟨.builtin .max,_,_⟩=>true
 | _=>false
def AL(P:Program)(ops:List Oper)(o:Oper)(s:DS)(K:DS→Prop):Prop:=
 match wantD ops s o with
 | some true=>∃d,QD P s.ev s.bx o.op (· =d)∧K (s.put o.dst d)
 | some false=>K (s.put o.dst (.tup []))
 | none=>False
def AFc(P:Program)(o:Oper)(s:DS)(K:DS→Prop):Prop:=
 ∃f args tys g caps ds R,o.op= .call { callee:=.value f,args:=args,argTypes:=tys }∧(s.ev f).asFn=some (g,caps)∧DLeL ((args.toList.map s.ev++caps.map D.one).map (D.tr (shfM noMid []))) ds∧
  ECalls P g ds noMem R∧CallOkM noMid [] o.dst∧∀r H',R r H'→K (s.aftCallM noMid [] o.dst r H')
def AFb(P:Program)(o:Oper)(s:DS)(K:DS→Prop):Prop:=
 ∃m t x ns sz by_,o.op= .buildSlice t 1 #[(0,x)]∧o.dst=some m∧appInfo P t=some (sz,by_)∧sz≤16777216∧(s.ev x).cells=some ns∧ns.length=sz∧m<1000∧K ((s.newMem m [ns]).put (some m) (.one (.ba m sz 0 1 1)))
def AF(P:Program)(ops:List Oper)(o:Oper)(s:DS)(K:DS→Prop):Prop:=
 wantD ops s o=some true∧(AFc P o s K∨AFb P o s K)
inductive Kind where
 | light
 | fresh
 | step
def TD(P:Program)(ops:List Oper)(k:Nat→Kind)(i:Nat)(s:DS)(K:DS→Prop):Prop:=
 match ops[i]? with
 | none=>K s
 | some o=>match k i with
  | .light=>AL P ops o s K
  | .fresh=>AF P ops o s K
  | .step=>guardS P ops o s K
theorem AF_mono{ops:List Oper}{o:Oper}{s:DS}{K K':DS→Prop}(hk: ∀s,K s→K' s)(h:AF P ops o s K):AF P ops o s K':=by
 obtain⟨h0,⟨f,args,tys,g,caps,ds,R,h1,h2,h3,h4,h6,h5⟩|⟨m,t,x,ns,sz,by_,h1,h2,h3,h4,h5,h6,h7,h8⟩⟩:=h
 ·exact⟨h0,.inl ⟨f,args,tys,g,caps,ds,R,h1,h2,h3,h4,h6,fun r H' hr=>hk _ (h5 r H' hr)⟩⟩
 ·exact⟨h0,.inr ⟨m,t,x,ns,sz,by_,h1,h2,h3,h4,h5,h6,h7,hk _ h8⟩⟩
theorem AF_guard{ops:List Oper}{o:Oper}{s:DS}{K:DS→Prop}(h:AF P ops o s K):guardS P ops o s K:=by
 obtain⟨h0,⟨f,args,tys,g,caps,ds,R,h1,h2,h3,h4,h6,h5⟩|⟨m,t,x,ns,sz,by_,h1,h2,h3,h4,h5,h6,h7,h8⟩⟩:=h
 ·unfold guardS
  simp only [h0,if_true]
  exact Step.callM noMid h1 h2 h3 h4 (fun k r hk=>by cases hk) h6 h5
 ·unfold guardS
  simp only [h0,if_true]
  exact Step.buildOne h1 h2 h3 h4 h5 h6 h8
theorem AL_mono{ops:List Oper}{o:Oper}{s:DS}{K K':DS→Prop}(hk: ∀s,K s→K' s)(h:AL P ops o s K):AL P ops o s K':=by
 unfold AL at*
 split
 ·rename_i hw;simp only [hw]at h;obtain⟨d,h1,h2⟩:=h;exact⟨d,h1,hk _ h2⟩
 ·rename_i hw;simp only [hw]at h;exact hk _ h
 ·rename_i hw;simp only [hw]at h
theorem AL_guard{ops:List Oper}{o:Oper}{s:DS}{K:DS→Prop}(h:AL P ops o s K):guardS P ops o s K:=by
 unfold AL at h
 unfold guardS
 split at h
 ·rename_i hw
  simp only [hw,if_true]
  obtain⟨d,h1,h2⟩:=h
  exact Step.quiet (QD_mono (K:=(· =d)) (fun d' (hd':d'=d)=>by rw [hd'];exact h2) h1)
 ·rename_i hw
  simp only [hw,Bool.false_eq_true,if_false];exact h
 ·exact h.elim
/-! ### Two light operations that are apart -/
theorem ev_put{s:DS}{dst:Option Nat}{d:D}{x:Operand}(h: ∀t,dst=some t→x≠ .tmp t):(s.put dst d).ev x=s.ev x:=by
 cases dst with
 | none=>rfl
 | some t=>
  cases x with
  | tmp u=>
   have hne:u≠t:=fun e=>h t rfl (by rw [e])
   simp [DS.ev,DS.put,hne]
  | _=>rfl
theorem notin_looks{ops:Array Oper}{o:Oper}{t:Nat}(h:t∉o.looksAt ops): ∀x∈o.op.operands,x≠ .tmp t:=fun x hx e=>
 h (List.mem_append_left _ (List.mem_filterMap.2 ⟨.tmp t,by subst e;simpa using hx,rfl⟩))
theorem wantD_put{ops:List Oper}{s:DS}{o:Oper}{dst:Option Nat}{d:D}(h: ∀t,dst=some t→t∉o.looksAt ops.toArray):wantD ops (s.put dst d) o=wantD ops s o:=by
 unfold wantD
 cases hg:o.guard with
 | none=>rfl
 | some gw=>
  obtain⟨g,want⟩:=gw
  simp only
  cases hu:(ops[g]?).bind (·.dst)with
  | none=>rfl
  | some u=>
   simp only
   have:(s.put dst d).sl u=s.sl u:=by
    cases dst with
    | none=>rfl
    | some t=>
     have hne:u≠t:=fun e=>by
      subst e
      refine h u rfl ?_
      have hu':(ops.toArray[g]?).bind (·.dst)=some u:=by simpa using hu
      unfold Oper.looksAt
      rw [hg]
      exact List.mem_append_right _ (by simp only [hu'];simp)
     simp [DS.put,hne]
   rw [this]
theorem put_comm(s:DS){x y:Option Nat}(d e:D)(h: ∀t,x=some t→y≠some t):(s.put x d).put y e=(s.put y e).put x d:=by
 cases x with
 | none=>rfl
 | some t=>
  cases y with
  | none=>rfl
  | some u=>
   have hne:t≠u:=fun e'=>h t rfl (by rw [e'])
   simp only [DS.put]
   congr 1
   funext k
   by_cases h1:k=u
   ·have: ¬k=t:=by omega
    simp [h1,this];omega
   ·by_cases h2:k=t
    ·simp [h2];omega
    ·simp [h1,h2]
theorem QD_put{ops:Array Oper}{o:Oper}{s:DS}{dst:Option Nat}{e:D}(h: ∀t,dst=some t→t∉o.looksAt ops){K:D→Prop}:QD P (s.put dst e).ev (s.put dst e).bx o.op K↔QD P s.ev s.bx o.op K:=by
 have hev: ∀x∈o.op.operands,(s.put dst e).ev x=s.ev x:=fun x hx=>ev_put fun t ht=>notin_looks (h t ht) x hx
 have hbx:(s.put dst e).bx=s.bx:=by cases dst<;>rfl
 rw [hbx]
 exact⟨fun h=>QD_congr hev h,fun h=>QD_congr (fun x hx=>(hev x hx).symm) h⟩
theorem diamond{ops:List Oper}{oi oj:Oper}(hap:oi.apart ops.toArray oj=true){s:DS}{K:DS→Prop}(h:AL P ops oi s fun s1=>AL P ops oj s1 K):AL P ops oj s fun s2=>AL P ops oi s2 K:=by
 obtain⟨h1,h2,h3⟩:=Oper.apart_spec hap
 unfold AL at h ⊢
 have second: ∀(d:D),(match wantD ops (s.put oi.dst d) oj with
    | some true=>∃d',QD P (s.put oi.dst d).ev (s.put oi.dst d).bx oj.op (· =d')∧K ((s.put oi.dst d).put oj.dst d')
    | some false=>K ((s.put oi.dst d).put oj.dst (.tup []))
    | none=>False)→
   (match wantD ops s oj with
    | some true=>∃d',QD P s.ev s.bx oj.op (· =d')∧K ((s.put oj.dst d').put oi.dst d)
    | some false=>K ((s.put oj.dst (.tup [])).put oi.dst d)
    | none=>False):=by
  intro d
  rw [wantD_put h1]
  split
  ·rintro⟨d',g1,g2⟩
   exact⟨d',(QD_put h1).1 g1,by rw [← put_comm s d d' h2];exact g2⟩
  ·intro g;rw [← put_comm s d (.tup []) h2];exact g
  ·exact id
 split at h
 ·rename_i hw
  obtain⟨d,hy,hK⟩:=h
  have hs:=second d hK
  split at hs
  ·rename_i hwj
   obtain⟨d',g1,g2⟩:=hs
   exact⟨d',g1,by dsimp only;rw [wantD_put h3,hw];exact⟨d,(QD_put h3).2 hy,g2⟩⟩
  ·rename_i hwj
   dsimp only
   rw [wantD_put h3,hw]
   exact⟨d,(QD_put h3).2 hy,hs⟩
  ·exact hs.elim
 ·rename_i hw
  have hs:=second (.tup []) h
  split at hs
  ·rename_i hwj
   obtain⟨d',g1,g2⟩:=hs
   exact⟨d',g1,by dsimp only;rw [wantD_put h3,hw];exact g2⟩
  ·rename_i hwj
   dsimp only
   rw [wantD_put h3,hw]
   exact hs
  ·exact hs.elim
 ·exact h.elim
def anyD(P:Program)(ops:List Oper)(k:Nat→Kind)(K:DS→Prop):Nat→Array Bool→DS→Prop
 | 0,listed,s=>Region.ready .any ops.toArray listed= []∧K s
 | fuel+1,listed,s=>(Region.ready .any ops.toArray listed= []→K s)∧∀i∈Region.ready .any ops.toArray listed,TD P ops k i s (anyD P ops k K fuel (listed.setIfInBounds i true))
end
end
end Go.Dl
/- The logic of data: a region whose order is drawn: one order serves for all. -/
namespace Go.Dl
open Go.RowKit
noncomputable section
section
variable {P : Program}
def depB(ops:List Oper)(listed:Array Bool)(i:Nat)(D:List Nat):Bool:=
 D.all fun k=> !listed.getD k true&&k !=i&&match ops[k]? with
  | some o=>o.after.any fun e=>Region.binds .any e&&(e.on==i||D.contains e.on)
  | none=>false
def restB(ops:List Oper)(k:Nat→Kind)(listed:Array Bool)(i:Nat)(D:List Nat):Bool:=
 match ops[i]? with
 | none=>false
 | some oi=>(List.range ops.length).all fun j=>j==i||listed.getD j true||D.contains j||match ops[j]? with
  | some oj=>(match k j with| .light=>true|_=>false)&&oi.apart ops.toArray oj
  | none=>true
theorem TD_mono{ops:List Oper}{k:Nat→Kind}{i:Nat}{s:DS}{K K':DS→Prop}(hk: ∀s,K s→K' s)(h:TD P ops k i s K):TD P ops k i s K':=by
 unfold TD at*
 split
 ·rename_i ho;simp only [ho]at h;exact hk _ h
 ·rename_i o ho
  simp only [ho]at h
  split
  ·rename_i hki;simp only [hki]at h;exact AL_mono hk h
  ·rename_i hki;simp only [hki]at h;exact AF_mono hk h
  ·rename_i hki
   simp only [hki]at h
   unfold guardS at*
   split at h
   ·rename_i t ht
    split at h
    ·rename_i h3;simp only [h3,if_true];exact Step.mono h fun s' _ hs'=>hk s' hs'
    ·rename_i h3;simp only [h3];exact hk _ h
   ·exact h
theorem getD_two{l:Array Bool}{x:Nat}(h:l.getD x true=false):l.getD x false=false:=by
 rcases Nat.lt_or_ge x l.size with h'|h'
 ·simp [h']at h ⊢;exact h
 ·simp [Array.getElem?_eq_none h']at h
theorem depB_spec{ops:List Oper}{listed:Array Bool}{i:Nat}{D:List Nat}(h:depB ops listed i D=true){j:Nat}(hj:j∈D):listed.getD j true=false∧j≠i∧∃o,ops[j]? =some o∧∃e∈o.after,Region.binds .any e=true∧(e.on=i∨e.on∈D):=by
 have:=List.all_eq_true.1 h j hj
 simp only [Bool.and_eq_true,Bool.not_eq_true',bne_iff_ne,ne_eq]at this
 obtain⟨⟨h1,h2⟩,h3⟩:=this
 refine⟨h1,h2,?_⟩
 split at h3
 ·rename_i o ho
  obtain⟨e,he,hb⟩:=Array.any_eq_true'.1 h3
  simp only [Bool.and_eq_true,Bool.or_eq_true,beq_iff_eq,List.contains_iff_mem]at hb
  exact⟨o,ho,e,he,hb.1,hb.2⟩
 ·cases h3
theorem depB_set{ops:List Oper}{listed:Array Bool}{i:Nat}{D:List Nat}(h:depB ops listed i D=true){j:Nat}(hj:j∉D):depB ops (listed.setIfInBounds j true) i D=true:=by
 unfold depB at*
 rw [List.all_eq_true]at*
 intro k hk
 have:=h k hk
 have hne:j≠k:=fun e=>hj (e▸hk)
 rw [getD_set_ne true hne]
 exact this
theorem restB_spec{ops:List Oper}{k:Nat→Kind}{listed:Array Bool}{i:Nat}{D:List Nat}{oi:Oper}(hi:ops[i]? =some oi)(h:restB ops k listed i D=true){j:Nat}{oj:Oper}(hj:ops[j]? =some oj)(hne:j≠i)(hun:listed.getD j true=false)(hD:j∉D):
  k j= .light∧oi.apart ops.toArray oj=true:=by
 simp only [restB,hi,List.all_eq_true,List.mem_range]at h
 have:=h j (List.getElem?_eq_some_iff.1 hj).1
 simp only [hj,Bool.or_eq_true,Bool.and_eq_true,beq_iff_eq,hne,hun,Bool.false_eq_true,false_or,List.contains_iff_mem,hD]at this
 refine⟨?_,this.2⟩
 have h1:=this.1
 cases hk:k j with
 | light=>rfl
 | _=>rw [hk]at h1;cases h1
theorem restB_set{ops:List Oper}{k:Nat→Kind}{listed:Array Bool}{i:Nat}{D:List Nat}(h:restB ops k listed i D=true)(j:Nat):restB ops k (listed.setIfInBounds j true) i D=true:=by
 unfold restB at*
 split at h
 ·cases h
 ·rename_i oi hoi
  rw [List.all_eq_true]at*
  intro x hx
  have:=h x hx
  by_cases hxj:j=x
  ·subst hxj
   have:(listed.setIfInBounds j true).getD j true=true:=by
    rcases Nat.lt_or_ge j listed.size with h'|h'
    ·simp [h']
    ·simp [Array.getElem?_eq_none h']
   simp only [this,Bool.or_true,Bool.true_or]
  ·rw [getD_set_ne true hxj];exact this
theorem any_first{ops:List Oper}{k:Nat→Kind}{K:DS→Prop}{i:Nat}{oi:Oper}{D:List Nat}(hi:ops[i]? =some oi)(hk:k i= .light):
  ∀(fuel:Nat) (listed:Array Bool) (s:DS),depB ops listed i D=true→restB ops k listed i D=true→i∈Region.ready .any ops.toArray listed→
   TD P ops k i s (anyD P ops k K fuel (listed.setIfInBounds i true))→anyD P ops k K (fuel+1) listed s:=by
 have notD: ∀{listed:Array Bool} {j:Nat},depB ops listed i D=true→i∈Region.ready .any ops.toArray listed→j∈Region.ready .any ops.toArray listed→j∉D:=by
  intro listed j hd hri hrj hj
  obtain⟨h1,h2,o,ho,e,he,hb,hon⟩:=depB_spec hd hj
  obtain⟨_,o',ho',hall⟩:=mem_ready.1 hrj
  have ho2:ops[j]? =some o':=by simpa using ho'
  rw [ho]at ho2;injection ho2 with ho2;subst ho2
  have hl:=hall e he hb
  rcases hon with hon|hon
  ·rw [hon,getD_two (mem_ready.1 hri).1]at hl;cases hl
  ·rw [getD_two (depB_spec hd hon).1]at hl;cases hl
 intro fuel
 induction fuel with
 | zero=>
  intro listed s hd hrest hr H
  refine⟨fun h=>(by rw [h]at hr;cases hr),fun j hj=>?_⟩
  by_cases hji:j=i
  ·subst hji;exact H
  ·have h1:=ready_mono hj hji
   have h2:Region.ready .any ops.toArray (listed.setIfInBounds i true)= []:=by
    unfold TD at H
    simp only [hi,hk]at H
    unfold AL at H
    split at H
    ·obtain⟨_,_,h⟩:=H;exact h.1
    ·exact H.1
    ·exact H.elim
   rw [h2]at h1
   cases h1
 | succ fuel ih=>
  intro listed s hd hrest hr H
  refine⟨fun h=>(by rw [h]at hr;cases hr),fun j hj=>?_⟩
  by_cases hji:j=i
  ·subst hji;exact H
  ·have hjD:=notD hd hr hj
   obtain⟨hjun,oj,hoj,hall⟩:=mem_ready.1 hj
   have hoj':ops[j]? =some oj:=by simpa using hoj
   obtain⟨hkj,hap⟩:=restB_spec hi hrest hoj' hji hjun hjD
   have h0:AL P ops oi s (anyD P ops k K (fuel+1) (listed.setIfInBounds i true)):=by
    unfold TD at H
    simp only [hi,hk]at H
    exact H
   have h1:AL P ops oi s fun s1=>AL P ops oj s1 (anyD P ops k K fuel ((listed.setIfInBounds i true).setIfInBounds j true)):=AL_mono (fun s1 h=>by
    have:=h.2 j (ready_mono hj hji)
    unfold TD at this
    simp only [hoj',hkj]at this
    exact this) h0
   have h2:=diamond hap h1
   unfold TD
   simp only [hoj',hkj]
   refine AL_mono (fun s2 h3=>ih (listed.setIfInBounds j true) s2 (depB_set hd hjD) (restB_set hrest j) (ready_mono hr (Ne.symm hji)) ?_) h2
   unfold TD
   simp only [hi,hk]
   rw [Array.setIfInBounds_comm _ _ hji]
   exact h3
theorem any_tree{ops:List Oper}{N:Nat}(hb:dstB ops N=true){k:Nat→Kind}{K:DS→Prop}: ∀(fuel:Nat) (listed:Array Bool) (s:DS),anyD P ops k K fuel listed s→AnyOk P ops N K fuel listed s
 | 0,listed,s,h=>any_done h.1 h.2
 | fuel+1,listed,s,h=>by
  intro hn X a w hrel
  refine⟨fun h0=>⟨rfl,s,h.1 h0,hrel⟩,fun j hj=>?_⟩
  have hT:=h.2 j hj
  unfold wpOp
  split
  ·rename_i ho
   have ho':ops[j]? =none:=by simpa using ho
   unfold TD at hT
   simp only [ho']at hT
   exact any_tree hb fuel _ s hT hn X a w hrel
  ·rename_i o ho
   have ho':ops[j]? =some o:=by simpa using ho
   have hd:=dst_of hb ho'
   have hG:guardS P ops o s (anyD P ops k K fuel (listed.setIfInBounds j true)):=by
    unfold TD at hT
    simp only [ho']at hT
    split at hT
    ·exact AL_guard hT
    ·exact AF_guard hT
    ·exact hT
   unfold guardS at hG
   split at hG
   ·rename_i t ht
    rw [wantD_ok ht hrel]
    split at hG
    ·rename_i h3
     rw [if_pos h3]
     refine .inl (Oper.wp_mono ?_ (hG (fun d hd'=>by rw [hn];exact hd d hd') X a w hrel _))
     rintro a' w' ⟨s',⟨hn',hs'⟩,hr'⟩
     exact any_tree hb fuel _ s' hs' (hn'.trans hn) X a' w' hr'
    ·rename_i h3
     rw [if_neg h3]
     exact any_tree hb fuel _ _ hG (by rw [put_n];exact hn) X _ w (putAny hrel (fun d hd'=>by rw [hn];exact hd d hd'))
   ·exact hG.elim
end
end
end Go.Dl
/- The logic of data: a region whose order is drawn: a look at memory of one's own beside a call that gives new memory; a plan for the whole region. -/
namespace Go.Dl
open Go.RowKit
noncomputable section
section
variable {P : Program}
theorem rowAt_tr{r:Ren}{rows:Rows}{sz i:Nat}{x:List T}(h:rowAt rows sz i=some x):rowAt (Rows.tr r rows) sz i=some (x.map (T.tr r)):=by
 obtain⟨h1,h2,h3⟩:=rowAt_ok h
 unfold rowAt
 simp only [Rows.tr,List.getElem?_map,h1,Option.map_some,Option.bind_some,T.trAll_eq,List.length_map,h2,if_true]
theorem ldD_tr{bx bx':Mem}{t:TypeId}{n sz i o:Nat}{d:D}{r:Ren}(hb:bx' n=(bx n).map (Rows.tr r))(h:ldD P bx t (.one (.bx n sz i o))=some d):ldD P bx' t (.one (.bx n sz i o))=some (d.tr r):=by
 cases hk:Program.ldk P t with
 | none=>simp [ldD,hk]at h
 | some q=>
  cases q with
  | none=>
   simp only [ldD,hk,Option.bind_eq_some_iff,Option.map_eq_some_iff]at h
   obtain⟨rows,h1,x,h2,t',h3,rfl⟩:=h
   simp only [ldD,hk,hb,h1,Option.map_some,Option.bind_some,rowAt_tr h2,List.getElem?_map,h3,D.tr]
  | some k=>
   simp only [ldD,hk,Option.bind_eq_some_iff]at h
   obtain⟨rows,h1,x,h2,h3⟩:=h
   split at h3
   ·rename_i hle
    injection h3 with h3;subst h3
    simp only [ldD,hk,hb,h1,Option.map_some,Option.bind_some,rowAt_tr h2,List.length_map,hle,if_true,D.tr,T.trAll_eq,List.map_take,List.map_drop]
   ·cases h3
theorem aftCallM_put{s:DS}{i:Nat}{d:D}{m:Option Nat}{r:D}{H':Mem}(h:m≠some i):(s.put (some i) d).aftCallM noMid [] m r H'=(s.aftCallM noMid [] m r H').put (some i) (d.tr (aftM noMid [] m)):=by
 cases m with
 | none=>
  simp only [DS.aftCallM,DS.put]
  congr 1
  funext u
  by_cases hu:u=i<;>simp [hu]
 | some m=>
  have hne:m≠i:=fun e=>h (by rw [e])
  simp only [DS.aftCallM,DS.put]
  congr 1
  funext u
  by_cases hu:u=i
  ·have: ¬i=m:=fun e=>hne e.symm
   simp [hu,this]
  ·simp [hu]
theorem newMem_put{s:DS}{i m:Nat}{d d2:D}{rows:Rows}(h:m≠i):((s.put (some i) d).newMem m rows).put (some m) d2=((s.newMem m rows).put (some m) d2).put (some i) (d.tr (fgt m)):=by
 simp only [DS.newMem,DS.setBx,DS.tr,DS.put]
 congr 1
 funext u
 by_cases hu:u=i
 ·have: ¬i=m:=fun e=>h e.symm
  simp [hu,this]
 ·by_cases hm:u=m
  ·simp [hm,h]
  ·simp [hu,hm]
theorem load_aft{s s2:DS}{r:Ren}{t:TypeId}{x:Operand}{n sz i c:Nat}{d:D}{op:Op}(hop:op= .load t x)(hx:s.ev x= .one (.bx n sz i c))(hsl: ∀u,x= .tmp u→s2.sl u=(s.sl u).tr r)(hg:r.g n=some n)(hbx:s2.bx n=(s.bx n).map (Rows.tr r))
  (hq:QD P s.ev s.bx op (· =d)):QD P s2.ev s2.bx op (· =d.tr r):=by
 subst hop
 simp only [QD,hx]at hq
 split at hq
 ·rename_i d0 hd0
  subst hq
  cases x with
  | tmp u=>
   have hsl2:s2.ev (.tmp u)= .one (.bx n sz i c):=by
    have hx':s.sl u= .one (.bx n sz i c):=hx
    simp only [DS.ev]
    rw [hsl u rfl,hx']
    simp only [D.tr,T.tr,hg,T.bxTo]
   simp only [QD,hsl2,ldD_tr hbx hd0]
  | const v=>cases v<;>simp [DS.ev,constD]at hx
  | global g=>simp only [DS.ev,globD]at hx;split at hx<;>simp at hx
  | func f=>simp [DS.ev]at hx
 ·exact hq.elim
theorem diamond_load{ops:List Oper}{oi oj:Oper}(hap:oi.apart ops.toArray oj=true){t:TypeId}{x:Operand}(hop:oi.op= .load t x)(hg:oi.guard=none){s:DS}{n sz i c:Nat}(hx:s.ev x= .one (.bx n sz i c))(hn:oj.dst≠some n)(hmid: ¬mid n){K:DS→Prop}
  (h:AL P ops oi s fun s1=>AF P ops oj s1 K):AF P ops oj s fun s2=>s2.ev x= .one (.bx n sz i c)∧AL P ops oi s2 K:=by
 obtain⟨h1,h2,h3⟩:=Oper.apart_spec hap
 have hwi: ∀s',wantD ops s' oi=some true:=fun s'=>by simp [wantD,hg]
 unfold AL at h ⊢
 simp only [hwi]at h ⊢
 obtain⟨d,hq,hw,hF⟩:=h
 rw [wantD_put h1]at hw
 have hev: ∀y∈oj.op.operands,(s.put oi.dst d).ev y=s.ev y:=fun y hy=>ev_put fun t ht=>notin_looks (h1 t ht) y hy
 have hnd: ∀u,x= .tmp u→¬oj.dst=some u:=fun u hu e=>notin_looks (h3 u e) (.tmp u) (by rw [hop,hu];simp [Op.operands]) rfl
 -- the slot of the address, behind it
 have hsx: ∀(s2:DS) (r:Ren),(∀u,x= .tmp u→s2.sl u=(s.sl u).tr r)→r.g n=some n→s2.ev x= .one (.bx n sz i c):=fun s2 r hs hr=>by
  cases x with
  | tmp u=>
   have hx':s.sl u= .one (.bx n sz i c):=hx
   simp only [DS.ev]
   rw [hs u rfl,hx']
   simp only [D.tr,T.tr,hr,T.bxTo]
  | const v=>cases v<;>simp [DS.ev,constD]at hx
  | global g=>simp only [DS.ev,globD]at hx;split at hx<;>simp at hx
  | func f=>simp [DS.ev]at hx
 refine⟨hw,?_⟩
 rcases hF with⟨f,args,tys,g,caps,ds,R,k1,k2,k3,k4,k6,k5⟩|⟨m,tt,y,ns,z,by_,k1,k2,k3,k4,k5,k6,k8,k7⟩
 ·have hf:(s.put oi.dst d).ev f=s.ev f:=hev f (by rw [k1];simp [Op.operands,Call.operands])
  have ha:args.toList.map (s.put oi.dst d).ev=args.toList.map s.ev:=List.map_congr_left fun y hy=>hev y (by rw [k1];simp only [Op.operands,Call.operands,Array.mem_append];exact .inr (Array.mem_toList_iff.1 hy))
  rw [hf]at k2
  rw [ha]at k3
  refine .inl ⟨f,args,tys,g,caps,ds,R,k1,k2,k3,k4,k6,fun r H' hr=>?_⟩
  have hsl: ∀u,x= .tmp u→(s.aftCallM noMid [] oj.dst r H').sl u=(s.sl u).tr (aftM noMid [] oj.dst):=fun u hu=>by
   cases hm:oj.dst with
   | none=>simp only [DS.aftCallM,DS.put]
   | some m=>
    have: ¬u=m:=fun e=>hnd u hu (by rw [hm,e])
    simp only [DS.aftCallM,DS.put,if_neg this]
  have hgn:(aftM noMid [] oj.dst).g n=some n:=by simp only [aftM,not_noMid,hn,false_or,if_false]
  have hbx:(s.aftCallM noMid [] oj.dst r H').bx n=(s.bx n).map (Rows.tr (aftM noMid [] oj.dst)):=by
   have:(s.aftCallM noMid [] oj.dst r H').bx=callMemAftM noMid s.bx H' [] oj.dst:=by cases oj.dst<;>rfl
   rw [this]
   simp only [callMemAftM,if_neg hn,List.not_mem_nil,if_false,not_noMid]
  refine⟨hsx _ _ hsl hgn,d.tr (aftM noMid [] oj.dst),load_aft hop hx hsl hgn hbx hq,?_⟩
  have:=k5 r H' hr
  cases hm:oi.dst with
  | none=>rw [hm]at this;simpa only [DS.put]using this
  | some q=>
   rw [hm,aftCallM_put (fun e=>h2 q hm e)]at this
   exact this
 ·have hy:(s.put oi.dst d).ev y=s.ev y:=hev y (by rw [k1];simp [Op.operands])
  rw [hy]at k5
  have hnm:n≠m:=fun e=>hn (by rw [k2,e])
  refine .inr ⟨m,tt,y,ns,z,by_,k1,k2,k3,k4,k5,k6,k8,?_⟩
  have hsl: ∀u,x= .tmp u→((s.newMem m [ns]).put (some m) (.one (.ba m z 0 1 1))).sl u=(s.sl u).tr (fgt m):=fun u hu=>by
   have: ¬u=m:=fun e=>hnd u hu (by rw [k2,e])
   simp only [DS.put,DS.newMem,DS.setBx,DS.tr,if_neg this]
  have hgn:(fgt m).g n=some n:=by simp only [fgt,if_neg hnm]
  have hbx:((s.newMem m [ns]).put (some m) (.one (.ba m z 0 1 1))).bx n=(s.bx n).map (Rows.tr (fgt m)):=by
   simp only [DS.put,DS.newMem,DS.setBx,DS.tr,if_neg hnm]
  refine⟨hsx _ _ hsl hgn,d.tr (fgt m),load_aft hop hx hsl hgn hbx hq,?_⟩
  cases hm:oi.dst with
  | none=>rw [hm]at k7;simpa only [DS.put]using k7
  | some q=>
   have hmq:m≠q:=fun e=>h2 q hm (by rw [k2,e])
   rw [hm,newMem_put hmq]at k7
   exact k7
def restF(ops:List Oper)(k:Nat→Kind)(listed:Array Bool)(i:Nat)(D:List Nat):Bool:=
 match ops[i]? with
 | none=>false
 | some oi=>(List.range ops.length).all fun j=>j==i||listed.getD j true||D.contains j||match ops[j]? with
  | some oj=>(match k j with| .step=>false|_=>true)&&oi.apart ops.toArray oj
  | none=>true
theorem restF_spec{ops:List Oper}{k:Nat→Kind}{listed:Array Bool}{i:Nat}{D:List Nat}{oi:Oper}(hi:ops[i]? =some oi)(h:restF ops k listed i D=true){j:Nat}{oj:Oper}(hj:ops[j]? =some oj)(hne:j≠i)(hun:listed.getD j true=false)(hD:j∉D):
  k j≠ .step∧oi.apart ops.toArray oj=true:=by
 simp only [restF,hi,List.all_eq_true,List.mem_range]at h
 have:=h j (List.getElem?_eq_some_iff.1 hj).1
 simp only [hj,Bool.or_eq_true,Bool.and_eq_true,beq_iff_eq,hne,hun,Bool.false_eq_true,false_or,List.contains_iff_mem,hD]at this
 refine⟨fun e=>?_,this.2⟩
 have h1:=this.1
 rw [e]at h1
 cases h1
theorem restF_set{ops:List Oper}{k:Nat→Kind}{listed:Array Bool}{i:Nat}{D:List Nat}(h:restF ops k listed i D=true)(j:Nat):restF ops k (listed.setIfInBounds j true) i D=true:=by
 unfold restF at*
 split at h
 ·cases h
 ·rename_i oi hoi
  rw [List.all_eq_true]at*
  intro x hx
  have:=h x hx
  by_cases hxj:j=x
  ·subst hxj
   have:(listed.setIfInBounds j true).getD j true=true:=by
    rcases Nat.lt_or_ge j listed.size with h'|h'
    ·simp [h']
    ·simp [Array.getElem?_eq_none h']
   simp only [this,Bool.or_true,Bool.true_or]
  ·rw [getD_set_ne true hxj];exact this
def freshB(ops:List Oper)(k:Nat→Kind)(n:Nat):Bool:=
 (List.range ops.length).all fun j=>match ops[j]? with
  | some o=>(match k j with| .fresh=>false|_=>true)||o.dst !=some n
  | none=>true
def freshIn(ops:List Oper)(k:Nat→Kind)(fr:List Nat):Bool:=
 (List.range ops.length).all fun j=>match ops[j]? with
  | some o=>(match k j with| .fresh=>false|_=>true)||(match o.dst with|some m=>fr.contains m|none=>true)
  | none=>true
theorem freshIn_spec{ops:List Oper}{k:Nat→Kind}{fr:List Nat}(h:freshIn ops k fr=true){n:Nat}(hn:n∉fr):freshB ops k n=true:=by
 unfold freshIn at h
 unfold freshB
 rw [List.all_eq_true]at*
 intro j hj
 have:=h j hj
 split at this
 ·rename_i o ho
  simp only [Bool.or_eq_true,bne_iff_ne,ne_eq]at this ⊢
  rcases this with h1|h1
  ·exact .inl h1
  ·refine .inr fun e=>?_
   rw [e]at h1
   simp only [List.contains_iff_mem]at h1
   exact hn h1
 ·rfl
theorem freshB_spec{ops:List Oper}{k:Nat→Kind}{n:Nat}(h:freshB ops k n=true){j:Nat}{o:Oper}(hj:ops[j]? =some o)(hk:k j= .fresh):o.dst≠some n:=by
 have:=List.all_eq_true.1 h j (List.mem_range.2 (List.getElem?_eq_some_iff.1 hj).1)
 simp only [hj,hk,Bool.false_or,bne_iff_ne,ne_eq]at this
 exact this
theorem any_first_load{ops:List Oper}{k:Nat→Kind}{K:DS→Prop}{i:Nat}{oi:Oper}{D:List Nat}(hi:ops[i]? =some oi)(hk:k i= .light){t:TypeId}{x:Operand}(hop:oi.op= .load t x)(hg:oi.guard=none){n sz q c:Nat}(hfr:freshB ops k n=true)(hmid: ¬mid n):
  ∀(fuel:Nat) (listed:Array Bool) (s:DS),s.ev x= .one (.bx n sz q c)→depB ops listed i D=true→restF ops k listed i D=true→i∈Region.ready .any ops.toArray listed→
   TD P ops k i s (anyD P ops k K fuel (listed.setIfInBounds i true))→anyD P ops k K (fuel+1) listed s:=by
 have notD: ∀{listed:Array Bool} {j:Nat},depB ops listed i D=true→i∈Region.ready .any ops.toArray listed→j∈Region.ready .any ops.toArray listed→j∉D:=by
  intro listed j hd hri hrj hj
  obtain⟨h1,h2,o,ho,e,he,hb,hon⟩:=depB_spec hd hj
  obtain⟨_,o',ho',hall⟩:=mem_ready.1 hrj
  have ho2:ops[j]? =some o':=by simpa using ho'
  rw [ho]at ho2;injection ho2 with ho2;subst ho2
  have hl:=hall e he hb
  rcases hon with hon|hon
  ·rw [hon,getD_two (mem_ready.1 hri).1]at hl;cases hl
  ·rw [getD_two (depB_spec hd hon).1]at hl;cases hl
 intro fuel
 induction fuel with
 | zero=>
  intro listed s hx hd hrest hr H
  refine⟨fun h=>(by rw [h]at hr;cases hr),fun j hj=>?_⟩
  by_cases hji:j=i
  ·subst hji;exact H
  ·have h1:=ready_mono hj hji
   have h2:Region.ready .any ops.toArray (listed.setIfInBounds i true)= []:=by
    unfold TD at H
    simp only [hi,hk]at H
    unfold AL at H
    split at H
    ·obtain⟨_,_,h⟩:=H;exact h.1
    ·exact H.1
    ·exact H.elim
   rw [h2]at h1
   cases h1
 | succ fuel ih=>
  intro listed s hx hd hrest hr H
  refine⟨fun h=>(by rw [h]at hr;cases hr),fun j hj=>?_⟩
  by_cases hji:j=i
  ·subst hji;exact H
  ·have hjD:=notD hd hr hj
   obtain⟨hjun,oj,hoj,hall⟩:=mem_ready.1 hj
   have hoj':ops[j]? =some oj:=by simpa using hoj
   obtain⟨hkj,hap⟩:=restF_spec hi hrest hoj' hji hjun hjD
   have hlook: ∀{d:Dl.D},(s.put oj.dst d).ev x= .one (.bx n sz q c):=fun {d}=>by
    obtain⟨h1,h2,h3⟩:=Oper.apart_spec hap
    rw [ev_put fun t ht=>notin_looks (h3 t ht) x (by rw [hop];simp [Op.operands])]
    exact hx
   have h0:AL P ops oi s (anyD P ops k K (fuel+1) (listed.setIfInBounds i true)):=by
    unfold TD at H
    simp only [hi,hk]at H
    exact H
   cases hkk:k j with
   | light=>
    have h1:AL P ops oi s fun s1=>AL P ops oj s1 (anyD P ops k K fuel ((listed.setIfInBounds i true).setIfInBounds j true)):=AL_mono (fun s1 h=>by
     have:=h.2 j (ready_mono hj hji)
     unfold TD at this
     simp only [hoj',hkk]at this
     exact this) h0
    have h2:=diamond hap h1
    have key: ∀s2,s2.ev x= .one (.bx n sz q c)→AL P ops oi s2 (anyD P ops k K fuel ((listed.setIfInBounds i true).setIfInBounds j true))→anyD P ops k K (fuel+1) (listed.setIfInBounds j true) s2:=fun s2 hx2 h3=>by
     refine ih (listed.setIfInBounds j true) s2 hx2 (depB_set hd hjD) (restF_set hrest j) (ready_mono hr (Ne.symm hji)) ?_
     unfold TD
     simp only [hi,hk]
     rw [Array.setIfInBounds_comm _ _ hji]
     exact h3
    unfold TD
    simp only [hoj',hkk]
    revert h2
    unfold AL
    split
    ·rintro⟨d,e1,e2⟩
     exact⟨d,e1,key _ hlook e2⟩
    ·exact fun h2=>key _ hlook h2
    ·exact fun h2=>h2.elim
   | fresh=>
    have h1:AL P ops oi s fun s1=>AF P ops oj s1 (anyD P ops k K fuel ((listed.setIfInBounds i true).setIfInBounds j true)):=AL_mono (fun s1 h=>by
     have:=h.2 j (ready_mono hj hji)
     unfold TD at this
     simp only [hoj',hkk]at this
     exact this) h0
    have hnd:=freshB_spec hfr hoj' hkk
    have h3:=diamond_load hap hop hg hx hnd hmid h1
    unfold TD
    simp only [hoj',hkk]
    refine AF_mono (fun s2 hs2=>?_) h3
    refine ih (listed.setIfInBounds j true) _ hs2.1 (depB_set hd hjD) (restF_set hrest j) (ready_mono hr (Ne.symm hji)) ?_
    unfold TD
    simp only [hi,hk]
    rw [Array.setIfInBounds_comm _ _ hji]
    exact hs2.2
   | step=>exact absurd hkk hkj
/-! ### A plan for the whole region -/
inductive Mode where
 | blind
 | light
 | look (fr:List Nat)
 | fresh
 | step
 | hand
def Mode.kind:Mode→Kind
 | .fresh=>.fresh
 | .step=>.step
 | .hand=>.step
 | _=>.light
def kindOf:List (Nat×Mode)→Nat→Kind
 | [],_=>.light
 | (j,m)::l,i=>if i==j then m.kind else kindOf l i
def deps(ops:List Oper)(listed:Array Bool)(i:Nat):List Nat:=
 (List.range ops.length).foldl (fun D k=>if !listed.getD k true&&k !=i&&(match ops[k]? with
  | some o=>o.after.any fun e=>Region.binds .any e&&(e.on==i||D.contains e.on)
  | none=>false)then k::D else D) []
def isLoad(o:Oper):Bool:=
 match o.op,o.guard with
 | .load _ _,none=>true
 | _,_=>false
def checkT(ops:List Oper)(pl:List (Nat×Mode)):List (Nat×Mode)→Array Bool→Bool
 | [],listed=>(Region.ready .any ops.toArray listed).isEmpty
 | (i,m)::l,listed=>(match ops[i]? with
  | none=>false
  | some o=>(match m with
   | .blind=>false
   | .light=>(match kindOf pl i with| .light=>true|_=>false)&&(Region.ready .any ops.toArray listed).contains i&&depB ops listed i (deps ops listed i)&&restB ops (kindOf pl) listed i (deps ops listed i)
   | .look fr=>freshIn ops (kindOf pl) fr&&(match kindOf pl i with| .light=>true|_=>false)&&isLoad o&&(Region.ready .any ops.toArray listed).contains i&&depB ops listed i (deps ops listed i)&&restF ops (kindOf pl) listed i (deps ops listed i)
   | .fresh=>o.guard.isNone&&(match kindOf pl i with| .fresh=>true|_=>false)&&(Region.ready .any ops.toArray listed== [i])
   | .step| .hand=>(match kindOf pl i with| .step=>true|_=>false)&&(Region.ready .any ops.toArray listed== [i])))&&checkT ops pl l (listed.setIfInBounds i true)
def lookOk(fr:List Nat)(s:DS)(op:Op):Prop:=
 match op with
 | .load _ x=>match s.ev x with
  | .one (.bx n _ _ _)=>n∉fr∧¬mid n
  | _=>False
 | _=>False
def walkT(P:Program)(ops:List Oper)(k:Nat→Kind):List (Nat×Mode)→DS→(DS→Prop)→Prop
 | [],s,K=>K s
 | (i,m)::l,s,K=>match ops[i]? with
  | none=>False
  | some o=>match m with
   | .blind=>False
   | .light=>AL P ops o s fun s'=>walkT P ops k l s' K
   | .look fr=>o.guard≠none∨(lookOk fr s o.op∧AL P ops o s fun s'=>walkT P ops k l s' K)
   | .fresh=>o.guard≠none∨AF P ops o s fun s'=>walkT P ops k l s' K
   | .step| .hand=>guardS P ops o s fun s'=>walkT P ops k l s' K
theorem walkT_ok{ops:List Oper}{pl:List (Nat×Mode)}{K:DS→Prop}: ∀(l:List (Nat×Mode)) (listed:Array Bool) (s:DS),checkT ops pl l listed=true→walkT P ops (kindOf pl) l s K→anyD P ops (kindOf pl) K l.length listed s
 | [],listed,s,hc,hw=>by
  simp only [checkT,List.isEmpty_iff]at hc
  exact⟨hc,hw⟩
 | (i,m)::l,listed,s,hc,hw=>by
  simp only [checkT,Bool.and_eq_true]at hc
  obtain⟨hc1,hc2⟩:=hc
  simp only [walkT]at hw
  cases ho:ops[i]? with
  | none=>rw [ho]at hw;exact hw.elim
  | some o=>
   simp only [ho]at hw hc1
   have ih:=fun s'=>walkT_ok (K:=K) l (listed.setIfInBounds i true) s' hc2
   have kk: ∀{c:Kind},(match kindOf pl i with| .light=>true|_=>false)=true→kindOf pl i= .light:=fun {c} h=>by cases h':kindOf pl i<;>rw [h']at h<;>first|rfl|cases h
   cases m with
   | blind=>exact hw.elim
   | light=>
    simp only [Bool.and_eq_true,List.contains_iff_mem]at hc1
    obtain⟨⟨⟨g0,g1⟩,g2⟩,g3⟩:=hc1
    have hk:=kk (c:=.light) g0
    refine any_first ho hk _ listed s g2 g3 g1 ?_
    unfold TD
    simp only [ho,hk]
    exact AL_mono ih hw
   | look fr=>
    simp only [Bool.and_eq_true,List.contains_iff_mem]at hc1
    obtain⟨⟨⟨⟨⟨g5,g0⟩,g4⟩,g1⟩,g2⟩,g3⟩:=hc1
    have hk:=kk (c:=.light) g0
    have hg:o.guard=none:=by
     unfold isLoad at g4
     split at g4
     ·assumption
     ·cases g4
    obtain⟨hlook,hw⟩:=hw.resolve_left (fun e=>e hg)
    unfold lookOk at hlook
    split at hlook
    ·rename_i t x hop
     split at hlook
     ·rename_i n sz q c hx
      refine any_first_load ho hk hop hg (freshIn_spec g5 hlook.1) hlook.2 _ listed s hx g2 g3 g1 ?_
      unfold TD
      simp only [ho,hk]
      exact AL_mono ih hw
     ·exact hlook.elim
    ·exact hlook.elim
   | fresh=>
    simp only [Bool.and_eq_true,beq_iff_eq]at hc1
    have hg:o.guard=none:=by simpa using hc1.1.1
    have hw:=hw.resolve_left (fun e=>e hg)
    have hk:kindOf pl i= .fresh:=by have h:=hc1.1.2;cases h':kindOf pl i<;>rw [h']at h<;>first|rfl|cases h
    refine⟨fun h=>(by rw [h]at hc1;cases hc1.2),fun j hj=>?_⟩
    rw [hc1.2,List.mem_singleton]at hj
    subst hj
    unfold TD
    simp only [ho,hk]
    exact AF_mono ih hw
   | step=>
    simp only [Bool.and_eq_true,beq_iff_eq]at hc1
    have hk:kindOf pl i= .step:=by have h:=hc1.1;cases h':kindOf pl i<;>rw [h']at h<;>first|rfl|cases h
    refine⟨fun h=>(by rw [h]at hc1;cases hc1.2),fun j hj=>?_⟩
    rw [hc1.2,List.mem_singleton]at hj
    subst hj
    have:TD P ops (kindOf pl) j s fun s'=>walkT P ops (kindOf pl) l s' K:=by
     unfold TD
     simp only [ho,hk]
     exact hw
    exact TD_mono ih this
   | hand=>
    simp only [Bool.and_eq_true,beq_iff_eq]at hc1
    have hk:kindOf pl i= .step:=by have h:=hc1.1;cases h':kindOf pl i<;>rw [h']at h<;>first|rfl|cases h
    refine⟨fun h=>(by rw [h]at hc1;cases hc1.2),fun j hj=>?_⟩
    rw [hc1.2,List.mem_singleton]at hj
    subst hj
    have:TD P ops (kindOf pl) j s fun s'=>walkT P ops (kindOf pl) l s' K:=by
     unfold TD
     simp only [ho,hk]
     exact hw
    exact TD_mono ih this
def checkA(ops:List Oper):List Nat→Array Bool→Bool
 | [],_=>true
 | i::l,listed=>Region.free .any ops.toArray listed i&&(Region.ready .any ops.toArray listed).contains i&&checkA ops l (listed.setIfInBounds i true)
def afterA:List Nat→Array Bool→Array Bool
 | [],listed=>listed
 | i::l,listed=>afterA l (listed.setIfInBounds i true)
def BL(P:Program)(ops:List Oper)(o:Oper)(s:DS)(K:DS→Prop):Prop:=
 match wantD ops s o with
 | some true=>∃d,Blind P s o d∧K (s.put o.dst d)
 | some false=>K (s.put o.dst (.tup []))
 | none=>False
def walkA(P:Program)(ops:List Oper):List Nat→DS→(DS→Prop)→Prop
 | [],s,K=>K s
 | i::l,s,K=>match ops[i]? with
  | none=>False
  | some o=>BL P ops o s fun s'=>walkA P ops l s' K
theorem walkA_ok{ops:List Oper}{N fuel:Nat}{K:DS→Prop}(hb:dstB ops N=true)(hs:Region.noSelect ops.toArray=true): ∀(l:List Nat) (listed:Array Bool) (s:DS),checkA ops l listed=true→
  walkA P ops l s (AnyOk P ops N K fuel (afterA l listed))→AnyOk P ops N K (fuel+l.length) listed s
 | [],listed,s,_,h=>h
 | i::l,listed,s,hc,h=>by
  simp only [checkA,Bool.and_eq_true]at hc
  obtain⟨⟨h1,h2⟩,h3⟩:=hc
  simp only [walkA]at h
  cases ho:ops[i]? with
  | none=>rw [ho]at h;exact h.elim
  | some o=>
   simp only [ho]at h
   have ih:=fun s'=>walkA_ok (K:=K) (fuel:=fuel) hb hs l (listed.setIfInBounds i true) s' h3
   have e:fuel+(i::l).length=(fuel+l.length)+1:=rfl
   rw [e]
   unfold BL at h
   split at h
   ·rename_i hw
    obtain⟨d,hd,hk⟩:=h
    exact any_blind hb ho hs h1 h2 hw hd (ih _ hk)
   ·rename_i hw
    exact any_not hb ho hs h1 h2 hw (ih _ h)
   ·exact h.elim
def checkP(ops:List Oper)(N:Nat)(pa:List Nat)(pb:List (Nat×Mode)):Bool:=
 dstB ops N&&(pa.isEmpty||Region.noSelect ops.toArray)&&checkA ops pa (Array.replicate ops.length false)&&checkT ops pb pb (afterA pa (Array.replicate ops.length false))&&(pa.length+pb.length==ops.length)
theorem dw_plan{id:Nat}{l:List Oper}{s:DS}{Q:Exit→DS→Prop}(pa:List Nat)(pb:List (Nat×Mode))(hm:P.follows .mixedOrders=true)(hc:checkP l s.n pa pb=true)
  (h:walkA P l pa s fun s'=>walkT P l (kindOf pb) pb s' (Q .normal)):DW P (.region id l.toArray true) s Q:=by
 simp only [checkP,Bool.and_eq_true,Bool.or_eq_true,beq_iff_eq]at hc
 obtain⟨⟨⟨⟨h1,h2⟩,h3⟩,h4⟩,h5⟩:=hc
 refine dw_any h1 hm ?_
 have mono: ∀{K K':DS→Prop} (hk: ∀s,K s→K' s) (pa:List Nat) (s:DS),walkA P l pa s K→walkA P l pa s K':=by
  intro K K' hk pa
  induction pa with
  | nil=>exact fun s h=>hk s h
  | cons i pa ih=>
   intro s h
   simp only [walkA]at h ⊢
   cases ho:l[i]? with
   | none=>rw [ho]at h;exact h.elim
   | some o=>
    simp only [ho]at h ⊢
    revert h
    unfold BL
    split
    ·rintro⟨d,e1,e2⟩;exact⟨d,e1,ih _ e2⟩
    ·exact fun h=>ih _ h
    ·exact fun h=>h.elim
 have ht: ∀s',walkT P l (kindOf pb) pb s' (Q .normal)→AnyOk P l s.n (Q .normal) pb.length (afterA pa (Array.replicate l.length false)) s':=fun s' hs'=>
  any_tree h1 _ _ _ (walkT_ok pb _ s' h4 hs')
 cases pa with
 | nil=>
  have e:l.length=pb.length:=by simpa using h5.symm
  rw [e]at ht h4 ⊢
  exact ht s h
 | cons i pa=>
  have h2':Region.noSelect l.toArray=true:=by simpa using h2
  have e:l.length=pb.length+(i::pa).length:=by omega
  have:=walkA_ok (fuel:=pb.length) (K:=Q .normal) h1 h2' (i::pa) (Array.replicate l.length false) s h3 (mono ht _ _ h)
  rw [← e]at this
  exact this
end
end
end Go.Dl
/- The logic of data: the walk in a form that simp can go: one operation at a time, in the order of a plan. -/
namespace Go.Dl
open Go.RowKit
noncomputable section
structure Ans where
 cond:Prop
 d:D
def optA:Option D→Ans
 | some d=>⟨True,d⟩
 | none=>⟨False,.any⟩
def litA:Option Value→Ans
 | some v=>⟨True,.one (.c (.lit v))⟩
 | none=>⟨False,.any⟩
def andA(c:Prop)(a:Ans):Ans:=⟨c∧a.cond,a.d⟩
def bindA(a:Ans)(K:D→Prop):Prop:=a.cond∧K a.d
theorem optA_some(d:D):optA (some d)=⟨True,d⟩:=rfl
theorem litA_some(v:Value):litA (some v)=⟨True,.one (.c (.lit v))⟩:=rfl
theorem andA_mk(c c':Prop)(d:D):andA c ⟨c',d⟩=⟨c∧c',d⟩:=rfl
def pickA:D→D→D→Ans
 | .one (.c (.lit (.bool t))),a,b=>⟨True,if t=true then a else b⟩
 | _,_,_=>⟨False,.any⟩
def fieldA:Option Nat→D→Ans
 | some off,.one (.c (.pt cs))=>⟨True,.one (.c (.pt (cs.drop off)))⟩
 | some off,.one (.bx n sz i o)=>⟨True,.one (.bx n sz i (o+off))⟩
 | _,_=>⟨False,.any⟩
def slA(e:Option Nat)(sz:Nat)(xs:List (List C))(j:Int):Ans:=
 andA (e=some sz∧0≤j) (optA ((xs[j.toNat]?).map fun r=>.one (.c (.pt r))))
def indexA(e:Option Nat):D→D→Ans
 | .one (.ba n sz i len _),.one (.c (.lit (.int _ j)))=>⟨e=some sz∧0≤j∧j.toNat<len,.one (.bx n sz (i+j.toNat) 0)⟩
 | .one (.c (.sl sz xs)),.one (.c (.lit (.int _ j)))=>slA e sz xs j
 | .one (.own _ sz xs),.one (.c (.lit (.int _ j)))=>slA e sz xs j
 | .one (.ex sz xs),.one (.c (.lit (.int _ j)))=>slA e sz xs j
 | _,_=>⟨False,.any⟩
def extractA:D→Nat→Ans
 | .tup ds,i=>optA ds[i]?
 | _,_=>⟨False,.any⟩
def nilA:D→Ans
 | .one (.bx n sz i o)=>⟨True,.one (.bx n sz i o)⟩
 | .one (.c (.pt cs))=>⟨True,.one (.c (.pt cs))⟩
 | .one (.c (.fn f caps))=>⟨True,.one (.c (.fn f caps))⟩
 | .one (.fv f caps)=>⟨True,.one (.fv f caps)⟩
 | _=>⟨False,.any⟩
def lenA:Option Int→Ans
 | some n=>⟨True,.one (.c (.lit (.int .i64 n)))⟩
 | none=>⟨False,.any⟩
def rowsA:Option (Nat×List (List C))→Ans
 | some (sz,rows)=>⟨True,.one (.ex sz rows)⟩
 | none=>⟨False,.any⟩
def aggA:Option (List T)→Ans
 | some cs=>⟨True,.agg cs⟩
 | none=>⟨False,.any⟩
def fnA(f:FuncId):Option (List T)→Ans
 | some ts=>⟨True,fnOf f ts⟩
 | none=>⟨False,.any⟩
def quietAns(P:Program)(s:DS):Op→Ans
 | .move x| .assign x=>⟨True,s.ev x⟩
 | .pick c a b=>pickA (s.ev c) (s.ev a) (s.ev b)
 | .load t x=>optA (ldD P s.bx t (s.ev x))
 | .build t parts=>aggA (buildD P t (parts.toList.map fun p=>(p.1,s.ev p.2)))
 | .buildSlice t len parts=>rowsA (buildSliceD P t len (parts.toList.map fun p=>(p.1,s.ev p.2)))
 | .binOp op t x y _=>litA (binD P op t (s.ev x) (s.ev y))
 | .unOp op _ x=>litA (unD op (s.ev x))
 | .convert a b x=>optA (convR P a b (s.ev x))
 | .index t x i=>litA (indexD P t (s.ev x) (s.ev i))
 | .fieldAddr t x f=>fieldA (Program.fieldOff P t f) (s.ev x)
 | .field t x f=>optA (fieldD P t f (s.ev x))
 | .indexAddr t x i=>indexA (Program.elemSz P t) (s.ev x) (s.ev i)
 | .slice t x lo hi mx=>optA (sliceD P t (s.ev x) (lo.map s.ev) (hi.map s.ev) (mx.map s.ev))
 | .call ⟨.builtin .len,args,tys⟩=>match args.toList,tys.toList with
  | [x],[t]=>lenA (lenD P t (s.ev x))
  | _,_=>⟨False,.any⟩
 | .call ⟨.builtin .cap,args,tys⟩=>match args.toList,tys.toList with
  | [x],[t]=>lenA (capD P t (s.ev x))
  | _,_=>⟨False,.any⟩
 | .call ⟨.builtin .min,args,_⟩=>optA (bltD .min (args.toList.map s.ev))
 | .call ⟨.builtin .max,args,_⟩=>optA (bltD .max (args.toList.map s.ev))
 | .extract x i=>extractA (s.ev x) i
 | .nilCheck x=>nilA (s.ev x)
 | .makeFunc (.func f) first captured=>if first.isEmpty then fnA f ((captured.toList.map s.ev).mapM capOf)else⟨False,.any⟩
 | _=>⟨False,.any⟩
/-! ### Which of them look at no memory -/
def isBxD:D→Prop
 | .one (.bx _ _ _ _)=>True
 | _=>False
def isLitD:D→Prop
 | .one (.c (.lit _))=>True
 | _=>False
def isBaD:D→Prop
 | .one (.ba _ _ _ _ _)=>True
 | _=>False
def blindOK(s:DS):Op→Prop
 | .move _| .assign _| .slice _ _ _ _ _=>True
 | .nilCheck x| .fieldAddr _ x _=>isBxD (s.ev x)
 | .binOp _ _ x y _=>isLitD (s.ev x)∧isLitD (s.ev y)
 | .indexAddr _ x _=>isBaD (s.ev x)
 | _=>False
def mdOK(s:DS)(op:Op):Mode→Prop
 | .blind=>blindOK s op
 | .look fr=>lookOk fr s op
 | .fresh=>False
 | .hand=>False
 | .light| .step=>True
/-! ### Calls -/
def CallPure(P:Program)(f:D)(args:List D)(K:D→Prop):Prop:=
 ∃g caps ds r,f= .one (.c (.fn g caps))∧LeL (args.map D.cl++caps.map fun c=>D.one (.c c)) ds∧DCalls P g ds r∧K r
def CallEff(P:Program)(f:D)(args:List D)(s:DS)(dst:Option Nat)(ns:List Nat)(K:DS→Prop):Prop:=
 ∃g caps ds H R,f.asFn=some (g,caps)∧DLeL ((args++caps.map D.one).map (D.tr (shf ns))) ds∧ECalls P g ds H R∧(∀k r,H k=some r→callMem s.bx ns k=some r)∧CallOk ns dst∧
  ∀r H',R r H'→K (s.aftCall ns dst r H')
def CallNew(P:Program)(f:D)(args:List D)(s:DS)(dst:Option Nat)(K:DS→Prop):Prop:=
 ∃g caps ds R,f.asFn=some (g,caps)∧DLeL ((args++caps.map D.one).map (D.tr (shfM noMid []))) ds∧ECalls P g ds noMem R∧CallOkM noMid [] dst∧∀r H',R r H'→K (s.aftCallM noMid [] dst r H')
def CallW(P:Program)(o:Oper)(f:D)(args:List D)(s:DS)(dst:Option Nat)(K:DS→Prop):Mode→Prop
 | .light=>CallPure P f args fun r=>K (s.put dst r.cl)
 | .step=>CallPure P f args (fun r=>K (callPut s dst r))∨(∃ns,CallEff P f args s dst ns K)∨Step P { o with guard:=none } s K
 | .fresh=>CallNew P f args s dst K
 | _=>False
def guardW(g:Option Bool)(A B:Prop):Prop:=
 match g with
 | some b=>(b=true→A)∧(b=false→B)
 | none=>False
theorem guardW_true(A B:Prop):guardW (some true) A B=A:=by simp [guardW]
theorem guardW_false(A B:Prop):guardW (some false) A B=B:=by simp [guardW]
def optW(r:Option DS)(K:DS→Prop):Prop:=
 match r with
 | some s=>K s
 | none=>False
structure AnsS where
 cond:Prop
 s:DS
def bindS(a:AnsS)(K:DS→Prop):Prop:=a.cond∧K a.s
def appS(s:DS)(m:Nat)(info:Option (Nat×Nat))(x y:D):AnsS:=
 match info with
 | some (sz,by_)=>(match appSrc m sz x,appNew sz y with
  | some (n,xs),some ys=>⟨(xs.length+ys.length)*by_≤140737488355328,(s.close [n]).put (some m) (.one (.own n sz (xs++ys)))⟩
  | _,_=>⟨False,s⟩)
 | none=>⟨False,s⟩
def StepW(md:Mode)(P:Program)(o:Oper)(s:DS)(K:DS→Prop):Prop:=
 match md with
 | .step=>Step P { o with guard:=none } s K
 | _=>False
def AppW(md:Mode)(P:Program)(o:Oper)(s:DS)(m:Nat)(info:Option (Nat×Nat))(x y:D)(K:DS→Prop):Prop:=
 match x with
 | .one (.ba _ _ _ _ _)=>StepW md P o s K
 | x=>match md with
  | .step=>bindS (appS s m info x y) K
  | _=>False
def newW(md:Mode)(s:DS)(m:Nat)(r:Option (List T))(K:DS→Prop):Prop:=
 match md with
 | .step=>optW (r.map fun z=>s.newBx m z) K
 | _=>False
def stW(md:Mode)(r:Option DS)(K:DS→Prop):Prop:=
 match md with
 | .step=>optW r K
 | _=>False
def newOne(info:Option (Nat×Nat))(ts:Option (List T))(s:DS)(m:Nat)(K:DS→Prop):Prop:=
 match info,ts with
 | some (sz,_),some ns=>(ns.length=sz∧sz≤16777216∧m<1000)∧K ((s.newMem m [ns]).put (some m) (.one (.ba m sz 0 1 1)))
 | _,_=>False
def opW(md:Mode)(P:Program)(o:Oper)(s:DS)(K:DS→Prop):Prop:=
 match o.op with
 | .call ⟨.value f,args,_⟩=>CallW P o (s.ev f) (args.toList.map s.ev) s o.dst K md
 | .call ⟨.builtin .append,args,tys⟩=>(match o.dst,args.toList,tys.toList with
  | some m,[x,y],[t,t']=>if t=t' then AppW md P o s m (appInfo P t) (s.ev x) (s.ev y) K else StepW md P o s K
  | _,_,_=>False)
 | .call ⟨.builtin .copy,_,_⟩| .call ⟨.builtin .clear,_,_⟩=>StepW md P o s K
 | .makeSlice _ _ _=>StepW md P o s K
 | .alloc t=>(match o.dst with
  | some m=>newW md s m (Program.zeroT P t) K
  | none=>False)
 | .box _ x=>(match o.dst with
  | some m=>newW md s m (s.ev x).cells K
  | none=>False)
 | .buildSlice t len parts=>(match md with
  | .hand=>Step P { o with guard:=none } s K
  | .fresh=>(match o.dst,len,parts.toList with
   | some m,1,[(0,x)]=>newOne (appInfo P t) (s.ev x).cells s m K
   | _,_,_=>False)
  | md=>bindA (andA (mdOK s (.buildSlice t len parts) md) (quietAns P s (.buildSlice t len parts))) fun d=>K (s.put o.dst d))
 | .store t x v=>(match o.dst with
  | none=>stW md (storeD P s t (s.ev x) (s.ev v)) K
  | some _=>False)
 | op=>bindA (andA (mdOK s op md) (quietAns P s op)) fun d=>K (s.put o.dst d)
def gV:Option (Option Nat)→(Nat→D)→Bool→Option Bool
 | some (some t),sl,want=>match sl t with
  | .one (.c (.lit (.bool b)))=>some (b==want)
  | .tup []=>some false
  | _=>none
 | _,_,_=>none
def wk(P:Program)(ds:List (Option Nat)):List (Mode×Oper)→DS→(DS→Prop)→Prop
 | [],s,K=>K s
 | (md,o)::l,s,K=>match o.guard with
  | none=>opW md P o s fun s'=>wk P ds l s' K
  | some (j,want)=>guardW (gV ds[j]? s.sl want) (opW md P { o with guard:=none } s fun s'=>wk P ds l s' K) (wk P ds l (s.put o.dst (.tup [])) K)
section
variable {P : Program}
theorem quietAns_ok{s:DS}{op:Op}{K:D→Prop}(h:bindA (quietAns P s op) K):QD P s.ev s.bx op K:=by
 have nof: ∀{K:D→Prop},¬bindA ⟨False,.any⟩ K:=fun h=>h.1
 have lit: ∀{o:Option Value} {K:D→Prop},bindA (litA o) K→(match o with|some v=>K (.one (.c (.lit v)))|none=>False):=fun {o K} h=>by
  cases o with
  | none=>exact h.1
  | some v=>exact h.2
 have opt: ∀{o:Option D} {K:D→Prop},bindA (optA o) K→(match o with|some v=>K v|none=>False):=fun {o K} h=>by
  cases o with
  | none=>exact h.1
  | some v=>exact h.2
 cases op with
 | move x=>exact h.2
 | assign x=>exact h.2
 | pick c a b=>
  simp only [quietAns,pickA]at h
  simp only [QD,D.asLit]
  split at h
  ·rename_i hc;rw [hc];exact h.2
  ·exact(nof h).elim
 | load t x=>exact opt h
 | build t parts=>
  simp only [quietAns]at h
  simp only [QD]
  split
  ·rename_i hb;rw [hb]at h;exact h.2
  ·rename_i hb;rw [hb]at h;exact h.1
 | buildSlice t n parts=>
  simp only [quietAns]at h
  simp only [QD]
  split
  ·rename_i hb;rw [hb]at h;exact h.2
  ·rename_i hb;rw [hb]at h;exact h.1
 | binOp op t x y ty=>exact lit h
 | unOp op t x=>exact lit h
 | convert a b x=>exact opt h
 | index t x i=>exact lit h
 | fieldAddr t x f=>
  simp only [quietAns,fieldA]at h
  simp only [QD]
  split at h
  ·rename_i h1 h2;simp only [h1,h2];exact h.2
  ·rename_i h1 h2;simp only [h1,h2];exact h.2
  ·exact(nof h).elim
 | field t x f=>exact opt h
 | indexAddr t x i=>
  have sl: ∀{sz:Nat} {xs:List (List C)} {j:Int},bindA (slA (Program.elemSz P t) sz xs j) K→Program.elemSz P t=some sz∧0≤j∧∃r,xs[j.toNat]? =some r∧K (.one (.c (.pt r))):=fun {sz xs j} h=>by
   unfold slA andA at h
   cases hr:xs[j.toNat]? with
   | none=>rw [hr]at h;exact h.1.2.elim
   | some r=>rw [hr]at h;exact⟨h.1.1.1,h.1.1.2,r,rfl,h.2⟩
  simp only [quietAns,indexA]at h
  simp only [QD,D.asLit,D.asSl]
  split at h
  ·rename_i h1 h2;rw [h1,h2];exact⟨h.1.1,h.1.2.1,h.1.2.2,h.2⟩
  ·rename_i h1 h2;rw [h1,h2];exact sl h
  ·rename_i h1 h2;rw [h1,h2];exact sl h
  ·rename_i h1 h2;rw [h1,h2];exact sl h
  ·exact(nof h).elim
 | slice t x lo hi mx=>exact opt h
 | call c=>
  obtain⟨callee,args,tys⟩:=c
  cases callee with
  | value f=>exact(nof h).elim
  | invoke r m=>exact(nof h).elim
  | builtin b=>
   cases b with
   | len=>
    simp only [quietAns]at h
    simp only [QD]
    split at h
    ·rename_i x t hx ht
     rw [hx,ht]
     simp only
     split
     ·rename_i hn;rw [hn]at h;exact h.2
     ·rename_i hn;rw [hn]at h;exact h.1
    ·exact(nof h).elim
   | cap=>
    simp only [quietAns]at h
    simp only [QD]
    split at h
    ·rename_i x t hx ht
     rw [hx,ht]
     simp only
     split
     ·rename_i hn;rw [hn]at h;exact h.2
     ·rename_i hn;rw [hn]at h;exact h.1
    ·exact(nof h).elim
   | min=>exact opt h
   | max=>exact opt h
   | _=>exact(nof h).elim
 | extract x i=>
  simp only [quietAns,extractA]at h
  simp only [QD]
  split at h
  ·rename_i hx;rw [hx];exact opt h
  ·exact(nof h).elim
 | nilCheck x=>
  simp only [quietAns,nilA]at h
  simp only [QD]
  split at h
  ·rename_i hx;rw [hx];exact h.2
  ·rename_i hx;rw [hx];exact h.2
  ·rename_i hx;rw [hx];exact h.2
  ·rename_i hx;rw [hx];exact h.2
  ·exact(nof h).elim
 | makeFunc fn first captured=>
  cases fn with
  | func f=>
   simp only [quietAns]at h
   simp only [QD]
   split at h
   ·rename_i hfe
    rw [if_pos hfe]
    split
    ·rename_i hc;rw [hc]at h;exact h.2
    ·rename_i hc;rw [hc]at h;exact h.1
   ·exact(nof h).elim
  | _=>exact(nof h).elim
 | _=>exact(nof h).elim
theorem quietAns_light{s:DS}{op:Op}{K:D→Prop}(h:bindA (quietAns P s op) K): ∃d,QD P s.ev s.bx op (· =d)∧K d:=
 ⟨_,quietAns_ok ⟨h.1,rfl⟩,h.2⟩
theorem blindOK_ok{s:DS}{o:Oper}{K:D→Prop}(hb:blindOK s o.op)(h:bindA (quietAns P s o.op) K): ∃d,Blind P s o d∧K d:=by
 cases ho:o.op with
 | move x=>rw [ho]at h;exact⟨_,blind_move ho,h.2⟩
 | assign x=>rw [ho]at h;exact⟨_,blind_assign ho,h.2⟩
 | slice t x lo hi mx=>
  rw [ho]at h
  simp only [quietAns]at h
  cases hs:sliceD P t (s.ev x) (lo.map s.ev) (hi.map s.ev) (mx.map s.ev)with
  | none=>rw [hs]at h;exact h.1.elim
  | some d=>
   rw [hs]at h
   refine⟨d,fun X E a w hE=>?_,h.2⟩
   obtain⟨v,h1,h2⟩:=sliceD_ok hs (hE.ev x) (bound_map (fun x=>hE.ev x) lo) (bound_map (fun x=>hE.ev x) hi) (bound_map (fun x=>hE.ev x) mx)
   exact⟨v,fun w'=>by simp only [execOp,ho,Sem.run_bind,h1 w',Result.andThen_ok,Sem.run_pure],h2⟩
 | nilCheck x=>
  rw [ho]at h hb
  simp only [blindOK,isBxD]at hb
  simp only [quietAns]at h
  split at hb
  ·rename_i n sz i k hx
   rw [hx]at h
   exact⟨_,blind_nilCheck ho hx,h.2⟩
  ·exact hb.elim
 | fieldAddr t x f=>
  rw [ho]at h hb
  simp only [blindOK,isBxD]at hb
  simp only [quietAns]at h
  split at hb
  ·rename_i n sz i k hx
   rw [hx]at h
   cases hf:Program.fieldOff P t f with
   | none=>rw [hf]at h;exact h.1.elim
   | some off=>rw [hf]at h;exact⟨_,blind_fieldAddr ho hf hx,h.2⟩
  ·exact hb.elim
 | binOp op t x y ty=>
  rw [ho]at h hb
  simp only [blindOK,isLitD]at hb
  simp only [quietAns]at h
  obtain⟨hb1,hb2⟩:=hb
  split at hb1
  ·rename_i u hx
   split at hb2
   ·rename_i v hy
    rw [hx,hy]at h
    cases hr:binD P op t (.one (.c (.lit u))) (.one (.c (.lit v)))with
    | none=>rw [hr]at h;exact h.1.elim
    | some r=>
     rw [hr]at h
     refine⟨.one (.c (.lit r)),fun X E a w hE=>?_,h.2⟩
     have e1:=hE.ev x
     have e2:=hE.ev y
     rw [hx]at e1
     rw [hy]at e2
     have hu:u.oneCell'=true:=by cases e1 with|one t v h=>cases h with|c c v h=>cases h with|lit v h=>exact h
     have hv:v.oneCell'=true:=by cases e2 with|one t v h=>cases h with|c c v h=>cases h with|lit v h=>exact h
     exact blind_binOp ho hx hy hr hu hv X E a w hE
   ·exact hb2.elim
  ·exact hb1.elim
 | indexAddr t x y=>
  rw [ho]at h hb
  simp only [blindOK,isBaD]at hb
  simp only [quietAns]at h
  split at hb
  ·rename_i n sz i len cap hx
   rw [hx]at h
   unfold indexA at h
   split at h
   ·rename_i n' sz' i' len' cap' k j hx' hy
    injection hx' with hx';injection hx' with q1 q2 q3 q4 q5
    subst q1;subst q2;subst q3;subst q4;subst q5
    exact⟨_,blind_index ho h.1.1 hx hy h.1.2.1 h.1.2.2,h.2⟩
   ·rename_i hx' _;cases hx'
   ·rename_i hx' _;cases hx'
   ·rename_i hx' _;cases hx'
   ·exact h.1.elim
  ·exact hb.elim
 | _=>rw [ho]at hb;exact hb.elim
theorem Step_guard{o:Oper}{s:DS}{K:DS→Prop}(h:Step P { o with guard:=none } s K):Step P o s K:=h
theorem appS_ok{s:DS}{m:Nat}{info:Option (Nat×Nat)}{x y:D}{K:DS→Prop}(h:bindS (appS s m info x y) K):
  ∃sz by_ n xs ys,info=some (sz,by_)∧appSrc m sz x=some (n,xs)∧appNew sz y=some ys∧(xs.length+ys.length)*by_≤140737488355328∧K ((s.close [n]).put (some m) (.one (.own n sz (xs++ys)))):=by
 unfold appS at h
 split at h
 ·rename_i sz by_
  split at h
  ·rename_i n xs ys h1 h2
   exact⟨sz,by_,n,xs,ys,rfl,h1,h2,h.1,h.2⟩
  ·exact h.1.elim
 ·exact h.1.elim
theorem StepW_ok{md:Mode}{o:Oper}{s:DS}{K:DS→Prop}(h:StepW md P o s K):md= .step∧Step P o s K:=by
 cases md<;>first|exact⟨rfl,Step_guard h⟩|exact h.elim
theorem newW_ok{md:Mode}{s:DS}{m:Nat}{r:Option (List T)}{K:DS→Prop}(h:newW md s m r K):md= .step∧∃z,r=some z∧K (s.newBx m z):=by
 cases md<;>first|exact h.elim|skip
 cases r with
 | none=>exact h.elim
 | some z=>exact⟨rfl,z,rfl,h⟩
theorem stW_ok{md:Mode}{r:Option DS}{K:DS→Prop}(h:stW md r K):md= .step∧∃z,r=some z∧K z:=by
 cases md<;>first|exact h.elim|skip
 cases r with
 | none=>exact h.elim
 | some z=>exact⟨rfl,z,rfl,h⟩
inductive OpIs(P:Program)(o:Oper)(s:DS)(K:DS→Prop):Mode→Prop where
 | hand (h:Step P o s K):OpIs P o s K .hand
 | step (h:Step P o s K):OpIs P o s K .step
 | light (d:D) (h:QD P s.ev s.bx o.op (· =d)) (hk:K (s.put o.dst d)):OpIs P o s K .light
 | look (fr:List Nat) (d:D) (hl:lookOk fr s o.op) (h:QD P s.ev s.bx o.op (· =d)) (hk:K (s.put o.dst d)):OpIs P o s K (.look fr)
 | blind (d:D) (h:Blind P s o d) (hk:K (s.put o.dst d)):OpIs P o s K .blind
 | fresh (h:AFc P o s K∨AFb P o s K):OpIs P o s K .fresh
theorem quietOp_ok{md:Mode}{o:Oper}{s:DS}{K:DS→Prop}(h:bindA (andA (mdOK s o.op md) (quietAns P s o.op)) fun d=>K (s.put o.dst d)):OpIs P o s K md:=by
 have h0:mdOK s o.op md:=h.1.1
 have hq:bindA (quietAns P s o.op) fun d=>K (s.put o.dst d):=⟨h.1.2,h.2⟩
 cases md with
 | step=>exact .step (Step.quiet (quietAns_ok hq))
 | light=>obtain⟨d,h1,h2⟩:=quietAns_light hq;exact .light d h1 h2
 | look fr=>obtain⟨d,h1,h2⟩:=quietAns_light hq;exact .look fr d h0 h1 h2
 | blind=>obtain⟨d,h1,h2⟩:=blindOK_ok h0 hq;exact .blind d h1 h2
 | fresh=>exact h0.elim
 | hand=>exact h0.elim
theorem opW_ok{md:Mode}{o:Oper}{s:DS}{K:DS→Prop}(h:opW md P o s K):OpIs P o s K md:=by
 have stp: ∀{md:Mode},md= .step∧Step P o s K→OpIs P o s K md:=fun h=>by rw [h.1];exact .step h.2
 unfold opW at h
 split at h
 ·rename_i f args tys ho
  cases md with
  | light=>
   obtain⟨g,caps,ds,r,h1,h2,h3,h4⟩:=h
   exact .light r.cl (by rw [ho];exact⟨g,caps,ds,r,h1,h2,h3,rfl⟩) h4
  | step=>
   rcases h with⟨g,caps,ds,r,h1,h2,h3,h4⟩|⟨ns,g,caps,ds,H,R,h1,h2,h3,h4,h5,h6⟩|h
   ·exact .step (Step.callP ho h1 h2 h3 h4)
   ·exact .step (Step.callE ho h1 h2 h3 h4 h5 h6)
   ·exact .step (Step_guard h)
  | fresh=>
   obtain⟨g,caps,ds,R,h1,h2,h3,h5,h4⟩:=h
   exact .fresh (.inl ⟨f,args,tys,g,caps,ds,R,ho,h1,h2,h3,h5,h4⟩)
  | blind=>exact h.elim
  | hand=>exact h.elim
  | look fr=>exact h.elim
 ·rename_i args tys ho
  split at h
  ·rename_i m x y t t' hm ha ht
   have ho':o.op= .call { callee:=.builtin .append,args:= #[x,y],argTypes:= #[t,t'] }:=by
    rw [ho]
    congr 2
    ·apply Array.ext';simpa using ha
    ·apply Array.ext';simpa using ht
   split at h
   ·rename_i htt;subst htt
    unfold AppW at h
    split at h
    ·exact stp (StepW_ok h)
    ·split at h
     ·obtain⟨sz,by_,n,xs,ys,h1,h2,h3,h4,h5⟩:=appS_ok h
      exact .step (Step.appendOwn ho' hm h1 h2 h3 h4 h5)
     ·exact h.elim
   ·exact stp (StepW_ok h)
  ·exact h.elim
 ·exact stp (StepW_ok h)
 ·exact stp (StepW_ok h)
 ·exact stp (StepW_ok h)
 ·rename_i t ho
  split at h
  ·rename_i m hm
   obtain⟨rfl,z,h1,h2⟩:=newW_ok h
   exact .step (Step.alloc ho hm h1 h2)
  ·exact h.elim
 ·rename_i t x ho
  split at h
  ·rename_i m hm
   obtain⟨rfl,z,h1,h2⟩:=newW_ok h
   exact .step (Step.box ho hm h1 h2)
  ·exact h.elim
 ·rename_i t len parts ho
  split at h
  ·exact .hand (Step_guard h)
  ·split at h
   ·rename_i m x hm hp
    unfold newOne at h
    split at h
    ·rename_i sz by_ ns hinfo hx
     have hparts:parts= #[(0,x)]:=by apply Array.ext';simpa using hp
     exact .fresh (.inr ⟨m,t,x,ns,sz,by_,by rw [ho,hparts],hm,hinfo,h.1.2.1,hx,h.1.1,h.1.2.2,h.2⟩)
    ·exact h.elim
   ·exact h.elim
  ·rw [← ho]at h
   exact quietOp_ok h
 ·rename_i t x v ho
  split at h
  ·rename_i hm
   obtain⟨rfl,z,h1,h2⟩:=stW_ok h
   exact .step (Step.store ho hm h1 h2)
  ·exact h.elim
 ·exact quietOp_ok h
theorem AF2_mono{o:Oper}{s:DS}{K K':DS→Prop}(hk: ∀s,K s→K' s)(h:AFc P o s K∨AFb P o s K):AFc P o s K'∨AFb P o s K':=by
 obtain⟨f,args,tys,g,caps,ds,R,h1,h2,h3,h4,h6,h5⟩|⟨m,t,x,ns,sz,by_,h1,h2,h3,h4,h5,h6,h7,h8⟩:=h
 ·exact .inl ⟨f,args,tys,g,caps,ds,R,h1,h2,h3,h4,h6,fun r H' hr=>hk _ (h5 r H' hr)⟩
 ·exact .inr ⟨m,t,x,ns,sz,by_,h1,h2,h3,h4,h5,h6,h7,hk _ h8⟩
theorem gV_ok{ops:List Oper}{s:DS}{o:Oper}{j:Nat}{want b:Bool}(hg:o.guard=some (j,want))(h:gV (ops.map (·.dst))[j]? s.sl want=some b):wantD ops s o=some b:=by
 unfold gV at h
 unfold wantD
 rw [hg]
 simp only
 split at h
 ·rename_i t ht
  rw [List.getElem?_map,Option.map_eq_some_iff]at ht
  obtain⟨o',h1,h2⟩:=ht
  rw [h1]
  simp only [Option.bind_some,h2]
  exact h
 ·cases h
def GIs(P:Program)(ops:List Oper)(o:Oper)(s:DS)(K:DS→Prop)(md:Mode):Prop:=
 match wantD ops s o with
 | some true=>OpIs P o s K md
 | some false=>K (s.put o.dst (.tup []))
 | none=>False
theorem Blind_guard{o:Oper}{s:DS}{d:D}(h:Blind P s { o with guard:=none } d):Blind P s o d:=h
theorem OpIs_guard{md:Mode}{o:Oper}{s:DS}{K:DS→Prop}(h:OpIs P { o with guard:=none } s K md):OpIs P o s K md:=by
 cases h with
 | hand h=>exact .hand (Step_guard h)
 | step h=>exact .step (Step_guard h)
 | light d h h'=>exact .light d h h'
 | look fr d hl h h'=>exact .look fr d hl h h'
 | blind d h h'=>exact .blind d (Blind_guard h) h'
 | fresh h=>exact .fresh h
theorem wk_cons{ops:List Oper}{md:Mode}{o:Oper}{l:List (Mode×Oper)}{s:DS}{K:DS→Prop}(h:wk P (ops.map (·.dst)) ((md,o)::l) s K):GIs P ops o s (fun s'=>wk P (ops.map (·.dst)) l s' K) md:=by
 simp only [wk]at h
 unfold GIs
 split at h
 ·rename_i hg
  have hw:wantD ops s o=some true:=by simp [wantD,hg]
  simp only [hw]
  exact opW_ok h
 ·rename_i j want hg
  cases hv:gV (ops.map (·.dst))[j]? s.sl want with
  | none=>rw [hv]at h;exact h.elim
  | some b=>
   rw [hv]at h
   rw [gV_ok hg hv]
   cases b with
   | true=>exact OpIs_guard (opW_ok (h.1 rfl))
   | false=>exact h.2 rfl
/-! ### In the order of the text -/
def tagS:List Oper→List (Mode×Oper)
 | []=> []
 | o::l=>(.step,o)::tagS l
theorem wk_walkS{ops:List Oper}{K:DS→Prop}: ∀(l:List Oper) (s:DS),wk P (ops.map (·.dst)) (tagS l) s K→walkS P ops l s K
 | [],_,h=>h
 | o::l,s,h=>by
  have h:=wk_cons h
  unfold GIs at h
  simp only [walkS,guardS]
  split at h
  ·rename_i hw
   simp only [hw,if_true]
   cases h with
   | step h=>exact h.mono fun s' _ hs'=>wk_walkS l s' hs'
  ·rename_i hw
   simp only [hw,Bool.false_eq_true,if_false]
   exact wk_walkS l _ h
  ·exact h.elim
theorem dw_reg{id:Nat}{l:List Oper}{s:DS}{Q:Exit→DS→Prop}{N:Nat}(hn:s.n=N)(hb:dstB l N=true)(h:wk P (l.map (·.dst)) (tagS l) s (Q .normal)):DW P (.region id l.toArray false) s Q:=
 dw_region (by rw [hn];exact hb) (wk_walkS l s h)
/-! ### In the order of a plan -/
inductive Picks(ops:List Oper):List (Nat×Mode)→List (Mode×Oper)→Prop where
 | nil:Picks ops [] []
 | cons {i:Nat} {m:Mode} {o:Oper} {l:List (Nat×Mode)} {l':List (Mode×Oper)} (h:ops[i]? =some o) (hl:Picks ops l l'):Picks ops ((i,m)::l) ((m,o)::l')
def Mode.isBlind:Mode→Bool
 | .blind=>true
 | _=>false
def partA:List (Nat×Mode)→List Nat
 | []=> []
 | (i,m)::l=>if m.isBlind then i::partA l else []
def partB:List (Nat×Mode)→List (Nat×Mode)
 | []=> []
 | (i,m)::l=>if m.isBlind then partB l else(i,m)::l
theorem picks_walkT{ops:List Oper}{k:Nat→Kind}{K:DS→Prop}{pl:List (Nat×Mode)}{l':List (Mode×Oper)}(hp:Picks ops pl l')(hnb: ∀p∈pl,p.2.isBlind=false): ∀{s:DS},wk P (ops.map (·.dst)) l' s K→walkT P ops k pl s K:=by
 induction hp with
 | nil=>exact fun h=>h
 | @cons i m o l l' ho hl ih=>
  intro s h0
  have h:=wk_cons h0
  clear h0
  have ih:=fun {s}=>ih (fun p hp=>hnb p (List.mem_cons_of_mem _ hp)) (s:=s)
  simp only [walkT,ho]
  unfold GIs at h
  split at h
  ·rename_i hw
   cases h with
   | hand h=>
    simp only [guardS,hw,if_true]
    exact h.mono fun s' _ hs'=>ih hs'
   | step h=>
    simp only [guardS,hw,if_true]
    exact h.mono fun s' _ hs'=>ih hs'
   | light d h h'=>
    simp only [AL,hw]
    exact⟨d,h,ih h'⟩
   | look fr d hlk h h'=>
    simp only [AL,hw]
    exact .inr ⟨hlk,d,h,ih h'⟩
   | blind d h h'=>
    have:=hnb _ List.mem_cons_self
    cases this
   | fresh h=>exact .inr ⟨hw,AF2_mono (fun s' hs'=>ih hs') h⟩
  ·rename_i hw
   have hg:o.guard≠none:=fun e=>by simp [wantD,e]at hw
   cases m with
   | step=>simp only [guardS,hw,Bool.false_eq_true,if_false];exact ih h
   | hand=>simp only [guardS,hw,Bool.false_eq_true,if_false];exact ih h
   | light=>simp only [AL,hw];exact ih h
   | look fr=>exact .inl hg
   | blind=>
    have:=hnb _ List.mem_cons_self
    cases this
   | fresh=>exact .inl hg
  ·exact h.elim
theorem picks_walk{ops:List Oper}{K:DS→Prop}{pl:List (Nat×Mode)}{l':List (Mode×Oper)}(hp:Picks ops pl l'): ∀{s:DS},(∀p∈partB pl,p.2.isBlind=false)→wk P (ops.map (·.dst)) l' s K→
  walkA P ops (partA pl) s fun s'=>walkT P ops (kindOf (partB pl)) (partB pl) s' K:=by
 have aux: ∀(k:List (Nat×Mode)→Nat→Kind),(∀p q m l,m=Mode.blind→k (partB ((p,m)::l)) q=k (partB l) q)→∀{pl:List (Nat×Mode)} {l':List (Mode×Oper)},Picks ops pl l'→∀{s:DS},(∀p∈partB pl,p.2.isBlind=false)→wk P (ops.map (·.dst)) l' s K→
  walkA P ops (partA pl) s fun s'=>walkT P ops (k (partB pl)) (partB pl) s' K:=by
  intro k hkk pl l' hp
  induction hp with
  | nil=>exact fun _ h=>h
  | @cons i m o l l' ho hl ih=>
   intro s hnb h
   cases hb:m.isBlind with
   | false=>
    have e1:partA ((i,m)::l)= []:=by simp [partA,hb]
    have e2:partB ((i,m)::l)=(i,m)::l:=by simp [partB,hb]
    rw [e1]
    rw [e2]at hnb ⊢
    exact picks_walkT (.cons ho hl) hnb h
   | true=>
    have hm:m= .blind:=by cases m<;>first|rfl|cases hb
    subst hm
    have e1:partA ((i,.blind)::l)=i::partA l:=rfl
    have e2:partB ((i,.blind)::l)=partB l:=rfl
    rw [e1]
    rw [e2]at hnb ⊢
    replace h:=wk_cons h
    simp only [walkA,ho]
    unfold GIs at h
    unfold BL
    split at h
    ·rename_i hw
     simp only [hw]
     cases h with
     | blind d h h'=>exact⟨d,h,ih hnb h'⟩
    ·rename_i hw
     simp only [hw]
     exact ih hnb h
    ·exact h.elim
 intro s hnb h
 exact aux kindOf (fun p q m l hm=>by subst hm;rfl) hp hnb h
def checkW(ops:List Oper)(N:Nat)(pl:List (Nat×Mode)):Bool:=
 checkP ops N (partA pl) (partB pl)&&(partB pl).all fun p=> !p.2.isBlind
theorem dw_drw{id:Nat}{l:List Oper}{s:DS}{Q:Exit→DS→Prop}{N:Nat}{l':List (Mode×Oper)}(pl:List (Nat×Mode))(hm:P.follows .mixedOrders=true)(hn:s.n=N)(hc:checkW l N pl=true)(hp:Picks l pl l')
  (h:wk P (l.map (·.dst)) l' s (Q .normal)):DW P (.region id l.toArray true) s Q:=by
 simp only [checkW,Bool.and_eq_true,List.all_eq_true,Bool.not_eq_true']at hc
 exact dw_plan (partA pl) (partB pl) hm (by rw [hn];exact hc.1) (picks_walk hp hc.2 h)
end
end
end Go.Dl
/- The logic of data: the rules by which simp goes. -/
namespace Go.Dl
open Go.RowKit
noncomputable section
theorem thenD_normal(next:DS→Prop)(Q:Exit→DS→Prop)(s:DS):thenD next Q .normal s=next s:=rfl
theorem thenD_ret(next:DS→Prop)(Q:Exit→DS→Prop)(s:DS):thenD next Q .ret s=Q .ret s:=rfl
theorem thenD_exit(next:DS→Prop)(Q:Exit→DS→Prop)(i:Nat)(s:DS):thenD next Q (.exit i) s=Q (.exit i) s:=rfl
theorem inBlockD_normal(id:Nat)(Q:Exit→DS→Prop)(s:DS):inBlockD id Q .normal s=Q .normal s:=rfl
theorem inBlockD_ret(id:Nat)(Q:Exit→DS→Prop)(s:DS):inBlockD id Q .ret s=Q .ret s:=rfl
theorem inBlockD_exit(id i:Nat)(Q:Exit→DS→Prop)(s:DS):inBlockD id Q (.exit i) s=if i=id then Q .normal s else Q (.exit i) s:=rfl
/-! What follows an operation, without a lambda: simp does not look into what is not there. -/
def bindC(a:Ans)(P:Program)(ds:List (Option Nat))(dst:Option Nat)(l:List (Mode×Oper))(s:DS)(K:DS→Prop):Prop:=a.cond∧wk P ds l (s.put dst a.d) K
def bindSC(md:Mode)(a:AnsS)(P:Program)(ds:List (Option Nat))(l:List (Mode×Oper))(K:DS→Prop):Prop:=
 match md with
 | .step=>bindS a fun s'=>wk P ds l s' K
 | _=>False
def stC(md:Mode)(r:Option DS)(P:Program)(ds:List (Option Nat))(l:List (Mode×Oper))(K:DS→Prop):Prop:=stW md r fun s'=>wk P ds l s' K
def newC(md:Mode)(r:Option (List T))(m:Nat)(P:Program)(ds:List (Option Nat))(l:List (Mode×Oper))(s:DS)(K:DS→Prop):Prop:=newW md s m r fun s'=>wk P ds l s' K
def CallC(md:Mode)(P:Program)(o:Oper)(f:D)(args:List D)(s:DS)(dst:Option Nat)(ds:List (Option Nat))(l:List (Mode×Oper))(K:DS→Prop):Prop:=CallW P o f args s dst (fun s'=>wk P ds l s' K) md
def StepC(md:Mode)(P:Program)(o:Oper)(s:DS)(ds:List (Option Nat))(l:List (Mode×Oper))(K:DS→Prop):Prop:=StepW md P o s fun s'=>wk P ds l s' K
def AppC(md:Mode)(P:Program)(o:Oper)(m:Nat)(info:Option (Nat×Nat))(x y:D)(s:DS)(ds:List (Option Nat))(l:List (Mode×Oper))(K:DS→Prop):Prop:=AppW md P o s m info x y fun s'=>wk P ds l s' K
def newOneC(info:Option (Nat×Nat))(ts:Option (List T))(P:Program)(m:Nat)(s:DS)(ds:List (Option Nat))(l:List (Mode×Oper))(K:DS→Prop):Prop:=newOne info ts s m fun s'=>wk P ds l s' K
def guardC(g:Option Bool)(md:Mode)(P:Program)(ds:List (Option Nat))(dst:Option Nat)(op:Op)(ty:TypeId)(pos:String)(aft:Array Edge)(l:List (Mode×Oper))(s:DS)(K:DS→Prop):Prop:=
 guardW g (wk P ds ((md,⟨dst,op,ty,pos,aft,none⟩)::l) s K) (wk P ds l (s.put dst (.tup [])) K)
section
variable (md : Mode) (P : Program) (ds : List (Option Nat)) (dst : Option Nat) (ty : TypeId) (pos : String) (aft : Array Edge) (l : List (Mode × Oper)) (s : DS) (K : DS → Prop)
theorem bindC_mk(c:Prop)(d:D):bindC ⟨c,d⟩ P ds dst l s K=(c∧wk P ds l (s.put dst d) K):=rfl
theorem bindSC_mk(c:Prop)(s':DS):bindSC .step ⟨c,s'⟩ P ds l K=(c∧wk P ds l s' K):=rfl
theorem stC_some(s':DS):stC .step (some s') P ds l K=wk P ds l s' K:=rfl
theorem newC_some(m:Nat)(ts:List T):newC .step (some ts) m P ds l s K=wk P ds l (s.newBx m ts) K:=rfl
theorem guardC_true(op:Op):guardC (some true) md P ds dst op ty pos aft l s K=wk P ds ((md,⟨dst,op,ty,pos,aft,none⟩)::l) s K:=guardW_true _ _
theorem guardC_false(op:Op):guardC (some false) md P ds dst op ty pos aft l s K=wk P ds l (s.put dst (.tup [])) K:=guardW_false _ _
theorem wk_nil:wk P ds [] s K=K s:=rfl
theorem wk_tag(o:Oper)(l:List Oper):wk P ds (tagS (o::l)) s K=wk P ds ((.step,o)::tagS l) s K:=rfl
theorem wk_tagn:wk P ds (tagS []) s K=K s:=rfl
theorem wk_guard(op:Op)(j:Nat)(b:Bool):wk P ds ((md,⟨dst,op,ty,pos,aft,some (j,b)⟩)::l) s K=guardC (gV ds[j]? s.sl b) md P ds dst op ty pos aft l s K:=rfl
theorem wk_move(x:Operand):wk P ds ((md,⟨dst,.move x,ty,pos,aft,none⟩)::l) s K=bindC (andA (mdOK s (.move x) md) ⟨True,s.ev x⟩) P ds dst l s K:=rfl
theorem wk_assign(x:Operand):wk P ds ((md,⟨dst,.assign x,ty,pos,aft,none⟩)::l) s K=bindC (andA (mdOK s (.assign x) md) ⟨True,s.ev x⟩) P ds dst l s K:=rfl
theorem wk_pick(c a b:Operand):wk P ds ((md,⟨dst,.pick c a b,ty,pos,aft,none⟩)::l) s K=bindC (andA (mdOK s (.pick c a b) md) (pickA (s.ev c) (s.ev a) (s.ev b))) P ds dst l s K:=rfl
theorem wk_load(t:TypeId)(x:Operand):wk P ds ((md,⟨dst,.load t x,ty,pos,aft,none⟩)::l) s K=bindC (andA (mdOK s (.load t x) md) (optA (ldD P s.bx t (s.ev x)))) P ds dst l s K:=rfl
theorem wk_build(t:TypeId)(parts:List (Nat×Operand)):wk P ds ((md,⟨dst,.build t parts.toArray,ty,pos,aft,none⟩)::l) s K=bindC (andA (mdOK s (.build t parts.toArray) md) (aggA (buildD P t (parts.map fun p=>(p.1,s.ev p.2))))) P ds dst l s K:=rfl
theorem wk_buildSlice_step(t:TypeId)(n:Nat)(parts:List (Nat×Operand)):wk P ds ((.step,⟨dst,.buildSlice t n parts.toArray,ty,pos,aft,none⟩)::l) s K=bindC (andA (mdOK s (.buildSlice t n parts.toArray) .step) (rowsA (buildSliceD P t n (parts.map fun p=>(p.1,s.ev p.2))))) P ds dst l s K:=rfl
theorem wk_buildSlice_light(t:TypeId)(n:Nat)(parts:List (Nat×Operand)):wk P ds ((.light,⟨dst,.buildSlice t n parts.toArray,ty,pos,aft,none⟩)::l) s K=bindC (andA (mdOK s (.buildSlice t n parts.toArray) .light) (rowsA (buildSliceD P t n (parts.map fun p=>(p.1,s.ev p.2))))) P ds dst l s K:=rfl
theorem wk_buildSlice_fresh(m:Nat)(t:TypeId)(x:Operand):wk P ds ((.fresh,⟨some m,.buildSlice t 1 #[(0,x)],ty,pos,aft,none⟩)::l) s K=newOneC (appInfo P t) (s.ev x).cells P m s ds l K:=rfl
theorem newOneC_mk(sz by_:Nat)(ns:List T)(m:Nat):newOneC (some (sz,by_)) (some ns) P m s ds l K=((ns.length=sz∧sz≤16777216∧m<1000)∧wk P ds l ((s.newMem m [ns]).put (some m) (.one (.ba m sz 0 1 1))) K):=rfl
theorem wk_buildSlice_hand(t:TypeId)(n:Nat)(parts:Array (Nat×Operand)):wk P ds ((.hand,⟨dst,.buildSlice t n parts,ty,pos,aft,none⟩)::l) s K=StepC .step P ⟨dst,.buildSlice t n parts,ty,pos,aft,none⟩ s ds l K:=rfl
theorem wk_binOp(op:BinOp)(t t':TypeId)(x y:Operand):wk P ds ((md,⟨dst,.binOp op t x y t',ty,pos,aft,none⟩)::l) s K=bindC (andA (mdOK s (.binOp op t x y t') md) (litA (binD P op t (s.ev x) (s.ev y)))) P ds dst l s K:=rfl
theorem wk_unOp(op:UnOp)(t:TypeId)(x:Operand):wk P ds ((md,⟨dst,.unOp op t x,ty,pos,aft,none⟩)::l) s K=bindC (andA (mdOK s (.unOp op t x) md) (litA (unD op (s.ev x)))) P ds dst l s K:=rfl
theorem wk_convert(a b:TypeId)(x:Operand):wk P ds ((md,⟨dst,.convert a b x,ty,pos,aft,none⟩)::l) s K=bindC (andA (mdOK s (.convert a b x) md) (optA (convR P a b (s.ev x)))) P ds dst l s K:=rfl
theorem wk_index(t:TypeId)(x i:Operand):wk P ds ((md,⟨dst,.index t x i,ty,pos,aft,none⟩)::l) s K=bindC (andA (mdOK s (.index t x i) md) (litA (indexD P t (s.ev x) (s.ev i)))) P ds dst l s K:=rfl
theorem wk_fieldAddr(t:TypeId)(x:Operand)(f:Nat):wk P ds ((md,⟨dst,.fieldAddr t x f,ty,pos,aft,none⟩)::l) s K=bindC (andA (mdOK s (.fieldAddr t x f) md) (fieldA (Program.fieldOff P t f) (s.ev x))) P ds dst l s K:=rfl
theorem wk_field(t:TypeId)(x:Operand)(f:Nat):wk P ds ((md,⟨dst,.field t x f,ty,pos,aft,none⟩)::l) s K=bindC (andA (mdOK s (.field t x f) md) (optA (fieldD P t f (s.ev x)))) P ds dst l s K:=rfl
theorem wk_indexAddr(t:TypeId)(x i:Operand):wk P ds ((md,⟨dst,.indexAddr t x i,ty,pos,aft,none⟩)::l) s K=bindC (andA (mdOK s (.indexAddr t x i) md) (indexA (Program.elemSz P t) (s.ev x) (s.ev i))) P ds dst l s K:=rfl
theorem wk_slice(t:TypeId)(x:Operand)(lo hi mx:Option Operand):wk P ds ((md,⟨dst,.slice t x lo hi mx,ty,pos,aft,none⟩)::l) s K=bindC (andA (mdOK s (.slice t x lo hi mx) md) (optA (sliceD P t (s.ev x) (lo.map s.ev) (hi.map s.ev) (mx.map s.ev)))) P ds dst l s K:=rfl
theorem wk_len(x:Operand)(t:TypeId):wk P ds ((md,⟨dst,.call ⟨.builtin .len,#[x],#[t]⟩,ty,pos,aft,none⟩)::l) s K=bindC (andA (mdOK s (.call ⟨.builtin .len,#[x],#[t]⟩) md) (lenA (lenD P t (s.ev x)))) P ds dst l s K:=rfl
theorem wk_cap(x:Operand)(t:TypeId):wk P ds ((md,⟨dst,.call ⟨.builtin .cap,#[x],#[t]⟩,ty,pos,aft,none⟩)::l) s K=bindC (andA (mdOK s (.call ⟨.builtin .cap,#[x],#[t]⟩) md) (lenA (capD P t (s.ev x)))) P ds dst l s K:=rfl
theorem wk_min(x y:Operand)(tys:Array TypeId):wk P ds ((md,⟨dst,.call ⟨.builtin .min,#[x,y],tys⟩,ty,pos,aft,none⟩)::l) s K=bindC (andA (mdOK s (.call ⟨.builtin .min,#[x,y],tys⟩) md) (optA (mnD false (s.ev x) (s.ev y)))) P ds dst l s K:=rfl
theorem wk_max(x y:Operand)(tys:Array TypeId):wk P ds ((md,⟨dst,.call ⟨.builtin .max,#[x,y],tys⟩,ty,pos,aft,none⟩)::l) s K=bindC (andA (mdOK s (.call ⟨.builtin .max,#[x,y],tys⟩) md) (optA (mnD true (s.ev x) (s.ev y)))) P ds dst l s K:=rfl
theorem wk_extract(x:Operand)(i:Nat):wk P ds ((md,⟨dst,.extract x i,ty,pos,aft,none⟩)::l) s K=bindC (andA (mdOK s (.extract x i) md) (extractA (s.ev x) i)) P ds dst l s K:=rfl
theorem wk_nilCheck(x:Operand):wk P ds ((md,⟨dst,.nilCheck x,ty,pos,aft,none⟩)::l) s K=bindC (andA (mdOK s (.nilCheck x) md) (nilA (s.ev x))) P ds dst l s K:=rfl
theorem wk_makeFunc(f:FuncId)(caps:List Operand):wk P ds ((md,⟨dst,.makeFunc (.func f) #[] caps.toArray,ty,pos,aft,none⟩)::l) s K=bindC (andA (mdOK s (.makeFunc (.func f) #[] caps.toArray) md) (fnA f ((caps.map s.ev).mapM capOf))) P ds dst l s K:=rfl
theorem wk_call(f:Operand)(args:List Operand)(tys:Array TypeId):wk P ds ((md,⟨dst,.call ⟨.value f,args.toArray,tys⟩,ty,pos,aft,none⟩)::l) s K=CallC md P ⟨dst,.call ⟨.value f,args.toArray,tys⟩,ty,pos,aft,none⟩ (s.ev f) (args.map s.ev) s dst ds l K:=rfl
theorem wk_append(m:Nat)(x y:Operand)(t:TypeId):wk P ds ((md,⟨some m,.call ⟨.builtin .append,#[x,y],#[t,t]⟩,ty,pos,aft,none⟩)::l) s K=
  AppC md P ⟨some m,.call ⟨.builtin .append,#[x,y],#[t,t]⟩,ty,pos,aft,none⟩ m (appInfo P t) (s.ev x) (s.ev y) s ds l K:=by
 simp [wk,opW,AppC]
theorem wk_alloc(m:Nat)(t:TypeId):wk P ds ((md,⟨some m,.alloc t,ty,pos,aft,none⟩)::l) s K=newC md (Program.zeroT P t) m P ds l s K:=rfl
theorem wk_box(m:Nat)(t:TypeId)(x:Operand):wk P ds ((md,⟨some m,.box t x,ty,pos,aft,none⟩)::l) s K=newC md (s.ev x).cells m P ds l s K:=rfl
theorem wk_store(t:TypeId)(x v:Operand):wk P ds ((md,⟨none,.store t x v,ty,pos,aft,none⟩)::l) s K=stC md (storeD P s t (s.ev x) (s.ev v)) P ds l K:=rfl
theorem wk_copy(args:Array Operand)(tys:Array TypeId):wk P ds ((md,⟨dst,.call ⟨.builtin .copy,args,tys⟩,ty,pos,aft,none⟩)::l) s K=StepC md P ⟨dst,.call ⟨.builtin .copy,args,tys⟩,ty,pos,aft,none⟩ s ds l K:=rfl
theorem wk_makeSlice(t:TypeId)(x y:Operand):wk P ds ((md,⟨dst,.makeSlice t x y,ty,pos,aft,none⟩)::l) s K=StepC md P ⟨dst,.makeSlice t x y,ty,pos,aft,none⟩ s ds l K:=rfl
theorem wk_clear(args:Array Operand)(tys:Array TypeId):wk P ds ((md,⟨dst,.call ⟨.builtin .clear,args,tys⟩,ty,pos,aft,none⟩)::l) s K=StepC md P ⟨dst,.call ⟨.builtin .clear,args,tys⟩,ty,pos,aft,none⟩ s ds l K:=rfl
variable (o : Oper) (m : Nat) (info : Option (Nat × Nat)) (y : D)
theorem AppC_own(n sz:Nat)(xs:List (List C)):AppC md P o m info (.one (.own n sz xs)) y s ds l K=bindSC md (appS s m info (.one (.own n sz xs)) y) P ds l K:=by cases md<;>rfl
theorem AppC_ex(sz:Nat)(xs:List (List C)):AppC md P o m info (.one (.ex sz xs)) y s ds l K=bindSC md (appS s m info (.one (.ex sz xs)) y) P ds l K:=by cases md<;>rfl
theorem AppC_nil:AppC md P o m info (.one (.c (.lit (.slice none 0 0)))) y s ds l K=bindSC md (appS s m info (.one (.c (.lit (.slice none 0 0)))) y) P ds l K:=by cases md<;>rfl
theorem AppC_ba(n sz i len cap:Nat):AppC md P o m info (.one (.ba n sz i len cap)) y s ds l K=StepC md P o s ds l K:=rfl
theorem mdOK_step(op:Op):mdOK s op .step=True:=rfl
theorem mdOK_light(op:Op):mdOK s op .light=True:=rfl
theorem mdOK_blind(op:Op):mdOK s op .blind=blindOK s op:=rfl
theorem mdOK_look(op:Op)(fr:List Nat):mdOK s op (.look fr)=lookOk fr s op:=rfl
theorem blindOK_move(x:Operand):blindOK s (.move x)=True:=rfl
theorem blindOK_assign(x:Operand):blindOK s (.assign x)=True:=rfl
theorem blindOK_slice(t:TypeId)(x:Operand)(lo hi mx:Option Operand):blindOK s (.slice t x lo hi mx)=True:=rfl
theorem blindOK_nilCheck(x:Operand):blindOK s (.nilCheck x)=isBxD (s.ev x):=rfl
theorem blindOK_fieldAddr(t:TypeId)(x:Operand)(f:Nat):blindOK s (.fieldAddr t x f)=isBxD (s.ev x):=rfl
theorem blindOK_binOp(op:BinOp)(t t':TypeId)(x y:Operand):blindOK s (.binOp op t x y t')=(isLitD (s.ev x)∧isLitD (s.ev y)):=rfl
theorem blindOK_indexAddr(t:TypeId)(x i:Operand):blindOK s (.indexAddr t x i)=isBaD (s.ev x):=rfl
theorem isBxD_mk(n sz i k:Nat):isBxD (.one (.bx n sz i k))=True:=rfl
theorem isLitD_mk(v:Value):isLitD (.one (.c (.lit v)))=True:=rfl
theorem isBaD_mk(n sz i k c:Nat):isBaD (.one (.ba n sz i k c))=True:=rfl
def lookAt(fr:List Nat):D→Prop
 | .one (.bx n _ _ _)=>n∉fr∧¬mid n
 | _=>False
theorem lookOk_load(fr:List Nat)(t:TypeId)(x:Operand):lookOk fr s (.load t x)=lookAt fr (s.ev x):=rfl
theorem lookAt_mk(fr:List Nat)(n sz i k:Nat):lookAt fr (.one (.bx n sz i k))=(n∉fr∧¬mid n):=rfl
end
section
variable {P : Program} {g : FuncId} {args es : List D} {r : D} {s : DS} {dst : Option Nat} {ds : List (Option Nat)} {l : List (Mode × Oper)} {K : DS → Prop} {o : Oper}
theorem CallC.mk{caps:List C}(hc:DCalls P g es r)(hle:LeL (args.map D.cl++caps.map fun c=>D.one (.c c)) es)(hk:wk P ds l (callPut s dst r) K):CallC .step P o (.one (.c (.fn g caps))) args s dst ds l K:=
 .inl ⟨g,caps,es,r,rfl,hle,hc,hk⟩
theorem CallC.light{caps:List C}(hc:DCalls P g es r)(hle:LeL (args.map D.cl++caps.map fun c=>D.one (.c c)) es)(hk:wk P ds l (s.put dst r.cl) K):CallC .light P o (.one (.c (.fn g caps))) args s dst ds l K:=
 ⟨g,caps,es,r,rfl,hle,hc,hk⟩
theorem CallC.eff{f:D}{caps:List T}{H:Mem}{R:D→Mem→Prop}(ns:List Nat)(hc:ECalls P g es H R)(hf:f.asFn=some (g,caps))(hle:DLeL ((args++caps.map D.one).map (D.tr (shf ns))) es)(hH: ∀k r,H k=some r→callMem s.bx ns k=some r)(hd:CallOk ns dst)
  (hk: ∀r H',R r H'→wk P ds l (s.aftCall ns dst r H') K):CallC .step P o f args s dst ds l K:=
 .inr <| .inl ⟨ns,g,caps,es,H,R,hf,hle,hc,hH,hd,hk⟩
theorem CallC.new{f:D}{caps:List T}{R:D→Mem→Prop}(hc:ECalls P g es noMem R)(hf:f.asFn=some (g,caps))(hle:DLeL ((args++caps.map D.one).map (D.tr (shfM noMid []))) es)(hd:CallOkM noMid [] dst)
  (hk: ∀r H',R r H'→wk P ds l (s.aftCallM noMid [] dst r H') K):CallC .fresh P o f args s dst ds l K:=
 ⟨g,caps,es,R,hf,hle,hc,hd,hk⟩
theorem CallC.step{f:D}(h:Step P { o with guard:=none } s fun s'=>wk P ds l s' K):CallC .step P o f args s dst ds l K:=.inr (.inr h)
theorem StepC.mk{o:Oper}(h:Step P o s fun s'=>wk P ds l s' K):StepC .step P o s ds l K:=h
end
/-! ### Looking into a state -/
theorem initE_sl(N:Nat)(ds:List D)(H:Mem)(t:Nat):(initE N ds H).sl t=ds.getD t .any:=rfl
theorem initE_bx(N:Nat)(ds:List D)(H:Mem)(t:Nat):(initE N ds H).bx t=H t:=rfl
theorem noMem_at(t:Nat):noMem t=none:=rfl
theorem ev_tmp(s:DS)(t:Nat):s.ev (.tmp t)=s.sl t:=rfl
theorem ev_const(s:DS)(v:Value):s.ev (.const v)=constD v:=rfl
theorem ev_func(s:DS)(f:FuncId):s.ev (.func f)= .one (.c (.fn f [])):=rfl
theorem put_sl(s:DS)(m:Nat)(d:D)(t:Nat):(s.put (some m) d).sl t=if t=m then d else s.sl t:=rfl
theorem put_bx'(s:DS)(dst:Option Nat)(d:D)(t:Nat):(s.put dst d).bx t=s.bx t:=by cases dst<;>rfl
theorem put_none(s:DS)(d:D):s.put none d=s:=rfl
theorem tr_sl(s:DS)(r:Ren)(t:Nat):(s.tr r).sl t=(s.sl t).tr r:=rfl
theorem tr_bx(s:DS)(r:Ren)(t:Nat):(s.tr r).bx t=(s.bx t).map (Rows.tr r):=rfl
theorem close_sl(s:DS)(ns:List Nat)(t:Nat):(s.close ns).sl t=(s.sl t).tr (cls ns):=rfl
theorem close_bx(s:DS)(ns:List Nat)(t:Nat):(s.close ns).bx t=(s.bx t).map (Rows.tr (cls ns)):=rfl
theorem newBx_sl(s:DS)(m:Nat)(ts:List T)(t:Nat):(s.newBx m ts).sl t=if t=m then .one (.bx m ts.length 0 0)else(s.sl t).tr (fgt m):=rfl
theorem newBx_bx(s:DS)(m:Nat)(ts:List T)(t:Nat):(s.newBx m ts).bx t=if t=m then some (Rows.tr (fgt m) [ts])else(s.bx t).map (Rows.tr (fgt m)):=rfl
theorem newMem_sl(s:DS)(m:Nat)(rows:Rows)(t:Nat):(s.newMem m rows).sl t=(s.sl t).tr (fgt m):=rfl
theorem newMem_bx'(s:DS)(m:Nat)(rows:Rows)(t:Nat):(s.newMem m rows).bx t=if t=m then some (Rows.tr (fgt m) rows)else(s.bx t).map (Rows.tr (fgt m)):=rfl
theorem setBx_sl(s:DS)(m:Nat)(ts:Option Rows)(t:Nat):(s.setBx m ts).sl t=s.sl t:=rfl
theorem setBx_bx(s:DS)(m:Nat)(ts:Option Rows)(t:Nat):(s.setBx m ts).bx t=if t=m then ts else s.bx t:=rfl
theorem moveMem_sl(s:DS)(n m:Nat)(rows:Rows)(t:Nat):(s.moveMem n m rows).sl t=(s.sl t).tr (fgts [n,m]):=rfl
theorem moveMem_bx(s:DS)(n m:Nat)(rows:Rows)(t:Nat):(s.moveMem n m rows).bx t=if t=m then some (Rows.tr (fgts [n,m]) rows)else if t=n then none else(s.bx t).map (Rows.tr (fgts [n,m])):=rfl
theorem aftCall_sl(s:DS)(ns:List Nat)(m:Nat)(r:D)(H':Mem)(t:Nat):(s.aftCall ns (some m) r H').sl t=if t=m then r.tr (usf ns (some m))else(s.sl t).tr (aft ns (some m)):=rfl
theorem aftCall_sln(s:DS)(ns:List Nat)(r:D)(H':Mem)(t:Nat):(s.aftCall ns none r H').sl t=(s.sl t).tr (aft ns none):=rfl
theorem aftCall_bx(s:DS)(ns:List Nat)(m:Option Nat)(r:D)(H':Mem)(t:Nat):(s.aftCall ns m r H').bx t=callMemAft s.bx H' ns m t:=by cases m<;>rfl
theorem cls_f(ns:List Nat)(n:Nat):(cls ns).f n=if n∈ns then none else some n:=rfl
theorem cls_g(ns:List Nat)(n:Nat):(cls ns).g n=some n:=rfl
theorem fgt_f(m n:Nat):(fgt m).f n=some n:=rfl
theorem fgt_g(m n:Nat):(fgt m).g n=if n=m then none else some n:=rfl
theorem fgts_f(ms:List Nat)(n:Nat):(fgts ms).f n=some n:=rfl
theorem fgts_g(ms:List Nat)(n:Nat):(fgts ms).g n=if n∈ms then none else some n:=rfl
theorem lab_f(m n:Nat):(lab m).f n=if n=0 then some m else none:=rfl
theorem lab_g(m n:Nat):(lab m).g n=none:=rfl
theorem shf_f(ns:List Nat)(n:Nat):(shf ns).f n=if n∈ns then some (n+NB)else if mid n then some n else none:=rfl
theorem shf_g(ns:List Nat)(n:Nat):(shf ns).g n=if n∈ns then some (n+NB)else if mid n then some n else none:=rfl
theorem usf_f(ns:List Nat)(m:Option Nat)(k:Nat):(usf ns m).f k=if k=0 then m else if NB≤k∧k - NB∈ns then some (k - NB)else if mid k then some k else none:=rfl
theorem usf_g(ns:List Nat)(m:Option Nat)(k:Nat):(usf ns m).g k=if k=0 then m else if NB≤k∧k - NB∈ns then some (k - NB)else if mid k then some k else none:=rfl
theorem aft_f(ns:List Nat)(m:Option Nat)(n:Nat):(aft ns m).f n=if n∈ns∨mid n∨m=some n then none else some n:=rfl
theorem aft_g(ns:List Nat)(m:Option Nat)(n:Nat):(aft ns m).g n=if mid n∨m=some n then none else some n:=rfl
theorem tr_c(r:Ren)(cs:List C):T.trAll r (cs.map T.c)=cs.map T.c:=by
 rw [T.trAll_eq,List.map_map];congr 1
theorem Rows.tr_c(r:Ren)(xs:List (List C)):Rows.tr r (xs.map (List.map T.c))=xs.map (List.map T.c):=by
 simp only [Rows.tr,List.map_map]
 congr 1
 funext l
 exact Go.Dl.tr_c r l
theorem Rows.tr_nil(r:Ren):Rows.tr r []= []:=rfl
theorem Rows.tr_cons(r:Ren)(x:List T)(xs:Rows):Rows.tr r (x::xs)=T.trAll r x::Rows.tr r xs:=rfl
theorem Rows.tr_append(r:Ren)(xs ys:Rows):Rows.tr r (xs++ys)=Rows.tr r xs++Rows.tr r ys:=List.map_append
theorem callPut_none(s:DS)(r:D):callPut s none r=s:=rfl
theorem callPut_some(s:DS)(m:Nat)(r:D):callPut s (some m) r=retPut s m r:=rfl
theorem retPut_c(s:DS)(m:Nat)(x:C):retPut s m (.one (.c x))=s.put (some m) (.one (.c x)):=rfl
theorem retPut_ex(s:DS)(m sz:Nat)(xs:List (List C)):retPut s m (.one (.ex sz xs))=s.put (some m) (.one (.ex sz xs)):=rfl
theorem retPut_own(s:DS)(m sz:Nat)(xs:List (List C)):retPut s m (.one (.own 0 sz xs))=(s.close [m]).put (some m) (.one (.own m sz xs)):=rfl
theorem retPut_tup(s:DS)(m:Nat)(ds:List D):retPut s m (.tup ds)=(s.close [m]).put (some m) ((D.tup ds).tr (lab m)):=rfl
theorem retPut_agg(s:DS)(m:Nat)(ts:List T):retPut s m (.agg ts)=(s.close [m]).put (some m) ((D.agg ts).tr (lab m)):=rfl
theorem resL_nil(P:Program)(s:DS):resL P s []=some []:=rfl
theorem resL_tmp(P:Program)(s:DS)(t:Nat)(r:List ResultVar):resL P s (.tmp t::r)=(resL P s r).map fun l=>s.sl t::l:=rfl
theorem resL_cell(P:Program)(s:DS)(a:Nat)(t:TypeId)(r:List ResultVar):resL P s (.cell a t::r)=(ldD P s.bx t (s.sl a)).bind fun d=>(resL P s r).map fun l=>d::l:=rfl
theorem resD_one(P:Program)(s:DS)(t:Nat):resD P s [.tmp t]=some (s.sl t):=rfl
theorem resD_cell(P:Program)(s:DS)(a:Nat)(t:TypeId):resD P s [.cell a t]=ldD P s.bx t (s.sl a):=by
 unfold resD
 rw [resL_cell,resL_nil]
 cases ldD P s.bx t (s.sl a)<;>rfl
theorem resD_nil(P:Program)(s:DS):resD P s []=some (.tup []):=rfl
theorem dcalls{P:Program}{f:FuncId}{fn:Func}{c:Code}{ds:List D}{r:D}{N:Nat}{rs:List ResultVar}(hp:Program.plainF P f=true)(hf:P.funcs[f]? =some fn)(hb:fn.body=some c)(hN:fn.ntmps=N)(hrs:fn.results.toList=rs)(hn:(decide (ds.length≤N)&&decide (N≤100000))=true)
  (h:DW P c (initE N ds noMem) (fun e s'=>(e= .normal∨e= .ret)∧resD P s' rs=some r)):DCalls P f ds r:=by
 subst hN;subst hrs
 simp only [Bool.and_eq_true,decide_eq_true_eq]at hn
 exact dcalls_intro hp hf hb hn.1 (Nat.le_trans hn.2 NB_big) h
theorem ecalls{P:Program}{f:FuncId}{fn:Func}{c:Code}{ds:List D}{H:Mem}{R:D→Mem→Prop}{N:Nat}{rs:List ResultVar}(hp:Program.plainF P f=true)(hf:P.funcs[f]? =some fn)(hb:fn.body=some c)(hN:fn.ntmps=N)(hrs:fn.results.toList=rs)(hn:(decide (ds.length≤N)&&decide (N≤100000))=true)
  (h:DW P c (initE N ds H) (fun e s'=>(e= .normal∨e= .ret)∧∃r,resD P s' rs=some r∧R r s'.bx)):ECalls P f ds H R:=by
 subst hN;subst hrs
 simp only [Bool.and_eq_true,decide_eq_true_eq]at hn
 exact ecalls_intro hp hf hb hn.1 (Nat.le_trans hn.2 NB_big) h
theorem LeL.refl_: ∀(l:List D),LeL l l
 | []=>.nil
 | _::l=>.cons (fun _ _ _ h=>h) (LeL.refl_ l)
theorem LeL.of_eq{l l':List D}(h:l=l'):LeL l l':=h▸LeL.refl_ l
theorem Le.refl_(d:D):Le d d:=fun _ _ _ h=>h
theorem Le.nil_(sz:Nat):Le (.one (.c (.lit (.slice none 0 0)))) (.one (.c (.sl sz []))):=fun w K v h=>by
 rw [h.lit];exact .one _ _ (.c _ _ (.nil sz))
/-! ### Numbers -/
theorem wrap_i64{n:Int}(h1: -9223372036854775808≤n)(h2:n<9223372036854775808):IntKind.i64.wrap n=n:=by
 rw [IntKind.wrap_i64]
 omega
theorem ev_global(s:DS)(g:Nat):s.ev (.global g)=globD g:=rfl
theorem rowsB_bytes(b:ByteArray):rowsB (bytesC b)=some b.data.toList:=by
 unfold bytesC
 induction b.data.toList with
 | nil=>rfl
 | cons x l ih=>simp [rowsB,byteC,ih]
theorem wrap_succ(k:Nat)(h:k<maxLen):IntKind.i64.wrap ((k:Int)+1)=((k+1:Nat):Int):=by
 unfold maxLen at h
 rw [wrap_i64 (by omega) (by omega)];rfl
attribute [go_sem ↓] wk_nil wk_tag wk_tagn wk_guard wk_move wk_assign wk_pick wk_load wk_build wk_buildSlice_step wk_buildSlice_light wk_buildSlice_hand wk_buildSlice_fresh wk_binOp wk_unOp wk_convert wk_fieldAddr wk_field wk_indexAddr wk_index wk_slice wk_len wk_cap wk_min wk_max wk_extract wk_nilCheck wk_makeFunc wk_call wk_append wk_alloc wk_box wk_store wk_copy wk_clear wk_makeSlice
attribute [go_sem ↓] thenD_normal thenD_ret thenD_exit inBlockD_normal inBlockD_ret inBlockD_exit
attribute [go_sem ↓] mdOK_step mdOK_light mdOK_blind mdOK_look blindOK_move blindOK_assign blindOK_slice blindOK_nilCheck blindOK_fieldAddr blindOK_binOp blindOK_indexAddr lookOk_load resD_one resD_cell resD_nil
attribute [go_sem] isBxD_mk isLitD_mk isBaD_mk lookAt_mk
attribute [go_sem] newOneC_mk bindC_mk optA_some litA_some andA_mk bindSC_mk stC_some newC_some guardC_true guardC_false AppC_own AppC_ex AppC_nil AppC_ba List.getD_cons_zero List.getD_cons_succ List.getD_nil
attribute [go_sem] initE_sl initE_bx noMem_at ev_tmp ev_const ev_func put_sl put_bx' put_none tr_sl tr_bx close_sl close_bx newBx_sl newBx_bx newMem_sl newMem_bx' setBx_sl setBx_bx moveMem_sl moveMem_bx aftCall_sl aftCall_sln aftCall_bx Rows.tr_c tr_c Rows.tr_nil Rows.tr_cons Rows.tr_append
attribute [go_sem] callPut_none callPut_some retPut_c retPut_ex retPut_own retPut_tup retPut_agg resL_nil resL_tmp resL_cell
attribute [go_sem] pickA fieldA slA indexA extractA nilA lenA rowsA aggA fnA fnOf appS gV resD constD ldD rowAt D.cells T.cl D.cl T.tr T.trAll D.tr D.trAll T.ownTo T.bxTo T.baTo mid cls_f cls_g fgt_f fgt_g fgts_f fgts_g lab_f lab_g shf_f shf_g usf_f usf_g aft_f aft_g
attribute [go_sem] convR convX indexD byteC rowsB rowsB_bytes ev_global
attribute [go_sem] mnD fillD buildD rowsD buildSliceD binD intB strB unD convD lenD capD boundD sliceD fieldD partD storeD appSrc appNew D.asSl D.asLit capOf T.asC isNilD nilB D.asFn
attribute [irreducible] newOneC bindC bindSC stC newC CallC StepC AppC guardC
end
end Go.Dl
/- The logic of data: loops by a family of states, of which only some slots are known; weakenings; names that no slot takes. -/
namespace Go.Dl
open Go.RowKit
noncomputable section
def lk{α:Type}(z:α):List (Nat×α)→Nat→α
 | [],_=>z
 | (u,d)::r,t=>if t=u then d else lk z r t
def ml(l:List (Nat×Rows)):Mem:=fun k=>lk none (l.map fun p=>(p.1,some p.2)) k
def kn(N:Nat)(sls:List (Nat×D))(bx:Mem):DS:={ n:=N,sl:=lk .any sls,bx:=bx,pl:=false }
theorem lk_nil{α:Type}(z:α)(t:Nat):lk z [] t=z:=rfl
theorem lk_cons{α:Type}(z:α)(u:Nat)(d:α)(r:List (Nat×α))(t:Nat):lk z ((u,d)::r) t=if t=u then d else lk z r t:=rfl
theorem kn_sl(N:Nat)(sls:List (Nat×D))(bx:Mem)(t:Nat):(kn N sls bx).sl t=lk .any sls t:=rfl
theorem kn_bx(N:Nat)(sls:List (Nat×D))(bx:Mem)(t:Nat):(kn N sls bx).bx t=bx t:=rfl
theorem ml_nil(t:Nat):ml [] t=none:=rfl
theorem ml_cons(u:Nat)(r:Rows)(l:List (Nat×Rows))(t:Nat):ml ((u,r)::l) t=if t=u then some r else ml l t:=rfl
theorem DLe.rfl_(d:D):DLe d d:=fun _ _ _ h=>h
theorem DLe.own_(n sz:Nat)(xs:List (List C)):DLe (.one (.own n sz xs)) (.one (.c (.sl sz xs))):=fun w E v h=>by
 cases h with|one t v h=>cases h with|own n sz xs v h _ _=>exact .one _ _ (.c _ _ h)
theorem DLe.ex_(sz:Nat)(xs:List (List C)):DLe (.one (.ex sz xs)) (.one (.c (.sl sz xs))):=fun w E v h=>by
 cases h with|one t v h=>cases h with|ex sz xs v h _=>exact .one _ _ (.c _ _ h)
theorem DLe.nil_(sz:Nat):DLe (.one (.c (.lit (.slice none 0 0)))) (.one (.c (.sl sz []))):=fun w E v h=>by
 rw [h.lit];exact .one _ _ (.c _ _ (.nil sz))
theorem DLe.nilx_(sz:Nat):DLe (.one (.c (.lit (.slice none 0 0)))) (.one (.ex sz [])):=fun w E v h=>by
 rw [h.lit];exact .one _ _ (.ex _ _ _ (.nil sz) ⟨none,0,rfl⟩)
theorem DLe.any_(d:D):DLe d .any:=fun w E v h=>.any v
theorem DLe.of_eq{d d':D}(h:d=d'):DLe d d':=h▸DLe.rfl_ d
theorem DLeL.rfl_: ∀(l:List D),DLeL l l
 | []=>.nil
 | _::l=>.cons (DLe.rfl_ _) (DLeL.rfl_ l)
theorem DLeL.of_eq{l l':List D}(h:l=l'):DLeL l l':=h▸DLeL.rfl_ l
def AllS(s:DS):List (Nat×D)→Prop
 | []=>True
 | (t,d)::r=>(s.sl t=d∨DLe (s.sl t) d)∧AllS s r
def AllB(s:DS):List (Nat×Rows)→Prop
 | []=>True
 | (m,ts)::r=>s.bx m=some ts∧AllB s r
theorem AllS.get{s:DS}: ∀{sls:List (Nat×D)},AllS s sls→∀t,lk .any sls t= .any∨DLe (s.sl t) (lk .any sls t)
 | [],_,t=>.inl rfl
 | (u,d)::r,h,t=>by
  simp only [lk]
  split
  ·rename_i ht;subst ht
   rcases h.1 with h1|h1
   ·exact .inr (h1▸DLe.rfl_ _)
   ·exact .inr h1
  ·exact AllS.get h.2 t
theorem AllB.get{s:DS}: ∀{bxs:List (Nat×Rows)},AllB s bxs→∀t r,ml bxs t=some r→s.bx t=some r
 | [],_,t,r,h=>by cases h
 | (u,d)::l,h,t,r,hr=>by
  rw [ml_cons]at hr
  split at hr
  ·rename_i ht;subst ht;rw [← hr];exact h.1
  ·exact AllB.get h.2 t r hr
theorem sub_of{s s':DS}(hp:s'.pl=true→s.pl=true)(hn:s.n=s'.n)(h1: ∀t,s'.sl t= .any∨DLe (s.sl t) (s'.sl t))(h2: ∀k r,s'.bx k=some r→s.bx k=some r):s.Sub s':=by
 rintro X a w ⟨E,hE⟩
 refine⟨E,⟨hE.wi.less h2,fun t=>?_,hE.size.trans hn,hE.defers,by rw [← hn];exact hE.small,fun h=>hE.pl (hp h)⟩⟩
 rcases h1 t with h|h
 ·rw [h];exact .any _
 ·exact h w E _ (hE.sl t)
theorem sub_kn{s:DS}{N:Nat}{sls:List (Nat×D)}{bx:Mem}(hn:s.n=N)(h1:AllS s sls)(h2: ∀k r,bx k=some r→s.bx k=some r):s.Sub (kn N sls bx):=
 sub_of (fun h=>by cases h) hn (AllS.get h1) h2
theorem sub_ml{s:DS}{N:Nat}{sls:List (Nat×D)}{bxs:List (Nat×Rows)}(hn:s.n=N)(h1:AllS s sls)(h2:AllB s bxs):s.Sub (kn N sls (ml bxs)):=
 sub_of (fun h=>by cases h) hn (AllS.get h1) (AllB.get h2)
theorem DS.Sub.trans{a b c:DS}(h:a.Sub b)(k:b.Sub c):a.Sub c:=fun X x w hr=>k X x w (h X x w hr)
theorem DS.Sub.refl(a:DS):a.Sub a:=fun _ _ _ h=>h
section
variable {P : Program} {s : DS} {Q : Exit → DS → Prop}
theorem dw_loop_fam{α:Type}{c:Code}(S:α→DS)(Inv:α→Prop)(μ:α→Nat)(x0:α)(h0:s.Sub (S x0))(hi:Inv x0)
  (round: ∀x,Inv x→DW P c (S x) (thenD (fun s'=>∃x',Inv x'∧μ x'<μ x∧s'.Sub (S x')) Q)):DW P (.loop c) s Q:=by
 intro X a w hr b k cs hro hb hroom
 have key: ∀n x,μ x=n→Inv x→∀a w,Rel X (S x) a w→
   ∃e a' w',(∃s',Q e s'∧Rel X s' a' w')∧ArrivesIn (Machine.fenced P (rd X.ro)) P (lone (b.atR a (.code c:: .inLoop c::k)) cs w) b k cs e a' w':=by
  intro n
  induction n using Nat.strongRecOn with
  | _ n ih=>
   intro x hn hI a w hr
   obtain⟨e,a₁,w₁,⟨s₁,hq,hr₁⟩,harr⟩:=round x hI X a w hr b (.inLoop c::k) cs hro hb hroom
   cases e with
   | normal=>
    obtain⟨x',hI₁,hlt,hsub⟩:=hq
    obtain⟨e₂,a₂,w₂,hq₂,harr₂⟩:=ih (μ x') (hn▸hlt) x' rfl hI₁ a₁ w₁ (hsub X a₁ w₁ hr₁)
    exact⟨e₂,a₂,w₂,hq₂,.of_steps (StepsIn.trans harr (.one (fenced_calm hb hroom rfl) stepR_inLoop)) harr₂⟩
   | exit id=>exact⟨_,a₁,w₁,⟨s₁,hq,hr₁⟩,.pass (x:=.inLoop c) rfl (fun _ _=>.inl (by simp)) harr⟩
   | goto l=>exact⟨_,a₁,w₁,⟨s₁,hq,hr₁⟩,.pass (x:=.inLoop c) rfl (fun _ _=>.inl (by simp)) harr⟩
   | ret=>exact⟨_,a₁,w₁,⟨s₁,hq,hr₁⟩,.pass (x:=.inLoop c) rfl (fun _ _=>.inl (by simp)) harr⟩
   | panic ch=>exact⟨_,a₁,w₁,⟨s₁,hq,hr₁⟩,.pass (x:=.inLoop c) rfl (fun _ _=>.inl (by simp)) harr⟩
   | outgrown=>exact⟨_,a₁,w₁,⟨s₁,hq,hr₁⟩,.pass (x:=.inLoop c) rfl (fun _ _=>.inl (by simp)) harr⟩
 obtain⟨e,a',w',hq,harr⟩:=key _ x0 rfl hi a w (h0 X a w hr)
 exact⟨e,a',w',hq,.of_steps (.one (fenced_calm hb hroom rfl) stepR_loop) harr⟩
theorem sub_own(t n sz:Nat)(h:s.sl t= .one (.c (.lit (.slice none 0 0)))):s.Sub ((s.close [n]).put (some t) (.one (.own n sz []))):=by
 rintro X a w ⟨E,hE⟩
 have hv:=hE.sl t
 rw [h]at hv
 have hnil:=hv.lit
 have hns: ∀b o,¬spare ((.slice none 0 0,sz):Value×Nat) b o:=fun b o ⟨a,len,cap,h1,_⟩=>by cases h1
 have h1:=hE.setVal n (.slice none 0 0,sz) (fun b o hs=>absurd hs (hns b o))
 refine⟨_,⟨h1.wi,fun u=>?_,h1.size,h1.defers,h1.small,h1.pl⟩⟩
 simp only [DS.put]
 by_cases hu:u=t
 ·subst hu
  rw [if_pos rfl,hnil]
  exact .one _ _ (.own n sz [] _ (.nil sz) (by simp [Env.setVal]) (Exact.tame ⟨none,0,rfl⟩))
 ·rw [if_neg hu];exact h1.sl u
theorem dw_own(t n sz:Nat){c:Code}(h:s.sl t= .one (.c (.lit (.slice none 0 0))))(hc:DW P c ((s.close [n]).put (some t) (.one (.own n sz []))) Q):DW P c s Q:=dw_weaken (sub_own t n sz h) hc
/-! ### A memory by another name -/
def mvr(n m:Nat):Ren:=⟨some,fun k=>if k=n then some m else if k=m then none else some k⟩
def DS.mv(s:DS)(n m:Nat):DS:={ s with sl:=fun t=>(s.sl t).tr (mvr n m),bx:=fun k=>if k=m then(s.bx n).map (Rows.tr (mvr n m))else if k=n then none else(s.bx k).map (Rows.tr (mvr n m)) }
theorem renames_mvr(E:Env)(n m:Nat):Renames (mvr n m) E (E.setρ m (E.ρ n)):=
 ⟨rfl,fun k j h=>by injection h with h;rw [h];rfl,fun k j h=>by
  simp only [mvr]at h
  split at h
  ·rename_i hk;injection h with h;subst h;subst hk;simp [Env.setρ]
  ·split at h
   ·cases h
   ·rename_i hk;injection h with h;subst h;simp [Env.setρ,hk]⟩
theorem mv_some{s:DS}{n m:Nat}{k:Nat}{r:Rows}(h:(s.mv n m).bx k=some r):
  (k=m∧∃r',s.bx n=some r'∧r=Rows.tr (mvr n m) r')∨(k≠m∧k≠n∧∃r',s.bx k=some r'∧r=Rows.tr (mvr n m) r'):=by
 simp only [DS.mv]at h
 split at h
 ·rename_i hk
  simp only [Option.map_eq_some_iff]at h
  obtain⟨r',h1,h2⟩:=h
  exact .inl ⟨hk,r',h1,h2.symm⟩
 ·rename_i hk
  split at h
  ·cases h
  ·rename_i hk2
   simp only [Option.map_eq_some_iff]at h
   obtain⟨r',h1,h2⟩:=h
   exact .inr ⟨hk,hk2,r',h1,h2.symm⟩
theorem sub_mv(n m:Nat)(hm:m<100000):s.Sub (s.mv n m):=by
 rintro X a w ⟨E,h⟩
 have hR:=renames_mvr E n m
 have hρm:(E.setρ m (E.ρ n)).ρ m=E.ρ n:=by simp [Env.setρ]
 have hρ: ∀k,k≠m→(E.setρ m (E.ρ n)).ρ k=E.ρ k:=fun k hk=>by simp [Env.setρ,hk]
 refine⟨E.setρ m (E.ρ n),⟨⟨h.wi.turn,h.wi.sep,h.wi.kin,h.wi.kold,h.wi.kok,fun k us hk hne=>?_,fun k j rk rj hk h2 hj h3 hne=>?_,h.wi.free,h.wi.disj,fun k j b o rj hs hj h3=>?_,fun k hk=>?_⟩,fun t=>(h.sl t).tr hR,h.size,h.defers,h.small,h.pl⟩⟩
 ·rcases mv_some hk with⟨rfl,r',g0,rfl⟩|⟨hkm,hkn,r',g1,rfl⟩
  ·obtain⟨g1,g2,g3⟩:=h.wi.boxes n r' g0 (Rows.tr_ne hne)
   rw [hρm];exact⟨g1,g2.tr hR,g3⟩
  ·obtain⟨g2,g3,g4⟩:=h.wi.boxes k r' g1 (Rows.tr_ne hne)
   rw [hρ k hkm];exact⟨g2,g3.tr hR,g4⟩
 ·rcases mv_some hk with⟨rfl,r',g0,rfl⟩|⟨hkm,hkn,r',g1,rfl⟩
  ·rcases mv_some hj with⟨rfl,_⟩|⟨hjm,hjn,r2,g2,rfl⟩
   ·exact absurd rfl hne
   ·rw [hρm,hρ j hjm];exact h.wi.boxne n j r' r2 g0 (Rows.tr_ne h2) g2 (Rows.tr_ne h3) (fun e=>hjn e.symm)
  ·rcases mv_some hj with⟨rfl,r2,g0,rfl⟩|⟨hjm,hjn,r2,g2,rfl⟩
   ·rw [hρm,hρ k hkm];exact h.wi.boxne k n r' r2 g1 (Rows.tr_ne h2) g0 (Rows.tr_ne h3) hkn
   ·rw [hρ k hkm,hρ j hjm];exact h.wi.boxne k j r' r2 g1 (Rows.tr_ne h2) g2 (Rows.tr_ne h3) hne
 ·rcases mv_some hj with⟨rfl,r2,g0,rfl⟩|⟨hjm,hjn,r2,g2,rfl⟩
  ·rw [hρm];exact h.wi.sbox k n b o r2 hs g0 (Rows.tr_ne h3)
  ·rw [hρ j hjm];exact h.wi.sbox k j b o r2 hs g2 (Rows.tr_ne h3)
 ·have:=h.small.2
  have:=NB_big
  rw [hρ k (by omega)];exact h.wi.fix k hk
theorem ba_zero{w:World}{E:Env}{v:Value}{d:D}(k sz:Nat)(hd:d= .one (.c (.lit (.slice none 0 0)))∨∃z,d= .one (.ex z []))(h:VD w E d v):VD w E (.one (.ba k sz 0 0 0)) v:=by
 rcases hd with rfl|⟨z,rfl⟩
 ·rw [h.lit];exact .one _ _ (.bz k sz 0 none)
 ·cases h with|one t v h=>cases h with|ex _ _ v h hx=>
   obtain⟨A,n,rfl⟩:=hx
   have:n=0:=by
    cases h with
    | nil=>rfl
    | sl _ _ a cap cv=>rfl
   subst this
   exact .one _ _ (.bz k sz 0 A)
theorem sub_zero(t k sz:Nat)(hd:s.sl t= .one (.c (.lit (.slice none 0 0)))∨∃z,s.sl t= .one (.ex z [])):s.Sub ((s.setBx k (some [])).put (some t) (.one (.ba k sz 0 0 0))):=by
 rintro X a w ⟨E,h⟩
 have h1:=h.noRows k
 refine⟨E,⟨h1.wi,fun u=>?_,h1.size,h1.defers,h1.small,h1.pl⟩⟩
 rw [put_sl]
 split
 ·rename_i hu;subst hu
  exact ba_zero k sz hd (h.sl u)
 ·exact h1.sl u
end
/-! ### Names between -/
mutual
def T.Mids:T→Prop
 | .own n _ _=>mid n
 | .bx n _ _ _=>mid n
 | .ba n _ _ _ _=>mid n
 | .fv _ caps=>T.MidsAll caps
 | .c _=>True
 | .ex _ _=>True
def T.MidsAll:List T→Prop
 | []=>True
 | t::l=>t.Mids∧T.MidsAll l
end
def Rows.Mids(rows:Rows):Prop:=∀r∈rows,T.MidsAll r
def Ren.Keeps(r:Ren):Prop:=∀n,mid n→r.f n=some n∧r.g n=some n
mutual
theorem T.tr_mids{r:Ren}(hr:r.Keeps): ∀t:T,t.Mids→t.tr r=t
 | .own n sz xs,h=>by simp only [T.tr,(hr n h).1,T.ownTo]
 | .bx n sz i o,h=>by simp only [T.tr,(hr n h).2,T.bxTo]
 | .ba n sz i len cap,h=>by simp only [T.tr,(hr n h).2,T.baTo]
 | .fv f caps,h=>by simp only [T.tr];rw [T.trAll_mids hr caps h]
 | .c _,_=>by simp only [T.tr]
 | .ex _ _,_=>by simp only [T.tr]
theorem T.trAll_mids{r:Ren}(hr:r.Keeps): ∀l:List T,T.MidsAll l→T.trAll r l=l
 | [],_=>by simp only [T.trAll]
 | t::l,h=>by simp only [T.trAll];rw [T.tr_mids hr t h.1,T.trAll_mids hr l h.2]
end
theorem Rows.tr_mids{r:Ren}(hr:r.Keeps){rows:Rows}(h:Rows.Mids rows):Rows.tr r rows=rows:=by
 unfold Rows.tr
 conv=>rhs;rw [← List.map_id rows]
 exact List.map_congr_left fun x hx=>T.trAll_mids hr x (h x hx)
theorem notmid{m:Nat}(hm:m<1000): ¬mid m:=fun h=>by have:=h.1;omega
theorem notmidNB{m:Nat}(hm:NB≤m): ¬mid m:=fun h=>by have:=h.2;omega
theorem keeps_fgt{m:Nat}(hm: ¬mid m):(fgt m).Keeps:=fun n hn=>⟨rfl,by
 have:n≠m:=fun e=>hm (e▸hn)
 simp [fgt,this]⟩
theorem keeps_cls{ms:List Nat}(hm: ∀m∈ms,¬mid m):(cls ms).Keeps:=fun n hn=>⟨by
 have:n∉ms:=fun e=>hm n e hn
 simp [cls,this],rfl⟩
theorem keeps_shf{ns:List Nat}(hm: ∀m∈ns,¬mid m):(shf ns).Keeps:=fun n hn=>by
 have:n∉ns:=fun e=>hm n e hn
 simp [shf,this,hn]
theorem keeps_usf{ns:List Nat}{m:Option Nat}:(usf ns m).Keeps:=fun n hn=>by
 have h1: ¬n=0:=fun e=>by have:=hn.1;omega
 have h2: ¬(NB≤n∧n - NB∈ns):=fun e=>by have:=hn.2;omega
 simp only [usf,if_neg h1,if_neg h2,hn,if_true,and_self]
theorem keeps_mvr{n m:Nat}(hn: ¬mid n)(hm: ¬mid m):(mvr n m).Keeps:=fun k hk=>⟨rfl,by
 have h1:k≠n:=fun e=>hn (e▸hk)
 have h2:k≠m:=fun e=>hm (e▸hk)
 simp [mvr,h1,h2]⟩
theorem midsAll_c(cs:List C):T.MidsAll (cs.map T.c):=by
 induction cs with
 | nil=>exact trivial
 | cons c cs ih=>exact⟨trivial,ih⟩
theorem Rows.mids_c(xs:List (List C)):Rows.Mids (xs.map (List.map T.c)):=fun r hr=>by
 obtain⟨x,_,rfl⟩:=List.mem_map.1 hr
 exact midsAll_c x
theorem Rows.mids_append{xs ys:Rows}(h:Rows.Mids xs)(k:Rows.Mids ys):Rows.Mids (xs++ys):=fun r hr=>(List.mem_append.1 hr).elim (h r) (k r)
theorem DLe_own(n sz:Nat)(xs:List (List C)):DLe (.one (.own n sz xs)) (.one (.c (.sl sz xs)))=True:=eq_true (DLe.own_ n sz xs)
theorem DLe_ex(sz:Nat)(xs:List (List C)):DLe (.one (.ex sz xs)) (.one (.c (.sl sz xs)))=True:=eq_true (DLe.ex_ sz xs)
theorem DLe_nil(sz:Nat):DLe (.one (.c (.lit (.slice none 0 0)))) (.one (.c (.sl sz [])))=True:=eq_true (DLe.nil_ sz)
theorem DLe_nilx(sz:Nat):DLe (.one (.c (.lit (.slice none 0 0)))) (.one (.ex sz []))=True:=eq_true (DLe.nilx_ sz)
theorem DLe_any(d:D):DLe d .any=True:=eq_true (DLe.any_ d)
attribute [go_sem] lk_nil lk_cons kn_sl kn_bx ml_nil ml_cons AllS AllB DLe_own DLe_ex DLe_nil DLe_nilx DLe_any
end
end Go.Dl
/- The logic of data: what is handed back, by the label 0. -/
namespace Go.Dl
open Go.RowKit
noncomputable section
def labR(n:Nat):Ren:=⟨fun k=>if k=n then some 0 else none,fun _=>none⟩
theorem DCalls.lab{P:Program}{f:FuncId}{ds:List D}{r:D}(n:Nat)(h:DCalls P f ds r):DCalls P f ds (r.tr (labR n)):=by
 refine⟨h.1,fun w K vs hk hl hv=>Calls.mono (h.2 w K vs hk hl hv) ?_⟩
 rintro e w' ⟨v,E',rfl,hret,hvd⟩
 have hns: ∀b o,¬spare ((.slice none 0 0,0):Value×Nat) b o:=fun b o ⟨a,len,cap,h1,_⟩=>by cases h1
 have hsp: ∀k b o,spare (if k=0 then E'.val n else(.slice none 0 0,0)) b o→k=0∧spare (E'.val n) b o:=fun k b o hs=>by
  split at hs
  ·rename_i hk;exact⟨hk,hs⟩
  ·exact absurd hs (hns b o)
 let E2:Env:=⟨E'.K,E'.ρ,fun k=>if k=0 then E'.val n else(.slice none 0 0,0)⟩
 have hR:Renames (labR n) E' E2:=by
  refine⟨rfl,fun k j hkj=>?_,fun k j hkj=>by cases hkj⟩
  simp only [labR]at hkj
  split at hkj
  ·rename_i hk;injection hkj with hkj;subst hkj;subst hk;simp [E2]
  ·cases hkj
 refine⟨v,E2,rfl,⟨hret.below,hret.kin,hret.kold,hret.kok,fun k b o hs=>?_,fun k j b o hs hs'=>?_⟩,hvd.tr hR⟩
 ·exact hret.free n b o (hsp k b o hs).2
 ·rw [(hsp k b o hs).1,(hsp j b o hs').1]
theorem dw_slot{P:Program}{s:DS}{Q:Exit→DS→Prop}{c:Code}(t:Nat)(d:D)(hd:DLe (s.sl t) d)(h:DW P c (s.put (some t) d) Q):DW P c s Q:=by
 refine dw_weaken ?_ h
 rintro X a w ⟨E,hE⟩
 refine⟨E,⟨hE.wi,fun u=>?_,hE.size,hE.defers,hE.small,hE.pl⟩⟩
 rw [put_sl]
 split
 ·rename_i hu;subst hu;exact hd w E _ (hE.sl u)
 ·exact hE.sl u
end
end Go.Dl
/- The logic of data: append of made zeros where there is no room; rows of a list in memory of one's own; slices.overlaps of memory of one's own. -/
namespace Go.Dl
open Go.RowKit
noncomputable section
section
variable {P : Program}
theorem run_append_mk(w:World)(t tz ty e:TypeId)(k:IntKind)(i:TypeInfo)(z:Value)(ht:P.underlying t=some (.slice e))(htz:P.underlying tz=some (.int k))(hi:P.info? e=some i)(hz:i.zero=some z)
  (b:Addr) (sLen sCap:Nat) (olds:List Value) (hlo:olds.length=sLen*i.size) (holds: ∀(j:Nat) v,olds[j]? =some v→w.cell? (b.add j)=some v)
  (n:Nat) (hn0:0<n) (hsz:0<i.size) (hg:sCap<sLen+n) (h63:sLen+n≤maxLen) (hfit:Builtin.nextslicecap (sLen+n) sCap*i.bytes≤281474976710656) (hby:n*i.bytes≤281474976710656):
  (Builtin.append_ #[t,tz] ty #[.slice (some b) sLen sCap,.int .i64 n]).run P w=
   .ok (.slice (some ⟨w.heap.size,0,none⟩) (sLen+n) (grownCap w (sLen+n) sCap e))
    (w.drew.alloc (.cells (olds.toArray++Builtin.zeroCells z.cells n++Builtin.zeroCells z.cells (grownCap w (sLen+n) sCap e - (sLen+n))) e)):=by
 unfold maxLen at h63
 have hw:IntKind.i64.wrap (n:Int)=(n:Int):=wrap_i64 (by omega) (by omega)
 have hneg: ¬((n:Int)<0):=by omega
 have hbig: ¬(281474976710656<(n:Int)*(i.bytes:Int)):=by
  have h:=Int.ofNat_le.2 hby
  rw [Int.natCast_mul]at h
  omega
 have hnr: ¬(sLen+n≤sCap):=by omega
 have h63': ¬(9223372036854775807<((sLen:Int)+(n:Int))):=by omega
 have h48': ¬(281474976710656<Builtin.nextslicecap (sLen+n) sCap*i.bytes):=by omega
 have hne: ¬(n*i.size=0):=by
  intro e
  rcases Nat.mul_eq_zero.1 e with h|h<;>omega
 have hfo:=run_firstCells_some (P:=P) w.drew i.size sLen b sLen sCap olds hlo (by simpa using holds)
 have hne1: ¬(n=0):=by omega
 have hne2: ¬(i.size=0):=by omega
 simp [Builtin.append_,run_underlying ht,run_underlying htz,sizeOf,typeInfo,zeroValue,hi,hz,asInt,asIntOf,hw,hneg,hbig,hnr,h63',h48',Question.forced,hfo,newRow,grownCap,hne1,hne2]
 intro h
 exact absurd h hne
theorem appBa_mk{t tz ty:TypeId}{sz by_:Nat}{kd:IntKind}(hinfo:appInfo P t=some (sz,by_))(htz:P.underlying tz=some (.int kd)){X:Origin}{s:DS}{E:Env}{a:Act}{w:World}(hr:RelE X s E a w){n i len cap m k:Nat}{rows:Rows}{v:Value}
  (hx:VD w E (.one (.ba n sz i len cap)) v) (hn:s.bx n=some rows) (hcap:i+cap≤rows.length) (hz:RowsSz sz rows) (hpos0:0<cap) (hroom:cap<len+k) (hle:len≤cap)
  (hb:(len+k)*by_≤140737488355328) (hm:m<s.n):
  ∃v' w' E' js,(Builtin.append_ #[t,tz] ty #[v,.int .i64 k]).run P w= .ok v' w'∧RowsSz sz js∧RelE X (s.newMem m ((rows.drop i).take len++(anyRows k sz++js))) E' a w'∧VD w' E' (.one (.ba m sz 0 (len+k) (len+k+js.length))) v':=by
 obtain⟨e,inf,z,hu,hi,hz0,hisz,hiby,hzsz,hpos,hbpos,hz1⟩:=appZ_one w hinfo
 have hbox: ∀n rows,s.bx n=some rows→rows≠ []→BoxIs w E (E.ρ n) rows:=fun n rows h hne=>(hr.wi.boxes n rows h hne).2.1
 have hk:0<k:=by omega
 have hmax:len+k≤maxLen:=by
  have:len+k≤(len+k)*by_:=Nat.le_mul_of_pos_right _ hbpos
  unfold maxLen;omega
 have hkb:k*by_≤(len+k)*by_:=Nat.mul_le_mul_right _ (by omega)
 -- what was there
 have hold: ∃(olds:List Value) (b:Addr),v= .slice (some b) len cap∧(∀(j:Nat) u,olds[j]? =some u→w.cell? (b.add j)=some u)∧Lst w E sz olds ((rows.drop i).take len):=by
  cases hx with|one t' v hx=>cases hx with
   | bz _ _ _ A=>omega
   | ba _ _ _ _ _ h1 h2=>
    have hne:rows≠ []:=fun e=>by rw [e]at hcap;simp at hcap;omega
    obtain⟨arr,e',k1,k2⟩:=(hbox n rows hn hne).rowsIs
    obtain⟨sz',k3⟩:=k2.lst
    have hsz:sz'=sz:=by
     have hi0:0<rows.length:=List.length_pos_iff.2 hne
     rw [← k3.row _ (List.getElem_mem hi0),hz _ (List.getElem_mem hi0)]
    subst hsz
    have hL:=(k3.drop i).take len (by simp;omega)
    refine⟨_,_,rfl,fun j u hju=>?_,hL⟩
    rw [add_none]
    rw [List.getElem?_take]at hju
    split at hju
    ·rw [List.getElem?_drop]at hju
     have hju':arr[i*sz'+j]? =some u:=by simpa using hju
     simp [World.cell?,k1,hju']
    ·cases hju
 obtain⟨olds,b,rfl,hcell,hOl⟩:=hold
 have hlen':((rows.drop i).take len).length=len:=by simp;omega
 have hol:olds.length=len*sz:=by rw [hOl.len,hlen']
 have hrun:=run_append_mk (P:=P) w t tz ty e kd inf z hu htz hi hz0 b len cap olds (by rw [hol,hisz]) hcell k hk (by omega) hroom hmax (by rw [hiby];exact growslice_fits hroom hb) (by rw [hiby];omega)
 have hge:=grownCap_ge w (len+k) cap e
 have hcm:=grownCap_le_maxLen w (len+k) cap e hmax
 generalize grownCap w (len+k) cap e=cap' at hrun hge hcm
 have q0:Quiet w E w.drew E:=⟨(Below.refl _ _).drew,fun _ _ h=>h,fun _ _ _ h=>h,hr.wi.kok.move (fun _ _ _=>rfl) (hr.wi.kok.z.below ((Below.refl _ _).drew)),rfl,rfl⟩
 have hq:=hr.quiet q0
 have hlat:=q0.later hr.wi.kok
 have hZ:=zero_lst w.drew E z.cells hz1 (cap' - (len+k))
 have hZk:=zero_lst w.drew E z.cells hz1 k
 rw [hzsz]at hZ hZk
 have hall:RowsIs w.drew E (olds.toArray++Builtin.zeroCells z.cells k++Builtin.zeroCells z.cells (cap' - (len+k))) ((rows.drop i).take len++(anyRows k sz++List.replicate (cap' - (len+k)) (List.replicate sz (.c .any)))):=by
  refine Lst.rowsIs (sz:=sz) ?_
  have:=(hOl.mono hlat).append (hZk.append hZ)
  simpa [List.append_assoc,anyRows]using this
 have h2:=hq.newMem m hm _ e _ hall
 refine⟨_,_,_,List.replicate (cap' - (len+k)) (List.replicate sz (.c .any)),hrun,fun r hr'=>by rw [List.eq_of_mem_replicate hr'];simp,h2,.one _ _ ?_⟩
 have hc2:len+k+(List.replicate (cap' - (len+k)) (List.replicate sz (T.c C.any))).length=cap':=by simp;omega
 rw [hc2]
 have:=VT.ba (w:=w.drew.alloc (.cells (olds.toArray++Builtin.zeroCells z.cells k++Builtin.zeroCells z.cells (cap' - (len+k))) e)) (E:=E.setρ m w.drew.heap.size) m sz 0 (len+k) cap' hge hcm
 simp only [Env.setρ,if_true,Nat.zero_mul]at this
 exact this
theorem Step.appendMk{o:Oper}{s:DS}{K:DS→Prop}{kd kd2:IntKind}{m n sz by_ i len cap k:Nat}{x y:Operand}{t tz:TypeId}{rows:Rows}(ho:o.op= .call { callee:=.builtin .append,args:= #[x,y],argTypes:= #[t,tz] })(hm:o.dst=some m)
  (hinfo:appInfo P t=some (sz,by_)) (htz:P.underlying tz=some (.int kd)) (hx:s.ev x= .one (.ba n sz i len cap)) (hy:s.ev y= .one (.c (.lit (.int .i64 (k:Int))))) (hn:s.bx n=some rows) (hcap:i+cap≤rows.length) (hz:RowsSz sz rows) (hpos0:0<cap) (hroom:cap<len+k) (hle:len≤cap)
  (hb:(len+k)*by_≤140737488355328) (h: ∀js,RowsSz sz js→K ((s.newMem m ((rows.drop i).take len++(anyRows k sz++js))).put (some m) (.one (.ba m sz 0 (len+k) (len+k+js.length))))):Step P o s K:=by
 rintro hd X a w ⟨E,hE⟩ Q
 have hvx:=hE.ev x
 rw [hx]at hvx
 have hvy:=hE.ev y
 rw [hy]at hvy
 have hy':=hvy.lit
 obtain⟨v',w',E',js,hrun,hjs,hE',hv'⟩:=appBa_mk (P:=P) (ty:=o.type) hinfo htz hE hvx hn hcap hz hpos0 hroom hle hb (hd m hm)
 obtain⟨cs,hres⟩:=builtin_resolve (P:=P) .append a.eval x y t tz o.type w
 refine wp_run (v:=v') (w':=w') ?_ ⟨_,⟨by rfl,h js hjs⟩,?_⟩
 ·unfold execOp
  simp only [ho,Sem.run_bind]
  rw [hres]
  simp only [Result.andThen_ok,invoke,builtin,Sem.run_bind,hy',hrun,Sem.run_pure]
 ·rw [hm]
  exact⟨E',hE'.putOnly (fun d hd'=>by injection hd' with hd';subst hd';exact hd m hm) hv'⟩
/-! ### slices.overlaps -/
theorem overlaps_ok{X:Origin}{s:DS}{E:Env}{a:Act}{w:World}(hr:RelE X s E a w){t tr e:TypeId}(hu:P.underlying t=some (.slice e)){inf:TypeInfo}(hi:P.info? e=some inf)
  {q sz m:Nat} {rowsq:Rows} {n i len cap:Nat} {rows:Rows} {u v:Value} (hx:VD w E (.one (.ba q sz 0 m m)) u) (hq:s.bx q=some rowsq) (hne:rowsq≠ []) (hm0:0<m) (hsz:0<sz) (hy:VD w E (.one (.ba n sz i len cap)) v) (hn:s.bx n=some rows) (hrn:rows≠ []) (hnz:RowsSz sz rows) (hc0:0<cap) (hqn:q≠n):
  (Extern.SlicesOverlaps.overlaps #[t,t] #[tr] #[u,v]).run P w= .ok (.bool false) w:=by
 obtain⟨_,⟨z1,arr1,e1,k1,k2,k3,_⟩,_⟩:=hr.wi.boxes q rowsq hq hne
 obtain⟨_,⟨z2,arr2,e2,l1,l2,l3,_⟩,_⟩:=hr.wi.boxes n rows hn hrn
 have hbn:=hr.wi.boxne q n rowsq rows hq hne hn hrn hqn
 have hz2:z2=sz:=by
  have hi0:0<rows.length:=List.length_pos_iff.2 hrn
  rw [← l2 _ (List.getElem_mem hi0),hnz _ (List.getElem_mem hi0)]
 subst hz2
 have hp2:0<rows.length*z2:=Nat.mul_pos (List.length_pos_iff.2 hrn) hsz
 cases hx with|one t' u hx=>cases hx with
  | bz _ _ _ A=>omega
  | ba _ _ _ _ _ g1 g2=>
   cases hy with|one t' v hy=>cases hy with
    | bz _ _ _ B=>omega
    | ba _ _ _ _ _ h1 h2=>
     exact Lib.run_overlaps_apart w t tr e hu inf.size (fun w=>by simp [sizeOf,typeInfo,hi]) ⟨E.ρ q,0*z2,none⟩ ⟨E.ρ n,i*z2,none⟩ m m len cap hbn e1 e2 arr1.size arr2.size (by simp [World.shape?,k1]) (by simp [World.shape?,l1]) (by omega)
       (by simp [World.frozen?,k1]) (by simp [World.frozen?,k1])
theorem Step.overlaps{o:Oper}{s:DS}{K:DS→Prop}{f x y:Operand}{tys:Array TypeId}{g:FuncId}{fn:Func}{t tr e:TypeId}{inf:TypeInfo}(ho:o.op= .call { callee:=.value f,args:= #[x,y],argTypes:=tys })(hf:s.ev f= .one (.c (.fn g [])))
  (hg : P.funcs[g]? = some fn) (hname : (fn.name == "runtime.NumGoroutine") = false) (hb : fn.body.isNone = true) (hnx : Extern.findNext fn = none) (he : Extern.find fn = some (Extern.SlicesOverlaps.overlaps #[t, t] #[tr]))
  (hu:P.underlying t=some (.slice e)) (hi:P.info? e=some inf) {q sz m:Nat} {rowsq:Rows} {n i len cap:Nat} {rows:Rows} (hx:s.ev x= .one (.ba q sz 0 m m)) (hq:s.bx q=some rowsq) (hne:rowsq≠ []) (hm0:0<m) (hsz:0<sz)
  (hy:s.ev y= .one (.ba n sz i len cap)) (hn:s.bx n=some rows) (hrn:rows≠ []) (hnz:RowsSz sz rows) (hc0:0<cap) (hqn:q≠n) (h:K (s.put o.dst (.one (.c (.lit (.bool false)))))):Step P o s K:=by
 rintro hd X a w ⟨E,hE⟩ Q
 have hvx:=hE.ev x
 rw [hx]at hvx
 have hvy:=hE.ev y
 rw [hy]at hvy
 have hvf:=hE.ev f
 rw [hf]at hvf
 have hov:=overlaps_ok (P:=P) (tr:=tr) hE hu hi hvx hq hne hm0 hsz hvy hn hrn hnz hc0 hqn
 refine wp_run (v:=.bool false) (w':=w) ?_ ⟨_,⟨put_n _ _ _,h⟩,E,hE.putOnly hd (.one _ _ (.c _ _ (.lit _ rfl)))⟩
 cases hfv:a.eval f with
 | func fn' first captured=>
  rw [hfv]at hvf
  cases hvf with|one t v hv=>cases hv with|c c v hv=>cases hv with
   | fn g caps vs hl hr=>
    have hc0:captured= #[]:=Array.eq_empty_of_size_eq_zero (by simpa using hl)
    subst hc0
    unfold execOp
    simp only [ho,Sem.run_bind]
    rw [resolve_value a.eval f #[x,y] tys _ g #[] hfv w]
    simp only [Result.andThen_ok,invoke]
    rw [run_callFunc_extern hg hname hb hnx he]
    have:(#[x,y].map a.eval++ #[]:Array Value)= #[a.eval x,a.eval y]:=by simp
    rw [this,hov]
    rfl
 | _=>rw [hfv]at hvf;cases hvf with|one t v hv=>cases hv with|c c v hv=>cases hv
end
end
end Go.Dl
/- The logic of data: lists in memory of one's own, what lies beyond their length unknown. -/
namespace Go.Dl
open Go.RowKit
noncomputable section
section
variable {P : Program}
theorem sub_box{s:DS}(m:Nat){rows rows':Rows}(hm:s.bx m=some rows)(hl:rows'.length=rows.length)
  (h: ∀(i:Nat) r r',rows[i]? =some r→rows'[i]? =some r'→r'.length=r.length∧∀w E (j:Nat) t t' v,r[j]? =some t→r'[j]? =some t'→VT w E t v→VT w E t' v):s.Sub (s.setBx m (some rows')):=by
 rintro X a w ⟨E,hE⟩
 have hne:rows'≠ []→rows≠ []:=fun h0 e=>h0 (List.length_eq_zero_iff.1 (by rw [hl,e];rfl))
 have fx: ∀{k:Nat} {rk:Rows},(s.setBx m (some rows')).bx k=some rk→rk≠ []→∃rk',s.bx k=some rk'∧rk'≠ []:=by
  intro k rk hk hnk
  simp only [DS.setBx]at hk
  by_cases hkm:k=m
  ·rw [if_pos hkm]at hk
   have:=Option.some.inj hk
   exact⟨rows,hkm▸hm,hne (this▸hnk)⟩
  ·rw [if_neg hkm]at hk;exact⟨rk,hk,hnk⟩
 refine⟨E,⟨⟨hE.wi.turn,hE.wi.sep,hE.wi.kin,hE.wi.kold,hE.wi.kok,fun k us hk hne'=>?_,fun k l rk rl hk h2 hl' h3 hkl=>?_,hE.wi.free,hE.wi.disj,fun k l b o rl hs hl' h3=>?_,hE.wi.fix⟩,hE.sl,hE.size,hE.defers,hE.small,hE.pl⟩⟩
 ·by_cases hkm:k=m
  ·simp only [DS.setBx]at hk
   rw [if_pos hkm]at hk
   have:=Option.some.inj hk
   subst this
   subst hkm
   obtain⟨g1,⟨z,arr,e,k1,k2,k3,k4⟩,g3⟩:=hE.wi.boxes k rows hm (hne hne')
   have get: ∀(i:Nat) r',rows'[i]? =some r'→∃r,rows[i]? =some r:=fun i r' hi=>⟨rows[i]'(by have:=(List.getElem?_eq_some_iff.1 hi).1;omega),List.getElem?_eq_getElem _⟩
   refine⟨g1,⟨z,arr,e,k1,fun x hx=>?_,by rw [k3,hl],fun i j r' t' v q1 q2 q3=>?_⟩,g3⟩
   ·obtain⟨i,hi,rfl⟩:=List.mem_iff_getElem.1 hx
    obtain⟨r,hr⟩:=get i _ (List.getElem?_eq_getElem hi)
    rw [(h i r _ hr (List.getElem?_eq_getElem hi)).1]
    exact k2 r (List.mem_of_getElem? hr)
   ·obtain⟨r,hr⟩:=get i r' q1
    obtain⟨h1,h2⟩:=h i r r' hr q1
    have hj:j<r.length:=by rw [← h1];exact(List.getElem?_eq_some_iff.1 q2).1
    exact h2 w E j r[j] t' v (List.getElem?_eq_getElem hj) q2 (k4 i j r _ v hr (List.getElem?_eq_getElem hj) q3)
  ·simp only [DS.setBx]at hk
   rw [if_neg hkm]at hk
   exact hE.wi.boxes k us hk hne'
 ·obtain⟨rk',a1,a2⟩:=fx hk h2
  obtain⟨rl',b1,b2⟩:=fx hl' h3
  exact hE.wi.boxne k l rk' rl' a1 a2 b1 b2 hkl
 ·obtain⟨rl',b1,b2⟩:=fx hl' h3
  exact hE.wi.sbox k l b o rl' hs b1 b2
theorem anyRows_get{n sz i:Nat}{r:List T}(h:(anyRows n sz)[i]? =some r):r=List.replicate sz (.c .any):=List.eq_of_mem_replicate (List.mem_of_getElem? h)
theorem sub_junk{s:DS}(m sz:Nat){xs js:Rows}(hm:s.bx m=some (xs++js))(hz:RowsSz sz js):s.Sub (s.setBx m (some (xs++anyRows js.length sz))):=by
 refine sub_box m hm (by simp [anyRows]) fun i r r' h1 h2=>?_
 rw [List.getElem?_append]at h1 h2
 split at h1
 ·rename_i hi
  rw [if_pos hi]at h2
  rw [h1]at h2;injection h2 with h2;subst h2
  exact⟨rfl,fun w E j t t' v q1 q2 q3=>by rw [q1]at q2;injection q2 with q2;subst q2;exact q3⟩
 ·rename_i hi
  rw [if_neg hi]at h2
  have e:=anyRows_get h2
  subst e
  refine⟨by rw [List.length_replicate];exact(hz r (List.mem_of_getElem? h1)).symm,fun w E j t t' v q1 q2 q3=>?_⟩
  have:=List.eq_of_mem_replicate (List.mem_of_getElem? q2)
  subst this
  exact .c _ _ (.any v q3.oneCell')
theorem Step.weaken{o:Oper}{s:DS}{K K':DS→Prop}(h:Step P o s K)(hk: ∀s',s'.n=s.n→K s'→∃s2,s'.Sub s2∧s2.n=s'.n∧K' s2):Step P o s K':=fun hd X a w hr Q=>
 Oper.wp_mono (fun a' w' ⟨s',⟨h1,h2⟩,h3⟩=>by
  obtain⟨s2,g1,g2,g3⟩:=hk s' h1 h2
  exact⟨s2,⟨g2.trans h1,g3⟩,g1 X a' w' h3⟩) (h hd X a w hr Q)
theorem RowsSz.tr{sz:Nat}{rows:Rows}(h:RowsSz sz rows)(r:Ren):RowsSz sz (Rows.tr r rows):=fun x hx=>by
 simp only [Rows.tr,List.mem_map]at hx
 obtain⟨y,hy,rfl⟩:=hx
 rw [T.trAll_eq,List.length_map];exact h y hy
theorem anyRows_sz(n sz:Nat):RowsSz sz (anyRows n sz):=fun r hr=>by rw [List.eq_of_mem_replicate hr];simp
theorem anyRows_len(n sz:Nat):(anyRows n sz).length=n:=by simp [anyRows]
theorem anyRows_mids(n sz:Nat):Rows.Mids (anyRows n sz):=fun r hr=>by
 rw [List.eq_of_mem_replicate hr]
 have: ∀k,T.MidsAll (List.replicate k (.c .any)):=fun k=>by
  induction k with
  | zero=>exact trivial
  | succ k ih=>exact⟨trivial,ih⟩
 exact this sz
theorem anyRows_tr(r:Ren)(n sz:Nat):Rows.tr r (anyRows n sz)=anyRows n sz:=by
 unfold Rows.tr anyRows
 rw [List.map_replicate,T.trAll_eq,List.map_replicate]
 rfl
theorem Step.appendList{o:Oper}{s:DS}{K:DS→Prop}{m n sz by_ j:Nat}{x y:Operand}{t:TypeId}{rows ys:Rows}(ho:o.op= .call { callee:=.builtin .append,args:= #[x,y],argTypes:= #[t,t] })(hm:o.dst=some m)
  (hinfo:appInfo P t=some (sz,by_)) (hx:s.ev x= .one (.ba n sz 0 rows.length (rows.length+j))) (hn:s.bx n=some (rows++anyRows j sz)) (hz:RowsSz sz rows) (hsrc:Src s.bx sz (s.ev y) ys)
  (hb:(rows.length+ys.length)*by_≤140737488355328)
  (h: ∀j',K ((s.moveMem n m (rows++(ys++anyRows j' sz))).put (some m) (.one (.ba m sz 0 (rows.length+ys.length) (rows.length+ys.length+j'))))):Step P o s K:=by
 have hz2:RowsSz sz (rows++anyRows j sz):=fun r hr=>(List.mem_append.1 hr).elim (hz r) (anyRows_sz j sz r)
 refine Step.weaken (K:=fun s'=>∃js,RowsSz sz js∧s'=(s.moveMem n m (rows++(ys++js))).put (some m) (.one (.ba m sz 0 (rows.length+ys.length) (rows.length+ys.length+js.length)))) ?_ ?_
 ·refine Step.appendLin ho hm hinfo hx hn (by simp [anyRows]) hz2 hsrc (by omega) hb fun js hjs=>⟨js,hjs,?_⟩
  simp
 ·rintro s' hs' ⟨js,hjs,rfl⟩
  refine⟨_,sub_junk m sz (xs:=Rows.tr (fgts [n,m]) (rows++ys)) (js:=Rows.tr (fgts [n,m]) js) ?_ (hjs.tr _),rfl,?_⟩
  ·rw [put_bx',moveMem_bx,if_pos rfl,← Rows.tr_append,List.append_assoc]
  ·have hl:(Rows.tr (fgts [n,m]) js).length=js.length:=by simp [Rows.tr]
   have:=h js.length
   have e:((s.moveMem n m (rows++(ys++js))).put (some m) (.one (.ba m sz 0 (rows.length+ys.length) (rows.length+ys.length+js.length)))).setBx m (some (Rows.tr (fgts [n,m]) (rows++ys)++anyRows (Rows.tr (fgts [n,m]) js).length sz))=
     (s.moveMem n m (rows++(ys++anyRows js.length sz))).put (some m) (.one (.ba m sz 0 (rows.length+ys.length) (rows.length+ys.length+js.length))):=by
    rw [hl]
    simp only [DS.moveMem,DS.setBx,DS.put,DS.tr]
    congr 1
    funext k
    by_cases hk:k=m
    ·simp only [if_pos hk,Rows.tr_append,anyRows_tr,List.append_assoc]
    ·simp only [if_neg hk]
   rw [e];exact this
theorem Step.appendMkList{o:Oper}{s:DS}{K:DS→Prop}{kd:IntKind}{m n sz by_ i len cap k:Nat}{x y:Operand}{t tz:TypeId}{rows:Rows}(ho:o.op= .call { callee:=.builtin .append,args:= #[x,y],argTypes:= #[t,tz] })(hm:o.dst=some m)
  (hinfo:appInfo P t=some (sz,by_)) (htz:P.underlying tz=some (.int kd)) (hx:s.ev x= .one (.ba n sz i len cap)) (hy:s.ev y= .one (.c (.lit (.int .i64 (k:Int))))) (hn:s.bx n=some rows) (hcap:i+cap≤rows.length) (hz:RowsSz sz rows) (hpos0:0<cap) (hroom:cap<len+k) (hle:len≤cap)
  (hb:(len+k)*by_≤140737488355328) (h: ∀j',K ((s.newMem m ((rows.drop i).take len++anyRows (k+j') sz)).put (some m) (.one (.ba m sz 0 (len+k) (len+k+j'))))):Step P o s K:=by
 refine Step.weaken (K:=fun s'=>∃js,RowsSz sz js∧s'=(s.newMem m ((rows.drop i).take len++(anyRows k sz++js))).put (some m) (.one (.ba m sz 0 (len+k) (len+k+js.length)))) ?_ ?_
 ·exact Step.appendMk (kd2:=kd) ho hm hinfo htz hx hy hn hcap hz hpos0 hroom hle hb fun js hjs=>⟨js,hjs,rfl⟩
 ·rintro s' hs' ⟨js,hjs,rfl⟩
  refine⟨_,sub_junk m sz (xs:=Rows.tr (fgt m) ((rows.drop i).take len++anyRows k sz)) (js:=Rows.tr (fgt m) js) ?_ (hjs.tr _),rfl,?_⟩
  ·rw [put_bx',newMem_bx',if_pos rfl,← Rows.tr_append,List.append_assoc]
  ·have hl:(Rows.tr (fgt m) js).length=js.length:=by simp [Rows.tr]
   have hsum:anyRows k sz++anyRows js.length sz=anyRows (k+js.length) sz:=by simp [anyRows,List.replicate_append_replicate]
   have:=h js.length
   have e:((s.newMem m ((rows.drop i).take len++(anyRows k sz++js))).put (some m) (.one (.ba m sz 0 (len+k) (len+k+js.length)))).setBx m (some (Rows.tr (fgt m) ((rows.drop i).take len++anyRows k sz)++anyRows (Rows.tr (fgt m) js).length sz))=
     (s.newMem m ((rows.drop i).take len++anyRows (k+js.length) sz)).put (some m) (.one (.ba m sz 0 (len+k) (len+k+js.length))):=by
    rw [hl,← hsum]
    simp only [DS.newMem,DS.setBx,DS.put,DS.tr]
    congr 1
    funext q
    by_cases hk:q=m
    ·simp only [if_pos hk,Rows.tr_append,anyRows_tr,List.append_assoc]
    ·simp only [if_neg hk]
   rw [e];exact this
theorem Step.copyTo{o:Oper}{s:DS}{K:DS→Prop}{n sz i len cap c:Nat}{x y:Operand}{t t2:TypeId}{rows ys rows':Rows}(ho:o.op= .call { callee:=.builtin .copy,args:= #[x,y],argTypes:= #[t,t2] })
  (he:Program.elemSz P t=some sz) (hx:s.ev x= .one (.ba n sz i len cap)) (hn:s.bx n=some rows) (hcap:i+len≤rows.length) (hz:RowsSz sz rows) (hsrc:Src s.bx sz (s.ev y) ys)
  (hc:(ys.take len).length=c) (hres:rows.take i++(ys.take len++rows.drop (i+c))=rows')
  (h:K ((s.setBx n (some rows')).put o.dst (.one (.c (.lit (.int .i64 c)))))):Step P o s K:=by
 subst hc
 subst hres
 exact Step.copy ho he hx hn hcap hz hsrc h
theorem anyRows_drop(n sz k:Nat):(anyRows n sz).drop k=anyRows (n - k) sz:=by simp [anyRows]
theorem ins_grow1(rows:Rows)(v:List T)(i j sz:Nat)(hi:i<rows.length):
  (rows.take i++anyRows (rows.length+1 - i+j) sz).take i++([v].take (rows.length+1 - i)++(rows.take i++anyRows (rows.length+1 - i+j) sz).drop (i+1))=rows.take i++v::anyRows (rows.length - i+j) sz:=by
 have h1:(rows.take i).length=i:=by simp;omega
 have h2: [v].take (rows.length+1 - i)= [v]:=List.take_of_length_le (by simp;omega)
 rw [h2,List.take_append,List.drop_append,h1,anyRows_drop]
 have e:rows.length+1 - i+j - (i+1 - i)=rows.length - i+j:=by omega
 rw [e]
 simp [List.take_take,anyRows]
 omega
theorem ins_grow2(rows:Rows)(v:List T)(i j sz:Nat)(hi:i<rows.length):
  (rows.take i++v::anyRows (rows.length - i+j) sz).take (i+1)++((rows.drop i).take (rows.length+1 - (i+1))++(rows.take i++v::anyRows (rows.length - i+j) sz).drop (i+1+(rows.length - i)))=rows.take i++(v::(rows.drop i++anyRows j sz)):=by
 have h1:(rows.take i).length=i:=by simp;omega
 have h2:(rows.drop i).take (rows.length+1 - (i+1))=rows.drop i:=List.take_of_length_le (by simp)
 rw [h2,List.take_append,List.drop_append,h1]
 have e:i+1+(rows.length - i) - i=(rows.length - i)+1:=by omega
 have e2:i+1 - i=1:=by omega
 rw [e,e2,List.drop_succ_cons,anyRows_drop]
 have e3:rows.length - i+j - (rows.length - i)=j:=by omega
 rw [e3]
 have e4:(rows.take i).take (i+1)=rows.take i:=by rw [List.take_take];congr 1;omega
 have e5:(rows.take i).drop (i+1+(rows.length - i))= []:=List.drop_eq_nil_of_le (by simp;omega)
 rw [e4,e5]
 simp
theorem ins_room1(rows:Rows)(i j sz:Nat)(hi:i<rows.length)(hj:0<j):
  (rows++anyRows j sz).take (i+1)++((((rows++anyRows j sz).drop i).take (rows.length+1 - i)).take (rows.length+1 - (i+1))++(rows++anyRows j sz).drop (i+1+(rows.length - i)))=rows.take (i+1)++(rows.drop i++anyRows (j - 1) sz):=by
 have e0:rows.length+1 - (i+1)=rows.length - i:=by omega
 have e1:i+1+(rows.length - i)=rows.length+1:=by omega
 have e2:rows.length+1 - rows.length=1:=by omega
 rw [e0,e1,List.take_take,List.drop_append,List.drop_append,List.take_append,List.take_append,anyRows_drop,anyRows_drop,e2]
 have m1:min (rows.length - i) (rows.length+1 - i)=rows.length - i:=by omega
 have m2:i+1 - rows.length=0:=by omega
 have m3:rows.drop (rows.length+1)= []:=List.drop_eq_nil_of_le (by omega)
 have m4:(rows.drop i).take (rows.length - i)=rows.drop i:=List.take_of_length_le (by simp)
 have m5:rows.length - i - (rows.drop i).length=0:=by simp
 rw [m1,m2,m3,m4,m5]
 simp
theorem ins_room2(rows:Rows)(v:List T)(i j sz:Nat)(hi:i<rows.length):
  (rows.take (i+1)++(rows.drop i++anyRows j sz)).take i++([v].take (rows.length+1 - i)++(rows.take (i+1)++(rows.drop i++anyRows j sz)).drop (i+1))=rows.take i++(v::(rows.drop i++anyRows j sz)):=by
 have h2: [v].take (rows.length+1 - i)= [v]:=List.take_of_length_le (by simp;omega)
 have h1:(rows.take (i+1)).length=i+1:=by simp;omega
 rw [h2,List.take_append,List.drop_append,h1]
 have e4:(rows.take (i+1)).take i=rows.take i:=by rw [List.take_take];congr 1;omega
 have e5:(rows.take (i+1)).drop (i+1)= []:=List.drop_eq_nil_of_le (by omega)
 have e6:i - (i+1)=0:=by omega
 rw [e4,e5,e6]
 simp
theorem wk_append2(P:Program)(ds:List (Option Nat))(md:Mode)(m:Nat)(x y:Operand)(t t':TypeId)(ty:TypeId)(pos:String)(aft:Array Edge)(l:List (Mode×Oper))(s:DS)(K:DS→Prop)(h:(t==t')=false):
  wk P ds ((md,⟨some m,.call ⟨.builtin .append,#[x,y],#[t,t']⟩,ty,pos,aft,none⟩)::l) s K=StepC md P ⟨some m,.call ⟨.builtin .append,#[x,y],#[t,t']⟩,ty,pos,aft,none⟩ s ds l K:=by
 have h': ¬t=t':=by simpa using h
 simp [wk,opW,StepC,h']
attribute [go_sem ↓] wk_append2
theorem mv_sl(s:DS)(n m t:Nat):(s.mv n m).sl t=(s.sl t).tr (mvr n m):=rfl
theorem mv_bx(s:DS)(n m k:Nat):(s.mv n m).bx k=if k=m then(s.bx n).map (Rows.tr (mvr n m))else if k=n then none else(s.bx k).map (Rows.tr (mvr n m)):=rfl
theorem mvr_f(n m k:Nat):(mvr n m).f k=some k:=rfl
theorem mvr_g(n m k:Nat):(mvr n m).g k=if k=n then some m else if k=m then none else some k:=rfl
attribute [go_sem] mv_sl mv_bx mvr_f mvr_g anyRows_tr
end
end
end Go.Dl
/- The logic of data: a call that is handed some of the names between alone: the rules for simp. -/
namespace Go.Dl
open Go.RowKit
noncomputable section
variable {ms : Nat → Bool}
theorem aftCallM_sl(s:DS)(ns:List Nat)(m:Nat)(r:D)(H':Mem)(t:Nat):(s.aftCallM ms ns (some m) r H').sl t=if t=m then r.tr (usfM ms ns (some m))else(s.sl t).tr (aftM ms ns (some m)):=rfl
theorem aftCallM_sln(s:DS)(ns:List Nat)(r:D)(H':Mem)(t:Nat):(s.aftCallM ms ns none r H').sl t=(s.sl t).tr (aftM ms ns none):=rfl
theorem aftCallM_bx(s:DS)(ns:List Nat)(m:Option Nat)(r:D)(H':Mem)(t:Nat):(s.aftCallM ms ns m r H').bx t=callMemAftM ms s.bx H' ns m t:=by cases m<;>rfl
theorem shfM_f(ns:List Nat)(n:Nat):(shfM ms ns).f n=if n∈ns then some (n+NB)else if midM ms n then some n else none:=rfl
theorem shfM_g(ns:List Nat)(n:Nat):(shfM ms ns).g n=if n∈ns then some (n+NB)else if midM ms n then some n else none:=rfl
theorem usfM_f(ns:List Nat)(m:Option Nat)(k:Nat):(usfM ms ns m).f k=if k=0 then m else if NB≤k∧k - NB∈ns then some (k - NB)else if midM ms k then some k else none:=rfl
theorem usfM_g(ns:List Nat)(m:Option Nat)(k:Nat):(usfM ms ns m).g k=if k=0 then m else if NB≤k∧k - NB∈ns then some (k - NB)else if midM ms k then some k else none:=rfl
theorem aftM_f(ns:List Nat)(m:Option Nat)(n:Nat):(aftM ms ns m).f n=if n∈ns∨midM ms n∨m=some n then none else some n:=rfl
theorem aftM_g(ns:List Nat)(m:Option Nat)(n:Nat):(aftM ms ns m).g n=if midM ms n∨m=some n then none else some n:=rfl
attribute [go_sem] aftCallM_sl aftCallM_sln aftCallM_bx shfM_f shfM_g usfM_f usfM_g aftM_f aftM_g
theorem sub_zeroAt{s:DS}(m i j k sz z:Nat){rows:Rows}{r:List T}(hm:s.bx m=some rows)(hk:k≠m)(hi:rows[i]? =some r)(hj:r[j]? =some (.ex z [])):
  s.Sub ((s.setBx k (some [])).setBx m (some (rows.set i (r.set j (.ba k sz 0 0 0))))):=by
 have h1:s.Sub (s.setBx k (some [])):=fun X a w ⟨E,h⟩=>⟨E,h.noRows k⟩
 refine h1.trans (sub_box m (rows:=rows) (by simp only [DS.setBx,if_neg (Ne.symm hk)];exact hm) (by simp) fun i' r1 r2 q1 q2=>?_)
 rw [List.getElem?_set]at q2
 by_cases hii:i=i'
 ·subst hii
  rw [hi]at q1;injection q1 with q1;subst q1
  have hlt:i<rows.length:=(List.getElem?_eq_some_iff.1 hi).1
  rw [if_pos rfl,if_pos hlt]at q2
  injection q2 with q2;subst q2
  refine⟨by simp,fun w E j' t t' v e1 e2 e3=>?_⟩
  rw [List.getElem?_set]at e2
  by_cases hjj:j=j'
  ·subst hjj
   have hjl:j<r.length:=(List.getElem?_eq_some_iff.1 hj).1
   rw [if_pos rfl,if_pos hjl]at e2
   injection e2 with e2;subst e2
   rw [hj]at e1;injection e1 with e1;subst e1
   have:=ba_zero (w:=w) (E:=E) (d:=.one (.ex z [])) k sz (.inr ⟨z,rfl⟩) (.one _ _ e3)
   cases this with|one _ _ h=>exact h
  ·rw [if_neg hjj]at e2
   rw [e1]at e2;injection e2 with e2;subst e2;exact e3
 ·rw [if_neg hii,q1]at q2
  injection q2 with q2;subst q2
  exact⟨rfl,fun w E j' t t' v e1 e2 e3=>by rw [e1]at e2;injection e2 with e2;subst e2;exact e3⟩
theorem dw_join{P:Program}{α:Type}{c rest:Code}{s:DS}{Q:Exit→DS→Prop}(S:α→DS)(F:α→Prop)(h1:DW P c s (thenD (fun s'=>∃y,F y∧s'.Sub (S y)) Q))(h2: ∀y,F y→DW P rest (S y) Q):
  DW P c s (thenD (fun s'=>DW P rest s' Q) Q):=by
 refine h1.mono fun e s' h=>?_
 cases e with
 | normal=>
  obtain⟨y,hy,hs⟩:=h
  exact dw_weaken hs (h2 y hy)
 | _=>exact h
def carryM(x:Nat)(o:Rows)(K:Nat)(ok:Rows):Mem:=fun k=>if k=x+NB then some o else if k=K then some ok else none
theorem carryM_x(x:Nat)(o:Rows)(K:Nat)(ok:Rows):carryM x o K ok (x+NB)=some o:=by simp [carryM]
theorem carryM_k{x:Nat}{o:Rows}{K:Nat}{ok:Rows}(hK:K<NB):carryM x o K ok K=some ok:=by
 have: ¬K=x+NB:=by omega
 simp [carryM,this]
theorem keeps_shfM{x K:Nat}{o:Rows}(hx: ¬mid x)(hK:mid K)(ho: ∀r:Ren,(r.g K=some K)→Rows.tr r o=o):Rows.tr (shfM (fun k=>k==K) [x]) o=o:=by
 refine ho _ ?_
 have h1:K∉ [x]:=by simp;intro e;exact hx (e▸hK)
 have h2:midM (fun k=>k==K) K:=⟨hK.1,hK.2,by simp⟩
 simp [shfM,h2];intro e;exact absurd (e▸hK) hx
theorem keeps_usfM{x K:Nat}{m:Option Nat}{o:Rows}(hK:mid K)(ho: ∀r:Ren,(r.g K=some K)→Rows.tr r o=o):Rows.tr (usfM (fun k=>k==K) [x] m) o=o:=by
 refine ho _ ?_
 have h2:midM (fun k=>k==K) K:=⟨hK.1,hK.2,by simp⟩
 have h0: ¬K=0:=fun e=>by have:=hK.1;omega
 have h1: ¬(NB≤K∧K - NB∈ [x]):=fun e=>by have:=hK.2;omega
 simp only [usfM,if_neg h0,if_neg h1,h2,if_true]
theorem carryM_call{x K:Nat}{o ok:Rows}{bx:Mem}(hx: ¬mid x)(hK:mid K)(h1:bx x=some o)(h2:bx K=some ok)(ho: ∀r:Ren,(r.g K=some K)→Rows.tr r o=o)(hok: ∀r:Ren,(r.g K=some K)→Rows.tr r ok=ok):
  ∀k r,carryM x o K ok k=some r→callMemM (fun k=>k==K) bx [x] k=some r:=fun k r h=>by
 unfold carryM at h
 unfold callMemM
 split at h
 ·rename_i hk
  injection h with h;subst h
  subst hk
  rw [if_pos ⟨by omega,by simp⟩,Nat.add_sub_cancel,h1,Option.map_some,keeps_shfM hx hK ho]
 ·split at h
  ·rename_i hk
   injection h with h;subst h
   subst hk
   have h3: ¬(NB≤k∧k - NB∈ [x]):=fun e=>by have:=hK.2;omega
   have h4:midM (fun q=>q==k) k:=⟨hK.1,hK.2,by simp⟩
   rw [if_neg h3,if_pos h4,h2,Option.map_some,keeps_shfM hx hK hok]
  ·cases h
theorem aftM_x{x K:Nat}{o:Rows}{bx H':Mem}{m:Option Nat}(hx:m≠some x)(hK:mid K)(ho: ∀r:Ren,(r.g K=some K)→Rows.tr r o=o)(h:H' (x+NB)=some o):callMemAftM (fun k=>k==K) bx H' [x] m x=some o:=by
 simp only [callMemAftM,hx,if_false,List.mem_singleton,if_true,h,Option.map_some,keeps_usfM hK ho]
theorem aftM_k{x K:Nat}{o:Rows}{bx H':Mem}{m:Option Nat}(hK:mid K)(hx:K≠x)(hm:m≠some K)(ho: ∀r:Ren,(r.g K=some K)→Rows.tr r o=o)(h:H' K=some o):callMemAftM (fun k=>k==K) bx H' [x] m K=some o:=by
 have h4:midM (fun q=>q==K) K:=⟨hK.1,hK.2,by simp⟩
 simp only [callMemAftM,hm,if_false,List.mem_singleton,hx,h4,if_true,h,Option.map_some,keeps_usfM hK ho]
theorem aftM_out{x K k:Nat}{bx H':Mem}{m:Option Nat}(hk:k≠K)(hx:k≠x)(hm:m≠some k):callMemAftM (fun k=>k==K) bx H' [x] m k=(bx k).map (Rows.tr (aftM (fun k=>k==K) [x] m)):=by
 have h4: ¬midM (fun q=>q==K) k:=fun h=>hk (by have:=h.2.2;simpa using this)
 simp only [callMemAftM,hm,if_false,List.mem_singleton,hx,h4]
end
end Go.Dl
/- The logic of data: loops over a list; a slice that may be nil; a region some of whose operations go by hand; an empty list in memory of one's own; a guard that is not known. -/
namespace Go.Dl
open Go.RowKit
noncomputable section
section
variable {P : Program} {s : DS} {Q : Exit → DS → Prop} {c : Code}
theorem take_snoc{α:Type}{xs:List α}{k:Nat}{x:α}(h:xs[k]? =some x):xs.take (k+1)=xs.take k++ [x]:=by
 rw [List.take_add_one,h];rfl
theorem dw_rng{α σ:Type}(xs:List α)(S:Nat→σ→DS)(Inv:Nat→σ→Prop)(st0:σ)(hmax:xs.length≤maxLen)(h0:s.Sub (S 0 st0))(hi:Inv 0 st0)
  (body: ∀k x st,xs[k]? =some x→k<xs.length→x∈xs→xs.take (k+1)=xs.take k++ [x]→decide ((k:Int)<(xs.length:Int))=true→IntKind.i64.wrap ((k:Int)+1)=((k+1:Nat):Int)→Inv k st→
   DW P c (S k st) (thenD (fun s'=>∃st',Inv (k+1) st'∧s'.Sub (S (k+1) st')) Q))
  (done: ∀st,decide ((xs.length:Int)<(xs.length:Int))=false→Inv xs.length st→DW P c (S xs.length st) (thenD (fun _=>False) Q)):DW P (.loop c) s Q:=by
 refine dw_loop_fam (fun y:Nat×σ=>S y.1 y.2) (fun y=>y.1≤xs.length∧Inv y.1 y.2) (fun y=>xs.length - y.1) (0,st0) h0 ⟨Nat.zero_le _,hi⟩ ?_
 rintro⟨k,st⟩ ⟨hk,hi⟩
 rcases Nat.lt_or_ge k xs.length with hlt|hge
 ·have hx:xs[k]? =some xs[k]:=List.getElem?_eq_getElem hlt
  refine(body k _ st hx hlt (List.getElem_mem hlt) (take_snoc hx) (by simpa using hlt) (wrap_succ k (by simp only at hk;omega)) hi).mono ?_
  intro e s' h
  cases e<;>first|exact h|skip
  obtain⟨st',h1,h2⟩:=h
  exact⟨(k+1,st'),⟨by simp only;omega,h1⟩,by simp only;omega,h2⟩
 ·have hkl:k=xs.length:=by simp only at hk;omega
  subst hkl
  refine(done st (by simp) hi).mono ?_
  intro e s' h
  cases e<;>first|exact h|exact h.elim
theorem dw_emp{sz:Nat}(t:Nat)(h:s.sl t= .one (.c (.sl sz [])))(h1:DW P c (s.put (some t) (.one (.c (.lit (.slice none 0 0))))) Q)
  (h2: ∀a cap,cap≤maxLen→DW P c (s.put (some t) (.one (.c (.lit (.slice (some a) 0 cap))))) Q):DW P c s Q:=by
 rintro X a w ⟨E,hE⟩
 have hv:=hE.sl t
 rw [h]at hv
 have put: ∀v,a.tmps.getD t undef=v→v.oneCell'=true→Rel X (s.put (some t) (.one (.c (.lit v)))) a w:=fun v e ho=>⟨E,⟨hE.wi,fun u=>by
  simp only [DS.put]
  split
  ·rename_i hu;subst hu;rw [e];exact .one _ _ (.c _ _ (.lit _ ho))
  ·exact hE.sl u,hE.size,hE.defers,hE.small,hE.pl⟩⟩
 generalize hg:a.tmps.getD t undef=v at hv
 cases hv with|one t' v hv=>cases hv with|c c' v hv=>cases hv with
  | nil=>exact h1 X a w (put _ hg rfl)
  | sl _ _ ad cap cv hsz hc hm=>exact h2 ad cap hm X a w (put _ hg rfl)
theorem DLe.emp(sz:Nat){a:Addr}{cap:Nat}(h:cap≤maxLen):DLe (.one (.c (.lit (.slice (some a) 0 cap)))) (.one (.c (.sl sz []))):=fun w E v hv=>by
 rw [hv.lit]
 exact .one _ _ (.c _ _ (.sl sz [] a cap (fun _=>undef) (fun r hr=>by simp at hr) (Nat.zero_le _) h (fun j hj=>by simp at hj) (fun i j r c h1=>by simp at h1)))
section
variable {md : Mode} {ds : List (Option Nat)} {dst : Option Nat} {ty : TypeId} {pos : String} {aft : Array Edge} {l : List (Mode × Oper)} {K : DS → Prop} {op : Op} {b : Bool}
theorem guardC_t(h1:b=true→guardC (some true) md P ds dst op ty pos aft l s K)(h2:b=false→guardC (some false) md P ds dst op ty pos aft l s K):guardC (some b) md P ds dst op ty pos aft l s K:=by
 cases b
 ·exact h2 rfl
 ·exact h1 rfl
theorem guardC_f(h1:b=true→guardC (some false) md P ds dst op ty pos aft l s K)(h2:b=false→guardC (some true) md P ds dst op ty pos aft l s K):guardC (some (!b)) md P ds dst op ty pos aft l s K:=by
 cases b
 ·exact h2 rfl
 ·exact h1 rfl
end
theorem any_true{α:Type}{l:List α}{p:α→Bool}{x:α}(hm:x∈l)(h:p x=true):l.any p=true:=by
 rw [List.any_eq_true];exact⟨x,hm,h⟩
/-! ### A region some of whose operations go by hand -/
def tagM:List Mode→List Oper→List (Mode×Oper)
 | _,[]=> []
 | [],o::l=>(.step,o)::tagM [] l
 | m::ms,o::l=>(m,o)::tagM ms l
def Mode.byStep:Mode→Bool
 | .step=>true
 | .hand=>true
 | _=>false
theorem wk_walkM{ops:List Oper}{K:DS→Prop}: ∀(ms:List Mode) (l:List Oper) (s:DS),ms.all Mode.byStep=true→wk P (ops.map (·.dst)) (tagM ms l) s K→walkS P ops l s K
 | _,[],_,_,h=>by
  simp only [tagM]at h
  exact h
 | ms,o::l,s,hm,h=>by
  obtain⟨m,ms',e,hb,hm'⟩: ∃m ms',tagM ms (o::l)=(m,o)::tagM ms' l∧m.byStep=true∧ms'.all Mode.byStep=true:=by
   cases ms with
   | nil=>exact⟨.step,[],rfl,rfl,rfl⟩
   | cons m ms=>
    simp only [List.all_cons,Bool.and_eq_true]at hm
    exact⟨m,ms,rfl,hm.1,hm.2⟩
  rw [e]at h
  have h2:=wk_cons h
  clear h
  unfold GIs at h2
  simp only [walkS,guardS]
  split at h2
  ·rename_i hw
   simp only [hw,if_true]
   cases h2 with
   | step h=>exact h.mono fun s' _ hs'=>wk_walkM ms' l s' hm' hs'
   | hand h=>exact h.mono fun s' _ hs'=>wk_walkM ms' l s' hm' hs'
   | _=>cases hb
  ·rename_i hw
   simp only [hw,Bool.false_eq_true,if_false]
   exact wk_walkM ms' l _ hm' h2
  ·exact h2.elim
theorem dw_regM{id:Nat}{l:List Oper}{N:Nat}(ms:List Mode)(hn:s.n=N)(hb:(dstB l N&&ms.all Mode.byStep)=true)(h:wk P (l.map (·.dst)) (tagM ms l) s (Q .normal)):DW P (.region id l.toArray false) s Q:=by
 simp only [Bool.and_eq_true]at hb
 exact dw_region (by rw [hn];exact hb.1) (wk_walkM ms l s hb.2 h)
theorem wk_tagM(ds:List (Option Nat))(K:DS→Prop)(m:Mode)(ms:List Mode)(o:Oper)(l:List Oper):wk P ds (tagM (m::ms) (o::l)) s K=wk P ds ((m,o)::tagM ms l) s K:=rfl
theorem wk_tagM0(ds:List (Option Nat))(K:DS→Prop)(o:Oper)(l:List Oper):wk P ds (tagM [] (o::l)) s K=wk P ds ((.step,o)::tagM [] l) s K:=rfl
theorem wk_tagMn(ds:List (Option Nat))(K:DS→Prop)(ms:List Mode):wk P ds (tagM ms []) s K=K s:=by
 cases ms<;>rfl
theorem Step.buildNone{o:Oper}{K:DS→Prop}{m sz:Nat}{t:TypeId}(ho:o.op= .buildSlice t 0 #[])(hm:o.dst=some m)(hb:buildSliceD P t 0 []=some (sz,[]))
  (h:K (((s.put (some m) (.one (.ex sz []))).setBx m (some [])).put (some m) (.one (.ba m sz 0 0 0)))):Step P o s K:=by
 have hq:Step P o s (fun s'=>s'=s.put (some m) (.one (.ex sz []))):=by
  refine Step.quiet ?_
  rw [ho,hm]
  unfold QD
  simp only [List.map_nil]
  rw [hb]
 refine Step.weaken hq fun s' hn e=>⟨_,sub_zero m m sz (.inr ⟨sz,?_⟩),rfl,?_⟩
 ·rw [e];simp [DS.put]
 ·rw [e];exact h
end
attribute [go_sem ↓] wk_tagM wk_tagM0 wk_tagMn
end
end Go.Dl
/- The logic of data: exact lists are lists; small laws of lists. -/
namespace Go.Dl
open Go.RowKit
noncomputable section
def T.exc:T→T
 | .ex sz xs=>.c (.sl sz xs)
 | .own _ sz xs=>.c (.sl sz xs)
 | t=>t
theorem VT.exc{w:World}{E:Env}{t:T}{v:Value}(h:VT w E t v):VT w E t.exc v:=by
 cases h with
 | ex sz xs v h hx=>exact .c _ _ h
 | own n sz xs v h hv ht=>exact .c _ _ h
 | c c v h=>exact .c c v h
 | bx n sz i o=>exact .bx n sz i o
 | ba n sz i len cap h1 h2=>exact .ba n sz i len cap h1 h2
 | bz n sz i A=>exact .bz n sz i A
 | fv f caps vs hl hr=>exact .fv f caps vs hl hr
theorem sub_exc{s:DS}(m:Nat){rows:Rows}(hm:s.bx m=some rows):s.Sub (s.setBx m (some (rows.map (List.map T.exc)))):=by
 refine sub_box m hm (by simp) fun i r1 r2 h1 h2=>?_
 rw [List.getElem?_map,h1]at h2
 injection h2 with h2;subst h2
 refine⟨by simp,fun w E j t t' v e1 e2 e3=>?_⟩
 rw [List.getElem?_map,e1]at e2
 injection e2 with e2;subst e2
 exact e3.exc
theorem dw_exc{P:Program}{s:DS}{Q:Exit→DS→Prop}{c:Code}(m:Nat){rows:Rows}(hm:s.bx m=some rows)(h:DW P c (s.setBx m (some (rows.map (List.map T.exc)))) Q):DW P c s Q:=dw_weaken (sub_exc m hm) h
theorem exc_c(c:C):(T.c c).exc= .c c:=rfl
theorem exc_ex(sz:Nat)(xs:List (List C)):(T.ex sz xs).exc= .c (.sl sz xs):=rfl
theorem exc_own(n sz:Nat)(xs:List (List C)):(T.own n sz xs).exc= .c (.sl sz xs):=rfl
theorem forall_snoc{α:Type}{l:List α}{q:α→Prop}{k:Nat}{x:α}(ht:l.take (k+1)=l.take k++ [x])(hi: ∀y∈l.take k,q y)(h:q x): ∀y∈l.take (k+1),q y:=fun y hy=>by
 rw [ht]at hy
 rcases List.mem_append.1 hy with hy|hy
 ·exact hi y hy
 ·rw [List.mem_singleton.1 hy];exact h
attribute [go_sem] exc_c exc_ex exc_own
end
end Go.Dl
/- The logic of data: the plain laws by which the walk's simp goes. -/
namespace Go.Dl
attribute [go_sem] if_true if_false ite_true ite_false Option.map_some Option.map_none Option.bind_some Option.bind_none List.map_cons List.map_nil List.mapM_cons List.mapM_nil
attribute [go_sem] List.getElem?_cons_zero List.getElem?_cons_succ List.getElem?_nil List.getElem?_map List.take_succ_cons List.take_zero List.take_nil List.drop_succ_cons List.drop_zero List.drop_nil List.cons_append List.nil_append
attribute [go_sem] List.append_nil List.length_cons List.length_nil List.length_map List.zipWith_cons_cons List.replicate_succ List.replicate_zero List.set_cons_zero List.set_cons_succ List.foldr_cons List.foldr_nil and_true
attribute [go_sem] true_and and_false false_and and_self Bool.true_and Bool.and_true Bool.and_false Bool.false_and Bool.not_true Bool.not_false Bool.true_eq_false Bool.false_eq_true
attribute [go_sem] not_false_eq_true not_true_eq_false ne_eq beq_self_eq_true beq_true beq_false List.mem_singleton List.not_mem_nil Int.toNat_natCast Int.natCast_zero Int.cast_ofNat_Int Int.natCast_nonneg
attribute [go_sem] Int.toNat_zero Int.zero_add Nat.le_refl true_or or_true false_or or_false exists_eq_left exists_eq_left' Option.some.injEq Prod.mk.injEq eq_self
attribute [go_sem] implies_true List.isEmpty_toArray List.isEmpty_nil List.isEmpty_cons Bool.or_true Bool.or_false Bool.true_or Bool.false_or Nat.zero_add Nat.add_zero Nat.zero_mul Nat.mul_one
attribute [go_sem] Nat.one_mul decide_true decide_false List.toList_toArray
end Go.Dl
/- The logic of data: a loop over a function: what an iterator promises, one round of the loop, and the rule. -/
namespace Go.Dl
open Go.RowKit
noncomputable section
structure Keep(n:Nat)(K:KSet)(w w':World):Prop where
 size:w.heap.size≤w'.heap.size
 cells: ∀b o,K b o→w'.cell? ⟨b,o,none⟩=w.cell? ⟨b,o,none⟩
 others: ∀(b:Nat) ob,n≤b→w.heap[b]? =some ob→(∀arr e m,ob≠Obj.cells arr e m)→w'.heap[b]? =some ob
 z:GSz w→GSz w'
def Stab(n:Nat)(J:Option Nat→World→KSet→Prop):Prop:=
 ∀g A B (L L':KSet),J g A L→Hush n A B→(∀b o,L' b o→L b o∨(A.heap.size≤b∧(B.cell? ⟨b,o,none⟩).isSome=true))→J g B L'
def Iter(P:Program)(g:FuncId)(vs:Array Value)(xs:List (List D))(K:KSet)(w:World):Prop:=
 ∀(l:Nat) (J:Option Nat→World→KSet→Prop),l<w.heap.size→Stab w.heap.size J→
  (∀(k:Nat) ds W L (va:Array Value),xs[k]? =some ds→J (some k) W L→w.heap.size≤W.heap.size→va.size=ds.length→(∀(j:Nat) d v,ds[j]? =some d→va[j]? =some v→VD W (E0 L) d v)→
   YieldAt Fence.wide 0 P l va W fun e W'=>∃b,e= .returned (.bool b)∧J (if b then some (k+1)else none) W' L∧Keep w.heap.size L W W')→
  J (some 0) w K→CallsIn Fence.wide 0 P g (#[.func (.yield l) #[] #[]]++vs) w fun e W'=>(∃v,e= .returned v)∧∃L,J (some xs.length) W' L∨J none W' L
def SeqD(P:Program)(g:FuncId)(caps:List D)(xs:List (List D)):Prop:=
 Program.plainF P g=true∧∀(w:World) (K:KSet) (vs:Array Value),KOk w K→vs.size=caps.length→
  (∀(j:Nat) d v,caps[j]? =some d→vs[j]? =some v→VD w (E0 K) d v)→Iter P g vs xs K w
def noName:Ren:=⟨fun _=>none,fun _=>none⟩
theorem renames_none(E E':Env)(h:E'.K=E.K):Renames noName E E':=⟨h,fun _ _ h=>(by cases h),fun _ _ h=>(by cases h)⟩
def DS.round0(s:DS)(ms:Nat→Bool)(ns:List Nat):DS:={ pl:=false,n:=s.n,sl:=fun t=>(s.sl t).tr (shfM ms ns),bx:=callMemM ms s.bx ns }
def DS.puts(s:DS):List (Nat×D)→DS
 | []=>s
 | p::l=>(s.put (some p.1) p.2).puts l
def DS.round(s:DS)(ms:Nat→Bool)(ns:List Nat)(ps:List Nat)(ds:List D):DS:=(s.round0 ms ns).puts (ps.zip (ds.map (D.tr noName)))
theorem RelE.puts{X:Origin}{E:Env}{w:World}: ∀(l:List (Nat×Value×D)) (s:DS) (a:Act),RelE X s E a w→(∀p∈l,p.1<s.n∧VD w E p.2.2 p.2.1)→
  RelE X (s.puts (l.map fun p=>(p.1,p.2.2))) E { a with tmps:=(l.map fun p=>(p.1,p.2.1)).foldl (fun t p=>t.setIfInBounds p.1 p.2) a.tmps } w
 | [],s,a,h,_=>h
 | p::l,s,a,h,hl=>by
  obtain⟨h1,h2⟩:=hl p (by simp)
  have h3:=h.putOnly (dst:=some p.1) (fun d hd=>by injection hd with hd;subst hd;exact h1) h2
  have:=RelE.puts l _ _ h3 (fun q hq=>by rw [put_n];exact hl q (by simp [hq]))
  exact this
theorem putObj_twice(w:World)(l:Nat)(o o':Obj):(w.putObj l o).putObj l o'=w.putObj l o':=by simp [World.putObj]
theorem Turn.loop{F:KSet}{w w':World}(h:Turn F w w'){b:Nat}{o:Obj}(ho:w.heap[b]? =some o)(hc: ∀arr e m,o≠Obj.cells arr e m):w'.heap[b]? =some o:=by
 have hlt:b<w.heap.size:=(Array.getElem?_eq_some_iff.1 ho).1
 rcases h.block b hlt with g|⟨arr,e,arr',g1,_⟩
 ·exact g.trans ho
 ·rw [ho]at g1;injection g1 with g1;exact absurd g1 (hc _ _ _)
theorem WI.both{w0:World}{K F:KSet}{ρ:Nat→Nat}{B:Nat}{ro:Option Nat}{mk:Nat}{w:World}{E:Env}{bx:Mem}(h:WI ⟨w0,K,F,ρ,B,ro,mk⟩ w E bx){l:Nat}{o:Obj}(o':Obj)(ho:w0.heap[l]? =some o)(hc: ∀arr e m,o≠Obj.cells arr e m):
  WI ⟨w0.putObj l o',K,F,ρ,B,ro,mk⟩ (w.putObj l o') E bx:=by
 have ho2:=h.turn.loop ho hc
 have hlt:l<w0.heap.size:=(Array.getElem?_eq_some_iff.1 ho).1
 have hlt2:l<w.heap.size:=(Array.getElem?_eq_some_iff.1 ho2).1
 have hush:Hush 0 w (w.putObj l o'):=Hush.putObj o' (Nat.zero_le _) ho2 hc
 have hl:=hush.later h.kok
 refine⟨⟨h.turn.os,h.turn.tape,h.turn.output,by simpa using h.turn.size,fun b hb=>?_⟩,h.sep,h.kin,fun b o hb=>?_,h.kok.wide hl.keep (fun b o hb=>?_) (h.kok.z.hush hush),fun n rows hn hne=>?_,h.boxne,fun n b o hs=>?_,h.disj,h.sbox,h.fix⟩
 ·by_cases hbl:b=l
  ·subst hbl
   exact .inl ((World.putObj_heap_same hlt2).trans (World.putObj_heap_same hlt).symm)
  ·have hb':b<w0.heap.size:=by simpa using hb
   simp only [World.putObj_heap_other hbl]
   exact h.turn.block b hb'
 ·have hb':b<w0.heap.size:=by simpa using hb
  exact h.kold b o hb'
 ·rw [(hl.keep b o hb).2];exact h.kok b o hb
 ·obtain⟨h1,h2,h3⟩:=h.boxes n rows hn hne
  obtain⟨sz,arr,e,g,_⟩:=id h2
  refine⟨?_,h2.mono hl (hush.cells _ _ _ _ g),h3⟩
  rcases h1 with h1|h1
  ·exact .inl (by simpa using h1)
  ·exact .inr h1
 ·obtain⟨h1,h2,arr,e,h3,h4⟩:=h.free n b o hs
  refine⟨?_,h2,arr,e,(hush.cells _ _ _ _ h3).trans h3,h4⟩
  rcases h1 with h1|h1
  ·exact .inl (by simpa using h1)
  ·exact .inr h1
end
end Go.Dl
/- The logic of data: the rule of a loop over a function. -/
namespace Go.Dl
open Go.RowKit
noncomputable section
theorem WI.ro{X:Origin}{w:World}{E:Env}{bx:Mem}(h:WI X w E bx)(r:Option Nat)(m:Nat):WI { X with ro:=r,mrk:=m } w E bx:=
 ⟨h.turn,h.sep,h.kin,h.kold,h.kok,h.boxes,h.boxne,h.free,h.disj,h.sbox,h.fix⟩
def roundQ(ms:Nat→Bool)(ns:List Nat)(s:DS)(N:DS→Prop)(Q:Exit→DS→Prop):Exit→DS→Prop
 | .normal,t=>N (s.aftCallM ms ns none (.tup []) t.bx)
 | .ret,t=>Q .ret (s.aftCallM ms ns none (.tup []) t.bx)
 | .exit id,t=>Q (.exit id) (s.aftCallM ms ns none (.tup []) t.bx)
 | .goto l,t=>Q (.goto l) (s.aftCallM ms ns none (.tup []) t.bx)
 | _,_=>False
theorem rele_aft{ms:Nat→Bool}{X:Origin}{s:DS}{E E':Env}{a:Act}{w w':World}{H':Mem}{ns:List Nat}(h:RelE X s E a w)(h':WI ⟨w,E.K,callFM ms s.bx E ns,(callEnvM ms E ns).ρ,NB,none,w.heap.size⟩ w' E' H')(hc:CallOkM ms ns none):
  RelE X (s.aftCallM ms ns none (.tup []) H') (aftEnvM ms E E' ns none) a w':=
 ⟨wi_aft_m h.wi h.small.2 h' hc,fun t=>((h.sl t).mono (later_call_m h.wi h')).tr (renames_aft_m E E' ns none),h.size,h.defers.turn h'.turn,h.small,h.pl⟩
theorem foldl_zip(ps:Array Tmp)(vs:Array Value)(t:Array Value):
  (ps.zip vs).foldl (fun tmps (p:Tmp×Value)=>tmps.setIfInBounds p.1 p.2) t=(ps.toList.zip vs.toList).foldl (fun tmps p=>tmps.setIfInBounds p.1 p.2) t:=by
 rw [← Array.foldl_toList,Array.toList_zip]
theorem zip3: ∀(ps:List Nat) (vs:List Value) (ds:List D),vs.length=ds.length→
  ((ps.zip (vs.zip ds)).map fun p=>(p.1,p.2.1))=ps.zip vs∧((ps.zip (vs.zip ds)).map fun p=>(p.1,p.2.2))=ps.zip ds
 | [],_,_,_=>⟨rfl,rfl⟩
 | _::_,[],[],_=>⟨rfl,rfl⟩
 | p::ps,v::vs,d::ds,h=>by
  obtain⟨h1,h2⟩:=zip3 ps vs ds (by simpa using h)
  simp [h1,h2]
def Origin.re(X:Origin)(w:World)(E:Env):Origin:=⟨w,E.K,fun b o=>X.Young b o∧¬E.K b o,E.ρ,X.B,X.ro,X.mrk⟩
theorem RelE.re{X:Origin}{s:DS}{E:Env}{a:Act}{w:World}(h:RelE X s E a w):RelE (X.re w E) s E a w:=by
 refine⟨⟨Turn.refl _ _,fun b o hk hf=>hf.2 hk,fun _ _ h=>h,fun _ _ _ _ h=>h,h.wi.kok,fun n rows hn hne=>?_,h.wi.boxne,fun n b o hs=>?_,h.wi.disj,h.wi.sbox,fun _ _=>rfl⟩,h.sl,h.size,⟨Nat.le_trans h.defers.1 h.wi.turn.size,h.defers.2⟩,h.small,h.pl⟩
 ·obtain⟨h1,h2,h3⟩:=h.wi.boxes n rows hn hne
  exact⟨.inr fun o=>⟨h1.imp id (fun g=>g o),h3 o⟩,h2,h3⟩
 ·obtain⟨h1,h2,h3⟩:=h.wi.free n b o hs
  exact⟨.inr ⟨h1,h2⟩,h2,h3⟩
theorem RelE.unre{X:Origin}{s0 s:DS}{E0 E:Env}{a0 a:Act}{w0 w:World}(h0:RelE X s0 E0 a0 w0)(h:RelE (X.re w0 E0) s E a w):RelE X s E a w:=by
 have hsz:=h0.wi.turn.size
 refine⟨⟨h0.wi.turn.trans h.wi.turn (fun i o hi hf=>hf.1.resolve_left (by omega)),h0.wi.sep,fun b o hb=>h.wi.kin b o (h0.wi.kin b o hb),fun b o hb hF hk=>?_,h.wi.kok,fun n rows hn hne=>?_,h.wi.boxne,fun n b o hs=>?_,h.wi.disj,h.wi.sbox,fun n hn=>(h.wi.fix n hn).trans (h0.wi.fix n hn)⟩,h.sl,h.size,⟨h0.defers.1,h.defers.2⟩,h.small,h.pl⟩
 ·refine h0.wi.kold b o hb hF (h.wi.kold b o (Nat.lt_of_lt_of_le hb hsz) (fun hf=>?_) hk)
  rcases hf.1 with g|g
  ·omega
  ·exact hF g
 ·obtain⟨h1,h2,h3⟩:=h.wi.boxes n rows hn hne
  refine⟨?_,h2,h3⟩
  rcases h1 with h1|h1
  ·exact .inl (Nat.le_trans hsz h1)
  ·by_cases hb:X.w.heap.size≤E.ρ n
   ·exact .inl hb
   ·exact .inr fun o=>(h1 o).1.resolve_left hb
 ·obtain⟨h1,h2,h3⟩:=h.wi.free n b o hs
  refine⟨?_,h2,h3⟩
  rcases h1 with h1|h1
  ·exact .inl (Nat.le_trans hsz h1)
  ·exact h1.1
theorem RelE.sub{X:Origin}{s s':DS}{E:Env}{a:Act}{w:World}(h:RelE X s E a w)(hs:s.Sub s'): ∃E',RelE X s' E' a w∧∀b o,E.K b o→E'.K b o:=by
 obtain⟨E',h'⟩:=hs _ _ _ ⟨E,h.re⟩
 exact⟨E',h.unre h',h'.wi.kin⟩
section
variable {P : Program} {s : DS} {Q : Exit → DS → Prop}
theorem dw_rangeFunc{g:Operand}{ps:Array Tmp}{assign body:Code}{gf:FuncId}{caps:List T}{xs:List (List D)}{σ:Type}(ms:Nat→Bool)(ns:List Nat)(S:Nat→σ→DS)(Inv:Nat→σ→Prop)(st0:σ)(hi0:Inv 0 st0)(hpl:s.pl=true)
  (hg:(s.ev g).asFn=some (gf,caps)) (hseq:SeqD P gf (caps.map fun t=>.one (.c t.cl)) xs) (h0:s.Sub (S 0 st0)) (hn: ∀k st,(S k st).n=s.n) (hN:s.n≤1000) (hps: ∀p∈ps.toList,p<s.n) (hxs: ∀ds∈xs,ds.length=ps.size)
  (hok:CallOkM ms ns none)
  (hround: ∀k ds st,xs[k]? =some ds→Inv k st→DW P assign ((S k st).round ms ns ps.toList ds) (thenD (fun s1=>DW P body s1 (roundQ ms ns (S k st) (fun s'=>∃st',Inv (k+1) st'∧s'.Sub (S (k+1) st')) Q)) (fun _ _=>False)))
  (hdone: ∀st,Inv xs.length st→Q .normal (S xs.length st)):DW P (.rangeFunc g ps assign body) s Q:=by
 rintro X a w ⟨E,hE⟩
 have hro:X.ro=none:=hE.pl hpl
 rw [hro]
 obtain⟨captured,hfv,hcs,hcv⟩:=asFn_ok hg (hE.ev g)
 obtain⟨hmk,Ds,hnd,hds,hDs⟩:=hE.defers
 have hXw:X.w.heap.size≤w.heap.size:=hE.wi.turn.size
 have hNB:=NB_big
 refine wpIn_rangeFunc (F:=Fence.wide) ?_
 intro fn _
 obtain⟨rec,hrec⟩: ∃rec:LoopState→Option Code→Loop,rec=fun st pe=>{ state:=st,pending:=pe,fn,tmps:=a.tmps,params:=ps,assign,body,defers:=w.heap.size }:=⟨_,rfl⟩
 obtain⟨W1,hW1⟩: ∃W1,(w.alloc (.deferred (some []))).alloc (.loop (rec .ready none))=W1:=⟨_,rfl⟩
 have hsz1:W1.heap.size=w.heap.size+2:=by rw [← hW1];simp
 have hL1:W1.heap[w.heap.size+1]? =some (.loop (rec .ready none)):=by
  rw [← hW1];have:=World.alloc_heap_new (w.alloc (.deferred (some []))) (.loop (rec .ready none));rwa [World.size_alloc]at this
 have hK1:W1.heap[w.heap.size]? =some (.deferred (some [])):=by
  rw [← hW1];exact(Below.heap_alloc _ _ _ (by simp)).trans (World.alloc_heap_new w _)
 have hush1:Hush w.heap.size w W1:=by rw [← hW1];exact(Hush.alloc _ (Nat.le_refl _)).trans (Hush.alloc _ (by simp))
 have hDlt: ∀D∈Ds,D<w.heap.size:=fun D hD=>(Array.getElem?_eq_some_iff.1 (hDs D hD).2).1
 have hDs1: ∀D∈w.heap.size::Ds,W1.heap[D]? =some (.deferred (some [])):=fun D hD=>by
  rcases List.mem_cons.1 hD with rfl|hD
  ·exact hK1
  ·exact(hush1.old D (hDlt D hD)).trans (hDs D hD).2
 have hnd1:(w.heap.size::Ds).Nodup:=List.nodup_cons.2 ⟨fun h=>by have:=hDlt _ h;omega,hnd⟩
 have hDlt1: ∀D∈w.heap.size::Ds,D<w.heap.size+1:=fun D hD=>by
  rcases List.mem_cons.1 hD with rfl|hD
  ·omega
  ·have:=hDlt D hD;omega
 have hDge1: ∀D∈w.heap.size::Ds,X.mrk≤D:=fun D hD=>by
  rcases List.mem_cons.1 hD with rfl|hD
  ·exact Nat.le_trans hmk hXw
  ·exact(hDs D hD).1
 have hlat1:=hush1.later hE.wi.kok
 have hkok1:KOk W1 E.K:=hE.wi.kok.wide hlat1.keep (fun b o hb=>by rw [(hlat1.keep b o hb).2];exact hE.wi.kok b o hb) (hE.wi.kok.z.hush hush1)
 have hit:=hseq.2 W1 E.K captured hkok1 (by simpa using hcs) (fun j d v h1 h2=>by
  rw [List.getElem?_map]at h1
  cases hc:caps[j]? with
  | none=>rw [hc]at h1;cases h1
  | some t=>rw [hc]at h1;injection h1 with h1;subst h1;exact .one _ _ (.c _ _ ((hcv j t v hc h2).cl.mono hlat1.keep)))
 refine⟨w.heap.size+1,[{ target:=.collected w.heap.size,args:= #[] }],W1,{ target:=.fn (.func gf) captured,args:= #[.func (.yield (w.heap.size+1)) #[] #[]] },W1,gf,
  #[.func (.yield (w.heap.size+1)) #[] #[]]++captured,W1,?_,?_,fun _ _=>trivial,?_,fun h=>(by cases h),?_⟩
 ·rw [← hW1,hrec];exact run_enterLoop_outer _ _ _ _ _
 ·have h:=resolve_value (P:=P) a.eval g #[.const (.func (.yield (w.heap.size+1)) #[] #[])] #[] 0 gf captured hfv W1
  simpa [Act.eval]using h
 ·exact plainF_ok hseq.1 _ W1
 let Jk:Nat→World→KSet→Prop:=fun k W L=>∃st,Inv k st∧∃E',RelE X (S k st) E' { a with defers:= [] } W∧(∀b o,L b o→E'.K b o)∧(∀b o,E.K b o→E'.K b o∧W.cell? ⟨b,o,none⟩=W1.cell? ⟨b,o,none⟩)∧W.heap[w.heap.size+1]? =some (.loop (rec .ready none))∧
  ∀D∈w.heap.size::Ds,W.heap[D]? =some (.deferred (some []))
 let Jx:World→Prop:=fun W=>∃c E' s',RelE X s' E' { a with defers:= [] } W∧W.heap[w.heap.size+1]? =some (.loop (rec .done (some c)))∧(∀D∈w.heap.size::Ds,W.heap[D]? =some (.deferred (some [])))∧
  ∀a' W',Rel X s' a' W'→c.wpIn Fence.wide 0 P (fun e a w=>∃s'',Q e s''∧Rel X s'' a w) a' W'
 let J:Option Nat→World→KSet→Prop:=fun g W L=>match g with|some k=>Jk k W L|none=>Jx W
 have fin: ∀{s':DS} {E':Env} {W:World} (o:Loop),RelE X s' E' { a with defers:= [] } W→W.heap[w.heap.size+1]? =some (.loop o)→(∀D∈w.heap.size::Ds,W.heap[D]? =some (.deferred (some [])))→∀o':Loop,
   Rel X s' { a with defers:= [{ target:=.collected w.heap.size,args:= #[] }]++a.defers } (W.putObj (w.heap.size+1) (.loop o')):=fun o h1 h2 h3 o'=>by
  refine⟨_,h1.hush (Hush.putObj _ (by omega) h2 (by simp)) rfl ⟨hmk,w.heap.size::Ds,hnd1,by simp [hds],fun D hD=>⟨hDge1 D hD,?_⟩⟩⟩
  exact(World.putObj_heap_other (by have:=hDlt1 D hD;omega)).trans (h3 D hD)
 have nil: ∀W,DefOK X [] W:=fun W=>DefOK.nil _ _ hmk
 refine(hit (w.heap.size+1) J (by omega) ?_ ?_ ?_).mono ?_
 ·rintro g A B L L' hJ hu hL
  cases g with
  | some k=>
   obtain⟨st,hi,E',h1,h0,h2,h3,h4⟩:=hJ
   have hw:Wider A B E' { E' with K:=fun b o=>E'.K b o∨(A.heap.size≤b∧(B.cell? ⟨b,o,none⟩).isSome=true) }:=⟨fun _ _ h=>.inl h,fun _ _ h=>h,rfl,rfl⟩
   have hl:=hu.later h1.wi.kok
   refine⟨st,hi,_,h1.hushW (hu.mono (by omega)) hw rfl (nil _),fun b o hb=>(hL b o hb).imp (h0 b o) id,fun b o hb=>⟨.inl (h2 b o hb).1,((hl.keep b o (h2 b o hb).1).2).trans (h2 b o hb).2⟩,(hu.old _ (by omega)).trans h3,fun D hD=>(hu.old D (by have:=hDlt1 D hD;omega)).trans (h4 D hD)⟩
  | none=>
   obtain⟨c,E',s',h1,h3,h4,h5⟩:=hJ
   exact⟨c,E',s',h1.hush (hu.mono (by omega)) rfl (nil _),(hu.old _ (by omega)).trans h3,fun D hD=>(hu.old D (by have:=hDlt1 D hD;omega)).trans (h4 D hD),h5⟩
 ·
  rintro k ds W L va hkx ⟨st,hik,E',h1,hL,h2,h3,h4⟩ _ v1 v2
  have hlen:ds.length=ps.size:=hxs _ (List.mem_of_getElem? hkx)
  have hy:=run_yield (P:=P) (args:=va) h3 (by rw [hrec];exact v1.trans hlen)
  have hlW:w.heap.size+1<W.heap.size:=(Array.getElem?_eq_some_iff.1 h3).1
  let Xr:Origin:=⟨W,E'.K,callFM ms (S k st).bx E' ns,(callEnvM ms E' ns).ρ,NB,some (w.heap.size+1),W.heap.size⟩
  have hwi:WI Xr W (callEnvM ms E' ns) (callMemM ms (S k st).bx ns):=(wi_call_m h1.wi ns hok.hns).ro _ _
  have hbase:RelE Xr ((S k st).round0 ms ns) (callEnvM ms E' ns) { tmps:=a.tmps,defers:= [] } W:=
   ⟨hwi,fun t=>(h1.sl t).tr (renames_shf_m (ms:=ms) E' ns),h1.size,DefOK.nil _ _ (Nat.le_refl _),⟨by show(S k st).n≤NB;rw [hn];omega,Nat.le_refl _⟩,fun h=>(by cases h)⟩
  obtain⟨z1,z2⟩:=zip3 ps.toList va.toList (ds.map (D.tr noName)) (by simp [v1])
  have hput:=RelE.puts (ps.toList.zip (va.toList.zip (ds.map (D.tr noName)))) _ _ hbase (fun p hp=>by
   obtain⟨i,hi⟩:=List.getElem?_of_mem hp
   rw [List.getElem?_zip_eq_some,List.getElem?_zip_eq_some]at hi
   obtain⟨g1,g2,g3⟩:=hi
   refine⟨by show p.1<(S k st).n;rw [hn];exact hps _ (List.mem_of_getElem? g1),?_⟩
   rw [List.getElem?_map]at g3
   cases hd:ds[i]? with
   | none=>rw [hd]at g3;cases g3
   | some d=>
    rw [hd]at g3;injection g3 with g3
    rw [← g3]
    have hv:=v2 i d p.2.1 hd (by simpa using g2)
    have hla:Later W (E0 L) W { (E0 L)with K:=E'.K }:=⟨fun b o hb=>⟨hL b o hb,rfl⟩,rfl,rfl⟩
    exact VD.tr (renames_none { (E0 L)with K:=E'.K } (callEnvM ms E' ns) rfl) (hv.mono hla))
  rw [z1,z2]at hput
  have htm:(((rec .ready none).params.zip va).foldl (fun tmps (p:Tmp×Value)=>tmps.setIfInBounds p.1 p.2) (rec .ready none).tmps)=(ps.toList.zip va.toList).foldl (fun t p=>t.setIfInBounds p.1 p.2) a.tmps:=by
   rw [hrec];exact foldl_zip _ _ _
  refine⟨_,_,_,_,hy,?_⟩
  have hass:=hround k _ st hkx hik Xr _ W ⟨_,hput⟩
  rw [show (rec .ready none).assign=assign by rw [hrec],show(rec .ready none).body=body by rw [hrec]]
  refine roundIn_of_wpIn trivial ?_
  rw [htm]
  refine wpIn_mono hass ?_
  rintro e a1 W2 ⟨s1,hs1,E1,hr1⟩
  cases e with
  | normal=>
   have hl2:=hr1.wi.turn.loop h3 (by simp)
   refine⟨_,run_beginRound hl2 (by rw [hrec]),?_⟩
   have hwb:=hr1.wi.both (.loop { rec .ready none with state:=.busy }) h3 (by simp)
   have hub:Hush 0 W2 (W2.putObj (w.heap.size+1) (.loop { rec .ready none with state:=.busy })):=Hush.putObj _ (Nat.zero_le _) hl2 (by simp)
   have hrb:RelE ⟨W.putObj (w.heap.size+1) (.loop { rec .ready none with state:=.busy }),E'.K,callFM ms (S k st).bx E' ns,(callEnvM ms E' ns).ρ,NB,some (w.heap.size+1),W.heap.size⟩ s1 E1 a1 (W2.putObj (w.heap.size+1) (.loop { rec .ready none with state:=.busy })):=by
    refine⟨hwb,fun t=>(hr1.sl t).mono (hub.later hr1.wi.kok),hr1.size,?_,hr1.small,hr1.pl⟩
    obtain⟨_,Ds2,q1,q2,q3⟩:=hr1.defers
    refine⟨by simp,Ds2,q1,q2,fun D hD=>?_⟩
    obtain⟨q4,q5⟩:=q3 D hD
    have q6:W.heap.size≤D:=q4
    exact⟨q6,(World.putObj_heap_other (by omega)).trans q5⟩
   refine wpIn_mono (hs1 _ _ _ ⟨E1,hrb⟩) ?_
   have hbl:(W.putObj (w.heap.size+1) (.loop { rec .ready none with state:=.busy })).heap[w.heap.size+1]? =some (.loop { rec .ready none with state:=.busy }):=World.putObj_heap_same hlW
   have after: ∀(jump:Option Code) {s4:DS} {E4:Env} {a4:Act} {W4:World},RelE ⟨W.putObj (w.heap.size+1) (.loop { rec .ready none with state:=.busy }),E'.K,callFM ms (S k st).bx E' ns,(callEnvM ms E' ns).ρ,NB,some (w.heap.size+1),W.heap.size⟩ s4 E4 a4 W4→
     ∃W5,(Instr.endRound (w.heap.size+1) jump).run P W4= .ok (.bool jump.isNone) W5∧RelE X ((S k st).aftCallM ms ns none (.tup []) s4.bx) (aftEnvM ms E' E4 ns none) { a with defers:= [] } W5∧
      W5.heap[w.heap.size+1]? =some (.loop (rec (if jump.isNone then .ready else .done) jump))∧(∀D∈w.heap.size::Ds,W5.heap[D]? =some (.deferred (some [])))∧
      (∀b o,E'.K b o→E4.K b o∧W5.cell? ⟨b,o,none⟩=W.cell? ⟨b,o,none⟩)∧Keep W1.heap.size L W W5:=by
    intro jump s4 E4 a4 W4 h5
    have hl4:=h5.wi.turn.loop hbl (by simp)
    have hrun:=run_endRound (P:=P) jump hl4
    have hl4lt:w.heap.size+1<W4.heap.size:=(Array.getElem?_eq_some_iff.1 hl4).1
    have he5:(.loop { ({ rec .ready none with state:=.busy }:Loop)with state:=if jump.isNone then .ready else .done,pending:=jump }:Obj)= .loop (rec (if jump.isNone then .ready else .done) jump):=by rw [hrec]
    rw [he5]at hrun
    have hw5:=(h5.wi.both (.loop (rec (if jump.isNone then .ready else .done) jump)) hbl (by simp)).ro none (W.putObj (w.heap.size+1) (.loop (rec (if jump.isNone then .ready else .done) jump))).heap.size
    simp only [putObj_twice]at hw5
    have hu1:Hush 0 W (W.putObj (w.heap.size+1) (.loop (rec (if jump.isNone then .ready else .done) jump))):=Hush.putObj _ (Nat.zero_le _) h3 (by simp)
    have hra:=rele_aft (h1.hush (a':={ a with defers:= [] }) (Hush.putObj (.loop (rec (if jump.isNone then .ready else .done) jump)) (by omega) h3 (by simp)) rfl (nil _)) hw5 hok
    have hu4:Hush 0 W4 (W4.putObj (w.heap.size+1) (.loop (rec (if jump.isNone then .ready else .done) jump))):=Hush.putObj _ (Nat.zero_le _) hl4 (by simp)
    have hcell: ∀b o,E'.K b o→E4.K b o∧(W4.putObj (w.heap.size+1) (.loop (rec (if jump.isNone then .ready else .done) jump))).cell? ⟨b,o,none⟩=W.cell? ⟨b,o,none⟩:=fun b o hb=>by
     have k4:=h5.wi.kin b o hb
     refine⟨k4,?_⟩
     rw [((hu4.later h5.wi.kok).keep b o k4).2]
     have hblt:=lt_of_cell (h1.wi.kok b o hb)
     rw [h5.wi.turn.cell (by simpa using hblt) (h5.wi.sep b o hb)]
     have hub0:Hush 0 W (W.putObj (w.heap.size+1) (.loop { rec .ready none with state:=.busy })):=Hush.putObj _ (Nat.zero_le _) h3 (by simp)
     exact((hub0.later h1.wi.kok).keep b o hb).2
    refine⟨_,hrun,hra,World.putObj_heap_same hl4lt,fun D hD=>?_,hcell,?_,fun b o hb=>(hcell b o (hL b o hb)).2,fun b ob hne hob hc=>?_,fun _=>hra.wi.kok.z⟩
    ·have hlt:=hDlt1 D hD
     refine(World.putObj_heap_other (by omega)).trans (h5.wi.turn.loop ?_ (by simp))
     exact(World.putObj_heap_other (by omega)).trans (h4 D hD)
    ·have:=h5.wi.turn.size;simpa using this
    ·have hne:b≠w.heap.size+1:=by omega
     refine(World.putObj_heap_other hne).trans (h5.wi.turn.loop ?_ hc)
     exact(World.putObj_heap_other hne).trans hob
   have hcellJ: ∀{E4:Env} {W5:World},(∀b o,E'.K b o→E4.K b o∧W5.cell? ⟨b,o,none⟩=W.cell? ⟨b,o,none⟩)→∀b o,E.K b o→(aftEnvM ms E' E4 ns none).K b o∧W5.cell? ⟨b,o,none⟩=W1.cell? ⟨b,o,none⟩:=fun h b o hb=>
    ⟨(h b o (h2 b o hb).1).1,(h b o (h2 b o hb).1).2.trans (h2 b o hb).2⟩
   have stop: ∀(c:Code) {s4:DS} {E4:Env} {a4:Act} {W4:World},RelE ⟨W.putObj (w.heap.size+1) (.loop { rec .ready none with state:=.busy }),E'.K,callFM ms (S k st).bx E' ns,(callEnvM ms E' ns).ρ,NB,some (w.heap.size+1),W.heap.size⟩ s4 E4 a4 W4→
     (∀a' W',Rel X ((S k st).aftCallM ms ns none (.tup []) s4.bx) a' W'→c.wpIn Fence.wide 0 P (fun e a w=>∃s'',Q e s''∧Rel X s'' a w) a' W')→
     ∃v w',(Instr.endRound (w.heap.size+1) (some c)).run P W4= .ok v w'∧∃b,Ending.returned v= .returned (.bool b)∧J (if b then some (k+1)else none) w' L∧Keep W1.heap.size L W w':=fun c {s4 E4 a4 W4} h5 hc=>by
    obtain⟨W5,g1,g2,g3,g4,g5,g6⟩:=after (some c) h5
    exact⟨_,W5,g1,false,rfl,⟨c,_,_,g2,g3,g4,hc⟩,g6⟩
   rintro e a4 W4 ⟨s4,hq,E4,h5⟩
   cases e with
   | normal=>
    obtain⟨W5,g1,g2,g3,g4,g5,g6⟩:=after none h5
    refine⟨_,W5,g1,true,rfl,?_,g6⟩
    obtain⟨st',hi',hsub⟩:=hq
    obtain⟨E5,g7,g8⟩:=g2.sub hsub
    exact⟨st',hi',E5,g7,fun b o hb=>g8 b o (g5 b o (hL b o hb)).1,fun b o hb=>⟨g8 b o (hcellJ g5 b o hb).1,(hcellJ g5 b o hb).2⟩,g3,g4⟩
   | ret=>exact stop .ret h5 fun a' W' hr=>wpIn_ret ⟨_,hq,hr⟩
   | exit id=>exact stop (.exit id) h5 fun a' W' hr=>wpIn_exit ⟨_,hq,hr⟩
   | goto t=>exact stop (.goto t) h5 fun a' W' hr=>wpIn_goto ⟨_,hq,hr⟩
   | panic ch=>exact hq.elim
   | outgrown=>exact hq.elim
  | exit id=>exact hs1.elim
  | goto l=>exact hs1.elim
  | ret=>exact hs1.elim
  | panic ch=>exact hs1.elim
  | outgrown=>exact hs1.elim
 ·obtain⟨E',h1,h2⟩:=RelE.sub (a:={ a with defers:= [] }) ⟨hE.wi,hE.sl,hE.size,DefOK.nil _ _ hE.defers.1,hE.small,hE.pl⟩ h0
  exact⟨st0,hi0,E',h1.hush (hush1.mono (by omega)) rfl (nil _),h2,fun b o hb=>⟨h2 b o hb,rfl⟩,hL1,hDs1⟩
 ·rintro e W2 ⟨⟨v,rfl⟩,L,⟨st,hi,E',h1,_,h2,h3,h4⟩|⟨c,E',s',h1,h3,h4,h5⟩⟩
  ·exact⟨none,_,by have:=run_endLoop (P:=P) h3 (by rw [hrec];simp);rw [hrec]at this;exact this,S xs.length st,hdone st hi,fin _ h1 h3 h4 _⟩
  ·exact⟨some c,_,by have:=run_endLoop (P:=P) h3 (by rw [hrec];simp);rw [hrec]at this;exact this,h5 _ _ (fin _ h1 h3 h4 _)⟩
end
end
end Go.Dl
/- The logic of data: an iterator's own text: slots said by data, no memory of its own; beside them what is said of the caller's world. -/
namespace Go.Dl
open Go.RowKit
noncomputable section
structure Flat(m n:Nat)(s:DS)(K:KSet)(a:Act)(w:World):Prop where
 kok:KOk w K
 sl: ∀t,VD w (E0 K) (s.sl t) (a.tmps.getD t undef)
 size:a.tmps.size=s.n
 small:s.n≤NB
 mrk:n≤w.heap.size
 mn:m≤n
 defers: ∃Ds:List Nat,Ds.Nodup∧a.defers=Ds.map (fun D=>{ target:=.collected D,args:= #[] })∧∀D∈Ds,m≤D∧w.heap[D]? =some (.deferred (some []))
def Ext(w:World)(K:KSet)(w':World)(K':KSet):Prop:=∀b o,K b o→K' b o∧w'.cell? ⟨b,o,none⟩=w.cell? ⟨b,o,none⟩
theorem Ext.refl(w:World)(K:KSet):Ext w K w K:=fun _ _ h=>⟨h,rfl⟩
theorem Ext.trans{a b c:World}{K L M:KSet}(h:Ext a K b L)(k:Ext b L c M):Ext a K c M:=fun x o hx=>⟨(k x o (h x o hx).1).1,(k x o (h x o hx).1).2.trans (h x o hx).2⟩
theorem Ext.later{a b:World}{K L:KSet}(h:Ext a K b L):Later a (E0 K) b (E0 L):=⟨h,rfl,rfl⟩
def DS.flat(s:DS):DS:={ n:=s.n,sl:=fun t=>(s.sl t).tr noName,bx:=noMem,pl:=false }
def DS.bare(s:DS):DS:={ n:=s.n,sl:=s.sl,bx:=noMem,pl:=false }
def IW(P:Program)(m n:Nat)(J:Option Nat→World→KSet→Prop)(ro:Option Nat)(c:Code)(s:DS)(g:Option Nat)(Q:Exit→DS→Option Nat→Prop):Prop:=
 ∀K a w,Flat m n s K a w→J g w K→c.wpIn (rd ro) 0 P (fun e a' w'=>∃s' g' K',Q e s' g'∧Flat m n s' K' a' w'∧J g' w' K'∧Ext w K w' K') a w
def thenI(next:DS→Option Nat→Prop)(Q:Exit→DS→Option Nat→Prop):Exit→DS→Option Nat→Prop
 | .normal,s,g=>next s g
 | e,s,g=>Q e s g
def inBlockI(id:Nat)(Q:Exit→DS→Option Nat→Prop):Exit→DS→Option Nat→Prop
 | .exit id',s,g=>if id'=id then Q .normal s g else Q (.exit id') s g
 | e,s,g=>Q e s g
section
variable {P : Program} {m n : Nat} {J : Option Nat → World → KSet → Prop} {s : DS} {g ro : Option Nat} {Q : Exit → DS → Option Nat → Prop}
theorem iw_skip(h:Q .normal s g):IW P m n J ro .skip s g Q:=fun K _ w hf hj=>wpIn_skip ⟨s,g,K,h,hf,hj,Ext.refl _ _⟩
theorem iw_exit{id:Nat}(h:Q (.exit id) s g):IW P m n J ro (.exit id) s g Q:=fun K _ w hf hj=>wpIn_exit ⟨s,g,K,h,hf,hj,Ext.refl _ _⟩
theorem iw_ret(h:Q .ret s g):IW P m n J ro .ret s g Q:=fun K _ w hf hj=>wpIn_ret ⟨s,g,K,h,hf,hj,Ext.refl _ _⟩
theorem iw_seq{x y:Code}(h:IW P m n J ro x s g (thenI (fun s' g'=>IW P m n J ro y s' g' Q) Q)):IW P m n J ro (.seq x y) s g Q:=by
 intro K a w hf hj
 refine wpIn_seq (wpIn_mono (h K a w hf hj) ?_)
 rintro e a' w' ⟨s',g',K',h1,h2,h3,h4⟩
 cases e with
 | normal=>exact wpIn_mono (h1 K' a' w' h2 h3) fun _ _ _ ⟨s2,g2,K2,q1,q2,q3,q4⟩=>⟨s2,g2,K2,q1,q2,q3,h4.trans q4⟩
 | _=>exact⟨s',g',K',h1,h2,h3,h4⟩
theorem iw_block{id:Nat}{c:Code}(h:IW P m n J ro c s g (inBlockI id Q)):IW P m n J ro (.block id c) s g Q:=by
 intro K a w hf hj
 refine wpIn_block (wpIn_mono (h K a w hf hj) ?_)
 rintro e a' w' ⟨s',g',K',h1,h2⟩
 cases e with
 | exit id'=>
  simp only [Exit.inBlock,inBlockI]at h1 ⊢
  split
  ·rename_i he;rw [if_pos he]at h1;exact⟨s',g',K',h1,h2⟩
  ·rename_i he;rw [if_neg he]at h1;exact⟨s',g',K',h1,h2⟩
 | _=>exact⟨s',g',K',h1,h2⟩
theorem Flat.rel{K:KSet}{a:Act}{w:World}(h:Flat m n s K a w)(ro:Option Nat):RelE ⟨w,K,fun _ _=>False,(E0 K).ρ,NB,ro,m⟩ s.bare (E0 K) a w:=
 ⟨(wi_zero w K h.kok).ro ro m,h.sl,h.size,⟨Nat.le_trans h.mn h.mrk,h.defers⟩,⟨h.small,Nat.le_refl _⟩,fun h=>(by cases h)⟩
theorem Flat.ev{K:KSet}{a:Act}{w:World}(h:Flat m n s K a w)(x:Operand):VD w (E0 K) (s.ev x) (a.eval x):=(h.rel none).ev x
theorem iw_cond{c:Operand}{x y:Code}{t:Bool}(hc:s.ev c= .one (.c (.lit (.bool t))))(ht:t=true→IW P m n J ro x s g Q)(hf:t=false→IW P m n J ro y s g Q):IW P m n J ro (.cond c x y) s g Q:=by
 intro K a w hfl hj
 have hv:=hfl.ev c
 rw [hc]at hv
 exact wpIn_cond_split hv.lit (fun h=>ht h K a w hfl hj) (fun h=>hf h K a w hfl hj)
theorem flat_after{K:KSet}{a:Act}{w:World}(hf:Flat m n s K a w)(hJ:Stab n J)(hj:J g w K){ro:Option Nat}{s':DS}{a':Act}{w':World}(h:Rel ⟨w,K,fun _ _=>False,(E0 K).ρ,NB,ro,m⟩ s' a' w'):
  ∃K',Flat m n s'.flat K' a' w'∧J g w' K'∧Ext w K w' K':=by
 obtain⟨E',h⟩:=h
 have hb:=h.wi.turn.below
 refine⟨E'.K,⟨h.wi.kok,fun t=>VD.tr (renames_none E' (E0 E'.K) rfl) (h.sl t),h.size,h.small.1,Nat.le_trans hf.mrk hb.size,hf.mn,h.defers.2⟩,?_,fun b o hk=>?_⟩
 ·refine hJ g w w' K E'.K hj ⟨hb.os,hb.tape,hb.output,hb.size,fun b hlt=>hb.block b (Nat.lt_of_lt_of_le hlt hf.mrk),fun b arr e m hc=>hb.block b (Array.getElem?_eq_some_iff.1 hc).1⟩ fun b o hk=>?_
  rcases Nat.lt_or_ge b w.heap.size with hlt|hge
  ·exact .inl (h.wi.kold b o hlt id hk)
  ·exact .inr ⟨hge,h.wi.kok b o hk⟩
 ·have hk':=h.wi.kin b o hk
  exact⟨hk',hb.cell (p:=⟨b,o,none⟩) (lt_of_cell (hf.kok b o hk))⟩
theorem iw_pure{c:Code}{Q':Exit→DS→Prop}(hJ:Stab n J)(h:DW P c s.bare Q')(hq: ∀e s',Q' e s'→Q e s'.flat g):IW P m n J ro c s g Q:=by
 intro K a w hf hj
 refine wpIn_mono (h _ a w ⟨_,hf.rel ro⟩) ?_
 rintro e a' w' ⟨s',h1,h2⟩
 obtain⟨K',h3,h4,h5⟩:=flat_after hf hJ hj h2
 exact⟨_,g,K',hq _ _ h1,h3,h4,h5⟩
theorem iw_pureQ{c:Code}(hJ:Stab n J)(h:DW P c s.bare (fun e s'=>Q e s'.flat g)):IW P m n J ro c s g Q:=iw_pure hJ h fun _ _ h=>h
def DS.FSub(s s':DS):Prop:=s.n=s'.n∧∀t,s'.sl t= .any∨DLe (s.sl t) (s'.sl t)
theorem fsub_kn{s:DS}{N:Nat}{sls:List (Nat×D)}(hn:s.n=N)(h1:AllS s sls):s.FSub (kn N sls noMem):=⟨hn,AllS.get h1⟩
theorem Flat.sub{s':DS}{K:KSet}{a:Act}{w:World}(h:Flat m n s K a w)(hs:s.FSub s'):Flat m n s' K a w:=
 ⟨h.kok,fun t=>by
  rcases hs.2 t with e|e
  ·rw [e];exact .any _
  ·exact e w (E0 K) _ (h.sl t),h.size.trans hs.1,hs.1▸h.small,h.mrk,h.mn,h.defers⟩
theorem iw_loop{α:Type}{c:Code}(S:α→DS)(G:α→Option Nat)(Inv:α→Prop)(μ:α→Nat)(x0:α)(h0:s.FSub (S x0))(hg:g=G x0)(hi:Inv x0)
  (round: ∀x,Inv x→IW P m n J ro c (S x) (G x) (thenI (fun s' g'=>∃x',Inv x'∧μ x'<μ x∧s'.FSub (S x')∧g'=G x') Q)):IW P m n J ro (.loop c) s g Q:=by
 intro K a w hf hj b k cs hro hb hroom
 have key: ∀q x,μ x=q→Inv x→∀K a w,Flat m n (S x) K a w→J (G x) w K→
   ∃e a' w',(∃s' g' K',Q e s' g'∧Flat m n s' K' a' w'∧J g' w' K'∧Ext w K w' K')∧ArrivesIn (Machine.fenced P (rd ro)) P (lone (b.atR a (.code c:: .inLoop c::k)) cs w) b k cs e a' w':=by
  intro q
  induction q using Nat.strongRecOn with
  | _ q ih=>
   intro x hm hI K a w hf hj
   obtain⟨e,a₁,w₁,⟨s₁,g₁,K₁,hq,hf₁,hj₁,he₁⟩,harr⟩:=round x hI K a w hf hj b (.inLoop c::k) cs hro hb hroom
   cases e with
   | normal=>
    obtain⟨x',hI₁,hlt,hsub,rfl⟩:=hq
    obtain⟨e₂,a₂,w₂,⟨s₂,g₂,K₂,q1,q2,q3,q4⟩,harr₂⟩:=ih (μ x') (hm▸hlt) x' rfl hI₁ K₁ a₁ w₁ (hf₁.sub hsub) hj₁
    exact⟨e₂,a₂,w₂,⟨s₂,g₂,K₂,q1,q2,q3,he₁.trans q4⟩,.of_steps (StepsIn.trans harr (.one (fenced_calm hb hroom rfl) stepR_inLoop)) harr₂⟩
   | exit id=>exact⟨_,a₁,w₁,⟨s₁,g₁,K₁,hq,hf₁,hj₁,he₁⟩,.pass (x:=.inLoop c) rfl (fun _ _=>.inl (by simp)) harr⟩
   | goto l=>exact⟨_,a₁,w₁,⟨s₁,g₁,K₁,hq,hf₁,hj₁,he₁⟩,.pass (x:=.inLoop c) rfl (fun _ _=>.inl (by simp)) harr⟩
   | ret=>exact⟨_,a₁,w₁,⟨s₁,g₁,K₁,hq,hf₁,hj₁,he₁⟩,.pass (x:=.inLoop c) rfl (fun _ _=>.inl (by simp)) harr⟩
   | panic ch=>exact⟨_,a₁,w₁,⟨s₁,g₁,K₁,hq,hf₁,hj₁,he₁⟩,.pass (x:=.inLoop c) rfl (fun _ _=>.inl (by simp)) harr⟩
   | outgrown=>exact⟨_,a₁,w₁,⟨s₁,g₁,K₁,hq,hf₁,hj₁,he₁⟩,.pass (x:=.inLoop c) rfl (fun _ _=>.inl (by simp)) harr⟩
 obtain⟨e,a',w',hq,harr⟩:=key _ x0 rfl hi K a w (hf.sub h0) (hg▸hj)
 exact⟨e,a',w',hq,.of_steps (.one (fenced_calm hb hroom rfl) stepR_loop) harr⟩
/-! ### A region in which yield is called -/
def Yields(P:Program)(m n:Nat)(J:Option Nat→World→KSet→Prop)(l:Nat)(xs:List (List D)):Prop:=
 l<m∧∀(k:Nat) ds W L (va:Array Value),xs[k]? =some ds→J (some k) W L→n≤W.heap.size→va.size=ds.length→(∀(j:Nat) d v,ds[j]? =some d→va[j]? =some v→VD W (E0 L) d v)→
   YieldAt Fence.wide 0 P l va W fun e W'=>∃b,e= .returned (.bool b)∧J (if b then some (k+1)else none) W' L∧Keep m L W W'
def yieldD(P:Program)(ops:List Oper)(l:Nat)(xs:List (List D))(o:Oper)(s:DS)(g:Option Nat)(K:DS→Option Nat→Prop):Prop:=
 ∃t,wantD ops s.bare o=some t∧(t=false→K (s.put o.dst (.tup [])) g)∧
  (t=true→∃f args tys k ds,o.op= .call { callee:=.value f,args:=args,argTypes:=tys }∧s.ev f= .one (.c (.lit (.func (.yield l) #[] #[])))∧g=some k∧xs[k]? =some ds∧DLeL (args.toList.map s.ev) ds∧
   ∀b:Bool,K (s.put o.dst (.one (.c (.lit (.bool b))))) (if b then some (k+1)else none))
theorem Flat.put{K:KSet}{a:Act}{w w':World}(h:Flat m n s K a w)(hl: ∀b o,K b o→w'.cell? ⟨b,o,none⟩=w.cell? ⟨b,o,none⟩)(hsz:w.heap.size≤w'.heap.size)(hz:GSz w')
  (hD: ∀D:Nat,m≤D→w.heap[D]? =some (.deferred (some []))→w'.heap[D]? =some (.deferred (some []))) {dst:Option Nat} (hd: ∀d,dst=some d→d<s.n) {d:D} {v:Value} (hv:VD w' (E0 K) d v):Flat m n (s.put dst d) K (a.put dst v) w':=by
 have hla:Later w (E0 K) w' (E0 K):=⟨fun b o hb=>⟨hb,hl b o hb⟩,rfl,rfl⟩
 refine⟨h.kok.move hl hz,fun t=>?_,?_,by rw [put_n];exact h.small,Nat.le_trans h.mrk hsz,h.mn,?_⟩
 ·rw [getD_put a dst v t (fun d he=>by rw [h.size];exact hd d he)]
  cases dst with
  | none=>simpa [DS.put]using (h.sl t).mono hla
  | some d'=>
   by_cases he:t=d'
   ·subst he;simpa [DS.put]using hv
   ·have: ¬(some d'=some t):=by simpa using fun e=>he e.symm
    simp only [DS.put,if_neg he,if_neg this]
    exact(h.sl t).mono hla
 ·rw [show (a.put dst v).tmps.size=a.tmps.size from by cases dst<;>simp [Act.put],h.size,put_n]
 ·obtain⟨Ds,h1,h2,h3⟩:=h.defers
  exact⟨Ds,h1,by rw [show (a.put dst v).defers=a.defers from by cases dst<;>rfl];exact h2,fun D hDs=>⟨(h3 D hDs).1,hD D (h3 D hDs).1 (h3 D hDs).2⟩⟩
theorem roundIn_rd{ro:Option Nat}{l:Nat}{f:FuncId}{tmps:Array Value}{assign body:Code}{w:World}{R:Ending→World→Prop}(h:RoundIn Fence.wide 0 P l f tmps assign body w R):RoundIn (rd ro) (0 - 1) P l f tmps assign body w R:=by
 cases ro with
 | none=>exact h
 | some l=>exact h
theorem walk_pre{Q':Exit→Act→World→Prop}{ops r:List Oper}{X:Origin}{N:Nat}{K:DS→Prop}(hK: ∀s a w,s.n=N→K s→Rel X s a w→wpListIn (rd X.ro) 0 P ops.toArray Q' r a w): ∀(l:List Oper) (s:DS) (a:Act) (w:World),dstB l N=true→s.n=N→Rel X s a w→
  walkS P ops l s K→wpListIn (rd X.ro) 0 P ops.toArray Q' (l++r) a w
 | [],s,a,w,_,hn,hr,h=>hK s a w hn h hr
 | o::l,s,a,w,hb,hn,hr,h=>by
  obtain⟨h0,h1,h2⟩:=dstB_cons hb
  refine wpListIn_step fun K' hK'=>?_
  simp only [walkS,guardS]at h
  split at h
  ·rename_i t ht
   rw [wantD_ok ht hr]
   split at h
   ·rename_i h3
    rw [if_pos h3]
    refine wpIn_of_wp h0 (Oper.wp_mono ?_ (h (fun d hd=>by rw [hn];exact h1 d hd) X a w hr Q'))
    rintro a' w' ⟨s',⟨hn',hs'⟩,hr'⟩
    exact hK' _ _ (walk_pre hK l s' a' w' h2 (hn'.trans hn) hr' hs')
   ·rename_i h3
    rw [if_neg h3]
    refine⟨fun f _=>rd_fn X.ro f,?_⟩
    exact hK' _ _ (walk_pre hK l _ _ w h2 (by rw [put_n];exact hn) (putAny hr (fun d hd=>by rw [hn];exact h1 d hd)) h)
  ·exact h.elim
theorem dstB_sub{l l':List Oper}{N:Nat}(h:dstB l N=true)(hs: ∀x∈l',x∈l):dstB l' N=true:=
 List.all_eq_true.2 fun x hx=>List.all_eq_true.1 h x (hs x hx)
theorem yield_ok{l:Nat}{xs:List (List D)}(hY:Yields P m n J l xs){ops r:List Oper}{o:Oper}{N:Nat}{ro:Option Nat}{Kp:DS→Option Nat→Prop}{Q':Exit→Act→World→Prop}{K0:KSet}{w0:World}
  (hK: ∀s g K a w,s.n=N→Kp s g→Flat m n s K a w→J g w K→Ext w0 K0 w K→wpListIn (rd ro) 0 P ops.toArray Q' r a w) {K:KSet} {a:Act} {w:World} (hb:dstB [o] N=true) (hn:s.n=N) (hf:Flat m n s K a w) (hj:J g w K) (he:Ext w0 K0 w K)
  (h:yieldD P ops l xs o s g Kp):wpListIn (rd ro) 0 P ops.toArray Q' (o::r) a w:=by
 obtain⟨h0,h1,_⟩:=dstB_cons hb
 have hd: ∀d,o.dst=some d→d<s.n:=fun d hd=>by rw [hn];exact h1 d hd
 refine wpListIn_step fun K' hK'=>?_
 obtain⟨t,ht,hfa,htr⟩:=h
 have hrel:=hf.rel ro
 rw [wantD_ok ht ⟨_,hrel⟩]
 cases t with
 | false=>
  simp only [Bool.false_eq_true,if_false]
  refine⟨fun f _=>rd_fn ro f,hK' _ _ (hK _ g K _ w (by rw [put_n];exact hn) (hfa rfl) (hf.put (fun _ _ _=>rfl) (Nat.le_refl _) hf.kok.z (fun _ _ h=>h) hd ?_) hj he)⟩
  exact .tup [] #[] rfl (fun j d v h1 _=>by simp at h1)
 | true=>
  simp only [if_true]
  obtain⟨f,args,tys,k,ds,ho,hfv,rfl,hx,hle,hb2⟩:=htr rfl
  have hv:=hf.ev f
  rw [hfv]at hv
  have hfe:a.eval f= .func (.yield l) #[] #[]:=hv.lit
  obtain⟨hlen,hget⟩:=hle.get
  obtain⟨fn,tmps,assign,body,hy,hR⟩:=hY.2 k ds w K (args.map a.eval) hx hj hf.mrk (by rw [← hlen];simp) (fun j d v g1 g2=>by
   obtain⟨d0,g3,g4⟩:=hget j d g1
   refine g4 w _ v ?_
   rw [List.getElem?_map]at g3
   rw [Array.getElem?_map]at g2
   cases hc:args[j]? with
   | none=>rw [hc]at g2;cases g2
   | some x=>
    rw [Array.getElem?_toList]at g3
    rw [hc]at g2 g3
    injection g2 with g2;injection g3 with g3
    rw [← g2,← g3];exact hf.ev x)
  have hrun:(execOp a.eval o).run P w= .ok (.round l fn tmps assign body) w:=by
   unfold execOp
   simp only [ho,Sem.run_bind]
   have hres:(resolve a.eval { callee:=.value f,args:=args,argTypes:=tys } o.type).run P w= .ok { target:=.fn (.yield l) #[],args:=args.map a.eval } w:=by simp [resolve,hfe,Deferred.ofValue]
   rw [hres]
   simp only [Result.andThen_ok,invoke]
   exact hy
  refine⟨fun f _=>rd_fn ro f,?_⟩
  rw [rd_round,Oper.semAt_eq ro _ o h0,hrun,Oper.uponIn_round]
  refine⟨fun e=>(by rw [rd_depth]at e;cases e),(roundIn_rd hR).mono ?_⟩
  rintro e W' ⟨b,rfl,q1,q2⟩
  have hln:=hY.1
  exact hK' _ _ (hK _ _ K _ W' (by rw [put_n];exact hn) (hb2 b) (hf.put q2.cells q2.size (q2.z hf.kok.z) (fun D hD hh=>q2.others D _ hD hh (by simp)) hd (.one _ _ (.c _ _ (.lit _ rfl)))) q1
   (he.trans fun b o hb=>⟨hb,q2.cells b o hb⟩))
theorem iw_region(hJ:Stab n J){l:Nat}{xs:List (List D)}(hY:Yields P m n J l xs){id:Nat}{ops:List Oper}(i:Nat){o:Oper}(ho:ops[i]? =some o)(hb:dstB ops s.n=true)
  (h:wk P (ops.map (·.dst)) (tagS (ops.take i)) s.bare fun s1=>yieldD P ops l xs o s1.flat g fun s2 g2=>wk P (ops.map (·.dst)) (tagS (ops.drop (i+1))) s2.bare fun s3=>Q .normal s3.flat g2):IW P m n J ro (.region id ops.toArray false) s g Q:=by
 intro K a w hf hj
 have hi:i<ops.length:=(List.getElem?_eq_some_iff.1 ho).1
 have hsp:ops=ops.take i++(o::ops.drop (i+1)):=by
  have:o=ops[i]:=by rw [List.getElem?_eq_getElem hi]at ho;injection ho with ho;exact ho.symm
  rw [this,← List.drop_eq_getElem_cons hi,List.take_append_drop]
 have hol:o∈ops:=List.mem_of_getElem? ho
 refine wpIn_region_lit ?_
 conv=>arg 6;rw [hsp]
 refine walk_pre (X:=⟨w,K,fun _ _=>False,(E0 K).ρ,NB,ro,m⟩) (N:=s.n) (fun s1 a1 w1 hn1 hs1 hr1=>?_) (ops.take i) s.bare a w (dstB_sub hb fun x hx=>List.mem_of_mem_take hx) rfl ⟨_,hf.rel ro⟩ (wk_walkS _ _ h)
 obtain⟨K1,q1,q2,q3⟩:=flat_after hf hJ hj hr1
 refine yield_ok (s:=s1.flat) (N:=s.n) (w0:=w) (K0:=K) hY (fun s2 g2 K2 a2 w2 hn2 hs2 hf2 hj2 he2=>?_) (dstB_sub hb fun x hx=>by simp at hx;exact hx▸hol) hn1 q1 q2 q3 hs1
 have:=walk_pre (X:=⟨w2,K2,fun _ _=>False,(E0 K2).ρ,NB,ro,m⟩) (N:=s.n) (r:= []) (Q':=fun e a' w'=>∃s' g' K',Q e s' g'∧Flat m n s' K' a' w'∧J g' w' K'∧Ext w K w' K') (fun s3 a3 w3 _ hs3 hr3=>?_) (ops.drop (i+1)) s2.bare a2 w2 (dstB_sub hb fun x hx=>List.mem_of_mem_drop hx) hn2 ⟨_,hf2.rel ro⟩ (wk_walkS _ _ hs2)
 ·rw [List.append_nil]at this;exact this
 ·obtain⟨K3,p1,p2,p3⟩:=flat_after hf2 hJ hj2 hr3
  exact wpListIn_nil ⟨_,g2,K3,hs3,p1,p2,he2.trans p3⟩
def iterQ(N:Nat):Exit→DS→Option Nat→Prop
 | .normal,_,g| .ret,_,g=>g=some N∨g=none
 | _,_,_=>False
theorem seqD_intro{f:FuncId}{fn:Func}{c:Code}{caps:List D}{xs:List (List D)}(hp:Program.plainF P f=true)(hf:P.funcs[f]? =some fn)(hb:fn.body=some c)(hres:fn.results.toList= [])(hn:caps.length+1≤fn.ntmps)(hN:fn.ntmps≤NB)
  (h: ∀(n l:Nat) (J:Option Nat→World→KSet→Prop),Stab n J→Yields P n n J l xs→IW P n n J none c (initE fn.ntmps (.one (.c (.lit (.func (.yield l) #[] #[])))::caps) noMem) (some 0) (iterQ xs.length)):SeqD P f caps xs:=by
 refine⟨hp,fun w K vs hk hl hv l J hlw hJ hY h0=>?_⟩
 refine callsIn_of_wp_marks hf hb trivial ?_
 have hflat:Flat w.heap.size w.heap.size (initE fn.ntmps (.one (.c (.lit (.func (.yield l) #[] #[])))::caps) noMem) K { tmps:=(#[Value.func (.yield l) #[] #[]]++vs)++Array.replicate (fn.ntmps - (#[Value.func (.yield l) #[] #[]]++vs).size) undef,defers:= [] } w:=by
  refine⟨hk,fun t=>?_,?_,hN,Nat.le_refl _,Nat.le_refl _,⟨[],.nil,rfl,fun _ h=>by cases h⟩⟩
  ·simp only [initE]
   cases t with
   | zero=>
    have h3:((#[Value.func (.yield l) #[] #[]]++vs)++Array.replicate (fn.ntmps - (#[Value.func (.yield l) #[] #[]]++vs).size) undef).getD 0 undef= .func (.yield l) #[] #[]:=by
     simp [Array.getElem?_append]
    rw [h3]
    exact .one _ _ (.c _ _ (.lit _ rfl))
   | succ t=>
    by_cases ht:t<caps.length
    ·have h1:caps[t]? =some (caps.getD t .any):=by simp [List.getD,ht]
     have h2:vs[t]? =some (vs[t]'(by omega)):=Array.getElem?_eq_getElem (by omega)
     have h3:((#[Value.func (.yield l) #[] #[]]++vs)++Array.replicate (fn.ntmps - (#[Value.func (.yield l) #[] #[]]++vs).size) undef).getD (t+1) undef=vs[t]'(by omega):=by
      have:t<vs.size:=by omega
      simp [Array.getElem?_append,this]
     rw [h3]
     simpa using hv t _ _ h1 h2
    ·have:(D.one (.c (.lit (.func (.yield l) #[] #[])))::caps).getD (t+1) .any= .any:=by simp [List.getD,List.getElem?_eq_none (Nat.le_of_not_lt ht)]
     rw [this];exact .any _
  ·simp [initE];omega
 refine wpIn_mono (h w.heap.size l J hJ ⟨hlw,hY⟩ K _ w hflat h0) ?_
 rintro e a' w' ⟨s',g',K',hq,hf',hj',_⟩
 have key: ∀(Ds:List Nat) (w':World),Ds.Nodup→J g' w' K'→(∀D∈Ds,w.heap.size≤D∧w'.heap[D]? =some (.deferred (some [])))→(g'=some xs.length∨g'=none)→
   LeavesInM Fence.wide 0 P fn a'.tmps (fun e W'=>(∃v,e= .returned v)∧∃L,J (some xs.length) W' L∨J none W' L) (Ds.map (fun D=>{ target:=.collected D,args:= #[] })) .returning w':=by
  intro Ds
  induction Ds with
  | nil=>
   intro w' _ hj _ hg
   refine⟨.tuple #[],?_,⟨_,rfl⟩,K',?_⟩
   ·rw [results_eq]
    have:fn.results= #[]:=by rw [← Array.toList_eq_nil_iff];exact hres
    rw [this];simp
   ·rcases hg with rfl|rfl
    ·exact .inl hj
    ·exact .inr hj
  | cons D Ds ih=>
   intro w' hnd hj hD hg
   obtain⟨h1,h2⟩:=List.nodup_cons.1 hnd
   obtain⟨h3,h4⟩:=hD D (by simp)
   refine⟨by simp,.inl ⟨D,_,rfl,run_takeDeferred h4,ih _ h2 (hJ _ _ _ K' K' hj (Hush.putObj _ h3 h4 (by simp)) fun _ _ h=>.inl h) (fun D' hD'=>?_) hg⟩⟩
   obtain⟨g1,g2⟩:=hD D' (by simp [hD'])
   exact⟨g1,(World.putObj_heap_other (show D'≠D from fun e=>h1 (by rw [← e];exact hD'))).trans g2⟩
 obtain⟨Ds,hnd,hds,hD⟩:=hf'.defers
 have hpost:iterQ xs.length e s' g'→e= .normal∨e= .ret→LeavesInM Fence.wide 0 P fn a'.tmps (fun e W'=>(∃v,e= .returned v)∧∃L,J (some xs.length) W' L∨J none W' L) a'.defers .returning w':=fun hq he=>by
  rw [hds]
  refine key Ds w' hnd hj' hD ?_
  rcases he with rfl|rfl<;>exact hq
 cases e with
 | normal=>exact hpost hq (.inl rfl)
 | ret=>exact hpost hq (.inr rfl)
 | _=>exact hq.elim
@[go_sem] theorem thenI_normal{next:DS→Option Nat→Prop}{s:DS}{g:Option Nat}:thenI next Q .normal s g=next s g:=rfl
@[go_sem] theorem thenI_ret{next:DS→Option Nat→Prop}{s:DS}{g:Option Nat}:thenI next Q .ret s g=Q .ret s g:=rfl
@[go_sem] theorem thenI_exit{next:DS→Option Nat→Prop}{s:DS}{g:Option Nat}{i:Nat}:thenI next Q (.exit i) s g=Q (.exit i) s g:=rfl
@[go_sem] theorem inBlockI_normal{s:DS}{g:Option Nat}{i:Nat}:inBlockI i Q .normal s g=Q .normal s g:=rfl
@[go_sem] theorem inBlockI_ret{s:DS}{g:Option Nat}{i:Nat}:inBlockI i Q .ret s g=Q .ret s g:=rfl
@[go_sem] theorem inBlockI_exit{s:DS}{g:Option Nat}{i j:Nat}:inBlockI i Q (.exit j) s g=if j=i then Q .normal s g else Q (.exit j) s g:=rfl
attribute [go_sem] DS.flat DS.bare noName
end
end
end Go.Dl
/- The logic of data: a loop over a function in the text of an iterator. -/
namespace Go.Dl
open Go.RowKit
noncomputable section
section
variable {P : Program} {m n : Nat} {J : Option Nat → World → KSet → Prop} {s : DS} {Q : Exit → DS → Option Nat → Prop}
theorem Flat.puts{K:KSet}{w:World}: ∀(l:List (Nat×Value×D)) (s:DS) (a:Act),Flat m n s K a w→(∀p∈l,p.1<s.n∧VD w (E0 K) p.2.2 p.2.1)→
  Flat m n (s.puts (l.map fun p=>(p.1,p.2.2))) K { a with tmps:=(l.map fun p=>(p.1,p.2.1)).foldl (fun t p=>t.setIfInBounds p.1 p.2) a.tmps } w
 | [],s,a,h,_=>h
 | p::l,s,a,h,hl=>by
  obtain⟨h1,h2⟩:=hl p (by simp)
  have h3:=h.put (dst:=some p.1) (fun _ _ _=>rfl) (Nat.le_refl _) h.kok.z (fun _ _ h=>h) (fun d hd=>by injection hd with hd;subst hd;exact h1) h2
  exact Flat.puts l _ _ h3 (fun q hq=>by rw [put_n];exact hl q (by simp [hq]))
theorem Flat.move{K K':KSet}{a a':Act}{w w':World}{m' n':Nat}(h:Flat m n s K a w)(he:Ext w K w' K')(hk:KOk w' K')(ht:a'.tmps=a.tmps)(hn:n'≤w'.heap.size)(hmn:m'≤n')
  (hd: ∃Ds:List Nat,Ds.Nodup∧a'.defers=Ds.map (fun D=>{ target:=.collected D,args:= #[] })∧∀D∈Ds,m'≤D∧w'.heap[D]? =some (.deferred (some []))):Flat m' n' s K' a' w':=
 ⟨hk,fun t=>by rw [ht];exact(h.sl t).mono he.later,by rw [ht];exact h.size,h.small,hn,hmn,hd⟩
theorem Hush.ext{q:Nat}{w w':World}(c:Hush q w w'){K K':KSet}(hk:KOk w K)(hK: ∀b o,K b o→K' b o):Ext w K w' K':=fun b o hb=>by
 obtain⟨arr,e,m,h⟩:=cells_of_cell (hk b o hb)
 exact⟨hK b o hb,World.cell?_of_block (w:=w) (a:=⟨b,o,none⟩) (c.cells b arr e m h)⟩
end
end
end Go.Dl
/- The logic of data: memory given up for good, for simp; steps of an iterator's text behind which less is known. -/
namespace Go.Dl
open Go.RowKit
noncomputable section
theorem sub_frz{s:DS}(n sz:Nat)(cs:List (List C))(js:Rows)(hpos:0<sz)(hn:s.bx n=some (cs.map (List.map T.c)++js))(hz: ∀r∈cs,r.length=sz):s.Sub (s.frz n sz cs):=
 fun _ _ _ ⟨_,hE⟩=>hE.frz hpos hn hz
theorem sub_frz1{s:DS}(n:Nat)(cs:List C)(hpos:0<cs.length)(hn:s.bx n=some [cs.map T.c]):s.Sub (s.frz n cs.length [cs]):=
 sub_frz n cs.length [cs] [] hpos (by simpa using hn) (by simp)
theorem dw_frz1{P:Program}{c:Code}{s:DS}{Q:Exit→DS→Prop}(n:Nat)(cs:List C)(hpos:0<cs.length)(hn:s.bx n=some [cs.map T.c])(h:DW P c (s.frz n cs.length [cs]) Q):DW P c s Q:=
 dw_weaken (sub_frz1 n cs hpos hn) h
theorem frz_sl(s:DS)(n sz:Nat)(cs:List (List C))(t:Nat):(s.frz n sz cs).sl t=(s.sl t).frz n sz cs:=rfl
theorem frz_bx(s:DS)(n sz:Nat)(cs:List (List C))(k:Nat):(s.frz n sz cs).bx k=if k=n then none else(s.bx k).map (List.map (T.frzAll n sz cs)):=rfl
section
variable {P : Program} {m n : Nat} {J : Option Nat → World → KSet → Prop} {s : DS} {g ro : Option Nat} {Q : Exit → DS → Option Nat → Prop}
end
theorem sub_nilAt{s:DS}(m sz:Nat)(hm:s.bx m=some [[.c (.lit (.slice none 0 0))]]):s.Sub (s.setBx m (some [[.ex sz []]])):=
 sub_box m hm rfl fun i r r' h1 h2=>by
  cases i with
  | succ i=>simp at h1
  | zero=>
   simp at h1 h2
   subst h1;subst h2
   refine⟨rfl,fun w E j t t' v h1 h2 hv=>?_⟩
   cases j with
   | succ j=>simp at h1
   | zero=>
    simp at h1 h2
    subst h1;subst h2
    cases hv with|c c v hv=>cases hv with|lit v h=>exact .ex sz [] _ (.nil sz) ⟨none,0,rfl⟩
theorem dw_rng0{P:Program}{s:DS}{Q:Exit→DS→Prop}{c:Code}{α:Type}(xs:List α)(S:Nat→DS)(hmax:xs.length≤maxLen)(h0:s.Sub (S 0))
  (body: ∀k x,xs[k]? =some x→k<xs.length→x∈xs→xs.take (k+1)=xs.take k++ [x]→decide ((k:Int)<(xs.length:Int))=true→IntKind.i64.wrap ((k:Int)+1)=((k+1:Nat):Int)→
   DW P c (S k) (thenD (fun s'=>s'.Sub (S (k+1))) Q))
  (done:decide ((xs.length:Int)<(xs.length:Int))=false→DW P c (S xs.length) (thenD (fun _=>False) Q)):DW P (.loop c) s Q:=
 dw_rng xs (fun k (_:Unit)=>S k) (fun _ _=>True) () hmax h0 trivial (fun k x _ h1 h2 h3 h4 h5 h6 _=>(body k x h1 h2 h3 h4 h5 h6).mono fun e s' h=>by
  cases e with
  | normal=>exact⟨(),trivial,h⟩
  | _=>exact h) (fun _ h _=>done h)
theorem dw_rngI{P:Program}{s:DS}{Q:Exit→DS→Prop}{c:Code}{α:Type}(xs:List α)(S:Nat→DS)(Inv:Nat→Prop)(hmax:xs.length≤maxLen)(h0:s.Sub (S 0))(hi0:Inv 0)
  (body: ∀k x,xs[k]? =some x→k<xs.length→x∈xs→xs.take (k+1)=xs.take k++ [x]→decide ((k:Int)<(xs.length:Int))=true→IntKind.i64.wrap ((k:Int)+1)=((k+1:Nat):Int)→Inv k→
   DW P c (S k) (thenD (fun s'=>Inv (k+1)∧s'.Sub (S (k+1))) Q))
  (done:decide ((xs.length:Int)<(xs.length:Int))=false→Inv xs.length→DW P c (S xs.length) (thenD (fun _=>False) Q)):DW P (.loop c) s Q:=
 dw_rng xs (fun k (_:Unit)=>S k) (fun k _=>Inv k) () hmax h0 hi0 (fun k x _ h1 h2 h3 h4 h5 h6 h7=>(body k x h1 h2 h3 h4 h5 h6 h7).mono fun e s' h=>by
  cases e with
  | normal=>exact⟨(),h⟩
  | _=>exact h) (fun _ h h7=>done h h7)
theorem CallC.sub{P:Program}{s s':DS}{f:Operand}{args:List Operand}{tys:Array TypeId}{dst:Option Nat}{ty:TypeId}{pos:String}{aft:Array Edge}{F:D}{A:List D}{ds:List (Option Nat)}{l:List (Mode×Oper)}{K:DS→Prop}
  (hs:s.Sub s') (hn:s'.n=s.n) (h:CallC .step P ⟨dst,.call ⟨.value f,args.toArray,tys⟩,ty,pos,aft,none⟩ (s'.ev f) (args.map s'.ev) s' dst ds l K):
  CallC .step P ⟨dst,.call ⟨.value f,args.toArray,tys⟩,ty,pos,aft,none⟩ F A s dst ds l K:=by
 have h1:Step P ⟨dst,.call ⟨.value f,args.toArray,tys⟩,ty,pos,aft,none⟩ s' fun s'=>wk P ds l s' K:=by
  have:opW .step P ⟨dst,.call ⟨.value f,args.toArray,tys⟩,ty,pos,aft,none⟩ s' fun s'=>wk P ds l s' K:=by
   unfold CallC at h
   simpa [opW]using h
  cases opW_ok this with
  | step h=>exact h
 refine CallC.step fun hd X a w hr Q=>?_
 refine Oper.wp_mono ?_ (h1 (fun d hd'=>by rw [hn];exact hd d hd') X a w (hs X a w hr) Q)
 rintro a' w' ⟨s2,⟨g1,g2⟩,g3⟩
 exact⟨s2,⟨g1.trans hn,g2⟩,g3⟩
theorem CallC.frz{P:Program}{s:DS}{f:Operand}{args:List Operand}{tys:Array TypeId}{dst:Option Nat}{ty:TypeId}{pos:String}{aft:Array Edge}{F:D}{A:List D}{ds:List (Option Nat)}{l:List (Mode×Oper)}{K:DS→Prop}
  (n:Nat) (cs:List C) (hpos:0<cs.length) (hn:s.bx n=some [cs.map T.c]) (h:CallC .step P ⟨dst,.call ⟨.value f,args.toArray,tys⟩,ty,pos,aft,none⟩ ((s.frz n cs.length [cs]).ev f) (args.map (s.frz n cs.length [cs]).ev) (s.frz n cs.length [cs]) dst ds l K):
  CallC .step P ⟨dst,.call ⟨.value f,args.toArray,tys⟩,ty,pos,aft,none⟩ F A s dst ds l K:=
 CallC.sub (sub_frz1 n cs hpos hn) rfl h
/-! ### Rounds, for simp -/
theorem midM_noMid(k:Nat):midM noMid k=False:=eq_false (not_noMid k)
theorem callMemM_noMid(bx:Mem)(ns:List Nat)(k:Nat):callMemM noMid bx ns k=if NB≤k∧k - NB∈ns then(bx (k - NB)).map (Rows.tr (shfM noMid ns))else none:=by
 unfold callMemM;simp only [midM_noMid,if_false]
theorem callMemAftM_noMid(bx H':Mem)(ns:List Nat)(m:Option Nat)(k:Nat):callMemAftM noMid bx H' ns m k=
  if m=some k then(H' 0).map (Rows.tr (usfM noMid ns m))else if k∈ns then(H' (k+NB)).map (Rows.tr (usfM noMid ns m))else(bx k).map (Rows.tr (aftM noMid ns m)):=by
 unfold callMemAftM;simp only [midM_noMid,if_false]
theorem nb_ne(a k:Nat)(h:k<100000):(a+NB=k)=False:=eq_false (by have:=NB_big;omega)
theorem nb_ne'(a k:Nat)(h:k<100000):(k=a+NB)=False:=eq_false (by have:=NB_big;omega)
theorem nb_le(a:Nat):(NB≤a+NB)=True:=eq_true (Nat.le_add_left _ _)
theorem nb_nle(k:Nat)(h:k<100000):(NB≤k)=False:=eq_false (by have:=NB_big;omega)
theorem nb_sub(a:Nat):a+NB - NB=a:=Nat.add_sub_cancel a NB
theorem nb_inj(a b:Nat):(a+NB=b+NB)=(a=b):=by simp
theorem nb_zero(a:Nat):(a+NB=0)=False:=eq_false (by have:=NB_big;omega)
theorem roundQ_normal(ms:Nat→Bool)(ns:List Nat)(s:DS)(N:DS→Prop)(Q:Exit→DS→Prop)(t:DS):roundQ ms ns s N Q .normal t=N (s.aftCallM ms ns none (.tup []) t.bx):=rfl
theorem roundQ_ret(ms:Nat→Bool)(ns:List Nat)(s:DS)(N:DS→Prop)(Q:Exit→DS→Prop)(t:DS):roundQ ms ns s N Q .ret t=Q .ret (s.aftCallM ms ns none (.tup []) t.bx):=rfl
theorem roundQ_exit(ms:Nat→Bool)(ns:List Nat)(s:DS)(N:DS→Prop)(Q:Exit→DS→Prop)(t:DS)(i:Nat):roundQ ms ns s N Q (.exit i) t=Q (.exit i) (s.aftCallM ms ns none (.tup []) t.bx):=rfl
theorem round_sl(ms:Nat→Bool)(s:DS)(ns:List Nat)(t:Nat):(s.round0 ms ns).sl t=(s.sl t).tr (shfM ms ns):=rfl
theorem round_bx(ms:Nat→Bool)(s:DS)(ns:List Nat)(t:Nat):(s.round0 ms ns).bx t=callMemM ms s.bx ns t:=rfl
def oneMid:Nat→Bool:=fun k=>k==1000
theorem midM_oneMid(k:Nat):midM oneMid k=(k=1000):=by
 have:=NB_big
 apply propext
 simp only [midM,oneMid,beq_iff_eq]
 constructor
 ·exact fun h=>h.2.2
 ·rintro rfl;exact⟨Nat.le_refl _,by omega,rfl⟩
theorem callMemM_oneMid(bx:Mem)(ns:List Nat)(k:Nat):callMemM oneMid bx ns k=if NB≤k∧k - NB∈ns then(bx (k - NB)).map (Rows.tr (shfM oneMid ns))else if k=1000 then(bx k).map (Rows.tr (shfM oneMid ns))else none:=by
 unfold callMemM;simp only [midM_oneMid]
theorem callMemAftM_oneMid(bx H':Mem)(ns:List Nat)(m:Option Nat)(k:Nat):callMemAftM oneMid bx H' ns m k=
  if m=some k then(H' 0).map (Rows.tr (usfM oneMid ns m))else if k∈ns then(H' (k+NB)).map (Rows.tr (usfM oneMid ns m))else if k=1000 then(H' k).map (Rows.tr (usfM oneMid ns m))else(bx k).map (Rows.tr (aftM oneMid ns m)):=by
 unfold callMemAftM;simp only [midM_oneMid]
attribute [go_sem] midM_oneMid callMemM_oneMid callMemAftM_oneMid
theorem puts_nil(s:DS):s.puts []=s:=rfl
theorem puts_cons(s:DS)(u:Nat)(d:D)(l:List (Nat×D)):s.puts ((u,d)::l)=(s.put (some u) d).puts l:=rfl
theorem round_puts(ms:Nat→Bool)(s:DS)(ns ps:List Nat)(ds:List D):s.round ms ns ps ds=(s.round0 ms ns).puts (ps.zip (ds.map (D.tr noName))):=rfl
attribute [go_sem] midM_noMid callMemM_noMid callMemAftM_noMid nb_ne nb_ne' nb_le nb_nle nb_sub nb_inj nb_zero roundQ_normal roundQ_ret roundQ_exit round_sl round_bx round_puts puts_nil puts_cons Nat.add_eq_zero_iff List.mem_cons
theorem dw_rf{P:Program}{s:DS}{Q:Exit→DS→Prop}{g:Operand}{ps:List Tmp}{assign body:Code}{gf:FuncId}{caps:List T}{xs:List (List D)}{σ:Type}(N:Nat)(ms:Nat→Bool)(ns:List Nat)(S:Nat→σ→DS)(Inv:Nat→σ→Prop)(st0:σ)(hi0:Inv 0 st0)(hsn:s.n=N)(hpl:s.pl=true)
  (hd:(decide (N≤1000)&&(ps.all fun p=>decide (p<N))&&ns.all fun k=>decide (k<1000))=true) (hg:(s.ev g).asFn=some (gf,caps)) (hseq:SeqD P gf (caps.map fun t=>.one (.c t.cl)) xs) (h0:s.Sub (S 0 st0)) (hn: ∀k st,(S k st).n=N) (hxs: ∀ds∈xs,ds.length=ps.length)
  (hround: ∀k ds st,xs[k]? =some ds→Inv k st→DW P assign ((S k st).round ms ns ps ds) (thenD (fun s1=>DW P body s1 (roundQ ms ns (S k st) (fun s'=>∃st',Inv (k+1) st'∧s'.Sub (S (k+1) st')) Q)) (fun _ _=>False)))
  (hdone: ∀st,Inv xs.length st→Q .normal (S xs.length st)):DW P (.rangeFunc g ps.toArray assign body) s Q:=by
 simp only [Bool.and_eq_true,decide_eq_true_eq,List.all_eq_true]at hd
 subst hsn
 exact dw_rangeFunc ms ns S Inv st0 hi0 hpl hg hseq h0 hn hd.1.1 (by simpa using hd.1.2) (by simpa using hxs) ⟨fun n hn h=>by have:=hd.2 n hn;have:=h.1;omega,fun x h=>by cases h⟩ (by simpa using hround) hdone
theorem dw_rfS{P:Program}{s:DS}{Q:Exit→DS→Prop}{g:Operand}{ps:List Tmp}{assign body:Code}{gf:FuncId}{caps:List T}{xs:List (List D)}{σ:Type}(N:Nat)(ms:Nat→Bool)(ns:List Nat)(S:Nat→σ→DS)(Inv:Nat→σ→Prop)(st0:σ)(hi0:Inv 0 st0)(hsn:s.n=N)(hpl:s.pl=true)
  (hd:(decide (N≤1000)&&(ps.all fun p=>decide (p<N))&&ns.all fun k=>decide (k<1000))=true) (hg:(s.ev g).asFn=some (gf,caps)) (hseq:SeqD P gf (caps.map fun t=>.one (.c t.cl)) xs) (h0:s.Sub (S 0 st0)) (hn: ∀k st,(S k st).n=N) (hxs: ∀ds∈xs,ds.length=ps.length)
  (hround: ∀k ds st,xs[k]? =some ds→Inv k st→DW P assign ((S k st).round ms ns ps ds) (thenD (fun s1=>DW P body s1 (fun e t=>∃t2,t.Sub t2∧roundQ ms ns (S k st) (fun s'=>∃st',Inv (k+1) st'∧s'.Sub (S (k+1) st')) Q e t2)) (fun _ _=>False)))
  (hdone: ∀st,Inv xs.length st→Q .normal (S xs.length st)):DW P (.rangeFunc g ps.toArray assign body) s Q:=by
 refine dw_rf N ms ns S Inv st0 hi0 hsn hpl hd hg hseq h0 hn hxs (fun k ds st h1 h2=>(hround k ds st h1 h2).mono fun e t ht=>?_) hdone
 cases e with
 | normal=>exact dw_post ht
 | _=>exact ht
attribute [go_sem] frz_sl frz_bx D.frz D.frzAll T.frz T.frzAll frzBx fnTT
attribute [go_sem] Option.pure_def Option.bind_eq_bind
attribute [go_sem] List.zip_cons_cons List.zip_nil_left
end
end Go.Dl
/- The logic of data: the library's sort of numbers, in memory handed over. -/
namespace Go.Dl
open Go.RowKit Go.Sort
noncomputable section
def iRows(xs:List Int):Rows:=xs.map fun x=> [T.c (.lit (.int .i64 x))]
theorem iRows_get{xs:List Int}{i:Nat}{x:Int}(h:xs[i]? =some x):(iRows xs)[i]? =some [T.c (.lit (.int .i64 x))]:=by simp [iRows,h]
theorem WI.rel{X:Origin}{w:World}{E:Env}{H:Mem}(h:WI X w E H)(hm:X.mrk≤X.w.heap.size)(hB:NB≤X.B):RelE X { n:=0,sl:=fun _=>.any,bx:=H,pl:=false } E { tmps:= #[],defers:= [] } w:=
 ⟨h,fun _=>.any _,rfl,DefOK.nil _ _ hm,⟨Nat.zero_le _,hB⟩,fun h=>by cases h⟩
theorem sort_E{P:Program}{f:FuncId}(hp:Program.plainF P f=true)
  (hs: ∀(blk off cap:Nat) (zs:List Int) (w:World),Holds (Value.int .i64) w blk off zs.toArray→blk<w.heap.size→zs.length<4611686018427387904→
   Calls P f #[.slice (some ⟨blk,off,none⟩) zs.length cap] w fun e w'=>e= .returned (.tuple #[])∧∃n os,w'=grow (putRow (Value.int .i64) (Sort.ahead w n) blk off (zs.mergeSort fun x y=>decide (x≤y)).toArray) os)
  (hnone: ∀(p:Option Addr) (cap:Nat) (w:World),Calls P f #[.slice p 0 cap] w fun e w'=>e= .returned (.tuple #[])∧w'=w)
  (q cap:Nat) (H:Mem) (xs:List Int) (js:Rows) (hq:H q=some (iRows xs++js)) (hjs:RowsSz 1 js) (hl:xs.length<4611686018427387904):
  ECalls P f [.one (.ba q 1 0 xs.length cap)] H (fun r H'=>r= .tup []∧H'=fun k=>if k=q then some (iRows (xs.mergeSort fun x y=>decide (x≤y))++js)else H k):=by
 refine⟨hp,fun w E F vs hwi hsz hv=>?_⟩
 obtain⟨v,rfl⟩: ∃v,vs= #[v]:=by
  have:vs.size=1:=hsz
  refine⟨vs[0],?_⟩
  apply Array.ext
  ·simp [this]
  ·intro i h1 h2
   have h2':i<1:=h2
   obtain rfl:i=0:=by omega
   rfl
 have hv0:=hv 0 _ v rfl rfl
 by_cases h0:xs= []
 ·subst h0
  have hvs: ∃p c,v= .slice p 0 c:=by
   cases hv0 with|one t v hv0=>cases hv0 with
    | ba n sz i len cap h hm=>exact⟨_,_,rfl⟩
    | bz n sz i A=>exact⟨_,_,rfl⟩
  obtain⟨p,c,rfl⟩:=hvs
  refine(hnone p c w).mono ?_
  rintro e w' ⟨rfl,rfl⟩
  refine⟨_,E,.tup [],_,rfl,⟨rfl,rfl⟩,?_,.tup [] #[] rfl (fun j d v h1 _=>by simp at h1)⟩
  have:(fun k=>if k=q then some (iRows ([].mergeSort fun x y=>decide (x≤y))++js)else H k)=H:=by
   funext k;split
   ·rename_i hk;subst hk;simpa using hq.symm
   ·rfl
  rw [this];exact hwi
 ·have hvs: ∃c,v= .slice (some ⟨E.ρ q,0,none⟩) xs.length c:=by
   have hpos:0<xs.length:=List.length_pos_iff.2 h0
   generalize hle:xs.length=len at hv0 hpos
   cases hv0 with|one t v hv0=>cases hv0 with
    | ba n sz i len cap h hm=>exact⟨cap,by simp⟩
    | bz n sz i A=>omega
  obtain⟨c,rfl⟩:=hvs
  have hne:iRows xs++js≠ []:=by simp [iRows,h0]
  obtain⟨g1,g2,g3⟩:=hwi.boxes q _ hq hne
  obtain⟨arr,e,k1,k2⟩:=g2.rowsIs
  obtain⟨sz,k3⟩:=k2.lst
  have hsz1:sz=1:=by
   have hm: ∃r∈iRows xs,r.length=1:=by
    cases xs with
    | nil=>exact absurd rfl h0
    | cons x xs=>exact⟨_,List.mem_cons_self,rfl⟩
   obtain⟨r,hr,hr1⟩:=hm
   rw [← k3.row r (List.mem_append_left _ hr)];exact hr1
  subst hsz1
  have hlen:arr.size=xs.length+js.length:=by
   have:=k3.len
   simp [iRows]at this;exact this
  have harr: ∀j x,xs[j]? =some x→arr[j]? =some (Value.int .i64 x):=fun j x hj=>by
   have hjl:j<xs.length:=(List.getElem?_eq_some_iff.1 hj).1
   have hja:j<arr.size:=by omega
   have:=k3.is j 0 [T.c (.lit (.int .i64 x))] _ arr[j] (by rw [List.getElem?_append_left (by simpa [iRows]using hjl)];exact iRows_get hj) rfl (by simp [hja])
   rw [Array.getElem?_eq_getElem hja]
   have hd:VD w E (.one (.c (.lit (.int .i64 x)))) arr[j]:=.one _ _ this
   rw [hd.lit]
  have hblt:E.ρ q<w.heap.size:=(Array.getElem?_eq_some_iff.1 k1).1
  have hH:Holds (Value.int .i64) w (E.ρ q) 0 xs.toArray:=fun j hj=>by
   have hj':j<xs.length:=by simpa using hj
   refine⟨?_,by simp [World.frozen?,k1]⟩
   have:=harr j xs[j] (List.getElem?_eq_getElem hj')
   simp [World.cell?,k1,this,hj']
  refine(hs (E.ρ q) 0 c xs w hH hblt hl).mono ?_
  rintro en w' ⟨rfl,n,os,rfl⟩
  obtain⟨ts,hts⟩: ∃ts,ts=xs.mergeSort fun x y=>decide (x≤y):=⟨_,rfl⟩
  have htl:ts.length=xs.length:=by rw [hts];exact List.length_mergeSort _
  rw [← hts]
  obtain⟨arr',harr'⟩: ∃arr',arr'=putCells (Value.int .i64) 0 ts.toArray arr:=⟨_,rfl⟩
  have hsz':arr'.size=arr.size:=by rw [harr'];simp [putCells]
  have hrow:RowSet w (putRow (Value.int .i64) (Sort.ahead w n) (E.ρ q) 0 ts.toArray) (E.ρ q) e arr arr':=by
   refine⟨k1,?_,hsz',by simp [putRow,mapBlock,Sort.ahead],fun k hk=>?_,rfl,rfl,rfl⟩
   ·simp [putRow,mapBlock,Sort.ahead,Array.getElem?_modify,k1,onCells,harr']
   ·simp [putRow,mapBlock,Sort.ahead,Array.getElem?_modify,Ne.symm hk]
  have hv':RowsIs w E arr' (iRows ts++js):=by
   refine⟨1,fun r hr=>?_,by rw [hsz',hlen];simp [iRows,htl],fun i j r t v h1 h2 h3=>?_⟩
   ·rcases List.mem_append.1 hr with hr|hr
    ·obtain⟨x,_,rfl⟩:=List.mem_map.1 hr;rfl
    ·exact hjs r hr
   ·by_cases hi:i<ts.length
    ·rw [List.getElem?_append_left (by simpa [iRows]using hi),iRows_get (List.getElem?_eq_getElem hi)]at h1
     injection h1 with h1;subst h1
     cases j with
     | succ j=>simp at h2
     | zero=>
      simp at h2;subst h2
      have hia:i<arr.size:=by omega
      simp [harr',putCells,hi,hia]at h3
      subst h3
      exact .c _ _ (.lit _ rfl)
    ·have h1':=h1
     rw [List.getElem?_append_right (by simp [iRows];omega)]at h1
     have hr1:r.length=1:=hjs r (List.mem_of_getElem? h1)
     have hj0:j=0:=by have:=(List.getElem?_eq_some_iff.1 h2).1;omega
     subst hj0
     refine k3.is i 0 r t v ?_ h2 ?_
     ·rw [List.getElem?_append_right (by simp [iRows];omega)]
      simpa [iRows,htl]using h1
     ·simp [harr',putCells,hi]at h3 ⊢
      exact h3
  have hrel:=(hwi.rel (Nat.le_refl _) (Nat.le_refl _)).setBx hq hne hrow hv'
  have hush:Hush w.heap.size (putRow (Value.int .i64) (Sort.ahead w n) (E.ρ q) 0 ts.toArray) (grow (putRow (Value.int .i64) (Sort.ahead w n) (E.ρ q) 0 ts.toArray) os):=by
   refine⟨rfl,rfl,rfl,by simp [grow],fun b hb=>?_,fun b a' e' m hb=>?_⟩
   ·exact heap_grow_old _ _ (by rw [hrow.heap];exact hb)
   ·exact heap_grow_old _ _ (Array.getElem?_eq_some_iff.1 hb).1
  have hfin:=hrel.hush (a':={ tmps:= #[],defers:= [] }) hush rfl (DefOK.nil _ _ (Nat.le_refl _))
  exact⟨_,E,.tup [],_,rfl,⟨rfl,rfl⟩,hfin.wi,.tup [] #[] rfl (fun j d v h1 _=>by simp at h1)⟩
end
end Go.Dl
/- The logic of data: rows of plain cells. -/
namespace Go.Dl
open Go.RowKit
noncomputable section
def cr(xs:List (List C)):Rows:=xs.map (List.map T.c)
theorem cr_tr(r:Ren)(xs:List (List C)):Rows.tr r (cr xs)=cr xs:=Rows.tr_c r xs
attribute [go_sem] cr_tr
theorem srcSl{bx:Mem}{sz:Nat}{d:D}{ys:List (List C)}(hd:d= .one (.c (.sl sz ys))):Src bx sz d (cr ys):=by
 subst hd;exact .sl ys
theorem srcBa{bx:Mem}{sz n i len cap:Nat}{d:D}{rows ys:Rows}(hd:d= .one (.ba n sz i len cap))(hb:bx n=some rows)(hl:i+len≤rows.length)(hz: ∀r∈rows,r.length=sz)(hys:ys=(rows.drop i).take len):Src bx sz d ys:=by
 subst hd;subst hys;exact .ba n i len cap rows hb hl hz
theorem srcOne{bx:Mem}{sz n:Nat}{d:D}{v:List T}(hd:d= .one (.ba n sz 0 1 1))(hb:bx n=some [v])(hl:v.length=sz):Src bx sz d [v]:=
 srcBa hd hb (by simp) (by simpa using hl) (by simp)
end
end Go.Dl
/- The logic of data: a region whose order is drawn, where two operations may come up: both ways are gone. -/
namespace Go.Dl
open Go.RowKit
noncomputable section
inductive PT where
 | leaf
 | run (l:List Nat) (t:PT)
 | two (i:Nat) (t:PT) (j:Nat) (u:PT)
def pickM(ops:List Oper)(m:Mode):List Nat→List (Mode×Oper)
 | []=> []
 | i::l=>match ops[i]? with
  | some o=>(m,o)::pickM ops m l
  | none=> []
def pickH(ops:List Oper)(hd:List Nat):List Nat→List (Mode×Oper)
 | []=> []
 | i::l=>match ops[i]? with
  | some o=>(if i∈hd then .hand else .step,o)::pickH ops hd l
  | none=> []
def PT.wk(P:Program)(ops:List Oper)(hd:List Nat)(ds:List (Option Nat)):PT→DS→(DS→Prop)→Prop
 | .leaf,s,K=>K s
 | .run l t,s,K=>Go.Dl.wk P ds (pickH ops hd l) s fun s'=>t.wk P ops hd ds s' K
 | .two i t j u,s,K=>(Go.Dl.wk P ds (pickH ops hd [i]) s fun s'=>t.wk P ops hd ds s' K)∧Go.Dl.wk P ds (pickH ops hd [j]) s fun s'=>u.wk P ops hd ds s' K
section
variable {P : Program}
theorem pickM_nil(ops:List Oper)(m:Mode):pickM ops m []= []:=rfl
theorem pickM_cons(ops:List Oper)(m:Mode)(i:Nat)(l:List Nat):pickM ops m (i::l)=match ops[i]? with|some o=>(m,o)::pickM ops m l|none=> []:=rfl
theorem pickH_nil(ops:List Oper)(hd:List Nat):pickH ops hd []= []:=rfl
theorem pickH_cons(ops:List Oper)(hd:List Nat)(i:Nat)(l:List Nat):pickH ops hd (i::l)=match ops[i]? with|some o=>(if i∈hd then .hand else .step,o)::pickH ops hd l|none=> []:=rfl
theorem ptwk_leaf(ops:List Oper)(hd:List Nat)(ds:List (Option Nat))(s:DS)(K:DS→Prop):PT.leaf.wk P ops hd ds s K=K s:=rfl
theorem ptwk_run(ops:List Oper)(hd:List Nat)(ds:List (Option Nat))(l:List Nat)(t:PT)(s:DS)(K:DS→Prop):(PT.run l t).wk P ops hd ds s K=Go.Dl.wk P ds (pickH ops hd l) s fun s'=>t.wk P ops hd ds s' K:=rfl
theorem ptwk_two(ops:List Oper)(hd:List Nat)(ds:List (Option Nat))(i j:Nat)(t u:PT)(s:DS)(K:DS→Prop):(PT.two i t j u).wk P ops hd ds s K=((Go.Dl.wk P ds (pickH ops hd [i]) s fun s'=>t.wk P ops hd ds s' K)∧Go.Dl.wk P ds (pickH ops hd [j]) s fun s'=>u.wk P ops hd ds s' K):=rfl
attribute [go_sem] pickM_nil pickM_cons pickH_nil pickH_cons ptwk_leaf ptwk_run ptwk_two
end
end
end Go.Dl
/- The logic of data: behind a loop. -/
namespace Go.Dl
open Go.RowKit
noncomputable section
theorem dw_after{P:Program}{α:Type}{id:Nat}{c rest:Code}{s:DS}{Q Q2:Exit→DS→Prop}(S:α→DS)(F:α→Prop)(h1:DW P c s (fun e s'=>e= .exit id∧∃y,F y∧s'.Sub (S y)))(h2: ∀y,F y→DW P rest (S y) Q):
  DW P c s (inBlockD id (thenD (fun s'=>DW P rest s' Q) Q2)):=
 h1.mono fun e s' ⟨he,y,hF,hs⟩=>by
  subst he
  simp only [inBlockD,if_true,thenD]
  exact dw_weaken hs (h2 y hF)
theorem dw_afterN{P:Program}{α:Type}{c rest:Code}{s:DS}{Q Q2:Exit→DS→Prop}(S:α→DS)(F:α→Prop)(h1:DW P c s (fun e s'=>e= .normal∧∃y,F y∧s'.Sub (S y)))(h2: ∀y,F y→DW P rest (S y) Q):
  DW P c s (thenD (fun s'=>DW P rest s' Q) Q2):=
 h1.mono fun e s' ⟨he,y,hF,hs⟩=>by
  subst he
  simp only [thenD]
  exact dw_weaken hs (h2 y hF)
theorem nb_1000:(1000<NB)=True:=eq_true (by have:=NB_big;omega)
attribute [go_sem] nb_1000
end
end Go.Dl
