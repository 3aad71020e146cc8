/- Taking out repetitions, as slices.Compact does; the system made out of labels and arcs. -/
import Derived.Test.YtmlgcbjkfcapaaaGreatDoorKP11
set_option linter.all false
namespace Gv
open Go
theorem aJd {α:Type} [DecidableEq α] (x y:α):∀ xs:List α,qA (xs++[x,y])=if x=y then qA (xs++[x]) else qA (xs++[x])++[y]
 |[]=>by
  simp only [List.nil_append,qA]
  by_cases h:x=y<;>simp [h]
 |[a]=>by
  simp only [List.cons_append,List.nil_append,qA]
  by_cases h:x=y<;>by_cases h2:a=x<;>simp [h,h2]
 |a::b::l=>by
  have ih:=aJd x y (b::l)
  simp only [List.cons_append] at ih ⊢
  unfold qA
  by_cases h2:a=b
  ·rw [if_pos h2,if_pos h2];exact ih
  ·rw [if_neg h2,if_neg h2,ih]
   by_cases h:x=y<;>simp [h]
theorem aJe {α:Type} [DecidableEq α] {s:List α} {m:Nat} (h1:1≤m) (hm:m < s.length):qA (s.take (m+1))=if s[m - 1]'(by omega)=s[m] then qA (s.take m) else qA (s.take m)++[s[m]]:=by
 obtain ⟨k,rfl⟩:∃ k,m=k+1:=⟨m - 1,by omega⟩
 have e1:s.take (k+1)=s.take k++[s[k]]:=by rw [List.take_add_one];simp [show k < s.length by omega]
 have e2:s.take (k+1+1)=s.take k++[s[k],s[k+1]]:=by rw [List.take_add_one,e1,List.getElem?_eq_getElem hm,List.append_assoc];rfl
 rw [e2,e1,aJd];rfl
theorem aJQ {α:Type} [DecidableEq α] {step:(List α × Int × Int)→Option ((List α × Int × Int) ⊕ (List α × Int))} (s:List α) (k:Nat) (h1:1≤k) (hk:k < s.length) (hd:qA (s.take (k+1))=s.take k)
  (hst:∀ (j w:Nat) s' x y,1≤j→k+j < s.length→s'.length=s.length→w < s.length→s'[k+j]?=some x→s'[k+j - 1]?=some y→step (s',(w:Int),(j:Int))=some (.inl (if x=y then (s',(w:Int),((j+1:Nat):Int)) else (s'.set w x,((w+1:Nat):Int),((j+1:Nat):Int)))))
  (hen:∀ s' w,step (s',w,((s.length - k:Nat):Int))=some (.inr (s',w))):∃ s' w,loop step (s,(k:Int),1)=some (s',((w:Nat):Int))∧s'.length=s.length∧w≤s.length∧s'.take w=qA s:=by
 have:=sV (step:=step) (s.length - k) (fun j (a:List α × Nat)=>(a.1,(a.2:Int),(j:Int))) (fun j a=>1≤j∧a.1.length=s.length∧a.2≤k+j - 1∧a.1.take a.2=qA (s.take (k+j))∧∀ i,k+j - 1≤i→a.1[i]?=s[i]?)
  (fun r=>∃ w:Nat,r.2=(w:Int)∧r.1.length=s.length∧w≤s.length∧r.1.take w=qA s) (fun j a hj hI=>?_) (fun a hI=>?_) (s.length - k - 1) 1 (s,k) (by omega) ⟨Nat.le_refl _,rfl,by simp only;omega,by simp only;rw [hd],fun i _=>rfl⟩
 ·obtain ⟨⟨s',w⟩,hr,w',hw,h2,h3,h4⟩:=this
  simp only at hw h2 h3 h4
  subst hw
  exact ⟨s',w',hr,h2,h3,h4⟩
 ·obtain ⟨s',w⟩:=a
  obtain ⟨i1,i2,i3,i4,i5⟩:=hI
  simp only at i2 i3 i4 i5
  have hkj:k+j < s.length:=by omega
  have hx:s'[k+j]?=some s[k+j]:=by rw [i5 _ (by omega),List.getElem?_eq_getElem hkj]
  have hy:s'[k+j - 1]?=some (s[k+j - 1]'(by omega)):=by rw [i5 _ (by omega),List.getElem?_eq_getElem (by omega)]
  have hst':=hst j w s' _ _ i1 hkj i2 (by omega) hx hy
  have hdt:=aJe (s:=s) (m:=k+j) (by omega) hkj
  by_cases e:s[k+j]=s[k+j - 1]'(by omega)
  ·rw [if_pos e] at hst'
   rw [if_pos e.symm] at hdt
   refine ⟨(s',w),hst',by omega,i2,by simp only;omega,?_,fun i hi=>i5 i (by omega)⟩
   simp only;rw [i4,←Nat.add_assoc,hdt]
  ·rw [if_neg e] at hst'
   rw [if_neg (fun h=>e h.symm)] at hdt
   refine ⟨(s'.set w s[k+j],w+1),hst',by omega,by simp [i2],by simp only;omega,?_,fun i hi=>?_⟩
   ·simp only
    rw [←Nat.add_assoc,hdt,←i4,List.take_add_one,List.take_set_of_le (Nat.le_refl _)]
    simp [show w < s'.length by omega]
   ·simp only
    rw [List.getElem?_set_ne (by omega)]
    exact i5 i (by omega)
 ·obtain ⟨s',w⟩:=a
  obtain ⟨i1,i2,i3,i4,i5⟩:=hI
  simp only at i2 i3 i4 i5
  refine ⟨_,hen s' _,w,rfl,i2,by omega,?_⟩
  simp only
  rw [i4,List.take_of_length_le (by omega)]
theorem slc_to {α:Type} {s:List α} {w:Nat} (h:w≤s.length):uV s 0 (w:Int)=some (s.take w):=by
 unfold uV;rw [if_pos ⟨by omega,by omega,by omega⟩];simp
theorem aMA {α:Type} {s:List α} {w:Nat} (h:w≤s.length):uV s (w:Int) (s.length:Int)=some (s.drop w):=by
 unfold uV;rw [if_pos ⟨by omega,by omega,by omega⟩]
 rw [Int.toNat_natCast,Int.toNat_natCast,List.take_of_length_le (by simp)]
theorem aNJ {α:Type} {s:List α} {w:Nat} (z:α) (h:w≤s.length):ovw s (w:Int) (List.replicate (s.drop w).length z)=some (s.take w++List.replicate (s.length - w) z):=by
 unfold ovw
 rw [if_pos ⟨by omega,by simp;omega⟩]
 simp
 omega
theorem aMB {σ ρ α:Type} {step:σ→Option (σ ⊕ ρ)} (n:Nat) (g:Nat→α→σ) (I:Nat→α→Prop) (R:ρ→Prop)
  (h:∀ k a,k < n→I k a→(∃ a',step (g k a)=some (.inl (g (k+1) a'))∧I (k+1) a')∨∃ r,step (g k a)=some (.inr r)∧R r)
  (h':∀ a,I n a→∃ r,step (g n a)=some (.inr r)∧R r):∀ j k a,k+j=n→I k a→∃ r,loop step (g k a)=some r∧R r
 |0,k,a,e,hI=>by
  obtain rfl:k=n:=by omega
  obtain ⟨r,h1,h2⟩:=h' a hI
  exact ⟨r,by rw [cN,h1],h2⟩
 |j+1,k,a,e,hI=>by
  rcases h k a (by omega) hI with ⟨a',h1,h2⟩|⟨r,h1,h2⟩
  ·rw [cN,h1]
   exact aMB n g I R h h' j (k+1) a' (by omega) h2
  ·exact ⟨r,by rw [cN,h1],h2⟩
theorem aMC (s:List aZ) (h:s.length < 1000000000):fK s=some (qA s):=by
 unfold fK
 by_cases h2:s.length < 2
 ·rw [if_pos (by simp;omega)]
  rcases s with _|⟨a,_|⟨b,l⟩⟩
  ·rfl
  ·rfl
  ·simp at h2;omega
 rw [if_neg (by simp;omega)]
 have:=aMB (step:=fun k=>dU s k) s.length (fun k (_:Unit)=>(k:Int)) (fun k _=>1≤k∧qA (s.take k)=s.take k) (fun r=>r=.inr (qA s)∨(r=.inl ()∧qA s=s)) (fun k a hk hI=>?_) (fun a hI=>?_) (s.length - 1) 1 () (by omega) ⟨Nat.le_refl _,?_⟩
 ·obtain ⟨r,hr,hR⟩:=this
  rw [show (1:Int)=((1:Nat):Int) from rfl,hr,aJ]
  rcases hR with rfl|⟨rfl,h⟩
  ·rfl
  ·rw [h];rfl
 ·obtain ⟨i1,i2⟩:=hI
  have hk1:wr ((k:Int) - 1)=((k - 1:Nat):Int):=by rw [iM (by omega) (by omega)];omega
  have hdt:=aJe (s:=s) (m:=k) i1 hk
  simp only [dU,cQ hk,if_pos,cZ hk,aJ,hk1,cZ (xs:=s) (k:=k - 1) (by omega),gC,cK hk (show s.length < 4611686018427387904 by omega)]
  by_cases e:s[k]=s[k - 1]'(by omega)
  ·right
   rw [if_pos e.symm,i2] at hdt
   rw [if_pos (by simpa using e),aMA (by omega),aJ]
   obtain ⟨s',w,hl,g1,g2,g3⟩:=aJQ (step:=fun x:List aZ × Int × Int=>dT (k:Int) (s.drop k) x.1 x.2.1 x.2.2) s k i1 hk hdt (fun j w s' x y j1 j2 j3 j4 hx hy=>by
    have hl:(s.drop k).length=s.length - k:=by simp
    have a1:(k:Int)+(j:Int)=((k+j:Nat):Int):=by omega
    have a2:wr ((j:Int) - 1)=((j - 1:Nat):Int):=by rw [iM (by omega) (by omega)];omega
    have a3:(k:Int)+((j - 1:Nat):Int)=((k+j - 1:Nat):Int):=by omega
    simp only [dT,hl,cQ (show j < s.length - k by omega),if_pos,cZ (xs:=s.drop k) (k:=j) (by omega),aJ,a1,lQ,hx,a2,List.getElem?_eq_getElem (show j - 1 < (s.drop k).length by omega),a3,hy,eP,cK (show j < s.length - k by omega) (by omega),List.getElem?_eq_getElem (show w < s'.length by omega),sT (xs:=s') (k:=w) _ (by omega),cK j4 (show s.length < 4611686018427387904 by omega)]
    by_cases e:x=y<;>simp [e]) (fun s' w=>by
     have hl:(s.drop k).length=s.length - k:=by simp
     simp only [dT,hl,cE];rfl)
   rw [hl,aJ]
   unfold eO
   simp only
   rw [aMA (by omega),aJ,aNJ _ (by omega),aJ,slc_to (by simp;omega),aJ]
   refine ⟨_,rfl,.inl ?_⟩
   rw [List.take_append_of_le_length (by simp;omega),List.take_take,Nat.min_self,g3]
  ·left
   rw [if_neg (by simpa using e)]
   refine ⟨(),rfl,by omega,?_⟩
   rw [hdt,if_neg (fun h=>e h.symm),i2,List.take_add_one]
   simp [hk]
 ·refine ⟨_,by simp only [dU,cE];rfl,.inr ⟨rfl,?_⟩⟩
  have:=hI.2
  rwa [List.take_of_length_le (by omega)] at this
 ·rcases s with _|⟨a,l⟩
  ·rfl
  ·rfl
theorem aLf (s:List Edge) (h:s.length < 1000000000) (hs:s.Pairwise fun a b=>dX a b=true):eC s=some s:=by
 unfold eC
 by_cases h2:s.length < 2
 ·rw [if_pos (by simp;omega)]
 rw [if_neg (by simp;omega)]
 have:=mX (step:=fun k=>dI s k) s.length (fun k (_:Unit)=>(k:Int)) (fun _ _=>.inl ()) (fun k _=>1≤k) (fun k a hk hI=>?_) (fun a hI=>?_) (s.length - 1) 1 () (by omega) (Nat.le_refl _)
 ·rw [show (1:Int)=((1:Nat):Int) from rfl,this,aJ];rfl
 ·left
  have hk1:wr ((k:Int) - 1)=((k - 1:Nat):Int):=by rw [iM (by omega) (by omega)];omega
  simp only [dI,cQ hk,if_pos,cZ hk,aJ,hk1,cZ (xs:=s) (k:=k - 1) (by omega),eU,cK hk (show s.length < 4611686018427387904 by omega)]
  have hne:¬ s[k]=s[k - 1]'(by omega):=by
   have:=List.pairwise_iff_getElem.1 hs (k - 1) k (by omega) hk (by omega)
   exact fun e=>aHc this e.symm
  rw [if_neg (by simpa using hne)]
  exact ⟨(),rfl,by omega,trivial⟩
 ·simp only [dI,cE];rfl
theorem lts_eq {st ini:Int} {labels M:List aZ} {arcs:List Arc} (hM:aFf M) (hm:∀ s,s≠iH→(s∈labels↔s∈M)) (h1:labels.length < 2000000) (h2:arcs.length < 2000000)
  (hs:(arcs.map fun a=>(⟨a.from_,pos (iH::M) a.label,a.to_⟩:Edge)).Pairwise fun a b=>dX a b=true) (h3:M.length < 2000000):
  i_lts st ini labels arcs=some ⟨st,ini,iH::M,arcs.map fun a=>⟨a.from_,pos (iH::M) a.label,a.to_⟩⟩:=by
 unfold i_lts
 rw [show ([116,97,117]:aZ)=iH from rfl,hJ (by simp [kT];omega),aJ]
 have e1:aDc ([iH]++labels)=some (srt yC ([iH]++labels)):=by unfold aDc;rw [if_pos (by simp [kT];omega)]
 rw [e1,aJ,aMC _ (by unfold srt;rw [List.length_mergeSort];simp;omega),aJ]
 rw [srt_dedup yC aHa aMx aHb hM.lab (fun x=>?_)]
 ·rw [loop_map0 (step:=fun s:List Edge × Int=>aDq arcs (iH::M) s.1 s.2) arcs (fun a=>(⟨a.from_,pos (iH::M) a.label,a.to_⟩:Edge)) id (fun k out x hk ho hx=>?_) (fun out=>by simp only [aDq,cE];rfl),aJ]
  ·unfold aEF
   have e2:wZ (id (arcs.map fun a=>(⟨a.from_,pos (iH::M) a.label,a.to_⟩:Edge)))=some (arcs.map fun a=>(⟨a.from_,pos (iH::M) a.label,a.to_⟩:Edge)):=by
    unfold wZ;rw [if_pos (by simp [kT];omega),id,aMw _ aIX hs]
   rw [e2,aJ,aLf _ (by simp;omega) hs,aJ]
  ·simp only [aDq,cQ hk,if_pos,hx,aJ,aKl _ _ (show (iH::M).length < 4611686018427387904 by simp;omega),cK hk (show arcs.length < 4611686018427387904 by omega)]
   rw [hJ (by simp [kT];omega),aJ]
 ·by_cases e:x=iH
  ·subst e;simp
  ·simp [e,hm x e]
end Gv
namespace Gv
open Go
theorem aIS.labs {L:List aZ} (h:aIS L) (h11:L.length≤11):sD (iH::L):=by
 refine ⟨by simp,by simp;omega,fun _=>rfl,fun k h1 hk=>?_⟩
 obtain ⟨j,rfl⟩:∃ j,k=j+1:=⟨k - 1,by omega⟩
 have hj:j < L.length:=by simpa using hk
 have:=h.1 L[j] (List.getElem_mem hj)
 refine ⟨this.1,this.2,fun h2=>?_⟩
 obtain ⟨i,rfl⟩:∃ i,j=i+1:=⟨j - 1,by omega⟩
 exact h.2 (i+1) (by omega) hj
def ins (at_:List Int) (q:Int):List Int × Int:=if 0≤pos at_ q then (at_,pos at_ q) else (at_++[q],(at_.length:Int))
def WF (p:dB) (at_:List Int):Prop:=at_.Nodup∧∀ q∈at_,-1≤q∧q≤p.N - 1
theorem WF.len {p:dB} (hp:dV p) {a:List Int} (h:WF p a):a.length≤41:=by
 have h1:=hp.1
 have:=List.Nodup.length_le_of_subset (l₂:=(List.range 41).map fun (i:Nat)=>(i:Int) - 1) h.1 (fun q hq=>by
  have:=h.2 q hq
  rw [List.mem_map]
  exact ⟨(q+1).toNat,by rw [List.mem_range];omega,by omega⟩)
 simpa using this
end Gv
namespace Gv
open Go
section
variable {p:dB} {L:List aZ}
end
end Gv
namespace Gv
open Go
theorem aAI {α:Type} [BEq α] [LawfulBEq α] {xs:List α} {a:α} (h:a∈xs):∃ i:Nat,∃ hi:i < xs.length,pos xs a=(i:Int)∧xs[i]=a:=by
 unfold pos
 cases hx:xs.findIdx? (fun x=>a == x) with
 |none=>
  rw [List.findIdx?_eq_none_iff] at hx
  have:=hx a h
  simp at this
 |some i=>
  rw [List.findIdx?_eq_some_iff_getElem] at hx
  obtain ⟨hi,h1,_⟩:=hx
  exact ⟨i,hi,rfl,by simpa using Eq.symm (by simpa using h1)⟩
theorem pos_at {α:Type} [BEq α] [LawfulBEq α] {R:α→α→Prop} (irr:∀ a,¬ R a a) {xs:List α} (hx:xs.Pairwise R) {k:Nat} (hk:k < xs.length):pos xs xs[k]=(k:Int):=by
 obtain ⟨i,hi,e1,g1⟩:=aAI (List.getElem_mem hk)
 rw [e1]
 rcases Nat.lt_trichotomy i k with h|h|h
 ·have:=List.pairwise_iff_getElem.1 hx i k hi hk h
  rw [g1] at this;exact absurd this (irr _)
 ·rw [h]
 ·have:=List.pairwise_iff_getElem.1 hx k i hk hi h
  rw [g1] at this;exact absurd this (irr _)
def key (q:Int):aZ:=[48,32]++Lib.itoa q
section
variable {p:dB} {L:List aZ}
theorem WF.small (hp:dV p) {a:List Int} (h:WF p a):∀ x∈a,-1≤x∧x≤63:=fun x hx=>by
 have:=h.2 x hx;have:=hp.1;omega
def aJf (L:List aZ) (e:Edge):Arc:=⟨e.F,L.getD (e.B - 1).toNat [],e.To⟩
end
end Gv
namespace Gv
open Go
structure ED (L:List aZ) (i k:Int) (n:Nat) (ed:List Edge):Prop where
 ord:ed.Pairwise aES
 all:∀ e∈ed,0≤e.F∧(e.F < i∨(e.F=i∧e.B≤k))∧1≤e.B∧e.B≤L.length∧0≤e.To∧e.To < n
section
variable {p:dB} {L:List aZ}
theorem ED.mono {i k:Int} {n m:Nat} {ed:List Edge} (h:ED L i k n ed) (hm:n≤m):ED L i k m ed:=
 ⟨h.ord,fun e he=>by have:=h.all e he;omega⟩
theorem ED.next {i k:Int} {n:Nat} {ed:List Edge} (h:ED L i k n ed):ED L (i+1) 0 n ed:=
 ⟨h.ord,fun e he=>by have:=h.all e he;omega⟩
theorem flLt_edge {a b:Edge} (h:aES a b):dX a b=true:=by rw [pZ];unfold aES at h;omega
theorem arcs_back (hL:aFf L) {ed:List Edge} (h:∀ e∈ed,1≤e.B∧e.B≤L.length):((ed.map (aJf L)).map fun a=>(⟨a.from_,pos (iH::L) a.label,a.to_⟩:Edge))=ed:=by
 rw [List.map_map]
 conv=>rhs;rw [←List.map_id ed]
 refine List.map_congr_left fun e he=>?_
 have hb:=h e he
 have hk:(e.B - 1).toNat < L.length:=by omega
 have:pos (iH::L) (L.getD (e.B - 1).toNat [])=e.B:=by
  rw [List.getD_eq_getElem?_getD,List.getElem?_eq_getElem hk]
  have:=pos_at (R:=fun a b=>yC a b=true) (fun a h=>by rw [aHa] at h;cases h) hL.lab (k:=(e.B - 1).toNat+1) (by simp;omega)
  simp only [List.getElem_cons_succ] at this
  simp only [Option.getD_some]
  rw [this];omega
 simp only [Function.comp,aJf,this,id]
theorem aIS.sub {M:List aZ} (hL:aIS L) (h:M.Sublist L):aIS M:=by
 refine ⟨fun s hs=>hL.1 s (h.mem hs),fun k h1 hk=>?_⟩
 have:=hL.strict.1.sublist h
 exact List.pairwise_iff_getElem.1 this (k - 1) k (by omega) hk (by omega)
end
end Gv
namespace Gv
open Go
section
variable {p:dB} {L:List aZ}
end
end Gv
namespace Gv
open Go
theorem mY.mono {a b:Nat} {t:dB} (h:mY a t) (hab:a≤b):mY b t:=⟨Nat.le_trans h.1 hab,fun s hs=>Nat.le_trans (h.2.1 s hs) hab,Nat.le_trans h.2.2 hab⟩
end Gv
