/- Taking out repetitions, as slices.Compact does; the system made out of labels and arcs. -/
import Derived.Test.YtohbafhnoifmoaaGreatDoorTJP11
set_option linter.all false
namespace Gv
open Go
theorem aJe {α:Type} [DecidableEq α] (x y:α):∀ xs:List α,iS (xs++[x,y])=if x=y then iS (xs++[x]) else iS (xs++[x])++[y]
 |[]=>by
  simp only [List.nil_append,iS]
  by_cases h:x=y<;>simp [h]
 |[a]=>by
  simp only [List.cons_append,List.nil_append,iS]
  by_cases h:x=y<;>by_cases h2:a=x<;>simp [h,h2]
 |a::b::l=>by
  have ih:=aJe x y (b::l)
  simp only [List.cons_append] at ih ⊢
  unfold iS
  by_cases h2:a=b
  ·rw [if_pos h2,if_pos h2];exact ih
  ·rw [if_neg h2,if_neg h2,ih]
   by_cases h:x=y<;>simp [h]
theorem aFT {α:Type} [DecidableEq α] {s:List α} {m:Nat} (h1:1≤m) (hm:m < s.length):iS (s.take (m+1))=if s[m - 1]'(by omega)=s[m] then iS (s.take m) else iS (s.take m)++[s[m]]:=by
 obtain ⟨k,rfl⟩:∃ k,m=k+1:=⟨m - 1,by omega⟩
 have e1:s.take (k+1)=s.take k++[s[k]]:=by rw [List.take_add_one];simp [show k < s.length by omega]
 have e2:s.take (k+1+1)=s.take k++[s[k],s[k+1]]:=by rw [List.take_add_one,e1,List.getElem?_eq_getElem hm,List.append_assoc];rfl
 rw [e2,e1,aJe];rfl
theorem aFB {α:Type} [DecidableEq α] {step:(List α × Int × Int)→Option ((List α × Int × Int) ⊕ (List α × Int))} (s:List α) (k:Nat) (h1:1≤k) (hk:k < s.length) (hd:iS (s.take (k+1))=s.take k)
  (hst:∀ (j w:Nat) s' x y,1≤j→k+j < s.length→s'.length=s.length→w < s.length→s'[k+j]?=some x→s'[k+j - 1]?=some y→step (s',(w:Int),(j:Int))=some (.inl (if x=y then (s',(w:Int),((j+1:Nat):Int)) else (s'.set w x,((w+1:Nat):Int),((j+1:Nat):Int)))))
  (hen:∀ s' w,step (s',w,((s.length - k:Nat):Int))=some (.inr (s',w))):∃ s' w,loop step (s,(k:Int),1)=some (s',((w:Nat):Int))∧s'.length=s.length∧w≤s.length∧s'.take w=iS s:=by
 have:=eM (step:=step) (s.length - k) (fun j (a:List α × Nat)=>(a.1,(a.2:Int),(j:Int))) (fun j a=>1≤j∧a.1.length=s.length∧a.2≤k+j - 1∧a.1.take a.2=iS (s.take (k+j))∧∀ i,k+j - 1≤i→a.1[i]?=s[i]?)
  (fun r=>∃ w:Nat,r.2=(w:Int)∧r.1.length=s.length∧w≤s.length∧r.1.take w=iS s) (fun j a hj hI=>?_) (fun a hI=>?_) (s.length - k - 1) 1 (s,k) (by omega) ⟨Nat.le_refl _,rfl,by simp only;omega,by simp only;rw [hd],fun i _=>rfl⟩
 ·obtain ⟨⟨s',w⟩,hr,w',hw,h2,h3,h4⟩:=this
  simp only at hw h2 h3 h4
  subst hw
  exact ⟨s',w',hr,h2,h3,h4⟩
 ·obtain ⟨s',w⟩:=a
  obtain ⟨i1,i2,i3,i4,i5⟩:=hI
  simp only at i2 i3 i4 i5
  have hkj:k+j < s.length:=by omega
  have hx:s'[k+j]?=some s[k+j]:=by rw [i5 _ (by omega),List.getElem?_eq_getElem hkj]
  have hy:s'[k+j - 1]?=some (s[k+j - 1]'(by omega)):=by rw [i5 _ (by omega),List.getElem?_eq_getElem (by omega)]
  have hst':=hst j w s' _ _ i1 hkj i2 (by omega) hx hy
  have hdt:=aFT (s:=s) (m:=k+j) (by omega) hkj
  by_cases e:s[k+j]=s[k+j - 1]'(by omega)
  ·rw [if_pos e] at hst'
   rw [if_pos e.symm] at hdt
   refine ⟨(s',w),hst',by omega,i2,by simp only;omega,?_,fun i hi=>i5 i (by omega)⟩
   simp only;rw [i4,←Nat.add_assoc,hdt]
  ·rw [if_neg e] at hst'
   rw [if_neg (fun h=>e h.symm)] at hdt
   refine ⟨(s'.set w s[k+j],w+1),hst',by omega,by simp [i2],by simp only;omega,?_,fun i hi=>?_⟩
   ·simp only
    rw [←Nat.add_assoc,hdt,←i4,List.take_add_one,List.take_set_of_le (Nat.le_refl _)]
    simp [show w < s'.length by omega]
   ·simp only
    rw [List.getElem?_set_ne (by omega)]
    exact i5 i (by omega)
 ·obtain ⟨s',w⟩:=a
  obtain ⟨i1,i2,i3,i4,i5⟩:=hI
  simp only at i2 i3 i4 i5
  refine ⟨_,hen s' _,w,rfl,i2,by omega,?_⟩
  simp only
  rw [i4,List.take_of_length_le (by omega)]
theorem slc_to {α:Type} {s:List α} {w:Nat} (h:w≤s.length):tU s 0 (w:Int)=some (s.take w):=by
 unfold tU;rw [if_pos ⟨by omega,by omega,by omega⟩];simp
theorem aES {α:Type} {s:List α} {w:Nat} (h:w≤s.length):tU s (w:Int) (s.length:Int)=some (s.drop w):=by
 unfold tU;rw [if_pos ⟨by omega,by omega,by omega⟩]
 rw [Int.toNat_natCast,Int.toNat_natCast,List.take_of_length_le (by simp)]
theorem aJf {α:Type} {s:List α} {w:Nat} (z:α) (h:w≤s.length):ovw s (w:Int) (List.replicate (s.drop w).length z)=some (s.take w++List.replicate (s.length - w) z):=by
 unfold ovw
 rw [if_pos ⟨by omega,by simp;omega⟩]
 simp
 omega
theorem aJg {σ ρ α:Type} {step:σ→Option (σ ⊕ ρ)} (n:Nat) (g:Nat→α→σ) (I:Nat→α→Prop) (R:ρ→Prop)
  (h:∀ k a,k < n→I k a→(∃ a',step (g k a)=some (.inl (g (k+1) a'))∧I (k+1) a')∨∃ r,step (g k a)=some (.inr r)∧R r)
  (h':∀ a,I n a→∃ r,step (g n a)=some (.inr r)∧R r):∀ j k a,k+j=n→I k a→∃ r,loop step (g k a)=some r∧R r
 |0,k,a,e,hI=>by
  obtain rfl:k=n:=by omega
  obtain ⟨r,h1,h2⟩:=h' a hI
  exact ⟨r,by rw [dM,h1],h2⟩
 |j+1,k,a,e,hI=>by
  rcases h k a (by omega) hI with ⟨a',h1,h2⟩|⟨r,h1,h2⟩
  ·rw [dM,h1]
   exact aJg n g I R h h' j (k+1) a' (by omega) h2
  ·exact ⟨r,by rw [dM,h1],h2⟩
theorem aHt (s:List aU) (h:s.length < 1000000000):fF s=some (iS s):=by
 unfold fF
 by_cases h2:s.length < 2
 ·rw [if_pos (by simp;omega)]
  rcases s with _|⟨a,_|⟨b,l⟩⟩
  ·rfl
  ·rfl
  ·simp at h2;omega
 rw [if_neg (by simp;omega)]
 have:=aJg (step:=fun k=>dY s k) s.length (fun k (_:Unit)=>(k:Int)) (fun k _=>1≤k∧iS (s.take k)=s.take k) (fun r=>r=.inr (iS s)∨(r=.inl ()∧iS s=s)) (fun k a hk hI=>?_) (fun a hI=>?_) (s.length - 1) 1 () (by omega) ⟨Nat.le_refl _,?_⟩
 ·obtain ⟨r,hr,hR⟩:=this
  rw [show (1:Int)=((1:Nat):Int) from rfl,hr,aC]
  rcases hR with rfl|⟨rfl,h⟩
  ·rfl
  ·rw [h];rfl
 ·obtain ⟨i1,i2⟩:=hI
  have hk1:wr ((k:Int) - 1)=((k - 1:Nat):Int):=by rw [fN (by omega) (by omega)];omega
  have hdt:=aFT (s:=s) (m:=k) i1 hk
  simp only [dY,dC hk,if_pos,cR hk,aC,hk1,cR (xs:=s) (k:=k - 1) (by omega),fS,cT hk (show s.length < 4611686018427387904 by omega)]
  by_cases e:s[k]=s[k - 1]'(by omega)
  ·right
   rw [if_pos e.symm,i2] at hdt
   rw [if_pos (by simpa using e),aES (by omega),aC]
   obtain ⟨s',w,hl,g1,g2,g3⟩:=aFB (step:=fun x:List aU × Int × Int=>dX (k:Int) (s.drop k) x.1 x.2.1 x.2.2) s k i1 hk hdt (fun j w s' x y j1 j2 j3 j4 hx hy=>by
    have hl:(s.drop k).length=s.length - k:=by simp
    have a1:(k:Int)+(j:Int)=((k+j:Nat):Int):=by omega
    have a2:wr ((j:Int) - 1)=((j - 1:Nat):Int):=by rw [fN (by omega) (by omega)];omega
    have a3:(k:Int)+((j - 1:Nat):Int)=((k+j - 1:Nat):Int):=by omega
    simp only [dX,hl,dC (show j < s.length - k by omega),if_pos,cR (xs:=s.drop k) (k:=j) (by omega),aC,a1,aDR,hx,a2,List.getElem?_eq_getElem (show j - 1 < (s.drop k).length by omega),a3,hy,eP,cT (show j < s.length - k by omega) (by omega),List.getElem?_eq_getElem (show w < s'.length by omega),aDF (xs:=s') (k:=w) _ (by omega),cT j4 (show s.length < 4611686018427387904 by omega)]
    by_cases e:x=y<;>simp [e]) (fun s' w=>by
     have hl:(s.drop k).length=s.length - k:=by simp
     simp only [dX,hl,dO];rfl)
   rw [hl,aC]
   unfold eO
   simp only
   rw [aES (by omega),aC,aJf _ (by omega),aC,slc_to (by simp;omega),aC]
   refine ⟨_,rfl,.inl ?_⟩
   rw [List.take_append_of_le_length (by simp;omega),List.take_take,Nat.min_self,g3]
  ·left
   rw [if_neg (by simpa using e)]
   refine ⟨(),rfl,by omega,?_⟩
   rw [hdt,if_neg (fun h=>e h.symm),i2,List.take_add_one]
   simp [hk]
 ·refine ⟨_,by simp only [dY,dO];rfl,.inr ⟨rfl,?_⟩⟩
  have:=hI.2
  rwa [List.take_of_length_le (by omega)] at this
 ·rcases s with _|⟨a,l⟩
  ·rfl
  ·rfl
theorem aGu (s:List Edge) (h:s.length < 1000000000) (hs:s.Pairwise fun a b=>cS a b=true):eH s=some s:=by
 unfold eH
 by_cases h2:s.length < 2
 ·rw [if_pos (by simp;omega)]
 rw [if_neg (by simp;omega)]
 have:=sA (step:=fun k=>dH s k) s.length (fun k (_:Unit)=>(k:Int)) (fun _ _=>.inl ()) (fun k _=>1≤k) (fun k a hk hI=>?_) (fun a hI=>?_) (s.length - 1) 1 () (by omega) (Nat.le_refl _)
 ·rw [show (1:Int)=((1:Nat):Int) from rfl,this,aC];rfl
 ·left
  have hk1:wr ((k:Int) - 1)=((k - 1:Nat):Int):=by rw [fN (by omega) (by omega)];omega
  simp only [dH,dC hk,if_pos,cR hk,aC,hk1,cR (xs:=s) (k:=k - 1) (by omega),eU,cT hk (show s.length < 4611686018427387904 by omega)]
  have hne:¬ s[k]=s[k - 1]'(by omega):=by
   have:=List.pairwise_iff_getElem.1 hs (k - 1) k (by omega) hk (by omega)
   exact fun e=>aHf this e.symm
  rw [if_neg (by simpa using hne)]
  exact ⟨(),rfl,by omega,trivial⟩
 ·simp only [dH,dO];rfl
theorem lts_eq {st ini:Int} {labels M:List aU} {arcs:List oO} (hM:mB M) (hm:∀ s,s≠cW→(s∈labels↔s∈M)) (h1:labels.length < 2000000) (h2:arcs.length < 2000000)
  (hs:(arcs.map fun a=>(⟨a.from_,pos (cW::M) a.label,a.to_⟩:Edge)).Pairwise fun a b=>cS a b=true) (h3:M.length < 2000000):
  aCW st ini labels arcs=some ⟨st,ini,cW::M,arcs.map fun a=>⟨a.from_,pos (cW::M) a.label,a.to_⟩⟩:=by
 unfold aCW
 rw [show ([116,97,117]:aU)=cW from rfl,dR (by simp [iU];omega),aC]
 have e1:aAa ([cW]++labels)=some (zQ uT ([cW]++labels)):=by unfold aAa;rw [if_pos (by simp [iU];omega)]
 rw [e1,aC,aHt _ (by unfold zQ;rw [List.length_mergeSort];simp;omega),aC]
 rw [aKi uT aDL aGt aFj hM.lab (fun x=>?_)]
 ·rw [aDH (step:=fun s:List Edge × Int=>yO arcs (cW::M) s.1 s.2) arcs (fun a=>(⟨a.from_,pos (cW::M) a.label,a.to_⟩:Edge)) id (fun k out x hk ho hx=>?_) (fun out=>by simp only [yO,dO];rfl),aC]
  ·unfold aDA
   have e2:wK (id (arcs.map fun a=>(⟨a.from_,pos (cW::M) a.label,a.to_⟩:Edge)))=some (arcs.map fun a=>(⟨a.from_,pos (cW::M) a.label,a.to_⟩:Edge)):=by
    unfold wK;rw [if_pos (by simp [iU];omega),id,srt_self _ aFS hs]
   rw [e2,aC,aGu _ (by simp;omega) hs,aC]
  ·simp only [yO,dC hk,if_pos,hx,aC,aHc _ _ (show (cW::M).length < 4611686018427387904 by simp;omega),cT hk (show arcs.length < 4611686018427387904 by omega)]
   rw [dR (by simp [iU];omega),aC]
 ·by_cases e:x=cW
  ·subst e;simp
  ·simp [e,hm x e]
end Gv
namespace Gv
open Go
theorem aBA.labs {L:List aU} (h:aBA L) (h11:L.length≤11):pQ (cW::L):=by
 refine ⟨by simp,by simp;omega,fun _=>rfl,fun k h1 hk=>?_⟩
 obtain ⟨j,rfl⟩:∃ j,k=j+1:=⟨k - 1,by omega⟩
 have hj:j < L.length:=by simpa using hk
 have:=h.1 L[j] (List.getElem_mem hj)
 refine ⟨this.1,this.2,fun h2=>?_⟩
 obtain ⟨i,rfl⟩:∃ i,j=i+1:=⟨j - 1,by omega⟩
 exact h.2 (i+1) (by omega) hj
def WF (p:cG) (at_:List Int):Prop:=at_.Nodup∧∀ q∈at_,-1≤q∧q≤p.N - 1
theorem WF.len {p:cG} (hp:cI p) {a:List Int} (h:WF p a):a.length≤41:=by
 have h1:=hp.1
 have:=List.Nodup.length_le_of_subset (l₂:=(List.range 41).map fun (i:Nat)=>(i:Int) - 1) h.1 (fun q hq=>by
  have:=h.2 q hq
  rw [List.mem_map]
  exact ⟨(q+1).toNat,by rw [List.mem_range];omega,by omega⟩)
 simpa using this
end Gv
namespace Gv
open Go
section
variable {p:cG} {L:List aU}
end
end Gv
namespace Gv
open Go
theorem qQ {α:Type} [BEq α] [LawfulBEq α] {xs:List α} {a:α} (h:a∈xs):∃ i:Nat,∃ hi:i < xs.length,pos xs a=(i:Int)∧xs[i]=a:=by
 unfold pos
 cases hx:xs.findIdx? (fun x=>a == x) with
 |none=>
  rw [List.findIdx?_eq_none_iff] at hx
  have:=hx a h
  simp at this
 |some i=>
  rw [List.findIdx?_eq_some_iff_getElem] at hx
  obtain ⟨hi,h1,_⟩:=hx
  exact ⟨i,hi,rfl,by simpa using Eq.symm (by simpa using h1)⟩
theorem pos_lt {α:Type} [BEq α] [LawfulBEq α] {R:α→α→Prop} (asy:∀ {a b},R a b→¬ R b a) {xs:List α} (hx:xs.Pairwise R) {a b:α} (ha:a∈xs) (hb:b∈xs) (hab:R a b):pos xs a < pos xs b:=by
 obtain ⟨i,hi,e1,g1⟩:=qQ ha
 obtain ⟨j,hj,e2,g2⟩:=qQ hb
 rw [e1,e2]
 rcases Nat.lt_trichotomy i j with h|h|h
 ·omega
 ·subst h
  rw [g1] at g2;subst g2
  exact absurd hab (asy hab)
 ·have:=List.pairwise_iff_getElem.1 hx j i hj hi h
  rw [g1,g2] at this
  exact absurd this (asy hab)
theorem pos_at {α:Type} [BEq α] [LawfulBEq α] {R:α→α→Prop} (irr:∀ a,¬ R a a) {xs:List α} (hx:xs.Pairwise R) {k:Nat} (hk:k < xs.length):pos xs xs[k]=(k:Int):=by
 obtain ⟨i,hi,e1,g1⟩:=qQ (List.getElem_mem hk)
 rw [e1]
 rcases Nat.lt_trichotomy i k with h|h|h
 ·have:=List.pairwise_iff_getElem.1 hx i k hi hk h
  rw [g1] at this;exact absurd this (irr _)
 ·rw [h]
 ·have:=List.pairwise_iff_getElem.1 hx k i hk hi h
  rw [g1] at this;exact absurd this (irr _)
theorem aLb:Lib.itoa (-1)=[45,49]:=by
 unfold Lib.itoa
 rw [if_pos (by omega),show (-1:Int).natAbs=1 from rfl,Lib.decDigits_one (by omega)];rfl
theorem aEg {v:Int} (h0:0≤v) (h1:v≤63):(Lib.itoa v).head?≠some 45∧val 0 (Lib.itoa v)=v:=by
 unfold Lib.itoa
 rw [if_neg (by omega)]
 have ofn:∀ n:Nat,n < 10→(UInt8.ofNat (48+n)).toNat=48+n:=by intro n hn;simp;omega
 have ne:∀ n:Nat,n < 10→UInt8.ofNat (48+n)≠45:=by
  intro n hn e
  have:=ofn n hn
  rw [e] at this
  have:(45:UInt8).toNat=45:=rfl
  omega
 by_cases h:v.toNat < 10
 ·rw [Lib.decDigits_one h]
  refine ⟨by simpa using ne _ h,?_⟩
  simp only [val,List.foldl_cons,List.foldl_nil,ofn _ h];omega
 ·rw [Lib.decDigits_two h (by omega)]
  refine ⟨by simpa using ne (v.toNat / 10) (by omega),?_⟩
  simp only [val,List.foldl_cons,List.foldl_nil,ofn (v.toNat / 10) (by omega),ofn (v.toNat % 10) (by omega)];omega
theorem aMa {a b:Int} (ha:-1≤a∧a≤63) (hb:-1≤b∧b≤63) (h:Lib.itoa a=Lib.itoa b):a=b:=by
 by_cases h1:a=-1<;>by_cases h2:b=-1
 ·omega
 ·subst h1
  have:=(aEg (v:=b) (by omega) (by omega)).1
  rw [←h,aLb] at this;simp at this
 ·subst h2
  have:=(aEg (v:=a) (by omega) (by omega)).1
  rw [h,aLb] at this;simp at this
 ·have e1:=(aEg (v:=a) (by omega) (by omega)).2
  have e2:=(aEg (v:=b) (by omega) (by omega)).2
  rw [←e1,←e2,h]
theorem aMb {a:Int} (ha:-1≤a∧a≤63):(Lib.itoa a).length≤2:=by
 by_cases h1:a=-1
 ·subst h1;rw [aLb];simp
 ·unfold Lib.itoa
  rw [if_neg (by omega)]
  by_cases h:a.toNat < 10
  ·rw [Lib.decDigits_one h];simp
  ·rw [Lib.decDigits_two h (by omega)];simp
def key (q:Int):aU:=[48,32]++Lib.itoa q
section
variable {p:cG} {L:List aU}
theorem WF.small (hp:cI p) {a:List Int} (h:WF p a):∀ x∈a,-1≤x∧x≤63:=fun x hx=>by
 have:=h.2 x hx;have:=hp.1;omega
def kI (L:List aU) (e:Edge):oO:=⟨e.F,L.getD (e.B - 1).toNat [],e.To⟩
end
end Gv
namespace Gv
open Go
structure ED (L:List aU) (i k:Int) (n:Nat) (ed:List Edge):Prop where
 ord:ed.Pairwise aBS
 all:∀ e∈ed,0≤e.F∧(e.F < i∨(e.F=i∧e.B≤k))∧1≤e.B∧e.B≤L.length∧0≤e.To∧e.To < n
section
variable {p:cG} {L:List aU}
theorem ED.mono {i k:Int} {n m:Nat} {ed:List Edge} (h:ED L i k n ed) (hm:n≤m):ED L i k m ed:=
 ⟨h.ord,fun e he=>by have:=h.all e he;omega⟩
theorem ED.next {i k:Int} {n:Nat} {ed:List Edge} (h:ED L i k n ed):ED L (i+1) 0 n ed:=
 ⟨h.ord,fun e he=>by have:=h.all e he;omega⟩
theorem aFk {a b:Edge} (h:aBS a b):cS a b=true:=by rw [oM];unfold aBS at h;omega
theorem aNb {ed:List Edge} (h:∀ e∈ed,1≤e.B∧e.B≤L.length) {a:oO} (ha:a∈ed.map (kI L)):∃ k,∃ hk:k < L.length,a.label=L[k]:=by
 obtain ⟨e,he,rfl⟩:=List.mem_map.1 ha
 have:=h e he
 refine ⟨(e.B - 1).toNat,by omega,?_⟩
 unfold kI
 simp only
 rw [List.getD_eq_getElem?_getD,List.getElem?_eq_getElem (by omega)];rfl
theorem aKj (hL:mB L) {ed:List Edge} (h:∀ e∈ed,1≤e.B∧e.B≤L.length):((ed.map (kI L)).map fun a=>(⟨a.from_,pos (cW::L) a.label,a.to_⟩:Edge))=ed:=by
 rw [List.map_map]
 conv=>rhs;rw [←List.map_id ed]
 refine List.map_congr_left fun e he=>?_
 have hb:=h e he
 have hk:(e.B - 1).toNat < L.length:=by omega
 have:pos (cW::L) (L.getD (e.B - 1).toNat [])=e.B:=by
  rw [List.getD_eq_getElem?_getD,List.getElem?_eq_getElem hk]
  have:=pos_at (R:=fun a b=>uT a b=true) (fun a h=>by rw [aDL] at h;cases h) hL.lab (k:=(e.B - 1).toNat+1) (by simp;omega)
  simp only [List.getElem_cons_succ] at this
  simp only [Option.getD_some]
  rw [this];omega
 simp only [Function.comp,kI,this,id]
def aFU (L:List aU) (ed:List Edge):List aU:=L.filter fun s=>(ed.map (kI L)).any fun a=>a.label == s
theorem aET {ed:List Edge} (h:∀ e∈ed,1≤e.B∧e.B≤L.length) {s:aU}:s∈aFU L ed↔s∈(ed.map (kI L)).map (·.label):=by
 unfold aFU
 rw [List.mem_filter,List.any_eq_true,List.mem_map]
 constructor
 ·rintro ⟨_,a,ha,e⟩
  exact ⟨a,ha,by simpa using e⟩
 ·rintro ⟨a,ha,rfl⟩
  obtain ⟨k,hk,e⟩:=aNb h ha
  exact ⟨e ▸ List.getElem_mem hk,a,ha,by simp⟩
theorem aBA.sub {M:List aU} (hL:aBA L) (h:M.Sublist L):aBA M:=by
 refine ⟨fun s hs=>hL.1 s (h.mem hs),fun k h1 hk=>?_⟩
 have:=hL.strict.1.sublist h
 exact List.pairwise_iff_getElem.1 this (k - 1) k (by omega) hk (by omega)
theorem aJh (hL:aBA L) {ed:List Edge} (ho:ed.Pairwise aBS) (h:∀ e∈ed,1≤e.B∧e.B≤L.length):((ed.map (kI L)).map fun a=>(⟨a.from_,pos (cW::aFU L ed) a.label,a.to_⟩:Edge)).Pairwise aBS:=by
 rw [List.map_map,List.pairwise_map]
 have hM:aBA (aFU L ed):=hL.sub List.filter_sublist
 refine ho.imp_of_mem fun {a b} ha hb hab=>?_
 unfold aBS at hab ⊢
 simp only [Function.comp,kI]
 rcases hab with hab|⟨e,hab⟩
 ·exact .inl hab
 ·refine .inr ⟨e,?_⟩
  have h1:=h a ha
  have h2:=h b hb
  have m1:(kI L a).label∈aFU L ed:=(aET h).2 (List.mem_map_of_mem (List.mem_map_of_mem ha))
  have m2:(kI L b).label∈aFU L ed:=(aET h).2 (List.mem_map_of_mem (List.mem_map_of_mem hb))
  refine pos_lt (R:=fun a b=>uT a b=true) (fun {a b} h1 h2=>?_) hM.strict.lab (List.mem_cons_of_mem _ m1) (List.mem_cons_of_mem _ m2) ?_
  ·have:=aGt h1 h2
   rw [aDL] at this;cases this
  ·have hs:=hL.strict
   have g1:(a.B - 1).toNat < L.length:=by omega
   have g2:(b.B - 1).toNat < L.length:=by omega
   have:=List.pairwise_iff_getElem.1 hs.1 _ _ g1 g2 (by omega)
   rw [List.getD_eq_getElem?_getD,List.getElem?_eq_getElem g1,List.getD_eq_getElem?_getD,List.getElem?_eq_getElem g2]
   simp only [Option.getD_some]
   rw [xK]
   refine ⟨fun e=>(by rw [e,oL] at this;cases this),.inr ⟨fun e=>hs.2 (e ▸ List.getElem_mem g2),this⟩⟩
theorem aMc {arcs:List oO} (h:arcs.length < 2000000):aCq arcs=some (arcs.map (·.label)):=by
 unfold aCq
 rw [aDH (step:=fun s:List aU × Int=>rJ arcs s.1 s.2) arcs (·.label) id (fun k out x hk ho hx=>?_) (fun out=>by simp only [rJ,dO];rfl),aC]
 ·rfl
 ·simp only [rJ,dC hk,if_pos,hx,aC,cT hk (show arcs.length < 4611686018427387904 by omega)]
  rw [dR (by simp [iU];omega),aC]
theorem arcs_eq {t:cG} (hv:∀ e∈t.E,tN t e) (h:t.E.length < 2000000):aAf t=some (t.E.map fun e=>⟨e.F,txt t e,e.To⟩):=by
 unfold aAf
 rw [aDH (step:=fun s:List oO × Int=>rK t s.1 s.2) t.E (fun e=>(⟨e.F,txt t e,e.To⟩:oO)) id (fun k out x hk ho hx=>?_) (fun out=>by simp only [rK,dO];rfl),aC]
 ·rfl
 ·obtain ⟨hk',rfl⟩:=aDg hx
  simp only [rK,dC hk,if_pos,hx,aC,aDK (hv _ (List.getElem_mem hk')),cT hk (show t.E.length < 4611686018427387904 by omega)]
  rw [dR (by simp [iU];omega),aC]
def kG (L:List aU) (n:Nat) (ed:List Edge):cG:=⟨(n:Int),0,cW::aFU L ed,(ed.map (kI L)).map fun a=>⟨a.from_,pos (cW::aFU L ed) a.label,a.to_⟩⟩
theorem aNc (hL:aBA L) (h11:L.length≤11) {n:Nat} {ed:List Edge} (ho:ed.Pairwise aBS) (h:∀ e∈ed,1≤e.B∧e.B≤L.length) (hl:ed.length < 2000000):aCW (n:Int) 0 ((ed.map (kI L)).map (·.label)) (ed.map (kI L))=some (kG L n ed):=by
 have hM:aBA (aFU L ed):=hL.sub List.filter_sublist
 have hMl:(aFU L ed).length≤L.length:=List.length_filter_le _ _
 exact lts_eq hM.strict (fun s _=>(aET h).symm) (by simp;omega) (by simp;omega) ((aJh hL ho h).imp aFk) (by omega)
theorem aKk (hL:aBA L) {n:Nat} {ed:List Edge} (hall:∀ e∈ed,(0≤e.F∧e.F < n)∧(1≤e.B∧e.B≤L.length)∧0≤e.To∧e.To < n):∀ e∈(kG L n ed).E,tN (kG L n ed) e:=by
 intro e he
 unfold kG at he
 rw [List.map_map] at he
 obtain ⟨x,hx,rfl⟩:=List.mem_map.1 he
 have:=hall x hx
 have m1:(kI L x).label∈aFU L ed:=(aET fun e he=>(hall e he).2.1).2 (List.mem_map_of_mem (List.mem_map_of_mem hx))
 obtain ⟨i,hi,e1,_⟩:=qQ (List.mem_cons_of_mem cW m1)
 unfold tN kG
 simp only [Function.comp]
 simp only [List.length_cons] at hi ⊢
 rw [e1]
 refine ⟨?_,?_,?_⟩
 ·unfold kI;simp only;omega
 ·unfold kI;simp only;omega
 ·omega
theorem foundT_ok (hL:aBA L) (h11:L.length≤11) {n:Nat} {ed:List Edge} (hn:1≤n∧n≤40) (ho:ed.Pairwise aBS) (hall:∀ e∈ed,(0≤e.F∧e.F < n)∧(1≤e.B∧e.B≤L.length)∧0≤e.To∧e.To < n):cI (kG L n ed)↔ed.length≤300:=by
 have hel:(kG L n ed).E.length=ed.length:=by simp [kG]
 constructor
 ·intro h;have:=h.2.2.2.1;omega
 ·intro h
  have hM:aBA (aFU L ed):=hL.sub List.filter_sublist
  have hMl:(aFU L ed).length≤L.length:=List.length_filter_le _ _
  refine ⟨⟨by simp only [kG];omega,by simp only [kG];omega⟩,⟨by simp only [kG];omega,by simp only [kG];omega⟩,hM.labs (by omega),by omega,fun k hk=>⟨aKk hL hall _ (List.getElem_mem hk),fun h1=>?_⟩⟩
  have:=aJh hL ho fun e he=>(hall e he).2.1
  exact aFk (List.pairwise_iff_getElem.1 this (k - 1) k (by have:=hk;simp only [kG] at this;omega) hk (by omega))
theorem aMd (hL:aBA L) {n:Nat} {ed:List Edge} (hl:ed.length < 2000000) (hall:∀ e∈ed,(0≤e.F∧e.F < n)∧(1≤e.B∧e.B≤L.length)∧0≤e.To∧e.To < n):aAf (kG L n ed)=some (ed.map (kI L)):=by
 rw [arcs_eq (aKk hL hall) (by simp [kG];omega)]
 congr 1
 unfold kG
 simp only
 rw [List.map_map,List.map_map]
 refine List.map_congr_left fun e he=>?_
 have m1:(kI L e).label∈aFU L ed:=(aET fun e he=>(hall e he).2.1).2 (List.mem_map_of_mem (List.mem_map_of_mem he))
 obtain ⟨i,hi,e1,e2⟩:=qQ (List.mem_cons_of_mem cW m1)
 simp only [Function.comp,txt,e1]
 rw [Int.toNat_natCast,List.getD_eq_getElem?_getD,List.getElem?_eq_getElem hi,e2]
 simp only [Option.getD_some]
end
end Gv
namespace Gv
open Go
section
variable {p:cG} {L:List aU}
end
end Gv
namespace Gv
open Go
theorem fM.mono {a b:Nat} {t:cG} (h:fM a t) (hab:a≤b):fM b t:=⟨Nat.le_trans h.1 hab,fun s hs=>Nat.le_trans (h.2.1 s hs) hab,Nat.le_trans h.2.2 hab⟩
end Gv
