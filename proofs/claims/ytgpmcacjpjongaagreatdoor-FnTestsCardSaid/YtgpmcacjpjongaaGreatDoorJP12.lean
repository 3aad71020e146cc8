/- Taking out repetitions, as slices.Compact does; the system made out of labels and arcs. -/
import Derived.Test.YtgpmcacjpjongaaGreatDoorJP11
set_option linter.all false
namespace Gv
open Go
theorem aKF {α:Type} [DecidableEq α] (x y:α):∀ xs:List α,jC (xs++[x,y])=if x=y then jC (xs++[x]) else jC (xs++[x])++[y]
 |[]=>by
  simp only [List.nil_append,jC]
  by_cases h:x=y<;>simp [h]
 |[a]=>by
  simp only [List.cons_append,List.nil_append,jC]
  by_cases h:x=y<;>by_cases h2:a=x<;>simp [h,h2]
 |a::b::l=>by
  have ih:=aKF x y (b::l)
  simp only [List.cons_append] at ih ⊢
  unfold jC
  by_cases h2:a=b
  ·rw [if_pos h2,if_pos h2];exact ih
  ·rw [if_neg h2,if_neg h2,ih]
   by_cases h:x=y<;>simp [h]
theorem aHn {α:Type} [DecidableEq α] {s:List α} {m:Nat} (h1:1<=m) (hm:m < s.length):jC (s.take (m+1))=if s[m - 1]'(by omega)=s[m] then jC (s.take m) else jC (s.take m)++[s[m]]:=by
 obtain ⟨k,rfl⟩:∃ k,m=k+1:=⟨m - 1,by omega⟩
 have e1:s.take (k+1)=s.take k++[s[k]]:=by rw [List.take_add_one];simp [show k < s.length by omega]
 have e2:s.take (k+1+1)=s.take k++[s[k],s[k+1]]:=by rw [List.take_add_one,e1,List.getElem?_eq_getElem hm,List.append_assoc];rfl
 rw [e2,e1,aKF];rfl
theorem aGU {α:Type} [DecidableEq α] {step:(List α × Int × Int)->Option ((List α × Int × Int) ⊕ (List α × Int))} (s:List α) (k:Nat) (h1:1<=k) (hk:k < s.length) (hd:jC (s.take (k+1))=s.take k)
  (hst:∀ (j w:Nat) s' x y,1<=j->k+j < s.length->s'.length=s.length->w < s.length->s'[k+j]?=some x->s'[k+j - 1]?=some y->step (s',(w:Int),(j:Int))=some (.inl (if x=y then (s',(w:Int),((j+1:Nat):Int)) else (s'.set w x,((w+1:Nat):Int),((j+1:Nat):Int)))))
  (hen:∀ s' w,step (s',w,((s.length - k:Nat):Int))=some (.inr (s',w))):∃ s' w,loop step (s,(k:Int),1)=some (s',((w:Nat):Int))/\s'.length=s.length/\w<=s.length/\s'.take w=jC s:=by
 have:=jJ (step:=step) (s.length - k) (fun j (a:List α × Nat)=>(a.1,(a.2:Int),(j:Int))) (fun j a=>1<=j/\a.1.length=s.length/\a.2<=k+j - 1/\a.1.take a.2=jC (s.take (k+j))/\∀ i,k+j - 1<=i->a.1[i]?=s[i]?)
  (fun r=>∃ w:Nat,r.2=(w:Int)/\r.1.length=s.length/\w<=s.length/\r.1.take w=jC s) (fun j a hj hI=>?_) (fun a hI=>?_) (s.length - k - 1) 1 (s,k) (by omega) ⟨Nat.le_refl _,rfl,by simp only;omega,by simp only;rw [hd],fun i _=>rfl⟩
 ·obtain ⟨⟨s',w⟩,hr,w',hw,h2,h3,h4⟩:=this
  simp only at hw h2 h3 h4
  subst hw
  exact ⟨s',w',hr,h2,h3,h4⟩
 ·obtain ⟨s',w⟩:=a
  obtain ⟨i1,i2,i3,i4,i5⟩:=hI
  simp only at i2 i3 i4 i5
  have hkj:k+j < s.length:=by omega
  have hx:s'[k+j]?=some s[k+j]:=by rw [i5 _ (by omega),List.getElem?_eq_getElem hkj]
  have hy:s'[k+j - 1]?=some (s[k+j - 1]'(by omega)):=by rw [i5 _ (by omega),List.getElem?_eq_getElem (by omega)]
  have hst':=hst j w s' _ _ i1 hkj i2 (by omega) hx hy
  have hdt:=aHn (s:=s) (m:=k+j) (by omega) hkj
  by_cases e:s[k+j]=s[k+j - 1]'(by omega)
  ·rw [if_pos e] at hst'
   rw [if_pos e.symm] at hdt
   refine ⟨(s',w),hst',by omega,i2,by simp only;omega,?_,fun i hi=>i5 i (by omega)⟩
   simp only;rw [i4,←Nat.add_assoc,hdt]
  ·rw [if_neg e] at hst'
   rw [if_neg (fun h=>e h.symm)] at hdt
   refine ⟨(s'.set w s[k+j],w+1),hst',by omega,by simp [i2],by simp only;omega,?_,fun i hi=>?_⟩
   ·simp only
    rw [←Nat.add_assoc,hdt,←i4,List.take_add_one,List.take_set_of_le (Nat.le_refl _)]
    simp [show w < s'.length by omega]
   ·simp only
    rw [List.getElem?_set_ne (by omega)]
    exact i5 i (by omega)
 ·obtain ⟨s',w⟩:=a
  obtain ⟨i1,i2,i3,i4,i5⟩:=hI
  simp only at i2 i3 i4 i5
  refine ⟨_,hen s' _,w,rfl,i2,by omega,?_⟩
  simp only
  rw [i4,List.take_of_length_le (by omega)]
theorem slc_to {α:Type} {s:List α} {w:Nat} (h:w<=s.length):nV s 0 (w:Int)=some (s.take w):=by
 unfold nV;rw [if_pos ⟨by omega,by omega,by omega⟩];simp
theorem aGh {α:Type} {s:List α} {w:Nat} (h:w<=s.length):nV s (w:Int) (s.length:Int)=some (s.drop w):=by
 unfold nV;rw [if_pos ⟨by omega,by omega,by omega⟩]
 rw [Int.toNat_natCast,Int.toNat_natCast,List.take_of_length_le (by simp)]
theorem aKG {α:Type} {s:List α} {w:Nat} (z:α) (h:w<=s.length):ovw s (w:Int) (List.replicate (s.drop w).length z)=some (s.take w++List.replicate (s.length - w) z):=by
 unfold ovw
 rw [if_pos ⟨by omega,by simp;omega⟩]
 simp
 omega
theorem aKH {σ ρ α:Type} {step:σ->Option (σ ⊕ ρ)} (n:Nat) (g:Nat->α->σ) (I:Nat->α->Prop) (R:ρ->Prop)
  (h:∀ k a,k < n->I k a->(∃ a',step (g k a)=some (.inl (g (k+1) a'))/\I (k+1) a')\/∃ r,step (g k a)=some (.inr r)/\R r)
  (h':∀ a,I n a->∃ r,step (g n a)=some (.inr r)/\R r):∀ j k a,k+j=n->I k a->∃ r,loop step (g k a)=some r/\R r
 |0,k,a,e,hI=>by
  obtain rfl:k=n:=by omega
  obtain ⟨r,h1,h2⟩:=h' a hI
  exact ⟨r,by rw [cR,h1],h2⟩
 |j+1,k,a,e,hI=>by
  rcases h k a (by omega) hI with ⟨a',h1,h2⟩|⟨r,h1,h2⟩
  ·rw [cR,h1]
   exact aKH n g I R h h' j (k+1) a' (by omega) h2
  ·exact ⟨r,by rw [cR,h1],h2⟩
theorem aGi (s:List aF) (h:s.length < 1000000000):dS s=some (jC s):=by
 unfold dS
 by_cases h2:s.length < 2
 ·rw [if_pos (by simp;omega)]
  rcases s with _|⟨a,_|⟨b,l⟩⟩
  ·rfl
  ·rfl
  ·simp at h2;omega
 rw [if_neg (by simp;omega)]
 have:=aKH (step:=fun k=>eF s k) s.length (fun k (_:Unit)=>(k:Int)) (fun k _=>1<=k/\jC (s.take k)=s.take k) (fun r=>r=.inr (jC s)\/(r=.inl ()/\jC s=s)) (fun k a hk hI=>?_) (fun a hI=>?_) (s.length - 1) 1 () (by omega) ⟨Nat.le_refl _,?_⟩
 ·obtain ⟨r,hr,hR⟩:=this
  rw [show (1:Int)=((1:Nat):Int) from rfl,hr,aA]
  rcases hR with rfl|⟨rfl,h⟩
  ·rfl
  ·rw [h];rfl
 ·obtain ⟨i1,i2⟩:=hI
  have hk1:wr ((k:Int) - 1)=((k - 1:Nat):Int):=by rw [fX (by omega) (by omega)];omega
  have hdt:=aHn (s:=s) (m:=k) i1 hk
  simp only [eF,cF hk,if_pos,cN hk,aA,hk1,cN (xs:=s) (k:=k - 1) (by omega),fU,bV hk (show s.length < 4611686018427387904 by omega)]
  by_cases e:s[k]=s[k - 1]'(by omega)
  ·right
   rw [if_pos e.symm,i2] at hdt
   rw [if_pos (by simpa using e),aGh (by omega),aA]
   obtain ⟨s',w,hl,g1,g2,g3⟩:=aGU (step:=fun x:List aF × Int × Int=>eE (k:Int) (s.drop k) x.1 x.2.1 x.2.2) s k i1 hk hdt (fun j w s' x y j1 j2 j3 j4 hx hy=>by
    have hl:(s.drop k).length=s.length - k:=by simp
    have a1:(k:Int)+(j:Int)=((k+j:Nat):Int):=by omega
    have a2:wr ((j:Int) - 1)=((j - 1:Nat):Int):=by rw [fX (by omega) (by omega)];omega
    have a3:(k:Int)+((j - 1:Nat):Int)=((k+j - 1:Nat):Int):=by omega
    simp only [eE,hl,cF (show j < s.length - k by omega),if_pos,cN (xs:=s.drop k) (k:=j) (by omega),aA,a1,aFC,hx,a2,List.getElem?_eq_getElem (show j - 1 < (s.drop k).length by omega),a3,hy,eD,bV (show j < s.length - k by omega) (by omega),List.getElem?_eq_getElem (show w < s'.length by omega),aEz (xs:=s') (k:=w) _ (by omega),bV j4 (show s.length < 4611686018427387904 by omega)]
    by_cases e:x=y<;>simp [e]) (fun s' w=>by
     have hl:(s.drop k).length=s.length - k:=by simp
     simp only [eE,hl,cB];rfl)
   rw [hl,aA]
   unfold fV
   simp only
   rw [aGh (by omega),aA,aKG _ (by omega),aA,slc_to (by simp;omega),aA]
   refine ⟨_,rfl,.inl ?_⟩
   rw [List.take_append_of_le_length (by simp;omega),List.take_take,Nat.min_self,g3]
  ·left
   rw [if_neg (by simpa using e)]
   refine ⟨(),rfl,by omega,?_⟩
   rw [hdt,if_neg (fun h=>e h.symm),i2,List.take_add_one]
   simp [hk]
 ·refine ⟨_,by simp only [eF,cB];rfl,.inr ⟨rfl,?_⟩⟩
  have:=hI.2
  rwa [List.take_of_length_le (by omega)] at this
 ·rcases s with _|⟨a,l⟩
  ·rfl
  ·rfl
theorem aIb (s:List Edge) (h:s.length < 1000000000) (hs:s.Pairwise fun a b=>cA a b=true):dO s=some s:=by
 unfold dO
 by_cases h2:s.length < 2
 ·rw [if_pos (by simp;omega)]
 rw [if_neg (by simp;omega)]
 have:=wW (step:=fun k=>dB s k) s.length (fun k (_:Unit)=>(k:Int)) (fun _ _=>.inl ()) (fun k _=>1<=k) (fun k a hk hI=>?_) (fun a hI=>?_) (s.length - 1) 1 () (by omega) (Nat.le_refl _)
 ·rw [show (1:Int)=((1:Nat):Int) from rfl,this,aA];rfl
 ·left
  have hk1:wr ((k:Int) - 1)=((k - 1:Nat):Int):=by rw [fX (by omega) (by omega)];omega
  simp only [dB,cF hk,if_pos,cN hk,aA,hk1,cN (xs:=s) (k:=k - 1) (by omega),eK,bV hk (show s.length < 4611686018427387904 by omega)]
  have hne:¬ s[k]=s[k - 1]'(by omega):=by
   have:=List.pairwise_iff_getElem.1 hs (k - 1) k (by omega) hk (by omega)
   exact fun e=>aIH this e.symm
  rw [if_neg (by simpa using hne)]
  exact ⟨(),rfl,by omega,trivial⟩
 ·simp only [dB,cB];rfl
theorem lts_eq {st ini:Int} {labels M:List aF} {arcs:List mN} (hM:mI M) (hm:∀ s,s≠bU->(s∈labels<->s∈M)) (h1:labels.length < 2000000) (h2:arcs.length < 2000000)
  (hs:(arcs.map fun a=>(⟨a.from_,pos (bU::M) a.label,a.to_⟩:Edge)).Pairwise fun a b=>cA a b=true) (h3:M.length < 2000000):
  aCV st ini labels arcs=some ⟨st,ini,bU::M,arcs.map fun a=>⟨a.from_,pos (bU::M) a.label,a.to_⟩⟩:=by
 unfold aCV
 rw [show ([116,97,117]:aF)=bU from rfl,cX (by simp [kJ];omega),aA]
 have e1:uI ([bU]++labels)=some (vE sG ([bU]++labels)):=by unfold uI;rw [if_pos (by simp [kJ];omega)]
 rw [e1,aA,aGi _ (by unfold vE;rw [List.length_mergeSort];simp;omega),aA]
 rw [aLQ sG aEB aIa aGz hM.lab (fun x=>?_)]
 ·rw [aGy (step:=fun s:List Edge × Int=>aBg arcs (bU::M) s.1 s.2) arcs (fun a=>(⟨a.from_,pos (bU::M) a.label,a.to_⟩:Edge)) id (fun k out x hk ho hx=>?_) (fun out=>by simp only [aBg,cB];rfl),aA]
  ·unfold aFO
   have e2:xA (id (arcs.map fun a=>(⟨a.from_,pos (bU::M) a.label,a.to_⟩:Edge)))=some (arcs.map fun a=>(⟨a.from_,pos (bU::M) a.label,a.to_⟩:Edge)):=by
    unfold xA;rw [if_pos (by simp [kJ];omega),id,srt_self _ aKD hs]
   rw [e2,aA,aIb _ (by simp;omega) hs,aA]
  ·simp only [aBg,cF hk,if_pos,hx,aA,aID _ _ (show (bU::M).length < 4611686018427387904 by simp;omega),bV hk (show arcs.length < 4611686018427387904 by omega)]
   rw [cX (by simp [kJ];omega),aA]
 ·by_cases e:x=bU
  ·subst e;simp
  ·simp [e,hm x e]
end Gv
namespace Gv
open Go
theorem aBK.labs {L:List aF} (h:aBK L) (h11:L.length<=11):qW (bU::L):=by
 refine ⟨by simp,by simp;omega,fun _=>rfl,fun k h1 hk=>?_⟩
 obtain ⟨j,rfl⟩:∃ j,k=j+1:=⟨k - 1,by omega⟩
 have hj:j < L.length:=by simpa using hk
 have:=h.1 L[j] (List.getElem_mem hj)
 refine ⟨this.1,this.2,fun h2=>?_⟩
 obtain ⟨i,rfl⟩:∃ i,j=i+1:=⟨j - 1,by omega⟩
 exact h.2 (i+1) (by omega) hj
def WF (p:bF) (at_:List Int):Prop:=at_.Nodup/\∀ q∈at_,-1<=q/\q<=p.N - 1
theorem WF.len {p:bF} (hp:bM p) {a:List Int} (h:WF p a):a.length<=41:=by
 have h1:=hp.1
 have:=List.Nodup.length_le_of_subset (l₂:=(List.range 41).map fun (i:Nat)=>(i:Int) - 1) h.1 (fun q hq=>by
  have:=h.2 q hq
  rw [List.mem_map]
  exact ⟨(q+1).toNat,by rw [List.mem_range];omega,by omega⟩)
 simpa using this
end Gv
namespace Gv
open Go
section
variable {p:bF} {L:List aF}
end
end Gv
namespace Gv
open Go
theorem wX {α:Type} [BEq α] [LawfulBEq α] {xs:List α} {a:α} (h:a∈xs):∃ i:Nat,∃ hi:i < xs.length,pos xs a=(i:Int)/\xs[i]=a:=by
 unfold pos
 cases hx:xs.findIdx? (fun x=>a == x) with
 |none=>
  rw [List.findIdx?_eq_none_iff] at hx
  have:=hx a h
  simp at this
 |some i=>
  rw [List.findIdx?_eq_some_iff_getElem] at hx
  obtain ⟨hi,h1,_⟩:=hx
  exact ⟨i,hi,rfl,by simpa using Eq.symm (by simpa using h1)⟩
theorem pos_lt {α:Type} [BEq α] [LawfulBEq α] {R:α->α->Prop} (asy:∀ {a b},R a b->¬ R b a) {xs:List α} (hx:xs.Pairwise R) {a b:α} (ha:a∈xs) (hb:b∈xs) (hab:R a b):pos xs a < pos xs b:=by
 obtain ⟨i,hi,e1,g1⟩:=wX ha
 obtain ⟨j,hj,e2,g2⟩:=wX hb
 rw [e1,e2]
 rcases Nat.lt_trichotomy i j with h|h|h
 ·omega
 ·subst h
  rw [g1] at g2;subst g2
  exact absurd hab (asy hab)
 ·have:=List.pairwise_iff_getElem.1 hx j i hj hi h
  rw [g1,g2] at this
  exact absurd this (asy hab)
theorem pos_at {α:Type} [BEq α] [LawfulBEq α] {R:α->α->Prop} (irr:∀ a,¬ R a a) {xs:List α} (hx:xs.Pairwise R) {k:Nat} (hk:k < xs.length):pos xs xs[k]=(k:Int):=by
 obtain ⟨i,hi,e1,g1⟩:=wX (List.getElem_mem hk)
 rw [e1]
 rcases Nat.lt_trichotomy i k with h|h|h
 ·have:=List.pairwise_iff_getElem.1 hx i k hi hk h
  rw [g1] at this;exact absurd this (irr _)
 ·rw [h]
 ·have:=List.pairwise_iff_getElem.1 hx k i hk hi h
  rw [g1] at this;exact absurd this (irr _)
theorem aML:Lib.itoa (-1)=[45,49]:=by
 unfold Lib.itoa
 rw [if_pos (by omega),show (-1:Int).natAbs=1 from rfl,Lib.decDigits_one (by omega)];rfl
theorem aFf {v:Int} (h0:0<=v) (h1:v<=63):(Lib.itoa v).head?≠some 45/\val 0 (Lib.itoa v)=v:=by
 unfold Lib.itoa
 rw [if_neg (by omega)]
 have ofn:∀ n:Nat,n < 10->(UInt8.ofNat (48+n)).toNat=48+n:=by intro n hn;simp;omega
 have ne:∀ n:Nat,n < 10->UInt8.ofNat (48+n)≠45:=by
  intro n hn e
  have:=ofn n hn
  rw [e] at this
  have:(45:UInt8).toNat=45:=rfl
  omega
 by_cases h:v.toNat < 10
 ·rw [Lib.decDigits_one h]
  refine ⟨by simpa using ne _ h,?_⟩
  simp only [val,List.foldl_cons,List.foldl_nil,ofn _ h];omega
 ·rw [Lib.decDigits_two h (by omega)]
  refine ⟨by simpa using ne (v.toNat / 10) (by omega),?_⟩
  simp only [val,List.foldl_cons,List.foldl_nil,ofn (v.toNat / 10) (by omega),ofn (v.toNat % 10) (by omega)];omega
theorem aNR {a b:Int} (ha:-1<=a/\a<=63) (hb:-1<=b/\b<=63) (h:Lib.itoa a=Lib.itoa b):a=b:=by
 by_cases h1:a=-1<;>by_cases h2:b=-1
 ·omega
 ·subst h1
  have:=(aFf (v:=b) (by omega) (by omega)).1
  rw [←h,aML] at this;simp at this
 ·subst h2
  have:=(aFf (v:=a) (by omega) (by omega)).1
  rw [h,aML] at this;simp at this
 ·have e1:=(aFf (v:=a) (by omega) (by omega)).2
  have e2:=(aFf (v:=b) (by omega) (by omega)).2
  rw [←e1,←e2,h]
theorem aNS {a:Int} (ha:-1<=a/\a<=63):(Lib.itoa a).length<=2:=by
 by_cases h1:a=-1
 ·subst h1;rw [aML];simp
 ·unfold Lib.itoa
  rw [if_neg (by omega)]
  by_cases h:a.toNat < 10
  ·rw [Lib.decDigits_one h];simp
  ·rw [Lib.decDigits_two h (by omega)];simp
def key (q:Int):aF:=[48,32]++Lib.itoa q
section
variable {p:bF} {L:List aF}
theorem WF.small (hp:bM p) {a:List Int} (h:WF p a):∀ x∈a,-1<=x/\x<=63:=fun x hx=>by
 have:=h.2 x hx;have:=hp.1;omega
def lA (L:List aF) (e:Edge):mN:=⟨e.F,L.getD (e.B - 1).toNat [],e.To⟩
end
end Gv
namespace Gv
open Go
structure ED (L:List aF) (i k:Int) (n:Nat) (ed:List Edge):Prop where
 ord:ed.Pairwise aCa
 all:∀ e∈ed,0<=e.F/\(e.F < i\/(e.F=i/\e.B<=k))/\1<=e.B/\e.B<=L.length/\0<=e.To/\e.To < n
section
variable {p:bF} {L:List aF}
theorem ED.mono {i k:Int} {n m:Nat} {ed:List Edge} (h:ED L i k n ed) (hm:n<=m):ED L i k m ed:=
 ⟨h.ord,fun e he=>by have:=h.all e he;omega⟩
theorem ED.next {i k:Int} {n:Nat} {ed:List Edge} (h:ED L i k n ed):ED L (i+1) 0 n ed:=
 ⟨h.ord,fun e he=>by have:=h.all e he;omega⟩
theorem aGA {a b:Edge} (h:aCa a b):cA a b=true:=by rw [qX];unfold aCa at h;omega
theorem aOX {ed:List Edge} (h:∀ e∈ed,1<=e.B/\e.B<=L.length) {a:mN} (ha:a∈ed.map (lA L)):∃ k,∃ hk:k < L.length,a.label=L[k]:=by
 obtain ⟨e,he,rfl⟩:=List.mem_map.1 ha
 have:=h e he
 refine ⟨(e.B - 1).toNat,by omega,?_⟩
 unfold lA
 simp only
 rw [List.getD_eq_getElem?_getD,List.getElem?_eq_getElem (by omega)];rfl
theorem aLR (hL:mI L) {ed:List Edge} (h:∀ e∈ed,1<=e.B/\e.B<=L.length):((ed.map (lA L)).map fun a=>(⟨a.from_,pos (bU::L) a.label,a.to_⟩:Edge))=ed:=by
 rw [List.map_map]
 conv=>rhs;rw [←List.map_id ed]
 refine List.map_congr_left fun e he=>?_
 have hb:=h e he
 have hk:(e.B - 1).toNat < L.length:=by omega
 have:pos (bU::L) (L.getD (e.B - 1).toNat [])=e.B:=by
  rw [List.getD_eq_getElem?_getD,List.getElem?_eq_getElem hk]
  have:=pos_at (R:=fun a b=>sG a b=true) (fun a h=>by rw [aEB] at h;cases h) hL.lab (k:=(e.B - 1).toNat+1) (by simp;omega)
  simp only [List.getElem_cons_succ] at this
  simp only [Option.getD_some]
  rw [this];omega
 simp only [Function.comp,lA,this,id]
def aHo (L:List aF) (ed:List Edge):List aF:=L.filter fun s=>(ed.map (lA L)).any fun a=>a.label == s
theorem aGj {ed:List Edge} (h:∀ e∈ed,1<=e.B/\e.B<=L.length) {s:aF}:s∈aHo L ed<->s∈(ed.map (lA L)).map (·.label):=by
 unfold aHo
 rw [List.mem_filter,List.any_eq_true,List.mem_map]
 constructor
 ·rintro ⟨_,a,ha,e⟩
  exact ⟨a,ha,by simpa using e⟩
 ·rintro ⟨a,ha,rfl⟩
  obtain ⟨k,hk,e⟩:=aOX h ha
  exact ⟨e ▸ List.getElem_mem hk,a,ha,by simp⟩
theorem aBK.sub {M:List aF} (hL:aBK L) (h:M.Sublist L):aBK M:=by
 refine ⟨fun s hs=>hL.1 s (h.mem hs),fun k h1 hk=>?_⟩
 have:=hL.strict.1.sublist h
 exact List.pairwise_iff_getElem.1 this (k - 1) k (by omega) hk (by omega)
theorem aKI (hL:aBK L) {ed:List Edge} (ho:ed.Pairwise aCa) (h:∀ e∈ed,1<=e.B/\e.B<=L.length):((ed.map (lA L)).map fun a=>(⟨a.from_,pos (bU::aHo L ed) a.label,a.to_⟩:Edge)).Pairwise aCa:=by
 rw [List.map_map,List.pairwise_map]
 have hM:aBK (aHo L ed):=hL.sub List.filter_sublist
 refine ho.imp_of_mem fun {a b} ha hb hab=>?_
 unfold aCa at hab ⊢
 simp only [Function.comp,lA]
 rcases hab with hab|⟨e,hab⟩
 ·exact .inl hab
 ·refine .inr ⟨e,?_⟩
  have h1:=h a ha
  have h2:=h b hb
  have m1:(lA L a).label∈aHo L ed:=(aGj h).2 (List.mem_map_of_mem (List.mem_map_of_mem ha))
  have m2:(lA L b).label∈aHo L ed:=(aGj h).2 (List.mem_map_of_mem (List.mem_map_of_mem hb))
  refine pos_lt (R:=fun a b=>sG a b=true) (fun {a b} h1 h2=>?_) hM.strict.lab (List.mem_cons_of_mem _ m1) (List.mem_cons_of_mem _ m2) ?_
  ·have:=aIa h1 h2
   rw [aEB] at this;cases this
  ·have hs:=hL.strict
   have g1:(a.B - 1).toNat < L.length:=by omega
   have g2:(b.B - 1).toNat < L.length:=by omega
   have:=List.pairwise_iff_getElem.1 hs.1 _ _ g1 g2 (by omega)
   rw [List.getD_eq_getElem?_getD,List.getElem?_eq_getElem g1,List.getD_eq_getElem?_getD,List.getElem?_eq_getElem g2]
   simp only [Option.getD_some]
   rw [yF]
   refine ⟨fun e=>(by rw [e,nI] at this;cases this),.inr ⟨fun e=>hs.2 (e ▸ List.getElem_mem g2),this⟩⟩
theorem aNT {arcs:List mN} (h:arcs.length < 2000000):aCW arcs=some (arcs.map (·.label)):=by
 unfold aCW
 rw [aGy (step:=fun s:List aF × Int=>aAL arcs s.1 s.2) arcs (·.label) id (fun k out x hk ho hx=>?_) (fun out=>by simp only [aAL,cB];rfl),aA]
 ·rfl
 ·simp only [aAL,cF hk,if_pos,hx,aA,bV hk (show arcs.length < 4611686018427387904 by omega)]
  rw [cX (by simp [kJ];omega),aA]
theorem arcs_eq {t:bF} (hv:∀ e∈t.E,sE t e) (h:t.E.length < 2000000):xJ t=some (t.E.map fun e=>⟨e.F,qY t e,e.To⟩):=by
 unfold xJ
 rw [aGy (step:=fun s:List mN × Int=>wC t s.1 s.2) t.E (fun e=>(⟨e.F,qY t e,e.To⟩:mN)) id (fun k out x hk ho hx=>?_) (fun out=>by simp only [wC,cB];rfl),aA]
 ·rfl
 ·obtain ⟨hk',rfl⟩:=mH hx
  simp only [wC,cF hk,if_pos,hx,aA,aAm (hv _ (List.getElem_mem hk')),bV hk (show t.E.length < 4611686018427387904 by omega)]
  rw [cX (by simp [kJ];omega),aA]
def kW (L:List aF) (n:Nat) (ed:List Edge):bF:=⟨(n:Int),0,bU::aHo L ed,(ed.map (lA L)).map fun a=>⟨a.from_,pos (bU::aHo L ed) a.label,a.to_⟩⟩
theorem aOY (hL:aBK L) (h11:L.length<=11) {n:Nat} {ed:List Edge} (ho:ed.Pairwise aCa) (h:∀ e∈ed,1<=e.B/\e.B<=L.length) (hl:ed.length < 2000000):aCV (n:Int) 0 ((ed.map (lA L)).map (·.label)) (ed.map (lA L))=some (kW L n ed):=by
 have hM:aBK (aHo L ed):=hL.sub List.filter_sublist
 have hMl:(aHo L ed).length<=L.length:=List.length_filter_le _ _
 exact lts_eq hM.strict (fun s _=>(aGj h).symm) (by simp;omega) (by simp;omega) ((aKI hL ho h).imp aGA) (by omega)
theorem aLS (hL:aBK L) {n:Nat} {ed:List Edge} (hall:∀ e∈ed,(0<=e.F/\e.F < n)/\(1<=e.B/\e.B<=L.length)/\0<=e.To/\e.To < n):∀ e∈(kW L n ed).E,sE (kW L n ed) e:=by
 intro e he
 unfold kW at he
 rw [List.map_map] at he
 obtain ⟨x,hx,rfl⟩:=List.mem_map.1 he
 have:=hall x hx
 have m1:(lA L x).label∈aHo L ed:=(aGj fun e he=>(hall e he).2.1).2 (List.mem_map_of_mem (List.mem_map_of_mem hx))
 obtain ⟨i,hi,e1,_⟩:=wX (List.mem_cons_of_mem bU m1)
 unfold sE kW
 simp only [Function.comp]
 simp only [List.length_cons] at hi ⊢
 rw [e1]
 refine ⟨?_,?_,?_⟩
 ·unfold lA;simp only;omega
 ·unfold lA;simp only;omega
 ·omega
theorem foundT_ok (hL:aBK L) (h11:L.length<=11) {n:Nat} {ed:List Edge} (hn:1<=n/\n<=40) (ho:ed.Pairwise aCa) (hall:∀ e∈ed,(0<=e.F/\e.F < n)/\(1<=e.B/\e.B<=L.length)/\0<=e.To/\e.To < n):bM (kW L n ed)<->ed.length<=300:=by
 have hel:(kW L n ed).E.length=ed.length:=by simp [kW]
 constructor
 ·intro h;have:=h.2.2.2.1;omega
 ·intro h
  have hM:aBK (aHo L ed):=hL.sub List.filter_sublist
  have hMl:(aHo L ed).length<=L.length:=List.length_filter_le _ _
  refine ⟨⟨by simp only [kW];omega,by simp only [kW];omega⟩,⟨by simp only [kW];omega,by simp only [kW];omega⟩,hM.labs (by omega),by omega,fun k hk=>⟨aLS hL hall _ (List.getElem_mem hk),fun h1=>?_⟩⟩
  have:=aKI hL ho fun e he=>(hall e he).2.1
  exact aGA (List.pairwise_iff_getElem.1 this (k - 1) k (by have:=hk;simp only [kW] at this;omega) hk (by omega))
theorem aNU (hL:aBK L) {n:Nat} {ed:List Edge} (hl:ed.length < 2000000) (hall:∀ e∈ed,(0<=e.F/\e.F < n)/\(1<=e.B/\e.B<=L.length)/\0<=e.To/\e.To < n):xJ (kW L n ed)=some (ed.map (lA L)):=by
 rw [arcs_eq (aLS hL hall) (by simp [kW];omega)]
 congr 1
 unfold kW
 simp only
 rw [List.map_map,List.map_map]
 refine List.map_congr_left fun e he=>?_
 have m1:(lA L e).label∈aHo L ed:=(aGj fun e he=>(hall e he).2.1).2 (List.mem_map_of_mem (List.mem_map_of_mem he))
 obtain ⟨i,hi,e1,e2⟩:=wX (List.mem_cons_of_mem bU m1)
 simp only [Function.comp,qY,e1]
 rw [Int.toNat_natCast,List.getD_eq_getElem?_getD,List.getElem?_eq_getElem hi,e2]
 simp only [Option.getD_some]
end
end Gv
namespace Gv
open Go
section
variable {p:bF} {L:List aF}
end
end Gv
namespace Gv
open Go
theorem cJ.mono {a b:Nat} {t:bF} (h:cJ a t) (hab:a<=b):cJ b t:=⟨Nat.le_trans h.1 hab,fun s hs=>Nat.le_trans (h.2.1 s hs) hab,Nat.le_trans h.2.2 hab⟩
end Gv
