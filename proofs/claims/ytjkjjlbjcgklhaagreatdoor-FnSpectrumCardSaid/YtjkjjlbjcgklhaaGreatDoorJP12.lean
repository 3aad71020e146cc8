/- Taking out repetitions, as slices.Compact does; the system made out of labels and arcs. -/
import Derived.Test.YtjkjjlbjcgklhaaGreatDoorJP11
set_option linter.all false
namespace Gv
open Go
theorem aOa {α:Type} [DecidableEq α] (x y:α):∀ xs:List α,iI (xs++[x,y])=if x=y then iI (xs++[x]) else iI (xs++[x])++[y]
 |[]=>by
  simp only [List.nil_append,iI]
  by_cases h:x=y<;>simp [h]
 |[a]=>by
  simp only [List.cons_append,List.nil_append,iI]
  by_cases h:x=y<;>by_cases h2:a=x<;>simp [h,h2]
 |a::b::l=>by
  have ih:=aOa x y (b::l)
  simp only [List.cons_append] at ih ⊢
  unfold iI
  by_cases h2:a=b
  ·rw [if_pos h2,if_pos h2];exact ih
  ·rw [if_neg h2,if_neg h2,ih]
   by_cases h:x=y<;>simp [h]
theorem aKu {α:Type} [DecidableEq α] {s:List α} {m:Nat} (h1:1<=m) (hm:m < s.length):iI (s.take (m+1))=if s[m - 1]'(by omega)=s[m] then iI (s.take m) else iI (s.take m)++[s[m]]:=by
 obtain ⟨k,rfl⟩:∃ k,m=k+1:=⟨m - 1,by omega⟩
 have e1:s.take (k+1)=s.take k++[s[k]]:=by rw [List.take_add_one];simp [show k < s.length by omega]
 have e2:s.take (k+1+1)=s.take k++[s[k],s[k+1]]:=by rw [List.take_add_one,e1,List.getElem?_eq_getElem hm,List.append_assoc];rfl
 rw [e2,e1,aOa];rfl
theorem aJY {α:Type} [DecidableEq α] {step:(List α × Int × Int)->Option ((List α × Int × Int) ⊕ (List α × Int))} (s:List α) (k:Nat) (h1:1<=k) (hk:k < s.length) (hd:iI (s.take (k+1))=s.take k)
  (hst:∀ (j w:Nat) s' x y,1<=j->k+j < s.length->s'.length=s.length->w < s.length->s'[k+j]?=some x->s'[k+j - 1]?=some y->step (s',(w:Int),(j:Int))=some (.inl (if x=y then (s',(w:Int),((j+1:Nat):Int)) else (s'.set w x,((w+1:Nat):Int),((j+1:Nat):Int)))))
  (hen:∀ s' w,step (s',w,((s.length - k:Nat):Int))=some (.inr (s',w))):∃ s' w,loop step (s,(k:Int),1)=some (s',((w:Nat):Int))/\s'.length=s.length/\w<=s.length/\s'.take w=iI s:=by
 have:=cJ (step:=step) (s.length - k) (fun j (a:List α × Nat)=>(a.1,(a.2:Int),(j:Int))) (fun j a=>1<=j/\a.1.length=s.length/\a.2<=k+j - 1/\a.1.take a.2=iI (s.take (k+j))/\∀ i,k+j - 1<=i->a.1[i]?=s[i]?)
  (fun r=>∃ w:Nat,r.2=(w:Int)/\r.1.length=s.length/\w<=s.length/\r.1.take w=iI s) (fun j a hj hI=>?_) (fun a hI=>?_) (s.length - k - 1) 1 (s,k) (by omega) ⟨Nat.le_refl _,rfl,by simp only;omega,by simp only;rw [hd],fun i _=>rfl⟩
 ·obtain ⟨⟨s',w⟩,hr,w',hw,h2,h3,h4⟩:=this
  simp only at hw h2 h3 h4
  subst hw
  exact ⟨s',w',hr,h2,h3,h4⟩
 ·obtain ⟨s',w⟩:=a
  obtain ⟨i1,i2,i3,i4,i5⟩:=hI
  simp only at i2 i3 i4 i5
  have hkj:k+j < s.length:=by omega
  have hx:s'[k+j]?=some s[k+j]:=by rw [i5 _ (by omega),List.getElem?_eq_getElem hkj]
  have hy:s'[k+j - 1]?=some (s[k+j - 1]'(by omega)):=by rw [i5 _ (by omega),List.getElem?_eq_getElem (by omega)]
  have hst':=hst j w s' _ _ i1 hkj i2 (by omega) hx hy
  have hdt:=aKu (s:=s) (m:=k+j) (by omega) hkj
  by_cases e:s[k+j]=s[k+j - 1]'(by omega)
  ·rw [if_pos e] at hst'
   rw [if_pos e.symm] at hdt
   refine ⟨(s',w),hst',by omega,i2,by simp only;omega,?_,fun i hi=>i5 i (by omega)⟩
   simp only;rw [i4,←Nat.add_assoc,hdt]
  ·rw [if_neg e] at hst'
   rw [if_neg (fun h=>e h.symm)] at hdt
   refine ⟨(s'.set w s[k+j],w+1),hst',by omega,by simp [i2],by simp only;omega,?_,fun i hi=>?_⟩
   ·simp only
    rw [←Nat.add_assoc,hdt,←i4,List.take_add_one,List.take_set_of_le (Nat.le_refl _)]
    simp [show w < s'.length by omega]
   ·simp only
    rw [List.getElem?_set_ne (by omega)]
    exact i5 i (by omega)
 ·obtain ⟨s',w⟩:=a
  obtain ⟨i1,i2,i3,i4,i5⟩:=hI
  simp only at i2 i3 i4 i5
  refine ⟨_,hen s' _,w,rfl,i2,by omega,?_⟩
  simp only
  rw [i4,List.take_of_length_le (by omega)]
theorem slc_to {α:Type} {s:List α} {w:Nat} (h:w<=s.length):vT s 0 (w:Int)=some (s.take w):=by
 unfold vT;rw [if_pos ⟨by omega,by omega,by omega⟩];simp
theorem aIS {α:Type} {s:List α} {w:Nat} (h:w<=s.length):vT s (w:Int) (s.length:Int)=some (s.drop w):=by
 unfold vT;rw [if_pos ⟨by omega,by omega,by omega⟩]
 rw [Int.toNat_natCast,Int.toNat_natCast,List.take_of_length_le (by simp)]
theorem aOb {α:Type} {s:List α} {w:Nat} (z:α) (h:w<=s.length):ovw s (w:Int) (List.replicate (s.drop w).length z)=some (s.take w++List.replicate (s.length - w) z):=by
 unfold ovw
 rw [if_pos ⟨by omega,by simp;omega⟩]
 simp
 omega
theorem aOc {σ ρ α:Type} {step:σ->Option (σ ⊕ ρ)} (n:Nat) (g:Nat->α->σ) (I:Nat->α->Prop) (R:ρ->Prop)
  (h:∀ k a,k < n->I k a->(∃ a',step (g k a)=some (.inl (g (k+1) a'))/\I (k+1) a')\/∃ r,step (g k a)=some (.inr r)/\R r)
  (h':∀ a,I n a->∃ r,step (g n a)=some (.inr r)/\R r):∀ j k a,k+j=n->I k a->∃ r,loop step (g k a)=some r/\R r
 |0,k,a,e,hI=>by
  obtain rfl:k=n:=by omega
  obtain ⟨r,h1,h2⟩:=h' a hI
  exact ⟨r,by rw [bR,h1],h2⟩
 |j+1,k,a,e,hI=>by
  rcases h k a (by omega) hI with ⟨a',h1,h2⟩|⟨r,h1,h2⟩
  ·rw [bR,h1]
   exact aOc n g I R h h' j (k+1) a' (by omega) h2
  ·exact ⟨r,by rw [bR,h1],h2⟩
theorem aIT (s:List aL) (h:s.length < 1000000000):dE s=some (iI s):=by
 unfold dE
 by_cases h2:s.length < 2
 ·rw [if_pos (by simp;omega)]
  rcases s with _|⟨a,_|⟨b,l⟩⟩
  ·rfl
  ·rfl
  ·simp at h2;omega
 rw [if_neg (by simp;omega)]
 have:=aOc (step:=fun k=>dV s k) s.length (fun k (_:Unit)=>(k:Int)) (fun k _=>1<=k/\iI (s.take k)=s.take k) (fun r=>r=.inr (iI s)\/(r=.inl ()/\iI s=s)) (fun k a hk hI=>?_) (fun a hI=>?_) (s.length - 1) 1 () (by omega) ⟨Nat.le_refl _,?_⟩
 ·obtain ⟨r,hr,hR⟩:=this
  rw [show (1:Int)=((1:Nat):Int) from rfl,hr,aA]
  rcases hR with rfl|⟨rfl,h⟩
  ·rfl
  ·rw [h];rfl
 ·obtain ⟨i1,i2⟩:=hI
  have hk1:wr ((k:Int) - 1)=((k - 1:Nat):Int):=by rw [fS (by omega) (by omega)];omega
  have hdt:=aKu (s:=s) (m:=k) i1 hk
  simp only [dV,bD hk,if_pos,bE hk,aA,hk1,bE (xs:=s) (k:=k - 1) (by omega),fH,aW hk (show s.length < 4611686018427387904 by omega)]
  by_cases e:s[k]=s[k - 1]'(by omega)
  ·right
   rw [if_pos e.symm,i2] at hdt
   rw [if_pos (by simpa using e),aIS (by omega),aA]
   obtain ⟨s',w,hl,g1,g2,g3⟩:=aJY (step:=fun x:List aL × Int × Int=>dU (k:Int) (s.drop k) x.1 x.2.1 x.2.2) s k i1 hk hdt (fun j w s' x y j1 j2 j3 j4 hx hy=>by
    have hl:(s.drop k).length=s.length - k:=by simp
    have a1:(k:Int)+(j:Int)=((k+j:Nat):Int):=by omega
    have a2:wr ((j:Int) - 1)=((j - 1:Nat):Int):=by rw [fS (by omega) (by omega)];omega
    have a3:(k:Int)+((j - 1:Nat):Int)=((k+j - 1:Nat):Int):=by omega
    simp only [dU,hl,bD (show j < s.length - k by omega),if_pos,bE (xs:=s.drop k) (k:=j) (by omega),aA,a1,aFZ,hx,a2,List.getElem?_eq_getElem (show j - 1 < (s.drop k).length by omega),a3,hy,dT,aW (show j < s.length - k by omega) (by omega),List.getElem?_eq_getElem (show w < s'.length by omega),aCs (xs:=s') (k:=w) _ (by omega),aW j4 (show s.length < 4611686018427387904 by omega)]
    by_cases e:x=y<;>simp [e]) (fun s' w=>by
     have hl:(s.drop k).length=s.length - k:=by simp
     simp only [dU,hl,bI];rfl)
   rw [hl,aA]
   unfold fI
   simp only
   rw [aIS (by omega),aA,aOb _ (by omega),aA,slc_to (by simp;omega),aA]
   refine ⟨_,rfl,.inl ?_⟩
   rw [List.take_append_of_le_length (by simp;omega),List.take_take,Nat.min_self,g3]
  ·left
   rw [if_neg (by simpa using e)]
   refine ⟨(),rfl,by omega,?_⟩
   rw [hdt,if_neg (fun h=>e h.symm),i2,List.take_add_one]
   simp [hk]
 ·refine ⟨_,by simp only [dV,bI];rfl,.inr ⟨rfl,?_⟩⟩
  have:=hI.2
  rwa [List.take_of_length_le (by omega)] at this
 ·rcases s with _|⟨a,l⟩
  ·rfl
  ·rfl
theorem aLk (s:List Edge) (h:s.length < 1000000000) (hs:s.Pairwise fun a b=>bK a b=true):cX s=some s:=by
 unfold cX
 by_cases h2:s.length < 2
 ·rw [if_pos (by simp;omega)]
 rw [if_neg (by simp;omega)]
 have:=yJ (step:=fun k=>cO s k) s.length (fun k (_:Unit)=>(k:Int)) (fun _ _=>.inl ()) (fun k _=>1<=k) (fun k a hk hI=>?_) (fun a hI=>?_) (s.length - 1) 1 () (by omega) (Nat.le_refl _)
 ·rw [show (1:Int)=((1:Nat):Int) from rfl,this,aA];rfl
 ·left
  have hk1:wr ((k:Int) - 1)=((k - 1:Nat):Int):=by rw [fS (by omega) (by omega)];omega
  simp only [cO,bD hk,if_pos,bE hk,aA,hk1,bE (xs:=s) (k:=k - 1) (by omega),eC,aW hk (show s.length < 4611686018427387904 by omega)]
  have hne:¬ s[k]=s[k - 1]'(by omega):=by
   have:=List.pairwise_iff_getElem.1 hs (k - 1) k (by omega) hk (by omega)
   exact fun e=>aMe this e.symm
  rw [if_neg (by simpa using hne)]
  exact ⟨(),rfl,by omega,trivial⟩
 ·simp only [cO,bI];rfl
theorem lts_eq {st ini:Int} {labels M:List aL} {arcs:List nX} (hM:nT M) (hm:∀ s,s≠bC->(s∈labels<->s∈M)) (h1:labels.length < 2000000) (h2:arcs.length < 2000000)
  (hs:(arcs.map fun a=>(⟨a.from_,pos (bC::M) a.label,a.to_⟩:Edge)).Pairwise fun a b=>bK a b=true) (h3:M.length < 2000000):
  aDq st ini labels arcs=some ⟨st,ini,bC::M,arcs.map fun a=>⟨a.from_,pos (bC::M) a.label,a.to_⟩⟩:=by
 unfold aDq
 rw [show ([116,97,117]:aL)=bC from rfl,bS (by simp [iO];omega),aA]
 have e1:xN ([bC]++labels)=some (tI kB ([bC]++labels)):=by unfold xN;rw [if_pos (by simp [iO];omega)]
 rw [e1,aA,aIT _ (by unfold tI;rw [List.length_mergeSort];simp;omega),aA]
 rw [aPE kB aCG aFp aHb hM.lab (fun x=>?_)]
 ·rw [aGY (step:=fun s:List Edge × Int=>aDp arcs (bC::M) s.1 s.2) arcs (fun a=>(⟨a.from_,pos (bC::M) a.label,a.to_⟩:Edge)) id (fun k out x hk ho hx=>?_) (fun out=>by simp only [aDp,bI];rfl),aA]
  ·unfold aIy
   have e2:aAE (id (arcs.map fun a=>(⟨a.from_,pos (bC::M) a.label,a.to_⟩:Edge)))=some (arcs.map fun a=>(⟨a.from_,pos (bC::M) a.label,a.to_⟩:Edge)):=by
    unfold aAE;rw [if_pos (by simp [iO];omega),id,srt_self _ aKt hs]
   rw [e2,aA,aLk _ (by simp;omega) hs,aA]
  ·simp only [aDp,bD hk,if_pos,hx,aA,aMb _ _ (show (bC::M).length < 4611686018427387904 by simp;omega),aW hk (show arcs.length < 4611686018427387904 by omega)]
   rw [bS (by simp [iO];omega),aA]
 ·by_cases e:x=bC
  ·subst e;simp
  ·simp [e,hm x e]
end Gv
namespace Gv
open Go
theorem aEf.labs {L:List aL} (h:aEf L) (h11:L.length<=11):aDU (bC::L):=by
 refine ⟨by simp,by simp;omega,fun _=>rfl,fun k h1 hk=>?_⟩
 obtain ⟨j,rfl⟩:∃ j,k=j+1:=⟨k - 1,by omega⟩
 have hj:j < L.length:=by simpa using hk
 have:=h.1 L[j] (List.getElem_mem hj)
 refine ⟨this.1,this.2,fun h2=>?_⟩
 obtain ⟨i,rfl⟩:∃ i,j=i+1:=⟨j - 1,by omega⟩
 exact h.2 (i+1) (by omega) hj
def WF (p:aO) (at_:List Int):Prop:=at_.Nodup/\∀ q∈at_,-1<=q/\q<=p.N - 1
theorem WF.len {p:aO} (hp:aN p) {a:List Int} (h:WF p a):a.length<=41:=by
 have h1:=hp.1
 have:=List.Nodup.length_le_of_subset (l₂:=(List.range 41).map fun (i:Nat)=>(i:Int) - 1) h.1 (fun q hq=>by
  have:=h.2 q hq
  rw [List.mem_map]
  exact ⟨(q+1).toNat,by rw [List.mem_range];omega,by omega⟩)
 simpa using this
end Gv
namespace Gv
open Go
section
variable {p:aO} {L:List aL}
end
end Gv
namespace Gv
open Go
theorem pU {α:Type} [BEq α] [LawfulBEq α] {xs:List α} {a:α} (h:a∈xs):∃ i:Nat,∃ hi:i < xs.length,pos xs a=(i:Int)/\xs[i]=a:=by
 unfold pos
 cases hx:xs.findIdx? (fun x=>a == x) with
 |none=>
  rw [List.findIdx?_eq_none_iff] at hx
  have:=hx a h
  simp at this
 |some i=>
  rw [List.findIdx?_eq_some_iff_getElem] at hx
  obtain ⟨hi,h1,_⟩:=hx
  exact ⟨i,hi,rfl,by simpa using Eq.symm (by simpa using h1)⟩
theorem pos_lt {α:Type} [BEq α] [LawfulBEq α] {R:α->α->Prop} (asy:∀ {a b},R a b->¬ R b a) {xs:List α} (hx:xs.Pairwise R) {a b:α} (ha:a∈xs) (hb:b∈xs) (hab:R a b):pos xs a < pos xs b:=by
 obtain ⟨i,hi,e1,g1⟩:=pU ha
 obtain ⟨j,hj,e2,g2⟩:=pU hb
 rw [e1,e2]
 rcases Nat.lt_trichotomy i j with h|h|h
 ·omega
 ·subst h
  rw [g1] at g2;subst g2
  exact absurd hab (asy hab)
 ·have:=List.pairwise_iff_getElem.1 hx j i hj hi h
  rw [g1,g2] at this
  exact absurd this (asy hab)
theorem pos_at {α:Type} [BEq α] [LawfulBEq α] {R:α->α->Prop} (irr:∀ a,¬ R a a) {xs:List α} (hx:xs.Pairwise R) {k:Nat} (hk:k < xs.length):pos xs xs[k]=(k:Int):=by
 obtain ⟨i,hi,e1,g1⟩:=pU (List.getElem_mem hk)
 rw [e1]
 rcases Nat.lt_trichotomy i k with h|h|h
 ·have:=List.pairwise_iff_getElem.1 hx i k hi hk h
  rw [g1] at this;exact absurd this (irr _)
 ·rw [h]
 ·have:=List.pairwise_iff_getElem.1 hx k i hk hi h
  rw [g1] at this;exact absurd this (irr _)
theorem aQI:Lib.itoa (-1)=[45,49]:=by
 unfold Lib.itoa
 rw [if_pos (by omega),show (-1:Int).natAbs=1 from rfl,Lib.decDigits_one (by omega)];rfl
theorem aHD {v:Int} (h0:0<=v) (h1:v<=63):(Lib.itoa v).head?≠some 45/\val 0 (Lib.itoa v)=v:=by
 unfold Lib.itoa
 rw [if_neg (by omega)]
 have ofn:∀ n:Nat,n < 10->(UInt8.ofNat (48+n)).toNat=48+n:=by intro n hn;simp;omega
 have ne:∀ n:Nat,n < 10->UInt8.ofNat (48+n)≠45:=by
  intro n hn e
  have:=ofn n hn
  rw [e] at this
  have:(45:UInt8).toNat=45:=rfl
  omega
 by_cases h:v.toNat < 10
 ·rw [Lib.decDigits_one h]
  refine ⟨by simpa using ne _ h,?_⟩
  simp only [val,List.foldl_cons,List.foldl_nil,ofn _ h];omega
 ·rw [Lib.decDigits_two h (by omega)]
  refine ⟨by simpa using ne (v.toNat / 10) (by omega),?_⟩
  simp only [val,List.foldl_cons,List.foldl_nil,ofn (v.toNat / 10) (by omega),ofn (v.toNat % 10) (by omega)];omega
theorem aSg {a b:Int} (ha:-1<=a/\a<=63) (hb:-1<=b/\b<=63) (h:Lib.itoa a=Lib.itoa b):a=b:=by
 by_cases h1:a=-1<;>by_cases h2:b=-1
 ·omega
 ·subst h1
  have:=(aHD (v:=b) (by omega) (by omega)).1
  rw [←h,aQI] at this;simp at this
 ·subst h2
  have:=(aHD (v:=a) (by omega) (by omega)).1
  rw [h,aQI] at this;simp at this
 ·have e1:=(aHD (v:=a) (by omega) (by omega)).2
  have e2:=(aHD (v:=b) (by omega) (by omega)).2
  rw [←e1,←e2,h]
theorem aSh {a:Int} (ha:-1<=a/\a<=63):(Lib.itoa a).length<=2:=by
 by_cases h1:a=-1
 ·subst h1;rw [aQI];simp
 ·unfold Lib.itoa
  rw [if_neg (by omega)]
  by_cases h:a.toNat < 10
  ·rw [Lib.decDigits_one h];simp
  ·rw [Lib.decDigits_two h (by omega)];simp
def key (q:Int):aL:=[48,32]++Lib.itoa q
section
variable {p:aO} {L:List aL}
theorem WF.small (hp:aN p) {a:List Int} (h:WF p a):∀ x∈a,-1<=x/\x<=63:=fun x hx=>by
 have:=h.2 x hx;have:=hp.1;omega
def mV (L:List aL) (e:Edge):nX:=⟨e.F,L.getD (e.B - 1).toNat [],e.To⟩
end
end Gv
namespace Gv
open Go
structure ED (L:List aL) (i k:Int) (n:Nat) (ed:List Edge):Prop where
 ord:ed.Pairwise aEp
 all:∀ e∈ed,0<=e.F/\(e.F < i\/(e.F=i/\e.B<=k))/\1<=e.B/\e.B<=L.length/\0<=e.To/\e.To < n
section
variable {p:aO} {L:List aL}
theorem ED.mono {i k:Int} {n m:Nat} {ed:List Edge} (h:ED L i k n ed) (hm:n<=m):ED L i k m ed:=
 ⟨h.ord,fun e he=>by have:=h.all e he;omega⟩
theorem ED.next {i k:Int} {n:Nat} {ed:List Edge} (h:ED L i k n ed):ED L (i+1) 0 n ed:=
 ⟨h.ord,fun e he=>by have:=h.all e he;omega⟩
theorem aJp {a b:Edge} (h:aEp a b):bK a b=true:=by rw [rV];unfold aEp at h;omega
theorem aTK {ed:List Edge} (h:∀ e∈ed,1<=e.B/\e.B<=L.length) {a:nX} (ha:a∈ed.map (mV L)):∃ k,∃ hk:k < L.length,a.label=L[k]:=by
 obtain ⟨e,he,rfl⟩:=List.mem_map.1 ha
 have:=h e he
 refine ⟨(e.B - 1).toNat,by omega,?_⟩
 unfold mV
 simp only
 rw [List.getD_eq_getElem?_getD,List.getElem?_eq_getElem (by omega)];rfl
theorem aPF (hL:nT L) {ed:List Edge} (h:∀ e∈ed,1<=e.B/\e.B<=L.length):((ed.map (mV L)).map fun a=>(⟨a.from_,pos (bC::L) a.label,a.to_⟩:Edge))=ed:=by
 rw [List.map_map]
 conv=>rhs;rw [←List.map_id ed]
 refine List.map_congr_left fun e he=>?_
 have hb:=h e he
 have hk:(e.B - 1).toNat < L.length:=by omega
 have:pos (bC::L) (L.getD (e.B - 1).toNat [])=e.B:=by
  rw [List.getD_eq_getElem?_getD,List.getElem?_eq_getElem hk]
  have:=pos_at (R:=fun a b=>kB a b=true) (fun a h=>by rw [aCG] at h;cases h) hL.lab (k:=(e.B - 1).toNat+1) (by simp;omega)
  simp only [List.getElem_cons_succ] at this
  simp only [Option.getD_some]
  rw [this];omega
 simp only [Function.comp,mV,this,id]
def aKv (L:List aL) (ed:List Edge):List aL:=L.filter fun s=>(ed.map (mV L)).any fun a=>a.label == s
theorem aIU {ed:List Edge} (h:∀ e∈ed,1<=e.B/\e.B<=L.length) {s:aL}:s∈aKv L ed<->s∈(ed.map (mV L)).map (·.label):=by
 unfold aKv
 rw [List.mem_filter,List.any_eq_true,List.mem_map]
 constructor
 ·rintro ⟨_,a,ha,e⟩
  exact ⟨a,ha,by simpa using e⟩
 ·rintro ⟨a,ha,rfl⟩
  obtain ⟨k,hk,e⟩:=aTK h ha
  exact ⟨e ▸ List.getElem_mem hk,a,ha,by simp⟩
theorem aEf.sub {M:List aL} (hL:aEf L) (h:M.Sublist L):aEf M:=by
 refine ⟨fun s hs=>hL.1 s (h.mem hs),fun k h1 hk=>?_⟩
 have:=hL.strict.1.sublist h
 exact List.pairwise_iff_getElem.1 this (k - 1) k (by omega) hk (by omega)
theorem aOd (hL:aEf L) {ed:List Edge} (ho:ed.Pairwise aEp) (h:∀ e∈ed,1<=e.B/\e.B<=L.length):((ed.map (mV L)).map fun a=>(⟨a.from_,pos (bC::aKv L ed) a.label,a.to_⟩:Edge)).Pairwise aEp:=by
 rw [List.map_map,List.pairwise_map]
 have hM:aEf (aKv L ed):=hL.sub List.filter_sublist
 refine ho.imp_of_mem fun {a b} ha hb hab=>?_
 unfold aEp at hab ⊢
 simp only [Function.comp,mV]
 rcases hab with hab|⟨e,hab⟩
 ·exact .inl hab
 ·refine .inr ⟨e,?_⟩
  have h1:=h a ha
  have h2:=h b hb
  have m1:(mV L a).label∈aKv L ed:=(aIU h).2 (List.mem_map_of_mem (List.mem_map_of_mem ha))
  have m2:(mV L b).label∈aKv L ed:=(aIU h).2 (List.mem_map_of_mem (List.mem_map_of_mem hb))
  refine pos_lt (R:=fun a b=>kB a b=true) (fun {a b} h1 h2=>?_) hM.strict.lab (List.mem_cons_of_mem _ m1) (List.mem_cons_of_mem _ m2) ?_
  ·have:=aFp h1 h2
   rw [aCG] at this;cases this
  ·have hs:=hL.strict
   have g1:(a.B - 1).toNat < L.length:=by omega
   have g2:(b.B - 1).toNat < L.length:=by omega
   have:=List.pairwise_iff_getElem.1 hs.1 _ _ g1 g2 (by omega)
   rw [List.getD_eq_getElem?_getD,List.getElem?_eq_getElem g1,List.getD_eq_getElem?_getD,List.getElem?_eq_getElem g2]
   simp only [Option.getD_some]
   rw [aBp]
   refine ⟨fun e=>(by rw [e,rU] at this;cases this),.inr ⟨fun e=>hs.2 (e ▸ List.getElem_mem g2),this⟩⟩
theorem aSi {arcs:List nX} (h:arcs.length < 2000000):aFa arcs=some (arcs.map (·.label)):=by
 unfold aFa
 rw [aGY (step:=fun s:List aL × Int=>aDa arcs s.1 s.2) arcs (·.label) id (fun k out x hk ho hx=>?_) (fun out=>by simp only [aDa,bI];rfl),aA]
 ·rfl
 ·simp only [aDa,bD hk,if_pos,hx,aA,aW hk (show arcs.length < 4611686018427387904 by omega)]
  rw [bS (by simp [iO];omega),aA]
theorem aQJ {t:aO} (hv:∀ e∈t.E,aAR t e) (h:t.E.length < 2000000):wW t=some (t.E.map fun e=>⟨e.F,qA t e,e.To⟩):=by
 unfold wW
 rw [aGY (step:=fun s:List nX × Int=>aAe t s.1 s.2) t.E (fun e=>(⟨e.F,qA t e,e.To⟩:nX)) id (fun k out x hk ho hx=>?_) (fun out=>by simp only [aAe,bI];rfl),aA]
 ·rfl
 ·obtain ⟨hk',rfl⟩:=lW hx
  simp only [aAe,bD hk,if_pos,hx,aA,aAi (hv _ (List.getElem_mem hk')),aW hk (show t.E.length < 4611686018427387904 by omega)]
  rw [bS (by simp [iO];omega),aA]
def mP (L:List aL) (n:Nat) (ed:List Edge):aO:=⟨(n:Int),0,bC::aKv L ed,(ed.map (mV L)).map fun a=>⟨a.from_,pos (bC::aKv L ed) a.label,a.to_⟩⟩
theorem aTL (hL:aEf L) (h11:L.length<=11) {n:Nat} {ed:List Edge} (ho:ed.Pairwise aEp) (h:∀ e∈ed,1<=e.B/\e.B<=L.length) (hl:ed.length < 2000000):aDq (n:Int) 0 ((ed.map (mV L)).map (·.label)) (ed.map (mV L))=some (mP L n ed):=by
 have hM:aEf (aKv L ed):=hL.sub List.filter_sublist
 have hMl:(aKv L ed).length<=L.length:=List.length_filter_le _ _
 exact lts_eq hM.strict (fun s _=>(aIU h).symm) (by simp;omega) (by simp;omega) ((aOd hL ho h).imp aJp) (by omega)
theorem aPG (hL:aEf L) {n:Nat} {ed:List Edge} (hall:∀ e∈ed,(0<=e.F/\e.F < n)/\(1<=e.B/\e.B<=L.length)/\0<=e.To/\e.To < n):∀ e∈(mP L n ed).E,aAR (mP L n ed) e:=by
 intro e he
 unfold mP at he
 rw [List.map_map] at he
 obtain ⟨x,hx,rfl⟩:=List.mem_map.1 he
 have:=hall x hx
 have m1:(mV L x).label∈aKv L ed:=(aIU fun e he=>(hall e he).2.1).2 (List.mem_map_of_mem (List.mem_map_of_mem hx))
 obtain ⟨i,hi,e1,_⟩:=pU (List.mem_cons_of_mem bC m1)
 unfold aAR mP
 simp only [Function.comp]
 simp only [List.length_cons] at hi ⊢
 rw [e1]
 refine ⟨?_,?_,?_⟩
 ·unfold mV;simp only;omega
 ·unfold mV;simp only;omega
 ·omega
theorem foundT_ok (hL:aEf L) (h11:L.length<=11) {n:Nat} {ed:List Edge} (hn:1<=n/\n<=40) (ho:ed.Pairwise aEp) (hall:∀ e∈ed,(0<=e.F/\e.F < n)/\(1<=e.B/\e.B<=L.length)/\0<=e.To/\e.To < n):aN (mP L n ed)<->ed.length<=300:=by
 have hel:(mP L n ed).E.length=ed.length:=by simp [mP]
 constructor
 ·intro h;have:=h.2.2.2.1;omega
 ·intro h
  have hM:aEf (aKv L ed):=hL.sub List.filter_sublist
  have hMl:(aKv L ed).length<=L.length:=List.length_filter_le _ _
  refine ⟨⟨by simp only [mP];omega,by simp only [mP];omega⟩,⟨by simp only [mP];omega,by simp only [mP];omega⟩,hM.labs (by omega),by omega,fun k hk=>⟨aPG hL hall _ (List.getElem_mem hk),fun h1=>?_⟩⟩
  have:=aOd hL ho fun e he=>(hall e he).2.1
  exact aJp (List.pairwise_iff_getElem.1 this (k - 1) k (by have:=hk;simp only [mP] at this;omega) hk (by omega))
theorem aSj (hL:aEf L) {n:Nat} {ed:List Edge} (hl:ed.length < 2000000) (hall:∀ e∈ed,(0<=e.F/\e.F < n)/\(1<=e.B/\e.B<=L.length)/\0<=e.To/\e.To < n):wW (mP L n ed)=some (ed.map (mV L)):=by
 rw [aQJ (aPG hL hall) (by simp [mP];omega)]
 congr 1
 unfold mP
 simp only
 rw [List.map_map,List.map_map]
 refine List.map_congr_left fun e he=>?_
 have m1:(mV L e).label∈aKv L ed:=(aIU fun e he=>(hall e he).2.1).2 (List.mem_map_of_mem (List.mem_map_of_mem he))
 obtain ⟨i,hi,e1,e2⟩:=pU (List.mem_cons_of_mem bC m1)
 simp only [Function.comp,qA,e1]
 rw [Int.toNat_natCast,List.getD_eq_getElem?_getD,List.getElem?_eq_getElem hi,e2]
 simp only [Option.getD_some]
end
end Gv
namespace Gv
open Go
section
variable {p:aO} {L:List aL}
end
end Gv
namespace Gv
open Go
theorem eT.mono {a b:Nat} {t:aO} (h:eT a t) (hab:a<=b):eT b t:=⟨Nat.le_trans h.1 hab,fun s hs=>Nat.le_trans (h.2.1 s hs) hab,Nat.le_trans h.2.2 hab⟩
end Gv
