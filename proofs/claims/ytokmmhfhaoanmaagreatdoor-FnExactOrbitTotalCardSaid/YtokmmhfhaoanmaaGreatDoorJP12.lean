/- Taking out repetitions, as slices.Compact does; the system made out of labels and arcs. -/
import Derived.Test.YtokmmhfhaoanmaaGreatDoorJP11
set_option linter.all false
namespace Gv
open Go
theorem aPU {α:Type} [DecidableEq α] (x y:α):∀ xs:List α,gX (xs++[x,y])=if x=y then gX (xs++[x]) else gX (xs++[x])++[y]
 |[]=>by
  simp only [List.nil_append,gX]
  by_cases h:x=y<;>simp [h]
 |[a]=>by
  simp only [List.cons_append,List.nil_append,gX]
  by_cases h:x=y<;>by_cases h2:a=x<;>simp [h,h2]
 |a::b::l=>by
  have ih:=aPU x y (b::l)
  simp only [List.cons_append] at ih ⊢
  unfold gX
  by_cases h2:a=b
  ·rw [if_pos h2,if_pos h2];exact ih
  ·rw [if_neg h2,if_neg h2,ih]
   by_cases h:x=y<;>simp [h]
theorem aEw {α:Type} [DecidableEq α] {s:List α} {m:Nat} (h1:1<=m) (hm:m < s.length):gX (s.take (m+1))=if s[m - 1]'(by omega)=s[m] then gX (s.take m) else gX (s.take m)++[s[m]]:=by
 obtain ⟨k,rfl⟩:∃ k,m=k+1:=⟨m - 1,by omega⟩
 have e1:s.take (k+1)=s.take k++[s[k]]:=by rw [List.take_add_one];simp [show k < s.length by omega]
 have e2:s.take (k+1+1)=s.take k++[s[k],s[k+1]]:=by rw [List.take_add_one,e1,List.getElem?_eq_getElem hm,List.append_assoc];rfl
 rw [e2,e1,aPU];rfl
theorem aKw {α:Type} [DecidableEq α] {step:(List α × Int × Int)->Option ((List α × Int × Int) ⊕ (List α × Int))} (s:List α) (k:Nat) (h1:1<=k) (hk:k < s.length) (hd:gX (s.take (k+1))=s.take k)
  (hst:∀ (j w:Nat) s' x y,1<=j->k+j < s.length->s'.length=s.length->w < s.length->s'[k+j]?=some x->s'[k+j - 1]?=some y->step (s',(w:Int),(j:Int))=some (.inl (if x=y then (s',(w:Int),((j+1:Nat):Int)) else (s'.set w x,((w+1:Nat):Int),((j+1:Nat):Int)))))
  (hen:∀ s' w,step (s',w,((s.length - k:Nat):Int))=some (.inr (s',w))):∃ s' w,loop step (s,(k:Int),1)=some (s',((w:Nat):Int))/\s'.length=s.length/\w<=s.length/\s'.take w=gX s:=by
 have:=aEu (step:=step) (s.length - k) (fun j (a:List α × Nat)=>(a.1,(a.2:Int),(j:Int))) (fun j a=>1<=j/\a.1.length=s.length/\a.2<=k+j - 1/\a.1.take a.2=gX (s.take (k+j))/\∀ i,k+j - 1<=i->a.1[i]?=s[i]?)
  (fun r=>∃ w:Nat,r.2=(w:Int)/\r.1.length=s.length/\w<=s.length/\r.1.take w=gX s) (fun j a hj hI=>?_) (fun a hI=>?_) (s.length - k - 1) 1 (s,k) (by omega) ⟨Nat.le_refl _,rfl,by simp only;omega,by simp only;rw [hd],fun i _=>rfl⟩
 ·obtain ⟨⟨s',w⟩,hr,w',hw,h2,h3,h4⟩:=this
  simp only at hw h2 h3 h4
  subst hw
  exact ⟨s',w',hr,h2,h3,h4⟩
 ·obtain ⟨s',w⟩:=a
  obtain ⟨i1,i2,i3,i4,i5⟩:=hI
  simp only at i2 i3 i4 i5
  have hkj:k+j < s.length:=by omega
  have hx:s'[k+j]?=some s[k+j]:=by rw [i5 _ (by omega),List.getElem?_eq_getElem hkj]
  have hy:s'[k+j - 1]?=some (s[k+j - 1]'(by omega)):=by rw [i5 _ (by omega),List.getElem?_eq_getElem (by omega)]
  have hst':=hst j w s' _ _ i1 hkj i2 (by omega) hx hy
  have hdt:=aEw (s:=s) (m:=k+j) (by omega) hkj
  by_cases e:s[k+j]=s[k+j - 1]'(by omega)
  ·rw [if_pos e] at hst'
   rw [if_pos e.symm] at hdt
   refine ⟨(s',w),hst',by omega,i2,by simp only;omega,?_,fun i hi=>i5 i (by omega)⟩
   simp only;rw [i4,←Nat.add_assoc,hdt]
  ·rw [if_neg e] at hst'
   rw [if_neg (fun h=>e h.symm)] at hdt
   refine ⟨(s'.set w s[k+j],w+1),hst',by omega,by simp [i2],by simp only;omega,?_,fun i hi=>?_⟩
   ·simp only
    rw [←Nat.add_assoc,hdt,←i4,List.take_add_one,List.take_set_of_le (Nat.le_refl _)]
    simp [show w < s'.length by omega]
   ·simp only
    rw [List.getElem?_set_ne (by omega)]
    exact i5 i (by omega)
 ·obtain ⟨s',w⟩:=a
  obtain ⟨i1,i2,i3,i4,i5⟩:=hI
  simp only at i2 i3 i4 i5
  refine ⟨_,hen s' _,w,rfl,i2,by omega,?_⟩
  simp only
  rw [i4,List.take_of_length_le (by omega)]
theorem slc_to {α:Type} {s:List α} {w:Nat} (h:w<=s.length):slc s 0 (w:Int)=some (s.take w):=by
 unfold slc;rw [if_pos ⟨by omega,by omega,by omega⟩];simp
theorem aGn {α:Type} {s:List α} {w:Nat} (h:w<=s.length):slc s (w:Int) (s.length:Int)=some (s.drop w):=by
 unfold slc;rw [if_pos ⟨by omega,by omega,by omega⟩]
 rw [Int.toNat_natCast,Int.toNat_natCast,List.take_of_length_le (by simp)]
theorem aLg {α:Type} {s:List α} {w:Nat} (z:α) (h:w<=s.length):ovw s (w:Int) (List.replicate (s.drop w).length z)=some (s.take w++List.replicate (s.length - w) z):=by
 unfold ovw
 rw [if_pos ⟨by omega,by simp;omega⟩]
 simp
 omega
theorem aMz {σ ρ α:Type} {step:σ->Option (σ ⊕ ρ)} (n:Nat) (g:Nat->α->σ) (I:Nat->α->Prop) (R:ρ->Prop)
  (h:∀ k a,k < n->I k a->(∃ a',step (g k a)=some (.inl (g (k+1) a'))/\I (k+1) a')\/∃ r,step (g k a)=some (.inr r)/\R r)
  (h':∀ a,I n a->∃ r,step (g n a)=some (.inr r)/\R r):∀ j k a,k+j=n->I k a->∃ r,loop step (g k a)=some r/\R r
 |0,k,a,e,hI=>by
  obtain rfl:k=n:=by omega
  obtain ⟨r,h1,h2⟩:=h' a hI
  exact ⟨r,by rw [aQ,h1],h2⟩
 |j+1,k,a,e,hI=>by
  rcases h k a (by omega) hI with ⟨a',h1,h2⟩|⟨r,h1,h2⟩
  ·rw [aQ,h1]
   exact aMz n g I R h h' j (k+1) a' (by omega) h2
  ·exact ⟨r,by rw [aQ,h1],h2⟩
theorem aTN (s:List aH) (h:s.length < 1000000000):eP s=some (gX s):=by
 unfold eP
 by_cases h2:s.length < 2
 ·rw [if_pos (by simp;omega)]
  rcases s with _|⟨a,_|⟨b,l⟩⟩
  ·rfl
  ·rfl
  ·simp at h2;omega
 rw [if_neg (by simp;omega)]
 have:=aMz (step:=fun k=>eC s k) s.length (fun k (_:Unit)=>(k:Int)) (fun k _=>1<=k/\gX (s.take k)=s.take k) (fun r=>r=.inr (gX s)\/(r=.inl ()/\gX s=s)) (fun k a hk hI=>?_) (fun a hI=>?_) (s.length - 1) 1 () (by omega) ⟨Nat.le_refl _,?_⟩
 ·obtain ⟨r,hr,hR⟩:=this
  rw [show (1:Int)=((1:Nat):Int) from rfl,hr,aA]
  rcases hR with rfl|⟨rfl,h⟩
  ·rfl
  ·rw [h];rfl
 ·obtain ⟨i1,i2⟩:=hI
  have hk1:wr ((k:Int) - 1)=((k - 1:Nat):Int):=by rw [eG (by omega) (by omega)];omega
  have hdt:=aEw (s:=s) (m:=k) i1 hk
  simp only [eC,aY hk,if_pos,aU hk,aA,hk1,aU (xs:=s) (k:=k - 1) (by omega),fN,aV hk (show s.length < 4611686018427387904 by omega)]
  by_cases e:s[k]=s[k - 1]'(by omega)
  ·right
   rw [if_pos e.symm,i2] at hdt
   rw [if_pos (by simpa using e),aGn (by omega),aA]
   obtain ⟨s',w,hl,g1,g2,g3⟩:=aKw (step:=fun x:List aH × Int × Int=>eB (k:Int) (s.drop k) x.1 x.2.1 x.2.2) s k i1 hk hdt (fun j w s' x y j1 j2 j3 j4 hx hy=>by
    have hl:(s.drop k).length=s.length - k:=by simp
    have a1:(k:Int)+(j:Int)=((k+j:Nat):Int):=by omega
    have a2:wr ((j:Int) - 1)=((j - 1:Nat):Int):=by rw [eG (by omega) (by omega)];omega
    have a3:(k:Int)+((j - 1:Nat):Int)=((k+j - 1:Nat):Int):=by omega
    simp only [eB,hl,aY (show j < s.length - k by omega),if_pos,aU (xs:=s.drop k) (k:=j) (by omega),aA,a1,gK,hx,a2,List.getElem?_eq_getElem (show j - 1 < (s.drop k).length by omega),a3,hy,eA,aV (show j < s.length - k by omega) (by omega),List.getElem?_eq_getElem (show w < s'.length by omega),oO (xs:=s') (k:=w) _ (by omega),aV j4 (show s.length < 4611686018427387904 by omega)]
    by_cases e:x=y<;>simp [e]) (fun s' w=>by
     have hl:(s.drop k).length=s.length - k:=by simp
     simp only [eB,hl,bE];rfl)
   rw [hl,aA]
   unfold fO
   simp only
   rw [aGn (by omega),aA,aLg _ (by omega),aA,slc_to (by simp;omega),aA]
   refine ⟨_,rfl,.inl ?_⟩
   rw [List.take_append_of_le_length (by simp;omega),List.take_take,Nat.min_self,g3]
  ·left
   rw [if_neg (by simpa using e)]
   refine ⟨(),rfl,by omega,?_⟩
   rw [hdt,if_neg (fun h=>e h.symm),i2,List.take_add_one]
   simp [hk]
 ·refine ⟨_,by simp only [eC,bE];rfl,.inr ⟨rfl,?_⟩⟩
  have:=hI.2
  rwa [List.take_of_length_le (by omega)] at this
 ·rcases s with _|⟨a,l⟩
  ·rfl
  ·rfl
end Gv
namespace Gv
open Go
def WF (p:iQ) (at_:List Int):Prop:=at_.Nodup/\∀ q∈at_,-1<=q/\q<=p.N - 1
theorem WF.len {p:iQ} (hp:nE p) {a:List Int} (h:WF p a):a.length<=41:=by
 have h1:=hp.1
 have:=List.Nodup.length_le_of_subset (l₂:=(List.range 41).map fun (i:Nat)=>(i:Int) - 1) h.1 (fun q hq=>by
  have:=h.2 q hq
  rw [List.mem_map]
  exact ⟨(q+1).toNat,by rw [List.mem_range];omega,by omega⟩)
 simpa using this
end Gv
namespace Gv
open Go
section
variable {p:iQ} {L:List aH}
end
end Gv
namespace Gv
open Go
theorem xL {α:Type} [BEq α] [LawfulBEq α] {xs:List α} {a:α} (h:a∈xs):∃ i:Nat,∃ hi:i < xs.length,pos xs a=(i:Int)/\xs[i]=a:=by
 unfold pos
 cases hx:xs.findIdx? (fun x=>a == x) with
 |none=>
  rw [List.findIdx?_eq_none_iff] at hx
  have:=hx a h
  simp at this
 |some i=>
  rw [List.findIdx?_eq_some_iff_getElem] at hx
  obtain ⟨hi,h1,_⟩:=hx
  exact ⟨i,hi,rfl,by simpa using Eq.symm (by simpa using h1)⟩
theorem itoa_m1:Lib.itoa (-1)=[45,49]:=by
 unfold Lib.itoa
 rw [if_pos (by omega),show (-1:Int).natAbs=1 from rfl,Lib.decDigits_one (by omega)];rfl
theorem itoa_len {a:Int} (ha:-1<=a/\a<=63):(Lib.itoa a).length<=2:=by
 by_cases h1:a=-1
 ·subst h1;rw [itoa_m1];simp
 ·unfold Lib.itoa
  rw [if_neg (by omega)]
  by_cases h:a.toNat < 10
  ·rw [Lib.decDigits_one h];simp
  ·rw [Lib.decDigits_two h (by omega)];simp
def key (q:Int):aH:=[48,32]++Lib.itoa q
def mp (k:Nat):List Int->List (aH × Int)
 |[]=>[]
 |q::l=>(key q,(k:Int))::mp (k+1) l
section
variable {p:iQ} {L:List aH}
theorem WF.small (hp:nE p) {a:List Int} (h:WF p a):∀ x∈a,-1<=x/\x<=63:=fun x hx=>by
 have:=h.2 x hx;have:=hp.1;omega
end
end Gv
namespace Gv
open Go
structure ED (L:List aH) (i k:Int) (n:Nat) (ed:List Edge):Prop where
 ord:ed.Pairwise flLt
 all:∀ e∈ed,0<=e.F/\(e.F < i\/(e.F=i/\e.B<=k))/\1<=e.B/\e.B<=L.length/\0<=e.To/\e.To < n
section
variable {p:iQ} {L:List aH}
theorem ED.mono {i k:Int} {n m:Nat} {ed:List Edge} (h:ED L i k n ed) (hm:n<=m):ED L i k m ed:=
 ⟨h.ord,fun e he=>by have:=h.all e he;omega⟩
theorem ED.next {i k:Int} {n:Nat} {ed:List Edge} (h:ED L i k n ed):ED L (i+1) 0 n ed:=
 ⟨h.ord,fun e he=>by have:=h.all e he;omega⟩
theorem SetOk.sub {M:List aH} (hL:SetOk L) (h:M.Sublist L):SetOk M:=by
 refine ⟨fun s hs=>hL.1 s (h.mem hs),fun k h1 hk=>?_⟩
 have:=hL.strict.1.sublist h
 exact List.pairwise_iff_getElem.1 this (k - 1) k (by omega) hk (by omega)
theorem aTO {arcs:List lN} (h:arcs.length < 2000000):aBb arcs=some (arcs.map (·.label)):=by
 unfold aBb
 rw [lH (step:=fun s:List aH × Int=>aBz arcs s.1 s.2) arcs (·.label) id (fun k out x hk ho hx=>?_) (fun out=>by simp only [aBz,bE];rfl),aA]
 ·rfl
 ·simp only [aBz,aY hk,if_pos,hx,aA,aV hk (show arcs.length < 4611686018427387904 by omega)]
  rw [dM (by simp [fG];omega),aA]
end
end Gv
namespace Gv
open Go
section
variable {p:iQ} {L:List aH}
end
end Gv
namespace Gv
open Go
theorem aHj.mono {a b:Nat} {t:iQ} (h:aHj a t) (hab:a<=b):aHj b t:=⟨Nat.le_trans h.1 hab,fun s hs=>Nat.le_trans (h.2.1 s hs) hab,Nat.le_trans h.2.2 hab⟩
end Gv
