/- Taking out repetitions, as slices.Compact does; the system made out of labels and arcs. -/
import Derived.Test.YtnpdckpkipjngaaGreatDoorKP11
set_option linter.all false
namespace Gv
open Go
theorem aJP {α:Type} [DecidableEq α] (x y:α):∀ xs:List α,nT (xs++[x,y])=if x=y then nT (xs++[x]) else nT (xs++[x])++[y]
 |[]=>by
  simp only [List.nil_append,nT]
  by_cases h:x=y<;>simp [h]
 |[a]=>by
  simp only [List.cons_append,List.nil_append,nT]
  by_cases h:x=y<;>by_cases h2:a=x<;>simp [h,h2]
 |a::b::l=>by
  have ih:=aJP x y (b::l)
  simp only [List.cons_append] at ih ⊢
  unfold nT
  by_cases h2:a=b
  ·rw [if_pos h2,if_pos h2];exact ih
  ·rw [if_neg h2,if_neg h2,ih]
   by_cases h:x=y<;>simp [h]
theorem aJQ {α:Type} [DecidableEq α] {s:List α} {m:Nat} (h1:1≤m) (hm:m < s.length):nT (s.take (m+1))=if s[m - 1]'(by omega)=s[m] then nT (s.take m) else nT (s.take m)++[s[m]]:=by
 obtain ⟨k,rfl⟩:∃ k,m=k+1:=⟨m - 1,by omega⟩
 have e1:s.take (k+1)=s.take k++[s[k]]:=by rw [List.take_add_one];simp [show k < s.length by omega]
 have e2:s.take (k+1+1)=s.take k++[s[k],s[k+1]]:=by rw [List.take_add_one,e1,List.getElem?_eq_getElem hm,List.append_assoc];rfl
 rw [e2,e1,aJP];rfl
theorem aKJ {α:Type} [DecidableEq α] {step:(List α × Int × Int)→Option ((List α × Int × Int) ⊕ (List α × Int))} (s:List α) (k:Nat) (h1:1≤k) (hk:k < s.length) (hd:nT (s.take (k+1))=s.take k)
  (hst:∀ (j w:Nat) s' x y,1≤j→k+j < s.length→s'.length=s.length→w < s.length→s'[k+j]?=some x→s'[k+j - 1]?=some y→step (s',(w:Int),(j:Int))=some (.inl (if x=y then (s',(w:Int),((j+1:Nat):Int)) else (s'.set w x,((w+1:Nat):Int),((j+1:Nat):Int)))))
  (hen:∀ s' w,step (s',w,((s.length - k:Nat):Int))=some (.inr (s',w))):∃ s' w,loop step (s,(k:Int),1)=some (s',((w:Nat):Int))∧s'.length=s.length∧w≤s.length∧s'.take w=nT s:=by
 have:=yH (step:=step) (s.length - k) (fun j (a:List α × Nat)=>(a.1,(a.2:Int),(j:Int))) (fun j a=>1≤j∧a.1.length=s.length∧a.2≤k+j - 1∧a.1.take a.2=nT (s.take (k+j))∧∀ i,k+j - 1≤i→a.1[i]?=s[i]?)
  (fun r=>∃ w:Nat,r.2=(w:Int)∧r.1.length=s.length∧w≤s.length∧r.1.take w=nT s) (fun j a hj hI=>?_) (fun a hI=>?_) (s.length - k - 1) 1 (s,k) (by omega) ⟨Nat.le_refl _,rfl,by simp only;omega,by simp only;rw [hd],fun i _=>rfl⟩
 ·obtain ⟨⟨s',w⟩,hr,w',hw,h2,h3,h4⟩:=this
  simp only at hw h2 h3 h4
  subst hw
  exact ⟨s',w',hr,h2,h3,h4⟩
 ·obtain ⟨s',w⟩:=a
  obtain ⟨i1,i2,i3,i4,i5⟩:=hI
  simp only at i2 i3 i4 i5
  have hkj:k+j < s.length:=by omega
  have hx:s'[k+j]?=some s[k+j]:=by rw [i5 _ (by omega),List.getElem?_eq_getElem hkj]
  have hy:s'[k+j - 1]?=some (s[k+j - 1]'(by omega)):=by rw [i5 _ (by omega),List.getElem?_eq_getElem (by omega)]
  have hst':=hst j w s' _ _ i1 hkj i2 (by omega) hx hy
  have hdt:=aJQ (s:=s) (m:=k+j) (by omega) hkj
  by_cases e:s[k+j]=s[k+j - 1]'(by omega)
  ·rw [if_pos e] at hst'
   rw [if_pos e.symm] at hdt
   refine ⟨(s',w),hst',by omega,i2,by simp only;omega,?_,fun i hi=>i5 i (by omega)⟩
   simp only;rw [i4,←Nat.add_assoc,hdt]
  ·rw [if_neg e] at hst'
   rw [if_neg (fun h=>e h.symm)] at hdt
   refine ⟨(s'.set w s[k+j],w+1),hst',by omega,by simp [i2],by simp only;omega,?_,fun i hi=>?_⟩
   ·simp only
    rw [←Nat.add_assoc,hdt,←i4,List.take_add_one,List.take_set_of_le (Nat.le_refl _)]
    simp [show w < s'.length by omega]
   ·simp only
    rw [List.getElem?_set_ne (by omega)]
    exact i5 i (by omega)
 ·obtain ⟨s',w⟩:=a
  obtain ⟨i1,i2,i3,i4,i5⟩:=hI
  simp only at i2 i3 i4 i5
  refine ⟨_,hen s' _,w,rfl,i2,by omega,?_⟩
  simp only
  rw [i4,List.take_of_length_le (by omega)]
theorem slc_to {α:Type} {s:List α} {w:Nat} (h:w≤s.length):slc s 0 (w:Int)=some (s.take w):=by
 unfold slc;rw [if_pos ⟨by omega,by omega,by omega⟩];simp
theorem aJR {α:Type} {s:List α} {w:Nat} (h:w≤s.length):slc s (w:Int) (s.length:Int)=some (s.drop w):=by
 unfold slc;rw [if_pos ⟨by omega,by omega,by omega⟩]
 rw [Int.toNat_natCast,Int.toNat_natCast,List.take_of_length_le (by simp)]
theorem aOK {α:Type} {s:List α} {w:Nat} (z:α) (h:w≤s.length):ovw s (w:Int) (List.replicate (s.drop w).length z)=some (s.take w++List.replicate (s.length - w) z):=by
 unfold ovw
 rw [if_pos ⟨by omega,by simp;omega⟩]
 simp
 omega
theorem aNz {σ ρ α:Type} {step:σ→Option (σ ⊕ ρ)} (n:Nat) (g:Nat→α→σ) (I:Nat→α→Prop) (R:ρ→Prop)
  (h:∀ k a,k < n→I k a→(∃ a',step (g k a)=some (.inl (g (k+1) a'))∧I (k+1) a')∨∃ r,step (g k a)=some (.inr r)∧R r)
  (h':∀ a,I n a→∃ r,step (g n a)=some (.inr r)∧R r):∀ j k a,k+j=n→I k a→∃ r,loop step (g k a)=some r∧R r
 |0,k,a,e,hI=>by
  obtain rfl:k=n:=by omega
  obtain ⟨r,h1,h2⟩:=h' a hI
  exact ⟨r,by rw [bM,h1],h2⟩
 |j+1,k,a,e,hI=>by
  rcases h k a (by omega) hI with ⟨a',h1,h2⟩|⟨r,h1,h2⟩
  ·rw [bM,h1]
   exact aNz n g I R h h' j (k+1) a' (by omega) h2
  ·exact ⟨r,by rw [bM,h1],h2⟩
theorem aNA (s:List aZ) (h:s.length < 1000000000):eT s=some (nT s):=by
 unfold eT
 by_cases h2:s.length < 2
 ·rw [if_pos (by simp;omega)]
  rcases s with _|⟨a,_|⟨b,l⟩⟩
  ·rfl
  ·rfl
  ·simp at h2;omega
 rw [if_neg (by simp;omega)]
 have:=aNz (step:=fun k=>dL s k) s.length (fun k (_:Unit)=>(k:Int)) (fun k _=>1≤k∧nT (s.take k)=s.take k) (fun r=>r=.inr (nT s)∨(r=.inl ()∧nT s=s)) (fun k a hk hI=>?_) (fun a hI=>?_) (s.length - 1) 1 () (by omega) ⟨Nat.le_refl _,?_⟩
 ·obtain ⟨r,hr,hR⟩:=this
  rw [show (1:Int)=((1:Nat):Int) from rfl,hr,aI]
  rcases hR with rfl|⟨rfl,h⟩
  ·rfl
  ·rw [h];rfl
 ·obtain ⟨i1,i2⟩:=hI
  have hk1:wr ((k:Int) - 1)=((k - 1:Nat):Int):=by rw [fL (by omega) (by omega)];omega
  have hdt:=aJQ (s:=s) (m:=k) i1 hk
  simp only [dL,cB hk,if_pos,cO hk,aI,hk1,cO (xs:=s) (k:=k - 1) (by omega),fK,bV hk (show s.length < 4611686018427387904 by omega)]
  by_cases e:s[k]=s[k - 1]'(by omega)
  ·right
   rw [if_pos e.symm,i2] at hdt
   rw [if_pos (by simpa using e),aJR (by omega),aI]
   obtain ⟨s',w,hl,g1,g2,g3⟩:=aKJ (step:=fun x:List aZ × Int × Int=>dK (k:Int) (s.drop k) x.1 x.2.1 x.2.2) s k i1 hk hdt (fun j w s' x y j1 j2 j3 j4 hx hy=>by
    have hl:(s.drop k).length=s.length - k:=by simp
    have a1:(k:Int)+(j:Int)=((k+j:Nat):Int):=by omega
    have a2:wr ((j:Int) - 1)=((j - 1:Nat):Int):=by rw [fL (by omega) (by omega)];omega
    have a3:(k:Int)+((j - 1:Nat):Int)=((k+j - 1:Nat):Int):=by omega
    simp only [dK,hl,cB (show j < s.length - k by omega),if_pos,cO (xs:=s.drop k) (k:=j) (by omega),aI,a1,iT,hx,a2,List.getElem?_eq_getElem (show j - 1 < (s.drop k).length by omega),a3,hy,eA,bV (show j < s.length - k by omega) (by omega),List.getElem?_eq_getElem (show w < s'.length by omega),wN (xs:=s') (k:=w) _ (by omega),bV j4 (show s.length < 4611686018427387904 by omega)]
    by_cases e:x=y<;>simp [e]) (fun s' w=>by
     have hl:(s.drop k).length=s.length - k:=by simp
     simp only [dK,hl,bT];rfl)
   rw [hl,aI]
   unfold dZ
   simp only
   rw [aJR (by omega),aI,aOK _ (by omega),aI,slc_to (by simp;omega),aI]
   refine ⟨_,rfl,.inl ?_⟩
   rw [List.take_append_of_le_length (by simp;omega),List.take_take,Nat.min_self,g3]
  ·left
   rw [if_neg (by simpa using e)]
   refine ⟨(),rfl,by omega,?_⟩
   rw [hdt,if_neg (fun h=>e h.symm),i2,List.take_add_one]
   simp [hk]
 ·refine ⟨_,by simp only [dL,bT];rfl,.inr ⟨rfl,?_⟩⟩
  have:=hI.2
  rwa [List.take_of_length_le (by omega)] at this
 ·rcases s with _|⟨a,l⟩
  ·rfl
  ·rfl
theorem aMj (s:List Edge) (h:s.length < 1000000000) (hs:s.Pairwise fun a b=>dP a b=true):dT s=some s:=by
 unfold dT
 by_cases h2:s.length < 2
 ·rw [if_pos (by simp;omega)]
 rw [if_neg (by simp;omega)]
 have:=gT (step:=fun k=>cX s k) s.length (fun k (_:Unit)=>(k:Int)) (fun _ _=>.inl ()) (fun k _=>1≤k) (fun k a hk hI=>?_) (fun a hI=>?_) (s.length - 1) 1 () (by omega) (Nat.le_refl _)
 ·rw [show (1:Int)=((1:Nat):Int) from rfl,this,aI];rfl
 ·left
  have hk1:wr ((k:Int) - 1)=((k - 1:Nat):Int):=by rw [fL (by omega) (by omega)];omega
  simp only [cX,cB hk,if_pos,cO hk,aI,hk1,cO (xs:=s) (k:=k - 1) (by omega),eF,bV hk (show s.length < 4611686018427387904 by omega)]
  have hne:¬ s[k]=s[k - 1]'(by omega):=by
   have:=List.pairwise_iff_getElem.1 hs (k - 1) k (by omega) hk (by omega)
   exact fun e=>aHN this e.symm
  rw [if_neg (by simpa using hne)]
  exact ⟨(),rfl,by omega,trivial⟩
 ·simp only [cX,bT];rfl
theorem aMk {st ini:Int} {labels M:List aZ} {arcs:List lS} (hM:aFz M) (hm:∀ s,s≠dY→(s∈labels↔s∈M)) (h1:labels.length < 2000000) (h2:arcs.length < 2000000)
  (hs:(arcs.map fun a=>(⟨a.from_,pos (dY::M) a.label,a.to_⟩:Edge)).Pairwise fun a b=>dP a b=true) (h3:M.length < 2000000):
  aGS st ini labels arcs=some ⟨st,ini,dY::M,arcs.map fun a=>⟨a.from_,pos (dY::M) a.label,a.to_⟩⟩:=by
 unfold aGS
 rw [show ([116,97,117]:aZ)=dY from rfl,eW (by simp [jJ];omega),aI]
 have e1:aCQ ([dY]++labels)=some (srt uC ([dY]++labels)):=by unfold aCQ;rw [if_pos (by simp [jJ];omega)]
 rw [e1,aI,aNA _ (by unfold srt;rw [List.length_mergeSort];simp;omega),aI]
 rw [srt_dedup uC aDl aJu aHM hM.lab (fun x=>?_)]
 ·rw [aGA (step:=fun s:List Edge × Int=>aCW arcs (dY::M) s.1 s.2) arcs (fun a=>(⟨a.from_,pos (dY::M) a.label,a.to_⟩:Edge)) id (fun k out x hk ho hx=>?_) (fun out=>by simp only [aCW,bT];rfl),aI]
  ·unfold aES
   have e2:aBu (id (arcs.map fun a=>(⟨a.from_,pos (dY::M) a.label,a.to_⟩:Edge)))=some (arcs.map fun a=>(⟨a.from_,pos (dY::M) a.label,a.to_⟩:Edge)):=by
    unfold aBu;rw [if_pos (by simp [jJ];omega),id,srt_self _ aOH hs]
   rw [e2,aI,aMj _ (by simp;omega) hs,aI]
  ·simp only [aCW,cB hk,if_pos,hx,aI,aLf _ _ (show (dY::M).length < 4611686018427387904 by simp;omega),bV hk (show arcs.length < 4611686018427387904 by omega)]
   rw [eW (by simp [jJ];omega),aI]
 ·by_cases e:x=dY
  ·subst e;simp
  ·simp [e,hm x e]
end Gv
namespace Gv
open Go
def dN (L:List aZ):cH:=⟨1,0,dY::L,(List.range L.length).map fun (i:Nat)=>⟨0,(i:Int)+1,0⟩⟩
theorem aDu (L:List aZ):(dN L).E.length=L.length:=by simp [dN]
theorem tO {L:List aZ} {i:Nat} (h:i < (dN L).E.length):(dN L).E[i]=⟨0,(i:Int)+1,0⟩:=by simp [dN]
theorem lO.labs {L:List aZ} (h:lO L) (h11:L.length≤11):qV (dY::L):=by
 refine ⟨by simp,by simp;omega,fun _=>rfl,fun k h1 hk=>?_⟩
 obtain ⟨j,rfl⟩:∃ j,k=j+1:=⟨k - 1,by omega⟩
 have hj:j < L.length:=by simpa using hk
 have:=h.1 L[j] (List.getElem_mem hj)
 refine ⟨this.1,this.2,fun h2=>?_⟩
 obtain ⟨i,rfl⟩:∃ i,j=i+1:=⟨j - 1,by omega⟩
 exact h.2 (i+1) (by omega) hj
theorem aBp {L:List aZ} (hL:lO L) (h11:L.length≤11):One (dN L):=by
 refine ⟨⟨⟨by simp [dN],by simp [dN]⟩,⟨by simp [dN],by simp [dN]⟩,hL.labs h11,by rw [aDu];omega,fun k hk=>?_⟩,fun k hk=>?_,rfl⟩
 ·have hk':k < L.length:=by rw [aDu] at hk;exact hk
  rw [tO hk]
  refine ⟨⟨⟨by simp,by simp [dN]⟩,⟨by simp,by simp [dN]⟩,by simp;omega,by simp [dN];omega⟩,fun h1=>?_⟩
  rw [tO (i:=k - 1) (by omega),lX]
  refine .inr ⟨rfl,.inl ?_⟩
  simp only;omega
 ·rw [tO hk]
  refine ⟨by simp only;omega,fun h1=>?_⟩
  rw [tO (i:=k - 1) (by omega)]
  rintro ⟨_,h⟩
  simp only at h;omega
theorem aJS (L:List aZ):tx (dN L)=L:=by
 unfold tx
 refine List.ext_getElem (by simp [dN]) fun i h1 h2=>?_
 rw [List.getElem_map,tO (by simpa using h1)]
 unfold txt dN
 have e:((i:Int)+1).toNat=i+1:=by omega
 simp only [e]
 rw [List.getD_eq_getElem?_getD,List.getElem?_cons_succ,List.getElem?_eq_getElem h2];rfl
noncomputable def tP (p:cH) (L:List aZ) (q:Int):Int:=if q < 0 then 2 else if (tW p L).getD q.toNat false=false then 1 else if (tX p L).getD q.toNat false=false then 2 else 0
theorem aNB (p:cH) (L:List aZ):(tW p L).length=p.N.toNat:=by simp [tW]
theorem aNC (p:cH) (L:List aZ):(tX p L).length=p.N.toNat:=by simp [tX]
theorem aKK {p:cH} (hp:cT p) (L:List aZ) {q:Int} (hq:q≤p.N - 1):aDN p (tW p L) (tX p L) [0] q=some (tP p L q):=by
 have h1:=hp.1
 unfold aDN tP
 by_cases h0:q < 0
 ·rw [if_pos (by simpa using h0),if_pos h0]
 rw [if_neg (by simpa using h0),if_neg h0]
 have s0:vA p (tW p L) (tX p L) [0] q false false 0=some (.inl ((tW p L).getD q.toNat false,(tX p L).getD q.toNat false,1)):=by
  simp only [vA,show ix [(0:Int)] 0=some 0 from rfl,aI,at0 (x:=p.N) (y:=q) (by omega) (by omega)]
  rw [if_pos (by simp),if_neg (by simp),aEe (by omega) (by rw [aNB];omega),aI]
  simp only [aAL,show ix [(0:Int)] 0=some 0 from rfl,aI,at0 (x:=p.N) (y:=q) (by omega) (by omega)]
  rw [if_neg (by simp),aEe (by omega) (by rw [aNC];omega),aI];rfl
 have s1:vA p (tW p L) (tX p L) [0] q ((tW p L).getD q.toNat false) ((tX p L).getD q.toNat false) 1=some (.inr ((tW p L).getD q.toNat false,(tX p L).getD q.toNat false)):=rfl
 rw [bM,s0];simp only
 rw [bM,s1];simp only [aI,aEo]
 cases (tW p L).getD q.toNat false<;>cases (tX p L).getD q.toNat false<;>rfl
theorem aND {p:cH} (hp:cT p) (L:List aZ) {q:Int} (hq:q≤p.N - 1):vC ⟨[tW p L],[tX p L]⟩ [0] q=some (tP p L q):=by
 have h1:=hp.1
 unfold vC tP
 by_cases h0:q < 0
 ·rw [if_pos (by simpa using h0),if_pos h0]
 rw [if_neg (by simpa using h0),if_neg h0]
 have f2:gK [0] ⟨[tW p L],[tX p L]⟩ q=some ((tW p L).getD q.toNat false):=by
  unfold gK kZ
  have s0:eU [0] ⟨[tW p L],[tX p L]⟩ q 0=if (tW p L).getD q.toNat false=true then some (.inr (.inr 0)) else some (.inl 1):=by
   simp only [eU,show ix [(0:Int)] 0=some 0 from rfl,aI,aBE,show ix [tW p L] 0=some (tW p L) from rfl]
   rw [if_pos (by simp),aEe (by omega) (by rw [aNB];omega),aI,aI];rfl
  have s1:eU [0] ⟨[tW p L],[tX p L]⟩ q 1=some (.inr (.inl ())):=rfl
  rw [bM,s0]
  cases (tW p L).getD q.toNat false with
  |true=>rfl
  |false=>simp only [Bool.false_eq_true,if_false];rw [bM,s1];rfl
 have f3:gL [0] ⟨[tW p L],[tX p L]⟩ q=some ((tX p L).getD q.toNat false):=by
  unfold gL lA
  have s0:eV [0] ⟨[tW p L],[tX p L]⟩ q 0=if (tX p L).getD q.toNat false=true then some (.inr (.inr 0)) else some (.inl 1):=by
   simp only [eV,show ix [(0:Int)] 0=some 0 from rfl,aI,aBF,show ix [tX p L] 0=some (tX p L) from rfl]
   rw [if_pos (by simp),aEe (by omega) (by rw [aNC];omega),aI,aI];rfl
  have s1:eV [0] ⟨[tW p L],[tX p L]⟩ q 1=some (.inr (.inl ())):=rfl
  rw [bM,s0]
  cases (tX p L).getD q.toNat false with
  |true=>rfl
  |false=>simp only [Bool.false_eq_true,if_false];rw [bM,s1];rfl
 rw [f2,aI,f3,aI]
 cases (tW p L).getD q.toNat false<;>cases (tX p L).getD q.toNat false<;>rfl
def ins (at_:List Int) (q:Int):List Int × Int:=if 0≤pos at_ q then (at_,pos at_ q) else (at_++[q],(at_.length:Int))
def xin (p:cH) (i:Int) (q:Int):List aZ→Nat→List Int × List Edge→List Int × List Edge
 |[],_,s=>s
 |l::ls,k,s=>xin p i q ls (k+1) ((ins s.1 (wP p q l)).1,s.2++[⟨i,(k:Int)+1,(ins s.1 (wP p q l)).2⟩])
noncomputable def aEj (p:cH) (L:List aZ):Nat→Nat→List Int × List Edge→List Int × List Edge
 |0,_,s=>s
 |n+1,i,s=>match s.1[i]? with
  |none=>s
  |some q=>aEj p L n (i+1) (if tP p L q=0 then xin p (i:Int) q L 0 s else s)
def WF (p:cH) (at_:List Int):Prop:=at_.Nodup∧∀ q∈at_,-1≤q∧q≤p.N - 1
theorem WF.len {p:cH} (hp:cT p) {a:List Int} (h:WF p a):a.length≤41:=by
 have h1:=hp.1
 have:=List.Nodup.length_le_of_subset (l₂:=(List.range 41).map fun (i:Nat)=>(i:Int) - 1) h.1 (fun q hq=>by
  have:=h.2 q hq
  rw [List.mem_map]
  exact ⟨(q+1).toNat,by rw [List.mem_range];omega,by omega⟩)
 simpa using this
theorem aMl {a:List Int} {q:Int}:0≤pos a q↔q∈a:=by
 have:=aLV a q
 rw [←decide_eq_true_iff (p:=0≤pos a q),this,List.any_eq_true]
 exact ⟨fun ⟨x,hx,e⟩=>by
   have:q=x:=by simpa using e
   rw [this];exact hx,fun h=>⟨q,h,by simp⟩⟩
theorem ins_WF {p:cH} {a:List Int} (h:WF p a) {q:Int} (hq:-1≤q∧q≤p.N - 1):WF p (ins a q).1:=by
 unfold ins
 by_cases hp:0≤pos a q
 ·rw [if_pos hp];exact h
 ·rw [if_neg hp]
  have hn:q∉a:=fun h=>hp (aMl.2 h)
  refine ⟨?_,fun x hx=>?_⟩
  ·rw [List.nodup_append]
   exact ⟨h.1,by simp,fun x hx y hy=>by simp at hy;subst hy;exact fun e=>hn (e ▸ hx)⟩
  ·rcases List.mem_append.1 hx with hx|hx
   ·exact h.2 x hx
   ·simp at hx;subst hx;exact hq
theorem ins_pre (a:List Int) (q:Int):a <+:(ins a q).1:=by
 unfold ins;split
 ·exact List.prefix_refl _
 ·exact List.prefix_append _ _
theorem aMm {p:cH} (hp:cT p) (i q:Int):∀ {ls:List aZ} {k:Nat} {s:List Int × List Edge},WF p s.1→WF p (xin p i q ls k s).1
 |[],_,_,h=>h
 |l::ls,k,s,h=>by unfold xin;exact aMm hp i q (ins_WF h (aCK hp q l))
theorem aFA (p:cH) (i q:Int):∀ (ls:List aZ) (k:Nat) (s:List Int × List Edge),s.1 <+:(xin p i q ls k s).1∧s.2 <+:(xin p i q ls k s).2
 |[],_,_=>⟨List.prefix_refl _,List.prefix_refl _⟩
 |l::ls,k,s=>by
  unfold xin
  have:=aFA p i q ls (k+1) ((ins s.1 (wP p q l)).1,s.2++[⟨i,(k:Int)+1,(ins s.1 (wP p q l)).2⟩])
  exact ⟨(ins_pre _ _).trans this.1,(List.prefix_append _ _).trans this.2⟩
theorem aDv (p:cH) (L:List aZ):∀ (n i:Nat) (s:List Int × List Edge),s.1 <+:(aEj p L n i s).1∧s.2 <+:(aEj p L n i s).2
 |0,_,_=>⟨List.prefix_refl _,List.prefix_refl _⟩
 |n+1,i,s=>by
  unfold aEj
  split
  ·exact ⟨List.prefix_refl _,List.prefix_refl _⟩
  ·rename_i q hq
   have:=aDv p L n (i+1) (if tP p L q=0 then xin p (i:Int) q L 0 s else s)
   split at this
   ·rename_i hv
    rw [if_pos hv]
    have h2:=aFA p (i:Int) q L 0 s
    exact ⟨h2.1.trans this.1,h2.2.trans this.2⟩
   ·rename_i hv
    rw [if_neg hv];exact this
theorem aIm {t:cH} (ht:One t) (m:List Bool):aDL t m=some m:=by
 have h300:=ht.len
 unfold aDL
 have hl:=gT (step:=fun s:List Bool × Bool × Int=>aEy t s.1 s.2.1 s.2.2) t.E.length (fun k (_:Unit)=>(m,false,(k:Int))) (fun _ _=>(m,false)) (fun _ _=>True) (fun k a hk _=>?_) (fun a _=>by simp only [aEy,bT];rfl) t.E.length 0 () (by omega) trivial
 ·have s0:aFN t m true=some (.inl (m,false)):=by
   unfold aFN
   rw [if_pos rfl,show (0:Int)=((0:Nat):Int) from rfl,hl];rfl
  have s1:aFN t m false=some (.inr m):=rfl
  rw [bM,s0];simp only
  rw [bM,s1];rfl
 ·left
  obtain ⟨_,_,e3,_,_⟩:=ht.edge (List.getElem_mem hk)
  refine ⟨(),?_,trivial,rfl⟩
  simp only [aEy,cB hk,if_pos,cO hk,aI,aEn,aCE,bV hk (show t.E.length < 4611686018427387904 by omega)]
  rw [if_neg (by simpa using e3)];rfl
theorem aIn:aFu [true]=some [0]:=by
 unfold aFu
 have s0:aDM [true] [] 0=some (.inl ([0],1)):=rfl
 have s1:aDM [true] [0] 1=some (.inr [0]):=rfl
 rw [bM,s0];simp only
 rw [bM,s1];rfl
theorem aNE {t:cH} (ht:One t):aGm t=some [0]:=by
 have hi:t.I=0:=by have:=ht.ok.2.1;have:=ht.one;omega
 unfold aGm
 have hm:aGl t [t.I]=some [true]:=by
  unfold aGl
  rw [ht.one,hi,show mkz 1 false=some [false] from rfl,aI]
  have s0:aCD [0] [false] 0=some (.inl ([true],1)):=rfl
  have s1:aCD [0] [true] 1=some (.inr [true]):=rfl
  rw [bM,s0];simp only
  rw [bM,s1];rfl
 rw [hm,aI,aIm ht,aI,aIn];rfl
theorem aNF:aAr [0] 0=some true:=by
 unfold aAr
 have s0:rV [0] 0 0=some (.inr (.inr true)):=rfl
 rw [bM,s0];rfl
theorem aOM {t:cH} (ht:One t) {lab:Int} (h:∃ e∈t.E,e.B=lab):aFv t [0] lab=some [0]:=by
 have h300:=ht.len
 unfold aFv
 rw [ht.one,show mkz 1 false=some [false] from rfl,aI]
 have hl:=lR (step:=fun s:List Bool × Int=>aAX t [0] lab s.1 s.2) t.E (fun k (b:Bool)=>([b],(k:Int))) (fun l b=>[b||l.any fun e=>e.B == lab]) (fun _ _=>True) (fun k a e l hk hx _=>?_) (fun a _=>by simp only [aAX,bT];simp) (a:=false) trivial
 ·rw [show (([false]:List Bool),(0:Int))=([false],((0:Nat):Int)) from rfl,hl,aI]
  have:(t.E.any fun e=>e.B == lab)=true:=by
   obtain ⟨e,he,h⟩:=h
   exact List.any_eq_true.2 ⟨e,he,by simp [h]⟩
  rw [this]
  unfold aGO
  simp only [Bool.false_or]
  rw [aIm ht,aI,aIn];rfl
 ·left
  obtain ⟨hk',rfl⟩:=pN hx
  obtain ⟨e1,e2,_,_,_⟩:=ht.edge (List.getElem_mem hk)
  refine ⟨a||(t.E[k].B == lab),?_,trivial,by rw [List.any_cons,Bool.or_assoc]⟩
  simp only [aAX,cB hk,if_pos,hx,aI,e1,e2,aNF,aDP,aDO,bV hk (show t.E.length < 4611686018427387904 by omega),show ix [a] 0=some a from rfl,show st [a] 0 true=some [true] from rfl]
  cases t.E[k].B == lab<;>cases a<;>rfl
theorem aMn:vW [0] [0]=some true:=by
 unfold vW
 have s0:mP [0] [0] 0=some (.inl 1):=rfl
 have s1:mP [0] [0] 1=some (.inr (.inl ())):=rfl
 rw [if_neg (by simp),bM,s0];simp only
 rw [bM,s1];rfl
end Gv
namespace Gv
open Go
def uX:eZ:=⟨⟨0,0,[],[]⟩,[]⟩
theorem spot_eq {at_:List Int} (hn:at_.Nodup) (h:at_.length < 1000) (q:Int):
  loop (fun s:Int × Int=>uI (List.replicate at_.length [0]) at_ [0] q s.1 s.2) (-1,0)=some (pos at_ q):=by
 have:=gT (step:=fun s:Int × Int=>uI (List.replicate at_.length [0]) at_ [0] q s.1 s.2) at_.length (fun m (to:Int)=>(to,(m:Int))) (fun m to=>match (at_.drop m).findIdx? (fun x=>q == x) with|none=>to|some j=>((m+j:Nat):Int)) (fun _ _=>True) (fun m to hm _=>?_) (fun to _=>?_) at_.length 0 (-1) (by omega) trivial
 ·rw [show ((-1,0):Int × Int)=(-1,((0:Nat):Int)) from rfl,this]
  unfold pos
  simp only [List.drop_zero]
  cases at_.findIdx? (fun x=>q == x) with
  |none=>rfl
  |some j=>simp
 ·left
  have hl:(List.replicate at_.length [(0:Int)]).length=at_.length:=by simp
  have hs:ix (List.replicate at_.length [(0:Int)]) (m:Int)=some [0]:=by rw [iT,List.getElem?_replicate,if_pos hm]
  simp only [uI,hl,cB hm,if_pos,cO hm,aI,hs,aMn,aDU,aDT,bV hm (show at_.length < 4611686018427387904 by omega)]
  rw [List.drop_eq_getElem_cons hm,List.findIdx?_cons]
  by_cases e:at_[m]=q
  ·rw [if_pos (by simpa using e),if_pos (show (q == at_[m])=true by simp [e])]
   refine ⟨(m:Int),by simp,trivial,?_⟩
   have hnm:q∉at_.drop (m+1):=by
    have h1:(at_.drop m).Nodup:=hn.sublist (List.drop_sublist _ _)
    rw [List.drop_eq_getElem_cons hm,List.nodup_cons] at h1
    rw [←e];exact h1.1
   rw [List.findIdx?_eq_none_iff.2 fun x hx=>by
    have:¬ q=x:=fun h=>hnm (h ▸ hx)
    simpa using this]
   simp
  ·rw [if_neg (by simpa using e),if_neg (show ¬ (q == at_[m])=true by simpa using fun h=>e (Eq.symm h))]
   refine ⟨to,by simp,trivial,?_⟩
   cases (at_.drop (m+1)).findIdx? (fun x=>q == x) with
   |none=>rfl
   |some j=>simp only [Option.map_some];omega
 ·simp only [uI,List.length_replicate,bT]
  simp
theorem aHn (p:cH) (i q:Int) (l:aZ) (ls:List aZ) (k:Nat) (a:List Int) (e:List Edge):xin p i q (l::ls) k (a,e)=xin p i q ls (k+1) ((ins a (wP p q l)).1,e++[⟨i,(k:Int)+1,(ins a (wP p q l)).2⟩]):=rfl
section
variable {p:cH} {L:List aZ}
theorem aON (hp:cT p) (hL:lO L) (h11:L.length≤11) {i:Nat} {q:Int} {at_:List Int} {ed:List Edge} (hw:WF p at_) (h40:at_.length≤40) (h300:ed.length≤300) (hi:at_[i]?=some q):
  loop (fun s:List (List Int) × List Int × List Edge × Int=>lK (dN L) p (i:Int) 0 s.1 s.2.1 s.2.2.1 s.2.2.2) (List.replicate at_.length [0],at_,ed,1)
   =some (if (xin p (i:Int) q L 0 (at_,ed)).1.length≤40∧(xin p (i:Int) q L 0 (at_,ed)).2.length≤300 then .inl (List.replicate (xin p (i:Int) q L 0 (at_,ed)).1.length [0],xin p (i:Int) q L 0 (at_,ed)) else .inr (uX,false)):=by
 have ht:=aBp hL h11
 have:=gT (step:=fun s:List (List Int) × List Int × List Edge × Int=>lK (dN L) p (i:Int) 0 s.1 s.2.1 s.2.2.1 s.2.2.2) L.length (fun k (a:List Int × List Edge)=>(List.replicate a.1.length [0],a.1,a.2,((k+1:Nat):Int)))
  (fun k a=>if (xin p (i:Int) q (L.drop k) k a).1.length≤40∧(xin p (i:Int) q (L.drop k) k a).2.length≤300 then .inl (List.replicate (xin p (i:Int) q (L.drop k) k a).1.length [0],xin p (i:Int) q (L.drop k) k a) else .inr (uX,false))
  (fun k a=>WF p a.1∧a.1.length≤40∧a.2.length≤300∧a.1[i]?=some q) (fun k a hk hI=>?_) (fun a hI=>?_) L.length 0 (at_,ed) (by omega) ⟨hw,h40,h300,hi⟩
 ·exact this
 ·obtain ⟨at_,ed⟩:=a
  obtain ⟨hw,h40,h300,hi⟩:=hI
  simp only at hw h40 h300 hi
  have hil:i < at_.length:=(List.getElem?_eq_some_iff.1 hi).1
  have hll:(dN L).L.length=L.length+1:=rfl
  have hxl:ix (dN L).L ((k+1:Nat):Int)=some L[k]:=by rw [iT];simp [dN,hk]
  have hnx:aFv (dN L) [0] ((k+1:Nat):Int)=some [0]:=aOM ht ⟨_,List.getElem_mem (n:=k) (by rw [aDu];exact hk),by rw [tO (by rw [aDu];exact hk)];simp only;omega⟩
  have hs:ix (List.replicate at_.length [(0:Int)]) (i:Int)=some [0]:=by rw [iT,List.getElem?_replicate,if_pos hil]
  have ha:ix at_ (i:Int)=some q:=by rw [iT];exact hi
  rw [List.drop_eq_getElem_cons hk]
  simp only [lK,hll,cB (show k+1 < L.length+1 by omega),if_pos,BEq.rfl,zU,hs,aI,hnx,ha,hxl,aNs hp,spot_eq hw.1 (show at_.length < 1000 by omega)]
  rw [if_neg (by simp),aHn]
  generalize hq:wP p q L[k]=q'
  have hq':-1≤q'∧q'≤p.N - 1:=by rw [←hq];exact aCK hp q _
  have hwi:=ins_WF hw hq'
  have key:aDS (i:Int) (List.replicate at_.length [0]) at_ ed ((k+1:Nat):Int) [0] q' (pos at_ q')=aAZ (i:Int) ed ((k+1:Nat):Int) (List.replicate (ins at_ q').1.length [0]) (ins at_ q').1 (ins at_ q').2:=by
   unfold aDS ins
   by_cases h0:0≤pos at_ q'
   ·rw [if_neg (by simp;omega),if_pos h0]
   ·rw [if_pos (by simp;omega),if_neg h0,eW (by simp [jJ];omega),aI,eW (by simp [jJ];omega),aI]
    simp only [List.length_replicate,List.length_append,List.length_cons,List.length_nil]
    rw [List.replicate_succ']
  rw [key]
  have h41:=hwi.len hp
  unfold aAZ
  rw [eW (by simp [jJ];omega),aI]
  have hk1:((k+1:Nat):Int)=(k:Int)+1:=by omega
  have hpre:=aFA p (i:Int) q (L.drop (k+1)) (k+1) ((ins at_ q').1,ed++[⟨(i:Int),(k:Int)+1,(ins at_ q').2⟩])
  have hpl1:=hpre.1.length_le
  have hpl2:=hpre.2.length_le
  simp only [List.length_append,List.length_cons,List.length_nil] at hpl1 hpl2
  rw [List.length_replicate]
  by_cases hbig:40 < (ins at_ q').1.length
  ·right
   rw [if_pos (by simp;omega),if_neg (by omega)];rfl
  ·rw [if_neg (by simp;omega)]
   by_cases hbig2:300 < (ed++([⟨(i:Int),((k+1:Nat):Int),(ins at_ q').2⟩]:List Edge)).length
   ·right
    rw [decide_eq_true (by omega)]
    simp only [List.length_append,List.length_cons,List.length_nil] at hbig2
    rw [if_neg (by omega)];rfl
   ·left
    rw [decide_eq_false (by omega)]
    simp only [List.length_append,List.length_cons,List.length_nil] at hbig2
    refine ⟨((ins at_ q').1,ed++[⟨(i:Int),(k:Int)+1,(ins at_ q').2⟩]),?_,⟨hwi,by simp only;omega,by simp;omega,?_⟩,rfl⟩
    ·simp only [aDR,aDQ,Bool.false_eq_true,if_false,hk1]
     have:wr ((k:Int)+1+1)=((k+1+1:Nat):Int):=by rw [fL (by omega) (by omega)];omega
     rw [this]
    ·simp only
     obtain ⟨c,hc⟩:=ins_pre at_ q'
     rw [←hc,List.getElem?_append_left hil]
     exact hi
 ·have hll:(dN L).L.length=L.length+1:=rfl
  simp only [lK,hll,bT,zU]
  simp [xin,hI.2.1,hI.2.2.1]
noncomputable def iN (p:cH) (L:List aZ):List Int × List Edge:=aEj p L 42 0 ([p.I],[])
noncomputable def res (p:cH) (L:List aZ):eZ × Bool:=
 if (iN p L).1.length≤40∧(iN p L).2.length≤300 then (⟨⟨((iN p L).1.length:Int),0,dY::L,(iN p L).2⟩,(iN p L).1.map (tP p L)⟩,true) else (uX,false)
theorem take_pre {a b:List Int} (h:a <+:b) {i:Nat} (hi:i≤a.length):b.take i=a.take i:=by
 obtain ⟨c,rfl⟩:=h
 rw [List.take_append_of_le_length hi]
theorem aOO (hp:cT p) (hL:lO L) (h11:L.length≤11):aHC (dN L) p=some (res p L):=by
 have ht:=aBp hL h11
 unfold aHC
 rw [aNu ht hp,aI,aOF ht hp,aI,aNE ht,aI,aJS]
 have hinit:WF p [p.I]:=⟨by simp,fun q hq=>by simp at hq;subst hq;have:=hp.2.1;omega⟩
 have:=aLs (step:=fun s:List (List Int) × List Int × List Int × List Edge × Int=>zV (dN L) p (tW p L) (tX p L) s.1 s.2.1 s.2.2.1 s.2.2.2.1 s.2.2.2.2)
  (fun s=>∃ (i:Nat) (at_:List Int) (ed:List Edge),s=(List.replicate at_.length [0],at_,(at_.take i).map (tP p L),ed,(i:Int))∧i≤at_.length∧WF p at_∧at_.length≤40∧ed.length≤300∧aEj p L (42 - i) i (at_,ed)=iN p L)
  (fun s=>42 - s.2.2.2.2.toNat)
  (if (iN p L).1.length≤40∧(iN p L).2.length≤300 then .inl (List.replicate (iN p L).1.length [0],(iN p L).1.map (tP p L),(iN p L).2) else .inr (uX,false))
  (fun s hI=>?_) (s:=([[0]],[p.I],[],[],0)) ⟨0,[p.I],[],rfl,by simp,hinit,by simp,by simp,rfl⟩
 ·rw [this,aI]
  unfold res
  by_cases hok:(iN p L).1.length≤40∧(iN p L).2.length≤300
  ·rw [if_pos hok,if_pos hok]
   simp only [aGP,List.length_replicate]
   rw [show (dN L).L=dY::L from rfl,eW (by simp [jJ];omega),aI];rfl
  ·rw [if_neg hok,if_neg hok]
 ·obtain ⟨i,at_,ed,rfl,hi,hw,h40,h300,hx⟩:=hI
  simp only
  by_cases hil:i < at_.length
  ·have hs:ix (List.replicate at_.length [(0:Int)]) (i:Int)=some [0]:=by rw [iT,List.getElem?_replicate,if_pos hil]
   have hq:at_[i]?=some at_[i]:=List.getElem?_eq_getElem hil
   have hqr:=hw.2 at_[i] (List.getElem_mem hil)
   rw [show 42 - i=(41 - i)+1 by omega] at hx
   unfold aEj at hx
   rw [hq] at hx
   simp only at hx
   simp only [zV,List.length_replicate,cB hil,if_pos,hs,aI,cO hil,aKK hp L (q:=at_[i]) (by omega)]
   rw [eW (by simp [jJ];omega),aI]
   have htk:∀ b:List Int,at_ <+:b→(at_.take i).map (tP p L)++[tP p L at_[i]]=(b.take (i+1)).map (tP p L):=by
    intro b hb
    rw [take_pre hb (by omega),List.take_add_one,hq,List.map_append];rfl
   by_cases hv:tP p L at_[i]=0
   ·rw [if_pos hv] at hx
    rw [hv] at htk ⊢
    rw [aON hp hL h11 hw h40 h300 hq,aI]
    generalize hr:xin p (i:Int) at_[i] L 0 (at_,ed)=r at hx ⊢
    have hpre:at_ <+:r.1:=by rw [←hr];exact (aFA p (i:Int) at_[i] L 0 (at_,ed)).1
    have hwr:WF p r.1:=by rw [←hr];exact aMm hp _ _ hw
    have hxp:=aDv p L (41 - i) (i+1) r
    rw [hx] at hxp
    by_cases hok:r.1.length≤40∧r.2.length≤300
    ·left
     rw [if_pos hok]
     refine ⟨_,rfl,⟨i+1,r.1,r.2,?_,by have:=hpre.length_le;omega,hwr,hok.1,hok.2,?_⟩,?_⟩
     ·simp only [htk r.1 hpre,bV hil (show at_.length < 4611686018427387904 by omega)]
     ·rw [show 42 - (i+1)=41 - i by omega];exact hx
     ·simp only [bV hil (show at_.length < 4611686018427387904 by omega),Int.toNat_natCast];omega
    ·right
     rw [if_neg hok]
     simp only
     rw [if_neg (fun h=>hok ⟨Nat.le_trans hxp.1.length_le h.1,Nat.le_trans hxp.2.length_le h.2⟩)]
   ·rw [if_neg hv] at hx
    left
    have hend:loop (fun s:List (List Int) × List Int × List Edge × Int=>lK (dN L) p (i:Int) (tP p L at_[i]) s.1 s.2.1 s.2.2.1 s.2.2.2) (List.replicate at_.length [0],at_,ed,1)=some (.inl (List.replicate at_.length [0],at_,ed)):=by
     have s0:lK (dN L) p (i:Int) (tP p L at_[i]) (List.replicate at_.length [0]) at_ ed 1=some (.inr (.inl (List.replicate at_.length [0],at_,ed))):=by
      unfold lK
      rw [show (tP p L at_[i] == 0)=false by simpa using hv]
      cases decide ((1:Int) < ((dN L).L.length:Int))<;>rfl
     rw [bM,s0]
    rw [hend,aI]
    refine ⟨_,rfl,⟨i+1,at_,ed,?_,by omega,hw,h40,h300,?_⟩,?_⟩
    ·simp only [htk at_ (List.prefix_refl _),bV hil (show at_.length < 4611686018427387904 by omega)]
    ·rw [show 42 - (i+1)=41 - i by omega];exact hx
    ·simp only [bV hil (show at_.length < 4611686018427387904 by omega),Int.toNat_natCast];omega
  ·right
   obtain rfl:i=at_.length:=by omega
   rw [show 42 - at_.length=(41 - at_.length)+1 by omega] at hx
   unfold aEj at hx
   rw [List.getElem?_eq_none (Nat.le_refl _)] at hx
   simp only at hx
   rw [←hx]
   simp only [zV,List.length_replicate,bT]
   simp [h40,h300]
noncomputable def PM (p:cH) (L:List aZ):eZ × Int:=
 if cl (cT p)=false then (uX,1) else if cl (iQ p)=false then (uX,6) else if cl (lO L)=false then (uX,2) else if 12≤L.length then (uX,5) else if (res p L).2=false then (uX,5) else ((res p L).1,0)
theorem aHo (p:cH) (L:List aZ) (hf:gZ 999999999 p) (hl:L.length < 2000000) (hs:∀ s∈L,s.length < 1000000000):aBC p L=some (PM p L):=by
 unfold aBC aNe PM
 rw [aNq p hf,aI,aI]
 cases hv:cl (cT p) with
 |false=>simp [aCf,uX]
 |true=>
  have hp:cT p:=iG.1 hv
  simp only [Bool.not_true,Bool.false_eq_true,if_false,aCf,aHd p (by have:=hf.2.2;omega),aI]
  cases hsg:cl (iQ p) with
  |false=>simp [uX]
  |true=>
   simp only [Bool.not_true,Bool.false_eq_true,if_false,aI,l18Set_eq L (by omega) hs,bne_self_eq_false,reduceCtorEq]
   cases hset:cl (lO L) with
   |false=>simp [uX]
   |true=>
    have hL:lO L:=iG.1 hset
    simp only [Bool.not_true,Bool.false_eq_true,if_false,reduceCtorEq]
    by_cases h12:12≤L.length
    ·rw [if_pos (by simp;omega),if_pos h12];rfl
    ·rw [if_neg (by simp;omega),if_neg h12,show ([116,97,117]:aZ)=dY from rfl,eW (by simp [jJ];omega),aI]
     have hed:=gT (step:=fun s:List Edge × Int=>qZ L s.1 s.2) L.length (fun k (_:Unit)=>((List.range k).map fun (i:Nat)=>(⟨0,(i:Int)+1,0⟩:Edge),(k:Int))) (fun _ _=>(dN L).E) (fun _ _=>True) (fun k a hk _=>?_) (fun a _=>by simp only [qZ,bT];rfl) L.length 0 () (by omega) trivial
     ·rw [show (([]:List Edge),(0:Int))=((List.range 0).map fun (i:Nat)=>(⟨0,(i:Int)+1,0⟩:Edge),((0:Nat):Int)) from rfl,hed,aI]
      unfold aCh
      rw [show (⟨1,0,[dY]++L,(dN L).E⟩:cH)=dN L from rfl,aOO hp hL (by omega),aI]
      cases (res p L).2<;>rfl
     ·left
      refine ⟨(),?_,trivial,rfl⟩
      simp only [qZ,cB hk,if_pos,bV hk (show L.length < 4611686018427387904 by omega)]
      rw [eW (by simp [jJ];omega),aI,List.range_succ,List.map_append]
      rfl
end
end Gv
namespace Gv
open Go
theorem pQ {α:Type} [BEq α] [LawfulBEq α] {xs:List α} {a:α} (h:a∈xs):∃ i:Nat,∃ hi:i < xs.length,pos xs a=(i:Int)∧xs[i]=a:=by
 unfold pos
 cases hx:xs.findIdx? (fun x=>a == x) with
 |none=>
  rw [List.findIdx?_eq_none_iff] at hx
  have:=hx a h
  simp at this
 |some i=>
  rw [List.findIdx?_eq_some_iff_getElem] at hx
  obtain ⟨hi,h1,_⟩:=hx
  exact ⟨i,hi,rfl,by simpa using Eq.symm (by simpa using h1)⟩
theorem pos_lt {α:Type} [BEq α] [LawfulBEq α] {R:α→α→Prop} (asy:∀ {a b},R a b→¬ R b a) {xs:List α} (hx:xs.Pairwise R) {a b:α} (ha:a∈xs) (hb:b∈xs) (hab:R a b):pos xs a < pos xs b:=by
 obtain ⟨i,hi,e1,g1⟩:=pQ ha
 obtain ⟨j,hj,e2,g2⟩:=pQ hb
 rw [e1,e2]
 rcases Nat.lt_trichotomy i j with h|h|h
 ·omega
 ·subst h
  rw [g1] at g2;subst g2
  exact absurd hab (asy hab)
 ·have:=List.pairwise_iff_getElem.1 hx j i hj hi h
  rw [g1,g2] at this
  exact absurd this (asy hab)
theorem pos_at {α:Type} [BEq α] [LawfulBEq α] {R:α→α→Prop} (irr:∀ a,¬ R a a) {xs:List α} (hx:xs.Pairwise R) {k:Nat} (hk:k < xs.length):pos xs xs[k]=(k:Int):=by
 obtain ⟨i,hi,e1,g1⟩:=pQ (List.getElem_mem hk)
 rw [e1]
 rcases Nat.lt_trichotomy i k with h|h|h
 ·have:=List.pairwise_iff_getElem.1 hx i k hi hk h
  rw [g1] at this;exact absurd this (irr _)
 ·rw [h]
 ·have:=List.pairwise_iff_getElem.1 hx k i hk hi h
  rw [g1] at this;exact absurd this (irr _)
theorem aMo:Lib.itoa (-1)=[45,49]:=by
 unfold Lib.itoa
 rw [if_pos (by omega),show (-1:Int).natAbs=1 from rfl,Lib.decDigits_one (by omega)];rfl
theorem aEk {v:Int} (h0:0≤v) (h1:v≤63):(Lib.itoa v).head?≠some 45∧val 0 (Lib.itoa v)=v:=by
 unfold Lib.itoa
 rw [if_neg (by omega)]
 have ofn:∀ n:Nat,n < 10→(UInt8.ofNat (48+n)).toNat=48+n:=by intro n hn;simp;omega
 have ne:∀ n:Nat,n < 10→UInt8.ofNat (48+n)≠45:=by
  intro n hn e
  have:=ofn n hn
  rw [e] at this
  have:(45:UInt8).toNat=45:=rfl
  omega
 by_cases h:v.toNat < 10
 ·rw [Lib.decDigits_one h]
  refine ⟨by simpa using ne _ h,?_⟩
  simp only [val,List.foldl_cons,List.foldl_nil,ofn _ h];omega
 ·rw [Lib.decDigits_two h (by omega)]
  refine ⟨by simpa using ne (v.toNat / 10) (by omega),?_⟩
  simp only [val,List.foldl_cons,List.foldl_nil,ofn (v.toNat / 10) (by omega),ofn (v.toNat % 10) (by omega)];omega
theorem itoa_inj {a b:Int} (ha:-1≤a∧a≤63) (hb:-1≤b∧b≤63) (h:Lib.itoa a=Lib.itoa b):a=b:=by
 by_cases h1:a=-1<;>by_cases h2:b=-1
 ·omega
 ·subst h1
  have:=(aEk (v:=b) (by omega) (by omega)).1
  rw [←h,aMo] at this;simp at this
 ·subst h2
  have:=(aEk (v:=a) (by omega) (by omega)).1
  rw [h,aMo] at this;simp at this
 ·have e1:=(aEk (v:=a) (by omega) (by omega)).2
  have e2:=(aEk (v:=b) (by omega) (by omega)).2
  rw [←e1,←e2,h]
theorem itoa_len {a:Int} (ha:-1≤a∧a≤63):(Lib.itoa a).length≤2:=by
 by_cases h1:a=-1
 ·subst h1;rw [aMo];simp
 ·unfold Lib.itoa
  rw [if_neg (by omega)]
  by_cases h:a.toNat < 10
  ·rw [Lib.decDigits_one h];simp
  ·rw [Lib.decDigits_two h (by omega)];simp
def key (q:Int):aZ:=[48,32]++Lib.itoa q
theorem key_inj {a b:Int} (ha:-1≤a∧a≤63) (hb:-1≤b∧b≤63) (h:key a=key b):a=b:=by
 unfold key at h
 exact itoa_inj ha hb (List.append_cancel_left h)
theorem itoa_zero:Lib.itoa 0=[48]:=by
 unfold Lib.itoa
 rw [if_neg (by omega),show (0:Int).toNat=0 from rfl,Lib.decDigits_one (by omega)];rfl
theorem aKL {q:Int} (hq:-1≤q∧q≤63):qT ⟨[0],q⟩=some (key q):=by
 unfold qT
 have hj:Lib.join (([0]:List Int).map Lib.itoa) [44]=[48]:=by
  simp only [List.map_cons,List.map_nil,itoa_zero]
  rw [Lib.join_one]
 have h1:aBD [0] [44]=some [48]:=by
  rw [aLg [0] [44] (by simp) (by simp) (by rw [hj];simp [jJ]),hj]
 have hl:=itoa_len hq
 have hd:vR q=some (Lib.itoa q):=by unfold vR;rw [if_pos ⟨by omega,by omega⟩]
 simp only
 rw [h1,aI,aGr (by simp [jJ]),aI,hd,aI,aGr (by simp [jJ];omega),aI];rfl
def Ws (a:List Int):List dM:=a.map fun q=>⟨[0],q⟩
def mp (k:Nat):List Int→List (aZ × Int)
 |[]=>[]
 |q::l=>(key q,(k:Int))::mp (k+1) l
theorem mget_mp {q:Int} (hq:-1≤q∧q≤63):∀ {a:List Int} {k:Nat},(∀ x∈a,-1≤x∧x≤63)→mF (mp k a) (key q)=match a.findIdx? (fun x=>q == x) with|none=>none|some i=>some ((k+i:Nat):Int)
 |[],k,_=>rfl
 |x::l,k,h=>by
  have ih:=mget_mp hq (a:=l) (k:=k+1) (fun y hy=>h y (by simp [hy]))
  unfold mp mF
  rw [List.findIdx?_cons]
  by_cases e:x=q
  ·subst e
   rw [if_pos rfl,if_pos (by simp)];rfl
  ·rw [if_neg (fun hk=>e (key_inj (h x (by simp)) hq hk.symm)),if_neg (by simpa using fun h=>e (Eq.symm h)),ih]
   cases l.findIdx? (fun x=>q == x) with
   |none=>rfl
   |some i=>simp only [Option.map_some];congr 2;omega
theorem mput_mp {q:Int} (hq:-1≤q∧q≤63):∀ {a:List Int} {k:Nat},(∀ x∈a,-1≤x∧x≤63)→q∉a→aEz (mp k a) (key q) ((k+a.length:Nat):Int)=mp k (a++[q])
 |[],k,_,_=>by simp [mp,aEz]
 |x::l,k,h,hn=>by
  have ih:=mput_mp hq (a:=l) (k:=k+1) (fun y hy=>h y (by simp [hy])) (fun hy=>hn (by simp [hy]))
  have e:¬ key q=key x:=fun hk=>hn (by rw [key_inj (h x (by simp)) hq hk.symm];simp)
  simp only [mp,aEz,List.cons_append,if_neg e]
  rw [←ih]
  congr 3
  simp;omega
section
variable {p:cH} {L:List aZ}
theorem WF.small (hp:cT p) {a:List Int} (h:WF p a):∀ x∈a,-1≤x∧x≤63:=fun x hx=>by
 have:=h.2 x hx;have:=hp.1;omega
theorem find_eq (hp:cT p) {a:List Int} (h:WF p a) (arcs:List lS) {q:Int} (hq:-1≤q∧q≤p.N - 1):
  fB (Ws a) (mp 0 a) arcs ⟨[0],q⟩=some ((ins a q).2,Ws (ins a q).1,mp 0 (ins a q).1):=by
 have hq':-1≤q∧q≤63:=by have:=hp.1;omega
 have hl:=h.len hp
 unfold fB
 rw [aKL hq',aI,mget_mp hq' (h.small hp)]
 have hpos:pos a q=match a.findIdx? (fun x=>q == x) with|none=>-1|some i=>(i:Int):=rfl
 cases hx:a.findIdx? (fun x=>q == x) with
 |none=>
  rw [hx] at hpos
  simp only at hpos
  have hn:q∉a:=fun hm=>by have:=aMl.2 hm;omega
  have hins:ins a q=(a++[q],(a.length:Int)):=by unfold ins;rw [if_neg (by omega)]
  rw [hins]
  simp only [Option.isSome_none,Bool.not_false,if_pos,aI]
  have hwl:(Ws a).length=a.length:=by simp [Ws]
  rw [eW (by rw [hwl];simp [jJ];omega),aI,hwl]
  unfold iA
  have:=mput_mp hq' (k:=0) (h.small hp) hn
  rw [Nat.zero_add] at this
  rw [this]
  simp [Ws]
 |some i=>
  rw [hx] at hpos
  simp only at hpos
  have hins:ins a q=(a,(i:Int)):=by unfold ins;rw [if_pos (by omega),hpos]
  rw [hins]
  simp only [Option.isSome_some,Bool.not_true,Bool.false_eq_true,if_false,Option.getD_some,Nat.zero_add];rfl
def lF (L:List aZ) (e:Edge):lS:=⟨e.F,L.getD (e.B - 1).toNat [],e.To⟩
theorem aKM (hL:lO L) (h11:L.length≤11) {s:aZ} (hs:s∈L):zY (dN L) [0] s=some [0]:=by
 have ht:=aBp hL h11
 rw [aOE ht.ok ht.single]
 have hmem:∃ e∈(dN L).E,hit (dN L) 0 s e=true:=by
  have:=aJS L
  rw [←this] at hs
  obtain ⟨e,he,h⟩:=List.mem_map.1 hs
  refine ⟨e,he,?_⟩
  unfold hit
  rw [(ht.edge he).1,h];simp
 cases hx:(dN L).E.find? (hit (dN L) 0 s) with
 |none=>
  rw [List.find?_eq_none] at hx
  obtain ⟨e,he,h⟩:=hmem
  exact absurd h (hx e he)
 |some e=>
  have:=(ht.edge (List.mem_of_find?_eq_some hx)).2.1
  simp [this]
theorem moves_eq (hp:cT p) (hps:iQ p) (hL:lO L) (h11:L.length≤11) {i:Nat} {q:Int} {a:List Int} {ed:List Edge} (hw:WF p a) (hed:ed.length≤100000) (hq:-1≤q∧q≤p.N - 1):
  qU ⟨[0],q⟩ (Ws a) (mp 0 a) (ed.map (lF L)) (i:Int) ⟨[tW p L],[tX p L]⟩ ⟨dN L,p⟩
   =some (true,Ws (if tP p L q=0 then xin p (i:Int) q L 0 (a,ed) else (a,ed)).1,mp 0 (if tP p L q=0 then xin p (i:Int) q L 0 (a,ed) else (a,ed)).1,(if tP p L q=0 then xin p (i:Int) q L 0 (a,ed) else (a,ed)).2.map (lF L)):=by
 have ht:=aBp hL h11
 unfold qU
 simp only
 rw [aND hp L (by omega),aI]
 by_cases hv:tP p L q=0
 ·rw [if_neg (by simp [hv]),if_pos hv]
  have hsl:slc (dN L).L 1 ((dN L).L.length:Int)=some L:=by
   have:=aJR (s:=(dN L).L) (w:=1) (by simp [dN])
   rw [show ((1:Nat):Int)=1 from rfl] at this
   rw [this];rfl
  rw [hsl,aI]
  have:=gT (step:=fun s:List dM × List (aZ × Int) × List lS × Int=>jY ⟨[0],q⟩ (i:Int) ⟨[tW p L],[tX p L]⟩ ⟨dN L,p⟩ L s.1 s.2.1 s.2.2.1 s.2.2.2) L.length (fun k (x:List Int × List Edge)=>(Ws x.1,mp 0 x.1,x.2.map (lF L),(k:Int)))
   (fun k x=>(Ws (xin p (i:Int) q (L.drop k) k x).1,mp 0 (xin p (i:Int) q (L.drop k) k x).1,(xin p (i:Int) q (L.drop k) k x).2.map (lF L))) (fun k x=>WF p x.1∧x.2.length≤100000+k) (fun k x hk hI=>?_) (fun x hI=>?_) L.length 0 (a,ed) (by omega) ⟨hw,by simpa using hed⟩
  ·rw [show (Ws a,mp 0 a,ed.map (lF L),(0:Int))=(Ws a,mp 0 a,ed.map (lF L),((0:Nat):Int)) from rfl,this];rfl
  ·left
   obtain ⟨a,ed⟩:=x
   obtain ⟨hw,hed⟩:=hI
   simp only at hw hed
   have hgo:=aCK hp q L[k]
   refine ⟨((ins a (wP p q L[k])).1,ed++[⟨(i:Int),(k:Int)+1,(ins a (wP p q L[k])).2⟩]),?_,⟨ins_WF hw hgo,by simp;omega⟩,?_⟩
   ·simp only [jY,cB hk,if_pos,cO hk,aI,aKM hL h11 (List.getElem_mem hk),aIK hp hps,rC,find_eq hp hw _ hgo,oN,nK,bV hk (show L.length < 4611686018427387904 by omega)]
    rw [if_pos (by simp),eW (by simp [jJ];omega),aI,aI]
    simp only [List.map_append,List.map_cons,List.map_nil]
    have:lF L ⟨(i:Int),(k:Int)+1,(ins a (wP p q L[k])).2⟩=⟨(i:Int),L[k],(ins a (wP p q L[k])).2⟩:=by
     unfold lF
     have e:((k:Int)+1 - 1).toNat=k:=by omega
     simp only [e]
     rw [List.getD_eq_getElem?_getD,List.getElem?_eq_getElem hk];rfl
    rw [this]
   ·rw [List.drop_eq_getElem_cons hk,aHn]
  ·simp only [jY,bT]
   simp [xin]
 ·rw [if_pos (by simpa using hv),if_neg hv]
end
end Gv
namespace Gv
open Go
structure ED (L:List aZ) (i k:Int) (n:Nat) (ed:List Edge):Prop where
 ord:ed.Pairwise aAO
 all:∀ e∈ed,0≤e.F∧(e.F < i∨(e.F=i∧e.B≤k))∧1≤e.B∧e.B≤L.length∧0≤e.To∧e.To < n
section
variable {p:cH} {L:List aZ}
theorem ED.mono {i k:Int} {n m:Nat} {ed:List Edge} (h:ED L i k n ed) (hm:n≤m):ED L i k m ed:=
 ⟨h.ord,fun e he=>by have:=h.all e he;omega⟩
theorem ED.next {i k:Int} {n:Nat} {ed:List Edge} (h:ED L i k n ed):ED L (i+1) 0 n ed:=
 ⟨h.ord,fun e he=>by have:=h.all e he;omega⟩
theorem ins_to (a:List Int) (q:Int):0≤(ins a q).2∧(ins a q).2 < (ins a q).1.length∧a.length≤(ins a q).1.length:=by
 unfold ins
 by_cases h:0≤pos a q
 ·rw [if_pos h]
  obtain ⟨i,hi,e,_⟩:=pQ (aMl.1 h)
  simp only;omega
 ·rw [if_neg h];simp;omega
theorem xin_ED (i:Nat) (q:Int):∀ {ls:List aZ} {k:Nat} {s:List Int × List Edge},k+ls.length=L.length→ED L (i:Int) (k:Int) s.1.length s.2→ED L (i:Int) (L.length:Int) (xin p (i:Int) q ls k s).1.length (xin p (i:Int) q ls k s).2
 |[],k,s,e,h=>by
  simp only [List.length_nil,Nat.add_zero] at e
  subst e;exact h
 |l::ls,k,(a,ed),e,h=>by
  simp only [List.length_cons] at e
  rw [aHn]
  have ht:=ins_to a (wP p q l)
  refine xin_ED i q (by omega) ⟨?_,fun e' he=>?_⟩
  ·simp only
   rw [List.pairwise_append]
   refine ⟨h.ord,by simp,fun x hx y hy=>?_⟩
   simp at hy;subst hy
   have:=h.all x hx
   unfold aAO
   simp only;omega
  ·simp only at he ⊢
   rcases List.mem_append.1 he with he|he
   ·have:=h.all e' he;simp only at this;omega
   ·simp at he;subst he
    exact ⟨by simp only;omega,.inr ⟨rfl,by simp only;omega⟩,by simp only;omega,by simp only;omega,ht.1,ht.2.1⟩
theorem xout_ED:∀ {n i:Nat} {s:List Int × List Edge},ED L (i:Int) 0 s.1.length s.2→∃ j:Int,ED L j 0 (aEj p L n i s).1.length (aEj p L n i s).2∧(n+i ≥ 42→(aEj p L n i s).1.length≤41→j≤(aEj p L n i s).1.length∨j=i)
 |0,i,s,h=>⟨_,h,fun _ _=>.inr rfl⟩
 |n+1,i,s,h=>by
  unfold aEj
  cases hq:s.1[i]? with
  |none=>exact ⟨_,h,fun _ _=>.inr rfl⟩
  |some q=>
   simp only
   have hil:i < s.1.length:=(List.getElem?_eq_some_iff.1 hq).1
   have hn:ED L ((i+1:Nat):Int) 0 (if tP p L q=0 then xin p (i:Int) q L 0 s else s).1.length (if tP p L q=0 then xin p (i:Int) q L 0 s else s).2:=by
    by_cases hv:tP p L q=0
    ·rw [if_pos hv]
     have:=(xin_ED (p:=p) i q (ls:=L) (k:=0) (s:=s) (by omega) h).next
     rwa [show ((i:Nat):Int)+1=((i+1:Nat):Int) by omega] at this
    ·rw [if_neg hv]
     have:=h.next
     rwa [show ((i:Nat):Int)+1=((i+1:Nat):Int) by omega] at this
   obtain ⟨j,h1,h2⟩:=xout_ED (n:=n) hn
   have hp1:s.1 <+:(if tP p L q=0 then xin p (i:Int) q L 0 s else s).1:=by
    by_cases hv:tP p L q=0
    ·rw [if_pos hv];exact (aFA p (i:Int) q L 0 s).1
    ·rw [if_neg hv];exact List.prefix_refl _
   have hp2:=(aDv p L n (i+1) (if tP p L q=0 then xin p (i:Int) q L 0 s else s)).1
   have hle:=(hp1.trans hp2).length_le
   refine ⟨j,h1,fun hn hl=>.inl ?_⟩
   rcases h2 (by omega) hl with h3|h3
   ·exact h3
   ·omega
theorem xout_WF (hp:cT p):∀ {n i:Nat} {s:List Int × List Edge},WF p s.1→WF p (aEj p L n i s).1
 |0,_,_,h=>h
 |n+1,i,s,h=>by
  unfold aEj
  split
  ·exact h
  ·refine xout_WF hp ?_
   split
   ·exact aMm hp _ _ h
   ·exact h
theorem fin_WF (hp:cT p):WF p (iN p L).1:=xout_WF hp ⟨by simp,fun q hq=>by simp at hq;subst hq;have:=hp.2.1;omega⟩
theorem fin_ED (hp:cT p):(iN p L).2.Pairwise aAO∧∀ e∈(iN p L).2,(0≤e.F∧e.F < (iN p L).1.length)∧(1≤e.B∧e.B≤L.length)∧0≤e.To∧e.To < (iN p L).1.length:=by
 obtain ⟨j,h,hj⟩:=xout_ED (p:=p) (L:=L) (n:=42) (i:=0) (s:=([p.I],[])) ⟨by simp,fun e he=>by simp at he⟩
 have hl:=(fin_WF (L:=L) hp).len hp
 have hpre:=(aDv p L 42 0 ([p.I],[])).1.length_le
 simp only [List.length_singleton] at hpre
 have hj':j≤(aEj p L 42 0 ([p.I],[])).1.length:=by
  rcases hj (by omega) hl with h|h
  ·exact h
  ·omega
 refine ⟨h.ord,fun e he=>?_⟩
 have:=h.all e he
 unfold iN
 omega
theorem aFB {a b:Edge} (h:aAO a b):dP a b=true:=by rw [lX];unfold aAO at h;omega
theorem aOQ {ed:List Edge} (h:∀ e∈ed,1≤e.B∧e.B≤L.length) {a:lS} (ha:a∈ed.map (lF L)):∃ k,∃ hk:k < L.length,a.label=L[k]:=by
 obtain ⟨e,he,rfl⟩:=List.mem_map.1 ha
 have:=h e he
 refine ⟨(e.B - 1).toNat,by omega,?_⟩
 unfold lF
 simp only
 rw [List.getD_eq_getElem?_getD,List.getElem?_eq_getElem (by omega)];rfl
theorem aLo (hL:aFz L) {ed:List Edge} (h:∀ e∈ed,1≤e.B∧e.B≤L.length):((ed.map (lF L)).map fun a=>(⟨a.from_,pos (dY::L) a.label,a.to_⟩:Edge))=ed:=by
 rw [List.map_map]
 conv=>rhs;rw [←List.map_id ed]
 refine List.map_congr_left fun e he=>?_
 have hb:=h e he
 have hk:(e.B - 1).toNat < L.length:=by omega
 have:pos (dY::L) (L.getD (e.B - 1).toNat [])=e.B:=by
  rw [List.getD_eq_getElem?_getD,List.getElem?_eq_getElem hk]
  have:=pos_at (R:=fun a b=>uC a b=true) (fun a h=>by rw [aDl] at h;cases h) hL.lab (k:=(e.B - 1).toNat+1) (by simp;omega)
  simp only [List.getElem_cons_succ] at this
  simp only [Option.getD_some]
  rw [this];omega
 simp only [Function.comp,lF,this,id]
def aGw (L:List aZ) (ed:List Edge):List aZ:=L.filter fun s=>(ed.map (lF L)).any fun a=>a.label == s
theorem aFo {ed:List Edge} (h:∀ e∈ed,1≤e.B∧e.B≤L.length) {s:aZ}:s∈aGw L ed↔s∈(ed.map (lF L)).map (·.label):=by
 unfold aGw
 rw [List.mem_filter,List.any_eq_true,List.mem_map]
 constructor
 ·rintro ⟨_,a,ha,e⟩
  exact ⟨a,ha,by simpa using e⟩
 ·rintro ⟨a,ha,rfl⟩
  obtain ⟨k,hk,e⟩:=aOQ h ha
  exact ⟨e ▸ List.getElem_mem hk,a,ha,by simp⟩
theorem lO.sub {M:List aZ} (hL:lO L) (h:M.Sublist L):lO M:=by
 refine ⟨fun s hs=>hL.1 s (h.mem hs),fun k h1 hk=>?_⟩
 have:=hL.strict.1.sublist h
 exact List.pairwise_iff_getElem.1 this (k - 1) k (by omega) hk (by omega)
theorem aJT (hL:lO L) {ed:List Edge} (ho:ed.Pairwise aAO) (h:∀ e∈ed,1≤e.B∧e.B≤L.length):((ed.map (lF L)).map fun a=>(⟨a.from_,pos (dY::aGw L ed) a.label,a.to_⟩:Edge)).Pairwise aAO:=by
 rw [List.map_map,List.pairwise_map]
 have hM:lO (aGw L ed):=hL.sub List.filter_sublist
 refine ho.imp_of_mem fun {a b} ha hb hab=>?_
 unfold aAO at hab ⊢
 simp only [Function.comp,lF]
 rcases hab with hab|⟨e,hab⟩
 ·exact .inl hab
 ·refine .inr ⟨e,?_⟩
  have h1:=h a ha
  have h2:=h b hb
  have m1:(lF L a).label∈aGw L ed:=(aFo h).2 (List.mem_map_of_mem (List.mem_map_of_mem ha))
  have m2:(lF L b).label∈aGw L ed:=(aFo h).2 (List.mem_map_of_mem (List.mem_map_of_mem hb))
  refine pos_lt (R:=fun a b=>uC a b=true) (fun {a b} h1 h2=>?_) hM.strict.lab (List.mem_cons_of_mem _ m1) (List.mem_cons_of_mem _ m2) ?_
  ·have:=aJu h1 h2
   rw [aDl] at this;cases this
  ·have hs:=hL.strict
   have g1:(a.B - 1).toNat < L.length:=by omega
   have g2:(b.B - 1).toNat < L.length:=by omega
   have:=List.pairwise_iff_getElem.1 hs.1 _ _ g1 g2 (by omega)
   rw [List.getD_eq_getElem?_getD,List.getElem?_eq_getElem g1,List.getD_eq_getElem?_getD,List.getElem?_eq_getElem g2]
   simp only [Option.getD_some]
   rw [wQ]
   refine ⟨fun e=>(by rw [e,sP] at this;cases this),.inr ⟨fun e=>hs.2 (e ▸ List.getElem_mem g2),this⟩⟩
theorem aNG {arcs:List lS} (h:arcs.length < 2000000):aGo arcs=some (arcs.map (·.label)):=by
 unfold aGo
 rw [aGA (step:=fun s:List aZ × Int=>zX arcs s.1 s.2) arcs (·.label) id (fun k out x hk ho hx=>?_) (fun out=>by simp only [zX,bT];rfl),aI]
 ·rfl
 ·simp only [zX,cB hk,if_pos,hx,aI,bV hk (show arcs.length < 4611686018427387904 by omega)]
  rw [eW (by simp [jJ];omega),aI]
theorem arcs_eq {t:cH} (hv:∀ e∈t.E,zD t e) (h:t.E.length < 2000000):aDY t=some (t.E.map fun e=>⟨e.F,txt t e,e.To⟩):=by
 unfold aDY
 rw [aGA (step:=fun s:List lS × Int=>zZ t s.1 s.2) t.E (fun e=>(⟨e.F,txt t e,e.To⟩:lS)) id (fun k out x hk ho hx=>?_) (fun out=>by simp only [zZ,bT];rfl),aI]
 ·rfl
 ·obtain ⟨hk',rfl⟩:=pN hx
  simp only [zZ,cB hk,if_pos,hx,aI,aAG (hv _ (List.getElem_mem hk')),bV hk (show t.E.length < 4611686018427387904 by omega)]
  rw [eW (by simp [jJ];omega),aI]
def jV (L:List aZ) (n:Nat) (ed:List Edge):cH:=⟨(n:Int),0,dY::aGw L ed,(ed.map (lF L)).map fun a=>⟨a.from_,pos (dY::aGw L ed) a.label,a.to_⟩⟩
theorem aOR (hL:lO L) (h11:L.length≤11) {n:Nat} {ed:List Edge} (ho:ed.Pairwise aAO) (h:∀ e∈ed,1≤e.B∧e.B≤L.length) (hl:ed.length < 2000000):aGS (n:Int) 0 ((ed.map (lF L)).map (·.label)) (ed.map (lF L))=some (jV L n ed):=by
 have hM:lO (aGw L ed):=hL.sub List.filter_sublist
 have hMl:(aGw L ed).length≤L.length:=List.length_filter_le _ _
 exact aMk hM.strict (fun s _=>(aFo h).symm) (by simp;omega) (by simp;omega) ((aJT hL ho h).imp aFB) (by omega)
theorem aLp (hL:lO L) {n:Nat} {ed:List Edge} (hall:∀ e∈ed,(0≤e.F∧e.F < n)∧(1≤e.B∧e.B≤L.length)∧0≤e.To∧e.To < n):∀ e∈(jV L n ed).E,zD (jV L n ed) e:=by
 intro e he
 unfold jV at he
 rw [List.map_map] at he
 obtain ⟨x,hx,rfl⟩:=List.mem_map.1 he
 have:=hall x hx
 have m1:(lF L x).label∈aGw L ed:=(aFo fun e he=>(hall e he).2.1).2 (List.mem_map_of_mem (List.mem_map_of_mem hx))
 obtain ⟨i,hi,e1,_⟩:=pQ (List.mem_cons_of_mem dY m1)
 unfold zD jV
 simp only [Function.comp]
 simp only [List.length_cons] at hi ⊢
 rw [e1]
 refine ⟨?_,?_,?_⟩
 ·unfold lF;simp only;omega
 ·unfold lF;simp only;omega
 ·omega
theorem foundT_ok (hL:lO L) (h11:L.length≤11) {n:Nat} {ed:List Edge} (hn:1≤n∧n≤40) (ho:ed.Pairwise aAO) (hall:∀ e∈ed,(0≤e.F∧e.F < n)∧(1≤e.B∧e.B≤L.length)∧0≤e.To∧e.To < n):cT (jV L n ed)↔ed.length≤300:=by
 have hel:(jV L n ed).E.length=ed.length:=by simp [jV]
 constructor
 ·intro h;have:=h.2.2.2.1;omega
 ·intro h
  have hM:lO (aGw L ed):=hL.sub List.filter_sublist
  have hMl:(aGw L ed).length≤L.length:=List.length_filter_le _ _
  refine ⟨⟨by simp only [jV];omega,by simp only [jV];omega⟩,⟨by simp only [jV];omega,by simp only [jV];omega⟩,hM.labs (by omega),by omega,fun k hk=>⟨aLp hL hall _ (List.getElem_mem hk),fun h1=>?_⟩⟩
  have:=aJT hL ho fun e he=>(hall e he).2.1
  exact aFB (List.pairwise_iff_getElem.1 this (k - 1) k (by have:=hk;simp only [jV] at this;omega) hk (by omega))
theorem aNH (hL:lO L) {n:Nat} {ed:List Edge} (hl:ed.length < 2000000) (hall:∀ e∈ed,(0≤e.F∧e.F < n)∧(1≤e.B∧e.B≤L.length)∧0≤e.To∧e.To < n):aDY (jV L n ed)=some (ed.map (lF L)):=by
 rw [arcs_eq (aLp hL hall) (by simp [jV];omega)]
 congr 1
 unfold jV
 simp only
 rw [List.map_map,List.map_map]
 refine List.map_congr_left fun e he=>?_
 have m1:(lF L e).label∈aGw L ed:=(aFo fun e he=>(hall e he).2.1).2 (List.mem_map_of_mem (List.mem_map_of_mem he))
 obtain ⟨i,hi,e1,e2⟩:=pQ (List.mem_cons_of_mem dY m1)
 simp only [Function.comp,txt,e1]
 rw [Int.toNat_natCast,List.getD_eq_getElem?_getD,List.getElem?_eq_getElem hi,e2]
 simp only [Option.getD_some]
end
end Gv
namespace Gv
open Go
section
variable {p:cH} {L:List aZ}
theorem aNI (hp:cT p) (hps:iQ p) (hL:lO L) (h11:L.length≤11) (hs:∀ s∈L,s.length < 2000000):
  nL ⟨[0],p.I⟩ ⟨[tW p L],[tX p L]⟩ ⟨dN L,p⟩=some (if (iN p L).1.length≤40 then (jV L (iN p L).1.length (iN p L).2,Ws (iN p L).1,decide ((iN p L).2.length≤300)) else (⟨0,0,[],[]⟩,[],false)):=by
 have hi:=hp.2.1
 have hinit:WF p [p.I]:=⟨by simp,fun q hq=>by simp at hq;subst hq;omega⟩
 unfold nL
 have hf:=find_eq hp (a:=[]) ⟨by simp,by simp⟩ [] (q:=p.I) (by omega)
 have hins:ins [] p.I=([p.I],0):=rfl
 rw [hins] at hf
 rw [show fB [] [] [] ⟨[0],p.I⟩=_ from hf,aI]
 simp only
 have hloop:=aLs (step:=fun s:List dM × List (aZ × Int) × List lS × Int=>iP ⟨[tW p L],[tX p L]⟩ ⟨dN L,p⟩ s.1 s.2.1 s.2.2.1 s.2.2.2)
  (fun s=>∃ (i:Nat) (a:List Int) (ed:List Edge),s=(Ws a,mp 0 a,ed.map (lF L),(i:Int))∧i≤a.length∧WF p a∧a.length≤40∧ed.length≤11 * i∧aEj p L (42 - i) i (a,ed)=iN p L)
  (fun s=>42 - s.2.2.2.toNat)
  (if (iN p L).1.length≤40 then .inl (Ws (iN p L).1,mp 0 (iN p L).1,(iN p L).2.map (lF L)) else .inr (⟨0,0,[],[]⟩,[],false))
  (fun s hI=>?_) (s:=(Ws [p.I],mp 0 [p.I],[],0)) ⟨0,[p.I],[],rfl,by simp,hinit,by simp,by simp,rfl⟩
 ·rw [hloop,aI]
  by_cases hok:(iN p L).1.length≤40
  ·rw [if_pos hok,if_pos hok]
   simp only
   have hw:=fin_WF (L:=L) hp
   obtain ⟨ho,hall⟩:=fin_ED (L:=L) hp
   have hn0:1≤(iN p L).1.length:=by
    have:=(aDv p L 42 0 ([p.I],[])).1.length_le
    exact this
   have hel:(iN p L).2.length≤1000:=by
    have hsub:((iN p L).2.map fun e=>(e.F,e.B)).Nodup:=by
     unfold List.Nodup
     rw [List.pairwise_map]
     refine ho.imp fun {a b} h e=>?_
     simp only [Prod.mk.injEq] at e
     unfold aAO at h;omega
    have:=List.Nodup.length_le_of_subset (l₂:=(List.range 1000).map fun (i:Nat)=>(((i / 12:Nat):Int),((i % 12:Nat):Int))) hsub (fun x hx=>by
     obtain ⟨e,he,rfl⟩:=List.mem_map.1 hx
     have:=hall e he
     rw [List.mem_map]
     refine ⟨e.F.toNat * 12+e.B.toNat,by rw [List.mem_range];omega,?_⟩
     simp only [Prod.mk.injEq]
     omega)
    simpa using this
   unfold rE
   rw [aNG (by simp;omega),aI,show (Ws (iN p L).1).length=(iN p L).1.length by simp [Ws],aOR hL h11 ho (fun e he=>(hall e he).2.1) (by omega),aI]
   unfold rD
   rw [show (⟨(jV L (iN p L).1.length (iN p L).2).N,(jV L (iN p L).1.length (iN p L).2).I,(jV L (iN p L).1.length (iN p L).2).L,(jV L (iN p L).1.length (iN p L).2).E⟩:cH)=jV L (iN p L).1.length (iN p L).2 from rfl]
   have hMl:(aGw L (iN p L).2).length≤L.length:=List.length_filter_le _ _
   rw [wO _ ⟨by simp only [jV,List.length_cons];omega,fun s hs'=>by
    simp only [jV] at hs'
    rcases List.mem_cons.1 hs' with rfl|hs'
    ·decide
    ·have:=hs s (List.mem_filter.1 hs').1;omega,by simp [jV];omega⟩,aI]
   rw [aAS (b:=decide ((iN p L).2.length≤300)) (by rw [decide_eq_true_iff];exact (foundT_ok hL h11 ⟨hn0,hok⟩ ho hall).symm)]
  ·rw [if_neg hok,if_neg hok]
 ·obtain ⟨i,a,ed,rfl,hia,hw,h40,hed,hx⟩:=hI
  simp only
  have hwl:∀ a:List Int,(Ws a).length=a.length:=fun a=>by simp [Ws]
  by_cases hil:i < a.length
  ·have hq:a[i]?=some a[i]:=List.getElem?_eq_getElem hil
   have hqr:=hw.2 a[i] (List.getElem_mem hil)
   have hwi:ix (Ws a) (i:Int)=some ⟨[0],a[i]⟩:=by rw [iT];simp [Ws,hil]
   rw [show 42 - i=(41 - i)+1 by omega] at hx
   unfold aEj at hx
   rw [hq] at hx
   simp only at hx
   simp only [iP,hwl,cB hil,if_pos,hwi,aI,moves_eq hp hps hL h11 (i:=i) hw (show ed.length≤100000 by omega) hqr]
   have hpre:a <+:(if tP p L a[i]=0 then xin p (i:Int) a[i] L 0 (a,ed) else (a,ed)).1:=by
    by_cases hv:tP p L a[i]=0
    ·rw [if_pos hv];exact (aFA p (i:Int) a[i] L 0 (a,ed)).1
    ·rw [if_neg hv];exact List.prefix_refl _
   have hwr:WF p (if tP p L a[i]=0 then xin p (i:Int) a[i] L 0 (a,ed) else (a,ed)).1:=by
    by_cases hv:tP p L a[i]=0
    ·rw [if_pos hv];exact aMm hp _ _ hw
    ·rw [if_neg hv];exact hw
   have hlr:(if tP p L a[i]=0 then xin p (i:Int) a[i] L 0 (a,ed) else (a,ed)).2.length≤11 * (i+1):=by
    have hxl:∀ (ls:List aZ) (k:Nat) (s:List Int × List Edge),(xin p (i:Int) a[i] ls k s).2.length=s.2.length+ls.length:=by
     intro ls
     induction ls with
     |nil=>intro k s;rfl
     |cons l ls ih=>intro k s;obtain ⟨s1,s2⟩:=s;rw [aHn,ih];simp;omega
    by_cases hv:tP p L a[i]=0
    ·rw [if_pos hv,hxl];simp only;omega
    ·rw [if_neg hv];simp only;omega
   generalize (if tP p L a[i]=0 then xin p (i:Int) a[i] L 0 (a,ed) else (a,ed))=r at hx hpre hwr hlr ⊢
   have hxp:=(aDv p L (41 - i) (i+1) r).1.length_le
   rw [hx] at hxp
   simp only [Bool.not_true,Bool.false_eq_true,if_false,lH,hwl]
   by_cases hok:r.1.length≤40
   ·left
    rw [if_neg (by simp;omega)]
    refine ⟨_,rfl,⟨i+1,r.1,r.2,?_,by have:=hpre.length_le;omega,hwr,hok,hlr,?_⟩,?_⟩
    ·rw [bV hil (by omega)]
    ·rw [show 42 - (i+1)=41 - i by omega];exact hx
    ·simp only [bV hil (show a.length < 4611686018427387904 by omega),Int.toNat_natCast];omega
   ·right
    rw [if_pos (by simp;omega),if_neg (by omega)]
  ·right
   obtain rfl:i=a.length:=by omega
   rw [show 42 - a.length=(41 - a.length)+1 by omega] at hx
   unfold aEj at hx
   rw [List.getElem?_eq_none (Nat.le_refl _)] at hx
   simp only at hx
   rw [←hx]
   simp only [iP,hwl,bT]
   rw [if_pos h40];rfl
theorem aOS (hp:cT p) (hps:iQ p) (hL:lO L) (h11:L.length≤11) (hs:∀ s∈L,s.length < 2000000):vM ⟨dN L,p⟩=some (res p L):=by
 have ht:=aBp hL h11
 unfold vM aDb
 rw [leave_eq ht hp hps,aI,stay_eq ht hp hps,aI,aI,aJS]
 simp only
 rw [show (dN L).I=0 from rfl,aIk ht.ok ht.single [0] (by simp),aI]
 unfold yT
 simp only
 rw [aNI hp hps hL h11 hs,aI]
 unfold res
 by_cases h40:(iN p L).1.length≤40
 ·rw [if_pos h40]
  simp only
  by_cases h300:(iN p L).2.length≤300
  ·rw [decide_eq_true h300,if_neg (by simp),if_pos ⟨h40,h300⟩]
   obtain ⟨ho,hall⟩:=fin_ED (L:=L) hp
   rw [aNH hL (by omega) hall,aI,show (dN L).L=dY::L from rfl,show (jV L (iN p L).1.length (iN p L).2).N=((iN p L).1.length:Int) from rfl]
   have hback:=aLo hL.strict (ed:=(iN p L).2) (fun e he=>(hall e he).2.1)
   rw [aMk (M:=L) hL.strict (fun s hs=>by simp [hs]) (by simp;omega) (by simp;omega) (by rw [hback];exact ho.imp aFB) (by omega),aI,hback]
   unfold yS
   simp only
   have hw:=fin_WF (L:=L) hp
   rw [aGA (step:=fun s:List Int × Int=>mA ⟨[tW p L],[tX p L]⟩ (jV L (iN p L).1.length (iN p L).2,Ws (iN p L).1,true) s.1 s.2) (Ws (iN p L).1) (fun w=>tP p L w.y) id (fun k out x hk ho' hx=>?_) (fun out=>by simp only [mA,bT];rfl),aI]
   ·unfold yR Ws
    simp [Function.comp_def]
   ·have hwl:(Ws (iN p L).1).length=(iN p L).1.length:=by simp [Ws]
    have hx':x=⟨[0],(iN p L).1[k]'(by omega)⟩:=by
     rw [cO hk] at hx
     simp only [Ws,List.getElem_map,Option.some.injEq] at hx
     exact hx.symm
    have hqr:=hw.2 _ (List.getElem_mem (l:=(iN p L).1) (n:=k) (by omega))
    simp only [mA,cB hk,if_pos,hx,aI,bV hk (show (Ws (iN p L).1).length < 4611686018427387904 by omega)]
    rw [hx']
    simp only
    rw [aND hp L (by omega),aI,eW (by simp [jJ,ho'];omega),aI]
  ·rw [decide_eq_false h300,if_pos (by simp),if_neg (fun h=>h300 h.2)];rfl
 ·rw [if_neg h40,if_pos (by simp),if_neg (fun h=>h40 h.1)];rfl
theorem aHp (p:cH) (L:List aZ) (hf:gZ 999999999 p) (hl:L.length < 2000000) (hs:∀ s∈L,s.length < 2000000):xM p L=some (PM p L):=by
 have hs':∀ s∈L,s.length < 1000000000:=fun s h=>by have:=hs s h;omega
 unfold xM PM
 rw [wO p hf,aI]
 cases hv:cl (cT p) with
 |false=>simp [uX]
 |true=>
  have hp:cT p:=iG.1 hv
  simp only [Bool.not_true,Bool.false_eq_true,if_false,aHe p hf,aI,reduceCtorEq]
  rw [cl_and,hv,Bool.true_and]
  cases hsg:cl (iQ p) with
  |false=>simp [uX]
  |true=>
   have hps:iQ p:=iG.1 hsg
   simp only [Bool.not_true,Bool.false_eq_true,if_false,aI,isSet_eq L (by omega) hs',reduceCtorEq]
   cases hset:cl (lO L) with
   |false=>simp [uX]
   |true=>
    have hL:lO L:=iG.1 hset
    simp only [Bool.not_true,Bool.false_eq_true,if_false,reduceCtorEq]
    rw [aGA (step:=fun s:List lS × Int=>rF L s.1 s.2) L (fun s=>(⟨0,s,0⟩:lS)) id (fun k out x hk ho hx=>?_) (fun out=>by simp only [rF,bT];rfl),aI]
    ·have hedges:((L.map fun s=>(⟨0,s,0⟩:lS)).map fun a=>(⟨a.from_,pos (dY::L) a.label,a.to_⟩:Edge))=(dN L).E:=by
      refine List.ext_getElem (by simp [dN]) fun i h1 h2=>?_
      rw [tO h2]
      have hi:i < L.length:=by simpa using h1
      simp only [List.getElem_map]
      have:=pos_at (R:=fun a b=>uC a b=true) (fun a h=>by rw [aDl] at h;cases h) hL.strict.lab (k:=i+1) (by simp;omega)
      simp only [List.getElem_cons_succ] at this
      rw [this]
      simp
     have hpw:(dN L).E.Pairwise fun a b=>dP a b=true:=by
      rw [List.pairwise_iff_getElem]
      intro i j hi hj hij
      rw [tO hi,tO hj,lX]
      refine .inr ⟨rfl,.inl ?_⟩
      simp only;omega
     unfold aCs
     simp only [id]
     rw [aMk (M:=L) hL.strict (fun s _=>Iff.rfl) (by omega) (by simp;omega) (by rw [hedges];exact hpw) (by omega),aI,hedges]
     rw [show (⟨1,0,dY::L,(dN L).E⟩:cH)=dN L from rfl]
     have hfit:gZ 999999999 (dN L):=⟨by simp [dN];omega,fun s h=>by
      rcases List.mem_cons.1 h with rfl|h
      ·decide
      ·have:=hs s h;omega,by rw [aDu];omega⟩
     rw [wO _ hfit,aI]
     by_cases h12:12≤L.length
     ·rw [if_pos h12,iL (P:=cT (dN L)) (fun h=>by have:=h.2.2.1.2.1;simp [dN] at this;omega)];rfl
     ·have ht:=aBp hL (by omega)
      rw [if_neg h12,jI ht.ok,if_neg (by simp)]
      unfold aFU aET
      rw [wO _ hfit,aI,jI ht.ok]
      simp only [Bool.not_true,Bool.false_eq_true,if_false,wO p hf,aI,hv,xH,aHe p hf,cl_and,hsg,Bool.and_self,bne_self_eq_false,aOS hp hps hL (show L.length≤11 by omega) hs]
      cases (res p L).2<;>rfl
    ·simp only [rF,cB hk,if_pos,hx,aI,bV hk (show L.length < 4611686018427387904 by omega)]
     rw [eW (by simp [jJ];omega),aI]
end
end Gv
namespace Gv
open Go
theorem aJU {t:cH} (hf:gZ sz t) (a b:Int):qH a b t.L t.E 1=some ((1:Int)+t.L.length+3 * t.E.length,mS 1 t.L.length,mE (1+t.L.length) t.E.length):=by
 obtain ⟨f1,_,f3⟩:=hf
 unfold sz at f1 f3
 unfold qH
 rw [yG (by omega) (by omega) (by omega),aI]
 simp only
 rw [aGX (by omega) (by omega) (by omega),aI]
theorem mark_held {m:eZ} (hf:gZ sz m.S) (hv:m.Verdicts.length≤sz):∃ k Ls Es Vs,aCG m.S.N m.S.I m.S.L m.S.E m.Verdicts 1=some (k,Ls,Es,Vs)∧aAb ⟨⟨m.S.N,m.S.I,Ls,Es⟩,Vs⟩ 1=some k∧0≤k:=by
 have h1:=aJU hf m.S.N m.S.I
 obtain ⟨f1,_,f3⟩:=hf
 unfold sz at f1 f3 hv
 refine ⟨(1:Int)+m.S.L.length+3 * m.S.E.length+m.Verdicts.length,mS 1 m.S.L.length,mE (1+m.S.L.length) m.S.E.length,mI (1+m.S.L.length+3 * m.S.E.length) m.Verdicts.length,?_,?_,by omega⟩
 ·unfold aCG
  rw [h1,aI]
  simp only
  rw [aCI (by omega) (by omega) (by omega),aI]
 ·unfold aAb aBm
  simp only
  rw [aBN (by omega) (by omega) (by omega),aI,if_neg (by simp only [decide_eq_true_eq];omega),aGY (by omega) (by omega) (by omega),aI,if_neg (by simp only [decide_eq_true_eq];omega),aI,if_neg (by simp only [decide_eq_true_eq];omega),aCJ (by omega) (by omega) (by omega),aI,if_neg (by simp only [decide_eq_true_eq];omega)]
theorem PM_fits {p:cH} {L:List aZ} (hs:∀ s∈L,s.length≤sz):gZ sz (PM p L).1.S∧(PM p L).1.Verdicts.length≤sz:=by
 have h0:gZ sz uX.S∧uX.Verdicts.length≤sz:=⟨⟨by simp [uX],by simp [uX],by simp [uX]⟩,by simp [uX]⟩
 unfold PM
 split
 ·exact h0
 split
 ·exact h0
 split
 ·exact h0
 split
 ·exact h0
 split
 ·exact h0
 ·rename_i h12 _
  simp only
  unfold res
  split
  ·rename_i hok
   refine ⟨⟨?_,fun s h=>?_,?_⟩,?_⟩
   ·simp only [List.length_cons];unfold sz;omega
   ·rcases List.mem_cons.1 h with rfl|h
    ·decide
    ·exact hs s h
   ·simp only;unfold sz;omega
   ·simp only [List.length_map];unfold sz;omega
  ·exact h0
theorem gZ.mono {a b:Nat} {t:cH} (h:gZ a t) (hab:a≤b):gZ b t:=⟨Nat.le_trans h.1 hab,fun s hs=>Nat.le_trans (h.2.1 s hs) hab,Nat.le_trans h.2.2 hab⟩
theorem law (aP:cH) (aL:List aZ) (hP:gZ 9223372036854775807 aP) (hL:aL.length≤9223372036854775807) (hS:∀ s∈aL,s.length≤9223372036854775807):yU aP aL=some true:=by
 obtain ⟨r,hr,h1⟩:=aGq (t:=aP) (left:=1048576) (by omega) (by decide) hP
 unfold yU
 rw [hr,aI]
 by_cases hn:r < 0
 ·rw [if_pos (by simpa using hn)]
 rw [if_neg (by simpa using hn)]
 obtain ⟨hrl,hfit⟩:=h1 (by omega)
 obtain ⟨r',hr',h2⟩:=aBM (a:=aL) (left:=r) (by omega) (by unfold sz;omega) (by omega) (fun s hs=>by have:=hS s hs;omega)
 rw [hr',aI]
 by_cases hn':r' < 0
 ·rw [if_pos (by simpa using hn')]
 rw [if_neg (by simpa using hn')]
 obtain ⟨_,hl,hs⟩:=h2 (by omega)
 have hl':aL.length≤1048576:=by omega
 have hs':∀ s∈aL,s.length≤sz:=fun s h=>by have:=hs s h;unfold sz;omega
 have hs2:∀ s∈aL,s.length≤1048576:=fun s h=>by have:=hs s h;omega
 have t1:=aJd (hfit.mono sz_lim)
 have t2:kG aL=some aL:=aEa (by simp [jJ];omega)
 have s1:=aHo aP aL (hfit.mono (by decide)) (by omega) (fun s h=>by have:=hs2 s h;omega)
 have i1:=aHp aP aL (hfit.mono (by decide)) (by omega) (fun s h=>by have:=hs2 s h;omega)
 obtain ⟨pf,pv⟩:=PM_fits (p:=aP) (L:=aL) hs'
 have e1:=aLT (PM aP aL).1 (PM aP aL).1 (pf.mono (by decide)) (Nat.lt_of_le_of_lt pv (by decide))
 rw [decide_eq_true (p:=(PM aP aL).1=(PM aP aL).1) rfl] at e1
 have e2:=aGW aP aP (hfit.mono (by decide))
 rw [decide_eq_true (p:=aP=aP) rfl] at e2
 have e3:=aEb aL aL (by omega)
 rw [decide_eq_true (p:=aL=aL) rfl] at e3
 obtain ⟨k,Ls,Es,Vs,m1,m2,m3⟩:=mark_held pf pv
 have k1:=aJU hfit aP.N aP.I
 obtain ⟨f1,_,f3⟩:=hfit
 unfold sz at f1 f3
 have k2:=yG (a:=aL) (k:=1+aP.L.length+3 * aP.E.length) (by omega) (by omega) (by omega)
 simp only [t1,t2,s1,i1,e1,aI,Bool.not_true,Bool.false_eq_true,if_false,bne_self_eq_false]
 unfold nO
 simp only [Bool.false_eq_true,if_false,t1,t2,e2,e3,k1,k2,aI,Bool.not_true,e1,bne_self_eq_false]
 rw [if_neg (by simp only [decide_eq_true_eq];omega)]
 unfold jZ
 simp only [Bool.false_eq_true,if_false,m1,m2,aI,bne_self_eq_false,t1,t2,i1,e1,Bool.not_true]
 rw [if_neg (by simp only [decide_eq_true_eq];omega)]
 unfold nN
 simp only [Bool.false_eq_true,if_false,m2,aI,bne_self_eq_false]
 rw [if_neg (by simp only [decide_eq_true_eq];omega)]
end Gv
#print axioms Gv.law
