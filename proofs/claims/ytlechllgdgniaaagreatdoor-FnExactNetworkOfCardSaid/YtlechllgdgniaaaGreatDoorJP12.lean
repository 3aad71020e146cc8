/- Taking out repetitions, as slices.Compact does; the system made out of labels and arcs. -/
import Derived.Test.YtlechllgdgniaaaGreatDoorJP11
set_option linter.all false
namespace Gv
open Go
theorem aNu {α:Type} [DecidableEq α] (x y:α):∀ xs:List α,jQ (xs++[x,y])=if x=y then jQ (xs++[x]) else jQ (xs++[x])++[y]
 |[]=>by
  simp only [List.nil_append,jQ]
  by_cases h:x=y<;>simp [h]
 |[a]=>by
  simp only [List.cons_append,List.nil_append,jQ]
  by_cases h:x=y<;>by_cases h2:a=x<;>simp [h,h2]
 |a::b::l=>by
  have ih:=aNu x y (b::l)
  simp only [List.cons_append] at ih ⊢
  unfold jQ
  by_cases h2:a=b
  ·rw [if_pos h2,if_pos h2];exact ih
  ·rw [if_neg h2,if_neg h2,ih]
   by_cases h:x=y<;>simp [h]
theorem aJv {α:Type} [DecidableEq α] {s:List α} {m:Nat} (h1:1<=m) (hm:m < s.length):jQ (s.take (m+1))=if s[m - 1]'(by omega)=s[m] then jQ (s.take m) else jQ (s.take m)++[s[m]]:=by
 obtain ⟨k,rfl⟩:∃ k,m=k+1:=⟨m - 1,by omega⟩
 have e1:s.take (k+1)=s.take k++[s[k]]:=by rw [List.take_add_one];simp [show k < s.length by omega]
 have e2:s.take (k+1+1)=s.take k++[s[k],s[k+1]]:=by rw [List.take_add_one,e1,List.getElem?_eq_getElem hm,List.append_assoc];rfl
 rw [e2,e1,aNu];rfl
theorem aIU {α:Type} [DecidableEq α] {step:(List α × Int × Int)->Option ((List α × Int × Int) ⊕ (List α × Int))} (s:List α) (k:Nat) (h1:1<=k) (hk:k < s.length) (hd:jQ (s.take (k+1))=s.take k)
  (hst:∀ (j w:Nat) s' x y,1<=j->k+j < s.length->s'.length=s.length->w < s.length->s'[k+j]?=some x->s'[k+j - 1]?=some y->step (s',(w:Int),(j:Int))=some (.inl (if x=y then (s',(w:Int),((j+1:Nat):Int)) else (s'.set w x,((w+1:Nat):Int),((j+1:Nat):Int)))))
  (hen:∀ s' w,step (s',w,((s.length - k:Nat):Int))=some (.inr (s',w))):∃ s' w,loop step (s,(k:Int),1)=some (s',((w:Nat):Int))/\s'.length=s.length/\w<=s.length/\s'.take w=jQ s:=by
 have:=aHX (step:=step) (s.length - k) (fun j (a:List α × Nat)=>(a.1,(a.2:Int),(j:Int))) (fun j a=>1<=j/\a.1.length=s.length/\a.2<=k+j - 1/\a.1.take a.2=jQ (s.take (k+j))/\∀ i,k+j - 1<=i->a.1[i]?=s[i]?)
  (fun r=>∃ w:Nat,r.2=(w:Int)/\r.1.length=s.length/\w<=s.length/\r.1.take w=jQ s) (fun j a hj hI=>?_) (fun a hI=>?_) (s.length - k - 1) 1 (s,k) (by omega) ⟨Nat.le_refl _,rfl,by simp only;omega,by simp only;rw [hd],fun i _=>rfl⟩
 ·obtain ⟨⟨s',w⟩,hr,w',hw,h2,h3,h4⟩:=this
  simp only at hw h2 h3 h4
  subst hw
  exact ⟨s',w',hr,h2,h3,h4⟩
 ·obtain ⟨s',w⟩:=a
  obtain ⟨i1,i2,i3,i4,i5⟩:=hI
  simp only at i2 i3 i4 i5
  have hkj:k+j < s.length:=by omega
  have hx:s'[k+j]?=some s[k+j]:=by rw [i5 _ (by omega),List.getElem?_eq_getElem hkj]
  have hy:s'[k+j - 1]?=some (s[k+j - 1]'(by omega)):=by rw [i5 _ (by omega),List.getElem?_eq_getElem (by omega)]
  have hst':=hst j w s' _ _ i1 hkj i2 (by omega) hx hy
  have hdt:=aJv (s:=s) (m:=k+j) (by omega) hkj
  by_cases e:s[k+j]=s[k+j - 1]'(by omega)
  ·rw [if_pos e] at hst'
   rw [if_pos e.symm] at hdt
   refine ⟨(s',w),hst',by omega,i2,by simp only;omega,?_,fun i hi=>i5 i (by omega)⟩
   simp only;rw [i4,←Nat.add_assoc,hdt]
  ·rw [if_neg e] at hst'
   rw [if_neg (fun h=>e h.symm)] at hdt
   refine ⟨(s'.set w s[k+j],w+1),hst',by omega,by simp [i2],by simp only;omega,?_,fun i hi=>?_⟩
   ·simp only
    rw [←Nat.add_assoc,hdt,←i4,List.take_add_one,List.take_set_of_le (Nat.le_refl _)]
    simp [show w < s'.length by omega]
   ·simp only
    rw [List.getElem?_set_ne (by omega)]
    exact i5 i (by omega)
 ·obtain ⟨s',w⟩:=a
  obtain ⟨i1,i2,i3,i4,i5⟩:=hI
  simp only at i2 i3 i4 i5
  refine ⟨_,hen s' _,w,rfl,i2,by omega,?_⟩
  simp only
  rw [i4,List.take_of_length_le (by omega)]
theorem slc_to {α:Type} {s:List α} {w:Nat} (h:w<=s.length):slc s 0 (w:Int)=some (s.take w):=by
 unfold slc;rw [if_pos ⟨by omega,by omega,by omega⟩];simp
theorem aKh {α:Type} {s:List α} {w:Nat} (h:w<=s.length):slc s (w:Int) (s.length:Int)=some (s.drop w):=by
 unfold slc;rw [if_pos ⟨by omega,by omega,by omega⟩]
 rw [Int.toNat_natCast,Int.toNat_natCast,List.take_of_length_le (by simp)]
theorem aNv {α:Type} {s:List α} {w:Nat} (z:α) (h:w<=s.length):ovw s (w:Int) (List.replicate (s.drop w).length z)=some (s.take w++List.replicate (s.length - w) z):=by
 unfold ovw
 rw [if_pos ⟨by omega,by simp;omega⟩]
 simp
 omega
theorem aNw {σ ρ α:Type} {step:σ->Option (σ ⊕ ρ)} (n:Nat) (g:Nat->α->σ) (I:Nat->α->Prop) (R:ρ->Prop)
  (h:∀ k a,k < n->I k a->(∃ a',step (g k a)=some (.inl (g (k+1) a'))/\I (k+1) a')\/∃ r,step (g k a)=some (.inr r)/\R r)
  (h':∀ a,I n a->∃ r,step (g n a)=some (.inr r)/\R r):∀ j k a,k+j=n->I k a->∃ r,loop step (g k a)=some r/\R r
 |0,k,a,e,hI=>by
  obtain rfl:k=n:=by omega
  obtain ⟨r,h1,h2⟩:=h' a hI
  exact ⟨r,by rw [cN,h1],h2⟩
 |j+1,k,a,e,hI=>by
  rcases h k a (by omega) hI with ⟨a',h1,h2⟩|⟨r,h1,h2⟩
  ·rw [cN,h1]
   exact aNw n g I R h h' j (k+1) a' (by omega) h2
  ·exact ⟨r,by rw [cN,h1],h2⟩
theorem aRk (s:List bK) (h:s.length < 1000000000):gG s=some (jQ s):=by
 unfold gG
 by_cases h2:s.length < 2
 ·rw [if_pos (by simp;omega)]
  rcases s with _|⟨a,_|⟨b,l⟩⟩
  ·rfl
  ·rfl
  ·simp at h2;omega
 rw [if_neg (by simp;omega)]
 have:=aNw (step:=fun k=>fV s k) s.length (fun k (_:Unit)=>(k:Int)) (fun k _=>1<=k/\jQ (s.take k)=s.take k) (fun r=>r=.inr (jQ s)\/(r=.inl ()/\jQ s=s)) (fun k a hk hI=>?_) (fun a hI=>?_) (s.length - 1) 1 () (by omega) ⟨Nat.le_refl _,?_⟩
 ·obtain ⟨r,hr,hR⟩:=this
  rw [show (1:Int)=((1:Nat):Int) from rfl,hr,aF]
  rcases hR with rfl|⟨rfl,h⟩
  ·rfl
  ·rw [h];rfl
 ·obtain ⟨i1,i2⟩:=hI
  have hk1:wr ((k:Int) - 1)=((k - 1:Nat):Int):=by rw [eT (by omega) (by omega)];omega
  have hdt:=aJv (s:=s) (m:=k) i1 hk
  simp only [fV,cU hk,if_pos,cV hk,aF,hk1,cV (xs:=s) (k:=k - 1) (by omega),gZ,cT hk (show s.length < 4611686018427387904 by omega)]
  by_cases e:s[k]=s[k - 1]'(by omega)
  ·right
   rw [if_pos e.symm,i2] at hdt
   rw [if_pos (by simpa using e),aKh (by omega),aF]
   obtain ⟨s',w,hl,g1,g2,g3⟩:=aIU (step:=fun x:List bK × Int × Int=>fU (k:Int) (s.drop k) x.1 x.2.1 x.2.2) s k i1 hk hdt (fun j w s' x y j1 j2 j3 j4 hx hy=>by
    have hl:(s.drop k).length=s.length - k:=by simp
    have a1:(k:Int)+(j:Int)=((k+j:Nat):Int):=by omega
    have a2:wr ((j:Int) - 1)=((j - 1:Nat):Int):=by rw [eT (by omega) (by omega)];omega
    have a3:(k:Int)+((j - 1:Nat):Int)=((k+j - 1:Nat):Int):=by omega
    simp only [fU,hl,cU (show j < s.length - k by omega),if_pos,cV (xs:=s.drop k) (k:=j) (by omega),aF,a1,iX,hx,a2,List.getElem?_eq_getElem (show j - 1 < (s.drop k).length by omega),a3,hy,fT,cT (show j < s.length - k by omega) (by omega),List.getElem?_eq_getElem (show w < s'.length by omega),mT (xs:=s') (k:=w) _ (by omega),cT j4 (show s.length < 4611686018427387904 by omega)]
    by_cases e:x=y<;>simp [e]) (fun s' w=>by
     have hl:(s.drop k).length=s.length - k:=by simp
     simp only [fU,hl,cK];rfl)
   rw [hl,aF]
   unfold fR
   simp only
   rw [aKh (by omega),aF,aNv _ (by omega),aF,slc_to (by simp;omega),aF]
   refine ⟨_,rfl,.inl ?_⟩
   rw [List.take_append_of_le_length (by simp;omega),List.take_take,Nat.min_self,g3]
  ·left
   rw [if_neg (by simpa using e)]
   refine ⟨(),rfl,by omega,?_⟩
   rw [hdt,if_neg (fun h=>e h.symm),i2,List.take_add_one]
   simp [hk]
 ·refine ⟨_,by simp only [fV,cK];rfl,.inr ⟨rfl,?_⟩⟩
  have:=hI.2
  rwa [List.take_of_length_le (by omega)] at this
 ·rcases s with _|⟨a,l⟩
  ·rfl
  ·rfl
end Gv
namespace Gv
open Go
def WF (p:eP) (at_:List Int):Prop:=at_.Nodup/\∀ q∈at_,-1<=q/\q<=p.N - 1
theorem WF.len {p:eP} (hp:lK p) {a:List Int} (h:WF p a):a.length<=41:=by
 have h1:=hp.1
 have:=List.Nodup.length_le_of_subset (l₂:=(List.range 41).map fun (i:Nat)=>(i:Int) - 1) h.1 (fun q hq=>by
  have:=h.2 q hq
  rw [List.mem_map]
  exact ⟨(q+1).toNat,by rw [List.mem_range];omega,by omega⟩)
 simpa using this
end Gv
namespace Gv
open Go
section
variable {p:eP} {L:List bK}
end
end Gv
namespace Gv
open Go
theorem aMp {α:Type} [BEq α] [LawfulBEq α] {xs:List α} {a:α} (h:a∈xs):∃ i:Nat,∃ hi:i < xs.length,pos xs a=(i:Int)/\xs[i]=a:=by
 unfold pos
 cases hx:xs.findIdx? (fun x=>a == x) with
 |none=>
  rw [List.findIdx?_eq_none_iff] at hx
  have:=hx a h
  simp at this
 |some i=>
  rw [List.findIdx?_eq_some_iff_getElem] at hx
  obtain ⟨hi,h1,_⟩:=hx
  exact ⟨i,hi,rfl,by simpa using Eq.symm (by simpa using h1)⟩
def key (q:Int):bK:=[48,32]++Lib.itoa q
section
variable {p:eP} {L:List bK}
theorem WF.small (hp:lK p) {a:List Int} (h:WF p a):∀ x∈a,-1<=x/\x<=63:=fun x hx=>by
 have:=h.2 x hx;have:=hp.1;omega
end
end Gv
namespace Gv
open Go
structure ED (L:List bK) (i k:Int) (n:Nat) (ed:List Edge):Prop where
 ord:ed.Pairwise flLt
 all:∀ e∈ed,0<=e.F/\(e.F < i\/(e.F=i/\e.B<=k))/\1<=e.B/\e.B<=L.length/\0<=e.To/\e.To < n
section
variable {p:eP} {L:List bK}
theorem ED.mono {i k:Int} {n m:Nat} {ed:List Edge} (h:ED L i k n ed) (hm:n<=m):ED L i k m ed:=
 ⟨h.ord,fun e he=>by have:=h.all e he;omega⟩
theorem ED.next {i k:Int} {n:Nat} {ed:List Edge} (h:ED L i k n ed):ED L (i+1) 0 n ed:=
 ⟨h.ord,fun e he=>by have:=h.all e he;omega⟩
theorem SetOk.sub {M:List bK} (hL:SetOk L) (h:M.Sublist L):SetOk M:=by
 refine ⟨fun s hs=>hL.1 s (h.mem hs),fun k h1 hk=>?_⟩
 have:=hL.strict.1.sublist h
 exact List.pairwise_iff_getElem.1 this (k - 1) k (by omega) hk (by omega)
theorem aRl {arcs:List vQ} (h:arcs.length < 2000000):aBx arcs=some (arcs.map (·.label)):=by
 unfold aBx
 rw [aBC (step:=fun s:List bK × Int=>wW arcs s.1 s.2) arcs (·.label) id (fun k out x hk ho hx=>?_) (fun out=>by simp only [wW,cK];rfl),aF]
 ·rfl
 ·simp only [wW,cU hk,if_pos,hx,aF,cT hk (show arcs.length < 4611686018427387904 by omega)]
  rw [gK (by simp [jU];omega),aF]
end
end Gv
namespace Gv
open Go
section
variable {p:eP} {L:List bK}
end
end Gv
namespace Gv
open Go
theorem lP.mono {a b:Nat} {t:eP} (h:lP a t) (hab:a<=b):lP b t:=⟨Nat.le_trans h.1 hab,fun s hs=>Nat.le_trans (h.2.1 s hs) hab,Nat.le_trans h.2.2 hab⟩
end Gv
