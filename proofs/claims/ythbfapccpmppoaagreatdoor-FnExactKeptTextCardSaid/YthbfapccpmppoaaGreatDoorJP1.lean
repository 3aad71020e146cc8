/- Loops over lists, in plain Lean; the measures, copies, comparisons and marks of the laws. -/
import Derived.Test.YthbfapccpmppoaaGreatDoorJMd
set_option linter.all false
namespace Gv
theorem aDt {σ ρ α:Type} {step:σ->Option (σ ⊕ ρ)} (n:Nat) (g:Nat->α->σ) (F:Nat->α->ρ) (I:Nat->α->Prop)
  (h:∀ k a,k < n->I k a->(∃ a',step (g k a)=some (.inl (g (k+1) a'))/\I (k+1) a'/\F (k+1) a'=F k a)\/step (g k a)=some (.inr (F k a)))
  (h':∀ a,I n a->step (g n a)=some (.inr (F n a))):∀ j k a,k+j=n->I k a->loop step (g k a)=some (F k a)
 |0,k,a,e,hI=>by
  obtain rfl:k=n:=by omega
  rw [bD,h' a hI]
 |j+1,k,a,e,hI=>by
  rcases h k a (by omega) hI with ⟨a',h1,h2,h3⟩|h1
  ·rw [bD,h1,←h3]
   exact aDt n g F I h h' j (k+1) a' (by omega) h2
  ·rw [bD,h1]
theorem aOz {σ ρ α β:Type} {step:σ->Option (σ ⊕ ρ)} (xs:List β) (g:Nat->α->σ) (go:List β->α->ρ) (I:Nat->α->Prop)
  (h:∀ k a x l,k < xs.length->ix xs (k:Int)=some x->I k a->(∃ a',step (g k a)=some (.inl (g (k+1) a'))/\I (k+1) a'/\go l a'=go (x::l) a)\/step (g k a)=some (.inr (go (x::l) a)))
  (h':∀ a,I xs.length a->step (g xs.length a)=some (.inr (go [] a))) {a:α} (hI:I 0 a):loop step (g 0 a)=some (go xs a):=by
 have:=aDt (step:=step) xs.length g (fun k a=>go (xs.drop k) a) I (fun k a hk hI=>?_) (fun a hI=>?_) xs.length 0 a (by omega) hI
 ·simpa using this
 ·have hx:ix xs (k:Int)=some xs[k]:=by rw [dQ];simp [hk]
  have:=h k a xs[k] (xs.drop (k+1)) hk hx hI
  rw [show xs.drop k=xs[k]::xs.drop (k+1) from List.drop_eq_getElem_cons hk]
  exact this
 ·simpa using h' a hI
theorem bO {k n:Nat} (h:k < n) (hn:n < 4611686018427387904):wr ((k:Int)+1)=((k+1:Nat):Int):=by unfold wr;omega
theorem bV {k n:Nat} (h:k < n):decide ((k:Int) < (n:Int))=true:=by simp;omega
theorem bL {n:Nat}:decide ((n:Int) < (n:Int))=false:=by simp
theorem aEo {ρ:Type} {β:Type} {step:Int->Option (Int ⊕ ρ)} (xs:List β) (p:β->Bool) (r e:ρ)
  (h:∀ (k:Nat) x,k < xs.length->ix xs (k:Int)=some x->step (k:Int)=if p x=true then some (.inl ((k+1:Nat):Int)) else some (.inr r))
  (h':step (xs.length:Int)=some (.inr e)):loop step 0=some (if xs.all p=true then e else r):=by
 have:=aOz (step:=step) xs (fun k (_:Unit)=>(k:Int)) (fun l _=>if l.all p=true then e else r) (fun _ _=>True) (fun k a x l hk hx _=>?_) (fun a _=>by simpa using h') (a:=()) trivial
 ·exact this
 ·rw [h k x hk hx]
  by_cases hp:p x=true
  ·left;exact ⟨(),by simp [hp],trivial,by simp [hp]⟩
  ·right;simp [hp]
theorem vE {ρ:Type} {step:Int->Option (Int ⊕ ρ)} (n k0:Nat) (p:Nat->Bool) (r e:ρ) (hk:k0<=n)
  (h:∀ (k:Nat),k0<=k->k < n->step (k:Int)=if p k=true then some (.inl ((k+1:Nat):Int)) else some (.inr r))
  (h':step (n:Int)=some (.inr e)):∃ b:Bool,(b=true<->∀ k,k0<=k->k < n->p k=true)/\loop step (k0:Int)=some (if b=true then e else r):=by
 classical
 refine ⟨decide (∀ k,k0<=k->k < n->p k=true),by simp,?_⟩
 have:=aDt (step:=step) n (fun k (_:Unit)=>(k:Int)) (fun k0 _=>if (∀ k,k0<=k->k < n->p k=true) then e else r) (fun k _=>k0<=k) (fun k a hk hI=>?_) (fun a _=>?_) (n - k0) k0 () (by omega) (Nat.le_refl _)
 ·simpa using this
 ·rw [h k hI hk]
  by_cases hp:p k=true
  ·left
   refine ⟨(),by simp [hp],by omega,?_⟩
   have:(∀ j,k+1<=j->j < n->p j=true)<->(∀ j,k<=j->j < n->p j=true):=by
    constructor
    ·intro h j h1 h2
     by_cases e:j=k
     ·subst e;exact hp
     ·exact h j (by omega) h2
    ·intro h j h1 h2;exact h j (by omega) h2
   simp only [this]
  ·right
   rw [if_neg hp,if_neg (fun h=>hp (h k (Nat.le_refl _) hk))]
 ·rw [h',if_pos (by omega)]
def sz:Nat:=1048576
theorem ix_get {α:Type} {xs:List α} {k:Nat} {x:α} (h:ix xs (k:Int)=some x):∃ hk:k < xs.length,xs[k]=x:=by
 rw [dQ] at h;exact List.getElem?_eq_some_iff.1 h
theorem aMZ {a:List aL} {left:Int} (h0:0<=left) (hl:left<=sz) (ha:a.length < 9223372036854775808) (hs:∀ s∈a,s.length < 9223372036854775808):
  ∃ r,nK a left=some r/\(0<=r->r<=left/\(a.length:Int)<=left/\∀ s∈a,(s.length:Int)<=left):=by
 unfold sz at hl
 unfold nK
 by_cases hneg:left - (a.length:Int) < 0
 ·refine ⟨-1,?_,by omega⟩
  rw [if_pos];unfold wr;simp only [decide_eq_true_eq];omega
 ·have e1:wr (left - (a.length:Int))=left - (a.length:Int):=by unfold wr;omega
  rw [e1,if_neg (by simp;omega)]
  have hL:=aBJ (step:=fun s:Int × Int=>mS a s.1 s.2) (fun s=>0<=s.2/\s.2<=a.length/\0<=s.1/\s.1<=left/\∀ (k:Nat) x,(k:Int) < s.2->a[k]?=some x->(x.length:Int)<=left) (fun s=>(a.length - s.2).toNat)
   (fun r=>r=.inr (-1)\/∃ l,r=.inl l/\0<=l/\l<=left/\∀ x∈a,(x.length:Int)<=left) (fun s hI=>?_) (s:=(left - (a.length:Int),0)) ⟨by omega,by simp,by simp;omega,by simp;omega,fun k x h=>by simp at h;omega⟩
  ·obtain ⟨r,hr,hR⟩:=hL
   rw [hr,aA]
   rcases hR with rfl|⟨l,rfl,h1,h2,h3⟩
   ·exact ⟨-1,rfl,by omega⟩
   ·exact ⟨l,rfl,fun _=>⟨h2,by omega,h3⟩⟩
  ·obtain ⟨l,i⟩:=s
   obtain ⟨h1,h2,h3,h4,h5⟩:=hI
   simp only at h1 h2 h3 h4 h5 ⊢
   obtain ⟨k,rfl⟩:∃ k:Nat,i=(k:Int):=⟨i.toNat,by omega⟩
   unfold mS
   by_cases hk:k < a.length
   ·have hx:ix a (k:Int)=some a[k]:=by rw [dQ];simp [hk]
    rw [if_pos (bV hk),hx,aA]
    have hb:=hs a[k] (List.getElem_mem hk)
    have e2:wr (l - (a[k].length:Int))=l - (a[k].length:Int):=by unfold wr;omega
    rw [e2]
    by_cases hn:l - (a[k].length:Int) < 0
    ·right;rw [if_pos (by simp;omega)];exact ⟨_,rfl,.inl rfl⟩
    ·left
     rw [if_neg (by simp;omega),bO hk (by omega)]
     refine ⟨_,rfl,⟨by simp only;omega,by simp only;omega,by simp only;omega,by simp only;omega,?_⟩,by simp only;omega⟩
     intro j x hj hx
     by_cases e:j=k
     ·obtain ⟨_,rfl⟩:=List.getElem?_eq_some_iff.1 hx;subst e;omega
     ·exact h5 j x (by omega) hx
   ·obtain rfl:k=a.length:=by omega
    right
    rw [if_neg (by simp)]
    refine ⟨_,rfl,.inr ⟨l,rfl,h3,h4,?_⟩⟩
    intro x hx
    obtain ⟨j,hj,rfl⟩:=List.mem_iff_getElem.1 hx
    exact h5 j _ (by omega) (by simp [hj])
theorem aPn {a:List Edge} {left:Int} (h0:0<=left) (hl:left<=sz) (ha:a.length < 9223372036854775808):
  ∃ r,aGU a left=some r/\(0<=r->r<=left/\(a.length:Int)<=left):=by
 unfold sz at hl
 unfold aGU
 have e1:wr (left - (a.length:Int))=left - (a.length:Int):=by unfold wr;omega
 rw [e1]
 by_cases hneg:left - (a.length:Int) < 0
 ·exact ⟨-1,by rw [if_pos (by simpa using hneg)],by omega⟩
 ·exact ⟨_,by rw [if_neg (by simpa using hneg)],by omega⟩
def mC (n:Nat) (t:gM):Prop:=t.L.length<=n/\(∀ s∈t.L,s.length<=n)/\t.E.length<=n
theorem aRl {t:gM} {left:Int} (h0:0<=left) (hl:left<=sz) (ht:mC 9223372036854775807 t):
  ∃ r,aLV t left=some r/\(0<=r->r<=left/\mC sz t):=by
 obtain ⟨g1,g2,g3⟩:=ht
 obtain ⟨r,hr,h1⟩:=aMZ (a:=t.L) h0 hl (by omega) (fun s hs=>by have:=g2 s hs;omega)
 unfold aLV
 rw [hr,aA]
 by_cases hn:r < 0
 ·exact ⟨-1,by rw [if_pos (by simpa using hn)],by omega⟩
 rw [if_neg (by simpa using hn)]
 obtain ⟨i1,i2,i3⟩:=h1 (by omega)
 obtain ⟨r',hr',h1'⟩:=aPn (a:=t.E) (left:=r) (by omega) (by omega) (by omega)
 rw [hr',aA]
 by_cases hn':r' < 0
 ·exact ⟨-1,by rw [if_pos (by simpa using hn')],by omega⟩
 rw [if_neg (by simpa using hn')]
 obtain ⟨j1,j2⟩:=h1' (by omega)
 exact ⟨_,rfl,fun _=>⟨by omega,by omega,fun s hs=>by have:=i3 s hs;omega,by omega⟩⟩
theorem xI {β:Type} {z:β} {step:(List β × Int)->Option ((List β × Int) ⊕ List β)} {a:List β}
  (h:∀ (k:Nat) out x,k < a.length->out.length=a.length->ix a (k:Int)=some x->step (out,(k:Int))=some (.inl (out.set k x,((k+1:Nat):Int))))
  (h':∀ out,step (out,(a.length:Int))=some (.inr out)):loop step (List.replicate a.length z,0)=some a:=by
 have:=aDt (step:=step) a.length (fun k out=>(out,(k:Int))) (fun _ _=>a) (fun k out=>out.length=a.length/\out.take k=a.take k) (fun k out hk hI=>?_) (fun out hI=>?_) a.length 0 (List.replicate a.length z) (by omega) ⟨by simp,by simp⟩
 ·exact this
 ·left
  have hx:ix a (k:Int)=some a[k]:=by rw [dQ];simp [hk]
  refine ⟨_,h k out a[k] hk hI.1 hx,⟨by simp [hI.1],?_⟩,rfl⟩
  rw [List.take_add_one,List.take_add_one,List.take_set_of_le (Nat.le_refl _),hI.2]
  simp [hk,hI.1]
 ·rw [h']
  have h1:=hI.2
  rw [List.take_of_length_le (by omega),List.take_of_length_le (by omega)] at h1
  rw [h1]
theorem aNa {α:Type} {n:Nat} (z:α) (h:n<=iK):mkz (n:Int) z=some (List.replicate n z):=by
 unfold mkz;rw [if_pos ⟨by omega,by simpa using h⟩];simp
theorem aDu {α:Type} {xs:List α} {k:Nat} (v:α) (h:k < xs.length):st xs (k:Int) v=some (xs.set k v):=by
 unfold st;rw [if_pos ⟨by omega,by simpa using h⟩];simp
theorem bY {α:Type} {xs:List α} {k:Nat} (h:k < xs.length):ix xs (k:Int)=some xs[k]:=by rw [dQ];simp [h]
theorem fB {α:Type} {xs ys:List α} (h:xs.length+ys.length<=iK):oH xs ys=some (xs++ys):=if_pos h
theorem aIG {xs ys:List UInt8} (h:xs.length+ys.length<=iK):eK xs ys=some (xs++ys):=if_pos h
theorem aFi {a:List aL} (h:a.length<=iK):qT a=some a:=by
 unfold iK at h
 unfold qT
 rw [aNa _ h,aA,xI (a:=a) (z:=([]:aL))]
 ·rfl
 ·intro k out x hk ho hx
  simp only [wM,bV hk,if_pos,hx,aA,bY (xs:=out) (k:=k) (by omega),aDu (xs:=out) (k:=k) x (by omega),bO hk (by omega)]
 ·intro out;simp only [wM,bL];rfl
theorem aRm {a:List Edge} (h:a.length<=iK):aEf a=some a:=by
 unfold iK at h
 unfold aEf
 rw [aNa _ h,aA,xI (a:=a) (z:=(⟨0,0,0⟩:Edge))]
 ·rfl
 ·intro k out x hk ho hx
  simp only [aBp,bV hk,if_pos,hx,aA,aMw,bY (xs:=out) (k:=k) (by omega),aDu (xs:=out) (k:=k) _ (by omega),bO hk (by omega)]
 ·intro out;simp only [aBp,bL];rfl
theorem sz_lim:sz<=iK:=by decide
theorem toLts_eq {t:gM} (h:mC iK t):aLW t=some t:=by
 unfold aLW;rw [aFi h.1,aA,aRm h.2.2,aA]
theorem aJZ {β:Type} [DecidableEq β] {step:Int->Option (Int ⊕ (Unit ⊕ Bool))} {a b:List β} (e:a.length=b.length)
  (h:∀ (k:Nat) x y,k < a.length->ix a (k:Int)=some x->ix b (k:Int)=some y->step (k:Int)=if x=y then some (.inl ((k+1:Nat):Int)) else some (.inr (.inr false)))
  (h':step (a.length:Int)=some (.inr (.inl ()))):ob (loop step 0) (fun r=>match r with|.inl _=>some true|.inr r=>some r)=some (decide (a=b)):=by
 obtain ⟨c,hc,hl⟩:=vE (step:=step) a.length 0 (fun k=>decide (a[k]?=b[k]?)) (.inr false) (.inl ()) (Nat.zero_le _) (fun k _ hk=>by
  have:=h k _ _ hk (bY hk) (bY (by omega))
  rw [this]
  have:decide (a[k]?=b[k]?)=decide (a[k]=b[k]'(by omega)):=by simp [hk,e ▸ hk]
  rw [this];simp) h'
 rw [show (0:Int)=((0:Nat):Int) from rfl,hl]
 by_cases hb:c=true
 ·subst hb
  have:a=b:=List.ext_getElem? fun k=>by
   by_cases hk:k < a.length
   ·simpa using hc.1 rfl k (Nat.zero_le _) hk
   ·simp [hk,show ¬ k < b.length by omega]
  simp [this]
 ·have hb':c=false:=by simpa using hb
  subst hb'
  have:¬ a=b:=fun he=>hb (hc.2 fun k _ _=>by simp [he])
  simp [this]
theorem aFj (a b:List aL) (h:a.length < 4611686018427387904):rC a b=some (decide (a=b)):=by
 unfold rC
 by_cases e:a.length=b.length
 ·rw [if_neg (by simp [e])]
  refine Eq.trans ?_ (aJZ e (step:=fun s=>xB a b s) ?_ ?_)
  ·rfl
  ·intro k x y hk hx hy
   simp only [xB,bV hk,if_pos,hx,hy,aA,bO hk h]
   by_cases e:x=y<;>simp [e]
  ·simp only [xB,bL];rfl
 ·rw [if_pos (by simp only [bne_iff_ne,ne_eq];omega)]
  have:¬ a=b:=fun h=>e (by rw [h])
  simp [this]
theorem eqEdge_eq (a b:Edge):aJB a b=some (decide (a=b)):=by
 obtain ⟨a1,a2,a3⟩:=a;obtain ⟨b1,b2,b3⟩:=b
 simp only [aJB,Edge.mk.injEq]
 by_cases h1:a1=b1<;>by_cases h2:a2=b2<;>by_cases h3:a3=b3<;>simp [h1,h2,h3]
theorem aRo (a b:List Edge) (h:a.length < 4611686018427387904):aEj a b=some (decide (a=b)):=by
 unfold aEj
 by_cases e:a.length=b.length
 ·rw [if_neg (by simp [e])]
  refine Eq.trans ?_ (aJZ e (step:=fun s=>aBv a b s) ?_ ?_)
  ·rfl
  ·intro k x y hk hx hy
   simp only [aBv,bV hk,if_pos,hx,hy,aA,bO hk h,eqEdge_eq]
   by_cases e:x=y<;>simp [e]
  ·simp only [aBv,bL];rfl
 ·rw [if_pos (by simp only [bne_iff_ne,ne_eq];omega)]
  have:¬ a=b:=fun h=>e (by rw [h])
  simp [this]
theorem aQl (a b:List Int) (h:a.length < 4611686018427387904):aCw a b=some (decide (a=b)):=by
 unfold aCw
 by_cases e:a.length=b.length
 ·rw [if_neg (by simp [e])]
  refine Eq.trans ?_ (aJZ e (step:=fun s=>zZ a b s) ?_ ?_)
  ·rfl
  ·intro k x y hk hx hy
   simp only [zZ,bV hk,if_pos,hx,hy,aA,bO hk h]
   by_cases e:x=y<;>simp [e]
  ·simp only [zZ,bL];rfl
 ·rw [if_pos (by simp only [bne_iff_ne,ne_eq];omega)]
  have:¬ a=b:=fun h=>e (by rw [h])
  simp [this]
theorem eqLts_eq (a b:gM) (h:mC 4611686018427387903 a):aLX a b=some (decide (a=b)):=by
 obtain ⟨a1,a2,a3,a4⟩:=a;obtain ⟨b1,b2,b3,b4⟩:=b
 have h1:=h.1;have h2:=h.2.2
 simp only at h1 h2
 simp only [aLX,gM.mk.injEq,aFj a3 b3 (by omega),aRo a4 b4 (by omega),aA]
 by_cases e1:a1=b1<;>by_cases e2:a2=b2<;>by_cases e3:a3=b3<;>by_cases e4:a4=b4<;>simp [e1,e2,e3,e4]
end Gv
namespace Gv
open Go
def low (c:UInt8):Bool:=decide (97<=c.toNat)&&decide (c.toNat<=122)
def dig (c:UInt8):Bool:=decide (48<=c.toNat)&&decide (c.toNat<=57)
theorem low_eq {f:Bool->Option Bool} (c:UInt8) (hf:∀ b,f b=some b):(if (decide (97<=(c.toNat:Int))) then (f (decide ((c.toNat:Int)<=122))) else (f false))=some (low c):=by
 unfold low
 have e1:decide ((97:Int)<=(c.toNat:Int))=decide (97<=c.toNat):=decide_eq_decide.2 (by omega)
 have e2:decide ((c.toNat:Int)<=(122:Int))=decide (c.toNat<=122):=decide_eq_decide.2 (by omega)
 rw [e1,e2,hf,hf]
 cases decide (97<=c.toNat)<;>rfl
theorem dig_eq {f:Bool->Option Bool} (c:UInt8) (hf:∀ b,f b=some b):(if (decide (48<=(c.toNat:Int))) then (f (decide ((c.toNat:Int)<=57))) else (f false))=some (dig c):=by
 unfold dig
 have e1:decide ((48:Int)<=(c.toNat:Int))=decide (48<=c.toNat):=decide_eq_decide.2 (by omega)
 have e2:decide ((c.toNat:Int)<=(57:Int))=decide (c.toNat<=57):=decide_eq_decide.2 (by omega)
 rw [e1,e2,hf,hf]
 cases decide (48<=c.toNat)<;>rfl
theorem aLg (c:UInt8):aBX c=some (low c):=low_eq c fun _=>rfl
theorem aLh (c:UInt8):aBY c=some (dig c):=dig_eq c fun _=>rfl
theorem aRp (c:UInt8):aGT c=some (dig c):=dig_eq c fun _=>rfl
def oE:aL->Bool
 |[]=>false
 |c::r=>low c&&(r.all fun c=>low c||dig c)&&decide (r.length < 10)
theorem aCG (s:aL):rL s=some (oE s):=by
 unfold rL
 cases s with
 |nil=>rfl
 |cons c r=>
  rw [if_neg (by simp)]
  by_cases hl:r.length < 10
  ·rw [if_neg (by simp;omega),show ix (c::r) 0=some c from rfl,aA,aLg,aA]
   unfold nS
   by_cases hc:low c=true
   ·rw [if_neg (by simp [hc]),aEo (step:=fun s=>vS (c::r) s) (c::r) (fun c=>low c||dig c) (.inr false) (.inl ())]
    ·by_cases hr:(r.all fun c=>low c||dig c)=true
     ·simp [oE,hc,hl,hr,aEM]
     ·simp [oE,hc,hl,hr]
    ·intro k x hk hx
     simp only [vS,bV hk,if_pos,hx,aA,aLg,aLh,aBd,bO hk (show (c::r).length < 4611686018427387904 by simp;omega)]
     cases low x<;>cases dig x<;>rfl
    ·simp only [vS,bL];rfl
   ·simp [hc,oE]
  ·rw [if_pos (by simp;omega)]
   unfold nS
   simp [oE,hl]
theorem aHg (s:aL) (h:s.length < 4611686018427387904):aBU s=some (oE s):=by
 unfold aBU
 have h0:∃ b:Bool,(b=true<->∀ k,0<=k->k < s.length->(s[k]?.map fun c=>low c||(decide (k≠0)&&dig c))=some true)/\loop (fun t=>uV s t) ((0:Nat):Int)=some (if b=true then .inl () else .inr false):=by
  have hA:=vE (step:=fun t=>uV s t) s.length 0 (fun k=>(s[k]?.map fun c=>low c||(decide (k≠0)&&dig c)) == some true) (.inr false) (.inl ()) (Nat.zero_le _) (fun k _ hk=>?_) (by simp only [uV,bL];rfl)
  ·obtain ⟨b,h1,h2⟩:=hA
   exact ⟨b,by simpa using h1,h2⟩
  ·have hl:(if (decide (97<=(s[k].toNat:Int))) then (nJ s k (decide ((s[k].toNat:Int)<=122))) else (nJ s k false))=nJ s k (low s[k]):=by
    have e1:decide ((97:Int)<=(s[k].toNat:Int))=decide (97<=s[k].toNat):=decide_eq_decide.2 (by omega)
    have e2:decide ((s[k].toNat:Int)<=(122:Int))=decide (s[k].toNat<=122):=decide_eq_decide.2 (by omega)
    rw [e1,e2];unfold low
    cases decide (97<=s[k].toNat)<;>rfl
   simp only [uV,bV hk,if_pos,bY hk,aA,hl]
   unfold nJ
   have e1:((k:Int) == 0)=!decide (k≠0):=by by_cases e:k=0<;>simp [e]
   simp only [bY hk,aA,aRp,aAj,bO hk h,List.getElem?_eq_getElem hk,Option.map_some,e1]
   generalize decide (k≠0)=d
   generalize low s[k]=x
   generalize dig s[k]=y
   cases d<;>cases x<;>cases y<;>rfl
 obtain ⟨b,hb,hl⟩:=h0
 rw [show (0:Int)=((0:Nat):Int) from rfl,hl,aA]
 cases s with
 |nil=>
  have:b=true:=hb.2 (by simp)
  subst this;rfl
 |cons c r=>
  have key:b=true<->(low c=true/\(r.all fun c=>low c||dig c)=true):=by
   rw [hb]
   constructor
   ·intro hh
    refine ⟨by simpa using hh 0 (Nat.le_refl _) (by simp),?_⟩
    rw [List.all_eq_true]
    intro x hx
    obtain ⟨k,hk,rfl⟩:=List.mem_iff_getElem.1 hx
    have:=hh (k+1) (Nat.zero_le _) (by simp;omega)
    simpa [hk] using this
   ·rintro ⟨h1,h2⟩ k _ hk
    cases k with
    |zero=>simp [h1]
    |succ k=>
     have hk':k < r.length:=by simpa using hk
     have:=List.all_eq_true.1 h2 r[k] (List.getElem_mem hk')
     simpa [hk'] using this
  by_cases hbt:b=true
  ·obtain ⟨h1,h2⟩:=key.1 hbt
   subst hbt
   simp only [if_pos,aCW,oE,h1,h2,Bool.true_and]
   have e1:decide ((1:Int)<=(List.length (c::r):Int))=true:=by simp only [List.length_cons,decide_eq_true_eq];omega
   have e2:decide ((List.length (c::r):Int)<=10)=decide (r.length < 10):=decide_eq_decide.2 (by simp only [List.length_cons];omega)
   rw [e1,e2];rfl
  ·rw [if_neg hbt]
   have h3:¬ (low c=true/\(r.all fun c=>low c||dig c)=true):=fun h=>hbt (key.2 h)
   have h4:(low c&&(r.all fun c=>low c||dig c))=false:=by
    cases h1:low c<;>cases h2:(r.all fun c=>low c||dig c)<;>simp_all
   simp [oE,h4]
def gH (s:aL):Bool:=oE s&&!(s == gY)
theorem rZ (s:aL):kS s=some (gH s):=by
 unfold kS gH
 rw [aCG,aA]
 cases oE s<;>simp [vT,gY]
theorem rG (s:aL) (h:s.length < 4611686018427387904):kZ s=some (gH s):=by
 unfold kZ gH
 rw [aHg s h,aA]
 cases oE s<;>simp [zD,gY]
def iA (b:UInt8):aL->aL × Option aL
 |[]=>([],none)
 |c::r=>if c == b then ([],some r) else (c::(iA b r).1,(iA b r).2)
theorem cut_eq (b:UInt8) (s:aL):Lib.cut s [b]=((iA b s).1,(iA b s).2.getD [],(iA b s).2.isSome):=by
 have hi:∀ s:aL,(0<=Lib.index s [b]/\s.take (Lib.index s [b]).toNat=(iA b s).1/\(iA b s).2=some (s.drop ((Lib.index s [b]).toNat+1)))\/(Lib.index s [b]=-1/\iA b s=(s,none)):=by
  intro s
  rw [Lib.index_one]
  induction s with
  |nil=>right;exact ⟨rfl,rfl⟩
  |cons c r ih=>
   unfold Lib.indexByte iA
   by_cases hc:(c == b)=true
   ·left;rw [if_pos hc,if_pos hc];simp
   ·rw [if_neg hc,if_neg hc]
    rcases ih with ⟨h1,h2,h3⟩|⟨h1,h2⟩
    ·left
     rw [if_neg (by simp;omega)]
     have e:(Lib.indexByte r b+1).toNat=(Lib.indexByte r b).toNat+1:=by omega
     rw [e]
     exact ⟨by omega,by simp [h2],by simp [h3]⟩
    ·right
     rw [if_pos (by simp [h1]),h2]
     exact ⟨rfl,rfl⟩
 unfold Lib.cut
 rcases hi s with ⟨h1,h2,h3⟩|⟨h1,h2⟩
 ·rw [if_pos h1,h2,h3];simp
 ·rw [if_neg (by omega),h2];rfl
theorem aEp (b:UInt8) (s:aL):s=(iA b s).1++match (iA b s).2 with|none=>[]|some r=>b::r:=by
 induction s with
 |nil=>rfl
 |cons c r ih=>
  unfold iA
  by_cases hc:(c == b)=true
  ·rw [if_pos hc];simp at hc;simp [hc]
  ·rw [if_neg hc];simp only [List.cons_append];rw [←ih]
def spl (b:UInt8):aL->List aL
 |[]=>[[]]
 |c::r=>if c == b then []::spl b r else match spl b r with
  |[]=>[[c]]
  |h::t=>(c::h)::t
theorem aKa (b c:UInt8) (r:aL):spl b (c::r)=if c == b then []::spl b r else match spl b r with|[]=>[[c]]|h::t=>(c::h)::t:=rfl
theorem aRq (b c:UInt8) (r:aL):iA b (c::r)=if c == b then ([],some r) else (c::(iA b r).1,(iA b r).2):=rfl
theorem aKI (b:UInt8) (s:aL):spl b s≠[]:=by
 cases s with
 |nil=>simp [spl]
 |cons c r=>
  rw [aKa]
  split
  ·simp
  ·split<;>simp
theorem spl_cut (b:UInt8) (s:aL):spl b s=match (iA b s).2 with|none=>[(iA b s).1]|some r=>(iA b s).1::spl b r:=by
 induction s with
 |nil=>rfl
 |cons c r ih=>
  rw [aKa,aRq]
  by_cases hc:(c == b)=true
  ·rw [if_pos hc,if_pos hc]
  ·rw [if_neg hc,if_neg hc,ih]
   simp only
   cases (iA b r).2<;>rfl
theorem spl_join (b:UInt8) (s:aL):Lib.join (spl b s) [b]=s:=by
 induction s with
 |nil=>rfl
 |cons c r ih=>
  rw [aKa]
  cases hs:spl b r with
  |nil=>exact absurd hs (aKI b r)
  |cons h t=>
   rw [hs] at ih
   rw [Lib.join_cons] at ih
   by_cases hc:(c == b)=true
   ·rw [if_pos hc,Lib.join_cons]
    simp at hc
    subst hc
    rw [←ih];simp [Lib.joinTail]
   ·rw [if_neg hc]
    simp only
    rw [Lib.join_cons,←ih];simp
theorem aOA (b:UInt8):∀ (n:Nat) (s:aL),s.length<=n->aBO [b] n s=spl b s
 |0,s,h=>by
  obtain rfl:s=[]:=List.length_eq_zero_iff.1 (by omega)
  rfl
 |n+1,s,h=>by
  unfold aBO
  rw [cut_eq,spl_cut]
  have ha:=aEp b s
  cases hc:(iA b s).2 with
  |none=>rw [hc] at ha;simp at ha;simp [←ha]
  |some r=>
   rw [hc] at ha
   have:s.length=((iA b s).1++b::r).length:=congrArg List.length ha
   simp at this
   simp only [Option.isSome_some,Option.getD_some]
   rw [aOA b n r (by omega)]
theorem aRr (s:aL) (h:s.length < 4611686018427387904):aDV s=some ((iA 40 s).1.length:Int):=by
 unfold aDV
 have:=aDt (step:=fun t=>aBe s t) s.length (fun k (_:Unit)=>(k:Int)) (fun k _=>match (iA 40 (s.drop k)).2 with|none=>.inl ()|some _=>.inr ((k+(iA 40 (s.drop k)).1.length:Nat):Int)) (fun _ _=>True) (fun k a hk _=>?_) (fun a _=>?_) s.length 0 () (by omega) trivial
 ·rw [show (0:Int)=((0:Nat):Int) from rfl,this]
  simp only [List.drop_zero,Nat.zero_add]
  have ha:=aEp 40 s
  cases hc:(iA 40 s).2 with
  |none=>rw [hc] at ha;simp at ha;rw [←ha];rfl
  |some r=>rfl
 ·rw [List.drop_eq_getElem_cons hk]
  simp only [aBe,bV hk,if_pos,bY hk,aA,bO hk h]
  by_cases hc:s[k]=40
  ·right
   rw [if_pos (by simp [hc])]
   simp [iA,hc]
  ·left
   have hc':¬ ((s[k].toNat:Int) == 40)=true:=by
    simp
    intro hh
    exact hc (UInt8.toNat_inj.1 (by simpa using (show s[k].toNat=40 by omega)))
   rw [if_neg hc']
   refine ⟨(),rfl,trivial,?_⟩
   have h2:¬ (s[k] == 40)=true:=by simpa using hc
   simp only [iA,if_neg h2]
   cases (iA 40 (s.drop (k+1))).2<;>simp;omega
 ·simp only [aBe,bL]
  simp [iA]
theorem aQm (s:aL) (b:UInt8) (h:s.length < 1000000000):aBZ s b=some (spl b s):=by
 unfold aBZ
 have hL:=aBJ (step:=fun t:List aL × Int × Int=>zF s b t.1 t.2.1 t.2.2) (fun t=>0<=t.2.1/\t.2.1<=t.2.2/\t.2.2<=s.length/\(t.1.length:Int)<=t.2.2/\t.1++(match spl b (s.drop t.2.2.toNat) with|[]=>[]|hd::tl=>((s.drop t.2.1.toNat).take (t.2.2.toNat - t.2.1.toNat)++hd)::tl)=spl b s) (fun t=>(s.length - t.2.2).toNat) (fun r=>0<=r.2/\r.2<=s.length/\r.1.length<=s.length/\r.1++[s.drop r.2.toNat]=spl b s) (fun t hI=>?_) (s:=([],0,0)) ⟨by simp,by simp,by simp,by simp,?_⟩
 ·obtain ⟨⟨o,f⟩,hr,h1,h2,h3,h4⟩:=hL
  simp only at h1 h2 h3 h4
  rw [hr,aA]
  unfold aDC
  have:slc s f (s.length:Int)=some (s.drop f.toNat):=by
   unfold slc;rw [if_pos ⟨h1,h2,by simp⟩,List.take_of_length_le (by simp)]
  rw [this,aA,fB (by simp [iK];omega),aA,h4]
 ·obtain ⟨out,fr,i⟩:=t
  obtain ⟨h1,h2,h3,h4,h5⟩:=hI
  simp only at h1 h2 h3 h4 h5 ⊢
  obtain ⟨k,rfl⟩:∃ k:Nat,i=(k:Int):=⟨i.toNat,by omega⟩
  obtain ⟨f,rfl⟩:∃ k:Nat,fr=(k:Int):=⟨fr.toNat,by omega⟩
  simp only [Int.toNat_natCast] at h5
  unfold zF
  by_cases hk:k < s.length
  ·left
   rw [if_pos (bV hk),bY hk,aA]
   rw [List.drop_eq_getElem_cons hk] at h5
   have hf:f<=k:=by omega
   have htk:(s.drop f).take (k+1 - f)=(s.drop f).take (k - f)++[s[k]]:=by
    rw [show k+1 - f=(k - f)+1 by omega,List.take_add_one]
    have:f+(k - f)=k:=by omega
    simp [this,hk]
   by_cases hc:s[k]=b
   ·have hsl:slc s (f:Int) (k:Int)=some ((s.drop f).take (k - f)):=by
     unfold slc;rw [if_pos ⟨by omega,by omega,by simp;omega⟩];simp
    rw [if_pos (by simp [hc]),hsl,aA,fB (by simp [iK];omega),aA,oV,bO hk (by omega)]
    refine ⟨_,rfl,⟨by simp only;omega,by simp only;omega,by simp only;omega,by simp;omega,?_⟩,by simp only;omega⟩
    simp only [Int.toNat_natCast]
    rw [←h5]
    cases hs:spl b (s.drop (k+1)) with
    |nil=>exact absurd hs (aKI _ _)
    |cons hd tl=>simp [spl,hc,hs]
   ·have hc':¬ ((s[k].toNat:Int) == (b.toNat:Int))=true:=by
     simp
     intro hh
     exact hc (UInt8.toNat_inj.1 (by omega))
    rw [if_neg hc',oV,bO hk (by omega)]
    refine ⟨_,rfl,⟨by simp only;omega,by simp only;omega,by simp only;omega,by simp only;omega,?_⟩,by simp only;omega⟩
    simp only [Int.toNat_natCast]
    rw [←h5]
    have h2:¬ (s[k] == b)=true:=by simpa using hc
    cases hs:spl b (s.drop (k+1)) with
    |nil=>exact absurd hs (aKI _ _)
    |cons hd tl=>simp [spl,h2,hs,htk]
  ·obtain rfl:k=s.length:=by omega
   right
   rw [if_neg (by simp)]
   refine ⟨_,rfl,by simp only;omega,by simp only;omega,by simp only;omega,?_⟩
   simp only [Int.toNat_natCast]
   rw [←h5]
   simp only [List.drop_length,spl]
   rw [List.take_of_length_le (by simp),List.append_nil]
 ·cases hs:spl b s with
  |nil=>exact absurd hs (aKI _ _)
  |cons hd tl=>simp [hs]
end Gv
namespace Gv
open Go
def nH:aL->Bool
 |[c]=>dig c
 |[c1,c2]=>dig c1&&dig c2&&decide (c1.toNat≠48)&&decide (10 * (c1.toNat - 48)+(c2.toNat - 48)<=63)
 |_=>false
theorem jJ (c:UInt8):dig c=true<->48<=c.toNat/\c.toNat<=57:=by unfold dig;simp
theorem dig_sub {c:UInt8} (h:dig c=true):((c - (48:UInt8)).toNat:Int)=(c.toNat:Int) - 48:=by
 have h:=(jJ c).1 h
 rw [UInt8.toNat_sub_of_le _ _ (by rw [UInt8.le_iff_toNat_le];exact h.1)]
 show ((c.toNat - 48:Nat):Int)=_
 omega
def val (n:Int) (l:aL):Int:=l.foldl (fun n c=>10 * n+((c.toNat:Int) - 48)) n
theorem val_ge {l:aL}:∀ {n:Int},0<=n->l.all dig=true->n<=val n l:=by
 induction l with
 |nil=>intro n h _;exact Int.le_refl _
 |cons c r ih=>
  intro n h hl
  simp only [List.all_cons,Bool.and_eq_true] at hl
  have hc:=(jJ c).1 hl.1
  have:=ih (n:=10 * n+((c.toNat:Int) - 48)) (by omega) hl.2
  simp only [val,List.foldl_cons] at this ⊢
  omega
theorem aQn {s:aL} {a:Nat} (ha:a<=s.length) (hs:s.length - a<=18) (hl:s.length < 1000000000):
  loop (fun t:Int × Int=>mT s t.1 t.2) (0,(a:Int))=some (if (s.drop a).all dig=true then .inl (val 0 (s.drop a)) else .inr (0,false)):=by
 have:=aDt (step:=fun t:Int × Int=>mT s t.1 t.2) s.length (fun k (n:Int)=>(n,(k:Int))) (fun k n=>if (s.drop k).all dig=true then .inl (val n (s.drop k)) else .inr (0,false)) (fun k n=>a<=k/\0<=n/\n < (10 ^ (k - a):Nat)) (fun k n hk hI=>?_) (fun n hI=>?_) (s.length - a) a 0 (by omega) ⟨Nat.le_refl _,by omega,by simp⟩
 ·exact this
 ·obtain ⟨h1,h2,h3⟩:=hI
  rw [List.drop_eq_getElem_cons hk]
  simp only [mT,bV hk,if_pos,bY hk,aA,aLh,bO hk (show s.length < 4611686018427387904 by omega)]
  by_cases hd:dig s[k]=true
  ·left
   rw [if_neg (by simp [hd])]
   have hc:=(jJ _).1 hd
   have hp:(10:Nat) ^ (k - a)<=10 ^ 17:=Nat.pow_le_pow_right (by omega) (by omega)
   have hn:n < 100000000000000000:=by
    have:(10:Nat) ^ 17=100000000000000000:=by decide
    omega
   have w:wr (wr (10 * n)+wr ((s[k] - (48:UInt8)).toNat:Int))=10 * n+((s[k].toNat:Int) - 48):=by
    rw [dig_sub hd,dW (x:=10 * n) (by omega) (by omega),dW (x:=(s[k].toNat:Int) - 48) (by omega) (by omega),dW (by omega) (by omega)]
   rw [w]
   refine ⟨_,rfl,⟨by omega,by omega,?_⟩,by simp only [List.all_cons,hd,Bool.true_and,val,List.foldl_cons]⟩
   rw [show k+1 - a=(k - a)+1 by omega,Nat.pow_succ]
   omega
  ·right
   have hd':dig s[k]=false:=by simpa using hd
   simp only [List.all_cons,hd',Bool.false_and,Bool.not_false,if_pos];rfl
 ·simp only [mT,bL]
  simp [val]
theorem aLi (r:aL):nH (45::r)=false:=by
 rcases r with _|⟨c1,_|⟨c2,r⟩⟩
 ·decide
 ·simp [nH,show dig 45=false by decide]
 ·rfl
theorem aNb {s:aL} (h:2 < s.length):nH s=false:=by
 rcases s with _|⟨c1,_|⟨c2,_|⟨c3,r⟩⟩⟩<;>first|rfl|(simp at h)
theorem isNum_ok {s:aL} (h:nH s=true):s.all dig=true:=by
 rcases s with _|⟨c1,_|⟨c2,_|⟨c3,r⟩⟩⟩
 ·cases h
 ·simpa [nH] using h
 ·simp [nH] at h;simp [h]
 ·cases h
theorem c48 (c:UInt8):((c.toNat:Int) == 48)=decide (c=48):=by
 by_cases h:c=48
 ·subst h;rfl
 ·have:¬ c.toNat=48:=fun hh=>h (UInt8.toNat_inj.1 (by simpa using hh))
  simp [h];omega
theorem c45 (c:UInt8):((c.toNat:Int) == 45)=decide (c=45):=by
 by_cases h:c=45
 ·subst h;rfl
 ·have:¬ c.toNat=45:=fun hh=>h (UInt8.toNat_inj.1 (by simpa using hh))
  simp [h];omega
def in63 (r:Int × Bool):Bool:=r.2&&(decide (0<=r.1)&&decide (r.1<=63))
theorem aFl (n:Int) (b:Bool):in63 (n,b)=(b&&(decide (0<=n)&&decide (n<=63))):=rfl
theorem val_in {s:aL} (h0:s≠[]) (h1:s.all dig=true) (h2:s.head?=some 48->s.length=1):in63 (val 0 s,true)=nH s:=by
 rcases s with _|⟨c1,_|⟨c2,_|⟨c3,r⟩⟩⟩
 ·exact absurd rfl h0
 ·simp only [List.all_cons,List.all_nil,Bool.and_true] at h1
  have:=(jJ c1).1 h1
  rw [aFl];simp only [val,List.foldl_cons,List.foldl_nil,nH,h1]
  simp;omega
 ·simp only [List.all_cons,List.all_nil,Bool.and_true,Bool.and_eq_true] at h1
  have a1:=(jJ c1).1 h1.1
  have a2:=(jJ c2).1 h1.2
  have a3:c1.toNat≠48:=by
   intro hh
   have:c1=48:=UInt8.toNat_inj.1 (by simpa using hh)
   have:=h2 (by simp [this])
   simp at this
  have hv:val 0 [c1,c2]=10 * ((c1.toNat:Int) - 48)+((c2.toNat:Int) - 48):=by simp only [val,List.foldl_cons,List.foldl_nil];omega
  rw [aFl,hv];simp only [nH,h1.1,h1.2]
  have e1:decide (0<=10 * ((c1.toNat:Int) - 48)+((c2.toNat:Int) - 48))=true:=by simp only [decide_eq_true_eq];omega
  have e2:decide (10 * ((c1.toNat:Int) - 48)+((c2.toNat:Int) - 48)<=63)=decide (10 * (c1.toNat - 48)+(c2.toNat - 48)<=63):=decide_eq_decide.2 (by omega)
  have e3:decide (c1.toNat≠48)=true:=by simp only [decide_eq_true_eq];exact a3
  rw [e1,e2,e3];simp
 ·rw [aNb (by simp)]
  simp only [List.all_cons,Bool.and_eq_true] at h1
  have a1:=(jJ c1).1 h1.1
  have a2:=(jJ c2).1 h1.2.1
  have a4:=(jJ c3).1 h1.2.2.1
  have a3:c1.toNat≠48:=by
   intro hh
   have:c1=48:=UInt8.toNat_inj.1 (by simpa using hh)
   have:=h2 (by simp [this])
   simp at this
  have hv:=val_ge (l:=r) (n:=10 * (10 * (10 * 0+((c1.toNat:Int) - 48))+((c2.toNat:Int) - 48))+((c3.toNat:Int) - 48)) (by omega) h1.2.2.2
  have hx:val 0 (c1::c2::c3::r)=val (10 * (10 * (10 * 0+((c1.toNat:Int) - 48))+((c2.toNat:Int) - 48))+((c3.toNat:Int) - 48)) r:=rfl
  rw [aFl,decide_eq_false (p:=val 0 (c1::c2::c3::r)<=63) (by rw [hx];omega)]
  simp
theorem aPo {s:aL} (hl:s.length < 1000000000):∃ r,uW s=some r/\in63 r=nH s:=by
 have j5:∀ a:Nat,a<=1->a<=s.length->(a=1->s.head?=some 45)->(a=0->s.head?≠some 45)->∃ r,mU s (a:Int)=some r/\in63 r=nH s:=by
  intro a ha hle h45 hn45
  unfold mU
  have hf:in63 (0,false)=false:=rfl
  by_cases e:s.length=a
  ·refine ⟨(0,false),by rw [if_pos (by simp [e])];rfl,?_⟩
   rw [hf]
   rcases s with _|⟨c,r⟩
   ·rfl
   ·have:r=[]:=List.length_eq_zero_iff.1 (by simp at e;omega)
    subst this
    have:=h45 (by simp at e;omega)
    simp at this;subst this;decide
  ·rw [if_neg (by simp;omega)]
   by_cases h18:18 < s.length - a
   ·refine ⟨(0,false),by rw [if_pos (by rw [dW (by omega) (by omega)];simp only [decide_eq_true_eq];omega)];rfl,?_⟩
    rw [hf,aNb (by omega)]
   ·have hk:a < s.length:=by omega
    rw [if_neg (by rw [dW (by omega) (by omega)];simp only [decide_eq_true_eq];omega),bY hk,aA,c48]
    have fin:((s.drop a).head?=some 48->s.length=1)->∃ r,jM s (a:Int) false=some r/\in63 r=nH s:=by
     intro hz
     unfold jM
     rw [if_neg (by simp),aQn (by omega) (by omega) hl,aA]
     by_cases hd:(s.drop a).all dig=true
     ·rw [if_pos hd]
      simp only [vU]
      rcases Nat.lt_or_ge a 1 with h|h
      ·obtain rfl:a=0:=by omega
       refine ⟨_,by rw [if_neg (by simp)];rfl,?_⟩
       exact val_in (by intro h;subst h;simp at hk) (by simpa using hd) (by simpa using hz)
      ·obtain rfl:a=1:=by omega
       rcases s with _|⟨c,r⟩
       ·simp at hk
       ·have:=h45 rfl
        simp at this;subst this
        rw [if_pos (by simp)]
        rcases r with _|⟨c1,r⟩
        ·simp at hk
        ·refine ⟨_,rfl,?_⟩
         rw [aLi]
         simp only [List.drop_succ_cons,List.drop_zero,List.all_cons,Bool.and_eq_true,List.head?_cons,Option.some.injEq] at hd hz ⊢
         have a1:=(jJ c1).1 hd.1
         have a3:c1.toNat≠48:=by
          intro hh
          have:c1=48:=UInt8.toNat_inj.1 (by simpa using hh)
          have:=hz this
          simp at this
         have hv:=val_ge (l:=r) (n:=10 * 0+((c1.toNat:Int) - 48)) (by omega) hd.2
         have hb:val 0 (c1::r)<=9223372036854775807:=by
          have:∀ (l:aL) (n:Int) (m:Nat),0<=n->n < (10 ^ m:Nat)->l.all dig=true->val n l < (10 ^ (m+l.length):Nat):=by
           intro l
           induction l with
           |nil=>intro n m h1 h2 _;simpa [val] using h2
           |cons c l ih=>
            intro n m h1 h2 h3
            simp only [List.all_cons,Bool.and_eq_true] at h3
            have b:=(jJ c).1 h3.1
            have:=ih (10 * n+((c.toNat:Int) - 48)) (m+1) (by omega) (by rw [Nat.pow_succ];omega) h3.2
            simp only [val,List.foldl_cons] at this ⊢
            rw [List.length_cons,show m+(l.length+1)=m+1+l.length by omega]
            exact this
          have:=this (c1::r) 0 0 (by omega) (by simp) (by simp [hd])
          have hp:(10:Nat) ^ (0+(c1::r).length)<=10 ^ 18:=Nat.pow_le_pow_right (by omega) (by simp at h18 ⊢;omega)
          have:(10:Nat) ^ 18=1000000000000000000:=by decide
          omega
         have hv':val 0 (c1::r)=val (10 * 0+((c1.toNat:Int) - 48)) r:=rfl
         rw [dW (by omega) (by omega)]
         rw [aFl];simp only [Bool.true_and,Bool.and_eq_false_iff,decide_eq_false_iff_not]
         left;omega
     ·rw [if_neg hd]
      refine ⟨_,rfl,?_⟩
      rw [hf]
      cases hx:nH s with
      |false=>rfl
      |true=>
       have:=isNum_ok hx
       exact absurd (List.all_eq_true.2 fun x hx=>List.all_eq_true.1 this x (List.mem_of_mem_drop hx)) hd
    by_cases hz:s[a]=48
    ·rw [if_pos (by simp [hz])]
     by_cases h1:1 < s.length
     ·refine ⟨(0,false),by rw [show decide ((1:Int) < (s.length:Int))=true by simp;omega];rfl,?_⟩
      rw [hf]
      rcases Nat.lt_or_ge a 1 with h|h
      ·obtain rfl:a=0:=by omega
       rcases s with _|⟨c,_|⟨c2,_|⟨c3,r⟩⟩⟩
       ·rfl
       ·simp at h1
       ·simp at hz;subst hz;simp [nH]
       ·rfl
      ·obtain rfl:a=1:=by omega
       rcases s with _|⟨c,r⟩
       ·rfl
       ·have:=h45 rfl
        simp at this;subst this
        rw [aLi]
     ·rw [show decide ((1:Int) < (s.length:Int))=false by simp;omega]
      exact fin fun _=>by omega
    ·rw [if_neg (by simp [hz])]
     refine fin fun h=>?_
     rw [List.drop_eq_getElem_cons hk] at h
     rw [List.head?_cons] at h;exact absurd (Option.some.inj h) hz
 unfold uW
 rcases s with _|⟨c,r⟩
 ·rw [if_neg (by simp)]
  exact j5 0 (by omega) (by simp) (by simp) (by simp)
 ·rw [if_pos (by simp only [List.length_cons,decide_eq_true_eq];omega),show ix (c::r) 0=some c from rfl,aA,c45]
  by_cases hc:c=45
  ·simp only [hc,decide_true,qM,if_pos]
   subst hc
   have h1:=j5 1 (by omega) (by simp) (by simp) (by simp)
   rw [show ((1:Nat):Int)=1 from rfl] at h1
   exact h1
  ·simp only [hc,decide_false,qM,Bool.false_eq_true,if_false]
   have h1:=j5 0 (by omega) (by simp) (by simp) (by simpa using hc)
   rw [show ((0:Nat):Int)=0 from rfl] at h1
   exact h1
theorem aQo {β γ ρ:Type} {step:(List γ × Int)->Option ((List γ × Int) ⊕ ρ)} (xs:List β) (p:β->Bool) (f:β->γ) (r:ρ) (e:List γ->ρ)
  (h:∀ (k:Nat) out x,k < xs.length->out.length=k->ix xs (k:Int)=some x->step (out,(k:Int))=if p x=true then some (.inl (out++[f x],((k+1:Nat):Int))) else some (.inr r))
  (h':∀ out,step (out,(xs.length:Int))=some (.inr (e out))):loop step ([],0)=some (if xs.all p=true then e (xs.map f) else r):=by
 have:=aOz (step:=step) xs (fun k out=>(out,(k:Int))) (fun l out=>if l.all p=true then e (out++l.map f) else r) (fun k out=>out.length=k) (fun k a x l hk hx hI=>?_) (fun a _=>by simp [h']) (a:=[]) rfl
 ·simpa using this
 ·rw [h k a x hk hI hx]
  by_cases hp:p x=true
  ·left;exact ⟨a++[f x],by simp [hp],by simp [hI],by simp [hp]⟩
  ·right;simp [hp]
def aAX (s:aL):Bool:=match (iA 40 s).2 with
 |none=>oE s
 |some r=>gH (iA 40 s).1&&((r.getLast? == some 41)&&((spl 44 r.dropLast).all nH&&decide ((spl 44 r.dropLast).length<=2)))
theorem oU (n a b:Int):jF n a b=some (decide (a<=n)&&decide (n<=b)):=by
 unfold jF;cases decide (a<=n)<;>rfl
theorem fC (n a b:Int):fS n a b=some (decide (a<=n)&&decide (n<=b)):=by
 unfold fS;cases decide (a<=n)<;>rfl
theorem spl_len (b:UInt8) (s:aL):(spl b s).length<=s.length+1/\∀ x∈spl b s,x.length<=s.length:=by
 induction s with
 |nil=>simp [spl]
 |cons c r ih=>
  rw [aKa]
  split
  ·exact ⟨by simp;omega,fun x hx=>by
    rcases List.mem_cons.1 hx with rfl|hx
    ·simp
    ·have:=ih.2 x hx;simp;omega⟩
  ·cases hs:spl b r with
   |nil=>exact absurd hs (aKI b r)
   |cons h t=>
    rw [hs] at ih
    refine ⟨by simp at ih ⊢;omega,fun x hx=>?_⟩
    rcases List.mem_cons.1 hx with rfl|hx
    ·have:=ih.2 h (by simp);simp;omega
    ·have:=ih.2 x (by simp [hx]);simp;omega
theorem aRs {c:UInt8} {a r:aL}:((a++c::r).getLast?:Option UInt8)=ix (a++c::r) (wr (((a++c::r).length:Int) - 1))\/4611686018427387904<=(a++c::r).length:=by
 by_cases h:4611686018427387904<=(a++c::r).length
 ·exact .inr h
 ·left
  have hp:0 < (a++c::r).length:=by simp;omega
  rw [dW (by omega) (by omega),show (((a++c::r).length:Int) - 1)=(((a++c::r).length - 1:Nat):Int) by omega,dQ,List.getLast?_eq_getElem?]
theorem aLj (s:aL) (h:s.length < 1000000000):aCc s=some (aAX s):=by
 unfold aCc aCZ aAX
 rw [aRr s (by omega),aA]
 have ha:=aEp 40 s
 cases hc:(iA 40 s).2 with
 |none=>
  rw [hc] at ha;simp at ha
  rw [←ha,if_pos (by simp),aCG];rfl
 |some r=>
  rw [hc] at ha
  simp only at ha ⊢
  generalize hA:(iA 40 s).1=a at *
  have hl:s.length=a.length+(r.length+1):=by rw [ha];simp
  rw [if_neg (by simp;omega)]
  have hs0:slc s 0 (a.length:Int)=some a:=by
   unfold slc;rw [if_pos ⟨by omega,by omega,by simp;omega⟩]
   simp only [Int.toNat_natCast,Int.toNat_zero,Nat.sub_zero,List.drop_zero]
   conv=>lhs;rw [ha]
   simp
  rw [hs0,aA,rZ,aA]
  by_cases hn:gH a=false
  ·simp [hn,mV]
  have hact:gH a=true:=by simpa using hn
  rw [hact,if_neg (by simp)]
  have hlast:ix s (wr ((s.length:Int) - 1))=s.getLast?:=by
   conv=>lhs;rw [ha]
   conv=>rhs;rw [ha]
   rcases aRs (c:=40) (a:=a) (r:=r) with h|h
   ·exact h.symm
   ·rw [←ha] at h;omega
  have hlast2:s.getLast?=some ((r.getLast?).getD 40):=by
   rw [ha,List.getLast?_append]
   cases r with
   |nil=>rfl
   |cons x l=>simp [List.getLast?_cons]
  rw [hlast,hlast2,aA]
  unfold mV
  have h41:((((r.getLast?).getD 40).toNat:Int) != 41)=!(r.getLast? == some 41):=by
   cases hr:r.getLast? with
   |none=>rfl
   |some x=>
    by_cases hx:x=41
    ·subst hx;rfl
    ·have:¬ x.toNat=41:=fun hh=>hx (UInt8.toNat_inj.1 (by simpa using hh))
     have h2:¬ ((x.toNat:Int)=41):=by omega
     have e1:((x.toNat:Int) != 41)=true:=by simp only [bne_iff_ne,ne_eq];exact h2
     have e2:(some x == some (41:UInt8))=false:=by simp [hx]
     rw [e2];exact e1
  rw [h41]
  by_cases hn:(r.getLast? == some 41)=false
  ·simp [hn]
  have hz:(r.getLast? == some 41)=true:=by simpa using hn
  rw [hz]
  simp only [Bool.not_true,Bool.true_and,Bool.false_eq_true,if_false]
  have hs1:slc s (wr ((a.length:Int)+1)) (wr ((s.length:Int) - 1))=some r.dropLast:=by
   have hr:r≠[]:=by intro hh;subst hh;simp at hz
   have hr':0 < r.length:=List.length_pos_iff.2 hr
   rw [dW (by omega) (by omega),dW (by omega) (by omega)]
   unfold slc;rw [if_pos ⟨by omega,by omega,by omega⟩]
   have e1:((a.length:Int)+1).toNat=a.length+1:=by omega
   have e2:((s.length:Int) - 1).toNat - (a.length+1)=r.length - 1:=by omega
   rw [e1,e2]
   conv=>lhs;rw [ha]
   rw [List.drop_append,List.drop_of_length_le (by omega),show a.length+1 - a.length=1 by omega]
   simp [List.dropLast_eq_take]
  rw [hs1,aA,aQm _ _ (by simp;omega),aA]
  have hsl:=spl_len 44 r.dropLast
  have hdl:r.dropLast.length<=r.length:=by simp
  have:=aQo (step:=fun t:List Int × Int=>qN (spl 44 r.dropLast) t.1 t.2) (spl 44 r.dropLast) nH (fun x=>((uW x).getD (0,false)).1) (.inr ([],false)) .inl (fun k out x hk ho hx=>?_) (fun out=>by simp only [qN,bL];rfl)
  ·rw [this,aA]
   by_cases hall:(spl 44 r.dropLast).all nH=true
   ·rw [if_pos hall,hall]
    simp only [aCb,aA,List.length_map,Bool.true_and]
    exact congrArg some (decide_eq_decide.2 (by omega))
   ·rw [if_neg hall]
    have:(spl 44 r.dropLast).all nH=false:=by simpa using hall
    rw [this];rfl
  ·obtain ⟨hk',rfl⟩:=ix_get hx
   have hxl:=hsl.2 _ (List.getElem_mem hk')
   obtain ⟨q,hq,hi⟩:=aPo (s:=(spl 44 r.dropLast)[k]) (by omega)
   simp only [qN,bV hk,if_pos,hx,aA,hq,oU,vV,bO hk (show (spl 44 r.dropLast).length < 4611686018427387904 by omega)]
   rw [←hi]
   rw [fB (by simp [iK,ho];omega)]
   obtain ⟨n,b⟩:=q
   rw [aFl]
   simp only [Option.getD_some]
   cases b
   ·simp only [Bool.not_false,Bool.false_and,Bool.false_eq_true,if_false,if_pos]
   ·simp only [Bool.not_true,Bool.false_eq_true,if_false,Bool.true_and,aA]
    cases (decide (0<=n)&&decide (n<=63))<;>simp
end Gv
namespace Gv
open Go
theorem itoa_one {c:UInt8} (h:dig c=true):Lib.itoa ((c.toNat:Int) - 48)=[c]:=by
 have hc:=(jJ c).1 h
 unfold Lib.itoa
 rw [if_neg (by omega),Lib.decDigits_one (by omega),show 48+((c.toNat:Int) - 48).toNat=c.toNat by omega]
 simp
theorem itoa_two {c1 c2:UInt8} (h1:dig c1=true) (h2:dig c2=true) (h3:c1.toNat≠48):Lib.itoa (10 * ((c1.toNat:Int) - 48)+((c2.toNat:Int) - 48))=[c1,c2]:=by
 have a1:=(jJ c1).1 h1
 have a2:=(jJ c2).1 h2
 unfold Lib.itoa
 rw [if_neg (by omega),Lib.decDigits_two (by omega) (by omega)]
 have e1:48+(10 * ((c1.toNat:Int) - 48)+((c2.toNat:Int) - 48)).toNat / 10=c1.toNat:=by omega
 have e2:48+(10 * ((c1.toNat:Int) - 48)+((c2.toNat:Int) - 48)).toNat % 10=c2.toNat:=by omega
 rw [e1,e2]
 simp
theorem aRt {v:Int} (h0:0<=v) (h1:v<=63):nH (Lib.itoa v)=true:=by
 unfold Lib.itoa
 rw [if_neg (by omega)]
 have ofn:∀ n:Nat,n < 10->(UInt8.ofNat (48+n)).toNat=48+n:=by intro n hn;simp;omega
 have dg:∀ n:Nat,n < 10->dig (UInt8.ofNat (48+n))=true:=by intro n hn;rw [jJ,ofn n hn];omega
 by_cases h:v.toNat < 10
 ·rw [Lib.decDigits_one h]
  exact dg _ h
 ·rw [Lib.decDigits_two h (by omega)]
  simp only [nH,dg (v.toNat / 10) (by omega),dg (v.toNat % 10) (by omega),ofn (v.toNat / 10) (by omega),ofn (v.toNat % 10) (by omega),Bool.true_and,Bool.and_eq_true,decide_eq_true_eq]
  omega
theorem parse_one {c:UInt8} (h:dig c=true):Lib.parseIntB 64 [c]=.ok ((c.toNat:Int) - 48):=by
 have hc:=(jJ c).1 h
 have e1:¬ (c.toNat=43\/c.toNat=45):=by omega
 have e2:¬ c.toNat=45:=by omega
 simp only [Lib.parseIntB,if_neg e1,Lib.parseUintB,Lib.parseUintM,if_pos hc]
 rw [if_neg (by simp),if_neg (by omega),if_neg (by omega)]
 simp only
 rw [if_neg (by omega),if_neg (by omega),if_neg e2]
 congr 1;omega
theorem parse_two {c1 c2:UInt8} (h1:dig c1=true) (h2:dig c2=true):Lib.parseIntB 64 [c1,c2]=.ok (10 * ((c1.toNat:Int) - 48)+((c2.toNat:Int) - 48)):=by
 have a1:=(jJ c1).1 h1
 have a2:=(jJ c2).1 h2
 have e1:¬ (c1.toNat=43\/c1.toNat=45):=by omega
 have e2:¬ c1.toNat=45:=by omega
 simp only [Lib.parseIntB,if_neg e1,Lib.parseUintB,Lib.parseUintM,if_pos a1,if_pos a2]
 rw [if_neg (by simp),if_neg (by omega),if_neg (by omega),if_neg (by omega),if_neg (by omega)]
 simp only
 rw [if_neg (by omega),if_neg (by omega),if_neg e2]
 congr 1;omega
theorem aNd {s:aL} (h:(iC s).2=true):Lib.itoa (iC s).1=s:=by
 unfold iC at h ⊢
 by_cases h18:(bare s).length > 18
 ·rw [if_pos h18] at h;cases h
 ·rw [if_neg h18] at h ⊢
  revert h
  generalize Lib.parseIntB 64 s=q
  intro h
  split at h
  ·rename_i v
   by_cases e:Lib.itoa v=s
   ·rw [if_pos e];exact e
   ·rw [if_neg e] at h;cases h
  ·cases h
theorem aNe {s:aL}:(bare s).length<=s.length:=by
 unfold bare;split<;>simp
theorem aNf (s:aL):in63 (iC s)=nH s:=by
 cases hn:nH s with
 |true=>
  rcases s with _|⟨c1,_|⟨c2,_|⟨c3,r⟩⟩⟩
  ·cases hn
  ·have h1:dig c1=true:=hn
   have hc:=(jJ c1).1 h1
   have:iC [c1]=((c1.toNat:Int) - 48,true):=by
    unfold iC
    rw [if_neg,parse_one h1]
    ·simp only;rw [if_pos (itoa_one h1)]
    ·have:=aNe (s:=[c1]);simp at this;omega
   rw [this,aFl,decide_eq_true (p:=(0:Int)<=(c1.toNat:Int) - 48) (by omega),decide_eq_true (p:=(c1.toNat:Int) - 48<=63) (by omega)];rfl
  ·simp only [nH,Bool.and_eq_true,decide_eq_true_eq] at hn
   obtain ⟨⟨⟨h1,h2⟩,h3⟩,h4⟩:=hn
   have a1:=(jJ c1).1 h1
   have a2:=(jJ c2).1 h2
   have:iC [c1,c2]=(10 * ((c1.toNat:Int) - 48)+((c2.toNat:Int) - 48),true):=by
    unfold iC
    rw [if_neg,parse_two h1 h2]
    ·simp only;rw [if_pos (itoa_two h1 h2 h3)]
    ·have:=aNe (s:=[c1,c2]);simp at this;omega
   rw [this,aFl,decide_eq_true (p:=(0:Int)<=10 * ((c1.toNat:Int) - 48)+((c2.toNat:Int) - 48)) (by omega),decide_eq_true (p:=10 * ((c1.toNat:Int) - 48)+((c2.toNat:Int) - 48)<=63) (by omega)];rfl
  ·cases hn
 |false=>
  cases hi:in63 (iC s) with
  |false=>rfl
  |true=>
   unfold in63 at hi
   simp only [Bool.and_eq_true,decide_eq_true_eq] at hi
   have:=aRt hi.2.1 hi.2.2
   rw [aNd hi.1,hn] at this
   cases this
theorem aKJ {s:aL} (h:s.length < 1000000000):sL s=some (iC s):=by
 unfold sL;rw [if_pos (by simp [iK];omega)]
theorem aHh {β:Type} {step:Int->Option (Int ⊕ (Unit ⊕ Int))} (xs:List β) (p:β->Bool)
  (h:∀ (k:Nat) x,k < xs.length->ix xs (k:Int)=some x->step (k:Int)=if p x=true then some (.inr (.inr (k:Int))) else some (.inl ((k+1:Nat):Int)))
  (h':step (xs.length:Int)=some (.inr (.inl ()))):loop step 0=some (match xs.findIdx? p with|none=>.inl ()|some i=>.inr (i:Int)):=by
 have:=aDt (step:=step) xs.length (fun k (_:Unit)=>(k:Int)) (fun k _=>match (xs.drop k).findIdx? p with|none=>.inl ()|some i=>.inr ((k+i:Nat):Int)) (fun _ _=>True) (fun k a hk _=>?_) (fun a _=>?_) xs.length 0 () (by omega) trivial
 ·simpa using this
 ·rw [List.drop_eq_getElem_cons hk,h k _ hk (bY hk)]
  by_cases hp:p xs[k]=true
  ·right;simp only [List.findIdx?_cons,hp,if_pos];rfl
  ·left
   refine ⟨(),by rw [if_neg hp],trivial,?_⟩
   simp only [List.findIdx?_cons,hp]
   cases (xs.drop (k+1)).findIdx? p with
   |none=>rfl
   |some i=>simp only [Bool.false_eq_true,if_false,Option.map_some];congr 2;omega
 ·rw [h'];simp
theorem aNg {β:Type} (xs:List β) (p:β->Bool):(xs.findIdx? p).isSome=xs.any p:=by
 rw [List.findIdx?_isSome]
def pos {α:Type} [BEq α] (xs:List α) (v:α):Int:=match xs.findIdx? (fun x=>v == x) with|none=>-1|some i=>(i:Int)
def vG (v:Int):Bool:=decide (0<=v)&&decide (v<=63)
theorem aKb (xs:List Int) (h:xs.length < 4611686018427387904):aAk xs=some (xs.all vG):=by
 unfold aAk gK fN
 rw [aHh (step:=fun s=>eF xs s) xs (fun x=>!vG x) (fun k x hk hx=>by
  simp only [eF,bV hk,if_pos,hx,aA,bO hk h,aBV,aBC,fC];rfl) (by simp only [eF,bL];rfl),aA]
 have:=aNg xs (fun x=>!vG x)
 have e:(xs.any fun x=>!vG x)=!xs.all vG:=by simp [List.any_eq_not_all_not]
 rw [e] at this
 cases hf:xs.findIdx? (fun x=>!vG x) with
 |none=>rw [hf] at this;simp only [Option.isSome_none] at this;cases hx:xs.all vG<;>rw [hx] at this<;>first|rfl|cases this
 |some i=>
  rw [hf] at this;simp only [Option.isSome_some] at this
  simp only [aA]
  rw [decide_eq_true (p:=(0:Int)<=(i:Int)) (by omega)]
  cases hx:xs.all vG<;>rw [hx] at this<;>first|rfl|cases this
theorem aKK (xs:List Int) (sep:aL) (h1:xs.length < 1000000000) (h2:∀ x∈xs,-9223372036854775808<=x/\x<=9223372036854775807) (h3:(Lib.join (xs.map Lib.itoa) sep).length < iK):aAi xs sep=some (Lib.join (xs.map Lib.itoa) sep):=by
 unfold aAi
 rw [aNa _ (by simp [iK];omega),aA]
 have hl:(xs.map Lib.itoa).length=xs.length:=by simp
 have:=xI (step:=fun s:List aL × Int=>aAh xs s.1 s.2) (a:=xs.map Lib.itoa) (z:=([]:aL)) (fun k out x hk ho hx=>?_) (fun out=>by simp only [aAh,hl,bL];rfl)
 ·rw [hl] at this
  rw [this,aA]
  unfold aGe aAH
  rw [if_pos ⟨by simp [iK];omega,h3⟩];rfl
 ·rw [hl] at hk ho
  have hx':x=Lib.itoa xs[k]:=by rw [bY (by simpa using hk)] at hx;simpa using hx.symm
  have hb:=h2 xs[k] (List.getElem_mem hk)
  have hd:gN xs[k]=some (Lib.itoa xs[k]):=by unfold gN;rw [if_pos hb]
  simp only [aAh,bV hk,if_pos,bY hk,aA,hd,bY (xs:=out) (k:=k) (by omega),aDu (xs:=out) (k:=k) _ (by omega),bO hk (show xs.length < _ by omega),hx']
theorem aNh (xs:List aL) (h:xs.length < 1000000000) (h2:∀ x∈xs,x.length < 1000000000):sM xs=some (if xs.all (fun s=>(iC s).2)=true then (xs.map (fun s=>(iC s).1),true) else ([],false)):=by
 unfold sM
 rw [aQo (step:=fun s:List Int × Int=>rK xs s.1 s.2) xs (fun s=>(iC s).2) (fun s=>(iC s).1) (.inr ([],false)) .inl (fun k out x hk ho hx=>?_) (fun out=>by simp only [rK,bL];rfl),aA]
 ·by_cases h:xs.all (fun s=>(iC s).2)=true
  ·rw [if_pos h,if_pos h];rfl
  ·rw [if_neg h,if_neg h]
 ·obtain ⟨hk',rfl⟩:=ix_get hx
  have hx2:=h2 _ (List.getElem_mem hk')
  simp only [rK,bV hk,if_pos,hx,aA,aKJ hx2,bO hk (show xs.length < 4611686018427387904 by omega)]
  rw [fB (by simp [iK,ho];omega),aA]
  cases (iC xs[k]).2<;>simp
theorem aOb (s:aL) (h:s.length < 1000000000):lQ s [41]=some (if (s.getLast? == some 41)=true then s.dropLast else s):=by
 unfold lQ hZ dY
 rcases List.eq_nil_or_concat s with rfl|⟨l,c,rfl⟩
 ·rfl
 ·have hl:(l.concat c).length=l.length+1:=by simp
  have w:wr (((l.concat c).length:Int) - (([41]:aL).length:Int))=(l.length:Int):=by
   rw [hl] at h ⊢
   show wr (((l.length+1:Nat):Int) - 1)=_
   rw [dW (by omega) (by omega)];omega
  have s1:slc (l.concat c) (l.length:Int) ((l.concat c).length:Int)=some [c]:=by
   unfold slc;rw [if_pos ⟨by omega,by omega,by simp⟩];simp
  have s2:slc (l.concat c) 0 (l.length:Int)=some l:=by
   unfold slc;rw [if_pos ⟨by omega,by omega,by simp⟩];simp
  rw [if_pos (by simp;omega),w,s1,aA,eH,aA]
  have hg:(l.concat c).getLast?=some c:=by simp
  have hd:(l.concat c).dropLast=l:=by simp
  rw [hg,hd]
  by_cases hc:c=41
  ·subst hc
   rw [if_pos (by simp),s2];simp
  ·rw [if_neg (by simpa using hc)]
   simp [hc]
theorem aNi (name:aL) (vs:List Int) (h1:name.length < 1000000000) (h2:vs.length < 1000000000) (h4:(Lib.join (vs.map Lib.itoa) [44]).length < 1000000000):
  aDS name vs=some (if name=gY then (gY,vs.length == 0) else if gH name=true/\vs.length<=2/\vs.all vG=true then (if vs.length=0 then name else name++[40]++Lib.join (vs.map Lib.itoa) [44]++[41],true) else ([],false)):=by
 unfold aDS
 by_cases hn:name=gY
 ·rw [if_pos (by simpa [gY] using hn),if_pos hn]
  simp only [gY,Option.some.injEq,Prod.mk.injEq,true_and]
  cases vs<;>simp;omega
 ·rw [if_neg (by simpa [gY] using hn),if_neg hn,rG name (by omega),aA]
  by_cases ha:gH name=true
  ·rw [if_neg (by simp [ha])]
   by_cases h3:vs.length<=2
   ·rw [if_neg (by simp;omega),aKb vs (by omega),aA]
    by_cases hv:vs.all vG=true
    ·rw [if_pos ⟨ha,h3,hv⟩]
     simp only [hv,vQ,Bool.not_true,Bool.false_eq_true,if_false]
     by_cases h0:vs.length=0
     ·rw [if_pos (by simp [h0]),if_pos h0]
     ·rw [if_neg (by simpa using h0),if_neg h0,aIG (by simp [iK];omega),aA,aKK vs _ h2 (fun x hx=>by
       have:=List.all_eq_true.1 hv x hx
       simp only [vG,Bool.and_eq_true,decide_eq_true_eq] at this
       omega) (by simp only [iK];omega),aA,aIG (by simp only [List.length_append,iK,List.length_singleton];omega),aA,aIG (by simp only [List.length_append,iK,List.length_singleton];omega),aA]
    ·rw [if_neg (fun h=>hv h.2.2)]
     have:vs.all vG=false:=by simpa using hv
     rw [this];rfl
   ·rw [if_pos (by simp;omega),if_neg (fun h=>h3 h.2.1)];rfl
  ·rw [if_pos (by simp [ha]),if_neg (fun h=>ha h.1)];rfl
theorem cutAt_len (b:UInt8) (s:aL):(iA b s).1.length<=s.length/\∀ r,(iA b s).2=some r->s.length=(iA b s).1.length+r.length+1:=by
 have ha:=aEp b s
 have hl:=congrArg List.length ha
 cases hc:(iA b s).2 with
 |none=>rw [hc] at hl;simp at hl;exact ⟨by omega,fun r h=>by cases h⟩
 |some r=>rw [hc] at hl;simp at hl;exact ⟨by omega,fun r' h=>by cases h;omega⟩
theorem aNj (s:aL) (h:s.length < 1000000000):aDT s=some (aAX s):=by
 unfold aDT aCX aAX l_Cut
 rw [if_pos (by omega),aA,cut_eq]
 have ha:=aEp 40 s
 have hcl:=cutAt_len 40 s
 cases hc:(iA 40 s).2 with
 |none=>
  rw [hc] at ha;simp at ha
  simp only [Option.isSome_none,Option.getD_none]
  rw [if_neg (by simp),←ha]
  unfold mR
  rw [aNi s [] (by omega) (by simp) (by simp [Lib.join_nil]),aA]
  by_cases ht:s=gY
  ·subst ht;rw [if_pos rfl];rfl
  ·rw [if_neg ht]
   have:oE s=gH s:=by unfold gH;simp [ht]
   rw [this]
   cases hact:gH s<;>simp [qK]
 |some r=>
  rw [hc] at ha
  have hlen:=hcl.2 r hc
  simp only at ha ⊢
  generalize hA:(iA 40 s).1=a at *
  simp only [Option.isSome_some,Option.getD_some,if_pos]
  rw [aOb r (by omega),aA]
  generalize hT:(if (r.getLast? == some 41)=true then r.dropLast else r)=t
  have htl:t.length<=r.length:=by rw [←hT];split<;>simp
  have hsp:aIY t [44]=some (spl 44 t):=by
   unfold aIY;rw [if_pos ⟨by omega,by simp⟩,aOA 44 _ _ (Nat.le_refl _)]
  have hsl:=spl_len 44 t
  rw [hsp,aA,aNh _ (by omega) (fun x hx=>by have:=hsl.2 x hx;omega),aA]
  by_cases hd:(spl 44 t).all (fun s=>(iC s).2)=true
  ·rw [if_pos hd,if_neg (by simp)]
   unfold mR
   have hj:Lib.join ((spl 44 t).map (fun s=>(iC s).1) |>.map Lib.itoa) [44]=t:=by
    have:((spl 44 t).map (fun s=>(iC s).1) |>.map Lib.itoa)=spl 44 t:=by
     rw [List.map_map]
     conv=>rhs;rw [←List.map_id (spl 44 t)]
     exact List.map_congr_left fun x hx=>aNd (List.all_eq_true.1 hd x hx)
    rw [this,spl_join]
   have hin:((spl 44 t).map (fun s=>(iC s).1)).all vG=(spl 44 t).all nH:=by
    rw [List.all_map]
    refine Bool.eq_iff_iff.2 ?_
    simp only [List.all_eq_true]
    refine forall_congr' fun x=>forall_congr' fun hx=>?_
    rw [←aNf x]
    have:(iC x).2=true:=List.all_eq_true.1 hd x hx
    simp only [in63,this,Bool.true_and];rfl
   have h0:(spl 44 t).length≠0:=fun h=>aKI 44 t (List.length_eq_zero_iff.1 h)
   rw [aNi a _ (by omega) (by simp;omega) (by rw [hj];omega),aA,hj,hin,List.length_map]
   by_cases hta:a=gY
   ·rw [if_pos hta]
    have:gH a=false:=by subst hta;decide
    rw [this]
    have e:((spl 44 t).length == 0)=false:=by simpa using h0
    rw [e];rfl
   ·rw [if_neg hta]
    by_cases hgood:gH a=true/\(spl 44 t).length<=2/\(spl 44 t).all nH=true
    ·rw [if_pos hgood,if_neg h0]
     obtain ⟨g1,g2,g3⟩:=hgood
     by_cases hz:(r.getLast? == some 41)=true
     ·rw [if_pos hz] at hT
      subst hT
      have hr:r=r.dropLast++[41]:=by
       rcases List.eq_nil_or_concat r with rfl|⟨l,c,rfl⟩
       ·simp at hz
       ·simp at hz;subst hz;simp
      have hs:a++[40]++r.dropLast++[41]=s:=by
       conv=>rhs;rw [ha,hr]
       simp
      rw [hs,g1,hz,g3]
      simp [qK,g2]
     ·rw [if_neg hz] at hT
      subst hT
      have hs:¬ a++[40]++r++[41]=s:=by
       intro hh
       have:=congrArg List.length hh
       simp at this;omega
      have hz':(r.getLast? == some 41)=false:=by simpa using hz
      rw [hz']
      simp only [Bool.false_and,Bool.and_false,Bool.not_true,Bool.false_eq_true,if_false]
      have:((a++[40]++r++[41]) == s)=false:=by simpa using hs
      rw [this];rfl
    ·rw [if_neg hgood]
     have:(gH a&&((r.getLast? == some 41)&&((spl 44 r.dropLast).all nH&&decide ((spl 44 r.dropLast).length<=2))))=false:=by
      refine Bool.eq_false_iff.2 fun hh=>hgood ?_
      simp only [Bool.and_eq_true,decide_eq_true_eq] at hh
      rw [if_pos hh.2.1] at hT
      subst hT
      exact ⟨hh.1,hh.2.2.2,hh.2.2.1⟩
     rw [this];rfl
  ·rw [if_neg hd]
   have:(gH a&&((r.getLast? == some 41)&&((spl 44 r.dropLast).all nH&&decide ((spl 44 r.dropLast).length<=2))))=false:=by
    refine Bool.eq_false_iff.2 fun hh=>hd ?_
    simp only [Bool.and_eq_true,decide_eq_true_eq] at hh
    rw [if_pos hh.2.1] at hT
    subst hT
    refine List.all_eq_true.2 fun x hx=>?_
    have:=List.all_eq_true.1 hh.2.2.1 x hx
    rw [←aNf] at this
    simp only [in63,Bool.and_eq_true] at this
    exact this.1
   rw [this];rfl
end Gv
namespace Gv
open Go
noncomputable def cl (P:Prop):Bool:=@decide P (Classical.propDecidable P)
theorem uQ {P:Prop}:cl P=true<->P:=by unfold cl;exact @decide_eq_true_iff P (Classical.propDecidable P)
theorem xJ {P:Prop} (h:P):cl P=true:=uQ.2 h
theorem kP {P:Prop} (h:¬ P):cl P=false:=by cases hx:cl P with|false=>rfl|true=>exact absurd (uQ.1 hx) h
theorem aHZ {P:Prop} {b:Bool} (h:b=true<->P):cl P=b:=by
 cases b with
 |true=>exact xJ (h.1 rfl)
 |false=>exact kP fun hp=>by have:=h.2 hp;cases this
theorem pJ {ρ:Type} {step:Int->Option (Int ⊕ ρ)} (n k0:Nat) (P:Nat->Prop) (r e:ρ) (hk:k0<=n)
  (h:∀ (k:Nat),k0<=k->k < n->step (k:Int)=if cl (P k)=true then some (.inl ((k+1:Nat):Int)) else some (.inr r))
  (h':step (n:Int)=some (.inr e)):loop step (k0:Int)=some (if cl (∀ k,k0<=k->k < n->P k)=true then e else r):=by
 obtain ⟨b,h1,h2⟩:=vE (step:=step) n k0 (fun k=>cl (P k)) r e hk h h'
 rw [h2,aHZ (b:=b) (by rw [h1];simp only [uQ])]
theorem yW:∀ a:aL,pM a a=false
 |[]=>rfl
 |c::r=>by unfold pM;simp [yW r]
theorem ltB_tri:∀ a b:aL,pM a b=true\/a=b\/pM b a=true
 |[],[]=>.inr (.inl rfl)
 |[],_::_=>.inl rfl
 |_::_,[]=>.inr (.inr rfl)
 |c::r,d::q=>by
  unfold pM
  rcases Nat.lt_trichotomy c.toNat d.toNat with h|h|h
  ·left;simp [UInt8.lt_iff_toNat_lt,h]
  ·have:c=d:=UInt8.toNat_inj.1 h
   subst this
   rcases ltB_tri r q with h|h|h
   ·left;simp [h]
   ·right;left;rw [h]
   ·right;right;simp [h]
  ·right;right;simp [UInt8.lt_iff_toNat_lt,h]
theorem aHi:∀ {a b c:aL},pM a b=true->pM b c=true->pM a c=true
 |[],[],_,h,_=>by cases h
 |[],_::_,[],_,h=>by cases h
 |[],_::_,_::_,_,_=>rfl
 |_::_,[],_,h,_=>by cases h
 |_::_,_::_,[],_,h=>by cases h
 |c::r,d::q,e::p,h1,h2=>by
  unfold pM at h1 h2 ⊢
  simp only [Bool.or_eq_true,Bool.and_eq_true,decide_eq_true_eq,beq_iff_eq,UInt8.lt_iff_toNat_lt] at h1 h2 ⊢
  rcases h1 with h1|⟨h1,g1⟩<;>rcases h2 with h2|⟨h2,g2⟩
  ·left;omega
  ·left;rw [←h2];exact h1
  ·left;rw [h1];exact h2
  ·right;exact ⟨h1.trans h2,aHi g1 g2⟩
theorem aOB {a b:aL} (h:pM a b=true):pM b a=false:=by
 cases hx:pM b a with
 |false=>rfl
 |true=>have:=aHi h hx;rw [yW] at this;cases this
theorem aPp (a b:aL):(pM b a||b == a)=!pM a b:=by
 rcases ltB_tri a b with h|h|h
 ·rw [h,aOB h]
  have:¬ b=a:=by intro e;subst e;rw [yW] at h;cases h
  simp [this]
 ·subst h;simp [yW]
 ·rw [h,aOB h];rfl
def SetOk (xs:List aL):Prop:=(∀ s∈xs,aAX s=true/\s≠gY)/\∀ k,1<=k->(hk:k < xs.length)->pM (xs[k - 1]'(by omega)) xs[k]=true
end Gv
