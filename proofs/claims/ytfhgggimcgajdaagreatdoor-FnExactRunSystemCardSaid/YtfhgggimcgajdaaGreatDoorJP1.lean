/- Loops over lists, in plain Lean; the measures, copies, comparisons and marks of the laws. -/
import Derived.Test.YtfhgggimcgajdaaGreatDoorJMd
set_option linter.all false
namespace Gv
theorem aBa {σ ρ α:Type} {step:σ->Option (σ ⊕ ρ)} (n:Nat) (g:Nat->α->σ) (F:Nat->α->ρ) (I:Nat->α->Prop)
  (h:∀ k a,k < n->I k a->(∃ a',step (g k a)=some (.inl (g (k+1) a'))/\I (k+1) a'/\F (k+1) a'=F k a)\/step (g k a)=some (.inr (F k a)))
  (h':∀ a,I n a->step (g n a)=some (.inr (F n a))):∀ j k a,k+j=n->I k a->loop step (g k a)=some (F k a)
 |0,k,a,e,hI=>by
  obtain rfl:k=n:=by omega
  rw [cX,h' a hI]
 |j+1,k,a,e,hI=>by
  rcases h k a (by omega) hI with ⟨a',h1,h2,h3⟩|h1
  ·rw [cX,h1,←h3]
   exact aBa n g F I h h' j (k+1) a' (by omega) h2
  ·rw [cX,h1]
theorem aKm {σ ρ α β:Type} {step:σ->Option (σ ⊕ ρ)} (xs:List β) (g:Nat->α->σ) (go:List β->α->ρ) (I:Nat->α->Prop)
  (h:∀ k a x l,k < xs.length->ix xs (k:Int)=some x->I k a->(∃ a',step (g k a)=some (.inl (g (k+1) a'))/\I (k+1) a'/\go l a'=go (x::l) a)\/step (g k a)=some (.inr (go (x::l) a)))
  (h':∀ a,I xs.length a->step (g xs.length a)=some (.inr (go [] a))) {a:α} (hI:I 0 a):loop step (g 0 a)=some (go xs a):=by
 have:=aBa (step:=step) xs.length g (fun k a=>go (xs.drop k) a) I (fun k a hk hI=>?_) (fun a hI=>?_) xs.length 0 a (by omega) hI
 ·simpa using this
 ·have hx:ix xs (k:Int)=some xs[k]:=by rw [iL];simp [hk]
  have:=h k a xs[k] (xs.drop (k+1)) hk hx hI
  rw [show xs.drop k=xs[k]::xs.drop (k+1) from List.drop_eq_getElem_cons hk]
  exact this
 ·simpa using h' a hI
theorem cO {k n:Nat} (h:k < n) (hn:n < 4611686018427387904):wr ((k:Int)+1)=((k+1:Nat):Int):=by unfold wr;omega
theorem cR {k n:Nat} (h:k < n):decide ((k:Int) < (n:Int))=true:=by simp;omega
theorem cN {n:Nat}:decide ((n:Int) < (n:Int))=false:=by simp
theorem aBb {ρ:Type} {β:Type} {step:Int->Option (Int ⊕ ρ)} (xs:List β) (p:β->Bool) (r e:ρ)
  (h:∀ (k:Nat) x,k < xs.length->ix xs (k:Int)=some x->step (k:Int)=if p x=true then some (.inl ((k+1:Nat):Int)) else some (.inr r))
  (h':step (xs.length:Int)=some (.inr e)):loop step 0=some (if xs.all p=true then e else r):=by
 have:=aKm (step:=step) xs (fun k (_:Unit)=>(k:Int)) (fun l _=>if l.all p=true then e else r) (fun _ _=>True) (fun k a x l hk hx _=>?_) (fun a _=>by simpa using h') (a:=()) trivial
 ·exact this
 ·rw [h k x hk hx]
  by_cases hp:p x=true
  ·left;exact ⟨(),by simp [hp],trivial,by simp [hp]⟩
  ·right;simp [hp]
theorem aDy {ρ:Type} {step:Int->Option (Int ⊕ ρ)} (n k0:Nat) (p:Nat->Bool) (r e:ρ) (hk:k0<=n)
  (h:∀ (k:Nat),k0<=k->k < n->step (k:Int)=if p k=true then some (.inl ((k+1:Nat):Int)) else some (.inr r))
  (h':step (n:Int)=some (.inr e)):∃ b:Bool,(b=true<->∀ k,k0<=k->k < n->p k=true)/\loop step (k0:Int)=some (if b=true then e else r):=by
 classical
 refine ⟨decide (∀ k,k0<=k->k < n->p k=true),by simp,?_⟩
 have:=aBa (step:=step) n (fun k (_:Unit)=>(k:Int)) (fun k0 _=>if (∀ k,k0<=k->k < n->p k=true) then e else r) (fun k _=>k0<=k) (fun k a hk hI=>?_) (fun a _=>?_) (n - k0) k0 () (by omega) (Nat.le_refl _)
 ·simpa using this
 ·rw [h k hI hk]
  by_cases hp:p k=true
  ·left
   refine ⟨(),by simp [hp],by omega,?_⟩
   have:(∀ j,k+1<=j->j < n->p j=true)<->(∀ j,k<=j->j < n->p j=true):=by
    constructor
    ·intro h j h1 h2
     by_cases e:j=k
     ·subst e;exact hp
     ·exact h j (by omega) h2
    ·intro h j h1 h2;exact h j (by omega) h2
   simp only [this]
  ·right
   rw [if_neg hp,if_neg (fun h=>hp (h k (Nat.le_refl _) hk))]
 ·rw [h',if_pos (by omega)]
def sz:Nat:=1048576
theorem ix_get {α:Type} {xs:List α} {k:Nat} {x:α} (h:ix xs (k:Int)=some x):∃ hk:k < xs.length,xs[k]=x:=by
 rw [iL] at h;exact List.getElem?_eq_some_iff.1 h
theorem aEf {β:Type} {z:β} {step:(List β × Int)->Option ((List β × Int) ⊕ List β)} {a:List β}
  (h:∀ (k:Nat) out x,k < a.length->out.length=a.length->ix a (k:Int)=some x->step (out,(k:Int))=some (.inl (out.set k x,((k+1:Nat):Int))))
  (h':∀ out,step (out,(a.length:Int))=some (.inr out)):loop step (List.replicate a.length z,0)=some a:=by
 have:=aBa (step:=step) a.length (fun k out=>(out,(k:Int))) (fun _ _=>a) (fun k out=>out.length=a.length/\out.take k=a.take k) (fun k out hk hI=>?_) (fun out hI=>?_) a.length 0 (List.replicate a.length z) (by omega) ⟨by simp,by simp⟩
 ·exact this
 ·left
  have hx:ix a (k:Int)=some a[k]:=by rw [iL];simp [hk]
  refine ⟨_,h k out a[k] hk hI.1 hx,⟨by simp [hI.1],?_⟩,rfl⟩
  rw [List.take_add_one,List.take_add_one,List.take_set_of_le (Nat.le_refl _),hI.2]
  simp [hk,hI.1]
 ·rw [h']
  have h1:=hI.2
  rw [List.take_of_length_le (by omega),List.take_of_length_le (by omega)] at h1
  rw [h1]
theorem aOM {α:Type} {n:Nat} (z:α) (h:n<=jN):mkz (n:Int) z=some (List.replicate n z):=by
 unfold mkz;rw [if_pos ⟨by omega,by simpa using h⟩];simp
theorem xC {α:Type} {xs:List α} {k:Nat} (v:α) (h:k < xs.length):st xs (k:Int) v=some (xs.set k v):=by
 unfold st;rw [if_pos ⟨by omega,by simpa using h⟩];simp
theorem cZ {α:Type} {xs:List α} {k:Nat} (h:k < xs.length):ix xs (k:Int)=some xs[k]:=by rw [iL];simp [h]
theorem iR {α:Type} {xs ys:List α} (h:xs.length+ys.length<=jN):apd xs ys=some (xs++ys):=if_pos h
theorem lA {xs ys:List UInt8} (h:xs.length+ys.length<=jN):cat xs ys=some (xs++ys):=if_pos h
theorem aJv {a:List bJ} (h:a.length<=jN):yV a=some a:=by
 unfold jN at h
 unfold yV
 rw [aOM _ h,aE,aEf (a:=a) (z:=([]:bJ))]
 ·rfl
 ·intro k out x hk ho hx
  simp only [aAE,cR hk,if_pos,hx,aE,cZ (xs:=out) (k:=k) (by omega),xC (xs:=out) (k:=k) x (by omega),cO hk (by omega)]
 ·intro out;simp only [aAE,cN];rfl
theorem aHn {β:Type} [DecidableEq β] {step:Int->Option (Int ⊕ (Unit ⊕ Bool))} {a b:List β} (e:a.length=b.length)
  (h:∀ (k:Nat) x y,k < a.length->ix a (k:Int)=some x->ix b (k:Int)=some y->step (k:Int)=if x=y then some (.inl ((k+1:Nat):Int)) else some (.inr (.inr false)))
  (h':step (a.length:Int)=some (.inr (.inl ()))):ob (loop step 0) (fun r=>match r with|.inl _=>some true|.inr r=>some r)=some (decide (a=b)):=by
 obtain ⟨c,hc,hl⟩:=aDy (step:=step) a.length 0 (fun k=>decide (a[k]?=b[k]?)) (.inr false) (.inl ()) (Nat.zero_le _) (fun k _ hk=>by
  have:=h k _ _ hk (cZ hk) (cZ (by omega))
  rw [this]
  have:decide (a[k]?=b[k]?)=decide (a[k]=b[k]'(by omega)):=by simp [hk,e ▸ hk]
  rw [this];simp) h'
 rw [show (0:Int)=((0:Nat):Int) from rfl,hl]
 by_cases hb:c=true
 ·subst hb
  have:a=b:=List.ext_getElem? fun k=>by
   by_cases hk:k < a.length
   ·simpa using hc.1 rfl k (Nat.zero_le _) hk
   ·simp [hk,show ¬ k < b.length by omega]
  simp [this]
 ·have hb':c=false:=by simpa using hb
  subst hb'
  have:¬ a=b:=fun he=>hb (hc.2 fun k _ _=>by simp [he])
  simp [this]
theorem aJw (a b:List bJ) (h:a.length < 4611686018427387904):zF a b=some (decide (a=b)):=by
 unfold zF
 by_cases e:a.length=b.length
 ·rw [if_neg (by simp [e])]
  refine Eq.trans ?_ (aHn e (step:=fun s=>uC a b s) ?_ ?_)
  ·rfl
  ·intro k x y hk hx hy
   simp only [uC,cR hk,if_pos,hx,hy,aE,cO hk h]
   by_cases e:x=y<;>simp [e]
  ·simp only [uC,cN];rfl
 ·rw [if_pos (by simp only [bne_iff_ne,ne_eq];omega)]
  have:¬ a=b:=fun h=>e (by rw [h])
  simp [this]
theorem aKH (a b:List Int) (h:a.length < 4611686018427387904):aBo a b=some (decide (a=b)):=by
 unfold aBo
 by_cases e:a.length=b.length
 ·rw [if_neg (by simp [e])]
  refine Eq.trans ?_ (aHn e (step:=fun s=>wW a b s) ?_ ?_)
  ·rfl
  ·intro k x y hk hx hy
   simp only [wW,cR hk,if_pos,hx,hy,aE,cO hk h]
   by_cases e:x=y<;>simp [e]
  ·simp only [wW,cN];rfl
 ·rw [if_pos (by simp only [bne_iff_ne,ne_eq];omega)]
  have:¬ a=b:=fun h=>e (by rw [h])
  simp [this]
theorem aNf {k:Int} (h:k < 4611686018427387904):∃ r,kA k=some r:=by
 unfold kA
 by_cases h0:k<=0
 ·exact ⟨_,by rw [if_pos (by simpa using h0)]⟩
 rw [if_neg (by simpa using h0)]
 have hL:=aGH (step:=fun s:Int × bJ=>aBS s.1 s.2) (fun s=>0<=s.1/\(s.1.toNat+1) * 2 ^ s.2.length<=4611686018427387904) (fun s=>s.1.toNat) (fun r=>r.length<=64) (fun s hI=>?_) (s:=(k,[])) ⟨by simp only;omega,by simp;omega⟩
 ·obtain ⟨r,hr,hR⟩:=hL
  rw [hr,aE,xA,lA (by simp [jN];omega)]
  exact ⟨_,rfl⟩
 ·obtain ⟨n,out⟩:=s
  obtain ⟨h1,h2⟩:=hI
  simp only at h1 h2 ⊢
  have hlen:out.length<=62:=by
   have h3:2 ^ out.length<=4611686018427387904:=by
    refine Nat.le_trans ?_ h2
    exact Nat.le_mul_of_pos_left _ (by omega)
   by_cases hc:out.length<=62
   ·exact hc
   ·have:2 ^ 63<=2 ^ out.length:=Nat.pow_le_pow_right (by omega) (by omega)
    omega
  unfold aBS
  by_cases hn:0 < n
  ·left
   have hq:qu n 10=some (n / 10):=by
    unfold qu;rw [if_neg (by decide),Int.tdiv_eq_ediv_of_nonneg h1,iC (by omega)]
    have hx:n.toNat+1<=4611686018427387904:=Nat.le_trans (Nat.le_mul_of_pos_right _ (Nat.pow_pos (by omega))) h2
    omega
   have hr:rm n 10=some (n.tmod 10):=by unfold rm;rw [if_neg (by decide)]
   rw [if_pos (by simpa using hn),hr,aE,lA (by simp [jN];omega),aE,hq,aE]
   refine ⟨_,rfl,⟨by simp only;omega,?_⟩,by simp only;omega⟩
   simp only [List.singleton_append,List.length_cons]
   refine Nat.le_trans ?_ h2
   rw [Nat.pow_succ,Nat.mul_comm (2 ^ out.length) 2,←Nat.mul_assoc]
   exact Nat.mul_le_mul_right _ (by omega)
  ·right
   rw [if_neg (by simpa using hn)]
   exact ⟨_,rfl,by omega⟩
noncomputable def mt (k:Int):bJ:=(kA k).getD []
theorem aKI {k:Int} (h:k < 4611686018427387904):kA k=some (mt k):=by
 obtain ⟨r,hr⟩:=aNf h
 unfold mt;rw [hr];rfl
theorem aNN {β:Type} {step:(List β × Int × Int)->Option ((List β × Int × Int) ⊕ (Int × List β))} (f:Int->β) (c:Nat) (k0:Int) (a:List β)
  (h:∀ (i:Nat) out,i < a.length->out.length=a.length->step (out,k0+c * i,(i:Int))=some (.inl (out.set i (f (k0+c * i)),k0+c * (i+1:Nat),((i+1:Nat):Int))))
  (h':∀ out k,out.length=a.length->step (out,k,(a.length:Int))=some (.inr (k,out))):loop step (a,k0,0)=some (k0+c * a.length,(List.range a.length).map fun i=>f (k0+c * (i:Nat))):=by
 have:=aBa (step:=step) a.length (fun i out=>(out,k0+c * (i:Nat),(i:Int))) (fun _ _=>(k0+c * a.length,(List.range a.length).map fun i=>f (k0+c * (i:Nat)))) (fun i out=>out.length=a.length/\out.take i=(List.range i).map fun i=>f (k0+c * (i:Nat))) (fun i out hi hI=>?_) (fun out hI=>?_) a.length 0 a (by omega) ⟨rfl,by simp⟩
 ·simpa using this
 ·left
  refine ⟨_,h i out hi hI.1,⟨by simp [hI.1],?_⟩,rfl⟩
  rw [List.take_add_one,List.take_set_of_le (Nat.le_refl _),hI.2,List.range_succ,List.map_append]
  simp [hI.1,hi]
 ·rw [h' _ _ hI.1]
  have h1:=hI.2
  rw [List.take_of_length_le (by omega)] at h1
  rw [h1]
noncomputable def mS (k:Int) (n:Nat):List bJ:=(List.range n).map fun i=>mt (k+(1:Nat) * (i:Nat))
def mI (k:Int) (n:Nat):List Int:=(List.range n).map fun i=>(k+(1:Nat) * (i:Nat))
theorem aHo {a:List bJ} {k:Int} (h0:0<=k) (hk:k<=1125899906842624) (ha:a.length<=1099511627776):sK a k=some (k+a.length,mS k a.length):=by
 unfold sK
 rw [aNN (f:=mt) (c:=1) (k0:=k) (a:=a)]
 ·simp [qA,mS]
 ·intro i out hi ho
  simp only [vE,ho,cR hi,if_pos,cZ (xs:=out) (k:=i) (by omega),xC (xs:=out) (k:=i) _ (show i < out.length by omega),aE,aKI (k:=k+(1:Nat) * (i:Nat)) (by omega),cO hi (show a.length < _ by omega)]
  rw [iC (by omega) (by omega)]
  simp only [Option.some.injEq,Sum.inl.injEq,Prod.mk.injEq,true_and,and_true];omega
 ·intro out k ho
  simp only [vE,ho,cN];rfl
theorem aIq {a:List Int} {k:Int} (h0:0<=k) (hk:k<=1099511627776) (ha:a.length<=1099511627776):vD a k=some (k+a.length,mI k a.length):=by
 unfold vD
 rw [aNN (f:=id) (c:=1) (k0:=k) (a:=a)]
 ·simp [rR,mI]
 ·intro i out hi ho
  simp only [xT,ho,cR hi,if_pos,cZ (xs:=out) (k:=i) (by omega),xC (xs:=out) (k:=i) _ (show i < out.length by omega),aE,cO hi (show a.length < _ by omega)]
  rw [iC (by omega) (by omega)]
  simp only [id,Option.some.injEq,Sum.inl.injEq,Prod.mk.injEq,true_and,and_true];omega
 ·intro out k ho
  simp only [xT,ho,cN];rfl
theorem aNg {n:Nat} {k:Int} (h0:0<=k) (hk:k<=1099511627776) (hn:n<=1099511627776):aAX (mI k n) k=some (k+n):=by
 unfold aAX
 have hl:(mI k n).length=n:=by simp [mI]
 have:=aBa (step:=fun s:Int × Int=>rV (mI k n) s.1 s.2) n (fun i (_:Unit)=>(k+(i:Nat),(i:Int))) (fun _ _=>.inl (k+n)) (fun _ _=>True) (fun i a hi _=>?_) (fun a _=>?_) n 0 () (by omega) trivial
 ·simp only [Int.natCast_zero,Int.add_zero] at this
  rw [show (k,(0:Int))=(k,((0:Nat):Int)) from rfl] at *
  rw [this];rfl
 ·left
  refine ⟨(),?_,trivial,rfl⟩
  have hi':i < (mI k n).length:=by omega
  simp only [rV,hl,cR hi,if_pos,cZ hi',aE,cO hi (show n < _ by omega)]
  rw [show (mI k n)[i]=(k+(i:Nat)) by simp [mI],iC (by omega) (by omega)]
  simp;omega
 ·simp only [rV,hl,cN];rfl
end Gv
namespace Gv
open Go
def low (c:UInt8):Bool:=decide (97<=c.toNat)&&decide (c.toNat<=122)
def dig (c:UInt8):Bool:=decide (48<=c.toNat)&&decide (c.toNat<=57)
theorem low_eq {f:Bool->Option Bool} (c:UInt8) (hf:∀ b,f b=some b):(if (decide (97<=(c.toNat:Int))) then (f (decide ((c.toNat:Int)<=122))) else (f false))=some (low c):=by
 unfold low
 have e1:decide ((97:Int)<=(c.toNat:Int))=decide (97<=c.toNat):=decide_eq_decide.2 (by omega)
 have e2:decide ((c.toNat:Int)<=(122:Int))=decide (c.toNat<=122):=decide_eq_decide.2 (by omega)
 rw [e1,e2,hf,hf]
 cases decide (97<=c.toNat)<;>rfl
theorem dig_eq {f:Bool->Option Bool} (c:UInt8) (hf:∀ b,f b=some b):(if (decide (48<=(c.toNat:Int))) then (f (decide ((c.toNat:Int)<=57))) else (f false))=some (dig c):=by
 unfold dig
 have e1:decide ((48:Int)<=(c.toNat:Int))=decide (48<=c.toNat):=decide_eq_decide.2 (by omega)
 have e2:decide ((c.toNat:Int)<=(57:Int))=decide (c.toNat<=57):=decide_eq_decide.2 (by omega)
 rw [e1,e2,hf,hf]
 cases decide (48<=c.toNat)<;>rfl
theorem aKJ (c:UInt8):aDJ c=some (low c):=low_eq c fun _=>rfl
theorem aKK (c:UInt8):aDK c=some (dig c):=dig_eq c fun _=>rfl
theorem aQR (c:UInt8):aHF c=some (dig c):=dig_eq c fun _=>rfl
def rD:bJ->Bool
 |[]=>false
 |c::r=>low c&&(r.all fun c=>low c||dig c)&&decide (r.length < 10)
theorem aGn (s:bJ):yN s=some (rD s):=by
 unfold yN
 cases s with
 |nil=>rfl
 |cons c r=>
  rw [if_neg (by simp)]
  by_cases hl:r.length < 10
  ·rw [if_neg (by simp;omega),show ix (c::r) 0=some c from rfl,aE,aKJ,aE]
   unfold qQ
   by_cases hc:low c=true
   ·rw [if_neg (by simp [hc]),aBb (step:=fun s=>aAd (c::r) s) (c::r) (fun c=>low c||dig c) (.inr false) (.inl ())]
    ·by_cases hr:(r.all fun c=>low c||dig c)=true
     ·simp [rD,hc,hl,hr,aAb]
     ·simp [rD,hc,hl,hr]
    ·intro k x hk hx
     simp only [aAd,cR hk,if_pos,hx,aE,aKJ,aKK,aAc,cO hk (show (c::r).length < 4611686018427387904 by simp;omega)]
     cases low x<;>cases dig x<;>rfl
    ·simp only [aAd,cN];rfl
   ·simp [hc,rD]
  ·rw [if_pos (by simp;omega)]
   unfold qQ
   simp [rD,hl]
theorem aNO (s:bJ) (h:s.length < 4611686018427387904):aFo s=some (rD s):=by
 unfold aFo
 have h0:∃ b:Bool,(b=true<->∀ k,0<=k->k < s.length->(s[k]?.map fun c=>low c||(decide (k≠0)&&dig c))=some true)/\loop (fun t=>yX s t) ((0:Nat):Int)=some (if b=true then .inl () else .inr false):=by
  have hA:=aDy (step:=fun t=>yX s t) s.length 0 (fun k=>(s[k]?.map fun c=>low c||(decide (k≠0)&&dig c)) == some true) (.inr false) (.inl ()) (Nat.zero_le _) (fun k _ hk=>?_) (by simp only [yX,cN];rfl)
  ·obtain ⟨b,h1,h2⟩:=hA
   exact ⟨b,by simpa using h1,h2⟩
  ·have hl:(if (decide (97<=(s[k].toNat:Int))) then (qJ s k (decide ((s[k].toNat:Int)<=122))) else (qJ s k false))=qJ s k (low s[k]):=by
    have e1:decide ((97:Int)<=(s[k].toNat:Int))=decide (97<=s[k].toNat):=decide_eq_decide.2 (by omega)
    have e2:decide ((s[k].toNat:Int)<=(122:Int))=decide (s[k].toNat<=122):=decide_eq_decide.2 (by omega)
    rw [e1,e2];unfold low
    cases decide (97<=s[k].toNat)<;>rfl
   simp only [yX,cR hk,if_pos,cZ hk,aE,hl]
   unfold qJ
   have e1:((k:Int) == 0)=!decide (k≠0):=by by_cases e:k=0<;>simp [e]
   simp only [cZ hk,aE,aQR,yW,cO hk h,List.getElem?_eq_getElem hk,Option.map_some,e1]
   generalize decide (k≠0)=d
   generalize low s[k]=x
   generalize dig s[k]=y
   cases d<;>cases x<;>cases y<;>rfl
 obtain ⟨b,hb,hl⟩:=h0
 rw [show (0:Int)=((0:Nat):Int) from rfl,hl,aE]
 cases s with
 |nil=>
  have:b=true:=hb.2 (by simp)
  subst this;rfl
 |cons c r=>
  have key:b=true<->(low c=true/\(r.all fun c=>low c||dig c)=true):=by
   rw [hb]
   constructor
   ·intro hh
    refine ⟨by simpa using hh 0 (Nat.le_refl _) (by simp),?_⟩
    rw [List.all_eq_true]
    intro x hx
    obtain ⟨k,hk,rfl⟩:=List.mem_iff_getElem.1 hx
    have:=hh (k+1) (Nat.zero_le _) (by simp;omega)
    simpa [hk] using this
   ·rintro ⟨h1,h2⟩ k _ hk
    cases k with
    |zero=>simp [h1]
    |succ k=>
     have hk':k < r.length:=by simpa using hk
     have:=List.all_eq_true.1 h2 r[k] (List.getElem_mem hk')
     simpa [hk'] using this
  by_cases hbt:b=true
  ·obtain ⟨h1,h2⟩:=key.1 hbt
   subst hbt
   simp only [if_pos,aCq,rD,h1,h2,Bool.true_and]
   have e1:decide ((1:Int)<=(List.length (c::r):Int))=true:=by simp only [List.length_cons,decide_eq_true_eq];omega
   have e2:decide ((List.length (c::r):Int)<=10)=decide (r.length < 10):=decide_eq_decide.2 (by simp only [List.length_cons];omega)
   rw [e1,e2];rfl
  ·rw [if_neg hbt]
   have h3:¬ (low c=true/\(r.all fun c=>low c||dig c)=true):=fun h=>hbt (key.2 h)
   have h4:(low c&&(r.all fun c=>low c||dig c))=false:=by
    cases h1:low c<;>cases h2:(r.all fun c=>low c||dig c)<;>simp_all
   simp [rD,h4]
def kI (s:bJ):Bool:=rD s&&!(s == iT)
theorem aBc (s:bJ):nV s=some (kI s):=by
 unfold nV kI
 rw [aGn,aE]
 cases rD s<;>simp [tD,iT]
theorem zH (s:bJ) (h:s.length < 4611686018427387904):oN s=some (kI s):=by
 unfold oN kI
 rw [aNO s h,aE]
 cases rD s<;>simp [wN,iT]
def lW (b:UInt8):bJ->bJ × Option bJ
 |[]=>([],none)
 |c::r=>if c == b then ([],some r) else (c::(lW b r).1,(lW b r).2)
theorem cut_eq (b:UInt8) (s:bJ):Lib.cut s [b]=((lW b s).1,(lW b s).2.getD [],(lW b s).2.isSome):=by
 have hi:∀ s:bJ,(0<=Lib.index s [b]/\s.take (Lib.index s [b]).toNat=(lW b s).1/\(lW b s).2=some (s.drop ((Lib.index s [b]).toNat+1)))\/(Lib.index s [b]=-1/\lW b s=(s,none)):=by
  intro s
  rw [Lib.index_one]
  induction s with
  |nil=>right;exact ⟨rfl,rfl⟩
  |cons c r ih=>
   unfold Lib.indexByte lW
   by_cases hc:(c == b)=true
   ·left;rw [if_pos hc,if_pos hc];simp
   ·rw [if_neg hc,if_neg hc]
    rcases ih with ⟨h1,h2,h3⟩|⟨h1,h2⟩
    ·left
     rw [if_neg (by simp;omega)]
     have e:(Lib.indexByte r b+1).toNat=(Lib.indexByte r b).toNat+1:=by omega
     rw [e]
     exact ⟨by omega,by simp [h2],by simp [h3]⟩
    ·right
     rw [if_pos (by simp [h1]),h2]
     exact ⟨rfl,rfl⟩
 unfold Lib.cut
 rcases hi s with ⟨h1,h2,h3⟩|⟨h1,h2⟩
 ·rw [if_pos h1,h2,h3];simp
 ·rw [if_neg (by omega),h2];rfl
theorem aNP (b:UInt8) (s:bJ):s=(lW b s).1++match (lW b s).2 with|none=>[]|some r=>b::r:=by
 induction s with
 |nil=>rfl
 |cons c r ih=>
  unfold lW
  by_cases hc:(c == b)=true
  ·rw [if_pos hc];simp at hc;simp [hc]
  ·rw [if_neg hc];simp only [List.cons_append];rw [←ih]
def spl (b:UInt8):bJ->List bJ
 |[]=>[[]]
 |c::r=>if c == b then []::spl b r else match spl b r with
  |[]=>[[c]]
  |h::t=>(c::h)::t
theorem aHp (b c:UInt8) (r:bJ):spl b (c::r)=if c == b then []::spl b r else match spl b r with|[]=>[[c]]|h::t=>(c::h)::t:=rfl
theorem aGo (b c:UInt8) (r:bJ):lW b (c::r)=if c == b then ([],some r) else (c::(lW b r).1,(lW b r).2):=rfl
theorem spl_ne (b:UInt8) (s:bJ):spl b s≠[]:=by
 cases s with
 |nil=>simp [spl]
 |cons c r=>
  rw [aHp]
  split
  ·simp
  ·split<;>simp
theorem spl_cut (b:UInt8) (s:bJ):spl b s=match (lW b s).2 with|none=>[(lW b s).1]|some r=>(lW b s).1::spl b r:=by
 induction s with
 |nil=>rfl
 |cons c r ih=>
  rw [aHp,aGo]
  by_cases hc:(c == b)=true
  ·rw [if_pos hc,if_pos hc]
  ·rw [if_neg hc,if_neg hc,ih]
   simp only
   cases (lW b r).2<;>rfl
theorem aNQ (b:UInt8):∀ (n:Nat) (s:bJ),s.length<=n->aDF [b] n s=spl b s
 |0,s,h=>by
  obtain rfl:s=[]:=List.length_eq_zero_iff.1 (by omega)
  rfl
 |n+1,s,h=>by
  unfold aDF
  rw [cut_eq,spl_cut]
  have ha:=aNP b s
  cases hc:(lW b s).2 with
  |none=>rw [hc] at ha;simp at ha;simp [←ha]
  |some r=>
   rw [hc] at ha
   have:s.length=((lW b s).1++b::r).length:=congrArg List.length ha
   simp at this
   simp only [Option.isSome_some,Option.getD_some]
   rw [aNQ b n r (by omega)]
theorem aMy (s:bJ) (h:s.length < 4611686018427387904):aDv s=some ((lW 40 s).1.length:Int):=by
 unfold aDv
 have:=aBa (step:=fun t=>aAr s t) s.length (fun k (_:Unit)=>(k:Int)) (fun k _=>match (lW 40 (s.drop k)).2 with|none=>.inl ()|some _=>.inr ((k+(lW 40 (s.drop k)).1.length:Nat):Int)) (fun _ _=>True) (fun k a hk _=>?_) (fun a _=>?_) s.length 0 () (by omega) trivial
 ·rw [show (0:Int)=((0:Nat):Int) from rfl,this]
  simp only [List.drop_zero,Nat.zero_add]
  have ha:=aNP 40 s
  cases hc:(lW 40 s).2 with
  |none=>rw [hc] at ha;simp at ha;rw [←ha];rfl
  |some r=>rfl
 ·rw [List.drop_eq_getElem_cons hk]
  simp only [aAr,cR hk,if_pos,cZ hk,aE,cO hk h]
  by_cases hc:s[k]=40
  ·right
   rw [if_pos (by simp [hc])]
   simp [lW,hc]
  ·left
   have hc':¬ ((s[k].toNat:Int) == 40)=true:=by
    simp
    intro hh
    exact hc (UInt8.toNat_inj.1 (by simpa using (show s[k].toNat=40 by omega)))
   rw [if_neg hc']
   refine ⟨(),rfl,trivial,?_⟩
   have h2:¬ (s[k] == 40)=true:=by simpa using hc
   simp only [lW,if_neg h2]
   cases (lW 40 (s.drop (k+1))).2<;>simp;omega
 ·simp only [aAr,cN]
  simp [lW]
theorem aPL (s:bJ) (b:UInt8) (h:s.length < 1000000000):aDQ s b=some (spl b s):=by
 unfold aDQ
 have hL:=aGH (step:=fun t:List bJ × Int × Int=>aBF s b t.1 t.2.1 t.2.2) (fun t=>0<=t.2.1/\t.2.1<=t.2.2/\t.2.2<=s.length/\(t.1.length:Int)<=t.2.2/\t.1++(match spl b (s.drop t.2.2.toNat) with|[]=>[]|hd::tl=>((s.drop t.2.1.toNat).take (t.2.2.toNat - t.2.1.toNat)++hd)::tl)=spl b s) (fun t=>(s.length - t.2.2).toNat) (fun r=>0<=r.2/\r.2<=s.length/\r.1.length<=s.length/\r.1++[s.drop r.2.toNat]=spl b s) (fun t hI=>?_) (s:=([],0,0)) ⟨by simp,by simp,by simp,by simp,?_⟩
 ·obtain ⟨⟨o,f⟩,hr,h1,h2,h3,h4⟩:=hL
  simp only at h1 h2 h3 h4
  rw [hr,aE]
  unfold wG
  have:slc s f (s.length:Int)=some (s.drop f.toNat):=by
   unfold slc;rw [if_pos ⟨h1,h2,by simp⟩,List.take_of_length_le (by simp)]
  rw [this,aE,iR (by simp [jN];omega),aE,h4]
 ·obtain ⟨out,fr,i⟩:=t
  obtain ⟨h1,h2,h3,h4,h5⟩:=hI
  simp only at h1 h2 h3 h4 h5 ⊢
  obtain ⟨k,rfl⟩:∃ k:Nat,i=(k:Int):=⟨i.toNat,by omega⟩
  obtain ⟨f,rfl⟩:∃ k:Nat,fr=(k:Int):=⟨fr.toNat,by omega⟩
  simp only [Int.toNat_natCast] at h5
  unfold aBF
  by_cases hk:k < s.length
  ·left
   rw [if_pos (cR hk),cZ hk,aE]
   rw [List.drop_eq_getElem_cons hk] at h5
   have hf:f<=k:=by omega
   have htk:(s.drop f).take (k+1 - f)=(s.drop f).take (k - f)++[s[k]]:=by
    rw [show k+1 - f=(k - f)+1 by omega,List.take_add_one]
    have:f+(k - f)=k:=by omega
    simp [this,hk]
   by_cases hc:s[k]=b
   ·have hsl:slc s (f:Int) (k:Int)=some ((s.drop f).take (k - f)):=by
     unfold slc;rw [if_pos ⟨by omega,by omega,by simp;omega⟩];simp
    rw [if_pos (by simp [hc]),hsl,aE,iR (by simp [jN];omega),aE,sC,cO hk (by omega)]
    refine ⟨_,rfl,⟨by simp only;omega,by simp only;omega,by simp only;omega,by simp;omega,?_⟩,by simp only;omega⟩
    simp only [Int.toNat_natCast]
    rw [←h5]
    cases hs:spl b (s.drop (k+1)) with
    |nil=>exact absurd hs (spl_ne _ _)
    |cons hd tl=>simp [spl,hc,hs]
   ·have hc':¬ ((s[k].toNat:Int) == (b.toNat:Int))=true:=by
     simp
     intro hh
     exact hc (UInt8.toNat_inj.1 (by omega))
    rw [if_neg hc',sC,cO hk (by omega)]
    refine ⟨_,rfl,⟨by simp only;omega,by simp only;omega,by simp only;omega,by simp only;omega,?_⟩,by simp only;omega⟩
    simp only [Int.toNat_natCast]
    rw [←h5]
    have h2:¬ (s[k] == b)=true:=by simpa using hc
    cases hs:spl b (s.drop (k+1)) with
    |nil=>exact absurd hs (spl_ne _ _)
    |cons hd tl=>simp [spl,h2,hs,htk]
  ·obtain rfl:k=s.length:=by omega
   right
   rw [if_neg (by simp)]
   refine ⟨_,rfl,by simp only;omega,by simp only;omega,by simp only;omega,?_⟩
   simp only [Int.toNat_natCast]
   rw [←h5]
   simp only [List.drop_length,spl]
   rw [List.take_of_length_le (by simp),List.append_nil]
 ·cases hs:spl b s with
  |nil=>exact absurd hs (spl_ne _ _)
  |cons hd tl=>simp [hs]
end Gv
namespace Gv
open Go
def aNR:bJ->Bool
 |[c]=>dig c
 |[c1,c2]=>dig c1&&dig c2&&decide (c1.toNat≠48)&&decide (10 * (c1.toNat - 48)+(c2.toNat - 48)<=63)
 |_=>false
theorem vI (c:UInt8):dig c=true<->48<=c.toNat/\c.toNat<=57:=by unfold dig;simp
theorem dig_sub {c:UInt8} (h:dig c=true):((c - (48:UInt8)).toNat:Int)=(c.toNat:Int) - 48:=by
 have h:=(vI c).1 h
 rw [UInt8.toNat_sub_of_le _ _ (by rw [UInt8.le_iff_toNat_le];exact h.1)]
 show ((c.toNat - 48:Nat):Int)=_
 omega
def val (n:Int) (l:bJ):Int:=l.foldl (fun n c=>10 * n+((c.toNat:Int) - 48)) n
theorem aPM {s:bJ} {a:Nat} (ha:a<=s.length) (hs:s.length - a<=18) (hl:s.length < 1000000000):
  loop (fun t:Int × Int=>pL s t.1 t.2) (0,(a:Int))=some (if (s.drop a).all dig=true then .inl (val 0 (s.drop a)) else .inr (0,false)):=by
 have:=aBa (step:=fun t:Int × Int=>pL s t.1 t.2) s.length (fun k (n:Int)=>(n,(k:Int))) (fun k n=>if (s.drop k).all dig=true then .inl (val n (s.drop k)) else .inr (0,false)) (fun k n=>a<=k/\0<=n/\n < (10 ^ (k - a):Nat)) (fun k n hk hI=>?_) (fun n hI=>?_) (s.length - a) a 0 (by omega) ⟨Nat.le_refl _,by omega,by simp⟩
 ·exact this
 ·obtain ⟨h1,h2,h3⟩:=hI
  rw [List.drop_eq_getElem_cons hk]
  simp only [pL,cR hk,if_pos,cZ hk,aE,aKK,cO hk (show s.length < 4611686018427387904 by omega)]
  by_cases hd:dig s[k]=true
  ·left
   rw [if_neg (by simp [hd])]
   have hc:=(vI _).1 hd
   have hp:(10:Nat) ^ (k - a)<=10 ^ 17:=Nat.pow_le_pow_right (by omega) (by omega)
   have hn:n < 100000000000000000:=by
    have:(10:Nat) ^ 17=100000000000000000:=by decide
    omega
   have w:wr (wr (10 * n)+wr ((s[k] - (48:UInt8)).toNat:Int))=10 * n+((s[k].toNat:Int) - 48):=by
    rw [dig_sub hd,iC (x:=10 * n) (by omega) (by omega),iC (x:=(s[k].toNat:Int) - 48) (by omega) (by omega),iC (by omega) (by omega)]
   rw [w]
   refine ⟨_,rfl,⟨by omega,by omega,?_⟩,by simp only [List.all_cons,hd,Bool.true_and,val,List.foldl_cons]⟩
   rw [show k+1 - a=(k - a)+1 by omega,Nat.pow_succ]
   omega
  ·right
   have hd':dig s[k]=false:=by simpa using hd
   simp only [List.all_cons,hd',Bool.false_and,Bool.not_false,if_pos];rfl
 ·simp only [pL,cN]
  simp [val]
theorem c48 (c:UInt8):((c.toNat:Int) == 48)=decide (c=48):=by
 by_cases h:c=48
 ·subst h;rfl
 ·have:¬ c.toNat=48:=fun hh=>h (UInt8.toNat_inj.1 (by simpa using hh))
  simp [h];omega
theorem c45 (c:UInt8):((c.toNat:Int) == 45)=decide (c=45):=by
 by_cases h:c=45
 ·subst h;rfl
 ·have:¬ c.toNat=45:=fun hh=>h (UInt8.toNat_inj.1 (by simpa using hh))
  simp [h];omega
def in63 (r:Int × Bool):Bool:=r.2&&(decide (0<=r.1)&&decide (r.1<=63))
theorem in63_mk (n:Int) (b:Bool):in63 (n,b)=(b&&(decide (0<=n)&&decide (n<=63))):=rfl
theorem loop_map {β γ ρ:Type} {step:(List γ × Int)->Option ((List γ × Int) ⊕ ρ)} (xs:List β) (p:β->Bool) (f:β->γ) (r:ρ) (e:List γ->ρ)
  (h:∀ (k:Nat) out x,k < xs.length->out.length=k->ix xs (k:Int)=some x->step (out,(k:Int))=if p x=true then some (.inl (out++[f x],((k+1:Nat):Int))) else some (.inr r))
  (h':∀ out,step (out,(xs.length:Int))=some (.inr (e out))):loop step ([],0)=some (if xs.all p=true then e (xs.map f) else r):=by
 have:=aKm (step:=step) xs (fun k out=>(out,(k:Int))) (fun l out=>if l.all p=true then e (out++l.map f) else r) (fun k out=>out.length=k) (fun k a x l hk hx hI=>?_) (fun a _=>by simp [h']) (a:=[]) rfl
 ·simpa using this
 ·rw [h k a x hk hI hx]
  by_cases hp:p x=true
  ·left;exact ⟨a++[f x],by simp [hp],by simp [hI],by simp [hp]⟩
  ·right;simp [hp]
theorem zJ {β γ:Type} {ρ:Type} {step:(List γ × Int)->Option ((List γ × Int) ⊕ ρ)} (xs:List β) (f:β->γ) (e:List γ->ρ)
  (h:∀ (k:Nat) out x,k < xs.length->out.length=k->ix xs (k:Int)=some x->step (out,(k:Int))=some (.inl (out++[f x],((k+1:Nat):Int))))
  (h':∀ out,step (out,(xs.length:Int))=some (.inr (e out))):loop step ([],0)=some (e (xs.map f)):=by
 have:=aKm (step:=step) xs (fun k out=>(out,(k:Int))) (fun l out=>e (out++l.map f)) (fun k out=>out.length=k) (fun k a x l hk hx hI=>?_) (fun a _=>by simp [h']) (a:=[]) rfl
 ·simpa using this
 ·left;rw [h k a x hk hI hx];exact ⟨a++[f x],rfl,by simp [hI],by simp⟩
def isLab (s:bJ):Bool:=match (lW 40 s).2 with
 |none=>rD s
 |some r=>kI (lW 40 s).1&&((r.getLast? == some 41)&&((spl 44 r.dropLast).all aNR&&decide ((spl 44 r.dropLast).length<=2)))
theorem aCA (n a b:Int):nK n a b=some (decide (a<=n)&&decide (n<=b)):=by
 unfold nK;cases decide (a<=n)<;>rfl
theorem iS (n a b:Int):iD n a b=some (decide (a<=n)&&decide (n<=b)):=by
 unfold iD;cases decide (a<=n)<;>rfl
end Gv
namespace Gv
open Go
theorem itoa_one {c:UInt8} (h:dig c=true):Lib.itoa ((c.toNat:Int) - 48)=[c]:=by
 have hc:=(vI c).1 h
 unfold Lib.itoa
 rw [if_neg (by omega),Lib.decDigits_one (by omega),show 48+((c.toNat:Int) - 48).toNat=c.toNat by omega]
 simp
theorem itoa_two {c1 c2:UInt8} (h1:dig c1=true) (h2:dig c2=true) (h3:c1.toNat≠48):Lib.itoa (10 * ((c1.toNat:Int) - 48)+((c2.toNat:Int) - 48))=[c1,c2]:=by
 have a1:=(vI c1).1 h1
 have a2:=(vI c2).1 h2
 unfold Lib.itoa
 rw [if_neg (by omega),Lib.decDigits_two (by omega) (by omega)]
 have e1:48+(10 * ((c1.toNat:Int) - 48)+((c2.toNat:Int) - 48)).toNat / 10=c1.toNat:=by omega
 have e2:48+(10 * ((c1.toNat:Int) - 48)+((c2.toNat:Int) - 48)).toNat % 10=c2.toNat:=by omega
 rw [e1,e2]
 simp
theorem aMz {v:Int} (h0:0<=v) (h1:v<=63):aNR (Lib.itoa v)=true:=by
 unfold Lib.itoa
 rw [if_neg (by omega)]
 have ofn:∀ n:Nat,n < 10->(UInt8.ofNat (48+n)).toNat=48+n:=by intro n hn;simp;omega
 have dg:∀ n:Nat,n < 10->dig (UInt8.ofNat (48+n))=true:=by intro n hn;rw [vI,ofn n hn];omega
 by_cases h:v.toNat < 10
 ·rw [Lib.decDigits_one h]
  exact dg _ h
 ·rw [Lib.decDigits_two h (by omega)]
  simp only [aNR,dg (v.toNat / 10) (by omega),dg (v.toNat % 10) (by omega),ofn (v.toNat / 10) (by omega),ofn (v.toNat % 10) (by omega),Bool.true_and,Bool.and_eq_true,decide_eq_true_eq]
  omega
theorem parse_one {c:UInt8} (h:dig c=true):Lib.parseIntB 64 [c]=.ok ((c.toNat:Int) - 48):=by
 have hc:=(vI c).1 h
 have e1:¬ (c.toNat=43\/c.toNat=45):=by omega
 have e2:¬ c.toNat=45:=by omega
 simp only [Lib.parseIntB,if_neg e1,Lib.parseUintB,Lib.parseUintM,if_pos hc]
 rw [if_neg (by simp),if_neg (by omega),if_neg (by omega)]
 simp only
 rw [if_neg (by omega),if_neg (by omega),if_neg e2]
 congr 1;omega
theorem parse_two {c1 c2:UInt8} (h1:dig c1=true) (h2:dig c2=true):Lib.parseIntB 64 [c1,c2]=.ok (10 * ((c1.toNat:Int) - 48)+((c2.toNat:Int) - 48)):=by
 have a1:=(vI c1).1 h1
 have a2:=(vI c2).1 h2
 have e1:¬ (c1.toNat=43\/c1.toNat=45):=by omega
 have e2:¬ c1.toNat=45:=by omega
 simp only [Lib.parseIntB,if_neg e1,Lib.parseUintB,Lib.parseUintM,if_pos a1,if_pos a2]
 rw [if_neg (by simp),if_neg (by omega),if_neg (by omega),if_neg (by omega),if_neg (by omega)]
 simp only
 rw [if_neg (by omega),if_neg (by omega),if_neg e2]
 congr 1;omega
theorem aMA {s:bJ} (h:(jM s).2=true):Lib.itoa (jM s).1=s:=by
 unfold jM at h ⊢
 by_cases h18:(bare s).length > 18
 ·rw [if_pos h18] at h;cases h
 ·rw [if_neg h18] at h ⊢
  revert h
  generalize Lib.parseIntB 64 s=q
  intro h
  split at h
  ·rename_i v
   by_cases e:Lib.itoa v=s
   ·rw [if_pos e];exact e
   ·rw [if_neg e] at h;cases h
  ·cases h
theorem aMB {s:bJ}:(bare s).length<=s.length:=by
 unfold bare;split<;>simp
theorem aQT (s:bJ):in63 (jM s)=aNR s:=by
 cases hn:aNR s with
 |true=>
  rcases s with _|⟨c1,_|⟨c2,_|⟨c3,r⟩⟩⟩
  ·cases hn
  ·have h1:dig c1=true:=hn
   have hc:=(vI c1).1 h1
   have:jM [c1]=((c1.toNat:Int) - 48,true):=by
    unfold jM
    rw [if_neg,parse_one h1]
    ·simp only;rw [if_pos (itoa_one h1)]
    ·have:=aMB (s:=[c1]);simp at this;omega
   rw [this,in63_mk,decide_eq_true (p:=(0:Int)<=(c1.toNat:Int) - 48) (by omega),decide_eq_true (p:=(c1.toNat:Int) - 48<=63) (by omega)];rfl
  ·simp only [aNR,Bool.and_eq_true,decide_eq_true_eq] at hn
   obtain ⟨⟨⟨h1,h2⟩,h3⟩,h4⟩:=hn
   have a1:=(vI c1).1 h1
   have a2:=(vI c2).1 h2
   have:jM [c1,c2]=(10 * ((c1.toNat:Int) - 48)+((c2.toNat:Int) - 48),true):=by
    unfold jM
    rw [if_neg,parse_two h1 h2]
    ·simp only;rw [if_pos (itoa_two h1 h2 h3)]
    ·have:=aMB (s:=[c1,c2]);simp at this;omega
   rw [this,in63_mk,decide_eq_true (p:=(0:Int)<=10 * ((c1.toNat:Int) - 48)+((c2.toNat:Int) - 48)) (by omega),decide_eq_true (p:=10 * ((c1.toNat:Int) - 48)+((c2.toNat:Int) - 48)<=63) (by omega)];rfl
  ·cases hn
 |false=>
  cases hi:in63 (jM s) with
  |false=>rfl
  |true=>
   unfold in63 at hi
   simp only [Bool.and_eq_true,decide_eq_true_eq] at hi
   have:=aMz hi.2.1 hi.2.2
   rw [aMA hi.1,hn] at this
   cases this
theorem aKn {s:bJ} (h:s.length < 1000000000):vS s=some (jM s):=by
 unfold vS;rw [if_pos (by simp [jN];omega)]
theorem vJ {β:Type} {step:Int->Option (Int ⊕ (Unit ⊕ Int))} (xs:List β) (p:β->Bool)
  (h:∀ (k:Nat) x,k < xs.length->ix xs (k:Int)=some x->step (k:Int)=if p x=true then some (.inr (.inr (k:Int))) else some (.inl ((k+1:Nat):Int)))
  (h':step (xs.length:Int)=some (.inr (.inl ()))):loop step 0=some (match xs.findIdx? p with|none=>.inl ()|some i=>.inr (i:Int)):=by
 have:=aBa (step:=step) xs.length (fun k (_:Unit)=>(k:Int)) (fun k _=>match (xs.drop k).findIdx? p with|none=>.inl ()|some i=>.inr ((k+i:Nat):Int)) (fun _ _=>True) (fun k a hk _=>?_) (fun a _=>?_) xs.length 0 () (by omega) trivial
 ·simpa using this
 ·rw [List.drop_eq_getElem_cons hk,h k _ hk (cZ hk)]
  by_cases hp:p xs[k]=true
  ·right;simp only [List.findIdx?_cons,hp,if_pos];rfl
  ·left
   refine ⟨(),by rw [if_neg hp],trivial,?_⟩
   simp only [List.findIdx?_cons,hp]
   cases (xs.drop (k+1)).findIdx? p with
   |none=>rfl
   |some i=>simp only [Bool.false_eq_true,if_false,Option.map_some];congr 2;omega
 ·rw [h'];simp
theorem aHq {β:Type} (xs:List β) (p:β->Bool):(xs.findIdx? p).isSome=xs.any p:=by
 rw [List.findIdx?_isSome]
def pos {α:Type} [BEq α] (xs:List α) (v:α):Int:=match xs.findIdx? (fun x=>v == x) with|none=>-1|some i=>(i:Int)
theorem Index_str (xs:List bJ) (v:bJ) (h:xs.length < 4611686018427387904):gK xs v=some (pos xs v):=by
 unfold gK pos
 rw [vJ (step:=fun s=>fU xs v s) xs (fun x=>v == x) (fun k x hk hx=>by simp only [fU,cR hk,if_pos,hx,aE,cO hk h]) (by simp only [fU,cN];rfl),aE]
 cases xs.findIdx? (fun x=>v == x)<;>rfl
theorem pos_any {α:Type} [BEq α] (xs:List α) (v:α):decide (0<=pos xs v)=xs.any (fun x=>v == x):=by
 rw [←aHq];unfold pos
 cases xs.findIdx? (fun x=>v == x) with
 |none=>rfl
 |some i=>simp
theorem aON (xs:List bJ) (v:bJ) (h:xs.length < 4611686018427387904):dJ xs v=some (xs.any (fun x=>v == x)):=by
 unfold dJ;rw [Index_str xs v h,aE,pos_any]
def oQ (v:Int):Bool:=decide (0<=v)&&decide (v<=63)
theorem aJx (xs:List Int) (h:xs.length < 4611686018427387904):yZ xs=some (xs.all oQ):=by
 unfold yZ gM gX
 rw [vJ (step:=fun s=>fO xs s) xs (fun x=>!oQ x) (fun k x hk hx=>by
  simp only [fO,cR hk,if_pos,hx,aE,cO hk h,aAI,aBl,iS];rfl) (by simp only [fO,cN];rfl),aE]
 have:=aHq xs (fun x=>!oQ x)
 have e:(xs.any fun x=>!oQ x)=!xs.all oQ:=by simp [List.any_eq_not_all_not]
 rw [e] at this
 cases hf:xs.findIdx? (fun x=>!oQ x) with
 |none=>rw [hf] at this;simp only [Option.isSome_none] at this;cases hx:xs.all oQ<;>rw [hx] at this<;>first|rfl|cases this
 |some i=>
  rw [hf] at this;simp only [Option.isSome_some] at this
  simp only [aE]
  rw [decide_eq_true (p:=(0:Int)<=(i:Int)) (by omega)]
  cases hx:xs.all oQ<;>rw [hx] at this<;>first|rfl|cases this
theorem aNS (xs:List Int) (sep:bJ) (h1:xs.length < 1000000000) (h2:∀ x∈xs,-9223372036854775808<=x/\x<=9223372036854775807) (h3:(Lib.join (xs.map Lib.itoa) sep).length < jN):aDS xs sep=some (Lib.join (xs.map Lib.itoa) sep):=by
 unfold aDS
 rw [aOM _ (by simp [jN];omega),aE]
 have hl:(xs.map Lib.itoa).length=xs.length:=by simp
 have:=aEf (step:=fun s:List bJ × Int=>aCs xs s.1 s.2) (a:=xs.map Lib.itoa) (z:=([]:bJ)) (fun k out x hk ho hx=>?_) (fun out=>by simp only [aCs,hl,cN];rfl)
 ·rw [hl] at this
  rw [this,aE]
  unfold aCr aJS
  rw [if_pos ⟨by simp [jN];omega,h3⟩];rfl
 ·rw [hl] at hk ho
  have hx':x=Lib.itoa xs[k]:=by rw [cZ (by simpa using hk)] at hx;simpa using hx.symm
  have hb:=h2 xs[k] (List.getElem_mem hk)
  have hd:mO xs[k]=some (Lib.itoa xs[k]):=by unfold mO;rw [if_pos hb]
  simp only [aCs,cR hk,if_pos,cZ hk,aE,hd,cZ (xs:=out) (k:=k) (by omega),xC (xs:=out) (k:=k) _ (by omega),cO hk (show xs.length < _ by omega),hx']
theorem aMC (xs:List bJ) (h:xs.length < 1000000000) (h2:∀ x∈xs,x.length < 1000000000):wS xs=some (if xs.all (fun s=>(jM s).2)=true then (xs.map (fun s=>(jM s).1),true) else ([],false)):=by
 unfold wS
 rw [loop_map (step:=fun s:List Int × Int=>pX xs s.1 s.2) xs (fun s=>(jM s).2) (fun s=>(jM s).1) (.inr ([],false)) .inl (fun k out x hk ho hx=>?_) (fun out=>by simp only [pX,cN];rfl),aE]
 ·by_cases h:xs.all (fun s=>(jM s).2)=true
  ·rw [if_pos h,if_pos h];rfl
  ·rw [if_neg h,if_neg h]
 ·obtain ⟨hk',rfl⟩:=ix_get hx
  have hx2:=h2 _ (List.getElem_mem hk')
  simp only [pX,cR hk,if_pos,hx,aE,aKn hx2,cO hk (show xs.length < 4611686018427387904 by omega)]
  rw [iR (by simp [jN,ho];omega),aE]
  cases (jM xs[k]).2<;>simp
theorem aNh (s:bJ) (h:s.length < 1000000000):lK s [41]=some (if (s.getLast? == some 41)=true then s.dropLast else s):=by
 unfold lK gZ iE
 rcases List.eq_nil_or_concat s with rfl|⟨l,c,rfl⟩
 ·rfl
 ·have hl:(l.concat c).length=l.length+1:=by simp
  have w:wr (((l.concat c).length:Int) - (([41]:bJ).length:Int))=(l.length:Int):=by
   rw [hl] at h ⊢
   show wr (((l.length+1:Nat):Int) - 1)=_
   rw [iC (by omega) (by omega)];omega
  have s1:slc (l.concat c) (l.length:Int) ((l.concat c).length:Int)=some [c]:=by
   unfold slc;rw [if_pos ⟨by omega,by omega,by simp⟩];simp
  have s2:slc (l.concat c) 0 (l.length:Int)=some l:=by
   unfold slc;rw [if_pos ⟨by omega,by omega,by simp⟩];simp
  rw [if_pos (by simp;omega),w,s1,aE,fR,aE]
  have hg:(l.concat c).getLast?=some c:=by simp
  have hd:(l.concat c).dropLast=l:=by simp
  rw [hg,hd]
  by_cases hc:c=41
  ·subst hc
   rw [if_pos (by simp),s2];simp
  ·rw [if_neg (by simpa using hc)]
   simp [hc]
theorem aQU (name:bJ) (vs:List Int) (h1:name.length < 1000000000) (h2:vs.length < 1000000000) (h4:(Lib.join (vs.map Lib.itoa) [44]).length < 1000000000):
  zD name vs=some (if name=iT then (iT,vs.length == 0) else if kI name=true/\vs.length<=2/\vs.all oQ=true then (if vs.length=0 then name else name++[40]++Lib.join (vs.map Lib.itoa) [44]++[41],true) else ([],false)):=by
 unfold zD
 by_cases hn:name=iT
 ·rw [if_pos (by simpa [iT] using hn),if_pos hn]
  simp only [iT,Option.some.injEq,Prod.mk.injEq,true_and]
  cases vs<;>simp;omega
 ·rw [if_neg (by simpa [iT] using hn),if_neg hn,zH name (by omega),aE]
  by_cases ha:kI name=true
  ·rw [if_neg (by simp [ha])]
   by_cases h3:vs.length<=2
   ·rw [if_neg (by simp;omega),aJx vs (by omega),aE]
    by_cases hv:vs.all oQ=true
    ·rw [if_pos ⟨ha,h3,hv⟩]
     simp only [hv,vA,Bool.not_true,Bool.false_eq_true,if_false]
     by_cases h0:vs.length=0
     ·rw [if_pos (by simp [h0]),if_pos h0]
     ·rw [if_neg (by simpa using h0),if_neg h0,lA (by simp [jN];omega),aE,aNS vs _ h2 (fun x hx=>by
       have:=List.all_eq_true.1 hv x hx
       simp only [oQ,Bool.and_eq_true,decide_eq_true_eq] at this
       omega) (by simp only [jN];omega),aE,lA (by simp only [List.length_append,jN,List.length_singleton];omega),aE,lA (by simp only [List.length_append,jN,List.length_singleton];omega),aE]
    ·rw [if_neg (fun h=>hv h.2.2)]
     have:vs.all oQ=false:=by simpa using hv
     rw [this];rfl
   ·rw [if_pos (by simp;omega),if_neg (fun h=>h3 h.2.1)];rfl
  ·rw [if_pos (by simp [ha]),if_neg (fun h=>ha h.1)];rfl
end Gv
namespace Gv
open Go
noncomputable def cl (P:Prop):Bool:=@decide P (Classical.propDecidable P)
theorem aEg {P:Prop}:cl P=true<->P:=by unfold cl;exact @decide_eq_true_iff P (Classical.propDecidable P)
theorem aIh {P:Prop} (h:P):cl P=true:=aEg.2 h
theorem aEn {P:Prop} (h:¬ P):cl P=false:=by cases hx:cl P with|false=>rfl|true=>exact absurd (aEg.1 hx) h
theorem cl_of {P:Prop} {b:Bool} (h:b=true<->P):cl P=b:=by
 cases b with
 |true=>exact aIh (h.1 rfl)
 |false=>exact aEn fun hp=>by have:=h.2 hp;cases this
theorem aDz {ρ:Type} {step:Int->Option (Int ⊕ ρ)} (n k0:Nat) (P:Nat->Prop) (r e:ρ) (hk:k0<=n)
  (h:∀ (k:Nat),k0<=k->k < n->step (k:Int)=if cl (P k)=true then some (.inl ((k+1:Nat):Int)) else some (.inr r))
  (h':step (n:Int)=some (.inr e)):loop step (k0:Int)=some (if cl (∀ k,k0<=k->k < n->P k)=true then e else r):=by
 obtain ⟨b,h1,h2⟩:=aDy (step:=step) n k0 (fun k=>cl (P k)) r e hk h h'
 rw [h2,cl_of (b:=b) (by rw [h1];simp only [aEg])]
theorem aBr:∀ a:bJ,qF a a=false
 |[]=>rfl
 |c::r=>by unfold qF;simp [aBr r]
theorem aOO:∀ a b:bJ,qF a b=true\/a=b\/qF b a=true
 |[],[]=>.inr (.inl rfl)
 |[],_::_=>.inl rfl
 |_::_,[]=>.inr (.inr rfl)
 |c::r,d::q=>by
  unfold qF
  rcases Nat.lt_trichotomy c.toNat d.toNat with h|h|h
  ·left;simp [UInt8.lt_iff_toNat_lt,h]
  ·have:c=d:=UInt8.toNat_inj.1 h
   subst this
   rcases aOO r q with h|h|h
   ·left;simp [h]
   ·right;left;rw [h]
   ·right;right;simp [h]
  ·right;right;simp [UInt8.lt_iff_toNat_lt,h]
theorem aHK:∀ {a b c:bJ},qF a b=true->qF b c=true->qF a c=true
 |[],[],_,h,_=>by cases h
 |[],_::_,[],_,h=>by cases h
 |[],_::_,_::_,_,_=>rfl
 |_::_,[],_,h,_=>by cases h
 |_::_,_::_,[],_,h=>by cases h
 |c::r,d::q,e::p,h1,h2=>by
  unfold qF at h1 h2 ⊢
  simp only [Bool.or_eq_true,Bool.and_eq_true,decide_eq_true_eq,beq_iff_eq,UInt8.lt_iff_toNat_lt] at h1 h2 ⊢
  rcases h1 with h1|⟨h1,g1⟩<;>rcases h2 with h2|⟨h2,g2⟩
  ·left;omega
  ·left;rw [←h2];exact h1
  ·left;rw [h1];exact h2
  ·right;exact ⟨h1.trans h2,aHK g1 g2⟩
theorem aNT {a b:bJ} (h:qF a b=true):qF b a=false:=by
 cases hx:qF b a with
 |false=>rfl
 |true=>have:=aHK h hx;rw [aBr] at this;cases this
theorem ltB_ge (a b:bJ):(qF b a||b == a)=!qF a b:=by
 rcases aOO a b with h|h|h
 ·rw [h,aNT h]
  have:¬ b=a:=by intro e;subst e;rw [aBr] at h;cases h
  simp [this]
 ·subst h;simp [aBr]
 ·rw [h,aNT h];rfl
def SetOk (xs:List bJ):Prop:=(∀ s∈xs,isLab s=true/\s≠iT)/\∀ k,1<=k->(hk:k < xs.length)->qF (xs[k - 1]'(by omega)) xs[k]=true
end Gv
