/- Loops over lists, in plain Lean; the measures, copies, comparisons and marks of the laws. -/
import Derived.Test.YtnelhgfdoneljaaGreatDoorJMd
set_option linter.all false
namespace Gv
theorem aAP {σ ρ α:Type} {step:σ->Option (σ ⊕ ρ)} (n:Nat) (g:Nat->α->σ) (F:Nat->α->ρ) (I:Nat->α->Prop)
  (h:∀ k a,k < n->I k a->(∃ a',step (g k a)=some (.inl (g (k+1) a'))/\I (k+1) a'/\F (k+1) a'=F k a)\/step (g k a)=some (.inr (F k a)))
  (h':∀ a,I n a->step (g n a)=some (.inr (F n a))):∀ j k a,k+j=n->I k a->loop step (g k a)=some (F k a)
 |0,k,a,e,hI=>by
  obtain rfl:k=n:=by omega
  rw [cB,h' a hI]
 |j+1,k,a,e,hI=>by
  rcases h k a (by omega) hI with ⟨a',h1,h2,h3⟩|h1
  ·rw [cB,h1,←h3]
   exact aAP n g F I h h' j (k+1) a' (by omega) h2
  ·rw [cB,h1]
theorem aAV {σ ρ α β:Type} {step:σ->Option (σ ⊕ ρ)} (xs:List β) (g:Nat->α->σ) (go:List β->α->ρ) (I:Nat->α->Prop)
  (h:∀ k a x l,k < xs.length->ix xs (k:Int)=some x->I k a->(∃ a',step (g k a)=some (.inl (g (k+1) a'))/\I (k+1) a'/\go l a'=go (x::l) a)\/step (g k a)=some (.inr (go (x::l) a)))
  (h':∀ a,I xs.length a->step (g xs.length a)=some (.inr (go [] a))) {a:α} (hI:I 0 a):loop step (g 0 a)=some (go xs a):=by
 have:=aAP (step:=step) xs.length g (fun k a=>go (xs.drop k) a) I (fun k a hk hI=>?_) (fun a hI=>?_) xs.length 0 a (by omega) hI
 ·simpa using this
 ·have hx:ix xs (k:Int)=some xs[k]:=by rw [aBb];simp [hk]
  have:=h k a xs[k] (xs.drop (k+1)) hk hx hI
  rw [show xs.drop k=xs[k]::xs.drop (k+1) from List.drop_eq_getElem_cons hk]
  exact this
 ·simpa using h' a hI
theorem bI {k n:Nat} (h:k < n) (hn:n < 4611686018427387904):wr ((k:Int)+1)=((k+1:Nat):Int):=by unfold wr;omega
theorem bU {k n:Nat} (h:k < n):decide ((k:Int) < (n:Int))=true:=by simp;omega
theorem fI {n:Nat}:decide ((n:Int) < (n:Int))=false:=by simp
theorem aIL {ρ:Type} {β:Type} {step:Int->Option (Int ⊕ ρ)} (xs:List β) (p:β->Bool) (r e:ρ)
  (h:∀ (k:Nat) x,k < xs.length->ix xs (k:Int)=some x->step (k:Int)=if p x=true then some (.inl ((k+1:Nat):Int)) else some (.inr r))
  (h':step (xs.length:Int)=some (.inr e)):loop step 0=some (if xs.all p=true then e else r):=by
 have:=aAV (step:=step) xs (fun k (_:Unit)=>(k:Int)) (fun l _=>if l.all p=true then e else r) (fun _ _=>True) (fun k a x l hk hx _=>?_) (fun a _=>by simpa using h') (a:=()) trivial
 ·exact this
 ·rw [h k x hk hx]
  by_cases hp:p x=true
  ·left;exact ⟨(),by simp [hp],trivial,by simp [hp]⟩
  ·right;simp [hp]
theorem aKd {ρ:Type} {step:Int->Option (Int ⊕ ρ)} (n k0:Nat) (p:Nat->Bool) (r e:ρ) (hk:k0<=n)
  (h:∀ (k:Nat),k0<=k->k < n->step (k:Int)=if p k=true then some (.inl ((k+1:Nat):Int)) else some (.inr r))
  (h':step (n:Int)=some (.inr e)):∃ b:Bool,(b=true<->∀ k,k0<=k->k < n->p k=true)/\loop step (k0:Int)=some (if b=true then e else r):=by
 classical
 refine ⟨decide (∀ k,k0<=k->k < n->p k=true),by simp,?_⟩
 have:=aAP (step:=step) n (fun k (_:Unit)=>(k:Int)) (fun k0 _=>if (∀ k,k0<=k->k < n->p k=true) then e else r) (fun k _=>k0<=k) (fun k a hk hI=>?_) (fun a _=>?_) (n - k0) k0 () (by omega) (Nat.le_refl _)
 ·simpa using this
 ·rw [h k hI hk]
  by_cases hp:p k=true
  ·left
   refine ⟨(),by simp [hp],by omega,?_⟩
   have:(∀ j,k+1<=j->j < n->p j=true)<->(∀ j,k<=j->j < n->p j=true):=by
    constructor
    ·intro h j h1 h2
     by_cases e:j=k
     ·subst e;exact hp
     ·exact h j (by omega) h2
    ·intro h j h1 h2;exact h j (by omega) h2
   simp only [this]
  ·right
   rw [if_neg hp,if_neg (fun h=>hp (h k (Nat.le_refl _) hk))]
 ·rw [h',if_pos (by omega)]
def sz:Nat:=1048576
theorem aGb {α:Type} {xs:List α} {k:Nat} {x:α} (h:ix xs (k:Int)=some x):∃ hk:k < xs.length,xs[k]=x:=by
 rw [aBb] at h;exact List.getElem?_eq_some_iff.1 h
def aAQ (n:Nat) (t:bQ):Prop:=t.L.length<=n/\(∀ s∈t.L,s.length<=n)/\t.E.length<=n
theorem aIM {β:Type} {z:β} {step:(List β × Int)->Option ((List β × Int) ⊕ List β)} {a:List β}
  (h:∀ (k:Nat) out x,k < a.length->out.length=a.length->ix a (k:Int)=some x->step (out,(k:Int))=some (.inl (out.set k x,((k+1:Nat):Int))))
  (h':∀ out,step (out,(a.length:Int))=some (.inr out)):loop step (List.replicate a.length z,0)=some a:=by
 have:=aAP (step:=step) a.length (fun k out=>(out,(k:Int))) (fun _ _=>a) (fun k out=>out.length=a.length/\out.take k=a.take k) (fun k out hk hI=>?_) (fun out hI=>?_) a.length 0 (List.replicate a.length z) (by omega) ⟨by simp,by simp⟩
 ·exact this
 ·left
  have hx:ix a (k:Int)=some a[k]:=by rw [aBb];simp [hk]
  refine ⟨_,h k out a[k] hk hI.1 hx,⟨by simp [hI.1],?_⟩,rfl⟩
  rw [List.take_add_one,List.take_add_one,List.take_set_of_le (Nat.le_refl _),hI.2]
  simp [hk,hI.1]
 ·rw [h']
  have h1:=hI.2
  rw [List.take_of_length_le (by omega),List.take_of_length_le (by omega)] at h1
  rw [h1]
theorem xZ {α:Type} {n:Nat} (z:α) (h:n<=gQ):mkz (n:Int) z=some (List.replicate n z):=by
 unfold mkz;rw [if_pos ⟨by omega,by simpa using h⟩];simp
theorem oD {α:Type} {xs:List α} {k:Nat} (v:α) (h:k < xs.length):st xs (k:Int) v=some (xs.set k v):=by
 unfold st;rw [if_pos ⟨by omega,by simpa using h⟩];simp
theorem bK {α:Type} {xs:List α} {k:Nat} (h:k < xs.length):ix xs (k:Int)=some xs[k]:=by rw [aBb];simp [h]
theorem cE {α:Type} {xs ys:List α} (h:xs.length+ys.length<=gQ):qH xs ys=some (xs++ys):=if_pos h
theorem cat_of {xs ys:List UInt8} (h:xs.length+ys.length<=gQ):cat xs ys=some (xs++ys):=if_pos h
end Gv
namespace Gv
open Go
def low (c:UInt8):Bool:=decide (97<=c.toNat)&&decide (c.toNat<=122)
def dig (c:UInt8):Bool:=decide (48<=c.toNat)&&decide (c.toNat<=57)
theorem dig_eq {f:Bool->Option Bool} (c:UInt8) (hf:∀ b,f b=some b):(if (decide (48<=(c.toNat:Int))) then (f (decide ((c.toNat:Int)<=57))) else (f false))=some (dig c):=by
 unfold dig
 have e1:decide ((48:Int)<=(c.toNat:Int))=decide (48<=c.toNat):=decide_eq_decide.2 (by omega)
 have e2:decide ((c.toNat:Int)<=(57:Int))=decide (c.toNat<=57):=decide_eq_decide.2 (by omega)
 rw [e1,e2,hf,hf]
 cases decide (48<=c.toNat)<;>rfl
theorem aMR (c:UInt8):aFh c=some (dig c):=dig_eq c fun _=>rfl
def isNm:aQ->Bool
 |[]=>false
 |c::r=>low c&&(r.all fun c=>low c||dig c)&&decide (r.length < 10)
theorem IsName_eq (s:aQ) (h:s.length < 4611686018427387904):aEo s=some (isNm s):=by
 unfold aEo
 have h0:∃ b:Bool,(b=true<->∀ k,0<=k->k < s.length->(s[k]?.map fun c=>low c||(decide (k≠0)&&dig c))=some true)/\loop (fun t=>vH s t) ((0:Nat):Int)=some (if b=true then .inl () else .inr false):=by
  have hA:=aKd (step:=fun t=>vH s t) s.length 0 (fun k=>(s[k]?.map fun c=>low c||(decide (k≠0)&&dig c)) == some true) (.inr false) (.inl ()) (Nat.zero_le _) (fun k _ hk=>?_) (by simp only [vH,fI];rfl)
  ·obtain ⟨b,h1,h2⟩:=hA
   exact ⟨b,by simpa using h1,h2⟩
  ·have hl:(if (decide (97<=(s[k].toNat:Int))) then (pE s k (decide ((s[k].toNat:Int)<=122))) else (pE s k false))=pE s k (low s[k]):=by
    have e1:decide ((97:Int)<=(s[k].toNat:Int))=decide (97<=s[k].toNat):=decide_eq_decide.2 (by omega)
    have e2:decide ((s[k].toNat:Int)<=(122:Int))=decide (s[k].toNat<=122):=decide_eq_decide.2 (by omega)
    rw [e1,e2];unfold low
    cases decide (97<=s[k].toNat)<;>rfl
   simp only [vH,bU hk,if_pos,bK hk,aA,hl]
   unfold pE
   have e1:((k:Int) == 0)=!decide (k≠0):=by by_cases e:k=0<;>simp [e]
   simp only [bK hk,aA,aMR,yV,bI hk h,List.getElem?_eq_getElem hk,Option.map_some,e1]
   generalize decide (k≠0)=d
   generalize low s[k]=x
   generalize dig s[k]=y
   cases d<;>cases x<;>cases y<;>rfl
 obtain ⟨b,hb,hl⟩:=h0
 rw [show (0:Int)=((0:Nat):Int) from rfl,hl,aA]
 cases s with
 |nil=>
  have:b=true:=hb.2 (by simp)
  subst this;rfl
 |cons c r=>
  have key:b=true<->(low c=true/\(r.all fun c=>low c||dig c)=true):=by
   rw [hb]
   constructor
   ·intro hh
    refine ⟨by simpa using hh 0 (Nat.le_refl _) (by simp),?_⟩
    rw [List.all_eq_true]
    intro x hx
    obtain ⟨k,hk,rfl⟩:=List.mem_iff_getElem.1 hx
    have:=hh (k+1) (Nat.zero_le _) (by simp;omega)
    simpa [hk] using this
   ·rintro ⟨h1,h2⟩ k _ hk
    cases k with
    |zero=>simp [h1]
    |succ k=>
     have hk':k < r.length:=by simpa using hk
     have:=List.all_eq_true.1 h2 r[k] (List.getElem_mem hk')
     simpa [hk'] using this
  by_cases hbt:b=true
  ·obtain ⟨h1,h2⟩:=key.1 hbt
   subst hbt
   simp only [if_pos,aCd,isNm,h1,h2,Bool.true_and]
   have e1:decide ((1:Int)<=(List.length (c::r):Int))=true:=by simp only [List.length_cons,decide_eq_true_eq];omega
   have e2:decide ((List.length (c::r):Int)<=10)=decide (r.length < 10):=decide_eq_decide.2 (by simp only [List.length_cons];omega)
   rw [e1,e2];rfl
  ·rw [if_neg hbt]
   have h3:¬ (low c=true/\(r.all fun c=>low c||dig c)=true):=fun h=>hbt (key.2 h)
   have h4:(low c&&(r.all fun c=>low c||dig c))=false:=by
    cases h1:low c<;>cases h2:(r.all fun c=>low c||dig c)<;>simp_all
   simp [isNm,h4]
def aDp (s:aQ):Bool:=isNm s&&!(s == cI)
theorem aHN (s:aQ) (h:s.length < 4611686018427387904):xK s=some (aDp s):=by
 unfold xK aDp
 rw [IsName_eq s h,aA]
 cases isNm s<;>simp [yH,cI]
def lG (b:UInt8):aQ->aQ × Option aQ
 |[]=>([],none)
 |c::r=>if c == b then ([],some r) else (c::(lG b r).1,(lG b r).2)
theorem cut_eq (b:UInt8) (s:aQ):Lib.cut s [b]=((lG b s).1,(lG b s).2.getD [],(lG b s).2.isSome):=by
 have hi:∀ s:aQ,(0<=Lib.index s [b]/\s.take (Lib.index s [b]).toNat=(lG b s).1/\(lG b s).2=some (s.drop ((Lib.index s [b]).toNat+1)))\/(Lib.index s [b]=-1/\lG b s=(s,none)):=by
  intro s
  rw [Lib.index_one]
  induction s with
  |nil=>right;exact ⟨rfl,rfl⟩
  |cons c r ih=>
   unfold Lib.indexByte lG
   by_cases hc:(c == b)=true
   ·left;rw [if_pos hc,if_pos hc];simp
   ·rw [if_neg hc,if_neg hc]
    rcases ih with ⟨h1,h2,h3⟩|⟨h1,h2⟩
    ·left
     rw [if_neg (by simp;omega)]
     have e:(Lib.indexByte r b+1).toNat=(Lib.indexByte r b).toNat+1:=by omega
     rw [e]
     exact ⟨by omega,by simp [h2],by simp [h3]⟩
    ·right
     rw [if_pos (by simp [h1]),h2]
     exact ⟨rfl,rfl⟩
 unfold Lib.cut
 rcases hi s with ⟨h1,h2,h3⟩|⟨h1,h2⟩
 ·rw [if_pos h1,h2,h3];simp
 ·rw [if_neg (by omega),h2];rfl
theorem aHs (b:UInt8) (s:aQ):s=(lG b s).1++match (lG b s).2 with|none=>[]|some r=>b::r:=by
 induction s with
 |nil=>rfl
 |cons c r ih=>
  unfold lG
  by_cases hc:(c == b)=true
  ·rw [if_pos hc];simp at hc;simp [hc]
  ·rw [if_neg hc];simp only [List.cons_append];rw [←ih]
def spl (b:UInt8):aQ->List aQ
 |[]=>[[]]
 |c::r=>if c == b then []::spl b r else match spl b r with
  |[]=>[[c]]
  |h::t=>(c::h)::t
theorem aGN (b c:UInt8) (r:aQ):spl b (c::r)=if c == b then []::spl b r else match spl b r with|[]=>[[c]]|h::t=>(c::h)::t:=rfl
theorem aMU (b c:UInt8) (r:aQ):lG b (c::r)=if c == b then ([],some r) else (c::(lG b r).1,(lG b r).2):=rfl
theorem spl_ne (b:UInt8) (s:aQ):spl b s≠[]:=by
 cases s with
 |nil=>simp [spl]
 |cons c r=>
  rw [aGN]
  split
  ·simp
  ·split<;>simp
theorem spl_cut (b:UInt8) (s:aQ):spl b s=match (lG b s).2 with|none=>[(lG b s).1]|some r=>(lG b s).1::spl b r:=by
 induction s with
 |nil=>rfl
 |cons c r ih=>
  rw [aGN,aMU]
  by_cases hc:(c == b)=true
  ·rw [if_pos hc,if_pos hc]
  ·rw [if_neg hc,if_neg hc,ih]
   simp only
   cases (lG b r).2<;>rfl
theorem spl_join (b:UInt8) (s:aQ):Lib.join (spl b s) [b]=s:=by
 induction s with
 |nil=>rfl
 |cons c r ih=>
  rw [aGN]
  cases hs:spl b r with
  |nil=>exact absurd hs (spl_ne b r)
  |cons h t=>
   rw [hs] at ih
   rw [Lib.join_cons] at ih
   by_cases hc:(c == b)=true
   ·rw [if_pos hc,Lib.join_cons]
    simp at hc
    subst hc
    rw [←ih];simp [Lib.joinTail]
   ·rw [if_neg hc]
    simp only
    rw [Lib.join_cons,←ih];simp
theorem aKe (b:UInt8):∀ (n:Nat) (s:aQ),s.length<=n->aBe [b] n s=spl b s
 |0,s,h=>by
  obtain rfl:s=[]:=List.length_eq_zero_iff.1 (by omega)
  rfl
 |n+1,s,h=>by
  unfold aBe
  rw [cut_eq,spl_cut]
  have ha:=aHs b s
  cases hc:(lG b s).2 with
  |none=>rw [hc] at ha;simp at ha;simp [←ha]
  |some r=>
   rw [hc] at ha
   have:s.length=((lG b s).1++b::r).length:=congrArg List.length ha
   simp at this
   simp only [Option.isSome_some,Option.getD_some]
   rw [aKe b n r (by omega)]
end Gv
namespace Gv
open Go
def aFO:aQ->Bool
 |[c]=>dig c
 |[c1,c2]=>dig c1&&dig c2&&decide (c1.toNat≠48)&&decide (10 * (c1.toNat - 48)+(c2.toNat - 48)<=63)
 |_=>false
theorem yR (c:UInt8):dig c=true<->48<=c.toNat/\c.toNat<=57:=by unfold dig;simp
def val (n:Int) (l:aQ):Int:=l.foldl (fun n c=>10 * n+((c.toNat:Int) - 48)) n
theorem c48 (c:UInt8):((c.toNat:Int) == 48)=decide (c=48):=by
 by_cases h:c=48
 ·subst h;rfl
 ·have:¬ c.toNat=48:=fun hh=>h (UInt8.toNat_inj.1 (by simpa using hh))
  simp [h];omega
theorem c45 (c:UInt8):((c.toNat:Int) == 45)=decide (c=45):=by
 by_cases h:c=45
 ·subst h;rfl
 ·have:¬ c.toNat=45:=fun hh=>h (UInt8.toNat_inj.1 (by simpa using hh))
  simp [h];omega
def in63 (r:Int × Bool):Bool:=r.2&&(decide (0<=r.1)&&decide (r.1<=63))
theorem in63_mk (n:Int) (b:Bool):in63 (n,b)=(b&&(decide (0<=n)&&decide (n<=63))):=rfl
theorem loop_map {β γ ρ:Type} {step:(List γ × Int)->Option ((List γ × Int) ⊕ ρ)} (xs:List β) (p:β->Bool) (f:β->γ) (r:ρ) (e:List γ->ρ)
  (h:∀ (k:Nat) out x,k < xs.length->out.length=k->ix xs (k:Int)=some x->step (out,(k:Int))=if p x=true then some (.inl (out++[f x],((k+1:Nat):Int))) else some (.inr r))
  (h':∀ out,step (out,(xs.length:Int))=some (.inr (e out))):loop step ([],0)=some (if xs.all p=true then e (xs.map f) else r):=by
 have:=aAV (step:=step) xs (fun k out=>(out,(k:Int))) (fun l out=>if l.all p=true then e (out++l.map f) else r) (fun k out=>out.length=k) (fun k a x l hk hx hI=>?_) (fun a _=>by simp [h']) (a:=[]) rfl
 ·simpa using this
 ·rw [h k a x hk hI hx]
  by_cases hp:p x=true
  ·left;exact ⟨a++[f x],by simp [hp],by simp [hI],by simp [hp]⟩
  ·right;simp [hp]
theorem aFl {β γ:Type} {ρ:Type} {step:(List γ × Int)->Option ((List γ × Int) ⊕ ρ)} (xs:List β) (f:β->γ) (e:List γ->ρ)
  (h:∀ (k:Nat) out x,k < xs.length->out.length=k->ix xs (k:Int)=some x->step (out,(k:Int))=some (.inl (out++[f x],((k+1:Nat):Int))))
  (h':∀ out,step (out,(xs.length:Int))=some (.inr (e out))):loop step ([],0)=some (e (xs.map f)):=by
 have:=aAV (step:=step) xs (fun k out=>(out,(k:Int))) (fun l out=>e (out++l.map f)) (fun k out=>out.length=k) (fun k a x l hk hx hI=>?_) (fun a _=>by simp [h']) (a:=[]) rfl
 ·simpa using this
 ·left;rw [h k a x hk hI hx];exact ⟨a++[f x],rfl,by simp [hI],by simp⟩
def aAi (s:aQ):Bool:=match (lG 40 s).2 with
 |none=>isNm s
 |some r=>aDp (lG 40 s).1&&((r.getLast? == some 41)&&((spl 44 r.dropLast).all aFO&&decide ((spl 44 r.dropLast).length<=2)))
theorem vQ (n a b:Int):pZ n a b=some (decide (a<=n)&&decide (n<=b)):=by
 unfold pZ;cases decide (a<=n)<;>rfl
theorem spl_len (b:UInt8) (s:aQ):(spl b s).length<=s.length+1/\∀ x∈spl b s,x.length<=s.length:=by
 induction s with
 |nil=>simp [spl]
 |cons c r ih=>
  rw [aGN]
  split
  ·exact ⟨by simp;omega,fun x hx=>by
    rcases List.mem_cons.1 hx with rfl|hx
    ·simp
    ·have:=ih.2 x hx;simp;omega⟩
  ·cases hs:spl b r with
   |nil=>exact absurd hs (spl_ne b r)
   |cons h t=>
    rw [hs] at ih
    refine ⟨by simp at ih ⊢;omega,fun x hx=>?_⟩
    rcases List.mem_cons.1 hx with rfl|hx
    ·have:=ih.2 h (by simp);simp;omega
    ·have:=ih.2 x (by simp [hx]);simp;omega
end Gv
namespace Gv
open Go
theorem itoa_one {c:UInt8} (h:dig c=true):Lib.itoa ((c.toNat:Int) - 48)=[c]:=by
 have hc:=(yR c).1 h
 unfold Lib.itoa
 rw [if_neg (by omega),Lib.decDigits_one (by omega),show 48+((c.toNat:Int) - 48).toNat=c.toNat by omega]
 simp
theorem itoa_two {c1 c2:UInt8} (h1:dig c1=true) (h2:dig c2=true) (h3:c1.toNat≠48):Lib.itoa (10 * ((c1.toNat:Int) - 48)+((c2.toNat:Int) - 48))=[c1,c2]:=by
 have a1:=(yR c1).1 h1
 have a2:=(yR c2).1 h2
 unfold Lib.itoa
 rw [if_neg (by omega),Lib.decDigits_two (by omega) (by omega)]
 have e1:48+(10 * ((c1.toNat:Int) - 48)+((c2.toNat:Int) - 48)).toNat / 10=c1.toNat:=by omega
 have e2:48+(10 * ((c1.toNat:Int) - 48)+((c2.toNat:Int) - 48)).toNat % 10=c2.toNat:=by omega
 rw [e1,e2]
 simp
theorem aMW {v:Int} (h0:0<=v) (h1:v<=63):aFO (Lib.itoa v)=true:=by
 unfold Lib.itoa
 rw [if_neg (by omega)]
 have ofn:∀ n:Nat,n < 10->(UInt8.ofNat (48+n)).toNat=48+n:=by intro n hn;simp;omega
 have dg:∀ n:Nat,n < 10->dig (UInt8.ofNat (48+n))=true:=by intro n hn;rw [yR,ofn n hn];omega
 by_cases h:v.toNat < 10
 ·rw [Lib.decDigits_one h]
  exact dg _ h
 ·rw [Lib.decDigits_two h (by omega)]
  simp only [aFO,dg (v.toNat / 10) (by omega),dg (v.toNat % 10) (by omega),ofn (v.toNat / 10) (by omega),ofn (v.toNat % 10) (by omega),Bool.true_and,Bool.and_eq_true,decide_eq_true_eq]
  omega
theorem parse_one {c:UInt8} (h:dig c=true):Lib.parseIntB 64 [c]=.ok ((c.toNat:Int) - 48):=by
 have hc:=(yR c).1 h
 have e1:¬ (c.toNat=43\/c.toNat=45):=by omega
 have e2:¬ c.toNat=45:=by omega
 simp only [Lib.parseIntB,if_neg e1,Lib.parseUintB,Lib.parseUintM,if_pos hc]
 rw [if_neg (by simp),if_neg (by omega),if_neg (by omega)]
 simp only
 rw [if_neg (by omega),if_neg (by omega),if_neg e2]
 congr 1;omega
theorem parse_two {c1 c2:UInt8} (h1:dig c1=true) (h2:dig c2=true):Lib.parseIntB 64 [c1,c2]=.ok (10 * ((c1.toNat:Int) - 48)+((c2.toNat:Int) - 48)):=by
 have a1:=(yR c1).1 h1
 have a2:=(yR c2).1 h2
 have e1:¬ (c1.toNat=43\/c1.toNat=45):=by omega
 have e2:¬ c1.toNat=45:=by omega
 simp only [Lib.parseIntB,if_neg e1,Lib.parseUintB,Lib.parseUintM,if_pos a1,if_pos a2]
 rw [if_neg (by simp),if_neg (by omega),if_neg (by omega),if_neg (by omega),if_neg (by omega)]
 simp only
 rw [if_neg (by omega),if_neg (by omega),if_neg e2]
 congr 1;omega
theorem aIN {s:aQ} (h:(iF s).2=true):Lib.itoa (iF s).1=s:=by
 unfold iF at h ⊢
 by_cases h18:(bare s).length > 18
 ·rw [if_pos h18] at h;cases h
 ·rw [if_neg h18] at h ⊢
  revert h
  generalize Lib.parseIntB 64 s=q
  intro h
  split at h
  ·rename_i v
   by_cases e:Lib.itoa v=s
   ·rw [if_pos e];exact e
   ·rw [if_neg e] at h;cases h
  ·cases h
theorem aIO {s:aQ}:(bare s).length<=s.length:=by
 unfold bare;split<;>simp
theorem aIP (s:aQ):in63 (iF s)=aFO s:=by
 cases hn:aFO s with
 |true=>
  rcases s with _|⟨c1,_|⟨c2,_|⟨c3,r⟩⟩⟩
  ·cases hn
  ·have h1:dig c1=true:=hn
   have hc:=(yR c1).1 h1
   have:iF [c1]=((c1.toNat:Int) - 48,true):=by
    unfold iF
    rw [if_neg,parse_one h1]
    ·simp only;rw [if_pos (itoa_one h1)]
    ·have:=aIO (s:=[c1]);simp at this;omega
   rw [this,in63_mk,decide_eq_true (p:=(0:Int)<=(c1.toNat:Int) - 48) (by omega),decide_eq_true (p:=(c1.toNat:Int) - 48<=63) (by omega)];rfl
  ·simp only [aFO,Bool.and_eq_true,decide_eq_true_eq] at hn
   obtain ⟨⟨⟨h1,h2⟩,h3⟩,h4⟩:=hn
   have a1:=(yR c1).1 h1
   have a2:=(yR c2).1 h2
   have:iF [c1,c2]=(10 * ((c1.toNat:Int) - 48)+((c2.toNat:Int) - 48),true):=by
    unfold iF
    rw [if_neg,parse_two h1 h2]
    ·simp only;rw [if_pos (itoa_two h1 h2 h3)]
    ·have:=aIO (s:=[c1,c2]);simp at this;omega
   rw [this,in63_mk,decide_eq_true (p:=(0:Int)<=10 * ((c1.toNat:Int) - 48)+((c2.toNat:Int) - 48)) (by omega),decide_eq_true (p:=10 * ((c1.toNat:Int) - 48)+((c2.toNat:Int) - 48)<=63) (by omega)];rfl
  ·cases hn
 |false=>
  cases hi:in63 (iF s) with
  |false=>rfl
  |true=>
   unfold in63 at hi
   simp only [Bool.and_eq_true,decide_eq_true_eq] at hi
   have:=aMW hi.2.1 hi.2.2
   rw [aIN hi.1,hn] at this
   cases this
theorem aHt {s:aQ} (h:s.length < 1000000000):tS s=some (iF s):=by
 unfold tS;rw [if_pos (by simp [gQ];omega)]
theorem aAW {β:Type} {step:Int->Option (Int ⊕ (Unit ⊕ Int))} (xs:List β) (p:β->Bool)
  (h:∀ (k:Nat) x,k < xs.length->ix xs (k:Int)=some x->step (k:Int)=if p x=true then some (.inr (.inr (k:Int))) else some (.inl ((k+1:Nat):Int)))
  (h':step (xs.length:Int)=some (.inr (.inl ()))):loop step 0=some (match xs.findIdx? p with|none=>.inl ()|some i=>.inr (i:Int)):=by
 have:=aAP (step:=step) xs.length (fun k (_:Unit)=>(k:Int)) (fun k _=>match (xs.drop k).findIdx? p with|none=>.inl ()|some i=>.inr ((k+i:Nat):Int)) (fun _ _=>True) (fun k a hk _=>?_) (fun a _=>?_) xs.length 0 () (by omega) trivial
 ·simpa using this
 ·rw [List.drop_eq_getElem_cons hk,h k _ hk (bK hk)]
  by_cases hp:p xs[k]=true
  ·right;simp only [List.findIdx?_cons,hp,if_pos];rfl
  ·left
   refine ⟨(),by rw [if_neg hp],trivial,?_⟩
   simp only [List.findIdx?_cons,hp]
   cases (xs.drop (k+1)).findIdx? p with
   |none=>rfl
   |some i=>simp only [Bool.false_eq_true,if_false,Option.map_some];congr 2;omega
 ·rw [h'];simp
theorem aLO {β:Type} (xs:List β) (p:β->Bool):(xs.findIdx? p).isSome=xs.any p:=by
 rw [List.findIdx?_isSome]
def pos {α:Type} [BEq α] (xs:List α) (v:α):Int:=match xs.findIdx? (fun x=>v == x) with|none=>-1|some i=>(i:Int)
theorem Index_str (xs:List aQ) (v:aQ) (h:xs.length < 4611686018427387904):eG xs v=some (pos xs v):=by
 unfold eG pos
 rw [aAW (step:=fun s=>eU xs v s) xs (fun x=>v == x) (fun k x hk hx=>by simp only [eU,bU hk,if_pos,hx,aA,bI hk h]) (by simp only [eU,fI];rfl),aA]
 cases xs.findIdx? (fun x=>v == x)<;>rfl
theorem pos_any {α:Type} [BEq α] (xs:List α) (v:α):decide (0<=pos xs v)=xs.any (fun x=>v == x):=by
 rw [←aLO];unfold pos
 cases xs.findIdx? (fun x=>v == x) with
 |none=>rfl
 |some i=>simp
def aHu (v:Int):Bool:=decide (0<=v)&&decide (v<=63)
theorem aKL (xs:List Int) (h:xs.length < 4611686018427387904):aCe xs=some (xs.all aHu):=by
 unfold aCe gG fB
 rw [aAW (step:=fun s=>cY xs s) xs (fun x=>!aHu x) (fun k x hk hx=>by
  simp only [cY,bU hk,if_pos,hx,aA,bI hk h,aBk,aHk,vQ];rfl) (by simp only [cY,fI];rfl),aA]
 have:=aLO xs (fun x=>!aHu x)
 have e:(xs.any fun x=>!aHu x)=!xs.all aHu:=by simp [List.any_eq_not_all_not]
 rw [e] at this
 cases hf:xs.findIdx? (fun x=>!aHu x) with
 |none=>rw [hf] at this;simp only [Option.isSome_none] at this;cases hx:xs.all aHu<;>rw [hx] at this<;>first|rfl|cases this
 |some i=>
  rw [hf] at this;simp only [Option.isSome_some] at this
  simp only [aA]
  rw [decide_eq_true (p:=(0:Int)<=(i:Int)) (by omega)]
  cases hx:xs.all aHu<;>rw [hx] at this<;>first|rfl|cases this
theorem joined_eq (xs:List Int) (sep:aQ) (h1:xs.length < 1000000000) (h2:∀ x∈xs,-9223372036854775808<=x/\x<=9223372036854775807) (h3:(Lib.join (xs.map Lib.itoa) sep).length < gQ):aEr xs sep=some (Lib.join (xs.map Lib.itoa) sep):=by
 unfold aEr
 rw [xZ _ (by simp [gQ];omega),aA]
 have hl:(xs.map Lib.itoa).length=xs.length:=by simp
 have:=aIM (step:=fun s:List aQ × Int=>yW xs s.1 s.2) (a:=xs.map Lib.itoa) (z:=([]:aQ)) (fun k out x hk ho hx=>?_) (fun out=>by simp only [yW,hl,fI];rfl)
 ·rw [hl] at this
  rw [this,aA]
  unfold aEq aKE
  rw [if_pos ⟨by simp [gQ];omega,h3⟩];rfl
 ·rw [hl] at hk ho
  have hx':x=Lib.itoa xs[k]:=by rw [bK (by simpa using hk)] at hx;simpa using hx.symm
  have hb:=h2 xs[k] (List.getElem_mem hk)
  have hd:aCT xs[k]=some (Lib.itoa xs[k]):=by unfold aCT;rw [if_pos hb]
  simp only [yW,bU hk,if_pos,bK hk,aA,hd,bK (xs:=out) (k:=k) (by omega),oD (xs:=out) (k:=k) _ (by omega),bI hk (show xs.length < _ by omega),hx']
theorem aIQ (xs:List aQ) (h:xs.length < 1000000000) (h2:∀ x∈xs,x.length < 1000000000):tU xs=some (if xs.all (fun s=>(iF s).2)=true then (xs.map (fun s=>(iF s).1),true) else ([],false)):=by
 unfold tU
 rw [loop_map (step:=fun s:List Int × Int=>sI xs s.1 s.2) xs (fun s=>(iF s).2) (fun s=>(iF s).1) (.inr ([],false)) .inl (fun k out x hk ho hx=>?_) (fun out=>by simp only [sI,fI];rfl),aA]
 ·by_cases h:xs.all (fun s=>(iF s).2)=true
  ·rw [if_pos h,if_pos h];rfl
  ·rw [if_neg h,if_neg h]
 ·obtain ⟨hk',rfl⟩:=aGb hx
  have hx2:=h2 _ (List.getElem_mem hk')
  simp only [sI,bU hk,if_pos,hx,aA,aHt hx2,bI hk (show xs.length < 4611686018427387904 by omega)]
  rw [cE (by simp [gQ,ho];omega),aA]
  cases (iF xs[k]).2<;>simp
theorem aJL (s:aQ) (h:s.length < 1000000000):mX s [41]=some (if (s.getLast? == some 41)=true then s.dropLast else s):=by
 unfold mX iE cW
 rcases List.eq_nil_or_concat s with rfl|⟨l,c,rfl⟩
 ·rfl
 ·have hl:(l.concat c).length=l.length+1:=by simp
  have w:wr (((l.concat c).length:Int) - (([41]:aQ).length:Int))=(l.length:Int):=by
   rw [hl] at h ⊢
   show wr (((l.length+1:Nat):Int) - 1)=_
   rw [cF (by omega) (by omega)];omega
  have s1:slc (l.concat c) (l.length:Int) ((l.concat c).length:Int)=some [c]:=by
   unfold slc;rw [if_pos ⟨by omega,by omega,by simp⟩];simp
  have s2:slc (l.concat c) 0 (l.length:Int)=some l:=by
   unfold slc;rw [if_pos ⟨by omega,by omega,by simp⟩];simp
  rw [if_pos (by simp;omega),w,s1,aA,dG,aA]
  have hg:(l.concat c).getLast?=some c:=by simp
  have hd:(l.concat c).dropLast=l:=by simp
  rw [hg,hd]
  by_cases hc:c=41
  ·subst hc
   rw [if_pos (by simp),s2];simp
  ·rw [if_neg (by simpa using hc)]
   simp [hc]
theorem aIR (name:aQ) (vs:List Int) (h1:name.length < 1000000000) (h2:vs.length < 1000000000) (h4:(Lib.join (vs.map Lib.itoa) [44]).length < 1000000000):
  aCX name vs=some (if name=cI then (cI,vs.length == 0) else if aDp name=true/\vs.length<=2/\vs.all aHu=true then (if vs.length=0 then name else name++[40]++Lib.join (vs.map Lib.itoa) [44]++[41],true) else ([],false)):=by
 unfold aCX
 by_cases hn:name=cI
 ·rw [if_pos (by simpa [cI] using hn),if_pos hn]
  simp only [cI,Option.some.injEq,Prod.mk.injEq,true_and]
  cases vs<;>simp;omega
 ·rw [if_neg (by simpa [cI] using hn),if_neg hn,aHN name (by omega),aA]
  by_cases ha:aDp name=true
  ·rw [if_neg (by simp [ha])]
   by_cases h3:vs.length<=2
   ·rw [if_neg (by simp;omega),aKL vs (by omega),aA]
    by_cases hv:vs.all aHu=true
    ·rw [if_pos ⟨ha,h3,hv⟩]
     simp only [hv,vW,Bool.not_true,Bool.false_eq_true,if_false]
     by_cases h0:vs.length=0
     ·rw [if_pos (by simp [h0]),if_pos h0]
     ·rw [if_neg (by simpa using h0),if_neg h0,cat_of (by simp [gQ];omega),aA,joined_eq vs _ h2 (fun x hx=>by
       have:=List.all_eq_true.1 hv x hx
       simp only [aHu,Bool.and_eq_true,decide_eq_true_eq] at this
       omega) (by simp only [gQ];omega),aA,cat_of (by simp only [List.length_append,gQ,List.length_singleton];omega),aA,cat_of (by simp only [List.length_append,gQ,List.length_singleton];omega),aA]
    ·rw [if_neg (fun h=>hv h.2.2)]
     have:vs.all aHu=false:=by simpa using hv
     rw [this];rfl
   ·rw [if_pos (by simp;omega),if_neg (fun h=>h3 h.2.1)];rfl
  ·rw [if_pos (by simp [ha]),if_neg (fun h=>ha h.1)];rfl
theorem cutAt_len (b:UInt8) (s:aQ):(lG b s).1.length<=s.length/\∀ r,(lG b s).2=some r->s.length=(lG b s).1.length+r.length+1:=by
 have ha:=aHs b s
 have hl:=congrArg List.length ha
 cases hc:(lG b s).2 with
 |none=>rw [hc] at hl;simp at hl;exact ⟨by omega,fun r h=>by cases h⟩
 |some r=>rw [hc] at hl;simp at hl;exact ⟨by omega,fun r' h=>by cases h;omega⟩
theorem aGc (s:aQ) (h:s.length < 1000000000):aAU s=some (aAi s):=by
 unfold aAU rF aAi l_Cut
 rw [if_pos (by omega),aA,cut_eq]
 have ha:=aHs 40 s
 have hcl:=cutAt_len 40 s
 cases hc:(lG 40 s).2 with
 |none=>
  rw [hc] at ha;simp at ha
  simp only [Option.isSome_none,Option.getD_none]
  rw [if_neg (by simp),←ha]
  unfold jR
  rw [aIR s [] (by omega) (by simp) (by simp [Lib.join_nil]),aA]
  by_cases ht:s=cI
  ·subst ht;rw [if_pos rfl];rfl
  ·rw [if_neg ht]
   have:isNm s=aDp s:=by unfold aDp;simp [ht]
   rw [this]
   cases hact:aDp s<;>simp [lQ]
 |some r=>
  rw [hc] at ha
  have hlen:=hcl.2 r hc
  simp only at ha ⊢
  generalize hA:(lG 40 s).1=a at *
  simp only [Option.isSome_some,Option.getD_some,if_pos]
  rw [aJL r (by omega),aA]
  generalize hT:(if (r.getLast? == some 41)=true then r.dropLast else r)=t
  have htl:t.length<=r.length:=by rw [←hT];split<;>simp
  have hsp:aGt t [44]=some (spl 44 t):=by
   unfold aGt;rw [if_pos ⟨by omega,by simp⟩,aKe 44 _ _ (Nat.le_refl _)]
  have hsl:=spl_len 44 t
  rw [hsp,aA,aIQ _ (by omega) (fun x hx=>by have:=hsl.2 x hx;omega),aA]
  by_cases hd:(spl 44 t).all (fun s=>(iF s).2)=true
  ·rw [if_pos hd,if_neg (by simp)]
   unfold jR
   have hj:Lib.join ((spl 44 t).map (fun s=>(iF s).1) |>.map Lib.itoa) [44]=t:=by
    have:((spl 44 t).map (fun s=>(iF s).1) |>.map Lib.itoa)=spl 44 t:=by
     rw [List.map_map]
     conv=>rhs;rw [←List.map_id (spl 44 t)]
     exact List.map_congr_left fun x hx=>aIN (List.all_eq_true.1 hd x hx)
    rw [this,spl_join]
   have hin:((spl 44 t).map (fun s=>(iF s).1)).all aHu=(spl 44 t).all aFO:=by
    rw [List.all_map]
    refine Bool.eq_iff_iff.2 ?_
    simp only [List.all_eq_true]
    refine forall_congr' fun x=>forall_congr' fun hx=>?_
    rw [←aIP x]
    have:(iF x).2=true:=List.all_eq_true.1 hd x hx
    simp only [in63,this,Bool.true_and];rfl
   have h0:(spl 44 t).length≠0:=fun h=>spl_ne 44 t (List.length_eq_zero_iff.1 h)
   rw [aIR a _ (by omega) (by simp;omega) (by rw [hj];omega),aA,hj,hin,List.length_map]
   by_cases hta:a=cI
   ·rw [if_pos hta]
    have:aDp a=false:=by subst hta;decide
    rw [this]
    have e:((spl 44 t).length == 0)=false:=by simpa using h0
    rw [e];rfl
   ·rw [if_neg hta]
    by_cases hgood:aDp a=true/\(spl 44 t).length<=2/\(spl 44 t).all aFO=true
    ·rw [if_pos hgood,if_neg h0]
     obtain ⟨g1,g2,g3⟩:=hgood
     by_cases hz:(r.getLast? == some 41)=true
     ·rw [if_pos hz] at hT
      subst hT
      have hr:r=r.dropLast++[41]:=by
       rcases List.eq_nil_or_concat r with rfl|⟨l,c,rfl⟩
       ·simp at hz
       ·simp at hz;subst hz;simp
      have hs:a++[40]++r.dropLast++[41]=s:=by
       conv=>rhs;rw [ha,hr]
       simp
      rw [hs,g1,hz,g3]
      simp [lQ,g2]
     ·rw [if_neg hz] at hT
      subst hT
      have hs:¬ a++[40]++r++[41]=s:=by
       intro hh
       have:=congrArg List.length hh
       simp at this;omega
      have hz':(r.getLast? == some 41)=false:=by simpa using hz
      rw [hz']
      simp only [Bool.false_and,Bool.and_false,Bool.not_true,Bool.false_eq_true,if_false]
      have:((a++[40]++r++[41]) == s)=false:=by simpa using hs
      rw [this];rfl
    ·rw [if_neg hgood]
     have:(aDp a&&((r.getLast? == some 41)&&((spl 44 r.dropLast).all aFO&&decide ((spl 44 r.dropLast).length<=2))))=false:=by
      refine Bool.eq_false_iff.2 fun hh=>hgood ?_
      simp only [Bool.and_eq_true,decide_eq_true_eq] at hh
      rw [if_pos hh.2.1] at hT
      subst hT
      exact ⟨hh.1,hh.2.2.2,hh.2.2.1⟩
     rw [this];rfl
  ·rw [if_neg hd]
   have:(aDp a&&((r.getLast? == some 41)&&((spl 44 r.dropLast).all aFO&&decide ((spl 44 r.dropLast).length<=2))))=false:=by
    refine Bool.eq_false_iff.2 fun hh=>hd ?_
    simp only [Bool.and_eq_true,decide_eq_true_eq] at hh
    rw [if_pos hh.2.1] at hT
    subst hT
    refine List.all_eq_true.2 fun x hx=>?_
    have:=List.all_eq_true.1 hh.2.2.1 x hx
    rw [←aIP] at this
    simp only [in63,Bool.and_eq_true] at this
    exact this.1
   rw [this];rfl
end Gv
namespace Gv
open Go
noncomputable def cl (P:Prop):Bool:=@decide P (Classical.propDecidable P)
theorem aIS {P:Prop}:cl P=true<->P:=by unfold cl;exact @decide_eq_true_iff P (Classical.propDecidable P)
theorem cl_t {P:Prop} (h:P):cl P=true:=aIS.2 h
theorem aIb {P:Prop} (h:¬ P):cl P=false:=by cases hx:cl P with|false=>rfl|true=>exact absurd (aIS.1 hx) h
theorem aKf {P:Prop} {b:Bool} (h:b=true<->P):cl P=b:=by
 cases b with
 |true=>exact cl_t (h.1 rfl)
 |false=>exact aIb fun hp=>by have:=h.2 hp;cases this
theorem aKg {ρ:Type} {step:Int->Option (Int ⊕ ρ)} (n k0:Nat) (P:Nat->Prop) (r e:ρ) (hk:k0<=n)
  (h:∀ (k:Nat),k0<=k->k < n->step (k:Int)=if cl (P k)=true then some (.inl ((k+1:Nat):Int)) else some (.inr r))
  (h':step (n:Int)=some (.inr e)):loop step (k0:Int)=some (if cl (∀ k,k0<=k->k < n->P k)=true then e else r):=by
 obtain ⟨b,h1,h2⟩:=aKd (step:=step) n k0 (fun k=>cl (P k)) r e hk h h'
 rw [h2,aKf (b:=b) (by rw [h1];simp only [aIS])]
theorem pW:∀ a:aQ,yF a a=false
 |[]=>rfl
 |c::r=>by unfold yF;simp [pW r]
theorem aIj:∀ a b:aQ,yF a b=true\/a=b\/yF b a=true
 |[],[]=>.inr (.inl rfl)
 |[],_::_=>.inl rfl
 |_::_,[]=>.inr (.inr rfl)
 |c::r,d::q=>by
  unfold yF
  rcases Nat.lt_trichotomy c.toNat d.toNat with h|h|h
  ·left;simp [UInt8.lt_iff_toNat_lt,h]
  ·have:c=d:=UInt8.toNat_inj.1 h
   subst this
   rcases aIj r q with h|h|h
   ·left;simp [h]
   ·right;left;rw [h]
   ·right;right;simp [h]
  ·right;right;simp [UInt8.lt_iff_toNat_lt,h]
theorem vR:∀ {a b c:aQ},yF a b=true->yF b c=true->yF a c=true
 |[],[],_,h,_=>by cases h
 |[],_::_,[],_,h=>by cases h
 |[],_::_,_::_,_,_=>rfl
 |_::_,[],_,h,_=>by cases h
 |_::_,_::_,[],_,h=>by cases h
 |c::r,d::q,e::p,h1,h2=>by
  unfold yF at h1 h2 ⊢
  simp only [Bool.or_eq_true,Bool.and_eq_true,decide_eq_true_eq,beq_iff_eq,UInt8.lt_iff_toNat_lt] at h1 h2 ⊢
  rcases h1 with h1|⟨h1,g1⟩<;>rcases h2 with h2|⟨h2,g2⟩
  ·left;omega
  ·left;rw [←h2];exact h1
  ·left;rw [h1];exact h2
  ·right;exact ⟨h1.trans h2,vR g1 g2⟩
theorem aKh {a b:aQ} (h:yF a b=true):yF b a=false:=by
 cases hx:yF b a with
 |false=>rfl
 |true=>have:=vR h hx;rw [pW] at this;cases this
theorem ltB_ge (a b:aQ):(yF b a||b == a)=!yF a b:=by
 rcases aIj a b with h|h|h
 ·rw [h,aKh h]
  have:¬ b=a:=by intro e;subst e;rw [pW] at h;cases h
  simp [this]
 ·subst h;simp [pW]
 ·rw [h,aKh h];rfl
def SetOk (xs:List aQ):Prop:=(∀ s∈xs,aAi s=true/\s≠cI)/\∀ k,1<=k->(hk:k < xs.length)->yF (xs[k - 1]'(by omega)) xs[k]=true
end Gv
