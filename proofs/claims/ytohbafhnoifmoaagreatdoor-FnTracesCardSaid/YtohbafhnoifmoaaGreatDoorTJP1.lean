/- Loops over lists, in plain Lean; the measures, copies, comparisons and marks of the laws. -/
import Derived.Test.YtohbafhnoifmoaaGreatDoorTJMd
set_option linter.all false
namespace Gv
theorem sA {σ ρ α:Type} {step:σ→Option (σ ⊕ ρ)} (n:Nat) (g:Nat→α→σ) (F:Nat→α→ρ) (I:Nat→α→Prop)
  (h:∀ k a,k < n→I k a→(∃ a',step (g k a)=some (.inl (g (k+1) a'))∧I (k+1) a'∧F (k+1) a'=F k a)∨step (g k a)=some (.inr (F k a)))
  (h':∀ a,I n a→step (g n a)=some (.inr (F n a))):∀ j k a,k+j=n→I k a→loop step (g k a)=some (F k a)
 |0,k,a,e,hI=>by
  obtain rfl:k=n:=by omega
  rw [dM,h' a hI]
 |j+1,k,a,e,hI=>by
  rcases h k a (by omega) hI with ⟨a',h1,h2,h3⟩|h1
  ·rw [dM,h1,←h3]
   exact sA n g F I h h' j (k+1) a' (by omega) h2
  ·rw [dM,h1]
theorem aAk {σ ρ α β:Type} {step:σ→Option (σ ⊕ ρ)} (xs:List β) (g:Nat→α→σ) (go:List β→α→ρ) (I:Nat→α→Prop)
  (h:∀ k a x l,k < xs.length→ix xs (k:Int)=some x→I k a→(∃ a',step (g k a)=some (.inl (g (k+1) a'))∧I (k+1) a'∧go l a'=go (x::l) a)∨step (g k a)=some (.inr (go (x::l) a)))
  (h':∀ a,I xs.length a→step (g xs.length a)=some (.inr (go [] a))) {a:α} (hI:I 0 a):loop step (g 0 a)=some (go xs a):=by
 have:=sA (step:=step) xs.length g (fun k a=>go (xs.drop k) a) I (fun k a hk hI=>?_) (fun a hI=>?_) xs.length 0 a (by omega) hI
 ·simpa using this
 ·have hx:ix xs (k:Int)=some xs[k]:=by rw [aDR];simp [hk]
  have:=h k a xs[k] (xs.drop (k+1)) hk hx hI
  rw [show xs.drop k=xs[k]::xs.drop (k+1) from List.drop_eq_getElem_cons hk]
  exact this
 ·simpa using h' a hI
theorem cT {k n:Nat} (h:k < n) (hn:n < 4611686018427387904):wr ((k:Int)+1)=((k+1:Nat):Int):=by unfold wr;omega
theorem dC {k n:Nat} (h:k < n):decide ((k:Int) < (n:Int))=true:=by simp;omega
theorem dO {n:Nat}:decide ((n:Int) < (n:Int))=false:=by simp
theorem aIN {ρ:Type} {β:Type} {step:Int→Option (Int ⊕ ρ)} (xs:List β) (p:β→Bool) (r e:ρ)
  (h:∀ (k:Nat) x,k < xs.length→ix xs (k:Int)=some x→step (k:Int)=if p x=true then some (.inl ((k+1:Nat):Int)) else some (.inr r))
  (h':step (xs.length:Int)=some (.inr e)):loop step 0=some (if xs.all p=true then e else r):=by
 have:=aAk (step:=step) xs (fun k (_:Unit)=>(k:Int)) (fun l _=>if l.all p=true then e else r) (fun _ _=>True) (fun k a x l hk hx _=>?_) (fun a _=>by simpa using h') (a:=()) trivial
 ·exact this
 ·rw [h k x hk hx]
  by_cases hp:p x=true
  ·left;exact ⟨(),by simp [hp],trivial,by simp [hp]⟩
  ·right;simp [hp]
theorem aGY {ρ:Type} {step:Int→Option (Int ⊕ ρ)} (n k0:Nat) (p:Nat→Bool) (r e:ρ) (hk:k0≤n)
  (h:∀ (k:Nat),k0≤k→k < n→step (k:Int)=if p k=true then some (.inl ((k+1:Nat):Int)) else some (.inr r))
  (h':step (n:Int)=some (.inr e)):∃ b:Bool,(b=true↔∀ k,k0≤k→k < n→p k=true)∧loop step (k0:Int)=some (if b=true then e else r):=by
 classical
 refine ⟨decide (∀ k,k0≤k→k < n→p k=true),by simp,?_⟩
 have:=sA (step:=step) n (fun k (_:Unit)=>(k:Int)) (fun k0 _=>if (∀ k,k0≤k→k < n→p k=true) then e else r) (fun k _=>k0≤k) (fun k a hk hI=>?_) (fun a _=>?_) (n - k0) k0 () (by omega) (Nat.le_refl _)
 ·simpa using this
 ·rw [h k hI hk]
  by_cases hp:p k=true
  ·left
   refine ⟨(),by simp [hp],by omega,?_⟩
   have:(∀ j,k+1≤j→j < n→p j=true)↔(∀ j,k≤j→j < n→p j=true):=by
    constructor
    ·intro h j h1 h2
     by_cases e:j=k
     ·subst e;exact hp
     ·exact h j (by omega) h2
    ·intro h j h1 h2;exact h j (by omega) h2
   simp only [this]
  ·right
   rw [if_neg hp,if_neg (fun h=>hp (h k (Nat.le_refl _) hk))]
 ·rw [h',if_pos (by omega)]
def sz:Nat:=1048576
theorem aDg {α:Type} {xs:List α} {k:Nat} {x:α} (h:ix xs (k:Int)=some x):∃ hk:k < xs.length,xs[k]=x:=by
 rw [aDR] at h;exact List.getElem?_eq_some_iff.1 h
def fM (n:Nat) (t:cG):Prop:=t.L.length≤n∧(∀ s∈t.L,s.length≤n)∧t.E.length≤n
theorem aIO {β:Type} {z:β} {step:(List β × Int)→Option ((List β × Int) ⊕ List β)} {a:List β}
  (h:∀ (k:Nat) out x,k < a.length→out.length=a.length→ix a (k:Int)=some x→step (out,(k:Int))=some (.inl (out.set k x,((k+1:Nat):Int))))
  (h':∀ out,step (out,(a.length:Int))=some (.inr out)):loop step (List.replicate a.length z,0)=some a:=by
 have:=sA (step:=step) a.length (fun k out=>(out,(k:Int))) (fun _ _=>a) (fun k out=>out.length=a.length∧out.take k=a.take k) (fun k out hk hI=>?_) (fun out hI=>?_) a.length 0 (List.replicate a.length z) (by omega) ⟨by simp,by simp⟩
 ·exact this
 ·left
  have hx:ix a (k:Int)=some a[k]:=by rw [aDR];simp [hk]
  refine ⟨_,h k out a[k] hk hI.1 hx,⟨by simp [hI.1],?_⟩,rfl⟩
  rw [List.take_add_one,List.take_add_one,List.take_set_of_le (Nat.le_refl _),hI.2]
  simp [hk,hI.1]
 ·rw [h']
  have h1:=hI.2
  rw [List.take_of_length_le (by omega),List.take_of_length_le (by omega)] at h1
  rw [h1]
theorem aKR {α:Type} {n:Nat} (z:α) (h:n≤iU):mkz (n:Int) z=some (List.replicate n z):=by
 unfold mkz;rw [if_pos ⟨by omega,by simpa using h⟩];simp
theorem aDF {α:Type} {xs:List α} {k:Nat} (v:α) (h:k < xs.length):st xs (k:Int) v=some (xs.set k v):=by
 unfold st;rw [if_pos ⟨by omega,by simpa using h⟩];simp
theorem cR {α:Type} {xs:List α} {k:Nat} (h:k < xs.length):ix xs (k:Int)=some xs[k]:=by rw [aDR];simp [h]
theorem dR {α:Type} {xs ys:List α} (h:xs.length+ys.length≤iU):pX xs ys=some (xs++ys):=if_pos h
theorem cat_of {xs ys:List UInt8} (h:xs.length+ys.length≤iU):cat xs ys=some (xs++ys):=if_pos h
theorem eqS_loop {β:Type} [DecidableEq β] {step:Int→Option (Int ⊕ (Unit ⊕ Bool))} {a b:List β} (e:a.length=b.length)
  (h:∀ (k:Nat) x y,k < a.length→ix a (k:Int)=some x→ix b (k:Int)=some y→step (k:Int)=if x=y then some (.inl ((k+1:Nat):Int)) else some (.inr (.inr false)))
  (h':step (a.length:Int)=some (.inr (.inl ()))):ob (loop step 0) (fun r=>match r with|.inl _=>some true|.inr r=>some r)=some (decide (a=b)):=by
 obtain ⟨c,hc,hl⟩:=aGY (step:=step) a.length 0 (fun k=>decide (a[k]?=b[k]?)) (.inr false) (.inl ()) (Nat.zero_le _) (fun k _ hk=>by
  have:=h k _ _ hk (cR hk) (cR (by omega))
  rw [this]
  have:decide (a[k]?=b[k]?)=decide (a[k]=b[k]'(by omega)):=by simp [hk,e ▸ hk]
  rw [this];simp) h'
 rw [show (0:Int)=((0:Nat):Int) from rfl,hl]
 by_cases hb:c=true
 ·subst hb
  have:a=b:=List.ext_getElem? fun k=>by
   by_cases hk:k < a.length
   ·simpa using hc.1 rfl k (Nat.zero_le _) hk
   ·simp [hk,show ¬ k < b.length by omega]
  simp [this]
 ·have hb':c=false:=by simpa using hb
  subst hb'
  have:¬ a=b:=fun he=>hb (hc.2 fun k _ _=>by simp [he])
  simp [this]
end Gv
namespace Gv
open Go
def low (c:UInt8):Bool:=decide (97≤c.toNat)&&decide (c.toNat≤122)
def dig (c:UInt8):Bool:=decide (48≤c.toNat)&&decide (c.toNat≤57)
theorem low_eq {f:Bool→Option Bool} (c:UInt8) (hf:∀ b,f b=some b):(if (decide (97≤(c.toNat:Int))) then (f (decide ((c.toNat:Int)≤122))) else (f false))=some (low c):=by
 unfold low
 have e1:decide ((97:Int)≤(c.toNat:Int))=decide (97≤c.toNat):=decide_eq_decide.2 (by omega)
 have e2:decide ((c.toNat:Int)≤(122:Int))=decide (c.toNat≤122):=decide_eq_decide.2 (by omega)
 rw [e1,e2,hf,hf]
 cases decide (97≤c.toNat)<;>rfl
theorem dig_eq {f:Bool→Option Bool} (c:UInt8) (hf:∀ b,f b=some b):(if (decide (48≤(c.toNat:Int))) then (f (decide ((c.toNat:Int)≤57))) else (f false))=some (dig c):=by
 unfold dig
 have e1:decide ((48:Int)≤(c.toNat:Int))=decide (48≤c.toNat):=decide_eq_decide.2 (by omega)
 have e2:decide ((c.toNat:Int)≤(57:Int))=decide (c.toNat≤57):=decide_eq_decide.2 (by omega)
 rw [e1,e2,hf,hf]
 cases decide (48≤c.toNat)<;>rfl
theorem aHq (c:UInt8):aCr c=some (low c):=low_eq c fun _=>rfl
theorem aHr (c:UInt8):aCs c=some (dig c):=dig_eq c fun _=>rfl
theorem aMV (c:UInt8):aFc c=some (dig c):=dig_eq c fun _=>rfl
def aGZ:aU→Bool
 |[]=>false
 |c::r=>low c&&(r.all fun c=>low c||dig c)&&decide (r.length < 10)
theorem aIP (s:aU):aBX s=some (aGZ s):=by
 unfold aBX
 cases s with
 |nil=>rfl
 |cons c r=>
  rw [if_neg (by simp)]
  by_cases hl:r.length < 10
  ·rw [if_neg (by simp;omega),show ix (c::r) 0=some c from rfl,aC,aHq,aC]
   unfold qO
   by_cases hc:low c=true
   ·rw [if_neg (by simp [hc]),aIN (step:=fun s=>uP (c::r) s) (c::r) (fun c=>low c||dig c) (.inr false) (.inl ())]
    ·by_cases hr:(r.all fun c=>low c||dig c)=true
     ·simp [aGZ,hc,hl,hr,yP]
     ·simp [aGZ,hc,hl,hr]
    ·intro k x hk hx
     simp only [uP,dC hk,if_pos,hx,aC,aHq,aHr,yQ,cT hk (show (c::r).length < 4611686018427387904 by simp;omega)]
     cases low x<;>cases dig x<;>rfl
    ·simp only [uP,dO];rfl
   ·simp [hc,aGZ]
  ·rw [if_pos (by simp;omega)]
   unfold qO
   simp [aGZ,hl]
theorem IsName_eq (s:aU) (h:s.length < 4611686018427387904):aEE s=some (aGZ s):=by
 unfold aEE
 have h0:∃ b:Bool,(b=true↔∀ k,0≤k→k < s.length→(s[k]?.map fun c=>low c||(decide (k≠0)&&dig c))=some true)∧loop (fun t=>sF s t) ((0:Nat):Int)=some (if b=true then .inl () else .inr false):=by
  have hA:=aGY (step:=fun t=>sF s t) s.length 0 (fun k=>(s[k]?.map fun c=>low c||(decide (k≠0)&&dig c)) == some true) (.inr false) (.inl ()) (Nat.zero_le _) (fun k _ hk=>?_) (by simp only [sF,dO];rfl)
  ·obtain ⟨b,h1,h2⟩:=hA
   exact ⟨b,by simpa using h1,h2⟩
  ·have hl:(if (decide (97≤(s[k].toNat:Int))) then (pT s k (decide ((s[k].toNat:Int)≤122))) else (pT s k false))=pT s k (low s[k]):=by
    have e1:decide ((97:Int)≤(s[k].toNat:Int))=decide (97≤s[k].toNat):=decide_eq_decide.2 (by omega)
    have e2:decide ((s[k].toNat:Int)≤(122:Int))=decide (s[k].toNat≤122):=decide_eq_decide.2 (by omega)
    rw [e1,e2];unfold low
    cases decide (97≤s[k].toNat)<;>rfl
   simp only [sF,dC hk,if_pos,cR hk,aC,hl]
   unfold pT
   have e1:((k:Int) == 0)=!decide (k≠0):=by by_cases e:k=0<;>simp [e]
   simp only [cR hk,aC,aMV,wY,cT hk h,List.getElem?_eq_getElem hk,Option.map_some,e1]
   generalize decide (k≠0)=d
   generalize low s[k]=x
   generalize dig s[k]=y
   cases d<;>cases x<;>cases y<;>rfl
 obtain ⟨b,hb,hl⟩:=h0
 rw [show (0:Int)=((0:Nat):Int) from rfl,hl,aC]
 cases s with
 |nil=>
  have:b=true:=hb.2 (by simp)
  subst this;rfl
 |cons c r=>
  have key:b=true↔(low c=true∧(r.all fun c=>low c||dig c)=true):=by
   rw [hb]
   constructor
   ·intro hh
    refine ⟨by simpa using hh 0 (Nat.le_refl _) (by simp),?_⟩
    rw [List.all_eq_true]
    intro x hx
    obtain ⟨k,hk,rfl⟩:=List.mem_iff_getElem.1 hx
    have:=hh (k+1) (Nat.zero_le _) (by simp;omega)
    simpa [hk] using this
   ·rintro ⟨h1,h2⟩ k _ hk
    cases k with
    |zero=>simp [h1]
    |succ k=>
     have hk':k < r.length:=by simpa using hk
     have:=List.all_eq_true.1 h2 r[k] (List.getElem_mem hk')
     simpa [hk'] using this
  by_cases hbt:b=true
  ·obtain ⟨h1,h2⟩:=key.1 hbt
   subst hbt
   simp only [if_pos,aAR,aGZ,h1,h2,Bool.true_and]
   have e1:decide ((1:Int)≤(List.length (c::r):Int))=true:=by simp only [List.length_cons,decide_eq_true_eq];omega
   have e2:decide ((List.length (c::r):Int)≤10)=decide (r.length < 10):=decide_eq_decide.2 (by simp only [List.length_cons];omega)
   rw [e1,e2];rfl
  ·rw [if_neg hbt]
   have h3:¬ (low c=true∧(r.all fun c=>low c||dig c)=true):=fun h=>hbt (key.2 h)
   have h4:(low c&&(r.all fun c=>low c||dig c))=false:=by
    cases h1:low c<;>cases h2:(r.all fun c=>low c||dig c)<;>simp_all
   simp [aGZ,h4]
def aBy (s:aU):Bool:=aGZ s&&!(s == cW)
theorem aKS (s:aU):aBd s=some (aBy s):=by
 unfold aBd aBy
 rw [aIP,aC]
 cases aGZ s<;>simp [tD,cW]
theorem aLO (s:aU) (h:s.length < 4611686018427387904):aCi s=some (aBy s):=by
 unfold aCi aBy
 rw [IsName_eq s h,aC]
 cases aGZ s<;>simp [vB,cW]
def jA (b:UInt8):aU→aU × Option aU
 |[]=>([],none)
 |c::r=>if c == b then ([],some r) else (c::(jA b r).1,(jA b r).2)
theorem cut_eq (b:UInt8) (s:aU):Lib.cut s [b]=((jA b s).1,(jA b s).2.getD [],(jA b s).2.isSome):=by
 have hi:∀ s:aU,(0≤Lib.index s [b]∧s.take (Lib.index s [b]).toNat=(jA b s).1∧(jA b s).2=some (s.drop ((Lib.index s [b]).toNat+1)))∨(Lib.index s [b]=-1∧jA b s=(s,none)):=by
  intro s
  rw [Lib.index_one]
  induction s with
  |nil=>right;exact ⟨rfl,rfl⟩
  |cons c r ih=>
   unfold Lib.indexByte jA
   by_cases hc:(c == b)=true
   ·left;rw [if_pos hc,if_pos hc];simp
   ·rw [if_neg hc,if_neg hc]
    rcases ih with ⟨h1,h2,h3⟩|⟨h1,h2⟩
    ·left
     rw [if_neg (by simp;omega)]
     have e:(Lib.indexByte r b+1).toNat=(Lib.indexByte r b).toNat+1:=by omega
     rw [e]
     exact ⟨by omega,by simp [h2],by simp [h3]⟩
    ·right
     rw [if_pos (by simp [h1]),h2]
     exact ⟨rfl,rfl⟩
 unfold Lib.cut
 rcases hi s with ⟨h1,h2,h3⟩|⟨h1,h2⟩
 ·rw [if_pos h1,h2,h3];simp
 ·rw [if_neg (by omega),h2];rfl
theorem aDG (b:UInt8) (s:aU):s=(jA b s).1++match (jA b s).2 with|none=>[]|some r=>b::r:=by
 induction s with
 |nil=>rfl
 |cons c r ih=>
  unfold jA
  by_cases hc:(c == b)=true
  ·rw [if_pos hc];simp at hc;simp [hc]
  ·rw [if_neg hc];simp only [List.cons_append];rw [←ih]
def spl (b:UInt8):aU→List aU
 |[]=>[[]]
 |c::r=>if c == b then []::spl b r else match spl b r with
  |[]=>[[c]]
  |h::t=>(c::h)::t
theorem aGo (b c:UInt8) (r:aU):spl b (c::r)=if c == b then []::spl b r else match spl b r with|[]=>[[c]]|h::t=>(c::h)::t:=rfl
theorem aMW (b c:UInt8) (r:aU):jA b (c::r)=if c == b then ([],some r) else (c::(jA b r).1,(jA b r).2):=rfl
theorem aHa (b:UInt8) (s:aU):spl b s≠[]:=by
 cases s with
 |nil=>simp [spl]
 |cons c r=>
  rw [aGo]
  split
  ·simp
  ·split<;>simp
theorem spl_cut (b:UInt8) (s:aU):spl b s=match (jA b s).2 with|none=>[(jA b s).1]|some r=>(jA b s).1::spl b r:=by
 induction s with
 |nil=>rfl
 |cons c r ih=>
  rw [aGo,aMW]
  by_cases hc:(c == b)=true
  ·rw [if_pos hc,if_pos hc]
  ·rw [if_neg hc,if_neg hc,ih]
   simp only
   cases (jA b r).2<;>rfl
theorem spl_join (b:UInt8) (s:aU):Lib.join (spl b s) [b]=s:=by
 induction s with
 |nil=>rfl
 |cons c r ih=>
  rw [aGo]
  cases hs:spl b r with
  |nil=>exact absurd hs (aHa b r)
  |cons h t=>
   rw [hs] at ih
   rw [Lib.join_cons] at ih
   by_cases hc:(c == b)=true
   ·rw [if_pos hc,Lib.join_cons]
    simp at hc
    subst hc
    rw [←ih];simp [Lib.joinTail]
   ·rw [if_neg hc]
    simp only
    rw [Lib.join_cons,←ih];simp
theorem aKf (b:UInt8):∀ (n:Nat) (s:aU),s.length≤n→aCg [b] n s=spl b s
 |0,s,h=>by
  obtain rfl:s=[]:=List.length_eq_zero_iff.1 (by omega)
  rfl
 |n+1,s,h=>by
  unfold aCg
  rw [cut_eq,spl_cut]
  have ha:=aDG b s
  cases hc:(jA b s).2 with
  |none=>rw [hc] at ha;simp at ha;simp [←ha]
  |some r=>
   rw [hc] at ha
   have:s.length=((jA b s).1++b::r).length:=congrArg List.length ha
   simp at this
   simp only [Option.isSome_some,Option.getD_some]
   rw [aKf b n r (by omega)]
theorem aMX (s:aU) (h:s.length < 4611686018427387904):aDB s=some ((jA 40 s).1.length:Int):=by
 unfold aDB
 have:=sA (step:=fun t=>uO s t) s.length (fun k (_:Unit)=>(k:Int)) (fun k _=>match (jA 40 (s.drop k)).2 with|none=>.inl ()|some _=>.inr ((k+(jA 40 (s.drop k)).1.length:Nat):Int)) (fun _ _=>True) (fun k a hk _=>?_) (fun a _=>?_) s.length 0 () (by omega) trivial
 ·rw [show (0:Int)=((0:Nat):Int) from rfl,this]
  simp only [List.drop_zero,Nat.zero_add]
  have ha:=aDG 40 s
  cases hc:(jA 40 s).2 with
  |none=>rw [hc] at ha;simp at ha;rw [←ha];rfl
  |some r=>rfl
 ·rw [List.drop_eq_getElem_cons hk]
  simp only [uO,dC hk,if_pos,cR hk,aC,cT hk h]
  by_cases hc:s[k]=40
  ·right
   rw [if_pos (by simp [hc])]
   simp [jA,hc]
  ·left
   have hc':¬ ((s[k].toNat:Int) == 40)=true:=by
    simp
    intro hh
    exact hc (UInt8.toNat_inj.1 (by simpa using (show s[k].toNat=40 by omega)))
   rw [if_neg hc']
   refine ⟨(),rfl,trivial,?_⟩
   have h2:¬ (s[k] == 40)=true:=by simpa using hc
   simp only [jA,if_neg h2]
   cases (jA 40 (s.drop (k+1))).2<;>simp;omega
 ·simp only [uO,dO]
  simp [jA]
theorem aLP (s:aU) (b:UInt8) (h:s.length < 1000000000):aCt s b=some (spl b s):=by
 unfold aCt
 have hL:=qR (step:=fun t:List aU × Int × Int=>vS s b t.1 t.2.1 t.2.2) (fun t=>0≤t.2.1∧t.2.1≤t.2.2∧t.2.2≤s.length∧(t.1.length:Int)≤t.2.2∧t.1++(match spl b (s.drop t.2.2.toNat) with|[]=>[]|hd::tl=>((s.drop t.2.1.toNat).take (t.2.2.toNat - t.2.1.toNat)++hd)::tl)=spl b s) (fun t=>(s.length - t.2.2).toNat) (fun r=>0≤r.2∧r.2≤s.length∧r.1.length≤s.length∧r.1++[s.drop r.2.toNat]=spl b s) (fun t hI=>?_) (s:=([],0,0)) ⟨by simp,by simp,by simp,by simp,?_⟩
 ·obtain ⟨⟨o,f⟩,hr,h1,h2,h3,h4⟩:=hL
  simp only at h1 h2 h3 h4
  rw [hr,aC]
  unfold vR
  have:tU s f (s.length:Int)=some (s.drop f.toNat):=by
   unfold tU;rw [if_pos ⟨h1,h2,by simp⟩,List.take_of_length_le (by simp)]
  rw [this,aC,dR (by simp [iU];omega),aC,h4]
 ·obtain ⟨out,fr,i⟩:=t
  obtain ⟨h1,h2,h3,h4,h5⟩:=hI
  simp only at h1 h2 h3 h4 h5 ⊢
  obtain ⟨k,rfl⟩:∃ k:Nat,i=(k:Int):=⟨i.toNat,by omega⟩
  obtain ⟨f,rfl⟩:∃ k:Nat,fr=(k:Int):=⟨fr.toNat,by omega⟩
  simp only [Int.toNat_natCast] at h5
  unfold vS
  by_cases hk:k < s.length
  ·left
   rw [if_pos (dC hk),cR hk,aC]
   rw [List.drop_eq_getElem_cons hk] at h5
   have hf:f≤k:=by omega
   have htk:(s.drop f).take (k+1 - f)=(s.drop f).take (k - f)++[s[k]]:=by
    rw [show k+1 - f=(k - f)+1 by omega,List.take_add_one]
    have:f+(k - f)=k:=by omega
    simp [this,hk]
   by_cases hc:s[k]=b
   ·have hsl:tU s (f:Int) (k:Int)=some ((s.drop f).take (k - f)):=by
     unfold tU;rw [if_pos ⟨by omega,by omega,by simp;omega⟩];simp
    rw [if_pos (by simp [hc]),hsl,aC,dR (by simp [iU];omega),aC,rL,cT hk (by omega)]
    refine ⟨_,rfl,⟨by simp only;omega,by simp only;omega,by simp only;omega,by simp;omega,?_⟩,by simp only;omega⟩
    simp only [Int.toNat_natCast]
    rw [←h5]
    cases hs:spl b (s.drop (k+1)) with
    |nil=>exact absurd hs (aHa _ _)
    |cons hd tl=>simp [spl,hc,hs]
   ·have hc':¬ ((s[k].toNat:Int) == (b.toNat:Int))=true:=by
     simp
     intro hh
     exact hc (UInt8.toNat_inj.1 (by omega))
    rw [if_neg hc',rL,cT hk (by omega)]
    refine ⟨_,rfl,⟨by simp only;omega,by simp only;omega,by simp only;omega,by simp only;omega,?_⟩,by simp only;omega⟩
    simp only [Int.toNat_natCast]
    rw [←h5]
    have h2:¬ (s[k] == b)=true:=by simpa using hc
    cases hs:spl b (s.drop (k+1)) with
    |nil=>exact absurd hs (aHa _ _)
    |cons hd tl=>simp [spl,h2,hs,htk]
  ·obtain rfl:k=s.length:=by omega
   right
   rw [if_neg (by simp)]
   refine ⟨_,rfl,by simp only;omega,by simp only;omega,by simp only;omega,?_⟩
   simp only [Int.toNat_natCast]
   rw [←h5]
   simp only [List.drop_length,spl]
   rw [List.take_of_length_le (by simp),List.append_nil]
 ·cases hs:spl b s with
  |nil=>exact absurd hs (aHa _ _)
  |cons hd tl=>simp [hs]
end Gv
namespace Gv
open Go
def pP:aU→Bool
 |[c]=>dig c
 |[c1,c2]=>dig c1&&dig c2&&decide (c1.toNat≠48)&&decide (10 * (c1.toNat - 48)+(c2.toNat - 48)≤63)
 |_=>false
theorem kO (c:UInt8):dig c=true↔48≤c.toNat∧c.toNat≤57:=by unfold dig;simp
theorem dig_sub {c:UInt8} (h:dig c=true):((c - (48:UInt8)).toNat:Int)=(c.toNat:Int) - 48:=by
 have h:=(kO c).1 h
 rw [UInt8.toNat_sub_of_le _ _ (by rw [UInt8.le_iff_toNat_le];exact h.1)]
 show ((c.toNat - 48:Nat):Int)=_
 omega
def val (n:Int) (l:aU):Int:=l.foldl (fun n c=>10 * n+((c.toNat:Int) - 48)) n
theorem val_ge {l:aU}:∀ {n:Int},0≤n→l.all dig=true→n≤val n l:=by
 induction l with
 |nil=>intro n h _;exact Int.le_refl _
 |cons c r ih=>
  intro n h hl
  simp only [List.all_cons,Bool.and_eq_true] at hl
  have hc:=(kO c).1 hl.1
  have:=ih (n:=10 * n+((c.toNat:Int) - 48)) (by omega) hl.2
  simp only [val,List.foldl_cons] at this ⊢
  omega
theorem aLQ {s:aU} {a:Nat} (ha:a≤s.length) (hs:s.length - a≤18) (hl:s.length < 1000000000):
  loop (fun t:Int × Int=>nD s t.1 t.2) (0,(a:Int))=some (if (s.drop a).all dig=true then .inl (val 0 (s.drop a)) else .inr (0,false)):=by
 have:=sA (step:=fun t:Int × Int=>nD s t.1 t.2) s.length (fun k (n:Int)=>(n,(k:Int))) (fun k n=>if (s.drop k).all dig=true then .inl (val n (s.drop k)) else .inr (0,false)) (fun k n=>a≤k∧0≤n∧n < (10 ^ (k - a):Nat)) (fun k n hk hI=>?_) (fun n hI=>?_) (s.length - a) a 0 (by omega) ⟨Nat.le_refl _,by omega,by simp⟩
 ·exact this
 ·obtain ⟨h1,h2,h3⟩:=hI
  rw [List.drop_eq_getElem_cons hk]
  simp only [nD,dC hk,if_pos,cR hk,aC,aHr,cT hk (show s.length < 4611686018427387904 by omega)]
  by_cases hd:dig s[k]=true
  ·left
   rw [if_neg (by simp [hd])]
   have hc:=(kO _).1 hd
   have hp:(10:Nat) ^ (k - a)≤10 ^ 17:=Nat.pow_le_pow_right (by omega) (by omega)
   have hn:n < 100000000000000000:=by
    have:(10:Nat) ^ 17=100000000000000000:=by decide
    omega
   have w:wr (wr (10 * n)+wr ((s[k] - (48:UInt8)).toNat:Int))=10 * n+((s[k].toNat:Int) - 48):=by
    rw [dig_sub hd,fN (x:=10 * n) (by omega) (by omega),fN (x:=(s[k].toNat:Int) - 48) (by omega) (by omega),fN (by omega) (by omega)]
   rw [w]
   refine ⟨_,rfl,⟨by omega,by omega,?_⟩,by simp only [List.all_cons,hd,Bool.true_and,val,List.foldl_cons]⟩
   rw [show k+1 - a=(k - a)+1 by omega,Nat.pow_succ]
   omega
  ·right
   have hd':dig s[k]=false:=by simpa using hd
   simp only [List.all_cons,hd',Bool.false_and,Bool.not_false,if_pos];rfl
 ·simp only [nD,dO]
  simp [val]
theorem aHs (r:aU):pP (45::r)=false:=by
 rcases r with _|⟨c1,_|⟨c2,r⟩⟩
 ·decide
 ·simp [pP,show dig 45=false by decide]
 ·rfl
theorem aIQ {s:aU} (h:2 < s.length):pP s=false:=by
 rcases s with _|⟨c1,_|⟨c2,_|⟨c3,r⟩⟩⟩<;>first|rfl|(simp at h)
theorem aLR {s:aU} (h:pP s=true):s.all dig=true:=by
 rcases s with _|⟨c1,_|⟨c2,_|⟨c3,r⟩⟩⟩
 ·cases h
 ·simpa [pP] using h
 ·simp [pP] at h;simp [h]
 ·cases h
theorem c48 (c:UInt8):((c.toNat:Int) == 48)=decide (c=48):=by
 by_cases h:c=48
 ·subst h;rfl
 ·have:¬ c.toNat=48:=fun hh=>h (UInt8.toNat_inj.1 (by simpa using hh))
  simp [h];omega
theorem c45 (c:UInt8):((c.toNat:Int) == 45)=decide (c=45):=by
 by_cases h:c=45
 ·subst h;rfl
 ·have:¬ c.toNat=45:=fun hh=>h (UInt8.toNat_inj.1 (by simpa using hh))
  simp [h];omega
def in63 (r:Int × Bool):Bool:=r.2&&(decide (0≤r.1)&&decide (r.1≤63))
theorem aEf (n:Int) (b:Bool):in63 (n,b)=(b&&(decide (0≤n)&&decide (n≤63))):=rfl
theorem val_in {s:aU} (h0:s≠[]) (h1:s.all dig=true) (h2:s.head?=some 48→s.length=1):in63 (val 0 s,true)=pP s:=by
 rcases s with _|⟨c1,_|⟨c2,_|⟨c3,r⟩⟩⟩
 ·exact absurd rfl h0
 ·simp only [List.all_cons,List.all_nil,Bool.and_true] at h1
  have:=(kO c1).1 h1
  rw [aEf];simp only [val,List.foldl_cons,List.foldl_nil,pP,h1]
  simp;omega
 ·simp only [List.all_cons,List.all_nil,Bool.and_true,Bool.and_eq_true] at h1
  have a1:=(kO c1).1 h1.1
  have a2:=(kO c2).1 h1.2
  have a3:c1.toNat≠48:=by
   intro hh
   have:c1=48:=UInt8.toNat_inj.1 (by simpa using hh)
   have:=h2 (by simp [this])
   simp at this
  have hv:val 0 [c1,c2]=10 * ((c1.toNat:Int) - 48)+((c2.toNat:Int) - 48):=by simp only [val,List.foldl_cons,List.foldl_nil];omega
  rw [aEf,hv];simp only [pP,h1.1,h1.2]
  have e1:decide (0≤10 * ((c1.toNat:Int) - 48)+((c2.toNat:Int) - 48))=true:=by simp only [decide_eq_true_eq];omega
  have e2:decide (10 * ((c1.toNat:Int) - 48)+((c2.toNat:Int) - 48)≤63)=decide (10 * (c1.toNat - 48)+(c2.toNat - 48)≤63):=decide_eq_decide.2 (by omega)
  have e3:decide (c1.toNat≠48)=true:=by simp only [decide_eq_true_eq];exact a3
  rw [e1,e2,e3];simp
 ·rw [aIQ (by simp)]
  simp only [List.all_cons,Bool.and_eq_true] at h1
  have a1:=(kO c1).1 h1.1
  have a2:=(kO c2).1 h1.2.1
  have a4:=(kO c3).1 h1.2.2.1
  have a3:c1.toNat≠48:=by
   intro hh
   have:c1=48:=UInt8.toNat_inj.1 (by simpa using hh)
   have:=h2 (by simp [this])
   simp at this
  have hv:=val_ge (l:=r) (n:=10 * (10 * (10 * 0+((c1.toNat:Int) - 48))+((c2.toNat:Int) - 48))+((c3.toNat:Int) - 48)) (by omega) h1.2.2.2
  have hx:val 0 (c1::c2::c3::r)=val (10 * (10 * (10 * 0+((c1.toNat:Int) - 48))+((c2.toNat:Int) - 48))+((c3.toNat:Int) - 48)) r:=rfl
  rw [aEf,decide_eq_false (p:=val 0 (c1::c2::c3::r)≤63) (by rw [hx];omega)]
  simp
theorem aKT {s:aU} (hl:s.length < 1000000000):∃ r,xH s=some r∧in63 r=pP s:=by
 have j5:∀ a:Nat,a≤1→a≤s.length→(a=1→s.head?=some 45)→(a=0→s.head?≠some 45)→∃ r,pJ s (a:Int)=some r∧in63 r=pP s:=by
  intro a ha hle h45 hn45
  unfold pJ
  have hf:in63 (0,false)=false:=rfl
  by_cases e:s.length=a
  ·refine ⟨(0,false),by rw [if_pos (by simp [e])];rfl,?_⟩
   rw [hf]
   rcases s with _|⟨c,r⟩
   ·rfl
   ·have:r=[]:=List.length_eq_zero_iff.1 (by simp at e;omega)
    subst this
    have:=h45 (by simp at e;omega)
    simp at this;subst this;decide
  ·rw [if_neg (by simp;omega)]
   by_cases h18:18 < s.length - a
   ·refine ⟨(0,false),by rw [if_pos (by rw [fN (by omega) (by omega)];simp only [decide_eq_true_eq];omega)];rfl,?_⟩
    rw [hf,aIQ (by omega)]
   ·have hk:a < s.length:=by omega
    rw [if_neg (by rw [fN (by omega) (by omega)];simp only [decide_eq_true_eq];omega),cR hk,aC,c48]
    have fin:((s.drop a).head?=some 48→s.length=1)→∃ r,kX s (a:Int) false=some r∧in63 r=pP s:=by
     intro hz
     unfold kX
     rw [if_neg (by simp),aLQ (by omega) (by omega) hl,aC]
     by_cases hd:(s.drop a).all dig=true
     ·rw [if_pos hd]
      simp only [tE]
      rcases Nat.lt_or_ge a 1 with h|h
      ·obtain rfl:a=0:=by omega
       refine ⟨_,by rw [if_neg (by simp)];rfl,?_⟩
       exact val_in (by intro h;subst h;simp at hk) (by simpa using hd) (by simpa using hz)
      ·obtain rfl:a=1:=by omega
       rcases s with _|⟨c,r⟩
       ·simp at hk
       ·have:=h45 rfl
        simp at this;subst this
        rw [if_pos (by simp)]
        rcases r with _|⟨c1,r⟩
        ·simp at hk
        ·refine ⟨_,rfl,?_⟩
         rw [aHs]
         simp only [List.drop_succ_cons,List.drop_zero,List.all_cons,Bool.and_eq_true,List.head?_cons,Option.some.injEq] at hd hz ⊢
         have a1:=(kO c1).1 hd.1
         have a3:c1.toNat≠48:=by
          intro hh
          have:c1=48:=UInt8.toNat_inj.1 (by simpa using hh)
          have:=hz this
          simp at this
         have hv:=val_ge (l:=r) (n:=10 * 0+((c1.toNat:Int) - 48)) (by omega) hd.2
         have hb:val 0 (c1::r)≤9223372036854775807:=by
          have:∀ (l:aU) (n:Int) (m:Nat),0≤n→n < (10 ^ m:Nat)→l.all dig=true→val n l < (10 ^ (m+l.length):Nat):=by
           intro l
           induction l with
           |nil=>intro n m h1 h2 _;simpa [val] using h2
           |cons c l ih=>
            intro n m h1 h2 h3
            simp only [List.all_cons,Bool.and_eq_true] at h3
            have b:=(kO c).1 h3.1
            have:=ih (10 * n+((c.toNat:Int) - 48)) (m+1) (by omega) (by rw [Nat.pow_succ];omega) h3.2
            simp only [val,List.foldl_cons] at this ⊢
            rw [List.length_cons,show m+(l.length+1)=m+1+l.length by omega]
            exact this
          have:=this (c1::r) 0 0 (by omega) (by simp) (by simp [hd])
          have hp:(10:Nat) ^ (0+(c1::r).length)≤10 ^ 18:=Nat.pow_le_pow_right (by omega) (by simp at h18 ⊢;omega)
          have:(10:Nat) ^ 18=1000000000000000000:=by decide
          omega
         have hv':val 0 (c1::r)=val (10 * 0+((c1.toNat:Int) - 48)) r:=rfl
         rw [fN (by omega) (by omega)]
         rw [aEf];simp only [Bool.true_and,Bool.and_eq_false_iff,decide_eq_false_iff_not]
         left;omega
     ·rw [if_neg hd]
      refine ⟨_,rfl,?_⟩
      rw [hf]
      cases hx:pP s with
      |false=>rfl
      |true=>
       have:=aLR hx
       exact absurd (List.all_eq_true.2 fun x hx=>List.all_eq_true.1 this x (List.mem_of_mem_drop hx)) hd
    by_cases hz:s[a]=48
    ·rw [if_pos (by simp [hz])]
     by_cases h1:1 < s.length
     ·refine ⟨(0,false),by rw [show decide ((1:Int) < (s.length:Int))=true by simp;omega];rfl,?_⟩
      rw [hf]
      rcases Nat.lt_or_ge a 1 with h|h
      ·obtain rfl:a=0:=by omega
       rcases s with _|⟨c,_|⟨c2,_|⟨c3,r⟩⟩⟩
       ·rfl
       ·simp at h1
       ·simp at hz;subst hz;simp [pP]
       ·rfl
      ·obtain rfl:a=1:=by omega
       rcases s with _|⟨c,r⟩
       ·rfl
       ·have:=h45 rfl
        simp at this;subst this
        rw [aHs]
     ·rw [show decide ((1:Int) < (s.length:Int))=false by simp;omega]
      exact fin fun _=>by omega
    ·rw [if_neg (by simp [hz])]
     refine fin fun h=>?_
     rw [List.drop_eq_getElem_cons hk] at h
     rw [List.head?_cons] at h;exact absurd (Option.some.inj h) hz
 unfold xH
 rcases s with _|⟨c,r⟩
 ·rw [if_neg (by simp)]
  exact j5 0 (by omega) (by simp) (by simp) (by simp)
 ·rw [if_pos (by simp only [List.length_cons,decide_eq_true_eq];omega),show ix (c::r) 0=some c from rfl,aC,c45]
  by_cases hc:c=45
  ·simp only [hc,decide_true,pK,if_pos]
   subst hc
   have h1:=j5 1 (by omega) (by simp) (by simp) (by simp)
   rw [show ((1:Nat):Int)=1 from rfl] at h1
   exact h1
  ·simp only [hc,decide_false,pK,Bool.false_eq_true,if_false]
   have h1:=j5 0 (by omega) (by simp) (by simp) (by simpa using hc)
   rw [show ((0:Nat):Int)=0 from rfl] at h1
   exact h1
theorem aLS {β γ ρ:Type} {step:(List γ × Int)→Option ((List γ × Int) ⊕ ρ)} (xs:List β) (p:β→Bool) (f:β→γ) (r:ρ) (e:List γ→ρ)
  (h:∀ (k:Nat) out x,k < xs.length→out.length=k→ix xs (k:Int)=some x→step (out,(k:Int))=if p x=true then some (.inl (out++[f x],((k+1:Nat):Int))) else some (.inr r))
  (h':∀ out,step (out,(xs.length:Int))=some (.inr (e out))):loop step ([],0)=some (if xs.all p=true then e (xs.map f) else r):=by
 have:=aAk (step:=step) xs (fun k out=>(out,(k:Int))) (fun l out=>if l.all p=true then e (out++l.map f) else r) (fun k out=>out.length=k) (fun k a x l hk hx hI=>?_) (fun a _=>by simp [h']) (a:=[]) rfl
 ·simpa using this
 ·rw [h k a x hk hI hx]
  by_cases hp:p x=true
  ·left;exact ⟨a++[f x],by simp [hp],by simp [hI],by simp [hp]⟩
  ·right;simp [hp]
theorem aDH {β γ:Type} {ρ:Type} {step:(List γ × Int)→Option ((List γ × Int) ⊕ ρ)} (xs:List β) (f:β→γ) (e:List γ→ρ)
  (h:∀ (k:Nat) out x,k < xs.length→out.length=k→ix xs (k:Int)=some x→step (out,(k:Int))=some (.inl (out++[f x],((k+1:Nat):Int))))
  (h':∀ out,step (out,(xs.length:Int))=some (.inr (e out))):loop step ([],0)=some (e (xs.map f)):=by
 have:=aAk (step:=step) xs (fun k out=>(out,(k:Int))) (fun l out=>e (out++l.map f)) (fun k out=>out.length=k) (fun k a x l hk hx hI=>?_) (fun a _=>by simp [h']) (a:=[]) rfl
 ·simpa using this
 ·left;rw [h k a x hk hI hx];exact ⟨a++[f x],rfl,by simp [hI],by simp⟩
def oN (s:aU):Bool:=match (jA 40 s).2 with
 |none=>aGZ s
 |some r=>aBy (jA 40 s).1&&((r.getLast? == some 41)&&((spl 44 r.dropLast).all pP&&decide ((spl 44 r.dropLast).length≤2)))
theorem aGp (n a b:Int):aAF n a b=some (decide (a≤n)&&decide (n≤b)):=by
 unfold aAF;cases decide (a≤n)<;>rfl
theorem aDI (n a b:Int):sG n a b=some (decide (a≤n)&&decide (n≤b)):=by
 unfold sG;cases decide (a≤n)<;>rfl
theorem spl_len (b:UInt8) (s:aU):(spl b s).length≤s.length+1∧∀ x∈spl b s,x.length≤s.length:=by
 induction s with
 |nil=>simp [spl]
 |cons c r ih=>
  rw [aGo]
  split
  ·exact ⟨by simp;omega,fun x hx=>by
    rcases List.mem_cons.1 hx with rfl|hx
    ·simp
    ·have:=ih.2 x hx;simp;omega⟩
  ·cases hs:spl b r with
   |nil=>exact absurd hs (aHa b r)
   |cons h t=>
    rw [hs] at ih
    refine ⟨by simp at ih ⊢;omega,fun x hx=>?_⟩
    rcases List.mem_cons.1 hx with rfl|hx
    ·have:=ih.2 h (by simp);simp;omega
    ·have:=ih.2 x (by simp [hx]);simp;omega
theorem aMY {c:UInt8} {a r:aU}:((a++c::r).getLast?:Option UInt8)=ix (a++c::r) (wr (((a++c::r).length:Int) - 1))∨4611686018427387904≤(a++c::r).length:=by
 by_cases h:4611686018427387904≤(a++c::r).length
 ·exact .inr h
 ·left
  have hp:0 < (a++c::r).length:=by simp;omega
  rw [fN (by omega) (by omega),show (((a++c::r).length:Int) - 1)=(((a++c::r).length - 1:Nat):Int) by omega,aDR,List.getLast?_eq_getElem?]
theorem aLT (s:aU) (h:s.length < 1000000000):aCu s=some (oN s):=by
 unfold aCu aCX oN
 rw [aMX s (by omega),aC]
 have ha:=aDG 40 s
 cases hc:(jA 40 s).2 with
 |none=>
  rw [hc] at ha;simp at ha
  rw [←ha,if_pos (by simp),aIP];rfl
 |some r=>
  rw [hc] at ha
  simp only at ha ⊢
  generalize hA:(jA 40 s).1=a at *
  have hl:s.length=a.length+(r.length+1):=by rw [ha];simp
  rw [if_neg (by simp;omega)]
  have hs0:tU s 0 (a.length:Int)=some a:=by
   unfold tU;rw [if_pos ⟨by omega,by omega,by simp;omega⟩]
   simp only [Int.toNat_natCast,Int.toNat_zero,Nat.sub_zero,List.drop_zero]
   conv=>lhs;rw [ha]
   simp
  rw [hs0,aC,aKS,aC]
  by_cases hn:aBy a=false
  ·simp [hn,pM]
  have hact:aBy a=true:=by simpa using hn
  rw [hact,if_neg (by simp)]
  have hlast:ix s (wr ((s.length:Int) - 1))=s.getLast?:=by
   conv=>lhs;rw [ha]
   conv=>rhs;rw [ha]
   rcases aMY (c:=40) (a:=a) (r:=r) with h|h
   ·exact h.symm
   ·rw [←ha] at h;omega
  have hlast2:s.getLast?=some ((r.getLast?).getD 40):=by
   rw [ha,List.getLast?_append]
   cases r with
   |nil=>rfl
   |cons x l=>simp [List.getLast?_cons]
  rw [hlast,hlast2,aC]
  unfold pM
  have h41:((((r.getLast?).getD 40).toNat:Int) != 41)=!(r.getLast? == some 41):=by
   cases hr:r.getLast? with
   |none=>rfl
   |some x=>
    by_cases hx:x=41
    ·subst hx;rfl
    ·have:¬ x.toNat=41:=fun hh=>hx (UInt8.toNat_inj.1 (by simpa using hh))
     have h2:¬ ((x.toNat:Int)=41):=by omega
     have e1:((x.toNat:Int) != 41)=true:=by simp only [bne_iff_ne,ne_eq];exact h2
     have e2:(some x == some (41:UInt8))=false:=by simp [hx]
     rw [e2];exact e1
  rw [h41]
  by_cases hn:(r.getLast? == some 41)=false
  ·simp [hn]
  have hz:(r.getLast? == some 41)=true:=by simpa using hn
  rw [hz]
  simp only [Bool.not_true,Bool.true_and,Bool.false_eq_true,if_false]
  have hs1:tU s (wr ((a.length:Int)+1)) (wr ((s.length:Int) - 1))=some r.dropLast:=by
   have hr:r≠[]:=by intro hh;subst hh;simp at hz
   have hr':0 < r.length:=List.length_pos_iff.2 hr
   rw [fN (by omega) (by omega),fN (by omega) (by omega)]
   unfold tU;rw [if_pos ⟨by omega,by omega,by omega⟩]
   have e1:((a.length:Int)+1).toNat=a.length+1:=by omega
   have e2:((s.length:Int) - 1).toNat - (a.length+1)=r.length - 1:=by omega
   rw [e1,e2]
   conv=>lhs;rw [ha]
   rw [List.drop_append,List.drop_of_length_le (by omega),show a.length+1 - a.length=1 by omega]
   simp [List.dropLast_eq_take]
  rw [hs1,aC,aLP _ _ (by simp;omega),aC]
  have hsl:=spl_len 44 r.dropLast
  have hdl:r.dropLast.length≤r.length:=by simp
  have:=aLS (step:=fun t:List Int × Int=>pL (spl 44 r.dropLast) t.1 t.2) (spl 44 r.dropLast) pP (fun x=>((xH x).getD (0,false)).1) (.inr ([],false)) .inl (fun k out x hk ho hx=>?_) (fun out=>by simp only [pL,dO];rfl)
  ·rw [this,aC]
   by_cases hall:(spl 44 r.dropLast).all pP=true
   ·rw [if_pos hall,hall]
    simp only [tF,aC,List.length_map,Bool.true_and]
    exact congrArg some (decide_eq_decide.2 (by omega))
   ·rw [if_neg hall]
    have:(spl 44 r.dropLast).all pP=false:=by simpa using hall
    rw [this];rfl
  ·obtain ⟨hk',rfl⟩:=aDg hx
   have hxl:=hsl.2 _ (List.getElem_mem hk')
   obtain ⟨q,hq,hi⟩:=aKT (s:=(spl 44 r.dropLast)[k]) (by omega)
   simp only [pL,dC hk,if_pos,hx,aC,hq,aGp,tG,cT hk (show (spl 44 r.dropLast).length < 4611686018427387904 by omega)]
   rw [←hi]
   rw [dR (by simp [iU,ho];omega)]
   obtain ⟨n,b⟩:=q
   rw [aEf]
   simp only [Option.getD_some]
   cases b
   ·simp only [Bool.not_false,Bool.false_and,Bool.false_eq_true,if_false,if_pos]
   ·simp only [Bool.not_true,Bool.false_eq_true,if_false,Bool.true_and,aC]
    cases (decide (0≤n)&&decide (n≤63))<;>simp
end Gv
namespace Gv
open Go
theorem itoa_one {c:UInt8} (h:dig c=true):Lib.itoa ((c.toNat:Int) - 48)=[c]:=by
 have hc:=(kO c).1 h
 unfold Lib.itoa
 rw [if_neg (by omega),Lib.decDigits_one (by omega),show 48+((c.toNat:Int) - 48).toNat=c.toNat by omega]
 simp
theorem itoa_two {c1 c2:UInt8} (h1:dig c1=true) (h2:dig c2=true) (h3:c1.toNat≠48):Lib.itoa (10 * ((c1.toNat:Int) - 48)+((c2.toNat:Int) - 48))=[c1,c2]:=by
 have a1:=(kO c1).1 h1
 have a2:=(kO c2).1 h2
 unfold Lib.itoa
 rw [if_neg (by omega),Lib.decDigits_two (by omega) (by omega)]
 have e1:48+(10 * ((c1.toNat:Int) - 48)+((c2.toNat:Int) - 48)).toNat / 10=c1.toNat:=by omega
 have e2:48+(10 * ((c1.toNat:Int) - 48)+((c2.toNat:Int) - 48)).toNat % 10=c2.toNat:=by omega
 rw [e1,e2]
 simp
theorem aIS {v:Int} (h0:0≤v) (h1:v≤63):pP (Lib.itoa v)=true:=by
 unfold Lib.itoa
 rw [if_neg (by omega)]
 have ofn:∀ n:Nat,n < 10→(UInt8.ofNat (48+n)).toNat=48+n:=by intro n hn;simp;omega
 have dg:∀ n:Nat,n < 10→dig (UInt8.ofNat (48+n))=true:=by intro n hn;rw [kO,ofn n hn];omega
 by_cases h:v.toNat < 10
 ·rw [Lib.decDigits_one h]
  exact dg _ h
 ·rw [Lib.decDigits_two h (by omega)]
  simp only [pP,dg (v.toNat / 10) (by omega),dg (v.toNat % 10) (by omega),ofn (v.toNat / 10) (by omega),ofn (v.toNat % 10) (by omega),Bool.true_and,Bool.and_eq_true,decide_eq_true_eq]
  omega
theorem parse_one {c:UInt8} (h:dig c=true):Lib.parseIntB 64 [c]=.ok ((c.toNat:Int) - 48):=by
 have hc:=(kO c).1 h
 have e1:¬ (c.toNat=43∨c.toNat=45):=by omega
 have e2:¬ c.toNat=45:=by omega
 simp only [Lib.parseIntB,if_neg e1,Lib.parseUintB,Lib.parseUintM,if_pos hc]
 rw [if_neg (by simp),if_neg (by omega),if_neg (by omega)]
 simp only
 rw [if_neg (by omega),if_neg (by omega),if_neg e2]
 congr 1;omega
theorem parse_two {c1 c2:UInt8} (h1:dig c1=true) (h2:dig c2=true):Lib.parseIntB 64 [c1,c2]=.ok (10 * ((c1.toNat:Int) - 48)+((c2.toNat:Int) - 48)):=by
 have a1:=(kO c1).1 h1
 have a2:=(kO c2).1 h2
 have e1:¬ (c1.toNat=43∨c1.toNat=45):=by omega
 have e2:¬ c1.toNat=45:=by omega
 simp only [Lib.parseIntB,if_neg e1,Lib.parseUintB,Lib.parseUintM,if_pos a1,if_pos a2]
 rw [if_neg (by simp),if_neg (by omega),if_neg (by omega),if_neg (by omega),if_neg (by omega)]
 simp only
 rw [if_neg (by omega),if_neg (by omega),if_neg e2]
 congr 1;omega
theorem aIT {s:aU} (h:(jF s).2=true):Lib.itoa (jF s).1=s:=by
 unfold jF at h ⊢
 by_cases h18:(bare s).length > 18
 ·rw [if_pos h18] at h;cases h
 ·rw [if_neg h18] at h ⊢
  revert h
  generalize Lib.parseIntB 64 s=q
  intro h
  split at h
  ·rename_i v
   by_cases e:Lib.itoa v=s
   ·rw [if_pos e];exact e
   ·rw [if_neg e] at h;cases h
  ·cases h
theorem aIU {s:aU}:(bare s).length≤s.length:=by
 unfold bare;split<;>simp
theorem aIV (s:aU):in63 (jF s)=pP s:=by
 cases hn:pP s with
 |true=>
  rcases s with _|⟨c1,_|⟨c2,_|⟨c3,r⟩⟩⟩
  ·cases hn
  ·have h1:dig c1=true:=hn
   have hc:=(kO c1).1 h1
   have:jF [c1]=((c1.toNat:Int) - 48,true):=by
    unfold jF
    rw [if_neg,parse_one h1]
    ·simp only;rw [if_pos (itoa_one h1)]
    ·have:=aIU (s:=[c1]);simp at this;omega
   rw [this,aEf,decide_eq_true (p:=(0:Int)≤(c1.toNat:Int) - 48) (by omega),decide_eq_true (p:=(c1.toNat:Int) - 48≤63) (by omega)];rfl
  ·simp only [pP,Bool.and_eq_true,decide_eq_true_eq] at hn
   obtain ⟨⟨⟨h1,h2⟩,h3⟩,h4⟩:=hn
   have a1:=(kO c1).1 h1
   have a2:=(kO c2).1 h2
   have:jF [c1,c2]=(10 * ((c1.toNat:Int) - 48)+((c2.toNat:Int) - 48),true):=by
    unfold jF
    rw [if_neg,parse_two h1 h2]
    ·simp only;rw [if_pos (itoa_two h1 h2 h3)]
    ·have:=aIU (s:=[c1,c2]);simp at this;omega
   rw [this,aEf,decide_eq_true (p:=(0:Int)≤10 * ((c1.toNat:Int) - 48)+((c2.toNat:Int) - 48)) (by omega),decide_eq_true (p:=10 * ((c1.toNat:Int) - 48)+((c2.toNat:Int) - 48)≤63) (by omega)];rfl
  ·cases hn
 |false=>
  cases hi:in63 (jF s) with
  |false=>rfl
  |true=>
   unfold in63 at hi
   simp only [Bool.and_eq_true,decide_eq_true_eq] at hi
   have:=aIS hi.2.1 hi.2.2
   rw [aIT hi.1,hn] at this
   cases this
theorem aHb {s:aU} (h:s.length < 1000000000):uZ s=some (jF s):=by
 unfold uZ;rw [if_pos (by simp [iU];omega)]
theorem aBZ {β:Type} {step:Int→Option (Int ⊕ (Unit ⊕ Int))} (xs:List β) (p:β→Bool)
  (h:∀ (k:Nat) x,k < xs.length→ix xs (k:Int)=some x→step (k:Int)=if p x=true then some (.inr (.inr (k:Int))) else some (.inl ((k+1:Nat):Int)))
  (h':step (xs.length:Int)=some (.inr (.inl ()))):loop step 0=some (match xs.findIdx? p with|none=>.inl ()|some i=>.inr (i:Int)):=by
 have:=sA (step:=step) xs.length (fun k (_:Unit)=>(k:Int)) (fun k _=>match (xs.drop k).findIdx? p with|none=>.inl ()|some i=>.inr ((k+i:Nat):Int)) (fun _ _=>True) (fun k a hk _=>?_) (fun a _=>?_) xs.length 0 () (by omega) trivial
 ·simpa using this
 ·rw [List.drop_eq_getElem_cons hk,h k _ hk (cR hk)]
  by_cases hp:p xs[k]=true
  ·right;simp only [List.findIdx?_cons,hp,if_pos];rfl
  ·left
   refine ⟨(),by rw [if_neg hp],trivial,?_⟩
   simp only [List.findIdx?_cons,hp]
   cases (xs.drop (k+1)).findIdx? p with
   |none=>rfl
   |some i=>simp only [Bool.false_eq_true,if_false,Option.map_some];congr 2;omega
 ·rw [h'];simp
theorem aIW {β:Type} (xs:List β) (p:β→Bool):(xs.findIdx? p).isSome=xs.any p:=by
 rw [List.findIdx?_isSome]
def pos {α:Type} [BEq α] (xs:List α) (v:α):Int:=match xs.findIdx? (fun x=>v == x) with|none=>-1|some i=>(i:Int)
theorem aHc (xs:List aU) (v:aU) (h:xs.length < 4611686018427387904):eS xs v=some (pos xs v):=by
 unfold eS pos
 rw [aBZ (step:=fun s=>eG xs v s) xs (fun x=>v == x) (fun k x hk hx=>by simp only [eG,dC hk,if_pos,hx,aC,cT hk h]) (by simp only [eG,dO];rfl),aC]
 cases xs.findIdx? (fun x=>v == x)<;>rfl
theorem Index_int (xs:List Int) (v:Int) (h:xs.length < 4611686018427387904):fZ xs v=some (pos xs v):=by
 unfold fZ pos
 rw [aBZ (step:=fun s=>eK xs v s) xs (fun x=>v == x) (fun k x hk hx=>by simp only [eK,dC hk,if_pos,hx,aC,cT hk h]) (by simp only [eK,dO];rfl),aC]
 cases xs.findIdx? (fun x=>v == x)<;>rfl
theorem pos_any {α:Type} [BEq α] (xs:List α) (v:α):decide (0≤pos xs v)=xs.any (fun x=>v == x):=by
 rw [←aIW];unfold pos
 cases xs.findIdx? (fun x=>v == x) with
 |none=>rfl
 |some i=>simp
theorem aKU (xs:List aU) (v:aU) (h:xs.length < 4611686018427387904):fD xs v=some (xs.any (fun x=>v == x)):=by
 unfold fD;rw [aHc xs v h,aC,pos_any]
theorem aBR (xs:List Int) (v:Int) (h:xs.length < 4611686018427387904):eL xs v=some (xs.any (fun x=>v == x)):=by
 unfold eL;rw [Index_int xs v h,aC,pos_any]
def aHd (v:Int):Bool:=decide (0≤v)&&decide (v≤63)
theorem aKV (xs:List Int) (h:xs.length < 4611686018427387904):aAT xs=some (xs.all aHd):=by
 unfold aAT fQ gG
 rw [aBZ (step:=fun s=>dW xs s) xs (fun x=>!aHd x) (fun k x hk hx=>by
  simp only [dW,dC hk,if_pos,hx,aC,cT hk h,xQ,aFd,aDI];rfl) (by simp only [dW,dO];rfl),aC]
 have:=aIW xs (fun x=>!aHd x)
 have e:(xs.any fun x=>!aHd x)=!xs.all aHd:=by simp [List.any_eq_not_all_not]
 rw [e] at this
 cases hf:xs.findIdx? (fun x=>!aHd x) with
 |none=>rw [hf] at this;simp only [Option.isSome_none] at this;cases hx:xs.all aHd<;>rw [hx] at this<;>first|rfl|cases this
 |some i=>
  rw [hf] at this;simp only [Option.isSome_some] at this
  simp only [aC]
  rw [decide_eq_true (p:=(0:Int)≤(i:Int)) (by omega)]
  cases hx:xs.all aHd<;>rw [hx] at this<;>first|rfl|cases this
theorem aKg (xs:List Int) (sep:aU) (h1:xs.length < 1000000000) (h2:∀ x∈xs,-9223372036854775808≤x∧x≤9223372036854775807) (h3:(Lib.join (xs.map Lib.itoa) sep).length < iU):aDr xs sep=some (Lib.join (xs.map Lib.itoa) sep):=by
 unfold aDr
 rw [aKR _ (by simp [iU];omega),aC]
 have hl:(xs.map Lib.itoa).length=xs.length:=by simp
 have:=aIO (step:=fun s:List aU × Int=>wX xs s.1 s.2) (a:=xs.map Lib.itoa) (z:=([]:aU)) (fun k out x hk ho hx=>?_) (fun out=>by simp only [wX,hl,dO];rfl)
 ·rw [hl] at this
  rw [this,aC]
  unfold aAQ aKN
  rw [if_pos ⟨by simp [iU];omega,h3⟩];rfl
 ·rw [hl] at hk ho
  have hx':x=Lib.itoa xs[k]:=by rw [cR (by simpa using hk)] at hx;simpa using hx.symm
  have hb:=h2 xs[k] (List.getElem_mem hk)
  have hd:aDo xs[k]=some (Lib.itoa xs[k]):=by unfold aDo;rw [if_pos hb]
  simp only [wX,dC hk,if_pos,cR hk,aC,hd,cR (xs:=out) (k:=k) (by omega),aDF (xs:=out) (k:=k) _ (by omega),cT hk (show xs.length < _ by omega),hx']
theorem aIX (xs:List aU) (h:xs.length < 1000000000) (h2:∀ x∈xs,x.length < 1000000000):vA xs=some (if xs.all (fun s=>(jF s).2)=true then (xs.map (fun s=>(jF s).1),true) else ([],false)):=by
 unfold vA
 rw [aLS (step:=fun s:List Int × Int=>mL xs s.1 s.2) xs (fun s=>(jF s).2) (fun s=>(jF s).1) (.inr ([],false)) .inl (fun k out x hk ho hx=>?_) (fun out=>by simp only [mL,dO];rfl),aC]
 ·by_cases h:xs.all (fun s=>(jF s).2)=true
  ·rw [if_pos h,if_pos h];rfl
  ·rw [if_neg h,if_neg h]
 ·obtain ⟨hk',rfl⟩:=aDg hx
  have hx2:=h2 _ (List.getElem_mem hk')
  simp only [mL,dC hk,if_pos,hx,aC,aHb hx2,cT hk (show xs.length < 4611686018427387904 by omega)]
  rw [dR (by simp [iU,ho];omega),aC]
  cases (jF xs[k]).2<;>simp
theorem aJR (s:aU) (h:s.length < 1000000000):kQ s [41]=some (if (s.getLast? == some 41)=true then s.dropLast else s):=by
 unfold kQ gH gM
 rcases List.eq_nil_or_concat s with rfl|⟨l,c,rfl⟩
 ·rfl
 ·have hl:(l.concat c).length=l.length+1:=by simp
  have w:wr (((l.concat c).length:Int) - (([41]:aU).length:Int))=(l.length:Int):=by
   rw [hl] at h ⊢
   show wr (((l.length+1:Nat):Int) - 1)=_
   rw [fN (by omega) (by omega)];omega
  have s1:tU (l.concat c) (l.length:Int) ((l.concat c).length:Int)=some [c]:=by
   unfold tU;rw [if_pos ⟨by omega,by omega,by simp⟩];simp
  have s2:tU (l.concat c) 0 (l.length:Int)=some l:=by
   unfold tU;rw [if_pos ⟨by omega,by omega,by simp⟩];simp
  rw [if_pos (by simp;omega),w,s1,aC,eY,aC]
  have hg:(l.concat c).getLast?=some c:=by simp
  have hd:(l.concat c).dropLast=l:=by simp
  rw [hg,hd]
  by_cases hc:c=41
  ·subst hc
   rw [if_pos (by simp),s2];simp
  ·rw [if_neg (by simpa using hc)]
   simp [hc]
theorem aIY (name:aU) (vs:List Int) (h1:name.length < 1000000000) (h2:vs.length < 1000000000) (h4:(Lib.join (vs.map Lib.itoa) [44]).length < 1000000000):
  aDs name vs=some (if name=cW then (cW,vs.length == 0) else if aBy name=true∧vs.length≤2∧vs.all aHd=true then (if vs.length=0 then name else name++[40]++Lib.join (vs.map Lib.itoa) [44]++[41],true) else ([],false)):=by
 unfold aDs
 by_cases hn:name=cW
 ·rw [if_pos (by simpa [cW] using hn),if_pos hn]
  simp only [cW,Option.some.injEq,Prod.mk.injEq,true_and]
  cases vs<;>simp;omega
 ·rw [if_neg (by simpa [cW] using hn),if_neg hn,aLO name (by omega),aC]
  by_cases ha:aBy name=true
  ·rw [if_neg (by simp [ha])]
   by_cases h3:vs.length≤2
   ·rw [if_neg (by simp;omega),aKV vs (by omega),aC]
    by_cases hv:vs.all aHd=true
    ·rw [if_pos ⟨ha,h3,hv⟩]
     simp only [hv,tZ,Bool.not_true,Bool.false_eq_true,if_false]
     by_cases h0:vs.length=0
     ·rw [if_pos (by simp [h0]),if_pos h0]
     ·rw [if_neg (by simpa using h0),if_neg h0,cat_of (by simp [iU];omega),aC,aKg vs _ h2 (fun x hx=>by
       have:=List.all_eq_true.1 hv x hx
       simp only [aHd,Bool.and_eq_true,decide_eq_true_eq] at this
       omega) (by simp only [iU];omega),aC,cat_of (by simp only [List.length_append,iU,List.length_singleton];omega),aC,cat_of (by simp only [List.length_append,iU,List.length_singleton];omega),aC]
    ·rw [if_neg (fun h=>hv h.2.2)]
     have:vs.all aHd=false:=by simpa using hv
     rw [this];rfl
   ·rw [if_pos (by simp;omega),if_neg (fun h=>h3 h.2.1)];rfl
  ·rw [if_pos (by simp [ha]),if_neg (fun h=>ha h.1)];rfl
theorem cutAt_len (b:UInt8) (s:aU):(jA b s).1.length≤s.length∧∀ r,(jA b s).2=some r→s.length=(jA b s).1.length+r.length+1:=by
 have ha:=aDG b s
 have hl:=congrArg List.length ha
 cases hc:(jA b s).2 with
 |none=>rw [hc] at hl;simp at hl;exact ⟨by omega,fun r h=>by cases h⟩
 |some r=>rw [hc] at hl;simp at hl;exact ⟨by omega,fun r' h=>by cases h;omega⟩
theorem aIZ (s:aU) (h:s.length < 1000000000):aBU s=some (oN s):=by
 unfold aBU aCU oN l_Cut
 rw [if_pos (by omega),aC,cut_eq]
 have ha:=aDG 40 s
 have hcl:=cutAt_len 40 s
 cases hc:(jA 40 s).2 with
 |none=>
  rw [hc] at ha;simp at ha
  simp only [Option.isSome_none,Option.getD_none]
  rw [if_neg (by simp),←ha]
  unfold oS
  rw [aIY s [] (by omega) (by simp) (by simp [Lib.join_nil]),aC]
  by_cases ht:s=cW
  ·subst ht;rw [if_pos rfl];rfl
  ·rw [if_neg ht]
   have:aGZ s=aBy s:=by unfold aBy;simp [ht]
   rw [this]
   cases hact:aBy s<;>simp [oR]
 |some r=>
  rw [hc] at ha
  have hlen:=hcl.2 r hc
  simp only at ha ⊢
  generalize hA:(jA 40 s).1=a at *
  simp only [Option.isSome_some,Option.getD_some,if_pos]
  rw [aJR r (by omega),aC]
  generalize hT:(if (r.getLast? == some 41)=true then r.dropLast else r)=t
  have htl:t.length≤r.length:=by rw [←hT];split<;>simp
  have hsp:aGf t [44]=some (spl 44 t):=by
   unfold aGf;rw [if_pos ⟨by omega,by simp⟩,aKf 44 _ _ (Nat.le_refl _)]
  have hsl:=spl_len 44 t
  rw [hsp,aC,aIX _ (by omega) (fun x hx=>by have:=hsl.2 x hx;omega),aC]
  by_cases hd:(spl 44 t).all (fun s=>(jF s).2)=true
  ·rw [if_pos hd,if_neg (by simp)]
   unfold oS
   have hj:Lib.join ((spl 44 t).map (fun s=>(jF s).1) |>.map Lib.itoa) [44]=t:=by
    have:((spl 44 t).map (fun s=>(jF s).1) |>.map Lib.itoa)=spl 44 t:=by
     rw [List.map_map]
     conv=>rhs;rw [←List.map_id (spl 44 t)]
     exact List.map_congr_left fun x hx=>aIT (List.all_eq_true.1 hd x hx)
    rw [this,spl_join]
   have hin:((spl 44 t).map (fun s=>(jF s).1)).all aHd=(spl 44 t).all pP:=by
    rw [List.all_map]
    refine Bool.eq_iff_iff.2 ?_
    simp only [List.all_eq_true]
    refine forall_congr' fun x=>forall_congr' fun hx=>?_
    rw [←aIV x]
    have:(jF x).2=true:=List.all_eq_true.1 hd x hx
    simp only [in63,this,Bool.true_and];rfl
   have h0:(spl 44 t).length≠0:=fun h=>aHa 44 t (List.length_eq_zero_iff.1 h)
   rw [aIY a _ (by omega) (by simp;omega) (by rw [hj];omega),aC,hj,hin,List.length_map]
   by_cases hta:a=cW
   ·rw [if_pos hta]
    have:aBy a=false:=by subst hta;decide
    rw [this]
    have e:((spl 44 t).length == 0)=false:=by simpa using h0
    rw [e];rfl
   ·rw [if_neg hta]
    by_cases hgood:aBy a=true∧(spl 44 t).length≤2∧(spl 44 t).all pP=true
    ·rw [if_pos hgood,if_neg h0]
     obtain ⟨g1,g2,g3⟩:=hgood
     by_cases hz:(r.getLast? == some 41)=true
     ·rw [if_pos hz] at hT
      subst hT
      have hr:r=r.dropLast++[41]:=by
       rcases List.eq_nil_or_concat r with rfl|⟨l,c,rfl⟩
       ·simp at hz
       ·simp at hz;subst hz;simp
      have hs:a++[40]++r.dropLast++[41]=s:=by
       conv=>rhs;rw [ha,hr]
       simp
      rw [hs,g1,hz,g3]
      simp [oR,g2]
     ·rw [if_neg hz] at hT
      subst hT
      have hs:¬ a++[40]++r++[41]=s:=by
       intro hh
       have:=congrArg List.length hh
       simp at this;omega
      have hz':(r.getLast? == some 41)=false:=by simpa using hz
      rw [hz']
      simp only [Bool.false_and,Bool.and_false,Bool.not_true,Bool.false_eq_true,if_false]
      have:((a++[40]++r++[41]) == s)=false:=by simpa using hs
      rw [this];rfl
    ·rw [if_neg hgood]
     have:(aBy a&&((r.getLast? == some 41)&&((spl 44 r.dropLast).all pP&&decide ((spl 44 r.dropLast).length≤2))))=false:=by
      refine Bool.eq_false_iff.2 fun hh=>hgood ?_
      simp only [Bool.and_eq_true,decide_eq_true_eq] at hh
      rw [if_pos hh.2.1] at hT
      subst hT
      exact ⟨hh.1,hh.2.2.2,hh.2.2.1⟩
     rw [this];rfl
  ·rw [if_neg hd]
   have:(aBy a&&((r.getLast? == some 41)&&((spl 44 r.dropLast).all pP&&decide ((spl 44 r.dropLast).length≤2))))=false:=by
    refine Bool.eq_false_iff.2 fun hh=>hd ?_
    simp only [Bool.and_eq_true,decide_eq_true_eq] at hh
    rw [if_pos hh.2.1] at hT
    subst hT
    refine List.all_eq_true.2 fun x hx=>?_
    have:=List.all_eq_true.1 hh.2.2.1 x hx
    rw [←aIV] at this
    simp only [in63,Bool.and_eq_true] at this
    exact this.1
   rw [this];rfl
end Gv
namespace Gv
open Go
noncomputable def cl (P:Prop):Bool:=@decide P (Classical.propDecidable P)
theorem aFP {P:Prop}:cl P=true↔P:=by unfold cl;exact @decide_eq_true_iff P (Classical.propDecidable P)
theorem aCN {P:Prop} (h:P):cl P=true:=aFP.2 h
theorem aAl {P:Prop} (h:¬ P):cl P=false:=by cases hx:cl P with|false=>rfl|true=>exact absurd (aFP.1 hx) h
theorem aGq {P:Prop} {b:Bool} (h:b=true↔P):cl P=b:=by
 cases b with
 |true=>exact aCN (h.1 rfl)
 |false=>exact aAl fun hp=>by have:=h.2 hp;cases this
theorem aFi {ρ:Type} {step:Int→Option (Int ⊕ ρ)} (n k0:Nat) (P:Nat→Prop) (r e:ρ) (hk:k0≤n)
  (h:∀ (k:Nat),k0≤k→k < n→step (k:Int)=if cl (P k)=true then some (.inl ((k+1:Nat):Int)) else some (.inr r))
  (h':step (n:Int)=some (.inr e)):loop step (k0:Int)=some (if cl (∀ k,k0≤k→k < n→P k)=true then e else r):=by
 obtain ⟨b,h1,h2⟩:=aGY (step:=step) n k0 (fun k=>cl (P k)) r e hk h h'
 rw [h2,aGq (b:=b) (by rw [h1];simp only [aFP])]
theorem oL:∀ a:aU,wU a a=false
 |[]=>rfl
 |c::r=>by unfold wU;simp [oL r]
theorem aHV:∀ a b:aU,wU a b=true∨a=b∨wU b a=true
 |[],[]=>.inr (.inl rfl)
 |[],_::_=>.inl rfl
 |_::_,[]=>.inr (.inr rfl)
 |c::r,d::q=>by
  unfold wU
  rcases Nat.lt_trichotomy c.toNat d.toNat with h|h|h
  ·left;simp [UInt8.lt_iff_toNat_lt,h]
  ·have:c=d:=UInt8.toNat_inj.1 h
   subst this
   rcases aHV r q with h|h|h
   ·left;simp [h]
   ·right;left;rw [h]
   ·right;right;simp [h]
  ·right;right;simp [UInt8.lt_iff_toNat_lt,h]
theorem xJ:∀ {a b c:aU},wU a b=true→wU b c=true→wU a c=true
 |[],[],_,h,_=>by cases h
 |[],_::_,[],_,h=>by cases h
 |[],_::_,_::_,_,_=>rfl
 |_::_,[],_,h,_=>by cases h
 |_::_,_::_,[],_,h=>by cases h
 |c::r,d::q,e::p,h1,h2=>by
  unfold wU at h1 h2 ⊢
  simp only [Bool.or_eq_true,Bool.and_eq_true,decide_eq_true_eq,beq_iff_eq,UInt8.lt_iff_toNat_lt] at h1 h2 ⊢
  rcases h1 with h1|⟨h1,g1⟩<;>rcases h2 with h2|⟨h2,g2⟩
  ·left;omega
  ·left;rw [←h2];exact h1
  ·left;rw [h1];exact h2
  ·right;exact ⟨h1.trans h2,xJ g1 g2⟩
theorem aKh {a b:aU} (h:wU a b=true):wU b a=false:=by
 cases hx:wU b a with
 |false=>rfl
 |true=>have:=xJ h hx;rw [oL] at this;cases this
theorem ltB_ge (a b:aU):(wU b a||b == a)=!wU a b:=by
 rcases aHV a b with h|h|h
 ·rw [h,aKh h]
  have:¬ b=a:=by intro e;subst e;rw [oL] at h;cases h
  simp [this]
 ·subst h;simp [oL]
 ·rw [h,aKh h];rfl
def aBA (xs:List aU):Prop:=(∀ s∈xs,oN s=true∧s≠cW)∧∀ k,1≤k→(hk:k < xs.length)→wU (xs[k - 1]'(by omega)) xs[k]=true
theorem aKW (xs:List aU) (h:xs.length < 1000000000) (h2:∀ s∈xs,s.length < 1000000000):aBg xs=some (xs.all oN):=by
 unfold aBg fJ fY
 rw [aBZ (step:=fun s=>dU xs s) xs (fun x=>!oN x) (fun k x hk hx=>by
  obtain ⟨hk',rfl⟩:=aDg hx
  simp only [dU,dC hk,if_pos,hx,aC,cT hk (show xs.length < 4611686018427387904 by omega),yY,aIZ _ (h2 _ (List.getElem_mem hk'))]) (by simp only [dU,dO];rfl),aC]
 have:=aIW xs (fun x=>!oN x)
 have e:(xs.any fun x=>!oN x)=!xs.all oN:=by simp [List.any_eq_not_all_not]
 rw [e] at this
 cases hf:xs.findIdx? (fun x=>!oN x) with
 |none=>rw [hf] at this;simp only [Option.isSome_none] at this;cases hx:xs.all oN<;>rw [hx] at this<;>first|rfl|cases this
 |some i=>
  rw [hf] at this;simp only [Option.isSome_some] at this
  simp only [aC]
  rw [decide_eq_true (p:=(0:Int)≤(i:Int)) (by omega)]
  cases hx:xs.all oN<;>rw [hx] at this<;>first|rfl|cases this
theorem aJS (xs:List aU) (h:xs.length < 1000000000) (h2:∀ s∈xs,s.length < 1000000000):yZ xs=some (xs.all fun s=>oN s&&!(s == cW)):=by
 unfold yZ
 rw [aKW xs h h2,aC,aKU xs _ (by omega),aC]
 rw [show ([116,97,117]:aU)=cW from rfl]
 have:(xs.all fun s=>oN s&&!(s == cW))=(xs.all oN&&!(xs.any fun x=>cW == x)):=by
  refine Bool.eq_iff_iff.2 ?_
  simp only [List.all_eq_true,Bool.and_eq_true,Bool.not_eq_true',List.any_eq_false,beq_iff_eq,beq_eq_false_iff_ne,ne_eq]
  exact ⟨fun h=>⟨fun x hx=>(h x hx).1,fun x hx e=>(h x hx).2 e.symm⟩,fun h x hx=>⟨h.1 x hx,fun e=>h.2 x hx e.symm⟩⟩
 rw [this]
 cases xs.all oN<;>rfl
end Gv
