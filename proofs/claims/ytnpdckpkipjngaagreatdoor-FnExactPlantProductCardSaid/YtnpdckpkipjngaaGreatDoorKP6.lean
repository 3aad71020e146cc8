/- Validity of transition systems, on both sides. -/
import Derived.Test.YtnpdckpkipjngaaGreatDoorKP1
set_option linter.all false
namespace Gv
open Go
def qV (xs:List aZ):Prop:=1≤xs.length∧xs.length≤12∧(∀ h:0 < xs.length,xs[0]=dY)∧∀ k,1≤k→(hk:k < xs.length)→lW xs[k]=true∧xs[k]≠dY∧(2≤k→qW (xs[k - 1]'(by omega)) xs[k]=true)
theorem isLab_tau:lW dY=true:=by decide
theorem aNp (xs:List aZ) (h2:∀ s∈xs,s.length < 1000000000):aBz xs=some (cl (qV xs)):=by
 unfold aBz
 by_cases h0:xs.length=0
 ·rw [if_pos (by simp [h0]),iL (P:=qV xs) (fun h=>by have:=h.1;omega)];rfl
 rw [if_neg (by simpa using h0)]
 by_cases h12:12 < xs.length
 ·rw [if_pos (by simp;omega),iL (P:=qV xs) (fun h=>by have:=h.2.1;omega)];rfl
 rw [if_neg (by simp;omega),show (0:Int)=((0:Nat):Int) from rfl,cO (xs:=xs) (k:=0) (by omega),aI,show ([116,97,117]:aZ)=dY from rfl]
 unfold qC
 by_cases ht:xs[0]'(by omega)=dY
 ·rw [if_neg (by simp [ht])]
  have:=mN (step:=fun s=>qB xs s) xs.length 1 (fun k=>∀ hk:k < xs.length,1≤k→lW xs[k]=true∧xs[k]≠dY∧(2≤k→qW (xs[k - 1]'(by omega)) xs[k]=true)) (.inr false) (.inl ()) (by omega) (fun k h0 hk=>?_) (by simp only [qB,bT];rfl)
  ·rw [show (1:Int)=((1:Nat):Int) from rfl,this,aI]
   by_cases hs:∀ k,1≤k→k < xs.length→∀ hk:k < xs.length,1≤k→lW xs[k]=true∧xs[k]≠dY∧(2≤k→qW (xs[k - 1]'(by omega)) xs[k]=true)
   ·rw [if_pos (jI hs),jI (P:=qV xs) ⟨by omega,by omega,fun _=>ht,fun k h1 hk=>hs k h1 hk hk h1⟩];rfl
   ·rw [if_neg (by rw [iG];exact hs),iL (P:=qV xs) (fun h=>hs fun k h1 hk _ _=>h.2.2.2 k h1 hk)]
  ·simp only [qB,cB hk,if_pos,cO hk,aI,aIj _ (h2 _ (List.getElem_mem hk)),nF,bV hk (show xs.length < 4611686018427387904 by omega)]
   rw [show ([116,97,117]:aZ)=dY from rfl]
   by_cases hl:lW xs[k]=true
   ·rw [hl]
    by_cases htk:xs[k]=dY
    ·have:(xs[k] == dY)=true:=by simp [htk]
     rw [this,iL (fun h=>(h hk h0).2.1 htk)];rfl
    ·have:(xs[k] == dY)=false:=by simp [htk]
     rw [this]
     by_cases hk2:2≤k
     ·have hk1:wr ((k:Int) - 1)=((k - 1:Nat):Int):=by rw [fL (by omega) (by omega)];omega
      rw [decide_eq_true (p:=(1:Int) < (k:Int)) (by omega),hk1,cO (xs:=xs) (k:=k - 1) (by omega)]
      rw [aAS (b:=qW (xs[k - 1]'(by omega)) xs[k]) ⟨fun h _ _=>⟨hl,htk,fun _=>h⟩,fun h=>(h hk h0).2.2 hk2⟩]
      simp only [Bool.not_true,Bool.false_eq_true,if_false,if_pos,aI]
      cases qW (xs[k - 1]'(by omega)) xs[k]<;>rfl
     ·rw [decide_eq_false (p:=(1:Int) < (k:Int)) (by omega),jI (fun _ _=>⟨hl,htk,fun h=>absurd h hk2⟩)];rfl
   ·rw [iL (fun h=>hl (h hk h0).1)]
    rw [Bool.not_eq_true] at hl
    rw [hl];rfl
 ·rw [if_pos (by simp [ht]),iL (P:=qV xs) (fun h=>ht (h.2.2.1 (by omega)))]
def zD (t:cH) (e:Edge):Prop:=(0≤e.F∧e.F≤t.N - 1)∧(0≤e.To∧e.To≤t.N - 1)∧0≤e.B∧e.B≤(t.L.length:Int) - 1
def EdgesOk (t:cH):Prop:=t.E.length≤300∧∀ k,(hk:k < t.E.length)→zD t t.E[k]∧(1≤k→dP (t.E[k - 1]'(by omega)) t.E[k]=true)
def cT (t:cH):Prop:=(1≤t.N∧t.N≤40)∧(0≤t.I∧t.I≤t.N - 1)∧qV t.L∧EdgesOk t
theorem aJo (a b:Edge):aBk a b=some (dP a b):=by
 obtain ⟨a1,a2,a3⟩:=a;obtain ⟨b1,b2,b3⟩:=b
 simp only [aBk,dP]
 by_cases h1:a1=b1<;>by_cases h2:a2=b2<;>simp [h1,h2]
theorem kW (n a b:Int):(decide (a≤n)&&decide (n≤b))=true↔a≤n∧n≤b:=by simp
theorem oX {n a b:Int} (h:¬ (a≤n∧n≤b)):(decide (a≤n)&&decide (n≤b))=false:=by
 cases hx:(decide (a≤n)&&decide (n≤b)) with
 |false=>rfl
 |true=>exact absurd ((kW _ _ _).1 hx) h
theorem aNq (t:cH) (hf:gZ 999999999 t):aDJ t=some (cl (cT t)):=by
 obtain ⟨f1,f2,f3⟩:=hf
 unfold aDJ
 rw [aFg,aI]
 by_cases na:¬ (1≤t.N∧t.N≤40)
 ·rw [oX na,Bool.not_false,if_pos rfl,iL (P:=cT t) (fun h=>na h.1)];rfl
 have a1:1≤t.N∧t.N≤40:=Classical.not_not.1 na
 have w1:wr (t.N - 1)=t.N - 1:=fL (by omega) (by omega)
 rw [if_neg (by rw [←kW] at a1;simp [a1]),w1,aFg,aI]
 by_cases na:¬ (0≤t.I∧t.I≤t.N - 1)
 ·rw [oX na,Bool.not_false,if_pos rfl,iL (P:=cT t) (fun h=>na h.2.1)];rfl
 have a2:0≤t.I∧t.I≤t.N - 1:=Classical.not_not.1 na
 rw [if_neg (by rw [←kW] at a2;simp [a2]),aNp _ (fun s hs=>by have:=f2 s hs;omega),aI]
 by_cases na:¬ qV t.L
 ·rw [if_pos (by rw [iL na];rfl),iL (P:=cT t) (fun h=>na h.2.2.1)];rfl
 have a3:qV t.L:=Classical.not_not.1 na
 rw [if_neg (by rw [jI a3];simp)]
 unfold vJ
 by_cases h300:300 < t.E.length
 ·rw [if_pos (by simp;omega),iL (P:=cT t) (fun h=>by have:=h.2.2.2.1;omega)]
 rw [if_neg (by simp;omega)]
 have:=mN (step:=fun s=>yX t s) t.E.length 0 (fun k=>∀ hk:k < t.E.length,zD t t.E[k]∧(1≤k→dP (t.E[k - 1]'(by omega)) t.E[k]=true)) (.inr false) (.inl ()) (Nat.zero_le _) (fun k h0 hk=>?_) (by simp only [yX,bT];rfl)
 ·rw [show (0:Int)=((0:Nat):Int) from rfl,this,aI]
  by_cases hs:∀ k,0≤k→k < t.E.length→∀ hk:k < t.E.length,zD t t.E[k]∧(1≤k→dP (t.E[k - 1]'(by omega)) t.E[k]=true)
  ·rw [if_pos (jI hs),jI (P:=cT t) ⟨a1,a2,a3,by omega,fun k hk=>hs k (by omega) hk hk⟩];rfl
  ·rw [if_neg (by rw [iG];exact hs),iL (P:=cT t) (fun h=>hs fun k _ hk _=>h.2.2.2.2 k hk)]
 ·have wl:wr ((t.L.length:Int) - 1)=(t.L.length:Int) - 1:=fL (by omega) (by omega)
  simp only [yX,cB hk,if_pos,cO hk,aI,aFg,w1,wl,yW,aBA,aJo,bV hk (show t.E.length < 4611686018427387904 by omega)]
  generalize he:t.E[k]=e
  by_cases n1:¬ (0≤e.F∧e.F≤t.N - 1)
  ·have:(decide (0≤e.F)&&decide (e.F≤t.N - 1))=false:=oX n1
   rw [this,iL (fun h=>by have:=(h hk).1.1;rw [he] at this;exact n1 this)];rfl
  rw [(kW _ _ _).2 (Classical.not_not.1 n1)]
  by_cases n2:¬ (0≤e.To∧e.To≤t.N - 1)
  ·have:(decide (0≤e.To)&&decide (e.To≤t.N - 1))=false:=oX n2
   rw [this,iL (fun h=>by have:=(h hk).1.2.1;rw [he] at this;exact n2 this)];rfl
  rw [(kW _ _ _).2 (Classical.not_not.1 n2)]
  by_cases n3:¬ (0≤e.B∧e.B≤(t.L.length:Int) - 1)
  ·have:(decide (0≤e.B)&&decide (e.B≤(t.L.length:Int) - 1))=false:=oX n3
   rw [this,iL (fun h=>by have:=(h hk).1.2.2;rw [he] at this;exact n3 this)];rfl
  rw [(kW _ _ _).2 (Classical.not_not.1 n3)]
  have hin:zD t t.E[k]:=by rw [he];exact ⟨Classical.not_not.1 n1,Classical.not_not.1 n2,Classical.not_not.1 n3⟩
  by_cases h1:1≤k
  ·have hk1:wr ((k:Int) - 1)=((k - 1:Nat):Int):=by rw [fL (by omega) (by omega)];omega
   rw [decide_eq_true (p:=(0:Int) < (k:Int)) (by omega),hk1,cO (xs:=t.E) (k:=k - 1) (by omega)]
   rw [aAS (b:=dP (t.E[k - 1]'(by omega)) e) ⟨fun h _=>⟨hin,fun _=>by rw [he];exact h⟩,fun h=>by have:=(h hk).2 h1;rw [he] at this;exact this⟩]
   simp only [Bool.not_true,Bool.false_eq_true,if_false,if_pos,aI]
   cases dP (t.E[k - 1]'(by omega)) e<;>rfl
  ·rw [decide_eq_false (p:=(0:Int) < (k:Int)) (by omega),jI (fun _=>⟨hin,fun h=>absurd h h1⟩)]
   simp only [Bool.not_true,Bool.false_eq_true,if_false];rfl
def aIs (a b:Int):Int:=if a < b then -1 else if b < a then 1 else 0
theorem aGs (a b:Int):eN a b=some (aIs a b):=by
 unfold eN jR aIs
 by_cases h1:a < b<;>by_cases h2:b < a<;>simp [h1,h2]
def or3 (a b c:Int):Int:=if a≠0 then a else if b≠0 then b else c
theorem Or_eq (a b c:Int):uL [a,b,c]=some (or3 a b c):=by
 unfold uL or3
 have s0:gD [a,b,c] 0=if a≠0 then some (.inr (.inr a)) else some (.inl 1):=by
  simp only [gD,show ix [a,b,c] 0=some a from rfl,aI]
  by_cases h:a=0<;>simp [h]<;>rfl
 have s1:gD [a,b,c] 1=if b≠0 then some (.inr (.inr b)) else some (.inl 2):=by
  simp only [gD,show ix [a,b,c] 1=some b from rfl,aI]
  by_cases h:b=0<;>simp [h]<;>rfl
 have s2:gD [a,b,c] 2=if c≠0 then some (.inr (.inr c)) else some (.inl 3):=by
  simp only [gD,show ix [a,b,c] 2=some c from rfl,aI]
  by_cases h:c=0<;>simp [h]<;>rfl
 have s3:gD [a,b,c] 3=some (.inr (.inl ())):=rfl
 by_cases h1:a=0
 ·by_cases h2:b=0
  ·by_cases h3:c=0
   ·rw [bM,s0,if_neg (by simp [h1])];simp only
    rw [bM,s1,if_neg (by simp [h2])];simp only
    rw [bM,s2,if_neg (by simp [h3])];simp only
    rw [bM,s3]
    simp [h1,h2,h3,oK]
   ·rw [bM,s0,if_neg (by simp [h1])];simp only
    rw [bM,s1,if_neg (by simp [h2])];simp only
    rw [bM,s2,if_pos (by simp [h3])]
    simp [h1,h2]
  ·rw [bM,s0,if_neg (by simp [h1])];simp only
   rw [bM,s1,if_pos h2]
   simp [h1,h2]
 ·rw [bM,s0,if_pos h1]
  simp [h1]
theorem aEr (a b:Edge):rY a b=some (or3 (aIs a.F b.F) (aIs a.B b.B) (aIs a.To b.To)):=by
 unfold rY
 rw [aGs,aI,aGs,aI,aGs,aI,Or_eq];rfl
theorem cmpE_ge (a b:Edge):decide (0≤or3 (aIs a.F b.F) (aIs a.B b.B) (aIs a.To b.To))=!dP a b:=by
 obtain ⟨a1,a2,a3⟩:=a;obtain ⟨b1,b2,b3⟩:=b
 simp only [dP,or3,aIs]
 rcases Int.lt_trichotomy a1 b1 with h1|h1|h1<;>rcases Int.lt_trichotomy a2 b2 with h2|h2|h2<;>rcases Int.lt_trichotomy a3 b3 with h3|h3|h3<;>
  simp [h1,h2,h3,Int.not_lt_of_ge,Int.le_of_lt,Int.ne_of_lt,Int.ne_of_gt]<;>omega
theorem aGt (t:cH) (k:Int) (h:-9223372036854775807≤t.N∧t.N≤9223372036854775807):lL t k=some (decide (0≤k)&&decide (k≤t.N - 1)):=by
 unfold lL
 rw [aDj,fL (by omega) (by omega)];rfl
theorem index_eq (k:Int) (n:Nat) (h:n < 1000000000):aGR k (n:Int)=some (decide (0≤k)&&decide (k≤(n:Int) - 1)):=by
 unfold aGR
 rw [aDj,fL (by omega) (by omega)];rfl
theorem wO (t:cH) (hf:gZ 999999999 t):nI t=some (cl (cT t)):=by
 obtain ⟨f1,f2,f3⟩:=hf
 unfold nI
 rw [aDj,aI]
 by_cases na:¬ (1≤t.N∧t.N≤40)
 ·rw [oX na,Bool.not_false,if_pos rfl,iL (P:=cT t) (fun h=>na h.1)];rfl
 have a1:1≤t.N∧t.N≤40:=Classical.not_not.1 na
 have hst:-9223372036854775807≤t.N∧t.N≤9223372036854775807:=by omega
 rw [if_neg (by rw [←kW] at a1;simp [a1]),aGt t _ hst,aI]
 by_cases na:¬ (0≤t.I∧t.I≤t.N - 1)
 ·rw [oX na,Bool.not_false,if_pos rfl,iL (P:=cT t) (fun h=>na h.2.1)];rfl
 have a2:0≤t.I∧t.I≤t.N - 1:=Classical.not_not.1 na
 rw [if_neg (by rw [←kW] at a2;simp [a2]),aDj,aI]
 by_cases na:¬ (1≤(t.L.length:Int)∧(t.L.length:Int)≤12)
 ·rw [oX na,Bool.not_false,if_pos rfl,iL (P:=cT t) (fun h=>by have h1:=h.2.2.1.1;have h2:=h.2.2.1.2.1;omega)];rfl
 have a3:1≤(t.L.length:Int)∧(t.L.length:Int)≤12:=Classical.not_not.1 na
 rw [if_neg (by rw [←kW] at a3;simp [a3])]
 unfold nH
 by_cases h300:300 < t.E.length
 ·rw [if_pos (by simp;omega),iL (P:=cT t) (fun h=>by have:=h.2.2.2.1;omega)]
 rw [if_neg (by simp;omega)]
 have hlabs:=mN (step:=fun s=>qF t s) t.L.length 0 (fun k=>∀ hk:k < t.L.length,lW t.L[k]=true∧(t.L[k]=dY↔k=0)∧(2≤k→qW (t.L[k - 1]'(by omega)) t.L[k]=true)) (.inr false) (.inl ()) (Nat.zero_le _) (fun k h0 hk=>?_) (by simp only [qF,bT];rfl)
 ·rw [show (0:Int)=((0:Nat):Int) from rfl,hlabs,aI]
  by_cases hs:∀ k,0≤k→k < t.L.length→∀ hk:k < t.L.length,lW t.L[k]=true∧(t.L[k]=dY↔k=0)∧(2≤k→qW (t.L[k - 1]'(by omega)) t.L[k]=true)
  ·rw [if_pos (jI hs)]
   have a4:qV t.L:=⟨by omega,by omega,fun h=>(hs 0 (by omega) h h).2.1.2 rfl,fun k h1 hk=>⟨(hs k (by omega) hk hk).1,fun e=>by have:=(hs k (by omega) hk hk).2.1.1 e;omega,(hs k (by omega) hk hk).2.2⟩⟩
   simp only
   unfold uM
   have:=mN (step:=fun s=>qE t s) t.E.length 0 (fun k=>∀ hk:k < t.E.length,zD t t.E[k]∧(1≤k→dP (t.E[k - 1]'(by omega)) t.E[k]=true)) (.inr false) (.inl ()) (Nat.zero_le _) (fun k h0 hk=>?_) (by simp only [qE,bT];rfl)
   ·rw [show (0:Int)=((0:Nat):Int) from rfl,this,aI]
    by_cases hs:∀ k,0≤k→k < t.E.length→∀ hk:k < t.E.length,zD t t.E[k]∧(1≤k→dP (t.E[k - 1]'(by omega)) t.E[k]=true)
    ·rw [if_pos (jI hs),jI (P:=cT t) ⟨a1,a2,a4,by omega,fun k hk=>hs k (by omega) hk hk⟩];rfl
    ·rw [if_neg (by rw [iG];exact hs),iL (P:=cT t) (fun h=>hs fun k _ hk _=>h.2.2.2.2 k hk)]
   ·simp only [qE,cB hk,if_pos,cO hk,aI,aGt t _ hst,index_eq _ _ (show t.L.length < 1000000000 by omega),lM,aEr,cmpE_ge,bV hk (show t.E.length < 4611686018427387904 by omega)]
    generalize he:t.E[k]=e
    by_cases n1:¬ (0≤e.F∧e.F≤t.N - 1)
    ·have:(decide (0≤e.F)&&decide (e.F≤t.N - 1))=false:=oX n1
     rw [this,iL (fun h=>by have:=(h hk).1.1;rw [he] at this;exact n1 this)];rfl
    rw [(kW _ _ _).2 (Classical.not_not.1 n1)]
    by_cases n2:¬ (0≤e.To∧e.To≤t.N - 1)
    ·have:(decide (0≤e.To)&&decide (e.To≤t.N - 1))=false:=oX n2
     rw [this,iL (fun h=>by have:=(h hk).1.2.1;rw [he] at this;exact n2 this)];rfl
    rw [(kW _ _ _).2 (Classical.not_not.1 n2)]
    by_cases n3:¬ (0≤e.B∧e.B≤(t.L.length:Int) - 1)
    ·have:(decide (0≤e.B)&&decide (e.B≤(t.L.length:Int) - 1))=false:=oX n3
     rw [this,iL (fun h=>by have:=(h hk).1.2.2;rw [he] at this;exact n3 this)];rfl
    rw [(kW _ _ _).2 (Classical.not_not.1 n3)]
    have hin:zD t t.E[k]:=by rw [he];exact ⟨Classical.not_not.1 n1,Classical.not_not.1 n2,Classical.not_not.1 n3⟩
    by_cases h1:1≤k
    ·have hk1:wr ((k:Int) - 1)=((k - 1:Nat):Int):=by rw [fL (by omega) (by omega)];omega
     rw [decide_eq_true (p:=(0:Int) < (k:Int)) (by omega),hk1,cO (xs:=t.E) (k:=k - 1) (by omega)]
     rw [aAS (b:=dP (t.E[k - 1]'(by omega)) e) ⟨fun h _=>⟨hin,fun _=>by rw [he];exact h⟩,fun h=>by have:=(h hk).2 h1;rw [he] at this;exact this⟩]
     simp only [Bool.not_true,Bool.false_eq_true,if_false,if_pos,aI]
     cases dP (t.E[k - 1]'(by omega)) e<;>rfl
    ·rw [decide_eq_false (p:=(0:Int) < (k:Int)) (by omega),jI (fun _=>⟨hin,fun h=>absurd h h1⟩)]
     simp only [Bool.not_true,Bool.false_eq_true,if_false];rfl
  ·rw [if_neg (by rw [iG];exact hs),iL (P:=cT t) (fun h=>hs fun k _ hk _=>?_)]
   obtain ⟨l1,l2,l3,l4⟩:=h.2.2.1
   by_cases hk0:k=0
   ·subst hk0
    exact ⟨by rw [l3 hk];exact isLab_tau,⟨fun _=>rfl,fun _=>l3 hk⟩,fun h=>by omega⟩
   ·have:=l4 k (by omega) hk
    exact ⟨this.1,⟨fun e=>absurd e this.2.1,fun e=>absurd e hk0⟩,this.2.2⟩
 ·simp only [qF,cB hk,if_pos,cO hk,aI,aJn _ (show t.L[k].length < 1000000000 by have:=f2 _ (List.getElem_mem hk);omega),nG,bV hk (show t.L.length < 4611686018427387904 by omega),aLY]
  rw [show ([116,97,117]:aZ)=dY from rfl]
  by_cases hl:lW t.L[k]=true
  ·rw [hl]
   have e0:((k:Int) == 0)=decide (k=0):=by by_cases e:k=0<;>simp [e]
   by_cases htk:(t.L[k]=dY↔k=0)
   ·have:((t.L[k] == dY) != ((k:Int) == 0))=false:=by
     rw [e0]
     by_cases e:k=0
     ·have:=htk.2 e;rw [this];simp [e]
     ·have:¬ t.L[k]=dY:=fun h=>e (htk.1 h)
      simp [this,e]
    rw [this]
    by_cases hk2:2≤k
    ·have hk1:wr ((k:Int) - 1)=((k - 1:Nat):Int):=by rw [fL (by omega) (by omega)];omega
     rw [decide_eq_true (p:=(1:Int) < (k:Int)) (by omega),hk1,cO (xs:=t.L) (k:=k - 1) (by omega)]
     rw [aAS (b:=qW (t.L[k - 1]'(by omega)) t.L[k]) ⟨fun h _=>⟨hl,htk,fun _=>h⟩,fun h=>(h hk).2.2 hk2⟩]
     simp only [Bool.not_true,Bool.false_eq_true,if_false,if_pos,aI,aLY]
     cases qW (t.L[k - 1]'(by omega)) t.L[k]<;>rfl
    ·rw [decide_eq_false (p:=(1:Int) < (k:Int)) (by omega),jI (fun _=>⟨hl,htk,fun h=>absurd h hk2⟩)];rfl
   ·have:((t.L[k] == dY) != ((k:Int) == 0))=true:=by
     rw [e0]
     by_cases e:k=0
     ·have:¬ t.L[k]=dY:=fun h=>htk ⟨fun _=>e,fun _=>h⟩
      rw [beq_false_of_ne this];simp [e]
     ·have:t.L[k]=dY:=Classical.byContradiction fun h=>htk ⟨fun h'=>absurd h' h,fun h'=>absurd h' e⟩
      simp [this,e]
    rw [this,iL (fun h=>htk (h hk).2.1)];rfl
  ·rw [iL (fun h=>hl (h hk).1)]
   rw [Bool.not_eq_true] at hl
   rw [hl];rfl
def iQ (t:cH):Prop:=∀ k,(hk:k < t.E.length)→t.E[k].B≠0∧(1≤k→¬ (t.E[k].F=(t.E[k - 1]'(by omega)).F∧t.E[k].B=(t.E[k - 1]'(by omega)).B))
theorem aHd (t:cH) (h:t.E.length < 1000000000):vU t=some (cl (iQ t)):=by
 unfold vU
 have:=mN (step:=fun s=>oH t s) t.E.length 0 (fun k=>∀ hk:k < t.E.length,t.E[k].B≠0∧(1≤k→¬ (t.E[k].F=(t.E[k - 1]'(by omega)).F∧t.E[k].B=(t.E[k - 1]'(by omega)).B))) (.inr false) (.inl ()) (Nat.zero_le _) (fun k h0 hk=>?_) (by simp only [oH,bT];rfl)
 ·rw [show (0:Int)=((0:Nat):Int) from rfl,this,aI]
  by_cases hs:iQ t
  ·rw [if_pos (jI fun k _ hk _=>hs k hk),jI hs];rfl
  ·rw [if_neg (by rw [iG];exact fun h=>hs fun k hk=>h k (by omega) hk hk),iL hs]
 ·simp only [oH,cB hk,if_pos,cO hk,aI,lU,bV hk (show t.E.length < 4611686018427387904 by omega)]
  by_cases hl:t.E[k].B=0
  ·rw [if_pos (by simpa using hl),iL (fun h=>(h hk).1 hl)];rfl
  ·rw [if_neg (by simpa using hl)]
   by_cases h1:1≤k
   ·have hk1:wr ((k:Int) - 1)=((k - 1:Nat):Int):=by rw [fL (by omega) (by omega)];omega
    rw [decide_eq_true (p:=(0:Int) < (k:Int)) (by omega),hk1,cO (xs:=t.E) (k:=k - 1) (by omega)]
    simp only [if_pos,aI]
    by_cases a:t.E[k].F=(t.E[k - 1]'(by omega)).F
    ·rw [if_pos (by simpa using a)]
     by_cases b:t.E[k].B=(t.E[k - 1]'(by omega)).B
     ·rw [if_pos (by simpa using b),iL (fun h=>(h hk).2 h1 ⟨a,b⟩)];rfl
     ·rw [if_neg (by simpa using b),jI (fun _=>⟨hl,fun _ h=>b h.2⟩)];rfl
    ·rw [if_neg (by simpa using a),jI (fun _=>⟨hl,fun _ h=>a h.1⟩)];rfl
   ·rw [decide_eq_false (p:=(0:Int) < (k:Int)) (by omega),jI (fun _=>⟨hl,fun h=>absurd h h1⟩)];rfl
theorem aHe (t:cH) (hf:gZ 999999999 t):fQ t=some (cl (cT t∧iQ t)):=by
 unfold fQ
 rw [wO t hf,aI]
 by_cases nv:¬ cT t
 ·rw [if_pos (by rw [iL nv];rfl),iL (fun h=>nv h.1)]
 have hv:cT t:=Classical.not_not.1 nv
 have h:t.E.length≤300:=hv.2.2.2.1
 rw [if_neg (by rw [jI hv];simp)]
 have:=mN (step:=fun s=>gM t s) t.E.length 0 (fun k=>∀ hk:k < t.E.length,t.E[k].B≠0∧(1≤k→¬ (t.E[k].F=(t.E[k - 1]'(by omega)).F∧t.E[k].B=(t.E[k - 1]'(by omega)).B))) (.inr false) (.inl ()) (Nat.zero_le _) (fun k h0 hk=>?_) (by simp only [gM,bT];rfl)
 ·rw [show (0:Int)=((0:Nat):Int) from rfl,this,aI]
  by_cases hs:iQ t
  ·rw [if_pos (jI fun k _ hk _=>hs k hk),jI (P:=cT t∧iQ t) ⟨hv,hs⟩];rfl
  ·rw [if_neg (by rw [iG];exact fun h=>hs fun k hk=>h k (by omega) hk hk),iL (fun h:cT t∧iQ t=>hs h.2)]
 ·simp only [gM,cB hk,if_pos,cO hk,aI,fM,bV hk (show t.E.length < 4611686018427387904 by omega)]
  by_cases hl:t.E[k].B=0
  ·rw [if_pos (by simpa using hl),iL (fun h=>(h hk).1 hl)];rfl
  ·rw [if_neg (by simpa using hl)]
   by_cases h1:1≤k
   ·have hk1:wr ((k:Int) - 1)=((k - 1:Nat):Int):=by rw [fL (by omega) (by omega)];omega
    rw [decide_eq_true (p:=(0:Int) < (k:Int)) (by omega),hk1,cO (xs:=t.E) (k:=k - 1) (by omega)]
    simp only [if_pos,aI]
    by_cases a:t.E[k].F=(t.E[k - 1]'(by omega)).F
    ·rw [if_pos (by simpa using a.symm)]
     by_cases b:t.E[k].B=(t.E[k - 1]'(by omega)).B
     ·rw [if_pos (by simpa using b.symm),iL (fun h=>(h hk).2 h1 ⟨a,b⟩)];rfl
     ·rw [if_neg (by simpa using fun h=>b (Eq.symm h)),jI (fun _=>⟨hl,fun _ h=>b h.2⟩)];rfl
    ·rw [if_neg (by simpa using fun h=>a (Eq.symm h)),jI (fun _=>⟨hl,fun _ h=>a h.1⟩)];rfl
   ·rw [decide_eq_false (p:=(0:Int) < (k:Int)) (by omega),jI (fun _=>⟨hl,fun h=>absurd h h1⟩)];rfl
end Gv
namespace Gv
open Go
theorem aJp {α:Type} {R:α→α→Prop} (tr:∀ {a b c},R a b→R b c→R a c) {xs:List α} (h:∀ k,1≤k→(hk:k < xs.length)→R (xs[k - 1]'(by omega)) xs[k]) {i j:Nat} (hij:i < j) (hj:j < xs.length):R (xs[i]'(by omega)) xs[j]:=by
 induction j with
 |zero=>omega
 |succ j ih=>
  have h1:=h (j+1) (by omega) hj
  simp only [Nat.add_sub_cancel] at h1
  by_cases e:i=j
  ·subst e;exact h1
  ·exact tr (ih (by omega) (by omega)) h1
def txt (t:cH) (e:Edge):aZ:=t.L.getD e.B.toNat []
def aAO (a b:Edge):Prop:=a.F < b.F∨(a.F=b.F∧a.B < b.B)
theorem aOC {a b c:Edge} (h1:aAO a b) (h2:aAO b c):aAO a c:=by
 unfold aAO at *;omega
theorem aNr {t:cH} (hv:cT t) (hs:iQ t) {i j:Nat} (hij:i < j) (hj:j < t.E.length):aAO (t.E[i]'(by omega)) t.E[j]:=by
 refine aJp (R:=aAO) aOC (fun k h1 hk=>?_) hij hj
 have a:=(hv.2.2.2.2 k hk).2 h1
 have b:=(hs k hk).2 h1
 unfold dP at a
 simp only [Bool.or_eq_true,Bool.and_eq_true,decide_eq_true_eq,beq_iff_eq] at a
 unfold aAO
 rcases a with a|⟨a1,a|⟨a2,_⟩⟩
 ·exact .inl a
 ·exact .inr ⟨a1,a⟩
 ·exact absurd ⟨a1.symm,a2.symm⟩ b
theorem aMa {xs:List aZ} (h:qV xs) {i j:Nat} (hi:1≤i) (hij:i < j) (hj:j < xs.length):qW (xs[i]'(by omega)) xs[j]=true:=by
 induction j with
 |zero=>omega
 |succ j ih=>
  have h1:=(h.2.2.2 (j+1) (by omega) hj).2.2 (by omega)
  simp only [Nat.add_sub_cancel] at h1
  by_cases e:i=j
  ·subst e;exact h1
  ·exact aDk (ih (by omega) (by omega)) h1
theorem aHf {xs:List aZ} (h:qV xs) {i j:Nat} (hi:i < xs.length) (hj:j < xs.length) (e:xs[i]=xs[j]):i=j:=by
 have key:∀ i j,(hij:i < j)→(hj:j < xs.length)→xs[i]'(by omega)≠xs[j]:=by
  intro i j hij hj e
  by_cases h0:i=0
  ·subst h0
   rw [h.2.2.1 (by omega)] at e
   exact (h.2.2.2 j (by omega) hj).2.1 e.symm
  ·have:=aMa h (by omega) hij hj
   rw [e,sP] at this;cases this
 rcases Nat.lt_trichotomy i j with h1|h1|h1
 ·exact absurd e (key i j h1 hj)
 ·exact h1
 ·exact absurd e.symm (key j i h1 hi)
theorem mD {t:cH} (hv:cT t) {e:Edge} (he:e∈t.E):zD t e:=by
 obtain ⟨k,hk,rfl⟩:=List.mem_iff_getElem.1 he
 exact (hv.2.2.2.2 k hk).1
theorem aAG {t:cH} {e:Edge} (he:zD t e):ix t.L e.B=some (txt t e):=by
 obtain ⟨_,_,h1,h2⟩:=he
 rw [ix_of h1 (by omega)]
 unfold txt;rw [List.getD_eq_getElem?_getD,List.getElem?_eq_getElem (by omega)];rfl
def hit (t:cH) (q:Int) (s:aZ) (e:Edge):Bool:=e.F == q&&txt t e == s
def wP (t:cH) (q:Int) (s:aZ):Int:=match t.E.find? (hit t q s) with|some e=>e.To|none=>-1
theorem goF_neg {t:cH} (hv:cT t) {q:Int} (h:q < 0) (s:aZ):wP t q s=-1:=by
 unfold wP
 rw [List.find?_eq_none.2 fun e he=>by
  have:=(mD hv he).1.1
  unfold hit;simp;omega]
theorem aCK {t:cH} (hv:cT t) (q:Int) (s:aZ):-1≤wP t q s∧wP t q s≤t.N - 1:=by
 unfold wP
 cases hx:t.E.find? (hit t q s) with
 |none=>have:=hv.1;simp only;omega
 |some e=>have:=(mD hv (List.mem_of_find?_eq_some hx)).2.1;simp only;omega
theorem aNs {t:cH} (hv:cT t) (q:Int) (s:aZ):aII t q s=some (wP t q s):=by
 have h300:=hv.2.2.2.1
 unfold aII
 by_cases hq:0≤q
 ·have:=lR (step:=fun k=>vK t q s k) t.E (fun k (_:Unit)=>(k:Int)) (fun l _=>match l.find? (hit t q s) with|some e=>.inr e.To|none=>.inl ()) (fun _ _=>True) (fun k a e l hk hx _=>?_) (fun a _=>by simp only [vK,bT];rfl) (a:=()) trivial
  ·rw [show (0:Int)=((0:Nat):Int) from rfl,this,aI]
   unfold wP
   cases t.E.find? (hit t q s)<;>rfl
  ·obtain ⟨hk',rfl⟩:=pN hx
   have hstep:vK t q s (k:Int)=if hit t q s t.E[k]=true then some (.inr (.inr t.E[k].To)) else some (.inl ((k+1:Nat):Int)):=by
    simp only [vK,cB hk,if_pos,decide_eq_true hq,aGj,hx,aI,aAG (mD hv (List.getElem_mem hk')),aGi,bV hk (show t.E.length < 4611686018427387904 by omega)]
    unfold hit
    cases t.E[k].F == q<;>cases txt t t.E[k] == s<;>rfl
   rw [hstep]
   cases hh:hit t q s t.E[k] with
   |true=>right;rw [if_pos rfl,List.find?_cons,hh]
   |false=>left;exact ⟨(),by rw [if_neg (by simp)],trivial,by rw [List.find?_cons,hh]⟩
 ·rw [goF_neg hv (by omega),bM]
  have:vK t q s 0=some (.inr (.inl ())):=by
   unfold vK;rw [decide_eq_false hq]
   cases decide ((0:Int) < (t.E.length:Int))<;>rfl
  rw [this];rfl
theorem srt_short {α:Type} (lt:α→α→Bool) {xs:List α} (h:xs.length≤1):srt lt xs=xs:=by
 unfold srt
 rcases xs with _|⟨a,_|⟨b,l⟩⟩
 ·simp
 ·simp
 ·simp at h
theorem aCv {β γ ρ:Type} {step:(List γ × Int)→Option ((List γ × Int) ⊕ ρ)} (xs:List β) (p:β→Bool) (f:β→γ) (e:List γ→ρ)
  (h:∀ (k:Nat) out x,k < xs.length→out.length≤k→ix xs (k:Int)=some x→step (out,(k:Int))=some (.inl (if p x=true then out++[f x] else out,((k+1:Nat):Int))))
  (h':∀ out,step (out,(xs.length:Int))=some (.inr (e out))):loop step ([],0)=some (e ((xs.filter p).map f)):=by
 have:=lR (step:=step) xs (fun k out=>(out,(k:Int))) (fun l out=>e (out++(l.filter p).map f)) (fun k out=>out.length≤k) (fun k a x l hk hx hI=>?_) (fun a _=>by simp [h']) (a:=[]) (by simp)
 ·simpa using this
 ·left;rw [h k a x hk hI hx]
  by_cases hp:p x=true
  ·exact ⟨a++[f x],by rw [if_pos hp],by simp;omega,by simp [hp]⟩
  ·exact ⟨a,by rw [if_neg hp],by omega,by simp [hp]⟩
theorem aJq (t:cH) (q:Int) (h:t.E.length < 1000000000):tC t q=some (t.E.filter fun e=>e.F == q):=by
 unfold tC
 rw [aCv (step:=fun s:List Edge × Int=>tB t q s.1 s.2) t.E (fun e=>e.F == q) id id (fun k out x hk ho hx=>?_) (fun out=>by simp only [tB,bT];rfl),aI]
 ·simp [xI]
 ·simp only [tB,cB hk,if_pos,hx,aI,xJ,bV hk (show t.E.length < 4611686018427387904 by omega)]
  rw [eW (by simp [jJ];omega),aI]
  cases x.F == q<;>rfl
theorem aLi (t:cH) (q:Int) (h:t.E.length < 1000000000):aCT t q=some (t.E.filter fun e=>e.F == q):=by
 unfold aCT
 rw [aCv (step:=fun s:List Edge × Int=>vV t q s.1 s.2) t.E (fun e=>e.F == q) id id (fun k out x hk ho hx=>?_) (fun out=>by simp only [vV,bT];rfl),aI]
 ·simp [aAp]
 ·simp only [vV,cB hk,if_pos,hx,aI,aAq,bV hk (show t.E.length < 4611686018427387904 by omega)]
  rw [eW (by simp [jJ];omega),aI]
  cases x.F == q<;>rfl
theorem aKA {xs:List Int} (h:xs.length≤1):fE xs=some xs:=by
 unfold fE;rw [if_pos (by simp;omega)]
theorem aEs {xs:List Int} (h:xs.length≤1):aBi xs=some xs:=by
 unfold aBi;rw [if_pos (by simp [jJ];omega),srt_short _ h]
theorem hit_one {t:cH} (hv:cT t) (hs:iQ t) (q:Int) (s:aZ):(t.E.filter (hit t q s))=(t.E.find? (hit t q s)).toList:=by
 have hp:t.E.Pairwise (fun a b=>¬ (hit t q s a=true∧hit t q s b=true)):=by
  rw [List.pairwise_iff_getElem]
  intro i j hi hj hij
  have h1:=aNr hv hs hij hj
  rintro ⟨ha,hb⟩
  unfold hit at ha hb
  simp only [Bool.and_eq_true,beq_iff_eq] at ha hb
  have ea:=mD hv (List.getElem_mem hi)
  have eb:=mD hv (List.getElem_mem hj)
  have he:txt t t.E[i]=txt t t.E[j]:=ha.2.trans hb.2.symm
  unfold txt at he
  rw [List.getD_eq_getElem?_getD,List.getD_eq_getElem?_getD,List.getElem?_eq_getElem (by have:=ea.2.2;omega),List.getElem?_eq_getElem (by have:=eb.2.2;omega)] at he
  have:=aHf hv.2.2.1 (by have:=ea.2.2;omega) (by have:=eb.2.2;omega) he
  unfold aAO at h1
  have:=ea.2.2;have:=eb.2.2
  omega
 generalize t.E=l at hp
 induction l with
 |nil=>rfl
 |cons a l ih=>
  rw [List.pairwise_cons] at hp
  by_cases h:hit t q s a=true
  ·rw [List.filter_cons,if_pos h,List.find?_cons,h]
   simp only [Option.toList_some,List.cons.injEq,true_and]
   exact List.filter_eq_nil_iff.2 fun b hb hh=>hp.1 b hb ⟨h,hh⟩
  ·rw [List.filter_cons,if_neg h,List.find?_cons,Bool.eq_false_iff.2 h]
   exact ih hp.2
theorem aHJ {t:cH} (hv:cT t) (hs:iQ t) (q:Int) (s:aZ):mQ t [q] s=some ((t.E.find? (hit t q s)).toList.map (·.To)):=by
 have h300:=hv.2.2.2.1
 unfold mQ
 rw [aCv (step:=fun x:List Int × Int=>mG t [q] s x.1 x.2) t.E (hit t q s) (·.To) id (fun k out x hk ho hx=>?_) (fun out=>by simp only [mG,bT];rfl),aI,hit_one hv hs]
 ·have hl:((t.E.find? (hit t q s)).toList.map (·.To)).length≤1:=by
   cases t.E.find? (hit t q s)<;>simp
  unfold pR
  simp only [id]
  rw [aEs hl,aI,aKA hl,aI]
 ·obtain ⟨hk',rfl⟩:=pN hx
  simp only [mG,cB hk,if_pos,hx,aI,aAG (mD hv (List.getElem_mem hk')),aHc [q] _ (by simp),pT,pS,bV hk (show t.E.length < 4611686018427387904 by omega)]
  rw [eW (by simp [jJ];omega),aI]
  unfold hit
  have e:([q].any fun x=>t.E[k].F == x)=(t.E[k].F == q):=by simp
  rw [e]
  cases txt t t.E[k] == s<;>cases t.E[k].F == q<;>rfl
theorem aIK {t:cH} (hv:cT t) (hs:iQ t) (q:Int) (s:aZ):sA t q s=some (wP t q s):=by
 unfold sA
 by_cases hq:q < 0
 ·rw [if_pos (by simpa using hq),goF_neg hv hq]
 ·rw [if_neg (by simpa using hq),aHJ hv hs,aI]
  unfold wP
  cases t.E.find? (hit t q s) with
  |none=>rfl
  |some e=>rfl
theorem aOD {t:cH} (hv:cT t) (hs:iQ t) (q:Int):mQ t [q] dY=some []:=by
 rw [aHJ hv hs]
 rw [List.find?_eq_none.2 fun e he=>?_]
 ·rfl
 ·obtain ⟨k,hk,rfl⟩:=List.mem_iff_getElem.1 he
  have h1:=(hs k hk).1
  have h2:=(mD hv he).2.2
  unfold hit
  simp only [Bool.and_eq_true,beq_iff_eq,not_and]
  intro _ e
  unfold txt at e
  rw [List.getD_eq_getElem?_getD,List.getElem?_eq_getElem (by omega)] at e
  exact (hv.2.2.1.2.2.2 _ (by omega) (by omega)).2.1 e
theorem aIk {t:cH} (hv:cT t) (hs:iQ t) (xs:List Int) (h:xs.length≤1):xL t xs=some xs:=by
 unfold xL dV
 rw [eW (by simp [jJ];omega),aI,List.nil_append,aI]
 have:=gT (step:=fun s:List Int × Int=>rB t s.1 s.2) xs.length (fun k (_:Unit)=>(xs,(k:Int))) (fun _ _=>xs) (fun _ _=>True) (fun k a hk _=>?_) (fun a _=>by simp only [rB,bT];rfl) xs.length 0 () (by omega) trivial
 ·rw [show (0:Int)=((0:Nat):Int) from rfl,this,aI,aCn,aEs h];rfl
 ·left
  refine ⟨(),?_,trivial,rfl⟩
  simp only [rB,cB hk,if_pos,cO hk,aI]
  rw [show ([116,97,117]:aZ)=dY from rfl,aOD hv hs,aI,bM]
  simp only [aCr]
  simp [aCp,aCo]
  exact bV hk (by omega)
theorem aOE {t:cH} (hv:cT t) (hs:iQ t) (q:Int) (s:aZ):zY t [q] s=some ((t.E.find? (hit t q s)).toList.map (·.To)):=by
 unfold zY
 rw [aHJ hv hs,aI,aIk hv hs _ (by cases t.E.find? (hit t q s)<;>simp)];rfl
end Gv
namespace Gv
open Go
theorem yH {σ ρ α:Type} {step:σ→Option (σ ⊕ ρ)} (n:Nat) (g:Nat→α→σ) (I:Nat→α→Prop) (R:ρ→Prop)
  (h:∀ k a,k < n→I k a→∃ a',step (g k a)=some (.inl (g (k+1) a'))∧I (k+1) a')
  (h':∀ a,I n a→∃ r,step (g n a)=some (.inr r)∧R r):∀ j k a,k+j=n→I k a→∃ r,loop step (g k a)=some r∧R r
 |0,k,a,e,hI=>by
  obtain rfl:k=n:=by omega
  obtain ⟨r,h1,h2⟩:=h' a hI
  exact ⟨r,by rw [bM,h1],h2⟩
 |j+1,k,a,e,hI=>by
  obtain ⟨a',h1,h2⟩:=h k a (by omega) hI
  rw [bM,h1]
  exact yH n g I R h h' j (k+1) a' (by omega) h2
structure Adv (b:Bool) (G:List Bool→Prop) (m0 m:List Bool) (ag:Bool):Prop where
 good:G m
 le:m.count b≤m0.count b
 lt:ag=true→m.count b < m0.count b
 eq:ag=false→m=m0
theorem Adv.refl {b:Bool} {G:List Bool→Prop} {m:List Bool} (h:G m):Adv b G m m false:=⟨h,Nat.le_refl _,fun h=>(by cases h),fun _=>rfl⟩
theorem aJr {b:Bool}:∀ {m:List Bool} {q:Nat},m[q]?=some b→(m.set q (!b)).count b < m.count b
 |[],q,h=>by simp at h
 |x::l,0,h=>by
  simp at h;subst h
  cases x<;>simp
 |x::l,q+1,h=>by
  have:=aJr (m:=l) (q:=q) (by simpa using h)
  simp only [List.set_cons_succ,List.count_cons];omega
theorem Adv.flip {b:Bool} {G:List Bool→Prop} {m0 m:List Bool} {ag:Bool} (h:Adv b G m0 m ag) {q:Nat} (hq:m[q]?=some b) (hg:G (m.set q (!b))):Adv b G m0 (m.set q (!b)) true:=by
 have:=aJr hq
 have:=h.le
 exact ⟨hg,by omega,fun _=>by omega,fun h=>by cases h⟩
theorem aCw {α:Type} (g:List Bool→α) {step:α × Bool→Option ((α × Bool) ⊕ α)} (b:Bool) (G C:List Bool→Prop)
  (h1:∀ m,G m→∃ m' ag,step (g m,true)=some (.inl (g m',ag))∧Adv b G m m' ag∧(ag=false→C m))
  (h2:∀ m,step (g m,false)=some (.inr (g m))):∀ n m,m.count b≤n→G m→∃ m',loop step (g m,true)=some (g m')∧G m'∧C m':=by
 intro n
 induction n with
 |zero=>
  intro m hn hG
  obtain ⟨m',ag,e,ha,hc⟩:=h1 m hG
  cases ag with
  |true=>have:=ha.lt rfl;omega
  |false=>
   obtain rfl:=ha.eq rfl
   exact ⟨_,by rw [bM,e];simp only;rw [bM,h2],hG,hc rfl⟩
 |succ n ih=>
  intro m hn hG
  obtain ⟨m',ag,e,ha,hc⟩:=h1 m hG
  cases ag with
  |true=>
   have:=ha.lt rfl
   obtain ⟨m'',e',hG',hC'⟩:=ih m' (by omega) ha.good
   exact ⟨m'',by rw [bM,e];exact e',hG',hC'⟩
  |false=>
   obtain rfl:=ha.eq rfl
   exact ⟨_,by rw [bM,e];simp only;rw [bM,h2],hG,hc rfl⟩
section
variable (p:cH) (L:List aZ)
inductive Lv:Int→Prop
 |out {q:Int} {s:aZ}:s∈L→wP p q s < 0→Lv q
 |go {q:Int} {s:aZ}:s∈L→0≤wP p q s→Lv (wP p q s)→Lv q
def St (q:Int):Prop:=∃ S:Int→Prop,S q∧∀ z,S z→L=[]∨∃ s∈L,0≤wP p z s∧S (wP p z s)
noncomputable def tW:List Bool:=(List.range p.N.toNat).map fun (q:Nat)=>cl (Lv p L (q:Int))
noncomputable def tX:List Bool:=(List.range p.N.toNat).map fun (q:Nat)=>cl (St p L (q:Int))
def lvB (m:List Bool) (q:Int):Bool:=L.any fun s=>decide (wP p q s < 0)||m.getD (wP p q s).toNat false
def stB (m:List Bool) (q:Int):Bool:=L.any fun s=>decide (0≤wP p q s)&&m.getD (wP p q s).toNat false
def GL (m:List Bool):Prop:=m.length=p.N.toNat∧∀ q:Nat,m[q]?=some true→Lv p L (q:Int)
def CL (m:List Bool):Prop:=∀ q:Nat,m[q]?=some false→lvB p L m (q:Int)=false
def GS (m:List Bool):Prop:=m.length=p.N.toNat∧∀ q:Nat,m[q]?=some false→¬ St p L (q:Int)
def CS (m:List Bool):Prop:=∀ q:Nat,m[q]?=some true→L=[]∨stB p L m (q:Int)=true
end
section
variable {p:cH} {L:List aZ} {m:List Bool}
theorem GL.flip (h:GL p L m) {q:Nat} (hq:m[q]?=some false) (hb:lvB p L m (q:Int)=true):GL p L (m.set q (!false)):=by
 refine ⟨by simp [h.1],fun z hz=>?_⟩
 by_cases e:z=q
 ·subst e
  unfold lvB at hb
  rw [List.any_eq_true] at hb
  obtain ⟨s,hs,hb⟩:=hb
  by_cases hn:wP p (z:Int) s < 0
  ·exact .out hs hn
  ·simp only [decide_eq_false hn,Bool.false_or] at hb
   have:=h.2 (wP p (z:Int) s).toNat (by
    rw [List.getD_eq_getElem?_getD] at hb
    cases hx:m[(wP p (z:Int) s).toNat]? with
    |none=>rw [hx] at hb;cases hb
    |some x=>rw [hx] at hb;simp at hb;rw [hb])
   rw [show (((wP p (z:Int) s).toNat:Nat):Int)=wP p (z:Int) s by omega] at this
   exact .go hs (by omega) this
 ·rw [List.getElem?_set_ne (Ne.symm e)] at hz
  exact h.2 z hz
theorem GL.row (hv:cT p) (h:GL p L m) (hc:CL p L m):m=tW p L:=by
 have key:∀ z,Lv p L z→0≤z→z < p.N→m[z.toNat]?=some true:=by
  intro z hz
  induction hz with
  |out hs hn=>
   rename_i q s
   intro h0 h1
   cases hx:m[q.toNat]? with
   |none=>rw [List.getElem?_eq_none_iff] at hx;have:=h.1;omega
   |some x=>
    cases x with
    |true=>rfl
    |false=>
     have:=hc q.toNat hx
     unfold lvB at this
     rw [List.any_eq_false] at this
     have:=this s hs
     rw [show ((q.toNat:Nat):Int)=q by omega,decide_eq_true hn] at this
     simp at this
  |go hs hn hg ih=>
   rename_i q s
   intro h0 h1
   have:=ih hn (by have:=(aCK hv q s).2;omega)
   cases hx:m[q.toNat]? with
   |none=>rw [List.getElem?_eq_none_iff] at hx;have:=h.1;omega
   |some x=>
    cases x with
    |true=>rfl
    |false=>
     have hf:=hc q.toNat hx
     unfold lvB at hf
     rw [List.any_eq_false] at hf
     have hf:=hf s hs
     rw [show ((q.toNat:Nat):Int)=q by omega,List.getD_eq_getElem?_getD,this] at hf
     simp at hf
 unfold tW
 refine List.ext_getElem? fun q=>?_
 by_cases hq:q < p.N.toNat
 ·have hlen:=h.1
  rw [List.getElem?_map,List.getElem?_range hq,Option.map_some]
  cases hx:m[q]? with
  |none=>rw [List.getElem?_eq_none_iff] at hx;omega
  |some x=>
   congr 1
   symm
   apply aAS
   refine ⟨fun e=>h.2 q (by rw [hx,e]),fun e=>?_⟩
   have:=key (q:Int) e (by omega) (by omega)
   simp only [Int.toNat_natCast] at this
   rw [hx] at this;simpa using this
 ·rw [List.getElem?_eq_none (by have:=h.1;omega),List.getElem?_eq_none (by simp;omega)]
theorem GS.flip (h:GS p L m) {q:Nat} (hq:m[q]?=some true) (hL:L≠[]) (hv:cT p) (hb:stB p L m (q:Int)=false):GS p L (m.set q (!true)):=by
 refine ⟨by simp [h.1],fun z hz=>?_⟩
 by_cases e:z=q
 ·subst e
  rintro ⟨S,h1,h2⟩
  rcases h2 _ h1 with h3|⟨s,hs,h4,h5⟩
  ·exact hL h3
  ·unfold stB at hb
   rw [List.any_eq_false] at hb
   have:=hb s hs
   rw [decide_eq_true h4,List.getD_eq_getElem?_getD] at this
   have hlt:=(aCK hv (z:Int) s).2
   have hlen:=h.1
   cases hx:m[(wP p (z:Int) s).toNat]? with
   |none=>rw [List.getElem?_eq_none_iff] at hx;omega
   |some x=>
    rw [hx] at this
    cases x with
    |true=>simp at this
    |false=>
     refine h.2 _ hx ⟨S,?_,h2⟩
     rw [show (((wP p (z:Int) s).toNat:Nat):Int)=wP p (z:Int) s by omega]
     exact h5
 ·rw [List.getElem?_set_ne (Ne.symm e)] at hz
  exact h.2 z hz
theorem GS.row (h:GS p L m) (hc:CS p L m):m=tX p L:=by
 unfold tX
 refine List.ext_getElem? fun q=>?_
 by_cases hq:q < p.N.toNat
 ·have hlen:=h.1
  rw [List.getElem?_map,List.getElem?_range hq,Option.map_some]
  cases hx:m[q]? with
  |none=>rw [List.getElem?_eq_none_iff] at hx;omega
  |some x=>
   congr 1
   symm
   apply aAS
   constructor
   ·rintro rfl
    refine ⟨fun z=>0≤z∧m[z.toNat]?=some true,⟨by omega,by simpa using hx⟩,fun z hz=>?_⟩
    rcases hc z.toNat hz.2 with h1|h1
    ·exact .inl h1
    ·right
     rw [show ((z.toNat:Nat):Int)=z by omega] at h1
     unfold stB at h1
     rw [List.any_eq_true] at h1
     obtain ⟨s,hs,h2⟩:=h1
     simp only [Bool.and_eq_true,decide_eq_true_eq] at h2
     refine ⟨s,hs,h2.1,h2.1,?_⟩
     have h3:=h2.2
     rw [List.getD_eq_getElem?_getD] at h3
     cases hy:m[(wP p z s).toNat]? with
     |none=>rw [hy] at h3;cases h3
     |some y=>rw [hy] at h3;simp at h3;rw [h3]
   ·intro hs
    cases x with
    |true=>rfl
    |false=>exact absurd hs (h.2 q hx)
 ·rw [List.getElem?_eq_none (by have:=h.1;omega),List.getElem?_eq_none (by simp;omega)]
end
end Gv
namespace Gv
open Go
def tx (t:cH):List aZ:=t.E.map (txt t)
structure One (t:cH):Prop where
 ok:cT t
 single:iQ t
 one:t.N=1
theorem One.edge {t:cH} (h:One t) {e:Edge} (he:e∈t.E):e.F=0∧e.To=0∧e.B≠0∧ix t.L e.B=some (txt t e)∧txt t e∈tx t:=by
 have hi:=mD h.ok he
 have h1:=h.one
 obtain ⟨k,hk,rfl⟩:=List.mem_iff_getElem.1 he
 refine ⟨by have:=hi.1;omega,by have:=hi.2.1;omega,(h.single k hk).1,aAG hi,List.mem_map_of_mem he⟩
theorem One.len {t:cH} (h:One t):t.E.length≤300:=h.ok.2.2.2.1
theorem aFy (p:cH) (t:cH) (m:List Bool) (q:Int):lvB p (tx t) m q=t.E.any fun e=>decide (wP p q (txt t e) < 0)||m.getD (wP p q (txt t e)).toNat false:=by
 unfold lvB tx;rw [List.any_map];rfl
theorem aLk (p:cH) (t:cH) (m:List Bool) (q:Int):stB p (tx t) m q=t.E.any fun e=>decide (0≤wP p q (txt t e))&&m.getD (wP p q (txt t e)).toNat false:=by
 unfold stB tx;rw [List.any_map];rfl
theorem at0 {x y:Int} (h:-9223372036854775808≤y) (h':y≤9223372036854775807):wr (wr (0 * x)+y)=y:=by
 rw [Int.zero_mul,fL (x:=0) (by omega) (by omega),Int.zero_add,fL h h']
theorem aEe {m:List Bool} {q:Int} (h0:0≤q) (h:q.toNat < m.length):ix m q=some (m.getD q.toNat false):=by
 rw [ix_of h0 h,List.getD_eq_getElem?_getD,List.getElem?_eq_getElem h];rfl
theorem aNt {t p:cH} (ht:One t) (hp:cT p) {e:Edge} (he:e∈t.E) (q:Int):aIJ t p e q=some (wP p q (txt t e)):=by
 obtain ⟨_,_,h3,h4,_⟩:=ht.edge he
 unfold aIJ
 rw [if_neg (by simpa using h3),h4,aI,aNs hp,aI]
def CEd (p t:cH) (e:Edge) (q:Nat) (m:List Bool):Prop:=m[q]?=some false→¬ (wP p (q:Int) (txt t e) < 0)∧m.getD (wP p (q:Int) (txt t e)).toNat false=false
theorem CL_of {p t:cH} {m:List Bool} (h:∀ e∈t.E,∀ q,q < m.length→CEd p t e q m):CL p (tx t) m:=by
 intro q hq
 have hl:q < m.length:=(List.getElem?_eq_some_iff.1 hq).1
 rw [aFy,List.any_eq_false]
 intro e he
 obtain ⟨h1,h2⟩:=h e he q hl hq
 rw [decide_eq_false h1,h2];simp
theorem aJs {p t:cH} (ht:One t) (hp:cT p) {e:Edge} (he:e∈t.E) {m0 m:List Bool} {ag:Bool} (h:Adv false (GL p (tx t)) m0 m ag) (Q:Prop) (hQ:ag=false→Q):
  ∃ r,loop (fun s:List Bool × Bool × Int=>uG t p e s.1 s.2.1 s.2.2) (m,ag,0)=some r∧Adv false (GL p (tx t)) m0 r.1 r.2∧(r.2=false→Q∧∀ q,q < p.N.toNat→CEd p t e q m0):=by
 obtain ⟨n,hn⟩:∃ n:Nat,p.N=(n:Int):=⟨p.N.toNat,by have:=hp.1;omega⟩
 have hn40:n≤40:=by have:=hp.1;omega
 obtain ⟨e1,e2,_,_,_⟩:=ht.edge he
 have:=yH (step:=fun s:List Bool × Bool × Int=>uG t p e s.1 s.2.1 s.2.2) n (fun q (a:List Bool × Bool)=>(a.1,a.2,(q:Int)))
  (fun q a=>Adv false (GL p (tx t)) m0 a.1 a.2∧(a.2=false→Q∧∀ q',q' < q→CEd p t e q' m0)) (fun r=>Adv false (GL p (tx t)) m0 r.1 r.2∧(r.2=false→Q∧∀ q,q < p.N.toNat→CEd p t e q m0)) (fun q a hq hI=>?_) (fun a hI=>?_) n 0 (m,ag) (by omega) ⟨h,fun h=>⟨hQ h,fun q' hq'=>by omega⟩⟩
 ·exact this
 ·obtain ⟨m,ag⟩:=a
  obtain ⟨hI1,hI2⟩:=hI
  simp only at hI1 hI2
  have hlen:=hI1.good.1
  rw [hn,Int.toNat_natCast] at hlen
  have hqm:q < m.length:=by omega
  have hgo:=aCK hp (q:Int) (txt t e)
  simp only [uG,hn,cB hq,if_pos,e1,at0 (x:=(n:Int)) (y:=(q:Int)) (by omega) (by omega),cO hqm,aI,aNt ht hp he,qD,bV hq (show n < 4611686018427387904 by omega)]
  cases hm:m[q] with
  |true=>
   refine ⟨(m,ag),rfl,hI1,fun hf=>⟨(hI2 hf).1,fun q' hq'=>?_⟩⟩
   by_cases hqq:q' < q
   ·exact (hI2 hf).2 q' hqq
   ·obtain rfl:q'=q:=by omega
    intro hc
    rw [←hI1.eq hf,List.getElem?_eq_getElem hqm,hm] at hc
    cases hc
  |false=>
   have hmq:m[q]?=some false:=by rw [List.getElem?_eq_getElem hqm,hm]
   have hflip:lvB p (tx t) m (q:Int)=true→∃ a':List Bool × Bool,(ob (st m (q:Int) true) fun out=>some (Sum.inl (out,true,((q+1:Nat):Int))):Option ((List Bool × Bool × Int) ⊕ (List Bool × Bool)))=some (.inl (a'.1,a'.2,((q+1:Nat):Int)))∧Adv false (GL p (tx t)) m0 a'.1 a'.2∧(a'.2=false→Q∧∀ q',q' < q+1→CEd p t e q' m0):=by
    intro hb
    refine ⟨(m.set q true,true),by rw [wN _ hqm,aI],hI1.flip hmq (hI1.good.flip hmq hb),fun h=>by cases h⟩
   simp only [Bool.false_eq_true,if_false]
   by_cases hneg:wP p (q:Int) (txt t e) < 0
   ·rw [if_pos (by simpa using hneg)]
    simp only [aCM,if_pos,e1,hn,at0 (x:=(n:Int)) (y:=(q:Int)) (by omega) (by omega),qD,bV hq (show n < 4611686018427387904 by omega)]
    exact hflip (by rw [aFy,List.any_eq_true];exact ⟨e,he,by simp [hneg]⟩)
   ·rw [if_neg (by simpa using hneg),e2,at0 (by omega) (by omega),aEe (by omega) (by omega),aI]
    simp only [aCM,e1,hn,at0 (x:=(n:Int)) (y:=(q:Int)) (by omega) (by omega),qD,bV hq (show n < 4611686018427387904 by omega)]
    cases hg:m.getD (wP p (q:Int) (txt t e)).toNat false with
    |true=>
     exact hflip (by rw [aFy,List.any_eq_true];exact ⟨e,he,by rw [hg];simp⟩)
    |false=>
     refine ⟨(m,ag),rfl,hI1,fun hf=>⟨(hI2 hf).1,fun q' hq'=>?_⟩⟩
     by_cases hqq:q' < q
     ·exact (hI2 hf).2 q' hqq
     ·obtain rfl:q'=q:=by omega
      rw [←hI1.eq hf]
      exact fun _=>⟨hneg,hg⟩
 ·obtain ⟨m,ag⟩:=a
  refine ⟨_,?_,hI.1,fun hf=>⟨(hI.2 hf).1,fun q hq=>(hI.2 hf).2 q (by omega)⟩⟩
  simp only [uG,hn,bT];rfl
theorem aNu {p t:cH} (ht:One t) (hp:cT p):aGk t p=some (tW p (tx t)):=by
 obtain ⟨n,hn⟩:∃ n:Nat,p.N=(n:Int):=⟨p.N.toNat,by have:=hp.1;omega⟩
 have hn40:n≤40:=by have:=hp.1;omega
 have h300:=ht.len
 unfold aGk
 rw [ht.one,Int.one_mul,fL (by have:=hp.1;omega) (by have:=hp.1;omega),hn,aFe _ (by simp [jJ];omega),aI]
 have hG0:GL p (tx t) (List.replicate n false):=⟨by simp [hn],fun q hq=>by rw [List.getElem?_replicate] at hq;split at hq<;>cases hq⟩
 have hset:=aCw (α:=List Bool) id (step:=fun s:List Bool × Bool=>aBB t p s.1 s.2) false (GL p (tx t)) (CL p (tx t)) (fun m hG=>?_) (fun m=>rfl) n (List.replicate n false) (by simp) hG0
 ·obtain ⟨m,hl,hG,hC⟩:=hset
  simp only [id] at hl
  rw [hl,aI,aFS,hG.row hp hC]
 ·have:=yH (step:=fun s:List Bool × Bool × Int=>zN t p s.1 s.2.1 s.2.2) t.E.length (fun i (a:List Bool × Bool)=>(a.1,a.2,(i:Int)))
   (fun i a=>Adv false (GL p (tx t)) m a.1 a.2∧(a.2=false→∀ i',i' < i→∀ he:i' < t.E.length,∀ q,q < p.N.toNat→CEd p t t.E[i'] q m)) (fun r=>Adv false (GL p (tx t)) m r.1 r.2∧(r.2=false→CL p (tx t) m)) (fun i a hi hI=>?_) (fun a hI=>?_) t.E.length 0 (m,false) (by omega) ⟨Adv.refl hG,fun _ i' h=>by omega⟩
  ·obtain ⟨r,hr,hA,hc⟩:=this
   simp only [id,aBB,if_pos]
   rw [show (0:Int)=((0:Nat):Int) from rfl,hr]
   exact ⟨r.1,r.2,rfl,hA,hc⟩
  ·obtain ⟨m',ag⟩:=a
   simp only at hI
   have hem:t.E[i]∈t.E:=List.getElem_mem hi
   obtain ⟨r,hr,hA,hc⟩:=aJs ht hp hem hI.1 _ hI.2
   refine ⟨r,?_,hA,fun hf i' hi' he' q hq=>?_⟩
   ·simp only [zN,cB hi,if_pos,cO hi,aI,hr]
    rw [←bV hi (by omega)];rfl
   ·by_cases hii:i' < i
    ·exact (hc hf).1 i' hii he' q hq
    ·obtain rfl:i'=i:=by omega
     exact (hc hf).2 q hq
  ·refine ⟨a,by simp only [zN,bT];rfl,hI.1,fun hf=>CL_of fun e he q hq=>?_⟩
   obtain ⟨i',hi',rfl⟩:=List.mem_iff_getElem.1 he
   exact hI.2 hf i' hi' hi' q (by have:=hG.1;omega)
theorem aEf {t:cH} (ht:One t):(t.E.filter fun e=>e.F == 0)=t.E:=
 List.filter_eq_self.2 fun e he=>by have:=(ht.edge he).1;simp [this]
theorem stay_any {t p:cH} (ht:One t) (hp:cT p) {m:List Bool} (hm:m.length=p.N.toNat) (q:Nat):
  loop (fun s:Bool × Int=>xC t p t.E m (q:Int) s.1 s.2) (false,0)=some (stB p (tx t) m (q:Int)):=by
 have h300:=ht.len
 rw [aLk]
 have:=lR (step:=fun s:Bool × Int=>xC t p t.E m (q:Int) s.1 s.2) t.E (fun k (b:Bool)=>(b,(k:Int))) (fun l b=>b||l.any fun e=>decide (0≤wP p (q:Int) (txt t e))&&m.getD (wP p (q:Int) (txt t e)).toNat false) (fun _ _=>True) (fun k a e l hk hx _=>?_) (fun a _=>by simp only [xC,bT];simp) (a:=false) trivial
 ·simpa using this
 ·left
  obtain ⟨hk',rfl⟩:=pN hx
  have hem:t.E[k]∈t.E:=List.getElem_mem hk
  obtain ⟨e1,e2,_,_,_⟩:=ht.edge hem
  have hgo:=aCK hp (q:Int) (txt t t.E[k])
  refine ⟨a||(decide (0≤wP p (q:Int) (txt t t.E[k]))&&m.getD (wP p (q:Int) (txt t t.E[k])).toNat false),?_,trivial,?_⟩
  ·simp only [xC,cB hk,if_pos,hx,aI,aNt ht hp hem,aAW,e2,bV hk (show t.E.length < 4611686018427387904 by omega)]
   cases a with
   |true=>simp
   |false=>
    by_cases h0:0≤wP p (q:Int) (txt t t.E[k])
    ·rw [decide_eq_true h0,at0 (by omega) (by have:=hp.1;omega),aEe h0 (by omega)];simp
    ·rw [decide_eq_false h0];simp
  ·rw [List.any_cons,Bool.or_assoc]
theorem aOF {p t:cH} (ht:One t) (hp:cT p):aHB t p=some (tX p (tx t)):=by
 obtain ⟨n,hn⟩:∃ n:Nat,p.N=(n:Int):=⟨p.N.toNat,by have:=hp.1;omega⟩
 have hn40:n≤40:=by have:=hp.1;omega
 have h300:=ht.len
 have hLe:tx t=[]↔t.E=[]:=by unfold tx;simp
 unfold aHB
 rw [ht.one,Int.one_mul,fL (by have:=hp.1;omega) (by have:=hp.1;omega),hn,aFe _ (by simp [jJ];omega),aI]
 have hfill:=gT (step:=fun s:List Bool × Int=>zQ s.1 s.2) n (fun k (m:List Bool)=>(m,(k:Int))) (fun _ _=>List.replicate n true) (fun k m=>m.length=n∧m.take k=List.replicate k true) (fun k m hk hI=>?_) (fun m hI=>?_) n 0 (List.replicate n false) (by omega) ⟨by simp,by simp⟩
 ·rw [show (0:Int)=((0:Nat):Int) from rfl,hfill,aI]
  unfold aFT
  have hG0:GS p (tx t) (List.replicate n true):=⟨by simp [hn],fun q hq=>by rw [List.getElem?_replicate] at hq;split at hq<;>cases hq⟩
  have hset:=aCw (α:=List Bool) id (step:=fun s:List Bool × Bool=>aCC t p s.1 s.2) true (GS p (tx t)) (CS p (tx t)) (fun m hG=>?_) (fun m=>rfl) n (List.replicate n true) (by simp) hG0
  ·obtain ⟨m,hl,hG,hC⟩:=hset
   simp only [id] at hl
   rw [hl,aI,aGL,hG.row hC]
  ·have hpass:=yH (step:=fun s:List Bool × Bool × Int=>aEc t p 0 t.E s.1 s.2.1 s.2.2) n (fun q (a:List Bool × Bool)=>(a.1,a.2,(q:Int)))
    (fun q a=>Adv true (GS p (tx t)) m a.1 a.2∧(a.2=false→∀ q',q' < q→m[q']?=some true→tx t=[]∨stB p (tx t) m (q':Int)=true)) (fun r=>Adv true (GS p (tx t)) m r.1 r.2∧(r.2=false→CS p (tx t) m)) (fun q a hq hI=>?_) (fun a hI=>?_) n 0 (m,false) (by omega) ⟨Adv.refl hG,fun _ q' h=>by omega⟩
   ·obtain ⟨r,hr,hA,hc⟩:=hpass
    refine ⟨r.1,r.2,?_,hA,hc⟩
    simp only [id,aCC,if_pos]
    have s0:uH t p m false 0=some (.inl (r.1,r.2,1)):=by
     simp only [uH,ht.one]
     rw [if_pos (by decide),aLi t 0 (by omega),aI,aEf ht]
     rw [show (0:Int)=((0:Nat):Int) from rfl] at hr ⊢
     rw [hr];rfl
    have s1:uH t p r.1 r.2 1=some (.inr (r.1,r.2)):=by
     simp only [uH,ht.one];rfl
    rw [bM,s0]
    simp only
    rw [bM,s1];rfl
   ·obtain ⟨m',ag⟩:=a
    obtain ⟨hI1,hI2⟩:=hI
    simp only at hI1 hI2
    have hlen:=hI1.good.1
    rw [hn,Int.toNat_natCast] at hlen
    have hqm:q < m'.length:=by omega
    simp only [aEc,hn,cB hq,if_pos,at0 (x:=(n:Int)) (y:=(q:Int)) (by omega) (by omega),cO hqm,aI,pE,bV hq (show n < 4611686018427387904 by omega)]
    have hkeep:(m'[q]?=some true→tx t=[]∨stB p (tx t) m' (q:Int)=true)→∃ a':List Bool × Bool,(some (.inl (m',ag,((q+1:Nat):Int))):Option ((List Bool × Bool × Int) ⊕ (List Bool × Bool)))=some (.inl (a'.1,a'.2,((q+1:Nat):Int)))∧Adv true (GS p (tx t)) m a'.1 a'.2∧(a'.2=false→∀ q',q' < q+1→m[q']?=some true→tx t=[]∨stB p (tx t) m (q':Int)=true):=by
     intro hk
     refine ⟨(m',ag),rfl,hI1,fun hf q' hq'=>?_⟩
     by_cases hqq:q' < q
     ·exact hI2 hf q' hqq
     ·obtain rfl:q'=q:=by omega
      rw [←hI1.eq hf];exact hk
    cases hm:m'[q] with
    |false=>
     simp only [Bool.not_false,if_pos,zO,pE,bV hq (show n < 4611686018427387904 by omega)]
     exact hkeep fun h=>by rw [List.getElem?_eq_getElem hqm,hm] at h;cases h
    |true=>
     simp only [Bool.not_true,Bool.false_eq_true,if_false,zO,pE,bV hq (show n < 4611686018427387904 by omega)]
     by_cases h0:t.E.length=0
     ·rw [if_pos (by simp [h0])]
      exact hkeep fun _=>.inl (hLe.2 (List.length_eq_zero_iff.1 h0))
     ·rw [if_neg (by simpa using h0),stay_any ht hp (by rw [hn];simpa using hlen),aI]
      simp only [aGM,hn,at0 (x:=(n:Int)) (y:=(q:Int)) (by omega) (by omega),cO hqm,wN _ hqm,aI,pE,bV hq (show n < 4611686018427387904 by omega)]
      cases hb:stB p (tx t) m' (q:Int) with
      |true=>
       simp only [Bool.not_true,Bool.false_eq_true,if_false]
       exact hkeep fun _=>.inr hb
      |false=>
       simp only [Bool.not_false,if_pos]
       have hmq:m'[q]?=some true:=by rw [List.getElem?_eq_getElem hqm,hm]
       exact ⟨(m'.set q false,true),rfl,hI1.flip hmq (hI1.good.flip hmq (fun e=>h0 (by rw [hLe.1 e];rfl)) hp hb),fun h=>by cases h⟩
   ·refine ⟨a,by simp only [aEc,hn,bT];rfl,hI.1,fun hf q hq=>?_⟩
    have hl:q < m.length:=(List.getElem?_eq_some_iff.1 hq).1
    exact hI.2 hf q (by have:=hG.1;omega) hq
 ·left
  refine ⟨m.set k true,?_,⟨by simp [hI.1],?_⟩,rfl⟩
  ·simp only [zQ,hI.1,cB hk,if_pos,cO (xs:=m) (k:=k) (by omega),wN (xs:=m) (k:=k) _ (by omega),aI,bV hk (show n < 4611686018427387904 by omega)]
  ·rw [List.take_add_one,List.take_set_of_le (Nat.le_refl _),hI.2,List.replicate_succ']
   simp [hI.1,hk]
 ·have h1:=hI.2
  rw [List.take_of_length_le (by omega)] at h1
  simp only [zQ,hI.1,bT]
  rw [h1];rfl
end Gv
namespace Gv
open Go
theorem aHK (b:Bool) (n:Nat) (h1:1≤n) (h:n≤100000):dX [b] (n:Int)=some (List.replicate n b):=by
 unfold dX
 rw [if_neg (by simp)]
 unfold gR
 have hm:l_Mul (aHt (([b]:List Bool).length:Int)) (aHt (n:Int))=some (0,(n:Int)):=by
  have e1:aHt (([b]:List Bool).length:Int)=1:=by simp [aHt]
  have e2:aHt (n:Int)=(n:Int):=by unfold aHt;omega
  rw [e1,e2];unfold l_Mul
  rw [if_pos ⟨by omega,by omega,by omega,by omega⟩]
  simp only [Int.one_mul,Option.some.injEq,Prod.mk.injEq]
  omega
 rw [hm,aI]
 simp only
 rw [if_neg (by simp),decide_eq_false (p:=(9223372036854775807:Int) < (n:Int)) (by omega)]
 unfold fG
 rw [if_neg (by simp)]
 unfold gQ
 simp only
 rw [fL (by omega) (by omega),aFe _ (by simp [jJ];omega),aI]
 have hmin:Nat.min ([b]:List Bool).length (List.replicate n false).length=1:=by
  show min _ _=1
  simp;omega
 rw [hmin]
 have ho:ovw (List.replicate n false) 0 (([b]:List Bool).take 1)=some (b::List.replicate (n - 1) false):=by
  unfold ovw
  rw [if_pos ⟨by omega,by simp;omega⟩]
  simp
 rw [ho,aI]
 have hL:=aAi (step:=fun s:List Bool × Int=>fF s.1 s.2) (fun s=>1≤s.2∧s.2≤n∧s.1.length=n∧s.1.take s.2.toNat=List.replicate s.2.toNat b) (fun s=>(n - s.2).toNat) (fun r=>r=List.replicate n b) (fun s hI=>?_) (s:=(b::List.replicate (n - 1) false,1)) ⟨by simp,by simp only;omega,by simp;omega,by simp⟩
 ·obtain ⟨r,hr,hR⟩:=hL
  rw [show (((1:Nat):Int))=1 from rfl,hr,aI,hR];rfl
 ·obtain ⟨m,i⟩:=s
  obtain ⟨h1,h2,h3,h4⟩:=hI
  simp only at h1 h2 h3 h4 ⊢
  obtain ⟨k,rfl⟩:∃ k:Nat,i=(k:Int):=⟨i.toNat,by omega⟩
  rw [Int.toNat_natCast] at h4
  unfold fF
  by_cases hk:k < n
  ·left
   have s1:slc m (k:Int) (m.length:Int)=some (m.drop k):=by
    unfold slc;rw [if_pos ⟨by omega,by omega,by omega⟩]
    rw [Int.toNat_natCast,Int.toNat_natCast,List.take_of_length_le (by simp)]
   have s2:slc m 0 (k:Int)=some (m.take k):=by
    unfold slc;rw [if_pos ⟨by omega,by omega,by omega⟩];simp
   rw [h3] at s1 ⊢
   rw [if_pos (cB hk),s1,aI,s2,aI,h4]
   have hl:(m.drop k).length=n - k:=by simp [h3]
   rw [hl,List.length_replicate]
   generalize hd:Nat.min k (n - k)=d
   have hd1:d≤k∧d≤n - k∧1≤d:=by
    have:Nat.min k (n - k)=min k (n - k):=rfl
    omega
   have hov:ovw m (k:Int) ((List.replicate k b).take d)=some (List.replicate (k+d) b++m.drop (k+d)):=by
    unfold ovw
    have hl2:((List.replicate k b).take d).length=d:=by simp;omega
    rw [if_pos ⟨by omega,by rw [hl2,Int.toNat_natCast];omega⟩,hl2,Int.toNat_natCast,h4,List.take_replicate]
    rw [show min d k=d by omega,List.replicate_append_replicate]
   rw [hov,aI]
   have hw:wr ((k:Int)+((d:Nat):Int))=((k+d:Nat):Int):=by rw [fL (by omega) (by omega)];omega
   rw [hw]
   refine ⟨_,rfl,⟨by simp only;omega,by simp only;omega,by simp [h3];omega,?_⟩,by simp only;omega⟩
   simp only [Int.toNat_natCast]
   rw [List.take_append_of_le_length (by simp),List.take_of_length_le (by simp)]
  ·right
   obtain rfl:k=n:=by omega
   rw [h3,if_neg (by simp)]
   rw [List.take_of_length_le (by omega)] at h4
   exact ⟨_,rfl,h4⟩
theorem has_eq {m:List Bool} {w:Int} (h:w.toNat < m.length) (h':0 < m.length):mT 0 w [m]=some (decide (0≤w)&&m.getD w.toNat false):=by
 unfold mT
 by_cases h0:0≤w
 ·rw [if_pos (by simpa using h0),show ix [m] 0=some m from rfl,aI,aEe h0 h,aI,decide_eq_true h0];rfl
 ·rw [if_neg (by simpa using h0),decide_eq_false h0];rfl
theorem anyL_eq {m:List Bool} {w:Int} {a:Bool} (h:w.toNat < m.length) (h':0 < m.length):rA 0 w a [m]=some (a||(decide (w < 0)||m.getD w.toNat false)):=by
 unfold rA xK
 cases a with
 |true=>rfl
 |false=>
  simp only [Bool.false_eq_true,if_false,Bool.false_or]
  by_cases h0:w < 0
  ·rw [if_pos (by simpa using h0),decide_eq_true h0];rfl
  ·rw [if_neg (by simpa using h0),decide_eq_false h0,has_eq h h',decide_eq_true (p:=0≤w) (by omega)];rfl
theorem anyS_eq {m:List Bool} {w:Int} {a:Bool} (h:w.toNat < m.length) (h':0 < m.length):mW 0 w a [m]=some (a||(decide (0≤w)&&m.getD w.toNat false)):=by
 unfold mW
 cases a with
 |true=>rfl
 |false=>
  simp only [Bool.false_eq_true,if_false,Bool.false_or]
  rw [has_eq h h'];rfl
theorem movesL_eq {t p:cH} (ht:One t) (hp:cT p) (hps:iQ p) {m:List Bool} (hm:m.length=p.N.toNat) (q:Nat):yZ ⟨t,p⟩ 0 (q:Int) false [m]=some (lvB p (tx t) m (q:Int)):=by
 have h300:=ht.len
 have hp1:=hp.1
 unfold yZ
 rw [aJq _ _ (by simp only;omega),aI]
 simp only
 rw [aEf ht,aFy]
 have:=lR (step:=fun s:Bool × Int=>nW ⟨t,p⟩ (q:Int) [m] t.E s.1 s.2) t.E (fun k (b:Bool)=>(b,(k:Int))) (fun l b=>b||l.any fun e=>decide (wP p (q:Int) (txt t e) < 0)||m.getD (wP p (q:Int) (txt t e)).toNat false) (fun _ _=>True) (fun k a e l hk hx _=>?_) (fun a _=>by simp only [nW,bT];simp) (a:=false) trivial
 ·rw [show (0:Int)=((0:Nat):Int) from rfl,this,aI,Bool.false_or];rfl
 ·left
  obtain ⟨hk',rfl⟩:=pN hx
  have hem:t.E[k]∈t.E:=List.getElem_mem hk
  obtain ⟨e1,e2,e3,e4,_⟩:=ht.edge hem
  have hgo:=aCK hp (q:Int) (txt t t.E[k])
  refine ⟨_,?_,trivial,by rw [List.any_cons,←Bool.or_assoc]⟩
  simp only [nW,cB hk,if_pos,hx,aI,tT,e2,e4,aIK hp hps,bV hk (show t.E.length < 4611686018427387904 by omega)]
  rw [if_neg (by simpa using e3),anyL_eq (by omega) (by omega),aI]
theorem movesS_eq {t p:cH} (ht:One t) (hp:cT p) (hps:iQ p) {m:List Bool} (hm:m.length=p.N.toNat) (q:Nat):tV ⟨t,p⟩ 0 (q:Int) false [m]=some (stB p (tx t) m (q:Int)):=by
 have h300:=ht.len
 have hp1:=hp.1
 unfold tV
 rw [aJq _ _ (by simp only;omega),aI]
 simp only
 rw [aEf ht,aLk]
 have:=lR (step:=fun s:Bool × Int=>lG ⟨t,p⟩ (q:Int) [m] t.E s.1 s.2) t.E (fun k (b:Bool)=>(b,(k:Int))) (fun l b=>b||l.any fun e=>decide (0≤wP p (q:Int) (txt t e))&&m.getD (wP p (q:Int) (txt t e)).toNat false) (fun _ _=>True) (fun k a e l hk hx _=>?_) (fun a _=>by simp only [lG,bT];simp) (a:=false) trivial
 ·rw [show (0:Int)=((0:Nat):Int) from rfl,this,aI,Bool.false_or];rfl
 ·left
  obtain ⟨hk',rfl⟩:=pN hx
  have hem:t.E[k]∈t.E:=List.getElem_mem hk
  obtain ⟨e1,e2,e3,e4,_⟩:=ht.edge hem
  have hgo:=aCK hp (q:Int) (txt t t.E[k])
  refine ⟨_,?_,trivial,by rw [List.any_cons,←Bool.or_assoc]⟩
  simp only [lG,cB hk,if_pos,hx,aI,pF,e2,e4,aIK hp hps,bV hk (show t.E.length < 4611686018427387904 by omega)]
  rw [if_neg (by simpa using e3),anyS_eq (by omega) (by omega),aI]
theorem aNv {t p:cH} (ht:One t) (hp:cT p) (hps:iQ p) {m:List Bool} (hm:m.length=p.N.toNat) (q:Nat):tU 0 (q:Int) [m] ⟨t,p⟩=some (lvB p (tx t) m (q:Int)):=by
 unfold tU aEU
 rw [movesL_eq ht hp hps hm];rfl
theorem aOG {t p:cH} (ht:One t) (hp:cT p) (hps:iQ p) {m:List Bool} (hm:m.length=p.N.toNat) (q:Nat):vL 0 (q:Int) [m] ⟨t,p⟩=some (decide (0 < t.E.length)&&!stB p (tx t) m (q:Int)):=by
 have h300:=ht.len
 unfold vL aCm
 rw [aJq _ _ (by simp only;omega),aI]
 simp only
 rw [aEf ht,movesS_eq ht hp hps hm]
 by_cases h0:0 < t.E.length
 ·rw [if_pos (by simp only [decide_eq_true_eq];omega),decide_eq_true h0];rfl
 ·rw [if_neg (by simp only [decide_eq_true_eq];omega),decide_eq_false h0];rfl
theorem leave_eq {t p:cH} (ht:One t) (hp:cT p) (hps:iQ p):aAj ⟨t,p⟩=some [tW p (tx t)]:=by
 obtain ⟨n,hn⟩:∃ n:Nat,p.N=(n:Int):=⟨p.N.toNat,by have:=hp.1;omega⟩
 have hn40:1≤n∧n≤40:=by have:=hp.1;omega
 unfold aAj aCl
 simp only
 rw [ht.one,show mkz 1 ([]:List Bool)=some [[]] from rfl,aI]
 have sf0:lZ ⟨t,p⟩ false [[]] [[]] 0=some (.inl ([List.replicate n false],1)):=by
  simp only [lZ,hn,aHK false n hn40.1 (by omega)];rfl
 have sf1:lZ ⟨t,p⟩ false [[]] [List.replicate n false] 1=some (.inr [List.replicate n false]):=rfl
 rw [bM,sf0];simp only
 rw [bM,sf1];simp only [aI,yP]
 have hG0:GL p (tx t) (List.replicate n false):=⟨by simp [hn],fun q hq=>by rw [List.getElem?_replicate] at hq;split at hq<;>cases hq⟩
 have hset:=aCw (α:=List (List Bool)) (fun m=>[m]) (step:=fun s:List (List Bool) × Bool=>qS false ⟨t,p⟩ s.1 s.2) false (GL p (tx t)) (CL p (tx t)) (fun m hG=>?_) (fun m=>rfl) n (List.replicate n false) (by simp) hG0
 ·obtain ⟨m,hl,hG,hC⟩:=hset
  rw [hl,aI,aAw,hG.row hp hC];rfl
 ·have hml:m.length=n:=by have:=hG.1;omega
  have hpass:=yH (step:=fun s:List (List Bool) × Bool × Int=>mU false ⟨t,p⟩ 0 m s.1 s.2.1 s.2.2) n (fun q (a:List Bool × Bool)=>([a.1],a.2,(q:Int)))
   (fun q a=>Adv false (GL p (tx t)) m a.1 a.2∧(a.2=false→∀ q',q' < q→m[q']?=some false→lvB p (tx t) m (q':Int)=false)) (fun r=>∃ m',r.1=[m']∧Adv false (GL p (tx t)) m m' r.2∧(r.2=false→CL p (tx t) m)) (fun q a hq hI=>?_) (fun a hI=>?_) n 0 (m,false) (by omega) ⟨Adv.refl hG,fun _ q' h=>by omega⟩
  ·obtain ⟨r,hr,m',he,hA,hc⟩:=hpass
   refine ⟨m',r.2,?_,hA,hc⟩
   simp only [qS,if_pos]
   have s0:mV false ⟨t,p⟩ [m] [m] false 0=some (.inl ([m'],r.2,1)):=by
    simp only [mV,show ix [m] 0=some m from rfl,aI]
    rw [if_pos (by simp)]
    rw [show (0:Int)=((0:Nat):Int) from rfl] at hr ⊢
    rw [hr,aI,←he];rfl
   have s1:mV false ⟨t,p⟩ [m] [m'] r.2 1=some (.inr ([m'],r.2)):=rfl
   rw [bM,s0]
   simp only
   rw [bM,s1];rfl
  ·obtain ⟨m',ag⟩:=a
   obtain ⟨hI1,hI2⟩:=hI
   simp only at hI1 hI2
   have hlen:=hI1.good.1
   rw [hn,Int.toNat_natCast] at hlen
   have hqm:q < m'.length:=by omega
   have hkeep:(m'[q]?=some false→lvB p (tx t) m' (q:Int)=false)→∃ a':List Bool × Bool,(some (.inl ([m'],ag,((q+1:Nat):Int))):Option ((List (List Bool) × Bool × Int) ⊕ (List (List Bool) × Bool)))=some (.inl ([a'.1],a'.2,((q+1:Nat):Int)))∧Adv false (GL p (tx t)) m a'.1 a'.2∧(a'.2=false→∀ q',q' < q+1→m[q']?=some false→lvB p (tx t) m (q':Int)=false):=by
    intro hk
    refine ⟨(m',ag),rfl,hI1,fun hf q' hq'=>?_⟩
    by_cases hqq:q' < q
    ·exact hI2 hf q' hqq
    ·obtain rfl:q'=q:=by omega
     rw [←hI1.eq hf];exact hk
   simp only [mU,hml,cB hq,if_pos,show ix [m'] 0=some m' from rfl,cO hqm,aI,aNv ht hp hps (m:=m') (by rw [hn];simpa using hlen),sC,sB,bV hq (show n < 4611686018427387904 by omega),wN _ hqm]
   cases hm:m'[q] with
   |true=>
    simp only [show ((true == false)=true)=False by simp,if_false,Bool.false_eq_true]
    exact hkeep fun h=>by rw [List.getElem?_eq_getElem hqm,hm] at h;cases h
   |false=>
    simp only [BEq.rfl,if_pos]
    cases hb:lvB p (tx t) m' (q:Int) with
    |false=>
     simp only [Bool.false_eq_true,if_false]
     exact hkeep fun _=>hb
    |true=>
     have hmq:m'[q]?=some false:=by rw [List.getElem?_eq_getElem hqm,hm]
     exact ⟨(m'.set q true,true),rfl,hI1.flip hmq (hI1.good.flip hmq hb),fun h=>by cases h⟩
  ·refine ⟨([a.1],a.2),by simp only [mU,hml,bT];rfl,a.1,rfl,hI.1,fun hf q hq=>?_⟩
   have hl:q < m.length:=(List.getElem?_eq_some_iff.1 hq).1
   exact hI.2 hf q (by omega) hq
theorem stay_eq {t p:cH} (ht:One t) (hp:cT p) (hps:iQ p):aAM ⟨t,p⟩=some [tX p (tx t)]:=by
 obtain ⟨n,hn⟩:∃ n:Nat,p.N=(n:Int):=⟨p.N.toNat,by have:=hp.1;omega⟩
 have hn40:1≤n∧n≤40:=by have:=hp.1;omega
 have hLe:tx t=[]↔t.E=[]:=by unfold tx;simp
 unfold aAM aAx
 simp only
 rw [ht.one,show mkz 1 ([]:List Bool)=some [[]] from rfl,aI]
 have sf0:jX ⟨t,p⟩ true [[]] [[]] 0=some (.inl ([List.replicate n true],1)):=by
  simp only [jX,hn,aHK true n hn40.1 (by omega)];rfl
 have sf1:jX ⟨t,p⟩ true [[]] [List.replicate n true] 1=some (.inr [List.replicate n true]):=rfl
 rw [bM,sf0];simp only
 rw [bM,sf1];simp only [aI,uN]
 have hG0:GS p (tx t) (List.replicate n true):=⟨by simp [hn],fun q hq=>by rw [List.getElem?_replicate] at hq;split at hq<;>cases hq⟩
 have hset:=aCw (α:=List (List Bool)) (fun m=>[m]) (step:=fun s:List (List Bool) × Bool=>nJ true ⟨t,p⟩ s.1 s.2) true (GS p (tx t)) (CS p (tx t)) (fun m hG=>?_) (fun m=>rfl) n (List.replicate n true) (by simp) hG0
 ·obtain ⟨m,hl,hG,hC⟩:=hset
  rw [hl,aI,wB,hG.row hC];rfl
 ·have hml:m.length=n:=by have:=hG.1;omega
  have hpass:=yH (step:=fun s:List (List Bool) × Bool × Int=>kM true ⟨t,p⟩ 0 m s.1 s.2.1 s.2.2) n (fun q (a:List Bool × Bool)=>([a.1],a.2,(q:Int)))
   (fun q a=>Adv true (GS p (tx t)) m a.1 a.2∧(a.2=false→∀ q',q' < q→m[q']?=some true→tx t=[]∨stB p (tx t) m (q':Int)=true)) (fun r=>∃ m',r.1=[m']∧Adv true (GS p (tx t)) m m' r.2∧(r.2=false→CS p (tx t) m)) (fun q a hq hI=>?_) (fun a hI=>?_) n 0 (m,false) (by omega) ⟨Adv.refl hG,fun _ q' h=>by omega⟩
  ·obtain ⟨r,hr,m',he,hA,hc⟩:=hpass
   refine ⟨m',r.2,?_,hA,hc⟩
   simp only [nJ,if_pos]
   have s0:kN true ⟨t,p⟩ [m] [m] false 0=some (.inl ([m'],r.2,1)):=by
    simp only [kN,show ix [m] 0=some m from rfl,aI]
    rw [if_pos (by simp)]
    rw [show (0:Int)=((0:Nat):Int) from rfl] at hr ⊢
    rw [hr,aI,←he];rfl
   have s1:kN true ⟨t,p⟩ [m] [m'] r.2 1=some (.inr ([m'],r.2)):=rfl
   rw [bM,s0]
   simp only
   rw [bM,s1];rfl
  ·obtain ⟨m',ag⟩:=a
   obtain ⟨hI1,hI2⟩:=hI
   simp only at hI1 hI2
   have hlen:=hI1.good.1
   rw [hn,Int.toNat_natCast] at hlen
   have hqm:q < m'.length:=by omega
   have hkeep:(m'[q]?=some true→tx t=[]∨stB p (tx t) m' (q:Int)=true)→∃ a':List Bool × Bool,(some (.inl ([m'],ag,((q+1:Nat):Int))):Option ((List (List Bool) × Bool × Int) ⊕ (List (List Bool) × Bool)))=some (.inl ([a'.1],a'.2,((q+1:Nat):Int)))∧Adv true (GS p (tx t)) m a'.1 a'.2∧(a'.2=false→∀ q',q' < q+1→m[q']?=some true→tx t=[]∨stB p (tx t) m (q':Int)=true):=by
    intro hk
    refine ⟨(m',ag),rfl,hI1,fun hf q' hq'=>?_⟩
    by_cases hqq:q' < q
    ·exact hI2 hf q' hqq
    ·obtain rfl:q'=q:=by omega
     rw [←hI1.eq hf];exact hk
   simp only [kM,hml,cB hq,if_pos,show ix [m'] 0=some m' from rfl,cO hqm,aI,aOG ht hp hps (m:=m') (by rw [hn];simpa using hlen),oM,oL,bV hq (show n < 4611686018427387904 by omega),wN _ hqm]
   cases hm:m'[q] with
   |false=>
    simp only [show ((false == true)=true)=False by simp,if_false,Bool.false_eq_true]
    exact hkeep fun h=>by rw [List.getElem?_eq_getElem hqm,hm] at h;cases h
   |true=>
    simp only [BEq.rfl,if_pos]
    by_cases h0:t.E=[]
    ·have:(decide (0 < t.E.length)&&!stB p (tx t) m' (q:Int))=false:=by rw [h0];rfl
     rw [this]
     simp only [Bool.false_eq_true,if_false]
     exact hkeep fun _=>.inl (hLe.2 h0)
    ·have hd:decide (0 < t.E.length)=true:=by simpa using List.length_pos_iff.2 h0
     rw [hd,Bool.true_and]
     cases hb:stB p (tx t) m' (q:Int) with
     |true=>
      simp only [Bool.not_true,Bool.false_eq_true,if_false]
      exact hkeep fun _=>.inr hb
     |false=>
      have hmq:m'[q]?=some true:=by rw [List.getElem?_eq_getElem hqm,hm]
      exact ⟨(m'.set q false,true),rfl,hI1.flip hmq (hI1.good.flip hmq (fun e=>h0 (hLe.1 e)) hp hb),fun h=>by cases h⟩
  ·refine ⟨([a.1],a.2),by simp only [kM,hml,bT];rfl,a.1,rfl,hI.1,fun hf q hq=>?_⟩
   have hl:q < m.length:=(List.getElem?_eq_some_iff.1 hq).1
   exact hI.2 hf q (by omega) hq
end Gv
