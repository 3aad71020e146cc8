/- Validity of transition systems, on both sides. -/
import Derived.Test.YtcoeckcjdpbbkaaGreatDoorJP1
set_option linter.all false
namespace Gv
open Go
def pW (xs:List aH):Prop:=1<=xs.length/\xs.length<=12/\(∀ h:0 < xs.length,xs[0]=bL)/\∀ k,1<=k->(hk:k < xs.length)->aDD xs[k]=true/\xs[k]≠bL/\(2<=k->wY (xs[k - 1]'(by omega)) xs[k]=true)
theorem aOO:aDD bL=true:=by decide
theorem aRn (xs:List aH) (h2:∀ s∈xs,s.length < 1000000000):aEr xs=some (cl (pW xs)):=by
 unfold aEr
 by_cases h0:xs.length=0
 ·rw [if_pos (by simp [h0]),kF (P:=pW xs) (fun h=>by have:=h.1;omega)];rfl
 rw [if_neg (by simpa using h0)]
 by_cases h12:12 < xs.length
 ·rw [if_pos (by simp;omega),kF (P:=pW xs) (fun h=>by have:=h.2.1;omega)];rfl
 rw [if_neg (by simp;omega),show (0:Int)=((0:Nat):Int) from rfl,aX (xs:=xs) (k:=0) (by omega),aA,show ([116,97,117]:aH)=bL from rfl]
 unfold vS
 by_cases ht:xs[0]'(by omega)=bL
 ·rw [if_neg (by simp [ht])]
  have:=wC (step:=fun s=>zO xs s) xs.length 1 (fun k=>∀ hk:k < xs.length,1<=k->aDD xs[k]=true/\xs[k]≠bL/\(2<=k->wY (xs[k - 1]'(by omega)) xs[k]=true)) (.inr false) (.inl ()) (by omega) (fun k h0 hk=>?_) (by simp only [zO,aS];rfl)
  ·rw [show (1:Int)=((1:Nat):Int) from rfl,this,aA]
   by_cases hs:∀ k,1<=k->k < xs.length->∀ hk:k < xs.length,1<=k->aDD xs[k]=true/\xs[k]≠bL/\(2<=k->wY (xs[k - 1]'(by omega)) xs[k]=true)
   ·rw [if_pos (jL hs),jL (P:=pW xs) ⟨by omega,by omega,fun _=>ht,fun k h1 hk=>hs k h1 hk hk h1⟩];rfl
   ·rw [if_neg (by rw [oX];exact hs),kF (P:=pW xs) (fun h=>hs fun k h1 hk _ _=>h.2.2.2 k h1 hk)]
  ·simp only [zO,aV hk,if_pos,aX hk,aA,aRl _ (h2 _ (List.getElem_mem hk)),vR,aQ hk (show xs.length < 4611686018427387904 by omega)]
   rw [show ([116,97,117]:aH)=bL from rfl]
   by_cases hl:aDD xs[k]=true
   ·rw [hl]
    by_cases htk:xs[k]=bL
    ·have:(xs[k] == bL)=true:=by simp [htk]
     rw [this,kF (fun h=>(h hk h0).2.1 htk)];rfl
    ·have:(xs[k] == bL)=false:=by simp [htk]
     rw [this]
     by_cases hk2:2<=k
     ·have hk1:wr ((k:Int) - 1)=((k - 1:Nat):Int):=by rw [dE (by omega) (by omega)];omega
      rw [decide_eq_true (p:=(1:Int) < (k:Int)) (by omega),hk1,aX (xs:=xs) (k:=k - 1) (by omega)]
      rw [aGr (b:=wY (xs[k - 1]'(by omega)) xs[k]) ⟨fun h _ _=>⟨hl,htk,fun _=>h⟩,fun h=>(h hk h0).2.2 hk2⟩]
      simp only [Bool.not_true,Bool.false_eq_true,if_false,if_pos,aA]
      cases wY (xs[k - 1]'(by omega)) xs[k]<;>rfl
     ·rw [decide_eq_false (p:=(1:Int) < (k:Int)) (by omega),jL (fun _ _=>⟨hl,htk,fun h=>absurd h hk2⟩)];rfl
   ·rw [kF (fun h=>hl (h hk h0).1)]
    rw [Bool.not_eq_true] at hl
    rw [hl];rfl
 ·rw [if_pos (by simp [ht]),kF (P:=pW xs) (fun h=>ht (h.2.2.1 (by omega)))]
def aAO (t:aP) (e:Edge):Prop:=(0<=e.F/\e.F<=t.N - 1)/\(0<=e.To/\e.To<=t.N - 1)/\0<=e.B/\e.B<=(t.L.length:Int) - 1
def EdgesOk (t:aP):Prop:=t.E.length<=300/\∀ k,(hk:k < t.E.length)->aAO t t.E[k]/\(1<=k->bK (t.E[k - 1]'(by omega)) t.E[k]=true)
def aT (t:aP):Prop:=(1<=t.N/\t.N<=40)/\(0<=t.I/\t.I<=t.N - 1)/\pW t.L/\EdgesOk t
theorem aMX (a b:Edge):aGb a b=some (bK a b):=by
 obtain ⟨a1,a2,a3⟩:=a;obtain ⟨b1,b2,b3⟩:=b
 simp only [aGb,bK]
 by_cases h1:a1=b1<;>by_cases h2:a2=b2<;>simp [h1,h2]
theorem oE (n a b:Int):(decide (a<=n)&&decide (n<=b))=true<->a<=n/\n<=b:=by simp
theorem uD {n a b:Int} (h:¬ (a<=n/\n<=b)):(decide (a<=n)&&decide (n<=b))=false:=by
 cases hx:(decide (a<=n)&&decide (n<=b)) with
 |false=>rfl
 |true=>exact absurd ((oE _ _ _).1 hx) h
theorem l11Is_eq (t:aP) (hf:eZ 999999999 t):aJP t=some (cl (aT t)):=by
 obtain ⟨f1,f2,f3⟩:=hf
 unfold aJP
 rw [aIc,aA]
 by_cases na:¬ (1<=t.N/\t.N<=40)
 ·rw [uD na,Bool.not_false,if_pos rfl,kF (P:=aT t) (fun h=>na h.1)];rfl
 have a1:1<=t.N/\t.N<=40:=Classical.not_not.1 na
 have w1:wr (t.N - 1)=t.N - 1:=dE (by omega) (by omega)
 rw [if_neg (by rw [←oE] at a1;simp [a1]),w1,aIc,aA]
 by_cases na:¬ (0<=t.I/\t.I<=t.N - 1)
 ·rw [uD na,Bool.not_false,if_pos rfl,kF (P:=aT t) (fun h=>na h.2.1)];rfl
 have a2:0<=t.I/\t.I<=t.N - 1:=Classical.not_not.1 na
 rw [if_neg (by rw [←oE] at a2;simp [a2]),aRn _ (fun s hs=>by have:=f2 s hs;omega),aA]
 by_cases na:¬ pW t.L
 ·rw [if_pos (by rw [kF na];rfl),kF (P:=aT t) (fun h=>na h.2.2.1)];rfl
 have a3:pW t.L:=Classical.not_not.1 na
 rw [if_neg (by rw [jL a3];simp)]
 unfold aAH
 by_cases h300:300 < t.E.length
 ·rw [if_pos (by simp;omega),kF (P:=aT t) (fun h=>by have:=h.2.2.2.1;omega)]
 rw [if_neg (by simp;omega)]
 have:=wC (step:=fun s=>aEs t s) t.E.length 0 (fun k=>∀ hk:k < t.E.length,aAO t t.E[k]/\(1<=k->bK (t.E[k - 1]'(by omega)) t.E[k]=true)) (.inr false) (.inl ()) (Nat.zero_le _) (fun k h0 hk=>?_) (by simp only [aEs,aS];rfl)
 ·rw [show (0:Int)=((0:Nat):Int) from rfl,this,aA]
  by_cases hs:∀ k,0<=k->k < t.E.length->∀ hk:k < t.E.length,aAO t t.E[k]/\(1<=k->bK (t.E[k - 1]'(by omega)) t.E[k]=true)
  ·rw [if_pos (jL hs),jL (P:=aT t) ⟨a1,a2,a3,by omega,fun k hk=>hs k (by omega) hk hk⟩];rfl
  ·rw [if_neg (by rw [oX];exact hs),kF (P:=aT t) (fun h=>hs fun k _ hk _=>h.2.2.2.2 k hk)]
 ·have wl:wr ((t.L.length:Int) - 1)=(t.L.length:Int) - 1:=dE (by omega) (by omega)
  simp only [aEs,aV hk,if_pos,aX hk,aA,aIc,w1,wl,aCq,aGK,aMX,aQ hk (show t.E.length < 4611686018427387904 by omega)]
  generalize he:t.E[k]=e
  by_cases n1:¬ (0<=e.F/\e.F<=t.N - 1)
  ·have:(decide (0<=e.F)&&decide (e.F<=t.N - 1))=false:=uD n1
   rw [this,kF (fun h=>by have:=(h hk).1.1;rw [he] at this;exact n1 this)];rfl
  rw [(oE _ _ _).2 (Classical.not_not.1 n1)]
  by_cases n2:¬ (0<=e.To/\e.To<=t.N - 1)
  ·have:(decide (0<=e.To)&&decide (e.To<=t.N - 1))=false:=uD n2
   rw [this,kF (fun h=>by have:=(h hk).1.2.1;rw [he] at this;exact n2 this)];rfl
  rw [(oE _ _ _).2 (Classical.not_not.1 n2)]
  by_cases n3:¬ (0<=e.B/\e.B<=(t.L.length:Int) - 1)
  ·have:(decide (0<=e.B)&&decide (e.B<=(t.L.length:Int) - 1))=false:=uD n3
   rw [this,kF (fun h=>by have:=(h hk).1.2.2;rw [he] at this;exact n3 this)];rfl
  rw [(oE _ _ _).2 (Classical.not_not.1 n3)]
  have hin:aAO t t.E[k]:=by rw [he];exact ⟨Classical.not_not.1 n1,Classical.not_not.1 n2,Classical.not_not.1 n3⟩
  by_cases h1:1<=k
  ·have hk1:wr ((k:Int) - 1)=((k - 1:Nat):Int):=by rw [dE (by omega) (by omega)];omega
   rw [decide_eq_true (p:=(0:Int) < (k:Int)) (by omega),hk1,aX (xs:=t.E) (k:=k - 1) (by omega)]
   rw [aGr (b:=bK (t.E[k - 1]'(by omega)) e) ⟨fun h _=>⟨hin,fun _=>by rw [he];exact h⟩,fun h=>by have:=(h hk).2 h1;rw [he] at this;exact this⟩]
   simp only [Bool.not_true,Bool.false_eq_true,if_false,if_pos,aA]
   cases bK (t.E[k - 1]'(by omega)) e<;>rfl
  ·rw [decide_eq_false (p:=(0:Int) < (k:Int)) (by omega),jL (fun _=>⟨hin,fun h=>absurd h h1⟩)]
   simp only [Bool.not_true,Bool.false_eq_true,if_false];rfl
def aLC (a b:Int):Int:=if a < b then -1 else if b < a then 1 else 0
theorem aJj (a b:Int):dR a b=some (aLC a b):=by
 unfold dR pL aLC
 by_cases h1:a < b<;>by_cases h2:b < a<;>simp [h1,h2]
def or3 (a b c:Int):Int:=if a≠0 then a else if b≠0 then b else c
theorem Or_eq (a b c:Int):aAg [a,b,c]=some (or3 a b c):=by
 unfold aAg or3
 have s0:jQ [a,b,c] 0=if a≠0 then some (.inr (.inr a)) else some (.inl 1):=by
  simp only [jQ,show ix [a,b,c] 0=some a from rfl,aA]
  by_cases h:a=0<;>simp [h]<;>rfl
 have s1:jQ [a,b,c] 1=if b≠0 then some (.inr (.inr b)) else some (.inl 2):=by
  simp only [jQ,show ix [a,b,c] 1=some b from rfl,aA]
  by_cases h:b=0<;>simp [h]<;>rfl
 have s2:jQ [a,b,c] 2=if c≠0 then some (.inr (.inr c)) else some (.inl 3):=by
  simp only [jQ,show ix [a,b,c] 2=some c from rfl,aA]
  by_cases h:c=0<;>simp [h]<;>rfl
 have s3:jQ [a,b,c] 3=some (.inr (.inl ())):=rfl
 by_cases h1:a=0
 ·by_cases h2:b=0
  ·by_cases h3:c=0
   ·rw [bA,s0,if_neg (by simp [h1])];simp only
    rw [bA,s1,if_neg (by simp [h2])];simp only
    rw [bA,s2,if_neg (by simp [h3])];simp only
    rw [bA,s3]
    simp [h1,h2,h3,aCs]
   ·rw [bA,s0,if_neg (by simp [h1])];simp only
    rw [bA,s1,if_neg (by simp [h2])];simp only
    rw [bA,s2,if_pos (by simp [h3])]
    simp [h1,h2]
  ·rw [bA,s0,if_neg (by simp [h1])];simp only
   rw [bA,s1,if_pos h2]
   simp [h1,h2]
 ·rw [bA,s0,if_pos h1]
  simp [h1]
theorem aHq (a b:Edge):xP a b=some (or3 (aLC a.F b.F) (aLC a.B b.B) (aLC a.To b.To)):=by
 unfold xP
 rw [aJj,aA,aJj,aA,aJj,aA,Or_eq];rfl
theorem cmpE_ge (a b:Edge):decide (0<=or3 (aLC a.F b.F) (aLC a.B b.B) (aLC a.To b.To))=!bK a b:=by
 obtain ⟨a1,a2,a3⟩:=a;obtain ⟨b1,b2,b3⟩:=b
 simp only [bK,or3,aLC]
 rcases Int.lt_trichotomy a1 b1 with h1|h1|h1<;>rcases Int.lt_trichotomy a2 b2 with h2|h2|h2<;>rcases Int.lt_trichotomy a3 b3 with h3|h3|h3<;>
  simp [h1,h2,h3,Int.not_lt_of_ge,Int.le_of_lt,Int.ne_of_lt,Int.ne_of_gt]<;>omega
theorem aJk (t:aP) (k:Int) (h:-9223372036854775807<=t.N/\t.N<=9223372036854775807):sF t k=some (decide (0<=k)&&decide (k<=t.N - 1)):=by
 unfold sF
 rw [aDV,dE (by omega) (by omega)];rfl
theorem index_eq (k:Int) (n:Nat) (h:n < 1000000000):aLN k (n:Int)=some (decide (0<=k)&&decide (k<=(n:Int) - 1)):=by
 unfold aLN
 rw [aDV,dE (by omega) (by omega)];rfl
theorem aId (t:aP) (hf:eZ 999999999 t):aAJ t=some (cl (aT t)):=by
 obtain ⟨f1,f2,f3⟩:=hf
 unfold aAJ
 rw [aDV,aA]
 by_cases na:¬ (1<=t.N/\t.N<=40)
 ·rw [uD na,Bool.not_false,if_pos rfl,kF (P:=aT t) (fun h=>na h.1)];rfl
 have a1:1<=t.N/\t.N<=40:=Classical.not_not.1 na
 have hst:-9223372036854775807<=t.N/\t.N<=9223372036854775807:=by omega
 rw [if_neg (by rw [←oE] at a1;simp [a1]),aJk t _ hst,aA]
 by_cases na:¬ (0<=t.I/\t.I<=t.N - 1)
 ·rw [uD na,Bool.not_false,if_pos rfl,kF (P:=aT t) (fun h=>na h.2.1)];rfl
 have a2:0<=t.I/\t.I<=t.N - 1:=Classical.not_not.1 na
 rw [if_neg (by rw [←oE] at a2;simp [a2]),aDV,aA]
 by_cases na:¬ (1<=(t.L.length:Int)/\(t.L.length:Int)<=12)
 ·rw [uD na,Bool.not_false,if_pos rfl,kF (P:=aT t) (fun h=>by have h1:=h.2.2.1.1;have h2:=h.2.2.1.2.1;omega)];rfl
 have a3:1<=(t.L.length:Int)/\(t.L.length:Int)<=12:=Classical.not_not.1 na
 rw [if_neg (by rw [←oE] at a3;simp [a3])]
 unfold sH
 by_cases h300:300 < t.E.length
 ·rw [if_pos (by simp;omega),kF (P:=aT t) (fun h=>by have:=h.2.2.2.1;omega)]
 rw [if_neg (by simp;omega)]
 have hlabs:=wC (step:=fun s=>aAi t s) t.L.length 0 (fun k=>∀ hk:k < t.L.length,aDD t.L[k]=true/\(t.L[k]=bL<->k=0)/\(2<=k->wY (t.L[k - 1]'(by omega)) t.L[k]=true)) (.inr false) (.inl ()) (Nat.zero_le _) (fun k h0 hk=>?_) (by simp only [aAi,aS];rfl)
 ·rw [show (0:Int)=((0:Nat):Int) from rfl,hlabs,aA]
  by_cases hs:∀ k,0<=k->k < t.L.length->∀ hk:k < t.L.length,aDD t.L[k]=true/\(t.L[k]=bL<->k=0)/\(2<=k->wY (t.L[k - 1]'(by omega)) t.L[k]=true)
  ·rw [if_pos (jL hs)]
   have a4:pW t.L:=⟨by omega,by omega,fun h=>(hs 0 (by omega) h h).2.1.2 rfl,fun k h1 hk=>⟨(hs k (by omega) hk hk).1,fun e=>by have:=(hs k (by omega) hk hk).2.1.1 e;omega,(hs k (by omega) hk hk).2.2⟩⟩
   simp only
   unfold aCH
   have:=wC (step:=fun s=>aAh t s) t.E.length 0 (fun k=>∀ hk:k < t.E.length,aAO t t.E[k]/\(1<=k->bK (t.E[k - 1]'(by omega)) t.E[k]=true)) (.inr false) (.inl ()) (Nat.zero_le _) (fun k h0 hk=>?_) (by simp only [aAh,aS];rfl)
   ·rw [show (0:Int)=((0:Nat):Int) from rfl,this,aA]
    by_cases hs:∀ k,0<=k->k < t.E.length->∀ hk:k < t.E.length,aAO t t.E[k]/\(1<=k->bK (t.E[k - 1]'(by omega)) t.E[k]=true)
    ·rw [if_pos (jL hs),jL (P:=aT t) ⟨a1,a2,a4,by omega,fun k hk=>hs k (by omega) hk hk⟩];rfl
    ·rw [if_neg (by rw [oX];exact hs),kF (P:=aT t) (fun h=>hs fun k _ hk _=>h.2.2.2.2 k hk)]
   ·simp only [aAh,aV hk,if_pos,aX hk,aA,aJk t _ hst,index_eq _ _ (show t.L.length < 1000000000 by omega),sG,aHq,cmpE_ge,aQ hk (show t.E.length < 4611686018427387904 by omega)]
    generalize he:t.E[k]=e
    by_cases n1:¬ (0<=e.F/\e.F<=t.N - 1)
    ·have:(decide (0<=e.F)&&decide (e.F<=t.N - 1))=false:=uD n1
     rw [this,kF (fun h=>by have:=(h hk).1.1;rw [he] at this;exact n1 this)];rfl
    rw [(oE _ _ _).2 (Classical.not_not.1 n1)]
    by_cases n2:¬ (0<=e.To/\e.To<=t.N - 1)
    ·have:(decide (0<=e.To)&&decide (e.To<=t.N - 1))=false:=uD n2
     rw [this,kF (fun h=>by have:=(h hk).1.2.1;rw [he] at this;exact n2 this)];rfl
    rw [(oE _ _ _).2 (Classical.not_not.1 n2)]
    by_cases n3:¬ (0<=e.B/\e.B<=(t.L.length:Int) - 1)
    ·have:(decide (0<=e.B)&&decide (e.B<=(t.L.length:Int) - 1))=false:=uD n3
     rw [this,kF (fun h=>by have:=(h hk).1.2.2;rw [he] at this;exact n3 this)];rfl
    rw [(oE _ _ _).2 (Classical.not_not.1 n3)]
    have hin:aAO t t.E[k]:=by rw [he];exact ⟨Classical.not_not.1 n1,Classical.not_not.1 n2,Classical.not_not.1 n3⟩
    by_cases h1:1<=k
    ·have hk1:wr ((k:Int) - 1)=((k - 1:Nat):Int):=by rw [dE (by omega) (by omega)];omega
     rw [decide_eq_true (p:=(0:Int) < (k:Int)) (by omega),hk1,aX (xs:=t.E) (k:=k - 1) (by omega)]
     rw [aGr (b:=bK (t.E[k - 1]'(by omega)) e) ⟨fun h _=>⟨hin,fun _=>by rw [he];exact h⟩,fun h=>by have:=(h hk).2 h1;rw [he] at this;exact this⟩]
     simp only [Bool.not_true,Bool.false_eq_true,if_false,if_pos,aA]
     cases bK (t.E[k - 1]'(by omega)) e<;>rfl
    ·rw [decide_eq_false (p:=(0:Int) < (k:Int)) (by omega),jL (fun _=>⟨hin,fun h=>absurd h h1⟩)]
     simp only [Bool.not_true,Bool.false_eq_true,if_false];rfl
  ·rw [if_neg (by rw [oX];exact hs),kF (P:=aT t) (fun h=>hs fun k _ hk _=>?_)]
   obtain ⟨l1,l2,l3,l4⟩:=h.2.2.1
   by_cases hk0:k=0
   ·subst hk0
    exact ⟨by rw [l3 hk];exact aOO,⟨fun _=>rfl,fun _=>l3 hk⟩,fun h=>by omega⟩
   ·have:=l4 k (by omega) hk
    exact ⟨this.1,⟨fun e=>absurd e this.2.1,fun e=>absurd e hk0⟩,this.2.2⟩
 ·simp only [aAi,aV hk,if_pos,aX hk,aA,aMV _ (show t.L[k].length < 1000000000 by have:=f2 _ (List.getElem_mem hk);omega),vX,aQ hk (show t.L.length < 4611686018427387904 by omega),ltB_ge]
  rw [show ([116,97,117]:aH)=bL from rfl]
  by_cases hl:aDD t.L[k]=true
  ·rw [hl]
   have e0:((k:Int) == 0)=decide (k=0):=by by_cases e:k=0<;>simp [e]
   by_cases htk:(t.L[k]=bL<->k=0)
   ·have:((t.L[k] == bL) != ((k:Int) == 0))=false:=by
     rw [e0]
     by_cases e:k=0
     ·have:=htk.2 e;rw [this];simp [e]
     ·have:¬ t.L[k]=bL:=fun h=>e (htk.1 h)
      simp [this,e]
    rw [this]
    by_cases hk2:2<=k
    ·have hk1:wr ((k:Int) - 1)=((k - 1:Nat):Int):=by rw [dE (by omega) (by omega)];omega
     rw [decide_eq_true (p:=(1:Int) < (k:Int)) (by omega),hk1,aX (xs:=t.L) (k:=k - 1) (by omega)]
     rw [aGr (b:=wY (t.L[k - 1]'(by omega)) t.L[k]) ⟨fun h _=>⟨hl,htk,fun _=>h⟩,fun h=>(h hk).2.2 hk2⟩]
     simp only [Bool.not_true,Bool.false_eq_true,if_false,if_pos,aA,ltB_ge]
     cases wY (t.L[k - 1]'(by omega)) t.L[k]<;>rfl
    ·rw [decide_eq_false (p:=(1:Int) < (k:Int)) (by omega),jL (fun _=>⟨hl,htk,fun h=>absurd h hk2⟩)];rfl
   ·have:((t.L[k] == bL) != ((k:Int) == 0))=true:=by
     rw [e0]
     by_cases e:k=0
     ·have:¬ t.L[k]=bL:=fun h=>htk ⟨fun _=>e,fun _=>h⟩
      rw [beq_false_of_ne this];simp [e]
     ·have:t.L[k]=bL:=Classical.byContradiction fun h=>htk ⟨fun h'=>absurd h' h,fun h'=>absurd h' e⟩
      simp [this,e]
    rw [this,kF (fun h=>htk (h hk).2.1)];rfl
  ·rw [kF (fun h=>hl (h hk).1)]
   rw [Bool.not_eq_true] at hl
   rw [hl];rfl
def aAP (t:aP):Prop:=∀ k,(hk:k < t.E.length)->t.E[k].B≠0/\(1<=k->¬ (t.E[k].F=(t.E[k - 1]'(by omega)).F/\t.E[k].B=(t.E[k - 1]'(by omega)).B))
theorem aPU (t:aP) (h:t.E.length < 1000000000):aCU t=some (cl (aAP t)):=by
 unfold aCU
 have:=wC (step:=fun s=>xF t s) t.E.length 0 (fun k=>∀ hk:k < t.E.length,t.E[k].B≠0/\(1<=k->¬ (t.E[k].F=(t.E[k - 1]'(by omega)).F/\t.E[k].B=(t.E[k - 1]'(by omega)).B))) (.inr false) (.inl ()) (Nat.zero_le _) (fun k h0 hk=>?_) (by simp only [xF,aS];rfl)
 ·rw [show (0:Int)=((0:Nat):Int) from rfl,this,aA]
  by_cases hs:aAP t
  ·rw [if_pos (jL fun k _ hk _=>hs k hk),jL hs];rfl
  ·rw [if_neg (by rw [oX];exact fun h=>hs fun k hk=>h k (by omega) hk hk),kF hs]
 ·simp only [xF,aV hk,if_pos,aX hk,aA,tB,aQ hk (show t.E.length < 4611686018427387904 by omega)]
  by_cases hl:t.E[k].B=0
  ·rw [if_pos (by simpa using hl),kF (fun h=>(h hk).1 hl)];rfl
  ·rw [if_neg (by simpa using hl)]
   by_cases h1:1<=k
   ·have hk1:wr ((k:Int) - 1)=((k - 1:Nat):Int):=by rw [dE (by omega) (by omega)];omega
    rw [decide_eq_true (p:=(0:Int) < (k:Int)) (by omega),hk1,aX (xs:=t.E) (k:=k - 1) (by omega)]
    simp only [if_pos,aA]
    by_cases a:t.E[k].F=(t.E[k - 1]'(by omega)).F
    ·rw [if_pos (by simpa using a)]
     by_cases b:t.E[k].B=(t.E[k - 1]'(by omega)).B
     ·rw [if_pos (by simpa using b),kF (fun h=>(h hk).2 h1 ⟨a,b⟩)];rfl
     ·rw [if_neg (by simpa using b),jL (fun _=>⟨hl,fun _ h=>b h.2⟩)];rfl
    ·rw [if_neg (by simpa using a),jL (fun _=>⟨hl,fun _ h=>a h.1⟩)];rfl
   ·rw [decide_eq_false (p:=(0:Int) < (k:Int)) (by omega),jL (fun _=>⟨hl,fun h=>absurd h h1⟩)];rfl
theorem aMY (t:aP) (hf:eZ 999999999 t):jS t=some (cl (aT t/\aAP t)):=by
 unfold jS
 rw [aId t hf,aA]
 by_cases nv:¬ aT t
 ·rw [if_pos (by rw [kF nv];rfl),kF (fun h=>nv h.1)]
 have hv:aT t:=Classical.not_not.1 nv
 have h:t.E.length<=300:=hv.2.2.2.1
 rw [if_neg (by rw [jL hv];simp)]
 have:=wC (step:=fun s=>jR t s) t.E.length 0 (fun k=>∀ hk:k < t.E.length,t.E[k].B≠0/\(1<=k->¬ (t.E[k].F=(t.E[k - 1]'(by omega)).F/\t.E[k].B=(t.E[k - 1]'(by omega)).B))) (.inr false) (.inl ()) (Nat.zero_le _) (fun k h0 hk=>?_) (by simp only [jR,aS];rfl)
 ·rw [show (0:Int)=((0:Nat):Int) from rfl,this,aA]
  by_cases hs:aAP t
  ·rw [if_pos (jL fun k _ hk _=>hs k hk),jL (P:=aT t/\aAP t) ⟨hv,hs⟩];rfl
  ·rw [if_neg (by rw [oX];exact fun h=>hs fun k hk=>h k (by omega) hk hk),kF (fun h:aT t/\aAP t=>hs h.2)]
 ·simp only [jR,aV hk,if_pos,aX hk,aA,gO,aQ hk (show t.E.length < 4611686018427387904 by omega)]
  by_cases hl:t.E[k].B=0
  ·rw [if_pos (by simpa using hl),kF (fun h=>(h hk).1 hl)];rfl
  ·rw [if_neg (by simpa using hl)]
   by_cases h1:1<=k
   ·have hk1:wr ((k:Int) - 1)=((k - 1:Nat):Int):=by rw [dE (by omega) (by omega)];omega
    rw [decide_eq_true (p:=(0:Int) < (k:Int)) (by omega),hk1,aX (xs:=t.E) (k:=k - 1) (by omega)]
    simp only [if_pos,aA]
    by_cases a:t.E[k].F=(t.E[k - 1]'(by omega)).F
    ·rw [if_pos (by simpa using a.symm)]
     by_cases b:t.E[k].B=(t.E[k - 1]'(by omega)).B
     ·rw [if_pos (by simpa using b.symm),kF (fun h=>(h hk).2 h1 ⟨a,b⟩)];rfl
     ·rw [if_neg (by simpa using fun h=>b (Eq.symm h)),jL (fun _=>⟨hl,fun _ h=>b h.2⟩)];rfl
    ·rw [if_neg (by simpa using fun h=>a (Eq.symm h)),jL (fun _=>⟨hl,fun _ h=>a h.1⟩)];rfl
   ·rw [decide_eq_false (p:=(0:Int) < (k:Int)) (by omega),jL (fun _=>⟨hl,fun h=>absurd h h1⟩)];rfl
end Gv
namespace Gv
open Go
theorem aGS {α:Type} {R:α->α->Prop} (tr:∀ {a b c},R a b->R b c->R a c) {xs:List α} (h:∀ k,1<=k->(hk:k < xs.length)->R (xs[k - 1]'(by omega)) xs[k]) {i j:Nat} (hij:i < j) (hj:j < xs.length):R (xs[i]'(by omega)) xs[j]:=by
 induction j with
 |zero=>omega
 |succ j ih=>
  have h1:=h (j+1) (by omega) hj
  simp only [Nat.add_sub_cancel] at h1
  by_cases e:i=j
  ·subst e;exact h1
  ·exact tr (ih (by omega) (by omega)) h1
def kC (t:aP) (e:Edge):aH:=t.L.getD e.B.toNat []
def uE (a b:Edge):Prop:=a.F < b.F\/(a.F=b.F/\a.B < b.B)
theorem aMZ {a b c:Edge} (h1:uE a b) (h2:uE b c):uE a c:=by
 unfold uE at *;omega
theorem aEP {t:aP} (hv:aT t) (hs:aAP t) {i j:Nat} (hij:i < j) (hj:j < t.E.length):uE (t.E[i]'(by omega)) t.E[j]:=by
 refine aGS (R:=uE) aMZ (fun k h1 hk=>?_) hij hj
 have a:=(hv.2.2.2.2 k hk).2 h1
 have b:=(hs k hk).2 h1
 unfold bK at a
 simp only [Bool.or_eq_true,Bool.and_eq_true,decide_eq_true_eq,beq_iff_eq] at a
 unfold uE
 rcases a with a|⟨a1,a|⟨a2,_⟩⟩
 ·exact .inl a
 ·exact .inr ⟨a1,a⟩
 ·exact absurd ⟨a1.symm,a2.symm⟩ b
theorem aPV {xs:List aH} (h:pW xs) {i j:Nat} (hi:1<=i) (hij:i < j) (hj:j < xs.length):wY (xs[i]'(by omega)) xs[j]=true:=by
 induction j with
 |zero=>omega
 |succ j ih=>
  have h1:=(h.2.2.2 (j+1) (by omega) hj).2.2 (by omega)
  simp only [Nat.add_sub_cancel] at h1
  by_cases e:i=j
  ·subst e;exact h1
  ·exact aBh (ih (by omega) (by omega)) h1
theorem aJZ {xs:List aH} (h:pW xs) {i j:Nat} (hi:i < xs.length) (hj:j < xs.length) (e:xs[i]=xs[j]):i=j:=by
 have key:∀ i j,(hij:i < j)->(hj:j < xs.length)->xs[i]'(by omega)≠xs[j]:=by
  intro i j hij hj e
  by_cases h0:i=0
  ·subst h0
   rw [h.2.2.1 (by omega)] at e
   exact (h.2.2.2 j (by omega) hj).2.1 e.symm
  ·have:=aPV h (by omega) hij hj
   rw [e,uT] at this;cases this
 rcases Nat.lt_trichotomy i j with h1|h1|h1
 ·exact absurd e (key i j h1 hj)
 ·exact h1
 ·exact absurd e.symm (key j i h1 hi)
theorem eB {t:aP} (hv:aT t) {e:Edge} (he:e∈t.E):aAO t e:=by
 obtain ⟨k,hk,rfl⟩:=List.mem_iff_getElem.1 he
 exact (hv.2.2.2.2 k hk).1
theorem oQ {t:aP} {e:Edge} (he:aAO t e):ix t.L e.B=some (kC t e):=by
 obtain ⟨_,_,h1,h2⟩:=he
 rw [aOr h1 (by omega)]
 unfold kC;rw [List.getD_eq_getElem?_getD,List.getElem?_eq_getElem (by omega)];rfl
def hit (t:aP) (q:Int) (s:aH) (e:Edge):Bool:=e.F == q&&kC t e == s
def goF (t:aP) (q:Int) (s:aH):Int:=match t.E.find? (hit t q s) with|some e=>e.To|none=>-1
theorem goF_neg {t:aP} (hv:aT t) {q:Int} (h:q < 0) (s:aH):goF t q s=-1:=by
 unfold goF
 rw [List.find?_eq_none.2 fun e he=>by
  have:=(eB hv he).1.1
  unfold hit;simp;omega]
theorem goF_lt {t:aP} (hv:aT t) (q:Int) (s:aH):-1<=goF t q s/\goF t q s<=t.N - 1:=by
 unfold goF
 cases hx:t.E.find? (hit t q s) with
 |none=>have:=hv.1;simp only;omega
 |some e=>have:=(eB hv (List.mem_of_find?_eq_some hx)).2.1;simp only;omega
theorem srt_short {α:Type} (lt:α->α->Bool) {xs:List α} (h:xs.length<=1):srt lt xs=xs:=by
 unfold srt
 rcases xs with _|⟨a,_|⟨b,l⟩⟩
 ·simp
 ·simp
 ·simp at h
theorem aBi {β γ ρ:Type} {step:(List γ × Int)->Option ((List γ × Int) ⊕ ρ)} (xs:List β) (p:β->Bool) (f:β->γ) (e:List γ->ρ)
  (h:∀ (k:Nat) out x,k < xs.length->out.length<=k->ix xs (k:Int)=some x->step (out,(k:Int))=some (.inl (if p x=true then out++[f x] else out,((k+1:Nat):Int))))
  (h':∀ out,step (out,(xs.length:Int))=some (.inr (e out))):loop step ([],0)=some (e ((xs.filter p).map f)):=by
 have:=jY (step:=step) xs (fun k out=>(out,(k:Int))) (fun l out=>e (out++(l.filter p).map f)) (fun k out=>out.length<=k) (fun k a x l hk hx hI=>?_) (fun a _=>by simp [h']) (a:=[]) (by simp)
 ·simpa using this
 ·left;rw [h k a x hk hI hx]
  by_cases hp:p x=true
  ·exact ⟨a++[f x],by rw [if_pos hp],by simp;omega,by simp [hp]⟩
  ·exact ⟨a,by rw [if_neg hp],by omega,by simp [hp]⟩
theorem aGT (t:aP) (q:Int) (h:t.E.length < 1000000000):pI t q=some (t.E.filter fun e=>e.F == q):=by
 unfold pI
 rw [aBi (step:=fun s:List Edge × Int=>aBP t q s.1 s.2) t.E (fun e=>e.F == q) id id (fun k out x hk ho hx=>?_) (fun out=>by simp only [aBP,aS];rfl),aA]
 ·simp [aGN]
 ·simp only [aBP,aV hk,if_pos,hx,aA,aBO,aQ hk (show t.E.length < 4611686018427387904 by omega)]
  rw [bX (by simp [hX];omega),aA]
  cases x.F == q<;>rfl
theorem aOP (t:aP) (q:Int) (h:t.E.length < 1000000000):aGe t q=some (t.E.filter fun e=>e.F == q):=by
 unfold aGe
 rw [aBi (step:=fun s:List Edge × Int=>aCW t q s.1 s.2) t.E (fun e=>e.F == q) id id (fun k out x hk ho hx=>?_) (fun out=>by simp only [aCW,aS];rfl),aA]
 ·simp [aHP]
 ·simp only [aCW,aV hk,if_pos,hx,aA,aCV,aQ hk (show t.E.length < 4611686018427387904 by omega)]
  rw [bX (by simp [hX];omega),aA]
  cases x.F == q<;>rfl
theorem aOh {xs:List Int} (h:xs.length<=1):cQ xs=some xs:=by
 unfold cQ;rw [if_pos (by simp;omega)]
theorem aLD {xs:List Int} (h:xs.length<=1):aAT xs=some xs:=by
 unfold aAT;rw [if_pos (by simp [hX];omega),srt_short _ h]
theorem hit_one {t:aP} (hv:aT t) (hs:aAP t) (q:Int) (s:aH):(t.E.filter (hit t q s))=(t.E.find? (hit t q s)).toList:=by
 have hp:t.E.Pairwise (fun a b=>¬ (hit t q s a=true/\hit t q s b=true)):=by
  rw [List.pairwise_iff_getElem]
  intro i j hi hj hij
  have h1:=aEP hv hs hij hj
  rintro ⟨ha,hb⟩
  unfold hit at ha hb
  simp only [Bool.and_eq_true,beq_iff_eq] at ha hb
  have ea:=eB hv (List.getElem_mem hi)
  have eb:=eB hv (List.getElem_mem hj)
  have he:kC t t.E[i]=kC t t.E[j]:=ha.2.trans hb.2.symm
  unfold kC at he
  rw [List.getD_eq_getElem?_getD,List.getD_eq_getElem?_getD,List.getElem?_eq_getElem (by have:=ea.2.2;omega),List.getElem?_eq_getElem (by have:=eb.2.2;omega)] at he
  have:=aJZ hv.2.2.1 (by have:=ea.2.2;omega) (by have:=eb.2.2;omega) he
  unfold uE at h1
  have:=ea.2.2;have:=eb.2.2
  omega
 generalize t.E=l at hp
 induction l with
 |nil=>rfl
 |cons a l ih=>
  rw [List.pairwise_cons] at hp
  by_cases h:hit t q s a=true
  ·rw [List.filter_cons,if_pos h,List.find?_cons,h]
   simp only [Option.toList_some,List.cons.injEq,true_and]
   exact List.filter_eq_nil_iff.2 fun b hb hh=>hp.1 b hb ⟨h,hh⟩
  ·rw [List.filter_cons,if_neg h,List.find?_cons,Bool.eq_false_iff.2 h]
   exact ih hp.2
theorem follow_eq {t:aP} (hv:aT t) (hs:aAP t) (q:Int) (s:aH):jK t [q] s=some ((t.E.find? (hit t q s)).toList.map (·.To)):=by
 have h300:=hv.2.2.2.1
 unfold jK
 rw [aBi (step:=fun x:List Int × Int=>fR t [q] s x.1 x.2) t.E (hit t q s) (·.To) id (fun k out x hk ho hx=>?_) (fun out=>by simp only [fR,aS];rfl),aA,hit_one hv hs]
 ·have hl:((t.E.find? (hit t q s)).toList.map (·.To)).length<=1:=by
   cases t.E.find? (hit t q s)<;>simp
  unfold qL
  simp only [id]
  rw [aLD hl,aA,aOh hl,aA]
 ·obtain ⟨hk',rfl⟩:=oW hx
  simp only [fR,aV hk,if_pos,hx,aA,oQ (eB hv (List.getElem_mem hk')),uS [q] _ (by simp),qM,oA,aQ hk (show t.E.length < 4611686018427387904 by omega)]
  rw [bX (by simp [hX];omega),aA]
  unfold hit
  have e:([q].any fun x=>t.E[k].F == x)=(t.E[k].F == q):=by simp
  rw [e]
  cases kC t t.E[k] == s<;>cases t.E[k].F == q<;>rfl
theorem step_eq {t:aP} (hv:aT t) (hs:aAP t) (q:Int) (s:aH):aEC t q s=some (goF t q s):=by
 unfold aEC
 by_cases hq:q < 0
 ·rw [if_pos (by simpa using hq),goF_neg hv hq]
 ·rw [if_neg (by simpa using hq),follow_eq hv hs,aA]
  unfold goF
  cases t.E.find? (hit t q s) with
  |none=>rfl
  |some e=>rfl
end Gv
namespace Gv
open Go
theorem dZ {σ ρ α:Type} {step:σ->Option (σ ⊕ ρ)} (n:Nat) (g:Nat->α->σ) (I:Nat->α->Prop) (R:ρ->Prop)
  (h:∀ k a,k < n->I k a->∃ a',step (g k a)=some (.inl (g (k+1) a'))/\I (k+1) a')
  (h':∀ a,I n a->∃ r,step (g n a)=some (.inr r)/\R r):∀ j k a,k+j=n->I k a->∃ r,loop step (g k a)=some r/\R r
 |0,k,a,e,hI=>by
  obtain rfl:k=n:=by omega
  obtain ⟨r,h1,h2⟩:=h' a hI
  exact ⟨r,by rw [bA,h1],h2⟩
 |j+1,k,a,e,hI=>by
  obtain ⟨a',h1,h2⟩:=h k a (by omega) hI
  rw [bA,h1]
  exact dZ n g I R h h' j (k+1) a' (by omega) h2
structure Adv (b:Bool) (G:List Bool->Prop) (m0 m:List Bool) (ag:Bool):Prop where
 good:G m
 le:m.count b<=m0.count b
 lt:ag=true->m.count b < m0.count b
 eq:ag=false->m=m0
theorem Adv.refl {b:Bool} {G:List Bool->Prop} {m:List Bool} (h:G m):Adv b G m m false:=⟨h,Nat.le_refl _,fun h=>(by cases h),fun _=>rfl⟩
theorem aNa {b:Bool}:∀ {m:List Bool} {q:Nat},m[q]?=some b->(m.set q (!b)).count b < m.count b
 |[],q,h=>by simp at h
 |x::l,0,h=>by
  simp at h;subst h
  cases x<;>simp
 |x::l,q+1,h=>by
  have:=aNa (m:=l) (q:=q) (by simpa using h)
  simp only [List.set_cons_succ,List.count_cons];omega
theorem Adv.flip {b:Bool} {G:List Bool->Prop} {m0 m:List Bool} {ag:Bool} (h:Adv b G m0 m ag) {q:Nat} (hq:m[q]?=some b) (hg:G (m.set q (!b))):Adv b G m0 (m.set q (!b)) true:=by
 have:=aNa hq
 have:=h.le
 exact ⟨hg,by omega,fun _=>by omega,fun h=>by cases h⟩
theorem aLl {α:Type} (g:List Bool->α) {step:α × Bool->Option ((α × Bool) ⊕ α)} (b:Bool) (G C:List Bool->Prop)
  (h1:∀ m,G m->∃ m' ag,step (g m,true)=some (.inl (g m',ag))/\Adv b G m m' ag/\(ag=false->C m))
  (h2:∀ m,step (g m,false)=some (.inr (g m))):∀ n m,m.count b<=n->G m->∃ m',loop step (g m,true)=some (g m')/\G m'/\C m':=by
 intro n
 induction n with
 |zero=>
  intro m hn hG
  obtain ⟨m',ag,e,ha,hc⟩:=h1 m hG
  cases ag with
  |true=>have:=ha.lt rfl;omega
  |false=>
   obtain rfl:=ha.eq rfl
   exact ⟨_,by rw [bA,e];simp only;rw [bA,h2],hG,hc rfl⟩
 |succ n ih=>
  intro m hn hG
  obtain ⟨m',ag,e,ha,hc⟩:=h1 m hG
  cases ag with
  |true=>
   have:=ha.lt rfl
   obtain ⟨m'',e',hG',hC'⟩:=ih m' (by omega) ha.good
   exact ⟨m'',by rw [bA,e];exact e',hG',hC'⟩
  |false=>
   obtain rfl:=ha.eq rfl
   exact ⟨_,by rw [bA,e];simp only;rw [bA,h2],hG,hc rfl⟩
section
variable (p:aP) (L:List aH)
inductive Lv:Int->Prop
 |out {q:Int} {s:aH}:s∈L->goF p q s < 0->Lv q
 |go {q:Int} {s:aH}:s∈L->0<=goF p q s->Lv (goF p q s)->Lv q
def St (q:Int):Prop:=∃ S:Int->Prop,S q/\∀ z,S z->L=[]\/∃ s∈L,0<=goF p z s/\S (goF p z s)
noncomputable def rowL:List Bool:=(List.range p.N.toNat).map fun (q:Nat)=>cl (Lv p L (q:Int))
noncomputable def rowS:List Bool:=(List.range p.N.toNat).map fun (q:Nat)=>cl (St p L (q:Int))
def lvB (m:List Bool) (q:Int):Bool:=L.any fun s=>decide (goF p q s < 0)||m.getD (goF p q s).toNat false
def stB (m:List Bool) (q:Int):Bool:=L.any fun s=>decide (0<=goF p q s)&&m.getD (goF p q s).toNat false
def GL (m:List Bool):Prop:=m.length=p.N.toNat/\∀ q:Nat,m[q]?=some true->Lv p L (q:Int)
def CL (m:List Bool):Prop:=∀ q:Nat,m[q]?=some false->lvB p L m (q:Int)=false
def GS (m:List Bool):Prop:=m.length=p.N.toNat/\∀ q:Nat,m[q]?=some false->¬ St p L (q:Int)
def CS (m:List Bool):Prop:=∀ q:Nat,m[q]?=some true->L=[]\/stB p L m (q:Int)=true
end
section
variable {p:aP} {L:List aH} {m:List Bool}
theorem GL.flip (h:GL p L m) {q:Nat} (hq:m[q]?=some false) (hb:lvB p L m (q:Int)=true):GL p L (m.set q (!false)):=by
 refine ⟨by simp [h.1],fun z hz=>?_⟩
 by_cases e:z=q
 ·subst e
  unfold lvB at hb
  rw [List.any_eq_true] at hb
  obtain ⟨s,hs,hb⟩:=hb
  by_cases hn:goF p (z:Int) s < 0
  ·exact .out hs hn
  ·simp only [decide_eq_false hn,Bool.false_or] at hb
   have:=h.2 (goF p (z:Int) s).toNat (by
    rw [List.getD_eq_getElem?_getD] at hb
    cases hx:m[(goF p (z:Int) s).toNat]? with
    |none=>rw [hx] at hb;cases hb
    |some x=>rw [hx] at hb;simp at hb;rw [hb])
   rw [show (((goF p (z:Int) s).toNat:Nat):Int)=goF p (z:Int) s by omega] at this
   exact .go hs (by omega) this
 ·rw [List.getElem?_set_ne (Ne.symm e)] at hz
  exact h.2 z hz
theorem GL.row (hv:aT p) (h:GL p L m) (hc:CL p L m):m=rowL p L:=by
 have key:∀ z,Lv p L z->0<=z->z < p.N->m[z.toNat]?=some true:=by
  intro z hz
  induction hz with
  |out hs hn=>
   rename_i q s
   intro h0 h1
   cases hx:m[q.toNat]? with
   |none=>rw [List.getElem?_eq_none_iff] at hx;have:=h.1;omega
   |some x=>
    cases x with
    |true=>rfl
    |false=>
     have:=hc q.toNat hx
     unfold lvB at this
     rw [List.any_eq_false] at this
     have:=this s hs
     rw [show ((q.toNat:Nat):Int)=q by omega,decide_eq_true hn] at this
     simp at this
  |go hs hn hg ih=>
   rename_i q s
   intro h0 h1
   have:=ih hn (by have:=(goF_lt hv q s).2;omega)
   cases hx:m[q.toNat]? with
   |none=>rw [List.getElem?_eq_none_iff] at hx;have:=h.1;omega
   |some x=>
    cases x with
    |true=>rfl
    |false=>
     have hf:=hc q.toNat hx
     unfold lvB at hf
     rw [List.any_eq_false] at hf
     have hf:=hf s hs
     rw [show ((q.toNat:Nat):Int)=q by omega,List.getD_eq_getElem?_getD,this] at hf
     simp at hf
 unfold rowL
 refine List.ext_getElem? fun q=>?_
 by_cases hq:q < p.N.toNat
 ·have hlen:=h.1
  rw [List.getElem?_map,List.getElem?_range hq,Option.map_some]
  cases hx:m[q]? with
  |none=>rw [List.getElem?_eq_none_iff] at hx;omega
  |some x=>
   congr 1
   symm
   apply aGr
   refine ⟨fun e=>h.2 q (by rw [hx,e]),fun e=>?_⟩
   have:=key (q:Int) e (by omega) (by omega)
   simp only [Int.toNat_natCast] at this
   rw [hx] at this;simpa using this
 ·rw [List.getElem?_eq_none (by have:=h.1;omega),List.getElem?_eq_none (by simp;omega)]
theorem GS.flip (h:GS p L m) {q:Nat} (hq:m[q]?=some true) (hL:L≠[]) (hv:aT p) (hb:stB p L m (q:Int)=false):GS p L (m.set q (!true)):=by
 refine ⟨by simp [h.1],fun z hz=>?_⟩
 by_cases e:z=q
 ·subst e
  rintro ⟨S,h1,h2⟩
  rcases h2 _ h1 with h3|⟨s,hs,h4,h5⟩
  ·exact hL h3
  ·unfold stB at hb
   rw [List.any_eq_false] at hb
   have:=hb s hs
   rw [decide_eq_true h4,List.getD_eq_getElem?_getD] at this
   have hlt:=(goF_lt hv (z:Int) s).2
   have hlen:=h.1
   cases hx:m[(goF p (z:Int) s).toNat]? with
   |none=>rw [List.getElem?_eq_none_iff] at hx;omega
   |some x=>
    rw [hx] at this
    cases x with
    |true=>simp at this
    |false=>
     refine h.2 _ hx ⟨S,?_,h2⟩
     rw [show (((goF p (z:Int) s).toNat:Nat):Int)=goF p (z:Int) s by omega]
     exact h5
 ·rw [List.getElem?_set_ne (Ne.symm e)] at hz
  exact h.2 z hz
theorem GS.row (h:GS p L m) (hc:CS p L m):m=rowS p L:=by
 unfold rowS
 refine List.ext_getElem? fun q=>?_
 by_cases hq:q < p.N.toNat
 ·have hlen:=h.1
  rw [List.getElem?_map,List.getElem?_range hq,Option.map_some]
  cases hx:m[q]? with
  |none=>rw [List.getElem?_eq_none_iff] at hx;omega
  |some x=>
   congr 1
   symm
   apply aGr
   constructor
   ·rintro rfl
    refine ⟨fun z=>0<=z/\m[z.toNat]?=some true,⟨by omega,by simpa using hx⟩,fun z hz=>?_⟩
    rcases hc z.toNat hz.2 with h1|h1
    ·exact .inl h1
    ·right
     rw [show ((z.toNat:Nat):Int)=z by omega] at h1
     unfold stB at h1
     rw [List.any_eq_true] at h1
     obtain ⟨s,hs,h2⟩:=h1
     simp only [Bool.and_eq_true,decide_eq_true_eq] at h2
     refine ⟨s,hs,h2.1,h2.1,?_⟩
     have h3:=h2.2
     rw [List.getD_eq_getElem?_getD] at h3
     cases hy:m[(goF p z s).toNat]? with
     |none=>rw [hy] at h3;cases h3
     |some y=>rw [hy] at h3;simp at h3;rw [h3]
   ·intro hs
    cases x with
    |true=>rfl
    |false=>exact absurd hs (h.2 q hx)
 ·rw [List.getElem?_eq_none (by have:=h.1;omega),List.getElem?_eq_none (by simp;omega)]
end
end Gv
namespace Gv
open Go
structure One (t:aP):Prop where
 ok:aT t
 single:aAP t
 one:t.N=1
theorem One.len {t:aP} (h:One t):t.E.length<=300:=h.ok.2.2.2.1
end Gv
namespace Gv
open Go
theorem aOQ (b:Bool) (n:Nat) (h1:1<=n) (h:n<=100000):eK [b] (n:Int)=some (List.replicate n b):=by
 unfold eK
 rw [if_neg (by simp)]
 unfold hQ
 have hm:aKX (rY (([b]:List Bool).length:Int)) (rY (n:Int))=some (0,(n:Int)):=by
  have e1:rY (([b]:List Bool).length:Int)=1:=by simp [rY]
  have e2:rY (n:Int)=(n:Int):=by unfold rY;omega
  rw [e1,e2];unfold aKX
  rw [if_pos ⟨by omega,by omega,by omega,by omega⟩]
  simp only [Int.one_mul,Option.some.injEq,Prod.mk.injEq]
  omega
 rw [hm,aA]
 simp only
 rw [if_neg (by simp),decide_eq_false (p:=(9223372036854775807:Int) < (n:Int)) (by omega)]
 unfold eS
 rw [if_neg (by simp)]
 unfold hJ
 simp only
 rw [dE (by omega) (by omega),aIb _ (by simp [hX];omega),aA]
 have hmin:Nat.min ([b]:List Bool).length (List.replicate n false).length=1:=by
  show min _ _=1
  simp;omega
 rw [hmin]
 have ho:ovw (List.replicate n false) 0 (([b]:List Bool).take 1)=some (b::List.replicate (n - 1) false):=by
  unfold ovw
  rw [if_pos ⟨by omega,by simp;omega⟩]
  simp
 rw [ho,aA]
 have hL:=qS (step:=fun s:List Bool × Int=>gZ s.1 s.2) (fun s=>1<=s.2/\s.2<=n/\s.1.length=n/\s.1.take s.2.toNat=List.replicate s.2.toNat b) (fun s=>(n - s.2).toNat) (fun r=>r=List.replicate n b) (fun s hI=>?_) (s:=(b::List.replicate (n - 1) false,1)) ⟨by simp,by simp only;omega,by simp;omega,by simp⟩
 ·obtain ⟨r,hr,hR⟩:=hL
  rw [show (((1:Nat):Int))=1 from rfl,hr,aA,hR];rfl
 ·obtain ⟨m,i⟩:=s
  obtain ⟨h1,h2,h3,h4⟩:=hI
  simp only at h1 h2 h3 h4 ⊢
  obtain ⟨k,rfl⟩:∃ k:Nat,i=(k:Int):=⟨i.toNat,by omega⟩
  rw [Int.toNat_natCast] at h4
  unfold gZ
  by_cases hk:k < n
  ·left
   have s1:qT m (k:Int) (m.length:Int)=some (m.drop k):=by
    unfold qT;rw [if_pos ⟨by omega,by omega,by omega⟩]
    rw [Int.toNat_natCast,Int.toNat_natCast,List.take_of_length_le (by simp)]
   have s2:qT m 0 (k:Int)=some (m.take k):=by
    unfold qT;rw [if_pos ⟨by omega,by omega,by omega⟩];simp
   rw [h3] at s1 ⊢
   rw [if_pos (aV hk),s1,aA,s2,aA,h4]
   have hl:(m.drop k).length=n - k:=by simp [h3]
   rw [hl,List.length_replicate]
   generalize hd:Nat.min k (n - k)=d
   have hd1:d<=k/\d<=n - k/\1<=d:=by
    have:Nat.min k (n - k)=min k (n - k):=rfl
    omega
   have hov:ovw m (k:Int) ((List.replicate k b).take d)=some (List.replicate (k+d) b++m.drop (k+d)):=by
    unfold ovw
    have hl2:((List.replicate k b).take d).length=d:=by simp;omega
    rw [if_pos ⟨by omega,by rw [hl2,Int.toNat_natCast];omega⟩,hl2,Int.toNat_natCast,h4,List.take_replicate]
    rw [show min d k=d by omega,List.replicate_append_replicate]
   rw [hov,aA]
   have hw:wr ((k:Int)+((d:Nat):Int))=((k+d:Nat):Int):=by rw [dE (by omega) (by omega)];omega
   rw [hw]
   refine ⟨_,rfl,⟨by simp only;omega,by simp only;omega,by simp [h3];omega,?_⟩,by simp only;omega⟩
   simp only [Int.toNat_natCast]
   rw [List.take_append_of_le_length (by simp),List.take_of_length_le (by simp)]
  ·right
   obtain rfl:k=n:=by omega
   rw [h3,if_neg (by simp)]
   rw [List.take_of_length_le (by omega)] at h4
   exact ⟨_,rfl,h4⟩
end Gv
