/- Validity of transition systems, on both sides. -/
import Derived.Test.YthbfapccpmppoaaGreatDoorJP1
set_option linter.all false
namespace Gv
open Go
def yX (xs:List aL):Prop:=1<=xs.length/\xs.length<=12/\(∀ h:0 < xs.length,xs[0]=gY)/\∀ k,1<=k->(hk:k < xs.length)->aAX xs[k]=true/\xs[k]≠gY/\(2<=k->pM (xs[k - 1]'(by omega)) xs[k]=true)
theorem isLab_tau:aAX gY=true:=by decide
theorem aQq (xs:List aL) (h2:∀ s∈xs,s.length < 1000000000):aCd xs=some (cl (yX xs)):=by
 unfold aCd
 by_cases h0:xs.length=0
 ·rw [if_pos (by simp [h0]),kP (P:=yX xs) (fun h=>by have:=h.1;omega)];rfl
 rw [if_neg (by simpa using h0)]
 by_cases h12:12 < xs.length
 ·rw [if_pos (by simp;omega),kP (P:=yX xs) (fun h=>by have:=h.2.1;omega)];rfl
 rw [if_neg (by simp;omega),show (0:Int)=((0:Nat):Int) from rfl,bY (xs:=xs) (k:=0) (by omega),aA,show ([116,97,117]:aL)=gY from rfl]
 unfold oX
 by_cases ht:xs[0]'(by omega)=gY
 ·rw [if_neg (by simp [ht])]
  have:=pJ (step:=fun s=>sP xs s) xs.length 1 (fun k=>∀ hk:k < xs.length,1<=k->aAX xs[k]=true/\xs[k]≠gY/\(2<=k->pM (xs[k - 1]'(by omega)) xs[k]=true)) (.inr false) (.inl ()) (by omega) (fun k h0 hk=>?_) (by simp only [sP,bL];rfl)
  ·rw [show (1:Int)=((1:Nat):Int) from rfl,this,aA]
   by_cases hs:∀ k,1<=k->k < xs.length->∀ hk:k < xs.length,1<=k->aAX xs[k]=true/\xs[k]≠gY/\(2<=k->pM (xs[k - 1]'(by omega)) xs[k]=true)
   ·rw [if_pos (xJ hs),xJ (P:=yX xs) ⟨by omega,by omega,fun _=>ht,fun k h1 hk=>hs k h1 hk hk h1⟩];rfl
   ·rw [if_neg (by rw [uQ];exact hs),kP (P:=yX xs) (fun h=>hs fun k h1 hk _ _=>h.2.2.2 k h1 hk)]
  ·simp only [sP,bV hk,if_pos,bY hk,aA,aLj _ (h2 _ (List.getElem_mem hk)),oW,bO hk (show xs.length < 4611686018427387904 by omega)]
   rw [show ([116,97,117]:aL)=gY from rfl]
   by_cases hl:aAX xs[k]=true
   ·rw [hl]
    by_cases htk:xs[k]=gY
    ·have:(xs[k] == gY)=true:=by simp [htk]
     rw [this,kP (fun h=>(h hk h0).2.1 htk)];rfl
    ·have:(xs[k] == gY)=false:=by simp [htk]
     rw [this]
     by_cases hk2:2<=k
     ·have hk1:wr ((k:Int) - 1)=((k - 1:Nat):Int):=by rw [dW (by omega) (by omega)];omega
      rw [decide_eq_true (p:=(1:Int) < (k:Int)) (by omega),hk1,bY (xs:=xs) (k:=k - 1) (by omega)]
      rw [aHZ (b:=pM (xs[k - 1]'(by omega)) xs[k]) ⟨fun h _ _=>⟨hl,htk,fun _=>h⟩,fun h=>(h hk h0).2.2 hk2⟩]
      simp only [Bool.not_true,Bool.false_eq_true,if_false,if_pos,aA]
      cases pM (xs[k - 1]'(by omega)) xs[k]<;>rfl
     ·rw [decide_eq_false (p:=(1:Int) < (k:Int)) (by omega),xJ (fun _ _=>⟨hl,htk,fun h=>absurd h hk2⟩)];rfl
   ·rw [kP (fun h=>hl (h hk h0).1)]
    rw [Bool.not_eq_true] at hl
    rw [hl];rfl
 ·rw [if_pos (by simp [ht]),kP (P:=yX xs) (fun h=>ht (h.2.2.1 (by omega)))]
def aDJ (t:gM) (e:Edge):Prop:=(0<=e.F/\e.F<=t.N - 1)/\(0<=e.To/\e.To<=t.N - 1)/\0<=e.B/\e.B<=(t.L.length:Int) - 1
def EdgesOk (t:gM):Prop:=t.E.length<=300/\∀ k,(hk:k < t.E.length)->aDJ t t.E[k]/\(1<=k->nO (t.E[k - 1]'(by omega)) t.E[k]=true)
def iP (t:gM):Prop:=(1<=t.N/\t.N<=40)/\(0<=t.I/\t.I<=t.N - 1)/\yX t.L/\EdgesOk t
theorem aRu (a b:Edge):aGX a b=some (nO a b):=by
 obtain ⟨a1,a2,a3⟩:=a;obtain ⟨b1,b2,b3⟩:=b
 simp only [aGX,nO]
 by_cases h1:a1=b1<;>by_cases h2:a2=b2<;>simp [h1,h2]
theorem jY (n a b:Int):(decide (a<=n)&&decide (n<=b))=true<->a<=n/\n<=b:=by simp
theorem rH {n a b:Int} (h:¬ (a<=n/\n<=b)):(decide (a<=n)&&decide (n<=b))=false:=by
 cases hx:(decide (a<=n)&&decide (n<=b)) with
 |false=>rfl
 |true=>exact absurd ((jY _ _ _).1 hx) h
theorem l11Is_eq (t:gM) (hf:mC 999999999 t):aJl t=some (cl (iP t)):=by
 obtain ⟨f1,f2,f3⟩:=hf
 unfold aJl
 rw [oU,aA]
 by_cases na:¬ (1<=t.N/\t.N<=40)
 ·rw [rH na,Bool.not_false,if_pos rfl,kP (P:=iP t) (fun h=>na h.1)];rfl
 have a1:1<=t.N/\t.N<=40:=Classical.not_not.1 na
 have w1:wr (t.N - 1)=t.N - 1:=dW (by omega) (by omega)
 rw [if_neg (by rw [←jY] at a1;simp [a1]),w1,oU,aA]
 by_cases na:¬ (0<=t.I/\t.I<=t.N - 1)
 ·rw [rH na,Bool.not_false,if_pos rfl,kP (P:=iP t) (fun h=>na h.2.1)];rfl
 have a2:0<=t.I/\t.I<=t.N - 1:=Classical.not_not.1 na
 rw [if_neg (by rw [←jY] at a2;simp [a2]),aQq _ (fun s hs=>by have:=f2 s hs;omega),aA]
 by_cases na:¬ yX t.L
 ·rw [if_pos (by rw [kP na];rfl),kP (P:=iP t) (fun h=>na h.2.2.1)];rfl
 have a3:yX t.L:=Classical.not_not.1 na
 rw [if_neg (by rw [xJ a3];simp)]
 unfold uK
 by_cases h300:300 < t.E.length
 ·rw [if_pos (by simp;omega),kP (P:=iP t) (fun h=>by have:=h.2.2.2.1;omega)]
 rw [if_neg (by simp;omega)]
 have:=pJ (step:=fun s=>aCe t s) t.E.length 0 (fun k=>∀ hk:k < t.E.length,aDJ t t.E[k]/\(1<=k->nO (t.E[k - 1]'(by omega)) t.E[k]=true)) (.inr false) (.inl ()) (Nat.zero_le _) (fun k h0 hk=>?_) (by simp only [aCe,bL];rfl)
 ·rw [show (0:Int)=((0:Nat):Int) from rfl,this,aA]
  by_cases hs:∀ k,0<=k->k < t.E.length->∀ hk:k < t.E.length,aDJ t t.E[k]/\(1<=k->nO (t.E[k - 1]'(by omega)) t.E[k]=true)
  ·rw [if_pos (xJ hs),xJ (P:=iP t) ⟨a1,a2,a3,by omega,fun k hk=>hs k (by omega) hk hk⟩];rfl
  ·rw [if_neg (by rw [uQ];exact hs),kP (P:=iP t) (fun h=>hs fun k _ hk _=>h.2.2.2.2 k hk)]
 ·have wl:wr ((t.L.length:Int) - 1)=(t.L.length:Int) - 1:=dW (by omega) (by omega)
  simp only [aCe,bV hk,if_pos,bY hk,aA,oU,w1,wl,yB,aEN,aRu,bO hk (show t.E.length < 4611686018427387904 by omega)]
  generalize he:t.E[k]=e
  by_cases n1:¬ (0<=e.F/\e.F<=t.N - 1)
  ·have:(decide (0<=e.F)&&decide (e.F<=t.N - 1))=false:=rH n1
   rw [this,kP (fun h=>by have:=(h hk).1.1;rw [he] at this;exact n1 this)];rfl
  rw [(jY _ _ _).2 (Classical.not_not.1 n1)]
  by_cases n2:¬ (0<=e.To/\e.To<=t.N - 1)
  ·have:(decide (0<=e.To)&&decide (e.To<=t.N - 1))=false:=rH n2
   rw [this,kP (fun h=>by have:=(h hk).1.2.1;rw [he] at this;exact n2 this)];rfl
  rw [(jY _ _ _).2 (Classical.not_not.1 n2)]
  by_cases n3:¬ (0<=e.B/\e.B<=(t.L.length:Int) - 1)
  ·have:(decide (0<=e.B)&&decide (e.B<=(t.L.length:Int) - 1))=false:=rH n3
   rw [this,kP (fun h=>by have:=(h hk).1.2.2;rw [he] at this;exact n3 this)];rfl
  rw [(jY _ _ _).2 (Classical.not_not.1 n3)]
  have hin:aDJ t t.E[k]:=by rw [he];exact ⟨Classical.not_not.1 n1,Classical.not_not.1 n2,Classical.not_not.1 n3⟩
  by_cases h1:1<=k
  ·have hk1:wr ((k:Int) - 1)=((k - 1:Nat):Int):=by rw [dW (by omega) (by omega)];omega
   rw [decide_eq_true (p:=(0:Int) < (k:Int)) (by omega),hk1,bY (xs:=t.E) (k:=k - 1) (by omega)]
   rw [aHZ (b:=nO (t.E[k - 1]'(by omega)) e) ⟨fun h _=>⟨hin,fun _=>by rw [he];exact h⟩,fun h=>by have:=(h hk).2 h1;rw [he] at this;exact this⟩]
   simp only [Bool.not_true,Bool.false_eq_true,if_false,if_pos,aA]
   cases nO (t.E[k - 1]'(by omega)) e<;>rfl
  ·rw [decide_eq_false (p:=(0:Int) < (k:Int)) (by omega),xJ (fun _=>⟨hin,fun h=>absurd h h1⟩)]
   simp only [Bool.not_true,Bool.false_eq_true,if_false];rfl
def icmp (a b:Int):Int:=if a < b then -1 else if b < a then 1 else 0
theorem aIH (a b:Int):fT a b=some (icmp a b):=by
 unfold fT nX icmp
 by_cases h1:a < b<;>by_cases h2:b < a<;>simp [h1,h2]
def or3 (a b c:Int):Int:=if a≠0 then a else if b≠0 then b else c
theorem Or_eq (a b c:Int):tG [a,b,c]=some (or3 a b c):=by
 unfold tG or3
 have s0:hJ [a,b,c] 0=if a≠0 then some (.inr (.inr a)) else some (.inl 1):=by
  simp only [hJ,show ix [a,b,c] 0=some a from rfl,aA]
  by_cases h:a=0<;>simp [h]<;>rfl
 have s1:hJ [a,b,c] 1=if b≠0 then some (.inr (.inr b)) else some (.inl 2):=by
  simp only [hJ,show ix [a,b,c] 1=some b from rfl,aA]
  by_cases h:b=0<;>simp [h]<;>rfl
 have s2:hJ [a,b,c] 2=if c≠0 then some (.inr (.inr c)) else some (.inl 3):=by
  simp only [hJ,show ix [a,b,c] 2=some c from rfl,aA]
  by_cases h:c=0<;>simp [h]<;>rfl
 have s3:hJ [a,b,c] 3=some (.inr (.inl ())):=rfl
 by_cases h1:a=0
 ·by_cases h2:b=0
  ·by_cases h3:c=0
   ·rw [bD,s0,if_neg (by simp [h1])];simp only
    rw [bD,s1,if_neg (by simp [h2])];simp only
    rw [bD,s2,if_neg (by simp [h3])];simp only
    rw [bD,s3]
    simp [h1,h2,h3,yP]
   ·rw [bD,s0,if_neg (by simp [h1])];simp only
    rw [bD,s1,if_neg (by simp [h2])];simp only
    rw [bD,s2,if_pos (by simp [h3])]
    simp [h1,h2]
  ·rw [bD,s0,if_neg (by simp [h1])];simp only
   rw [bD,s1,if_pos h2]
   simp [h1,h2]
 ·rw [bD,s0,if_pos h1]
  simp [h1]
theorem aLM (a b:Edge):qU a b=some (or3 (icmp a.F b.F) (icmp a.B b.B) (icmp a.To b.To)):=by
 unfold qU
 rw [aIH,aA,aIH,aA,aIH,aA,Or_eq];rfl
theorem cmpE_ge (a b:Edge):decide (0<=or3 (icmp a.F b.F) (icmp a.B b.B) (icmp a.To b.To))=!nO a b:=by
 obtain ⟨a1,a2,a3⟩:=a;obtain ⟨b1,b2,b3⟩:=b
 simp only [nO,or3,icmp]
 rcases Int.lt_trichotomy a1 b1 with h1|h1|h1<;>rcases Int.lt_trichotomy a2 b2 with h2|h2|h2<;>rcases Int.lt_trichotomy a3 b3 with h3|h3|h3<;>
  simp [h1,h2,h3,Int.not_lt_of_ge,Int.le_of_lt,Int.ne_of_lt,Int.ne_of_gt]<;>omega
theorem aNk (t:gM) (k:Int) (h:-9223372036854775807<=t.N/\t.N<=9223372036854775807):pD t k=some (decide (0<=k)&&decide (k<=t.N - 1)):=by
 unfold pD
 rw [fC,dW (by omega) (by omega)];rfl
theorem index_eq (k:Int) (n:Nat) (h:n < 1000000000):aBr k (n:Int)=some (decide (0<=k)&&decide (k<=(n:Int) - 1)):=by
 unfold aBr
 rw [fC,dW (by omega) (by omega)];rfl
theorem aGM (t:gM) (hf:mC 999999999 t):yQ t=some (cl (iP t)):=by
 obtain ⟨f1,f2,f3⟩:=hf
 unfold yQ
 rw [fC,aA]
 by_cases na:¬ (1<=t.N/\t.N<=40)
 ·rw [rH na,Bool.not_false,if_pos rfl,kP (P:=iP t) (fun h=>na h.1)];rfl
 have a1:1<=t.N/\t.N<=40:=Classical.not_not.1 na
 have hst:-9223372036854775807<=t.N/\t.N<=9223372036854775807:=by omega
 rw [if_neg (by rw [←jY] at a1;simp [a1]),aNk t _ hst,aA]
 by_cases na:¬ (0<=t.I/\t.I<=t.N - 1)
 ·rw [rH na,Bool.not_false,if_pos rfl,kP (P:=iP t) (fun h=>na h.2.1)];rfl
 have a2:0<=t.I/\t.I<=t.N - 1:=Classical.not_not.1 na
 rw [if_neg (by rw [←jY] at a2;simp [a2]),fC,aA]
 by_cases na:¬ (1<=(t.L.length:Int)/\(t.L.length:Int)<=12)
 ·rw [rH na,Bool.not_false,if_pos rfl,kP (P:=iP t) (fun h=>by have h1:=h.2.2.1.1;have h2:=h.2.2.1.2.1;omega)];rfl
 have a3:1<=(t.L.length:Int)/\(t.L.length:Int)<=12:=Classical.not_not.1 na
 rw [if_neg (by rw [←jY] at a3;simp [a3])]
 unfold mE
 by_cases h300:300 < t.E.length
 ·rw [if_pos (by simp;omega),kP (P:=iP t) (fun h=>by have:=h.2.2.2.1;omega)]
 rw [if_neg (by simp;omega)]
 have hlabs:=pJ (step:=fun s=>tI t s) t.L.length 0 (fun k=>∀ hk:k < t.L.length,aAX t.L[k]=true/\(t.L[k]=gY<->k=0)/\(2<=k->pM (t.L[k - 1]'(by omega)) t.L[k]=true)) (.inr false) (.inl ()) (Nat.zero_le _) (fun k h0 hk=>?_) (by simp only [tI,bL];rfl)
 ·rw [show (0:Int)=((0:Nat):Int) from rfl,hlabs,aA]
  by_cases hs:∀ k,0<=k->k < t.L.length->∀ hk:k < t.L.length,aAX t.L[k]=true/\(t.L[k]=gY<->k=0)/\(2<=k->pM (t.L[k - 1]'(by omega)) t.L[k]=true)
  ·rw [if_pos (xJ hs)]
   have a4:yX t.L:=⟨by omega,by omega,fun h=>(hs 0 (by omega) h h).2.1.2 rfl,fun k h1 hk=>⟨(hs k (by omega) hk hk).1,fun e=>by have:=(hs k (by omega) hk hk).2.1.1 e;omega,(hs k (by omega) hk hk).2.2⟩⟩
   simp only
   unfold zX
   have:=pJ (step:=fun s=>tH t s) t.E.length 0 (fun k=>∀ hk:k < t.E.length,aDJ t t.E[k]/\(1<=k->nO (t.E[k - 1]'(by omega)) t.E[k]=true)) (.inr false) (.inl ()) (Nat.zero_le _) (fun k h0 hk=>?_) (by simp only [tH,bL];rfl)
   ·rw [show (0:Int)=((0:Nat):Int) from rfl,this,aA]
    by_cases hs:∀ k,0<=k->k < t.E.length->∀ hk:k < t.E.length,aDJ t t.E[k]/\(1<=k->nO (t.E[k - 1]'(by omega)) t.E[k]=true)
    ·rw [if_pos (xJ hs),xJ (P:=iP t) ⟨a1,a2,a4,by omega,fun k hk=>hs k (by omega) hk hk⟩];rfl
    ·rw [if_neg (by rw [uQ];exact hs),kP (P:=iP t) (fun h=>hs fun k _ hk _=>h.2.2.2.2 k hk)]
   ·simp only [tH,bV hk,if_pos,bY hk,aA,aNk t _ hst,index_eq _ _ (show t.L.length < 1000000000 by omega),mD,aLM,cmpE_ge,bO hk (show t.E.length < 4611686018427387904 by omega)]
    generalize he:t.E[k]=e
    by_cases n1:¬ (0<=e.F/\e.F<=t.N - 1)
    ·have:(decide (0<=e.F)&&decide (e.F<=t.N - 1))=false:=rH n1
     rw [this,kP (fun h=>by have:=(h hk).1.1;rw [he] at this;exact n1 this)];rfl
    rw [(jY _ _ _).2 (Classical.not_not.1 n1)]
    by_cases n2:¬ (0<=e.To/\e.To<=t.N - 1)
    ·have:(decide (0<=e.To)&&decide (e.To<=t.N - 1))=false:=rH n2
     rw [this,kP (fun h=>by have:=(h hk).1.2.1;rw [he] at this;exact n2 this)];rfl
    rw [(jY _ _ _).2 (Classical.not_not.1 n2)]
    by_cases n3:¬ (0<=e.B/\e.B<=(t.L.length:Int) - 1)
    ·have:(decide (0<=e.B)&&decide (e.B<=(t.L.length:Int) - 1))=false:=rH n3
     rw [this,kP (fun h=>by have:=(h hk).1.2.2;rw [he] at this;exact n3 this)];rfl
    rw [(jY _ _ _).2 (Classical.not_not.1 n3)]
    have hin:aDJ t t.E[k]:=by rw [he];exact ⟨Classical.not_not.1 n1,Classical.not_not.1 n2,Classical.not_not.1 n3⟩
    by_cases h1:1<=k
    ·have hk1:wr ((k:Int) - 1)=((k - 1:Nat):Int):=by rw [dW (by omega) (by omega)];omega
     rw [decide_eq_true (p:=(0:Int) < (k:Int)) (by omega),hk1,bY (xs:=t.E) (k:=k - 1) (by omega)]
     rw [aHZ (b:=nO (t.E[k - 1]'(by omega)) e) ⟨fun h _=>⟨hin,fun _=>by rw [he];exact h⟩,fun h=>by have:=(h hk).2 h1;rw [he] at this;exact this⟩]
     simp only [Bool.not_true,Bool.false_eq_true,if_false,if_pos,aA]
     cases nO (t.E[k - 1]'(by omega)) e<;>rfl
    ·rw [decide_eq_false (p:=(0:Int) < (k:Int)) (by omega),xJ (fun _=>⟨hin,fun h=>absurd h h1⟩)]
     simp only [Bool.not_true,Bool.false_eq_true,if_false];rfl
  ·rw [if_neg (by rw [uQ];exact hs),kP (P:=iP t) (fun h=>hs fun k _ hk _=>?_)]
   obtain ⟨l1,l2,l3,l4⟩:=h.2.2.1
   by_cases hk0:k=0
   ·subst hk0
    exact ⟨by rw [l3 hk];exact isLab_tau,⟨fun _=>rfl,fun _=>l3 hk⟩,fun h=>by omega⟩
   ·have:=l4 k (by omega) hk
    exact ⟨this.1,⟨fun e=>absurd e this.2.1,fun e=>absurd e hk0⟩,this.2.2⟩
 ·simp only [tI,bV hk,if_pos,bY hk,aA,aNj _ (show t.L[k].length < 1000000000 by have:=f2 _ (List.getElem_mem hk);omega),pE,bO hk (show t.L.length < 4611686018427387904 by omega),aPp]
  rw [show ([116,97,117]:aL)=gY from rfl]
  by_cases hl:aAX t.L[k]=true
  ·rw [hl]
   have e0:((k:Int) == 0)=decide (k=0):=by by_cases e:k=0<;>simp [e]
   by_cases htk:(t.L[k]=gY<->k=0)
   ·have:((t.L[k] == gY) != ((k:Int) == 0))=false:=by
     rw [e0]
     by_cases e:k=0
     ·have:=htk.2 e;rw [this];simp [e]
     ·have:¬ t.L[k]=gY:=fun h=>e (htk.1 h)
      simp [this,e]
    rw [this]
    by_cases hk2:2<=k
    ·have hk1:wr ((k:Int) - 1)=((k - 1:Nat):Int):=by rw [dW (by omega) (by omega)];omega
     rw [decide_eq_true (p:=(1:Int) < (k:Int)) (by omega),hk1,bY (xs:=t.L) (k:=k - 1) (by omega)]
     rw [aHZ (b:=pM (t.L[k - 1]'(by omega)) t.L[k]) ⟨fun h _=>⟨hl,htk,fun _=>h⟩,fun h=>(h hk).2.2 hk2⟩]
     simp only [Bool.not_true,Bool.false_eq_true,if_false,if_pos,aA,aPp]
     cases pM (t.L[k - 1]'(by omega)) t.L[k]<;>rfl
    ·rw [decide_eq_false (p:=(1:Int) < (k:Int)) (by omega),xJ (fun _=>⟨hl,htk,fun h=>absurd h hk2⟩)];rfl
   ·have:((t.L[k] == gY) != ((k:Int) == 0))=true:=by
     rw [e0]
     by_cases e:k=0
     ·have:¬ t.L[k]=gY:=fun h=>htk ⟨fun _=>e,fun _=>h⟩
      rw [beq_false_of_ne this];simp [e]
     ·have:t.L[k]=gY:=Classical.byContradiction fun h=>htk ⟨fun h'=>absurd h' h,fun h'=>absurd h' e⟩
      simp [this,e]
    rw [this,kP (fun h=>htk (h hk).2.1)];rfl
  ·rw [kP (fun h=>hl (h hk).1)]
   rw [Bool.not_eq_true] at hl
   rw [hl];rfl
def Single (t:gM):Prop:=∀ k,(hk:k < t.E.length)->t.E[k].B≠0/\(1<=k->¬ (t.E[k].F=(t.E[k - 1]'(by omega)).F/\t.E[k].B=(t.E[k - 1]'(by omega)).B))
end Gv
namespace Gv
open Go
theorem aRv {α:Type} {R:α->α->Prop} (tr:∀ {a b c},R a b->R b c->R a c) {xs:List α} (h:∀ k,1<=k->(hk:k < xs.length)->R (xs[k - 1]'(by omega)) xs[k]) {i j:Nat} (hij:i < j) (hj:j < xs.length):R (xs[i]'(by omega)) xs[j]:=by
 induction j with
 |zero=>omega
 |succ j ih=>
  have h1:=h (j+1) (by omega) hj
  simp only [Nat.add_sub_cancel] at h1
  by_cases e:i=j
  ·subst e;exact h1
  ·exact tr (ih (by omega) (by omega)) h1
def txt (t:gM) (e:Edge):aL:=t.L.getD e.B.toNat []
def flLt (a b:Edge):Prop:=a.F < b.F\/(a.F=b.F/\a.B < b.B)
theorem labs_lt {xs:List aL} (h:yX xs) {i j:Nat} (hi:1<=i) (hij:i < j) (hj:j < xs.length):pM (xs[i]'(by omega)) xs[j]=true:=by
 induction j with
 |zero=>omega
 |succ j ih=>
  have h1:=(h.2.2.2 (j+1) (by omega) hj).2.2 (by omega)
  simp only [Nat.add_sub_cancel] at h1
  by_cases e:i=j
  ·subst e;exact h1
  ·exact aHi (ih (by omega) (by omega)) h1
theorem aPr {t:gM} (hv:iP t) {e:Edge} (he:e∈t.E):aDJ t e:=by
 obtain ⟨k,hk,rfl⟩:=List.mem_iff_getElem.1 he
 exact (hv.2.2.2.2 k hk).1
def hit (t:gM) (q:Int) (s:aL) (e:Edge):Bool:=e.F == q&&txt t e == s
def goF (t:gM) (q:Int) (s:aL):Int:=match t.E.find? (hit t q s) with|some e=>e.To|none=>-1
theorem goF_lt {t:gM} (hv:iP t) (q:Int) (s:aL):-1<=goF t q s/\goF t q s<=t.N - 1:=by
 unfold goF
 cases hx:t.E.find? (hit t q s) with
 |none=>have:=hv.1;simp only;omega
 |some e=>have:=(aPr hv (List.mem_of_find?_eq_some hx)).2.1;simp only;omega
end Gv
namespace Gv
open Go
theorem aQr {σ ρ α:Type} {step:σ->Option (σ ⊕ ρ)} (n:Nat) (g:Nat->α->σ) (I:Nat->α->Prop) (R:ρ->Prop)
  (h:∀ k a,k < n->I k a->∃ a',step (g k a)=some (.inl (g (k+1) a'))/\I (k+1) a')
  (h':∀ a,I n a->∃ r,step (g n a)=some (.inr r)/\R r):∀ j k a,k+j=n->I k a->∃ r,loop step (g k a)=some r/\R r
 |0,k,a,e,hI=>by
  obtain rfl:k=n:=by omega
  obtain ⟨r,h1,h2⟩:=h' a hI
  exact ⟨r,by rw [bD,h1],h2⟩
 |j+1,k,a,e,hI=>by
  obtain ⟨a',h1,h2⟩:=h k a (by omega) hI
  rw [bD,h1]
  exact aQr n g I R h h' j (k+1) a' (by omega) h2
structure Adv (b:Bool) (G:List Bool->Prop) (m0 m:List Bool) (ag:Bool):Prop where
 good:G m
 le:m.count b<=m0.count b
 lt:ag=true->m.count b < m0.count b
 eq:ag=false->m=m0
theorem Adv.refl {b:Bool} {G:List Bool->Prop} {m:List Bool} (h:G m):Adv b G m m false:=⟨h,Nat.le_refl _,fun h=>(by cases h),fun _=>rfl⟩
section
variable (p:gM) (L:List aL)
inductive Lv:Int->Prop
 |out {q:Int} {s:aL}:s∈L->goF p q s < 0->Lv q
 |go {q:Int} {s:aL}:s∈L->0<=goF p q s->Lv (goF p q s)->Lv q
def St (q:Int):Prop:=∃ S:Int->Prop,S q/\∀ z,S z->L=[]\/∃ s∈L,0<=goF p z s/\S (goF p z s)
noncomputable def rowL:List Bool:=(List.range p.N.toNat).map fun (q:Nat)=>cl (Lv p L (q:Int))
noncomputable def rowS:List Bool:=(List.range p.N.toNat).map fun (q:Nat)=>cl (St p L (q:Int))
def lvB (m:List Bool) (q:Int):Bool:=L.any fun s=>decide (goF p q s < 0)||m.getD (goF p q s).toNat false
def stB (m:List Bool) (q:Int):Bool:=L.any fun s=>decide (0<=goF p q s)&&m.getD (goF p q s).toNat false
def GL (m:List Bool):Prop:=m.length=p.N.toNat/\∀ q:Nat,m[q]?=some true->Lv p L (q:Int)
def CL (m:List Bool):Prop:=∀ q:Nat,m[q]?=some false->lvB p L m (q:Int)=false
def GS (m:List Bool):Prop:=m.length=p.N.toNat/\∀ q:Nat,m[q]?=some false->¬ St p L (q:Int)
def CS (m:List Bool):Prop:=∀ q:Nat,m[q]?=some true->L=[]\/stB p L m (q:Int)=true
end
section
variable {p:gM} {L:List aL} {m:List Bool}
theorem GL.row (hv:iP p) (h:GL p L m) (hc:CL p L m):m=rowL p L:=by
 have key:∀ z,Lv p L z->0<=z->z < p.N->m[z.toNat]?=some true:=by
  intro z hz
  induction hz with
  |out hs hn=>
   rename_i q s
   intro h0 h1
   cases hx:m[q.toNat]? with
   |none=>rw [List.getElem?_eq_none_iff] at hx;have:=h.1;omega
   |some x=>
    cases x with
    |true=>rfl
    |false=>
     have:=hc q.toNat hx
     unfold lvB at this
     rw [List.any_eq_false] at this
     have:=this s hs
     rw [show ((q.toNat:Nat):Int)=q by omega,decide_eq_true hn] at this
     simp at this
  |go hs hn hg ih=>
   rename_i q s
   intro h0 h1
   have:=ih hn (by have:=(goF_lt hv q s).2;omega)
   cases hx:m[q.toNat]? with
   |none=>rw [List.getElem?_eq_none_iff] at hx;have:=h.1;omega
   |some x=>
    cases x with
    |true=>rfl
    |false=>
     have hf:=hc q.toNat hx
     unfold lvB at hf
     rw [List.any_eq_false] at hf
     have hf:=hf s hs
     rw [show ((q.toNat:Nat):Int)=q by omega,List.getD_eq_getElem?_getD,this] at hf
     simp at hf
 unfold rowL
 refine List.ext_getElem? fun q=>?_
 by_cases hq:q < p.N.toNat
 ·have hlen:=h.1
  rw [List.getElem?_map,List.getElem?_range hq,Option.map_some]
  cases hx:m[q]? with
  |none=>rw [List.getElem?_eq_none_iff] at hx;omega
  |some x=>
   congr 1
   symm
   apply aHZ
   refine ⟨fun e=>h.2 q (by rw [hx,e]),fun e=>?_⟩
   have:=key (q:Int) e (by omega) (by omega)
   simp only [Int.toNat_natCast] at this
   rw [hx] at this;simpa using this
 ·rw [List.getElem?_eq_none (by have:=h.1;omega),List.getElem?_eq_none (by simp;omega)]
theorem GS.row (h:GS p L m) (hc:CS p L m):m=rowS p L:=by
 unfold rowS
 refine List.ext_getElem? fun q=>?_
 by_cases hq:q < p.N.toNat
 ·have hlen:=h.1
  rw [List.getElem?_map,List.getElem?_range hq,Option.map_some]
  cases hx:m[q]? with
  |none=>rw [List.getElem?_eq_none_iff] at hx;omega
  |some x=>
   congr 1
   symm
   apply aHZ
   constructor
   ·rintro rfl
    refine ⟨fun z=>0<=z/\m[z.toNat]?=some true,⟨by omega,by simpa using hx⟩,fun z hz=>?_⟩
    rcases hc z.toNat hz.2 with h1|h1
    ·exact .inl h1
    ·right
     rw [show ((z.toNat:Nat):Int)=z by omega] at h1
     unfold stB at h1
     rw [List.any_eq_true] at h1
     obtain ⟨s,hs,h2⟩:=h1
     simp only [Bool.and_eq_true,decide_eq_true_eq] at h2
     refine ⟨s,hs,h2.1,h2.1,?_⟩
     have h3:=h2.2
     rw [List.getD_eq_getElem?_getD] at h3
     cases hy:m[(goF p z s).toNat]? with
     |none=>rw [hy] at h3;cases h3
     |some y=>rw [hy] at h3;simp at h3;rw [h3]
   ·intro hs
    cases x with
    |true=>rfl
    |false=>exact absurd hs (h.2 q hx)
 ·rw [List.getElem?_eq_none (by have:=h.1;omega),List.getElem?_eq_none (by simp;omega)]
end
end Gv
namespace Gv
open Go
structure One (t:gM):Prop where
 ok:iP t
 single:Single t
 one:t.N=1
theorem One.len {t:gM} (h:One t):t.E.length<=300:=h.ok.2.2.2.1
end Gv
namespace Gv
open Go
end Gv
