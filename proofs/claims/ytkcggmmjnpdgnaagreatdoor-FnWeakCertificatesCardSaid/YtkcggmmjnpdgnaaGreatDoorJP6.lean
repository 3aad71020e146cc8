/- Validity of transition systems, on both sides. -/
import Derived.Test.YtkcggmmjnpdgnaaGreatDoorJP1
set_option linter.all false
namespace Gv
open Go
def yJ (xs:List aY):Prop:=1<=xs.length/\xs.length<=12/\(∀ h:0 < xs.length,xs[0]=dV)/\∀ k,1<=k->(hk:k < xs.length)->zU xs[k]=true/\xs[k]≠dV/\(2<=k->ltB (xs[k - 1]'(by omega)) xs[k]=true)
theorem aJF:zU dV=true:=by decide
theorem aOh (xs:List aY) (h2:∀ s∈xs,s.length < 1000000000):aEA xs=some (cl (yJ xs)):=by
 unfold aEA
 by_cases h0:xs.length=0
 ·rw [if_pos (by simp [h0]),tH (P:=yJ xs) (fun h=>by have:=h.1;omega)];rfl
 rw [if_neg (by simpa using h0)]
 by_cases h12:12 < xs.length
 ·rw [if_pos (by simp;omega),tH (P:=yJ xs) (fun h=>by have:=h.2.1;omega)];rfl
 rw [if_neg (by simp;omega),show (0:Int)=((0:Nat):Int) from rfl,cU (xs:=xs) (k:=0) (by omega),aA,show ([116,97,117]:aY)=dV from rfl]
 unfold uO
 by_cases ht:xs[0]'(by omega)=dV
 ·rw [if_neg (by simp [ht])]
  have:=aGv (step:=fun s=>yW xs s) xs.length 1 (fun k=>∀ hk:k < xs.length,1<=k->zU xs[k]=true/\xs[k]≠dV/\(2<=k->ltB (xs[k - 1]'(by omega)) xs[k]=true)) (.inr false) (.inl ()) (by omega) (fun k h0 hk=>?_) (by simp only [yW,eZ];rfl)
  ·rw [show (1:Int)=((1:Nat):Int) from rfl,this,aA]
   by_cases hs:∀ k,1<=k->k < xs.length->∀ hk:k < xs.length,1<=k->zU xs[k]=true/\xs[k]≠dV/\(2<=k->ltB (xs[k - 1]'(by omega)) xs[k]=true)
   ·rw [if_pos (aAx hs),aAx (P:=yJ xs) ⟨by omega,by omega,fun _=>ht,fun k h1 hk=>hs k h1 hk hk h1⟩];rfl
   ·rw [if_neg (by rw [vC];exact hs),tH (P:=yJ xs) (fun h=>hs fun k h1 hk _ _=>h.2.2.2 k h1 hk)]
  ·simp only [yW,dJ hk,if_pos,cU hk,aA,aOf _ (h2 _ (List.getElem_mem hk)),rK,cS hk (show xs.length < 4611686018427387904 by omega)]
   rw [show ([116,97,117]:aY)=dV from rfl]
   by_cases hl:zU xs[k]=true
   ·rw [hl]
    by_cases htk:xs[k]=dV
    ·have:(xs[k] == dV)=true:=by simp [htk]
     rw [this,tH (fun h=>(h hk h0).2.1 htk)];rfl
    ·have:(xs[k] == dV)=false:=by simp [htk]
     rw [this]
     by_cases hk2:2<=k
     ·have hk1:wr ((k:Int) - 1)=((k - 1:Nat):Int):=by rw [dP (by omega) (by omega)];omega
      rw [decide_eq_true (p:=(1:Int) < (k:Int)) (by omega),hk1,cU (xs:=xs) (k:=k - 1) (by omega)]
      rw [aEU (b:=ltB (xs[k - 1]'(by omega)) xs[k]) ⟨fun h _ _=>⟨hl,htk,fun _=>h⟩,fun h=>(h hk h0).2.2 hk2⟩]
      simp only [Bool.not_true,Bool.false_eq_true,if_false,if_pos,aA]
      cases ltB (xs[k - 1]'(by omega)) xs[k]<;>rfl
     ·rw [decide_eq_false (p:=(1:Int) < (k:Int)) (by omega),aAx (fun _ _=>⟨hl,htk,fun h=>absurd h hk2⟩)];rfl
   ·rw [tH (fun h=>hl (h hk h0).1)]
    rw [Bool.not_eq_true] at hl
    rw [hl];rfl
 ·rw [if_pos (by simp [ht]),tH (P:=yJ xs) (fun h=>ht (h.2.2.1 (by omega)))]
def aCj (t:cB) (e:Edge):Prop:=(0<=e.F/\e.F<=t.N - 1)/\(0<=e.To/\e.To<=t.N - 1)/\0<=e.B/\e.B<=(t.L.length:Int) - 1
def EdgesOk (t:cB):Prop:=t.E.length<=300/\∀ k,(hk:k < t.E.length)->aCj t t.E[k]/\(1<=k->dW (t.E[k - 1]'(by omega)) t.E[k]=true)
def cN (t:cB):Prop:=(1<=t.N/\t.N<=40)/\(0<=t.I/\t.I<=t.N - 1)/\yJ t.L/\EdgesOk t
theorem aLb (a b:Edge):aEc a b=some (dW a b):=by
 obtain ⟨a1,a2,a3⟩:=a;obtain ⟨b1,b2,b3⟩:=b
 simp only [aEc,dW]
 by_cases h1:a1=b1<;>by_cases h2:a2=b2<;>simp [h1,h2]
theorem nV (n a b:Int):(decide (a<=n)&&decide (n<=b))=true<->a<=n/\n<=b:=by simp
theorem xA {n a b:Int} (h:¬ (a<=n/\n<=b)):(decide (a<=n)&&decide (n<=b))=false:=by
 cases hx:(decide (a<=n)&&decide (n<=b)) with
 |false=>rfl
 |true=>exact absurd ((nV _ _ _).1 hx) h
theorem aGw (t:cB) (hf:lE 999999999 t):vH t=some (cl (cN t)):=by
 obtain ⟨f1,f2,f3⟩:=hf
 unfold vH
 rw [aGu,aA]
 by_cases na:¬ (1<=t.N/\t.N<=40)
 ·rw [xA na,Bool.not_false,if_pos rfl,tH (P:=cN t) (fun h=>na h.1)];rfl
 have a1:1<=t.N/\t.N<=40:=Classical.not_not.1 na
 have w1:wr (t.N - 1)=t.N - 1:=dP (by omega) (by omega)
 rw [if_neg (by rw [←nV] at a1;simp [a1]),w1,aGu,aA]
 by_cases na:¬ (0<=t.I/\t.I<=t.N - 1)
 ·rw [xA na,Bool.not_false,if_pos rfl,tH (P:=cN t) (fun h=>na h.2.1)];rfl
 have a2:0<=t.I/\t.I<=t.N - 1:=Classical.not_not.1 na
 rw [if_neg (by rw [←nV] at a2;simp [a2]),aOh _ (fun s hs=>by have:=f2 s hs;omega),aA]
 by_cases na:¬ yJ t.L
 ·rw [if_pos (by rw [tH na];rfl),tH (P:=cN t) (fun h=>na h.2.2.1)];rfl
 have a3:yJ t.L:=Classical.not_not.1 na
 rw [if_neg (by rw [aAx a3];simp)]
 unfold aAq
 by_cases h300:300 < t.E.length
 ·rw [if_pos (by simp;omega),tH (P:=cN t) (fun h=>by have:=h.2.2.2.1;omega)]
 rw [if_neg (by simp;omega)]
 have:=aGv (step:=fun s=>aEC t s) t.E.length 0 (fun k=>∀ hk:k < t.E.length,aCj t t.E[k]/\(1<=k->dW (t.E[k - 1]'(by omega)) t.E[k]=true)) (.inr false) (.inl ()) (Nat.zero_le _) (fun k h0 hk=>?_) (by simp only [aEC,eZ];rfl)
 ·rw [show (0:Int)=((0:Nat):Int) from rfl,this,aA]
  by_cases hs:∀ k,0<=k->k < t.E.length->∀ hk:k < t.E.length,aCj t t.E[k]/\(1<=k->dW (t.E[k - 1]'(by omega)) t.E[k]=true)
  ·rw [if_pos (aAx hs),aAx (P:=cN t) ⟨a1,a2,a3,by omega,fun k hk=>hs k (by omega) hk hk⟩];rfl
  ·rw [if_neg (by rw [vC];exact hs),tH (P:=cN t) (fun h=>hs fun k _ hk _=>h.2.2.2.2 k hk)]
 ·have wl:wr ((t.L.length:Int) - 1)=(t.L.length:Int) - 1:=dP (by omega) (by omega)
  simp only [aEC,dJ hk,if_pos,cU hk,aA,aGu,w1,wl,aBZ,aEB,aLb,cS hk (show t.E.length < 4611686018427387904 by omega)]
  generalize he:t.E[k]=e
  by_cases n1:¬ (0<=e.F/\e.F<=t.N - 1)
  ·have:(decide (0<=e.F)&&decide (e.F<=t.N - 1))=false:=xA n1
   rw [this,tH (fun h=>by have:=(h hk).1.1;rw [he] at this;exact n1 this)];rfl
  rw [(nV _ _ _).2 (Classical.not_not.1 n1)]
  by_cases n2:¬ (0<=e.To/\e.To<=t.N - 1)
  ·have:(decide (0<=e.To)&&decide (e.To<=t.N - 1))=false:=xA n2
   rw [this,tH (fun h=>by have:=(h hk).1.2.1;rw [he] at this;exact n2 this)];rfl
  rw [(nV _ _ _).2 (Classical.not_not.1 n2)]
  by_cases n3:¬ (0<=e.B/\e.B<=(t.L.length:Int) - 1)
  ·have:(decide (0<=e.B)&&decide (e.B<=(t.L.length:Int) - 1))=false:=xA n3
   rw [this,tH (fun h=>by have:=(h hk).1.2.2;rw [he] at this;exact n3 this)];rfl
  rw [(nV _ _ _).2 (Classical.not_not.1 n3)]
  have hin:aCj t t.E[k]:=by rw [he];exact ⟨Classical.not_not.1 n1,Classical.not_not.1 n2,Classical.not_not.1 n3⟩
  by_cases h1:1<=k
  ·have hk1:wr ((k:Int) - 1)=((k - 1:Nat):Int):=by rw [dP (by omega) (by omega)];omega
   rw [decide_eq_true (p:=(0:Int) < (k:Int)) (by omega),hk1,cU (xs:=t.E) (k:=k - 1) (by omega)]
   rw [aEU (b:=dW (t.E[k - 1]'(by omega)) e) ⟨fun h _=>⟨hin,fun _=>by rw [he];exact h⟩,fun h=>by have:=(h hk).2 h1;rw [he] at this;exact this⟩]
   simp only [Bool.not_true,Bool.false_eq_true,if_false,if_pos,aA]
   cases dW (t.E[k - 1]'(by omega)) e<;>rfl
  ·rw [decide_eq_false (p:=(0:Int) < (k:Int)) (by omega),aAx (fun _=>⟨hin,fun h=>absurd h h1⟩)]
   simp only [Bool.not_true,Bool.false_eq_true,if_false];rfl
def icmp (a b:Int):Int:=if a < b then -1 else if b < a then 1 else 0
theorem aII (a b:Int):eX a b=some (icmp a b):=by
 unfold eX pF icmp
 by_cases h1:a < b<;>by_cases h2:b < a<;>simp [h1,h2]
def or3 (a b c:Int):Int:=if a≠0 then a else if b≠0 then b else c
theorem Or_eq (a b c:Int):zF [a,b,c]=some (or3 a b c):=by
 unfold zF or3
 have s0:kE [a,b,c] 0=if a≠0 then some (.inr (.inr a)) else some (.inl 1):=by
  simp only [kE,show ix [a,b,c] 0=some a from rfl,aA]
  by_cases h:a=0<;>simp [h]<;>rfl
 have s1:kE [a,b,c] 1=if b≠0 then some (.inr (.inr b)) else some (.inl 2):=by
  simp only [kE,show ix [a,b,c] 1=some b from rfl,aA]
  by_cases h:b=0<;>simp [h]<;>rfl
 have s2:kE [a,b,c] 2=if c≠0 then some (.inr (.inr c)) else some (.inl 3):=by
  simp only [kE,show ix [a,b,c] 2=some c from rfl,aA]
  by_cases h:c=0<;>simp [h]<;>rfl
 have s3:kE [a,b,c] 3=some (.inr (.inl ())):=rfl
 by_cases h1:a=0
 ·by_cases h2:b=0
  ·by_cases h3:c=0
   ·rw [cY,s0,if_neg (by simp [h1])];simp only
    rw [cY,s1,if_neg (by simp [h2])];simp only
    rw [cY,s2,if_neg (by simp [h3])];simp only
    rw [cY,s3]
    simp [h1,h2,h3,aCd]
   ·rw [cY,s0,if_neg (by simp [h1])];simp only
    rw [cY,s1,if_neg (by simp [h2])];simp only
    rw [cY,s2,if_pos (by simp [h3])]
    simp [h1,h2]
  ·rw [cY,s0,if_neg (by simp [h1])];simp only
   rw [cY,s1,if_pos h2]
   simp [h1,h2]
 ·rw [cY,s0,if_pos h1]
  simp [h1]
theorem aKk (a b:Edge):wS a b=some (or3 (icmp a.F b.F) (icmp a.B b.B) (icmp a.To b.To)):=by
 unfold wS
 rw [aII,aA,aII,aA,aII,aA,Or_eq];rfl
theorem cmpE_ge (a b:Edge):decide (0<=or3 (icmp a.F b.F) (icmp a.B b.B) (icmp a.To b.To))=!dW a b:=by
 obtain ⟨a1,a2,a3⟩:=a;obtain ⟨b1,b2,b3⟩:=b
 simp only [dW,or3,icmp]
 rcases Int.lt_trichotomy a1 b1 with h1|h1|h1<;>rcases Int.lt_trichotomy a2 b2 with h2|h2|h2<;>rcases Int.lt_trichotomy a3 b3 with h3|h3|h3<;>
  simp [h1,h2,h3,Int.not_lt_of_ge,Int.le_of_lt,Int.ne_of_lt,Int.ne_of_gt]<;>omega
theorem aIJ (t:cB) (k:Int) (h:-9223372036854775807<=t.N/\t.N<=9223372036854775807):jC t k=some (decide (0<=k)&&decide (k<=t.N - 1)):=by
 unfold jC
 rw [yB,dP (by omega) (by omega)];rfl
theorem index_eq (k:Int) (n:Nat) (h:n < 1000000000):aJf k (n:Int)=some (decide (0<=k)&&decide (k<=(n:Int) - 1)):=by
 unfold aJf
 rw [yB,dP (by omega) (by omega)];rfl
theorem aAR (t:cB) (hf:lE 999999999 t):aAt t=some (cl (cN t)):=by
 obtain ⟨f1,f2,f3⟩:=hf
 unfold aAt
 rw [yB,aA]
 by_cases na:¬ (1<=t.N/\t.N<=40)
 ·rw [xA na,Bool.not_false,if_pos rfl,tH (P:=cN t) (fun h=>na h.1)];rfl
 have a1:1<=t.N/\t.N<=40:=Classical.not_not.1 na
 have hst:-9223372036854775807<=t.N/\t.N<=9223372036854775807:=by omega
 rw [if_neg (by rw [←nV] at a1;simp [a1]),aIJ t _ hst,aA]
 by_cases na:¬ (0<=t.I/\t.I<=t.N - 1)
 ·rw [xA na,Bool.not_false,if_pos rfl,tH (P:=cN t) (fun h=>na h.2.1)];rfl
 have a2:0<=t.I/\t.I<=t.N - 1:=Classical.not_not.1 na
 rw [if_neg (by rw [←nV] at a2;simp [a2]),yB,aA]
 by_cases na:¬ (1<=(t.L.length:Int)/\(t.L.length:Int)<=12)
 ·rw [xA na,Bool.not_false,if_pos rfl,tH (P:=cN t) (fun h=>by have h1:=h.2.2.1.1;have h2:=h.2.2.1.2.1;omega)];rfl
 have a3:1<=(t.L.length:Int)/\(t.L.length:Int)<=12:=Classical.not_not.1 na
 rw [if_neg (by rw [←nV] at a3;simp [a3])]
 unfold rO
 by_cases h300:300 < t.E.length
 ·rw [if_pos (by simp;omega),tH (P:=cN t) (fun h=>by have:=h.2.2.2.1;omega)]
 rw [if_neg (by simp;omega)]
 have hlabs:=aGv (step:=fun s=>zN t s) t.L.length 0 (fun k=>∀ hk:k < t.L.length,zU t.L[k]=true/\(t.L[k]=dV<->k=0)/\(2<=k->ltB (t.L[k - 1]'(by omega)) t.L[k]=true)) (.inr false) (.inl ()) (Nat.zero_le _) (fun k h0 hk=>?_) (by simp only [zN,eZ];rfl)
 ·rw [show (0:Int)=((0:Nat):Int) from rfl,hlabs,aA]
  by_cases hs:∀ k,0<=k->k < t.L.length->∀ hk:k < t.L.length,zU t.L[k]=true/\(t.L[k]=dV<->k=0)/\(2<=k->ltB (t.L[k - 1]'(by omega)) t.L[k]=true)
  ·rw [if_pos (aAx hs)]
   have a4:yJ t.L:=⟨by omega,by omega,fun h=>(hs 0 (by omega) h h).2.1.2 rfl,fun k h1 hk=>⟨(hs k (by omega) hk hk).1,fun e=>by have:=(hs k (by omega) hk hk).2.1.1 e;omega,(hs k (by omega) hk hk).2.2⟩⟩
   simp only
   unfold zJ
   have:=aGv (step:=fun s=>zH t s) t.E.length 0 (fun k=>∀ hk:k < t.E.length,aCj t t.E[k]/\(1<=k->dW (t.E[k - 1]'(by omega)) t.E[k]=true)) (.inr false) (.inl ()) (Nat.zero_le _) (fun k h0 hk=>?_) (by simp only [zH,eZ];rfl)
   ·rw [show (0:Int)=((0:Nat):Int) from rfl,this,aA]
    by_cases hs:∀ k,0<=k->k < t.E.length->∀ hk:k < t.E.length,aCj t t.E[k]/\(1<=k->dW (t.E[k - 1]'(by omega)) t.E[k]=true)
    ·rw [if_pos (aAx hs),aAx (P:=cN t) ⟨a1,a2,a4,by omega,fun k hk=>hs k (by omega) hk hk⟩];rfl
    ·rw [if_neg (by rw [vC];exact hs),tH (P:=cN t) (fun h=>hs fun k _ hk _=>h.2.2.2.2 k hk)]
   ·simp only [zH,dJ hk,if_pos,cU hk,aA,aIJ t _ hst,index_eq _ _ (show t.L.length < 1000000000 by omega),oI,aKk,cmpE_ge,cS hk (show t.E.length < 4611686018427387904 by omega)]
    generalize he:t.E[k]=e
    by_cases n1:¬ (0<=e.F/\e.F<=t.N - 1)
    ·have:(decide (0<=e.F)&&decide (e.F<=t.N - 1))=false:=xA n1
     rw [this,tH (fun h=>by have:=(h hk).1.1;rw [he] at this;exact n1 this)];rfl
    rw [(nV _ _ _).2 (Classical.not_not.1 n1)]
    by_cases n2:¬ (0<=e.To/\e.To<=t.N - 1)
    ·have:(decide (0<=e.To)&&decide (e.To<=t.N - 1))=false:=xA n2
     rw [this,tH (fun h=>by have:=(h hk).1.2.1;rw [he] at this;exact n2 this)];rfl
    rw [(nV _ _ _).2 (Classical.not_not.1 n2)]
    by_cases n3:¬ (0<=e.B/\e.B<=(t.L.length:Int) - 1)
    ·have:(decide (0<=e.B)&&decide (e.B<=(t.L.length:Int) - 1))=false:=xA n3
     rw [this,tH (fun h=>by have:=(h hk).1.2.2;rw [he] at this;exact n3 this)];rfl
    rw [(nV _ _ _).2 (Classical.not_not.1 n3)]
    have hin:aCj t t.E[k]:=by rw [he];exact ⟨Classical.not_not.1 n1,Classical.not_not.1 n2,Classical.not_not.1 n3⟩
    by_cases h1:1<=k
    ·have hk1:wr ((k:Int) - 1)=((k - 1:Nat):Int):=by rw [dP (by omega) (by omega)];omega
     rw [decide_eq_true (p:=(0:Int) < (k:Int)) (by omega),hk1,cU (xs:=t.E) (k:=k - 1) (by omega)]
     rw [aEU (b:=dW (t.E[k - 1]'(by omega)) e) ⟨fun h _=>⟨hin,fun _=>by rw [he];exact h⟩,fun h=>by have:=(h hk).2 h1;rw [he] at this;exact this⟩]
     simp only [Bool.not_true,Bool.false_eq_true,if_false,if_pos,aA]
     cases dW (t.E[k - 1]'(by omega)) e<;>rfl
    ·rw [decide_eq_false (p:=(0:Int) < (k:Int)) (by omega),aAx (fun _=>⟨hin,fun h=>absurd h h1⟩)]
     simp only [Bool.not_true,Bool.false_eq_true,if_false];rfl
  ·rw [if_neg (by rw [vC];exact hs),tH (P:=cN t) (fun h=>hs fun k _ hk _=>?_)]
   obtain ⟨l1,l2,l3,l4⟩:=h.2.2.1
   by_cases hk0:k=0
   ·subst hk0
    exact ⟨by rw [l3 hk];exact aJF,⟨fun _=>rfl,fun _=>l3 hk⟩,fun h=>by omega⟩
   ·have:=l4 k (by omega) hk
    exact ⟨this.1,⟨fun e=>absurd e this.2.1,fun e=>absurd e hk0⟩,this.2.2⟩
 ·simp only [zN,dJ hk,if_pos,cU hk,aA,aIH _ (show t.L[k].length < 1000000000 by have:=f2 _ (List.getElem_mem hk);omega),rN,cS hk (show t.L.length < 4611686018427387904 by omega),ltB_ge]
  rw [show ([116,97,117]:aY)=dV from rfl]
  by_cases hl:zU t.L[k]=true
  ·rw [hl]
   have e0:((k:Int) == 0)=decide (k=0):=by by_cases e:k=0<;>simp [e]
   by_cases htk:(t.L[k]=dV<->k=0)
   ·have:((t.L[k] == dV) != ((k:Int) == 0))=false:=by
     rw [e0]
     by_cases e:k=0
     ·have:=htk.2 e;rw [this];simp [e]
     ·have:¬ t.L[k]=dV:=fun h=>e (htk.1 h)
      simp [this,e]
    rw [this]
    by_cases hk2:2<=k
    ·have hk1:wr ((k:Int) - 1)=((k - 1:Nat):Int):=by rw [dP (by omega) (by omega)];omega
     rw [decide_eq_true (p:=(1:Int) < (k:Int)) (by omega),hk1,cU (xs:=t.L) (k:=k - 1) (by omega)]
     rw [aEU (b:=ltB (t.L[k - 1]'(by omega)) t.L[k]) ⟨fun h _=>⟨hl,htk,fun _=>h⟩,fun h=>(h hk).2.2 hk2⟩]
     simp only [Bool.not_true,Bool.false_eq_true,if_false,if_pos,aA,ltB_ge]
     cases ltB (t.L[k - 1]'(by omega)) t.L[k]<;>rfl
    ·rw [decide_eq_false (p:=(1:Int) < (k:Int)) (by omega),aAx (fun _=>⟨hl,htk,fun h=>absurd h hk2⟩)];rfl
   ·have:((t.L[k] == dV) != ((k:Int) == 0))=true:=by
     rw [e0]
     by_cases e:k=0
     ·have:¬ t.L[k]=dV:=fun h=>htk ⟨fun _=>e,fun _=>h⟩
      rw [beq_false_of_ne this];simp [e]
     ·have:t.L[k]=dV:=Classical.byContradiction fun h=>htk ⟨fun h'=>absurd h' h,fun h'=>absurd h' e⟩
      simp [this,e]
    rw [this,tH (fun h=>htk (h hk).2.1)];rfl
  ·rw [tH (fun h=>hl (h hk).1)]
   rw [Bool.not_eq_true] at hl
   rw [hl];rfl
def Single (t:cB):Prop:=∀ k,(hk:k < t.E.length)->t.E[k].B≠0/\(1<=k->¬ (t.E[k].F=(t.E[k - 1]'(by omega)).F/\t.E[k].B=(t.E[k - 1]'(by omega)).B))
end Gv
namespace Gv
open Go
theorem aLc {α:Type} {R:α->α->Prop} (tr:∀ {a b c},R a b->R b c->R a c) {xs:List α} (h:∀ k,1<=k->(hk:k < xs.length)->R (xs[k - 1]'(by omega)) xs[k]) {i j:Nat} (hij:i < j) (hj:j < xs.length):R (xs[i]'(by omega)) xs[j]:=by
 induction j with
 |zero=>omega
 |succ j ih=>
  have h1:=h (j+1) (by omega) hj
  simp only [Nat.add_sub_cancel] at h1
  by_cases e:i=j
  ·subst e;exact h1
  ·exact tr (ih (by omega) (by omega)) h1
def txt (t:cB) (e:Edge):aY:=t.L.getD e.B.toNat []
def flLt (a b:Edge):Prop:=a.F < b.F\/(a.F=b.F/\a.B < b.B)
theorem labs_lt {xs:List aY} (h:yJ xs) {i j:Nat} (hi:1<=i) (hij:i < j) (hj:j < xs.length):ltB (xs[i]'(by omega)) xs[j]=true:=by
 induction j with
 |zero=>omega
 |succ j ih=>
  have h1:=(h.2.2.2 (j+1) (by omega) hj).2.2 (by omega)
  simp only [Nat.add_sub_cancel] at h1
  by_cases e:i=j
  ·subst e;exact h1
  ·exact aCi (ih (by omega) (by omega)) h1
theorem aOi {xs:List aY} (h:yJ xs) {i j:Nat} (hi:i < xs.length) (hj:j < xs.length) (e:xs[i]=xs[j]):i=j:=by
 have key:∀ i j,(hij:i < j)->(hj:j < xs.length)->xs[i]'(by omega)≠xs[j]:=by
  intro i j hij hj e
  by_cases h0:i=0
  ·subst h0
   rw [h.2.2.1 (by omega)] at e
   exact (h.2.2.2 j (by omega) hj).2.1 e.symm
  ·have:=labs_lt h (by omega) hij hj
   rw [e,tX] at this;cases this
 rcases Nat.lt_trichotomy i j with h1|h1|h1
 ·exact absurd e (key i j h1 hj)
 ·exact h1
 ·exact absurd e.symm (key j i h1 hi)
theorem aCC {t:cB} (hv:cN t) {e:Edge} (he:e∈t.E):aCj t e:=by
 obtain ⟨k,hk,rfl⟩:=List.mem_iff_getElem.1 he
 exact (hv.2.2.2.2 k hk).1
theorem aHO {t:cB} {e:Edge} (he:aCj t e):ix t.L e.B=some (txt t e):=by
 obtain ⟨_,_,h1,h2⟩:=he
 rw [aFd h1 (by omega)]
 unfold txt;rw [List.getD_eq_getElem?_getD,List.getElem?_eq_getElem (by omega)];rfl
def hit (t:cB) (q:Int) (s:aY) (e:Edge):Bool:=e.F == q&&txt t e == s
def goF (t:cB) (q:Int) (s:aY):Int:=match t.E.find? (hit t q s) with|some e=>e.To|none=>-1
theorem goF_lt {t:cB} (hv:cN t) (q:Int) (s:aY):-1<=goF t q s/\goF t q s<=t.N - 1:=by
 unfold goF
 cases hx:t.E.find? (hit t q s) with
 |none=>have:=hv.1;simp only;omega
 |some e=>have:=(aCC hv (List.mem_of_find?_eq_some hx)).2.1;simp only;omega
theorem aDn {β γ ρ:Type} {step:(List γ × Int)->Option ((List γ × Int) ⊕ ρ)} (xs:List β) (p:β->Bool) (f:β->γ) (e:List γ->ρ)
  (h:∀ (k:Nat) out x,k < xs.length->out.length<=k->ix xs (k:Int)=some x->step (out,(k:Int))=some (.inl (if p x=true then out++[f x] else out,((k+1:Nat):Int))))
  (h':∀ out,step (out,(xs.length:Int))=some (.inr (e out))):loop step ([],0)=some (e ((xs.filter p).map f)):=by
 have:=vB (step:=step) xs (fun k out=>(out,(k:Int))) (fun l out=>e (out++(l.filter p).map f)) (fun k out=>out.length<=k) (fun k a x l hk hx hI=>?_) (fun a _=>by simp [h']) (a:=[]) (by simp)
 ·simpa using this
 ·left;rw [h k a x hk hI hx]
  by_cases hp:p x=true
  ·exact ⟨a++[f x],by rw [if_pos hp],by simp;omega,by simp [hp]⟩
  ·exact ⟨a,by rw [if_neg hp],by omega,by simp [hp]⟩
theorem out_eq (t:cB) (q:Int) (h:t.E.length < 1000000000):aEh t q=some (t.E.filter fun e=>e.F == q):=by
 unfold aEh
 rw [aDn (step:=fun s:List Edge × Int=>aBx t q s.1 s.2) t.E (fun e=>e.F == q) id id (fun k out x hk ho hx=>?_) (fun out=>by simp only [aBx,eZ];rfl),aA]
 ·simp [aBv]
 ·simp only [aBx,dJ hk,if_pos,hx,aA,aBw,cS hk (show t.E.length < 4611686018427387904 by omega)]
  rw [dK (by simp [kP];omega),aA]
  cases x.F == q<;>rfl
theorem l11Out_eq (t:cB) (q:Int) (h:t.E.length < 1000000000):aHA t q=some (t.E.filter fun e=>e.F == q):=by
 unfold aHA
 rw [aDn (step:=fun s:List Edge × Int=>aCT t q s.1 s.2) t.E (fun e=>e.F == q) id id (fun k out x hk ho hx=>?_) (fun out=>by simp only [aCT,eZ];rfl),aA]
 ·simp [aCR]
 ·simp only [aCT,dJ hk,if_pos,hx,aA,aCS,cS hk (show t.E.length < 4611686018427387904 by omega)]
  rw [dK (by simp [kP];omega),aA]
  cases x.F == q<;>rfl
end Gv
namespace Gv
open Go
theorem eA {σ ρ α:Type} {step:σ->Option (σ ⊕ ρ)} (n:Nat) (g:Nat->α->σ) (I:Nat->α->Prop) (R:ρ->Prop)
  (h:∀ k a,k < n->I k a->∃ a',step (g k a)=some (.inl (g (k+1) a'))/\I (k+1) a')
  (h':∀ a,I n a->∃ r,step (g n a)=some (.inr r)/\R r):∀ j k a,k+j=n->I k a->∃ r,loop step (g k a)=some r/\R r
 |0,k,a,e,hI=>by
  obtain rfl:k=n:=by omega
  obtain ⟨r,h1,h2⟩:=h' a hI
  exact ⟨r,by rw [cY,h1],h2⟩
 |j+1,k,a,e,hI=>by
  obtain ⟨a',h1,h2⟩:=h k a (by omega) hI
  rw [cY,h1]
  exact eA n g I R h h' j (k+1) a' (by omega) h2
structure Adv (b:Bool) (G:List Bool->Prop) (m0 m:List Bool) (ag:Bool):Prop where
 good:G m
 le:m.count b<=m0.count b
 lt:ag=true->m.count b < m0.count b
 eq:ag=false->m=m0
theorem Adv.refl {b:Bool} {G:List Bool->Prop} {m:List Bool} (h:G m):Adv b G m m false:=⟨h,Nat.le_refl _,fun h=>(by cases h),fun _=>rfl⟩
theorem aLd {b:Bool}:∀ {m:List Bool} {q:Nat},m[q]?=some b->(m.set q (!b)).count b < m.count b
 |[],q,h=>by simp at h
 |x::l,0,h=>by
  simp at h;subst h
  cases x<;>simp
 |x::l,q+1,h=>by
  have:=aLd (m:=l) (q:=q) (by simpa using h)
  simp only [List.set_cons_succ,List.count_cons];omega
theorem Adv.flip {b:Bool} {G:List Bool->Prop} {m0 m:List Bool} {ag:Bool} (h:Adv b G m0 m ag) {q:Nat} (hq:m[q]?=some b) (hg:G (m.set q (!b))):Adv b G m0 (m.set q (!b)) true:=by
 have:=aLd hq
 have:=h.le
 exact ⟨hg,by omega,fun _=>by omega,fun h=>by cases h⟩
theorem aOj {α:Type} (g:List Bool->α) {step:α × Bool->Option ((α × Bool) ⊕ α)} (b:Bool) (G C:List Bool->Prop)
  (h1:∀ m,G m->∃ m' ag,step (g m,true)=some (.inl (g m',ag))/\Adv b G m m' ag/\(ag=false->C m))
  (h2:∀ m,step (g m,false)=some (.inr (g m))):∀ n m,m.count b<=n->G m->∃ m',loop step (g m,true)=some (g m')/\G m'/\C m':=by
 intro n
 induction n with
 |zero=>
  intro m hn hG
  obtain ⟨m',ag,e,ha,hc⟩:=h1 m hG
  cases ag with
  |true=>have:=ha.lt rfl;omega
  |false=>
   obtain rfl:=ha.eq rfl
   exact ⟨_,by rw [cY,e];simp only;rw [cY,h2],hG,hc rfl⟩
 |succ n ih=>
  intro m hn hG
  obtain ⟨m',ag,e,ha,hc⟩:=h1 m hG
  cases ag with
  |true=>
   have:=ha.lt rfl
   obtain ⟨m'',e',hG',hC'⟩:=ih m' (by omega) ha.good
   exact ⟨m'',by rw [cY,e];exact e',hG',hC'⟩
  |false=>
   obtain rfl:=ha.eq rfl
   exact ⟨_,by rw [cY,e];simp only;rw [cY,h2],hG,hc rfl⟩
section
variable (p:cB) (L:List aY)
inductive Lv:Int->Prop
 |out {q:Int} {s:aY}:s∈L->goF p q s < 0->Lv q
 |go {q:Int} {s:aY}:s∈L->0<=goF p q s->Lv (goF p q s)->Lv q
def St (q:Int):Prop:=∃ S:Int->Prop,S q/\∀ z,S z->L=[]\/∃ s∈L,0<=goF p z s/\S (goF p z s)
noncomputable def rowL:List Bool:=(List.range p.N.toNat).map fun (q:Nat)=>cl (Lv p L (q:Int))
noncomputable def rowS:List Bool:=(List.range p.N.toNat).map fun (q:Nat)=>cl (St p L (q:Int))
def lvB (m:List Bool) (q:Int):Bool:=L.any fun s=>decide (goF p q s < 0)||m.getD (goF p q s).toNat false
def stB (m:List Bool) (q:Int):Bool:=L.any fun s=>decide (0<=goF p q s)&&m.getD (goF p q s).toNat false
def GL (m:List Bool):Prop:=m.length=p.N.toNat/\∀ q:Nat,m[q]?=some true->Lv p L (q:Int)
def CL (m:List Bool):Prop:=∀ q:Nat,m[q]?=some false->lvB p L m (q:Int)=false
def GS (m:List Bool):Prop:=m.length=p.N.toNat/\∀ q:Nat,m[q]?=some false->¬ St p L (q:Int)
def CS (m:List Bool):Prop:=∀ q:Nat,m[q]?=some true->L=[]\/stB p L m (q:Int)=true
end
section
variable {p:cB} {L:List aY} {m:List Bool}
theorem GL.flip (h:GL p L m) {q:Nat} (hq:m[q]?=some false) (hb:lvB p L m (q:Int)=true):GL p L (m.set q (!false)):=by
 refine ⟨by simp [h.1],fun z hz=>?_⟩
 by_cases e:z=q
 ·subst e
  unfold lvB at hb
  rw [List.any_eq_true] at hb
  obtain ⟨s,hs,hb⟩:=hb
  by_cases hn:goF p (z:Int) s < 0
  ·exact .out hs hn
  ·simp only [decide_eq_false hn,Bool.false_or] at hb
   have:=h.2 (goF p (z:Int) s).toNat (by
    rw [List.getD_eq_getElem?_getD] at hb
    cases hx:m[(goF p (z:Int) s).toNat]? with
    |none=>rw [hx] at hb;cases hb
    |some x=>rw [hx] at hb;simp at hb;rw [hb])
   rw [show (((goF p (z:Int) s).toNat:Nat):Int)=goF p (z:Int) s by omega] at this
   exact .go hs (by omega) this
 ·rw [List.getElem?_set_ne (Ne.symm e)] at hz
  exact h.2 z hz
theorem GL.row (hv:cN p) (h:GL p L m) (hc:CL p L m):m=rowL p L:=by
 have key:∀ z,Lv p L z->0<=z->z < p.N->m[z.toNat]?=some true:=by
  intro z hz
  induction hz with
  |out hs hn=>
   rename_i q s
   intro h0 h1
   cases hx:m[q.toNat]? with
   |none=>rw [List.getElem?_eq_none_iff] at hx;have:=h.1;omega
   |some x=>
    cases x with
    |true=>rfl
    |false=>
     have:=hc q.toNat hx
     unfold lvB at this
     rw [List.any_eq_false] at this
     have:=this s hs
     rw [show ((q.toNat:Nat):Int)=q by omega,decide_eq_true hn] at this
     simp at this
  |go hs hn hg ih=>
   rename_i q s
   intro h0 h1
   have:=ih hn (by have:=(goF_lt hv q s).2;omega)
   cases hx:m[q.toNat]? with
   |none=>rw [List.getElem?_eq_none_iff] at hx;have:=h.1;omega
   |some x=>
    cases x with
    |true=>rfl
    |false=>
     have hf:=hc q.toNat hx
     unfold lvB at hf
     rw [List.any_eq_false] at hf
     have hf:=hf s hs
     rw [show ((q.toNat:Nat):Int)=q by omega,List.getD_eq_getElem?_getD,this] at hf
     simp at hf
 unfold rowL
 refine List.ext_getElem? fun q=>?_
 by_cases hq:q < p.N.toNat
 ·have hlen:=h.1
  rw [List.getElem?_map,List.getElem?_range hq,Option.map_some]
  cases hx:m[q]? with
  |none=>rw [List.getElem?_eq_none_iff] at hx;omega
  |some x=>
   congr 1
   symm
   apply aEU
   refine ⟨fun e=>h.2 q (by rw [hx,e]),fun e=>?_⟩
   have:=key (q:Int) e (by omega) (by omega)
   simp only [Int.toNat_natCast] at this
   rw [hx] at this;simpa using this
 ·rw [List.getElem?_eq_none (by have:=h.1;omega),List.getElem?_eq_none (by simp;omega)]
theorem GS.flip (h:GS p L m) {q:Nat} (hq:m[q]?=some true) (hL:L≠[]) (hv:cN p) (hb:stB p L m (q:Int)=false):GS p L (m.set q (!true)):=by
 refine ⟨by simp [h.1],fun z hz=>?_⟩
 by_cases e:z=q
 ·subst e
  rintro ⟨S,h1,h2⟩
  rcases h2 _ h1 with h3|⟨s,hs,h4,h5⟩
  ·exact hL h3
  ·unfold stB at hb
   rw [List.any_eq_false] at hb
   have:=hb s hs
   rw [decide_eq_true h4,List.getD_eq_getElem?_getD] at this
   have hlt:=(goF_lt hv (z:Int) s).2
   have hlen:=h.1
   cases hx:m[(goF p (z:Int) s).toNat]? with
   |none=>rw [List.getElem?_eq_none_iff] at hx;omega
   |some x=>
    rw [hx] at this
    cases x with
    |true=>simp at this
    |false=>
     refine h.2 _ hx ⟨S,?_,h2⟩
     rw [show (((goF p (z:Int) s).toNat:Nat):Int)=goF p (z:Int) s by omega]
     exact h5
 ·rw [List.getElem?_set_ne (Ne.symm e)] at hz
  exact h.2 z hz
theorem GS.row (h:GS p L m) (hc:CS p L m):m=rowS p L:=by
 unfold rowS
 refine List.ext_getElem? fun q=>?_
 by_cases hq:q < p.N.toNat
 ·have hlen:=h.1
  rw [List.getElem?_map,List.getElem?_range hq,Option.map_some]
  cases hx:m[q]? with
  |none=>rw [List.getElem?_eq_none_iff] at hx;omega
  |some x=>
   congr 1
   symm
   apply aEU
   constructor
   ·rintro rfl
    refine ⟨fun z=>0<=z/\m[z.toNat]?=some true,⟨by omega,by simpa using hx⟩,fun z hz=>?_⟩
    rcases hc z.toNat hz.2 with h1|h1
    ·exact .inl h1
    ·right
     rw [show ((z.toNat:Nat):Int)=z by omega] at h1
     unfold stB at h1
     rw [List.any_eq_true] at h1
     obtain ⟨s,hs,h2⟩:=h1
     simp only [Bool.and_eq_true,decide_eq_true_eq] at h2
     refine ⟨s,hs,h2.1,h2.1,?_⟩
     have h3:=h2.2
     rw [List.getD_eq_getElem?_getD] at h3
     cases hy:m[(goF p z s).toNat]? with
     |none=>rw [hy] at h3;cases h3
     |some y=>rw [hy] at h3;simp at h3;rw [h3]
   ·intro hs
    cases x with
    |true=>rfl
    |false=>exact absurd hs (h.2 q hx)
 ·rw [List.getElem?_eq_none (by have:=h.1;omega),List.getElem?_eq_none (by simp;omega)]
end
end Gv
namespace Gv
open Go
def tx (t:cB):List aY:=t.E.map (txt t)
structure One (t:cB):Prop where
 ok:cN t
 single:Single t
 one:t.N=1
theorem One.edge {t:cB} (h:One t) {e:Edge} (he:e∈t.E):e.F=0/\e.To=0/\e.B≠0/\ix t.L e.B=some (txt t e)/\txt t e∈tx t:=by
 have hi:=aCC h.ok he
 have h1:=h.one
 obtain ⟨k,hk,rfl⟩:=List.mem_iff_getElem.1 he
 refine ⟨by have:=hi.1;omega,by have:=hi.2.1;omega,(h.single k hk).1,aHO hi,List.mem_map_of_mem he⟩
theorem One.len {t:cB} (h:One t):t.E.length<=300:=h.ok.2.2.2.1
theorem at0 {x y:Int} (h:-9223372036854775808<=y) (h':y<=9223372036854775807):wr (wr (0 * x)+y)=y:=by
 rw [Int.zero_mul,dP (x:=0) (by omega) (by omega),Int.zero_add,dP h h']
end Gv
namespace Gv
open Go
theorem aJG (b:Bool) (n:Nat) (h1:1<=n) (h:n<=100000):fQ [b] (n:Int)=some (List.replicate n b):=by
 unfold fQ
 rw [if_neg (by simp)]
 unfold iH
 have hm:l_Mul (gG (([b]:List Bool).length:Int)) (gG (n:Int))=some (0,(n:Int)):=by
  have e1:gG (([b]:List Bool).length:Int)=1:=by simp [gG]
  have e2:gG (n:Int)=(n:Int):=by unfold gG;omega
  rw [e1,e2];unfold l_Mul
  rw [if_pos ⟨by omega,by omega,by omega,by omega⟩]
  simp only [Int.one_mul,Option.some.injEq,Prod.mk.injEq]
  omega
 rw [hm,aA]
 simp only
 rw [if_neg (by simp),decide_eq_false (p:=(9223372036854775807:Int) < (n:Int)) (by omega)]
 unfold fX
 rw [if_neg (by simp)]
 unfold iG
 simp only
 rw [dP (by omega) (by omega),mkz_of _ (by simp [kP];omega),aA]
 have hmin:Nat.min ([b]:List Bool).length (List.replicate n false).length=1:=by
  show min _ _=1
  simp;omega
 rw [hmin]
 have ho:ovw (List.replicate n false) 0 (([b]:List Bool).take 1)=some (b::List.replicate (n - 1) false):=by
  unfold ovw
  rw [if_pos ⟨by omega,by simp;omega⟩]
  simp
 rw [ho,aA]
 have hL:=oV (step:=fun s:List Bool × Int=>iF s.1 s.2) (fun s=>1<=s.2/\s.2<=n/\s.1.length=n/\s.1.take s.2.toNat=List.replicate s.2.toNat b) (fun s=>(n - s.2).toNat) (fun r=>r=List.replicate n b) (fun s hI=>?_) (s:=(b::List.replicate (n - 1) false,1)) ⟨by simp,by simp only;omega,by simp;omega,by simp⟩
 ·obtain ⟨r,hr,hR⟩:=hL
  rw [show (((1:Nat):Int))=1 from rfl,hr,aA,hR];rfl
 ·obtain ⟨m,i⟩:=s
  obtain ⟨h1,h2,h3,h4⟩:=hI
  simp only at h1 h2 h3 h4 ⊢
  obtain ⟨k,rfl⟩:∃ k:Nat,i=(k:Int):=⟨i.toNat,by omega⟩
  rw [Int.toNat_natCast] at h4
  unfold iF
  by_cases hk:k < n
  ·left
   have s1:slc m (k:Int) (m.length:Int)=some (m.drop k):=by
    unfold slc;rw [if_pos ⟨by omega,by omega,by omega⟩]
    rw [Int.toNat_natCast,Int.toNat_natCast,List.take_of_length_le (by simp)]
   have s2:slc m 0 (k:Int)=some (m.take k):=by
    unfold slc;rw [if_pos ⟨by omega,by omega,by omega⟩];simp
   rw [h3] at s1 ⊢
   rw [if_pos (dJ hk),s1,aA,s2,aA,h4]
   have hl:(m.drop k).length=n - k:=by simp [h3]
   rw [hl,List.length_replicate]
   generalize hd:Nat.min k (n - k)=d
   have hd1:d<=k/\d<=n - k/\1<=d:=by
    have:Nat.min k (n - k)=min k (n - k):=rfl
    omega
   have hov:ovw m (k:Int) ((List.replicate k b).take d)=some (List.replicate (k+d) b++m.drop (k+d)):=by
    unfold ovw
    have hl2:((List.replicate k b).take d).length=d:=by simp;omega
    rw [if_pos ⟨by omega,by rw [hl2,Int.toNat_natCast];omega⟩,hl2,Int.toNat_natCast,h4,List.take_replicate]
    rw [show min d k=d by omega,List.replicate_append_replicate]
   rw [hov,aA]
   have hw:wr ((k:Int)+((d:Nat):Int))=((k+d:Nat):Int):=by rw [dP (by omega) (by omega)];omega
   rw [hw]
   refine ⟨_,rfl,⟨by simp only;omega,by simp only;omega,by simp [h3];omega,?_⟩,by simp only;omega⟩
   simp only [Int.toNat_natCast]
   rw [List.take_append_of_le_length (by simp),List.take_of_length_le (by simp)]
  ·right
   obtain rfl:k=n:=by omega
   rw [h3,if_neg (by simp)]
   rw [List.take_of_length_le (by omega)] at h4
   exact ⟨_,rfl,h4⟩
end Gv
