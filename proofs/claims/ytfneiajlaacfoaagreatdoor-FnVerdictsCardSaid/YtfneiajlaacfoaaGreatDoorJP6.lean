/- Validity of transition systems, on both sides. -/
import Derived.Test.YtfneiajlaacfoaaGreatDoorJP1
set_option linter.all false
namespace Gv
open Go
def xL (xs:List aF):Prop:=1<=xs.length/\xs.length<=12/\(∀ h:0 < xs.length,xs[0]=dR)/\∀ k,1<=k->(hk:k < xs.length)->oU xs[k]=true/\xs[k]≠dR/\(2<=k->yD (xs[k - 1]'(by omega)) xs[k]=true)
theorem aKI:oU dR=true:=by decide
theorem aMC (xs:List aF) (h2:∀ s∈xs,s.length < 1000000000):aBz xs=some (cl (xL xs)):=by
 unfold aBz
 by_cases h0:xs.length=0
 ·rw [if_pos (by simp [h0]),xS (P:=xL xs) (fun h=>by have:=h.1;omega)];rfl
 rw [if_neg (by simpa using h0)]
 by_cases h12:12 < xs.length
 ·rw [if_pos (by simp;omega),xS (P:=xL xs) (fun h=>by have:=h.2.1;omega)];rfl
 rw [if_neg (by simp;omega),show (0:Int)=((0:Nat):Int) from rfl,bT (xs:=xs) (k:=0) (by omega),aA,show ([116,97,117]:aF)=dR from rfl]
 unfold rJ
 by_cases ht:xs[0]'(by omega)=dR
 ·rw [if_neg (by simp [ht])]
  have:=aFz (step:=fun s=>uM xs s) xs.length 1 (fun k=>∀ hk:k < xs.length,1<=k->oU xs[k]=true/\xs[k]≠dR/\(2<=k->yD (xs[k - 1]'(by omega)) xs[k]=true)) (.inr false) (.inl ()) (by omega) (fun k h0 hk=>?_) (by simp only [uM,jR];rfl)
  ·rw [show (1:Int)=((1:Nat):Int) from rfl,this,aA]
   by_cases hs:∀ k,1<=k->k < xs.length->∀ hk:k < xs.length,1<=k->oU xs[k]=true/\xs[k]≠dR/\(2<=k->yD (xs[k - 1]'(by omega)) xs[k]=true)
   ·rw [if_pos (aFN hs),aFN (P:=xL xs) ⟨by omega,by omega,fun _=>ht,fun k h1 hk=>hs k h1 hk hk h1⟩];rfl
   ·rw [if_neg (by rw [aGp];exact hs),xS (P:=xL xs) (fun h=>hs fun k h1 hk _ _=>h.2.2.2 k h1 hk)]
  ·simp only [uM,bZ hk,if_pos,bT hk,aA,aIg _ (h2 _ (List.getElem_mem hk)),rI,bN hk (show xs.length < 4611686018427387904 by omega)]
   rw [show ([116,97,117]:aF)=dR from rfl]
   by_cases hl:oU xs[k]=true
   ·rw [hl]
    by_cases htk:xs[k]=dR
    ·have:(xs[k] == dR)=true:=by simp [htk]
     rw [this,xS (fun h=>(h hk h0).2.1 htk)];rfl
    ·have:(xs[k] == dR)=false:=by simp [htk]
     rw [this]
     by_cases hk2:2<=k
     ·have hk1:wr ((k:Int) - 1)=((k - 1:Nat):Int):=by rw [bP (by omega) (by omega)];omega
      rw [decide_eq_true (p:=(1:Int) < (k:Int)) (by omega),hk1,bT (xs:=xs) (k:=k - 1) (by omega)]
      rw [aJA (b:=yD (xs[k - 1]'(by omega)) xs[k]) ⟨fun h _ _=>⟨hl,htk,fun _=>h⟩,fun h=>(h hk h0).2.2 hk2⟩]
      simp only [Bool.not_true,Bool.false_eq_true,if_false,if_pos,aA]
      cases yD (xs[k - 1]'(by omega)) xs[k]<;>rfl
     ·rw [decide_eq_false (p:=(1:Int) < (k:Int)) (by omega),aFN (fun _ _=>⟨hl,htk,fun h=>absurd h hk2⟩)];rfl
   ·rw [xS (fun h=>hl (h hk h0).1)]
    rw [Bool.not_eq_true] at hl
    rw [hl];rfl
 ·rw [if_pos (by simp [ht]),xS (P:=xL xs) (fun h=>ht (h.2.2.1 (by omega)))]
def aAq (t:cR) (e:Edge):Prop:=(0<=e.F/\e.F<=t.N - 1)/\(0<=e.To/\e.To<=t.N - 1)/\0<=e.B/\e.B<=(t.L.length:Int) - 1
def EdgesOk (t:cR):Prop:=t.E.length<=300/\∀ k,(hk:k < t.E.length)->aAq t t.E[k]/\(1<=k->cU (t.E[k - 1]'(by omega)) t.E[k]=true)
def cS (t:cR):Prop:=(1<=t.N/\t.N<=40)/\(0<=t.I/\t.I<=t.N - 1)/\xL t.L/\EdgesOk t
theorem aJB (a b:Edge):aDk a b=some (cU a b):=by
 obtain ⟨a1,a2,a3⟩:=a;obtain ⟨b1,b2,b3⟩:=b
 simp only [aDk,cU]
 by_cases h1:a1=b1<;>by_cases h2:a2=b2<;>simp [h1,h2]
theorem lL (n a b:Int):(decide (a<=n)&&decide (n<=b))=true<->a<=n/\n<=b:=by simp
theorem tE {n a b:Int} (h:¬ (a<=n/\n<=b)):(decide (a<=n)&&decide (n<=b))=false:=by
 cases hx:(decide (a<=n)&&decide (n<=b)) with
 |false=>rfl
 |true=>exact absurd ((lL _ _ _).1 hx) h
theorem aMD (t:cR) (hf:iO 999999999 t):aCq t=some (cl (cS t)):=by
 obtain ⟨f1,f2,f3⟩:=hf
 unfold aCq
 rw [aDD,aA]
 by_cases na:¬ (1<=t.N/\t.N<=40)
 ·rw [tE na,Bool.not_false,if_pos rfl,xS (P:=cS t) (fun h=>na h.1)];rfl
 have a1:1<=t.N/\t.N<=40:=Classical.not_not.1 na
 have w1:wr (t.N - 1)=t.N - 1:=bP (by omega) (by omega)
 rw [if_neg (by rw [←lL] at a1;simp [a1]),w1,aDD,aA]
 by_cases na:¬ (0<=t.I/\t.I<=t.N - 1)
 ·rw [tE na,Bool.not_false,if_pos rfl,xS (P:=cS t) (fun h=>na h.2.1)];rfl
 have a2:0<=t.I/\t.I<=t.N - 1:=Classical.not_not.1 na
 rw [if_neg (by rw [←lL] at a2;simp [a2]),aMC _ (fun s hs=>by have:=f2 s hs;omega),aA]
 by_cases na:¬ xL t.L
 ·rw [if_pos (by rw [xS na];rfl),xS (P:=cS t) (fun h=>na h.2.2.1)];rfl
 have a3:xL t.L:=Classical.not_not.1 na
 rw [if_neg (by rw [aFN a3];simp)]
 unfold vI
 by_cases h300:300 < t.E.length
 ·rw [if_pos (by simp;omega),xS (P:=cS t) (fun h=>by have:=h.2.2.2.1;omega)]
 rw [if_neg (by simp;omega)]
 have:=aFz (step:=fun s=>aBA t s) t.E.length 0 (fun k=>∀ hk:k < t.E.length,aAq t t.E[k]/\(1<=k->cU (t.E[k - 1]'(by omega)) t.E[k]=true)) (.inr false) (.inl ()) (Nat.zero_le _) (fun k h0 hk=>?_) (by simp only [aBA,jR];rfl)
 ·rw [show (0:Int)=((0:Nat):Int) from rfl,this,aA]
  by_cases hs:∀ k,0<=k->k < t.E.length->∀ hk:k < t.E.length,aAq t t.E[k]/\(1<=k->cU (t.E[k - 1]'(by omega)) t.E[k]=true)
  ·rw [if_pos (aFN hs),aFN (P:=cS t) ⟨a1,a2,a3,by omega,fun k hk=>hs k (by omega) hk hk⟩];rfl
  ·rw [if_neg (by rw [aGp];exact hs),xS (P:=cS t) (fun h=>hs fun k _ hk _=>h.2.2.2.2 k hk)]
 ·have wl:wr ((t.L.length:Int) - 1)=(t.L.length:Int) - 1:=bP (by omega) (by omega)
  simp only [aBA,bZ hk,if_pos,bT hk,aA,aDD,w1,wl,yH,aDR,aJB,bN hk (show t.E.length < 4611686018427387904 by omega)]
  generalize he:t.E[k]=e
  by_cases n1:¬ (0<=e.F/\e.F<=t.N - 1)
  ·have:(decide (0<=e.F)&&decide (e.F<=t.N - 1))=false:=tE n1
   rw [this,xS (fun h=>by have:=(h hk).1.1;rw [he] at this;exact n1 this)];rfl
  rw [(lL _ _ _).2 (Classical.not_not.1 n1)]
  by_cases n2:¬ (0<=e.To/\e.To<=t.N - 1)
  ·have:(decide (0<=e.To)&&decide (e.To<=t.N - 1))=false:=tE n2
   rw [this,xS (fun h=>by have:=(h hk).1.2.1;rw [he] at this;exact n2 this)];rfl
  rw [(lL _ _ _).2 (Classical.not_not.1 n2)]
  by_cases n3:¬ (0<=e.B/\e.B<=(t.L.length:Int) - 1)
  ·have:(decide (0<=e.B)&&decide (e.B<=(t.L.length:Int) - 1))=false:=tE n3
   rw [this,xS (fun h=>by have:=(h hk).1.2.2;rw [he] at this;exact n3 this)];rfl
  rw [(lL _ _ _).2 (Classical.not_not.1 n3)]
  have hin:aAq t t.E[k]:=by rw [he];exact ⟨Classical.not_not.1 n1,Classical.not_not.1 n2,Classical.not_not.1 n3⟩
  by_cases h1:1<=k
  ·have hk1:wr ((k:Int) - 1)=((k - 1:Nat):Int):=by rw [bP (by omega) (by omega)];omega
   rw [decide_eq_true (p:=(0:Int) < (k:Int)) (by omega),hk1,bT (xs:=t.E) (k:=k - 1) (by omega)]
   rw [aJA (b:=cU (t.E[k - 1]'(by omega)) e) ⟨fun h _=>⟨hin,fun _=>by rw [he];exact h⟩,fun h=>by have:=(h hk).2 h1;rw [he] at this;exact this⟩]
   simp only [Bool.not_true,Bool.false_eq_true,if_false,if_pos,aA]
   cases cU (t.E[k - 1]'(by omega)) e<;>rfl
  ·rw [decide_eq_false (p:=(0:Int) < (k:Int)) (by omega),aFN (fun _=>⟨hin,fun h=>absurd h h1⟩)]
   simp only [Bool.not_true,Bool.false_eq_true,if_false];rfl
def icmp (a b:Int):Int:=if a < b then -1 else if b < a then 1 else 0
theorem aGq (a b:Int):dL a b=some (icmp a b):=by
 unfold dL mR icmp
 by_cases h1:a < b<;>by_cases h2:b < a<;>simp [h1,h2]
def or3 (a b c:Int):Int:=if a≠0 then a else if b≠0 then b else c
theorem Or_eq (a b c:Int):uO [a,b,c]=some (or3 a b c):=by
 unfold uO or3
 have s0:iJ [a,b,c] 0=if a≠0 then some (.inr (.inr a)) else some (.inl 1):=by
  simp only [iJ,show ix [a,b,c] 0=some a from rfl,aA]
  by_cases h:a=0<;>simp [h]<;>rfl
 have s1:iJ [a,b,c] 1=if b≠0 then some (.inr (.inr b)) else some (.inl 2):=by
  simp only [iJ,show ix [a,b,c] 1=some b from rfl,aA]
  by_cases h:b=0<;>simp [h]<;>rfl
 have s2:iJ [a,b,c] 2=if c≠0 then some (.inr (.inr c)) else some (.inl 3):=by
  simp only [iJ,show ix [a,b,c] 2=some c from rfl,aA]
  by_cases h:c=0<;>simp [h]<;>rfl
 have s3:iJ [a,b,c] 3=some (.inr (.inl ())):=rfl
 by_cases h1:a=0
 ·by_cases h2:b=0
  ·by_cases h3:c=0
   ·rw [cF,s0,if_neg (by simp [h1])];simp only
    rw [cF,s1,if_neg (by simp [h2])];simp only
    rw [cF,s2,if_neg (by simp [h3])];simp only
    rw [cF,s3]
    simp [h1,h2,h3,yJ]
   ·rw [cF,s0,if_neg (by simp [h1])];simp only
    rw [cF,s1,if_neg (by simp [h2])];simp only
    rw [cF,s2,if_pos (by simp [h3])]
    simp [h1,h2]
  ·rw [cF,s0,if_neg (by simp [h1])];simp only
   rw [cF,s1,if_pos h2]
   simp [h1,h2]
 ·rw [cF,s0,if_pos h1]
  simp [h1]
theorem aIv (a b:Edge):sS a b=some (or3 (icmp a.F b.F) (icmp a.B b.B) (icmp a.To b.To)):=by
 unfold sS
 rw [aGq,aA,aGq,aA,aGq,aA,Or_eq];rfl
theorem cmpE_ge (a b:Edge):decide (0<=or3 (icmp a.F b.F) (icmp a.B b.B) (icmp a.To b.To))=!cU a b:=by
 obtain ⟨a1,a2,a3⟩:=a;obtain ⟨b1,b2,b3⟩:=b
 simp only [cU,or3,icmp]
 rcases Int.lt_trichotomy a1 b1 with h1|h1|h1<;>rcases Int.lt_trichotomy a2 b2 with h2|h2|h2<;>rcases Int.lt_trichotomy a3 b3 with h3|h3|h3<;>
  simp [h1,h2,h3,Int.not_lt_of_ge,Int.le_of_lt,Int.ne_of_lt,Int.ne_of_gt]<;>omega
theorem aJC (t:cR) (k:Int) (h:-9223372036854775807<=t.N/\t.N<=9223372036854775807):rL t k=some (decide (0<=k)&&decide (k<=t.N - 1)):=by
 unfold rL
 rw [nK,bP (by omega) (by omega)];rfl
theorem aME (k:Int) (n:Nat) (h:n < 1000000000):aGV k (n:Int)=some (decide (0<=k)&&decide (k<=(n:Int) - 1)):=by
 unfold aGV
 rw [nK,bP (by omega) (by omega)];rfl
theorem aMF (t:cR) (hf:iO 999999999 t):aBB t=some (cl (cS t)):=by
 obtain ⟨f1,f2,f3⟩:=hf
 unfold aBB
 rw [nK,aA]
 by_cases na:¬ (1<=t.N/\t.N<=40)
 ·rw [tE na,Bool.not_false,if_pos rfl,xS (P:=cS t) (fun h=>na h.1)];rfl
 have a1:1<=t.N/\t.N<=40:=Classical.not_not.1 na
 have hst:-9223372036854775807<=t.N/\t.N<=9223372036854775807:=by omega
 rw [if_neg (by rw [←lL] at a1;simp [a1]),aJC t _ hst,aA]
 by_cases na:¬ (0<=t.I/\t.I<=t.N - 1)
 ·rw [tE na,Bool.not_false,if_pos rfl,xS (P:=cS t) (fun h=>na h.2.1)];rfl
 have a2:0<=t.I/\t.I<=t.N - 1:=Classical.not_not.1 na
 rw [if_neg (by rw [←lL] at a2;simp [a2]),nK,aA]
 by_cases na:¬ (1<=(t.L.length:Int)/\(t.L.length:Int)<=12)
 ·rw [tE na,Bool.not_false,if_pos rfl,xS (P:=cS t) (fun h=>by have h1:=h.2.2.1.1;have h2:=h.2.2.1.2.1;omega)];rfl
 have a3:1<=(t.L.length:Int)/\(t.L.length:Int)<=12:=Classical.not_not.1 na
 rw [if_neg (by rw [←lL] at a3;simp [a3])]
 unfold oM
 by_cases h300:300 < t.E.length
 ·rw [if_pos (by simp;omega),xS (P:=cS t) (fun h=>by have:=h.2.2.2.1;omega)]
 rw [if_neg (by simp;omega)]
 have hlabs:=aFz (step:=fun s=>uQ t s) t.L.length 0 (fun k=>∀ hk:k < t.L.length,oU t.L[k]=true/\(t.L[k]=dR<->k=0)/\(2<=k->yD (t.L[k - 1]'(by omega)) t.L[k]=true)) (.inr false) (.inl ()) (Nat.zero_le _) (fun k h0 hk=>?_) (by simp only [uQ,jR];rfl)
 ·rw [show (0:Int)=((0:Nat):Int) from rfl,hlabs,aA]
  by_cases hs:∀ k,0<=k->k < t.L.length->∀ hk:k < t.L.length,oU t.L[k]=true/\(t.L[k]=dR<->k=0)/\(2<=k->yD (t.L[k - 1]'(by omega)) t.L[k]=true)
  ·rw [if_pos (aFN hs)]
   have a4:xL t.L:=⟨by omega,by omega,fun h=>(hs 0 (by omega) h h).2.1.2 rfl,fun k h1 hk=>⟨(hs k (by omega) hk hk).1,fun e=>by have:=(hs k (by omega) hk hk).2.1.1 e;omega,(hs k (by omega) hk hk).2.2⟩⟩
   simp only
   unfold yV
   have:=aFz (step:=fun s=>uP t s) t.E.length 0 (fun k=>∀ hk:k < t.E.length,aAq t t.E[k]/\(1<=k->cU (t.E[k - 1]'(by omega)) t.E[k]=true)) (.inr false) (.inl ()) (Nat.zero_le _) (fun k h0 hk=>?_) (by simp only [uP,jR];rfl)
   ·rw [show (0:Int)=((0:Nat):Int) from rfl,this,aA]
    by_cases hs:∀ k,0<=k->k < t.E.length->∀ hk:k < t.E.length,aAq t t.E[k]/\(1<=k->cU (t.E[k - 1]'(by omega)) t.E[k]=true)
    ·rw [if_pos (aFN hs),aFN (P:=cS t) ⟨a1,a2,a4,by omega,fun k hk=>hs k (by omega) hk hk⟩];rfl
    ·rw [if_neg (by rw [aGp];exact hs),xS (P:=cS t) (fun h=>hs fun k _ hk _=>h.2.2.2.2 k hk)]
   ·simp only [uP,bZ hk,if_pos,bT hk,aA,aJC t _ hst,aME _ _ (show t.L.length < 1000000000 by omega),oL,aIv,cmpE_ge,bN hk (show t.E.length < 4611686018427387904 by omega)]
    generalize he:t.E[k]=e
    by_cases n1:¬ (0<=e.F/\e.F<=t.N - 1)
    ·have:(decide (0<=e.F)&&decide (e.F<=t.N - 1))=false:=tE n1
     rw [this,xS (fun h=>by have:=(h hk).1.1;rw [he] at this;exact n1 this)];rfl
    rw [(lL _ _ _).2 (Classical.not_not.1 n1)]
    by_cases n2:¬ (0<=e.To/\e.To<=t.N - 1)
    ·have:(decide (0<=e.To)&&decide (e.To<=t.N - 1))=false:=tE n2
     rw [this,xS (fun h=>by have:=(h hk).1.2.1;rw [he] at this;exact n2 this)];rfl
    rw [(lL _ _ _).2 (Classical.not_not.1 n2)]
    by_cases n3:¬ (0<=e.B/\e.B<=(t.L.length:Int) - 1)
    ·have:(decide (0<=e.B)&&decide (e.B<=(t.L.length:Int) - 1))=false:=tE n3
     rw [this,xS (fun h=>by have:=(h hk).1.2.2;rw [he] at this;exact n3 this)];rfl
    rw [(lL _ _ _).2 (Classical.not_not.1 n3)]
    have hin:aAq t t.E[k]:=by rw [he];exact ⟨Classical.not_not.1 n1,Classical.not_not.1 n2,Classical.not_not.1 n3⟩
    by_cases h1:1<=k
    ·have hk1:wr ((k:Int) - 1)=((k - 1:Nat):Int):=by rw [bP (by omega) (by omega)];omega
     rw [decide_eq_true (p:=(0:Int) < (k:Int)) (by omega),hk1,bT (xs:=t.E) (k:=k - 1) (by omega)]
     rw [aJA (b:=cU (t.E[k - 1]'(by omega)) e) ⟨fun h _=>⟨hin,fun _=>by rw [he];exact h⟩,fun h=>by have:=(h hk).2 h1;rw [he] at this;exact this⟩]
     simp only [Bool.not_true,Bool.false_eq_true,if_false,if_pos,aA]
     cases cU (t.E[k - 1]'(by omega)) e<;>rfl
    ·rw [decide_eq_false (p:=(0:Int) < (k:Int)) (by omega),aFN (fun _=>⟨hin,fun h=>absurd h h1⟩)]
     simp only [Bool.not_true,Bool.false_eq_true,if_false];rfl
  ·rw [if_neg (by rw [aGp];exact hs),xS (P:=cS t) (fun h=>hs fun k _ hk _=>?_)]
   obtain ⟨l1,l2,l3,l4⟩:=h.2.2.1
   by_cases hk0:k=0
   ·subst hk0
    exact ⟨by rw [l3 hk];exact aKI,⟨fun _=>rfl,fun _=>l3 hk⟩,fun h=>by omega⟩
   ·have:=l4 k (by omega) hk
    exact ⟨this.1,⟨fun e=>absurd e this.2.1,fun e=>absurd e hk0⟩,this.2.2⟩
 ·simp only [uQ,bZ hk,if_pos,bT hk,aA,aEb _ (show t.L[k].length < 1000000000 by have:=f2 _ (List.getElem_mem hk);omega),rM,bN hk (show t.L.length < 4611686018427387904 by omega),ltB_ge]
  rw [show ([116,97,117]:aF)=dR from rfl]
  by_cases hl:oU t.L[k]=true
  ·rw [hl]
   have e0:((k:Int) == 0)=decide (k=0):=by by_cases e:k=0<;>simp [e]
   by_cases htk:(t.L[k]=dR<->k=0)
   ·have:((t.L[k] == dR) != ((k:Int) == 0))=false:=by
     rw [e0]
     by_cases e:k=0
     ·have:=htk.2 e;rw [this];simp [e]
     ·have:¬ t.L[k]=dR:=fun h=>e (htk.1 h)
      simp [this,e]
    rw [this]
    by_cases hk2:2<=k
    ·have hk1:wr ((k:Int) - 1)=((k - 1:Nat):Int):=by rw [bP (by omega) (by omega)];omega
     rw [decide_eq_true (p:=(1:Int) < (k:Int)) (by omega),hk1,bT (xs:=t.L) (k:=k - 1) (by omega)]
     rw [aJA (b:=yD (t.L[k - 1]'(by omega)) t.L[k]) ⟨fun h _=>⟨hl,htk,fun _=>h⟩,fun h=>(h hk).2.2 hk2⟩]
     simp only [Bool.not_true,Bool.false_eq_true,if_false,if_pos,aA,ltB_ge]
     cases yD (t.L[k - 1]'(by omega)) t.L[k]<;>rfl
    ·rw [decide_eq_false (p:=(1:Int) < (k:Int)) (by omega),aFN (fun _=>⟨hl,htk,fun h=>absurd h hk2⟩)];rfl
   ·have:((t.L[k] == dR) != ((k:Int) == 0))=true:=by
     rw [e0]
     by_cases e:k=0
     ·have:¬ t.L[k]=dR:=fun h=>htk ⟨fun _=>e,fun _=>h⟩
      rw [beq_false_of_ne this];simp [e]
     ·have:t.L[k]=dR:=Classical.byContradiction fun h=>htk ⟨fun h'=>absurd h' h,fun h'=>absurd h' e⟩
      simp [this,e]
    rw [this,xS (fun h=>htk (h hk).2.1)];rfl
  ·rw [xS (fun h=>hl (h hk).1)]
   rw [Bool.not_eq_true] at hl
   rw [hl];rfl
def Single (t:cR):Prop:=∀ k,(hk:k < t.E.length)->t.E[k].B≠0/\(1<=k->¬ (t.E[k].F=(t.E[k - 1]'(by omega)).F/\t.E[k].B=(t.E[k - 1]'(by omega)).B))
end Gv
namespace Gv
open Go
theorem aNH {α:Type} {R:α->α->Prop} (tr:∀ {a b c},R a b->R b c->R a c) {xs:List α} (h:∀ k,1<=k->(hk:k < xs.length)->R (xs[k - 1]'(by omega)) xs[k]) {i j:Nat} (hij:i < j) (hj:j < xs.length):R (xs[i]'(by omega)) xs[j]:=by
 induction j with
 |zero=>omega
 |succ j ih=>
  have h1:=h (j+1) (by omega) hj
  simp only [Nat.add_sub_cancel] at h1
  by_cases e:i=j
  ·subst e;exact h1
  ·exact tr (ih (by omega) (by omega)) h1
def txt (t:cR) (e:Edge):aF:=t.L.getD e.B.toNat []
def flLt (a b:Edge):Prop:=a.F < b.F\/(a.F=b.F/\a.B < b.B)
theorem labs_lt {xs:List aF} (h:xL xs) {i j:Nat} (hi:1<=i) (hij:i < j) (hj:j < xs.length):yD (xs[i]'(by omega)) xs[j]=true:=by
 induction j with
 |zero=>omega
 |succ j ih=>
  have h1:=(h.2.2.2 (j+1) (by omega) hj).2.2 (by omega)
  simp only [Nat.add_sub_cancel] at h1
  by_cases e:i=j
  ·subst e;exact h1
  ·exact yP (ih (by omega) (by omega)) h1
theorem aHi {t:cR} (hv:cS t) {e:Edge} (he:e∈t.E):aAq t e:=by
 obtain ⟨k,hk,rfl⟩:=List.mem_iff_getElem.1 he
 exact (hv.2.2.2.2 k hk).1
theorem aMG {t:cR} {e:Edge} (he:aAq t e):ix t.L e.B=some (txt t e):=by
 obtain ⟨_,_,h1,h2⟩:=he
 rw [aFQ h1 (by omega)]
 unfold txt;rw [List.getD_eq_getElem?_getD,List.getElem?_eq_getElem (by omega)];rfl
def hit (t:cR) (q:Int) (s:aF) (e:Edge):Bool:=e.F == q&&txt t e == s
def goF (t:cR) (q:Int) (s:aF):Int:=match t.E.find? (hit t q s) with|some e=>e.To|none=>-1
theorem goF_lt {t:cR} (hv:cS t) (q:Int) (s:aF):-1<=goF t q s/\goF t q s<=t.N - 1:=by
 unfold goF
 cases hx:t.E.find? (hit t q s) with
 |none=>have:=hv.1;simp only;omega
 |some e=>have:=(aHi hv (List.mem_of_find?_eq_some hx)).2.1;simp only;omega
theorem aFn {β γ ρ:Type} {step:(List γ × Int)->Option ((List γ × Int) ⊕ ρ)} (xs:List β) (p:β->Bool) (f:β->γ) (e:List γ->ρ)
  (h:∀ (k:Nat) out x,k < xs.length->out.length<=k->ix xs (k:Int)=some x->step (out,(k:Int))=some (.inl (if p x=true then out++[f x] else out,((k+1:Nat):Int))))
  (h':∀ out,step (out,(xs.length:Int))=some (.inr (e out))):loop step ([],0)=some (e ((xs.filter p).map f)):=by
 have:=aDB (step:=step) xs (fun k out=>(out,(k:Int))) (fun l out=>e (out++(l.filter p).map f)) (fun k out=>out.length<=k) (fun k a x l hk hx hI=>?_) (fun a _=>by simp [h']) (a:=[]) (by simp)
 ·simpa using this
 ·left;rw [h k a x hk hI hx]
  by_cases hp:p x=true
  ·exact ⟨a++[f x],by rw [if_pos hp],by simp;omega,by simp [hp]⟩
  ·exact ⟨a,by rw [if_neg hp],by omega,by simp [hp]⟩
theorem out_eq (t:cR) (q:Int) (h:t.E.length < 1000000000):aDo t q=some (t.E.filter fun e=>e.F == q):=by
 unfold aDo
 rw [aFn (step:=fun s:List Edge × Int=>wU t q s.1 s.2) t.E (fun e=>e.F == q) id id (fun k out x hk ho hx=>?_) (fun out=>by simp only [wU,jR];rfl),aA]
 ·simp [aDT]
 ·simp only [wU,bZ hk,if_pos,hx,aA,wT,bN hk (show t.E.length < 4611686018427387904 by omega)]
  rw [cI (by simp [iC];omega),aA]
  cases x.F == q<;>rfl
end Gv
namespace Gv
open Go
theorem cV {σ ρ α:Type} {step:σ->Option (σ ⊕ ρ)} (n:Nat) (g:Nat->α->σ) (I:Nat->α->Prop) (R:ρ->Prop)
  (h:∀ k a,k < n->I k a->∃ a',step (g k a)=some (.inl (g (k+1) a'))/\I (k+1) a')
  (h':∀ a,I n a->∃ r,step (g n a)=some (.inr r)/\R r):∀ j k a,k+j=n->I k a->∃ r,loop step (g k a)=some r/\R r
 |0,k,a,e,hI=>by
  obtain rfl:k=n:=by omega
  obtain ⟨r,h1,h2⟩:=h' a hI
  exact ⟨r,by rw [cF,h1],h2⟩
 |j+1,k,a,e,hI=>by
  obtain ⟨a',h1,h2⟩:=h k a (by omega) hI
  rw [cF,h1]
  exact cV n g I R h h' j (k+1) a' (by omega) h2
structure Adv (b:Bool) (G:List Bool->Prop) (m0 m:List Bool) (ag:Bool):Prop where
 good:G m
 le:m.count b<=m0.count b
 lt:ag=true->m.count b < m0.count b
 eq:ag=false->m=m0
theorem Adv.refl {b:Bool} {G:List Bool->Prop} {m:List Bool} (h:G m):Adv b G m m false:=⟨h,Nat.le_refl _,fun h=>(by cases h),fun _=>rfl⟩
section
variable (p:cR) (L:List aF)
inductive Lv:Int->Prop
 |out {q:Int} {s:aF}:s∈L->goF p q s < 0->Lv q
 |go {q:Int} {s:aF}:s∈L->0<=goF p q s->Lv (goF p q s)->Lv q
def St (q:Int):Prop:=∃ S:Int->Prop,S q/\∀ z,S z->L=[]\/∃ s∈L,0<=goF p z s/\S (goF p z s)
noncomputable def rowL:List Bool:=(List.range p.N.toNat).map fun (q:Nat)=>cl (Lv p L (q:Int))
noncomputable def rowS:List Bool:=(List.range p.N.toNat).map fun (q:Nat)=>cl (St p L (q:Int))
def lvB (m:List Bool) (q:Int):Bool:=L.any fun s=>decide (goF p q s < 0)||m.getD (goF p q s).toNat false
def stB (m:List Bool) (q:Int):Bool:=L.any fun s=>decide (0<=goF p q s)&&m.getD (goF p q s).toNat false
def GL (m:List Bool):Prop:=m.length=p.N.toNat/\∀ q:Nat,m[q]?=some true->Lv p L (q:Int)
def CL (m:List Bool):Prop:=∀ q:Nat,m[q]?=some false->lvB p L m (q:Int)=false
def GS (m:List Bool):Prop:=m.length=p.N.toNat/\∀ q:Nat,m[q]?=some false->¬ St p L (q:Int)
def CS (m:List Bool):Prop:=∀ q:Nat,m[q]?=some true->L=[]\/stB p L m (q:Int)=true
end
section
variable {p:cR} {L:List aF} {m:List Bool}
theorem GL.row (hv:cS p) (h:GL p L m) (hc:CL p L m):m=rowL p L:=by
 have key:∀ z,Lv p L z->0<=z->z < p.N->m[z.toNat]?=some true:=by
  intro z hz
  induction hz with
  |out hs hn=>
   rename_i q s
   intro h0 h1
   cases hx:m[q.toNat]? with
   |none=>rw [List.getElem?_eq_none_iff] at hx;have:=h.1;omega
   |some x=>
    cases x with
    |true=>rfl
    |false=>
     have:=hc q.toNat hx
     unfold lvB at this
     rw [List.any_eq_false] at this
     have:=this s hs
     rw [show ((q.toNat:Nat):Int)=q by omega,decide_eq_true hn] at this
     simp at this
  |go hs hn hg ih=>
   rename_i q s
   intro h0 h1
   have:=ih hn (by have:=(goF_lt hv q s).2;omega)
   cases hx:m[q.toNat]? with
   |none=>rw [List.getElem?_eq_none_iff] at hx;have:=h.1;omega
   |some x=>
    cases x with
    |true=>rfl
    |false=>
     have hf:=hc q.toNat hx
     unfold lvB at hf
     rw [List.any_eq_false] at hf
     have hf:=hf s hs
     rw [show ((q.toNat:Nat):Int)=q by omega,List.getD_eq_getElem?_getD,this] at hf
     simp at hf
 unfold rowL
 refine List.ext_getElem? fun q=>?_
 by_cases hq:q < p.N.toNat
 ·have hlen:=h.1
  rw [List.getElem?_map,List.getElem?_range hq,Option.map_some]
  cases hx:m[q]? with
  |none=>rw [List.getElem?_eq_none_iff] at hx;omega
  |some x=>
   congr 1
   symm
   apply aJA
   refine ⟨fun e=>h.2 q (by rw [hx,e]),fun e=>?_⟩
   have:=key (q:Int) e (by omega) (by omega)
   simp only [Int.toNat_natCast] at this
   rw [hx] at this;simpa using this
 ·rw [List.getElem?_eq_none (by have:=h.1;omega),List.getElem?_eq_none (by simp;omega)]
theorem GS.row (h:GS p L m) (hc:CS p L m):m=rowS p L:=by
 unfold rowS
 refine List.ext_getElem? fun q=>?_
 by_cases hq:q < p.N.toNat
 ·have hlen:=h.1
  rw [List.getElem?_map,List.getElem?_range hq,Option.map_some]
  cases hx:m[q]? with
  |none=>rw [List.getElem?_eq_none_iff] at hx;omega
  |some x=>
   congr 1
   symm
   apply aJA
   constructor
   ·rintro rfl
    refine ⟨fun z=>0<=z/\m[z.toNat]?=some true,⟨by omega,by simpa using hx⟩,fun z hz=>?_⟩
    rcases hc z.toNat hz.2 with h1|h1
    ·exact .inl h1
    ·right
     rw [show ((z.toNat:Nat):Int)=z by omega] at h1
     unfold stB at h1
     rw [List.any_eq_true] at h1
     obtain ⟨s,hs,h2⟩:=h1
     simp only [Bool.and_eq_true,decide_eq_true_eq] at h2
     refine ⟨s,hs,h2.1,h2.1,?_⟩
     have h3:=h2.2
     rw [List.getD_eq_getElem?_getD] at h3
     cases hy:m[(goF p z s).toNat]? with
     |none=>rw [hy] at h3;cases h3
     |some y=>rw [hy] at h3;simp at h3;rw [h3]
   ·intro hs
    cases x with
    |true=>rfl
    |false=>exact absurd hs (h.2 q hx)
 ·rw [List.getElem?_eq_none (by have:=h.1;omega),List.getElem?_eq_none (by simp;omega)]
end
end Gv
namespace Gv
open Go
structure One (t:cR):Prop where
 ok:cS t
 single:Single t
 one:t.N=1
theorem One.len {t:cR} (h:One t):t.E.length<=300:=h.ok.2.2.2.1
theorem ix_getD {m:List Bool} {q:Int} (h0:0<=q) (h:q.toNat < m.length):ix m q=some (m.getD q.toNat false):=by
 rw [aFQ h0 h,List.getD_eq_getElem?_getD,List.getElem?_eq_getElem h];rfl
end Gv
namespace Gv
open Go
theorem Repeat_eq (b:Bool) (n:Nat) (h1:1<=n) (h:n<=100000):fF [b] (n:Int)=some (List.replicate n b):=by
 unfold fF
 rw [if_neg (by simp)]
 unfold fV
 have hm:l_Mul (rS (([b]:List Bool).length:Int)) (rS (n:Int))=some (0,(n:Int)):=by
  have e1:rS (([b]:List Bool).length:Int)=1:=by simp [rS]
  have e2:rS (n:Int)=(n:Int):=by unfold rS;omega
  rw [e1,e2];unfold l_Mul
  rw [if_pos ⟨by omega,by omega,by omega,by omega⟩]
  simp only [Int.one_mul,Option.some.injEq,Prod.mk.injEq]
  omega
 rw [hm,aA]
 simp only
 rw [if_neg (by simp),decide_eq_false (p:=(9223372036854775807:Int) < (n:Int)) (by omega)]
 unfold eM
 rw [if_neg (by simp)]
 unfold fU
 simp only
 rw [bP (by omega) (by omega),aAp _ (by simp [iC];omega),aA]
 have hmin:Nat.min ([b]:List Bool).length (List.replicate n false).length=1:=by
  show min _ _=1
  simp;omega
 rw [hmin]
 have ho:ovw (List.replicate n false) 0 (([b]:List Bool).take 1)=some (b::List.replicate (n - 1) false):=by
  unfold ovw
  rw [if_pos ⟨by omega,by simp;omega⟩]
  simp
 rw [ho,aA]
 have hL:=mM (step:=fun s:List Bool × Int=>fT s.1 s.2) (fun s=>1<=s.2/\s.2<=n/\s.1.length=n/\s.1.take s.2.toNat=List.replicate s.2.toNat b) (fun s=>(n - s.2).toNat) (fun r=>r=List.replicate n b) (fun s hI=>?_) (s:=(b::List.replicate (n - 1) false,1)) ⟨by simp,by simp only;omega,by simp;omega,by simp⟩
 ·obtain ⟨r,hr,hR⟩:=hL
  rw [show (((1:Nat):Int))=1 from rfl,hr,aA,hR];rfl
 ·obtain ⟨m,i⟩:=s
  obtain ⟨h1,h2,h3,h4⟩:=hI
  simp only at h1 h2 h3 h4 ⊢
  obtain ⟨k,rfl⟩:∃ k:Nat,i=(k:Int):=⟨i.toNat,by omega⟩
  rw [Int.toNat_natCast] at h4
  unfold fT
  by_cases hk:k < n
  ·left
   have s1:slc m (k:Int) (m.length:Int)=some (m.drop k):=by
    unfold slc;rw [if_pos ⟨by omega,by omega,by omega⟩]
    rw [Int.toNat_natCast,Int.toNat_natCast,List.take_of_length_le (by simp)]
   have s2:slc m 0 (k:Int)=some (m.take k):=by
    unfold slc;rw [if_pos ⟨by omega,by omega,by omega⟩];simp
   rw [h3] at s1 ⊢
   rw [if_pos (bZ hk),s1,aA,s2,aA,h4]
   have hl:(m.drop k).length=n - k:=by simp [h3]
   rw [hl,List.length_replicate]
   generalize hd:Nat.min k (n - k)=d
   have hd1:d<=k/\d<=n - k/\1<=d:=by
    have:Nat.min k (n - k)=min k (n - k):=rfl
    omega
   have hov:ovw m (k:Int) ((List.replicate k b).take d)=some (List.replicate (k+d) b++m.drop (k+d)):=by
    unfold ovw
    have hl2:((List.replicate k b).take d).length=d:=by simp;omega
    rw [if_pos ⟨by omega,by rw [hl2,Int.toNat_natCast];omega⟩,hl2,Int.toNat_natCast,h4,List.take_replicate]
    rw [show min d k=d by omega,List.replicate_append_replicate]
   rw [hov,aA]
   have hw:wr ((k:Int)+((d:Nat):Int))=((k+d:Nat):Int):=by rw [bP (by omega) (by omega)];omega
   rw [hw]
   refine ⟨_,rfl,⟨by simp only;omega,by simp only;omega,by simp [h3];omega,?_⟩,by simp only;omega⟩
   simp only [Int.toNat_natCast]
   rw [List.take_append_of_le_length (by simp),List.take_of_length_le (by simp)]
  ·right
   obtain rfl:k=n:=by omega
   rw [h3,if_neg (by simp)]
   rw [List.take_of_length_le (by omega)] at h4
   exact ⟨_,rfl,h4⟩
end Gv
