/- Validity of transition systems, on both sides. -/
import Derived.Test.YtingjpdikgpflaaGreatDoorJP1
set_option linter.all false
namespace Gv
open Go
def aIi (xs:List aZ):Prop:=1<=xs.length/\xs.length<=12/\(∀ h:0 < xs.length,xs[0]=nI)/\∀ k,1<=k->(hk:k < xs.length)->aJo xs[k]=true/\xs[k]≠nI/\(2<=k->qJ (xs[k - 1]'(by omega)) xs[k]=true)
theorem isLab_tau:aJo nI=true:=by decide
theorem aOC (xs:List aZ) (h2:∀ s∈xs,s.length < 1000000000):aEf xs=some (cl (aIi xs)):=by
 unfold aEf
 by_cases h0:xs.length=0
 ·rw [if_pos (by simp [h0]),aJP (P:=aIi xs) (fun h=>by have:=h.1;omega)];rfl
 rw [if_neg (by simpa using h0)]
 by_cases h12:12 < xs.length
 ·rw [if_pos (by simp;omega),aJP (P:=aIi xs) (fun h=>by have:=h.2.1;omega)];rfl
 rw [if_neg (by simp;omega),show (0:Int)=((0:Nat):Int) from rfl,aAM (xs:=xs) (k:=0) (by omega),lJ,show ([116,97,117]:aZ)=nI from rfl]
 unfold pB
 by_cases ht:xs[0]'(by omega)=nI
 ·rw [if_neg (by simp [ht])]
  have:=aKZ (step:=fun s=>aDE xs s) xs.length 1 (fun k=>∀ hk:k < xs.length,1<=k->aJo xs[k]=true/\xs[k]≠nI/\(2<=k->qJ (xs[k - 1]'(by omega)) xs[k]=true)) (.inr false) (.inl ()) (by omega) (fun k h0 hk=>?_) (by simp only [aDE,aGf];rfl)
  ·rw [show (1:Int)=((1:Nat):Int) from rfl,this,lJ]
   by_cases hs:∀ k,1<=k->k < xs.length->∀ hk:k < xs.length,1<=k->aJo xs[k]=true/\xs[k]≠nI/\(2<=k->qJ (xs[k - 1]'(by omega)) xs[k]=true)
   ·rw [if_pos (aKq hs),aKq (P:=aIi xs) ⟨by omega,by omega,fun _=>ht,fun k h1 hk=>hs k h1 hk hk h1⟩];rfl
   ·rw [if_neg (by rw [aLl];exact hs),aJP (P:=aIi xs) (fun h=>hs fun k h1 hk _ _=>h.2.2.2 k h1 hk)]
  ·simp only [aDE,aBK hk,if_pos,aAM hk,lJ,aOB _ (h2 _ (List.getElem_mem hk)),mM,aAg hk (show xs.length < 4611686018427387904 by omega)]
   rw [show ([116,97,117]:aZ)=nI from rfl]
   by_cases hl:aJo xs[k]=true
   ·rw [hl]
    by_cases htk:xs[k]=nI
    ·have:(xs[k] == nI)=true:=by simp [htk]
     rw [this,aJP (fun h=>(h hk h0).2.1 htk)];rfl
    ·have:(xs[k] == nI)=false:=by simp [htk]
     rw [this]
     by_cases hk2:2<=k
     ·have hk1:wr ((k:Int) - 1)=((k - 1:Nat):Int):=by rw [aHw (by omega) (by omega)];omega
      rw [decide_eq_true (p:=(1:Int) < (k:Int)) (by omega),hk1,aAM (xs:=xs) (k:=k - 1) (by omega)]
      rw [aLv (b:=qJ (xs[k - 1]'(by omega)) xs[k]) ⟨fun h _ _=>⟨hl,htk,fun _=>h⟩,fun h=>(h hk h0).2.2 hk2⟩]
      simp only [Bool.not_true,Bool.false_eq_true,if_false,if_pos,lJ]
      cases qJ (xs[k - 1]'(by omega)) xs[k]<;>rfl
     ·rw [decide_eq_false (p:=(1:Int) < (k:Int)) (by omega),aKq (fun _ _=>⟨hl,htk,fun h=>absurd h hk2⟩)];rfl
   ·rw [aJP (fun h=>hl (h hk h0).1)]
    rw [Bool.not_eq_true] at hl
    rw [hl];rfl
 ·rw [if_pos (by simp [ht]),aJP (P:=aIi xs) (fun h=>ht (h.2.2.1 (by omega)))]
def aIj (t:cI) (e:Edge):Prop:=(0<=e.F/\e.F<=t.N - 1)/\(0<=e.To/\e.To<=t.N - 1)/\0<=e.B/\e.B<=(t.L.length:Int) - 1
def EdgesOk (t:cI):Prop:=t.E.length<=300/\∀ k,(hk:k < t.E.length)->aIj t t.E[k]/\(1<=k->lE (t.E[k - 1]'(by omega)) t.E[k]=true)
def nB (t:cI):Prop:=(1<=t.N/\t.N<=40)/\(0<=t.I/\t.I<=t.N - 1)/\aIi t.L/\EdgesOk t
theorem aMB (a b:Edge):aCU a b=some (lE a b):=by
 obtain ⟨a1,a2,a3⟩:=a;obtain ⟨b1,b2,b3⟩:=b
 simp only [aCU,lE]
 by_cases h1:a1=b1<;>by_cases h2:a2=b2<;>simp [h1,h2]
theorem aJh (n a b:Int):(decide (a<=n)&&decide (n<=b))=true<->a<=n/\n<=b:=by simp
theorem aJw {n a b:Int} (h:¬ (a<=n/\n<=b)):(decide (a<=n)&&decide (n<=b))=false:=by
 cases hx:(decide (a<=n)&&decide (n<=b)) with
 |false=>rfl
 |true=>exact absurd ((aJh _ _ _).1 hx) h
theorem aOD (t:cI) (hf:aBo 999999999 t):aGA t=some (cl (nB t)):=by
 obtain ⟨f1,f2,f3⟩:=hf
 unfold aGA
 rw [aLu,lJ]
 by_cases na:¬ (1<=t.N/\t.N<=40)
 ·rw [aJw na,Bool.not_false,if_pos rfl,aJP (P:=nB t) (fun h=>na h.1)];rfl
 have a1:1<=t.N/\t.N<=40:=Classical.not_not.1 na
 have w1:wr (t.N - 1)=t.N - 1:=aHw (by omega) (by omega)
 rw [if_neg (by rw [←aJh] at a1;simp [a1]),w1,aLu,lJ]
 by_cases na:¬ (0<=t.I/\t.I<=t.N - 1)
 ·rw [aJw na,Bool.not_false,if_pos rfl,aJP (P:=nB t) (fun h=>na h.2.1)];rfl
 have a2:0<=t.I/\t.I<=t.N - 1:=Classical.not_not.1 na
 rw [if_neg (by rw [←aJh] at a2;simp [a2]),aOC _ (fun s hs=>by have:=f2 s hs;omega),lJ]
 by_cases na:¬ aIi t.L
 ·rw [if_pos (by rw [aJP na];rfl),aJP (P:=nB t) (fun h=>na h.2.2.1)];rfl
 have a3:aIi t.L:=Classical.not_not.1 na
 rw [if_neg (by rw [aKq a3];simp)]
 unfold tD
 by_cases h300:300 < t.E.length
 ·rw [if_pos (by simp;omega),aJP (P:=nB t) (fun h=>by have:=h.2.2.2.1;omega)]
 rw [if_neg (by simp;omega)]
 have:=aKZ (step:=fun s=>aGV t s) t.E.length 0 (fun k=>∀ hk:k < t.E.length,aIj t t.E[k]/\(1<=k->lE (t.E[k - 1]'(by omega)) t.E[k]=true)) (.inr false) (.inl ()) (Nat.zero_le _) (fun k h0 hk=>?_) (by simp only [aGV,aGf];rfl)
 ·rw [show (0:Int)=((0:Nat):Int) from rfl,this,lJ]
  by_cases hs:∀ k,0<=k->k < t.E.length->∀ hk:k < t.E.length,aIj t t.E[k]/\(1<=k->lE (t.E[k - 1]'(by omega)) t.E[k]=true)
  ·rw [if_pos (aKq hs),aKq (P:=nB t) ⟨a1,a2,a3,by omega,fun k hk=>hs k (by omega) hk hk⟩];rfl
  ·rw [if_neg (by rw [aLl];exact hs),aJP (P:=nB t) (fun h=>hs fun k _ hk _=>h.2.2.2.2 k hk)]
 ·have wl:wr ((t.L.length:Int) - 1)=(t.L.length:Int) - 1:=aHw (by omega) (by omega)
  simp only [aGV,aBK hk,if_pos,aAM hk,lJ,aLu,w1,wl,yC,aBh,aMB,aAg hk (show t.E.length < 4611686018427387904 by omega)]
  generalize he:t.E[k]=e
  by_cases n1:¬ (0<=e.F/\e.F<=t.N - 1)
  ·have:(decide (0<=e.F)&&decide (e.F<=t.N - 1))=false:=aJw n1
   rw [this,aJP (fun h=>by have:=(h hk).1.1;rw [he] at this;exact n1 this)];rfl
  rw [(aJh _ _ _).2 (Classical.not_not.1 n1)]
  by_cases n2:¬ (0<=e.To/\e.To<=t.N - 1)
  ·have:(decide (0<=e.To)&&decide (e.To<=t.N - 1))=false:=aJw n2
   rw [this,aJP (fun h=>by have:=(h hk).1.2.1;rw [he] at this;exact n2 this)];rfl
  rw [(aJh _ _ _).2 (Classical.not_not.1 n2)]
  by_cases n3:¬ (0<=e.B/\e.B<=(t.L.length:Int) - 1)
  ·have:(decide (0<=e.B)&&decide (e.B<=(t.L.length:Int) - 1))=false:=aJw n3
   rw [this,aJP (fun h=>by have:=(h hk).1.2.2;rw [he] at this;exact n3 this)];rfl
  rw [(aJh _ _ _).2 (Classical.not_not.1 n3)]
  have hin:aIj t t.E[k]:=by rw [he];exact ⟨Classical.not_not.1 n1,Classical.not_not.1 n2,Classical.not_not.1 n3⟩
  by_cases h1:1<=k
  ·have hk1:wr ((k:Int) - 1)=((k - 1:Nat):Int):=by rw [aHw (by omega) (by omega)];omega
   rw [decide_eq_true (p:=(0:Int) < (k:Int)) (by omega),hk1,aAM (xs:=t.E) (k:=k - 1) (by omega)]
   rw [aLv (b:=lE (t.E[k - 1]'(by omega)) e) ⟨fun h _=>⟨hin,fun _=>by rw [he];exact h⟩,fun h=>by have:=(h hk).2 h1;rw [he] at this;exact this⟩]
   simp only [Bool.not_true,Bool.false_eq_true,if_false,if_pos,lJ]
   cases lE (t.E[k - 1]'(by omega)) e<;>rfl
  ·rw [decide_eq_false (p:=(0:Int) < (k:Int)) (by omega),aKq (fun _=>⟨hin,fun h=>absurd h h1⟩)]
   simp only [Bool.not_true,Bool.false_eq_true,if_false];rfl
def aGw (a b:Int):Int:=if a < b then -1 else if b < a then 1 else 0
theorem aEl (a b:Int):gA a b=some (aGw a b):=by
 unfold gA kI aGw
 by_cases h1:a < b<;>by_cases h2:b < a<;>simp [h1,h2]
def or3 (a b c:Int):Int:=if a≠0 then a else if b≠0 then b else c
theorem Or_eq (a b c:Int):oZ [a,b,c]=some (or3 a b c):=by
 unfold oZ or3
 have s0:gE [a,b,c] 0=if a≠0 then some (.inr (.inr a)) else some (.inl 1):=by
  simp only [gE,show ix [a,b,c] 0=some a from rfl,lJ]
  by_cases h:a=0<;>simp [h]<;>rfl
 have s1:gE [a,b,c] 1=if b≠0 then some (.inr (.inr b)) else some (.inl 2):=by
  simp only [gE,show ix [a,b,c] 1=some b from rfl,lJ]
  by_cases h:b=0<;>simp [h]<;>rfl
 have s2:gE [a,b,c] 2=if c≠0 then some (.inr (.inr c)) else some (.inl 3):=by
  simp only [gE,show ix [a,b,c] 2=some c from rfl,lJ]
  by_cases h:c=0<;>simp [h]<;>rfl
 have s3:gE [a,b,c] 3=some (.inr (.inl ())):=rfl
 by_cases h1:a=0
 ·by_cases h2:b=0
  ·by_cases h3:c=0
   ·rw [eZ,s0,if_neg (by simp [h1])];simp only
    rw [eZ,s1,if_neg (by simp [h2])];simp only
    rw [eZ,s2,if_neg (by simp [h3])];simp only
    rw [eZ,s3]
    simp [h1,h2,h3,lK]
   ·rw [eZ,s0,if_neg (by simp [h1])];simp only
    rw [eZ,s1,if_neg (by simp [h2])];simp only
    rw [eZ,s2,if_pos (by simp [h3])]
    simp [h1,h2]
  ·rw [eZ,s0,if_neg (by simp [h1])];simp only
   rw [eZ,s1,if_pos h2]
   simp [h1,h2]
 ·rw [eZ,s0,if_pos h1]
  simp [h1]
theorem aGx (a b:Edge):nL a b=some (or3 (aGw a.F b.F) (aGw a.B b.B) (aGw a.To b.To)):=by
 unfold nL
 rw [aEl,lJ,aEl,lJ,aEl,lJ,Or_eq];rfl
theorem cmpE_ge (a b:Edge):decide (0<=or3 (aGw a.F b.F) (aGw a.B b.B) (aGw a.To b.To))=!lE a b:=by
 obtain ⟨a1,a2,a3⟩:=a;obtain ⟨b1,b2,b3⟩:=b
 simp only [lE,or3,aGw]
 rcases Int.lt_trichotomy a1 b1 with h1|h1|h1<;>rcases Int.lt_trichotomy a2 b2 with h2|h2|h2<;>rcases Int.lt_trichotomy a3 b3 with h3|h3|h3<;>
  simp [h1,h2,h3,Int.not_lt_of_ge,Int.le_of_lt,Int.ne_of_lt,Int.ne_of_gt]<;>omega
theorem aMC (t:cI) (k:Int) (h:-9223372036854775807<=t.N/\t.N<=9223372036854775807):oY t k=some (decide (0<=k)&&decide (k<=t.N - 1)):=by
 unfold oY
 rw [aKz,aHw (by omega) (by omega)];rfl
theorem index_eq (k:Int) (n:Nat) (h:n < 1000000000):aIe k (n:Int)=some (decide (0<=k)&&decide (k<=(n:Int) - 1)):=by
 unfold aIe
 rw [aKz,aHw (by omega) (by omega)];rfl
theorem aJx (t:cI) (hf:aBo 999999999 t):lW t=some (cl (nB t)):=by
 obtain ⟨f1,f2,f3⟩:=hf
 unfold lW
 rw [aKz,lJ]
 by_cases na:¬ (1<=t.N/\t.N<=40)
 ·rw [aJw na,Bool.not_false,if_pos rfl,aJP (P:=nB t) (fun h=>na h.1)];rfl
 have a1:1<=t.N/\t.N<=40:=Classical.not_not.1 na
 have hst:-9223372036854775807<=t.N/\t.N<=9223372036854775807:=by omega
 rw [if_neg (by rw [←aJh] at a1;simp [a1]),aMC t _ hst,lJ]
 by_cases na:¬ (0<=t.I/\t.I<=t.N - 1)
 ·rw [aJw na,Bool.not_false,if_pos rfl,aJP (P:=nB t) (fun h=>na h.2.1)];rfl
 have a2:0<=t.I/\t.I<=t.N - 1:=Classical.not_not.1 na
 rw [if_neg (by rw [←aJh] at a2;simp [a2]),aKz,lJ]
 by_cases na:¬ (1<=(t.L.length:Int)/\(t.L.length:Int)<=12)
 ·rw [aJw na,Bool.not_false,if_pos rfl,aJP (P:=nB t) (fun h=>by have h1:=h.2.2.1.1;have h2:=h.2.2.1.2.1;omega)];rfl
 have a3:1<=(t.L.length:Int)/\(t.L.length:Int)<=12:=Classical.not_not.1 na
 rw [if_neg (by rw [←aJh] at a3;simp [a3])]
 unfold mL
 by_cases h300:300 < t.E.length
 ·rw [if_pos (by simp;omega),aJP (P:=nB t) (fun h=>by have:=h.2.2.2.1;omega)]
 rw [if_neg (by simp;omega)]
 have hlabs:=aKZ (step:=fun s=>aDA t s) t.L.length 0 (fun k=>∀ hk:k < t.L.length,aJo t.L[k]=true/\(t.L[k]=nI<->k=0)/\(2<=k->qJ (t.L[k - 1]'(by omega)) t.L[k]=true)) (.inr false) (.inl ()) (Nat.zero_le _) (fun k h0 hk=>?_) (by simp only [aDA,aGf];rfl)
 ·rw [show (0:Int)=((0:Nat):Int) from rfl,hlabs,lJ]
  by_cases hs:∀ k,0<=k->k < t.L.length->∀ hk:k < t.L.length,aJo t.L[k]=true/\(t.L[k]=nI<->k=0)/\(2<=k->qJ (t.L[k - 1]'(by omega)) t.L[k]=true)
  ·rw [if_pos (aKq hs)]
   have a4:aIi t.L:=⟨by omega,by omega,fun h=>(hs 0 (by omega) h h).2.1.2 rfl,fun k h1 hk=>⟨(hs k (by omega) hk hk).1,fun e=>by have:=(hs k (by omega) hk hk).2.1.1 e;omega,(hs k (by omega) hk hk).2.2⟩⟩
   simp only
   unfold uI
   have:=aKZ (step:=fun s=>aDz t s) t.E.length 0 (fun k=>∀ hk:k < t.E.length,aIj t t.E[k]/\(1<=k->lE (t.E[k - 1]'(by omega)) t.E[k]=true)) (.inr false) (.inl ()) (Nat.zero_le _) (fun k h0 hk=>?_) (by simp only [aDz,aGf];rfl)
   ·rw [show (0:Int)=((0:Nat):Int) from rfl,this,lJ]
    by_cases hs:∀ k,0<=k->k < t.E.length->∀ hk:k < t.E.length,aIj t t.E[k]/\(1<=k->lE (t.E[k - 1]'(by omega)) t.E[k]=true)
    ·rw [if_pos (aKq hs),aKq (P:=nB t) ⟨a1,a2,a4,by omega,fun k hk=>hs k (by omega) hk hk⟩];rfl
    ·rw [if_neg (by rw [aLl];exact hs),aJP (P:=nB t) (fun h=>hs fun k _ hk _=>h.2.2.2.2 k hk)]
   ·simp only [aDz,aBK hk,if_pos,aAM hk,lJ,aMC t _ hst,index_eq _ _ (show t.L.length < 1000000000 by omega),lG,aGx,cmpE_ge,aAg hk (show t.E.length < 4611686018427387904 by omega)]
    generalize he:t.E[k]=e
    by_cases n1:¬ (0<=e.F/\e.F<=t.N - 1)
    ·have:(decide (0<=e.F)&&decide (e.F<=t.N - 1))=false:=aJw n1
     rw [this,aJP (fun h=>by have:=(h hk).1.1;rw [he] at this;exact n1 this)];rfl
    rw [(aJh _ _ _).2 (Classical.not_not.1 n1)]
    by_cases n2:¬ (0<=e.To/\e.To<=t.N - 1)
    ·have:(decide (0<=e.To)&&decide (e.To<=t.N - 1))=false:=aJw n2
     rw [this,aJP (fun h=>by have:=(h hk).1.2.1;rw [he] at this;exact n2 this)];rfl
    rw [(aJh _ _ _).2 (Classical.not_not.1 n2)]
    by_cases n3:¬ (0<=e.B/\e.B<=(t.L.length:Int) - 1)
    ·have:(decide (0<=e.B)&&decide (e.B<=(t.L.length:Int) - 1))=false:=aJw n3
     rw [this,aJP (fun h=>by have:=(h hk).1.2.2;rw [he] at this;exact n3 this)];rfl
    rw [(aJh _ _ _).2 (Classical.not_not.1 n3)]
    have hin:aIj t t.E[k]:=by rw [he];exact ⟨Classical.not_not.1 n1,Classical.not_not.1 n2,Classical.not_not.1 n3⟩
    by_cases h1:1<=k
    ·have hk1:wr ((k:Int) - 1)=((k - 1:Nat):Int):=by rw [aHw (by omega) (by omega)];omega
     rw [decide_eq_true (p:=(0:Int) < (k:Int)) (by omega),hk1,aAM (xs:=t.E) (k:=k - 1) (by omega)]
     rw [aLv (b:=lE (t.E[k - 1]'(by omega)) e) ⟨fun h _=>⟨hin,fun _=>by rw [he];exact h⟩,fun h=>by have:=(h hk).2 h1;rw [he] at this;exact this⟩]
     simp only [Bool.not_true,Bool.false_eq_true,if_false,if_pos,lJ]
     cases lE (t.E[k - 1]'(by omega)) e<;>rfl
    ·rw [decide_eq_false (p:=(0:Int) < (k:Int)) (by omega),aKq (fun _=>⟨hin,fun h=>absurd h h1⟩)]
     simp only [Bool.not_true,Bool.false_eq_true,if_false];rfl
  ·rw [if_neg (by rw [aLl];exact hs),aJP (P:=nB t) (fun h=>hs fun k _ hk _=>?_)]
   obtain ⟨l1,l2,l3,l4⟩:=h.2.2.1
   by_cases hk0:k=0
   ·subst hk0
    exact ⟨by rw [l3 hk];exact isLab_tau,⟨fun _=>rfl,fun _=>l3 hk⟩,fun h=>by omega⟩
   ·have:=l4 k (by omega) hk
    exact ⟨this.1,⟨fun e=>absurd e this.2.1,fun e=>absurd e hk0⟩,this.2.2⟩
 ·simp only [aDA,aBK hk,if_pos,aAM hk,lJ,aMA _ (show t.L[k].length < 1000000000 by have:=f2 _ (List.getElem_mem hk);omega),mK,aAg hk (show t.L.length < 4611686018427387904 by omega),ltB_ge]
  rw [show ([116,97,117]:aZ)=nI from rfl]
  by_cases hl:aJo t.L[k]=true
  ·rw [hl]
   have e0:((k:Int) == 0)=decide (k=0):=by by_cases e:k=0<;>simp [e]
   by_cases htk:(t.L[k]=nI<->k=0)
   ·have:((t.L[k] == nI) != ((k:Int) == 0))=false:=by
     rw [e0]
     by_cases e:k=0
     ·have:=htk.2 e;rw [this];simp [e]
     ·have:¬ t.L[k]=nI:=fun h=>e (htk.1 h)
      simp [this,e]
    rw [this]
    by_cases hk2:2<=k
    ·have hk1:wr ((k:Int) - 1)=((k - 1:Nat):Int):=by rw [aHw (by omega) (by omega)];omega
     rw [decide_eq_true (p:=(1:Int) < (k:Int)) (by omega),hk1,aAM (xs:=t.L) (k:=k - 1) (by omega)]
     rw [aLv (b:=qJ (t.L[k - 1]'(by omega)) t.L[k]) ⟨fun h _=>⟨hl,htk,fun _=>h⟩,fun h=>(h hk).2.2 hk2⟩]
     simp only [Bool.not_true,Bool.false_eq_true,if_false,if_pos,lJ,ltB_ge]
     cases qJ (t.L[k - 1]'(by omega)) t.L[k]<;>rfl
    ·rw [decide_eq_false (p:=(1:Int) < (k:Int)) (by omega),aKq (fun _=>⟨hl,htk,fun h=>absurd h hk2⟩)];rfl
   ·have:((t.L[k] == nI) != ((k:Int) == 0))=true:=by
     rw [e0]
     by_cases e:k=0
     ·have:¬ t.L[k]=nI:=fun h=>htk ⟨fun _=>e,fun _=>h⟩
      rw [beq_false_of_ne this];simp [e]
     ·have:t.L[k]=nI:=Classical.byContradiction fun h=>htk ⟨fun h'=>absurd h' h,fun h'=>absurd h' e⟩
      simp [this,e]
    rw [this,aJP (fun h=>htk (h hk).2.1)];rfl
  ·rw [aJP (fun h=>hl (h hk).1)]
   rw [Bool.not_eq_true] at hl
   rw [hl];rfl
def aLQ (t:cI):Prop:=∀ k,(hk:k < t.E.length)->t.E[k].B≠0/\(1<=k->¬ (t.E[k].F=(t.E[k - 1]'(by omega)).F/\t.E[k].B=(t.E[k - 1]'(by omega)).B))
end Gv
namespace Gv
open Go
theorem aJm {α:Type} {R:α->α->Prop} (tr:∀ {a b c},R a b->R b c->R a c) {xs:List α} (h:∀ k,1<=k->(hk:k < xs.length)->R (xs[k - 1]'(by omega)) xs[k]) {i j:Nat} (hij:i < j) (hj:j < xs.length):R (xs[i]'(by omega)) xs[j]:=by
 induction j with
 |zero=>omega
 |succ j ih=>
  have h1:=h (j+1) (by omega) hj
  simp only [Nat.add_sub_cancel] at h1
  by_cases e:i=j
  ·subst e;exact h1
  ·exact tr (ih (by omega) (by omega)) h1
def txt (t:cI) (e:Edge):aZ:=t.L.getD e.B.toNat []
def aKe (a b:Edge):Prop:=a.F < b.F\/(a.F=b.F/\a.B < b.B)
theorem aPL {a b c:Edge} (h1:aKe a b) (h2:aKe b c):aKe a c:=by
 unfold aKe at *;omega
theorem edges_fl {t:cI} (hv:nB t) (hs:aLQ t) {i j:Nat} (hij:i < j) (hj:j < t.E.length):aKe (t.E[i]'(by omega)) t.E[j]:=by
 refine aJm (R:=aKe) aPL (fun k h1 hk=>?_) hij hj
 have a:=(hv.2.2.2.2 k hk).2 h1
 have b:=(hs k hk).2 h1
 unfold lE at a
 simp only [Bool.or_eq_true,Bool.and_eq_true,decide_eq_true_eq,beq_iff_eq] at a
 unfold aKe
 rcases a with a|⟨a1,a|⟨a2,_⟩⟩
 ·exact .inl a
 ·exact .inr ⟨a1,a⟩
 ·exact absurd ⟨a1.symm,a2.symm⟩ b
theorem aOa {xs:List aZ} (h:aIi xs) {i j:Nat} (hi:1<=i) (hij:i < j) (hj:j < xs.length):qJ (xs[i]'(by omega)) xs[j]=true:=by
 induction j with
 |zero=>omega
 |succ j ih=>
  have h1:=(h.2.2.2 (j+1) (by omega) hj).2.2 (by omega)
  simp only [Nat.add_sub_cancel] at h1
  by_cases e:i=j
  ·subst e;exact h1
  ·exact xN (ih (by omega) (by omega)) h1
theorem aLw {xs:List aZ} (h:aIi xs) {i j:Nat} (hi:i < xs.length) (hj:j < xs.length) (e:xs[i]=xs[j]):i=j:=by
 have key:∀ i j,(hij:i < j)->(hj:j < xs.length)->xs[i]'(by omega)≠xs[j]:=by
  intro i j hij hj e
  by_cases h0:i=0
  ·subst h0
   rw [h.2.2.1 (by omega)] at e
   exact (h.2.2.2 j (by omega) hj).2.1 e.symm
  ·have:=aOa h (by omega) hij hj
   rw [e,tF] at this;cases this
 rcases Nat.lt_trichotomy i j with h1|h1|h1
 ·exact absurd e (key i j h1 hj)
 ·exact h1
 ·exact absurd e.symm (key j i h1 hi)
theorem aIk {t:cI} (hv:nB t) {e:Edge} (he:e∈t.E):aIj t e:=by
 obtain ⟨k,hk,rfl⟩:=List.mem_iff_getElem.1 he
 exact (hv.2.2.2.2 k hk).1
theorem aKi {t:cI} {e:Edge} (he:aIj t e):ix t.L e.B=some (txt t e):=by
 obtain ⟨_,_,h1,h2⟩:=he
 rw [aLi h1 (by omega)]
 unfold txt;rw [List.getD_eq_getElem?_getD,List.getElem?_eq_getElem (by omega)];rfl
def hit (t:cI) (q:Int) (s:aZ) (e:Edge):Bool:=e.F == q&&txt t e == s
def goF (t:cI) (q:Int) (s:aZ):Int:=match t.E.find? (hit t q s) with|some e=>e.To|none=>-1
theorem aOb {t:cI} (hv:nB t) {q:Int} (h:q < 0) (s:aZ):goF t q s=-1:=by
 unfold goF
 rw [List.find?_eq_none.2 fun e he=>by
  have:=(aIk hv he).1.1
  unfold hit;simp;omega]
theorem aOc {t:cI} (hv:nB t) (q:Int) (s:aZ):-1<=goF t q s/\goF t q s<=t.N - 1:=by
 unfold goF
 cases hx:t.E.find? (hit t q s) with
 |none=>have:=hv.1;simp only;omega
 |some e=>have:=(aIk hv (List.mem_of_find?_eq_some hx)).2.1;simp only;omega
theorem srt_short {α:Type} (lt:α->α->Bool) {xs:List α} (h:xs.length<=1):srt lt xs=xs:=by
 unfold srt
 rcases xs with _|⟨a,_|⟨b,l⟩⟩
 ·simp
 ·simp
 ·simp at h
theorem aJU {β γ ρ:Type} {step:(List γ × Int)->Option ((List γ × Int) ⊕ ρ)} (xs:List β) (p:β->Bool) (f:β->γ) (e:List γ->ρ)
  (h:∀ (k:Nat) out x,k < xs.length->out.length<=k->ix xs (k:Int)=some x->step (out,(k:Int))=some (.inl (if p x=true then out++[f x] else out,((k+1:Nat):Int))))
  (h':∀ out,step (out,(xs.length:Int))=some (.inr (e out))):loop step ([],0)=some (e ((xs.filter p).map f)):=by
 have:=aJl (step:=step) xs (fun k out=>(out,(k:Int))) (fun l out=>e (out++(l.filter p).map f)) (fun k out=>out.length<=k) (fun k a x l hk hx hI=>?_) (fun a _=>by simp [h']) (a:=[]) (by simp)
 ·simpa using this
 ·left;rw [h k a x hk hI hx]
  by_cases hp:p x=true
  ·exact ⟨a++[f x],by rw [if_pos hp],by simp;omega,by simp [hp]⟩
  ·exact ⟨a,by rw [if_neg hp],by omega,by simp [hp]⟩
theorem out_eq (t:cI) (q:Int) (h:t.E.length < 1000000000):aCX t q=some (t.E.filter fun e=>e.F == q):=by
 unfold aCX
 rw [aJU (step:=fun s:List Edge × Int=>aEW t q s.1 s.2) t.E (fun e=>e.F == q) id id (fun k out x hk ho hx=>?_) (fun out=>by simp only [aEW,aGf];rfl),lJ]
 ·simp [xB]
 ·simp only [aEW,aBK hk,if_pos,hx,lJ,xC,aAg hk (show t.E.length < 4611686018427387904 by omega)]
  rw [aGO (by simp [lim];omega),lJ]
  cases x.F == q<;>rfl
theorem aNp {xs:List Int} (h:xs.length<=1):iQ xs=some xs:=by
 unfold iQ;rw [if_pos (by simp;omega)]
theorem aMi {xs:List Int} (h:xs.length<=1):aCQ xs=some xs:=by
 unfold aCQ;rw [if_pos (by simp [lim];omega),srt_short _ h]
theorem hit_one {t:cI} (hv:nB t) (hs:aLQ t) (q:Int) (s:aZ):(t.E.filter (hit t q s))=(t.E.find? (hit t q s)).toList:=by
 have hp:t.E.Pairwise (fun a b=>¬ (hit t q s a=true/\hit t q s b=true)):=by
  rw [List.pairwise_iff_getElem]
  intro i j hi hj hij
  have h1:=edges_fl hv hs hij hj
  rintro ⟨ha,hb⟩
  unfold hit at ha hb
  simp only [Bool.and_eq_true,beq_iff_eq] at ha hb
  have ea:=aIk hv (List.getElem_mem hi)
  have eb:=aIk hv (List.getElem_mem hj)
  have he:txt t t.E[i]=txt t t.E[j]:=ha.2.trans hb.2.symm
  unfold txt at he
  rw [List.getD_eq_getElem?_getD,List.getD_eq_getElem?_getD,List.getElem?_eq_getElem (by have:=ea.2.2;omega),List.getElem?_eq_getElem (by have:=eb.2.2;omega)] at he
  have:=aLw hv.2.2.1 (by have:=ea.2.2;omega) (by have:=eb.2.2;omega) he
  unfold aKe at h1
  have:=ea.2.2;have:=eb.2.2
  omega
 generalize t.E=l at hp
 induction l with
 |nil=>rfl
 |cons a l ih=>
  rw [List.pairwise_cons] at hp
  by_cases h:hit t q s a=true
  ·rw [List.filter_cons,if_pos h,List.find?_cons,h]
   simp only [Option.toList_some,List.cons.injEq,true_and]
   exact List.filter_eq_nil_iff.2 fun b hb hh=>hp.1 b hb ⟨h,hh⟩
  ·rw [List.filter_cons,if_neg h,List.find?_cons,Bool.eq_false_iff.2 h]
   exact ih hp.2
theorem follow_eq {t:cI} (hv:nB t) (hs:aLQ t) (q:Int) (s:aZ):rX t [q] s=some ((t.E.find? (hit t q s)).toList.map (·.To)):=by
 have h300:=hv.2.2.2.1
 unfold rX
 rw [aJU (step:=fun x:List Int × Int=>aBz t [q] s x.1 x.2) t.E (hit t q s) (·.To) id (fun k out x hk ho hx=>?_) (fun out=>by simp only [aBz,aGf];rfl),lJ,hit_one hv hs]
 ·have hl:((t.E.find? (hit t q s)).toList.map (·.To)).length<=1:=by
   cases t.E.find? (hit t q s)<;>simp
  unfold pO
  simp only [id]
  rw [aMi hl,lJ,aNp hl,lJ]
 ·obtain ⟨hk',rfl⟩:=aJi hx
  simp only [aBz,aBK hk,if_pos,hx,lJ,aKi (aIk hv (List.getElem_mem hk')),aKd [q] _ (by simp),pQ,pP,aAg hk (show t.E.length < 4611686018427387904 by omega)]
  rw [aGO (by simp [lim];omega),lJ]
  unfold hit
  have e:([q].any fun x=>t.E[k].F == x)=(t.E[k].F == q):=by simp
  rw [e]
  cases txt t t.E[k] == s<;>cases t.E[k].F == q<;>rfl
theorem step_eq {t:cI} (hv:nB t) (hs:aLQ t) (q:Int) (s:aZ):aBa t q s=some (goF t q s):=by
 unfold aBa
 by_cases hq:q < 0
 ·rw [if_pos (by simpa using hq),aOb hv hq]
 ·rw [if_neg (by simpa using hq),follow_eq hv hs,lJ]
  unfold goF
  cases t.E.find? (hit t q s) with
  |none=>rfl
  |some e=>rfl
end Gv
namespace Gv
open Go
theorem aIQ {σ ρ α:Type} {step:σ->Option (σ ⊕ ρ)} (n:Nat) (g:Nat->α->σ) (I:Nat->α->Prop) (R:ρ->Prop)
  (h:∀ k a,k < n->I k a->∃ a',step (g k a)=some (.inl (g (k+1) a'))/\I (k+1) a')
  (h':∀ a,I n a->∃ r,step (g n a)=some (.inr r)/\R r):∀ j k a,k+j=n->I k a->∃ r,loop step (g k a)=some r/\R r
 |0,k,a,e,hI=>by
  obtain rfl:k=n:=by omega
  obtain ⟨r,h1,h2⟩:=h' a hI
  exact ⟨r,by rw [eZ,h1],h2⟩
 |j+1,k,a,e,hI=>by
  obtain ⟨a',h1,h2⟩:=h k a (by omega) hI
  rw [eZ,h1]
  exact aIQ n g I R h h' j (k+1) a' (by omega) h2
structure Adv (b:Bool) (G:List Bool->Prop) (m0 m:List Bool) (ag:Bool):Prop where
 good:G m
 le:m.count b<=m0.count b
 lt:ag=true->m.count b < m0.count b
 eq:ag=false->m=m0
theorem Adv.refl {b:Bool} {G:List Bool->Prop} {m:List Bool} (h:G m):Adv b G m m false:=⟨h,Nat.le_refl _,fun h=>(by cases h),fun _=>rfl⟩
theorem aMD {b:Bool}:∀ {m:List Bool} {q:Nat},m[q]?=some b->(m.set q (!b)).count b < m.count b
 |[],q,h=>by simp at h
 |x::l,0,h=>by
  simp at h;subst h
  cases x<;>simp
 |x::l,q+1,h=>by
  have:=aMD (m:=l) (q:=q) (by simpa using h)
  simp only [List.set_cons_succ,List.count_cons];omega
theorem Adv.flip {b:Bool} {G:List Bool->Prop} {m0 m:List Bool} {ag:Bool} (h:Adv b G m0 m ag) {q:Nat} (hq:m[q]?=some b) (hg:G (m.set q (!b))):Adv b G m0 (m.set q (!b)) true:=by
 have:=aMD hq
 have:=h.le
 exact ⟨hg,by omega,fun _=>by omega,fun h=>by cases h⟩
theorem aOE {α:Type} (g:List Bool->α) {step:α × Bool->Option ((α × Bool) ⊕ α)} (b:Bool) (G C:List Bool->Prop)
  (h1:∀ m,G m->∃ m' ag,step (g m,true)=some (.inl (g m',ag))/\Adv b G m m' ag/\(ag=false->C m))
  (h2:∀ m,step (g m,false)=some (.inr (g m))):∀ n m,m.count b<=n->G m->∃ m',loop step (g m,true)=some (g m')/\G m'/\C m':=by
 intro n
 induction n with
 |zero=>
  intro m hn hG
  obtain ⟨m',ag,e,ha,hc⟩:=h1 m hG
  cases ag with
  |true=>have:=ha.lt rfl;omega
  |false=>
   obtain rfl:=ha.eq rfl
   exact ⟨_,by rw [eZ,e];simp only;rw [eZ,h2],hG,hc rfl⟩
 |succ n ih=>
  intro m hn hG
  obtain ⟨m',ag,e,ha,hc⟩:=h1 m hG
  cases ag with
  |true=>
   have:=ha.lt rfl
   obtain ⟨m'',e',hG',hC'⟩:=ih m' (by omega) ha.good
   exact ⟨m'',by rw [eZ,e];exact e',hG',hC'⟩
  |false=>
   obtain rfl:=ha.eq rfl
   exact ⟨_,by rw [eZ,e];simp only;rw [eZ,h2],hG,hc rfl⟩
section
variable (p:cI) (L:List aZ)
inductive Lv:Int->Prop
 |out {q:Int} {s:aZ}:s∈L->goF p q s < 0->Lv q
 |go {q:Int} {s:aZ}:s∈L->0<=goF p q s->Lv (goF p q s)->Lv q
def St (q:Int):Prop:=∃ S:Int->Prop,S q/\∀ z,S z->L=[]\/∃ s∈L,0<=goF p z s/\S (goF p z s)
noncomputable def rowL:List Bool:=(List.range p.N.toNat).map fun (q:Nat)=>cl (Lv p L (q:Int))
noncomputable def rowS:List Bool:=(List.range p.N.toNat).map fun (q:Nat)=>cl (St p L (q:Int))
def lvB (m:List Bool) (q:Int):Bool:=L.any fun s=>decide (goF p q s < 0)||m.getD (goF p q s).toNat false
def stB (m:List Bool) (q:Int):Bool:=L.any fun s=>decide (0<=goF p q s)&&m.getD (goF p q s).toNat false
def GL (m:List Bool):Prop:=m.length=p.N.toNat/\∀ q:Nat,m[q]?=some true->Lv p L (q:Int)
def CL (m:List Bool):Prop:=∀ q:Nat,m[q]?=some false->lvB p L m (q:Int)=false
def GS (m:List Bool):Prop:=m.length=p.N.toNat/\∀ q:Nat,m[q]?=some false->¬ St p L (q:Int)
def CS (m:List Bool):Prop:=∀ q:Nat,m[q]?=some true->L=[]\/stB p L m (q:Int)=true
end
section
variable {p:cI} {L:List aZ} {m:List Bool}
theorem GL.flip (h:GL p L m) {q:Nat} (hq:m[q]?=some false) (hb:lvB p L m (q:Int)=true):GL p L (m.set q (!false)):=by
 refine ⟨by simp [h.1],fun z hz=>?_⟩
 by_cases e:z=q
 ·subst e
  unfold lvB at hb
  rw [List.any_eq_true] at hb
  obtain ⟨s,hs,hb⟩:=hb
  by_cases hn:goF p (z:Int) s < 0
  ·exact .out hs hn
  ·simp only [decide_eq_false hn,Bool.false_or] at hb
   have:=h.2 (goF p (z:Int) s).toNat (by
    rw [List.getD_eq_getElem?_getD] at hb
    cases hx:m[(goF p (z:Int) s).toNat]? with
    |none=>rw [hx] at hb;cases hb
    |some x=>rw [hx] at hb;simp at hb;rw [hb])
   rw [show (((goF p (z:Int) s).toNat:Nat):Int)=goF p (z:Int) s by omega] at this
   exact .go hs (by omega) this
 ·rw [List.getElem?_set_ne (Ne.symm e)] at hz
  exact h.2 z hz
theorem GL.row (hv:nB p) (h:GL p L m) (hc:CL p L m):m=rowL p L:=by
 have key:∀ z,Lv p L z->0<=z->z < p.N->m[z.toNat]?=some true:=by
  intro z hz
  induction hz with
  |out hs hn=>
   rename_i q s
   intro h0 h1
   cases hx:m[q.toNat]? with
   |none=>rw [List.getElem?_eq_none_iff] at hx;have:=h.1;omega
   |some x=>
    cases x with
    |true=>rfl
    |false=>
     have:=hc q.toNat hx
     unfold lvB at this
     rw [List.any_eq_false] at this
     have:=this s hs
     rw [show ((q.toNat:Nat):Int)=q by omega,decide_eq_true hn] at this
     simp at this
  |go hs hn hg ih=>
   rename_i q s
   intro h0 h1
   have:=ih hn (by have:=(aOc hv q s).2;omega)
   cases hx:m[q.toNat]? with
   |none=>rw [List.getElem?_eq_none_iff] at hx;have:=h.1;omega
   |some x=>
    cases x with
    |true=>rfl
    |false=>
     have hf:=hc q.toNat hx
     unfold lvB at hf
     rw [List.any_eq_false] at hf
     have hf:=hf s hs
     rw [show ((q.toNat:Nat):Int)=q by omega,List.getD_eq_getElem?_getD,this] at hf
     simp at hf
 unfold rowL
 refine List.ext_getElem? fun q=>?_
 by_cases hq:q < p.N.toNat
 ·have hlen:=h.1
  rw [List.getElem?_map,List.getElem?_range hq,Option.map_some]
  cases hx:m[q]? with
  |none=>rw [List.getElem?_eq_none_iff] at hx;omega
  |some x=>
   congr 1
   symm
   apply aLv
   refine ⟨fun e=>h.2 q (by rw [hx,e]),fun e=>?_⟩
   have:=key (q:Int) e (by omega) (by omega)
   simp only [Int.toNat_natCast] at this
   rw [hx] at this;simpa using this
 ·rw [List.getElem?_eq_none (by have:=h.1;omega),List.getElem?_eq_none (by simp;omega)]
theorem GS.flip (h:GS p L m) {q:Nat} (hq:m[q]?=some true) (hL:L≠[]) (hv:nB p) (hb:stB p L m (q:Int)=false):GS p L (m.set q (!true)):=by
 refine ⟨by simp [h.1],fun z hz=>?_⟩
 by_cases e:z=q
 ·subst e
  rintro ⟨S,h1,h2⟩
  rcases h2 _ h1 with h3|⟨s,hs,h4,h5⟩
  ·exact hL h3
  ·unfold stB at hb
   rw [List.any_eq_false] at hb
   have:=hb s hs
   rw [decide_eq_true h4,List.getD_eq_getElem?_getD] at this
   have hlt:=(aOc hv (z:Int) s).2
   have hlen:=h.1
   cases hx:m[(goF p (z:Int) s).toNat]? with
   |none=>rw [List.getElem?_eq_none_iff] at hx;omega
   |some x=>
    rw [hx] at this
    cases x with
    |true=>simp at this
    |false=>
     refine h.2 _ hx ⟨S,?_,h2⟩
     rw [show (((goF p (z:Int) s).toNat:Nat):Int)=goF p (z:Int) s by omega]
     exact h5
 ·rw [List.getElem?_set_ne (Ne.symm e)] at hz
  exact h.2 z hz
theorem GS.row (h:GS p L m) (hc:CS p L m):m=rowS p L:=by
 unfold rowS
 refine List.ext_getElem? fun q=>?_
 by_cases hq:q < p.N.toNat
 ·have hlen:=h.1
  rw [List.getElem?_map,List.getElem?_range hq,Option.map_some]
  cases hx:m[q]? with
  |none=>rw [List.getElem?_eq_none_iff] at hx;omega
  |some x=>
   congr 1
   symm
   apply aLv
   constructor
   ·rintro rfl
    refine ⟨fun z=>0<=z/\m[z.toNat]?=some true,⟨by omega,by simpa using hx⟩,fun z hz=>?_⟩
    rcases hc z.toNat hz.2 with h1|h1
    ·exact .inl h1
    ·right
     rw [show ((z.toNat:Nat):Int)=z by omega] at h1
     unfold stB at h1
     rw [List.any_eq_true] at h1
     obtain ⟨s,hs,h2⟩:=h1
     simp only [Bool.and_eq_true,decide_eq_true_eq] at h2
     refine ⟨s,hs,h2.1,h2.1,?_⟩
     have h3:=h2.2
     rw [List.getD_eq_getElem?_getD] at h3
     cases hy:m[(goF p z s).toNat]? with
     |none=>rw [hy] at h3;cases h3
     |some y=>rw [hy] at h3;simp at h3;rw [h3]
   ·intro hs
    cases x with
    |true=>rfl
    |false=>exact absurd hs (h.2 q hx)
 ·rw [List.getElem?_eq_none (by have:=h.1;omega),List.getElem?_eq_none (by simp;omega)]
end
end Gv
namespace Gv
open Go
structure One (t:cI):Prop where
 ok:nB t
 single:aLQ t
 one:t.N=1
theorem One.len {t:cI} (h:One t):t.E.length<=300:=h.ok.2.2.2.1
theorem aLx {m:List Bool} {q:Int} (h0:0<=q) (h:q.toNat < m.length):ix m q=some (m.getD q.toNat false):=by
 rw [aLi h0 h,List.getD_eq_getElem?_getD,List.getElem?_eq_getElem h];rfl
end Gv
namespace Gv
open Go
end Gv
