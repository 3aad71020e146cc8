/- Validity of transition systems, on both sides. -/
import Derived.Test.YtlehiakgdejgkaaGreatDoorJP1
set_option linter.all false
namespace Gv
open Go
def vQ (xs:List aJ):Prop:=1<=xs.length/\xs.length<=12/\(∀ h:0 < xs.length,xs[0]=bQ)/\∀ k,1<=k->(hk:k < xs.length)->rD xs[k]=true/\xs[k]≠bQ/\(2<=k->ltB (xs[k - 1]'(by omega)) xs[k]=true)
theorem isLab_tau:rD bQ=true:=by decide
theorem aQJ (xs:List aJ) (h2:∀ s∈xs,s.length < 1000000000):aEq xs=some (cl (vQ xs)):=by
 unfold aEq
 by_cases h0:xs.length=0
 ·rw [if_pos (by simp [h0]),tZ (P:=vQ xs) (fun h=>by have:=h.1;omega)];rfl
 rw [if_neg (by simpa using h0)]
 by_cases h12:12 < xs.length
 ·rw [if_pos (by simp;omega),tZ (P:=vQ xs) (fun h=>by have:=h.2.1;omega)];rfl
 rw [if_neg (by simp;omega),show (0:Int)=((0:Nat):Int) from rfl,bK (xs:=xs) (k:=0) (by omega),aA,show ([116,97,117]:aJ)=bQ from rfl]
 unfold uW
 by_cases ht:xs[0]'(by omega)=bQ
 ·rw [if_neg (by simp [ht])]
  have:=aDY (step:=fun s=>zO xs s) xs.length 1 (fun k=>∀ hk:k < xs.length,1<=k->rD xs[k]=true/\xs[k]≠bQ/\(2<=k->ltB (xs[k - 1]'(by omega)) xs[k]=true)) (.inr false) (.inl ()) (by omega) (fun k h0 hk=>?_) (by simp only [zO,bJ];rfl)
  ·rw [show (1:Int)=((1:Nat):Int) from rfl,this,aA]
   by_cases hs:∀ k,1<=k->k < xs.length->∀ hk:k < xs.length,1<=k->rD xs[k]=true/\xs[k]≠bQ/\(2<=k->ltB (xs[k - 1]'(by omega)) xs[k]=true)
   ·rw [if_pos (tY hs),tY (P:=vQ xs) ⟨by omega,by omega,fun _=>ht,fun k h1 hk=>hs k h1 hk hk h1⟩];rfl
   ·rw [if_neg (by rw [aEJ];exact hs),tZ (P:=vQ xs) (fun h=>hs fun k h1 hk _ _=>h.2.2.2 k h1 hk)]
  ·simp only [zO,bF hk,if_pos,bK hk,aA,aQI _ (h2 _ (List.getElem_mem hk)),uV,aV hk (show xs.length < 4611686018427387904 by omega)]
   rw [show ([116,97,117]:aJ)=bQ from rfl]
   by_cases hl:rD xs[k]=true
   ·rw [hl]
    by_cases htk:xs[k]=bQ
    ·have:(xs[k] == bQ)=true:=by simp [htk]
     rw [this,tZ (fun h=>(h hk h0).2.1 htk)];rfl
    ·have:(xs[k] == bQ)=false:=by simp [htk]
     rw [this]
     by_cases hk2:2<=k
     ·have hk1:wr ((k:Int) - 1)=((k - 1:Nat):Int):=by rw [eB (by omega) (by omega)];omega
      rw [decide_eq_true (p:=(1:Int) < (k:Int)) (by omega),hk1,bK (xs:=xs) (k:=k - 1) (by omega)]
      rw [aIh (b:=ltB (xs[k - 1]'(by omega)) xs[k]) ⟨fun h _ _=>⟨hl,htk,fun _=>h⟩,fun h=>(h hk h0).2.2 hk2⟩]
      simp only [Bool.not_true,Bool.false_eq_true,if_false,if_pos,aA]
      cases ltB (xs[k - 1]'(by omega)) xs[k]<;>rfl
     ·rw [decide_eq_false (p:=(1:Int) < (k:Int)) (by omega),tY (fun _ _=>⟨hl,htk,fun h=>absurd h hk2⟩)];rfl
   ·rw [tZ (fun h=>hl (h hk h0).1)]
    rw [Bool.not_eq_true] at hl
    rw [hl];rfl
 ·rw [if_pos (by simp [ht]),tZ (P:=vQ xs) (fun h=>ht (h.2.2.1 (by omega)))]
def vR (t:aS) (e:Edge):Prop:=(0<=e.F/\e.F<=t.N - 1)/\(0<=e.To/\e.To<=t.N - 1)/\0<=e.B/\e.B<=(t.L.length:Int) - 1
def EdgesOk (t:aS):Prop:=t.E.length<=300/\∀ k,(hk:k < t.E.length)->vR t t.E[k]/\(1<=k->bX (t.E[k - 1]'(by omega)) t.E[k]=true)
def aO (t:aS):Prop:=(1<=t.N/\t.N<=40)/\(0<=t.I/\t.I<=t.N - 1)/\vQ t.L/\EdgesOk t
theorem aNf (a b:Edge):aGj a b=some (bX a b):=by
 obtain ⟨a1,a2,a3⟩:=a;obtain ⟨b1,b2,b3⟩:=b
 simp only [aGj,bX]
 by_cases h1:a1=b1<;>by_cases h2:a2=b2<;>simp [h1,h2]
theorem nH (n a b:Int):(decide (a<=n)&&decide (n<=b))=true<->a<=n/\n<=b:=by simp
theorem xF {n a b:Int} (h:¬ (a<=n/\n<=b)):(decide (a<=n)&&decide (n<=b))=false:=by
 cases hx:(decide (a<=n)&&decide (n<=b)) with
 |false=>rfl
 |true=>exact absurd ((nH _ _ _).1 hx) h
theorem aIi (t:aS) (hf:bA 999999999 t):aFo t=some (cl (aO t)):=by
 obtain ⟨f1,f2,f3⟩:=hf
 unfold aFo
 rw [aKp,aA]
 by_cases na:¬ (1<=t.N/\t.N<=40)
 ·rw [xF na,Bool.not_false,if_pos rfl,tZ (P:=aO t) (fun h=>na h.1)];rfl
 have a1:1<=t.N/\t.N<=40:=Classical.not_not.1 na
 have w1:wr (t.N - 1)=t.N - 1:=eB (by omega) (by omega)
 rw [if_neg (by rw [←nH] at a1;simp [a1]),w1,aKp,aA]
 by_cases na:¬ (0<=t.I/\t.I<=t.N - 1)
 ·rw [xF na,Bool.not_false,if_pos rfl,tZ (P:=aO t) (fun h=>na h.2.1)];rfl
 have a2:0<=t.I/\t.I<=t.N - 1:=Classical.not_not.1 na
 rw [if_neg (by rw [←nH] at a2;simp [a2]),aQJ _ (fun s hs=>by have:=f2 s hs;omega),aA]
 by_cases na:¬ vQ t.L
 ·rw [if_pos (by rw [tZ na];rfl),tZ (P:=aO t) (fun h=>na h.2.2.1)];rfl
 have a3:vQ t.L:=Classical.not_not.1 na
 rw [if_neg (by rw [tY a3];simp)]
 unfold aAw
 by_cases h300:300 < t.E.length
 ·rw [if_pos (by simp;omega),tZ (P:=aO t) (fun h=>by have:=h.2.2.2.1;omega)]
 rw [if_neg (by simp;omega)]
 have:=aDY (step:=fun s=>aEr t s) t.E.length 0 (fun k=>∀ hk:k < t.E.length,vR t t.E[k]/\(1<=k->bX (t.E[k - 1]'(by omega)) t.E[k]=true)) (.inr false) (.inl ()) (Nat.zero_le _) (fun k h0 hk=>?_) (by simp only [aEr,bJ];rfl)
 ·rw [show (0:Int)=((0:Nat):Int) from rfl,this,aA]
  by_cases hs:∀ k,0<=k->k < t.E.length->∀ hk:k < t.E.length,vR t t.E[k]/\(1<=k->bX (t.E[k - 1]'(by omega)) t.E[k]=true)
  ·rw [if_pos (tY hs),tY (P:=aO t) ⟨a1,a2,a3,by omega,fun k hk=>hs k (by omega) hk hk⟩];rfl
  ·rw [if_neg (by rw [aEJ];exact hs),tZ (P:=aO t) (fun h=>hs fun k _ hk _=>h.2.2.2.2 k hk)]
 ·have wl:wr ((t.L.length:Int) - 1)=(t.L.length:Int) - 1:=eB (by omega) (by omega)
  simp only [aEr,bF hk,if_pos,bK hk,aA,aKp,w1,wl,aBZ,aGL,aNf,aV hk (show t.E.length < 4611686018427387904 by omega)]
  generalize he:t.E[k]=e
  by_cases n1:¬ (0<=e.F/\e.F<=t.N - 1)
  ·have:(decide (0<=e.F)&&decide (e.F<=t.N - 1))=false:=xF n1
   rw [this,tZ (fun h=>by have:=(h hk).1.1;rw [he] at this;exact n1 this)];rfl
  rw [(nH _ _ _).2 (Classical.not_not.1 n1)]
  by_cases n2:¬ (0<=e.To/\e.To<=t.N - 1)
  ·have:(decide (0<=e.To)&&decide (e.To<=t.N - 1))=false:=xF n2
   rw [this,tZ (fun h=>by have:=(h hk).1.2.1;rw [he] at this;exact n2 this)];rfl
  rw [(nH _ _ _).2 (Classical.not_not.1 n2)]
  by_cases n3:¬ (0<=e.B/\e.B<=(t.L.length:Int) - 1)
  ·have:(decide (0<=e.B)&&decide (e.B<=(t.L.length:Int) - 1))=false:=xF n3
   rw [this,tZ (fun h=>by have:=(h hk).1.2.2;rw [he] at this;exact n3 this)];rfl
  rw [(nH _ _ _).2 (Classical.not_not.1 n3)]
  have hin:vR t t.E[k]:=by rw [he];exact ⟨Classical.not_not.1 n1,Classical.not_not.1 n2,Classical.not_not.1 n3⟩
  by_cases h1:1<=k
  ·have hk1:wr ((k:Int) - 1)=((k - 1:Nat):Int):=by rw [eB (by omega) (by omega)];omega
   rw [decide_eq_true (p:=(0:Int) < (k:Int)) (by omega),hk1,bK (xs:=t.E) (k:=k - 1) (by omega)]
   rw [aIh (b:=bX (t.E[k - 1]'(by omega)) e) ⟨fun h _=>⟨hin,fun _=>by rw [he];exact h⟩,fun h=>by have:=(h hk).2 h1;rw [he] at this;exact this⟩]
   simp only [Bool.not_true,Bool.false_eq_true,if_false,if_pos,aA]
   cases bX (t.E[k - 1]'(by omega)) e<;>rfl
  ·rw [decide_eq_false (p:=(0:Int) < (k:Int)) (by omega),tY (fun _=>⟨hin,fun h=>absurd h h1⟩)]
   simp only [Bool.not_true,Bool.false_eq_true,if_false];rfl
def aLU (a b:Int):Int:=if a < b then -1 else if b < a then 1 else 0
theorem aJD (a b:Int):iD a b=some (aLU a b):=by
 unfold iD oP aLU
 by_cases h1:a < b<;>by_cases h2:b < a<;>simp [h1,h2]
def or3 (a b c:Int):Int:=if a≠0 then a else if b≠0 then b else c
theorem Or_eq (a b c:Int):zX [a,b,c]=some (or3 a b c):=by
 unfold zX or3
 have s0:iO [a,b,c] 0=if a≠0 then some (.inr (.inr a)) else some (.inl 1):=by
  simp only [iO,show ix [a,b,c] 0=some a from rfl,aA]
  by_cases h:a=0<;>simp [h]<;>rfl
 have s1:iO [a,b,c] 1=if b≠0 then some (.inr (.inr b)) else some (.inl 2):=by
  simp only [iO,show ix [a,b,c] 1=some b from rfl,aA]
  by_cases h:b=0<;>simp [h]<;>rfl
 have s2:iO [a,b,c] 2=if c≠0 then some (.inr (.inr c)) else some (.inl 3):=by
  simp only [iO,show ix [a,b,c] 2=some c from rfl,aA]
  by_cases h:c=0<;>simp [h]<;>rfl
 have s3:iO [a,b,c] 3=some (.inr (.inl ())):=rfl
 by_cases h1:a=0
 ·by_cases h2:b=0
  ·by_cases h3:c=0
   ·rw [cG,s0,if_neg (by simp [h1])];simp only
    rw [cG,s1,if_neg (by simp [h2])];simp only
    rw [cG,s2,if_neg (by simp [h3])];simp only
    rw [cG,s3]
    simp [h1,h2,h3,sG]
   ·rw [cG,s0,if_neg (by simp [h1])];simp only
    rw [cG,s1,if_neg (by simp [h2])];simp only
    rw [cG,s2,if_pos (by simp [h3])]
    simp [h1,h2]
  ·rw [cG,s0,if_neg (by simp [h1])];simp only
   rw [cG,s1,if_pos h2]
   simp [h1,h2]
 ·rw [cG,s0,if_pos h1]
  simp [h1]
theorem aHr (a b:Edge):wU a b=some (or3 (aLU a.F b.F) (aLU a.B b.B) (aLU a.To b.To)):=by
 unfold wU
 rw [aJD,aA,aJD,aA,aJD,aA,Or_eq];rfl
theorem cmpE_ge (a b:Edge):decide (0<=or3 (aLU a.F b.F) (aLU a.B b.B) (aLU a.To b.To))=!bX a b:=by
 obtain ⟨a1,a2,a3⟩:=a;obtain ⟨b1,b2,b3⟩:=b
 simp only [bX,or3,aLU]
 rcases Int.lt_trichotomy a1 b1 with h1|h1|h1<;>rcases Int.lt_trichotomy a2 b2 with h2|h2|h2<;>rcases Int.lt_trichotomy a3 b3 with h3|h3|h3<;>
  simp [h1,h2,h3,Int.not_lt_of_ge,Int.le_of_lt,Int.ne_of_lt,Int.ne_of_gt]<;>omega
theorem aNg (t:aS) (k:Int) (h:-9223372036854775807<=t.N/\t.N<=9223372036854775807):vB t k=some (decide (0<=k)&&decide (k<=t.N - 1)):=by
 unfold vB
 rw [aDW,eB (by omega) (by omega)];rfl
theorem index_eq (k:Int) (n:Nat) (h:n < 1000000000):aMd k (n:Int)=some (decide (0<=k)&&decide (k<=(n:Int) - 1)):=by
 unfold aMd
 rw [aDW,eB (by omega) (by omega)];rfl
theorem tL (t:aS) (hf:bA 999999999 t):nC t=some (cl (aO t)):=by
 obtain ⟨f1,f2,f3⟩:=hf
 unfold nC
 rw [aDW,aA]
 by_cases na:¬ (1<=t.N/\t.N<=40)
 ·rw [xF na,Bool.not_false,if_pos rfl,tZ (P:=aO t) (fun h=>na h.1)];rfl
 have a1:1<=t.N/\t.N<=40:=Classical.not_not.1 na
 have hst:-9223372036854775807<=t.N/\t.N<=9223372036854775807:=by omega
 rw [if_neg (by rw [←nH] at a1;simp [a1]),aNg t _ hst,aA]
 by_cases na:¬ (0<=t.I/\t.I<=t.N - 1)
 ·rw [xF na,Bool.not_false,if_pos rfl,tZ (P:=aO t) (fun h=>na h.2.1)];rfl
 have a2:0<=t.I/\t.I<=t.N - 1:=Classical.not_not.1 na
 rw [if_neg (by rw [←nH] at a2;simp [a2]),aDW,aA]
 by_cases na:¬ (1<=(t.L.length:Int)/\(t.L.length:Int)<=12)
 ·rw [xF na,Bool.not_false,if_pos rfl,tZ (P:=aO t) (fun h=>by have h1:=h.2.2.1.1;have h2:=h.2.2.1.2.1;omega)];rfl
 have a3:1<=(t.L.length:Int)/\(t.L.length:Int)<=12:=Classical.not_not.1 na
 rw [if_neg (by rw [←nH] at a3;simp [a3])]
 unfold rG
 by_cases h300:300 < t.E.length
 ·rw [if_pos (by simp;omega),tZ (P:=aO t) (fun h=>by have:=h.2.2.2.1;omega)]
 rw [if_neg (by simp;omega)]
 have hlabs:=aDY (step:=fun s=>zZ t s) t.L.length 0 (fun k=>∀ hk:k < t.L.length,rD t.L[k]=true/\(t.L[k]=bQ<->k=0)/\(2<=k->ltB (t.L[k - 1]'(by omega)) t.L[k]=true)) (.inr false) (.inl ()) (Nat.zero_le _) (fun k h0 hk=>?_) (by simp only [zZ,bJ];rfl)
 ·rw [show (0:Int)=((0:Nat):Int) from rfl,hlabs,aA]
  by_cases hs:∀ k,0<=k->k < t.L.length->∀ hk:k < t.L.length,rD t.L[k]=true/\(t.L[k]=bQ<->k=0)/\(2<=k->ltB (t.L[k - 1]'(by omega)) t.L[k]=true)
  ·rw [if_pos (tY hs)]
   have a4:vQ t.L:=⟨by omega,by omega,fun h=>(hs 0 (by omega) h h).2.1.2 rfl,fun k h1 hk=>⟨(hs k (by omega) hk hk).1,fun e=>by have:=(hs k (by omega) hk hk).2.1.1 e;omega,(hs k (by omega) hk hk).2.2⟩⟩
   simp only
   unfold aCm
   have:=aDY (step:=fun s=>zY t s) t.E.length 0 (fun k=>∀ hk:k < t.E.length,vR t t.E[k]/\(1<=k->bX (t.E[k - 1]'(by omega)) t.E[k]=true)) (.inr false) (.inl ()) (Nat.zero_le _) (fun k h0 hk=>?_) (by simp only [zY,bJ];rfl)
   ·rw [show (0:Int)=((0:Nat):Int) from rfl,this,aA]
    by_cases hs:∀ k,0<=k->k < t.E.length->∀ hk:k < t.E.length,vR t t.E[k]/\(1<=k->bX (t.E[k - 1]'(by omega)) t.E[k]=true)
    ·rw [if_pos (tY hs),tY (P:=aO t) ⟨a1,a2,a4,by omega,fun k hk=>hs k (by omega) hk hk⟩];rfl
    ·rw [if_neg (by rw [aEJ];exact hs),tZ (P:=aO t) (fun h=>hs fun k _ hk _=>h.2.2.2.2 k hk)]
   ·simp only [zY,bF hk,if_pos,bK hk,aA,aNg t _ hst,index_eq _ _ (show t.L.length < 1000000000 by omega),rF,aHr,cmpE_ge,aV hk (show t.E.length < 4611686018427387904 by omega)]
    generalize he:t.E[k]=e
    by_cases n1:¬ (0<=e.F/\e.F<=t.N - 1)
    ·have:(decide (0<=e.F)&&decide (e.F<=t.N - 1))=false:=xF n1
     rw [this,tZ (fun h=>by have:=(h hk).1.1;rw [he] at this;exact n1 this)];rfl
    rw [(nH _ _ _).2 (Classical.not_not.1 n1)]
    by_cases n2:¬ (0<=e.To/\e.To<=t.N - 1)
    ·have:(decide (0<=e.To)&&decide (e.To<=t.N - 1))=false:=xF n2
     rw [this,tZ (fun h=>by have:=(h hk).1.2.1;rw [he] at this;exact n2 this)];rfl
    rw [(nH _ _ _).2 (Classical.not_not.1 n2)]
    by_cases n3:¬ (0<=e.B/\e.B<=(t.L.length:Int) - 1)
    ·have:(decide (0<=e.B)&&decide (e.B<=(t.L.length:Int) - 1))=false:=xF n3
     rw [this,tZ (fun h=>by have:=(h hk).1.2.2;rw [he] at this;exact n3 this)];rfl
    rw [(nH _ _ _).2 (Classical.not_not.1 n3)]
    have hin:vR t t.E[k]:=by rw [he];exact ⟨Classical.not_not.1 n1,Classical.not_not.1 n2,Classical.not_not.1 n3⟩
    by_cases h1:1<=k
    ·have hk1:wr ((k:Int) - 1)=((k - 1:Nat):Int):=by rw [eB (by omega) (by omega)];omega
     rw [decide_eq_true (p:=(0:Int) < (k:Int)) (by omega),hk1,bK (xs:=t.E) (k:=k - 1) (by omega)]
     rw [aIh (b:=bX (t.E[k - 1]'(by omega)) e) ⟨fun h _=>⟨hin,fun _=>by rw [he];exact h⟩,fun h=>by have:=(h hk).2 h1;rw [he] at this;exact this⟩]
     simp only [Bool.not_true,Bool.false_eq_true,if_false,if_pos,aA]
     cases bX (t.E[k - 1]'(by omega)) e<;>rfl
    ·rw [decide_eq_false (p:=(0:Int) < (k:Int)) (by omega),tY (fun _=>⟨hin,fun h=>absurd h h1⟩)]
     simp only [Bool.not_true,Bool.false_eq_true,if_false];rfl
  ·rw [if_neg (by rw [aEJ];exact hs),tZ (P:=aO t) (fun h=>hs fun k _ hk _=>?_)]
   obtain ⟨l1,l2,l3,l4⟩:=h.2.2.1
   by_cases hk0:k=0
   ·subst hk0
    exact ⟨by rw [l3 hk];exact isLab_tau,⟨fun _=>rfl,fun _=>l3 hk⟩,fun h=>by omega⟩
   ·have:=l4 k (by omega) hk
    exact ⟨this.1,⟨fun e=>absurd e this.2.1,fun e=>absurd e hk0⟩,this.2.2⟩
 ·simp only [zZ,bF hk,if_pos,bK hk,aA,aNe _ (show t.L[k].length < 1000000000 by have:=f2 _ (List.getElem_mem hk);omega),vC,aV hk (show t.L.length < 4611686018427387904 by omega),ltB_ge]
  rw [show ([116,97,117]:aJ)=bQ from rfl]
  by_cases hl:rD t.L[k]=true
  ·rw [hl]
   have e0:((k:Int) == 0)=decide (k=0):=by by_cases e:k=0<;>simp [e]
   by_cases htk:(t.L[k]=bQ<->k=0)
   ·have:((t.L[k] == bQ) != ((k:Int) == 0))=false:=by
     rw [e0]
     by_cases e:k=0
     ·have:=htk.2 e;rw [this];simp [e]
     ·have:¬ t.L[k]=bQ:=fun h=>e (htk.1 h)
      simp [this,e]
    rw [this]
    by_cases hk2:2<=k
    ·have hk1:wr ((k:Int) - 1)=((k - 1:Nat):Int):=by rw [eB (by omega) (by omega)];omega
     rw [decide_eq_true (p:=(1:Int) < (k:Int)) (by omega),hk1,bK (xs:=t.L) (k:=k - 1) (by omega)]
     rw [aIh (b:=ltB (t.L[k - 1]'(by omega)) t.L[k]) ⟨fun h _=>⟨hl,htk,fun _=>h⟩,fun h=>(h hk).2.2 hk2⟩]
     simp only [Bool.not_true,Bool.false_eq_true,if_false,if_pos,aA,ltB_ge]
     cases ltB (t.L[k - 1]'(by omega)) t.L[k]<;>rfl
    ·rw [decide_eq_false (p:=(1:Int) < (k:Int)) (by omega),tY (fun _=>⟨hl,htk,fun h=>absurd h hk2⟩)];rfl
   ·have:((t.L[k] == bQ) != ((k:Int) == 0))=true:=by
     rw [e0]
     by_cases e:k=0
     ·have:¬ t.L[k]=bQ:=fun h=>htk ⟨fun _=>e,fun _=>h⟩
      rw [beq_false_of_ne this];simp [e]
     ·have:t.L[k]=bQ:=Classical.byContradiction fun h=>htk ⟨fun h'=>absurd h' h,fun h'=>absurd h' e⟩
      simp [this,e]
    rw [this,tZ (fun h=>htk (h hk).2.1)];rfl
  ·rw [tZ (fun h=>hl (h hk).1)]
   rw [Bool.not_eq_true] at hl
   rw [hl];rfl
def aAD (t:aS):Prop:=∀ k,(hk:k < t.E.length)->t.E[k].B≠0/\(1<=k->¬ (t.E[k].F=(t.E[k - 1]'(by omega)).F/\t.E[k].B=(t.E[k - 1]'(by omega)).B))
theorem aKq (t:aS) (h:t.E.length < 1000000000):aCC t=some (cl (aAD t)):=by
 unfold aCC
 have:=aDY (step:=fun s=>wM t s) t.E.length 0 (fun k=>∀ hk:k < t.E.length,t.E[k].B≠0/\(1<=k->¬ (t.E[k].F=(t.E[k - 1]'(by omega)).F/\t.E[k].B=(t.E[k - 1]'(by omega)).B))) (.inr false) (.inl ()) (Nat.zero_le _) (fun k h0 hk=>?_) (by simp only [wM,bJ];rfl)
 ·rw [show (0:Int)=((0:Nat):Int) from rfl,this,aA]
  by_cases hs:aAD t
  ·rw [if_pos (tY fun k _ hk _=>hs k hk),tY hs];rfl
  ·rw [if_neg (by rw [aEJ];exact fun h=>hs fun k hk=>h k (by omega) hk hk),tZ hs]
 ·simp only [wM,bF hk,if_pos,bK hk,aA,sA,aV hk (show t.E.length < 4611686018427387904 by omega)]
  by_cases hl:t.E[k].B=0
  ·rw [if_pos (by simpa using hl),tZ (fun h=>(h hk).1 hl)];rfl
  ·rw [if_neg (by simpa using hl)]
   by_cases h1:1<=k
   ·have hk1:wr ((k:Int) - 1)=((k - 1:Nat):Int):=by rw [eB (by omega) (by omega)];omega
    rw [decide_eq_true (p:=(0:Int) < (k:Int)) (by omega),hk1,bK (xs:=t.E) (k:=k - 1) (by omega)]
    simp only [if_pos,aA]
    by_cases a:t.E[k].F=(t.E[k - 1]'(by omega)).F
    ·rw [if_pos (by simpa using a)]
     by_cases b:t.E[k].B=(t.E[k - 1]'(by omega)).B
     ·rw [if_pos (by simpa using b),tZ (fun h=>(h hk).2 h1 ⟨a,b⟩)];rfl
     ·rw [if_neg (by simpa using b),tY (fun _=>⟨hl,fun _ h=>b h.2⟩)];rfl
    ·rw [if_neg (by simpa using a),tY (fun _=>⟨hl,fun _ h=>a h.1⟩)];rfl
   ·rw [decide_eq_false (p:=(0:Int) < (k:Int)) (by omega),tY (fun _=>⟨hl,fun h=>absurd h h1⟩)];rfl
theorem aQK (t:aS) (hf:bA 999999999 t):jU t=some (cl (aO t/\aAD t)):=by
 unfold jU
 rw [tL t hf,aA]
 by_cases nv:¬ aO t
 ·rw [if_pos (by rw [tZ nv];rfl),tZ (fun h=>nv h.1)]
 have hv:aO t:=Classical.not_not.1 nv
 have h:t.E.length<=300:=hv.2.2.2.1
 rw [if_neg (by rw [tY hv];simp)]
 have:=aDY (step:=fun s=>jT t s) t.E.length 0 (fun k=>∀ hk:k < t.E.length,t.E[k].B≠0/\(1<=k->¬ (t.E[k].F=(t.E[k - 1]'(by omega)).F/\t.E[k].B=(t.E[k - 1]'(by omega)).B))) (.inr false) (.inl ()) (Nat.zero_le _) (fun k h0 hk=>?_) (by simp only [jT,bJ];rfl)
 ·rw [show (0:Int)=((0:Nat):Int) from rfl,this,aA]
  by_cases hs:aAD t
  ·rw [if_pos (tY fun k _ hk _=>hs k hk),tY (P:=aO t/\aAD t) ⟨hv,hs⟩];rfl
  ·rw [if_neg (by rw [aEJ];exact fun h=>hs fun k hk=>h k (by omega) hk hk),tZ (fun h:aO t/\aAD t=>hs h.2)]
 ·simp only [jT,bF hk,if_pos,bK hk,aA,gV,aV hk (show t.E.length < 4611686018427387904 by omega)]
  by_cases hl:t.E[k].B=0
  ·rw [if_pos (by simpa using hl),tZ (fun h=>(h hk).1 hl)];rfl
  ·rw [if_neg (by simpa using hl)]
   by_cases h1:1<=k
   ·have hk1:wr ((k:Int) - 1)=((k - 1:Nat):Int):=by rw [eB (by omega) (by omega)];omega
    rw [decide_eq_true (p:=(0:Int) < (k:Int)) (by omega),hk1,bK (xs:=t.E) (k:=k - 1) (by omega)]
    simp only [if_pos,aA]
    by_cases a:t.E[k].F=(t.E[k - 1]'(by omega)).F
    ·rw [if_pos (by simpa using a.symm)]
     by_cases b:t.E[k].B=(t.E[k - 1]'(by omega)).B
     ·rw [if_pos (by simpa using b.symm),tZ (fun h=>(h hk).2 h1 ⟨a,b⟩)];rfl
     ·rw [if_neg (by simpa using fun h=>b (Eq.symm h)),tY (fun _=>⟨hl,fun _ h=>b h.2⟩)];rfl
    ·rw [if_neg (by simpa using fun h=>a (Eq.symm h)),tY (fun _=>⟨hl,fun _ h=>a h.1⟩)];rfl
   ·rw [decide_eq_false (p:=(0:Int) < (k:Int)) (by omega),tY (fun _=>⟨hl,fun h=>absurd h h1⟩)];rfl
end Gv
namespace Gv
open Go
theorem aJE {α:Type} {R:α->α->Prop} (tr:∀ {a b c},R a b->R b c->R a c) {xs:List α} (h:∀ k,1<=k->(hk:k < xs.length)->R (xs[k - 1]'(by omega)) xs[k]) {i j:Nat} (hij:i < j) (hj:j < xs.length):R (xs[i]'(by omega)) xs[j]:=by
 induction j with
 |zero=>omega
 |succ j ih=>
  have h1:=h (j+1) (by omega) hj
  simp only [Nat.add_sub_cancel] at h1
  by_cases e:i=j
  ·subst e;exact h1
  ·exact tr (ih (by omega) (by omega)) h1
def txt (t:aS) (e:Edge):aJ:=t.L.getD e.B.toNat []
def xG (a b:Edge):Prop:=a.F < b.F\/(a.F=b.F/\a.B < b.B)
theorem aSe {a b c:Edge} (h1:xG a b) (h2:xG b c):xG a c:=by
 unfold xG at *;omega
theorem aQL {t:aS} (hv:aO t) (hs:aAD t) {i j:Nat} (hij:i < j) (hj:j < t.E.length):xG (t.E[i]'(by omega)) t.E[j]:=by
 refine aJE (R:=xG) aSe (fun k h1 hk=>?_) hij hj
 have a:=(hv.2.2.2.2 k hk).2 h1
 have b:=(hs k hk).2 h1
 unfold bX at a
 simp only [Bool.or_eq_true,Bool.and_eq_true,decide_eq_true_eq,beq_iff_eq] at a
 unfold xG
 rcases a with a|⟨a1,a|⟨a2,_⟩⟩
 ·exact .inl a
 ·exact .inr ⟨a1,a⟩
 ·exact absurd ⟨a1.symm,a2.symm⟩ b
theorem labs_lt {xs:List aJ} (h:vQ xs) {i j:Nat} (hi:1<=i) (hij:i < j) (hj:j < xs.length):ltB (xs[i]'(by omega)) xs[j]=true:=by
 induction j with
 |zero=>omega
 |succ j ih=>
  have h1:=(h.2.2.2 (j+1) (by omega) hj).2.2 (by omega)
  simp only [Nat.add_sub_cancel] at h1
  by_cases e:i=j
  ·subst e;exact h1
  ·exact aAT (ih (by omega) (by omega)) h1
theorem aKr {xs:List aJ} (h:vQ xs) {i j:Nat} (hi:i < xs.length) (hj:j < xs.length) (e:xs[i]=xs[j]):i=j:=by
 have key:∀ i j,(hij:i < j)->(hj:j < xs.length)->xs[i]'(by omega)≠xs[j]:=by
  intro i j hij hj e
  by_cases h0:i=0
  ·subst h0
   rw [h.2.2.1 (by omega)] at e
   exact (h.2.2.2 j (by omega) hj).2.1 e.symm
  ·have:=labs_lt h (by omega) hij hj
   rw [e,rN] at this;cases this
 rcases Nat.lt_trichotomy i j with h1|h1|h1
 ·exact absurd e (key i j h1 hj)
 ·exact h1
 ·exact absurd e.symm (key j i h1 hi)
theorem mY {t:aS} (hv:aO t) {e:Edge} (he:e∈t.E):vR t e:=by
 obtain ⟨k,hk,rfl⟩:=List.mem_iff_getElem.1 he
 exact (hv.2.2.2.2 k hk).1
theorem xH {t:aS} {e:Edge} (he:vR t e):ix t.L e.B=some (txt t e):=by
 obtain ⟨_,_,h1,h2⟩:=he
 rw [aFZ h1 (by omega)]
 unfold txt;rw [List.getD_eq_getElem?_getD,List.getElem?_eq_getElem (by omega)];rfl
def hit (t:aS) (q:Int) (s:aJ) (e:Edge):Bool:=e.F == q&&txt t e == s
def iR (t:aS) (q:Int) (s:aJ):Int:=match t.E.find? (hit t q s) with|some e=>e.To|none=>-1
theorem aGZ {t:aS} (hv:aO t) {q:Int} (h:q < 0) (s:aJ):iR t q s=-1:=by
 unfold iR
 rw [List.find?_eq_none.2 fun e he=>by
  have:=(mY hv he).1.1
  unfold hit;simp;omega]
theorem xI {t:aS} (hv:aO t) (q:Int) (s:aJ):-1<=iR t q s/\iR t q s<=t.N - 1:=by
 unfold iR
 cases hx:t.E.find? (hit t q s) with
 |none=>have:=hv.1;simp only;omega
 |some e=>have:=(mY hv (List.mem_of_find?_eq_some hx)).2.1;simp only;omega
theorem aQM {t:aS} (hv:aO t) (q:Int) (s:aJ):aIK t q s=some (iR t q s):=by
 have h300:=hv.2.2.2.1
 unfold aIK
 by_cases hq:0<=q
 ·have:=sY (step:=fun k=>wZ t q s k) t.E (fun k (_:Unit)=>(k:Int)) (fun l _=>match l.find? (hit t q s) with|some e=>.inr e.To|none=>.inl ()) (fun _ _=>True) (fun k a e l hk hx _=>?_) (fun a _=>by simp only [wZ,bJ];rfl) (a:=()) trivial
  ·rw [show (0:Int)=((0:Nat):Int) from rfl,this,aA]
   unfold iR
   cases t.E.find? (hit t q s)<;>rfl
  ·obtain ⟨hk',rfl⟩:=aBO hx
   have hstep:wZ t q s (k:Int)=if hit t q s t.E[k]=true then some (.inr (.inr t.E[k].To)) else some (.inl ((k+1:Nat):Int)):=by
    simp only [wZ,bF hk,if_pos,decide_eq_true hq,aEv,hx,aA,xH (mY hv (List.getElem_mem hk')),aGM,aV hk (show t.E.length < 4611686018427387904 by omega)]
    unfold hit
    cases t.E[k].F == q<;>cases txt t t.E[k] == s<;>rfl
   rw [hstep]
   cases hh:hit t q s t.E[k] with
   |true=>right;rw [if_pos rfl,List.find?_cons,hh]
   |false=>left;exact ⟨(),by rw [if_neg (by simp)],trivial,by rw [List.find?_cons,hh]⟩
 ·rw [aGZ hv (by omega),cG]
  have:wZ t q s 0=some (.inr (.inl ())):=by
   unfold wZ;rw [decide_eq_false hq]
   cases decide ((0:Int) < (t.E.length:Int))<;>rfl
  rw [this];rfl
theorem srt_short {α:Type} (lt:α->α->Bool) {xs:List α} (h:xs.length<=1):srt lt xs=xs:=by
 unfold srt
 rcases xs with _|⟨a,_|⟨b,l⟩⟩
 ·simp
 ·simp
 ·simp at h
theorem aAU {β γ ρ:Type} {step:(List γ × Int)->Option ((List γ × Int) ⊕ ρ)} (xs:List β) (p:β->Bool) (f:β->γ) (e:List γ->ρ)
  (h:∀ (k:Nat) out x,k < xs.length->out.length<=k->ix xs (k:Int)=some x->step (out,(k:Int))=some (.inl (if p x=true then out++[f x] else out,((k+1:Nat):Int))))
  (h':∀ out,step (out,(xs.length:Int))=some (.inr (e out))):loop step ([],0)=some (e ((xs.filter p).map f)):=by
 have:=sY (step:=step) xs (fun k out=>(out,(k:Int))) (fun l out=>e (out++(l.filter p).map f)) (fun k out=>out.length<=k) (fun k a x l hk hx hI=>?_) (fun a _=>by simp [h']) (a:=[]) (by simp)
 ·simpa using this
 ·left;rw [h k a x hk hI hx]
  by_cases hp:p x=true
  ·exact ⟨a++[f x],by rw [if_pos hp],by simp;omega,by simp [hp]⟩
  ·exact ⟨a,by rw [if_neg hp],by omega,by simp [hp]⟩
theorem aPv (t:aS) (q:Int) (h:t.E.length < 1000000000):pL t q=some (t.E.filter fun e=>e.F == q):=by
 unfold pL
 rw [aAU (step:=fun s:List Edge × Int=>pZ t q s.1 s.2) t.E (fun e=>e.F == q) id id (fun k out x hk ho hx=>?_) (fun out=>by simp only [pZ,bJ];rfl),aA]
 ·simp [aDF]
 ·simp only [pZ,bF hk,if_pos,hx,aA,xU,aV hk (show t.E.length < 4611686018427387904 by omega)]
  rw [cF (by simp [jL];omega),aA]
  cases x.F == q<;>rfl
theorem l11Out_eq (t:aS) (q:Int) (h:t.E.length < 1000000000):aHT t q=some (t.E.filter fun e=>e.F == q):=by
 unfold aHT
 rw [aAU (step:=fun s:List Edge × Int=>aCI t q s.1 s.2) t.E (fun e=>e.F == q) id id (fun k out x hk ho hx=>?_) (fun out=>by simp only [aCI,bJ];rfl),aA]
 ·simp [aHS]
 ·simp only [aCI,bF hk,if_pos,hx,aA,aCH,aV hk (show t.E.length < 4611686018427387904 by omega)]
  rw [cF (by simp [jL];omega),aA]
  cases x.F == q<;>rfl
theorem aOa {xs:List Int} (h:xs.length<=1):cV xs=some xs:=by
 unfold cV;rw [if_pos (by simp;omega)]
theorem aLV {xs:List Int} (h:xs.length<=1):aAF xs=some xs:=by
 unfold aAF;rw [if_pos (by simp [jL];omega),srt_short _ h]
theorem aPw {t:aS} (hv:aO t) (hs:aAD t) (q:Int) (s:aJ):(t.E.filter (hit t q s))=(t.E.find? (hit t q s)).toList:=by
 have hp:t.E.Pairwise (fun a b=>¬ (hit t q s a=true/\hit t q s b=true)):=by
  rw [List.pairwise_iff_getElem]
  intro i j hi hj hij
  have h1:=aQL hv hs hij hj
  rintro ⟨ha,hb⟩
  unfold hit at ha hb
  simp only [Bool.and_eq_true,beq_iff_eq] at ha hb
  have ea:=mY hv (List.getElem_mem hi)
  have eb:=mY hv (List.getElem_mem hj)
  have he:txt t t.E[i]=txt t t.E[j]:=ha.2.trans hb.2.symm
  unfold txt at he
  rw [List.getD_eq_getElem?_getD,List.getD_eq_getElem?_getD,List.getElem?_eq_getElem (by have:=ea.2.2;omega),List.getElem?_eq_getElem (by have:=eb.2.2;omega)] at he
  have:=aKr hv.2.2.1 (by have:=ea.2.2;omega) (by have:=eb.2.2;omega) he
  unfold xG at h1
  have:=ea.2.2;have:=eb.2.2
  omega
 generalize t.E=l at hp
 induction l with
 |nil=>rfl
 |cons a l ih=>
  rw [List.pairwise_cons] at hp
  by_cases h:hit t q s a=true
  ·rw [List.filter_cons,if_pos h,List.find?_cons,h]
   simp only [Option.toList_some,List.cons.injEq,true_and]
   exact List.filter_eq_nil_iff.2 fun b hb hh=>hp.1 b hb ⟨h,hh⟩
  ·rw [List.filter_cons,if_neg h,List.find?_cons,Bool.eq_false_iff.2 h]
   exact ih hp.2
theorem follow_eq {t:aS} (hv:aO t) (hs:aAD t) (q:Int) (s:aJ):kO t [q] s=some ((t.E.find? (hit t q s)).toList.map (·.To)):=by
 have h300:=hv.2.2.2.1
 unfold kO
 rw [aAU (step:=fun x:List Int × Int=>gG t [q] s x.1 x.2) t.E (hit t q s) (·.To) id (fun k out x hk ho hx=>?_) (fun out=>by simp only [gG,bJ];rfl),aA,aPw hv hs]
 ·have hl:((t.E.find? (hit t q s)).toList.map (·.To)).length<=1:=by
   cases t.E.find? (hit t q s)<;>simp
  unfold pM
  simp only [id]
  rw [aLV hl,aA,aOa hl,aA]
 ·obtain ⟨hk',rfl⟩:=aBO hx
  simp only [gG,bF hk,if_pos,hx,aA,xH (mY hv (List.getElem_mem hk')),aDM [q] _ (by simp),pN,nD,aV hk (show t.E.length < 4611686018427387904 by omega)]
  rw [cF (by simp [jL];omega),aA]
  unfold hit
  have e:([q].any fun x=>t.E[k].F == x)=(t.E[k].F == q):=by simp
  rw [e]
  cases txt t t.E[k] == s<;>cases t.E[k].F == q<;>rfl
theorem aFA {t:aS} (hv:aO t) (hs:aAD t) (q:Int) (s:aJ):lR t q s=some (iR t q s):=by
 unfold lR
 by_cases hq:q < 0
 ·rw [if_pos (by simpa using hq),aGZ hv hq]
 ·rw [if_neg (by simpa using hq),follow_eq hv hs,aA]
  unfold iR
  cases t.E.find? (hit t q s) with
  |none=>rfl
  |some e=>rfl
end Gv
namespace Gv
open Go
theorem eP {σ ρ α:Type} {step:σ->Option (σ ⊕ ρ)} (n:Nat) (g:Nat->α->σ) (I:Nat->α->Prop) (R:ρ->Prop)
  (h:∀ k a,k < n->I k a->∃ a',step (g k a)=some (.inl (g (k+1) a'))/\I (k+1) a')
  (h':∀ a,I n a->∃ r,step (g n a)=some (.inr r)/\R r):∀ j k a,k+j=n->I k a->∃ r,loop step (g k a)=some r/\R r
 |0,k,a,e,hI=>by
  obtain rfl:k=n:=by omega
  obtain ⟨r,h1,h2⟩:=h' a hI
  exact ⟨r,by rw [cG,h1],h2⟩
 |j+1,k,a,e,hI=>by
  obtain ⟨a',h1,h2⟩:=h k a (by omega) hI
  rw [cG,h1]
  exact eP n g I R h h' j (k+1) a' (by omega) h2
structure Adv (b:Bool) (G:List Bool->Prop) (m0 m:List Bool) (ag:Bool):Prop where
 good:G m
 le:m.count b<=m0.count b
 lt:ag=true->m.count b < m0.count b
 eq:ag=false->m=m0
theorem Adv.refl {b:Bool} {G:List Bool->Prop} {m:List Bool} (h:G m):Adv b G m m false:=⟨h,Nat.le_refl _,fun h=>(by cases h),fun _=>rfl⟩
theorem aNh {b:Bool}:∀ {m:List Bool} {q:Nat},m[q]?=some b->(m.set q (!b)).count b < m.count b
 |[],q,h=>by simp at h
 |x::l,0,h=>by
  simp at h;subst h
  cases x<;>simp
 |x::l,q+1,h=>by
  have:=aNh (m:=l) (q:=q) (by simpa using h)
  simp only [List.set_cons_succ,List.count_cons];omega
theorem Adv.flip {b:Bool} {G:List Bool->Prop} {m0 m:List Bool} {ag:Bool} (h:Adv b G m0 m ag) {q:Nat} (hq:m[q]?=some b) (hg:G (m.set q (!b))):Adv b G m0 (m.set q (!b)) true:=by
 have:=aNh hq
 have:=h.le
 exact ⟨hg,by omega,fun _=>by omega,fun h=>by cases h⟩
theorem aCP {α:Type} (g:List Bool->α) {step:α × Bool->Option ((α × Bool) ⊕ α)} (b:Bool) (G C:List Bool->Prop)
  (h1:∀ m,G m->∃ m' ag,step (g m,true)=some (.inl (g m',ag))/\Adv b G m m' ag/\(ag=false->C m))
  (h2:∀ m,step (g m,false)=some (.inr (g m))):∀ n m,m.count b<=n->G m->∃ m',loop step (g m,true)=some (g m')/\G m'/\C m':=by
 intro n
 induction n with
 |zero=>
  intro m hn hG
  obtain ⟨m',ag,e,ha,hc⟩:=h1 m hG
  cases ag with
  |true=>have:=ha.lt rfl;omega
  |false=>
   obtain rfl:=ha.eq rfl
   exact ⟨_,by rw [cG,e];simp only;rw [cG,h2],hG,hc rfl⟩
 |succ n ih=>
  intro m hn hG
  obtain ⟨m',ag,e,ha,hc⟩:=h1 m hG
  cases ag with
  |true=>
   have:=ha.lt rfl
   obtain ⟨m'',e',hG',hC'⟩:=ih m' (by omega) ha.good
   exact ⟨m'',by rw [cG,e];exact e',hG',hC'⟩
  |false=>
   obtain rfl:=ha.eq rfl
   exact ⟨_,by rw [cG,e];simp only;rw [cG,h2],hG,hc rfl⟩
section
variable (p:aS) (L:List aJ)
inductive Lv:Int->Prop
 |out {q:Int} {s:aJ}:s∈L->iR p q s < 0->Lv q
 |go {q:Int} {s:aJ}:s∈L->0<=iR p q s->Lv (iR p q s)->Lv q
def St (q:Int):Prop:=∃ S:Int->Prop,S q/\∀ z,S z->L=[]\/∃ s∈L,0<=iR p z s/\S (iR p z s)
noncomputable def rowL:List Bool:=(List.range p.N.toNat).map fun (q:Nat)=>cl (Lv p L (q:Int))
noncomputable def rowS:List Bool:=(List.range p.N.toNat).map fun (q:Nat)=>cl (St p L (q:Int))
def lvB (m:List Bool) (q:Int):Bool:=L.any fun s=>decide (iR p q s < 0)||m.getD (iR p q s).toNat false
def stB (m:List Bool) (q:Int):Bool:=L.any fun s=>decide (0<=iR p q s)&&m.getD (iR p q s).toNat false
def GL (m:List Bool):Prop:=m.length=p.N.toNat/\∀ q:Nat,m[q]?=some true->Lv p L (q:Int)
def CL (m:List Bool):Prop:=∀ q:Nat,m[q]?=some false->lvB p L m (q:Int)=false
def GS (m:List Bool):Prop:=m.length=p.N.toNat/\∀ q:Nat,m[q]?=some false->¬ St p L (q:Int)
def CS (m:List Bool):Prop:=∀ q:Nat,m[q]?=some true->L=[]\/stB p L m (q:Int)=true
end
section
variable {p:aS} {L:List aJ} {m:List Bool}
theorem GL.flip (h:GL p L m) {q:Nat} (hq:m[q]?=some false) (hb:lvB p L m (q:Int)=true):GL p L (m.set q (!false)):=by
 refine ⟨by simp [h.1],fun z hz=>?_⟩
 by_cases e:z=q
 ·subst e
  unfold lvB at hb
  rw [List.any_eq_true] at hb
  obtain ⟨s,hs,hb⟩:=hb
  by_cases hn:iR p (z:Int) s < 0
  ·exact .out hs hn
  ·simp only [decide_eq_false hn,Bool.false_or] at hb
   have:=h.2 (iR p (z:Int) s).toNat (by
    rw [List.getD_eq_getElem?_getD] at hb
    cases hx:m[(iR p (z:Int) s).toNat]? with
    |none=>rw [hx] at hb;cases hb
    |some x=>rw [hx] at hb;simp at hb;rw [hb])
   rw [show (((iR p (z:Int) s).toNat:Nat):Int)=iR p (z:Int) s by omega] at this
   exact .go hs (by omega) this
 ·rw [List.getElem?_set_ne (Ne.symm e)] at hz
  exact h.2 z hz
theorem GL.row (hv:aO p) (h:GL p L m) (hc:CL p L m):m=rowL p L:=by
 have key:∀ z,Lv p L z->0<=z->z < p.N->m[z.toNat]?=some true:=by
  intro z hz
  induction hz with
  |out hs hn=>
   rename_i q s
   intro h0 h1
   cases hx:m[q.toNat]? with
   |none=>rw [List.getElem?_eq_none_iff] at hx;have:=h.1;omega
   |some x=>
    cases x with
    |true=>rfl
    |false=>
     have:=hc q.toNat hx
     unfold lvB at this
     rw [List.any_eq_false] at this
     have:=this s hs
     rw [show ((q.toNat:Nat):Int)=q by omega,decide_eq_true hn] at this
     simp at this
  |go hs hn hg ih=>
   rename_i q s
   intro h0 h1
   have:=ih hn (by have:=(xI hv q s).2;omega)
   cases hx:m[q.toNat]? with
   |none=>rw [List.getElem?_eq_none_iff] at hx;have:=h.1;omega
   |some x=>
    cases x with
    |true=>rfl
    |false=>
     have hf:=hc q.toNat hx
     unfold lvB at hf
     rw [List.any_eq_false] at hf
     have hf:=hf s hs
     rw [show ((q.toNat:Nat):Int)=q by omega,List.getD_eq_getElem?_getD,this] at hf
     simp at hf
 unfold rowL
 refine List.ext_getElem? fun q=>?_
 by_cases hq:q < p.N.toNat
 ·have hlen:=h.1
  rw [List.getElem?_map,List.getElem?_range hq,Option.map_some]
  cases hx:m[q]? with
  |none=>rw [List.getElem?_eq_none_iff] at hx;omega
  |some x=>
   congr 1
   symm
   apply aIh
   refine ⟨fun e=>h.2 q (by rw [hx,e]),fun e=>?_⟩
   have:=key (q:Int) e (by omega) (by omega)
   simp only [Int.toNat_natCast] at this
   rw [hx] at this;simpa using this
 ·rw [List.getElem?_eq_none (by have:=h.1;omega),List.getElem?_eq_none (by simp;omega)]
theorem GS.flip (h:GS p L m) {q:Nat} (hq:m[q]?=some true) (hL:L≠[]) (hv:aO p) (hb:stB p L m (q:Int)=false):GS p L (m.set q (!true)):=by
 refine ⟨by simp [h.1],fun z hz=>?_⟩
 by_cases e:z=q
 ·subst e
  rintro ⟨S,h1,h2⟩
  rcases h2 _ h1 with h3|⟨s,hs,h4,h5⟩
  ·exact hL h3
  ·unfold stB at hb
   rw [List.any_eq_false] at hb
   have:=hb s hs
   rw [decide_eq_true h4,List.getD_eq_getElem?_getD] at this
   have hlt:=(xI hv (z:Int) s).2
   have hlen:=h.1
   cases hx:m[(iR p (z:Int) s).toNat]? with
   |none=>rw [List.getElem?_eq_none_iff] at hx;omega
   |some x=>
    rw [hx] at this
    cases x with
    |true=>simp at this
    |false=>
     refine h.2 _ hx ⟨S,?_,h2⟩
     rw [show (((iR p (z:Int) s).toNat:Nat):Int)=iR p (z:Int) s by omega]
     exact h5
 ·rw [List.getElem?_set_ne (Ne.symm e)] at hz
  exact h.2 z hz
theorem GS.row (h:GS p L m) (hc:CS p L m):m=rowS p L:=by
 unfold rowS
 refine List.ext_getElem? fun q=>?_
 by_cases hq:q < p.N.toNat
 ·have hlen:=h.1
  rw [List.getElem?_map,List.getElem?_range hq,Option.map_some]
  cases hx:m[q]? with
  |none=>rw [List.getElem?_eq_none_iff] at hx;omega
  |some x=>
   congr 1
   symm
   apply aIh
   constructor
   ·rintro rfl
    refine ⟨fun z=>0<=z/\m[z.toNat]?=some true,⟨by omega,by simpa using hx⟩,fun z hz=>?_⟩
    rcases hc z.toNat hz.2 with h1|h1
    ·exact .inl h1
    ·right
     rw [show ((z.toNat:Nat):Int)=z by omega] at h1
     unfold stB at h1
     rw [List.any_eq_true] at h1
     obtain ⟨s,hs,h2⟩:=h1
     simp only [Bool.and_eq_true,decide_eq_true_eq] at h2
     refine ⟨s,hs,h2.1,h2.1,?_⟩
     have h3:=h2.2
     rw [List.getD_eq_getElem?_getD] at h3
     cases hy:m[(iR p z s).toNat]? with
     |none=>rw [hy] at h3;cases h3
     |some y=>rw [hy] at h3;simp at h3;rw [h3]
   ·intro hs
    cases x with
    |true=>rfl
    |false=>exact absurd hs (h.2 q hx)
 ·rw [List.getElem?_eq_none (by have:=h.1;omega),List.getElem?_eq_none (by simp;omega)]
end
end Gv
namespace Gv
open Go
structure One (t:aS):Prop where
 ok:aO t
 single:aAD t
 one:t.N=1
theorem One.len {t:aS} (h:One t):t.E.length<=300:=h.ok.2.2.2.1
theorem aKs {m:List Bool} {q:Int} (h0:0<=q) (h:q.toNat < m.length):ix m q=some (m.getD q.toNat false):=by
 rw [aFZ h0 h,List.getD_eq_getElem?_getD,List.getElem?_eq_getElem h];rfl
end Gv
namespace Gv
open Go
theorem aOu (b:Bool) (n:Nat) (h1:1<=n) (h:n<=100000):eL [b] (n:Int)=some (List.replicate n b):=by
 unfold eL
 rw [if_neg (by simp)]
 unfold iB
 have hm:l_Mul (oM (([b]:List Bool).length:Int)) (oM (n:Int))=some (0,(n:Int)):=by
  have e1:oM (([b]:List Bool).length:Int)=1:=by simp [oM]
  have e2:oM (n:Int)=(n:Int):=by unfold oM;omega
  rw [e1,e2];unfold l_Mul
  rw [if_pos ⟨by omega,by omega,by omega,by omega⟩]
  simp only [Int.one_mul,Option.some.injEq,Prod.mk.injEq]
  omega
 rw [hm,aA]
 simp only
 rw [if_neg (by simp),decide_eq_false (p:=(9223372036854775807:Int) < (n:Int)) (by omega)]
 unfold eW
 rw [if_neg (by simp)]
 unfold iA
 simp only
 rw [eB (by omega) (by omega),aGV _ (by simp [jL];omega),aA]
 have hmin:Nat.min ([b]:List Bool).length (List.replicate n false).length=1:=by
  show min _ _=1
  simp;omega
 rw [hmin]
 have ho:ovw (List.replicate n false) 0 (([b]:List Bool).take 1)=some (b::List.replicate (n - 1) false):=by
  unfold ovw
  rw [if_pos ⟨by omega,by simp;omega⟩]
  simp
 rw [ho,aA]
 have hL:=oN (step:=fun s:List Bool × Int=>hY s.1 s.2) (fun s=>1<=s.2/\s.2<=n/\s.1.length=n/\s.1.take s.2.toNat=List.replicate s.2.toNat b) (fun s=>(n - s.2).toNat) (fun r=>r=List.replicate n b) (fun s hI=>?_) (s:=(b::List.replicate (n - 1) false,1)) ⟨by simp,by simp only;omega,by simp;omega,by simp⟩
 ·obtain ⟨r,hr,hR⟩:=hL
  rw [show (((1:Nat):Int))=1 from rfl,hr,aA,hR];rfl
 ·obtain ⟨m,i⟩:=s
  obtain ⟨h1,h2,h3,h4⟩:=hI
  simp only at h1 h2 h3 h4 ⊢
  obtain ⟨k,rfl⟩:∃ k:Nat,i=(k:Int):=⟨i.toNat,by omega⟩
  rw [Int.toNat_natCast] at h4
  unfold hY
  by_cases hk:k < n
  ·left
   have s1:pQ m (k:Int) (m.length:Int)=some (m.drop k):=by
    unfold pQ;rw [if_pos ⟨by omega,by omega,by omega⟩]
    rw [Int.toNat_natCast,Int.toNat_natCast,List.take_of_length_le (by simp)]
   have s2:pQ m 0 (k:Int)=some (m.take k):=by
    unfold pQ;rw [if_pos ⟨by omega,by omega,by omega⟩];simp
   rw [h3] at s1 ⊢
   rw [if_pos (bF hk),s1,aA,s2,aA,h4]
   have hl:(m.drop k).length=n - k:=by simp [h3]
   rw [hl,List.length_replicate]
   generalize hd:Nat.min k (n - k)=d
   have hd1:d<=k/\d<=n - k/\1<=d:=by
    have:Nat.min k (n - k)=min k (n - k):=rfl
    omega
   have hov:ovw m (k:Int) ((List.replicate k b).take d)=some (List.replicate (k+d) b++m.drop (k+d)):=by
    unfold ovw
    have hl2:((List.replicate k b).take d).length=d:=by simp;omega
    rw [if_pos ⟨by omega,by rw [hl2,Int.toNat_natCast];omega⟩,hl2,Int.toNat_natCast,h4,List.take_replicate]
    rw [show min d k=d by omega,List.replicate_append_replicate]
   rw [hov,aA]
   have hw:wr ((k:Int)+((d:Nat):Int))=((k+d:Nat):Int):=by rw [eB (by omega) (by omega)];omega
   rw [hw]
   refine ⟨_,rfl,⟨by simp only;omega,by simp only;omega,by simp [h3];omega,?_⟩,by simp only;omega⟩
   simp only [Int.toNat_natCast]
   rw [List.take_append_of_le_length (by simp),List.take_of_length_le (by simp)]
  ·right
   obtain rfl:k=n:=by omega
   rw [h3,if_neg (by simp)]
   rw [List.take_of_length_le (by omega)] at h4
   exact ⟨_,rfl,h4⟩
end Gv
