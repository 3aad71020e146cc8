/- Validity of transition systems, on both sides. -/
import Derived.Test.YthmfdhgeglgpbaaGreatDoorJP1
set_option linter.all false
namespace Gv
open Go
def aAT (xs:List aJ):Prop:=1<=xs.length/\xs.length<=12/\(∀ h:0 < xs.length,xs[0]=eQ)/\∀ k,1<=k->(hk:k < xs.length)->rK xs[k]=true/\xs[k]≠eQ/\(2<=k->ltB (xs[k - 1]'(by omega)) xs[k]=true)
theorem aOL:rK eQ=true:=by decide
theorem aQI (xs:List aJ) (h2:∀ s∈xs,s.length < 1000000000):aDQ xs=some (cl (aAT xs)):=by
 unfold aDQ
 by_cases h0:xs.length=0
 ·rw [if_pos (by simp [h0]),aBa (P:=aAT xs) (fun h=>by have:=h.1;omega)];rfl
 rw [if_neg (by simpa using h0)]
 by_cases h12:12 < xs.length
 ·rw [if_pos (by simp;omega),aBa (P:=aAT xs) (fun h=>by have:=h.2.1;omega)];rfl
 rw [if_neg (by simp;omega),show (0:Int)=((0:Nat):Int) from rfl,bS (xs:=xs) (k:=0) (by omega),aA,show ([116,97,117]:aJ)=eQ from rfl]
 unfold uF
 by_cases ht:xs[0]'(by omega)=eQ
 ·rw [if_neg (by simp [ht])]
  have:=aIN (step:=fun s=>xM xs s) xs.length 1 (fun k=>∀ hk:k < xs.length,1<=k->rK xs[k]=true/\xs[k]≠eQ/\(2<=k->ltB (xs[k - 1]'(by omega)) xs[k]=true)) (.inr false) (.inl ()) (by omega) (fun k h0 hk=>?_) (by simp only [xM,jH];rfl)
  ·rw [show (1:Int)=((1:Nat):Int) from rfl,this,aA]
   by_cases hs:∀ k,1<=k->k < xs.length->∀ hk:k < xs.length,1<=k->rK xs[k]=true/\xs[k]≠eQ/\(2<=k->ltB (xs[k - 1]'(by omega)) xs[k]=true)
   ·rw [if_pos (aJd hs),aJd (P:=aAT xs) ⟨by omega,by omega,fun _=>ht,fun k h1 hk=>hs k h1 hk hk h1⟩];rfl
   ·rw [if_neg (by rw [aJJ];exact hs),aBa (P:=aAT xs) (fun h=>hs fun k h1 hk _ _=>h.2.2.2 k h1 hk)]
  ·simp only [xM,bV hk,if_pos,bS hk,aA,aLT _ (h2 _ (List.getElem_mem hk)),uE,bQ hk (show xs.length < 4611686018427387904 by omega)]
   rw [show ([116,97,117]:aJ)=eQ from rfl]
   by_cases hl:rK xs[k]=true
   ·rw [hl]
    by_cases htk:xs[k]=eQ
    ·have:(xs[k] == eQ)=true:=by simp [htk]
     rw [this,aBa (fun h=>(h hk h0).2.1 htk)];rfl
    ·have:(xs[k] == eQ)=false:=by simp [htk]
     rw [this]
     by_cases hk2:2<=k
     ·have hk1:wr ((k:Int) - 1)=((k - 1:Nat):Int):=by rw [bT (by omega) (by omega)];omega
      rw [decide_eq_true (p:=(1:Int) < (k:Int)) (by omega),hk1,bS (xs:=xs) (k:=k - 1) (by omega)]
      rw [aNx (b:=ltB (xs[k - 1]'(by omega)) xs[k]) ⟨fun h _ _=>⟨hl,htk,fun _=>h⟩,fun h=>(h hk h0).2.2 hk2⟩]
      simp only [Bool.not_true,Bool.false_eq_true,if_false,if_pos,aA]
      cases ltB (xs[k - 1]'(by omega)) xs[k]<;>rfl
     ·rw [decide_eq_false (p:=(1:Int) < (k:Int)) (by omega),aJd (fun _ _=>⟨hl,htk,fun h=>absurd h hk2⟩)];rfl
   ·rw [aBa (fun h=>hl (h hk h0).1)]
    rw [Bool.not_eq_true] at hl
    rw [hl];rfl
 ·rw [if_pos (by simp [ht]),aBa (P:=aAT xs) (fun h=>ht (h.2.2.1 (by omega)))]
def aCv (t:cN) (e:Edge):Prop:=(0<=e.F/\e.F<=t.N - 1)/\(0<=e.To/\e.To<=t.N - 1)/\0<=e.B/\e.B<=(t.L.length:Int) - 1
def EdgesOk (t:cN):Prop:=t.E.length<=300/\∀ k,(hk:k < t.E.length)->aCv t t.E[k]/\(1<=k->cK (t.E[k - 1]'(by omega)) t.E[k]=true)
def cM (t:cN):Prop:=(1<=t.N/\t.N<=40)/\(0<=t.I/\t.I<=t.N - 1)/\aAT t.L/\EdgesOk t
theorem aNy (a b:Edge):aFK a b=some (cK a b):=by
 obtain ⟨a1,a2,a3⟩:=a;obtain ⟨b1,b2,b3⟩:=b
 simp only [aFK,cK]
 by_cases h1:a1=b1<;>by_cases h2:a2=b2<;>simp [h1,h2]
theorem nS (n a b:Int):(decide (a<=n)&&decide (n<=b))=true<->a<=n/\n<=b:=by simp
theorem vZ {n a b:Int} (h:¬ (a<=n/\n<=b)):(decide (a<=n)&&decide (n<=b))=false:=by
 cases hx:(decide (a<=n)&&decide (n<=b)) with
 |false=>rfl
 |true=>exact absurd ((nS _ _ _).1 hx) h
theorem aQJ (t:cN) (hf:iD 999999999 t):aIH t=some (cl (cM t)):=by
 obtain ⟨f1,f2,f3⟩:=hf
 unfold aIH
 rw [aGf,aA]
 by_cases na:¬ (1<=t.N/\t.N<=40)
 ·rw [vZ na,Bool.not_false,if_pos rfl,aBa (P:=cM t) (fun h=>na h.1)];rfl
 have a1:1<=t.N/\t.N<=40:=Classical.not_not.1 na
 have w1:wr (t.N - 1)=t.N - 1:=bT (by omega) (by omega)
 rw [if_neg (by rw [←nS] at a1;simp [a1]),w1,aGf,aA]
 by_cases na:¬ (0<=t.I/\t.I<=t.N - 1)
 ·rw [vZ na,Bool.not_false,if_pos rfl,aBa (P:=cM t) (fun h=>na h.2.1)];rfl
 have a2:0<=t.I/\t.I<=t.N - 1:=Classical.not_not.1 na
 rw [if_neg (by rw [←nS] at a2;simp [a2]),aQI _ (fun s hs=>by have:=f2 s hs;omega),aA]
 by_cases na:¬ aAT t.L
 ·rw [if_pos (by rw [aBa na];rfl),aBa (P:=cM t) (fun h=>na h.2.2.1)];rfl
 have a3:aAT t.L:=Classical.not_not.1 na
 rw [if_neg (by rw [aJd a3];simp)]
 unfold yT
 by_cases h300:300 < t.E.length
 ·rw [if_pos (by simp;omega),aBa (P:=cM t) (fun h=>by have:=h.2.2.2.1;omega)]
 rw [if_neg (by simp;omega)]
 have:=aIN (step:=fun s=>aDR t s) t.E.length 0 (fun k=>∀ hk:k < t.E.length,aCv t t.E[k]/\(1<=k->cK (t.E[k - 1]'(by omega)) t.E[k]=true)) (.inr false) (.inl ()) (Nat.zero_le _) (fun k h0 hk=>?_) (by simp only [aDR,jH];rfl)
 ·rw [show (0:Int)=((0:Nat):Int) from rfl,this,aA]
  by_cases hs:∀ k,0<=k->k < t.E.length->∀ hk:k < t.E.length,aCv t t.E[k]/\(1<=k->cK (t.E[k - 1]'(by omega)) t.E[k]=true)
  ·rw [if_pos (aJd hs),aJd (P:=cM t) ⟨a1,a2,a3,by omega,fun k hk=>hs k (by omega) hk hk⟩];rfl
  ·rw [if_neg (by rw [aJJ];exact hs),aBa (P:=cM t) (fun h=>hs fun k _ hk _=>h.2.2.2.2 k hk)]
 ·have wl:wr ((t.L.length:Int) - 1)=(t.L.length:Int) - 1:=bT (by omega) (by omega)
  simp only [aDR,bV hk,if_pos,bS hk,aA,aGf,w1,wl,aBo,aGw,aNy,bQ hk (show t.E.length < 4611686018427387904 by omega)]
  generalize he:t.E[k]=e
  by_cases n1:¬ (0<=e.F/\e.F<=t.N - 1)
  ·have:(decide (0<=e.F)&&decide (e.F<=t.N - 1))=false:=vZ n1
   rw [this,aBa (fun h=>by have:=(h hk).1.1;rw [he] at this;exact n1 this)];rfl
  rw [(nS _ _ _).2 (Classical.not_not.1 n1)]
  by_cases n2:¬ (0<=e.To/\e.To<=t.N - 1)
  ·have:(decide (0<=e.To)&&decide (e.To<=t.N - 1))=false:=vZ n2
   rw [this,aBa (fun h=>by have:=(h hk).1.2.1;rw [he] at this;exact n2 this)];rfl
  rw [(nS _ _ _).2 (Classical.not_not.1 n2)]
  by_cases n3:¬ (0<=e.B/\e.B<=(t.L.length:Int) - 1)
  ·have:(decide (0<=e.B)&&decide (e.B<=(t.L.length:Int) - 1))=false:=vZ n3
   rw [this,aBa (fun h=>by have:=(h hk).1.2.2;rw [he] at this;exact n3 this)];rfl
  rw [(nS _ _ _).2 (Classical.not_not.1 n3)]
  have hin:aCv t t.E[k]:=by rw [he];exact ⟨Classical.not_not.1 n1,Classical.not_not.1 n2,Classical.not_not.1 n3⟩
  by_cases h1:1<=k
  ·have hk1:wr ((k:Int) - 1)=((k - 1:Nat):Int):=by rw [bT (by omega) (by omega)];omega
   rw [decide_eq_true (p:=(0:Int) < (k:Int)) (by omega),hk1,bS (xs:=t.E) (k:=k - 1) (by omega)]
   rw [aNx (b:=cK (t.E[k - 1]'(by omega)) e) ⟨fun h _=>⟨hin,fun _=>by rw [he];exact h⟩,fun h=>by have:=(h hk).2 h1;rw [he] at this;exact this⟩]
   simp only [Bool.not_true,Bool.false_eq_true,if_false,if_pos,aA]
   cases cK (t.E[k - 1]'(by omega)) e<;>rfl
  ·rw [decide_eq_false (p:=(0:Int) < (k:Int)) (by omega),aJd (fun _=>⟨hin,fun h=>absurd h h1⟩)]
   simp only [Bool.not_true,Bool.false_eq_true,if_false];rfl
def aMn (a b:Int):Int:=if a < b then -1 else if b < a then 1 else 0
theorem aJK (a b:Int):eI a b=some (aMn a b):=by
 unfold eI pD aMn
 by_cases h1:a < b<;>by_cases h2:b < a<;>simp [h1,h2]
def or3 (a b c:Int):Int:=if a≠0 then a else if b≠0 then b else c
theorem Or_eq (a b c:Int):xO [a,b,c]=some (or3 a b c):=by
 unfold xO or3
 have s0:jX [a,b,c] 0=if a≠0 then some (.inr (.inr a)) else some (.inl 1):=by
  simp only [jX,show ix [a,b,c] 0=some a from rfl,aA]
  by_cases h:a=0<;>simp [h]<;>rfl
 have s1:jX [a,b,c] 1=if b≠0 then some (.inr (.inr b)) else some (.inl 2):=by
  simp only [jX,show ix [a,b,c] 1=some b from rfl,aA]
  by_cases h:b=0<;>simp [h]<;>rfl
 have s2:jX [a,b,c] 2=if c≠0 then some (.inr (.inr c)) else some (.inl 3):=by
  simp only [jX,show ix [a,b,c] 2=some c from rfl,aA]
  by_cases h:c=0<;>simp [h]<;>rfl
 have s3:jX [a,b,c] 3=some (.inr (.inl ())):=rfl
 by_cases h1:a=0
 ·by_cases h2:b=0
  ·by_cases h3:c=0
   ·rw [cS,s0,if_neg (by simp [h1])];simp only
    rw [cS,s1,if_neg (by simp [h2])];simp only
    rw [cS,s2,if_neg (by simp [h3])];simp only
    rw [cS,s3]
    simp [h1,h2,h3,aBq]
   ·rw [cS,s0,if_neg (by simp [h1])];simp only
    rw [cS,s1,if_neg (by simp [h2])];simp only
    rw [cS,s2,if_pos (by simp [h3])]
    simp [h1,h2]
  ·rw [cS,s0,if_neg (by simp [h1])];simp only
   rw [cS,s1,if_pos h2]
   simp [h1,h2]
 ·rw [cS,s0,if_pos h1]
  simp [h1]
theorem aCw (a b:Edge):sB a b=some (or3 (aMn a.F b.F) (aMn a.B b.B) (aMn a.To b.To)):=by
 unfold sB
 rw [aJK,aA,aJK,aA,aJK,aA,Or_eq];rfl
theorem aPL (a b:Edge):decide (0<=or3 (aMn a.F b.F) (aMn a.B b.B) (aMn a.To b.To))=!cK a b:=by
 obtain ⟨a1,a2,a3⟩:=a;obtain ⟨b1,b2,b3⟩:=b
 simp only [cK,or3,aMn]
 rcases Int.lt_trichotomy a1 b1 with h1|h1|h1<;>rcases Int.lt_trichotomy a2 b2 with h2|h2|h2<;>rcases Int.lt_trichotomy a3 b3 with h3|h3|h3<;>
  simp [h1,h2,h3,Int.not_lt_of_ge,Int.le_of_lt,Int.ne_of_lt,Int.ne_of_gt]<;>omega
theorem aNz (t:cN) (k:Int) (h:-9223372036854775807<=t.N/\t.N<=9223372036854775807):uH t k=some (decide (0<=k)&&decide (k<=t.N - 1)):=by
 unfold uH
 rw [aAg,bT (by omega) (by omega)];rfl
theorem index_eq (k:Int) (n:Nat) (h:n < 1000000000):aMv k (n:Int)=some (decide (0<=k)&&decide (k<=(n:Int) - 1)):=by
 unfold aMv
 rw [aAg,bT (by omega) (by omega)];rfl
theorem aQK (t:cN) (hf:iD 999999999 t):aDS t=some (cl (cM t)):=by
 obtain ⟨f1,f2,f3⟩:=hf
 unfold aDS
 rw [aAg,aA]
 by_cases na:¬ (1<=t.N/\t.N<=40)
 ·rw [vZ na,Bool.not_false,if_pos rfl,aBa (P:=cM t) (fun h=>na h.1)];rfl
 have a1:1<=t.N/\t.N<=40:=Classical.not_not.1 na
 have hst:-9223372036854775807<=t.N/\t.N<=9223372036854775807:=by omega
 rw [if_neg (by rw [←nS] at a1;simp [a1]),aNz t _ hst,aA]
 by_cases na:¬ (0<=t.I/\t.I<=t.N - 1)
 ·rw [vZ na,Bool.not_false,if_pos rfl,aBa (P:=cM t) (fun h=>na h.2.1)];rfl
 have a2:0<=t.I/\t.I<=t.N - 1:=Classical.not_not.1 na
 rw [if_neg (by rw [←nS] at a2;simp [a2]),aAg,aA]
 by_cases na:¬ (1<=(t.L.length:Int)/\(t.L.length:Int)<=12)
 ·rw [vZ na,Bool.not_false,if_pos rfl,aBa (P:=cM t) (fun h=>by have h1:=h.2.2.1.1;have h2:=h.2.2.1.2.1;omega)];rfl
 have a3:1<=(t.L.length:Int)/\(t.L.length:Int)<=12:=Classical.not_not.1 na
 rw [if_neg (by rw [←nS] at a3;simp [a3])]
 unfold rB
 by_cases h300:300 < t.E.length
 ·rw [if_pos (by simp;omega),aBa (P:=cM t) (fun h=>by have:=h.2.2.2.1;omega)]
 rw [if_neg (by simp;omega)]
 have hlabs:=aIN (step:=fun s=>xQ t s) t.L.length 0 (fun k=>∀ hk:k < t.L.length,rK t.L[k]=true/\(t.L[k]=eQ<->k=0)/\(2<=k->ltB (t.L[k - 1]'(by omega)) t.L[k]=true)) (.inr false) (.inl ()) (Nat.zero_le _) (fun k h0 hk=>?_) (by simp only [xQ,jH];rfl)
 ·rw [show (0:Int)=((0:Nat):Int) from rfl,hlabs,aA]
  by_cases hs:∀ k,0<=k->k < t.L.length->∀ hk:k < t.L.length,rK t.L[k]=true/\(t.L[k]=eQ<->k=0)/\(2<=k->ltB (t.L[k - 1]'(by omega)) t.L[k]=true)
  ·rw [if_pos (aJd hs)]
   have a4:aAT t.L:=⟨by omega,by omega,fun h=>(hs 0 (by omega) h h).2.1.2 rfl,fun k h1 hk=>⟨(hs k (by omega) hk hk).1,fun e=>by have:=(hs k (by omega) hk hk).2.1.1 e;omega,(hs k (by omega) hk hk).2.2⟩⟩
   simp only
   unfold aBE
   have:=aIN (step:=fun s=>xP t s) t.E.length 0 (fun k=>∀ hk:k < t.E.length,aCv t t.E[k]/\(1<=k->cK (t.E[k - 1]'(by omega)) t.E[k]=true)) (.inr false) (.inl ()) (Nat.zero_le _) (fun k h0 hk=>?_) (by simp only [xP,jH];rfl)
   ·rw [show (0:Int)=((0:Nat):Int) from rfl,this,aA]
    by_cases hs:∀ k,0<=k->k < t.E.length->∀ hk:k < t.E.length,aCv t t.E[k]/\(1<=k->cK (t.E[k - 1]'(by omega)) t.E[k]=true)
    ·rw [if_pos (aJd hs),aJd (P:=cM t) ⟨a1,a2,a4,by omega,fun k hk=>hs k (by omega) hk hk⟩];rfl
    ·rw [if_neg (by rw [aJJ];exact hs),aBa (P:=cM t) (fun h=>hs fun k _ hk _=>h.2.2.2.2 k hk)]
   ·simp only [xP,bV hk,if_pos,bS hk,aA,aNz t _ hst,index_eq _ _ (show t.L.length < 1000000000 by omega),rA,aCw,aPL,bQ hk (show t.E.length < 4611686018427387904 by omega)]
    generalize he:t.E[k]=e
    by_cases n1:¬ (0<=e.F/\e.F<=t.N - 1)
    ·have:(decide (0<=e.F)&&decide (e.F<=t.N - 1))=false:=vZ n1
     rw [this,aBa (fun h=>by have:=(h hk).1.1;rw [he] at this;exact n1 this)];rfl
    rw [(nS _ _ _).2 (Classical.not_not.1 n1)]
    by_cases n2:¬ (0<=e.To/\e.To<=t.N - 1)
    ·have:(decide (0<=e.To)&&decide (e.To<=t.N - 1))=false:=vZ n2
     rw [this,aBa (fun h=>by have:=(h hk).1.2.1;rw [he] at this;exact n2 this)];rfl
    rw [(nS _ _ _).2 (Classical.not_not.1 n2)]
    by_cases n3:¬ (0<=e.B/\e.B<=(t.L.length:Int) - 1)
    ·have:(decide (0<=e.B)&&decide (e.B<=(t.L.length:Int) - 1))=false:=vZ n3
     rw [this,aBa (fun h=>by have:=(h hk).1.2.2;rw [he] at this;exact n3 this)];rfl
    rw [(nS _ _ _).2 (Classical.not_not.1 n3)]
    have hin:aCv t t.E[k]:=by rw [he];exact ⟨Classical.not_not.1 n1,Classical.not_not.1 n2,Classical.not_not.1 n3⟩
    by_cases h1:1<=k
    ·have hk1:wr ((k:Int) - 1)=((k - 1:Nat):Int):=by rw [bT (by omega) (by omega)];omega
     rw [decide_eq_true (p:=(0:Int) < (k:Int)) (by omega),hk1,bS (xs:=t.E) (k:=k - 1) (by omega)]
     rw [aNx (b:=cK (t.E[k - 1]'(by omega)) e) ⟨fun h _=>⟨hin,fun _=>by rw [he];exact h⟩,fun h=>by have:=(h hk).2 h1;rw [he] at this;exact this⟩]
     simp only [Bool.not_true,Bool.false_eq_true,if_false,if_pos,aA]
     cases cK (t.E[k - 1]'(by omega)) e<;>rfl
    ·rw [decide_eq_false (p:=(0:Int) < (k:Int)) (by omega),aJd (fun _=>⟨hin,fun h=>absurd h h1⟩)]
     simp only [Bool.not_true,Bool.false_eq_true,if_false];rfl
  ·rw [if_neg (by rw [aJJ];exact hs),aBa (P:=cM t) (fun h=>hs fun k _ hk _=>?_)]
   obtain ⟨l1,l2,l3,l4⟩:=h.2.2.1
   by_cases hk0:k=0
   ·subst hk0
    exact ⟨by rw [l3 hk];exact aOL,⟨fun _=>rfl,fun _=>l3 hk⟩,fun h=>by omega⟩
   ·have:=l4 k (by omega) hk
    exact ⟨this.1,⟨fun e=>absurd e this.2.1,fun e=>absurd e hk0⟩,this.2.2⟩
 ·simp only [xQ,bV hk,if_pos,bS hk,aA,aGI _ (show t.L[k].length < 1000000000 by have:=f2 _ (List.getElem_mem hk);omega),uI,bQ hk (show t.L.length < 4611686018427387904 by omega),ltB_ge]
  rw [show ([116,97,117]:aJ)=eQ from rfl]
  by_cases hl:rK t.L[k]=true
  ·rw [hl]
   have e0:((k:Int) == 0)=decide (k=0):=by by_cases e:k=0<;>simp [e]
   by_cases htk:(t.L[k]=eQ<->k=0)
   ·have:((t.L[k] == eQ) != ((k:Int) == 0))=false:=by
     rw [e0]
     by_cases e:k=0
     ·have:=htk.2 e;rw [this];simp [e]
     ·have:¬ t.L[k]=eQ:=fun h=>e (htk.1 h)
      simp [this,e]
    rw [this]
    by_cases hk2:2<=k
    ·have hk1:wr ((k:Int) - 1)=((k - 1:Nat):Int):=by rw [bT (by omega) (by omega)];omega
     rw [decide_eq_true (p:=(1:Int) < (k:Int)) (by omega),hk1,bS (xs:=t.L) (k:=k - 1) (by omega)]
     rw [aNx (b:=ltB (t.L[k - 1]'(by omega)) t.L[k]) ⟨fun h _=>⟨hl,htk,fun _=>h⟩,fun h=>(h hk).2.2 hk2⟩]
     simp only [Bool.not_true,Bool.false_eq_true,if_false,if_pos,aA,ltB_ge]
     cases ltB (t.L[k - 1]'(by omega)) t.L[k]<;>rfl
    ·rw [decide_eq_false (p:=(1:Int) < (k:Int)) (by omega),aJd (fun _=>⟨hl,htk,fun h=>absurd h hk2⟩)];rfl
   ·have:((t.L[k] == eQ) != ((k:Int) == 0))=true:=by
     rw [e0]
     by_cases e:k=0
     ·have:¬ t.L[k]=eQ:=fun h=>htk ⟨fun _=>e,fun _=>h⟩
      rw [beq_false_of_ne this];simp [e]
     ·have:t.L[k]=eQ:=Classical.byContradiction fun h=>htk ⟨fun h'=>absurd h' h,fun h'=>absurd h' e⟩
      simp [this,e]
    rw [this,aBa (fun h=>htk (h hk).2.1)];rfl
  ·rw [aBa (fun h=>hl (h hk).1)]
   rw [Bool.not_eq_true] at hl
   rw [hl];rfl
def Single (t:cN):Prop:=∀ k,(hk:k < t.E.length)->t.E[k].B≠0/\(1<=k->¬ (t.E[k].F=(t.E[k - 1]'(by omega)).F/\t.E[k].B=(t.E[k - 1]'(by omega)).B))
end Gv
namespace Gv
open Go
theorem aRQ {α:Type} {R:α->α->Prop} (tr:∀ {a b c},R a b->R b c->R a c) {xs:List α} (h:∀ k,1<=k->(hk:k < xs.length)->R (xs[k - 1]'(by omega)) xs[k]) {i j:Nat} (hij:i < j) (hj:j < xs.length):R (xs[i]'(by omega)) xs[j]:=by
 induction j with
 |zero=>omega
 |succ j ih=>
  have h1:=h (j+1) (by omega) hj
  simp only [Nat.add_sub_cancel] at h1
  by_cases e:i=j
  ·subst e;exact h1
  ·exact tr (ih (by omega) (by omega)) h1
def txt (t:cN) (e:Edge):aJ:=t.L.getD e.B.toNat []
def flLt (a b:Edge):Prop:=a.F < b.F\/(a.F=b.F/\a.B < b.B)
theorem labs_lt {xs:List aJ} (h:aAT xs) {i j:Nat} (hi:1<=i) (hij:i < j) (hj:j < xs.length):ltB (xs[i]'(by omega)) xs[j]=true:=by
 induction j with
 |zero=>omega
 |succ j ih=>
  have h1:=(h.2.2.2 (j+1) (by omega) hj).2.2 (by omega)
  simp only [Nat.add_sub_cancel] at h1
  by_cases e:i=j
  ·subst e;exact h1
  ·exact aBz (ih (by omega) (by omega)) h1
theorem aIO {t:cN} (hv:cM t) {e:Edge} (he:e∈t.E):aCv t e:=by
 obtain ⟨k,hk,rfl⟩:=List.mem_iff_getElem.1 he
 exact (hv.2.2.2.2 k hk).1
theorem aQL {t:cN} {e:Edge} (he:aCv t e):ix t.L e.B=some (txt t e):=by
 obtain ⟨_,_,h1,h2⟩:=he
 rw [aHq h1 (by omega)]
 unfold txt;rw [List.getD_eq_getElem?_getD,List.getElem?_eq_getElem (by omega)];rfl
def hit (t:cN) (q:Int) (s:aJ) (e:Edge):Bool:=e.F == q&&txt t e == s
def goF (t:cN) (q:Int) (s:aJ):Int:=match t.E.find? (hit t q s) with|some e=>e.To|none=>-1
theorem goF_lt {t:cN} (hv:cM t) (q:Int) (s:aJ):-1<=goF t q s/\goF t q s<=t.N - 1:=by
 unfold goF
 cases hx:t.E.find? (hit t q s) with
 |none=>have:=hv.1;simp only;omega
 |some e=>have:=(aIO hv (List.mem_of_find?_eq_some hx)).2.1;simp only;omega
theorem aIv {β γ ρ:Type} {step:(List γ × Int)->Option ((List γ × Int) ⊕ ρ)} (xs:List β) (p:β->Bool) (f:β->γ) (e:List γ->ρ)
  (h:∀ (k:Nat) out x,k < xs.length->out.length<=k->ix xs (k:Int)=some x->step (out,(k:Int))=some (.inl (if p x=true then out++[f x] else out,((k+1:Nat):Int))))
  (h':∀ out,step (out,(xs.length:Int))=some (.inr (e out))):loop step ([],0)=some (e ((xs.filter p).map f)):=by
 have:=aBw (step:=step) xs (fun k out=>(out,(k:Int))) (fun l out=>e (out++(l.filter p).map f)) (fun k out=>out.length<=k) (fun k a x l hk hx hI=>?_) (fun a _=>by simp [h']) (a:=[]) (by simp)
 ·simpa using this
 ·left;rw [h k a x hk hI hx]
  by_cases hp:p x=true
  ·exact ⟨a++[f x],by rw [if_pos hp],by simp;omega,by simp [hp]⟩
  ·exact ⟨a,by rw [if_neg hp],by omega,by simp [hp]⟩
theorem out_eq (t:cN) (q:Int) (h:t.E.length < 1000000000):aFP t q=some (t.E.filter fun e=>e.F == q):=by
 unfold aFP
 rw [aIv (step:=fun s:List Edge × Int=>aAB t q s.1 s.2) t.E (fun e=>e.F == q) id id (fun k out x hk ho hx=>?_) (fun out=>by simp only [aAB,jH];rfl),aA]
 ·simp [aGy]
 ·simp only [aAB,bV hk,if_pos,hx,aA,aAA,bQ hk (show t.E.length < 4611686018427387904 by omega)]
  rw [cG (by simp [iE];omega),aA]
  cases x.F == q<;>rfl
end Gv
namespace Gv
open Go
theorem dO {σ ρ α:Type} {step:σ->Option (σ ⊕ ρ)} (n:Nat) (g:Nat->α->σ) (I:Nat->α->Prop) (R:ρ->Prop)
  (h:∀ k a,k < n->I k a->∃ a',step (g k a)=some (.inl (g (k+1) a'))/\I (k+1) a')
  (h':∀ a,I n a->∃ r,step (g n a)=some (.inr r)/\R r):∀ j k a,k+j=n->I k a->∃ r,loop step (g k a)=some r/\R r
 |0,k,a,e,hI=>by
  obtain rfl:k=n:=by omega
  obtain ⟨r,h1,h2⟩:=h' a hI
  exact ⟨r,by rw [cS,h1],h2⟩
 |j+1,k,a,e,hI=>by
  obtain ⟨a',h1,h2⟩:=h k a (by omega) hI
  rw [cS,h1]
  exact dO n g I R h h' j (k+1) a' (by omega) h2
structure Adv (b:Bool) (G:List Bool->Prop) (m0 m:List Bool) (ag:Bool):Prop where
 good:G m
 le:m.count b<=m0.count b
 lt:ag=true->m.count b < m0.count b
 eq:ag=false->m=m0
theorem Adv.refl {b:Bool} {G:List Bool->Prop} {m:List Bool} (h:G m):Adv b G m m false:=⟨h,Nat.le_refl _,fun h=>(by cases h),fun _=>rfl⟩
section
variable (p:cN) (L:List aJ)
inductive Lv:Int->Prop
 |out {q:Int} {s:aJ}:s∈L->goF p q s < 0->Lv q
 |go {q:Int} {s:aJ}:s∈L->0<=goF p q s->Lv (goF p q s)->Lv q
def St (q:Int):Prop:=∃ S:Int->Prop,S q/\∀ z,S z->L=[]\/∃ s∈L,0<=goF p z s/\S (goF p z s)
noncomputable def rowL:List Bool:=(List.range p.N.toNat).map fun (q:Nat)=>cl (Lv p L (q:Int))
noncomputable def rowS:List Bool:=(List.range p.N.toNat).map fun (q:Nat)=>cl (St p L (q:Int))
def lvB (m:List Bool) (q:Int):Bool:=L.any fun s=>decide (goF p q s < 0)||m.getD (goF p q s).toNat false
def stB (m:List Bool) (q:Int):Bool:=L.any fun s=>decide (0<=goF p q s)&&m.getD (goF p q s).toNat false
def GL (m:List Bool):Prop:=m.length=p.N.toNat/\∀ q:Nat,m[q]?=some true->Lv p L (q:Int)
def CL (m:List Bool):Prop:=∀ q:Nat,m[q]?=some false->lvB p L m (q:Int)=false
def GS (m:List Bool):Prop:=m.length=p.N.toNat/\∀ q:Nat,m[q]?=some false->¬ St p L (q:Int)
def CS (m:List Bool):Prop:=∀ q:Nat,m[q]?=some true->L=[]\/stB p L m (q:Int)=true
end
section
variable {p:cN} {L:List aJ} {m:List Bool}
theorem GL.row (hv:cM p) (h:GL p L m) (hc:CL p L m):m=rowL p L:=by
 have key:∀ z,Lv p L z->0<=z->z < p.N->m[z.toNat]?=some true:=by
  intro z hz
  induction hz with
  |out hs hn=>
   rename_i q s
   intro h0 h1
   cases hx:m[q.toNat]? with
   |none=>rw [List.getElem?_eq_none_iff] at hx;have:=h.1;omega
   |some x=>
    cases x with
    |true=>rfl
    |false=>
     have:=hc q.toNat hx
     unfold lvB at this
     rw [List.any_eq_false] at this
     have:=this s hs
     rw [show ((q.toNat:Nat):Int)=q by omega,decide_eq_true hn] at this
     simp at this
  |go hs hn hg ih=>
   rename_i q s
   intro h0 h1
   have:=ih hn (by have:=(goF_lt hv q s).2;omega)
   cases hx:m[q.toNat]? with
   |none=>rw [List.getElem?_eq_none_iff] at hx;have:=h.1;omega
   |some x=>
    cases x with
    |true=>rfl
    |false=>
     have hf:=hc q.toNat hx
     unfold lvB at hf
     rw [List.any_eq_false] at hf
     have hf:=hf s hs
     rw [show ((q.toNat:Nat):Int)=q by omega,List.getD_eq_getElem?_getD,this] at hf
     simp at hf
 unfold rowL
 refine List.ext_getElem? fun q=>?_
 by_cases hq:q < p.N.toNat
 ·have hlen:=h.1
  rw [List.getElem?_map,List.getElem?_range hq,Option.map_some]
  cases hx:m[q]? with
  |none=>rw [List.getElem?_eq_none_iff] at hx;omega
  |some x=>
   congr 1
   symm
   apply aNx
   refine ⟨fun e=>h.2 q (by rw [hx,e]),fun e=>?_⟩
   have:=key (q:Int) e (by omega) (by omega)
   simp only [Int.toNat_natCast] at this
   rw [hx] at this;simpa using this
 ·rw [List.getElem?_eq_none (by have:=h.1;omega),List.getElem?_eq_none (by simp;omega)]
theorem GS.row (h:GS p L m) (hc:CS p L m):m=rowS p L:=by
 unfold rowS
 refine List.ext_getElem? fun q=>?_
 by_cases hq:q < p.N.toNat
 ·have hlen:=h.1
  rw [List.getElem?_map,List.getElem?_range hq,Option.map_some]
  cases hx:m[q]? with
  |none=>rw [List.getElem?_eq_none_iff] at hx;omega
  |some x=>
   congr 1
   symm
   apply aNx
   constructor
   ·rintro rfl
    refine ⟨fun z=>0<=z/\m[z.toNat]?=some true,⟨by omega,by simpa using hx⟩,fun z hz=>?_⟩
    rcases hc z.toNat hz.2 with h1|h1
    ·exact .inl h1
    ·right
     rw [show ((z.toNat:Nat):Int)=z by omega] at h1
     unfold stB at h1
     rw [List.any_eq_true] at h1
     obtain ⟨s,hs,h2⟩:=h1
     simp only [Bool.and_eq_true,decide_eq_true_eq] at h2
     refine ⟨s,hs,h2.1,h2.1,?_⟩
     have h3:=h2.2
     rw [List.getD_eq_getElem?_getD] at h3
     cases hy:m[(goF p z s).toNat]? with
     |none=>rw [hy] at h3;cases h3
     |some y=>rw [hy] at h3;simp at h3;rw [h3]
   ·intro hs
    cases x with
    |true=>rfl
    |false=>exact absurd hs (h.2 q hx)
 ·rw [List.getElem?_eq_none (by have:=h.1;omega),List.getElem?_eq_none (by simp;omega)]
end
end Gv
namespace Gv
open Go
structure One (t:cN):Prop where
 ok:cM t
 single:Single t
 one:t.N=1
theorem One.len {t:cN} (h:One t):t.E.length<=300:=h.ok.2.2.2.1
theorem ix_getD {m:List Bool} {q:Int} (h0:0<=q) (h:q.toNat < m.length):ix m q=some (m.getD q.toNat false):=by
 rw [aHq h0 h,List.getD_eq_getElem?_getD,List.getElem?_eq_getElem h];rfl
end Gv
namespace Gv
open Go
theorem Repeat_eq (b:Bool) (n:Nat) (h1:1<=n) (h:n<=100000):gG [b] (n:Int)=some (List.replicate n b):=by
 unfold gG
 rw [if_neg (by simp)]
 unfold iB
 have hm:aLE (oV (([b]:List Bool).length:Int)) (oV (n:Int))=some (0,(n:Int)):=by
  have e1:oV (([b]:List Bool).length:Int)=1:=by simp [oV]
  have e2:oV (n:Int)=(n:Int):=by unfold oV;omega
  rw [e1,e2];unfold aLE
  rw [if_pos ⟨by omega,by omega,by omega,by omega⟩]
  simp only [Int.one_mul,Option.some.injEq,Prod.mk.injEq]
  omega
 rw [hm,aA]
 simp only
 rw [if_neg (by simp),decide_eq_false (p:=(9223372036854775807:Int) < (n:Int)) (by omega)]
 unfold fH
 rw [if_neg (by simp)]
 unfold iA
 simp only
 rw [bT (by omega) (by omega),aBx _ (by simp [iE];omega),aA]
 have hmin:Nat.min ([b]:List Bool).length (List.replicate n false).length=1:=by
  show min _ _=1
  simp;omega
 rw [hmin]
 have ho:ovw (List.replicate n false) 0 (([b]:List Bool).take 1)=some (b::List.replicate (n - 1) false):=by
  unfold ovw
  rw [if_pos ⟨by omega,by simp;omega⟩]
  simp
 rw [ho,aA]
 have hL:=lQ (step:=fun s:List Bool × Int=>hY s.1 s.2) (fun s=>1<=s.2/\s.2<=n/\s.1.length=n/\s.1.take s.2.toNat=List.replicate s.2.toNat b) (fun s=>(n - s.2).toNat) (fun r=>r=List.replicate n b) (fun s hI=>?_) (s:=(b::List.replicate (n - 1) false,1)) ⟨by simp,by simp only;omega,by simp;omega,by simp⟩
 ·obtain ⟨r,hr,hR⟩:=hL
  rw [show (((1:Nat):Int))=1 from rfl,hr,aA,hR];rfl
 ·obtain ⟨m,i⟩:=s
  obtain ⟨h1,h2,h3,h4⟩:=hI
  simp only at h1 h2 h3 h4 ⊢
  obtain ⟨k,rfl⟩:∃ k:Nat,i=(k:Int):=⟨i.toNat,by omega⟩
  rw [Int.toNat_natCast] at h4
  unfold hY
  by_cases hk:k < n
  ·left
   have s1:slc m (k:Int) (m.length:Int)=some (m.drop k):=by
    unfold slc;rw [if_pos ⟨by omega,by omega,by omega⟩]
    rw [Int.toNat_natCast,Int.toNat_natCast,List.take_of_length_le (by simp)]
   have s2:slc m 0 (k:Int)=some (m.take k):=by
    unfold slc;rw [if_pos ⟨by omega,by omega,by omega⟩];simp
   rw [h3] at s1 ⊢
   rw [if_pos (bV hk),s1,aA,s2,aA,h4]
   have hl:(m.drop k).length=n - k:=by simp [h3]
   rw [hl,List.length_replicate]
   generalize hd:Nat.min k (n - k)=d
   have hd1:d<=k/\d<=n - k/\1<=d:=by
    have:Nat.min k (n - k)=min k (n - k):=rfl
    omega
   have hov:ovw m (k:Int) ((List.replicate k b).take d)=some (List.replicate (k+d) b++m.drop (k+d)):=by
    unfold ovw
    have hl2:((List.replicate k b).take d).length=d:=by simp;omega
    rw [if_pos ⟨by omega,by rw [hl2,Int.toNat_natCast];omega⟩,hl2,Int.toNat_natCast,h4,List.take_replicate]
    rw [show min d k=d by omega,List.replicate_append_replicate]
   rw [hov,aA]
   have hw:wr ((k:Int)+((d:Nat):Int))=((k+d:Nat):Int):=by rw [bT (by omega) (by omega)];omega
   rw [hw]
   refine ⟨_,rfl,⟨by simp only;omega,by simp only;omega,by simp [h3];omega,?_⟩,by simp only;omega⟩
   simp only [Int.toNat_natCast]
   rw [List.take_append_of_le_length (by simp),List.take_of_length_le (by simp)]
  ·right
   obtain rfl:k=n:=by omega
   rw [h3,if_neg (by simp)]
   rw [List.take_of_length_le (by omega)] at h4
   exact ⟨_,rfl,h4⟩
end Gv
