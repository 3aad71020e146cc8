/- Networks: the laws' measures, copies, comparisons and marks. -/
import Derived.Test.YthbfapccpmppoaaGreatDoorJP50
set_option linter.all false
namespace Gv
theorem szList {β:Type} {f:β->Int->Option Int} {step:(Int × Int)->Option ((Int × Int) ⊕ (Int ⊕ Int))} {a:List β} {ok:β->Prop} {left:Int} (h0:0<=left) (hl:left<=sz) (ha:a.length < 9223372036854775808)
  (hf:∀ x∈a,∀ l:Int,0<=l->l<=sz->∃ r,f x l=some r/\(0<=r->r<=l/\ok x))
  (hs:∀ (k:Nat) (l:Int) x,k < a.length->a.length<=sz->ix a (k:Int)=some x->step (l,(k:Int))=ob (f x l) fun r=>if decide (r < 0)=true then some (.inr (.inr (-1))) else some (.inl (r,((k+1:Nat):Int))))
  (hs':∀ l,step (l,(a.length:Int))=some (.inr (.inl l))):
  ∃ r,(if (decide (wr (left - (a.length:Int)) < 0)) then (some (-1)) else (ob (loop step (wr (left - (a.length:Int)),0)) fun r=>match r with|.inl r=>some r|.inr r=>some r))=some r/\(0<=r->r<=left/\(a.length:Int)<=left/\∀ x∈a,ok x):=by
 have e1:wr (left - (a.length:Int))=left - (a.length:Int):=by unfold wr;unfold sz at hl;omega
 rw [e1]
 by_cases hneg:left - (a.length:Int) < 0
 ·exact ⟨-1,by rw [if_pos (by simpa using hneg)],by omega⟩
 rw [if_neg (by simpa using hneg)]
 have hal:a.length<=sz:=by omega
 have hL:=aBJ (step:=step) (fun s=>0<=s.1/\s.1<=left - a.length/\0<=s.2/\s.2<=a.length/\∀ j x,j < s.2.toNat->a[j]?=some x->ok x) (fun s=>a.length - s.2.toNat) (fun r=>r=.inr (-1)\/∃ l,r=.inl l/\l<=left/\∀ x∈a,ok x) (fun s hI=>?_) (s:=(left - (a.length:Int),0)) ⟨by simp only;omega,by simp only;omega,by simp,by simp,fun j x hj _=>by simp at hj⟩
 ·obtain ⟨r,hr,hR⟩:=hL
  rw [hr,aA]
  rcases hR with rfl|⟨l,rfl,h1,h2⟩
  ·exact ⟨-1,rfl,by omega⟩
  ·exact ⟨l,rfl,fun _=>⟨h1,by omega,h2⟩⟩
 ·obtain ⟨l,i⟩:=s
  obtain ⟨h1,h2,h3,h4,h5⟩:=hI
  simp only at h1 h2 h3 h4 h5 ⊢
  obtain ⟨k,rfl⟩:∃ k:Nat,i=(k:Int):=⟨i.toNat,by omega⟩
  by_cases hk:k < a.length
  ·have hx:ix a (k:Int)=some a[k]:=by rw [dQ];simp [hk]
   obtain ⟨r,hr,hok⟩:=hf a[k] (List.getElem_mem hk) l h1 (by omega)
   rw [hs k l _ hk hal hx,hr,aA]
   by_cases hn:r < 0
   ·right;rw [if_pos (by simpa using hn)];exact ⟨_,rfl,.inl rfl⟩
   ·left
    rw [if_neg (by simpa using hn)]
    obtain ⟨g1,g2⟩:=hok (by omega)
    refine ⟨_,rfl,⟨by simp only;omega,by simp only;omega,by simp only;omega,by simp only;omega,?_⟩,by simp only;omega⟩
    intro j x hj hx
    simp only at hj
    by_cases e:j=k
    ·obtain ⟨_,rfl⟩:=List.getElem?_eq_some_iff.1 hx;subst e;exact g2
    ·exact h5 j x (by omega) hx
  ·obtain rfl:k=a.length:=by omega
   right
   rw [hs' l]
   refine ⟨_,rfl,.inr ⟨l,rfl,by omega,?_⟩⟩
   intro x hx
   obtain ⟨j,hj,rfl⟩:=List.mem_iff_getElem.1 hx
   exact h5 j _ (by omega) (by simp [hj])
def aKd (n:Nat) (m:bB):Prop:=m.Left.length<=n/\m.Right.length<=n/\m.Result.length<=n
end Gv
namespace Gv
end Gv
namespace Gv
def mlt (a b:bB):Bool:=pM a.Left b.Left||(a.Left == b.Left&&pM a.Right b.Right)
def cS (x y:aL):Int:=if pM x y then -1 else if x=y then 0 else 1
theorem cmpS_eq (x y:aL):iZ x y=some (cS x y):=by
 unfold iZ mK cS
 simp only [BEq.rfl,Bool.not_true,aA,Bool.false_eq_true,if_false]
 by_cases h1:pM x y=true
 ·simp [h1]
 ·have h1':pM x y=false:=by simpa using h1
  by_cases h2:x=y
  ·subst h2;simp [h1']
  ·simp [h1',h2]
theorem cmpM (a b:bB):∃ v,lZ a b=some v/\decide (0<=v)=!mlt a b:=by
 unfold lZ fO mlt
 have s0:bS [a.Left,a.Right] [b.Left,b.Right] 0=if (cS a.Left b.Left != 0)=true then some (.inr (.inr (cS a.Left b.Left))) else some (.inl 1):=by
  unfold bS
  rw [if_pos (by simp),show ix ([a.Left,a.Right]:List aL) 0=some a.Left from rfl,aA,if_neg (by simp),show ix ([b.Left,b.Right]:List aL) 0=some b.Left from rfl,aA,cmpS_eq,aA]
  rfl
 have s1:bS [a.Left,a.Right] [b.Left,b.Right] 1=if (cS a.Right b.Right != 0)=true then some (.inr (.inr (cS a.Right b.Right))) else some (.inl 2):=by
  unfold bS
  rw [if_pos (by simp),show ix ([a.Left,a.Right]:List aL) 1=some a.Right from rfl,aA,if_neg (by simp),show ix ([b.Left,b.Right]:List aL) 1=some b.Right from rfl,aA,cmpS_eq,aA]
  rfl
 have s2:bS [a.Left,a.Right] [b.Left,b.Right] 2=some (.inr (.inl ())):=by
  unfold bS
  rw [if_neg (by simp)]
 by_cases h1:pM a.Left b.Left=true
 ·have c0:cS a.Left b.Left=-1:=by unfold cS;rw [if_pos h1]
  rw [c0] at s0
  rw [bD,s0]
  exact ⟨-1,rfl,by rw [h1];rfl⟩
 have h1':pM a.Left b.Left=false:=by simpa using h1
 by_cases h2:a.Left=b.Left
 ·have c0:cS a.Left b.Left=0:=by unfold cS;rw [if_neg h1,if_pos h2]
  rw [c0] at s0
  have s0':bS [a.Left,a.Right] [b.Left,b.Right] 0=some (.inl 1):=s0
  rw [bD,s0']
  have e2:(a.Left == b.Left)=true:=by rw [h2];exact BEq.rfl
  by_cases h3:pM a.Right b.Right=true
  ·have c1:cS a.Right b.Right=-1:=by unfold cS;rw [if_pos h3]
   rw [c1] at s1
   simp only
   rw [bD,s1]
   exact ⟨-1,rfl,by rw [h1',e2,h3];rfl⟩
  have h3':pM a.Right b.Right=false:=by simpa using h3
  by_cases h4:a.Right=b.Right
  ·have c1:cS a.Right b.Right=0:=by unfold cS;rw [if_neg h3,if_pos h4]
   rw [c1] at s1
   have s1':bS [a.Left,a.Right] [b.Left,b.Right] 1=some (.inl 2):=s1
   simp only
   rw [bD,s1']
   simp only
   rw [bD,s2]
   exact ⟨0,rfl,by rw [h1',e2,h3'];rfl⟩
  ·have c1:cS a.Right b.Right=1:=by unfold cS;rw [if_neg h3,if_neg h4]
   rw [c1] at s1
   simp only
   rw [bD,s1]
   exact ⟨1,rfl,by rw [h1',e2,h3'];rfl⟩
 ·have c0:cS a.Left b.Left=1:=by unfold cS;rw [if_neg h1,if_neg h2]
  rw [c0] at s0
  rw [bD,s0]
  have e2:(a.Left == b.Left)=false:=by simpa using h2
  exact ⟨1,rfl,by rw [h1',e2];rfl⟩
def aIa (ms:List bB) (m:bB):Bool:=ms.any fun o=>o.Left == m.Result||o.Right == m.Result
theorem clash_i (ms:List bB) (m:bB) (h:ms.length < 4000000):dF ms m=some (aIa ms m):=by
 unfold dF dM
 have hl:=aHh (step:=fun s=>cG ms m s) ms (fun o=>o.Left == m.Result||o.Right == m.Result) (fun k x hk hx=>by
  have hw:=bO hk (show ms.length < 4611686018427387904 by omega)
  simp only [cG,bV hk,if_pos,hx,aA,hw]
  unfold uE oA
  by_cases h1:(x.Left == m.Result)=true
  ·rw [if_pos h1,h1,Bool.true_or,aA]
  ·have h1':(x.Left == m.Result)=false:=by simpa using h1
   rw [if_neg h1,h1',Bool.false_or,aA]) (by simp only [cG,bL];rfl)
 rw [hl,aA]
 unfold aIa
 cases hf:ms.findIdx? (fun o:bB=>o.Left == m.Result||o.Right == m.Result) with
 |none=>
  have:ms.any (fun o:bB=>o.Left == m.Result||o.Right == m.Result)=false:=by
   rw [List.any_eq_false]
   intro x hx
   exact List.findIdx?_eq_none_iff.1 hf x hx ▸ (by simp)
  rw [this];rfl
 |some i=>
  obtain ⟨hi,hp,_⟩:=List.findIdx?_eq_some_iff_getElem.1 hf
  have:ms.any (fun o:bB=>o.Left == m.Result||o.Right == m.Result)=true:=List.any_eq_true.2 ⟨_,List.getElem_mem hi,hp⟩
  rw [this];simp [aA]
def mtB (ms:List bB) (k:Nat) (m:bB):Bool:=gH m.Left&&gH m.Right&&gH m.Result&&!pM m.Right m.Left&&(k == 0||mlt (ms.getD (k - 1) ⟨[],[],[]⟩) m)&&!aIa ms m
theorem le_not (a b:aL):(pM a b||a == b)=!pM b a:=aPp b a
theorem meet_i (ms:List bB) (hl:ms.length<=sz) (hm:∀ m∈ms,aKd sz m) {k:Nat} (hk:k < ms.length):iO ms (k:Int)=if mtB ms k ms[k]=true then some (.inl ((k+1:Nat):Int)) else some (.inr (.inr false)):=by
 obtain ⟨b1,b2,b3⟩:=hm _ (List.getElem_mem hk)
 unfold sz at b1 b2 b3 hl
 generalize hx:ms[k]=x at *
 have hwk:=bO hk (show ms.length < 4611686018427387904 by omega)
 have hj:∀ v,fX ms (k:Int) x v=if (!v&&!aIa ms x)=true then some (.inl ((k+1:Nat):Int)) else some (.inr (.inr false)):=by
  intro v
  unfold fX
  rw [clash_i _ _ (by omega),hwk]
  cases v<;>cases aIa ms x<;>rfl
 unfold iO mtB
 rw [if_pos (bV hk),bY hk,hx,aA,rG _ (by omega),aA]
 cases gH x.Left with
 |false=>simp [hj]
 |true=>
  rw [if_neg (by simp),rG _ (by omega),aA]
  cases gH x.Right with
  |false=>simp [hj]
  |true=>
   rw [if_neg (by simp),rG _ (by omega),aA]
   cases gH x.Result with
   |false=>simp [hj]
   |true=>
    rw [if_neg (by simp),le_not]
    cases pM x.Right x.Left with
    |true=>simp [hj]
    |false=>
     rw [if_neg (by simp)]
     by_cases h0:0 < k
     ·have hw:wr ((k:Int) - 1)=((k - 1:Nat):Int):=by rw [dW (by omega) (by omega)];omega
      obtain ⟨v,v1,v2⟩:=cmpM (ms[k - 1]'(by omega)) x
      rw [if_pos (by simp only [decide_eq_true_eq];omega),hw,bY (show k - 1 < ms.length by omega),aA,v1,aA,v2,hj]
      have e:ms.getD (k - 1) ⟨[],[],[]⟩=ms[k - 1]'(by omega):=by rw [List.getD_eq_getElem?_getD,List.getElem?_eq_getElem (by omega)];rfl
      have e0:(k == 0)=false:=by simp;omega
      rw [e,e0]
      simp
     ·obtain rfl:k=0:=by omega
      rw [if_neg (by simp),hj]
      simp
theorem meet_s (ms:List bB) (hl:ms.length<=sz) {k:Nat} (hk:k < ms.length):kU ms (k:Int)=if mtB ms k ms[k]=true then some (.inl ((k+1:Nat):Int)) else some (.inr (.inr false)):=by
 unfold sz at hl
 generalize hx:ms[k]=x at *
 have hwk:=bO hk (show ms.length < 4611686018427387904 by omega)
 have hj6:∀ v,gZ ms (k:Int) x v=if (!v&&!aIa ms x)=true then some (.inl ((k+1:Nat):Int)) else some (.inr (.inr false)):=by
  intro v
  unfold gZ
  cases v with
  |true=>rfl
  |false=>
   rw [if_neg (by simp),aEo (step:=fun s=>mY ms x s) ms (fun o=>!(o.Left == x.Result||o.Right == x.Result)) (.inr false) (.inl ()) (fun j y hj hy=>by
    have hwj:=bO hj (show ms.length < 4611686018427387904 by omega)
    simp only [mY,bV hj,if_pos,hy,aA,rP,hwj]
    cases (y.Left == x.Result)<;>cases (y.Right == x.Result)<;>rfl) (by simp only [mY,bL];rfl),aA]
   have e:ms.all (fun o=>!(o.Left == x.Result||o.Right == x.Result))=!aIa ms x:=by
    unfold aIa
    rw [List.not_any_eq_all_not]
   rw [e]
   unfold yH rO
   rw [hwk]
   cases aIa ms x<;>rfl
 have hj7:∀ v,hH ms (k:Int) x v=if (!v&&(k == 0||mlt (ms.getD (k - 1) ⟨[],[],[]⟩) x)&&!aIa ms x)=true then some (.inl ((k+1:Nat):Int)) else some (.inr (.inr false)):=by
  intro v
  unfold hH
  cases v with
  |true=>rfl
  |false=>
   rw [if_neg (by simp)]
   by_cases h0:0 < k
   ·have hw:wr ((k:Int) - 1)=((k - 1:Nat):Int):=by rw [dW (by omega) (by omega)];omega
    have e:ms.getD (k - 1) ⟨[],[],[]⟩=ms[k - 1]'(by omega):=by rw [List.getD_eq_getElem?_getD,List.getElem?_eq_getElem (by omega)];rfl
    have e0:(k == 0)=false:=by simp;omega
    rw [if_pos (by simp only [decide_eq_true_eq];omega),hw,bY (show k - 1 < ms.length by omega),aA,e,e0]
    generalize ms[k - 1]'(by omega)=p
    unfold mlt
    by_cases h1:p.Left=x.Left
    ·have e1:(p.Left == x.Left)=true:=by rw [h1];exact BEq.rfl
     have e2:pM p.Left x.Left=false:=by rw [h1];exact yW _
     simp only [e1,e2,Bool.or_true,Bool.not_true,Bool.false_eq_true,if_false,if_true,hj6,Bool.not_not,Bool.false_or,Bool.true_and,Bool.not_false]
    ·have e1:(p.Left == x.Left)=false:=by simpa using h1
     cases h2:pM p.Left x.Left with
     |true=>simp [e1,hj6]
     |false=>simp [e1,hj6]
   ·obtain rfl:k=0:=by omega
    rw [if_neg (by simp),hj6]
    simp
 unfold kU mtB
 rw [if_pos (bV hk),bY hk,hx,aA,rZ,aA]
 cases gH x.Left with
 |false=>simp [hj7]
 |true=>
  rw [if_neg (by simp),rZ,aA]
  cases gH x.Right with
  |false=>simp [hj7]
  |true=>
   rw [if_neg (by simp),rZ,aA]
   cases gH x.Result with
   |false=>simp [hj7]
   |true=>
    rw [if_neg (by simp),le_not,hj7]
    simp
theorem aRy (ms:List bB) (hl:ms.length<=sz) (hm:∀ m∈ms,aKd sz m):∃ B,oB ms=some B/\sW ms=some B:=by
 have hget:∀ {k:Nat} (hk:k < ms.length),ms.getD k ⟨[],[],[]⟩=ms[k]:=fun hk=>by rw [List.getD_eq_getElem?_getD,List.getElem?_eq_getElem hk];rfl
 obtain ⟨b,hb,hi⟩:=vE (step:=fun s=>iO ms s) ms.length 0 (fun k=>mtB ms k (ms.getD k ⟨[],[],[]⟩)) (.inr false) (.inl ()) (Nat.zero_le _) (fun k _ hk=>by rw [hget hk];exact meet_i ms hl hm hk) (by simp only [iO,bL];rfl)
 obtain ⟨c,hc,hs⟩:=vE (step:=fun s=>kU ms s) ms.length 0 (fun k=>mtB ms k (ms.getD k ⟨[],[],[]⟩)) (.inr false) (.inl ()) (Nat.zero_le _) (fun k _ hk=>by rw [hget hk];exact meet_s ms hl hk) (by simp only [kU,bL];rfl)
 have hbc:c=b:=by
  cases b<;>cases c<;>first|rfl|(have:=hb.2 (hc.1 rfl);simp at this)|(have:=hc.2 (hb.1 rfl);simp at this)
 subst hbc
 refine ⟨c&&decide ((ms.length:Int)<=6),?_,?_⟩
 ·unfold oB
  rw [show (0:Int)=((0:Nat):Int) from rfl,hi,aA]
  cases c<;>rfl
 ·unfold sW
  by_cases h6:6 < ms.length
  ·rw [if_pos (by simp only [decide_eq_true_eq];omega),decide_eq_false (by omega),Bool.and_false]
  ·rw [if_neg (by simp only [decide_eq_true_eq];omega),show (0:Int)=((0:Nat):Int) from rfl,hs,aA,decide_eq_true (by omega),Bool.and_true]
   cases c<;>rfl
end Gv
