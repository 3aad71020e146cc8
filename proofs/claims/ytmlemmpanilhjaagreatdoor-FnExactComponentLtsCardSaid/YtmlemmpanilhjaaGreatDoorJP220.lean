/- Networks: the laws' measures, copies, comparisons and marks. -/
import Derived.Test.YtmlemmpanilhjaaGreatDoorJP50
set_option linter.all false
namespace Gv
def aJe (n:Nat) (m:cB):Prop:=m.Left.length<=n/\m.Right.length<=n/\m.Result.length<=n
end Gv
namespace Gv
end Gv
namespace Gv
def mlt (a b:cB):Bool:=lE a.Left b.Left||(a.Left == b.Left&&lE a.Right b.Right)
def cS (x y:bL):Int:=if lE x y then -1 else if x=y then 0 else 1
theorem cmpS_eq (x y:bL):kR x y=some (cS x y):=by
 unfold kR mB cS
 simp only [BEq.rfl,Bool.not_true,aF,Bool.false_eq_true,if_false]
 by_cases h1:lE x y=true
 ·simp [h1]
 ·have h1':lE x y=false:=by simpa using h1
  by_cases h2:x=y
  ·subst h2;simp [h1']
  ·simp [h1',h2]
theorem cmpM (a b:cB):∃ v,oC a b=some v/\decide (0<=v)=!mlt a b:=by
 unfold oC iG mlt
 have s0:cX [a.Left,a.Right] [b.Left,b.Right] 0=if (cS a.Left b.Left != 0)=true then some (.inr (.inr (cS a.Left b.Left))) else some (.inl 1):=by
  unfold cX
  rw [if_pos (by simp),show ix ([a.Left,a.Right]:List bL) 0=some a.Left from rfl,aF,if_neg (by simp),show ix ([b.Left,b.Right]:List bL) 0=some b.Left from rfl,aF,cmpS_eq,aF]
  rfl
 have s1:cX [a.Left,a.Right] [b.Left,b.Right] 1=if (cS a.Right b.Right != 0)=true then some (.inr (.inr (cS a.Right b.Right))) else some (.inl 2):=by
  unfold cX
  rw [if_pos (by simp),show ix ([a.Left,a.Right]:List bL) 1=some a.Right from rfl,aF,if_neg (by simp),show ix ([b.Left,b.Right]:List bL) 1=some b.Right from rfl,aF,cmpS_eq,aF]
  rfl
 have s2:cX [a.Left,a.Right] [b.Left,b.Right] 2=some (.inr (.inl ())):=by
  unfold cX
  rw [if_neg (by simp)]
 by_cases h1:lE a.Left b.Left=true
 ·have c0:cS a.Left b.Left=-1:=by unfold cS;rw [if_pos h1]
  rw [c0] at s0
  rw [cJ,s0]
  exact ⟨-1,rfl,by rw [h1];rfl⟩
 have h1':lE a.Left b.Left=false:=by simpa using h1
 by_cases h2:a.Left=b.Left
 ·have c0:cS a.Left b.Left=0:=by unfold cS;rw [if_neg h1,if_pos h2]
  rw [c0] at s0
  have s0':cX [a.Left,a.Right] [b.Left,b.Right] 0=some (.inl 1):=s0
  rw [cJ,s0']
  have e2:(a.Left == b.Left)=true:=by rw [h2];exact BEq.rfl
  by_cases h3:lE a.Right b.Right=true
  ·have c1:cS a.Right b.Right=-1:=by unfold cS;rw [if_pos h3]
   rw [c1] at s1
   simp only
   rw [cJ,s1]
   exact ⟨-1,rfl,by rw [h1',e2,h3];rfl⟩
  have h3':lE a.Right b.Right=false:=by simpa using h3
  by_cases h4:a.Right=b.Right
  ·have c1:cS a.Right b.Right=0:=by unfold cS;rw [if_neg h3,if_pos h4]
   rw [c1] at s1
   have s1':cX [a.Left,a.Right] [b.Left,b.Right] 1=some (.inl 2):=s1
   simp only
   rw [cJ,s1']
   simp only
   rw [cJ,s2]
   exact ⟨0,rfl,by rw [h1',e2,h3'];rfl⟩
  ·have c1:cS a.Right b.Right=1:=by unfold cS;rw [if_neg h3,if_neg h4]
   rw [c1] at s1
   simp only
   rw [cJ,s1]
   exact ⟨1,rfl,by rw [h1',e2,h3'];rfl⟩
 ·have c0:cS a.Left b.Left=1:=by unfold cS;rw [if_neg h1,if_neg h2]
  rw [c0] at s0
  rw [cJ,s0]
  have e2:(a.Left == b.Left)=false:=by simpa using h2
  exact ⟨1,rfl,by rw [h1',e2];rfl⟩
def aHQ (ms:List cB) (m:cB):Bool:=ms.any fun o=>o.Left == m.Result||o.Right == m.Result
theorem clash_i (ms:List cB) (m:cB) (h:ms.length < 4000000):dV ms m=some (aHQ ms m):=by
 unfold dV fB
 have hl:=aCV (step:=fun s=>dU ms m s) ms (fun o=>o.Left == m.Result||o.Right == m.Result) (fun k x hk hx=>by
  have hw:=cV hk (show ms.length < 4611686018427387904 by omega)
  simp only [dU,cY hk,if_pos,hx,aF,hw]
  unfold wT nA
  by_cases h1:(x.Left == m.Result)=true
  ·rw [if_pos h1,h1,Bool.true_or,aF]
  ·have h1':(x.Left == m.Result)=false:=by simpa using h1
   rw [if_neg h1,h1',Bool.false_or,aF]) (by simp only [dU,cN];rfl)
 rw [hl,aF]
 unfold aHQ
 cases hf:ms.findIdx? (fun o:cB=>o.Left == m.Result||o.Right == m.Result) with
 |none=>
  have:ms.any (fun o:cB=>o.Left == m.Result||o.Right == m.Result)=false:=by
   rw [List.any_eq_false]
   intro x hx
   exact List.findIdx?_eq_none_iff.1 hf x hx ▸ (by simp)
  rw [this];rfl
 |some i=>
  obtain ⟨hi,hp,_⟩:=List.findIdx?_eq_some_iff_getElem.1 hf
  have:ms.any (fun o:cB=>o.Left == m.Result||o.Right == m.Result)=true:=List.any_eq_true.2 ⟨_,List.getElem_mem hi,hp⟩
  rw [this];simp [aF]
def mtB (ms:List cB) (k:Nat) (m:cB):Bool:=jB m.Left&&jB m.Right&&jB m.Result&&!lE m.Right m.Left&&(k == 0||mlt (ms.getD (k - 1) ⟨[],[],[]⟩) m)&&!aHQ ms m
theorem le_not (a b:bL):(lE a b||a == b)=!lE b a:=aOF b a
theorem meet_i (ms:List cB) (hl:ms.length<=sz) (hm:∀ m∈ms,aJe sz m) {k:Nat} (hk:k < ms.length):kJ ms (k:Int)=if mtB ms k ms[k]=true then some (.inl ((k+1:Nat):Int)) else some (.inr (.inr false)):=by
 obtain ⟨b1,b2,b3⟩:=hm _ (List.getElem_mem hk)
 unfold sz at b1 b2 b3 hl
 generalize hx:ms[k]=x at *
 have hwk:=cV hk (show ms.length < 4611686018427387904 by omega)
 have hj:∀ v,iP ms (k:Int) x v=if (!v&&!aHQ ms x)=true then some (.inl ((k+1:Nat):Int)) else some (.inr (.inr false)):=by
  intro v
  unfold iP
  rw [clash_i _ _ (by omega),hwk]
  cases v<;>cases aHQ ms x<;>rfl
 unfold kJ mtB
 rw [if_pos (cY hk),cZ hk,hx,aF,yE _ (by omega),aF]
 cases jB x.Left with
 |false=>simp [hj]
 |true=>
  rw [if_neg (by simp),yE _ (by omega),aF]
  cases jB x.Right with
  |false=>simp [hj]
  |true=>
   rw [if_neg (by simp),yE _ (by omega),aF]
   cases jB x.Result with
   |false=>simp [hj]
   |true=>
    rw [if_neg (by simp),le_not]
    cases lE x.Right x.Left with
    |true=>simp [hj]
    |false=>
     rw [if_neg (by simp)]
     by_cases h0:0 < k
     ·have hw:wr ((k:Int) - 1)=((k - 1:Nat):Int):=by rw [fL (by omega) (by omega)];omega
      obtain ⟨v,v1,v2⟩:=cmpM (ms[k - 1]'(by omega)) x
      rw [if_pos (by simp only [decide_eq_true_eq];omega),hw,cZ (show k - 1 < ms.length by omega),aF,v1,aF,v2,hj]
      have e:ms.getD (k - 1) ⟨[],[],[]⟩=ms[k - 1]'(by omega):=by rw [List.getD_eq_getElem?_getD,List.getElem?_eq_getElem (by omega)];rfl
      have e0:(k == 0)=false:=by simp;omega
      rw [e,e0]
      simp
     ·obtain rfl:k=0:=by omega
      rw [if_neg (by simp),hj]
      simp
theorem meet_s (ms:List cB) (hl:ms.length<=sz) {k:Nat} (hk:k < ms.length):mN ms (k:Int)=if mtB ms k ms[k]=true then some (.inl ((k+1:Nat):Int)) else some (.inr (.inr false)):=by
 unfold sz at hl
 generalize hx:ms[k]=x at *
 have hwk:=cV hk (show ms.length < 4611686018427387904 by omega)
 have hj6:∀ v,jR ms (k:Int) x v=if (!v&&!aHQ ms x)=true then some (.inl ((k+1:Nat):Int)) else some (.inr (.inr false)):=by
  intro v
  unfold jR
  cases v with
  |true=>rfl
  |false=>
   rw [if_neg (by simp),aDE (step:=fun s=>pH ms x s) ms (fun o=>!(o.Left == x.Result||o.Right == x.Result)) (.inr false) (.inl ()) (fun j y hj hy=>by
    have hwj:=cV hj (show ms.length < 4611686018427387904 by omega)
    simp only [pH,cY hj,if_pos,hy,aF,pG,hwj]
    cases (y.Left == x.Result)<;>cases (y.Right == x.Result)<;>rfl) (by simp only [pH,cN];rfl),aF]
   have e:ms.all (fun o=>!(o.Left == x.Result||o.Right == x.Result))=!aHQ ms x:=by
    unfold aHQ
    rw [List.not_any_eq_all_not]
   rw [e]
   unfold pF uE
   rw [hwk]
   cases aHQ ms x<;>rfl
 have hj7:∀ v,jS ms (k:Int) x v=if (!v&&(k == 0||mlt (ms.getD (k - 1) ⟨[],[],[]⟩) x)&&!aHQ ms x)=true then some (.inl ((k+1:Nat):Int)) else some (.inr (.inr false)):=by
  intro v
  unfold jS
  cases v with
  |true=>rfl
  |false=>
   rw [if_neg (by simp)]
   by_cases h0:0 < k
   ·have hw:wr ((k:Int) - 1)=((k - 1:Nat):Int):=by rw [fL (by omega) (by omega)];omega
    have e:ms.getD (k - 1) ⟨[],[],[]⟩=ms[k - 1]'(by omega):=by rw [List.getD_eq_getElem?_getD,List.getElem?_eq_getElem (by omega)];rfl
    have e0:(k == 0)=false:=by simp;omega
    rw [if_pos (by simp only [decide_eq_true_eq];omega),hw,cZ (show k - 1 < ms.length by omega),aF,e,e0]
    generalize ms[k - 1]'(by omega)=p
    unfold mlt
    by_cases h1:p.Left=x.Left
    ·have e1:(p.Left == x.Left)=true:=by rw [h1];exact BEq.rfl
     have e2:lE p.Left x.Left=false:=by rw [h1];exact tR _
     simp only [e1,e2,Bool.or_true,Bool.not_true,Bool.false_eq_true,if_false,if_true,hj6,Bool.not_not,Bool.false_or,Bool.true_and,Bool.not_false]
    ·have e1:(p.Left == x.Left)=false:=by simpa using h1
     cases h2:lE p.Left x.Left with
     |true=>simp [e1,hj6]
     |false=>simp [e1,hj6]
   ·obtain rfl:k=0:=by omega
    rw [if_neg (by simp),hj6]
    simp
 unfold mN mtB
 rw [if_pos (cY hk),cZ hk,hx,aF,aAD,aF]
 cases jB x.Left with
 |false=>simp [hj7]
 |true=>
  rw [if_neg (by simp),aAD,aF]
  cases jB x.Right with
  |false=>simp [hj7]
  |true=>
   rw [if_neg (by simp),aAD,aF]
   cases jB x.Result with
   |false=>simp [hj7]
   |true=>
    rw [if_neg (by simp),le_not,hj7]
    simp
theorem aQR (ms:List cB) (hl:ms.length<=sz) (hm:∀ m∈ms,aJe sz m):∃ B,qT ms=some B/\vN ms=some B:=by
 have hget:∀ {k:Nat} (hk:k < ms.length),ms.getD k ⟨[],[],[]⟩=ms[k]:=fun hk=>by rw [List.getD_eq_getElem?_getD,List.getElem?_eq_getElem hk];rfl
 obtain ⟨b,hb,hi⟩:=aCS (step:=fun s=>kJ ms s) ms.length 0 (fun k=>mtB ms k (ms.getD k ⟨[],[],[]⟩)) (.inr false) (.inl ()) (Nat.zero_le _) (fun k _ hk=>by rw [hget hk];exact meet_i ms hl hm hk) (by simp only [kJ,cN];rfl)
 obtain ⟨c,hc,hs⟩:=aCS (step:=fun s=>mN ms s) ms.length 0 (fun k=>mtB ms k (ms.getD k ⟨[],[],[]⟩)) (.inr false) (.inl ()) (Nat.zero_le _) (fun k _ hk=>by rw [hget hk];exact meet_s ms hl hk) (by simp only [mN,cN];rfl)
 have hbc:c=b:=by
  cases b<;>cases c<;>first|rfl|(have:=hb.2 (hc.1 rfl);simp at this)|(have:=hc.2 (hb.1 rfl);simp at this)
 subst hbc
 refine ⟨c&&decide ((ms.length:Int)<=6),?_,?_⟩
 ·unfold qT
  rw [show (0:Int)=((0:Nat):Int) from rfl,hi,aF]
  cases c<;>rfl
 ·unfold vN
  by_cases h6:6 < ms.length
  ·rw [if_pos (by simp only [decide_eq_true_eq];omega),decide_eq_false (by omega),Bool.and_false]
  ·rw [if_neg (by simp only [decide_eq_true_eq];omega),show (0:Int)=((0:Nat):Int) from rfl,hs,aF,decide_eq_true (by omega),Bool.and_true]
   cases c<;>rfl
end Gv
