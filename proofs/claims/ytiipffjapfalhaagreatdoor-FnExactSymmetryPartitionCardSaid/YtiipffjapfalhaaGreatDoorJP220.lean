/- Networks: the laws' measures, copies, comparisons and marks. -/
import Derived.Test.YtiipffjapfalhaaGreatDoorJP50
set_option linter.all false
namespace Gv
def aNf (n:Nat) (m:bB):Prop:=m.Left.length<=n/\m.Right.length<=n/\m.Result.length<=n
end Gv
namespace Gv
end Gv
namespace Gv
def mlt (a b:bB):Bool:=nR a.Left b.Left||(a.Left == b.Left&&nR a.Right b.Right)
def cS (x y:aO):Int:=if nR x y then -1 else if x=y then 0 else 1
theorem cmpS_eq (x y:aO):kO x y=some (cS x y):=by
 unfold kO pN cS
 simp only [BEq.rfl,Bool.not_true,aA,Bool.false_eq_true,if_false]
 by_cases h1:nR x y=true
 ·simp [h1]
 ·have h1':nR x y=false:=by simpa using h1
  by_cases h2:x=y
  ·subst h2;simp [h1']
  ·simp [h1',h2]
theorem cmpM (a b:bB):∃ v,oR a b=some v/\decide (0<=v)=!mlt a b:=by
 unfold oR gQ mlt
 have s0:cC [a.Left,a.Right] [b.Left,b.Right] 0=if (cS a.Left b.Left != 0)=true then some (.inr (.inr (cS a.Left b.Left))) else some (.inl 1):=by
  unfold cC
  rw [if_pos (by simp),show ix ([a.Left,a.Right]:List aO) 0=some a.Left from rfl,aA,if_neg (by simp),show ix ([b.Left,b.Right]:List aO) 0=some b.Left from rfl,aA,cmpS_eq,aA]
  rfl
 have s1:cC [a.Left,a.Right] [b.Left,b.Right] 1=if (cS a.Right b.Right != 0)=true then some (.inr (.inr (cS a.Right b.Right))) else some (.inl 2):=by
  unfold cC
  rw [if_pos (by simp),show ix ([a.Left,a.Right]:List aO) 1=some a.Right from rfl,aA,if_neg (by simp),show ix ([b.Left,b.Right]:List aO) 1=some b.Right from rfl,aA,cmpS_eq,aA]
  rfl
 have s2:cC [a.Left,a.Right] [b.Left,b.Right] 2=some (.inr (.inl ())):=by
  unfold cC
  rw [if_neg (by simp)]
 by_cases h1:nR a.Left b.Left=true
 ·have c0:cS a.Left b.Left=-1:=by unfold cS;rw [if_pos h1]
  rw [c0] at s0
  rw [bF,s0]
  exact ⟨-1,rfl,by rw [h1];rfl⟩
 have h1':nR a.Left b.Left=false:=by simpa using h1
 by_cases h2:a.Left=b.Left
 ·have c0:cS a.Left b.Left=0:=by unfold cS;rw [if_neg h1,if_pos h2]
  rw [c0] at s0
  have s0':cC [a.Left,a.Right] [b.Left,b.Right] 0=some (.inl 1):=s0
  rw [bF,s0']
  have e2:(a.Left == b.Left)=true:=by rw [h2];exact BEq.rfl
  by_cases h3:nR a.Right b.Right=true
  ·have c1:cS a.Right b.Right=-1:=by unfold cS;rw [if_pos h3]
   rw [c1] at s1
   simp only
   rw [bF,s1]
   exact ⟨-1,rfl,by rw [h1',e2,h3];rfl⟩
  have h3':nR a.Right b.Right=false:=by simpa using h3
  by_cases h4:a.Right=b.Right
  ·have c1:cS a.Right b.Right=0:=by unfold cS;rw [if_neg h3,if_pos h4]
   rw [c1] at s1
   have s1':cC [a.Left,a.Right] [b.Left,b.Right] 1=some (.inl 2):=s1
   simp only
   rw [bF,s1']
   simp only
   rw [bF,s2]
   exact ⟨0,rfl,by rw [h1',e2,h3'];rfl⟩
  ·have c1:cS a.Right b.Right=1:=by unfold cS;rw [if_neg h3,if_neg h4]
   rw [c1] at s1
   simp only
   rw [bF,s1]
   exact ⟨1,rfl,by rw [h1',e2,h3'];rfl⟩
 ·have c0:cS a.Left b.Left=1:=by unfold cS;rw [if_neg h1,if_neg h2]
  rw [c0] at s0
  rw [bF,s0]
  have e2:(a.Left == b.Left)=false:=by simpa using h2
  exact ⟨1,rfl,by rw [h1',e2];rfl⟩
def aLd (ms:List bB) (m:bB):Bool:=ms.any fun o=>o.Left == m.Result||o.Right == m.Result
theorem clash_i (ms:List bB) (m:bB) (h:ms.length < 4000000):dJ ms m=some (aLd ms m):=by
 unfold dJ dW
 have hl:=aBF (step:=fun s=>cT ms m s) ms (fun o=>o.Left == m.Result||o.Right == m.Result) (fun k x hk hx=>by
  have hw:=bI hk (show ms.length < 4611686018427387904 by omega)
  simp only [cT,bL hk,if_pos,hx,aA,hw]
  unfold xZ rQ
  by_cases h1:(x.Left == m.Result)=true
  ·rw [if_pos h1,h1,Bool.true_or,aA]
  ·have h1':(x.Left == m.Result)=false:=by simpa using h1
   rw [if_neg h1,h1',Bool.false_or,aA]) (by simp only [cT,bO];rfl)
 rw [hl,aA]
 unfold aLd
 cases hf:ms.findIdx? (fun o:bB=>o.Left == m.Result||o.Right == m.Result) with
 |none=>
  have:ms.any (fun o:bB=>o.Left == m.Result||o.Right == m.Result)=false:=by
   rw [List.any_eq_false]
   intro x hx
   exact List.findIdx?_eq_none_iff.1 hf x hx ▸ (by simp)
  rw [this];rfl
 |some i=>
  obtain ⟨hi,hp,_⟩:=List.findIdx?_eq_some_iff_getElem.1 hf
  have:ms.any (fun o:bB=>o.Left == m.Result||o.Right == m.Result)=true:=List.any_eq_true.2 ⟨_,List.getElem_mem hi,hp⟩
  rw [this];simp [aA]
def mtB (ms:List bB) (k:Nat) (m:bB):Bool:=iJ m.Left&&iJ m.Right&&iJ m.Result&&!nR m.Right m.Left&&(k == 0||mlt (ms.getD (k - 1) ⟨[],[],[]⟩) m)&&!aLd ms m
theorem le_not (a b:aO):(nR a b||a == b)=!nR b a:=aTl b a
theorem meet_i (ms:List bB) (hl:ms.length<=sz) (hm:∀ m∈ms,aNf sz m) {k:Nat} (hk:k < ms.length):kI ms (k:Int)=if mtB ms k ms[k]=true then some (.inl ((k+1:Nat):Int)) else some (.inr (.inr false)):=by
 obtain ⟨b1,b2,b3⟩:=hm _ (List.getElem_mem hk)
 unfold sz at b1 b2 b3 hl
 generalize hx:ms[k]=x at *
 have hwk:=bI hk (show ms.length < 4611686018427387904 by omega)
 have hj:∀ v,iM ms (k:Int) x v=if (!v&&!aLd ms x)=true then some (.inl ((k+1:Nat):Int)) else some (.inr (.inr false)):=by
  intro v
  unfold iM
  rw [clash_i _ _ (by omega),hwk]
  cases v<;>cases aLd ms x<;>rfl
 unfold kI mtB
 rw [if_pos (bL hk),bH hk,hx,aA,zU _ (by omega),aA]
 cases iJ x.Left with
 |false=>simp [hj]
 |true=>
  rw [if_neg (by simp),zU _ (by omega),aA]
  cases iJ x.Right with
  |false=>simp [hj]
  |true=>
   rw [if_neg (by simp),zU _ (by omega),aA]
   cases iJ x.Result with
   |false=>simp [hj]
   |true=>
    rw [if_neg (by simp),le_not]
    cases nR x.Right x.Left with
    |true=>simp [hj]
    |false=>
     rw [if_neg (by simp)]
     by_cases h0:0 < k
     ·have hw:wr ((k:Int) - 1)=((k - 1:Nat):Int):=by rw [eV (by omega) (by omega)];omega
      obtain ⟨v,v1,v2⟩:=cmpM (ms[k - 1]'(by omega)) x
      rw [if_pos (by simp only [decide_eq_true_eq];omega),hw,bH (show k - 1 < ms.length by omega),aA,v1,aA,v2,hj]
      have e:ms.getD (k - 1) ⟨[],[],[]⟩=ms[k - 1]'(by omega):=by rw [List.getD_eq_getElem?_getD,List.getElem?_eq_getElem (by omega)];rfl
      have e0:(k == 0)=false:=by simp;omega
      rw [e,e0]
      simp
     ·obtain rfl:k=0:=by omega
      rw [if_neg (by simp),hj]
      simp
theorem meet_s (ms:List bB) (hl:ms.length<=sz) {k:Nat} (hk:k < ms.length):nA ms (k:Int)=if mtB ms k ms[k]=true then some (.inl ((k+1:Nat):Int)) else some (.inr (.inr false)):=by
 unfold sz at hl
 generalize hx:ms[k]=x at *
 have hwk:=bI hk (show ms.length < 4611686018427387904 by omega)
 have hj6:∀ v,jI ms (k:Int) x v=if (!v&&!aLd ms x)=true then some (.inl ((k+1:Nat):Int)) else some (.inr (.inr false)):=by
  intro v
  unfold jI
  cases v with
  |true=>rfl
  |false=>
   rw [if_neg (by simp),aBc (step:=fun s=>pZ ms x s) ms (fun o=>!(o.Left == x.Result||o.Right == x.Result)) (.inr false) (.inl ()) (fun j y hj hy=>by
    have hwj:=bI hj (show ms.length < 4611686018427387904 by omega)
    simp only [pZ,bL hj,if_pos,hy,aA,vA,hwj]
    cases (y.Left == x.Result)<;>cases (y.Right == x.Result)<;>rfl) (by simp only [pZ,bO];rfl),aA]
   have e:ms.all (fun o=>!(o.Left == x.Result||o.Right == x.Result))=!aLd ms x:=by
    unfold aLd
    rw [List.not_any_eq_all_not]
   rw [e]
   unfold aBr uZ
   rw [hwk]
   cases aLd ms x<;>rfl
 have hj7:∀ v,jJ ms (k:Int) x v=if (!v&&(k == 0||mlt (ms.getD (k - 1) ⟨[],[],[]⟩) x)&&!aLd ms x)=true then some (.inl ((k+1:Nat):Int)) else some (.inr (.inr false)):=by
  intro v
  unfold jJ
  cases v with
  |true=>rfl
  |false=>
   rw [if_neg (by simp)]
   by_cases h0:0 < k
   ·have hw:wr ((k:Int) - 1)=((k - 1:Nat):Int):=by rw [eV (by omega) (by omega)];omega
    have e:ms.getD (k - 1) ⟨[],[],[]⟩=ms[k - 1]'(by omega):=by rw [List.getD_eq_getElem?_getD,List.getElem?_eq_getElem (by omega)];rfl
    have e0:(k == 0)=false:=by simp;omega
    rw [if_pos (by simp only [decide_eq_true_eq];omega),hw,bH (show k - 1 < ms.length by omega),aA,e,e0]
    generalize ms[k - 1]'(by omega)=p
    unfold mlt
    by_cases h1:p.Left=x.Left
    ·have e1:(p.Left == x.Left)=true:=by rw [h1];exact BEq.rfl
     have e2:nR p.Left x.Left=false:=by rw [h1];exact rV _
     simp only [e1,e2,Bool.or_true,Bool.not_true,Bool.false_eq_true,if_false,if_true,hj6,Bool.not_not,Bool.false_or,Bool.true_and,Bool.not_false]
    ·have e1:(p.Left == x.Left)=false:=by simpa using h1
     cases h2:nR p.Left x.Left with
     |true=>simp [e1,hj6]
     |false=>simp [e1,hj6]
   ·obtain rfl:k=0:=by omega
    rw [if_neg (by simp),hj6]
    simp
 unfold nA mtB
 rw [if_pos (bL hk),bH hk,hx,aA,aBd,aA]
 cases iJ x.Left with
 |false=>simp [hj7]
 |true=>
  rw [if_neg (by simp),aBd,aA]
  cases iJ x.Right with
  |false=>simp [hj7]
  |true=>
   rw [if_neg (by simp),aBd,aA]
   cases iJ x.Result with
   |false=>simp [hj7]
   |true=>
    rw [if_neg (by simp),le_not,hj7]
    simp
theorem aWr (ms:List bB) (hl:ms.length<=sz) (hm:∀ m∈ms,aNf sz m):∃ B,rR ms=some B/\wI ms=some B:=by
 have hget:∀ {k:Nat} (hk:k < ms.length),ms.getD k ⟨[],[],[]⟩=ms[k]:=fun hk=>by rw [List.getD_eq_getElem?_getD,List.getElem?_eq_getElem hk];rfl
 obtain ⟨b,hb,hi⟩:=aEh (step:=fun s=>kI ms s) ms.length 0 (fun k=>mtB ms k (ms.getD k ⟨[],[],[]⟩)) (.inr false) (.inl ()) (Nat.zero_le _) (fun k _ hk=>by rw [hget hk];exact meet_i ms hl hm hk) (by simp only [kI,bO];rfl)
 obtain ⟨c,hc,hs⟩:=aEh (step:=fun s=>nA ms s) ms.length 0 (fun k=>mtB ms k (ms.getD k ⟨[],[],[]⟩)) (.inr false) (.inl ()) (Nat.zero_le _) (fun k _ hk=>by rw [hget hk];exact meet_s ms hl hk) (by simp only [nA,bO];rfl)
 have hbc:c=b:=by
  cases b<;>cases c<;>first|rfl|(have:=hb.2 (hc.1 rfl);simp at this)|(have:=hc.2 (hb.1 rfl);simp at this)
 subst hbc
 refine ⟨c&&decide ((ms.length:Int)<=6),?_,?_⟩
 ·unfold rR
  rw [show (0:Int)=((0:Nat):Int) from rfl,hi,aA]
  cases c<;>rfl
 ·unfold wI
  by_cases h6:6 < ms.length
  ·rw [if_pos (by simp only [decide_eq_true_eq];omega),decide_eq_false (by omega),Bool.and_false]
  ·rw [if_neg (by simp only [decide_eq_true_eq];omega),show (0:Int)=((0:Nat):Int) from rfl,hs,aA,decide_eq_true (by omega),Bool.and_true]
   cases c<;>rfl
end Gv
