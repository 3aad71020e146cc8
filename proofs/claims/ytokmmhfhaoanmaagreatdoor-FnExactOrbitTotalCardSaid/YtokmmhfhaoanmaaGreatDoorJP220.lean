/- Networks: the laws' measures, copies, comparisons and marks. -/
import Derived.Test.YtokmmhfhaoanmaaGreatDoorJP50
set_option linter.all false
namespace Gv
def aMA (n:Nat) (m:aT):Prop:=m.Left.length<=n/\m.Right.length<=n/\m.Result.length<=n
end Gv
namespace Gv
end Gv
namespace Gv
def mlt (a b:aT):Bool:=mW a.Left b.Left||(a.Left == b.Left&&mW a.Right b.Right)
def cS (x y:aH):Int:=if mW x y then -1 else if x=y then 0 else 1
theorem cmpS_eq (x y:aH):kG x y=some (cS x y):=by
 unfold kG pE cS
 simp only [BEq.rfl,Bool.not_true,aA,Bool.false_eq_true,if_false]
 by_cases h1:mW x y=true
 ·simp [h1]
 ·have h1':mW x y=false:=by simpa using h1
  by_cases h2:x=y
  ·subst h2;simp [h1']
  ·simp [h1',h2]
theorem cmpM (a b:aT):∃ v,oC a b=some v/\decide (0<=v)=!mlt a b:=by
 unfold oC gE mlt
 have s0:bR [a.Left,a.Right] [b.Left,b.Right] 0=if (cS a.Left b.Left != 0)=true then some (.inr (.inr (cS a.Left b.Left))) else some (.inl 1):=by
  unfold bR
  rw [if_pos (by simp),show ix ([a.Left,a.Right]:List aH) 0=some a.Left from rfl,aA,if_neg (by simp),show ix ([b.Left,b.Right]:List aH) 0=some b.Left from rfl,aA,cmpS_eq,aA]
  rfl
 have s1:bR [a.Left,a.Right] [b.Left,b.Right] 1=if (cS a.Right b.Right != 0)=true then some (.inr (.inr (cS a.Right b.Right))) else some (.inl 2):=by
  unfold bR
  rw [if_pos (by simp),show ix ([a.Left,a.Right]:List aH) 1=some a.Right from rfl,aA,if_neg (by simp),show ix ([b.Left,b.Right]:List aH) 1=some b.Right from rfl,aA,cmpS_eq,aA]
  rfl
 have s2:bR [a.Left,a.Right] [b.Left,b.Right] 2=some (.inr (.inl ())):=by
  unfold bR
  rw [if_neg (by simp)]
 by_cases h1:mW a.Left b.Left=true
 ·have c0:cS a.Left b.Left=-1:=by unfold cS;rw [if_pos h1]
  rw [c0] at s0
  rw [aQ,s0]
  exact ⟨-1,rfl,by rw [h1];rfl⟩
 have h1':mW a.Left b.Left=false:=by simpa using h1
 by_cases h2:a.Left=b.Left
 ·have c0:cS a.Left b.Left=0:=by unfold cS;rw [if_neg h1,if_pos h2]
  rw [c0] at s0
  have s0':bR [a.Left,a.Right] [b.Left,b.Right] 0=some (.inl 1):=s0
  rw [aQ,s0']
  have e2:(a.Left == b.Left)=true:=by rw [h2];exact BEq.rfl
  by_cases h3:mW a.Right b.Right=true
  ·have c1:cS a.Right b.Right=-1:=by unfold cS;rw [if_pos h3]
   rw [c1] at s1
   simp only
   rw [aQ,s1]
   exact ⟨-1,rfl,by rw [h1',e2,h3];rfl⟩
  have h3':mW a.Right b.Right=false:=by simpa using h3
  by_cases h4:a.Right=b.Right
  ·have c1:cS a.Right b.Right=0:=by unfold cS;rw [if_neg h3,if_pos h4]
   rw [c1] at s1
   have s1':bR [a.Left,a.Right] [b.Left,b.Right] 1=some (.inl 2):=s1
   simp only
   rw [aQ,s1']
   simp only
   rw [aQ,s2]
   exact ⟨0,rfl,by rw [h1',e2,h3'];rfl⟩
  ·have c1:cS a.Right b.Right=1:=by unfold cS;rw [if_neg h3,if_neg h4]
   rw [c1] at s1
   simp only
   rw [aQ,s1]
   exact ⟨1,rfl,by rw [h1',e2,h3'];rfl⟩
 ·have c0:cS a.Left b.Left=1:=by unfold cS;rw [if_neg h1,if_neg h2]
  rw [c0] at s0
  rw [aQ,s0]
  have e2:(a.Left == b.Left)=false:=by simpa using h2
  exact ⟨1,rfl,by rw [h1',e2];rfl⟩
def aKx (ms:List aT) (m:aT):Bool:=ms.any fun o=>o.Left == m.Result||o.Right == m.Result
theorem clash_i (ms:List aT) (m:aT) (h:ms.length < 4000000):cZ ms m=some (aKx ms m):=by
 unfold cZ dK
 have hl:=yO (step:=fun s=>cD ms m s) ms (fun o=>o.Left == m.Result||o.Right == m.Result) (fun k x hk hx=>by
  have hw:=aV hk (show ms.length < 4611686018427387904 by omega)
  simp only [cD,aY hk,if_pos,hx,aA,hw]
  unfold xG rJ
  by_cases h1:(x.Left == m.Result)=true
  ·rw [if_pos h1,h1,Bool.true_or,aA]
  ·have h1':(x.Left == m.Result)=false:=by simpa using h1
   rw [if_neg h1,h1',Bool.false_or,aA]) (by simp only [cD,bE];rfl)
 rw [hl,aA]
 unfold aKx
 cases hf:ms.findIdx? (fun o:aT=>o.Left == m.Result||o.Right == m.Result) with
 |none=>
  have:ms.any (fun o:aT=>o.Left == m.Result||o.Right == m.Result)=false:=by
   rw [List.any_eq_false]
   intro x hx
   exact List.findIdx?_eq_none_iff.1 hf x hx ▸ (by simp)
  rw [this];rfl
 |some i=>
  obtain ⟨hi,hp,_⟩:=List.findIdx?_eq_some_iff_getElem.1 hf
  have:ms.any (fun o:aT=>o.Left == m.Result||o.Right == m.Result)=true:=List.any_eq_true.2 ⟨_,List.getElem_mem hi,hp⟩
  rw [this];simp [aA]
def mtB (ms:List aT) (k:Nat) (m:aT):Bool:=iB m.Left&&iB m.Right&&iB m.Result&&!mW m.Right m.Left&&(k == 0||mlt (ms.getD (k - 1) ⟨[],[],[]⟩) m)&&!aKx ms m
theorem le_not (a b:aH):(mW a b||a == b)=!mW b a:=aSt b a
theorem meet_i (ms:List aT) (hl:ms.length<=sz) (hm:∀ m∈ms,aMA sz m) {k:Nat} (hk:k < ms.length):jW ms (k:Int)=if mtB ms k ms[k]=true then some (.inl ((k+1:Nat):Int)) else some (.inr (.inr false)):=by
 obtain ⟨b1,b2,b3⟩:=hm _ (List.getElem_mem hk)
 unfold sz at b1 b2 b3 hl
 generalize hx:ms[k]=x at *
 have hwk:=aV hk (show ms.length < 4611686018427387904 by omega)
 have hj:∀ v,iD ms (k:Int) x v=if (!v&&!aKx ms x)=true then some (.inl ((k+1:Nat):Int)) else some (.inr (.inr false)):=by
  intro v
  unfold iD
  rw [clash_i _ _ (by omega),hwk]
  cases v<;>cases aKx ms x<;>rfl
 unfold jW mtB
 rw [if_pos (aY hk),aU hk,hx,aA,yN _ (by omega),aA]
 cases iB x.Left with
 |false=>simp [hj]
 |true=>
  rw [if_neg (by simp),yN _ (by omega),aA]
  cases iB x.Right with
  |false=>simp [hj]
  |true=>
   rw [if_neg (by simp),yN _ (by omega),aA]
   cases iB x.Result with
   |false=>simp [hj]
   |true=>
    rw [if_neg (by simp),le_not]
    cases mW x.Right x.Left with
    |true=>simp [hj]
    |false=>
     rw [if_neg (by simp)]
     by_cases h0:0 < k
     ·have hw:wr ((k:Int) - 1)=((k - 1:Nat):Int):=by rw [eG (by omega) (by omega)];omega
      obtain ⟨v,v1,v2⟩:=cmpM (ms[k - 1]'(by omega)) x
      rw [if_pos (by simp only [decide_eq_true_eq];omega),hw,aU (show k - 1 < ms.length by omega),aA,v1,aA,v2,hj]
      have e:ms.getD (k - 1) ⟨[],[],[]⟩=ms[k - 1]'(by omega):=by rw [List.getD_eq_getElem?_getD,List.getElem?_eq_getElem (by omega)];rfl
      have e0:(k == 0)=false:=by simp;omega
      rw [e,e0]
      simp
     ·obtain rfl:k=0:=by omega
      rw [if_neg (by simp),hj]
      simp
theorem meet_s (ms:List aT) (hl:ms.length<=sz) {k:Nat} (hk:k < ms.length):mF ms (k:Int)=if mtB ms k ms[k]=true then some (.inl ((k+1:Nat):Int)) else some (.inr (.inr false)):=by
 unfold sz at hl
 generalize hx:ms[k]=x at *
 have hwk:=aV hk (show ms.length < 4611686018427387904 by omega)
 have hj6:∀ v,iV ms (k:Int) x v=if (!v&&!aKx ms x)=true then some (.inl ((k+1:Nat):Int)) else some (.inr (.inr false)):=by
  intro v
  unfold iV
  cases v with
  |true=>rfl
  |false=>
   rw [if_neg (by simp),aAH (step:=fun s=>pS ms x s) ms (fun o=>!(o.Left == x.Result||o.Right == x.Result)) (.inr false) (.inl ()) (fun j y hj hy=>by
    have hwj:=aV hj (show ms.length < 4611686018427387904 by omega)
    simp only [pS,aY hj,if_pos,hy,aA,uH,hwj]
    cases (y.Left == x.Result)<;>cases (y.Right == x.Result)<;>rfl) (by simp only [pS,bE];rfl),aA]
   have e:ms.all (fun o=>!(o.Left == x.Result||o.Right == x.Result))=!aKx ms x:=by
    unfold aKx
    rw [List.not_any_eq_all_not]
   rw [e]
   unfold aAT uG
   rw [hwk]
   cases aKx ms x<;>rfl
 have hj7:∀ v,iW ms (k:Int) x v=if (!v&&(k == 0||mlt (ms.getD (k - 1) ⟨[],[],[]⟩) x)&&!aKx ms x)=true then some (.inl ((k+1:Nat):Int)) else some (.inr (.inr false)):=by
  intro v
  unfold iW
  cases v with
  |true=>rfl
  |false=>
   rw [if_neg (by simp)]
   by_cases h0:0 < k
   ·have hw:wr ((k:Int) - 1)=((k - 1:Nat):Int):=by rw [eG (by omega) (by omega)];omega
    have e:ms.getD (k - 1) ⟨[],[],[]⟩=ms[k - 1]'(by omega):=by rw [List.getD_eq_getElem?_getD,List.getElem?_eq_getElem (by omega)];rfl
    have e0:(k == 0)=false:=by simp;omega
    rw [if_pos (by simp only [decide_eq_true_eq];omega),hw,aU (show k - 1 < ms.length by omega),aA,e,e0]
    generalize ms[k - 1]'(by omega)=p
    unfold mlt
    by_cases h1:p.Left=x.Left
    ·have e1:(p.Left == x.Left)=true:=by rw [h1];exact BEq.rfl
     have e2:mW p.Left x.Left=false:=by rw [h1];exact rM _
     simp only [e1,e2,Bool.or_true,Bool.not_true,Bool.false_eq_true,if_false,if_true,hj6,Bool.not_not,Bool.false_or,Bool.true_and,Bool.not_false]
    ·have e1:(p.Left == x.Left)=false:=by simpa using h1
     cases h2:mW p.Left x.Left with
     |true=>simp [e1,hj6]
     |false=>simp [e1,hj6]
   ·obtain rfl:k=0:=by omega
    rw [if_neg (by simp),hj6]
    simp
 unfold mF mtB
 rw [if_pos (aY hk),aU hk,hx,aA,aAI,aA]
 cases iB x.Left with
 |false=>simp [hj7]
 |true=>
  rw [if_neg (by simp),aAI,aA]
  cases iB x.Right with
  |false=>simp [hj7]
  |true=>
   rw [if_neg (by simp),aAI,aA]
   cases iB x.Result with
   |false=>simp [hj7]
   |true=>
    rw [if_neg (by simp),le_not,hj7]
    simp
theorem aVx (ms:List aT) (hl:ms.length<=sz) (hm:∀ m∈ms,aMA sz m):∃ B,rK ms=some B/\vO ms=some B:=by
 have hget:∀ {k:Nat} (hk:k < ms.length),ms.getD k ⟨[],[],[]⟩=ms[k]:=fun hk=>by rw [List.getD_eq_getElem?_getD,List.getElem?_eq_getElem hk];rfl
 obtain ⟨b,hb,hi⟩:=aDx (step:=fun s=>jW ms s) ms.length 0 (fun k=>mtB ms k (ms.getD k ⟨[],[],[]⟩)) (.inr false) (.inl ()) (Nat.zero_le _) (fun k _ hk=>by rw [hget hk];exact meet_i ms hl hm hk) (by simp only [jW,bE];rfl)
 obtain ⟨c,hc,hs⟩:=aDx (step:=fun s=>mF ms s) ms.length 0 (fun k=>mtB ms k (ms.getD k ⟨[],[],[]⟩)) (.inr false) (.inl ()) (Nat.zero_le _) (fun k _ hk=>by rw [hget hk];exact meet_s ms hl hk) (by simp only [mF,bE];rfl)
 have hbc:c=b:=by
  cases b<;>cases c<;>first|rfl|(have:=hb.2 (hc.1 rfl);simp at this)|(have:=hc.2 (hb.1 rfl);simp at this)
 subst hbc
 refine ⟨c&&decide ((ms.length:Int)<=6),?_,?_⟩
 ·unfold rK
  rw [show (0:Int)=((0:Nat):Int) from rfl,hi,aA]
  cases c<;>rfl
 ·unfold vO
  by_cases h6:6 < ms.length
  ·rw [if_pos (by simp only [decide_eq_true_eq];omega),decide_eq_false (by omega),Bool.and_false]
  ·rw [if_neg (by simp only [decide_eq_true_eq];omega),show (0:Int)=((0:Nat):Int) from rfl,hs,aA,decide_eq_true (by omega),Bool.and_true]
   cases c<;>rfl
end Gv
