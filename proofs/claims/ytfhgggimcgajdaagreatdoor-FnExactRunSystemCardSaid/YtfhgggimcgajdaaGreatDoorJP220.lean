/- Networks: the laws' measures, copies, comparisons and marks. -/
import Derived.Test.YtfhgggimcgajdaaGreatDoorJP50
set_option linter.all false
namespace Gv
def aJy (n:Nat) (m:bU):Prop:=m.Left.length<=n/\m.Right.length<=n/\m.Result.length<=n
end Gv
namespace Gv
end Gv
namespace Gv
def mlt (a b:bU):Bool:=qF a.Left b.Left||(a.Left == b.Left&&qF a.Right b.Right)
def cS (x y:bJ):Int:=if qF x y then -1 else if x=y then 0 else 1
theorem cmpS_eq (x y:bJ):kQ x y=some (cS x y):=by
 unfold kQ mE cS
 simp only [BEq.rfl,Bool.not_true,aE,Bool.false_eq_true,if_false]
 by_cases h1:qF x y=true
 ·simp [h1]
 ·have h1':qF x y=false:=by simpa using h1
  by_cases h2:x=y
  ·subst h2;simp [h1']
  ·simp [h1',h2]
theorem cmpM (a b:bU):∃ v,oA a b=some v/\decide (0<=v)=!mlt a b:=by
 unfold oA gY mlt
 have s0:cU [a.Left,a.Right] [b.Left,b.Right] 0=if (cS a.Left b.Left != 0)=true then some (.inr (.inr (cS a.Left b.Left))) else some (.inl 1):=by
  unfold cU
  rw [if_pos (by simp),show ix ([a.Left,a.Right]:List bJ) 0=some a.Left from rfl,aE,if_neg (by simp),show ix ([b.Left,b.Right]:List bJ) 0=some b.Left from rfl,aE,cmpS_eq,aE]
  rfl
 have s1:cU [a.Left,a.Right] [b.Left,b.Right] 1=if (cS a.Right b.Right != 0)=true then some (.inr (.inr (cS a.Right b.Right))) else some (.inl 2):=by
  unfold cU
  rw [if_pos (by simp),show ix ([a.Left,a.Right]:List bJ) 1=some a.Right from rfl,aE,if_neg (by simp),show ix ([b.Left,b.Right]:List bJ) 1=some b.Right from rfl,aE,cmpS_eq,aE]
  rfl
 have s2:cU [a.Left,a.Right] [b.Left,b.Right] 2=some (.inr (.inl ())):=by
  unfold cU
  rw [if_neg (by simp)]
 by_cases h1:qF a.Left b.Left=true
 ·have c0:cS a.Left b.Left=-1:=by unfold cS;rw [if_pos h1]
  rw [c0] at s0
  rw [cX,s0]
  exact ⟨-1,rfl,by rw [h1];rfl⟩
 have h1':qF a.Left b.Left=false:=by simpa using h1
 by_cases h2:a.Left=b.Left
 ·have c0:cS a.Left b.Left=0:=by unfold cS;rw [if_neg h1,if_pos h2]
  rw [c0] at s0
  have s0':cU [a.Left,a.Right] [b.Left,b.Right] 0=some (.inl 1):=s0
  rw [cX,s0']
  have e2:(a.Left == b.Left)=true:=by rw [h2];exact BEq.rfl
  by_cases h3:qF a.Right b.Right=true
  ·have c1:cS a.Right b.Right=-1:=by unfold cS;rw [if_pos h3]
   rw [c1] at s1
   simp only
   rw [cX,s1]
   exact ⟨-1,rfl,by rw [h1',e2,h3];rfl⟩
  have h3':qF a.Right b.Right=false:=by simpa using h3
  by_cases h4:a.Right=b.Right
  ·have c1:cS a.Right b.Right=0:=by unfold cS;rw [if_neg h3,if_pos h4]
   rw [c1] at s1
   have s1':cU [a.Left,a.Right] [b.Left,b.Right] 1=some (.inl 2):=s1
   simp only
   rw [cX,s1']
   simp only
   rw [cX,s2]
   exact ⟨0,rfl,by rw [h1',e2,h3'];rfl⟩
  ·have c1:cS a.Right b.Right=1:=by unfold cS;rw [if_neg h3,if_neg h4]
   rw [c1] at s1
   simp only
   rw [cX,s1]
   exact ⟨1,rfl,by rw [h1',e2,h3'];rfl⟩
 ·have c0:cS a.Left b.Left=1:=by unfold cS;rw [if_neg h1,if_neg h2]
  rw [c0] at s0
  rw [cX,s0]
  have e2:(a.Left == b.Left)=false:=by simpa using h2
  exact ⟨1,rfl,by rw [h1',e2];rfl⟩
def aIr (ms:List bU) (m:bU):Bool:=ms.any fun o=>o.Left == m.Result||o.Right == m.Result
theorem clash_i (ms:List bU) (m:bU) (h:ms.length < 4000000):dR ms m=some (aIr ms m):=by
 unfold dR eZ
 have hl:=vJ (step:=fun s=>dQ ms m s) ms (fun o=>o.Left == m.Result||o.Right == m.Result) (fun k x hk hx=>by
  have hw:=cO hk (show ms.length < 4611686018427387904 by omega)
  simp only [dQ,cR hk,if_pos,hx,aE,hw]
  unfold xL nH
  by_cases h1:(x.Left == m.Result)=true
  ·rw [if_pos h1,h1,Bool.true_or,aE]
  ·have h1':(x.Left == m.Result)=false:=by simpa using h1
   rw [if_neg h1,h1',Bool.false_or,aE]) (by simp only [dQ,cN];rfl)
 rw [hl,aE]
 unfold aIr
 cases hf:ms.findIdx? (fun o:bU=>o.Left == m.Result||o.Right == m.Result) with
 |none=>
  have:ms.any (fun o:bU=>o.Left == m.Result||o.Right == m.Result)=false:=by
   rw [List.any_eq_false]
   intro x hx
   exact List.findIdx?_eq_none_iff.1 hf x hx ▸ (by simp)
  rw [this];rfl
 |some i=>
  obtain ⟨hi,hp,_⟩:=List.findIdx?_eq_some_iff_getElem.1 hf
  have:ms.any (fun o:bU=>o.Left == m.Result||o.Right == m.Result)=true:=List.any_eq_true.2 ⟨_,List.getElem_mem hi,hp⟩
  rw [this];simp [aE]
def mtB (ms:List bU) (k:Nat) (m:bU):Bool:=kI m.Left&&kI m.Right&&kI m.Result&&!qF m.Right m.Left&&(k == 0||mlt (ms.getD (k - 1) ⟨[],[],[]⟩) m)&&!aIr ms m
theorem le_not (a b:bJ):(qF a b||a == b)=!qF b a:=ltB_ge b a
theorem meet_i (ms:List bU) (hl:ms.length<=sz) (hm:∀ m∈ms,aJy sz m) {k:Nat} (hk:k < ms.length):kF ms (k:Int)=if mtB ms k ms[k]=true then some (.inl ((k+1:Nat):Int)) else some (.inr (.inr false)):=by
 obtain ⟨b1,b2,b3⟩:=hm _ (List.getElem_mem hk)
 unfold sz at b1 b2 b3 hl
 generalize hx:ms[k]=x at *
 have hwk:=cO hk (show ms.length < 4611686018427387904 by omega)
 have hj:∀ v,iK ms (k:Int) x v=if (!v&&!aIr ms x)=true then some (.inl ((k+1:Nat):Int)) else some (.inr (.inr false)):=by
  intro v
  unfold iK
  rw [clash_i _ _ (by omega),hwk]
  cases v<;>cases aIr ms x<;>rfl
 unfold kF mtB
 rw [if_pos (cR hk),cZ hk,hx,aE,zH _ (by omega),aE]
 cases kI x.Left with
 |false=>simp [hj]
 |true=>
  rw [if_neg (by simp),zH _ (by omega),aE]
  cases kI x.Right with
  |false=>simp [hj]
  |true=>
   rw [if_neg (by simp),zH _ (by omega),aE]
   cases kI x.Result with
   |false=>simp [hj]
   |true=>
    rw [if_neg (by simp),le_not]
    cases qF x.Right x.Left with
    |true=>simp [hj]
    |false=>
     rw [if_neg (by simp)]
     by_cases h0:0 < k
     ·have hw:wr ((k:Int) - 1)=((k - 1:Nat):Int):=by rw [iC (by omega) (by omega)];omega
      obtain ⟨v,v1,v2⟩:=cmpM (ms[k - 1]'(by omega)) x
      rw [if_pos (by simp only [decide_eq_true_eq];omega),hw,cZ (show k - 1 < ms.length by omega),aE,v1,aE,v2,hj]
      have e:ms.getD (k - 1) ⟨[],[],[]⟩=ms[k - 1]'(by omega):=by rw [List.getD_eq_getElem?_getD,List.getElem?_eq_getElem (by omega)];rfl
      have e0:(k == 0)=false:=by simp;omega
      rw [e,e0]
      simp
     ·obtain rfl:k=0:=by omega
      rw [if_neg (by simp),hj]
      simp
theorem meet_s (ms:List bU) (hl:ms.length<=sz) {k:Nat} (hk:k < ms.length):mP ms (k:Int)=if mtB ms k ms[k]=true then some (.inl ((k+1:Nat):Int)) else some (.inr (.inr false)):=by
 unfold sz at hl
 generalize hx:ms[k]=x at *
 have hwk:=cO hk (show ms.length < 4611686018427387904 by omega)
 have hj6:∀ v,jK ms (k:Int) x v=if (!v&&!aIr ms x)=true then some (.inl ((k+1:Nat):Int)) else some (.inr (.inr false)):=by
  intro v
  unfold jK
  cases v with
  |true=>rfl
  |false=>
   rw [if_neg (by simp),aBb (step:=fun s=>pI ms x s) ms (fun o=>!(o.Left == x.Result||o.Right == x.Result)) (.inr false) (.inl ()) (fun j y hj hy=>by
    have hwj:=cO hj (show ms.length < 4611686018427387904 by omega)
    simp only [pI,cR hj,if_pos,hy,aE,pH,hwj]
    cases (y.Left == x.Result)<;>cases (y.Right == x.Result)<;>rfl) (by simp only [pI,cN];rfl),aE]
   have e:ms.all (fun o=>!(o.Left == x.Result||o.Right == x.Result))=!aIr ms x:=by
    unfold aIr
    rw [List.not_any_eq_all_not]
   rw [e]
   unfold pG uT
   rw [hwk]
   cases aIr ms x<;>rfl
 have hj7:∀ v,jL ms (k:Int) x v=if (!v&&(k == 0||mlt (ms.getD (k - 1) ⟨[],[],[]⟩) x)&&!aIr ms x)=true then some (.inl ((k+1:Nat):Int)) else some (.inr (.inr false)):=by
  intro v
  unfold jL
  cases v with
  |true=>rfl
  |false=>
   rw [if_neg (by simp)]
   by_cases h0:0 < k
   ·have hw:wr ((k:Int) - 1)=((k - 1:Nat):Int):=by rw [iC (by omega) (by omega)];omega
    have e:ms.getD (k - 1) ⟨[],[],[]⟩=ms[k - 1]'(by omega):=by rw [List.getD_eq_getElem?_getD,List.getElem?_eq_getElem (by omega)];rfl
    have e0:(k == 0)=false:=by simp;omega
    rw [if_pos (by simp only [decide_eq_true_eq];omega),hw,cZ (show k - 1 < ms.length by omega),aE,e,e0]
    generalize ms[k - 1]'(by omega)=p
    unfold mlt
    by_cases h1:p.Left=x.Left
    ·have e1:(p.Left == x.Left)=true:=by rw [h1];exact BEq.rfl
     have e2:qF p.Left x.Left=false:=by rw [h1];exact aBr _
     simp only [e1,e2,Bool.or_true,Bool.not_true,Bool.false_eq_true,if_false,if_true,hj6,Bool.not_not,Bool.false_or,Bool.true_and,Bool.not_false]
    ·have e1:(p.Left == x.Left)=false:=by simpa using h1
     cases h2:qF p.Left x.Left with
     |true=>simp [e1,hj6]
     |false=>simp [e1,hj6]
   ·obtain rfl:k=0:=by omega
    rw [if_neg (by simp),hj6]
    simp
 unfold mP mtB
 rw [if_pos (cR hk),cZ hk,hx,aE,aBc,aE]
 cases kI x.Left with
 |false=>simp [hj7]
 |true=>
  rw [if_neg (by simp),aBc,aE]
  cases kI x.Right with
  |false=>simp [hj7]
  |true=>
   rw [if_neg (by simp),aBc,aE]
   cases kI x.Result with
   |false=>simp [hj7]
   |true=>
    rw [if_neg (by simp),le_not,hj7]
    simp
theorem aQX (ms:List bU) (hl:ms.length<=sz) (hm:∀ m∈ms,aJy sz m):∃ B,qX ms=some B/\wD ms=some B:=by
 have hget:∀ {k:Nat} (hk:k < ms.length),ms.getD k ⟨[],[],[]⟩=ms[k]:=fun hk=>by rw [List.getD_eq_getElem?_getD,List.getElem?_eq_getElem hk];rfl
 obtain ⟨b,hb,hi⟩:=aDy (step:=fun s=>kF ms s) ms.length 0 (fun k=>mtB ms k (ms.getD k ⟨[],[],[]⟩)) (.inr false) (.inl ()) (Nat.zero_le _) (fun k _ hk=>by rw [hget hk];exact meet_i ms hl hm hk) (by simp only [kF,cN];rfl)
 obtain ⟨c,hc,hs⟩:=aDy (step:=fun s=>mP ms s) ms.length 0 (fun k=>mtB ms k (ms.getD k ⟨[],[],[]⟩)) (.inr false) (.inl ()) (Nat.zero_le _) (fun k _ hk=>by rw [hget hk];exact meet_s ms hl hk) (by simp only [mP,cN];rfl)
 have hbc:c=b:=by
  cases b<;>cases c<;>first|rfl|(have:=hb.2 (hc.1 rfl);simp at this)|(have:=hc.2 (hb.1 rfl);simp at this)
 subst hbc
 refine ⟨c&&decide ((ms.length:Int)<=6),?_,?_⟩
 ·unfold qX
  rw [show (0:Int)=((0:Nat):Int) from rfl,hi,aE]
  cases c<;>rfl
 ·unfold wD
  by_cases h6:6 < ms.length
  ·rw [if_pos (by simp only [decide_eq_true_eq];omega),decide_eq_false (by omega),Bool.and_false]
  ·rw [if_neg (by simp only [decide_eq_true_eq];omega),show (0:Int)=((0:Nat):Int) from rfl,hs,aE,decide_eq_true (by omega),Bool.and_true]
   cases c<;>rfl
end Gv
