/- Validity of plants, on both sides. -/
import Derived.Test.YtfhgggimcgajdaaGreatDoorJP12
set_option linter.all false
namespace Gv
open Go
def aOP (lo hi:Int) (xs:List Int):Prop:=∀ k,(hk:k < xs.length)->(lo<=xs[k]/\xs[k]<=hi)/\(1<=k->(xs[k - 1]'(by omega)) < xs[k])
theorem aOP.nat {lo hi:Int} {xs:List Int} (h:aOP lo hi xs) (hlo:0<=lo) (k:Nat) (hk:k < xs.length):lo+k<=xs[k]:=by
 induction k with
 |zero=>have:=(h 0 hk).1.1;omega
 |succ k ih=>
  have h1:=ih (by omega)
  have h2:=(h (k+1) hk).2 (by omega)
  simp only [Nat.add_sub_cancel] at h2
  omega
theorem aOP.len {hi:Int} {xs:List Int} (h:aOP 0 hi xs) (hh:-1<=hi):(xs.length:Int)<=hi+1:=by
 by_cases h0:xs.length=0
 ·omega
 ·have h1:=h.nat (Int.le_refl 0) (xs.length - 1) (by omega)
  have h2:=(h (xs.length - 1) (by omega)).1.2
  omega
def vN (xs:List bJ):Prop:=xs.length<=12/\(∀ s∈xs,kI s=true)/\∀ k,1<=k->(hk:k < xs.length)->qF (xs[k - 1]'(by omega)) xs[k]=true
theorem aNi (xs:List bJ) (h:xs.length < 1000000000):aAm xs=some (xs.all kI):=by
 unfold aAm
 rw [aBb (step:=fun s=>rI xs s) xs kI (.inr false) (.inl ()) (fun k x hk hx=>by
  simp only [rI,cR hk,if_pos,hx,aE,aBc,cO hk (show xs.length < 4611686018427387904 by omega)]
  cases kI x<;>rfl) (by simp only [rI,cN];rfl),aE]
 cases xs.all kI<;>rfl
theorem aKL (xs:List bJ) (h:xs.length < 1000000000):aBk xs=some (cl (vN xs)):=by
 unfold aBk
 by_cases h12:12 < xs.length
 ·rw [if_pos (by simp only [decide_eq_true_eq];omega),aEn (fun h:vN xs=>absurd h.1 (by omega))];rfl
 rw [if_neg (by simp only [decide_eq_true_eq];omega),aNi xs h,aE]
 cases ha:xs.all kI with
 |false=>rw [aEn (fun h:vN xs=>by have:=List.all_eq_true.2 h.2.1;rw [ha] at this;cases this)];rfl
 |true=>
  have ha':=List.all_eq_true.1 ha
  unfold wE
  simp only [Bool.not_true,Bool.false_eq_true,if_false]
  cases xs with
  |nil=>
   rw [cX,show sB [] 1=some (.inr (.inl ())) from rfl,aE]
   rw [aIh (P:=vN []) ⟨by simp,by simp,by intro k _ hk;simp at hk⟩];rfl
  |cons a l=>
   have:=aDz (step:=fun s=>sB (a::l) s) (a::l).length 1 (fun k=>∀ hk:k < (a::l).length,qF ((a::l)[k - 1]'(by omega)) (a::l)[k]=true) (.inr false) (.inl ()) (by simp) (fun k h0 hk=>?_) (by simp only [sB,cN];rfl)
   ·rw [show (1:Int)=((1:Nat):Int) from rfl,this,aE]
    by_cases hs:∀ k,1<=k->k < (a::l).length->∀ hk:k < (a::l).length,qF ((a::l)[k - 1]'(by omega)) (a::l)[k]=true
    ·rw [if_pos (aIh hs),aIh (P:=vN (a::l)) ⟨by omega,ha',fun k h1 hk=>hs k h1 hk hk⟩];rfl
    ·rw [if_neg (by rw [aEg];exact hs),aEn (P:=vN (a::l)) (fun h=>hs fun k h1 hk _=>h.2.2 k h1 hk)]
   ·have hk1:wr ((k:Int) - 1)=((k - 1:Nat):Int):=by rw [iC (by omega) (by omega)];omega
    simp only [sB,cR hk,if_pos,hk1,cZ (xs:=a::l) (k:=k - 1) (by omega),cZ hk,aE,cO hk (show (a::l).length < 4611686018427387904 by omega)]
    rw [cl_of (b:=qF ((a::l)[k - 1]'(by omega)) (a::l)[k]) ⟨fun h _=>h,fun h=>h hk⟩]
    cases qF ((a::l)[k - 1]'(by omega)) (a::l)[k]<;>rfl
theorem aME (xs:List bJ) (h:xs.length < 1000000000) (h2:∀ s∈xs,s.length < 1000000000):aDx xs=some (cl (vN xs)):=by
 unfold aDx
 have:=aDz (step:=fun s=>aAK xs s) xs.length 0 (fun k=>∀ hk:k < xs.length,kI xs[k]=true/\(1<=k->qF (xs[k - 1]'(by omega)) xs[k]=true)) (.inr false) (.inl ()) (Nat.zero_le _) (fun k h0 hk=>?_) (by simp only [aAK,cN];rfl)
 ·rw [show (0:Int)=((0:Nat):Int) from rfl,this,aE]
  by_cases hs:∀ k,0<=k->k < xs.length->∀ hk:k < xs.length,kI xs[k]=true/\(1<=k->qF (xs[k - 1]'(by omega)) xs[k]=true)
  ·rw [if_pos (aIh hs)]
   unfold aAJ
   have e:decide ((xs.length:Int)<=12)=cl (vN xs):=by
    rw [cl_of (P:=vN xs) (b:=decide ((xs.length:Int)<=12))]
    simp only [decide_eq_true_eq]
    refine ⟨fun h=>⟨by omega,fun s hs'=>?_,fun k h1 hk=>(hs k (by omega) hk hk).2 h1⟩,fun h=>by have:=h.1;omega⟩
    obtain ⟨k,hk,rfl⟩:=List.getElem_of_mem hs'
    exact (hs k (by omega) hk hk).1
   simp only [e]
  ·rw [if_neg (by rw [aEg];exact hs),aEn (P:=vN xs) (fun h=>hs fun k h1 hk _=>⟨h.2.1 _ (List.getElem_mem hk),fun h1=>h.2.2 k h1 hk⟩)]
 ·simp only [aAK,cR hk,if_pos,cZ hk,aE,uY,cO hk (show xs.length < 4611686018427387904 by omega),zH _ (show xs[k].length < 4611686018427387904 by have:=h2 _ (List.getElem_mem hk);omega)]
  cases ha:kI xs[k] with
  |false=>rw [aEn (fun h=>by have:=(h hk).1;rw [ha] at this;cases this)];rfl
  |true=>
   simp only [Bool.not_true,Bool.false_eq_true,if_false]
   by_cases h1:1<=k
   ·have hk1:wr ((k:Int) - 1)=((k - 1:Nat):Int):=by rw [iC (by omega) (by omega)];omega
    rw [decide_eq_true (p:=(0:Int) < (k:Int)) (by omega),if_pos rfl,hk1,cZ (xs:=xs) (k:=k - 1) (by omega),aE,ltB_ge]
    rw [cl_of (b:=qF (xs[k - 1]'(by omega)) xs[k]) ⟨fun h _=>⟨ha,fun _=>h⟩,fun h=>(h hk).2 h1⟩]
    cases qF (xs[k - 1]'(by omega)) xs[k]<;>rfl
   ·rw [decide_eq_false (p:=(0:Int) < (k:Int)) (by omega),aIh (fun _=>⟨ha,fun h=>absurd h h1⟩)];rfl
end Gv
namespace Gv
open Go
theorem aIJ (xs:List bJ) (v:bJ) (h:xs.length < 4611686018427387904):yS xs v=some (pos xs v):=by
 unfold yS pos
 rw [vJ (step:=fun s=>aAq xs v s) xs (fun x=>v == x) (fun k x hk hx=>by
  simp only [aAq,cR hk,if_pos,hx,aE,cO hk h]
  rw [show (x == v)=(v == x) from by rw [Bool.eq_iff_iff,beq_iff_eq,beq_iff_eq];exact eq_comm]) (by simp only [aAq,cN];rfl),aE]
 cases xs.findIdx? (fun x=>v == x)<;>rfl
theorem aMF (a b:List Int) (h:a.length < 4611686018427387904):aDu a b=some (decide (a=b)):=by
 unfold aDu
 by_cases e:a.length=b.length
 ·rw [if_neg (by simp [e])]
  refine Eq.trans ?_ (aHn e (step:=fun s=>aAp a b s) ?_ ?_)
  ·rfl
  ·intro k x y hk hx hy
   simp only [aAp,cR hk,if_pos,hx,hy,aE,cO hk h]
   by_cases e:x=y<;>simp [e]
  ·simp only [aAp,cN];rfl
 ·rw [if_pos (by simp only [bne_iff_ne,ne_eq];omega)]
  have:¬ a=b:=fun h=>e (by rw [h])
  simp [this]
def R2 (q:Int × Int):List Int:=[q.1,q.2]
end Gv
namespace Gv
open Go
structure Pth (F:List (Int × Int)) (P:List (List bJ)):Prop where
 len:P.length=F.length
 small:∀ (j:Nat) x,P[j]?=some x->x.length<=j
end Gv
namespace Gv
open Go
end Gv
namespace Gv
open Go
end Gv
namespace Gv
open Go
end Gv
namespace Gv
open Go
end Gv
namespace Gv
open Go
theorem LabsOk.cons {xs:List bJ} (h:LabsOk xs):∃ L,xs=iT::L/\aLB L:=by
 obtain ⟨h1,h12,h0,hk⟩:=h
 cases xs with
 |nil=>simp at h1
 |cons a L=>
  have e:=h0 (by simp)
  simp only [List.getElem_cons_zero] at e
  subst e
  refine ⟨L,rfl,List.pairwise_iff_getElem.2 fun i j hi hj hij=>?_,fun hm=>?_⟩
  ·have:=labs_lt (xs:=iT::L) ⟨h1,h12,h0,hk⟩ (i:=i+1) (j:=j+1) (by omega) (by omega) (by simp;omega)
   simpa using this
  ·obtain ⟨j,hj,e⟩:=List.getElem_of_mem hm
   have:=(hk (j+1) (by omega) (by simp;omega)).2.1
   simp only [List.getElem_cons_succ] at this
   exact this e
end Gv
namespace Gv
open Go
end Gv
namespace Gv
open Go
inductive Co (E:Nat->Nat->Prop) (m A:Nat->Prop):Nat->Prop
 |base {i:Nat}:A i->m i->Co E m A i
 |step {i j:Nat}:A i->E i j->Co E m A j->Co E m A i
section
variable {E U:Nat->Nat->Prop} {m flt A B:Nat->Prop}
theorem Co.mem {i:Nat} (h:Co E m A i):A i:=by cases h<;>assumption
theorem Co.mono (hAB:∀ i,A i->B i) {i:Nat} (h:Co E m A i):Co E m B i:=by
 induction h with
 |base h1 h2=>exact .base (hAB _ h1) h2
 |step h1 h2 _ ih=>exact .step (hAB _ h1) h2 ih
structure Stb (E U:Nat->Nat->Prop) (m flt S:Nat->Prop):Prop where
 co:∀ i,S i->Co E m S i
 ok:∀ i,S i->¬ flt i
 un:∀ i j,S i->U i j->S j
end
def on (a:List Bool) (i:Nat):Prop:=a[i]?=some true
end Gv
namespace Gv
open Go
structure Sat1 (n:Nat) (P:Nat->Prop) (m0 m:List Bool):Prop where
 len:m.length=n
 has:∀ i,on m0 i->on m i
 ok:∀ i,on m i->P i
end Gv
namespace Gv
open Go
def neg (out:List Int):Nat:=out.countP fun x=>decide (x < 0)
end Gv
namespace Gv
open Go
section
variable {E U:Nat->Nat->Prop} {m flt:Nat->Prop} {n:Nat}
end
end Gv
namespace Gv
open Go
end Gv
namespace Gv
open Go
end Gv
namespace Gv
open Go
end Gv
