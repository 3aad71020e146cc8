/- Validity of plants, on both sides. -/
import Derived.Test.YtokmmhfhaoanmaaGreatDoorJP12
set_option linter.all false
namespace Gv
open Go
def aSx (lo hi:Int) (xs:List Int):Prop:=∀ k,(hk:k < xs.length)->(lo<=xs[k]/\xs[k]<=hi)/\(1<=k->(xs[k - 1]'(by omega)) < xs[k])
theorem aSx.nat {lo hi:Int} {xs:List Int} (h:aSx lo hi xs) (hlo:0<=lo) (k:Nat) (hk:k < xs.length):lo+k<=xs[k]:=by
 induction k with
 |zero=>have:=(h 0 hk).1.1;omega
 |succ k ih=>
  have h1:=ih (by omega)
  have h2:=(h (k+1) hk).2 (by omega)
  simp only [Nat.add_sub_cancel] at h2
  omega
theorem aSx.len {hi:Int} {xs:List Int} (h:aSx 0 hi xs) (hh:-1<=hi):(xs.length:Int)<=hi+1:=by
 by_cases h0:xs.length=0
 ·omega
 ·have h1:=h.nat (Int.le_refl 0) (xs.length - 1) (by omega)
  have h2:=(h (xs.length - 1) (by omega)).1.2
  omega
def uZ (xs:List aH):Prop:=xs.length<=12/\(∀ s∈xs,iB s=true)/\∀ k,1<=k->(hk:k < xs.length)->mW (xs[k - 1]'(by omega)) xs[k]=true
theorem aQI (xs:List aH) (h:xs.length < 1000000000):zY xs=some (xs.all iB):=by
 unfold zY
 rw [aAH (step:=fun s=>wW xs s) xs iB (.inr false) (.inl ()) (fun k x hk hx=>by
  simp only [wW,aY hk,if_pos,hx,aA,aAI,aV hk (show xs.length < 4611686018427387904 by omega)]
  cases iB x<;>rfl) (by simp only [wW,bE];rfl),aA]
 cases xs.all iB<;>rfl
theorem aNZ (xs:List aH) (h:xs.length < 1000000000):aAU xs=some (cl (uZ xs)):=by
 unfold aAU
 by_cases h12:12 < xs.length
 ·rw [if_pos (by simp only [decide_eq_true_eq];omega),uW (fun h:uZ xs=>absurd h.1 (by omega))];rfl
 rw [if_neg (by simp only [decide_eq_true_eq];omega),aQI xs h,aA]
 cases ha:xs.all iB with
 |false=>rw [uW (fun h:uZ xs=>by have:=List.all_eq_true.2 h.2.1;rw [ha] at this;cases this)];rfl
 |true=>
  have ha':=List.all_eq_true.1 ha
  unfold vQ
  simp only [Bool.not_true,Bool.false_eq_true,if_false]
  cases xs with
  |nil=>
   rw [aQ,show vP [] 1=some (.inr (.inl ())) from rfl,aA]
   rw [aEF (P:=uZ []) ⟨by simp,by simp,by intro k _ hk;simp at hk⟩];rfl
  |cons a l=>
   have:=yP (step:=fun s=>vP (a::l) s) (a::l).length 1 (fun k=>∀ hk:k < (a::l).length,mW ((a::l)[k - 1]'(by omega)) (a::l)[k]=true) (.inr false) (.inl ()) (by simp) (fun k h0 hk=>?_) (by simp only [vP,bE];rfl)
   ·rw [show (1:Int)=((1:Nat):Int) from rfl,this,aA]
    by_cases hs:∀ k,1<=k->k < (a::l).length->∀ hk:k < (a::l).length,mW ((a::l)[k - 1]'(by omega)) (a::l)[k]=true
    ·rw [if_pos (aEF hs),aEF (P:=uZ (a::l)) ⟨by omega,ha',fun k h1 hk=>hs k h1 hk hk⟩];rfl
    ·rw [if_neg (by rw [aBi];exact hs),uW (P:=uZ (a::l)) (fun h=>hs fun k h1 hk _=>h.2.2 k h1 hk)]
   ·have hk1:wr ((k:Int) - 1)=((k - 1:Nat):Int):=by rw [eG (by omega) (by omega)];omega
    simp only [vP,aY hk,if_pos,hk1,aU (xs:=a::l) (k:=k - 1) (by omega),aU hk,aA,aV hk (show (a::l).length < 4611686018427387904 by omega)]
    rw [aNW (b:=mW ((a::l)[k - 1]'(by omega)) (a::l)[k]) ⟨fun h _=>h,fun h=>h hk⟩]
    cases mW ((a::l)[k - 1]'(by omega)) (a::l)[k]<;>rfl
theorem aPV (xs:List aH) (h:xs.length < 1000000000) (h2:∀ s∈xs,s.length < 1000000000):aDw xs=some (cl (uZ xs)):=by
 unfold aDw
 have:=yP (step:=fun s=>aAt xs s) xs.length 0 (fun k=>∀ hk:k < xs.length,iB xs[k]=true/\(1<=k->mW (xs[k - 1]'(by omega)) xs[k]=true)) (.inr false) (.inl ()) (Nat.zero_le _) (fun k h0 hk=>?_) (by simp only [aAt,bE];rfl)
 ·rw [show (0:Int)=((0:Nat):Int) from rfl,this,aA]
  by_cases hs:∀ k,0<=k->k < xs.length->∀ hk:k < xs.length,iB xs[k]=true/\(1<=k->mW (xs[k - 1]'(by omega)) xs[k]=true)
  ·rw [if_pos (aEF hs)]
   unfold aGX
   have e:decide ((xs.length:Int)<=12)=cl (uZ xs):=by
    rw [aNW (P:=uZ xs) (b:=decide ((xs.length:Int)<=12))]
    simp only [decide_eq_true_eq]
    refine ⟨fun h=>⟨by omega,fun s hs'=>?_,fun k h1 hk=>(hs k (by omega) hk hk).2 h1⟩,fun h=>by have:=h.1;omega⟩
    obtain ⟨k,hk,rfl⟩:=List.getElem_of_mem hs'
    exact (hs k (by omega) hk hk).1
   simp only [e]
  ·rw [if_neg (by rw [aBi];exact hs),uW (P:=uZ xs) (fun h=>hs fun k h1 hk _=>⟨h.2.1 _ (List.getElem_mem hk),fun h1=>h.2.2 k h1 hk⟩)]
 ·simp only [aAt,aY hk,if_pos,aU hk,aA,aAs,aV hk (show xs.length < 4611686018427387904 by omega),yN _ (show xs[k].length < 4611686018427387904 by have:=h2 _ (List.getElem_mem hk);omega)]
  cases ha:iB xs[k] with
  |false=>rw [uW (fun h=>by have:=(h hk).1;rw [ha] at this;cases this)];rfl
  |true=>
   simp only [Bool.not_true,Bool.false_eq_true,if_false]
   by_cases h1:1<=k
   ·have hk1:wr ((k:Int) - 1)=((k - 1:Nat):Int):=by rw [eG (by omega) (by omega)];omega
    rw [decide_eq_true (p:=(0:Int) < (k:Int)) (by omega),if_pos rfl,hk1,aU (xs:=xs) (k:=k - 1) (by omega),aA,aSt]
    rw [aNW (b:=mW (xs[k - 1]'(by omega)) xs[k]) ⟨fun h _=>⟨ha,fun _=>h⟩,fun h=>(h hk).2 h1⟩]
    cases mW (xs[k - 1]'(by omega)) xs[k]<;>rfl
   ·rw [decide_eq_false (p:=(0:Int) < (k:Int)) (by omega),aEF (fun _=>⟨ha,fun h=>absurd h h1⟩)];rfl
end Gv
namespace Gv
open Go
theorem aBm (xs:List aH) (v:aH) (h:xs.length < 4611686018427387904):pT xs v=some (pos xs v):=by
 unfold pT pos
 rw [yO (step:=fun s=>aCQ xs v s) xs (fun x=>v == x) (fun k x hk hx=>by
  simp only [aCQ,aY hk,if_pos,hx,aA,aV hk h]
  rw [show (x == v)=(v == x) from by rw [Bool.eq_iff_iff,beq_iff_eq,beq_iff_eq];exact eq_comm]) (by simp only [aCQ,bE];rfl),aA]
 cases xs.findIdx? (fun x=>v == x)<;>rfl
theorem pos_nat {α:Type} [BEq α] [LawfulBEq α] {xs:List α} {a:α} (h:a∈xs):0<=pos xs a:=by
 obtain ⟨i,_,e,_⟩:=xL h
 omega
theorem pos_not {α:Type} [BEq α] [LawfulBEq α] {xs:List α} {a:α} (h:a∉xs):pos xs a=-1:=by
 unfold pos
 rw [List.findIdx?_eq_none_iff.2 (fun x hx=>by simp;intro e;subst e;exact h hx)]
theorem aPW (a b:List Int) (h:a.length < 4611686018427387904):aDt a b=some (decide (a=b)):=by
 unfold aDt
 by_cases e:a.length=b.length
 ·rw [if_neg (by simp [e])]
  refine Eq.trans ?_ (aJf e (step:=fun s=>aCT a b s) ?_ ?_)
  ·rfl
  ·intro k x y hk hx hy
   simp only [aCT,aY hk,if_pos,hx,hy,aA,aV hk h]
   by_cases e:x=y<;>simp [e]
  ·simp only [aCT,bE];rfl
 ·rw [if_pos (by simp only [bne_iff_ne,ne_eq];omega)]
  have:¬ a=b:=fun h=>e (by rw [h])
  simp [this]
def R2 (q:Int × Int):List Int:=[q.1,q.2]
theorem pos_iff {α:Type} [BEq α] [LawfulBEq α] {a:List α} {q:α}:0<=pos a q<->q∈a:=by
 refine ⟨fun h=>?_,pos_nat⟩
 apply Classical.byContradiction
 intro hn
 rw [pos_not hn] at h
 omega
theorem pos_snoc {α:Type} [BEq α] [LawfulBEq α] {a:List α} {q:α} (hq:q∉a):pos (a++[q]) q=(a.length:Int):=by
 unfold pos
 rw [List.findIdx?_append,List.findIdx?_eq_none_iff.2 (fun x hx=>by simp;intro e;subst e;exact hq hx)]
 simp
end Gv
namespace Gv
open Go
structure Pth (F:List (Int × Int)) (P:List (List aH)):Prop where
 len:P.length=F.length
 small:∀ (j:Nat) x,P[j]?=some x->x.length<=j
end Gv
namespace Gv
open Go
variable  {r:iQ}
end Gv
namespace Gv
open Go
end Gv
namespace Gv
open Go
theorem aHp (a:Edge):cO a a=false:=by
 cases h:cO a a with
 |false=>rfl
 |true=>exact absurd rfl (aRk h)
theorem aHq {a b c:Edge} (h1:cO a b=true) (h2:cO b c=true):cO a c=true:=by
 rw [uB] at *;omega
theorem aOa (a b:Edge):cO a b=true\/a=b\/cO b a=true:=by
 rw [uB,uB]
 obtain ⟨a1,a2,a3⟩:=a
 obtain ⟨b1,b2,b3⟩:=b
 simp only [Edge.mk.injEq]
 omega
def SE (l:List Edge):Prop:=l.Pairwise fun a b=>cO a b=true
theorem put_find (l:List Edge) (e:Edge) (h:l.length < 1000000000):∃ a:Nat,loop (fun s:Int=>yE l e s) (l.length:Int)=some (a:Int)/\a<=l.length/\(∀ (j:Nat) x,a<=j->l[j]?=some x->cO e x=true)/\(∀ (x:Edge),0 < a->l[a - 1]?=some x->cO e x=false):=by
 have key:=yU (step:=fun s:Int=>yE l e s) (fun s=>∃ a:Nat,s=(a:Int)/\a<=l.length/\∀ (j:Nat) x,a<=j->l[j]?=some x->cO e x=true) (fun s=>s.toNat)
  (fun x=>∃ a:Nat,x=(a:Int)/\a<=l.length/\(∀ (j:Nat) x,a<=j->l[j]?=some x->cO e x=true)/\(∀ (x:Edge),0 < a->l[a - 1]?=some x->cO e x=false)) (fun s hI=>?_) (s:=(l.length:Int)) ⟨l.length,rfl,Nat.le_refl _,fun j x hj hx=>by
   rw [List.getElem?_eq_none (by omega)] at hx;cases hx⟩
 ·obtain ⟨r,h1,a,rfl,h2⟩:=key
  exact ⟨a,h1,h2⟩
 ·obtain ⟨a,rfl,ha,hall⟩:=hI
  by_cases h0:0 < a
  ·have hk1:wr ((a:Int) - 1)=((a - 1:Nat):Int):=by rw [eG (by omega) (by omega)];omega
   have hx:l[a - 1]?=some l[a - 1]:=List.getElem?_eq_getElem (by omega)
   simp only [yE]
   rw [decide_eq_true (p:=(0:Int) < (a:Int)) (by omega),if_pos rfl,hk1,aU (xs:=l) (k:=a - 1) (by omega),aA,aVr,aA]
   unfold aBT
   cases he:cO e l[a - 1] with
   |true=>
    left
    refine ⟨_,by rw [if_pos rfl,hk1],⟨a - 1,rfl,by omega,fun j x hj hx2=>?_⟩,by simp;omega⟩
    by_cases e1:j=a - 1
    ·subst e1;rw [hx] at hx2;cases hx2;exact he
    ·exact hall j x (by omega) hx2
   |false=>
    right
    refine ⟨_,by rw [if_neg (by simp)],a,rfl,ha,hall,fun x _ hx2=>?_⟩
    rw [hx] at hx2;cases hx2;exact he
  ·right
   refine ⟨_,by simp only [yE];rw [decide_eq_false (p:=(0:Int) < (a:Int)) (by omega),if_neg (by simp)];unfold aBT;rw [if_neg (by simp)],a,rfl,ha,hall,fun x h=>absurd h h0⟩
theorem put_shift (l:List Edge) (a:Nat) (ha:a<=l.length) (h:l.length < 1000000000):∃ z:Edge,loop (fun s:List Edge × Int=>aBS (a:Int) s.1 s.2) (l++[⟨0,0,0⟩],(l.length:Int))=some (l.take a++z::l.drop a):=by
 have key:=yU (step:=fun s:List Edge × Int=>aBS (a:Int) s.1 s.2) (fun s=>∃ (k:Nat) (z:Edge),s=(l.take k++z::l.drop k,(k:Int))/\a<=k/\k<=l.length) (fun s=>s.2.toNat)
  (fun x=>∃ z:Edge,x=l.take a++z::l.drop a) (fun s hI=>?_) (s:=(l++[⟨0,0,0⟩],(l.length:Int))) ⟨l.length,⟨0,0,0⟩,by simp,ha,Nat.le_refl _⟩
 ·obtain ⟨r,h1,z,rfl⟩:=key
  exact ⟨z,h1⟩
 ·obtain ⟨k,z,rfl,hak,hk⟩:=hI
  simp only [aBS]
  have hlen:(l.take k++z::l.drop k).length=l.length+1:=by simp;omega
  by_cases h0:a < k
  ·have hk1:wr ((k:Int) - 1)=((k - 1:Nat):Int):=by rw [eG (by omega) (by omega)];omega
   rw [decide_eq_true (p:=(a:Int) < (k:Int)) (by omega),if_pos rfl,hk1,aU (xs:=l.take k++z::l.drop k) (k:=k - 1) (by omega),aA,aU (by omega),aA,oO _ (by omega),aA]
   left
   refine ⟨_,rfl,⟨k - 1,l[k - 1],?_,by omega,by omega⟩,by simp;omega⟩
   have e1:(l.take k++z::l.drop k)[k - 1]'(by omega)=l[k - 1]:=by
    rw [List.getElem_append_left (by simp;omega),List.getElem_take]
   rw [e1]
   have e2:(l.take k++z::l.drop k).set k l[k - 1]=l.take k++l[k - 1]::l.drop k:=by
    rw [List.set_append_right _ _ (by rw [List.length_take];omega)]
    simp [Nat.min_eq_left hk]
   have e3:l.take k=l.take (k - 1)++[l[k - 1]]:=by
    have:=List.take_add_one (l:=l) (i:=k - 1)
    rw [show k - 1+1=k by omega,List.getElem?_eq_getElem (by omega)] at this
    exact this
   have e4:l.drop (k - 1)=l[k - 1]::l.drop k:=by
    have:=List.drop_eq_getElem_cons (l:=l) (i:=k - 1) (by omega)
    rw [show k - 1+1=k by omega] at this
    exact this
   simp only [Prod.mk.injEq,and_true]
   show (l.take k++z::l.drop k).set k ⟨l[k - 1].F,l[k - 1].B,l[k - 1].To⟩=_
   rw [show (⟨l[k - 1].F,l[k - 1].B,l[k - 1].To⟩:Edge)=l[k - 1] from rfl,e2,e3,e4,List.append_assoc];rfl
  ·obtain rfl:k=a:=by omega
   right
   rw [decide_eq_false (p:=(k:Int) < (k:Int)) (by omega),if_neg (by simp)]
   exact ⟨_,rfl,z,rfl⟩
theorem l11Put_eq (l:List Edge) (e:Edge) (h:l.length < 1000000000) (hs:SE l):∃ l',aIy l e=some l'/\SE l'/\(∀ x,x∈l'<->x=e\/x∈l)/\l'.length<=l.length+1:=by
 unfold aIy
 obtain ⟨a,h1,ha,hge,hlt⟩:=put_find l e h
 rw [h1,aA]
 have hbefore:∀ x∈l.take a,cO x e=true\/x=e:=fun x hx=>by
  obtain ⟨j,hj,rfl⟩:=List.getElem_of_mem hx
  rw [List.length_take] at hj
  rw [List.getElem_take]
  have hla:l[a - 1]?=some (l[a - 1]'(by omega)):=List.getElem?_eq_getElem (by omega)
  have hf:=hlt _ (by omega) hla
  have hle:cO l[a - 1] e=true\/l[a - 1]=e:=by
   rcases aOa l[a - 1] e with g|g|g
   ·exact .inl g
   ·exact .inr g
   ·rw [g] at hf;cases hf
  by_cases e1:j=a - 1
  ·subst e1;exact hle
  ·have hp:=List.pairwise_iff_getElem.1 hs j (a - 1) (by omega) (by omega) (by omega)
   rcases hle with g|g
   ·exact .inl (aHq hp g)
   ·rw [g] at hp;exact .inl hp
 have hafter:∀ x∈l.drop a,cO e x=true:=fun x hx=>by
  obtain ⟨j,hj,rfl⟩:=List.getElem_of_mem hx
  rw [List.length_drop] at hj
  exact hge (a+j) _ (by omega) (by rw [List.getElem_drop];exact List.getElem?_eq_getElem (by omega))
 have hput:e∉l->∃ l',yD l e (a:Int) false=some l'/\SE l'/\(∀ x,x∈l'<->x=e\/x∈l)/\l'.length<=l.length+1:=fun hne=>by
  unfold yD
  rw [if_neg (by simp),dM (by simp [fG];omega),aA]
  have hk1:wr (((l++([⟨0,0,0⟩]:List Edge)).length:Int) - 1)=(l.length:Int):=by
   simp only [List.length_append,List.length_cons,List.length_nil]
   rw [eG (by omega) (by omega)];omega
  rw [hk1]
  obtain ⟨z,hz⟩:=put_shift l a ha h
  rw [hz,aA]
  unfold aEU
  have hl:(l.take a++z::l.drop a).length=l.length+1:=by simp;omega
  rw [aU (by omega),aA,oO _ (by omega),aA]
  have e2:(l.take a++z::l.drop a).set a (⟨e.F,e.B,e.To⟩:Edge)=l.take a++e::l.drop a:=by
   rw [List.set_append_right _ _ (by rw [List.length_take];omega)]
   simp [Nat.min_eq_left ha]
  rw [e2]
  refine ⟨_,rfl,?_,fun x=>?_,by simp;omega⟩
  ·have hs':(l.take a++l.drop a).Pairwise fun a b=>cO a b=true:=by rw [List.take_append_drop];exact hs
   rw [List.pairwise_append] at hs'
   unfold SE
   rw [List.pairwise_append,List.pairwise_cons]
   refine ⟨hs'.1,⟨hafter,hs'.2.1⟩,fun x hx y hy=>?_⟩
   have hxe:cO x e=true:=by
    rcases hbefore x hx with g|g
    ·exact g
    ·subst g;exact absurd (List.mem_of_mem_take hx) hne
   rcases List.mem_cons.1 hy with rfl|hy
   ·exact hxe
   ·exact aHq hxe (hafter y hy)
  ·rw [List.mem_append,List.mem_cons]
   conv=>rhs;rw [←List.take_append_drop a l,List.mem_append]
   constructor
   ·rintro (g|g|g)<;>simp [g]
   ·rintro (g|g|g)<;>simp [g]
 unfold aEV
 by_cases h0:0 < a
 ·have hk1:wr ((a:Int) - 1)=((a - 1:Nat):Int):=by rw [eG (by omega) (by omega)];omega
  rw [decide_eq_true (p:=(0:Int) < (a:Int)) (by omega),if_pos rfl,hk1,aU (xs:=l) (k:=a - 1) (by omega),aA]
  by_cases he:l[a - 1]=e
  ·rw [decide_eq_true he]
   refine ⟨l,rfl,hs,fun x=>⟨.inr,?_⟩,by omega⟩
   rintro (rfl|hx)
   ·rw [←he];exact List.getElem_mem _
   ·exact hx
  ·rw [decide_eq_false he]
   refine hput fun hm=>?_
   rw [←List.take_append_drop a l,List.mem_append] at hm
   rcases hm with hm|hm
   ·obtain ⟨j,hj,hje⟩:=List.getElem_of_mem hm
    rw [List.length_take] at hj
    rw [List.getElem_take] at hje
    by_cases e1:j=a - 1
    ·subst e1;exact he hje
    ·have hp:=List.pairwise_iff_getElem.1 hs j (a - 1) (by omega) (by omega) (by omega)
     rw [hje] at hp
     have:=hlt _ h0 (List.getElem?_eq_getElem (by omega))
     rw [hp] at this;cases this
   ·have:=hafter e hm
    rw [aHp] at this;cases this
 ·rw [decide_eq_false (p:=(0:Int) < (a:Int)) (by omega),if_neg (by simp)]
  refine hput fun hm=>?_
  obtain rfl:a=0:=by omega
  have:=hafter e (by simpa using hm)
  rw [aHp] at this;cases this
end Gv
namespace Gv
open Go
variable  {r:iQ}
end Gv
namespace Gv
open Go
variable  {r:iQ}
theorem aPL.cons {xs:List aH} (h:aPL xs):∃ L,xs=bS::L/\pJ L:=by
 obtain ⟨h1,h12,h0,hk⟩:=h
 cases xs with
 |nil=>simp at h1
 |cons a L=>
  have e:=h0 (by simp)
  simp only [List.getElem_cons_zero] at e
  subst e
  refine ⟨L,rfl,List.pairwise_iff_getElem.2 fun i j hi hj hij=>?_,fun hm=>?_⟩
  ·have:=labs_lt (xs:=bS::L) ⟨h1,h12,h0,hk⟩ (i:=i+1) (j:=j+1) (by omega) (by omega) (by simp;omega)
   simpa using this
  ·obtain ⟨j,hj,e⟩:=List.getElem_of_mem hm
   have:=(hk (j+1) (by omega) (by simp;omega)).2.1
   simp only [List.getElem_cons_succ] at this
   exact this e
end Gv
namespace Gv
open Go
variable  {r:iQ}
end Gv
namespace Gv
open Go
inductive Co (E:Nat->Nat->Prop) (m A:Nat->Prop):Nat->Prop
 |base {i:Nat}:A i->m i->Co E m A i
 |step {i j:Nat}:A i->E i j->Co E m A j->Co E m A i
section
variable {E U:Nat->Nat->Prop} {m flt A B:Nat->Prop}
theorem Co.mem {i:Nat} (h:Co E m A i):A i:=by cases h<;>assumption
theorem Co.mono (hAB:∀ i,A i->B i) {i:Nat} (h:Co E m A i):Co E m B i:=by
 induction h with
 |base h1 h2=>exact .base (hAB _ h1) h2
 |step h1 h2 _ ih=>exact .step (hAB _ h1) h2 ih
structure Stb (E U:Nat->Nat->Prop) (m flt S:Nat->Prop):Prop where
 co:∀ i,S i->Co E m S i
 ok:∀ i,S i->¬ flt i
 un:∀ i j,S i->U i j->S j
end
def on (a:List Bool) (i:Nat):Prop:=a[i]?=some true
end Gv
namespace Gv
open Go
structure Sat1 (n:Nat) (P:Nat->Prop) (m0 m:List Bool):Prop where
 len:m.length=n
 has:∀ i,on m0 i->on m i
 ok:∀ i,on m i->P i
theorem Co.sat {E:Nat->Nat->Prop} {m A:Nat->Prop} {g:List Bool} (h0:∀ i,A i->m i->on g i) (h1:∀ i j,A i->E i j->A j->on g j->on g i) {i:Nat} (h:Co E m A i):on g i:=by
 induction h with
 |base a b=>exact h0 _ a b
 |step a b c ih=>exact h1 _ _ a b c.mem ih
end Gv
namespace Gv
open Go
def vis (out:List Int) (i:Nat):Prop:=0<=out.getD i (-1)
theorem vis_lt {out:List Int} {i:Nat} (h:vis out i):i < out.length:=by
 apply Classical.byContradiction
 intro hc
 unfold vis at h
 rw [List.getD_eq_getElem?_getD,List.getElem?_eq_none (by omega)] at h
 simp at h
theorem aFl {out:List Int} {j i:Nat} {v:Int} (hj:j < out.length) (hv:0<=v):vis (out.set j v) i<->i=j\/vis out i:=by
 unfold vis
 rw [List.getD_eq_getElem?_getD,List.getD_eq_getElem?_getD]
 by_cases e:i=j
 ·subst e
  rw [List.getElem?_set_self hj];simp [hv]
 ·rw [List.getElem?_set_ne (Ne.symm e)];simp [e]
def neg (out:List Int):Nat:=out.countP fun x=>decide (x < 0)
theorem neg_set {v:Int} (hv:0<=v):∀ {out:List Int} {j:Nat} (_:j < out.length),¬ vis out j->neg (out.set j v)+1=neg out
 |[],j,h,_=>by simp at h
 |x::l,0,_,hn=>by
  unfold vis at hn
  simp at hn
  simp only [neg,List.set_cons_zero,List.countP_cons]
  rw [if_neg (by simp only [decide_eq_true_eq];omega),if_pos (by simpa using hn)]
 |x::l,j+1,h,hn=>by
  have ih:=neg_set hv (out:=l) (j:=j) (by simpa using h) (by unfold vis at hn ⊢;simpa using hn)
  simp only [neg,List.set_cons_succ,List.countP_cons] at ih ⊢
  omega
structure Bfs (ed:List Edge) (src dst:Edge->Nat) (n:Nat) (P:Nat->Prop) (q:Option Nat) (s:List Int × List Int):Prop where
 len:s.1.length=n
 ok:∀ i,vis s.1 i->P i
 todo:∀ x∈s.2,∃ i:Nat,x=(i:Int)/\vis s.1 i
 done:∀ i,vis s.1 i->(i:Int)∉s.2->some i≠q->∀ e∈ed,src e=i->vis s.1 (dst e)
 top:∀ i,s.1.getD i (-1)<=(n:Int) - neg s.1
theorem Bfs.put {ed:List Edge} {src dst:Edge->Nat} {n:Nat} {P:Nat->Prop} {q:Nat} {s:List Int × List Int} (h:Bfs ed src dst n P (some q) s) (hq:vis s.1 q) {j:Nat} (hj:j < n) (hn:¬ vis s.1 j) (hp:P j):
  Bfs ed src dst n P (some q) (s.1.set j (s.1.getD q (-1)+1),s.2++[(j:Int)])/\neg (s.1.set j (s.1.getD q (-1)+1))+(s.2++[(j:Int)]).length=neg s.1+s.2.length:=by
 have hj':j < s.1.length:=by rw [h.len];exact hj
 have hv:0<=s.1.getD q (-1)+1:=by unfold vis at hq;omega
 have hng:=neg_set hv hj' hn
 refine ⟨⟨by rw [List.length_set];exact h.len,fun i hi=>?_,fun x hx=>?_,fun i hi hm hne e he hs=>?_,fun i=>?_⟩,by simp only [List.length_append,List.length_singleton];omega⟩
 ·rcases (aFl hj' hv).1 hi with rfl|hi
  ·exact hp
  ·exact h.ok i hi
 ·rcases List.mem_append.1 hx with hx|hx
  ·obtain ⟨i,rfl,hi⟩:=h.todo x hx
   exact ⟨i,rfl,(aFl hj' hv).2 (.inr hi)⟩
  ·simp at hx;subst hx
   exact ⟨j,rfl,(aFl hj' hv).2 (.inl rfl)⟩
 ·rw [List.mem_append] at hm
  rcases (aFl hj' hv).1 hi with rfl|hi
  ·exact absurd (.inr (by simp)) hm
  ·exact (aFl hj' hv).2 (.inr (h.done i hi (fun x=>hm (.inl x)) hne e he hs))
 ·have ht:=h.top i
  have hq':=h.top q
  simp only
  by_cases e:i=j
  ·subst e
   rw [List.getD_eq_getElem?_getD,List.getElem?_set_self hj']
   simp only [Option.getD_some];omega
  ·rw [List.getD_eq_getElem?_getD,List.getElem?_set_ne (Ne.symm e),←List.getD_eq_getElem?_getD];omega
open Classical in
theorem bfs_loop {ed:List Edge} {n:Nat} (hn:n < 1000000) (src dst:Edge->Nat) {inner:Int->List Int × List Int × Int->Option ((List Int × List Int × Int) ⊕ (List Int × List Int))} {outer:List Int × List Int->Option ((List Int × List Int) ⊕ List Int)}
  (hi:∀ (q:Nat) (k:Nat) (hk:k < ed.length) out todo,out.length=n->q < n->todo.length<=n->(∀ i,out.getD i (-1)<=(n:Int))->inner (q:Int) (out,todo,(k:Int))=some (.inl (if src ed[k]=q/\¬ vis out (dst ed[k]) then (out.set (dst ed[k]) (wr (out.getD q (-1)+1)),todo++[(dst ed[k]:Int)],((k+1:Nat):Int)) else (out,todo,((k+1:Nat):Int)))))
  (he:∀ (q:Nat) out todo,inner (q:Int) (out,todo,(ed.length:Int))=some (.inr (out,todo)))
  (ho:∀ out (q:Nat) todo,out.length=n->q < n->todo.length<=n->outer (out,(q:Int)::todo)=ob (loop (inner (q:Int)) (out,todo,0)) fun r=>some (.inl r))
  (ho2:∀ out,outer (out,[])=some (.inr out)) (hb:∀ e∈ed,dst e < n) (P:Nat->Prop) (hP:∀ e∈ed,P (src e)->P (dst e)) {s0:List Int × List Int} (h0:Bfs ed src dst n P none s0) (hm:neg s0.1+s0.2.length<=n):
  ∃ out,loop outer s0=some out/\out.length=n/\(∀ i,vis out i->P i)/\(∀ i,vis out i->∀ e∈ed,src e=i->vis out (dst e))/\∀ i,vis s0.1 i->vis out i:=by
 refine yU (step:=outer) (fun s=>Bfs ed src dst n P none s/\neg s.1+s.2.length<=n/\∀ i,vis s0.1 i->vis s.1 i) (fun s=>neg s.1+s.2.length) (fun out=>out.length=n/\(∀ i,vis out i->P i)/\(∀ i,vis out i->∀ e∈ed,src e=i->vis out (dst e))/\∀ i,vis s0.1 i->vis out i) (fun s hI=>?_) ⟨h0,hm,fun _ h=>h⟩
 obtain ⟨out,todo⟩:=s
 obtain ⟨hB,hle,hmo⟩:=hI
 cases todo with
 |nil=>
  right
  exact ⟨out,ho2 out,hB.len,hB.ok,fun i hi e he hs=>hB.done i hi (by simp) (by simp) e he hs,hmo⟩
 |cons x todo=>
  left
  obtain ⟨q,rfl,hq⟩:=hB.todo x (by simp)
  have hqn:q < n:=by have h1:=vis_lt hq;have h2:=hB.len;simp only at h1 h2;omega
  have hle':neg out+(todo.length+1)<=n:=hle
  rw [ho out q todo hB.len hqn (by omega)]
  have hB1:Bfs ed src dst n P (some q) (out,todo):=⟨hB.len,hB.ok,fun x hx=>hB.todo x (by simp [hx]),fun i hi hm hne e he hs=>hB.done i hi (by simp only [List.mem_cons,not_or];exact ⟨fun h=>hne (by rw [show i=q by omega]),hm⟩) (by simp) e he hs,hB.top⟩
  have:=aEu (step:=inner (q:Int)) ed.length (fun i (s:List Int × List Int)=>(s.1,s.2,(i:Int)))
   (fun k s=>Bfs ed src dst n P (some q) s/\neg s.1+s.2.length=neg out+todo.length/\(∀ i,vis out i->vis s.1 i)/\∀ k',k' < k->∀ h:k' < ed.length,src ed[k']=q->vis s.1 (dst ed[k'])) (fun r=>Bfs ed src dst n P (some q) r/\neg r.1+r.2.length=neg out+todo.length/\(∀ i,vis out i->vis r.1 i)/\∀ e∈ed,src e=q->vis r.1 (dst e)) (fun k s hk hI=>?_) (fun s hI=>?_) ed.length 0 (out,todo) (by omega) ⟨hB1,rfl,fun _ h=>h,fun k' h=>by omega⟩
  ·obtain ⟨r,hr,hR,hc,hv,hall⟩:=this
   have hr':loop (inner (q:Int)) (out,todo,0)=some r:=hr
   rw [hr',aA]
   refine ⟨r,rfl,⟨⟨hR.len,hR.ok,hR.todo,fun i hi hm _ e he hs=>?_,hR.top⟩,by omega,fun i hi=>hv i (hmo i hi)⟩,?_⟩
   ·by_cases hiq:i=q
    ·subst hiq;exact hall e he hs
    ·exact hR.done i hi hm (by simpa using hiq) e he hs
   ·simp only [List.length_cons];omega
  ·obtain ⟨o,td⟩:=s
   obtain ⟨hS,hc,hv,hall⟩:=hI
   simp only at hc hv hall
   have hmem:ed[k]∈ed:=List.getElem_mem hk
   have hvq:=hv q hq
   have htop:∀ i,o.getD i (-1)<=(n:Int):=fun i=>by have:=hS.top i;simp only at this;omega
   rw [hi q k hk o td hS.len hqn (by omega) htop]
   by_cases ht:src ed[k]=q/\¬ vis o (dst ed[k])
   ·rw [if_pos ht]
    have hp:P (dst ed[k]):=hP _ hmem (by rw [ht.1];exact hS.ok q hvq)
    obtain ⟨g1,g2⟩:=hS.put hvq (hb _ hmem) ht.2 hp
    have hw:wr (o.getD q (-1)+1)=o.getD q (-1)+1:=by
     have h1:=htop q
     have h2:0<=o.getD q (-1):=hvq
     rw [eG (by omega) (by omega)]
    have hol:dst ed[k] < o.length:=by have:=hS.len;simp only at this;rw [this];exact hb _ hmem
    have h0:(0:Int)<=o.getD q (-1)+1:=by have h2:0<=o.getD q (-1):=hvq;omega
    rw [hw]
    refine ⟨(o.set (dst ed[k]) (o.getD q (-1)+1),td++[(dst ed[k]:Int)]),rfl,g1,by simp only at g2 ⊢;omega,fun i h=>(aFl hol h0).2 (.inr (hv i h)),fun k' h1 h2 h3=>?_⟩
    by_cases hkk:k' < k
    ·exact (aFl hol h0).2 (.inr (hall k' hkk h2 h3))
    ·obtain rfl:k'=k:=by omega
     exact (aFl hol h0).2 (.inl rfl)
   ·rw [if_neg ht]
    refine ⟨(o,td),rfl,hS,hc,hv,fun k' h1 h2 h3=>?_⟩
    by_cases hkk:k' < k
    ·exact hall k' hkk h2 h3
    ·obtain rfl:k'=k:=by omega
     exact Classical.byContradiction fun hx=>ht ⟨h3,hx⟩
  ·obtain ⟨o,td⟩:=s
   obtain ⟨hS,hc,hv,hall⟩:=hI
   refine ⟨(o,td),he q o td,hS,hc,hv,fun e hem hs=>?_⟩
   obtain ⟨i',hi',rfl⟩:=List.mem_iff_getElem.1 hem
   exact hall i' hi' hi' hs
end Gv
namespace Gv
open Go
section
variable {E U:Nat->Nat->Prop} {m flt:Nat->Prop} {n:Nat}
end
variable  {r:iQ}
end Gv
namespace Gv
open Go
inductive Rt (t:iQ):Nat->Prop
 |init:Rt t t.I.toNat
 |step {e:Edge}:e∈t.E->Rt t e.F.toNat->Rt t e.To.toNat
end Gv
namespace Gv
open Go
end Gv
namespace Gv
open Go
end Gv
