/- Validity of plants, on both sides. -/
import Derived.Test.YtffnhnhfedmjcaaGreatDoorJP12
set_option linter.all false
namespace Gv
open Go
def aOt (lo hi:Int) (xs:List Int):Prop:=∀ k,(hk:k < xs.length)->(lo<=xs[k]/\xs[k]<=hi)/\(1<=k->(xs[k - 1]'(by omega)) < xs[k])
theorem aOt.nat {lo hi:Int} {xs:List Int} (h:aOt lo hi xs) (hlo:0<=lo) (k:Nat) (hk:k < xs.length):lo+k<=xs[k]:=by
 induction k with
 |zero=>have:=(h 0 hk).1.1;omega
 |succ k ih=>
  have h1:=ih (by omega)
  have h2:=(h (k+1) hk).2 (by omega)
  simp only [Nat.add_sub_cancel] at h2
  omega
theorem aOt.len {hi:Int} {xs:List Int} (h:aOt 0 hi xs) (hh:-1<=hi):(xs.length:Int)<=hi+1:=by
 by_cases h0:xs.length=0
 ·omega
 ·have h1:=h.nat (Int.le_refl 0) (xs.length - 1) (by omega)
  have h2:=(h (xs.length - 1) (by omega)).1.2
  omega
def NmsOk (xs:List aH):Prop:=xs.length<=12/\(∀ s∈xs,aAe s=true)/\∀ k,1<=k->(hk:k < xs.length)->wV (xs[k - 1]'(by omega)) xs[k]=true
theorem aQU (xs:List aH) (h:xs.length < 1000000000) (h2:∀ s∈xs,s.length < 1000000000):zN xs=some (cl (NmsOk xs)):=by
 unfold zN
 have:=aJQ (step:=fun s=>aBN xs s) xs.length 0 (fun k=>∀ hk:k < xs.length,aAe xs[k]=true/\(1<=k->wV (xs[k - 1]'(by omega)) xs[k]=true)) (.inr false) (.inl ()) (Nat.zero_le _) (fun k h0 hk=>?_) (by simp only [aBN,dB];rfl)
 ·rw [show (0:Int)=((0:Nat):Int) from rfl,this,aA]
  by_cases hs:∀ k,0<=k->k < xs.length->∀ hk:k < xs.length,aAe xs[k]=true/\(1<=k->wV (xs[k - 1]'(by omega)) xs[k]=true)
  ·rw [if_pos (aHT hs)]
   unfold aGc
   have e:decide ((xs.length:Int)<=12)=cl (NmsOk xs):=by
    rw [aKu (P:=NmsOk xs) (b:=decide ((xs.length:Int)<=12))]
    simp only [decide_eq_true_eq]
    refine ⟨fun h=>⟨by omega,fun s hs'=>?_,fun k h1 hk=>(hs k (by omega) hk hk).2 h1⟩,fun h=>by have:=h.1;omega⟩
    obtain ⟨k,hk,rfl⟩:=List.getElem_of_mem hs'
    exact (hs k (by omega) hk hk).1
   simp only [e]
  ·rw [if_neg (by rw [aGl];exact hs),aJk (P:=NmsOk xs) (fun h=>hs fun k h1 hk _=>⟨h.2.1 _ (List.getElem_mem hk),fun h1=>h.2.2 k h1 hk⟩)]
 ·simp only [aBN,bU hk,if_pos,cG hk,aA,aBM,bQ hk (show xs.length < 4611686018427387904 by omega),aDc _ (show xs[k].length < 4611686018427387904 by have:=h2 _ (List.getElem_mem hk);omega)]
  cases ha:aAe xs[k] with
  |false=>rw [aJk (fun h=>by have:=(h hk).1;rw [ha] at this;cases this)];rfl
  |true=>
   simp only [Bool.not_true,Bool.false_eq_true,if_false]
   by_cases h1:1<=k
   ·have hk1:wr ((k:Int) - 1)=((k - 1:Nat):Int):=by rw [gA (by omega) (by omega)];omega
    rw [decide_eq_true (p:=(0:Int) < (k:Int)) (by omega),if_pos rfl,hk1,cG (xs:=xs) (k:=k - 1) (by omega),aA,ltB_ge]
    rw [aKu (b:=wV (xs[k - 1]'(by omega)) xs[k]) ⟨fun h _=>⟨ha,fun _=>h⟩,fun h=>(h hk).2 h1⟩]
    cases wV (xs[k - 1]'(by omega)) xs[k]<;>rfl
   ·rw [decide_eq_false (p:=(0:Int) < (k:Int)) (by omega),aHT (fun _=>⟨ha,fun h=>absurd h h1⟩)];rfl
end Gv
namespace Gv
open Go
theorem aMb (xs:List aH) (v:aH) (h:xs.length < 4611686018427387904):aDW xs v=some (pos xs v):=by
 unfold aDW pos
 rw [wT (step:=fun s=>aDD xs v s) xs (fun x=>v == x) (fun k x hk hx=>by
  simp only [aDD,bU hk,if_pos,hx,aA,bQ hk h]
  rw [show (x == v)=(v == x) from by rw [Bool.eq_iff_iff,beq_iff_eq,beq_iff_eq];exact eq_comm]) (by simp only [aDD,dB];rfl),aA]
 cases xs.findIdx? (fun x=>v == x)<;>rfl
theorem pos_nat {α:Type} [BEq α] [LawfulBEq α] {xs:List α} {a:α} (h:a∈xs):0<=pos xs a:=by
 obtain ⟨i,_,e,_⟩:=aAa h
 omega
theorem pos_not {α:Type} [BEq α] [LawfulBEq α] {xs:List α} {a:α} (h:a∉xs):pos xs a=-1:=by
 unfold pos
 rw [List.findIdx?_eq_none_iff.2 (fun x hx=>by simp;intro e;subst e;exact h hx)]
theorem aNs {t:bA} (hv:cF t) {e:Edge} (he:e∈t.E) {s:aH} (hs:s∈t.L):(oS t e == s)=(e.B == pos t.L s):=by
 obtain ⟨i,hi,e1,e2⟩:=aAa hs
 have hin:=rN hv he
 have ht:=aHo hin
 obtain ⟨_,_,h0,h1⟩:=hin
 have hl:e.B.toNat < t.L.length:=by omega
 have ht2:t.L[e.B.toNat]=oS t e:=by
  rw [aHW h0 hl] at ht
  exact Option.some.inj ht
 rw [e1]
 refine Bool.eq_iff_iff.2 ?_
 simp only [beq_iff_eq]
 constructor
 ·intro h
  have:=labs_inj hv.2.2.1 hl hi (by rw [ht2,h,e2])
  omega
 ·intro h
  have:e.B.toNat=i:=by omega
  subst this
  rw [←ht2,e2]
theorem aBZ {α:Type} [BEq α] [LawfulBEq α] {a:List α} {q:α}:0<=pos a q<->q∈a:=by
 refine ⟨fun h=>?_,pos_nat⟩
 apply Classical.byContradiction
 intro hn
 rw [pos_not hn] at h
 omega
theorem aOu {α:Type} [BEq α] [LawfulBEq α] {a b:List α} (h:a <+:b) {q:α} (hq:q∈a):pos b q=pos a q:=by
 obtain ⟨c,rfl⟩:=h
 unfold pos
 have:(a.findIdx? fun x=>q == x).isSome:=by rw [List.findIdx?_isSome,List.any_eq_true];exact ⟨q,hq,by simp⟩
 rw [List.findIdx?_append]
 cases hx:a.findIdx? fun x=>q == x with
 |none=>rw [hx] at this;cases this
 |some i=>rfl
theorem aMc {α:Type} [BEq α] [LawfulBEq α] {a:List α} {q:α} (hq:q∉a):pos (a++[q]) q=(a.length:Int):=by
 unfold pos
 rw [List.findIdx?_append,List.findIdx?_eq_none_iff.2 (fun x hx=>by simp;intro e;subst e;exact hq hx)]
 simp
end Gv
namespace Gv
open Go
def mq {κ:Type} (k:Nat):List κ->List (κ × Int)
 |[]=>[]
 |q::l=>(q,(k:Int))::mq (k+1) l
theorem aOv {κ:Type} [DecidableEq κ] [BEq κ] [LawfulBEq κ] {q:κ}:∀ {a:List κ} {k:Nat},aAl (mq k a) q=match a.findIdx? (fun x=>q == x) with|none=>none|some i=>some ((k+i:Nat):Int)
 |[],k=>rfl
 |x::l,k=>by
  have ih:=aOv (q:=q) (a:=l) (k:=k+1)
  unfold mq aAl
  rw [List.findIdx?_cons]
  by_cases e:q=x
  ·subst e
   rw [if_pos rfl,if_pos (by simp)];rfl
  ·rw [if_neg e,if_neg (by simpa using e),ih]
   cases l.findIdx? (fun x=>q == x) with
   |none=>rfl
   |some i=>simp only [Option.map_some];congr 2;omega
theorem aOw {κ:Type} [DecidableEq κ] {q:κ}:∀ {a:List κ} {k:Nat},q∉a->aDA (mq k a) q ((k+a.length:Nat):Int)=mq k (a++[q])
 |[],k,_=>by simp [mq,aDA]
 |x::l,k,hn=>by
  have ih:=aOw (q:=q) (a:=l) (k:=k+1) (fun hy=>hn (by simp [hy]))
  have e:¬ q=x:=fun hk=>hn (by rw [hk];simp)
  simp only [mq,aDA,List.cons_append,if_neg e]
  rw [←ih]
  congr 3
  simp;omega
theorem mget_in {κ:Type} [DecidableEq κ] [BEq κ] [LawfulBEq κ] {q:κ} {a:List κ} (h:q∈a):aAl (mq 0 a) q=some (pos a q):=by
 obtain ⟨i,hi,e,_⟩:=aAa h
 rw [aOv]
 unfold pos at e ⊢
 cases hx:a.findIdx? (fun x=>q == x) with
 |none=>rw [hx] at e;simp only at e;omega
 |some j=>simp
theorem aPS {κ:Type} [DecidableEq κ] [BEq κ] [LawfulBEq κ] {q:κ} {a:List κ} (h:q∉a):aAl (mq 0 a) q=none:=by
 rw [aOv,List.findIdx?_eq_none_iff.2 (fun x hx=>by simp;intro e;subst e;exact h hx)]
structure Pth (F:List (Int × Int)) (P:List (List aH)):Prop where
 len:P.length=F.length
 small:∀ (j:Nat) x,P[j]?=some x->x.length<=j
end Gv
namespace Gv
open Go
theorem aGp {α:Type} (lt:α->α->Bool) (irr:∀ a,lt a a=false) (tr:∀ {a b c},lt a b=true->lt b c=true->lt a c=true) (tri:∀ a b,lt a b=true\/a=b\/lt b a=true) {xs:List α} (hn:xs.Nodup):(rO lt xs).Pairwise fun a b=>lt a b=true:=by
 have asy:∀ {a b},lt a b=true->lt b a=false:=fun {a b} h=>by
  cases hx:lt b a with
  |false=>rfl
  |true=>have:=tr h hx;rw [irr] at this;cases this
 have h1:(rO lt xs).Pairwise fun a b=>(!lt b a)=true:=by
  refine List.pairwise_mergeSort (le:=fun a b=>!lt b a) (fun a b c h1 h2=>?_) (fun a b=>?_) xs
  ·simp only [Bool.not_eq_true'] at *
   rcases tri a b with h|h|h
   ·rcases tri b c with g|g|g
    ·exact asy (tr h g)
    ·subst g;exact asy h
    ·rw [g] at h2;cases h2
   ·subst h;exact h2
   ·rw [h] at h1;cases h1
  ·rcases tri a b with h|h|h
   ·rw [asy h];rfl
   ·subst h;rw [irr];rfl
   ·rw [asy h];simp
 have h2:(rO lt xs).Nodup:=(List.mergeSort_perm xs _).nodup_iff.2 hn
 refine (h1.and h2).imp fun {a b} h=>?_
 obtain ⟨h3,h4⟩:=h
 simp only [Bool.not_eq_true'] at h3
 rcases tri a b with h|h|h
 ·exact h
 ·exact absurd h h4
 ·rw [h] at h3;cases h3
variable  {r:bA}
end Gv
namespace Gv
open Go
end Gv
namespace Gv
open Go
theorem vT (a:Edge):bZ a a=false:=by
 cases h:bZ a a with
 |false=>rfl
 |true=>exact absurd rfl (aJT h)
theorem yT {a b c:Edge} (h1:bZ a b=true) (h2:bZ b c=true):bZ a c=true:=by
 rw [vS] at *;omega
theorem aDd (a b:Edge):bZ a b=true\/a=b\/bZ b a=true:=by
 rw [vS,vS]
 obtain ⟨a1,a2,a3⟩:=a
 obtain ⟨b1,b2,b3⟩:=b
 simp only [Edge.mk.injEq]
 omega
def SE (l:List Edge):Prop:=l.Pairwise fun a b=>bZ a b=true
theorem put_find (l:List Edge) (e:Edge) (h:l.length < 1000000000):∃ a:Nat,loop (fun s:Int=>aBg l e s) (l.length:Int)=some (a:Int)/\a<=l.length/\(∀ (j:Nat) x,a<=j->l[j]?=some x->bZ e x=true)/\(∀ (x:Edge),0 < a->l[a - 1]?=some x->bZ e x=false):=by
 have key:=pG (step:=fun s:Int=>aBg l e s) (fun s=>∃ a:Nat,s=(a:Int)/\a<=l.length/\∀ (j:Nat) x,a<=j->l[j]?=some x->bZ e x=true) (fun s=>s.toNat)
  (fun x=>∃ a:Nat,x=(a:Int)/\a<=l.length/\(∀ (j:Nat) x,a<=j->l[j]?=some x->bZ e x=true)/\(∀ (x:Edge),0 < a->l[a - 1]?=some x->bZ e x=false)) (fun s hI=>?_) (s:=(l.length:Int)) ⟨l.length,rfl,Nat.le_refl _,fun j x hj hx=>by
   rw [List.getElem?_eq_none (by omega)] at hx;cases hx⟩
 ·obtain ⟨r,h1,a,rfl,h2⟩:=key
  exact ⟨a,h1,h2⟩
 ·obtain ⟨a,rfl,ha,hall⟩:=hI
  by_cases h0:0 < a
  ·have hk1:wr ((a:Int) - 1)=((a - 1:Nat):Int):=by rw [gA (by omega) (by omega)];omega
   have hx:l[a - 1]?=some l[a - 1]:=List.getElem?_eq_getElem (by omega)
   simp only [aBg]
   rw [decide_eq_true (p:=(0:Int) < (a:Int)) (by omega),if_pos rfl,hk1,cG (xs:=l) (k:=a - 1) (by omega),aA,aQS,aA]
   unfold aCO
   cases he:bZ e l[a - 1] with
   |true=>
    left
    refine ⟨_,by rw [if_pos rfl,hk1],⟨a - 1,rfl,by omega,fun j x hj hx2=>?_⟩,by simp;omega⟩
    by_cases e1:j=a - 1
    ·subst e1;rw [hx] at hx2;cases hx2;exact he
    ·exact hall j x (by omega) hx2
   |false=>
    right
    refine ⟨_,by rw [if_neg (by simp)],a,rfl,ha,hall,fun x _ hx2=>?_⟩
    rw [hx] at hx2;cases hx2;exact he
  ·right
   refine ⟨_,by simp only [aBg];rw [decide_eq_false (p:=(0:Int) < (a:Int)) (by omega),if_neg (by simp)];unfold aCO;rw [if_neg (by simp)],a,rfl,ha,hall,fun x h=>absurd h h0⟩
theorem put_shift (l:List Edge) (a:Nat) (ha:a<=l.length) (h:l.length < 1000000000):∃ z:Edge,loop (fun s:List Edge × Int=>aCN (a:Int) s.1 s.2) (l++[⟨0,0,0⟩],(l.length:Int))=some (l.take a++z::l.drop a):=by
 have key:=pG (step:=fun s:List Edge × Int=>aCN (a:Int) s.1 s.2) (fun s=>∃ (k:Nat) (z:Edge),s=(l.take k++z::l.drop k,(k:Int))/\a<=k/\k<=l.length) (fun s=>s.2.toNat)
  (fun x=>∃ z:Edge,x=l.take a++z::l.drop a) (fun s hI=>?_) (s:=(l++[⟨0,0,0⟩],(l.length:Int))) ⟨l.length,⟨0,0,0⟩,by simp,ha,Nat.le_refl _⟩
 ·obtain ⟨r,h1,z,rfl⟩:=key
  exact ⟨z,h1⟩
 ·obtain ⟨k,z,rfl,hak,hk⟩:=hI
  simp only [aCN]
  have hlen:(l.take k++z::l.drop k).length=l.length+1:=by simp;omega
  by_cases h0:a < k
  ·have hk1:wr ((k:Int) - 1)=((k - 1:Nat):Int):=by rw [gA (by omega) (by omega)];omega
   rw [decide_eq_true (p:=(a:Int) < (k:Int)) (by omega),if_pos rfl,hk1,cG (xs:=l.take k++z::l.drop k) (k:=k - 1) (by omega),aA,cG (by omega),aA,aBu _ (by omega),aA]
   left
   refine ⟨_,rfl,⟨k - 1,l[k - 1],?_,by omega,by omega⟩,by simp;omega⟩
   have e1:(l.take k++z::l.drop k)[k - 1]'(by omega)=l[k - 1]:=by
    rw [List.getElem_append_left (by simp;omega),List.getElem_take]
   rw [e1]
   have e2:(l.take k++z::l.drop k).set k l[k - 1]=l.take k++l[k - 1]::l.drop k:=by
    rw [List.set_append_right _ _ (by rw [List.length_take];omega)]
    simp [Nat.min_eq_left hk]
   have e3:l.take k=l.take (k - 1)++[l[k - 1]]:=by
    have:=List.take_add_one (l:=l) (i:=k - 1)
    rw [show k - 1+1=k by omega,List.getElem?_eq_getElem (by omega)] at this
    exact this
   have e4:l.drop (k - 1)=l[k - 1]::l.drop k:=by
    have:=List.drop_eq_getElem_cons (l:=l) (i:=k - 1) (by omega)
    rw [show k - 1+1=k by omega] at this
    exact this
   simp only [Prod.mk.injEq,and_true]
   show (l.take k++z::l.drop k).set k ⟨l[k - 1].F,l[k - 1].B,l[k - 1].To⟩=_
   rw [show (⟨l[k - 1].F,l[k - 1].B,l[k - 1].To⟩:Edge)=l[k - 1] from rfl,e2,e3,e4,List.append_assoc];rfl
  ·obtain rfl:k=a:=by omega
   right
   rw [decide_eq_false (p:=(k:Int) < (k:Int)) (by omega),if_neg (by simp)]
   exact ⟨_,rfl,z,rfl⟩
theorem l11Put_eq (l:List Edge) (e:Edge) (h:l.length < 1000000000) (hs:SE l):∃ l',aGX l e=some l'/\SE l'/\(∀ x,x∈l'<->x=e\/x∈l)/\l'.length<=l.length+1:=by
 unfold aGX
 obtain ⟨a,h1,ha,hge,hlt⟩:=put_find l e h
 rw [h1,aA]
 have hbefore:∀ x∈l.take a,bZ x e=true\/x=e:=fun x hx=>by
  obtain ⟨j,hj,rfl⟩:=List.getElem_of_mem hx
  rw [List.length_take] at hj
  rw [List.getElem_take]
  have hla:l[a - 1]?=some (l[a - 1]'(by omega)):=List.getElem?_eq_getElem (by omega)
  have hf:=hlt _ (by omega) hla
  have hle:bZ l[a - 1] e=true\/l[a - 1]=e:=by
   rcases aDd l[a - 1] e with g|g|g
   ·exact .inl g
   ·exact .inr g
   ·rw [g] at hf;cases hf
  by_cases e1:j=a - 1
  ·subst e1;exact hle
  ·have hp:=List.pairwise_iff_getElem.1 hs j (a - 1) (by omega) (by omega) (by omega)
   rcases hle with g|g
   ·exact .inl (yT hp g)
   ·rw [g] at hp;exact .inl hp
 have hafter:∀ x∈l.drop a,bZ e x=true:=fun x hx=>by
  obtain ⟨j,hj,rfl⟩:=List.getElem_of_mem hx
  rw [List.length_drop] at hj
  exact hge (a+j) _ (by omega) (by rw [List.getElem_drop];exact List.getElem?_eq_getElem (by omega))
 have hput:e∉l->∃ l',aBf l e (a:Int) false=some l'/\SE l'/\(∀ x,x∈l'<->x=e\/x∈l)/\l'.length<=l.length+1:=fun hne=>by
  unfold aBf
  rw [if_neg (by simp),dC (by simp [jT];omega),aA]
  have hk1:wr (((l++([⟨0,0,0⟩]:List Edge)).length:Int) - 1)=(l.length:Int):=by
   simp only [List.length_append,List.length_cons,List.length_nil]
   rw [gA (by omega) (by omega)];omega
  rw [hk1]
  obtain ⟨z,hz⟩:=put_shift l a ha h
  rw [hz,aA]
  unfold aEP
  have hl:(l.take a++z::l.drop a).length=l.length+1:=by simp;omega
  rw [cG (by omega),aA,aBu _ (by omega),aA]
  have e2:(l.take a++z::l.drop a).set a (⟨e.F,e.B,e.To⟩:Edge)=l.take a++e::l.drop a:=by
   rw [List.set_append_right _ _ (by rw [List.length_take];omega)]
   simp [Nat.min_eq_left ha]
  rw [e2]
  refine ⟨_,rfl,?_,fun x=>?_,by simp;omega⟩
  ·have hs':(l.take a++l.drop a).Pairwise fun a b=>bZ a b=true:=by rw [List.take_append_drop];exact hs
   rw [List.pairwise_append] at hs'
   unfold SE
   rw [List.pairwise_append,List.pairwise_cons]
   refine ⟨hs'.1,⟨hafter,hs'.2.1⟩,fun x hx y hy=>?_⟩
   have hxe:bZ x e=true:=by
    rcases hbefore x hx with g|g
    ·exact g
    ·subst g;exact absurd (List.mem_of_mem_take hx) hne
   rcases List.mem_cons.1 hy with rfl|hy
   ·exact hxe
   ·exact yT hxe (hafter y hy)
  ·rw [List.mem_append,List.mem_cons]
   conv=>rhs;rw [←List.take_append_drop a l,List.mem_append]
   constructor
   ·rintro (g|g|g)<;>simp [g]
   ·rintro (g|g|g)<;>simp [g]
 unfold aEQ
 by_cases h0:0 < a
 ·have hk1:wr ((a:Int) - 1)=((a - 1:Nat):Int):=by rw [gA (by omega) (by omega)];omega
  rw [decide_eq_true (p:=(0:Int) < (a:Int)) (by omega),if_pos rfl,hk1,cG (xs:=l) (k:=a - 1) (by omega),aA]
  by_cases he:l[a - 1]=e
  ·rw [decide_eq_true he]
   refine ⟨l,rfl,hs,fun x=>⟨.inr,?_⟩,by omega⟩
   rintro (rfl|hx)
   ·rw [←he];exact List.getElem_mem _
   ·exact hx
  ·rw [decide_eq_false he]
   refine hput fun hm=>?_
   rw [←List.take_append_drop a l,List.mem_append] at hm
   rcases hm with hm|hm
   ·obtain ⟨j,hj,hje⟩:=List.getElem_of_mem hm
    rw [List.length_take] at hj
    rw [List.getElem_take] at hje
    by_cases e1:j=a - 1
    ·subst e1;exact he hje
    ·have hp:=List.pairwise_iff_getElem.1 hs j (a - 1) (by omega) (by omega) (by omega)
     rw [hje] at hp
     have:=hlt _ h0 (List.getElem?_eq_getElem (by omega))
     rw [hp] at this;cases this
   ·have:=hafter e hm
    rw [vT] at this;cases this
 ·rw [decide_eq_false (p:=(0:Int) < (a:Int)) (by omega),if_neg (by simp)]
  refine hput fun hm=>?_
  obtain rfl:a=0:=by omega
  have:=hafter e (by simpa using hm)
  rw [vT] at this;cases this
end Gv
namespace Gv
open Go
variable  {r:bA}
theorem aCa {α:Type} [BEq α] [LawfulBEq α] {xs:List α} {q:α} (h:q∈xs):∃ j:Nat,pos xs q=(j:Int)/\xs[j]?=some q:=by
 obtain ⟨i,hi,e1,e2⟩:=aAa h
 exact ⟨i,e1,by rw [List.getElem?_eq_getElem hi,e2]⟩
end Gv
namespace Gv
open Go
variable  {r:bA}
theorem aIF.cons {xs:List aH} (h:aIF xs):∃ L,xs=bC::L/\pV L:=by
 obtain ⟨h1,h12,h0,hk⟩:=h
 cases xs with
 |nil=>simp at h1
 |cons a L=>
  have e:=h0 (by simp)
  simp only [List.getElem_cons_zero] at e
  subst e
  refine ⟨L,rfl,List.pairwise_iff_getElem.2 fun i j hi hj hij=>?_,fun hm=>?_⟩
  ·have:=labs_lt (xs:=bC::L) ⟨h1,h12,h0,hk⟩ (i:=i+1) (j:=j+1) (by omega) (by omega) (by simp;omega)
   simpa using this
  ·obtain ⟨j,hj,e⟩:=List.getElem_of_mem hm
   have:=(hk (j+1) (by omega) (by simp;omega)).2.1
   simp only [List.getElem_cons_succ] at this
   exact this e
end Gv
namespace Gv
open Go
variable  {r:bA}
end Gv
namespace Gv
open Go
inductive Co (E:Nat->Nat->Prop) (m A:Nat->Prop):Nat->Prop
 |base {i:Nat}:A i->m i->Co E m A i
 |step {i j:Nat}:A i->E i j->Co E m A j->Co E m A i
section
variable {E U:Nat->Nat->Prop} {m flt A B:Nat->Prop}
theorem Co.mem {i:Nat} (h:Co E m A i):A i:=by cases h<;>assumption
theorem Co.mono (hAB:∀ i,A i->B i) {i:Nat} (h:Co E m A i):Co E m B i:=by
 induction h with
 |base h1 h2=>exact .base (hAB _ h1) h2
 |step h1 h2 _ ih=>exact .step (hAB _ h1) h2 ih
structure Stb (E U:Nat->Nat->Prop) (m flt S:Nat->Prop):Prop where
 co:∀ i,S i->Co E m S i
 ok:∀ i,S i->¬ flt i
 un:∀ i j,S i->U i j->S j
end
def on (a:List Bool) (i:Nat):Prop:=a[i]?=some true
theorem on_set {a:List Bool} {i j:Nat} {b:Bool} (hi:i < a.length):on (a.set i b) j<->if j=i then b=true else on a j:=by
 unfold on
 split
 ·rename_i h;subst h
  rw [List.getElem?_set_self hi];simp
 ·rename_i h
  rw [List.getElem?_set_ne (Ne.symm h)]
end Gv
namespace Gv
open Go
structure Sat1 (n:Nat) (P:Nat->Prop) (m0 m:List Bool):Prop where
 len:m.length=n
 has:∀ i,on m0 i->on m i
 ok:∀ i,on m i->P i
theorem Sat1.flip {n:Nat} {P:Nat->Prop} {m0 m:List Bool} (h:Sat1 n P m0 m) {q:Nat} (hq:q < n) (hp:P q):Sat1 n P m0 (m.set q true):=by
 have hq':q < m.length:=by rw [h.len];exact hq
 refine ⟨by rw [List.length_set];exact h.len,fun i hi=>?_,fun i hi=>?_⟩
 ·rw [on_set hq'];split
  ·rfl
  ·exact h.has i hi
 ·rw [on_set hq'] at hi;split at hi
  ·rename_i e;subst e;exact hp
  ·exact h.ok i hi
theorem Co.sat {E:Nat->Nat->Prop} {m A:Nat->Prop} {g:List Bool} (h0:∀ i,A i->m i->on g i) (h1:∀ i j,A i->E i j->A j->on g j->on g i) {i:Nat} (h:Co E m A i):on g i:=by
 induction h with
 |base a b=>exact h0 _ a b
 |step a b c ih=>exact h1 _ _ a b c.mem ih
end Gv
namespace Gv
open Go
def vis (out:List Int) (i:Nat):Prop:=0<=out.getD i (-1)
theorem vis_lt {out:List Int} {i:Nat} (h:vis out i):i < out.length:=by
 apply Classical.byContradiction
 intro hc
 unfold vis at h
 rw [List.getD_eq_getElem?_getD,List.getElem?_eq_none (by omega)] at h
 simp at h
theorem aDQ {out:List Int} {j i:Nat} {v:Int} (hj:j < out.length) (hv:0<=v):vis (out.set j v) i<->i=j\/vis out i:=by
 unfold vis
 rw [List.getD_eq_getElem?_getD,List.getD_eq_getElem?_getD]
 by_cases e:i=j
 ·subst e
  rw [List.getElem?_set_self hj];simp [hv]
 ·rw [List.getElem?_set_ne (Ne.symm e)];simp [e]
def neg (out:List Int):Nat:=out.countP fun x=>decide (x < 0)
theorem aOx {v:Int} (hv:0<=v):∀ {out:List Int} {j:Nat} (_:j < out.length),¬ vis out j->neg (out.set j v)+1=neg out
 |[],j,h,_=>by simp at h
 |x::l,0,_,hn=>by
  unfold vis at hn
  simp at hn
  simp only [neg,List.set_cons_zero,List.countP_cons]
  rw [if_neg (by simp only [decide_eq_true_eq];omega),if_pos (by simpa using hn)]
 |x::l,j+1,h,hn=>by
  have ih:=aOx hv (out:=l) (j:=j) (by simpa using h) (by unfold vis at hn ⊢;simpa using hn)
  simp only [neg,List.set_cons_succ,List.countP_cons] at ih ⊢
  omega
structure Bfs (ed:List Edge) (src dst:Edge->Nat) (n:Nat) (P:Nat->Prop) (q:Option Nat) (s:List Int × List Int):Prop where
 len:s.1.length=n
 ok:∀ i,vis s.1 i->P i
 todo:∀ x∈s.2,∃ i:Nat,x=(i:Int)/\vis s.1 i
 done:∀ i,vis s.1 i->(i:Int)∉s.2->some i≠q->∀ e∈ed,src e=i->vis s.1 (dst e)
 top:∀ i,s.1.getD i (-1)<=(n:Int) - neg s.1
theorem Bfs.put {ed:List Edge} {src dst:Edge->Nat} {n:Nat} {P:Nat->Prop} {q:Nat} {s:List Int × List Int} (h:Bfs ed src dst n P (some q) s) (hq:vis s.1 q) {j:Nat} (hj:j < n) (hn:¬ vis s.1 j) (hp:P j):
  Bfs ed src dst n P (some q) (s.1.set j (s.1.getD q (-1)+1),s.2++[(j:Int)])/\neg (s.1.set j (s.1.getD q (-1)+1))+(s.2++[(j:Int)]).length=neg s.1+s.2.length:=by
 have hj':j < s.1.length:=by rw [h.len];exact hj
 have hv:0<=s.1.getD q (-1)+1:=by unfold vis at hq;omega
 have hng:=aOx hv hj' hn
 refine ⟨⟨by rw [List.length_set];exact h.len,fun i hi=>?_,fun x hx=>?_,fun i hi hm hne e he hs=>?_,fun i=>?_⟩,by simp only [List.length_append,List.length_singleton];omega⟩
 ·rcases (aDQ hj' hv).1 hi with rfl|hi
  ·exact hp
  ·exact h.ok i hi
 ·rcases List.mem_append.1 hx with hx|hx
  ·obtain ⟨i,rfl,hi⟩:=h.todo x hx
   exact ⟨i,rfl,(aDQ hj' hv).2 (.inr hi)⟩
  ·simp at hx;subst hx
   exact ⟨j,rfl,(aDQ hj' hv).2 (.inl rfl)⟩
 ·rw [List.mem_append] at hm
  rcases (aDQ hj' hv).1 hi with rfl|hi
  ·exact absurd (.inr (by simp)) hm
  ·exact (aDQ hj' hv).2 (.inr (h.done i hi (fun x=>hm (.inl x)) hne e he hs))
 ·have ht:=h.top i
  have hq':=h.top q
  simp only
  by_cases e:i=j
  ·subst e
   rw [List.getD_eq_getElem?_getD,List.getElem?_set_self hj']
   simp only [Option.getD_some];omega
  ·rw [List.getD_eq_getElem?_getD,List.getElem?_set_ne (Ne.symm e),←List.getD_eq_getElem?_getD];omega
open Classical in
theorem bfs_loop {ed:List Edge} {n:Nat} (hn:n < 1000000) (src dst:Edge->Nat) {inner:Int->List Int × List Int × Int->Option ((List Int × List Int × Int) ⊕ (List Int × List Int))} {outer:List Int × List Int->Option ((List Int × List Int) ⊕ List Int)}
  (hi:∀ (q:Nat) (k:Nat) (hk:k < ed.length) out todo,out.length=n->q < n->todo.length<=n->(∀ i,out.getD i (-1)<=(n:Int))->inner (q:Int) (out,todo,(k:Int))=some (.inl (if src ed[k]=q/\¬ vis out (dst ed[k]) then (out.set (dst ed[k]) (wr (out.getD q (-1)+1)),todo++[(dst ed[k]:Int)],((k+1:Nat):Int)) else (out,todo,((k+1:Nat):Int)))))
  (he:∀ (q:Nat) out todo,inner (q:Int) (out,todo,(ed.length:Int))=some (.inr (out,todo)))
  (ho:∀ out (q:Nat) todo,out.length=n->q < n->todo.length<=n->outer (out,(q:Int)::todo)=ob (loop (inner (q:Int)) (out,todo,0)) fun r=>some (.inl r))
  (ho2:∀ out,outer (out,[])=some (.inr out)) (hb:∀ e∈ed,dst e < n) (P:Nat->Prop) (hP:∀ e∈ed,P (src e)->P (dst e)) {s0:List Int × List Int} (h0:Bfs ed src dst n P none s0) (hm:neg s0.1+s0.2.length<=n):
  ∃ out,loop outer s0=some out/\out.length=n/\(∀ i,vis out i->P i)/\(∀ i,vis out i->∀ e∈ed,src e=i->vis out (dst e))/\∀ i,vis s0.1 i->vis out i:=by
 refine pG (step:=outer) (fun s=>Bfs ed src dst n P none s/\neg s.1+s.2.length<=n/\∀ i,vis s0.1 i->vis s.1 i) (fun s=>neg s.1+s.2.length) (fun out=>out.length=n/\(∀ i,vis out i->P i)/\(∀ i,vis out i->∀ e∈ed,src e=i->vis out (dst e))/\∀ i,vis s0.1 i->vis out i) (fun s hI=>?_) ⟨h0,hm,fun _ h=>h⟩
 obtain ⟨out,todo⟩:=s
 obtain ⟨hB,hle,hmo⟩:=hI
 cases todo with
 |nil=>
  right
  exact ⟨out,ho2 out,hB.len,hB.ok,fun i hi e he hs=>hB.done i hi (by simp) (by simp) e he hs,hmo⟩
 |cons x todo=>
  left
  obtain ⟨q,rfl,hq⟩:=hB.todo x (by simp)
  have hqn:q < n:=by have h1:=vis_lt hq;have h2:=hB.len;simp only at h1 h2;omega
  have hle':neg out+(todo.length+1)<=n:=hle
  rw [ho out q todo hB.len hqn (by omega)]
  have hB1:Bfs ed src dst n P (some q) (out,todo):=⟨hB.len,hB.ok,fun x hx=>hB.todo x (by simp [hx]),fun i hi hm hne e he hs=>hB.done i hi (by simp only [List.mem_cons,not_or];exact ⟨fun h=>hne (by rw [show i=q by omega]),hm⟩) (by simp) e he hs,hB.top⟩
  have:=lO (step:=inner (q:Int)) ed.length (fun i (s:List Int × List Int)=>(s.1,s.2,(i:Int)))
   (fun k s=>Bfs ed src dst n P (some q) s/\neg s.1+s.2.length=neg out+todo.length/\(∀ i,vis out i->vis s.1 i)/\∀ k',k' < k->∀ h:k' < ed.length,src ed[k']=q->vis s.1 (dst ed[k'])) (fun r=>Bfs ed src dst n P (some q) r/\neg r.1+r.2.length=neg out+todo.length/\(∀ i,vis out i->vis r.1 i)/\∀ e∈ed,src e=q->vis r.1 (dst e)) (fun k s hk hI=>?_) (fun s hI=>?_) ed.length 0 (out,todo) (by omega) ⟨hB1,rfl,fun _ h=>h,fun k' h=>by omega⟩
  ·obtain ⟨r,hr,hR,hc,hv,hall⟩:=this
   have hr':loop (inner (q:Int)) (out,todo,0)=some r:=hr
   rw [hr',aA]
   refine ⟨r,rfl,⟨⟨hR.len,hR.ok,hR.todo,fun i hi hm _ e he hs=>?_,hR.top⟩,by omega,fun i hi=>hv i (hmo i hi)⟩,?_⟩
   ·by_cases hiq:i=q
    ·subst hiq;exact hall e he hs
    ·exact hR.done i hi hm (by simpa using hiq) e he hs
   ·simp only [List.length_cons];omega
  ·obtain ⟨o,td⟩:=s
   obtain ⟨hS,hc,hv,hall⟩:=hI
   simp only at hc hv hall
   have hmem:ed[k]∈ed:=List.getElem_mem hk
   have hvq:=hv q hq
   have htop:∀ i,o.getD i (-1)<=(n:Int):=fun i=>by have:=hS.top i;simp only at this;omega
   rw [hi q k hk o td hS.len hqn (by omega) htop]
   by_cases ht:src ed[k]=q/\¬ vis o (dst ed[k])
   ·rw [if_pos ht]
    have hp:P (dst ed[k]):=hP _ hmem (by rw [ht.1];exact hS.ok q hvq)
    obtain ⟨g1,g2⟩:=hS.put hvq (hb _ hmem) ht.2 hp
    have hw:wr (o.getD q (-1)+1)=o.getD q (-1)+1:=by
     have h1:=htop q
     have h2:0<=o.getD q (-1):=hvq
     rw [gA (by omega) (by omega)]
    have hol:dst ed[k] < o.length:=by have:=hS.len;simp only at this;rw [this];exact hb _ hmem
    have h0:(0:Int)<=o.getD q (-1)+1:=by have h2:0<=o.getD q (-1):=hvq;omega
    rw [hw]
    refine ⟨(o.set (dst ed[k]) (o.getD q (-1)+1),td++[(dst ed[k]:Int)]),rfl,g1,by simp only at g2 ⊢;omega,fun i h=>(aDQ hol h0).2 (.inr (hv i h)),fun k' h1 h2 h3=>?_⟩
    by_cases hkk:k' < k
    ·exact (aDQ hol h0).2 (.inr (hall k' hkk h2 h3))
    ·obtain rfl:k'=k:=by omega
     exact (aDQ hol h0).2 (.inl rfl)
   ·rw [if_neg ht]
    refine ⟨(o,td),rfl,hS,hc,hv,fun k' h1 h2 h3=>?_⟩
    by_cases hkk:k' < k
    ·exact hall k' hkk h2 h3
    ·obtain rfl:k'=k:=by omega
     exact Classical.byContradiction fun hx=>ht ⟨h3,hx⟩
  ·obtain ⟨o,td⟩:=s
   obtain ⟨hS,hc,hv,hall⟩:=hI
   refine ⟨(o,td),he q o td,hS,hc,hv,fun e hem hs=>?_⟩
   obtain ⟨i',hi',rfl⟩:=List.mem_iff_getElem.1 hem
   exact hall i' hi' hi' hs
end Gv
namespace Gv
open Go
section
variable {E U:Nat->Nat->Prop} {m flt:Nat->Prop} {n:Nat}
end
variable  {r:bA}
end Gv
namespace Gv
open Go
inductive Rt (t:bA):Nat->Prop
 |init:Rt t t.I.toNat
 |step {e:Edge}:e∈t.E->Rt t e.F.toNat->Rt t e.To.toNat
noncomputable def RL (t:bA):List Int:=((List.range t.N.toNat).filter fun k=>cl (Rt t k)).map Int.ofNat
theorem RL_pair (t:bA):(RL t).Pairwise fun a b=>a < b:=by
 unfold RL
 rw [List.pairwise_map]
 refine (List.Pairwise.filter _ List.pairwise_lt_range).imp fun h=>?_
 simp only [Int.ofNat_eq_natCast];omega
theorem RL_len (t:bA):(RL t).length<=t.N.toNat:=by
 unfold RL
 rw [List.length_map]
 exact Nat.le_trans (List.length_filter_le _ _) (by simp)
theorem posI_lt {S:List Int} (hS:S.Pairwise fun a b=>a < b) {a b:Int} (ha:a∈S) (hb:b∈S) (h:a < b):pos S a < pos S b:=by
 obtain ⟨i,e1,h1⟩:=aCa ha
 obtain ⟨j,e2,h2⟩:=aCa hb
 obtain ⟨hi,f1⟩:=List.getElem?_eq_some_iff.1 h1
 obtain ⟨hj,f2⟩:=List.getElem?_eq_some_iff.1 h2
 rw [e1,e2]
 rcases Nat.lt_trichotomy i j with g|g|g
 ·omega
 ·subst g;omega
 ·have:=List.pairwise_iff_getElem.1 hS j i hj hi g
  omega
def aDe (t:bA) (S:List Int):List Edge:=t.E.filterMap fun e=>if 0<=pos S e.F/\0<=pos S e.To then some ⟨pos S e.F,e.B,pos S e.To⟩ else none
def aCb (t:bA) (S:List Int):bA:=⟨(S.length:Int),pos S t.I,t.L,aDe t S⟩
theorem aHK (t:bA) (S:List Int):(aDe t S).length<=t.E.length:=List.length_filterMap_le _ _
theorem aPU {t:bA} (hE:SE t.E) {S:List Int} (hS:S.Pairwise fun a b=>a < b):SE (aDe t S):=by
 unfold SE aDe
 rw [List.pairwise_filterMap]
 refine hE.imp fun {a b} h x hx y hy=>?_
 simp only [Option.ite_none_right_eq_some,Option.some.injEq] at hx hy
 obtain ⟨⟨a1,a2⟩,rfl⟩:=hx
 obtain ⟨⟨b1,b2⟩,rfl⟩:=hy
 rw [aBZ] at a1 a2 b1 b2
 rw [vS] at h ⊢
 simp only
 rcases h with h|⟨h1,h|⟨h2,h⟩⟩
 ·exact .inl (posI_lt hS a1 b1 h)
 ·exact .inr ⟨by rw [h1],.inl h⟩
 ·exact .inr ⟨by rw [h1],.inr ⟨h2,posI_lt hS a2 b2 h⟩⟩
theorem aFN {t:bA} (hv:cF t):SE t.E:=by
 refine List.pairwise_iff_getElem.2 fun i j hi hj hij=>?_
 exact aLP (R:=fun a b=>bZ a b=true) (fun h1 h2=>yT h1 h2) (fun k h1 hk=>(hv.2.2.2.2 k hk).2 h1) hij hj
end Gv
namespace Gv
open Go
theorem Rt_lt {t:bA} (hv:cF t) {i:Nat} (h:Rt t i):i < t.N.toNat:=by
 cases h with
 |init=>have:=hv.2.1;have:=hv.1;omega
 |step he _=>have:=(rN hv he).2.1;have:=hv.1;omega
theorem filt_list {n:Nat} (hn:n < 1000000) (f:Nat->Bool) {step:List Int × Int->Option ((List Int × Int) ⊕ List Int)}
  (h:∀ (k:Nat) out,k < n->out.length<=k->step (out,(k:Int))=some (.inl (if f k=true then out++[(k:Int)] else out,((k+1:Nat):Int)))) (h':∀ out,step (out,(n:Int))=some (.inr out)):
  loop step ([],0)=some (((List.range n).filter f).map Int.ofNat):=by
 have:=tR (step:=step) n (fun k (a:List Int)=>(a,(k:Int))) (fun k a=>a++(((List.range n).drop k).filter f).map Int.ofNat) (fun k a=>a.length<=k) (fun k a hk hI=>?_) (fun a _=>?_) n 0 [] (by omega) (by simp)
 ·have this':loop step ([],0)=_:=this
  rw [this'];simp
 ·left
  rw [h k a hk hI]
  have hd:(List.range n).drop k=k::(List.range n).drop (k+1):=by
   rw [List.drop_eq_getElem_cons (by simpa using hk)];simp
  rw [hd,List.filter_cons]
  by_cases hf:f k=true
  ·rw [if_pos hf,if_pos hf]
   exact ⟨_,rfl,by simp;omega,by simp⟩
  ·rw [if_neg hf,if_neg hf]
   exact ⟨a,rfl,by omega,rfl⟩
 ·rw [h',List.drop_of_length_le (by simp)];simp
theorem aGq (k:Int) (S:List Int) (h:S.length < 4611686018427387904):wQ k S=some (pos S k):=by
 unfold wQ
 rw [aHH _ _ h,aA]
theorem aHL (xs:List aH) (h:xs.length<=jT):bO xs=some xs:=by
 unfold bO
 rw [dC (by simpa using h),aA,List.nil_append]
theorem part_eq {t:bA} (hv:cF t) {S:List Int} (hS:S.length < 1000000000) (hp:S.Pairwise fun a b=>a < b):vF t S=some (aCb t S):=by
 have h300:=hv.2.2.2.1
 have h12:=hv.2.2.1.2.1
 unfold vF
 rw [aGq _ _ (by omega),aA,aHL _ (by unfold jT;omega),aA]
 unfold aAw
 have:=lH (step:=fun s:List Edge × Int=>mJ t S s.1 s.2) t.E (fun k (a:List Edge)=>(a,(k:Int)))
  (fun l a=>a++l.filterMap fun e=>if 0<=pos S e.F/\0<=pos S e.To then some (⟨pos S e.F,e.B,pos S e.To⟩:Edge) else none) (fun k a=>a.length<=k) (fun k out x l hk' hx hI=>?_) (fun out hI=>by simp only [mJ,dB];simp) (a:=[]) (by simp)
 ·have this':loop (fun s:List Edge × Int=>mJ t S s.1 s.2) ([],0)=some (aDe t S):=this
  rw [this',aA]
  unfold aAv nP
  have hl:=aHK t S
  rw [if_pos (by unfold jT;omega),srt_self _ aLS (aPU (aFN hv) hp),aA];rfl
 ·left
  have hI':out.length<=k:=hI
  have hw:=bQ hk' (show t.E.length < 4611686018427387904 by omega)
  simp only [mJ,bU hk',if_pos,hx,aA,aGq _ S (show S.length < 4611686018427387904 by omega)]
  rw [List.filterMap_cons]
  by_cases h1:0<=pos S x.F
  ·rw [if_pos (decide_eq_true h1)]
   by_cases h2:0<=pos S x.To
   ·rw [if_pos ⟨h1,h2⟩]
    simp only [oB,mI,decide_eq_true h2,if_pos]
    rw [dC (show out.length+1<=jT by unfold jT;omega),aA,hw]
    exact ⟨_,rfl,by simp;omega,by simp⟩
   ·rw [if_neg (fun h=>h2 h.2)]
    simp only [oB,mI,decide_eq_false h2,hw]
    exact ⟨out,by simp,by omega,rfl⟩
  ·rw [if_neg (by simpa using h1),if_neg (fun h=>h1 h.1)]
   simp only [oB,mI,hw]
   exact ⟨out,by simp,by omega,rfl⟩
end Gv
namespace Gv
open Go
theorem aQV (b:Int) (n:Nat) (h1:1<=n) (h:n<=100000):iI [b] (n:Int)=some (List.replicate n b):=by
 unfold iI
 rw [if_neg (by simp)]
 unfold jJ
 have hm:aKj (mK (([b]:List Int).length:Int)) (mK (n:Int))=some (0,(n:Int)):=by
  have e1:mK (([b]:List Int).length:Int)=1:=by simp [mK]
  have e2:mK (n:Int)=(n:Int):=by unfold mK;omega
  rw [e1,e2];unfold aKj
  rw [if_pos ⟨by omega,by omega,by omega,by omega⟩]
  simp only [Int.one_mul,Option.some.injEq,Prod.mk.injEq]
  omega
 rw [hm,aA]
 simp only
 rw [if_neg (by simp),decide_eq_false (p:=(9223372036854775807:Int) < (n:Int)) (by omega)]
 unfold gC
 rw [if_neg (by simp)]
 unfold jI
 simp only
 rw [gA (by omega) (by omega),aOj _ (by simp [jT];omega),aA]
 have hmin:Nat.min ([b]:List Int).length (List.replicate n (0:Int)).length=1:=by
  show min _ _=1
  simp;omega
 rw [hmin]
 have ho:ovw (List.replicate n (0:Int)) 0 (([b]:List Int).take 1)=some (b::List.replicate (n - 1) (0:Int)):=by
  unfold ovw
  rw [if_pos ⟨by omega,by simp;omega⟩]
  simp
 rw [ho,aA]
 have hL:=pG (step:=fun s:List Int × Int=>jH s.1 s.2) (fun s=>1<=s.2/\s.2<=n/\s.1.length=n/\s.1.take s.2.toNat=List.replicate s.2.toNat b) (fun s=>(n - s.2).toNat) (fun r=>r=List.replicate n b) (fun s hI=>?_) (s:=(b::List.replicate (n - 1) (0:Int),1)) ⟨by simp,by simp only;omega,by simp;omega,by simp⟩
 ·obtain ⟨r,hr,hR⟩:=hL
  rw [show (((1:Nat):Int))=1 from rfl,hr,aA,hR];rfl
 ·obtain ⟨m,i⟩:=s
  obtain ⟨h1,h2,h3,h4⟩:=hI
  simp only at h1 h2 h3 h4 ⊢
  obtain ⟨k,rfl⟩:∃ k:Nat,i=(k:Int):=⟨i.toNat,by omega⟩
  rw [Int.toNat_natCast] at h4
  unfold jH
  by_cases hk:k < n
  ·left
   have s1:xT m (k:Int) (m.length:Int)=some (m.drop k):=by
    unfold xT;rw [if_pos ⟨by omega,by omega,by omega⟩]
    rw [Int.toNat_natCast,Int.toNat_natCast,List.take_of_length_le (by simp)]
   have s2:xT m 0 (k:Int)=some (m.take k):=by
    unfold xT;rw [if_pos ⟨by omega,by omega,by omega⟩];simp
   rw [h3] at s1 ⊢
   rw [if_pos (bU hk),s1,aA,s2,aA,h4]
   have hl:(m.drop k).length=n - k:=by simp [h3]
   rw [hl,List.length_replicate]
   generalize hd:Nat.min k (n - k)=d
   have hd1:d<=k/\d<=n - k/\1<=d:=by
    have:Nat.min k (n - k)=min k (n - k):=rfl
    omega
   have hov:ovw m (k:Int) ((List.replicate k b).take d)=some (List.replicate (k+d) b++m.drop (k+d)):=by
    unfold ovw
    have hl2:((List.replicate k b).take d).length=d:=by simp;omega
    rw [if_pos ⟨by omega,by rw [hl2,Int.toNat_natCast];omega⟩,hl2,Int.toNat_natCast,h4,List.take_replicate]
    rw [show min d k=d by omega,List.replicate_append_replicate]
   rw [hov,aA]
   have hw:wr ((k:Int)+((d:Nat):Int))=((k+d:Nat):Int):=by rw [gA (by omega) (by omega)];omega
   rw [hw]
   refine ⟨_,rfl,⟨by simp only;omega,by simp only;omega,by simp [h3];omega,?_⟩,by simp only;omega⟩
   simp only [Int.toNat_natCast]
   rw [List.take_append_of_le_length (by simp),List.take_of_length_le (by simp)]
  ·right
   obtain rfl:k=n:=by omega
   rw [h3,if_neg (by simp)]
   rw [List.take_of_length_le (by omega)] at h4
   exact ⟨_,rfl,h4⟩
theorem ix_gd {xs:List Int} {k:Nat} (h:k < xs.length):ix xs (k:Int)=some (xs.getD k (-1)):=by
 rw [cG h];simp [List.getD_eq_getElem?_getD,h]
theorem aOy {t:bA} (hv:cF t):∃ out,wE t [t.I] true=some out/\out.length=t.N.toNat/\∀ i,vis out i<->Rt t i:=by
 obtain ⟨n,hn⟩:∃ n:Nat,t.N=(n:Int):=⟨t.N.toNat,by have:=hv.1;omega⟩
 obtain ⟨i,hi⟩:∃ i:Nat,t.I=(i:Int):=⟨t.I.toNat,by have:=hv.2.1;omega⟩
 have hn40:1<=n/\n<=40:=by have:=hv.1;omega
 have hin:i < n:=by have:=hv.2.1;omega
 have h300:=hv.2.2.2.1
 have hed:∀ e∈t.E,∃ a b:Nat,e.F=(a:Int)/\e.To=(b:Int)/\a < n/\b < n:=fun e he=>by
  obtain ⟨h1,h2,_⟩:=rN hv he
  exact ⟨e.F.toNat,e.To.toNat,by omega,by omega,by omega,by omega⟩
 have rl:(List.replicate n (-1:Int)).length=n:=List.length_replicate
 have nv:∀ j,¬ vis (List.replicate n (-1:Int)) j:=fun j h=>by
  unfold vis at h
  rw [List.getD_eq_getElem?_getD,List.getElem?_replicate] at h
  split at h<;>simp at h
 have hn0:neg (List.replicate n (-1:Int))=n:=by unfold neg;rw [List.countP_replicate];simp
 have hns:=aOx (v:=0) (Int.le_refl 0) (out:=List.replicate n (-1:Int)) (j:=i) (by rw [rl];exact hin) (nv i)
 have hv0:∀ j,vis ((List.replicate n (-1:Int)).set i 0) j<->j=i:=fun j=>by
  rw [aDQ (by rw [rl];exact hin) (Int.le_refl 0)]
  exact ⟨fun h=>h.resolve_right (nv j),.inl⟩
 unfold wE
 rw [hn,aQV _ n hn40.1 (by omega),aA]
 unfold bY
 rw [dC (by simp [jT]),aA,aA,List.nil_append,hi]
 rw [dN]
 simp only [tO]
 rw [if_pos (by simp),show ix [(i:Int)] 0=some (i:Int) from rfl,aA,cG (by rw [rl];exact hin),aA,aBu _ (by rw [rl];exact hin),aA]
 simp only
 rw [dN]
 simp only [tO]
 rw [if_neg (by simp [wr]),aA]
 unfold vP
 obtain ⟨out,h1,h2,h3,h4,h5⟩:=bfs_loop (ed:=t.E) (n:=n) (by omega) (fun e=>e.F.toNat) (fun e=>e.To.toNat) (inner:=fun q (s:List Int × List Int × Int)=>qR t true q s.1 s.2.1 s.2.2) (outer:=fun s:List Int × List Int=>vO t true s.1 s.2)
  (fun q k hk out todo hl hq htd htop=>by
   obtain ⟨a,b,ea,eb,ha,hb⟩:=hed _ (List.getElem_mem hk)
   have hw:=bQ hk (show t.E.length < 4611686018427387904 by omega)
   have hx:=cG hk
   generalize t.E[k]=e at hx ea eb ⊢
   obtain ⟨eF,eL,eT⟩:=e
   simp only at ea eb
   subst ea eb
   simp only [qR,bU hk,if_pos,hx,aA,Bool.not_true,Bool.false_eq_true,if_false,qQ,Int.toNat_natCast]
   by_cases hqa:a=q
   ·subst hqa
    rw [if_pos (by simp),ix_gd (by omega),aA]
    unfold nV
    by_cases hvb:vis out b
    ·rw [if_neg (by unfold vis at hvb;simp only [decide_eq_true_eq];omega),if_neg (fun h=>h.2 hvb)]
     simp only [lQ,hw]
    ·rw [if_pos (by unfold vis at hvb;simp only [decide_eq_true_eq];omega),if_pos ⟨rfl,hvb⟩,ix_gd (by omega),aA,ix_gd (by omega),aA,aBu _ (by omega),aA,dC (by simp [jT];omega),aA]
     simp only [lQ,hw]
   ·rw [if_neg (by simp;omega),if_neg (fun h=>hqa h.1)]
    unfold nV
    rw [if_neg (by simp)]
    simp only [lQ,hw])
  (fun q out todo=>by simp only [qR,dB];rfl)
  (fun out q todo hl hq htd=>by
   have hs:xT ((q:Int)::todo) 1 (((q:Int)::todo).length:Int)=some todo:=by
    unfold xT
    rw [if_pos ⟨by omega,by simp;omega,by simp⟩]
    simp
   simp only [vO]
   rw [if_pos (by simp),show ix ((q:Int)::todo) 0=some (q:Int) from rfl,aA,hs,aA]
   rfl)
  (fun out=>rfl) (fun e he=>by obtain ⟨a,b,ea,eb,ha,hb⟩:=hed e he;simp only [eb,Int.toNat_natCast];exact hb) (Rt t) (fun e he h=>Rt.step he h) (s0:=((List.replicate n (-1:Int)).set i 0,[(i:Int)]))
  ⟨by
    simp,fun j hj=>by
    rw [(hv0 j).1 hj]
    have:=Rt.init (t:=t)
    rwa [hi,Int.toNat_natCast] at this,fun x hx=>by simp at hx;exact ⟨i,hx,(hv0 i).2 rfl⟩,fun j hj hm=>by rw [(hv0 j).1 hj] at hm;simp at hm,fun j=>by
    simp only
    by_cases e:j=i
    ·subst e
     rw [List.getD_eq_getElem?_getD,List.getElem?_set_self (by rw [rl];exact hin)]
     simp only [Option.getD_some];omega
    ·have:¬ vis ((List.replicate n (-1:Int)).set i 0) j:=fun h=>e ((hv0 j).1 h)
     unfold vis at this;omega⟩ (by simp only [List.length_singleton];omega)
 rw [h1,aA]
 refine ⟨out,rfl,by rw [h2];rfl,fun j=>⟨h3 j,fun h=>?_⟩⟩
 induction h with
 |init=>rw [hi,Int.toNat_natCast];exact h5 i ((hv0 i).2 rfl)
 |step he _ ih=>exact h4 _ ih _ he rfl
theorem aMS {xs far:List Int} {p:Int->Bool} (hl:xs.length < 1000000) (hp:∀ x∈xs,qS x far=some (p x)):fX xs far=some (xs.filter fun x=>!p x):=by
 unfold fX
 have e:fE xs far=some (match xs.findIdx? p with|none=>-1|some i=>(i:Int)):=by
  unfold fE
  rw [wT (step:=fun s=>eN xs far s) xs p (fun k x hk hx=>by
   obtain ⟨hk',rfl⟩:=aDo hx
   simp only [eN,bU hk,if_pos,hx,aA,hp _ (List.getElem_mem hk'),bQ hk (show xs.length < 4611686018427387904 by omega)]) (by simp only [eN,dB];rfl),aA]
  cases xs.findIdx? p<;>rfl
 rw [e,aA]
 cases hf:xs.findIdx? p with
 |none=>
  have:xs.filter (fun x=>!p x)=xs:=List.filter_eq_self.2 fun x hx=>by have:=List.findIdx?_eq_none_iff.1 hf x hx;simp [this]
  rw [if_pos (by rfl),this]
 |some i0=>
  obtain ⟨hi0,hpi,hlt⟩:=List.findIdx?_eq_some_iff_getElem.1 hf
  rw [if_neg (by simp)]
  have:=lO (step:=fun s:List Int × Int × Int=>dR far s.1 s.2.1 s.2.2) xs.length (fun j (a:List Int × Nat)=>(a.1,(a.2:Int),(j:Int)))
   (fun j a=>a.1.length=xs.length/\a.2 < j/\a.1.take a.2=(xs.take j).filter (fun x=>!p x)/\a.1.drop j=xs.drop j) (fun r=>∃ i:Nat,r.2=(i:Int)/\r.1.length=xs.length/\i<=xs.length/\r.1.take i=xs.filter fun x=>!p x) (fun j a hj hI=>?_) (fun a hI=>?_) (xs.length - (i0+1)) (i0+1) (xs,i0) (by omega) ⟨rfl,by simp,?_,rfl⟩
  ·obtain ⟨r,hr,i,h1,h2,h3,h4⟩:=this
   have hr':loop (fun s:List Int × Int × Int=>dR far s.1 s.2.1 s.2.2) (xs,(i0:Int),((i0+1:Nat):Int))=some r:=hr
   simp only
   rw [bQ (n:=xs.length) hi0 (by omega),hr',aA]
   unfold gV
   have s1:xT r.1 (i:Int) (r.1.length:Int)=some (r.1.drop i):=by
    unfold xT;rw [if_pos ⟨by omega,by omega,by omega⟩]
    rw [Int.toNat_natCast,Int.toNat_natCast,List.take_of_length_le (by simp)]
   rw [h1,s1,aA]
   have o1:ovw r.1 (i:Int) (List.replicate (r.1.drop i).length (0:Int))=some (r.1.take i++List.replicate (r.1.drop i).length (0:Int)):=by
    unfold ovw
    rw [if_pos ⟨by omega,by simp only [Int.toNat_natCast,List.length_replicate,List.length_drop];omega⟩]
    simp only [Int.toNat_natCast,List.length_replicate,List.length_drop]
    rw [List.drop_of_length_le (by omega),List.append_nil]
   rw [o1,aA]
   have s2:xT (r.1.take i++List.replicate (r.1.drop i).length (0:Int)) 0 (i:Int)=some (r.1.take i):=by
    unfold xT;rw [if_pos ⟨by omega,by omega,by simp;omega⟩]
    simp only [Int.toNat_natCast,Int.toNat_zero,List.drop_zero,Nat.sub_zero]
    rw [List.take_append_of_le_length (by simp;omega),List.take_of_length_le (by simp;omega)]
   rw [s2,aA,h4]
  ·obtain ⟨s,i⟩:=a
   obtain ⟨h1,h2,h3,h4⟩:=hI
   simp only at h1 h2 h3 h4
   have hsj:s[j]'(by omega)=xs[j]:=by
    have a1:=List.drop_eq_getElem_cons (l:=s) (i:=j) (by omega)
    have a2:=List.drop_eq_getElem_cons (l:=xs) (i:=j) hj
    rw [a1,a2] at h4
    exact (List.cons.inj h4).1
   have hd:s.drop (j+1)=xs.drop (j+1):=by
    rw [←List.drop_drop (i:=1) (j:=j),←List.drop_drop (i:=1) (j:=j),h4]
   have ht:(xs.take (j+1)).filter (fun x=>!p x)=(xs.take j).filter (fun x=>!p x)++(if p xs[j]=true then [] else [xs[j]]):=by
    rw [List.take_add_one,List.getElem?_eq_getElem hj,List.filter_append]
    simp only [Option.toList_some]
    cases hq:p xs[j]<;>simp [hq]
   have hw:=bQ hj (show xs.length < 4611686018427387904 by omega)
   simp only [dR,h1,bU hj,if_pos,cG (xs:=s) (k:=j) (by omega),aA,hsj,hp _ (List.getElem_mem hj),eU,hw]
   cases hpj:p xs[j] with
   |true=>
    refine ⟨(s,i),rfl,h1,by simp only;omega,?_,hd⟩
    rw [ht,hpj];simpa using h3
   |false=>
    simp only [Bool.not_false,if_pos]
    rw [cG (by omega),aA,aBu _ (by omega),aA,bQ (show i < xs.length by omega) (by omega)]
    refine ⟨(s.set i xs[j],i+1),rfl,by simpa using h1,by simp only;omega,?_,?_⟩
    ·rw [ht,hpj]
     simp only [Bool.false_eq_true,if_false]
     rw [List.take_add_one,List.getElem?_set_self (by omega),List.take_set_of_le (Nat.le_refl _),h3];rfl
    ·simp only
     rw [List.drop_set_of_lt (by omega)];exact hd
  ·obtain ⟨s,i⟩:=a
   obtain ⟨h1,h2,h3,h4⟩:=hI
   simp only at h1 h2 h3 h4
   refine ⟨(s,(i:Int)),by simp only [dR,h1,dB];rfl,i,rfl,h1,by omega,?_⟩
   rw [List.take_length] at h3;exact h3
  ·rw [List.take_add_one,List.getElem?_eq_getElem hi0,List.filter_append]
   simp only [Option.toList_some]
   rw [List.filter_eq_self.2 (fun x hx=>by
    obtain ⟨j,hj,rfl⟩:=List.getElem_of_mem hx
    rw [List.length_take] at hj
    rw [List.getElem_take]
    have:=hlt j (by omega)
    simpa using this)]
   simp [hpi]
theorem aOz {t:bA} (hv:cF t):wF t=some (RL t):=by
 obtain ⟨n,hn⟩:∃ n:Nat,t.N=(n:Int):=⟨t.N.toNat,by have:=hv.1;omega⟩
 have hn40:n<=40:=by have:=hv.1;omega
 obtain ⟨out,h1,h2,h3⟩:=aOy hv
 rw [hn,Int.toNat_natCast] at h2
 unfold wF
 rw [h1,aA]
 have hu:aDj t.N=some ((List.range n).map Int.ofNat):=by
  unfold aDj
  have:=filt_list (n:=n) (by omega) (fun _=>true) (step:=fun s:List Int × Int=>aCr t.N s.1 s.2) (fun k out hk ho=>by
   simp only [aCr,hn,bU hk,if_pos,bQ hk (show n < 4611686018427387904 by omega)]
   rw [dC (show out.length+([(k:Int)]:List Int).length<=jT by simp [jT];omega),aA]) (fun out=>by simp only [aCr,hn,dB];rfl)
  rw [this,aA,List.filter_eq_self.2 (fun _ _=>rfl)];rfl
 rw [hu,aA,aMS (p:=fun k=>decide (out.getD k.toNat (-1) < 0)) (by simp;omega) (fun x hx=>by
  obtain ⟨k,hk,rfl⟩:=List.mem_map.1 hx
  rw [List.mem_range] at hk
  simp only [qS,Int.ofNat_eq_natCast,ix_gd (show k < out.length by omega),aA,Int.toNat_natCast]),aA]
 unfold RL
 rw [hn,Int.toNat_natCast,List.filter_map]
 congr 2
 refine List.filter_congr fun k _=>?_
 rw [aKu (P:=Rt t k) (b:=!decide (out.getD k (-1) < 0)) (by rw [←h3 k];unfold vis;simp)]
 rfl
end Gv
