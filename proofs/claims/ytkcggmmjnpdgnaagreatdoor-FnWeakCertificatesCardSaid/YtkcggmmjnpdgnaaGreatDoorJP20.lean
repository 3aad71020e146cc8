/- Validity of plants, on both sides. -/
import Derived.Test.YtkcggmmjnpdgnaaGreatDoorJP12
set_option linter.all false
namespace Gv
open Go
def aNh (lo hi:Int) (xs:List Int):Prop:=∀ k,(hk:k < xs.length)->(lo<=xs[k]/\xs[k]<=hi)/\(1<=k->(xs[k - 1]'(by omega)) < xs[k])
theorem aNh.nat {lo hi:Int} {xs:List Int} (h:aNh lo hi xs) (hlo:0<=lo) (k:Nat) (hk:k < xs.length):lo+k<=xs[k]:=by
 induction k with
 |zero=>have:=(h 0 hk).1.1;omega
 |succ k ih=>
  have h1:=ih (by omega)
  have h2:=(h (k+1) hk).2 (by omega)
  simp only [Nat.add_sub_cancel] at h2
  omega
theorem aNh.len {hi:Int} {xs:List Int} (h:aNh 0 hi xs) (hh:-1<=hi):(xs.length:Int)<=hi+1:=by
 by_cases h0:xs.length=0
 ·omega
 ·have h1:=h.nat (Int.le_refl 0) (xs.length - 1) (by omega)
  have h2:=(h (xs.length - 1) (by omega)).1.2
  omega
end Gv
namespace Gv
open Go
theorem aIL (xs:List aY) (v:aY) (h:xs.length < 4611686018427387904):aBU xs v=some (pos xs v):=by
 unfold aBU pos
 rw [yC (step:=fun s=>aDO xs v s) xs (fun x=>v == x) (fun k x hk hx=>by
  simp only [aDO,dJ hk,if_pos,hx,aA,cS hk h]
  rw [show (x == v)=(v == x) from by rw [Bool.eq_iff_iff,beq_iff_eq,beq_iff_eq];exact eq_comm]) (by simp only [aDO,eZ];rfl),aA]
 cases xs.findIdx? (fun x=>v == x)<;>rfl
theorem pos_nat {α:Type} [BEq α] [LawfulBEq α] {xs:List α} {a:α} (h:a∈xs):0<=pos xs a:=by
 obtain ⟨i,_,e,_⟩:=aFy h
 omega
theorem pos_not {α:Type} [BEq α] [LawfulBEq α] {xs:List α} {a:α} (h:a∉xs):pos xs a=-1:=by
 unfold pos
 rw [List.findIdx?_eq_none_iff.2 (fun x hx=>by simp;intro e;subst e;exact h hx)]
theorem aGx {t:cB} (hv:cN t) {e:Edge} (he:e∈t.E) {s:aY} (hs:s∈t.L):(txt t e == s)=(e.B == pos t.L s):=by
 obtain ⟨i,hi,e1,e2⟩:=aFy hs
 have hin:=aCC hv he
 have ht:=aHO hin
 obtain ⟨_,_,h0,h1⟩:=hin
 have hl:e.B.toNat < t.L.length:=by omega
 have ht2:t.L[e.B.toNat]=txt t e:=by
  rw [aFd h0 hl] at ht
  exact Option.some.inj ht
 rw [e1]
 refine Bool.eq_iff_iff.2 ?_
 simp only [beq_iff_eq]
 constructor
 ·intro h
  have:=aOi hv.2.2.1 hl hi (by rw [ht2,h,e2])
  omega
 ·intro h
  have:e.B.toNat=i:=by omega
  subst this
  rw [←ht2,e2]
def R2 (q:Int × Int):List Int:=[q.1,q.2]
theorem aGO {α:Type} [BEq α] [LawfulBEq α] {a:List α} {q:α}:0<=pos a q<->q∈a:=by
 refine ⟨fun h=>?_,pos_nat⟩
 apply Classical.byContradiction
 intro hn
 rw [pos_not hn] at h
 omega
theorem pos_pre {α:Type} [BEq α] [LawfulBEq α] {a b:List α} (h:a <+:b) {q:α} (hq:q∈a):pos b q=pos a q:=by
 obtain ⟨c,rfl⟩:=h
 unfold pos
 have:(a.findIdx? fun x=>q == x).isSome:=by rw [List.findIdx?_isSome,List.any_eq_true];exact ⟨q,hq,by simp⟩
 rw [List.findIdx?_append]
 cases hx:a.findIdx? fun x=>q == x with
 |none=>rw [hx] at this;cases this
 |some i=>rfl
theorem pos_snoc {α:Type} [BEq α] [LawfulBEq α] {a:List α} {q:α} (hq:q∉a):pos (a++[q]) q=(a.length:Int):=by
 unfold pos
 rw [List.findIdx?_append,List.findIdx?_eq_none_iff.2 (fun x hx=>by simp;intro e;subst e;exact hq hx)]
 simp
end Gv
namespace Gv
open Go
structure Pth (F:List (Int × Int)) (P:List (List aY)):Prop where
 len:P.length=F.length
 small:∀ (j:Nat) x,P[j]?=some x->x.length<=j
end Gv
namespace Gv
open Go
theorem aLh {α:Type} (lt:α->α->Bool) (irr:∀ a,lt a a=false) (tr:∀ {a b c},lt a b=true->lt b c=true->lt a c=true) (tri:∀ a b,lt a b=true\/a=b\/lt b a=true) {xs:List α} (hn:xs.Nodup):(srt lt xs).Pairwise fun a b=>lt a b=true:=by
 have asy:∀ {a b},lt a b=true->lt b a=false:=fun {a b} h=>by
  cases hx:lt b a with
  |false=>rfl
  |true=>have:=tr h hx;rw [irr] at this;cases this
 have h1:(srt lt xs).Pairwise fun a b=>(!lt b a)=true:=by
  refine List.pairwise_mergeSort (le:=fun a b=>!lt b a) (fun a b c h1 h2=>?_) (fun a b=>?_) xs
  ·simp only [Bool.not_eq_true'] at *
   rcases tri a b with h|h|h
   ·rcases tri b c with g|g|g
    ·exact asy (tr h g)
    ·subst g;exact asy h
    ·rw [g] at h2;cases h2
   ·subst h;exact h2
   ·rw [h] at h1;cases h1
  ·rcases tri a b with h|h|h
   ·rw [asy h];rfl
   ·subst h;rw [irr];rfl
   ·rw [asy h];simp
 have h2:(srt lt xs).Nodup:=(List.mergeSort_perm xs _).nodup_iff.2 hn
 refine (h1.and h2).imp fun {a b} h=>?_
 obtain ⟨h3,h4⟩:=h
 simp only [Bool.not_eq_true'] at h3
 rcases tri a b with h|h|h
 ·exact h
 ·exact absurd h h4
 ·rw [h] at h3;cases h3
def qLt (a b:Int × Int):Bool:=decide (a.1 < b.1)||(a.1 == b.1&&decide (a.2 < b.2))
theorem aNi {a b:Int × Int}:qLt a b=true<->a.1 < b.1\/(a.1=b.1/\a.2 < b.2):=by unfold qLt;simp
theorem aKu (a b:Int × Int):rowLt (R2 a) (R2 b)=qLt a b:=by
 refine Bool.eq_iff_iff.2 ?_
 rw [aNi]
 unfold rowLt R2 aHf
 simp only [decide_eq_true_eq]
 split
 ·constructor
  ·intro _;exact .inl (by assumption)
  ·intro _;omega
 ·split
  ·constructor
   ·intro h;omega
   ·intro h;omega
  ·unfold aHf
   split
   ·constructor
    ·intro _;exact .inr ⟨by omega,by assumption⟩
    ·intro _;omega
   ·split
    ·constructor
     ·intro h;omega
     ·intro h;omega
    ·constructor
     ·intro h;simp [aHf] at h
     ·intro h;omega
theorem qLt_irr (a:Int × Int):qLt a a=false:=by
 cases h:qLt a a with
 |false=>rfl
 |true=>rw [aNi] at h;omega
theorem qLt_tr {a b c:Int × Int} (h1:qLt a b=true) (h2:qLt b c=true):qLt a c=true:=by
 rw [aNi] at *;omega
variable  {r:cB}
end Gv
namespace Gv
open Go
theorem aLM (a b:Int × Int):qY (R2 a) (R2 b)=some (aHf (R2 a) (R2 b)):=by
 unfold qY
 have s0:jJ (R2 a) (R2 b) 0=some (if a.1 < b.1 then .inr (.inr (-1)) else if b.1 < a.1 then .inr (.inr 1) else .inl 1):=by
  unfold jJ lN
  rw [show decide ((0:Int) < ((R2 a).length:Int))=true from rfl,if_pos rfl,show decide ((0:Int) < ((R2 b).length:Int))=true from rfl,if_pos rfl,show ix (R2 a) 0=some a.1 from rfl,aA,show ix (R2 b) 0=some b.1 from rfl,aA]
  by_cases h1:a.1 < b.1
  ·simp [h1]
  ·by_cases h2:b.1 < a.1
   ·simp [h1,h2]
   ·simp [h1,h2,wr]
 have s1:jJ (R2 a) (R2 b) 1=some (if a.2 < b.2 then .inr (.inr (-1)) else if b.2 < a.2 then .inr (.inr 1) else .inl 2):=by
  unfold jJ lN
  rw [show decide ((1:Int) < ((R2 a).length:Int))=true from rfl,if_pos rfl,show decide ((1:Int) < ((R2 b).length:Int))=true from rfl,if_pos rfl,show ix (R2 a) 1=some a.2 from rfl,aA,show ix (R2 b) 1=some b.2 from rfl,aA]
  by_cases h1:a.2 < b.2
  ·simp [h1]
  ·by_cases h2:b.2 < a.2
   ·simp [h1,h2]
   ·simp [h1,h2,wr]
 have s2:jJ (R2 a) (R2 b) 2=some (.inr (.inl ())):=rfl
 rw [cY,s0]
 by_cases h1:a.1 < b.1
 ·simp [h1,R2,aHf]
 ·by_cases h2:b.1 < a.1
  ·simp [h1,h2,R2,aHf]
  ·simp only [h1,h2,if_false]
   rw [cY,s1]
   by_cases h3:a.2 < b.2
   ·simp [h1,h2,h3,R2,aHf]
   ·by_cases h4:b.2 < a.2
    ·simp [h1,h2,h3,h4,R2,aHf]
    ·simp only [h3,h4,if_false]
     rw [cY,s2,aA]
     simp [nR,h1,h2,h3,h4,R2,aHf]
end Gv
namespace Gv
open Go
theorem aEV (a:Edge):dW a a=false:=by
 cases h:dW a a with
 |false=>rfl
 |true=>exact absurd rfl (edgeLt_ne h)
theorem aCl {a b c:Edge} (h1:dW a b=true) (h2:dW b c=true):dW a c=true:=by
 rw [aCk] at *;omega
theorem aHP (a b:Edge):dW a b=true\/a=b\/dW b a=true:=by
 rw [aCk,aCk]
 obtain ⟨a1,a2,a3⟩:=a
 obtain ⟨b1,b2,b3⟩:=b
 simp only [Edge.mk.injEq]
 omega
def SE (l:List Edge):Prop:=l.Pairwise fun a b=>dW a b=true
theorem put_find (l:List Edge) (e:Edge) (h:l.length < 1000000000):∃ a:Nat,loop (fun s:Int=>aAD l e s) (l.length:Int)=some (a:Int)/\a<=l.length/\(∀ (j:Nat) x,a<=j->l[j]?=some x->dW e x=true)/\(∀ (x:Edge),0 < a->l[a - 1]?=some x->dW e x=false):=by
 have key:=oV (step:=fun s:Int=>aAD l e s) (fun s=>∃ a:Nat,s=(a:Int)/\a<=l.length/\∀ (j:Nat) x,a<=j->l[j]?=some x->dW e x=true) (fun s=>s.toNat)
  (fun x=>∃ a:Nat,x=(a:Int)/\a<=l.length/\(∀ (j:Nat) x,a<=j->l[j]?=some x->dW e x=true)/\(∀ (x:Edge),0 < a->l[a - 1]?=some x->dW e x=false)) (fun s hI=>?_) (s:=(l.length:Int)) ⟨l.length,rfl,Nat.le_refl _,fun j x hj hx=>by
   rw [List.getElem?_eq_none (by omega)] at hx;cases hx⟩
 ·obtain ⟨r,h1,a,rfl,h2⟩:=key
  exact ⟨a,h1,h2⟩
 ·obtain ⟨a,rfl,ha,hall⟩:=hI
  by_cases h0:0 < a
  ·have hk1:wr ((a:Int) - 1)=((a - 1:Nat):Int):=by rw [dP (by omega) (by omega)];omega
   have hx:l[a - 1]?=some l[a - 1]:=List.getElem?_eq_getElem (by omega)
   simp only [aAD]
   rw [decide_eq_true (p:=(0:Int) < (a:Int)) (by omega),if_pos rfl,hk1,cU (xs:=l) (k:=a - 1) (by omega),aA,aLb,aA]
   unfold aAC
   cases he:dW e l[a - 1] with
   |true=>
    left
    refine ⟨_,by rw [if_pos rfl,hk1],⟨a - 1,rfl,by omega,fun j x hj hx2=>?_⟩,by simp;omega⟩
    by_cases e1:j=a - 1
    ·subst e1;rw [hx] at hx2;cases hx2;exact he
    ·exact hall j x (by omega) hx2
   |false=>
    right
    refine ⟨_,by rw [if_neg (by simp)],a,rfl,ha,hall,fun x _ hx2=>?_⟩
    rw [hx] at hx2;cases hx2;exact he
  ·right
   refine ⟨_,by simp only [aAD];rw [decide_eq_false (p:=(0:Int) < (a:Int)) (by omega),if_neg (by simp)];unfold aAC;rw [if_neg (by simp)],a,rfl,ha,hall,fun x h=>absurd h h0⟩
theorem put_shift (l:List Edge) (a:Nat) (ha:a<=l.length) (h:l.length < 1000000000):∃ z:Edge,loop (fun s:List Edge × Int=>aCL (a:Int) s.1 s.2) (l++[⟨0,0,0⟩],(l.length:Int))=some (l.take a++z::l.drop a):=by
 have key:=oV (step:=fun s:List Edge × Int=>aCL (a:Int) s.1 s.2) (fun s=>∃ (k:Nat) (z:Edge),s=(l.take k++z::l.drop k,(k:Int))/\a<=k/\k<=l.length) (fun s=>s.2.toNat)
  (fun x=>∃ z:Edge,x=l.take a++z::l.drop a) (fun s hI=>?_) (s:=(l++[⟨0,0,0⟩],(l.length:Int))) ⟨l.length,⟨0,0,0⟩,by simp,ha,Nat.le_refl _⟩
 ·obtain ⟨r,h1,z,rfl⟩:=key
  exact ⟨z,h1⟩
 ·obtain ⟨k,z,rfl,hak,hk⟩:=hI
  simp only [aCL]
  have hlen:(l.take k++z::l.drop k).length=l.length+1:=by simp;omega
  by_cases h0:a < k
  ·have hk1:wr ((k:Int) - 1)=((k - 1:Nat):Int):=by rw [dP (by omega) (by omega)];omega
   rw [decide_eq_true (p:=(a:Int) < (k:Int)) (by omega),if_pos rfl,hk1,cU (xs:=l.take k++z::l.drop k) (k:=k - 1) (by omega),aA,cU (by omega),aA,aJY _ (by omega),aA]
   left
   refine ⟨_,rfl,⟨k - 1,l[k - 1],?_,by omega,by omega⟩,by simp;omega⟩
   have e1:(l.take k++z::l.drop k)[k - 1]'(by omega)=l[k - 1]:=by
    rw [List.getElem_append_left (by simp;omega),List.getElem_take]
   rw [e1]
   have e2:(l.take k++z::l.drop k).set k l[k - 1]=l.take k++l[k - 1]::l.drop k:=by
    rw [List.set_append_right _ _ (by rw [List.length_take];omega)]
    simp [Nat.min_eq_left hk]
   have e3:l.take k=l.take (k - 1)++[l[k - 1]]:=by
    have:=List.take_add_one (l:=l) (i:=k - 1)
    rw [show k - 1+1=k by omega,List.getElem?_eq_getElem (by omega)] at this
    exact this
   have e4:l.drop (k - 1)=l[k - 1]::l.drop k:=by
    have:=List.drop_eq_getElem_cons (l:=l) (i:=k - 1) (by omega)
    rw [show k - 1+1=k by omega] at this
    exact this
   simp only [Prod.mk.injEq,and_true]
   show (l.take k++z::l.drop k).set k ⟨l[k - 1].F,l[k - 1].B,l[k - 1].To⟩=_
   rw [show (⟨l[k - 1].F,l[k - 1].B,l[k - 1].To⟩:Edge)=l[k - 1] from rfl,e2,e3,e4,List.append_assoc];rfl
  ·obtain rfl:k=a:=by omega
   right
   rw [decide_eq_false (p:=(k:Int) < (k:Int)) (by omega),if_neg (by simp)]
   exact ⟨_,rfl,z,rfl⟩
theorem l11Put_eq (l:List Edge) (e:Edge) (h:l.length < 1000000000) (hs:SE l):∃ l',aHx l e=some l'/\SE l'/\(∀ x,x∈l'<->x=e\/x∈l)/\l'.length<=l.length+1:=by
 unfold aHx
 obtain ⟨a,h1,ha,hge,hlt⟩:=put_find l e h
 rw [h1,aA]
 have hbefore:∀ x∈l.take a,dW x e=true\/x=e:=fun x hx=>by
  obtain ⟨j,hj,rfl⟩:=List.getElem_of_mem hx
  rw [List.length_take] at hj
  rw [List.getElem_take]
  have hla:l[a - 1]?=some (l[a - 1]'(by omega)):=List.getElem?_eq_getElem (by omega)
  have hf:=hlt _ (by omega) hla
  have hle:dW l[a - 1] e=true\/l[a - 1]=e:=by
   rcases aHP l[a - 1] e with g|g|g
   ·exact .inl g
   ·exact .inr g
   ·rw [g] at hf;cases hf
  by_cases e1:j=a - 1
  ·subst e1;exact hle
  ·have hp:=List.pairwise_iff_getElem.1 hs j (a - 1) (by omega) (by omega) (by omega)
   rcases hle with g|g
   ·exact .inl (aCl hp g)
   ·rw [g] at hp;exact .inl hp
 have hafter:∀ x∈l.drop a,dW e x=true:=fun x hx=>by
  obtain ⟨j,hj,rfl⟩:=List.getElem_of_mem hx
  rw [List.length_drop] at hj
  exact hge (a+j) _ (by omega) (by rw [List.getElem_drop];exact List.getElem?_eq_getElem (by omega))
 have hput:e∉l->∃ l',aAB l e (a:Int) false=some l'/\SE l'/\(∀ x,x∈l'<->x=e\/x∈l)/\l'.length<=l.length+1:=fun hne=>by
  unfold aAB
  rw [if_neg (by simp),dK (by simp [kP];omega),aA]
  have hk1:wr (((l++([⟨0,0,0⟩]:List Edge)).length:Int) - 1)=(l.length:Int):=by
   simp only [List.length_append,List.length_cons,List.length_nil]
   rw [dP (by omega) (by omega)];omega
  rw [hk1]
  obtain ⟨z,hz⟩:=put_shift l a ha h
  rw [hz,aA]
  unfold aCK
  have hl:(l.take a++z::l.drop a).length=l.length+1:=by simp;omega
  rw [cU (by omega),aA,aJY _ (by omega),aA]
  have e2:(l.take a++z::l.drop a).set a (⟨e.F,e.B,e.To⟩:Edge)=l.take a++e::l.drop a:=by
   rw [List.set_append_right _ _ (by rw [List.length_take];omega)]
   simp [Nat.min_eq_left ha]
  rw [e2]
  refine ⟨_,rfl,?_,fun x=>?_,by simp;omega⟩
  ·have hs':(l.take a++l.drop a).Pairwise fun a b=>dW a b=true:=by rw [List.take_append_drop];exact hs
   rw [List.pairwise_append] at hs'
   unfold SE
   rw [List.pairwise_append,List.pairwise_cons]
   refine ⟨hs'.1,⟨hafter,hs'.2.1⟩,fun x hx y hy=>?_⟩
   have hxe:dW x e=true:=by
    rcases hbefore x hx with g|g
    ·exact g
    ·subst g;exact absurd (List.mem_of_mem_take hx) hne
   rcases List.mem_cons.1 hy with rfl|hy
   ·exact hxe
   ·exact aCl hxe (hafter y hy)
  ·rw [List.mem_append,List.mem_cons]
   conv=>rhs;rw [←List.take_append_drop a l,List.mem_append]
   constructor
   ·rintro (g|g|g)<;>simp [g]
   ·rintro (g|g|g)<;>simp [g]
 unfold aCM
 by_cases h0:0 < a
 ·have hk1:wr ((a:Int) - 1)=((a - 1:Nat):Int):=by rw [dP (by omega) (by omega)];omega
  rw [decide_eq_true (p:=(0:Int) < (a:Int)) (by omega),if_pos rfl,hk1,cU (xs:=l) (k:=a - 1) (by omega),aA]
  by_cases he:l[a - 1]=e
  ·rw [decide_eq_true he]
   refine ⟨l,rfl,hs,fun x=>⟨.inr,?_⟩,by omega⟩
   rintro (rfl|hx)
   ·rw [←he];exact List.getElem_mem _
   ·exact hx
  ·rw [decide_eq_false he]
   refine hput fun hm=>?_
   rw [←List.take_append_drop a l,List.mem_append] at hm
   rcases hm with hm|hm
   ·obtain ⟨j,hj,hje⟩:=List.getElem_of_mem hm
    rw [List.length_take] at hj
    rw [List.getElem_take] at hje
    by_cases e1:j=a - 1
    ·subst e1;exact he hje
    ·have hp:=List.pairwise_iff_getElem.1 hs j (a - 1) (by omega) (by omega) (by omega)
     rw [hje] at hp
     have:=hlt _ h0 (List.getElem?_eq_getElem (by omega))
     rw [hp] at this;cases this
   ·have:=hafter e hm
    rw [aEV] at this;cases this
 ·rw [decide_eq_false (p:=(0:Int) < (a:Int)) (by omega),if_neg (by simp)]
  refine hput fun hm=>?_
  obtain rfl:a=0:=by omega
  have:=hafter e (by simpa using hm)
  rw [aEV] at this;cases this
theorem aLi {xs:List aY} (h:yJ xs) {k:Nat} (hk:k < xs.length):pos xs xs[k]=(k:Int):=by
 obtain ⟨i,hi,e,g⟩:=aFy (List.getElem_mem hk)
 have:=aOi h hi hk g
 omega
end Gv
namespace Gv
open Go
variable  {r:cB}
theorem aIc {α:Type} [BEq α] [LawfulBEq α] {xs:List α} {q:α} (h:q∈xs):∃ j:Nat,pos xs q=(j:Int)/\xs[j]?=some q:=by
 obtain ⟨i,hi,e1,e2⟩:=aFy h
 exact ⟨i,e1,by rw [List.getElem?_eq_getElem hi,e2]⟩
end Gv
namespace Gv
open Go
variable  {r:cB}
theorem yJ.cons {xs:List aY} (h:yJ xs):∃ L,xs=dV::L/\rD L:=by
 obtain ⟨h1,h12,h0,hk⟩:=h
 cases xs with
 |nil=>simp at h1
 |cons a L=>
  have e:=h0 (by simp)
  simp only [List.getElem_cons_zero] at e
  subst e
  refine ⟨L,rfl,List.pairwise_iff_getElem.2 fun i j hi hj hij=>?_,fun hm=>?_⟩
  ·have:=labs_lt (xs:=dV::L) ⟨h1,h12,h0,hk⟩ (i:=i+1) (j:=j+1) (by omega) (by omega) (by simp;omega)
   simpa using this
  ·obtain ⟨j,hj,e⟩:=List.getElem_of_mem hm
   have:=(hk (j+1) (by omega) (by simp;omega)).2.1
   simp only [List.getElem_cons_succ] at this
   exact this e
end Gv
namespace Gv
open Go
variable  {r:cB}
end Gv
namespace Gv
open Go
inductive Co (E:Nat->Nat->Prop) (m A:Nat->Prop):Nat->Prop
 |base {i:Nat}:A i->m i->Co E m A i
 |step {i j:Nat}:A i->E i j->Co E m A j->Co E m A i
section
variable {E U:Nat->Nat->Prop} {m flt A B:Nat->Prop}
theorem Co.mem {i:Nat} (h:Co E m A i):A i:=by cases h<;>assumption
theorem Co.mono (hAB:∀ i,A i->B i) {i:Nat} (h:Co E m A i):Co E m B i:=by
 induction h with
 |base h1 h2=>exact .base (hAB _ h1) h2
 |step h1 h2 _ ih=>exact .step (hAB _ h1) h2 ih
structure Stb (E U:Nat->Nat->Prop) (m flt S:Nat->Prop):Prop where
 co:∀ i,S i->Co E m S i
 ok:∀ i,S i->¬ flt i
 un:∀ i j,S i->U i j->S j
end
def on (a:List Bool) (i:Nat):Prop:=a[i]?=some true
theorem on_getD {a:List Bool} {i:Nat}:a.getD i false=true<->on a i:=by
 unfold on
 rw [List.getD_eq_getElem?_getD]
 cases a[i]?<;>simp
theorem on_set {a:List Bool} {i j:Nat} {b:Bool} (hi:i < a.length):on (a.set i b) j<->if j=i then b=true else on a j:=by
 unfold on
 split
 ·rename_i h;subst h
  rw [List.getElem?_set_self hi];simp
 ·rename_i h
  rw [List.getElem?_set_ne (Ne.symm h)]
theorem on_rep {n i:Nat} {b:Bool}:on (List.replicate n b) i<->i < n/\b=true:=by
 unfold on
 rw [List.getElem?_replicate]
 split
 ·simp_all
 ·constructor
  ·intro h;cases h
  ·intro h;omega
end Gv
namespace Gv
open Go
theorem off_get {m:List Bool} {i:Nat} (hi:i < m.length) (h:m.getD i false=false):m[i]?=some false:=by
 rw [List.getD_eq_getElem?_getD,List.getElem?_eq_getElem hi] at h
 rw [List.getElem?_eq_getElem hi];simpa using h
structure Sat1 (n:Nat) (P:Nat->Prop) (m0 m:List Bool):Prop where
 len:m.length=n
 has:∀ i,on m0 i->on m i
 ok:∀ i,on m i->P i
theorem Sat1.flip {n:Nat} {P:Nat->Prop} {m0 m:List Bool} (h:Sat1 n P m0 m) {q:Nat} (hq:q < n) (hp:P q):Sat1 n P m0 (m.set q true):=by
 have hq':q < m.length:=by rw [h.len];exact hq
 refine ⟨by rw [List.length_set];exact h.len,fun i hi=>?_,fun i hi=>?_⟩
 ·rw [on_set hq'];split
  ·rfl
  ·exact h.has i hi
 ·rw [on_set hq'] at hi;split at hi
  ·rename_i e;subst e;exact hp
  ·exact h.ok i hi
theorem sat_edges {ed:List Edge} {n:Nat} (c:Edge->Bool) (a b:Edge->Nat) {inner:List Bool × Bool × Int->Option ((List Bool × Bool × Int) ⊕ (List Bool × Bool))} {outer:List Bool × Bool->Option ((List Bool × Bool) ⊕ List Bool)}
  (hi:∀ (k:Nat) (hk:k < ed.length) m ag,m.length=n->inner (m,ag,(k:Int))=some (.inl (if (c ed[k]&&(m.getD (a ed[k]) false&&!m.getD (b ed[k]) false))=true then (m.set (b ed[k]) true,true,((k+1:Nat):Int)) else (m,ag,((k+1:Nat):Int)))))
  (he:∀ m ag,inner (m,ag,(ed.length:Int))=some (.inr (m,ag)))
  (ho:∀ m,m.length=n->outer (m,true)=ob (loop inner (m,false,0)) fun r=>some (.inl r))
  (ho2:∀ m,outer (m,false)=some (.inr m)) (hb:∀ e∈ed,b e < n) (P:Nat->Prop) {m0:List Bool} (hm:m0.length=n) (hP0:∀ i,on m0 i->P i) (hP:∀ e∈ed,c e=true->P (a e)->P (b e)):
  ∃ m,loop outer (m0,true)=some m/\Sat1 n P m0 m/\∀ e∈ed,c e=true->on m (a e)->on m (b e):=by
 refine aOj (α:=List Bool) id false (Sat1 n P m0) (fun m=>∀ e∈ed,c e=true->on m (a e)->on m (b e)) (fun m hG=>?_) (fun m=>ho2 m) (m0.count false) m0 (Nat.le_refl _) ⟨hm,fun _ h=>h,hP0⟩
 have:=eA (step:=inner) ed.length (fun i (s:List Bool × Bool)=>(s.1,s.2,(i:Int)))
  (fun i s=>Adv false (Sat1 n P m0) m s.1 s.2/\(s.2=false->∀ i',i' < i->∀ h:i' < ed.length,c ed[i']=true->on m (a ed[i'])->on m (b ed[i']))) (fun r=>Adv false (Sat1 n P m0) m r.1 r.2/\(r.2=false->∀ e∈ed,c e=true->on m (a e)->on m (b e))) (fun i s hi' hI=>?_) (fun s hI=>?_) ed.length 0 (m,false) (by omega) ⟨Adv.refl hG,fun _ i' h=>by omega⟩
 ·obtain ⟨r,hr,hA,hc⟩:=this
  have hr':loop inner (m,false,0)=some r:=hr
  simp only [id]
  rw [ho m hG.len,hr',aA]
  exact ⟨r.1,r.2,rfl,hA,hc⟩
 ·obtain ⟨m',ag⟩:=s
  obtain ⟨hA,hc⟩:=hI
  simp only at hA hc
  have hmem:ed[i]∈ed:=List.getElem_mem hi'
  rw [hi i hi' m' ag hA.good.len]
  by_cases ht:(c ed[i]&&(m'.getD (a ed[i]) false&&!m'.getD (b ed[i]) false))=true
  ·rw [if_pos ht]
   simp only [Bool.and_eq_true,Bool.not_eq_true'] at ht
   have hbn:=hb _ hmem
   exact ⟨(m'.set (b ed[i]) true,true),rfl,hA.flip (off_get (by rw [hA.good.len];exact hbn) ht.2.2) (hA.good.flip hbn (hP _ hmem ht.1 (hA.good.ok _ (on_getD.1 ht.2.1)))),fun h=>by cases h⟩
  ·rw [if_neg ht]
   refine ⟨(m',ag),rfl,hA,fun hf i' h1 h2 h3 h4=>?_⟩
   by_cases hii:i' < i
   ·exact hc hf i' hii h2 h3 h4
   ·obtain rfl:i'=i:=by omega
    obtain rfl:=hA.eq hf
    rw [←on_getD] at h4 ⊢
    rw [h3,h4] at ht
    simpa using ht
 ·obtain ⟨m',ag⟩:=s
  refine ⟨(m',ag),he m' ag,hI.1,fun hf e hem=>?_⟩
  obtain ⟨i',hi',rfl⟩:=List.mem_iff_getElem.1 hem
  exact hI.2 hf i' hi' hi'
theorem Co.sat {E:Nat->Nat->Prop} {m A:Nat->Prop} {g:List Bool} (h0:∀ i,A i->m i->on g i) (h1:∀ i j,A i->E i j->A j->on g j->on g i) {i:Nat} (h:Co E m A i):on g i:=by
 induction h with
 |base a b=>exact h0 _ a b
 |step a b c ih=>exact h1 _ _ a b c.mem ih
end Gv
namespace Gv
open Go
def vis (out:List Int) (i:Nat):Prop:=0<=out.getD i (-1)
theorem vis_lt {out:List Int} {i:Nat} (h:vis out i):i < out.length:=by
 apply Classical.byContradiction
 intro hc
 unfold vis at h
 rw [List.getD_eq_getElem?_getD,List.getElem?_eq_none (by omega)] at h
 simp at h
theorem aFz {out:List Int} {j i:Nat} {v:Int} (hj:j < out.length) (hv:0<=v):vis (out.set j v) i<->i=j\/vis out i:=by
 unfold vis
 rw [List.getD_eq_getElem?_getD,List.getD_eq_getElem?_getD]
 by_cases e:i=j
 ·subst e
  rw [List.getElem?_set_self hj];simp [hv]
 ·rw [List.getElem?_set_ne (Ne.symm e)];simp [e]
def neg (out:List Int):Nat:=out.countP fun x=>decide (x < 0)
theorem neg_set {v:Int} (hv:0<=v):∀ {out:List Int} {j:Nat} (_:j < out.length),¬ vis out j->neg (out.set j v)+1=neg out
 |[],j,h,_=>by simp at h
 |x::l,0,_,hn=>by
  unfold vis at hn
  simp at hn
  simp only [neg,List.set_cons_zero,List.countP_cons]
  rw [if_neg (by simp only [decide_eq_true_eq];omega),if_pos (by simpa using hn)]
 |x::l,j+1,h,hn=>by
  have ih:=neg_set hv (out:=l) (j:=j) (by simpa using h) (by unfold vis at hn ⊢;simpa using hn)
  simp only [neg,List.set_cons_succ,List.countP_cons] at ih ⊢
  omega
structure Bfs (ed:List Edge) (src dst:Edge->Nat) (n:Nat) (P:Nat->Prop) (q:Option Nat) (s:List Int × List Int):Prop where
 len:s.1.length=n
 ok:∀ i,vis s.1 i->P i
 todo:∀ x∈s.2,∃ i:Nat,x=(i:Int)/\vis s.1 i
 done:∀ i,vis s.1 i->(i:Int)∉s.2->some i≠q->∀ e∈ed,src e=i->vis s.1 (dst e)
 top:∀ i,s.1.getD i (-1)<=(n:Int) - neg s.1
theorem Bfs.put {ed:List Edge} {src dst:Edge->Nat} {n:Nat} {P:Nat->Prop} {q:Nat} {s:List Int × List Int} (h:Bfs ed src dst n P (some q) s) (hq:vis s.1 q) {j:Nat} (hj:j < n) (hn:¬ vis s.1 j) (hp:P j):
  Bfs ed src dst n P (some q) (s.1.set j (s.1.getD q (-1)+1),s.2++[(j:Int)])/\neg (s.1.set j (s.1.getD q (-1)+1))+(s.2++[(j:Int)]).length=neg s.1+s.2.length:=by
 have hj':j < s.1.length:=by rw [h.len];exact hj
 have hv:0<=s.1.getD q (-1)+1:=by unfold vis at hq;omega
 have hng:=neg_set hv hj' hn
 refine ⟨⟨by rw [List.length_set];exact h.len,fun i hi=>?_,fun x hx=>?_,fun i hi hm hne e he hs=>?_,fun i=>?_⟩,by simp only [List.length_append,List.length_singleton];omega⟩
 ·rcases (aFz hj' hv).1 hi with rfl|hi
  ·exact hp
  ·exact h.ok i hi
 ·rcases List.mem_append.1 hx with hx|hx
  ·obtain ⟨i,rfl,hi⟩:=h.todo x hx
   exact ⟨i,rfl,(aFz hj' hv).2 (.inr hi)⟩
  ·simp at hx;subst hx
   exact ⟨j,rfl,(aFz hj' hv).2 (.inl rfl)⟩
 ·rw [List.mem_append] at hm
  rcases (aFz hj' hv).1 hi with rfl|hi
  ·exact absurd (.inr (by simp)) hm
  ·exact (aFz hj' hv).2 (.inr (h.done i hi (fun x=>hm (.inl x)) hne e he hs))
 ·have ht:=h.top i
  have hq':=h.top q
  simp only
  by_cases e:i=j
  ·subst e
   rw [List.getD_eq_getElem?_getD,List.getElem?_set_self hj']
   simp only [Option.getD_some];omega
  ·rw [List.getD_eq_getElem?_getD,List.getElem?_set_ne (Ne.symm e),←List.getD_eq_getElem?_getD];omega
open Classical in
theorem bfs_loop {ed:List Edge} {n:Nat} (hn:n < 1000000) (src dst:Edge->Nat) {inner:Int->List Int × List Int × Int->Option ((List Int × List Int × Int) ⊕ (List Int × List Int))} {outer:List Int × List Int->Option ((List Int × List Int) ⊕ List Int)}
  (hi:∀ (q:Nat) (k:Nat) (hk:k < ed.length) out todo,out.length=n->q < n->todo.length<=n->(∀ i,out.getD i (-1)<=(n:Int))->inner (q:Int) (out,todo,(k:Int))=some (.inl (if src ed[k]=q/\¬ vis out (dst ed[k]) then (out.set (dst ed[k]) (wr (out.getD q (-1)+1)),todo++[(dst ed[k]:Int)],((k+1:Nat):Int)) else (out,todo,((k+1:Nat):Int)))))
  (he:∀ (q:Nat) out todo,inner (q:Int) (out,todo,(ed.length:Int))=some (.inr (out,todo)))
  (ho:∀ out (q:Nat) todo,out.length=n->q < n->todo.length<=n->outer (out,(q:Int)::todo)=ob (loop (inner (q:Int)) (out,todo,0)) fun r=>some (.inl r))
  (ho2:∀ out,outer (out,[])=some (.inr out)) (hb:∀ e∈ed,dst e < n) (P:Nat->Prop) (hP:∀ e∈ed,P (src e)->P (dst e)) {s0:List Int × List Int} (h0:Bfs ed src dst n P none s0) (hm:neg s0.1+s0.2.length<=n):
  ∃ out,loop outer s0=some out/\out.length=n/\(∀ i,vis out i->P i)/\(∀ i,vis out i->∀ e∈ed,src e=i->vis out (dst e))/\∀ i,vis s0.1 i->vis out i:=by
 refine oV (step:=outer) (fun s=>Bfs ed src dst n P none s/\neg s.1+s.2.length<=n/\∀ i,vis s0.1 i->vis s.1 i) (fun s=>neg s.1+s.2.length) (fun out=>out.length=n/\(∀ i,vis out i->P i)/\(∀ i,vis out i->∀ e∈ed,src e=i->vis out (dst e))/\∀ i,vis s0.1 i->vis out i) (fun s hI=>?_) ⟨h0,hm,fun _ h=>h⟩
 obtain ⟨out,todo⟩:=s
 obtain ⟨hB,hle,hmo⟩:=hI
 cases todo with
 |nil=>
  right
  exact ⟨out,ho2 out,hB.len,hB.ok,fun i hi e he hs=>hB.done i hi (by simp) (by simp) e he hs,hmo⟩
 |cons x todo=>
  left
  obtain ⟨q,rfl,hq⟩:=hB.todo x (by simp)
  have hqn:q < n:=by have h1:=vis_lt hq;have h2:=hB.len;simp only at h1 h2;omega
  have hle':neg out+(todo.length+1)<=n:=hle
  rw [ho out q todo hB.len hqn (by omega)]
  have hB1:Bfs ed src dst n P (some q) (out,todo):=⟨hB.len,hB.ok,fun x hx=>hB.todo x (by simp [hx]),fun i hi hm hne e he hs=>hB.done i hi (by simp only [List.mem_cons,not_or];exact ⟨fun h=>hne (by rw [show i=q by omega]),hm⟩) (by simp) e he hs,hB.top⟩
  have:=eA (step:=inner (q:Int)) ed.length (fun i (s:List Int × List Int)=>(s.1,s.2,(i:Int)))
   (fun k s=>Bfs ed src dst n P (some q) s/\neg s.1+s.2.length=neg out+todo.length/\(∀ i,vis out i->vis s.1 i)/\∀ k',k' < k->∀ h:k' < ed.length,src ed[k']=q->vis s.1 (dst ed[k'])) (fun r=>Bfs ed src dst n P (some q) r/\neg r.1+r.2.length=neg out+todo.length/\(∀ i,vis out i->vis r.1 i)/\∀ e∈ed,src e=q->vis r.1 (dst e)) (fun k s hk hI=>?_) (fun s hI=>?_) ed.length 0 (out,todo) (by omega) ⟨hB1,rfl,fun _ h=>h,fun k' h=>by omega⟩
  ·obtain ⟨r,hr,hR,hc,hv,hall⟩:=this
   have hr':loop (inner (q:Int)) (out,todo,0)=some r:=hr
   rw [hr',aA]
   refine ⟨r,rfl,⟨⟨hR.len,hR.ok,hR.todo,fun i hi hm _ e he hs=>?_,hR.top⟩,by omega,fun i hi=>hv i (hmo i hi)⟩,?_⟩
   ·by_cases hiq:i=q
    ·subst hiq;exact hall e he hs
    ·exact hR.done i hi hm (by simpa using hiq) e he hs
   ·simp only [List.length_cons];omega
  ·obtain ⟨o,td⟩:=s
   obtain ⟨hS,hc,hv,hall⟩:=hI
   simp only at hc hv hall
   have hmem:ed[k]∈ed:=List.getElem_mem hk
   have hvq:=hv q hq
   have htop:∀ i,o.getD i (-1)<=(n:Int):=fun i=>by have:=hS.top i;simp only at this;omega
   rw [hi q k hk o td hS.len hqn (by omega) htop]
   by_cases ht:src ed[k]=q/\¬ vis o (dst ed[k])
   ·rw [if_pos ht]
    have hp:P (dst ed[k]):=hP _ hmem (by rw [ht.1];exact hS.ok q hvq)
    obtain ⟨g1,g2⟩:=hS.put hvq (hb _ hmem) ht.2 hp
    have hw:wr (o.getD q (-1)+1)=o.getD q (-1)+1:=by
     have h1:=htop q
     have h2:0<=o.getD q (-1):=hvq
     rw [dP (by omega) (by omega)]
    have hol:dst ed[k] < o.length:=by have:=hS.len;simp only at this;rw [this];exact hb _ hmem
    have h0:(0:Int)<=o.getD q (-1)+1:=by have h2:0<=o.getD q (-1):=hvq;omega
    rw [hw]
    refine ⟨(o.set (dst ed[k]) (o.getD q (-1)+1),td++[(dst ed[k]:Int)]),rfl,g1,by simp only at g2 ⊢;omega,fun i h=>(aFz hol h0).2 (.inr (hv i h)),fun k' h1 h2 h3=>?_⟩
    by_cases hkk:k' < k
    ·exact (aFz hol h0).2 (.inr (hall k' hkk h2 h3))
    ·obtain rfl:k'=k:=by omega
     exact (aFz hol h0).2 (.inl rfl)
   ·rw [if_neg ht]
    refine ⟨(o,td),rfl,hS,hc,hv,fun k' h1 h2 h3=>?_⟩
    by_cases hkk:k' < k
    ·exact hall k' hkk h2 h3
    ·obtain rfl:k'=k:=by omega
     exact Classical.byContradiction fun hx=>ht ⟨h3,hx⟩
  ·obtain ⟨o,td⟩:=s
   obtain ⟨hS,hc,hv,hall⟩:=hI
   refine ⟨(o,td),he q o td,hS,hc,hv,fun e hem hs=>?_⟩
   obtain ⟨i',hi',rfl⟩:=List.mem_iff_getElem.1 hem
   exact hall i' hi' hi' hs
end Gv
namespace Gv
open Go
section
variable {E U:Nat->Nat->Prop} {m flt:Nat->Prop} {n:Nat}
end
variable  {r:cB}
end Gv
namespace Gv
open Go
inductive Rt (t:cB):Nat->Prop
 |init:Rt t t.I.toNat
 |step {e:Edge}:e∈t.E->Rt t e.F.toNat->Rt t e.To.toNat
noncomputable def RL (t:cB):List Int:=((List.range t.N.toNat).filter fun k=>cl (Rt t k)).map Int.ofNat
theorem RL_pair (t:cB):(RL t).Pairwise fun a b=>a < b:=by
 unfold RL
 rw [List.pairwise_map]
 refine (List.Pairwise.filter _ List.pairwise_lt_range).imp fun h=>?_
 simp only [Int.ofNat_eq_natCast];omega
theorem RL_len (t:cB):(RL t).length<=t.N.toNat:=by
 unfold RL
 rw [List.length_map]
 exact Nat.le_trans (List.length_filter_le _ _) (by simp)
theorem posI_lt {S:List Int} (hS:S.Pairwise fun a b=>a < b) {a b:Int} (ha:a∈S) (hb:b∈S) (h:a < b):pos S a < pos S b:=by
 obtain ⟨i,e1,h1⟩:=aIc ha
 obtain ⟨j,e2,h2⟩:=aIc hb
 obtain ⟨hi,f1⟩:=List.getElem?_eq_some_iff.1 h1
 obtain ⟨hj,f2⟩:=List.getElem?_eq_some_iff.1 h2
 rw [e1,e2]
 rcases Nat.lt_trichotomy i j with g|g|g
 ·omega
 ·subst g;omega
 ·have:=List.pairwise_iff_getElem.1 hS j i hj hi g
  omega
def aLj (t:cB) (S:List Int):List Edge:=t.E.filterMap fun e=>if 0<=pos S e.F/\0<=pos S e.To then some ⟨pos S e.F,e.B,pos S e.To⟩ else none
def keepL (t:cB) (S:List Int):cB:=⟨(S.length:Int),pos S t.I,t.L,aLj t S⟩
theorem aMo (t:cB) (S:List Int):(aLj t S).length<=t.E.length:=List.length_filterMap_le _ _
theorem keepE_SE {t:cB} (hE:SE t.E) {S:List Int} (hS:S.Pairwise fun a b=>a < b):SE (aLj t S):=by
 unfold SE aLj
 rw [List.pairwise_filterMap]
 refine hE.imp fun {a b} h x hx y hy=>?_
 simp only [Option.ite_none_right_eq_some,Option.some.injEq] at hx hy
 obtain ⟨⟨a1,a2⟩,rfl⟩:=hx
 obtain ⟨⟨b1,b2⟩,rfl⟩:=hy
 rw [aGO] at a1 a2 b1 b2
 rw [aCk] at h ⊢
 simp only
 rcases h with h|⟨h1,h|⟨h2,h⟩⟩
 ·exact .inl (posI_lt hS a1 b1 h)
 ·exact .inr ⟨by rw [h1],.inl h⟩
 ·exact .inr ⟨by rw [h1],.inr ⟨h2,posI_lt hS a2 b2 h⟩⟩
theorem aJj {t:cB} (hv:cN t):SE t.E:=by
 refine List.pairwise_iff_getElem.2 fun i j hi hj hij=>?_
 exact aLc (R:=fun a b=>dW a b=true) (fun h1 h2=>aCl h1 h2) (fun k h1 hk=>(hv.2.2.2.2 k hk).2 h1) hij hj
end Gv
namespace Gv
open Go
theorem aKd (xs:List Int) (v:Int) (h:xs.length < 4611686018427387904):aAp xs v=some (pos xs v):=by
 unfold aAp pos
 rw [yC (step:=fun s=>aCq xs v s) xs (fun x=>v == x) (fun k x hk hx=>by
  simp only [aCq,dJ hk,if_pos,hx,aA,cS hk h]
  rw [show (x == v)=(v == x) from by rw [Bool.eq_iff_iff,beq_iff_eq,beq_iff_eq];exact eq_comm]) (by simp only [aCq,eZ];rfl),aA]
 cases xs.findIdx? (fun x=>v == x)<;>rfl
theorem aPw {t:cB} (hv:cN t) {S:List Int} (hS:S.length < 1000000000):aEd t S=some (keepL t S):=by
 have h300:=hv.2.2.2.1
 have h12:=hv.2.2.1.2.1
 unfold aEd
 rw [aKd _ _ (by omega),aA,dK (by simp [kP];omega),aA,List.nil_append]
 have:=vB (step:=fun s:List Edge × Int=>xL t S s.1 s.2) t.E (fun k (a:List Edge)=>(a,(k:Int)))
  (fun l a=>a++l.filterMap fun e=>if 0<=pos S e.F/\0<=pos S e.To then some (⟨pos S e.F,e.B,pos S e.To⟩:Edge) else none) (fun k a=>a.length<=k) (fun k out x l hk' hx hI=>?_) (fun out hI=>by simp only [xL,eZ];simp) (a:=[]) (by simp)
 ·have this':loop (fun s:List Edge × Int=>xL t S s.1 s.2) (([]:List Edge),0)=_:=this
  rw [this',aA,List.nil_append];rfl
 ·left
  have hI':out.length<=k:=hI
  have hw:=cS hk' (show t.E.length < 4611686018427387904 by omega)
  simp only [xL,dJ hk',if_pos,hx,aA,aKd S _ (show S.length < 4611686018427387904 by omega)]
  rw [List.filterMap_cons]
  by_cases h1:0<=pos S x.F
  ·rw [if_pos (decide_eq_true h1)]
   by_cases h2:0<=pos S x.To
   ·rw [if_pos ⟨h1,h2⟩]
    simp only [xK,tM,decide_eq_true h2,if_pos]
    rw [dK (show out.length+1<=kP by unfold kP;omega),aA,hw]
    exact ⟨_,rfl,by simp;omega,by simp⟩
   ·rw [if_neg (fun h=>h2 h.2)]
    simp only [xK,tM,decide_eq_false h2,hw]
    exact ⟨out,by simp,by omega,rfl⟩
  ·rw [if_neg (by simpa using h1),if_neg (fun h=>h1 h.1)]
   simp only [xK,tM,hw]
   exact ⟨out,by simp,by omega,rfl⟩
theorem filt_list {n:Nat} (hn:n < 1000000) (f:Nat->Bool) {step:List Int × Int->Option ((List Int × Int) ⊕ List Int)}
  (h:∀ (k:Nat) out,k < n->out.length<=k->step (out,(k:Int))=some (.inl (if f k=true then out++[(k:Int)] else out,((k+1:Nat):Int)))) (h':∀ out,step (out,(n:Int))=some (.inr out)):
  loop step ([],0)=some (((List.range n).filter f).map Int.ofNat):=by
 have:=aFx (step:=step) n (fun k (a:List Int)=>(a,(k:Int))) (fun k a=>a++(((List.range n).drop k).filter f).map Int.ofNat) (fun k a=>a.length<=k) (fun k a hk hI=>?_) (fun a _=>?_) n 0 [] (by omega) (by simp)
 ·have this':loop step ([],0)=_:=this
  rw [this'];simp
 ·left
  rw [h k a hk hI]
  have hd:(List.range n).drop k=k::(List.range n).drop (k+1):=by
   rw [List.drop_eq_getElem_cons (by simpa using hk)];simp
  rw [hd,List.filter_cons]
  by_cases hf:f k=true
  ·rw [if_pos hf,if_pos hf]
   exact ⟨_,rfl,by simp;omega,by simp⟩
  ·rw [if_neg hf,if_neg hf]
   exact ⟨a,rfl,by omega,rfl⟩
 ·rw [h',List.drop_of_length_le (by simp)];simp
theorem aOm {t:cB} (hv:cN t):aBW t=some (RL t):=by
 obtain ⟨n,hn⟩:∃ n:Nat,t.N=(n:Int):=⟨t.N.toNat,by have:=hv.1;omega⟩
 obtain ⟨i,hi⟩:∃ i:Nat,t.I=(i:Int):=⟨t.I.toNat,by have:=hv.2.1;omega⟩
 have hn40:n<=40:=by have:=hv.1;omega
 have hin:i < n:=by have:=hv.2.1;omega
 have h300:=hv.2.2.2.1
 have hed:∀ e∈t.E,∃ a b:Nat,e.F=(a:Int)/\e.To=(b:Int)/\a < n/\b < n:=fun e he=>by
  obtain ⟨h1,h2,_⟩:=aCC hv he
  exact ⟨e.F.toNat,e.To.toNat,by omega,by omega,by omega,by omega⟩
 have rl:(List.replicate n false).length=n:=List.length_replicate
 have hon0:∀ j,on ((List.replicate n false).set i true) j<->j=i:=fun j=>by
  rw [on_set (by rw [rl];exact hin)]
  split
  ·simp_all
  ·rename_i h;rw [on_rep];simp [h]
 unfold aBW
 rw [hn,mkz_of _ (by simp [kP];omega),aA,hi,cU (by rw [rl];exact hin),aA,aJY _ (by rw [rl];exact hin),aA]
 obtain ⟨m,hm,hS,hc⟩:=sat_edges (ed:=t.E) (n:=n) (fun _=>true) (fun e=>e.F.toNat) (fun e=>e.To.toNat) (inner:=fun s:List Bool × Bool × Int=>yU t s.1 s.2.1 s.2.2) (outer:=fun s:List Bool × Bool=>aEu t s.1 s.2)
  (fun k hk m ag hm=>by
   obtain ⟨a,b,ea,eb,ha,hb⟩:=hed _ (List.getElem_mem hk)
   have hw:=cS hk (show t.E.length < 4611686018427387904 by omega)
   have g1:ix m (a:Int)=some (m.getD a false):=by rw [cU (by omega)];simp [List.getD_eq_getElem?_getD,show a < m.length by omega]
   have g2:ix m (b:Int)=some (m.getD b false):=by rw [cU (by omega)];simp [List.getD_eq_getElem?_getD,show b < m.length by omega]
   simp only [yU,dJ hk,if_pos,cU hk,aA,ea,eb,g1,g2,Int.toNat_natCast,Bool.true_and]
   cases h1:m.getD a false with
   |false=>simp [rI,rH,hw]
   |true=>
    cases h2:m.getD b false with
    |true=>simp [rI,rH,hw]
    |false=>simp [rI,rH,hw,cU hk,eb,g2,aJY (xs:=m) true (show b < m.length by omega)])
  (fun m ag=>by simp only [yU,eZ];rfl) (fun m _=>rfl) (fun m=>rfl) (fun e he=>by obtain ⟨a,b,ea,eb,ha,hb⟩:=hed e he;simp only [eb,Int.toNat_natCast];exact hb) (Rt t) (m0:=(List.replicate n false).set i true) (by simp) (fun j hj=>by
   rw [(hon0 j).1 hj]
   have:=Rt.init (t:=t)
   rwa [hi,Int.toNat_natCast] at this) (fun e he _ h=>Rt.step he h)
 rw [hm,aA]
 unfold yT
 have key:∀ j,on m j<->Rt t j:=fun j=>⟨hS.ok j,fun h=>by
  induction h with
  |init=>rw [hi,Int.toNat_natCast];exact hS.has i ((hon0 i).2 rfl)
  |step he _ ih=>exact hc _ he rfl ih⟩
 have:=filt_list (n:=n) (by omega) (fun k=>cl (Rt t k)) (step:=fun s:List Int × Int=>yS t m s.1 s.2) (fun k out hk ho=>by
  have hkm:k < m.length:=by rw [hS.len];exact hk
  have hw:=cS hk (show n < 4611686018427387904 by omega)
  have hb:m[k]=cl (Rt t k):=by
   rw [aEU (b:=m[k])]
   rw [←key k];unfold on;rw [List.getElem?_eq_getElem hkm];simp
  simp only [yS,hn,dJ hk,if_pos,cU hkm,aA,hb,yR,hw]
  split
  ·rw [dK (show out.length+1<=kP by unfold kP;omega),aA]
  ·rfl) (fun out=>by simp only [yS,hn,eZ];rfl)
 rw [this,aA]
 unfold RL
 rw [hn,Int.toNat_natCast];rfl
end Gv
namespace Gv
open Go
end Gv
