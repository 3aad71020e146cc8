/- Sorted lists; making a system out of its labels and arcs. -/
import Derived.Test.YtokmmhfhaoanmaaGreatDoorJP6
set_option linter.all false
namespace Gv
open Go
theorem aEv {α:Type} {R:α->α->Prop} (irr:∀ a,¬ R a a) (tr:∀ {a b c},R a b->R b c->R a c):∀ {xs ys:List α},xs.Pairwise R->ys.Pairwise R->(∀ x,x∈xs<->x∈ys)->xs=ys
 |[],[],_,_,_=>rfl
 |[],y::ys,_,_,h=>by have:=(h y).2 (by simp);simp at this
 |x::xs,[],_,_,h=>by have:=(h x).1 (by simp);simp at this
 |x::xs,y::ys,hx,hy,h=>by
  rw [List.pairwise_cons] at hx hy
  have e:x=y:=by
   rcases List.mem_cons.1 ((h x).1 (by simp)) with e|h1
   ·exact e
   ·rcases List.mem_cons.1 ((h y).2 (by simp)) with e|h2
    ·exact e.symm
    ·exact absurd (tr (hx.1 y h2) (hy.1 x h1)) (irr x)
  subst e
  rw [aEv irr tr hx.2 hy.2 fun z=>?_]
  constructor
  ·intro hz
   rcases List.mem_cons.1 ((h z).1 (by simp [hz])) with e|h1
   ·subst e;exact absurd (hx.1 z hz) (irr z)
   ·exact h1
  ·intro hz
   rcases List.mem_cons.1 ((h z).2 (by simp [hz])) with e|h1
   ·subst e;exact absurd (hy.1 z hz) (irr z)
   ·exact h1
theorem aJL {α:Type} [DecidableEq α]:∀ {l:List α} {x:α},x∈gX l<->x∈l
 |[],x=>by simp [gX]
 |[a],x=>by simp [gX]
 |a::b::l,x=>by
  unfold gX
  have ih:=aJL (l:=b::l) (x:=x)
  by_cases h:a=b
  ·rw [if_pos h,ih];subst h;simp
  ·rw [if_neg h,List.mem_cons,ih];simp
theorem aLd {α:Type} [DecidableEq α] {R S:α->α->Prop} (h1:∀ {a b},R a b->a≠b->S a b) (h2:∀ {a b c},S a b->R b c->S a c):∀ {l:List α},l.Pairwise R->(gX l).Pairwise S
 |[],_=>by simp [gX]
 |[a],_=>by simp [gX]
 |a::b::l,h=>by
  unfold gX
  rw [List.pairwise_cons] at h
  have ih:=aLd h1 h2 h.2
  by_cases e:a=b
  ·rw [if_pos e];exact ih
  ·rw [if_neg e,List.pairwise_cons]
   refine ⟨fun x hx=>?_,ih⟩
   have hab:=h1 (h.1 b (by simp)) e
   rcases List.mem_cons.1 (aJL.1 hx) with rfl|hx
   ·exact hab
   ·exact h2 hab ((List.pairwise_cons.1 h.2).1 x hx)
theorem aRi {α:Type} [DecidableEq α] (lt:α->α->Bool) (irr:∀ a,lt a a=false) (tr:∀ {a b c},lt a b=true->lt b c=true->lt a c=true) (tri:∀ a b,lt a b=true\/a=b\/lt b a=true)
  {xs M:List α} (hM:M.Pairwise fun a b=>lt a b=true) (hm:∀ x,x∈xs<->x∈M):gX (srt lt xs)=M:=by
 have asy:∀ {a b},lt a b=true->lt b a=false:=fun {a b} h=>by
  cases hx:lt b a with
  |false=>rfl
  |true=>have:=tr h hx;rw [irr] at this;cases this
 have hle:∀ {a b},(!lt b a)=true->a=b\/lt a b=true:=fun {a b} h=>by
  rcases tri a b with h1|h1|h1
  ·exact .inr h1
  ·exact .inl h1
  ·rw [h1] at h;cases h
 have hp:(srt lt xs).Pairwise fun a b=>(!lt b a)=true:=by
  refine List.pairwise_mergeSort (le:=fun a b=>!lt b a) ?_ ?_ xs
  ·intro a b c h1 h2
   rcases hle h1 with rfl|h1
   ·exact h2
   ·rcases hle h2 with rfl|h2
    ·simp [asy h1]
    ·simp [asy (tr h1 h2)]
  ·intro a b
   rcases tri a b with h1|h1|h1
   ·simp [asy h1]
   ·subst h1;simp [irr]
   ·simp [asy h1]
 refine aEv (R:=fun a b=>lt a b=true) (fun a h=>by rw [irr] at h;cases h) tr ?_ hM fun x=>?_
 ·refine aLd (R:=fun a b=>(!lt b a)=true) (fun h hne=>?_) (fun h h'=>?_) hp
  ·rcases hle h with e|h
   ·exact absurd e hne
   ·exact h
  ·rcases hle h' with rfl|h'
   ·exact h
   ·exact tr h h'
 ·rw [aJL];unfold srt;rw [List.mem_mergeSort];exact hm x
theorem aRj (a:aH):aAK a a=false:=by unfold aAK;simp
theorem aBk {a b:aH}:aAK a b=true<->a≠b/\(a=bS\/(b≠bS/\mW a b=true)):=by
 unfold aAK
 by_cases h1:a=b
 ·simp [h1]
 ·by_cases h2:a=bS
  ·simp [h1,h2]
  ·by_cases h3:b=bS
   ·simp [h1,h2,h3]
   ·simp [h1,h2,h3]
theorem aTI {a b c:aH} (h1:aAK a b=true) (h2:aAK b c=true):aAK a c=true:=by
 rw [aBk] at *
 obtain ⟨n1,h1⟩:=h1
 obtain ⟨n2,h2⟩:=h2
 rcases h1 with h1|⟨m1,h1⟩
 ·subst h1
  rcases h2 with h2|⟨m2,h2⟩
  ·exact absurd h2.symm n1
  ·exact ⟨fun e=>m2 e.symm,.inl rfl⟩
 ·rcases h2 with h2|⟨m2,h2⟩
  ·exact absurd h2 m1
  ·have:=yQ h1 h2
   exact ⟨fun e=>(by subst e;rw [rM] at this;cases this),.inr ⟨m2,this⟩⟩
theorem aNu (a b:aH):aAK a b=true\/a=b\/aAK b a=true:=by
 by_cases h:a=b
 ·exact .inr (.inl h)
 ·by_cases h1:a=bS
  ·left;rw [aBk];exact ⟨h,.inl h1⟩
  ·by_cases h2:b=bS
   ·right;right;rw [aBk];exact ⟨fun e=>h e.symm,.inl h2⟩
   ·rcases aMu a b with h3|h3|h3
    ·left;rw [aBk];exact ⟨h,.inr ⟨h2,h3⟩⟩
    ·exact absurd h3 h
    ·right;right;rw [aBk];exact ⟨fun e=>h e.symm,.inr ⟨h1,h3⟩⟩
theorem uB {a b:Edge}:cO a b=true<->a.F < b.F\/(a.F=b.F/\(a.B < b.B\/(a.B=b.B/\a.To < b.To))):=by
 unfold cO;simp
theorem aVt {a b:Edge} (h:cO a b=true):cO b a=false:=by
 cases hx:cO b a with
 |false=>rfl
 |true=>rw [uB] at *;omega
theorem aRk {a b:Edge} (h:cO a b=true):a≠b:=by
 intro e;subst e;rw [uB] at h;omega
def pJ (M:List aH):Prop:=M.Pairwise (fun a b=>mW a b=true)/\bS∉M
theorem pJ.lab {M:List aH} (h:pJ M):(bS::M).Pairwise fun a b=>aAK a b=true:=by
 rw [List.pairwise_cons]
 refine ⟨fun b hb=>?_,h.1.imp_of_mem fun {a b} ha hb hab=>?_⟩
 ·rw [aBk];exact ⟨fun e=>h.2 (by rw [e];exact hb),.inl rfl⟩
 ·rw [aBk]
  exact ⟨fun e=>(by subst e;rw [rM] at hab;cases hab),.inr ⟨fun e=>h.2 (by rw [←e];exact hb),hab⟩⟩
theorem SetOk.strict {M:List aH} (h:SetOk M):pJ M:=by
 refine ⟨?_,fun ht=>(h.1 _ ht).2 rfl⟩
 rw [List.pairwise_iff_getElem]
 intro i j hi hj hij
 exact aVs (R:=fun a b=>mW a b=true) yQ (fun k h1 hk=>h.2 k h1 hk) hij hj
end Gv
