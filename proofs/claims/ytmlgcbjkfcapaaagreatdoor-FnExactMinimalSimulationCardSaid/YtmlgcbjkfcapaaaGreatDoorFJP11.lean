/- Sorted lists; making a system out of its labels and arcs. -/
import Derived.Test.YtmlgcbjkfcapaaaGreatDoorFJP6
set_option linter.all false
namespace Gv
open Go
theorem aDo {α:Type} {R:α→α→Prop} (irr:∀ a,¬ R a a) (tr:∀ {a b c},R a b→R b c→R a c):∀ {xs ys:List α},xs.Pairwise R→ys.Pairwise R→(∀ x,x∈xs↔x∈ys)→xs=ys
 |[],[],_,_,_=>rfl
 |[],y::ys,_,_,h=>by have:=(h y).2 (by simp);simp at this
 |x::xs,[],_,_,h=>by have:=(h x).1 (by simp);simp at this
 |x::xs,y::ys,hx,hy,h=>by
  rw [List.pairwise_cons] at hx hy
  have e:x=y:=by
   rcases List.mem_cons.1 ((h x).1 (by simp)) with e|h1
   ·exact e
   ·rcases List.mem_cons.1 ((h y).2 (by simp)) with e|h2
    ·exact e.symm
    ·exact absurd (tr (hx.1 y h2) (hy.1 x h1)) (irr x)
  subst e
  rw [aDo irr tr hx.2 hy.2 fun z=>?_]
  constructor
  ·intro hz
   rcases List.mem_cons.1 ((h z).1 (by simp [hz])) with e|h1
   ·subst e;exact absurd (hx.1 z hz) (irr z)
   ·exact h1
  ·intro hz
   rcases List.mem_cons.1 ((h z).2 (by simp [hz])) with e|h1
   ·subst e;exact absurd (hy.1 z hz) (irr z)
   ·exact h1
theorem aCz {α:Type} [DecidableEq α]:∀ {l:List α} {x:α},x∈jT l↔x∈l
 |[],x=>by simp [jT]
 |[a],x=>by simp [jT]
 |a::b::l,x=>by
  unfold jT
  have ih:=aCz (l:=b::l) (x:=x)
  by_cases h:a=b
  ·rw [if_pos h,ih];subst h;simp
  ·rw [if_neg h,List.mem_cons,ih];simp
theorem aDp {α:Type} [DecidableEq α] {R S:α→α→Prop} (h1:∀ {a b},R a b→a≠b→S a b) (h2:∀ {a b c},S a b→R b c→S a c):∀ {l:List α},l.Pairwise R→(jT l).Pairwise S
 |[],_=>by simp [jT]
 |[a],_=>by simp [jT]
 |a::b::l,h=>by
  unfold jT
  rw [List.pairwise_cons] at h
  have ih:=aDp h1 h2 h.2
  by_cases e:a=b
  ·rw [if_pos e];exact ih
  ·rw [if_neg e,List.pairwise_cons]
   refine ⟨fun x hx=>?_,ih⟩
   have hab:=h1 (h.1 b (by simp)) e
   rcases List.mem_cons.1 (aCz.1 hx) with rfl|hx
   ·exact hab
   ·exact h2 hab ((List.pairwise_cons.1 h.2).1 x hx)
theorem srt_self {α:Type} (lt:α→α→Bool) (asy:∀ {a b},lt a b=true→lt b a=false) {xs:List α} (h:xs.Pairwise fun a b=>lt a b=true):srt lt xs=xs:=by
 unfold srt
 exact List.mergeSort_of_pairwise (h.imp fun h=>by simp [asy h])
theorem labLt_irr (a:bH):zX a a=false:=by unfold zX;simp
theorem aBm {a b:bH}:zX a b=true↔a≠b∧(a=jK∨(b≠jK∧xY a b=true)):=by
 unfold zX
 by_cases h1:a=b
 ·simp [h1]
 ·by_cases h2:a=jK
  ·simp [h1,h2]
  ·by_cases h3:b=jK
   ·simp [h1,h2,h3]
   ·simp [h1,h2,h3]
theorem labLt_tr {a b c:bH} (h1:zX a b=true) (h2:zX b c=true):zX a c=true:=by
 rw [aBm] at *
 obtain ⟨n1,h1⟩:=h1
 obtain ⟨n2,h2⟩:=h2
 rcases h1 with h1|⟨m1,h1⟩
 ·subst h1
  rcases h2 with h2|⟨m2,h2⟩
  ·exact absurd h2.symm n1
  ·exact ⟨fun e=>m2 e.symm,.inl rfl⟩
 ·rcases h2 with h2|⟨m2,h2⟩
  ·exact absurd h2 m1
  ·have:=aBl h1 h2
   exact ⟨fun e=>(by subst e;rw [wA] at this;cases this),.inr ⟨m2,this⟩⟩
theorem aHq (a b:bH):zX a b=true∨a=b∨zX b a=true:=by
 by_cases h:a=b
 ·exact .inr (.inl h)
 ·by_cases h1:a=jK
  ·left;rw [aBm];exact ⟨h,.inl h1⟩
  ·by_cases h2:b=jK
   ·right;right;rw [aBm];exact ⟨fun e=>h e.symm,.inl h2⟩
   ·rcases aIc a b with h3|h3|h3
    ·left;rw [aBm];exact ⟨h,.inr ⟨h2,h3⟩⟩
    ·exact absurd h3 h
    ·right;right;rw [aBm];exact ⟨fun e=>h e.symm,.inr ⟨h1,h3⟩⟩
theorem oS {a b:Edge}:cY a b=true↔a.F < b.F∨(a.F=b.F∧(a.B < b.B∨(a.B=b.B∧a.To < b.To))):=by
 unfold cY;simp
theorem aGp {a b:Edge} (h:cY a b=true):cY b a=false:=by
 cases hx:cY b a with
 |false=>rfl
 |true=>rw [oS] at *;omega
theorem aHr {a b:Edge} (h:cY a b=true):a≠b:=by
 intro e;subst e;rw [oS] at h;omega
def aIe (M:List bH):Prop:=M.Pairwise (fun a b=>xY a b=true)∧jK∉M
theorem SetOk.strict {M:List bH} (h:SetOk M):aIe M:=by
 refine ⟨?_,fun ht=>(h.1 _ ht).2 rfl⟩
 rw [List.pairwise_iff_getElem]
 intro i j hi hj hij
 exact aGm (R:=fun a b=>xY a b=true) aBl (fun k h1 hk=>h.2 k h1 hk) hij hj
end Gv
