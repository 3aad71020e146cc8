/- Sorted lists; making a system out of its labels and arcs. -/
import Derived.Test.YtfneiajlaacfoaaGreatDoorJP6
set_option linter.all false
namespace Gv
open Go
theorem aEc {α:Type} {R:α->α->Prop} (irr:∀ a,¬ R a a) (tr:∀ {a b c},R a b->R b c->R a c):∀ {xs ys:List α},xs.Pairwise R->ys.Pairwise R->(∀ x,x∈xs<->x∈ys)->xs=ys
 |[],[],_,_,_=>rfl
 |[],y::ys,_,_,h=>by have:=(h y).2 (by simp);simp at this
 |x::xs,[],_,_,h=>by have:=(h x).1 (by simp);simp at this
 |x::xs,y::ys,hx,hy,h=>by
  rw [List.pairwise_cons] at hx hy
  have e:x=y:=by
   rcases List.mem_cons.1 ((h x).1 (by simp)) with e|h1
   ·exact e
   ·rcases List.mem_cons.1 ((h y).2 (by simp)) with e|h2
    ·exact e.symm
    ·exact absurd (tr (hx.1 y h2) (hy.1 x h1)) (irr x)
  subst e
  rw [aEc irr tr hx.2 hy.2 fun z=>?_]
  constructor
  ·intro hz
   rcases List.mem_cons.1 ((h z).1 (by simp [hz])) with e|h1
   ·subst e;exact absurd (hx.1 z hz) (irr z)
   ·exact h1
  ·intro hz
   rcases List.mem_cons.1 ((h z).2 (by simp [hz])) with e|h1
   ·subst e;exact absurd (hy.1 z hz) (irr z)
   ·exact h1
theorem aFA {α:Type} [DecidableEq α]:∀ {l:List α} {x:α},x∈iQ l<->x∈l
 |[],x=>by simp [iQ]
 |[a],x=>by simp [iQ]
 |a::b::l,x=>by
  unfold iQ
  have ih:=aFA (l:=b::l) (x:=x)
  by_cases h:a=b
  ·rw [if_pos h,ih];subst h;simp
  ·rw [if_neg h,List.mem_cons,ih];simp
theorem aGr {α:Type} [DecidableEq α] {R S:α->α->Prop} (h1:∀ {a b},R a b->a≠b->S a b) (h2:∀ {a b c},S a b->R b c->S a c):∀ {l:List α},l.Pairwise R->(iQ l).Pairwise S
 |[],_=>by simp [iQ]
 |[a],_=>by simp [iQ]
 |a::b::l,h=>by
  unfold iQ
  rw [List.pairwise_cons] at h
  have ih:=aGr h1 h2 h.2
  by_cases e:a=b
  ·rw [if_pos e];exact ih
  ·rw [if_neg e,List.pairwise_cons]
   refine ⟨fun x hx=>?_,ih⟩
   have hab:=h1 (h.1 b (by simp)) e
   rcases List.mem_cons.1 (aFA.1 hx) with rfl|hx
   ·exact hab
   ·exact h2 hab ((List.pairwise_cons.1 h.2).1 x hx)
theorem aKJ {a b:aF}:labLt a b=true<->a≠b/\(a=dR\/(b≠dR/\yD a b=true)):=by
 unfold labLt
 by_cases h1:a=b
 ·simp [h1]
 ·by_cases h2:a=dR
  ·simp [h1,h2]
  ·by_cases h3:b=dR
   ·simp [h1,h2,h3]
   ·simp [h1,h2,h3]
theorem aBY {a b:Edge}:cU a b=true<->a.F < b.F\/(a.F=b.F/\(a.B < b.B\/(a.B=b.B/\a.To < b.To))):=by
 unfold cU;simp
theorem aNI {a b:Edge} (h:cU a b=true):cU b a=false:=by
 cases hx:cU b a with
 |false=>rfl
 |true=>rw [aBY] at *;omega
theorem edgeLt_ne {a b:Edge} (h:cU a b=true):a≠b:=by
 intro e;subst e;rw [aBY] at h;omega
def qR (M:List aF):Prop:=M.Pairwise (fun a b=>yD a b=true)/\dR∉M
theorem qR.lab {M:List aF} (h:qR M):(dR::M).Pairwise fun a b=>labLt a b=true:=by
 rw [List.pairwise_cons]
 refine ⟨fun b hb=>?_,h.1.imp_of_mem fun {a b} ha hb hab=>?_⟩
 ·rw [aKJ];exact ⟨fun e=>h.2 (by rw [e];exact hb),.inl rfl⟩
 ·rw [aKJ]
  exact ⟨fun e=>(by subst e;rw [vR] at hab;cases hab),.inr ⟨fun e=>h.2 (by rw [←e];exact hb),hab⟩⟩
theorem SetOk.strict {M:List aF} (h:SetOk M):qR M:=by
 refine ⟨?_,fun ht=>(h.1 _ ht).2 rfl⟩
 rw [List.pairwise_iff_getElem]
 intro i j hi hj hij
 exact aNH (R:=fun a b=>yD a b=true) yP (fun k h1 hk=>h.2 k h1 hk) hij hj
end Gv
