/- Sorted lists; making a system out of its labels and arcs. -/
import Derived.Test.YtkcggmmjnpdgnaaGreatDoorJP6
set_option linter.all false
namespace Gv
open Go
theorem aGN {α:Type} {R:α->α->Prop} (irr:∀ a,¬ R a a) (tr:∀ {a b c},R a b->R b c->R a c):∀ {xs ys:List α},xs.Pairwise R->ys.Pairwise R->(∀ x,x∈xs<->x∈ys)->xs=ys
 |[],[],_,_,_=>rfl
 |[],y::ys,_,_,h=>by have:=(h y).2 (by simp);simp at this
 |x::xs,[],_,_,h=>by have:=(h x).1 (by simp);simp at this
 |x::xs,y::ys,hx,hy,h=>by
  rw [List.pairwise_cons] at hx hy
  have e:x=y:=by
   rcases List.mem_cons.1 ((h x).1 (by simp)) with e|h1
   ·exact e
   ·rcases List.mem_cons.1 ((h y).2 (by simp)) with e|h2
    ·exact e.symm
    ·exact absurd (tr (hx.1 y h2) (hy.1 x h1)) (irr x)
  subst e
  rw [aGN irr tr hx.2 hy.2 fun z=>?_]
  constructor
  ·intro hz
   rcases List.mem_cons.1 ((h z).1 (by simp [hz])) with e|h1
   ·subst e;exact absurd (hx.1 z hz) (irr z)
   ·exact h1
  ·intro hz
   rcases List.mem_cons.1 ((h z).2 (by simp [hz])) with e|h1
   ·subst e;exact absurd (hy.1 z hz) (irr z)
   ·exact h1
theorem aIb {α:Type} [DecidableEq α]:∀ {l:List α} {x:α},x∈lW l<->x∈l
 |[],x=>by simp [lW]
 |[a],x=>by simp [lW]
 |a::b::l,x=>by
  unfold lW
  have ih:=aIb (l:=b::l) (x:=x)
  by_cases h:a=b
  ·rw [if_pos h,ih];subst h;simp
  ·rw [if_neg h,List.mem_cons,ih];simp
theorem aIK {α:Type} [DecidableEq α] {R S:α->α->Prop} (h1:∀ {a b},R a b->a≠b->S a b) (h2:∀ {a b c},S a b->R b c->S a c):∀ {l:List α},l.Pairwise R->(lW l).Pairwise S
 |[],_=>by simp [lW]
 |[a],_=>by simp [lW]
 |a::b::l,h=>by
  unfold lW
  rw [List.pairwise_cons] at h
  have ih:=aIK h1 h2 h.2
  by_cases e:a=b
  ·rw [if_pos e];exact ih
  ·rw [if_neg e,List.pairwise_cons]
   refine ⟨fun x hx=>?_,ih⟩
   have hab:=h1 (h.1 b (by simp)) e
   rcases List.mem_cons.1 (aIb.1 hx) with rfl|hx
   ·exact hab
   ·exact h2 hab ((List.pairwise_cons.1 h.2).1 x hx)
theorem aMn {a b:aY}:labLt a b=true<->a≠b/\(a=dV\/(b≠dV/\ltB a b=true)):=by
 unfold labLt
 by_cases h1:a=b
 ·simp [h1]
 ·by_cases h2:a=dV
  ·simp [h1,h2]
  ·by_cases h3:b=dV
   ·simp [h1,h2,h3]
   ·simp [h1,h2,h3]
theorem aCk {a b:Edge}:dW a b=true<->a.F < b.F\/(a.F=b.F/\(a.B < b.B\/(a.B=b.B/\a.To < b.To))):=by
 unfold dW;simp
theorem aPs {a b:Edge} (h:dW a b=true):dW b a=false:=by
 cases hx:dW b a with
 |false=>rfl
 |true=>rw [aCk] at *;omega
theorem edgeLt_ne {a b:Edge} (h:dW a b=true):a≠b:=by
 intro e;subst e;rw [aCk] at h;omega
def rD (M:List aY):Prop:=M.Pairwise (fun a b=>ltB a b=true)/\dV∉M
theorem rD.lab {M:List aY} (h:rD M):(dV::M).Pairwise fun a b=>labLt a b=true:=by
 rw [List.pairwise_cons]
 refine ⟨fun b hb=>?_,h.1.imp_of_mem fun {a b} ha hb hab=>?_⟩
 ·rw [aMn];exact ⟨fun e=>h.2 (by rw [e];exact hb),.inl rfl⟩
 ·rw [aMn]
  exact ⟨fun e=>(by subst e;rw [tX] at hab;cases hab),.inr ⟨fun e=>h.2 (by rw [←e];exact hb),hab⟩⟩
theorem SetOk.strict {M:List aY} (h:SetOk M):rD M:=by
 refine ⟨?_,fun ht=>(h.1 _ ht).2 rfl⟩
 rw [List.pairwise_iff_getElem]
 intro i j hi hj hij
 exact aLc (R:=fun a b=>ltB a b=true) aCi (fun k h1 hk=>h.2 k h1 hk) hij hj
end Gv
