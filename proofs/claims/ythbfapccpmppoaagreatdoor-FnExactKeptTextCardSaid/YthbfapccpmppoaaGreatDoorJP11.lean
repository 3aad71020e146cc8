/- Sorted lists; making a system out of its labels and arcs. -/
import Derived.Test.YthbfapccpmppoaaGreatDoorJP6
set_option linter.all false
namespace Gv
open Go
theorem aNl {α:Type} {R:α->α->Prop} (irr:∀ a,¬ R a a) (tr:∀ {a b c},R a b->R b c->R a c):∀ {xs ys:List α},xs.Pairwise R->ys.Pairwise R->(∀ x,x∈xs<->x∈ys)->xs=ys
 |[],[],_,_,_=>rfl
 |[],y::ys,_,_,h=>by have:=(h y).2 (by simp);simp at this
 |x::xs,[],_,_,h=>by have:=(h x).1 (by simp);simp at this
 |x::xs,y::ys,hx,hy,h=>by
  rw [List.pairwise_cons] at hx hy
  have e:x=y:=by
   rcases List.mem_cons.1 ((h x).1 (by simp)) with e|h1
   ·exact e
   ·rcases List.mem_cons.1 ((h y).2 (by simp)) with e|h2
    ·exact e.symm
    ·exact absurd (tr (hx.1 y h2) (hy.1 x h1)) (irr x)
  subst e
  rw [aNl irr tr hx.2 hy.2 fun z=>?_]
  constructor
  ·intro hz
   rcases List.mem_cons.1 ((h z).1 (by simp [hz])) with e|h1
   ·subst e;exact absurd (hx.1 z hz) (irr z)
   ·exact h1
  ·intro hz
   rcases List.mem_cons.1 ((h z).2 (by simp [hz])) with e|h1
   ·subst e;exact absurd (hy.1 z hz) (irr z)
   ·exact h1
theorem aOC {a b:aL}:labLt a b=true<->a≠b/\(a=gY\/(b≠gY/\pM a b=true)):=by
 unfold labLt
 by_cases h1:a=b
 ·simp [h1]
 ·by_cases h2:a=gY
  ·simp [h1,h2]
  ·by_cases h3:b=gY
   ·simp [h1,h2,h3]
   ·simp [h1,h2,h3]
theorem aRw {a b:Edge}:nO a b=true<->a.F < b.F\/(a.F=b.F/\(a.B < b.B\/(a.B=b.B/\a.To < b.To))):=by
 unfold nO;simp
theorem edgeLt_ne {a b:Edge} (h:nO a b=true):a≠b:=by
 intro e;subst e;rw [aRw] at h;omega
def aFm (M:List aL):Prop:=M.Pairwise (fun a b=>pM a b=true)/\gY∉M
theorem aFm.lab {M:List aL} (h:aFm M):(gY::M).Pairwise fun a b=>labLt a b=true:=by
 rw [List.pairwise_cons]
 refine ⟨fun b hb=>?_,h.1.imp_of_mem fun {a b} ha hb hab=>?_⟩
 ·rw [aOC];exact ⟨fun e=>h.2 (by rw [e];exact hb),.inl rfl⟩
 ·rw [aOC]
  exact ⟨fun e=>(by subst e;rw [yW] at hab;cases hab),.inr ⟨fun e=>h.2 (by rw [←e];exact hb),hab⟩⟩
theorem SetOk.strict {M:List aL} (h:SetOk M):aFm M:=by
 refine ⟨?_,fun ht=>(h.1 _ ht).2 rfl⟩
 rw [List.pairwise_iff_getElem]
 intro i j hi hj hij
 exact aRv (R:=fun a b=>pM a b=true) aHi (fun k h1 hk=>h.2 k h1 hk) hij hj
end Gv
