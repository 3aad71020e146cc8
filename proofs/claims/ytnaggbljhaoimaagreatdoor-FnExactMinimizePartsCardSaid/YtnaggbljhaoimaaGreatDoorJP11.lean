/- Sorted lists; making a system out of its labels and arcs. -/
import Derived.Test.YtnaggbljhaoimaaGreatDoorJP6
set_option linter.all false
namespace Gv
open Go
theorem aBG {α:Type} {R:α->α->Prop} (irr:∀ a,¬ R a a) (tr:∀ {a b c},R a b->R b c->R a c):∀ {xs ys:List α},xs.Pairwise R->ys.Pairwise R->(∀ x,x∈xs<->x∈ys)->xs=ys
 |[],[],_,_,_=>rfl
 |[],y::ys,_,_,h=>by have:=(h y).2 (by simp);simp at this
 |x::xs,[],_,_,h=>by have:=(h x).1 (by simp);simp at this
 |x::xs,y::ys,hx,hy,h=>by
  rw [List.pairwise_cons] at hx hy
  have e:x=y:=by
   rcases List.mem_cons.1 ((h x).1 (by simp)) with e|h1
   ·exact e
   ·rcases List.mem_cons.1 ((h y).2 (by simp)) with e|h2
    ·exact e.symm
    ·exact absurd (tr (hx.1 y h2) (hy.1 x h1)) (irr x)
  subst e
  rw [aBG irr tr hx.2 hy.2 fun z=>?_]
  constructor
  ·intro hz
   rcases List.mem_cons.1 ((h z).1 (by simp [hz])) with e|h1
   ·subst e;exact absurd (hx.1 z hz) (irr z)
   ·exact h1
  ·intro hz
   rcases List.mem_cons.1 ((h z).2 (by simp [hz])) with e|h1
   ·subst e;exact absurd (hy.1 z hz) (irr z)
   ·exact h1
theorem aFc {α:Type} [DecidableEq α]:∀ {l:List α} {x:α},x∈eW l<->x∈l
 |[],x=>by simp [eW]
 |[a],x=>by simp [eW]
 |a::b::l,x=>by
  unfold eW
  have ih:=aFc (l:=b::l) (x:=x)
  by_cases h:a=b
  ·rw [if_pos h,ih];subst h;simp
  ·rw [if_neg h,List.mem_cons,ih];simp
theorem aFY {α:Type} [DecidableEq α] {R S:α->α->Prop} (h1:∀ {a b},R a b->a≠b->S a b) (h2:∀ {a b c},S a b->R b c->S a c):∀ {l:List α},l.Pairwise R->(eW l).Pairwise S
 |[],_=>by simp [eW]
 |[a],_=>by simp [eW]
 |a::b::l,h=>by
  unfold eW
  rw [List.pairwise_cons] at h
  have ih:=aFY h1 h2 h.2
  by_cases e:a=b
  ·rw [if_pos e];exact ih
  ·rw [if_neg e,List.pairwise_cons]
   refine ⟨fun x hx=>?_,ih⟩
   have hab:=h1 (h.1 b (by simp)) e
   rcases List.mem_cons.1 (aFc.1 hx) with rfl|hx
   ·exact hab
   ·exact h2 hab ((List.pairwise_cons.1 h.2).1 x hx)
theorem srt_self {α:Type} (lt:α->α->Bool) (asy:∀ {a b},lt a b=true->lt b a=false) {xs:List α} (h:xs.Pairwise fun a b=>lt a b=true):yE lt xs=xs:=by
 unfold yE
 exact List.mergeSort_of_pairwise (h.imp fun h=>by simp [asy h])
theorem aKL {a b:aV}:labLt a b=true<->a≠b/\(a=dN\/(b≠dN/\mZ a b=true)):=by
 unfold labLt
 by_cases h1:a=b
 ·simp [h1]
 ·by_cases h2:a=dN
  ·simp [h1,h2]
  ·by_cases h3:b=dN
   ·simp [h1,h2,h3]
   ·simp [h1,h2,h3]
theorem pD {a b:Edge}:bQ a b=true<->a.F < b.F\/(a.F=b.F/\(a.B < b.B\/(a.B=b.B/\a.To < b.To))):=by
 unfold bQ;simp
theorem aJt {a b:Edge} (h:bQ a b=true):bQ b a=false:=by
 cases hx:bQ b a with
 |false=>rfl
 |true=>rw [pD] at *;omega
theorem aKM {a b:Edge} (h:bQ a b=true):a≠b:=by
 intro e;subst e;rw [pD] at h;omega
def nT (M:List aV):Prop:=M.Pairwise (fun a b=>mZ a b=true)/\dN∉M
theorem nT.lab {M:List aV} (h:nT M):(dN::M).Pairwise fun a b=>labLt a b=true:=by
 rw [List.pairwise_cons]
 refine ⟨fun b hb=>?_,h.1.imp_of_mem fun {a b} ha hb hab=>?_⟩
 ·rw [aKL];exact ⟨fun e=>h.2 (by rw [e];exact hb),.inl rfl⟩
 ·rw [aKL]
  exact ⟨fun e=>(by subst e;rw [rV] at hab;cases hab),.inr ⟨fun e=>h.2 (by rw [←e];exact hb),hab⟩⟩
theorem SetOk.strict {M:List aV} (h:SetOk M):nT M:=by
 refine ⟨?_,fun ht=>(h.1 _ ht).2 rfl⟩
 rw [List.pairwise_iff_getElem]
 intro i j hi hj hij
 exact aJs (R:=fun a b=>mZ a b=true) xJ (fun k h1 hk=>h.2 k h1 hk) hij hj
end Gv
