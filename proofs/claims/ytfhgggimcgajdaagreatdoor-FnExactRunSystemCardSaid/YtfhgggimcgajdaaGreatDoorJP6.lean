/- Validity of transition systems, on both sides. -/
import Derived.Test.YtfhgggimcgajdaaGreatDoorJP1
set_option linter.all false
namespace Gv
open Go
def LabsOk (xs:List bJ):Prop:=1<=xs.length/\xs.length<=12/\(∀ h:0 < xs.length,xs[0]=iT)/\∀ k,1<=k->(hk:k < xs.length)->isLab xs[k]=true/\xs[k]≠iT/\(2<=k->qF (xs[k - 1]'(by omega)) xs[k]=true)
end Gv
namespace Gv
open Go
theorem aQW {α:Type} {R:α->α->Prop} (tr:∀ {a b c},R a b->R b c->R a c) {xs:List α} (h:∀ k,1<=k->(hk:k < xs.length)->R (xs[k - 1]'(by omega)) xs[k]) {i j:Nat} (hij:i < j) (hj:j < xs.length):R (xs[i]'(by omega)) xs[j]:=by
 induction j with
 |zero=>omega
 |succ j ih=>
  have h1:=h (j+1) (by omega) hj
  simp only [Nat.add_sub_cancel] at h1
  by_cases e:i=j
  ·subst e;exact h1
  ·exact tr (ih (by omega) (by omega)) h1
theorem labs_lt {xs:List bJ} (h:LabsOk xs) {i j:Nat} (hi:1<=i) (hij:i < j) (hj:j < xs.length):qF (xs[i]'(by omega)) xs[j]=true:=by
 induction j with
 |zero=>omega
 |succ j ih=>
  have h1:=(h.2.2.2 (j+1) (by omega) hj).2.2 (by omega)
  simp only [Nat.add_sub_cancel] at h1
  by_cases e:i=j
  ·subst e;exact h1
  ·exact aHK (ih (by omega) (by omega)) h1
end Gv
namespace Gv
open Go
structure Adv (b:Bool) (G:List Bool->Prop) (m0 m:List Bool) (ag:Bool):Prop where
 good:G m
 le:m.count b<=m0.count b
 lt:ag=true->m.count b < m0.count b
 eq:ag=false->m=m0
theorem Adv.refl {b:Bool} {G:List Bool->Prop} {m:List Bool} (h:G m):Adv b G m m false:=⟨h,Nat.le_refl _,fun h=>(by cases h),fun _=>rfl⟩
section
variable  (L:List bJ)
end
section
variable  {L:List bJ} {m:List Bool}
end
end Gv
namespace Gv
open Go
end Gv
namespace Gv
open Go
end Gv
