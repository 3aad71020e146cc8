/- A component is explored, on both sides. -/
import Derived.Test.YtokmmhfhaoanmaaGreatDoorJP327
import Derived.Test.YtokmmhfhaoanmaaGreatDoorJP90
set_option linter.all false
namespace Gv
open Go
theorem aQl {ν:Type} {k q:aH} {v:ν}:∀ {m:List (aH × ν)},qL (vA m k v) q=if q=k then some v else qL m q
 |[]=>by simp [vA,qL]
 |(x,u)::m=>by
  have ih:=aQl (k:=k) (q:=q) (v:=v) (m:=m)
  unfold vA
  by_cases e:k=x
  ·subst e
   rw [if_pos rfl,qL,qL]
   by_cases h:q=k
   ·rw [if_pos h,if_pos h]
   ·rw [if_neg h,if_neg h,if_neg h]
  ·rw [if_neg e,qL,qL,ih]
   by_cases h:q=x
   ·subst h
    rw [if_pos rfl,if_neg (fun h=>e h.symm),if_pos rfl]
   ·rw [if_neg h,if_neg h]
def whr {β:Type} [DecidableEq β] (x:List β) (p:β):Option Nat:=x.findIdx? fun y=>decide (y=p)
section
variable {β:Type} [DecidableEq β]
theorem aUz {x:List β} {p:β} {i:Nat} (h:whr x p=some i):x[i]?=some p:=by
 unfold whr at h
 obtain ⟨h1,h2,_⟩:=List.findIdx?_eq_some_iff_getElem.1 h
 rw [List.getElem?_eq_getElem h1]
 simpa using h2
theorem aGu {x:List β} {p:β}:whr x p=none<->p∉x:=by
 unfold whr
 rw [List.findIdx?_eq_none_iff]
 constructor
 ·intro h hp
  have:=h p hp
  simp at this
 ·intro h y hy
  have:y≠p:=fun e=>h (e ▸ hy)
  simp [this]
theorem whr_app (x:List β) (p q:β):whr (x++[q]) p=match whr x p with|some i=>some i|none=>if q=p then some x.length else none:=by
 unfold whr
 rw [List.findIdx?_append]
 cases h:x.findIdx? fun y=>decide (y=p) with
 |some i=>rfl
 |none=>by_cases e:q=p<;>simp [e,List.findIdx?_cons]
def qK (x:List β) (p:β):Nat:=match whr x p with|some i=>i|none=>x.length
theorem numU_at (x:List β) (p:β):(dF x p)[qK x p]?=some p:=by
 unfold qK dF
 cases h:whr x p with
 |some i=>rw [if_pos (by rw [←Decidable.not_not (p:=p∈x),←aGu,h];simp)];exact aUz h
 |none=>rw [if_neg (aGu.1 h)];simp
end
section
variable {l:List Definition} (hD:lK l)
include hD
end
end Gv
namespace Gv
open Go
structure Inn (l:List Definition) (i:Nat) (X:List bF) (x:List GPoint) (A:List lN):Prop where
 g:∀ p∈x,PtG l p
 ar:∀ a∈A,∃ f t:Nat,a.from_=(f:Int)/\a.to_=(t:Int)/\f<=i/\t < x.length/\∃ nm vs,rN nm vs/\a.label=lab nm vs
 cur:∀ a∈A,a.from_=(i:Int)->∃ y∈X,y.B=a.label/\x[a.to_.toNat]?=some y.Next
 nd:A.Nodup
section
variable {l:List Definition} (hD:lK l)
include hD
end
structure OutI (l:List Definition) (i:Nat) (x:List GPoint) (A:List lN):Prop where
 g:∀ p∈x,PtG l p
 ar:∀ a∈A,∃ f t:Nat,a.from_=(f:Int)/\a.to_=(t:Int)/\f < i/\t < x.length/\∃ nm vs,rN nm vs/\a.label=lab nm vs
 nd:A.Nodup
 le:i<=x.length
end Gv
namespace Gv
open Go
theorem lts_arc {st ini:Int} {labels M:List aH} {arcs:List lN} (hM:pJ M) (hm:∀ s,s∈M<->s∈labels/\s≠bS) (h1:labels.length < 100000000) (h2:arcs.length < 100000000) (h3:M.length < 1000000):
  aRd st ini labels arcs=some ⟨st,ini,bS::M,gX (srt cO (arcs.map fun a=>(⟨a.from_,pos (bS::M) a.label,a.to_⟩:Edge)))⟩:=by
 unfold aRd
 rw [show ([116,97,117]:aH)=bS from rfl,dM (by simp [fG];omega),aA]
 have e1:aFM ([bS]++labels)=some (srt aAK ([bS]++labels)):=by unfold aFM;rw [if_pos (by simp [fG];omega)]
 rw [e1,aA,aTN _ (by unfold srt;rw [List.length_mergeSort];simp;omega),aA]
 rw [aRi aAK aRj aTI aNu hM.lab (fun x=>?_)]
 ·rw [lH (step:=fun s:List Edge × Int=>aIC arcs (bS::M) s.1 s.2) arcs (fun a=>(⟨a.from_,pos (bS::M) a.label,a.to_⟩:Edge)) id (fun k out x hk ho hx=>?_) (fun out=>by simp only [aIC,bE];rfl),aA]
  ·unfold aLY
   have e2:aDH (id (arcs.map fun a=>(⟨a.from_,pos (bS::M) a.label,a.to_⟩:Edge)))=some (srt cO (arcs.map fun a=>(⟨a.from_,pos (bS::M) a.label,a.to_⟩:Edge))):=by
    unfold aDH;rw [if_pos (by simp [fG];omega)];rfl
   rw [e2,aA,aQJ _ (by unfold srt;rw [List.length_mergeSort,List.length_map];omega),aA]
  ·simp only [aIC,aY hk,if_pos,hx,aA,aRf _ _ (show (bS::M).length < 4611686018427387904 by simp;omega),aV hk (show arcs.length < 4611686018427387904 by omega)]
   rw [dM (by simp [fG];omega),aA]
 ·by_cases e:x=bS
  ·subst e;simp
  ·simp [e,hm x]
theorem pos_injG {xs:List aH} {a b:aH} (ha:a∈xs) (hb:b∈xs) (h:pos xs a=pos xs b):a=b:=by
 obtain ⟨i,hi,h1,h2⟩:=xL ha
 obtain ⟨j,hj,h3,h4⟩:=xL hb
 rw [h1,h3] at h
 have:i=j:=by omega
 subst this
 rw [←h2,h4]
theorem labelsOfG {arcs:List lN} (h:arcs.length < 2000000):aBb arcs=some (arcs.map (·.label)):=aTO h
end Gv
