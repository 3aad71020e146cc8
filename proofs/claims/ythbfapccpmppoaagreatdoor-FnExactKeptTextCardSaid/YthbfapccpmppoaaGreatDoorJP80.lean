/- Greatest simulations by rounds. No program in sight. -/
import Derived.Test.YthbfapccpmppoaaGreatDoorJP62
set_option linter.all false
namespace Gv
open Go
def inT (t:gM) (s:Int):Prop:=0<=s/\s < t.N
def sR (t:gM) (S:Int->Int->Bool) (x y:Int):Bool:=S x y&&t.E.all fun e=>!(e.F == x)||t.E.any fun f=>f.F == y&&f.B == e.B&&S e.To f.To
def sN (t:gM):Nat->Int->Int->Bool
 |0=>fun _ _=>true
 |n+1=>sR t (sN t n)
section
variable {t:gM}
theorem sR_true {S:Int->Int->Bool} {x y:Int}:sR t S x y=true<->S x y=true/\∀ e∈t.E,e.F=x->∃ f∈t.E,f.F=y/\f.B=e.B/\S e.To f.To=true:=by
 unfold sR
 rw [Bool.and_eq_true,List.all_eq_true]
 refine and_congr Iff.rfl ⟨fun h e he hx=>?_,fun h e he=>?_⟩
 ·have:=h e he
  rw [hx] at this
  simp only [beq_self_eq_true,Bool.not_true,Bool.false_or,List.any_eq_true,Bool.and_eq_true,beq_iff_eq] at this
  obtain ⟨f,hf,⟨h1,h2⟩,h3⟩:=this
  exact ⟨f,hf,h1,h2,h3⟩
 ·by_cases hx:e.F=x
  ·obtain ⟨f,hf,h1,h2,h3⟩:=h e he hx
   rw [Bool.or_eq_true,List.any_eq_true]
   right
   exact ⟨f,hf,by simp [h1,h2,h3]⟩
  ·simp [hx]
theorem sN_le {n:Nat} {x y:Int} (h:sN t (n+1) x y=true):sN t n x y=true:=(sR_true.1 h).1
def prs (t:gM):List (Int × Int):=(List.range t.N.toNat).flatMap fun x:Nat=>(List.range t.N.toNat).map fun y:Nat=>((x:Int),(y:Int))
theorem prs_mem {p:Int × Int}:p∈prs t<->inT t p.1/\inT t p.2:=by
 obtain ⟨a,b⟩:=p
 unfold prs inT
 simp only [List.mem_flatMap,List.mem_map,List.mem_range,Prod.mk.injEq]
 constructor
 ·rintro ⟨x,hx,y,hy,rfl,rfl⟩
  omega
 ·rintro ⟨⟨h1,h2⟩,h3,h4⟩
  exact ⟨a.toNat,by omega,b.toNat,by omega,by omega,by omega⟩
def lft (t:gM) (n:Nat):List (Int × Int):=(prs t).filter fun p=>sN t n p.1 p.2
def stab (t:gM) (n:Nat):Prop:=∀ x y:Int,inT t x->inT t y->sN t (n+1) x y=sN t n x y
theorem lft_mem {n:Nat} {p:Int × Int}:p∈lft t n<->(inT t p.1/\inT t p.2)/\sN t n p.1 p.2=true:=by
 unfold lft
 rw [List.mem_filter,prs_mem]
theorem aQt (n:Nat):lft t (n+1)=(lft t n).filter fun p=>sN t (n+1) p.1 p.2:=by
 unfold lft
 rw [List.filter_filter]
 refine List.filter_congr fun p _=>?_
 cases h:sN t (n+1) p.1 p.2 with
 |false=>rfl
 |true=>rw [sN_le h];rfl
theorem lft_le (n:Nat):(lft t (n+1)).length<=(lft t n).length:=by rw [aQt];exact List.length_filter_le _ _
theorem stab_iff (n:Nat):stab t n<->(lft t (n+1)).length=(lft t n).length:=by
 rw [aQt,List.length_filter_eq_length_iff]
 constructor
 ·intro h p hp
  have:=lft_mem.1 hp
  rw [h _ _ this.1.1 this.1.2];exact this.2
 ·intro h x y hx hy
  cases h1:sN t n x y with
  |true=>exact h (x,y) (lft_mem.2 ⟨⟨hx,hy⟩,h1⟩)
  |false=>
   cases h2:sN t (n+1) x y with
   |false=>rfl
   |true=>rw [sN_le h2] at h1;cases h1
theorem stab_ex:∃ n,stab t n:=by
 refine Classical.byContradiction fun h=>?_
 have h':∀ n,¬ stab t n:=fun n hn=>h ⟨n,hn⟩
 have key:∀ n,(lft t n).length+n<=(lft t 0).length:=by
  intro n
  induction n with
  |zero=>simp
  |succ n ih=>
   have h1:=lft_le (t:=t) n
   have h2:=h' n
   rw [stab_iff] at h2
   omega
 have:=key ((lft t 0).length+1)
 omega
theorem stab_min:∃ n,stab t n/\∀ m,m < n->¬ stab t m:=by
 obtain ⟨n,hn⟩:=stab_ex (t:=t)
 induction n using Nat.strongRecOn with
 |ind n ih=>
  by_cases h:∃ m,m < n/\stab t m
  ·obtain ⟨m,hm,hs⟩:=h
   exact ih m hm hs
  ·exact ⟨n,hn,fun m hm hs=>h ⟨m,hm,hs⟩⟩
noncomputable def fin (t:gM):Nat:=Classical.choose (stab_min (t:=t))
noncomputable def gs (t:gM) (x y:Int):Bool:=sN t (fin t) x y
noncomputable def eqv (t:gM) (x y:Int):Bool:=gs t x y&&gs t y x
noncomputable def fst (t:gM) (k:Nat):Nat:=((List.range k).find? fun j:Nat=>eqv t (k:Int) (j:Int)).getD k
end
end Gv
namespace Gv
open Go
def bk (p:List Int) (s:Int):Int:=p.getD s.toNat 0
end Gv
namespace Gv
open Go
section
variable {t:gM}
theorem edge_T (hv:iP t) {e:Edge} (he:e∈t.E):inT t e.F/\inT t e.To/\0<=e.B/\e.B < t.L.length:=by
 have:=aPr hv he
 unfold aDJ at this
 unfold inT;omega
end
end Gv
namespace Gv
open Go
end Gv
