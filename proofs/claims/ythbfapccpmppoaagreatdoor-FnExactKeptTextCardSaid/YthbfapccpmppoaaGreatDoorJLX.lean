/- Between the library's contracts' words and pieces of memory. No program in sight. -/
import Derived.Test.YthbfapccpmppoaaGreatDoorJX
import Derived.Shelf.GgSortFunc.RowK
set_option linter.all false
namespace Gv
open Go Go.Sort
section
variable {G:kH} {K:Hp} {L:List eW} {w w':World}
theorem aF.exact {g:Hp} {hl:Laid g} (s:aF ⟨env w,w.drawn,g,hl⟩ (hp w) [] w'):∃ (q:Nat) (os:Array Obj),w'=Sort.grow (w.drewN q) os:=by
 obtain ⟨⟨he,hd⟩,_,_,_,_,hk,_⟩:=s
 simp only at he hd
 have hsz:w.heap.size<=w'.heap.size:=by
  rcases Nat.lt_or_ge w'.heap.size w.heap.size with h|h
  ·have hx:hp w w'.heap.size=some w.heap[w'.heap.size]:=by simp [hp,h]
   have:=hk _ _ hx
   simp [hp] at this
  ·exact h
 refine ⟨w'.drawn - w.drawn,w'.heap.extract w.heap.size w'.heap.size,?_⟩
 have hheap:w'.heap=w.heap++w'.heap.extract w.heap.size w'.heap.size:=by
  apply Array.ext_getElem?
  intro i
  rw [Array.getElem?_append]
  split
  ·rename_i h
   have:=hk i w.heap[i] (by simp [hp,h])
   unfold hp at this
   rw [this];simp [h]
  ·rename_i h
   rw [Array.getElem?_extract]
   have e:w.heap.size+(i - w.heap.size)=i:=by omega
   rw [e]
   by_cases h2:i < w'.heap.size
   ·rw [if_pos (by simp;omega)]
   ·rw [Array.getElem?_eq_none (by omega),if_neg (by simp;omega)]
 obtain ⟨h1,t1,d1,o1,u1⟩:=w
 obtain ⟨h2,t2,d2,o2,u2⟩:=w'
 simp only [Gv.env,Env0.mk.injEq] at he
 obtain ⟨rfl,rfl,rfl⟩:=he
 simp only [Sort.grow,World.drewN] at *
 simp only [World.mk.injEq,and_true,true_and]
 exact ⟨hheap,by omega⟩
theorem eI.grow (w:World) (n:Nat) (os:Array Obj):eI w (Sort.grow (w.drewN n) os):=⟨rfl,Nat.le_add_right _ _,fun b o e=>by
 have hb:b < w.heap.size:=(Array.getElem?_eq_some_iff.1 e).1
 unfold hp at *
 simp only [Sort.grow,World.drewN]
 rw [Array.getElem?_append_left hb];exact e⟩
theorem aF.grow (s:aF G K L w) (n:Nat) (os:Array Obj):aF G K L (Sort.grow (w.drewN n) os):=s.mono (eI.grow w n os)
variable {β:Type} [iQ β]
end
end Gv
