/- Between the library's contracts' words and pieces of memory. No program in sight. -/
import Derived.Test.YtokmmhfhaoanmaaGreatDoorJX
import Derived.Shelf.GgSortFunc.RowK
set_option linter.all false
namespace Gv
open Go Go.Sort
section
variable {G:mL} {K:Hp} {L:List eU} {w w':World}
theorem aD.exact {g:Hp} {hl:Laid g} (s:aD ⟨env w,w.drawn,g,hl⟩ (hp w) [] w'):∃ (q:Nat) (os:Array Obj),w'=Sort.grow (w.drewN q) os:=by
 obtain ⟨⟨he,hd⟩,_,_,_,_,hk,_⟩:=s
 simp only at he hd
 have hsz:w.heap.size<=w'.heap.size:=by
  rcases Nat.lt_or_ge w'.heap.size w.heap.size with h|h
  ·have hx:hp w w'.heap.size=some w.heap[w'.heap.size]:=by simp [hp,h]
   have:=hk _ _ hx
   simp [hp] at this
  ·exact h
 refine ⟨w'.drawn - w.drawn,w'.heap.extract w.heap.size w'.heap.size,?_⟩
 have hheap:w'.heap=w.heap++w'.heap.extract w.heap.size w'.heap.size:=by
  apply Array.ext_getElem?
  intro i
  rw [Array.getElem?_append]
  split
  ·rename_i h
   have:=hk i w.heap[i] (by simp [hp,h])
   unfold hp at this
   rw [this];simp [h]
  ·rename_i h
   rw [Array.getElem?_extract]
   have e:w.heap.size+(i - w.heap.size)=i:=by omega
   rw [e]
   by_cases h2:i < w'.heap.size
   ·rw [if_pos (by simp;omega)]
   ·rw [Array.getElem?_eq_none (by omega),if_neg (by simp;omega)]
 obtain ⟨h1,t1,d1,o1,u1⟩:=w
 obtain ⟨h2,t2,d2,o2,u2⟩:=w'
 simp only [Gv.env,Env0.mk.injEq] at he
 obtain ⟨rfl,rfl,rfl⟩:=he
 simp only [Sort.grow,World.drewN] at *
 simp only [World.mk.injEq,and_true,true_and]
 exact ⟨hheap,by omega⟩
theorem gU.grow (w:World) (n:Nat) (os:Array Obj):gU w (Sort.grow (w.drewN n) os):=⟨rfl,Nat.le_add_right _ _,fun b o e=>by
 have hb:b < w.heap.size:=(Array.getElem?_eq_some_iff.1 e).1
 unfold hp at *
 simp only [Sort.grow,World.drewN]
 rw [Array.getElem?_append_left hb];exact e⟩
theorem aD.grow (s:aD G K L w) (n:Nat) (os:Array Obj):aD G K L (Sort.grow (w.drewN n) os):=s.mono (gU.grow w n os)
theorem aD.start (w:World) {g:Hp} (hl:Laid g) (hg:g.le (hp w)):aD ⟨env w,w.drawn,g,hl⟩ (hp w) [] w:=
 ⟨⟨rfl,Nat.le_refl _⟩,fun _=>none,fun _=>.inr rfl,hg,fun _=>.inr rfl,Hp.le_refl _,fun _ _ h=>(by cases h),trivial⟩
variable {β:Type} [dY β]
theorem aD.putRow {E:TypeId} {Ke:Hp} {i b off cap m:Nat} {xs ys:List β} {os:Array Obj} {F:Array Value} (hs:aD G K L w) (hi:L[i]?=some (aJ E Ke (some ⟨b,off,none⟩) cap xs)) (hl:xs.length=ys.length) (hF:F.toList=flat ys):
  aD G K (L.set i (aJ E Ke (some ⟨b,off,none⟩) cap ys)) (Sort.grow (Sort.putRow id (Sort.ahead w m) b off F) os):=by
 obtain ⟨h1,hA,hle,hdj,ch⟩:=hs.change hi
 rw [aDF] at hA
 obtain ⟨hcap,⟨h,_⟩|⟨ad,c,e,sp,hb,hcs,hr⟩⟩:=hA
 ·cases h
 cases e
 simp only at hb hcs hr
 have hw:w.heap[b]?=some (.cells c E (0,0)):=hle _ _ hb
 have hbs:b < w.heap.size:=(Array.getElem?_eq_some_iff.1 hw).1
 have hFs:F.size=ys.length * dY.sz β:=by rw [←vF ys,←hF];simp
 have hnew:(Sort.grow (Sort.putRow id (Sort.ahead w m) b off F) os).heap[b]?=some (.cells (Sort.putCells id off F c) E (0,0)):=by
  simp only [Sort.grow,Sort.putRow,Sort.mapBlock,Sort.ahead]
  rw [Array.getElem?_append_left (by simpa using hbs),Array.getElem?_modify,if_pos rfl,hw]
  rfl
 have hxl:=vF xs
 have hlen:xs.length * dY.sz β<=cap * dY.sz β:=Nat.mul_le_mul_right _ hcap
 refine ch _ _ (Hp.one b (.cells (Sort.putCells id off F c) E (0,0))) ⟨rfl,Nat.le_add_right _ _⟩ ?_ (Hp.one_le hnew) ?_ ?_
 ·intro k o hk ho
  have hne:b≠k:=by intro e;subst e;rw [hb] at hk;cases hk
  have hks:k < w.heap.size:=(Array.getElem?_eq_some_iff.1 ho).1
  unfold hp at *
  simp only [Sort.grow,Sort.putRow,Sort.mapBlock,Sort.ahead]
  rw [Array.getElem?_append_left (by simpa using hks),Array.getElem?_modify,if_neg hne]
  exact ho
 ·intro k
  by_cases hk:k=b
  ·subst hk;right;left;rw [hb];rfl
  ·left;simp [Hp.one,hk]
 ·rw [aDF]
  refine ⟨by rw [←hl];exact hcap,.inr ⟨_,_,rfl,rfl,Hp.one_self _ _,?_,fun t v ht=>?_⟩⟩
  ·simp only [Sort.putCells,Array.size_mapIdx];exact hcs
  ·have htl:t < F.size:=by have:=(List.getElem?_eq_some_iff.1 ht).1;rw [vF] at this;omega
   have hts:off+t < c.size:=by
    have:F.size<=cap * dY.sz β:=by rw [hFs,←hl];exact hlen
    omega
   simp only [Sort.putCells,Array.getElem?_mapIdx,Array.getElem?_eq_getElem hts,Option.map_some,id]
   rw [if_pos (by omega)]
   rw [←hF,Array.getElem?_toList] at ht
   have:off+t - off=t:=by omega
   rw [this,getElem!_pos F t htl]
   rw [Array.getElem?_eq_getElem htl] at ht
   exact ht
theorem aDo {E:TypeId} {Ke:Hp} {i cap:Nat} {a:Option Addr} {xs:List β} (hs:aD G K L w) (hi:L[i]?=some (aJ E Ke a cap xs)):
  (a=none/\xs=[])\/∃ b off,a=some ⟨b,off,none⟩/\b < w.heap.size/\∀ t v,(flat xs)[t]?=some v->w.cell? ⟨b,off+t,none⟩=some v/\w.frozen? ⟨b,off+t,none⟩=false:=by
 obtain ⟨h1,hA,hle,_⟩:=hs.entry hi
 rw [aDF] at hA
 obtain ⟨_,⟨h,h',_⟩|⟨ad,c,rfl,sp,hb,hcs,hr⟩⟩:=hA
 ·exact .inl ⟨h,h'⟩
 ·obtain ⟨b,off,s⟩:=ad
  simp only at sp hb hcs hr
  subst sp
  have hw:w.heap[b]?=some (.cells c E (0,0)):=hle _ _ hb
  refine .inr ⟨b,off,rfl,(Array.getElem?_eq_some_iff.1 hw).1,fun t v ht=>⟨by simp [World.cell?,hw,hr t v ht],by simp [World.frozen?,hw]⟩⟩
end
end Gv
