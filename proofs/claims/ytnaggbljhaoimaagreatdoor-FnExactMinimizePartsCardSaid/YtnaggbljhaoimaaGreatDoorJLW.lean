/- Contracts of functions of Go's library, said of heaps of pieces. -/
import Derived.Test.YtnaggbljhaoimaaGreatDoorJWk0
import Derived.Test.YtnaggbljhaoimaaGreatDoorJP11
set_option linter.all false
namespace Gv
open Go Go.Proofs Go.RowKit Go.Sort
section
variable {G:vF} {K:Hp} {L:List gC} {w:World}
def cmpE (a b:Edge):Int:=or3 (aIh a.F b.F) (aIh a.B b.B) (aIh a.To b.To)
theorem aLG (a b:Edge):ltOf cmpE a b=bQ a b:=by
 unfold ltOf cmpE
 have:=cmpE_ge a b
 cases hx:bQ a b with
 |true=>rw [hx] at this;simp at this;simpa using this
 |false=>rw [hx] at this;simp at this;simpa using this
theorem aJu (a b:Edge):bQ a b=true\/a=b\/bQ b a=true:=by
 rw [pD,pD]
 obtain ⟨a1,a2,a3⟩:=a
 obtain ⟨b1,b2,b3⟩:=b
 simp only [Edge.mk.injEq]
 omega
theorem edgeLt_tr {a b c:Edge} (h1:bQ a b=true) (h2:bQ b c=true):bQ a c=true:=by
 rw [pD] at *;omega
theorem swo_of {α:Type} {lt lt':α->α->Bool} (he:∀ a b,lt' a b=lt a b) (irr:∀ a,lt a a=false) (tr:∀ {a b c},lt a b=true->lt b c=true->lt a c=true) (tri:∀ a b,lt a b=true\/a=b\/lt b a=true):Sort.SWO lt':=by
 obtain rfl:lt'=lt:=by funext a b;exact he a b
 refine ⟨irr,fun x y z=>tr,fun x y z h1 h2=>?_⟩
 rcases tri x y with h|h|h
 ·rw [h] at h1;cases h1
 ·subst h;exact h2
 ·rcases tri y z with g|g|g
  ·rw [g] at h2;cases h2
  ·subst g;exact h1
  ·cases hx:lt' x z with
   |false=>rfl
   |true=>
    have:=tr (tr g h) hx
    rw [irr] at this;cases this
theorem total_of {α:Type} {lt lt':α->α->Bool} (he:∀ a b,lt' a b=lt a b) (tri:∀ a b,lt a b=true\/a=b\/lt b a=true) (x y:α) (h1:lt' x y=false) (h2:lt' y x=false):x=y:=by
 rw [he] at h1 h2
 rcases tri x y with h|h|h
 ·rw [h] at h1;cases h1
 ·exact h
 ·rw [h] at h2;cases h2
theorem aME {β:Type} [dP β]:∀ (l:List β) (i r:Nat) (hi:i < l.length),r < dP.sz β->(iN l)[i * dP.sz β+r]?=(dP.enc l[i])[r]?
 |[],i,r,hi,_=>by simp at hi
 |x::l,0,r,hi,hr=>by
  unfold iN
  rw [List.flatMap_cons,Nat.zero_mul,Nat.zero_add,List.getElem?_append_left (by rw [dP.len];exact hr)];rfl
 |x::l,i+1,r,hi,hr=>by
  have:=aME l i r (by simpa using hi) hr
  unfold iN at this ⊢
  rw [List.flatMap_cons,Nat.add_mul,Nat.one_mul,List.getElem?_append_right (by rw [dP.len];omega),dP.len]
  rw [show i * dP.sz β+dP.sz β+r - dP.sz β=i * dP.sz β+r by omega,this];rfl
theorem aMF {β:Type} [dP β] [Inhabited β] (l:List β):(flatK dP.enc (dP.sz β) l.toArray).toList=iN l:=by
 have hz:=dP.pos (α:=β)
 refine List.ext_getElem? fun t=>?_
 unfold flatK
 by_cases ht:t < l.length * dP.sz β
 ·have h1:t / dP.sz β < l.length:=Nat.div_lt_of_lt_mul (by rw [Nat.mul_comm];exact ht)
  have h2:t % dP.sz β < dP.sz β:=Nat.mod_lt _ hz
  have h3:=aME l (t / dP.sz β) (t % dP.sz β) h1 h2
  rw [Nat.div_add_mod'] at h3
  rw [h3]
  simp only [Array.toList_map,Array.toList_range,List.getElem?_map,List.size_toArray,List.getElem?_range ht,Option.map_some]
  rw [getElem!_pos l.toArray _ (by simpa using h1)]
  have h4:t % dP.sz β < (dP.enc l[t / dP.sz β]).length:=by rw [dP.len];exact h2
  rw [List.getElem?_eq_getElem h4]
  simp only [List.getElem_toArray]
  rw [getElem!_pos (dP.enc l[t / dP.sz β]) (t % dP.sz β) h4]
 ·rw [List.getElem?_eq_none (by simp;omega),List.getElem?_eq_none (by rw [sY];omega)]
theorem lib_SortEdge {E:TypeId} {xs:List Edge} {a:Option Addr} {c:Nat} {R:List Edge} (hs:aD G K (aM E K a c xs::L) w) (hm:uF xs=some R):
  Calls Tryz.prog 119 ([Value.slice a xs.length c,Value.func (.func 68) #[] #[]]:List Value).toArray w (dV fun v w'=>v=Value.tuple #[]/\xs.length=R.length/\aD G K (aM E K a c R::L) w'):=by
 unfold uF at hm
 split at hm
 ·rename_i hl
  cases hm
  unfold iQ at hl
  have hlen:(yE bQ xs).length=xs.length:=List.length_mergeSort _
  have hlay:∀ b off,a=some ⟨b,off,none⟩->∀ (m:Nat) (os:Array Obj) (dk:Array Edge),dk.size=xs.length->aD G K (aM E K a c dk.toList::L) (sortWorldK dP.enc 3 w b off m dk os):=by
   rintro b off rfl m os dk hdk
   unfold sortWorldK putRowK
   refine aD.putRow (i:=0) hs rfl (by simp [hdk]) ?_
   exact aMF dk.toList
  rcases aKC hs (i:=0) rfl with ⟨rfl,rfl⟩|⟨b,off,rfl,hb,hc⟩
  ·refine (Tryz.slices_SortFunc_none_f119 (α:=Edge) none c _ w).mono ?_
   rintro e w' ⟨rfl,rfl⟩
   exact ⟨_,rfl,rfl,hlen.symm,by simpa [yE] using hs⟩
  ·refine (Tryz.slices_SortFunc_total_f119 (α:=Edge) 3 Tryz.isAgg87 Tryz.sizeOf87 dP.enc (fun _=>rfl) (fun x v hv=>dP.one x v hv) cmpE (swo_of aLG (fun a=>by cases hx:bQ a a with|false=>rfl|true=>exact absurd rfl (aKM hx)) edgeLt_tr aJu) 68 #[] b off c xs.toArray w (enters_of Tryz.func68 (by kernel_rfl) rfl) ?_ ?_ hb (by simp;omega) (total_of aLG aJu)).mono ?_
   ·intro m os dk hdk x y
    have hst:=hlay b off rfl m os dk (by simpa using hdk)
    have:=aAc (aDZ x y) (aD.start (sortWorldK dP.enc 3 w b off m dk os) G.laid hst.globs)
    refine this.mono ?_
    rintro e w' ⟨v,rfl,rfl,hx⟩
    exact ⟨rfl,hx.exact⟩
   ·intro j hj
    have hf:=aMF xs
    have hj3:j < xs.length * 3:=by have h:=hj;rw [size_flatK] at h;simpa using h
    have hj2:j < (iN xs).length:=by rw [sY];exact hj3
    have:=hc j (iN xs)[j] (by rw [List.getElem?_eq_getElem hj2])
    have e:(flatK dP.enc 3 xs.toArray)[j]! = (iN xs)[j]:=by
     rw [getElem!_pos (flatK dP.enc 3 xs.toArray) j hj]
     have:(flatK dP.enc 3 xs.toArray)[j]=(flatK dP.enc (dP.sz Edge) xs.toArray).toList[j]'(by rw [hf];exact hj2):=by simp;rfl
     rw [this]
     simp only [hf]
    rw [e]
    exact this
   ·rintro e w' ⟨rfl,n,os,rfl⟩
    refine ⟨_,rfl,rfl,hlen.symm,?_⟩
    have:=hlay b off rfl n os (yE bQ xs).toArray (by simpa using hlen)
    have he:(xs.toArray.toList.mergeSort fun x y=>!ltOf cmpE y x)=yE bQ xs:=by
     unfold yE;congr 1;funext x y;rw [aLG]
    rw [he]
    simpa using this
 ·cases hm
end
end Gv
