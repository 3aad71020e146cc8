/- Contracts of functions of Go's library, said of heaps of pieces. -/
import Derived.Test.YtlechllgdgniaaaGreatDoorJWk0
import Derived.Test.YtlechllgdgniaaaGreatDoorJP11
set_option linter.all false
namespace Gv
open Go Go.Proofs Go.RowKit Go.Sort
section
variable {G:pJ} {K:Hp} {L:List hQ} {w:World}
def cmpL (a b:bK):Int:=if a == b then 0 else if a == eO then -1 else if b == eO then 1 else cmpB a b
theorem cmpL_eq (a b:bK):xY a b=some (cmpL a b):=by
 unfold xY cmpL
 rw [show ([116,97,117]:bK)=eO from rfl]
 cases a == b<;>cases a == eO<;>cases b == eO<;>rfl
theorem aQd (a b:bK):ltOf cmpL a b=aBm a b:=by
 unfold ltOf cmpL aBm cmpB
 by_cases h1:a=b
 ·simp [h1]
 ·by_cases h2:a=eO
  ·subst h2;simp [h1]
  ·by_cases h3:b=eO
   ·simp [h1,h2,h3]
   ·simp only [h1,h2,h3,beq_iff_eq,if_false]
    cases lQ a b<;>rfl
def cmpE (a b:Edge):Int:=or3 (aLZ a.F b.F) (aLZ a.B b.B) (aLZ a.To b.To)
theorem aQe (a b:Edge):ltOf cmpE a b=dT a b:=by
 unfold ltOf cmpE
 have:=cmpE_ge a b
 cases hx:dT a b with
 |true=>rw [hx] at this;simp at this;simpa using this
 |false=>rw [hx] at this;simp at this;simpa using this
theorem aNt (a b:Edge):dT a b=true\/a=b\/dT b a=true:=by
 rw [uQ,uQ]
 obtain ⟨a1,a2,a3⟩:=a
 obtain ⟨b1,b2,b3⟩:=b
 simp only [Edge.mk.injEq]
 omega
theorem edgeLt_tr {a b c:Edge} (h1:dT a b=true) (h2:dT b c=true):dT a c=true:=by
 rw [uQ] at *;omega
theorem swo_of {α:Type} {lt lt':α->α->Bool} (he:∀ a b,lt' a b=lt a b) (irr:∀ a,lt a a=false) (tr:∀ {a b c},lt a b=true->lt b c=true->lt a c=true) (tri:∀ a b,lt a b=true\/a=b\/lt b a=true):Sort.SWO lt':=by
 obtain rfl:lt'=lt:=by funext a b;exact he a b
 refine ⟨irr,fun x y z=>tr,fun x y z h1 h2=>?_⟩
 rcases tri x y with h|h|h
 ·rw [h] at h1;cases h1
 ·subst h;exact h2
 ·rcases tri y z with g|g|g
  ·rw [g] at h2;cases h2
  ·subst g;exact h1
  ·cases hx:lt' x z with
   |false=>rfl
   |true=>
    have:=tr (tr g h) hx
    rw [irr] at this;cases this
theorem aRh {α:Type} {lt lt':α->α->Bool} (he:∀ a b,lt' a b=lt a b) (tri:∀ a b,lt a b=true\/a=b\/lt b a=true) (x y:α) (h1:lt' x y=false) (h2:lt' y x=false):x=y:=by
 rw [he] at h1 h2
 rcases tri x y with h|h|h
 ·rw [h] at h1;cases h1
 ·exact h
 ·rw [h] at h2;cases h2
theorem lib_SortStr {E:TypeId} {xs:List bK} {a:Option Addr} {c:Nat} {R:List bK} (hs:aN G K (bB E K a c xs::L) w) (hm:aFw xs=some R):
  Calls Tryz.prog 127 ([Value.slice a xs.length c,Value.func (.func 128) #[] #[]]:List Value).toArray w (eR fun v w'=>v=Value.tuple #[]/\xs.length=R.length/\aN G K (bB E K a c R::L) w'):=by
 unfold aFw at hm
 split at hm
 ·rename_i hl
  cases hm
  unfold jU at hl
  have hlen:(srt aBm xs).length=xs.length:=List.length_mergeSort _
  have hlay:∀ b off,a=some ⟨b,off,none⟩->∀ (m:Nat) (os:Array Obj) (dk:Array bK),dk.size=xs.length->aN G K (bB E K a c dk.toList::L) (sortWorld str w b off m dk os):=by
   rintro b off rfl m os dk hdk
   unfold sortWorld
   rw [aSp]
   refine aN.putRow (i:=0) hs rfl (by simp [hdk]) ?_
   rw [aQV];simp
  rcases aOP hs (i:=0) rfl with ⟨rfl,rfl⟩|⟨b,off,rfl,hb,hc⟩
  ·refine (Tryz.slices_SortFunc_none_f127 (α:=bK) none c _ w).mono ?_
   rintro e w' ⟨rfl,rfl⟩
   exact ⟨_,rfl,rfl,hlen.symm,by simpa [srt] using hs⟩
  ·refine (Tryz.slices_SortFunc_total_f127 (α:=bK) str (fun _=>rfl) cmpL (swo_of aQd aOY aRg aKY) 128 #[] b off c xs.toArray w (enters_of Tryz.func128 (by kernel_rfl) rfl) ?_ ?_ hb (by simp;omega) (aRh aQd aKY)).mono ?_
   ·intro m os dk hdk x y
    have hst:=hlay b off rfl m os dk (by simpa using hdk)
    have:=aHJ (cmpL_eq x y) (aN.start (sortWorld str w b off m dk os) G.laid hst.globs)
    refine this.mono ?_
    rintro e w' ⟨v,rfl,rfl,hx⟩
    exact ⟨rfl,hx.exact⟩
   ·intro j hj
    have hj':j < xs.length:=by simpa using hj
    have:=hc j (str xs[j]) (by rw [aQV];simp [hj'])
    rw [getElem!_pos xs.toArray j hj]
    simpa using this
   ·rintro e w' ⟨rfl,n,os,rfl⟩
    refine ⟨_,rfl,rfl,hlen.symm,?_⟩
    have:=hlay b off rfl n os (srt aBm xs).toArray (by simpa using hlen)
    have he:(xs.toArray.toList.mergeSort fun x y=>!ltOf cmpL y x)=srt aBm xs:=by
     unfold srt;congr 1;funext x y;rw [aQd]
    rw [he]
    simpa using this
 ·cases hm
theorem aRi {β:Type} [hY β]:∀ (l:List β) (i r:Nat) (hi:i < l.length),r < hY.sz β->(flat l)[i * hY.sz β+r]?=(hY.enc l[i])[r]?
 |[],i,r,hi,_=>by simp at hi
 |x::l,0,r,hi,hr=>by
  unfold flat
  rw [List.flatMap_cons,Nat.zero_mul,Nat.zero_add,List.getElem?_append_left (by rw [hY.len];exact hr)];rfl
 |x::l,i+1,r,hi,hr=>by
  have:=aRi l i r (by simpa using hi) hr
  unfold flat at this ⊢
  rw [List.flatMap_cons,Nat.add_mul,Nat.one_mul,List.getElem?_append_right (by rw [hY.len];omega),hY.len]
  rw [show i * hY.sz β+hY.sz β+r - hY.sz β=i * hY.sz β+r by omega,this];rfl
theorem aRj {β:Type} [hY β] [Inhabited β] (l:List β):(flatK hY.enc (hY.sz β) l.toArray).toList=flat l:=by
 have hz:=hY.pos (α:=β)
 refine List.ext_getElem? fun t=>?_
 unfold flatK
 by_cases ht:t < l.length * hY.sz β
 ·have h1:t / hY.sz β < l.length:=Nat.div_lt_of_lt_mul (by rw [Nat.mul_comm];exact ht)
  have h2:t % hY.sz β < hY.sz β:=Nat.mod_lt _ hz
  have h3:=aRi l (t / hY.sz β) (t % hY.sz β) h1 h2
  rw [Nat.div_add_mod'] at h3
  rw [h3]
  simp only [Array.toList_map,Array.toList_range,List.getElem?_map,List.size_toArray,List.getElem?_range ht,Option.map_some]
  rw [getElem!_pos l.toArray _ (by simpa using h1)]
  have h4:t % hY.sz β < (hY.enc l[t / hY.sz β]).length:=by rw [hY.len];exact h2
  rw [List.getElem?_eq_getElem h4]
  simp only [List.getElem_toArray]
  rw [getElem!_pos (hY.enc l[t / hY.sz β]) (t % hY.sz β) h4]
 ·rw [List.getElem?_eq_none (by simp;omega),List.getElem?_eq_none (by rw [vW];omega)]
theorem lib_SortEdge {E:TypeId} {xs:List Edge} {a:Option Addr} {c:Nat} {R:List Edge} (hs:aN G K (bB E K a c xs::L) w) (hm:aDX xs=some R):
  Calls Tryz.prog 131 ([Value.slice a xs.length c,Value.func (.func 132) #[] #[]]:List Value).toArray w (eR fun v w'=>v=Value.tuple #[]/\xs.length=R.length/\aN G K (bB E K a c R::L) w'):=by
 unfold aDX at hm
 split at hm
 ·rename_i hl
  cases hm
  unfold jU at hl
  have hlen:(srt dT xs).length=xs.length:=List.length_mergeSort _
  have hlay:∀ b off,a=some ⟨b,off,none⟩->∀ (m:Nat) (os:Array Obj) (dk:Array Edge),dk.size=xs.length->aN G K (bB E K a c dk.toList::L) (sortWorldK hY.enc 3 w b off m dk os):=by
   rintro b off rfl m os dk hdk
   unfold sortWorldK putRowK
   refine aN.putRow (i:=0) hs rfl (by simp [hdk]) ?_
   exact aRj dk.toList
  rcases aOP hs (i:=0) rfl with ⟨rfl,rfl⟩|⟨b,off,rfl,hb,hc⟩
  ·refine (Tryz.slices_SortFunc_none_f131 (α:=Edge) none c _ w).mono ?_
   rintro e w' ⟨rfl,rfl⟩
   exact ⟨_,rfl,rfl,hlen.symm,by simpa [srt] using hs⟩
  ·refine (Tryz.slices_SortFunc_total_f131 (α:=Edge) 3 Tryz.isAgg130 Tryz.sizeOf130 hY.enc (fun _=>rfl) (fun x v hv=>hY.one x v hv) cmpE (swo_of aQe (fun a=>by cases hx:dT a a with|false=>rfl|true=>exact absurd rfl (aOZ hx)) edgeLt_tr aNt) 132 #[] b off c xs.toArray w (enters_of Tryz.func132 (by kernel_rfl) rfl) ?_ ?_ hb (by simp;omega) (aRh aQe aNt)).mono ?_
   ·intro m os dk hdk x y
    have hst:=hlay b off rfl m os dk (by simpa using hdk)
    have:=aDb (aGY x y) (aN.start (sortWorldK hY.enc 3 w b off m dk os) G.laid hst.globs)
    refine this.mono ?_
    rintro e w' ⟨v,rfl,rfl,hx⟩
    exact ⟨rfl,hx.exact⟩
   ·intro j hj
    have hf:=aRj xs
    have hj3:j < xs.length * 3:=by have h:=hj;rw [size_flatK] at h;simpa using h
    have hj2:j < (flat xs).length:=by rw [vW];exact hj3
    have:=hc j (flat xs)[j] (by rw [List.getElem?_eq_getElem hj2])
    have e:(flatK hY.enc 3 xs.toArray)[j]! = (flat xs)[j]:=by
     rw [getElem!_pos (flatK hY.enc 3 xs.toArray) j hj]
     have:(flatK hY.enc 3 xs.toArray)[j]=(flatK hY.enc (hY.sz Edge) xs.toArray).toList[j]'(by rw [hf];exact hj2):=by simp;rfl
     rw [this]
     simp only [hf]
    rw [e]
    exact this
   ·rintro e w' ⟨rfl,n,os,rfl⟩
    refine ⟨_,rfl,rfl,hlen.symm,?_⟩
    have:=hlay b off rfl n os (srt dT xs).toArray (by simpa using hlen)
    have he:(xs.toArray.toList.mergeSort fun x y=>!ltOf cmpE y x)=srt dT xs:=by
     unfold srt;congr 1;funext x y;rw [aQe]
    rw [he]
    simpa using this
 ·cases hm
end
end Gv
