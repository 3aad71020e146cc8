/- Contracts of functions of Go's library, said of heaps of pieces. -/
import Derived.Test.YtmlemmpanilhjaaGreatDoorJWk0
import Derived.Test.YtmlemmpanilhjaaGreatDoorJP11
set_option linter.all false
namespace Gv
open Go Go.Proofs Go.RowKit Go.Sort
section
variable {G:qG} {K:Hp} {L:List iZ} {w:World}
def cmpL (a b:bL):Int:=if a == b then 0 else if a == eK then -1 else if b == eK then 1 else cmpB a b
theorem cmpL_eq (a b:bL):wV a b=some (cmpL a b):=by
 unfold wV cmpL
 rw [show ([116,97,117]:bL)=eK from rfl]
 cases a == b<;>cases a == eK<;>cases b == eK<;>rfl
theorem aOH (a b:bL):ltOf cmpL a b=aAG a b:=by
 unfold ltOf cmpL aAG cmpB
 by_cases h1:a=b
 ·simp [h1]
 ·by_cases h2:a=eK
  ·subst h2;simp [h1]
  ·by_cases h3:b=eK
   ·simp [h1,h2,h3]
   ·simp only [h1,h2,h3,beq_iff_eq,if_false]
    cases lE a b<;>rfl
def cmpE (a b:Edge):Int:=or3 (aKT a.F b.F) (aKT a.B b.B) (aKT a.To b.To)
theorem aOI (a b:Edge):ltOf cmpE a b=dP a b:=by
 unfold ltOf cmpE
 have:=cmpE_ge a b
 cases hx:dP a b with
 |true=>rw [hx] at this;simp at this;simpa using this
 |false=>rw [hx] at this;simp at this;simpa using this
theorem aMk (a b:Edge):dP a b=true\/a=b\/dP b a=true:=by
 rw [tT,tT]
 obtain ⟨a1,a2,a3⟩:=a
 obtain ⟨b1,b2,b3⟩:=b
 simp only [Edge.mk.injEq]
 omega
theorem edgeLt_tr {a b c:Edge} (h1:dP a b=true) (h2:dP b c=true):dP a c=true:=by
 rw [tT] at *;omega
theorem swo_of {α:Type} {lt lt':α->α->Bool} (he:∀ a b,lt' a b=lt a b) (irr:∀ a,lt a a=false) (tr:∀ {a b c},lt a b=true->lt b c=true->lt a c=true) (tri:∀ a b,lt a b=true\/a=b\/lt b a=true):Sort.SWO lt':=by
 obtain rfl:lt'=lt:=by funext a b;exact he a b
 refine ⟨irr,fun x y z=>tr,fun x y z h1 h2=>?_⟩
 rcases tri x y with h|h|h
 ·rw [h] at h1;cases h1
 ·subst h;exact h2
 ·rcases tri y z with g|g|g
  ·rw [g] at h2;cases h2
  ·subst g;exact h1
  ·cases hx:lt' x z with
   |false=>rfl
   |true=>
    have:=tr (tr g h) hx
    rw [irr] at this;cases this
theorem aPF {α:Type} {lt lt':α->α->Bool} (he:∀ a b,lt' a b=lt a b) (tri:∀ a b,lt a b=true\/a=b\/lt b a=true) (x y:α) (h1:lt' x y=false) (h2:lt' y x=false):x=y:=by
 rw [he] at h1 h2
 rcases tri x y with h|h|h
 ·rw [h] at h1;cases h1
 ·exact h
 ·rw [h] at h2;cases h2
theorem lib_SortStr {E:TypeId} {xs:List bL} {a:Option Addr} {c:Nat} {R:List bL} (hs:aO G K (bI E K a c xs::L) w) (hm:aEy xs=some R):
  Calls Tryz.prog 122 ([Value.slice a xs.length c,Value.func (.func 123) #[] #[]]:List Value).toArray w (eX fun v w'=>v=Value.tuple #[]/\xs.length=R.length/\aO G K (bI E K a c R::L) w'):=by
 unfold aEy at hm
 split at hm
 ·rename_i hl
  cases hm
  unfold kM at hl
  have hlen:(srt aAG xs).length=xs.length:=List.length_mergeSort _
  have hlay:∀ b off,a=some ⟨b,off,none⟩->∀ (m:Nat) (os:Array Obj) (dk:Array bL),dk.size=xs.length->aO G K (bI E K a c dk.toList::L) (sortWorld str w b off m dk os):=by
   rintro b off rfl m os dk hdk
   unfold sortWorld
   rw [aQE]
   refine aO.putRow (i:=0) hs rfl (by simp [hdk]) ?_
   rw [aPt];simp
  rcases aNA hs (i:=0) rfl with ⟨rfl,rfl⟩|⟨b,off,rfl,hb,hc⟩
  ·refine (Tryz.slices_SortFunc_none_f122 (α:=bL) none c _ w).mono ?_
   rintro e w' ⟨rfl,rfl⟩
   exact ⟨_,rfl,rfl,hlen.symm,by simpa [srt] using hs⟩
  ·refine (Tryz.slices_SortFunc_total_f122 (α:=bL) str (fun _=>rfl) cmpL (swo_of aOH aNK aPE aJU) 123 #[] b off c xs.toArray w (enters_of Tryz.func123 (by kernel_rfl) rfl) ?_ ?_ hb (by simp;omega) (aPF aOH aJU)).mono ?_
   ·intro m os dk hdk x y
    have hst:=hlay b off rfl m os dk (by simpa using hdk)
    have:=aGC (cmpL_eq x y) (aO.start (sortWorld str w b off m dk os) G.laid hst.globs)
    refine this.mono ?_
    rintro e w' ⟨v,rfl,rfl,hx⟩
    exact ⟨rfl,hx.exact⟩
   ·intro j hj
    have hj':j < xs.length:=by simpa using hj
    have:=hc j (str xs[j]) (by rw [aPt];simp [hj'])
    rw [getElem!_pos xs.toArray j hj]
    simpa using this
   ·rintro e w' ⟨rfl,n,os,rfl⟩
    refine ⟨_,rfl,rfl,hlen.symm,?_⟩
    have:=hlay b off rfl n os (srt aAG xs).toArray (by simpa using hlen)
    have he:(xs.toArray.toList.mergeSort fun x y=>!ltOf cmpL y x)=srt aAG xs:=by
     unfold srt;congr 1;funext x y;rw [aOH]
    rw [he]
    simpa using this
 ·cases hm
theorem aPG {β:Type} [gZ β]:∀ (l:List β) (i r:Nat) (hi:i < l.length),r < gZ.sz β->(flat l)[i * gZ.sz β+r]?=(gZ.enc l[i])[r]?
 |[],i,r,hi,_=>by simp at hi
 |x::l,0,r,hi,hr=>by
  unfold flat
  rw [List.flatMap_cons,Nat.zero_mul,Nat.zero_add,List.getElem?_append_left (by rw [gZ.len];exact hr)];rfl
 |x::l,i+1,r,hi,hr=>by
  have:=aPG l i r (by simpa using hi) hr
  unfold flat at this ⊢
  rw [List.flatMap_cons,Nat.add_mul,Nat.one_mul,List.getElem?_append_right (by rw [gZ.len];omega),gZ.len]
  rw [show i * gZ.sz β+gZ.sz β+r - gZ.sz β=i * gZ.sz β+r by omega,this];rfl
theorem aPH {β:Type} [gZ β] [Inhabited β] (l:List β):(flatK gZ.enc (gZ.sz β) l.toArray).toList=flat l:=by
 have hz:=gZ.pos (α:=β)
 refine List.ext_getElem? fun t=>?_
 unfold flatK
 by_cases ht:t < l.length * gZ.sz β
 ·have h1:t / gZ.sz β < l.length:=Nat.div_lt_of_lt_mul (by rw [Nat.mul_comm];exact ht)
  have h2:t % gZ.sz β < gZ.sz β:=Nat.mod_lt _ hz
  have h3:=aPG l (t / gZ.sz β) (t % gZ.sz β) h1 h2
  rw [Nat.div_add_mod'] at h3
  rw [h3]
  simp only [Array.toList_map,Array.toList_range,List.getElem?_map,List.size_toArray,List.getElem?_range ht,Option.map_some]
  rw [getElem!_pos l.toArray _ (by simpa using h1)]
  have h4:t % gZ.sz β < (gZ.enc l[t / gZ.sz β]).length:=by rw [gZ.len];exact h2
  rw [List.getElem?_eq_getElem h4]
  simp only [List.getElem_toArray]
  rw [getElem!_pos (gZ.enc l[t / gZ.sz β]) (t % gZ.sz β) h4]
 ·rw [List.getElem?_eq_none (by simp;omega),List.getElem?_eq_none (by rw [uZ];omega)]
theorem lib_SortEdge {E:TypeId} {xs:List Edge} {a:Option Addr} {c:Nat} {R:List Edge} (hs:aO G K (bI E K a c xs::L) w) (hm:aDd xs=some R):
  Calls Tryz.prog 126 ([Value.slice a xs.length c,Value.func (.func 127) #[] #[]]:List Value).toArray w (eX fun v w'=>v=Value.tuple #[]/\xs.length=R.length/\aO G K (bI E K a c R::L) w'):=by
 unfold aDd at hm
 split at hm
 ·rename_i hl
  cases hm
  unfold kM at hl
  have hlen:(srt dP xs).length=xs.length:=List.length_mergeSort _
  have hlay:∀ b off,a=some ⟨b,off,none⟩->∀ (m:Nat) (os:Array Obj) (dk:Array Edge),dk.size=xs.length->aO G K (bI E K a c dk.toList::L) (sortWorldK gZ.enc 3 w b off m dk os):=by
   rintro b off rfl m os dk hdk
   unfold sortWorldK putRowK
   refine aO.putRow (i:=0) hs rfl (by simp [hdk]) ?_
   exact aPH dk.toList
  rcases aNA hs (i:=0) rfl with ⟨rfl,rfl⟩|⟨b,off,rfl,hb,hc⟩
  ·refine (Tryz.slices_SortFunc_none_f126 (α:=Edge) none c _ w).mono ?_
   rintro e w' ⟨rfl,rfl⟩
   exact ⟨_,rfl,rfl,hlen.symm,by simpa [srt] using hs⟩
  ·refine (Tryz.slices_SortFunc_total_f126 (α:=Edge) 3 Tryz.isAgg94 Tryz.sizeOf94 gZ.enc (fun _=>rfl) (fun x v hv=>gZ.one x v hv) cmpE (swo_of aOI (fun a=>by cases hx:dP a a with|false=>rfl|true=>exact absurd rfl (aNL hx)) edgeLt_tr aMk) 127 #[] b off c xs.toArray w (enters_of Tryz.func127 (by kernel_rfl) rfl) ?_ ?_ hb (by simp;omega) (aPF aOI aMk)).mono ?_
   ·intro m os dk hdk x y
    have hst:=hlay b off rfl m os dk (by simpa using hdk)
    have:=aCf (aFY x y) (aO.start (sortWorldK gZ.enc 3 w b off m dk os) G.laid hst.globs)
    refine this.mono ?_
    rintro e w' ⟨v,rfl,rfl,hx⟩
    exact ⟨rfl,hx.exact⟩
   ·intro j hj
    have hf:=aPH xs
    have hj3:j < xs.length * 3:=by have h:=hj;rw [size_flatK] at h;simpa using h
    have hj2:j < (flat xs).length:=by rw [uZ];exact hj3
    have:=hc j (flat xs)[j] (by rw [List.getElem?_eq_getElem hj2])
    have e:(flatK gZ.enc 3 xs.toArray)[j]! = (flat xs)[j]:=by
     rw [getElem!_pos (flatK gZ.enc 3 xs.toArray) j hj]
     have:(flatK gZ.enc 3 xs.toArray)[j]=(flatK gZ.enc (gZ.sz Edge) xs.toArray).toList[j]'(by rw [hf];exact hj2):=by simp;rfl
     rw [this]
     simp only [hf]
    rw [e]
    exact this
   ·rintro e w' ⟨rfl,n,os,rfl⟩
    refine ⟨_,rfl,rfl,hlen.symm,?_⟩
    have:=hlay b off rfl n os (srt dP xs).toArray (by simpa using hlen)
    have he:(xs.toArray.toList.mergeSort fun x y=>!ltOf cmpE y x)=srt dP xs:=by
     unfold srt;congr 1;funext x y;rw [aOI]
    rw [he]
    simpa using this
 ·cases hm
end
end Gv
