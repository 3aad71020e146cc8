/- Contracts of functions of Go's library, said of heaps of pieces. -/
import Derived.Test.YtmlgcbjkfcapaaaGreatDoorFJLWa
import Derived.Test.YtmlgcbjkfcapaaaGreatDoorFJWk0
import Derived.Test.YtmlgcbjkfcapaaaGreatDoorFJP11
set_option linter.all false
namespace Gv
open Go Go.Proofs Go.RowKit Go.Sort
section
variable {G:Env} {K:Hp} {L:List oT} {w:World}
def cmpL (a b:bH):Int:=if a == b then 0 else if a == jK then -1 else if b == jK then 1 else cmpB a b
theorem cmpL_eq (a b:bH):tE a b=some (cmpL a b):=by
 unfold tE cmpL
 rw [show ([116,97,117]:bH)=jK from rfl]
 cases a == b<;>cases a == jK<;>cases b == jK<;>rfl
theorem aIf (a b:bH):ltOf cmpL a b=zX a b:=by
 unfold ltOf cmpL zX cmpB
 by_cases h1:a=b
 ·simp [h1]
 ·by_cases h2:a=jK
  ·subst h2;simp [h1]
  ·by_cases h3:b=jK
   ·simp [h1,h2,h3]
   ·simp only [h1,h2,h3,beq_iff_eq,if_false]
    cases xY a b<;>rfl
def cmpE (a b:Edge):Int:=or3 (aFk a.F b.F) (aFk a.B b.B) (aFk a.To b.To)
theorem aIg (a b:Edge):ltOf cmpE a b=cY a b:=by
 unfold ltOf cmpE
 have:=cmpE_ge a b
 cases hx:cY a b with
 |true=>rw [hx] at this;simp at this;simpa using this
 |false=>rw [hx] at this;simp at this;simpa using this
theorem aGq (a b:Edge):cY a b=true∨a=b∨cY b a=true:=by
 rw [oS,oS]
 obtain ⟨a1,a2,a3⟩:=a
 obtain ⟨b1,b2,b3⟩:=b
 simp only [Edge.mk.injEq]
 omega
theorem edgeLt_tr {a b c:Edge} (h1:cY a b=true) (h2:cY b c=true):cY a c=true:=by
 rw [oS] at *;omega
theorem swo_of {α:Type} {lt lt':α→α→Bool} (he:∀ a b,lt' a b=lt a b) (irr:∀ a,lt a a=false) (tr:∀ {a b c},lt a b=true→lt b c=true→lt a c=true) (tri:∀ a b,lt a b=true∨a=b∨lt b a=true):Sort.SWO lt':=by
 obtain rfl:lt'=lt:=by funext a b;exact he a b
 refine ⟨irr,fun x y z=>tr,fun x y z h1 h2=>?_⟩
 rcases tri x y with h|h|h
 ·rw [h] at h1;cases h1
 ·subst h;exact h2
 ·rcases tri y z with g|g|g
  ·rw [g] at h2;cases h2
  ·subst g;exact h1
  ·cases hx:lt' x z with
   |false=>rfl
   |true=>
    have:=tr (tr g h) hx
    rw [irr] at this;cases this
theorem aJs {α:Type} {lt lt':α→α→Bool} (he:∀ a b,lt' a b=lt a b) (tri:∀ a b,lt a b=true∨a=b∨lt b a=true) (x y:α) (h1:lt' x y=false) (h2:lt' y x=false):x=y:=by
 rw [he] at h1 h2
 rcases tri x y with h|h|h
 ·rw [h] at h1;cases h1
 ·exact h
 ·rw [h] at h2;cases h2
theorem lib_SortStr {E:TypeId} {xs:List bH} {a:Option Addr} {c:Nat} {R:List bH} (hs:aK G K (aV E K a c xs::L) w) (hm:aEk xs=some R):
  Calls Tryz.prog 187 ([Value.slice a xs.length c,Value.func (.func 188) #[] #[]]:List Value).toArray w (gO fun v w'=>v=Value.tuple #[]∧xs.length=R.length∧aK G K (aV E K a c R::L) w'):=by
 unfold aEk at hm
 split at hm
 ·rename_i hl
  cases hm
  unfold lT at hl
  have hlen:(srt zX xs).length=xs.length:=List.length_mergeSort _
  have hlay:∀ b off,a=some ⟨b,off,none⟩→∀ (m:Nat) (os:Array Obj) (dk:Array bH),dk.size=xs.length→aK G K (aV E K a c dk.toList::L) (sortWorld str w b off m dk os):=by
   rintro b off rfl m os dk hdk
   unfold sortWorld
   rw [aFL]
   refine aK.putRow (i:=0) hs rfl (by simp [hdk]) ?_
   rw [aJd];simp
  rcases aEj hs (i:=0) rfl with ⟨rfl,rfl⟩|⟨b,off,rfl,hb,hc⟩
  ·refine (Tryz.slices_SortFunc_none_f187 (α:=bH) none c _ w).mono ?_
   rintro e w' ⟨rfl,rfl⟩
   exact ⟨_,rfl,rfl,hlen.symm,by simpa [srt] using hs⟩
  ·refine (Tryz.slices_SortFunc_total_f187 (α:=bH) str (fun _=>rfl) cmpL (swo_of aIf labLt_irr labLt_tr aHq) 188 #[] b off c xs.toArray w (enters_of Tryz.func188 (by kernel_rfl) rfl) ?_ ?_ hb (by simp;omega) (aJs aIf aHq)).mono ?_
   ·intro m os dk hdk x y
    have hst:=hlay b off rfl m os dk (by simpa using hdk)
    have:=aCj (aK.start (sortWorld str w b off m dk os) G.laid hst.globs) (cmpL_eq x y)
    refine this.mono ?_
    rintro e w' ⟨v,rfl,rfl,hx⟩
    exact ⟨rfl,hx.exact⟩
   ·intro j hj
    have hj':j < xs.length:=by simpa using hj
    have:=hc j (str xs[j]) (by rw [aJd];simp [hj'])
    rw [getElem!_pos xs.toArray j hj]
    simpa using this
   ·rintro e w' ⟨rfl,n,os,rfl⟩
    refine ⟨_,rfl,rfl,hlen.symm,?_⟩
    have:=hlay b off rfl n os (srt zX xs).toArray (by simpa using hlen)
    have he:(xs.toArray.toList.mergeSort fun x y=>!ltOf cmpL y x)=srt zX xs:=by
     unfold srt;congr 1;funext x y;rw [aIf]
    rw [he]
    simpa using this
 ·cases hm
theorem aJt {β:Type} [gH β]:∀ (l:List β) (i r:Nat) (hi:i < l.length),r < gH.sz β→(iO l)[i * gH.sz β+r]?=(gH.enc l[i])[r]?
 |[],i,r,hi,_=>by simp at hi
 |x::l,0,r,hi,hr=>by
  unfold iO
  rw [List.flatMap_cons,Nat.zero_mul,Nat.zero_add,List.getElem?_append_left (by rw [gH.len];exact hr)];rfl
 |x::l,i+1,r,hi,hr=>by
  have:=aJt l i r (by simpa using hi) hr
  unfold iO at this ⊢
  rw [List.flatMap_cons,Nat.add_mul,Nat.one_mul,List.getElem?_append_right (by rw [gH.len];omega),gH.len]
  rw [show i * gH.sz β+gH.sz β+r - gH.sz β=i * gH.sz β+r by omega,this];rfl
theorem aJu {β:Type} [gH β] [Inhabited β] (l:List β):(flatK gH.enc (gH.sz β) l.toArray).toList=iO l:=by
 have hz:=gH.pos (α:=β)
 refine List.ext_getElem? fun t=>?_
 unfold flatK
 by_cases ht:t < l.length * gH.sz β
 ·have h1:t / gH.sz β < l.length:=Nat.div_lt_of_lt_mul (by rw [Nat.mul_comm];exact ht)
  have h2:t % gH.sz β < gH.sz β:=Nat.mod_lt _ hz
  have h3:=aJt l (t / gH.sz β) (t % gH.sz β) h1 h2
  rw [Nat.div_add_mod'] at h3
  rw [h3]
  simp only [Array.toList_map,Array.toList_range,List.getElem?_map,List.size_toArray,List.getElem?_range ht,Option.map_some]
  rw [getElem!_pos l.toArray _ (by simpa using h1)]
  have h4:t % gH.sz β < (gH.enc l[t / gH.sz β]).length:=by rw [gH.len];exact h2
  rw [List.getElem?_eq_getElem h4]
  simp only [List.getElem_toArray]
  rw [getElem!_pos (gH.enc l[t / gH.sz β]) (t % gH.sz β) h4]
 ·rw [List.getElem?_eq_none (by simp;omega),List.getElem?_eq_none (by rw [rX];omega)]
theorem lib_SortEdge {E:TypeId} {xs:List Edge} {a:Option Addr} {c:Nat} {R:List Edge} (hs:aK G K (aV E K a c xs::L) w) (hm:tK xs=some R):
  Calls Tryz.prog 85 ([Value.slice a xs.length c,Value.func (.func 81) #[] #[]]:List Value).toArray w (gO fun v w'=>v=Value.tuple #[]∧xs.length=R.length∧aK G K (aV E K a c R::L) w'):=by
 unfold tK at hm
 split at hm
 ·rename_i hl
  cases hm
  unfold lT at hl
  have hlen:(srt cY xs).length=xs.length:=List.length_mergeSort _
  have hlay:∀ b off,a=some ⟨b,off,none⟩→∀ (m:Nat) (os:Array Obj) (dk:Array Edge),dk.size=xs.length→aK G K (aV E K a c dk.toList::L) (sortWorldK gH.enc 3 w b off m dk os):=by
   rintro b off rfl m os dk hdk
   unfold sortWorldK putRowK
   refine aK.putRow (i:=0) hs rfl (by simp [hdk]) ?_
   exact aJu dk.toList
  rcases aEj hs (i:=0) rfl with ⟨rfl,rfl⟩|⟨b,off,rfl,hb,hc⟩
  ·refine (Tryz.slices_SortFunc_none_f85 (α:=Edge) none c _ w).mono ?_
   rintro e w' ⟨rfl,rfl⟩
   exact ⟨_,rfl,rfl,hlen.symm,by simpa [srt] using hs⟩
  ·refine (Tryz.slices_SortFunc_total_f85 (α:=Edge) 3 Tryz.isAgg63 Tryz.sizeOf63 gH.enc (fun _=>rfl) (fun x v hv=>gH.one x v hv) cmpE (swo_of aIg (fun a=>by cases hx:cY a a with|false=>rfl|true=>exact absurd rfl (aHr hx)) edgeLt_tr aGq) 81 #[] b off c xs.toArray w (enters_of Tryz.func81 (by kernel_rfl) rfl) ?_ ?_ hb (by simp;omega) (aJs aIg aGq)).mono ?_
   ·intro m os dk hdk x y
    have hst:=hlay b off rfl m os dk (by simpa using hdk)
    have:=yA (aK.start (sortWorldK gH.enc 3 w b off m dk os) G.laid hst.globs) (aBP x y)
    refine this.mono ?_
    rintro e w' ⟨v,rfl,rfl,hx⟩
    exact ⟨rfl,hx.exact⟩
   ·intro j hj
    have hf:=aJu xs
    have hj3:j < xs.length * 3:=by have h:=hj;rw [size_flatK] at h;simpa using h
    have hj2:j < (iO xs).length:=by rw [rX];exact hj3
    have:=hc j (iO xs)[j] (by rw [List.getElem?_eq_getElem hj2])
    have e:(flatK gH.enc 3 xs.toArray)[j]! = (iO xs)[j]:=by
     rw [getElem!_pos (flatK gH.enc 3 xs.toArray) j hj]
     have:(flatK gH.enc 3 xs.toArray)[j]=(flatK gH.enc (gH.sz Edge) xs.toArray).toList[j]'(by rw [hf];exact hj2):=by simp;rfl
     rw [this]
     simp only [hf]
    rw [e]
    exact this
   ·rintro e w' ⟨rfl,n,os,rfl⟩
    refine ⟨_,rfl,rfl,hlen.symm,?_⟩
    have:=hlay b off rfl n os (srt cY xs).toArray (by simpa using hlen)
    have he:(xs.toArray.toList.mergeSort fun x y=>!ltOf cmpE y x)=srt cY xs:=by
     unfold srt;congr 1;funext x y;rw [aIg]
    rw [he]
    simpa using this
 ·cases hm
end
end Gv
namespace Gv
open Go Go.Proofs Go.RowKit Go.Sort
end Gv
