/- Contracts of functions of Go's library, said of heaps of pieces. -/
import Derived.Test.YtmlgcbjkfcapaaaGreatDoorKLWa
import Derived.Test.YtmlgcbjkfcapaaaGreatDoorKWk0
import Derived.Test.YtmlgcbjkfcapaaaGreatDoorKP11
set_option linter.all false
namespace Gv
open Go Go.Proofs Go.RowKit Go.Sort
section
variable {G:Env} {K:Hp} {L:List qD} {w:World}
def cmpL (a b:aZ):Int:=if a == b then 0 else if a == iH then -1 else if b == iH then 1 else cmpB a b
theorem cmpL_eq (a b:aZ):wW a b=some (cmpL a b):=by
 unfold wW cmpL
 rw [show ([116,97,117]:aZ)=iH from rfl]
 cases a == b<;>cases a == iH<;>cases b == iH<;>rfl
theorem aLd (a b:aZ):ltOf cmpL a b=yC a b:=by
 unfold ltOf cmpL yC cmpB
 by_cases h1:a=b
 ·simp [h1]
 ·by_cases h2:a=iH
  ·subst h2;simp [h1]
  ·by_cases h3:b=iH
   ·simp [h1,h2,h3]
   ·simp only [h1,h2,h3,beq_iff_eq,if_false]
    cases wQ a b<;>rfl
def cmpE (a b:Edge):Int:=or3 (aHM a.F b.F) (aHM a.B b.B) (aHM a.To b.To)
theorem aLe (a b:Edge):ltOf cmpE a b=dX a b:=by
 unfold ltOf cmpE
 have:=cmpE_ge a b
 cases hx:dX a b with
 |true=>rw [hx] at this;simp at this;simpa using this
 |false=>rw [hx] at this;simp at this;simpa using this
theorem aIY (a b:Edge):dX a b=true∨a=b∨dX b a=true:=by
 rw [pZ,pZ]
 obtain ⟨a1,a2,a3⟩:=a
 obtain ⟨b1,b2,b3⟩:=b
 simp only [Edge.mk.injEq]
 omega
theorem edgeLt_tr {a b c:Edge} (h1:dX a b=true) (h2:dX b c=true):dX a c=true:=by
 rw [pZ] at *;omega
theorem swo_of {α:Type} {lt lt':α→α→Bool} (he:∀ a b,lt' a b=lt a b) (irr:∀ a,lt a a=false) (tr:∀ {a b c},lt a b=true→lt b c=true→lt a c=true) (tri:∀ a b,lt a b=true∨a=b∨lt b a=true):Sort.SWO lt':=by
 obtain rfl:lt'=lt:=by funext a b;exact he a b
 refine ⟨irr,fun x y z=>tr,fun x y z h1 h2=>?_⟩
 rcases tri x y with h|h|h
 ·rw [h] at h1;cases h1
 ·subst h;exact h2
 ·rcases tri y z with g|g|g
  ·rw [g] at h2;cases h2
  ·subst g;exact h1
  ·cases hx:lt' x z with
   |false=>rfl
   |true=>
    have:=tr (tr g h) hx
    rw [irr] at this;cases this
theorem aIZ {α:Type} {lt lt':α→α→Bool} (he:∀ a b,lt' a b=lt a b) (tri:∀ a b,lt a b=true∨a=b∨lt b a=true) (x y:α) (h1:lt' x y=false) (h2:lt' y x=false):x=y:=by
 rw [he] at h1 h2
 rcases tri x y with h|h|h
 ·rw [h] at h1;cases h1
 ·exact h
 ·rw [h] at h2;cases h2
theorem lib_SortStr {E:TypeId} {xs:List aZ} {a:Option Addr} {c:Nat} {R:List aZ} (hs:aL G K (aN E K a c xs::L) w) (hm:aDc xs=some R):
  Calls Tryz.prog 187 ([Value.slice a xs.length c,Value.func (.func 188) #[] #[]]:List Value).toArray w (fV fun v w'=>v=Value.tuple #[]∧xs.length=R.length∧aL G K (aN E K a c R::L) w'):=by
 unfold aDc at hm
 split at hm
 ·rename_i hl
  cases hm
  unfold kT at hl
  have hlen:(srt yC xs).length=xs.length:=List.length_mergeSort _
  have hlay:∀ b off,a=some ⟨b,off,none⟩→∀ (m:Nat) (os:Array Obj) (dk:Array aZ),dk.size=xs.length→aL G K (aN E K a c dk.toList::L) (sortWorld cL w b off m dk os):=by
   rintro b off rfl m os dk hdk
   unfold sortWorld
   rw [aDS]
   refine aL.putRow (i:=0) hs rfl (by simp [hdk]) ?_
   rw [aMf];simp
  rcases aDa hs (i:=0) rfl with ⟨rfl,rfl⟩|⟨b,off,rfl,hb,hc⟩
  ·refine (Tryz.slices_SortFunc_none_f187 (α:=aZ) none c _ w).mono ?_
   rintro e w' ⟨rfl,rfl⟩
   exact ⟨_,rfl,rfl,hlen.symm,by simpa [srt] using hs⟩
  ·refine (Tryz.slices_SortFunc_total_f187 (α:=aZ) cL (fun _=>rfl) cmpL (swo_of aLd aHa aMx aHb) 188 #[] b off c xs.toArray w (enters_of Tryz.func188 (by kernel_rfl) rfl) ?_ ?_ hb (by simp;omega) (aIZ aLd aHb)).mono ?_
   ·intro m os dk hdk x y
    have hst:=hlay b off rfl m os dk (by simpa using hdk)
    have:=aEG (aL.start (sortWorld cL w b off m dk os) G.laid hst.globs) (cmpL_eq x y)
    refine this.mono ?_
    rintro e w' ⟨v,rfl,rfl,hx⟩
    exact ⟨rfl,hx.exact⟩
   ·intro j hj
    have hj':j < xs.length:=by simpa using hj
    have:=hc j (cL xs[j]) (by rw [aMf];simp [hj'])
    rw [getElem!_pos xs.toArray j hj]
    simpa using this
   ·rintro e w' ⟨rfl,n,os,rfl⟩
    refine ⟨_,rfl,rfl,hlen.symm,?_⟩
    have:=hlay b off rfl n os (srt yC xs).toArray (by simpa using hlen)
    have he:(xs.toArray.toList.mergeSort fun x y=>!ltOf cmpL y x)=srt yC xs:=by
     unfold srt;congr 1;funext x y;rw [aLd]
    rw [he]
    simpa using this
 ·cases hm
theorem aMy {β:Type} [hQ β]:∀ (l:List β) (i r:Nat) (hi:i < l.length),r < hQ.sz β→(jW l)[i * hQ.sz β+r]?=(hQ.enc l[i])[r]?
 |[],i,r,hi,_=>by simp at hi
 |x::l,0,r,hi,hr=>by
  unfold jW
  rw [List.flatMap_cons,Nat.zero_mul,Nat.zero_add,List.getElem?_append_left (by rw [hQ.len];exact hr)];rfl
 |x::l,i+1,r,hi,hr=>by
  have:=aMy l i r (by simpa using hi) hr
  unfold jW at this ⊢
  rw [List.flatMap_cons,Nat.add_mul,Nat.one_mul,List.getElem?_append_right (by rw [hQ.len];omega),hQ.len]
  rw [show i * hQ.sz β+hQ.sz β+r - hQ.sz β=i * hQ.sz β+r by omega,this];rfl
theorem aMz {β:Type} [hQ β] [Inhabited β] (l:List β):(flatK hQ.enc (hQ.sz β) l.toArray).toList=jW l:=by
 have hz:=hQ.pos (α:=β)
 refine List.ext_getElem? fun t=>?_
 unfold flatK
 by_cases ht:t < l.length * hQ.sz β
 ·have h1:t / hQ.sz β < l.length:=Nat.div_lt_of_lt_mul (by rw [Nat.mul_comm];exact ht)
  have h2:t % hQ.sz β < hQ.sz β:=Nat.mod_lt _ hz
  have h3:=aMy l (t / hQ.sz β) (t % hQ.sz β) h1 h2
  rw [Nat.div_add_mod'] at h3
  rw [h3]
  simp only [Array.toList_map,Array.toList_range,List.getElem?_map,List.size_toArray,List.getElem?_range ht,Option.map_some]
  rw [getElem!_pos l.toArray _ (by simpa using h1)]
  have h4:t % hQ.sz β < (hQ.enc l[t / hQ.sz β]).length:=by rw [hQ.len];exact h2
  rw [List.getElem?_eq_getElem h4]
  simp only [List.getElem_toArray]
  rw [getElem!_pos (hQ.enc l[t / hQ.sz β]) (t % hQ.sz β) h4]
 ·rw [List.getElem?_eq_none (by simp;omega),List.getElem?_eq_none (by rw [vV];omega)]
theorem lib_SortEdge {E:TypeId} {xs:List Edge} {a:Option Addr} {c:Nat} {R:List Edge} (hs:aL G K (aN E K a c xs::L) w) (hm:wZ xs=some R):
  Calls Tryz.prog 85 ([Value.slice a xs.length c,Value.func (.func 81) #[] #[]]:List Value).toArray w (fV fun v w'=>v=Value.tuple #[]∧xs.length=R.length∧aL G K (aN E K a c R::L) w'):=by
 unfold wZ at hm
 split at hm
 ·rename_i hl
  cases hm
  unfold kT at hl
  have hlen:(srt dX xs).length=xs.length:=List.length_mergeSort _
  have hlay:∀ b off,a=some ⟨b,off,none⟩→∀ (m:Nat) (os:Array Obj) (dk:Array Edge),dk.size=xs.length→aL G K (aN E K a c dk.toList::L) (sortWorldK hQ.enc 3 w b off m dk os):=by
   rintro b off rfl m os dk hdk
   unfold sortWorldK putRowK
   refine aL.putRow (i:=0) hs rfl (by simp [hdk]) ?_
   exact aMz dk.toList
  rcases aDa hs (i:=0) rfl with ⟨rfl,rfl⟩|⟨b,off,rfl,hb,hc⟩
  ·refine (Tryz.slices_SortFunc_none_f85 (α:=Edge) none c _ w).mono ?_
   rintro e w' ⟨rfl,rfl⟩
   exact ⟨_,rfl,rfl,hlen.symm,by simpa [srt] using hs⟩
  ·refine (Tryz.slices_SortFunc_total_f85 (α:=Edge) 3 Tryz.isAgg63 Tryz.sizeOf63 hQ.enc (fun _=>rfl) (fun x v hv=>hQ.one x v hv) cmpE (swo_of aLe (fun a=>by cases hx:dX a a with|false=>rfl|true=>exact absurd rfl (aHc hx)) edgeLt_tr aIY) 81 #[] b off c xs.toArray w (enters_of Tryz.func81 (by kernel_rfl) rfl) ?_ ?_ hb (by simp;omega) (aIZ aLe aIY)).mono ?_
   ·intro m os dk hdk x y
    have hst:=hlay b off rfl m os dk (by simpa using hdk)
    have:=aBj (aL.start (sortWorldK hQ.enc 3 w b off m dk os) G.laid hst.globs) (aEg x y)
    refine this.mono ?_
    rintro e w' ⟨v,rfl,rfl,hx⟩
    exact ⟨rfl,hx.exact⟩
   ·intro j hj
    have hf:=aMz xs
    have hj3:j < xs.length * 3:=by have h:=hj;rw [size_flatK] at h;simpa using h
    have hj2:j < (jW xs).length:=by rw [vV];exact hj3
    have:=hc j (jW xs)[j] (by rw [List.getElem?_eq_getElem hj2])
    have e:(flatK hQ.enc 3 xs.toArray)[j]! = (jW xs)[j]:=by
     rw [getElem!_pos (flatK hQ.enc 3 xs.toArray) j hj]
     have:(flatK hQ.enc 3 xs.toArray)[j]=(flatK hQ.enc (hQ.sz Edge) xs.toArray).toList[j]'(by rw [hf];exact hj2):=by simp;rfl
     rw [this]
     simp only [hf]
    rw [e]
    exact this
   ·rintro e w' ⟨rfl,n,os,rfl⟩
    refine ⟨_,rfl,rfl,hlen.symm,?_⟩
    have:=hlay b off rfl n os (srt dX xs).toArray (by simpa using hlen)
    have he:(xs.toArray.toList.mergeSort fun x y=>!ltOf cmpE y x)=srt dX xs:=by
     unfold srt;congr 1;funext x y;rw [aLe]
    rw [he]
    simpa using this
 ·cases hm
end
end Gv
namespace Gv
open Go.Value renaming slice→zS
open Go Go.Proofs Go.RowKit Go.Sort
theorem aKs:∀ a:List Int,mZ a a=0
 |[]=>rfl
 |a::l=>by simp [mZ,aKs l]
theorem aKt:∀ a b:List Int,mZ b a=-mZ a b
 |[],[]=>rfl
 |[],_::_=>rfl
 |_::_,[]=>rfl
 |a::l,b::m=>by
  simp only [mZ]
  split<;>split<;>(try split)<;>first|omega|rfl|exact aKt l m
theorem aKu:∀ {a b:List Int},mZ a b=0→a=b
 |[],[],_=>rfl
 |[],_::_,h=>by simp [mZ] at h
 |_::_,[],h=>by simp [mZ] at h
 |a::l,b::m,h=>by
  simp only [mZ] at h
  split at h
  ·omega
  ·split at h
   ·omega
   ·rw [show a=b by omega,aKu h]
theorem aJa:∀ a b:List Int,mZ a b=-1∨mZ a b=0∨mZ a b=1
 |[],[]=>.inr (.inl rfl)
 |[],_::_=>.inl rfl
 |_::_,[]=>.inr (.inr rfl)
 |a::l,b::m=>by
  simp only [mZ]
  split
  ·exact .inl rfl
  ·split
   ·exact .inr (.inr rfl)
   ·exact aJa l m
theorem aJb:∀ {a b c:List Int},mZ a b < 0→mZ b c < 0→mZ a c < 0
 |[],[],_,h,_=>by simp [mZ] at h
 |[],_::_,[],_,h=>by simp [mZ] at h
 |[],_::_,_::_,_,_=>by simp [mZ]
 |_::_,[],_,h,_=>by simp [mZ] at h
 |_::_,_::_,[],_,h=>by simp [mZ] at h
 |a::l,b::m,c::n,h1,h2=>by
  simp only [mZ] at *
  split at h1
  ·split at h2
   ·rw [if_pos (by omega)];omega
   ·split at h2
    ·omega
    ·rw [if_pos (by omega)];omega
  ·split at h1
   ·omega
   ·split at h2
    ·rw [if_pos (by omega)];omega
    ·split at h2
     ·omega
     ·rw [if_neg (by omega),if_neg (by omega)]
      exact aJb h1 h2
theorem rowLt_irr (a:List Int):qB a a=false:=by simp [qB,aKs]
theorem rowLt_tr {a b c:List Int} (h1:qB a b=true) (h2:qB b c=true):qB a c=true:=by
 simp only [qB,decide_eq_true_eq] at *
 exact aJb h1 h2
theorem rowLt_tri (a b:List Int):qB a b=true∨a=b∨qB b a=true:=by
 simp only [qB,decide_eq_true_eq,aKt a b]
 rcases aJa a b with h|h|h
 ·exact .inl (by omega)
 ·exact .inr (.inl (aKu h))
 ·exact .inr (.inr (by omega))
theorem cmpInt_eq (a b:Int):fB a b=some (if a < b then -1 else if b < a then 1 else 0):=by
 unfold fB lU
 simp only [bne_self_eq_false,aJ]
 by_cases h1:a < b
 ·simp [h1]
 ·by_cases h2:b < a<;>simp [h1,h2]
theorem cmpS_end {a b:List Int} (ha:a.length < kT):cV a b (a.length:Int)=some (.inr (.inl ())):=by
 unfold cV
 rw [show decide ((a.length:Int) < (a.length:Int))=false from decide_eq_false (by omega)]
 rfl
theorem cmpS_one {a b:List Int} {k:Nat} (h:k < a.length) (h2:b.length≤k):cV a b (k:Int)=some (.inr (.inr 1)):=by
 unfold cV
 rw [show decide ((k:Int) < (a.length:Int))=true from decide_eq_true (by omega),if_pos rfl,show ix a (k:Int)=some a[k] by simp [ix,h],aJ,show decide ((b.length:Int)≤(k:Int))=true from decide_eq_true (by omega),if_pos rfl]
theorem aJc {a b:List Int} {k:Nat} (h:k < a.length) (h2:k < b.length) (hb:b.length < kT):
  cV a b (k:Int)=some (if a[k] < b[k] then .inr (.inr (-1)) else if b[k] < a[k] then .inr (.inr 1) else .inl ((k+1:Nat):Int)):=by
 unfold kT at hb
 unfold cV
 rw [show decide ((k:Int) < (a.length:Int))=true from decide_eq_true (by omega),if_pos rfl,show ix a (k:Int)=some a[k] by simp [ix,h],aJ,show decide ((b.length:Int)≤(k:Int))=false from decide_eq_false (by omega),if_neg (by simp),show ix b (k:Int)=some b[k] by simp [ix,h2],aJ,cmpInt_eq,aJ,show wr ((k:Int)+1)=((k+1:Nat):Int) by rw [iM]<;>omega]
 by_cases h1:a[k] < b[k]
 ·simp [h1]
 ·by_cases h3:b[k] < a[k]<;>simp [h1,h3]
theorem cmpJ_eq (a b:List Int):eB a b=some (if a.length < b.length then -1 else 0):=by
 unfold eB
 by_cases h:a.length < b.length
 ·rw [show decide ((a.length:Int) < (b.length:Int))=true from decide_eq_true (by omega)];simp [h]
 ·rw [show decide ((a.length:Int) < (b.length:Int))=false from decide_eq_false (by omega)];simp [h]
theorem aHd {a b:List Int} (ha:a.length < kT) (hb:b.length < kT):∀ (n k:Nat),k+n=a.length→k≤b.length→
  ∃ x,loop (fun s:Int=>cV a b s) (k:Int)=some x∧((x=.inl ()∧mZ (a.drop k) (b.drop k)=if a.length < b.length then -1 else 0)∨x=.inr (mZ (a.drop k) (b.drop k))):=by
 intro n
 induction n with
 |zero=>
  intro k hk hkb
  obtain rfl:k=a.length:=by omega
  refine ⟨.inl (),by rw [cN,cmpS_end ha],.inl ⟨rfl,?_⟩⟩
  rw [List.drop_eq_nil_of_le (Nat.le_refl _)]
  by_cases hlt:a.length < b.length
  ·rw [if_pos hlt,List.drop_eq_getElem_cons hlt];rfl
  ·rw [if_neg hlt,List.drop_eq_nil_of_le (by omega)];rfl
 |succ n ih=>
  intro k hk hkb
  have hka:k < a.length:=by omega
  by_cases hbk:b.length≤k
  ·refine ⟨.inr 1,by rw [cN,cmpS_one hka hbk],.inr ?_⟩
   rw [List.drop_eq_getElem_cons hka,List.drop_eq_nil_of_le hbk];rfl
  ·have hk2:k < b.length:=by omega
   have e1:=List.drop_eq_getElem_cons hka
   have e2:=List.drop_eq_getElem_cons hk2
   by_cases h1:a[k] < b[k]
   ·exact ⟨.inr (-1),by rw [cN,aJc hka hk2 hb,if_pos h1],.inr (by rw [e1,e2];simp [mZ,h1])⟩
   ·by_cases h2:b[k] < a[k]
    ·exact ⟨.inr 1,by rw [cN,aJc hka hk2 hb,if_neg h1,if_pos h2],.inr (by rw [e1,e2];simp [mZ,h1,h2])⟩
    ·obtain ⟨x,hx,h⟩:=ih (k+1) (by omega) (by omega)
     refine ⟨x,by rw [cN,aJc hka hk2 hb,if_neg h1,if_neg h2];exact hx,?_⟩
     have:mZ (a.drop k) (b.drop k)=mZ (a.drop (k+1)) (b.drop (k+1)):=by rw [e1,e2];simp [mZ,h1,h2]
     rw [this];exact h
theorem aET {a b:List Int} (ha:a.length < kT) (hb:b.length < kT):jA a b=some (mZ a b):=by
 unfold jA
 obtain ⟨x,hx,h⟩:=aHd ha hb a.length 0 (by omega) (by omega)
 rw [show ((0:Nat):Int)=0 from rfl] at hx
 rw [hx,aJ]
 simp only [List.drop_zero] at h
 rcases h with ⟨rfl,h⟩|rfl
 ·rw [h];exact cmpJ_eq a b
 ·rfl
theorem kS.perm {A B:List qD} (p:A.Perm B):∀ {h:Hp},kS A h→kS B h:=by
 induction p with
 |nil=>exact fun s=>s
 |cons x _ ih=>exact fun ⟨h1,h2,a,d,l1,l2,r⟩=>⟨h1,h2,a,d,l1,l2,ih r⟩
 |swap x y l=>exact fun s=>kS.sel (is:=[1,0]) (n:=2) rfl s
 |trans _ _ ih1 ih2=>exact fun s=>ih2 (ih1 s)
theorem aDX {β:Type} (xs:List β):(List.finRange xs.length).map (fun i=>xs[i])=xs:=by
 apply List.ext_getElem?
 intro i
 by_cases h:i < xs.length<;>simp [h]
theorem aDY {β γ δ:Type} (f:β→γ→δ) (hds:List β) (xs:List γ) (hl:hds.length=xs.length) (p:List (Fin xs.length)):
  List.zipWith f (p.map fun i=>hds[i.val]'(by rw [hl];exact i.isLt)) (p.map fun i=>xs[i])=p.map fun i=>f (hds[i.val]'(by rw [hl];exact i.isLt)) xs[i]:=by
 induction p with
 |nil=>rfl
 |cons i p ih=>simp only [List.map_cons,List.zipWith_cons_cons,ih]
theorem lib_SortRows {G:Env} {K:Hp} {L:List qD} {w:World} {E:TypeId} {xs:List (List Int)} {a:Option Addr} {c:Nat} {hds:List (Dp.Hd (List Int))} {R:List (List Int)} (hs:aL G K (aN E K a c (dR hds xs)::rows [2] hds xs::L) w) (hl:hds.length=xs.length) (hm:aBU xs=some R):
  Calls Tryz.prog 155 ([zS a xs.length c,Value.func (.func 125) #[] #[]]:List Value).toArray w (fV fun v w'=>∃ hd:List (Dp.Hd (List Int)),v=Value.tuple #[]∧xs.length=R.length∧List.length hd=List.length R∧aL G K (aN E K a c (dR hd R)::rows [2] hd R::L) w'):=by
 unfold aBU at hm
 split at hm
 ·rename_i hc
  obtain ⟨hlim,hnd,hrl⟩:=hc
  cases hm
  have hlen:(srt qB xs).length=xs.length:=List.length_mergeSort _
  by_cases hx:xs=[]
  ·
   subst hx
   obtain rfl:hds=[]:=List.length_eq_zero_iff.1 hl
   have hR:srt qB ([]:List (List Int))=[]:=by simp [srt]
   rw [hR]
   rcases aDa hs (i:=0) rfl with ⟨rfl,_⟩|⟨b,off,rfl,hb,_⟩
   ·refine (Tryz.slices_SortFunc_none_f155 (α:=aZ) none c _ w).mono ?_
    rintro e w' ⟨rfl,rfl⟩
    exact ⟨_,rfl,[],rfl,rfl,rfl,hs⟩
   ·have hlay:∀ (m:Nat) (os:Array Obj) (dk:Array Unit),dk.size=0→aL G K (aN E K (some ⟨b,off,none⟩) c (dR ([]:List (Dp.Hd (List Int))) [])::rows [2] ([]:List (Dp.Hd (List Int))) []::L) (sortWorld (fun _:Unit=>zS none 0 0) w b off m dk os):=by
     intro m os dk hdk
     unfold sortWorld
     rw [aDS]
     refine aL.putRow (i:=0) hs rfl rfl ?_
     have:dk.toList=[]:=by cases dk;simpa using hdk
     simp [this,dR,jW]
    refine (Tryz.slices_SortFunc_total_f155 (α:=Unit) (fun _=>zS none 0 0) (fun _=>rfl) (fun _ _=>0) ⟨fun _=>rfl,fun _ _ _ h=>(by simp [ltOf] at h),fun _ _ _ _ _=>rfl⟩ 125 #[] b off c #[] w (enters_of Tryz.func125 (by kernel_rfl) rfl) ?_ (fun j hj=>by simp at hj) hb (by simp) (fun _ _ _ _=>rfl)).mono ?_
    ·intro m os dk hdk x y
     have hst:=hlay m os dk hdk
     have:=nM (aL.start (sortWorld (fun _:Unit=>zS none 0 0) w b off m dk os) G.laid hst.globs) (aHS (α:=Int) _) (aHS (α:=Int) _) (aET (a:=[]) (b:=[]) (by decide) (by decide))
     refine this.mono ?_
     rintro e w' ⟨v,rfl,rfl,hx⟩
     exact ⟨rfl,hx.exact⟩
    ·rintro e w' ⟨rfl,n,os,rfl⟩
     exact ⟨_,rfl,[],rfl,rfl,rfl,hlay n os _ (by simp)⟩
  ·have hpos:0 < xs.length:=List.length_pos_iff.2 hx
   have hh:∀ i:Fin xs.length,i.val < hds.length:=fun i=>by rw [hl];exact i.isLt
   obtain ⟨K',h1,hA,l1,lk,s1,back⟩:=aL.lend (i:=1) hs rfl
   have s1:aL G K' (aN E K a c (dR hds xs)::L) w:=s1
   have hrd:∀ i:Fin xs.length,bT K' (hds[i.val]'(hh i)).1 (hds[i.val]'(hh i)).2 xs[i]:=fun i=>
    aIe (aKL hA l1 (List.getElem?_eq_getElem (hh i)) (List.getElem?_eq_getElem i.isLt))
   have hne:dR hds xs≠[]:=by
    intro e
    have:=uX (xs:=xs) hl
    rw [e] at this;simp at this;omega
   rcases aDa s1 (i:=0) rfl with ⟨_,h⟩|⟨b,off,rfl,hb,hcell⟩
   ·exact absurd h hne
   haveI:Inhabited (Fin xs.length):=⟨⟨0,hpos⟩⟩
   let enc:Fin xs.length→Value:=fun i=>zS (hds[i.val]'(hh i)).1 (xs[i]).length (hds[i.val]'(hh i)).2
   let cf:Fin xs.length→Fin xs.length→Int:=fun i j=>mZ xs[i] xs[j]
   let hdr:Fin xs.length→Cells 0:=fun i=>aKd (hds[i.val]'(hh i)) xs[i]
   have hheads:∀ p:List (Fin xs.length),dR (p.map fun i=>hds[i.val]'(hh i)) (p.map fun i=>xs[i])=p.map hdr:=fun p=>aDY aKd hds xs hl p
   have hds_eq:(List.finRange xs.length).map (fun i=>hds[i.val]'(hh i))=hds:=by
    apply List.ext_getElem?
    intro i
    by_cases h:i < xs.length
    ·simp [h,hl]
    ·simp [h,hl]
   have hlay:∀ (m:Nat) (os:Array Obj) (dk:Array (Fin xs.length)),dk.size=xs.length→aL G K' (aN E K (some ⟨b,off,none⟩) c (dk.toList.map hdr)::L) (sortWorld enc w b off m dk os):=by
    intro m os dk hdk
    unfold sortWorld
    rw [aDS]
    refine aL.putRow (i:=0) s1 rfl (by simp [uX hl,hdk]) ?_
    simp only [Array.toList_map]
    show _=(dk.toList.map hdr).flatMap hQ.enc
    generalize dk.toList=l
    induction l with
    |nil=>rfl
    |cons i l ih=>simp only [List.map_cons,List.flatMap_cons,ih];rfl
   have hlt:∀ i j,ltOf cf i j=qB xs[i] xs[j]:=fun i j=>rfl
   have htri:∀ i j:Fin xs.length,qB xs[i] xs[j]=true∨i=j∨qB xs[j] xs[i]=true:=fun i j=>by
    rcases rowLt_tri xs[i] xs[j] with h|h|h
    ·exact .inl h
    ·exact .inr (.inl (Fin.ext ((List.getElem_inj hnd).1 h)))
    ·exact .inr (.inr h)
   have hsz:(List.finRange xs.length).toArray.size=xs.length:=by simp
   have key:=fun h1 h2=>Tryz.slices_SortFunc_total_f155 (α:=Fin xs.length) enc (fun _=>rfl) cf (swo_of (lt:=fun i j=>qB xs[i] xs[j]) hlt (fun i=>rowLt_irr _) (fun h1 h2=>rowLt_tr h1 h2) htri) 125 #[] b off c (List.finRange xs.length).toArray w (enters_of Tryz.func125 (by kernel_rfl) rfl) h1 h2 hb (by rw [hsz];unfold kT at hlim;omega) (aIZ (lt:=fun i j=>qB xs[i] xs[j]) hlt htri)
   rw [hsz] at key
   refine (key ?_ ?_).mono ?_
   ·intro m os dk hdk x y
    have hst:=hlay m os dk (by simpa using hdk)
    have:=nM (aL.start (sortWorld enc w b off m dk os) G.laid hst.globs) ((hrd x).mono hst.know) ((hrd y).mono hst.know) (aET (hrl _ (List.getElem_mem _)) (hrl _ (List.getElem_mem _)))
    refine this.mono ?_
    rintro e w' ⟨v,rfl,rfl,hx⟩
    exact ⟨rfl,hx.exact⟩
   ·intro j hj
    have hj':j < xs.length:=by simpa using hj
    have:=hcell j (enc ⟨j,hj'⟩) (by
     have e0:=hheads (List.finRange xs.length)
     rw [hds_eq,aDX] at e0
     rw [e0]
     show ((List.finRange xs.length).map hdr |>.flatMap hQ.enc)[j]?=_
     have:((List.finRange xs.length).map hdr).flatMap hQ.enc=(List.finRange xs.length).map enc:=by
      generalize List.finRange xs.length=l
      induction l with
      |nil=>rfl
      |cons i l ih=>simp only [List.map_cons,List.flatMap_cons,ih];rfl
     rw [this];simp [hj'])
    rw [getElem!_pos _ j hj]
    simpa using this
   ·rintro e w' ⟨rfl,n,os,rfl⟩
    have hp:((List.finRange xs.length).toArray.toList.mergeSort fun x y=>!ltOf cf y x).Perm (List.finRange xs.length):=List.mergeSort_perm _ _
    have hR:((List.finRange xs.length).toArray.toList.mergeSort fun x y=>!ltOf cf y x).map (fun i=>xs[i])=srt qB xs:=by
     unfold srt
     have:=List.map_mergeSort (r:=fun x y=>!ltOf cf y x) (s:=fun a b=>!qB b a) (f:=fun i:Fin xs.length=>xs[i]) (l:=List.finRange xs.length) (fun a _ b _=>rfl)
     rw [aDX] at this
     exact this
    generalize ((List.finRange xs.length).toArray.toList.mergeSort fun x y=>!ltOf cf y x)=p at *
    have hpl:p.length=xs.length:=by rw [hp.length_eq];simp
    have h0:=back _ _ (hlay n os p.toArray (by simpa using hpl))
    rw [←hR]
    refine ⟨_,rfl,p.map (fun i=>hds[i.val]'(hh i)),rfl,by simp [hpl],by simp,?_⟩
    rw [hheads p]
    have h2:aL G K (rows [2] (p.map fun i=>hds[i.val]'(hh i)) (p.map fun i=>xs[i])::aN E K (some ⟨b,off,none⟩) c (p.map hdr)::L) (sortWorld enc w b off n p.toArray os):=by
     refine aL.weak (i:=0) h0 rfl (fun _ hA=>?_)
     refine kS.perm ?_ hA
     unfold pJ
     rw [aDY (Dp.pcs [2]) hds xs hl p]
     have e1:List.zipWith (Dp.pcs [2]) hds xs=(List.finRange xs.length).map fun i=>Dp.pcs [2] (hds[i.val]'(hh i)) xs[i]:=by
      have:=aDY (Dp.pcs [2]) hds xs hl (List.finRange xs.length)
      rwa [hds_eq,aDX] at this
     rw [e1,←List.flatMap_def,←List.flatMap_def]
     exact (hp.symm).flatMap_right _
    exact aL.arr 2 [1,0] h2 rfl
 ·cases hm
end Gv
