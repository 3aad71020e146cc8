/- Contracts of functions of Go's library, said of heaps of pieces. -/
import Derived.Test.YtiipffjapfalhaaGreatDoorJWk0
import Derived.Test.YtiipffjapfalhaaGreatDoorJP11
set_option linter.all false
namespace Gv
open Go Go.Proofs Go.RowKit Go.Sort
section
variable {G:nX} {K:Hp} {L:List fJ} {w:World}
def cmpL (a b:aO):Int:=if a == b then 0 else if a == cF then -1 else if b == cF then 1 else cmpB a b
theorem cmpL_eq (a b:aO):aCR a b=some (cmpL a b):=by
 unfold aCR cmpL
 rw [show ([116,97,117]:aO)=cF from rfl]
 cases a == b<;>cases a == cF<;>cases b == cF<;>rfl
theorem aTn (a b:aO):ltOf cmpL a b=aBg a b:=by
 unfold ltOf cmpL aBg cmpB
 by_cases h1:a=b
 ·simp [h1]
 ·by_cases h2:a=cF
  ·subst h2;simp [h1]
  ·by_cases h3:b=cF
   ·simp [h1,h2,h3]
   ·simp only [h1,h2,h3,beq_iff_eq,if_false]
    cases nR a b<;>rfl
def cmpE (a b:Edge):Int:=or3 (aPj a.F b.F) (aPj a.B b.B) (aPj a.To b.To)
theorem aTo (a b:Edge):ltOf cmpE a b=dC a b:=by
 unfold ltOf cmpE
 have:=cmpE_ge a b
 cases hx:dC a b with
 |true=>rw [hx] at this;simp at this;simpa using this
 |false=>rw [hx] at this;simp at this;simpa using this
theorem aQB (a b:Edge):dC a b=true\/a=b\/dC b a=true:=by
 rw [uW,uW]
 obtain ⟨a1,a2,a3⟩:=a
 obtain ⟨b1,b2,b3⟩:=b
 simp only [Edge.mk.injEq]
 omega
theorem edgeLt_tr {a b c:Edge} (h1:dC a b=true) (h2:dC b c=true):dC a c=true:=by
 rw [uW] at *;omega
theorem swo_of {α:Type} {lt lt':α->α->Bool} (he:∀ a b,lt' a b=lt a b) (irr:∀ a,lt a a=false) (tr:∀ {a b c},lt a b=true->lt b c=true->lt a c=true) (tri:∀ a b,lt a b=true\/a=b\/lt b a=true):Sort.SWO lt':=by
 obtain rfl:lt'=lt:=by funext a b;exact he a b
 refine ⟨irr,fun x y z=>tr,fun x y z h1 h2=>?_⟩
 rcases tri x y with h|h|h
 ·rw [h] at h1;cases h1
 ·subst h;exact h2
 ·rcases tri y z with g|g|g
  ·rw [g] at h2;cases h2
  ·subst g;exact h1
  ·cases hx:lt' x z with
   |false=>rfl
   |true=>
    have:=tr (tr g h) hx
    rw [irr] at this;cases this
theorem aUI {α:Type} {lt lt':α->α->Bool} (he:∀ a b,lt' a b=lt a b) (tri:∀ a b,lt a b=true\/a=b\/lt b a=true) (x y:α) (h1:lt' x y=false) (h2:lt' y x=false):x=y:=by
 rw [he] at h1 h2
 rcases tri x y with h|h|h
 ·rw [h] at h1;cases h1
 ·exact h
 ·rw [h] at h2;cases h2
theorem lib_SortStr {E:TypeId} {xs:List aO} {a:Option Addr} {c:Nat} {R:List aO} (hs:aF G K (aP E K a c xs::L) w) (hm:aGk xs=some R):
  Calls Tryz.prog 167 ([Value.slice a xs.length c,Value.func (.func 168) #[] #[]]:List Value).toArray w (dD fun v w'=>v=Value.tuple #[]/\xs.length=R.length/\aF G K (aP E K a c R::L) w'):=by
 unfold aGk at hm
 split at hm
 ·rename_i hl
  cases hm
  unfold gN at hl
  have hlen:(srt aBg xs).length=xs.length:=List.length_mergeSort _
  have hlay:∀ b off,a=some ⟨b,off,none⟩->∀ (m:Nat) (os:Array Obj) (dk:Array aO),dk.size=xs.length->aF G K (aP E K a c dk.toList::L) (sortWorld str w b off m dk os):=by
   rintro b off rfl m os dk hdk
   unfold sortWorld
   rw [aWe]
   refine aF.putRow (i:=0) hs rfl (by simp [hdk]) ?_
   rw [aUA];simp
  rcases aKa hs (i:=0) rfl with ⟨rfl,rfl⟩|⟨b,off,rfl,hb,hc⟩
  ·refine (Tryz.slices_SortFunc_none_f167 (α:=aO) none c _ w).mono ?_
   rintro e w' ⟨rfl,rfl⟩
   exact ⟨_,rfl,rfl,hlen.symm,by simpa [srt] using hs⟩
  ·refine (Tryz.slices_SortFunc_total_f167 (α:=aO) str (fun _=>rfl) cmpL (swo_of aTn aSe aUH aOa) 168 #[] b off c xs.toArray w (enters_of Tryz.func168 (by kernel_rfl) rfl) ?_ ?_ hb (by simp;omega) (aUI aTn aOa)).mono ?_
   ·intro m os dk hdk x y
    have hst:=hlay b off rfl m os dk (by simpa using hdk)
    have:=aCB (cmpL_eq x y) (aF.start (sortWorld str w b off m dk os) G.laid hst.globs)
    refine this.mono ?_
    rintro e w' ⟨v,rfl,rfl,hx⟩
    exact ⟨rfl,hx.exact⟩
   ·intro j hj
    have hj':j < xs.length:=by simpa using hj
    have:=hc j (str xs[j]) (by rw [aUA];simp [hj'])
    rw [getElem!_pos xs.toArray j hj]
    simpa using this
   ·rintro e w' ⟨rfl,n,os,rfl⟩
    refine ⟨_,rfl,rfl,hlen.symm,?_⟩
    have:=hlay b off rfl n os (srt aBg xs).toArray (by simpa using hlen)
    have he:(xs.toArray.toList.mergeSort fun x y=>!ltOf cmpL y x)=srt aBg xs:=by
     unfold srt;congr 1;funext x y;rw [aTn]
    rw [he]
    simpa using this
 ·cases hm
theorem aUJ {β:Type} [eL β]:∀ (l:List β) (i r:Nat) (hi:i < l.length),r < eL.sz β->(flat l)[i * eL.sz β+r]?=(eL.enc l[i])[r]?
 |[],i,r,hi,_=>by simp at hi
 |x::l,0,r,hi,hr=>by
  unfold flat
  rw [List.flatMap_cons,Nat.zero_mul,Nat.zero_add,List.getElem?_append_left (by rw [eL.len];exact hr)];rfl
 |x::l,i+1,r,hi,hr=>by
  have:=aUJ l i r (by simpa using hi) hr
  unfold flat at this ⊢
  rw [List.flatMap_cons,Nat.add_mul,Nat.one_mul,List.getElem?_append_right (by rw [eL.len];omega),eL.len]
  rw [show i * eL.sz β+eL.sz β+r - eL.sz β=i * eL.sz β+r by omega,this];rfl
theorem aUK {β:Type} [eL β] [Inhabited β] (l:List β):(flatK eL.enc (eL.sz β) l.toArray).toList=flat l:=by
 have hz:=eL.pos (α:=β)
 refine List.ext_getElem? fun t=>?_
 unfold flatK
 by_cases ht:t < l.length * eL.sz β
 ·have h1:t / eL.sz β < l.length:=Nat.div_lt_of_lt_mul (by rw [Nat.mul_comm];exact ht)
  have h2:t % eL.sz β < eL.sz β:=Nat.mod_lt _ hz
  have h3:=aUJ l (t / eL.sz β) (t % eL.sz β) h1 h2
  rw [Nat.div_add_mod'] at h3
  rw [h3]
  simp only [Array.toList_map,Array.toList_range,List.getElem?_map,List.size_toArray,List.getElem?_range ht,Option.map_some]
  rw [getElem!_pos l.toArray _ (by simpa using h1)]
  have h4:t % eL.sz β < (eL.enc l[t / eL.sz β]).length:=by rw [eL.len];exact h2
  rw [List.getElem?_eq_getElem h4]
  simp only [List.getElem_toArray]
  rw [getElem!_pos (eL.enc l[t / eL.sz β]) (t % eL.sz β) h4]
 ·rw [List.getElem?_eq_none (by simp;omega),List.getElem?_eq_none (by rw [vZ];omega)]
theorem lib_SortEdge {E:TypeId} {xs:List Edge} {a:Option Addr} {c:Nat} {R:List Edge} (hs:aF G K (aP E K a c xs::L) w) (hm:aEr xs=some R):
  Calls Tryz.prog 171 ([Value.slice a xs.length c,Value.func (.func 172) #[] #[]]:List Value).toArray w (dD fun v w'=>v=Value.tuple #[]/\xs.length=R.length/\aF G K (aP E K a c R::L) w'):=by
 unfold aEr at hm
 split at hm
 ·rename_i hl
  cases hm
  unfold gN at hl
  have hlen:(srt dC xs).length=xs.length:=List.length_mergeSort _
  have hlay:∀ b off,a=some ⟨b,off,none⟩->∀ (m:Nat) (os:Array Obj) (dk:Array Edge),dk.size=xs.length->aF G K (aP E K a c dk.toList::L) (sortWorldK eL.enc 3 w b off m dk os):=by
   rintro b off rfl m os dk hdk
   unfold sortWorldK putRowK
   refine aF.putRow (i:=0) hs rfl (by simp [hdk]) ?_
   exact aUK dk.toList
  rcases aKa hs (i:=0) rfl with ⟨rfl,rfl⟩|⟨b,off,rfl,hb,hc⟩
  ·refine (Tryz.slices_SortFunc_none_f171 (α:=Edge) none c _ w).mono ?_
   rintro e w' ⟨rfl,rfl⟩
   exact ⟨_,rfl,rfl,hlen.symm,by simpa [srt] using hs⟩
  ·refine (Tryz.slices_SortFunc_total_f171 (α:=Edge) 3 Tryz.isAgg92 Tryz.sizeOf92 eL.enc (fun _=>rfl) (fun x v hv=>eL.one x v hv) cmpE (swo_of aTo (fun a=>by cases hx:dC a a with|false=>rfl|true=>exact absurd rfl (aSf hx)) edgeLt_tr aQB) 172 #[] b off c xs.toArray w (enters_of Tryz.func172 (by kernel_rfl) rfl) ?_ ?_ hb (by simp;omega) (aUI aTo aQB)).mono ?_
   ·intro m os dk hdk x y
    have hst:=hlay b off rfl m os dk (by simpa using hdk)
    have:=aDd (aIp x y) (aF.start (sortWorldK eL.enc 3 w b off m dk os) G.laid hst.globs)
    refine this.mono ?_
    rintro e w' ⟨v,rfl,rfl,hx⟩
    exact ⟨rfl,hx.exact⟩
   ·intro j hj
    have hf:=aUK xs
    have hj3:j < xs.length * 3:=by have h:=hj;rw [size_flatK] at h;simpa using h
    have hj2:j < (flat xs).length:=by rw [vZ];exact hj3
    have:=hc j (flat xs)[j] (by rw [List.getElem?_eq_getElem hj2])
    have e:(flatK eL.enc 3 xs.toArray)[j]! = (flat xs)[j]:=by
     rw [getElem!_pos (flatK eL.enc 3 xs.toArray) j hj]
     have:(flatK eL.enc 3 xs.toArray)[j]=(flatK eL.enc (eL.sz Edge) xs.toArray).toList[j]'(by rw [hf];exact hj2):=by simp;rfl
     rw [this]
     simp only [hf]
    rw [e]
    exact this
   ·rintro e w' ⟨rfl,n,os,rfl⟩
    refine ⟨_,rfl,rfl,hlen.symm,?_⟩
    have:=hlay b off rfl n os (srt dC xs).toArray (by simpa using hlen)
    have he:(xs.toArray.toList.mergeSort fun x y=>!ltOf cmpE y x)=srt dC xs:=by
     unfold srt;congr 1;funext x y;rw [aTo]
    rw [he]
    simpa using this
 ·cases hm
end
end Gv
namespace Gv
open Go Go.Proofs Go.RowKit Go.Sort
theorem cmpInt_eq (a b:Int):dB a b=some (if a < b then -1 else if b < a then 1 else 0):=by
 unfold dB kT
 simp only [bne_self_eq_false,aA]
 by_cases h1:a < b
 ·simp [h1]
 ·by_cases h2:b < a<;>simp [h1,h2]
theorem cmpS_end {a b:List Int} (ha:a.length < gN):cV a b (a.length:Int)=some (.inr (.inl ())):=by
 unfold cV
 rw [show decide ((a.length:Int) < (a.length:Int))=false from decide_eq_false (by omega)]
 rfl
theorem cmpS_one {a b:List Int} {k:Nat} (h:k < a.length) (h2:b.length<=k):cV a b (k:Int)=some (.inr (.inr 1)):=by
 unfold cV
 rw [show decide ((k:Int) < (a.length:Int))=true from decide_eq_true (by omega),if_pos rfl,show ix a (k:Int)=some a[k] by simp [ix,h],aA,show decide ((b.length:Int)<=(k:Int))=true from decide_eq_true (by omega),if_pos rfl]
theorem aQC {a b:List Int} {k:Nat} (h:k < a.length) (h2:k < b.length) (hb:b.length < gN):
  cV a b (k:Int)=some (if a[k] < b[k] then .inr (.inr (-1)) else if b[k] < a[k] then .inr (.inr 1) else .inl ((k+1:Nat):Int)):=by
 unfold gN at hb
 unfold cV
 rw [show decide ((k:Int) < (a.length:Int))=true from decide_eq_true (by omega),if_pos rfl,show ix a (k:Int)=some a[k] by simp [ix,h],aA,show decide ((b.length:Int)<=(k:Int))=false from decide_eq_false (by omega),if_neg (by simp),show ix b (k:Int)=some b[k] by simp [ix,h2],aA,cmpInt_eq,aA,show wr ((k:Int)+1)=((k+1:Nat):Int) by rw [eV]<;>omega]
 by_cases h1:a[k] < b[k]
 ·simp [h1]
 ·by_cases h3:b[k] < a[k]<;>simp [h1,h3]
theorem cmpJ_eq (a b:List Int):gJ a b=some (if a.length < b.length then -1 else 0):=by
 unfold gJ
 by_cases h:a.length < b.length
 ·rw [show decide ((a.length:Int) < (b.length:Int))=true from decide_eq_true (by omega)];simp [h]
 ·rw [show decide ((a.length:Int) < (b.length:Int))=false from decide_eq_false (by omega)];simp [h]
theorem aOb {a b:List Int} (ha:a.length < gN) (hb:b.length < gN):∀ (n k:Nat),k+n=a.length->k<=b.length->
  ∃ x,loop (fun s:Int=>cV a b s) (k:Int)=some x/\((x=.inl ()/\sA (a.drop k) (b.drop k)=if a.length < b.length then -1 else 0)\/x=.inr (sA (a.drop k) (b.drop k))):=by
 intro n
 induction n with
 |zero=>
  intro k hk hkb
  obtain rfl:k=a.length:=by omega
  refine ⟨.inl (),by rw [bF,cmpS_end ha],.inl ⟨rfl,?_⟩⟩
  rw [List.drop_eq_nil_of_le (Nat.le_refl _)]
  by_cases hlt:a.length < b.length
  ·rw [if_pos hlt,List.drop_eq_getElem_cons hlt];rfl
  ·rw [if_neg hlt,List.drop_eq_nil_of_le (by omega)];rfl
 |succ n ih=>
  intro k hk hkb
  have hka:k < a.length:=by omega
  by_cases hbk:b.length<=k
  ·refine ⟨.inr 1,by rw [bF,cmpS_one hka hbk],.inr ?_⟩
   rw [List.drop_eq_getElem_cons hka,List.drop_eq_nil_of_le hbk];rfl
  ·have hk2:k < b.length:=by omega
   have e1:=List.drop_eq_getElem_cons hka
   have e2:=List.drop_eq_getElem_cons hk2
   by_cases h1:a[k] < b[k]
   ·exact ⟨.inr (-1),by rw [bF,aQC hka hk2 hb,if_pos h1],.inr (by rw [e1,e2];simp [sA,h1])⟩
   ·by_cases h2:b[k] < a[k]
    ·exact ⟨.inr 1,by rw [bF,aQC hka hk2 hb,if_neg h1,if_pos h2],.inr (by rw [e1,e2];simp [sA,h1,h2])⟩
    ·obtain ⟨x,hx,h⟩:=ih (k+1) (by omega) (by omega)
     refine ⟨x,by rw [bF,aQC hka hk2 hb,if_neg h1,if_neg h2];exact hx,?_⟩
     have:sA (a.drop k) (b.drop k)=sA (a.drop (k+1)) (b.drop (k+1)):=by rw [e1,e2];simp [sA,h1,h2]
     rw [this];exact h
theorem aQD {a b:List Int} (ha:a.length < gN) (hb:b.length < gN):fN a b=some (sA a b):=by
 unfold fN
 obtain ⟨x,hx,h⟩:=aOb ha hb a.length 0 (by omega) (by omega)
 rw [show ((0:Nat):Int)=0 from rfl] at hx
 rw [hx,aA]
 simp only [List.drop_zero] at h
 rcases h with ⟨rfl,h⟩|rfl
 ·rw [h];exact cmpJ_eq a b
 ·rfl
theorem fL.perm {A B:List fJ} (p:A.Perm B):∀ {h:Hp},fL A h->fL B h:=by
 induction p with
 |nil=>exact fun s=>s
 |cons x _ ih=>exact fun ⟨h1,h2,a,d,l1,l2,r⟩=>⟨h1,h2,a,d,l1,l2,ih r⟩
 |swap x y l=>exact fun s=>fL.sel (is:=[1,0]) (n:=2) rfl s
 |trans _ _ ih1 ih2=>exact fun s=>ih2 (ih1 s)
theorem aHI {β:Type} (xs:List β):(List.finRange xs.length).map (fun i=>xs[i])=xs:=by
 apply List.ext_getElem?
 intro i
 by_cases h:i < xs.length<;>simp [h]
theorem aHJ {β γ δ:Type} (f:β->γ->δ) (hds:List β) (xs:List γ) (hl:hds.length=xs.length) (p:List (Fin xs.length)):
  List.zipWith f (p.map fun i=>hds[i.val]'(by rw [hl];exact i.isLt)) (p.map fun i=>xs[i])=p.map fun i=>f (hds[i.val]'(by rw [hl];exact i.isLt)) xs[i]:=by
 induction p with
 |nil=>rfl
 |cons i p ih=>simp only [List.map_cons,List.zipWith_cons_cons,ih]
end Gv
namespace Gv
theorem aSg:∀ a b:List Int,sA b a=-sA a b
 |[],[]=>rfl
 |[],_::_=>rfl
 |_::_,[]=>rfl
 |a::l,b::m=>by
  simp only [sA]
  split<;>split<;>(try split)<;>first|omega|rfl|exact aSg l m
theorem aSh:∀ {a b:List Int},sA a b=0->a=b
 |[],[],_=>rfl
 |[],_::_,h=>by simp [sA] at h
 |_::_,[],h=>by simp [sA] at h
 |a::l,b::m,h=>by
  simp only [sA] at h
  split at h
  ·omega
  ·split at h
   ·omega
   ·rw [show a=b by omega,aSh h]
theorem aQE:∀ {a b c:List Int},sA a b < 0->sA b c < 0->sA a c < 0
 |[],[],_,h,_=>by simp [sA] at h
 |[],_::_,[],_,h=>by simp [sA] at h
 |[],_::_,_::_,_,_=>by simp [sA]
 |_::_,[],_,h,_=>by simp [sA] at h
 |_::_,_::_,[],_,h=>by simp [sA] at h
 |a::l,b::m,c::n,h1,h2=>by
  simp only [sA] at *
  split at h1
  ·split at h2
   ·rw [if_pos (by omega)];omega
   ·split at h2
    ·omega
    ·rw [if_pos (by omega)];omega
  ·split at h1
   ·omega
   ·split at h2
    ·rw [if_pos (by omega)];omega
    ·split at h2
     ·omega
     ·rw [if_neg (by omega),if_neg (by omega)]
      exact aQE h1 h2
theorem aQF (a b:GPoint):aCi b a=-aCi a b:=by
 unfold aCi
 have:=aSg a.Values b.Values
 split<;>split<;>(try split)<;>(try split)<;>(try split)<;>(try split)<;>omega
theorem aWm {a b:GPoint} (h:aCi a b=0):a=b:=by
 unfold aCi at h
 split at h
 ·omega
 ·split at h
  ·omega
  ·split at h
   ·omega
   ·split at h
    ·omega
    ·have:=aSh h
     cases a;cases b
     simp only at *
     rw [this]
     congr 1<;>omega
theorem aWn (a:GPoint):aCi a a=0:=by have:=aQF a a;omega
theorem aUL {a b c:GPoint} (h1:aCi a b < 0) (h2:aCi b c < 0):aCi a c < 0:=by
 have hr:sA a.Values b.Values < 0->sA b.Values c.Values < 0->sA a.Values c.Values < 0:=fun g1 g2=>aQE g1 g2
 unfold aCi at *
 split at h1<;>split at h2<;>(try (split at h1))<;>(try (split at h2))<;>(try (split at h1))<;>(try (split at h2))<;>(try (split at h1))<;>(try (split at h2))<;>(try omega)<;>
  (repeat' split)<;>(first|omega|(exact hr (by omega) (by omega))|skip)
theorem aQG (a:GPoint):tA a a=false:=by simp [tA,aWn]
theorem aNd {a b c:GPoint} (h1:tA a b=true) (h2:tA b c=true):tA a c=true:=by
 simp only [tA,decide_eq_true_eq] at *
 exact aUL h1 h2
theorem aQH (a b:GPoint):tA a b=true\/a=b\/tA b a=true:=by
 simp only [tA,decide_eq_true_eq,aQF a b]
 by_cases h:aCi a b=0
 ·exact .inr (.inl (aWm h))
 ·omega
theorem srt_ofG {β:Type} {lt:β->β->Bool} (irr:∀ a,lt a a=false) (tr:∀ {a b c},lt a b=true->lt b c=true->lt a c=true) (tri:∀ a b,lt a b=true\/a=b\/lt b a=true) {xs ys:List β} (p:ys.Perm xs) (h:ys.Pairwise fun a b=>(!lt b a)=true):ys=srt lt xs:=by
 have hle:∀ {a b},(!lt b a)=true->a=b\/lt a b=true:=fun {a b} h=>by
  rcases tri a b with h1|h1|h1
  ·exact .inr h1
  ·exact .inl h1
  ·rw [h1] at h;cases h
 have asy:∀ {a b},lt a b=true->lt b a=false:=fun {a b} h=>by
  cases hx:lt b a with
  |false=>rfl
  |true=>have:=tr h hx;rw [irr] at this;cases this
 refine List.Perm.eq_of_pairwise (le:=fun a b=>(!lt b a)=true) (fun a b _ _ h1 h2=>?_) h (List.pairwise_mergeSort (fun a b c h1 h2=>?_) (fun a b=>?_) _) (p.trans (List.mergeSort_perm _ _).symm)
 ·rcases hle h1 with e|e
  ·exact e
  ·rw [e] at h2;cases h2
 ·rcases hle h1 with rfl|h1
  ·exact h2
  ·rcases hle h2 with rfl|h2
   ·simp [asy h1]
   ·simp [asy (tr h1 h2)]
 ·rcases tri a b with h1|h1|h1
  ·simp [asy h1]
  ·subst h1;simp [irr]
  ·simp [asy h1]
theorem srtP_of {xs ys:List GPoint} (p:ys.Perm xs) (h:ys.Pairwise fun a b=>(!tA b a)=true):ys=srt tA xs:=srt_ofG aQG aNd aQH p h
end Gv
namespace Gv
open Go Go.Proofs Go.RowKit Go.Sort
theorem aUM (a b:Int):dB a b=some (if a < b then -1 else if b < a then 1 else 0):=by
 unfold dB kT
 by_cases h1:a < b
 ·simp [h1]
 ·by_cases h2:b < a
  ·have h3:¬ a=b:=by omega
   simp [h1,h2]
  ·have h3:a=b:=by omega
   subst h3;simp
theorem or3_eqP (a b c:Int):mZ [a,b,c]=some (if a≠0 then a else if b≠0 then b else c):=by
 unfold mZ
 have s0:dO [a,b,c] 0=if a≠0 then some (.inr (.inr a)) else some (.inl 1):=by
  simp only [dO,show ix [a,b,c] 0=some a from rfl,aA]
  by_cases h:a=0<;>simp [h];decide
 have s1:dO [a,b,c] 1=if b≠0 then some (.inr (.inr b)) else some (.inl 2):=by
  simp only [dO,show ix [a,b,c] 1=some b from rfl,aA]
  by_cases h:b=0<;>simp [h];decide
 have s2:dO [a,b,c] 2=if c≠0 then some (.inr (.inr c)) else some (.inl 3):=by
  simp only [dO,show ix [a,b,c] 2=some c from rfl,aA]
  by_cases h:c=0<;>simp [h];decide
 have s3:dO [a,b,c] 3=some (.inr (.inl ())):=by
  simp [dO]
 by_cases ha:a=0
 ·by_cases hb:b=0
  ·by_cases hc:c=0
   ·rw [bF,s0,if_neg (by simpa using ha)]
    simp only
    rw [bF,s1,if_neg (by simpa using hb)]
    simp only
    rw [bF,s2,if_neg (by simpa using hc)]
    simp only
    rw [bF,s3]
    simp [ha,hb,hc];rfl
   ·rw [bF,s0,if_neg (by simpa using ha)]
    simp only
    rw [bF,s1,if_neg (by simpa using hb)]
    simp only
    rw [bF,s2,if_pos hc]
    simp [ha,hb]
  ·rw [bF,s0,if_neg (by simpa using ha)]
   simp only
   rw [bF,s1,if_pos hb]
   simp [ha,hb]
 ·rw [bF,s0,if_pos ha]
  simp [ha]
theorem aGL {a b:GPoint} (ha:a.Values.length < gN) (hb:b.Values.length < gN):yA a b=some (aCi a b):=by
 unfold yA
 rw [aUM,aA,aUM,aA,aQD ha hb,aA,or3_eqP,aA]
 unfold aCi
 refine congrArg some ?_
 by_cases h1:a.Definition < b.Definition
 ·simp [h1]
 ·by_cases h2:b.Definition < a.Definition
  ·simp [h1,h2]
  ·by_cases h3:a.Part < b.Part
   ·simp [h1,h2,h3]
   ·by_cases h4:b.Part < a.Part
    ·simp [h1,h2,h3,h4]
    ·simp [h1,h2,h3,h4]
theorem aOc {α:Type} [Inhabited α] {k:Nat} (enc:α->List Value) (hk:∀ x,(enc x).length=k) (h0:0 < k) (l:List α):(flatK enc k l.toArray).toList=l.flatMap enc:=by
 have hg:∀ (l:List α) (i r:Nat) (hi:i < l.length),r < k->(l.flatMap enc)[i * k+r]?=(enc l[i])[r]?:=by
  intro l
  induction l with
  |nil=>intro i r hi;simp at hi
  |cons x l ih=>
   intro i r hi hr
   cases i with
   |zero=>rw [List.flatMap_cons,Nat.zero_mul,Nat.zero_add,List.getElem?_append_left (by rw [hk];exact hr)];rfl
   |succ i=>
    have:=ih i r (by simpa using hi) hr
    rw [List.flatMap_cons,Nat.add_mul,Nat.one_mul,List.getElem?_append_right (by rw [hk];omega),hk]
    rw [show i * k+k+r - k=i * k+r by omega,this];rfl
 have hl:∀ l:List α,(l.flatMap enc).length=l.length * k:=by
  intro l
  induction l with
  |nil=>simp
  |cons x l ih=>rw [List.flatMap_cons,List.length_append,hk,ih,List.length_cons,Nat.add_mul];omega
 refine List.ext_getElem? fun t=>?_
 unfold flatK
 by_cases ht:t < l.length * k
 ·have h1:t / k < l.length:=Nat.div_lt_of_lt_mul (by rw [Nat.mul_comm];exact ht)
  have h2:t % k < k:=Nat.mod_lt _ h0
  have h3:=hg l (t / k) (t % k) h1 h2
  rw [Nat.div_add_mod'] at h3
  rw [h3]
  simp only [Array.toList_map,Array.toList_range,List.getElem?_map,List.size_toArray,List.getElem?_range ht,Option.map_some]
  rw [getElem!_pos l.toArray _ (by simpa using h1)]
  have h4:t % k < (enc l[t / k]).length:=by rw [hk];exact h2
  rw [List.getElem?_eq_getElem h4]
  simp only [List.getElem_toArray]
  rw [getElem!_pos (enc l[t / k]) (t % k) h4]
 ·rw [List.getElem?_eq_none (by simp;omega),List.getElem?_eq_none (by rw [hl];omega)]
theorem lib_SortPts {G:nX} {K:Hp} {L:List fJ} {w:World} {E:TypeId} {xs:List GPoint} {a:Option Addr} {c:Nat} {hds:List (Dp.Hd GPoint)} {R:List GPoint} (hs:aF G K (aP E K a c (aV hds xs)::rows [2] hds xs::L) w) (hl:hds.length=xs.length) (hm:aJZ xs=some R):
  Calls Tryz.prog 57 ([Value.slice a xs.length c,Value.func (.func 58) #[] #[]]:List Value).toArray w (dD fun v w'=>∃ hd:List (Dp.Hd GPoint),v=Value.tuple #[]/\xs.length=R.length/\List.length hd=List.length R/\aF G K (aP E K a c (aV hd R)::rows [2] hd R::L) w'):=by
 unfold aJZ at hm
 split at hm
 ·rename_i hc
  obtain ⟨hlim,hrl⟩:=hc
  cases hm
  have hlen:(srt tA xs).length=xs.length:=List.length_mergeSort _
  by_cases hx:xs=[]
  ·
   subst hx
   obtain rfl:hds=[]:=List.length_eq_zero_iff.1 hl
   have hR:srt tA ([]:List GPoint)=[]:=by simp [srt]
   rw [hR]
   rcases aKa hs (i:=0) rfl with ⟨rfl,_⟩|⟨b,off,rfl,hb,_⟩
   ·refine (Tryz.slices_SortFunc_none_f57 (α:=aO) none c _ w).mono ?_
    rintro e w' ⟨rfl,rfl⟩
    exact ⟨_,rfl,[],rfl,rfl,rfl,hs⟩
   ·let enc:Unit->List Value:=fun _=>[i64 0,i64 0,Value.slice none 0 0]
    have hlay:∀ (m:Nat) (os:Array Obj) (dk:Array Unit),dk.size=0->aF G K (aP E K (some ⟨b,off,none⟩) c (aV ([]:List (Dp.Hd GPoint)) [])::rows [2] ([]:List (Dp.Hd GPoint)) []::L) (sortWorldK enc 3 w b off m dk os):=by
     intro m os dk hdk
     unfold sortWorldK putRowK
     refine aF.putRow (i:=0) hs rfl rfl ?_
     have:dk.toList=[]:=by cases dk;simpa using hdk
     have h2:=aOc (k:=3) enc (fun _=>rfl) (by omega) dk.toList
     rw [this] at h2
     have h3:dk=#[]:=by cases dk;simp at this;simp [this]
     subst h3
     exact h2
    refine (Tryz.slices_SortFunc_f57 (α:=Unit) 3 Tryz.isAgg97 Tryz.sizeOf97 enc (fun _=>rfl) (fun _ v hv=>by simp [enc] at hv;rcases hv with rfl|rfl|rfl<;>rfl) (fun _ _=>0) ⟨fun _=>rfl,fun _ _ _ h=>(by simp [ltOf] at h),fun _ _ _ _ _=>rfl⟩ 58 #[] b off c #[] w (enters_of Tryz.func58 (by kernel_rfl) rfl) ?_ (fun j hj=>by simp [flatK] at hj) hb (by simp)).mono ?_
    ·intro m os dk hdk x y
     have hst:=hlay m os dk hdk
     have:=uR (aGL (a:=⟨0,0,[]⟩) (b:=⟨0,0,[]⟩) (by decide) (by decide)) (aF.start (sortWorldK enc 3 w b off m dk os) G.laid hst.globs) (aFj (α:=Int) _) (aFj (α:=Int) _)
     refine this.mono ?_
     rintro e w' ⟨v,rfl,rfl,hx⟩
     exact ⟨rfl,hx.exact⟩
    ·rintro e w' ⟨rfl,d',n,os,hp,_,rfl⟩
     have:d'.size=0:=by have:=hp.1;simpa using this
     exact ⟨_,rfl,[],rfl,rfl,rfl,hlay n os d' this⟩
  ·have hpos:0 < xs.length:=List.length_pos_iff.2 hx
   have hh:∀ i:Fin xs.length,i.val < hds.length:=fun i=>by rw [hl];exact i.isLt
   obtain ⟨K',h1,hA,l1,lk,s1,back⟩:=aF.lend (i:=1) hs rfl
   have s1:aF G K' (aP E K a c (aV hds xs)::L) w:=s1
   have hrd:∀ i:Fin xs.length,bK K' (Prod.fst (hds[i.val]'(hh i))) (Prod.snd (hds[i.val]'(hh i))) (xs[i]).Values:=fun i=>
    aUk (aPq hA l1 (List.getElem?_eq_getElem (hh i)) (List.getElem?_eq_getElem i.isLt))
   have hne:aV hds xs≠[]:=by
    intro e
    have:=lU (xs:=xs) hl
    rw [e] at this;simp at this;omega
   rcases aKa s1 (i:=0) rfl with ⟨_,h⟩|⟨b,off,rfl,hb,hcell⟩
   ·exact absurd h hne
   haveI:Inhabited (Fin xs.length):=⟨⟨0,hpos⟩⟩
   let enc:Fin xs.length->List Value:=fun i=>Dp.enc (hds[i.val]'(hh i)) xs[i]
   let cf:Fin xs.length->Fin xs.length->Int:=fun i j=>aCi xs[i] xs[j]
   let hdr:Fin xs.length->Cells 2:=fun i=>aCY (hds[i.val]'(hh i)) xs[i]
   have hheads:∀ p:List (Fin xs.length),aV (p.map fun i=>hds[i.val]'(hh i)) (p.map fun i=>xs[i])=p.map hdr:=fun p=>aHJ aCY hds xs hl p
   have hds_eq:(List.finRange xs.length).map (fun i=>hds[i.val]'(hh i))=hds:=by
    apply List.ext_getElem?
    intro i
    by_cases h:i < xs.length
    ·simp [h,hl]
    ·simp [h,hl]
   have hfm:∀ l:List (Fin xs.length),(l.map hdr).flatMap eL.enc=l.flatMap enc:=fun l=>by
    induction l with
    |nil=>rfl
    |cons i l ih=>simp only [List.map_cons,List.flatMap_cons,ih];rfl
   have hlay:∀ (m:Nat) (os:Array Obj) (dk:Array (Fin xs.length)),dk.size=xs.length->aF G K' (aP E K (some ⟨b,off,none⟩) c (dk.toList.map hdr)::L) (sortWorldK enc 3 w b off m dk os):=by
    intro m os dk hdk
    unfold sortWorldK putRowK
    refine aF.putRow (i:=0) s1 rfl (by simp [lU hl,hdk]) ?_
    show (flatK enc 3 dk).toList=(dk.toList.map hdr).flatMap eL.enc
    rw [hfm]
    exact aOc (k:=3) enc (fun _=>rfl) (by omega) dk.toList
   have hlt:∀ i j,ltOf cf i j=tA xs[i] xs[j]:=fun i j=>rfl
   have hsz:(List.finRange xs.length).toArray.size=xs.length:=by simp
   have hswo:SWO (ltOf cf):=by
    refine ⟨fun i=>aQG _,fun i j k h1 h2=>aNd h1 h2,fun i j k h1 h2=>?_⟩
    have h1:tA xs[i] xs[j]=false:=h1
    have h2:tA xs[j] xs[k]=false:=h2
    show tA xs[i] xs[k]=false
    rcases aQH xs[i] xs[j] with g|g|g
    ·rw [g] at h1;cases h1
    ·rw [g];exact h2
    ·cases hx:tA xs[i] xs[k] with
     |false=>rfl
     |true=>have:=aNd g hx;rw [h2] at this;cases this
   have key:=fun h1 h2=>Tryz.slices_SortFunc_f57 (α:=Fin xs.length) 3 Tryz.isAgg97 Tryz.sizeOf97 enc (fun _=>rfl) (fun i v hv=>Dp.one _ _ v hv) cf hswo 58 #[] b off c (List.finRange xs.length).toArray w (enters_of Tryz.func58 (by kernel_rfl) rfl) h1 h2 hb (by rw [hsz];unfold gN at hlim;omega)
   rw [hsz] at key
   refine (key ?_ ?_).mono ?_
   ·intro m os dk hdk x y
    have hst:=hlay m os dk (by simpa using hdk)
    have:=uR (aGL (hrl _ (List.getElem_mem _)) (hrl _ (List.getElem_mem _))) (aF.start (sortWorldK enc 3 w b off m dk os) G.laid hst.globs) ((hrd x).mono hst.know) ((hrd y).mono hst.know)
    refine this.mono ?_
    rintro e w' ⟨v,rfl,rfl,hx⟩
    exact ⟨rfl,hx.exact⟩
   ·intro j hj
    have hf:=aOc (k:=3) enc (fun _=>rfl) (by omega) (List.finRange xs.length)
    have hj3:j < (flatK enc 3 (List.finRange xs.length).toArray).size:=hj
    have e0:=hheads (List.finRange xs.length)
    rw [hds_eq,aHI] at e0
    have:=hcell j ((flatK enc 3 (List.finRange xs.length).toArray)[j]'hj3) (by
     rw [e0]
     show ((List.finRange xs.length).map hdr |>.flatMap eL.enc)[j]?=_
     rw [hfm,←hf,Array.getElem?_toList,Array.getElem?_eq_getElem hj3])
    rw [getElem!_pos _ j hj3]
    exact this
   ·rintro e w' ⟨rfl,d',n,os,hpm,hsrt,rfl⟩
    obtain ⟨z1,_,z3⟩:=hpm
    have zs:d'.size=xs.length:=by rw [z1];simp
    have zp:d'.toList.Perm (List.finRange xs.length):=by
     have e1:d'.extract 0 xs.length=d':=by
      have:=Array.extract_size (xs:=d')
      rwa [zs] at this
     have e2:(List.finRange xs.length).toArray.extract 0 xs.length=(List.finRange xs.length).toArray:=by
      have:=Array.extract_size (xs:=(List.finRange xs.length).toArray)
      rwa [hsz] at this
     rw [e1,e2] at z3
     simpa using z3
    have hpw:(d'.toList.map fun i=>xs[i]).Pairwise fun a b=>(!tA b a)=true:=by
     rw [List.pairwise_map,List.pairwise_iff_getElem]
     intro i j hi hj hij
     rw [Array.length_toList] at hi hj
     have:=hsrt i j (Nat.zero_le _) hij (by rw [←zs];exact hj)
     rw [getElem!_pos d' j hj,getElem!_pos d' i hi] at this
     have this:tA xs[d'[j]] xs[d'[i]]=false:=this
     simp only [Array.getElem_toList]
     rw [this];rfl
    have hpr:(d'.toList.map fun i=>xs[i]).Perm xs:=by
     have:=zp.map (fun i=>xs[i])
     rwa [aHI] at this
    have hR:=srtP_of hpr hpw
    have h0:=back _ _ (hlay n os d' zs)
    rw [←hR]
    refine ⟨_,rfl,d'.toList.map (fun i=>hds[i.val]'(hh i)),rfl,by simp [zs],by simp,?_⟩
    rw [hheads d'.toList]
    have h2:aF G K (rows [2] (d'.toList.map fun i=>hds[i.val]'(hh i)) (d'.toList.map fun i=>xs[i])::aP E K (some ⟨b,off,none⟩) c (d'.toList.map hdr)::L) (sortWorldK enc 3 w b off n d' os):=by
     refine aF.weak (i:=0) h0 rfl (fun _ hA=>?_)
     refine fL.perm ?_ hA
     unfold jM
     rw [aHJ (Dp.pcs [2]) hds xs hl d'.toList]
     have e1:List.zipWith (Dp.pcs [2]) hds xs=(List.finRange xs.length).map fun i=>Dp.pcs [2] (hds[i.val]'(hh i)) xs[i]:=by
      have:=aHJ (Dp.pcs [2]) hds xs hl (List.finRange xs.length)
      rwa [hds_eq,aHI] at this
     rw [e1,←List.flatMap_def,←List.flatMap_def]
     exact (zp.symm).flatMap_right _
    exact aF.arr 2 [1,0] h2 rfl
 ·cases hm
end Gv
