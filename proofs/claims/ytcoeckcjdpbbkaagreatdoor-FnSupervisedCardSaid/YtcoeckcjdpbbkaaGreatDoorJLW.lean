/- Contracts of functions of Go's library, said of heaps of pieces. -/
import Derived.Test.YtcoeckcjdpbbkaaGreatDoorJWk0
import Derived.Test.YtcoeckcjdpbbkaaGreatDoorJP11
set_option linter.all false
namespace Gv
open Go Go.Proofs Go.RowKit Go.Sort
section
variable {G:Env} {K:Hp} {L:List gV} {w:World}
def cmpL (a b:aH):Int:=if a == b then 0 else if a == bL then -1 else if b == bL then 1 else cmpB a b
theorem cmpL_eq (a b:aH):aDn a b=some (cmpL a b):=by
 unfold aDn cmpL
 rw [show ([116,97,117]:aH)=bL from rfl]
 cases a == b<;>cases a == bL<;>cases b == bL<;>rfl
theorem aPW (a b:aH):ltOf cmpL a b=zF a b:=by
 unfold ltOf cmpL zF cmpB
 by_cases h1:a=b
 ·simp [h1]
 ·by_cases h2:a=bL
  ·subst h2;simp [h1]
  ·by_cases h3:b=bL
   ·simp [h1,h2,h3]
   ·simp only [h1,h2,h3,beq_iff_eq,if_false]
    cases wY a b<;>rfl
def cmpE (a b:Edge):Int:=or3 (aLC a.F b.F) (aLC a.B b.B) (aLC a.To b.To)
theorem aPX (a b:Edge):ltOf cmpE a b=bK a b:=by
 unfold ltOf cmpE
 have:=cmpE_ge a b
 cases hx:bK a b with
 |true=>rw [hx] at this;simp at this;simpa using this
 |false=>rw [hx] at this;simp at this;simpa using this
theorem aNb (a b:Edge):bK a b=true\/a=b\/bK b a=true:=by
 rw [mG,mG]
 obtain ⟨a1,a2,a3⟩:=a
 obtain ⟨b1,b2,b3⟩:=b
 simp only [Edge.mk.injEq]
 omega
theorem edgeLt_tr {a b c:Edge} (h1:bK a b=true) (h2:bK b c=true):bK a c=true:=by
 rw [mG] at *;omega
theorem swo_of {α:Type} {lt lt':α->α->Bool} (he:∀ a b,lt' a b=lt a b) (irr:∀ a,lt a a=false) (tr:∀ {a b c},lt a b=true->lt b c=true->lt a c=true) (tri:∀ a b,lt a b=true\/a=b\/lt b a=true):Sort.SWO lt':=by
 obtain rfl:lt'=lt:=by funext a b;exact he a b
 refine ⟨irr,fun x y z=>tr,fun x y z h1 h2=>?_⟩
 rcases tri x y with h|h|h
 ·rw [h] at h1;cases h1
 ·subst h;exact h2
 ·rcases tri y z with g|g|g
  ·rw [g] at h2;cases h2
  ·subst g;exact h1
  ·cases hx:lt' x z with
   |false=>rfl
   |true=>
    have:=tr (tr g h) hx
    rw [irr] at this;cases this
theorem aNc {α:Type} {lt lt':α->α->Bool} (he:∀ a b,lt' a b=lt a b) (tri:∀ a b,lt a b=true\/a=b\/lt b a=true) (x y:α) (h1:lt' x y=false) (h2:lt' y x=false):x=y:=by
 rw [he] at h1 h2
 rcases tri x y with h|h|h
 ·rw [h] at h1;cases h1
 ·exact h
 ·rw [h] at h2;cases h2
theorem lib_SortStr {E:TypeId} {xs:List aH} {a:Option Addr} {c:Nat} {R:List aH} (hs:aD G K (aF E K a c xs::L) w) (hm:aCn xs=some R):
  Calls Tryz.prog 114 ([Value.slice a xs.length c,Value.func (.func 115) #[] #[]]:List Value).toArray w (dS fun v w'=>v=Value.tuple #[]/\xs.length=R.length/\aD G K (aF E K a c R::L) w'):=by
 unfold aCn at hm
 split at hm
 ·rename_i hl
  cases hm
  unfold hX at hl
  have hlen:(srt zF xs).length=xs.length:=List.length_mergeSort _
  have hlay:∀ b off,a=some ⟨b,off,none⟩->∀ (m:Nat) (os:Array Obj) (dk:Array aH),dk.size=xs.length->aD G K (aF E K a c dk.toList::L) (sortWorld str w b off m dk os):=by
   rintro b off rfl m os dk hdk
   unfold sortWorld
   rw [aGO]
   refine aD.putRow (i:=0) hs rfl (by simp [hdk]) ?_
   rw [aRg];simp
  rcases aFV hs (i:=0) rfl with ⟨rfl,rfl⟩|⟨b,off,rfl,hb,hc⟩
  ·refine (Tryz.slices_SortFunc_none_f114 (α:=aH) none c _ w).mono ?_
   rintro e w' ⟨rfl,rfl⟩
   exact ⟨_,rfl,rfl,hlen.symm,by simpa [srt] using hs⟩
  ·refine (Tryz.slices_SortFunc_total_f114 (α:=aH) str (fun _=>rfl) cmpL (swo_of aPW aKG aRp aKH) 115 #[] b off c xs.toArray w (enters_of Tryz.func115 (by kernel_rfl) rfl) ?_ ?_ hb (by simp;omega) (aNc aPW aKH)).mono ?_
   ·intro m os dk hdk x y
    have hst:=hlay b off rfl m os dk (by simpa using hdk)
    have:=aDa (cmpL_eq x y) (aD.start (sortWorld str w b off m dk os) G.laid hst.globs)
    refine this.mono ?_
    rintro e w' ⟨v,rfl,rfl,hx⟩
    exact ⟨rfl,hx.exact⟩
   ·intro j hj
    have hj':j < xs.length:=by simpa using hj
    have:=hc j (str xs[j]) (by rw [aRg];simp [hj'])
    rw [getElem!_pos xs.toArray j hj]
    simpa using this
   ·rintro e w' ⟨rfl,n,os,rfl⟩
    refine ⟨_,rfl,rfl,hlen.symm,?_⟩
    have:=hlay b off rfl n os (srt zF xs).toArray (by simpa using hlen)
    have he:(xs.toArray.toList.mergeSort fun x y=>!ltOf cmpL y x)=srt zF xs:=by
     unfold srt;congr 1;funext x y;rw [aPW]
    rw [he]
    simpa using this
 ·cases hm
theorem aRq {β:Type} [dT β]:∀ (l:List β) (i r:Nat) (hi:i < l.length),r < dT.sz β->(jI l)[i * dT.sz β+r]?=(dT.enc l[i])[r]?
 |[],i,r,hi,_=>by simp at hi
 |x::l,0,r,hi,hr=>by
  unfold jI
  rw [List.flatMap_cons,Nat.zero_mul,Nat.zero_add,List.getElem?_append_left (by rw [dT.len];exact hr)];rfl
 |x::l,i+1,r,hi,hr=>by
  have:=aRq l i r (by simpa using hi) hr
  unfold jI at this ⊢
  rw [List.flatMap_cons,Nat.add_mul,Nat.one_mul,List.getElem?_append_right (by rw [dT.len];omega),dT.len]
  rw [show i * dT.sz β+dT.sz β+r - dT.sz β=i * dT.sz β+r by omega,this];rfl
theorem aRr {β:Type} [dT β] [Inhabited β] (l:List β):(flatK dT.enc (dT.sz β) l.toArray).toList=jI l:=by
 have hz:=dT.pos (α:=β)
 refine List.ext_getElem? fun t=>?_
 unfold flatK
 by_cases ht:t < l.length * dT.sz β
 ·have h1:t / dT.sz β < l.length:=Nat.div_lt_of_lt_mul (by rw [Nat.mul_comm];exact ht)
  have h2:t % dT.sz β < dT.sz β:=Nat.mod_lt _ hz
  have h3:=aRq l (t / dT.sz β) (t % dT.sz β) h1 h2
  rw [Nat.div_add_mod'] at h3
  rw [h3]
  simp only [Array.toList_map,Array.toList_range,List.getElem?_map,List.size_toArray,List.getElem?_range ht,Option.map_some]
  rw [getElem!_pos l.toArray _ (by simpa using h1)]
  have h4:t % dT.sz β < (dT.enc l[t / dT.sz β]).length:=by rw [dT.len];exact h2
  rw [List.getElem?_eq_getElem h4]
  simp only [List.getElem_toArray]
  rw [getElem!_pos (dT.enc l[t / dT.sz β]) (t % dT.sz β) h4]
 ·rw [List.getElem?_eq_none (by simp;omega),List.getElem?_eq_none (by rw [yZ];omega)]
theorem lib_SortEdge {E:TypeId} {xs:List Edge} {a:Option Addr} {c:Nat} {R:List Edge} (hs:aD G K (aF E K a c xs::L) w) (hm:aAF xs=some R):
  Calls Tryz.prog 68 ([Value.slice a xs.length c,Value.func (.func 69) #[] #[]]:List Value).toArray w (dS fun v w'=>v=Value.tuple #[]/\xs.length=R.length/\aD G K (aF E K a c R::L) w'):=by
 unfold aAF at hm
 split at hm
 ·rename_i hl
  cases hm
  unfold hX at hl
  have hlen:(srt bK xs).length=xs.length:=List.length_mergeSort _
  have hlay:∀ b off,a=some ⟨b,off,none⟩->∀ (m:Nat) (os:Array Obj) (dk:Array Edge),dk.size=xs.length->aD G K (aF E K a c dk.toList::L) (sortWorldK dT.enc 3 w b off m dk os):=by
   rintro b off rfl m os dk hdk
   unfold sortWorldK putRowK
   refine aD.putRow (i:=0) hs rfl (by simp [hdk]) ?_
   exact aRr dk.toList
  rcases aFV hs (i:=0) rfl with ⟨rfl,rfl⟩|⟨b,off,rfl,hb,hc⟩
  ·refine (Tryz.slices_SortFunc_none_f68 (α:=Edge) none c _ w).mono ?_
   rintro e w' ⟨rfl,rfl⟩
   exact ⟨_,rfl,rfl,hlen.symm,by simpa [srt] using hs⟩
  ·refine (Tryz.slices_SortFunc_total_f68 (α:=Edge) 3 Tryz.isAgg90 Tryz.sizeOf90 dT.enc (fun _=>rfl) (fun x v hv=>dT.one x v hv) cmpE (swo_of aPX (fun a=>by cases hx:bK a a with|false=>rfl|true=>exact absurd rfl (aKI hx)) edgeLt_tr aNb) 69 #[] b off c xs.toArray w (enters_of Tryz.func69 (by kernel_rfl) rfl) ?_ ?_ hb (by simp;omega) (aNc aPX aNb)).mono ?_
   ·intro m os dk hdk x y
    have hst:=hlay b off rfl m os dk (by simpa using hdk)
    have:=aDv (aHq x y) (aD.start (sortWorldK dT.enc 3 w b off m dk os) G.laid hst.globs)
    refine this.mono ?_
    rintro e w' ⟨v,rfl,rfl,hx⟩
    exact ⟨rfl,hx.exact⟩
   ·intro j hj
    have hf:=aRr xs
    have hj3:j < xs.length * 3:=by have h:=hj;rw [size_flatK] at h;simpa using h
    have hj2:j < (jI xs).length:=by rw [yZ];exact hj3
    have:=hc j (jI xs)[j] (by rw [List.getElem?_eq_getElem hj2])
    have e:(flatK dT.enc 3 xs.toArray)[j]! = (jI xs)[j]:=by
     rw [getElem!_pos (flatK dT.enc 3 xs.toArray) j hj]
     have:(flatK dT.enc 3 xs.toArray)[j]=(flatK dT.enc (dT.sz Edge) xs.toArray).toList[j]'(by rw [hf];exact hj2):=by simp;rfl
     rw [this]
     simp only [hf]
    rw [e]
    exact this
   ·rintro e w' ⟨rfl,n,os,rfl⟩
    refine ⟨_,rfl,rfl,hlen.symm,?_⟩
    have:=hlay b off rfl n os (srt bK xs).toArray (by simpa using hlen)
    have he:(xs.toArray.toList.mergeSort fun x y=>!ltOf cmpE y x)=srt bK xs:=by
     unfold srt;congr 1;funext x y;rw [aPX]
    rw [he]
    simpa using this
 ·cases hm
end
end Gv
namespace Gv
open Go.Value renaming slice→zS
open Go Go.Proofs Go.RowKit Go.Sort
theorem aOR:∀ a:List Int,nV a a=0
 |[]=>rfl
 |a::l=>by simp [nV,aOR l]
theorem aOS:∀ a b:List Int,nV b a=-nV a b
 |[],[]=>rfl
 |[],_::_=>rfl
 |_::_,[]=>rfl
 |a::l,b::m=>by
  simp only [nV]
  split<;>split<;>(try split)<;>first|omega|rfl|exact aOS l m
theorem aOT:∀ {a b:List Int},nV a b=0->a=b
 |[],[],_=>rfl
 |[],_::_,h=>by simp [nV] at h
 |_::_,[],h=>by simp [nV] at h
 |a::l,b::m,h=>by
  simp only [nV] at h
  split at h
  ·omega
  ·split at h
   ·omega
   ·rw [show a=b by omega,aOT h]
theorem aNd:∀ a b:List Int,nV a b=-1\/nV a b=0\/nV a b=1
 |[],[]=>.inr (.inl rfl)
 |[],_::_=>.inl rfl
 |_::_,[]=>.inr (.inr rfl)
 |a::l,b::m=>by
  simp only [nV]
  split
  ·exact .inl rfl
  ·split
   ·exact .inr (.inr rfl)
   ·exact aNd l m
theorem aNe:∀ {a b c:List Int},nV a b < 0->nV b c < 0->nV a c < 0
 |[],[],_,h,_=>by simp [nV] at h
 |[],_::_,[],_,h=>by simp [nV] at h
 |[],_::_,_::_,_,_=>by simp [nV]
 |_::_,[],_,h,_=>by simp [nV] at h
 |_::_,_::_,[],_,h=>by simp [nV] at h
 |a::l,b::m,c::n,h1,h2=>by
  simp only [nV] at *
  split at h1
  ·split at h2
   ·rw [if_pos (by omega)];omega
   ·split at h2
    ·omega
    ·rw [if_pos (by omega)];omega
  ·split at h1
   ·omega
   ·split at h2
    ·rw [if_pos (by omega)];omega
    ·split at h2
     ·omega
     ·rw [if_neg (by omega),if_neg (by omega)]
      exact aNe h1 h2
theorem rowLt_irr (a:List Int):sL a a=false:=by simp [sL,aOR]
theorem rowLt_tr {a b c:List Int} (h1:sL a b=true) (h2:sL b c=true):sL a c=true:=by
 simp only [sL,decide_eq_true_eq] at *
 exact aNe h1 h2
theorem rowLt_tri (a b:List Int):sL a b=true\/a=b\/sL b a=true:=by
 simp only [sL,decide_eq_true_eq,aOS a b]
 rcases aNd a b with h|h|h
 ·exact .inl (by omega)
 ·exact .inr (.inl (aOT h))
 ·exact .inr (.inr (by omega))
theorem cmpInt_eq (a b:Int):dR a b=some (if a < b then -1 else if b < a then 1 else 0):=by
 unfold dR pL
 simp only [bne_self_eq_false,aA]
 by_cases h1:a < b
 ·simp [h1]
 ·by_cases h2:b < a<;>simp [h1,h2]
theorem cmpS_end {a b:List Int} (ha:a.length < hX):bU a b (a.length:Int)=some (.inr (.inl ())):=by
 unfold bU
 rw [show decide ((a.length:Int) < (a.length:Int))=false from decide_eq_false (by omega)]
 rfl
theorem cmpS_one {a b:List Int} {k:Nat} (h:k < a.length) (h2:b.length<=k):bU a b (k:Int)=some (.inr (.inr 1)):=by
 unfold bU
 rw [show decide ((k:Int) < (a.length:Int))=true from decide_eq_true (by omega),if_pos rfl,show ix a (k:Int)=some a[k] by simp [ix,h],aA,show decide ((b.length:Int)<=(k:Int))=true from decide_eq_true (by omega),if_pos rfl]
theorem aNf {a b:List Int} {k:Nat} (h:k < a.length) (h2:k < b.length) (hb:b.length < hX):
  bU a b (k:Int)=some (if a[k] < b[k] then .inr (.inr (-1)) else if b[k] < a[k] then .inr (.inr 1) else .inl ((k+1:Nat):Int)):=by
 unfold hX at hb
 unfold bU
 rw [show decide ((k:Int) < (a.length:Int))=true from decide_eq_true (by omega),if_pos rfl,show ix a (k:Int)=some a[k] by simp [ix,h],aA,show decide ((b.length:Int)<=(k:Int))=false from decide_eq_false (by omega),if_neg (by simp),show ix b (k:Int)=some b[k] by simp [ix,h2],aA,cmpInt_eq,aA,show wr ((k:Int)+1)=((k+1:Nat):Int) by rw [dE]<;>omega]
 by_cases h1:a[k] < b[k]
 ·simp [h1]
 ·by_cases h3:b[k] < a[k]<;>simp [h1,h3]
theorem cmpJ_eq (a b:List Int):fN a b=some (if a.length < b.length then -1 else 0):=by
 unfold fN
 by_cases h:a.length < b.length
 ·rw [show decide ((a.length:Int) < (b.length:Int))=true from decide_eq_true (by omega)];simp [h]
 ·rw [show decide ((a.length:Int) < (b.length:Int))=false from decide_eq_false (by omega)];simp [h]
theorem aKJ {a b:List Int} (ha:a.length < hX) (hb:b.length < hX):∀ (n k:Nat),k+n=a.length->k<=b.length->
  ∃ x,loop (fun s:Int=>bU a b s) (k:Int)=some x/\((x=.inl ()/\nV (a.drop k) (b.drop k)=if a.length < b.length then -1 else 0)\/x=.inr (nV (a.drop k) (b.drop k))):=by
 intro n
 induction n with
 |zero=>
  intro k hk hkb
  obtain rfl:k=a.length:=by omega
  refine ⟨.inl (),by rw [bA,cmpS_end ha],.inl ⟨rfl,?_⟩⟩
  rw [List.drop_eq_nil_of_le (Nat.le_refl _)]
  by_cases hlt:a.length < b.length
  ·rw [if_pos hlt,List.drop_eq_getElem_cons hlt];rfl
  ·rw [if_neg hlt,List.drop_eq_nil_of_le (by omega)];rfl
 |succ n ih=>
  intro k hk hkb
  have hka:k < a.length:=by omega
  by_cases hbk:b.length<=k
  ·refine ⟨.inr 1,by rw [bA,cmpS_one hka hbk],.inr ?_⟩
   rw [List.drop_eq_getElem_cons hka,List.drop_eq_nil_of_le hbk];rfl
  ·have hk2:k < b.length:=by omega
   have e1:=List.drop_eq_getElem_cons hka
   have e2:=List.drop_eq_getElem_cons hk2
   by_cases h1:a[k] < b[k]
   ·exact ⟨.inr (-1),by rw [bA,aNf hka hk2 hb,if_pos h1],.inr (by rw [e1,e2];simp [nV,h1])⟩
   ·by_cases h2:b[k] < a[k]
    ·exact ⟨.inr 1,by rw [bA,aNf hka hk2 hb,if_neg h1,if_pos h2],.inr (by rw [e1,e2];simp [nV,h1,h2])⟩
    ·obtain ⟨x,hx,h⟩:=ih (k+1) (by omega) (by omega)
     refine ⟨x,by rw [bA,aNf hka hk2 hb,if_neg h1,if_neg h2];exact hx,?_⟩
     have:nV (a.drop k) (b.drop k)=nV (a.drop (k+1)) (b.drop (k+1)):=by rw [e1,e2];simp [nV,h1,h2]
     rw [this];exact h
theorem aIe {a b:List Int} (ha:a.length < hX) (hb:b.length < hX):gX a b=some (nV a b):=by
 unfold gX
 obtain ⟨x,hx,h⟩:=aKJ ha hb a.length 0 (by omega) (by omega)
 rw [show ((0:Nat):Int)=0 from rfl] at hx
 rw [hx,aA]
 simp only [List.drop_zero] at h
 rcases h with ⟨rfl,h⟩|rfl
 ·rw [h];exact cmpJ_eq a b
 ·rfl
theorem gW.perm {A B:List gV} (p:A.Perm B):∀ {h:Hp},gW A h->gW B h:=by
 induction p with
 |nil=>exact fun s=>s
 |cons x _ ih=>exact fun ⟨h1,h2,a,d,l1,l2,r⟩=>⟨h1,h2,a,d,l1,l2,ih r⟩
 |swap x y l=>exact fun s=>gW.sel (is:=[1,0]) (n:=2) rfl s
 |trans _ _ ih1 ih2=>exact fun s=>ih2 (ih1 s)
theorem aGV {β:Type} (xs:List β):(List.finRange xs.length).map (fun i=>xs[i])=xs:=by
 apply List.ext_getElem?
 intro i
 by_cases h:i < xs.length<;>simp [h]
theorem aGW {β γ δ:Type} (f:β->γ->δ) (hds:List β) (xs:List γ) (hl:hds.length=xs.length) (p:List (Fin xs.length)):
  List.zipWith f (p.map fun i=>hds[i.val]'(by rw [hl];exact i.isLt)) (p.map fun i=>xs[i])=p.map fun i=>f (hds[i.val]'(by rw [hl];exact i.isLt)) xs[i]:=by
 induction p with
 |nil=>rfl
 |cons i p ih=>simp only [List.map_cons,List.zipWith_cons_cons,ih]
theorem lib_SortRows {G:Env} {K:Hp} {L:List gV} {w:World} {E:TypeId} {xs:List (List Int)} {a:Option Addr} {c:Nat} {hds:List (Dp.Hd (List Int))} {R:List (List Int)} (hs:aD G K (aF E K a c (aY hds xs)::rows [2] hds xs::L) w) (hl:hds.length=xs.length) (hm:aEh xs=some R):
  Calls Tryz.prog 62 ([zS a xs.length c,Value.func (.func 63) #[] #[]]:List Value).toArray w (dS fun v w'=>∃ hd:List (Dp.Hd (List Int)),v=Value.tuple #[]/\xs.length=R.length/\List.length hd=List.length R/\aD G K (aF E K a c (aY hd R)::rows [2] hd R::L) w'):=by
 unfold aEh at hm
 split at hm
 ·rename_i hc
  obtain ⟨hlim,hnd,hrl⟩:=hc
  cases hm
  have hlen:(srt sL xs).length=xs.length:=List.length_mergeSort _
  by_cases hx:xs=[]
  ·
   subst hx
   obtain rfl:hds=[]:=List.length_eq_zero_iff.1 hl
   have hR:srt sL ([]:List (List Int))=[]:=by simp [srt]
   rw [hR]
   rcases aFV hs (i:=0) rfl with ⟨rfl,_⟩|⟨b,off,rfl,hb,_⟩
   ·refine (Tryz.slices_SortFunc_none_f62 (α:=aH) none c _ w).mono ?_
    rintro e w' ⟨rfl,rfl⟩
    exact ⟨_,rfl,[],rfl,rfl,rfl,hs⟩
   ·have hlay:∀ (m:Nat) (os:Array Obj) (dk:Array Unit),dk.size=0->aD G K (aF E K (some ⟨b,off,none⟩) c (aY ([]:List (Dp.Hd (List Int))) [])::rows [2] ([]:List (Dp.Hd (List Int))) []::L) (sortWorld (fun _:Unit=>zS none 0 0) w b off m dk os):=by
     intro m os dk hdk
     unfold sortWorld
     rw [aGO]
     refine aD.putRow (i:=0) hs rfl rfl ?_
     have:dk.toList=[]:=by cases dk;simpa using hdk
     simp [this,aY,jI]
    refine (Tryz.slices_SortFunc_total_f62 (α:=Unit) (fun _=>zS none 0 0) (fun _=>rfl) (fun _ _=>0) ⟨fun _=>rfl,fun _ _ _ h=>(by simp [ltOf] at h),fun _ _ _ _ _=>rfl⟩ 63 #[] b off c #[] w (enters_of Tryz.func63 (by kernel_rfl) rfl) ?_ (fun j hj=>by simp at hj) hb (by simp) (fun _ _ _ _=>rfl)).mono ?_
    ·intro m os dk hdk x y
     have hst:=hlay m os dk hdk
     have:=iU (aIe (a:=[]) (b:=[]) (by decide) (by decide)) (aD.start (sortWorld (fun _:Unit=>zS none 0 0) w b off m dk os) G.laid hst.globs) (aIh (α:=Int) _) (aIh (α:=Int) _)
     refine this.mono ?_
     rintro e w' ⟨v,rfl,rfl,hx⟩
     exact ⟨rfl,hx.exact⟩
    ·rintro e w' ⟨rfl,n,os,rfl⟩
     exact ⟨_,rfl,[],rfl,rfl,rfl,hlay n os _ (by simp)⟩
  ·have hpos:0 < xs.length:=List.length_pos_iff.2 hx
   have hh:∀ i:Fin xs.length,i.val < hds.length:=fun i=>by rw [hl];exact i.isLt
   obtain ⟨K',h1,hA,l1,lk,s1,back⟩:=aD.lend (i:=1) hs rfl
   have s1:aD G K' (aF E K a c (aY hds xs)::L) w:=s1
   have hrd:∀ i:Fin xs.length,aN K' (hds[i.val]'(hh i)).1 (hds[i.val]'(hh i)).2 xs[i]:=fun i=>
    aMl (aPx hA l1 (List.getElem?_eq_getElem (hh i)) (List.getElem?_eq_getElem i.isLt))
   have hne:aY hds xs≠[]:=by
    intro e
    have:=vP (xs:=xs) hl
    rw [e] at this;simp at this;omega
   rcases aFV s1 (i:=0) rfl with ⟨_,h⟩|⟨b,off,rfl,hb,hcell⟩
   ·exact absurd h hne
   haveI:Inhabited (Fin xs.length):=⟨⟨0,hpos⟩⟩
   let enc:Fin xs.length->Value:=fun i=>zS (hds[i.val]'(hh i)).1 (xs[i]).length (hds[i.val]'(hh i)).2
   let cf:Fin xs.length->Fin xs.length->Int:=fun i j=>nV xs[i] xs[j]
   let hdr:Fin xs.length->aJA 0:=fun i=>aID (hds[i.val]'(hh i)) xs[i]
   have hheads:∀ p:List (Fin xs.length),aY (p.map fun i=>hds[i.val]'(hh i)) (p.map fun i=>xs[i])=p.map hdr:=fun p=>aGW aID hds xs hl p
   have hds_eq:(List.finRange xs.length).map (fun i=>hds[i.val]'(hh i))=hds:=by
    apply List.ext_getElem?
    intro i
    by_cases h:i < xs.length
    ·simp [h,hl]
    ·simp [h,hl]
   have hlay:∀ (m:Nat) (os:Array Obj) (dk:Array (Fin xs.length)),dk.size=xs.length->aD G K' (aF E K (some ⟨b,off,none⟩) c (dk.toList.map hdr)::L) (sortWorld enc w b off m dk os):=by
    intro m os dk hdk
    unfold sortWorld
    rw [aGO]
    refine aD.putRow (i:=0) s1 rfl (by simp [vP hl,hdk]) ?_
    simp only [Array.toList_map]
    show _=(dk.toList.map hdr).flatMap dT.enc
    generalize dk.toList=l
    induction l with
    |nil=>rfl
    |cons i l ih=>simp only [List.map_cons,List.flatMap_cons,ih];rfl
   have hlt:∀ i j,ltOf cf i j=sL xs[i] xs[j]:=fun i j=>rfl
   have htri:∀ i j:Fin xs.length,sL xs[i] xs[j]=true\/i=j\/sL xs[j] xs[i]=true:=fun i j=>by
    rcases rowLt_tri xs[i] xs[j] with h|h|h
    ·exact .inl h
    ·exact .inr (.inl (Fin.ext ((List.getElem_inj hnd).1 h)))
    ·exact .inr (.inr h)
   have hsz:(List.finRange xs.length).toArray.size=xs.length:=by simp
   have key:=fun h1 h2=>Tryz.slices_SortFunc_total_f62 (α:=Fin xs.length) enc (fun _=>rfl) cf (swo_of (lt:=fun i j=>sL xs[i] xs[j]) hlt (fun i=>rowLt_irr _) (fun h1 h2=>rowLt_tr h1 h2) htri) 63 #[] b off c (List.finRange xs.length).toArray w (enters_of Tryz.func63 (by kernel_rfl) rfl) h1 h2 hb (by rw [hsz];unfold hX at hlim;omega) (aNc (lt:=fun i j=>sL xs[i] xs[j]) hlt htri)
   rw [hsz] at key
   refine (key ?_ ?_).mono ?_
   ·intro m os dk hdk x y
    have hst:=hlay m os dk (by simpa using hdk)
    have:=iU (aIe (hrl _ (List.getElem_mem _)) (hrl _ (List.getElem_mem _))) (aD.start (sortWorld enc w b off m dk os) G.laid hst.globs) ((hrd x).mono hst.know) ((hrd y).mono hst.know)
    refine this.mono ?_
    rintro e w' ⟨v,rfl,rfl,hx⟩
    exact ⟨rfl,hx.exact⟩
   ·intro j hj
    have hj':j < xs.length:=by simpa using hj
    have:=hcell j (enc ⟨j,hj'⟩) (by
     have e0:=hheads (List.finRange xs.length)
     rw [hds_eq,aGV] at e0
     rw [e0]
     show ((List.finRange xs.length).map hdr |>.flatMap dT.enc)[j]?=_
     have:((List.finRange xs.length).map hdr).flatMap dT.enc=(List.finRange xs.length).map enc:=by
      generalize List.finRange xs.length=l
      induction l with
      |nil=>rfl
      |cons i l ih=>simp only [List.map_cons,List.flatMap_cons,ih];rfl
     rw [this];simp [hj'])
    rw [getElem!_pos _ j hj]
    simpa using this
   ·rintro e w' ⟨rfl,n,os,rfl⟩
    have hp:((List.finRange xs.length).toArray.toList.mergeSort fun x y=>!ltOf cf y x).Perm (List.finRange xs.length):=List.mergeSort_perm _ _
    have hR:((List.finRange xs.length).toArray.toList.mergeSort fun x y=>!ltOf cf y x).map (fun i=>xs[i])=srt sL xs:=by
     unfold srt
     have:=List.map_mergeSort (r:=fun x y=>!ltOf cf y x) (s:=fun a b=>!sL b a) (f:=fun i:Fin xs.length=>xs[i]) (l:=List.finRange xs.length) (fun a _ b _=>rfl)
     rw [aGV] at this
     exact this
    generalize ((List.finRange xs.length).toArray.toList.mergeSort fun x y=>!ltOf cf y x)=p at *
    have hpl:p.length=xs.length:=by rw [hp.length_eq];simp
    have h0:=back _ _ (hlay n os p.toArray (by simpa using hpl))
    rw [←hR]
    refine ⟨_,rfl,p.map (fun i=>hds[i.val]'(hh i)),rfl,by simp [hpl],by simp,?_⟩
    rw [hheads p]
    have h2:aD G K (rows [2] (p.map fun i=>hds[i.val]'(hh i)) (p.map fun i=>xs[i])::aF E K (some ⟨b,off,none⟩) c (p.map hdr)::L) (sortWorld enc w b off n p.toArray os):=by
     refine aD.weak (i:=0) h0 rfl (fun _ hA=>?_)
     refine gW.perm ?_ hA
     unfold lE
     rw [aGW (Dp.pcs [2]) hds xs hl p]
     have e1:List.zipWith (Dp.pcs [2]) hds xs=(List.finRange xs.length).map fun i=>Dp.pcs [2] (hds[i.val]'(hh i)) xs[i]:=by
      have:=aGW (Dp.pcs [2]) hds xs hl (List.finRange xs.length)
      rwa [hds_eq,aGV] at this
     rw [e1,←List.flatMap_def,←List.flatMap_def]
     exact (hp.symm).flatMap_right _
    exact aD.arr 2 [1,0] h2 rfl
 ·cases hm
end Gv
