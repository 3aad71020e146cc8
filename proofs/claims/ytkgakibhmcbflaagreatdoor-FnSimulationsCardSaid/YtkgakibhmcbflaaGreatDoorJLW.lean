/- Contracts of functions of Go's library, said of heaps of pieces. -/
import Derived.Test.YtkgakibhmcbflaaGreatDoorJLWa
import Derived.Test.YtkgakibhmcbflaaGreatDoorJWk0
import Derived.Test.YtkgakibhmcbflaaGreatDoorJP11
import Derived.Lib.AppendZeros
set_option linter.all false
namespace Gv
open Go Go.Proofs Go.RowKit Go.Sort
section
variable {G:Env} {K:Hp} {L:List nG} {w:World}
def cmpL (a b:bI):Int:=if a == b then 0 else if a == dH then -1 else if b == dH then 1 else cmpB a b
theorem cmpL_eq (a b:bI):vI a b=some (cmpL a b):=by
 unfold vI cmpL
 rw [show ([116,97,117]:bI)=dH from rfl]
 cases a == b<;>cases a == dH<;>cases b == dH<;>rfl
theorem aJJ (a b:bI):ltOf cmpL a b=kR a b:=by
 unfold ltOf cmpL kR cmpB
 by_cases h1:a=b
 ·simp [h1]
 ·by_cases h2:a=dH
  ·subst h2;simp [h1]
  ·by_cases h3:b=dH
   ·simp [h1,h2,h3]
   ·simp only [h1,h2,h3,beq_iff_eq,if_false]
    cases zW a b<;>rfl
def cmpE (a b:Edge):Int:=or3 (aGB a.F b.F) (aGB a.B b.B) (aGB a.To b.To)
theorem aJK (a b:Edge):ltOf cmpE a b=cW a b:=by
 unfold ltOf cmpE
 have:=cmpE_ge a b
 cases hx:cW a b with
 |true=>rw [hx] at this;simp at this;simpa using this
 |false=>rw [hx] at this;simp at this;simpa using this
theorem aHE (a b:Edge):cW a b=true∨a=b∨cW b a=true:=by
 rw [qR,qR]
 obtain ⟨a1,a2,a3⟩:=a
 obtain ⟨b1,b2,b3⟩:=b
 simp only [Edge.mk.injEq]
 omega
theorem edgeLt_tr {a b c:Edge} (h1:cW a b=true) (h2:cW b c=true):cW a c=true:=by
 rw [qR] at *;omega
theorem swo_of {α:Type} {lt lt':α→α→Bool} (he:∀ a b,lt' a b=lt a b) (irr:∀ a,lt a a=false) (tr:∀ {a b c},lt a b=true→lt b c=true→lt a c=true) (tri:∀ a b,lt a b=true∨a=b∨lt b a=true):Sort.SWO lt':=by
 obtain rfl:lt'=lt:=by funext a b;exact he a b
 refine ⟨irr,fun x y z=>tr,fun x y z h1 h2=>?_⟩
 rcases tri x y with h|h|h
 ·rw [h] at h1;cases h1
 ·subst h;exact h2
 ·rcases tri y z with g|g|g
  ·rw [g] at h2;cases h2
  ·subst g;exact h1
  ·cases hx:lt' x z with
   |false=>rfl
   |true=>
    have:=tr (tr g h) hx
    rw [irr] at this;cases this
theorem aHF {α:Type} {lt lt':α→α→Bool} (he:∀ a b,lt' a b=lt a b) (tri:∀ a b,lt a b=true∨a=b∨lt b a=true) (x y:α) (h1:lt' x y=false) (h2:lt' y x=false):x=y:=by
 rw [he] at h1 h2
 rcases tri x y with h|h|h
 ·rw [h] at h1;cases h1
 ·exact h
 ·rw [h] at h2;cases h2
theorem lib_SortStr {E:TypeId} {xs:List bI} {a:Option Addr} {c:Nat} {R:List bI} (hs:aI G K (aR E K a c xs::L) w) (hm:yJ xs=some R):
  Calls Tryz.prog 80 ([Value.slice a xs.length c,Value.func (.func 81) #[] #[]]:List Value).toArray w (gQ fun v w'=>v=Value.tuple #[]∧xs.length=R.length∧aI G K (aR E K a c R::L) w'):=by
 unfold yJ at hm
 split at hm
 ·rename_i hl
  cases hm
  unfold iX at hl
  have hlen:(rO kR xs).length=xs.length:=List.length_mergeSort _
  have hlay:∀ b off,a=some ⟨b,off,none⟩→∀ (m:Nat) (os:Array Obj) (dk:Array bI),dk.size=xs.length→aI G K (aR E K a c dk.toList::L) (sortWorld str w b off m dk os):=by
   rintro b off rfl m os dk hdk
   unfold sortWorld
   rw [aCx]
   refine aI.putRow (i:=0) hs rfl (by simp [hdk]) ?_
   rw [aKF];simp
  rcases aCb hs (i:=0) rfl with ⟨rfl,rfl⟩|⟨b,off,rfl,hb,hc⟩
  ·refine (Tryz.slices_SortFunc_none_f80 (α:=bI) none c _ w).mono ?_
   rintro e w' ⟨rfl,rfl⟩
   exact ⟨_,rfl,rfl,hlen.symm,by simpa [rO] using hs⟩
  ·refine (Tryz.slices_SortFunc_total_f80 (α:=bI) str (fun _=>rfl) cmpL (swo_of aJJ aDG aDo aDH) 81 #[] b off c xs.toArray w (enters_of Tryz.func81 (by kernel_rfl) rfl) ?_ ?_ hb (by simp;omega) (aHF aJJ aDH)).mono ?_
   ·intro m os dk hdk x y
    have hst:=hlay b off rfl m os dk (by simpa using hdk)
    have:=aDe (aI.start (sortWorld str w b off m dk os) G.laid hst.globs) (cmpL_eq x y)
    refine this.mono ?_
    rintro e w' ⟨v,rfl,rfl,hx⟩
    exact ⟨rfl,hx.exact⟩
   ·intro j hj
    have hj':j < xs.length:=by simpa using hj
    have:=hc j (str xs[j]) (by rw [aKF];simp [hj'])
    rw [getElem!_pos xs.toArray j hj]
    simpa using this
   ·rintro e w' ⟨rfl,n,os,rfl⟩
    refine ⟨_,rfl,rfl,hlen.symm,?_⟩
    have:=hlay b off rfl n os (rO kR xs).toArray (by simpa using hlen)
    have he:(xs.toArray.toList.mergeSort fun x y=>!ltOf cmpL y x)=rO kR xs:=by
     unfold rO;congr 1;funext x y;rw [aJJ]
    rw [he]
    simpa using this
 ·cases hm
theorem aKN {β:Type} [gJ β]:∀ (l:List β) (i r:Nat) (hi:i < l.length),r < gJ.sz β→(kM l)[i * gJ.sz β+r]?=(gJ.enc l[i])[r]?
 |[],i,r,hi,_=>by simp at hi
 |x::l,0,r,hi,hr=>by
  unfold kM
  rw [List.flatMap_cons,Nat.zero_mul,Nat.zero_add,List.getElem?_append_left (by rw [gJ.len];exact hr)];rfl
 |x::l,i+1,r,hi,hr=>by
  have:=aKN l i r (by simpa using hi) hr
  unfold kM at this ⊢
  rw [List.flatMap_cons,Nat.add_mul,Nat.one_mul,List.getElem?_append_right (by rw [gJ.len];omega),gJ.len]
  rw [show i * gJ.sz β+gJ.sz β+r - gJ.sz β=i * gJ.sz β+r by omega,this];rfl
theorem aKO {β:Type} [gJ β] [Inhabited β] (l:List β):(flatK gJ.enc (gJ.sz β) l.toArray).toList=kM l:=by
 have hz:=gJ.pos (α:=β)
 refine List.ext_getElem? fun t=>?_
 unfold flatK
 by_cases ht:t < l.length * gJ.sz β
 ·have h1:t / gJ.sz β < l.length:=Nat.div_lt_of_lt_mul (by rw [Nat.mul_comm];exact ht)
  have h2:t % gJ.sz β < gJ.sz β:=Nat.mod_lt _ hz
  have h3:=aKN l (t / gJ.sz β) (t % gJ.sz β) h1 h2
  rw [Nat.div_add_mod'] at h3
  rw [h3]
  simp only [Array.toList_map,Array.toList_range,List.getElem?_map,List.size_toArray,List.getElem?_range ht,Option.map_some]
  rw [getElem!_pos l.toArray _ (by simpa using h1)]
  have h4:t % gJ.sz β < (gJ.enc l[t / gJ.sz β]).length:=by rw [gJ.len];exact h2
  rw [List.getElem?_eq_getElem h4]
  simp only [List.getElem_toArray]
  rw [getElem!_pos (gJ.enc l[t / gJ.sz β]) (t % gJ.sz β) h4]
 ·rw [List.getElem?_eq_none (by simp;omega),List.getElem?_eq_none (by rw [uO];omega)]
theorem lib_SortEdge {E:TypeId} {xs:List Edge} {a:Option Addr} {c:Nat} {R:List Edge} (hs:aI G K (aR E K a c xs::L) w) (hm:aBh xs=some R):
  Calls Tryz.prog 148 ([Value.slice a xs.length c,Value.func (.func 62) #[] #[]]:List Value).toArray w (gQ fun v w'=>v=Value.tuple #[]∧xs.length=R.length∧aI G K (aR E K a c R::L) w'):=by
 unfold aBh at hm
 split at hm
 ·rename_i hl
  cases hm
  unfold iX at hl
  have hlen:(rO cW xs).length=xs.length:=List.length_mergeSort _
  have hlay:∀ b off,a=some ⟨b,off,none⟩→∀ (m:Nat) (os:Array Obj) (dk:Array Edge),dk.size=xs.length→aI G K (aR E K a c dk.toList::L) (sortWorldK gJ.enc 3 w b off m dk os):=by
   rintro b off rfl m os dk hdk
   unfold sortWorldK putRowK
   refine aI.putRow (i:=0) hs rfl (by simp [hdk]) ?_
   exact aKO dk.toList
  rcases aCb hs (i:=0) rfl with ⟨rfl,rfl⟩|⟨b,off,rfl,hb,hc⟩
  ·refine (Tryz.slices_SortFunc_none_f148 (α:=Edge) none c _ w).mono ?_
   rintro e w' ⟨rfl,rfl⟩
   exact ⟨_,rfl,rfl,hlen.symm,by simpa [rO] using hs⟩
  ·refine (Tryz.slices_SortFunc_total_f148 (α:=Edge) 3 Tryz.isAgg51 Tryz.sizeOf51 gJ.enc (fun _=>rfl) (fun x v hv=>gJ.one x v hv) cmpE (swo_of aJK (fun a=>by cases hx:cW a a with|false=>rfl|true=>exact absurd rfl (aGb hx)) edgeLt_tr aHE) 62 #[] b off c xs.toArray w (enters_of Tryz.func62 (by kernel_rfl) rfl) ?_ ?_ hb (by simp;omega) (aHF aJK aHE)).mono ?_
   ·intro m os dk hdk x y
    have hst:=hlay b off rfl m os dk (by simpa using hdk)
    have:=aAz (aI.start (sortWorldK gJ.enc 3 w b off m dk os) G.laid hst.globs) (aCI x y)
    refine this.mono ?_
    rintro e w' ⟨v,rfl,rfl,hx⟩
    exact ⟨rfl,hx.exact⟩
   ·intro j hj
    have hf:=aKO xs
    have hj3:j < xs.length * 3:=by have h:=hj;rw [size_flatK] at h;simpa using h
    have hj2:j < (kM xs).length:=by rw [uO];exact hj3
    have:=hc j (kM xs)[j] (by rw [List.getElem?_eq_getElem hj2])
    have e:(flatK gJ.enc 3 xs.toArray)[j]! = (kM xs)[j]:=by
     rw [getElem!_pos (flatK gJ.enc 3 xs.toArray) j hj]
     have:(flatK gJ.enc 3 xs.toArray)[j]=(flatK gJ.enc (gJ.sz Edge) xs.toArray).toList[j]'(by rw [hf];exact hj2):=by simp;rfl
     rw [this]
     simp only [hf]
    rw [e]
    exact this
   ·rintro e w' ⟨rfl,n,os,rfl⟩
    refine ⟨_,rfl,rfl,hlen.symm,?_⟩
    have:=hlay b off rfl n os (rO cW xs).toArray (by simpa using hlen)
    have he:(xs.toArray.toList.mergeSort fun x y=>!ltOf cmpE y x)=rO cW xs:=by
     unfold rO;congr 1;funext x y;rw [aJK]
    rw [he]
    simpa using this
 ·cases hm
end
end Gv
namespace Gv
open Go.Value renaming slice→zS
open Go Go.Proofs Go.RowKit Go.Sort
theorem aIQ:∀ a:List Int,mE a a=0
 |[]=>rfl
 |a::l=>by simp [mE,aIQ l]
theorem aIR:∀ a b:List Int,mE b a=-mE a b
 |[],[]=>rfl
 |[],_::_=>rfl
 |_::_,[]=>rfl
 |a::l,b::m=>by
  simp only [mE]
  split<;>split<;>(try split)<;>first|omega|rfl|exact aIR l m
theorem aIS:∀ {a b:List Int},mE a b=0→a=b
 |[],[],_=>rfl
 |[],_::_,h=>by simp [mE] at h
 |_::_,[],h=>by simp [mE] at h
 |a::l,b::m,h=>by
  simp only [mE] at h
  split at h
  ·omega
  ·split at h
   ·omega
   ·rw [show a=b by omega,aIS h]
theorem aHG:∀ a b:List Int,mE a b=-1∨mE a b=0∨mE a b=1
 |[],[]=>.inr (.inl rfl)
 |[],_::_=>.inl rfl
 |_::_,[]=>.inr (.inr rfl)
 |a::l,b::m=>by
  simp only [mE]
  split
  ·exact .inl rfl
  ·split
   ·exact .inr (.inr rfl)
   ·exact aHG l m
theorem aHH:∀ {a b c:List Int},mE a b < 0→mE b c < 0→mE a c < 0
 |[],[],_,h,_=>by simp [mE] at h
 |[],_::_,[],_,h=>by simp [mE] at h
 |[],_::_,_::_,_,_=>by simp [mE]
 |_::_,[],_,h,_=>by simp [mE] at h
 |_::_,_::_,[],_,h=>by simp [mE] at h
 |a::l,b::m,c::n,h1,h2=>by
  simp only [mE] at *
  split at h1
  ·split at h2
   ·rw [if_pos (by omega)];omega
   ·split at h2
    ·omega
    ·rw [if_pos (by omega)];omega
  ·split at h1
   ·omega
   ·split at h2
    ·rw [if_pos (by omega)];omega
    ·split at h2
     ·omega
     ·rw [if_neg (by omega),if_neg (by omega)]
      exact aHH h1 h2
theorem rowLt_irr (a:List Int):lH a a=false:=by simp [lH,aIQ]
theorem rowLt_tr {a b c:List Int} (h1:lH a b=true) (h2:lH b c=true):lH a c=true:=by
 simp only [lH,decide_eq_true_eq] at *
 exact aHH h1 h2
theorem rowLt_tri (a b:List Int):lH a b=true∨a=b∨lH b a=true:=by
 simp only [lH,decide_eq_true_eq,aIR a b]
 rcases aHG a b with h|h|h
 ·exact .inl (by omega)
 ·exact .inr (.inl (aIS h))
 ·exact .inr (.inr (by omega))
theorem cmpInt_eq (a b:Int):dU a b=some (if a < b then -1 else if b < a then 1 else 0):=by
 unfold dU jQ
 simp only [bne_self_eq_false,aB]
 by_cases h1:a < b
 ·simp [h1]
 ·by_cases h2:b < a<;>simp [h1,h2]
theorem cmpS_end {a b:List Int} (ha:a.length < iX):bR a b (a.length:Int)=some (.inr (.inl ())):=by
 unfold bR
 rw [show decide ((a.length:Int) < (a.length:Int))=false from decide_eq_false (by omega)]
 rfl
theorem cmpS_one {a b:List Int} {k:Nat} (h:k < a.length) (h2:b.length≤k):bR a b (k:Int)=some (.inr (.inr 1)):=by
 unfold bR
 rw [show decide ((k:Int) < (a.length:Int))=true from decide_eq_true (by omega),if_pos rfl,show ix a (k:Int)=some a[k] by simp [ix,h],aB,show decide ((b.length:Int)≤(k:Int))=true from decide_eq_true (by omega),if_pos rfl]
theorem aHI {a b:List Int} {k:Nat} (h:k < a.length) (h2:k < b.length) (hb:b.length < iX):
  bR a b (k:Int)=some (if a[k] < b[k] then .inr (.inr (-1)) else if b[k] < a[k] then .inr (.inr 1) else .inl ((k+1:Nat):Int)):=by
 unfold iX at hb
 unfold bR
 rw [show decide ((k:Int) < (a.length:Int))=true from decide_eq_true (by omega),if_pos rfl,show ix a (k:Int)=some a[k] by simp [ix,h],aB,show decide ((b.length:Int)≤(k:Int))=false from decide_eq_false (by omega),if_neg (by simp),show ix b (k:Int)=some b[k] by simp [ix,h2],aB,cmpInt_eq,aB,show wr ((k:Int)+1)=((k+1:Nat):Int) by rw [fH]<;>omega]
 by_cases h1:a[k] < b[k]
 ·simp [h1]
 ·by_cases h3:b[k] < a[k]<;>simp [h1,h3]
theorem cmpJ_eq (a b:List Int):dL a b=some (if a.length < b.length then -1 else 0):=by
 unfold dL
 by_cases h:a.length < b.length
 ·rw [show decide ((a.length:Int) < (b.length:Int))=true from decide_eq_true (by omega)];simp [h]
 ·rw [show decide ((a.length:Int) < (b.length:Int))=false from decide_eq_false (by omega)];simp [h]
theorem aGc {a b:List Int} (ha:a.length < iX) (hb:b.length < iX):∀ (n k:Nat),k+n=a.length→k≤b.length→
  ∃ x,loop (fun s:Int=>bR a b s) (k:Int)=some x∧((x=.inl ()∧mE (a.drop k) (b.drop k)=if a.length < b.length then -1 else 0)∨x=.inr (mE (a.drop k) (b.drop k))):=by
 intro n
 induction n with
 |zero=>
  intro k hk hkb
  obtain rfl:k=a.length:=by omega
  refine ⟨.inl (),by rw [cM,cmpS_end ha],.inl ⟨rfl,?_⟩⟩
  rw [List.drop_eq_nil_of_le (Nat.le_refl _)]
  by_cases hlt:a.length < b.length
  ·rw [if_pos hlt,List.drop_eq_getElem_cons hlt];rfl
  ·rw [if_neg hlt,List.drop_eq_nil_of_le (by omega)];rfl
 |succ n ih=>
  intro k hk hkb
  have hka:k < a.length:=by omega
  by_cases hbk:b.length≤k
  ·refine ⟨.inr 1,by rw [cM,cmpS_one hka hbk],.inr ?_⟩
   rw [List.drop_eq_getElem_cons hka,List.drop_eq_nil_of_le hbk];rfl
  ·have hk2:k < b.length:=by omega
   have e1:=List.drop_eq_getElem_cons hka
   have e2:=List.drop_eq_getElem_cons hk2
   by_cases h1:a[k] < b[k]
   ·exact ⟨.inr (-1),by rw [cM,aHI hka hk2 hb,if_pos h1],.inr (by rw [e1,e2];simp [mE,h1])⟩
   ·by_cases h2:b[k] < a[k]
    ·exact ⟨.inr 1,by rw [cM,aHI hka hk2 hb,if_neg h1,if_pos h2],.inr (by rw [e1,e2];simp [mE,h1,h2])⟩
    ·obtain ⟨x,hx,h⟩:=ih (k+1) (by omega) (by omega)
     refine ⟨x,by rw [cM,aHI hka hk2 hb,if_neg h1,if_neg h2];exact hx,?_⟩
     have:mE (a.drop k) (b.drop k)=mE (a.drop (k+1)) (b.drop (k+1)):=by rw [e1,e2];simp [mE,h1,h2]
     rw [this];exact h
theorem aDp {a b:List Int} (ha:a.length < iX) (hb:b.length < iX):dW a b=some (mE a b):=by
 unfold dW
 obtain ⟨x,hx,h⟩:=aGc ha hb a.length 0 (by omega) (by omega)
 rw [show ((0:Nat):Int)=0 from rfl] at hx
 rw [hx,aB]
 simp only [List.drop_zero] at h
 rcases h with ⟨rfl,h⟩|rfl
 ·rw [h];exact cmpJ_eq a b
 ·rfl
theorem gI.perm {A B:List nG} (p:A.Perm B):∀ {h:Hp},gI A h→gI B h:=by
 induction p with
 |nil=>exact fun s=>s
 |cons x _ ih=>exact fun ⟨h1,h2,a,d,l1,l2,r⟩=>⟨h1,h2,a,d,l1,l2,ih r⟩
 |swap x y l=>exact fun s=>gI.sel (is:=[1,0]) (n:=2) rfl s
 |trans _ _ ih1 ih2=>exact fun s=>ih2 (ih1 s)
theorem aCA {β:Type} (xs:List β):(List.finRange xs.length).map (fun i=>xs[i])=xs:=by
 apply List.ext_getElem?
 intro i
 by_cases h:i < xs.length<;>simp [h]
theorem aCB {β γ δ:Type} (f:β→γ→δ) (hds:List β) (xs:List γ) (hl:hds.length=xs.length) (p:List (Fin xs.length)):
  List.zipWith f (p.map fun i=>hds[i.val]'(by rw [hl];exact i.isLt)) (p.map fun i=>xs[i])=p.map fun i=>f (hds[i.val]'(by rw [hl];exact i.isLt)) xs[i]:=by
 induction p with
 |nil=>rfl
 |cons i p ih=>simp only [List.map_cons,List.zipWith_cons_cons,ih]
theorem lib_SortRows {G:Env} {K:Hp} {L:List nG} {w:World} {E:TypeId} {xs:List (List Int)} {a:Option Addr} {c:Nat} {hds:List (Dp.Hd (List Int))} {R:List (List Int)} (hs:aI G K (aR E K a c (bU hds xs)::rows [2] hds xs::L) w) (hl:hds.length=xs.length) (hm:vX xs=some R):
  Calls Tryz.prog 51 ([zS a xs.length c,Value.func (.func 52) #[] #[]]:List Value).toArray w (gQ fun v w'=>∃ hd:List (Dp.Hd (List Int)),v=Value.tuple #[]∧xs.length=R.length∧List.length hd=List.length R∧aI G K (aR E K a c (bU hd R)::rows [2] hd R::L) w'):=by
 unfold vX at hm
 split at hm
 ·rename_i hc
  obtain ⟨hlim,hnd,hrl⟩:=hc
  cases hm
  have hlen:(rO lH xs).length=xs.length:=List.length_mergeSort _
  by_cases hx:xs=[]
  ·
   subst hx
   obtain rfl:hds=[]:=List.length_eq_zero_iff.1 hl
   have hR:rO lH ([]:List (List Int))=[]:=by simp [rO]
   rw [hR]
   rcases aCb hs (i:=0) rfl with ⟨rfl,_⟩|⟨b,off,rfl,hb,_⟩
   ·refine (Tryz.slices_SortFunc_none_f51 (α:=bI) none c _ w).mono ?_
    rintro e w' ⟨rfl,rfl⟩
    exact ⟨_,rfl,[],rfl,rfl,rfl,hs⟩
   ·have hlay:∀ (m:Nat) (os:Array Obj) (dk:Array Unit),dk.size=0→aI G K (aR E K (some ⟨b,off,none⟩) c (bU ([]:List (Dp.Hd (List Int))) [])::rows [2] ([]:List (Dp.Hd (List Int))) []::L) (sortWorld (fun _:Unit=>zS none 0 0) w b off m dk os):=by
     intro m os dk hdk
     unfold sortWorld
     rw [aCx]
     refine aI.putRow (i:=0) hs rfl rfl ?_
     have:dk.toList=[]:=by cases dk;simpa using hdk
     simp [this,bU,kM]
    refine (Tryz.slices_SortFunc_total_f51 (α:=Unit) (fun _=>zS none 0 0) (fun _=>rfl) (fun _ _=>0) ⟨fun _=>rfl,fun _ _ _ h=>(by simp [ltOf] at h),fun _ _ _ _ _=>rfl⟩ 52 #[] b off c #[] w (enters_of Tryz.func52 (by kernel_rfl) rfl) ?_ (fun j hj=>by simp at hj) hb (by simp) (fun _ _ _ _=>rfl)).mono ?_
    ·intro m os dk hdk x y
     have hst:=hlay m os dk hdk
     have:=iU (aI.start (sortWorld (fun _:Unit=>zS none 0 0) w b off m dk os) G.laid hst.globs) (aGE (α:=Int) _) (aGE (α:=Int) _) (aDp (a:=[]) (b:=[]) (by decide) (by decide))
     refine this.mono ?_
     rintro e w' ⟨v,rfl,rfl,hx⟩
     exact ⟨rfl,hx.exact⟩
    ·rintro e w' ⟨rfl,n,os,rfl⟩
     exact ⟨_,rfl,[],rfl,rfl,rfl,hlay n os _ (by simp)⟩
  ·have hpos:0 < xs.length:=List.length_pos_iff.2 hx
   have hh:∀ i:Fin xs.length,i.val < hds.length:=fun i=>by rw [hl];exact i.isLt
   obtain ⟨K',h1,hA,l1,lk,s1,back⟩:=aI.lend (i:=1) hs rfl
   have s1:aI G K' (aR E K a c (bU hds xs)::L) w:=s1
   have hrd:∀ i:Fin xs.length,bX K' (hds[i.val]'(hh i)).1 (hds[i.val]'(hh i)).2 xs[i]:=fun i=>
    rd_row (aJs hA l1 (List.getElem?_eq_getElem (hh i)) (List.getElem?_eq_getElem i.isLt))
   have hne:bU hds xs≠[]:=by
    intro e
    have:=oZ (xs:=xs) hl
    rw [e] at this;simp at this;omega
   rcases aCb s1 (i:=0) rfl with ⟨_,h⟩|⟨b,off,rfl,hb,hcell⟩
   ·exact absurd h hne
   haveI:Inhabited (Fin xs.length):=⟨⟨0,hpos⟩⟩
   let enc:Fin xs.length→Value:=fun i=>zS (hds[i.val]'(hh i)).1 (xs[i]).length (hds[i.val]'(hh i)).2
   let cf:Fin xs.length→Fin xs.length→Int:=fun i j=>mE xs[i] xs[j]
   let hdr:Fin xs.length→Cells 0:=fun i=>aBA (hds[i.val]'(hh i)) xs[i]
   have hheads:∀ p:List (Fin xs.length),bU (p.map fun i=>hds[i.val]'(hh i)) (p.map fun i=>xs[i])=p.map hdr:=fun p=>aCB aBA hds xs hl p
   have hds_eq:(List.finRange xs.length).map (fun i=>hds[i.val]'(hh i))=hds:=by
    apply List.ext_getElem?
    intro i
    by_cases h:i < xs.length
    ·simp [h,hl]
    ·simp [h,hl]
   have hlay:∀ (m:Nat) (os:Array Obj) (dk:Array (Fin xs.length)),dk.size=xs.length→aI G K' (aR E K (some ⟨b,off,none⟩) c (dk.toList.map hdr)::L) (sortWorld enc w b off m dk os):=by
    intro m os dk hdk
    unfold sortWorld
    rw [aCx]
    refine aI.putRow (i:=0) s1 rfl (by simp [oZ hl,hdk]) ?_
    simp only [Array.toList_map]
    show _=(dk.toList.map hdr).flatMap gJ.enc
    generalize dk.toList=l
    induction l with
    |nil=>rfl
    |cons i l ih=>simp only [List.map_cons,List.flatMap_cons,ih];rfl
   have hlt:∀ i j,ltOf cf i j=lH xs[i] xs[j]:=fun i j=>rfl
   have htri:∀ i j:Fin xs.length,lH xs[i] xs[j]=true∨i=j∨lH xs[j] xs[i]=true:=fun i j=>by
    rcases rowLt_tri xs[i] xs[j] with h|h|h
    ·exact .inl h
    ·exact .inr (.inl (Fin.ext ((List.getElem_inj hnd).1 h)))
    ·exact .inr (.inr h)
   have hsz:(List.finRange xs.length).toArray.size=xs.length:=by simp
   have key:=fun h1 h2=>Tryz.slices_SortFunc_total_f51 (α:=Fin xs.length) enc (fun _=>rfl) cf (swo_of (lt:=fun i j=>lH xs[i] xs[j]) hlt (fun i=>rowLt_irr _) (fun h1 h2=>rowLt_tr h1 h2) htri) 52 #[] b off c (List.finRange xs.length).toArray w (enters_of Tryz.func52 (by kernel_rfl) rfl) h1 h2 hb (by rw [hsz];unfold iX at hlim;omega) (aHF (lt:=fun i j=>lH xs[i] xs[j]) hlt htri)
   rw [hsz] at key
   refine (key ?_ ?_).mono ?_
   ·intro m os dk hdk x y
    have hst:=hlay m os dk (by simpa using hdk)
    have:=iU (aI.start (sortWorld enc w b off m dk os) G.laid hst.globs) ((hrd x).mono hst.know) ((hrd y).mono hst.know) (aDp (hrl _ (List.getElem_mem _)) (hrl _ (List.getElem_mem _)))
    refine this.mono ?_
    rintro e w' ⟨v,rfl,rfl,hx⟩
    exact ⟨rfl,hx.exact⟩
   ·intro j hj
    have hj':j < xs.length:=by simpa using hj
    have:=hcell j (enc ⟨j,hj'⟩) (by
     have e0:=hheads (List.finRange xs.length)
     rw [hds_eq,aCA] at e0
     rw [e0]
     show ((List.finRange xs.length).map hdr |>.flatMap gJ.enc)[j]?=_
     have:((List.finRange xs.length).map hdr).flatMap gJ.enc=(List.finRange xs.length).map enc:=by
      generalize List.finRange xs.length=l
      induction l with
      |nil=>rfl
      |cons i l ih=>simp only [List.map_cons,List.flatMap_cons,ih];rfl
     rw [this];simp [hj'])
    rw [getElem!_pos _ j hj]
    simpa using this
   ·rintro e w' ⟨rfl,n,os,rfl⟩
    have hp:((List.finRange xs.length).toArray.toList.mergeSort fun x y=>!ltOf cf y x).Perm (List.finRange xs.length):=List.mergeSort_perm _ _
    have hR:((List.finRange xs.length).toArray.toList.mergeSort fun x y=>!ltOf cf y x).map (fun i=>xs[i])=rO lH xs:=by
     unfold rO
     have:=List.map_mergeSort (r:=fun x y=>!ltOf cf y x) (s:=fun a b=>!lH b a) (f:=fun i:Fin xs.length=>xs[i]) (l:=List.finRange xs.length) (fun a _ b _=>rfl)
     rw [aCA] at this
     exact this
    generalize ((List.finRange xs.length).toArray.toList.mergeSort fun x y=>!ltOf cf y x)=p at *
    have hpl:p.length=xs.length:=by rw [hp.length_eq];simp
    have h0:=back _ _ (hlay n os p.toArray (by simpa using hpl))
    rw [←hR]
    refine ⟨_,rfl,p.map (fun i=>hds[i.val]'(hh i)),rfl,by simp [hpl],by simp,?_⟩
    rw [hheads p]
    have h2:aI G K (rows [2] (p.map fun i=>hds[i.val]'(hh i)) (p.map fun i=>xs[i])::aR E K (some ⟨b,off,none⟩) c (p.map hdr)::L) (sortWorld enc w b off n p.toArray os):=by
     refine aI.weak (i:=0) h0 rfl (fun _ hA=>?_)
     refine gI.perm ?_ hA
     unfold iE
     rw [aCB (Dp.pcs [2]) hds xs hl p]
     have e1:List.zipWith (Dp.pcs [2]) hds xs=(List.finRange xs.length).map fun i=>Dp.pcs [2] (hds[i.val]'(hh i)) xs[i]:=by
      have:=aCB (Dp.pcs [2]) hds xs hl (List.finRange xs.length)
      rwa [hds_eq,aCA] at this
     rw [e1,←List.flatMap_def,←List.flatMap_def]
     exact (hp.symm).flatMap_right _
    exact aI.arr 2 [1,0] h2 rfl
 ·cases hm
end Gv
namespace Gv
open Go.Value renaming slice→zS
open Go Go.Proofs Go.RowKit Go.Sort
section
variable {P:Program} {f:Nat→Value} {w:World} {d:Nat} {x y z:Operand} {ty:TypeId} {pos:String} {af:Array Go.Edge}
theorem R_capS {T E:TypeId} {sz:Nat} {a:Option Addr} {len cap:Nat} (hT:SLT P T E sz) (hx:ev f x=.slice a len cap):
  (execOp (ev f) ⟨some d,.call ⟨.builtin .cap,#[x],#[T]⟩,ty,pos,af,none⟩).run P w=.ok (.value (i64 cap)) w:=
 (by simp [execOp,resolve,invoke,builtin,Builtin.cap_,hx,hT.un,goInt,i64])
theorem R_slN {T E:TypeId} {sz:Nat} {len cap:Nat} {h:Int} (hT:SLT P T E sz) (hx:ev f x=.slice none len cap) (hz:ev f z=i64 h) (h0:0≤h) (h1:h≤cap):
  (execOp (ev f) ⟨some d,.slice T x none (some z) none,ty,pos,af,none⟩).run P w=.ok (.value (.slice none h.toNat cap)) w:=by
 have hc:0≤h∧h≤cap:=⟨h0,h1⟩
 simp [execOp,hx,hz,aDy hT,Instr.slice,hT.un,hT.size,Instr.sliceBounds,Instr.sliceBound,i64,asIntOf,hc]
theorem R_slZ {T E:TypeId} {sz b:Nat} {len cap:Nat} (hT:SLT P T E sz) (hx:ev f x=.slice (some ⟨b,0,none⟩) len cap) (hz:ev f z=i64 0):
  (execOp (ev f) ⟨some d,.slice T x none (some z) none,ty,pos,af,none⟩).run P w=.ok (.value (.slice (some ⟨b,0,none⟩) 0 cap)) w:=by
 have hc:(0:Int)≤0∧(0:Int)≤cap:=⟨Int.le_refl _,by omega⟩
 simp [execOp,hx,hz,aDy hT,Instr.slice,hT.un,hT.size,Instr.sliceBounds,Instr.sliceBound,i64,asIntOf,hc,mR]
end
section
variable {G:Env} {K:Hp} {L:List nG} {w:World}
theorem lib_GrowStr {n:Int} {R:List bI} (hs:aI G K L w) (_hr:bX K none 0 ([]:List bI)) (hm:aDA [] n=some R):
  Calls Tryz.prog 150 ([zS none 0 0,i64 n]:List Value).toArray w (gQ fun v w'=>∃ (a':Option Addr) (c':Nat),v=zS a' R.length c'∧aI G K (aR 9 K a' c' R::L) w'):=by
 unfold aDA at hm
 split at hm
 ·rename_i hl
  cases hm
  obtain ⟨-,h0,h1⟩:=hl
  unfold iX at h1
  refine aS Tryz.func150 rfl (by kernel_rfl) (by show (2:Nat)≤27;decide) ?_
  refine aO ?_
  refine aP ?_
  refine aD (gB (v:=zS none 0 0) rfl) ?_
  refine bM (aA ?_)
  refine aO ?_
  refine aO ?_
  refine aP ?_
  refine aD (aW (v:=i64 n) rfl) ?_
  refine aD (cT rfl rfl) ?_
  refine bM (aA ?_)
  refine aJ (by simp;omega) rfl ?_
  refine aY (aA ?_)
  refine aO ?_
  refine aO ?_
  refine aP ?_
  refine aD (aW (v:=i64 n) rfl) ?_
  refine aD (aW (v:=zS none 0 0) rfl) ?_
  refine aD (R_capS dM rfl) ?_
  refine aD (aW (v:=zS none 0 0) rfl) ?_
  refine aD (bT dM rfl) ?_
  refine aD (nI rfl rfl) ?_
  refine aD (nI rfl rfl) ?_
  refine aD (gB (v:=i64 n) (congrArg i64 (show wr (n - wr (0 - 0))=n by rw [show wr ((0:Int) - 0)=0 by decide,Int.sub_zero,fH]<;>omega))) ?_
  refine bM (aA ?_)
  refine aO ?_
  refine aP ?_
  refine aD (aW (v:=i64 n) rfl) ?_
  refine aD (sL rfl rfl) ?_
  refine bM (aA ?_)
  by_cases hn:0 < n
  ·refine aM (decide_eq_true hn) rfl ?_
   refine aP ?_
   refine aD (aW (v:=zS none 0 0) rfl) ?_
   refine aD (aW (v:=zS none 0 0) rfl) ?_
   refine aD (R_capS dM rfl) ?_
   refine aD (R_slN dM rfl rfl (Int.le_refl _) (Int.le_refl _)) ?_
   refine aD (aW (v:=i64 n) rfl) ?_
   obtain ⟨inf,hi,hib,hisz,hinf,zv,hzv,hzc⟩:=aBx.info
   have hnn:((n.toNat:Nat):Int)=n:=by omega
   have hap:=Go.Lib.run_append_nil_zeros (P:=Tryz.prog) w 24 3 24 9 inf zv .i64 .i64 (by kernel_rfl) (by kernel_rfl) hinf hzv n.toNat (by omega) (by rw [hisz];decide) (by omega) (by have:=Nat.mul_le_mul (Nat.le_refl n.toNat) hib;omega)
   rw [hnn] at hap
   refine yI rfl (w':=_) (v:=_) (by simp only [execOp,resolve,invoke,builtin,Sem.run_bind,Sem.run_pure,Result.andThen_ok,List.map_toArray,List.map_cons,List.map_nil];erw [hap];rfl) ?_
   refine aD (aW (v:=zS none 0 0) rfl) ?_
   refine aD (bT dM rfl) ?_
   refine aD (R_slZ dM rfl rfl) ?_
   refine aD (gB rfl) ?_
   refine bM (aA ?_)
   refine aO ?_
   refine aP ?_
   refine aD (aW rfl) ?_
   refine aD (gB rfl) ?_
   refine bM (aA ?_)
   refine bK (bE Tryz.results150 rfl ⟨_,_,rfl,?_⟩)
   refine (hs.mono (dN.drew w)).alloc _ (aGW (xs:=([]:List bI)) (rows:=[]) (Hp.one_self _ _) (Nat.zero_le _) ?_ rfl (fun t v ht=>by simp at ht) (fun i d e=>by simp at e))
   have:zv.cells.size=1:=by rw [hzc];rfl
   simp only [Array.size_append,size_zeroCells,this]
   show _ * 1≤_
   omega
  ·refine aJ (by simpa using hn) rfl ?_
   refine aY (aA ?_)
   refine aO ?_
   refine aP ?_
   refine aD (aW (v:=zS none 0 0) rfl) ?_
   refine aD (gB (v:=zS none 0 0) rfl) ?_
   refine bM (aA ?_)
   exact bK (bE Tryz.results150 rfl ⟨none,0,rfl,hs.nil _ _⟩)
 ·cases hm
end
end Gv
