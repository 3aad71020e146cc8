/- Contracts of functions of Go's library, said of heaps of pieces. -/
import Derived.Test.YtmlgcbjkfcapaaaGreatDoorJLWa
import Derived.Test.YtmlgcbjkfcapaaaGreatDoorJWk0
import Derived.Test.YtmlgcbjkfcapaaaGreatDoorJP11
import Derived.Lib.AppendZeros
set_option linter.all false
namespace Gv
open Go Go.Proofs Go.RowKit Go.Sort
section
variable {G:Env} {K:Hp} {L:List pH} {w:World}
def cmpL (a b:bB):Int:=if a == b then 0 else if a == cE then -1 else if b == cE then 1 else cmpB a b
theorem cmpL_eq (a b:bB):vB a b=some (cmpL a b):=by
 unfold vB cmpL
 rw [show ([116,97,117]:bB)=cE from rfl]
 cases a == b<;>cases a == cE<;>cases b == cE<;>rfl
theorem aJR (a b:bB):ltOf cmpL a b=rB a b:=by
 unfold ltOf cmpL rB cmpB
 by_cases h1:a=b
 ·simp [h1]
 ·by_cases h2:a=cE
  ·subst h2;simp [h1]
  ·by_cases h3:b=cE
   ·simp [h1,h2,h3]
   ·simp only [h1,h2,h3,beq_iff_eq,if_false]
    cases vU a b<;>rfl
def cmpE (a b:Edge):Int:=or3 (aGz a.F b.F) (aGz a.B b.B) (aGz a.To b.To)
theorem aJS (a b:Edge):ltOf cmpE a b=gI a b:=by
 unfold ltOf cmpE
 have:=cmpE_ge a b
 cases hx:gI a b with
 |true=>rw [hx] at this;simp at this;simpa using this
 |false=>rw [hx] at this;simp at this;simpa using this
theorem aHP (a b:Edge):gI a b=true∨a=b∨gI b a=true:=by
 rw [vP,vP]
 obtain ⟨a1,a2,a3⟩:=a
 obtain ⟨b1,b2,b3⟩:=b
 simp only [Edge.mk.injEq]
 omega
theorem edgeLt_tr {a b c:Edge} (h1:gI a b=true) (h2:gI b c=true):gI a c=true:=by
 rw [vP] at *;omega
theorem swo_of {α:Type} {lt lt':α→α→Bool} (he:∀ a b,lt' a b=lt a b) (irr:∀ a,lt a a=false) (tr:∀ {a b c},lt a b=true→lt b c=true→lt a c=true) (tri:∀ a b,lt a b=true∨a=b∨lt b a=true):Sort.SWO lt':=by
 obtain rfl:lt'=lt:=by funext a b;exact he a b
 refine ⟨irr,fun x y z=>tr,fun x y z h1 h2=>?_⟩
 rcases tri x y with h|h|h
 ·rw [h] at h1;cases h1
 ·subst h;exact h2
 ·rcases tri y z with g|g|g
  ·rw [g] at h2;cases h2
  ·subst g;exact h1
  ·cases hx:lt' x z with
   |false=>rfl
   |true=>
    have:=tr (tr g h) hx
    rw [irr] at this;cases this
theorem aHQ {α:Type} {lt lt':α→α→Bool} (he:∀ a b,lt' a b=lt a b) (tri:∀ a b,lt a b=true∨a=b∨lt b a=true) (x y:α) (h1:lt' x y=false) (h2:lt' y x=false):x=y:=by
 rw [he] at h1 h2
 rcases tri x y with h|h|h
 ·rw [h] at h1;cases h1
 ·exact h
 ·rw [h] at h2;cases h2
theorem lib_SortStr {E:TypeId} {xs:List bB} {a:Option Addr} {c:Nat} {R:List bB} (hs:aK G K (aN E K a c xs::L) w) (hm:yA xs=some R):
  Calls Tryz.prog 187 ([Value.slice a xs.length c,Value.func (.func 188) #[] #[]]:List Value).toArray w (iK fun v w'=>v=Value.tuple #[]∧xs.length=R.length∧aK G K (aN E K a c R::L) w'):=by
 unfold yA at hm
 split at hm
 ·rename_i hl
  cases hm
  unfold jK at hl
  have hlen:(srt rB xs).length=xs.length:=List.length_mergeSort _
  have hlay:∀ b off,a=some ⟨b,off,none⟩→∀ (m:Nat) (os:Array Obj) (dk:Array bB),dk.size=xs.length→aK G K (aN E K a c dk.toList::L) (sortWorld str w b off m dk os):=by
   rintro b off rfl m os dk hdk
   unfold sortWorld
   rw [aHg]
   refine aK.putRow (i:=0) hs rfl (by simp [hdk]) ?_
   rw [aKN];simp
  rcases aDO hs (i:=0) rfl with ⟨rfl,rfl⟩|⟨b,off,rfl,hb,hc⟩
  ·refine (Tryz.slices_SortFunc_none_f187 (α:=bB) none c _ w).mono ?_
   rintro e w' ⟨rfl,rfl⟩
   exact ⟨_,rfl,rfl,hlen.symm,by simpa [srt] using hs⟩
  ·refine (Tryz.slices_SortFunc_total_f187 (α:=bB) str (fun _=>rfl) cmpL (swo_of aJR yK aDK aDX) 188 #[] b off c xs.toArray w (enters_of Tryz.func188 (by kernel_rfl) rfl) ?_ ?_ hb (by simp;omega) (aHQ aJR aDX)).mono ?_
   ·intro m os dk hdk x y
    have hst:=hlay b off rfl m os dk (by simpa using hdk)
    have:=aDB (aK.start (sortWorld str w b off m dk os) G.laid hst.globs) (cmpL_eq x y)
    refine this.mono ?_
    rintro e w' ⟨v,rfl,rfl,hx⟩
    exact ⟨rfl,hx.exact⟩
   ·intro j hj
    have hj':j < xs.length:=by simpa using hj
    have:=hc j (str xs[j]) (by rw [aKN];simp [hj'])
    rw [getElem!_pos xs.toArray j hj]
    simpa using this
   ·rintro e w' ⟨rfl,n,os,rfl⟩
    refine ⟨_,rfl,rfl,hlen.symm,?_⟩
    have:=hlay b off rfl n os (srt rB xs).toArray (by simpa using hlen)
    have he:(xs.toArray.toList.mergeSort fun x y=>!ltOf cmpL y x)=srt rB xs:=by
     unfold srt;congr 1;funext x y;rw [aJR]
    rw [he]
    simpa using this
 ·cases hm
theorem aLb {β:Type} [gH β]:∀ (l:List β) (i r:Nat) (hi:i < l.length),r < gH.sz β→(jR l)[i * gH.sz β+r]?=(gH.enc l[i])[r]?
 |[],i,r,hi,_=>by simp at hi
 |x::l,0,r,hi,hr=>by
  unfold jR
  rw [List.flatMap_cons,Nat.zero_mul,Nat.zero_add,List.getElem?_append_left (by rw [gH.len];exact hr)];rfl
 |x::l,i+1,r,hi,hr=>by
  have:=aLb l i r (by simpa using hi) hr
  unfold jR at this ⊢
  rw [List.flatMap_cons,Nat.add_mul,Nat.one_mul,List.getElem?_append_right (by rw [gH.len];omega),gH.len]
  rw [show i * gH.sz β+gH.sz β+r - gH.sz β=i * gH.sz β+r by omega,this];rfl
theorem aFl {β:Type} [gH β] [Inhabited β] (l:List β):(flatK gH.enc (gH.sz β) l.toArray).toList=jR l:=by
 have hz:=gH.pos (α:=β)
 refine List.ext_getElem? fun t=>?_
 unfold flatK
 by_cases ht:t < l.length * gH.sz β
 ·have h1:t / gH.sz β < l.length:=Nat.div_lt_of_lt_mul (by rw [Nat.mul_comm];exact ht)
  have h2:t % gH.sz β < gH.sz β:=Nat.mod_lt _ hz
  have h3:=aLb l (t / gH.sz β) (t % gH.sz β) h1 h2
  rw [Nat.div_add_mod'] at h3
  rw [h3]
  simp only [Array.toList_map,Array.toList_range,List.getElem?_map,List.size_toArray,List.getElem?_range ht,Option.map_some]
  rw [getElem!_pos l.toArray _ (by simpa using h1)]
  have h4:t % gH.sz β < (gH.enc l[t / gH.sz β]).length:=by rw [gH.len];exact h2
  rw [List.getElem?_eq_getElem h4]
  simp only [List.getElem_toArray]
  rw [getElem!_pos (gH.enc l[t / gH.sz β]) (t % gH.sz β) h4]
 ·rw [List.getElem?_eq_none (by simp;omega),List.getElem?_eq_none (by rw [rK];omega)]
theorem lib_SortEdge {E:TypeId} {xs:List Edge} {a:Option Addr} {c:Nat} {R:List Edge} (hs:aK G K (aN E K a c xs::L) w) (hm:vI xs=some R):
  Calls Tryz.prog 85 ([Value.slice a xs.length c,Value.func (.func 81) #[] #[]]:List Value).toArray w (iK fun v w'=>v=Value.tuple #[]∧xs.length=R.length∧aK G K (aN E K a c R::L) w'):=by
 unfold vI at hm
 split at hm
 ·rename_i hl
  cases hm
  unfold jK at hl
  have hlen:(srt gI xs).length=xs.length:=List.length_mergeSort _
  have hlay:∀ b off,a=some ⟨b,off,none⟩→∀ (m:Nat) (os:Array Obj) (dk:Array Edge),dk.size=xs.length→aK G K (aN E K a c dk.toList::L) (sortWorldK gH.enc 3 w b off m dk os):=by
   rintro b off rfl m os dk hdk
   unfold sortWorldK putRowK
   refine aK.putRow (i:=0) hs rfl (by simp [hdk]) ?_
   exact aFl dk.toList
  rcases aDO hs (i:=0) rfl with ⟨rfl,rfl⟩|⟨b,off,rfl,hb,hc⟩
  ·refine (Tryz.slices_SortFunc_none_f85 (α:=Edge) none c _ w).mono ?_
   rintro e w' ⟨rfl,rfl⟩
   exact ⟨_,rfl,rfl,hlen.symm,by simpa [srt] using hs⟩
  ·refine (Tryz.slices_SortFunc_total_f85 (α:=Edge) 3 Tryz.isAgg63 Tryz.sizeOf63 gH.enc (fun _=>rfl) (fun x v hv=>gH.one x v hv) cmpE (swo_of aJS (fun a=>by cases hx:gI a a with|false=>rfl|true=>exact absurd rfl (aJc hx)) edgeLt_tr aHP) 81 #[] b off c xs.toArray w (enters_of Tryz.func81 (by kernel_rfl) rfl) ?_ ?_ hb (by simp;omega) (aHQ aJS aHP)).mono ?_
   ·intro m os dk hdk x y
    have hst:=hlay b off rfl m os dk (by simpa using hdk)
    have:=aAt (aK.start (sortWorldK gH.enc 3 w b off m dk os) G.laid hst.globs) (aDd x y)
    refine this.mono ?_
    rintro e w' ⟨v,rfl,rfl,hx⟩
    exact ⟨rfl,hx.exact⟩
   ·intro j hj
    have hf:=aFl xs
    have hj3:j < xs.length * 3:=by have h:=hj;rw [size_flatK] at h;simpa using h
    have hj2:j < (jR xs).length:=by rw [rK];exact hj3
    have:=hc j (jR xs)[j] (by rw [List.getElem?_eq_getElem hj2])
    have e:(flatK gH.enc 3 xs.toArray)[j]! = (jR xs)[j]:=by
     rw [getElem!_pos (flatK gH.enc 3 xs.toArray) j hj]
     have:(flatK gH.enc 3 xs.toArray)[j]=(flatK gH.enc (gH.sz Edge) xs.toArray).toList[j]'(by rw [hf];exact hj2):=by simp;rfl
     rw [this]
     simp only [hf]
    rw [e]
    exact this
   ·rintro e w' ⟨rfl,n,os,rfl⟩
    refine ⟨_,rfl,rfl,hlen.symm,?_⟩
    have:=hlay b off rfl n os (srt gI xs).toArray (by simpa using hlen)
    have he:(xs.toArray.toList.mergeSort fun x y=>!ltOf cmpE y x)=srt gI xs:=by
     unfold srt;congr 1;funext x y;rw [aJS]
    rw [he]
    simpa using this
 ·cases hm
end
end Gv
namespace Gv
open Go Go.Proofs Go.RowKit Go.Sort
theorem cmpInt_eq (a b:Int):eY a b=some (if a < b then -1 else if b < a then 1 else 0):=by
 unfold eY kJ
 simp only [bne_self_eq_false,aG]
 by_cases h1:a < b
 ·simp [h1]
 ·by_cases h2:b < a<;>simp [h1,h2]
theorem cmpS_end {a b:List Int} (ha:a.length < jK):cO a b (a.length:Int)=some (.inr (.inl ())):=by
 unfold cO
 rw [show decide ((a.length:Int) < (a.length:Int))=false from decide_eq_false (by omega)]
 rfl
theorem cmpS_one {a b:List Int} {k:Nat} (h:k < a.length) (h2:b.length≤k):cO a b (k:Int)=some (.inr (.inr 1)):=by
 unfold cO
 rw [show decide ((k:Int) < (a.length:Int))=true from decide_eq_true (by omega),if_pos rfl,show ix a (k:Int)=some a[k] by simp [ix,h],aG,show decide ((b.length:Int)≤(k:Int))=true from decide_eq_true (by omega),if_pos rfl]
theorem aHR {a b:List Int} {k:Nat} (h:k < a.length) (h2:k < b.length) (hb:b.length < jK):
  cO a b (k:Int)=some (if a[k] < b[k] then .inr (.inr (-1)) else if b[k] < a[k] then .inr (.inr 1) else .inl ((k+1:Nat):Int)):=by
 unfold jK at hb
 unfold cO
 rw [show decide ((k:Int) < (a.length:Int))=true from decide_eq_true (by omega),if_pos rfl,show ix a (k:Int)=some a[k] by simp [ix,h],aG,show decide ((b.length:Int)≤(k:Int))=false from decide_eq_false (by omega),if_neg (by simp),show ix b (k:Int)=some b[k] by simp [ix,h2],aG,cmpInt_eq,aG,show wr ((k:Int)+1)=((k+1:Nat):Int) by rw [iV]<;>omega]
 by_cases h1:a[k] < b[k]
 ·simp [h1]
 ·by_cases h3:b[k] < a[k]<;>simp [h1,h3]
theorem cmpJ_eq (a b:List Int):eD a b=some (if a.length < b.length then -1 else 0):=by
 unfold eD
 by_cases h:a.length < b.length
 ·rw [show decide ((a.length:Int) < (b.length:Int))=true from decide_eq_true (by omega)];simp [h]
 ·rw [show decide ((a.length:Int) < (b.length:Int))=false from decide_eq_false (by omega)];simp [h]
theorem aFW {a b:List Int} (ha:a.length < jK) (hb:b.length < jK):∀ (n k:Nat),k+n=a.length→k≤b.length→
  ∃ x,loop (fun s:Int=>cO a b s) (k:Int)=some x∧((x=.inl ()∧aFC (a.drop k) (b.drop k)=if a.length < b.length then -1 else 0)∨x=.inr (aFC (a.drop k) (b.drop k))):=by
 intro n
 induction n with
 |zero=>
  intro k hk hkb
  obtain rfl:k=a.length:=by omega
  refine ⟨.inl (),by rw [dL,cmpS_end ha],.inl ⟨rfl,?_⟩⟩
  rw [List.drop_eq_nil_of_le (Nat.le_refl _)]
  by_cases hlt:a.length < b.length
  ·rw [if_pos hlt,List.drop_eq_getElem_cons hlt];rfl
  ·rw [if_neg hlt,List.drop_eq_nil_of_le (by omega)];rfl
 |succ n ih=>
  intro k hk hkb
  have hka:k < a.length:=by omega
  by_cases hbk:b.length≤k
  ·refine ⟨.inr 1,by rw [dL,cmpS_one hka hbk],.inr ?_⟩
   rw [List.drop_eq_getElem_cons hka,List.drop_eq_nil_of_le hbk];rfl
  ·have hk2:k < b.length:=by omega
   have e1:=List.drop_eq_getElem_cons hka
   have e2:=List.drop_eq_getElem_cons hk2
   by_cases h1:a[k] < b[k]
   ·exact ⟨.inr (-1),by rw [dL,aHR hka hk2 hb,if_pos h1],.inr (by rw [e1,e2];simp [aFC,h1])⟩
   ·by_cases h2:b[k] < a[k]
    ·exact ⟨.inr 1,by rw [dL,aHR hka hk2 hb,if_neg h1,if_pos h2],.inr (by rw [e1,e2];simp [aFC,h1,h2])⟩
    ·obtain ⟨x,hx,h⟩:=ih (k+1) (by omega) (by omega)
     refine ⟨x,by rw [dL,aHR hka hk2 hb,if_neg h1,if_neg h2];exact hx,?_⟩
     have:aFC (a.drop k) (b.drop k)=aFC (a.drop (k+1)) (b.drop (k+1)):=by rw [e1,e2];simp [aFC,h1,h2]
     rw [this];exact h
theorem aHS {a b:List Int} (ha:a.length < jK) (hb:b.length < jK):fR a b=some (aFC a b):=by
 unfold fR
 obtain ⟨x,hx,h⟩:=aFW ha hb a.length 0 (by omega) (by omega)
 rw [show ((0:Nat):Int)=0 from rfl] at hx
 rw [hx,aG]
 simp only [List.drop_zero] at h
 rcases h with ⟨rfl,h⟩|rfl
 ·rw [h];exact cmpJ_eq a b
 ·rfl
end Gv
namespace Gv
open Go.Value renaming slice→zS
open Go Go.Proofs Go.RowKit Go.Sort
def cmpP (p q:Int × Int):Int:=aFC [p.1,p.2] [q.1,q.2]
theorem cmpP_eq (p q:Int × Int):xO p q=some (cmpP p q):=by
 unfold xO
 rw [aHS (by show 2 < jK;decide) (by show 2 < jK;decide)];rfl
theorem aDL (p q:Int × Int):aAY p q=true↔p.1 < q.1∨(p.1=q.1∧p.2 < q.2):=by
 simp [aAY]
theorem aJT (p q:Int × Int):ltOf cmpP p q=aAY p q:=by
 rw [Bool.eq_iff_iff,aDL]
 unfold ltOf cmpP aFC aFC aFC
 by_cases h1:p.1 < q.1
 ·simp [h1]
 ·by_cases h2:q.1 < p.1
  ·simp [h1,h2];omega
  ·by_cases h3:p.2 < q.2
   ·simp [h1,h2,h3];omega
   ·by_cases h4:q.2 < p.2<;>simp [h1,h2,h3,h4]
theorem aLc (a b:Int × Int):aAY a b=true∨a=b∨aAY b a=true:=by
 rw [aDL,aDL]
 obtain ⟨a1,a2⟩:=a
 obtain ⟨b1,b2⟩:=b
 simp only [Prod.mk.injEq]
 omega
theorem prLt_tr {a b c:Int × Int} (h1:aAY a b=true) (h2:aAY b c=true):aAY a c=true:=by
 rw [aDL] at *;omega
theorem prLt_irr (a:Int × Int):aAY a a=false:=by
 cases h:aAY a a with
 |false=>rfl
 |true=>rw [aDL] at h;omega
section
variable {G:Env} {K:Hp} {L:List pH} {w:World}
theorem lib_SortPair {E:TypeId} {xs:List (Int × Int)} {a:Option Addr} {c:Nat} {R:List (Int × Int)} (hs:aK G K (aN E K a c xs::L) w) (hm:aAZ xs=some R):
  Calls Tryz.prog 123 ([zS a xs.length c,Value.func (.func 124) #[] #[]]:List Value).toArray w (iK fun v w'=>v=Value.tuple #[]∧xs.length=R.length∧aK G K (aN E K a c R::L) w'):=by
 unfold aAZ at hm
 split at hm
 ·rename_i hl
  cases hm
  unfold jK at hl
  have hlen:(srt aAY xs).length=xs.length:=List.length_mergeSort _
  have hlay:∀ b off,a=some ⟨b,off,none⟩→∀ (m:Nat) (os:Array Obj) (dk:Array (Int × Int)),dk.size=xs.length→aK G K (aN E K a c dk.toList::L) (sortWorldK gH.enc 2 w b off m dk os):=by
   rintro b off rfl m os dk hdk
   unfold sortWorldK putRowK
   refine aK.putRow (i:=0) hs rfl (by simp [hdk]) ?_
   exact aFl dk.toList
  rcases aDO hs (i:=0) rfl with ⟨rfl,rfl⟩|⟨b,off,rfl,hb,hc⟩
  ·refine (Tryz.slices_SortFunc_none_f123 (α:=Int × Int) none c _ w).mono ?_
   rintro e w' ⟨rfl,rfl⟩
   exact ⟨_,rfl,rfl,hlen.symm,by simpa [srt] using hs⟩
  ·refine (Tryz.slices_SortFunc_total_f123 (α:=Int × Int) 2 Tryz.isAgg148 Tryz.sizeOf148 gH.enc (fun _=>rfl) (fun x v hv=>gH.one x v hv) cmpP (swo_of aJT prLt_irr prLt_tr aLc) 124 #[] b off c xs.toArray w (enters_of Tryz.func124 (by kernel_rfl) rfl) ?_ ?_ hb (by simp;omega) (aHQ aJT aLc)).mono ?_
   ·intro m os dk hdk x y
    have hst:=hlay b off rfl m os dk (by simpa using hdk)
    have:=aEb (aK.start (sortWorldK gH.enc 2 w b off m dk os) G.laid hst.globs) (cmpP_eq x y)
    refine this.mono ?_
    rintro e w' ⟨v,rfl,rfl,hx⟩
    exact ⟨rfl,hx.exact⟩
   ·intro j hj
    have hf:=aFl xs
    have hj3:j < xs.length * 2:=by have h:=hj;rw [size_flatK] at h;simpa using h
    have hj2:j < (jR xs).length:=by rw [rK];exact hj3
    have:=hc j (jR xs)[j] (by rw [List.getElem?_eq_getElem hj2])
    have e:(flatK gH.enc 2 xs.toArray)[j]! = (jR xs)[j]:=by
     rw [getElem!_pos (flatK gH.enc 2 xs.toArray) j hj]
     have:(flatK gH.enc 2 xs.toArray)[j]=(flatK gH.enc (gH.sz (Int × Int)) xs.toArray).toList[j]'(by rw [hf];exact hj2):=by simp;rfl
     rw [this]
     simp only [hf]
    rw [e]
    exact this
   ·rintro e w' ⟨rfl,n,os,rfl⟩
    refine ⟨_,rfl,rfl,hlen.symm,?_⟩
    have:=hlay b off rfl n os (srt aAY xs).toArray (by simpa using hlen)
    have he:(xs.toArray.toList.mergeSort fun x y=>!ltOf cmpP y x)=srt aAY xs:=by
     unfold srt;congr 1;funext x y;rw [aJT]
    rw [he]
    simpa using this
 ·cases hm
end
section
variable {P:Program} {f:Nat→Value} {w:World} {d:Nat} {x y z:Operand} {ty:TypeId} {pos:String} {af:Array Go.Edge}
theorem R_capS {T E:TypeId} {sz:Nat} {a:Option Addr} {len cap:Nat} (hT:SLT P T E sz) (hx:ev f x=.slice a len cap):
  (execOp (ev f) ⟨some d,.call ⟨.builtin .cap,#[x],#[T]⟩,ty,pos,af,none⟩).run P w=.ok (.value (i64 cap)) w:=
 (by simp [execOp,resolve,invoke,builtin,Builtin.cap_,hx,hT.un,goInt,i64])
theorem R_slN {T E:TypeId} {sz:Nat} {len cap:Nat} {h:Int} (hT:SLT P T E sz) (hx:ev f x=.slice none len cap) (hz:ev f z=i64 h) (h0:0≤h) (h1:h≤cap):
  (execOp (ev f) ⟨some d,.slice T x none (some z) none,ty,pos,af,none⟩).run P w=.ok (.value (.slice none h.toNat cap)) w:=by
 have hc:0≤h∧h≤cap:=⟨h0,h1⟩
 simp [execOp,hx,hz,aDN hT,Instr.slice,hT.un,hT.size,Instr.sliceBounds,Instr.sliceBound,i64,asIntOf,hc]
theorem R_slZ {T E:TypeId} {sz b:Nat} {len cap:Nat} (hT:SLT P T E sz) (hx:ev f x=.slice (some ⟨b,0,none⟩) len cap) (hz:ev f z=i64 0):
  (execOp (ev f) ⟨some d,.slice T x none (some z) none,ty,pos,af,none⟩).run P w=.ok (.value (.slice (some ⟨b,0,none⟩) 0 cap)) w:=by
 have hc:(0:Int)≤0∧(0:Int)≤cap:=⟨Int.le_refl _,by omega⟩
 simp [execOp,hx,hz,aDN hT,Instr.slice,hT.un,hT.size,Instr.sliceBounds,Instr.sliceBound,i64,asIntOf,hc,kU]
end
section
variable {G:Env} {K:Hp} {L:List pH} {w:World}
theorem lib_GrowStr {n:Int} {R:List bB} (hs:aK G K L w) (_hr:dB K none 0 ([]:List bB)) (hm:aDP [] n=some R):
  Calls Tryz.prog 193 ([zS none 0 0,i64 n]:List Value).toArray w (iK fun v w'=>∃ (a':Option Addr) (c':Nat),v=zS a' R.length c'∧aK G K (aN 9 K a' c' R::L) w'):=by
 unfold aDP at hm
 split at hm
 ·rename_i hl
  cases hm
  obtain ⟨-,h0,h1⟩:=hl
  unfold jK at h1
  refine aX Tryz.func193 rfl (by kernel_rfl) (by show (2:Nat)≤27;decide) ?_
  refine aQ ?_
  refine aS ?_
  refine aF (dH (v:=zS none 0 0) rfl) ?_
  refine bA (aC ?_)
  refine aQ ?_
  refine aQ ?_
  refine aS ?_
  refine aF (aZ (v:=i64 n) rfl) ?_
  refine aF (cG rfl rfl) ?_
  refine bA (aC ?_)
  refine aL (by simp;omega) rfl ?_
  refine aY (aC ?_)
  refine aQ ?_
  refine aQ ?_
  refine aS ?_
  refine aF (aZ (v:=i64 n) rfl) ?_
  refine aF (aZ (v:=zS none 0 0) rfl) ?_
  refine aF (R_capS cF rfl) ?_
  refine aF (aZ (v:=zS none 0 0) rfl) ?_
  refine aF (bN cF rfl) ?_
  refine aF (kL rfl rfl) ?_
  refine aF (kL rfl rfl) ?_
  refine aF (dH (v:=i64 n) (congrArg i64 (show wr (n - wr (0 - 0))=n by rw [show wr ((0:Int) - 0)=0 by decide,Int.sub_zero,iV]<;>omega))) ?_
  refine bA (aC ?_)
  refine aQ ?_
  refine aS ?_
  refine aF (aZ (v:=i64 n) rfl) ?_
  refine aF (oM rfl rfl) ?_
  refine bA (aC ?_)
  by_cases hn:0 < n
  ·refine aO (decide_eq_true hn) rfl ?_
   refine aS ?_
   refine aF (aZ (v:=zS none 0 0) rfl) ?_
   refine aF (aZ (v:=zS none 0 0) rfl) ?_
   refine aF (R_capS cF rfl) ?_
   refine aF (R_slN cF rfl rfl (Int.le_refl _) (Int.le_refl _)) ?_
   refine aF (aZ (v:=i64 n) rfl) ?_
   obtain ⟨inf,hi,hib,hisz,hinf,zv,hzv,hzc⟩:=vJ.info
   have hnn:((n.toNat:Nat):Int)=n:=by omega
   have hap:=Go.Lib.run_append_nil_zeros (P:=Tryz.prog) w 22 3 22 9 inf zv .i64 .i64 (by kernel_rfl) (by kernel_rfl) hinf hzv n.toNat (by omega) (by rw [hisz];decide) (by omega) (by have:=Nat.mul_le_mul (Nat.le_refl n.toNat) hib;omega)
   rw [hnn] at hap
   refine aAV rfl (w':=_) (v:=_) (by simp only [execOp,resolve,invoke,builtin,Sem.run_bind,Sem.run_pure,Result.andThen_ok,List.map_toArray,List.map_cons,List.map_nil];erw [hap];rfl) ?_
   refine aF (aZ (v:=zS none 0 0) rfl) ?_
   refine aF (bN cF rfl) ?_
   refine aF (R_slZ cF rfl rfl) ?_
   refine aF (dH rfl) ?_
   refine bA (aC ?_)
   refine aQ ?_
   refine aS ?_
   refine aF (aZ rfl) ?_
   refine aF (dH rfl) ?_
   refine bA (aC ?_)
   refine bH (bF Tryz.results193 rfl ⟨_,_,rfl,?_⟩)
   refine (hs.mono (dQ.drew w)).alloc _ (aGS (xs:=([]:List bB)) (rows:=[]) (Hp.one_self _ _) (Nat.zero_le _) ?_ rfl (fun t v ht=>by simp at ht) (fun i d e=>by simp at e))
   have:zv.cells.size=1:=by rw [hzc];rfl
   simp only [Array.size_append,size_zeroCells,this]
   show _ * 1≤_
   omega
  ·refine aL (by simpa using hn) rfl ?_
   refine aY (aC ?_)
   refine aQ ?_
   refine aS ?_
   refine aF (aZ (v:=zS none 0 0) rfl) ?_
   refine aF (dH (v:=zS none 0 0) rfl) ?_
   refine bA (aC ?_)
   exact bH (bF Tryz.results193 rfl ⟨none,0,rfl,hs.nil _ _⟩)
 ·cases hm
end
end Gv
