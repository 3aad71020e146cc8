/- Contracts of functions of Go's library, said of heaps of pieces. -/
import Derived.Test.YtokmmhfhaoanmaaGreatDoorJWk0
import Derived.Test.YtokmmhfhaoanmaaGreatDoorJP11
set_option linter.all false
namespace Gv
open Go Go.Proofs Go.RowKit Go.Sort
section
variable {G:mL} {K:Hp} {L:List eU} {w:World}
def cmpL (a b:aH):Int:=if a == b then 0 else if a == bS then -1 else if b == bS then 1 else cmpB a b
theorem cmpL_eq (a b:aH):aCh a b=some (cmpL a b):=by
 unfold aCh cmpL
 rw [show ([116,97,117]:aH)=bS from rfl]
 cases a == b<;>cases a == bS<;>cases b == bS<;>rfl
theorem aSv (a b:aH):ltOf cmpL a b=aAK a b:=by
 unfold ltOf cmpL aAK cmpB
 by_cases h1:a=b
 ·simp [h1]
 ·by_cases h2:a=bS
  ·subst h2;simp [h1]
  ·by_cases h3:b=bS
   ·simp [h1,h2,h3]
   ·simp only [h1,h2,h3,beq_iff_eq,if_false]
    cases mW a b<;>rfl
def cmpE (a b:Edge):Int:=or3 (aMv a.F b.F) (aMv a.B b.B) (aMv a.To b.To)
theorem aSw (a b:Edge):ltOf cmpE a b=cO a b:=by
 unfold ltOf cmpE
 have:=cmpE_ge a b
 cases hx:cO a b with
 |true=>rw [hx] at this;simp at this;simpa using this
 |false=>rw [hx] at this;simp at this;simpa using this
theorem aPN (a b:Edge):cO a b=true\/a=b\/cO b a=true:=by
 rw [uB,uB]
 obtain ⟨a1,a2,a3⟩:=a
 obtain ⟨b1,b2,b3⟩:=b
 simp only [Edge.mk.injEq]
 omega
theorem edgeLt_tr {a b c:Edge} (h1:cO a b=true) (h2:cO b c=true):cO a c=true:=by
 rw [uB] at *;omega
theorem swo_of {α:Type} {lt lt':α->α->Bool} (he:∀ a b,lt' a b=lt a b) (irr:∀ a,lt a a=false) (tr:∀ {a b c},lt a b=true->lt b c=true->lt a c=true) (tri:∀ a b,lt a b=true\/a=b\/lt b a=true):Sort.SWO lt':=by
 obtain rfl:lt'=lt:=by funext a b;exact he a b
 refine ⟨irr,fun x y z=>tr,fun x y z h1 h2=>?_⟩
 rcases tri x y with h|h|h
 ·rw [h] at h1;cases h1
 ·subst h;exact h2
 ·rcases tri y z with g|g|g
  ·rw [g] at h2;cases h2
  ·subst g;exact h1
  ·cases hx:lt' x z with
   |false=>rfl
   |true=>
    have:=tr (tr g h) hx
    rw [irr] at this;cases this
theorem aTJ {α:Type} {lt lt':α->α->Bool} (he:∀ a b,lt' a b=lt a b) (tri:∀ a b,lt a b=true\/a=b\/lt b a=true) (x y:α) (h1:lt' x y=false) (h2:lt' y x=false):x=y:=by
 rw [he] at h1 h2
 rcases tri x y with h|h|h
 ·rw [h] at h1;cases h1
 ·exact h
 ·rw [h] at h2;cases h2
theorem lib_SortStr {E:TypeId} {xs:List aH} {a:Option Addr} {c:Nat} {R:List aH} (hs:aD G K (aJ E K a c xs::L) w) (hm:aFM xs=some R):
  Calls Tryz.prog 121 ([Value.slice a xs.length c,Value.func (.func 122) #[] #[]]:List Value).toArray w (cN fun v w'=>v=Value.tuple #[]/\xs.length=R.length/\aD G K (aJ E K a c R::L) w'):=by
 unfold aFM at hm
 split at hm
 ·rename_i hl
  cases hm
  unfold fG at hl
  have hlen:(srt aAK xs).length=xs.length:=List.length_mergeSort _
  have hlay:∀ b off,a=some ⟨b,off,none⟩->∀ (m:Nat) (os:Array Obj) (dk:Array aH),dk.size=xs.length->aD G K (aJ E K a c dk.toList::L) (sortWorld str w b off m dk os):=by
   rintro b off rfl m os dk hdk
   unfold sortWorld
   rw [aKP]
   refine aD.putRow (i:=0) hs rfl (by simp [hdk]) ?_
   rw [aTA];simp
  rcases aDo hs (i:=0) rfl with ⟨rfl,rfl⟩|⟨b,off,rfl,hb,hc⟩
  ·refine (Tryz.slices_SortFunc_none_f121 (α:=aH) none c _ w).mono ?_
   rintro e w' ⟨rfl,rfl⟩
   exact ⟨_,rfl,rfl,hlen.symm,by simpa [srt] using hs⟩
  ·refine (Tryz.slices_SortFunc_total_f121 (α:=aH) str (fun _=>rfl) cmpL (swo_of aSv aRj aTI aNu) 122 #[] b off c xs.toArray w (enters_of Tryz.func122 (by kernel_rfl) rfl) ?_ ?_ hb (by simp;omega) (aTJ aSv aNu)).mono ?_
   ·intro m os dk hdk x y
    have hst:=hlay b off rfl m os dk (by simpa using hdk)
    have:=aBU (cmpL_eq x y) (aD.start (sortWorld str w b off m dk os) G.laid hst.globs)
    refine this.mono ?_
    rintro e w' ⟨v,rfl,rfl,hx⟩
    exact ⟨rfl,hx.exact⟩
   ·intro j hj
    have hj':j < xs.length:=by simpa using hj
    have:=hc j (str xs[j]) (by rw [aTA];simp [hj'])
    rw [getElem!_pos xs.toArray j hj]
    simpa using this
   ·rintro e w' ⟨rfl,n,os,rfl⟩
    refine ⟨_,rfl,rfl,hlen.symm,?_⟩
    have:=hlay b off rfl n os (srt aAK xs).toArray (by simpa using hlen)
    have he:(xs.toArray.toList.mergeSort fun x y=>!ltOf cmpL y x)=srt aAK xs:=by
     unfold srt;congr 1;funext x y;rw [aSv]
    rw [he]
    simpa using this
 ·cases hm
theorem aTK {β:Type} [dY β]:∀ (l:List β) (i r:Nat) (hi:i < l.length),r < dY.sz β->(flat l)[i * dY.sz β+r]?=(dY.enc l[i])[r]?
 |[],i,r,hi,_=>by simp at hi
 |x::l,0,r,hi,hr=>by
  unfold flat
  rw [List.flatMap_cons,Nat.zero_mul,Nat.zero_add,List.getElem?_append_left (by rw [dY.len];exact hr)];rfl
 |x::l,i+1,r,hi,hr=>by
  have:=aTK l i r (by simpa using hi) hr
  unfold flat at this ⊢
  rw [List.flatMap_cons,Nat.add_mul,Nat.one_mul,List.getElem?_append_right (by rw [dY.len];omega),dY.len]
  rw [show i * dY.sz β+dY.sz β+r - dY.sz β=i * dY.sz β+r by omega,this];rfl
theorem aTL {β:Type} [dY β] [Inhabited β] (l:List β):(flatK dY.enc (dY.sz β) l.toArray).toList=flat l:=by
 have hz:=dY.pos (α:=β)
 refine List.ext_getElem? fun t=>?_
 unfold flatK
 by_cases ht:t < l.length * dY.sz β
 ·have h1:t / dY.sz β < l.length:=Nat.div_lt_of_lt_mul (by rw [Nat.mul_comm];exact ht)
  have h2:t % dY.sz β < dY.sz β:=Nat.mod_lt _ hz
  have h3:=aTK l (t / dY.sz β) (t % dY.sz β) h1 h2
  rw [Nat.div_add_mod'] at h3
  rw [h3]
  simp only [Array.toList_map,Array.toList_range,List.getElem?_map,List.size_toArray,List.getElem?_range ht,Option.map_some]
  rw [getElem!_pos l.toArray _ (by simpa using h1)]
  have h4:t % dY.sz β < (dY.enc l[t / dY.sz β]).length:=by rw [dY.len];exact h2
  rw [List.getElem?_eq_getElem h4]
  simp only [List.getElem_toArray]
  rw [getElem!_pos (dY.enc l[t / dY.sz β]) (t % dY.sz β) h4]
 ·rw [List.getElem?_eq_none (by simp;omega),List.getElem?_eq_none (by rw [vF];omega)]
theorem lib_SortEdge {E:TypeId} {xs:List Edge} {a:Option Addr} {c:Nat} {R:List Edge} (hs:aD G K (aJ E K a c xs::L) w) (hm:aDH xs=some R):
  Calls Tryz.prog 125 ([Value.slice a xs.length c,Value.func (.func 126) #[] #[]]:List Value).toArray w (cN fun v w'=>v=Value.tuple #[]/\xs.length=R.length/\aD G K (aJ E K a c R::L) w'):=by
 unfold aDH at hm
 split at hm
 ·rename_i hl
  cases hm
  unfold fG at hl
  have hlen:(srt cO xs).length=xs.length:=List.length_mergeSort _
  have hlay:∀ b off,a=some ⟨b,off,none⟩->∀ (m:Nat) (os:Array Obj) (dk:Array Edge),dk.size=xs.length->aD G K (aJ E K a c dk.toList::L) (sortWorldK dY.enc 3 w b off m dk os):=by
   rintro b off rfl m os dk hdk
   unfold sortWorldK putRowK
   refine aD.putRow (i:=0) hs rfl (by simp [hdk]) ?_
   exact aTL dk.toList
  rcases aDo hs (i:=0) rfl with ⟨rfl,rfl⟩|⟨b,off,rfl,hb,hc⟩
  ·refine (Tryz.slices_SortFunc_none_f125 (α:=Edge) none c _ w).mono ?_
   rintro e w' ⟨rfl,rfl⟩
   exact ⟨_,rfl,rfl,hlen.symm,by simpa [srt] using hs⟩
  ·refine (Tryz.slices_SortFunc_total_f125 (α:=Edge) 3 Tryz.isAgg83 Tryz.sizeOf83 dY.enc (fun _=>rfl) (fun x v hv=>dY.one x v hv) cmpE (swo_of aSw (fun a=>by cases hx:cO a a with|false=>rfl|true=>exact absurd rfl (aRk hx)) edgeLt_tr aPN) 126 #[] b off c xs.toArray w (enters_of Tryz.func126 (by kernel_rfl) rfl) ?_ ?_ hb (by simp;omega) (aTJ aSw aPN)).mono ?_
   ·intro m os dk hdk x y
    have hst:=hlay b off rfl m os dk (by simpa using hdk)
    have:=aCo (aHT x y) (aD.start (sortWorldK dY.enc 3 w b off m dk os) G.laid hst.globs)
    refine this.mono ?_
    rintro e w' ⟨v,rfl,rfl,hx⟩
    exact ⟨rfl,hx.exact⟩
   ·intro j hj
    have hf:=aTL xs
    have hj3:j < xs.length * 3:=by have h:=hj;rw [size_flatK] at h;simpa using h
    have hj2:j < (flat xs).length:=by rw [vF];exact hj3
    have:=hc j (flat xs)[j] (by rw [List.getElem?_eq_getElem hj2])
    have e:(flatK dY.enc 3 xs.toArray)[j]! = (flat xs)[j]:=by
     rw [getElem!_pos (flatK dY.enc 3 xs.toArray) j hj]
     have:(flatK dY.enc 3 xs.toArray)[j]=(flatK dY.enc (dY.sz Edge) xs.toArray).toList[j]'(by rw [hf];exact hj2):=by simp;rfl
     rw [this]
     simp only [hf]
    rw [e]
    exact this
   ·rintro e w' ⟨rfl,n,os,rfl⟩
    refine ⟨_,rfl,rfl,hlen.symm,?_⟩
    have:=hlay b off rfl n os (srt cO xs).toArray (by simpa using hlen)
    have he:(xs.toArray.toList.mergeSort fun x y=>!ltOf cmpE y x)=srt cO xs:=by
     unfold srt;congr 1;funext x y;rw [aSw]
    rw [he]
    simpa using this
 ·cases hm
end
end Gv
namespace Gv
open Go Go.Proofs Go.RowKit Go.Sort
theorem cmpInt_eq (a b:Int):cM a b=some (if a < b then -1 else if b < a then 1 else 0):=by
 unfold cM kK
 simp only [bne_self_eq_false,aA]
 by_cases h1:a < b
 ·simp [h1]
 ·by_cases h2:b < a<;>simp [h1,h2]
theorem cmpS_end {a b:List Int} (ha:a.length < fG):bB a b (a.length:Int)=some (.inr (.inl ())):=by
 unfold bB
 rw [show decide ((a.length:Int) < (a.length:Int))=false from decide_eq_false (by omega)]
 rfl
theorem cmpS_one {a b:List Int} {k:Nat} (h:k < a.length) (h2:b.length<=k):bB a b (k:Int)=some (.inr (.inr 1)):=by
 unfold bB
 rw [show decide ((k:Int) < (a.length:Int))=true from decide_eq_true (by omega),if_pos rfl,show ix a (k:Int)=some a[k] by simp [ix,h],aA,show decide ((b.length:Int)<=(k:Int))=true from decide_eq_true (by omega),if_pos rfl]
theorem aPO {a b:List Int} {k:Nat} (h:k < a.length) (h2:k < b.length) (hb:b.length < fG):
  bB a b (k:Int)=some (if a[k] < b[k] then .inr (.inr (-1)) else if b[k] < a[k] then .inr (.inr 1) else .inl ((k+1:Nat):Int)):=by
 unfold fG at hb
 unfold bB
 rw [show decide ((k:Int) < (a.length:Int))=true from decide_eq_true (by omega),if_pos rfl,show ix a (k:Int)=some a[k] by simp [ix,h],aA,show decide ((b.length:Int)<=(k:Int))=false from decide_eq_false (by omega),if_neg (by simp),show ix b (k:Int)=some b[k] by simp [ix,h2],aA,cmpInt_eq,aA,show wr ((k:Int)+1)=((k+1:Nat):Int) by rw [eG]<;>omega]
 by_cases h1:a[k] < b[k]
 ·simp [h1]
 ·by_cases h3:b[k] < a[k]<;>simp [h1,h3]
theorem cmpJ_eq (a b:List Int):eH a b=some (if a.length < b.length then -1 else 0):=by
 unfold eH
 by_cases h:a.length < b.length
 ·rw [show decide ((a.length:Int) < (b.length:Int))=true from decide_eq_true (by omega)];simp [h]
 ·rw [show decide ((a.length:Int) < (b.length:Int))=false from decide_eq_false (by omega)];simp [h]
theorem aNv {a b:List Int} (ha:a.length < fG) (hb:b.length < fG):∀ (n k:Nat),k+n=a.length->k<=b.length->
  ∃ x,loop (fun s:Int=>bB a b s) (k:Int)=some x/\((x=.inl ()/\nA (a.drop k) (b.drop k)=if a.length < b.length then -1 else 0)\/x=.inr (nA (a.drop k) (b.drop k))):=by
 intro n
 induction n with
 |zero=>
  intro k hk hkb
  obtain rfl:k=a.length:=by omega
  refine ⟨.inl (),by rw [aQ,cmpS_end ha],.inl ⟨rfl,?_⟩⟩
  rw [List.drop_eq_nil_of_le (Nat.le_refl _)]
  by_cases hlt:a.length < b.length
  ·rw [if_pos hlt,List.drop_eq_getElem_cons hlt];rfl
  ·rw [if_neg hlt,List.drop_eq_nil_of_le (by omega)];rfl
 |succ n ih=>
  intro k hk hkb
  have hka:k < a.length:=by omega
  by_cases hbk:b.length<=k
  ·refine ⟨.inr 1,by rw [aQ,cmpS_one hka hbk],.inr ?_⟩
   rw [List.drop_eq_getElem_cons hka,List.drop_eq_nil_of_le hbk];rfl
  ·have hk2:k < b.length:=by omega
   have e1:=List.drop_eq_getElem_cons hka
   have e2:=List.drop_eq_getElem_cons hk2
   by_cases h1:a[k] < b[k]
   ·exact ⟨.inr (-1),by rw [aQ,aPO hka hk2 hb,if_pos h1],.inr (by rw [e1,e2];simp [nA,h1])⟩
   ·by_cases h2:b[k] < a[k]
    ·exact ⟨.inr 1,by rw [aQ,aPO hka hk2 hb,if_neg h1,if_pos h2],.inr (by rw [e1,e2];simp [nA,h1,h2])⟩
    ·obtain ⟨x,hx,h⟩:=ih (k+1) (by omega) (by omega)
     refine ⟨x,by rw [aQ,aPO hka hk2 hb,if_neg h1,if_neg h2];exact hx,?_⟩
     have:nA (a.drop k) (b.drop k)=nA (a.drop (k+1)) (b.drop (k+1)):=by rw [e1,e2];simp [nA,h1,h2]
     rw [this];exact h
theorem aPP {a b:List Int} (ha:a.length < fG) (hb:b.length < fG):dH a b=some (nA a b):=by
 unfold dH
 obtain ⟨x,hx,h⟩:=aNv ha hb a.length 0 (by omega) (by omega)
 rw [show ((0:Nat):Int)=0 from rfl] at hx
 rw [hx,aA]
 simp only [List.drop_zero] at h
 rcases h with ⟨rfl,h⟩|rfl
 ·rw [h];exact cmpJ_eq a b
 ·rfl
theorem fF.perm {A B:List eU} (p:A.Perm B):∀ {h:Hp},fF A h->fF B h:=by
 induction p with
 |nil=>exact fun s=>s
 |cons x _ ih=>exact fun ⟨h1,h2,a,d,l1,l2,r⟩=>⟨h1,h2,a,d,l1,l2,ih r⟩
 |swap x y l=>exact fun s=>fF.sel (is:=[1,0]) (n:=2) rfl s
 |trans _ _ ih1 ih2=>exact fun s=>ih2 (ih1 s)
theorem aDj {β:Type} (xs:List β):(List.finRange xs.length).map (fun i=>xs[i])=xs:=by
 apply List.ext_getElem?
 intro i
 by_cases h:i < xs.length<;>simp [h]
theorem aHm {β γ δ:Type} (f:β->γ->δ) (hds:List β) (xs:List γ) (hl:hds.length=xs.length) (p:List (Fin xs.length)):
  List.zipWith f (p.map fun i=>hds[i.val]'(by rw [hl];exact i.isLt)) (p.map fun i=>xs[i])=p.map fun i=>f (hds[i.val]'(by rw [hl];exact i.isLt)) xs[i]:=by
 induction p with
 |nil=>rfl
 |cons i p ih=>simp only [List.map_cons,List.zipWith_cons_cons,ih]
end Gv
namespace Gv
theorem aRl:∀ a b:List Int,nA b a=-nA a b
 |[],[]=>rfl
 |[],_::_=>rfl
 |_::_,[]=>rfl
 |a::l,b::m=>by
  simp only [nA]
  split<;>split<;>(try split)<;>first|omega|rfl|exact aRl l m
theorem aRm:∀ {a b:List Int},nA a b=0->a=b
 |[],[],_=>rfl
 |[],_::_,h=>by simp [nA] at h
 |_::_,[],h=>by simp [nA] at h
 |a::l,b::m,h=>by
  simp only [nA] at h
  split at h
  ·omega
  ·split at h
   ·omega
   ·rw [show a=b by omega,aRm h]
theorem aPQ:∀ {a b c:List Int},nA a b < 0->nA b c < 0->nA a c < 0
 |[],[],_,h,_=>by simp [nA] at h
 |[],_::_,[],_,h=>by simp [nA] at h
 |[],_::_,_::_,_,_=>by simp [nA]
 |_::_,[],_,h,_=>by simp [nA] at h
 |_::_,_::_,[],_,h=>by simp [nA] at h
 |a::l,b::m,c::n,h1,h2=>by
  simp only [nA] at *
  split at h1
  ·split at h2
   ·rw [if_pos (by omega)];omega
   ·split at h2
    ·omega
    ·rw [if_pos (by omega)];omega
  ·split at h1
   ·omega
   ·split at h2
    ·rw [if_pos (by omega)];omega
    ·split at h2
     ·omega
     ·rw [if_neg (by omega),if_neg (by omega)]
      exact aPQ h1 h2
theorem aLe (a b:GPoint):jC b a=-jC a b:=by
 unfold jC
 have:=aRl a.Values b.Values
 split<;>split<;>(try split)<;>(try split)<;>(try split)<;>(try split)<;>omega
theorem aHn {a b:GPoint} (h:jC a b=0):a=b:=by
 unfold jC at h
 split at h
 ·omega
 ·split at h
  ·omega
  ·split at h
   ·omega
   ·split at h
    ·omega
    ·have:=aRm h
     cases a;cases b
     simp only at *
     rw [this]
     congr 1<;>omega
theorem aVu (a:GPoint):jC a a=0:=by have:=aLe a a;omega
theorem aNX {a b c:GPoint} (h1:jC a b < 0) (h2:jC b c < 0):jC a c < 0:=by
 have hr:nA a.Values b.Values < 0->nA b.Values c.Values < 0->nA a.Values c.Values < 0:=fun g1 g2=>aPQ g1 g2
 unfold jC at *
 split at h1<;>split at h2<;>(try (split at h1))<;>(try (split at h2))<;>(try (split at h1))<;>(try (split at h2))<;>(try (split at h1))<;>(try (split at h2))<;>(try omega)<;>
  (repeat' split)<;>(first|omega|(exact hr (by omega) (by omega))|skip)
theorem aPR (a:GPoint):sK a a=false:=by simp [sK,aVu]
theorem aMw {a b c:GPoint} (h1:sK a b=true) (h2:sK b c=true):sK a c=true:=by
 simp only [sK,decide_eq_true_eq] at *
 exact aNX h1 h2
theorem aPS (a b:GPoint):sK a b=true\/a=b\/sK b a=true:=by
 simp only [sK,decide_eq_true_eq,aLe a b]
 by_cases h:jC a b=0
 ·exact .inr (.inl (aHn h))
 ·omega
theorem srt_ofG {β:Type} {lt:β->β->Bool} (irr:∀ a,lt a a=false) (tr:∀ {a b c},lt a b=true->lt b c=true->lt a c=true) (tri:∀ a b,lt a b=true\/a=b\/lt b a=true) {xs ys:List β} (p:ys.Perm xs) (h:ys.Pairwise fun a b=>(!lt b a)=true):ys=srt lt xs:=by
 have hle:∀ {a b},(!lt b a)=true->a=b\/lt a b=true:=fun {a b} h=>by
  rcases tri a b with h1|h1|h1
  ·exact .inr h1
  ·exact .inl h1
  ·rw [h1] at h;cases h
 have asy:∀ {a b},lt a b=true->lt b a=false:=fun {a b} h=>by
  cases hx:lt b a with
  |false=>rfl
  |true=>have:=tr h hx;rw [irr] at this;cases this
 refine List.Perm.eq_of_pairwise (le:=fun a b=>(!lt b a)=true) (fun a b _ _ h1 h2=>?_) h (List.pairwise_mergeSort (fun a b c h1 h2=>?_) (fun a b=>?_) _) (p.trans (List.mergeSort_perm _ _).symm)
 ·rcases hle h1 with e|e
  ·exact e
  ·rw [e] at h2;cases h2
 ·rcases hle h1 with rfl|h1
  ·exact h2
  ·rcases hle h2 with rfl|h2
   ·simp [asy h1]
   ·simp [asy (tr h1 h2)]
 ·rcases tri a b with h1|h1|h1
  ·simp [asy h1]
  ·subst h1;simp [irr]
  ·simp [asy h1]
theorem srtP_of {xs ys:List GPoint} (p:ys.Perm xs) (h:ys.Pairwise fun a b=>(!sK b a)=true):ys=srt sK xs:=srt_ofG aPR aMw aPS p h
theorem aHo:∀ a b:List GPoint,iR b a=-iR a b
 |[],[]=>rfl
 |[],_::_=>rfl
 |_::_,[]=>rfl
 |a::l,b::m=>by
  simp only [iR]
  have h:=aLe a b
  by_cases e:jC a b=0
  ·rw [if_neg (by omega),if_neg (by omega)];exact aHo l m
  ·rw [if_pos (by omega),if_pos e];exact h
theorem aLf:∀ {a b:List GPoint},iR a b=0->a=b
 |[],[],_=>rfl
 |[],_::_,h=>by simp [iR] at h
 |_::_,[],h=>by simp [iR] at h
 |a::l,b::m,h=>by
  simp only [iR] at h
  by_cases e:jC a b=0
  ·rw [if_neg (by omega)] at h
   rw [aHn e,aLf h]
  ·rw [if_pos e] at h;omega
theorem aNY:∀ {a b c:List GPoint},iR a b < 0->iR b c < 0->iR a c < 0
 |[],[],_,h,_=>by simp [iR] at h
 |[],_::_,[],_,h=>by simp [iR] at h
 |[],_::_,_::_,_,_=>by simp [iR]
 |_::_,[],_,h,_=>by simp [iR] at h
 |_::_,_::_,[],_,h=>by simp [iR] at h
 |a::l,b::m,c::n,h1,h2=>by
  simp only [iR] at *
  by_cases e1:jC a b=0
  ·have:=aHn e1
   subst this
   rw [if_neg (by omega)] at h1
   by_cases e2:jC a c=0
   ·rw [if_neg (by omega)] at h2 ⊢
    exact aNY h1 h2
   ·rw [if_pos e2] at h2 ⊢;exact h2
  ·rw [if_pos e1] at h1
   by_cases e2:jC b c=0
   ·have:=aHn e2
    subst this
    rw [if_pos e1];exact h1
   ·rw [if_pos e2] at h2
    have:=aNX h1 h2
    rw [if_pos (by omega)];exact this
theorem aPT (a:List GPoint):vH a a=false:=by have:=aHo a a;simp only [vH,decide_eq_false_iff_not];omega
theorem aMx {a b c:List GPoint} (h1:vH a b=true) (h2:vH b c=true):vH a c=true:=by
 simp only [vH,decide_eq_true_eq] at *
 exact aNY h1 h2
theorem aMy (a b:List GPoint):vH a b=true\/a=b\/vH b a=true:=by
 simp only [vH,decide_eq_true_eq,aHo a b]
 by_cases h:iR a b=0
 ·exact .inr (.inl (aLf h))
 ·omega
end Gv
namespace Gv
open Go Go.Proofs Go.RowKit Go.Sort
theorem aTM (a b:Int):cM a b=some (if a < b then -1 else if b < a then 1 else 0):=by
 unfold cM kK
 by_cases h1:a < b
 ·simp [h1]
 ·by_cases h2:b < a
  ·have h3:¬ a=b:=by omega
   simp [h1,h2]
  ·have h3:a=b:=by omega
   subst h3;simp
theorem or3_eqP (a b c:Int):mE [a,b,c]=some (if a≠0 then a else if b≠0 then b else c):=by
 unfold mE
 have s0:dE [a,b,c] 0=if a≠0 then some (.inr (.inr a)) else some (.inl 1):=by
  simp only [dE,show ix [a,b,c] 0=some a from rfl,aA]
  by_cases h:a=0<;>simp [h];decide
 have s1:dE [a,b,c] 1=if b≠0 then some (.inr (.inr b)) else some (.inl 2):=by
  simp only [dE,show ix [a,b,c] 1=some b from rfl,aA]
  by_cases h:b=0<;>simp [h];decide
 have s2:dE [a,b,c] 2=if c≠0 then some (.inr (.inr c)) else some (.inl 3):=by
  simp only [dE,show ix [a,b,c] 2=some c from rfl,aA]
  by_cases h:c=0<;>simp [h];decide
 have s3:dE [a,b,c] 3=some (.inr (.inl ())):=by
  simp [dE]
 by_cases ha:a=0
 ·by_cases hb:b=0
  ·by_cases hc:c=0
   ·rw [aQ,s0,if_neg (by simpa using ha)]
    simp only
    rw [aQ,s1,if_neg (by simpa using hb)]
    simp only
    rw [aQ,s2,if_neg (by simpa using hc)]
    simp only
    rw [aQ,s3]
    simp [ha,hb,hc];rfl
   ·rw [aQ,s0,if_neg (by simpa using ha)]
    simp only
    rw [aQ,s1,if_neg (by simpa using hb)]
    simp only
    rw [aQ,s2,if_pos hc]
    simp [ha,hb]
  ·rw [aQ,s0,if_neg (by simpa using ha)]
   simp only
   rw [aQ,s1,if_pos hb]
   simp [ha,hb]
 ·rw [aQ,s0,if_pos ha]
  simp [ha]
theorem aBl {a b:GPoint} (ha:a.Values.length < fG) (hb:b.Values.length < fG):jY a b=some (jC a b):=by
 unfold jY
 rw [aTM,aA,aTM,aA,aPP ha hb,aA,or3_eqP,aA]
 unfold jC
 refine congrArg some ?_
 by_cases h1:a.Definition < b.Definition
 ·simp [h1]
 ·by_cases h2:b.Definition < a.Definition
  ·simp [h1,h2]
  ·by_cases h3:a.Part < b.Part
   ·simp [h1,h2,h3]
   ·by_cases h4:b.Part < a.Part
    ·simp [h1,h2,h3,h4]
    ·simp [h1,h2,h3,h4]
theorem aNw {α:Type} [Inhabited α] {k:Nat} (enc:α->List Value) (hk:∀ x,(enc x).length=k) (h0:0 < k) (l:List α):(flatK enc k l.toArray).toList=l.flatMap enc:=by
 have hg:∀ (l:List α) (i r:Nat) (hi:i < l.length),r < k->(l.flatMap enc)[i * k+r]?=(enc l[i])[r]?:=by
  intro l
  induction l with
  |nil=>intro i r hi;simp at hi
  |cons x l ih=>
   intro i r hi hr
   cases i with
   |zero=>rw [List.flatMap_cons,Nat.zero_mul,Nat.zero_add,List.getElem?_append_left (by rw [hk];exact hr)];rfl
   |succ i=>
    have:=ih i r (by simpa using hi) hr
    rw [List.flatMap_cons,Nat.add_mul,Nat.one_mul,List.getElem?_append_right (by rw [hk];omega),hk]
    rw [show i * k+k+r - k=i * k+r by omega,this];rfl
 have hl:∀ l:List α,(l.flatMap enc).length=l.length * k:=by
  intro l
  induction l with
  |nil=>simp
  |cons x l ih=>rw [List.flatMap_cons,List.length_append,hk,ih,List.length_cons,Nat.add_mul];omega
 refine List.ext_getElem? fun t=>?_
 unfold flatK
 by_cases ht:t < l.length * k
 ·have h1:t / k < l.length:=Nat.div_lt_of_lt_mul (by rw [Nat.mul_comm];exact ht)
  have h2:t % k < k:=Nat.mod_lt _ h0
  have h3:=hg l (t / k) (t % k) h1 h2
  rw [Nat.div_add_mod'] at h3
  rw [h3]
  simp only [Array.toList_map,Array.toList_range,List.getElem?_map,List.size_toArray,List.getElem?_range ht,Option.map_some]
  rw [getElem!_pos l.toArray _ (by simpa using h1)]
  have h4:t % k < (enc l[t / k]).length:=by rw [hk];exact h2
  rw [List.getElem?_eq_getElem h4]
  simp only [List.getElem_toArray]
  rw [getElem!_pos (enc l[t / k]) (t % k) h4]
 ·rw [List.getElem?_eq_none (by simp;omega),List.getElem?_eq_none (by rw [hl];omega)]
theorem lib_SortPts {G:mL} {K:Hp} {L:List eU} {w:World} {E:TypeId} {xs:List GPoint} {a:Option Addr} {c:Nat} {hds:List (Dp.Hd GPoint)} {R:List GPoint} (hs:aD G K (aJ E K a c (aO hds xs)::rows [2] hds xs::L) w) (hl:hds.length=xs.length) (hm:aJw xs=some R):
  Calls Tryz.prog 82 ([Value.slice a xs.length c,Value.func (.func 83) #[] #[]]:List Value).toArray w (cN fun v w'=>∃ hd:List (Dp.Hd GPoint),v=Value.tuple #[]/\xs.length=R.length/\List.length hd=List.length R/\aD G K (aJ E K a c (aO hd R)::rows [2] hd R::L) w'):=by
 unfold aJw at hm
 split at hm
 ·rename_i hc
  obtain ⟨hlim,hrl⟩:=hc
  cases hm
  have hlen:(srt sK xs).length=xs.length:=List.length_mergeSort _
  by_cases hx:xs=[]
  ·
   subst hx
   obtain rfl:hds=[]:=List.length_eq_zero_iff.1 hl
   have hR:srt sK ([]:List GPoint)=[]:=by simp [srt]
   rw [hR]
   rcases aDo hs (i:=0) rfl with ⟨rfl,_⟩|⟨b,off,rfl,hb,_⟩
   ·refine (Tryz.slices_SortFunc_none_f82 (α:=aH) none c _ w).mono ?_
    rintro e w' ⟨rfl,rfl⟩
    exact ⟨_,rfl,[],rfl,rfl,rfl,hs⟩
   ·let enc:Unit->List Value:=fun _=>[i64 0,i64 0,Value.slice none 0 0]
    have hlay:∀ (m:Nat) (os:Array Obj) (dk:Array Unit),dk.size=0->aD G K (aJ E K (some ⟨b,off,none⟩) c (aO ([]:List (Dp.Hd GPoint)) [])::rows [2] ([]:List (Dp.Hd GPoint)) []::L) (sortWorldK enc 3 w b off m dk os):=by
     intro m os dk hdk
     unfold sortWorldK putRowK
     refine aD.putRow (i:=0) hs rfl rfl ?_
     have:dk.toList=[]:=by cases dk;simpa using hdk
     have h2:=aNw (k:=3) enc (fun _=>rfl) (by omega) dk.toList
     rw [this] at h2
     have h3:dk=#[]:=by cases dk;simp at this;simp [this]
     subst h3
     exact h2
    refine (Tryz.slices_SortFunc_f82 (α:=Unit) 3 Tryz.isAgg123 Tryz.sizeOf123 enc (fun _=>rfl) (fun _ v hv=>by simp [enc] at hv;rcases hv with rfl|rfl|rfl<;>rfl) (fun _ _=>0) ⟨fun _=>rfl,fun _ _ _ h=>(by simp [ltOf] at h),fun _ _ _ _ _=>rfl⟩ 83 #[] b off c #[] w (enters_of Tryz.func83 (by kernel_rfl) rfl) ?_ (fun j hj=>by simp [flatK] at hj) hb (by simp)).mono ?_
    ·intro m os dk hdk x y
     have hst:=hlay m os dk hdk
     have:=oL (aBl (a:=⟨0,0,[]⟩) (b:=⟨0,0,[]⟩) (by decide) (by decide)) (aD.start (sortWorldK enc 3 w b off m dk os) G.laid hst.globs) (wT (α:=Int) _) (wT (α:=Int) _)
     refine this.mono ?_
     rintro e w' ⟨v,rfl,rfl,hx⟩
     exact ⟨rfl,hx.exact⟩
    ·rintro e w' ⟨rfl,d',n,os,hp,_,rfl⟩
     have:d'.size=0:=by have:=hp.1;simpa using this
     exact ⟨_,rfl,[],rfl,rfl,rfl,hlay n os d' this⟩
  ·have hpos:0 < xs.length:=List.length_pos_iff.2 hx
   have hh:∀ i:Fin xs.length,i.val < hds.length:=fun i=>by rw [hl];exact i.isLt
   obtain ⟨K',h1,hA,l1,lk,s1,back⟩:=aD.lend (i:=1) hs rfl
   have s1:aD G K' (aJ E K a c (aO hds xs)::L) w:=s1
   have hrd:∀ i:Fin xs.length,aW K' (Prod.fst (hds[i.val]'(hh i))) (Prod.snd (hds[i.val]'(hh i))) (xs[i]).Values:=fun i=>
    aTp (aOF hA l1 (List.getElem?_eq_getElem (hh i)) (List.getElem?_eq_getElem i.isLt))
   have hne:aO hds xs≠[]:=by
    intro e
    have:=lE (xs:=xs) hl
    rw [e] at this;simp at this;omega
   rcases aDo s1 (i:=0) rfl with ⟨_,h⟩|⟨b,off,rfl,hb,hcell⟩
   ·exact absurd h hne
   haveI:Inhabited (Fin xs.length):=⟨⟨0,hpos⟩⟩
   let enc:Fin xs.length->List Value:=fun i=>Dp.enc (hds[i.val]'(hh i)) xs[i]
   let cf:Fin xs.length->Fin xs.length->Int:=fun i j=>jC xs[i] xs[j]
   let hdr:Fin xs.length->Cells 2:=fun i=>aEN (hds[i.val]'(hh i)) xs[i]
   have hheads:∀ p:List (Fin xs.length),aO (p.map fun i=>hds[i.val]'(hh i)) (p.map fun i=>xs[i])=p.map hdr:=fun p=>aHm aEN hds xs hl p
   have hds_eq:(List.finRange xs.length).map (fun i=>hds[i.val]'(hh i))=hds:=by
    apply List.ext_getElem?
    intro i
    by_cases h:i < xs.length
    ·simp [h,hl]
    ·simp [h,hl]
   have hfm:∀ l:List (Fin xs.length),(l.map hdr).flatMap dY.enc=l.flatMap enc:=fun l=>by
    induction l with
    |nil=>rfl
    |cons i l ih=>simp only [List.map_cons,List.flatMap_cons,ih];rfl
   have hlay:∀ (m:Nat) (os:Array Obj) (dk:Array (Fin xs.length)),dk.size=xs.length->aD G K' (aJ E K (some ⟨b,off,none⟩) c (dk.toList.map hdr)::L) (sortWorldK enc 3 w b off m dk os):=by
    intro m os dk hdk
    unfold sortWorldK putRowK
    refine aD.putRow (i:=0) s1 rfl (by simp [lE hl,hdk]) ?_
    show (flatK enc 3 dk).toList=(dk.toList.map hdr).flatMap dY.enc
    rw [hfm]
    exact aNw (k:=3) enc (fun _=>rfl) (by omega) dk.toList
   have hlt:∀ i j,ltOf cf i j=sK xs[i] xs[j]:=fun i j=>rfl
   have hsz:(List.finRange xs.length).toArray.size=xs.length:=by simp
   have hswo:SWO (ltOf cf):=by
    refine ⟨fun i=>aPR _,fun i j k h1 h2=>aMw h1 h2,fun i j k h1 h2=>?_⟩
    have h1:sK xs[i] xs[j]=false:=h1
    have h2:sK xs[j] xs[k]=false:=h2
    show sK xs[i] xs[k]=false
    rcases aPS xs[i] xs[j] with g|g|g
    ·rw [g] at h1;cases h1
    ·rw [g];exact h2
    ·cases hx:sK xs[i] xs[k] with
     |false=>rfl
     |true=>have:=aMw g hx;rw [h2] at this;cases this
   have key:=fun h1 h2=>Tryz.slices_SortFunc_f82 (α:=Fin xs.length) 3 Tryz.isAgg123 Tryz.sizeOf123 enc (fun _=>rfl) (fun i v hv=>Dp.one _ _ v hv) cf hswo 83 #[] b off c (List.finRange xs.length).toArray w (enters_of Tryz.func83 (by kernel_rfl) rfl) h1 h2 hb (by rw [hsz];unfold fG at hlim;omega)
   rw [hsz] at key
   refine (key ?_ ?_).mono ?_
   ·intro m os dk hdk x y
    have hst:=hlay m os dk (by simpa using hdk)
    have:=oL (aBl (hrl _ (List.getElem_mem _)) (hrl _ (List.getElem_mem _))) (aD.start (sortWorldK enc 3 w b off m dk os) G.laid hst.globs) ((hrd x).mono hst.know) ((hrd y).mono hst.know)
    refine this.mono ?_
    rintro e w' ⟨v,rfl,rfl,hx⟩
    exact ⟨rfl,hx.exact⟩
   ·intro j hj
    have hf:=aNw (k:=3) enc (fun _=>rfl) (by omega) (List.finRange xs.length)
    have hj3:j < (flatK enc 3 (List.finRange xs.length).toArray).size:=hj
    have e0:=hheads (List.finRange xs.length)
    rw [hds_eq,aDj] at e0
    have:=hcell j ((flatK enc 3 (List.finRange xs.length).toArray)[j]'hj3) (by
     rw [e0]
     show ((List.finRange xs.length).map hdr |>.flatMap dY.enc)[j]?=_
     rw [hfm,←hf,Array.getElem?_toList,Array.getElem?_eq_getElem hj3])
    rw [getElem!_pos _ j hj3]
    exact this
   ·rintro e w' ⟨rfl,d',n,os,hpm,hsrt,rfl⟩
    obtain ⟨z1,_,z3⟩:=hpm
    have zs:d'.size=xs.length:=by rw [z1];simp
    have zp:d'.toList.Perm (List.finRange xs.length):=by
     have e1:d'.extract 0 xs.length=d':=by
      have:=Array.extract_size (xs:=d')
      rwa [zs] at this
     have e2:(List.finRange xs.length).toArray.extract 0 xs.length=(List.finRange xs.length).toArray:=by
      have:=Array.extract_size (xs:=(List.finRange xs.length).toArray)
      rwa [hsz] at this
     rw [e1,e2] at z3
     simpa using z3
    have hpw:(d'.toList.map fun i=>xs[i]).Pairwise fun a b=>(!sK b a)=true:=by
     rw [List.pairwise_map,List.pairwise_iff_getElem]
     intro i j hi hj hij
     rw [Array.length_toList] at hi hj
     have:=hsrt i j (Nat.zero_le _) hij (by rw [←zs];exact hj)
     rw [getElem!_pos d' j hj,getElem!_pos d' i hi] at this
     have this:sK xs[d'[j]] xs[d'[i]]=false:=this
     simp only [Array.getElem_toList]
     rw [this];rfl
    have hpr:(d'.toList.map fun i=>xs[i]).Perm xs:=by
     have:=zp.map (fun i=>xs[i])
     rwa [aDj] at this
    have hR:=srtP_of hpr hpw
    have h0:=back _ _ (hlay n os d' zs)
    rw [←hR]
    refine ⟨_,rfl,d'.toList.map (fun i=>hds[i.val]'(hh i)),rfl,by simp [zs],by simp,?_⟩
    rw [hheads d'.toList]
    have h2:aD G K (rows [2] (d'.toList.map fun i=>hds[i.val]'(hh i)) (d'.toList.map fun i=>xs[i])::aJ E K (some ⟨b,off,none⟩) c (d'.toList.map hdr)::L) (sortWorldK enc 3 w b off n d' os):=by
     refine aD.weak (i:=0) h0 rfl (fun _ hA=>?_)
     refine fF.perm ?_ hA
     unfold kC
     rw [aHm (Dp.pcs [2]) hds xs hl d'.toList]
     have e1:List.zipWith (Dp.pcs [2]) hds xs=(List.finRange xs.length).map fun i=>Dp.pcs [2] (hds[i.val]'(hh i)) xs[i]:=by
      have:=aHm (Dp.pcs [2]) hds xs hl (List.finRange xs.length)
      rwa [hds_eq,aDj] at this
     rw [e1,←List.flatMap_def,←List.flatMap_def]
     exact (zp.symm).flatMap_right _
    exact aD.arr 2 [1,0] h2 rfl
 ·cases hm
end Gv
namespace Gv
open Go.Value renaming slice→zS
open Go Go.Proofs Go.RowKit Go.Sort
theorem aGm {a b:List GPoint} (ha:a.length < fG) (hb:b.length < fG) (va:∀ p∈a,p.Values.length < fG) (vb:∀ p∈b,p.Values.length < fG):nL a b=some (iR a b):=by
 have e1:∀ {k:Nat} (h:k < a.length) (_:k < b.length),aK a b (k:Int)=if jC a[k] b[k]≠0 then some (.inr (.inr (jC a[k] b[k]))) else some (.inl ((k+1:Nat):Int)):=fun {k} h h2=>by
  unfold aK
  rw [if_pos (decide_eq_true (by omega)),show ix a (k:Int)=some a[k] by simp [ix,h],aA,if_neg (by simp;omega),show ix b (k:Int)=some b[k] by simp [ix,h2],aA,aBl (va _ (List.getElem_mem h)) (vb _ (List.getElem_mem h2)),aA,show wr ((k:Int)+1)=((k+1:Nat):Int) by unfold fG at ha;rw [eG]<;>omega]
  by_cases hc:jC a[k] b[k]=0
  ·rw [if_neg (by simp [hc]),if_neg (by simp [hc])]
  ·rw [if_pos (by simp [hc]),if_pos hc]
 have key:∀ (n k:Nat),k+n=a.length->k<=b.length->∃ x,loop (fun s:Int=>aK a b s) (k:Int)=some x/\((x=.inl ()/\iR (a.drop k) (b.drop k)=if a.length < b.length then -1 else 0)\/x=.inr (iR (a.drop k) (b.drop k))):=by
  intro n
  induction n with
  |zero=>
   intro k hk hkb
   obtain rfl:k=a.length:=by omega
   refine ⟨.inl (),?_,.inl ⟨rfl,?_⟩⟩
   ·rw [aQ]
    unfold aK
    rw [if_neg (by simp)]
   ·rw [List.drop_eq_nil_of_le (Nat.le_refl _)]
    by_cases hlt:a.length < b.length
    ·rw [if_pos hlt,List.drop_eq_getElem_cons hlt];rfl
    ·rw [if_neg hlt,List.drop_eq_nil_of_le (by omega)];rfl
  |succ n ih=>
   intro k hk hkb
   have hka:k < a.length:=by omega
   by_cases hbk:b.length<=k
   ·refine ⟨.inr 1,?_,.inr ?_⟩
    ·rw [aQ]
     unfold aK
     rw [if_pos (decide_eq_true (by omega)),show ix a (k:Int)=some a[k] by simp [ix,hka],aA,if_pos (decide_eq_true (by omega))]
    ·rw [List.drop_eq_getElem_cons hka,List.drop_eq_nil_of_le hbk];rfl
   ·have hk2:k < b.length:=by omega
    have d1:=List.drop_eq_getElem_cons hka
    have d2:=List.drop_eq_getElem_cons hk2
    have h:=e1 hka hk2
    by_cases hc:jC a[k] b[k]=0
    ·rw [if_neg (by simp [hc])] at h
     obtain ⟨x,hx,h3⟩:=ih (k+1) (by omega) (by omega)
     have:iR (a.drop k) (b.drop k)=iR (a.drop (k+1)) (b.drop (k+1)):=by rw [d1,d2];simp [iR,hc]
     exact ⟨x,by rw [aQ,h];exact hx,by rw [this];exact h3⟩
    ·rw [if_pos hc] at h
     exact ⟨_,by rw [aQ,h],.inr (by rw [d1,d2];simp [iR,hc])⟩
 unfold nL bH
 obtain ⟨x,hx,h⟩:=key a.length 0 (by omega) (by omega)
 rw [show ((0:Nat):Int)=0 from rfl] at hx
 rw [hx,aA]
 simp only [List.drop_zero] at h
 rcases h with ⟨rfl,h⟩|rfl
 ·rw [h]
  simp only
  unfold bN
  by_cases hlt:a.length < b.length
  ·rw [if_pos (by simpa using hlt),if_pos hlt,aA]
  ·rw [if_neg (by simpa using hlt),if_neg hlt,aA]
 ·rfl
theorem lib_SortSts {G:mL} {K Kf:Hp} {L:List eU} {w:World} {E:TypeId} {xs:List (List GPoint)} {a:Option Addr} {c:Nat} {R:List (List GPoint)} (hs:aD G K (aJ E Kf a c xs::L) w) (hKf:Hp.le Kf K) (hm:aJx xs=some R):
  Calls Tryz.prog 52 ([zS a xs.length c,Value.func (.func 53) #[] #[]]:List Value).toArray w (cN fun v w'=>v=Value.tuple #[]/\xs.length=R.length/\aD G K (aJ E Kf a c R::L) w'):=by
 unfold aJx at hm
 split at hm
 ·rename_i hc
  obtain ⟨hlim,hrl⟩:=hc
  cases hm
  have hlen:(srt vH xs).length=xs.length:=List.length_mergeSort _
  obtain ⟨cs,hh,s1⟩:=aD.rawOpen (n:=0) (i:=0) rfl hs rfl
  have s1:aD G K (aJ E Kf a c cs::L) w:=s1
  have hl:=hh.1
  by_cases hx:xs=[]
  ·subst hx
   obtain rfl:cs=[]:=List.length_eq_zero_iff.1 hl
   have hR:srt vH ([]:List (List GPoint))=[]:=by simp [srt]
   rw [hR]
   rcases aDo s1 (i:=0) rfl with ⟨rfl,_⟩|⟨b,off,rfl,hb,_⟩
   ·refine (Tryz.slices_SortFunc_none_f52 (α:=GPoint) none c _ w).mono ?_
    rintro e w' ⟨rfl,rfl⟩
    exact ⟨_,rfl,rfl,rfl,hs⟩
   ·have hlay:∀ (m:Nat) (os:Array Obj) (dk:Array Unit),dk.size=0->aD G K (aJ E Kf (some ⟨b,off,none⟩) c ([]:List (Cells 0))::L) (sortWorld (fun _:Unit=>zS none 0 0) w b off m dk os):=by
     intro m os dk hdk
     unfold sortWorld
     rw [aKP]
     refine aD.putRow (i:=0) s1 rfl rfl ?_
     have:dk.toList=[]:=by cases dk;simpa using hdk
     simp [this,flat]
    refine (Tryz.slices_SortFunc_f52 (α:=Unit) (fun _=>zS none 0 0) (fun _=>rfl) (fun _ _=>0) ⟨fun _=>rfl,fun _ _ _ h=>(by simp [ltOf] at h),fun _ _ _ _ _=>rfl⟩ 53 #[] b off c #[] w (enters_of Tryz.func53 (by kernel_rfl) rfl) ?_ (fun j hj=>by simp at hj) hb (by simp)).mono ?_
    ·intro m os dk hdk x y
     have hst:=hlay m os dk hdk
     have:=tW (aGm (a:=[]) (b:=[]) (by decide) (by decide) (fun p hp=>by cases hp) (fun p hp=>by cases hp)) (aD.start (sortWorld (fun _:Unit=>zS none 0 0) w b off m dk os) G.laid hst.globs) (wT (α:=GPoint) _) (wT (α:=GPoint) _)
     refine this.mono ?_
     rintro e w' ⟨v,rfl,rfl,hx⟩
     exact ⟨rfl,hx.exact⟩
    ·rintro e w' ⟨rfl,d',n,os,hpm,_,rfl⟩
     have h0:=(hlay n os d' (by have:=hpm.1;simpa using this)).rawClose (n:=0) (α:=List GPoint) (i:=0) (Ke:=Kf) rfl rfl (xs:=[]) ⟨rfl,fun j x h=>by simp at h⟩
     exact ⟨_,rfl,rfl,rfl,h0⟩
  ·have hpos:0 < xs.length:=List.length_pos_iff.2 hx
   have hhl:∀ i:Fin xs.length,i.val < cs.length:=fun i=>by rw [hl];exact i.isLt
   have hex:∀ i:Fin xs.length,∃ q:Option Addr × Nat,(cs[i.val]'(hhl i)).val=[zS q.1 (xs[i]).length q.2]/\aW K q.1 q.2 xs[i]:=fun i=>by
    obtain ⟨d,h3,a2,c2,h4,h5⟩:=hh.2 i.val _ (List.getElem?_eq_getElem i.isLt)
    rw [List.getElem?_eq_getElem (hhl i)] at h3
    cases h3
    exact ⟨(a2,c2),h4,h5.mono hKf⟩
   let hq:Fin xs.length->Option Addr × Nat:=fun i=>Classical.choose (hex i)
   have hqs:∀ i,(cs[i.val]'(hhl i)).val=[zS (hq i).1 (xs[i]).length (hq i).2]/\aW K (hq i).1 (hq i).2 xs[i]:=fun i=>Classical.choose_spec (hex i)
   have hrd:∀ i:Fin xs.length,aW K (hq i).1 (hq i).2 xs[i]:=fun i=>(hqs i).2
   have hne:cs≠[]:=by
    intro e
    rw [e] at hl;simp at hl;omega
   rcases aDo s1 (i:=0) rfl with ⟨_,h⟩|⟨b,off,rfl,hb,hcell⟩
   ·exact absurd h hne
   haveI:Inhabited (Fin xs.length):=⟨⟨0,hpos⟩⟩
   let enc:Fin xs.length->Value:=fun i=>zS (hq i).1 (xs[i]).length (hq i).2
   let cf:Fin xs.length->Fin xs.length->Int:=fun i j=>iR xs[i] xs[j]
   let hdr:Fin xs.length->Cells 0:=fun i=>cs[i.val]'(hhl i)
   have hde:∀ i,dY.enc (hdr i)=[enc i]:=fun i=>(hqs i).1
   have hds_eq:(List.finRange xs.length).map hdr=cs:=by
    apply List.ext_getElem?
    intro i
    by_cases h:i < xs.length
    ·simp [h,hl,hdr]
    ·simp [h,hl]
   have hfm:∀ l:List (Fin xs.length),(l.map hdr).flatMap dY.enc=l.map enc:=fun l=>by
    induction l with
    |nil=>rfl
    |cons i l ih=>simp only [List.map_cons,List.flatMap_cons,ih,hde];rfl
   have hlay:∀ (m:Nat) (os:Array Obj) (dk:Array (Fin xs.length)),dk.size=xs.length->aD G K (aJ E Kf (some ⟨b,off,none⟩) c (dk.toList.map hdr)::L) (sortWorld enc w b off m dk os):=by
    intro m os dk hdk
    unfold sortWorld
    rw [aKP]
    refine aD.putRow (i:=0) s1 rfl (by simp [hl,hdk]) ?_
    simp only [Array.toList_map]
    show _=(dk.toList.map hdr).flatMap dY.enc
    rw [hfm]
   have hlt:∀ i j,ltOf cf i j=vH xs[i] xs[j]:=fun i j=>rfl
   have hsz:(List.finRange xs.length).toArray.size=xs.length:=by simp
   have hswo:SWO (ltOf cf):=by
    refine ⟨fun i=>aPT _,fun i j k h1 h2=>aMx h1 h2,fun i j k h1 h2=>?_⟩
    have h1:vH xs[i] xs[j]=false:=h1
    have h2:vH xs[j] xs[k]=false:=h2
    show vH xs[i] xs[k]=false
    rcases aMy xs[i] xs[j] with g|g|g
    ·rw [g] at h1;cases h1
    ·rw [g];exact h2
    ·cases hx:vH xs[i] xs[k] with
     |false=>rfl
     |true=>have:=aMx g hx;rw [h2] at this;cases this
   have key:=fun h1 h2=>Tryz.slices_SortFunc_f52 (α:=Fin xs.length) enc (fun _=>rfl) cf hswo 53 #[] b off c (List.finRange xs.length).toArray w (enters_of Tryz.func53 (by kernel_rfl) rfl) h1 h2 hb (by rw [hsz];unfold fG at hlim;omega)
   rw [hsz] at key
   refine (key ?_ ?_).mono ?_
   ·intro m os dk hdk x y
    have hst:=hlay m os dk (by simpa using hdk)
    have:=tW (aGm (hrl _ (List.getElem_mem _)).1 (hrl _ (List.getElem_mem _)).1 (hrl _ (List.getElem_mem _)).2 (hrl _ (List.getElem_mem _)).2) (aD.start (sortWorld enc w b off m dk os) G.laid hst.globs) ((hrd x).mono hst.know) ((hrd y).mono hst.know)
    refine this.mono ?_
    rintro e w' ⟨v,rfl,rfl,hx⟩
    exact ⟨rfl,hx.exact⟩
   ·intro j hj
    have hj':j < xs.length:=by simpa using hj
    have:=hcell j (enc ⟨j,hj'⟩) (by
     rw [←hds_eq]
     show ((List.finRange xs.length).map hdr |>.flatMap dY.enc)[j]?=_
     rw [hfm];simp [hj'])
    rw [getElem!_pos _ j hj]
    simpa using this
   ·rintro e w' ⟨rfl,d',n,os,hpm,hsrt,rfl⟩
    obtain ⟨z1,_,z3⟩:=hpm
    have zs:d'.size=xs.length:=by rw [z1];simp
    have zp:d'.toList.Perm (List.finRange xs.length):=by
     have e1:d'.extract 0 xs.length=d':=by
      have:=Array.extract_size (xs:=d')
      rwa [zs] at this
     have e2:(List.finRange xs.length).toArray.extract 0 xs.length=(List.finRange xs.length).toArray:=by
      have:=Array.extract_size (xs:=(List.finRange xs.length).toArray)
      rwa [hsz] at this
     rw [e1,e2] at z3
     simpa using z3
    have hpw:(d'.toList.map fun i=>xs[i]).Pairwise fun a b=>(!vH b a)=true:=by
     rw [List.pairwise_map,List.pairwise_iff_getElem]
     intro i j hi hj hij
     rw [Array.length_toList] at hi hj
     have:=hsrt i j (Nat.zero_le _) hij (by rw [←zs];exact hj)
     rw [getElem!_pos d' j hj,getElem!_pos d' i hi] at this
     have this:vH xs[d'[j]] xs[d'[i]]=false:=this
     simp only [Array.getElem_toList]
     rw [this];rfl
    have hpr:(d'.toList.map fun i=>xs[i]).Perm xs:=by
     have:=zp.map (fun i=>xs[i])
     rwa [aDj] at this
    have hR:=srt_ofG aPT aMx aMy hpr hpw
    have h0:=hlay n os d' zs
    rw [←hR]
    refine ⟨_,rfl,rfl,by simp [zs],?_⟩
    refine h0.rawClose (n:=0) (i:=0) (Ke:=Kf) rfl rfl (xs:=d'.toList.map fun i=>xs[i]) ⟨by simp,fun j x h5=>?_⟩
    rw [List.getElem?_map] at h5
    cases hq':d'.toList[j]? with
    |none=>rw [hq'] at h5;cases h5
    |some i=>
     rw [hq'] at h5
     cases h5
     refine ⟨hdr i,by rw [List.getElem?_map,hq'];rfl,?_⟩
     obtain ⟨d,h3,h4⟩:=hh.2 i.val _ (List.getElem?_eq_getElem i.isLt)
     rw [List.getElem?_eq_getElem (hhl i)] at h3
     cases h3
     exact h4
 ·cases hm
end Gv
