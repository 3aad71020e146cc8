/- Contracts of functions of Go's library, said of heaps of pieces. -/
import Derived.Test.YthmfdhgeglgpbaaGreatDoorJWk0
import Derived.Test.YthmfdhgeglgpbaaGreatDoorJP11
set_option linter.all false
namespace Gv
open Go Go.Proofs Go.RowKit Go.Sort
section
variable {G:rT} {K:Hp} {L:List fM} {w:World}
def cmpE (a b:Edge):Int:=or3 (aMn a.F b.F) (aMn a.B b.B) (aMn a.To b.To)
theorem aPM (a b:Edge):ltOf cmpE a b=cK a b:=by
 unfold ltOf cmpE
 have:=aPL a b
 cases hx:cK a b with
 |true=>rw [hx] at this;simp at this;simpa using this
 |false=>rw [hx] at this;simp at this;simpa using this
theorem aNA (a b:Edge):cK a b=true\/a=b\/cK b a=true:=by
 rw [wA,wA]
 obtain ⟨a1,a2,a3⟩:=a
 obtain ⟨b1,b2,b3⟩:=b
 simp only [Edge.mk.injEq]
 omega
theorem edgeLt_tr {a b c:Edge} (h1:cK a b=true) (h2:cK b c=true):cK a c=true:=by
 rw [wA] at *;omega
theorem swo_of {α:Type} {lt lt':α->α->Bool} (he:∀ a b,lt' a b=lt a b) (irr:∀ a,lt a a=false) (tr:∀ {a b c},lt a b=true->lt b c=true->lt a c=true) (tri:∀ a b,lt a b=true\/a=b\/lt b a=true):Sort.SWO lt':=by
 obtain rfl:lt'=lt:=by funext a b;exact he a b
 refine ⟨irr,fun x y z=>tr,fun x y z h1 h2=>?_⟩
 rcases tri x y with h|h|h
 ·rw [h] at h1;cases h1
 ·subst h;exact h2
 ·rcases tri y z with g|g|g
  ·rw [g] at h2;cases h2
  ·subst g;exact h1
  ·cases hx:lt' x z with
   |false=>rfl
   |true=>
    have:=tr (tr g h) hx
    rw [irr] at this;cases this
theorem aQM {α:Type} {lt lt':α->α->Bool} (he:∀ a b,lt' a b=lt a b) (tri:∀ a b,lt a b=true\/a=b\/lt b a=true) (x y:α) (h1:lt' x y=false) (h2:lt' y x=false):x=y:=by
 rw [he] at h1 h2
 rcases tri x y with h|h|h
 ·rw [h] at h1;cases h1
 ·exact h
 ·rw [h] at h2;cases h2
theorem aQN {β:Type} [dV β]:∀ (l:List β) (i r:Nat) (hi:i < l.length),r < dV.sz β->(jL l)[i * dV.sz β+r]?=(dV.enc l[i])[r]?
 |[],i,r,hi,_=>by simp at hi
 |x::l,0,r,hi,hr=>by
  unfold jL
  rw [List.flatMap_cons,Nat.zero_mul,Nat.zero_add,List.getElem?_append_left (by rw [dV.len];exact hr)];rfl
 |x::l,i+1,r,hi,hr=>by
  have:=aQN l i r (by simpa using hi) hr
  unfold jL at this ⊢
  rw [List.flatMap_cons,Nat.add_mul,Nat.one_mul,List.getElem?_append_right (by rw [dV.len];omega),dV.len]
  rw [show i * dV.sz β+dV.sz β+r - dV.sz β=i * dV.sz β+r by omega,this];rfl
theorem aQO {β:Type} [dV β] [Inhabited β] (l:List β):(flatK dV.enc (dV.sz β) l.toArray).toList=jL l:=by
 have hz:=dV.pos (α:=β)
 refine List.ext_getElem? fun t=>?_
 unfold flatK
 by_cases ht:t < l.length * dV.sz β
 ·have h1:t / dV.sz β < l.length:=Nat.div_lt_of_lt_mul (by rw [Nat.mul_comm];exact ht)
  have h2:t % dV.sz β < dV.sz β:=Nat.mod_lt _ hz
  have h3:=aQN l (t / dV.sz β) (t % dV.sz β) h1 h2
  rw [Nat.div_add_mod'] at h3
  rw [h3]
  simp only [Array.toList_map,Array.toList_range,List.getElem?_map,List.size_toArray,List.getElem?_range ht,Option.map_some]
  rw [getElem!_pos l.toArray _ (by simpa using h1)]
  have h4:t % dV.sz β < (dV.enc l[t / dV.sz β]).length:=by rw [dV.len];exact h2
  rw [List.getElem?_eq_getElem h4]
  simp only [List.getElem_toArray]
  rw [getElem!_pos (dV.enc l[t / dV.sz β]) (t % dV.sz β) h4]
 ·rw [List.getElem?_eq_none (by simp;omega),List.getElem?_eq_none (by rw [xH];omega)]
theorem lib_SortEdge {E:TypeId} {xs:List Edge} {a:Option Addr} {c:Nat} {R:List Edge} (hs:aF G K (own E K a c xs::L) w) (hm:aGr xs=some R):
  Calls Tryz.prog 58 ([Value.slice a xs.length c,Value.func (.func 59) #[] #[]]:List Value).toArray w (dL fun v w'=>v=Value.tuple #[]/\xs.length=R.length/\aF G K (own E K a c R::L) w'):=by
 unfold aGr at hm
 split at hm
 ·rename_i hl
  cases hm
  unfold iE at hl
  have hlen:(srt cK xs).length=xs.length:=List.length_mergeSort _
  have hlay:∀ b off,a=some ⟨b,off,none⟩->∀ (m:Nat) (os:Array Obj) (dk:Array Edge),dk.size=xs.length->aF G K (own E K a c dk.toList::L) (sortWorldK dV.enc 3 w b off m dk os):=by
   rintro b off rfl m os dk hdk
   unfold sortWorldK putRowK
   refine aF.putRow (i:=0) hs rfl (by simp [hdk]) ?_
   exact aQO dk.toList
  rcases aDm hs (i:=0) rfl with ⟨rfl,rfl⟩|⟨b,off,rfl,hb,hc⟩
  ·refine (Tryz.slices_SortFunc_none_f58 (α:=Edge) none c _ w).mono ?_
   rintro e w' ⟨rfl,rfl⟩
   exact ⟨_,rfl,rfl,hlen.symm,by simpa [srt] using hs⟩
  ·refine (Tryz.slices_SortFunc_total_f58 (α:=Edge) 3 Tryz.isAgg68 Tryz.sizeOf68 dV.enc (fun _=>rfl) (fun x v hv=>dV.one x v hv) cmpE (swo_of aPM (fun a=>by cases hx:cK a a with|false=>rfl|true=>exact absurd rfl (aOO hx)) edgeLt_tr aNA) 59 #[] b off c xs.toArray w (enters_of Tryz.func59 (by kernel_rfl) rfl) ?_ ?_ hb (by simp;omega) (aQM aPM aNA)).mono ?_
   ·intro m os dk hdk x y
    have hst:=hlay b off rfl m os dk (by simpa using hdk)
    have:=aCD (aCw x y) (aF.start (sortWorldK dV.enc 3 w b off m dk os) G.laid hst.globs)
    refine this.mono ?_
    rintro e w' ⟨v,rfl,rfl,hx⟩
    exact ⟨rfl,hx.exact⟩
   ·intro j hj
    have hf:=aQO xs
    have hj3:j < xs.length * 3:=by have h:=hj;rw [size_flatK] at h;simpa using h
    have hj2:j < (jL xs).length:=by rw [xH];exact hj3
    have:=hc j (jL xs)[j] (by rw [List.getElem?_eq_getElem hj2])
    have e:(flatK dV.enc 3 xs.toArray)[j]! = (jL xs)[j]:=by
     rw [getElem!_pos (flatK dV.enc 3 xs.toArray) j hj]
     have:(flatK dV.enc 3 xs.toArray)[j]=(flatK dV.enc (dV.sz Edge) xs.toArray).toList[j]'(by rw [hf];exact hj2):=by simp;rfl
     rw [this]
     simp only [hf]
    rw [e]
    exact this
   ·rintro e w' ⟨rfl,n,os,rfl⟩
    refine ⟨_,rfl,rfl,hlen.symm,?_⟩
    have:=hlay b off rfl n os (srt cK xs).toArray (by simpa using hlen)
    have he:(xs.toArray.toList.mergeSort fun x y=>!ltOf cmpE y x)=srt cK xs:=by
     unfold srt;congr 1;funext x y;rw [aPM]
    rw [he]
    simpa using this
 ·cases hm
end
end Gv
namespace Gv
open Go.Value renaming slice→zS
open Go Go.Proofs Go.RowKit Go.Sort
theorem aOP:∀ a:List Int,uQ a a=0
 |[]=>rfl
 |a::l=>by simp [uQ,aOP l]
theorem aOQ:∀ a b:List Int,uQ b a=-uQ a b
 |[],[]=>rfl
 |[],_::_=>rfl
 |_::_,[]=>rfl
 |a::l,b::m=>by
  simp only [uQ]
  split<;>split<;>(try split)<;>first|omega|rfl|exact aOQ l m
theorem aOR:∀ {a b:List Int},uQ a b=0->a=b
 |[],[],_=>rfl
 |[],_::_,h=>by simp [uQ] at h
 |_::_,[],h=>by simp [uQ] at h
 |a::l,b::m,h=>by
  simp only [uQ] at h
  split at h
  ·omega
  ·split at h
   ·omega
   ·rw [show a=b by omega,aOR h]
theorem aNB:∀ a b:List Int,uQ a b=-1\/uQ a b=0\/uQ a b=1
 |[],[]=>.inr (.inl rfl)
 |[],_::_=>.inl rfl
 |_::_,[]=>.inr (.inr rfl)
 |a::l,b::m=>by
  simp only [uQ]
  split
  ·exact .inl rfl
  ·split
   ·exact .inr (.inr rfl)
   ·exact aNB l m
theorem aNC:∀ {a b c:List Int},uQ a b < 0->uQ b c < 0->uQ a c < 0
 |[],[],_,h,_=>by simp [uQ] at h
 |[],_::_,[],_,h=>by simp [uQ] at h
 |[],_::_,_::_,_,_=>by simp [uQ]
 |_::_,[],_,h,_=>by simp [uQ] at h
 |_::_,_::_,[],_,h=>by simp [uQ] at h
 |a::l,b::m,c::n,h1,h2=>by
  simp only [uQ] at *
  split at h1
  ·split at h2
   ·rw [if_pos (by omega)];omega
   ·split at h2
    ·omega
    ·rw [if_pos (by omega)];omega
  ·split at h1
   ·omega
   ·split at h2
    ·rw [if_pos (by omega)];omega
    ·split at h2
     ·omega
     ·rw [if_neg (by omega),if_neg (by omega)]
      exact aNC h1 h2
theorem aIQ (a:List Int):jU a a=false:=by simp [jU,aOP]
theorem aIw {a b c:List Int} (h1:jU a b=true) (h2:jU b c=true):jU a c=true:=by
 simp only [jU,decide_eq_true_eq] at *
 exact aNC h1 h2
theorem aIR (a b:List Int):jU a b=true\/a=b\/jU b a=true:=by
 simp only [jU,decide_eq_true_eq,aOQ a b]
 rcases aNB a b with h|h|h
 ·exact .inl (by omega)
 ·exact .inr (.inl (aOR h))
 ·exact .inr (.inr (by omega))
theorem cmpInt_eq (a b:Int):eI a b=some (if a < b then -1 else if b < a then 1 else 0):=by
 unfold eI pD
 simp only [bne_self_eq_false,aA]
 by_cases h1:a < b
 ·simp [h1]
 ·by_cases h2:b < a<;>simp [h1,h2]
theorem cmpS_end {a b:List Int} (ha:a.length < iE):cL a b (a.length:Int)=some (.inr (.inl ())):=by
 unfold cL
 rw [show decide ((a.length:Int) < (a.length:Int))=false from decide_eq_false (by omega)]
 rfl
theorem cmpS_one {a b:List Int} {k:Nat} (h:k < a.length) (h2:b.length<=k):cL a b (k:Int)=some (.inr (.inr 1)):=by
 unfold cL
 rw [show decide ((k:Int) < (a.length:Int))=true from decide_eq_true (by omega),if_pos rfl,show ix a (k:Int)=some a[k] by simp [ix,h],aA,show decide ((b.length:Int)<=(k:Int))=true from decide_eq_true (by omega),if_pos rfl]
theorem aND {a b:List Int} {k:Nat} (h:k < a.length) (h2:k < b.length) (hb:b.length < iE):
  cL a b (k:Int)=some (if a[k] < b[k] then .inr (.inr (-1)) else if b[k] < a[k] then .inr (.inr 1) else .inl ((k+1:Nat):Int)):=by
 unfold iE at hb
 unfold cL
 rw [show decide ((k:Int) < (a.length:Int))=true from decide_eq_true (by omega),if_pos rfl,show ix a (k:Int)=some a[k] by simp [ix,h],aA,show decide ((b.length:Int)<=(k:Int))=false from decide_eq_false (by omega),if_neg (by simp),show ix b (k:Int)=some b[k] by simp [ix,h2],aA,cmpInt_eq,aA,show wr ((k:Int)+1)=((k+1:Nat):Int) by rw [bT]<;>omega]
 by_cases h1:a[k] < b[k]
 ·simp [h1]
 ·by_cases h3:b[k] < a[k]<;>simp [h1,h3]
theorem cmpJ_eq (a b:List Int):gD a b=some (if a.length < b.length then -1 else 0):=by
 unfold gD
 by_cases h:a.length < b.length
 ·rw [show decide ((a.length:Int) < (b.length:Int))=true from decide_eq_true (by omega)];simp [h]
 ·rw [show decide ((a.length:Int) < (b.length:Int))=false from decide_eq_false (by omega)];simp [h]
theorem aLq {a b:List Int} (ha:a.length < iE) (hb:b.length < iE):∀ (n k:Nat),k+n=a.length->k<=b.length->
  ∃ x,loop (fun s:Int=>cL a b s) (k:Int)=some x/\((x=.inl ()/\uQ (a.drop k) (b.drop k)=if a.length < b.length then -1 else 0)\/x=.inr (uQ (a.drop k) (b.drop k))):=by
 intro n
 induction n with
 |zero=>
  intro k hk hkb
  obtain rfl:k=a.length:=by omega
  refine ⟨.inl (),by rw [cS,cmpS_end ha],.inl ⟨rfl,?_⟩⟩
  rw [List.drop_eq_nil_of_le (Nat.le_refl _)]
  by_cases hlt:a.length < b.length
  ·rw [if_pos hlt,List.drop_eq_getElem_cons hlt];rfl
  ·rw [if_neg hlt,List.drop_eq_nil_of_le (by omega)];rfl
 |succ n ih=>
  intro k hk hkb
  have hka:k < a.length:=by omega
  by_cases hbk:b.length<=k
  ·refine ⟨.inr 1,by rw [cS,cmpS_one hka hbk],.inr ?_⟩
   rw [List.drop_eq_getElem_cons hka,List.drop_eq_nil_of_le hbk];rfl
  ·have hk2:k < b.length:=by omega
   have e1:=List.drop_eq_getElem_cons hka
   have e2:=List.drop_eq_getElem_cons hk2
   by_cases h1:a[k] < b[k]
   ·exact ⟨.inr (-1),by rw [cS,aND hka hk2 hb,if_pos h1],.inr (by rw [e1,e2];simp [uQ,h1])⟩
   ·by_cases h2:b[k] < a[k]
    ·exact ⟨.inr 1,by rw [cS,aND hka hk2 hb,if_neg h1,if_pos h2],.inr (by rw [e1,e2];simp [uQ,h1,h2])⟩
    ·obtain ⟨x,hx,h⟩:=ih (k+1) (by omega) (by omega)
     refine ⟨x,by rw [cS,aND hka hk2 hb,if_neg h1,if_neg h2];exact hx,?_⟩
     have:uQ (a.drop k) (b.drop k)=uQ (a.drop (k+1)) (b.drop (k+1)):=by rw [e1,e2];simp [uQ,h1,h2]
     rw [this];exact h
theorem aAU {a b:List Int} (ha:a.length < iE) (hb:b.length < iE):hJ a b=some (uQ a b):=by
 unfold hJ
 obtain ⟨x,hx,h⟩:=aLq ha hb a.length 0 (by omega) (by omega)
 rw [show ((0:Nat):Int)=0 from rfl] at hx
 rw [hx,aA]
 simp only [List.drop_zero] at h
 rcases h with ⟨rfl,h⟩|rfl
 ·rw [h];exact cmpJ_eq a b
 ·rfl
theorem fQ.perm {A B:List fM} (p:A.Perm B):∀ {h:Hp},fQ A h->fQ B h:=by
 induction p with
 |nil=>exact fun s=>s
 |cons x _ ih=>exact fun ⟨h1,h2,a,d,l1,l2,r⟩=>⟨h1,h2,a,d,l1,l2,ih r⟩
 |swap x y l=>exact fun s=>fQ.sel (is:=[1,0]) (n:=2) rfl s
 |trans _ _ ih1 ih2=>exact fun s=>ih2 (ih1 s)
theorem aAV {β:Type} (xs:List β):(List.finRange xs.length).map (fun i=>xs[i])=xs:=by
 apply List.ext_getElem?
 intro i
 by_cases h:i < xs.length<;>simp [h]
theorem aDi {β γ δ:Type} (f:β->γ->δ) (hds:List β) (xs:List γ) (hl:hds.length=xs.length) (p:List (Fin xs.length)):
  List.zipWith f (p.map fun i=>hds[i.val]'(by rw [hl];exact i.isLt)) (p.map fun i=>xs[i])=p.map fun i=>f (hds[i.val]'(by rw [hl];exact i.isLt)) xs[i]:=by
 induction p with
 |nil=>rfl
 |cons i p ih=>simp only [List.map_cons,List.zipWith_cons_cons,ih]
theorem aPN {G:rT} {K:Hp} {L:List fM} {w:World} {E:TypeId} {xs:List (List Int)} {a:Option Addr} {c:Nat} {hds:List (Dp.Hd (List Int))} {R:List (List Int)} (hs:aF G K (own E K a c (cA hds xs)::rows [2] hds xs::L) w) (hl:hds.length=xs.length) (hm:aMQ xs=some R):
  Calls Tryz.prog 143 ([zS a xs.length c,Value.func (.func 144) #[] #[]]:List Value).toArray w (dL fun v w'=>∃ hd:List (Dp.Hd (List Int)),v=Value.tuple #[]/\xs.length=R.length/\List.length hd=List.length R/\aF G K (own E K a c (cA hd R)::rows [2] hd R::L) w'):=by
 unfold aMQ at hm
 split at hm
 ·rename_i hc
  obtain ⟨hlim,hnd,hrl⟩:=hc
  cases hm
  have hlen:(srt jU xs).length=xs.length:=List.length_mergeSort _
  by_cases hx:xs=[]
  ·
   subst hx
   obtain rfl:hds=[]:=List.length_eq_zero_iff.1 hl
   have hR:srt jU ([]:List (List Int))=[]:=by simp [srt]
   rw [hR]
   rcases aDm hs (i:=0) rfl with ⟨rfl,_⟩|⟨b,off,rfl,hb,_⟩
   ·refine (Tryz.slices_SortFunc_none_f143 (α:=aJ) none c _ w).mono ?_
    rintro e w' ⟨rfl,rfl⟩
    exact ⟨_,rfl,[],rfl,rfl,rfl,hs⟩
   ·have hlay:∀ (m:Nat) (os:Array Obj) (dk:Array Unit),dk.size=0->aF G K (own E K (some ⟨b,off,none⟩) c (cA ([]:List (Dp.Hd (List Int))) [])::rows [2] ([]:List (Dp.Hd (List Int))) []::L) (sortWorld (fun _:Unit=>zS none 0 0) w b off m dk os):=by
     intro m os dk hdk
     unfold sortWorld
     rw [aEj]
     refine aF.putRow (i:=0) hs rfl rfl ?_
     have:dk.toList=[]:=by cases dk;simpa using hdk
     simp [this,cA,jL]
    refine (Tryz.slices_SortFunc_total_f143 (α:=Unit) (fun _=>zS none 0 0) (fun _=>rfl) (fun _ _=>0) ⟨fun _=>rfl,fun _ _ _ h=>(by simp [ltOf] at h),fun _ _ _ _ _=>rfl⟩ 144 #[] b off c #[] w (enters_of Tryz.func144 (by kernel_rfl) rfl) ?_ (fun j hj=>by simp at hj) hb (by simp) (fun _ _ _ _=>rfl)).mono ?_
    ·intro m os dk hdk x y
     have hst:=hlay m os dk hdk
     have:=dZ (aAU (a:=[]) (b:=[]) (by decide) (by decide)) (aF.start (sortWorld (fun _:Unit=>zS none 0 0) w b off m dk os) G.laid hst.globs) (aCO (α:=Int) _) (aCO (α:=Int) _)
     refine this.mono ?_
     rintro e w' ⟨v,rfl,rfl,hx⟩
     exact ⟨rfl,hx.exact⟩
    ·rintro e w' ⟨rfl,n,os,rfl⟩
     exact ⟨_,rfl,[],rfl,rfl,rfl,hlay n os _ (by simp)⟩
  ·have hpos:0 < xs.length:=List.length_pos_iff.2 hx
   have hh:∀ i:Fin xs.length,i.val < hds.length:=fun i=>by rw [hl];exact i.isLt
   obtain ⟨K',h1,hA,l1,lk,s1,back⟩:=aF.lend (i:=1) hs rfl
   have s1:aF G K' (own E K a c (cA hds xs)::L) w:=s1
   have hrd:∀ i:Fin xs.length,bI K' (hds[i.val]'(hh i)).1 (hds[i.val]'(hh i)).2 xs[i]:=fun i=>
    rd_row (aPr hA l1 (List.getElem?_eq_getElem (hh i)) (List.getElem?_eq_getElem i.isLt))
   have hne:cA hds xs≠[]:=by
    intro e
    have:=iS (xs:=xs) hl
    rw [e] at this;simp at this;omega
   rcases aDm s1 (i:=0) rfl with ⟨_,h⟩|⟨b,off,rfl,hb,hcell⟩
   ·exact absurd h hne
   haveI:Inhabited (Fin xs.length):=⟨⟨0,hpos⟩⟩
   let enc:Fin xs.length->Value:=fun i=>zS (hds[i.val]'(hh i)).1 (xs[i]).length (hds[i.val]'(hh i)).2
   let cf:Fin xs.length->Fin xs.length->Int:=fun i j=>uQ xs[i] xs[j]
   let hdr:Fin xs.length->aOv 0:=fun i=>aBO (hds[i.val]'(hh i)) xs[i]
   have hheads:∀ p:List (Fin xs.length),cA (p.map fun i=>hds[i.val]'(hh i)) (p.map fun i=>xs[i])=p.map hdr:=fun p=>aDi aBO hds xs hl p
   have hds_eq:(List.finRange xs.length).map (fun i=>hds[i.val]'(hh i))=hds:=by
    apply List.ext_getElem?
    intro i
    by_cases h:i < xs.length
    ·simp [h,hl]
    ·simp [h,hl]
   have hlay:∀ (m:Nat) (os:Array Obj) (dk:Array (Fin xs.length)),dk.size=xs.length->aF G K' (own E K (some ⟨b,off,none⟩) c (dk.toList.map hdr)::L) (sortWorld enc w b off m dk os):=by
    intro m os dk hdk
    unfold sortWorld
    rw [aEj]
    refine aF.putRow (i:=0) s1 rfl (by simp [iS hl,hdk]) ?_
    simp only [Array.toList_map]
    show _=(dk.toList.map hdr).flatMap dV.enc
    generalize dk.toList=l
    induction l with
    |nil=>rfl
    |cons i l ih=>simp only [List.map_cons,List.flatMap_cons,ih];rfl
   have hlt:∀ i j,ltOf cf i j=jU xs[i] xs[j]:=fun i j=>rfl
   have htri:∀ i j:Fin xs.length,jU xs[i] xs[j]=true\/i=j\/jU xs[j] xs[i]=true:=fun i j=>by
    rcases aIR xs[i] xs[j] with h|h|h
    ·exact .inl h
    ·exact .inr (.inl (Fin.ext ((List.getElem_inj hnd).1 h)))
    ·exact .inr (.inr h)
   have hsz:(List.finRange xs.length).toArray.size=xs.length:=by simp
   have key:=fun h1 h2=>Tryz.slices_SortFunc_total_f143 (α:=Fin xs.length) enc (fun _=>rfl) cf (swo_of (lt:=fun i j=>jU xs[i] xs[j]) hlt (fun i=>aIQ _) (fun h1 h2=>aIw h1 h2) htri) 144 #[] b off c (List.finRange xs.length).toArray w (enters_of Tryz.func144 (by kernel_rfl) rfl) h1 h2 hb (by rw [hsz];unfold iE at hlim;omega) (aQM (lt:=fun i j=>jU xs[i] xs[j]) hlt htri)
   rw [hsz] at key
   refine (key ?_ ?_).mono ?_
   ·intro m os dk hdk x y
    have hst:=hlay m os dk (by simpa using hdk)
    have:=dZ (aAU (hrl _ (List.getElem_mem _)) (hrl _ (List.getElem_mem _))) (aF.start (sortWorld enc w b off m dk os) G.laid hst.globs) ((hrd x).mono hst.know) ((hrd y).mono hst.know)
    refine this.mono ?_
    rintro e w' ⟨v,rfl,rfl,hx⟩
    exact ⟨rfl,hx.exact⟩
   ·intro j hj
    have hj':j < xs.length:=by simpa using hj
    have:=hcell j (enc ⟨j,hj'⟩) (by
     have e0:=hheads (List.finRange xs.length)
     rw [hds_eq,aAV] at e0
     rw [e0]
     show ((List.finRange xs.length).map hdr |>.flatMap dV.enc)[j]?=_
     have:((List.finRange xs.length).map hdr).flatMap dV.enc=(List.finRange xs.length).map enc:=by
      generalize List.finRange xs.length=l
      induction l with
      |nil=>rfl
      |cons i l ih=>simp only [List.map_cons,List.flatMap_cons,ih];rfl
     rw [this];simp [hj'])
    rw [getElem!_pos _ j hj]
    simpa using this
   ·rintro e w' ⟨rfl,n,os,rfl⟩
    have hp:((List.finRange xs.length).toArray.toList.mergeSort fun x y=>!ltOf cf y x).Perm (List.finRange xs.length):=List.mergeSort_perm _ _
    have hR:((List.finRange xs.length).toArray.toList.mergeSort fun x y=>!ltOf cf y x).map (fun i=>xs[i])=srt jU xs:=by
     unfold srt
     have:=List.map_mergeSort (r:=fun x y=>!ltOf cf y x) (s:=fun a b=>!jU b a) (f:=fun i:Fin xs.length=>xs[i]) (l:=List.finRange xs.length) (fun a _ b _=>rfl)
     rw [aAV] at this
     exact this
    generalize ((List.finRange xs.length).toArray.toList.mergeSort fun x y=>!ltOf cf y x)=p at *
    have hpl:p.length=xs.length:=by rw [hp.length_eq];simp
    have h0:=back _ _ (hlay n os p.toArray (by simpa using hpl))
    rw [←hR]
    refine ⟨_,rfl,p.map (fun i=>hds[i.val]'(hh i)),rfl,by simp [hpl],by simp,?_⟩
    rw [hheads p]
    have h2:aF G K (rows [2] (p.map fun i=>hds[i.val]'(hh i)) (p.map fun i=>xs[i])::own E K (some ⟨b,off,none⟩) c (p.map hdr)::L) (sortWorld enc w b off n p.toArray os):=by
     refine aF.weak (i:=0) h0 rfl (fun _ hA=>?_)
     refine fQ.perm ?_ hA
     unfold lO
     rw [aDi (Dp.pcs [2]) hds xs hl p]
     have e1:List.zipWith (Dp.pcs [2]) hds xs=(List.finRange xs.length).map fun i=>Dp.pcs [2] (hds[i.val]'(hh i)) xs[i]:=by
      have:=aDi (Dp.pcs [2]) hds xs hl (List.finRange xs.length)
      rwa [hds_eq,aAV] at this
     rw [e1,←List.flatMap_def,←List.flatMap_def]
     exact (hp.symm).flatMap_right _
    exact aF.arr 2 [1,0] h2 rfl
 ·cases hm
end Gv
namespace Gv
open Go.Value renaming slice→zS
open Go Go.Proofs Go.RowKit Go.Sort
theorem srtI_of {xs ys:List (List Int)} (p:ys.Perm xs) (h:ys.Pairwise fun a b=>(!jU b a)=true):ys=srt jU xs:=by
 have hle:∀ {a b},(!jU b a)=true->a=b\/jU a b=true:=fun {a b} h=>by
  rcases aIR a b with h1|h1|h1
  ·exact .inr h1
  ·exact .inl h1
  ·rw [h1] at h;cases h
 have asy:∀ {a b},jU a b=true->jU b a=false:=fun {a b} h=>by
  cases hx:jU b a with
  |false=>rfl
  |true=>have:=aIw h hx;rw [aIQ] at this;cases this
 refine List.Perm.eq_of_pairwise (le:=fun a b=>(!jU b a)=true) (fun a b _ _ h1 h2=>?_) h (List.pairwise_mergeSort (fun a b c h1 h2=>?_) (fun a b=>?_) _) (p.trans (List.mergeSort_perm _ _).symm)
 ·rcases hle h1 with e|e
  ·exact e
  ·rw [e] at h2;cases h2
 ·rcases hle h1 with rfl|h1
  ·exact h2
  ·rcases hle h2 with rfl|h2
   ·simp [asy h1]
   ·simp [asy (aIw h1 h2)]
 ·rcases aIR a b with h1|h1|h1
  ·simp [asy h1]
  ·subst h1;simp [aIQ]
  ·simp [asy h1]
theorem lib_SortRowsF {G:rT} {K Kf:Hp} {L:List fM} {w:World} {E:TypeId} {xs:List (List Int)} {a:Option Addr} {c:Nat} {R:List (List Int)} (hs:aF G K (own E Kf a c xs::L) w) (hKf:Hp.le Kf K) (hm:aBP xs=some R):
  Calls Tryz.prog 143 ([zS a xs.length c,Value.func (.func 144) #[] #[]]:List Value).toArray w (dL fun v w'=>v=Value.tuple #[]/\xs.length=R.length/\aF G K (own E Kf a c R::L) w'):=by
 unfold aBP at hm
 split at hm
 ·rename_i hc
  obtain ⟨hlim,hrl⟩:=hc
  cases hm
  have hlen:(srt jU xs).length=xs.length:=List.length_mergeSort _
  obtain ⟨hds,hh,s1⟩:=hs.frzOpen (i:=0) rfl
  have s1:aF G K (own E Kf a c (cA hds xs)::L) w:=s1
  have hl:=hh.1
  by_cases hx:xs=[]
  ·subst hx
   obtain rfl:hds=[]:=List.length_eq_zero_iff.1 hl
   have hR:srt jU ([]:List (List Int))=[]:=by simp [srt]
   rw [hR]
   rcases aDm s1 (i:=0) rfl with ⟨rfl,_⟩|⟨b,off,rfl,hb,_⟩
   ·refine (Tryz.slices_SortFunc_none_f143 (α:=Int) none c _ w).mono ?_
    rintro e w' ⟨rfl,rfl⟩
    exact ⟨_,rfl,rfl,rfl,hs⟩
   ·have hlay:∀ (m:Nat) (os:Array Obj) (dk:Array Unit),dk.size=0->aF G K (own E Kf (some ⟨b,off,none⟩) c (cA ([]:List (Dp.Hd (List Int))) [])::L) (sortWorld (fun _:Unit=>zS none 0 0) w b off m dk os):=by
     intro m os dk hdk
     unfold sortWorld
     rw [aEj]
     refine aF.putRow (i:=0) s1 rfl rfl ?_
     have:dk.toList=[]:=by cases dk;simpa using hdk
     simp [this,cA,jL]
    refine (Tryz.slices_SortFunc_f143 (α:=Unit) (fun _=>zS none 0 0) (fun _=>rfl) (fun _ _=>0) ⟨fun _=>rfl,fun _ _ _ h=>(by simp [ltOf] at h),fun _ _ _ _ _=>rfl⟩ 144 #[] b off c #[] w (enters_of Tryz.func144 (by kernel_rfl) rfl) ?_ (fun j hj=>by simp at hj) hb (by simp)).mono ?_
    ·intro m os dk hdk x y
     have hst:=hlay m os dk hdk
     have:=dZ (aAU (a:=[]) (b:=[]) (by decide) (by decide)) (aF.start (sortWorld (fun _:Unit=>zS none 0 0) w b off m dk os) G.laid hst.globs) (aCO (α:=Int) _) (aCO (α:=Int) _)
     refine this.mono ?_
     rintro e w' ⟨v,rfl,rfl,hx⟩
     exact ⟨rfl,hx.exact⟩
    ·rintro e w' ⟨rfl,d',n,os,hpm,_,rfl⟩
     have h0:=(hlay n os d' (by have:=hpm.1;simpa using this)).frzClose (i:=0) (Ke:=Kf) rfl (xs:=[]) ⟨rfl,fun j hd x h=>by simp at h⟩
     exact ⟨_,rfl,rfl,rfl,h0⟩
  ·have hpos:0 < xs.length:=List.length_pos_iff.2 hx
   have hhl:∀ i:Fin xs.length,i.val < hds.length:=fun i=>by rw [hl];exact i.isLt
   have hrd:∀ i:Fin xs.length,bI K (Prod.fst (hds[i.val]'(hhl i))) (Prod.snd (hds[i.val]'(hhl i))) xs[i]:=fun i=>
    (hh.2 i.val _ _ (List.getElem?_eq_getElem (hhl i)) (List.getElem?_eq_getElem i.isLt)).mono hKf
   have hne:cA hds xs≠[]:=by
    intro e
    have:=iS (xs:=xs) hl
    rw [e] at this;simp at this;omega
   rcases aDm s1 (i:=0) rfl with ⟨_,h⟩|⟨b,off,rfl,hb,hcell⟩
   ·exact absurd h hne
   haveI:Inhabited (Fin xs.length):=⟨⟨0,hpos⟩⟩
   let enc:Fin xs.length->Value:=fun i=>zS (Prod.fst (hds[i.val]'(hhl i))) (xs[i]).length (Prod.snd (hds[i.val]'(hhl i)))
   let cf:Fin xs.length->Fin xs.length->Int:=fun i j=>uQ xs[i] xs[j]
   let hdr:Fin xs.length->aOv 0:=fun i=>aBO (hds[i.val]'(hhl i)) xs[i]
   have hheads:∀ p:List (Fin xs.length),cA (p.map fun i=>hds[i.val]'(hhl i)) (p.map fun i=>xs[i])=p.map hdr:=fun p=>aDi aBO hds xs hl p
   have hds_eq:(List.finRange xs.length).map (fun i=>hds[i.val]'(hhl i))=hds:=by
    apply List.ext_getElem?
    intro i
    by_cases h:i < xs.length
    ·simp [h,hl]
    ·simp [h,hl]
   have hlay:∀ (m:Nat) (os:Array Obj) (dk:Array (Fin xs.length)),dk.size=xs.length->aF G K (own E Kf (some ⟨b,off,none⟩) c (dk.toList.map hdr)::L) (sortWorld enc w b off m dk os):=by
    intro m os dk hdk
    unfold sortWorld
    rw [aEj]
    refine aF.putRow (i:=0) s1 rfl (by simp [iS hl,hdk]) ?_
    simp only [Array.toList_map]
    show _=(dk.toList.map hdr).flatMap dV.enc
    generalize dk.toList=l
    induction l with
    |nil=>rfl
    |cons i l ih=>simp only [List.map_cons,List.flatMap_cons,ih];rfl
   have hlt:∀ i j,ltOf cf i j=jU xs[i] xs[j]:=fun i j=>rfl
   have hsz:(List.finRange xs.length).toArray.size=xs.length:=by simp
   have hswo:SWO (ltOf cf):=by
    refine ⟨fun i=>aIQ _,fun i j k h1 h2=>aIw h1 h2,fun i j k h1 h2=>?_⟩
    have h1:jU xs[i] xs[j]=false:=h1
    have h2:jU xs[j] xs[k]=false:=h2
    show jU xs[i] xs[k]=false
    rcases aIR xs[i] xs[j] with g|g|g
    ·rw [g] at h1;cases h1
    ·rw [g];exact h2
    ·cases hx:jU xs[i] xs[k] with
     |false=>rfl
     |true=>have:=aIw g hx;rw [h2] at this;cases this
   have key:=fun h1 h2=>Tryz.slices_SortFunc_f143 (α:=Fin xs.length) enc (fun _=>rfl) cf hswo 144 #[] b off c (List.finRange xs.length).toArray w (enters_of Tryz.func144 (by kernel_rfl) rfl) h1 h2 hb (by rw [hsz];unfold iE at hlim;omega)
   rw [hsz] at key
   refine (key ?_ ?_).mono ?_
   ·intro m os dk hdk x y
    have hst:=hlay m os dk (by simpa using hdk)
    have:=dZ (aAU (hrl _ (List.getElem_mem _)) (hrl _ (List.getElem_mem _))) (aF.start (sortWorld enc w b off m dk os) G.laid hst.globs) ((hrd x).mono hst.know) ((hrd y).mono hst.know)
    refine this.mono ?_
    rintro e w' ⟨v,rfl,rfl,hx⟩
    exact ⟨rfl,hx.exact⟩
   ·intro j hj
    have hj':j < xs.length:=by simpa using hj
    have:=hcell j (enc ⟨j,hj'⟩) (by
     have e0:=hheads (List.finRange xs.length)
     rw [hds_eq,aAV] at e0
     rw [e0]
     show ((List.finRange xs.length).map hdr |>.flatMap dV.enc)[j]?=_
     have:((List.finRange xs.length).map hdr).flatMap dV.enc=(List.finRange xs.length).map enc:=by
      generalize List.finRange xs.length=l
      induction l with
      |nil=>rfl
      |cons i l ih=>simp only [List.map_cons,List.flatMap_cons,ih];rfl
     rw [this];simp [hj'])
    rw [getElem!_pos _ j hj]
    simpa using this
   ·rintro e w' ⟨rfl,d',n,os,hpm,hsrt,rfl⟩
    obtain ⟨z1,_,z3⟩:=hpm
    have zs:d'.size=xs.length:=by rw [z1];simp
    have zp:d'.toList.Perm (List.finRange xs.length):=by
     have e1:d'.extract 0 xs.length=d':=by
      have:=Array.extract_size (xs:=d')
      rwa [zs] at this
     have e2:(List.finRange xs.length).toArray.extract 0 xs.length=(List.finRange xs.length).toArray:=by
      have:=Array.extract_size (xs:=(List.finRange xs.length).toArray)
      rwa [hsz] at this
     rw [e1,e2] at z3
     simpa using z3
    have hpw:(d'.toList.map fun i=>xs[i]).Pairwise fun a b=>(!jU b a)=true:=by
     rw [List.pairwise_map,List.pairwise_iff_getElem]
     intro i j hi hj hij
     rw [Array.length_toList] at hi hj
     have:=hsrt i j (Nat.zero_le _) hij (by rw [←zs];exact hj)
     rw [getElem!_pos d' j hj,getElem!_pos d' i hi] at this
     have this:jU xs[d'[j]] xs[d'[i]]=false:=this
     simp only [Array.getElem_toList]
     rw [this];rfl
    have hpr:(d'.toList.map fun i=>xs[i]).Perm xs:=by
     have:=zp.map (fun i=>xs[i])
     rwa [aAV] at this
    have hR:=srtI_of hpr hpw
    have h0:=hlay n os d' zs
    rw [←hR]
    refine ⟨_,rfl,rfl,by simp [zs],?_⟩
    rw [←hheads d'.toList] at h0
    refine h0.frzClose (i:=0) (Ke:=Kf) rfl (xs:=d'.toList.map fun i=>xs[i]) ⟨by simp,fun j hd x h4 h5=>?_⟩
    rw [List.getElem?_map] at h4 h5
    cases hq:d'.toList[j]? with
    |none=>rw [hq] at h4;cases h4
    |some i=>
     rw [hq] at h4 h5
     cases h4;cases h5
     exact hh.2 i.val _ _ (List.getElem?_eq_getElem (hhl i)) (List.getElem?_eq_getElem i.isLt)
 ·cases hm
end Gv
namespace Gv
open Go.Value renaming slice→zS
open Go Go.Proofs
theorem aOk {G:rT} {K Ke:Hp} {L:List fM} {w:World} {xs R:List Edge} {a:Option Addr} {c:Nat} {i j:Int} (hs:aF G K (own 68 Ke a c xs::L) w) (hm:aOA xs i j=some R):
  Calls Tryz.prog 26 ([zS a xs.length c,i64 i,i64 j]:List Value).toArray w (dL fun v w'=>∃ (ra:Option Addr) (rc:Nat),v=zS ra R.length rc/\aF G K (own 68 Ke ra rc R::L) w'):=by
 unfold aOA at hm
 split at hm
 ·rename_i hc
  obtain ⟨h0,h1,h2⟩:=hc
  obtain ⟨i,rfl⟩:=Int.eq_ofNat_of_zero_le h0
  obtain ⟨j,rfl⟩:=Int.eq_ofNat_of_zero_le (Int.le_trans h0 h1)
  have hij:i<=j:=by omega
  have hjn:j<=xs.length:=by omega
  simp only [Int.toNat_natCast,Option.some.injEq] at hm
  subst hm
  have hcap:=qA hs (i:=0) rfl
  have hsl:SLT Tryz.prog 26 68 3:=⟨Tryz.runUnderlying26,Tryz.sizeOf68⟩
  have hez:EZ Tryz.prog 68 [i64 0,i64 0,i64 0]:=⟨⟨_,Tryz.zeroValue68,rfl⟩,⟨Tryz.t68,Tryz.typeInfo68,by show (24:Nat)<=128;decide,rfl,by kernel_rfl,_,rfl,rfl⟩⟩
  have hlen:(xs.take i++xs.drop j).length=i+(xs.length - j):=by rw [List.length_append,List.length_take,List.length_drop];omega
  refine aP Tryz.func26 rfl (by kernel_rfl) (by show (3:Nat)<=33;decide) ?_
  refine aK ?_
  refine aU ?_
  refine aD (cY (v:=zS none 0 0) rfl) ?_
  refine aY (aC ?_)
  refine aK ?_
  refine aU ?_
  refine aD (aV (v:=zS a xs.length c) rfl) ?_
  refine aD (aV (v:=i64 (i:Int)) rfl) ?_
  refine aD (aV (v:=i64 (j:Int)) rfl) ?_
  refine aD (aV (v:=zS a xs.length c) rfl) ?_
  refine aD (bC (len:=xs.length) hsl rfl) ?_
  refine WO_sl3 hsl rfl rfl rfl rfl hij hjn hcap fun v0=>?_
  refine aY (aC ?_)
  refine aK ?_
  refine aK ?_
  refine aU ?_
  refine aD (aV (v:=i64 (i:Int)) rfl) ?_
  refine aD (aV (v:=i64 (j:Int)) rfl) ?_
  refine aD (kK rfl rfl) ?_
  refine aY (aC ?_)
  by_cases hb:((i:Int) == (j:Int))=true
  ·have he:i=j:=by have:=beq_iff_eq.1 hb;omega
   refine aR hb rfl ?_
   refine aK ?_
   refine aU ?_
   refine aD (aV (v:=zS a xs.length c) rfl) ?_
   refine aD (cY (v:=zS a xs.length c) rfl) ?_
   refine aY (aC ?_)
   have e2:xs.take i++xs.drop j=xs:=by rw [he,List.take_append_drop]
   rw [e2]
   exact nD (kJ (oW Tryz.results26 rfl ⟨a,c,rfl,hs⟩))
  ·refine aX hb rfl ?_
   refine aW (aC ?_)
   refine aK ?_
   refine aU ?_
   refine aD (aV (v:=zS a xs.length c) rfl) ?_
   refine aD (bC (len:=xs.length) hsl rfl) ?_
   refine aD (cY (v:=i64 (xs.length:Int)) rfl) ?_
   refine aY (aC ?_)
   refine aK ?_
   refine cI (C:=fun w'=>∃ L',aF G K L' w') [(0,0),(1,0),(2,0),(3,0),(4,0),(5,0),(6,1),(7,0)] Tryz_mixed (by kernel_rfl) (fun _ hg=>⟨_,aF.mono hs hg⟩) ?_
   intro w1 hg1
   have hs1:=aF.mono hs hg1
   refine aZ rfl (fun _ _=>aV (v:=zS a xs.length c) rfl) ?_
   refine aZ rfl (fun _ _=>aV (v:=i64 (i:Int)) rfl) ?_
   refine aZ rfl (fun _ _=>R_slNH hsl rfl rfl (by omega)) ?_
   refine aZ rfl (fun _ _=>aV (v:=zS a xs.length c) rfl) ?_
   refine aZ rfl (fun _ _=>aV (v:=i64 (j:Int)) rfl) ?_
   obtain ⟨a2,c2,hcut⟩:=Cut.ex 3 a c (j:Int)
   refine aZ rfl (fun _ _=>R_slNL hsl hcut rfl rfl hjn) ?_
   have hsc:slc xs (j:Int) (xs.length:Int)=some (xs.drop j):=by
    unfold slc
    rw [if_pos ⟨by omega,by omega,by simp⟩,Int.toNat_natCast,Int.toNat_natCast,List.take_of_length_le (by rw [List.length_drop];exact Nat.le_refl _)]
   have hov:ovw xs (i:Int) (xs.drop j)=some (xs.take i++xs.drop j++xs.drop (i+(xs.drop j).length)):=by
    unfold ovw
    rw [if_pos ⟨by omega,by rw [Int.toNat_natCast,List.length_drop];omega⟩,Int.toNat_natCast]
   refine fR rfl ?_
   refine WO_appIn (i:=0) hsl rfl hs1 rfl hsc hcut hov rfl rfl (by rw [List.length_drop]) ?_
   intro w2 (hs2:aF G K (own 68 Ke a c (xs.take i++xs.drop j++xs.drop (i+(xs.drop j).length))::L) w2)
   refine aY (aC ⟨⟨_,hs2⟩,?_⟩)
   refine aZ rfl (fun _ _=>cY (v:=zS a (i+(xs.length - j)) c) rfl) ?_
   refine lV (aC ?_)
   refine aK ?_
   refine aU ?_
   refine aD (aV (v:=zS a (i+(xs.length - j)) c) rfl) ?_
   refine aD (aV (v:=zS a (i+(xs.length - j)) c) rfl) ?_
   refine aD (bC (len:=i+(xs.length - j)) hsl rfl) ?_
   refine aD (aV (v:=i64 (xs.length:Int)) rfl) ?_
   obtain ⟨a3,c3,hcut3⟩:=Cut.ex 3 a c ((i+(xs.length - j):Nat):Int)
   refine aD (R_slNB hsl hcut3 rfl rfl rfl (by omega) hcap) ?_
   have hdl:(xs.drop j).length=xs.length - j:=List.length_drop
   have hl3:(xs.take i++xs.drop j++xs.drop (i+(xs.drop j).length)).length=xs.length:=by
    rw [List.length_append,hlen,List.length_drop,hdl];omega
   have hov3:ovw (xs.take i++xs.drop j++xs.drop (i+(xs.drop j).length)) ((i+(xs.length - j):Nat):Int) (List.replicate (xs.length - (i+(xs.length - j))) ((⟨0,0,0⟩:Edge)))=some (xs.take i++xs.drop j++List.replicate (xs.length - (i+(xs.length - j))) ((⟨0,0,0⟩:Edge))):=by
    unfold ovw
    rw [if_pos ⟨by omega,by rw [Int.toNat_natCast,hl3,List.length_replicate];omega⟩,Int.toNat_natCast]
    have e1:(xs.take i++xs.drop j++xs.drop (i+(xs.drop j).length)).take (i+(xs.length - j))=xs.take i++xs.drop j:=by rw [List.take_append_of_le_length (by rw [hlen];exact Nat.le_refl _),List.take_of_length_le (by rw [hlen];exact Nat.le_refl _)]
    have e2:(xs.take i++xs.drop j++xs.drop (i+(xs.drop j).length)).drop (i+(xs.length - j)+(List.replicate (xs.length - (i+(xs.length - j))) ((⟨0,0,0⟩:Edge))).length)=[]:=List.drop_of_length_le (by rw [hl3,List.length_replicate];omega)
    rw [e1,e2,List.append_nil]
   refine aID (i:=0) (z:=(⟨0,0,0⟩:Edge)) hsl hez rfl hs2 rfl hcut3 rfl rfl hov3 ?_
   intro w3 (hs3:aF G K (own 68 Ke a c (xs.take i++xs.drop j++List.replicate (xs.length - (i+(xs.length - j))) ((⟨0,0,0⟩:Edge)))::L) w3)
   refine aY (aC ?_)
   refine aK ?_
   refine aU ?_
   refine aD (aV (v:=zS a (i+(xs.length - j)) c) rfl) ?_
   refine aD (cY (v:=zS a (i+(xs.length - j)) c) rfl) ?_
   refine aY (aC ?_)
   have hs4:aF G K (own 68 Ke a c (xs.take i++xs.drop j)::L) w3:=aF.cutP hs3 (i:=0) rfl (lo:=0) (hi:=((i+(xs.length - j):Nat):Int)) (by
    unfold slc
    rw [if_pos ⟨by omega,by omega,by rw [Int.toNat_natCast,List.length_append,hlen];omega⟩,Int.toNat_natCast]
    have e1:(0:Int).toNat=0:=rfl
    rw [e1,List.drop_zero,Nat.sub_zero,List.take_append_of_le_length (by rw [hlen];exact Nat.le_refl _),List.take_of_length_le (by rw [hlen];exact Nat.le_refl _)]) Cut.whole
   exact nD (oW Tryz.results26 rfl ⟨a,c,by rw [hlen];rfl,hs4⟩)
 ·cases hm
theorem aQP {G:rT} {K Ke:Hp} {L:List fM} {w:World} {xs R:List Edge} {a:Option Addr} {c:Nat} {i j:Int} (hs:aF G K (own 68 Ke a c xs::L) w) (hm:aOA xs i j=some R):
  Calls Tryz.prog 26 ([zS a xs.length c,i64 i,i64 j]:List Value).toArray w (dL fun v w'=>∃ (ra:Option Addr) (rc:Nat),v=zS ra R.length rc/\aF G K (own 68 Ke ra rc R::L) w'):=aOk hs hm
end Gv
