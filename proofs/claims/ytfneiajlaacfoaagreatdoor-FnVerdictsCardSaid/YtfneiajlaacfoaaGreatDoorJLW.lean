/- Contracts of functions of Go's library, said of heaps of pieces. -/
import Derived.Test.YtfneiajlaacfoaaGreatDoorJWk0
import Derived.Test.YtfneiajlaacfoaaGreatDoorJP11
set_option linter.all false
namespace Gv
open Go Go.Proofs Go.RowKit Go.Sort
section
variable {G:rY} {K:Hp} {L:List fD} {w:World}
theorem swo_of {α:Type} {lt lt':α->α->Bool} (he:∀ a b,lt' a b=lt a b) (irr:∀ a,lt a a=false) (tr:∀ {a b c},lt a b=true->lt b c=true->lt a c=true) (tri:∀ a b,lt a b=true\/a=b\/lt b a=true):Sort.SWO lt':=by
 obtain rfl:lt'=lt:=by funext a b;exact he a b
 refine ⟨irr,fun x y z=>tr,fun x y z h1 h2=>?_⟩
 rcases tri x y with h|h|h
 ·rw [h] at h1;cases h1
 ·subst h;exact h2
 ·rcases tri y z with g|g|g
  ·rw [g] at h2;cases h2
  ·subst g;exact h1
  ·cases hx:lt' x z with
   |false=>rfl
   |true=>
    have:=tr (tr g h) hx
    rw [irr] at this;cases this
theorem total_of {α:Type} {lt lt':α->α->Bool} (he:∀ a b,lt' a b=lt a b) (tri:∀ a b,lt a b=true\/a=b\/lt b a=true) (x y:α) (h1:lt' x y=false) (h2:lt' y x=false):x=y:=by
 rw [he] at h1 h2
 rcases tri x y with h|h|h
 ·rw [h] at h1;cases h1
 ·exact h
 ·rw [h] at h2;cases h2
end
end Gv
namespace Gv
open Go.Value renaming slice→zS
open Go Go.Proofs Go.RowKit Go.Sort
theorem aKK:∀ a:List Int,rV a a=0
 |[]=>rfl
 |a::l=>by simp [rV,aKK l]
theorem aKL:∀ a b:List Int,rV b a=-rV a b
 |[],[]=>rfl
 |[],_::_=>rfl
 |_::_,[]=>rfl
 |a::l,b::m=>by
  simp only [rV]
  split<;>split<;>(try split)<;>first|omega|rfl|exact aKL l m
theorem aKM:∀ {a b:List Int},rV a b=0->a=b
 |[],[],_=>rfl
 |[],_::_,h=>by simp [rV] at h
 |_::_,[],h=>by simp [rV] at h
 |a::l,b::m,h=>by
  simp only [rV] at h
  split at h
  ·omega
  ·split at h
   ·omega
   ·rw [show a=b by omega,aKM h]
theorem aJD:∀ a b:List Int,rV a b=-1\/rV a b=0\/rV a b=1
 |[],[]=>.inr (.inl rfl)
 |[],_::_=>.inl rfl
 |_::_,[]=>.inr (.inr rfl)
 |a::l,b::m=>by
  simp only [rV]
  split
  ·exact .inl rfl
  ·split
   ·exact .inr (.inr rfl)
   ·exact aJD l m
theorem aJE:∀ {a b c:List Int},rV a b < 0->rV b c < 0->rV a c < 0
 |[],[],_,h,_=>by simp [rV] at h
 |[],_::_,[],_,h=>by simp [rV] at h
 |[],_::_,_::_,_,_=>by simp [rV]
 |_::_,[],_,h,_=>by simp [rV] at h
 |_::_,_::_,[],_,h=>by simp [rV] at h
 |a::l,b::m,c::n,h1,h2=>by
  simp only [rV] at *
  split at h1
  ·split at h2
   ·rw [if_pos (by omega)];omega
   ·split at h2
    ·omega
    ·rw [if_pos (by omega)];omega
  ·split at h1
   ·omega
   ·split at h2
    ·rw [if_pos (by omega)];omega
    ·split at h2
     ·omega
     ·rw [if_neg (by omega),if_neg (by omega)]
      exact aJE h1 h2
theorem aFB (a:List Int):iH a a=false:=by simp [iH,aKK]
theorem aFo {a b c:List Int} (h1:iH a b=true) (h2:iH b c=true):iH a c=true:=by
 simp only [iH,decide_eq_true_eq] at *
 exact aJE h1 h2
theorem aFC (a b:List Int):iH a b=true\/a=b\/iH b a=true:=by
 simp only [iH,decide_eq_true_eq,aKL a b]
 rcases aJD a b with h|h|h
 ·exact .inl (by omega)
 ·exact .inr (.inl (aKM h))
 ·exact .inr (.inr (by omega))
theorem cmpInt_eq (a b:Int):dL a b=some (if a < b then -1 else if b < a then 1 else 0):=by
 unfold dL mR
 simp only [bne_self_eq_false,aA]
 by_cases h1:a < b
 ·simp [h1]
 ·by_cases h2:b < a<;>simp [h1,h2]
theorem cmpS_end {a b:List Int} (ha:a.length < iC):cB a b (a.length:Int)=some (.inr (.inl ())):=by
 unfold cB
 rw [show decide ((a.length:Int) < (a.length:Int))=false from decide_eq_false (by omega)]
 rfl
theorem cmpS_one {a b:List Int} {k:Nat} (h:k < a.length) (h2:b.length<=k):cB a b (k:Int)=some (.inr (.inr 1)):=by
 unfold cB
 rw [show decide ((k:Int) < (a.length:Int))=true from decide_eq_true (by omega),if_pos rfl,show ix a (k:Int)=some a[k] by simp [ix,h],aA,show decide ((b.length:Int)<=(k:Int))=true from decide_eq_true (by omega),if_pos rfl]
theorem aJF {a b:List Int} {k:Nat} (h:k < a.length) (h2:k < b.length) (hb:b.length < iC):
  cB a b (k:Int)=some (if a[k] < b[k] then .inr (.inr (-1)) else if b[k] < a[k] then .inr (.inr 1) else .inl ((k+1:Nat):Int)):=by
 unfold iC at hb
 unfold cB
 rw [show decide ((k:Int) < (a.length:Int))=true from decide_eq_true (by omega),if_pos rfl,show ix a (k:Int)=some a[k] by simp [ix,h],aA,show decide ((b.length:Int)<=(k:Int))=false from decide_eq_false (by omega),if_neg (by simp),show ix b (k:Int)=some b[k] by simp [ix,h2],aA,cmpInt_eq,aA,show wr ((k:Int)+1)=((k+1:Nat):Int) by rw [bP]<;>omega]
 by_cases h1:a[k] < b[k]
 ·simp [h1]
 ·by_cases h3:b[k] < a[k]<;>simp [h1,h3]
theorem cmpJ_eq (a b:List Int):fA a b=some (if a.length < b.length then -1 else 0):=by
 unfold fA
 by_cases h:a.length < b.length
 ·rw [show decide ((a.length:Int) < (b.length:Int))=true from decide_eq_true (by omega)];simp [h]
 ·rw [show decide ((a.length:Int) < (b.length:Int))=false from decide_eq_false (by omega)];simp [h]
theorem aHJ {a b:List Int} (ha:a.length < iC) (hb:b.length < iC):∀ (n k:Nat),k+n=a.length->k<=b.length->
  ∃ x,loop (fun s:Int=>cB a b s) (k:Int)=some x/\((x=.inl ()/\rV (a.drop k) (b.drop k)=if a.length < b.length then -1 else 0)\/x=.inr (rV (a.drop k) (b.drop k))):=by
 intro n
 induction n with
 |zero=>
  intro k hk hkb
  obtain rfl:k=a.length:=by omega
  refine ⟨.inl (),by rw [cF,cmpS_end ha],.inl ⟨rfl,?_⟩⟩
  rw [List.drop_eq_nil_of_le (Nat.le_refl _)]
  by_cases hlt:a.length < b.length
  ·rw [if_pos hlt,List.drop_eq_getElem_cons hlt];rfl
  ·rw [if_neg hlt,List.drop_eq_nil_of_le (by omega)];rfl
 |succ n ih=>
  intro k hk hkb
  have hka:k < a.length:=by omega
  by_cases hbk:b.length<=k
  ·refine ⟨.inr 1,by rw [cF,cmpS_one hka hbk],.inr ?_⟩
   rw [List.drop_eq_getElem_cons hka,List.drop_eq_nil_of_le hbk];rfl
  ·have hk2:k < b.length:=by omega
   have e1:=List.drop_eq_getElem_cons hka
   have e2:=List.drop_eq_getElem_cons hk2
   by_cases h1:a[k] < b[k]
   ·exact ⟨.inr (-1),by rw [cF,aJF hka hk2 hb,if_pos h1],.inr (by rw [e1,e2];simp [rV,h1])⟩
   ·by_cases h2:b[k] < a[k]
    ·exact ⟨.inr 1,by rw [cF,aJF hka hk2 hb,if_neg h1,if_pos h2],.inr (by rw [e1,e2];simp [rV,h1,h2])⟩
    ·obtain ⟨x,hx,h⟩:=ih (k+1) (by omega) (by omega)
     refine ⟨x,by rw [cF,aJF hka hk2 hb,if_neg h1,if_neg h2];exact hx,?_⟩
     have:rV (a.drop k) (b.drop k)=rV (a.drop (k+1)) (b.drop (k+1)):=by rw [e1,e2];simp [rV,h1,h2]
     rw [this];exact h
theorem xM {a b:List Int} (ha:a.length < iC) (hb:b.length < iC):fR a b=some (rV a b):=by
 unfold fR
 obtain ⟨x,hx,h⟩:=aHJ ha hb a.length 0 (by omega) (by omega)
 rw [show ((0:Nat):Int)=0 from rfl] at hx
 rw [hx,aA]
 simp only [List.drop_zero] at h
 rcases h with ⟨rfl,h⟩|rfl
 ·rw [h];exact cmpJ_eq a b
 ·rfl
theorem fE.perm {A B:List fD} (p:A.Perm B):∀ {h:Hp},fE A h->fE B h:=by
 induction p with
 |nil=>exact fun s=>s
 |cons x _ ih=>exact fun ⟨h1,h2,a,d,l1,l2,r⟩=>⟨h1,h2,a,d,l1,l2,ih r⟩
 |swap x y l=>exact fun s=>fE.sel (is:=[1,0]) (n:=2) rfl s
 |trans _ _ ih1 ih2=>exact fun s=>ih2 (ih1 s)
theorem xN {β:Type} (xs:List β):(List.finRange xs.length).map (fun i=>xs[i])=xs:=by
 apply List.ext_getElem?
 intro i
 by_cases h:i < xs.length<;>simp [h]
theorem aAX {β γ δ:Type} (f:β->γ->δ) (hds:List β) (xs:List γ) (hl:hds.length=xs.length) (p:List (Fin xs.length)):
  List.zipWith f (p.map fun i=>hds[i.val]'(by rw [hl];exact i.isLt)) (p.map fun i=>xs[i])=p.map fun i=>f (hds[i.val]'(by rw [hl];exact i.isLt)) xs[i]:=by
 induction p with
 |nil=>rfl
 |cons i p ih=>simp only [List.map_cons,List.zipWith_cons_cons,ih]
theorem aLB {G:rY} {K:Hp} {L:List fD} {w:World} {E:TypeId} {xs:List (List Int)} {a:Option Addr} {c:Nat} {hds:List (Dp.Hd (List Int))} {R:List (List Int)} (hs:aE G K (own E K a c (cP hds xs)::rows [2] hds xs::L) w) (hl:hds.length=xs.length) (hm:aIW xs=some R):
  Calls Tryz.prog 52 ([zS a xs.length c,Value.func (.func 53) #[] #[]]:List Value).toArray w (dQ fun v w'=>∃ hd:List (Dp.Hd (List Int)),v=Value.tuple #[]/\xs.length=R.length/\List.length hd=List.length R/\aE G K (own E K a c (cP hd R)::rows [2] hd R::L) w'):=by
 unfold aIW at hm
 split at hm
 ·rename_i hc
  obtain ⟨hlim,hnd,hrl⟩:=hc
  cases hm
  have hlen:(srt iH xs).length=xs.length:=List.length_mergeSort _
  by_cases hx:xs=[]
  ·
   subst hx
   obtain rfl:hds=[]:=List.length_eq_zero_iff.1 hl
   have hR:srt iH ([]:List (List Int))=[]:=by simp [srt]
   rw [hR]
   rcases aDf hs (i:=0) rfl with ⟨rfl,_⟩|⟨b,off,rfl,hb,_⟩
   ·refine (Tryz.slices_SortFunc_none_f52 (α:=aF) none c _ w).mono ?_
    rintro e w' ⟨rfl,rfl⟩
    exact ⟨_,rfl,[],rfl,rfl,rfl,hs⟩
   ·have hlay:∀ (m:Nat) (os:Array Obj) (dk:Array Unit),dk.size=0->aE G K (own E K (some ⟨b,off,none⟩) c (cP ([]:List (Dp.Hd (List Int))) [])::rows [2] ([]:List (Dp.Hd (List Int))) []::L) (sortWorld (fun _:Unit=>zS none 0 0) w b off m dk os):=by
     intro m os dk hdk
     unfold sortWorld
     rw [aBN]
     refine aE.putRow (i:=0) hs rfl rfl ?_
     have:dk.toList=[]:=by cases dk;simpa using hdk
     simp [this,cP,jS]
    refine (Tryz.slices_SortFunc_total_f52 (α:=Unit) (fun _=>zS none 0 0) (fun _=>rfl) (fun _ _=>0) ⟨fun _=>rfl,fun _ _ _ h=>(by simp [ltOf] at h),fun _ _ _ _ _=>rfl⟩ 53 #[] b off c #[] w (enters_of Tryz.func53 (by kernel_rfl) rfl) ?_ (fun j hj=>by simp at hj) hb (by simp) (fun _ _ _ _=>rfl)).mono ?_
    ·intro m os dk hdk x y
     have hst:=hlay m os dk hdk
     have:=dG (xM (a:=[]) (b:=[]) (by decide) (by decide)) (aE.start (sortWorld (fun _:Unit=>zS none 0 0) w b off m dk os) G.laid hst.globs) (aCe (α:=Int) _) (aCe (α:=Int) _)
     refine this.mono ?_
     rintro e w' ⟨v,rfl,rfl,hx⟩
     exact ⟨rfl,hx.exact⟩
    ·rintro e w' ⟨rfl,n,os,rfl⟩
     exact ⟨_,rfl,[],rfl,rfl,rfl,hlay n os _ (by simp)⟩
  ·have hpos:0 < xs.length:=List.length_pos_iff.2 hx
   have hh:∀ i:Fin xs.length,i.val < hds.length:=fun i=>by rw [hl];exact i.isLt
   obtain ⟨K',h1,hA,l1,lk,s1,back⟩:=aE.lend (i:=1) hs rfl
   have s1:aE G K' (own E K a c (cP hds xs)::L) w:=s1
   have hrd:∀ i:Fin xs.length,bL K' (hds[i.val]'(hh i)).1 (hds[i.val]'(hh i)).2 xs[i]:=fun i=>
    rd_row (aLl hA l1 (List.getElem?_eq_getElem (hh i)) (List.getElem?_eq_getElem i.isLt))
   have hne:cP hds xs≠[]:=by
    intro e
    have:=kY (xs:=xs) hl
    rw [e] at this;simp at this;omega
   rcases aDf s1 (i:=0) rfl with ⟨_,h⟩|⟨b,off,rfl,hb,hcell⟩
   ·exact absurd h hne
   haveI:Inhabited (Fin xs.length):=⟨⟨0,hpos⟩⟩
   let enc:Fin xs.length->Value:=fun i=>zS (hds[i.val]'(hh i)).1 (xs[i]).length (hds[i.val]'(hh i)).2
   let cf:Fin xs.length->Fin xs.length->Int:=fun i j=>rV xs[i] xs[j]
   let hdr:Fin xs.length->Cells 0:=fun i=>zF (hds[i.val]'(hh i)) xs[i]
   have hheads:∀ p:List (Fin xs.length),cP (p.map fun i=>hds[i.val]'(hh i)) (p.map fun i=>xs[i])=p.map hdr:=fun p=>aAX zF hds xs hl p
   have hds_eq:(List.finRange xs.length).map (fun i=>hds[i.val]'(hh i))=hds:=by
    apply List.ext_getElem?
    intro i
    by_cases h:i < xs.length
    ·simp [h,hl]
    ·simp [h,hl]
   have hlay:∀ (m:Nat) (os:Array Obj) (dk:Array (Fin xs.length)),dk.size=xs.length->aE G K' (own E K (some ⟨b,off,none⟩) c (dk.toList.map hdr)::L) (sortWorld enc w b off m dk os):=by
    intro m os dk hdk
    unfold sortWorld
    rw [aBN]
    refine aE.putRow (i:=0) s1 rfl (by simp [kY hl,hdk]) ?_
    simp only [Array.toList_map]
    show _=(dk.toList.map hdr).flatMap eQ.enc
    generalize dk.toList=l
    induction l with
    |nil=>rfl
    |cons i l ih=>simp only [List.map_cons,List.flatMap_cons,ih];rfl
   have hlt:∀ i j,ltOf cf i j=iH xs[i] xs[j]:=fun i j=>rfl
   have htri:∀ i j:Fin xs.length,iH xs[i] xs[j]=true\/i=j\/iH xs[j] xs[i]=true:=fun i j=>by
    rcases aFC xs[i] xs[j] with h|h|h
    ·exact .inl h
    ·exact .inr (.inl (Fin.ext ((List.getElem_inj hnd).1 h)))
    ·exact .inr (.inr h)
   have hsz:(List.finRange xs.length).toArray.size=xs.length:=by simp
   have key:=fun h1 h2=>Tryz.slices_SortFunc_total_f52 (α:=Fin xs.length) enc (fun _=>rfl) cf (swo_of (lt:=fun i j=>iH xs[i] xs[j]) hlt (fun i=>aFB _) (fun h1 h2=>aFo h1 h2) htri) 53 #[] b off c (List.finRange xs.length).toArray w (enters_of Tryz.func53 (by kernel_rfl) rfl) h1 h2 hb (by rw [hsz];unfold iC at hlim;omega) (total_of (lt:=fun i j=>iH xs[i] xs[j]) hlt htri)
   rw [hsz] at key
   refine (key ?_ ?_).mono ?_
   ·intro m os dk hdk x y
    have hst:=hlay m os dk (by simpa using hdk)
    have:=dG (xM (hrl _ (List.getElem_mem _)) (hrl _ (List.getElem_mem _))) (aE.start (sortWorld enc w b off m dk os) G.laid hst.globs) ((hrd x).mono hst.know) ((hrd y).mono hst.know)
    refine this.mono ?_
    rintro e w' ⟨v,rfl,rfl,hx⟩
    exact ⟨rfl,hx.exact⟩
   ·intro j hj
    have hj':j < xs.length:=by simpa using hj
    have:=hcell j (enc ⟨j,hj'⟩) (by
     have e0:=hheads (List.finRange xs.length)
     rw [hds_eq,xN] at e0
     rw [e0]
     show ((List.finRange xs.length).map hdr |>.flatMap eQ.enc)[j]?=_
     have:((List.finRange xs.length).map hdr).flatMap eQ.enc=(List.finRange xs.length).map enc:=by
      generalize List.finRange xs.length=l
      induction l with
      |nil=>rfl
      |cons i l ih=>simp only [List.map_cons,List.flatMap_cons,ih];rfl
     rw [this];simp [hj'])
    rw [getElem!_pos _ j hj]
    simpa using this
   ·rintro e w' ⟨rfl,n,os,rfl⟩
    have hp:((List.finRange xs.length).toArray.toList.mergeSort fun x y=>!ltOf cf y x).Perm (List.finRange xs.length):=List.mergeSort_perm _ _
    have hR:((List.finRange xs.length).toArray.toList.mergeSort fun x y=>!ltOf cf y x).map (fun i=>xs[i])=srt iH xs:=by
     unfold srt
     have:=List.map_mergeSort (r:=fun x y=>!ltOf cf y x) (s:=fun a b=>!iH b a) (f:=fun i:Fin xs.length=>xs[i]) (l:=List.finRange xs.length) (fun a _ b _=>rfl)
     rw [xN] at this
     exact this
    generalize ((List.finRange xs.length).toArray.toList.mergeSort fun x y=>!ltOf cf y x)=p at *
    have hpl:p.length=xs.length:=by rw [hp.length_eq];simp
    have h0:=back _ _ (hlay n os p.toArray (by simpa using hpl))
    rw [←hR]
    refine ⟨_,rfl,p.map (fun i=>hds[i.val]'(hh i)),rfl,by simp [hpl],by simp,?_⟩
    rw [hheads p]
    have h2:aE G K (rows [2] (p.map fun i=>hds[i.val]'(hh i)) (p.map fun i=>xs[i])::own E K (some ⟨b,off,none⟩) c (p.map hdr)::L) (sortWorld enc w b off n p.toArray os):=by
     refine aE.weak (i:=0) h0 rfl (fun _ hA=>?_)
     refine fE.perm ?_ hA
     unfold rU
     rw [aAX (Dp.pcs [2]) hds xs hl p]
     have e1:List.zipWith (Dp.pcs [2]) hds xs=(List.finRange xs.length).map fun i=>Dp.pcs [2] (hds[i.val]'(hh i)) xs[i]:=by
      have:=aAX (Dp.pcs [2]) hds xs hl (List.finRange xs.length)
      rwa [hds_eq,xN] at this
     rw [e1,←List.flatMap_def,←List.flatMap_def]
     exact (hp.symm).flatMap_right _
    exact aE.arr 2 [1,0] h2 rfl
 ·cases hm
end Gv
namespace Gv
open Go.Value renaming slice→zS
open Go Go.Proofs Go.RowKit Go.Sort
theorem srtI_of {xs ys:List (List Int)} (p:ys.Perm xs) (h:ys.Pairwise fun a b=>(!iH b a)=true):ys=srt iH xs:=by
 have hle:∀ {a b},(!iH b a)=true->a=b\/iH a b=true:=fun {a b} h=>by
  rcases aFC a b with h1|h1|h1
  ·exact .inr h1
  ·exact .inl h1
  ·rw [h1] at h;cases h
 have asy:∀ {a b},iH a b=true->iH b a=false:=fun {a b} h=>by
  cases hx:iH b a with
  |false=>rfl
  |true=>have:=aFo h hx;rw [aFB] at this;cases this
 refine List.Perm.eq_of_pairwise (le:=fun a b=>(!iH b a)=true) (fun a b _ _ h1 h2=>?_) h (List.pairwise_mergeSort (fun a b c h1 h2=>?_) (fun a b=>?_) _) (p.trans (List.mergeSort_perm _ _).symm)
 ·rcases hle h1 with e|e
  ·exact e
  ·rw [e] at h2;cases h2
 ·rcases hle h1 with rfl|h1
  ·exact h2
  ·rcases hle h2 with rfl|h2
   ·simp [asy h1]
   ·simp [asy (aFo h1 h2)]
 ·rcases aFC a b with h1|h1|h1
  ·simp [asy h1]
  ·subst h1;simp [aFB]
  ·simp [asy h1]
theorem lib_SortRowsF {G:rY} {K Kf:Hp} {L:List fD} {w:World} {E:TypeId} {xs:List (List Int)} {a:Option Addr} {c:Nat} {R:List (List Int)} (hs:aE G K (own E Kf a c xs::L) w) (hKf:Hp.le Kf K) (hm:zJ xs=some R):
  Calls Tryz.prog 52 ([zS a xs.length c,Value.func (.func 53) #[] #[]]:List Value).toArray w (dQ fun v w'=>v=Value.tuple #[]/\xs.length=R.length/\aE G K (own E Kf a c R::L) w'):=by
 unfold zJ at hm
 split at hm
 ·rename_i hc
  obtain ⟨hlim,hrl⟩:=hc
  cases hm
  have hlen:(srt iH xs).length=xs.length:=List.length_mergeSort _
  obtain ⟨hds,hh,s1⟩:=hs.frzOpen (i:=0) rfl
  have s1:aE G K (own E Kf a c (cP hds xs)::L) w:=s1
  have hl:=hh.1
  by_cases hx:xs=[]
  ·subst hx
   obtain rfl:hds=[]:=List.length_eq_zero_iff.1 hl
   have hR:srt iH ([]:List (List Int))=[]:=by simp [srt]
   rw [hR]
   rcases aDf s1 (i:=0) rfl with ⟨rfl,_⟩|⟨b,off,rfl,hb,_⟩
   ·refine (Tryz.slices_SortFunc_none_f52 (α:=Int) none c _ w).mono ?_
    rintro e w' ⟨rfl,rfl⟩
    exact ⟨_,rfl,rfl,rfl,hs⟩
   ·have hlay:∀ (m:Nat) (os:Array Obj) (dk:Array Unit),dk.size=0->aE G K (own E Kf (some ⟨b,off,none⟩) c (cP ([]:List (Dp.Hd (List Int))) [])::L) (sortWorld (fun _:Unit=>zS none 0 0) w b off m dk os):=by
     intro m os dk hdk
     unfold sortWorld
     rw [aBN]
     refine aE.putRow (i:=0) s1 rfl rfl ?_
     have:dk.toList=[]:=by cases dk;simpa using hdk
     simp [this,cP,jS]
    refine (Tryz.slices_SortFunc_f52 (α:=Unit) (fun _=>zS none 0 0) (fun _=>rfl) (fun _ _=>0) ⟨fun _=>rfl,fun _ _ _ h=>(by simp [ltOf] at h),fun _ _ _ _ _=>rfl⟩ 53 #[] b off c #[] w (enters_of Tryz.func53 (by kernel_rfl) rfl) ?_ (fun j hj=>by simp at hj) hb (by simp)).mono ?_
    ·intro m os dk hdk x y
     have hst:=hlay m os dk hdk
     have:=dG (xM (a:=[]) (b:=[]) (by decide) (by decide)) (aE.start (sortWorld (fun _:Unit=>zS none 0 0) w b off m dk os) G.laid hst.globs) (aCe (α:=Int) _) (aCe (α:=Int) _)
     refine this.mono ?_
     rintro e w' ⟨v,rfl,rfl,hx⟩
     exact ⟨rfl,hx.exact⟩
    ·rintro e w' ⟨rfl,d',n,os,hpm,_,rfl⟩
     have h0:=(hlay n os d' (by have:=hpm.1;simpa using this)).frzClose (i:=0) (Ke:=Kf) rfl (xs:=[]) ⟨rfl,fun j hd x h=>by simp at h⟩
     exact ⟨_,rfl,rfl,rfl,h0⟩
  ·have hpos:0 < xs.length:=List.length_pos_iff.2 hx
   have hhl:∀ i:Fin xs.length,i.val < hds.length:=fun i=>by rw [hl];exact i.isLt
   have hrd:∀ i:Fin xs.length,bL K (Prod.fst (hds[i.val]'(hhl i))) (Prod.snd (hds[i.val]'(hhl i))) xs[i]:=fun i=>
    (hh.2 i.val _ _ (List.getElem?_eq_getElem (hhl i)) (List.getElem?_eq_getElem i.isLt)).mono hKf
   have hne:cP hds xs≠[]:=by
    intro e
    have:=kY (xs:=xs) hl
    rw [e] at this;simp at this;omega
   rcases aDf s1 (i:=0) rfl with ⟨_,h⟩|⟨b,off,rfl,hb,hcell⟩
   ·exact absurd h hne
   haveI:Inhabited (Fin xs.length):=⟨⟨0,hpos⟩⟩
   let enc:Fin xs.length->Value:=fun i=>zS (Prod.fst (hds[i.val]'(hhl i))) (xs[i]).length (Prod.snd (hds[i.val]'(hhl i)))
   let cf:Fin xs.length->Fin xs.length->Int:=fun i j=>rV xs[i] xs[j]
   let hdr:Fin xs.length->Cells 0:=fun i=>zF (hds[i.val]'(hhl i)) xs[i]
   have hheads:∀ p:List (Fin xs.length),cP (p.map fun i=>hds[i.val]'(hhl i)) (p.map fun i=>xs[i])=p.map hdr:=fun p=>aAX zF hds xs hl p
   have hds_eq:(List.finRange xs.length).map (fun i=>hds[i.val]'(hhl i))=hds:=by
    apply List.ext_getElem?
    intro i
    by_cases h:i < xs.length
    ·simp [h,hl]
    ·simp [h,hl]
   have hlay:∀ (m:Nat) (os:Array Obj) (dk:Array (Fin xs.length)),dk.size=xs.length->aE G K (own E Kf (some ⟨b,off,none⟩) c (dk.toList.map hdr)::L) (sortWorld enc w b off m dk os):=by
    intro m os dk hdk
    unfold sortWorld
    rw [aBN]
    refine aE.putRow (i:=0) s1 rfl (by simp [kY hl,hdk]) ?_
    simp only [Array.toList_map]
    show _=(dk.toList.map hdr).flatMap eQ.enc
    generalize dk.toList=l
    induction l with
    |nil=>rfl
    |cons i l ih=>simp only [List.map_cons,List.flatMap_cons,ih];rfl
   have hlt:∀ i j,ltOf cf i j=iH xs[i] xs[j]:=fun i j=>rfl
   have hsz:(List.finRange xs.length).toArray.size=xs.length:=by simp
   have hswo:SWO (ltOf cf):=by
    refine ⟨fun i=>aFB _,fun i j k h1 h2=>aFo h1 h2,fun i j k h1 h2=>?_⟩
    have h1:iH xs[i] xs[j]=false:=h1
    have h2:iH xs[j] xs[k]=false:=h2
    show iH xs[i] xs[k]=false
    rcases aFC xs[i] xs[j] with g|g|g
    ·rw [g] at h1;cases h1
    ·rw [g];exact h2
    ·cases hx:iH xs[i] xs[k] with
     |false=>rfl
     |true=>have:=aFo g hx;rw [h2] at this;cases this
   have key:=fun h1 h2=>Tryz.slices_SortFunc_f52 (α:=Fin xs.length) enc (fun _=>rfl) cf hswo 53 #[] b off c (List.finRange xs.length).toArray w (enters_of Tryz.func53 (by kernel_rfl) rfl) h1 h2 hb (by rw [hsz];unfold iC at hlim;omega)
   rw [hsz] at key
   refine (key ?_ ?_).mono ?_
   ·intro m os dk hdk x y
    have hst:=hlay m os dk (by simpa using hdk)
    have:=dG (xM (hrl _ (List.getElem_mem _)) (hrl _ (List.getElem_mem _))) (aE.start (sortWorld enc w b off m dk os) G.laid hst.globs) ((hrd x).mono hst.know) ((hrd y).mono hst.know)
    refine this.mono ?_
    rintro e w' ⟨v,rfl,rfl,hx⟩
    exact ⟨rfl,hx.exact⟩
   ·intro j hj
    have hj':j < xs.length:=by simpa using hj
    have:=hcell j (enc ⟨j,hj'⟩) (by
     have e0:=hheads (List.finRange xs.length)
     rw [hds_eq,xN] at e0
     rw [e0]
     show ((List.finRange xs.length).map hdr |>.flatMap eQ.enc)[j]?=_
     have:((List.finRange xs.length).map hdr).flatMap eQ.enc=(List.finRange xs.length).map enc:=by
      generalize List.finRange xs.length=l
      induction l with
      |nil=>rfl
      |cons i l ih=>simp only [List.map_cons,List.flatMap_cons,ih];rfl
     rw [this];simp [hj'])
    rw [getElem!_pos _ j hj]
    simpa using this
   ·rintro e w' ⟨rfl,d',n,os,hpm,hsrt,rfl⟩
    obtain ⟨z1,_,z3⟩:=hpm
    have zs:d'.size=xs.length:=by rw [z1];simp
    have zp:d'.toList.Perm (List.finRange xs.length):=by
     have e1:d'.extract 0 xs.length=d':=by
      have:=Array.extract_size (xs:=d')
      rwa [zs] at this
     have e2:(List.finRange xs.length).toArray.extract 0 xs.length=(List.finRange xs.length).toArray:=by
      have:=Array.extract_size (xs:=(List.finRange xs.length).toArray)
      rwa [hsz] at this
     rw [e1,e2] at z3
     simpa using z3
    have hpw:(d'.toList.map fun i=>xs[i]).Pairwise fun a b=>(!iH b a)=true:=by
     rw [List.pairwise_map,List.pairwise_iff_getElem]
     intro i j hi hj hij
     rw [Array.length_toList] at hi hj
     have:=hsrt i j (Nat.zero_le _) hij (by rw [←zs];exact hj)
     rw [getElem!_pos d' j hj,getElem!_pos d' i hi] at this
     have this:iH xs[d'[j]] xs[d'[i]]=false:=this
     simp only [Array.getElem_toList]
     rw [this];rfl
    have hpr:(d'.toList.map fun i=>xs[i]).Perm xs:=by
     have:=zp.map (fun i=>xs[i])
     rwa [xN] at this
    have hR:=srtI_of hpr hpw
    have h0:=hlay n os d' zs
    rw [←hR]
    refine ⟨_,rfl,rfl,by simp [zs],?_⟩
    rw [←hheads d'.toList] at h0
    refine h0.frzClose (i:=0) (Ke:=Kf) rfl (xs:=d'.toList.map fun i=>xs[i]) ⟨by simp,fun j hd x h4 h5=>?_⟩
    rw [List.getElem?_map] at h4 h5
    cases hq:d'.toList[j]? with
    |none=>rw [hq] at h4;cases h4
    |some i=>
     rw [hq] at h4 h5
     cases h4;cases h5
     exact hh.2 i.val _ _ (List.getElem?_eq_getElem (hhl i)) (List.getElem?_eq_getElem i.isLt)
 ·cases hm
end Gv
