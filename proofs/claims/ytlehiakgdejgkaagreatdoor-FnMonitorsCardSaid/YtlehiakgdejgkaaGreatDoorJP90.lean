/- Exploring that ends: the edges are those of all states. -/
import Derived.Test.YtlehiakgdejgkaaGreatDoorJP62
import Derived.Test.YtlehiakgdejgkaaGreatDoorJP80
import Derived.Test.YtlehiakgdejgkaaGreatDoorJP50
import Derived.Test.YtlehiakgdejgkaaGreatDoorJP20
set_option linter.all false
namespace Gv
open Go
section
variable {κ β:Type} [DecidableEq β] [BEq β] [LawfulBEq β] {key:κ->β}
theorem atK_pos (F:List κ) (q:κ):atK key F q=pos ((tF key F q).map key) (key q):=by
 unfold atK tF
 by_cases h:key q∈F.map key
 ·rw [if_pos h,if_pos h]
 ·rw [if_neg h,if_neg h,List.map_append,List.map_singleton,aNq h,List.length_map]
theorem aMk {A B:List κ} (h:A <+:B):A.map key <+:B.map key:=by
 obtain ⟨C,rfl⟩:=h
 exact ⟨C.map key,by rw [List.map_append]⟩
theorem key_sub {A B:List κ} (h:A <+:B) {k:β} (hk:k∈A.map key):k∈B.map key:=by
 obtain ⟨C,hC⟩:=aMk (key:=key) h
 rw [←hC]
 exact List.mem_append_left _ hk
theorem aNH (i:Int):∀ (l:List (Int × κ)) (s:List κ × List Edge),(∀ x∈l,key x.2∈(cU key i l s).1.map key)/\
  ∀ e,e∈(cU key i l s).2<->e∈s.2\/∃ x∈l,e=⟨i,x.1,pos ((cU key i l s).1.map key) (key x.2)⟩
 |[],s=>⟨by simp,fun e=>by simp [aKy]⟩
 |y::l,s=>by
  obtain ⟨h1,h2⟩:=aNH i l (nX key i s y)
  have hp:=(uR (key:=key) i l (nX key i s y)).1
  have hy:key y.2∈(nX key i s y).1.map key:=insK_mem s.1 y.2
  have hpos:pos ((cU key i l (nX key i s y)).1.map key) (key y.2)=atK key s.1 y.2:=by rw [aIO (aMk hp) hy,atK_pos];rfl
  refine ⟨fun x hx=>?_,fun e=>?_⟩
  ·rw [vI]
   rcases List.mem_cons.1 hx with rfl|hx
   ·exact key_sub hp hy
   ·exact h1 x hx
  ·rw [vI,h2]
   constructor
   ·rintro (he|⟨x,hx,rfl⟩)
    ·rcases List.mem_append.1 he with he|he
     ·exact .inl he
     ·rw [List.mem_singleton] at he
      exact .inr ⟨y,List.mem_cons_self,by rw [he,hpos]⟩
    ·exact .inr ⟨x,List.mem_cons_of_mem _ hx,rfl⟩
   ·rintro (he|⟨x,hx,rfl⟩)
    ·exact .inl (List.mem_append_left _ he)
    ·rcases List.mem_cons.1 hx with rfl|hx
     ·left
      rw [hpos]
      exact List.mem_append_right _ (List.mem_singleton.2 rfl)
     ·exact .inr ⟨x,hx,rfl⟩
theorem aCf (nx:κ->List (Int × κ)) (B:Nat):∀ (n i:Nat) (s:List κ × List Edge),(rP key nx B n i s).1.length<=B->(rP key nx B n i s).1.length < n+i->i<=s.1.length->
  (∀ j q,i<=j->(rP key nx B n i s).1[j]?=some q->∀ x∈nx q,key x.2∈(rP key nx B n i s).1.map key)/\
  ∀ e,e∈(rP key nx B n i s).2<->e∈s.2\/∃ (j:Nat) (q:κ),i<=j/\(rP key nx B n i s).1[j]?=some q/\∃ x∈nx q,e=⟨(j:Int),x.1,pos ((rP key nx B n i s).1.map key) (key x.2)⟩
 |0,i,s,h1,h2,h3=>by
  have:(rP key nx B 0 i s).1.length=s.1.length:=rfl
  omega
 |n+1,i,s,h1,h2,h3=>by
  have hd:rP key nx B (n+1) i s=match s.1[i]? with
   |none=>s
   |some q=>if B < (cU key (i:Int) (nx q) s).1.length then cU key (i:Int) (nx q) s else rP key nx B n (i+1) (cU key (i:Int) (nx q) s):=rfl
  cases hq:s.1[i]? with
  |none=>
   rw [hq] at hd
   simp only at hd
   rw [hd]
   have hl:s.1.length<=i:=by simpa using hq
   refine ⟨fun j q hj hjq=>?_,fun e=>⟨.inl,?_⟩⟩
   ·have:=(List.getElem?_eq_some_iff.1 hjq).1;omega
   ·rintro (he|⟨j,q,hj,hjq,_⟩)
    ·exact he
    ·have:=(List.getElem?_eq_some_iff.1 hjq).1;omega
  |some q=>
   rw [hq] at hd
   simp only at hd
   by_cases hb:B < (cU key (i:Int) (nx q) s).1.length
   ·rw [if_pos hb] at hd
    rw [hd] at h1
    omega
   ·rw [if_neg hb] at hd
    rw [hd] at h1 h2 ⊢
    have hil:i < s.1.length:=(List.getElem?_eq_some_iff.1 hq).1
    have hpre:=(uR (key:=key) (i:Int) (nx q) s).1
    obtain ⟨g1,g2⟩:=aCf nx B n (i+1) (cU key (i:Int) (nx q) s) h1 (by omega) (by have:=hpre.length_le;omega)
    have hpre2:=(aCt (key:=key) nx B n (i+1) (cU key (i:Int) (nx q) s)).1
    obtain ⟨a1,a2⟩:=aNH (key:=key) (i:Int) (nx q) s
    have hat:∀ {r},(rP key nx B n (i+1) (cU key (i:Int) (nx q) s)).1[i]?=some r->r=q:=fun {r} hr=>by
     obtain ⟨C,hC⟩:=hpre.trans hpre2
     rw [←hC,List.getElem?_append_left hil,hq] at hr
     exact (Option.some.inj hr).symm
    have hi':(rP key nx B n (i+1) (cU key (i:Int) (nx q) s)).1[i]?=some q:=by
     obtain ⟨C,hC⟩:=hpre.trans hpre2
     rw [←hC,List.getElem?_append_left hil,hq]
    refine ⟨fun j r hj hjr x hx=>?_,fun e=>?_⟩
    ·rcases Nat.eq_or_lt_of_le hj with rfl|hj'
     ·have:=hat hjr
      subst this
      exact key_sub hpre2 (a1 x hx)
     ·exact g1 j r hj' hjr x hx
    ·rw [g2,a2]
     constructor
     ·rintro ((he|⟨x,hx,rfl⟩)|⟨j,r,hj,hjr,x,hx,rfl⟩)
      ·exact .inl he
      ·exact .inr ⟨i,q,Nat.le_refl _,hi',x,hx,by rw [aIO (aMk hpre2) (a1 x hx)]⟩
      ·exact .inr ⟨j,r,by omega,hjr,x,hx,rfl⟩
     ·rintro (he|⟨j,r,hj,hjr,x,hx,rfl⟩)
      ·exact .inl (.inl he)
      ·rcases Nat.eq_or_lt_of_le hj with rfl|hj'
       ·have:=hat hjr
        subst this
        exact .inl (.inr ⟨x,hx,by rw [aIO (aMk hpre2) (a1 x hx)]⟩)
       ·exact .inr ⟨j,r,hj',hjr,x,hx,rfl⟩
end
end Gv
namespace Gv
open Go
section
variable {a b:aS} {B:Int->Int->Bool} {F:(Int->Int->Bool)->Int->Int->Bool}
structure MonoT (a b:aS) (F:(Int->Int->Bool)->Int->Int->Bool):Prop where
 mono:∀ S T:Int->Int->Bool,(∀ x y,inT a x->inT b y->S x y=true->T x y=true)->∀ x y,inT a x->inT b y->F S x y=true->F T x y=true
end
end Gv
namespace Gv
open Go
end Gv
namespace Gv
open Go
def AftT (t:aS) (S:List Int) (s:aJ) (q:Int):Prop:=∃ e∈t.E,txt t e=s/\e.F∈S/\e.To=q
section
variable {t:aS}
theorem AftT.inn (hv:aO t) {S:List Int} {s:aJ} {q:Int} (h:AftT t S s q):0<=q/\q < t.N:=by
 obtain ⟨e,he,_,_,rfl⟩:=h
 exact (tA hv he).2.1
theorem aSv (hv:aO t) {S:List Int} (hS:S.length < 1000000000) (s:aJ):∃ R,kO t S s=some R/\yM R (AftT t S s):=by
 have h300:=hv.2.2.2.1
 have hl:((t.E.filter fun e=>txt t e == s&&S.any fun x=>e.F == x).map (·.To)).length<=300:=by
  rw [List.length_map];exact Nat.le_trans (List.length_filter_le _ _) h300
 refine ⟨jQ (srt iLt ((t.E.filter fun e=>txt t e == s&&S.any fun x=>e.F == x).map (·.To))),?_,aOy.iff fun q=>?_⟩
 ·unfold kO
  rw [aAU (step:=fun x:List Int × Int=>gG t S s x.1 x.2) t.E (fun e=>txt t e == s&&S.any fun x=>e.F == x) (·.To) id (fun j out x hj ho hx=>?_) (fun out=>by simp only [gG,bJ];rfl),aA]
  ·unfold pM
   simp only [id]
   rw [aHc (by omega),aA,aLK _ (by unfold srt;rw [List.length_mergeSort];omega),aA]
  ·obtain ⟨hj',rfl⟩:=aBO hx
   simp only [gG,bF hj,if_pos,hx,aA,xH (mY hv (List.getElem_mem hj')),aDM S _ (show S.length < 4611686018427387904 by omega),pN,nD,aV hj (show t.E.length < 4611686018427387904 by omega)]
   rw [cF (by simp [jL];omega),aA]
   cases txt t t.E[j] == s<;>cases (S.any fun x=>t.E[j].F == x)<;>rfl
 ·rw [List.mem_map]
  constructor
  ·rintro ⟨e,he,rfl⟩
   rw [List.mem_filter,Bool.and_eq_true,List.any_eq_true] at he
   obtain ⟨h1,h2,x,hx,h3⟩:=he
   rw [beq_iff_eq] at h2 h3
   exact ⟨e,h1,h2,h3 ▸ hx,rfl⟩
  ·rintro ⟨e,h1,h2,h3,rfl⟩
   refine ⟨e,?_,rfl⟩
   rw [List.mem_filter,Bool.and_eq_true,List.any_eq_true,beq_iff_eq]
   exact ⟨h1,h2,_,h3,by simp⟩
theorem aRa (hv:aO t) {S:List Int} (hS:S.length < 1000000000) (s:aJ):∃ R,iJ t S s=some R/\yM R (Cl t (AftT t S s)):=by
 obtain ⟨R1,f1,f2⟩:=aSv hv hS s
 have hn:R1.Nodup:=f2.ord.imp fun h=>by omega
 obtain ⟨R,g1,g2⟩:=aHd hv hn fun q hq=>((f2.mem q).1 hq).inn hv
 exact ⟨R,by unfold iJ;rw [f1,aA,g1];rfl,g2.iff (Cl.iff f2.mem)⟩
def Wk (t:aS) (y:Int) (s:aJ) (w:Int):Prop:=if s=bQ then Cl t (·∈[y]) w else Cl t (fun q=>∃ e∈t.E,txt t e=s/\Cl t (·∈[y]) e.F/\e.To=q) w
theorem Wk.inn (hv:aO t) {y:Int} (hy:inT t y) {s:aJ} {w:Int} (h:Wk t y s w):inT t w:=by
 unfold inT at hy ⊢
 unfold Wk at h
 split at h
 ·exact h.inn hv fun q hq=>by simp at hq;omega
 ·exact h.inn hv fun q hq=>by
   obtain ⟨e,he,_,_,rfl⟩:=hq
   exact (tA hv he).2.1
end
end Gv
namespace Gv
open Go
section
variable {t:aS}
theorem aEQ (S:List Int) {x:Int × List Int}:∀ (n k:Nat),x∈aAX t S n k<->∃ j:Nat,k<=j/\j < k+n/\vS t S (j:Int)≠[]/\x=((j:Int),vS t S (j:Int))
 |0,k=>by
  simp only [aAX,List.not_mem_nil,false_iff]
  rintro ⟨j,h1,h2,_⟩
  omega
 |n+1,k=>by
  unfold aAX
  have ih:=aEQ S (x:=x) n (k+1)
  split
  ·rename_i h0
   rw [ih]
   constructor
   ·rintro ⟨j,h1,h2,h3⟩;exact ⟨j,by omega,by omega,h3⟩
   ·rintro ⟨j,h1,h2,h3,h4⟩
    refine ⟨j,?_,by omega,h3,h4⟩
    rcases Nat.eq_or_lt_of_le h1 with rfl|h
    ·exact absurd h0 h3
    ·omega
  ·rename_i h0
   rw [List.mem_cons,ih]
   constructor
   ·rintro (rfl|⟨j,h1,h2,h3⟩)
    ·exact ⟨k,Nat.le_refl _,by omega,h0,rfl⟩
    ·exact ⟨j,by omega,by omega,h3⟩
   ·rintro ⟨j,h1,h2,h3,h4⟩
    rcases Nat.eq_or_lt_of_le h1 with rfl|h
    ·exact .inl h4
    ·exact .inr ⟨j,by omega,by omega,h3,h4⟩
noncomputable def aER (t:aS) (S:List Int) (s:aJ):List Int:=(iJ t S s).getD []
noncomputable def aft (t:aS) (tr:List aJ):List Int:=tr.foldl (aER t) (lU t)
theorem aES (tr:List aJ) (s:aJ):aft t (tr++[s])=aER t (aft t tr) s:=by unfold aft;rw [List.foldl_append];rfl
theorem aKB (hv:aO t) {S:List Int} (hS:iS t S) (s:aJ):iJ t S s=some (aER t S s)/\iS t (aER t S s)/\yM (aER t S s) (Cl t (AftT t S s)):=by
 obtain ⟨R,h1,h2⟩:=aRa hv (S:=S) (Nat.lt_of_le_of_lt hS.len (by decide)) s
 have:aER t S s=R:=by unfold aER;rw [h1];rfl
 rw [this]
 exact ⟨h1,iS.of hv h2 fun q hq=>hq.inn hv fun x hx=>hx.inn hv,h2⟩
theorem aKC (hv:aO t) {S:List Int} (hS:iS t S) {k:Nat} (hk:k < t.L.length):aER t S t.L[k]=vS t S (k:Int):=by
 obtain ⟨R,h1,h2,_⟩:=aIl hv (S:=S) (Nat.lt_of_le_of_lt hS.len (by decide)) hk
 unfold aER vS
 rw [h1,h2]
theorem aOJ (hv:aO t) {S:List Int} (hS:iS t S) {s:aJ} (hs:s∉t.L):aER t S s=[]:=by
 obtain ⟨_,_,h⟩:=aKB hv hS s
 refine List.eq_nil_iff_forall_not_mem.2 fun q hq=>?_
 have hc:=(h.mem q).1 hq
 clear hq
 induction hc with
 |base hx=>
  obtain ⟨e,he,ht,_⟩:=hx
  have hb:=tA hv he
  refine hs (ht ▸ ?_)
  unfold txt
  rw [List.getD_eq_getElem?_getD,List.getElem?_eq_getElem (show e.B.toNat < t.L.length by omega)]
  exact List.getElem_mem _
 |step _ _ _ ih=>exact ih
theorem aRb (hv:aO t) (s:aJ):aER t [] s=[]:=by
 obtain ⟨_,_,h⟩:=aKB hv (S:=[]) ⟨by simp,by simp⟩ s
 refine List.eq_nil_iff_forall_not_mem.2 fun q hq=>?_
 have hc:=(h.mem q).1 hq
 clear hq
 induction hc with
 |base hx=>
  obtain ⟨e,he,ht,hf,_⟩:=hx
  simp at hf
 |step _ _ _ ih=>exact ih
theorem aNI (hv:aO t):∀ tr:List aJ,iS t (aft t tr):=fun tr=>by
 unfold aft
 have:∀ (tr:List aJ) (S:List Int),iS t S->iS t (tr.foldl (aER t) S):=by
  intro tr
  induction tr with
  |nil=>intro S h;exact h
  |cons s tr ih=>intro S h;exact ih _ (aKB hv h s).2.1
 exact this tr _ (aDN hv).2.2
theorem fstS_ne (hv:aO t):lU t≠[]:=by
 obtain ⟨R,_,h2,h3⟩:=aOA hv
 have:lU t=R:=by unfold lU;rw [h2];rfl
 rw [this]
 intro e
 have:=(h3.mem t.I).2 (Cl.base rfl)
 rw [e] at this
 simp at this
noncomputable def aKD (t:aS):aS:=⟨((fI t).1.length:Int),0,t.L,(fI t).2⟩
theorem aNJ (hv:aO t) (hs:(fI t).1.length<=40):∀ e,e∈(fI t).2<->∃ (j:Nat) (S:List Int),(fI t).1[j]?=some S/\∃ k:Nat,1<=k/\k < t.L.length/\vS t S (k:Int)≠[]/\vS t S (k:Int)∈(fI t).1/\e=⟨(j:Int),(k:Int),pos (fI t).1 (vS t S (k:Int))⟩:=by
 have hl:=hv.2.2.1.1
 obtain ⟨g1,g2⟩:=aCf (key:=id) (iL t) 40 41 0 ([lU t],[]) hs (by have:=hs;unfold fI at this;omega) (Nat.zero_le _)
 intro e
 have h2:=g2 e
 rw [show rP id (iL t) 40 41 0 ([lU t],[])=fI t from rfl] at g1 h2
 simp only [List.map_id,id] at g1 h2
 rw [h2]
 constructor
 ·rintro (h|⟨j,S,_,hj,x,hx,rfl⟩)
  ·simp at h
  ·have hin:=g1 j S (Nat.zero_le _) hj x hx
   unfold iL at hx
   obtain ⟨k,h3,h4,h5,rfl⟩:=(aEQ S _ _).1 hx
   exact ⟨j,S,hj,k,h3,by omega,h5,hin,rfl⟩
 ·rintro ⟨j,S,hj,k,h3,h4,h5,h6,rfl⟩
  refine .inr ⟨j,S,Nat.zero_le _,hj,((k:Int),vS t S (k:Int)),?_,rfl⟩
  unfold iL
  exact (aEQ S _ _).2 ⟨k,h3,by omega,h5,rfl⟩
theorem dfin_next (hv:aO t) (hs:(fI t).1.length<=40) {j:Nat} {S:List Int} (hj:(fI t).1[j]?=some S) {k:Nat} (h1:1<=k) (h2:k < t.L.length) (h3:vS t S (k:Int)≠[]):vS t S (k:Int)∈(fI t).1:=by
 obtain ⟨g1,_⟩:=aCf (key:=id) (iL t) 40 41 0 ([lU t],[]) hs (by have:=hs;unfold fI at this;omega) (Nat.zero_le _)
 rw [show rP id (iL t) 40 41 0 ([lU t],[])=fI t from rfl] at g1
 simp only [List.map_id,id] at g1
 refine g1 j S (Nat.zero_le _) hj ((k:Int),vS t S (k:Int)) ?_
 unfold iL
 exact (aEQ S _ _).2 ⟨k,h1,by omega,h3,rfl⟩
theorem dfin_good (hv:aO t) {j:Nat} {S:List Int} (hj:(fI t).1[j]?=some S):iS t S:=(aKz hv).2.1 S (List.mem_of_getElem? hj)
theorem dfin_zero (hv:aO t) (hs:Small (fI t)):(fI t).1[0]?=some (lU t):=by
 obtain ⟨C,hC⟩:=(aCt (key:=id) (iL t) 40 41 0 ([lU t],[])).1
 rw [show rP id (iL t) 40 41 0 ([lU t],[])=fI t from rfl] at hC
 rw [←hC]
 rfl
theorem aET {γ:Type} {p:List γ->Prop} (nil:p []) (snoc:∀ l x,p l->p (l++[x])):∀ l,p l:=by
 have:∀ l:List γ,p l.reverse:=by
  intro l
  induction l with
  |nil=>exact nil
  |cons x l ih=>rw [List.reverse_cons];exact snoc _ _ ih
 intro l
 have:=this l.reverse
 rwa [List.reverse_reverse] at this
theorem det_go (hv:aO t) (hs:Small (fI t)) {k:Nat} {S:List Int} (hk:(fI t).1[k]?=some S) {s:aJ} (hs':s≠bQ):
  (aER t S s=[]/\iR (aKD t) (k:Int) s=-1)\/∃ j:Nat,(fI t).1[j]?=some (aER t S s)/\aER t S s≠[]/\iR (aKD t) (k:Int) s=(j:Int):=by
 have hg:=dfin_good hv hk
 have hnd:(fI t).1.Nodup:=by have:=(aKz hv).1;rwa [List.map_id] at this
 unfold iR
 cases hf:(aKD t).E.find? (hit (aKD t) (k:Int) s) with
 |some e=>
  right
  have he:=List.mem_of_find?_eq_some hf
  have hh:=List.find?_some hf
  obtain ⟨j,S',hj,n,h1,h2,h3,h4,rfl⟩:=(aNJ hv hs.1 e).1 he
  unfold hit at hh
  rw [Bool.and_eq_true,beq_iff_eq,beq_iff_eq] at hh
  obtain ⟨e1,e2⟩:=hh
  have e1:(j:Int)=(k:Int):=e1
  obtain rfl:j=k:=by omega
  rw [hk] at hj
  cases hj
  have e2:t.L.getD n []=s:=e2
  rw [List.getD_eq_getElem?_getD,List.getElem?_eq_getElem h2] at e2
  have e2:t.L[n]=s:=e2
  rw [←e2,aKC hv hg h2]
  obtain ⟨i,hi,hp,hq⟩:=kZ h4
  exact ⟨i,by rw [List.getElem?_eq_getElem hi,hq],h3,hp⟩
 |none=>
  left
  refine ⟨?_,rfl⟩
  by_cases hm:s∈t.L
  ·obtain ⟨n,hn,rfl⟩:=List.mem_iff_getElem.1 hm
   rw [aKC hv hg hn]
   have h1:1<=n:=by
    rcases Nat.eq_zero_or_pos n with rfl|h
    ·exact absurd (hv.2.2.1.2.2.1 hn) hs'
    ·exact h
   by_cases h0:vS t S (n:Int)=[]
   ·exact h0
   ·exfalso
    have:=List.find?_eq_none.1 hf ⟨(k:Int),(n:Int),pos (fI t).1 (vS t S (n:Int))⟩ ((aNJ hv hs.1 _).2 ⟨k,S,hk,n,h1,hn,h0,dfin_next hv hs.1 hk h1 hn h0,rfl⟩)
    refine this ?_
    unfold hit
    rw [Bool.and_eq_true,beq_iff_eq,beq_iff_eq]
    refine ⟨rfl,?_⟩
    show t.L.getD n []=t.L[n]
    rw [List.getD_eq_getElem?_getD,List.getElem?_eq_getElem hn];rfl
  ·exact aOJ hv hg hm
def kH (d:aS) (tr:List aJ):Int:=tr.foldl (iR d) 0
theorem tB (d:aS) (tr:List aJ) (s:aJ):kH d (tr++[s])=iR d (kH d tr) s:=by unfold kH;rw [List.foldl_append];rfl
theorem run_det (hv:aO t) (hs:Small (fI t)) {tr:List aJ} (ht:∀ s∈tr,s≠bQ):(aft t tr=[]/\kH (aKD t) tr=-1)\/∃ j:Nat,(fI t).1[j]?=some (aft t tr)/\aft t tr≠[]/\kH (aKD t) tr=(j:Int):=by
 induction tr using aET with
 |nil=>exact .inr ⟨0,dfin_zero hv hs,fstS_ne hv,rfl⟩
 |snoc tr s ih=>
  have hs':s≠bQ:=ht s (by simp)
  rw [aES,tB]
  rcases ih fun x hx=>ht x (by simp [hx]) with ⟨h1,h2⟩|⟨j,h1,h2,h3⟩
  ·left
   rw [h1,h2]
   exact ⟨aRb hv s,aGZ (aPM hv hs).1 (by decide) s⟩
  ·rw [h3]
   exact det_go hv hs h1 hs'
theorem run_neg (hv:aO t) (hs:Small (fI t)) {tr:List aJ} (ht:∀ s∈tr,s≠bQ):kH (aKD t) tr < 0<->aft t tr=[]:=by
 rcases run_det hv hs ht with ⟨h1,h2⟩|⟨j,h1,h2,h3⟩
 ·simp [h1,h2]
 ·rw [h3];constructor
  ·intro h;omega
  ·intro h;exact absurd h h2
end
end Gv
namespace Gv
open Go
section
variable (a b:aS) (M:List aJ)
def xJ (e:aN):List aN:=M.map fun s=>⟨iR a e.a s,iR b e.b s,e.trace++[s]⟩
def bN (p q:Int):Prop:=p < 0/\q < 0
instance (p q:Int):Decidable (bN p q):=inferInstanceAs (Decidable (_/\_))
structure Stp (fd:Int->Int->Bool) (step:List ((Int × Int) × Bool) × List aN->Option ((List ((Int × Int) × Bool) × List aN) ⊕ (Unit ⊕ (List aJ × Bool)))):Prop where
 nil:∀ l,step (mtt l,[])=some (.inr (.inl ()))
 skip:∀ l e r,r.length<=1000000->e.trace.length<=1000000->bN e.a e.b\/(e.a,e.b)∈l->step (mtt l,e::r)=some (.inl (mtt l,r))
 hit:∀ l e r,r.length<=1000000->e.trace.length<=1000000->¬ bN e.a e.b->(e.a,e.b)∉l->fd e.a e.b=true->(-1<=e.a/\e.a < a.N)/\(-1<=e.b/\e.b < b.N)->step (mtt l,e::r)=some (.inr (.inr (e.trace,true)))
 more:∀ l e r,r.length<=1000000->e.trace.length<=1000000->¬ bN e.a e.b->(e.a,e.b)∉l->fd e.a e.b=false->(-1<=e.a/\e.a < a.N)/\(-1<=e.b/\e.b < b.N)->step (mtt l,e::r)=some (.inl (mtt (l++[(e.a,e.b)]),r++xJ a b M e))
def OvM (tr:List aJ):Prop:=∀ s∈tr,s∈M
def FtRes (fd:Int->Int->Bool) (r:Unit ⊕ (List aJ × Bool)):Prop:=
 match r with
 |.inl _=>∀ tr,OvM M tr->bN (kH a tr) (kH b tr)\/fd (kH a tr) (kH b tr)=false
 |.inr (tr,v)=>v=true/\tr.length<=2000/\OvM M tr/\¬ bN (kH a tr) (kH b tr)/\fd (kH a tr) (kH b tr)=true/\∀ tr' s,tr=tr'++[s]->¬ bN (kH a tr') (kH b tr')/\fd (kH a tr') (kH b tr')=false
structure FtI (fd:Int->Int->Bool) (l:List (Int × Int)) (todo:List aN):Prop where
 nd:l.Nodup
 rng:∀ p∈l,(-1<=p.1/\p.1<=39)/\-1<=p.2/\p.2<=39
 ok:∀ p∈l,¬ bN p.1 p.2/\fd p.1 p.2=false
 ent:∀ e∈todo,OvM M e.trace/\e.a=kH a e.trace/\e.b=kH b e.trace/\e.trace.length<=l.length/\∀ tr' s,e.trace=tr'++[s]->¬ bN (kH a tr') (kH b tr')/\fd (kH a tr') (kH b tr')=false
 cls:∀ p∈l,∀ s∈M,bN (iR a p.1 s) (iR b p.2 s)\/(iR a p.1 s,iR b p.2 s)∈l\/∃ e∈todo,e.a=iR a p.1 s/\e.b=iR b p.2 s
 ini:(0,0)∈l\/∃ e∈todo,e.a=0/\e.b=0
 len:todo.length<=1+30 * l.length
end
section
variable {a b:aS} {M:List aJ} {fd:Int->Int->Bool}
theorem FtI.small {l:List (Int × Int)} {todo:List aN} (h:FtI a b M fd l todo):l.length<=1681:=by
 have:=List.Nodup.length_le_of_subset (l₂:=(List.range 1681).map fun (i:Nat)=>(((i / 41:Nat):Int) - 1,((i % 41:Nat):Int) - 1)) h.nd (fun q hq=>by
  have hr:=h.rng q hq
  rw [List.mem_map]
  refine ⟨(q.1+1).toNat * 41+(q.2+1).toNat,by rw [List.mem_range];omega,?_⟩
  have e1:((q.1+1).toNat * 41+(q.2+1).toNat) / 41=(q.1+1).toNat:=by omega
  have e2:((q.1+1).toNat * 41+(q.2+1).toNat) % 41=(q.2+1).toNat:=by omega
  rw [e1,e2]
  refine Prod.ext ?_ ?_<;>simp only<;>omega)
 rw [List.length_map,List.length_range] at this
 exact this
theorem aRc {d:aS} (hd:aO d) (h0:d.N<=40) (tr:List aJ):-1<=kH d tr/\kH d tr<=39:=by
 induction tr using aET with
 |nil=>exact ⟨by show (-1:Int)<=0;decide,by show (0:Int)<=39;decide⟩
 |snoc tr s _=>rw [tB];have:=xI hd (kH d tr) s;omega
theorem runD_st {d:aS} (hd:aO d) (tr:List aJ):-1<=kH d tr/\kH d tr < d.N:=by
 have:=hd.1
 induction tr using aET with
 |nil=>exact ⟨by show (-1:Int)<=0;decide,by show (0:Int) < _;omega⟩
 |snoc tr s _=>rw [tB];have:=xI hd (kH d tr) s;omega
theorem aRd {d:aS} (hd:aO d) {tr:List aJ} (h:kH d tr < 0) (s:aJ):kH d (tr++[s]) < 0:=by
 rw [tB,aGZ hd h];decide
theorem aSw {step:_} (h:Stp a b M fd step) (ha:aO a) (hb:aO b) (hM:M.length<=30):∃ r,loop step (mtt [],[⟨0,0,[]⟩])=some r/\FtRes a b M fd r:=by
 have a40:=ha.1
 have b40:=hb.1
 refine oN (fun s=>∃ l todo,s=(mtt l,todo)/\FtI a b M fd l todo) (fun s=>31 * (1681 - s.1.length)+s.2.length) (FtRes a b M fd) (fun s hs=>?_) ⟨[],[⟨0,0,[]⟩],rfl,⟨by simp,by simp,by simp,?_,by simp,.inr ⟨_,List.mem_singleton.2 rfl,rfl,rfl⟩,by simp⟩⟩
 ·obtain ⟨l,todo,rfl,hI⟩:=hs
  have hl:=hI.small
  cases todo with
  |nil=>
   right
   refine ⟨_,h.nil l,fun tr htr=>?_⟩
   have:bN (kH a tr) (kH b tr)\/(kH a tr,kH b tr)∈l:=by
    induction tr using aET with
    |nil=>
     rcases hI.ini with h0|⟨e,he,_⟩
     ·exact .inr h0
     ·simp at he
    |snoc tr s ih=>
     rcases ih (fun x hx=>htr x (by simp [hx])) with h1|h1
     ·exact .inl ⟨aRd ha h1.1 s,aRd hb h1.2 s⟩
     ·rw [tB,tB]
      rcases hI.cls _ h1 s (htr s (by simp)) with h2|h2|⟨e,he,_⟩
      ·exact .inl h2
      ·exact .inr h2
      ·simp at he
   rcases this with h1|h1
   ·exact .inl h1
   ·exact .inr (hI.ok _ h1).2
  |cons e r=>
   have hlen:=hI.len
   simp only [List.length_cons] at hlen
   obtain ⟨e1,e2,e3,e4,e5⟩:=hI.ent e List.mem_cons_self
   have hr:r.length<=1000000:=by omega
   have ht:e.trace.length<=1000000:=by omega
   by_cases hsk:bN e.a e.b\/(e.a,e.b)∈l
   ·left
    refine ⟨(mtt l,r),h.skip l e r hr ht hsk,⟨l,r,rfl,hI.nd,hI.rng,hI.ok,fun x hx=>hI.ent x (List.mem_cons_of_mem _ hx),fun p hp s hs=>?_,?_,by omega⟩,by simp only [List.length_cons];omega⟩
    ·rcases hI.cls p hp s hs with g|g|⟨x,hx,g1,g2⟩
     ·exact .inl g
     ·exact .inr (.inl g)
     ·rcases List.mem_cons.1 hx with rfl|hx
      ·rw [g1,g2] at hsk
       rcases hsk with g|g
       ·exact .inl g
       ·exact .inr (.inl g)
      ·exact .inr (.inr ⟨x,hx,g1,g2⟩)
    ·rcases hI.ini with g|⟨x,hx,g1,g2⟩
     ·exact .inl g
     ·rcases List.mem_cons.1 hx with rfl|hx
      ·rw [g1,g2] at hsk
       rcases hsk with g|g
       ·exact absurd g.1 (by decide)
       ·exact .inl g
      ·exact .inr ⟨x,hx,g1,g2⟩
   ·have hn:¬ bN e.a e.b:=fun g=>hsk (.inl g)
    have hnl:(e.a,e.b)∉l:=fun g=>hsk (.inr g)
    have hin:(-1<=e.a/\e.a < a.N)/\(-1<=e.b/\e.b < b.N):=by rw [e2,e3];exact ⟨runD_st ha _,runD_st hb _⟩
    cases hfd:fd e.a e.b with
    |true=>
     right
     refine ⟨_,h.hit l e r hr ht hn hnl hfd hin,rfl,by omega,e1,?_,?_,e5⟩
     ·rw [←e2,←e3];exact hn
     ·rw [←e2,←e3];exact hfd
    |false=>
     left
     have hra:=aRc ha (by omega) e.trace
     have hrb:=aRc hb (by omega) e.trace
     rw [←e2] at hra
     rw [←e3] at hrb
     have hnew:FtI a b M fd (l++[(e.a,e.b)]) (r++xJ a b M e):=by
      refine ⟨List.nodup_append.2 ⟨hI.nd,by simp,fun x hx y hy=>?_⟩,fun p hp=>?_,fun p hp=>?_,fun x hx=>?_,fun p hp s hs=>?_,?_,?_⟩
      ·rw [List.mem_singleton] at hy
       subst hy
       exact fun g=>hnl (g ▸ hx)
      ·rcases List.mem_append.1 hp with hp|hp
       ·exact hI.rng p hp
       ·rw [List.mem_singleton] at hp
        subst hp
        exact ⟨hra,hrb⟩
      ·rcases List.mem_append.1 hp with hp|hp
       ·exact hI.ok p hp
       ·rw [List.mem_singleton] at hp
        subst hp
        exact ⟨hn,hfd⟩
      ·rcases List.mem_append.1 hx with hx|hx
       ·obtain ⟨g1,g2,g3,g4,g5⟩:=hI.ent x (List.mem_cons_of_mem _ hx)
        exact ⟨g1,g2,g3,by rw [List.length_append];omega,g5⟩
       ·unfold xJ at hx
        obtain ⟨s,hs,rfl⟩:=List.mem_map.1 hx
        refine ⟨fun y hy=>?_,?_,?_,?_,fun tr' s' hx'=>?_⟩
        ·rcases List.mem_append.1 hy with hy|hy
         ·exact e1 y hy
         ·rw [List.mem_singleton] at hy
          exact hy ▸ hs
        ·show iR a e.a s=kH a (e.trace++[s])
         rw [tB,e2]
        ·show iR b e.b s=kH b (e.trace++[s])
         rw [tB,e3]
        ·show (e.trace++[s]).length<=_
         simp only [List.length_append,List.length_singleton];omega
        ·have hx':e.trace++[s]=tr'++[s']:=hx'
         obtain ⟨rfl,_⟩:=List.append_inj' hx' rfl
         rw [←e2,←e3]
         exact ⟨hn,hfd⟩
      ·rcases List.mem_append.1 hp with hp|hp
       ·rcases hI.cls p hp s hs with g|g|⟨x,hx,g1,g2⟩
        ·exact .inl g
        ·exact .inr (.inl (List.mem_append_left _ g))
        ·rcases List.mem_cons.1 hx with rfl|hx
         ·refine .inr (.inl (List.mem_append_right _ (List.mem_singleton.2 ?_)))
          rw [g1,g2]
         ·exact .inr (.inr ⟨x,List.mem_append_left _ hx,g1,g2⟩)
       ·rw [List.mem_singleton] at hp
        subst hp
        exact .inr (.inr ⟨⟨iR a e.a s,iR b e.b s,e.trace++[s]⟩,List.mem_append_right _ (List.mem_map.2 ⟨s,hs,rfl⟩),rfl,rfl⟩)
      ·rcases hI.ini with g|⟨x,hx,g1,g2⟩
       ·exact .inl (List.mem_append_left _ g)
       ·rcases List.mem_cons.1 hx with rfl|hx
        ·refine .inl (List.mem_append_right _ (List.mem_singleton.2 ?_))
         rw [g1,g2]
        ·exact .inr ⟨x,List.mem_append_left _ hx,g1,g2⟩
      ·unfold xJ
       simp only [List.length_append,List.length_map,List.length_singleton];omega
     have hl2:=hnew.small
     refine ⟨(mtt (l++[(e.a,e.b)]),r++xJ a b M e),h.more l e r hr ht hn hnl hfd hin,⟨_,_,rfl,hnew⟩,?_⟩
     simp only [mtt_len,List.length_append,List.length_singleton,List.length_cons] at hl2 ⊢
     unfold xJ
     rw [List.length_map]
     omega
 ·intro e he
  rw [List.mem_singleton] at he
  subst he
  exact ⟨fun s hs=>(by simp at hs),rfl,rfl,Nat.le_refl _,fun tr' s h=>by simp at h⟩
end
end Gv
namespace Gv
open Go
section
variable {a b:aS} {M:List aJ}
theorem aRe {γ:Type} (x:γ) (l:List γ):pQ (x::l) 1 ((x::l).length:Int)=some l:=by
 unfold pQ
 rw [if_pos ⟨by decide,by simp;omega,by simp⟩]
 simp
theorem aOK {l:List aJ} (h:l.length<=2000000):dM l=some l:=by
 unfold dM
 rw [cF (by simp [jL];omega),aA,List.nil_append]
theorem ft_push (ha:jK a) (hb:jK b) (hM:M.length<=30) {e:aN} {r:List aN} (hr:r.length<=1000000) (ht:e.trace.length<=1000000):
  loop (fun s:List aN × Int=>lF a b M e s.1 s.2) (r,0)=some (r++xJ a b M e):=by
 obtain ⟨x,h1,h2⟩:=eP (step:=fun s:List aN × Int=>lF a b M e s.1 s.2) M.length (fun k (q:List aN)=>(q,(k:Int))) (fun k q=>q=r++xJ a b (M.take k) e) (fun q=>q=r++xJ a b M e) (fun k q hk hI=>by
  subst hI
  refine ⟨r++xJ a b (M.take (k+1)) e,?_,rfl⟩
  show lF a b M e (r++xJ a b (M.take k) e) (k:Int)=_
  unfold lF aAo
  have hl:(xJ a b (M.take k) e).length=k:=by unfold xJ;rw [List.length_map,List.length_take];omega
  rw [if_pos (bF hk),bK hk,aA,aFA ha.1 ha.2,aA,aFA hb.1 hb.2,aA,aOK (by omega),aA,cF (by simp [jL];omega),aA,cF (by simp only [List.length_append,List.length_singleton,hl,jL];omega),aA,aV hk (by omega)]
  unfold xJ
  rw [List.take_succ_eq_append_getElem hk,List.map_append,List.map_singleton,List.append_assoc]) (fun q hI=>by
  subst hI
  refine ⟨r++xJ a b (M.take M.length) e,?_,by rw [List.take_length]⟩
  show lF a b M e (r++xJ a b (M.take M.length) e) (M.length:Int)=_
  unfold lF
  rw [if_neg (by simp)]) M.length 0 r (by omega) (by simp [xJ])
 subst h2
 exact h1
def ftOut:Unit ⊕ (List aJ × Bool)->List aJ × Bool
 |.inl _=>([],false)
 |.inr x=>x
theorem aSx (ha:aO a) (hb:aO b):∃ M,Jn a b M/\(ob (cQ [a.L,b.L]) fun r35=>ob (aEu 1 0 r35 []) fun r47=>pQ r47.L 1 (r47.L.length:Int))=some M:=by
 obtain ⟨M,_,hJ,_⟩:=jn_of ha hb
 have h1:=ha.2.2.1.2.1
 have h2:=hb.2.2.1.2.1
 refine ⟨M,hJ,?_⟩
 rw [aSp _ _ (by omega),aA,lts_gen (M:=M) (Eo:=[]) hJ.str hJ.mem (by rw [List.length_append];omega) (by simp) (by simp) (by unfold SE;simp) (by simp) (by have:=hJ.len;omega),aA]
 exact aRe bQ M
end
end Gv
namespace Gv
open Go
def VisL (s:aJ):Prop:=rD s=true/\s≠bQ/\s.length<=999999999
section
variable {t:aS}
theorem aRg (hv:aO t) (hf:bA 999999999 t) {s:aJ} (hs:s∈t.L.tail):VisL s:=by
 have hl:=hv.2.2.1
 obtain ⟨k,hk,rfl⟩:=List.mem_iff_getElem.1 hs
 rw [List.length_tail] at hk
 have h:=hl.2.2.2 (k+1) (by omega) (by omega)
 rw [List.getElem_tail]
 exact ⟨h.1,h.2.1,hf.2.1 _ (List.getElem_mem _)⟩
theorem after_eq (hv:aO t) {tr:List aJ} (hl:tr.length<=1000000000):aCK t tr=some (aft t tr):=by
 unfold aCK
 rw [(aDN hv).2.1,aA]
 obtain ⟨r,h1,h2⟩:=eP (step:=fun s:List Int × Int=>oU t tr s.1 s.2) tr.length (fun k (q:List Int)=>(q,(k:Int))) (fun k q=>q=aft t (tr.take k)) (fun q=>q=aft t tr) (fun k q hk hI=>by
  subst hI
  refine ⟨aft t (tr.take (k+1)),?_,rfl⟩
  show oU t tr (aft t (tr.take k)) (k:Int)=_
  unfold oU
  rw [if_pos (bF hk),bK hk,aA,(aKB hv (aNI hv _) _).1,aA,aV hk (by omega),List.take_succ_eq_append_getElem hk,aES]) (fun q hI=>by
  subst hI
  refine ⟨aft t (tr.take tr.length),?_,by rw [List.take_length]⟩
  show oU t tr (aft t (tr.take tr.length)) (tr.length:Int)=_
  unfold oU
  rw [if_neg (by simp)]) tr.length 0 (lU t) (by omega) rfl
 subst h2
 have h1':loop (fun s:List Int × Int=>oU t tr s.1 s.2) (lU t,0)=some (aft t tr):=h1
 rw [h1',aA];rfl
theorem aOd (hv:aO t) (hf:bA 999999999 t) {tr:List aJ} (hl:tr.length<=900000000) (ht:∀ s∈tr,VisL s):aDK t tr=some (if aft t tr=[] then ([],3) else (aft t tr,0)):=by
 unfold aDK
 rw [tL t hf,tY hv,aA,if_neg (by simp),aJm tr (by omega) (fun s hs=>by have:=(ht s hs).2.2;omega),aA]
 have:(tr.all fun s=>rD s&&!(s == bQ))=true:=by
  rw [List.all_eq_true]
  intro s hs
  have:=ht s hs
  rw [this.1,Bool.true_and,Bool.not_eq_true',beq_eq_false_iff_ne]
  exact this.2.1
 rw [this,if_neg (by simp),after_eq hv (by omega),aA]
 by_cases h:aft t tr=[]
 ·rw [if_pos (by simp [h]),if_pos h]
 ·rw [if_neg (by simp [h]),if_neg h]
theorem out_eqI {d:aS} (hd:aO d) (k:Int):pL d k=some (dG d k):=by
 have hal:=hd.2.2.2.1
 unfold pL
 rw [aAU (step:=fun s:List Edge × Int=>pZ d k s.1 s.2) d.E (fun e=>e.F == k) id id (fun j out x hk ho hx=>?_) (fun out=>by simp only [pZ,bJ];rfl),aA]
 ·simp [aDF,dG]
 ·simp only [pZ,bF hk,if_pos,hx,aA,xU,aV hk (show d.E.length < 4611686018427387904 by omega)]
  rw [cF (by simp [jL];omega),aA]
  cases x.F == k<;>rfl
theorem go_edgeD {d:aS} (hd:jK d) {e:Edge} (he:e∈d.E):iR d e.F (txt d e)=e.To:=by
 have h:=aPw hd.1 hd.2 e.F (txt d e)
 have hm:e∈d.E.filter (hit d e.F (txt d e)):=List.mem_filter.2 ⟨he,by unfold hit;simp⟩
 unfold iR
 rw [h] at hm
 cases hf:d.E.find? (hit d e.F (txt d e)) with
 |none=>rw [hf] at hm;simp at hm
 |some x=>
  rw [hf] at hm
  simp at hm
  rw [hm]
def kid (d:aS) (n:Nat) (e:aN):List aN:=if e.trace.length=n then [] else (dG d e.a).map fun x=>⟨x.To,0,e.trace++[txt d x]⟩
structure EntP (d:aS) (n:Nat) (e:aN):Prop where
 len:e.trace.length<=n
 lab:∀ s∈e.trace,s∈d.L.tail
 run:e.a=kH d e.trace
 pos:0<=e.a
theorem kid_ok {d:aS} (hd:jK d) {n:Nat} {e x:aN} (he:EntP d n e) (hx:x∈kid d n e):EntP d n x:=by
 unfold kid at hx
 split at hx
 ·simp at hx
 ·rename_i hn
  obtain ⟨y,hy,rfl⟩:=List.mem_map.1 hx
  unfold dG at hy
  obtain ⟨hy1,hy2⟩:=List.mem_filter.1 hy
  rw [beq_iff_eq] at hy2
  have hb:=tA hd.1 hy1
  obtain ⟨k,hk,hke⟩:=List.mem_iff_getElem.1 hy1
  have hs:=(hd.2 k hk).1
  rw [hke] at hs
  have hlen:=he.len
  refine ⟨by simp only [List.length_append,List.length_singleton];omega,fun s h=>?_,?_,hb.2.1.1⟩
  ·rcases List.mem_append.1 h with h|h
   ·exact he.lab s h
   ·rw [List.mem_singleton] at h
    subst h
    unfold txt
    have hlt:y.B.toNat < d.L.length:=by omega
    rw [List.getD_eq_getElem?_getD,List.getElem?_eq_getElem hlt]
    rw [List.mem_iff_getElem]
    refine ⟨y.B.toNat - 1,by rw [List.length_tail];omega,?_⟩
    rw [List.getElem_tail]
    show d.L[y.B.toNat - 1+1]=d.L[y.B.toNat]
    congr 1
    omega
  ·show y.To=kH d (e.trace++[txt d y])
   rw [tB,←he.run,←hy2,go_edgeD hd hy1]
theorem tr_push {d:aS} (hd:jK d) {c:Int} {n:Nat} (hn:n<=1000) {e:aN} (he:EntP d n e) {r:List aN} (hr:r.length<=1000000):
  loop (fun s:List aN × Int=>oC (d,c) e (dG d e.a) s.1 s.2) (r,0)=some (r++(dG d e.a).map fun x=>⟨x.To,0,e.trace++[txt d x]⟩):=by
 have h3:=hd.1.2.2.2.1
 have ol:(dG d e.a).length<=300:=Nat.le_trans (List.length_filter_le _ _) h3
 have hlen:=he.len
 obtain ⟨x,h1,h2⟩:=eP (step:=fun s:List aN × Int=>oC (d,c) e (dG d e.a) s.1 s.2) (dG d e.a).length (fun k (q:List aN)=>(q,(k:Int))) (fun k q=>q=r++((dG d e.a).take k).map fun x=>(⟨x.To,0,e.trace++[txt d x]⟩:aN)) (fun q=>q=r++(dG d e.a).map fun x=>(⟨x.To,0,e.trace++[txt d x]⟩:aN)) (fun k q hk hI=>by
  subst hI
  refine ⟨_,?_,rfl⟩
  show oC (d,c) e (dG d e.a) (r++((dG d e.a).take k).map fun x=>(⟨x.To,0,e.trace++[txt d x]⟩:aN)) (k:Int)=some (.inl (r++((dG d e.a).take (k+1)).map fun x=>(⟨x.To,0,e.trace++[txt d x]⟩:aN),((k+1:Nat):Int)))
  unfold oC aCr
  have hm:(dG d e.a)[k]∈d.E:=(List.mem_filter.1 (List.getElem_mem hk)).1
  have hl:(((dG d e.a).take k).map fun x=>(⟨x.To,0,e.trace++[txt d x]⟩:aN)).length=k:=by rw [List.length_map,List.length_take];omega
  rw [if_pos (bF hk),bK hk,aA]
  show (ob (ix d.L (dG d e.a)[k].B) fun e332=>_)=_
  rw [xH (mY hd.1 hm),aA,aOK (by omega),aA,cF (by simp [jL];omega),aA,cF (by simp only [List.length_append,List.length_singleton,hl,jL];omega),aA,aV hk (by omega),List.take_succ_eq_append_getElem hk,List.map_append,List.map_singleton,List.append_assoc]) (fun q hI=>by
  subst hI
  refine ⟨r++((dG d e.a).take (dG d e.a).length).map fun x=>⟨x.To,0,e.trace++[txt d x]⟩,?_,by rw [List.take_length]⟩
  show oC (d,c) e (dG d e.a) _ ((dG d e.a).length:Int)=some (.inr (r++((dG d e.a).take (dG d e.a).length).map fun x=>(⟨x.To,0,e.trace++[txt d x]⟩:aN)))
  unfold oC
  rw [if_neg (by simp)]) (dG d e.a).length 0 r (by omega) (by simp)
 subst h2
 exact h1
theorem tr_all {d:aS} (hd:jK d) (c:Int) {n:Nat} (hn:n<=1000):∃ all,loop (fun s:List aN × Int=>kK (n:Int) (d,c) s.1 s.2) ([⟨0,0,[]⟩],0)=some all/\1<=all.length/\all.length<=1000/\(∀ e∈all,EntP d n e)/\(all.length<=200->all=⟨0,0,[]⟩::all.flatMap (kid d n)):=by
 have h3:=hd.1.2.2.2.1
 refine oN (step:=fun s:List aN × Int=>kK (n:Int) (d,c) s.1 s.2) (fun s=>∃ i:Nat,s.2=(i:Int)/\i<=s.1.length/\1<=s.1.length/\s.1.length<=1000/\i<=201/\(∀ e∈s.1,EntP d n e)/\s.1=⟨0,0,[]⟩::(s.1.take i).flatMap (kid d n)) (fun s=>202 - s.2.toNat)
  (fun all=>1<=all.length/\all.length<=1000/\(∀ e∈all,EntP d n e)/\(all.length<=200->all=⟨0,0,[]⟩::all.flatMap (kid d n))) (fun s hI=>?_) ⟨0,rfl,by simp,by simp,by simp,by omega,fun e he=>?_,by simp⟩
 ·obtain ⟨all,p⟩:=s
  obtain ⟨i,rfl,i1,i2,i3,i4,i5,i6⟩:=hI
  simp only at i1 i2 i3 i5 i6 ⊢
  show (∃ s',kK (n:Int) (d,c) all (i:Int)=_/\_)\/_
  by_cases h1:i < all.length
  ·by_cases h2:all.length<=200
   ·left
    have he:=i5 _ (List.getElem_mem h1)
    have hj4:∀ all',vH (i:Int) all'=some (.inl (all',((i+1:Nat):Int))):=fun all'=>by unfold vH;rw [aV h1 (by omega)]
    have ol:(dG d all[i].a).length<=300:=Nat.le_trans (List.length_filter_le _ _) h3
    have hstep:kK (n:Int) (d,c) all (i:Int)=some (.inl (all++kid d n all[i],((i+1:Nat):Int))):=by
     unfold kK
     rw [if_pos (bF h1),decide_eq_true (p:=(all.length:Int)<=200) (by omega)]
     unfold rL
     rw [if_pos rfl,bK h1,aA]
     unfold kid
     by_cases hk:all[i].trace.length=n
     ·rw [if_pos (by simp [hk]),if_pos hk,List.append_nil,hj4]
     ·rw [if_neg (by simp;omega),if_neg hk]
      show (ob (pL d all[i].a) fun r223=>_)=_
      rw [out_eqI hd.1,aA,tr_push hd hn he (by omega),aA]
      exact hj4 _
    have hkl:(kid d n all[i]).length<=300:=by
     unfold kid
     split
     ·simp
     ·rw [List.length_map];exact ol
    refine ⟨_,hstep,⟨i+1,rfl,by simp only [List.length_append];omega,by simp only [List.length_append];omega,by simp only [List.length_append];omega,by omega,fun e hx=>?_,?_⟩,by simp only;omega⟩
    ·rcases List.mem_append.1 hx with hx|hx
     ·exact i5 e hx
     ·exact kid_ok hd he hx
    ·simp only
     rw [List.take_append_of_le_length (by omega),List.take_succ_eq_append_getElem h1,List.flatMap_append,List.flatMap_singleton,←List.cons_append,←i6]
   ·right
    refine ⟨all,?_,i2,i3,i5,fun h=>absurd h h2⟩
    unfold kK
    rw [if_pos (bF h1),decide_eq_false (p:=(all.length:Int)<=200) (by omega)]
    unfold rL
    rw [if_neg (by simp)]
  ·right
   refine ⟨all,?_,i2,i3,i5,fun _=>?_⟩
   ·unfold kK
    rw [if_neg (by simp;omega)]
    unfold rL
    rw [if_neg (by simp)]
   ·rw [List.take_of_length_le (by omega)] at i6
    exact i6
 ·rw [List.mem_singleton] at he
  subst he
  exact ⟨by simp,by simp,rfl,by simp⟩
theorem tr_names {all:List aN} (h:all.length<=1000):loop (fun s:List (List aJ) × Int=>oB all s.1 s.2) ([],0)=some (all.map (·.trace)):=by
 obtain ⟨x,h1,h2⟩:=eP (step:=fun s:List (List aJ) × Int=>oB all s.1 s.2) all.length (fun k (q:List (List aJ))=>(q,(k:Int))) (fun k q=>q=(all.take k).map (·.trace)) (fun q=>q=all.map (·.trace)) (fun k q hk hI=>by
  subst hI
  refine ⟨(all.take (k+1)).map (·.trace),?_,rfl⟩
  show oB all ((all.take k).map (·.trace)) (k:Int)=_
  unfold oB
  have hl:((all.take k).map (·.trace)).length=k:=by rw [List.length_map,List.length_take];omega
  rw [if_pos (bF hk),bK hk,aA,cF (by simp only [List.length_singleton,hl,jL];omega),aA,aV hk (by omega),List.take_succ_eq_append_getElem hk,List.map_append,List.map_singleton]) (fun q hI=>by
  subst hI
  refine ⟨(all.take all.length).map (·.trace),?_,by rw [List.take_length]⟩
  show oB all ((all.take all.length).map (·.trace)) (all.length:Int)=_
  unfold oB
  rw [if_neg (by simp)]) all.length 0 [] (by omega) rfl
 subst h2
 exact h1
theorem aKE (hv:aO t) (hf:bA 999999999 t) {n:Nat} (hn:n<=12):aFq t (n:Int)=some (if Small (fI t) then (aKD t,0) else (⟨0,0,[],[]⟩,5)):=by
 unfold aFq
 rw [tL t hf,tY hv,aA,if_neg (by simp)]
 unfold uD aFi
 rw [if_pos (by simp),decide_eq_true (p:=(n:Int)<=12) (by omega),aA,if_neg (by simp),aNA hv hf,aA]
 unfold detS aKD
 by_cases hs:Small (fI t)
 ·rw [if_pos hs,if_pos hs];rfl
 ·rw [if_neg hs,if_neg hs];rfl
theorem aRh (hv:aO t) (hf:bA 999999999 t) (hs:Small (fI t)) {n:Nat} (hn:n<=12):∃ all,1<=all.length/\(∀ e∈all,EntP (aKD t) n e)/\(all.length<=200->all=⟨0,0,[]⟩::all.flatMap (kid (aKD t) n))/\aAA t (n:Int)=some (if 200 < all.length then ([],5) else (all.map (·.trace),0)):=by
 obtain ⟨all,h1,h2,h3,h4,h5⟩:=tr_all (n:=n) (aPM hv hs) 0 (by omega)
 refine ⟨all,h2,h4,h5,?_⟩
 unfold aAA
 rw [aKE hv hf hn,if_pos hs,aA,if_neg (by simp)]
 have h1':loop (fun s:List aN × Int=>kK (n:Int) (aKD t,0) s.1 s.2) (([⟨0,0,[]⟩]:List aN),0)=some all:=h1
 rw [h1',aA]
 unfold aCq
 by_cases hl:200 < all.length
 ·rw [if_pos (by simp;omega),if_pos hl]
 ·rw [if_neg (by simp;omega),if_neg hl,tr_names h3,aA];rfl
end
end Gv
namespace Gv
open Go
section
variable {a b:aS}
def OvL (a b:aS) (tr:List aJ):Prop:=∀ s∈tr,s∈a.L++b.L/\s≠bQ
theorem OvL.symm {tr:List aJ} (h:OvL a b tr):OvL b a tr:=fun s hs=>⟨by
 have:=(h s hs).1
 rw [List.mem_append] at this ⊢
 exact this.symm,(h s hs).2⟩
theorem OvL.vis (ha:aO a) (hb:aO b) (fa:bA 999999999 a) (fb:bA 999999999 b) {tr:List aJ} (h:OvL a b tr):∀ s∈tr,VisL s:=fun s hs=>by
 obtain ⟨h1,h2⟩:=h s hs
 have key:∀ {t:aS},aO t->bA 999999999 t->s∈t.L->VisL s:=fun {t} hv hf h=>by
  obtain ⟨h0,e0⟩:=tau_at hv
  refine aRg hv hf ?_
  rw [(tail_cons hv).1] at h
  rcases List.mem_cons.1 h with h|h
  ·exact absurd h h2
  ·exact h
 rcases List.mem_append.1 h1 with h|h
 ·exact key ha fa h
 ·exact key hb fb h
theorem sets_flag (t:aS):(detS t).2.2=decide (Small (fI t)):=by
 unfold detS
 by_cases h:Small (fI t)
 ·rw [if_pos h,decide_eq_true h]
 ·rw [if_neg h,decide_eq_false h]
end
end Gv
namespace Gv
open Go
def StW (b:aS) (kind y:Int) (s:aJ) (w:Int):Prop:=if kind=2 then Wk b y s w else ∃ f∈b.E,f.F=y/\txt b f=s/\f.To=w
section
variable {a b:aS} {kind:Int}
theorem StW.inn (hb:aO b) {y:Int} (hy:inT b y) {s:aJ} {w:Int} (h:StW b kind y s w):inT b w:=by
 unfold StW at h
 split at h
 ·exact h.inn hb hy
 ·obtain ⟨f,hf,_,_,rfl⟩:=h
  exact (edge_T hb hf).2.1
end
end Gv
namespace Gv
open Go
section
variable {a b:aS} {kind:Int}
end
end Gv
namespace Gv
open Go
section
variable {a b:aS} {kind:Int}
end
end Gv
namespace Gv
open Go
section
variable {a b:aS} {kind:Int}
instance inT_dec (t:aS) (k:Int):Decidable (inT t k):=by unfold inT;infer_instance
end
end Gv
namespace Gv
open Go
section
variable {a b:aS} {kind:Int}
end
end Gv
namespace Gv
open Go
def unA (a b:aS) (M:List aJ):List Edge:=(a.E.map fun e=>(⟨e.F,pos (bQ::M) (txt a e),e.To⟩:Edge))++b.E.map fun e=>(⟨e.F+a.N,pos (bQ::M) (txt b e),e.To+a.N⟩:Edge)
structure Uni (a b:aS) (M:List aJ) (Eo:List Edge):Prop where
 str:nW M
 mem:∀ s,s∈M<->s∈a.L++b.L/\s≠bQ
 len:M.length<=24
 se:SE Eo
 ed:∀ x,x∈Eo<->x∈unA a b M
 elen:Eo.length<=600
section
variable {a b:aS}
end
end Gv
namespace Gv
open Go
structure Big (u:aS):Prop where
 st:1<=u.N/\u.N<=100
 lab:u.L.length<=100
 ed:u.E.length<=1000
 inn:∀ e∈u.E,inT u e.F/\inT u e.To/\0<=e.B/\e.B < u.L.length
section
variable {u:aS} {p:List Int}
end
end Gv
namespace Gv
open Go
section
variable {a b:aS}
theorem pos_rng {γ:Type} [BEq γ] [LawfulBEq γ] {xs:List γ} {x:γ} (hx:x∈xs):0<=pos xs x/\pos xs x < xs.length:=by
 obtain ⟨i,e,g⟩:=get_pos hx
 have:=(List.getElem?_eq_some_iff.1 g).1
 omega
end
end Gv
namespace Gv
open Go
theorem anU_le (x:Int):0<=anU x 255/\anU x 255<=255:=by
 unfold anU
 have h:(BitVec.ofInt 64 x&&& BitVec.ofInt 64 255).toNat<=255:=by
  rw [BitVec.toNat_and]
  exact Nat.le_trans Nat.and_le_right (by decide)
 unfold oM
 omega
theorem shU_ok (x:Int):∃ y,shU x 40=some y:=⟨_,by unfold shU;rw [if_pos (by decide)]⟩
theorem byte_le (b:UInt8):0<=(b.toNat:Int)/\(b.toNat:Int)<=255:=by
 have:=b.toNat_lt
 omega
theorem next_ok (c:aJ) {s1:Int} (s2:Int) (h:0<=s1/\s1<=1000000000000):∃ v s2',uZ c s1 s2=some (v,s1+1,s2')/\0<=v/\v<=255:=by
 have hw:wr (s1+1)=s1+1:=eB (by omega) (by omega)
 have key:∀ b:Int,0<=b/\b<=255->∃ v s2',sB c s1 s2 b=some (v,s1+1,s2')/\0<=v/\v<=255:=by
  intro b hb
  unfold sB
  rw [hw]
  split
  ·exact ⟨_,_,rfl,hb⟩
  ·obtain ⟨y,hy⟩:=shU_ok (oM ((oM ((oM (s2 * 6364136223846793005))+(oM b)))+1442695040888963407))
   rw [hy,aA]
   have h2:=anU_le y
   refine ⟨_,_,rfl,?_⟩
   rw [eB (by omega) (by omega)];exact h2
 unfold uZ
 split
 ·rename_i hlt
  have hlt':s1 < (c.length:Int):=by simpa using hlt
  rw [aFZ h.1 (by omega),aA]
  have hb:=byte_le (c[s1.toNat]'(by omega))
  rw [eB (by omega) (by omega)]
  exact key _ hb
 ·exact key 0 (by omega)
theorem rm_ok {x n:Int} (hx:0<=x) (hn:1<=n):∃ v,rm x n=some v/\0<=v/\v < n:=by
 unfold rm
 rw [if_neg (by omega)]
 have e:x.tmod n=x % n:=Int.tmod_eq_emod_of_nonneg hx
 have h1:=Int.emod_nonneg x (show n≠0 by omega)
 have h2:=Int.emod_lt_of_pos x (show 0 < n by omega)
 first
  |exact ⟨_,rfl,by rw [e];exact h1,by rw [e];exact h2⟩
  |exact ⟨_,rfl,by rw [e,eB]<;>omega,by rw [e,eB]<;>omega⟩
theorem lA (c:aJ) {s1 n:Int} (s2:Int) (h:0<=s1/\s1<=100000000000) (hn:1<=n):∃ v s1' s2',bH c s1 s2 n=some (v,s1',s2')/\(0<=v/\v < n)/\s1<=s1'/\s1'<=s1+2:=by
 unfold bH
 by_cases h1:n<=1
 ·rw [if_pos (by simpa using h1)]
  exact ⟨_,_,_,rfl,by omega,by omega,by omega⟩
 ·rw [if_neg (by simpa using h1)]
  obtain ⟨v,t2,e,g1,g2⟩:=next_ok c s2 (s1:=s1) (by omega)
  rw [e,aA]
  simp only
  have key:∀ x a b:Int,0<=x->s1<=a->a<=s1+2->∃ v s1' s2',sC n x a b=some (v,s1',s2')/\(0<=v/\v < n)/\s1<=s1'/\s1'<=s1+2:=by
   intro x a b hx ha hb
   unfold sC
   obtain ⟨y,hy,q1,q2⟩:=rm_ok hx (show 1<=n by omega)
   rw [hy,aA]
   exact ⟨_,_,_,rfl,⟨q1,q2⟩,ha,hb⟩
  by_cases h2:200 < n
  ·rw [if_pos (by simpa using h2)]
   obtain ⟨v',t2',e',g1',g2'⟩:=next_ok c t2 (s1:=s1+1) (by omega)
   rw [e',aA]
   simp only
   rw [eB (x:=v * 256) (by omega) (by omega),eB (by omega) (by omega)]
   exact key _ _ _ (by omega) (by omega) (by omega)
  ·rw [if_neg (by simpa using h2)]
   exact key _ _ _ g1 (by omega) (by omega)
theorem aIs (c:aJ) {s1 n:Int} (s2:Int) (h:0<=s1/\s1<=100000000000) (hn:1<=n):∃ b s1' s2',jG c s1 s2 n=some (b,s1',s2')/\s1<=s1'/\s1'<=s1+2:=by
 obtain ⟨v,a,b,e,_,h2,h3⟩:=lA c s2 h hn
 unfold jG
 rw [e,aA]
 exact ⟨_,_,_,rfl,h2,h3⟩
theorem aIt (c:aJ) {s1:Int} (s2:Int) (h:0<=s1/\s1<=100000000000) {l:List Int} (hl:l≠[]):∃ v s1' s2',gF c s1 s2 l=some (v,s1',s2')/\v∈l/\s1<=s1'/\s1'<=s1+2:=by
 have h1:1<=(l.length:Int):=by
  have:=List.length_pos_iff.2 hl
  omega
 obtain ⟨v,a,b,e,hv,h2,h3⟩:=lA c s2 h h1
 unfold gF
 rw [e,aA]
 simp only
 rw [aFZ hv.1 (by omega),aA]
 exact ⟨_,_,_,rfl,List.getElem_mem _,h2,h3⟩
end Gv
namespace Gv
open Go
def Nm:List aJ:=[bQ,[97],[98],[99],[103,101,116,40,48,41],[103,101,116,40,49,41]]
theorem Nm_lab:∀ s∈Nm,rD s=true:=by decide
theorem Nm_len:∀ s∈Nm,s.length<=6:=by decide
structure Drn (c:Nat) (t:aS):Prop where
 ok:aO t
 nm:∀ s∈t.L,s∈Nm
 st:t.N<=10
 ed:t.E.length<=c
theorem Drn.fits {c:Nat} {t:aS} (h:Drn c t):bA 999999999 t:=by
 have h1:=h.ok.2.2.1.2.1
 have h2:=h.ok.2.2.2.1
 refine ⟨by omega,fun s hs=>?_,by omega⟩
 have:=Nm_len s (h.nm s hs)
 omega
theorem Drn.mono {c d:Nat} {t:aS} (h:Drn c t) (hc:c<=d):Drn d t:=⟨h.ok,h.nm,h.st,Nat.le_trans h.ed hc⟩
theorem srtE_SE (l:List Edge):SE (jQ (srt bX l)):=by
 have h1:(srt bX l).Pairwise fun a b=>bX b a=false:=by
  have:=List.pairwise_mergeSort (le:=fun a b=>!bX b a) (fun a b c h1 h2=>?_) (fun a b=>?_) l
  ·refine this.imp fun {a b} h=>?_
   simpa using h
  ·simp only [Bool.not_eq_true'] at h1 h2 ⊢
   cases h3:bX c a with
   |false=>rfl
   |true=>
    have:=aOH h3 h1
    rw [h2] at this;cases this
  ·cases h3:bX b a with
   |false=>simp
   |true=>simp [aNi h3]
 exact aHa (R:=fun a b=>bX b a=false) (S:=fun a b=>bX a b=true) (fun h hne=>aOG h hne) (fun h h'=>aOH h h') h1
theorem aRi (l:List Edge):(jQ (srt bX l)).length<=l.length:=by
 have:=aOI (srt bX l)
 unfold srt at this ⊢
 rwa [List.length_mergeSort] at this
theorem aRj {l:List Edge} {x:Edge}:x∈jQ (srt bX l)<->x∈l:=by
 rw [aGt];unfold srt;rw [List.mem_mergeSort]
theorem labs_nm {M:List aJ} (hM:nW M) (hn:∀ s∈M,s∈Nm):vQ (bQ::M):=by
 have hnd:M.Nodup:=hM.1.imp fun {a b} h e=>by subst e;rw [rN] at h;cases h
 have hl:M.length<=5:=by
  have:=List.Nodup.length_le_of_subset (l₁:=bQ::M) (l₂:=Nm) (List.nodup_cons.2 ⟨hM.2,hnd⟩) (fun x hx=>by
   rcases List.mem_cons.1 hx with rfl|hx
   ·simp [Nm]
   ·exact hn x hx)
  have h6:Nm.length=6:=rfl
  rw [List.length_cons] at this
  omega
 refine ⟨by simp,by simp;omega,fun _=>rfl,fun k h1 hk=>?_⟩
 obtain ⟨k,rfl⟩:∃ j,k=j+1:=⟨k - 1,by omega⟩
 have hk':k < M.length:=by simpa using hk
 have hm:M[k]∈M:=List.getElem_mem hk'
 rw [List.getElem_cons_succ]
 refine ⟨Nm_lab _ (hn _ hm),fun e=>hM.2 (e ▸ hm),fun h2=>?_⟩
 obtain ⟨k,rfl⟩:∃ j,k=j+1:=⟨k - 1,by omega⟩
 have:=List.pairwise_iff_getElem.1 hM.1 k (k+1) (by omega) hk' (by omega)
 simpa using this
theorem aPN {T:List aJ} (hT:∀ s∈T,s∈Nm) (hTl:T.length<=100) {st ini:Int} (h1:1<=st/\st<=10) (h2:0<=ini/\ini < st) {edges:List Edge} (hl:edges.length<=300)
  (he:∀ e∈edges,(0<=e.F/\e.F < st)/\(0<=e.To/\e.To < st)/\0<=e.B/\e.B < T.length):∃ t,aAJ st ini T edges=some t/\Drn edges.length t/\t.N=st/\t.I=ini:=by
 obtain ⟨M,_,j2,j3,j4⟩:=aNB T (by omega)
 have hM:∀ s∈M,s∈Nm:=fun s hs=>hT s ((j3 s).1 hs).1
 refine ⟨⟨st,ini,bQ::M,jQ (srt bX (edges.map fun e=>(⟨e.F,pos (bQ::M) (T.getD e.B.toNat []),e.To⟩:Edge)))⟩,make_gen (by omega) j2 j3 (by omega) (fun e h=>(he e h).2.2) (srtE_SE _) (fun x=>?_) st ini,⟨⟨by show 1<=st/\st<=40;omega,by show 0<=ini/\ini<=st - 1;omega,labs_nm j2 hM,aNG ?_ (srtE_SE _) fun x hx=>?_⟩,fun s hs=>?_,by show st<=10;omega,?_⟩,rfl,rfl⟩
 ·rw [aRj,List.mem_map]
  exact ⟨fun ⟨e,h,g⟩=>⟨e,h,g.symm⟩,fun ⟨e,h,g⟩=>⟨e,h,g.symm⟩⟩
 ·have:=aRi (edges.map fun e=>(⟨e.F,pos (bQ::M) (T.getD e.B.toNat []),e.To⟩:Edge))
  rw [List.length_map] at this
  exact Nat.le_trans this hl
 ·obtain ⟨e,h,rfl⟩:=List.mem_map.1 (aRj.1 hx)
  obtain ⟨g1,g2,g3,g4⟩:=he e h
  have hin:T.getD e.B.toNat []∈bQ::M:=by
   have hmem:T.getD e.B.toNat []∈T:=by
    rw [List.getD_eq_getElem?_getD,List.getElem?_eq_getElem (by omega)]
    exact List.getElem_mem _
   by_cases ht:T.getD e.B.toNat []=bQ
   ·rw [ht];simp
   ·exact List.mem_cons_of_mem _ ((j3 _).2 ⟨hmem,ht⟩)
  have:=pos_rng hin
  show (0<=e.F/\e.F<=st - 1)/\(0<=e.To/\e.To<=st - 1)/\0<=pos (bQ::M) (T.getD e.B.toNat [])/\pos (bQ::M) (T.getD e.B.toNat [])<=((bQ::M).length:Int) - 1
  omega
 ·rcases List.mem_cons.1 hs with rfl|hs
  ·simp [Nm]
  ·exact hM s hs
 ·have:=aRi (edges.map fun e=>(⟨e.F,pos (bQ::M) (T.getD e.B.toNat []),e.To⟩:Edge))
  rw [List.length_map] at this
  exact this
theorem names_ok (c:aJ) {s1:Int} (s2:Int) (h:0<=s1/\s1<=10000000000):∃ L s1' s2',wN c s1 s2=some (L,s1',s2')/\((∀ s∈L,s∈Nm)/\1<=L.length/\L.length<=7)/\s1<=s1'/\s1'<=s1+10:=by
 have key:=eP (step:=fun s:Int × Int × List aJ × Int=>mT c s.1 s.2.1 s.2.2.1 s.2.2.2) 5 (fun k (a:Int × Int × List aJ)=>(a.1,a.2.1,a.2.2,(k:Int))) (fun k a=>(∀ s∈a.2.2,s∈Nm)/\1<=a.2.2.length/\a.2.2.length<=1+k/\s1<=a.1/\a.1<=s1+2 * k)
  (fun r=>(∀ s∈r.1,s∈Nm)/\1<=r.1.length/\r.1.length<=6/\s1<=r.2.1/\r.2.1<=s1+10) (fun k a hk hI=>?_) (fun a hI=>?_) 5 0 (s1,s2,[bQ]) (by omega) ⟨by simp [Nm],by simp,by simp,by simp,by simp⟩
 ·obtain ⟨r,h1,g1,g2,g3,g4,g5⟩:=key
  unfold wN
  have h1':loop (fun s:Int × Int × List aJ × Int=>mT c s.1 s.2.1 s.2.2.1 s.2.2.2) (s1,s2,[bQ],0)=some r:=h1
  rw [show ([([116,97,117]:aJ)]:List aJ)=[bQ] from rfl,h1',aA]
  unfold vW vV
  split
  ·rw [cF (by simp [jL];omega),aA]
   refine ⟨_,_,_,rfl,⟨fun s hs=>?_,by simp,by simp;omega⟩,g4,g5⟩
   rcases List.mem_append.1 hs with hs|hs
   ·exact g1 s hs
   ·simp at hs;subst hs;simp [Nm]
  ·exact ⟨_,_,_,rfl,⟨g1,g2,by omega⟩,g4,g5⟩
 ·obtain ⟨x,y,o⟩:=a
  obtain ⟨g1,g2,g3,g4,g5⟩:=hI
  simp only at g1 g2 g3 g4 g5 ⊢
  obtain ⟨b,t1,t2,e,h3,h4⟩:=aIs c y (s1:=x) (n:=2) (by omega) (by omega)
  have hw:wr ((k:Int)+1)=((k+1:Nat):Int):=aV hk (by omega)
  unfold mT
  rw [if_pos (by simp;omega),e,aA]
  have hno:kN (k:Int) t1 t2 o=some (.inl (t1,t2,o,((k+1:Nat):Int))):=by unfold kN;rw [hw]
  have key:∀ v:Bool,∃ a':Int × Int × List aJ,pX o (k:Int) t1 t2 v=some (.inl (a'.1,a'.2.1,a'.2.2,((k+1:Nat):Int)))/\(∀ s∈a'.2.2,s∈Nm)/\1<=a'.2.2.length/\a'.2.2.length<=1+(k+1)/\s1<=a'.1/\a'.1<=s1+2 * ((k+1:Nat):Int):=by
   intro v
   unfold pX
   cases v with
   |false=>
    rw [if_neg (by simp),hno]
    exact ⟨(t1,t2,o),rfl,g1,g2,by simp only;omega,by simp only;omega,by simp only;omega⟩
   |true=>
    have hkl:k < ([([97]:aJ),([98]:aJ),([99]:aJ),([103,101,116,40,48,41]:aJ),([103,101,116,40,49,41]:aJ)]:List aJ).length:=hk
    rw [if_pos rfl,bK hkl,aA,cF (by simp [jL];omega),aA]
    unfold kN
    rw [hw]
    refine ⟨(t1,t2,_),rfl,fun s hs=>?_,by simp,by simp;omega,by simp only;omega,by simp only;omega⟩
    rcases List.mem_append.1 hs with hs|hs
    ·exact g1 s hs
    ·rw [List.mem_singleton] at hs
     have:s∈([([97]:aJ),([98]:aJ),([99]:aJ),([103,101,116,40,48,41]:aJ),([103,101,116,40,49,41]:aJ)]:List aJ):=hs ▸ List.getElem_mem hkl
     exact List.mem_cons_of_mem _ this
  split
  ·exact key _
  ·exact key _
 ·obtain ⟨x,y,o⟩:=a
  obtain ⟨g1,g2,g3,g4,g5⟩:=hI
  simp only at g1 g2 g3 g4 g5 ⊢
  refine ⟨(o,x,y),?_,g1,g2,by simp only;omega,g4,by simp only;omega⟩
  unfold mT
  rw [if_neg (by simp)]
end Gv
namespace Gv
open Go
def aIT (st:Int) (n:Nat) (e:Edge):Prop:=(0<=e.F/\e.F < st)/\(0<=e.To/\e.To < st)/\0<=e.B/\e.B < n
section
variable {c:aJ} {r9 r14:Int × Int × Int} {base st:Int}
def aNK (K:List Int) (base st:Int):Prop:=(K.length:Int)=st/\∀ i,(hi:i < K.length)->(0<=K[i]/\K[i] < base)/\((i:Int) < base->K[i]=(i:Int))
theorem kinds_ok (hb:1<=base/\base<=4) (hs:base<=st/\st<=6) (e1:wr (1+r9.1)=base) (e2:wr (base+r14.1)=st) {s1:Int} (s2:Int) (h:0<=s1/\s1<=10000000000):
  ∃ a b K,loop (fun s:Int × Int × List Int × Int=>pK c r9 r14 s.1 s.2.1 s.2.2.1 s.2.2.2) (s1,s2,([]:List Int),0)=some (a,b,K)/\aNK K base st/\s1<=a/\a<=s1+12:=by
 have key:=eP (step:=fun s:Int × Int × List Int × Int=>pK c r9 r14 s.1 s.2.1 s.2.2.1 s.2.2.2) st.toNat (fun k (a:Int × Int × List Int)=>(a.1,a.2.1,a.2.2,(k:Int))) (fun k a=>(a.2.2.length=k/\∀ i,(hi:i < a.2.2.length)->(0<=a.2.2[i]/\a.2.2[i] < base)/\((i:Int) < base->a.2.2[i]=(i:Int)))/\s1<=a.1/\a.1<=s1+2 * k)
  (fun r=>aNK r.2.2 base st/\s1<=r.1/\r.1<=s1+12) (fun k a hk hI=>?_) (fun a hI=>?_) st.toNat 0 (s1,s2,[]) (by omega) ⟨⟨rfl,fun i hi=>by simp at hi⟩,by simp,by simp⟩
 ·obtain ⟨⟨a,b,K⟩,h1,g1,g2,g3⟩:=key
  exact ⟨a,b,K,h1,g1,g2,g3⟩
 ·obtain ⟨x,y,o⟩:=a
  obtain ⟨⟨g1,g2⟩,g3,g4⟩:=hI
  simp only at g1 g2 g3 g4 ⊢
  have hw:wr ((k:Int)+1)=((k+1:Nat):Int):=aV hk (by omega)
  have hadd:∀ v:Int,(0<=v/\v < base)->((k:Int) < base->v=(k:Int))->(o++[v]).length=k+1/\∀ i,(hi:i < (o++[v]).length)->(0<=(o++[v])[i]/\(o++[v])[i] < base)/\((i:Int) < base->(o++[v])[i]=(i:Int)):=by
   intro v h1 h2
   refine ⟨by simp;exact g1,fun i hi=>?_⟩
   by_cases hl:i < o.length
   ·rw [List.getElem_append_left hl];exact g2 i hl
   ·have:i=o.length:=by simp at hi;omega
    subst this
    rw [List.getElem_append_right (Nat.le_refl _)]
    simp only [Nat.sub_self,List.getElem_cons_zero]
    exact ⟨h1,fun h=>by rw [g1] at h ⊢;exact h2 h⟩
  unfold pK
  rw [e1,e2,if_pos (by simp;omega)]
  by_cases hkb:(k:Int) < base
  ·rw [if_pos (by simpa using hkb),cF (by simp [jL];omega),aA]
   unfold pJ
   rw [hw]
   exact ⟨(x,y,o++[(k:Int)]),rfl,hadd _ (by omega) (fun _=>rfl),by simp only;omega,by simp only;omega⟩
  ·rw [if_neg (by simpa using hkb)]
   obtain ⟨v,t1,t2,e,q1,q2,q3⟩:=lA c y (s1:=x) (n:=base) (by omega) (by omega)
   rw [e,aA,cF (by simp [jL];omega),aA]
   unfold pJ
   rw [hw]
   exact ⟨(t1,t2,o++[v]),rfl,hadd _ q1 (fun h=>absurd h hkb),by simp only;omega,by simp only;omega⟩
 ·obtain ⟨x,y,o⟩:=a
  obtain ⟨⟨g1,g2⟩,g3,g4⟩:=hI
  simp only at g1 g2 g3 g4 ⊢
  refine ⟨(x,y,o),?_,⟨by simp only;omega,g2⟩,g3,by simp only;omega⟩
  unfold pK
  rw [e1,e2,if_neg (by simp;omega)]
theorem alike_ok {r219:Int × Int × Int} {K:List Int} (hb:1<=base/\base<=4) (hs:base<=st/\st<=6) (e1:wr (1+r9.1)=base) (e2:wr (base+r14.1)=st) (hK:aNK K base st) (hto:0<=r219.1/\r219.1 < base):
  ∃ l,loop (fun s:List Int × Int=>mH r9 r14 K r219 s.1 s.2) (([]:List Int),0)=some l/\l≠[]/\∀ z∈l,0<=z/\z < st:=by
 have hKl:=hK.1
 have key:=eP (step:=fun s:List Int × Int=>mH r9 r14 K r219 s.1 s.2) st.toNat (fun k (a:List Int)=>(a,(k:Int))) (fun k a=>a.length<=k/\(r219.1 < k->r219.1∈a)/\∀ z∈a,0<=z/\z < st) (fun r=>r≠[]/\∀ z∈r,0<=z/\z < st) (fun k a hk hI=>?_) (fun a hI=>?_) st.toNat 0 [] (by omega) ⟨by simp,fun h=>by omega,by simp⟩
 ·obtain ⟨l,h1,h2⟩:=key
  exact ⟨l,h1,h2⟩
 ·obtain ⟨g1,g2,g3⟩:=hI
  have hkl:k < K.length:=by omega
  have hw:wr ((k:Int)+1)=((k+1:Nat):Int):=aV hk (by omega)
  show ∃ a',mH r9 r14 K r219 a (k:Int)=_/\_
  unfold mH wS
  rw [e1,e2,if_pos (by simp;omega),bK hkl,aA,hw]
  by_cases he:K[k]=r219.1
  ·rw [if_pos (by simpa using he),cF (by simp [jL];omega),aA]
   refine ⟨_,rfl,by simp;omega,fun h=>?_,fun z hz=>?_⟩
   ·by_cases hlt:r219.1 < k
    ·exact List.mem_append_left _ (g2 hlt)
    ·exact List.mem_append_right _ (by simp;omega)
   ·rcases List.mem_append.1 hz with hz|hz
    ·exact g3 z hz
    ·simp at hz;omega
  ·rw [if_neg (by simpa using he)]
   refine ⟨_,rfl,by omega,fun h=>g2 ?_,g3⟩
   have:=(hK.2 k hkl).2
   by_cases hlt:r219.1 < k
   ·exact hlt
   ·exfalso
    have e:r219.1=(k:Int):=by omega
    exact he (by rw [e];exact this (by omega))
 ·obtain ⟨g1,g2,g3⟩:=hI
  refine ⟨a,?_,fun h=>?_,g3⟩
  ·show mH r9 r14 K r219 a ((st.toNat:Nat):Int)=_
   unfold mH
   rw [e1,e2,if_neg (by simp;omega)]
  ·have:=g2 (by omega)
   rw [h] at this;cases this
theorem edges_row {r209 r214 r219:Int × Int × Int} {K:List Int} {nl:Nat} (hb:1<=base/\base<=4) (hs:base<=st/\st<=6) (e1:wr (1+r9.1)=base) (e2:wr (base+r14.1)=st) (hK:aNK K base st) (hto:0<=r219.1/\r219.1 < base) (hlab:0<=r214.1/\r214.1 < nl)
  {s1:Int} (s2:Int) (h:0<=s1/\s1<=10000000000) {ed:List Edge} (hed:∀ e∈ed,aIT st nl e) (hel:ed.length<=1000):
  ∃ a b ed',loop (fun s:Int × Int × List Edge × Int=>sD c r9 r14 K r209 r214 r219 s.1 s.2.1 s.2.2.1 s.2.2.2) (s1,s2,ed,0)=some (a,b,ed')/\(∀ e∈ed',aIT st nl e)/\ed'.length<=ed.length+6/\s1<=a/\a<=s1+12:=by
 have hKl:K.length=st.toNat:=by have:=hK.1;omega
 have hst9:st.toNat < 4611686018427387904:=by omega
 obtain ⟨al,ha1,ha2,ha3⟩:=alike_ok (r9:=r9) (r14:=r14) (r219:=r219) hb hs e1 e2 hK hto
 have key:=eP (step:=fun s:Int × Int × List Edge × Int=>sD c r9 r14 K r209 r214 r219 s.1 s.2.1 s.2.2.1 s.2.2.2) st.toNat (fun k (a:Int × Int × List Edge)=>(a.1,a.2.1,a.2.2,(k:Int))) (fun k a=>(∀ e∈a.2.2,aIT st nl e)/\a.2.2.length<=ed.length+k/\s1<=a.1/\a.1<=s1+2 * k)
  (fun r=>(∀ e∈r.2.2,aIT st nl e)/\r.2.2.length<=ed.length+6/\s1<=r.1/\r.1<=s1+12) (fun k a hk hI=>?_) (fun a hI=>?_) st.toNat 0 (s1,s2,ed) (by omega) ⟨hed,by simp,by simp,by simp⟩
 ·obtain ⟨⟨a,b,K⟩,h1,g1,g2,g3⟩:=key
  exact ⟨a,b,K,h1,g1,g2,g3⟩
 ·obtain ⟨x,y,o⟩:=a
  obtain ⟨g1,g2,g3,g4⟩:=hI
  simp only at g1 g2 g3 g4 ⊢
  have hkl:k < K.length:=by rw [hKl];exact hk
  unfold sD
  rw [e1,e2,if_pos (by simp;omega),bK hkl,aA]
  unfold wR wQ
  rw [aV hk (show st.toNat < 4611686018427387904 from hst9)]
  by_cases he:K[k]=r209.1
  ·rw [if_neg (by simp [he]),ha1,aA]
   obtain ⟨v,t1,t2,e,q1,q2,q3⟩:=aIt c y (s1:=x) (by omega) ha2
   rw [e,aA,cF (by simp [jL];omega),aA]
   have hv:=ha3 v q1
   refine ⟨(t1,t2,_),rfl,fun e he=>?_,by simp;omega,by simp only;omega,by simp only;omega⟩
   rcases List.mem_append.1 he with he|he
   ·exact g1 e he
   ·rw [List.mem_singleton] at he
    subst he
    exact ⟨by simp only;omega,by simp only;omega,hlab⟩
  ·rw [if_pos (by simpa using he)]
   exact ⟨(x,y,o),rfl,g1,by simp only;omega,by simp only;omega,by simp only;omega⟩
 ·obtain ⟨x,y,o⟩:=a
  obtain ⟨g1,g2,g3,g4⟩:=hI
  simp only at g1 g2 g3 g4 ⊢
  refine ⟨(x,y,o),?_,g1,by simp only;omega,g3,by simp only;omega⟩
  unfold sD
  rw [e1,e2,if_neg (by simp;omega)]
theorem edges_all {r19:List aJ × Int × Int} {K:List Int} (hb:1<=base/\base<=4) (hs:base<=st/\st<=6) (e1:wr (1+r9.1)=base) (e2:wr (base+r14.1)=st) (hK:aNK K base st) (hL:1<=r19.1.length/\r19.1.length<=7) {s1 m:Int} (s2:Int) (h:0<=s1/\s1<=1000000000) (hm:0<=m/\m<=9):
  ∃ a b ed,loop (fun s:Int × Int × List Edge × Int=>pI c r9 r14 r19 K s.1 s.2.1 s.2.2.1 s.2.2.2) (s1,s2,([]:List Edge),m)=some (a,b,ed)/\(∀ e∈ed,aIT st r19.1.length e)/\ed.length<=54/\s1<=a/\a<=s1+200:=by
 have key:=eP (step:=fun s:Int × Int × List Edge × Int=>pI c r9 r14 r19 K s.1 s.2.1 s.2.2.1 s.2.2.2) m.toNat (fun k (a:Int × Int × List Edge)=>(a.1,a.2.1,a.2.2,m - (k:Int))) (fun k a=>(∀ e∈a.2.2,aIT st r19.1.length e)/\a.2.2.length<=6 * k/\s1<=a.1/\a.1<=s1+18 * k)
  (fun r=>(∀ e∈r.2.2,aIT st r19.1.length e)/\r.2.2.length<=54/\s1<=r.1/\r.1<=s1+200) (fun k a hk hI=>?_) (fun a hI=>?_) m.toNat 0 (s1,s2,[]) (by omega) ⟨by simp,by simp,by simp,by simp⟩
 ·obtain ⟨⟨a,b,K⟩,h1,g1,g2,g3⟩:=key
  exact ⟨a,b,K,by simpa using h1,g1,g2,g3⟩
 ·obtain ⟨x,y,o⟩:=a
  obtain ⟨g1,g2,g3,g4⟩:=hI
  simp only at g1 g2 g3 g4 ⊢
  obtain ⟨v,t1,t2,q,q1,q2,q3⟩:=lA c y (s1:=x) (n:=base) (by omega) (by omega)
  obtain ⟨v',t1',t2',q',q1',q2',q3'⟩:=lA c t2 (s1:=t1) (n:=(r19.1.length:Int)) (by omega) (by omega)
  obtain ⟨v'',t1'',t2'',q'',q1'',q2'',q3''⟩:=lA c t2' (s1:=t1') (n:=base) (by omega) (by omega)
  obtain ⟨a,b,ed',p1,p2,p3,p4,p5⟩:=edges_row (c:=c) (r9:=r9) (r14:=r14) (r209:=(v,t1,t2)) (r214:=(v',t1',t2')) (r219:=(v'',t1'',t2'')) (nl:=r19.1.length) hb hs e1 e2 hK q1'' q1' t2'' (s1:=t1'') (by omega) g1 (by omega)
  unfold pI
  rw [if_pos (by simp;omega),e1,q,aA,q',aA,q'',aA,p1,aA]
  unfold aBs aBr
  have hw:wr (m - (k:Int) - 1)=m - ((k+1:Nat):Int):=by rw [eB (by omega) (by omega)];omega
  rw [hw]
  exact ⟨(a,b,ed'),rfl,p2,by simp only;omega,by simp only;omega,by simp only;omega⟩
 ·obtain ⟨x,y,o⟩:=a
  obtain ⟨g1,g2,g3,g4⟩:=hI
  simp only at g1 g2 g3 g4 ⊢
  refine ⟨(x,y,o),?_,g1,by simp only;omega,g3,by simp only;omega⟩
  unfold pI
  rw [if_neg (by simp;omega)]
end
theorem aOL (c:aJ) {s1:Int} (s2:Int) (h:0<=s1/\s1<=100000000):∃ t s1' s2',aAL c s1 s2=some (t,s1',s2')/\(Drn 55 t/\t.N<=6)/\s1<=s1'/\s1'<=s1+300:=by
 obtain ⟨v9,a9,b9,x9,y9,z9,w9⟩:=lA c s2 (s1:=s1) (n:=4) (by omega) (by omega)
 have e1:wr (1+v9)=1+v9:=eB (by omega) (by omega)
 have e1':wr (7 - (1+v9))=7 - (1+v9):=eB (by omega) (by omega)
 obtain ⟨v14,a14,b14,x14,y14,z14,w14⟩:=lA c b9 (s1:=a9) (n:=7 - (1+v9)) (by omega) (by omega)
 have e2:wr (1+v9+v14)=1+v9+v14:=eB (by omega) (by omega)
 obtain ⟨L,a19,b19,x19,⟨y19,y19',y19''⟩,z19,w19⟩:=names_ok c b14 (s1:=a14) (by omega)
 have hb:1<=1+v9/\1+v9<=4:=by omega
 have hs:1+v9<=1+v9+v14/\1+v9+v14<=6:=by omega
 obtain ⟨ak,bk,K,xk,yk,zk,wk⟩:=kinds_ok (c:=c) (r9:=(v9,a9,b9)) (r14:=(v14,a14,b14)) hb hs e1 e2 b19 (s1:=a19) (by omega)
 have e3:wr (2+wr (2 * (1+v9)))=2+2 * (1+v9):=by rw [eB (x:=2 * (1+v9)) (by omega) (by omega),eB (by omega) (by omega)]
 obtain ⟨vm,am,bm,xm,ym,zm,wm⟩:=lA c bk (s1:=ak) (n:=2+2 * (1+v9)) (by omega) (by omega)
 obtain ⟨ae,be,ed,xe,ye,ye',ze,we⟩:=edges_all (c:=c) (r9:=(v9,a9,b9)) (r14:=(v14,a14,b14)) (r19:=(L,a19,b19)) hb hs e1 e2 yk ⟨y19',y19''⟩ bm (s1:=am) (m:=vm) (by omega) (by omega)
 have hfin:∀ (s t:Int) (E:List Edge),(∀ e∈E,aIT (1+v9+v14) L.length e)->E.length<=55->ae<=s->s<=ae+8->∃ t' s1' s2',wO c (v9,a9,b9) (v14,a14,b14) (L,a19,b19) s t E=some (t',s1',s2')/\(Drn 55 t'/\t'.N<=6)/\ae<=s1'/\s1'<=ae+10:=by
  intro s t E hE hEl hs1 hs2
  unfold wO
  simp only
  rw [e1,e2]
  obtain ⟨v,a,b,q,q1,q2,q3⟩:=lA c t (s1:=s) (n:=1+v9+v14) (by omega) (by omega)
  obtain ⟨t',m1,m2,m3,m4⟩:=aPN y19 (by omega) (st:=1+v9+v14) (ini:=v) (by omega) q1 (edges:=E) (by omega) (fun e he=>by have:=hE e he;unfold aIT at this;exact ⟨this.1,this.2.1,this.2.2⟩)
  rw [q,aA,m1,aA]
  exact ⟨_,_,_,rfl,⟨m2.mono hEl,by omega⟩,by simp only;omega,by simp only;omega⟩
 unfold aAL
 rw [x9,aA]
 simp only
 rw [e1,e1',x14,aA,x19,aA,xk,aA]
 unfold uE
 simp only
 rw [e1,e3,xm,aA,xe,aA]
 unfold wP
 simp only
 rw [e1,e2]
 obtain ⟨bb,ao,bo,xo,zo,wo⟩:=aIs c be (s1:=ae) (n:=3) (by omega) (by omega)
 rw [xo,aA]
 simp only
 cases bb with
 |false=>
  rw [if_neg (by simp)]
  obtain ⟨t',s1',s2',r1,r2,r3,r4⟩:=hfin ao bo ed ye (by omega) (by omega) (by omega)
  exact ⟨t',s1',s2',r1,r2,by omega,by omega⟩
 |true=>
  rw [if_pos rfl]
  obtain ⟨v1,a1,b1,p1,p1',p1'',p1'''⟩:=lA c bo (s1:=ao) (n:=1+v9+v14) (by omega) (by omega)
  obtain ⟨v2,a2,b2,p2,p2',p2'',p2'''⟩:=lA c b1 (s1:=a1) (n:=(L.length:Int)) (by omega) (by omega)
  obtain ⟨v3,a3,b3,p3,p3',p3'',p3'''⟩:=lA c b2 (s1:=a2) (n:=1+v9+v14) (by omega) (by omega)
  rw [p1,aA,p2,aA,p3,aA,cF (by simp [jL];omega),aA]
  obtain ⟨t',s1',s2',r1,r2,r3,r4⟩:=hfin a3 b3 (ed++[⟨v1,v2,v3⟩]) (fun e he=>by
   rcases List.mem_append.1 he with he|he
   ·exact ye e he
   ·rw [List.mem_singleton] at he
    subst he
    exact ⟨p1',p3',p2'⟩) (by simp;omega) (by omega) (by omega)
  exact ⟨t',s1',s2',r1,r2,by omega,by omega⟩
theorem draw15_ok (c:aJ) {s1:Int} (s2:Int) (h:0<=s1/\s1<=10000000):∃ t s1' s2',aCE c s1 s2=some (t,s1',s2')/\(Drn 60 t/\t.N<=6)/\s1<=s1'/\s1'<=s1+500:=by
 obtain ⟨t,a,b,x,⟨y,ys⟩,z,w⟩:=aOL c s2 (s1:=s1) (by omega)
 have hed:=y.ed
 have hlab:=y.ok.2.2.1
 have hst:=y.ok.1
 have hini:=y.ok.2.1
 have hin:∀ e∈t.E,aIT t.N t.L.length e:=fun e he=>by
  have:=edge_T y.ok he
  unfold inT at this
  exact ⟨this.1,this.2.1,this.2.2⟩
 have key:=eP (step:=fun s:Int × Int × List Edge × Int=>sF c (t,a,b) s.1 s.2.1 s.2.2.1 s.2.2.2) t.E.length (fun k (q:Int × Int × List Edge)=>(q.1,q.2.1,q.2.2,(k:Int))) (fun k q=>(∀ e∈q.2.2,aIT t.N t.L.length e)/\q.2.2.length<=k/\a<=q.1/\q.1<=a+2 * k)
  (fun r=>(∀ e∈r.2.2,aIT t.N t.L.length e)/\r.2.2.length<=55/\a<=r.1/\r.1<=a+110) (fun k q hk hI=>?_) (fun q hI=>?_) t.E.length 0 (a,b,[]) (by omega) ⟨by simp,by simp,by simp,by simp⟩
 ·obtain ⟨⟨a1,b1,E⟩,h1,g1,g2,g3,g4⟩:=key
  simp only at g1 g2 g3 g4
  have h1':loop (fun s:Int × Int × List Edge × Int=>sF c (t,a,b) s.1 s.2.1 s.2.2.1 s.2.2.2) (a,b,([]:List Edge),0)=some (a1,b1,E):=h1
  obtain ⟨vm,am,bm,xm,ym,zm,wm⟩:=lA c b1 (s1:=a1) (n:=3) (by omega) (by omega)
  have key2:=eP (step:=fun s:Int × Int × List Edge × Int=>sE c (t,a,b) s.1 s.2.1 s.2.2.1 s.2.2.2) vm.toNat (fun k (q:Int × Int × List Edge)=>(q.1,q.2.1,q.2.2,vm - (k:Int))) (fun k q=>(∀ e∈q.2.2,aIT t.N t.L.length e)/\q.2.2.length<=55+k/\am<=q.1/\q.1<=am+4 * k)
   (fun r=>(∀ e∈r.1,aIT t.N t.L.length e)/\r.1.length<=60/\am<=r.2.1/\r.2.1<=am+20) (fun k q hk hI=>?_) (fun q hI=>?_) vm.toNat 0 (am,bm,E) (by omega) ⟨g1,by simp only;omega,by simp,by simp⟩
  ·obtain ⟨⟨F,a2,b2⟩,h2,q1,q2,q3,q4⟩:=key2
   simp only at q1 q2 q3 q4
   have h2':loop (fun s:Int × Int × List Edge × Int=>sE c (t,a,b) s.1 s.2.1 s.2.2.1 s.2.2.2) (am,bm,E,vm)=some (F,a2,b2):=by simpa using h2
   obtain ⟨t',m1,m2,m3,m4⟩:=aPN (T:=t.L) (fun s hs=>y.nm s hs) (by have:=hlab.2.1;omega) (st:=t.N) (ini:=t.I) (by have:=y.st;omega) (by omega) (edges:=F) (by omega) (fun e he=>by have:=q1 e he;unfold aIT at this;exact ⟨this.1,this.2.1,this.2.2⟩)
   unfold aCE
   rw [x,aA,h1',aA]
   unfold aBt
   rw [xm,aA,h2',aA]
   unfold aEt
   rw [m1,aA]
   exact ⟨_,_,_,rfl,⟨m2.mono q2,by omega⟩,by simp only;omega,by simp only;omega⟩
  ·obtain ⟨x2,y2,o⟩:=q
   obtain ⟨i1,i2,i3,i4⟩:=hI
   simp only at i1 i2 i3 i4 ⊢
   obtain ⟨v1,t1,t1',p1,p1',p1'',p1'''⟩:=lA c y2 (s1:=x2) (n:=t.N) (by omega) (by omega)
   obtain ⟨v2,t2,t2',p2,p2',p2'',p2'''⟩:=lA c t1' (s1:=t1) (n:=t.N) (by omega) (by omega)
   unfold sE
   rw [if_pos (by simp;omega),p1,aA,p2,aA,cF (by simp [jL];omega),aA]
   have hw:wr (vm - (k:Int) - 1)=vm - ((k+1:Nat):Int):=by rw [eB (by omega) (by omega)];omega
   rw [hw]
   refine ⟨(t2,t2',_),rfl,fun e he=>?_,by simp;omega,by simp only;omega,by simp only;omega⟩
   rcases List.mem_append.1 he with he|he
   ·exact i1 e he
   ·rw [List.mem_singleton] at he
    subst he
    exact ⟨p1',p2',by simp only;have:=hlab.1;omega⟩
  ·obtain ⟨x2,y2,o⟩:=q
   obtain ⟨i1,i2,i3,i4⟩:=hI
   simp only at i1 i2 i3 i4 ⊢
   refine ⟨(o,x2,y2),?_,i1,by simp only;omega,i3,by simp only;omega⟩
   unfold sE
   rw [if_neg (by simp;omega)]
 ·obtain ⟨x2,y2,o⟩:=q
  obtain ⟨i1,i2,i3,i4⟩:=hI
  simp only at i1 i2 i3 i4 ⊢
  have he:=hin _ (List.getElem_mem hk)
  obtain ⟨bb,ao,bo,xo,zo,wo⟩:=aIs c y2 (s1:=x2) (n:=3) (by omega) (by omega)
  have hw:wr ((k:Int)+1)=((k+1:Nat):Int):=aV hk (by omega)
  unfold sF
  rw [if_pos (bF hk),bK hk,aA,xo,aA]
  have hgo:∀ l:Int,0<=l/\l < t.L.length->∃ q':Int × Int × List Edge,wT o (k:Int) t.E[k] ao bo l=some (.inl (q'.1,q'.2.1,q'.2.2,((k+1:Nat):Int)))/\(∀ e∈q'.2.2,aIT t.N t.L.length e)/\q'.2.2.length<=k+1/\a<=q'.1/\q'.1<=a+2 * ((k+1:Nat):Int):=by
   intro l hl
   unfold wT
   rw [cF (by simp [jL];omega),aA,hw]
   refine ⟨(ao,bo,_),rfl,fun e he'=>?_,by simp;omega,by simp only;omega,by simp only;omega⟩
   rcases List.mem_append.1 he' with he'|he'
   ·exact i1 e he'
   ·rw [List.mem_singleton] at he'
    subst he'
    exact ⟨he.1,he.2.1,hl⟩
  simp only
  cases bb with
  |false=>rw [if_neg (by simp)];exact hgo _ he.2.2
  |true=>rw [if_pos rfl];exact hgo 0 (by have:=hlab.1;omega)
 ·obtain ⟨x2,y2,o⟩:=q
  obtain ⟨i1,i2,i3,i4⟩:=hI
  simp only at i1 i2 i3 i4 ⊢
  refine ⟨(x2,y2,o),?_,i1,by simp only;omega,i3,by simp only;omega⟩
  unfold sF
  rw [if_neg (by simp)]
end Gv
namespace Gv
open Go
section
variable {u:aS} {p:List Int}
end
section
variable {p:List Int} {rows:List (List Int)}
end
section
variable {u:aS} {p:List Int}
end
end Gv
namespace Gv
open Go
section
variable {u:aS} {p:List Int}
end
section
variable {t:aS} {c:Nat} {p:List Int}
end
end Gv
set_option linter.unusedSimpArgs false
set_option linter.unusedVariables false
namespace Gv
open Go
section
variable {s:Int}
end
section
variable {t:aS} {c:Nat}
end
end Gv
set_option linter.unusedSimpArgs false
set_option linter.unusedVariables false
namespace Gv
open Go
section
variable {a:aS} (cs:aJ)
def Ask (t:aS):Prop:=aO t/\bA 999999999 t
theorem Drn.ask {c:Nat} {t:aS} (h:Drn c t):Ask t:=⟨h.ok,h.fits⟩
theorem del_eq {E:List Edge} (hl:E.length<=1000) {v:Int} (hv:0<=v/\v < E.length):∃ r1 r2 F,pQ E 0 v=some r1/\pQ E (wr (v+1)) (E.length:Int)=some r2/\tG r1 r2=some F/\F.Sublist E:=by
 refine ⟨E.take v.toNat,E.drop (v.toNat+1),E.take v.toNat++E.drop (v.toNat+1),?_,?_,cF (by simp only [List.length_take,List.length_drop,jL];omega),?_⟩
 ·unfold pQ
  rw [if_pos ⟨by decide,hv.1,by omega⟩]
  simp
 ·rw [eB (by omega) (by omega)]
  unfold pQ
  rw [if_pos ⟨by omega,by omega,by omega⟩,show (v+1).toNat=v.toNat+1 by omega,List.take_of_length_le (by simp)]
 ·have:(E.take v.toNat++E.drop (v.toNat+1)).Sublist (E.take v.toNat++E.drop v.toNat):=by
   refine List.Sublist.append_left ?_ _
   rw [show E.drop (v.toNat+1)=(E.drop v.toNat).drop 1 by rw [List.drop_drop]]
   exact List.drop_sublist _ _
  rwa [List.take_append_drop] at this
end
end Gv
