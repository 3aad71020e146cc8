/- Exploring that ends: the edges are those of all states. -/
import Derived.Test.YtgpmcacjpjongaaGreatDoorJP80
set_option linter.all false
namespace Gv
open Go
section
variable {κ β:Type} [DecidableEq β] [BEq β] [LawfulBEq β] {key:κ->β}
theorem atK_pos (F:List κ) (q:κ):atK key F q=pos ((aDq key F q).map key) (key q):=by
 unfold atK aDq
 by_cases h:key q∈F.map key
 ·rw [if_pos h,if_pos h]
 ·rw [if_neg h,if_neg h,List.map_append,List.map_singleton,pos_snoc h,List.length_map]
theorem aJB {A B:List κ} (h:A <+:B):A.map key <+:B.map key:=by
 obtain ⟨C,rfl⟩:=h
 exact ⟨C.map key,by rw [List.map_append]⟩
theorem key_sub {A B:List κ} (h:A <+:B) {k:β} (hk:k∈A.map key):k∈B.map key:=by
 obtain ⟨C,hC⟩:=aJB (key:=key) h
 rw [←hC]
 exact List.mem_append_left _ hk
theorem aKV (i:Int):∀ (l:List (Int × κ)) (s:List κ × List Edge),(∀ x∈l,key x.2∈(jA key i l s).1.map key)/\
  ∀ e,e∈(jA key i l s).2<->e∈s.2\/∃ x∈l,e=⟨i,x.1,pos ((jA key i l s).1.map key) (key x.2)⟩
 |[],s=>⟨by simp,fun e=>by simp [aNX]⟩
 |y::l,s=>by
  obtain ⟨h1,h2⟩:=aKV i l (aAn key i s y)
  have hp:=(aBp (key:=key) i l (aAn key i s y)).1
  have hy:key y.2∈(aAn key i s y).1.map key:=insK_mem s.1 y.2
  have hpos:pos ((jA key i l (aAn key i s y)).1.map key) (key y.2)=atK key s.1 y.2:=by rw [aMN (aJB hp) hy,atK_pos];rfl
  refine ⟨fun x hx=>?_,fun e=>?_⟩
  ·rw [aAE]
   rcases List.mem_cons.1 hx with rfl|hx
   ·exact key_sub hp hy
   ·exact h1 x hx
  ·rw [aAE,h2]
   constructor
   ·rintro (he|⟨x,hx,rfl⟩)
    ·rcases List.mem_append.1 he with he|he
     ·exact .inl he
     ·rw [List.mem_singleton] at he
      exact .inr ⟨y,List.mem_cons_self,by rw [he,hpos]⟩
    ·exact .inr ⟨x,List.mem_cons_of_mem _ hx,rfl⟩
   ·rintro (he|⟨x,hx,rfl⟩)
    ·exact .inl (List.mem_append_left _ he)
    ·rcases List.mem_cons.1 hx with rfl|hx
     ·left
      rw [hpos]
      exact List.mem_append_right _ (List.mem_singleton.2 rfl)
     ·exact .inr ⟨x,hx,rfl⟩
theorem aIJ (nx:κ->List (Int × κ)) (B:Nat):∀ (n i:Nat) (s:List κ × List Edge),(xpl key nx B n i s).1.length<=B->(xpl key nx B n i s).1.length < n+i->i<=s.1.length->
  (∀ j q,i<=j->(xpl key nx B n i s).1[j]?=some q->∀ x∈nx q,key x.2∈(xpl key nx B n i s).1.map key)/\
  ∀ e,e∈(xpl key nx B n i s).2<->e∈s.2\/∃ (j:Nat) (q:κ),i<=j/\(xpl key nx B n i s).1[j]?=some q/\∃ x∈nx q,e=⟨(j:Int),x.1,pos ((xpl key nx B n i s).1.map key) (key x.2)⟩
 |0,i,s,h1,h2,h3=>by
  have:(xpl key nx B 0 i s).1.length=s.1.length:=rfl
  omega
 |n+1,i,s,h1,h2,h3=>by
  have hd:xpl key nx B (n+1) i s=match s.1[i]? with
   |none=>s
   |some q=>if B < (jA key (i:Int) (nx q) s).1.length then jA key (i:Int) (nx q) s else xpl key nx B n (i+1) (jA key (i:Int) (nx q) s):=rfl
  cases hq:s.1[i]? with
  |none=>
   rw [hq] at hd
   simp only at hd
   rw [hd]
   have hl:s.1.length<=i:=by simpa using hq
   refine ⟨fun j q hj hjq=>?_,fun e=>⟨.inl,?_⟩⟩
   ·have:=(List.getElem?_eq_some_iff.1 hjq).1;omega
   ·rintro (he|⟨j,q,hj,hjq,_⟩)
    ·exact he
    ·have:=(List.getElem?_eq_some_iff.1 hjq).1;omega
  |some q=>
   rw [hq] at hd
   simp only at hd
   by_cases hb:B < (jA key (i:Int) (nx q) s).1.length
   ·rw [if_pos hb] at hd
    rw [hd] at h1
    omega
   ·rw [if_neg hb] at hd
    rw [hd] at h1 h2 ⊢
    have hil:i < s.1.length:=(List.getElem?_eq_some_iff.1 hq).1
    have hpre:=(aBp (key:=key) (i:Int) (nx q) s).1
    obtain ⟨g1,g2⟩:=aIJ nx B n (i+1) (jA key (i:Int) (nx q) s) h1 (by omega) (by have:=hpre.length_le;omega)
    have hpre2:=(aId (key:=key) nx B n (i+1) (jA key (i:Int) (nx q) s)).1
    obtain ⟨a1,a2⟩:=aKV (key:=key) (i:Int) (nx q) s
    have hat:∀ {r},(xpl key nx B n (i+1) (jA key (i:Int) (nx q) s)).1[i]?=some r->r=q:=fun {r} hr=>by
     obtain ⟨C,hC⟩:=hpre.trans hpre2
     rw [←hC,List.getElem?_append_left hil,hq] at hr
     exact (Option.some.inj hr).symm
    have hi':(xpl key nx B n (i+1) (jA key (i:Int) (nx q) s)).1[i]?=some q:=by
     obtain ⟨C,hC⟩:=hpre.trans hpre2
     rw [←hC,List.getElem?_append_left hil,hq]
    refine ⟨fun j r hj hjr x hx=>?_,fun e=>?_⟩
    ·rcases Nat.eq_or_lt_of_le hj with rfl|hj'
     ·have:=hat hjr
      subst this
      exact key_sub hpre2 (a1 x hx)
     ·exact g1 j r hj' hjr x hx
    ·rw [g2,a2]
     constructor
     ·rintro ((he|⟨x,hx,rfl⟩)|⟨j,r,hj,hjr,x,hx,rfl⟩)
      ·exact .inl he
      ·exact .inr ⟨i,q,Nat.le_refl _,hi',x,hx,by rw [aMN (aJB hpre2) (a1 x hx)]⟩
      ·exact .inr ⟨j,r,by omega,hjr,x,hx,rfl⟩
     ·rintro (he|⟨j,r,hj,hjr,x,hx,rfl⟩)
      ·exact .inl (.inl he)
      ·rcases Nat.eq_or_lt_of_le hj with rfl|hj'
       ·have:=hat hjr
        subst this
        exact .inl (.inr ⟨x,hx,by rw [aMN (aJB hpre2) (a1 x hx)]⟩)
       ·exact .inr ⟨j,r,hj',hjr,x,hx,rfl⟩
end
end Gv
namespace Gv
open Go
section
variable {a b:bF} {B:Int->Int->Bool} {F:(Int->Int->Bool)->Int->Int->Bool}
structure MonoT (a b:bF) (F:(Int->Int->Bool)->Int->Int->Bool):Prop where
 mono:∀ S T:Int->Int->Bool,(∀ x y,inT a x->inT b y->S x y=true->T x y=true)->∀ x y,inT a x->inT b y->F S x y=true->F T x y=true
end
end Gv
namespace Gv
open Go
end Gv
namespace Gv
open Go
def AftT (t:bF) (S:List Int) (s:aF) (q:Int):Prop:=∃ e∈t.E,qY t e=s/\e.F∈S/\e.To=q
section
variable {t:bF}
theorem AftT.inn (hv:bM t) {S:List Int} {s:aF} {q:Int} (h:AftT t S s q):0<=q/\q < t.N:=by
 obtain ⟨e,he,_,_,rfl⟩:=h
 exact (aBz hv he).2.1
theorem aKW (hv:bM t) {S:List Int} (hS:S.length < 1000000000) (s:aF):∃ R,iB t S s=some R/\vI R (AftT t S s):=by
 have h300:=hv.2.2.2.1
 have hl:((t.E.filter fun e=>qY t e == s&&S.any fun x=>e.F == x).map (·.To)).length<=300:=by
  rw [List.length_map];exact Nat.le_trans (List.length_filter_le _ _) h300
 refine ⟨jC (vE iLt ((t.E.filter fun e=>qY t e == s&&S.any fun x=>e.F == x).map (·.To))),?_,aLV.iff fun q=>?_⟩
 ·unfold iB
  rw [aBn (step:=fun x:List Int × Int=>gT t S s x.1 x.2) t.E (fun e=>qY t e == s&&S.any fun x=>e.F == x) (·.To) id (fun j out x hj ho hx=>?_) (fun out=>by simp only [gT,cB];rfl),aA]
  ·unfold nR
   simp only [id]
   rw [aFg (by omega),aA,aJc _ (by unfold vE;rw [List.length_mergeSort];omega),aA]
  ·obtain ⟨hj',rfl⟩:=mH hx
   simp only [gT,cF hj,if_pos,hx,aA,aAm (nJ hv (List.getElem_mem hj')),aBZ S _ (show S.length < 4611686018427387904 by omega),nS,lR,bV hj (show t.E.length < 4611686018427387904 by omega)]
   rw [cX (by simp [kJ];omega),aA]
   cases qY t t.E[j] == s<;>cases (S.any fun x=>t.E[j].F == x)<;>rfl
 ·rw [List.mem_map]
  constructor
  ·rintro ⟨e,he,rfl⟩
   rw [List.mem_filter,Bool.and_eq_true,List.any_eq_true] at he
   obtain ⟨h1,h2,x,hx,h3⟩:=he
   rw [beq_iff_eq] at h2 h3
   exact ⟨e,h1,h2,h3 ▸ hx,rfl⟩
  ·rintro ⟨e,h1,h2,h3,rfl⟩
   refine ⟨e,?_,rfl⟩
   rw [List.mem_filter,Bool.and_eq_true,List.any_eq_true,beq_iff_eq]
   exact ⟨h1,h2,_,h3,by simp⟩
theorem aOi (hv:bM t) {S:List Int} (hS:S.length < 1000000000) (s:aF):∃ R,jP t S s=some R/\vI R (Cl t (AftT t S s)):=by
 obtain ⟨R1,f1,f2⟩:=aKW hv hS s
 have hn:R1.Nodup:=f2.ord.imp fun h=>by omega
 obtain ⟨R,g1,g2⟩:=aFh hv hn fun q hq=>((f2.mem q).1 hq).inn hv
 exact ⟨R,by unfold jP;rw [f1,aA,g1];rfl,g2.iff (Cl.iff f2.mem)⟩
theorem aMW (hv:bM t) {e:Edge} (he:e∈t.E):qY t e=bU<->e.B=0:=by
 obtain ⟨h0,h1⟩:=tau_at hv
 have:=aEC hv he (s:=bU) (h1 ▸ List.getElem_mem h0)
 have hp:pos t.L bU=((0:Nat):Int):=by rw [←h1];exact aKJ hv.2.2.1 h0
 rw [hp] at this
 rw [Bool.eq_iff_iff,beq_iff_eq,beq_iff_eq] at this
 simpa using this
def Wk (t:bF) (y:Int) (s:aF) (w:Int):Prop:=if s=bU then Cl t (·∈[y]) w else Cl t (fun q=>∃ e∈t.E,qY t e=s/\Cl t (·∈[y]) e.F/\e.To=q) w
theorem Wk.inn (hv:bM t) {y:Int} (hy:inT t y) {s:aF} {w:Int} (h:Wk t y s w):inT t w:=by
 unfold inT at hy ⊢
 unfold Wk at h
 split at h
 ·exact h.inn hv fun q hq=>by simp at hq;omega
 ·exact h.inn hv fun q hq=>by
   obtain ⟨e,he,_,_,rfl⟩:=hq
   exact (aBz hv he).2.1
def rdy (t:bF) (k:Int):List aF:=jC (vE sG ((t.E.filter fun e=>e.F == k).map (qY t)))
theorem aMX {k:Int} {s:aF}:s∈rdy t k<->∃ e∈t.E,e.F=k/\qY t e=s:=by
 unfold rdy
 rw [aCl];unfold vE;rw [List.mem_mergeSort,List.mem_map]
 constructor
 ·rintro ⟨e,he,rfl⟩
  rw [List.mem_filter,beq_iff_eq] at he
  exact ⟨e,he.1,he.2,rfl⟩
 ·rintro ⟨e,h1,h2,rfl⟩
  exact ⟨e,by rw [List.mem_filter,beq_iff_eq];exact ⟨h1,h2⟩,rfl⟩
theorem rdy_len (k:Int):(rdy t k).length<=t.E.length:=by
 unfold rdy
 have h1:=aII (vE sG ((t.E.filter fun e=>e.F == k).map (qY t)))
 unfold vE at h1 ⊢
 rw [List.length_mergeSort,List.length_map] at h1
 exact Nat.le_trans h1 (List.length_filter_le _ _)
end
end Gv
namespace Gv
open Go
section
variable {t:bF}
theorem aGm (S:List Int) {x:Int × List Int}:∀ (n k:Nat),x∈aAp t S n k<->∃ j:Nat,k<=j/\j < k+n/\nxt t S (j:Int)≠[]/\x=((j:Int),nxt t S (j:Int))
 |0,k=>by
  simp only [aAp,List.not_mem_nil,false_iff]
  rintro ⟨j,h1,h2,_⟩
  omega
 |n+1,k=>by
  unfold aAp
  have ih:=aGm S (x:=x) n (k+1)
  split
  ·rename_i h0
   rw [ih]
   constructor
   ·rintro ⟨j,h1,h2,h3⟩;exact ⟨j,by omega,by omega,h3⟩
   ·rintro ⟨j,h1,h2,h3,h4⟩
    refine ⟨j,?_,by omega,h3,h4⟩
    rcases Nat.eq_or_lt_of_le h1 with rfl|h
    ·exact absurd h0 h3
    ·omega
  ·rename_i h0
   rw [List.mem_cons,ih]
   constructor
   ·rintro (rfl|⟨j,h1,h2,h3⟩)
    ·exact ⟨k,Nat.le_refl _,by omega,h0,rfl⟩
    ·exact ⟨j,by omega,by omega,h3⟩
   ·rintro ⟨j,h1,h2,h3,h4⟩
    rcases Nat.eq_or_lt_of_le h1 with rfl|h
    ·exact .inl h4
    ·exact .inr ⟨j,by omega,by omega,h3,h4⟩
noncomputable def aHs (t:bF) (S:List Int) (s:aF):List Int:=(jP t S s).getD []
noncomputable def aft (t:bF) (tr:List aF):List Int:=tr.foldl (aHs t) (vQ t)
theorem aIf (tr:List aF) (s:aF):aft t (tr++[s])=aHs t (aft t tr) s:=by unfold aft;rw [List.foldl_append];rfl
theorem aJC (hv:bM t) {S:List Int} (hS:jO t S) (s:aF):jP t S s=some (aHs t S s)/\jO t (aHs t S s)/\vI (aHs t S s) (Cl t (AftT t S s)):=by
 obtain ⟨R,h1,h2⟩:=aOi hv (S:=S) (Nat.lt_of_le_of_lt hS.len (by decide)) s
 have:aHs t S s=R:=by unfold aHs;rw [h1];rfl
 rw [this]
 exact ⟨h1,jO.of hv h2 fun q hq=>hq.inn hv fun x hx=>hx.inn hv,h2⟩
theorem aMY (hv:bM t) {S:List Int} (hS:jO t S) {k:Nat} (hk:k < t.L.length):aHs t S t.L[k]=nxt t S (k:Int):=by
 obtain ⟨R,h1,h2,_⟩:=aJd hv (S:=S) (Nat.lt_of_le_of_lt hS.len (by decide)) hk
 unfold aHs nxt
 rw [h1,h2]
theorem visT_none (hv:bM t) {S:List Int} (hS:jO t S) {s:aF} (hs:s∉t.L):aHs t S s=[]:=by
 obtain ⟨_,_,h⟩:=aJC hv hS s
 refine List.eq_nil_iff_forall_not_mem.2 fun q hq=>?_
 have hc:=(h.mem q).1 hq
 clear hq
 induction hc with
 |base hx=>
  obtain ⟨e,he,ht,_⟩:=hx
  have hb:=aBz hv he
  refine hs (ht ▸ ?_)
  unfold qY
  rw [List.getD_eq_getElem?_getD,List.getElem?_eq_getElem (show e.B.toNat < t.L.length by omega)]
  exact List.getElem_mem _
 |step _ _ _ ih=>exact ih
theorem aOj (hv:bM t) (s:aF):aHs t [] s=[]:=by
 obtain ⟨_,_,h⟩:=aJC hv (S:=[]) ⟨by simp,by simp⟩ s
 refine List.eq_nil_iff_forall_not_mem.2 fun q hq=>?_
 have hc:=(h.mem q).1 hq
 clear hq
 induction hc with
 |base hx=>
  obtain ⟨e,he,ht,hf,_⟩:=hx
  simp at hf
 |step _ _ _ ih=>exact ih
theorem aEJ (hv:bM t):∀ tr:List aF,jO t (aft t tr):=fun tr=>by
 unfold aft
 have:∀ (tr:List aF) (S:List Int),jO t S->jO t (tr.foldl (aHs t) S):=by
  intro tr
  induction tr with
  |nil=>intro S h;exact h
  |cons s tr ih=>intro S h;exact ih _ (aJC hv h s).2.1
 exact this tr _ (aGB hv).2.2
theorem fstS_ne (hv:bM t):vQ t≠[]:=by
 obtain ⟨R,_,h2,h3⟩:=aLX hv
 have:vQ t=R:=by unfold vQ;rw [h2];rfl
 rw [this]
 intro e
 have:=(h3.mem t.I).2 (Cl.base rfl)
 rw [e] at this
 simp at this
noncomputable def iM (t:bF):bF:=⟨((eA t).1.length:Int),0,t.L,(eA t).2⟩
theorem aKX (hv:bM t) (hs:(eA t).1.length<=40):∀ e,e∈(eA t).2<->∃ (j:Nat) (S:List Int),(eA t).1[j]?=some S/\∃ k:Nat,1<=k/\k < t.L.length/\nxt t S (k:Int)≠[]/\nxt t S (k:Int)∈(eA t).1/\e=⟨(j:Int),(k:Int),pos (eA t).1 (nxt t S (k:Int))⟩:=by
 have hl:=hv.2.2.1.1
 obtain ⟨g1,g2⟩:=aIJ (key:=id) (iO t) 40 41 0 ([vQ t],[]) hs (by have:=hs;unfold eA at this;omega) (Nat.zero_le _)
 intro e
 have h2:=g2 e
 rw [show xpl id (iO t) 40 41 0 ([vQ t],[])=eA t from rfl] at g1 h2
 simp only [List.map_id,id] at g1 h2
 rw [h2]
 constructor
 ·rintro (h|⟨j,S,_,hj,x,hx,rfl⟩)
  ·simp at h
  ·have hin:=g1 j S (Nat.zero_le _) hj x hx
   unfold iO at hx
   obtain ⟨k,h3,h4,h5,rfl⟩:=(aGm S _ _).1 hx
   exact ⟨j,S,hj,k,h3,by omega,h5,hin,rfl⟩
 ·rintro ⟨j,S,hj,k,h3,h4,h5,h6,rfl⟩
  refine .inr ⟨j,S,Nat.zero_le _,hj,((k:Int),nxt t S (k:Int)),?_,rfl⟩
  unfold iO
  exact (aGm S _ _).2 ⟨k,h3,by omega,h5,rfl⟩
theorem dfin_next (hv:bM t) (hs:(eA t).1.length<=40) {j:Nat} {S:List Int} (hj:(eA t).1[j]?=some S) {k:Nat} (h1:1<=k) (h2:k < t.L.length) (h3:nxt t S (k:Int)≠[]):nxt t S (k:Int)∈(eA t).1:=by
 obtain ⟨g1,_⟩:=aIJ (key:=id) (iO t) 40 41 0 ([vQ t],[]) hs (by have:=hs;unfold eA at this;omega) (Nat.zero_le _)
 rw [show xpl id (iO t) 40 41 0 ([vQ t],[])=eA t from rfl] at g1
 simp only [List.map_id,id] at g1
 refine g1 j S (Nat.zero_le _) hj ((k:Int),nxt t S (k:Int)) ?_
 unfold iO
 exact (aGm S _ _).2 ⟨k,h1,by omega,h3,rfl⟩
theorem dfin_good (hv:bM t) {j:Nat} {S:List Int} (hj:(eA t).1[j]?=some S):jO t S:=(aFi hv).2.1 S (List.mem_of_getElem? hj)
theorem dfin_zero (hv:bM t) (hs:Small (eA t)):(eA t).1[0]?=some (vQ t):=by
 obtain ⟨C,hC⟩:=(aId (key:=id) (iO t) 40 41 0 ([vQ t],[])).1
 rw [show xpl id (iO t) 40 41 0 ([vQ t],[])=eA t from rfl] at hC
 rw [←hC]
 rfl
theorem aGn {γ:Type} {p:List γ->Prop} (nil:p []) (snoc:∀ l x,p l->p (l++[x])):∀ l,p l:=by
 have:∀ l:List γ,p l.reverse:=by
  intro l
  induction l with
  |nil=>exact nil
  |cons x l ih=>rw [List.reverse_cons];exact snoc _ _ ih
 intro l
 have:=this l.reverse
 rwa [List.reverse_reverse] at this
theorem det_go (hv:bM t) (hs:Small (eA t)) {k:Nat} {S:List Int} (hk:(eA t).1[k]?=some S) {s:aF} (hs':s≠bU):
  (aHs t S s=[]/\goF (iM t) (k:Int) s=-1)\/∃ j:Nat,(eA t).1[j]?=some (aHs t S s)/\aHs t S s≠[]/\goF (iM t) (k:Int) s=(j:Int):=by
 have hg:=dfin_good hv hk
 have hnd:(eA t).1.Nodup:=by have:=(aFi hv).1;rwa [List.map_id] at this
 unfold goF
 cases hf:(iM t).E.find? (hit (iM t) (k:Int) s) with
 |some e=>
  right
  have he:=List.mem_of_find?_eq_some hf
  have hh:=List.find?_some hf
  obtain ⟨j,S',hj,n,h1,h2,h3,h4,rfl⟩:=(aKX hv hs.1 e).1 he
  unfold hit at hh
  rw [Bool.and_eq_true,beq_iff_eq,beq_iff_eq] at hh
  obtain ⟨e1,e2⟩:=hh
  have e1:(j:Int)=(k:Int):=e1
  obtain rfl:j=k:=by omega
  rw [hk] at hj
  cases hj
  have e2:t.L.getD n []=s:=e2
  rw [List.getD_eq_getElem?_getD,List.getElem?_eq_getElem h2] at e2
  have e2:t.L[n]=s:=e2
  rw [←e2,aMY hv hg h2]
  obtain ⟨i,hi,hp,hq⟩:=wX h4
  exact ⟨i,by rw [List.getElem?_eq_getElem hi,hq],h3,hp⟩
 |none=>
  left
  refine ⟨?_,rfl⟩
  by_cases hm:s∈t.L
  ·obtain ⟨n,hn,rfl⟩:=List.mem_iff_getElem.1 hm
   rw [aMY hv hg hn]
   have h1:1<=n:=by
    rcases Nat.eq_zero_or_pos n with rfl|h
    ·exact absurd (hv.2.2.1.2.2.1 hn) hs'
    ·exact h
   by_cases h0:nxt t S (n:Int)=[]
   ·exact h0
   ·exfalso
    have:=List.find?_eq_none.1 hf ⟨(k:Int),(n:Int),pos (eA t).1 (nxt t S (n:Int))⟩ ((aKX hv hs.1 _).2 ⟨k,S,hk,n,h1,hn,h0,dfin_next hv hs.1 hk h1 hn h0,rfl⟩)
    refine this ?_
    unfold hit
    rw [Bool.and_eq_true,beq_iff_eq,beq_iff_eq]
    refine ⟨rfl,?_⟩
    show t.L.getD n []=t.L[n]
    rw [List.getD_eq_getElem?_getD,List.getElem?_eq_getElem hn];rfl
  ·exact visT_none hv hg hm
def jB (d:bF) (tr:List aF):Int:=tr.foldl (goF d) 0
theorem rY (d:bF) (tr:List aF) (s:aF):jB d (tr++[s])=goF d (jB d tr) s:=by unfold jB;rw [List.foldl_append];rfl
theorem aJD (hv:bM t) (hs:Small (eA t)) {tr:List aF} (ht:∀ s∈tr,s≠bU):(aft t tr=[]/\jB (iM t) tr=-1)\/∃ j:Nat,(eA t).1[j]?=some (aft t tr)/\aft t tr≠[]/\jB (iM t) tr=(j:Int):=by
 induction tr using aGn with
 |nil=>exact .inr ⟨0,dfin_zero hv hs,fstS_ne hv,rfl⟩
 |snoc tr s ih=>
  have hs':s≠bU:=ht s (by simp)
  rw [aIf,rY]
  rcases ih fun x hx=>ht x (by simp [hx]) with ⟨h1,h2⟩|⟨j,h1,h2,h3⟩
  ·left
   rw [h1,h2]
   exact ⟨aOj hv s,aMH (aJz hv hs).1 (by decide) s⟩
  ·rw [h3]
   exact det_go hv hs h1 hs'
theorem aMZ (hv:bM t) (hs:Small (eA t)) {tr:List aF} (ht:∀ s∈tr,s≠bU):jB (iM t) tr < 0<->aft t tr=[]:=by
 rcases aJD hv hs ht with ⟨h1,h2⟩|⟨j,h1,h2,h3⟩
 ·simp [h1,h2]
 ·rw [h3];constructor
  ·intro h;omega
  ·intro h;exact absurd h h2
end
end Gv
namespace Gv
open Go
section
variable (a b:bF) (M:List aF)
def uF (e:aS):List aS:=M.map fun s=>⟨goF a e.a s,goF b e.b s,e.trace++[s]⟩
def bN (p q:Int):Prop:=p < 0/\q < 0
instance (p q:Int):Decidable (bN p q):=inferInstanceAs (Decidable (_/\_))
structure Stp (fd:Int->Int->Bool) (step:List ((Int × Int) × Bool) × List aS->Option ((List ((Int × Int) × Bool) × List aS) ⊕ (Unit ⊕ (List aF × Bool)))):Prop where
 nil:∀ l,step (mtt l,[])=some (.inr (.inl ()))
 skip:∀ l e r,r.length<=1000000->e.trace.length<=1000000->bN e.a e.b\/(e.a,e.b)∈l->step (mtt l,e::r)=some (.inl (mtt l,r))
 hit:∀ l e r,r.length<=1000000->e.trace.length<=1000000->¬ bN e.a e.b->(e.a,e.b)∉l->fd e.a e.b=true->(-1<=e.a/\e.a < a.N)/\(-1<=e.b/\e.b < b.N)->step (mtt l,e::r)=some (.inr (.inr (e.trace,true)))
 more:∀ l e r,r.length<=1000000->e.trace.length<=1000000->¬ bN e.a e.b->(e.a,e.b)∉l->fd e.a e.b=false->(-1<=e.a/\e.a < a.N)/\(-1<=e.b/\e.b < b.N)->step (mtt l,e::r)=some (.inl (mtt (l++[(e.a,e.b)]),r++uF a b M e))
def OvM (tr:List aF):Prop:=∀ s∈tr,s∈M
def FtRes (fd:Int->Int->Bool) (r:Unit ⊕ (List aF × Bool)):Prop:=
 match r with
 |.inl _=>∀ tr,OvM M tr->bN (jB a tr) (jB b tr)\/fd (jB a tr) (jB b tr)=false
 |.inr (tr,v)=>v=true/\tr.length<=2000/\OvM M tr/\¬ bN (jB a tr) (jB b tr)/\fd (jB a tr) (jB b tr)=true/\∀ tr' s r,tr=tr'++s::r->¬ bN (jB a tr') (jB b tr')/\fd (jB a tr') (jB b tr')=false
structure FtI (fd:Int->Int->Bool) (l:List (Int × Int)) (todo:List aS):Prop where
 nd:l.Nodup
 rng:∀ p∈l,(-1<=p.1/\p.1<=39)/\-1<=p.2/\p.2<=39
 ok:∀ p∈l,¬ bN p.1 p.2/\fd p.1 p.2=false
 ent:∀ e∈todo,OvM M e.trace/\e.a=jB a e.trace/\e.b=jB b e.trace/\e.trace.length<=l.length/\∀ tr' s r,e.trace=tr'++s::r->¬ bN (jB a tr') (jB b tr')/\fd (jB a tr') (jB b tr')=false
 cls:∀ p∈l,∀ s∈M,bN (goF a p.1 s) (goF b p.2 s)\/(goF a p.1 s,goF b p.2 s)∈l\/∃ e∈todo,e.a=goF a p.1 s/\e.b=goF b p.2 s
 ini:(0,0)∈l\/∃ e∈todo,e.a=0/\e.b=0
 len:todo.length<=1+30 * l.length
end
section
variable {a b:bF} {M:List aF} {fd:Int->Int->Bool}
theorem FtI.small {l:List (Int × Int)} {todo:List aS} (h:FtI a b M fd l todo):l.length<=1681:=by
 have:=List.Nodup.length_le_of_subset (l₂:=(List.range 1681).map fun (i:Nat)=>(((i / 41:Nat):Int) - 1,((i % 41:Nat):Int) - 1)) h.nd (fun q hq=>by
  have hr:=h.rng q hq
  rw [List.mem_map]
  refine ⟨(q.1+1).toNat * 41+(q.2+1).toNat,by rw [List.mem_range];omega,?_⟩
  have e1:((q.1+1).toNat * 41+(q.2+1).toNat) / 41=(q.1+1).toNat:=by omega
  have e2:((q.1+1).toNat * 41+(q.2+1).toNat) % 41=(q.2+1).toNat:=by omega
  rw [e1,e2]
  refine Prod.ext ?_ ?_<;>simp only<;>omega)
 rw [List.length_map,List.length_range] at this
 exact this
theorem aOk {d:bF} (hd:bM d) (h0:d.N<=40) (tr:List aF):-1<=jB d tr/\jB d tr<=39:=by
 induction tr using aGn with
 |nil=>exact ⟨by show (-1:Int)<=0;decide,by show (0:Int)<=39;decide⟩
 |snoc tr s _=>rw [rY];have:=aMI hd (jB d tr) s;omega
theorem runD_st {d:bF} (hd:bM d) (tr:List aF):-1<=jB d tr/\jB d tr < d.N:=by
 have:=hd.1
 induction tr using aGn with
 |nil=>exact ⟨by show (-1:Int)<=0;decide,by show (0:Int) < _;omega⟩
 |snoc tr s _=>rw [rY];have:=aMI hd (jB d tr) s;omega
theorem aOl {d:bF} (hd:bM d) {tr:List aF} (h:jB d tr < 0) (s:aF):jB d (tr++[s]) < 0:=by
 rw [rY,aMH hd h];decide
theorem aKY {step:_} (h:Stp a b M fd step) (ha:bM a) (hb:bM b) (hM:M.length<=30):∃ r,loop step (mtt [],[⟨0,0,[]⟩])=some r/\FtRes a b M fd r:=by
 have a40:=ha.1
 have b40:=hb.1
 refine pA (fun s=>∃ l todo,s=(mtt l,todo)/\FtI a b M fd l todo) (fun s=>31 * (1681 - s.1.length)+s.2.length) (FtRes a b M fd) (fun s hs=>?_) ⟨[],[⟨0,0,[]⟩],rfl,⟨by simp,by simp,by simp,?_,by simp,.inr ⟨_,List.mem_singleton.2 rfl,rfl,rfl⟩,by simp⟩⟩
 ·obtain ⟨l,todo,rfl,hI⟩:=hs
  have hl:=hI.small
  cases todo with
  |nil=>
   right
   refine ⟨_,h.nil l,fun tr htr=>?_⟩
   have:bN (jB a tr) (jB b tr)\/(jB a tr,jB b tr)∈l:=by
    induction tr using aGn with
    |nil=>
     rcases hI.ini with h0|⟨e,he,_⟩
     ·exact .inr h0
     ·simp at he
    |snoc tr s ih=>
     rcases ih (fun x hx=>htr x (by simp [hx])) with h1|h1
     ·exact .inl ⟨aOl ha h1.1 s,aOl hb h1.2 s⟩
     ·rw [rY,rY]
      rcases hI.cls _ h1 s (htr s (by simp)) with h2|h2|⟨e,he,_⟩
      ·exact .inl h2
      ·exact .inr h2
      ·simp at he
   rcases this with h1|h1
   ·exact .inl h1
   ·exact .inr (hI.ok _ h1).2
  |cons e r=>
   have hlen:=hI.len
   simp only [List.length_cons] at hlen
   obtain ⟨e1,e2,e3,e4,e5⟩:=hI.ent e List.mem_cons_self
   have hr:r.length<=1000000:=by omega
   have ht:e.trace.length<=1000000:=by omega
   by_cases hsk:bN e.a e.b\/(e.a,e.b)∈l
   ·left
    refine ⟨(mtt l,r),h.skip l e r hr ht hsk,⟨l,r,rfl,hI.nd,hI.rng,hI.ok,fun x hx=>hI.ent x (List.mem_cons_of_mem _ hx),fun p hp s hs=>?_,?_,by omega⟩,by simp only [List.length_cons];omega⟩
    ·rcases hI.cls p hp s hs with g|g|⟨x,hx,g1,g2⟩
     ·exact .inl g
     ·exact .inr (.inl g)
     ·rcases List.mem_cons.1 hx with rfl|hx
      ·rw [g1,g2] at hsk
       rcases hsk with g|g
       ·exact .inl g
       ·exact .inr (.inl g)
      ·exact .inr (.inr ⟨x,hx,g1,g2⟩)
    ·rcases hI.ini with g|⟨x,hx,g1,g2⟩
     ·exact .inl g
     ·rcases List.mem_cons.1 hx with rfl|hx
      ·rw [g1,g2] at hsk
       rcases hsk with g|g
       ·exact absurd g.1 (by decide)
       ·exact .inl g
      ·exact .inr ⟨x,hx,g1,g2⟩
   ·have hn:¬ bN e.a e.b:=fun g=>hsk (.inl g)
    have hnl:(e.a,e.b)∉l:=fun g=>hsk (.inr g)
    have hin:(-1<=e.a/\e.a < a.N)/\(-1<=e.b/\e.b < b.N):=by rw [e2,e3];exact ⟨runD_st ha _,runD_st hb _⟩
    cases hfd:fd e.a e.b with
    |true=>
     right
     refine ⟨_,h.hit l e r hr ht hn hnl hfd hin,rfl,by omega,e1,?_,?_,e5⟩
     ·rw [←e2,←e3];exact hn
     ·rw [←e2,←e3];exact hfd
    |false=>
     left
     have hra:=aOk ha (by omega) e.trace
     have hrb:=aOk hb (by omega) e.trace
     rw [←e2] at hra
     rw [←e3] at hrb
     have hnew:FtI a b M fd (l++[(e.a,e.b)]) (r++uF a b M e):=by
      refine ⟨List.nodup_append.2 ⟨hI.nd,by simp,fun x hx y hy=>?_⟩,fun p hp=>?_,fun p hp=>?_,fun x hx=>?_,fun p hp s hs=>?_,?_,?_⟩
      ·rw [List.mem_singleton] at hy
       subst hy
       exact fun g=>hnl (g ▸ hx)
      ·rcases List.mem_append.1 hp with hp|hp
       ·exact hI.rng p hp
       ·rw [List.mem_singleton] at hp
        subst hp
        exact ⟨hra,hrb⟩
      ·rcases List.mem_append.1 hp with hp|hp
       ·exact hI.ok p hp
       ·rw [List.mem_singleton] at hp
        subst hp
        exact ⟨hn,hfd⟩
      ·rcases List.mem_append.1 hx with hx|hx
       ·obtain ⟨g1,g2,g3,g4,g5⟩:=hI.ent x (List.mem_cons_of_mem _ hx)
        exact ⟨g1,g2,g3,by rw [List.length_append];omega,g5⟩
       ·unfold uF at hx
        obtain ⟨s,hs,rfl⟩:=List.mem_map.1 hx
        refine ⟨fun y hy=>?_,?_,?_,?_,fun tr' s' r' hx'=>?_⟩
        ·rcases List.mem_append.1 hy with hy|hy
         ·exact e1 y hy
         ·rw [List.mem_singleton] at hy
          exact hy ▸ hs
        ·show goF a e.a s=jB a (e.trace++[s])
         rw [rY,e2]
        ·show goF b e.b s=jB b (e.trace++[s])
         rw [rY,e3]
        ·show (e.trace++[s]).length<=_
         simp only [List.length_append,List.length_singleton];omega
        ·have hx':e.trace++[s]=tr'++s'::r':=hx'
         rcases List.eq_nil_or_concat r' with rfl|⟨r',z,rfl⟩
         ·obtain ⟨rfl,_⟩:=List.append_inj' hx' rfl
          rw [←e2,←e3]
          exact ⟨hn,hfd⟩
         ·have hx2:e.trace++[s]=(tr'++s'::r')++[z]:=by rw [hx'];simp
          obtain ⟨h1,_⟩:=List.append_inj' hx2 rfl
          exact e5 tr' s' r' h1
      ·rcases List.mem_append.1 hp with hp|hp
       ·rcases hI.cls p hp s hs with g|g|⟨x,hx,g1,g2⟩
        ·exact .inl g
        ·exact .inr (.inl (List.mem_append_left _ g))
        ·rcases List.mem_cons.1 hx with rfl|hx
         ·refine .inr (.inl (List.mem_append_right _ (List.mem_singleton.2 ?_)))
          rw [g1,g2]
         ·exact .inr (.inr ⟨x,List.mem_append_left _ hx,g1,g2⟩)
       ·rw [List.mem_singleton] at hp
        subst hp
        exact .inr (.inr ⟨⟨goF a e.a s,goF b e.b s,e.trace++[s]⟩,List.mem_append_right _ (List.mem_map.2 ⟨s,hs,rfl⟩),rfl,rfl⟩)
      ·rcases hI.ini with g|⟨x,hx,g1,g2⟩
       ·exact .inl (List.mem_append_left _ g)
       ·rcases List.mem_cons.1 hx with rfl|hx
        ·refine .inl (List.mem_append_right _ (List.mem_singleton.2 ?_))
         rw [g1,g2]
        ·exact .inr ⟨x,List.mem_append_left _ hx,g1,g2⟩
      ·unfold uF
       simp only [List.length_append,List.length_map,List.length_singleton];omega
     have hl2:=hnew.small
     refine ⟨(mtt (l++[(e.a,e.b)]),r++uF a b M e),h.more l e r hr ht hn hnl hfd hin,⟨_,_,rfl,hnew⟩,?_⟩
     simp only [mtt_len,List.length_append,List.length_singleton,List.length_cons] at hl2 ⊢
     unfold uF
     rw [List.length_map]
     omega
 ·intro e he
  rw [List.mem_singleton] at he
  subst he
  exact ⟨fun s hs=>(by simp at hs),rfl,rfl,Nat.le_refl _,fun tr' s r h=>by simp at h⟩
end
end Gv
namespace Gv
open Go
section
variable {a b:bF} {M:List aF}
theorem aIg {γ:Type} (x:γ) (l:List γ):nV (x::l) 1 ((x::l).length:Int)=some l:=by
 unfold nV
 rw [if_pos ⟨by decide,by simp;omega,by simp⟩]
 simp
theorem aCn {l:List aF} (h:l.length<=2000000):bQ l=some l:=by
 unfold bQ
 rw [cX (by simp [kJ];omega),aA,List.nil_append]
theorem ft_push (ha:aBo a) (hb:aBo b) (hM:M.length<=30) {e:aS} {r:List aS} (hr:r.length<=1000000) (ht:e.trace.length<=1000000):
  loop (fun s:List aS × Int=>iZ a b M e s.1 s.2) (r,0)=some (r++uF a b M e):=by
 obtain ⟨x,h1,h2⟩:=jJ (step:=fun s:List aS × Int=>iZ a b M e s.1 s.2) M.length (fun k (q:List aS)=>(q,(k:Int))) (fun k q=>q=r++uF a b (M.take k) e) (fun q=>q=r++uF a b M e) (fun k q hk hI=>by
  subst hI
  refine ⟨r++uF a b (M.take (k+1)) e,?_,rfl⟩
  show iZ a b M e (r++uF a b (M.take k) e) (k:Int)=_
  unfold iZ wQ
  have hl:(uF a b (M.take k) e).length=k:=by unfold uF;rw [List.length_map,List.length_take];omega
  rw [if_pos (cF hk),cN hk,aA,step_eq ha.1 ha.2,aA,step_eq hb.1 hb.2,aA,aCn (by omega),aA,cX (by simp [kJ];omega),aA,cX (by simp only [List.length_append,List.length_singleton,hl,kJ];omega),aA,bV hk (by omega)]
  unfold uF
  rw [List.take_succ_eq_append_getElem hk,List.map_append,List.map_singleton,List.append_assoc]) (fun q hI=>by
  subst hI
  refine ⟨r++uF a b (M.take M.length) e,?_,by rw [List.take_length]⟩
  show iZ a b M e (r++uF a b (M.take M.length) e) (M.length:Int)=_
  unfold iZ
  rw [if_neg (by simp)]) M.length 0 r (by omega) (by simp [uF])
 subst h2
 exact h1
def aJe:Unit ⊕ (List aF × Bool)->List aF × Bool
 |.inl _=>([],false)
 |.inr x=>x
theorem aKZ (ha:bM a) (hb:bM b):∃ M,Jn a b M/\(ob (cG [a.L,b.L]) fun r35=>ob (aCV 1 0 r35 []) fun r47=>nV r47.L 1 (r47.L.length:Int))=some M:=by
 obtain ⟨M,_,hJ,_⟩:=jn_of ha hb
 have h1:=ha.2.2.1.2.1
 have h2:=hb.2.2.1.2.1
 refine ⟨M,hJ,?_⟩
 rw [aPi _ _ (by omega),aA,lts_gen (M:=M) (Eo:=[]) hJ.str hJ.mem (by rw [List.length_append];omega) (by simp) (by simp) (by unfold SE;simp) (by simp) (by have:=hJ.len;omega),aA]
 exact aIg bU M
end
end Gv
namespace Gv
open Go
def VisL (s:aF):Prop:=mC s=true/\s≠bU/\s.length<=999999999
section
variable {t:bF}
theorem aAo (hv:bM t) (hf:cJ 999999999 t) {s:aF} (hs:s∈t.L.tail):VisL s:=by
 have hl:=hv.2.2.1
 obtain ⟨k,hk,rfl⟩:=List.mem_iff_getElem.1 hs
 rw [List.length_tail] at hk
 have h:=hl.2.2.2 (k+1) (by omega) (by omega)
 rw [List.getElem_tail]
 exact ⟨h.1,h.2.1,hf.2.1 _ (List.getElem_mem _)⟩
theorem aGo (hv:bM t) {tr:List aF} (hl:tr.length<=1000000000):jH t tr=some (aft t tr):=by
 unfold jH
 rw [(aGB hv).2.1,aA]
 obtain ⟨r,h1,h2⟩:=jJ (step:=fun s:List Int × Int=>nF t tr s.1 s.2) tr.length (fun k (q:List Int)=>(q,(k:Int))) (fun k q=>q=aft t (tr.take k)) (fun q=>q=aft t tr) (fun k q hk hI=>by
  subst hI
  refine ⟨aft t (tr.take (k+1)),?_,rfl⟩
  show nF t tr (aft t (tr.take k)) (k:Int)=_
  unfold nF
  rw [if_pos (cF hk),cN hk,aA,(aJC hv (aEJ hv _) _).1,aA,bV hk (by omega),List.take_succ_eq_append_getElem hk,aIf]) (fun q hI=>by
  subst hI
  refine ⟨aft t (tr.take tr.length),?_,by rw [List.take_length]⟩
  show nF t tr (aft t (tr.take tr.length)) (tr.length:Int)=_
  unfold nF
  rw [if_neg (by simp)]) tr.length 0 (vQ t) (by omega) rfl
 subst h2
 have h1':loop (fun s:List Int × Int=>nF t tr s.1 s.2) (vQ t,0)=some (aft t tr):=h1
 rw [h1',aA];rfl
theorem out_eqI {d:bF} (hd:bM d) (k:Int):uR d k=some (aBA d k):=by
 have hal:=hd.2.2.2.1
 unfold uR
 rw [aBn (step:=fun s:List Edge × Int=>oC d k s.1 s.2) d.E (fun e=>e.F == k) id id (fun j out x hk ho hx=>?_) (fun out=>by simp only [oC,cB];rfl),aA]
 ·simp [aBS,aBA]
 ·simp only [oC,cF hk,if_pos,hx,aA,uQ,bV hk (show d.E.length < 4611686018427387904 by omega)]
  rw [cX (by simp [kJ];omega),aA]
  cases x.F == k<;>rfl
theorem aOm {d:bF} (hd:aBo d) {e:Edge} (he:e∈d.E):goF d e.F (qY d e)=e.To:=by
 have h:=hit_one hd.1 hd.2 e.F (qY d e)
 have hm:e∈d.E.filter (hit d e.F (qY d e)):=List.mem_filter.2 ⟨he,by unfold hit;simp⟩
 unfold goF
 rw [h] at hm
 cases hf:d.E.find? (hit d e.F (qY d e)) with
 |none=>rw [hf] at hm;simp at hm
 |some x=>
  rw [hf] at hm
  simp at hm
  rw [hm]
def kid (d:bF) (n:Nat) (e:aS):List aS:=if e.trace.length=n then [] else (aBA d e.a).map fun x=>⟨x.To,0,e.trace++[qY d x]⟩
structure EntP (d:bF) (n:Nat) (e:aS):Prop where
 len:e.trace.length<=n
 lab:∀ s∈e.trace,s∈d.L.tail
 run:e.a=jB d e.trace
 pos:0<=e.a
theorem kid_ok {d:bF} (hd:aBo d) {n:Nat} {e x:aS} (he:EntP d n e) (hx:x∈kid d n e):EntP d n x:=by
 unfold kid at hx
 split at hx
 ·simp at hx
 ·rename_i hn
  obtain ⟨y,hy,rfl⟩:=List.mem_map.1 hx
  unfold aBA at hy
  obtain ⟨hy1,hy2⟩:=List.mem_filter.1 hy
  rw [beq_iff_eq] at hy2
  have hb:=aBz hd.1 hy1
  obtain ⟨k,hk,hke⟩:=List.mem_iff_getElem.1 hy1
  have hs:=(hd.2 k hk).1
  rw [hke] at hs
  have hlen:=he.len
  refine ⟨by simp only [List.length_append,List.length_singleton];omega,fun s h=>?_,?_,hb.2.1.1⟩
  ·rcases List.mem_append.1 h with h|h
   ·exact he.lab s h
   ·rw [List.mem_singleton] at h
    subst h
    unfold qY
    have hlt:y.B.toNat < d.L.length:=by omega
    rw [List.getD_eq_getElem?_getD,List.getElem?_eq_getElem hlt]
    rw [List.mem_iff_getElem]
    refine ⟨y.B.toNat - 1,by rw [List.length_tail];omega,?_⟩
    rw [List.getElem_tail]
    show d.L[y.B.toNat - 1+1]=d.L[y.B.toNat]
    congr 1
    omega
  ·show y.To=jB d (e.trace++[qY d y])
   rw [rY,←he.run,←hy2,aOm hd hy1]
theorem tr_push {d:bF} (hd:aBo d) {c:Int} {n:Nat} (hn:n<=1000) {e:aS} (he:EntP d n e) {r:List aS} (hr:r.length<=1000000):
  loop (fun s:List aS × Int=>mL (d,c) e (aBA d e.a) s.1 s.2) (r,0)=some (r++(aBA d e.a).map fun x=>⟨x.To,0,e.trace++[qY d x]⟩):=by
 have h3:=hd.1.2.2.2.1
 have ol:(aBA d e.a).length<=300:=Nat.le_trans (List.length_filter_le _ _) h3
 have hlen:=he.len
 obtain ⟨x,h1,h2⟩:=jJ (step:=fun s:List aS × Int=>mL (d,c) e (aBA d e.a) s.1 s.2) (aBA d e.a).length (fun k (q:List aS)=>(q,(k:Int))) (fun k q=>q=r++((aBA d e.a).take k).map fun x=>(⟨x.To,0,e.trace++[qY d x]⟩:aS)) (fun q=>q=r++(aBA d e.a).map fun x=>(⟨x.To,0,e.trace++[qY d x]⟩:aS)) (fun k q hk hI=>by
  subst hI
  refine ⟨_,?_,rfl⟩
  show mL (d,c) e (aBA d e.a) (r++((aBA d e.a).take k).map fun x=>(⟨x.To,0,e.trace++[qY d x]⟩:aS)) (k:Int)=some (.inl (r++((aBA d e.a).take (k+1)).map fun x=>(⟨x.To,0,e.trace++[qY d x]⟩:aS),((k+1:Nat):Int)))
  unfold mL aAR
  have hm:(aBA d e.a)[k]∈d.E:=(List.mem_filter.1 (List.getElem_mem hk)).1
  have hl:(((aBA d e.a).take k).map fun x=>(⟨x.To,0,e.trace++[qY d x]⟩:aS)).length=k:=by rw [List.length_map,List.length_take];omega
  rw [if_pos (cF hk),cN hk,aA]
  show (ob (ix d.L (aBA d e.a)[k].B) fun e332=>_)=_
  rw [aAm (nJ hd.1 hm),aA,aCn (by omega),aA,cX (by simp [kJ];omega),aA,cX (by simp only [List.length_append,List.length_singleton,hl,kJ];omega),aA,bV hk (by omega),List.take_succ_eq_append_getElem hk,List.map_append,List.map_singleton,List.append_assoc]) (fun q hI=>by
  subst hI
  refine ⟨r++((aBA d e.a).take (aBA d e.a).length).map fun x=>⟨x.To,0,e.trace++[qY d x]⟩,?_,by rw [List.take_length]⟩
  show mL (d,c) e (aBA d e.a) _ ((aBA d e.a).length:Int)=some (.inr (r++((aBA d e.a).take (aBA d e.a).length).map fun x=>(⟨x.To,0,e.trace++[qY d x]⟩:aS)))
  unfold mL
  rw [if_neg (by simp)]) (aBA d e.a).length 0 r (by omega) (by simp)
 subst h2
 exact h1
theorem tr_all {d:bF} (hd:aBo d) (c:Int) {n:Nat} (hn:n<=1000):∃ all,loop (fun s:List aS × Int=>jQ (n:Int) (d,c) s.1 s.2) ([⟨0,0,[]⟩],0)=some all/\1<=all.length/\all.length<=1000/\(∀ e∈all,EntP d n e)/\(all.length<=200->all=⟨0,0,[]⟩::all.flatMap (kid d n)):=by
 have h3:=hd.1.2.2.2.1
 refine pA (step:=fun s:List aS × Int=>jQ (n:Int) (d,c) s.1 s.2) (fun s=>∃ i:Nat,s.2=(i:Int)/\i<=s.1.length/\1<=s.1.length/\s.1.length<=1000/\i<=201/\(∀ e∈s.1,EntP d n e)/\s.1=⟨0,0,[]⟩::(s.1.take i).flatMap (kid d n)) (fun s=>202 - s.2.toNat)
  (fun all=>1<=all.length/\all.length<=1000/\(∀ e∈all,EntP d n e)/\(all.length<=200->all=⟨0,0,[]⟩::all.flatMap (kid d n))) (fun s hI=>?_) ⟨0,rfl,by simp,by simp,by simp,by omega,fun e he=>?_,by simp⟩
 ·obtain ⟨all,p⟩:=s
  obtain ⟨i,rfl,i1,i2,i3,i4,i5,i6⟩:=hI
  simp only at i1 i2 i3 i5 i6 ⊢
  show (∃ s',jQ (n:Int) (d,c) all (i:Int)=_/\_)\/_
  by_cases h1:i < all.length
  ·by_cases h2:all.length<=200
   ·left
    have he:=i5 _ (List.getElem_mem h1)
    have hj4:∀ all',rX (i:Int) all'=some (.inl (all',((i+1:Nat):Int))):=fun all'=>by unfold rX;rw [bV h1 (by omega)]
    have ol:(aBA d all[i].a).length<=300:=Nat.le_trans (List.length_filter_le _ _) h3
    have hstep:jQ (n:Int) (d,c) all (i:Int)=some (.inl (all++kid d n all[i],((i+1:Nat):Int))):=by
     unfold jQ
     rw [if_pos (cF h1),decide_eq_true (p:=(all.length:Int)<=200) (by omega)]
     unfold oQ
     rw [if_pos rfl,cN h1,aA]
     unfold kid
     by_cases hk:all[i].trace.length=n
     ·rw [if_pos (by simp [hk]),if_pos hk,List.append_nil,hj4]
     ·rw [if_neg (by simp;omega),if_neg hk]
      show (ob (uR d all[i].a) fun r223=>_)=_
      rw [out_eqI hd.1,aA,tr_push hd hn he (by omega),aA]
      exact hj4 _
    have hkl:(kid d n all[i]).length<=300:=by
     unfold kid
     split
     ·simp
     ·rw [List.length_map];exact ol
    refine ⟨_,hstep,⟨i+1,rfl,by simp only [List.length_append];omega,by simp only [List.length_append];omega,by simp only [List.length_append];omega,by omega,fun e hx=>?_,?_⟩,by simp only;omega⟩
    ·rcases List.mem_append.1 hx with hx|hx
     ·exact i5 e hx
     ·exact kid_ok hd he hx
    ·simp only
     rw [List.take_append_of_le_length (by omega),List.take_succ_eq_append_getElem h1,List.flatMap_append,List.flatMap_singleton,←List.cons_append,←i6]
   ·right
    refine ⟨all,?_,i2,i3,i5,fun h=>absurd h h2⟩
    unfold jQ
    rw [if_pos (cF h1),decide_eq_false (p:=(all.length:Int)<=200) (by omega)]
    unfold oQ
    rw [if_neg (by simp)]
  ·right
   refine ⟨all,?_,i2,i3,i5,fun _=>?_⟩
   ·unfold jQ
    rw [if_neg (by simp;omega)]
    unfold oQ
    rw [if_neg (by simp)]
   ·rw [List.take_of_length_le (by omega)] at i6
    exact i6
 ·rw [List.mem_singleton] at he
  subst he
  exact ⟨by simp,by simp,rfl,by simp⟩
theorem tr_names {all:List aS} (h:all.length<=1000):loop (fun s:List (List aF) × Int=>mK all s.1 s.2) ([],0)=some (all.map (·.trace)):=by
 obtain ⟨x,h1,h2⟩:=jJ (step:=fun s:List (List aF) × Int=>mK all s.1 s.2) all.length (fun k (q:List (List aF))=>(q,(k:Int))) (fun k q=>q=(all.take k).map (·.trace)) (fun q=>q=all.map (·.trace)) (fun k q hk hI=>by
  subst hI
  refine ⟨(all.take (k+1)).map (·.trace),?_,rfl⟩
  show mK all ((all.take k).map (·.trace)) (k:Int)=_
  unfold mK
  have hl:((all.take k).map (·.trace)).length=k:=by rw [List.length_map,List.length_take];omega
  rw [if_pos (cF hk),cN hk,aA,cX (by simp only [List.length_singleton,hl,kJ];omega),aA,bV hk (by omega),List.take_succ_eq_append_getElem hk,List.map_append,List.map_singleton]) (fun q hI=>by
  subst hI
  refine ⟨(all.take all.length).map (·.trace),?_,by rw [List.take_length]⟩
  show mK all ((all.take all.length).map (·.trace)) (all.length:Int)=_
  unfold mK
  rw [if_neg (by simp)]) all.length 0 [] (by omega) rfl
 subst h2
 exact h1
theorem aNa (hv:bM t) (hf:cJ 999999999 t) {n:Nat} (hn:n<=12):aDL t (n:Int)=some (if Small (eA t) then (iM t,0) else (⟨0,0,[],[]⟩,5)):=by
 unfold aDL
 rw [uE t hf,vD hv,aA,if_neg (by simp)]
 unfold rC aDA
 rw [if_pos (by simp),decide_eq_true (p:=(n:Int)<=12) (by omega),aA,if_neg (by simp),aGl hv hf,aA]
 unfold detS iM
 by_cases hs:Small (eA t)
 ·rw [if_pos hs,if_pos hs];rfl
 ·rw [if_neg hs,if_neg hs];rfl
theorem aOn (hv:bM t) (hf:cJ 999999999 t) (hs:Small (eA t)) {n:Nat} (hn:n<=12):∃ all,1<=all.length/\(∀ e∈all,EntP (iM t) n e)/\(all.length<=200->all=⟨0,0,[]⟩::all.flatMap (kid (iM t) n))/\aAC t (n:Int)=some (if 200 < all.length then ([],5) else (all.map (·.trace),0)):=by
 obtain ⟨all,h1,h2,h3,h4,h5⟩:=tr_all (n:=n) (aJz hv hs) 0 (by omega)
 refine ⟨all,h2,h4,h5,?_⟩
 unfold aAC
 rw [aNa hv hf hn,if_pos hs,aA,if_neg (by simp)]
 have h1':loop (fun s:List aS × Int=>jQ (n:Int) (iM t,0) s.1 s.2) (([⟨0,0,[]⟩]:List aS),0)=some all:=h1
 rw [h1',aA]
 unfold aAQ
 by_cases hl:200 < all.length
 ·rw [if_pos (by simp;omega),if_pos hl]
 ·rw [if_neg (by simp;omega),if_neg hl,tr_names h3,aA];rfl
end
end Gv
namespace Gv
open Go
section
variable {a b:bF}
def OvL (a b:bF) (tr:List aF):Prop:=∀ s∈tr,s∈a.L++b.L/\s≠bU
theorem OvL.symm {tr:List aF} (h:OvL a b tr):OvL b a tr:=fun s hs=>⟨by
 have:=(h s hs).1
 rw [List.mem_append] at this ⊢
 exact this.symm,(h s hs).2⟩
theorem OvL.vis (ha:bM a) (hb:bM b) (fa:cJ 999999999 a) (fb:cJ 999999999 b) {tr:List aF} (h:OvL a b tr):∀ s∈tr,VisL s:=fun s hs=>by
 obtain ⟨h1,h2⟩:=h s hs
 have key:∀ {t:bF},bM t->cJ 999999999 t->s∈t.L->VisL s:=fun {t} hv hf h=>by
  obtain ⟨h0,e0⟩:=tau_at hv
  refine aAo hv hf ?_
  rw [(aEI hv).1] at h
  rcases List.mem_cons.1 h with h|h
  ·exact absurd h h2
  ·exact h
 rcases List.mem_append.1 h1 with h|h
 ·exact key ha fa h
 ·exact key hb fb h
theorem aMc (t:bF):(detS t).2.2=decide (Small (eA t)):=by
 unfold detS
 by_cases h:Small (eA t)
 ·rw [if_pos h,decide_eq_true h]
 ·rw [if_neg h,decide_eq_false h]
theorem jn_ov {M:List aF} (hJ:Jn (iM a) (iM b) M) {tr:List aF}:OvM M tr<->OvL a b tr:=by
 constructor
 ·intro h s hs;exact (hJ.mem s).1 (h s hs)
 ·intro h s hs;exact (hJ.mem s).2 (h s hs)
end
end Gv
namespace Gv
open Go
def StW (b:bF) (kind y:Int) (s:aF) (w:Int):Prop:=if kind=2 then Wk b y s w else ∃ f∈b.E,f.F=y/\qY b f=s/\f.To=w
section
variable {a b:bF} {kind:Int}
theorem StW.inn (hb:bM b) {y:Int} (hy:inT b y) {s:aF} {w:Int} (h:StW b kind y s w):inT b w:=by
 unfold StW at h
 split at h
 ·exact h.inn hb hy
 ·obtain ⟨f,hf,_,_,rfl⟩:=h
  exact (aKU hb hf).2.1
end
end Gv
namespace Gv
open Go
theorem aMd (a b:List aF) (h:a.length < 4611686018427387904):eI a b=some (decide (a=b)):=by
 unfold eI
 by_cases hl:a.length=b.length
 ·rw [if_neg (by simp [hl])]
  have:=wM (step:=fun s=>gM a b s) (a.zip b) (fun p=>decide (p.1=p.2)) (.inr false) (.inl ()) (fun k x hk hx=>?_) ?_
  ·rw [this,aA]
   by_cases he:a=b
   ·subst he
    have:((a.zip a).all fun p=>decide (p.1=p.2))=true:=by
     rw [List.all_eq_true]
     intro p hp
     obtain ⟨i,hi,rfl⟩:=List.mem_iff_getElem.1 hp
     rw [List.getElem_zip];simp
    rw [if_pos this,decide_eq_true rfl];rfl
   ·have:¬ ((a.zip b).all fun p=>decide (p.1=p.2))=true:=fun h'=>he (List.ext_getElem hl fun i h1 h2=>by
     rw [List.all_eq_true] at h'
     have hiz:i < (a.zip b).length:=by rw [List.length_zip];omega
     have:=h' (a.zip b)[i] (List.getElem_mem hiz)
     rw [List.getElem_zip] at this
     simpa using this)
    rw [if_neg this,decide_eq_false he]
  ·have hzl:(a.zip b).length=a.length:=by rw [List.length_zip];omega
   rw [hzl] at hk
   obtain ⟨hk',rfl⟩:=mH hx
   unfold gM
   rw [if_pos (cF hk),cN hk,aA,cN (by omega),aA,List.getElem_zip]
   by_cases e:a[k]=b[k]'(by omega)
   ·rw [if_neg (by simp [e]),if_pos (by simp [e]),bV hk h]
   ·rw [if_pos (by simpa using e),if_neg (by simpa using e)]
  ·have hzl:(a.zip b).length=a.length:=by rw [List.length_zip];omega
   rw [hzl]
   unfold gM
   rw [if_neg (by simp)]
 ·rw [if_pos (by simp;omega),decide_eq_false (fun h=>hl (by rw [h]))]
section
variable {a b:bF} {kind:Int}
theorem ready_eq {t:bF} (hv:bM t) (k:Int):oE t k=some (rdy t k):=by
 have h300:=hv.2.2.2.1
 have hl:(t.E.filter fun e=>e.F == k).length<=t.E.length:=List.length_filter_le _ _
 unfold oE
 rw [out_eq t k (by omega),aA]
 have:=vC (step:=fun s:List aF × Int=>lI t (t.E.filter fun e=>e.F == k) s.1 s.2) (t.E.filter fun e=>e.F == k) (fun j (o:List aF)=>(o,(j:Int))) (fun l o=>o++l.map (qY t)) (fun j o=>o.length<=j) (fun j o e l hj hx hI=>?_) (fun o _=>by simp only [lI,cB];simp) (a:=[]) (by simp)
 ·rw [show loop (fun s:List aF × Int=>lI t (t.E.filter fun e=>e.F == k) s.1 s.2) ([],0)=_ from this,aA,List.nil_append]
  unfold oD uI
  rw [if_pos (by rw [List.length_map];unfold kJ;omega),aA,aGi _ (by unfold vE;rw [List.length_mergeSort,List.length_map];omega)]
  rfl
 ·left
  obtain ⟨hj',rfl⟩:=mH hx
  have he:(t.E.filter fun e=>e.F == k)[j]∈t.E:=(List.mem_filter.1 (List.getElem_mem hj')).1
  refine ⟨o++[qY t (t.E.filter fun e=>e.F == k)[j]],?_,by simp;exact hI,by simp⟩
  simp only [lI,cF hj,if_pos,hx,aA,aAm (nJ hv he)]
  rw [cX (by simp [kJ];omega),aA,bV hj (show (t.E.filter fun e=>e.F == k).length < 4611686018427387904 by omega)]
end
end Gv
namespace Gv
open Go
section
variable {a b:bF} {kind:Int}
end
end Gv
namespace Gv
open Go
section
variable {a b:bF} {kind:Int}
instance inT_dec (t:bF) (k:Int):Decidable (inT t k):=by unfold inT;infer_instance
end
end Gv
namespace Gv
open Go
section
variable {a b:bF} {kind:Int}
end
end Gv
namespace Gv
open Go
def unA (a b:bF) (M:List aF):List Edge:=(a.E.map fun e=>(⟨e.F,pos (bU::M) (qY a e),e.To⟩:Edge))++b.E.map fun e=>(⟨e.F+a.N,pos (bU::M) (qY b e),e.To+a.N⟩:Edge)
structure Uni (a b:bF) (M:List aF) (Eo:List Edge):Prop where
 str:mI M
 mem:∀ s,s∈M<->s∈a.L++b.L/\s≠bU
 len:M.length<=24
 se:SE Eo
 ed:∀ x,x∈Eo<->x∈unA a b M
 elen:Eo.length<=600
section
variable {a b:bF}
theorem aHt {t:bF} (hv:bM t) {e:Edge} (he:e∈t.E):qY t e∈t.L:=by
 have:=(aKU hv he).2.2
 unfold qY
 rw [List.getD_eq_getElem?_getD,List.getElem?_eq_getElem (by omega)]
 exact List.getElem_mem _
theorem txt_lab {t:bF} (hv:bM t) {e f:Edge} (he:e∈t.E) (hf:f∈t.E) (h:qY t e=qY t f):e.B=f.B:=by
 have h1:=aEC hv he (aHt hv he)
 have h2:=aEC hv hf (aHt hv he)
 rw [beq_self_eq_true] at h1
 rw [h,beq_self_eq_true] at h2
 rw [←h] at h2
 have h1':=beq_iff_eq.1 h1.symm
 have h2':=beq_iff_eq.1 h2.symm
 omega
theorem pos_eq {γ:Type} [BEq γ] [LawfulBEq γ] {xs:List γ} {x y:γ} (hx:x∈xs) (hy:y∈xs) (h:pos xs x=pos xs y):x=y:=by
 obtain ⟨i,e1,g1⟩:=aMP hx
 obtain ⟨j,e2,g2⟩:=aMP hy
 have:i=j:=by omega
 subst this
 rw [g1] at g2
 exact Option.some.inj g2
theorem edge_eq {e f:Edge} (h1:e.F=f.F) (h2:e.B=f.B) (h3:e.To=f.To):e=f:=by
 cases e;cases f;simp_all
end
end Gv
namespace Gv
open Go
structure Big (u:bF):Prop where
 st:1<=u.N/\u.N<=100
 lab:u.L.length<=100
 ed:u.E.length<=1000
 inn:∀ e∈u.E,inT u e.F/\inT u e.To/\0<=e.B/\e.B < u.L.length
section
variable {u:bF} {p:List Int}
end
end Gv
namespace Gv
open Go
section
variable {a b:bF}
theorem pos_rng {γ:Type} [BEq γ] [LawfulBEq γ] {xs:List γ} {x:γ} (hx:x∈xs):0<=pos xs x/\pos xs x < xs.length:=by
 obtain ⟨i,e,g⟩:=aMP hx
 have:=(List.getElem?_eq_some_iff.1 g).1
 omega
end
end Gv
namespace Gv
open Go
theorem anU_le (x:Int):0<=anU x 255/\anU x 255<=255:=by
 unfold anU
 have h:(BitVec.ofInt 64 x&&& BitVec.ofInt 64 255).toNat<=255:=by
  rw [BitVec.toNat_and]
  exact Nat.le_trans Nat.and_le_right (by decide)
 unfold qC
 omega
theorem shU_ok (x:Int):∃ y,shU x 40=some y:=⟨_,by unfold shU;rw [if_pos (by decide)]⟩
theorem byte_le (b:UInt8):0<=(b.toNat:Int)/\(b.toNat:Int)<=255:=by
 have:=b.toNat_lt
 omega
theorem next_ok (c:aF) {s1:Int} (s2:Int) (h:0<=s1/\s1<=1000000000000):∃ v s2',rP c s1 s2=some (v,s1+1,s2')/\0<=v/\v<=255:=by
 have hw:wr (s1+1)=s1+1:=fX (by omega) (by omega)
 have key:∀ b:Int,0<=b/\b<=255->∃ v s2',pI c s1 s2 b=some (v,s1+1,s2')/\0<=v/\v<=255:=by
  intro b hb
  unfold pI
  rw [hw]
  split
  ·exact ⟨_,_,rfl,hb⟩
  ·obtain ⟨y,hy⟩:=shU_ok (qC ((qC ((qC (s2 * 6364136223846793005))+(qC b)))+1442695040888963407))
   rw [hy,aA]
   have h2:=anU_le y
   refine ⟨_,_,rfl,?_⟩
   rw [fX (by omega) (by omega)];exact h2
 unfold rP
 split
 ·rename_i hlt
  have hlt':s1 < (c.length:Int):=by simpa using hlt
  rw [aFD h.1 (by omega),aA]
  have hb:=byte_le (c[s1.toNat]'(by omega))
  rw [fX (by omega) (by omega)]
  exact key _ hb
 ·exact key 0 (by omega)
theorem rm_ok {x n:Int} (hx:0<=x) (hn:1<=n):∃ v,rm x n=some v/\0<=v/\v < n:=by
 unfold rm
 rw [if_neg (by omega)]
 have e:x.tmod n=x % n:=Int.tmod_eq_emod_of_nonneg hx
 have h1:=Int.emod_nonneg x (show n≠0 by omega)
 have h2:=Int.emod_lt_of_pos x (show 0 < n by omega)
 first
  |exact ⟨_,rfl,by rw [e];exact h1,by rw [e];exact h2⟩
  |exact ⟨_,rfl,by rw [e,fX]<;>omega,by rw [e,fX]<;>omega⟩
theorem jK (c:aF) {s1 n:Int} (s2:Int) (h:0<=s1/\s1<=100000000000) (hn:1<=n):∃ v s1' s2',bX c s1 s2 n=some (v,s1',s2')/\(0<=v/\v < n)/\s1<=s1'/\s1'<=s1+2:=by
 unfold bX
 by_cases h1:n<=1
 ·rw [if_pos (by simpa using h1)]
  exact ⟨_,_,_,rfl,by omega,by omega,by omega⟩
 ·rw [if_neg (by simpa using h1)]
  obtain ⟨v,t2,e,g1,g2⟩:=next_ok c s2 (s1:=s1) (by omega)
  rw [e,aA]
  simp only
  have key:∀ x a b:Int,0<=x->s1<=a->a<=s1+2->∃ v s1' s2',pJ n x a b=some (v,s1',s2')/\(0<=v/\v < n)/\s1<=s1'/\s1'<=s1+2:=by
   intro x a b hx ha hb
   unfold pJ
   obtain ⟨y,hy,q1,q2⟩:=rm_ok hx (show 1<=n by omega)
   rw [hy,aA]
   exact ⟨_,_,_,rfl,⟨q1,q2⟩,ha,hb⟩
  by_cases h2:200 < n
  ·rw [if_pos (by simpa using h2)]
   obtain ⟨v',t2',e',g1',g2'⟩:=next_ok c t2 (s1:=s1+1) (by omega)
   rw [e',aA]
   simp only
   rw [fX (x:=v * 256) (by omega) (by omega),fX (by omega) (by omega)]
   exact key _ _ _ (by omega) (by omega) (by omega)
  ·rw [if_neg (by simpa using h2)]
   exact key _ _ _ g1 (by omega) (by omega)
theorem aFj (c:aF) {s1 n:Int} (s2:Int) (h:0<=s1/\s1<=100000000000) (hn:1<=n):∃ b s1' s2',iY c s1 s2 n=some (b,s1',s2')/\s1<=s1'/\s1'<=s1+2:=by
 obtain ⟨v,a,b,e,_,h2,h3⟩:=jK c s2 h hn
 unfold iY
 rw [e,aA]
 exact ⟨_,_,_,rfl,h2,h3⟩
theorem aGp (c:aF) {s1:Int} (s2:Int) (h:0<=s1/\s1<=100000000000) {l:List Int} (hl:l≠[]):∃ v s1' s2',gQ c s1 s2 l=some (v,s1',s2')/\v∈l/\s1<=s1'/\s1'<=s1+2:=by
 have h1:1<=(l.length:Int):=by
  have:=List.length_pos_iff.2 hl
  omega
 obtain ⟨v,a,b,e,hv,h2,h3⟩:=jK c s2 h h1
 unfold gQ
 rw [e,aA]
 simp only
 rw [aFD hv.1 (by omega),aA]
 exact ⟨_,_,_,rfl,List.getElem_mem _,h2,h3⟩
end Gv
namespace Gv
open Go
def Nm:List aF:=[bU,[97],[98],[99],[103,101,116,40,48,41],[103,101,116,40,49,41]]
theorem Nm_lab:∀ s∈Nm,mC s=true:=by decide
theorem Nm_len:∀ s∈Nm,s.length<=6:=by decide
structure Drn (c:Nat) (t:bF):Prop where
 ok:bM t
 nm:∀ s∈t.L,s∈Nm
 st:t.N<=10
 ed:t.E.length<=c
theorem Drn.mono {c d:Nat} {t:bF} (h:Drn c t) (hc:c<=d):Drn d t:=⟨h.ok,h.nm,h.st,Nat.le_trans h.ed hc⟩
theorem srtE_SE (l:List Edge):SE (jC (vE cA l)):=by
 have h1:(vE cA l).Pairwise fun a b=>cA b a=false:=by
  have:=List.pairwise_mergeSort (le:=fun a b=>!cA b a) (fun a b c h1 h2=>?_) (fun a b=>?_) l
  ·refine this.imp fun {a b} h=>?_
   simpa using h
  ·simp only [Bool.not_eq_true'] at h1 h2 ⊢
   cases h3:cA c a with
   |false=>rfl
   |true=>
    have:=aMb h3 h1
    rw [h2] at this;cases this
  ·cases h3:cA b a with
   |false=>simp
   |true=>simp [aKD h3]
 exact aFe (R:=fun a b=>cA b a=false) (S:=fun a b=>cA a b=true) (fun h hne=>aMa h hne) (fun h h'=>aMb h h') h1
theorem aOo (l:List Edge):(jC (vE cA l)).length<=l.length:=by
 have:=aII (vE cA l)
 unfold vE at this ⊢
 rwa [List.length_mergeSort] at this
theorem aOp {l:List Edge} {x:Edge}:x∈jC (vE cA l)<->x∈l:=by
 rw [aCl];unfold vE;rw [List.mem_mergeSort]
theorem labs_nm {M:List aF} (hM:mI M) (hn:∀ s∈M,s∈Nm):qW (bU::M):=by
 have hnd:M.Nodup:=hM.1.imp fun {a b} h e=>by subst e;rw [nI] at h;cases h
 have hl:M.length<=5:=by
  have:=List.Nodup.length_le_of_subset (l₁:=bU::M) (l₂:=Nm) (List.nodup_cons.2 ⟨hM.2,hnd⟩) (fun x hx=>by
   rcases List.mem_cons.1 hx with rfl|hx
   ·simp [Nm]
   ·exact hn x hx)
  have h6:Nm.length=6:=rfl
  rw [List.length_cons] at this
  omega
 refine ⟨by simp,by simp;omega,fun _=>rfl,fun k h1 hk=>?_⟩
 obtain ⟨k,rfl⟩:∃ j,k=j+1:=⟨k - 1,by omega⟩
 have hk':k < M.length:=by simpa using hk
 have hm:M[k]∈M:=List.getElem_mem hk'
 rw [List.getElem_cons_succ]
 refine ⟨Nm_lab _ (hn _ hm),fun e=>hM.2 (e ▸ hm),fun h2=>?_⟩
 obtain ⟨k,rfl⟩:∃ j,k=j+1:=⟨k - 1,by omega⟩
 have:=List.pairwise_iff_getElem.1 hM.1 k (k+1) (by omega) hk' (by omega)
 simpa using this
theorem make_ok {T:List aF} (hT:∀ s∈T,s∈Nm) (hTl:T.length<=100) {st ini:Int} (h1:1<=st/\st<=10) (h2:0<=ini/\ini < st) {edges:List Edge} (hl:edges.length<=300)
  (he:∀ e∈edges,(0<=e.F/\e.F < st)/\(0<=e.To/\e.To < st)/\0<=e.B/\e.B < T.length):∃ t,rL st ini T edges=some t/\Drn edges.length t/\t.N=st/\t.I=ini:=by
 obtain ⟨M,_,j2,j3,j4⟩:=aIe T (by omega)
 have hM:∀ s∈M,s∈Nm:=fun s hs=>hT s ((j3 s).1 hs).1
 refine ⟨⟨st,ini,bU::M,jC (vE cA (edges.map fun e=>(⟨e.F,pos (bU::M) (T.getD e.B.toNat []),e.To⟩:Edge)))⟩,aOf (by omega) j2 j3 (by omega) (fun e h=>(he e h).2.2) (srtE_SE _) (fun x=>?_) st ini,⟨⟨by show 1<=st/\st<=40;omega,by show 0<=ini/\ini<=st - 1;omega,labs_nm j2 hM,aKR ?_ (srtE_SE _) fun x hx=>?_⟩,fun s hs=>?_,by show st<=10;omega,?_⟩,rfl,rfl⟩
 ·rw [aOp,List.mem_map]
  exact ⟨fun ⟨e,h,g⟩=>⟨e,h,g.symm⟩,fun ⟨e,h,g⟩=>⟨e,h,g.symm⟩⟩
 ·have:=aOo (edges.map fun e=>(⟨e.F,pos (bU::M) (T.getD e.B.toNat []),e.To⟩:Edge))
  rw [List.length_map] at this
  exact Nat.le_trans this hl
 ·obtain ⟨e,h,rfl⟩:=List.mem_map.1 (aOp.1 hx)
  obtain ⟨g1,g2,g3,g4⟩:=he e h
  have hin:T.getD e.B.toNat []∈bU::M:=by
   have hmem:T.getD e.B.toNat []∈T:=by
    rw [List.getD_eq_getElem?_getD,List.getElem?_eq_getElem (by omega)]
    exact List.getElem_mem _
   by_cases ht:T.getD e.B.toNat []=bU
   ·rw [ht];simp
   ·exact List.mem_cons_of_mem _ ((j3 _).2 ⟨hmem,ht⟩)
  have:=pos_rng hin
  show (0<=e.F/\e.F<=st - 1)/\(0<=e.To/\e.To<=st - 1)/\0<=pos (bU::M) (T.getD e.B.toNat [])/\pos (bU::M) (T.getD e.B.toNat [])<=((bU::M).length:Int) - 1
  omega
 ·rcases List.mem_cons.1 hs with rfl|hs
  ·simp [Nm]
  ·exact hM s hs
 ·have:=aOo (edges.map fun e=>(⟨e.F,pos (bU::M) (T.getD e.B.toNat []),e.To⟩:Edge))
  rw [List.length_map] at this
  exact this
theorem names_ok (c:aF) {s1:Int} (s2:Int) (h:0<=s1/\s1<=10000000000):∃ L s1' s2',tJ c s1 s2=some (L,s1',s2')/\((∀ s∈L,s∈Nm)/\1<=L.length/\L.length<=7)/\s1<=s1'/\s1'<=s1+10:=by
 have key:=jJ (step:=fun s:Int × Int × List aF × Int=>lN c s.1 s.2.1 s.2.2.1 s.2.2.2) 5 (fun k (a:Int × Int × List aF)=>(a.1,a.2.1,a.2.2,(k:Int))) (fun k a=>(∀ s∈a.2.2,s∈Nm)/\1<=a.2.2.length/\a.2.2.length<=1+k/\s1<=a.1/\a.1<=s1+2 * k)
  (fun r=>(∀ s∈r.1,s∈Nm)/\1<=r.1.length/\r.1.length<=6/\s1<=r.2.1/\r.2.1<=s1+10) (fun k a hk hI=>?_) (fun a hI=>?_) 5 0 (s1,s2,[bU]) (by omega) ⟨by simp [Nm],by simp,by simp,by simp,by simp⟩
 ·obtain ⟨r,h1,g1,g2,g3,g4,g5⟩:=key
  unfold tJ
  have h1':loop (fun s:Int × Int × List aF × Int=>lN c s.1 s.2.1 s.2.2.1 s.2.2.2) (s1,s2,[bU],0)=some r:=h1
  rw [show ([([116,97,117]:aF)]:List aF)=[bU] from rfl,h1',aA]
  unfold sM sL
  split
  ·rw [cX (by simp [kJ];omega),aA]
   refine ⟨_,_,_,rfl,⟨fun s hs=>?_,by simp,by simp;omega⟩,g4,g5⟩
   rcases List.mem_append.1 hs with hs|hs
   ·exact g1 s hs
   ·simp at hs;subst hs;simp [Nm]
  ·exact ⟨_,_,_,rfl,⟨g1,g2,by omega⟩,g4,g5⟩
 ·obtain ⟨x,y,o⟩:=a
  obtain ⟨g1,g2,g3,g4,g5⟩:=hI
  simp only at g1 g2 g3 g4 g5 ⊢
  obtain ⟨b,t1,t2,e,h3,h4⟩:=aFj c y (s1:=x) (n:=2) (by omega) (by omega)
  have hw:wr ((k:Int)+1)=((k+1:Nat):Int):=bV hk (by omega)
  unfold lN
  rw [if_pos (by simp;omega),e,aA]
  have hno:jS (k:Int) t1 t2 o=some (.inl (t1,t2,o,((k+1:Nat):Int))):=by unfold jS;rw [hw]
  have key:∀ v:Bool,∃ a':Int × Int × List aF,oA o (k:Int) t1 t2 v=some (.inl (a'.1,a'.2.1,a'.2.2,((k+1:Nat):Int)))/\(∀ s∈a'.2.2,s∈Nm)/\1<=a'.2.2.length/\a'.2.2.length<=1+(k+1)/\s1<=a'.1/\a'.1<=s1+2 * ((k+1:Nat):Int):=by
   intro v
   unfold oA
   cases v with
   |false=>
    rw [if_neg (by simp),hno]
    exact ⟨(t1,t2,o),rfl,g1,g2,by simp only;omega,by simp only;omega,by simp only;omega⟩
   |true=>
    have hkl:k < ([([97]:aF),([98]:aF),([99]:aF),([103,101,116,40,48,41]:aF),([103,101,116,40,49,41]:aF)]:List aF).length:=hk
    rw [if_pos rfl,cN hkl,aA,cX (by simp [kJ];omega),aA]
    unfold jS
    rw [hw]
    refine ⟨(t1,t2,_),rfl,fun s hs=>?_,by simp,by simp;omega,by simp only;omega,by simp only;omega⟩
    rcases List.mem_append.1 hs with hs|hs
    ·exact g1 s hs
    ·rw [List.mem_singleton] at hs
     have:s∈([([97]:aF),([98]:aF),([99]:aF),([103,101,116,40,48,41]:aF),([103,101,116,40,49,41]:aF)]:List aF):=hs ▸ List.getElem_mem hkl
     exact List.mem_cons_of_mem _ this
  split
  ·exact key _
  ·exact key _
 ·obtain ⟨x,y,o⟩:=a
  obtain ⟨g1,g2,g3,g4,g5⟩:=hI
  simp only at g1 g2 g3 g4 g5 ⊢
  refine ⟨(o,x,y),?_,g1,g2,by simp only;omega,g4,by simp only;omega⟩
  unfold lN
  rw [if_neg (by simp)]
end Gv
namespace Gv
open Go
def aGG (st:Int) (n:Nat) (e:Edge):Prop:=(0<=e.F/\e.F < st)/\(0<=e.To/\e.To < st)/\0<=e.B/\e.B < n
section
variable {c:aF} {r9 r14:Int × Int × Int} {base st:Int}
def aLa (K:List Int) (base st:Int):Prop:=(K.length:Int)=st/\∀ i,(hi:i < K.length)->(0<=K[i]/\K[i] < base)/\((i:Int) < base->K[i]=(i:Int))
theorem kinds_ok (hb:1<=base/\base<=4) (hs:base<=st/\st<=6) (e1:wr (1+r9.1)=base) (e2:wr (base+r14.1)=st) {s1:Int} (s2:Int) (h:0<=s1/\s1<=10000000000):
  ∃ a b K,loop (fun s:Int × Int × List Int × Int=>nO c r9 r14 s.1 s.2.1 s.2.2.1 s.2.2.2) (s1,s2,([]:List Int),0)=some (a,b,K)/\aLa K base st/\s1<=a/\a<=s1+12:=by
 have key:=jJ (step:=fun s:Int × Int × List Int × Int=>nO c r9 r14 s.1 s.2.1 s.2.2.1 s.2.2.2) st.toNat (fun k (a:Int × Int × List Int)=>(a.1,a.2.1,a.2.2,(k:Int))) (fun k a=>(a.2.2.length=k/\∀ i,(hi:i < a.2.2.length)->(0<=a.2.2[i]/\a.2.2[i] < base)/\((i:Int) < base->a.2.2[i]=(i:Int)))/\s1<=a.1/\a.1<=s1+2 * k)
  (fun r=>aLa r.2.2 base st/\s1<=r.1/\r.1<=s1+12) (fun k a hk hI=>?_) (fun a hI=>?_) st.toNat 0 (s1,s2,[]) (by omega) ⟨⟨rfl,fun i hi=>by simp at hi⟩,by simp,by simp⟩
 ·obtain ⟨⟨a,b,K⟩,h1,g1,g2,g3⟩:=key
  exact ⟨a,b,K,h1,g1,g2,g3⟩
 ·obtain ⟨x,y,o⟩:=a
  obtain ⟨⟨g1,g2⟩,g3,g4⟩:=hI
  simp only at g1 g2 g3 g4 ⊢
  have hw:wr ((k:Int)+1)=((k+1:Nat):Int):=bV hk (by omega)
  have hadd:∀ v:Int,(0<=v/\v < base)->((k:Int) < base->v=(k:Int))->(o++[v]).length=k+1/\∀ i,(hi:i < (o++[v]).length)->(0<=(o++[v])[i]/\(o++[v])[i] < base)/\((i:Int) < base->(o++[v])[i]=(i:Int)):=by
   intro v h1 h2
   refine ⟨by simp;exact g1,fun i hi=>?_⟩
   by_cases hl:i < o.length
   ·rw [List.getElem_append_left hl];exact g2 i hl
   ·have:i=o.length:=by simp at hi;omega
    subst this
    rw [List.getElem_append_right (Nat.le_refl _)]
    simp only [Nat.sub_self,List.getElem_cons_zero]
    exact ⟨h1,fun h=>by rw [g1] at h ⊢;exact h2 h⟩
  unfold nO
  rw [e1,e2,if_pos (by simp;omega)]
  by_cases hkb:(k:Int) < base
  ·rw [if_pos (by simpa using hkb),cX (by simp [kJ];omega),aA]
   unfold nN
   rw [hw]
   exact ⟨(x,y,o++[(k:Int)]),rfl,hadd _ (by omega) (fun _=>rfl),by simp only;omega,by simp only;omega⟩
  ·rw [if_neg (by simpa using hkb)]
   obtain ⟨v,t1,t2,e,q1,q2,q3⟩:=jK c y (s1:=x) (n:=base) (by omega) (by omega)
   rw [e,aA,cX (by simp [kJ];omega),aA]
   unfold nN
   rw [hw]
   exact ⟨(t1,t2,o++[v]),rfl,hadd _ q1 (fun h=>absurd h hkb),by simp only;omega,by simp only;omega⟩
 ·obtain ⟨x,y,o⟩:=a
  obtain ⟨⟨g1,g2⟩,g3,g4⟩:=hI
  simp only at g1 g2 g3 g4 ⊢
  refine ⟨(x,y,o),?_,⟨by simp only;omega,g2⟩,g3,by simp only;omega⟩
  unfold nO
  rw [e1,e2,if_neg (by simp;omega)]
theorem alike_ok {r219:Int × Int × Int} {K:List Int} (hb:1<=base/\base<=4) (hs:base<=st/\st<=6) (e1:wr (1+r9.1)=base) (e2:wr (base+r14.1)=st) (hK:aLa K base st) (hto:0<=r219.1/\r219.1 < base):
  ∃ l,loop (fun s:List Int × Int=>lH r9 r14 K r219 s.1 s.2) (([]:List Int),0)=some l/\l≠[]/\∀ z∈l,0<=z/\z < st:=by
 have hKl:=hK.1
 have key:=jJ (step:=fun s:List Int × Int=>lH r9 r14 K r219 s.1 s.2) st.toNat (fun k (a:List Int)=>(a,(k:Int))) (fun k a=>a.length<=k/\(r219.1 < k->r219.1∈a)/\∀ z∈a,0<=z/\z < st) (fun r=>r≠[]/\∀ z∈r,0<=z/\z < st) (fun k a hk hI=>?_) (fun a hI=>?_) st.toNat 0 [] (by omega) ⟨by simp,fun h=>by omega,by simp⟩
 ·obtain ⟨l,h1,h2⟩:=key
  exact ⟨l,h1,h2⟩
 ·obtain ⟨g1,g2,g3⟩:=hI
  have hkl:k < K.length:=by omega
  have hw:wr ((k:Int)+1)=((k+1:Nat):Int):=bV hk (by omega)
  show ∃ a',lH r9 r14 K r219 a (k:Int)=_/\_
  unfold lH tO
  rw [e1,e2,if_pos (by simp;omega),cN hkl,aA,hw]
  by_cases he:K[k]=r219.1
  ·rw [if_pos (by simpa using he),cX (by simp [kJ];omega),aA]
   refine ⟨_,rfl,by simp;omega,fun h=>?_,fun z hz=>?_⟩
   ·by_cases hlt:r219.1 < k
    ·exact List.mem_append_left _ (g2 hlt)
    ·exact List.mem_append_right _ (by simp;omega)
   ·rcases List.mem_append.1 hz with hz|hz
    ·exact g3 z hz
    ·simp at hz;omega
  ·rw [if_neg (by simpa using he)]
   refine ⟨_,rfl,by omega,fun h=>g2 ?_,g3⟩
   have:=(hK.2 k hkl).2
   by_cases hlt:r219.1 < k
   ·exact hlt
   ·exfalso
    have e:r219.1=(k:Int):=by omega
    exact he (by rw [e];exact this (by omega))
 ·obtain ⟨g1,g2,g3⟩:=hI
  refine ⟨a,?_,fun h=>?_,g3⟩
  ·show lH r9 r14 K r219 a ((st.toNat:Nat):Int)=_
   unfold lH
   rw [e1,e2,if_neg (by simp;omega)]
  ·have:=g2 (by omega)
   rw [h] at this;cases this
theorem edges_row {r209 r214 r219:Int × Int × Int} {K:List Int} {nl:Nat} (hb:1<=base/\base<=4) (hs:base<=st/\st<=6) (e1:wr (1+r9.1)=base) (e2:wr (base+r14.1)=st) (hK:aLa K base st) (hto:0<=r219.1/\r219.1 < base) (hlab:0<=r214.1/\r214.1 < nl)
  {s1:Int} (s2:Int) (h:0<=s1/\s1<=10000000000) {ed:List Edge} (hed:∀ e∈ed,aGG st nl e) (hel:ed.length<=1000):
  ∃ a b ed',loop (fun s:Int × Int × List Edge × Int=>pK c r9 r14 K r209 r214 r219 s.1 s.2.1 s.2.2.1 s.2.2.2) (s1,s2,ed,0)=some (a,b,ed')/\(∀ e∈ed',aGG st nl e)/\ed'.length<=ed.length+6/\s1<=a/\a<=s1+12:=by
 have hKl:K.length=st.toNat:=by have:=hK.1;omega
 have hst9:st.toNat < 4611686018427387904:=by omega
 obtain ⟨al,ha1,ha2,ha3⟩:=alike_ok (r9:=r9) (r14:=r14) (r219:=r219) hb hs e1 e2 hK hto
 have key:=jJ (step:=fun s:Int × Int × List Edge × Int=>pK c r9 r14 K r209 r214 r219 s.1 s.2.1 s.2.2.1 s.2.2.2) st.toNat (fun k (a:Int × Int × List Edge)=>(a.1,a.2.1,a.2.2,(k:Int))) (fun k a=>(∀ e∈a.2.2,aGG st nl e)/\a.2.2.length<=ed.length+k/\s1<=a.1/\a.1<=s1+2 * k)
  (fun r=>(∀ e∈r.2.2,aGG st nl e)/\r.2.2.length<=ed.length+6/\s1<=r.1/\r.1<=s1+12) (fun k a hk hI=>?_) (fun a hI=>?_) st.toNat 0 (s1,s2,ed) (by omega) ⟨hed,by simp,by simp,by simp⟩
 ·obtain ⟨⟨a,b,K⟩,h1,g1,g2,g3⟩:=key
  exact ⟨a,b,K,h1,g1,g2,g3⟩
 ·obtain ⟨x,y,o⟩:=a
  obtain ⟨g1,g2,g3,g4⟩:=hI
  simp only at g1 g2 g3 g4 ⊢
  have hkl:k < K.length:=by rw [hKl];exact hk
  unfold pK
  rw [e1,e2,if_pos (by simp;omega),cN hkl,aA]
  unfold tN tM
  rw [bV hk (show st.toNat < 4611686018427387904 from hst9)]
  by_cases he:K[k]=r209.1
  ·rw [if_neg (by simp [he]),ha1,aA]
   obtain ⟨v,t1,t2,e,q1,q2,q3⟩:=aGp c y (s1:=x) (by omega) ha2
   rw [e,aA,cX (by simp [kJ];omega),aA]
   have hv:=ha3 v q1
   refine ⟨(t1,t2,_),rfl,fun e he=>?_,by simp;omega,by simp only;omega,by simp only;omega⟩
   rcases List.mem_append.1 he with he|he
   ·exact g1 e he
   ·rw [List.mem_singleton] at he
    subst he
    exact ⟨by simp only;omega,by simp only;omega,hlab⟩
  ·rw [if_pos (by simpa using he)]
   exact ⟨(x,y,o),rfl,g1,by simp only;omega,by simp only;omega,by simp only;omega⟩
 ·obtain ⟨x,y,o⟩:=a
  obtain ⟨g1,g2,g3,g4⟩:=hI
  simp only at g1 g2 g3 g4 ⊢
  refine ⟨(x,y,o),?_,g1,by simp only;omega,g3,by simp only;omega⟩
  unfold pK
  rw [e1,e2,if_neg (by simp;omega)]
theorem edges_all {r19:List aF × Int × Int} {K:List Int} (hb:1<=base/\base<=4) (hs:base<=st/\st<=6) (e1:wr (1+r9.1)=base) (e2:wr (base+r14.1)=st) (hK:aLa K base st) (hL:1<=r19.1.length/\r19.1.length<=7) {s1 m:Int} (s2:Int) (h:0<=s1/\s1<=1000000000) (hm:0<=m/\m<=9):
  ∃ a b ed,loop (fun s:Int × Int × List Edge × Int=>nM c r9 r14 r19 K s.1 s.2.1 s.2.2.1 s.2.2.2) (s1,s2,([]:List Edge),m)=some (a,b,ed)/\(∀ e∈ed,aGG st r19.1.length e)/\ed.length<=54/\s1<=a/\a<=s1+200:=by
 have key:=jJ (step:=fun s:Int × Int × List Edge × Int=>nM c r9 r14 r19 K s.1 s.2.1 s.2.2.1 s.2.2.2) m.toNat (fun k (a:Int × Int × List Edge)=>(a.1,a.2.1,a.2.2,m - (k:Int))) (fun k a=>(∀ e∈a.2.2,aGG st r19.1.length e)/\a.2.2.length<=6 * k/\s1<=a.1/\a.1<=s1+18 * k)
  (fun r=>(∀ e∈r.2.2,aGG st r19.1.length e)/\r.2.2.length<=54/\s1<=r.1/\r.1<=s1+200) (fun k a hk hI=>?_) (fun a hI=>?_) m.toNat 0 (s1,s2,[]) (by omega) ⟨by simp,by simp,by simp,by simp⟩
 ·obtain ⟨⟨a,b,K⟩,h1,g1,g2,g3⟩:=key
  exact ⟨a,b,K,by simpa using h1,g1,g2,g3⟩
 ·obtain ⟨x,y,o⟩:=a
  obtain ⟨g1,g2,g3,g4⟩:=hI
  simp only at g1 g2 g3 g4 ⊢
  obtain ⟨v,t1,t2,q,q1,q2,q3⟩:=jK c y (s1:=x) (n:=base) (by omega) (by omega)
  obtain ⟨v',t1',t2',q',q1',q2',q3'⟩:=jK c t2 (s1:=t1) (n:=(r19.1.length:Int)) (by omega) (by omega)
  obtain ⟨v'',t1'',t2'',q'',q1'',q2'',q3''⟩:=jK c t2' (s1:=t1') (n:=base) (by omega) (by omega)
  obtain ⟨a,b,ed',p1,p2,p3,p4,p5⟩:=edges_row (c:=c) (r9:=r9) (r14:=r14) (r209:=(v,t1,t2)) (r214:=(v',t1',t2')) (r219:=(v'',t1'',t2'')) (nl:=r19.1.length) hb hs e1 e2 hK q1'' q1' t2'' (s1:=t1'') (by omega) g1 (by omega)
  unfold nM
  rw [if_pos (by simp;omega),e1,q,aA,q',aA,q'',aA,p1,aA]
  unfold yU yT
  have hw:wr (m - (k:Int) - 1)=m - ((k+1:Nat):Int):=by rw [fX (by omega) (by omega)];omega
  rw [hw]
  exact ⟨(a,b,ed'),rfl,p2,by simp only;omega,by simp only;omega,by simp only;omega⟩
 ·obtain ⟨x,y,o⟩:=a
  obtain ⟨g1,g2,g3,g4⟩:=hI
  simp only at g1 g2 g3 g4 ⊢
  refine ⟨(x,y,o),?_,g1,by simp only;omega,g3,by simp only;omega⟩
  unfold nM
  rw [if_neg (by simp;omega)]
end
theorem drawOk_ok (c:aF) {s1:Int} (s2:Int) (h:0<=s1/\s1<=100000000):∃ t s1' s2',aBb c s1 s2=some (t,s1',s2')/\(Drn 55 t/\t.N<=6)/\s1<=s1'/\s1'<=s1+300:=by
 obtain ⟨v9,a9,b9,x9,y9,z9,w9⟩:=jK c s2 (s1:=s1) (n:=4) (by omega) (by omega)
 have e1:wr (1+v9)=1+v9:=fX (by omega) (by omega)
 have e1':wr (7 - (1+v9))=7 - (1+v9):=fX (by omega) (by omega)
 obtain ⟨v14,a14,b14,x14,y14,z14,w14⟩:=jK c b9 (s1:=a9) (n:=7 - (1+v9)) (by omega) (by omega)
 have e2:wr (1+v9+v14)=1+v9+v14:=fX (by omega) (by omega)
 obtain ⟨L,a19,b19,x19,⟨y19,y19',y19''⟩,z19,w19⟩:=names_ok c b14 (s1:=a14) (by omega)
 have hb:1<=1+v9/\1+v9<=4:=by omega
 have hs:1+v9<=1+v9+v14/\1+v9+v14<=6:=by omega
 obtain ⟨ak,bk,K,xk,yk,zk,wk⟩:=kinds_ok (c:=c) (r9:=(v9,a9,b9)) (r14:=(v14,a14,b14)) hb hs e1 e2 b19 (s1:=a19) (by omega)
 have e3:wr (2+wr (2 * (1+v9)))=2+2 * (1+v9):=by rw [fX (x:=2 * (1+v9)) (by omega) (by omega),fX (by omega) (by omega)]
 obtain ⟨vm,am,bm,xm,ym,zm,wm⟩:=jK c bk (s1:=ak) (n:=2+2 * (1+v9)) (by omega) (by omega)
 obtain ⟨ae,be,ed,xe,ye,ye',ze,we⟩:=edges_all (c:=c) (r9:=(v9,a9,b9)) (r14:=(v14,a14,b14)) (r19:=(L,a19,b19)) hb hs e1 e2 yk ⟨y19',y19''⟩ bm (s1:=am) (m:=vm) (by omega) (by omega)
 have hfin:∀ (s t:Int) (E:List Edge),(∀ e∈E,aGG (1+v9+v14) L.length e)->E.length<=55->ae<=s->s<=ae+8->∃ t' s1' s2',tK c (v9,a9,b9) (v14,a14,b14) (L,a19,b19) s t E=some (t',s1',s2')/\(Drn 55 t'/\t'.N<=6)/\ae<=s1'/\s1'<=ae+10:=by
  intro s t E hE hEl hs1 hs2
  unfold tK
  simp only
  rw [e1,e2]
  obtain ⟨v,a,b,q,q1,q2,q3⟩:=jK c t (s1:=s) (n:=1+v9+v14) (by omega) (by omega)
  obtain ⟨t',m1,m2,m3,m4⟩:=make_ok y19 (by omega) (st:=1+v9+v14) (ini:=v) (by omega) q1 (edges:=E) (by omega) (fun e he=>by have:=hE e he;unfold aGG at this;exact ⟨this.1,this.2.1,this.2.2⟩)
  rw [q,aA,m1,aA]
  exact ⟨_,_,_,rfl,⟨m2.mono hEl,by omega⟩,by simp only;omega,by simp only;omega⟩
 unfold aBb
 rw [x9,aA]
 simp only
 rw [e1,e1',x14,aA,x19,aA,xk,aA]
 unfold rD
 simp only
 rw [e1,e3,xm,aA,xe,aA]
 unfold tL
 simp only
 rw [e1,e2]
 obtain ⟨bb,ao,bo,xo,zo,wo⟩:=aFj c be (s1:=ae) (n:=3) (by omega) (by omega)
 rw [xo,aA]
 simp only
 cases bb with
 |false=>
  rw [if_neg (by simp)]
  obtain ⟨t',s1',s2',r1,r2,r3,r4⟩:=hfin ao bo ed ye (by omega) (by omega) (by omega)
  exact ⟨t',s1',s2',r1,r2,by omega,by omega⟩
 |true=>
  rw [if_pos rfl]
  obtain ⟨v1,a1,b1,p1,p1',p1'',p1'''⟩:=jK c bo (s1:=ao) (n:=1+v9+v14) (by omega) (by omega)
  obtain ⟨v2,a2,b2,p2,p2',p2'',p2'''⟩:=jK c b1 (s1:=a1) (n:=(L.length:Int)) (by omega) (by omega)
  obtain ⟨v3,a3,b3,p3,p3',p3'',p3'''⟩:=jK c b2 (s1:=a2) (n:=1+v9+v14) (by omega) (by omega)
  rw [p1,aA,p2,aA,p3,aA,cX (by simp [kJ];omega),aA]
  obtain ⟨t',s1',s2',r1,r2,r3,r4⟩:=hfin a3 b3 (ed++[⟨v1,v2,v3⟩]) (fun e he=>by
   rcases List.mem_append.1 he with he|he
   ·exact ye e he
   ·rw [List.mem_singleton] at he
    subst he
    exact ⟨p1',p3',p2'⟩) (by simp;omega) (by omega) (by omega)
  exact ⟨t',s1',s2',r1,r2,by omega,by omega⟩
theorem draw15_ok (c:aF) {s1:Int} (s2:Int) (h:0<=s1/\s1<=10000000):∃ t s1' s2',aBc c s1 s2=some (t,s1',s2')/\(Drn 60 t/\t.N<=6)/\s1<=s1'/\s1'<=s1+500:=by
 obtain ⟨t,a,b,x,⟨y,ys⟩,z,w⟩:=drawOk_ok c s2 (s1:=s1) (by omega)
 have hed:=y.ed
 have hlab:=y.ok.2.2.1
 have hst:=y.ok.1
 have hini:=y.ok.2.1
 have hin:∀ e∈t.E,aGG t.N t.L.length e:=fun e he=>by
  have:=aKU y.ok he
  unfold inT at this
  exact ⟨this.1,this.2.1,this.2.2⟩
 have key:=jJ (step:=fun s:Int × Int × List Edge × Int=>pM c (t,a,b) s.1 s.2.1 s.2.2.1 s.2.2.2) t.E.length (fun k (q:Int × Int × List Edge)=>(q.1,q.2.1,q.2.2,(k:Int))) (fun k q=>(∀ e∈q.2.2,aGG t.N t.L.length e)/\q.2.2.length<=k/\a<=q.1/\q.1<=a+2 * k)
  (fun r=>(∀ e∈r.2.2,aGG t.N t.L.length e)/\r.2.2.length<=55/\a<=r.1/\r.1<=a+110) (fun k q hk hI=>?_) (fun q hI=>?_) t.E.length 0 (a,b,[]) (by omega) ⟨by simp,by simp,by simp,by simp⟩
 ·obtain ⟨⟨a1,b1,E⟩,h1,g1,g2,g3,g4⟩:=key
  simp only at g1 g2 g3 g4
  have h1':loop (fun s:Int × Int × List Edge × Int=>pM c (t,a,b) s.1 s.2.1 s.2.2.1 s.2.2.2) (a,b,([]:List Edge),0)=some (a1,b1,E):=h1
  obtain ⟨vm,am,bm,xm,ym,zm,wm⟩:=jK c b1 (s1:=a1) (n:=3) (by omega) (by omega)
  have key2:=jJ (step:=fun s:Int × Int × List Edge × Int=>pL c (t,a,b) s.1 s.2.1 s.2.2.1 s.2.2.2) vm.toNat (fun k (q:Int × Int × List Edge)=>(q.1,q.2.1,q.2.2,vm - (k:Int))) (fun k q=>(∀ e∈q.2.2,aGG t.N t.L.length e)/\q.2.2.length<=55+k/\am<=q.1/\q.1<=am+4 * k)
   (fun r=>(∀ e∈r.1,aGG t.N t.L.length e)/\r.1.length<=60/\am<=r.2.1/\r.2.1<=am+20) (fun k q hk hI=>?_) (fun q hI=>?_) vm.toNat 0 (am,bm,E) (by omega) ⟨g1,by simp only;omega,by simp,by simp⟩
  ·obtain ⟨⟨F,a2,b2⟩,h2,q1,q2,q3,q4⟩:=key2
   simp only at q1 q2 q3 q4
   have h2':loop (fun s:Int × Int × List Edge × Int=>pL c (t,a,b) s.1 s.2.1 s.2.2.1 s.2.2.2) (am,bm,E,vm)=some (F,a2,b2):=by simpa using h2
   obtain ⟨t',m1,m2,m3,m4⟩:=make_ok (T:=t.L) (fun s hs=>y.nm s hs) (by have:=hlab.2.1;omega) (st:=t.N) (ini:=t.I) (by have:=y.st;omega) (by omega) (edges:=F) (by omega) (fun e he=>by have:=q1 e he;unfold aGG at this;exact ⟨this.1,this.2.1,this.2.2⟩)
   unfold aBc
   rw [x,aA,h1',aA]
   unfold yV
   rw [xm,aA,h2',aA]
   unfold aCO
   rw [m1,aA]
   exact ⟨_,_,_,rfl,⟨m2.mono q2,by omega⟩,by simp only;omega,by simp only;omega⟩
  ·obtain ⟨x2,y2,o⟩:=q
   obtain ⟨i1,i2,i3,i4⟩:=hI
   simp only at i1 i2 i3 i4 ⊢
   obtain ⟨v1,t1,t1',p1,p1',p1'',p1'''⟩:=jK c y2 (s1:=x2) (n:=t.N) (by omega) (by omega)
   obtain ⟨v2,t2,t2',p2,p2',p2'',p2'''⟩:=jK c t1' (s1:=t1) (n:=t.N) (by omega) (by omega)
   unfold pL
   rw [if_pos (by simp;omega),p1,aA,p2,aA,cX (by simp [kJ];omega),aA]
   have hw:wr (vm - (k:Int) - 1)=vm - ((k+1:Nat):Int):=by rw [fX (by omega) (by omega)];omega
   rw [hw]
   refine ⟨(t2,t2',_),rfl,fun e he=>?_,by simp;omega,by simp only;omega,by simp only;omega⟩
   rcases List.mem_append.1 he with he|he
   ·exact i1 e he
   ·rw [List.mem_singleton] at he
    subst he
    exact ⟨p1',p2',by simp only;have:=hlab.1;omega⟩
  ·obtain ⟨x2,y2,o⟩:=q
   obtain ⟨i1,i2,i3,i4⟩:=hI
   simp only at i1 i2 i3 i4 ⊢
   refine ⟨(o,x2,y2),?_,i1,by simp only;omega,i3,by simp only;omega⟩
   unfold pL
   rw [if_neg (by simp;omega)]
 ·obtain ⟨x2,y2,o⟩:=q
  obtain ⟨i1,i2,i3,i4⟩:=hI
  simp only at i1 i2 i3 i4 ⊢
  have he:=hin _ (List.getElem_mem hk)
  obtain ⟨bb,ao,bo,xo,zo,wo⟩:=aFj c y2 (s1:=x2) (n:=3) (by omega) (by omega)
  have hw:wr ((k:Int)+1)=((k+1:Nat):Int):=bV hk (by omega)
  unfold pM
  rw [if_pos (cF hk),cN hk,aA,xo,aA]
  have hgo:∀ l:Int,0<=l/\l < t.L.length->∃ q':Int × Int × List Edge,tP o (k:Int) t.E[k] ao bo l=some (.inl (q'.1,q'.2.1,q'.2.2,((k+1:Nat):Int)))/\(∀ e∈q'.2.2,aGG t.N t.L.length e)/\q'.2.2.length<=k+1/\a<=q'.1/\q'.1<=a+2 * ((k+1:Nat):Int):=by
   intro l hl
   unfold tP
   rw [cX (by simp [kJ];omega),aA,hw]
   refine ⟨(ao,bo,_),rfl,fun e he'=>?_,by simp;omega,by simp only;omega,by simp only;omega⟩
   rcases List.mem_append.1 he' with he'|he'
   ·exact i1 e he'
   ·rw [List.mem_singleton] at he'
    subst he'
    exact ⟨he.1,he.2.1,hl⟩
  simp only
  cases bb with
  |false=>rw [if_neg (by simp)];exact hgo _ he.2.2
  |true=>rw [if_pos rfl];exact hgo 0 (by have:=hlab.1;omega)
 ·obtain ⟨x2,y2,o⟩:=q
  obtain ⟨i1,i2,i3,i4⟩:=hI
  simp only at i1 i2 i3 i4 ⊢
  refine ⟨(x2,y2,o),?_,i1,by simp only;omega,i3,by simp only;omega⟩
  unfold pM
  rw [if_neg (by simp)]
end Gv
namespace Gv
open Go
section
variable {u:bF} {p:List Int}
end
section
variable {p:List Int} {rows:List (List Int)}
end
section
variable {u:bF} {p:List Int}
end
end Gv
namespace Gv
open Go
section
variable {u:bF} {p:List Int}
end
section
variable {t:bF} {c:Nat} {p:List Int}
end
end Gv
set_option linter.unusedSimpArgs false
set_option linter.unusedVariables false
namespace Gv
open Go
section
variable {s:Int}
end
section
variable {t:bF} {c:Nat}
end
end Gv
set_option linter.unusedSimpArgs false
set_option linter.unusedVariables false
namespace Gv
open Go
section
variable {a:bF} (cs:aF)
theorem del_eq {E:List Edge} (hl:E.length<=1000) {v:Int} (hv:0<=v/\v < E.length):∃ r1 r2 F,nV E 0 v=some r1/\nV E (wr (v+1)) (E.length:Int)=some r2/\oV r1 r2=some F/\F.Sublist E:=by
 refine ⟨E.take v.toNat,E.drop (v.toNat+1),E.take v.toNat++E.drop (v.toNat+1),?_,?_,cX (by simp only [List.length_take,List.length_drop,kJ];omega),?_⟩
 ·unfold nV
  rw [if_pos ⟨by decide,hv.1,by omega⟩]
  simp
 ·rw [fX (by omega) (by omega)]
  unfold nV
  rw [if_pos ⟨by omega,by omega,by omega⟩,show (v+1).toNat=v.toNat+1 by omega,List.take_of_length_le (by simp)]
 ·have:(E.take v.toNat++E.drop (v.toNat+1)).Sublist (E.take v.toNat++E.drop v.toNat):=by
   refine List.Sublist.append_left ?_ _
   rw [show E.drop (v.toNat+1)=(E.drop v.toNat).drop 1 by rw [List.drop_drop]]
   exact List.drop_sublist _ _
  rwa [List.take_append_drop] at this
end
end Gv
