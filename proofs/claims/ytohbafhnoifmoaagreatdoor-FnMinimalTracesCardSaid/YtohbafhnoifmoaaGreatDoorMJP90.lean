/- Exploring that ends: the edges are those of all states. -/
import Derived.Test.YtohbafhnoifmoaaGreatDoorMJP62
import Derived.Test.YtohbafhnoifmoaaGreatDoorMJP80
import Derived.Test.YtohbafhnoifmoaaGreatDoorMJP50
import Derived.Test.YtohbafhnoifmoaaGreatDoorMJP20
set_option linter.all false
namespace Gv
open Go
section
variable {κ β:Type} [DecidableEq β] [BEq β] [LawfulBEq β] {key:κ->β}
theorem atK_pos (F:List κ) (q:κ):atK key F q=pos ((aIu key F q).map key) (key q):=by
 unfold atK aIu
 by_cases h:key q∈F.map key
 ·rw [if_pos h,if_pos h]
 ·rw [if_neg h,if_neg h,List.map_append,List.map_singleton,aMH h,List.length_map]
theorem aMl {A B:List κ} (h:A <+:B):A.map key <+:B.map key:=by
 obtain ⟨C,rfl⟩:=h
 exact ⟨C.map key,by rw [List.map_append]⟩
theorem key_sub {A B:List κ} (h:A <+:B) {k:β} (hk:k∈A.map key):k∈B.map key:=by
 obtain ⟨C,hC⟩:=aMl (key:=key) h
 rw [←hC]
 exact List.mem_append_left _ hk
theorem aMY (i:Int):∀ (l:List (Int × κ)) (s:List κ × List Edge),(∀ x∈l,key x.2∈(aHH key i l s).1.map key)/\
  ∀ e,e∈(aHH key i l s).2<->e∈s.2\/∃ x∈l,e=⟨i,x.1,pos ((aHH key i l s).1.map key) (key x.2)⟩
 |[],s=>⟨by simp,fun e=>by simp [aOY]⟩
 |y::l,s=>by
  obtain ⟨h1,h2⟩:=aMY i l (aIH key i s y)
  have hp:=(aJe (key:=key) i l (aIH key i s y)).1
  have hy:key y.2∈(aIH key i s y).1.map key:=insK_mem s.1 y.2
  have hpos:pos ((aHH key i l (aIH key i s y)).1.map key) (key y.2)=atK key s.1 y.2:=by rw [aKP (aMl hp) hy,atK_pos];rfl
  refine ⟨fun x hx=>?_,fun e=>?_⟩
  ·rw [aIE]
   rcases List.mem_cons.1 hx with rfl|hx
   ·exact key_sub hp hy
   ·exact h1 x hx
  ·rw [aIE,h2]
   constructor
   ·rintro (he|⟨x,hx,rfl⟩)
    ·rcases List.mem_append.1 he with he|he
     ·exact .inl he
     ·rw [List.mem_singleton] at he
      exact .inr ⟨y,List.mem_cons_self,by rw [he,hpos]⟩
    ·exact .inr ⟨x,List.mem_cons_of_mem _ hx,rfl⟩
   ·rintro (he|⟨x,hx,rfl⟩)
    ·exact .inl (List.mem_append_left _ he)
    ·rcases List.mem_cons.1 hx with rfl|hx
     ·left
      rw [hpos]
      exact List.mem_append_right _ (List.mem_singleton.2 rfl)
     ·exact .inr ⟨x,hx,rfl⟩
theorem aKf (nx:κ->List (Int × κ)) (B:Nat):∀ (n i:Nat) (s:List κ × List Edge),(xpl key nx B n i s).1.length<=B->(xpl key nx B n i s).1.length < n+i->i<=s.1.length->
  (∀ j q,i<=j->(xpl key nx B n i s).1[j]?=some q->∀ x∈nx q,key x.2∈(xpl key nx B n i s).1.map key)/\
  ∀ e,e∈(xpl key nx B n i s).2<->e∈s.2\/∃ (j:Nat) (q:κ),i<=j/\(xpl key nx B n i s).1[j]?=some q/\∃ x∈nx q,e=⟨(j:Int),x.1,pos ((xpl key nx B n i s).1.map key) (key x.2)⟩
 |0,i,s,h1,h2,h3=>by
  have:(xpl key nx B 0 i s).1.length=s.1.length:=rfl
  omega
 |n+1,i,s,h1,h2,h3=>by
  have hd:xpl key nx B (n+1) i s=match s.1[i]? with
   |none=>s
   |some q=>if B < (aHH key (i:Int) (nx q) s).1.length then aHH key (i:Int) (nx q) s else xpl key nx B n (i+1) (aHH key (i:Int) (nx q) s):=rfl
  cases hq:s.1[i]? with
  |none=>
   rw [hq] at hd
   simp only at hd
   rw [hd]
   have hl:s.1.length<=i:=by simpa using hq
   refine ⟨fun j q hj hjq=>?_,fun e=>⟨.inl,?_⟩⟩
   ·have:=(List.getElem?_eq_some_iff.1 hjq).1;omega
   ·rintro (he|⟨j,q,hj,hjq,_⟩)
    ·exact he
    ·have:=(List.getElem?_eq_some_iff.1 hjq).1;omega
  |some q=>
   rw [hq] at hd
   simp only at hd
   by_cases hb:B < (aHH key (i:Int) (nx q) s).1.length
   ·rw [if_pos hb] at hd
    rw [hd] at h1
    omega
   ·rw [if_neg hb] at hd
    rw [hd] at h1 h2 ⊢
    have hil:i < s.1.length:=(List.getElem?_eq_some_iff.1 hq).1
    have hpre:=(aJe (key:=key) (i:Int) (nx q) s).1
    obtain ⟨g1,g2⟩:=aKf nx B n (i+1) (aHH key (i:Int) (nx q) s) h1 (by omega) (by have:=hpre.length_le;omega)
    have hpre2:=(aKq (key:=key) nx B n (i+1) (aHH key (i:Int) (nx q) s)).1
    obtain ⟨a1,a2⟩:=aMY (key:=key) (i:Int) (nx q) s
    have hat:∀ {r},(xpl key nx B n (i+1) (aHH key (i:Int) (nx q) s)).1[i]?=some r->r=q:=fun {r} hr=>by
     obtain ⟨C,hC⟩:=hpre.trans hpre2
     rw [←hC,List.getElem?_append_left hil,hq] at hr
     exact (Option.some.inj hr).symm
    have hi':(xpl key nx B n (i+1) (aHH key (i:Int) (nx q) s)).1[i]?=some q:=by
     obtain ⟨C,hC⟩:=hpre.trans hpre2
     rw [←hC,List.getElem?_append_left hil,hq]
    refine ⟨fun j r hj hjr x hx=>?_,fun e=>?_⟩
    ·rcases Nat.eq_or_lt_of_le hj with rfl|hj'
     ·have:=hat hjr
      subst this
      exact key_sub hpre2 (a1 x hx)
     ·exact g1 j r hj' hjr x hx
    ·rw [g2,a2]
     constructor
     ·rintro ((he|⟨x,hx,rfl⟩)|⟨j,r,hj,hjr,x,hx,rfl⟩)
      ·exact .inl he
      ·exact .inr ⟨i,q,Nat.le_refl _,hi',x,hx,by rw [aKP (aMl hpre2) (a1 x hx)]⟩
      ·exact .inr ⟨j,r,by omega,hjr,x,hx,rfl⟩
     ·rintro (he|⟨j,r,hj,hjr,x,hx,rfl⟩)
      ·exact .inl (.inl he)
      ·rcases Nat.eq_or_lt_of_le hj with rfl|hj'
       ·have:=hat hjr
        subst this
        exact .inl (.inr ⟨x,hx,by rw [aKP (aMl hpre2) (a1 x hx)]⟩)
       ·exact .inr ⟨j,r,hj',hjr,x,hx,rfl⟩
end
end Gv
namespace Gv
open Go
section
variable {a b:cO} {B:Int->Int->Bool} {F:(Int->Int->Bool)->Int->Int->Bool}
structure MonoT (a b:cO) (F:(Int->Int->Bool)->Int->Int->Bool):Prop where
 mono:∀ S T:Int->Int->Bool,(∀ x y,inT a x->inT b y->S x y=true->T x y=true)->∀ x y,inT a x->inT b y->F S x y=true->F T x y=true
end
end Gv
namespace Gv
open Go
def aLN (q p:List Int):Prop:=q.length=p.length/\∀ x y:Nat,x < p.length->y < p.length->q[x]?=q[y]?->p[x]?=p[y]?
theorem aOt (p:List Int) (n:Nat):(aHx p n).Nodup:=List.Nodup.sublist List.filter_sublist List.nodup_range
theorem heads1_le (p:List Int) (n:Nat):(aHx p n).length<=n:=by
 have:=List.length_filter_le (fun i=>decide (∀ k,k < i->p[k]?≠p[i]?)) (List.range n)
 rw [List.length_range] at this
 exact this
theorem aMZ {q:List Int} {n:Nat}:∀ x,x < n->∃ z,z<=x/\z∈aHx q n/\q[z]?=q[x]?:=by
 intro x
 induction x using Nat.strongRecOn with
 |ind x ih=>
  intro hx
  by_cases h:∀ k,k < x->q[k]?≠q[x]?
  ·exact ⟨x,Nat.le_refl _,by unfold aHx;rw [List.mem_filter,List.mem_range,decide_eq_true_iff];exact ⟨hx,h⟩,rfl⟩
  ·obtain ⟨k,hk⟩:=Classical.not_forall.1 h
   obtain ⟨hk1,hk2⟩:=Classical.not_imp.1 hk
   obtain ⟨z,z1,z2,z3⟩:=ih k hk1 (by omega)
   exact ⟨z,by omega,z2,z3.trans (Classical.not_not.1 hk2)⟩
theorem aMb {p q:List Int} (hp:cn p=p) (hq:cn q=q) (hs:aLN q p):q=p\/(aHx p p.length).length < (aHx q p.length).length:=by
 by_cases h:∀ x y:Nat,x < p.length->y < p.length->p[x]?=p[y]?->q[x]?=q[y]?
 ·left
  rw [←hp,←hq]
  refine aKd ⟨hs.1,fun x y hx hy=>?_⟩
  rw [hs.1] at hx hy
  exact ⟨hs.2 x y hx hy,h x y hx hy⟩
 ·right
  have hsub:∀ i,i∈aHx p p.length->i∈aHx q p.length:=fun i hi=>by
   unfold aHx at hi ⊢
   rw [List.mem_filter,List.mem_range,decide_eq_true_iff] at hi ⊢
   exact ⟨hi.1,fun k hk e=>hi.2 k hk (hs.2 k i (by omega) hi.1 e)⟩
  have hex:∃ z,z∈aHx q p.length/\z∉aHx p p.length:=by
   apply Classical.byContradiction
   intro hno
   refine h fun x y hx hy e=>?_
   obtain ⟨a,a1,a2,a3⟩:=aMZ (q:=q) x hx
   obtain ⟨b,b1,b2,b3⟩:=aMZ (q:=q) y hy
   have ha:a∈aHx p p.length:=Classical.byContradiction fun h=>hno ⟨a,a2,h⟩
   have hb:b∈aHx p p.length:=Classical.byContradiction fun h=>hno ⟨b,b2,h⟩
   have hab:p[a]?=p[b]?:=((hs.2 a x (by omega) hx a3).trans e).trans (hs.2 b y (by omega) hy b3).symm
   unfold aHx at ha hb
   rw [List.mem_filter,decide_eq_true_iff] at ha hb
   have:a=b:=by
    rcases Nat.lt_trichotomy a b with h|h|h
    ·exact absurd hab (hb.2 a h)
    ·exact h
    ·exact absurd hab.symm (ha.2 b h)
   subst this
   exact a3.symm.trans b3
  obtain ⟨z,z1,z2⟩:=hex
  have:=List.Nodup.length_le_of_subset (l₁:=z::aHx p p.length) (l₂:=aHx q p.length) (List.nodup_cons.2 ⟨z2,aOt _ _⟩) (fun i hi=>by
   rcases List.mem_cons.1 hi with rfl|hi
   ·exact z1
   ·exact hsub i hi)
  rw [List.length_cons] at this
  omega
theorem aPi (n:Nat):cn (List.replicate n (0:Int))=List.replicate n 0:=by
 refine List.ext_getElem? fun i=>?_
 by_cases hi:i < n
 ·rw [aKF (by simpa using hi),List.getElem_replicate,List.getElem?_replicate,if_pos hi]
  have hdd:∀ m,dd (List.replicate (m+1) (0:Int))=[0]:=by
   intro m
   induction m with
   |zero=>rfl
   |succ m ih=>rw [List.replicate_succ',aJO,ih];rfl
  obtain ⟨m,rfl⟩:∃ m,n=m+1:=⟨n - 1,by omega⟩
  rw [hdd];rfl
 ·rw [List.getElem?_eq_none (by rw [aIL,List.length_replicate];omega),List.getElem?_eq_none (by rw [List.length_replicate];omega)]
theorem cn_cn {κ:Type} [DecidableEq κ] [BEq κ] [LawfulBEq κ] (l:List κ):cn (cn l)=cn l:=aKd (cn_ker l)
theorem aNa {σ ρ:Type} {step:σ->Option (σ ⊕ ρ)} (n:Nat) (I:List Int->σ->Prop) (R:ρ->Prop)
  (h:∀ p s,p.length=n->cn p=p->I p s->(∃ r,step s=some (.inr r)/\R r)\/∃ q s',aLN q p/\cn q=q/\q≠p/\step s=some (.inl s')/\I q s'):
  ∀ (p:List Int) (s:σ),p.length=n->cn p=p->I p s->∃ r,loop step s=some r/\R r:=by
 have key:∀ (m:Nat) (p:List Int) (s:σ),p.length=n->cn p=p->I p s->n<=m+(aHx p n).length->∃ r,loop step s=some r/\R r:=by
  intro m
  induction m with
  |zero=>
   intro p s hl hc hI hm
   rcases h p s hl hc hI with ⟨r,h1,h2⟩|⟨q,s',hq,hqc,hne,h1,h2⟩
   ·exact ⟨r,aIS h1,h2⟩
   ·have h3:=(aMb hc hqc hq).resolve_left hne
    have h4:=heads1_le q n
    rw [hl] at h3
    omega
  |succ m ih=>
   intro p s hl hc hI hm
   rcases h p s hl hc hI with ⟨r,h1,h2⟩|⟨q,s',hq,hqc,hne,h1,h2⟩
   ·exact ⟨r,aIS h1,h2⟩
   ·have h3:=(aMb hc hqc hq).resolve_left hne
    rw [hl] at h3
    rw [aJd h1]
    exact ih q s' (hq.1.trans hl) hqc h2 (by omega)
 intro p s hl hc hI
 exact key n p s hl hc hI (by omega)
theorem aPj {κ:Type} [DecidableEq κ] [BEq κ] [LawfulBEq κ] {p:List Int} {keys:List κ} (hl:keys.length=p.length) (h:∀ x y:Nat,x < p.length->y < p.length->keys[x]?=keys[y]?->p[x]?=p[y]?):aLN (cn keys) p:=by
 refine ⟨by rw [aIL,hl],fun x y hx hy e=>h x y hx hy ?_⟩
 exact ((cn_ker keys).2 x y (by rw [aIL];omega) (by rw [aIL];omega)).1 e
end Gv
namespace Gv
open Go
def AftT (t:cO) (S:List Int) (s:bD) (q:Int):Prop:=∃ e∈t.E,txt t e=s/\e.F∈S/\e.To=q
section
variable {t:cO}
theorem AftT.inn (hv:lD t) {S:List Int} {s:bD} {q:Int} (h:AftT t S s q):0<=q/\q < t.N:=by
 obtain ⟨e,he,_,_,rfl⟩:=h
 exact (aHp hv he).2.1
theorem aQz (hv:lD t) {S:List Int} (hS:S.length < 1000000000) (s:bD):∃ R,pA t S s=some R/\aIP R (AftT t S s):=by
 have h300:=hv.2.2.2.1
 have hl:((t.E.filter fun e=>txt t e == s&&S.any fun x=>e.F == x).map (·.To)).length<=300:=by
  rw [List.length_map];exact Nat.le_trans (List.length_filter_le _ _) h300
 refine ⟨aId (srt iLt ((t.E.filter fun e=>txt t e == s&&S.any fun x=>e.F == x).map (·.To))),?_,aNI.iff fun q=>?_⟩
 ·unfold pA
  rw [aJo (step:=fun x:List Int × Int=>uC t S s x.1 x.2) t.E (fun e=>txt t e == s&&S.any fun x=>e.F == x) (·.To) id (fun j out x hj ho hx=>?_) (fun out=>by simp only [uC,aEa];rfl),wN]
  ·unfold nO
   simp only [id]
   rw [aKn (by omega),wN,aLX _ (by unfold srt;rw [List.length_mergeSort];omega),wN]
  ·obtain ⟨hj',rfl⟩:=aJD hx
   simp only [uC,aCg hj,if_pos,hx,wN,aJH (aHl hv (List.getElem_mem hj')),aJw S _ (show S.length < 4611686018427387904 by omega),nR,nP,aBf hj (show t.E.length < 4611686018427387904 by omega)]
   rw [aCR (by simp [lim];omega),wN]
   cases txt t t.E[j] == s<;>cases (S.any fun x=>t.E[j].F == x)<;>rfl
 ·rw [List.mem_map]
  constructor
  ·rintro ⟨e,he,rfl⟩
   rw [List.mem_filter,Bool.and_eq_true,List.any_eq_true] at he
   obtain ⟨h1,h2,x,hx,h3⟩:=he
   rw [beq_iff_eq] at h2 h3
   exact ⟨e,h1,h2,h3 ▸ hx,rfl⟩
  ·rintro ⟨e,h1,h2,h3,rfl⟩
   refine ⟨e,?_,rfl⟩
   rw [List.mem_filter,Bool.and_eq_true,List.any_eq_true,beq_iff_eq]
   exact ⟨h1,h2,_,h3,by simp⟩
theorem aPk (hv:lD t) {S:List Int} (hS:S.length < 1000000000) (s:bD):∃ R,aAm t S s=some R/\aIP R (Cl t (AftT t S s)):=by
 obtain ⟨R1,f1,f2⟩:=aQz hv hS s
 have hn:R1.Nodup:=f2.ord.imp fun h=>by omega
 obtain ⟨R,g1,g2⟩:=aKo hv hn fun q hq=>((f2.mem q).1 hq).inn hv
 exact ⟨R,by unfold aAm;rw [f1,wN,g1];rfl,g2.iff (Cl.iff f2.mem)⟩
def Wk (t:cO) (y:Int) (s:bD) (w:Int):Prop:=if s=nD then Cl t (·∈[y]) w else Cl t (fun q=>∃ e∈t.E,txt t e=s/\Cl t (·∈[y]) e.F/\e.To=q) w
theorem Wk.inn (hv:lD t) {y:Int} (hy:inT t y) {s:bD} {w:Int} (h:Wk t y s w):inT t w:=by
 unfold inT at hy ⊢
 unfold Wk at h
 split at h
 ·exact h.inn hv fun q hq=>by simp at hq;omega
 ·exact h.inn hv fun q hq=>by
   obtain ⟨e,he,_,_,rfl⟩:=hq
   exact (aHp hv he).2.1
end
end Gv
namespace Gv
open Go
section
variable {t:cO}
theorem aKJ (S:List Int) {x:Int × List Int}:∀ (n k:Nat),x∈aJk t S n k<->∃ j:Nat,k<=j/\j < k+n/\nxt t S (j:Int)≠[]/\x=((j:Int),nxt t S (j:Int))
 |0,k=>by
  simp only [aJk,List.not_mem_nil,false_iff]
  rintro ⟨j,h1,h2,_⟩
  omega
 |n+1,k=>by
  unfold aJk
  have ih:=aKJ S (x:=x) n (k+1)
  split
  ·rename_i h0
   rw [ih]
   constructor
   ·rintro ⟨j,h1,h2,h3⟩;exact ⟨j,by omega,by omega,h3⟩
   ·rintro ⟨j,h1,h2,h3,h4⟩
    refine ⟨j,?_,by omega,h3,h4⟩
    rcases Nat.eq_or_lt_of_le h1 with rfl|h
    ·exact absurd h0 h3
    ·omega
  ·rename_i h0
   rw [List.mem_cons,ih]
   constructor
   ·rintro (rfl|⟨j,h1,h2,h3⟩)
    ·exact ⟨k,Nat.le_refl _,by omega,h0,rfl⟩
    ·exact ⟨j,by omega,by omega,h3⟩
   ·rintro ⟨j,h1,h2,h3,h4⟩
    rcases Nat.eq_or_lt_of_le h1 with rfl|h
    ·exact .inl h4
    ·exact .inr ⟨j,by omega,by omega,h3,h4⟩
noncomputable def aKX (t:cO) (S:List Int) (s:bD):List Int:=(aAm t S s).getD []
noncomputable def aft (t:cO) (tr:List bD):List Int:=tr.foldl (aKX t) (aIR t)
theorem aPl (tr:List bD) (s:bD):aft t (tr++[s])=aKX t (aft t tr) s:=by unfold aft;rw [List.foldl_append];rfl
theorem visT_eq (hv:lD t) {S:List Int} (hS:aIk t S) (s:bD):aAm t S s=some (aKX t S s)/\aIk t (aKX t S s)/\aIP (aKX t S s) (Cl t (AftT t S s)):=by
 obtain ⟨R,h1,h2⟩:=aPk hv (S:=S) (Nat.lt_of_le_of_lt hS.len (by decide)) s
 have:aKX t S s=R:=by unfold aKX;rw [h1];rfl
 rw [this]
 exact ⟨h1,aIk.of hv h2 fun q hq=>hq.inn hv fun x hx=>hx.inn hv,h2⟩
theorem aOu (hv:lD t) {S:List Int} (hS:aIk t S) {k:Nat} (hk:k < t.L.length):aKX t S t.L[k]=nxt t S (k:Int):=by
 obtain ⟨R,h1,h2,_⟩:=aLY hv (S:=S) (Nat.lt_of_le_of_lt hS.len (by decide)) hk
 unfold aKX nxt
 rw [h1,h2]
theorem visT_none (hv:lD t) {S:List Int} (hS:aIk t S) {s:bD} (hs:s∉t.L):aKX t S s=[]:=by
 obtain ⟨_,_,h⟩:=visT_eq hv hS s
 refine List.eq_nil_iff_forall_not_mem.2 fun q hq=>?_
 have hc:=(h.mem q).1 hq
 clear hq
 induction hc with
 |base hx=>
  obtain ⟨e,he,ht,_⟩:=hx
  have hb:=aHp hv he
  refine hs (ht ▸ ?_)
  unfold txt
  rw [List.getD_eq_getElem?_getD,List.getElem?_eq_getElem (show e.B.toNat < t.L.length by omega)]
  exact List.getElem_mem _
 |step _ _ _ ih=>exact ih
theorem aPm (hv:lD t) (s:bD):aKX t [] s=[]:=by
 obtain ⟨_,_,h⟩:=visT_eq hv (S:=[]) ⟨by simp,by simp⟩ s
 refine List.eq_nil_iff_forall_not_mem.2 fun q hq=>?_
 have hc:=(h.mem q).1 hq
 clear hq
 induction hc with
 |base hx=>
  obtain ⟨e,he,ht,hf,_⟩:=hx
  simp at hf
 |step _ _ _ ih=>exact ih
theorem fstS_ne (hv:lD t):aIR t≠[]:=by
 obtain ⟨R,_,h2,h3⟩:=aNK hv
 have:aIR t=R:=by unfold aIR;rw [h2];rfl
 rw [this]
 intro e
 have:=(h3.mem t.I).2 (Cl.base rfl)
 rw [e] at this
 simp at this
noncomputable def aIa (t:cO):cO:=⟨((aFi t).1.length:Int),0,t.L,(aFi t).2⟩
theorem aJM (hv:lD t) (hs:(aFi t).1.length<=40):∀ e,e∈(aFi t).2<->∃ (j:Nat) (S:List Int),(aFi t).1[j]?=some S/\∃ k:Nat,1<=k/\k < t.L.length/\nxt t S (k:Int)≠[]/\nxt t S (k:Int)∈(aFi t).1/\e=⟨(j:Int),(k:Int),pos (aFi t).1 (nxt t S (k:Int))⟩:=by
 have hl:=hv.2.2.1.1
 obtain ⟨g1,g2⟩:=aKf (key:=id) (aHV t) 40 41 0 ([aIR t],[]) hs (by have:=hs;unfold aFi at this;omega) (Nat.zero_le _)
 intro e
 have h2:=g2 e
 rw [show xpl id (aHV t) 40 41 0 ([aIR t],[])=aFi t from rfl] at g1 h2
 simp only [List.map_id,id] at g1 h2
 rw [h2]
 constructor
 ·rintro (h|⟨j,S,_,hj,x,hx,rfl⟩)
  ·simp at h
  ·have hin:=g1 j S (Nat.zero_le _) hj x hx
   unfold aHV at hx
   obtain ⟨k,h3,h4,h5,rfl⟩:=(aKJ S _ _).1 hx
   exact ⟨j,S,hj,k,h3,by omega,h5,hin,rfl⟩
 ·rintro ⟨j,S,hj,k,h3,h4,h5,h6,rfl⟩
  refine .inr ⟨j,S,Nat.zero_le _,hj,((k:Int),nxt t S (k:Int)),?_,rfl⟩
  unfold aHV
  exact (aKJ S _ _).2 ⟨k,h3,by omega,h5,rfl⟩
theorem dfin_next (hv:lD t) (hs:(aFi t).1.length<=40) {j:Nat} {S:List Int} (hj:(aFi t).1[j]?=some S) {k:Nat} (h1:1<=k) (h2:k < t.L.length) (h3:nxt t S (k:Int)≠[]):nxt t S (k:Int)∈(aFi t).1:=by
 obtain ⟨g1,_⟩:=aKf (key:=id) (aHV t) 40 41 0 ([aIR t],[]) hs (by have:=hs;unfold aFi at this;omega) (Nat.zero_le _)
 rw [show xpl id (aHV t) 40 41 0 ([aIR t],[])=aFi t from rfl] at g1
 simp only [List.map_id,id] at g1
 refine g1 j S (Nat.zero_le _) hj ((k:Int),nxt t S (k:Int)) ?_
 unfold aHV
 exact (aKJ S _ _).2 ⟨k,h1,by omega,h3,rfl⟩
theorem dfin_good (hv:lD t) {j:Nat} {S:List Int} (hj:(aFi t).1[j]?=some S):aIk t S:=(aKR hv).2.1 S (List.mem_of_getElem? hj)
theorem dfin_zero (hv:lD t) (hs:Small (aFi t)):(aFi t).1[0]?=some (aIR t):=by
 obtain ⟨C,hC⟩:=(aKq (key:=id) (aHV t) 40 41 0 ([aIR t],[])).1
 rw [show xpl id (aHV t) 40 41 0 ([aIR t],[])=aFi t from rfl] at hC
 rw [←hC]
 rfl
theorem aKK {γ:Type} {p:List γ->Prop} (nil:p []) (snoc:∀ l x,p l->p (l++[x])):∀ l,p l:=by
 have:∀ l:List γ,p l.reverse:=by
  intro l
  induction l with
  |nil=>exact nil
  |cons x l ih=>rw [List.reverse_cons];exact snoc _ _ ih
 intro l
 have:=this l.reverse
 rwa [List.reverse_reverse] at this
theorem det_go (hv:lD t) (hs:Small (aFi t)) {k:Nat} {S:List Int} (hk:(aFi t).1[k]?=some S) {s:bD} (hs':s≠nD):
  (aKX t S s=[]/\bW (aIa t) (k:Int) s=-1)\/∃ j:Nat,(aFi t).1[j]?=some (aKX t S s)/\aKX t S s≠[]/\bW (aIa t) (k:Int) s=(j:Int):=by
 have hg:=dfin_good hv hk
 have hnd:(aFi t).1.Nodup:=by have:=(aKR hv).1;rwa [List.map_id] at this
 unfold bW
 cases hf:(aIa t).E.find? (hit (aIa t) (k:Int) s) with
 |some e=>
  right
  have he:=List.mem_of_find?_eq_some hf
  have hh:=List.find?_some hf
  obtain ⟨j,S',hj,n,h1,h2,h3,h4,rfl⟩:=(aJM hv hs.1 e).1 he
  unfold hit at hh
  rw [Bool.and_eq_true,beq_iff_eq,beq_iff_eq] at hh
  obtain ⟨e1,e2⟩:=hh
  have e1:(j:Int)=(k:Int):=e1
  obtain rfl:j=k:=by omega
  rw [hk] at hj
  cases hj
  have e2:t.L.getD n []=s:=e2
  rw [List.getD_eq_getElem?_getD,List.getElem?_eq_getElem h2] at e2
  have e2:t.L[n]=s:=e2
  rw [←e2,aOu hv hg h2]
  obtain ⟨i,hi,hp,hq⟩:=aIl h4
  exact ⟨i,by rw [List.getElem?_eq_getElem hi,hq],h3,hp⟩
 |none=>
  left
  refine ⟨?_,rfl⟩
  by_cases hm:s∈t.L
  ·obtain ⟨n,hn,rfl⟩:=List.mem_iff_getElem.1 hm
   rw [aOu hv hg hn]
   have h1:1<=n:=by
    rcases Nat.eq_zero_or_pos n with rfl|h
    ·exact absurd (hv.2.2.1.2.2.1 hn) hs'
    ·exact h
   by_cases h0:nxt t S (n:Int)=[]
   ·exact h0
   ·exfalso
    have:=List.find?_eq_none.1 hf ⟨(k:Int),(n:Int),pos (aFi t).1 (nxt t S (n:Int))⟩ ((aJM hv hs.1 _).2 ⟨k,S,hk,n,h1,hn,h0,dfin_next hv hs.1 hk h1 hn h0,rfl⟩)
    refine this ?_
    unfold hit
    rw [Bool.and_eq_true,beq_iff_eq,beq_iff_eq]
    refine ⟨rfl,?_⟩
    show t.L.getD n []=t.L[n]
    rw [List.getD_eq_getElem?_getD,List.getElem?_eq_getElem hn];rfl
  ·exact visT_none hv hg hm
def aIg (d:cO) (tr:List bD):Int:=tr.foldl (bW d) 0
theorem aIA (d:cO) (tr:List bD) (s:bD):aIg d (tr++[s])=bW d (aIg d tr) s:=by unfold aIg;rw [List.foldl_append];rfl
theorem run_det (hv:lD t) (hs:Small (aFi t)) {tr:List bD} (ht:∀ s∈tr,s≠nD):(aft t tr=[]/\aIg (aIa t) tr=-1)\/∃ j:Nat,(aFi t).1[j]?=some (aft t tr)/\aft t tr≠[]/\aIg (aIa t) tr=(j:Int):=by
 induction tr using aKK with
 |nil=>exact .inr ⟨0,dfin_zero hv hs,fstS_ne hv,rfl⟩
 |snoc tr s ih=>
  have hs':s≠nD:=ht s (by simp)
  rw [aPl,aIA]
  rcases ih fun x hx=>ht x (by simp [hx]) with ⟨h1,h2⟩|⟨j,h1,h2,h3⟩
  ·left
   rw [h1,h2]
   exact ⟨aPm hv s,aKk (aIC hv hs).1 (by decide) s⟩
  ·rw [h3]
   exact det_go hv hs h1 hs'
theorem aJn (hv:lD t) (hs:Small (aFi t)) {tr:List bD} (ht:∀ s∈tr,s≠nD):aIg (aIa t) tr < 0<->aft t tr=[]:=by
 rcases run_det hv hs ht with ⟨h1,h2⟩|⟨j,h1,h2,h3⟩
 ·simp [h1,h2]
 ·rw [h3];constructor
  ·intro h;omega
  ·intro h;exact absurd h h2
end
end Gv
namespace Gv
open Go
def aKY (d:cO) (k:Int) (tr:List bD):Int:=tr.foldl (bW d) k
theorem aKV (d:cO) (k:Int) (s:bD) (tr:List bD):aKY d k (s::tr)=aKY d (bW d k s) tr:=rfl
section
variable {d:cO}
theorem aNb (hd:lD d) {k:Int} (hk:k < 0) (tr:List bD):aKY d k tr < 0:=by
 induction tr generalizing k with
 |nil=>exact hk
 |cons s tr ih=>rw [aKV];exact ih (by rw [aKk hd hk];decide)
def SameF (d:cO) (n:Nat) (x y:Int):Prop:=∀ tr:List bD,(∀ s∈tr,s∈d.L.tail)->tr.length<=n->(aKY d x tr < 0<->aKY d y tr < 0)
theorem aLv (hd:lD d):∀ (j:Nat) {x y:Nat},x < d.N.toNat->y < d.N.toNat->((aGs d j)[x]?=(aGs d j)[y]?<->SameF d j (x:Int) (y:Int))
 |0,x,y,hx,hy=>by
  constructor
  ·intro _ tr _ hl
   have:tr=[]:=List.eq_nil_of_length_eq_zero (by omega)
   subst this
   show (x:Int) < 0<->(y:Int) < 0
   omega
  ·intro _
   simp [aGs,hx,hy]
 |j+1,x,y,hx,hy=>by
  have hrng:∀ (k:Nat) (s:bD),-1<=bW d (k:Int) s/\bW d (k:Int) s<=d.N - 1:=fun k s=>aKl hd _ s
  rw [aLh d j hx hy]
  unfold kr
  constructor
  ·intro h tr ht hl
   cases tr with
   |nil=>show (x:Int) < 0<->(y:Int) < 0;omega
   |cons s tr=>
    rw [aKV,aKV]
    have e:=List.map_inj_left.1 h s (ht s List.mem_cons_self)
    rw [aMj hd (aJx d j) (aKS d j) (hrng x s) (hrng y s)] at e
    rcases e with ⟨e1,e2⟩|⟨e1,e2,e3⟩
    ·exact ⟨fun _=>aNb hd e2 tr,fun _=>aNb hd e1 tr⟩
    ·have hx':=hrng x s
     have hy':=hrng y s
     have:=(aLv hd j (x:=(bW d (x:Int) s).toNat) (y:=(bW d (y:Int) s).toNat) (by omega) (by omega)).1 e3
     rw [Int.toNat_of_nonneg e1,Int.toNat_of_nonneg e2] at this
     exact this tr (fun z hz=>ht z (List.mem_cons_of_mem _ hz)) (by simp only [List.length_cons] at hl;omega)
  ·intro h
   refine List.map_congr_left fun s hs=>?_
   rw [aMj hd (aJx d j) (aKS d j) (hrng x s) (hrng y s)]
   have hx':=hrng x s
   have hy':=hrng y s
   have h0:=h [s] (fun z hz=>by rw [List.mem_singleton] at hz;exact hz ▸ hs) (by simp)
   have h0':bW d (x:Int) s < 0<->bW d (y:Int) s < 0:=h0
   by_cases hn:bW d (x:Int) s < 0
   ·exact .inl ⟨hn,h0'.1 hn⟩
   ·have hn':¬ bW d (y:Int) s < 0:=fun g=>hn (h0'.2 g)
    refine .inr ⟨by omega,by omega,?_⟩
    refine (aLv hd j (x:=(bW d (x:Int) s).toNat) (y:=(bW d (y:Int) s).toNat) (by omega) (by omega)).2 fun tr ht hl=>?_
    rw [Int.toNat_of_nonneg (by omega),Int.toNat_of_nonneg (by omega)]
    exact h (s::tr) (fun z hz=>by rcases List.mem_cons.1 hz with rfl|hz;exact hs;exact ht z hz) (by simp only [List.length_cons];omega)
theorem blk_stab (hd:lD d):aGs d (d.N.toNat+1)=aGs d d.N.toNat:=by
 have h40:=hd.1
 have hle:∀ j,(aHx (aGs d j) d.N.toNat).length<=d.N.toNat:=fun j=>by
  have:=List.length_filter_le (fun i=>decide (∀ k,k < i->(aGs d j)[k]?≠(aGs d j)[i]?)) (List.range d.N.toNat)
  rw [List.length_range] at this
  exact this
 have h0:1<=(aHx (aGs d 0) d.N.toNat).length:=by
  have:0∈aHx (aGs d 0) d.N.toNat:=by
   unfold aHx
   rw [List.mem_filter,List.mem_range,decide_eq_true_iff]
   exact ⟨by omega,fun k hk=>by omega⟩
  exact List.length_pos_of_mem this
 by_cases hall:∀ i,i < d.N.toNat->aGs d (i+1)≠aGs d i
 ·have key:∀ j,j<=d.N.toNat->j+1<=(aHx (aGs d j) d.N.toNat).length:=by
   intro j
   induction j with
   |zero=>intro _;exact h0
   |succ j ih=>
    intro hj
    have h1:=ih (by omega)
    have h2:=(aMU hd j).resolve_left (hall j (by omega))
    omega
  have:=key d.N.toNat (Nat.le_refl _)
  have:=hle d.N.toNat
  omega
 ·have:∃ i,i < d.N.toNat/\aGs d (i+1)=aGs d i:=Classical.byContradiction fun hn=>hall fun i hi e=>hn ⟨i,hi,e⟩
  obtain ⟨i,hi,e⟩:=this
  have e1:=aKG e (d.N.toNat - i)
  have e2:=aKG e (d.N.toNat+1 - i)
  rw [show i+(d.N.toNat - i)=d.N.toNat by omega] at e1
  rw [show i+(d.N.toNat+1 - i)=d.N.toNat+1 by omega] at e2
  rw [e1,e2]
theorem blk_full (hd:lD d) {x y:Nat} (hx:x < d.N.toNat) (hy:y < d.N.toNat):(aGs d d.N.toNat)[x]?=(aGs d d.N.toNat)[y]?<->∀ tr:List bD,(∀ s∈tr,s∈d.L.tail)->(aKY d (x:Int) tr < 0<->aKY d (y:Int) tr < 0):=by
 constructor
 ·intro h tr ht
  have h2:(aGs d (d.N.toNat+tr.length))[x]?=(aGs d (d.N.toNat+tr.length))[y]?:=by rw [aKG (blk_stab hd)];exact h
  exact (aLv hd _ hx hy).1 h2 tr ht (by omega)
 ·intro h
  exact (aLv hd _ hx hy).2 fun tr ht _=>h tr ht
end
end Gv
namespace Gv
open Go
section
variable (a b:cO) (M:List bD)
def aIM (e:bT):List bT:=M.map fun s=>⟨bW a e.a s,bW b e.b s,e.trace++[s]⟩
def bN (p q:Int):Prop:=p < 0/\q < 0
instance (p q:Int):Decidable (bN p q):=inferInstanceAs (Decidable (_/\_))
structure Stp (fd:Int->Int->Bool) (step:List ((Int × Int) × Bool) × List bT->Option ((List ((Int × Int) × Bool) × List bT) ⊕ (Unit ⊕ (List bD × Bool)))):Prop where
 nil:∀ l,step (mtt l,[])=some (.inr (.inl ()))
 skip:∀ l e r,r.length<=1000000->e.trace.length<=1000000->bN e.a e.b\/(e.a,e.b)∈l->step (mtt l,e::r)=some (.inl (mtt l,r))
 hit:∀ l e r,r.length<=1000000->e.trace.length<=1000000->¬ bN e.a e.b->(e.a,e.b)∉l->fd e.a e.b=true->step (mtt l,e::r)=some (.inr (.inr (e.trace,true)))
 more:∀ l e r,r.length<=1000000->e.trace.length<=1000000->¬ bN e.a e.b->(e.a,e.b)∉l->fd e.a e.b=false->step (mtt l,e::r)=some (.inl (mtt (l++[(e.a,e.b)]),r++aIM a b M e))
def OvM (tr:List bD):Prop:=∀ s∈tr,s∈M
def FtRes (fd:Int->Int->Bool) (r:Unit ⊕ (List bD × Bool)):Prop:=
 match r with
 |.inl _=>∀ tr,OvM M tr->bN (aIg a tr) (aIg b tr)\/fd (aIg a tr) (aIg b tr)=false
 |.inr (tr,v)=>v=true/\tr.length<=2000/\OvM M tr/\¬ bN (aIg a tr) (aIg b tr)/\fd (aIg a tr) (aIg b tr)=true/\∀ tr' s,tr=tr'++[s]->¬ bN (aIg a tr') (aIg b tr')/\fd (aIg a tr') (aIg b tr')=false
structure FtI (fd:Int->Int->Bool) (l:List (Int × Int)) (todo:List bT):Prop where
 nd:l.Nodup
 rng:∀ p∈l,(-1<=p.1/\p.1<=39)/\-1<=p.2/\p.2<=39
 ok:∀ p∈l,¬ bN p.1 p.2/\fd p.1 p.2=false
 ent:∀ e∈todo,OvM M e.trace/\e.a=aIg a e.trace/\e.b=aIg b e.trace/\e.trace.length<=l.length/\∀ tr' s,e.trace=tr'++[s]->¬ bN (aIg a tr') (aIg b tr')/\fd (aIg a tr') (aIg b tr')=false
 cls:∀ p∈l,∀ s∈M,bN (bW a p.1 s) (bW b p.2 s)\/(bW a p.1 s,bW b p.2 s)∈l\/∃ e∈todo,e.a=bW a p.1 s/\e.b=bW b p.2 s
 ini:(0,0)∈l\/∃ e∈todo,e.a=0/\e.b=0
 len:todo.length<=1+30 * l.length
end
section
variable {a b:cO} {M:List bD} {fd:Int->Int->Bool}
theorem FtI.small {l:List (Int × Int)} {todo:List bT} (h:FtI a b M fd l todo):l.length<=1681:=by
 have:=List.Nodup.length_le_of_subset (l₂:=(List.range 1681).map fun (i:Nat)=>(((i / 41:Nat):Int) - 1,((i % 41:Nat):Int) - 1)) h.nd (fun q hq=>by
  have hr:=h.rng q hq
  rw [List.mem_map]
  refine ⟨(q.1+1).toNat * 41+(q.2+1).toNat,by rw [List.mem_range];omega,?_⟩
  have e1:((q.1+1).toNat * 41+(q.2+1).toNat) / 41=(q.1+1).toNat:=by omega
  have e2:((q.1+1).toNat * 41+(q.2+1).toNat) % 41=(q.2+1).toNat:=by omega
  rw [e1,e2]
  refine Prod.ext ?_ ?_<;>simp only<;>omega)
 rw [List.length_map,List.length_range] at this
 exact this
theorem aPn {d:cO} (hd:lD d) (h0:d.N<=40) (tr:List bD):-1<=aIg d tr/\aIg d tr<=39:=by
 induction tr using aKK with
 |nil=>exact ⟨by show (-1:Int)<=0;decide,by show (0:Int)<=39;decide⟩
 |snoc tr s _=>rw [aIA];have:=aKl hd (aIg d tr) s;omega
theorem aPo {d:cO} (hd:lD d) {tr:List bD} (h:aIg d tr < 0) (s:bD):aIg d (tr++[s]) < 0:=by
 rw [aIA,aKk hd h];decide
theorem aQA {step:_} (h:Stp a b M fd step) (ha:lD a) (hb:lD b) (hM:M.length<=30):∃ r,loop step (mtt [],[⟨0,0,[]⟩])=some r/\FtRes a b M fd r:=by
 have a40:=ha.1
 have b40:=hb.1
 refine aIx (fun s=>∃ l todo,s=(mtt l,todo)/\FtI a b M fd l todo) (fun s=>31 * (1681 - s.1.length)+s.2.length) (FtRes a b M fd) (fun s hs=>?_) ⟨[],[⟨0,0,[]⟩],rfl,⟨by simp,by simp,by simp,?_,by simp,.inr ⟨_,List.mem_singleton.2 rfl,rfl,rfl⟩,by simp⟩⟩
 ·obtain ⟨l,todo,rfl,hI⟩:=hs
  have hl:=hI.small
  cases todo with
  |nil=>
   right
   refine ⟨_,h.nil l,fun tr htr=>?_⟩
   have:bN (aIg a tr) (aIg b tr)\/(aIg a tr,aIg b tr)∈l:=by
    induction tr using aKK with
    |nil=>
     rcases hI.ini with h0|⟨e,he,_⟩
     ·exact .inr h0
     ·simp at he
    |snoc tr s ih=>
     rcases ih (fun x hx=>htr x (by simp [hx])) with h1|h1
     ·exact .inl ⟨aPo ha h1.1 s,aPo hb h1.2 s⟩
     ·rw [aIA,aIA]
      rcases hI.cls _ h1 s (htr s (by simp)) with h2|h2|⟨e,he,_⟩
      ·exact .inl h2
      ·exact .inr h2
      ·simp at he
   rcases this with h1|h1
   ·exact .inl h1
   ·exact .inr (hI.ok _ h1).2
  |cons e r=>
   have hlen:=hI.len
   simp only [List.length_cons] at hlen
   obtain ⟨e1,e2,e3,e4,e5⟩:=hI.ent e List.mem_cons_self
   have hr:r.length<=1000000:=by omega
   have ht:e.trace.length<=1000000:=by omega
   by_cases hsk:bN e.a e.b\/(e.a,e.b)∈l
   ·left
    refine ⟨(mtt l,r),h.skip l e r hr ht hsk,⟨l,r,rfl,hI.nd,hI.rng,hI.ok,fun x hx=>hI.ent x (List.mem_cons_of_mem _ hx),fun p hp s hs=>?_,?_,by omega⟩,by simp only [List.length_cons];omega⟩
    ·rcases hI.cls p hp s hs with g|g|⟨x,hx,g1,g2⟩
     ·exact .inl g
     ·exact .inr (.inl g)
     ·rcases List.mem_cons.1 hx with rfl|hx
      ·rw [g1,g2] at hsk
       rcases hsk with g|g
       ·exact .inl g
       ·exact .inr (.inl g)
      ·exact .inr (.inr ⟨x,hx,g1,g2⟩)
    ·rcases hI.ini with g|⟨x,hx,g1,g2⟩
     ·exact .inl g
     ·rcases List.mem_cons.1 hx with rfl|hx
      ·rw [g1,g2] at hsk
       rcases hsk with g|g
       ·exact absurd g.1 (by decide)
       ·exact .inl g
      ·exact .inr ⟨x,hx,g1,g2⟩
   ·have hn:¬ bN e.a e.b:=fun g=>hsk (.inl g)
    have hnl:(e.a,e.b)∉l:=fun g=>hsk (.inr g)
    cases hfd:fd e.a e.b with
    |true=>
     right
     refine ⟨_,h.hit l e r hr ht hn hnl hfd,rfl,by omega,e1,?_,?_,e5⟩
     ·rw [←e2,←e3];exact hn
     ·rw [←e2,←e3];exact hfd
    |false=>
     left
     have hra:=aPn ha (by omega) e.trace
     have hrb:=aPn hb (by omega) e.trace
     rw [←e2] at hra
     rw [←e3] at hrb
     have hnew:FtI a b M fd (l++[(e.a,e.b)]) (r++aIM a b M e):=by
      refine ⟨List.nodup_append.2 ⟨hI.nd,by simp,fun x hx y hy=>?_⟩,fun p hp=>?_,fun p hp=>?_,fun x hx=>?_,fun p hp s hs=>?_,?_,?_⟩
      ·rw [List.mem_singleton] at hy
       subst hy
       exact fun g=>hnl (g ▸ hx)
      ·rcases List.mem_append.1 hp with hp|hp
       ·exact hI.rng p hp
       ·rw [List.mem_singleton] at hp
        subst hp
        exact ⟨hra,hrb⟩
      ·rcases List.mem_append.1 hp with hp|hp
       ·exact hI.ok p hp
       ·rw [List.mem_singleton] at hp
        subst hp
        exact ⟨hn,hfd⟩
      ·rcases List.mem_append.1 hx with hx|hx
       ·obtain ⟨g1,g2,g3,g4,g5⟩:=hI.ent x (List.mem_cons_of_mem _ hx)
        exact ⟨g1,g2,g3,by rw [List.length_append];omega,g5⟩
       ·unfold aIM at hx
        obtain ⟨s,hs,rfl⟩:=List.mem_map.1 hx
        refine ⟨fun y hy=>?_,?_,?_,?_,fun tr' s' hx'=>?_⟩
        ·rcases List.mem_append.1 hy with hy|hy
         ·exact e1 y hy
         ·rw [List.mem_singleton] at hy
          exact hy ▸ hs
        ·show bW a e.a s=aIg a (e.trace++[s])
         rw [aIA,e2]
        ·show bW b e.b s=aIg b (e.trace++[s])
         rw [aIA,e3]
        ·show (e.trace++[s]).length<=_
         simp only [List.length_append,List.length_singleton];omega
        ·have hx':e.trace++[s]=tr'++[s']:=hx'
         obtain ⟨rfl,_⟩:=List.append_inj' hx' rfl
         rw [←e2,←e3]
         exact ⟨hn,hfd⟩
      ·rcases List.mem_append.1 hp with hp|hp
       ·rcases hI.cls p hp s hs with g|g|⟨x,hx,g1,g2⟩
        ·exact .inl g
        ·exact .inr (.inl (List.mem_append_left _ g))
        ·rcases List.mem_cons.1 hx with rfl|hx
         ·refine .inr (.inl (List.mem_append_right _ (List.mem_singleton.2 ?_)))
          rw [g1,g2]
         ·exact .inr (.inr ⟨x,List.mem_append_left _ hx,g1,g2⟩)
       ·rw [List.mem_singleton] at hp
        subst hp
        exact .inr (.inr ⟨⟨bW a e.a s,bW b e.b s,e.trace++[s]⟩,List.mem_append_right _ (List.mem_map.2 ⟨s,hs,rfl⟩),rfl,rfl⟩)
      ·rcases hI.ini with g|⟨x,hx,g1,g2⟩
       ·exact .inl (List.mem_append_left _ g)
       ·rcases List.mem_cons.1 hx with rfl|hx
        ·refine .inl (List.mem_append_right _ (List.mem_singleton.2 ?_))
         rw [g1,g2]
        ·exact .inr ⟨x,List.mem_append_left _ hx,g1,g2⟩
      ·unfold aIM
       simp only [List.length_append,List.length_map,List.length_singleton];omega
     have hl2:=hnew.small
     refine ⟨(mtt (l++[(e.a,e.b)]),r++aIM a b M e),h.more l e r hr ht hn hnl hfd,⟨_,_,rfl,hnew⟩,?_⟩
     simp only [mtt_len,List.length_append,List.length_singleton,List.length_cons] at hl2 ⊢
     unfold aIM
     rw [List.length_map]
     omega
 ·intro e he
  rw [List.mem_singleton] at he
  subst he
  exact ⟨fun s hs=>(by simp at hs),rfl,rfl,Nat.le_refl _,fun tr' s h=>by simp at h⟩
end
end Gv
namespace Gv
open Go
section
variable {a b:cO} {M:List bD}
theorem aPp {γ:Type} (x:γ) (l:List γ):slc (x::l) 1 ((x::l).length:Int)=some l:=by
 unfold slc
 rw [if_pos ⟨by decide,by simp;omega,by simp⟩]
 simp
theorem aNP {l:List bD} (h:l.length<=2000000):fB l=some l:=by
 unfold fB
 rw [aCR (by simp [lim];omega),wN,List.nil_append]
theorem ft_push (ha:aGt a) (hb:aGt b) (hM:M.length<=30) {e:bT} {r:List bT} (hr:r.length<=1000000) (ht:e.trace.length<=1000000):
  loop (fun s:List bT × Int=>aIq a b M e s.1 s.2) (r,0)=some (r++aIM a b M e):=by
 obtain ⟨x,h1,h2⟩:=aHR (step:=fun s:List bT × Int=>aIq a b M e s.1 s.2) M.length (fun k (q:List bT)=>(q,(k:Int))) (fun k q=>q=r++aIM a b (M.take k) e) (fun q=>q=r++aIM a b M e) (fun k q hk hI=>by
  subst hI
  refine ⟨r++aIM a b (M.take (k+1)) e,?_,rfl⟩
  show aIq a b M e (r++aIM a b (M.take k) e) (k:Int)=_
  unfold aIq aKt
  have hl:(aIM a b (M.take k) e).length=k:=by unfold aIM;rw [List.length_map,List.length_take];omega
  rw [if_pos (aCg hk),aAR hk,wN,aOi ha.1 ha.2,wN,aOi hb.1 hb.2,wN,aNP (by omega),wN,aCR (by simp [lim];omega),wN,aCR (by simp only [List.length_append,List.length_singleton,hl,lim];omega),wN,aBf hk (by omega)]
  unfold aIM
  rw [List.take_succ_eq_append_getElem hk,List.map_append,List.map_singleton,List.append_assoc]) (fun q hI=>by
  subst hI
  refine ⟨r++aIM a b (M.take M.length) e,?_,by rw [List.take_length]⟩
  show aIq a b M e (r++aIM a b (M.take M.length) e) (M.length:Int)=_
  unfold aIq
  rw [if_neg (by simp)]) M.length 0 r (by omega) (by simp [aIM])
 subst h2
 exact h1
theorem s5_v2:@oK=@aIq:=rfl
theorem ft_step2 (ha:aGt a) (hb:aGt b) (hM:M.length<=30):Stp a b M (fun p q=>decide (p < 0\/q < 0)) fun s=>oL a b M s.1 s.2:=by
 have hc:∀ (l:List (Int × Int)) (e:bT) (r:List bT),oL a b M (mtt l) (e::r)=iQ a b M (mtt l) e r (decide (bN e.a e.b\/(e.a,e.b)∈l)):=by
  intro l e r
  unfold oL
  rw [if_pos (by simp),show ix (e::r) 0=some e from rfl,wN,aPp,wN]
  have hg:(iV (mtt l) (⟨e.a,e.b⟩:Int × Int)).getD false=decide ((e.a,e.b)∈l):=aPg (e.a,e.b) l
  rw [hg]
  by_cases h1:e.a < 0
  ·rw [if_pos (by simpa using h1)]
   by_cases h2:e.b < 0
   ·rw [if_pos (by simpa using h2),decide_eq_true (show bN e.a e.b\/(e.a,e.b)∈l from .inl ⟨h1,h2⟩)]
   ·rw [if_neg (by simpa using h2)]
    congr 1
    exact decide_eq_decide.2 ⟨.inr,fun h=>h.resolve_left fun g=>h2 g.2⟩
  ·rw [if_neg (by simpa using h1)]
   congr 1
   exact decide_eq_decide.2 ⟨.inr,fun h=>h.resolve_left fun g=>h1 g.1⟩
 have hq:∀ p q:Int,rQ p q=some (decide (p < 0\/q < 0)):=by
  intro p q
  unfold rQ jQ
  by_cases h:p < 0<;>simp [h]
 refine ⟨fun l=>?_,fun l e r hr ht h=>?_,fun l e r hr ht h1 h2 h3=>?_,fun l e r hr ht h1 h2 h3=>?_⟩
 ·show oL a b M (mtt l) []=_
  unfold oL
  rw [if_neg (by simp)]
 ·show oL a b M (mtt l) (e::r)=_
  rw [hc,decide_eq_true h];rfl
 ·show oL a b M (mtt l) (e::r)=_
  rw [hc,decide_eq_false (fun g=>g.elim h1 h2)]
  unfold iQ
  rw [if_neg (by simp),wN,hq,wN,if_pos h3]
 ·show oL a b M (mtt l) (e::r)=_
  rw [hc,decide_eq_false (fun g=>g.elim h1 h2)]
  unfold iQ
  have hp:yG (mtt l) (⟨e.a,e.b⟩:Int × Int) true=mtt (l++[(e.a,e.b)]):=aPh h2
  rw [if_neg (by simp),wN,hq,wN,if_neg (by simpa using h3),s5_v2,ft_push ha hb hM hr ht,wN,hp]
  rfl
def aNQ:Unit ⊕ (List bD × Bool)->List bD × Bool
 |.inl _=>([],false)
 |.inr x=>x
theorem aQB (ha:lD a) (hb:lD b):∃ M,Jn a b M/\(ob (gI [a.L,b.L]) fun r35=>ob (aGN 1 0 r35 []) fun r47=>slc r47.L 1 (r47.L.length:Int))=some M:=by
 obtain ⟨M,_,hJ,_⟩:=jn_of ha hb
 have h1:=ha.2.2.1.2.1
 have h2:=hb.2.2.1.2.1
 refine ⟨M,hJ,?_⟩
 rw [aQq _ _ (by omega),wN,lts_gen (M:=M) (Eo:=[]) hJ.str hJ.mem (by rw [List.length_append];omega) (by simp) (by simp) (by unfold SE;simp) (by simp) (by have:=hJ.len;omega),wN]
 exact aPp nD M
theorem first_two (ha:aGt a) (hb:aGt b) (ha0:a.I=0) (hb0:b.I=0):∃ M r,Jn a b M/\uL a b=some (aNQ r)/\FtRes a b M (fun p q=>decide (p < 0\/q < 0)) r:=by
 obtain ⟨M,hJ,hm⟩:=aQB ha.1 hb.1
 have hlen:=hJ.len
 obtain ⟨r,h1,h2⟩:=aQA (ft_step2 (M:=M) ha hb (by omega)) ha.1 hb.1 (by omega)
 refine ⟨M,r,hJ,?_,h2⟩
 unfold uL
 have h1':loop (fun s:List ((Int × Int) × Bool) × List bT=>oL a b M s.1 s.2) (([]:List ((Int × Int) × Bool)),([⟨0,0,[]⟩]:List bT))=some r:=h1
 cases hx:gI [a.L,b.L] with
 |none=>rw [hx] at hm;cases hm
 |some X=>
  rw [hx,wN] at hm
  rw [wN]
  cases hy:aGN 1 0 X [] with
  |none=>rw [hy] at hm;cases hm
  |some Y=>
   rw [hy,wN] at hm
   rw [wN,hm,wN,ha0,hb0,h1',wN]
   cases r with
   |inl x=>rfl
   |inr x=>rfl
end
end Gv
namespace Gv
open Go
def VisL (s:bD):Prop:=aJF s=true/\s≠nD/\s.length<=999999999
section
variable {t:cO}
theorem tail_vis (hv:lD t) (hf:aBX 999999999 t) {s:bD} (hs:s∈t.L.tail):VisL s:=by
 have hl:=hv.2.2.1
 obtain ⟨k,hk,rfl⟩:=List.mem_iff_getElem.1 hs
 rw [List.length_tail] at hk
 have h:=hl.2.2.2 (k+1) (by omega) (by omega)
 rw [List.getElem_tail]
 exact ⟨h.1,h.2.1,hf.2.1 _ (List.getElem_mem _)⟩
theorem out_eqI {d:cO} (hd:lD d) (k:Int):aDf d k=some (aIc d k):=by
 have hal:=hd.2.2.2.1
 unfold aDf
 rw [aJo (step:=fun s:List Edge × Int=>aBR d k s.1 s.2) d.E (fun e=>e.F == k) id id (fun j out x hk ho hx=>?_) (fun out=>by simp only [aBR,aEa];rfl),wN]
 ·simp [wI,aIc]
 ·simp only [aBR,aCg hk,if_pos,hx,wN,wJ,aBf hk (show d.E.length < 4611686018427387904 by omega)]
  rw [aCR (by simp [lim];omega),wN]
  cases x.F == k<;>rfl
theorem aPq {d:cO} (hd:aGt d) {e:Edge} (he:e∈d.E):bW d e.F (txt d e)=e.To:=by
 have h:=aOh hd.1 hd.2 e.F (txt d e)
 have hm:e∈d.E.filter (hit d e.F (txt d e)):=List.mem_filter.2 ⟨he,by unfold hit;simp⟩
 unfold bW
 rw [h] at hm
 cases hf:d.E.find? (hit d e.F (txt d e)) with
 |none=>rw [hf] at hm;simp at hm
 |some x=>
  rw [hf] at hm
  simp at hm
  rw [hm]
def kid (d:cO) (n:Nat) (e:bT):List bT:=if e.trace.length=n then [] else (aIc d e.a).map fun x=>⟨x.To,0,e.trace++[txt d x]⟩
structure EntP (d:cO) (n:Nat) (e:bT):Prop where
 len:e.trace.length<=n
 lab:∀ s∈e.trace,s∈d.L.tail
 run:e.a=aIg d e.trace
 pos:0<=e.a
theorem kid_ok {d:cO} (hd:aGt d) {n:Nat} {e x:bT} (he:EntP d n e) (hx:x∈kid d n e):EntP d n x:=by
 unfold kid at hx
 split at hx
 ·simp at hx
 ·rename_i hn
  obtain ⟨y,hy,rfl⟩:=List.mem_map.1 hx
  unfold aIc at hy
  obtain ⟨hy1,hy2⟩:=List.mem_filter.1 hy
  rw [beq_iff_eq] at hy2
  have hb:=aHp hd.1 hy1
  obtain ⟨k,hk,hke⟩:=List.mem_iff_getElem.1 hy1
  have hs:=(hd.2 k hk).1
  rw [hke] at hs
  have hlen:=he.len
  refine ⟨by simp only [List.length_append,List.length_singleton];omega,fun s h=>?_,?_,hb.2.1.1⟩
  ·rcases List.mem_append.1 h with h|h
   ·exact he.lab s h
   ·rw [List.mem_singleton] at h
    subst h
    unfold txt
    have hlt:y.B.toNat < d.L.length:=by omega
    rw [List.getD_eq_getElem?_getD,List.getElem?_eq_getElem hlt]
    rw [List.mem_iff_getElem]
    refine ⟨y.B.toNat - 1,by rw [List.length_tail];omega,?_⟩
    rw [List.getElem_tail]
    show d.L[y.B.toNat - 1+1]=d.L[y.B.toNat]
    congr 1
    omega
  ·show y.To=aIg d (e.trace++[txt d y])
   rw [aIA,←he.run,←hy2,aPq hd hy1]
theorem tr_push {d:cO} (hd:aGt d) {c:Int} {n:Nat} (hn:n<=1000) {e:bT} (he:EntP d n e) {r:List bT} (hr:r.length<=1000000):
  loop (fun s:List bT × Int=>aAM (d,c) e (aIc d e.a) s.1 s.2) (r,0)=some (r++(aIc d e.a).map fun x=>⟨x.To,0,e.trace++[txt d x]⟩):=by
 have h3:=hd.1.2.2.2.1
 have ol:(aIc d e.a).length<=300:=Nat.le_trans (List.length_filter_le _ _) h3
 have hlen:=he.len
 obtain ⟨x,h1,h2⟩:=aHR (step:=fun s:List bT × Int=>aAM (d,c) e (aIc d e.a) s.1 s.2) (aIc d e.a).length (fun k (q:List bT)=>(q,(k:Int))) (fun k q=>q=r++((aIc d e.a).take k).map fun x=>(⟨x.To,0,e.trace++[txt d x]⟩:bT)) (fun q=>q=r++(aIc d e.a).map fun x=>(⟨x.To,0,e.trace++[txt d x]⟩:bT)) (fun k q hk hI=>by
  subst hI
  refine ⟨_,?_,rfl⟩
  show aAM (d,c) e (aIc d e.a) (r++((aIc d e.a).take k).map fun x=>(⟨x.To,0,e.trace++[txt d x]⟩:bT)) (k:Int)=some (.inl (r++((aIc d e.a).take (k+1)).map fun x=>(⟨x.To,0,e.trace++[txt d x]⟩:bT),((k+1:Nat):Int)))
  unfold aAM aAL
  have hm:(aIc d e.a)[k]∈d.E:=(List.mem_filter.1 (List.getElem_mem hk)).1
  have hl:(((aIc d e.a).take k).map fun x=>(⟨x.To,0,e.trace++[txt d x]⟩:bT)).length=k:=by rw [List.length_map,List.length_take];omega
  rw [if_pos (aCg hk),aAR hk,wN]
  show (ob (ix d.L (aIc d e.a)[k].B) fun e332=>_)=_
  rw [aJH (aHl hd.1 hm),wN,aNP (by omega),wN,aCR (by simp [lim];omega),wN,aCR (by simp only [List.length_append,List.length_singleton,hl,lim];omega),wN,aBf hk (by omega),List.take_succ_eq_append_getElem hk,List.map_append,List.map_singleton,List.append_assoc]) (fun q hI=>by
  subst hI
  refine ⟨r++((aIc d e.a).take (aIc d e.a).length).map fun x=>⟨x.To,0,e.trace++[txt d x]⟩,?_,by rw [List.take_length]⟩
  show aAM (d,c) e (aIc d e.a) _ ((aIc d e.a).length:Int)=some (.inr (r++((aIc d e.a).take (aIc d e.a).length).map fun x=>(⟨x.To,0,e.trace++[txt d x]⟩:bT)))
  unfold aAM
  rw [if_neg (by simp)]) (aIc d e.a).length 0 r (by omega) (by simp)
 subst h2
 exact h1
theorem tr_all {d:cO} (hd:aGt d) (c:Int) {n:Nat} (hn:n<=1000):∃ all,loop (fun s:List bT × Int=>aAN (n:Int) (d,c) s.1 s.2) ([⟨0,0,[]⟩],0)=some all/\1<=all.length/\all.length<=1000/\(∀ e∈all,EntP d n e)/\(all.length<=200->all=⟨0,0,[]⟩::all.flatMap (kid d n)):=by
 have h3:=hd.1.2.2.2.1
 refine aIx (step:=fun s:List bT × Int=>aAN (n:Int) (d,c) s.1 s.2) (fun s=>∃ i:Nat,s.2=(i:Int)/\i<=s.1.length/\1<=s.1.length/\s.1.length<=1000/\i<=201/\(∀ e∈s.1,EntP d n e)/\s.1=⟨0,0,[]⟩::(s.1.take i).flatMap (kid d n)) (fun s=>202 - s.2.toNat)
  (fun all=>1<=all.length/\all.length<=1000/\(∀ e∈all,EntP d n e)/\(all.length<=200->all=⟨0,0,[]⟩::all.flatMap (kid d n))) (fun s hI=>?_) ⟨0,rfl,by simp,by simp,by simp,by omega,fun e he=>?_,by simp⟩
 ·obtain ⟨all,p⟩:=s
  obtain ⟨i,rfl,i1,i2,i3,i4,i5,i6⟩:=hI
  simp only at i1 i2 i3 i5 i6 ⊢
  show (∃ s',aAN (n:Int) (d,c) all (i:Int)=_/\_)\/_
  by_cases h1:i < all.length
  ·by_cases h2:all.length<=200
   ·left
    have he:=i5 _ (List.getElem_mem h1)
    have hj4:∀ all',tN (i:Int) all'=some (.inl (all',((i+1:Nat):Int))):=fun all'=>by unfold tN;rw [aBf h1 (by omega)]
    have ol:(aIc d all[i].a).length<=300:=Nat.le_trans (List.length_filter_le _ _) h3
    have hstep:aAN (n:Int) (d,c) all (i:Int)=some (.inl (all++kid d n all[i],((i+1:Nat):Int))):=by
     unfold aAN
     rw [if_pos (aCg h1),decide_eq_true (p:=(all.length:Int)<=200) (by omega)]
     unfold tP
     rw [if_pos rfl,aAR h1,wN]
     unfold kid
     by_cases hk:all[i].trace.length=n
     ·rw [if_pos (by simp [hk]),if_pos hk,List.append_nil,hj4]
     ·rw [if_neg (by simp;omega),if_neg hk]
      show (ob (aDf d all[i].a) fun r223=>_)=_
      rw [out_eqI hd.1,wN,tr_push hd hn he (by omega),wN]
      exact hj4 _
    have hkl:(kid d n all[i]).length<=300:=by
     unfold kid
     split
     ·simp
     ·rw [List.length_map];exact ol
    refine ⟨_,hstep,⟨i+1,rfl,by simp only [List.length_append];omega,by simp only [List.length_append];omega,by simp only [List.length_append];omega,by omega,fun e hx=>?_,?_⟩,by simp only;omega⟩
    ·rcases List.mem_append.1 hx with hx|hx
     ·exact i5 e hx
     ·exact kid_ok hd he hx
    ·simp only
     rw [List.take_append_of_le_length (by omega),List.take_succ_eq_append_getElem h1,List.flatMap_append,List.flatMap_singleton,←List.cons_append,←i6]
   ·right
    refine ⟨all,?_,i2,i3,i5,fun h=>absurd h h2⟩
    unfold aAN
    rw [if_pos (aCg h1),decide_eq_false (p:=(all.length:Int)<=200) (by omega)]
    unfold tP
    rw [if_neg (by simp)]
  ·right
   refine ⟨all,?_,i2,i3,i5,fun _=>?_⟩
   ·unfold aAN
    rw [if_neg (by simp;omega)]
    unfold tP
    rw [if_neg (by simp)]
   ·rw [List.take_of_length_le (by omega)] at i6
    exact i6
 ·rw [List.mem_singleton] at he
  subst he
  exact ⟨by simp,by simp,rfl,by simp⟩
theorem tr_names {all:List bT} (h:all.length<=1000):loop (fun s:List (List bD) × Int=>aAK all s.1 s.2) ([],0)=some (all.map (·.trace)):=by
 obtain ⟨x,h1,h2⟩:=aHR (step:=fun s:List (List bD) × Int=>aAK all s.1 s.2) all.length (fun k (q:List (List bD))=>(q,(k:Int))) (fun k q=>q=(all.take k).map (·.trace)) (fun q=>q=all.map (·.trace)) (fun k q hk hI=>by
  subst hI
  refine ⟨(all.take (k+1)).map (·.trace),?_,rfl⟩
  show aAK all ((all.take k).map (·.trace)) (k:Int)=_
  unfold aAK
  have hl:((all.take k).map (·.trace)).length=k:=by rw [List.length_map,List.length_take];omega
  rw [if_pos (aCg hk),aAR hk,wN,aCR (by simp only [List.length_singleton,hl,lim];omega),wN,aBf hk (by omega),List.take_succ_eq_append_getElem hk,List.map_append,List.map_singleton]) (fun q hI=>by
  subst hI
  refine ⟨(all.take all.length).map (·.trace),?_,by rw [List.take_length]⟩
  show aAK all ((all.take all.length).map (·.trace)) (all.length:Int)=_
  unfold aAK
  rw [if_neg (by simp)]) all.length 0 [] (by omega) rfl
 subst h2
 exact h1
theorem aLw (hv:lD t) (hf:aBX 999999999 t) {n:Nat} (hn:n<=12):zY t (n:Int)=some (if Small (aFi t) then (aIa t,0) else (⟨0,0,[],[]⟩,5)):=by
 unfold zY
 rw [aJa t hf,aJl hv,wN,if_neg (by simp)]
 unfold tX yY
 rw [if_pos (by simp),decide_eq_true (p:=(n:Int)<=12) (by omega),wN,if_neg (by simp),aJf hv hf,wN]
 unfold detS aIa
 by_cases hs:Small (aFi t)
 ·rw [if_pos hs,if_pos hs];rfl
 ·rw [if_neg hs,if_neg hs];rfl
theorem aPr (hv:lD t) (hf:aBX 999999999 t) (hs:Small (aFi t)) {n:Nat} (hn:n<=12):∃ all,1<=all.length/\(∀ e∈all,EntP (aIa t) n e)/\(all.length<=200->all=⟨0,0,[]⟩::all.flatMap (kid (aIa t) n))/\aDP t (n:Int)=some (if 200 < all.length then ([],5) else (all.map (·.trace),0)):=by
 obtain ⟨all,h1,h2,h3,h4,h5⟩:=tr_all (n:=n) (aIC hv hs) 0 (by omega)
 refine ⟨all,h2,h4,h5,?_⟩
 unfold aDP
 rw [aLw hv hf hn,if_pos hs,wN,if_neg (by simp)]
 have h1':loop (fun s:List bT × Int=>aAN (n:Int) (aIa t,0) s.1 s.2) (([⟨0,0,[]⟩]:List bT),0)=some all:=h1
 rw [h1',wN]
 unfold tM
 by_cases hl:200 < all.length
 ·rw [if_pos (by simp;omega),if_pos hl]
 ·rw [if_neg (by simp;omega),if_neg hl,tr_names h3,wN];rfl
end
end Gv
namespace Gv
open Go
def mnF (d:cO):List Int:=(aJq d (aGs d d.N.toNat)).1
def mnE (d:cO):List Edge:=(aJq d (aGs d d.N.toNat)).2
def kQ (d:cO) (x:Int):Int:=kB (aGs d d.N.toNat) x
section
variable {d:cO}
theorem mF_len (hd:lD d):1<=(mnF d).length/\(mnF d).length<=40:=by
 have hb:=blk_ok hd
 obtain ⟨g1,g2,_,_⟩:=aKT (p:=aGs d d.N.toNat) hd
 refine ⟨?_,aJK hd (aJx d _) (fun z hz=>?_) g1 g2⟩
 ·obtain ⟨C,hC⟩:=(aKq (key:=kB (aGs d d.N.toNat)) (nxM d) 40 41 0 ([0],[])).1
  have:(mnF d)=[0]++C:=hC.symm
  rw [this];simp
 ·have hz0:=aKS d d.N.toNat z hz
  have h40:=hd.1
  refine ⟨hz0,?_⟩
  cases hn:d.N.toNat with
  |zero=>omega
  |succ m=>
   rw [hn] at hz
   have:=(cn_in (show z∈cn (aKe d (aGs d m)) from hz)).2
   rw [aIz] at this
   omega
theorem mF_zero (hd:lD d):(mnF d)[0]?=some 0:=by
 obtain ⟨C,hC⟩:=(aKq (key:=kB (aGs d d.N.toNat)) (nxM d) 40 41 0 ([0],[])).1
 have:(mnF d)=[0]++C:=hC.symm
 rw [this];rfl
theorem mF_in (hd:lD d) {j:Nat} {q:Int} (h:(mnF d)[j]?=some q):inS d q:=(aKT (p:=aGs d d.N.toNat) hd).2.1 q (List.mem_of_getElem? h)
theorem aLi (hd:lD d) (e:Edge):e∈mnE d<->∃ (j:Nat) (q:Int),(mnF d)[j]?=some q/\∃ k:Nat,1<=k/\k < d.L.length/\0<=bW d q (aII d k)/\e=⟨(j:Int),(k:Int),pos ((mnF d).map (kQ d)) (kQ d (bW d q (aII d k)))⟩:=by
 have hl:=hd.2.2.1.1
 have hlen:=mF_len hd
 obtain ⟨_,g2⟩:=aKf (key:=kB (aGs d d.N.toNat)) (nxM d) 40 41 0 ([0],[]) hlen.2 (by have:=hlen.2;unfold mnF aJq at this;omega) (Nat.zero_le _)
 have h2:=g2 e
 have h2':e∈mnE d<->e∈([]:List Edge)\/∃ (j:Nat) (q:Int),0<=j/\(mnF d)[j]?=some q/\∃ x∈nxM d q,e=⟨(j:Int),x.1,pos ((mnF d).map (kQ d)) (kQ d x.2)⟩:=h2
 rw [h2']
 constructor
 ·rintro (h|⟨j,q,_,hj,x,hx,rfl⟩)
  ·simp at h
  ·unfold nxM at hx
   obtain ⟨k,h3,h4,h5,rfl⟩:=(aKH q _ _).1 hx
   exact ⟨j,q,hj,k,h3,by omega,h5,rfl⟩
 ·rintro ⟨j,q,hj,k,h3,h4,h5,rfl⟩
  refine .inr ⟨j,q,Nat.zero_le _,hj,((k:Int),bW d q (aII d k)),?_,rfl⟩
  unfold nxM
  exact (aKH q _ _).2 ⟨k,h3,by omega,h5,rfl⟩
theorem mF_next (hd:lD d) {j:Nat} {q:Int} (hj:(mnF d)[j]?=some q) {k:Nat} (h3:1<=k) (h4:k < d.L.length) (h5:0<=bW d q (aII d k)):kQ d (bW d q (aII d k))∈(mnF d).map (kQ d):=by
 have hlen:=mF_len hd
 obtain ⟨g1,_⟩:=aKf (key:=kB (aGs d d.N.toNat)) (nxM d) 40 41 0 ([0],[]) hlen.2 (by have:=hlen.2;unfold mnF aJq at this;omega) (Nat.zero_le _)
 refine g1 j q (Nat.zero_le _) hj ((k:Int),bW d q (aII d k)) ?_
 unfold nxM
 exact (aKH q _ _).2 ⟨k,h3,by omega,h5,rfl⟩
theorem aOw (hd:lD d) {x y:Int} (hx:inS d x) (hy:inS d y):kQ d x=kQ d y<->∀ tr:List bD,(∀ s∈tr,s∈d.L.tail)->(aKY d x tr < 0<->aKY d y tr < 0):=by
 have hb:=aJx d d.N.toNat
 unfold inS at hx hy
 have h:=blk_full hd (x:=x.toNat) (y:=y.toNat) (by omega) (by omega)
 rw [Int.toNat_of_nonneg hx.1,Int.toNat_of_nonneg hy.1] at h
 rw [←h]
 unfold kQ kB
 have e:∀ z:Int,0<=z/\z < d.N->(aGs d d.N.toNat)[z.toNat]?=some ((aGs d d.N.toNat).getD z.toNat 0):=fun z hz=>by
  rw [List.getD_eq_getElem?_getD,List.getElem?_eq_getElem (by omega)];rfl
 rw [e x hx,e y hy,Option.some.injEq]
theorem mE_len (hd:aGt d):(mnE d).length<=d.E.length:=by
 obtain ⟨g1,g2,g3,_⟩:=aKT (p:=aGs d d.N.toNat) hd.1
 have hnd:(mnF d).Nodup:=(List.pairwise_map.1 g1).imp fun h e=>h (congrArg _ e)
 have hfl:∀ {a b:Edge},aIG a b->¬ (a.F=b.F/\a.B=b.B):=fun {a b} h g=>by unfold aIG at h;omega
 have key:=List.Nodup.length_le_of_subset (l₁:=(mnE d).map fun e=>(⟨(mnF d).getD e.F.toNat 0,e.B,bW d ((mnF d).getD e.F.toNat 0) (aII d e.B.toNat)⟩:Edge)) (l₂:=d.E) ?_ (fun x hx=>?_)
 ·rwa [List.length_map] at key
 ·rw [List.nodup_iff_pairwise_ne,List.pairwise_map]
  have g3':(mnE d).Pairwise aIG:=g3
  refine g3'.imp_of_mem fun {a b} ha hb hab e=>hfl hab ?_
  obtain ⟨j,q,hj,k,h1,h2,h3,rfl⟩:=(aLi hd.1 a).1 ha
  obtain ⟨j',q',hj',k',h1',h2',h3',rfl⟩:=(aLi hd.1 b).1 hb
  have e1:(mnF d).getD j 0=(mnF d).getD j' 0:=congrArg Edge.F e
  have e2:(k:Int)=(k':Int):=congrArg Edge.B e
  rw [List.getD_eq_getElem?_getD,List.getD_eq_getElem?_getD,hj,hj'] at e1
  have e1:q=q':=e1
  subst e1
  have p1:=aKQ hnd hj
  have p2:=aKQ hnd hj'
  exact ⟨by show (j:Int)=(j':Int);omega,e2⟩
 ·obtain ⟨e,he,rfl⟩:=List.mem_map.1 hx
  obtain ⟨j,q,hj,k,h1,h2,h3,rfl⟩:=(aLi hd.1 e).1 he
  have hjl:=(List.getElem?_eq_some_iff.1 hj)
  have hq:(mnF d).getD j 0=q:=by rw [List.getD_eq_getElem?_getD,hj];rfl
  show (⟨(mnF d).getD j 0,(k:Int),bW d ((mnF d).getD j 0) (aII d k)⟩:Edge)∈d.E
  rw [hq]
  unfold bW at h3 ⊢
  cases hf:d.E.find? (hit d q (aII d k)) with
  |none=>rw [hf] at h3;exact absurd h3 (by decide)
  |some y=>
   have hy:=List.mem_of_find?_eq_some hf
   have hh:=List.find?_some hf
   unfold hit at hh
   rw [Bool.and_eq_true,beq_iff_eq] at hh
   have hlab:aII d k∈d.L:=by unfold aII;rw [List.getD_eq_getElem?_getD,List.getElem?_eq_getElem h2];exact List.getElem_mem _
   have ht:=aJm hd.1 hy hlab
   rw [hh.2] at ht
   have ht:=beq_iff_eq.1 ht.symm
   have hp:pos d.L (aII d k)=(k:Int):=by
    unfold aII
    rw [List.getD_eq_getElem?_getD,List.getElem?_eq_getElem h2]
    exact aJX hd.1.2.2.1 h2
   rw [hp] at ht
   have:(⟨q,(k:Int),y.To⟩:Edge)=y:=by
    obtain ⟨y1,y2,y3⟩:=y
    simp only at hh ht ⊢
    rw [hh.1,ht]
   simp only
   rw [this]
   exact hy
end
end Gv
namespace Gv
open Go
section
variable {a b:cO}
def OvL (a b:cO) (tr:List bD):Prop:=∀ s∈tr,s∈a.L++b.L/\s≠nD
theorem OvL.symm {tr:List bD} (h:OvL a b tr):OvL b a tr:=fun s hs=>⟨by
 have:=(h s hs).1
 rw [List.mem_append] at this ⊢
 exact this.symm,(h s hs).2⟩
theorem OvL.vis (ha:lD a) (hb:lD b) (fa:aBX 999999999 a) (fb:aBX 999999999 b) {tr:List bD} (h:OvL a b tr):∀ s∈tr,VisL s:=fun s hs=>by
 obtain ⟨h1,h2⟩:=h s hs
 have key:∀ {t:cO},lD t->aBX 999999999 t->s∈t.L->VisL s:=fun {t} hv hf h=>by
  obtain ⟨h0,e0⟩:=tau_at hv
  refine tail_vis hv hf ?_
  rw [(aJb hv).1] at h
  rcases List.mem_cons.1 h with h|h
  ·exact absurd h h2
  ·exact h
 rcases List.mem_append.1 h1 with h|h
 ·exact key ha fa h
 ·exact key hb fb h
theorem aJC (t:cO):(detS t).2.2=decide (Small (aFi t)):=by
 unfold detS
 by_cases h:Small (aFi t)
 ·rw [if_pos h,decide_eq_true h]
 ·rw [if_neg h,decide_eq_false h]
theorem cmp_two (ha:lD a) (hb:lD b) (fa:aBX 999999999 a) (fb:aBX 999999999 b):oM a b=if Small (aFi a)/\Small (aFi b) then (ob (uL (aIa a) (aIa b)) fun r87=>some (!r87.2,r87.1,0)) else some (false,[],5):=by
 unfold oM
 rw [aJa a fa,aJl ha,wN,if_neg (by simp),aJa b fb,aJl hb,wN]
 unfold iT
 rw [if_neg (by simp),aJf ha fa,wN,aJf hb fb,wN,aJC,aJC]
 by_cases h1:Small (aFi a)
 ·rw [decide_eq_true h1,if_neg (by simp)]
  by_cases h2:Small (aFi b)
  ·rw [decide_eq_true h2,if_pos ⟨h1,h2⟩]
   unfold iS
   rw [if_neg (by simp)]
   unfold detS
   rw [if_pos h1,if_pos h2];rfl
  ·rw [decide_eq_false h2,if_neg (fun h=>h2 h.2)];rfl
 ·rw [decide_eq_false h1,if_pos (show (!false)=true from rfl),if_neg (fun h=>h1 h.1)];rfl
theorem jn_ov {M:List bD} (hJ:Jn (aIa a) (aIa b) M) {tr:List bD}:OvM M tr<->OvL a b tr:=by
 constructor
 ·intro h s hs;exact (hJ.mem s).1 (h s hs)
 ·intro h s hs;exact (hJ.mem s).2 (h s hs)
theorem same_ok (ha:lD a) (hb:lD b) (fa:aBX 999999999 a) (fb:aBX 999999999 b) (sa:Small (aFi a)) (sb:Small (aFi b)):
  ∃ same w,tF a b=some (same,w,0)/\(same=true->∀ tr,OvL a b tr->(aft a tr=[]<->aft b tr=[]))/\(same=false->OvL a b w/\¬ (aft a w=[]/\aft b w=[])/\(aft a w=[]\/aft b w=[])):=by
 obtain ⟨M,r,hJ,h1,h2⟩:=first_two (aIC ha sa) (aIC hb sb) rfl rfl
 have h1':uL (aIa a) (aIa b)=some (aNQ r):=h1
 refine ⟨!(aNQ r).2,(aNQ r).1,?_,fun hi tr htr=>?_,fun hi=>?_⟩
 ·unfold tF
  rw [cmp_two ha hb fa fb,if_pos ⟨sa,sb⟩,h1',wN,wN]
 ·have hvis:∀ s∈tr,s≠nD:=fun s hs=>(htr s hs).2
  cases r with
  |inr x=>
   obtain ⟨tr0,v⟩:=x
   have hv:v=true:=h2.1
   subst hv
   simp [aNQ] at hi
  |inl x=>
   have h3:bN (aIg (aIa a) tr) (aIg (aIa b) tr)\/decide (aIg (aIa a) tr < 0\/aIg (aIa b) tr < 0)=false:=h2 tr ((jn_ov hJ).2 htr)
   have ea:=aJn ha sa hvis
   have eb:=aJn hb sb hvis
   rcases h3 with h|h
   ·exact ⟨fun _=>eb.1 h.2,fun _=>ea.1 h.1⟩
   ·rw [decide_eq_false_iff_not] at h
    exact ⟨fun g=>absurd (.inl (ea.2 g)) h,fun g=>absurd (.inr (eb.2 g)) h⟩
 ·cases r with
  |inl x=>simp [aNQ] at hi
  |inr x=>
   obtain ⟨w,v⟩:=x
   obtain ⟨_,k0,k1,k2,k3,k4⟩:v=true/\w.length<=2000/\OvM M w/\¬ bN (aIg (aIa a) w) (aIg (aIa b) w)/\decide (aIg (aIa a) w < 0\/aIg (aIa b) w < 0)=true/\∀ tr' s,w=tr'++[s]->¬ bN (aIg (aIa a) tr') (aIg (aIa b) tr')/\decide (aIg (aIa a) tr' < 0\/aIg (aIa b) tr' < 0)=false:=h2
   have hov:=(jn_ov hJ).1 k1
   have hvis:∀ s∈w,s≠nD:=fun s hs=>(hov s hs).2
   have ea:=aJn ha sa hvis
   have eb:=aJn hb sb hvis
   rw [decide_eq_true_iff] at k3
   exact ⟨hov,fun h=>k2 ⟨ea.2 h.1,eb.2 h.2⟩,k3.imp ea.1 eb.1⟩
theorem aQE (ha:lD a) (hb:lD b) (fa:aBX 999999999 a) (fb:aBX 999999999 b) (h:¬ (Small (aFi a)/\Small (aFi b))):aAJ a b=some (false,[],5):=by
 unfold aAJ
 rw [aMz a fa,aJl ha,wN,if_neg (by simp),aMz b fb,aJl hb,wN]
 unfold mV
 rw [if_neg (by simp)]
 unfold aFZ zX
 rw [aLg ha,wN,aLg hb,wN,aJC,aJC]
 by_cases h1:Small (aFi a)
 ·rw [decide_eq_true h1,if_pos rfl,wN]
  by_cases h2:Small (aFi b)
  ·exact absurd ⟨h1,h2⟩ h
  ·rw [decide_eq_false h2];rfl
 ·rw [decide_eq_false h1,if_neg (by simp),wN];rfl
end
end Gv
namespace Gv
open Go
def StW (b:cO) (kind y:Int) (s:bD) (w:Int):Prop:=if kind=2 then Wk b y s w else ∃ f∈b.E,f.F=y/\txt b f=s/\f.To=w
section
variable {a b:cO} {kind:Int}
theorem StW.inn (hb:lD b) {y:Int} (hy:inT b y) {s:bD} {w:Int} (h:StW b kind y s w):inT b w:=by
 unfold StW at h
 split at h
 ·exact h.inn hb hy
 ·obtain ⟨f,hf,_,_,rfl⟩:=h
  exact (aKI hb hf).2.1
end
end Gv
namespace Gv
open Go
section
variable {a b:cO} {kind:Int}
end
end Gv
namespace Gv
open Go
section
variable {a b:cO} {kind:Int}
end
end Gv
namespace Gv
open Go
section
variable {a b:cO} {kind:Int}
instance inT_dec (t:cO) (k:Int):Decidable (inT t k):=by unfold inT;infer_instance
end
end Gv
namespace Gv
open Go
section
variable {a b:cO} {kind:Int}
end
end Gv
namespace Gv
open Go
def unA (a b:cO) (M:List bD):List Edge:=(a.E.map fun e=>(⟨e.F,pos (nD::M) (txt a e),e.To⟩:Edge))++b.E.map fun e=>(⟨e.F+a.N,pos (nD::M) (txt b e),e.To+a.N⟩:Edge)
structure Uni (a b:cO) (M:List bD) (Eo:List Edge):Prop where
 str:aBZ M
 mem:∀ s,s∈M<->s∈a.L++b.L/\s≠nD
 len:M.length<=24
 se:SE Eo
 ed:∀ x,x∈Eo<->x∈unA a b M
 elen:Eo.length<=600
section
variable {a b:cO}
end
end Gv
namespace Gv
open Go
structure Big (u:cO):Prop where
 st:1<=u.N/\u.N<=100
 lab:u.L.length<=100
 ed:u.E.length<=1000
 inn:∀ e∈u.E,inT u e.F/\inT u e.To/\0<=e.B/\e.B < u.L.length
def aIj (u:cO) (p:List Int):Prop:=p.length=u.N.toNat/\∀ z∈p,0<=z/\z < u.N
section
variable {u:cO} {p:List Int}
theorem aJs (hp:aIj u p) {s:Int} (h:inT u s):ix p s=some (p.getD s.toNat 0)/\0<=p.getD s.toNat 0/\p.getD s.toNat 0 < u.N:=by
 unfold inT at h
 have hl:s.toNat < p.length:=by rw [hp.1];omega
 have e:p.getD s.toNat 0=p[s.toNat]:=by rw [List.getD_eq_getElem?_getD,List.getElem?_eq_getElem hl];rfl
 rw [e]
 exact ⟨aJR h.1 hl,hp.2 _ (List.getElem_mem hl)⟩
theorem part_cn (hu:Big u) {κ:Type} [DecidableEq κ] [BEq κ] [LawfulBEq κ] {l:List κ} (h:l.length=u.N.toNat):aIj u (cn l):=by
 have:=hu.st
 refine ⟨by rw [aIL,h],fun z hz=>?_⟩
 have:=cn_in hz
 omega
end
end Gv
namespace Gv
open Go
section
variable {a b:cO}
theorem pos_rng {γ:Type} [BEq γ] [LawfulBEq γ] {xs:List γ} {x:γ} (hx:x∈xs):0<=pos xs x/\pos xs x < xs.length:=by
 obtain ⟨i,e,g⟩:=aMh hx
 have:=(List.getElem?_eq_some_iff.1 g).1
 omega
end
end Gv
namespace Gv
open Go
theorem anU_le (x:Int):0<=anU x 255/\anU x 255<=255:=by
 unfold anU
 have h:(BitVec.ofInt 64 x&&& BitVec.ofInt 64 255).toNat<=255:=by
  rw [BitVec.toNat_and]
  exact Nat.le_trans Nat.and_le_right (by decide)
 unfold lE
 omega
theorem shU_ok (x:Int):∃ y,shU x 40=some y:=⟨_,by unfold shU;rw [if_pos (by decide)]⟩
theorem byte_le (b:UInt8):0<=(b.toNat:Int)/\(b.toNat:Int)<=255:=by
 have:=b.toNat_lt
 omega
theorem next_ok (c:bD) {s1:Int} (s2:Int) (h:0<=s1/\s1<=1000000000000):∃ v s2',tE c s1 s2=some (v,s1+1,s2')/\0<=v/\v<=255:=by
 have hw:wr (s1+1)=s1+1:=aHu (by omega) (by omega)
 have key:∀ b:Int,0<=b/\b<=255->∃ v s2',mT c s1 s2 b=some (v,s1+1,s2')/\0<=v/\v<=255:=by
  intro b hb
  unfold mT
  rw [hw]
  split
  ·exact ⟨_,_,rfl,hb⟩
  ·obtain ⟨y,hy⟩:=shU_ok (lE ((lE ((lE (s2 * 6364136223846793005))+(lE b)))+1442695040888963407))
   rw [hy,wN]
   have h2:=anU_le y
   refine ⟨_,_,rfl,?_⟩
   rw [aHu (by omega) (by omega)];exact h2
 unfold tE
 split
 ·rename_i hlt
  have hlt':s1 < (c.length:Int):=by simpa using hlt
  rw [aJR h.1 (by omega),wN]
  have hb:=byte_le (c[s1.toNat]'(by omega))
  rw [aHu (by omega) (by omega)]
  exact key _ hb
 ·exact key 0 (by omega)
theorem rm_ok {x n:Int} (hx:0<=x) (hn:1<=n):∃ v,rm x n=some v/\0<=v/\v < n:=by
 unfold rm
 rw [if_neg (by omega)]
 have e:x.tmod n=x % n:=Int.tmod_eq_emod_of_nonneg hx
 have h1:=Int.emod_nonneg x (show n≠0 by omega)
 have h2:=Int.emod_lt_of_pos x (show 0 < n by omega)
 first
  |exact ⟨_,rfl,by rw [e];exact h1,by rw [e];exact h2⟩
  |exact ⟨_,rfl,by rw [e,aHu]<;>omega,by rw [e,aHu]<;>omega⟩
theorem aIs (c:bD) {s1 n:Int} (s2:Int) (h:0<=s1/\s1<=100000000000) (hn:1<=n):∃ v s1' s2',dJ c s1 s2 n=some (v,s1',s2')/\(0<=v/\v < n)/\s1<=s1'/\s1'<=s1+2:=by
 unfold dJ
 by_cases h1:n<=1
 ·rw [if_pos (by simpa using h1)]
  exact ⟨_,_,_,rfl,by omega,by omega,by omega⟩
 ·rw [if_neg (by simpa using h1)]
  obtain ⟨v,t2,e,g1,g2⟩:=next_ok c s2 (s1:=s1) (by omega)
  rw [e,wN]
  simp only
  have key:∀ x a b:Int,0<=x->s1<=a->a<=s1+2->∃ v s1' s2',mU n x a b=some (v,s1',s2')/\(0<=v/\v < n)/\s1<=s1'/\s1'<=s1+2:=by
   intro x a b hx ha hb
   unfold mU
   obtain ⟨y,hy,q1,q2⟩:=rm_ok hx (show 1<=n by omega)
   rw [hy,wN]
   exact ⟨_,_,_,rfl,⟨q1,q2⟩,ha,hb⟩
  by_cases h2:200 < n
  ·rw [if_pos (by simpa using h2)]
   obtain ⟨v',t2',e',g1',g2'⟩:=next_ok c t2 (s1:=s1+1) (by omega)
   rw [e',wN]
   simp only
   rw [aHu (x:=v * 256) (by omega) (by omega),aHu (by omega) (by omega)]
   exact key _ _ _ (by omega) (by omega) (by omega)
  ·rw [if_neg (by simpa using h2)]
   exact key _ _ _ g1 (by omega) (by omega)
theorem one_ok (c:bD) {s1 n:Int} (s2:Int) (h:0<=s1/\s1<=100000000000) (hn:1<=n):∃ b s1' s2',pX c s1 s2 n=some (b,s1',s2')/\s1<=s1'/\s1'<=s1+2:=by
 obtain ⟨v,a,b,e,_,h2,h3⟩:=aIs c s2 h hn
 unfold pX
 rw [e,wN]
 exact ⟨_,_,_,rfl,h2,h3⟩
theorem among_ok (c:bD) {s1:Int} (s2:Int) (h:0<=s1/\s1<=100000000000) {l:List Int} (hl:l≠[]):∃ v s1' s2',xN c s1 s2 l=some (v,s1',s2')/\v∈l/\s1<=s1'/\s1'<=s1+2:=by
 have h1:1<=(l.length:Int):=by
  have:=List.length_pos_iff.2 hl
  omega
 obtain ⟨v,a,b,e,hv,h2,h3⟩:=aIs c s2 h h1
 unfold xN
 rw [e,wN]
 simp only
 rw [aJR hv.1 (by omega),wN]
 exact ⟨_,_,_,rfl,List.getElem_mem _,h2,h3⟩
end Gv
namespace Gv
open Go
def Nm:List bD:=[nD,[97],[98],[99],[103,101,116,40,48,41],[103,101,116,40,49,41]]
theorem Nm_lab:∀ s∈Nm,aJF s=true:=by decide
theorem Nm_len:∀ s∈Nm,s.length<=6:=by decide
structure Drn (c:Nat) (t:cO):Prop where
 ok:lD t
 nm:∀ s∈t.L,s∈Nm
 st:t.N<=10
 ed:t.E.length<=c
theorem Drn.fits {c:Nat} {t:cO} (h:Drn c t):aBX 999999999 t:=by
 have h1:=h.ok.2.2.1.2.1
 have h2:=h.ok.2.2.2.1
 refine ⟨by omega,fun s hs=>?_,by omega⟩
 have:=Nm_len s (h.nm s hs)
 omega
theorem Drn.mono {c d:Nat} {t:cO} (h:Drn c t) (hc:c<=d):Drn d t:=⟨h.ok,h.nm,h.st,Nat.le_trans h.ed hc⟩
theorem srtE_SE (l:List Edge):SE (aId (srt jM l)):=by
 have h1:(srt jM l).Pairwise fun a b=>jM b a=false:=by
  have:=List.pairwise_mergeSort (le:=fun a b=>!jM b a) (fun a b c h1 h2=>?_) (fun a b=>?_) l
  ·refine this.imp fun {a b} h=>?_
   simpa using h
  ·simp only [Bool.not_eq_true'] at h1 h2 ⊢
   cases h3:jM c a with
   |false=>rfl
   |true=>
    have:=aKU h3 h1
    rw [h2] at this;cases this
  ·cases h3:jM b a with
   |false=>simp
   |true=>simp [aLd h3]
 exact aJI (R:=fun a b=>jM b a=false) (S:=fun a b=>jM a b=true) (fun h hne=>aLK h hne) (fun h h'=>aKU h h') h1
theorem aPt (l:List Edge):(aId (srt jM l)).length<=l.length:=by
 have:=aLL (srt jM l)
 unfold srt at this ⊢
 rwa [List.length_mergeSort] at this
theorem aPu {l:List Edge} {x:Edge}:x∈aId (srt jM l)<->x∈l:=by
 rw [aJz];unfold srt;rw [List.mem_mergeSort]
theorem labs_nm {M:List bD} (hM:aBZ M) (hn:∀ s∈M,s∈Nm):aHj (nD::M):=by
 have hnd:M.Nodup:=hM.1.imp fun {a b} h e=>by subst e;rw [aDY] at h;cases h
 have hl:M.length<=5:=by
  have:=List.Nodup.length_le_of_subset (l₁:=nD::M) (l₂:=Nm) (List.nodup_cons.2 ⟨hM.2,hnd⟩) (fun x hx=>by
   rcases List.mem_cons.1 hx with rfl|hx
   ·simp [Nm]
   ·exact hn x hx)
  have h6:Nm.length=6:=rfl
  rw [List.length_cons] at this
  omega
 refine ⟨by simp,by simp;omega,fun _=>rfl,fun k h1 hk=>?_⟩
 obtain ⟨k,rfl⟩:∃ j,k=j+1:=⟨k - 1,by omega⟩
 have hk':k < M.length:=by simpa using hk
 have hm:M[k]∈M:=List.getElem_mem hk'
 rw [List.getElem_cons_succ]
 refine ⟨Nm_lab _ (hn _ hm),fun e=>hM.2 (e ▸ hm),fun h2=>?_⟩
 obtain ⟨k,rfl⟩:∃ j,k=j+1:=⟨k - 1,by omega⟩
 have:=List.pairwise_iff_getElem.1 hM.1 k (k+1) (by omega) hk' (by omega)
 simpa using this
theorem aOx {T:List bD} (hT:∀ s∈T,s∈Nm) (hTl:T.length<=100) {st ini:Int} (h1:1<=st/\st<=10) (h2:0<=ini/\ini < st) {edges:List Edge} (hl:edges.length<=300)
  (he:∀ e∈edges,(0<=e.F/\e.F < st)/\(0<=e.To/\e.To < st)/\0<=e.B/\e.B < T.length):∃ t,wM st ini T edges=some t/\Drn edges.length t/\t.N=st/\t.I=ini:=by
 obtain ⟨M,_,j2,j3,j4⟩:=aMS T (by omega)
 have hM:∀ s∈M,s∈Nm:=fun s hs=>hT s ((j3 s).1 hs).1
 refine ⟨⟨st,ini,nD::M,aId (srt jM (edges.map fun e=>(⟨e.F,pos (nD::M) (T.getD e.B.toNat []),e.To⟩:Edge)))⟩,make_gen (by omega) j2 j3 (by omega) (fun e h=>(he e h).2.2) (srtE_SE _) (fun x=>?_) st ini,⟨⟨by show 1<=st/\st<=40;omega,by show 0<=ini/\ini<=st - 1;omega,labs_nm j2 hM,aLu ?_ (srtE_SE _) fun x hx=>?_⟩,fun s hs=>?_,by show st<=10;omega,?_⟩,rfl,rfl⟩
 ·rw [aPu,List.mem_map]
  exact ⟨fun ⟨e,h,g⟩=>⟨e,h,g.symm⟩,fun ⟨e,h,g⟩=>⟨e,h,g.symm⟩⟩
 ·have:=aPt (edges.map fun e=>(⟨e.F,pos (nD::M) (T.getD e.B.toNat []),e.To⟩:Edge))
  rw [List.length_map] at this
  exact Nat.le_trans this hl
 ·obtain ⟨e,h,rfl⟩:=List.mem_map.1 (aPu.1 hx)
  obtain ⟨g1,g2,g3,g4⟩:=he e h
  have hin:T.getD e.B.toNat []∈nD::M:=by
   have hmem:T.getD e.B.toNat []∈T:=by
    rw [List.getD_eq_getElem?_getD,List.getElem?_eq_getElem (by omega)]
    exact List.getElem_mem _
   by_cases ht:T.getD e.B.toNat []=nD
   ·rw [ht];simp
   ·exact List.mem_cons_of_mem _ ((j3 _).2 ⟨hmem,ht⟩)
  have:=pos_rng hin
  show (0<=e.F/\e.F<=st - 1)/\(0<=e.To/\e.To<=st - 1)/\0<=pos (nD::M) (T.getD e.B.toNat [])/\pos (nD::M) (T.getD e.B.toNat [])<=((nD::M).length:Int) - 1
  omega
 ·rcases List.mem_cons.1 hs with rfl|hs
  ·simp [Nm]
  ·exact hM s hs
 ·have:=aPt (edges.map fun e=>(⟨e.F,pos (nD::M) (T.getD e.B.toNat []),e.To⟩:Edge))
  rw [List.length_map] at this
  exact this
theorem names_ok (c:bD) {s1:Int} (s2:Int) (h:0<=s1/\s1<=10000000000):∃ L s1' s2',xM c s1 s2=some (L,s1',s2')/\((∀ s∈L,s∈Nm)/\1<=L.length/\L.length<=7)/\s1<=s1'/\s1'<=s1+10:=by
 have key:=aHR (step:=fun s:Int × Int × List bD × Int=>pY c s.1 s.2.1 s.2.2.1 s.2.2.2) 5 (fun k (a:Int × Int × List bD)=>(a.1,a.2.1,a.2.2,(k:Int))) (fun k a=>(∀ s∈a.2.2,s∈Nm)/\1<=a.2.2.length/\a.2.2.length<=1+k/\s1<=a.1/\a.1<=s1+2 * k)
  (fun r=>(∀ s∈r.1,s∈Nm)/\1<=r.1.length/\r.1.length<=6/\s1<=r.2.1/\r.2.1<=s1+10) (fun k a hk hI=>?_) (fun a hI=>?_) 5 0 (s1,s2,[nD]) (by omega) ⟨by simp [Nm],by simp,by simp,by simp,by simp⟩
 ·obtain ⟨r,h1,g1,g2,g3,g4,g5⟩:=key
  unfold xM
  have h1':loop (fun s:Int × Int × List bD × Int=>pY c s.1 s.2.1 s.2.2.1 s.2.2.2) (s1,s2,[nD],0)=some r:=h1
  rw [show ([([116,97,117]:bD)]:List bD)=[nD] from rfl,h1',wN]
  unfold lA kZ
  split
  ·rw [aCR (by simp [lim];omega),wN]
   refine ⟨_,_,_,rfl,⟨fun s hs=>?_,by simp,by simp;omega⟩,g4,g5⟩
   rcases List.mem_append.1 hs with hs|hs
   ·exact g1 s hs
   ·simp at hs;subst hs;simp [Nm]
  ·exact ⟨_,_,_,rfl,⟨g1,g2,by omega⟩,g4,g5⟩
 ·obtain ⟨x,y,o⟩:=a
  obtain ⟨g1,g2,g3,g4,g5⟩:=hI
  simp only at g1 g2 g3 g4 g5 ⊢
  obtain ⟨b,t1,t2,e,h3,h4⟩:=one_ok c y (s1:=x) (n:=2) (by omega) (by omega)
  have hw:wr ((k:Int)+1)=((k+1:Nat):Int):=aBf hk (by omega)
  unfold pY
  rw [if_pos (by simp;omega),e,wN]
  have hno:lB (k:Int) t1 t2 o=some (.inl (t1,t2,o,((k+1:Nat):Int))):=by unfold lB;rw [hw]
  have key:∀ v:Bool,∃ a':Int × Int × List bD,lC o (k:Int) t1 t2 v=some (.inl (a'.1,a'.2.1,a'.2.2,((k+1:Nat):Int)))/\(∀ s∈a'.2.2,s∈Nm)/\1<=a'.2.2.length/\a'.2.2.length<=1+(k+1)/\s1<=a'.1/\a'.1<=s1+2 * ((k+1:Nat):Int):=by
   intro v
   unfold lC
   cases v with
   |false=>
    rw [if_neg (by simp),hno]
    exact ⟨(t1,t2,o),rfl,g1,g2,by simp only;omega,by simp only;omega,by simp only;omega⟩
   |true=>
    have hkl:k < ([([97]:bD),([98]:bD),([99]:bD),([103,101,116,40,48,41]:bD),([103,101,116,40,49,41]:bD)]:List bD).length:=hk
    rw [if_pos rfl,aAR hkl,wN,aCR (by simp [lim];omega),wN]
    unfold lB
    rw [hw]
    refine ⟨(t1,t2,_),rfl,fun s hs=>?_,by simp,by simp;omega,by simp only;omega,by simp only;omega⟩
    rcases List.mem_append.1 hs with hs|hs
    ·exact g1 s hs
    ·rw [List.mem_singleton] at hs
     have:s∈([([97]:bD),([98]:bD),([99]:bD),([103,101,116,40,48,41]:bD),([103,101,116,40,49,41]:bD)]:List bD):=hs ▸ List.getElem_mem hkl
     exact List.mem_cons_of_mem _ this
  split
  ·exact key _
  ·exact key _
 ·obtain ⟨x,y,o⟩:=a
  obtain ⟨g1,g2,g3,g4,g5⟩:=hI
  simp only at g1 g2 g3 g4 g5 ⊢
  refine ⟨(o,x,y),?_,g1,g2,by simp only;omega,g4,by simp only;omega⟩
  unfold pY
  rw [if_neg (by simp)]
end Gv
namespace Gv
open Go
def aIT (st:Int) (n:Nat) (e:Edge):Prop:=(0<=e.F/\e.F < st)/\(0<=e.To/\e.To < st)/\0<=e.B/\e.B < n
section
variable {c:bD} {r9 r14:Int × Int × Int} {base st:Int}
def aNc (K:List Int) (base st:Int):Prop:=(K.length:Int)=st/\∀ i,(hi:i < K.length)->(0<=K[i]/\K[i] < base)/\((i:Int) < base->K[i]=(i:Int))
theorem kinds_ok (hb:1<=base/\base<=4) (hs:base<=st/\st<=6) (e1:wr (1+r9.1)=base) (e2:wr (base+r14.1)=st) {s1:Int} (s2:Int) (h:0<=s1/\s1<=10000000000):
  ∃ a b K,loop (fun s:Int × Int × List Int × Int=>uK c r9 r14 s.1 s.2.1 s.2.2.1 s.2.2.2) (s1,s2,([]:List Int),0)=some (a,b,K)/\aNc K base st/\s1<=a/\a<=s1+12:=by
 have key:=aHR (step:=fun s:Int × Int × List Int × Int=>uK c r9 r14 s.1 s.2.1 s.2.2.1 s.2.2.2) st.toNat (fun k (a:Int × Int × List Int)=>(a.1,a.2.1,a.2.2,(k:Int))) (fun k a=>(a.2.2.length=k/\∀ i,(hi:i < a.2.2.length)->(0<=a.2.2[i]/\a.2.2[i] < base)/\((i:Int) < base->a.2.2[i]=(i:Int)))/\s1<=a.1/\a.1<=s1+2 * k)
  (fun r=>aNc r.2.2 base st/\s1<=r.1/\r.1<=s1+12) (fun k a hk hI=>?_) (fun a hI=>?_) st.toNat 0 (s1,s2,[]) (by omega) ⟨⟨rfl,fun i hi=>by simp at hi⟩,by simp,by simp⟩
 ·obtain ⟨⟨a,b,K⟩,h1,g1,g2,g3⟩:=key
  exact ⟨a,b,K,h1,g1,g2,g3⟩
 ·obtain ⟨x,y,o⟩:=a
  obtain ⟨⟨g1,g2⟩,g3,g4⟩:=hI
  simp only at g1 g2 g3 g4 ⊢
  have hw:wr ((k:Int)+1)=((k+1:Nat):Int):=aBf hk (by omega)
  have hadd:∀ v:Int,(0<=v/\v < base)->((k:Int) < base->v=(k:Int))->(o++[v]).length=k+1/\∀ i,(hi:i < (o++[v]).length)->(0<=(o++[v])[i]/\(o++[v])[i] < base)/\((i:Int) < base->(o++[v])[i]=(i:Int)):=by
   intro v h1 h2
   refine ⟨by simp;exact g1,fun i hi=>?_⟩
   by_cases hl:i < o.length
   ·rw [List.getElem_append_left hl];exact g2 i hl
   ·have:i=o.length:=by simp at hi;omega
    subst this
    rw [List.getElem_append_right (Nat.le_refl _)]
    simp only [Nat.sub_self,List.getElem_cons_zero]
    exact ⟨h1,fun h=>by rw [g1] at h ⊢;exact h2 h⟩
  unfold uK
  rw [e1,e2,if_pos (by simp;omega)]
  by_cases hkb:(k:Int) < base
  ·rw [if_pos (by simpa using hkb),aCR (by simp [lim];omega),wN]
   unfold oB
   rw [hw]
   exact ⟨(x,y,o++[(k:Int)]),rfl,hadd _ (by omega) (fun _=>rfl),by simp only;omega,by simp only;omega⟩
  ·rw [if_neg (by simpa using hkb)]
   obtain ⟨v,t1,t2,e,q1,q2,q3⟩:=aIs c y (s1:=x) (n:=base) (by omega) (by omega)
   rw [e,wN,aCR (by simp [lim];omega),wN]
   unfold oB
   rw [hw]
   exact ⟨(t1,t2,o++[v]),rfl,hadd _ q1 (fun h=>absurd h hkb),by simp only;omega,by simp only;omega⟩
 ·obtain ⟨x,y,o⟩:=a
  obtain ⟨⟨g1,g2⟩,g3,g4⟩:=hI
  simp only at g1 g2 g3 g4 ⊢
  refine ⟨(x,y,o),?_,⟨by simp only;omega,g2⟩,g3,by simp only;omega⟩
  unfold uK
  rw [e1,e2,if_neg (by simp;omega)]
theorem alike_ok {r219:Int × Int × Int} {K:List Int} (hb:1<=base/\base<=4) (hs:base<=st/\st<=6) (e1:wr (1+r9.1)=base) (e2:wr (base+r14.1)=st) (hK:aNc K base st) (hto:0<=r219.1/\r219.1 < base):
  ∃ l,loop (fun s:List Int × Int=>xP r9 r14 K r219 s.1 s.2) (([]:List Int),0)=some l/\l≠[]/\∀ z∈l,0<=z/\z < st:=by
 have hKl:=hK.1
 have key:=aHR (step:=fun s:List Int × Int=>xP r9 r14 K r219 s.1 s.2) st.toNat (fun k (a:List Int)=>(a,(k:Int))) (fun k a=>a.length<=k/\(r219.1 < k->r219.1∈a)/\∀ z∈a,0<=z/\z < st) (fun r=>r≠[]/\∀ z∈r,0<=z/\z < st) (fun k a hk hI=>?_) (fun a hI=>?_) st.toNat 0 [] (by omega) ⟨by simp,fun h=>by omega,by simp⟩
 ·obtain ⟨l,h1,h2⟩:=key
  exact ⟨l,h1,h2⟩
 ·obtain ⟨g1,g2,g3⟩:=hI
  have hkl:k < K.length:=by omega
  have hw:wr ((k:Int)+1)=((k+1:Nat):Int):=aBf hk (by omega)
  show ∃ a',xP r9 r14 K r219 a (k:Int)=_/\_
  unfold xP qE
  rw [e1,e2,if_pos (by simp;omega),aAR hkl,wN,hw]
  by_cases he:K[k]=r219.1
  ·rw [if_pos (by simpa using he),aCR (by simp [lim];omega),wN]
   refine ⟨_,rfl,by simp;omega,fun h=>?_,fun z hz=>?_⟩
   ·by_cases hlt:r219.1 < k
    ·exact List.mem_append_left _ (g2 hlt)
    ·exact List.mem_append_right _ (by simp;omega)
   ·rcases List.mem_append.1 hz with hz|hz
    ·exact g3 z hz
    ·simp at hz;omega
  ·rw [if_neg (by simpa using he)]
   refine ⟨_,rfl,by omega,fun h=>g2 ?_,g3⟩
   have:=(hK.2 k hkl).2
   by_cases hlt:r219.1 < k
   ·exact hlt
   ·exfalso
    have e:r219.1=(k:Int):=by omega
    exact he (by rw [e];exact this (by omega))
 ·obtain ⟨g1,g2,g3⟩:=hI
  refine ⟨a,?_,fun h=>?_,g3⟩
  ·show xP r9 r14 K r219 a ((st.toNat:Nat):Int)=_
   unfold xP
   rw [e1,e2,if_neg (by simp;omega)]
  ·have:=g2 (by omega)
   rw [h] at this;cases this
theorem edges_row {r209 r214 r219:Int × Int × Int} {K:List Int} {nl:Nat} (hb:1<=base/\base<=4) (hs:base<=st/\st<=6) (e1:wr (1+r9.1)=base) (e2:wr (base+r14.1)=st) (hK:aNc K base st) (hto:0<=r219.1/\r219.1 < base) (hlab:0<=r214.1/\r214.1 < nl)
  {s1:Int} (s2:Int) (h:0<=s1/\s1<=10000000000) {ed:List Edge} (hed:∀ e∈ed,aIT st nl e) (hel:ed.length<=1000):
  ∃ a b ed',loop (fun s:Int × Int × List Edge × Int=>xQ c r9 r14 K r209 r214 r219 s.1 s.2.1 s.2.2.1 s.2.2.2) (s1,s2,ed,0)=some (a,b,ed')/\(∀ e∈ed',aIT st nl e)/\ed'.length<=ed.length+6/\s1<=a/\a<=s1+12:=by
 have hKl:K.length=st.toNat:=by have:=hK.1;omega
 have hst9:st.toNat < 4611686018427387904:=by omega
 obtain ⟨al,ha1,ha2,ha3⟩:=alike_ok (r9:=r9) (r14:=r14) (r219:=r219) hb hs e1 e2 hK hto
 have key:=aHR (step:=fun s:Int × Int × List Edge × Int=>xQ c r9 r14 K r209 r214 r219 s.1 s.2.1 s.2.2.1 s.2.2.2) st.toNat (fun k (a:Int × Int × List Edge)=>(a.1,a.2.1,a.2.2,(k:Int))) (fun k a=>(∀ e∈a.2.2,aIT st nl e)/\a.2.2.length<=ed.length+k/\s1<=a.1/\a.1<=s1+2 * k)
  (fun r=>(∀ e∈r.2.2,aIT st nl e)/\r.2.2.length<=ed.length+6/\s1<=r.1/\r.1<=s1+12) (fun k a hk hI=>?_) (fun a hI=>?_) st.toNat 0 (s1,s2,ed) (by omega) ⟨hed,by simp,by simp,by simp⟩
 ·obtain ⟨⟨a,b,K⟩,h1,g1,g2,g3⟩:=key
  exact ⟨a,b,K,h1,g1,g2,g3⟩
 ·obtain ⟨x,y,o⟩:=a
  obtain ⟨g1,g2,g3,g4⟩:=hI
  simp only at g1 g2 g3 g4 ⊢
  have hkl:k < K.length:=by rw [hKl];exact hk
  unfold xQ
  rw [e1,e2,if_pos (by simp;omega),aAR hkl,wN]
  unfold qD qC
  rw [aBf hk (show st.toNat < 4611686018427387904 from hst9)]
  by_cases he:K[k]=r209.1
  ·rw [if_neg (by simp [he]),ha1,wN]
   obtain ⟨v,t1,t2,e,q1,q2,q3⟩:=among_ok c y (s1:=x) (by omega) ha2
   rw [e,wN,aCR (by simp [lim];omega),wN]
   have hv:=ha3 v q1
   refine ⟨(t1,t2,_),rfl,fun e he=>?_,by simp;omega,by simp only;omega,by simp only;omega⟩
   rcases List.mem_append.1 he with he|he
   ·exact g1 e he
   ·rw [List.mem_singleton] at he
    subst he
    exact ⟨by simp only;omega,by simp only;omega,hlab⟩
  ·rw [if_pos (by simpa using he)]
   exact ⟨(x,y,o),rfl,g1,by simp only;omega,by simp only;omega,by simp only;omega⟩
 ·obtain ⟨x,y,o⟩:=a
  obtain ⟨g1,g2,g3,g4⟩:=hI
  simp only at g1 g2 g3 g4 ⊢
  refine ⟨(x,y,o),?_,g1,by simp only;omega,g3,by simp only;omega⟩
  unfold xQ
  rw [e1,e2,if_neg (by simp;omega)]
theorem edges_all {r19:List bD × Int × Int} {K:List Int} (hb:1<=base/\base<=4) (hs:base<=st/\st<=6) (e1:wr (1+r9.1)=base) (e2:wr (base+r14.1)=st) (hK:aNc K base st) (hL:1<=r19.1.length/\r19.1.length<=7) {s1 m:Int} (s2:Int) (h:0<=s1/\s1<=1000000000) (hm:0<=m/\m<=9):
  ∃ a b ed,loop (fun s:Int × Int × List Edge × Int=>uJ c r9 r14 r19 K s.1 s.2.1 s.2.2.1 s.2.2.2) (s1,s2,([]:List Edge),m)=some (a,b,ed)/\(∀ e∈ed,aIT st r19.1.length e)/\ed.length<=54/\s1<=a/\a<=s1+200:=by
 have key:=aHR (step:=fun s:Int × Int × List Edge × Int=>uJ c r9 r14 r19 K s.1 s.2.1 s.2.2.1 s.2.2.2) m.toNat (fun k (a:Int × Int × List Edge)=>(a.1,a.2.1,a.2.2,m - (k:Int))) (fun k a=>(∀ e∈a.2.2,aIT st r19.1.length e)/\a.2.2.length<=6 * k/\s1<=a.1/\a.1<=s1+18 * k)
  (fun r=>(∀ e∈r.2.2,aIT st r19.1.length e)/\r.2.2.length<=54/\s1<=r.1/\r.1<=s1+200) (fun k a hk hI=>?_) (fun a hI=>?_) m.toNat 0 (s1,s2,[]) (by omega) ⟨by simp,by simp,by simp,by simp⟩
 ·obtain ⟨⟨a,b,K⟩,h1,g1,g2,g3⟩:=key
  exact ⟨a,b,K,by simpa using h1,g1,g2,g3⟩
 ·obtain ⟨x,y,o⟩:=a
  obtain ⟨g1,g2,g3,g4⟩:=hI
  simp only at g1 g2 g3 g4 ⊢
  obtain ⟨v,t1,t2,q,q1,q2,q3⟩:=aIs c y (s1:=x) (n:=base) (by omega) (by omega)
  obtain ⟨v',t1',t2',q',q1',q2',q3'⟩:=aIs c t2 (s1:=t1) (n:=(r19.1.length:Int)) (by omega) (by omega)
  obtain ⟨v'',t1'',t2'',q'',q1'',q2'',q3''⟩:=aIs c t2' (s1:=t1') (n:=base) (by omega) (by omega)
  obtain ⟨a,b,ed',p1,p2,p3,p4,p5⟩:=edges_row (c:=c) (r9:=r9) (r14:=r14) (r209:=(v,t1,t2)) (r214:=(v',t1',t2')) (r219:=(v'',t1'',t2'')) (nl:=r19.1.length) hb hs e1 e2 hK q1'' q1' t2'' (s1:=t1'') (by omega) g1 (by omega)
  unfold uJ
  rw [if_pos (by simp;omega),e1,q,wN,q',wN,q'',wN,p1,wN]
  unfold qB xO
  have hw:wr (m - (k:Int) - 1)=m - ((k+1:Nat):Int):=by rw [aHu (by omega) (by omega)];omega
  rw [hw]
  exact ⟨(a,b,ed'),rfl,p2,by simp only;omega,by simp only;omega,by simp only;omega⟩
 ·obtain ⟨x,y,o⟩:=a
  obtain ⟨g1,g2,g3,g4⟩:=hI
  simp only at g1 g2 g3 g4 ⊢
  refine ⟨(x,y,o),?_,g1,by simp only;omega,g3,by simp only;omega⟩
  unfold uJ
  rw [if_neg (by simp;omega)]
end
theorem drawOk_ok (c:bD) {s1:Int} (s2:Int) (h:0<=s1/\s1<=100000000):∃ t s1' s2',aCz c s1 s2=some (t,s1',s2')/\(Drn 55 t/\t.N<=6)/\s1<=s1'/\s1'<=s1+300:=by
 obtain ⟨v9,a9,b9,x9,y9,z9,w9⟩:=aIs c s2 (s1:=s1) (n:=4) (by omega) (by omega)
 have e1:wr (1+v9)=1+v9:=aHu (by omega) (by omega)
 have e1':wr (7 - (1+v9))=7 - (1+v9):=aHu (by omega) (by omega)
 obtain ⟨v14,a14,b14,x14,y14,z14,w14⟩:=aIs c b9 (s1:=a9) (n:=7 - (1+v9)) (by omega) (by omega)
 have e2:wr (1+v9+v14)=1+v9+v14:=aHu (by omega) (by omega)
 obtain ⟨L,a19,b19,x19,⟨y19,y19',y19''⟩,z19,w19⟩:=names_ok c b14 (s1:=a14) (by omega)
 have hb:1<=1+v9/\1+v9<=4:=by omega
 have hs:1+v9<=1+v9+v14/\1+v9+v14<=6:=by omega
 obtain ⟨ak,bk,K,xk,yk,zk,wk⟩:=kinds_ok (c:=c) (r9:=(v9,a9,b9)) (r14:=(v14,a14,b14)) hb hs e1 e2 b19 (s1:=a19) (by omega)
 have e3:wr (2+wr (2 * (1+v9)))=2+2 * (1+v9):=by rw [aHu (x:=2 * (1+v9)) (by omega) (by omega),aHu (by omega) (by omega)]
 obtain ⟨vm,am,bm,xm,ym,zm,wm⟩:=aIs c bk (s1:=ak) (n:=2+2 * (1+v9)) (by omega) (by omega)
 obtain ⟨ae,be,ed,xe,ye,ye',ze,we⟩:=edges_all (c:=c) (r9:=(v9,a9,b9)) (r14:=(v14,a14,b14)) (r19:=(L,a19,b19)) hb hs e1 e2 yk ⟨y19',y19''⟩ bm (s1:=am) (m:=vm) (by omega) (by omega)
 have hfin:∀ (s t:Int) (E:List Edge),(∀ e∈E,aIT (1+v9+v14) L.length e)->E.length<=55->ae<=s->s<=ae+8->∃ t' s1' s2',pZ c (v9,a9,b9) (v14,a14,b14) (L,a19,b19) s t E=some (t',s1',s2')/\(Drn 55 t'/\t'.N<=6)/\ae<=s1'/\s1'<=ae+10:=by
  intro s t E hE hEl hs1 hs2
  unfold pZ
  simp only
  rw [e1,e2]
  obtain ⟨v,a,b,q,q1,q2,q3⟩:=aIs c t (s1:=s) (n:=1+v9+v14) (by omega) (by omega)
  obtain ⟨t',m1,m2,m3,m4⟩:=aOx y19 (by omega) (st:=1+v9+v14) (ini:=v) (by omega) q1 (edges:=E) (by omega) (fun e he=>by have:=hE e he;unfold aIT at this;exact ⟨this.1,this.2.1,this.2.2⟩)
  rw [q,wN,m1,wN]
  exact ⟨_,_,_,rfl,⟨m2.mono hEl,by omega⟩,by simp only;omega,by simp only;omega⟩
 unfold aCz
 rw [x9,wN]
 simp only
 rw [e1,e1',x14,wN,x19,wN,xk,wN]
 unfold oA
 simp only
 rw [e1,e3,xm,wN,xe,wN]
 unfold qA
 simp only
 rw [e1,e2]
 obtain ⟨bb,ao,bo,xo,zo,wo⟩:=one_ok c be (s1:=ae) (n:=3) (by omega) (by omega)
 rw [xo,wN]
 simp only
 cases bb with
 |false=>
  rw [if_neg (by simp)]
  obtain ⟨t',s1',s2',r1,r2,r3,r4⟩:=hfin ao bo ed ye (by omega) (by omega) (by omega)
  exact ⟨t',s1',s2',r1,r2,by omega,by omega⟩
 |true=>
  rw [if_pos rfl]
  obtain ⟨v1,a1,b1,p1,p1',p1'',p1'''⟩:=aIs c bo (s1:=ao) (n:=1+v9+v14) (by omega) (by omega)
  obtain ⟨v2,a2,b2,p2,p2',p2'',p2'''⟩:=aIs c b1 (s1:=a1) (n:=(L.length:Int)) (by omega) (by omega)
  obtain ⟨v3,a3,b3,p3,p3',p3'',p3'''⟩:=aIs c b2 (s1:=a2) (n:=1+v9+v14) (by omega) (by omega)
  rw [p1,wN,p2,wN,p3,wN,aCR (by simp [lim];omega),wN]
  obtain ⟨t',s1',s2',r1,r2,r3,r4⟩:=hfin a3 b3 (ed++[⟨v1,v2,v3⟩]) (fun e he=>by
   rcases List.mem_append.1 he with he|he
   ·exact ye e he
   ·rw [List.mem_singleton] at he
    subst he
    exact ⟨p1',p3',p2'⟩) (by simp;omega) (by omega) (by omega)
  exact ⟨t',s1',s2',r1,r2,by omega,by omega⟩
theorem aNR (c:bD) {s1:Int} (s2:Int) (h:0<=s1/\s1<=10000000):∃ t s1' s2',aIb c s1 s2=some (t,s1',s2')/\(Drn 60 t/\t.N<=6)/\s1<=s1'/\s1'<=s1+500:=by
 obtain ⟨t,a,b,x,⟨y,ys⟩,z,w⟩:=drawOk_ok c s2 (s1:=s1) (by omega)
 have hed:=y.ed
 have hlab:=y.ok.2.2.1
 have hst:=y.ok.1
 have hini:=y.ok.2.1
 have hin:∀ e∈t.E,aIT t.N t.L.length e:=fun e he=>by
  have:=aKI y.ok he
  unfold inT at this
  exact ⟨this.1,this.2.1,this.2.2⟩
 have key:=aHR (step:=fun s:Int × Int × List Edge × Int=>xS c (t,a,b) s.1 s.2.1 s.2.2.1 s.2.2.2) t.E.length (fun k (q:Int × Int × List Edge)=>(q.1,q.2.1,q.2.2,(k:Int))) (fun k q=>(∀ e∈q.2.2,aIT t.N t.L.length e)/\q.2.2.length<=k/\a<=q.1/\q.1<=a+2 * k)
  (fun r=>(∀ e∈r.2.2,aIT t.N t.L.length e)/\r.2.2.length<=55/\a<=r.1/\r.1<=a+110) (fun k q hk hI=>?_) (fun q hI=>?_) t.E.length 0 (a,b,[]) (by omega) ⟨by simp,by simp,by simp,by simp⟩
 ·obtain ⟨⟨a1,b1,E⟩,h1,g1,g2,g3,g4⟩:=key
  simp only at g1 g2 g3 g4
  have h1':loop (fun s:Int × Int × List Edge × Int=>xS c (t,a,b) s.1 s.2.1 s.2.2.1 s.2.2.2) (a,b,([]:List Edge),0)=some (a1,b1,E):=h1
  obtain ⟨vm,am,bm,xm,ym,zm,wm⟩:=aIs c b1 (s1:=a1) (n:=3) (by omega) (by omega)
  have key2:=aHR (step:=fun s:Int × Int × List Edge × Int=>xR c (t,a,b) s.1 s.2.1 s.2.2.1 s.2.2.2) vm.toNat (fun k (q:Int × Int × List Edge)=>(q.1,q.2.1,q.2.2,vm - (k:Int))) (fun k q=>(∀ e∈q.2.2,aIT t.N t.L.length e)/\q.2.2.length<=55+k/\am<=q.1/\q.1<=am+4 * k)
   (fun r=>(∀ e∈r.1,aIT t.N t.L.length e)/\r.1.length<=60/\am<=r.2.1/\r.2.1<=am+20) (fun k q hk hI=>?_) (fun q hI=>?_) vm.toNat 0 (am,bm,E) (by omega) ⟨g1,by simp only;omega,by simp,by simp⟩
  ·obtain ⟨⟨F,a2,b2⟩,h2,q1,q2,q3,q4⟩:=key2
   simp only at q1 q2 q3 q4
   have h2':loop (fun s:Int × Int × List Edge × Int=>xR c (t,a,b) s.1 s.2.1 s.2.2.1 s.2.2.2) (am,bm,E,vm)=some (F,a2,b2):=by simpa using h2
   obtain ⟨t',m1,m2,m3,m4⟩:=aOx (T:=t.L) (fun s hs=>y.nm s hs) (by have:=hlab.2.1;omega) (st:=t.N) (ini:=t.I) (by have:=y.st;omega) (by omega) (edges:=F) (by omega) (fun e he=>by have:=q1 e he;unfold aIT at this;exact ⟨this.1,this.2.1,this.2.2⟩)
   unfold aIb
   rw [x,wN,h1',wN]
   unfold qG
   rw [xm,wN,h2',wN]
   unfold qF
   rw [m1,wN]
   exact ⟨_,_,_,rfl,⟨m2.mono q2,by omega⟩,by simp only;omega,by simp only;omega⟩
  ·obtain ⟨x2,y2,o⟩:=q
   obtain ⟨i1,i2,i3,i4⟩:=hI
   simp only at i1 i2 i3 i4 ⊢
   obtain ⟨v1,t1,t1',p1,p1',p1'',p1'''⟩:=aIs c y2 (s1:=x2) (n:=t.N) (by omega) (by omega)
   obtain ⟨v2,t2,t2',p2,p2',p2'',p2'''⟩:=aIs c t1' (s1:=t1) (n:=t.N) (by omega) (by omega)
   unfold xR
   rw [if_pos (by simp;omega),p1,wN,p2,wN,aCR (by simp [lim];omega),wN]
   have hw:wr (vm - (k:Int) - 1)=vm - ((k+1:Nat):Int):=by rw [aHu (by omega) (by omega)];omega
   rw [hw]
   refine ⟨(t2,t2',_),rfl,fun e he=>?_,by simp;omega,by simp only;omega,by simp only;omega⟩
   rcases List.mem_append.1 he with he|he
   ·exact i1 e he
   ·rw [List.mem_singleton] at he
    subst he
    exact ⟨p1',p2',by simp only;have:=hlab.1;omega⟩
  ·obtain ⟨x2,y2,o⟩:=q
   obtain ⟨i1,i2,i3,i4⟩:=hI
   simp only at i1 i2 i3 i4 ⊢
   refine ⟨(o,x2,y2),?_,i1,by simp only;omega,i3,by simp only;omega⟩
   unfold xR
   rw [if_neg (by simp;omega)]
 ·obtain ⟨x2,y2,o⟩:=q
  obtain ⟨i1,i2,i3,i4⟩:=hI
  simp only at i1 i2 i3 i4 ⊢
  have he:=hin _ (List.getElem_mem hk)
  obtain ⟨bb,ao,bo,xo,zo,wo⟩:=one_ok c y2 (s1:=x2) (n:=3) (by omega) (by omega)
  have hw:wr ((k:Int)+1)=((k+1:Nat):Int):=aBf hk (by omega)
  unfold xS
  rw [if_pos (aCg hk),aAR hk,wN,xo,wN]
  have hgo:∀ l:Int,0<=l/\l < t.L.length->∃ q':Int × Int × List Edge,qH o (k:Int) t.E[k] ao bo l=some (.inl (q'.1,q'.2.1,q'.2.2,((k+1:Nat):Int)))/\(∀ e∈q'.2.2,aIT t.N t.L.length e)/\q'.2.2.length<=k+1/\a<=q'.1/\q'.1<=a+2 * ((k+1:Nat):Int):=by
   intro l hl
   unfold qH
   rw [aCR (by simp [lim];omega),wN,hw]
   refine ⟨(ao,bo,_),rfl,fun e he'=>?_,by simp;omega,by simp only;omega,by simp only;omega⟩
   rcases List.mem_append.1 he' with he'|he'
   ·exact i1 e he'
   ·rw [List.mem_singleton] at he'
    subst he'
    exact ⟨he.1,he.2.1,hl⟩
  simp only
  cases bb with
  |false=>rw [if_neg (by simp)];exact hgo _ he.2.2
  |true=>rw [if_pos rfl];exact hgo 0 (by have:=hlab.1;omega)
 ·obtain ⟨x2,y2,o⟩:=q
  obtain ⟨i1,i2,i3,i4⟩:=hI
  simp only at i1 i2 i3 i4 ⊢
  refine ⟨(x2,y2,o),?_,i1,by simp only;omega,i3,by simp only;omega⟩
  unfold xS
  rw [if_neg (by simp)]
end Gv
namespace Gv
open Go
theorem aNd (a b:List Int) (h:a.length < 4611686018427387904):rG a b=some (decide (a=b)):=by
 unfold rG
 by_cases hl:a.length=b.length
 ·rw [if_neg (by simp [hl])]
  have:=aLj (step:=fun s=>aBt a b s) (a.zip b) (fun p=>decide (p.1=p.2)) (.inr false) (.inl ()) (fun k x hk hx=>?_) ?_
  ·rw [this,wN]
   by_cases he:a=b
   ·subst he
    have:((a.zip a).all fun p=>decide (p.1=p.2))=true:=by
     rw [List.all_eq_true]
     intro p hp
     obtain ⟨i,hi,rfl⟩:=List.mem_iff_getElem.1 hp
     rw [List.getElem_zip];simp
    rw [if_pos this,decide_eq_true rfl];rfl
   ·have:¬ ((a.zip b).all fun p=>decide (p.1=p.2))=true:=fun h'=>he (List.ext_getElem hl fun i h1 h2=>by
     rw [List.all_eq_true] at h'
     have hiz:i < (a.zip b).length:=by rw [List.length_zip];omega
     have:=h' (a.zip b)[i] (List.getElem_mem hiz)
     rw [List.getElem_zip] at this
     simpa using this)
    rw [if_neg this,decide_eq_false he]
  ·have hzl:(a.zip b).length=a.length:=by rw [List.length_zip];omega
   rw [hzl] at hk
   obtain ⟨hk',rfl⟩:=aJD hx
   unfold aBt
   rw [if_pos (aCg hk),aAR hk,wN,aAR (by omega),wN,List.getElem_zip]
   by_cases e:a[k]=b[k]'(by omega)
   ·rw [if_neg (by simp [e]),if_pos (by simp [e]),aBf hk h]
   ·rw [if_pos (by simpa using e),if_neg (by simpa using e)]
  ·have hzl:(a.zip b).length=a.length:=by rw [List.length_zip];omega
   rw [hzl]
   unfold aBt
   rw [if_neg (by simp)]
 ·rw [if_pos (by simp;omega),decide_eq_false (fun h=>hl (by rw [h]))]
theorem put_ok (l:List Int) (n:Int) (hl:l.length<=1000000):∃ l',aEo l n=some l'/\l'.length<=l.length+1:=by
 have key:=aHR (step:=fun s:List Int × Bool × Int=>aCt l n s.1 s.2.1 s.2.2) l.length (fun k (a:List Int × Bool)=>(a.1,a.2,(k:Int))) (fun k a=>a.1.length<=k+(if a.2=true then 1 else 0)) (fun r=>r.1.length<=l.length+(if r.2=true then 1 else 0)) (fun k a hk hI=>?_) (fun a hI=>?_) l.length 0 ([],false) (by omega) (by simp)
 ·obtain ⟨⟨o,d⟩,h1,h2⟩:=key
  have h1':loop (fun s:List Int × Bool × Int=>aCt l n s.1 s.2.1 s.2.2) (([]:List Int),false,0)=some (o,d):=h1
  unfold aEo
  rw [h1',wN]
  unfold aJN zN
  simp only at h2 ⊢
  cases d with
  |true=>rw [if_neg (by simp)];exact ⟨_,rfl,by simpa using h2⟩
  |false=>
   simp at h2
   rw [if_pos (by simp),aCR (by simp [lim];omega),wN]
   exact ⟨_,rfl,by simp;omega⟩
 ·obtain ⟨o,d⟩:=a
  simp only at hI ⊢
  have hw:wr ((k:Int)+1)=((k+1:Nat):Int):=aBf hk (by omega)
  have h3:∀ o':List Int,∀ d',o'.length<=2000000->tY l (k:Int) o' d'=some (.inl (o'++[l[k]],d',((k+1:Nat):Int))):=fun o' d' ho=>by
   unfold tY
   rw [aAR hk,wN,aCR (by simp [lim];omega),wN,hw]
  have ho:o.length<=k+1:=by
   cases d<;>simp at hI<;>omega
  unfold aCt
  rw [if_pos (aCg hk)]
  have h4:∀ v:Bool,(v=true->d=false)->∃ a':List Int × Bool,zQ l n o d (k:Int) v=some (.inl (a'.1,a'.2,((k+1:Nat):Int)))/\a'.1.length<=(k+1)+(if a'.2=true then 1 else 0):=by
   intro v hv
   unfold zQ
   cases v with
   |false=>
    rw [if_neg (by simp),h3 o d (by omega)]
    exact ⟨(o++[l[k]],d),rfl,by simp only [List.length_append,List.length_singleton];omega⟩
   |true=>
    have:=hv rfl
    subst this
    simp at hI
    rw [if_pos rfl,aAR hk,wN]
    split
    ·rw [aCR (by simp [lim];omega),wN,h3 _ true (by simp;omega)]
     exact ⟨(_,true),rfl,by simp;omega⟩
    ·rw [h3 o true (by omega)]
     exact ⟨(_,true),rfl,by simp;omega⟩
  cases d with
  |true=>rw [if_neg (by simp)];exact h4 false (by simp)
  |false=>
   rw [if_pos (by simp),aAR hk,wN]
   exact h4 _ fun _=>rfl
 ·obtain ⟨o,d⟩:=a
  refine ⟨(o,d),?_,hI⟩
  show aCt l n o d (l.length:Int)=_
  unfold aCt
  rw [if_neg (by simp)]
section
variable {u:cO} {p:List Int}
theorem sign_ok (hu:Big u) (hp:aIj u p) (k:Int):∃ l,aEG u p k=some l/\l.length<=1000:=by
 have h5:=hu.ed
 have key:=aHR (step:=fun s:List Int × Int=>aBu u p k s.1 s.2) u.E.length (fun i (a:List Int)=>(a,(i:Int))) (fun i a=>a.length<=i) (fun r=>r.length<=1000) (fun i a hi hI=>?_) (fun a hI=>?_) u.E.length 0 [] (by omega) (by simp)
 ·obtain ⟨l,h1,h2⟩:=key
  have h1':loop (fun s:List Int × Int=>aBu u p k s.1 s.2) (([]:List Int),0)=some l:=h1
  unfold aEG
  rw [h1',wN]
  exact ⟨l,rfl,h2⟩
 ·have he:=hu.inn _ (List.getElem_mem hi)
  have hw:wr ((i:Int)+1)=((i+1:Nat):Int):=aBf hi (by omega)
  show ∃ a',aBu u p k a (i:Int)=_/\_
  unfold aBu vK
  rw [if_pos (aCg hi),aAR hi,wN]
  split
  ·rw [(aJs hp he.2.1).1,wN]
   obtain ⟨l',h1,h2⟩:=put_ok a (wr (wr (u.E[i].B * (p.length:Int))+p.getD u.E[i].To.toNat 0)) (by omega)
   rw [h1,wN,hw]
   exact ⟨l',rfl,by omega⟩
  ·rw [hw]
   exact ⟨a,rfl,by omega⟩
 ·refine ⟨a,?_,by omega⟩
  show aBu u p k a (u.E.length:Int)=_
  unfold aBu
  rw [if_neg (by simp)]
end
def kz (p:List Int) (rows:List (List Int)):List (List Int):=List.zipWith (fun a r=>a::r) p rows
section
variable {p:List Int} {rows:List (List Int)}
theorem aJP (h:rows.length=p.length):(kz p rows).length=p.length:=by unfold kz;simp [h]
theorem aOy (h:rows.length=p.length) {k:Nat} (hk:k < p.length):(kz p rows)[k]'(by rw [aJP h];exact hk)=p[k]::rows[k]'(by omega):=by unfold kz;simp
theorem num_inner (hl:rows.length=p.length) (hs:p.length<=1000) (hr:∀ r∈rows,r.length<=100000) {k:Nat} (hk:k < p.length):
  loop (fun s:Int × Int=>xE p rows (cn ((kz p rows).take k)) (k:Int) s.1 s.2) (-1,0)=some (if (kz p rows)[k]'(by rw [aJP hl];exact hk)∈(kz p rows).take k then pos (dd ((kz p rows).take k)) ((kz p rows)[k]'(by rw [aJP hl];exact hk)) else -1):=by
 have hkz:=aJP hl
 have hkk:k < (kz p rows).length:=by omega
 have hcl:(cn ((kz p rows).take k)).length=k:=by rw [aIL,List.length_take];omega
 have key:=aIx (step:=fun s:Int × Int=>xE p rows (cn ((kz p rows).take k)) (k:Int) s.1 s.2)
  (fun s=>∃ j:Nat,s.2=(j:Int)/\j<=k/\((s.1=-1/\∀ i,(hi:i < j)->(hj:j<=k)->(kz p rows)[i]'(by omega)≠(kz p rows)[k])\/((kz p rows)[k]∈(kz p rows).take k/\s.1=pos (dd ((kz p rows).take k)) (kz p rows)[k])))
  (fun s=>k+1 - s.2.toNat) (fun r=>r=if (kz p rows)[k]∈(kz p rows).take k then pos (dd ((kz p rows).take k)) (kz p rows)[k] else -1) (fun s hI=>?_) (s:=(-1,0)) ⟨0,rfl,Nat.zero_le _,.inl ⟨rfl,fun i hi=>by omega⟩⟩
 ·obtain ⟨r,h1,h2⟩:=key
  rw [h1,h2]
 ·obtain ⟨n,jj⟩:=s
  obtain ⟨j,rfl,hjk,hI⟩:=hI
  simp only at hI ⊢
  have hout:pL p rows (cn ((kz p rows).take k)) (k:Int) n (j:Int) false=some (.inr n):=by unfold pL;rw [if_neg (by simp)]
  rcases hI with ⟨rfl,hno⟩|⟨hin,rfl⟩
  ·by_cases hj:j < k
   ·left
    have hw:wr ((j:Int)+1)=((j+1:Nat):Int):=aBf hj (by omega)
    have hjp:j < p.length:=by omega
    have e1:=aOy hl hjp
    have e2:=aOy hl hk
    unfold xE
    rw [if_pos (aCg hj),show decide ((-1:Int) < 0)=true from rfl]
    unfold pL
    rw [if_pos rfl,aAR hjp,wN,aAR hk,wN]
    have hgo:pK (cn ((kz p rows).take k)) (-1) (j:Int) false=some (.inl (-1,((j+1:Nat):Int))):=by
     unfold pK pJ
     rw [if_neg (by simp),hw]
    have hstay:(kz p rows)[j]'(by omega)≠(kz p rows)[k]->∃ j':Nat,((j+1:Nat):Int)=(j':Int)/\j'<=k/\(((-1:Int)=-1/\∀ i,(hi:i < j')->(hj:j'<=k)->(kz p rows)[i]'(by omega)≠(kz p rows)[k])\/((kz p rows)[k]∈(kz p rows).take k/\(-1:Int)=pos (dd ((kz p rows).take k)) (kz p rows)[k])):=fun hne=>by
     refine ⟨j+1,rfl,hj,.inl ⟨rfl,fun i hi _=>?_⟩⟩
     by_cases e:i=j
     ·subst e;exact hne
     ·exact hno i (by omega) hjk
    by_cases hp:p[j]=p[k]
    ·rw [if_pos (by simpa using hp),aAR (show j < rows.length by omega),wN,aAR (show k < rows.length by omega),wN,aNd _ _ (by have:=hr _ (List.getElem_mem (show j < rows.length by omega));omega),wN]
     by_cases hrr:rows[j]'(by omega)=rows[k]'(by omega)
     ·have hkey:(kz p rows)[j]'(by omega)=(kz p rows)[k]:=by rw [e1,e2,hp,hrr]
      have hin:(kz p rows)[k]∈(kz p rows).take k:=by
       rw [←hkey,List.mem_take_iff_getElem]
       exact ⟨j,by omega,rfl⟩
      have hc:(cn ((kz p rows).take k))[j]?=some (pos (dd ((kz p rows).take k)) (kz p rows)[k]):=by
       rw [aKF (show j < ((kz p rows).take k).length by rw [List.length_take];omega),List.getElem_take,hkey]
      rw [hrr]
      unfold pK pJ
      rw [decide_eq_true rfl,if_pos rfl,aKh,hc]
      show ∃ s',ob (some _) _=_/\_
      rw [wN,hw]
      exact ⟨(_,((j+1:Nat):Int)),rfl,⟨j+1,rfl,hj,.inr ⟨hin,rfl⟩⟩,by simp only;omega⟩
     ·rw [decide_eq_false hrr,hgo]
      refine ⟨(-1,((j+1:Nat):Int)),rfl,hstay (fun e=>?_),by simp only;omega⟩
      rw [e1,e2,List.cons.injEq] at e
      exact hrr e.2
    ·rw [if_neg (by simpa using hp),hgo]
     refine ⟨(-1,((j+1:Nat):Int)),rfl,hstay (fun e=>?_),by simp only;omega⟩
     rw [e1,e2,List.cons.injEq] at e
     exact hp e.1
   ·right
    obtain rfl:j=k:=by omega
    refine ⟨-1,?_,?_⟩
    ·unfold xE
     rw [if_neg (by simp),hout]
    ·rw [if_neg]
     rw [List.mem_take_iff_getElem]
     rintro ⟨i,hi,e⟩
     exact hno i (by omega) (Nat.le_refl _) e
  ·right
   refine ⟨_,?_,by rw [if_pos hin]⟩
   have hpos:0<=pos (dd ((kz p rows).take k)) (kz p rows)[k]:=aIO.2 (aJg.2 hin)
   unfold xE
   rw [show decide (pos (dd ((kz p rows).take k)) (kz p rows)[k] < 0)=false from decide_eq_false (by omega),hout]
   split<;>rfl
theorem num_eq (hl:rows.length=p.length) (hs:p.length<=1000) (hr:∀ r∈rows,r.length<=100000):nT p rows=some (cn (kz p rows)):=by
 have hkz:=aJP hl
 have key:=aHR (step:=fun s:List Int × Int × Int=>xF p rows s.1 s.2.1 s.2.2) p.length (fun k (a:List Int × Int)=>(a.1,a.2,(k:Int))) (fun k a=>a.1=cn ((kz p rows).take k)/\a.2=((dd ((kz p rows).take k)).length:Int)) (fun r=>r=cn (kz p rows)) (fun k a hk hI=>?_) (fun a hI=>?_) p.length 0 ([],0) (by omega) ⟨rfl,rfl⟩
 ·obtain ⟨r,h1,rfl⟩:=key
  have h1':loop (fun s:List Int × Int × Int=>xF p rows s.1 s.2.1 s.2.2) (([]:List Int),0,0)=some (cn (kz p rows)):=h1
  unfold nT
  rw [h1',wN];rfl
 ·obtain ⟨o,m⟩:=a
  obtain ⟨rfl,rfl⟩:=hI
  have hkk:k < (kz p rows).length:=by omega
  have hcl:(cn ((kz p rows).take k)).length=k:=by rw [aIL,List.length_take];omega
  have hw:wr ((k:Int)+1)=((k+1:Nat):Int):=aBf hk (by omega)
  have e1:(kz p rows).take (k+1)=(kz p rows).take k++[(kz p rows)[k]]:=by rw [List.take_add_one,List.getElem?_eq_getElem hkk];rfl
  have hdl:(dd ((kz p rows).take k)).length<=1000:=by
   have h2:(dd ((kz p rows).take k)).length<=((kz p rows).take k).length:=by
    have:∀ (l:List (List Int)),(dd l).length<=l.length:=by
     intro l
     unfold dd
     have hg:∀ (m F:List (List Int)),(m.foldl (aIu id) F).length<=F.length+m.length:=by
      intro m
      induction m with
      |nil=>intro F;simp
      |cons x m ih=>
       intro F
       have:=ih (aIu id F x)
       have h3:=aKE (key:=id) F x
       simp only [List.foldl_cons,List.length_cons];omega
     have:=hg l []
     simpa using this
    exact this _
   rw [List.length_take] at h2;omega
  show ∃ a':List Int × Int,xF p rows (cn ((kz p rows).take k)) _ (k:Int)=_/\_
  unfold xF
  rw [if_pos (aCg hk),num_inner hl hs hr hk,wN,e1,aMi,aJO,aMT]
  unfold pI pH xD
  by_cases hin:(kz p rows)[k]∈(kz p rows).take k
  ·have hpos:0<=pos (dd ((kz p rows).take k)) (kz p rows)[k]:=aIO.2 (aJg.2 hin)
   rw [if_pos hin,if_neg (by simp;omega),aCR (by simp [lim];omega),wN,hw,if_pos (aJg.2 hin)]
   refine ⟨(_,_),rfl,rfl,?_⟩
   have:aIu id (dd ((kz p rows).take k)) (kz p rows)[k]=dd ((kz p rows).take k):=by
    unfold aIu
    rw [if_pos (by rw [List.map_id];exact aJg.2 hin)]
   simp only [this]
  ·rw [if_neg hin,if_pos (by simp),aCR (by simp [lim];omega),wN,hw,if_neg (fun h=>hin (aJg.1 h))]
   refine ⟨(_,_),rfl,rfl,?_⟩
   have:aIu id (dd ((kz p rows).take k)) (kz p rows)[k]=dd ((kz p rows).take k)++[(kz p rows)[k]]:=by
    unfold aIu
    rw [if_neg (by rw [List.map_id];exact fun h=>hin (aJg.1 h))]
   simp only [this,List.length_append,List.length_singleton]
   first
    |omega
    |(rw [aHu (by omega) (by omega)];omega)
 ·obtain ⟨o,m⟩:=a
  obtain ⟨rfl,rfl⟩:=hI
  refine ⟨_,?_,rfl⟩
  show xF p rows (cn ((kz p rows).take p.length)) _ (p.length:Int)=_
  unfold xF
  rw [if_neg (by simp),List.take_of_length_le (by omega)]
theorem aNS (hl:rows.length=p.length):aLN (cn (kz p rows)) p:=
 aPj (aJP hl) fun x y hx hy h=>by
  rw [List.getElem?_eq_getElem (by rw [aJP hl];exact hx),List.getElem?_eq_getElem (by rw [aJP hl];exact hy),aOy hl hx,aOy hl hy,Option.some.injEq,List.cons.injEq] at h
  rw [List.getElem?_eq_getElem hx,List.getElem?_eq_getElem hy,h.1]
end
section
variable {u:cO} {p:List Int}
theorem aPv (hu:Big u) (hp:aIj u p):∃ q,aCu u p=some q/\aIj u q/\cn q=q/\aLN q p:=by
 have h3:=hu.st
 have key:=aHR (step:=fun s:List (List Int) × Int=>uD u p s.1 s.2) u.N.toNat (fun k (a:List (List Int))=>(a,(k:Int))) (fun k a=>a.length=k/\∀ r∈a,r.length<=1000) (fun r=>r.length=u.N.toNat/\∀ x∈r,x.length<=1000) (fun k a hk hI=>?_) (fun a hI=>?_) u.N.toNat 0 [] (by omega) ⟨rfl,by simp⟩
 ·obtain ⟨rows,h1,h2,h4⟩:=key
  have h1':loop (fun s:List (List Int) × Int=>uD u p s.1 s.2) (([]:List (List Int)),0)=some rows:=h1
  unfold aCu
  have hl:rows.length=p.length:=by rw [h2,hp.1]
  rw [h1',wN,num_eq hl (by rw [hp.1];omega) (fun r hr=>by have:=h4 r hr;omega)]
  exact ⟨_,rfl,part_cn hu (by rw [aJP hl,hp.1]),cn_cn _,aNS hl⟩
 ·obtain ⟨g1,g2⟩:=hI
  obtain ⟨l,e,hl⟩:=sign_ok hu hp (k:Int)
  have hw:wr ((k:Int)+1)=((k+1:Nat):Int):=aBf hk (by omega)
  show ∃ a',uD u p a (k:Int)=_/\_
  unfold uD
  rw [if_pos (by simp;omega),e,wN,aCR (by simp [lim];omega),wN,hw]
  refine ⟨_,rfl,by simp;omega,fun r hr=>?_⟩
  rcases List.mem_append.1 hr with hr|hr
  ·exact g2 r hr
  ·simp at hr;subst hr;exact hl
 ·refine ⟨a,?_,hI⟩
  show uD u p a ((u.N.toNat:Nat):Int)=_
  unfold uD
  rw [if_neg (by simp;omega)]
theorem part0 (hu:Big u):mkz u.N (0:Int)=some (List.replicate u.N.toNat 0)/\aIj u (List.replicate u.N.toNat 0):=by
 have h3:=hu.st
 refine ⟨?_,by simp,fun z hz=>by rw [List.mem_replicate] at hz;omega⟩
 unfold mkz
 rw [if_pos ⟨by omega,by unfold lim;omega⟩]
theorem aPw (hu:Big u):∃ p n,aCv u=some (p,n)/\aIj u p:=by
 obtain ⟨hm,h0⟩:=part0 hu
 have h3:=hu.st
 unfold aCv
 rw [hm,wN]
 have key:=aNa (step:=fun s:List Int × Int=>xG u s.1 s.2) u.N.toNat (fun p s=>s.1=p/\aIj u p) (fun r=>aIj u r.1) (fun p s hl hc hI=>?_) (List.replicate u.N.toNat 0) (List.replicate u.N.toNat 0,0) (by simp) (aPi _) ⟨rfl,h0⟩
 ·obtain ⟨⟨p,n⟩,h1,h2⟩:=key
  rw [h1,wN]
  exact ⟨p,n,rfl,h2⟩
 ·obtain ⟨q,n⟩:=s
  obtain ⟨rfl,hp⟩:=hI
  obtain ⟨r,e,g1,g2,g3⟩:=aPv hu hp
  have hstep:xG u q n=if decide (r=q)=true then some (.inr (q,n)) else some (.inl (r,wr (n+1))):=by
   unfold xG
   rw [e,wN,aNd _ _ (by rw [g1.1];omega),wN]
  show (∃ x,xG u q n=_/\_)\/_
  by_cases h:r=q
  ·left
   rw [hstep,if_pos (by simpa using h)]
   exact ⟨_,rfl,hp⟩
  ·right
   refine ⟨r,(r,wr (n+1)),g3,g2,h,?_,rfl,g1⟩
   show xG u q n=_
   rw [hstep,if_neg (by simpa using h)]
theorem aNT (hu:Big u):∃ p,aDc u=some p/\aIj u p:=by
 obtain ⟨p,n,h1,h2⟩:=aPw hu
 exact ⟨p,by unfold aDc;rw [h1,wN],h2⟩
end
end Gv
namespace Gv
open Go
section
variable {u:cO} {p:List Int}
theorem aLx (hu:Big u) (hp:aIj u p) {e:Edge} (he:e∈u.E):∃ b,rH e p=some b:=by
 have h:=hu.inn e he
 unfold rH sM
 split
 ·rw [(aJs hp h.1).1,wN,(aJs hp h.2.1).1,wN]
  exact ⟨_,rfl⟩
 ·exact ⟨_,rfl⟩
def cnt (l:List Bool):Nat:=l.count true
theorem cnt_le (l:List Bool):cnt l<=l.length:=List.count_le_length
theorem cnt_off {l:List Bool} {k:Nat} (hk:k < l.length) (h:l[k]=true):cnt (l.set k false) < cnt l:=by
 unfold cnt
 rw [List.count_set hk,h]
 have:0 < l.count true:=List.count_pos_iff.2 (h ▸ List.getElem_mem hk)
 simp;omega
theorem cnt_on {l:List Bool} {k:Nat} (hk:k < l.length) (h:l[k]=false):cnt l < cnt (l.set k true):=by
 unfold cnt
 rw [List.count_set hk,h]
 simp
theorem ixB {l:List Bool} {s:Int} (hl:l.length=u.N.toNat) (hs:inT u s):∃ hk:s.toNat < l.length,ix l s=some l[s.toNat]:=by
 unfold inT at hs
 exact ⟨by omega,aJR hs.1 (by omega)⟩
theorem div_goes (hu:Big u) (hp:aIj u p) {al:List Bool} (hl:al.length=u.N.toNat) (k:Int):∃ b,loop (fun s:Bool × Int=>uF u p al k s.1 s.2) (false,0)=some b:=by
 have h5:=hu.ed
 have key:=aHR (step:=fun s:Bool × Int=>uF u p al k s.1 s.2) u.E.length (fun i (a:Bool)=>(a,(i:Int))) (fun _ _=>True) (fun _=>True) (fun i a hi _=>?_) (fun a _=>?_) u.E.length 0 false (by omega) trivial
 ·obtain ⟨b,h1,_⟩:=key
  exact ⟨b,h1⟩
 ·have he:=List.getElem_mem hi
  have hin:=hu.inn _ he
  have hw:wr ((i:Int)+1)=((i+1:Nat):Int):=aBf hi (by omega)
  have hj:∀ b,iY (i:Int) b=some (.inl (b,((i+1:Nat):Int))):=fun b=>by unfold iY;rw [hw]
  show ∃ a',uF u p al k a (i:Int)=_/\_
  unfold uF
  rw [if_pos (aCg hi),aAR hi,wN]
  split
  ·exact ⟨_,hj _,trivial⟩
  ·split
   ·obtain ⟨b,hb⟩:=aLx hu hp he
    rw [hb,wN]
    split
    ·obtain ⟨_,h2⟩:=ixB hl hin.2.1
     rw [h2,wN]
     exact ⟨_,hj _,trivial⟩
    ·exact ⟨_,hj _,trivial⟩
   ·exact ⟨_,hj _,trivial⟩
 ·refine ⟨a,?_,trivial⟩
  show uF u p al k a (u.E.length:Int)=_
  unfold uF
  rw [if_neg (by simp)]
theorem div_round (hu:Big u) (hp:aIj u p) {al:List Bool} (hl:al.length=u.N.toNat):∃ al' m,loop (fun s:List Bool × Bool × Int=>uG u p s.1 s.2.1 s.2.2) (al,false,0)=some (al',m)/\al'.length=u.N.toNat/\cnt al'<=cnt al/\(m=true->cnt al' < cnt al):=by
 have h3:=hu.st
 have key:=aHR (step:=fun s:List Bool × Bool × Int=>uG u p s.1 s.2.1 s.2.2) u.N.toNat (fun k (a:List Bool × Bool)=>(a.1,a.2,(k:Int))) (fun _ a=>a.1.length=u.N.toNat/\cnt a.1<=cnt al/\(a.2=true->cnt a.1 < cnt al)) (fun r=>r.1.length=u.N.toNat/\cnt r.1<=cnt al/\(r.2=true->cnt r.1 < cnt al)) (fun k a hk hI=>?_) (fun a hI=>?_) u.N.toNat 0 (al,false) (by omega) ⟨hl,Nat.le_refl _,fun h=>by cases h⟩
 ·obtain ⟨⟨al',m⟩,h1,h2⟩:=key
  exact ⟨al',m,h1,h2⟩
 ·obtain ⟨b,m⟩:=a
  obtain ⟨g1,g2,g3⟩:=hI
  simp only at g1 g2 g3 ⊢
  have hw:wr ((k:Int)+1)=((k+1:Nat):Int):=aBf hk (by omega)
  have hkb:k < b.length:=by omega
  have hj:∀ c n,kN (k:Int) c n=some (.inl (c,n,((k+1:Nat):Int))):=fun c n=>by unfold kN;rw [hw]
  unfold uG
  rw [if_pos (by simp;omega),aAR hkb,wN]
  by_cases hb:b[k]=true
  ·rw [if_neg (by simp [hb])]
   obtain ⟨c,hc⟩:=div_goes hu hp g1 (k:Int)
   rw [hc,wN]
   unfold nW
   cases c with
   |true=>rw [if_neg (by simp),hj];exact ⟨(b,m),rfl,g1,g2,g3⟩
   |false=>
    have hst:st b (k:Int) false=some (b.set k false):=by
     unfold Gv.st
     rw [if_pos ⟨by omega,by omega⟩,Int.toNat_natCast]
    have hlt:=cnt_off hkb hb
    rw [if_pos (by simp),hst,wN,hj]
    exact ⟨(b.set k false,true),rfl,by simp only [List.length_set];exact g1,by simp only;omega,fun _=>by simp only;omega⟩
  ·rw [if_pos (by simp [hb]),hj]
   exact ⟨(b,m),rfl,g1,g2,g3⟩
 ·obtain ⟨b,m⟩:=a
  refine ⟨(b,m),?_,hI⟩
  show uG u p b m ((u.N.toNat:Nat):Int)=_
  unfold uG
  rw [if_neg (by simp;omega)]
theorem aNe (hu:Big u) (hp:aIj u p):∃ al,vN u p=some al/\al.length=u.N.toNat:=by
 have h3:=hu.st
 have hm:mkz u.N false=some (List.replicate u.N.toNat false):=by
  unfold mkz
  rw [if_pos ⟨by omega,by unfold lim;omega⟩]
 unfold vN
 rw [hm,wN]
 have key:=aHR (step:=fun s:List Bool × Int=>rI u s.1 s.2) u.N.toNat (fun k (a:List Bool)=>(a,(k:Int))) (fun _ a=>a.length=u.N.toNat) (fun r=>r.length=u.N.toNat) (fun k a hk hI=>?_) (fun a hI=>?_) u.N.toNat 0 (List.replicate u.N.toNat false) (by omega) (by simp)
 ·obtain ⟨al,h1,h2⟩:=key
  have h1':loop (fun s:List Bool × Int=>rI u s.1 s.2) (List.replicate u.N.toNat false,0)=some al:=h1
  rw [h1',wN]
  unfold mK nU
  have key2:=aIx (step:=fun s:List Bool × Bool=>uH u p s.1 s.2) (fun s=>s.1.length=u.N.toNat) (fun s=>2 * cnt s.1+(if s.2=true then 1 else 0)) (fun r=>r.length=u.N.toNat) (fun s hI=>?_) (s:=(al,true)) h2
  ·obtain ⟨r,h3,h4⟩:=key2
   rw [h3,wN]
   exact ⟨r,rfl,h4⟩
  ·obtain ⟨x,m⟩:=s
   show (∃ s',uH u p x m=_/\_)\/_
   cases m with
   |false=>right;exact ⟨x,by unfold uH;rw [if_neg (by simp)],hI⟩
   |true=>
    left
    obtain ⟨al',m',e,g1,g2,g3⟩:=div_round hu hp hI
    have g2:cnt al'<=cnt x:=g2
    have g3:m'=true->cnt al' < cnt x:=g3
    refine ⟨(al',m'),?_,g1,?_⟩
    ·unfold uH
     rw [if_pos rfl,e,wN];rfl
    ·show 2 * cnt al'+(if m'=true then 1 else 0) < 2 * cnt x+(if true=true then 1 else 0)
     rw [if_pos rfl]
     cases m' with
     |false=>rw [if_neg (by simp)];omega
     |true=>have:=g3 rfl;rw [if_pos rfl];omega
 ·have hw:wr ((k:Int)+1)=((k+1:Nat):Int):=aBf hk (by omega)
  have hka:k < a.length:=by omega
  show ∃ a',rI u a (k:Int)=_/\_
  unfold rI
  have hst:st a (k:Int) true=some (a.set k true):=by
   unfold Gv.st
   rw [if_pos ⟨by omega,by omega⟩,Int.toNat_natCast]
  rw [if_pos (by simp;omega),aAR hka,wN,hst,wN,hw]
  exact ⟨_,rfl,by simp only [List.length_set];exact hI⟩
 ·refine ⟨a,?_,hI⟩
  show rI u a ((u.N.toNat:Nat):Int)=_
  unfold rI
  rw [if_neg (by simp;omega)]
theorem aPx (hu:Big u) (hp:aIj u p) {al:List Bool} (hl:al.length=u.N.toNat):∃ al' m,loop (fun s:List Bool × Bool × Int=>aAu u p s.1 s.2.1 s.2.2) (al,false,0)=some (al',m)/\al'.length=u.N.toNat/\cnt al<=cnt al'/\(m=true->cnt al < cnt al'):=by
 have h5:=hu.ed
 have key:=aHR (step:=fun s:List Bool × Bool × Int=>aAu u p s.1 s.2.1 s.2.2) u.E.length (fun k (a:List Bool × Bool)=>(a.1,a.2,(k:Int))) (fun _ a=>a.1.length=u.N.toNat/\cnt al<=cnt a.1/\(a.2=true->cnt al < cnt a.1)) (fun r=>r.1.length=u.N.toNat/\cnt al<=cnt r.1/\(r.2=true->cnt al < cnt r.1)) (fun i a hi hI=>?_) (fun a hI=>?_) u.E.length 0 (al,false) (by omega) ⟨hl,Nat.le_refl _,fun h=>by cases h⟩
 ·obtain ⟨⟨al',m⟩,h1,h2⟩:=key
  exact ⟨al',m,h1,h2⟩
 ·obtain ⟨b,m⟩:=a
  obtain ⟨g1,g2,g3⟩:=hI
  simp only at g1 g2 g3 ⊢
  have he:=List.getElem_mem hi
  have hin:=hu.inn _ he
  have hw:wr ((i:Int)+1)=((i+1:Nat):Int):=aBf hi (by omega)
  have hj:∀ c n,sS (i:Int) c n=some (.inl (c,n,((i+1:Nat):Int))):=fun c n=>by unfold sS;rw [hw]
  obtain ⟨_,f1⟩:=ixB g1 hin.1
  obtain ⟨hk,f2⟩:=ixB g1 hin.2.1
  have hT:=hin.2.1
  unfold inT at hT
  have hno:nL b m (i:Int) u.E[i] false=some (.inl (b,m,((i+1:Nat):Int))):=by unfold nL;rw [if_neg (by simp),hj]
  unfold aAu
  rw [if_pos (aCg hi),aAR hi,wN,f1,wN]
  split
  ·rw [f2,wN]
   by_cases hb:b[u.E[i].To.toNat]=true
   ·rw [if_neg (by simp [hb]),hno]
    exact ⟨(b,m),rfl,g1,g2,g3⟩
   ·have hb':b[u.E[i].To.toNat]=false:=by simpa using hb
    rw [if_pos (by simp [hb'])]
    obtain ⟨c,hc⟩:=aLx hu hp he
    rw [hc,wN]
    cases c with
    |false=>rw [hno];exact ⟨(b,m),rfl,g1,g2,g3⟩
    |true=>
     have hst:st b u.E[i].To true=some (b.set u.E[i].To.toNat true):=by
      unfold Gv.st
      rw [if_pos ⟨hT.1,by omega⟩]
     have hlt:=cnt_on hk hb'
     unfold nL
     rw [if_pos rfl,f2,wN,hst,wN,hj]
     exact ⟨(_,true),rfl,by simp only [List.length_set];exact g1,by simp only;omega,fun _=>by simp only;omega⟩
  ·rw [hno]
   exact ⟨(b,m),rfl,g1,g2,g3⟩
 ·obtain ⟨b,m⟩:=a
  refine ⟨(b,m),?_,hI⟩
  show aAu u p b m (u.E.length:Int)=_
  unfold aAu
  rw [if_neg (by simp)]
theorem reach_ok (hu:Big u) (hp:aIj u p) {k:Int} (hk:inT u k):∃ al,aDE u p k=some al/\al.length=u.N.toNat:=by
 have h3:=hu.st
 have hk':=hk
 unfold inT at hk'
 have hm:mkz u.N false=some (List.replicate u.N.toNat false):=by
  unfold mkz
  rw [if_pos ⟨by omega,by unfold lim;omega⟩]
 have hst:st (List.replicate u.N.toNat false) k true=some ((List.replicate u.N.toNat false).set k.toNat true):=by
  unfold Gv.st
  rw [if_pos ⟨hk'.1,by simp;omega⟩]
 obtain ⟨_,f⟩:=ixB (u:=u) (l:=List.replicate u.N.toNat false) (by simp) hk
 unfold aDE
 rw [hm,wN,f,wN,hst,wN]
 have key2:=aIx (step:=fun s:List Bool × Bool=>aAv u p s.1 s.2) (fun s=>s.1.length=u.N.toNat) (fun s=>2 * (u.N.toNat - cnt s.1)+(if s.2=true then 1 else 0)) (fun r=>r.length=u.N.toNat) (fun s hI=>?_) (s:=((List.replicate u.N.toNat false).set k.toNat true,true)) (by simp)
 ·obtain ⟨r,h3,h4⟩:=key2
  rw [h3,wN]
  exact ⟨r,rfl,h4⟩
 ·obtain ⟨x,m⟩:=s
  show (∃ s',aAv u p x m=_/\_)\/_
  cases m with
  |false=>right;exact ⟨x,by unfold aAv;rw [if_neg (by simp)],hI⟩
  |true=>
   left
   obtain ⟨al',m',e,g1,g2,g3⟩:=aPx hu hp hI
   have g2:cnt x<=cnt al':=g2
   have g3:m'=true->cnt x < cnt al':=g3
   have hle:cnt al'<=al'.length:=cnt_le al'
   refine ⟨(al',m'),?_,g1,?_⟩
   ·unfold aAv
    rw [if_pos rfl,e,wN];rfl
   ·show 2 * (u.N.toNat - cnt al')+(if m'=true then 1 else 0) < 2 * (u.N.toNat - cnt x)+(if true=true then 1 else 0)
    rw [if_pos rfl]
    cases m' with
    |false=>rw [if_neg (by simp)];omega
    |true=>have:=g3 rfl;rw [if_pos rfl];omega
theorem offers_ok (hu:Big u) (hp:aIj u p) {k:Int} (hk:inT u k):∃ l,aCw u p k=some l/\l.length<=1000:=by
 have h5:=hu.ed
 obtain ⟨al,e,hl⟩:=reach_ok hu hp hk
 unfold aCw
 rw [e,wN]
 have key:=aHR (step:=fun s:List Int × Int=>xH u p al s.1 s.2) u.E.length (fun i (a:List Int)=>(a,(i:Int))) (fun i a=>a.length<=i) (fun r=>r.length<=1000) (fun i a hi hI=>?_) (fun a hI=>?_) u.E.length 0 [] (by omega) (by simp)
 ·obtain ⟨l,h1,h2⟩:=key
  have h1':loop (fun s:List Int × Int=>xH u p al s.1 s.2) (([]:List Int),0)=some l:=h1
  rw [h1',wN]
  exact ⟨l,rfl,h2⟩
 ·have he:=List.getElem_mem hi
  have hin:=hu.inn _ he
  have hw:wr ((i:Int)+1)=((i+1:Nat):Int):=aBf hi (by omega)
  have hno:pO p a (i:Int) u.E[i] false=some (.inl (a,((i+1:Nat):Int))):=by
   unfold pO pN
   rw [if_neg (by simp),hw]
  obtain ⟨_,f1⟩:=ixB hl hin.1
  show ∃ a',xH u p al a (i:Int)=_/\_
  unfold xH
  rw [if_pos (aCg hi),aAR hi,wN,f1,wN]
  split
  ·obtain ⟨c,hc⟩:=aLx hu hp he
   rw [hc,wN]
   cases c with
   |true=>rw [show (!true)=false from rfl,hno];exact ⟨a,rfl,by omega⟩
   |false=>
    obtain ⟨l',h1,h2⟩:=put_ok a (wr (wr (u.E[i].B * (p.length:Int))+p.getD u.E[i].To.toNat 0)) (by omega)
    unfold pO pN
    rw [if_pos (by rfl),(aJs hp hin.2.1).1,wN,h1,wN,hw]
    exact ⟨l',rfl,by omega⟩
  ·rw [hno];exact ⟨a,rfl,by omega⟩
 ·refine ⟨a,?_,by omega⟩
  show xH u p al a (u.E.length:Int)=_
  unfold xH
  rw [if_neg (by simp)]
theorem j10_same:@nX=@nT:=rfl
theorem aPy (hu:Big u) (hp:aIj u p) (d:Bool):∃ q,aCx u p d=some q/\aIj u q/\cn q=q/\aLN q p:=by
 have h3:=hu.st
 obtain ⟨al,e,hal⟩:=aNe hu hp
 unfold aCx
 rw [e,wN]
 have key:=aHR (step:=fun s:List (List Int) × Int=>uI u p d al s.1 s.2) u.N.toNat (fun k (a:List (List Int))=>(a,(k:Int))) (fun k a=>a.length=k/\∀ r∈a,r.length<=1001) (fun r=>r.length=u.N.toNat/\∀ x∈r,x.length<=1001) (fun k a hk hI=>?_) (fun a hI=>?_) u.N.toNat 0 [] (by omega) ⟨rfl,by simp⟩
 ·obtain ⟨rows,h1,h2,h4⟩:=key
  have h1':loop (fun s:List (List Int) × Int=>uI u p d al s.1 s.2) (([]:List (List Int)),0)=some rows:=h1
  have hl:rows.length=p.length:=by rw [h2,hp.1]
  rw [h1',wN,j10_same,num_eq hl (by rw [hp.1];omega) (fun r hr=>by have:=h4 r hr;omega)]
  exact ⟨_,rfl,part_cn hu (by rw [aJP hl,hp.1]),cn_cn _,aNS hl⟩
 ·obtain ⟨g1,g2⟩:=hI
  have hkT:inT u (k:Int):=by unfold inT;omega
  obtain ⟨l,e,hl⟩:=offers_ok hu hp hkT
  obtain ⟨_,f⟩:=ixB hal hkT
  have hw:wr ((k:Int)+1)=((k+1:Nat):Int):=aBf hk (by omega)
  have hgo:∀ r:List Int,r.length<=1001->∃ a',nY a (k:Int) r=some (.inl (a',((k+1:Nat):Int)))/\a'.length=k+1/\∀ r∈a',r.length<=1001:=by
   intro r hr
   unfold nY
   rw [aCR (by simp [lim];omega),wN,hw]
   refine ⟨_,rfl,by simp;omega,fun x hx=>?_⟩
   rcases List.mem_append.1 hx with hx|hx
   ·exact g2 x hx
   ·simp at hx;subst hx;exact hr
  have hgo2:∀ b:Bool,∃ a',nZ a (k:Int) l b=some (.inl (a',((k+1:Nat):Int)))/\a'.length=k+1/\∀ r∈a',r.length<=1001:=by
   intro b
   unfold nZ
   cases b with
   |true=>rw [if_pos rfl,aCR (by simp [lim];omega),wN];exact hgo _ (by simp;omega)
   |false=>rw [if_neg (by simp)];exact hgo _ (by omega)
  show ∃ a',uI u p d al a (k:Int)=_/\_
  unfold uI
  rw [if_pos (by simp;omega),e,wN]
  cases d with
  |true=>rw [if_pos rfl,f,wN];exact hgo2 _
  |false=>rw [if_neg (by simp)];exact hgo2 _
 ·refine ⟨a,?_,hI⟩
  show uI u p d al a ((u.N.toNat:Nat):Int)=_
  unfold uI
  rw [if_neg (by simp;omega)]
theorem part15_ok (hu:Big u) (d:Bool):∃ p,aEI u d=some p/\aIj u p:=by
 obtain ⟨hm,h0⟩:=part0 hu
 have h3:=hu.st
 unfold aEI
 rw [hm,wN]
 have key:=aNa (step:=fun s:List Int=>aBw u d s) u.N.toNat (fun p s=>s=p/\aIj u p) (fun r=>aIj u r) (fun p s hl hc hI=>?_) (List.replicate u.N.toNat 0) (List.replicate u.N.toNat 0) (by simp) (aPi _) ⟨rfl,h0⟩
 ·obtain ⟨p,h1,h2⟩:=key
  rw [h1,wN]
  exact ⟨p,rfl,h2⟩
 ·obtain ⟨rfl,hp⟩:=hI
  obtain ⟨r,e,g1,g2,g3⟩:=aPy hu hp d
  have hstep:aBw u d s=if decide (r=s)=true then some (.inr s) else some (.inl r):=by
   unfold aBw
   rw [e,wN,aNd _ _ (by rw [g1.1];omega),wN]
  by_cases h:r=s
  ·left
   rw [hstep,if_pos (by simpa using h)]
   exact ⟨_,rfl,hp⟩
  ·right
   refine ⟨r,r,g3,g2,h,?_,rfl,g1⟩
   rw [hstep,if_neg (by simpa using h)]
theorem true_ok {al:List Bool} (hal:al.length<=1000):∃ l,aEH al=some l/\l.length<=al.length/\∀ z∈l,0<=z/\z < al.length:=by
 unfold aEH
 have key:=aHR (step:=fun s:List Int × Int=>aBv al s.1 s.2) al.length (fun i (a:List Int)=>(a,(i:Int))) (fun i a=>a.length<=i/\∀ z∈a,0<=z/\z < al.length) (fun r=>r.length<=al.length/\∀ z∈r,0<=z/\z < al.length) (fun i a hi hI=>?_) (fun a hI=>?_) al.length 0 [] (by omega) (by simp)
 ·obtain ⟨l,h1,h2⟩:=key
  have h1':loop (fun s:List Int × Int=>aBv al s.1 s.2) (([]:List Int),0)=some l:=h1
  rw [h1',wN]
  exact ⟨l,rfl,h2⟩
 ·obtain ⟨g1,g2⟩:=hI
  have hw:wr ((i:Int)+1)=((i+1:Nat):Int):=aBf hi (by omega)
  show ∃ a',aBv al a (i:Int)=_/\_
  unfold aBv vM
  rw [if_pos (aCg hi),aAR hi,wN,hw]
  split
  ·rw [aCR (by simp [lim];omega),wN]
   refine ⟨_,rfl,by simp;omega,fun z hz=>?_⟩
   rcases List.mem_append.1 hz with hz|hz
   ·exact g2 z hz
   ·simp at hz;omega
  ·exact ⟨_,rfl,by omega,g2⟩
 ·refine ⟨a,?_,hI⟩
  show aBv al a (al.length:Int)=_
  unfold aBv
  rw [if_neg (by simp)]
end
theorem aOz {t:cO} (h:lD t):Big t:=by
 have h1:=h.1
 have h2:=h.2.2.1.2.1
 have h3:=h.2.2.2.1
 exact ⟨by omega,by omega,by omega,fun e he=>aKI h he⟩
section
variable {t:cO} {c:Nat} {p:List Int}
theorem top_ok (h:Drn c t) (hp:aIj t p):∃ b,zJ p=some b/\(1<=b/\b<=10/\b<=t.N)/\∀ z∈p,0<=z/\z < b:=by
 have h1:=h.ok.1
 have h2:=h.st
 obtain ⟨b,e,⟨⟨z,hz,hb⟩,ht⟩⟩:=aQy (p:=p) (by rw [hp.1];omega) (by rw [hp.1];omega) fun z hz=>by
  have:=hp.2 z hz
  omega
 have:=hp.2 z hz
 exact ⟨b,e,by omega,fun w hw=>by have:=hp.2 w hw;have:=ht w hw;omega⟩
theorem quot13_ok (h:Drn c t) (hp:aIj t p):∃ t',aAs t p=some t'/\Drn c t'/\t'.N<=t.N:=by
 obtain ⟨b,e,hb,hz⟩:=top_ok h hp
 refine ⟨_,quo_ref h.ok hp.1 e,⟨quo_ok h.ok hp.1 (by omega) hz,h.nm,by show b<=10;omega,Nat.le_trans (aPf t p) h.ed⟩,hb.2.2⟩
theorem aQG (h:Drn c t) (hp:aIj t p) {b:Int} (hzi:∀ s,inT t s->0<=p.getD s.toNat 0/\p.getD s.toNat 0 < b):
  ∃ E,loop (fun s:List Edge × Int=>rK t p s.1 s.2) (([]:List Edge),0)=some E/\E.length<=c/\∀ x∈E,aIT b t.L.length x:=by
 have hu:=aOz h.ok
 have h2:=h.ok.2.1
 have hed:=h.ed
 have h5:=hu.ed
 refine aHR (step:=fun s:List Edge × Int=>rK t p s.1 s.2) t.E.length (fun i (a:List Edge)=>(a,(i:Int))) (fun i a=>a.length<=i/\∀ x∈a,aIT b t.L.length x) (fun r=>r.length<=c/\∀ x∈r,aIT b t.L.length x) (fun i a hi hI=>?_) (fun a hI=>?_) t.E.length 0 [] (by omega) (by simp)
 ·obtain ⟨g1,g2⟩:=hI
  have he:=List.getElem_mem hi
  have hin:=aKI h.ok he
  have hw:wr ((i:Int)+1)=((i+1:Nat):Int):=aBf hi (by omega)
  obtain ⟨v,hv⟩:=aLx hu hp he
  have hal:a.length+1 < lim:=by unfold lim;omega
  have ha1:a.length<=i+1:=by omega
  show ∃ a',rK t p a (i:Int)=_/\_
  unfold rK mO
  rw [if_pos (aCg hi),aAR hi,wN,hv,wN,hw]
  clear hw
  split
  ·rw [(aJs hp hin.1).1,wN,(aJs hp hin.2.1).1,wN,aCR (by simp only [List.length_singleton];omega),wN]
   refine ⟨_,rfl,by rw [List.length_append];exact Nat.add_le_add_right g1 1,fun x hx=>?_⟩
   rcases List.mem_append.1 hx with hx|hx
   ·exact g2 x hx
   ·rw [List.mem_singleton] at hx
    subst hx
    exact ⟨hzi _ hin.1,hzi _ hin.2.1,hin.2.2⟩
  ·exact ⟨_,rfl,ha1,g2⟩
 ·obtain ⟨g1,g2⟩:=hI
  refine ⟨a,?_,by omega,g2⟩
  show rK t p a (t.E.length:Int)=_
  unfold rK
  rw [if_neg (by simp)]
theorem aQH (hc:c<=250) (h:Drn c t) (hp:aIj t p) {b:Int} (hzi:∀ s,inT t s->0<=p.getD s.toNat 0/\p.getD s.toNat 0 < b) {E:List Edge} (k2:E.length<=c) (k3:∀ x∈E,aIT b t.L.length x) {l:List Int} (hl:l.length<=10) (hlT:∀ z∈l,inT t z):
  ∃ F,loop (fun s:List Edge × Int=>rJ p l s.1 s.2) (E,0)=some F/\F.length<=c+10/\∀ x∈F,aIT b t.L.length x:=by
 have hlab:=h.ok.2.2.1.1
 refine aHR (step:=fun s:List Edge × Int=>rJ p l s.1 s.2) l.length (fun i (a:List Edge)=>(a,(i:Int))) (fun i a=>a.length<=c+i/\∀ x∈a,aIT b t.L.length x) (fun r=>r.length<=c+10/\∀ x∈r,aIT b t.L.length x) (fun i a hi hI=>?_) (fun a hI=>?_) l.length 0 E (by omega) ⟨by omega,k3⟩
 ·obtain ⟨g1,g2⟩:=hI
  have hsT:=hlT _ (List.getElem_mem hi)
  have hal:a.length+1 < lim:=by unfold lim;omega
  have hw:wr ((i:Int)+1)=((i+1:Nat):Int):=aBf hi (by omega)
  show ∃ a',rJ p l a (i:Int)=_/\_
  unfold rJ
  rw [if_pos (aCg hi),aAR hi,wN,(aJs hp hsT).1,wN,aCR (by simp only [List.length_singleton];omega),wN,hw]
  clear hw
  refine ⟨_,rfl,by rw [List.length_append];exact Nat.add_le_add_right g1 1,fun x hx=>?_⟩
  rcases List.mem_append.1 hx with hx|hx
  ·exact g2 x hx
  ·rw [List.mem_singleton] at hx
   subst hx
   have:=hzi _ hsT
   exact ⟨this,this,by simp only;omega⟩
 ·obtain ⟨g1,g2⟩:=hI
  refine ⟨a,?_,by omega,g2⟩
  show rJ p l a (l.length:Int)=_
  unfold rJ
  rw [if_neg (by simp)]
theorem aNU (hc:c<=250) (h:Drn c t) (hp:aIj t p) (d:Bool):∃ t',sO t p d=some t'/\Drn (c+10) t'/\t'.N<=t.N:=by
 have hu:=aOz h.ok
 have h1:=h.ok.1
 have h2:=h.ok.2.1
 have hst:=h.st
 have hlab:=h.ok.2.2.1
 obtain ⟨b,e,hb,hz⟩:=top_ok h hp
 have hzi:∀ s,inT t s->0<=p.getD s.toNat 0/\p.getD s.toNat 0 < b:=fun s hs=>by
  have hl:s.toNat < p.length:=by rw [hp.1];unfold inT at hs;omega
  have e:p.getD s.toNat 0=p[s.toNat]:=by rw [List.getD_eq_getElem?_getD,List.getElem?_eq_getElem hl];rfl
  rw [e]
  exact hz _ (List.getElem_mem hl)
 have hini:inT t t.I:=by unfold inT;omega
 have hfin:∀ E:List Edge,(∀ x∈E,aIT b t.L.length x)->E.length<=c+10->∃ t',mL t p E=some t'/\Drn (c+10) t'/\t'.N<=t.N:=by
  intro E hE hl
  obtain ⟨t',m1,m2,m3,m4⟩:=aOx (T:=t.L) h.nm (by have:=hlab.2.1;omega) (st:=b) (ini:=p.getD t.I.toNat 0) (by omega) (hzi _ hini) (edges:=E) (by omega) (fun x hx=>by have:=hE x hx;unfold aIT at this;exact ⟨this.1,this.2.1,this.2.2⟩)
  unfold mL
  rw [(aJs hp hini).1,wN,e,wN,m1,wN]
  exact ⟨t',rfl,m2.mono hl,by omega⟩
 obtain ⟨E,k1,k2,k3⟩:=aQG h hp hzi
 unfold sO
 rw [k1,wN]
 unfold mN
 cases d with
 |false=>rw [if_neg (by simp)];exact hfin E k3 (by omega)
 |true=>
  obtain ⟨al,d1,d2⟩:=aNe hu hp
  obtain ⟨l,d3,d4,d5⟩:=true_ok (al:=al) (by omega)
  obtain ⟨F,q1,q2,q3⟩:=aQH hc h hp hzi k2 k3 (l:=l) (by omega) (fun z hz=>by have:=d5 z hz;unfold inT;omega)
  rw [if_pos rfl,d1,wN,d3,wN,q1,wN]
  unfold mM
  exact hfin F q3 q2
theorem aNf (h:Drn c t):xB t=some (RL t)/\aAZ t (RL t)=some (aNF t (RL t))/\Drn c (aNF t (RL t))/\(aNF t (RL t)).N<=t.N:=by
 have h1:=h.ok.1
 have h2:=h.st
 have hl:=RL_len t
 refine ⟨aOV h.ok,aQi h.ok (by omega),⟨keep_ok h.ok,h.nm,?_,Nat.le_trans (aNG t (RL t)) h.ed⟩,?_⟩
 ·show ((RL t).length:Int)<=10
  omega
 ·show ((RL t).length:Int)<=t.N
  omega
theorem aQI (h:Drn c t):∃ t',aDD t=some t'/\Drn c t'/\t'.N<=t.N:=by
 obtain ⟨k1,k2,k3,k4⟩:=aNf h
 obtain ⟨p,p1,p2⟩:=aNT (aOz k3.ok)
 obtain ⟨t',q1,q2,q3⟩:=quot13_ok k3 p2
 unfold aDD
 rw [k1,wN,k2,wN,p1,wN,q1,wN]
 exact ⟨t',rfl,q2,by omega⟩
theorem aNg (hc:c<=250) (h:Drn c t) (d:Bool):∃ t',aBx t d=some t'/\Drn (c+10) t'/\t'.N<=t.N:=by
 obtain ⟨k1,k2,k3,k4⟩:=aNf h
 obtain ⟨p,p1,p2⟩:=part15_ok (aOz k3.ok) d
 obtain ⟨t',q1,q2,q3⟩:=aNU hc k3 p2 d
 unfold aBx
 rw [k1,wN,k2,wN,p1,wN,q1,wN]
 exact ⟨t',rfl,q2,by omega⟩
end
end Gv
set_option linter.unusedSimpArgs false
set_option linter.unusedVariables false
namespace Gv
open Go
theorem aIN {γ:Type} {step:List γ × Int->Option ((List γ × Int) ⊕ List γ)} {n:Int} (hn:0<=n) (R:Nat->List γ->Prop) (R':List γ->Prop)
  (h:∀ m i,0<=i->i < n->R i.toNat m->∃ m',step (m,i)=some (.inl (m',i+1))/\R (i.toNat+1) m') (h':∀ m,R n.toNat m->step (m,n)=some (.inr m)/\R' m):∀ m,R 0 m->∃ m',loop step (m,0)=some m'/\R' m':=by
 intro m hm
 obtain ⟨r,h1,h2⟩:=aHR (step:=step) n.toNat (fun k (q:List γ)=>(q,(k:Int))) R R' (fun k q hk hI=>by
  obtain ⟨m',g1,g2⟩:=h q (k:Int) (by omega) (by omega) (by rwa [Int.toNat_natCast])
  rw [Int.toNat_natCast] at g2
  exact ⟨m',g1,g2⟩) (fun q hI=>by
  obtain ⟨g1,g2⟩:=h' q hI
  refine ⟨q,?_,g2⟩
  have:((n.toNat:Nat):Int)=n:=by omega
  rw [this];exact g1) n.toNat 0 m (by omega) hm
 exact ⟨r,h1,h2⟩
theorem sq_lt {s x y:Int} (hs:s<=100) (hx:0<=x/\x < s) (hy:0<=y/\y < s):0<=x * s/\x * s<=10000/\x * s+y < s * s:=by
 have h1:(x+1) * s<=s * s:=Int.mul_le_mul_of_nonneg_right (by omega) (by omega)
 have h2:x * s<=100 * 100:=Int.mul_le_mul (by omega) hs (by omega) (by omega)
 have h3:0<=x * s:=Int.mul_nonneg hx.1 (by omega)
 rw [Int.add_mul,Int.one_mul] at h1
 omega
theorem sq_wr {s x y:Int} (hs:s<=100) (hx:0<=x/\x < s) (hy:0<=y/\y < s):wr (wr (x * s)+y)=x * s+y:=by
 obtain ⟨h1,h2,h3⟩:=sq_lt hs hx hy
 rw [aHu (x:=x * s) (by omega) (by omega),aHu (by omega) (by omega)]
theorem aMd {s x y:Int} {m:List Bool} (hs:s<=100) (hm:m.length=(s * s).toNat) (hx:0<=x/\x < s) (hy:0<=y/\y < s):∃ b,ix m (wr (wr (x * s)+y))=some b:=by
 obtain ⟨h1,h2,h3⟩:=sq_lt hs hx hy
 rw [sq_wr hs hx hy]
 unfold ix
 rw [if_pos (by omega),List.getElem?_eq_getElem (by omega)]
 exact ⟨_,rfl⟩
theorem sq_st {s x y:Int} {m:List Bool} (v:Bool) (hs:s<=100) (hm:m.length=(s * s).toNat) (hx:0<=x/\x < s) (hy:0<=y/\y < s):∃ m',st m (wr (wr (x * s)+y)) v=some m'/\m'.length=(s * s).toNat:=by
 obtain ⟨h1,h2,h3⟩:=sq_lt hs hx hy
 rw [sq_wr hs hx hy]
 unfold Gv.st
 rw [if_pos ⟨by omega,by omega⟩]
 exact ⟨_,rfl,by rw [List.length_set,hm]⟩
theorem ln_ix {γ:Type} {s k:Int} {m:List γ} (hm:m.length=s.toNat) (hk:0<=k/\k < s):∃ b,ix m k=some b:=by
 unfold ix
 rw [if_pos hk.1,List.getElem?_eq_getElem (by omega)]
 exact ⟨_,rfl⟩
theorem ln_st {γ:Type} {s k:Int} {m:List γ} (v:γ) (hm:m.length=s.toNat) (hk:0<=k/\k < s):∃ m',st m k v=some m'/\m'.length=s.toNat:=by
 unfold Gv.st
 rw [if_pos ⟨hk.1,by omega⟩]
 exact ⟨_,rfl,by rw [List.length_set,hm]⟩
theorem aJh {i n:Int} (h0:0<=i) (h1:i < n) (hn:n<=1000000):wr (i+1)=i+1:=aHu (by omega) (by omega)
section
variable {s:Int}
theorem cl2_c (hs:0<=s/\s<=100) {x y:Int} (hx:0<=x/\x < s) (hy:0<=y/\y < s):∀ m:List Bool,m.length=(s * s).toNat->∃ m',loop (fun q:List Bool × Int=>aAx s x y q.1 q.2) (m,0)=some m'/\m'.length=(s * s).toNat:=by
 refine aIN hs.1 (fun _ m=>m.length=(s * s).toNat) (fun m=>m.length=(s * s).toNat) (fun m i h0 h1 hm=>?_) (fun m hm=>⟨?_,hm⟩)
 ·show ∃ m',aAx s x y m i=_/\_
  unfold aAx sX
  obtain ⟨b,hb⟩:=aMd (m:=m) hs.2 hm hx ⟨h0,h1⟩
  obtain ⟨c,hc⟩:=aMd (m:=m) hs.2 hm hy ⟨h0,h1⟩
  obtain ⟨m',h2,h3⟩:=sq_st (m:=m) true hs.2 hm hy ⟨h0,h1⟩
  rw [if_pos (by simpa using h1),hb,wN,aJh h0 h1 (by omega)]
  cases b with
  |true=>rw [if_pos rfl,hc,wN,h2,wN];exact ⟨m',rfl,h3⟩
  |false=>rw [if_neg (by simp)];exact ⟨m,rfl,hm⟩
 ·show aAx s x y m s=_
  unfold aAx
  rw [if_neg (by simp)]
theorem cl2_a (hs:0<=s/\s<=100) {x:Int} (hx:0<=x/\x < s):∀ m:List Bool,m.length=(s * s).toNat->∃ m',loop (fun q:List Bool × Int=>aAy s x q.1 q.2) (m,0)=some m'/\m'.length=(s * s).toNat:=by
 refine aIN hs.1 (fun _ m=>m.length=(s * s).toNat) (fun m=>m.length=(s * s).toNat) (fun m i h0 h1 hm=>?_) (fun m hm=>⟨?_,hm⟩)
 ·show ∃ m',aAy s x m i=_/\_
  unfold aAy
  obtain ⟨b,hb⟩:=aMd (m:=m) hs.2 hm ⟨h0,h1⟩ hx
  obtain ⟨m',h2,h3⟩:=cl2_c hs hx ⟨h0,h1⟩ m hm
  rw [if_pos (by simpa using h1),hb,wN]
  unfold sW sV
  rw [aJh h0 h1 (by omega)]
  cases b with
  |true=>rw [if_neg (by simp),h2,wN];exact ⟨m',rfl,h3⟩
  |false=>rw [if_pos (by simp)];exact ⟨m,rfl,hm⟩
 ·show aAy s x m s=_
  unfold aAy
  rw [if_neg (by simp)]
theorem cl2_b (hs:0<=s/\s<=100):∀ m:List Bool,m.length=(s * s).toNat->∃ m',loop (fun q:List Bool × Int=>aAz s q.1 q.2) (m,0)=some m'/\m'.length=(s * s).toNat:=by
 refine aIN hs.1 (fun _ m=>m.length=(s * s).toNat) (fun m=>m.length=(s * s).toNat) (fun m i h0 h1 hm=>?_) (fun m hm=>⟨?_,hm⟩)
 ·show ∃ m',aAz s m i=_/\_
  unfold aAz
  obtain ⟨m',h2,h3⟩:=cl2_a hs ⟨h0,h1⟩ m hm
  rw [if_pos (by simpa using h1),h2,wN]
  unfold sU aAw
  rw [aJh h0 h1 (by omega)]
  exact ⟨m',rfl,h3⟩
 ·show aAz s m s=_
  unfold aAz
  rw [if_neg (by simp)]
theorem close2_ok (hs:0<=s/\s<=100) (m:List Bool) (hm:m.length=(s * s).toNat):∃ m',aDF s m=some m'/\m'.length=(s * s).toNat:=by
 obtain ⟨m1,h1,h2⟩:=aIN (step:=fun q:List Bool × Int=>xL s q.1 q.2) hs.1 (fun _ m=>m.length=(s * s).toNat) (fun m=>m.length=(s * s).toNat) (fun m i h0 h1 hm=>by
  show ∃ m',xL s m i=_/\_
  unfold xL
  obtain ⟨b,hb⟩:=aMd (m:=m) hs.2 hm ⟨h0,h1⟩ ⟨h0,h1⟩
  obtain ⟨m',h2,h3⟩:=sq_st (m:=m) true hs.2 hm ⟨h0,h1⟩ ⟨h0,h1⟩
  rw [if_pos (by simpa using h1),hb,wN,h2,wN,aJh h0 h1 (by omega)]
  exact ⟨m',rfl,h3⟩) (fun m hm=>⟨by
  show xL s m s=_
  unfold xL
  rw [if_neg (by simp)],hm⟩) m hm
 obtain ⟨m2,h3,h4⟩:=cl2_b hs m1 h2
 unfold aDF
 rw [h1,wN]
 unfold pV
 rw [h3,wN]
 exact ⟨m2,rfl,h4⟩
end
section
variable {t:cO} {c:Nat}
theorem still_ok (h:Drn c t):∃ m,aDG t=some m/\m.length=(t.N * t.N).toNat:=by
 have h1:=h.ok.1
 have h2:=h.st
 have h3:=h.ok.2.2.2.1
 have hq:=sq_lt (s:=t.N) (x:=t.N - 1) (y:=0) (by omega) (by omega) (by omega)
 have hsq:0<=t.N * t.N/\t.N * t.N<=100:=⟨Int.mul_nonneg (by omega) (by omega),Int.le_trans (Int.mul_le_mul h2 h2 (by omega) (by omega)) (by decide)⟩
 have hm:mkz (wr (t.N * t.N)) false=some (List.replicate (t.N * t.N).toNat false):=by
  rw [aHu (by omega) (by omega)]
  unfold mkz
  rw [if_pos ⟨by omega,by unfold lim;omega⟩]
 unfold aDG
 rw [hm,wN]
 obtain ⟨m1,e1,e2⟩:=aIN (step:=fun q:List Bool × Int=>aAA t q.1 q.2) (n:=(t.E.length:Int)) (by omega) (fun _ m=>m.length=(t.N * t.N).toNat) (fun m=>m.length=(t.N * t.N).toNat) (fun m i h0 h1' hm=>by
  show ∃ m',aAA t m i=_/\_
  have hi:i.toNat < t.E.length:=by omega
  have hb:=aKI h.ok (List.getElem_mem hi)
  unfold inT at hb
  obtain ⟨b,hb'⟩:=aMd (m:=m) (s:=t.N) (by omega) hm hb.1 hb.2.1
  obtain ⟨m',g2,g3⟩:=sq_st (m:=m) (s:=t.N) true (by omega) hm hb.1 hb.2.1
  have he:ix t.E i=some t.E[i.toNat]:=by unfold ix;rw [if_pos h0,List.getElem?_eq_getElem hi]
  unfold aAA sZ
  rw [if_pos (by simpa using h1'),he,wN,hb',wN,g2,wN,aJh h0 h1' (by omega)]
  split
  ·exact ⟨m',rfl,g3⟩
  ·exact ⟨m,rfl,hm⟩) (fun m hm=>⟨by
  show aAA t m (t.E.length:Int)=_
  unfold aAA
  rw [if_neg (by simp)],hm⟩) (List.replicate (t.N * t.N).toNat false) (by simp)
 rw [e1,wN]
 unfold sY
 obtain ⟨m2,e3,e4⟩:=close2_ok (s:=t.N) (by omega) m1 e2
 rw [e3,wN]
 exact ⟨m2,rfl,e4⟩
theorem step16_ok (h:Drn c t) {still:List Bool} (hst:still.length=(t.N * t.N).toNat) {k:Int} (hk:inT t k) (l:Int):∃ m,aEJ t still k l=some m/\m.length=t.N.toNat:=by
 have h1:=h.ok.1
 have h2:=h.st
 have h3:=h.ok.2.2.2.1
 have hk':=hk
 unfold inT at hk'
 have hm:mkz t.N false=some (List.replicate t.N.toNat false):=by
  unfold mkz
  rw [if_pos ⟨by omega,by unfold lim;omega⟩]
 unfold aEJ
 rw [hm,wN]
 split
 ·obtain ⟨m1,e1,e2⟩:=aIN (step:=fun q:List Bool × Int=>aBy t still k q.1 q.2) (n:=t.N) (by omega) (fun _ m=>m.length=t.N.toNat) (fun m=>m.length=t.N.toNat) (fun m i h0 h1' hm=>by
   show ∃ m',aBy t still k m i=_/\_
   obtain ⟨b,hb⟩:=aMd (m:=still) (s:=t.N) (by omega) hst hk' ⟨h0,h1'⟩
   obtain ⟨x,hx⟩:=ln_ix (m:=m) hm ⟨h0,h1'⟩
   obtain ⟨m',g2,g3⟩:=ln_st (m:=m) b hm ⟨h0,h1'⟩
   unfold aBy
   rw [if_pos (by simpa using h1'),hb,wN,hx,wN,g2,wN,aJh h0 h1' (by omega)]
   exact ⟨m',rfl,g3⟩) (fun m hm=>⟨by
   show aBy t still k m t.N=_
   unfold aBy
   rw [if_neg (by simp)],hm⟩) (List.replicate t.N.toNat false) (by simp)
  rw [e1,wN]
  exact ⟨m1,rfl,e2⟩
 ·obtain ⟨m1,e1,e2⟩:=aIN (step:=fun q:List Bool × Int=>aBA t still k l q.1 q.2) (n:=(t.E.length:Int)) (by omega) (fun _ m=>m.length=t.N.toNat) (fun m=>m.length=t.N.toNat) (fun m i h0 h1' hm=>by
   show ∃ m',aBA t still k l m i=_/\_
   have hi:i.toNat < t.E.length:=by omega
   have hb:=aKI h.ok (List.getElem_mem hi)
   unfold inT at hb
   have he:ix t.E i=some t.E[i.toNat]:=by unfold ix;rw [if_pos h0,List.getElem?_eq_getElem hi]
   obtain ⟨b,hb'⟩:=aMd (m:=still) (s:=t.N) (by omega) hst hk' hb.1
   have hj4:∀ m':List Bool,vQ i m'=some (.inl (m',i+1)):=fun m'=>by unfold vQ;rw [aJh h0 h1' (by omega)]
   obtain ⟨m2,e3,e4⟩:=aIN (step:=fun q:List Bool × Int=>aBz t still t.E[i.toNat] q.1 q.2) (n:=t.N) (by omega) (fun _ m=>m.length=t.N.toNat) (fun m=>m.length=t.N.toNat) (fun m j h0 h1' hm=>by
    show ∃ m',aBz t still t.E[i.toNat] m j=_/\_
    obtain ⟨b,hb⟩:=aMd (m:=still) (s:=t.N) (by omega) hst hb.2.1 ⟨h0,h1'⟩
    obtain ⟨x,hx⟩:=ln_ix (m:=m) hm ⟨h0,h1'⟩
    obtain ⟨m',g2,g3⟩:=ln_st (m:=m) true hm ⟨h0,h1'⟩
    unfold aBz vS
    rw [if_pos (by simpa using h1'),hb,wN,aJh h0 h1' (by omega)]
    cases b with
    |true=>rw [if_pos rfl,hx,wN,g2,wN];exact ⟨m',rfl,g3⟩
    |false=>rw [if_neg (by simp)];exact ⟨m,rfl,hm⟩) (fun m hm=>⟨by
    show aBz t still t.E[i.toNat] m t.N=_
    unfold aBz
    rw [if_neg (by simp)],hm⟩) m hm
   unfold aBA
   rw [if_pos (by simpa using h1'),he,wN,hb',wN]
   have hj8:∀ v,∃ m',vT t still m i t.E[i.toNat] v=some (.inl (m',i+1))/\m'.length=t.N.toNat:=fun v=>by
    unfold vT
    cases v with
    |true=>rw [if_pos rfl,hj4];exact ⟨m,rfl,hm⟩
    |false=>
     rw [if_neg (by simp),e3,wN]
     unfold vR
     rw [hj4]
     exact ⟨m2,rfl,e4⟩
   split
   ·exact hj8 _
   ·exact hj8 _) (fun m hm=>⟨by
   show aBA t still k l m (t.E.length:Int)=_
   unfold aBA
   rw [if_neg (by simp)],hm⟩) (List.replicate t.N.toNat false) (by simp)
  rw [e1,wN]
  exact ⟨m1,rfl,e2⟩
theorem sat16_ok (h:Drn c t) (h6:t.N<=6):∃ u,aAB t=some u/\Big u/\u.N=t.N:=by
 have h1:=h.ok.1
 have h3:=h.ok.2.2.2.1
 have hl:=h.ok.2.2.1.2.1
 have hl0:=h.ok.2.2.1.1
 obtain ⟨still,s1,s2⟩:=still_ok h
 unfold aAB
 rw [aCR (by simp [lim];omega),wN,List.nil_append]
 unfold pW
 rw [s1,wN]
 obtain ⟨E,e1,e2,e3⟩:=aIN (step:=fun q:List Edge × Int=>rP t still q.1 q.2) (n:=t.N) (by omega) (fun k E=>(∀ e∈E,aIT t.N t.L.length e)/\E.length<=72 * k) (fun E=>(∀ e∈E,aIT t.N t.L.length e)/\E.length<=432) (fun E k k0 k1 hE=>by
  show ∃ m',rP t still E k=_/\_
  obtain ⟨F,f1,f2,f3⟩:=aIN (step:=fun q:List Edge × Int=>rO t still k q.1 q.2) (n:=(t.L.length:Int)) (by omega) (fun j F=>(∀ e∈F,aIT t.N t.L.length e)/\F.length<=E.length+6 * j) (fun F=>(∀ e∈F,aIT t.N t.L.length e)/\F.length<=E.length+72) (fun F l l0 l1 hF=>by
   show ∃ m',rO t still k F l=_/\_
   obtain ⟨m,g1,g2⟩:=step16_ok h s2 (k:=k) ⟨k0,k1⟩ l
   obtain ⟨D,d1,d2,d3⟩:=aIN (step:=fun q:List Edge × Int=>rN t k l m q.1 q.2) (n:=t.N) (by omega) (fun i D=>(∀ e∈D,aIT t.N t.L.length e)/\D.length<=F.length+i) (fun D=>(∀ e∈D,aIT t.N t.L.length e)/\D.length<=F.length+6) (fun D i i0 i1 hD=>by
    show ∃ m',rN t k l m D i=_/\_
    obtain ⟨b,hb⟩:=ln_ix (m:=m) g2 ⟨i0,i1⟩
    have hlen:=hD.2
    have hF2:=hF.2
    have hE2:=hE.2
    have hlim:D.length+1<=10000:=by omega
    unfold rN mS
    rw [if_pos (by simpa using i1),hb,wN,aJh i0 i1 (by omega)]
    cases b with
    |true=>
     rw [if_pos rfl,aCR (by simp only [List.length_singleton,lim];omega),wN]
     refine ⟨_,rfl,fun e he=>?_,by rw [List.length_append,List.length_singleton];omega⟩
     rcases List.mem_append.1 he with he|he
     ·exact hD.1 e he
     ·rw [List.mem_singleton] at he
      subst he
      exact ⟨⟨k0,k1⟩,⟨i0,i1⟩,l0,l1⟩
    |false=>rw [if_neg (by simp)];exact ⟨D,rfl,hD.1,by omega⟩) (fun D hD=>⟨by
    show rN t k l m D t.N=_
    unfold rN
    rw [if_neg (by simp)],hD.1,by have:=hD.2;omega⟩) F ⟨hF.1,by omega⟩
   unfold rO
   rw [if_pos (by simpa using l1),g1,wN,d1,wN]
   unfold mR rM
   rw [aJh l0 l1 (by omega)]
   exact ⟨D,rfl,d2,by have:=hF.2;omega⟩) (fun F hF=>⟨by
   show rO t still k F (t.L.length:Int)=_
   unfold rO
   rw [if_neg (by simp)],hF.1,by have:=hF.2;omega⟩) E ⟨hE.1,by omega⟩
  unfold rP
  rw [if_pos (by simpa using k1),f1,wN]
  unfold mQ rL
  rw [aJh k0 k1 (by omega)]
  exact ⟨F,rfl,f2,by have:=hE.2;omega⟩) (fun E hE=>⟨by
  show rP t still E t.N=_
  unfold rP
  rw [if_neg (by simp)],hE.1,by have:=hE.2;omega⟩) [] ⟨by simp,by simp⟩
 rw [e1,wN]
 exact ⟨_,rfl,⟨by show 1<=t.N/\t.N<=100;omega,by show t.L.length<=100;omega,by show E.length<=1000;omega,fun e he=>by have:=e2 e he;unfold aIT at this;exact ⟨this.1,this.2.1,this.2.2⟩⟩,rfl⟩
theorem aQJ (hc:c<=250) (h:Drn c t) (h6:t.N<=6):∃ t',aDH t=some t'/\Drn (c+10) t':=by
 obtain ⟨k1,k2,k3,k4⟩:=aNf h
 obtain ⟨u,u1,u2,u3⟩:=sat16_ok k3 (by omega)
 obtain ⟨p,p1,p2⟩:=aNT u2
 have p3:aIj (aNF t (RL t)) p:=by
  unfold aIj at p2 ⊢
  rw [u3] at p2
  exact p2
 obtain ⟨t',q1,q2,q3⟩:=aNU hc k3 p3 false
 unfold aDH
 rw [k1,wN,k2,wN]
 unfold aEK
 rw [u1,wN,p1,wN,wN,q1,wN]
 exact ⟨t',rfl,q2⟩
end
end Gv
set_option linter.unusedSimpArgs false
set_option linter.unusedVariables false
namespace Gv
open Go
section
variable {a:cO} (cs:bD)
def Ask (t:cO):Prop:=lD t/\aBX 999999999 t
theorem Drn.ask {c:Nat} {t:cO} (h:Drn c t):Ask t:=⟨h.ok,h.fits⟩
theorem det_ask {c:Nat} {t:cO} (h:Drn c t) (hs:Small (aFi t)):Ask (aIa t):=by
 refine ⟨(aIC h.ok hs).1,h.fits.1,h.fits.2.1,?_⟩
 have:=hs.2
 show (aFi t).2.length<=999999999
 omega
theorem cut_ask {c:Nat} {t:cO} (h:Drn c t) {E:List Edge} (hE:E.Sublist t.E):Ask ⟨t.N,t.I,t.L,E⟩:=by
 have hl:=hE.length_le
 have h3:=h.ok.2.2.2.1
 refine ⟨⟨h.ok.1,h.ok.2.1,h.ok.2.2.1,aLu (by show E.length<=300;omega) ((aOU h.ok).sublist hE) fun e he=>aHl h.ok (hE.subset he)⟩,h.fits.1,h.fits.2.1,by show E.length<=999999999;omega⟩
theorem own_eq {c:Nat} {t:cO} (h:Drn c t):aFY t=some t:=by
 have h1:=h.ok.2.2.1.2.1
 have h3:=h.ok.2.2.2.1
 unfold aFY
 rw [aCR (by simp [lim];omega),wN,aCR (by simp [lim];omega),wN,List.nil_append,List.nil_append]
theorem del_eq {E:List Edge} (hl:E.length<=1000) {v:Int} (hv:0<=v/\v < E.length):∃ r1 r2 F,slc E 0 v=some r1/\slc E (wr (v+1)) (E.length:Int)=some r2/\kC r1 r2=some F/\F.Sublist E:=by
 refine ⟨E.take v.toNat,E.drop (v.toNat+1),E.take v.toNat++E.drop (v.toNat+1),?_,?_,aCR (by simp only [List.length_take,List.length_drop,lim];omega),?_⟩
 ·unfold slc
  rw [if_pos ⟨by decide,hv.1,by omega⟩]
  simp
 ·rw [aHu (by omega) (by omega)]
  unfold slc
  rw [if_pos ⟨by omega,by omega,by omega⟩,show (v+1).toNat=v.toNat+1 by omega,List.take_of_length_le (by simp)]
 ·have:(E.take v.toNat++E.drop (v.toNat+1)).Sublist (E.take v.toNat++E.drop v.toNat):=by
   refine List.Sublist.append_left ?_ _
   rw [show E.drop (v.toNat+1)=(E.drop v.toNat).drop 1 by rw [List.drop_drop]]
   exact List.drop_sublist _ _
  rwa [List.take_append_drop] at this
theorem pair_ok:∃ a b,aEM cs=some (a,b)/\Ask a/\Ask b:=by
 obtain ⟨a,x,y,e,⟨ha,h6⟩,h1,h2⟩:=aNR cs (s1:=0) 0 (by omega)
 obtain ⟨b,x',y',e',hb,h1',h2'⟩:=aNR cs (s1:=x) y (by omega)
 obtain ⟨v,x2,y2,e2,g,i,j⟩:=aIs cs y' (s1:=x') (n:=7) (by omega) (by omega)
 unfold aEM aEF
 rw [wN]
 show ∃ a b,(ob (aIb cs 0 0) fun r16=>ob (aIb cs r16.2.1 r16.2.2) fun r30=>ob (dJ cs r30.2.1 r30.2.2 7) fun r44=>_)=_/\_
 rw [e,wN,e',wN,e2,wN]
 have hend:∀ t:cO,Ask t->∃ a' b',gJ (a,x,y) t.N t.I t.L t.E=some (a',b')/\Ask a'/\Ask b':=fun t ht=>⟨a,t,rfl,ha.ask,ht⟩
 split
 ·obtain ⟨t',e3,h3,_⟩:=aQI ha
  show ∃ a' b',(ob (aDD a) fun r99=>_)=_/\_
  rw [e3,wN]
  exact hend t' h3.ask
 split
 ·obtain ⟨t',e3,h3,_⟩:=aNg (by omega) ha true
  show ∃ a' b',(ob (aBx a true) fun r99=>_)=_/\_
  rw [e3,wN]
  exact hend t' h3.ask
 split
 ·obtain ⟨t',e3,h3,_⟩:=aNg (by omega) ha false
  show ∃ a' b',(ob (aBx a false) fun r99=>_)=_/\_
  rw [e3,wN]
  exact hend t' h3.ask
 split
 ·obtain ⟨t',e3,h3⟩:=aQJ (by omega) ha h6
  show ∃ a' b',(ob (aDH a) fun r99=>_)=_/\_
  rw [e3,wN]
  exact hend t' h3.ask
 split
 ·show ∃ a' b',(ob (aBa a) fun r215=>_)=_/\_
  rw [aLg ha.ok,wN,aJC]
  by_cases hs:Small (aFi a)
  ·rw [decide_eq_true hs,if_pos rfl]
   unfold detS
   rw [if_pos hs]
   exact hend (aIa a) (det_ask ha hs)
  ·rw [decide_eq_false hs,if_neg (by simp)]
   exact hend b hb.1.ask
 split
 ·show ∃ a' b',(ob (aFY a) fun r254=>_)=_/\_
  rw [own_eq ha,wN]
  have h3:=ha.ok.2.2.2.1
  by_cases hp:0 < a.E.length
  ·rw [if_pos (by simpa using hp)]
   obtain ⟨u,x3,y3,e3,g3,_,_⟩:=aIs cs y2 (s1:=x2) (n:=(a.E.length:Int)) (by omega) (by omega)
   obtain ⟨r1,r2,F,d1,d2,d3,d4⟩:=del_eq (E:=a.E) (by omega) g3
   show ∃ a' b',(ob (dJ cs x2 y2 (a.E.length:Int)) fun r269=>_)=_/\_
   rw [e3,wN]
   show ∃ a' b',(ob (slc a.E 0 u) fun r282=>ob (slc a.E (wr (u+1)) (a.E.length:Int)) fun r288=>_)=_/\_
   rw [d1,wN,d2,wN,d3,wN]
   exact hend ⟨a.N,a.I,a.L,F⟩ (cut_ask ha d4)
  ·rw [if_neg (by simp;simpa using hp)]
   exact hend a ha.ask
 ·exact hend b hb.1.ask
end
end Gv
