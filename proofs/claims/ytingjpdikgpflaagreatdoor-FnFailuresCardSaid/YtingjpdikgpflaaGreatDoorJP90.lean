/- Exploring that ends: the edges are those of all states. -/
import Derived.Test.YtingjpdikgpflaaGreatDoorJP80
set_option linter.all false
namespace Gv
open Go
section
variable {κ β:Type} [DecidableEq β] [BEq β] [LawfulBEq β] {key:κ->β}
theorem atK_pos (F:List κ) (q:κ):atK key F q=pos ((aJv key F q).map key) (key q):=by
 unfold atK aJv
 by_cases h:key q∈F.map key
 ·rw [if_pos h,if_pos h]
 ·rw [if_neg h,if_neg h,List.map_append,List.map_singleton,aOJ h,List.length_map]
theorem aMm {A B:List κ} (h:A <+:B):A.map key <+:B.map key:=by
 obtain ⟨C,rfl⟩:=h
 exact ⟨C.map key,by rw [List.map_append]⟩
theorem key_sub {A B:List κ} (h:A <+:B) {k:β} (hk:k∈A.map key):k∈B.map key:=by
 obtain ⟨C,hC⟩:=aMm (key:=key) h
 rw [←hC]
 exact List.mem_append_left _ hk
theorem aMR (i:Int):∀ (l:List (Int × κ)) (s:List κ × List Edge),(∀ x∈l,key x.2∈(aIp key i l s).1.map key)/\
  ∀ e,e∈(aIp key i l s).2<->e∈s.2\/∃ x∈l,e=⟨i,x.1,pos ((aIp key i l s).1.map key) (key x.2)⟩
 |[],s=>⟨by simp,fun e=>by simp [aOO]⟩
 |y::l,s=>by
  obtain ⟨h1,h2⟩:=aMR i l (aJL key i s y)
  have hp:=(aJW (key:=key) i l (aJL key i s y)).1
  have hy:key y.2∈(aJL key i s y).1.map key:=insK_mem s.1 y.2
  have hpos:pos ((aIp key i l (aJL key i s y)).1.map key) (key y.2)=atK key s.1 y.2:=by rw [aMk (aMm hp) hy,atK_pos];rfl
  refine ⟨fun x hx=>?_,fun e=>?_⟩
  ·rw [aJQ]
   rcases List.mem_cons.1 hx with rfl|hx
   ·exact key_sub hp hy
   ·exact h1 x hx
  ·rw [aJQ,h2]
   constructor
   ·rintro (he|⟨x,hx,rfl⟩)
    ·rcases List.mem_append.1 he with he|he
     ·exact .inl he
     ·rw [List.mem_singleton] at he
      exact .inr ⟨y,List.mem_cons_self,by rw [he,hpos]⟩
    ·exact .inr ⟨x,List.mem_cons_of_mem _ hx,rfl⟩
   ·rintro (he|⟨x,hx,rfl⟩)
    ·exact .inl (List.mem_append_left _ he)
    ·rcases List.mem_cons.1 hx with rfl|hx
     ·left
      rw [hpos]
      exact List.mem_append_right _ (List.mem_singleton.2 rfl)
     ·exact .inr ⟨x,hx,rfl⟩
theorem aLU (nx:κ->List (Int × κ)) (B:Nat):∀ (n i:Nat) (s:List κ × List Edge),(xpl key nx B n i s).1.length<=B->(xpl key nx B n i s).1.length < n+i->i<=s.1.length->
  (∀ j q,i<=j->(xpl key nx B n i s).1[j]?=some q->∀ x∈nx q,key x.2∈(xpl key nx B n i s).1.map key)/\
  ∀ e,e∈(xpl key nx B n i s).2<->e∈s.2\/∃ (j:Nat) (q:κ),i<=j/\(xpl key nx B n i s).1[j]?=some q/\∃ x∈nx q,e=⟨(j:Int),x.1,pos ((xpl key nx B n i s).1.map key) (key x.2)⟩
 |0,i,s,h1,h2,h3=>by
  have:(xpl key nx B 0 i s).1.length=s.1.length:=rfl
  omega
 |n+1,i,s,h1,h2,h3=>by
  have hd:xpl key nx B (n+1) i s=match s.1[i]? with
   |none=>s
   |some q=>if B < (aIp key (i:Int) (nx q) s).1.length then aIp key (i:Int) (nx q) s else xpl key nx B n (i+1) (aIp key (i:Int) (nx q) s):=rfl
  cases hq:s.1[i]? with
  |none=>
   rw [hq] at hd
   simp only at hd
   rw [hd]
   have hl:s.1.length<=i:=by simpa using hq
   refine ⟨fun j q hj hjq=>?_,fun e=>⟨.inl,?_⟩⟩
   ·have:=(List.getElem?_eq_some_iff.1 hjq).1;omega
   ·rintro (he|⟨j,q,hj,hjq,_⟩)
    ·exact he
    ·have:=(List.getElem?_eq_some_iff.1 hjq).1;omega
  |some q=>
   rw [hq] at hd
   simp only at hd
   by_cases hb:B < (aIp key (i:Int) (nx q) s).1.length
   ·rw [if_pos hb] at hd
    rw [hd] at h1
    omega
   ·rw [if_neg hb] at hd
    rw [hd] at h1 h2 ⊢
    have hil:i < s.1.length:=(List.getElem?_eq_some_iff.1 hq).1
    have hpre:=(aJW (key:=key) (i:Int) (nx q) s).1
    obtain ⟨g1,g2⟩:=aLU nx B n (i+1) (aIp key (i:Int) (nx q) s) h1 (by omega) (by have:=hpre.length_le;omega)
    have hpre2:=(aLC (key:=key) nx B n (i+1) (aIp key (i:Int) (nx q) s)).1
    obtain ⟨a1,a2⟩:=aMR (key:=key) (i:Int) (nx q) s
    have hat:∀ {r},(xpl key nx B n (i+1) (aIp key (i:Int) (nx q) s)).1[i]?=some r->r=q:=fun {r} hr=>by
     obtain ⟨C,hC⟩:=hpre.trans hpre2
     rw [←hC,List.getElem?_append_left hil,hq] at hr
     exact (Option.some.inj hr).symm
    have hi':(xpl key nx B n (i+1) (aIp key (i:Int) (nx q) s)).1[i]?=some q:=by
     obtain ⟨C,hC⟩:=hpre.trans hpre2
     rw [←hC,List.getElem?_append_left hil,hq]
    refine ⟨fun j r hj hjr x hx=>?_,fun e=>?_⟩
    ·rcases Nat.eq_or_lt_of_le hj with rfl|hj'
     ·have:=hat hjr
      subst this
      exact key_sub hpre2 (a1 x hx)
     ·exact g1 j r hj' hjr x hx
    ·rw [g2,a2]
     constructor
     ·rintro ((he|⟨x,hx,rfl⟩)|⟨j,r,hj,hjr,x,hx,rfl⟩)
      ·exact .inl he
      ·exact .inr ⟨i,q,Nat.le_refl _,hi',x,hx,by rw [aMk (aMm hpre2) (a1 x hx)]⟩
      ·exact .inr ⟨j,r,by omega,hjr,x,hx,rfl⟩
     ·rintro (he|⟨j,r,hj,hjr,x,hx,rfl⟩)
      ·exact .inl (.inl he)
      ·rcases Nat.eq_or_lt_of_le hj with rfl|hj'
       ·have:=hat hjr
        subst this
        exact .inl (.inr ⟨x,hx,by rw [aMk (aMm hpre2) (a1 x hx)]⟩)
       ·exact .inr ⟨j,r,hj',hjr,x,hx,rfl⟩
end
end Gv
namespace Gv
open Go
section
variable {a b:cI} {B:Int->Int->Bool} {F:(Int->Int->Bool)->Int->Int->Bool}
structure MonoT (a b:cI) (F:(Int->Int->Bool)->Int->Int->Bool):Prop where
 mono:∀ S T:Int->Int->Bool,(∀ x y,inT a x->inT b y->S x y=true->T x y=true)->∀ x y,inT a x->inT b y->F S x y=true->F T x y=true
end
end Gv
namespace Gv
open Go
def aLV (q p:List Int):Prop:=q.length=p.length/\∀ x y:Nat,x < p.length->y < p.length->q[x]?=q[y]?->p[x]?=p[y]?
theorem aOm (p:List Int) (n:Nat):(aJz p n).Nodup:=List.Nodup.sublist List.filter_sublist List.nodup_range
theorem heads1_le (p:List Int) (n:Nat):(aJz p n).length<=n:=by
 have:=List.length_filter_le (fun i=>decide (∀ k,k < i->p[k]?≠p[i]?)) (List.range n)
 rw [List.length_range] at this
 exact this
theorem aMS {q:List Int} {n:Nat}:∀ x,x < n->∃ z,z<=x/\z∈aJz q n/\q[z]?=q[x]?:=by
 intro x
 induction x using Nat.strongRecOn with
 |ind x ih=>
  intro hx
  by_cases h:∀ k,k < x->q[k]?≠q[x]?
  ·exact ⟨x,Nat.le_refl _,by unfold aJz;rw [List.mem_filter,List.mem_range,decide_eq_true_iff];exact ⟨hx,h⟩,rfl⟩
  ·obtain ⟨k,hk⟩:=Classical.not_forall.1 h
   obtain ⟨hk1,hk2⟩:=Classical.not_imp.1 hk
   obtain ⟨z,z1,z2,z3⟩:=ih k hk1 (by omega)
   exact ⟨z,by omega,z2,z3.trans (Classical.not_not.1 hk2)⟩
theorem aMe {p q:List Int} (hp:cn p=p) (hq:cn q=q) (hs:aLV q p):q=p\/(aJz p p.length).length < (aJz q p.length).length:=by
 by_cases h:∀ x y:Nat,x < p.length->y < p.length->p[x]?=p[y]?->q[x]?=q[y]?
 ·left
  rw [←hp,←hq]
  refine aOU ⟨hs.1,fun x y hx hy=>?_⟩
  rw [hs.1] at hx hy
  exact ⟨hs.2 x y hx hy,h x y hx hy⟩
 ·right
  have hsub:∀ i,i∈aJz p p.length->i∈aJz q p.length:=fun i hi=>by
   unfold aJz at hi ⊢
   rw [List.mem_filter,List.mem_range,decide_eq_true_iff] at hi ⊢
   exact ⟨hi.1,fun k hk e=>hi.2 k hk (hs.2 k i (by omega) hi.1 e)⟩
  have hex:∃ z,z∈aJz q p.length/\z∉aJz p p.length:=by
   apply Classical.byContradiction
   intro hno
   refine h fun x y hx hy e=>?_
   obtain ⟨a,a1,a2,a3⟩:=aMS (q:=q) x hx
   obtain ⟨b,b1,b2,b3⟩:=aMS (q:=q) y hy
   have ha:a∈aJz p p.length:=Classical.byContradiction fun h=>hno ⟨a,a2,h⟩
   have hb:b∈aJz p p.length:=Classical.byContradiction fun h=>hno ⟨b,b2,h⟩
   have hab:p[a]?=p[b]?:=((hs.2 a x (by omega) hx a3).trans e).trans (hs.2 b y (by omega) hy b3).symm
   unfold aJz at ha hb
   rw [List.mem_filter,decide_eq_true_iff] at ha hb
   have:a=b:=by
    rcases Nat.lt_trichotomy a b with h|h|h
    ·exact absurd hab (hb.2 a h)
    ·exact h
    ·exact absurd hab.symm (ha.2 b h)
   subst this
   exact a3.symm.trans b3
  obtain ⟨z,z1,z2⟩:=hex
  have:=List.Nodup.length_le_of_subset (l₁:=z::aJz p p.length) (l₂:=aJz q p.length) (List.nodup_cons.2 ⟨z2,aOm _ _⟩) (fun i hi=>by
   rcases List.mem_cons.1 hi with rfl|hi
   ·exact z1
   ·exact hsub i hi)
  rw [List.length_cons] at this
  omega
theorem aOZ (n:Nat):cn (List.replicate n (0:Int))=List.replicate n 0:=by
 refine List.ext_getElem? fun i=>?_
 by_cases hi:i < n
 ·rw [aLR (by simpa using hi),List.getElem_replicate,List.getElem?_replicate,if_pos hi]
  have hdd:∀ m,dd (List.replicate (m+1) (0:Int))=[0]:=by
   intro m
   induction m with
   |zero=>rfl
   |succ m ih=>rw [List.replicate_succ',aLD,ih];rfl
  obtain ⟨m,rfl⟩:∃ m,n=m+1:=⟨n - 1,by omega⟩
  rw [hdd];rfl
 ·rw [List.getElem?_eq_none (by rw [aKO,List.length_replicate];omega),List.getElem?_eq_none (by rw [List.length_replicate];omega)]
theorem cn_cn {κ:Type} [DecidableEq κ] [BEq κ] [LawfulBEq κ] (l:List κ):cn (cn l)=cn l:=aOU (cn_ker l)
theorem aMT {σ ρ:Type} {step:σ->Option (σ ⊕ ρ)} (n:Nat) (I:List Int->σ->Prop) (R:ρ->Prop)
  (h:∀ p s,p.length=n->cn p=p->I p s->(∃ r,step s=some (.inr r)/\R r)\/∃ q s',aLV q p/\cn q=q/\q≠p/\step s=some (.inl s')/\I q s'):
  ∀ (p:List Int) (s:σ),p.length=n->cn p=p->I p s->∃ r,loop step s=some r/\R r:=by
 have key:∀ (m:Nat) (p:List Int) (s:σ),p.length=n->cn p=p->I p s->n<=m+(aJz p n).length->∃ r,loop step s=some r/\R r:=by
  intro m
  induction m with
  |zero=>
   intro p s hl hc hI hm
   rcases h p s hl hc hI with ⟨r,h1,h2⟩|⟨q,s',hq,hqc,hne,h1,h2⟩
   ·exact ⟨r,aJV h1,h2⟩
   ·have h3:=(aMe hc hqc hq).resolve_left hne
    have h4:=heads1_le q n
    rw [hl] at h3
    omega
  |succ m ih=>
   intro p s hl hc hI hm
   rcases h p s hl hc hI with ⟨r,h1,h2⟩|⟨q,s',hq,hqc,hne,h1,h2⟩
   ·exact ⟨r,aJV h1,h2⟩
   ·have h3:=(aMe hc hqc hq).resolve_left hne
    rw [hl] at h3
    rw [aKn h1]
    exact ih q s' (hq.1.trans hl) hqc h2 (by omega)
 intro p s hl hc hI
 exact key n p s hl hc hI (by omega)
theorem aPa {κ:Type} [DecidableEq κ] [BEq κ] [LawfulBEq κ] {p:List Int} {keys:List κ} (hl:keys.length=p.length) (h:∀ x y:Nat,x < p.length->y < p.length->keys[x]?=keys[y]?->p[x]?=p[y]?):aLV (cn keys) p:=by
 refine ⟨by rw [aKO,hl],fun x y hx hy e=>h x y hx hy ?_⟩
 exact ((cn_ker keys).2 x y (by rw [aKO];omega) (by rw [aKO];omega)).1 e
end Gv
namespace Gv
open Go
def AftT (t:cI) (S:List Int) (s:aZ) (q:Int):Prop:=∃ e∈t.E,txt t e=s/\e.F∈S/\e.To=q
section
variable {t:cI}
theorem AftT.inn (hv:nB t) {S:List Int} {s:aZ} {q:Int} (h:AftT t S s q):0<=q/\q < t.N:=by
 obtain ⟨e,he,_,_,rfl⟩:=h
 exact (aIo hv he).2.1
theorem aQd (hv:nB t) {S:List Int} (hS:S.length < 1000000000) (s:aZ):∃ R,rX t S s=some R/\aJE R (AftT t S s):=by
 have h300:=hv.2.2.2.1
 have hl:((t.E.filter fun e=>txt t e == s&&S.any fun x=>e.F == x).map (·.To)).length<=300:=by
  rw [List.length_map];exact Nat.le_trans (List.length_filter_le _ _) h300
 refine ⟨aHy (srt iLt ((t.E.filter fun e=>txt t e == s&&S.any fun x=>e.F == x).map (·.To))),?_,aND.iff fun q=>?_⟩
 ·unfold rX
  rw [aJU (step:=fun x:List Int × Int=>aBz t S s x.1 x.2) t.E (fun e=>txt t e == s&&S.any fun x=>e.F == x) (·.To) id (fun j out x hj ho hx=>?_) (fun out=>by simp only [aBz,aGf];rfl),lJ]
  ·unfold pO
   simp only [id]
   rw [aKM (by omega),lJ,aMc _ (by unfold srt;rw [List.length_mergeSort];omega),lJ]
  ·obtain ⟨hj',rfl⟩:=aJi hx
   simp only [aBz,aBK hj,if_pos,hx,lJ,aKi (aIk hv (List.getElem_mem hj')),aKd S _ (show S.length < 4611686018427387904 by omega),pQ,pP,aAg hj (show t.E.length < 4611686018427387904 by omega)]
   rw [aGO (by simp [lim];omega),lJ]
   cases txt t t.E[j] == s<;>cases (S.any fun x=>t.E[j].F == x)<;>rfl
 ·rw [List.mem_map]
  constructor
  ·rintro ⟨e,he,rfl⟩
   rw [List.mem_filter,Bool.and_eq_true,List.any_eq_true] at he
   obtain ⟨h1,h2,x,hx,h3⟩:=he
   rw [beq_iff_eq] at h2 h3
   exact ⟨e,h1,h2,h3 ▸ hx,rfl⟩
  ·rintro ⟨e,h1,h2,h3,rfl⟩
   refine ⟨e,?_,rfl⟩
   rw [List.mem_filter,Bool.and_eq_true,List.any_eq_true,beq_iff_eq]
   exact ⟨h1,h2,_,h3,by simp⟩
theorem aPb (hv:nB t) {S:List Int} (hS:S.length < 1000000000) (s:aZ):∃ R,pA t S s=some R/\aJE R (Cl t (AftT t S s)):=by
 obtain ⟨R1,f1,f2⟩:=aQd hv hS s
 have hn:R1.Nodup:=f2.ord.imp fun h=>by omega
 obtain ⟨R,g1,g2⟩:=aKN hv hn fun q hq=>((f2.mem q).1 hq).inn hv
 exact ⟨R,by unfold pA;rw [f1,lJ,g1];rfl,g2.iff (Cl.iff f2.mem)⟩
def Wk (t:cI) (y:Int) (s:aZ) (w:Int):Prop:=if s=nI then Cl t (·∈[y]) w else Cl t (fun q=>∃ e∈t.E,txt t e=s/\Cl t (·∈[y]) e.F/\e.To=q) w
theorem Wk.inn (hv:nB t) {y:Int} (hy:inT t y) {s:aZ} {w:Int} (h:Wk t y s w):inT t w:=by
 unfold inT at hy ⊢
 unfold Wk at h
 split at h
 ·exact h.inn hv fun q hq=>by simp at hq;omega
 ·exact h.inn hv fun q hq=>by
   obtain ⟨e,he,_,_,rfl⟩:=hq
   exact (aIo hv he).2.1
def rdy (t:cI) (k:Int):List aZ:=aHy (srt uZ ((t.E.filter fun e=>e.F == k).map (txt t)))
theorem rdy_mem {k:Int} {s:aZ}:s∈rdy t k<->∃ e∈t.E,e.F=k/\txt t e=s:=by
 unfold rdy
 rw [aJK];unfold srt;rw [List.mem_mergeSort,List.mem_map]
 constructor
 ·rintro ⟨e,he,rfl⟩
  rw [List.mem_filter,beq_iff_eq] at he
  exact ⟨e,he.1,he.2,rfl⟩
 ·rintro ⟨e,h1,h2,rfl⟩
  exact ⟨e,by rw [List.mem_filter,beq_iff_eq];exact ⟨h1,h2⟩,rfl⟩
theorem rdy_len (k:Int):(rdy t k).length<=t.E.length:=by
 unfold rdy
 have h1:=aLf (srt uZ ((t.E.filter fun e=>e.F == k).map (txt t)))
 unfold srt at h1 ⊢
 rw [List.length_mergeSort,List.length_map] at h1
 exact Nat.le_trans h1 (List.length_filter_le _ _)
end
end Gv
namespace Gv
open Go
section
variable {t:cI}
theorem aLG (S:List Int) {x:Int × List Int}:∀ (n k:Nat),x∈aJN t S n k<->∃ j:Nat,k<=j/\j < k+n/\nxt t S (j:Int)≠[]/\x=((j:Int),nxt t S (j:Int))
 |0,k=>by
  simp only [aJN,List.not_mem_nil,false_iff]
  rintro ⟨j,h1,h2,_⟩
  omega
 |n+1,k=>by
  unfold aJN
  have ih:=aLG S (x:=x) n (k+1)
  split
  ·rename_i h0
   rw [ih]
   constructor
   ·rintro ⟨j,h1,h2,h3⟩;exact ⟨j,by omega,by omega,h3⟩
   ·rintro ⟨j,h1,h2,h3,h4⟩
    refine ⟨j,?_,by omega,h3,h4⟩
    rcases Nat.eq_or_lt_of_le h1 with rfl|h
    ·exact absurd h0 h3
    ·omega
  ·rename_i h0
   rw [List.mem_cons,ih]
   constructor
   ·rintro (rfl|⟨j,h1,h2,h3⟩)
    ·exact ⟨k,Nat.le_refl _,by omega,h0,rfl⟩
    ·exact ⟨j,by omega,by omega,h3⟩
   ·rintro ⟨j,h1,h2,h3,h4⟩
    rcases Nat.eq_or_lt_of_le h1 with rfl|h
    ·exact .inl h4
    ·exact .inr ⟨j,by omega,by omega,h3,h4⟩
noncomputable def aLr (t:cI) (S:List Int) (s:aZ):List Int:=(pA t S s).getD []
noncomputable def aft (t:cI) (tr:List aZ):List Int:=tr.foldl (aLr t) (aJF t)
theorem aPc (tr:List aZ) (s:aZ):aft t (tr++[s])=aLr t (aft t tr) s:=by unfold aft;rw [List.foldl_append];rfl
theorem aMn (hv:nB t) {S:List Int} (hS:aIx t S) (s:aZ):pA t S s=some (aLr t S s)/\aIx t (aLr t S s)/\aJE (aLr t S s) (Cl t (AftT t S s)):=by
 obtain ⟨R,h1,h2⟩:=aPb hv (S:=S) (Nat.lt_of_le_of_lt hS.len (by decide)) s
 have:aLr t S s=R:=by unfold aLr;rw [h1];rfl
 rw [this]
 exact ⟨h1,aIx.of hv h2 fun q hq=>hq.inn hv fun x hx=>hx.inn hv,h2⟩
theorem visT_at (hv:nB t) {S:List Int} (hS:aIx t S) {k:Nat} (hk:k < t.L.length):aLr t S t.L[k]=nxt t S (k:Int):=by
 obtain ⟨R,h1,h2,_⟩:=aMd hv (S:=S) (Nat.lt_of_le_of_lt hS.len (by decide)) hk
 unfold aLr nxt
 rw [h1,h2]
theorem visT_none (hv:nB t) {S:List Int} (hS:aIx t S) {s:aZ} (hs:s∉t.L):aLr t S s=[]:=by
 obtain ⟨_,_,h⟩:=aMn hv hS s
 refine List.eq_nil_iff_forall_not_mem.2 fun q hq=>?_
 have hc:=(h.mem q).1 hq
 clear hq
 induction hc with
 |base hx=>
  obtain ⟨e,he,ht,_⟩:=hx
  have hb:=aIo hv he
  refine hs (ht ▸ ?_)
  unfold txt
  rw [List.getD_eq_getElem?_getD,List.getElem?_eq_getElem (show e.B.toNat < t.L.length by omega)]
  exact List.getElem_mem _
 |step _ _ _ ih=>exact ih
theorem visT_nil (hv:nB t) (s:aZ):aLr t [] s=[]:=by
 obtain ⟨_,_,h⟩:=aMn hv (S:=[]) ⟨by simp,by simp⟩ s
 refine List.eq_nil_iff_forall_not_mem.2 fun q hq=>?_
 have hc:=(h.mem q).1 hq
 clear hq
 induction hc with
 |base hx=>
  obtain ⟨e,he,ht,hf,_⟩:=hx
  simp at hf
 |step _ _ _ ih=>exact ih
theorem aJG (hv:nB t):∀ tr:List aZ,aIx t (aft t tr):=fun tr=>by
 unfold aft
 have:∀ (tr:List aZ) (S:List Int),aIx t S->aIx t (tr.foldl (aLr t) S):=by
  intro tr
  induction tr with
  |nil=>intro S h;exact h
  |cons s tr ih=>intro S h;exact ih _ (aMn hv h s).2.1
 exact this tr _ (aLc hv).2.2
theorem fstS_ne (hv:nB t):aJF t≠[]:=by
 obtain ⟨R,_,h2,h3⟩:=aNF hv
 have:aJF t=R:=by unfold aJF;rw [h2];rfl
 rw [this]
 intro e
 have:=(h3.mem t.I).2 (Cl.base rfl)
 rw [e] at this
 simp at this
noncomputable def aJg (t:cI):cI:=⟨((aHs t).1.length:Int),0,t.L,(aHs t).2⟩
theorem aMU (hv:nB t) (hs:(aHs t).1.length<=40):∀ e,e∈(aHs t).2<->∃ (j:Nat) (S:List Int),(aHs t).1[j]?=some S/\∃ k:Nat,1<=k/\k < t.L.length/\nxt t S (k:Int)≠[]/\nxt t S (k:Int)∈(aHs t).1/\e=⟨(j:Int),(k:Int),pos (aHs t).1 (nxt t S (k:Int))⟩:=by
 have hl:=hv.2.2.1.1
 obtain ⟨g1,g2⟩:=aLU (key:=id) (aHZ t) 40 41 0 ([aJF t],[]) hs (by have:=hs;unfold aHs at this;omega) (Nat.zero_le _)
 intro e
 have h2:=g2 e
 rw [show xpl id (aHZ t) 40 41 0 ([aJF t],[])=aHs t from rfl] at g1 h2
 simp only [List.map_id,id] at g1 h2
 rw [h2]
 constructor
 ·rintro (h|⟨j,S,_,hj,x,hx,rfl⟩)
  ·simp at h
  ·have hin:=g1 j S (Nat.zero_le _) hj x hx
   unfold aHZ at hx
   obtain ⟨k,h3,h4,h5,rfl⟩:=(aLG S _ _).1 hx
   exact ⟨j,S,hj,k,h3,by omega,h5,hin,rfl⟩
 ·rintro ⟨j,S,hj,k,h3,h4,h5,h6,rfl⟩
  refine .inr ⟨j,S,Nat.zero_le _,hj,((k:Int),nxt t S (k:Int)),?_,rfl⟩
  unfold aHZ
  exact (aLG S _ _).2 ⟨k,h3,by omega,h5,rfl⟩
theorem dfin_next (hv:nB t) (hs:(aHs t).1.length<=40) {j:Nat} {S:List Int} (hj:(aHs t).1[j]?=some S) {k:Nat} (h1:1<=k) (h2:k < t.L.length) (h3:nxt t S (k:Int)≠[]):nxt t S (k:Int)∈(aHs t).1:=by
 obtain ⟨g1,_⟩:=aLU (key:=id) (aHZ t) 40 41 0 ([aJF t],[]) hs (by have:=hs;unfold aHs at this;omega) (Nat.zero_le _)
 rw [show xpl id (aHZ t) 40 41 0 ([aJF t],[])=aHs t from rfl] at g1
 simp only [List.map_id,id] at g1
 refine g1 j S (Nat.zero_le _) hj ((k:Int),nxt t S (k:Int)) ?_
 unfold aHZ
 exact (aLG S _ _).2 ⟨k,h1,by omega,h3,rfl⟩
theorem dfin_good (hv:nB t) {j:Nat} {S:List Int} (hj:(aHs t).1[j]?=some S):aIx t S:=(aLd hv).2.1 S (List.mem_of_getElem? hj)
theorem dfin_zero (hv:nB t) (hs:Small (aHs t)):(aHs t).1[0]?=some (aJF t):=by
 obtain ⟨C,hC⟩:=(aLC (key:=id) (aHZ t) 40 41 0 ([aJF t],[])).1
 rw [show xpl id (aHZ t) 40 41 0 ([aJF t],[])=aHs t from rfl] at hC
 rw [←hC]
 rfl
theorem aLH {γ:Type} {p:List γ->Prop} (nil:p []) (snoc:∀ l x,p l->p (l++[x])):∀ l,p l:=by
 have:∀ l:List γ,p l.reverse:=by
  intro l
  induction l with
  |nil=>exact nil
  |cons x l ih=>rw [List.reverse_cons];exact snoc _ _ ih
 intro l
 have:=this l.reverse
 rwa [List.reverse_reverse] at this
theorem det_go (hv:nB t) (hs:Small (aHs t)) {k:Nat} {S:List Int} (hk:(aHs t).1[k]?=some S) {s:aZ} (hs':s≠nI):
  (aLr t S s=[]/\goF (aJg t) (k:Int) s=-1)\/∃ j:Nat,(aHs t).1[j]?=some (aLr t S s)/\aLr t S s≠[]/\goF (aJg t) (k:Int) s=(j:Int):=by
 have hg:=dfin_good hv hk
 have hnd:(aHs t).1.Nodup:=by have:=(aLd hv).1;rwa [List.map_id] at this
 unfold goF
 cases hf:(aJg t).E.find? (hit (aJg t) (k:Int) s) with
 |some e=>
  right
  have he:=List.mem_of_find?_eq_some hf
  have hh:=List.find?_some hf
  obtain ⟨j,S',hj,n,h1,h2,h3,h4,rfl⟩:=(aMU hv hs.1 e).1 he
  unfold hit at hh
  rw [Bool.and_eq_true,beq_iff_eq,beq_iff_eq] at hh
  obtain ⟨e1,e2⟩:=hh
  have e1:(j:Int)=(k:Int):=e1
  obtain rfl:j=k:=by omega
  rw [hk] at hj
  cases hj
  have e2:t.L.getD n []=s:=e2
  rw [List.getD_eq_getElem?_getD,List.getElem?_eq_getElem h2] at e2
  have e2:t.L[n]=s:=e2
  rw [←e2,visT_at hv hg h2]
  obtain ⟨i,hi,hp,hq⟩:=aJs h4
  exact ⟨i,by rw [List.getElem?_eq_getElem hi,hq],h3,hp⟩
 |none=>
  left
  refine ⟨?_,rfl⟩
  by_cases hm:s∈t.L
  ·obtain ⟨n,hn,rfl⟩:=List.mem_iff_getElem.1 hm
   rw [visT_at hv hg hn]
   have h1:1<=n:=by
    rcases Nat.eq_zero_or_pos n with rfl|h
    ·exact absurd (hv.2.2.1.2.2.1 hn) hs'
    ·exact h
   by_cases h0:nxt t S (n:Int)=[]
   ·exact h0
   ·exfalso
    have:=List.find?_eq_none.1 hf ⟨(k:Int),(n:Int),pos (aHs t).1 (nxt t S (n:Int))⟩ ((aMU hv hs.1 _).2 ⟨k,S,hk,n,h1,hn,h0,dfin_next hv hs.1 hk h1 hn h0,rfl⟩)
    refine this ?_
    unfold hit
    rw [Bool.and_eq_true,beq_iff_eq,beq_iff_eq]
    refine ⟨rfl,?_⟩
    show t.L.getD n []=t.L[n]
    rw [List.getD_eq_getElem?_getD,List.getElem?_eq_getElem hn];rfl
  ·exact visT_none hv hg hm
def aJa (d:cI) (tr:List aZ):Int:=tr.foldl (goF d) 0
theorem aJC (d:cI) (tr:List aZ) (s:aZ):aJa d (tr++[s])=goF d (aJa d tr) s:=by unfold aJa;rw [List.foldl_append];rfl
theorem aOn (hv:nB t) (hs:Small (aHs t)) {tr:List aZ} (ht:∀ s∈tr,s≠nI):(aft t tr=[]/\aJa (aJg t) tr=-1)\/∃ j:Nat,(aHs t).1[j]?=some (aft t tr)/\aft t tr≠[]/\aJa (aJg t) tr=(j:Int):=by
 induction tr using aLH with
 |nil=>exact .inr ⟨0,dfin_zero hv hs,fstS_ne hv,rfl⟩
 |snoc tr s ih=>
  have hs':s≠nI:=ht s (by simp)
  rw [aPc,aJC]
  rcases ih fun x hx=>ht x (by simp [hx]) with ⟨h1,h2⟩|⟨j,h1,h2,h3⟩
  ·left
   rw [h1,h2]
   exact ⟨visT_nil hv s,aOb (aLE hv hs).1 (by decide) s⟩
  ·rw [h3]
   exact det_go hv hs h1 hs'
theorem run_neg (hv:nB t) (hs:Small (aHs t)) {tr:List aZ} (ht:∀ s∈tr,s≠nI):aJa (aJg t) tr < 0<->aft t tr=[]:=by
 rcases aOn hv hs ht with ⟨h1,h2⟩|⟨j,h1,h2,h3⟩
 ·simp [h1,h2]
 ·rw [h3];constructor
  ·intro h;omega
  ·intro h;exact absurd h h2
end
end Gv
namespace Gv
open Go
section
variable (a b:cI) (M:List aZ)
def aJA (e:bR):List bR:=M.map fun s=>⟨goF a e.a s,goF b e.b s,e.trace++[s]⟩
def bN (p q:Int):Prop:=p < 0/\q < 0
instance (p q:Int):Decidable (bN p q):=inferInstanceAs (Decidable (_/\_))
structure Stp (fd:Int->Int->Bool) (step:List ((Int × Int) × Bool) × List bR->Option ((List ((Int × Int) × Bool) × List bR) ⊕ (Unit ⊕ (List aZ × Bool)))):Prop where
 nil:∀ l,step (mtt l,[])=some (.inr (.inl ()))
 skip:∀ l e r,r.length<=1000000->e.trace.length<=1000000->bN e.a e.b\/(e.a,e.b)∈l->step (mtt l,e::r)=some (.inl (mtt l,r))
 hit:∀ l e r,r.length<=1000000->e.trace.length<=1000000->¬ bN e.a e.b->(e.a,e.b)∉l->fd e.a e.b=true->(-1<=e.a/\e.a < a.N)/\(-1<=e.b/\e.b < b.N)->step (mtt l,e::r)=some (.inr (.inr (e.trace,true)))
 more:∀ l e r,r.length<=1000000->e.trace.length<=1000000->¬ bN e.a e.b->(e.a,e.b)∉l->fd e.a e.b=false->(-1<=e.a/\e.a < a.N)/\(-1<=e.b/\e.b < b.N)->step (mtt l,e::r)=some (.inl (mtt (l++[(e.a,e.b)]),r++aJA a b M e))
def OvM (tr:List aZ):Prop:=∀ s∈tr,s∈M
def FtRes (fd:Int->Int->Bool) (r:Unit ⊕ (List aZ × Bool)):Prop:=
 match r with
 |.inl _=>∀ tr,OvM M tr->bN (aJa a tr) (aJa b tr)\/fd (aJa a tr) (aJa b tr)=false
 |.inr (tr,v)=>v=true/\tr.length<=2000/\OvM M tr/\¬ bN (aJa a tr) (aJa b tr)/\fd (aJa a tr) (aJa b tr)=true/\∀ tr' s r,tr=tr'++s::r->¬ bN (aJa a tr') (aJa b tr')/\fd (aJa a tr') (aJa b tr')=false
structure FtI (fd:Int->Int->Bool) (l:List (Int × Int)) (todo:List bR):Prop where
 nd:l.Nodup
 rng:∀ p∈l,(-1<=p.1/\p.1<=39)/\-1<=p.2/\p.2<=39
 ok:∀ p∈l,¬ bN p.1 p.2/\fd p.1 p.2=false
 ent:∀ e∈todo,OvM M e.trace/\e.a=aJa a e.trace/\e.b=aJa b e.trace/\e.trace.length<=l.length/\∀ tr' s r,e.trace=tr'++s::r->¬ bN (aJa a tr') (aJa b tr')/\fd (aJa a tr') (aJa b tr')=false
 cls:∀ p∈l,∀ s∈M,bN (goF a p.1 s) (goF b p.2 s)\/(goF a p.1 s,goF b p.2 s)∈l\/∃ e∈todo,e.a=goF a p.1 s/\e.b=goF b p.2 s
 ini:(0,0)∈l\/∃ e∈todo,e.a=0/\e.b=0
 len:todo.length<=1+30 * l.length
end
section
variable {a b:cI} {M:List aZ} {fd:Int->Int->Bool}
theorem FtI.small {l:List (Int × Int)} {todo:List bR} (h:FtI a b M fd l todo):l.length<=1681:=by
 have:=List.Nodup.length_le_of_subset (l₂:=(List.range 1681).map fun (i:Nat)=>(((i / 41:Nat):Int) - 1,((i % 41:Nat):Int) - 1)) h.nd (fun q hq=>by
  have hr:=h.rng q hq
  rw [List.mem_map]
  refine ⟨(q.1+1).toNat * 41+(q.2+1).toNat,by rw [List.mem_range];omega,?_⟩
  have e1:((q.1+1).toNat * 41+(q.2+1).toNat) / 41=(q.1+1).toNat:=by omega
  have e2:((q.1+1).toNat * 41+(q.2+1).toNat) % 41=(q.2+1).toNat:=by omega
  rw [e1,e2]
  refine Prod.ext ?_ ?_<;>simp only<;>omega)
 rw [List.length_map,List.length_range] at this
 exact this
theorem aPd {d:cI} (hd:nB d) (h0:d.N<=40) (tr:List aZ):-1<=aJa d tr/\aJa d tr<=39:=by
 induction tr using aLH with
 |nil=>exact ⟨by show (-1:Int)<=0;decide,by show (0:Int)<=39;decide⟩
 |snoc tr s _=>rw [aJC];have:=aOc hd (aJa d tr) s;omega
theorem runD_st {d:cI} (hd:nB d) (tr:List aZ):-1<=aJa d tr/\aJa d tr < d.N:=by
 have:=hd.1
 induction tr using aLH with
 |nil=>exact ⟨by show (-1:Int)<=0;decide,by show (0:Int) < _;omega⟩
 |snoc tr s _=>rw [aJC];have:=aOc hd (aJa d tr) s;omega
theorem aPe {d:cI} (hd:nB d) {tr:List aZ} (h:aJa d tr < 0) (s:aZ):aJa d (tr++[s]) < 0:=by
 rw [aJC,aOb hd h];decide
theorem aQe {step:_} (h:Stp a b M fd step) (ha:nB a) (hb:nB b) (hM:M.length<=30):∃ r,loop step (mtt [],[⟨0,0,[]⟩])=some r/\FtRes a b M fd r:=by
 have a40:=ha.1
 have b40:=hb.1
 refine aJt (fun s=>∃ l todo,s=(mtt l,todo)/\FtI a b M fd l todo) (fun s=>31 * (1681 - s.1.length)+s.2.length) (FtRes a b M fd) (fun s hs=>?_) ⟨[],[⟨0,0,[]⟩],rfl,⟨by simp,by simp,by simp,?_,by simp,.inr ⟨_,List.mem_singleton.2 rfl,rfl,rfl⟩,by simp⟩⟩
 ·obtain ⟨l,todo,rfl,hI⟩:=hs
  have hl:=hI.small
  cases todo with
  |nil=>
   right
   refine ⟨_,h.nil l,fun tr htr=>?_⟩
   have:bN (aJa a tr) (aJa b tr)\/(aJa a tr,aJa b tr)∈l:=by
    induction tr using aLH with
    |nil=>
     rcases hI.ini with h0|⟨e,he,_⟩
     ·exact .inr h0
     ·simp at he
    |snoc tr s ih=>
     rcases ih (fun x hx=>htr x (by simp [hx])) with h1|h1
     ·exact .inl ⟨aPe ha h1.1 s,aPe hb h1.2 s⟩
     ·rw [aJC,aJC]
      rcases hI.cls _ h1 s (htr s (by simp)) with h2|h2|⟨e,he,_⟩
      ·exact .inl h2
      ·exact .inr h2
      ·simp at he
   rcases this with h1|h1
   ·exact .inl h1
   ·exact .inr (hI.ok _ h1).2
  |cons e r=>
   have hlen:=hI.len
   simp only [List.length_cons] at hlen
   obtain ⟨e1,e2,e3,e4,e5⟩:=hI.ent e List.mem_cons_self
   have hr:r.length<=1000000:=by omega
   have ht:e.trace.length<=1000000:=by omega
   by_cases hsk:bN e.a e.b\/(e.a,e.b)∈l
   ·left
    refine ⟨(mtt l,r),h.skip l e r hr ht hsk,⟨l,r,rfl,hI.nd,hI.rng,hI.ok,fun x hx=>hI.ent x (List.mem_cons_of_mem _ hx),fun p hp s hs=>?_,?_,by omega⟩,by simp only [List.length_cons];omega⟩
    ·rcases hI.cls p hp s hs with g|g|⟨x,hx,g1,g2⟩
     ·exact .inl g
     ·exact .inr (.inl g)
     ·rcases List.mem_cons.1 hx with rfl|hx
      ·rw [g1,g2] at hsk
       rcases hsk with g|g
       ·exact .inl g
       ·exact .inr (.inl g)
      ·exact .inr (.inr ⟨x,hx,g1,g2⟩)
    ·rcases hI.ini with g|⟨x,hx,g1,g2⟩
     ·exact .inl g
     ·rcases List.mem_cons.1 hx with rfl|hx
      ·rw [g1,g2] at hsk
       rcases hsk with g|g
       ·exact absurd g.1 (by decide)
       ·exact .inl g
      ·exact .inr ⟨x,hx,g1,g2⟩
   ·have hn:¬ bN e.a e.b:=fun g=>hsk (.inl g)
    have hnl:(e.a,e.b)∉l:=fun g=>hsk (.inr g)
    have hin:(-1<=e.a/\e.a < a.N)/\(-1<=e.b/\e.b < b.N):=by rw [e2,e3];exact ⟨runD_st ha _,runD_st hb _⟩
    cases hfd:fd e.a e.b with
    |true=>
     right
     refine ⟨_,h.hit l e r hr ht hn hnl hfd hin,rfl,by omega,e1,?_,?_,e5⟩
     ·rw [←e2,←e3];exact hn
     ·rw [←e2,←e3];exact hfd
    |false=>
     left
     have hra:=aPd ha (by omega) e.trace
     have hrb:=aPd hb (by omega) e.trace
     rw [←e2] at hra
     rw [←e3] at hrb
     have hnew:FtI a b M fd (l++[(e.a,e.b)]) (r++aJA a b M e):=by
      refine ⟨List.nodup_append.2 ⟨hI.nd,by simp,fun x hx y hy=>?_⟩,fun p hp=>?_,fun p hp=>?_,fun x hx=>?_,fun p hp s hs=>?_,?_,?_⟩
      ·rw [List.mem_singleton] at hy
       subst hy
       exact fun g=>hnl (g ▸ hx)
      ·rcases List.mem_append.1 hp with hp|hp
       ·exact hI.rng p hp
       ·rw [List.mem_singleton] at hp
        subst hp
        exact ⟨hra,hrb⟩
      ·rcases List.mem_append.1 hp with hp|hp
       ·exact hI.ok p hp
       ·rw [List.mem_singleton] at hp
        subst hp
        exact ⟨hn,hfd⟩
      ·rcases List.mem_append.1 hx with hx|hx
       ·obtain ⟨g1,g2,g3,g4,g5⟩:=hI.ent x (List.mem_cons_of_mem _ hx)
        exact ⟨g1,g2,g3,by rw [List.length_append];omega,g5⟩
       ·unfold aJA at hx
        obtain ⟨s,hs,rfl⟩:=List.mem_map.1 hx
        refine ⟨fun y hy=>?_,?_,?_,?_,fun tr' s' r' hx'=>?_⟩
        ·rcases List.mem_append.1 hy with hy|hy
         ·exact e1 y hy
         ·rw [List.mem_singleton] at hy
          exact hy ▸ hs
        ·show goF a e.a s=aJa a (e.trace++[s])
         rw [aJC,e2]
        ·show goF b e.b s=aJa b (e.trace++[s])
         rw [aJC,e3]
        ·show (e.trace++[s]).length<=_
         simp only [List.length_append,List.length_singleton];omega
        ·have hx':e.trace++[s]=tr'++s'::r':=hx'
         rcases List.eq_nil_or_concat r' with rfl|⟨r',z,rfl⟩
         ·obtain ⟨rfl,_⟩:=List.append_inj' hx' rfl
          rw [←e2,←e3]
          exact ⟨hn,hfd⟩
         ·have hx2:e.trace++[s]=(tr'++s'::r')++[z]:=by rw [hx'];simp
          obtain ⟨h1,_⟩:=List.append_inj' hx2 rfl
          exact e5 tr' s' r' h1
      ·rcases List.mem_append.1 hp with hp|hp
       ·rcases hI.cls p hp s hs with g|g|⟨x,hx,g1,g2⟩
        ·exact .inl g
        ·exact .inr (.inl (List.mem_append_left _ g))
        ·rcases List.mem_cons.1 hx with rfl|hx
         ·refine .inr (.inl (List.mem_append_right _ (List.mem_singleton.2 ?_)))
          rw [g1,g2]
         ·exact .inr (.inr ⟨x,List.mem_append_left _ hx,g1,g2⟩)
       ·rw [List.mem_singleton] at hp
        subst hp
        exact .inr (.inr ⟨⟨goF a e.a s,goF b e.b s,e.trace++[s]⟩,List.mem_append_right _ (List.mem_map.2 ⟨s,hs,rfl⟩),rfl,rfl⟩)
      ·rcases hI.ini with g|⟨x,hx,g1,g2⟩
       ·exact .inl (List.mem_append_left _ g)
       ·rcases List.mem_cons.1 hx with rfl|hx
        ·refine .inl (List.mem_append_right _ (List.mem_singleton.2 ?_))
         rw [g1,g2]
        ·exact .inr ⟨x,List.mem_append_left _ hx,g1,g2⟩
      ·unfold aJA
       simp only [List.length_append,List.length_map,List.length_singleton];omega
     have hl2:=hnew.small
     refine ⟨(mtt (l++[(e.a,e.b)]),r++aJA a b M e),h.more l e r hr ht hn hnl hfd hin,⟨_,_,rfl,hnew⟩,?_⟩
     simp only [mtt_len,List.length_append,List.length_singleton,List.length_cons] at hl2 ⊢
     unfold aJA
     rw [List.length_map]
     omega
 ·intro e he
  rw [List.mem_singleton] at he
  subst he
  exact ⟨fun s hs=>(by simp at hs),rfl,rfl,Nat.le_refl _,fun tr' s r h=>by simp at h⟩
end
end Gv
namespace Gv
open Go
section
variable {a b:cI} {M:List aZ}
theorem aPf {γ:Type} (x:γ) (l:List γ):yK (x::l) 1 ((x::l).length:Int)=some l:=by
 unfold yK
 rw [if_pos ⟨by decide,by simp;omega,by simp⟩]
 simp
theorem aLW {l:List aZ} (h:l.length<=2000000):eL l=some l:=by
 unfold eL
 rw [aGO (by simp [lim];omega),lJ,List.nil_append]
theorem ft_push (ha:aKs a) (hb:aKs b) (hM:M.length<=30) {e:bR} {r:List bR} (hr:r.length<=1000000) (ht:e.trace.length<=1000000):
  loop (fun s:List bR × Int=>aBA a b M e s.1 s.2) (r,0)=some (r++aJA a b M e):=by
 obtain ⟨x,h1,h2⟩:=aIQ (step:=fun s:List bR × Int=>aBA a b M e s.1 s.2) M.length (fun k (q:List bR)=>(q,(k:Int))) (fun k q=>q=r++aJA a b (M.take k) e) (fun q=>q=r++aJA a b M e) (fun k q hk hI=>by
  subst hI
  refine ⟨r++aJA a b (M.take (k+1)) e,?_,rfl⟩
  show aBA a b M e (r++aJA a b (M.take k) e) (k:Int)=_
  unfold aBA vM
  have hl:(aJA a b (M.take k) e).length=k:=by unfold aJA;rw [List.length_map,List.length_take];omega
  rw [if_pos (aBK hk),aAM hk,lJ,step_eq ha.1 ha.2,lJ,step_eq hb.1 hb.2,lJ,aLW (by omega),lJ,aGO (by simp [lim];omega),lJ,aGO (by simp only [List.length_append,List.length_singleton,hl,lim];omega),lJ,aAg hk (by omega)]
  unfold aJA
  rw [List.take_succ_eq_append_getElem hk,List.map_append,List.map_singleton,List.append_assoc]) (fun q hI=>by
  subst hI
  refine ⟨r++aJA a b (M.take M.length) e,?_,by rw [List.take_length]⟩
  show aBA a b M e (r++aJA a b (M.take M.length) e) (M.length:Int)=_
  unfold aBA
  rw [if_neg (by simp)]) M.length 0 r (by omega) (by simp [aJA])
 subst h2
 exact h1
def aMV:Unit ⊕ (List aZ × Bool)->List aZ × Bool
 |.inl _=>([],false)
 |.inr x=>x
theorem aMW (ha:nB a) (hb:nB b):∃ M,Jn a b M/\(ob (fQ [a.L,b.L]) fun r35=>ob (aHO 1 0 r35 []) fun r47=>yK r47.L 1 (r47.L.length:Int))=some M:=by
 obtain ⟨M,_,hJ,_⟩:=jn_of ha hb
 have h1:=ha.2.2.1.2.1
 have h2:=hb.2.2.1.2.1
 refine ⟨M,hJ,?_⟩
 rw [aQa _ _ (by omega),lJ,lts_gen (M:=M) (Eo:=[]) hJ.str hJ.mem (by rw [List.length_append];omega) (by simp) (by simp) (by unfold SE;simp) (by simp) (by have:=hJ.len;omega),lJ]
 exact aPf nI M
end
end Gv
namespace Gv
open Go
def VisL (s:aZ):Prop:=aJo s=true/\s≠nI/\s.length<=999999999
section
variable {t:cI}
theorem aMX (hv:nB t) (hf:aBo 999999999 t) {s:aZ} (hs:s∈t.L.tail):VisL s:=by
 have hl:=hv.2.2.1
 obtain ⟨k,hk,rfl⟩:=List.mem_iff_getElem.1 hs
 rw [List.length_tail] at hk
 have h:=hl.2.2.2 (k+1) (by omega) (by omega)
 rw [List.getElem_tail]
 exact ⟨h.1,h.2.1,hf.2.1 _ (List.getElem_mem _)⟩
theorem aKY (hv:nB t) {tr:List aZ} (hl:tr.length<=1000000000):nN t tr=some (aft t tr):=by
 unfold nN
 rw [(aLc hv).2.1,lJ]
 obtain ⟨r,h1,h2⟩:=aIQ (step:=fun s:List Int × Int=>aCq t tr s.1 s.2) tr.length (fun k (q:List Int)=>(q,(k:Int))) (fun k q=>q=aft t (tr.take k)) (fun q=>q=aft t tr) (fun k q hk hI=>by
  subst hI
  refine ⟨aft t (tr.take (k+1)),?_,rfl⟩
  show aCq t tr (aft t (tr.take k)) (k:Int)=_
  unfold aCq
  rw [if_pos (aBK hk),aAM hk,lJ,(aMn hv (aJG hv _) _).1,lJ,aAg hk (by omega),List.take_succ_eq_append_getElem hk,aPc]) (fun q hI=>by
  subst hI
  refine ⟨aft t (tr.take tr.length),?_,by rw [List.take_length]⟩
  show aCq t tr (aft t (tr.take tr.length)) (tr.length:Int)=_
  unfold aCq
  rw [if_neg (by simp)]) tr.length 0 (aJF t) (by omega) rfl
 subst h2
 have h1':loop (fun s:List Int × Int=>aCq t tr s.1 s.2) (aJF t,0)=some (aft t tr):=h1
 rw [h1',lJ];rfl
theorem aNr (hv:nB t) (hf:aBo 999999999 t) {tr:List aZ} (hl:tr.length<=900000000) (ht:∀ s∈tr,VisL s):aBk t tr=some (if aft t tr=[] then ([],3) else (aft t tr,0)):=by
 unfold aBk
 rw [aJx t hf,aKq hv,lJ,if_neg (by simp),aLj tr (by omega) (fun s hs=>by have:=(ht s hs).2.2;omega),lJ]
 have:(tr.all fun s=>aJo s&&!(s == nI))=true:=by
  rw [List.all_eq_true]
  intro s hs
  have:=ht s hs
  rw [this.1,Bool.true_and,Bool.not_eq_true',beq_eq_false_iff_ne]
  exact this.2.1
 rw [this,if_neg (by simp),aKY hv (by omega),lJ]
 by_cases h:aft t tr=[]
 ·rw [if_pos (by simp [h]),if_pos h]
 ·rw [if_neg (by simp [h]),if_neg h]
theorem out_eqI {d:cI} (hd:nB d) (k:Int):aCX d k=some (aJY d k):=by
 have hal:=hd.2.2.2.1
 unfold aCX
 rw [aJU (step:=fun s:List Edge × Int=>aEW d k s.1 s.2) d.E (fun e=>e.F == k) id id (fun j out x hk ho hx=>?_) (fun out=>by simp only [aEW,aGf];rfl),lJ]
 ·simp [xB,aJY]
 ·simp only [aEW,aBK hk,if_pos,hx,lJ,xC,aAg hk (show d.E.length < 4611686018427387904 by omega)]
  rw [aGO (by simp [lim];omega),lJ]
  cases x.F == k<;>rfl
theorem go_edgeD {d:cI} (hd:aKs d) {e:Edge} (he:e∈d.E):goF d e.F (txt d e)=e.To:=by
 have h:=hit_one hd.1 hd.2 e.F (txt d e)
 have hm:e∈d.E.filter (hit d e.F (txt d e)):=List.mem_filter.2 ⟨he,by unfold hit;simp⟩
 unfold goF
 rw [h] at hm
 cases hf:d.E.find? (hit d e.F (txt d e)) with
 |none=>rw [hf] at hm;simp at hm
 |some x=>
  rw [hf] at hm
  simp at hm
  rw [hm]
def kid (d:cI) (n:Nat) (e:bR):List bR:=if e.trace.length=n then [] else (aJY d e.a).map fun x=>⟨x.To,0,e.trace++[txt d x]⟩
structure EntP (d:cI) (n:Nat) (e:bR):Prop where
 len:e.trace.length<=n
 lab:∀ s∈e.trace,s∈d.L.tail
 run:e.a=aJa d e.trace
 pos:0<=e.a
theorem kid_ok {d:cI} (hd:aKs d) {n:Nat} {e x:bR} (he:EntP d n e) (hx:x∈kid d n e):EntP d n x:=by
 unfold kid at hx
 split at hx
 ·simp at hx
 ·rename_i hn
  obtain ⟨y,hy,rfl⟩:=List.mem_map.1 hx
  unfold aJY at hy
  obtain ⟨hy1,hy2⟩:=List.mem_filter.1 hy
  rw [beq_iff_eq] at hy2
  have hb:=aIo hd.1 hy1
  obtain ⟨k,hk,hke⟩:=List.mem_iff_getElem.1 hy1
  have hs:=(hd.2 k hk).1
  rw [hke] at hs
  have hlen:=he.len
  refine ⟨by simp only [List.length_append,List.length_singleton];omega,fun s h=>?_,?_,hb.2.1.1⟩
  ·rcases List.mem_append.1 h with h|h
   ·exact he.lab s h
   ·rw [List.mem_singleton] at h
    subst h
    unfold txt
    have hlt:y.B.toNat < d.L.length:=by omega
    rw [List.getD_eq_getElem?_getD,List.getElem?_eq_getElem hlt]
    rw [List.mem_iff_getElem]
    refine ⟨y.B.toNat - 1,by rw [List.length_tail];omega,?_⟩
    rw [List.getElem_tail]
    show d.L[y.B.toNat - 1+1]=d.L[y.B.toNat]
    congr 1
    omega
  ·show y.To=aJa d (e.trace++[txt d y])
   rw [aJC,←he.run,←hy2,go_edgeD hd hy1]
theorem tr_push {d:cI} (hd:aKs d) {c:Int} {n:Nat} (hn:n<=1000) {e:bR} (he:EntP d n e) {r:List bR} (hr:r.length<=1000000):
  loop (fun s:List bR × Int=>aDG (d,c) e (aJY d e.a) s.1 s.2) (r,0)=some (r++(aJY d e.a).map fun x=>⟨x.To,0,e.trace++[txt d x]⟩):=by
 have h3:=hd.1.2.2.2.1
 have ol:(aJY d e.a).length<=300:=Nat.le_trans (List.length_filter_le _ _) h3
 have hlen:=he.len
 obtain ⟨x,h1,h2⟩:=aIQ (step:=fun s:List bR × Int=>aDG (d,c) e (aJY d e.a) s.1 s.2) (aJY d e.a).length (fun k (q:List bR)=>(q,(k:Int))) (fun k q=>q=r++((aJY d e.a).take k).map fun x=>(⟨x.To,0,e.trace++[txt d x]⟩:bR)) (fun q=>q=r++(aJY d e.a).map fun x=>(⟨x.To,0,e.trace++[txt d x]⟩:bR)) (fun k q hk hI=>by
  subst hI
  refine ⟨_,?_,rfl⟩
  show aDG (d,c) e (aJY d e.a) (r++((aJY d e.a).take k).map fun x=>(⟨x.To,0,e.trace++[txt d x]⟩:bR)) (k:Int)=some (.inl (r++((aJY d e.a).take (k+1)).map fun x=>(⟨x.To,0,e.trace++[txt d x]⟩:bR),((k+1:Nat):Int)))
  unfold aDG aAq
  have hm:(aJY d e.a)[k]∈d.E:=(List.mem_filter.1 (List.getElem_mem hk)).1
  have hl:(((aJY d e.a).take k).map fun x=>(⟨x.To,0,e.trace++[txt d x]⟩:bR)).length=k:=by rw [List.length_map,List.length_take];omega
  rw [if_pos (aBK hk),aAM hk,lJ]
  show (ob (ix d.L (aJY d e.a)[k].B) fun e332=>_)=_
  rw [aKi (aIk hd.1 hm),lJ,aLW (by omega),lJ,aGO (by simp [lim];omega),lJ,aGO (by simp only [List.length_append,List.length_singleton,hl,lim];omega),lJ,aAg hk (by omega),List.take_succ_eq_append_getElem hk,List.map_append,List.map_singleton,List.append_assoc]) (fun q hI=>by
  subst hI
  refine ⟨r++((aJY d e.a).take (aJY d e.a).length).map fun x=>⟨x.To,0,e.trace++[txt d x]⟩,?_,by rw [List.take_length]⟩
  show aDG (d,c) e (aJY d e.a) _ ((aJY d e.a).length:Int)=some (.inr (r++((aJY d e.a).take (aJY d e.a).length).map fun x=>(⟨x.To,0,e.trace++[txt d x]⟩:bR)))
  unfold aDG
  rw [if_neg (by simp)]) (aJY d e.a).length 0 r (by omega) (by simp)
 subst h2
 exact h1
theorem tr_all {d:cI} (hd:aKs d) (c:Int) {n:Nat} (hn:n<=1000):∃ all,loop (fun s:List bR × Int=>aDH (n:Int) (d,c) s.1 s.2) ([⟨0,0,[]⟩],0)=some all/\1<=all.length/\all.length<=1000/\(∀ e∈all,EntP d n e)/\(all.length<=200->all=⟨0,0,[]⟩::all.flatMap (kid d n)):=by
 have h3:=hd.1.2.2.2.1
 refine aJt (step:=fun s:List bR × Int=>aDH (n:Int) (d,c) s.1 s.2) (fun s=>∃ i:Nat,s.2=(i:Int)/\i<=s.1.length/\1<=s.1.length/\s.1.length<=1000/\i<=201/\(∀ e∈s.1,EntP d n e)/\s.1=⟨0,0,[]⟩::(s.1.take i).flatMap (kid d n)) (fun s=>202 - s.2.toNat)
  (fun all=>1<=all.length/\all.length<=1000/\(∀ e∈all,EntP d n e)/\(all.length<=200->all=⟨0,0,[]⟩::all.flatMap (kid d n))) (fun s hI=>?_) ⟨0,rfl,by simp,by simp,by simp,by omega,fun e he=>?_,by simp⟩
 ·obtain ⟨all,p⟩:=s
  obtain ⟨i,rfl,i1,i2,i3,i4,i5,i6⟩:=hI
  simp only at i1 i2 i3 i5 i6 ⊢
  show (∃ s',aDH (n:Int) (d,c) all (i:Int)=_/\_)\/_
  by_cases h1:i < all.length
  ·by_cases h2:all.length<=200
   ·left
    have he:=i5 _ (List.getElem_mem h1)
    have hj4:∀ all',uS (i:Int) all'=some (.inl (all',((i+1:Nat):Int))):=fun all'=>by unfold uS;rw [aAg h1 (by omega)]
    have ol:(aJY d all[i].a).length<=300:=Nat.le_trans (List.length_filter_le _ _) h3
    have hstep:aDH (n:Int) (d,c) all (i:Int)=some (.inl (all++kid d n all[i],((i+1:Nat):Int))):=by
     unfold aDH
     rw [if_pos (aBK h1),decide_eq_true (p:=(all.length:Int)<=200) (by omega)]
     unfold uU
     rw [if_pos rfl,aAM h1,lJ]
     unfold kid
     by_cases hk:all[i].trace.length=n
     ·rw [if_pos (by simp [hk]),if_pos hk,List.append_nil,hj4]
     ·rw [if_neg (by simp;omega),if_neg hk]
      show (ob (aCX d all[i].a) fun r223=>_)=_
      rw [out_eqI hd.1,lJ,tr_push hd hn he (by omega),lJ]
      exact hj4 _
    have hkl:(kid d n all[i]).length<=300:=by
     unfold kid
     split
     ·simp
     ·rw [List.length_map];exact ol
    refine ⟨_,hstep,⟨i+1,rfl,by simp only [List.length_append];omega,by simp only [List.length_append];omega,by simp only [List.length_append];omega,by omega,fun e hx=>?_,?_⟩,by simp only;omega⟩
    ·rcases List.mem_append.1 hx with hx|hx
     ·exact i5 e hx
     ·exact kid_ok hd he hx
    ·simp only
     rw [List.take_append_of_le_length (by omega),List.take_succ_eq_append_getElem h1,List.flatMap_append,List.flatMap_singleton,←List.cons_append,←i6]
   ·right
    refine ⟨all,?_,i2,i3,i5,fun h=>absurd h h2⟩
    unfold aDH
    rw [if_pos (aBK h1),decide_eq_false (p:=(all.length:Int)<=200) (by omega)]
    unfold uU
    rw [if_neg (by simp)]
  ·right
   refine ⟨all,?_,i2,i3,i5,fun _=>?_⟩
   ·unfold aDH
    rw [if_neg (by simp;omega)]
    unfold uU
    rw [if_neg (by simp)]
   ·rw [List.take_of_length_le (by omega)] at i6
    exact i6
 ·rw [List.mem_singleton] at he
  subst he
  exact ⟨by simp,by simp,rfl,by simp⟩
theorem tr_names {all:List bR} (h:all.length<=1000):loop (fun s:List (List aZ) × Int=>aDF all s.1 s.2) ([],0)=some (all.map (·.trace)):=by
 obtain ⟨x,h1,h2⟩:=aIQ (step:=fun s:List (List aZ) × Int=>aDF all s.1 s.2) all.length (fun k (q:List (List aZ))=>(q,(k:Int))) (fun k q=>q=(all.take k).map (·.trace)) (fun q=>q=all.map (·.trace)) (fun k q hk hI=>by
  subst hI
  refine ⟨(all.take (k+1)).map (·.trace),?_,rfl⟩
  show aDF all ((all.take k).map (·.trace)) (k:Int)=_
  unfold aDF
  have hl:((all.take k).map (·.trace)).length=k:=by rw [List.length_map,List.length_take];omega
  rw [if_pos (aBK hk),aAM hk,lJ,aGO (by simp only [List.length_singleton,hl,lim];omega),lJ,aAg hk (by omega),List.take_succ_eq_append_getElem hk,List.map_append,List.map_singleton]) (fun q hI=>by
  subst hI
  refine ⟨(all.take all.length).map (·.trace),?_,by rw [List.take_length]⟩
  show aDF all ((all.take all.length).map (·.trace)) (all.length:Int)=_
  unfold aDF
  rw [if_neg (by simp)]) all.length 0 [] (by omega) rfl
 subst h2
 exact h1
theorem aOp (hv:nB t) (hf:aBo 999999999 t) {n:Nat} (hn:n<=12):aCy t (n:Int)=some (if Small (aHs t) then (aJg t,0) else (⟨0,0,[],[]⟩,5)):=by
 unfold aCy
 rw [aJx t hf,aKq hv,lJ,if_neg (by simp)]
 unfold vC yZ
 rw [if_pos (by simp),decide_eq_true (p:=(n:Int)<=12) (by omega),lJ,if_neg (by simp),aJy hv hf,lJ]
 unfold detS aJg
 by_cases hs:Small (aHs t)
 ·rw [if_pos hs,if_pos hs];rfl
 ·rw [if_neg hs,if_neg hs];rfl
theorem aPg (hv:nB t) (hf:aBo 999999999 t) (hs:Small (aHs t)) {n:Nat} (hn:n<=12):∃ all,1<=all.length/\(∀ e∈all,EntP (aJg t) n e)/\(all.length<=200->all=⟨0,0,[]⟩::all.flatMap (kid (aJg t) n))/\aEg t (n:Int)=some (if 200 < all.length then ([],5) else (all.map (·.trace),0)):=by
 obtain ⟨all,h1,h2,h3,h4,h5⟩:=tr_all (n:=n) (aLE hv hs) 0 (by omega)
 refine ⟨all,h2,h4,h5,?_⟩
 unfold aEg
 rw [aOp hv hf hn,if_pos hs,lJ,if_neg (by simp)]
 have h1':loop (fun s:List bR × Int=>aDH (n:Int) (aJg t,0) s.1 s.2) (([⟨0,0,[]⟩]:List bR),0)=some all:=h1
 rw [h1',lJ]
 unfold uR
 by_cases hl:200 < all.length
 ·rw [if_pos (by simp;omega),if_pos hl]
 ·rw [if_neg (by simp;omega),if_neg hl,tr_names h3,lJ];rfl
end
end Gv
namespace Gv
open Go
section
variable {a b:cI}
def OvL (a b:cI) (tr:List aZ):Prop:=∀ s∈tr,s∈a.L++b.L/\s≠nI
theorem OvL.symm {tr:List aZ} (h:OvL a b tr):OvL b a tr:=fun s hs=>⟨by
 have:=(h s hs).1
 rw [List.mem_append] at this ⊢
 exact this.symm,(h s hs).2⟩
theorem OvL.vis (ha:nB a) (hb:nB b) (fa:aBo 999999999 a) (fb:aBo 999999999 b) {tr:List aZ} (h:OvL a b tr):∀ s∈tr,VisL s:=fun s hs=>by
 obtain ⟨h1,h2⟩:=h s hs
 have key:∀ {t:cI},nB t->aBo 999999999 t->s∈t.L->VisL s:=fun {t} hv hf h=>by
  obtain ⟨h0,e0⟩:=tau_at hv
  refine aMX hv hf ?_
  rw [(aNG hv).1] at h
  rcases List.mem_cons.1 h with h|h
  ·exact absurd h h2
  ·exact h
 rcases List.mem_append.1 h1 with h|h
 ·exact key ha fa h
 ·exact key hb fb h
theorem aJS (t:cI):(detS t).2.2=decide (Small (aHs t)):=by
 unfold detS
 by_cases h:Small (aHs t)
 ·rw [if_pos h,decide_eq_true h]
 ·rw [if_neg h,decide_eq_false h]
theorem jn_ov {M:List aZ} (hJ:Jn (aJg a) (aJg b) M) {tr:List aZ}:OvM M tr<->OvL a b tr:=by
 constructor
 ·intro h s hs;exact (hJ.mem s).1 (h s hs)
 ·intro h s hs;exact (hJ.mem s).2 (h s hs)
end
end Gv
namespace Gv
open Go
def StW (b:cI) (kind y:Int) (s:aZ) (w:Int):Prop:=if kind=2 then Wk b y s w else ∃ f∈b.E,f.F=y/\txt b f=s/\f.To=w
section
variable {a b:cI} {kind:Int}
theorem StW.inn (hb:nB b) {y:Int} (hy:inT b y) {s:aZ} {w:Int} (h:StW b kind y s w):inT b w:=by
 unfold StW at h
 split at h
 ·exact h.inn hb hy
 ·obtain ⟨f,hf,_,_,rfl⟩:=h
  exact (aKP hb hf).2.1
end
end Gv
namespace Gv
open Go
theorem aNI (a b:List aZ) (h:a.length < 4611686018427387904):fY a b=some (decide (a=b)):=by
 unfold fY
 by_cases hl:a.length=b.length
 ·rw [if_neg (by simp [hl])]
  have:=aJT (step:=fun s=>kM a b s) (a.zip b) (fun p=>decide (p.1=p.2)) (.inr false) (.inl ()) (fun k x hk hx=>?_) ?_
  ·rw [this,lJ]
   by_cases he:a=b
   ·subst he
    have:((a.zip a).all fun p=>decide (p.1=p.2))=true:=by
     rw [List.all_eq_true]
     intro p hp
     obtain ⟨i,hi,rfl⟩:=List.mem_iff_getElem.1 hp
     rw [List.getElem_zip];simp
    rw [if_pos this,decide_eq_true rfl];rfl
   ·have:¬ ((a.zip b).all fun p=>decide (p.1=p.2))=true:=fun h'=>he (List.ext_getElem hl fun i h1 h2=>by
     rw [List.all_eq_true] at h'
     have hiz:i < (a.zip b).length:=by rw [List.length_zip];omega
     have:=h' (a.zip b)[i] (List.getElem_mem hiz)
     rw [List.getElem_zip] at this
     simpa using this)
    rw [if_neg this,decide_eq_false he]
  ·have hzl:(a.zip b).length=a.length:=by rw [List.length_zip];omega
   rw [hzl] at hk
   obtain ⟨hk',rfl⟩:=aJi hx
   unfold kM
   rw [if_pos (aBK hk),aAM hk,lJ,aAM (by omega),lJ,List.getElem_zip]
   by_cases e:a[k]=b[k]'(by omega)
   ·rw [if_neg (by simp [e]),if_pos (by simp [e]),aAg hk h]
   ·rw [if_pos (by simpa using e),if_neg (by simpa using e)]
  ·have hzl:(a.zip b).length=a.length:=by rw [List.length_zip];omega
   rw [hzl]
   unfold kM
   rw [if_neg (by simp)]
 ·rw [if_pos (by simp;omega),decide_eq_false (fun h=>hl (by rw [h]))]
section
variable {a b:cI} {kind:Int}
theorem aKF {t:cI} (hv:nB t) (k:Int):gR t k=some (rdy t k):=by
 have h300:=hv.2.2.2.1
 have hl:(t.E.filter fun e=>e.F == k).length<=t.E.length:=List.length_filter_le _ _
 unfold gR
 rw [out_eq t k (by omega),lJ]
 have:=aJl (step:=fun s:List aZ × Int=>vE t (t.E.filter fun e=>e.F == k) s.1 s.2) (t.E.filter fun e=>e.F == k) (fun j (o:List aZ)=>(o,(j:Int))) (fun l o=>o++l.map (txt t)) (fun j o=>o.length<=j) (fun j o e l hj hx hI=>?_) (fun o _=>by simp only [vE,aGf];simp) (a:=[]) (by simp)
 ·rw [show loop (fun s:List aZ × Int=>vE t (t.E.filter fun e=>e.F == k) s.1 s.2) ([],0)=_ from this,lJ,List.nil_append]
  unfold kX aCP
  rw [if_pos (by rw [List.length_map];unfold lim;omega),lJ,aKT _ (by unfold srt;rw [List.length_mergeSort,List.length_map];omega)]
  rfl
 ·left
  obtain ⟨hj',rfl⟩:=aJi hx
  have he:(t.E.filter fun e=>e.F == k)[j]∈t.E:=(List.mem_filter.1 (List.getElem_mem hj')).1
  refine ⟨o++[txt t (t.E.filter fun e=>e.F == k)[j]],?_,by simp;exact hI,by simp⟩
  simp only [vE,aBK hj,if_pos,hx,lJ,aKi (aIk hv he)]
  rw [aGO (by simp [lim];omega),lJ,aAg hj (show (t.E.filter fun e=>e.F == k).length < 4611686018427387904 by omega)]
end
end Gv
namespace Gv
open Go
section
variable {a b:cI} {kind:Int}
end
end Gv
namespace Gv
open Go
section
variable {a b:cI} {kind:Int}
instance inT_dec (t:cI) (k:Int):Decidable (inT t k):=by unfold inT;infer_instance
end
end Gv
namespace Gv
open Go
section
variable {a b:cI} {kind:Int}
end
end Gv
namespace Gv
open Go
def unA (a b:cI) (M:List aZ):List Edge:=(a.E.map fun e=>(⟨e.F,pos (nI::M) (txt a e),e.To⟩:Edge))++b.E.map fun e=>(⟨e.F+a.N,pos (nI::M) (txt b e),e.To+a.N⟩:Edge)
structure Uni (a b:cI) (M:List aZ) (Eo:List Edge):Prop where
 str:aBq M
 mem:∀ s,s∈M<->s∈a.L++b.L/\s≠nI
 len:M.length<=24
 se:SE Eo
 ed:∀ x,x∈Eo<->x∈unA a b M
 elen:Eo.length<=600
section
variable {a b:cI}
theorem txt_in {t:cI} (hv:nB t) {e:Edge} (he:e∈t.E):txt t e∈t.L:=by
 have:=(aKP hv he).2.2
 unfold txt
 rw [List.getD_eq_getElem?_getD,List.getElem?_eq_getElem (by omega)]
 exact List.getElem_mem _
end
end Gv
namespace Gv
open Go
structure Big (u:cI):Prop where
 st:1<=u.N/\u.N<=100
 lab:u.L.length<=100
 ed:u.E.length<=1000
 inn:∀ e∈u.E,inT u e.F/\inT u e.To/\0<=e.B/\e.B < u.L.length
def aIX (u:cI) (p:List Int):Prop:=p.length=u.N.toNat/\∀ z∈p,0<=z/\z < u.N
section
variable {u:cI} {p:List Int}
theorem aJX (hp:aIX u p) {s:Int} (h:inT u s):ix p s=some (p.getD s.toNat 0)/\0<=p.getD s.toNat 0/\p.getD s.toNat 0 < u.N:=by
 unfold inT at h
 have hl:s.toNat < p.length:=by rw [hp.1];omega
 have e:p.getD s.toNat 0=p[s.toNat]:=by rw [List.getD_eq_getElem?_getD,List.getElem?_eq_getElem hl];rfl
 rw [e]
 exact ⟨aLi h.1 hl,hp.2 _ (List.getElem_mem hl)⟩
theorem part_cn (hu:Big u) {κ:Type} [DecidableEq κ] [BEq κ] [LawfulBEq κ] {l:List κ} (h:l.length=u.N.toNat):aIX u (cn l):=by
 have:=hu.st
 refine ⟨by rw [aKO,h],fun z hz=>?_⟩
 have:=cn_in hz
 omega
end
end Gv
namespace Gv
open Go
section
variable {a b:cI}
theorem pos_rng {γ:Type} [BEq γ] [LawfulBEq γ] {xs:List γ} {x:γ} (hx:x∈xs):0<=pos xs x/\pos xs x < xs.length:=by
 obtain ⟨i,e,g⟩:=aMl hx
 have:=(List.getElem?_eq_some_iff.1 g).1
 omega
end
end Gv
namespace Gv
open Go
theorem anU_le (x:Int):0<=anU x 255/\anU x 255<=255:=by
 unfold anU
 have h:(BitVec.ofInt 64 x&&& BitVec.ofInt 64 255).toNat<=255:=by
  rw [BitVec.toNat_and]
  exact Nat.le_trans Nat.and_le_right (by decide)
 unfold nD
 omega
theorem shU_ok (x:Int):∃ y,shU x 40=some y:=⟨_,by unfold shU;rw [if_pos (by decide)]⟩
theorem byte_le (b:UInt8):0<=(b.toNat:Int)/\(b.toNat:Int)<=255:=by
 have:=b.toNat_lt
 omega
theorem next_ok (c:aZ) {s1:Int} (s2:Int) (h:0<=s1/\s1<=1000000000000):∃ v s2',uG c s1 s2=some (v,s1+1,s2')/\0<=v/\v<=255:=by
 have hw:wr (s1+1)=s1+1:=aHw (by omega) (by omega)
 have key:∀ b:Int,0<=b/\b<=255->∃ v s2',oH c s1 s2 b=some (v,s1+1,s2')/\0<=v/\v<=255:=by
  intro b hb
  unfold oH
  rw [hw]
  split
  ·exact ⟨_,_,rfl,hb⟩
  ·obtain ⟨y,hy⟩:=shU_ok (nD ((nD ((nD (s2 * 6364136223846793005))+(nD b)))+1442695040888963407))
   rw [hy,lJ]
   have h2:=anU_le y
   refine ⟨_,_,rfl,?_⟩
   rw [aHw (by omega) (by omega)];exact h2
 unfold uG
 split
 ·rename_i hlt
  have hlt':s1 < (c.length:Int):=by simpa using hlt
  rw [aLi h.1 (by omega),lJ]
  have hb:=byte_le (c[s1.toNat]'(by omega))
  rw [aHw (by omega) (by omega)]
  exact key _ hb
 ·exact key 0 (by omega)
theorem rm_ok {x n:Int} (hx:0<=x) (hn:1<=n):∃ v,rm x n=some v/\0<=v/\v < n:=by
 unfold rm
 rw [if_neg (by omega)]
 have e:x.tmod n=x % n:=Int.tmod_eq_emod_of_nonneg hx
 have h1:=Int.emod_nonneg x (show n≠0 by omega)
 have h2:=Int.emod_lt_of_pos x (show 0 < n by omega)
 first
  |exact ⟨_,rfl,by rw [e];exact h1,by rw [e];exact h2⟩
  |exact ⟨_,rfl,by rw [e,aHw]<;>omega,by rw [e,aHw]<;>omega⟩
theorem aJj (c:aZ) {s1 n:Int} (s2:Int) (h:0<=s1/\s1<=100000000000) (hn:1<=n):∃ v s1' s2',dJ c s1 s2 n=some (v,s1',s2')/\(0<=v/\v < n)/\s1<=s1'/\s1'<=s1+2:=by
 unfold dJ
 by_cases h1:n<=1
 ·rw [if_pos (by simpa using h1)]
  exact ⟨_,_,_,rfl,by omega,by omega,by omega⟩
 ·rw [if_neg (by simpa using h1)]
  obtain ⟨v,t2,e,g1,g2⟩:=next_ok c s2 (s1:=s1) (by omega)
  rw [e,lJ]
  simp only
  have key:∀ x a b:Int,0<=x->s1<=a->a<=s1+2->∃ v s1' s2',oI n x a b=some (v,s1',s2')/\(0<=v/\v < n)/\s1<=s1'/\s1'<=s1+2:=by
   intro x a b hx ha hb
   unfold oI
   obtain ⟨y,hy,q1,q2⟩:=rm_ok hx (show 1<=n by omega)
   rw [hy,lJ]
   exact ⟨_,_,_,rfl,⟨q1,q2⟩,ha,hb⟩
  by_cases h2:200 < n
  ·rw [if_pos (by simpa using h2)]
   obtain ⟨v',t2',e',g1',g2'⟩:=next_ok c t2 (s1:=s1+1) (by omega)
   rw [e',lJ]
   simp only
   rw [aHw (x:=v * 256) (by omega) (by omega),aHw (by omega) (by omega)]
   exact key _ _ _ (by omega) (by omega) (by omega)
  ·rw [if_neg (by simpa using h2)]
   exact key _ _ _ g1 (by omega) (by omega)
theorem one_ok (c:aZ) {s1 n:Int} (s2:Int) (h:0<=s1/\s1<=100000000000) (hn:1<=n):∃ b s1' s2',rN c s1 s2 n=some (b,s1',s2')/\s1<=s1'/\s1'<=s1+2:=by
 obtain ⟨v,a,b,e,_,h2,h3⟩:=aJj c s2 h hn
 unfold rN
 rw [e,lJ]
 exact ⟨_,_,_,rfl,h2,h3⟩
theorem among_ok (c:aZ) {s1:Int} (s2:Int) (h:0<=s1/\s1<=100000000000) {l:List Int} (hl:l≠[]):∃ v s1' s2',xZ c s1 s2 l=some (v,s1',s2')/\v∈l/\s1<=s1'/\s1'<=s1+2:=by
 have h1:1<=(l.length:Int):=by
  have:=List.length_pos_iff.2 hl
  omega
 obtain ⟨v,a,b,e,hv,h2,h3⟩:=aJj c s2 h h1
 unfold xZ
 rw [e,lJ]
 simp only
 rw [aLi hv.1 (by omega),lJ]
 exact ⟨_,_,_,rfl,List.getElem_mem _,h2,h3⟩
end Gv
namespace Gv
open Go
def Nm:List aZ:=[nI,[97],[98],[99],[103,101,116,40,48,41],[103,101,116,40,49,41]]
theorem Nm_lab:∀ s∈Nm,aJo s=true:=by decide
theorem Nm_len:∀ s∈Nm,s.length<=6:=by decide
structure Drn (c:Nat) (t:cI):Prop where
 ok:nB t
 nm:∀ s∈t.L,s∈Nm
 st:t.N<=10
 ed:t.E.length<=c
theorem Drn.fits {c:Nat} {t:cI} (h:Drn c t):aBo 999999999 t:=by
 have h1:=h.ok.2.2.1.2.1
 have h2:=h.ok.2.2.2.1
 refine ⟨by omega,fun s hs=>?_,by omega⟩
 have:=Nm_len s (h.nm s hs)
 omega
theorem Drn.mono {c d:Nat} {t:cI} (h:Drn c t) (hc:c<=d):Drn d t:=⟨h.ok,h.nm,h.st,Nat.le_trans h.ed hc⟩
theorem srtE_SE (l:List Edge):SE (aHy (srt lE l)):=by
 have h1:(srt lE l).Pairwise fun a b=>lE b a=false:=by
  have:=List.pairwise_mergeSort (le:=fun a b=>!lE b a) (fun a b c h1 h2=>?_) (fun a b=>?_) l
  ·refine this.imp fun {a b} h=>?_
   simpa using h
  ·simp only [Bool.not_eq_true'] at h1 h2 ⊢
   cases h3:lE c a with
   |false=>rfl
   |true=>
    have:=aLe h3 h1
    rw [h2] at this;cases this
  ·cases h3:lE b a with
   |false=>simp
   |true=>simp [aLm h3]
 exact aKj (R:=fun a b=>lE b a=false) (S:=fun a b=>lE a b=true) (fun h hne=>aLS h hne) (fun h h'=>aLe h h') h1
theorem aPi (l:List Edge):(aHy (srt lE l)).length<=l.length:=by
 have:=aLf (srt lE l)
 unfold srt at this ⊢
 rwa [List.length_mergeSort] at this
theorem aPj {l:List Edge} {x:Edge}:x∈aHy (srt lE l)<->x∈l:=by
 rw [aJK];unfold srt;rw [List.mem_mergeSort]
theorem labs_nm {M:List aZ} (hM:aBq M) (hn:∀ s∈M,s∈Nm):aIi (nI::M):=by
 have hnd:M.Nodup:=hM.1.imp fun {a b} h e=>by subst e;rw [tF] at h;cases h
 have hl:M.length<=5:=by
  have:=List.Nodup.length_le_of_subset (l₁:=nI::M) (l₂:=Nm) (List.nodup_cons.2 ⟨hM.2,hnd⟩) (fun x hx=>by
   rcases List.mem_cons.1 hx with rfl|hx
   ·simp [Nm]
   ·exact hn x hx)
  have h6:Nm.length=6:=rfl
  rw [List.length_cons] at this
  omega
 refine ⟨by simp,by simp;omega,fun _=>rfl,fun k h1 hk=>?_⟩
 obtain ⟨k,rfl⟩:∃ j,k=j+1:=⟨k - 1,by omega⟩
 have hk':k < M.length:=by simpa using hk
 have hm:M[k]∈M:=List.getElem_mem hk'
 rw [List.getElem_cons_succ]
 refine ⟨Nm_lab _ (hn _ hm),fun e=>hM.2 (e ▸ hm),fun h2=>?_⟩
 obtain ⟨k,rfl⟩:∃ j,k=j+1:=⟨k - 1,by omega⟩
 have:=List.pairwise_iff_getElem.1 hM.1 k (k+1) (by omega) hk' (by omega)
 simpa using this
theorem aOq {T:List aZ} (hT:∀ s∈T,s∈Nm) (hTl:T.length<=100) {st ini:Int} (h1:1<=st/\st<=10) (h2:0<=ini/\ini < st) {edges:List Edge} (hl:edges.length<=300)
  (he:∀ e∈edges,(0<=e.F/\e.F < st)/\(0<=e.To/\e.To < st)/\0<=e.B/\e.B < T.length):∃ t,xL st ini T edges=some t/\Drn edges.length t/\t.N=st/\t.I=ini:=by
 obtain ⟨M,_,j2,j3,j4⟩:=aMQ T (by omega)
 have hM:∀ s∈M,s∈Nm:=fun s hs=>hT s ((j3 s).1 hs).1
 refine ⟨⟨st,ini,nI::M,aHy (srt lE (edges.map fun e=>(⟨e.F,pos (nI::M) (T.getD e.B.toNat []),e.To⟩:Edge)))⟩,make_gen (by omega) j2 j3 (by omega) (fun e h=>(he e h).2.2) (srtE_SE _) (fun x=>?_) st ini,⟨⟨by show 1<=st/\st<=40;omega,by show 0<=ini/\ini<=st - 1;omega,labs_nm j2 hM,aLF ?_ (srtE_SE _) fun x hx=>?_⟩,fun s hs=>?_,by show st<=10;omega,?_⟩,rfl,rfl⟩
 ·rw [aPj,List.mem_map]
  exact ⟨fun ⟨e,h,g⟩=>⟨e,h,g.symm⟩,fun ⟨e,h,g⟩=>⟨e,h,g.symm⟩⟩
 ·have:=aPi (edges.map fun e=>(⟨e.F,pos (nI::M) (T.getD e.B.toNat []),e.To⟩:Edge))
  rw [List.length_map] at this
  exact Nat.le_trans this hl
 ·obtain ⟨e,h,rfl⟩:=List.mem_map.1 (aPj.1 hx)
  obtain ⟨g1,g2,g3,g4⟩:=he e h
  have hin:T.getD e.B.toNat []∈nI::M:=by
   have hmem:T.getD e.B.toNat []∈T:=by
    rw [List.getD_eq_getElem?_getD,List.getElem?_eq_getElem (by omega)]
    exact List.getElem_mem _
   by_cases ht:T.getD e.B.toNat []=nI
   ·rw [ht];simp
   ·exact List.mem_cons_of_mem _ ((j3 _).2 ⟨hmem,ht⟩)
  have:=pos_rng hin
  show (0<=e.F/\e.F<=st - 1)/\(0<=e.To/\e.To<=st - 1)/\0<=pos (nI::M) (T.getD e.B.toNat [])/\pos (nI::M) (T.getD e.B.toNat [])<=((nI::M).length:Int) - 1
  omega
 ·rcases List.mem_cons.1 hs with rfl|hs
  ·simp [Nm]
  ·exact hM s hs
 ·have:=aPi (edges.map fun e=>(⟨e.F,pos (nI::M) (T.getD e.B.toNat []),e.To⟩:Edge))
  rw [List.length_map] at this
  exact this
theorem names_ok (c:aZ) {s1:Int} (s2:Int) (h:0<=s1/\s1<=10000000000):∃ L s1' s2',xY c s1 s2=some (L,s1',s2')/\((∀ s∈L,s∈Nm)/\1<=L.length/\L.length<=7)/\s1<=s1'/\s1'<=s1+10:=by
 have key:=aIQ (step:=fun s:Int × Int × List aZ × Int=>zW c s.1 s.2.1 s.2.2.1 s.2.2.2) 5 (fun k (a:Int × Int × List aZ)=>(a.1,a.2.1,a.2.2,(k:Int))) (fun k a=>(∀ s∈a.2.2,s∈Nm)/\1<=a.2.2.length/\a.2.2.length<=1+k/\s1<=a.1/\a.1<=s1+2 * k)
  (fun r=>(∀ s∈r.1,s∈Nm)/\1<=r.1.length/\r.1.length<=6/\s1<=r.2.1/\r.2.1<=s1+10) (fun k a hk hI=>?_) (fun a hI=>?_) 5 0 (s1,s2,[nI]) (by omega) ⟨by simp [Nm],by simp,by simp,by simp,by simp⟩
 ·obtain ⟨r,h1,g1,g2,g3,g4,g5⟩:=key
  unfold xY
  have h1':loop (fun s:Int × Int × List aZ × Int=>zW c s.1 s.2.1 s.2.2.1 s.2.2.2) (s1,s2,[nI],0)=some r:=h1
  rw [show ([([116,97,117]:aZ)]:List aZ)=[nI] from rfl,h1',lJ]
  unfold mT mS
  split
  ·rw [aGO (by simp [lim];omega),lJ]
   refine ⟨_,_,_,rfl,⟨fun s hs=>?_,by simp,by simp;omega⟩,g4,g5⟩
   rcases List.mem_append.1 hs with hs|hs
   ·exact g1 s hs
   ·simp at hs;subst hs;simp [Nm]
  ·exact ⟨_,_,_,rfl,⟨g1,g2,by omega⟩,g4,g5⟩
 ·obtain ⟨x,y,o⟩:=a
  obtain ⟨g1,g2,g3,g4,g5⟩:=hI
  simp only at g1 g2 g3 g4 g5 ⊢
  obtain ⟨b,t1,t2,e,h3,h4⟩:=one_ok c y (s1:=x) (n:=2) (by omega) (by omega)
  have hw:wr ((k:Int)+1)=((k+1:Nat):Int):=aAg hk (by omega)
  unfold zW
  rw [if_pos (by simp;omega),e,lJ]
  have hno:mU (k:Int) t1 t2 o=some (.inl (t1,t2,o,((k+1:Nat):Int))):=by unfold mU;rw [hw]
  have key:∀ v:Bool,∃ a':Int × Int × List aZ,mV o (k:Int) t1 t2 v=some (.inl (a'.1,a'.2.1,a'.2.2,((k+1:Nat):Int)))/\(∀ s∈a'.2.2,s∈Nm)/\1<=a'.2.2.length/\a'.2.2.length<=1+(k+1)/\s1<=a'.1/\a'.1<=s1+2 * ((k+1:Nat):Int):=by
   intro v
   unfold mV
   cases v with
   |false=>
    rw [if_neg (by simp),hno]
    exact ⟨(t1,t2,o),rfl,g1,g2,by simp only;omega,by simp only;omega,by simp only;omega⟩
   |true=>
    have hkl:k < ([([97]:aZ),([98]:aZ),([99]:aZ),([103,101,116,40,48,41]:aZ),([103,101,116,40,49,41]:aZ)]:List aZ).length:=hk
    rw [if_pos rfl,aAM hkl,lJ,aGO (by simp [lim];omega),lJ]
    unfold mU
    rw [hw]
    refine ⟨(t1,t2,_),rfl,fun s hs=>?_,by simp,by simp;omega,by simp only;omega,by simp only;omega⟩
    rcases List.mem_append.1 hs with hs|hs
    ·exact g1 s hs
    ·rw [List.mem_singleton] at hs
     have:s∈([([97]:aZ),([98]:aZ),([99]:aZ),([103,101,116,40,48,41]:aZ),([103,101,116,40,49,41]:aZ)]:List aZ):=hs ▸ List.getElem_mem hkl
     exact List.mem_cons_of_mem _ this
  split
  ·exact key _
  ·exact key _
 ·obtain ⟨x,y,o⟩:=a
  obtain ⟨g1,g2,g3,g4,g5⟩:=hI
  simp only at g1 g2 g3 g4 g5 ⊢
  refine ⟨(o,x,y),?_,g1,g2,by simp only;omega,g4,by simp only;omega⟩
  unfold zW
  rw [if_neg (by simp)]
end Gv
namespace Gv
open Go
def aJH (st:Int) (n:Nat) (e:Edge):Prop:=(0<=e.F/\e.F < st)/\(0<=e.To/\e.To < st)/\0<=e.B/\e.B < n
section
variable {c:aZ} {r9 r14:Int × Int × Int} {base st:Int}
def aMY (K:List Int) (base st:Int):Prop:=(K.length:Int)=st/\∀ i,(hi:i < K.length)->(0<=K[i]/\K[i] < base)/\((i:Int) < base->K[i]=(i:Int))
theorem kinds_ok (hb:1<=base/\base<=4) (hs:base<=st/\st<=6) (e1:wr (1+r9.1)=base) (e2:wr (base+r14.1)=st) {s1:Int} (s2:Int) (h:0<=s1/\s1<=10000000000):
  ∃ a b K,loop (fun s:Int × Int × List Int × Int=>aBy c r9 r14 s.1 s.2.1 s.2.2.1 s.2.2.2) (s1,s2,([]:List Int),0)=some (a,b,K)/\aMY K base st/\s1<=a/\a<=s1+12:=by
 have key:=aIQ (step:=fun s:Int × Int × List Int × Int=>aBy c r9 r14 s.1 s.2.1 s.2.2.1 s.2.2.2) st.toNat (fun k (a:Int × Int × List Int)=>(a.1,a.2.1,a.2.2,(k:Int))) (fun k a=>(a.2.2.length=k/\∀ i,(hi:i < a.2.2.length)->(0<=a.2.2[i]/\a.2.2[i] < base)/\((i:Int) < base->a.2.2[i]=(i:Int)))/\s1<=a.1/\a.1<=s1+2 * k)
  (fun r=>aMY r.2.2 base st/\s1<=r.1/\r.1<=s1+12) (fun k a hk hI=>?_) (fun a hI=>?_) st.toNat 0 (s1,s2,[]) (by omega) ⟨⟨rfl,fun i hi=>by simp at hi⟩,by simp,by simp⟩
 ·obtain ⟨⟨a,b,K⟩,h1,g1,g2,g3⟩:=key
  exact ⟨a,b,K,h1,g1,g2,g3⟩
 ·obtain ⟨x,y,o⟩:=a
  obtain ⟨⟨g1,g2⟩,g3,g4⟩:=hI
  simp only at g1 g2 g3 g4 ⊢
  have hw:wr ((k:Int)+1)=((k+1:Nat):Int):=aAg hk (by omega)
  have hadd:∀ v:Int,(0<=v/\v < base)->((k:Int) < base->v=(k:Int))->(o++[v]).length=k+1/\∀ i,(hi:i < (o++[v]).length)->(0<=(o++[v])[i]/\(o++[v])[i] < base)/\((i:Int) < base->(o++[v])[i]=(i:Int)):=by
   intro v h1 h2
   refine ⟨by simp;exact g1,fun i hi=>?_⟩
   by_cases hl:i < o.length
   ·rw [List.getElem_append_left hl];exact g2 i hl
   ·have:i=o.length:=by simp at hi;omega
    subst this
    rw [List.getElem_append_right (Nat.le_refl _)]
    simp only [Nat.sub_self,List.getElem_cons_zero]
    exact ⟨h1,fun h=>by rw [g1] at h ⊢;exact h2 h⟩
  unfold aBy
  rw [e1,e2,if_pos (by simp;omega)]
  by_cases hkb:(k:Int) < base
  ·rw [if_pos (by simpa using hkb),aGO (by simp [lim];omega),lJ]
   unfold pN
   rw [hw]
   exact ⟨(x,y,o++[(k:Int)]),rfl,hadd _ (by omega) (fun _=>rfl),by simp only;omega,by simp only;omega⟩
  ·rw [if_neg (by simpa using hkb)]
   obtain ⟨v,t1,t2,e,q1,q2,q3⟩:=aJj c y (s1:=x) (n:=base) (by omega) (by omega)
   rw [e,lJ,aGO (by simp [lim];omega),lJ]
   unfold pN
   rw [hw]
   exact ⟨(t1,t2,o++[v]),rfl,hadd _ q1 (fun h=>absurd h hkb),by simp only;omega,by simp only;omega⟩
 ·obtain ⟨x,y,o⟩:=a
  obtain ⟨⟨g1,g2⟩,g3,g4⟩:=hI
  simp only at g1 g2 g3 g4 ⊢
  refine ⟨(x,y,o),?_,⟨by simp only;omega,g2⟩,g3,by simp only;omega⟩
  unfold aBy
  rw [e1,e2,if_neg (by simp;omega)]
theorem alike_ok {r219:Int × Int × Int} {K:List Int} (hb:1<=base/\base<=4) (hs:base<=st/\st<=6) (e1:wr (1+r9.1)=base) (e2:wr (base+r14.1)=st) (hK:aMY K base st) (hto:0<=r219.1/\r219.1 < base):
  ∃ l,loop (fun s:List Int × Int=>aCl r9 r14 K r219 s.1 s.2) (([]:List Int),0)=some l/\l≠[]/\∀ z∈l,0<=z/\z < st:=by
 have hKl:=hK.1
 have key:=aIQ (step:=fun s:List Int × Int=>aCl r9 r14 K r219 s.1 s.2) st.toNat (fun k (a:List Int)=>(a,(k:Int))) (fun k a=>a.length<=k/\(r219.1 < k->r219.1∈a)/\∀ z∈a,0<=z/\z < st) (fun r=>r≠[]/\∀ z∈r,0<=z/\z < st) (fun k a hk hI=>?_) (fun a hI=>?_) st.toNat 0 [] (by omega) ⟨by simp,fun h=>by omega,by simp⟩
 ·obtain ⟨l,h1,h2⟩:=key
  exact ⟨l,h1,h2⟩
 ·obtain ⟨g1,g2,g3⟩:=hI
  have hkl:k < K.length:=by omega
  have hw:wr ((k:Int)+1)=((k+1:Nat):Int):=aAg hk (by omega)
  show ∃ a',aCl r9 r14 K r219 a (k:Int)=_/\_
  unfold aCl rT
  rw [e1,e2,if_pos (by simp;omega),aAM hkl,lJ,hw]
  by_cases he:K[k]=r219.1
  ·rw [if_pos (by simpa using he),aGO (by simp [lim];omega),lJ]
   refine ⟨_,rfl,by simp;omega,fun h=>?_,fun z hz=>?_⟩
   ·by_cases hlt:r219.1 < k
    ·exact List.mem_append_left _ (g2 hlt)
    ·exact List.mem_append_right _ (by simp;omega)
   ·rcases List.mem_append.1 hz with hz|hz
    ·exact g3 z hz
    ·simp at hz;omega
  ·rw [if_neg (by simpa using he)]
   refine ⟨_,rfl,by omega,fun h=>g2 ?_,g3⟩
   have:=(hK.2 k hkl).2
   by_cases hlt:r219.1 < k
   ·exact hlt
   ·exfalso
    have e:r219.1=(k:Int):=by omega
    exact he (by rw [e];exact this (by omega))
 ·obtain ⟨g1,g2,g3⟩:=hI
  refine ⟨a,?_,fun h=>?_,g3⟩
  ·show aCl r9 r14 K r219 a ((st.toNat:Nat):Int)=_
   unfold aCl
   rw [e1,e2,if_neg (by simp;omega)]
  ·have:=g2 (by omega)
   rw [h] at this;cases this
theorem edges_row {r209 r214 r219:Int × Int × Int} {K:List Int} {nl:Nat} (hb:1<=base/\base<=4) (hs:base<=st/\st<=6) (e1:wr (1+r9.1)=base) (e2:wr (base+r14.1)=st) (hK:aMY K base st) (hto:0<=r219.1/\r219.1 < base) (hlab:0<=r214.1/\r214.1 < nl)
  {s1:Int} (s2:Int) (h:0<=s1/\s1<=10000000000) {ed:List Edge} (hed:∀ e∈ed,aJH st nl e) (hel:ed.length<=1000):
  ∃ a b ed',loop (fun s:Int × Int × List Edge × Int=>aCm c r9 r14 K r209 r214 r219 s.1 s.2.1 s.2.2.1 s.2.2.2) (s1,s2,ed,0)=some (a,b,ed')/\(∀ e∈ed',aJH st nl e)/\ed'.length<=ed.length+6/\s1<=a/\a<=s1+12:=by
 have hKl:K.length=st.toNat:=by have:=hK.1;omega
 have hst9:st.toNat < 4611686018427387904:=by omega
 obtain ⟨al,ha1,ha2,ha3⟩:=alike_ok (r9:=r9) (r14:=r14) (r219:=r219) hb hs e1 e2 hK hto
 have key:=aIQ (step:=fun s:Int × Int × List Edge × Int=>aCm c r9 r14 K r209 r214 r219 s.1 s.2.1 s.2.2.1 s.2.2.2) st.toNat (fun k (a:Int × Int × List Edge)=>(a.1,a.2.1,a.2.2,(k:Int))) (fun k a=>(∀ e∈a.2.2,aJH st nl e)/\a.2.2.length<=ed.length+k/\s1<=a.1/\a.1<=s1+2 * k)
  (fun r=>(∀ e∈r.2.2,aJH st nl e)/\r.2.2.length<=ed.length+6/\s1<=r.1/\r.1<=s1+12) (fun k a hk hI=>?_) (fun a hI=>?_) st.toNat 0 (s1,s2,ed) (by omega) ⟨hed,by simp,by simp,by simp⟩
 ·obtain ⟨⟨a,b,K⟩,h1,g1,g2,g3⟩:=key
  exact ⟨a,b,K,h1,g1,g2,g3⟩
 ·obtain ⟨x,y,o⟩:=a
  obtain ⟨g1,g2,g3,g4⟩:=hI
  simp only at g1 g2 g3 g4 ⊢
  have hkl:k < K.length:=by rw [hKl];exact hk
  unfold aCm
  rw [e1,e2,if_pos (by simp;omega),aAM hkl,lJ]
  unfold rS rR
  rw [aAg hk (show st.toNat < 4611686018427387904 from hst9)]
  by_cases he:K[k]=r209.1
  ·rw [if_neg (by simp [he]),ha1,lJ]
   obtain ⟨v,t1,t2,e,q1,q2,q3⟩:=among_ok c y (s1:=x) (by omega) ha2
   rw [e,lJ,aGO (by simp [lim];omega),lJ]
   have hv:=ha3 v q1
   refine ⟨(t1,t2,_),rfl,fun e he=>?_,by simp;omega,by simp only;omega,by simp only;omega⟩
   rcases List.mem_append.1 he with he|he
   ·exact g1 e he
   ·rw [List.mem_singleton] at he
    subst he
    exact ⟨by simp only;omega,by simp only;omega,hlab⟩
  ·rw [if_pos (by simpa using he)]
   exact ⟨(x,y,o),rfl,g1,by simp only;omega,by simp only;omega,by simp only;omega⟩
 ·obtain ⟨x,y,o⟩:=a
  obtain ⟨g1,g2,g3,g4⟩:=hI
  simp only at g1 g2 g3 g4 ⊢
  refine ⟨(x,y,o),?_,g1,by simp only;omega,g3,by simp only;omega⟩
  unfold aCm
  rw [e1,e2,if_neg (by simp;omega)]
theorem edges_all {r19:List aZ × Int × Int} {K:List Int} (hb:1<=base/\base<=4) (hs:base<=st/\st<=6) (e1:wr (1+r9.1)=base) (e2:wr (base+r14.1)=st) (hK:aMY K base st) (hL:1<=r19.1.length/\r19.1.length<=7) {s1 m:Int} (s2:Int) (h:0<=s1/\s1<=1000000000) (hm:0<=m/\m<=9):
  ∃ a b ed,loop (fun s:Int × Int × List Edge × Int=>aBx c r9 r14 r19 K s.1 s.2.1 s.2.2.1 s.2.2.2) (s1,s2,([]:List Edge),m)=some (a,b,ed)/\(∀ e∈ed,aJH st r19.1.length e)/\ed.length<=54/\s1<=a/\a<=s1+200:=by
 have key:=aIQ (step:=fun s:Int × Int × List Edge × Int=>aBx c r9 r14 r19 K s.1 s.2.1 s.2.2.1 s.2.2.2) m.toNat (fun k (a:Int × Int × List Edge)=>(a.1,a.2.1,a.2.2,m - (k:Int))) (fun k a=>(∀ e∈a.2.2,aJH st r19.1.length e)/\a.2.2.length<=6 * k/\s1<=a.1/\a.1<=s1+18 * k)
  (fun r=>(∀ e∈r.2.2,aJH st r19.1.length e)/\r.2.2.length<=54/\s1<=r.1/\r.1<=s1+200) (fun k a hk hI=>?_) (fun a hI=>?_) m.toNat 0 (s1,s2,[]) (by omega) ⟨by simp,by simp,by simp,by simp⟩
 ·obtain ⟨⟨a,b,K⟩,h1,g1,g2,g3⟩:=key
  exact ⟨a,b,K,by simpa using h1,g1,g2,g3⟩
 ·obtain ⟨x,y,o⟩:=a
  obtain ⟨g1,g2,g3,g4⟩:=hI
  simp only at g1 g2 g3 g4 ⊢
  obtain ⟨v,t1,t2,q,q1,q2,q3⟩:=aJj c y (s1:=x) (n:=base) (by omega) (by omega)
  obtain ⟨v',t1',t2',q',q1',q2',q3'⟩:=aJj c t2 (s1:=t1) (n:=(r19.1.length:Int)) (by omega) (by omega)
  obtain ⟨v'',t1'',t2'',q'',q1'',q2'',q3''⟩:=aJj c t2' (s1:=t1') (n:=base) (by omega) (by omega)
  obtain ⟨a,b,ed',p1,p2,p3,p4,p5⟩:=edges_row (c:=c) (r9:=r9) (r14:=r14) (r209:=(v,t1,t2)) (r214:=(v',t1',t2')) (r219:=(v'',t1'',t2'')) (nl:=r19.1.length) hb hs e1 e2 hK q1'' q1' t2'' (s1:=t1'') (by omega) g1 (by omega)
  unfold aBx
  rw [if_pos (by simp;omega),e1,q,lJ,q',lJ,q'',lJ,p1,lJ]
  unfold rQ yA
  have hw:wr (m - (k:Int) - 1)=m - ((k+1:Nat):Int):=by rw [aHw (by omega) (by omega)];omega
  rw [hw]
  exact ⟨(a,b,ed'),rfl,p2,by simp only;omega,by simp only;omega,by simp only;omega⟩
 ·obtain ⟨x,y,o⟩:=a
  obtain ⟨g1,g2,g3,g4⟩:=hI
  simp only at g1 g2 g3 g4 ⊢
  refine ⟨(x,y,o),?_,g1,by simp only;omega,g3,by simp only;omega⟩
  unfold aBx
  rw [if_neg (by simp;omega)]
end
theorem drawOk_ok (c:aZ) {s1:Int} (s2:Int) (h:0<=s1/\s1<=100000000):∃ t s1' s2',aCn c s1 s2=some (t,s1',s2')/\(Drn 55 t/\t.N<=6)/\s1<=s1'/\s1'<=s1+300:=by
 obtain ⟨v9,a9,b9,x9,y9,z9,w9⟩:=aJj c s2 (s1:=s1) (n:=4) (by omega) (by omega)
 have e1:wr (1+v9)=1+v9:=aHw (by omega) (by omega)
 have e1':wr (7 - (1+v9))=7 - (1+v9):=aHw (by omega) (by omega)
 obtain ⟨v14,a14,b14,x14,y14,z14,w14⟩:=aJj c b9 (s1:=a9) (n:=7 - (1+v9)) (by omega) (by omega)
 have e2:wr (1+v9+v14)=1+v9+v14:=aHw (by omega) (by omega)
 obtain ⟨L,a19,b19,x19,⟨y19,y19',y19''⟩,z19,w19⟩:=names_ok c b14 (s1:=a14) (by omega)
 have hb:1<=1+v9/\1+v9<=4:=by omega
 have hs:1+v9<=1+v9+v14/\1+v9+v14<=6:=by omega
 obtain ⟨ak,bk,K,xk,yk,zk,wk⟩:=kinds_ok (c:=c) (r9:=(v9,a9,b9)) (r14:=(v14,a14,b14)) hb hs e1 e2 b19 (s1:=a19) (by omega)
 have e3:wr (2+wr (2 * (1+v9)))=2+2 * (1+v9):=by rw [aHw (x:=2 * (1+v9)) (by omega) (by omega),aHw (by omega) (by omega)]
 obtain ⟨vm,am,bm,xm,ym,zm,wm⟩:=aJj c bk (s1:=ak) (n:=2+2 * (1+v9)) (by omega) (by omega)
 obtain ⟨ae,be,ed,xe,ye,ye',ze,we⟩:=edges_all (c:=c) (r9:=(v9,a9,b9)) (r14:=(v14,a14,b14)) (r19:=(L,a19,b19)) hb hs e1 e2 yk ⟨y19',y19''⟩ bm (s1:=am) (m:=vm) (by omega) (by omega)
 have hfin:∀ (s t:Int) (E:List Edge),(∀ e∈E,aJH (1+v9+v14) L.length e)->E.length<=55->ae<=s->s<=ae+8->∃ t' s1' s2',rO c (v9,a9,b9) (v14,a14,b14) (L,a19,b19) s t E=some (t',s1',s2')/\(Drn 55 t'/\t'.N<=6)/\ae<=s1'/\s1'<=ae+10:=by
  intro s t E hE hEl hs1 hs2
  unfold rO
  simp only
  rw [e1,e2]
  obtain ⟨v,a,b,q,q1,q2,q3⟩:=aJj c t (s1:=s) (n:=1+v9+v14) (by omega) (by omega)
  obtain ⟨t',m1,m2,m3,m4⟩:=aOq y19 (by omega) (st:=1+v9+v14) (ini:=v) (by omega) q1 (edges:=E) (by omega) (fun e he=>by have:=hE e he;unfold aJH at this;exact ⟨this.1,this.2.1,this.2.2⟩)
  rw [q,lJ,m1,lJ]
  exact ⟨_,_,_,rfl,⟨m2.mono hEl,by omega⟩,by simp only;omega,by simp only;omega⟩
 unfold aCn
 rw [x9,lJ]
 simp only
 rw [e1,e1',x14,lJ,x19,lJ,xk,lJ]
 unfold pM
 simp only
 rw [e1,e3,xm,lJ,xe,lJ]
 unfold rP
 simp only
 rw [e1,e2]
 obtain ⟨bb,ao,bo,xo,zo,wo⟩:=one_ok c be (s1:=ae) (n:=3) (by omega) (by omega)
 rw [xo,lJ]
 simp only
 cases bb with
 |false=>
  rw [if_neg (by simp)]
  obtain ⟨t',s1',s2',r1,r2,r3,r4⟩:=hfin ao bo ed ye (by omega) (by omega) (by omega)
  exact ⟨t',s1',s2',r1,r2,by omega,by omega⟩
 |true=>
  rw [if_pos rfl]
  obtain ⟨v1,a1,b1,p1,p1',p1'',p1'''⟩:=aJj c bo (s1:=ao) (n:=1+v9+v14) (by omega) (by omega)
  obtain ⟨v2,a2,b2,p2,p2',p2'',p2'''⟩:=aJj c b1 (s1:=a1) (n:=(L.length:Int)) (by omega) (by omega)
  obtain ⟨v3,a3,b3,p3,p3',p3'',p3'''⟩:=aJj c b2 (s1:=a2) (n:=1+v9+v14) (by omega) (by omega)
  rw [p1,lJ,p2,lJ,p3,lJ,aGO (by simp [lim];omega),lJ]
  obtain ⟨t',s1',s2',r1,r2,r3,r4⟩:=hfin a3 b3 (ed++[⟨v1,v2,v3⟩]) (fun e he=>by
   rcases List.mem_append.1 he with he|he
   ·exact ye e he
   ·rw [List.mem_singleton] at he
    subst he
    exact ⟨p1',p3',p2'⟩) (by simp;omega) (by omega) (by omega)
  exact ⟨t',s1',s2',r1,r2,by omega,by omega⟩
theorem aNJ (c:aZ) {s1:Int} (s2:Int) (h:0<=s1/\s1<=10000000):∃ t s1' s2',zX c s1 s2=some (t,s1',s2')/\(Drn 60 t/\t.N<=6)/\s1<=s1'/\s1'<=s1+500:=by
 obtain ⟨t,a,b,x,⟨y,ys⟩,z,w⟩:=drawOk_ok c s2 (s1:=s1) (by omega)
 have hed:=y.ed
 have hlab:=y.ok.2.2.1
 have hst:=y.ok.1
 have hini:=y.ok.2.1
 have hin:∀ e∈t.E,aJH t.N t.L.length e:=fun e he=>by
  have:=aKP y.ok he
  unfold inT at this
  exact ⟨this.1,this.2.1,this.2.2⟩
 have key:=aIQ (step:=fun s:Int × Int × List Edge × Int=>aCp c (t,a,b) s.1 s.2.1 s.2.2.1 s.2.2.2) t.E.length (fun k (q:Int × Int × List Edge)=>(q.1,q.2.1,q.2.2,(k:Int))) (fun k q=>(∀ e∈q.2.2,aJH t.N t.L.length e)/\q.2.2.length<=k/\a<=q.1/\q.1<=a+2 * k)
  (fun r=>(∀ e∈r.2.2,aJH t.N t.L.length e)/\r.2.2.length<=55/\a<=r.1/\r.1<=a+110) (fun k q hk hI=>?_) (fun q hI=>?_) t.E.length 0 (a,b,[]) (by omega) ⟨by simp,by simp,by simp,by simp⟩
 ·obtain ⟨⟨a1,b1,E⟩,h1,g1,g2,g3,g4⟩:=key
  simp only at g1 g2 g3 g4
  have h1':loop (fun s:Int × Int × List Edge × Int=>aCp c (t,a,b) s.1 s.2.1 s.2.2.1 s.2.2.2) (a,b,([]:List Edge),0)=some (a1,b1,E):=h1
  obtain ⟨vm,am,bm,xm,ym,zm,wm⟩:=aJj c b1 (s1:=a1) (n:=3) (by omega) (by omega)
  have key2:=aIQ (step:=fun s:Int × Int × List Edge × Int=>aCo c (t,a,b) s.1 s.2.1 s.2.2.1 s.2.2.2) vm.toNat (fun k (q:Int × Int × List Edge)=>(q.1,q.2.1,q.2.2,vm - (k:Int))) (fun k q=>(∀ e∈q.2.2,aJH t.N t.L.length e)/\q.2.2.length<=55+k/\am<=q.1/\q.1<=am+4 * k)
   (fun r=>(∀ e∈r.1,aJH t.N t.L.length e)/\r.1.length<=60/\am<=r.2.1/\r.2.1<=am+20) (fun k q hk hI=>?_) (fun q hI=>?_) vm.toNat 0 (am,bm,E) (by omega) ⟨g1,by simp only;omega,by simp,by simp⟩
  ·obtain ⟨⟨F,a2,b2⟩,h2,q1,q2,q3,q4⟩:=key2
   simp only at q1 q2 q3 q4
   have h2':loop (fun s:Int × Int × List Edge × Int=>aCo c (t,a,b) s.1 s.2.1 s.2.2.1 s.2.2.2) (am,bm,E,vm)=some (F,a2,b2):=by simpa using h2
   obtain ⟨t',m1,m2,m3,m4⟩:=aOq (T:=t.L) (fun s hs=>y.nm s hs) (by have:=hlab.2.1;omega) (st:=t.N) (ini:=t.I) (by have:=y.st;omega) (by omega) (edges:=F) (by omega) (fun e he=>by have:=q1 e he;unfold aJH at this;exact ⟨this.1,this.2.1,this.2.2⟩)
   unfold zX
   rw [x,lJ,h1',lJ]
   unfold rV
   rw [xm,lJ,h2',lJ]
   unfold rU
   rw [m1,lJ]
   exact ⟨_,_,_,rfl,⟨m2.mono q2,by omega⟩,by simp only;omega,by simp only;omega⟩
  ·obtain ⟨x2,y2,o⟩:=q
   obtain ⟨i1,i2,i3,i4⟩:=hI
   simp only at i1 i2 i3 i4 ⊢
   obtain ⟨v1,t1,t1',p1,p1',p1'',p1'''⟩:=aJj c y2 (s1:=x2) (n:=t.N) (by omega) (by omega)
   obtain ⟨v2,t2,t2',p2,p2',p2'',p2'''⟩:=aJj c t1' (s1:=t1) (n:=t.N) (by omega) (by omega)
   unfold aCo
   rw [if_pos (by simp;omega),p1,lJ,p2,lJ,aGO (by simp [lim];omega),lJ]
   have hw:wr (vm - (k:Int) - 1)=vm - ((k+1:Nat):Int):=by rw [aHw (by omega) (by omega)];omega
   rw [hw]
   refine ⟨(t2,t2',_),rfl,fun e he=>?_,by simp;omega,by simp only;omega,by simp only;omega⟩
   rcases List.mem_append.1 he with he|he
   ·exact i1 e he
   ·rw [List.mem_singleton] at he
    subst he
    exact ⟨p1',p2',by simp only;have:=hlab.1;omega⟩
  ·obtain ⟨x2,y2,o⟩:=q
   obtain ⟨i1,i2,i3,i4⟩:=hI
   simp only at i1 i2 i3 i4 ⊢
   refine ⟨(o,x2,y2),?_,i1,by simp only;omega,i3,by simp only;omega⟩
   unfold aCo
   rw [if_neg (by simp;omega)]
 ·obtain ⟨x2,y2,o⟩:=q
  obtain ⟨i1,i2,i3,i4⟩:=hI
  simp only at i1 i2 i3 i4 ⊢
  have he:=hin _ (List.getElem_mem hk)
  obtain ⟨bb,ao,bo,xo,zo,wo⟩:=one_ok c y2 (s1:=x2) (n:=3) (by omega) (by omega)
  have hw:wr ((k:Int)+1)=((k+1:Nat):Int):=aAg hk (by omega)
  unfold aCp
  rw [if_pos (aBK hk),aAM hk,lJ,xo,lJ]
  have hgo:∀ l:Int,0<=l/\l < t.L.length->∃ q':Int × Int × List Edge,rW o (k:Int) t.E[k] ao bo l=some (.inl (q'.1,q'.2.1,q'.2.2,((k+1:Nat):Int)))/\(∀ e∈q'.2.2,aJH t.N t.L.length e)/\q'.2.2.length<=k+1/\a<=q'.1/\q'.1<=a+2 * ((k+1:Nat):Int):=by
   intro l hl
   unfold rW
   rw [aGO (by simp [lim];omega),lJ,hw]
   refine ⟨(ao,bo,_),rfl,fun e he'=>?_,by simp;omega,by simp only;omega,by simp only;omega⟩
   rcases List.mem_append.1 he' with he'|he'
   ·exact i1 e he'
   ·rw [List.mem_singleton] at he'
    subst he'
    exact ⟨he.1,he.2.1,hl⟩
  simp only
  cases bb with
  |false=>rw [if_neg (by simp)];exact hgo _ he.2.2
  |true=>rw [if_pos rfl];exact hgo 0 (by have:=hlab.1;omega)
 ·obtain ⟨x2,y2,o⟩:=q
  obtain ⟨i1,i2,i3,i4⟩:=hI
  simp only at i1 i2 i3 i4 ⊢
  refine ⟨(x2,y2,o),?_,i1,by simp only;omega,i3,by simp only;omega⟩
  unfold aCp
  rw [if_neg (by simp)]
end Gv
namespace Gv
open Go
theorem aMZ (a b:List Int) (h:a.length < 4611686018427387904):sZ a b=some (decide (a=b)):=by
 unfold sZ
 by_cases hl:a.length=b.length
 ·rw [if_neg (by simp [hl])]
  have:=aJT (step:=fun s=>aEJ a b s) (a.zip b) (fun p=>decide (p.1=p.2)) (.inr false) (.inl ()) (fun k x hk hx=>?_) ?_
  ·rw [this,lJ]
   by_cases he:a=b
   ·subst he
    have:((a.zip a).all fun p=>decide (p.1=p.2))=true:=by
     rw [List.all_eq_true]
     intro p hp
     obtain ⟨i,hi,rfl⟩:=List.mem_iff_getElem.1 hp
     rw [List.getElem_zip];simp
    rw [if_pos this,decide_eq_true rfl];rfl
   ·have:¬ ((a.zip b).all fun p=>decide (p.1=p.2))=true:=fun h'=>he (List.ext_getElem hl fun i h1 h2=>by
     rw [List.all_eq_true] at h'
     have hiz:i < (a.zip b).length:=by rw [List.length_zip];omega
     have:=h' (a.zip b)[i] (List.getElem_mem hiz)
     rw [List.getElem_zip] at this
     simpa using this)
    rw [if_neg this,decide_eq_false he]
  ·have hzl:(a.zip b).length=a.length:=by rw [List.length_zip];omega
   rw [hzl] at hk
   obtain ⟨hk',rfl⟩:=aJi hx
   unfold aEJ
   rw [if_pos (aBK hk),aAM hk,lJ,aAM (by omega),lJ,List.getElem_zip]
   by_cases e:a[k]=b[k]'(by omega)
   ·rw [if_neg (by simp [e]),if_pos (by simp [e]),aAg hk h]
   ·rw [if_pos (by simpa using e),if_neg (by simpa using e)]
  ·have hzl:(a.zip b).length=a.length:=by rw [List.length_zip];omega
   rw [hzl]
   unfold aEJ
   rw [if_neg (by simp)]
 ·rw [if_pos (by simp;omega),decide_eq_false (fun h=>hl (by rw [h]))]
theorem put_ok (l:List Int) (n:Int) (hl:l.length<=1000000):∃ l',aEK l n=some l'/\l'.length<=l.length+1:=by
 have key:=aIQ (step:=fun s:List Int × Bool × Int=>aFY l n s.1 s.2.1 s.2.2) l.length (fun k (a:List Int × Bool)=>(a.1,a.2,(k:Int))) (fun k a=>a.1.length<=k+(if a.2=true then 1 else 0)) (fun r=>r.1.length<=l.length+(if r.2=true then 1 else 0)) (fun k a hk hI=>?_) (fun a hI=>?_) l.length 0 ([],false) (by omega) (by simp)
 ·obtain ⟨⟨o,d⟩,h1,h2⟩:=key
  have h1':loop (fun s:List Int × Bool × Int=>aFY l n s.1 s.2.1 s.2.2) (([]:List Int),false,0)=some (o,d):=h1
  unfold aEK
  rw [h1',lJ]
  unfold zQ zO
  simp only at h2 ⊢
  cases d with
  |true=>rw [if_neg (by simp)];exact ⟨_,rfl,by simpa using h2⟩
  |false=>
   simp at h2
   rw [if_pos (by simp),aGO (by simp [lim];omega),lJ]
   exact ⟨_,rfl,by simp;omega⟩
 ·obtain ⟨o,d⟩:=a
  simp only at hI ⊢
  have hw:wr ((k:Int)+1)=((k+1:Nat):Int):=aAg hk (by omega)
  have h3:∀ o':List Int,∀ d',o'.length<=2000000->vD l (k:Int) o' d'=some (.inl (o'++[l[k]],d',((k+1:Nat):Int))):=fun o' d' ho=>by
   unfold vD
   rw [aAM hk,lJ,aGO (by simp [lim];omega),lJ,hw]
  have ho:o.length<=k+1:=by
   cases d<;>simp at hI<;>omega
  unfold aFY
  rw [if_pos (aBK hk)]
  have h4:∀ v:Bool,(v=true->d=false)->∃ a':List Int × Bool,zU l n o d (k:Int) v=some (.inl (a'.1,a'.2,((k+1:Nat):Int)))/\a'.1.length<=(k+1)+(if a'.2=true then 1 else 0):=by
   intro v hv
   unfold zU
   cases v with
   |false=>
    rw [if_neg (by simp),h3 o d (by omega)]
    exact ⟨(o++[l[k]],d),rfl,by simp only [List.length_append,List.length_singleton];omega⟩
   |true=>
    have:=hv rfl
    subst this
    simp at hI
    rw [if_pos rfl,aAM hk,lJ]
    split
    ·rw [aGO (by simp [lim];omega),lJ,h3 _ true (by simp;omega)]
     exact ⟨(_,true),rfl,by simp;omega⟩
    ·rw [h3 o true (by omega)]
     exact ⟨(_,true),rfl,by simp;omega⟩
  cases d with
  |true=>rw [if_neg (by simp)];exact h4 false (by simp)
  |false=>
   rw [if_pos (by simp),aAM hk,lJ]
   exact h4 _ fun _=>rfl
 ·obtain ⟨o,d⟩:=a
  refine ⟨(o,d),?_,hI⟩
  show aFY l n o d (l.length:Int)=_
  unfold aFY
  rw [if_neg (by simp)]
section
variable {u:cI} {p:List Int}
theorem sign_ok (hu:Big u) (hp:aIX u p) (k:Int):∃ l,aFt u p k=some l/\l.length<=1000:=by
 have h5:=hu.ed
 have key:=aIQ (step:=fun s:List Int × Int=>aEL u p k s.1 s.2) u.E.length (fun i (a:List Int)=>(a,(i:Int))) (fun i a=>a.length<=i) (fun r=>r.length<=1000) (fun i a hi hI=>?_) (fun a hI=>?_) u.E.length 0 [] (by omega) (by simp)
 ·obtain ⟨l,h1,h2⟩:=key
  have h1':loop (fun s:List Int × Int=>aEL u p k s.1 s.2) (([]:List Int),0)=some l:=h1
  unfold aFt
  rw [h1',lJ]
  exact ⟨l,rfl,h2⟩
 ·have he:=hu.inn _ (List.getElem_mem hi)
  have hw:wr ((i:Int)+1)=((i+1:Nat):Int):=aAg hi (by omega)
  show ∃ a',aEL u p k a (i:Int)=_/\_
  unfold aEL wG
  rw [if_pos (aBK hi),aAM hi,lJ]
  split
  ·rw [(aJX hp he.2.1).1,lJ]
   obtain ⟨l',h1,h2⟩:=put_ok a (wr (wr (u.E[i].B * (p.length:Int))+p.getD u.E[i].To.toNat 0)) (by omega)
   rw [h1,lJ,hw]
   exact ⟨l',rfl,by omega⟩
  ·rw [hw]
   exact ⟨a,rfl,by omega⟩
 ·refine ⟨a,?_,by omega⟩
  show aEL u p k a (u.E.length:Int)=_
  unfold aEL
  rw [if_neg (by simp)]
end
def kz (p:List Int) (rows:List (List Int)):List (List Int):=List.zipWith (fun a r=>a::r) p rows
section
variable {p:List Int} {rows:List (List Int)}
theorem aKv (h:rows.length=p.length):(kz p rows).length=p.length:=by unfold kz;simp [h]
theorem aOr (h:rows.length=p.length) {k:Nat} (hk:k < p.length):(kz p rows)[k]'(by rw [aKv h];exact hk)=p[k]::rows[k]'(by omega):=by unfold kz;simp
theorem num_inner (hl:rows.length=p.length) (hs:p.length<=1000) (hr:∀ r∈rows,r.length<=100000) {k:Nat} (hk:k < p.length):
  loop (fun s:Int × Int=>aCa p rows (cn ((kz p rows).take k)) (k:Int) s.1 s.2) (-1,0)=some (if (kz p rows)[k]'(by rw [aKv hl];exact hk)∈(kz p rows).take k then pos (dd ((kz p rows).take k)) ((kz p rows)[k]'(by rw [aKv hl];exact hk)) else -1):=by
 have hkz:=aKv hl
 have hkk:k < (kz p rows).length:=by omega
 have hcl:(cn ((kz p rows).take k)).length=k:=by rw [aKO,List.length_take];omega
 have key:=aJt (step:=fun s:Int × Int=>aCa p rows (cn ((kz p rows).take k)) (k:Int) s.1 s.2)
  (fun s=>∃ j:Nat,s.2=(j:Int)/\j<=k/\((s.1=-1/\∀ i,(hi:i < j)->(hj:j<=k)->(kz p rows)[i]'(by omega)≠(kz p rows)[k])\/((kz p rows)[k]∈(kz p rows).take k/\s.1=pos (dd ((kz p rows).take k)) (kz p rows)[k])))
  (fun s=>k+1 - s.2.toNat) (fun r=>r=if (kz p rows)[k]∈(kz p rows).take k then pos (dd ((kz p rows).take k)) (kz p rows)[k] else -1) (fun s hI=>?_) (s:=(-1,0)) ⟨0,rfl,Nat.zero_le _,.inl ⟨rfl,fun i hi=>by omega⟩⟩
 ·obtain ⟨r,h1,h2⟩:=key
  rw [h1,h2]
 ·obtain ⟨n,jj⟩:=s
  obtain ⟨j,rfl,hjk,hI⟩:=hI
  simp only at hI ⊢
  have hout:rB p rows (cn ((kz p rows).take k)) (k:Int) n (j:Int) false=some (.inr n):=by unfold rB;rw [if_neg (by simp)]
  rcases hI with ⟨rfl,hno⟩|⟨hin,rfl⟩
  ·by_cases hj:j < k
   ·left
    have hw:wr ((j:Int)+1)=((j+1:Nat):Int):=aAg hj (by omega)
    have hjp:j < p.length:=by omega
    have e1:=aOr hl hjp
    have e2:=aOr hl hk
    unfold aCa
    rw [if_pos (aBK hj),show decide ((-1:Int) < 0)=true from rfl]
    unfold rB
    rw [if_pos rfl,aAM hjp,lJ,aAM hk,lJ]
    have hgo:rA (cn ((kz p rows).take k)) (-1) (j:Int) false=some (.inl (-1,((j+1:Nat):Int))):=by
     unfold rA qZ
     rw [if_neg (by simp),hw]
    have hstay:(kz p rows)[j]'(by omega)≠(kz p rows)[k]->∃ j':Nat,((j+1:Nat):Int)=(j':Int)/\j'<=k/\(((-1:Int)=-1/\∀ i,(hi:i < j')->(hj:j'<=k)->(kz p rows)[i]'(by omega)≠(kz p rows)[k])\/((kz p rows)[k]∈(kz p rows).take k/\(-1:Int)=pos (dd ((kz p rows).take k)) (kz p rows)[k])):=fun hne=>by
     refine ⟨j+1,rfl,hj,.inl ⟨rfl,fun i hi _=>?_⟩⟩
     by_cases e:i=j
     ·subst e;exact hne
     ·exact hno i (by omega) hjk
    by_cases hp:p[j]=p[k]
    ·rw [if_pos (by simpa using hp),aAM (show j < rows.length by omega),lJ,aAM (show k < rows.length by omega),lJ,aMZ _ _ (by have:=hr _ (List.getElem_mem (show j < rows.length by omega));omega),lJ]
     by_cases hrr:rows[j]'(by omega)=rows[k]'(by omega)
     ·have hkey:(kz p rows)[j]'(by omega)=(kz p rows)[k]:=by rw [e1,e2,hp,hrr]
      have hin:(kz p rows)[k]∈(kz p rows).take k:=by
       rw [←hkey,List.mem_take_iff_getElem]
       exact ⟨j,by omega,rfl⟩
      have hc:(cn ((kz p rows).take k))[j]?=some (pos (dd ((kz p rows).take k)) (kz p rows)[k]):=by
       rw [aLR (show j < ((kz p rows).take k).length by rw [List.length_take];omega),List.getElem_take,hkey]
      rw [hrr]
      unfold rA qZ
      rw [decide_eq_true rfl,if_pos rfl,aKt,hc]
      show ∃ s',ob (some _) _=_/\_
      rw [lJ,hw]
      exact ⟨(_,((j+1:Nat):Int)),rfl,⟨j+1,rfl,hj,.inr ⟨hin,rfl⟩⟩,by simp only;omega⟩
     ·rw [decide_eq_false hrr,hgo]
      refine ⟨(-1,((j+1:Nat):Int)),rfl,hstay (fun e=>?_),by simp only;omega⟩
      rw [e1,e2,List.cons.injEq] at e
      exact hrr e.2
    ·rw [if_neg (by simpa using hp),hgo]
     refine ⟨(-1,((j+1:Nat):Int)),rfl,hstay (fun e=>?_),by simp only;omega⟩
     rw [e1,e2,List.cons.injEq] at e
     exact hp e.1
   ·right
    obtain rfl:j=k:=by omega
    refine ⟨-1,?_,?_⟩
    ·unfold aCa
     rw [if_neg (by simp),hout]
    ·rw [if_neg]
     rw [List.mem_take_iff_getElem]
     rintro ⟨i,hi,e⟩
     exact hno i (by omega) (Nat.le_refl _) e
  ·right
   refine ⟨_,?_,by rw [if_pos hin]⟩
   have hpos:0<=pos (dd ((kz p rows).take k)) (kz p rows)[k]:=aKf.2 (aJR.2 hin)
   unfold aCa
   rw [show decide (pos (dd ((kz p rows).take k)) (kz p rows)[k] < 0)=false from decide_eq_false (by omega),hout]
   split<;>rfl
theorem num_eq (hl:rows.length=p.length) (hs:p.length<=1000) (hr:∀ r∈rows,r.length<=100000):pF p rows=some (cn (kz p rows)):=by
 have hkz:=aKv hl
 have key:=aIQ (step:=fun s:List Int × Int × Int=>aCb p rows s.1 s.2.1 s.2.2) p.length (fun k (a:List Int × Int)=>(a.1,a.2,(k:Int))) (fun k a=>a.1=cn ((kz p rows).take k)/\a.2=((dd ((kz p rows).take k)).length:Int)) (fun r=>r=cn (kz p rows)) (fun k a hk hI=>?_) (fun a hI=>?_) p.length 0 ([],0) (by omega) ⟨rfl,rfl⟩
 ·obtain ⟨r,h1,rfl⟩:=key
  have h1':loop (fun s:List Int × Int × Int=>aCb p rows s.1 s.2.1 s.2.2) (([]:List Int),0,0)=some (cn (kz p rows)):=h1
  unfold pF
  rw [h1',lJ];rfl
 ·obtain ⟨o,m⟩:=a
  obtain ⟨rfl,rfl⟩:=hI
  have hkk:k < (kz p rows).length:=by omega
  have hcl:(cn ((kz p rows).take k)).length=k:=by rw [aKO,List.length_take];omega
  have hw:wr ((k:Int)+1)=((k+1:Nat):Int):=aAg hk (by omega)
  have e1:(kz p rows).take (k+1)=(kz p rows).take k++[(kz p rows)[k]]:=by rw [List.take_add_one,List.getElem?_eq_getElem hkk];rfl
  have hdl:(dd ((kz p rows).take k)).length<=1000:=by
   have h2:(dd ((kz p rows).take k)).length<=((kz p rows).take k).length:=by
    have:∀ (l:List (List Int)),(dd l).length<=l.length:=by
     intro l
     unfold dd
     have hg:∀ (m F:List (List Int)),(m.foldl (aJv id) F).length<=F.length+m.length:=by
      intro m
      induction m with
      |nil=>intro F;simp
      |cons x m ih=>
       intro F
       have:=ih (aJv id F x)
       have h3:=aLB (key:=id) F x
       simp only [List.foldl_cons,List.length_cons];omega
     have:=hg l []
     simpa using this
    exact this _
   rw [List.length_take] at h2;omega
  show ∃ a':List Int × Int,aCb p rows (cn ((kz p rows).take k)) _ (k:Int)=_/\_
  unfold aCb
  rw [if_pos (aBK hk),num_inner hl hs hr hk,lJ,e1,aOl,aLD,aOk]
  unfold qY qX xW
  by_cases hin:(kz p rows)[k]∈(kz p rows).take k
  ·have hpos:0<=pos (dd ((kz p rows).take k)) (kz p rows)[k]:=aKf.2 (aJR.2 hin)
   rw [if_pos hin,if_neg (by simp;omega),aGO (by simp [lim];omega),lJ,hw,if_pos (aJR.2 hin)]
   refine ⟨(_,_),rfl,rfl,?_⟩
   have:aJv id (dd ((kz p rows).take k)) (kz p rows)[k]=dd ((kz p rows).take k):=by
    unfold aJv
    rw [if_pos (by rw [List.map_id];exact aJR.2 hin)]
   simp only [this]
  ·rw [if_neg hin,if_pos (by simp),aGO (by simp [lim];omega),lJ,hw,if_neg (fun h=>hin (aJR.1 h))]
   refine ⟨(_,_),rfl,rfl,?_⟩
   have:aJv id (dd ((kz p rows).take k)) (kz p rows)[k]=dd ((kz p rows).take k)++[(kz p rows)[k]]:=by
    unfold aJv
    rw [if_neg (by rw [List.map_id];exact fun h=>hin (aJR.1 h))]
   simp only [this,List.length_append,List.length_singleton]
   first
    |omega
    |(rw [aHw (by omega) (by omega)];omega)
 ·obtain ⟨o,m⟩:=a
  obtain ⟨rfl,rfl⟩:=hI
  refine ⟨_,?_,rfl⟩
  show aCb p rows (cn ((kz p rows).take p.length)) _ (p.length:Int)=_
  unfold aCb
  rw [if_neg (by simp),List.take_of_length_le (by omega)]
theorem aNK (hl:rows.length=p.length):aLV (cn (kz p rows)) p:=
 aPa (aKv hl) fun x y hx hy h=>by
  rw [List.getElem?_eq_getElem (by rw [aKv hl];exact hx),List.getElem?_eq_getElem (by rw [aKv hl];exact hy),aOr hl hx,aOr hl hy,Option.some.injEq,List.cons.injEq] at h
  rw [List.getElem?_eq_getElem hx,List.getElem?_eq_getElem hy,h.1]
end
section
variable {u:cI} {p:List Int}
theorem aPk (hu:Big u) (hp:aIX u p):∃ q,aCc u p=some q/\aIX u q/\cn q=q/\aLV q p:=by
 have h3:=hu.st
 have key:=aIQ (step:=fun s:List (List Int) × Int=>aBs u p s.1 s.2) u.N.toNat (fun k (a:List (List Int))=>(a,(k:Int))) (fun k a=>a.length=k/\∀ r∈a,r.length<=1000) (fun r=>r.length=u.N.toNat/\∀ x∈r,x.length<=1000) (fun k a hk hI=>?_) (fun a hI=>?_) u.N.toNat 0 [] (by omega) ⟨rfl,by simp⟩
 ·obtain ⟨rows,h1,h2,h4⟩:=key
  have h1':loop (fun s:List (List Int) × Int=>aBs u p s.1 s.2) (([]:List (List Int)),0)=some rows:=h1
  unfold aCc
  have hl:rows.length=p.length:=by rw [h2,hp.1]
  rw [h1',lJ,num_eq hl (by rw [hp.1];omega) (fun r hr=>by have:=h4 r hr;omega)]
  exact ⟨_,rfl,part_cn hu (by rw [aKv hl,hp.1]),cn_cn _,aNK hl⟩
 ·obtain ⟨g1,g2⟩:=hI
  obtain ⟨l,e,hl⟩:=sign_ok hu hp (k:Int)
  have hw:wr ((k:Int)+1)=((k+1:Nat):Int):=aAg hk (by omega)
  show ∃ a',aBs u p a (k:Int)=_/\_
  unfold aBs
  rw [if_pos (by simp;omega),e,lJ,aGO (by simp [lim];omega),lJ,hw]
  refine ⟨_,rfl,by simp;omega,fun r hr=>?_⟩
  rcases List.mem_append.1 hr with hr|hr
  ·exact g2 r hr
  ·simp at hr;subst hr;exact hl
 ·refine ⟨a,?_,hI⟩
  show aBs u p a ((u.N.toNat:Nat):Int)=_
  unfold aBs
  rw [if_neg (by simp;omega)]
theorem part0 (hu:Big u):mkz u.N (0:Int)=some (List.replicate u.N.toNat 0)/\aIX u (List.replicate u.N.toNat 0):=by
 have h3:=hu.st
 refine ⟨?_,by simp,fun z hz=>by rw [List.mem_replicate] at hz;omega⟩
 unfold mkz
 rw [if_pos ⟨by omega,by unfold lim;omega⟩]
theorem aPl (hu:Big u):∃ p n,aCe u=some (p,n)/\aIX u p:=by
 obtain ⟨hm,h0⟩:=part0 hu
 have h3:=hu.st
 unfold aCe
 rw [hm,lJ]
 have key:=aMT (step:=fun s:List Int × Int=>aCd u s.1 s.2) u.N.toNat (fun p s=>s.1=p/\aIX u p) (fun r=>aIX u r.1) (fun p s hl hc hI=>?_) (List.replicate u.N.toNat 0) (List.replicate u.N.toNat 0,0) (by simp) (aOZ _) ⟨rfl,h0⟩
 ·obtain ⟨⟨p,n⟩,h1,h2⟩:=key
  rw [h1,lJ]
  exact ⟨p,n,rfl,h2⟩
 ·obtain ⟨q,n⟩:=s
  obtain ⟨rfl,hp⟩:=hI
  obtain ⟨r,e,g1,g2,g3⟩:=aPk hu hp
  have hstep:aCd u q n=if decide (r=q)=true then some (.inr (q,n)) else some (.inl (r,wr (n+1))):=by
   unfold aCd
   rw [e,lJ,aMZ _ _ (by rw [g1.1];omega),lJ]
  show (∃ x,aCd u q n=_/\_)\/_
  by_cases h:r=q
  ·left
   rw [hstep,if_pos (by simpa using h)]
   exact ⟨_,rfl,hp⟩
  ·right
   refine ⟨r,(r,wr (n+1)),g3,g2,h,?_,rfl,g1⟩
   show aCd u q n=_
   rw [hstep,if_neg (by simpa using h)]
theorem aNL (hu:Big u):∃ p,aCV u=some p/\aIX u p:=by
 obtain ⟨p,n,h1,h2⟩:=aPl hu
 exact ⟨p,by unfold aCV;rw [h1,lJ],h2⟩
end
end Gv
namespace Gv
open Go
section
variable {u:cI} {p:List Int}
theorem aLI (hu:Big u) (hp:aIX u p) {e:Edge} (he:e∈u.E):∃ b,tA e p=some b:=by
 have h:=hu.inn e he
 unfold tA tQ
 split
 ·rw [(aJX hp h.1).1,lJ,(aJX hp h.2.1).1,lJ]
  exact ⟨_,rfl⟩
 ·exact ⟨_,rfl⟩
def cnt (l:List Bool):Nat:=l.count true
theorem cnt_le (l:List Bool):cnt l<=l.length:=List.count_le_length
theorem cnt_off {l:List Bool} {k:Nat} (hk:k < l.length) (h:l[k]=true):cnt (l.set k false) < cnt l:=by
 unfold cnt
 rw [List.count_set hk,h]
 have:0 < l.count true:=List.count_pos_iff.2 (h ▸ List.getElem_mem hk)
 simp;omega
theorem cnt_on {l:List Bool} {k:Nat} (hk:k < l.length) (h:l[k]=false):cnt l < cnt (l.set k true):=by
 unfold cnt
 rw [List.count_set hk,h]
 simp
theorem ixB {l:List Bool} {s:Int} (hl:l.length=u.N.toNat) (hs:inT u s):∃ hk:s.toNat < l.length,ix l s=some l[s.toNat]:=by
 unfold inT at hs
 exact ⟨by omega,aLi hs.1 (by omega)⟩
theorem div_goes (hu:Big u) (hp:aIX u p) {al:List Bool} (hl:al.length=u.N.toNat) (k:Int):∃ b,loop (fun s:Bool × Int=>aBt u p al k s.1 s.2) (false,0)=some b:=by
 have h5:=hu.ed
 have key:=aIQ (step:=fun s:Bool × Int=>aBt u p al k s.1 s.2) u.E.length (fun i (a:Bool)=>(a,(i:Int))) (fun _ _=>True) (fun _=>True) (fun i a hi _=>?_) (fun a _=>?_) u.E.length 0 false (by omega) trivial
 ·obtain ⟨b,h1,_⟩:=key
  exact ⟨b,h1⟩
 ·have he:=List.getElem_mem hi
  have hin:=hu.inn _ he
  have hw:wr ((i:Int)+1)=((i+1:Nat):Int):=aAg hi (by omega)
  have hj:∀ b,kT (i:Int) b=some (.inl (b,((i+1:Nat):Int))):=fun b=>by unfold kT;rw [hw]
  show ∃ a',aBt u p al k a (i:Int)=_/\_
  unfold aBt
  rw [if_pos (aBK hi),aAM hi,lJ]
  split
  ·exact ⟨_,hj _,trivial⟩
  ·split
   ·obtain ⟨b,hb⟩:=aLI hu hp he
    rw [hb,lJ]
    split
    ·obtain ⟨_,h2⟩:=ixB hl hin.2.1
     rw [h2,lJ]
     exact ⟨_,hj _,trivial⟩
    ·exact ⟨_,hj _,trivial⟩
   ·exact ⟨_,hj _,trivial⟩
 ·refine ⟨a,?_,trivial⟩
  show aBt u p al k a (u.E.length:Int)=_
  unfold aBt
  rw [if_neg (by simp)]
theorem div_round (hu:Big u) (hp:aIX u p) {al:List Bool} (hl:al.length=u.N.toNat):∃ al' m,loop (fun s:List Bool × Bool × Int=>aBu u p s.1 s.2.1 s.2.2) (al,false,0)=some (al',m)/\al'.length=u.N.toNat/\cnt al'<=cnt al/\(m=true->cnt al' < cnt al):=by
 have h3:=hu.st
 have key:=aIQ (step:=fun s:List Bool × Bool × Int=>aBu u p s.1 s.2.1 s.2.2) u.N.toNat (fun k (a:List Bool × Bool)=>(a.1,a.2,(k:Int))) (fun _ a=>a.1.length=u.N.toNat/\cnt a.1<=cnt al/\(a.2=true->cnt a.1 < cnt al)) (fun r=>r.1.length=u.N.toNat/\cnt r.1<=cnt al/\(r.2=true->cnt r.1 < cnt al)) (fun k a hk hI=>?_) (fun a hI=>?_) u.N.toNat 0 (al,false) (by omega) ⟨hl,Nat.le_refl _,fun h=>by cases h⟩
 ·obtain ⟨⟨al',m⟩,h1,h2⟩:=key
  exact ⟨al',m,h1,h2⟩
 ·obtain ⟨b,m⟩:=a
  obtain ⟨g1,g2,g3⟩:=hI
  simp only at g1 g2 g3 ⊢
  have hw:wr ((k:Int)+1)=((k+1:Nat):Int):=aAg hk (by omega)
  have hkb:k < b.length:=by omega
  have hj:∀ c n,mC (k:Int) c n=some (.inl (c,n,((k+1:Nat):Int))):=fun c n=>by unfold mC;rw [hw]
  unfold aBu
  rw [if_pos (by simp;omega),aAM hkb,lJ]
  by_cases hb:b[k]=true
  ·rw [if_neg (by simp [hb])]
   obtain ⟨c,hc⟩:=div_goes hu hp g1 (k:Int)
   rw [hc,lJ]
   unfold pI
   cases c with
   |true=>rw [if_neg (by simp),hj];exact ⟨(b,m),rfl,g1,g2,g3⟩
   |false=>
    have hst:st b (k:Int) false=some (b.set k false):=by
     unfold Gv.st
     rw [if_pos ⟨by omega,by omega⟩,Int.toNat_natCast]
    have hlt:=cnt_off hkb hb
    rw [if_pos (by simp),hst,lJ,hj]
    exact ⟨(b.set k false,true),rfl,by simp only [List.length_set];exact g1,by simp only;omega,fun _=>by simp only;omega⟩
  ·rw [if_pos (by simp [hb]),hj]
   exact ⟨(b,m),rfl,g1,g2,g3⟩
 ·obtain ⟨b,m⟩:=a
  refine ⟨(b,m),?_,hI⟩
  show aBu u p b m ((u.N.toNat:Nat):Int)=_
  unfold aBu
  rw [if_neg (by simp;omega)]
theorem aNa (hu:Big u) (hp:aIX u p):∃ al,wJ u p=some al/\al.length=u.N.toNat:=by
 have h3:=hu.st
 have hm:mkz u.N false=some (List.replicate u.N.toNat false):=by
  unfold mkz
  rw [if_pos ⟨by omega,by unfold lim;omega⟩]
 unfold wJ
 rw [hm,lJ]
 have key:=aIQ (step:=fun s:List Bool × Int=>aAC u s.1 s.2) u.N.toNat (fun k (a:List Bool)=>(a,(k:Int))) (fun _ a=>a.length=u.N.toNat) (fun r=>r.length=u.N.toNat) (fun k a hk hI=>?_) (fun a hI=>?_) u.N.toNat 0 (List.replicate u.N.toNat false) (by omega) (by simp)
 ·obtain ⟨al,h1,h2⟩:=key
  have h1':loop (fun s:List Bool × Int=>aAC u s.1 s.2) (List.replicate u.N.toNat false,0)=some al:=h1
  rw [h1',lJ]
  unfold nY pG
  have key2:=aJt (step:=fun s:List Bool × Bool=>aBv u p s.1 s.2) (fun s=>s.1.length=u.N.toNat) (fun s=>2 * cnt s.1+(if s.2=true then 1 else 0)) (fun r=>r.length=u.N.toNat) (fun s hI=>?_) (s:=(al,true)) h2
  ·obtain ⟨r,h3,h4⟩:=key2
   rw [h3,lJ]
   exact ⟨r,rfl,h4⟩
  ·obtain ⟨x,m⟩:=s
   show (∃ s',aBv u p x m=_/\_)\/_
   cases m with
   |false=>right;exact ⟨x,by unfold aBv;rw [if_neg (by simp)],hI⟩
   |true=>
    left
    obtain ⟨al',m',e,g1,g2,g3⟩:=div_round hu hp hI
    have g2:cnt al'<=cnt x:=g2
    have g3:m'=true->cnt al' < cnt x:=g3
    refine ⟨(al',m'),?_,g1,?_⟩
    ·unfold aBv
     rw [if_pos rfl,e,lJ];rfl
    ·show 2 * cnt al'+(if m'=true then 1 else 0) < 2 * cnt x+(if true=true then 1 else 0)
     rw [if_pos rfl]
     cases m' with
     |false=>rw [if_neg (by simp)];omega
     |true=>have:=g3 rfl;rw [if_pos rfl];omega
 ·have hw:wr ((k:Int)+1)=((k+1:Nat):Int):=aAg hk (by omega)
  have hka:k < a.length:=by omega
  show ∃ a',aAC u a (k:Int)=_/\_
  unfold aAC
  have hst:st a (k:Int) true=some (a.set k true):=by
   unfold Gv.st
   rw [if_pos ⟨by omega,by omega⟩,Int.toNat_natCast]
  rw [if_pos (by simp;omega),aAM hka,lJ,hst,lJ,hw]
  exact ⟨_,rfl,by simp only [List.length_set];exact hI⟩
 ·refine ⟨a,?_,hI⟩
  show aAC u a ((u.N.toNat:Nat):Int)=_
  unfold aAC
  rw [if_neg (by simp;omega)]
theorem aPm (hu:Big u) (hp:aIX u p) {al:List Bool} (hl:al.length=u.N.toNat):∃ al' m,loop (fun s:List Bool × Bool × Int=>aDp u p s.1 s.2.1 s.2.2) (al,false,0)=some (al',m)/\al'.length=u.N.toNat/\cnt al<=cnt al'/\(m=true->cnt al < cnt al'):=by
 have h5:=hu.ed
 have key:=aIQ (step:=fun s:List Bool × Bool × Int=>aDp u p s.1 s.2.1 s.2.2) u.E.length (fun k (a:List Bool × Bool)=>(a.1,a.2,(k:Int))) (fun _ a=>a.1.length=u.N.toNat/\cnt al<=cnt a.1/\(a.2=true->cnt al < cnt a.1)) (fun r=>r.1.length=u.N.toNat/\cnt al<=cnt r.1/\(r.2=true->cnt al < cnt r.1)) (fun i a hi hI=>?_) (fun a hI=>?_) u.E.length 0 (al,false) (by omega) ⟨hl,Nat.le_refl _,fun h=>by cases h⟩
 ·obtain ⟨⟨al',m⟩,h1,h2⟩:=key
  exact ⟨al',m,h1,h2⟩
 ·obtain ⟨b,m⟩:=a
  obtain ⟨g1,g2,g3⟩:=hI
  simp only at g1 g2 g3 ⊢
  have he:=List.getElem_mem hi
  have hin:=hu.inn _ he
  have hw:wr ((i:Int)+1)=((i+1:Nat):Int):=aAg hi (by omega)
  have hj:∀ c n,tU (i:Int) c n=some (.inl (c,n,((i+1:Nat):Int))):=fun c n=>by unfold tU;rw [hw]
  obtain ⟨_,f1⟩:=ixB g1 hin.1
  obtain ⟨hk,f2⟩:=ixB g1 hin.2.1
  have hT:=hin.2.1
  unfold inT at hT
  have hno:oW b m (i:Int) u.E[i] false=some (.inl (b,m,((i+1:Nat):Int))):=by unfold oW;rw [if_neg (by simp),hj]
  unfold aDp
  rw [if_pos (aBK hi),aAM hi,lJ,f1,lJ]
  split
  ·rw [f2,lJ]
   by_cases hb:b[u.E[i].To.toNat]=true
   ·rw [if_neg (by simp [hb]),hno]
    exact ⟨(b,m),rfl,g1,g2,g3⟩
   ·have hb':b[u.E[i].To.toNat]=false:=by simpa using hb
    rw [if_pos (by simp [hb'])]
    obtain ⟨c,hc⟩:=aLI hu hp he
    rw [hc,lJ]
    cases c with
    |false=>rw [hno];exact ⟨(b,m),rfl,g1,g2,g3⟩
    |true=>
     have hst:st b u.E[i].To true=some (b.set u.E[i].To.toNat true):=by
      unfold Gv.st
      rw [if_pos ⟨hT.1,by omega⟩]
     have hlt:=cnt_on hk hb'
     unfold oW
     rw [if_pos rfl,f2,lJ,hst,lJ,hj]
     exact ⟨(_,true),rfl,by simp only [List.length_set];exact g1,by simp only;omega,fun _=>by simp only;omega⟩
  ·rw [hno]
   exact ⟨(b,m),rfl,g1,g2,g3⟩
 ·obtain ⟨b,m⟩:=a
  refine ⟨(b,m),?_,hI⟩
  show aDp u p b m (u.E.length:Int)=_
  unfold aDp
  rw [if_neg (by simp)]
theorem reach_ok (hu:Big u) (hp:aIX u p) {k:Int} (hk:inT u k):∃ al,aDW u p k=some al/\al.length=u.N.toNat:=by
 have h3:=hu.st
 have hk':=hk
 unfold inT at hk'
 have hm:mkz u.N false=some (List.replicate u.N.toNat false):=by
  unfold mkz
  rw [if_pos ⟨by omega,by unfold lim;omega⟩]
 have hst:st (List.replicate u.N.toNat false) k true=some ((List.replicate u.N.toNat false).set k.toNat true):=by
  unfold Gv.st
  rw [if_pos ⟨hk'.1,by simp;omega⟩]
 obtain ⟨_,f⟩:=ixB (u:=u) (l:=List.replicate u.N.toNat false) (by simp) hk
 unfold aDW
 rw [hm,lJ,f,lJ,hst,lJ]
 have key2:=aJt (step:=fun s:List Bool × Bool=>aDq u p s.1 s.2) (fun s=>s.1.length=u.N.toNat) (fun s=>2 * (u.N.toNat - cnt s.1)+(if s.2=true then 1 else 0)) (fun r=>r.length=u.N.toNat) (fun s hI=>?_) (s:=((List.replicate u.N.toNat false).set k.toNat true,true)) (by simp)
 ·obtain ⟨r,h3,h4⟩:=key2
  rw [h3,lJ]
  exact ⟨r,rfl,h4⟩
 ·obtain ⟨x,m⟩:=s
  show (∃ s',aDq u p x m=_/\_)\/_
  cases m with
  |false=>right;exact ⟨x,by unfold aDq;rw [if_neg (by simp)],hI⟩
  |true=>
   left
   obtain ⟨al',m',e,g1,g2,g3⟩:=aPm hu hp hI
   have g2:cnt x<=cnt al':=g2
   have g3:m'=true->cnt x < cnt al':=g3
   have hle:cnt al'<=al'.length:=cnt_le al'
   refine ⟨(al',m'),?_,g1,?_⟩
   ·unfold aDq
    rw [if_pos rfl,e,lJ];rfl
   ·show 2 * (u.N.toNat - cnt al')+(if m'=true then 1 else 0) < 2 * (u.N.toNat - cnt x)+(if true=true then 1 else 0)
    rw [if_pos rfl]
    cases m' with
    |false=>rw [if_neg (by simp)];omega
    |true=>have:=g3 rfl;rw [if_pos rfl];omega
theorem offers_ok (hu:Big u) (hp:aIX u p) {k:Int} (hk:inT u k):∃ l,aCg u p k=some l/\l.length<=1000:=by
 have h5:=hu.ed
 obtain ⟨al,e,hl⟩:=reach_ok hu hp hk
 unfold aCg
 rw [e,lJ]
 have key:=aIQ (step:=fun s:List Int × Int=>aCf u p al s.1 s.2) u.E.length (fun i (a:List Int)=>(a,(i:Int))) (fun i a=>a.length<=i) (fun r=>r.length<=1000) (fun i a hi hI=>?_) (fun a hI=>?_) u.E.length 0 [] (by omega) (by simp)
 ·obtain ⟨l,h1,h2⟩:=key
  have h1':loop (fun s:List Int × Int=>aCf u p al s.1 s.2) (([]:List Int),0)=some l:=h1
  rw [h1',lJ]
  exact ⟨l,rfl,h2⟩
 ·have he:=List.getElem_mem hi
  have hin:=hu.inn _ he
  have hw:wr ((i:Int)+1)=((i+1:Nat):Int):=aAg hi (by omega)
  have hno:rE p a (i:Int) u.E[i] false=some (.inl (a,((i+1:Nat):Int))):=by
   unfold rE rD
   rw [if_neg (by simp),hw]
  obtain ⟨_,f1⟩:=ixB hl hin.1
  show ∃ a',aCf u p al a (i:Int)=_/\_
  unfold aCf
  rw [if_pos (aBK hi),aAM hi,lJ,f1,lJ]
  split
  ·obtain ⟨c,hc⟩:=aLI hu hp he
   rw [hc,lJ]
   cases c with
   |true=>rw [show (!true)=false from rfl,hno];exact ⟨a,rfl,by omega⟩
   |false=>
    obtain ⟨l',h1,h2⟩:=put_ok a (wr (wr (u.E[i].B * (p.length:Int))+p.getD u.E[i].To.toNat 0)) (by omega)
    unfold rE rD
    rw [if_pos (by rfl),(aJX hp hin.2.1).1,lJ,h1,lJ,hw]
    exact ⟨l',rfl,by omega⟩
  ·rw [hno];exact ⟨a,rfl,by omega⟩
 ·refine ⟨a,?_,by omega⟩
  show aCf u p al a (u.E.length:Int)=_
  unfold aCf
  rw [if_neg (by simp)]
theorem j10_same:@pJ=@pF:=rfl
theorem aPn (hu:Big u) (hp:aIX u p) (d:Bool):∃ q,aCj u p d=some q/\aIX u q/\cn q=q/\aLV q p:=by
 have h3:=hu.st
 obtain ⟨al,e,hal⟩:=aNa hu hp
 unfold aCj
 rw [e,lJ]
 have key:=aIQ (step:=fun s:List (List Int) × Int=>aBw u p d al s.1 s.2) u.N.toNat (fun k (a:List (List Int))=>(a,(k:Int))) (fun k a=>a.length=k/\∀ r∈a,r.length<=1001) (fun r=>r.length=u.N.toNat/\∀ x∈r,x.length<=1001) (fun k a hk hI=>?_) (fun a hI=>?_) u.N.toNat 0 [] (by omega) ⟨rfl,by simp⟩
 ·obtain ⟨rows,h1,h2,h4⟩:=key
  have h1':loop (fun s:List (List Int) × Int=>aBw u p d al s.1 s.2) (([]:List (List Int)),0)=some rows:=h1
  have hl:rows.length=p.length:=by rw [h2,hp.1]
  rw [h1',lJ,j10_same,num_eq hl (by rw [hp.1];omega) (fun r hr=>by have:=h4 r hr;omega)]
  exact ⟨_,rfl,part_cn hu (by rw [aKv hl,hp.1]),cn_cn _,aNK hl⟩
 ·obtain ⟨g1,g2⟩:=hI
  have hkT:inT u (k:Int):=by unfold inT;omega
  obtain ⟨l,e,hl⟩:=offers_ok hu hp hkT
  obtain ⟨_,f⟩:=ixB hal hkT
  have hw:wr ((k:Int)+1)=((k+1:Nat):Int):=aAg hk (by omega)
  have hgo:∀ r:List Int,r.length<=1001->∃ a',pK a (k:Int) r=some (.inl (a',((k+1:Nat):Int)))/\a'.length=k+1/\∀ r∈a',r.length<=1001:=by
   intro r hr
   unfold pK
   rw [aGO (by simp [lim];omega),lJ,hw]
   refine ⟨_,rfl,by simp;omega,fun x hx=>?_⟩
   rcases List.mem_append.1 hx with hx|hx
   ·exact g2 x hx
   ·simp at hx;subst hx;exact hr
  have hgo2:∀ b:Bool,∃ a',pL a (k:Int) l b=some (.inl (a',((k+1:Nat):Int)))/\a'.length=k+1/\∀ r∈a',r.length<=1001:=by
   intro b
   unfold pL
   cases b with
   |true=>rw [if_pos rfl,aGO (by simp [lim];omega),lJ];exact hgo _ (by simp;omega)
   |false=>rw [if_neg (by simp)];exact hgo _ (by omega)
  show ∃ a',aBw u p d al a (k:Int)=_/\_
  unfold aBw
  rw [if_pos (by simp;omega),e,lJ]
  cases d with
  |true=>rw [if_pos rfl,f,lJ];exact hgo2 _
  |false=>rw [if_neg (by simp)];exact hgo2 _
 ·refine ⟨a,?_,hI⟩
  show aBw u p d al a ((u.N.toNat:Nat):Int)=_
  unfold aBw
  rw [if_neg (by simp;omega)]
theorem part15_ok (hu:Big u) (d:Bool):∃ p,aFv u d=some p/\aIX u p:=by
 obtain ⟨hm,h0⟩:=part0 hu
 have h3:=hu.st
 unfold aFv
 rw [hm,lJ]
 have key:=aMT (step:=fun s:List Int=>aEN u d s) u.N.toNat (fun p s=>s=p/\aIX u p) (fun r=>aIX u r) (fun p s hl hc hI=>?_) (List.replicate u.N.toNat 0) (List.replicate u.N.toNat 0) (by simp) (aOZ _) ⟨rfl,h0⟩
 ·obtain ⟨p,h1,h2⟩:=key
  rw [h1,lJ]
  exact ⟨p,rfl,h2⟩
 ·obtain ⟨rfl,hp⟩:=hI
  obtain ⟨r,e,g1,g2,g3⟩:=aPn hu hp d
  have hstep:aEN u d s=if decide (r=s)=true then some (.inr s) else some (.inl r):=by
   unfold aEN
   rw [e,lJ,aMZ _ _ (by rw [g1.1];omega),lJ]
  by_cases h:r=s
  ·left
   rw [hstep,if_pos (by simpa using h)]
   exact ⟨_,rfl,hp⟩
  ·right
   refine ⟨r,r,g3,g2,h,?_,rfl,g1⟩
   rw [hstep,if_neg (by simpa using h)]
theorem true_ok {al:List Bool} (hal:al.length<=1000):∃ l,aFu al=some l/\l.length<=al.length/\∀ z∈l,0<=z/\z < al.length:=by
 unfold aFu
 have key:=aIQ (step:=fun s:List Int × Int=>aEM al s.1 s.2) al.length (fun i (a:List Int)=>(a,(i:Int))) (fun i a=>a.length<=i/\∀ z∈a,0<=z/\z < al.length) (fun r=>r.length<=al.length/\∀ z∈r,0<=z/\z < al.length) (fun i a hi hI=>?_) (fun a hI=>?_) al.length 0 [] (by omega) (by simp)
 ·obtain ⟨l,h1,h2⟩:=key
  have h1':loop (fun s:List Int × Int=>aEM al s.1 s.2) (([]:List Int),0)=some l:=h1
  rw [h1',lJ]
  exact ⟨l,rfl,h2⟩
 ·obtain ⟨g1,g2⟩:=hI
  have hw:wr ((i:Int)+1)=((i+1:Nat):Int):=aAg hi (by omega)
  show ∃ a',aEM al a (i:Int)=_/\_
  unfold aEM wI
  rw [if_pos (aBK hi),aAM hi,lJ,hw]
  split
  ·rw [aGO (by simp [lim];omega),lJ]
   refine ⟨_,rfl,by simp;omega,fun z hz=>?_⟩
   rcases List.mem_append.1 hz with hz|hz
   ·exact g2 z hz
   ·simp at hz;omega
  ·exact ⟨_,rfl,by omega,g2⟩
 ·refine ⟨a,?_,hI⟩
  show aEM al a (al.length:Int)=_
  unfold aEM
  rw [if_neg (by simp)]
end
theorem aOs {t:cI} (h:nB t):Big t:=by
 have h1:=h.1
 have h2:=h.2.2.1.2.1
 have h3:=h.2.2.2.1
 exact ⟨by omega,by omega,by omega,fun e he=>aKP h he⟩
section
variable {t:cI} {c:Nat} {p:List Int}
theorem top_ok (h:Drn c t) (hp:aIX t p):∃ b,zN p=some b/\(1<=b/\b<=10/\b<=t.N)/\∀ z∈p,0<=z/\z < b:=by
 have h1:=h.ok.1
 have h2:=h.st
 obtain ⟨b,e,⟨⟨z,hz,hb⟩,ht⟩⟩:=aQc (p:=p) (by rw [hp.1];omega) (by rw [hp.1];omega) fun z hz=>by
  have:=hp.2 z hz
  omega
 have:=hp.2 z hz
 exact ⟨b,e,by omega,fun w hw=>by have:=hp.2 w hw;have:=ht w hw;omega⟩
theorem quot13_ok (h:Drn c t) (hp:aIX t p):∃ t',aAl t p=some t'/\Drn c t'/\t'.N<=t.N:=by
 obtain ⟨b,e,hb,hz⟩:=top_ok h hp
 refine ⟨_,quo_ref h.ok hp.1 e,⟨quo_ok h.ok hp.1 (by omega) hz,h.nm,by show b<=10;omega,Nat.le_trans (aOW t p) h.ed⟩,hb.2.2⟩
theorem aQh (h:Drn c t) (hp:aIX t p) {b:Int} (hzi:∀ s,inT t s->0<=p.getD s.toNat 0/\p.getD s.toNat 0 < b):
  ∃ E,loop (fun s:List Edge × Int=>aAE t p s.1 s.2) (([]:List Edge),0)=some E/\E.length<=c/\∀ x∈E,aJH b t.L.length x:=by
 have hu:=aOs h.ok
 have h2:=h.ok.2.1
 have hed:=h.ed
 have h5:=hu.ed
 refine aIQ (step:=fun s:List Edge × Int=>aAE t p s.1 s.2) t.E.length (fun i (a:List Edge)=>(a,(i:Int))) (fun i a=>a.length<=i/\∀ x∈a,aJH b t.L.length x) (fun r=>r.length<=c/\∀ x∈r,aJH b t.L.length x) (fun i a hi hI=>?_) (fun a hI=>?_) t.E.length 0 [] (by omega) (by simp)
 ·obtain ⟨g1,g2⟩:=hI
  have he:=List.getElem_mem hi
  have hin:=aKP h.ok he
  have hw:wr ((i:Int)+1)=((i+1:Nat):Int):=aAg hi (by omega)
  obtain ⟨v,hv⟩:=aLI hu hp he
  have hal:a.length+1 < lim:=by unfold lim;omega
  have ha1:a.length<=i+1:=by omega
  show ∃ a',aAE t p a (i:Int)=_/\_
  unfold aAE oC
  rw [if_pos (aBK hi),aAM hi,lJ,hv,lJ,hw]
  clear hw
  split
  ·rw [(aJX hp hin.1).1,lJ,(aJX hp hin.2.1).1,lJ,aGO (by simp only [List.length_singleton];omega),lJ]
   refine ⟨_,rfl,by rw [List.length_append];exact Nat.add_le_add_right g1 1,fun x hx=>?_⟩
   rcases List.mem_append.1 hx with hx|hx
   ·exact g2 x hx
   ·rw [List.mem_singleton] at hx
    subst hx
    exact ⟨hzi _ hin.1,hzi _ hin.2.1,hin.2.2⟩
  ·exact ⟨_,rfl,ha1,g2⟩
 ·obtain ⟨g1,g2⟩:=hI
  refine ⟨a,?_,by omega,g2⟩
  show aAE t p a (t.E.length:Int)=_
  unfold aAE
  rw [if_neg (by simp)]
theorem aQi (hc:c<=250) (h:Drn c t) (hp:aIX t p) {b:Int} (hzi:∀ s,inT t s->0<=p.getD s.toNat 0/\p.getD s.toNat 0 < b) {E:List Edge} (k2:E.length<=c) (k3:∀ x∈E,aJH b t.L.length x) {l:List Int} (hl:l.length<=10) (hlT:∀ z∈l,inT t z):
  ∃ F,loop (fun s:List Edge × Int=>aAD p l s.1 s.2) (E,0)=some F/\F.length<=c+10/\∀ x∈F,aJH b t.L.length x:=by
 have hlab:=h.ok.2.2.1.1
 refine aIQ (step:=fun s:List Edge × Int=>aAD p l s.1 s.2) l.length (fun i (a:List Edge)=>(a,(i:Int))) (fun i a=>a.length<=c+i/\∀ x∈a,aJH b t.L.length x) (fun r=>r.length<=c+10/\∀ x∈r,aJH b t.L.length x) (fun i a hi hI=>?_) (fun a hI=>?_) l.length 0 E (by omega) ⟨by omega,k3⟩
 ·obtain ⟨g1,g2⟩:=hI
  have hsT:=hlT _ (List.getElem_mem hi)
  have hal:a.length+1 < lim:=by unfold lim;omega
  have hw:wr ((i:Int)+1)=((i+1:Nat):Int):=aAg hi (by omega)
  show ∃ a',aAD p l a (i:Int)=_/\_
  unfold aAD
  rw [if_pos (aBK hi),aAM hi,lJ,(aJX hp hsT).1,lJ,aGO (by simp only [List.length_singleton];omega),lJ,hw]
  clear hw
  refine ⟨_,rfl,by rw [List.length_append];exact Nat.add_le_add_right g1 1,fun x hx=>?_⟩
  rcases List.mem_append.1 hx with hx|hx
  ·exact g2 x hx
  ·rw [List.mem_singleton] at hx
   subst hx
   have:=hzi _ hsT
   exact ⟨this,this,by simp only;omega⟩
 ·obtain ⟨g1,g2⟩:=hI
  refine ⟨a,?_,by omega,g2⟩
  show aAD p l a (l.length:Int)=_
  unfold aAD
  rw [if_neg (by simp)]
theorem aNM (hc:c<=250) (h:Drn c t) (hp:aIX t p) (d:Bool):∃ t',tR t p d=some t'/\Drn (c+10) t'/\t'.N<=t.N:=by
 have hu:=aOs h.ok
 have h1:=h.ok.1
 have h2:=h.ok.2.1
 have hst:=h.st
 have hlab:=h.ok.2.2.1
 obtain ⟨b,e,hb,hz⟩:=top_ok h hp
 have hzi:∀ s,inT t s->0<=p.getD s.toNat 0/\p.getD s.toNat 0 < b:=fun s hs=>by
  have hl:s.toNat < p.length:=by rw [hp.1];unfold inT at hs;omega
  have e:p.getD s.toNat 0=p[s.toNat]:=by rw [List.getD_eq_getElem?_getD,List.getElem?_eq_getElem hl];rfl
  rw [e]
  exact hz _ (List.getElem_mem hl)
 have hini:inT t t.I:=by unfold inT;omega
 have hfin:∀ E:List Edge,(∀ x∈E,aJH b t.L.length x)->E.length<=c+10->∃ t',nZ t p E=some t'/\Drn (c+10) t'/\t'.N<=t.N:=by
  intro E hE hl
  obtain ⟨t',m1,m2,m3,m4⟩:=aOq (T:=t.L) h.nm (by have:=hlab.2.1;omega) (st:=b) (ini:=p.getD t.I.toNat 0) (by omega) (hzi _ hini) (edges:=E) (by omega) (fun x hx=>by have:=hE x hx;unfold aJH at this;exact ⟨this.1,this.2.1,this.2.2⟩)
  unfold nZ
  rw [(aJX hp hini).1,lJ,e,lJ,m1,lJ]
  exact ⟨t',rfl,m2.mono hl,by omega⟩
 obtain ⟨E,k1,k2,k3⟩:=aQh h hp hzi
 unfold tR
 rw [k1,lJ]
 unfold oB
 cases d with
 |false=>rw [if_neg (by simp)];exact hfin E k3 (by omega)
 |true=>
  obtain ⟨al,d1,d2⟩:=aNa hu hp
  obtain ⟨l,d3,d4,d5⟩:=true_ok (al:=al) (by omega)
  obtain ⟨F,q1,q2,q3⟩:=aQi hc h hp hzi k2 k3 (l:=l) (by omega) (fun z hz=>by have:=d5 z hz;unfold inT;omega)
  rw [if_pos rfl,d1,lJ,d3,lJ,q1,lJ]
  unfold oA
  exact hfin F q3 q2
theorem aNb (h:Drn c t):xV t=some (RL t)/\aAA t (RL t)=some (aNA t (RL t))/\Drn c (aNA t (RL t))/\(aNA t (RL t)).N<=t.N:=by
 have h1:=h.ok.1
 have h2:=h.st
 have hl:=RL_len t
 refine ⟨aOL h.ok,aPU h.ok (by omega),⟨keep_ok h.ok,h.nm,?_,Nat.le_trans (aNB t (RL t)) h.ed⟩,?_⟩
 ·show ((RL t).length:Int)<=10
  omega
 ·show ((RL t).length:Int)<=t.N
  omega
theorem aQj (h:Drn c t):∃ t',aDV t=some t'/\Drn c t'/\t'.N<=t.N:=by
 obtain ⟨k1,k2,k3,k4⟩:=aNb h
 obtain ⟨p,p1,p2⟩:=aNL (aOs k3.ok)
 obtain ⟨t',q1,q2,q3⟩:=quot13_ok k3 p2
 unfold aDV
 rw [k1,lJ,k2,lJ,p1,lJ,q1,lJ]
 exact ⟨t',rfl,q2,by omega⟩
theorem aNc (hc:c<=250) (h:Drn c t) (d:Bool):∃ t',aAW t d=some t'/\Drn (c+10) t'/\t'.N<=t.N:=by
 obtain ⟨k1,k2,k3,k4⟩:=aNb h
 obtain ⟨p,p1,p2⟩:=part15_ok (aOs k3.ok) d
 obtain ⟨t',q1,q2,q3⟩:=aNM hc k3 p2 d
 unfold aAW
 rw [k1,lJ,k2,lJ,p1,lJ,q1,lJ]
 exact ⟨t',rfl,q2,by omega⟩
end
end Gv
set_option linter.unusedSimpArgs false
set_option linter.unusedVariables false
namespace Gv
open Go
theorem aJB {γ:Type} {step:List γ × Int->Option ((List γ × Int) ⊕ List γ)} {n:Int} (hn:0<=n) (R:Nat->List γ->Prop) (R':List γ->Prop)
  (h:∀ m i,0<=i->i < n->R i.toNat m->∃ m',step (m,i)=some (.inl (m',i+1))/\R (i.toNat+1) m') (h':∀ m,R n.toNat m->step (m,n)=some (.inr m)/\R' m):∀ m,R 0 m->∃ m',loop step (m,0)=some m'/\R' m':=by
 intro m hm
 obtain ⟨r,h1,h2⟩:=aIQ (step:=step) n.toNat (fun k (q:List γ)=>(q,(k:Int))) R R' (fun k q hk hI=>by
  obtain ⟨m',g1,g2⟩:=h q (k:Int) (by omega) (by omega) (by rwa [Int.toNat_natCast])
  rw [Int.toNat_natCast] at g2
  exact ⟨m',g1,g2⟩) (fun q hI=>by
  obtain ⟨g1,g2⟩:=h' q hI
  refine ⟨q,?_,g2⟩
  have:((n.toNat:Nat):Int)=n:=by omega
  rw [this];exact g1) n.toNat 0 m (by omega) hm
 exact ⟨r,h1,h2⟩
theorem sq_lt {s x y:Int} (hs:s<=100) (hx:0<=x/\x < s) (hy:0<=y/\y < s):0<=x * s/\x * s<=10000/\x * s+y < s * s:=by
 have h1:(x+1) * s<=s * s:=Int.mul_le_mul_of_nonneg_right (by omega) (by omega)
 have h2:x * s<=100 * 100:=Int.mul_le_mul (by omega) hs (by omega) (by omega)
 have h3:0<=x * s:=Int.mul_nonneg hx.1 (by omega)
 rw [Int.add_mul,Int.one_mul] at h1
 omega
theorem sq_wr {s x y:Int} (hs:s<=100) (hx:0<=x/\x < s) (hy:0<=y/\y < s):wr (wr (x * s)+y)=x * s+y:=by
 obtain ⟨h1,h2,h3⟩:=sq_lt hs hx hy
 rw [aHw (x:=x * s) (by omega) (by omega),aHw (by omega) (by omega)]
theorem aMf {s x y:Int} {m:List Bool} (hs:s<=100) (hm:m.length=(s * s).toNat) (hx:0<=x/\x < s) (hy:0<=y/\y < s):∃ b,ix m (wr (wr (x * s)+y))=some b:=by
 obtain ⟨h1,h2,h3⟩:=sq_lt hs hx hy
 rw [sq_wr hs hx hy]
 unfold ix
 rw [if_pos (by omega),List.getElem?_eq_getElem (by omega)]
 exact ⟨_,rfl⟩
theorem sq_st {s x y:Int} {m:List Bool} (v:Bool) (hs:s<=100) (hm:m.length=(s * s).toNat) (hx:0<=x/\x < s) (hy:0<=y/\y < s):∃ m',st m (wr (wr (x * s)+y)) v=some m'/\m'.length=(s * s).toNat:=by
 obtain ⟨h1,h2,h3⟩:=sq_lt hs hx hy
 rw [sq_wr hs hx hy]
 unfold Gv.st
 rw [if_pos ⟨by omega,by omega⟩]
 exact ⟨_,rfl,by rw [List.length_set,hm]⟩
theorem ln_ix {γ:Type} {s k:Int} {m:List γ} (hm:m.length=s.toNat) (hk:0<=k/\k < s):∃ b,ix m k=some b:=by
 unfold ix
 rw [if_pos hk.1,List.getElem?_eq_getElem (by omega)]
 exact ⟨_,rfl⟩
theorem ln_st {γ:Type} {s k:Int} {m:List γ} (v:γ) (hm:m.length=s.toNat) (hk:0<=k/\k < s):∃ m',st m k v=some m'/\m'.length=s.toNat:=by
 unfold Gv.st
 rw [if_pos ⟨hk.1,by omega⟩]
 exact ⟨_,rfl,by rw [List.length_set,hm]⟩
theorem aJM {i n:Int} (h0:0<=i) (h1:i < n) (hn:n<=1000000):wr (i+1)=i+1:=aHw (by omega) (by omega)
section
variable {s:Int}
theorem cl2_c (hs:0<=s/\s<=100) {x y:Int} (hx:0<=x/\x < s) (hy:0<=y/\y < s):∀ m:List Bool,m.length=(s * s).toNat->∃ m',loop (fun q:List Bool × Int=>aDr s x y q.1 q.2) (m,0)=some m'/\m'.length=(s * s).toNat:=by
 refine aJB hs.1 (fun _ m=>m.length=(s * s).toNat) (fun m=>m.length=(s * s).toNat) (fun m i h0 h1 hm=>?_) (fun m hm=>⟨?_,hm⟩)
 ·show ∃ m',aDr s x y m i=_/\_
  unfold aDr tZ
  obtain ⟨b,hb⟩:=aMf (m:=m) hs.2 hm hx ⟨h0,h1⟩
  obtain ⟨c,hc⟩:=aMf (m:=m) hs.2 hm hy ⟨h0,h1⟩
  obtain ⟨m',h2,h3⟩:=sq_st (m:=m) true hs.2 hm hy ⟨h0,h1⟩
  rw [if_pos (by simpa using h1),hb,lJ,aJM h0 h1 (by omega)]
  cases b with
  |true=>rw [if_pos rfl,hc,lJ,h2,lJ];exact ⟨m',rfl,h3⟩
  |false=>rw [if_neg (by simp)];exact ⟨m,rfl,hm⟩
 ·show aDr s x y m s=_
  unfold aDr
  rw [if_neg (by simp)]
theorem cl2_a (hs:0<=s/\s<=100) {x:Int} (hx:0<=x/\x < s):∀ m:List Bool,m.length=(s * s).toNat->∃ m',loop (fun q:List Bool × Int=>aDs s x q.1 q.2) (m,0)=some m'/\m'.length=(s * s).toNat:=by
 refine aJB hs.1 (fun _ m=>m.length=(s * s).toNat) (fun m=>m.length=(s * s).toNat) (fun m i h0 h1 hm=>?_) (fun m hm=>⟨?_,hm⟩)
 ·show ∃ m',aDs s x m i=_/\_
  unfold aDs
  obtain ⟨b,hb⟩:=aMf (m:=m) hs.2 hm ⟨h0,h1⟩ hx
  obtain ⟨m',h2,h3⟩:=cl2_c hs hx ⟨h0,h1⟩ m hm
  rw [if_pos (by simpa using h1),hb,lJ]
  unfold tY tX
  rw [aJM h0 h1 (by omega)]
  cases b with
  |true=>rw [if_neg (by simp),h2,lJ];exact ⟨m',rfl,h3⟩
  |false=>rw [if_pos (by simp)];exact ⟨m,rfl,hm⟩
 ·show aDs s x m s=_
  unfold aDs
  rw [if_neg (by simp)]
theorem cl2_b (hs:0<=s/\s<=100):∀ m:List Bool,m.length=(s * s).toNat->∃ m',loop (fun q:List Bool × Int=>aDt s q.1 q.2) (m,0)=some m'/\m'.length=(s * s).toNat:=by
 refine aJB hs.1 (fun _ m=>m.length=(s * s).toNat) (fun m=>m.length=(s * s).toNat) (fun m i h0 h1 hm=>?_) (fun m hm=>⟨?_,hm⟩)
 ·show ∃ m',aDt s m i=_/\_
  unfold aDt
  obtain ⟨m',h2,h3⟩:=cl2_a hs ⟨h0,h1⟩ m hm
  rw [if_pos (by simpa using h1),h2,lJ]
  unfold tW aAn
  rw [aJM h0 h1 (by omega)]
  exact ⟨m',rfl,h3⟩
 ·show aDt s m s=_
  unfold aDt
  rw [if_neg (by simp)]
theorem close2_ok (hs:0<=s/\s<=100) (m:List Bool) (hm:m.length=(s * s).toNat):∃ m',aDX s m=some m'/\m'.length=(s * s).toNat:=by
 obtain ⟨m1,h1,h2⟩:=aJB (step:=fun q:List Bool × Int=>aCk s q.1 q.2) hs.1 (fun _ m=>m.length=(s * s).toNat) (fun m=>m.length=(s * s).toNat) (fun m i h0 h1 hm=>by
  show ∃ m',aCk s m i=_/\_
  unfold aCk
  obtain ⟨b,hb⟩:=aMf (m:=m) hs.2 hm ⟨h0,h1⟩ ⟨h0,h1⟩
  obtain ⟨m',h2,h3⟩:=sq_st (m:=m) true hs.2 hm ⟨h0,h1⟩ ⟨h0,h1⟩
  rw [if_pos (by simpa using h1),hb,lJ,h2,lJ,aJM h0 h1 (by omega)]
  exact ⟨m',rfl,h3⟩) (fun m hm=>⟨by
  show aCk s m s=_
  unfold aCk
  rw [if_neg (by simp)],hm⟩) m hm
 obtain ⟨m2,h3,h4⟩:=cl2_b hs m1 h2
 unfold aDX
 rw [h1,lJ]
 unfold rL
 rw [h3,lJ]
 exact ⟨m2,rfl,h4⟩
end
section
variable {t:cI} {c:Nat}
theorem still_ok (h:Drn c t):∃ m,aDY t=some m/\m.length=(t.N * t.N).toNat:=by
 have h1:=h.ok.1
 have h2:=h.st
 have h3:=h.ok.2.2.2.1
 have hq:=sq_lt (s:=t.N) (x:=t.N - 1) (y:=0) (by omega) (by omega) (by omega)
 have hsq:0<=t.N * t.N/\t.N * t.N<=100:=⟨Int.mul_nonneg (by omega) (by omega),Int.le_trans (Int.mul_le_mul h2 h2 (by omega) (by omega)) (by decide)⟩
 have hm:mkz (wr (t.N * t.N)) false=some (List.replicate (t.N * t.N).toNat false):=by
  rw [aHw (by omega) (by omega)]
  unfold mkz
  rw [if_pos ⟨by omega,by unfold lim;omega⟩]
 unfold aDY
 rw [hm,lJ]
 obtain ⟨m1,e1,e2⟩:=aJB (step:=fun q:List Bool × Int=>aDu t q.1 q.2) (n:=(t.E.length:Int)) (by omega) (fun _ m=>m.length=(t.N * t.N).toNat) (fun m=>m.length=(t.N * t.N).toNat) (fun m i h0 h1' hm=>by
  show ∃ m',aDu t m i=_/\_
  have hi:i.toNat < t.E.length:=by omega
  have hb:=aKP h.ok (List.getElem_mem hi)
  unfold inT at hb
  obtain ⟨b,hb'⟩:=aMf (m:=m) (s:=t.N) (by omega) hm hb.1 hb.2.1
  obtain ⟨m',g2,g3⟩:=sq_st (m:=m) (s:=t.N) true (by omega) hm hb.1 hb.2.1
  have he:ix t.E i=some t.E[i.toNat]:=by unfold ix;rw [if_pos h0,List.getElem?_eq_getElem hi]
  unfold aDu uB
  rw [if_pos (by simpa using h1'),he,lJ,hb',lJ,g2,lJ,aJM h0 h1' (by omega)]
  split
  ·exact ⟨m',rfl,g3⟩
  ·exact ⟨m,rfl,hm⟩) (fun m hm=>⟨by
  show aDu t m (t.E.length:Int)=_
  unfold aDu
  rw [if_neg (by simp)],hm⟩) (List.replicate (t.N * t.N).toNat false) (by simp)
 rw [e1,lJ]
 unfold uA
 obtain ⟨m2,e3,e4⟩:=close2_ok (s:=t.N) (by omega) m1 e2
 rw [e3,lJ]
 exact ⟨m2,rfl,e4⟩
theorem step16_ok (h:Drn c t) {still:List Bool} (hst:still.length=(t.N * t.N).toNat) {k:Int} (hk:inT t k) (l:Int):∃ m,aFw t still k l=some m/\m.length=t.N.toNat:=by
 have h1:=h.ok.1
 have h2:=h.st
 have h3:=h.ok.2.2.2.1
 have hk':=hk
 unfold inT at hk'
 have hm:mkz t.N false=some (List.replicate t.N.toNat false):=by
  unfold mkz
  rw [if_pos ⟨by omega,by unfold lim;omega⟩]
 unfold aFw
 rw [hm,lJ]
 split
 ·obtain ⟨m1,e1,e2⟩:=aJB (step:=fun q:List Bool × Int=>aEO t still k q.1 q.2) (n:=t.N) (by omega) (fun _ m=>m.length=t.N.toNat) (fun m=>m.length=t.N.toNat) (fun m i h0 h1' hm=>by
   show ∃ m',aEO t still k m i=_/\_
   obtain ⟨b,hb⟩:=aMf (m:=still) (s:=t.N) (by omega) hst hk' ⟨h0,h1'⟩
   obtain ⟨x,hx⟩:=ln_ix (m:=m) hm ⟨h0,h1'⟩
   obtain ⟨m',g2,g3⟩:=ln_st (m:=m) b hm ⟨h0,h1'⟩
   unfold aEO
   rw [if_pos (by simpa using h1'),hb,lJ,hx,lJ,g2,lJ,aJM h0 h1' (by omega)]
   exact ⟨m',rfl,g3⟩) (fun m hm=>⟨by
   show aEO t still k m t.N=_
   unfold aEO
   rw [if_neg (by simp)],hm⟩) (List.replicate t.N.toNat false) (by simp)
  rw [e1,lJ]
  exact ⟨m1,rfl,e2⟩
 ·obtain ⟨m1,e1,e2⟩:=aJB (step:=fun q:List Bool × Int=>aEQ t still k l q.1 q.2) (n:=(t.E.length:Int)) (by omega) (fun _ m=>m.length=t.N.toNat) (fun m=>m.length=t.N.toNat) (fun m i h0 h1' hm=>by
   show ∃ m',aEQ t still k l m i=_/\_
   have hi:i.toNat < t.E.length:=by omega
   have hb:=aKP h.ok (List.getElem_mem hi)
   unfold inT at hb
   have he:ix t.E i=some t.E[i.toNat]:=by unfold ix;rw [if_pos h0,List.getElem?_eq_getElem hi]
   obtain ⟨b,hb'⟩:=aMf (m:=still) (s:=t.N) (by omega) hst hk' hb.1
   have hj4:∀ m':List Bool,wM i m'=some (.inl (m',i+1)):=fun m'=>by unfold wM;rw [aJM h0 h1' (by omega)]
   obtain ⟨m2,e3,e4⟩:=aJB (step:=fun q:List Bool × Int=>aEP t still t.E[i.toNat] q.1 q.2) (n:=t.N) (by omega) (fun _ m=>m.length=t.N.toNat) (fun m=>m.length=t.N.toNat) (fun m j h0 h1' hm=>by
    show ∃ m',aEP t still t.E[i.toNat] m j=_/\_
    obtain ⟨b,hb⟩:=aMf (m:=still) (s:=t.N) (by omega) hst hb.2.1 ⟨h0,h1'⟩
    obtain ⟨x,hx⟩:=ln_ix (m:=m) hm ⟨h0,h1'⟩
    obtain ⟨m',g2,g3⟩:=ln_st (m:=m) true hm ⟨h0,h1'⟩
    unfold aEP wO
    rw [if_pos (by simpa using h1'),hb,lJ,aJM h0 h1' (by omega)]
    cases b with
    |true=>rw [if_pos rfl,hx,lJ,g2,lJ];exact ⟨m',rfl,g3⟩
    |false=>rw [if_neg (by simp)];exact ⟨m,rfl,hm⟩) (fun m hm=>⟨by
    show aEP t still t.E[i.toNat] m t.N=_
    unfold aEP
    rw [if_neg (by simp)],hm⟩) m hm
   unfold aEQ
   rw [if_pos (by simpa using h1'),he,lJ,hb',lJ]
   have hj8:∀ v,∃ m',wP t still m i t.E[i.toNat] v=some (.inl (m',i+1))/\m'.length=t.N.toNat:=fun v=>by
    unfold wP
    cases v with
    |true=>rw [if_pos rfl,hj4];exact ⟨m,rfl,hm⟩
    |false=>
     rw [if_neg (by simp),e3,lJ]
     unfold wN
     rw [hj4]
     exact ⟨m2,rfl,e4⟩
   split
   ·exact hj8 _
   ·exact hj8 _) (fun m hm=>⟨by
   show aEQ t still k l m (t.E.length:Int)=_
   unfold aEQ
   rw [if_neg (by simp)],hm⟩) (List.replicate t.N.toNat false) (by simp)
  rw [e1,lJ]
  exact ⟨m1,rfl,e2⟩
theorem sat16_ok (h:Drn c t) (h6:t.N<=6):∃ u,aAo t=some u/\Big u/\u.N=t.N:=by
 have h1:=h.ok.1
 have h3:=h.ok.2.2.2.1
 have hl:=h.ok.2.2.1.2.1
 have hl0:=h.ok.2.2.1.1
 obtain ⟨still,s1,s2⟩:=still_ok h
 unfold aAo
 rw [aGO (by simp [lim];omega),lJ,List.nil_append]
 unfold rM
 rw [s1,lJ]
 obtain ⟨E,e1,e2,e3⟩:=aJB (step:=fun q:List Edge × Int=>aAH t still q.1 q.2) (n:=t.N) (by omega) (fun k E=>(∀ e∈E,aJH t.N t.L.length e)/\E.length<=72 * k) (fun E=>(∀ e∈E,aJH t.N t.L.length e)/\E.length<=432) (fun E k k0 k1 hE=>by
  show ∃ m',aAH t still E k=_/\_
  obtain ⟨F,f1,f2,f3⟩:=aJB (step:=fun q:List Edge × Int=>aAG t still k q.1 q.2) (n:=(t.L.length:Int)) (by omega) (fun j F=>(∀ e∈F,aJH t.N t.L.length e)/\F.length<=E.length+6 * j) (fun F=>(∀ e∈F,aJH t.N t.L.length e)/\F.length<=E.length+72) (fun F l l0 l1 hF=>by
   show ∃ m',aAG t still k F l=_/\_
   obtain ⟨m,g1,g2⟩:=step16_ok h s2 (k:=k) ⟨k0,k1⟩ l
   obtain ⟨D,d1,d2,d3⟩:=aJB (step:=fun q:List Edge × Int=>aAF t k l m q.1 q.2) (n:=t.N) (by omega) (fun i D=>(∀ e∈D,aJH t.N t.L.length e)/\D.length<=F.length+i) (fun D=>(∀ e∈D,aJH t.N t.L.length e)/\D.length<=F.length+6) (fun D i i0 i1 hD=>by
    show ∃ m',aAF t k l m D i=_/\_
    obtain ⟨b,hb⟩:=ln_ix (m:=m) g2 ⟨i0,i1⟩
    have hlen:=hD.2
    have hF2:=hF.2
    have hE2:=hE.2
    have hlim:D.length+1<=10000:=by omega
    unfold aAF oG
    rw [if_pos (by simpa using i1),hb,lJ,aJM i0 i1 (by omega)]
    cases b with
    |true=>
     rw [if_pos rfl,aGO (by simp only [List.length_singleton,lim];omega),lJ]
     refine ⟨_,rfl,fun e he=>?_,by rw [List.length_append,List.length_singleton];omega⟩
     rcases List.mem_append.1 he with he|he
     ·exact hD.1 e he
     ·rw [List.mem_singleton] at he
      subst he
      exact ⟨⟨k0,k1⟩,⟨i0,i1⟩,l0,l1⟩
    |false=>rw [if_neg (by simp)];exact ⟨D,rfl,hD.1,by omega⟩) (fun D hD=>⟨by
    show aAF t k l m D t.N=_
    unfold aAF
    rw [if_neg (by simp)],hD.1,by have:=hD.2;omega⟩) F ⟨hF.1,by omega⟩
   unfold aAG
   rw [if_pos (by simpa using l1),g1,lJ,d1,lJ]
   unfold oF tC
   rw [aJM l0 l1 (by omega)]
   exact ⟨D,rfl,d2,by have:=hF.2;omega⟩) (fun F hF=>⟨by
   show aAG t still k F (t.L.length:Int)=_
   unfold aAG
   rw [if_neg (by simp)],hF.1,by have:=hF.2;omega⟩) E ⟨hE.1,by omega⟩
  unfold aAH
  rw [if_pos (by simpa using k1),f1,lJ]
  unfold oE tB
  rw [aJM k0 k1 (by omega)]
  exact ⟨F,rfl,f2,by have:=hE.2;omega⟩) (fun E hE=>⟨by
  show aAH t still E t.N=_
  unfold aAH
  rw [if_neg (by simp)],hE.1,by have:=hE.2;omega⟩) [] ⟨by simp,by simp⟩
 rw [e1,lJ]
 exact ⟨_,rfl,⟨by show 1<=t.N/\t.N<=100;omega,by show t.L.length<=100;omega,by show E.length<=1000;omega,fun e he=>by have:=e2 e he;unfold aJH at this;exact ⟨this.1,this.2.1,this.2.2⟩⟩,rfl⟩
theorem aQk (hc:c<=250) (h:Drn c t) (h6:t.N<=6):∃ t',aDZ t=some t'/\Drn (c+10) t':=by
 obtain ⟨k1,k2,k3,k4⟩:=aNb h
 obtain ⟨u,u1,u2,u3⟩:=sat16_ok k3 (by omega)
 obtain ⟨p,p1,p2⟩:=aNL u2
 have p3:aIX (aNA t (RL t)) p:=by
  unfold aIX at p2 ⊢
  rw [u3] at p2
  exact p2
 obtain ⟨t',q1,q2,q3⟩:=aNM hc k3 p3 false
 unfold aDZ
 rw [k1,lJ,k2,lJ]
 unfold aFx
 rw [u1,lJ,p1,lJ,lJ,q1,lJ]
 exact ⟨t',rfl,q2⟩
end
end Gv
set_option linter.unusedSimpArgs false
set_option linter.unusedVariables false
namespace Gv
open Go
section
variable {a:cI} (cs:aZ)
def Ask (t:cI):Prop:=nB t/\aBo 999999999 t
theorem Drn.ask {c:Nat} {t:cI} (h:Drn c t):Ask t:=⟨h.ok,h.fits⟩
theorem det_ask {c:Nat} {t:cI} (h:Drn c t) (hs:Small (aHs t)):Ask (aJg t):=by
 refine ⟨(aLE h.ok hs).1,h.fits.1,h.fits.2.1,?_⟩
 have:=hs.2
 show (aHs t).2.length<=999999999
 omega
theorem cut_ask {c:Nat} {t:cI} (h:Drn c t) {E:List Edge} (hE:E.Sublist t.E):Ask ⟨t.N,t.I,t.L,E⟩:=by
 have hl:=hE.length_le
 have h3:=h.ok.2.2.2.1
 refine ⟨⟨h.ok.1,h.ok.2.1,h.ok.2.2.1,aLF (by show E.length<=300;omega) ((aOK h.ok).sublist hE) fun e he=>aIk h.ok (hE.subset he)⟩,h.fits.1,h.fits.2.1,by show E.length<=999999999;omega⟩
theorem own_eq {c:Nat} {t:cI} (h:Drn c t):aGU t=some t:=by
 have h1:=h.ok.2.2.1.2.1
 have h3:=h.ok.2.2.2.1
 unfold aGU
 rw [aGO (by simp [lim];omega),lJ,aGO (by simp [lim];omega),lJ,List.nil_append,List.nil_append]
theorem del_eq {E:List Edge} (hl:E.length<=1000) {v:Int} (hv:0<=v/\v < E.length):∃ r1 r2 F,yK E 0 v=some r1/\yK E (wr (v+1)) (E.length:Int)=some r2/\nE r1 r2=some F/\F.Sublist E:=by
 refine ⟨E.take v.toNat,E.drop (v.toNat+1),E.take v.toNat++E.drop (v.toNat+1),?_,?_,aGO (by simp only [List.length_take,List.length_drop,lim];omega),?_⟩
 ·unfold yK
  rw [if_pos ⟨by decide,hv.1,by omega⟩]
  simp
 ·rw [aHw (by omega) (by omega)]
  unfold yK
  rw [if_pos ⟨by omega,by omega,by omega⟩,show (v+1).toNat=v.toNat+1 by omega,List.take_of_length_le (by simp)]
 ·have:(E.take v.toNat++E.drop (v.toNat+1)).Sublist (E.take v.toNat++E.drop v.toNat):=by
   refine List.Sublist.append_left ?_ _
   rw [show E.drop (v.toNat+1)=(E.drop v.toNat).drop 1 by rw [List.drop_drop]]
   exact List.drop_sublist _ _
  rwa [List.take_append_drop] at this
theorem pair_ok:∃ a b,aFz cs=some (a,b)/\Ask a/\Ask b:=by
 obtain ⟨a,x,y,e,⟨ha,h6⟩,h1,h2⟩:=aNJ cs (s1:=0) 0 (by omega)
 obtain ⟨b,x',y',e',hb,h1',h2'⟩:=aNJ cs (s1:=x) y (by omega)
 obtain ⟨v,x2,y2,e2,g,i,j⟩:=aJj cs y' (s1:=x') (n:=7) (by omega) (by omega)
 unfold aFz aFr
 rw [lJ]
 show ∃ a b,(ob (zX cs 0 0) fun r16=>ob (zX cs r16.2.1 r16.2.2) fun r30=>ob (dJ cs r30.2.1 r30.2.2 7) fun r44=>_)=_/\_
 rw [e,lJ,e',lJ,e2,lJ]
 have hend:∀ t:cI,Ask t->∃ a' b',iE (a,x,y) t.N t.I t.L t.E=some (a',b')/\Ask a'/\Ask b':=fun t ht=>⟨a,t,rfl,ha.ask,ht⟩
 split
 ·obtain ⟨t',e3,h3,_⟩:=aQj ha
  show ∃ a' b',(ob (aDV a) fun r99=>_)=_/\_
  rw [e3,lJ]
  exact hend t' h3.ask
 split
 ·obtain ⟨t',e3,h3,_⟩:=aNc (by omega) ha true
  show ∃ a' b',(ob (aAW a true) fun r99=>_)=_/\_
  rw [e3,lJ]
  exact hend t' h3.ask
 split
 ·obtain ⟨t',e3,h3,_⟩:=aNc (by omega) ha false
  show ∃ a' b',(ob (aAW a false) fun r99=>_)=_/\_
  rw [e3,lJ]
  exact hend t' h3.ask
 split
 ·obtain ⟨t',e3,h3⟩:=aQk (by omega) ha h6
  show ∃ a' b',(ob (aDZ a) fun r99=>_)=_/\_
  rw [e3,lJ]
  exact hend t' h3.ask
 split
 ·show ∃ a' b',(ob (aAI a) fun r215=>_)=_/\_
  rw [aLq ha.ok,lJ,aJS]
  by_cases hs:Small (aHs a)
  ·rw [decide_eq_true hs,if_pos rfl]
   unfold detS
   rw [if_pos hs]
   exact hend (aJg a) (det_ask ha hs)
  ·rw [decide_eq_false hs,if_neg (by simp)]
   exact hend b hb.1.ask
 split
 ·show ∃ a' b',(ob (aGU a) fun r254=>_)=_/\_
  rw [own_eq ha,lJ]
  have h3:=ha.ok.2.2.2.1
  by_cases hp:0 < a.E.length
  ·rw [if_pos (by simpa using hp)]
   obtain ⟨u,x3,y3,e3,g3,_,_⟩:=aJj cs y2 (s1:=x2) (n:=(a.E.length:Int)) (by omega) (by omega)
   obtain ⟨r1,r2,F,d1,d2,d3,d4⟩:=del_eq (E:=a.E) (by omega) g3
   show ∃ a' b',(ob (dJ cs x2 y2 (a.E.length:Int)) fun r269=>_)=_/\_
   rw [e3,lJ]
   show ∃ a' b',(ob (yK a.E 0 u) fun r282=>ob (yK a.E (wr (u+1)) (a.E.length:Int)) fun r288=>_)=_/\_
   rw [d1,lJ,d2,lJ,d3,lJ]
   exact hend ⟨a.N,a.I,a.L,F⟩ (cut_ask ha d4)
  ·rw [if_neg (by simp;simpa using hp)]
   exact hend a ha.ask
 ·exact hend b hb.1.ask
end
end Gv
