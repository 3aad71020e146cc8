/- Greatest relations between the states of two systems, by rounds. No program in sight. -/
import Derived.Test.YtkcggmmjnpdgnaaGreatDoorJP80
set_option linter.all false
namespace Gv
open Go
section
variable {a b:cB} {B:Int->Int->Bool} {F:(Int->Int->Bool)->Int->Int->Bool}
structure MonoT (a b:cB) (F:(Int->Int->Bool)->Int->Int->Bool):Prop where
 mono:∀ S T:Int->Int->Bool,(∀ x y,lU a x->lU b y->S x y=true->T x y=true)->∀ x y,lU a x->lU b y->F S x y=true->F T x y=true
end
end Gv
namespace Gv
open Go
def aJK (q p:List Int):Prop:=q.length=p.length/\∀ x y:Nat,x < p.length->y < p.length->q[x]?=q[y]?->p[x]?=p[y]?
theorem aNm (p:List Int) (n:Nat):(xB p n).Nodup:=List.Nodup.sublist List.filter_sublist List.nodup_range
theorem heads1_le (p:List Int) (n:Nat):(xB p n).length<=n:=by
 have:=List.length_filter_le (fun i=>decide (∀ k,k < i->p[k]?≠p[i]?)) (List.range n)
 rw [List.length_range] at this
 exact this
theorem aLo {q:List Int} {n:Nat}:∀ x,x < n->∃ z,z<=x/\z∈xB q n/\q[z]?=q[x]?:=by
 intro x
 induction x using Nat.strongRecOn with
 |ind x ih=>
  intro hx
  by_cases h:∀ k,k < x->q[k]?≠q[x]?
  ·exact ⟨x,Nat.le_refl _,by unfold xB;rw [List.mem_filter,List.mem_range,decide_eq_true_iff];exact ⟨hx,h⟩,rfl⟩
  ·obtain ⟨k,hk⟩:=Classical.not_forall.1 h
   obtain ⟨hk1,hk2⟩:=Classical.not_imp.1 hk
   obtain ⟨z,z1,z2,z3⟩:=ih k hk1 (by omega)
   exact ⟨z,by omega,z2,z3.trans (Classical.not_not.1 hk2)⟩
theorem aKe {p q:List Int} (hp:cn p=p) (hq:cn q=q) (hs:aJK q p):q=p\/(xB p p.length).length < (xB q p.length).length:=by
 by_cases h:∀ x y:Nat,x < p.length->y < p.length->p[x]?=p[y]?->q[x]?=q[y]?
 ·left
  rw [←hp,←hq]
  refine aOs ⟨hs.1,fun x y hx hy=>?_⟩
  rw [hs.1] at hx hy
  exact ⟨hs.2 x y hx hy,h x y hx hy⟩
 ·right
  have hsub:∀ i,i∈xB p p.length->i∈xB q p.length:=fun i hi=>by
   unfold xB at hi ⊢
   rw [List.mem_filter,List.mem_range,decide_eq_true_iff] at hi ⊢
   exact ⟨hi.1,fun k hk e=>hi.2 k hk (hs.2 k i (by omega) hi.1 e)⟩
  have hex:∃ z,z∈xB q p.length/\z∉xB p p.length:=by
   apply Classical.byContradiction
   intro hno
   refine h fun x y hx hy e=>?_
   obtain ⟨a,a1,a2,a3⟩:=aLo (q:=q) x hx
   obtain ⟨b,b1,b2,b3⟩:=aLo (q:=q) y hy
   have ha:a∈xB p p.length:=Classical.byContradiction fun h=>hno ⟨a,a2,h⟩
   have hb:b∈xB p p.length:=Classical.byContradiction fun h=>hno ⟨b,b2,h⟩
   have hab:p[a]?=p[b]?:=((hs.2 a x (by omega) hx a3).trans e).trans (hs.2 b y (by omega) hy b3).symm
   unfold xB at ha hb
   rw [List.mem_filter,decide_eq_true_iff] at ha hb
   have:a=b:=by
    rcases Nat.lt_trichotomy a b with h|h|h
    ·exact absurd hab (hb.2 a h)
    ·exact h
    ·exact absurd hab.symm (ha.2 b h)
   subst this
   exact a3.symm.trans b3
  obtain ⟨z,z1,z2⟩:=hex
  have:=List.Nodup.length_le_of_subset (l₁:=z::xB p p.length) (l₂:=xB q p.length) (List.nodup_cons.2 ⟨z2,aNm _ _⟩) (fun i hi=>by
   rcases List.mem_cons.1 hi with rfl|hi
   ·exact z1
   ·exact hsub i hi)
  rw [List.length_cons] at this
  omega
theorem aOx (n:Nat):cn (List.replicate n (0:Int))=List.replicate n 0:=by
 refine List.ext_getElem? fun i=>?_
 by_cases hi:i < n
 ·rw [aJJ (by simpa using hi),List.getElem_replicate,List.getElem?_replicate,if_pos hi]
  have hdd:∀ m,dd (List.replicate (m+1) (0:Int))=[0]:=by
   intro m
   induction m with
   |zero=>rfl
   |succ m ih=>rw [List.replicate_succ',aJl,ih];rfl
  obtain ⟨m,rfl⟩:∃ m,n=m+1:=⟨n - 1,by omega⟩
  rw [hdd];rfl
 ·rw [List.getElem?_eq_none (by rw [aGP,List.length_replicate];omega),List.getElem?_eq_none (by rw [List.length_replicate];omega)]
theorem cn_cn {κ:Type} [DecidableEq κ] [BEq κ] [LawfulBEq κ] (l:List κ):cn (cn l)=cn l:=aOs (cn_ker l)
theorem aLp {σ ρ:Type} {step:σ->Option (σ ⊕ ρ)} (n:Nat) (I:List Int->σ->Prop) (R:ρ->Prop)
  (h:∀ p s,p.length=n->cn p=p->I p s->(∃ r,step s=some (.inr r)/\R r)\/∃ q s',aJK q p/\cn q=q/\q≠p/\step s=some (.inl s')/\I q s'):
  ∀ (p:List Int) (s:σ),p.length=n->cn p=p->I p s->∃ r,loop step s=some r/\R r:=by
 have key:∀ (m:Nat) (p:List Int) (s:σ),p.length=n->cn p=p->I p s->n<=m+(xB p n).length->∃ r,loop step s=some r/\R r:=by
  intro m
  induction m with
  |zero=>
   intro p s hl hc hI hm
   rcases h p s hl hc hI with ⟨r,h1,h2⟩|⟨q,s',hq,hqc,hne,h1,h2⟩
   ·exact ⟨r,aOn h1,h2⟩
   ·have h3:=(aKe hc hqc hq).resolve_left hne
    have h4:=heads1_le q n
    rw [hl] at h3
    omega
  |succ m ih=>
   intro p s hl hc hI hm
   rcases h p s hl hc hI with ⟨r,h1,h2⟩|⟨q,s',hq,hqc,hne,h1,h2⟩
   ·exact ⟨r,aOn h1,h2⟩
   ·have h3:=(aKe hc hqc hq).resolve_left hne
    rw [hl] at h3
    rw [loop_inl h1]
    exact ih q s' (hq.1.trans hl) hqc h2 (by omega)
 intro p s hl hc hI
 exact key n p s hl hc hI (by omega)
theorem aOy {κ:Type} [DecidableEq κ] [BEq κ] [LawfulBEq κ] {p:List Int} {keys:List κ} (hl:keys.length=p.length) (h:∀ x y:Nat,x < p.length->y < p.length->keys[x]?=keys[y]?->p[x]?=p[y]?):aJK (cn keys) p:=by
 refine ⟨by rw [aGP,hl],fun x y hx hy e=>h x y hx hy ?_⟩
 exact ((cn_ker keys).2 x y (by rw [aGP];omega) (by rw [aGP];omega)).1 e
end Gv
namespace Gv
open Go
def AftT (t:cB) (S:List Int) (s:aY) (q:Int):Prop:=∃ e∈t.E,txt t e=s/\e.F∈S/\e.To=q
section
variable {t:cB}
theorem AftT.inn (hv:cN t) {S:List Int} {s:aY} {q:Int} (h:AftT t S s q):0<=q/\q < t.N:=by
 obtain ⟨e,he,_,_,rfl⟩:=h
 exact (aIM hv he).2.1
theorem aPA (hv:cN t) {S:List Int} (hS:S.length < 1000000000) (s:aY):∃ R,mI t S s=some R/\zV R (AftT t S s):=by
 have h300:=hv.2.2.2.1
 have hl:((t.E.filter fun e=>txt t e == s&&S.any fun x=>e.F == x).map (·.To)).length<=300:=by
  rw [List.length_map];exact Nat.le_trans (List.length_filter_le _ _) h300
 refine ⟨lW (srt iLt ((t.E.filter fun e=>txt t e == s&&S.any fun x=>e.F == x).map (·.To))),?_,aJH.iff fun q=>?_⟩
 ·unfold mI
  rw [aDn (step:=fun x:List Int × Int=>gT t S s x.1 x.2) t.E (fun e=>txt t e == s&&S.any fun x=>e.F == x) (·.To) id (fun j out x hj ho hx=>?_) (fun out=>by simp only [gT,eZ];rfl),aA]
  ·unfold nN
   simp only [id]
   rw [aBK (by omega),aA,aHR _ (by unfold srt;rw [List.length_mergeSort];omega),aA]
  ·obtain ⟨hj',rfl⟩:=wZ hx
   simp only [gT,dJ hj,if_pos,hx,aA,aHO (aCC hv (List.getElem_mem hj')),aBJ S _ (show S.length < 4611686018427387904 by omega),nP,nO,cS hj (show t.E.length < 4611686018427387904 by omega)]
   rw [dK (by simp [kP];omega),aA]
   cases txt t t.E[j] == s<;>cases (S.any fun x=>t.E[j].F == x)<;>rfl
 ·rw [List.mem_map]
  constructor
  ·rintro ⟨e,he,rfl⟩
   rw [List.mem_filter,Bool.and_eq_true,List.any_eq_true] at he
   obtain ⟨h1,h2,x,hx,h3⟩:=he
   rw [beq_iff_eq] at h2 h3
   exact ⟨e,h1,h2,h3 ▸ hx,rfl⟩
  ·rintro ⟨e,h1,h2,h3,rfl⟩
   refine ⟨e,?_,rfl⟩
   rw [List.mem_filter,Bool.and_eq_true,List.any_eq_true,beq_iff_eq]
   exact ⟨h1,h2,_,h3,by simp⟩
theorem aOz (hv:cN t) {S:List Int} (hS:S.length < 1000000000) (s:aY):∃ R,rP t S s=some R/\zV R (Cl t (AftT t S s)):=by
 obtain ⟨R1,f1,f2⟩:=aPA hv hS s
 have hn:R1.Nodup:=f2.ord.imp fun h=>by omega
 obtain ⟨R,g1,g2⟩:=aJk hv hn fun q hq=>((f2.mem q).1 hq).inn hv
 exact ⟨R,by unfold rP;rw [f1,aA,g1];rfl,g2.iff (Cl.iff f2.mem)⟩
theorem aNo (hv:cN t) {e:Edge} (he:e∈t.E):txt t e=dV<->e.B=0:=by
 obtain ⟨h0,h1⟩:=aNj hv
 have:=aGx hv he (s:=dV) (h1 ▸ List.getElem_mem h0)
 have hp:pos t.L dV=((0:Nat):Int):=by rw [←h1];exact aLi hv.2.2.1 h0
 rw [hp] at this
 rw [Bool.eq_iff_iff,beq_iff_eq,beq_iff_eq] at this
 simpa using this
def Wk (t:cB) (y:Int) (s:aY) (w:Int):Prop:=if s=dV then Cl t (·∈[y]) w else Cl t (fun q=>∃ e∈t.E,txt t e=s/\Cl t (·∈[y]) e.F/\e.To=q) w
theorem Wk.inn (hv:cN t) {y:Int} (hy:lU t y) {s:aY} {w:Int} (h:Wk t y s w):lU t w:=by
 unfold lU at hy ⊢
 unfold Wk at h
 split at h
 ·exact h.inn hv fun q hq=>by simp at hq;omega
 ·exact h.inn hv fun q hq=>by
   obtain ⟨e,he,_,_,rfl⟩:=hq
   exact (aIM hv he).2.1
theorem aLq (hv:cN t) {y:Int} (hy:lU t y) (s:aY):∃ R,kY t y s=some R/\zV R (Wk t y s):=by
 have h40:=hv.1
 unfold lU at hy
 obtain ⟨R1,g1,g2⟩:=aJk hv (xs:=[y]) (by simp) fun q hq=>by simp at hq;omega
 have hin:∀ q,Cl t (·∈[y]) q->0<=q/\q < ((40:Nat):Int):=fun q hq=>by
  have:=hq.inn hv fun q hq=>by simp at hq;omega
  omega
 have hl:=g2.len (n:=40) hin
 unfold kY
 rw [g1,aA]
 by_cases hs:s=dV
 ·subst hs
  exact ⟨R1,by rw [if_pos (by decide)],g2.iff fun q=>by unfold Wk;rw [if_pos rfl]⟩
 ·obtain ⟨R,f1,f2⟩:=aOz hv (S:=R1) (by omega) s
  refine ⟨R,?_,f2.iff fun q=>?_⟩
  ·have hb:(s == ([116,97,117]:aY))=false:=beq_eq_false_iff_ne.2 hs
   rw [hb,if_neg (by simp)]
   first|exact f1|(rw [f1];rfl)
  ·unfold Wk
   rw [if_neg hs]
   refine Cl.iff (fun q=>?_) q
   unfold AftT
   constructor
   ·rintro ⟨e,a,b,c,d⟩;exact ⟨e,a,b,(g2.mem _).1 c,d⟩
   ·rintro ⟨e,a,b,c,d⟩;exact ⟨e,a,b,(g2.mem _).2 c,d⟩
end
end Gv
namespace Gv
open Go
def StW (b:cB) (kind y:Int) (s:aY) (w:Int):Prop:=if kind=2 then Wk b y s w else ∃ f∈b.E,f.F=y/\txt b f=s/\f.To=w
section
variable {a b:cB} {kind:Int}
theorem StW.inn (hb:cN b) {y:Int} (hy:lU b y) {s:aY} {w:Int} (h:StW b kind y s w):lU b w:=by
 unfold StW at h
 split at h
 ·exact h.inn hb hy
 ·obtain ⟨f,hf,_,_,rfl⟩:=h
  exact (vD hb hf).2.1
end
end Gv
namespace Gv
open Go
section
variable {a b:cB} {kind:Int}
end
end Gv
namespace Gv
open Go
section
variable {a b:cB} {kind:Int}
def ini2 (a b:cB):Int × Int:=(a.I,b.I)
end
end Gv
namespace Gv
open Go
theorem cmpI (a b:Int):eX a b=some (if a < b then -1 else if b < a then 1 else 0):=by
 unfold eX pF
 simp only [bne_self_eq_false,aA]
 by_cases h1:a < b
 ·simp [h1]
 ·by_cases h2:b < a<;>simp [h1,h2]
theorem aPB (a b:Int × Int):fV (R2 a) (R2 b)=some (aHf (R2 a) (R2 b)):=by
 unfold fV
 have s0:eD (R2 a) (R2 b) 0=some (if a.1 < b.1 then .inr (.inr (-1)) else if b.1 < a.1 then .inr (.inr 1) else .inl 1):=by
  unfold eD
  rw [show decide ((0:Int) < ((R2 a).length:Int))=true from rfl,if_pos rfl,show ix (R2 a) 0=some a.1 from rfl,aA,show decide (((R2 b).length:Int)<=0)=false from rfl,if_neg (by simp),show ix (R2 b) 0=some b.1 from rfl,aA,cmpI,aA]
  by_cases h1:a.1 < b.1
  ·simp [h1]
  ·by_cases h2:b.1 < a.1
   ·simp [h1,h2]
   ·simp [h1,h2,wr]
 have s1:eD (R2 a) (R2 b) 1=some (if a.2 < b.2 then .inr (.inr (-1)) else if b.2 < a.2 then .inr (.inr 1) else .inl 2):=by
  unfold eD
  rw [show decide ((1:Int) < ((R2 a).length:Int))=true from rfl,if_pos rfl,show ix (R2 a) 1=some a.2 from rfl,aA,show decide (((R2 b).length:Int)<=1)=false from rfl,if_neg (by simp),show ix (R2 b) 1=some b.2 from rfl,aA,cmpI,aA]
  by_cases h1:a.2 < b.2
  ·simp [h1]
  ·by_cases h2:b.2 < a.2
   ·simp [h1,h2]
   ·simp [h1,h2,wr]
 have s2:eD (R2 a) (R2 b) 2=some (.inr (.inl ())):=rfl
 rw [cY,s0]
 by_cases h1:a.1 < b.1
 ·simp [h1,R2,aHf]
 ·by_cases h2:b.1 < a.1
  ·simp [h1,h2,R2,aHf]
  ·simp only [h1,h2,if_false]
   rw [cY,s1]
   by_cases h3:a.2 < b.2
   ·simp [h1,h2,h3,R2,aHf]
   ·by_cases h4:b.2 < a.2
    ·simp [h1,h2,h3,h4,R2,aHf]
    ·simp only [h3,h4,if_false]
     rw [cY,s2,aA]
     simp [jO,h1,h2,h3,h4,R2,aHf]
section
variable {a b:cB} {kind:Int}
def aJL (a b:cB) (l:List (Int × Int)):Prop:=(l.Pairwise fun p q=>qLt p q=true)/\∀ p∈l,lU a p.1/\lU b p.2
instance inT_dec (t:cB) (k:Int):Decidable (lU t k):=by unfold lU;infer_instance
theorem isSt {t:cB} (hv:cN t) (k:Int):jC t k=some (decide (lU t k)):=by
 have:=hv.1
 rw [aIJ t k (by omega)]
 congr 1
 rw [Bool.eq_iff_iff,Bool.and_eq_true,decide_eq_true_iff,decide_eq_true_iff,decide_eq_true_iff]
 unfold lU
 omega
theorem len2 {l:List Int} (h:l.length=2):∃ p:Int × Int,l=R2 p:=by
 rcases l with _|⟨x,_|⟨y,_|⟨z,l⟩⟩⟩
 ·simp at h
 ·simp at h
 ·exact ⟨(x,y),rfl⟩
 ·simp at h
theorem aPC (ha:cN a) (hb:cN b) (r:List (List Int)) (hr:r.length < 1000000000):∃ R,aEg a b r=some R/\(R.2=false\/R.2=true)/\(R.2=true<->∃ l,aJL a b l/\r=l.map R2)/\∀ l,aJL a b l->r=l.map R2->R=(mtt l,true):=by
 have inj:∀ {l m:List (Int × Int)},l.map R2=m.map R2->l=m:=fun {l m} h=>by
  refine (List.map_inj_right (f:=R2) (fun p q h=>?_)).1 h
  have h':[p.1,p.2]=[q.1,q.2]:=h
  simp only [List.cons.injEq,and_true] at h'
  exact Prod.ext h'.1 h'.2
 suffices key:∃ R,aEg a b r=some R/\((R.2=false/\¬ ∃ l,aJL a b l/\r=l.map R2)\/∃ l,R=(mtt l,true)/\aJL a b l/\r=l.map R2) by
  obtain ⟨R,h1,h2⟩:=key
  refine ⟨R,h1,?_,?_,?_⟩
  ·rcases h2 with ⟨h,_⟩|⟨l,rfl,_⟩
   ·exact .inl h
   ·exact .inr rfl
  ·rcases h2 with ⟨h,h'⟩|⟨l,rfl,h,h'⟩
   ·rw [h];exact ⟨fun e=>(by cases e),fun e=>absurd e h'⟩
   ·exact ⟨fun _=>⟨l,h,h'⟩,fun _=>rfl⟩
  ·intro m hm hrm
   rcases h2 with ⟨h,h'⟩|⟨l,rfl,h,h'⟩
   ·exact absurd ⟨m,hm,hrm⟩ h'
   ·rw [inj (h'.symm.trans hrm)]
 unfold aEg
 have key0:=aLg (step:=fun s:List ((Int × Int) × Bool) × Int=>xU a b r s.1 s.2) r.length (fun k (m:List ((Int × Int) × Bool))=>(m,(k:Int))) (fun k m=>∃ l,m=mtt l/\aJL a b l/\r.take k=l.map R2)
  (fun x=>(∃ l,x=.inl (mtt l)/\aJL a b l/\r=l.map R2)\/(∃ y,x=.inr (y,false))/\¬ ∃ l,aJL a b l/\r=l.map R2) (fun k m hk hI=>?_) (fun m hI=>?_) r.length 0 [] (by omega) ⟨[],rfl,⟨List.Pairwise.nil,fun p hp=>by cases hp⟩,rfl⟩
 ·obtain ⟨x,h1,h2⟩:=key0
  have h1':loop (fun s:List ((Int × Int) × Bool) × Int=>xU a b r s.1 s.2) (([]:List ((Int × Int) × Bool)),0)=some x:=h1
  rw [h1',aA]
  rcases h2 with ⟨l,rfl,h3,h4⟩|⟨⟨y,rfl⟩,h3⟩
  ·exact ⟨_,rfl,.inr ⟨l,rfl,h3,h4⟩⟩
  ·exact ⟨_,rfl,.inl ⟨rfl,h3⟩⟩
 ·obtain ⟨l,rfl,hR,hl⟩:=hI
  have hll:l.length=k:=by
   have:=congrArg List.length hl
   rw [List.length_take,List.length_map] at this;omega
  have hout:∀ c e,c=true->kX (mtt l) (k:Int) e c=some (.inr (.inr ([],false))):=fun c e h=>by
   unfold kX;rw [if_pos h]
  simp only [xU,dJ hk,if_pos,cU hk,aA]
  by_cases h2:r[k].length=2
  ·obtain ⟨p,hp⟩:=len2 h2
   rw [hp,if_neg (by simp [R2])]
   rw [show ix (R2 p) 0=some p.1 from rfl,aA,isSt ha,aA]
   by_cases hx:lU a p.1
   ·rw [if_neg (by simp [hx]),show ix (R2 p) 1=some p.2 from rfl,aA,isSt hb,aA]
    by_cases hy:lU b p.2
    ·rw [if_neg (by simp [hy])]
     have hgo:(∀ q∈l,qLt q p=true)->∃ a',kX (mtt l) (k:Int) (R2 p) false=some (.inl (a',((k+1:Nat):Int)))/\∃ l',a'=mtt l'/\aJL a b l'/\r.take (k+1)=l'.map R2:=fun hq=>by
      have hnot:p∉l:=fun h=>by have:=hq p h;rw [qLt_irr] at this;cases this
      unfold kX
      rw [if_neg (by simp),show ix (R2 p) 0=some p.1 from rfl,aA,show ix (R2 p) 1=some p.2 from rfl,aA,aA,cS hk (by omega),show ((p.1,p.2):Int × Int)=p from rfl,aOw hnot]
      refine ⟨_,rfl,l++[p],rfl,⟨?_,?_⟩,?_⟩
      ·rw [List.pairwise_append]
       exact ⟨hR.1,by simp,fun q hq' s hs=>by simp at hs;subst hs;exact hq q hq'⟩
      ·intro q hq'
       rcases List.mem_append.1 hq' with h|h
       ·exact hR.2 q h
       ·simp at h;subst h;exact ⟨hx,hy⟩
      ·rw [List.take_add_one,List.getElem?_eq_getElem hk,hl,hp,List.map_append];rfl
     by_cases hk0:k=0
     ·subst hk0
      rw [if_neg (by simp)]
      left
      have:l=[]:=List.length_eq_zero_iff.1 hll
      exact hgo fun q hq=>by rw [this] at hq;cases hq
     ·have hk1:wr ((k:Int) - 1)=((k - 1:Nat):Int):=by rw [dP (by omega) (by omega)];omega
      rw [if_pos (by simp;omega),hk1,cU (xs:=r) (k:=k - 1) (by omega),aA]
      have hlast:r[k - 1]'(by omega)=R2 (l[k - 1]'(by omega)):=by
       have h3:(r.take k)[k - 1]?=(l.map R2)[k - 1]?:=by rw [hl]
       rw [List.getElem?_take_of_lt (by omega),List.getElem?_eq_getElem (show k - 1 < r.length by omega),List.getElem?_map,List.getElem?_eq_getElem (show k - 1 < l.length by omega)] at h3
       exact Option.some.inj h3
      rw [hlast,aPB,aA]
      have hc:decide (0<=aHf (R2 (l[k - 1]'(by omega))) (R2 p))=!qLt (l[k - 1]'(by omega)) p:=by
       rw [←aKu];unfold rowLt
       rw [Bool.eq_iff_iff]
       simp only [decide_eq_true_eq,Bool.not_eq_true',decide_eq_false_iff_not]
       omega
      rw [hc]
      cases hlt:qLt (l[k - 1]'(by omega)) p with
      |true=>
       left
       refine hgo fun q hq=>?_
       obtain ⟨i,hi,rfl⟩:=List.mem_iff_getElem.1 hq
       by_cases e:i=k - 1
       ·subst e;exact hlt
       ·exact qLt_tr (List.pairwise_iff_getElem.1 hR.1 i (k - 1) hi (by omega) (by omega)) hlt
      |false=>
       right
       refine ⟨_,hout _ _ rfl,.inr ⟨⟨_,rfl⟩,fun ⟨m,h3,h4⟩=>?_⟩⟩
       have hml:m.length=r.length:=by rw [h4,List.length_map]
       have g1:R2 m[k]=R2 p:=by
        have:r[k]?=(m.map R2)[k]?:=by rw [←h4]
        rw [List.getElem?_eq_getElem hk,List.getElem?_map,List.getElem?_eq_getElem (show k < m.length by omega),hp] at this
        exact (Option.some.inj this).symm
       have g2:R2 m[k - 1]=R2 (l[k - 1]'(by omega)):=by
        have:r[k - 1]?=(m.map R2)[k - 1]?:=by rw [←h4]
        rw [List.getElem?_eq_getElem (show k - 1 < r.length by omega),List.getElem?_map,List.getElem?_eq_getElem (show k - 1 < m.length by omega),hlast] at this
        exact (Option.some.inj this).symm
       have:=List.pairwise_iff_getElem.1 h3.1 (k - 1) k (by omega) (by omega) (by omega)
       rw [←aKu,g1,g2,aKu,hlt] at this
       cases this
    ·rw [if_pos (by simp [hy])]
     right
     refine ⟨_,hout _ _ rfl,.inr ⟨⟨_,rfl⟩,fun ⟨m,h3,h4⟩=>hy ?_⟩⟩
     have hmem:R2 p∈r:=hp ▸ List.getElem_mem hk
     rw [h4,List.mem_map] at hmem
     obtain ⟨q,hq,e⟩:=hmem
     have e':[q.1,q.2]=[p.1,p.2]:=e
     simp only [List.cons.injEq,and_true] at e'
     rw [←e'.2];exact (h3.2 q hq).2
   ·rw [if_pos (by simp [hx])]
    right
    refine ⟨_,hout _ _ rfl,.inr ⟨⟨_,rfl⟩,fun ⟨m,h3,h4⟩=>hx ?_⟩⟩
    have hmem:R2 p∈r:=hp ▸ List.getElem_mem hk
    rw [h4,List.mem_map] at hmem
    obtain ⟨q,hq,e⟩:=hmem
    have e':[q.1,q.2]=[p.1,p.2]:=e
    simp only [List.cons.injEq,and_true] at e'
    rw [←e'.1];exact (h3.2 q hq).1
  ·rw [if_pos (by simp;omega)]
   right
   refine ⟨_,hout _ _ rfl,.inr ⟨⟨_,rfl⟩,fun ⟨m,h3,h4⟩=>h2 ?_⟩⟩
   have hmem:∀ x∈r,x.length=2:=by
    rw [h4]
    intro x hx
    obtain ⟨q,_,rfl⟩:=List.mem_map.1 hx
    rfl
   exact hmem _ (List.getElem_mem hk)
 ·obtain ⟨l,rfl,hR,hl⟩:=hI
  exact ⟨_,by simp only [xU,eZ];rfl,.inl ⟨l,rfl,hR,by rw [←hl,List.take_length]⟩⟩
end
end Gv
namespace Gv
open Go
section
variable {a b:cB} {kind:Int}
end
end Gv
namespace Gv
open Go
def unA (a b:cB) (M:List aY):List Edge:=(a.E.map fun e=>(⟨e.F,pos (dV::M) (txt a e),e.To⟩:Edge))++b.E.map fun e=>(⟨e.F+a.N,pos (dV::M) (txt b e),e.To+a.N⟩:Edge)
structure Uni (a b:cB) (M:List aY) (Eo:List Edge):Prop where
 str:rD M
 mem:∀ s,s∈M<->s∈a.L++b.L/\s≠dV
 len:M.length<=24
 se:SE Eo
 ed:∀ x,x∈Eo<->x∈unA a b M
 elen:Eo.length<=600
section
variable {a b:cB}
theorem aHS {t:cB} (hv:cN t) {e:Edge} (he:e∈t.E):txt t e∈t.L:=by
 have:=(vD hv he).2.2
 unfold txt
 rw [List.getD_eq_getElem?_getD,List.getElem?_eq_getElem (by omega)]
 exact List.getElem_mem _
theorem txt_lab {t:cB} (hv:cN t) {e f:Edge} (he:e∈t.E) (hf:f∈t.E) (h:txt t e=txt t f):e.B=f.B:=by
 have h1:=aGx hv he (aHS hv he)
 have h2:=aGx hv hf (aHS hv he)
 rw [beq_self_eq_true] at h1
 rw [h,beq_self_eq_true] at h2
 rw [←h] at h2
 have h1':=beq_iff_eq.1 h1.symm
 have h2':=beq_iff_eq.1 h2.symm
 omega
theorem pos_eq {γ:Type} [BEq γ] [LawfulBEq γ] {xs:List γ} {x y:γ} (hx:x∈xs) (hy:y∈xs) (h:pos xs x=pos xs y):x=y:=by
 obtain ⟨i,e1,g1⟩:=aIc hx
 obtain ⟨j,e2,g2⟩:=aIc hy
 have:i=j:=by omega
 subst this
 rw [g1] at g2
 exact Option.some.inj g2
theorem edge_eq {e f:Edge} (h1:e.F=f.F) (h2:e.B=f.B) (h3:e.To=f.To):e=f:=by
 cases e;cases f;simp_all
theorem unA_nodup (ha:cN a) (hb:cN b) {M:List aY} (hm:∀ s,s∈M<->s∈a.L++b.L/\s≠dV):(unA a b M).Nodup:=by
 have hin:∀ s,s∈a.L++b.L->s∈dV::M:=fun s hs=>by
  by_cases e:s=dV
  ·subst e;simp
  ·exact List.mem_cons_of_mem _ ((hm s).2 ⟨hs,e⟩)
 unfold unA
 rw [List.nodup_append]
 refine ⟨?_,?_,fun x hx y hy e=>?_⟩
 ·refine List.Pairwise.map _ (R:=fun e f:Edge=>e∈a.E/\f∈a.E/\e≠f) (fun e f ⟨he,hf,hne⟩ h=>hne ?_) ?_
  ·simp only [Edge.mk.injEq] at h
   exact edge_eq h.1 (txt_lab ha he hf (pos_eq (hin _ (by simp [aHS ha he])) (hin _ (by simp [aHS ha hf])) h.2.1)) h.2.2
  ·exact (aLm (aJj ha)).imp_of_mem fun he hf h=>⟨he,hf,h⟩
 ·refine List.Pairwise.map _ (R:=fun e f:Edge=>e∈b.E/\f∈b.E/\e≠f) (fun e f ⟨he,hf,hne⟩ h=>hne ?_) ?_
  ·simp only [Edge.mk.injEq] at h
   exact edge_eq (by omega) (txt_lab hb he hf (pos_eq (hin _ (by simp [aHS hb he])) (hin _ (by simp [aHS hb hf])) h.2.1)) (by omega)
  ·exact (aLm (aJj hb)).imp_of_mem fun he hf h=>⟨he,hf,h⟩
 ·obtain ⟨e1,h1,rfl⟩:=List.mem_map.1 hx
  obtain ⟨e2,h2,h3⟩:=List.mem_map.1 hy
  rw [←h3] at e
  simp only [Edge.mk.injEq] at e
  have:=(vD ha h1).1
  have:=(vD hb h2).1
  unfold lU at *
  omega
theorem uni_ex (ha:cN a) (hb:cN b):∃ M Eo,Uni a b M Eo:=by
 have l1:=ha.2.2.1.2.1
 have l2:=hb.2.2.1.2.1
 have h1:=ha.2.2.2.1
 have h2:=hb.2.2.2.1
 obtain ⟨M,_,j2,j3,j4⟩:=aLl (a.L++b.L) (by rw [List.length_append];omega)
 rw [List.length_append] at j4
 have hnd:=unA_nodup ha hb (M:=M) j3
 refine ⟨M,srt dW (unA a b M),j2,j3,by omega,aLh dW aEV aCl aHP hnd,fun x=>by unfold srt;rw [List.mem_mergeSort],?_⟩
 unfold srt
 rw [List.length_mergeSort]
 unfold unA
 rw [List.length_append,List.length_map,List.length_map];omega
def uniL (a b:cB) (M:List aY) (Eo:List Edge):cB:=⟨a.N+b.N,a.I,dV::M,Eo⟩
theorem aMv (ha:cN a) (hb:cN b) {M:List aY} {Eo:List Edge} (h:Uni a b M Eo):aAr a b=some (uniL a b M Eo):=by
 have s1:=ha.1
 have s2:=hb.1
 have l1:=ha.2.2.1.2.1
 have l2:=hb.2.2.1.2.1
 have h1:=ha.2.2.2.1
 have h2:=hb.2.2.2.1
 unfold aAr
 rw [dK (by simp [kP];omega),aA,List.nil_append,dK (by simp [kP];omega),aA,dK (by simp [kP];omega),aA,List.nil_append]
 have key:=vB (step:=fun s:List Edge × Int=>uP a b s.1 s.2) b.E (fun j (o:List Edge)=>(o,(j:Int)))
  (fun l o=>o++l.map fun x=>(⟨wr (x.F+a.N),wr (x.B+(a.L.length:Int)),wr (x.To+a.N)⟩:Edge)) (fun j o=>o.length<=300+j) (fun j o e l hj hx hI=>?_) (fun o _=>by simp only [uP,eZ];simp) (a:=a.E) (by omega)
 ·rw [show loop (fun s:List Edge × Int=>uP a b s.1 s.2) (a.E,0)=_ from key,aA]
  unfold yX
  have e1:(b.E.map fun x=>(⟨wr (x.F+a.N),wr (x.B+(a.L.length:Int)),wr (x.To+a.N)⟩:Edge))=b.E.map fun x=>(⟨x.F+a.N,x.B+(a.L.length:Int),x.To+a.N⟩:Edge):=by
   refine List.map_congr_left fun e he=>?_
   have:=vD hb he
   unfold lU at this
   rw [dP (by omega) (by omega),dP (by omega) (by omega),dP (by omega) (by omega)]
  rw [e1,dP (by omega) (by omega),aOr (M:=M) (Eo:=Eo) (by rw [List.length_append];omega) h.str h.mem (by rw [List.length_append,List.length_map];omega) (fun e he=>?_) h.se (fun x=>?_)]
  ·rfl
  ·rw [List.length_append]
   rcases List.mem_append.1 he with he|he
   ·have:=vD ha he;omega
   ·obtain ⟨e0,h0,rfl⟩:=List.mem_map.1 he
    have:=vD hb h0
    simp only;omega
  ·rw [h.ed x]
   unfold unA
   have ga:∀ e∈a.E,(a.L++b.L).getD e.B.toNat []=txt a e:=fun e he=>by
    have:=vD ha he
    unfold txt
    rw [List.getD_eq_getElem?_getD,List.getD_eq_getElem?_getD,List.getElem?_append_left (by omega)]
   have gb:∀ e∈b.E,(a.L++b.L).getD (e.B+(a.L.length:Int)).toNat []=txt b e:=fun e he=>by
    have:=vD hb he
    unfold txt
    rw [List.getD_eq_getElem?_getD,List.getD_eq_getElem?_getD,List.getElem?_append_right (by omega)]
    congr 2
    omega
   rw [List.mem_append,List.mem_map,List.mem_map]
   constructor
   ·rintro (⟨e,he,rfl⟩|⟨e,he,rfl⟩)
    ·exact ⟨e,List.mem_append_left _ he,by rw [ga e he]⟩
    ·exact ⟨_,List.mem_append_right _ (List.mem_map_of_mem he),by simp only [gb e he]⟩
   ·rintro ⟨e,he,rfl⟩
    rcases List.mem_append.1 he with he|he
    ·exact .inl ⟨e,he,by rw [ga e he]⟩
    ·obtain ⟨e0,h0,rfl⟩:=List.mem_map.1 he
     exact .inr ⟨e0,h0,by simp only [gb e0 h0]⟩
 ·left
  obtain ⟨hj',rfl⟩:=wZ hx
  refine ⟨o++[_],?_,by simp;omega,by simp [List.append_assoc];rfl⟩
  simp only [uP,dJ hj,if_pos,hx,aA]
  rw [dK (by simp [kP];omega),aA,cS hj (by omega)]
end
end Gv
namespace Gv
open Go
structure Big (u:cB):Prop where
 st:1<=u.N/\u.N<=100
 lab:u.L.length<=100
 ed:u.E.length<=90000
 inn:∀ e∈u.E,lU u e.F/\lU u e.To/\0<=e.B/\e.B < u.L.length
def jE (u:cB) (p:List Int):Prop:=p.length=u.N.toNat/\∀ z∈p,0<=z/\z < u.N
section
variable {u:cB} {p:List Int}
theorem aDo (hp:jE u p) {s:Int} (h:lU u s):ix p s=some (p.getD s.toNat 0)/\0<=p.getD s.toNat 0/\p.getD s.toNat 0 < u.N:=by
 unfold lU at h
 have hl:s.toNat < p.length:=by rw [hp.1];omega
 have e:p.getD s.toNat 0=p[s.toNat]:=by rw [List.getD_eq_getElem?_getD,List.getElem?_eq_getElem hl];rfl
 rw [e]
 exact ⟨aFd h.1 hl,hp.2 _ (List.getElem_mem hl)⟩
theorem part_cn (hu:Big u) {κ:Type} [DecidableEq κ] [BEq κ] [LawfulBEq κ] {l:List κ} (h:l.length=u.N.toNat):jE u (cn l):=by
 have:=hu.st
 refine ⟨by rw [aGP,h],fun z hz=>?_⟩
 have:=cn_in hz
 omega
end
end Gv
namespace Gv
open Go
section
variable {a b:cB}
theorem uni_lab {M:List aY} {Eo:List Edge} (h:Uni a b M Eo) {s:aY} (hs:s∈a.L\/s∈b.L):s∈dV::M:=by
 by_cases e:s=dV
 ·subst e;simp
 ·exact List.mem_cons_of_mem _ ((h.mem s).2 ⟨by simpa using hs,e⟩)
theorem aNp {γ:Type} [BEq γ] [LawfulBEq γ] {xs:List γ} {x:γ} (hx:x∈xs):0<=pos xs x/\pos xs x < xs.length:=by
 obtain ⟨i,e,g⟩:=aIc hx
 have:=(List.getElem?_eq_some_iff.1 g).1
 omega
theorem uni_big (ha:cN a) (hb:cN b) {M:List aY} {Eo:List Edge} (h:Uni a b M Eo):Big (uniL a b M Eo):=by
 have s1:=ha.1
 have s2:=hb.1
 have hl:=h.len
 have he:=h.elen
 refine ⟨by show 1<=a.N+b.N/\a.N+b.N<=100;omega,by show (dV::M).length<=100;rw [List.length_cons];omega,by show Eo.length<=90000;omega,fun e hE=>?_⟩
 have hE':=(h.ed e).1 hE
 unfold unA at hE'
 show (0<=e.F/\e.F < a.N+b.N)/\(0<=e.To/\e.To < a.N+b.N)/\0<=e.B/\e.B < ((dV::M).length:Int)
 rcases List.mem_append.1 hE' with g|g
 ·obtain ⟨f,hf,rfl⟩:=List.mem_map.1 g
  have h1:=vD ha hf
  have h2:=aNp (uni_lab h (.inl (aHS ha hf)))
  unfold lU at h1
  simp only;omega
 ·obtain ⟨f,hf,rfl⟩:=List.mem_map.1 g
  have h1:=vD hb hf
  have h2:=aNp (uni_lab h (.inr (aHS hb hf)))
  unfold lU at h1
  simp only;omega
end
end Gv
namespace Gv
open Go
theorem anU_le (x:Int):0<=anU x 255/\anU x 255<=255:=by
 unfold anU
 have h:(BitVec.ofInt 64 x&&& BitVec.ofInt 64 255).toNat<=255:=by
  rw [BitVec.toNat_and]
  exact Nat.le_trans Nat.and_le_right (by decide)
 unfold gG
 omega
theorem shU_ok (x:Int):∃ y,shU x 40=some y:=⟨_,by unfold shU;rw [if_pos (by decide)]⟩
theorem byte_le (b:UInt8):0<=(b.toNat:Int)/\(b.toNat:Int)<=255:=by
 have:=b.toNat_lt
 omega
theorem next_ok (c:aY) {s1:Int} (s2:Int) (h:0<=s1/\s1<=1000000000000):∃ v s2',uW c s1 s2=some (v,s1+1,s2')/\0<=v/\v<=255:=by
 have hw:wr (s1+1)=s1+1:=dP (by omega) (by omega)
 have key:∀ b:Int,0<=b/\b<=255->∃ v s2',oO c s1 s2 b=some (v,s1+1,s2')/\0<=v/\v<=255:=by
  intro b hb
  unfold oO
  rw [hw]
  split
  ·exact ⟨_,_,rfl,hb⟩
  ·obtain ⟨y,hy⟩:=shU_ok (gG ((gG ((gG (s2 * 6364136223846793005))+(gG b)))+1442695040888963407))
   rw [hy,aA]
   have h2:=anU_le y
   refine ⟨_,_,rfl,?_⟩
   rw [dP (by omega) (by omega)];exact h2
 unfold uW
 split
 ·rename_i hlt
  have hlt':s1 < (c.length:Int):=by simpa using hlt
  rw [aFd h.1 (by omega),aA]
  have hb:=byte_le (c[s1.toNat]'(by omega))
  rw [dP (by omega) (by omega)]
  exact key _ hb
 ·exact key 0 (by omega)
theorem rm_ok {x n:Int} (hx:0<=x) (hn:1<=n):∃ v,rm x n=some v/\0<=v/\v < n:=by
 unfold rm
 rw [if_neg (by omega)]
 have e:x.tmod n=x % n:=Int.tmod_eq_emod_of_nonneg hx
 have h1:=Int.emod_nonneg x (show n≠0 by omega)
 have h2:=Int.emod_lt_of_pos x (show 0 < n by omega)
 first
  |exact ⟨_,rfl,by rw [e];exact h1,by rw [e];exact h2⟩
  |exact ⟨_,rfl,by rw [e,dP]<;>omega,by rw [e,dP]<;>omega⟩
theorem fH (c:aY) {s1 n:Int} (s2:Int) (h:0<=s1/\s1<=100000000000) (hn:1<=n):∃ v s1' s2',bR c s1 s2 n=some (v,s1',s2')/\(0<=v/\v < n)/\s1<=s1'/\s1'<=s1+2:=by
 unfold bR
 by_cases h1:n<=1
 ·rw [if_pos (by simpa using h1)]
  exact ⟨_,_,_,rfl,by omega,by omega,by omega⟩
 ·rw [if_neg (by simpa using h1)]
  obtain ⟨v,t2,e,g1,g2⟩:=next_ok c s2 (s1:=s1) (by omega)
  rw [e,aA]
  simp only
  have key:∀ x a b:Int,0<=x->s1<=a->a<=s1+2->∃ v s1' s2',oP n x a b=some (v,s1',s2')/\(0<=v/\v < n)/\s1<=s1'/\s1'<=s1+2:=by
   intro x a b hx ha hb
   unfold oP
   obtain ⟨y,hy,q1,q2⟩:=rm_ok hx (show 1<=n by omega)
   rw [hy,aA]
   exact ⟨_,_,_,rfl,⟨q1,q2⟩,ha,hb⟩
  by_cases h2:200 < n
  ·rw [if_pos (by simpa using h2)]
   obtain ⟨v',t2',e',g1',g2'⟩:=next_ok c t2 (s1:=s1+1) (by omega)
   rw [e',aA]
   simp only
   rw [dP (x:=v * 256) (by omega) (by omega),dP (by omega) (by omega)]
   exact key _ _ _ (by omega) (by omega) (by omega)
  ·rw [if_neg (by simpa using h2)]
   exact key _ _ _ g1 (by omega) (by omega)
theorem aBL (c:aY) {s1 n:Int} (s2:Int) (h:0<=s1/\s1<=100000000000) (hn:1<=n):∃ b s1' s2',eI c s1 s2 n=some (b,s1',s2')/\s1<=s1'/\s1'<=s1+2:=by
 obtain ⟨v,a,b,e,_,h2,h3⟩:=fH c s2 h hn
 unfold eI
 rw [e,aA]
 exact ⟨_,_,_,rfl,h2,h3⟩
theorem aHT (c:aY) {s1:Int} (s2:Int) (h:0<=s1/\s1<=100000000000) {l:List Int} (hl:l≠[]):∃ v s1' s2',eU c s1 s2 l=some (v,s1',s2')/\v∈l/\s1<=s1'/\s1'<=s1+2:=by
 have h1:1<=(l.length:Int):=by
  have:=List.length_pos_iff.2 hl
  omega
 obtain ⟨v,a,b,e,hv,h2,h3⟩:=fH c s2 h h1
 unfold eU
 rw [e,aA]
 simp only
 rw [aFd hv.1 (by omega),aA]
 exact ⟨_,_,_,rfl,List.getElem_mem _,h2,h3⟩
end Gv
namespace Gv
open Go
def Nm:List aY:=[dV,[97],[98],[99],[103,101,116,40,48,41],[103,101,116,40,49,41]]
theorem Nm_lab:∀ s∈Nm,zU s=true:=by decide
theorem Nm_len:∀ s∈Nm,s.length<=6:=by decide
structure Drn (c:Nat) (t:cB):Prop where
 ok:cN t
 nm:∀ s∈t.L,s∈Nm
 st:t.N<=10
 ed:t.E.length<=c
theorem Drn.mono {c d:Nat} {t:cB} (h:Drn c t) (hc:c<=d):Drn d t:=⟨h.ok,h.nm,h.st,Nat.le_trans h.ed hc⟩
theorem srtE_SE (l:List Edge):SE (lW (srt dW l)):=by
 have h1:(srt dW l).Pairwise fun a b=>dW b a=false:=by
  have:=List.pairwise_mergeSort (le:=fun a b=>!dW b a) (fun a b c h1 h2=>?_) (fun a b=>?_) l
  ·refine this.imp fun {a b} h=>?_
   simpa using h
  ·simp only [Bool.not_eq_true'] at h1 h2 ⊢
   cases h3:dW c a with
   |false=>rfl
   |true=>
    have:=aMt h3 h1
    rw [h2] at this;cases this
  ·cases h3:dW b a with
   |false=>simp
   |true=>simp [aPs h3]
 exact aIK (R:=fun a b=>dW b a=false) (S:=fun a b=>dW a b=true) (fun h hne=>aMs h hne) (fun h h'=>aMt h h') h1
theorem aOA (l:List Edge):(lW (srt dW l)).length<=l.length:=by
 have:=aMu (srt dW l)
 unfold srt at this ⊢
 rwa [List.length_mergeSort] at this
theorem aOB {l:List Edge} {x:Edge}:x∈lW (srt dW l)<->x∈l:=by
 rw [aIb];unfold srt;rw [List.mem_mergeSort]
theorem labs_nm {M:List aY} (hM:rD M) (hn:∀ s∈M,s∈Nm):yJ (dV::M):=by
 have hnd:M.Nodup:=hM.1.imp fun {a b} h e=>by subst e;rw [tX] at h;cases h
 have hl:M.length<=5:=by
  have:=List.Nodup.length_le_of_subset (l₁:=dV::M) (l₂:=Nm) (List.nodup_cons.2 ⟨hM.2,hnd⟩) (fun x hx=>by
   rcases List.mem_cons.1 hx with rfl|hx
   ·simp [Nm]
   ·exact hn x hx)
  have h6:Nm.length=6:=rfl
  rw [List.length_cons] at this
  omega
 refine ⟨by simp,by simp;omega,fun _=>rfl,fun k h1 hk=>?_⟩
 obtain ⟨k,rfl⟩:∃ j,k=j+1:=⟨k - 1,by omega⟩
 have hk':k < M.length:=by simpa using hk
 have hm:M[k]∈M:=List.getElem_mem hk'
 rw [List.getElem_cons_succ]
 refine ⟨Nm_lab _ (hn _ hm),fun e=>hM.2 (e ▸ hm),fun h2=>?_⟩
 obtain ⟨k,rfl⟩:∃ j,k=j+1:=⟨k - 1,by omega⟩
 have:=List.pairwise_iff_getElem.1 hM.1 k (k+1) (by omega) hk' (by omega)
 simpa using this
theorem aJm {T:List aY} (hT:∀ s∈T,s∈Nm) (hTl:T.length<=100) {st ini:Int} (h1:1<=st/\st<=10) (h2:0<=ini/\ini < st) {edges:List Edge} (hl:edges.length<=300)
  (he:∀ e∈edges,(0<=e.F/\e.F < st)/\(0<=e.To/\e.To < st)/\0<=e.B/\e.B < T.length):∃ t,rZ st ini T edges=some t/\Drn edges.length t/\t.N=st/\t.I=ini:=by
 obtain ⟨M,_,j2,j3,j4⟩:=aLl T (by omega)
 have hM:∀ s∈M,s∈Nm:=fun s hs=>hT s ((j3 s).1 hs).1
 refine ⟨⟨st,ini,dV::M,lW (srt dW (edges.map fun e=>(⟨e.F,pos (dV::M) (T.getD e.B.toNat []),e.To⟩:Edge)))⟩,aOr (by omega) j2 j3 (by omega) (fun e h=>(he e h).2.2) (srtE_SE _) (fun x=>?_) st ini,⟨⟨by show 1<=st/\st<=40;omega,by show 0<=ini/\ini<=st - 1;omega,labs_nm j2 hM,aLn ?_ (srtE_SE _) fun x hx=>?_⟩,fun s hs=>?_,by show st<=10;omega,?_⟩,rfl,rfl⟩
 ·rw [aOB,List.mem_map]
  exact ⟨fun ⟨e,h,g⟩=>⟨e,h,g.symm⟩,fun ⟨e,h,g⟩=>⟨e,h,g.symm⟩⟩
 ·have:=aOA (edges.map fun e=>(⟨e.F,pos (dV::M) (T.getD e.B.toNat []),e.To⟩:Edge))
  rw [List.length_map] at this
  exact Nat.le_trans this hl
 ·obtain ⟨e,h,rfl⟩:=List.mem_map.1 (aOB.1 hx)
  obtain ⟨g1,g2,g3,g4⟩:=he e h
  have hin:T.getD e.B.toNat []∈dV::M:=by
   have hmem:T.getD e.B.toNat []∈T:=by
    rw [List.getD_eq_getElem?_getD,List.getElem?_eq_getElem (by omega)]
    exact List.getElem_mem _
   by_cases ht:T.getD e.B.toNat []=dV
   ·rw [ht];simp
   ·exact List.mem_cons_of_mem _ ((j3 _).2 ⟨hmem,ht⟩)
  have:=aNp hin
  show (0<=e.F/\e.F<=st - 1)/\(0<=e.To/\e.To<=st - 1)/\0<=pos (dV::M) (T.getD e.B.toNat [])/\pos (dV::M) (T.getD e.B.toNat [])<=((dV::M).length:Int) - 1
  omega
 ·rcases List.mem_cons.1 hs with rfl|hs
  ·simp [Nm]
  ·exact hM s hs
 ·have:=aOA (edges.map fun e=>(⟨e.F,pos (dV::M) (T.getD e.B.toNat []),e.To⟩:Edge))
  rw [List.length_map] at this
  exact this
theorem names_ok (c:aY) {s1:Int} (s2:Int) (h:0<=s1/\s1<=10000000000):∃ L s1' s2',wI c s1 s2=some (L,s1',s2')/\((∀ s∈L,s∈Nm)/\1<=L.length/\L.length<=7)/\s1<=s1'/\s1'<=s1+10:=by
 have key:=eA (step:=fun s:Int × Int × List aY × Int=>mV c s.1 s.2.1 s.2.2.1 s.2.2.2) 5 (fun k (a:Int × Int × List aY)=>(a.1,a.2.1,a.2.2,(k:Int))) (fun k a=>(∀ s∈a.2.2,s∈Nm)/\1<=a.2.2.length/\a.2.2.length<=1+k/\s1<=a.1/\a.1<=s1+2 * k)
  (fun r=>(∀ s∈r.1,s∈Nm)/\1<=r.1.length/\r.1.length<=6/\s1<=r.2.1/\r.2.1<=s1+10) (fun k a hk hI=>?_) (fun a hI=>?_) 5 0 (s1,s2,[dV]) (by omega) ⟨by simp [Nm],by simp,by simp,by simp,by simp⟩
 ·obtain ⟨r,h1,g1,g2,g3,g4,g5⟩:=key
  unfold wI
  have h1':loop (fun s:Int × Int × List aY × Int=>mV c s.1 s.2.1 s.2.2.1 s.2.2.2) (s1,s2,[dV],0)=some r:=h1
  rw [show ([([116,97,117]:aY)]:List aY)=[dV] from rfl,h1',aA]
  unfold qS qR
  split
  ·rw [dK (by simp [kP];omega),aA]
   refine ⟨_,_,_,rfl,⟨fun s hs=>?_,by simp,by simp;omega⟩,g4,g5⟩
   rcases List.mem_append.1 hs with hs|hs
   ·exact g1 s hs
   ·simp at hs;subst hs;simp [Nm]
  ·exact ⟨_,_,_,rfl,⟨g1,g2,by omega⟩,g4,g5⟩
 ·obtain ⟨x,y,o⟩:=a
  obtain ⟨g1,g2,g3,g4,g5⟩:=hI
  simp only at g1 g2 g3 g4 g5 ⊢
  obtain ⟨b,t1,t2,e,h3,h4⟩:=aBL c y (s1:=x) (n:=2) (by omega) (by omega)
  have hw:wr ((k:Int)+1)=((k+1:Nat):Int):=cS hk (by omega)
  unfold mV
  rw [if_pos (by simp;omega),e,aA]
  have hno:kW (k:Int) t1 t2 o=some (.inl (t1,t2,o,((k+1:Nat):Int))):=by unfold kW;rw [hw]
  have key:∀ v:Bool,∃ a':Int × Int × List aY,mU o (k:Int) t1 t2 v=some (.inl (a'.1,a'.2.1,a'.2.2,((k+1:Nat):Int)))/\(∀ s∈a'.2.2,s∈Nm)/\1<=a'.2.2.length/\a'.2.2.length<=1+(k+1)/\s1<=a'.1/\a'.1<=s1+2 * ((k+1:Nat):Int):=by
   intro v
   unfold mU
   cases v with
   |false=>
    rw [if_neg (by simp),hno]
    exact ⟨(t1,t2,o),rfl,g1,g2,by simp only;omega,by simp only;omega,by simp only;omega⟩
   |true=>
    have hkl:k < ([([97]:aY),([98]:aY),([99]:aY),([103,101,116,40,48,41]:aY),([103,101,116,40,49,41]:aY)]:List aY).length:=hk
    rw [if_pos rfl,cU hkl,aA,dK (by simp [kP];omega),aA]
    unfold kW
    rw [hw]
    refine ⟨(t1,t2,_),rfl,fun s hs=>?_,by simp,by simp;omega,by simp only;omega,by simp only;omega⟩
    rcases List.mem_append.1 hs with hs|hs
    ·exact g1 s hs
    ·rw [List.mem_singleton] at hs
     have:s∈([([97]:aY),([98]:aY),([99]:aY),([103,101,116,40,48,41]:aY),([103,101,116,40,49,41]:aY)]:List aY):=hs ▸ List.getElem_mem hkl
     exact List.mem_cons_of_mem _ this
  split
  ·exact key _
  ·exact key _
 ·obtain ⟨x,y,o⟩:=a
  obtain ⟨g1,g2,g3,g4,g5⟩:=hI
  simp only at g1 g2 g3 g4 g5 ⊢
  refine ⟨(o,x,y),?_,g1,g2,by simp only;omega,g4,by simp only;omega⟩
  unfold mV
  rw [if_neg (by simp)]
end Gv
namespace Gv
open Go
def tG (st:Int) (n:Nat) (e:Edge):Prop:=(0<=e.F/\e.F < st)/\(0<=e.To/\e.To < st)/\0<=e.B/\e.B < n
section
variable {c:aY} {r9 r14:Int × Int × Int} {base st:Int}
def aLr (K:List Int) (base st:Int):Prop:=(K.length:Int)=st/\∀ i,(hi:i < K.length)->(0<=K[i]/\K[i] < base)/\((i:Int) < base->K[i]=(i:Int))
theorem kinds_ok (hb:1<=base/\base<=4) (hs:base<=st/\st<=6) (e1:wr (1+r9.1)=base) (e2:wr (base+r14.1)=st) {s1:Int} (s2:Int) (h:0<=s1/\s1<=10000000000):
  ∃ a b K,loop (fun s:Int × Int × List Int × Int=>qA c r9 r14 s.1 s.2.1 s.2.2.1 s.2.2.2) (s1,s2,([]:List Int),0)=some (a,b,K)/\aLr K base st/\s1<=a/\a<=s1+12:=by
 have key:=eA (step:=fun s:Int × Int × List Int × Int=>qA c r9 r14 s.1 s.2.1 s.2.2.1 s.2.2.2) st.toNat (fun k (a:Int × Int × List Int)=>(a.1,a.2.1,a.2.2,(k:Int))) (fun k a=>(a.2.2.length=k/\∀ i,(hi:i < a.2.2.length)->(0<=a.2.2[i]/\a.2.2[i] < base)/\((i:Int) < base->a.2.2[i]=(i:Int)))/\s1<=a.1/\a.1<=s1+2 * k)
  (fun r=>aLr r.2.2 base st/\s1<=r.1/\r.1<=s1+12) (fun k a hk hI=>?_) (fun a hI=>?_) st.toNat 0 (s1,s2,[]) (by omega) ⟨⟨rfl,fun i hi=>by simp at hi⟩,by simp,by simp⟩
 ·obtain ⟨⟨a,b,K⟩,h1,g1,g2,g3⟩:=key
  exact ⟨a,b,K,h1,g1,g2,g3⟩
 ·obtain ⟨x,y,o⟩:=a
  obtain ⟨⟨g1,g2⟩,g3,g4⟩:=hI
  simp only at g1 g2 g3 g4 ⊢
  have hw:wr ((k:Int)+1)=((k+1:Nat):Int):=cS hk (by omega)
  have hadd:∀ v:Int,(0<=v/\v < base)->((k:Int) < base->v=(k:Int))->(o++[v]).length=k+1/\∀ i,(hi:i < (o++[v]).length)->(0<=(o++[v])[i]/\(o++[v])[i] < base)/\((i:Int) < base->(o++[v])[i]=(i:Int)):=by
   intro v h1 h2
   refine ⟨by simp;exact g1,fun i hi=>?_⟩
   by_cases hl:i < o.length
   ·rw [List.getElem_append_left hl];exact g2 i hl
   ·have:i=o.length:=by simp at hi;omega
    subst this
    rw [List.getElem_append_right (Nat.le_refl _)]
    simp only [Nat.sub_self,List.getElem_cons_zero]
    exact ⟨h1,fun h=>by rw [g1] at h ⊢;exact h2 h⟩
  unfold qA
  rw [e1,e2,if_pos (by simp;omega)]
  by_cases hkb:(k:Int) < base
  ·rw [if_pos (by simpa using hkb),dK (by simp [kP];omega),aA]
   unfold pZ
   rw [hw]
   exact ⟨(x,y,o++[(k:Int)]),rfl,hadd _ (by omega) (fun _=>rfl),by simp only;omega,by simp only;omega⟩
  ·rw [if_neg (by simpa using hkb)]
   obtain ⟨v,t1,t2,e,q1,q2,q3⟩:=fH c y (s1:=x) (n:=base) (by omega) (by omega)
   rw [e,aA,dK (by simp [kP];omega),aA]
   unfold pZ
   rw [hw]
   exact ⟨(t1,t2,o++[v]),rfl,hadd _ q1 (fun h=>absurd h hkb),by simp only;omega,by simp only;omega⟩
 ·obtain ⟨x,y,o⟩:=a
  obtain ⟨⟨g1,g2⟩,g3,g4⟩:=hI
  simp only at g1 g2 g3 g4 ⊢
  refine ⟨(x,y,o),?_,⟨by simp only;omega,g2⟩,g3,by simp only;omega⟩
  unfold qA
  rw [e1,e2,if_neg (by simp;omega)]
theorem alike_ok {r219:Int × Int × Int} {K:List Int} (hb:1<=base/\base<=4) (hs:base<=st/\st<=6) (e1:wr (1+r9.1)=base) (e2:wr (base+r14.1)=st) (hK:aLr K base st) (hto:0<=r219.1/\r219.1 < base):
  ∃ l,loop (fun s:List Int × Int=>mO r9 r14 K r219 s.1 s.2) (([]:List Int),0)=some l/\l≠[]/\∀ z∈l,0<=z/\z < st:=by
 have hKl:=hK.1
 have key:=eA (step:=fun s:List Int × Int=>mO r9 r14 K r219 s.1 s.2) st.toNat (fun k (a:List Int)=>(a,(k:Int))) (fun k a=>a.length<=k/\(r219.1 < k->r219.1∈a)/\∀ z∈a,0<=z/\z < st) (fun r=>r≠[]/\∀ z∈r,0<=z/\z < st) (fun k a hk hI=>?_) (fun a hI=>?_) st.toNat 0 [] (by omega) ⟨by simp,fun h=>by omega,by simp⟩
 ·obtain ⟨l,h1,h2⟩:=key
  exact ⟨l,h1,h2⟩
 ·obtain ⟨g1,g2,g3⟩:=hI
  have hkl:k < K.length:=by omega
  have hw:wr ((k:Int)+1)=((k+1:Nat):Int):=cS hk (by omega)
  show ∃ a',mO r9 r14 K r219 a (k:Int)=_/\_
  unfold mO wN
  rw [e1,e2,if_pos (by simp;omega),cU hkl,aA,hw]
  by_cases he:K[k]=r219.1
  ·rw [if_pos (by simpa using he),dK (by simp [kP];omega),aA]
   refine ⟨_,rfl,by simp;omega,fun h=>?_,fun z hz=>?_⟩
   ·by_cases hlt:r219.1 < k
    ·exact List.mem_append_left _ (g2 hlt)
    ·exact List.mem_append_right _ (by simp;omega)
   ·rcases List.mem_append.1 hz with hz|hz
    ·exact g3 z hz
    ·simp at hz;omega
  ·rw [if_neg (by simpa using he)]
   refine ⟨_,rfl,by omega,fun h=>g2 ?_,g3⟩
   have:=(hK.2 k hkl).2
   by_cases hlt:r219.1 < k
   ·exact hlt
   ·exfalso
    have e:r219.1=(k:Int):=by omega
    exact he (by rw [e];exact this (by omega))
 ·obtain ⟨g1,g2,g3⟩:=hI
  refine ⟨a,?_,fun h=>?_,g3⟩
  ·show mO r9 r14 K r219 a ((st.toNat:Nat):Int)=_
   unfold mO
   rw [e1,e2,if_neg (by simp;omega)]
  ·have:=g2 (by omega)
   rw [h] at this;cases this
theorem edges_row {r209 r214 r219:Int × Int × Int} {K:List Int} {nl:Nat} (hb:1<=base/\base<=4) (hs:base<=st/\st<=6) (e1:wr (1+r9.1)=base) (e2:wr (base+r14.1)=st) (hK:aLr K base st) (hto:0<=r219.1/\r219.1 < base) (hlab:0<=r214.1/\r214.1 < nl)
  {s1:Int} (s2:Int) (h:0<=s1/\s1<=10000000000) {ed:List Edge} (hed:∀ e∈ed,tG st nl e) (hel:ed.length<=1000):
  ∃ a b ed',loop (fun s:Int × Int × List Edge × Int=>sT c r9 r14 K r209 r214 r219 s.1 s.2.1 s.2.2.1 s.2.2.2) (s1,s2,ed,0)=some (a,b,ed')/\(∀ e∈ed',tG st nl e)/\ed'.length<=ed.length+6/\s1<=a/\a<=s1+12:=by
 have hKl:K.length=st.toNat:=by have:=hK.1;omega
 have hst9:st.toNat < 4611686018427387904:=by omega
 obtain ⟨al,ha1,ha2,ha3⟩:=alike_ok (r9:=r9) (r14:=r14) (r219:=r219) hb hs e1 e2 hK hto
 have key:=eA (step:=fun s:Int × Int × List Edge × Int=>sT c r9 r14 K r209 r214 r219 s.1 s.2.1 s.2.2.1 s.2.2.2) st.toNat (fun k (a:Int × Int × List Edge)=>(a.1,a.2.1,a.2.2,(k:Int))) (fun k a=>(∀ e∈a.2.2,tG st nl e)/\a.2.2.length<=ed.length+k/\s1<=a.1/\a.1<=s1+2 * k)
  (fun r=>(∀ e∈r.2.2,tG st nl e)/\r.2.2.length<=ed.length+6/\s1<=r.1/\r.1<=s1+12) (fun k a hk hI=>?_) (fun a hI=>?_) st.toNat 0 (s1,s2,ed) (by omega) ⟨hed,by simp,by simp,by simp⟩
 ·obtain ⟨⟨a,b,K⟩,h1,g1,g2,g3⟩:=key
  exact ⟨a,b,K,h1,g1,g2,g3⟩
 ·obtain ⟨x,y,o⟩:=a
  obtain ⟨g1,g2,g3,g4⟩:=hI
  simp only at g1 g2 g3 g4 ⊢
  have hkl:k < K.length:=by rw [hKl];exact hk
  unfold sT
  rw [e1,e2,if_pos (by simp;omega),cU hkl,aA]
  unfold wM wL
  rw [cS hk (show st.toNat < 4611686018427387904 from hst9)]
  by_cases he:K[k]=r209.1
  ·rw [if_neg (by simp [he]),ha1,aA]
   obtain ⟨v,t1,t2,e,q1,q2,q3⟩:=aHT c y (s1:=x) (by omega) ha2
   rw [e,aA,dK (by simp [kP];omega),aA]
   have hv:=ha3 v q1
   refine ⟨(t1,t2,_),rfl,fun e he=>?_,by simp;omega,by simp only;omega,by simp only;omega⟩
   rcases List.mem_append.1 he with he|he
   ·exact g1 e he
   ·rw [List.mem_singleton] at he
    subst he
    exact ⟨by simp only;omega,by simp only;omega,hlab⟩
  ·rw [if_pos (by simpa using he)]
   exact ⟨(x,y,o),rfl,g1,by simp only;omega,by simp only;omega,by simp only;omega⟩
 ·obtain ⟨x,y,o⟩:=a
  obtain ⟨g1,g2,g3,g4⟩:=hI
  simp only at g1 g2 g3 g4 ⊢
  refine ⟨(x,y,o),?_,g1,by simp only;omega,g3,by simp only;omega⟩
  unfold sT
  rw [e1,e2,if_neg (by simp;omega)]
theorem edges_all {r19:List aY × Int × Int} {K:List Int} (hb:1<=base/\base<=4) (hs:base<=st/\st<=6) (e1:wr (1+r9.1)=base) (e2:wr (base+r14.1)=st) (hK:aLr K base st) (hL:1<=r19.1.length/\r19.1.length<=7) {s1 m:Int} (s2:Int) (h:0<=s1/\s1<=1000000000) (hm:0<=m/\m<=9):
  ∃ a b ed,loop (fun s:Int × Int × List Edge × Int=>pY c r9 r14 r19 K s.1 s.2.1 s.2.2.1 s.2.2.2) (s1,s2,([]:List Edge),m)=some (a,b,ed)/\(∀ e∈ed,tG st r19.1.length e)/\ed.length<=54/\s1<=a/\a<=s1+200:=by
 have key:=eA (step:=fun s:Int × Int × List Edge × Int=>pY c r9 r14 r19 K s.1 s.2.1 s.2.2.1 s.2.2.2) m.toNat (fun k (a:Int × Int × List Edge)=>(a.1,a.2.1,a.2.2,m - (k:Int))) (fun k a=>(∀ e∈a.2.2,tG st r19.1.length e)/\a.2.2.length<=6 * k/\s1<=a.1/\a.1<=s1+18 * k)
  (fun r=>(∀ e∈r.2.2,tG st r19.1.length e)/\r.2.2.length<=54/\s1<=r.1/\r.1<=s1+200) (fun k a hk hI=>?_) (fun a hI=>?_) m.toNat 0 (s1,s2,[]) (by omega) ⟨by simp,by simp,by simp,by simp⟩
 ·obtain ⟨⟨a,b,K⟩,h1,g1,g2,g3⟩:=key
  exact ⟨a,b,K,by simpa using h1,g1,g2,g3⟩
 ·obtain ⟨x,y,o⟩:=a
  obtain ⟨g1,g2,g3,g4⟩:=hI
  simp only at g1 g2 g3 g4 ⊢
  obtain ⟨v,t1,t2,q,q1,q2,q3⟩:=fH c y (s1:=x) (n:=base) (by omega) (by omega)
  obtain ⟨v',t1',t2',q',q1',q2',q3'⟩:=fH c t2 (s1:=t1) (n:=(r19.1.length:Int)) (by omega) (by omega)
  obtain ⟨v'',t1'',t2'',q'',q1'',q2'',q3''⟩:=fH c t2' (s1:=t1') (n:=base) (by omega) (by omega)
  obtain ⟨a,b,ed',p1,p2,p3,p4,p5⟩:=edges_row (c:=c) (r9:=r9) (r14:=r14) (r209:=(v,t1,t2)) (r214:=(v',t1',t2')) (r219:=(v'',t1'',t2'')) (nl:=r19.1.length) hb hs e1 e2 hK q1'' q1' t2'' (s1:=t1'') (by omega) g1 (by omega)
  unfold pY
  rw [if_pos (by simp;omega),e1,q,aA,q',aA,q'',aA,p1,aA]
  unfold wK aBu
  have hw:wr (m - (k:Int) - 1)=m - ((k+1:Nat):Int):=by rw [dP (by omega) (by omega)];omega
  rw [hw]
  exact ⟨(a,b,ed'),rfl,p2,by simp only;omega,by simp only;omega,by simp only;omega⟩
 ·obtain ⟨x,y,o⟩:=a
  obtain ⟨g1,g2,g3,g4⟩:=hI
  simp only at g1 g2 g3 g4 ⊢
  refine ⟨(x,y,o),?_,g1,by simp only;omega,g3,by simp only;omega⟩
  unfold pY
  rw [if_neg (by simp;omega)]
end
theorem drawOk_ok (c:aY) {s1:Int} (s2:Int) (h:0<=s1/\s1<=100000000):∃ t s1' s2',aCW c s1 s2=some (t,s1',s2')/\(Drn 55 t/\t.N<=6)/\s1<=s1'/\s1'<=s1+300:=by
 obtain ⟨v9,a9,b9,x9,y9,z9,w9⟩:=fH c s2 (s1:=s1) (n:=4) (by omega) (by omega)
 have e1:wr (1+v9)=1+v9:=dP (by omega) (by omega)
 have e1':wr (7 - (1+v9))=7 - (1+v9):=dP (by omega) (by omega)
 obtain ⟨v14,a14,b14,x14,y14,z14,w14⟩:=fH c b9 (s1:=a9) (n:=7 - (1+v9)) (by omega) (by omega)
 have e2:wr (1+v9+v14)=1+v9+v14:=dP (by omega) (by omega)
 obtain ⟨L,a19,b19,x19,⟨y19,y19',y19''⟩,z19,w19⟩:=names_ok c b14 (s1:=a14) (by omega)
 have hb:1<=1+v9/\1+v9<=4:=by omega
 have hs:1+v9<=1+v9+v14/\1+v9+v14<=6:=by omega
 obtain ⟨ak,bk,K,xk,yk,zk,wk⟩:=kinds_ok (c:=c) (r9:=(v9,a9,b9)) (r14:=(v14,a14,b14)) hb hs e1 e2 b19 (s1:=a19) (by omega)
 have e3:wr (2+wr (2 * (1+v9)))=2+2 * (1+v9):=by rw [dP (x:=2 * (1+v9)) (by omega) (by omega),dP (by omega) (by omega)]
 obtain ⟨vm,am,bm,xm,ym,zm,wm⟩:=fH c bk (s1:=ak) (n:=2+2 * (1+v9)) (by omega) (by omega)
 obtain ⟨ae,be,ed,xe,ye,ye',ze,we⟩:=edges_all (c:=c) (r9:=(v9,a9,b9)) (r14:=(v14,a14,b14)) (r19:=(L,a19,b19)) hb hs e1 e2 yk ⟨y19',y19''⟩ bm (s1:=am) (m:=vm) (by omega) (by omega)
 have hfin:∀ (s t:Int) (E:List Edge),(∀ e∈E,tG (1+v9+v14) L.length e)->E.length<=55->ae<=s->s<=ae+8->∃ t' s1' s2',sS c (v9,a9,b9) (v14,a14,b14) (L,a19,b19) s t E=some (t',s1',s2')/\(Drn 55 t'/\t'.N<=6)/\ae<=s1'/\s1'<=ae+10:=by
  intro s t E hE hEl hs1 hs2
  unfold sS
  simp only
  rw [e1,e2]
  obtain ⟨v,a,b,q,q1,q2,q3⟩:=fH c t (s1:=s) (n:=1+v9+v14) (by omega) (by omega)
  obtain ⟨t',m1,m2,m3,m4⟩:=aJm y19 (by omega) (st:=1+v9+v14) (ini:=v) (by omega) q1 (edges:=E) (by omega) (fun e he=>by have:=hE e he;unfold tG at this;exact ⟨this.1,this.2.1,this.2.2⟩)
  rw [q,aA,m1,aA]
  exact ⟨_,_,_,rfl,⟨m2.mono hEl,by omega⟩,by simp only;omega,by simp only;omega⟩
 unfold aCW
 rw [x9,aA]
 simp only
 rw [e1,e1',x14,aA,x19,aA,xk,aA]
 unfold uE
 simp only
 rw [e1,e3,xm,aA,xe,aA]
 unfold wJ
 simp only
 rw [e1,e2]
 obtain ⟨bb,ao,bo,xo,zo,wo⟩:=aBL c be (s1:=ae) (n:=3) (by omega) (by omega)
 rw [xo,aA]
 simp only
 cases bb with
 |false=>
  rw [if_neg (by simp)]
  obtain ⟨t',s1',s2',r1,r2,r3,r4⟩:=hfin ao bo ed ye (by omega) (by omega) (by omega)
  exact ⟨t',s1',s2',r1,r2,by omega,by omega⟩
 |true=>
  rw [if_pos rfl]
  obtain ⟨v1,a1,b1,p1,p1',p1'',p1'''⟩:=fH c bo (s1:=ao) (n:=1+v9+v14) (by omega) (by omega)
  obtain ⟨v2,a2,b2,p2,p2',p2'',p2'''⟩:=fH c b1 (s1:=a1) (n:=(L.length:Int)) (by omega) (by omega)
  obtain ⟨v3,a3,b3,p3,p3',p3'',p3'''⟩:=fH c b2 (s1:=a2) (n:=1+v9+v14) (by omega) (by omega)
  rw [p1,aA,p2,aA,p3,aA,dK (by simp [kP];omega),aA]
  obtain ⟨t',s1',s2',r1,r2,r3,r4⟩:=hfin a3 b3 (ed++[⟨v1,v2,v3⟩]) (fun e he=>by
   rcases List.mem_append.1 he with he|he
   ·exact ye e he
   ·rw [List.mem_singleton] at he
    subst he
    exact ⟨p1',p3',p2'⟩) (by simp;omega) (by omega) (by omega)
  exact ⟨t',s1',s2',r1,r2,by omega,by omega⟩
theorem aMw (c:aY) {s1:Int} (s2:Int) (h:0<=s1/\s1<=10000000):∃ t s1' s2',wQ c s1 s2=some (t,s1',s2')/\(Drn 60 t/\t.N<=6)/\s1<=s1'/\s1'<=s1+500:=by
 obtain ⟨t,a,b,x,⟨y,ys⟩,z,w⟩:=drawOk_ok c s2 (s1:=s1) (by omega)
 have hed:=y.ed
 have hlab:=y.ok.2.2.1
 have hst:=y.ok.1
 have hini:=y.ok.2.1
 have hin:∀ e∈t.E,tG t.N t.L.length e:=fun e he=>by
  have:=vD y.ok he
  unfold lU at this
  exact ⟨this.1,this.2.1,this.2.2⟩
 have key:=eA (step:=fun s:Int × Int × List Edge × Int=>sW c (t,a,b) s.1 s.2.1 s.2.2.1 s.2.2.2) t.E.length (fun k (q:Int × Int × List Edge)=>(q.1,q.2.1,q.2.2,(k:Int))) (fun k q=>(∀ e∈q.2.2,tG t.N t.L.length e)/\q.2.2.length<=k/\a<=q.1/\q.1<=a+2 * k)
  (fun r=>(∀ e∈r.2.2,tG t.N t.L.length e)/\r.2.2.length<=55/\a<=r.1/\r.1<=a+110) (fun k q hk hI=>?_) (fun q hI=>?_) t.E.length 0 (a,b,[]) (by omega) ⟨by simp,by simp,by simp,by simp⟩
 ·obtain ⟨⟨a1,b1,E⟩,h1,g1,g2,g3,g4⟩:=key
  simp only at g1 g2 g3 g4
  have h1':loop (fun s:Int × Int × List Edge × Int=>sW c (t,a,b) s.1 s.2.1 s.2.2.1 s.2.2.2) (a,b,([]:List Edge),0)=some (a1,b1,E):=h1
  obtain ⟨vm,am,bm,xm,ym,zm,wm⟩:=fH c b1 (s1:=a1) (n:=3) (by omega) (by omega)
  have key2:=eA (step:=fun s:Int × Int × List Edge × Int=>sU c (t,a,b) s.1 s.2.1 s.2.2.1 s.2.2.2) vm.toNat (fun k (q:Int × Int × List Edge)=>(q.1,q.2.1,q.2.2,vm - (k:Int))) (fun k q=>(∀ e∈q.2.2,tG t.N t.L.length e)/\q.2.2.length<=55+k/\am<=q.1/\q.1<=am+4 * k)
   (fun r=>(∀ e∈r.1,tG t.N t.L.length e)/\r.1.length<=60/\am<=r.2.1/\r.2.1<=am+20) (fun k q hk hI=>?_) (fun q hI=>?_) vm.toNat 0 (am,bm,E) (by omega) ⟨g1,by simp only;omega,by simp,by simp⟩
  ·obtain ⟨⟨F,a2,b2⟩,h2,q1,q2,q3,q4⟩:=key2
   simp only at q1 q2 q3 q4
   have h2':loop (fun s:Int × Int × List Edge × Int=>sU c (t,a,b) s.1 s.2.1 s.2.2.1 s.2.2.2) (am,bm,E,vm)=some (F,a2,b2):=by simpa using h2
   obtain ⟨t',m1,m2,m3,m4⟩:=aJm (T:=t.L) (fun s hs=>y.nm s hs) (by have:=hlab.2.1;omega) (st:=t.N) (ini:=t.I) (by have:=y.st;omega) (by omega) (edges:=F) (by omega) (fun e he=>by have:=q1 e he;unfold tG at this;exact ⟨this.1,this.2.1,this.2.2⟩)
   unfold wQ
   rw [x,aA,h1',aA]
   unfold wP
   rw [xm,aA,h2',aA]
   unfold wO
   rw [m1,aA]
   exact ⟨_,_,_,rfl,⟨m2.mono q2,by omega⟩,by simp only;omega,by simp only;omega⟩
  ·obtain ⟨x2,y2,o⟩:=q
   obtain ⟨i1,i2,i3,i4⟩:=hI
   simp only at i1 i2 i3 i4 ⊢
   obtain ⟨v1,t1,t1',p1,p1',p1'',p1'''⟩:=fH c y2 (s1:=x2) (n:=t.N) (by omega) (by omega)
   obtain ⟨v2,t2,t2',p2,p2',p2'',p2'''⟩:=fH c t1' (s1:=t1) (n:=t.N) (by omega) (by omega)
   unfold sU
   rw [if_pos (by simp;omega),p1,aA,p2,aA,dK (by simp [kP];omega),aA]
   have hw:wr (vm - (k:Int) - 1)=vm - ((k+1:Nat):Int):=by rw [dP (by omega) (by omega)];omega
   rw [hw]
   refine ⟨(t2,t2',_),rfl,fun e he=>?_,by simp;omega,by simp only;omega,by simp only;omega⟩
   rcases List.mem_append.1 he with he|he
   ·exact i1 e he
   ·rw [List.mem_singleton] at he
    subst he
    exact ⟨p1',p2',by simp only;have:=hlab.1;omega⟩
  ·obtain ⟨x2,y2,o⟩:=q
   obtain ⟨i1,i2,i3,i4⟩:=hI
   simp only at i1 i2 i3 i4 ⊢
   refine ⟨(o,x2,y2),?_,i1,by simp only;omega,i3,by simp only;omega⟩
   unfold sU
   rw [if_neg (by simp;omega)]
 ·obtain ⟨x2,y2,o⟩:=q
  obtain ⟨i1,i2,i3,i4⟩:=hI
  simp only at i1 i2 i3 i4 ⊢
  have he:=hin _ (List.getElem_mem hk)
  obtain ⟨bb,ao,bo,xo,zo,wo⟩:=aBL c y2 (s1:=x2) (n:=3) (by omega) (by omega)
  have hw:wr ((k:Int)+1)=((k+1:Nat):Int):=cS hk (by omega)
  unfold sW
  rw [if_pos (dJ hk),cU hk,aA,xo,aA]
  have hgo:∀ l:Int,0<=l/\l < t.L.length->∃ q':Int × Int × List Edge,sV o (k:Int) t.E[k] ao bo l=some (.inl (q'.1,q'.2.1,q'.2.2,((k+1:Nat):Int)))/\(∀ e∈q'.2.2,tG t.N t.L.length e)/\q'.2.2.length<=k+1/\a<=q'.1/\q'.1<=a+2 * ((k+1:Nat):Int):=by
   intro l hl
   unfold sV
   rw [dK (by simp [kP];omega),aA,hw]
   refine ⟨(ao,bo,_),rfl,fun e he'=>?_,by simp;omega,by simp only;omega,by simp only;omega⟩
   rcases List.mem_append.1 he' with he'|he'
   ·exact i1 e he'
   ·rw [List.mem_singleton] at he'
    subst he'
    exact ⟨he.1,he.2.1,hl⟩
  simp only
  cases bb with
  |false=>rw [if_neg (by simp)];exact hgo _ he.2.2
  |true=>rw [if_pos rfl];exact hgo 0 (by have:=hlab.1;omega)
 ·obtain ⟨x2,y2,o⟩:=q
  obtain ⟨i1,i2,i3,i4⟩:=hI
  simp only at i1 i2 i3 i4 ⊢
  refine ⟨(x2,y2,o),?_,i1,by simp only;omega,i3,by simp only;omega⟩
  unfold sW
  rw [if_neg (by simp)]
end Gv
namespace Gv
open Go
theorem aLs (a b:List Int) (h:a.length < 4611686018427387904):aAF a b=some (decide (a=b)):=by
 unfold aAF
 by_cases hl:a.length=b.length
 ·rw [if_neg (by simp [hl])]
  have:=aGt (step:=fun s=>aBc a b s) (a.zip b) (fun p=>decide (p.1=p.2)) (.inr false) (.inl ()) (fun k x hk hx=>?_) ?_
  ·rw [this,aA]
   by_cases he:a=b
   ·subst he
    have:((a.zip a).all fun p=>decide (p.1=p.2))=true:=by
     rw [List.all_eq_true]
     intro p hp
     obtain ⟨i,hi,rfl⟩:=List.mem_iff_getElem.1 hp
     rw [List.getElem_zip];simp
    rw [if_pos this,decide_eq_true rfl];rfl
   ·have:¬ ((a.zip b).all fun p=>decide (p.1=p.2))=true:=fun h'=>he (List.ext_getElem hl fun i h1 h2=>by
     rw [List.all_eq_true] at h'
     have hiz:i < (a.zip b).length:=by rw [List.length_zip];omega
     have:=h' (a.zip b)[i] (List.getElem_mem hiz)
     rw [List.getElem_zip] at this
     simpa using this)
    rw [if_neg this,decide_eq_false he]
  ·have hzl:(a.zip b).length=a.length:=by rw [List.length_zip];omega
   rw [hzl] at hk
   obtain ⟨hk',rfl⟩:=wZ hx
   unfold aBc
   rw [if_pos (dJ hk),cU hk,aA,cU (by omega),aA,List.getElem_zip]
   by_cases e:a[k]=b[k]'(by omega)
   ·rw [if_neg (by simp [e]),if_pos (by simp [e]),cS hk h]
   ·rw [if_pos (by simpa using e),if_neg (by simpa using e)]
  ·have hzl:(a.zip b).length=a.length:=by rw [List.length_zip];omega
   rw [hzl]
   unfold aBc
   rw [if_neg (by simp)]
 ·rw [if_pos (by simp;omega),decide_eq_false (fun h=>hl (by rw [h]))]
theorem put_ok (l:List Int) (n:Int) (hl:l.length<=1000000):∃ l',aFX l n=some l'/\l'.length<=l.length+1:=by
 have key:=eA (step:=fun s:List Int × Bool × Int=>vY l n s.1 s.2.1 s.2.2) l.length (fun k (a:List Int × Bool)=>(a.1,a.2,(k:Int))) (fun k a=>a.1.length<=k+(if a.2=true then 1 else 0)) (fun r=>r.1.length<=l.length+(if r.2=true then 1 else 0)) (fun k a hk hI=>?_) (fun a hI=>?_) l.length 0 ([],false) (by omega) (by simp)
 ·obtain ⟨⟨o,d⟩,h1,h2⟩:=key
  have h1':loop (fun s:List Int × Bool × Int=>vY l n s.1 s.2.1 s.2.2) (([]:List Int),false,0)=some (o,d):=h1
  unfold aFX
  rw [h1',aA]
  unfold aCO aCN
  simp only at h2 ⊢
  cases d with
  |true=>rw [if_neg (by simp)];exact ⟨_,rfl,by simpa using h2⟩
  |false=>
   simp at h2
   rw [if_pos (by simp),dK (by simp [kP];omega),aA]
   exact ⟨_,rfl,by simp;omega⟩
 ·obtain ⟨o,d⟩:=a
  simp only at hI ⊢
  have hw:wr ((k:Int)+1)=((k+1:Nat):Int):=cS hk (by omega)
  have h3:∀ o':List Int,∀ d',o'.length<=2000000->vX l (k:Int) o' d'=some (.inl (o'++[l[k]],d',((k+1:Nat):Int))):=fun o' d' ho=>by
   unfold vX
   rw [cU hk,aA,dK (by simp [kP];omega),aA,hw]
  have ho:o.length<=k+1:=by
   cases d<;>simp at hI<;>omega
  unfold vY
  rw [if_pos (dJ hk)]
  have h4:∀ v:Bool,(v=true->d=false)->∃ a':List Int × Bool,aAG l n o d (k:Int) v=some (.inl (a'.1,a'.2,((k+1:Nat):Int)))/\a'.1.length<=(k+1)+(if a'.2=true then 1 else 0):=by
   intro v hv
   unfold aAG
   cases v with
   |false=>
    rw [if_neg (by simp),h3 o d (by omega)]
    exact ⟨(o++[l[k]],d),rfl,by simp only [List.length_append,List.length_singleton];omega⟩
   |true=>
    have:=hv rfl
    subst this
    simp at hI
    rw [if_pos rfl,cU hk,aA]
    split
    ·rw [dK (by simp [kP];omega),aA,h3 _ true (by simp;omega)]
     exact ⟨(_,true),rfl,by simp;omega⟩
    ·rw [h3 o true (by omega)]
     exact ⟨(_,true),rfl,by simp;omega⟩
  cases d with
  |true=>rw [if_neg (by simp)];exact h4 false (by simp)
  |false=>
   rw [if_pos (by simp),cU hk,aA]
   exact h4 _ fun _=>rfl
 ·obtain ⟨o,d⟩:=a
  refine ⟨(o,d),?_,hI⟩
  show vY l n o d (l.length:Int)=_
  unfold vY
  rw [if_neg (by simp)]
section
variable {u:cB} {p:List Int}
theorem sign_ok (hu:Big u) (hp:jE u p) (k:Int):∃ l,aGa u p k=some l/\l.length<=90000:=by
 have h5:=hu.ed
 have key:=eA (step:=fun s:List Int × Int=>qO u p k s.1 s.2) u.E.length (fun i (a:List Int)=>(a,(i:Int))) (fun i a=>a.length<=i) (fun r=>r.length<=90000) (fun i a hi hI=>?_) (fun a hI=>?_) u.E.length 0 [] (by omega) (by simp)
 ·obtain ⟨l,h1,h2⟩:=key
  have h1':loop (fun s:List Int × Int=>qO u p k s.1 s.2) (([]:List Int),0)=some l:=h1
  unfold aGa
  rw [h1',aA]
  exact ⟨l,rfl,h2⟩
 ·have he:=hu.inn _ (List.getElem_mem hi)
  have hw:wr ((i:Int)+1)=((i+1:Nat):Int):=cS hi (by omega)
  show ∃ a',qO u p k a (i:Int)=_/\_
  unfold qO aBq
  rw [if_pos (dJ hi),cU hi,aA]
  split
  ·rw [(aDo hp he.2.1).1,aA]
   obtain ⟨l',h1,h2⟩:=put_ok a (wr (wr (u.E[i].B * (p.length:Int))+p.getD u.E[i].To.toNat 0)) (by omega)
   rw [h1,aA,hw]
   exact ⟨l',rfl,by omega⟩
  ·rw [hw]
   exact ⟨a,rfl,by omega⟩
 ·refine ⟨a,?_,by omega⟩
  show qO u p k a (u.E.length:Int)=_
  unfold qO
  rw [if_neg (by simp)]
end
def kz (p:List Int) (rows:List (List Int)):List (List Int):=List.zipWith (fun a r=>a::r) p rows
section
variable {p:List Int} {rows:List (List Int)}
theorem aFN (h:rows.length=p.length):(kz p rows).length=p.length:=by unfold kz;simp [h]
theorem aNq (h:rows.length=p.length) {k:Nat} (hk:k < p.length):(kz p rows)[k]'(by rw [aFN h];exact hk)=p[k]::rows[k]'(by omega):=by unfold kz;simp
theorem num_inner (hl:rows.length=p.length) (hs:p.length<=1000) (hr:∀ r∈rows,r.length<=100000) {k:Nat} (hk:k < p.length):
  loop (fun s:Int × Int=>pB p rows (cn ((kz p rows).take k)) (k:Int) s.1 s.2) (-1,0)=some (if (kz p rows)[k]'(by rw [aFN hl];exact hk)∈(kz p rows).take k then pos (dd ((kz p rows).take k)) ((kz p rows)[k]'(by rw [aFN hl];exact hk)) else -1):=by
 have hkz:=aFN hl
 have hkk:k < (kz p rows).length:=by omega
 have hcl:(cn ((kz p rows).take k)).length=k:=by rw [aGP,List.length_take];omega
 have key:=oV (step:=fun s:Int × Int=>pB p rows (cn ((kz p rows).take k)) (k:Int) s.1 s.2)
  (fun s=>∃ j:Nat,s.2=(j:Int)/\j<=k/\((s.1=-1/\∀ i,(hi:i < j)->(hj:j<=k)->(kz p rows)[i]'(by omega)≠(kz p rows)[k])\/((kz p rows)[k]∈(kz p rows).take k/\s.1=pos (dd ((kz p rows).take k)) (kz p rows)[k])))
  (fun s=>k+1 - s.2.toNat) (fun r=>r=if (kz p rows)[k]∈(kz p rows).take k then pos (dd ((kz p rows).take k)) (kz p rows)[k] else -1) (fun s hI=>?_) (s:=(-1,0)) ⟨0,rfl,Nat.zero_le _,.inl ⟨rfl,fun i hi=>by omega⟩⟩
 ·obtain ⟨r,h1,h2⟩:=key
  rw [h1,h2]
 ·obtain ⟨n,jj⟩:=s
  obtain ⟨j,rfl,hjk,hI⟩:=hI
  simp only at hI ⊢
  have hout:pA p rows (cn ((kz p rows).take k)) (k:Int) n (j:Int) false=some (.inr n):=by unfold pA;rw [if_neg (by simp)]
  rcases hI with ⟨rfl,hno⟩|⟨hin,rfl⟩
  ·by_cases hj:j < k
   ·left
    have hw:wr ((j:Int)+1)=((j+1:Nat):Int):=cS hj (by omega)
    have hjp:j < p.length:=by omega
    have e1:=aNq hl hjp
    have e2:=aNq hl hk
    unfold pB
    rw [if_pos (dJ hj),show decide ((-1:Int) < 0)=true from rfl]
    unfold pA
    rw [if_pos rfl,cU hjp,aA,cU hk,aA]
    have hgo:sL (cn ((kz p rows).take k)) (-1) (j:Int) false=some (.inl (-1,((j+1:Nat):Int))):=by
     unfold sL sK
     rw [if_neg (by simp),hw]
    have hstay:(kz p rows)[j]'(by omega)≠(kz p rows)[k]->∃ j':Nat,((j+1:Nat):Int)=(j':Int)/\j'<=k/\(((-1:Int)=-1/\∀ i,(hi:i < j')->(hj:j'<=k)->(kz p rows)[i]'(by omega)≠(kz p rows)[k])\/((kz p rows)[k]∈(kz p rows).take k/\(-1:Int)=pos (dd ((kz p rows).take k)) (kz p rows)[k])):=fun hne=>by
     refine ⟨j+1,rfl,hj,.inl ⟨rfl,fun i hi _=>?_⟩⟩
     by_cases e:i=j
     ·subst e;exact hne
     ·exact hno i (by omega) hjk
    by_cases hp:p[j]=p[k]
    ·rw [if_pos (by simpa using hp),cU (show j < rows.length by omega),aA,cU (show k < rows.length by omega),aA,aLs _ _ (by have:=hr _ (List.getElem_mem (show j < rows.length by omega));omega),aA]
     by_cases hrr:rows[j]'(by omega)=rows[k]'(by omega)
     ·have hkey:(kz p rows)[j]'(by omega)=(kz p rows)[k]:=by rw [e1,e2,hp,hrr]
      have hin:(kz p rows)[k]∈(kz p rows).take k:=by
       rw [←hkey,List.mem_take_iff_getElem]
       exact ⟨j,by omega,rfl⟩
      have hc:(cn ((kz p rows).take k))[j]?=some (pos (dd ((kz p rows).take k)) (kz p rows)[k]):=by
       rw [aJJ (show j < ((kz p rows).take k).length by rw [List.length_take];omega),List.getElem_take,hkey]
      rw [hrr]
      unfold sL sK
      rw [decide_eq_true rfl,if_pos rfl,aIv,hc]
      show ∃ s',ob (some _) _=_/\_
      rw [aA,hw]
      exact ⟨(_,((j+1:Nat):Int)),rfl,⟨j+1,rfl,hj,.inr ⟨hin,rfl⟩⟩,by simp only;omega⟩
     ·rw [decide_eq_false hrr,hgo]
      refine ⟨(-1,((j+1:Nat):Int)),rfl,hstay (fun e=>?_),by simp only;omega⟩
      rw [e1,e2,List.cons.injEq] at e
      exact hrr e.2
    ·rw [if_neg (by simpa using hp),hgo]
     refine ⟨(-1,((j+1:Nat):Int)),rfl,hstay (fun e=>?_),by simp only;omega⟩
     rw [e1,e2,List.cons.injEq] at e
     exact hp e.1
   ·right
    obtain rfl:j=k:=by omega
    refine ⟨-1,?_,?_⟩
    ·unfold pB
     rw [if_neg (by simp),hout]
    ·rw [if_neg]
     rw [List.mem_take_iff_getElem]
     rintro ⟨i,hi,e⟩
     exact hno i (by omega) (Nat.le_refl _) e
  ·right
   refine ⟨_,?_,by rw [if_pos hin]⟩
   have hpos:0<=pos (dd ((kz p rows).take k)) (kz p rows)[k]:=aGO.2 (aCm.2 hin)
   unfold pB
   rw [show decide (pos (dd ((kz p rows).take k)) (kz p rows)[k] < 0)=false from decide_eq_false (by omega),hout]
   split<;>rfl
theorem num_eq (hl:rows.length=p.length) (hs:p.length<=1000) (hr:∀ r∈rows,r.length<=100000):nK p rows=some (cn (kz p rows)):=by
 have hkz:=aFN hl
 have key:=eA (step:=fun s:List Int × Int × Int=>mN p rows s.1 s.2.1 s.2.2) p.length (fun k (a:List Int × Int)=>(a.1,a.2,(k:Int))) (fun k a=>a.1=cn ((kz p rows).take k)/\a.2=((dd ((kz p rows).take k)).length:Int)) (fun r=>r=cn (kz p rows)) (fun k a hk hI=>?_) (fun a hI=>?_) p.length 0 ([],0) (by omega) ⟨rfl,rfl⟩
 ·obtain ⟨r,h1,rfl⟩:=key
  have h1':loop (fun s:List Int × Int × Int=>mN p rows s.1 s.2.1 s.2.2) (([]:List Int),0,0)=some (cn (kz p rows)):=h1
  unfold nK
  rw [h1',aA];rfl
 ·obtain ⟨o,m⟩:=a
  obtain ⟨rfl,rfl⟩:=hI
  have hkk:k < (kz p rows).length:=by omega
  have hcl:(cn ((kz p rows).take k)).length=k:=by rw [aGP,List.length_take];omega
  have hw:wr ((k:Int)+1)=((k+1:Nat):Int):=cS hk (by omega)
  have e1:(kz p rows).take (k+1)=(kz p rows).take k++[(kz p rows)[k]]:=by rw [List.take_add_one,List.getElem?_eq_getElem hkk];rfl
  have hdl:(dd ((kz p rows).take k)).length<=1000:=by
   have h2:(dd ((kz p rows).take k)).length<=((kz p rows).take k).length:=by
    have:∀ (l:List (List Int)),(dd l).length<=l.length:=by
     intro l
     unfold dd
     have hg:∀ (m F:List (List Int)),(m.foldl (aFc id) F).length<=F.length+m.length:=by
      intro m
      induction m with
      |nil=>intro F;simp
      |cons x m ih=>
       intro F
       have:=ih (aFc id F x)
       have h3:=aOp (key:=id) F x
       simp only [List.foldl_cons,List.length_cons];omega
     have:=hg l []
     simpa using this
    exact this _
   rw [List.length_take] at h2;omega
  show ∃ a':List Int × Int,mN p rows (cn ((kz p rows).take k)) _ (k:Int)=_/\_
  unfold mN
  rw [if_pos (dJ hk),num_inner hl hs hr hk,aA,e1,aNl,aJl,aNk]
  unfold aBt aBs aBr
  by_cases hin:(kz p rows)[k]∈(kz p rows).take k
  ·have hpos:0<=pos (dd ((kz p rows).take k)) (kz p rows)[k]:=aGO.2 (aCm.2 hin)
   rw [if_pos hin,if_neg (by simp;omega),dK (by simp [kP];omega),aA,hw,if_pos (aCm.2 hin)]
   refine ⟨(_,_),rfl,rfl,?_⟩
   have:aFc id (dd ((kz p rows).take k)) (kz p rows)[k]=dd ((kz p rows).take k):=by
    unfold aFc
    rw [if_pos (by rw [List.map_id];exact aCm.2 hin)]
   simp only [this]
  ·rw [if_neg hin,if_pos (by simp),dK (by simp [kP];omega),aA,hw,if_neg (fun h=>hin (aCm.1 h))]
   refine ⟨(_,_),rfl,rfl,?_⟩
   have:aFc id (dd ((kz p rows).take k)) (kz p rows)[k]=dd ((kz p rows).take k)++[(kz p rows)[k]]:=by
    unfold aFc
    rw [if_neg (by rw [List.map_id];exact fun h=>hin (aCm.1 h))]
   simp only [this,List.length_append,List.length_singleton]
   first
    |omega
    |(rw [dP (by omega) (by omega)];omega)
 ·obtain ⟨o,m⟩:=a
  obtain ⟨rfl,rfl⟩:=hI
  refine ⟨_,?_,rfl⟩
  show mN p rows (cn ((kz p rows).take p.length)) _ (p.length:Int)=_
  unfold mN
  rw [if_neg (by simp),List.take_of_length_le (by omega)]
theorem aMx (hl:rows.length=p.length):aJK (cn (kz p rows)) p:=
 aOy (aFN hl) fun x y hx hy h=>by
  rw [List.getElem?_eq_getElem (by rw [aFN hl];exact hx),List.getElem?_eq_getElem (by rw [aFN hl];exact hy),aNq hl hx,aNq hl hy,Option.some.injEq,List.cons.injEq] at h
  rw [List.getElem?_eq_getElem hx,List.getElem?_eq_getElem hy,h.1]
end
section
variable {u:cB} {p:List Int}
theorem aKf (hu:Big u) (hp:jE u p):∃ q,aAJ u p=some q/\jE u q/\cn q=q/\aJK q p:=by
 have h3:=hu.st
 have key:=eA (step:=fun s:List (List Int) × Int=>lK u p s.1 s.2) u.N.toNat (fun k (a:List (List Int))=>(a,(k:Int))) (fun k a=>a.length=k/\∀ r∈a,r.length<=90000) (fun r=>r.length=u.N.toNat/\∀ x∈r,x.length<=90000) (fun k a hk hI=>?_) (fun a hI=>?_) u.N.toNat 0 [] (by omega) ⟨rfl,by simp⟩
 ·obtain ⟨rows,h1,h2,h4⟩:=key
  have h1':loop (fun s:List (List Int) × Int=>lK u p s.1 s.2) (([]:List (List Int)),0)=some rows:=h1
  unfold aAJ
  have hl:rows.length=p.length:=by rw [h2,hp.1]
  rw [h1',aA,num_eq hl (by rw [hp.1];omega) (fun r hr=>by have:=h4 r hr;omega)]
  exact ⟨_,rfl,part_cn hu (by rw [aFN hl,hp.1]),cn_cn _,aMx hl⟩
 ·obtain ⟨g1,g2⟩:=hI
  obtain ⟨l,e,hl⟩:=sign_ok hu hp (k:Int)
  have hw:wr ((k:Int)+1)=((k+1:Nat):Int):=cS hk (by omega)
  show ∃ a',lK u p a (k:Int)=_/\_
  unfold lK
  rw [if_pos (by simp;omega),e,aA,dK (by simp [kP];omega),aA,hw]
  refine ⟨_,rfl,by simp;omega,fun r hr=>?_⟩
  rcases List.mem_append.1 hr with hr|hr
  ·exact g2 r hr
  ·simp at hr;subst hr;exact hl
 ·refine ⟨a,?_,hI⟩
  show lK u p a ((u.N.toNat:Nat):Int)=_
  unfold lK
  rw [if_neg (by simp;omega)]
theorem part0 (hu:Big u):mkz u.N (0:Int)=some (List.replicate u.N.toNat 0)/\jE u (List.replicate u.N.toNat 0):=by
 have h3:=hu.st
 refine ⟨?_,by simp,fun z hz=>by rw [List.mem_replicate] at hz;omega⟩
 unfold mkz
 rw [if_pos ⟨by omega,by unfold kP;omega⟩]
theorem aOC (hu:Big u):∃ p n,aCV u=some (p,n)/\jE u p:=by
 obtain ⟨hm,h0⟩:=part0 hu
 have h3:=hu.st
 unfold aCV
 rw [hm,aA]
 have key:=aLp (step:=fun s:List Int × Int=>pC u s.1 s.2) u.N.toNat (fun p s=>s.1=p/\jE u p) (fun r=>jE u r.1) (fun p s hl hc hI=>?_) (List.replicate u.N.toNat 0) (List.replicate u.N.toNat 0,0) (by simp) (aOx _) ⟨rfl,h0⟩
 ·obtain ⟨⟨p,n⟩,h1,h2⟩:=key
  rw [h1,aA]
  exact ⟨p,n,rfl,h2⟩
 ·obtain ⟨q,n⟩:=s
  obtain ⟨rfl,hp⟩:=hI
  obtain ⟨r,e,g1,g2,g3⟩:=aKf hu hp
  have hstep:pC u q n=if decide (r=q)=true then some (.inr (q,n)) else some (.inl (r,wr (n+1))):=by
   unfold pC
   rw [e,aA,aLs _ _ (by rw [g1.1];omega),aA]
  show (∃ x,pC u q n=_/\_)\/_
  by_cases h:r=q
  ·left
   rw [hstep,if_pos (by simpa using h)]
   exact ⟨_,rfl,hp⟩
  ·right
   refine ⟨r,(r,wr (n+1)),g3,g2,h,?_,rfl,g1⟩
   show pC u q n=_
   rw [hstep,if_neg (by simpa using h)]
theorem aMy (hu:Big u):∃ p,aCa u=some p/\jE u p:=by
 obtain ⟨p,n,h1,h2⟩:=aOC hu
 exact ⟨p,by unfold aCa;rw [h1,aA],h2⟩
theorem aPD (hu:Big u) {n:Int} (hn:0<=n/\n<=1000):∃ p,aCb u n=some p/\jE u p:=by
 obtain ⟨hm,h0⟩:=part0 hu
 unfold aCb
 rw [hm,aA]
 have key:=eA (step:=fun s:Int × List Int=>oH u s.1 s.2) n.toNat (fun k (a:List Int)=>(n - (k:Int),a)) (fun k a=>jE u a) (fun r=>jE u r) (fun k a hk hI=>?_) (fun a hI=>?_) n.toNat 0 (List.replicate u.N.toNat 0) (by omega) h0
 ·obtain ⟨p,h1,h2⟩:=key
  have h1':loop (fun s:Int × List Int=>oH u s.1 s.2) (n,List.replicate u.N.toNat 0)=some p:=by simpa using h1
  rw [h1',aA]
  exact ⟨p,rfl,h2⟩
 ·obtain ⟨q,e,g1,g2,g3⟩:=aKf hu hI
  show ∃ a',oH u (n - (k:Int)) a=_/\_
  unfold oH
  have hw:wr (n - (k:Int) - 1)=n - ((k+1:Nat):Int):=by rw [dP (by omega) (by omega)];omega
  rw [if_pos (by simp;omega),e,aA,hw]
  exact ⟨q,rfl,g1⟩
 ·refine ⟨a,?_,hI⟩
  show oH u (n - ((n.toNat:Nat):Int)) a=_
  unfold oH
  rw [if_neg (by simp;omega)]
end
end Gv
namespace Gv
open Go
section
variable {u:cB} {p:List Int}
theorem aJn (hu:Big u) (hp:jE u p) {e:Edge} (he:e∈u.E):∃ b,vW e p=some b:=by
 have h:=hu.inn e he
 unfold vW yQ
 split
 ·rw [(aDo hp h.1).1,aA,(aDo hp h.2.1).1,aA]
  exact ⟨_,rfl⟩
 ·exact ⟨_,rfl⟩
def cnt (l:List Bool):Nat:=l.count true
theorem cnt_le (l:List Bool):cnt l<=l.length:=List.count_le_length
theorem cnt_off {l:List Bool} {k:Nat} (hk:k < l.length) (h:l[k]=true):cnt (l.set k false) < cnt l:=by
 unfold cnt
 rw [List.count_set hk,h]
 have:0 < l.count true:=List.count_pos_iff.2 (h ▸ List.getElem_mem hk)
 simp;omega
theorem cnt_on {l:List Bool} {k:Nat} (hk:k < l.length) (h:l[k]=false):cnt l < cnt (l.set k true):=by
 unfold cnt
 rw [List.count_set hk,h]
 simp
theorem ixB {l:List Bool} {s:Int} (hl:l.length=u.N.toNat) (hs:lU u s):∃ hk:s.toNat < l.length,ix l s=some l[s.toNat]:=by
 unfold lU at hs
 exact ⟨by omega,aFd hs.1 (by omega)⟩
theorem div_goes (hu:Big u) (hp:jE u p) {al:List Bool} (hl:al.length=u.N.toNat) (k:Int):∃ b,loop (fun s:Bool × Int=>lI u p al k s.1 s.2) (false,0)=some b:=by
 have h5:=hu.ed
 have key:=eA (step:=fun s:Bool × Int=>lI u p al k s.1 s.2) u.E.length (fun i (a:Bool)=>(a,(i:Int))) (fun _ _=>True) (fun _=>True) (fun i a hi _=>?_) (fun a _=>?_) u.E.length 0 false (by omega) trivial
 ·obtain ⟨b,h1,_⟩:=key
  exact ⟨b,h1⟩
 ·have he:=List.getElem_mem hi
  have hin:=hu.inn _ he
  have hw:wr ((i:Int)+1)=((i+1:Nat):Int):=cS hi (by omega)
  have hj:∀ b,lH (i:Int) b=some (.inl (b,((i+1:Nat):Int))):=fun b=>by unfold lH;rw [hw]
  show ∃ a',lI u p al k a (i:Int)=_/\_
  unfold lI
  rw [if_pos (dJ hi),cU hi,aA]
  split
  ·exact ⟨_,hj _,trivial⟩
  ·split
   ·obtain ⟨b,hb⟩:=aJn hu hp he
    rw [hb,aA]
    split
    ·obtain ⟨_,h2⟩:=ixB hl hin.2.1
     rw [h2,aA]
     exact ⟨_,hj _,trivial⟩
    ·exact ⟨_,hj _,trivial⟩
   ·exact ⟨_,hj _,trivial⟩
 ·refine ⟨a,?_,trivial⟩
  show lI u p al k a (u.E.length:Int)=_
  unfold lI
  rw [if_neg (by simp)]
theorem div_round (hu:Big u) (hp:jE u p) {al:List Bool} (hl:al.length=u.N.toNat):∃ al' m,loop (fun s:List Bool × Bool × Int=>nI u p s.1 s.2.1 s.2.2) (al,false,0)=some (al',m)/\al'.length=u.N.toNat/\cnt al'<=cnt al/\(m=true->cnt al' < cnt al):=by
 have h3:=hu.st
 have key:=eA (step:=fun s:List Bool × Bool × Int=>nI u p s.1 s.2.1 s.2.2) u.N.toNat (fun k (a:List Bool × Bool)=>(a.1,a.2,(k:Int))) (fun _ a=>a.1.length=u.N.toNat/\cnt a.1<=cnt al/\(a.2=true->cnt a.1 < cnt al)) (fun r=>r.1.length=u.N.toNat/\cnt r.1<=cnt al/\(r.2=true->cnt r.1 < cnt al)) (fun k a hk hI=>?_) (fun a hI=>?_) u.N.toNat 0 (al,false) (by omega) ⟨hl,Nat.le_refl _,fun h=>by cases h⟩
 ·obtain ⟨⟨al',m⟩,h1,h2⟩:=key
  exact ⟨al',m,h1,h2⟩
 ·obtain ⟨b,m⟩:=a
  obtain ⟨g1,g2,g3⟩:=hI
  simp only at g1 g2 g3 ⊢
  have hw:wr ((k:Int)+1)=((k+1:Nat):Int):=cS hk (by omega)
  have hkb:k < b.length:=by omega
  have hj:∀ c n,nH (k:Int) c n=some (.inl (c,n,((k+1:Nat):Int))):=fun c n=>by unfold nH;rw [hw]
  unfold nI
  rw [if_pos (by simp;omega),cU hkb,aA]
  by_cases hb:b[k]=true
  ·rw [if_neg (by simp [hb])]
   obtain ⟨c,hc⟩:=div_goes hu hp g1 (k:Int)
   rw [hc,aA]
   unfold uB
   cases c with
   |true=>rw [if_neg (by simp),hj];exact ⟨(b,m),rfl,g1,g2,g3⟩
   |false=>
    have hst:st b (k:Int) false=some (b.set k false):=by
     unfold Gv.st
     rw [if_pos ⟨by omega,by omega⟩,Int.toNat_natCast]
    have hlt:=cnt_off hkb hb
    rw [if_pos (by simp),hst,aA,hj]
    exact ⟨(b.set k false,true),rfl,by simp only [List.length_set];exact g1,by simp only;omega,fun _=>by simp only;omega⟩
  ·rw [if_pos (by simp [hb]),hj]
   exact ⟨(b,m),rfl,g1,g2,g3⟩
 ·obtain ⟨b,m⟩:=a
  refine ⟨(b,m),?_,hI⟩
  show nI u p b m ((u.N.toNat:Nat):Int)=_
  unfold nI
  rw [if_neg (by simp;omega)]
theorem aLt (hu:Big u) (hp:jE u p):∃ al,xI u p=some al/\al.length=u.N.toNat:=by
 have h3:=hu.st
 have hm:mkz u.N false=some (List.replicate u.N.toNat false):=by
  unfold mkz
  rw [if_pos ⟨by omega,by unfold kP;omega⟩]
 unfold xI
 rw [hm,aA]
 have key:=eA (step:=fun s:List Bool × Int=>jX u s.1 s.2) u.N.toNat (fun k (a:List Bool)=>(a,(k:Int))) (fun _ a=>a.length=u.N.toNat) (fun r=>r.length=u.N.toNat) (fun k a hk hI=>?_) (fun a hI=>?_) u.N.toNat 0 (List.replicate u.N.toNat false) (by omega) (by simp)
 ·obtain ⟨al,h1,h2⟩:=key
  have h1':loop (fun s:List Bool × Int=>jX u s.1 s.2) (List.replicate u.N.toNat false,0)=some al:=h1
  rw [h1',aA]
  unfold sA uA
  have key2:=oV (step:=fun s:List Bool × Bool=>pU u p s.1 s.2) (fun s=>s.1.length=u.N.toNat) (fun s=>2 * cnt s.1+(if s.2=true then 1 else 0)) (fun r=>r.length=u.N.toNat) (fun s hI=>?_) (s:=(al,true)) h2
  ·obtain ⟨r,h3,h4⟩:=key2
   rw [h3,aA]
   exact ⟨r,rfl,h4⟩
  ·obtain ⟨x,m⟩:=s
   show (∃ s',pU u p x m=_/\_)\/_
   cases m with
   |false=>right;exact ⟨x,by unfold pU;rw [if_neg (by simp)],hI⟩
   |true=>
    left
    obtain ⟨al',m',e,g1,g2,g3⟩:=div_round hu hp hI
    have g2:cnt al'<=cnt x:=g2
    have g3:m'=true->cnt al' < cnt x:=g3
    refine ⟨(al',m'),?_,g1,?_⟩
    ·unfold pU
     rw [if_pos rfl,e,aA];rfl
    ·show 2 * cnt al'+(if m'=true then 1 else 0) < 2 * cnt x+(if true=true then 1 else 0)
     rw [if_pos rfl]
     cases m' with
     |false=>rw [if_neg (by simp)];omega
     |true=>have:=g3 rfl;rw [if_pos rfl];omega
 ·have hw:wr ((k:Int)+1)=((k+1:Nat):Int):=cS hk (by omega)
  have hka:k < a.length:=by omega
  show ∃ a',jX u a (k:Int)=_/\_
  unfold jX
  have hst:st a (k:Int) true=some (a.set k true):=by
   unfold Gv.st
   rw [if_pos ⟨by omega,by omega⟩,Int.toNat_natCast]
  rw [if_pos (by simp;omega),cU hka,aA,hst,aA,hw]
  exact ⟨_,rfl,by simp only [List.length_set];exact hI⟩
 ·refine ⟨a,?_,hI⟩
  show jX u a ((u.N.toNat:Nat):Int)=_
  unfold jX
  rw [if_neg (by simp;omega)]
theorem aOD (hu:Big u) (hp:jE u p) {al:List Bool} (hl:al.length=u.N.toNat):∃ al' m,loop (fun s:List Bool × Bool × Int=>rJ u p s.1 s.2.1 s.2.2) (al,false,0)=some (al',m)/\al'.length=u.N.toNat/\cnt al<=cnt al'/\(m=true->cnt al < cnt al'):=by
 have h5:=hu.ed
 have key:=eA (step:=fun s:List Bool × Bool × Int=>rJ u p s.1 s.2.1 s.2.2) u.E.length (fun k (a:List Bool × Bool)=>(a.1,a.2,(k:Int))) (fun _ a=>a.1.length=u.N.toNat/\cnt al<=cnt a.1/\(a.2=true->cnt al < cnt a.1)) (fun r=>r.1.length=u.N.toNat/\cnt al<=cnt r.1/\(r.2=true->cnt al < cnt r.1)) (fun i a hi hI=>?_) (fun a hI=>?_) u.E.length 0 (al,false) (by omega) ⟨hl,Nat.le_refl _,fun h=>by cases h⟩
 ·obtain ⟨⟨al',m⟩,h1,h2⟩:=key
  exact ⟨al',m,h1,h2⟩
 ·obtain ⟨b,m⟩:=a
  obtain ⟨g1,g2,g3⟩:=hI
  simp only at g1 g2 g3 ⊢
  have he:=List.getElem_mem hi
  have hin:=hu.inn _ he
  have hw:wr ((i:Int)+1)=((i+1:Nat):Int):=cS hi (by omega)
  have hj:∀ c n,uL (i:Int) c n=some (.inl (c,n,((i+1:Nat):Int))):=fun c n=>by unfold uL;rw [hw]
  obtain ⟨_,f1⟩:=ixB g1 hin.1
  obtain ⟨hk,f2⟩:=ixB g1 hin.2.1
  have hT:=hin.2.1
  unfold lU at hT
  have hno:oG b m (i:Int) u.E[i] false=some (.inl (b,m,((i+1:Nat):Int))):=by unfold oG;rw [if_neg (by simp),hj]
  unfold rJ
  rw [if_pos (dJ hi),cU hi,aA,f1,aA]
  split
  ·rw [f2,aA]
   by_cases hb:b[u.E[i].To.toNat]=true
   ·rw [if_neg (by simp [hb]),hno]
    exact ⟨(b,m),rfl,g1,g2,g3⟩
   ·have hb':b[u.E[i].To.toNat]=false:=by simpa using hb
    rw [if_pos (by simp [hb'])]
    obtain ⟨c,hc⟩:=aJn hu hp he
    rw [hc,aA]
    cases c with
    |false=>rw [hno];exact ⟨(b,m),rfl,g1,g2,g3⟩
    |true=>
     have hst:st b u.E[i].To true=some (b.set u.E[i].To.toNat true):=by
      unfold Gv.st
      rw [if_pos ⟨hT.1,by omega⟩]
     have hlt:=cnt_on hk hb'
     unfold oG
     rw [if_pos rfl,f2,aA,hst,aA,hj]
     exact ⟨(_,true),rfl,by simp only [List.length_set];exact g1,by simp only;omega,fun _=>by simp only;omega⟩
  ·rw [hno]
   exact ⟨(b,m),rfl,g1,g2,g3⟩
 ·obtain ⟨b,m⟩:=a
  refine ⟨(b,m),?_,hI⟩
  show rJ u p b m (u.E.length:Int)=_
  unfold rJ
  rw [if_neg (by simp)]
theorem aOE (hu:Big u) (hp:jE u p) {k:Int} (hk:lU u k):∃ al,aBX u p k=some al/\al.length=u.N.toNat:=by
 have h3:=hu.st
 have hk':=hk
 unfold lU at hk'
 have hm:mkz u.N false=some (List.replicate u.N.toNat false):=by
  unfold mkz
  rw [if_pos ⟨by omega,by unfold kP;omega⟩]
 have hst:st (List.replicate u.N.toNat false) k true=some ((List.replicate u.N.toNat false).set k.toNat true):=by
  unfold Gv.st
  rw [if_pos ⟨hk'.1,by simp;omega⟩]
 obtain ⟨_,f⟩:=ixB (u:=u) (l:=List.replicate u.N.toNat false) (by simp) hk
 unfold aBX
 rw [hm,aA,f,aA,hst,aA]
 have key2:=oV (step:=fun s:List Bool × Bool=>uM u p s.1 s.2) (fun s=>s.1.length=u.N.toNat) (fun s=>2 * (u.N.toNat - cnt s.1)+(if s.2=true then 1 else 0)) (fun r=>r.length=u.N.toNat) (fun s hI=>?_) (s:=((List.replicate u.N.toNat false).set k.toNat true,true)) (by simp)
 ·obtain ⟨r,h3,h4⟩:=key2
  rw [h3,aA]
  exact ⟨r,rfl,h4⟩
 ·obtain ⟨x,m⟩:=s
  show (∃ s',uM u p x m=_/\_)\/_
  cases m with
  |false=>right;exact ⟨x,by unfold uM;rw [if_neg (by simp)],hI⟩
  |true=>
   left
   obtain ⟨al',m',e,g1,g2,g3⟩:=aOD hu hp hI
   have g2:cnt x<=cnt al':=g2
   have g3:m'=true->cnt x < cnt al':=g3
   have hle:cnt al'<=al'.length:=cnt_le al'
   refine ⟨(al',m'),?_,g1,?_⟩
   ·unfold uM
    rw [if_pos rfl,e,aA];rfl
   ·show 2 * (u.N.toNat - cnt al')+(if m'=true then 1 else 0) < 2 * (u.N.toNat - cnt x)+(if true=true then 1 else 0)
    rw [if_pos rfl]
    cases m' with
    |false=>rw [if_neg (by simp)];omega
    |true=>have:=g3 rfl;rw [if_pos rfl];omega
theorem offers_ok (hu:Big u) (hp:jE u p) {k:Int} (hk:lU u k):∃ l,aCP u p k=some l/\l.length<=90000:=by
 have h5:=hu.ed
 obtain ⟨al,e,hl⟩:=aOE hu hp hk
 unfold aCP
 rw [e,aA]
 have key:=eA (step:=fun s:List Int × Int=>mL u p al s.1 s.2) u.E.length (fun i (a:List Int)=>(a,(i:Int))) (fun i a=>a.length<=i) (fun r=>r.length<=90000) (fun i a hi hI=>?_) (fun a hI=>?_) u.E.length 0 [] (by omega) (by simp)
 ·obtain ⟨l,h1,h2⟩:=key
  have h1':loop (fun s:List Int × Int=>mL u p al s.1 s.2) (([]:List Int),0)=some l:=h1
  rw [h1',aA]
  exact ⟨l,rfl,h2⟩
 ·have he:=List.getElem_mem hi
  have hin:=hu.inn _ he
  have hw:wr ((i:Int)+1)=((i+1:Nat):Int):=cS hi (by omega)
  have hno:oZ p a (i:Int) u.E[i] false=some (.inl (a,((i+1:Nat):Int))):=by
   unfold oZ sD
   rw [if_neg (by simp),hw]
  obtain ⟨_,f1⟩:=ixB hl hin.1
  show ∃ a',mL u p al a (i:Int)=_/\_
  unfold mL
  rw [if_pos (dJ hi),cU hi,aA,f1,aA]
  split
  ·obtain ⟨c,hc⟩:=aJn hu hp he
   rw [hc,aA]
   cases c with
   |true=>rw [show (!true)=false from rfl,hno];exact ⟨a,rfl,by omega⟩
   |false=>
    obtain ⟨l',h1,h2⟩:=put_ok a (wr (wr (u.E[i].B * (p.length:Int))+p.getD u.E[i].To.toNat 0)) (by omega)
    unfold oZ sD
    rw [if_pos (by rfl),(aDo hp hin.2.1).1,aA,h1,aA,hw]
    exact ⟨l',rfl,by omega⟩
  ·rw [hno];exact ⟨a,rfl,by omega⟩
 ·refine ⟨a,?_,by omega⟩
  show mL u p al a (u.E.length:Int)=_
  unfold mL
  rw [if_neg (by simp)]
theorem j10_same:@uC=@nK:=rfl
theorem aOF (hu:Big u) (hp:jE u p) (d:Bool):∃ q,aCQ u p d=some q/\jE u q/\cn q=q/\aJK q p:=by
 have h3:=hu.st
 obtain ⟨al,e,hal⟩:=aLt hu hp
 unfold aCQ
 rw [e,aA]
 have key:=eA (step:=fun s:List (List Int) × Int=>lJ u p d al s.1 s.2) u.N.toNat (fun k (a:List (List Int))=>(a,(k:Int))) (fun k a=>a.length=k/\∀ r∈a,r.length<=90001) (fun r=>r.length=u.N.toNat/\∀ x∈r,x.length<=90001) (fun k a hk hI=>?_) (fun a hI=>?_) u.N.toNat 0 [] (by omega) ⟨rfl,by simp⟩
 ·obtain ⟨rows,h1,h2,h4⟩:=key
  have h1':loop (fun s:List (List Int) × Int=>lJ u p d al s.1 s.2) (([]:List (List Int)),0)=some rows:=h1
  have hl:rows.length=p.length:=by rw [h2,hp.1]
  rw [h1',aA,j10_same,num_eq hl (by rw [hp.1];omega) (fun r hr=>by have:=h4 r hr;omega)]
  exact ⟨_,rfl,part_cn hu (by rw [aFN hl,hp.1]),cn_cn _,aMx hl⟩
 ·obtain ⟨g1,g2⟩:=hI
  have hkT:lU u (k:Int):=by unfold lU;omega
  obtain ⟨l,e,hl⟩:=offers_ok hu hp hkT
  obtain ⟨_,f⟩:=ixB hal hkT
  have hw:wr ((k:Int)+1)=((k+1:Nat):Int):=cS hk (by omega)
  have hgo:∀ r:List Int,r.length<=90001->∃ a',pV a (k:Int) r=some (.inl (a',((k+1:Nat):Int)))/\a'.length=k+1/\∀ r∈a',r.length<=90001:=by
   intro r hr
   unfold pV
   rw [dK (by simp [kP];omega),aA,hw]
   refine ⟨_,rfl,by simp;omega,fun x hx=>?_⟩
   rcases List.mem_append.1 hx with hx|hx
   ·exact g2 x hx
   ·simp at hx;subst hx;exact hr
  have hgo2:∀ b:Bool,∃ a',pW a (k:Int) l b=some (.inl (a',((k+1:Nat):Int)))/\a'.length=k+1/\∀ r∈a',r.length<=90001:=by
   intro b
   unfold pW
   cases b with
   |true=>rw [if_pos rfl,dK (by simp [kP];omega),aA];exact hgo _ (by simp;omega)
   |false=>rw [if_neg (by simp)];exact hgo _ (by omega)
  show ∃ a',lJ u p d al a (k:Int)=_/\_
  unfold lJ
  rw [if_pos (by simp;omega),e,aA]
  cases d with
  |true=>rw [if_pos rfl,f,aA];exact hgo2 _
  |false=>rw [if_neg (by simp)];exact hgo2 _
 ·refine ⟨a,?_,hI⟩
  show lJ u p d al a ((u.N.toNat:Nat):Int)=_
  unfold lJ
  rw [if_neg (by simp;omega)]
theorem part15_ok (hu:Big u) (d:Bool):∃ p,aFY u d=some p/\jE u p:=by
 obtain ⟨hm,h0⟩:=part0 hu
 have h3:=hu.st
 unfold aFY
 rw [hm,aA]
 have key:=aLp (step:=fun s:List Int=>aBk u d s) u.N.toNat (fun p s=>s=p/\jE u p) (fun r=>jE u r) (fun p s hl hc hI=>?_) (List.replicate u.N.toNat 0) (List.replicate u.N.toNat 0) (by simp) (aOx _) ⟨rfl,h0⟩
 ·obtain ⟨p,h1,h2⟩:=key
  rw [h1,aA]
  exact ⟨p,rfl,h2⟩
 ·obtain ⟨rfl,hp⟩:=hI
  obtain ⟨r,e,g1,g2,g3⟩:=aOF hu hp d
  have hstep:aBk u d s=if decide (r=s)=true then some (.inr s) else some (.inl r):=by
   unfold aBk
   rw [e,aA,aLs _ _ (by rw [g1.1];omega),aA]
  by_cases h:r=s
  ·left
   rw [hstep,if_pos (by simpa using h)]
   exact ⟨_,rfl,hp⟩
  ·right
   refine ⟨r,r,g3,g2,h,?_,rfl,g1⟩
   rw [hstep,if_neg (by simpa using h)]
theorem true_ok {al:List Bool} (hal:al.length<=1000):∃ l,aFW al=some l/\l.length<=al.length/\∀ z∈l,0<=z/\z < al.length:=by
 unfold aFW
 have key:=eA (step:=fun s:List Int × Int=>qN al s.1 s.2) al.length (fun i (a:List Int)=>(a,(i:Int))) (fun i a=>a.length<=i/\∀ z∈a,0<=z/\z < al.length) (fun r=>r.length<=al.length/\∀ z∈r,0<=z/\z < al.length) (fun i a hi hI=>?_) (fun a hI=>?_) al.length 0 [] (by omega) (by simp)
 ·obtain ⟨l,h1,h2⟩:=key
  have h1':loop (fun s:List Int × Int=>qN al s.1 s.2) (([]:List Int),0)=some l:=h1
  rw [h1',aA]
  exact ⟨l,rfl,h2⟩
 ·obtain ⟨g1,g2⟩:=hI
  have hw:wr ((i:Int)+1)=((i+1:Nat):Int):=cS hi (by omega)
  show ∃ a',qN al a (i:Int)=_/\_
  unfold qN aBa
  rw [if_pos (dJ hi),cU hi,aA,hw]
  split
  ·rw [dK (by simp [kP];omega),aA]
   refine ⟨_,rfl,by simp;omega,fun z hz=>?_⟩
   rcases List.mem_append.1 hz with hz|hz
   ·exact g2 z hz
   ·simp at hz;omega
  ·exact ⟨_,rfl,by omega,g2⟩
 ·refine ⟨a,?_,hI⟩
  show qN al a (al.length:Int)=_
  unfold qN
  rw [if_neg (by simp)]
end
theorem aNr {t:cB} (h:cN t):Big t:=by
 have h1:=h.1
 have h2:=h.2.2.1.2.1
 have h3:=h.2.2.2.1
 exact ⟨by omega,by omega,by omega,fun e he=>vD h he⟩
section
variable {t:cB} {c:Nat} {p:List Int}
theorem top_ok (h:Drn c t) (hp:jE t p):∃ b,aAE p=some b/\(1<=b/\b<=10/\b<=t.N)/\∀ z∈p,0<=z/\z < b:=by
 have h1:=h.ok.1
 have h2:=h.st
 obtain ⟨b,e,⟨⟨z,hz,hb⟩,ht⟩⟩:=aPz (p:=p) (by rw [hp.1];omega) (by rw [hp.1];omega) fun z hz=>by
  have:=hp.2 z hz
  omega
 have:=hp.2 z hz
 exact ⟨b,e,by omega,fun w hw=>by have:=hp.2 w hw;have:=ht w hw;omega⟩
theorem aPE (h:Drn c t) (hp:jE t p) {b:Int} (hzi:∀ s,lU t s->0<=p.getD s.toNat 0/\p.getD s.toNat 0 < b):
  ∃ E,loop (fun s:List Edge × Int=>jZ t p s.1 s.2) (([]:List Edge),0)=some E/\E.length<=c/\∀ x∈E,tG b t.L.length x:=by
 have hu:=aNr h.ok
 have h2:=h.ok.2.1
 have hed:=h.ed
 have h5:=hu.ed
 refine eA (step:=fun s:List Edge × Int=>jZ t p s.1 s.2) t.E.length (fun i (a:List Edge)=>(a,(i:Int))) (fun i a=>a.length<=i/\∀ x∈a,tG b t.L.length x) (fun r=>r.length<=c/\∀ x∈r,tG b t.L.length x) (fun i a hi hI=>?_) (fun a hI=>?_) t.E.length 0 [] (by omega) (by simp)
 ·obtain ⟨g1,g2⟩:=hI
  have he:=List.getElem_mem hi
  have hin:=vD h.ok he
  have hw:wr ((i:Int)+1)=((i+1:Nat):Int):=cS hi (by omega)
  obtain ⟨v,hv⟩:=aJn hu hp he
  have hal:a.length+1 < kP:=by unfold kP;omega
  have ha1:a.length<=i+1:=by omega
  show ∃ a',jZ t p a (i:Int)=_/\_
  unfold jZ sC
  rw [if_pos (dJ hi),cU hi,aA,hv,aA,hw]
  clear hw
  split
  ·rw [(aDo hp hin.1).1,aA,(aDo hp hin.2.1).1,aA,dK (by simp only [List.length_singleton];omega),aA]
   refine ⟨_,rfl,by rw [List.length_append];exact Nat.add_le_add_right g1 1,fun x hx=>?_⟩
   rcases List.mem_append.1 hx with hx|hx
   ·exact g2 x hx
   ·rw [List.mem_singleton] at hx
    subst hx
    exact ⟨hzi _ hin.1,hzi _ hin.2.1,hin.2.2⟩
  ·exact ⟨_,rfl,ha1,g2⟩
 ·obtain ⟨g1,g2⟩:=hI
  refine ⟨a,?_,by omega,g2⟩
  show jZ t p a (t.E.length:Int)=_
  unfold jZ
  rw [if_neg (by simp)]
theorem aPF (hc:c<=250) (h:Drn c t) (hp:jE t p) {b:Int} (hzi:∀ s,lU t s->0<=p.getD s.toNat 0/\p.getD s.toNat 0 < b) {E:List Edge} (k2:E.length<=c) (k3:∀ x∈E,tG b t.L.length x) {l:List Int} (hl:l.length<=10) (hlT:∀ z∈l,lU t z):
  ∃ F,loop (fun s:List Edge × Int=>jY p l s.1 s.2) (E,0)=some F/\F.length<=c+10/\∀ x∈F,tG b t.L.length x:=by
 have hlab:=h.ok.2.2.1.1
 refine eA (step:=fun s:List Edge × Int=>jY p l s.1 s.2) l.length (fun i (a:List Edge)=>(a,(i:Int))) (fun i a=>a.length<=c+i/\∀ x∈a,tG b t.L.length x) (fun r=>r.length<=c+10/\∀ x∈r,tG b t.L.length x) (fun i a hi hI=>?_) (fun a hI=>?_) l.length 0 E (by omega) ⟨by omega,k3⟩
 ·obtain ⟨g1,g2⟩:=hI
  have hsT:=hlT _ (List.getElem_mem hi)
  have hal:a.length+1 < kP:=by unfold kP;omega
  have hw:wr ((i:Int)+1)=((i+1:Nat):Int):=cS hi (by omega)
  show ∃ a',jY p l a (i:Int)=_/\_
  unfold jY
  rw [if_pos (dJ hi),cU hi,aA,(aDo hp hsT).1,aA,dK (by simp only [List.length_singleton];omega),aA,hw]
  clear hw
  refine ⟨_,rfl,by rw [List.length_append];exact Nat.add_le_add_right g1 1,fun x hx=>?_⟩
  rcases List.mem_append.1 hx with hx|hx
  ·exact g2 x hx
  ·rw [List.mem_singleton] at hx
   subst hx
   have:=hzi _ hsT
   exact ⟨this,this,by simp only;omega⟩
 ·obtain ⟨g1,g2⟩:=hI
  refine ⟨a,?_,by omega,g2⟩
  show jY p l a (l.length:Int)=_
  unfold jY
  rw [if_neg (by simp)]
theorem aMz (hc:c<=250) (h:Drn c t) (hp:jE t p) (d:Bool):∃ t',rG t p d=some t'/\Drn (c+10) t'/\t'.N<=t.N:=by
 have hu:=aNr h.ok
 have h1:=h.ok.1
 have h2:=h.ok.2.1
 have hst:=h.st
 have hlab:=h.ok.2.2.1
 obtain ⟨b,e,hb,hz⟩:=top_ok h hp
 have hzi:∀ s,lU t s->0<=p.getD s.toNat 0/\p.getD s.toNat 0 < b:=fun s hs=>by
  have hl:s.toNat < p.length:=by rw [hp.1];unfold lU at hs;omega
  have e:p.getD s.toNat 0=p[s.toNat]:=by rw [List.getD_eq_getElem?_getD,List.getElem?_eq_getElem hl];rfl
  rw [e]
  exact hz _ (List.getElem_mem hl)
 have hini:lU t t.I:=by unfold lU;omega
 have hfin:∀ E:List Edge,(∀ x∈E,tG b t.L.length x)->E.length<=c+10->∃ t',oN t p E=some t'/\Drn (c+10) t'/\t'.N<=t.N:=by
  intro E hE hl
  obtain ⟨t',m1,m2,m3,m4⟩:=aJm (T:=t.L) h.nm (by have:=hlab.2.1;omega) (st:=b) (ini:=p.getD t.I.toNat 0) (by omega) (hzi _ hini) (edges:=E) (by omega) (fun x hx=>by have:=hE x hx;unfold tG at this;exact ⟨this.1,this.2.1,this.2.2⟩)
  unfold oN
  rw [(aDo hp hini).1,aA,e,aA,m1,aA]
  exact ⟨t',rfl,m2.mono hl,by omega⟩
 obtain ⟨E,k1,k2,k3⟩:=aPE h hp hzi
 unfold rG
 rw [k1,aA]
 unfold xJ
 cases d with
 |false=>rw [if_neg (by simp)];exact hfin E k3 (by omega)
 |true=>
  obtain ⟨al,d1,d2⟩:=aLt hu hp
  obtain ⟨l,d3,d4,d5⟩:=true_ok (al:=al) (by omega)
  obtain ⟨F,q1,q2,q3⟩:=aPF hc h hp hzi k2 k3 (l:=l) (by omega) (fun z hz=>by have:=d5 z hz;unfold lU;omega)
  rw [if_pos rfl,d1,aA,d3,aA,q1,aA]
  unfold aBV
  exact hfin F q3 q2
theorem keep_drn (h:Drn c t):aBW t=some (RL t)/\aEd t (RL t)=some (keepL t (RL t))/\Drn c (keepL t (RL t))/\(keepL t (RL t)).N<=t.N:=by
 have h1:=h.ok.1
 have h2:=h.st
 have hl:=RL_len t
 refine ⟨aOm h.ok,aPw h.ok (by omega),⟨keep_ok h.ok,h.nm,?_,Nat.le_trans (aMo t (RL t)) h.ed⟩,?_⟩
 ·show ((RL t).length:Int)<=10
  omega
 ·show ((RL t).length:Int)<=t.N
  omega
theorem aPG (hc:c<=250) (h:Drn c t) (d:Bool):∃ t',aBY t d=some t'/\Drn (c+10) t'/\t'.N<=t.N:=by
 obtain ⟨k1,k2,k3,k4⟩:=keep_drn h
 obtain ⟨p,p1,p2⟩:=part15_ok (aNr k3.ok) d
 obtain ⟨t',q1,q2,q3⟩:=aMz hc k3 p2 d
 unfold aBY
 rw [k1,aA,k2,aA,p1,aA,q1,aA]
 exact ⟨t',rfl,q2,by omega⟩
end
end Gv
set_option linter.unusedSimpArgs false
set_option linter.unusedVariables false
namespace Gv
open Go
theorem iU {γ:Type} {step:List γ × Int->Option ((List γ × Int) ⊕ List γ)} {n:Int} (hn:0<=n) (R:Nat->List γ->Prop) (R':List γ->Prop)
  (h:∀ m i,0<=i->i < n->R i.toNat m->∃ m',step (m,i)=some (.inl (m',i+1))/\R (i.toNat+1) m') (h':∀ m,R n.toNat m->step (m,n)=some (.inr m)/\R' m):∀ m,R 0 m->∃ m',loop step (m,0)=some m'/\R' m':=by
 intro m hm
 obtain ⟨r,h1,h2⟩:=eA (step:=step) n.toNat (fun k (q:List γ)=>(q,(k:Int))) R R' (fun k q hk hI=>by
  obtain ⟨m',g1,g2⟩:=h q (k:Int) (by omega) (by omega) (by rwa [Int.toNat_natCast])
  rw [Int.toNat_natCast] at g2
  exact ⟨m',g1,g2⟩) (fun q hI=>by
  obtain ⟨g1,g2⟩:=h' q hI
  refine ⟨q,?_,g2⟩
  have:((n.toNat:Nat):Int)=n:=by omega
  rw [this];exact g1) n.toNat 0 m (by omega) hm
 exact ⟨r,h1,h2⟩
theorem aLu {s x y:Int} (hs:s<=100) (hx:0<=x/\x < s) (hy:0<=y/\y < s):0<=x * s/\x * s<=10000/\x * s+y < s * s:=by
 have h1:(x+1) * s<=s * s:=Int.mul_le_mul_of_nonneg_right (by omega) (by omega)
 have h2:x * s<=100 * 100:=Int.mul_le_mul (by omega) hs (by omega) (by omega)
 have h3:0<=x * s:=Int.mul_nonneg hx.1 (by omega)
 rw [Int.add_mul,Int.one_mul] at h1
 omega
theorem sq_wr {s x y:Int} (hs:s<=100) (hx:0<=x/\x < s) (hy:0<=y/\y < s):wr (wr (x * s)+y)=x * s+y:=by
 obtain ⟨h1,h2,h3⟩:=aLu hs hx hy
 rw [dP (x:=x * s) (by omega) (by omega),dP (by omega) (by omega)]
theorem aDM {s x y:Int} {m:List Bool} (hs:s<=100) (hm:m.length=(s * s).toNat) (hx:0<=x/\x < s) (hy:0<=y/\y < s):∃ b,ix m (wr (wr (x * s)+y))=some b:=by
 obtain ⟨h1,h2,h3⟩:=aLu hs hx hy
 rw [sq_wr hs hx hy]
 unfold ix
 rw [if_pos (by omega),List.getElem?_eq_getElem (by omega)]
 exact ⟨_,rfl⟩
theorem sq_st {s x y:Int} {m:List Bool} (v:Bool) (hs:s<=100) (hm:m.length=(s * s).toNat) (hx:0<=x/\x < s) (hy:0<=y/\y < s):∃ m',st m (wr (wr (x * s)+y)) v=some m'/\m'.length=(s * s).toNat:=by
 obtain ⟨h1,h2,h3⟩:=aLu hs hx hy
 rw [sq_wr hs hx hy]
 unfold Gv.st
 rw [if_pos ⟨by omega,by omega⟩]
 exact ⟨_,rfl,by rw [List.length_set,hm]⟩
theorem aIt {γ:Type} {s k:Int} {m:List γ} (hm:m.length=s.toNat) (hk:0<=k/\k < s):∃ b,ix m k=some b:=by
 unfold ix
 rw [if_pos hk.1,List.getElem?_eq_getElem (by omega)]
 exact ⟨_,rfl⟩
theorem ln_st {γ:Type} {s k:Int} {m:List γ} (v:γ) (hm:m.length=s.toNat) (hk:0<=k/\k < s):∃ m',st m k v=some m'/\m'.length=s.toNat:=by
 unfold Gv.st
 rw [if_pos ⟨hk.1,by omega⟩]
 exact ⟨_,rfl,by rw [List.length_set,hm]⟩
theorem kO {i n:Int} (h0:0<=i) (h1:i < n) (hn:n<=1000000):wr (i+1)=i+1:=dP (by omega) (by omega)
section
variable {s:Int}
theorem cl2_c (hs:0<=s/\s<=100) {x y:Int} (hx:0<=x/\x < s) (hy:0<=y/\y < s):∀ m:List Bool,m.length=(s * s).toNat->∃ m',loop (fun q:List Bool × Int=>iL s x y q.1 q.2) (m,0)=some m'/\m'.length=(s * s).toNat:=by
 refine iU hs.1 (fun _ m=>m.length=(s * s).toNat) (fun m=>m.length=(s * s).toNat) (fun m i h0 h1 hm=>?_) (fun m hm=>⟨?_,hm⟩)
 ·show ∃ m',iL s x y m i=_/\_
  unfold iL uT
  obtain ⟨b,hb⟩:=aDM (m:=m) hs.2 hm hx ⟨h0,h1⟩
  obtain ⟨c,hc⟩:=aDM (m:=m) hs.2 hm hy ⟨h0,h1⟩
  obtain ⟨m',h2,h3⟩:=sq_st (m:=m) true hs.2 hm hy ⟨h0,h1⟩
  rw [if_pos (by simpa using h1),hb,aA,kO h0 h1 (by omega)]
  cases b with
  |true=>rw [if_pos rfl,hc,aA,h2,aA];exact ⟨m',rfl,h3⟩
  |false=>rw [if_neg (by simp)];exact ⟨m,rfl,hm⟩
 ·show iL s x y m s=_
  unfold iL
  rw [if_neg (by simp)]
theorem cl2_a (hs:0<=s/\s<=100) {x:Int} (hx:0<=x/\x < s):∀ m:List Bool,m.length=(s * s).toNat->∃ m',loop (fun q:List Bool × Int=>iM s x q.1 q.2) (m,0)=some m'/\m'.length=(s * s).toNat:=by
 refine iU hs.1 (fun _ m=>m.length=(s * s).toNat) (fun m=>m.length=(s * s).toNat) (fun m i h0 h1 hm=>?_) (fun m hm=>⟨?_,hm⟩)
 ·show ∃ m',iM s x m i=_/\_
  unfold iM
  obtain ⟨b,hb⟩:=aDM (m:=m) hs.2 hm ⟨h0,h1⟩ hx
  obtain ⟨m',h2,h3⟩:=cl2_c hs hx ⟨h0,h1⟩ m hm
  rw [if_pos (by simpa using h1),hb,aA]
  unfold uS uR
  rw [kO h0 h1 (by omega)]
  cases b with
  |true=>rw [if_neg (by simp),h2,aA];exact ⟨m',rfl,h3⟩
  |false=>rw [if_pos (by simp)];exact ⟨m,rfl,hm⟩
 ·show iM s x m s=_
  unfold iM
  rw [if_neg (by simp)]
theorem cl2_b (hs:0<=s/\s<=100):∀ m:List Bool,m.length=(s * s).toNat->∃ m',loop (fun q:List Bool × Int=>iN s q.1 q.2) (m,0)=some m'/\m'.length=(s * s).toNat:=by
 refine iU hs.1 (fun _ m=>m.length=(s * s).toNat) (fun m=>m.length=(s * s).toNat) (fun m i h0 h1 hm=>?_) (fun m hm=>⟨?_,hm⟩)
 ·show ∃ m',iN s m i=_/\_
  unfold iN
  obtain ⟨m',h2,h3⟩:=cl2_a hs ⟨h0,h1⟩ m hm
  rw [if_pos (by simpa using h1),h2,aA]
  unfold uQ yY
  rw [kO h0 h1 (by omega)]
  exact ⟨m',rfl,h3⟩
 ·show iN s m s=_
  unfold iN
  rw [if_neg (by simp)]
theorem close2_ok (hs:0<=s/\s<=100) (m:List Bool) (hm:m.length=(s * s).toNat):∃ m',aAs s m=some m'/\m'.length=(s * s).toNat:=by
 obtain ⟨m1,h1,h2⟩:=iU (step:=fun q:List Bool × Int=>gS s q.1 q.2) hs.1 (fun _ m=>m.length=(s * s).toNat) (fun m=>m.length=(s * s).toNat) (fun m i h0 h1 hm=>by
  show ∃ m',gS s m i=_/\_
  unfold gS
  obtain ⟨b,hb⟩:=aDM (m:=m) hs.2 hm ⟨h0,h1⟩ ⟨h0,h1⟩
  obtain ⟨m',h2,h3⟩:=sq_st (m:=m) true hs.2 hm ⟨h0,h1⟩ ⟨h0,h1⟩
  rw [if_pos (by simpa using h1),hb,aA,h2,aA,kO h0 h1 (by omega)]
  exact ⟨m',rfl,h3⟩) (fun m hm=>⟨by
  show gS s m s=_
  unfold gS
  rw [if_neg (by simp)],hm⟩) m hm
 obtain ⟨m2,h3,h4⟩:=cl2_b hs m1 h2
 unfold aAs
 rw [h1,aA]
 unfold sM
 rw [h3,aA]
 exact ⟨m2,rfl,h4⟩
end
section
variable {t:cB} {c:Nat}
end
end Gv
set_option linter.unusedSimpArgs false
set_option linter.unusedVariables false
namespace Gv
open Go
theorem aMA (E:List Edge) (k:Int):(E.filter fun e=>decide (e.F < k+1)).length=(E.filter fun e=>decide (e.F < k)).length+(E.filter fun e=>e.F == k).length:=by
 induction E with
 |nil=>rfl
 |cons e E ih=>
  simp only [List.filter_cons]
  by_cases h1:e.F < k
  ·rw [if_pos (by simp;omega),if_pos (by simpa using h1),if_neg (by simp;omega),List.length_cons,List.length_cons,ih];omega
  ·by_cases h2:e.F=k
   ·rw [if_pos (by simp;omega),if_neg (by simpa using h1),if_pos (by simpa using h2),List.length_cons,List.length_cons,ih];omega
   ·rw [if_neg (by simp;omega),if_neg (by simpa using h1),if_neg (by simpa using h2),ih]
section
variable {t:cB} {c0:Nat} (cs:aY)
theorem aOH (h:Drn 60 t) {r18:Int × Int × Int} (hr:0<=r18.1/\r18.1 < t.N) {more:Int} (hm:0<=more/\more<=2) {k old:Int} (hk:0<=k/\k < t.N+more) {s1:Int} (s2:Int) (hs:0<=s1/\s1<=1000000000) {E:List Edge} (hE:∀ e∈E,tG (t.N+more) t.L.length e) (hl:E.length<=1000):
  ∃ s1' s2' E',oS cs t r18 more s1 s2 E k old=some (.inl (s1',s2',E',k+1))/\E'.length=E.length+(t.E.filter fun e=>e.F == old).length/\(∀ e∈E',tG (t.N+more) t.L.length e)/\s1<=s1'/\s1'<=s1+120:=by
 have h1:=h.ok.1
 have h3:=h.st
 have h4:=h.ed
 unfold oS
 rw [l11Out_eq _ _ (by omega),aA]
 have hout:(t.E.filter fun e=>e.F == old).length<=60:=Nat.le_trans (List.length_filter_le _ _) h4
 have hmem:∀ e∈(t.E.filter fun e=>e.F == old),lU t e.F/\lU t e.To/\0<=e.B/\e.B < t.L.length:=fun e he=>vD h.ok (List.mem_filter.1 he).1
 generalize ho:(t.E.filter fun e=>e.F == old)=O at hout hmem ⊢
 have key:=eA (step:=fun s:Int × Int × List Edge × Int=>kA cs t r18 more k O s.1 s.2.1 s.2.2.1 s.2.2.2) O.length (fun i (q:Int × Int × List Edge)=>(q.1,q.2.1,q.2.2,(i:Int))) (fun i q=>(∀ e∈q.2.2,tG (t.N+more) t.L.length e)/\q.2.2.length=E.length+i/\s1<=q.1/\q.1<=s1+2 * i)
  (fun r=>(∀ e∈r.2.2,tG (t.N+more) t.L.length e)/\r.2.2.length=E.length+O.length/\s1<=r.1/\r.1<=s1+120) (fun i q hi hI=>?_) (fun q hI=>?_) O.length 0 (s1,s2,E) (by omega) ⟨hE,rfl,Int.le_refl _,by simp⟩
 ·obtain ⟨⟨a1,b1,E'⟩,e1,g1,g2,g3,g4⟩:=key
  have e1':loop (fun s:Int × Int × List Edge × Int=>kA cs t r18 more k O s.1 s.2.1 s.2.2.1 s.2.2.2) (s1,s2,E,0)=some (a1,b1,E'):=e1
  rw [e1',aA]
  unfold sY xS
  rw [dP (x:=k+1) (by omega) (by omega)]
  exact ⟨a1,b1,E',rfl,g2,g1,g3,g4⟩
 ·obtain ⟨a1,b1,E'⟩:=q
  obtain ⟨g1,g2,g3,g4⟩:=hI
  simp only at g1 g2 g3 g4 ⊢
  have hin:=hmem _ (List.getElem_mem hi)
  unfold lU at hin
  have hfin:∀ x y to,0<=to/\to < t.N+more->s1<=x/\x<=s1+2 * ((i:Int)+1)->
    ∃ q:Int × Int × List Edge,oR k E' (i:Int) O[i] x y to=some (.inl (q.1,q.2.1,q.2.2,((i+1:Nat):Int)))/\(∀ e∈q.2.2,tG (t.N+more) t.L.length e)/\q.2.2.length=E.length+(i+1)/\s1<=q.1/\q.1<=s1+2 * ((i+1:Nat):Int):=by
   intro x y to hto hx
   unfold oR
   rw [dK (by simp only [List.length_singleton];unfold kP;omega),aA,cS hi (by omega)]
   refine ⟨(x,y,E'++[_]),rfl,fun e he=>?_,by simp;omega,hx.1,by simp only;omega⟩
   rcases List.mem_append.1 he with he|he
   ·exact g1 e he
   ·rw [List.mem_singleton] at he
    subst he
    exact ⟨hk,hto,hin.2.2⟩
  have hj5:∀ x y (b:Bool),(b=true->0 < more)->s1<=x/\x<=s1+2 * ((i:Int)+1)->
    ∃ q:Int × Int × List Edge,mB t k E' (i:Int) O[i] x y b=some (.inl (q.1,q.2.1,q.2.2,((i+1:Nat):Int)))/\(∀ e∈q.2.2,tG (t.N+more) t.L.length e)/\q.2.2.length=E.length+(i+1)/\s1<=q.1/\q.1<=s1+2 * ((i+1:Nat):Int):=by
   intro x y b hb hx
   unfold mB
   cases b with
   |true=>have:=hb rfl;rw [if_pos rfl];exact hfin _ _ _ (by omega) hx
   |false=>rw [if_neg (by simp)];exact hfin _ _ _ (by omega) hx
  show ∃ q:Int × Int × List Edge,kA cs t r18 more k O a1 b1 E' (i:Int)=some (.inl (q.1,q.2.1,q.2.2,((i+1:Nat):Int)))/\_
  unfold kA
  rw [if_pos (dJ hi),cU hi,aA]
  by_cases hm0:0 < more
  ·rw [if_pos (by simpa using hm0)]
   obtain ⟨v,hv,_⟩:=rm_ok (x:=t.N+r18.1) (n:=t.N) (by omega) (by omega)
   rw [dP (x:=t.N+r18.1) (by omega) (by omega),hv,aA]
   split
   ·obtain ⟨b,x,y,e,h5,h6⟩:=aBL cs b1 (s1:=a1) (n:=2) (by omega) (by omega)
    rw [e,aA]
    exact hj5 _ _ _ (fun _=>hm0) (by simp only;omega)
   ·exact hj5 _ _ _ (fun h=>by cases h) (by omega)
  ·rw [if_neg (by simpa using hm0)]
   exact hj5 _ _ _ (fun h=>by cases h) (by omega)
 ·obtain ⟨a1,b1,E'⟩:=q
  obtain ⟨g1,g2,g3,g4⟩:=hI
  refine ⟨(a1,b1,E'),?_,g1,g2,g3,by simp only at g4 ⊢;omega⟩
  show kA cs t r18 more k O a1 b1 E' (O.length:Int)=_
  unfold kA
  rw [if_neg (by simp)]
def cap (t:cB) (k:Nat):Nat:=(t.E.filter fun e=>decide (e.F < (k:Int))).length+60 * (k - t.N.toNat)
theorem like_loop (h:Drn 60 t) {r18:Int × Int × Int} (hr:0<=r18.1/\r18.1 < t.N) {more:Int} (hm:0<=more/\more<=2) {s1:Int} (s2:Int) (hs:0<=s1/\s1<=100000000) (hst:t.N<=6):
  ∃ t' s1' s2',mC cs t r18 s1 s2 more=some (t',s1',s2')/\(Drn 180 t'/\t'.N<=8)/\s1<=s1'/\s1'<=s1+1000:=by
 have h1:=h.ok.1
 have h2:=h.ok.2.1
 have h4:=h.ed
 have hlab:=h.ok.2.2.1
 unfold mC
 have key:=eA (step:=fun s:Int × Int × List Edge × Int=>kB cs t r18 more s.1 s.2.1 s.2.2.1 s.2.2.2) (t.N+more).toNat (fun k (q:Int × Int × List Edge)=>(q.1,q.2.1,q.2.2,(k:Int))) (fun k q=>(∀ e∈q.2.2,tG (t.N+more) t.L.length e)/\q.2.2.length<=cap t k/\s1<=q.1/\q.1<=s1+120 * k)
  (fun r=>(∀ e∈r.1,tG (t.N+more) t.L.length e)/\r.1.length<=180/\s1<=r.2.1/\r.2.1<=s1+1000) (fun k q hk hI=>?_) (fun q hI=>?_) (t.N+more).toNat 0 (s1,s2,[]) (by omega) ⟨by simp,by simp,Int.le_refl _,by simp⟩
 ·obtain ⟨⟨E,a1,b1⟩,e1,g1,g2,g5,g6⟩:=key
  have e1':loop (fun s:Int × Int × List Edge × Int=>kB cs t r18 more s.1 s.2.1 s.2.2.1 s.2.2.2) (s1,s2,([]:List Edge),0)=some (E,a1,b1):=e1
  obtain ⟨t',m1,m2,m3,m4⟩:=aJm (T:=t.L) h.nm (by have:=hlab.2.1;omega) (st:=t.N+more) (ini:=t.I) (by omega) (by omega) (edges:=E) (by simp only at g2;omega) (fun x hx=>by have:=g1 x hx;unfold tG at this;exact ⟨this.1,this.2.1,this.2.2⟩)
  rw [e1',aA]
  unfold sX
  rw [dP (x:=t.N+more) (by omega) (by omega),m1,aA]
  exact ⟨t',a1,b1,rfl,⟨m2.mono g2,by rw [m3];omega⟩,g5,g6⟩
 ·obtain ⟨a1,b1,E⟩:=q
  obtain ⟨g1,g2,g3,g4⟩:=hI
  simp only at g1 g2 g3 g4 ⊢
  have hcap:∀ j,(t.E.filter fun e=>decide (e.F < j)).length<=60:=fun j=>Nat.le_trans (List.length_filter_le _ _) h4
  have hcapk:cap t k<=60+60 * (k - t.N.toNat):=by unfold cap;have:=hcap (k:Int);omega
  have hkk:k<=8:=by omega
  show ∃ q:Int × Int × List Edge,kB cs t r18 more a1 b1 E (k:Int)=some (.inl (q.1,q.2.1,q.2.2,((k+1:Nat):Int)))/\_
  unfold kB
  rw [dP (x:=t.N+more) (by omega) (by omega),if_pos (by simp;omega)]
  by_cases ho:t.N<=(k:Int)
  ·have hwk:wr ((k:Int)+r18.1)=(k:Int)+r18.1:=dP (by omega) (by omega)
   obtain ⟨v,hv,_⟩:=rm_ok (x:=(k:Int)+r18.1) (n:=t.N) (by omega) (by omega)
   rw [if_pos (by simpa using ho),dP (x:=(k:Int)+r18.1) (by omega) (by omega),hv,aA]
   obtain ⟨x,y,E',e,f1,f2,f3,f4⟩:=aOH cs h hr hm (k:=k) (old:=v) (by omega) (s1:=a1) b1 (by omega) g1 (by omega)
   refine ⟨(x,y,E'),e,f2,?_,by simp only;omega,by simp only;omega⟩
   have hv6:(t.E.filter fun e=>e.F == v).length<=60:=Nat.le_trans (List.length_filter_le _ _) h4
   have hup:=aMA t.E (k:Int)
   unfold cap at g2 ⊢
   simp only
   rw [show ((k+1:Nat):Int)=(k:Int)+1 from rfl,hup]
   omega
  ·rw [if_neg (by simpa using ho)]
   obtain ⟨x,y,E',e,f1,f2,f3,f4⟩:=aOH cs h hr hm (k:=k) (old:=k) (by omega) (s1:=a1) b1 (by omega) g1 (by omega)
   refine ⟨(x,y,E'),e,f2,?_,by simp only;omega,by simp only;omega⟩
   have hup:=aMA t.E (k:Int)
   unfold cap at g2 ⊢
   simp only
   rw [show ((k+1:Nat):Int)=(k:Int)+1 from rfl,hup]
   omega
 ·obtain ⟨a1,b1,E⟩:=q
  obtain ⟨g1,g2,g3,g4⟩:=hI
  have hl:(t.E.filter fun e=>decide (e.F < ((t.N+more).toNat:Int))).length<=60:=Nat.le_trans (List.length_filter_le _ _) h4
  refine ⟨(E,a1,b1),?_,g1,?_,g3,by simp only at g4 ⊢;omega⟩
  ·show kB cs t r18 more a1 b1 E (((t.N+more).toNat:Nat):Int)=_
   unfold kB
   rw [dP (x:=t.N+more) (by omega) (by omega),if_neg (by simp;omega)]
  ·simp only at g2 ⊢
   unfold cap at g2
   omega
theorem like_okB (h:Drn 60 t) (hst:t.N<=6) {s1:Int} (s2:Int) (hs:0<=s1/\s1<=1000000):∃ t' s1' s2',uX cs s1 s2 t=some (t',s1',s2')/\(Drn 180 t'/\t'.N<=8)/\s1<=s1'/\s1'<=s1+2000:=by
 have h1:=h.ok.1
 obtain ⟨v,x,y,e,hv,h5,h6⟩:=fH cs s2 (s1:=s1) (n:=t.N) (by omega) (by omega)
 obtain ⟨v2,x2,y2,e2,hv2,h52,h62⟩:=fH cs y (s1:=x) (n:=3) (by omega) (by omega)
 unfold uX
 rw [e,aA,if_pos (by simp;omega)]
 show ∃ t' s1' s2',(ob (bR cs x y 3) fun r317=>mC cs t (v,x,y) r317.2.1 r317.2.2 r317.1)=_/\_
 rw [e2,aA]
 obtain ⟨t',a1,b1,e3,h3,h7,h8⟩:=like_loop cs h (r18:=(v,x,y)) hv (more:=v2) (by omega) y2 (s1:=x2) (by omega) hst
 exact ⟨t',a1,b1,e3,h3,by omega,by omega⟩
end
end Gv
set_option linter.unusedSimpArgs false
set_option linter.unusedVariables false
namespace Gv
open Go
theorem cmp1_ok (a b:List Int) (h:a.length<=1000000):∃ v,qY a b=some v:=by
 unfold qY
 obtain ⟨r,e,_⟩:=oV (step:=fun s:Int=>jJ a b s) (fun s=>∃ k:Nat,s=(k:Int)/\k<=a.length) (fun s=>a.length - s.toNat) (fun _=>True) (fun s hI=>by
  obtain ⟨k,rfl,hk⟩:=hI
  unfold jJ
  by_cases h1:k < a.length
  ·rw [if_pos (dJ h1)]
   unfold lN
   by_cases h2:k < b.length
   ·rw [if_pos (dJ h2),cU h1,aA,cU h2,aA]
    split
    ·exact .inr ⟨_,rfl,trivial⟩
    ·split
     ·exact .inr ⟨_,rfl,trivial⟩
     ·rw [cS h1 (by omega)]
      exact .inl ⟨_,rfl,⟨k+1,rfl,by omega⟩,by omega⟩
   ·rw [if_neg (by simp;omega)]
    exact .inr ⟨_,rfl,trivial⟩
  ·rw [if_neg (by simp;omega)]
   unfold lN
   rw [if_neg (by simp)]
   exact .inr ⟨_,rfl,trivial⟩) (s:=0) ⟨0,rfl,by omega⟩
 rw [e,aA]
 cases r with
 |inl r=>
  show ∃ v,nR a b=some v
  unfold nR
  split
  ·exact ⟨_,rfl⟩
  ·split<;>exact ⟨_,rfl⟩
 |inr r=>exact ⟨r,rfl⟩
section
variable {a b:cB} {p:List Int}
theorem betw_row (ha:cN a) (hb:cN b) (hp:p.length=(a.N+b.N).toNat) {x:Nat} (hx:(x:Int) < a.N) {o:List (List Int)} (ho:o.length<=40 * x) (h2:∀ r∈o,r.length=2):
  ∃ o',lM a b p o (x:Int)=some (.inl (o',((x+1:Nat):Int)))/\o'.length<=40 * (x+1)/\∀ r∈o',r.length=2:=by
 have a1:=ha.1
 have b1:=hb.1
 unfold lM
 rw [if_pos (by simpa using hx)]
 have key:=eA (step:=fun s:List (List Int) × Int=>lL a b p (x:Int) s.1 s.2) b.N.toNat (fun j (q:List (List Int))=>(q,(j:Int))) (fun j q=>q.length<=o.length+j/\∀ r∈q,r.length=2) (fun r=>r.length<=o.length+40/\∀ x∈r,x.length=2) (fun j q hj hI=>?_) (fun q hI=>?_) b.N.toNat 0 o (by omega) ⟨by omega,h2⟩
 ·obtain ⟨o',e,g1,g2⟩:=key
  have e':loop (fun s:List (List Int) × Int=>lL a b p (x:Int) s.1 s.2) (o,0)=some o':=e
  rw [e',aA]
  unfold uD aAa
  rw [cS (n:=40) (by omega) (by omega)]
  exact ⟨o',rfl,by omega,g2⟩
 ·obtain ⟨g1,g2⟩:=hI
  have hx2:x < p.length:=by omega
  have hj2:a.N.toNat+j < p.length:=by omega
  have hfin:∀ q':List (List Int),q'.length<=o.length+(j+1)->(∀ r∈q',r.length=2)->∃ q'',pX (j:Int) q'=some (.inl (q'',((j+1:Nat):Int)))/\q''.length<=o.length+(j+1)/\∀ r∈q'',r.length=2:=by
   intro q' h1 h3
   unfold pX
   rw [cS hj (by omega)]
   exact ⟨q',rfl,h1,h3⟩
  show ∃ q',lL a b p (x:Int) q (j:Int)=_/\_
  unfold lL
  rw [if_pos (by simp;omega),cU hx2,aA,dP (x:=a.N+(j:Int)) (by omega) (by omega),show a.N+(j:Int)=((a.N.toNat+j:Nat):Int) by omega,cU hj2,aA]
  split
  ·rw [dK (by simp only [List.length_singleton];unfold kP;omega),aA]
   refine hfin _ (by simp;omega) fun r hr=>?_
   rcases List.mem_append.1 hr with hr|hr
   ·exact g2 r hr
   ·rw [List.mem_singleton] at hr
    subst hr
    rfl
  ·exact hfin _ (by omega) g2
 ·obtain ⟨g1,g2⟩:=hI
  refine ⟨q,?_,by omega,g2⟩
  show lL a b p (x:Int) q ((b.N.toNat:Nat):Int)=_
  unfold lL
  rw [if_neg (by simp;omega)]
theorem betw_ok (ha:cN a) (hb:cN b) (hp:p.length=(a.N+b.N).toNat):∃ r,xM a b p=some r/\r.length<=1600/\∀ x∈r,x.length=2:=by
 have a1:=ha.1
 unfold xM
 have key:=eA (step:=fun s:List (List Int) × Int=>lM a b p s.1 s.2) a.N.toNat (fun j (q:List (List Int))=>(q,(j:Int))) (fun j q=>q.length<=40 * j/\∀ r∈q,r.length=2) (fun r=>r.length<=1600/\∀ x∈r,x.length=2) (fun j q hj hI=>?_) (fun q hI=>?_) a.N.toNat 0 [] (by omega) (by simp)
 ·obtain ⟨o',e,g1,g2⟩:=key
  have e':loop (fun s:List (List Int) × Int=>lM a b p s.1 s.2) (([]:List (List Int)),0)=some o':=e
  rw [e',aA]
  exact ⟨o',rfl,g1,g2⟩
 ·exact betw_row ha hb hp (by omega) hI.1 hI.2
 ·refine ⟨q,?_,by omega,hI.2⟩
  show lM a b p q ((a.N.toNat:Nat):Int)=_
  unfold lM
  rw [if_neg (by simp;omega)]
end
end Gv
