/- Greatest relations between the states of two systems, by rounds. No program in sight. -/
import Derived.Test.YtnelhgfdoneljaaGreatDoorJP80
set_option linter.all false
namespace Gv
open Go
section
variable {a b:bQ} {B:Int->Int->Bool} {F:(Int->Int->Bool)->Int->Int->Bool}
structure MonoT (a b:bQ) (F:(Int->Int->Bool)->Int->Int->Bool):Prop where
 mono:∀ S T:Int->Int->Bool,(∀ x y,mJ a x->mJ b y->S x y=true->T x y=true)->∀ x y,mJ a x->mJ b y->F S x y=true->F T x y=true
end
end Gv
namespace Gv
open Go
def aGf (q p:List Int):Prop:=q.length=p.length/\∀ x y:Nat,x < p.length->y < p.length->q[x]?=q[y]?->p[x]?=p[y]?
theorem aKU (p:List Int) (n:Nat):(oB p n).Nodup:=List.Nodup.sublist List.filter_sublist List.nodup_range
theorem aKo (p:List Int) (n:Nat):(oB p n).length<=n:=by
 have:=List.length_filter_le (fun i=>decide (∀ k,k < i->p[k]?≠p[i]?)) (List.range n)
 rw [List.length_range] at this
 exact this
theorem aJn {q:List Int} {n:Nat}:∀ x,x < n->∃ z,z<=x/\z∈oB q n/\q[z]?=q[x]?:=by
 intro x
 induction x using Nat.strongRecOn with
 |ind x ih=>
  intro hx
  by_cases h:∀ k,k < x->q[k]?≠q[x]?
  ·exact ⟨x,Nat.le_refl _,by unfold oB;rw [List.mem_filter,List.mem_range,decide_eq_true_iff];exact ⟨hx,h⟩,rfl⟩
  ·obtain ⟨k,hk⟩:=Classical.not_forall.1 h
   obtain ⟨hk1,hk2⟩:=Classical.not_imp.1 hk
   obtain ⟨z,z1,z2,z3⟩:=ih k hk1 (by omega)
   exact ⟨z,by omega,z2,z3.trans (Classical.not_not.1 hk2)⟩
theorem aEY {p q:List Int} (hp:cn p=p) (hq:cn q=q) (hs:aGf q p):q=p\/(oB p p.length).length < (oB q p.length).length:=by
 by_cases h:∀ x y:Nat,x < p.length->y < p.length->p[x]?=p[y]?->q[x]?=q[y]?
 ·left
  rw [←hp,←hq]
  refine aJl ⟨hs.1,fun x y hx hy=>?_⟩
  rw [hs.1] at hx hy
  exact ⟨hs.2 x y hx hy,h x y hx hy⟩
 ·right
  have hsub:∀ i,i∈oB p p.length->i∈oB q p.length:=fun i hi=>by
   unfold oB at hi ⊢
   rw [List.mem_filter,List.mem_range,decide_eq_true_iff] at hi ⊢
   exact ⟨hi.1,fun k hk e=>hi.2 k hk (hs.2 k i (by omega) hi.1 e)⟩
  have hex:∃ z,z∈oB q p.length/\z∉oB p p.length:=by
   apply Classical.byContradiction
   intro hno
   refine h fun x y hx hy e=>?_
   obtain ⟨a,a1,a2,a3⟩:=aJn (q:=q) x hx
   obtain ⟨b,b1,b2,b3⟩:=aJn (q:=q) y hy
   have ha:a∈oB p p.length:=Classical.byContradiction fun h=>hno ⟨a,a2,h⟩
   have hb:b∈oB p p.length:=Classical.byContradiction fun h=>hno ⟨b,b2,h⟩
   have hab:p[a]?=p[b]?:=((hs.2 a x (by omega) hx a3).trans e).trans (hs.2 b y (by omega) hy b3).symm
   unfold oB at ha hb
   rw [List.mem_filter,decide_eq_true_iff] at ha hb
   have:a=b:=by
    rcases Nat.lt_trichotomy a b with h|h|h
    ·exact absurd hab (hb.2 a h)
    ·exact h
    ·exact absurd hab.symm (ha.2 b h)
   subst this
   exact a3.symm.trans b3
  obtain ⟨z,z1,z2⟩:=hex
  have:=List.Nodup.length_le_of_subset (l₁:=z::oB p p.length) (l₂:=oB q p.length) (List.nodup_cons.2 ⟨z2,aKU _ _⟩) (fun i hi=>by
   rcases List.mem_cons.1 hi with rfl|hi
   ·exact z1
   ·exact hsub i hi)
  rw [List.length_cons] at this
  omega
theorem aJo (n:Nat):cn (List.replicate n (0:Int))=List.replicate n 0:=by
 refine List.ext_getElem? fun i=>?_
 by_cases hi:i < n
 ·rw [aHy (by simpa using hi),List.getElem_replicate,List.getElem?_replicate,if_pos hi]
  have hdd:∀ m,dd (List.replicate (m+1) (0:Int))=[0]:=by
   intro m
   induction m with
   |zero=>rfl
   |succ m ih=>rw [List.replicate_succ',aFo,ih];rfl
  obtain ⟨m,rfl⟩:∃ m,n=m+1:=⟨n - 1,by omega⟩
  rw [hdd];rfl
 ·rw [List.getElem?_eq_none (by rw [yD,List.length_replicate];omega),List.getElem?_eq_none (by rw [List.length_replicate];omega)]
theorem cn_cn {κ:Type} [DecidableEq κ] [BEq κ] [LawfulBEq κ] (l:List κ):cn (cn l)=cn l:=aJl (cn_ker l)
theorem aGg {σ ρ:Type} {step:σ->Option (σ ⊕ ρ)} (n:Nat) (I:List Int->σ->Prop) (R:ρ->Prop)
  (h:∀ p s,p.length=n->cn p=p->I p s->(∃ r,step s=some (.inr r)/\R r)\/∃ q s',aGf q p/\cn q=q/\q≠p/\step s=some (.inl s')/\I q s'):
  ∀ (p:List Int) (s:σ),p.length=n->cn p=p->I p s->∃ r,loop step s=some r/\R r:=by
 have key:∀ (m:Nat) (p:List Int) (s:σ),p.length=n->cn p=p->I p s->n<=m+(oB p n).length->∃ r,loop step s=some r/\R r:=by
  intro m
  induction m with
  |zero=>
   intro p s hl hc hI hm
   rcases h p s hl hc hI with ⟨r,h1,h2⟩|⟨q,s',hq,hqc,hne,h1,h2⟩
   ·exact ⟨r,aGQ h1,h2⟩
   ·have h3:=(aEY hc hqc hq).resolve_left hne
    have h4:=aKo q n
    rw [hl] at h3
    omega
  |succ m ih=>
   intro p s hl hc hI hm
   rcases h p s hl hc hI with ⟨r,h1,h2⟩|⟨q,s',hq,hqc,hne,h1,h2⟩
   ·exact ⟨r,aGQ h1,h2⟩
   ·have h3:=(aEY hc hqc hq).resolve_left hne
    rw [hl] at h3
    rw [aEX h1]
    exact ih q s' (hq.1.trans hl) hqc h2 (by omega)
 intro p s hl hc hI
 exact key n p s hl hc hI (by omega)
theorem aHQ {κ:Type} [DecidableEq κ] [BEq κ] [LawfulBEq κ] {p:List Int} {keys:List κ} (hl:keys.length=p.length) (h:∀ x y:Nat,x < p.length->y < p.length->keys[x]?=keys[y]?->p[x]?=p[y]?):aGf (cn keys) p:=by
 refine ⟨by rw [yD,hl],fun x y hx hy e=>h x y hx hy ?_⟩
 exact ((cn_ker keys).2 x y (by rw [yD];omega) (by rw [yD];omega)).1 e
end Gv
namespace Gv
open Go
def AftT (t:bQ) (S:List Int) (s:aQ) (q:Int):Prop:=∃ e∈t.E,txt t e=s/\e.F∈S/\e.To=q
section
variable {t:bQ}
theorem AftT.inn (hv:dK t) {S:List Int} {s:aQ} {q:Int} (h:AftT t S s q):0<=q/\q < t.N:=by
 obtain ⟨e,he,_,_,rfl⟩:=h
 exact (aHx hv he).2.1
def Wk (t:bQ) (y:Int) (s:aQ) (w:Int):Prop:=if s=cI then Cl t (·∈[y]) w else Cl t (fun q=>∃ e∈t.E,txt t e=s/\Cl t (·∈[y]) e.F/\e.To=q) w
theorem Wk.inn (hv:dK t) {y:Int} (hy:mJ t y) {s:aQ} {w:Int} (h:Wk t y s w):mJ t w:=by
 unfold mJ at hy ⊢
 unfold Wk at h
 split at h
 ·exact h.inn hv fun q hq=>by simp at hq;omega
 ·exact h.inn hv fun q hq=>by
   obtain ⟨e,he,_,_,rfl⟩:=hq
   exact (aHx hv he).2.1
end
end Gv
namespace Gv
open Go
def StW (b:bQ) (kind y:Int) (s:aQ) (w:Int):Prop:=if kind=2 then Wk b y s w else ∃ f∈b.E,f.F=y/\txt b f=s/\f.To=w
section
variable {a b:bQ} {kind:Int}
theorem StW.inn (hb:dK b) {y:Int} (hy:mJ b y) {s:aQ} {w:Int} (h:StW b kind y s w):mJ b w:=by
 unfold StW at h
 split at h
 ·exact h.inn hb hy
 ·obtain ⟨f,hf,_,_,rfl⟩:=h
  exact (oC hb hf).2.1
end
end Gv
namespace Gv
open Go
section
variable {a b:bQ} {kind:Int}
end
end Gv
namespace Gv
open Go
section
variable {a b:bQ} {kind:Int}
end
end Gv
namespace Gv
open Go
section
variable {a b:bQ} {kind:Int}
instance inT_dec (t:bQ) (k:Int):Decidable (mJ t k):=by unfold mJ;infer_instance
end
end Gv
namespace Gv
open Go
section
variable {a b:bQ} {kind:Int}
end
end Gv
namespace Gv
open Go
def unA (a b:bQ) (M:List aQ):List Edge:=(a.E.map fun e=>(⟨e.F,pos (cI::M) (txt a e),e.To⟩:Edge))++b.E.map fun e=>(⟨e.F+a.N,pos (cI::M) (txt b e),e.To+a.N⟩:Edge)
structure Uni (a b:bQ) (M:List aQ) (Eo:List Edge):Prop where
 str:nR M
 mem:∀ s,s∈M<->s∈a.L++b.L/\s≠cI
 len:M.length<=24
 se:SE Eo
 ed:∀ x,x∈Eo<->x∈unA a b M
 elen:Eo.length<=600
section
variable {a b:bQ}
theorem yE {t:bQ} (hv:dK t) {e:Edge} (he:e∈t.E):txt t e∈t.L:=by
 have:=(oC hv he).2.2
 unfold txt
 rw [List.getD_eq_getElem?_getD,List.getElem?_eq_getElem (by omega)]
 exact List.getElem_mem _
theorem txt_lab {t:bQ} (hv:dK t) {e f:Edge} (he:e∈t.E) (hf:f∈t.E) (h:txt t e=txt t f):e.B=f.B:=by
 have h1:=aKj hv he (yE hv he)
 have h2:=aKj hv hf (yE hv he)
 rw [beq_self_eq_true] at h1
 rw [h,beq_self_eq_true] at h2
 rw [←h] at h2
 have h1':=beq_iff_eq.1 h1.symm
 have h2':=beq_iff_eq.1 h2.symm
 omega
theorem aKV {γ:Type} [BEq γ] [LawfulBEq γ] {xs:List γ} {x y:γ} (hx:x∈xs) (hy:y∈xs) (h:pos xs x=pos xs y):x=y:=by
 obtain ⟨i,e1,g1⟩:=aFm hx
 obtain ⟨j,e2,g2⟩:=aFm hy
 have:i=j:=by omega
 subst this
 rw [g1] at g2
 exact Option.some.inj g2
theorem edge_eq {e f:Edge} (h1:e.F=f.F) (h2:e.B=f.B) (h3:e.To=f.To):e=f:=by
 cases e;cases f;simp_all
theorem aKp (ha:dK a) (hb:dK b) {M:List aQ} (hm:∀ s,s∈M<->s∈a.L++b.L/\s≠cI):(unA a b M).Nodup:=by
 have hin:∀ s,s∈a.L++b.L->s∈cI::M:=fun s hs=>by
  by_cases e:s=cI
  ·subst e;simp
  ·exact List.mem_cons_of_mem _ ((hm s).2 ⟨hs,e⟩)
 unfold unA
 rw [List.nodup_append]
 refine ⟨?_,?_,fun x hx y hy e=>?_⟩
 ·refine List.Pairwise.map _ (R:=fun e f:Edge=>e∈a.E/\f∈a.E/\e≠f) (fun e f ⟨he,hf,hne⟩ h=>hne ?_) ?_
  ·simp only [Edge.mk.injEq] at h
   exact edge_eq h.1 (txt_lab ha he hf (aKV (hin _ (by simp [yE ha he])) (hin _ (by simp [yE ha hf])) h.2.1)) h.2.2
  ·exact (aJj (aJg ha)).imp_of_mem fun he hf h=>⟨he,hf,h⟩
 ·refine List.Pairwise.map _ (R:=fun e f:Edge=>e∈b.E/\f∈b.E/\e≠f) (fun e f ⟨he,hf,hne⟩ h=>hne ?_) ?_
  ·simp only [Edge.mk.injEq] at h
   exact edge_eq (by omega) (txt_lab hb he hf (aKV (hin _ (by simp [yE hb he])) (hin _ (by simp [yE hb hf])) h.2.1)) (by omega)
  ·exact (aJj (aJg hb)).imp_of_mem fun he hf h=>⟨he,hf,h⟩
 ·obtain ⟨e1,h1,rfl⟩:=List.mem_map.1 hx
  obtain ⟨e2,h2,h3⟩:=List.mem_map.1 hy
  rw [←h3] at e
  simp only [Edge.mk.injEq] at e
  have:=(oC ha h1).1
  have:=(oC hb h2).1
  unfold mJ at *
  omega
theorem uni_ex (ha:dK a) (hb:dK b):∃ M Eo,Uni a b M Eo:=by
 have l1:=ha.2.2.1.2.1
 have l2:=hb.2.2.1.2.1
 have h1:=ha.2.2.2.1
 have h2:=hb.2.2.2.1
 obtain ⟨M,_,j2,j3,j4⟩:=aJi (a.L++b.L) (by rw [List.length_append];omega)
 rw [List.length_append] at j4
 have hnd:=aKp ha hb (M:=M) j3
 refine ⟨M,xB bS (unA a b M),j2,j3,by omega,aJe bS vD sD aCw hnd,fun x=>by unfold xB;rw [List.mem_mergeSort],?_⟩
 unfold xB
 rw [List.length_mergeSort]
 unfold unA
 rw [List.length_append,List.length_map,List.length_map];omega
def uniL (a b:bQ) (M:List aQ) (Eo:List Edge):bQ:=⟨a.N+b.N,a.I,cI::M,Eo⟩
theorem aNl (ha:dK a) (hb:dK b) {M:List aQ} {Eo:List Edge} (h:Uni a b M Eo):aGJ a b=some (uniL a b M Eo):=by
 have s1:=ha.1
 have s2:=hb.1
 have l1:=ha.2.2.1.2.1
 have l2:=hb.2.2.1.2.1
 have h1:=ha.2.2.2.1
 have h2:=hb.2.2.2.1
 unfold aGJ
 rw [arcs_eq (fun e he=>yS ha he) (by omega),aA,arcs_eq (fun e he=>yS hb he) (by omega),aA]
 have key:=aAV (step:=fun s:List Arc × Int=>aBB a (b.E.map fun e=>(⟨e.F,txt b e,e.To⟩:Arc)) s.1 s.2) (b.E.map fun e=>(⟨e.F,txt b e,e.To⟩:Arc)) (fun j (o:List Arc)=>(o,(j:Int)))
  (fun l o=>o++l.map fun x=>(⟨wr (x.from_+a.N),x.label,wr (x.to_+a.N)⟩:Arc)) (fun j o=>o.length<=300+j) (fun j o e l hj hx hI=>?_) (fun o _=>by simp only [aBB,fI];simp) (a:=a.E.map fun e=>(⟨e.F,txt a e,e.To⟩:Arc)) (by rw [List.length_map];omega)
 ·rw [show loop (fun s:List Arc × Int=>aBB a (b.E.map fun e=>(⟨e.F,txt b e,e.To⟩:Arc)) s.1 s.2) (a.E.map (fun e=>(⟨e.F,txt a e,e.To⟩:Arc)),0)=_ from key,aA]
  unfold aDz
  rw [aNg _ _ (by omega),aA,cF (by omega) (by omega),List.map_map]
  have e0:((fun x:Arc=>(⟨wr (x.from_+a.N),x.label,wr (x.to_+a.N)⟩:Arc)) ∘ fun e:Edge=>(⟨e.F,txt b e,e.To⟩:Arc))=fun e=>(⟨wr (e.F+a.N),txt b e,wr (e.To+a.N)⟩:Arc):=rfl
  have e1:(b.E.map fun e=>(⟨wr (e.F+a.N),txt b e,wr (e.To+a.N)⟩:Arc))=b.E.map fun e=>(⟨e.F+a.N,txt b e,e.To+a.N⟩:Arc):=by
   refine List.map_congr_left fun e he=>?_
   have:=oC hb he
   unfold mJ at this
   rw [cF (by omega) (by omega),cF (by omega) (by omega)]
  have e2:(((a.E.map fun e=>(⟨e.F,txt a e,e.To⟩:Arc))++b.E.map fun e=>(⟨e.F+a.N,txt b e,e.To+a.N⟩:Arc)).map fun x=>(⟨x.from_,pos (cI::M) x.label,x.to_⟩:Edge))=unA a b M:=by
   unfold unA
   rw [List.map_append,List.map_map,List.map_map];rfl
  rw [e0,e1,lts_gen (M:=M) (Eo:=Eo) h.str h.mem (by rw [List.length_append];omega) (by rw [List.length_append,List.length_map,List.length_map];omega) (by rw [e2];exact aKp ha hb h.mem) h.se (fun x=>by rw [e2];exact h.ed x) (by have:=h.len;omega)]
  rfl
 ·left
  rw [List.length_map] at hj
  obtain ⟨hj',rfl⟩:=aGb hx
  refine ⟨o++[_],?_,by simp;omega,by simp [List.append_assoc];rfl⟩
  simp only [aBB,hx,aA,List.getElem_map]
  rw [if_pos (by rw [List.length_map];exact bU hj),cE (by simp [gQ];omega),aA,bI hj (by omega)]
end
end Gv
namespace Gv
open Go
structure Big (u:bQ):Prop where
 st:1<=u.N/\u.N<=100
 lab:u.L.length<=100
 ed:u.E.length<=1000
 inn:∀ e∈u.E,mJ u e.F/\mJ u e.To/\0<=e.B/\e.B < u.L.length
def fE (u:bQ) (p:List Int):Prop:=p.length=u.N.toNat/\∀ z∈p,0<=z/\z < u.N
def vl1 (u:bQ) (p:List Int) (e:Edge):Int:=e.B * u.N+p.getD e.To.toNat 0
def sg1 (u:bQ) (p:List Int) (k:Nat):List Int:=fZ (xB iLt ((u.E.filter fun e=>e.F == (k:Int)).map (vl1 u p)))
def ky1 (u:bQ) (p:List Int):List (List Int):=(List.range u.N.toNat).map fun k=>p.getD k 0::sg1 u p k
section
variable {u:bQ} {p:List Int}
theorem sg1_mem {k:Nat} {z:Int}:z∈sg1 u p k<->∃ e∈u.E,e.F=(k:Int)/\vl1 u p e=z:=by
 unfold sg1
 rw [aFn.mem,List.mem_map]
 constructor
 ·rintro ⟨e,he,h⟩
  rw [List.mem_filter,beq_iff_eq] at he
  exact ⟨e,he.1,he.2,h⟩
 ·rintro ⟨e,h1,h2,h⟩
  exact ⟨e,by rw [List.mem_filter,beq_iff_eq];exact ⟨h1,h2⟩,h⟩
theorem sg1_len (k:Nat):(sg1 u p k).length<=u.E.length:=by
 unfold sg1
 have h1:=aFq (xB iLt ((u.E.filter fun e=>e.F == (k:Int)).map (vl1 u p)))
 unfold xB at h1 ⊢
 rw [List.length_mergeSort,List.length_map] at h1
 exact Nat.le_trans h1 (List.length_filter_le _ _)
theorem aGR:(ky1 u p).length=u.N.toNat:=by unfold ky1;rw [List.length_map,List.length_range]
theorem aIl {k:Nat} (h:k < u.N.toNat):(ky1 u p)[k]?=some (p.getD k 0::sg1 u p k):=by unfold ky1;rw [List.getElem?_map,List.getElem?_range h];rfl
theorem mF (hp:fE u p) {s:Int} (h:mJ u s):ix p s=some (p.getD s.toNat 0)/\0<=p.getD s.toNat 0/\p.getD s.toNat 0 < u.N:=by
 unfold mJ at h
 have hl:s.toNat < p.length:=by rw [hp.1];omega
 have e:p.getD s.toNat 0=p[s.toNat]:=by rw [List.getD_eq_getElem?_getD,List.getElem?_eq_getElem hl];rfl
 rw [e]
 exact ⟨aDW h.1 hl,hp.2 _ (List.getElem_mem hl)⟩
theorem mul_b {l m s n:Int} (h1:0<=l) (h2:l<=m) (h3:0<=s) (h4:s<=n):0<=l * s/\l * s<=m * n:=
 ⟨Int.mul_nonneg h1 h3,Int.mul_le_mul h2 h4 h3 (by omega)⟩
theorem vl1_wr (hu:Big u) (hp:fE u p) {e:Edge} (he:e∈u.E):wr (wr (e.B * u.N)+p.getD e.To.toNat 0)=vl1 u p e:=by
 have h1:=hu.inn e he
 have h2:=(mF hp h1.2.1).2
 have h3:=hu.st
 have h4:=hu.lab
 have h5:=mul_b (l:=e.B) (m:=100) (s:=u.N) (n:=100) h1.2.2.1 (by omega) (by omega) (by omega)
 unfold vl1
 rw [cF (x:=e.B * u.N) (by omega) (by omega),cF (by omega) (by omega)]
theorem vl1_inj (hu:Big u) (hp:fE u p) {e f:Edge} (he:e∈u.E) (hf:f∈u.E) (h:vl1 u p e=vl1 u p f):e.B=f.B/\p.getD e.To.toNat 0=p.getD f.To.toNat 0:=by
 have h1:=(mF hp (hu.inn e he).2.1).2
 have h2:=(mF hp (hu.inn f hf).2.1).2
 have h3:=hu.st
 unfold vl1 at h
 have key:∀ (a b x y n:Int),0<=x->x < n->0<=y->y < n->a * n+x=b * n+y->¬ a < b:=by
  intro a b x y n hx hx' hy hy' h hlt
  have h5:(a+1) * n<=b * n:=Int.mul_le_mul_of_nonneg_right (by omega) (by omega)
  rw [Int.add_mul] at h5
  omega
 have n1:=key _ _ _ _ _ h1.1 h1.2 h2.1 h2.2 h
 have n2:=key _ _ _ _ _ h2.1 h2.2 h1.1 h1.2 h.symm
 have:e.B=f.B:=by omega
 refine ⟨this,?_⟩
 rw [this] at h;omega
theorem set_range {γ:Type} (n:Nat) (g:Nat->γ) (j:Nat) (v:γ):((List.range n).map g).set j v=(List.range n).map fun k=>if k=j then v else g k:=by
 apply List.ext_getElem?
 intro i
 rw [List.getElem?_set,List.getElem?_map,List.getElem?_map]
 by_cases hi:i < n
 ·rw [List.getElem?_range hi]
  by_cases hj:j=i
  ·subst hj;simp [hi]
  ·rw [if_neg hj];simp [show ¬ i=j from fun e=>hj e.symm]
 ·rw [List.getElem?_eq_none (l:=List.range n) (by simp;omega)]
  by_cases hj:j=i
  ·subst hj;simp [hi]
  ·rw [if_neg hj];rfl
theorem aJp {γ:Type} {n:Nat} {g:Nat->γ} {j:Int} {v:γ} (h:0<=j/\j < n):Gv.st ((List.range n).map g) j v=some ((List.range n).map fun k=>if k=j.toNat then v else g k):=by
 unfold Gv.st
 rw [if_pos ⟨h.1,by rw [List.length_map,List.length_range];omega⟩,set_range]
theorem aGS {γ:Type} {n:Nat} {g:Nat->γ} {j:Int} (h:0<=j/\j < n):ix ((List.range n).map g) j=some (g j.toNat):=by
 rw [aDW h.1 (by rw [List.length_map,List.length_range];omega)];simp
theorem rep_range {γ:Type} (n:Nat) (v:γ):List.replicate n v=(List.range n).map fun _=>v:=by
 apply List.ext_getElem<;>simp
theorem aMh (hu:Big u) (hp:fE u p):loop (fun s:List (List Int) × Int=>jC p s.1 s.2) ((List.range u.N.toNat).map fun _=>[],0)=some ((List.range u.N.toNat).map fun k=>[p.getD k 0]):=by
 have h3:=hu.st
 have key:=bZ (step:=fun s:List (List Int) × Int=>jC p s.1 s.2) u.N.toNat (fun k (o:List (List Int))=>(o,(k:Int))) (fun i o=>o=(List.range u.N.toNat).map fun k=>if k < i then [p.getD k 0] else []) (fun r=>r=(List.range u.N.toNat).map fun k=>[p.getD k 0]) (fun k o hk hI=>?_) (fun o hI=>?_) u.N.toNat 0 ((List.range u.N.toNat).map fun _=>[]) (by omega) (by simp)
 ·obtain ⟨r,h1,rfl⟩:=key
  exact h1
 ·subst hI
  have hg:=(mF hp (s:=(k:Int)) (by unfold mJ;omega)).1
  refine ⟨_,?_,rfl⟩
  show jC p _ (k:Int)=_
  unfold jC
  rw [if_pos (by rw [hp.1];exact bU hk),hg,aA,aGS (by omega),aA,aJp (by omega),aA,bI hk (by omega)]
  congr 3
  refine List.map_congr_left fun i _=>?_
  by_cases e:i=k
  ·subst e;simp
  ·by_cases h:i < k
   ·simp [e,h,show i < k+1 by omega]
   ·simp [e,h,show ¬ i < k+1 by omega]
 ·subst hI
  refine ⟨_,?_,rfl⟩
  show jC p _ ((u.N.toNat:Nat):Int)=_
  unfold jC
  rw [if_neg (by rw [hp.1];simp)]
  congr 2
  refine List.map_congr_left fun i hi=>?_
  rw [List.mem_range] at hi
  rw [if_pos hi]
theorem aMi (hu:Big u) (hp:fE u p):loop (fun s:List (List Int) × Int=>jB u p s.1 s.2) ((List.range u.N.toNat).map fun _=>[],0)=some ((List.range u.N.toNat).map fun k:Nat=>(u.E.filter fun e=>e.F == (k:Int)).map (vl1 u p)):=by
 have h3:=hu.st
 have h5:=hu.ed
 have key:=bZ (step:=fun s:List (List Int) × Int=>jB u p s.1 s.2) u.E.length (fun k (o:List (List Int))=>(o,(k:Int))) (fun i o=>o=(List.range u.N.toNat).map fun k:Nat=>((u.E.take i).filter fun e=>e.F == (k:Int)).map (vl1 u p)) (fun r=>r=(List.range u.N.toNat).map fun k:Nat=>(u.E.filter fun e=>e.F == (k:Int)).map (vl1 u p)) (fun i o hi hI=>?_) (fun o hI=>?_) u.E.length 0 ((List.range u.N.toNat).map fun _=>[]) (by omega) (by simp)
 ·obtain ⟨r,h1,rfl⟩:=key
  exact h1
 ·subst hI
  have he:=List.getElem_mem hi
  have hin:=hu.inn _ he
  have hF:=hin.1
  unfold mJ at hF
  have hg:=(mF hp hin.2.1).1
  have hl:(((u.E.take i).filter fun e=>e.F == (u.E[i].F.toNat:Int)).map (vl1 u p)).length<=1000:=by
   rw [List.length_map]
   refine Nat.le_trans (List.length_filter_le _ _) ?_
   rw [List.length_take];omega
  refine ⟨_,?_,rfl⟩
  show jB u p _ (i:Int)=_
  unfold jB
  rw [if_pos (bU hi),bK hi,aA,aGS (by omega),aA,hg,aA,vl1_wr hu hp he,cE (by simp only [gQ,List.length_singleton];omega),aA,aJp (by omega),aA]
  unfold uR
  rw [bI hi (by omega)]
  congr 3
  refine List.map_congr_left fun k _=>?_
  have e0:u.E.take (i+1)=u.E.take i++[u.E[i]]:=by rw [List.take_add_one,List.getElem?_eq_getElem hi];rfl
  rw [e0,List.filter_append,List.map_append,List.filter_cons,List.filter_nil]
  by_cases e:k=u.E[i].F.toNat
  ·subst e
   have:(u.E[i].F == ((u.E[i].F.toNat:Nat):Int))=true:=by rw [beq_iff_eq];omega
   rw [if_pos rfl,if_pos this];rfl
  ·have:¬ (u.E[i].F == (k:Int))=true:=by rw [beq_iff_eq];omega
   rw [if_neg e,if_neg this,List.map_nil,List.append_nil]
 ·subst hI
  refine ⟨_,?_,rfl⟩
  show jB u p _ (u.E.length:Int)=_
  unfold jB
  rw [if_neg (by simp),List.take_length]
theorem refine_eq (hu:Big u) (hp:fE u p):wL u p=some (cn (ky1 u p)):=by
 have h3:=hu.st
 have h5:=hu.ed
 have hm:mkz u.N ([]:List Int)=some ((List.range u.N.toNat).map fun _=>[]):=by
  unfold mkz
  rw [if_pos ⟨by omega,by unfold gQ;omega⟩,rep_range]
 unfold wL
 rw [hm,aA,aMh hu hp,aA]
 unfold uS
 rw [hm,aA,aMi hu hp,aA]
 unfold uQ
 have key:=bZ (step:=fun s:List (List Int) × Nat × Int=>jA ((List.range u.N.toNat).map fun k:Nat=>(u.E.filter fun e=>e.F == (k:Int)).map (vl1 u p)) s.1 s.2.1 s.2.2) u.N.toNat (fun k (o:List (List Int))=>(o,k,(k:Int))) (fun i o=>o=(List.range u.N.toNat).map fun k=>if k < i then p.getD k 0::sg1 u p k else [p.getD k 0]) (fun r=>r=ky1 u p) (fun i o hi hI=>?_) (fun o hI=>?_) u.N.toNat 0 ((List.range u.N.toNat).map fun k=>[p.getD k 0]) (by omega) (by simp)
 ·obtain ⟨r,h1,rfl⟩:=key
  have h1':loop (fun s:List (List Int) × Nat × Int=>jA ((List.range u.N.toNat).map fun k:Nat=>(u.E.filter fun e=>e.F == (k:Int)).map (vl1 u p)) s.1 s.2.1 s.2.2) ((List.range u.N.toNat).map fun k=>[p.getD k 0],0,0)=some (ky1 u p):=h1
  rw [h1',aA]
  unfold uO
  rw [aJN _ (by rw [aGR];omega) (fun x hx=>?_),aA]
  unfold ky1 at hx
  obtain ⟨k,_,rfl⟩:=List.mem_map.1 hx
  have:=sg1_len (u:=u) (p:=p) k
  rw [List.length_cons];omega
 ·subst hI
  have hfl:((u.E.filter fun e=>e.F == (i:Int)).map (vl1 u p)).length<=1000:=by
   rw [List.length_map]
   exact Nat.le_trans (List.length_filter_le _ _) h5
  have hsl:=sg1_len (u:=u) (p:=p) i
  refine ⟨_,?_,rfl⟩
  show jA _ _ i (i:Int)=_
  unfold jA tkN
  rw [if_pos (by rw [List.length_map,List.length_range];exact bU hi),aGS (by omega),aA,if_pos (by omega),aA,Int.toNat_natCast,aGP (by omega),aA,aGS (by omega),aA,aHP _ (by unfold xB;rw [List.length_mergeSort];omega),aA,Int.toNat_natCast,if_neg (by omega)]
  have e0:fZ (xB iLt ((u.E.filter fun e=>e.F == (i:Int)).map (vl1 u p)))=sg1 u p i:=rfl
  rw [e0,cE (by simp only [gQ,List.length_singleton];omega),aA,aJp (by omega),aA]
  unfold uP
  rw [bI hi (by omega)]
  congr 3
  refine List.map_congr_left fun k _=>?_
  by_cases e:k=i
  ·subst e;simp
  ·by_cases h:k < i
   ·simp [e,h,show k < i+1 by omega]
   ·simp [e,h,show ¬ k < i+1 by omega]
 ·subst hI
  refine ⟨_,?_,rfl⟩
  show jA _ _ u.N.toNat ((u.N.toNat:Nat):Int)=_
  unfold jA
  rw [if_neg (by rw [List.length_map,List.length_range];simp)]
  unfold ky1
  congr 2
  refine List.map_congr_left fun i hi=>?_
  rw [List.mem_range] at hi
  rw [if_pos hi]
theorem aKW (hu:Big u) {κ:Type} [DecidableEq κ] [BEq κ] [LawfulBEq κ] {l:List κ} (h:l.length=u.N.toNat):fE u (cn l):=by
 have:=hu.st
 refine ⟨by rw [yD,h],fun z hz=>?_⟩
 have:=cn_in hz
 omega
theorem aMj {l:List Int} {i j:Nat} (hi:i < l.length) (hj:j < l.length):l.getD i 0=l.getD j 0<->l[i]?=l[j]?:=by
 rw [List.getD_eq_getElem?_getD,List.getD_eq_getElem?_getD,List.getElem?_eq_getElem hi,List.getElem?_eq_getElem hj]
 simp
theorem aNm (hp:p.length=u.N.toNat):aGf (cn (ky1 u p)) p:=
 aHQ (by rw [aGR,hp]) fun x y hx hy h=>by
  rw [aIl (by omega),aIl (by omega),Option.some.injEq,List.cons.injEq] at h
  exact (aMj hx hy).1 h.1
theorem aHS (hu:Big u):∃ p,pQ u=some p/\fE u p/\cn (ky1 u p)=p:=by
 have h3:=hu.st
 unfold pQ aGF aGE
 have hm:mkz u.N (0:Int)=some (List.replicate u.N.toNat 0):=by
  unfold mkz
  rw [if_pos ⟨by omega,by unfold gQ;omega⟩]
 rw [hm,aA,aA]
 have hh:∀ q:List Int,(oB q u.N.toNat).length<=100:=fun q=>Nat.le_trans (aKo q _) (by omega)
 have key:=aGg (step:=fun s:List (List Int)=>zQ u s) u.N.toNat (fun p s=>(∃ l,s=l++[p])/\s.length<=(oB p u.N.toNat).length/\fE u p) (fun r=>∃ l p,r=l++[p]/\fE u p/\cn (ky1 u p)=p/\r.length<=100) (fun p s hl hc hI=>?_) (List.replicate u.N.toNat 0) [List.replicate u.N.toNat 0] (by simp) (aJo _) ⟨⟨[],rfl⟩,?_,?_⟩
 ·obtain ⟨r,h1,l,p,rfl,hp,hst,hl⟩:=key
  rw [h1,aA,aA]
  unfold aAn
  rw [List.length_append,List.length_singleton] at hl
  have hw:wr ((((l++[p]).length:Nat):Int) - 1)=((l.length:Nat):Int):=by
   rw [List.length_append,List.length_singleton,cF (by omega) (by omega)];omega
  refine ⟨p,?_,hp,hst⟩
  rw [hw,aBb,List.getElem?_append_right (Nat.le_refl _),Nat.sub_self]
  rfl
 ·obtain ⟨⟨l,rfl⟩,hlen,hp⟩:=hI
  have hb:=hh p
  rw [List.length_append,List.length_singleton] at hlen
  have hw:wr ((((l++[p]).length:Nat):Int) - 1)=((l.length:Nat):Int):=by
   rw [List.length_append,List.length_singleton,cF (by omega) (by omega)];omega
  have hsp:=aNm (u:=u) hl
  have hcc:cn (cn (ky1 u p))=cn (ky1 u p):=cn_cn _
  have hstep:zQ u (l++[p])=if decide (p=cn (ky1 u p))=true then some (.inr (l++[p])) else some (.inl (l++[p]++[cn (ky1 u p)])):=by
   unfold zQ
   rw [hw,aBb,List.getElem?_append_right (Nat.le_refl _),Nat.sub_self]
   show ob (some p) _=_
   rw [aA,refine_eq hu hp,aA,aKn _ _ (by rw [hl];omega),aA,cE (by simp only [gQ,List.length_append,List.length_singleton];omega),aA]
  rw [hstep]
  by_cases e:p=cn (ky1 u p)
  ·left
   rw [if_pos (by simpa using e)]
   exact ⟨_,rfl,l,p,rfl,hp,e.symm,by rw [List.length_append,List.length_singleton];omega⟩
  ·right
   rw [if_neg (by simpa using e)]
   have hmore:=(aEY hc hcc hsp).resolve_left (fun h=>e h.symm)
   rw [hl] at hmore
   refine ⟨_,_,hsp,hcc,fun h=>e h.symm,rfl,⟨l++[p],rfl⟩,?_,aKW hu aGR⟩
   rw [List.length_append,List.length_append,List.length_singleton,List.length_singleton];omega
 ·have:0∈oB (List.replicate u.N.toNat (0:Int)) u.N.toNat:=by
   unfold oB
   rw [List.mem_filter,List.mem_range,decide_eq_true_iff]
   exact ⟨by omega,fun k hk=>by omega⟩
  exact List.length_pos_of_mem this
 ·exact ⟨by simp,fun z hz=>by rw [List.mem_replicate] at hz;omega⟩
end
end Gv
namespace Gv
open Go
section
variable {a b:bQ}
theorem aFr {M:List aQ} {Eo:List Edge} (h:Uni a b M Eo) {s:aQ} (hs:s∈a.L\/s∈b.L):s∈cI::M:=by
 by_cases e:s=cI
 ·subst e;simp
 ·exact List.mem_cons_of_mem _ ((h.mem s).2 ⟨by simpa using hs,e⟩)
theorem aKX {γ:Type} [BEq γ] [LawfulBEq γ] {xs:List γ} {x:γ} (hx:x∈xs):0<=pos xs x/\pos xs x < xs.length:=by
 obtain ⟨i,e,g⟩:=aFm hx
 have:=(List.getElem?_eq_some_iff.1 g).1
 omega
theorem uni_big (ha:dK a) (hb:dK b) {M:List aQ} {Eo:List Edge} (h:Uni a b M Eo):Big (uniL a b M Eo):=by
 have s1:=ha.1
 have s2:=hb.1
 have hl:=h.len
 have he:=h.elen
 refine ⟨by show 1<=a.N+b.N/\a.N+b.N<=100;omega,by show (cI::M).length<=100;rw [List.length_cons];omega,by show Eo.length<=1000;omega,fun e hE=>?_⟩
 have hE':=(h.ed e).1 hE
 unfold unA at hE'
 show (0<=e.F/\e.F < a.N+b.N)/\(0<=e.To/\e.To < a.N+b.N)/\0<=e.B/\e.B < ((cI::M).length:Int)
 rcases List.mem_append.1 hE' with g|g
 ·obtain ⟨f,hf,rfl⟩:=List.mem_map.1 g
  have h1:=oC ha hf
  have h2:=aKX (aFr h (.inl (yE ha hf)))
  unfold mJ at h1
  simp only;omega
 ·obtain ⟨f,hf,rfl⟩:=List.mem_map.1 g
  have h1:=oC hb hf
  have h2:=aKX (aFr h (.inr (yE hb hf)))
  unfold mJ at h1
  simp only;omega
theorem aCy {u:bQ} (hu:Big u) {p:List Int} (hp:fE u p) (hst:cn (ky1 u p)=p) {x y:Int} (hx:mJ u x) (hy:mJ u y) (h:p.getD x.toNat 0=p.getD y.toNat 0) {e:Edge} (he:e∈u.E) (hex:e.F=x):
  ∃ f∈u.E,f.F=y/\f.B=e.B/\p.getD e.To.toNat 0=p.getD f.To.toNat 0:=by
 unfold mJ at hx hy
 have h3:=hu.st
 have hl:=hp.1
 have h':p[x.toNat]?=p[y.toNat]?:=(aMj (by omega) (by omega)).1 h
 rw [←hst] at h'
 have hk:=(cn_ker (ky1 u p)).2 x.toNat y.toNat (by rw [yD,aGR];omega) (by rw [yD,aGR];omega)
 have h2:=hk.1 h'
 rw [aIl (by omega),aIl (by omega),Option.some.injEq,List.cons.injEq] at h2
 have hm:vl1 u p e∈sg1 u p x.toNat:=sg1_mem.2 ⟨e,he,by omega,rfl⟩
 rw [h2.2,sg1_mem] at hm
 obtain ⟨f,hf,hfy,hv⟩:=hm
 have:=vl1_inj hu hp hf he hv
 exact ⟨f,hf,by omega,this.1,this.2.symm⟩
end
end Gv
namespace Gv
open Go
theorem anU_le (x:Int):0<=anU x 255/\anU x 255<=255:=by
 unfold anU
 have h:(BitVec.ofInt 64 x&&& BitVec.ofInt 64 255).toNat<=255:=by
  rw [BitVec.toNat_and]
  exact Nat.le_trans Nat.and_le_right (by decide)
 unfold kX
 omega
theorem shU_ok (x:Int):∃ y,shU x 40=some y:=⟨_,by unfold shU;rw [if_pos (by decide)]⟩
theorem byte_le (b:UInt8):0<=(b.toNat:Int)/\(b.toNat:Int)<=255:=by
 have:=b.toNat_lt
 omega
theorem next_ok (c:aQ) {s1:Int} (s2:Int) (h:0<=s1/\s1<=1000000000000):∃ v s2',qI c s1 s2=some (v,s1+1,s2')/\0<=v/\v<=255:=by
 have hw:wr (s1+1)=s1+1:=cF (by omega) (by omega)
 have key:∀ b:Int,0<=b/\b<=255->∃ v s2',oK c s1 s2 b=some (v,s1+1,s2')/\0<=v/\v<=255:=by
  intro b hb
  unfold oK
  rw [hw]
  split
  ·exact ⟨_,_,rfl,hb⟩
  ·obtain ⟨y,hy⟩:=shU_ok (kX ((kX ((kX (s2 * 6364136223846793005))+(kX b)))+1442695040888963407))
   rw [hy,aA]
   have h2:=anU_le y
   refine ⟨_,_,rfl,?_⟩
   rw [cF (by omega) (by omega)];exact h2
 unfold qI
 split
 ·rename_i hlt
  have hlt':s1 < (c.length:Int):=by simpa using hlt
  rw [aDW h.1 (by omega),aA]
  have hb:=byte_le (c[s1.toNat]'(by omega))
  rw [cF (by omega) (by omega)]
  exact key _ hb
 ·exact key 0 (by omega)
theorem rm_ok {x n:Int} (hx:0<=x) (hn:1<=n):∃ v,rm x n=some v/\0<=v/\v < n:=by
 unfold rm
 rw [if_neg (by omega)]
 have e:x.tmod n=x % n:=Int.tmod_eq_emod_of_nonneg hx
 have h1:=Int.emod_nonneg x (show n≠0 by omega)
 have h2:=Int.emod_lt_of_pos x (show 0 < n by omega)
 first
  |exact ⟨_,rfl,by rw [e];exact h1,by rw [e];exact h2⟩
  |exact ⟨_,rfl,by rw [e,cF]<;>omega,by rw [e,cF]<;>omega⟩
theorem eK (c:aQ) {s1 n:Int} (s2:Int) (h:0<=s1/\s1<=100000000000) (hn:1<=n):∃ v s1' s2',bA c s1 s2 n=some (v,s1',s2')/\(0<=v/\v < n)/\s1<=s1'/\s1'<=s1+2:=by
 unfold bA
 by_cases h1:n<=1
 ·rw [if_pos (by simpa using h1)]
  exact ⟨_,_,_,rfl,by omega,by omega,by omega⟩
 ·rw [if_neg (by simpa using h1)]
  obtain ⟨v,t2,e,g1,g2⟩:=next_ok c s2 (s1:=s1) (by omega)
  rw [e,aA]
  simp only
  have key:∀ x a b:Int,0<=x->s1<=a->a<=s1+2->∃ v s1' s2',oL n x a b=some (v,s1',s2')/\(0<=v/\v < n)/\s1<=s1'/\s1'<=s1+2:=by
   intro x a b hx ha hb
   unfold oL
   obtain ⟨y,hy,q1,q2⟩:=rm_ok hx (show 1<=n by omega)
   rw [hy,aA]
   exact ⟨_,_,_,rfl,⟨q1,q2⟩,ha,hb⟩
  by_cases h2:200 < n
  ·rw [if_pos (by simpa using h2)]
   obtain ⟨v',t2',e',g1',g2'⟩:=next_ok c t2 (s1:=s1+1) (by omega)
   rw [e',aA]
   simp only
   rw [cF (x:=v * 256) (by omega) (by omega),cF (by omega) (by omega)]
   exact key _ _ _ (by omega) (by omega) (by omega)
  ·rw [if_neg (by simpa using h2)]
   exact key _ _ _ g1 (by omega) (by omega)
theorem aEZ (c:aQ) {s1 n:Int} (s2:Int) (h:0<=s1/\s1<=100000000000) (hn:1<=n):∃ b s1' s2',iH c s1 s2 n=some (b,s1',s2')/\s1<=s1'/\s1'<=s1+2:=by
 obtain ⟨v,a,b,e,_,h2,h3⟩:=eK c s2 h hn
 unfold iH
 rw [e,aA]
 exact ⟨_,_,_,rfl,h2,h3⟩
theorem aMk (c:aQ) {s1:Int} (s2:Int) (h:0<=s1/\s1<=100000000000) {l:List Int} (hl:l≠[]):∃ v s1' s2',rG c s1 s2 l=some (v,s1',s2')/\v∈l/\s1<=s1'/\s1'<=s1+2:=by
 have h1:1<=(l.length:Int):=by
  have:=List.length_pos_iff.2 hl
  omega
 obtain ⟨v,a,b,e,hv,h2,h3⟩:=eK c s2 h h1
 unfold rG
 rw [e,aA]
 simp only
 rw [aDW hv.1 (by omega),aA]
 exact ⟨_,_,_,rfl,List.getElem_mem _,h2,h3⟩
end Gv
namespace Gv
open Go
def Nm:List aQ:=[cI,[97],[98],[99],[103,101,116,40,48,41],[103,101,116,40,49,41]]
theorem Nm_lab:∀ s∈Nm,aAi s=true:=by decide
theorem Nm_len:∀ s∈Nm,s.length<=6:=by decide
structure Drn (c:Nat) (t:bQ):Prop where
 ok:dK t
 nm:∀ s∈t.L,s∈Nm
 st:t.N<=10
 ed:t.E.length<=c
theorem Drn.fits {c:Nat} {t:bQ} (h:Drn c t):aAQ 999999999 t:=by
 have h1:=h.ok.2.2.1.2.1
 have h2:=h.ok.2.2.2.1
 refine ⟨by omega,fun s hs=>?_,by omega⟩
 have:=Nm_len s (h.nm s hs)
 omega
theorem Drn.mono {c d:Nat} {t:bQ} (h:Drn c t) (hc:c<=d):Drn d t:=⟨h.ok,h.nm,h.st,Nat.le_trans h.ed hc⟩
theorem srtE_SE (l:List Edge):SE (fZ (xB bS l)):=by
 have h1:(xB bS l).Pairwise fun a b=>bS b a=false:=by
  have:=List.pairwise_mergeSort (le:=fun a b=>!bS b a) (fun a b c h1 h2=>?_) (fun a b=>?_) l
  ·refine this.imp fun {a b} h=>?_
   simpa using h
  ·simp only [Bool.not_eq_true'] at h1 h2 ⊢
   cases h3:bS c a with
   |false=>rfl
   |true=>
    have:=aFp h3 h1
    rw [h2] at this;cases this
  ·cases h3:bS b a with
   |false=>simp
   |true=>simp [aIZ h3]
 exact aBN (R:=fun a b=>bS b a=false) (S:=fun a b=>bS a b=true) (fun h hne=>aHz h hne) (fun h h'=>aFp h h') h1
theorem aMl (l:List Edge):(fZ (xB bS l)).length<=l.length:=by
 have:=aFq (xB bS l)
 unfold xB at this ⊢
 rwa [List.length_mergeSort] at this
theorem aMm {l:List Edge} {x:Edge}:x∈fZ (xB bS l)<->x∈l:=by
 rw [aAX];unfold xB;rw [List.mem_mergeSort]
theorem labs_nm {M:List aQ} (hM:nR M) (hn:∀ s∈M,s∈Nm):aCK (cI::M):=by
 have hnd:M.Nodup:=hM.1.imp fun {a b} h e=>by subst e;rw [pW] at h;cases h
 have hl:M.length<=5:=by
  have:=List.Nodup.length_le_of_subset (l₁:=cI::M) (l₂:=Nm) (List.nodup_cons.2 ⟨hM.2,hnd⟩) (fun x hx=>by
   rcases List.mem_cons.1 hx with rfl|hx
   ·simp [Nm]
   ·exact hn x hx)
  have h6:Nm.length=6:=rfl
  rw [List.length_cons] at this
  omega
 refine ⟨by simp,by simp;omega,fun _=>rfl,fun k h1 hk=>?_⟩
 obtain ⟨k,rfl⟩:∃ j,k=j+1:=⟨k - 1,by omega⟩
 have hk':k < M.length:=by simpa using hk
 have hm:M[k]∈M:=List.getElem_mem hk'
 rw [List.getElem_cons_succ]
 refine ⟨Nm_lab _ (hn _ hm),fun e=>hM.2 (e ▸ hm),fun h2=>?_⟩
 obtain ⟨k,rfl⟩:∃ j,k=j+1:=⟨k - 1,by omega⟩
 have:=List.pairwise_iff_getElem.1 hM.1 k (k+1) (by omega) hk' (by omega)
 simpa using this
theorem aGT {T:List aQ} (hT:∀ s∈T,s∈Nm) (hTl:T.length<=100) {st ini:Int} (h1:1<=st/\st<=10) (h2:0<=ini/\ini < st) {edges:List Edge} (hl:edges.length<=300)
  (he:∀ e∈edges,(0<=e.F/\e.F < st)/\(0<=e.To/\e.To < st)/\0<=e.B/\e.B < T.length):∃ t,kF st ini T edges=some t/\Drn edges.length t/\t.N=st/\t.I=ini:=by
 obtain ⟨M,_,j2,j3,j4⟩:=aJi T (by omega)
 have hM:∀ s∈M,s∈Nm:=fun s hs=>hT s ((j3 s).1 hs).1
 refine ⟨⟨st,ini,cI::M,fZ (xB bS (edges.map fun e=>(⟨e.F,pos (cI::M) (T.getD e.B.toNat []),e.To⟩:Edge)))⟩,make_gen (by omega) j2 j3 (by omega) (fun e h=>(he e h).2.2) (srtE_SE _) (fun x=>?_) st ini,⟨⟨by show 1<=st/\st<=40;omega,by show 0<=ini/\ini<=st - 1;omega,labs_nm j2 hM,aJm ?_ (srtE_SE _) fun x hx=>?_⟩,fun s hs=>?_,by show st<=10;omega,?_⟩,rfl,rfl⟩
 ·rw [aMm,List.mem_map]
  exact ⟨fun ⟨e,h,g⟩=>⟨e,h,g.symm⟩,fun ⟨e,h,g⟩=>⟨e,h,g.symm⟩⟩
 ·have:=aMl (edges.map fun e=>(⟨e.F,pos (cI::M) (T.getD e.B.toNat []),e.To⟩:Edge))
  rw [List.length_map] at this
  exact Nat.le_trans this hl
 ·obtain ⟨e,h,rfl⟩:=List.mem_map.1 (aMm.1 hx)
  obtain ⟨g1,g2,g3,g4⟩:=he e h
  have hin:T.getD e.B.toNat []∈cI::M:=by
   have hmem:T.getD e.B.toNat []∈T:=by
    rw [List.getD_eq_getElem?_getD,List.getElem?_eq_getElem (by omega)]
    exact List.getElem_mem _
   by_cases ht:T.getD e.B.toNat []=cI
   ·rw [ht];simp
   ·exact List.mem_cons_of_mem _ ((j3 _).2 ⟨hmem,ht⟩)
  have:=aKX hin
  show (0<=e.F/\e.F<=st - 1)/\(0<=e.To/\e.To<=st - 1)/\0<=pos (cI::M) (T.getD e.B.toNat [])/\pos (cI::M) (T.getD e.B.toNat [])<=((cI::M).length:Int) - 1
  omega
 ·rcases List.mem_cons.1 hs with rfl|hs
  ·simp [Nm]
  ·exact hM s hs
 ·have:=aMl (edges.map fun e=>(⟨e.F,pos (cI::M) (T.getD e.B.toNat []),e.To⟩:Edge))
  rw [List.length_map] at this
  exact this
theorem names_ok (c:aQ) {s1:Int} (s2:Int) (h:0<=s1/\s1<=10000000000):∃ L s1' s2',rK c s1 s2=some (L,s1',s2')/\((∀ s∈L,s∈Nm)/\1<=L.length/\L.length<=7)/\s1<=s1'/\s1'<=s1+10:=by
 have key:=bZ (step:=fun s:Int × Int × List aQ × Int=>kG c s.1 s.2.1 s.2.2.1 s.2.2.2) 5 (fun k (a:Int × Int × List aQ)=>(a.1,a.2.1,a.2.2,(k:Int))) (fun k a=>(∀ s∈a.2.2,s∈Nm)/\1<=a.2.2.length/\a.2.2.length<=1+k/\s1<=a.1/\a.1<=s1+2 * k)
  (fun r=>(∀ s∈r.1,s∈Nm)/\1<=r.1.length/\r.1.length<=6/\s1<=r.2.1/\r.2.1<=s1+10) (fun k a hk hI=>?_) (fun a hI=>?_) 5 0 (s1,s2,[cI]) (by omega) ⟨by simp [Nm],by simp,by simp,by simp,by simp⟩
 ·obtain ⟨r,h1,g1,g2,g3,g4,g5⟩:=key
  unfold rK
  have h1':loop (fun s:Int × Int × List aQ × Int=>kG c s.1 s.2.1 s.2.2.1 s.2.2.2) (s1,s2,[cI],0)=some r:=h1
  rw [show ([([116,97,117]:aQ)]:List aQ)=[cI] from rfl,h1',aA]
  unfold qV qU
  split
  ·rw [cE (by simp [gQ];omega),aA]
   refine ⟨_,_,_,rfl,⟨fun s hs=>?_,by simp,by simp;omega⟩,g4,g5⟩
   rcases List.mem_append.1 hs with hs|hs
   ·exact g1 s hs
   ·simp at hs;subst hs;simp [Nm]
  ·exact ⟨_,_,_,rfl,⟨g1,g2,by omega⟩,g4,g5⟩
 ·obtain ⟨x,y,o⟩:=a
  obtain ⟨g1,g2,g3,g4,g5⟩:=hI
  simp only at g1 g2 g3 g4 g5 ⊢
  obtain ⟨b,t1,t2,e,h3,h4⟩:=aEZ c y (s1:=x) (n:=2) (by omega) (by omega)
  have hw:wr ((k:Int)+1)=((k+1:Nat):Int):=bI hk (by omega)
  unfold kG
  rw [if_pos (by simp;omega),e,aA]
  have hno:iI (k:Int) t1 t2 o=some (.inl (t1,t2,o,((k+1:Nat):Int))):=by unfold iI;rw [hw]
  have key:∀ v:Bool,∃ a':Int × Int × List aQ,nB o (k:Int) t1 t2 v=some (.inl (a'.1,a'.2.1,a'.2.2,((k+1:Nat):Int)))/\(∀ s∈a'.2.2,s∈Nm)/\1<=a'.2.2.length/\a'.2.2.length<=1+(k+1)/\s1<=a'.1/\a'.1<=s1+2 * ((k+1:Nat):Int):=by
   intro v
   unfold nB
   cases v with
   |false=>
    rw [if_neg (by simp),hno]
    exact ⟨(t1,t2,o),rfl,g1,g2,by simp only;omega,by simp only;omega,by simp only;omega⟩
   |true=>
    have hkl:k < ([([97]:aQ),([98]:aQ),([99]:aQ),([103,101,116,40,48,41]:aQ),([103,101,116,40,49,41]:aQ)]:List aQ).length:=hk
    rw [if_pos rfl,bK hkl,aA,cE (by simp [gQ];omega),aA]
    unfold iI
    rw [hw]
    refine ⟨(t1,t2,_),rfl,fun s hs=>?_,by simp,by simp;omega,by simp only;omega,by simp only;omega⟩
    rcases List.mem_append.1 hs with hs|hs
    ·exact g1 s hs
    ·rw [List.mem_singleton] at hs
     have:s∈([([97]:aQ),([98]:aQ),([99]:aQ),([103,101,116,40,48,41]:aQ),([103,101,116,40,49,41]:aQ)]:List aQ):=hs ▸ List.getElem_mem hkl
     exact List.mem_cons_of_mem _ this
  split
  ·exact key _
  ·exact key _
 ·obtain ⟨x,y,o⟩:=a
  obtain ⟨g1,g2,g3,g4,g5⟩:=hI
  simp only at g1 g2 g3 g4 g5 ⊢
  refine ⟨(o,x,y),?_,g1,g2,by simp only;omega,g4,by simp only;omega⟩
  unfold kG
  rw [if_neg (by simp)]
end Gv
namespace Gv
open Go
def tA (st:Int) (n:Nat) (e:Edge):Prop:=(0<=e.F/\e.F < st)/\(0<=e.To/\e.To < st)/\0<=e.B/\e.B < n
section
variable {c:aQ} {r9 r14:Int × Int × Int} {base st:Int}
def aJq (K:List Int) (base st:Int):Prop:=(K.length:Int)=st/\∀ i,(hi:i < K.length)->(0<=K[i]/\K[i] < base)/\((i:Int) < base->K[i]=(i:Int))
theorem kinds_ok (hb:1<=base/\base<=4) (hs:base<=st/\st<=6) (e1:wr (1+r9.1)=base) (e2:wr (base+r14.1)=st) {s1:Int} (s2:Int) (h:0<=s1/\s1<=10000000000):
  ∃ a b K,loop (fun s:Int × Int × List Int × Int=>mR c r9 r14 s.1 s.2.1 s.2.2.1 s.2.2.2) (s1,s2,([]:List Int),0)=some (a,b,K)/\aJq K base st/\s1<=a/\a<=s1+12:=by
 have key:=bZ (step:=fun s:Int × Int × List Int × Int=>mR c r9 r14 s.1 s.2.1 s.2.2.1 s.2.2.2) st.toNat (fun k (a:Int × Int × List Int)=>(a.1,a.2.1,a.2.2,(k:Int))) (fun k a=>(a.2.2.length=k/\∀ i,(hi:i < a.2.2.length)->(0<=a.2.2[i]/\a.2.2[i] < base)/\((i:Int) < base->a.2.2[i]=(i:Int)))/\s1<=a.1/\a.1<=s1+2 * k)
  (fun r=>aJq r.2.2 base st/\s1<=r.1/\r.1<=s1+12) (fun k a hk hI=>?_) (fun a hI=>?_) st.toNat 0 (s1,s2,[]) (by omega) ⟨⟨rfl,fun i hi=>by simp at hi⟩,by simp,by simp⟩
 ·obtain ⟨⟨a,b,K⟩,h1,g1,g2,g3⟩:=key
  exact ⟨a,b,K,h1,g1,g2,g3⟩
 ·obtain ⟨x,y,o⟩:=a
  obtain ⟨⟨g1,g2⟩,g3,g4⟩:=hI
  simp only at g1 g2 g3 g4 ⊢
  have hw:wr ((k:Int)+1)=((k+1:Nat):Int):=bI hk (by omega)
  have hadd:∀ v:Int,(0<=v/\v < base)->((k:Int) < base->v=(k:Int))->(o++[v]).length=k+1/\∀ i,(hi:i < (o++[v]).length)->(0<=(o++[v])[i]/\(o++[v])[i] < base)/\((i:Int) < base->(o++[v])[i]=(i:Int)):=by
   intro v h1 h2
   refine ⟨by simp;exact g1,fun i hi=>?_⟩
   by_cases hl:i < o.length
   ·rw [List.getElem_append_left hl];exact g2 i hl
   ·have:i=o.length:=by simp at hi;omega
    subst this
    rw [List.getElem_append_right (Nat.le_refl _)]
    simp only [Nat.sub_self,List.getElem_cons_zero]
    exact ⟨h1,fun h=>by rw [g1] at h ⊢;exact h2 h⟩
  unfold mR
  rw [e1,e2,if_pos (by simp;omega)]
  by_cases hkb:(k:Int) < base
  ·rw [if_pos (by simpa using hkb),cE (by simp [gQ];omega),aA]
   unfold mQ
   rw [hw]
   exact ⟨(x,y,o++[(k:Int)]),rfl,hadd _ (by omega) (fun _=>rfl),by simp only;omega,by simp only;omega⟩
  ·rw [if_neg (by simpa using hkb)]
   obtain ⟨v,t1,t2,e,q1,q2,q3⟩:=eK c y (s1:=x) (n:=base) (by omega) (by omega)
   rw [e,aA,cE (by simp [gQ];omega),aA]
   unfold mQ
   rw [hw]
   exact ⟨(t1,t2,o++[v]),rfl,hadd _ q1 (fun h=>absurd h hkb),by simp only;omega,by simp only;omega⟩
 ·obtain ⟨x,y,o⟩:=a
  obtain ⟨⟨g1,g2⟩,g3,g4⟩:=hI
  simp only at g1 g2 g3 g4 ⊢
  refine ⟨(x,y,o),?_,⟨by simp only;omega,g2⟩,g3,by simp only;omega⟩
  unfold mR
  rw [e1,e2,if_neg (by simp;omega)]
theorem alike_ok {r219:Int × Int × Int} {K:List Int} (hb:1<=base/\base<=4) (hs:base<=st/\st<=6) (e1:wr (1+r9.1)=base) (e2:wr (base+r14.1)=st) (hK:aJq K base st) (hto:0<=r219.1/\r219.1 < base):
  ∃ l,loop (fun s:List Int × Int=>jU r9 r14 K r219 s.1 s.2) (([]:List Int),0)=some l/\l≠[]/\∀ z∈l,0<=z/\z < st:=by
 have hKl:=hK.1
 have key:=bZ (step:=fun s:List Int × Int=>jU r9 r14 K r219 s.1 s.2) st.toNat (fun k (a:List Int)=>(a,(k:Int))) (fun k a=>a.length<=k/\(r219.1 < k->r219.1∈a)/\∀ z∈a,0<=z/\z < st) (fun r=>r≠[]/\∀ z∈r,0<=z/\z < st) (fun k a hk hI=>?_) (fun a hI=>?_) st.toNat 0 [] (by omega) ⟨by simp,fun h=>by omega,by simp⟩
 ·obtain ⟨l,h1,h2⟩:=key
  exact ⟨l,h1,h2⟩
 ·obtain ⟨g1,g2,g3⟩:=hI
  have hkl:k < K.length:=by omega
  have hw:wr ((k:Int)+1)=((k+1:Nat):Int):=bI hk (by omega)
  show ∃ a',jU r9 r14 K r219 a (k:Int)=_/\_
  unfold jU rP
  rw [e1,e2,if_pos (by simp;omega),bK hkl,aA,hw]
  by_cases he:K[k]=r219.1
  ·rw [if_pos (by simpa using he),cE (by simp [gQ];omega),aA]
   refine ⟨_,rfl,by simp;omega,fun h=>?_,fun z hz=>?_⟩
   ·by_cases hlt:r219.1 < k
    ·exact List.mem_append_left _ (g2 hlt)
    ·exact List.mem_append_right _ (by simp;omega)
   ·rcases List.mem_append.1 hz with hz|hz
    ·exact g3 z hz
    ·simp at hz;omega
  ·rw [if_neg (by simpa using he)]
   refine ⟨_,rfl,by omega,fun h=>g2 ?_,g3⟩
   have:=(hK.2 k hkl).2
   by_cases hlt:r219.1 < k
   ·exact hlt
   ·exfalso
    have e:r219.1=(k:Int):=by omega
    exact he (by rw [e];exact this (by omega))
 ·obtain ⟨g1,g2,g3⟩:=hI
  refine ⟨a,?_,fun h=>?_,g3⟩
  ·show jU r9 r14 K r219 a ((st.toNat:Nat):Int)=_
   unfold jU
   rw [e1,e2,if_neg (by simp;omega)]
  ·have:=g2 (by omega)
   rw [h] at this;cases this
theorem edges_row {r209 r214 r219:Int × Int × Int} {K:List Int} {nl:Nat} (hb:1<=base/\base<=4) (hs:base<=st/\st<=6) (e1:wr (1+r9.1)=base) (e2:wr (base+r14.1)=st) (hK:aJq K base st) (hto:0<=r219.1/\r219.1 < base) (hlab:0<=r214.1/\r214.1 < nl)
  {s1:Int} (s2:Int) (h:0<=s1/\s1<=10000000000) {ed:List Edge} (hed:∀ e∈ed,tA st nl e) (hel:ed.length<=1000):
  ∃ a b ed',loop (fun s:Int × Int × List Edge × Int=>oS c r9 r14 K r209 r214 r219 s.1 s.2.1 s.2.2.1 s.2.2.2) (s1,s2,ed,0)=some (a,b,ed')/\(∀ e∈ed',tA st nl e)/\ed'.length<=ed.length+6/\s1<=a/\a<=s1+12:=by
 have hKl:K.length=st.toNat:=by have:=hK.1;omega
 have hst9:st.toNat < 4611686018427387904:=by omega
 obtain ⟨al,ha1,ha2,ha3⟩:=alike_ok (r9:=r9) (r14:=r14) (r219:=r219) hb hs e1 e2 hK hto
 have key:=bZ (step:=fun s:Int × Int × List Edge × Int=>oS c r9 r14 K r209 r214 r219 s.1 s.2.1 s.2.2.1 s.2.2.2) st.toNat (fun k (a:Int × Int × List Edge)=>(a.1,a.2.1,a.2.2,(k:Int))) (fun k a=>(∀ e∈a.2.2,tA st nl e)/\a.2.2.length<=ed.length+k/\s1<=a.1/\a.1<=s1+2 * k)
  (fun r=>(∀ e∈r.2.2,tA st nl e)/\r.2.2.length<=ed.length+6/\s1<=r.1/\r.1<=s1+12) (fun k a hk hI=>?_) (fun a hI=>?_) st.toNat 0 (s1,s2,ed) (by omega) ⟨hed,by simp,by simp,by simp⟩
 ·obtain ⟨⟨a,b,K⟩,h1,g1,g2,g3⟩:=key
  exact ⟨a,b,K,h1,g1,g2,g3⟩
 ·obtain ⟨x,y,o⟩:=a
  obtain ⟨g1,g2,g3,g4⟩:=hI
  simp only at g1 g2 g3 g4 ⊢
  have hkl:k < K.length:=by rw [hKl];exact hk
  unfold oS
  rw [e1,e2,if_pos (by simp;omega),bK hkl,aA]
  unfold rO rN
  rw [bI hk (show st.toNat < 4611686018427387904 from hst9)]
  by_cases he:K[k]=r209.1
  ·rw [if_neg (by simp [he]),ha1,aA]
   obtain ⟨v,t1,t2,e,q1,q2,q3⟩:=aMk c y (s1:=x) (by omega) ha2
   rw [e,aA,cE (by simp [gQ];omega),aA]
   have hv:=ha3 v q1
   refine ⟨(t1,t2,_),rfl,fun e he=>?_,by simp;omega,by simp only;omega,by simp only;omega⟩
   rcases List.mem_append.1 he with he|he
   ·exact g1 e he
   ·rw [List.mem_singleton] at he
    subst he
    exact ⟨by simp only;omega,by simp only;omega,hlab⟩
  ·rw [if_pos (by simpa using he)]
   exact ⟨(x,y,o),rfl,g1,by simp only;omega,by simp only;omega,by simp only;omega⟩
 ·obtain ⟨x,y,o⟩:=a
  obtain ⟨g1,g2,g3,g4⟩:=hI
  simp only at g1 g2 g3 g4 ⊢
  refine ⟨(x,y,o),?_,g1,by simp only;omega,g3,by simp only;omega⟩
  unfold oS
  rw [e1,e2,if_neg (by simp;omega)]
theorem edges_all {r19:List aQ × Int × Int} {K:List Int} (hb:1<=base/\base<=4) (hs:base<=st/\st<=6) (e1:wr (1+r9.1)=base) (e2:wr (base+r14.1)=st) (hK:aJq K base st) (hL:1<=r19.1.length/\r19.1.length<=7) {s1 m:Int} (s2:Int) (h:0<=s1/\s1<=1000000000) (hm:0<=m/\m<=9):
  ∃ a b ed,loop (fun s:Int × Int × List Edge × Int=>mP c r9 r14 r19 K s.1 s.2.1 s.2.2.1 s.2.2.2) (s1,s2,([]:List Edge),m)=some (a,b,ed)/\(∀ e∈ed,tA st r19.1.length e)/\ed.length<=54/\s1<=a/\a<=s1+200:=by
 have key:=bZ (step:=fun s:Int × Int × List Edge × Int=>mP c r9 r14 r19 K s.1 s.2.1 s.2.2.1 s.2.2.2) m.toNat (fun k (a:Int × Int × List Edge)=>(a.1,a.2.1,a.2.2,m - (k:Int))) (fun k a=>(∀ e∈a.2.2,tA st r19.1.length e)/\a.2.2.length<=6 * k/\s1<=a.1/\a.1<=s1+18 * k)
  (fun r=>(∀ e∈r.2.2,tA st r19.1.length e)/\r.2.2.length<=54/\s1<=r.1/\r.1<=s1+200) (fun k a hk hI=>?_) (fun a hI=>?_) m.toNat 0 (s1,s2,[]) (by omega) ⟨by simp,by simp,by simp,by simp⟩
 ·obtain ⟨⟨a,b,K⟩,h1,g1,g2,g3⟩:=key
  exact ⟨a,b,K,by simpa using h1,g1,g2,g3⟩
 ·obtain ⟨x,y,o⟩:=a
  obtain ⟨g1,g2,g3,g4⟩:=hI
  simp only at g1 g2 g3 g4 ⊢
  obtain ⟨v,t1,t2,q,q1,q2,q3⟩:=eK c y (s1:=x) (n:=base) (by omega) (by omega)
  obtain ⟨v',t1',t2',q',q1',q2',q3'⟩:=eK c t2 (s1:=t1) (n:=(r19.1.length:Int)) (by omega) (by omega)
  obtain ⟨v'',t1'',t2'',q'',q1'',q2'',q3''⟩:=eK c t2' (s1:=t1') (n:=base) (by omega) (by omega)
  obtain ⟨a,b,ed',p1,p2,p3,p4,p5⟩:=edges_row (c:=c) (r9:=r9) (r14:=r14) (r209:=(v,t1,t2)) (r214:=(v',t1',t2')) (r219:=(v'',t1'',t2'')) (nl:=r19.1.length) hb hs e1 e2 hK q1'' q1' t2'' (s1:=t1'') (by omega) g1 (by omega)
  unfold mP
  rw [if_pos (by simp;omega),e1,q,aA,q',aA,q'',aA,p1,aA]
  unfold wI wH
  have hw:wr (m - (k:Int) - 1)=m - ((k+1:Nat):Int):=by rw [cF (by omega) (by omega)];omega
  rw [hw]
  exact ⟨(a,b,ed'),rfl,p2,by simp only;omega,by simp only;omega,by simp only;omega⟩
 ·obtain ⟨x,y,o⟩:=a
  obtain ⟨g1,g2,g3,g4⟩:=hI
  simp only at g1 g2 g3 g4 ⊢
  refine ⟨(x,y,o),?_,g1,by simp only;omega,g3,by simp only;omega⟩
  unfold mP
  rw [if_neg (by simp;omega)]
end
theorem drawOk_ok (c:aQ) {s1:Int} (s2:Int) (h:0<=s1/\s1<=100000000):∃ t s1' s2',zN c s1 s2=some (t,s1',s2')/\(Drn 55 t/\t.N<=6)/\s1<=s1'/\s1'<=s1+300:=by
 obtain ⟨v9,a9,b9,x9,y9,z9,w9⟩:=eK c s2 (s1:=s1) (n:=4) (by omega) (by omega)
 have e1:wr (1+v9)=1+v9:=cF (by omega) (by omega)
 have e1':wr (7 - (1+v9))=7 - (1+v9):=cF (by omega) (by omega)
 obtain ⟨v14,a14,b14,x14,y14,z14,w14⟩:=eK c b9 (s1:=a9) (n:=7 - (1+v9)) (by omega) (by omega)
 have e2:wr (1+v9+v14)=1+v9+v14:=cF (by omega) (by omega)
 obtain ⟨L,a19,b19,x19,⟨y19,y19',y19''⟩,z19,w19⟩:=names_ok c b14 (s1:=a14) (by omega)
 have hb:1<=1+v9/\1+v9<=4:=by omega
 have hs:1+v9<=1+v9+v14/\1+v9+v14<=6:=by omega
 obtain ⟨ak,bk,K,xk,yk,zk,wk⟩:=kinds_ok (c:=c) (r9:=(v9,a9,b9)) (r14:=(v14,a14,b14)) hb hs e1 e2 b19 (s1:=a19) (by omega)
 have e3:wr (2+wr (2 * (1+v9)))=2+2 * (1+v9):=by rw [cF (x:=2 * (1+v9)) (by omega) (by omega),cF (by omega) (by omega)]
 obtain ⟨vm,am,bm,xm,ym,zm,wm⟩:=eK c bk (s1:=ak) (n:=2+2 * (1+v9)) (by omega) (by omega)
 obtain ⟨ae,be,ed,xe,ye,ye',ze,we⟩:=edges_all (c:=c) (r9:=(v9,a9,b9)) (r14:=(v14,a14,b14)) (r19:=(L,a19,b19)) hb hs e1 e2 yk ⟨y19',y19''⟩ bm (s1:=am) (m:=vm) (by omega) (by omega)
 have hfin:∀ (s t:Int) (E:List Edge),(∀ e∈E,tA (1+v9+v14) L.length e)->E.length<=55->ae<=s->s<=ae+8->∃ t' s1' s2',rL c (v9,a9,b9) (v14,a14,b14) (L,a19,b19) s t E=some (t',s1',s2')/\(Drn 55 t'/\t'.N<=6)/\ae<=s1'/\s1'<=ae+10:=by
  intro s t E hE hEl hs1 hs2
  unfold rL
  simp only
  rw [e1,e2]
  obtain ⟨v,a,b,q,q1,q2,q3⟩:=eK c t (s1:=s) (n:=1+v9+v14) (by omega) (by omega)
  obtain ⟨t',m1,m2,m3,m4⟩:=aGT y19 (by omega) (st:=1+v9+v14) (ini:=v) (by omega) q1 (edges:=E) (by omega) (fun e he=>by have:=hE e he;unfold tA at this;exact ⟨this.1,this.2.1,this.2.2⟩)
  rw [q,aA,m1,aA]
  exact ⟨_,_,_,rfl,⟨m2.mono hEl,by omega⟩,by simp only;omega,by simp only;omega⟩
 unfold zN
 rw [x9,aA]
 simp only
 rw [e1,e1',x14,aA,x19,aA,xk,aA]
 unfold qB
 simp only
 rw [e1,e3,xm,aA,xe,aA]
 unfold rM
 simp only
 rw [e1,e2]
 obtain ⟨bb,ao,bo,xo,zo,wo⟩:=aEZ c be (s1:=ae) (n:=3) (by omega) (by omega)
 rw [xo,aA]
 simp only
 cases bb with
 |false=>
  rw [if_neg (by simp)]
  obtain ⟨t',s1',s2',r1,r2,r3,r4⟩:=hfin ao bo ed ye (by omega) (by omega) (by omega)
  exact ⟨t',s1',s2',r1,r2,by omega,by omega⟩
 |true=>
  rw [if_pos rfl]
  obtain ⟨v1,a1,b1,p1,p1',p1'',p1'''⟩:=eK c bo (s1:=ao) (n:=1+v9+v14) (by omega) (by omega)
  obtain ⟨v2,a2,b2,p2,p2',p2'',p2'''⟩:=eK c b1 (s1:=a1) (n:=(L.length:Int)) (by omega) (by omega)
  obtain ⟨v3,a3,b3,p3,p3',p3'',p3'''⟩:=eK c b2 (s1:=a2) (n:=1+v9+v14) (by omega) (by omega)
  rw [p1,aA,p2,aA,p3,aA,cE (by simp [gQ];omega),aA]
  obtain ⟨t',s1',s2',r1,r2,r3,r4⟩:=hfin a3 b3 (ed++[⟨v1,v2,v3⟩]) (fun e he=>by
   rcases List.mem_append.1 he with he|he
   ·exact ye e he
   ·rw [List.mem_singleton] at he
    subst he
    exact ⟨p1',p3',p2'⟩) (by simp;omega) (by omega) (by omega)
  exact ⟨t',s1',s2',r1,r2,by omega,by omega⟩
theorem aKr (c:aQ) {s1:Int} (s2:Int) (h:0<=s1/\s1<=10000000):∃ t s1' s2',pG c s1 s2=some (t,s1',s2')/\(Drn 60 t/\t.N<=6)/\s1<=s1'/\s1'<=s1+500:=by
 obtain ⟨t,a,b,x,⟨y,ys⟩,z,w⟩:=drawOk_ok c s2 (s1:=s1) (by omega)
 have hed:=y.ed
 have hlab:=y.ok.2.2.1
 have hst:=y.ok.1
 have hini:=y.ok.2.1
 have hin:∀ e∈t.E,tA t.N t.L.length e:=fun e he=>by
  have:=oC y.ok he
  unfold mJ at this
  exact ⟨this.1,this.2.1,this.2.2⟩
 have key:=bZ (step:=fun s:Int × Int × List Edge × Int=>oU c (t,a,b) s.1 s.2.1 s.2.2.1 s.2.2.2) t.E.length (fun k (q:Int × Int × List Edge)=>(q.1,q.2.1,q.2.2,(k:Int))) (fun k q=>(∀ e∈q.2.2,tA t.N t.L.length e)/\q.2.2.length<=k/\a<=q.1/\q.1<=a+2 * k)
  (fun r=>(∀ e∈r.2.2,tA t.N t.L.length e)/\r.2.2.length<=55/\a<=r.1/\r.1<=a+110) (fun k q hk hI=>?_) (fun q hI=>?_) t.E.length 0 (a,b,[]) (by omega) ⟨by simp,by simp,by simp,by simp⟩
 ·obtain ⟨⟨a1,b1,E⟩,h1,g1,g2,g3,g4⟩:=key
  simp only at g1 g2 g3 g4
  have h1':loop (fun s:Int × Int × List Edge × Int=>oU c (t,a,b) s.1 s.2.1 s.2.2.1 s.2.2.2) (a,b,([]:List Edge),0)=some (a1,b1,E):=h1
  obtain ⟨vm,am,bm,xm,ym,zm,wm⟩:=eK c b1 (s1:=a1) (n:=3) (by omega) (by omega)
  have key2:=bZ (step:=fun s:Int × Int × List Edge × Int=>oT c (t,a,b) s.1 s.2.1 s.2.2.1 s.2.2.2) vm.toNat (fun k (q:Int × Int × List Edge)=>(q.1,q.2.1,q.2.2,vm - (k:Int))) (fun k q=>(∀ e∈q.2.2,tA t.N t.L.length e)/\q.2.2.length<=55+k/\am<=q.1/\q.1<=am+4 * k)
   (fun r=>(∀ e∈r.1,tA t.N t.L.length e)/\r.1.length<=60/\am<=r.2.1/\r.2.1<=am+20) (fun k q hk hI=>?_) (fun q hI=>?_) vm.toNat 0 (am,bm,E) (by omega) ⟨g1,by simp only;omega,by simp,by simp⟩
  ·obtain ⟨⟨F,a2,b2⟩,h2,q1,q2,q3,q4⟩:=key2
   simp only at q1 q2 q3 q4
   have h2':loop (fun s:Int × Int × List Edge × Int=>oT c (t,a,b) s.1 s.2.1 s.2.2.1 s.2.2.2) (am,bm,E,vm)=some (F,a2,b2):=by simpa using h2
   obtain ⟨t',m1,m2,m3,m4⟩:=aGT (T:=t.L) (fun s hs=>y.nm s hs) (by have:=hlab.2.1;omega) (st:=t.N) (ini:=t.I) (by have:=y.st;omega) (by omega) (edges:=F) (by omega) (fun e he=>by have:=q1 e he;unfold tA at this;exact ⟨this.1,this.2.1,this.2.2⟩)
   unfold pG
   rw [x,aA,h1',aA]
   unfold wJ
   rw [xm,aA,h2',aA]
   unfold aBt
   rw [m1,aA]
   exact ⟨_,_,_,rfl,⟨m2.mono q2,by omega⟩,by simp only;omega,by simp only;omega⟩
  ·obtain ⟨x2,y2,o⟩:=q
   obtain ⟨i1,i2,i3,i4⟩:=hI
   simp only at i1 i2 i3 i4 ⊢
   obtain ⟨v1,t1,t1',p1,p1',p1'',p1'''⟩:=eK c y2 (s1:=x2) (n:=t.N) (by omega) (by omega)
   obtain ⟨v2,t2,t2',p2,p2',p2'',p2'''⟩:=eK c t1' (s1:=t1) (n:=t.N) (by omega) (by omega)
   unfold oT
   rw [if_pos (by simp;omega),p1,aA,p2,aA,cE (by simp [gQ];omega),aA]
   have hw:wr (vm - (k:Int) - 1)=vm - ((k+1:Nat):Int):=by rw [cF (by omega) (by omega)];omega
   rw [hw]
   refine ⟨(t2,t2',_),rfl,fun e he=>?_,by simp;omega,by simp only;omega,by simp only;omega⟩
   rcases List.mem_append.1 he with he|he
   ·exact i1 e he
   ·rw [List.mem_singleton] at he
    subst he
    exact ⟨p1',p2',by simp only;have:=hlab.1;omega⟩
  ·obtain ⟨x2,y2,o⟩:=q
   obtain ⟨i1,i2,i3,i4⟩:=hI
   simp only at i1 i2 i3 i4 ⊢
   refine ⟨(o,x2,y2),?_,i1,by simp only;omega,i3,by simp only;omega⟩
   unfold oT
   rw [if_neg (by simp;omega)]
 ·obtain ⟨x2,y2,o⟩:=q
  obtain ⟨i1,i2,i3,i4⟩:=hI
  simp only at i1 i2 i3 i4 ⊢
  have he:=hin _ (List.getElem_mem hk)
  obtain ⟨bb,ao,bo,xo,zo,wo⟩:=aEZ c y2 (s1:=x2) (n:=3) (by omega) (by omega)
  have hw:wr ((k:Int)+1)=((k+1:Nat):Int):=bI hk (by omega)
  unfold oU
  rw [if_pos (bU hk),bK hk,aA,xo,aA]
  have hgo:∀ l:Int,0<=l/\l < t.L.length->∃ q':Int × Int × List Edge,rQ o (k:Int) t.E[k] ao bo l=some (.inl (q'.1,q'.2.1,q'.2.2,((k+1:Nat):Int)))/\(∀ e∈q'.2.2,tA t.N t.L.length e)/\q'.2.2.length<=k+1/\a<=q'.1/\q'.1<=a+2 * ((k+1:Nat):Int):=by
   intro l hl
   unfold rQ
   rw [cE (by simp [gQ];omega),aA,hw]
   refine ⟨(ao,bo,_),rfl,fun e he'=>?_,by simp;omega,by simp only;omega,by simp only;omega⟩
   rcases List.mem_append.1 he' with he'|he'
   ·exact i1 e he'
   ·rw [List.mem_singleton] at he'
    subst he'
    exact ⟨he.1,he.2.1,hl⟩
  simp only
  cases bb with
  |false=>rw [if_neg (by simp)];exact hgo _ he.2.2
  |true=>rw [if_pos rfl];exact hgo 0 (by have:=hlab.1;omega)
 ·obtain ⟨x2,y2,o⟩:=q
  obtain ⟨i1,i2,i3,i4⟩:=hI
  simp only at i1 i2 i3 i4 ⊢
  refine ⟨(x2,y2,o),?_,i1,by simp only;omega,i3,by simp only;omega⟩
  unfold oU
  rw [if_neg (by simp)]
end Gv
namespace Gv
open Go
theorem aJr (a b:List Int) (h:a.length < 4611686018427387904):vK a b=some (decide (a=b)):=by
 unfold vK
 by_cases hl:a.length=b.length
 ·rw [if_neg (by simp [hl])]
  have:=aIL (step:=fun s=>aAN a b s) (a.zip b) (fun p=>decide (p.1=p.2)) (.inr false) (.inl ()) (fun k x hk hx=>?_) ?_
  ·rw [this,aA]
   by_cases he:a=b
   ·subst he
    have:((a.zip a).all fun p=>decide (p.1=p.2))=true:=by
     rw [List.all_eq_true]
     intro p hp
     obtain ⟨i,hi,rfl⟩:=List.mem_iff_getElem.1 hp
     rw [List.getElem_zip];simp
    rw [if_pos this,decide_eq_true rfl];rfl
   ·have:¬ ((a.zip b).all fun p=>decide (p.1=p.2))=true:=fun h'=>he (List.ext_getElem hl fun i h1 h2=>by
     rw [List.all_eq_true] at h'
     have hiz:i < (a.zip b).length:=by rw [List.length_zip];omega
     have:=h' (a.zip b)[i] (List.getElem_mem hiz)
     rw [List.getElem_zip] at this
     simpa using this)
    rw [if_neg this,decide_eq_false he]
  ·have hzl:(a.zip b).length=a.length:=by rw [List.length_zip];omega
   rw [hzl] at hk
   obtain ⟨hk',rfl⟩:=aGb hx
   unfold aAN
   rw [if_pos (bU hk),bK hk,aA,bK (by omega),aA,List.getElem_zip]
   by_cases e:a[k]=b[k]'(by omega)
   ·rw [if_neg (by simp [e]),if_pos (by simp [e]),bI hk h]
   ·rw [if_pos (by simpa using e),if_neg (by simpa using e)]
  ·have hzl:(a.zip b).length=a.length:=by rw [List.length_zip];omega
   rw [hzl]
   unfold aAN
   rw [if_neg (by simp)]
 ·rw [if_pos (by simp;omega),decide_eq_false (fun h=>hl (by rw [h]))]
theorem put_ok (l:List Int) (n:Int) (hl:l.length<=1000000):∃ l',aDa l n=some l'/\l'.length<=l.length+1:=by
 have key:=bZ (step:=fun s:List Int × Bool × Int=>rJ l n s.1 s.2.1 s.2.2) l.length (fun k (a:List Int × Bool)=>(a.1,a.2,(k:Int))) (fun k a=>a.1.length<=k+(if a.2=true then 1 else 0)) (fun r=>r.1.length<=l.length+(if r.2=true then 1 else 0)) (fun k a hk hI=>?_) (fun a hI=>?_) l.length 0 ([],false) (by omega) (by simp)
 ·obtain ⟨⟨o,d⟩,h1,h2⟩:=key
  have h1':loop (fun s:List Int × Bool × Int=>rJ l n s.1 s.2.1 s.2.2) (([]:List Int),false,0)=some (o,d):=h1
  unfold aDa
  rw [h1',aA]
  unfold aCl aCk
  simp only at h2 ⊢
  cases d with
  |true=>rw [if_neg (by simp)];exact ⟨_,rfl,by simpa using h2⟩
  |false=>
   simp at h2
   rw [if_pos (by simp),cE (by simp [gQ];omega),aA]
   exact ⟨_,rfl,by simp;omega⟩
 ·obtain ⟨o,d⟩:=a
  simp only at hI ⊢
  have hw:wr ((k:Int)+1)=((k+1:Nat):Int):=bI hk (by omega)
  have h3:∀ o':List Int,∀ d',o'.length<=2000000->vL l (k:Int) o' d'=some (.inl (o'++[l[k]],d',((k+1:Nat):Int))):=fun o' d' ho=>by
   unfold vL
   rw [bK hk,aA,cE (by simp [gQ];omega),aA,hw]
  have ho:o.length<=k+1:=by
   cases d<;>simp at hI<;>omega
  unfold rJ
  rw [if_pos (bU hk)]
  have h4:∀ v:Bool,(v=true->d=false)->∃ a':List Int × Bool,vM l n o d (k:Int) v=some (.inl (a'.1,a'.2,((k+1:Nat):Int)))/\a'.1.length<=(k+1)+(if a'.2=true then 1 else 0):=by
   intro v hv
   unfold vM
   cases v with
   |false=>
    rw [if_neg (by simp),h3 o d (by omega)]
    exact ⟨(o++[l[k]],d),rfl,by simp only [List.length_append,List.length_singleton];omega⟩
   |true=>
    have:=hv rfl
    subst this
    simp at hI
    rw [if_pos rfl,bK hk,aA]
    split
    ·rw [cE (by simp [gQ];omega),aA,h3 _ true (by simp;omega)]
     exact ⟨(_,true),rfl,by simp;omega⟩
    ·rw [h3 o true (by omega)]
     exact ⟨(_,true),rfl,by simp;omega⟩
  cases d with
  |true=>rw [if_neg (by simp)];exact h4 false (by simp)
  |false=>
   rw [if_pos (by simp),bK hk,aA]
   exact h4 _ fun _=>rfl
 ·obtain ⟨o,d⟩:=a
  refine ⟨(o,d),?_,hI⟩
  show rJ l n o d (l.length:Int)=_
  unfold rJ
  rw [if_neg (by simp)]
section
variable {u:bQ} {p:List Int}
theorem sign_ok (hu:Big u) (hp:fE u p) (k:Int):∃ l,aDc u p k=some l/\l.length<=1000:=by
 have h5:=hu.ed
 have key:=bZ (step:=fun s:List Int × Int=>nA u p k s.1 s.2) u.E.length (fun i (a:List Int)=>(a,(i:Int))) (fun i a=>a.length<=i) (fun r=>r.length<=1000) (fun i a hi hI=>?_) (fun a hI=>?_) u.E.length 0 [] (by omega) (by simp)
 ·obtain ⟨l,h1,h2⟩:=key
  have h1':loop (fun s:List Int × Int=>nA u p k s.1 s.2) (([]:List Int),0)=some l:=h1
  unfold aDc
  rw [h1',aA]
  exact ⟨l,rfl,h2⟩
 ·have he:=hu.inn _ (List.getElem_mem hi)
  have hw:wr ((i:Int)+1)=((i+1:Nat):Int):=bI hi (by omega)
  show ∃ a',nA u p k a (i:Int)=_/\_
  unfold nA wD
  rw [if_pos (bU hi),bK hi,aA]
  split
  ·rw [(mF hp he.2.1).1,aA]
   obtain ⟨l',h1,h2⟩:=put_ok a (wr (wr (u.E[i].B * (p.length:Int))+p.getD u.E[i].To.toNat 0)) (by omega)
   rw [h1,aA,hw]
   exact ⟨l',rfl,by omega⟩
  ·rw [hw]
   exact ⟨a,rfl,by omega⟩
 ·refine ⟨a,?_,by omega⟩
  show nA u p k a (u.E.length:Int)=_
  unfold nA
  rw [if_neg (by simp)]
end
def kz (p:List Int) (rows:List (List Int)):List (List Int):=List.zipWith (fun a r=>a::r) p rows
section
variable {p:List Int} {rows:List (List Int)}
theorem aCM (h:rows.length=p.length):(kz p rows).length=p.length:=by unfold kz;simp [h]
theorem aKY (h:rows.length=p.length) {k:Nat} (hk:k < p.length):(kz p rows)[k]'(by rw [aCM h];exact hk)=p[k]::rows[k]'(by omega):=by unfold kz;simp
theorem num_inner (hl:rows.length=p.length) (hs:p.length<=1000) (hr:∀ r∈rows,r.length<=100000) {k:Nat} (hk:k < p.length):
  loop (fun s:Int × Int=>lU p rows (cn ((kz p rows).take k)) (k:Int) s.1 s.2) (-1,0)=some (if (kz p rows)[k]'(by rw [aCM hl];exact hk)∈(kz p rows).take k then pos (dd ((kz p rows).take k)) ((kz p rows)[k]'(by rw [aCM hl];exact hk)) else -1):=by
 have hkz:=aCM hl
 have hkk:k < (kz p rows).length:=by omega
 have hcl:(cn ((kz p rows).take k)).length=k:=by rw [yD,List.length_take];omega
 have key:=tP (step:=fun s:Int × Int=>lU p rows (cn ((kz p rows).take k)) (k:Int) s.1 s.2)
  (fun s=>∃ j:Nat,s.2=(j:Int)/\j<=k/\((s.1=-1/\∀ i,(hi:i < j)->(hj:j<=k)->(kz p rows)[i]'(by omega)≠(kz p rows)[k])\/((kz p rows)[k]∈(kz p rows).take k/\s.1=pos (dd ((kz p rows).take k)) (kz p rows)[k])))
  (fun s=>k+1 - s.2.toNat) (fun r=>r=if (kz p rows)[k]∈(kz p rows).take k then pos (dd ((kz p rows).take k)) (kz p rows)[k] else -1) (fun s hI=>?_) (s:=(-1,0)) ⟨0,rfl,Nat.zero_le _,.inl ⟨rfl,fun i hi=>by omega⟩⟩
 ·obtain ⟨r,h1,h2⟩:=key
  rw [h1,h2]
 ·obtain ⟨n,jj⟩:=s
  obtain ⟨j,rfl,hjk,hI⟩:=hI
  simp only at hI ⊢
  have hout:lT p rows (cn ((kz p rows).take k)) (k:Int) n (j:Int) false=some (.inr n):=by unfold lT;rw [if_neg (by simp)]
  rcases hI with ⟨rfl,hno⟩|⟨hin,rfl⟩
  ·by_cases hj:j < k
   ·left
    have hw:wr ((j:Int)+1)=((j+1:Nat):Int):=bI hj (by omega)
    have hjp:j < p.length:=by omega
    have e1:=aKY hl hjp
    have e2:=aKY hl hk
    unfold lU
    rw [if_pos (bU hj),show decide ((-1:Int) < 0)=true from rfl]
    unfold lT
    rw [if_pos rfl,bK hjp,aA,bK hk,aA]
    have hgo:oR (cn ((kz p rows).take k)) (-1) (j:Int) false=some (.inl (-1,((j+1:Nat):Int))):=by
     unfold oR oQ
     rw [if_neg (by simp),hw]
    have hstay:(kz p rows)[j]'(by omega)≠(kz p rows)[k]->∃ j':Nat,((j+1:Nat):Int)=(j':Int)/\j'<=k/\(((-1:Int)=-1/\∀ i,(hi:i < j')->(hj:j'<=k)->(kz p rows)[i]'(by omega)≠(kz p rows)[k])\/((kz p rows)[k]∈(kz p rows).take k/\(-1:Int)=pos (dd ((kz p rows).take k)) (kz p rows)[k])):=fun hne=>by
     refine ⟨j+1,rfl,hj,.inl ⟨rfl,fun i hi _=>?_⟩⟩
     by_cases e:i=j
     ·subst e;exact hne
     ·exact hno i (by omega) hjk
    by_cases hp:p[j]=p[k]
    ·rw [if_pos (by simpa using hp),bK (show j < rows.length by omega),aA,bK (show k < rows.length by omega),aA,aJr _ _ (by have:=hr _ (List.getElem_mem (show j < rows.length by omega));omega),aA]
     by_cases hrr:rows[j]'(by omega)=rows[k]'(by omega)
     ·have hkey:(kz p rows)[j]'(by omega)=(kz p rows)[k]:=by rw [e1,e2,hp,hrr]
      have hin:(kz p rows)[k]∈(kz p rows).take k:=by
       rw [←hkey,List.mem_take_iff_getElem]
       exact ⟨j,by omega,rfl⟩
      have hc:(cn ((kz p rows).take k))[j]?=some (pos (dd ((kz p rows).take k)) (kz p rows)[k]):=by
       rw [aHy (show j < ((kz p rows).take k).length by rw [List.length_take];omega),List.getElem_take,hkey]
      rw [hrr]
      unfold oR oQ
      rw [decide_eq_true rfl,if_pos rfl,aBb,hc]
      show ∃ s',ob (some _) _=_/\_
      rw [aA,hw]
      exact ⟨(_,((j+1:Nat):Int)),rfl,⟨j+1,rfl,hj,.inr ⟨hin,rfl⟩⟩,by simp only;omega⟩
     ·rw [decide_eq_false hrr,hgo]
      refine ⟨(-1,((j+1:Nat):Int)),rfl,hstay (fun e=>?_),by simp only;omega⟩
      rw [e1,e2,List.cons.injEq] at e
      exact hrr e.2
    ·rw [if_neg (by simpa using hp),hgo]
     refine ⟨(-1,((j+1:Nat):Int)),rfl,hstay (fun e=>?_),by simp only;omega⟩
     rw [e1,e2,List.cons.injEq] at e
     exact hp e.1
   ·right
    obtain rfl:j=k:=by omega
    refine ⟨-1,?_,?_⟩
    ·unfold lU
     rw [if_neg (by simp),hout]
    ·rw [if_neg]
     rw [List.mem_take_iff_getElem]
     rintro ⟨i,hi,e⟩
     exact hno i (by omega) (Nat.le_refl _) e
  ·right
   refine ⟨_,?_,by rw [if_pos hin]⟩
   have hpos:0<=pos (dd ((kz p rows).take k)) (kz p rows)[k]:=aAR.2 (yC.2 hin)
   unfold lU
   rw [show decide (pos (dd ((kz p rows).take k)) (kz p rows)[k] < 0)=false from decide_eq_false (by omega),hout]
   split<;>rfl
theorem num_eq (hl:rows.length=p.length) (hs:p.length<=1000) (hr:∀ r∈rows,r.length<=100000):mO p rows=some (cn (kz p rows)):=by
 have hkz:=aCM hl
 have key:=bZ (step:=fun s:List Int × Int × Int=>jT p rows s.1 s.2.1 s.2.2) p.length (fun k (a:List Int × Int)=>(a.1,a.2,(k:Int))) (fun k a=>a.1=cn ((kz p rows).take k)/\a.2=((dd ((kz p rows).take k)).length:Int)) (fun r=>r=cn (kz p rows)) (fun k a hk hI=>?_) (fun a hI=>?_) p.length 0 ([],0) (by omega) ⟨rfl,rfl⟩
 ·obtain ⟨r,h1,rfl⟩:=key
  have h1':loop (fun s:List Int × Int × Int=>jT p rows s.1 s.2.1 s.2.2) (([]:List Int),0,0)=some (cn (kz p rows)):=h1
  unfold mO
  rw [h1',aA];rfl
 ·obtain ⟨o,m⟩:=a
  obtain ⟨rfl,rfl⟩:=hI
  have hkk:k < (kz p rows).length:=by omega
  have hcl:(cn ((kz p rows).take k)).length=k:=by rw [yD,List.length_take];omega
  have hw:wr ((k:Int)+1)=((k+1:Nat):Int):=bI hk (by omega)
  have e1:(kz p rows).take (k+1)=(kz p rows).take k++[(kz p rows)[k]]:=by rw [List.take_add_one,List.getElem?_eq_getElem hkk];rfl
  have hdl:(dd ((kz p rows).take k)).length<=1000:=by
   have h2:(dd ((kz p rows).take k)).length<=((kz p rows).take k).length:=by
    have:∀ (l:List (List Int)),(dd l).length<=l.length:=by
     intro l
     unfold dd
     have hg:∀ (m F:List (List Int)),(m.foldl (aBP id) F).length<=F.length+m.length:=by
      intro m
      induction m with
      |nil=>intro F;simp
      |cons x m ih=>
       intro F
       have:=ih (aBP id F x)
       have h3:=aMa (key:=id) F x
       simp only [List.foldl_cons,List.length_cons];omega
     have:=hg l []
     simpa using this
    exact this _
   rw [List.length_take] at h2;omega
  show ∃ a':List Int × Int,jT p rows (cn ((kz p rows).take k)) _ (k:Int)=_/\_
  unfold jT
  rw [if_pos (bU hk),num_inner hl hs hr hk,aA,e1,aIk,aFo,aJk]
  unfold wG wF wE
  by_cases hin:(kz p rows)[k]∈(kz p rows).take k
  ·have hpos:0<=pos (dd ((kz p rows).take k)) (kz p rows)[k]:=aAR.2 (yC.2 hin)
   rw [if_pos hin,if_neg (by simp;omega),cE (by simp [gQ];omega),aA,hw,if_pos (yC.2 hin)]
   refine ⟨(_,_),rfl,rfl,?_⟩
   have:aBP id (dd ((kz p rows).take k)) (kz p rows)[k]=dd ((kz p rows).take k):=by
    unfold aBP
    rw [if_pos (by rw [List.map_id];exact yC.2 hin)]
   simp only [this]
  ·rw [if_neg hin,if_pos (by simp),cE (by simp [gQ];omega),aA,hw,if_neg (fun h=>hin (yC.1 h))]
   refine ⟨(_,_),rfl,rfl,?_⟩
   have:aBP id (dd ((kz p rows).take k)) (kz p rows)[k]=dd ((kz p rows).take k)++[(kz p rows)[k]]:=by
    unfold aBP
    rw [if_neg (by rw [List.map_id];exact fun h=>hin (yC.1 h))]
   simp only [this,List.length_append,List.length_singleton]
   first
    |omega
    |(rw [cF (by omega) (by omega)];omega)
 ·obtain ⟨o,m⟩:=a
  obtain ⟨rfl,rfl⟩:=hI
  refine ⟨_,?_,rfl⟩
  show jT p rows (cn ((kz p rows).take p.length)) _ (p.length:Int)=_
  unfold jT
  rw [if_neg (by simp),List.take_of_length_le (by omega)]
theorem aKs (hl:rows.length=p.length):aGf (cn (kz p rows)) p:=
 aHQ (aCM hl) fun x y hx hy h=>by
  rw [List.getElem?_eq_getElem (by rw [aCM hl];exact hx),List.getElem?_eq_getElem (by rw [aCM hl];exact hy),aKY hl hx,aKY hl hy,Option.some.injEq,List.cons.injEq] at h
  rw [List.getElem?_eq_getElem hx,List.getElem?_eq_getElem hy,h.1]
end
section
variable {u:bQ} {p:List Int}
theorem aMn (hu:Big u) (hp:fE u p):∃ q,zJ u p=some q/\fE u q/\cn q=q/\aGf q p:=by
 have h3:=hu.st
 have key:=bZ (step:=fun s:List (List Int) × Int=>iY u p s.1 s.2) u.N.toNat (fun k (a:List (List Int))=>(a,(k:Int))) (fun k a=>a.length=k/\∀ r∈a,r.length<=1000) (fun r=>r.length=u.N.toNat/\∀ x∈r,x.length<=1000) (fun k a hk hI=>?_) (fun a hI=>?_) u.N.toNat 0 [] (by omega) ⟨rfl,by simp⟩
 ·obtain ⟨rows,h1,h2,h4⟩:=key
  have h1':loop (fun s:List (List Int) × Int=>iY u p s.1 s.2) (([]:List (List Int)),0)=some rows:=h1
  unfold zJ
  have hl:rows.length=p.length:=by rw [h2,hp.1]
  rw [h1',aA,num_eq hl (by rw [hp.1];omega) (fun r hr=>by have:=h4 r hr;omega)]
  exact ⟨_,rfl,aKW hu (by rw [aCM hl,hp.1]),cn_cn _,aKs hl⟩
 ·obtain ⟨g1,g2⟩:=hI
  obtain ⟨l,e,hl⟩:=sign_ok hu hp (k:Int)
  have hw:wr ((k:Int)+1)=((k+1:Nat):Int):=bI hk (by omega)
  show ∃ a',iY u p a (k:Int)=_/\_
  unfold iY
  rw [if_pos (by simp;omega),e,aA,cE (by simp [gQ];omega),aA,hw]
  refine ⟨_,rfl,by simp;omega,fun r hr=>?_⟩
  rcases List.mem_append.1 hr with hr|hr
  ·exact g2 r hr
  ·simp at hr;subst hr;exact hl
 ·refine ⟨a,?_,hI⟩
  show iY u p a ((u.N.toNat:Nat):Int)=_
  unfold iY
  rw [if_neg (by simp;omega)]
theorem part0 (hu:Big u):mkz u.N (0:Int)=some (List.replicate u.N.toNat 0)/\fE u (List.replicate u.N.toNat 0):=by
 have h3:=hu.st
 refine ⟨?_,by simp,fun z hz=>by rw [List.mem_replicate] at hz;omega⟩
 unfold mkz
 rw [if_pos ⟨by omega,by unfold gQ;omega⟩]
theorem aMo (hu:Big u):∃ p n,zM u=some (p,n)/\fE u p:=by
 obtain ⟨hm,h0⟩:=part0 hu
 have h3:=hu.st
 unfold zM
 rw [hm,aA]
 have key:=aGg (step:=fun s:List Int × Int=>lV u s.1 s.2) u.N.toNat (fun p s=>s.1=p/\fE u p) (fun r=>fE u r.1) (fun p s hl hc hI=>?_) (List.replicate u.N.toNat 0) (List.replicate u.N.toNat 0,0) (by simp) (aJo _) ⟨rfl,h0⟩
 ·obtain ⟨⟨p,n⟩,h1,h2⟩:=key
  rw [h1,aA]
  exact ⟨p,n,rfl,h2⟩
 ·obtain ⟨q,n⟩:=s
  obtain ⟨rfl,hp⟩:=hI
  obtain ⟨r,e,g1,g2,g3⟩:=aMn hu hp
  have hstep:lV u q n=if decide (r=q)=true then some (.inr (q,n)) else some (.inl (r,wr (n+1))):=by
   unfold lV
   rw [e,aA,aJr _ _ (by rw [g1.1];omega),aA]
  show (∃ x,lV u q n=_/\_)\/_
  by_cases h:r=q
  ·left
   rw [hstep,if_pos (by simpa using h)]
   exact ⟨_,rfl,hp⟩
  ·right
   refine ⟨r,(r,wr (n+1)),g3,g2,h,?_,rfl,g1⟩
   show lV u q n=_
   rw [hstep,if_neg (by simpa using h)]
theorem part13_ok (hu:Big u):∃ p,aFj u=some p/\fE u p:=by
 obtain ⟨p,n,h1,h2⟩:=aMo hu
 exact ⟨p,by unfold aFj;rw [h1,aA],h2⟩
end
end Gv
namespace Gv
open Go
section
variable {u:bQ} {p:List Int}
theorem aGU (hu:Big u) (hp:fE u p) {e:Edge} (he:e∈u.E):∃ b,rH e p=some b:=by
 have h:=hu.inn e he
 unfold rH yL
 split
 ·rw [(mF hp h.1).1,aA,(mF hp h.2.1).1,aA]
  exact ⟨_,rfl⟩
 ·exact ⟨_,rfl⟩
def cnt (l:List Bool):Nat:=l.count true
theorem cnt_le (l:List Bool):cnt l<=l.length:=List.count_le_length
theorem cnt_off {l:List Bool} {k:Nat} (hk:k < l.length) (h:l[k]=true):cnt (l.set k false) < cnt l:=by
 unfold cnt
 rw [List.count_set hk,h]
 have:0 < l.count true:=List.count_pos_iff.2 (h ▸ List.getElem_mem hk)
 simp;omega
theorem cnt_on {l:List Bool} {k:Nat} (hk:k < l.length) (h:l[k]=false):cnt l < cnt (l.set k true):=by
 unfold cnt
 rw [List.count_set hk,h]
 simp
theorem ixB {l:List Bool} {s:Int} (hl:l.length=u.N.toNat) (hs:mJ u s):∃ hk:s.toNat < l.length,ix l s=some l[s.toNat]:=by
 unfold mJ at hs
 exact ⟨by omega,aDW hs.1 (by omega)⟩
theorem div_goes (hu:Big u) (hp:fE u p) {al:List Bool} (hl:al.length=u.N.toNat) (k:Int):∃ b,loop (fun s:Bool × Int=>iW u p al k s.1 s.2) (false,0)=some b:=by
 have h5:=hu.ed
 have key:=bZ (step:=fun s:Bool × Int=>iW u p al k s.1 s.2) u.E.length (fun i (a:Bool)=>(a,(i:Int))) (fun _ _=>True) (fun _=>True) (fun i a hi _=>?_) (fun a _=>?_) u.E.length 0 false (by omega) trivial
 ·obtain ⟨b,h1,_⟩:=key
  exact ⟨b,h1⟩
 ·have he:=List.getElem_mem hi
  have hin:=hu.inn _ he
  have hw:wr ((i:Int)+1)=((i+1:Nat):Int):=bI hi (by omega)
  have hj:∀ b,iV (i:Int) b=some (.inl (b,((i+1:Nat):Int))):=fun b=>by unfold iV;rw [hw]
  show ∃ a',iW u p al k a (i:Int)=_/\_
  unfold iW
  rw [if_pos (bU hi),bK hi,aA]
  split
  ·exact ⟨_,hj _,trivial⟩
  ·split
   ·obtain ⟨b,hb⟩:=aGU hu hp he
    rw [hb,aA]
    split
    ·obtain ⟨_,h2⟩:=ixB hl hin.2.1
     rw [h2,aA]
     exact ⟨_,hj _,trivial⟩
    ·exact ⟨_,hj _,trivial⟩
   ·exact ⟨_,hj _,trivial⟩
 ·refine ⟨a,?_,trivial⟩
  show iW u p al k a (u.E.length:Int)=_
  unfold iW
  rw [if_neg (by simp)]
theorem div_round (hu:Big u) (hp:fE u p) {al:List Bool} (hl:al.length=u.N.toNat):∃ al' m,loop (fun s:List Bool × Bool × Int=>kL u p s.1 s.2.1 s.2.2) (al,false,0)=some (al',m)/\al'.length=u.N.toNat/\cnt al'<=cnt al/\(m=true->cnt al' < cnt al):=by
 have h3:=hu.st
 have key:=bZ (step:=fun s:List Bool × Bool × Int=>kL u p s.1 s.2.1 s.2.2) u.N.toNat (fun k (a:List Bool × Bool)=>(a.1,a.2,(k:Int))) (fun _ a=>a.1.length=u.N.toNat/\cnt a.1<=cnt al/\(a.2=true->cnt a.1 < cnt al)) (fun r=>r.1.length=u.N.toNat/\cnt r.1<=cnt al/\(r.2=true->cnt r.1 < cnt al)) (fun k a hk hI=>?_) (fun a hI=>?_) u.N.toNat 0 (al,false) (by omega) ⟨hl,Nat.le_refl _,fun h=>by cases h⟩
 ·obtain ⟨⟨al',m⟩,h1,h2⟩:=key
  exact ⟨al',m,h1,h2⟩
 ·obtain ⟨b,m⟩:=a
  obtain ⟨g1,g2,g3⟩:=hI
  simp only at g1 g2 g3 ⊢
  have hw:wr ((k:Int)+1)=((k+1:Nat):Int):=bI hk (by omega)
  have hkb:k < b.length:=by omega
  have hj:∀ c n,kK (k:Int) c n=some (.inl (c,n,((k+1:Nat):Int))):=fun c n=>by unfold kK;rw [hw]
  unfold kL
  rw [if_pos (by simp;omega),bK hkb,aA]
  by_cases hb:b[k]=true
  ·rw [if_neg (by simp [hb])]
   obtain ⟨c,hc⟩:=div_goes hu hp g1 (k:Int)
   rw [hc,aA]
   unfold uL
   cases c with
   |true=>rw [if_neg (by simp),hj];exact ⟨(b,m),rfl,g1,g2,g3⟩
   |false=>
    have hst:st b (k:Int) false=some (b.set k false):=by
     unfold Gv.st
     rw [if_pos ⟨by omega,by omega⟩,Int.toNat_natCast]
    have hlt:=cnt_off hkb hb
    rw [if_pos (by simp),hst,aA,hj]
    exact ⟨(b.set k false,true),rfl,by simp only [List.length_set];exact g1,by simp only;omega,fun _=>by simp only;omega⟩
  ·rw [if_pos (by simp [hb]),hj]
   exact ⟨(b,m),rfl,g1,g2,g3⟩
 ·obtain ⟨b,m⟩:=a
  refine ⟨(b,m),?_,hI⟩
  show kL u p b m ((u.N.toNat:Nat):Int)=_
  unfold kL
  rw [if_neg (by simp;omega)]
theorem aJs (hu:Big u) (hp:fE u p):∃ al,sQ u p=some al/\al.length=u.N.toNat:=by
 have h3:=hu.st
 have hm:mkz u.N false=some (List.replicate u.N.toNat false):=by
  unfold mkz
  rw [if_pos ⟨by omega,by unfold gQ;omega⟩]
 unfold sQ
 rw [hm,aA]
 have key:=bZ (step:=fun s:List Bool × Int=>gY u s.1 s.2) u.N.toNat (fun k (a:List Bool)=>(a,(k:Int))) (fun _ a=>a.length=u.N.toNat) (fun r=>r.length=u.N.toNat) (fun k a hk hI=>?_) (fun a hI=>?_) u.N.toNat 0 (List.replicate u.N.toNat false) (by omega) (by simp)
 ·obtain ⟨al,h1,h2⟩:=key
  have h1':loop (fun s:List Bool × Int=>gY u s.1 s.2) (List.replicate u.N.toNat false,0)=some al:=h1
  rw [h1',aA]
  unfold sP aAl
  have key2:=tP (step:=fun s:List Bool × Bool=>mL u p s.1 s.2) (fun s=>s.1.length=u.N.toNat) (fun s=>2 * cnt s.1+(if s.2=true then 1 else 0)) (fun r=>r.length=u.N.toNat) (fun s hI=>?_) (s:=(al,true)) h2
  ·obtain ⟨r,h3,h4⟩:=key2
   rw [h3,aA]
   exact ⟨r,rfl,h4⟩
  ·obtain ⟨x,m⟩:=s
   show (∃ s',mL u p x m=_/\_)\/_
   cases m with
   |false=>right;exact ⟨x,by unfold mL;rw [if_neg (by simp)],hI⟩
   |true=>
    left
    obtain ⟨al',m',e,g1,g2,g3⟩:=div_round hu hp hI
    have g2:cnt al'<=cnt x:=g2
    have g3:m'=true->cnt al' < cnt x:=g3
    refine ⟨(al',m'),?_,g1,?_⟩
    ·unfold mL
     rw [if_pos rfl,e,aA];rfl
    ·show 2 * cnt al'+(if m'=true then 1 else 0) < 2 * cnt x+(if true=true then 1 else 0)
     rw [if_pos rfl]
     cases m' with
     |false=>rw [if_neg (by simp)];omega
     |true=>have:=g3 rfl;rw [if_pos rfl];omega
 ·have hw:wr ((k:Int)+1)=((k+1:Nat):Int):=bI hk (by omega)
  have hka:k < a.length:=by omega
  show ∃ a',gY u a (k:Int)=_/\_
  unfold gY
  have hst:st a (k:Int) true=some (a.set k true):=by
   unfold Gv.st
   rw [if_pos ⟨by omega,by omega⟩,Int.toNat_natCast]
  rw [if_pos (by simp;omega),bK hka,aA,hst,aA,hw]
  exact ⟨_,rfl,by simp only [List.length_set];exact hI⟩
 ·refine ⟨a,?_,hI⟩
  show gY u a ((u.N.toNat:Nat):Int)=_
  unfold gY
  rw [if_neg (by simp;omega)]
theorem aMp (hu:Big u) (hp:fE u p) {al:List Bool} (hl:al.length=u.N.toNat):∃ al' m,loop (fun s:List Bool × Bool × Int=>nW u p s.1 s.2.1 s.2.2) (al,false,0)=some (al',m)/\al'.length=u.N.toNat/\cnt al<=cnt al'/\(m=true->cnt al < cnt al'):=by
 have h5:=hu.ed
 have key:=bZ (step:=fun s:List Bool × Bool × Int=>nW u p s.1 s.2.1 s.2.2) u.E.length (fun k (a:List Bool × Bool)=>(a.1,a.2,(k:Int))) (fun _ a=>a.1.length=u.N.toNat/\cnt al<=cnt a.1/\(a.2=true->cnt al < cnt a.1)) (fun r=>r.1.length=u.N.toNat/\cnt al<=cnt r.1/\(r.2=true->cnt al < cnt r.1)) (fun i a hi hI=>?_) (fun a hI=>?_) u.E.length 0 (al,false) (by omega) ⟨hl,Nat.le_refl _,fun h=>by cases h⟩
 ·obtain ⟨⟨al',m⟩,h1,h2⟩:=key
  exact ⟨al',m,h1,h2⟩
 ·obtain ⟨b,m⟩:=a
  obtain ⟨g1,g2,g3⟩:=hI
  simp only at g1 g2 g3 ⊢
  have he:=List.getElem_mem hi
  have hin:=hu.inn _ he
  have hw:wr ((i:Int)+1)=((i+1:Nat):Int):=bI hi (by omega)
  have hj:∀ c n,qJ (i:Int) c n=some (.inl (c,n,((i+1:Nat):Int))):=fun c n=>by unfold qJ;rw [hw]
  obtain ⟨_,f1⟩:=ixB g1 hin.1
  obtain ⟨hk,f2⟩:=ixB g1 hin.2.1
  have hT:=hin.2.1
  unfold mJ at hT
  have hno:lB b m (i:Int) u.E[i] false=some (.inl (b,m,((i+1:Nat):Int))):=by unfold lB;rw [if_neg (by simp),hj]
  unfold nW
  rw [if_pos (bU hi),bK hi,aA,f1,aA]
  split
  ·rw [f2,aA]
   by_cases hb:b[u.E[i].To.toNat]=true
   ·rw [if_neg (by simp [hb]),hno]
    exact ⟨(b,m),rfl,g1,g2,g3⟩
   ·have hb':b[u.E[i].To.toNat]=false:=by simpa using hb
    rw [if_pos (by simp [hb'])]
    obtain ⟨c,hc⟩:=aGU hu hp he
    rw [hc,aA]
    cases c with
    |false=>rw [hno];exact ⟨(b,m),rfl,g1,g2,g3⟩
    |true=>
     have hst:st b u.E[i].To true=some (b.set u.E[i].To.toNat true):=by
      unfold Gv.st
      rw [if_pos ⟨hT.1,by omega⟩]
     have hlt:=cnt_on hk hb'
     unfold lB
     rw [if_pos rfl,f2,aA,hst,aA,hj]
     exact ⟨(_,true),rfl,by simp only [List.length_set];exact g1,by simp only;omega,fun _=>by simp only;omega⟩
  ·rw [hno]
   exact ⟨(b,m),rfl,g1,g2,g3⟩
 ·obtain ⟨b,m⟩:=a
  refine ⟨(b,m),?_,hI⟩
  show nW u p b m (u.E.length:Int)=_
  unfold nW
  rw [if_neg (by simp)]
theorem reach_ok (hu:Big u) (hp:fE u p) {k:Int} (hk:mJ u k):∃ al,aBm u p k=some al/\al.length=u.N.toNat:=by
 have h3:=hu.st
 have hk':=hk
 unfold mJ at hk'
 have hm:mkz u.N false=some (List.replicate u.N.toNat false):=by
  unfold mkz
  rw [if_pos ⟨by omega,by unfold gQ;omega⟩]
 have hst:st (List.replicate u.N.toNat false) k true=some ((List.replicate u.N.toNat false).set k.toNat true):=by
  unfold Gv.st
  rw [if_pos ⟨hk'.1,by simp;omega⟩]
 obtain ⟨_,f⟩:=ixB (u:=u) (l:=List.replicate u.N.toNat false) (by simp) hk
 unfold aBm
 rw [hm,aA,f,aA,hst,aA]
 have key2:=tP (step:=fun s:List Bool × Bool=>qK u p s.1 s.2) (fun s=>s.1.length=u.N.toNat) (fun s=>2 * (u.N.toNat - cnt s.1)+(if s.2=true then 1 else 0)) (fun r=>r.length=u.N.toNat) (fun s hI=>?_) (s:=((List.replicate u.N.toNat false).set k.toNat true,true)) (by simp)
 ·obtain ⟨r,h3,h4⟩:=key2
  rw [h3,aA]
  exact ⟨r,rfl,h4⟩
 ·obtain ⟨x,m⟩:=s
  show (∃ s',qK u p x m=_/\_)\/_
  cases m with
  |false=>right;exact ⟨x,by unfold qK;rw [if_neg (by simp)],hI⟩
  |true=>
   left
   obtain ⟨al',m',e,g1,g2,g3⟩:=aMp hu hp hI
   have g2:cnt x<=cnt al':=g2
   have g3:m'=true->cnt x < cnt al':=g3
   have hle:cnt al'<=al'.length:=cnt_le al'
   refine ⟨(al',m'),?_,g1,?_⟩
   ·unfold qK
    rw [if_pos rfl,e,aA];rfl
   ·show 2 * (u.N.toNat - cnt al')+(if m'=true then 1 else 0) < 2 * (u.N.toNat - cnt x)+(if true=true then 1 else 0)
    rw [if_pos rfl]
    cases m' with
    |false=>rw [if_neg (by simp)];omega
    |true=>have:=g3 rfl;rw [if_pos rfl];omega
theorem offers_ok (hu:Big u) (hp:fE u p) {k:Int} (hk:mJ u k):∃ l,zF u p k=some l/\l.length<=1000:=by
 have h5:=hu.ed
 obtain ⟨al,e,hl⟩:=reach_ok hu hp hk
 unfold zF
 rw [e,aA]
 have key:=bZ (step:=fun s:List Int × Int=>jS u p al s.1 s.2) u.E.length (fun i (a:List Int)=>(a,(i:Int))) (fun i a=>a.length<=i) (fun r=>r.length<=1000) (fun i a hi hI=>?_) (fun a hI=>?_) u.E.length 0 [] (by omega) (by simp)
 ·obtain ⟨l,h1,h2⟩:=key
  have h1':loop (fun s:List Int × Int=>jS u p al s.1 s.2) (([]:List Int),0)=some l:=h1
  rw [h1',aA]
  exact ⟨l,rfl,h2⟩
 ·have he:=List.getElem_mem hi
  have hin:=hu.inn _ he
  have hw:wr ((i:Int)+1)=((i+1:Nat):Int):=bI hi (by omega)
  have hno:lS p a (i:Int) u.E[i] false=some (.inl (a,((i+1:Nat):Int))):=by
   unfold lS oO
   rw [if_neg (by simp),hw]
  obtain ⟨_,f1⟩:=ixB hl hin.1
  show ∃ a',jS u p al a (i:Int)=_/\_
  unfold jS
  rw [if_pos (bU hi),bK hi,aA,f1,aA]
  split
  ·obtain ⟨c,hc⟩:=aGU hu hp he
   rw [hc,aA]
   cases c with
   |true=>rw [show (!true)=false from rfl,hno];exact ⟨a,rfl,by omega⟩
   |false=>
    obtain ⟨l',h1,h2⟩:=put_ok a (wr (wr (u.E[i].B * (p.length:Int))+p.getD u.E[i].To.toNat 0)) (by omega)
    unfold lS oO
    rw [if_pos (by rfl),(mF hp hin.2.1).1,aA,h1,aA,hw]
    exact ⟨l',rfl,by omega⟩
  ·rw [hno];exact ⟨a,rfl,by omega⟩
 ·refine ⟨a,?_,by omega⟩
  show jS u p al a (u.E.length:Int)=_
  unfold jS
  rw [if_neg (by simp)]
theorem j10_same:@uM=@mO:=rfl
theorem aMq (hu:Big u) (hp:fE u p) (d:Bool):∃ q,zH u p d=some q/\fE u q/\cn q=q/\aGf q p:=by
 have h3:=hu.st
 obtain ⟨al,e,hal⟩:=aJs hu hp
 unfold zH
 rw [e,aA]
 have key:=bZ (step:=fun s:List (List Int) × Int=>iX u p d al s.1 s.2) u.N.toNat (fun k (a:List (List Int))=>(a,(k:Int))) (fun k a=>a.length=k/\∀ r∈a,r.length<=1001) (fun r=>r.length=u.N.toNat/\∀ x∈r,x.length<=1001) (fun k a hk hI=>?_) (fun a hI=>?_) u.N.toNat 0 [] (by omega) ⟨rfl,by simp⟩
 ·obtain ⟨rows,h1,h2,h4⟩:=key
  have h1':loop (fun s:List (List Int) × Int=>iX u p d al s.1 s.2) (([]:List (List Int)),0)=some rows:=h1
  have hl:rows.length=p.length:=by rw [h2,hp.1]
  rw [h1',aA,j10_same,num_eq hl (by rw [hp.1];omega) (fun r hr=>by have:=h4 r hr;omega)]
  exact ⟨_,rfl,aKW hu (by rw [aCM hl,hp.1]),cn_cn _,aKs hl⟩
 ·obtain ⟨g1,g2⟩:=hI
  have hkT:mJ u (k:Int):=by unfold mJ;omega
  obtain ⟨l,e,hl⟩:=offers_ok hu hp hkT
  obtain ⟨_,f⟩:=ixB hal hkT
  have hw:wr ((k:Int)+1)=((k+1:Nat):Int):=bI hk (by omega)
  have hgo:∀ r:List Int,r.length<=1001->∃ a',mM a (k:Int) r=some (.inl (a',((k+1:Nat):Int)))/\a'.length=k+1/\∀ r∈a',r.length<=1001:=by
   intro r hr
   unfold mM
   rw [cE (by simp [gQ];omega),aA,hw]
   refine ⟨_,rfl,by simp;omega,fun x hx=>?_⟩
   rcases List.mem_append.1 hx with hx|hx
   ·exact g2 x hx
   ·simp at hx;subst hx;exact hr
  have hgo2:∀ b:Bool,∃ a',mN a (k:Int) l b=some (.inl (a',((k+1:Nat):Int)))/\a'.length=k+1/\∀ r∈a',r.length<=1001:=by
   intro b
   unfold mN
   cases b with
   |true=>rw [if_pos rfl,cE (by simp [gQ];omega),aA];exact hgo _ (by simp;omega)
   |false=>rw [if_neg (by simp)];exact hgo _ (by omega)
  show ∃ a',iX u p d al a (k:Int)=_/\_
  unfold iX
  rw [if_pos (by simp;omega),e,aA]
  cases d with
  |true=>rw [if_pos rfl,f,aA];exact hgo2 _
  |false=>rw [if_neg (by simp)];exact hgo2 _
 ·refine ⟨a,?_,hI⟩
  show iX u p d al a ((u.N.toNat:Nat):Int)=_
  unfold iX
  rw [if_neg (by simp;omega)]
theorem part15_ok (hu:Big u) (d:Bool):∃ p,aDb u d=some p/\fE u p:=by
 obtain ⟨hm,h0⟩:=part0 hu
 have h3:=hu.st
 unfold aDb
 rw [hm,aA]
 have key:=aGg (step:=fun s:List Int=>wC u d s) u.N.toNat (fun p s=>s=p/\fE u p) (fun r=>fE u r) (fun p s hl hc hI=>?_) (List.replicate u.N.toNat 0) (List.replicate u.N.toNat 0) (by simp) (aJo _) ⟨rfl,h0⟩
 ·obtain ⟨p,h1,h2⟩:=key
  rw [h1,aA]
  exact ⟨p,rfl,h2⟩
 ·obtain ⟨rfl,hp⟩:=hI
  obtain ⟨r,e,g1,g2,g3⟩:=aMq hu hp d
  have hstep:wC u d s=if decide (r=s)=true then some (.inr s) else some (.inl r):=by
   unfold wC
   rw [e,aA,aJr _ _ (by rw [g1.1];omega),aA]
  by_cases h:r=s
  ·left
   rw [hstep,if_pos (by simpa using h)]
   exact ⟨_,rfl,hp⟩
  ·right
   refine ⟨r,r,g3,g2,h,?_,rfl,g1⟩
   rw [hstep,if_neg (by simpa using h)]
theorem true_ok {al:List Bool} (hal:al.length<=1000):∃ l,aCZ al=some l/\l.length<=al.length/\∀ z∈l,0<=z/\z < al.length:=by
 unfold aCZ
 have key:=bZ (step:=fun s:List Int × Int=>mZ al s.1 s.2) al.length (fun i (a:List Int)=>(a,(i:Int))) (fun i a=>a.length<=i/\∀ z∈a,0<=z/\z < al.length) (fun r=>r.length<=al.length/\∀ z∈r,0<=z/\z < al.length) (fun i a hi hI=>?_) (fun a hI=>?_) al.length 0 [] (by omega) (by simp)
 ·obtain ⟨l,h1,h2⟩:=key
  have h1':loop (fun s:List Int × Int=>mZ al s.1 s.2) (([]:List Int),0)=some l:=h1
  rw [h1',aA]
  exact ⟨l,rfl,h2⟩
 ·obtain ⟨g1,g2⟩:=hI
  have hw:wr ((i:Int)+1)=((i+1:Nat):Int):=bI hi (by omega)
  show ∃ a',mZ al a (i:Int)=_/\_
  unfold mZ vZ
  rw [if_pos (bU hi),bK hi,aA,hw]
  split
  ·rw [cE (by simp [gQ];omega),aA]
   refine ⟨_,rfl,by simp;omega,fun z hz=>?_⟩
   rcases List.mem_append.1 hz with hz|hz
   ·exact g2 z hz
   ·simp at hz;omega
  ·exact ⟨_,rfl,by omega,g2⟩
 ·refine ⟨a,?_,hI⟩
  show mZ al a (al.length:Int)=_
  unfold mZ
  rw [if_neg (by simp)]
end
theorem aKZ {t:bQ} (h:dK t):Big t:=by
 have h1:=h.1
 have h2:=h.2.2.1.2.1
 have h3:=h.2.2.2.1
 exact ⟨by omega,by omega,by omega,fun e he=>oC h he⟩
section
variable {t:bQ} {c:Nat} {p:List Int}
theorem top_ok (h:Drn c t) (hp:fE t p):∃ b,pF p=some b/\(1<=b/\b<=10/\b<=t.N)/\∀ z∈p,0<=z/\z < b:=by
 have h1:=h.ok.1
 have h2:=h.st
 obtain ⟨b,e,⟨⟨z,hz,hb⟩,ht⟩⟩:=aNk (p:=p) (by rw [hp.1];omega) (by rw [hp.1];omega) fun z hz=>by
  have:=hp.2 z hz
  omega
 have:=hp.2 z hz
 exact ⟨b,e,by omega,fun w hw=>by have:=hp.2 w hw;have:=ht w hw;omega⟩
theorem quot13_ok (h:Drn c t) (hp:fE t p):∃ t',qL t p=some t'/\Drn c t'/\t'.N<=t.N:=by
 obtain ⟨b,e,hb,hz⟩:=top_ok h hp
 refine ⟨_,quo_ref h.ok hp.1 e,⟨quo_ok h.ok hp.1 (by omega) hz,h.nm,by show b<=10;omega,Nat.le_trans (aMe t p) h.ed⟩,hb.2.2⟩
theorem aNn (h:Drn c t) (hp:fE t p) {b:Int} (hzi:∀ s,mJ t s->0<=p.getD s.toNat 0/\p.getD s.toNat 0 < b):
  ∃ E,loop (fun s:List Edge × Int=>hJ t p s.1 s.2) (([]:List Edge),0)=some E/\E.length<=c/\∀ x∈E,tA b t.L.length x:=by
 have hu:=aKZ h.ok
 have h2:=h.ok.2.1
 have hed:=h.ed
 have h5:=hu.ed
 refine bZ (step:=fun s:List Edge × Int=>hJ t p s.1 s.2) t.E.length (fun i (a:List Edge)=>(a,(i:Int))) (fun i a=>a.length<=i/\∀ x∈a,tA b t.L.length x) (fun r=>r.length<=c/\∀ x∈r,tA b t.L.length x) (fun i a hi hI=>?_) (fun a hI=>?_) t.E.length 0 [] (by omega) (by simp)
 ·obtain ⟨g1,g2⟩:=hI
  have he:=List.getElem_mem hi
  have hin:=oC h.ok he
  have hw:wr ((i:Int)+1)=((i+1:Nat):Int):=bI hi (by omega)
  obtain ⟨v,hv⟩:=aGU hu hp he
  have hal:a.length+1 < gQ:=by unfold gQ;omega
  have ha1:a.length<=i+1:=by omega
  show ∃ a',hJ t p a (i:Int)=_/\_
  unfold hJ oN
  rw [if_pos (bU hi),bK hi,aA,hv,aA,hw]
  clear hw
  split
  ·rw [(mF hp hin.1).1,aA,(mF hp hin.2.1).1,aA,cE (by simp only [List.length_singleton];omega),aA]
   refine ⟨_,rfl,by rw [List.length_append];exact Nat.add_le_add_right g1 1,fun x hx=>?_⟩
   rcases List.mem_append.1 hx with hx|hx
   ·exact g2 x hx
   ·rw [List.mem_singleton] at hx
    subst hx
    exact ⟨hzi _ hin.1,hzi _ hin.2.1,hin.2.2⟩
  ·exact ⟨_,rfl,ha1,g2⟩
 ·obtain ⟨g1,g2⟩:=hI
  refine ⟨a,?_,by omega,g2⟩
  show hJ t p a (t.E.length:Int)=_
  unfold hJ
  rw [if_neg (by simp)]
theorem aNo (hc:c<=250) (h:Drn c t) (hp:fE t p) {b:Int} (hzi:∀ s,mJ t s->0<=p.getD s.toNat 0/\p.getD s.toNat 0 < b) {E:List Edge} (k2:E.length<=c) (k3:∀ x∈E,tA b t.L.length x) {l:List Int} (hl:l.length<=10) (hlT:∀ z∈l,mJ t z):
  ∃ F,loop (fun s:List Edge × Int=>gZ p l s.1 s.2) (E,0)=some F/\F.length<=c+10/\∀ x∈F,tA b t.L.length x:=by
 have hlab:=h.ok.2.2.1.1
 refine bZ (step:=fun s:List Edge × Int=>gZ p l s.1 s.2) l.length (fun i (a:List Edge)=>(a,(i:Int))) (fun i a=>a.length<=c+i/\∀ x∈a,tA b t.L.length x) (fun r=>r.length<=c+10/\∀ x∈r,tA b t.L.length x) (fun i a hi hI=>?_) (fun a hI=>?_) l.length 0 E (by omega) ⟨by omega,k3⟩
 ·obtain ⟨g1,g2⟩:=hI
  have hsT:=hlT _ (List.getElem_mem hi)
  have hal:a.length+1 < gQ:=by unfold gQ;omega
  have hw:wr ((i:Int)+1)=((i+1:Nat):Int):=bI hi (by omega)
  show ∃ a',gZ p l a (i:Int)=_/\_
  unfold gZ
  rw [if_pos (bU hi),bK hi,aA,(mF hp hsT).1,aA,cE (by simp only [List.length_singleton];omega),aA,hw]
  clear hw
  refine ⟨_,rfl,by rw [List.length_append];exact Nat.add_le_add_right g1 1,fun x hx=>?_⟩
  rcases List.mem_append.1 hx with hx|hx
  ·exact g2 x hx
  ·rw [List.mem_singleton] at hx
   subst hx
   have:=hzi _ hsT
   exact ⟨this,this,by simp only;omega⟩
 ·obtain ⟨g1,g2⟩:=hI
  refine ⟨a,?_,by omega,g2⟩
  show gZ p l a (l.length:Int)=_
  unfold gZ
  rw [if_neg (by simp)]
theorem quot15_ok (hc:c<=250) (h:Drn c t) (hp:fE t p) (d:Bool):∃ t',tY t p d=some t'/\Drn (c+10) t'/\t'.N<=t.N:=by
 have hu:=aKZ h.ok
 have h1:=h.ok.1
 have h2:=h.ok.2.1
 have hst:=h.st
 have hlab:=h.ok.2.2.1
 obtain ⟨b,e,hb,hz⟩:=top_ok h hp
 have hzi:∀ s,mJ t s->0<=p.getD s.toNat 0/\p.getD s.toNat 0 < b:=fun s hs=>by
  have hl:s.toNat < p.length:=by rw [hp.1];unfold mJ at hs;omega
  have e:p.getD s.toNat 0=p[s.toNat]:=by rw [List.getD_eq_getElem?_getD,List.getElem?_eq_getElem hl];rfl
  rw [e]
  exact hz _ (List.getElem_mem hl)
 have hini:mJ t t.I:=by unfold mJ;omega
 have hfin:∀ E:List Edge,(∀ x∈E,tA b t.L.length x)->E.length<=c+10->∃ t',lK t p E=some t'/\Drn (c+10) t'/\t'.N<=t.N:=by
  intro E hE hl
  obtain ⟨t',m1,m2,m3,m4⟩:=aGT (T:=t.L) h.nm (by have:=hlab.2.1;omega) (st:=b) (ini:=p.getD t.I.toNat 0) (by omega) (hzi _ hini) (edges:=E) (by omega) (fun x hx=>by have:=hE x hx;unfold tA at this;exact ⟨this.1,this.2.1,this.2.2⟩)
  unfold lK
  rw [(mF hp hini).1,aA,e,aA,m1,aA]
  exact ⟨t',rfl,m2.mono hl,by omega⟩
 obtain ⟨E,k1,k2,k3⟩:=aNn h hp hzi
 unfold tY
 rw [k1,aA]
 unfold sS
 cases d with
 |false=>rw [if_neg (by simp)];exact hfin E k3 (by omega)
 |true=>
  obtain ⟨al,d1,d2⟩:=aJs hu hp
  obtain ⟨l,d3,d4,d5⟩:=true_ok (al:=al) (by omega)
  obtain ⟨F,q1,q2,q3⟩:=aNo hc h hp hzi k2 k3 (l:=l) (by omega) (fun z hz=>by have:=d5 z hz;unfold mJ;omega)
  rw [if_pos rfl,d1,aA,d3,aA,q1,aA]
  unfold xP
  exact hfin F q3 q2
theorem aMr (h:Drn c t):uY t=some (RL t)/\xO t (RL t)=some (keepL t (RL t))/\Drn c (keepL t (RL t))/\(keepL t (RL t)).N<=t.N:=by
 have h1:=h.ok.1
 have h2:=h.st
 have hl:=RL_len t
 refine ⟨aLY h.ok,aNe h.ok (by omega),⟨keep_ok h.ok,h.nm,?_,Nat.le_trans (aKl t (RL t)) h.ed⟩,?_⟩
 ·show ((RL t).length:Int)<=10
  omega
 ·show ((RL t).length:Int)<=t.N
  omega
theorem aNp (h:Drn c t):∃ t',aBs t=some t'/\Drn c t'/\t'.N<=t.N:=by
 obtain ⟨k1,k2,k3,k4⟩:=aMr h
 obtain ⟨p,p1,p2⟩:=part13_ok (aKZ k3.ok)
 obtain ⟨t',q1,q2,q3⟩:=quot13_ok k3 p2
 unfold aBs
 rw [k1,aA,k2,aA,p1,aA,q1,aA]
 exact ⟨t',rfl,q2,by omega⟩
theorem aNq (hc:c<=250) (h:Drn c t) (d:Bool):∃ t',aBr t d=some t'/\Drn (c+10) t'/\t'.N<=t.N:=by
 obtain ⟨k1,k2,k3,k4⟩:=aMr h
 obtain ⟨p,p1,p2⟩:=part15_ok (aKZ k3.ok) d
 obtain ⟨t',q1,q2,q3⟩:=quot15_ok hc k3 p2 d
 unfold aBr
 rw [k1,aA,k2,aA,p1,aA,q1,aA]
 exact ⟨t',rfl,q2,by omega⟩
end
end Gv
set_option linter.unusedSimpArgs false
set_option linter.unusedVariables false
namespace Gv
open Go
theorem aKt (E:List Edge) (k:Int):(E.filter fun e=>decide (e.F < k+1)).length=(E.filter fun e=>decide (e.F < k)).length+(E.filter fun e=>e.F == k).length:=by
 induction E with
 |nil=>rfl
 |cons e E ih=>
  simp only [List.filter_cons]
  by_cases h1:e.F < k
  ·rw [if_pos (by simp;omega),if_pos (by simpa using h1),if_neg (by simp;omega),List.length_cons,List.length_cons,ih];omega
  ·by_cases h2:e.F=k
   ·rw [if_pos (by simp;omega),if_neg (by simpa using h1),if_pos (by simpa using h2),List.length_cons,List.length_cons,ih];omega
   ·rw [if_neg (by simp;omega),if_neg (by simpa using h1),if_neg (by simpa using h2),ih]
section
variable {t:bQ} {c0:Nat} (cs:aQ)
theorem aMs (h:Drn 60 t) {r18:Int × Int × Int} (hr:0<=r18.1/\r18.1 < t.N) {more:Int} (hm:0<=more/\more<=2) {k old:Int} (hk:0<=k/\k < t.N+more) {s1:Int} (s2:Int) (hs:0<=s1/\s1<=1000000000) {E:List Edge} (hE:∀ e∈E,tA (t.N+more) t.L.length e) (hl:E.length<=1000):
  ∃ s1' s2' E',lN cs t r18 more s1 s2 E k old=some (.inl (s1',s2',E',k+1))/\E'.length=E.length+(t.E.filter fun e=>e.F == old).length/\(∀ e∈E',tA (t.N+more) t.L.length e)/\s1<=s1'/\s1'<=s1+120:=by
 have h1:=h.ok.1
 have h3:=h.st
 have h4:=h.ed
 unfold lN
 rw [l11Out_eq _ _ (by omega),aA]
 have hout:(t.E.filter fun e=>e.F == old).length<=60:=Nat.le_trans (List.length_filter_le _ _) h4
 have hmem:∀ e∈(t.E.filter fun e=>e.F == old),mJ t e.F/\mJ t e.To/\0<=e.B/\e.B < t.L.length:=fun e he=>oC h.ok (List.mem_filter.1 he).1
 generalize ho:(t.E.filter fun e=>e.F == old)=O at hout hmem ⊢
 have key:=bZ (step:=fun s:Int × Int × List Edge × Int=>hQ cs t r18 more k O s.1 s.2.1 s.2.2.1 s.2.2.2) O.length (fun i (q:Int × Int × List Edge)=>(q.1,q.2.1,q.2.2,(i:Int))) (fun i q=>(∀ e∈q.2.2,tA (t.N+more) t.L.length e)/\q.2.2.length=E.length+i/\s1<=q.1/\q.1<=s1+2 * i)
  (fun r=>(∀ e∈r.2.2,tA (t.N+more) t.L.length e)/\r.2.2.length=E.length+O.length/\s1<=r.1/\r.1<=s1+120) (fun i q hi hI=>?_) (fun q hI=>?_) O.length 0 (s1,s2,E) (by omega) ⟨hE,rfl,Int.le_refl _,by simp⟩
 ·obtain ⟨⟨a1,b1,E'⟩,e1,g1,g2,g3,g4⟩:=key
  have e1':loop (fun s:Int × Int × List Edge × Int=>hQ cs t r18 more k O s.1 s.2.1 s.2.2.1 s.2.2.2) (s1,s2,E,0)=some (a1,b1,E'):=e1
  rw [e1',aA]
  unfold xR sV
  rw [cF (x:=k+1) (by omega) (by omega)]
  exact ⟨a1,b1,E',rfl,g2,g1,g3,g4⟩
 ·obtain ⟨a1,b1,E'⟩:=q
  obtain ⟨g1,g2,g3,g4⟩:=hI
  simp only at g1 g2 g3 g4 ⊢
  have hin:=hmem _ (List.getElem_mem hi)
  unfold mJ at hin
  have hfin:∀ x y to,0<=to/\to < t.N+more->s1<=x/\x<=s1+2 * ((i:Int)+1)->
    ∃ q:Int × Int × List Edge,oV k E' (i:Int) O[i] x y to=some (.inl (q.1,q.2.1,q.2.2,((i+1:Nat):Int)))/\(∀ e∈q.2.2,tA (t.N+more) t.L.length e)/\q.2.2.length=E.length+(i+1)/\s1<=q.1/\q.1<=s1+2 * ((i+1:Nat):Int):=by
   intro x y to hto hx
   unfold oV
   rw [cE (by simp only [List.length_singleton];unfold gQ;omega),aA,bI hi (by omega)]
   refine ⟨(x,y,E'++[_]),rfl,fun e he=>?_,by simp;omega,hx.1,by simp only;omega⟩
   rcases List.mem_append.1 he with he|he
   ·exact g1 e he
   ·rw [List.mem_singleton] at he
    subst he
    exact ⟨hk,hto,hin.2.2⟩
  have hj5:∀ x y (b:Bool),(b=true->0 < more)->s1<=x/\x<=s1+2 * ((i:Int)+1)->
    ∃ q:Int × Int × List Edge,lM t k E' (i:Int) O[i] x y b=some (.inl (q.1,q.2.1,q.2.2,((i+1:Nat):Int)))/\(∀ e∈q.2.2,tA (t.N+more) t.L.length e)/\q.2.2.length=E.length+(i+1)/\s1<=q.1/\q.1<=s1+2 * ((i+1:Nat):Int):=by
   intro x y b hb hx
   unfold lM
   cases b with
   |true=>have:=hb rfl;rw [if_pos rfl];exact hfin _ _ _ (by omega) hx
   |false=>rw [if_neg (by simp)];exact hfin _ _ _ (by omega) hx
  show ∃ q:Int × Int × List Edge,hQ cs t r18 more k O a1 b1 E' (i:Int)=some (.inl (q.1,q.2.1,q.2.2,((i+1:Nat):Int)))/\_
  unfold hQ
  rw [if_pos (bU hi),bK hi,aA]
  by_cases hm0:0 < more
  ·rw [if_pos (by simpa using hm0)]
   obtain ⟨v,hv,_⟩:=rm_ok (x:=t.N+r18.1) (n:=t.N) (by omega) (by omega)
   rw [cF (x:=t.N+r18.1) (by omega) (by omega),hv,aA]
   split
   ·obtain ⟨b,x,y,e,h5,h6⟩:=aEZ cs b1 (s1:=a1) (n:=2) (by omega) (by omega)
    rw [e,aA]
    exact hj5 _ _ _ (fun _=>hm0) (by simp only;omega)
   ·exact hj5 _ _ _ (fun h=>by cases h) (by omega)
  ·rw [if_neg (by simpa using hm0)]
   exact hj5 _ _ _ (fun h=>by cases h) (by omega)
 ·obtain ⟨a1,b1,E'⟩:=q
  obtain ⟨g1,g2,g3,g4⟩:=hI
  refine ⟨(a1,b1,E'),?_,g1,g2,g3,by simp only at g4 ⊢;omega⟩
  show hQ cs t r18 more k O a1 b1 E' (O.length:Int)=_
  unfold hQ
  rw [if_neg (by simp)]
def cap (t:bQ) (k:Nat):Nat:=(t.E.filter fun e=>decide (e.F < (k:Int))).length+60 * (k - t.N.toNat)
theorem like_loop (h:Drn 60 t) {r18:Int × Int × Int} (hr:0<=r18.1/\r18.1 < t.N) {more:Int} (hm:0<=more/\more<=2) {s1:Int} (s2:Int) (hs:0<=s1/\s1<=100000000) (hst:t.N<=6):
  ∃ t' s1' s2',jJ cs t r18 s1 s2 more=some (t',s1',s2')/\Drn 180 t':=by
 have h1:=h.ok.1
 have h2:=h.ok.2.1
 have h4:=h.ed
 have hlab:=h.ok.2.2.1
 unfold jJ
 have key:=bZ (step:=fun s:Int × Int × List Edge × Int=>hX cs t r18 more s.1 s.2.1 s.2.2.1 s.2.2.2) (t.N+more).toNat (fun k (q:Int × Int × List Edge)=>(q.1,q.2.1,q.2.2,(k:Int))) (fun k q=>(∀ e∈q.2.2,tA (t.N+more) t.L.length e)/\q.2.2.length<=cap t k/\s1<=q.1/\q.1<=s1+120 * k)
  (fun r=>(∀ e∈r.1,tA (t.N+more) t.L.length e)/\r.1.length<=180) (fun k q hk hI=>?_) (fun q hI=>?_) (t.N+more).toNat 0 (s1,s2,[]) (by omega) ⟨by simp,by simp,Int.le_refl _,by simp⟩
 ·obtain ⟨⟨E,a1,b1⟩,e1,g1,g2⟩:=key
  have e1':loop (fun s:Int × Int × List Edge × Int=>hX cs t r18 more s.1 s.2.1 s.2.2.1 s.2.2.2) (s1,s2,([]:List Edge),0)=some (E,a1,b1):=e1
  obtain ⟨t',m1,m2,m3,m4⟩:=aGT (T:=t.L) h.nm (by have:=hlab.2.1;omega) (st:=t.N+more) (ini:=t.I) (by omega) (by omega) (edges:=E) (by simp only at g2;omega) (fun x hx=>by have:=g1 x hx;unfold tA at this;exact ⟨this.1,this.2.1,this.2.2⟩)
  rw [e1',aA]
  unfold sU
  rw [cF (x:=t.N+more) (by omega) (by omega),m1,aA]
  exact ⟨t',a1,b1,rfl,m2.mono g2⟩
 ·obtain ⟨a1,b1,E⟩:=q
  obtain ⟨g1,g2,g3,g4⟩:=hI
  simp only at g1 g2 g3 g4 ⊢
  have hcap:∀ j,(t.E.filter fun e=>decide (e.F < j)).length<=60:=fun j=>Nat.le_trans (List.length_filter_le _ _) h4
  have hcapk:cap t k<=60+60 * (k - t.N.toNat):=by unfold cap;have:=hcap (k:Int);omega
  have hkk:k<=8:=by omega
  show ∃ q:Int × Int × List Edge,hX cs t r18 more a1 b1 E (k:Int)=some (.inl (q.1,q.2.1,q.2.2,((k+1:Nat):Int)))/\_
  unfold hX
  rw [cF (x:=t.N+more) (by omega) (by omega),if_pos (by simp;omega)]
  by_cases ho:t.N<=(k:Int)
  ·have hwk:wr ((k:Int)+r18.1)=(k:Int)+r18.1:=cF (by omega) (by omega)
   obtain ⟨v,hv,_⟩:=rm_ok (x:=(k:Int)+r18.1) (n:=t.N) (by omega) (by omega)
   rw [if_pos (by simpa using ho),cF (x:=(k:Int)+r18.1) (by omega) (by omega),hv,aA]
   obtain ⟨x,y,E',e,f1,f2,f3,f4⟩:=aMs cs h hr hm (k:=k) (old:=v) (by omega) (s1:=a1) b1 (by omega) g1 (by omega)
   refine ⟨(x,y,E'),e,f2,?_,by simp only;omega,by simp only;omega⟩
   have hv6:(t.E.filter fun e=>e.F == v).length<=60:=Nat.le_trans (List.length_filter_le _ _) h4
   have hup:=aKt t.E (k:Int)
   unfold cap at g2 ⊢
   simp only
   rw [show ((k+1:Nat):Int)=(k:Int)+1 from rfl,hup]
   omega
  ·rw [if_neg (by simpa using ho)]
   obtain ⟨x,y,E',e,f1,f2,f3,f4⟩:=aMs cs h hr hm (k:=k) (old:=k) (by omega) (s1:=a1) b1 (by omega) g1 (by omega)
   refine ⟨(x,y,E'),e,f2,?_,by simp only;omega,by simp only;omega⟩
   have hup:=aKt t.E (k:Int)
   unfold cap at g2 ⊢
   simp only
   rw [show ((k+1:Nat):Int)=(k:Int)+1 from rfl,hup]
   omega
 ·obtain ⟨a1,b1,E⟩:=q
  obtain ⟨g1,g2,g3,g4⟩:=hI
  have hl:(t.E.filter fun e=>decide (e.F < ((t.N+more).toNat:Int))).length<=60:=Nat.le_trans (List.length_filter_le _ _) h4
  refine ⟨(E,a1,b1),?_,g1,?_⟩
  ·show hX cs t r18 more a1 b1 E (((t.N+more).toNat:Nat):Int)=_
   unfold hX
   rw [cF (x:=t.N+more) (by omega) (by omega),if_neg (by simp;omega)]
  ·simp only at g2 ⊢
   unfold cap at g2
   omega
theorem like_ok (h:Drn 60 t) (hst:t.N<=6) {s1:Int} (s2:Int) (hs:0<=s1/\s1<=1000000):∃ t' s1' s2',tZ cs s1 s2 t=some (t',s1',s2')/\Drn 180 t':=by
 have h1:=h.ok.1
 obtain ⟨v,x,y,e,hv,h5,h6⟩:=eK cs s2 (s1:=s1) (n:=t.N) (by omega) (by omega)
 obtain ⟨v2,x2,y2,e2,hv2,h52,h62⟩:=eK cs y (s1:=x) (n:=3) (by omega) (by omega)
 unfold tZ
 rw [e,aA,if_pos (by simp;omega)]
 show ∃ t' s1' s2',(ob (bA cs x y 3) fun r317=>jJ cs t (v,x,y) r317.2.1 r317.2.2 r317.1)=_/\_
 rw [e2,aA]
 exact like_loop cs h hv (by simp only;omega) y2 (by simp only;omega) hst
theorem add_ok (h:Drn 60 t) {x l y:Int} (hx:0<=x/\x < t.N) (hl:0<=l/\l < t.L.length) (hy:0<=y/\y < t.N):
  ∃ t',kF t.N t.I t.L (t.E++[(⟨x,l,y⟩:Edge)])=some t'/\Drn 61 t':=by
 have h1:=h.ok.1
 have h2:=h.ok.2.1
 have h3:=h.st
 have h4:=h.ed
 have hlab:=h.ok.2.2.1
 have hl2:(t.E++[(⟨x,l,y⟩:Edge)]).length=t.E.length+1:=by simp
 obtain ⟨t',m1,m2,m3,m4⟩:=aGT (T:=t.L) h.nm (by have:=hlab.2.1;omega) (st:=t.N) (ini:=t.I) (by omega) (by omega) (edges:=t.E++[(⟨x,l,y⟩:Edge)]) (by omega) (fun e he=>by
  rcases List.mem_append.1 he with he|he
  ·have:=oC h.ok he
   unfold mJ at this
   exact ⟨this.1,this.2.1,this.2.2⟩
  ·rw [List.mem_singleton] at he
   subst he
   exact ⟨hx,hy,hl⟩)
 exact ⟨t',m1,m2.mono (by omega)⟩
theorem two2_ok {a b:bQ} {s1:Int} (s2:Int) (hs:0<=s1/\s1<=10000) (ha:Drn 60 a) (has:a.N<=6) (hb:Drn 60 b) {r16 r30 r44:_} (e16:r16.1=a) (e30:r30.1=b) (e1:r44.2.1=s1) (e2:r44.2.2=s2) (v:Bool):
  ∃ b',rR cs r16 r30 r44 v=some (a,b')/\Drn 180 b':=by
 subst e16 e30 e1 e2
 have h1:=ha.ok.1
 have h2:=ha.ok.2.2.1
 have h3:=h2.1
 unfold rR
 cases v with
 |true=>
  obtain ⟨t',x,y,e,h⟩:=like_ok cs ha has (s1:=r44.2.1) r44.2.2 (by omega)
  rw [if_pos rfl,e,aA]
  exact ⟨t',rfl,h⟩
 |false=>
  rw [if_neg (by simp)]
  split
  ·obtain ⟨b,x,y,e,_⟩:=aEZ cs r44.2.2 (s1:=r44.2.1) (n:=2) (by omega) (by omega)
   obtain ⟨t',e2,h,_⟩:=aNq (by omega) ha b
   rw [e,aA,e2,aA]
   exact ⟨t',rfl,h.mono (by omega)⟩
  ·split
   ·obtain ⟨t',e,h,_⟩:=aNp ha
    rw [e,aA]
    exact ⟨t',rfl,h.mono (by omega)⟩
   ·split
    ·have h4:=ha.ed
     obtain ⟨v1,x1,y1,f1,g1,i1,j1⟩:=eK cs r44.2.2 (s1:=r44.2.1) (n:=r16.1.N) (by omega) (by omega)
     obtain ⟨v2,x2,y2,f2,g2,i2,j2⟩:=eK cs y1 (s1:=x1) (n:=(r16.1.L.length:Int)) (by omega) (by omega)
     obtain ⟨v3,x3,y3,f3,g3,i3,j3⟩:=eK cs y2 (s1:=x2) (n:=r16.1.N) (by omega) (by omega)
     obtain ⟨t',e,h⟩:=add_ok ha g1 g2 g3
     rw [cE (by simp only [List.length_nil];unfold gQ;omega),aA,f1,aA,f2,aA,f3,aA,List.nil_append,cE (by simp only [List.length_singleton];unfold gQ;omega),aA,e,aA]
     exact ⟨t',rfl,h.mono (by omega)⟩
    ·exact ⟨_,rfl,hb.mono (by omega)⟩
theorem two_ok:∃ a b,aGD cs=some (a,b)/\Drn 60 a/\a.N<=6/\Drn 180 b:=by
 obtain ⟨a,x,y,e,ha,h1,h2⟩:=aKr cs (s1:=0) 0 (by omega)
 obtain ⟨b,x',y',e',hb,h1',h2'⟩:=aKr cs (s1:=x) y (by omega)
 obtain ⟨v,x2,y2,e2,g,i,j⟩:=eK cs y' (s1:=x') (n:=6) (by omega) (by omega)
 unfold aGD aCY
 rw [aA]
 show ∃ a b,(ob (pG cs 0 0) fun r16=>ob (pG cs r16.2.1 r16.2.2) fun r30=>ob (bA cs r30.2.1 r30.2.2 6) fun r44=>if (r44.1 == 0) then (rR cs r16 r30 r44 (r44.1 == 0)) else (rR cs r16 r30 r44 (r44.1 == 1)))=_/\_
 rw [e,aA,e',aA,e2,aA]
 have hw:=fun v=>two2_ok cs (a:=a) (b:=b) (s1:=x2) y2 (by omega) ha.1 ha.2 hb.1 (r16:=(a,x,y)) (r30:=(b,x',y')) (r44:=(v,x2,y2)) rfl rfl rfl rfl
 split
 ·obtain ⟨b',h3,h4⟩:=hw _ _
  exact ⟨a,b',h3,ha.1,ha.2,h4⟩
 ·obtain ⟨b',h3,h4⟩:=hw _ _
  exact ⟨a,b',h3,ha.1,ha.2,h4⟩
end
end Gv
