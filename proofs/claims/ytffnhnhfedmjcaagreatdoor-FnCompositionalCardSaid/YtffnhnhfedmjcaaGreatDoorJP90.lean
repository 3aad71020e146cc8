/- Greatest relations between the states of two systems, by rounds. No program in sight. -/
import Derived.Test.YtffnhnhfedmjcaaGreatDoorJP80
set_option linter.all false
namespace Gv
open Go
section
variable {a b:bA} {B:Int->Int->Bool} {F:(Int->Int->Bool)->Int->Int->Bool}
structure MonoT (a b:bA) (F:(Int->Int->Bool)->Int->Int->Bool):Prop where
 mono:∀ S T:Int->Int->Bool,(∀ x y,jS a x->jS b y->S x y=true->T x y=true)->∀ x y,jS a x->jS b y->F S x y=true->F T x y=true
end
end Gv
namespace Gv
open Go
def aJW (q p:List Int):Prop:=q.length=p.length/\∀ x y:Nat,x < p.length->y < p.length->q[x]?=q[y]?->p[x]?=p[y]?
theorem aOH (p:List Int) (n:Nat):(tE p n).Nodup:=List.Nodup.sublist List.filter_sublist List.nodup_range
theorem aNx (p:List Int) (n:Nat):(tE p n).length<=n:=by
 have:=List.length_filter_le (fun i=>decide (∀ k,k < i->p[k]?≠p[i]?)) (List.range n)
 rw [List.length_range] at this
 exact this
theorem aMh {q:List Int} {n:Nat}:∀ x,x < n->∃ z,z<=x/\z∈tE q n/\q[z]?=q[x]?:=by
 intro x
 induction x using Nat.strongRecOn with
 |ind x ih=>
  intro hx
  by_cases h:∀ k,k < x->q[k]?≠q[x]?
  ·exact ⟨x,Nat.le_refl _,by unfold tE;rw [List.mem_filter,List.mem_range,decide_eq_true_iff];exact ⟨hx,h⟩,rfl⟩
  ·obtain ⟨k,hk⟩:=Classical.not_forall.1 h
   obtain ⟨hk1,hk2⟩:=Classical.not_imp.1 hk
   obtain ⟨z,z1,z2,z3⟩:=ih k hk1 (by omega)
   exact ⟨z,by omega,z2,z3.trans (Classical.not_not.1 hk2)⟩
theorem aHr {p q:List Int} (hp:cn p=p) (hq:cn q=q) (hs:aJW q p):q=p\/(tE p p.length).length < (tE q p.length).length:=by
 by_cases h:∀ x y:Nat,x < p.length->y < p.length->p[x]?=p[y]?->q[x]?=q[y]?
 ·left
  rw [←hp,←hq]
  refine aMg ⟨hs.1,fun x y hx hy=>?_⟩
  rw [hs.1] at hx hy
  exact ⟨hs.2 x y hx hy,h x y hx hy⟩
 ·right
  have hsub:∀ i,i∈tE p p.length->i∈tE q p.length:=fun i hi=>by
   unfold tE at hi ⊢
   rw [List.mem_filter,List.mem_range,decide_eq_true_iff] at hi ⊢
   exact ⟨hi.1,fun k hk e=>hi.2 k hk (hs.2 k i (by omega) hi.1 e)⟩
  have hex:∃ z,z∈tE q p.length/\z∉tE p p.length:=by
   apply Classical.byContradiction
   intro hno
   refine h fun x y hx hy e=>?_
   obtain ⟨a,a1,a2,a3⟩:=aMh (q:=q) x hx
   obtain ⟨b,b1,b2,b3⟩:=aMh (q:=q) y hy
   have ha:a∈tE p p.length:=Classical.byContradiction fun h=>hno ⟨a,a2,h⟩
   have hb:b∈tE p p.length:=Classical.byContradiction fun h=>hno ⟨b,b2,h⟩
   have hab:p[a]?=p[b]?:=((hs.2 a x (by omega) hx a3).trans e).trans (hs.2 b y (by omega) hy b3).symm
   unfold tE at ha hb
   rw [List.mem_filter,decide_eq_true_iff] at ha hb
   have:a=b:=by
    rcases Nat.lt_trichotomy a b with h|h|h
    ·exact absurd hab (hb.2 a h)
    ·exact h
    ·exact absurd hab.symm (ha.2 b h)
   subst this
   exact a3.symm.trans b3
  obtain ⟨z,z1,z2⟩:=hex
  have:=List.Nodup.length_le_of_subset (l₁:=z::tE p p.length) (l₂:=tE q p.length) (List.nodup_cons.2 ⟨z2,aOH _ _⟩) (fun i hi=>by
   rcases List.mem_cons.1 hi with rfl|hi
   ·exact z1
   ·exact hsub i hi)
  rw [List.length_cons] at this
  omega
theorem cn_const (n:Nat):cn (List.replicate n (0:Int))=List.replicate n 0:=by
 refine List.ext_getElem? fun i=>?_
 by_cases hi:i < n
 ·rw [aMf (by simpa using hi),List.getElem_replicate,List.getElem?_replicate,if_pos hi]
  have hdd:∀ m,dd (List.replicate (m+1) (0:Int))=[0]:=by
   intro m
   induction m with
   |zero=>rfl
   |succ m ih=>rw [List.replicate_succ',aJl,ih];rfl
  obtain ⟨m,rfl⟩:∃ m,n=m+1:=⟨n - 1,by omega⟩
  rw [hdd];rfl
 ·rw [List.getElem?_eq_none (by rw [aCy,List.length_replicate];omega),List.getElem?_eq_none (by rw [List.length_replicate];omega)]
theorem cn_cn {κ:Type} [DecidableEq κ] [BEq κ] [LawfulBEq κ] (l:List κ):cn (cn l)=cn l:=aMg (cn_ker l)
theorem aRc {σ ρ:Type} {step:σ->Option (σ ⊕ ρ)} (n:Nat) (I:List Int->σ->Prop) (R:ρ->Prop)
  (h:∀ p s,p.length=n->cn p=p->I p s->(∃ r,step s=some (.inr r)/\R r)\/∃ q s',aJW q p/\cn q=q/\q≠p/\step s=some (.inl s')/\I q s'):
  ∀ (p:List Int) (s:σ),p.length=n->cn p=p->I p s->∃ r,loop step s=some r/\R r:=by
 have key:∀ (m:Nat) (p:List Int) (s:σ),p.length=n->cn p=p->I p s->n<=m+(tE p n).length->∃ r,loop step s=some r/\R r:=by
  intro m
  induction m with
  |zero=>
   intro p s hl hc hI hm
   rcases h p s hl hc hI with ⟨r,h1,h2⟩|⟨q,s',hq,hqc,hne,h1,h2⟩
   ·exact ⟨r,aCc h1,h2⟩
   ·have h3:=(aHr hc hqc hq).resolve_left hne
    have h4:=aNx q n
    rw [hl] at h3
    omega
  |succ m ih=>
   intro p s hl hc hI hm
   rcases h p s hl hc hI with ⟨r,h1,h2⟩|⟨q,s',hq,hqc,hne,h1,h2⟩
   ·exact ⟨r,aCc h1,h2⟩
   ·have h3:=(aHr hc hqc hq).resolve_left hne
    rw [hl] at h3
    rw [aEA h1]
    exact ih q s' (hq.1.trans hl) hqc h2 (by omega)
 intro p s hl hc hI
 exact key n p s hl hc hI (by omega)
theorem aKw {κ:Type} [DecidableEq κ] [BEq κ] [LawfulBEq κ] {p:List Int} {keys:List κ} (hl:keys.length=p.length) (h:∀ x y:Nat,x < p.length->y < p.length->keys[x]?=keys[y]?->p[x]?=p[y]?):aJW (cn keys) p:=by
 refine ⟨by rw [aCy,hl],fun x y hx hy e=>h x y hx hy ?_⟩
 exact ((cn_ker keys).2 x y (by rw [aCy];omega) (by rw [aCy];omega)).1 e
end Gv
namespace Gv
open Go
def AftT (t:bA) (S:List Int) (s:aH) (q:Int):Prop:=∃ e∈t.E,oS t e=s/\e.F∈S/\e.To=q
section
variable {t:bA}
theorem AftT.inn (hv:cF t) {S:List Int} {s:aH} {q:Int} (h:AftT t S s q):0<=q/\q < t.N:=by
 obtain ⟨e,he,_,_,rfl⟩:=h
 exact (aOA hv he).2.1
def Wk (t:bA) (y:Int) (s:aH) (w:Int):Prop:=if s=bC then Cl t (·∈[y]) w else Cl t (fun q=>∃ e∈t.E,oS t e=s/\Cl t (·∈[y]) e.F/\e.To=q) w
theorem Wk.inn (hv:cF t) {y:Int} (hy:jS t y) {s:aH} {w:Int} (h:Wk t y s w):jS t w:=by
 unfold jS at hy ⊢
 unfold Wk at h
 split at h
 ·exact h.inn hv fun q hq=>by simp at hq;omega
 ·exact h.inn hv fun q hq=>by
   obtain ⟨e,he,_,_,rfl⟩:=hq
   exact (aOA hv he).2.1
end
end Gv
namespace Gv
open Go
def StW (b:bA) (kind y:Int) (s:aH) (w:Int):Prop:=if kind=2 then Wk b y s w else ∃ f∈b.E,f.F=y/\oS b f=s/\f.To=w
section
variable {a b:bA} {kind:Int}
theorem StW.inn (hb:cF b) {y:Int} (hy:jS b y) {s:aH} {w:Int} (h:StW b kind y s w):jS b w:=by
 unfold StW at h
 split at h
 ·exact h.inn hb hy
 ·obtain ⟨f,hf,_,_,rfl⟩:=h
  exact (xG hb hf).2.1
end
end Gv
namespace Gv
open Go
section
variable {a b:bA} {kind:Int}
end
end Gv
namespace Gv
open Go
section
variable {a b:bA} {kind:Int}
end
end Gv
namespace Gv
open Go
section
variable {a b:bA} {kind:Int}
instance inT_dec (t:bA) (k:Int):Decidable (jS t k):=by unfold jS;infer_instance
end
end Gv
namespace Gv
open Go
section
variable {a b:bA} {kind:Int}
end
end Gv
namespace Gv
open Go
def unA (a b:bA) (M:List aH):List Edge:=(a.E.map fun e=>(⟨e.F,pos (bC::M) (oS a e),e.To⟩:Edge))++b.E.map fun e=>(⟨e.F+a.N,pos (bC::M) (oS b e),e.To+a.N⟩:Edge)
structure Uni (a b:bA) (M:List aH) (Eo:List Edge):Prop where
 str:pV M
 mem:∀ s,s∈M<->s∈a.L++b.L/\s≠bC
 len:M.length<=24
 se:SE Eo
 ed:∀ x,x∈Eo<->x∈unA a b M
 elen:Eo.length<=600
section
variable {a b:bA}
theorem vU {t:bA} (hv:cF t) {e:Edge} (he:e∈t.E):oS t e∈t.L:=by
 have:=(xG hv he).2.2
 unfold oS
 rw [List.getD_eq_getElem?_getD,List.getElem?_eq_getElem (by omega)]
 exact List.getElem_mem _
theorem txt_lab {t:bA} (hv:cF t) {e f:Edge} (he:e∈t.E) (hf:f∈t.E) (h:oS t e=oS t f):e.B=f.B:=by
 have h1:=aNs hv he (vU hv he)
 have h2:=aNs hv hf (vU hv he)
 rw [beq_self_eq_true] at h1
 rw [h,beq_self_eq_true] at h2
 rw [←h] at h2
 have h1':=beq_iff_eq.1 h1.symm
 have h2':=beq_iff_eq.1 h2.symm
 omega
theorem aMi {γ:Type} [BEq γ] [LawfulBEq γ] {xs:List γ} {x y:γ} (hx:x∈xs) (hy:y∈xs) (h:pos xs x=pos xs y):x=y:=by
 obtain ⟨i,e1,g1⟩:=aCa hx
 obtain ⟨j,e2,g2⟩:=aCa hy
 have:i=j:=by omega
 subst this
 rw [g1] at g2
 exact Option.some.inj g2
theorem aOI {e f:Edge} (h1:e.F=f.F) (h2:e.B=f.B) (h3:e.To=f.To):e=f:=by
 cases e;cases f;simp_all
theorem aNy (ha:cF a) (hb:cF b) {M:List aH} (hm:∀ s,s∈M<->s∈a.L++b.L/\s≠bC):(unA a b M).Nodup:=by
 have hin:∀ s,s∈a.L++b.L->s∈bC::M:=fun s hs=>by
  by_cases e:s=bC
  ·subst e;simp
  ·exact List.mem_cons_of_mem _ ((hm s).2 ⟨hs,e⟩)
 unfold unA
 rw [List.nodup_append]
 refine ⟨?_,?_,fun x hx y hy e=>?_⟩
 ·refine List.Pairwise.map _ (R:=fun e f:Edge=>e∈a.E/\f∈a.E/\e≠f) (fun e f ⟨he,hf,hne⟩ h=>hne ?_) ?_
  ·simp only [Edge.mk.injEq] at h
   exact aOI h.1 (txt_lab ha he hf (aMi (hin _ (by simp [vU ha he])) (hin _ (by simp [vU ha hf])) h.2.1)) h.2.2
  ·exact (aMe (aFN ha)).imp_of_mem fun he hf h=>⟨he,hf,h⟩
 ·refine List.Pairwise.map _ (R:=fun e f:Edge=>e∈b.E/\f∈b.E/\e≠f) (fun e f ⟨he,hf,hne⟩ h=>hne ?_) ?_
  ·simp only [Edge.mk.injEq] at h
   exact aOI (by omega) (txt_lab hb he hf (aMi (hin _ (by simp [vU hb he])) (hin _ (by simp [vU hb hf])) h.2.1)) (by omega)
  ·exact (aMe (aFN hb)).imp_of_mem fun he hf h=>⟨he,hf,h⟩
 ·obtain ⟨e1,h1,rfl⟩:=List.mem_map.1 hx
  obtain ⟨e2,h2,h3⟩:=List.mem_map.1 hy
  rw [←h3] at e
  simp only [Edge.mk.injEq] at e
  have:=(xG ha h1).1
  have:=(xG hb h2).1
  unfold jS at *
  omega
theorem uni_ex (ha:cF a) (hb:cF b):∃ M Eo,Uni a b M Eo:=by
 have l1:=ha.2.2.1.2.1
 have l2:=hb.2.2.1.2.1
 have h1:=ha.2.2.2.1
 have h2:=hb.2.2.2.1
 obtain ⟨M,_,j2,j3,j4⟩:=aHq (a.L++b.L) (by rw [List.length_append];omega)
 rw [List.length_append] at j4
 have hnd:=aNy ha hb (M:=M) j3
 refine ⟨M,rO bZ (unA a b M),j2,j3,by omega,aGp bZ vT yT aDd hnd,fun x=>by unfold rO;rw [List.mem_mergeSort],?_⟩
 unfold rO
 rw [List.length_mergeSort]
 unfold unA
 rw [List.length_append,List.length_map,List.length_map];omega
def aAZ (a b:bA) (M:List aH) (Eo:List Edge):bA:=⟨a.N+b.N,a.I,bC::M,Eo⟩
theorem aMj (ha:cF a) (hb:cF b) {M:List aH} {Eo:List Edge} (h:Uni a b M Eo):aHF a b=some (aAZ a b M Eo):=by
 have s1:=ha.1
 have s2:=hb.1
 have l1:=ha.2.2.1.2.1
 have l2:=hb.2.2.1.2.1
 have h1:=ha.2.2.2.1
 have h2:=hb.2.2.2.1
 unfold aHF
 rw [aKQ (fun e he=>rN ha he) (by omega),aA,aKQ (fun e he=>rN hb he) (by omega),aA]
 have key:=lH (step:=fun s:List cO × Int=>aEo a (b.E.map fun e=>(⟨e.F,oS b e,e.To⟩:cO)) s.1 s.2) (b.E.map fun e=>(⟨e.F,oS b e,e.To⟩:cO)) (fun j (o:List cO)=>(o,(j:Int)))
  (fun l o=>o++l.map fun x=>(⟨wr (x.from_+a.N),x.label,wr (x.to_+a.N)⟩:cO)) (fun j o=>o.length<=300+j) (fun j o e l hj hx hI=>?_) (fun o _=>by simp only [aEo,dB];simp) (a:=a.E.map fun e=>(⟨e.F,oS a e,e.To⟩:cO)) (by rw [List.length_map];omega)
 ·rw [show loop (fun s:List cO × Int=>aEo a (b.E.map fun e=>(⟨e.F,oS b e,e.To⟩:cO)) s.1 s.2) (a.E.map (fun e=>(⟨e.F,oS a e,e.To⟩:cO)),0)=_ from key,aA]
  unfold aGf
  rw [aQZ _ _ (by omega),aA,gA (by omega) (by omega),List.map_map]
  have e0:((fun x:cO=>(⟨wr (x.from_+a.N),x.label,wr (x.to_+a.N)⟩:cO)) ∘ fun e:Edge=>(⟨e.F,oS b e,e.To⟩:cO))=fun e=>(⟨wr (e.F+a.N),oS b e,wr (e.To+a.N)⟩:cO):=rfl
  have e1:(b.E.map fun e=>(⟨wr (e.F+a.N),oS b e,wr (e.To+a.N)⟩:cO))=b.E.map fun e=>(⟨e.F+a.N,oS b e,e.To+a.N⟩:cO):=by
   refine List.map_congr_left fun e he=>?_
   have:=xG hb he
   unfold jS at this
   rw [gA (by omega) (by omega),gA (by omega) (by omega)]
  have e2:(((a.E.map fun e=>(⟨e.F,oS a e,e.To⟩:cO))++b.E.map fun e=>(⟨e.F+a.N,oS b e,e.To+a.N⟩:cO)).map fun x=>(⟨x.from_,pos (bC::M) x.label,x.to_⟩:Edge))=unA a b M:=by
   unfold unA
   rw [List.map_append,List.map_map,List.map_map];rfl
  rw [e0,e1,lts_gen (M:=M) (Eo:=Eo) h.str h.mem (by rw [List.length_append];omega) (by rw [List.length_append,List.length_map,List.length_map];omega) (by rw [e2];exact aNy ha hb h.mem) h.se (fun x=>by rw [e2];exact h.ed x) (by have:=h.len;omega)]
  rfl
 ·left
  rw [List.length_map] at hj
  obtain ⟨hj',rfl⟩:=aDo hx
  refine ⟨o++[_],?_,by simp;omega,by simp [List.append_assoc];rfl⟩
  simp only [aEo,hx,aA,List.getElem_map]
  rw [if_pos (by rw [List.length_map];exact bU hj),dC (by simp [jT];omega),aA,bQ hj (by omega)]
end
end Gv
namespace Gv
open Go
structure Big (u:bA):Prop where
 st:1<=u.N/\u.N<=100
 lab:u.L.length<=100
 ed:u.E.length<=1000
 inn:∀ e∈u.E,jS u e.F/\jS u e.To/\0<=e.B/\e.B < u.L.length
def pF (u:bA) (p:List Int):Prop:=p.length=u.N.toNat/\∀ z∈p,0<=z/\z < u.N
def vl1 (u:bA) (p:List Int) (e:Edge):Int:=e.B * u.N+p.getD e.To.toNat 0
def sg1 (u:bA) (p:List Int) (k:Nat):List Int:=fS (rO iLt ((u.E.filter fun e=>e.F == (k:Int)).map (vl1 u p)))
def ky1 (u:bA) (p:List Int):List (List Int):=(List.range u.N.toNat).map fun k=>p.getD k 0::sg1 u p k
section
variable {u:bA} {p:List Int}
theorem aKR {k:Nat} {z:Int}:z∈sg1 u p k<->∃ e∈u.E,e.F=(k:Int)/\vl1 u p e=z:=by
 unfold sg1
 rw [aCx.mem,List.mem_map]
 constructor
 ·rintro ⟨e,he,h⟩
  rw [List.mem_filter,beq_iff_eq] at he
  exact ⟨e,he.1,he.2,h⟩
 ·rintro ⟨e,h1,h2,h⟩
  exact ⟨e,by rw [List.mem_filter,beq_iff_eq];exact ⟨h1,h2⟩,h⟩
theorem sg1_len (k:Nat):(sg1 u p k).length<=u.E.length:=by
 unfold sg1
 have h1:=aFQ (rO iLt ((u.E.filter fun e=>e.F == (k:Int)).map (vl1 u p)))
 unfold rO at h1 ⊢
 rw [List.length_mergeSort,List.length_map] at h1
 exact Nat.le_trans h1 (List.length_filter_le _ _)
theorem aKS:(ky1 u p).length=u.N.toNat:=by unfold ky1;rw [List.length_map,List.length_range]
theorem aKT {k:Nat} (h:k < u.N.toNat):(ky1 u p)[k]?=some (p.getD k 0::sg1 u p k):=by unfold ky1;rw [List.getElem?_map,List.getElem?_range h];rfl
theorem oP (hp:pF u p) {s:Int} (h:jS u s):ix p s=some (p.getD s.toNat 0)/\0<=p.getD s.toNat 0/\p.getD s.toNat 0 < u.N:=by
 unfold jS at h
 have hl:s.toNat < p.length:=by rw [hp.1];omega
 have e:p.getD s.toNat 0=p[s.toNat]:=by rw [List.getD_eq_getElem?_getD,List.getElem?_eq_getElem hl];rfl
 rw [e]
 exact ⟨aHW h.1 hl,hp.2 _ (List.getElem_mem hl)⟩
theorem mul_b {l m s n:Int} (h1:0<=l) (h2:l<=m) (h3:0<=s) (h4:s<=n):0<=l * s/\l * s<=m * n:=
 ⟨Int.mul_nonneg h1 h3,Int.mul_le_mul h2 h4 h3 (by omega)⟩
theorem set_range {γ:Type} (n:Nat) (g:Nat->γ) (j:Nat) (v:γ):((List.range n).map g).set j v=(List.range n).map fun k=>if k=j then v else g k:=by
 apply List.ext_getElem?
 intro i
 rw [List.getElem?_set,List.getElem?_map,List.getElem?_map]
 by_cases hi:i < n
 ·rw [List.getElem?_range hi]
  by_cases hj:j=i
  ·subst hj;simp [hi]
  ·rw [if_neg hj];simp [show ¬ i=j from fun e=>hj e.symm]
 ·rw [List.getElem?_eq_none (l:=List.range n) (by simp;omega)]
  by_cases hj:j=i
  ·subst hj;simp [hi]
  ·rw [if_neg hj];rfl
theorem aMk {γ:Type} {n:Nat} {g:Nat->γ} {j:Int} {v:γ} (h:0<=j/\j < n):Gv.st ((List.range n).map g) j v=some ((List.range n).map fun k=>if k=j.toNat then v else g k):=by
 unfold Gv.st
 rw [if_pos ⟨h.1,by rw [List.length_map,List.length_range];omega⟩,set_range]
theorem aJm {γ:Type} {n:Nat} {g:Nat->γ} {j:Int} (h:0<=j/\j < n):ix ((List.range n).map g) j=some (g j.toNat):=by
 rw [aHW h.1 (by rw [List.length_map,List.length_range];omega)];simp
theorem rep_range {γ:Type} (n:Nat) (v:γ):List.replicate n v=(List.range n).map fun _=>v:=by
 apply List.ext_getElem<;>simp
theorem aMl {l:List Int} {i j:Nat} (hi:i < l.length) (hj:j < l.length):l.getD i 0=l.getD j 0<->l[i]?=l[j]?:=by
 rw [List.getD_eq_getElem?_getD,List.getD_eq_getElem?_getD,List.getElem?_eq_getElem hi,List.getElem?_eq_getElem hj]
 simp
theorem aRd (hp:p.length=u.N.toNat):aJW (cn (ky1 u p)) p:=
 aKw (by rw [aKS,hp]) fun x y hx hy h=>by
  rw [aKT (by omega),aKT (by omega),Option.some.injEq,List.cons.injEq] at h
  exact (aMl hx hy).1 h.1
end
end Gv
namespace Gv
open Go
section
variable {a b:bA}
theorem aHN {M:List aH} {Eo:List Edge} (h:Uni a b M Eo) {s:aH} (hs:s∈a.L\/s∈b.L):s∈bC::M:=by
 by_cases e:s=bC
 ·subst e;simp
 ·exact List.mem_cons_of_mem _ ((h.mem s).2 ⟨by simpa using hs,e⟩)
theorem aJn {γ:Type} [BEq γ] [LawfulBEq γ] {xs:List γ} {x:γ} (hx:x∈xs):0<=pos xs x/\pos xs x < xs.length:=by
 obtain ⟨i,e,g⟩:=aCa hx
 have:=(List.getElem?_eq_some_iff.1 g).1
 omega
theorem uni_big (ha:cF a) (hb:cF b) {M:List aH} {Eo:List Edge} (h:Uni a b M Eo):Big (aAZ a b M Eo):=by
 have s1:=ha.1
 have s2:=hb.1
 have hl:=h.len
 have he:=h.elen
 refine ⟨by show 1<=a.N+b.N/\a.N+b.N<=100;omega,by show (bC::M).length<=100;rw [List.length_cons];omega,by show Eo.length<=1000;omega,fun e hE=>?_⟩
 have hE':=(h.ed e).1 hE
 unfold unA at hE'
 show (0<=e.F/\e.F < a.N+b.N)/\(0<=e.To/\e.To < a.N+b.N)/\0<=e.B/\e.B < ((bC::M).length:Int)
 rcases List.mem_append.1 hE' with g|g
 ·obtain ⟨f,hf,rfl⟩:=List.mem_map.1 g
  have h1:=xG ha hf
  have h2:=aJn (aHN h (.inl (vU ha hf)))
  unfold jS at h1
  simp only;omega
 ·obtain ⟨f,hf,rfl⟩:=List.mem_map.1 g
  have h1:=xG hb hf
  have h2:=aJn (aHN h (.inr (vU hb hf)))
  unfold jS at h1
  simp only;omega
end
end Gv
namespace Gv
open Go
section
variable {κ β:Type} [DecidableEq β] [BEq β] [LawfulBEq β] {key:κ->β}
theorem atK_pos (F:List κ) (q:κ):atK key F q=pos ((aAF key F q).map key) (key q):=by
 unfold atK aAF
 by_cases h:key q∈F.map key
 ·rw [if_pos h,if_pos h]
 ·rw [if_neg h,if_neg h,List.map_append,List.map_singleton,aMc h,List.length_map]
end
end Gv
namespace Gv
open Go
theorem anU_le (x:Int):0<=anU x 255/\anU x 255<=255:=by
 unfold anU
 have h:(BitVec.ofInt 64 x&&& BitVec.ofInt 64 255).toNat<=255:=by
  rw [BitVec.toNat_and]
  exact Nat.le_trans Nat.and_le_right (by decide)
 unfold mK
 omega
theorem shU_ok (x:Int):∃ y,shU x 40=some y:=⟨_,by unfold shU;rw [if_pos (by decide)]⟩
theorem byte_le (b:UInt8):0<=(b.toNat:Int)/\(b.toNat:Int)<=255:=by
 have:=b.toNat_lt
 omega
theorem next_ok (c:aH) {s1:Int} (s2:Int) (h:0<=s1/\s1<=1000000000000):∃ v s2',wN c s1 s2=some (v,s1+1,s2')/\0<=v/\v<=255:=by
 have hw:wr (s1+1)=s1+1:=gA (by omega) (by omega)
 have key:∀ b:Int,0<=b/\b<=255->∃ v s2',tW c s1 s2 b=some (v,s1+1,s2')/\0<=v/\v<=255:=by
  intro b hb
  unfold tW
  rw [hw]
  split
  ·exact ⟨_,_,rfl,hb⟩
  ·obtain ⟨y,hy⟩:=shU_ok (mK ((mK ((mK (s2 * 6364136223846793005))+(mK b)))+1442695040888963407))
   rw [hy,aA]
   have h2:=anU_le y
   refine ⟨_,_,rfl,?_⟩
   rw [gA (by omega) (by omega)];exact h2
 unfold wN
 split
 ·rename_i hlt
  have hlt':s1 < (c.length:Int):=by simpa using hlt
  rw [aHW h.1 (by omega),aA]
  have hb:=byte_le (c[s1.toNat]'(by omega))
  rw [gA (by omega) (by omega)]
  exact key _ hb
 ·exact key 0 (by omega)
theorem rm_ok {x n:Int} (hx:0<=x) (hn:1<=n):∃ v,rm x n=some v/\0<=v/\v < n:=by
 unfold rm
 rw [if_neg (by omega)]
 have e:x.tmod n=x % n:=Int.tmod_eq_emod_of_nonneg hx
 have h1:=Int.emod_nonneg x (show n≠0 by omega)
 have h2:=Int.emod_lt_of_pos x (show 0 < n by omega)
 first
  |exact ⟨_,rfl,by rw [e];exact h1,by rw [e];exact h2⟩
  |exact ⟨_,rfl,by rw [e,gA]<;>omega,by rw [e,gA]<;>omega⟩
theorem aCd (c:aH) {s1 n:Int} (s2:Int) (h:0<=s1/\s1<=100000000000) (hn:1<=n):∃ v s1' s2',gP c s1 s2 n=some (v,s1',s2')/\(0<=v/\v < n)/\s1<=s1'/\s1'<=s1+2:=by
 unfold gP
 by_cases h1:n<=1
 ·rw [if_pos (by simpa using h1)]
  exact ⟨_,_,_,rfl,by omega,by omega,by omega⟩
 ·rw [if_neg (by simpa using h1)]
  obtain ⟨v,t2,e,g1,g2⟩:=next_ok c s2 (s1:=s1) (by omega)
  rw [e,aA]
  simp only
  have key:∀ x a b:Int,0<=x->s1<=a->a<=s1+2->∃ v s1' s2',tX n x a b=some (v,s1',s2')/\(0<=v/\v < n)/\s1<=s1'/\s1'<=s1+2:=by
   intro x a b hx ha hb
   unfold tX
   obtain ⟨y,hy,q1,q2⟩:=rm_ok hx (show 1<=n by omega)
   rw [hy,aA]
   exact ⟨_,_,_,rfl,⟨q1,q2⟩,ha,hb⟩
  by_cases h2:200 < n
  ·rw [if_pos (by simpa using h2)]
   obtain ⟨v',t2',e',g1',g2'⟩:=next_ok c t2 (s1:=s1+1) (by omega)
   rw [e',aA]
   simp only
   rw [gA (x:=v * 256) (by omega) (by omega),gA (by omega) (by omega)]
   exact key _ _ _ (by omega) (by omega) (by omega)
  ·rw [if_neg (by simpa using h2)]
   exact key _ _ _ g1 (by omega) (by omega)
theorem one_ok (c:aH) {s1 n:Int} (s2:Int) (h:0<=s1/\s1<=100000000000) (hn:1<=n):∃ b s1' s2',aBG c s1 s2 n=some (b,s1',s2')/\s1<=s1'/\s1'<=s1+2:=by
 obtain ⟨v,a,b,e,_,h2,h3⟩:=aCd c s2 h hn
 unfold aBG
 rw [e,aA]
 exact ⟨_,_,_,rfl,h2,h3⟩
theorem among_ok (c:aH) {s1:Int} (s2:Int) (h:0<=s1/\s1<=100000000000) {l:List Int} (hl:l≠[]):∃ v s1' s2',aBF c s1 s2 l=some (v,s1',s2')/\v∈l/\s1<=s1'/\s1'<=s1+2:=by
 have h1:1<=(l.length:Int):=by
  have:=List.length_pos_iff.2 hl
  omega
 obtain ⟨v,a,b,e,hv,h2,h3⟩:=aCd c s2 h h1
 unfold aBF
 rw [e,aA]
 simp only
 rw [aHW hv.1 (by omega),aA]
 exact ⟨_,_,_,rfl,List.getElem_mem _,h2,h3⟩
end Gv
namespace Gv
open Go
def Nm:List aH:=[bC,[97],[98],[99],[103,101,116,40,48,41],[103,101,116,40,49,41]]
theorem Nm_len:∀ s∈Nm,s.length<=6:=by decide
structure Drn (c:Nat) (t:bA):Prop where
 ok:cF t
 nm:∀ s∈t.L,s∈Nm
 st:t.N<=10
 ed:t.E.length<=c
theorem Drn.fits {c:Nat} {t:bA} (h:Drn c t):pU 999999999 t:=by
 have h1:=h.ok.2.2.1.2.1
 have h2:=h.ok.2.2.2.1
 refine ⟨by omega,fun s hs=>?_,by omega⟩
 have:=Nm_len s (h.nm s hs)
 omega
theorem Drn.mono {c d:Nat} {t:bA} (h:Drn c t) (hc:c<=d):Drn d t:=⟨h.ok,h.nm,h.st,Nat.le_trans h.ed hc⟩
theorem aJo (l:List Edge):SE (fS (rO bZ l)):=by
 have h1:(rO bZ l).Pairwise fun a b=>bZ b a=false:=by
  have:=List.pairwise_mergeSort (le:=fun a b=>!bZ b a) (fun a b c h1 h2=>?_) (fun a b=>?_) l
  ·refine this.imp fun {a b} h=>?_
   simpa using h
  ·simp only [Bool.not_eq_true'] at h1 h2 ⊢
   cases h3:bZ c a with
   |false=>rfl
   |true=>
    have:=aNw h3 h1
    rw [h2] at this;cases this
  ·cases h3:bZ b a with
   |false=>simp
   |true=>simp [aLS h3]
 exact aGm (R:=fun a b=>bZ b a=false) (S:=fun a b=>bZ a b=true) (fun h hne=>aNv h hne) (fun h h'=>aNw h h') h1
theorem aJp (l:List Edge):(fS (rO bZ l)).length<=l.length:=by
 have:=aFQ (rO bZ l)
 unfold rO at this ⊢
 rwa [List.length_mergeSort] at this
theorem aFS {l:List Edge} {x:Edge}:x∈fS (rO bZ l)<->x∈l:=by
 rw [aFL];unfold rO;rw [List.mem_mergeSort]
end Gv
namespace Gv
open Go
section
variable {c:aH} {r9 r14:Int × Int × Int} {base st:Int}
end
end Gv
namespace Gv
open Go
section
variable {u:bA} {p:List Int}
end
section
variable {p:List Int} {rows:List (List Int)}
end
section
variable {u:bA} {p:List Int}
end
end Gv
namespace Gv
open Go
section
variable {u:bA} {p:List Int}
end
theorem big_of {t:bA} (h:cF t):Big t:=by
 have h1:=h.1
 have h2:=h.2.2.1.2.1
 have h3:=h.2.2.2.1
 exact ⟨by omega,by omega,by omega,fun e he=>xG h he⟩
section
variable {t:bA} {c:Nat} {p:List Int}
end
end Gv
set_option linter.unusedSimpArgs false
set_option linter.unusedVariables false
namespace Gv
open Go
section
variable {t:bA} {c0:Nat} (cs:aH)
def cap (t:bA) (k:Nat):Nat:=(t.E.filter fun e=>decide (e.F < (k:Int))).length+60 * (k - t.N.toNat)
theorem at_ok {k n:Int} (hn:1<=n) (hk:0<=k):∃ v,aLC cs k n=some v/\0<=v/\v < n:=by
 unfold aLC aFB
 split
 ·exact ⟨0,rfl,by omega,by omega⟩
 ·by_cases h:(cs.length:Int)<=k
  ·rw [if_pos (by simpa using h)];exact ⟨0,rfl,by omega,by omega⟩
  ·rw [if_neg (by simpa using h)]
   have hb:=byte_le (cs[k.toNat]'(by omega))
   obtain ⟨v,hv,h1,h2⟩:=rm_ok (x:=((cs[k.toNat]'(by omega)).toNat:Int)) (n:=n) hb.1 hn
   have he:ix cs k=some (cs[k.toNat]'(by omega)):=by
    have:=cG (xs:=cs) (k:=k.toNat) (by omega)
    rwa [Int.toNat_of_nonneg hk] at this
   rw [he,aA,gA (x:=((cs[k.toNat]'(by omega)).toNat:Int)) (by omega) (by omega),hv,aA]
   exact ⟨v,rfl,h1,h2⟩
end
end Gv
set_option linter.unusedSimpArgs false
set_option linter.unusedVariables false
namespace Gv
open Go
section
variable {a b:bA} {p:List Int}
end
end Gv
set_option linter.unusedSimpArgs false
set_option linter.unusedVariables false
namespace Gv
open Go
theorem long_ok (cs ms:aH):∃ b,aGW cs ms=some b:=by
 unfold aGW aEO
 split<;>exact ⟨_,rfl⟩
section
variable {a b:bA} {kind:Int}
end
end Gv
