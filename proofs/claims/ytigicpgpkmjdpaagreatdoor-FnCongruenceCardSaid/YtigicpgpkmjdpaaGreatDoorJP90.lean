/- Greatest relations between the states of two systems, by rounds. No program in sight. -/
import Derived.Test.YtigicpgpkmjdpaaGreatDoorJP80
set_option linter.all false
namespace Gv
open Go
section
variable {a b:bB} {B:Int->Int->Bool} {F:(Int->Int->Bool)->Int->Int->Bool}
structure MonoT (a b:bB) (F:(Int->Int->Bool)->Int->Int->Bool):Prop where
 mono:∀ S T:Int->Int->Bool,(∀ x y,inT a x->inT b y->S x y=true->T x y=true)->∀ x y,inT a x->inT b y->F S x y=true->F T x y=true
end
end Gv
namespace Gv
open Go
def aHV (q p:List Int):Prop:=q.length=p.length/\∀ x y:Nat,x < p.length->y < p.length->q[x]?=q[y]?->p[x]?=p[y]?
theorem aNC (p:List Int) (n:Nat):(rF p n).Nodup:=List.Nodup.sublist List.filter_sublist List.nodup_range
theorem aMx (p:List Int) (n:Nat):(rF p n).length<=n:=by
 have:=List.length_filter_le (fun i=>decide (∀ k,k < i->p[k]?≠p[i]?)) (List.range n)
 rw [List.length_range] at this
 exact this
theorem aLo {q:List Int} {n:Nat}:∀ x,x < n->∃ z,z<=x/\z∈rF q n/\q[z]?=q[x]?:=by
 intro x
 induction x using Nat.strongRecOn with
 |ind x ih=>
  intro hx
  by_cases h:∀ k,k < x->q[k]?≠q[x]?
  ·exact ⟨x,Nat.le_refl _,by unfold rF;rw [List.mem_filter,List.mem_range,decide_eq_true_iff];exact ⟨hx,h⟩,rfl⟩
  ·obtain ⟨k,hk⟩:=Classical.not_forall.1 h
   obtain ⟨hk1,hk2⟩:=Classical.not_imp.1 hk
   obtain ⟨z,z1,z2,z3⟩:=ih k hk1 (by omega)
   exact ⟨z,by omega,z2,z3.trans (Classical.not_not.1 hk2)⟩
theorem aGJ {p q:List Int} (hp:cn p=p) (hq:cn q=q) (hs:aHV q p):q=p\/(rF p p.length).length < (rF q p.length).length:=by
 by_cases h:∀ x y:Nat,x < p.length->y < p.length->p[x]?=p[y]?->q[x]?=q[y]?
 ·left
  rw [←hp,←hq]
  refine aLn ⟨hs.1,fun x y hx hy=>?_⟩
  rw [hs.1] at hx hy
  exact ⟨hs.2 x y hx hy,h x y hx hy⟩
 ·right
  have hsub:∀ i,i∈rF p p.length->i∈rF q p.length:=fun i hi=>by
   unfold rF at hi ⊢
   rw [List.mem_filter,List.mem_range,decide_eq_true_iff] at hi ⊢
   exact ⟨hi.1,fun k hk e=>hi.2 k hk (hs.2 k i (by omega) hi.1 e)⟩
  have hex:∃ z,z∈rF q p.length/\z∉rF p p.length:=by
   apply Classical.byContradiction
   intro hno
   refine h fun x y hx hy e=>?_
   obtain ⟨a,a1,a2,a3⟩:=aLo (q:=q) x hx
   obtain ⟨b,b1,b2,b3⟩:=aLo (q:=q) y hy
   have ha:a∈rF p p.length:=Classical.byContradiction fun h=>hno ⟨a,a2,h⟩
   have hb:b∈rF p p.length:=Classical.byContradiction fun h=>hno ⟨b,b2,h⟩
   have hab:p[a]?=p[b]?:=((hs.2 a x (by omega) hx a3).trans e).trans (hs.2 b y (by omega) hy b3).symm
   unfold rF at ha hb
   rw [List.mem_filter,decide_eq_true_iff] at ha hb
   have:a=b:=by
    rcases Nat.lt_trichotomy a b with h|h|h
    ·exact absurd hab (hb.2 a h)
    ·exact h
    ·exact absurd hab.symm (ha.2 b h)
   subst this
   exact a3.symm.trans b3
  obtain ⟨z,z1,z2⟩:=hex
  have:=List.Nodup.length_le_of_subset (l₁:=z::rF p p.length) (l₂:=rF q p.length) (List.nodup_cons.2 ⟨z2,aNC _ _⟩) (fun i hi=>by
   rcases List.mem_cons.1 hi with rfl|hi
   ·exact z1
   ·exact hsub i hi)
  rw [List.length_cons] at this
  omega
theorem aOI (n:Nat):cn (List.replicate n (0:Int))=List.replicate n 0:=by
 refine List.ext_getElem? fun i=>?_
 by_cases hi:i < n
 ·rw [aJp (by simpa using hi),List.getElem_replicate,List.getElem?_replicate,if_pos hi]
  have hdd:∀ m,dd (List.replicate (m+1) (0:Int))=[0]:=by
   intro m
   induction m with
   |zero=>rfl
   |succ m ih=>rw [List.replicate_succ',aGV,ih];rfl
  obtain ⟨m,rfl⟩:∃ m,n=m+1:=⟨n - 1,by omega⟩
  rw [hdd];rfl
 ·rw [List.getElem?_eq_none (by rw [xS,List.length_replicate];omega),List.getElem?_eq_none (by rw [List.length_replicate];omega)]
theorem cn_cn {κ:Type} [DecidableEq κ] [BEq κ] [LawfulBEq κ] (l:List κ):cn (cn l)=cn l:=aLn (cn_ker l)
theorem aLp {σ ρ:Type} {step:σ->Option (σ ⊕ ρ)} (n:Nat) (I:List Int->σ->Prop) (R:ρ->Prop)
  (h:∀ p s,p.length=n->cn p=p->I p s->(∃ r,step s=some (.inr r)/\R r)\/∃ q s',aHV q p/\cn q=q/\q≠p/\step s=some (.inl s')/\I q s'):
  ∀ (p:List Int) (s:σ),p.length=n->cn p=p->I p s->∃ r,loop step s=some r/\R r:=by
 have key:∀ (m:Nat) (p:List Int) (s:σ),p.length=n->cn p=p->I p s->n<=m+(rF p n).length->∃ r,loop step s=some r/\R r:=by
  intro m
  induction m with
  |zero=>
   intro p s hl hc hI hm
   rcases h p s hl hc hI with ⟨r,h1,h2⟩|⟨q,s',hq,hqc,hne,h1,h2⟩
   ·exact ⟨r,aDM h1,h2⟩
   ·have h3:=(aGJ hc hqc hq).resolve_left hne
    have h4:=aMx q n
    rw [hl] at h3
    omega
  |succ m ih=>
   intro p s hl hc hI hm
   rcases h p s hl hc hI with ⟨r,h1,h2⟩|⟨q,s',hq,hqc,hne,h1,h2⟩
   ·exact ⟨r,aDM h1,h2⟩
   ·have h3:=(aGJ hc hqc hq).resolve_left hne
    rw [hl] at h3
    rw [aEV h1]
    exact ih q s' (hq.1.trans hl) hqc h2 (by omega)
 intro p s hl hc hI
 exact key n p s hl hc hI (by omega)
theorem aJN {κ:Type} [DecidableEq κ] [BEq κ] [LawfulBEq κ] {p:List Int} {keys:List κ} (hl:keys.length=p.length) (h:∀ x y:Nat,x < p.length->y < p.length->keys[x]?=keys[y]?->p[x]?=p[y]?):aHV (cn keys) p:=by
 refine ⟨by rw [xS,hl],fun x y hx hy e=>h x y hx hy ?_⟩
 exact ((cn_ker keys).2 x y (by rw [xS];omega) (by rw [xS];omega)).1 e
end Gv
namespace Gv
open Go
def AftT (t:bB) (S:List Int) (s:aI) (q:Int):Prop:=∃ e∈t.E,sQ t e=s/\e.F∈S/\e.To=q
section
variable {t:bB}
theorem AftT.inn (hv:bW t) {S:List Int} {s:aI} {q:Int} (h:AftT t S s q):0<=q/\q < t.N:=by
 obtain ⟨e,he,_,_,rfl⟩:=h
 exact (aNy hv he).2.1
def Wk (t:bB) (y:Int) (s:aI) (w:Int):Prop:=if s=bF then Cl t (·∈[y]) w else Cl t (fun q=>∃ e∈t.E,sQ t e=s/\Cl t (·∈[y]) e.F/\e.To=q) w
theorem Wk.inn (hv:bW t) {y:Int} (hy:inT t y) {s:aI} {w:Int} (h:Wk t y s w):inT t w:=by
 unfold inT at hy ⊢
 unfold Wk at h
 split at h
 ·exact h.inn hv fun q hq=>by simp at hq;omega
 ·exact h.inn hv fun q hq=>by
   obtain ⟨e,he,_,_,rfl⟩:=hq
   exact (aNy hv he).2.1
end
end Gv
namespace Gv
open Go
def StW (b:bB) (kind y:Int) (s:aI) (w:Int):Prop:=if kind=2 then Wk b y s w else ∃ f∈b.E,f.F=y/\sQ b f=s/\f.To=w
section
variable {a b:bB} {kind:Int}
theorem StW.inn (hb:bW b) {y:Int} (hy:inT b y) {s:aI} {w:Int} (h:StW b kind y s w):inT b w:=by
 unfold StW at h
 split at h
 ·exact h.inn hb hy
 ·obtain ⟨f,hf,_,_,rfl⟩:=h
  exact (pP hb hf).2.1
end
end Gv
namespace Gv
open Go
section
variable {a b:bB} {kind:Int}
end
end Gv
namespace Gv
open Go
section
variable {a b:bB} {kind:Int}
end
end Gv
namespace Gv
open Go
section
variable {a b:bB} {kind:Int}
instance inT_dec (t:bB) (k:Int):Decidable (inT t k):=by unfold inT;infer_instance
end
end Gv
namespace Gv
open Go
section
variable {a b:bB} {kind:Int}
end
end Gv
namespace Gv
open Go
def unA (a b:bB) (M:List aI):List Edge:=(a.E.map fun e=>(⟨e.F,pos (bF::M) (sQ a e),e.To⟩:Edge))++b.E.map fun e=>(⟨e.F+a.N,pos (bF::M) (sQ b e),e.To+a.N⟩:Edge)
structure Uni (a b:bB) (M:List aI) (Eo:List Edge):Prop where
 str:pZ M
 mem:∀ s,s∈M<->s∈a.L++b.L/\s≠bF
 len:M.length<=24
 se:SE Eo
 ed:∀ x,x∈Eo<->x∈unA a b M
 elen:Eo.length<=600
section
variable {a b:bB}
theorem aAX {t:bB} (hv:bW t) {e:Edge} (he:e∈t.E):sQ t e∈t.L:=by
 have:=(pP hv he).2.2
 unfold sQ
 rw [List.getD_eq_getElem?_getD,List.getElem?_eq_getElem (by omega)]
 exact List.getElem_mem _
theorem txt_lab {t:bB} (hv:bW t) {e f:Edge} (he:e∈t.E) (hf:f∈t.E) (h:sQ t e=sQ t f):e.B=f.B:=by
 have h1:=aMr hv he (aAX hv he)
 have h2:=aMr hv hf (aAX hv he)
 rw [beq_self_eq_true] at h1
 rw [h,beq_self_eq_true] at h2
 rw [←h] at h2
 have h1':=beq_iff_eq.1 h1.symm
 have h2':=beq_iff_eq.1 h2.symm
 omega
theorem aLq {γ:Type} [BEq γ] [LawfulBEq γ] {xs:List γ} {x y:γ} (hx:x∈xs) (hy:y∈xs) (h:pos xs x=pos xs y):x=y:=by
 obtain ⟨i,e1,g1⟩:=yY hx
 obtain ⟨j,e2,g2⟩:=yY hy
 have:i=j:=by omega
 subst this
 rw [g1] at g2
 exact Option.some.inj g2
theorem aKi {e f:Edge} (h1:e.F=f.F) (h2:e.B=f.B) (h3:e.To=f.To):e=f:=by
 cases e;cases f;simp_all
theorem aMy (ha:bW a) (hb:bW b) {M:List aI} (hm:∀ s,s∈M<->s∈a.L++b.L/\s≠bF):(unA a b M).Nodup:=by
 have hin:∀ s,s∈a.L++b.L->s∈bF::M:=fun s hs=>by
  by_cases e:s=bF
  ·subst e;simp
  ·exact List.mem_cons_of_mem _ ((hm s).2 ⟨hs,e⟩)
 unfold unA
 rw [List.nodup_append]
 refine ⟨?_,?_,fun x hx y hy e=>?_⟩
 ·refine List.Pairwise.map _ (R:=fun e f:Edge=>e∈a.E/\f∈a.E/\e≠f) (fun e f ⟨he,hf,hne⟩ h=>hne ?_) ?_
  ·simp only [Edge.mk.injEq] at h
   exact aKi h.1 (txt_lab ha he hf (aLq (hin _ (by simp [aAX ha he])) (hin _ (by simp [aAX ha hf])) h.2.1)) h.2.2
  ·exact (aLl (aGH ha)).imp_of_mem fun he hf h=>⟨he,hf,h⟩
 ·refine List.Pairwise.map _ (R:=fun e f:Edge=>e∈b.E/\f∈b.E/\e≠f) (fun e f ⟨he,hf,hne⟩ h=>hne ?_) ?_
  ·simp only [Edge.mk.injEq] at h
   exact aKi (by omega) (txt_lab hb he hf (aLq (hin _ (by simp [aAX hb he])) (hin _ (by simp [aAX hb hf])) h.2.1)) (by omega)
  ·exact (aLl (aGH hb)).imp_of_mem fun he hf h=>⟨he,hf,h⟩
 ·obtain ⟨e1,h1,rfl⟩:=List.mem_map.1 hx
  obtain ⟨e2,h2,h3⟩:=List.mem_map.1 hy
  rw [←h3] at e
  simp only [Edge.mk.injEq] at e
  have:=(pP ha h1).1
  have:=(pP hb h2).1
  unfold inT at *
  omega
theorem uni_ex (ha:bW a) (hb:bW b):∃ M Eo,Uni a b M Eo:=by
 have l1:=ha.2.2.1.2.1
 have l2:=hb.2.2.1.2.1
 have h1:=ha.2.2.2.1
 have h2:=hb.2.2.2.1
 obtain ⟨M,_,j2,j3,j4⟩:=aIN (a.L++b.L) (by rw [List.length_append];omega)
 rw [List.length_append] at j4
 have hnd:=aMy ha hb (M:=M) j3
 refine ⟨M,qD bM (unA a b M),j2,j3,by omega,aFw bM wM wN aCg hnd,fun x=>by unfold qD;rw [List.mem_mergeSort],?_⟩
 unfold qD
 rw [List.length_mergeSort]
 unfold unA
 rw [List.length_append,List.length_map,List.length_map];omega
def aDN (a b:bB) (M:List aI) (Eo:List Edge):bB:=⟨a.N+b.N,a.I,bF::M,Eo⟩
theorem aPT (ha:bW a) (hb:bW b) {M:List aI} {Eo:List Edge} (h:Uni a b M Eo):aIC a b=some (aDN a b M Eo):=by
 have s1:=ha.1
 have s2:=hb.1
 have l1:=ha.2.2.1.2.1
 have l2:=hb.2.2.1.2.1
 have h1:=ha.2.2.2.1
 have h2:=hb.2.2.2.1
 unfold aIC
 rw [arcs_eq (fun e he=>yX ha he) (by omega),aA,arcs_eq (fun e he=>yX hb he) (by omega),aA]
 have key:=kH (step:=fun s:List fX × Int=>aDy a (b.E.map fun e=>(⟨e.F,sQ b e,e.To⟩:fX)) s.1 s.2) (b.E.map fun e=>(⟨e.F,sQ b e,e.To⟩:fX)) (fun j (o:List fX)=>(o,(j:Int)))
  (fun l o=>o++l.map fun x=>(⟨wr (x.from_+a.N),x.label,wr (x.to_+a.N)⟩:fX)) (fun j o=>o.length<=300+j) (fun j o e l hj hx hI=>?_) (fun o _=>by simp only [aDy,cO];simp) (a:=a.E.map fun e=>(⟨e.F,sQ a e,e.To⟩:fX)) (by rw [List.length_map];omega)
 ·rw [show loop (fun s:List fX × Int=>aDy a (b.E.map fun e=>(⟨e.F,sQ b e,e.To⟩:fX)) s.1 s.2) (a.E.map (fun e=>(⟨e.F,sQ a e,e.To⟩:fX)),0)=_ from key,aA]
  unfold aFm
  rw [aPP _ _ (by omega),aA,dS (by omega) (by omega),List.map_map]
  have e0:((fun x:fX=>(⟨wr (x.from_+a.N),x.label,wr (x.to_+a.N)⟩:fX)) ∘ fun e:Edge=>(⟨e.F,sQ b e,e.To⟩:fX))=fun e=>(⟨wr (e.F+a.N),sQ b e,wr (e.To+a.N)⟩:fX):=rfl
  have e1:(b.E.map fun e=>(⟨wr (e.F+a.N),sQ b e,wr (e.To+a.N)⟩:fX))=b.E.map fun e=>(⟨e.F+a.N,sQ b e,e.To+a.N⟩:fX):=by
   refine List.map_congr_left fun e he=>?_
   have:=pP hb he
   unfold inT at this
   rw [dS (by omega) (by omega),dS (by omega) (by omega)]
  have e2:(((a.E.map fun e=>(⟨e.F,sQ a e,e.To⟩:fX))++b.E.map fun e=>(⟨e.F+a.N,sQ b e,e.To+a.N⟩:fX)).map fun x=>(⟨x.from_,pos (bF::M) x.label,x.to_⟩:Edge))=unA a b M:=by
   unfold unA
   rw [List.map_append,List.map_map,List.map_map];rfl
  rw [e0,e1,lts_gen (M:=M) (Eo:=Eo) h.str h.mem (by rw [List.length_append];omega) (by rw [List.length_append,List.length_map,List.length_map];omega) (by rw [e2];exact aMy ha hb h.mem) h.se (fun x=>by rw [e2];exact h.ed x) (by have:=h.len;omega)]
  rfl
 ·left
  rw [List.length_map] at hj
  obtain ⟨hj',rfl⟩:=aBs hx
  refine ⟨o++[_],?_,by simp;omega,by simp [List.append_assoc];rfl⟩
  simp only [aDy,hx,aA,List.getElem_map]
  rw [if_pos (by rw [List.length_map];exact bU hj),cQ (by simp [jA];omega),aA,bK hj (by omega)]
end
end Gv
namespace Gv
open Go
structure Big (u:bB):Prop where
 st:1<=u.N/\u.N<=100
 lab:u.L.length<=100
 ed:u.E.length<=1000
 inn:∀ e∈u.E,inT u e.F/\inT u e.To/\0<=e.B/\e.B < u.L.length
def iC (u:bB) (p:List Int):Prop:=p.length=u.N.toNat/\∀ z∈p,0<=z/\z < u.N
def vl1 (u:bB) (p:List Int) (e:Edge):Int:=e.B * u.N+p.getD e.To.toNat 0
section
variable {u:bB} {p:List Int}
theorem jX (hp:iC u p) {s:Int} (h:inT u s):ix p s=some (p.getD s.toNat 0)/\0<=p.getD s.toNat 0/\p.getD s.toNat 0 < u.N:=by
 unfold inT at h
 have hl:s.toNat < p.length:=by rw [hp.1];omega
 have e:p.getD s.toNat 0=p[s.toNat]:=by rw [List.getD_eq_getElem?_getD,List.getElem?_eq_getElem hl];rfl
 rw [e]
 exact ⟨aHg h.1 hl,hp.2 _ (List.getElem_mem hl)⟩
theorem mul_b {l m s n:Int} (h1:0<=l) (h2:l<=m) (h3:0<=s) (h4:s<=n):0<=l * s/\l * s<=m * n:=
 ⟨Int.mul_nonneg h1 h3,Int.mul_le_mul h2 h4 h3 (by omega)⟩
theorem vl1_wr (hu:Big u) (hp:iC u p) {e:Edge} (he:e∈u.E):wr (wr (e.B * u.N)+p.getD e.To.toNat 0)=vl1 u p e:=by
 have h1:=hu.inn e he
 have h2:=(jX hp h1.2.1).2
 have h3:=hu.st
 have h4:=hu.lab
 have h5:=mul_b (l:=e.B) (m:=100) (s:=u.N) (n:=100) h1.2.2.1 (by omega) (by omega) (by omega)
 unfold vl1
 rw [dS (x:=e.B * u.N) (by omega) (by omega),dS (by omega) (by omega)]
theorem part_cn (hu:Big u) {κ:Type} [DecidableEq κ] [BEq κ] [LawfulBEq κ] {l:List κ} (h:l.length=u.N.toNat):iC u (cn l):=by
 have:=hu.st
 refine ⟨by rw [xS,h],fun z hz=>?_⟩
 have:=cn_in hz
 omega
theorem aOJ {l:List Int} {i j:Nat} (hi:i < l.length) (hj:j < l.length):l.getD i 0=l.getD j 0<->l[i]?=l[j]?:=by
 rw [List.getD_eq_getElem?_getD,List.getD_eq_getElem?_getD,List.getElem?_eq_getElem hi,List.getElem?_eq_getElem hj]
 simp
end
end Gv
namespace Gv
open Go
section
variable {a b:bB}
theorem aGX {M:List aI} {Eo:List Edge} (h:Uni a b M Eo) {s:aI} (hs:s∈a.L\/s∈b.L):s∈bF::M:=by
 by_cases e:s=bF
 ·subst e;simp
 ·exact List.mem_cons_of_mem _ ((h.mem s).2 ⟨by simpa using hs,e⟩)
theorem aKj {γ:Type} [BEq γ] [LawfulBEq γ] {xs:List γ} {x:γ} (hx:x∈xs):0<=pos xs x/\pos xs x < xs.length:=by
 obtain ⟨i,e,g⟩:=yY hx
 have:=(List.getElem?_eq_some_iff.1 g).1
 omega
theorem uni_big (ha:bW a) (hb:bW b) {M:List aI} {Eo:List Edge} (h:Uni a b M Eo):Big (aDN a b M Eo):=by
 have s1:=ha.1
 have s2:=hb.1
 have hl:=h.len
 have he:=h.elen
 refine ⟨by show 1<=a.N+b.N/\a.N+b.N<=100;omega,by show (bF::M).length<=100;rw [List.length_cons];omega,by show Eo.length<=1000;omega,fun e hE=>?_⟩
 have hE':=(h.ed e).1 hE
 unfold unA at hE'
 show (0<=e.F/\e.F < a.N+b.N)/\(0<=e.To/\e.To < a.N+b.N)/\0<=e.B/\e.B < ((bF::M).length:Int)
 rcases List.mem_append.1 hE' with g|g
 ·obtain ⟨f,hf,rfl⟩:=List.mem_map.1 g
  have h1:=pP ha hf
  have h2:=aKj (aGX h (.inl (aAX ha hf)))
  unfold inT at h1
  simp only;omega
 ·obtain ⟨f,hf,rfl⟩:=List.mem_map.1 g
  have h1:=pP hb hf
  have h2:=aKj (aGX h (.inr (aAX hb hf)))
  unfold inT at h1
  simp only;omega
end
end Gv
namespace Gv
open Go
section
variable {κ β:Type} [DecidableEq β] [BEq β] [LawfulBEq β] {key:κ->β}
theorem atK_pos (F:List κ) (q:κ):atK key F q=pos ((uU key F q).map key) (key q):=by
 unfold atK uU
 by_cases h:key q∈F.map key
 ·rw [if_pos h,if_pos h]
 ·rw [if_neg h,if_neg h,List.map_append,List.map_singleton,aLi h,List.length_map]
end
end Gv
namespace Gv
open Go
theorem anU_le (x:Int):0<=anU x 255/\anU x 255<=255:=by
 unfold anU
 have h:(BitVec.ofInt 64 x&&& BitVec.ofInt 64 255).toNat<=255:=by
  rw [BitVec.toNat_and]
  exact Nat.le_trans Nat.and_le_right (by decide)
 unfold lC
 omega
theorem shU_ok (x:Int):∃ y,shU x 40=some y:=⟨_,by unfold shU;rw [if_pos (by decide)]⟩
theorem byte_le (b:UInt8):0<=(b.toNat:Int)/\(b.toNat:Int)<=255:=by
 have:=b.toNat_lt
 omega
theorem next_ok (c:aI) {s1:Int} (s2:Int) (h:0<=s1/\s1<=1000000000000):∃ v s2',uG c s1 s2=some (v,s1+1,s2')/\0<=v/\v<=255:=by
 have hw:wr (s1+1)=s1+1:=dS (by omega) (by omega)
 have key:∀ b:Int,0<=b/\b<=255->∃ v s2',rS c s1 s2 b=some (v,s1+1,s2')/\0<=v/\v<=255:=by
  intro b hb
  unfold rS
  rw [hw]
  split
  ·exact ⟨_,_,rfl,hb⟩
  ·obtain ⟨y,hy⟩:=shU_ok (lC ((lC ((lC (s2 * 6364136223846793005))+(lC b)))+1442695040888963407))
   rw [hy,aA]
   have h2:=anU_le y
   refine ⟨_,_,rfl,?_⟩
   rw [dS (by omega) (by omega)];exact h2
 unfold uG
 split
 ·rename_i hlt
  have hlt':s1 < (c.length:Int):=by simpa using hlt
  rw [aHg h.1 (by omega),aA]
  have hb:=byte_le (c[s1.toNat]'(by omega))
  rw [dS (by omega) (by omega)]
  exact key _ hb
 ·exact key 0 (by omega)
theorem rm_ok {x n:Int} (hx:0<=x) (hn:1<=n):∃ v,rm x n=some v/\0<=v/\v < n:=by
 unfold rm
 rw [if_neg (by omega)]
 have e:x.tmod n=x % n:=Int.tmod_eq_emod_of_nonneg hx
 have h1:=Int.emod_nonneg x (show n≠0 by omega)
 have h2:=Int.emod_lt_of_pos x (show 0 < n by omega)
 first
  |exact ⟨_,rfl,by rw [e];exact h1,by rw [e];exact h2⟩
  |exact ⟨_,rfl,by rw [e,dS]<;>omega,by rw [e,dS]<;>omega⟩
theorem xI (c:aI) {s1 n:Int} (s2:Int) (h:0<=s1/\s1<=100000000000) (hn:1<=n):∃ v s1' s2',dZ c s1 s2 n=some (v,s1',s2')/\(0<=v/\v < n)/\s1<=s1'/\s1'<=s1+2:=by
 unfold dZ
 by_cases h1:n<=1
 ·rw [if_pos (by simpa using h1)]
  exact ⟨_,_,_,rfl,by omega,by omega,by omega⟩
 ·rw [if_neg (by simpa using h1)]
  obtain ⟨v,t2,e,g1,g2⟩:=next_ok c s2 (s1:=s1) (by omega)
  rw [e,aA]
  simp only
  have key:∀ x a b:Int,0<=x->s1<=a->a<=s1+2->∃ v s1' s2',rT n x a b=some (v,s1',s2')/\(0<=v/\v < n)/\s1<=s1'/\s1'<=s1+2:=by
   intro x a b hx ha hb
   unfold rT
   obtain ⟨y,hy,q1,q2⟩:=rm_ok hx (show 1<=n by omega)
   rw [hy,aA]
   exact ⟨_,_,_,rfl,⟨q1,q2⟩,ha,hb⟩
  by_cases h2:200 < n
  ·rw [if_pos (by simpa using h2)]
   obtain ⟨v',t2',e',g1',g2'⟩:=next_ok c t2 (s1:=s1+1) (by omega)
   rw [e',aA]
   simp only
   rw [dS (x:=v * 256) (by omega) (by omega),dS (by omega) (by omega)]
   exact key _ _ _ (by omega) (by omega) (by omega)
  ·rw [if_neg (by simpa using h2)]
   exact key _ _ _ g1 (by omega) (by omega)
theorem aND (c:aI) {s1 n:Int} (s2:Int) (h:0<=s1/\s1<=100000000000) (hn:1<=n):∃ b s1' s2',tB c s1 s2 n=some (b,s1',s2')/\s1<=s1'/\s1'<=s1+2:=by
 obtain ⟨v,a,b,e,_,h2,h3⟩:=xI c s2 h hn
 unfold tB
 rw [e,aA]
 exact ⟨_,_,_,rfl,h2,h3⟩
theorem among_ok (c:aI) {s1:Int} (s2:Int) (h:0<=s1/\s1<=100000000000) {l:List Int} (hl:l≠[]):∃ v s1' s2',aAw c s1 s2 l=some (v,s1',s2')/\v∈l/\s1<=s1'/\s1'<=s1+2:=by
 have h1:1<=(l.length:Int):=by
  have:=List.length_pos_iff.2 hl
  omega
 obtain ⟨v,a,b,e,hv,h2,h3⟩:=xI c s2 h h1
 unfold aAw
 rw [e,aA]
 simp only
 rw [aHg hv.1 (by omega),aA]
 exact ⟨_,_,_,rfl,List.getElem_mem _,h2,h3⟩
end Gv
namespace Gv
open Go
def Nm:List aI:=[bF,[97],[98],[99],[103,101,116,40,48,41],[103,101,116,40,49,41]]
theorem Nm_len:∀ s∈Nm,s.length<=6:=by decide
structure Drn (c:Nat) (t:bB):Prop where
 ok:bW t
 nm:∀ s∈t.L,s∈Nm
 st:t.N<=10
 ed:t.E.length<=c
theorem Drn.fits {c:Nat} {t:bB} (h:Drn c t):vG 999999999 t:=by
 have h1:=h.ok.2.2.1.2.1
 have h2:=h.ok.2.2.2.1
 refine ⟨by omega,fun s hs=>?_,by omega⟩
 have:=Nm_len s (h.nm s hs)
 omega
theorem Drn.mono {c d:Nat} {t:bB} (h:Drn c t) (hc:c<=d):Drn d t:=⟨h.ok,h.nm,h.st,Nat.le_trans h.ed hc⟩
theorem aGY (l:List Edge):SE (eC (qD bM l)):=by
 have h1:(qD bM l).Pairwise fun a b=>bM b a=false:=by
  have:=List.pairwise_mergeSort (le:=fun a b=>!bM b a) (fun a b c h1 h2=>?_) (fun a b=>?_) l
  ·refine this.imp fun {a b} h=>?_
   simpa using h
  ·simp only [Bool.not_eq_true'] at h1 h2 ⊢
   cases h3:bM c a with
   |false=>rfl
   |true=>
    have:=aMw h3 h1
    rw [h2] at this;cases this
  ·cases h3:bM b a with
   |false=>simp
   |true=>simp [aKY h3]
 exact aFt (R:=fun a b=>bM b a=false) (S:=fun a b=>bM a b=true) (fun h hne=>aMv h hne) (fun h h'=>aMw h h') h1
theorem aDO (l:List Edge):(eC (qD bM l)).length<=l.length:=by
 have:=aGW (qD bM l)
 unfold qD at this ⊢
 rwa [List.length_mergeSort] at this
theorem aAY {l:List Edge} {x:Edge}:x∈eC (qD bM l)<->x∈l:=by
 rw [aET];unfold qD;rw [List.mem_mergeSort]
end Gv
namespace Gv
open Go
section
variable {c:aI} {r9 r14:Int × Int × Int} {base st:Int}
end
end Gv
namespace Gv
open Go
theorem aOK (a b:List Int) (h:a.length < 4611686018427387904):aDa a b=some (decide (a=b)):=by
 unfold aDa
 by_cases hl:a.length=b.length
 ·rw [if_neg (by simp [hl])]
  have:=aOt (step:=fun s=>aCQ a b s) (a.zip b) (fun p=>decide (p.1=p.2)) (.inr false) (.inl ()) (fun k x hk hx=>?_) ?_
  ·rw [this,aA]
   by_cases he:a=b
   ·subst he
    have:((a.zip a).all fun p=>decide (p.1=p.2))=true:=by
     rw [List.all_eq_true]
     intro p hp
     obtain ⟨i,hi,rfl⟩:=List.mem_iff_getElem.1 hp
     rw [List.getElem_zip];simp
    rw [if_pos this,decide_eq_true rfl];rfl
   ·have:¬ ((a.zip b).all fun p=>decide (p.1=p.2))=true:=fun h'=>he (List.ext_getElem hl fun i h1 h2=>by
     rw [List.all_eq_true] at h'
     have hiz:i < (a.zip b).length:=by rw [List.length_zip];omega
     have:=h' (a.zip b)[i] (List.getElem_mem hiz)
     rw [List.getElem_zip] at this
     simpa using this)
    rw [if_neg this,decide_eq_false he]
  ·have hzl:(a.zip b).length=a.length:=by rw [List.length_zip];omega
   rw [hzl] at hk
   obtain ⟨hk',rfl⟩:=aBs hx
   unfold aCQ
   rw [if_pos (bU hk),bR hk,aA,bR (by omega),aA,List.getElem_zip]
   by_cases e:a[k]=b[k]'(by omega)
   ·rw [if_neg (by simp [e]),if_pos (by simp [e]),bK hk h]
   ·rw [if_pos (by simpa using e),if_neg (by simpa using e)]
  ·have hzl:(a.zip b).length=a.length:=by rw [List.length_zip];omega
   rw [hzl]
   unfold aCQ
   rw [if_neg (by simp)]
 ·rw [if_pos (by simp;omega),decide_eq_false (fun h=>hl (by rw [h]))]
section
variable {u:bB} {p:List Int}
end
def kz (p:List Int) (rows:List (List Int)):List (List Int):=List.zipWith (fun a r=>a::r) p rows
section
variable {p:List Int} {rows:List (List Int)}
theorem aEx (h:rows.length=p.length):(kz p rows).length=p.length:=by unfold kz;simp [h]
theorem aJr (h:rows.length=p.length) {k:Nat} (hk:k < p.length):(kz p rows)[k]'(by rw [aEx h];exact hk)=p[k]::rows[k]'(by omega):=by unfold kz;simp
theorem kz_splits (hl:rows.length=p.length):aHV (cn (kz p rows)) p:=
 aJN (aEx hl) fun x y hx hy h=>by
  rw [List.getElem?_eq_getElem (by rw [aEx hl];exact hx),List.getElem?_eq_getElem (by rw [aEx hl];exact hy),aJr hl hx,aJr hl hy,Option.some.injEq,List.cons.injEq] at h
  rw [List.getElem?_eq_getElem hx,List.getElem?_eq_getElem hy,h.1]
end
section
variable {u:bB} {p:List Int}
theorem part0 (hu:Big u):mkz u.N (0:Int)=some (List.replicate u.N.toNat 0)/\iC u (List.replicate u.N.toNat 0):=by
 have h3:=hu.st
 refine ⟨?_,by simp,fun z hz=>by rw [List.mem_replicate] at hz;omega⟩
 unfold mkz
 rw [if_pos ⟨by omega,by unfold jA;omega⟩]
end
end Gv
namespace Gv
open Go
section
variable {u:bB} {p:List Int}
def cnt (l:List Bool):Nat:=l.count true
theorem cnt_le (l:List Bool):cnt l<=l.length:=List.count_le_length
theorem cnt_off {l:List Bool} {k:Nat} (hk:k < l.length) (h:l[k]=true):cnt (l.set k false) < cnt l:=by
 unfold cnt
 rw [List.count_set hk,h]
 have:0 < l.count true:=List.count_pos_iff.2 (h ▸ List.getElem_mem hk)
 simp;omega
theorem cnt_on {l:List Bool} {k:Nat} (hk:k < l.length) (h:l[k]=false):cnt l < cnt (l.set k true):=by
 unfold cnt
 rw [List.count_set hk,h]
 simp
theorem ixB {l:List Bool} {s:Int} (hl:l.length=u.N.toNat) (hs:inT u s):∃ hk:s.toNat < l.length,ix l s=some l[s.toNat]:=by
 unfold inT at hs
 exact ⟨by omega,aHg hs.1 (by omega)⟩
end
theorem aJs {t:bB} (h:bW t):Big t:=by
 have h1:=h.1
 have h2:=h.2.2.1.2.1
 have h3:=h.2.2.2.1
 exact ⟨by omega,by omega,by omega,fun e he=>pP h he⟩
section
variable {t:bB} {c:Nat} {p:List Int}
end
end Gv
set_option linter.unusedSimpArgs false
set_option linter.unusedVariables false
namespace Gv
open Go
section
variable {t:bB} {c0:Nat} (cs:aI)
def cap (t:bB) (k:Nat):Nat:=(t.E.filter fun e=>decide (e.F < (k:Int))).length+60 * (k - t.N.toNat)
theorem at_ok {k n:Int} (hn:1<=n) (hk:0<=k):∃ v,aKI cs k n=some v/\0<=v/\v < n:=by
 unfold aKI aEL
 split
 ·exact ⟨0,rfl,by omega,by omega⟩
 ·by_cases h:(cs.length:Int)<=k
  ·rw [if_pos (by simpa using h)];exact ⟨0,rfl,by omega,by omega⟩
  ·rw [if_neg (by simpa using h)]
   have hb:=byte_le (cs[k.toNat]'(by omega))
   obtain ⟨v,hv,h1,h2⟩:=rm_ok (x:=((cs[k.toNat]'(by omega)).toNat:Int)) (n:=n) hb.1 hn
   have he:ix cs k=some (cs[k.toNat]'(by omega)):=by
    have:=bR (xs:=cs) (k:=k.toNat) (by omega)
    rwa [Int.toNat_of_nonneg hk] at this
   rw [he,aA,dS (x:=((cs[k.toNat]'(by omega)).toNat:Int)) (by omega) (by omega),hv,aA]
   exact ⟨v,rfl,h1,h2⟩
end
end Gv
set_option linter.unusedSimpArgs false
set_option linter.unusedVariables false
namespace Gv
open Go
section
variable {a b:bB} {p:List Int}
end
end Gv
set_option linter.unusedSimpArgs false
set_option linter.unusedVariables false
namespace Gv
open Go
theorem long_ok (cs ms:aI):∃ b,aGh cs ms=some b:=by
 unfold aGh aEa
 split<;>exact ⟨_,rfl⟩
section
variable {a b:bB} {kind:Int}
end
end Gv
