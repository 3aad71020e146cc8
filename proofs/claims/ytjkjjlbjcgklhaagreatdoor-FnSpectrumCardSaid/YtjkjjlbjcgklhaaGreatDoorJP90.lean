/- Greatest relations between the states of two systems, by rounds. No program in sight. -/
import Derived.Test.YtjkjjlbjcgklhaaGreatDoorJP80
set_option linter.all false
namespace Gv
open Go
def rN (B:Int->Int->Bool) (F:(Int->Int->Bool)->Int->Int->Bool):Nat->Int->Int->Bool
 |0=>B
 |n+1=>fun x y=>rN B F n x y&&F (rN B F n) x y
def prs2 (a b:aO):List (Int × Int):=(List.range a.N.toNat).flatMap fun x:Nat=>(List.range b.N.toNat).map fun y:Nat=>((x:Int),(y:Int))
theorem prs2_mem {a b:aO} {p:Int × Int}:p∈prs2 a b<->cF a p.1/\cF b p.2:=by
 obtain ⟨x0,y0⟩:=p
 unfold prs2 cF
 simp only [List.mem_flatMap,List.mem_map,List.mem_range,Prod.mk.injEq]
 constructor
 ·rintro ⟨x,hx,y,hy,rfl,rfl⟩
  omega
 ·rintro ⟨⟨h1,h2⟩,h3,h4⟩
  exact ⟨x0.toNat,by omega,y0.toNat,by omega,by omega,by omega⟩
theorem aUd (a b:aO):(prs2 a b).Nodup:=by
 unfold prs2 List.Nodup
 rw [List.pairwise_flatMap]
 refine ⟨fun x _=>?_,?_⟩
 ·rw [List.pairwise_map]
  refine List.nodup_range.imp fun {a b} hab e=>?_
  simp only [Prod.mk.injEq] at e
  exact hab (by omega)
 ·refine List.nodup_range.imp fun {a b} hab x hx y hy e=>?_
  obtain ⟨i,_,rfl⟩:=List.mem_map.1 hx
  obtain ⟨j,_,rfl⟩:=List.mem_map.1 hy
  simp only [Prod.mk.injEq] at e
  exact hab (by omega)
section
variable {a b:aO} {B:Int->Int->Bool} {F:(Int->Int->Bool)->Int->Int->Bool}
theorem rN_le {n:Nat} {x y:Int} (h:rN B F (n+1) x y=true):rN B F n x y=true:=by
 unfold rN at h
 rw [Bool.and_eq_true] at h
 exact h.1
theorem aQT:∀ (n:Nat) {x y:Int},rN B F n x y=true->B x y=true
 |0,_,_,h=>h
 |n+1,_,_,h=>aQT n (rN_le h)
structure MonoT (a b:aO) (F:(Int->Int->Bool)->Int->Int->Bool):Prop where
 mono:∀ S T:Int->Int->Bool,(∀ x y,cF a x->cF b y->S x y=true->T x y=true)->∀ x y,cF a x->cF b y->F S x y=true->F T x y=true
theorem aQU (hF:MonoT a b F) {R:Int->Int->Bool} (h0:∀ x y,cF a x->cF b y->R x y=true->B x y=true) (h1:∀ x y,cF a x->cF b y->R x y=true->F R x y=true):
  ∀ (n:Nat) {x y:Int},cF a x->cF b y->R x y=true->rN B F n x y=true
 |0,x,y,hx,hy,h=>h0 x y hx hy h
 |n+1,x,y,hx,hy,h=>by
  unfold rN
  rw [Bool.and_eq_true]
  exact ⟨aQU hF h0 h1 n hx hy h,hF.mono R _ (fun x y hx hy h=>aQU hF h0 h1 n hx hy h) x y hx hy (h1 x y hx hy h)⟩
def rL (a b:aO) (B:Int->Int->Bool) (F:(Int->Int->Bool)->Int->Int->Bool) (n:Nat):List (Int × Int):=(prs2 a b).filter fun p=>rN B F n p.1 p.2
def rSt (a b:aO) (B:Int->Int->Bool) (F:(Int->Int->Bool)->Int->Int->Bool) (n:Nat):Prop:=∀ x y:Int,cF a x->cF b y->rN B F (n+1) x y=rN B F n x y
theorem rL_mem {n:Nat} {p:Int × Int}:p∈rL a b B F n<->(cF a p.1/\cF b p.2)/\rN B F n p.1 p.2=true:=by
 unfold rL
 rw [List.mem_filter,prs2_mem]
theorem rL_nodup (n:Nat):(rL a b B F n).Nodup:=(aUd a b).filter _
theorem aQV (n:Nat):rL a b B F (n+1)=(rL a b B F n).filter fun p=>rN B F (n+1) p.1 p.2:=by
 unfold rL
 rw [List.filter_filter]
 refine List.filter_congr fun p _=>?_
 cases h:rN B F (n+1) p.1 p.2 with
 |false=>rfl
 |true=>rw [rN_le h];rfl
theorem rL_le (n:Nat):(rL a b B F (n+1)).length<=(rL a b B F n).length:=by rw [aQV];exact List.length_filter_le _ _
theorem aNe (n:Nat):rSt a b B F n<->(rL a b B F (n+1)).length=(rL a b B F n).length:=by
 rw [aQV,List.length_filter_eq_length_iff]
 constructor
 ·intro h p hp
  have:=rL_mem.1 hp
  rw [h _ _ this.1.1 this.1.2];exact this.2
 ·intro h x y hx hy
  cases h1:rN B F n x y with
  |true=>exact h (x,y) (rL_mem.2 ⟨⟨hx,hy⟩,h1⟩)
  |false=>
   cases h2:rN B F (n+1) x y with
   |false=>rfl
   |true=>rw [rN_le h2] at h1;cases h1
theorem aQW (a b:aO) (B:Int->Int->Bool) (F:(Int->Int->Bool)->Int->Int->Bool):∃ n,rSt a b B F n/\∀ m,m < n->¬ rSt a b B F m:=by
 have hex:∃ n,rSt a b B F n:=by
  refine Classical.byContradiction fun h=>?_
  have h':∀ n,¬ rSt a b B F n:=fun n hn=>h ⟨n,hn⟩
  have key:∀ n,(rL a b B F n).length+n<=(rL a b B F 0).length:=by
   intro n
   induction n with
   |zero=>simp
   |succ n ih=>
    have h1:=rL_le (a:=a) (b:=b) (B:=B) (F:=F) n
    have h2:=h' n
    rw [aNe] at h2
    omega
  have:=key ((rL a b B F 0).length+1)
  omega
 obtain ⟨n,hn⟩:=hex
 induction n using Nat.strongRecOn with
 |ind n ih=>
  by_cases h:∃ m,m < n/\rSt a b B F m
  ·obtain ⟨m,hm,hs⟩:=h
   exact ih m hm hs
  ·exact ⟨n,hn,fun m hm hs=>h ⟨m,hm,hs⟩⟩
noncomputable def rF (a b:aO) (B:Int->Int->Bool) (F:(Int->Int->Bool)->Int->Int->Bool):Nat:=Classical.choose (aQW a b B F)
noncomputable def rG (a b:aO) (B:Int->Int->Bool) (F:(Int->Int->Bool)->Int->Int->Bool) (x y:Int):Bool:=rN B F (rF a b B F) x y
theorem rF_stab:rSt a b B F (rF a b B F):=(Classical.choose_spec (aQW a b B F)).1
theorem rF_min {n:Nat} (h:n < rF a b B F):¬ rSt a b B F n:=(Classical.choose_spec (aQW a b B F)).2 n h
theorem rG_post {x y:Int} (hx:cF a x) (hy:cF b y) (h:rG a b B F x y=true):B x y=true/\F (rG a b B F) x y=true:=by
 refine ⟨aQT _ h,?_⟩
 have h1:=rF_stab (a:=a) (b:=b) (B:=B) (F:=F) x y hx hy
 have h2:rN B F (rF a b B F+1) x y=true:=by rw [h1];exact h
 unfold rN at h2
 rw [Bool.and_eq_true] at h2
 exact h2.2
theorem rG_max (hF:MonoT a b F) {R:Int->Int->Bool} (h0:∀ x y,cF a x->cF b y->R x y=true->B x y=true) (h1:∀ x y,cF a x->cF b y->R x y=true->F R x y=true) {x y:Int} (hx:cF a x) (hy:cF b y) (h:R x y=true):rG a b B F x y=true:=
 aQU hF h0 h1 _ hx hy h
theorem loop_rG {σ ρ:Type} {step:σ->Option (σ ⊕ ρ)} (I:Nat->σ->Prop) (R:ρ->Prop)
  (h1:∀ n s,n < rF a b B F->I n s->∃ s',step s=some (.inl s')/\I (n+1) s') (h2:∀ s,I (rF a b B F) s->∃ r,step s=some (.inr r)/\R r) {s:σ} (h0:I 0 s):∃ r,loop step s=some r/\R r:=by
 have key:∀ j n s,n+j=rF a b B F->I n s->∃ r,loop step s=some r/\R r:=by
  intro j
  induction j with
  |zero=>
   intro n s e hI
   obtain rfl:n=rF a b B F:=by omega
   obtain ⟨r,h3,h4⟩:=h2 s hI
   exact ⟨r,by rw [bR,h3],h4⟩
  |succ j ih=>
   intro n s e hI
   obtain ⟨s',h3,h4⟩:=h1 n s (by omega) hI
   rw [bR,h3]
   exact ih (n+1) s' (by omega) h4
 exact key _ 0 s (Nat.zero_add _) h0
end
end Gv
namespace Gv
open Go
def aHF (q p:List Int):Prop:=q.length=p.length/\∀ x y:Nat,x < p.length->y < p.length->q[x]?=q[y]?->p[x]?=p[y]?
theorem aQX (p:List Int) (n:Nat):(rW p n).Nodup:=List.Nodup.sublist List.filter_sublist List.nodup_range
theorem aPQ (p:List Int) (n:Nat):(rW p n).length<=n:=by
 have:=List.length_filter_le (fun i=>decide (∀ k,k < i->p[k]?≠p[i]?)) (List.range n)
 rw [List.length_range] at this
 exact this
theorem aOs {q:List Int} {n:Nat}:∀ x,x < n->∃ z,z<=x/\z∈rW q n/\q[z]?=q[x]?:=by
 intro x
 induction x using Nat.strongRecOn with
 |ind x ih=>
  intro hx
  by_cases h:∀ k,k < x->q[k]?≠q[x]?
  ·exact ⟨x,Nat.le_refl _,by unfold rW;rw [List.mem_filter,List.mem_range,decide_eq_true_iff];exact ⟨hx,h⟩,rfl⟩
  ·obtain ⟨k,hk⟩:=Classical.not_forall.1 h
   obtain ⟨hk1,hk2⟩:=Classical.not_imp.1 hk
   obtain ⟨z,z1,z2,z3⟩:=ih k hk1 (by omega)
   exact ⟨z,by omega,z2,z3.trans (Classical.not_not.1 hk2)⟩
theorem aIZ {p q:List Int} (hp:cn p=p) (hq:cn q=q) (hs:aHF q p):q=p\/(rW p p.length).length < (rW q p.length).length:=by
 by_cases h:∀ x y:Nat,x < p.length->y < p.length->p[x]?=p[y]?->q[x]?=q[y]?
 ·left
  rw [←hp,←hq]
  refine aOr ⟨hs.1,fun x y hx hy=>?_⟩
  rw [hs.1] at hx hy
  exact ⟨hs.2 x y hx hy,h x y hx hy⟩
 ·right
  have hsub:∀ i,i∈rW p p.length->i∈rW q p.length:=fun i hi=>by
   unfold rW at hi ⊢
   rw [List.mem_filter,List.mem_range,decide_eq_true_iff] at hi ⊢
   exact ⟨hi.1,fun k hk e=>hi.2 k hk (hs.2 k i (by omega) hi.1 e)⟩
  have hex:∃ z,z∈rW q p.length/\z∉rW p p.length:=by
   apply Classical.byContradiction
   intro hno
   refine h fun x y hx hy e=>?_
   obtain ⟨a,a1,a2,a3⟩:=aOs (q:=q) x hx
   obtain ⟨b,b1,b2,b3⟩:=aOs (q:=q) y hy
   have ha:a∈rW p p.length:=Classical.byContradiction fun h=>hno ⟨a,a2,h⟩
   have hb:b∈rW p p.length:=Classical.byContradiction fun h=>hno ⟨b,b2,h⟩
   have hab:p[a]?=p[b]?:=((hs.2 a x (by omega) hx a3).trans e).trans (hs.2 b y (by omega) hy b3).symm
   unfold rW at ha hb
   rw [List.mem_filter,decide_eq_true_iff] at ha hb
   have:a=b:=by
    rcases Nat.lt_trichotomy a b with h|h|h
    ·exact absurd hab (hb.2 a h)
    ·exact h
    ·exact absurd hab.symm (ha.2 b h)
   subst this
   exact a3.symm.trans b3
  obtain ⟨z,z1,z2⟩:=hex
  have:=List.Nodup.length_le_of_subset (l₁:=z::rW p p.length) (l₂:=rW q p.length) (List.nodup_cons.2 ⟨z2,aQX _ _⟩) (fun i hi=>by
   rcases List.mem_cons.1 hi with rfl|hi
   ·exact z1
   ·exact hsub i hi)
  rw [List.length_cons] at this
  omega
theorem aOt (n:Nat):cn (List.replicate n (0:Int))=List.replicate n 0:=by
 refine List.ext_getElem? fun i=>?_
 by_cases hi:i < n
 ·rw [aMg (by simpa using hi),List.getElem_replicate,List.getElem?_replicate,if_pos hi]
  have hdd:∀ m,dd (List.replicate (m+1) (0:Int))=[0]:=by
   intro m
   induction m with
   |zero=>rfl
   |succ m ih=>rw [List.replicate_succ',aJu,ih];rfl
  obtain ⟨m,rfl⟩:∃ m,n=m+1:=⟨n - 1,by omega⟩
  rw [hdd];rfl
 ·rw [List.getElem?_eq_none (by rw [yV,List.length_replicate];omega),List.getElem?_eq_none (by rw [List.length_replicate];omega)]
theorem cn_cn {κ:Type} [DecidableEq κ] [BEq κ] [LawfulBEq κ] (l:List κ):cn (cn l)=cn l:=aOr (cn_ker l)
theorem aKy {σ ρ:Type} {step:σ->Option (σ ⊕ ρ)} (n:Nat) (I:List Int->σ->Prop) (R:ρ->Prop)
  (h:∀ p s,p.length=n->cn p=p->I p s->(∃ r,step s=some (.inr r)/\R r)\/∃ q s',aHF q p/\cn q=q/\q≠p/\step s=some (.inl s')/\I q s'):
  ∀ (p:List Int) (s:σ),p.length=n->cn p=p->I p s->∃ r,loop step s=some r/\R r:=by
 have key:∀ (m:Nat) (p:List Int) (s:σ),p.length=n->cn p=p->I p s->n<=m+(rW p n).length->∃ r,loop step s=some r/\R r:=by
  intro m
  induction m with
  |zero=>
   intro p s hl hc hI hm
   rcases h p s hl hc hI with ⟨r,h1,h2⟩|⟨q,s',hq,hqc,hne,h1,h2⟩
   ·exact ⟨r,aDF h1,h2⟩
   ·have h3:=(aIZ hc hqc hq).resolve_left hne
    have h4:=aPQ q n
    rw [hl] at h3
    omega
  |succ m ih=>
   intro p s hl hc hI hm
   rcases h p s hl hc hI with ⟨r,h1,h2⟩|⟨q,s',hq,hqc,hne,h1,h2⟩
   ·exact ⟨r,aDF h1,h2⟩
   ·have h3:=(aIZ hc hqc hq).resolve_left hne
    rw [hl] at h3
    rw [aFt h1]
    exact ih q s' (hq.1.trans hl) hqc h2 (by omega)
 intro p s hl hc hI
 exact key n p s hl hc hI (by omega)
theorem aJa {κ:Type} [DecidableEq κ] [BEq κ] [LawfulBEq κ] {p:List Int} {keys:List κ} (hl:keys.length=p.length) (h:∀ x y:Nat,x < p.length->y < p.length->keys[x]?=keys[y]?->p[x]?=p[y]?):aHF (cn keys) p:=by
 refine ⟨by rw [yV,hl],fun x y hx hy e=>h x y hx hy ?_⟩
 exact ((cn_ker keys).2 x y (by rw [yV];omega) (by rw [yV];omega)).1 e
end Gv
namespace Gv
open Go
def AftT (t:aO) (S:List Int) (s:aL) (q:Int):Prop:=∃ e∈t.E,qA t e=s/\e.F∈S/\e.To=q
section
variable {t:aO}
theorem AftT.inn (hv:aN t) {S:List Int} {s:aL} {q:Int} (h:AftT t S s q):0<=q/\q < t.N:=by
 obtain ⟨e,he,_,_,rfl⟩:=h
 exact (aFr hv he).2.1
theorem aOv (hv:aN t) {S:List Int} (hS:S.length < 1000000000) (s:aL):∃ R,gU t S s=some R/\nU R (AftT t S s):=by
 have h300:=hv.2.2.2.1
 have hl:((t.E.filter fun e=>qA t e == s&&S.any fun x=>e.F == x).map (·.To)).length<=300:=by
  rw [List.length_map];exact Nat.le_trans (List.length_filter_le _ _) h300
 refine ⟨iI (tI iLt ((t.E.filter fun e=>qA t e == s&&S.any fun x=>e.F == x).map (·.To))),?_,yK.iff fun q=>?_⟩
 ·unfold gU
  rw [aDD (step:=fun x:List Int × Int=>eK t S s x.1 x.2) t.E (fun e=>qA t e == s&&S.any fun x=>e.F == x) (·.To) id (fun j out x hj ho hx=>?_) (fun out=>by simp only [eK,bI];rfl),aA]
  ·unfold nY
   simp only [id]
   rw [uK (by omega),aA,aDE _ (by unfold tI;rw [List.length_mergeSort];omega),aA]
  ·obtain ⟨hj',rfl⟩:=lW hx
   simp only [eK,bD hj,if_pos,hx,aA,aAi (nS hv (List.getElem_mem hj')),uJ S _ (show S.length < 4611686018427387904 by omega),nZ,lI,aW hj (show t.E.length < 4611686018427387904 by omega)]
   rw [bS (by simp [iO];omega),aA]
   cases qA t t.E[j] == s<;>cases (S.any fun x=>t.E[j].F == x)<;>rfl
 ·rw [List.mem_map]
  constructor
  ·rintro ⟨e,he,rfl⟩
   rw [List.mem_filter,Bool.and_eq_true,List.any_eq_true] at he
   obtain ⟨h1,h2,x,hx,h3⟩:=he
   rw [beq_iff_eq] at h2 h3
   exact ⟨e,h1,h2,h3 ▸ hx,rfl⟩
  ·rintro ⟨e,h1,h2,h3,rfl⟩
   refine ⟨e,?_,rfl⟩
   rw [List.mem_filter,Bool.and_eq_true,List.any_eq_true,beq_iff_eq]
   exact ⟨h1,h2,_,h3,by simp⟩
theorem aME (hv:aN t) {S:List Int} (hS:S.length < 1000000000) (s:aL):∃ R,gN t S s=some R/\nU R (Cl t (AftT t S s)):=by
 obtain ⟨R1,f1,f2⟩:=aOv hv hS s
 have hn:R1.Nodup:=f2.ord.imp fun h=>by omega
 obtain ⟨R,g1,g2⟩:=aEq hv hn fun q hq=>((f2.mem q).1 hq).inn hv
 exact ⟨R,by unfold gN;rw [f1,aA,g1];rfl,g2.iff (Cl.iff f2.mem)⟩
theorem txt_tau (hv:aN t) {e:Edge} (he:e∈t.E):qA t e=bC<->e.B=0:=by
 obtain ⟨h0,h1⟩:=tau_at hv
 have:=aHc hv he (s:=bC) (h1 ▸ List.getElem_mem h0)
 have hp:pos t.L bC=((0:Nat):Int):=by rw [←h1];exact aLl hv.2.2.1 h0
 rw [hp] at this
 rw [Bool.eq_iff_iff,beq_iff_eq,beq_iff_eq] at this
 simpa using this
def Wk (t:aO) (y:Int) (s:aL) (w:Int):Prop:=if s=bC then Cl t (·∈[y]) w else Cl t (fun q=>∃ e∈t.E,qA t e=s/\Cl t (·∈[y]) e.F/\e.To=q) w
theorem Wk.inn (hv:aN t) {y:Int} (hy:cF t y) {s:aL} {w:Int} (h:Wk t y s w):cF t w:=by
 unfold cF at hy ⊢
 unfold Wk at h
 split at h
 ·exact h.inn hv fun q hq=>by simp at hq;omega
 ·exact h.inn hv fun q hq=>by
   obtain ⟨e,he,_,_,rfl⟩:=hq
   exact (aFr hv he).2.1
theorem aUf (hv:aN t) {y:Int} (hy:cF t y) (s:aL):∃ R,mY t y s=some R/\nU R (Wk t y s):=by
 have h40:=hv.1
 unfold cF at hy
 obtain ⟨R1,g1,g2⟩:=aEq hv (xs:=[y]) (by simp) fun q hq=>by simp at hq;omega
 have hin:∀ q,Cl t (·∈[y]) q->0<=q/\q < ((40:Nat):Int):=fun q hq=>by
  have:=hq.inn hv fun q hq=>by simp at hq;omega
  omega
 have hl:=g2.len (n:=40) hin
 unfold mY
 rw [g1,aA]
 by_cases hs:s=bC
 ·subst hs
  exact ⟨R1,by rw [if_pos (by decide)],g2.iff fun q=>by unfold Wk;rw [if_pos rfl]⟩
 ·obtain ⟨R,f1,f2⟩:=aME hv (S:=R1) (by omega) s
  refine ⟨R,?_,f2.iff fun q=>?_⟩
  ·have hb:(s == ([116,97,117]:aL))=false:=beq_eq_false_iff_ne.2 hs
   rw [hb,if_neg (by simp)]
   first|exact f1|(rw [f1];rfl)
  ·unfold Wk
   rw [if_neg hs]
   refine Cl.iff (fun q=>?_) q
   unfold AftT
   constructor
   ·rintro ⟨e,a,b,c,d⟩;exact ⟨e,a,b,(g2.mem _).1 c,d⟩
   ·rintro ⟨e,a,b,c,d⟩;exact ⟨e,a,b,(g2.mem _).2 c,d⟩
def rdy (t:aO) (k:Int):List aL:=iI (tI kB ((t.E.filter fun e=>e.F == k).map (qA t)))
theorem aJx {k:Int} {s:aL}:s∈rdy t k<->∃ e∈t.E,e.F=k/\qA t e=s:=by
 unfold rdy
 rw [aCE];unfold tI;rw [List.mem_mergeSort,List.mem_map]
 constructor
 ·rintro ⟨e,he,rfl⟩
  rw [List.mem_filter,beq_iff_eq] at he
  exact ⟨e,he.1,he.2,rfl⟩
 ·rintro ⟨e,h1,h2,rfl⟩
  exact ⟨e,by rw [List.mem_filter,beq_iff_eq];exact ⟨h1,h2⟩,rfl⟩
theorem labLt_asy {a b:aL} (h:kB a b=true):kB b a=false:=by
 cases h2:kB b a with
 |false=>rfl
 |true=>have:=aFp h h2;rw [aCG] at this;cases this
theorem aSx {a b:aL} (h:kB b a=false) (hne:a≠b):kB a b=true:=by
 rcases aHb a b with g|g|g
 ·exact g
 ·exact absurd g hne
 ·rw [h] at g;cases g
theorem aSy {a b c:aL} (h:kB a b=true) (h':kB c b=false):kB a c=true:=by
 by_cases e:b=c
 ·subst e;exact h
 ·exact aFp h (aSx h' e)
theorem aSz (k:Int):(rdy t k).Pairwise fun a b=>kB a b=true:=by
 have h1:(tI kB ((t.E.filter fun e=>e.F == k).map (qA t))).Pairwise fun a b=>kB b a=false:=by
  have:=List.pairwise_mergeSort (le:=fun a b=>!kB b a) (fun a b c h1 h2=>?_) (fun a b=>?_) ((t.E.filter fun e=>e.F == k).map (qA t))
  ·refine this.imp fun {a b} h=>?_
   simpa using h
  ·simp only [Bool.not_eq_true'] at h1 h2 ⊢
   cases h3:kB c a with
   |false=>rfl
   |true=>
    have:=aSy h3 h1
    rw [h2] at this;cases this
  ·cases h3:kB b a with
   |false=>simp
   |true=>simp [labLt_asy h3]
 exact aCF (R:=fun a b=>kB b a=false) (S:=fun a b=>kB a b=true) (fun h hne=>aSx h hne) (fun h h'=>aSy h h') h1
theorem rdy_eq {a b:aO} {x y:Int} (h:∀ s,(∃ e∈a.E,e.F=x/\qA a e=s)<->∃ e∈b.E,e.F=y/\qA b e=s):rdy a x=rdy b y:=
 aAT (R:=fun a b=>kB a b=true) (fun a h=>by rw [aCG] at h;cases h) (fun h1 h2=>aFp h1 h2) (aSz x) (aSz y) fun s=>by rw [aJx,aJx];exact h s
theorem aNf (k:Int):(rdy t k).length<=t.E.length:=by
 unfold rdy
 have h1:=aCJ (tI kB ((t.E.filter fun e=>e.F == k).map (qA t)))
 unfold tI at h1 ⊢
 rw [List.length_mergeSort,List.length_map] at h1
 exact Nat.le_trans h1 (List.length_filter_le _ _)
end
end Gv
namespace Gv
open Go
def StW (b:aO) (kind y:Int) (s:aL) (w:Int):Prop:=if kind=2 then Wk b y s w else ∃ f∈b.E,f.F=y/\qA b f=s/\f.To=w
def AnP (a b:aO) (kind:Int) (S:Int->Int->Bool) (x y:Int):Prop:=∀ e∈a.E,e.F=x->∃ w,StW b kind y (qA a e) w/\S e.To w=true
def bsR (a b:aO) (kind x y:Int):Bool:=!(kind == 1)||decide (rdy a x=rdy b y)
noncomputable def anR (a b:aO) (kind:Int) (S:Int->Int->Bool) (x y:Int):Bool:=@decide (AnP a b kind S x y) (Classical.propDecidable _)
section
variable {a b:aO} {kind:Int}
theorem aNg {S:Int->Int->Bool} {x y:Int}:anR a b kind S x y=true<->AnP a b kind S x y:=by unfold anR;exact @decide_eq_true_iff _ (Classical.propDecidable _)
theorem StW.inn (hb:aN b) {y:Int} (hy:cF b y) {s:aL} {w:Int} (h:StW b kind y s w):cF b w:=by
 unfold StW at h
 split at h
 ·exact h.inn hb hy
 ·obtain ⟨f,hf,_,_,rfl⟩:=h
  exact (uL hb hf).2.1
theorem aOx (ha:aN a) (hb:aN b):MonoT a b (anR a b kind):=⟨fun S T h x y hx hy hS=>by
 rw [aNg] at hS ⊢
 intro e he hex
 obtain ⟨w,h1,h2⟩:=hS e he hex
 exact ⟨w,h1,h _ _ (uL ha he).2.1 (h1.inn hb hy) h2⟩⟩
noncomputable def smG (a b:aO) (kind:Int) (x y:Int):Bool:=rG a b (bsR a b kind) (anR a b kind) x y
theorem sm_post {x y:Int} (hx:cF a x) (hy:cF b y) (h:smG a b kind x y=true):bsR a b kind x y=true/\AnP a b kind (smG a b kind) x y:=by
 have:=rG_post hx hy h
 exact ⟨this.1,aNg.1 this.2⟩
theorem sm_max (ha:aN a) (hb:aN b) {R:Int->Int->Bool} (h:∀ x y,cF a x->cF b y->R x y=true->bsR a b kind x y=true/\AnP a b kind R x y) {x y:Int} (hx:cF a x) (hy:cF b y) (hR:R x y=true):smG a b kind x y=true:=
 rG_max (aOx ha hb) (fun x y hx hy hR=>(h x y hx hy hR).1) (fun x y hx hy hR=>aNg.2 (h x y hx hy hR).2) hx hy hR
theorem sm_ready (ha:aN a) (hb:aN b) {x y:Int} (hx:cF a x) (hy:cF b y) (h:smG a b 1 x y=true):smG a b 0 x y=true:=by
 refine sm_max ha hb (R:=smG a b 1) (fun x y hx hy h=>⟨by unfold bsR;simp,fun e he hex=>?_⟩) hx hy h
 obtain ⟨w,h1,h2⟩:=(sm_post hx hy h).2 e he hex
 refine ⟨w,?_,h2⟩
 unfold StW at h1 ⊢
 rw [if_neg (by decide)] at h1 ⊢
 exact h1
theorem sm_bisim (ha:aN a) (hb:aN b) {R:Int->Int->Bool}
  (h1:∀ x y,cF a x->cF b y->R x y=true->∀ e∈a.E,e.F=x->∃ f∈b.E,f.F=y/\qA b f=qA a e/\R e.To f.To=true)
  (h2:∀ x y,cF a x->cF b y->R x y=true->∀ f∈b.E,f.F=y->∃ e∈a.E,e.F=x/\qA a e=qA b f) {x y:Int} (hx:cF a x) (hy:cF b y) (hR:R x y=true):smG a b 1 x y=true:=by
 refine sm_max ha hb (R:=R) (fun x y hx hy h=>⟨?_,fun e he hex=>?_⟩) hx hy hR
 ·unfold bsR
  have:rdy a x=rdy b y:=rdy_eq fun s=>by
   constructor
   ·rintro ⟨e,he,hex,rfl⟩
    obtain ⟨f,hf,hfy,ht,_⟩:=h1 x y hx hy h e he hex
    exact ⟨f,hf,hfy,ht⟩
   ·rintro ⟨f,hf,hfy,rfl⟩
    exact h2 x y hx hy h f hf hfy
  simp [this]
 ·obtain ⟨f,hf,hfy,ht,hr⟩:=h1 x y hx hy h e he hex
  refine ⟨f.To,?_,hr⟩
  unfold StW
  rw [if_neg (by decide)]
  exact ⟨f,hf,hfy,ht,rfl⟩
end
end Gv
namespace Gv
open Go
theorem aPR (a b:List aL) (h:a.length < 4611686018427387904):dY a b=some (decide (a=b)):=by
 unfold dY
 by_cases hl:a.length=b.length
 ·rw [if_neg (by simp [hl])]
  have:=aGW (step:=fun s=>fW a b s) (a.zip b) (fun p=>decide (p.1=p.2)) (.inr false) (.inl ()) (fun k x hk hx=>?_) ?_
  ·rw [this,aA]
   by_cases he:a=b
   ·subst he
    have:((a.zip a).all fun p=>decide (p.1=p.2))=true:=by
     rw [List.all_eq_true]
     intro p hp
     obtain ⟨i,hi,rfl⟩:=List.mem_iff_getElem.1 hp
     rw [List.getElem_zip];simp
    rw [if_pos this,decide_eq_true rfl];rfl
   ·have:¬ ((a.zip b).all fun p=>decide (p.1=p.2))=true:=fun h'=>he (List.ext_getElem hl fun i h1 h2=>by
     rw [List.all_eq_true] at h'
     have hiz:i < (a.zip b).length:=by rw [List.length_zip];omega
     have:=h' (a.zip b)[i] (List.getElem_mem hiz)
     rw [List.getElem_zip] at this
     simpa using this)
    rw [if_neg this,decide_eq_false he]
  ·have hzl:(a.zip b).length=a.length:=by rw [List.length_zip];omega
   rw [hzl] at hk
   obtain ⟨hk',rfl⟩:=lW hx
   unfold fW
   rw [if_pos (bD hk),bE hk,aA,bE (by omega),aA,List.getElem_zip]
   by_cases e:a[k]=b[k]'(by omega)
   ·rw [if_neg (by simp [e]),if_pos (by simp [e]),aW hk h]
   ·rw [if_pos (by simpa using e),if_neg (by simpa using e)]
  ·have hzl:(a.zip b).length=a.length:=by rw [List.length_zip];omega
   rw [hzl]
   unfold fW
   rw [if_neg (by simp)]
 ·rw [if_pos (by simp;omega),decide_eq_false (fun h=>hl (by rw [h]))]
section
variable {a b:aO} {kind:Int}
theorem aDH {t:aO} (hv:aN t) (k:Int):cT t k=some (rdy t k):=by
 have h300:=hv.2.2.2.1
 have hl:(t.E.filter fun e=>e.F == k).length<=t.E.length:=List.length_filter_le _ _
 unfold cT
 rw [aQF t k (by omega),aA]
 have:=kJ (step:=fun s:List aL × Int=>nF t (t.E.filter fun e=>e.F == k) s.1 s.2) (t.E.filter fun e=>e.F == k) (fun j (o:List aL)=>(o,(j:Int))) (fun l o=>o++l.map (qA t)) (fun j o=>o.length<=j) (fun j o e l hj hx hI=>?_) (fun o _=>by simp only [nF,bI];simp) (a:=[]) (by simp)
 ·rw [show loop (fun s:List aL × Int=>nF t (t.E.filter fun e=>e.F == k) s.1 s.2) ([],0)=_ from this,aA,List.nil_append]
  unfold qS xN
  rw [if_pos (by rw [List.length_map];unfold iO;omega),aA,aIT _ (by unfold tI;rw [List.length_mergeSort,List.length_map];omega)]
  rfl
 ·left
  obtain ⟨hj',rfl⟩:=lW hx
  have he:(t.E.filter fun e=>e.F == k)[j]∈t.E:=(List.mem_filter.1 (List.getElem_mem hj')).1
  refine ⟨o++[qA t (t.E.filter fun e=>e.F == k)[j]],?_,by simp;exact hI,by simp⟩
  simp only [nF,bD hj,if_pos,hx,aA,aAi (nS hv he)]
  rw [bS (by simp [iO];omega),aA,aW hj (show (t.E.filter fun e=>e.F == k).length < 4611686018427387904 by omega)]
def aGm (l:List (Int × Int)) (x y:Int):Bool:=decide ((x,y)∈l)
theorem aSA (l:List (Int × Int)) (x y:Int):(mW (tH l) (x,y)).getD false=aGm l x y:=aIX (x,y) l
noncomputable def stqB (a b:aO) (kind:Int) (S:Int->Int->Bool) (y:Int) (e:Edge):Bool:=@decide (∃ w,StW b kind y (qA a e) w/\S e.To w=true) (Classical.propDecidable _)
theorem aLr {S:Int->Int->Bool} {y:Int} {e:Edge}:stqB a b kind S y e=true<->∃ w,StW b kind y (qA a e) w/\S e.To w=true:=by unfold stqB;exact @decide_eq_true_iff _ (Classical.propDecidable _)
theorem anR_all {S:Int->Int->Bool} {x y:Int}:anR a b kind S x y=(a.E.filter fun e=>e.F == x).all fun e=>stqB a b kind S y e:=by
 rw [Bool.eq_iff_iff,aNg,List.all_eq_true]
 unfold AnP
 constructor
 ·intro h e he
  rw [List.mem_filter,beq_iff_eq] at he
  exact aLr.2 (h e he.1 he.2)
 ·intro h e he hx
  exact aLr.1 (h e (by rw [List.mem_filter,beq_iff_eq];exact ⟨he,hx⟩))
theorem any_set {R:List Int} {X:Int->Prop} (h:nU R X) (f:Int->Bool):R.any f=true<->∃ w,X w/\f w=true:=by
 rw [List.any_eq_true]
 constructor
 ·rintro ⟨w,hw,hf⟩;exact ⟨w,(h.mem w).1 hw,hf⟩
 ·rintro ⟨w,hw,hf⟩;exact ⟨w,(h.mem w).2 hw,hf⟩
theorem contW (R:List Int) (hR:R.length < 1000000) (l:List (Int × Int)) (v:Int):eV R a.N a.I a.L a.E b.N b.I b.L b.E (tH l) v=some (R.any fun w=>aGm l v w):=by
 unfold eV fJ
 rw [qN (step:=fun s=>cV R a.N a.I a.L a.E b.N b.I b.L b.E (tH l) v s) R (fun w=>aGm l v w) (fun k w hk hx=>by
  obtain ⟨_,rfl⟩:=lW hx
  simp only [cV,bD hk,if_pos,hx,aA,aEh,qB,aSA,aW hk (show R.length < 4611686018427387904 by omega)]) (by simp only [cV,bI];rfl),aA,←aGZ]
 cases R.findIdx? (fun w=>aGm l v w) with
 |none=>rfl
 |some i=>rfl
theorem contS (R:List Int) (hR:R.length < 1000000) (l:List (Int × Int)) (v:Int):eW R a.N a.I a.L a.E b.N b.I b.L b.E (tH l) v=some (R.any fun w=>aGm l v w):=by
 unfold eW fK
 rw [qN (step:=fun s=>cW R a.N a.I a.L a.E b.N b.I b.L b.E (tH l) v s) R (fun w=>aGm l v w) (fun k w hk hx=>by
  obtain ⟨_,rfl⟩:=lW hx
  simp only [cW,bD hk,if_pos,hx,aA,aCQ,qB,aSA,aW hk (show R.length < 4611686018427387904 by omega)]) (by simp only [cW,bI];rfl),aA,←aGZ]
 cases R.findIdx? (fun w=>aGm l v w) with
 |none=>rfl
 |some i=>rfl
theorem weak_eq (hb:aN b) (l:List (Int × Int)) (x:Int) {y:Int} (hy:cF b y) (e:Edge):xP a b (tH l) x y (qA a e) e.To=some (stqB a b 2 (aGm l) y e):=by
 have h40:=hb.1
 obtain ⟨R,h1,h2⟩:=aUf hb hy (qA a e)
 have hR:R.length<=40:=h2.len (n:=40) fun q hq=>by
  have:=hq.inn hb hy
  unfold cF at this;omega
 unfold xP
 rw [h1,aA,contW R (by omega),aA]
 congr 1
 rw [Bool.eq_iff_iff,any_set h2,aLr]
 unfold StW
 simp only [if_true]
theorem strong_eq (hb:aN b) (hk:kind≠2) (l:List (Int × Int)) (x y:Int) (e:Edge):vE a b (tH l) x y (qA a e) e.To=some (stqB a b kind (aGm l) y e):=by
 have h40:=hb.1
 obtain ⟨R,h1,h2⟩:=aOv hb (S:=[y]) (by simp) (qA a e)
 have hR:R.length<=40:=h2.len (n:=40) fun q hq=>by
  have:=hq.inn hb
  omega
 unfold vE
 rw [h1,aA,contS R (by omega),aA]
 congr 1
 rw [Bool.eq_iff_iff,any_set h2,aLr]
 unfold StW AftT
 simp only [if_neg hk]
 refine exists_congr fun w=>and_congr_left fun _=>exists_congr fun f=>?_
 simp only [List.mem_singleton]
 exact ⟨fun ⟨a,b,c,d⟩=>⟨a,c,b,d⟩,fun ⟨a,b,c,d⟩=>⟨a,c,b,d⟩⟩
theorem answW (ha:aN a) (hb:aN b) (l:List (Int × Int)) (x:Int) {y:Int} (hy:cF b y):lG a b (tH l) x y=some (anR a b 2 (aGm l) x y):=by
 have h300:=ha.2.2.2.1
 have hl:(a.E.filter fun e=>e.F == x).length<=a.E.length:=List.length_filter_le _ _
 unfold lG
 rw [aQF a x (by omega),aA]
 have:=aGW (step:=fun s:Int=>kW a b (tH l) x y (a.E.filter fun e=>e.F == x) s) (a.E.filter fun e=>e.F == x) (fun e=>stqB a b 2 (aGm l) y e) (.inr false) (.inl ()) (fun k e hk hx=>?_) (by simp only [kW,bI];rfl)
 ·rw [this,aA,anR_all]
  cases (a.E.filter fun e=>e.F == x).all fun e=>stqB a b 2 (aGm l) y e<;>rfl
 ·obtain ⟨_,rfl⟩:=lW hx
  have he:(a.E.filter fun e=>e.F == x)[k]∈a.E:=(List.mem_filter.1 (List.getElem_mem hk)).1
  simp only [kW,bD hk,if_pos,hx,aA,aAi (nS ha he)]
  rw [show xP ⟨a.N,a.I,a.L,a.E⟩ ⟨b.N,b.I,b.L,b.E⟩ (tH l) x y (qA a (a.E.filter fun e=>e.F == x)[k]) (a.E.filter fun e=>e.F == x)[k].To=_ from weak_eq hb l x hy _,aA,aW hk (show (a.E.filter fun e=>e.F == x).length < 4611686018427387904 by omega)]
  cases stqB a b 2 (aGm l) y (a.E.filter fun e=>e.F == x)[k]<;>simp
theorem answS (ha:aN a) (hb:aN b) (hk:kind≠2) (l:List (Int × Int)) (x y:Int):iT a b (tH l) x y=some (anR a b kind (aGm l) x y):=by
 have h300:=ha.2.2.2.1
 have hl:(a.E.filter fun e=>e.F == x).length<=a.E.length:=List.length_filter_le _ _
 unfold iT
 rw [aQF a x (by omega),aA]
 have:=aGW (step:=fun s:Int=>iX a b (tH l) x y (a.E.filter fun e=>e.F == x) s) (a.E.filter fun e=>e.F == x) (fun e=>stqB a b kind (aGm l) y e) (.inr false) (.inl ()) (fun k e hk' hx=>?_) (by simp only [iX,bI];rfl)
 ·rw [this,aA,anR_all]
  cases (a.E.filter fun e=>e.F == x).all fun e=>stqB a b kind (aGm l) y e<;>rfl
 ·obtain ⟨_,rfl⟩:=lW hx
  have he:(a.E.filter fun e=>e.F == x)[k]∈a.E:=(List.mem_filter.1 (List.getElem_mem hk')).1
  simp only [iX,bD hk',if_pos,hx,aA,aAi (nS ha he)]
  rw [show vE ⟨a.N,a.I,a.L,a.E⟩ ⟨b.N,b.I,b.L,b.E⟩ (tH l) x y (qA a (a.E.filter fun e=>e.F == x)[k]) (a.E.filter fun e=>e.F == x)[k].To=_ from strong_eq hb hk l x y _,aA,aW hk' (show (a.E.filter fun e=>e.F == x).length < 4611686018427387904 by omega)]
  cases stqB a b kind (aGm l) y (a.E.filter fun e=>e.F == x)[k]<;>simp
theorem simd_eq (ha:aN a) (hb:aN b) (l:List (Int × Int)) (x:Int) {y:Int} (hy:cF b y):gZ a b (tH l) kind x y=some (bsR a b kind x y&&anR a b kind (aGm l) x y):=by
 have h300:=ha.2.2.2.1
 have key:∀ c:Bool,iL a b (tH l) kind x y c=some (!c&&anR a b kind (aGm l) x y):=by
  intro c
  unfold iL
  cases c with
  |true=>rw [if_pos rfl];rfl
  |false=>
   rw [if_neg (by simp)]
   by_cases h2:kind=2
   ·subst h2
    rw [if_pos (by rfl),show lG ⟨a.N,a.I,a.L,a.E⟩ ⟨b.N,b.I,b.L,b.E⟩ (tH l) x y=_ from answW ha hb l x hy];rfl
   ·rw [if_neg (by simpa using h2),show iT ⟨a.N,a.I,a.L,a.E⟩ ⟨b.N,b.I,b.L,b.E⟩ (tH l) x y=_ from answS ha hb h2 l x y];rfl
 unfold gZ bsR
 by_cases h1:kind=1
 ·subst h1
  have hl:=aNf (t:=a) x
  rw [if_pos (by rfl),aDH ha,aA,aDH hb,aA,aPR _ _ (by omega),aA,key]
  simp
 ·rw [if_neg (by simpa using h1),key]
  have:(kind == 1)=false:=by simpa using h1
  rw [this];rfl
end
end Gv
namespace Gv
open Go
section
variable {a b:aO} {kind:Int}
noncomputable def mN (a b:aO) (kind:Int) (n:Nat) (x y:Int):Bool:=rN (bsR a b kind) (anR a b kind) n x y
noncomputable def mL (a b:aO) (kind:Int) (n:Nat):List (Int × Int):=rL a b (bsR a b kind) (anR a b kind) n
noncomputable def mF (a b:aO) (kind:Int):Nat:=rF a b (bsR a b kind) (anR a b kind)
theorem aQY {n:Nat} {p:Int × Int}:p∈mL a b kind n<->(cF a p.1/\cF b p.2)/\mN a b kind n p.1 p.2=true:=rL_mem
theorem mL_nodup (n:Nat):(mL a b kind n).Nodup:=rL_nodup n
theorem mL_rel {n:Nat} {x y:Int} (hx:cF a x) (hy:cF b y):aGm (mL a b kind n) x y=mN a b kind n x y:=by
 unfold aGm
 rw [Bool.eq_iff_iff,decide_eq_true_iff,aQY]
 exact ⟨fun h=>h.2,fun h=>⟨⟨hx,hy⟩,h⟩⟩
theorem anR_congr (ha:aN a) (hb:aN b) {S T:Int->Int->Bool} (h:∀ x y,cF a x->cF b y->S x y=T x y) {x y:Int} (hx:cF a x) (hy:cF b y):anR a b kind S x y=anR a b kind T x y:=by
 rw [Bool.eq_iff_iff]
 exact ⟨(aOx ha hb).mono S T (fun x y hx hy hS=>(h x y hx hy) ▸ hS) x y hx hy,(aOx ha hb).mono T S (fun x y hx hy hS=>(h x y hx hy).symm ▸ hS) x y hx hy⟩
theorem mround (ha:aN a) (hb:aN b) (n:Nat):mfil (gI a b kind (tH (mL a b kind n))) (List.map Prod.fst (tH (mL a b kind n)))=some (mL a b kind (n+1)):=by
 have e:mL a b kind (n+1)=(mL a b kind n).filter fun p=>mN a b kind (n+1) p.1 p.2:=aQV n
 rw [mtt_keys,e]
 refine mfil_eq (p:=fun p:Int × Int=>mN a b kind (n+1) p.1 p.2) fun k hk=>?_
 obtain ⟨⟨hx,hy⟩,hn⟩:=aQY.1 hk
 have h0:bsR a b kind k.1 k.2=true:=aQT n hn
 unfold gI
 rw [show gZ ⟨a.N,a.I,a.L,a.E⟩ ⟨b.N,b.I,b.L,b.E⟩ (tH (mL a b kind n)) kind k.1 k.2=_ from simd_eq ha hb _ k.1 hy,aA,h0,Bool.true_and,anR_congr ha hb (fun x y hx hy=>mL_rel hx hy) hx hy]
 have:mN a b kind (n+1) k.1 k.2=anR a b kind (mN a b kind n) k.1 k.2:=by
  show (rN _ _ n k.1 k.2&&anR a b kind (rN _ _ n) k.1 k.2)=_
  have hn':rN (bsR a b kind) (anR a b kind) n k.1 k.2=true:=hn
  rw [hn',Bool.true_and];rfl
 rw [this]
 cases anR a b kind (mN a b kind n) k.1 k.2<;>rfl
def ini2 (a b:aO):Int × Int:=(a.I,b.I)
theorem mstep (ha:aN a) (hb:aN b) (n:Nat) (hn:n<=100000) {missing:Int} (hm:0<=missing->ini2 a b∉mL a b kind n):∃ m':Int,(m' < 0<->ini2 a b∈mL a b kind n)/\uN a b kind (tH (mL a b kind n)) missing (n:Int)=
  if (mL a b kind (n+1)).length=(mL a b kind n).length then some (.inr (tH (mL a b kind n),m')) else some (.inl (tH (mL a b kind (n+1)),m',((n+1:Nat):Int))):=by
 have h4:∀ m',qC a b kind (tH (mL a b kind n)) (n:Int) m'=if (mL a b kind (n+1)).length=(mL a b kind n).length then some (.inr (tH (mL a b kind n),m')) else some (.inl (tH (mL a b kind (n+1)),m',((n+1:Nat):Int))):=by
  intro m'
  unfold qC
  rw [mround ha hb,aA,aA,show ([]:List ((Int × Int) × Bool))=tH [] from rfl,aPP _ [] (by rw [List.nil_append];exact mL_nodup _),List.nil_append]
  unfold aAn aAm
  rw [aQS,aQS,aW (show n < 200000 by omega) (by decide)]
  by_cases h:(mL a b kind (n+1)).length=(mL a b kind n).length
  ·rw [if_pos h,if_pos (by simp [h])]
  ·rw [if_neg h,if_neg (by simp;omega)]
 unfold uN
 have hg:(mW (tH (mL a b kind n)) (a.I,b.I)).getD false=decide (ini2 a b∈mL a b kind n):=aIX _ _
 by_cases hneg:missing < 0
 ·rw [if_pos (by simpa using hneg),hg]
  by_cases hin:ini2 a b∈mL a b kind n
  ·refine ⟨missing,⟨fun _=>hin,fun _=>hneg⟩,?_⟩
   unfold qD
   rw [if_neg (by simp [hin]),h4]
  ·refine ⟨(n:Int),⟨fun h=>by omega,fun h=>absurd h hin⟩,?_⟩
   unfold qD
   rw [if_pos (by simp [hin]),h4]
 ·rw [if_neg (by simpa using hneg)]
  refine ⟨missing,⟨fun h=>absurd h hneg,fun h=>absurd h (hm (by omega))⟩,?_⟩
  unfold qD
  rw [if_neg (by simp),h4]
theorem mF_le (n:Nat):n<=mF a b kind->(mL a b kind n).length+n<=(mL a b kind 0).length:=by
 induction n with
 |zero=>intro _;simp
 |succ n ih=>
  intro hn
  have h1:=ih (by omega)
  have h2:¬ rSt a b (bsR a b kind) (anR a b kind) n:=rF_min (show n < mF a b kind by omega)
  rw [aNe] at h2
  have h3:(mL a b kind (n+1)).length<=(mL a b kind n).length:=rL_le n
  have h4:¬ (mL a b kind (n+1)).length=(mL a b kind n).length:=h2
  omega
theorem aPS {β γ:Type} (c:Nat) (f:β->List γ):∀ l:List β,(∀ x∈l,(f x).length=c)->(l.flatMap f).length=l.length * c
 |[],_=>by simp
 |x::l,h=>by
  rw [List.flatMap_cons,List.length_append,h x (by simp),aPS c f l fun y hy=>h y (by simp [hy]),List.length_cons,Nat.add_mul];omega
theorem prs2_len (ha:aN a) (hb:aN b):(prs2 a b).length<=1600:=by
 have h1:=ha.1
 have h2:=hb.1
 unfold prs2
 rw [aPS b.N.toNat _ _ (fun x _=>by simp),List.length_range]
 have:a.N.toNat * b.N.toNat<=40 * 40:=Nat.mul_le_mul (by omega) (by omega)
 omega
def prW (a b:aO) (kind:Int) (k:Nat):List (Int × Int):=((List.range k).flatMap fun x:Nat=>(List.range b.N.toNat).map fun y:Nat=>((x:Int),(y:Int))).filter fun p=>bsR a b kind p.1 p.2
theorem prW_lt {k:Nat} {p:Int × Int} (h:p∈prW a b kind k):p.1 < k:=by
 unfold prW at h
 rw [List.mem_filter,List.mem_flatMap] at h
 obtain ⟨⟨x,hx,h⟩,_⟩:=h
 obtain ⟨y,_,rfl⟩:=List.mem_map.1 h
 rw [List.mem_range] at hx
 simp only;omega
theorem prW_snoc (k:Nat):prW a b kind (k+1)=prW a b kind k++((List.range b.N.toNat).map fun y:Nat=>((k:Int),(y:Int))).filter fun p=>bsR a b kind p.1 p.2:=by
 unfold prW
 rw [List.range_succ,List.flatMap_append,List.filter_append];simp
theorem prW_all:prW a b kind a.N.toNat=mL a b kind 0:=rfl
theorem mrow (ha:aN a) (hb:aN b) {k:Nat} (hk:k < a.N.toNat):loop (fun s:List ((Int × Int) × Bool) × Int=>mE a b kind (k:Int) s.1 s.2) (tH (prW a b kind k),0)=some (tH (prW a b kind (k+1))):=by
 have h40:=hb.1
 have h300:=ha.2.2.2.1
 have key0:=cJ (step:=fun s:List ((Int × Int) × Bool) × Int=>mE a b kind (k:Int) s.1 s.2) b.N.toNat (fun i (m:List ((Int × Int) × Bool))=>(m,(i:Int)))
  (fun i m=>m=tH (prW a b kind k++((List.range i).map fun y:Nat=>((k:Int),(y:Int))).filter fun p=>bsR a b kind p.1 p.2)) (fun r=>r=tH (prW a b kind (k+1))) (fun i m hi hI=>?_) (fun m hI=>?_) b.N.toNat 0 (tH (prW a b kind k)) (by omega) (by simp)
 ·obtain ⟨r,h1,h2⟩:=key0
  have h1':loop (fun s:List ((Int × Int) × Bool) × Int=>mE a b kind (k:Int) s.1 s.2) (tH (prW a b kind k),0)=some r:=h1
  rw [h1',h2]
 ·subst hI
  have hlt:decide ((i:Int) < b.N)=true:=by simp;omega
  have hnot:((k:Int),(i:Int))∉prW a b kind k++((List.range i).map fun y:Nat=>((k:Int),(y:Int))).filter fun p=>bsR a b kind p.1 p.2:=by
   intro h
   rcases List.mem_append.1 h with h|h
   ·have:=prW_lt h
    simp only at this;omega
   ·obtain ⟨y,hy,e⟩:=List.mem_map.1 (List.mem_filter.1 h).1
    rw [List.mem_range] at hy
    simp only [Prod.mk.injEq] at e
    omega
  have key:∀ c:Bool,c=bsR a b kind (k:Int) (i:Int)->∃ m',oX (k:Int) (tH (prW a b kind k++((List.range i).map fun y:Nat=>((k:Int),(y:Int))).filter fun p=>bsR a b kind p.1 p.2)) (i:Int) c=some (.inl (m',((i+1:Nat):Int)))/\m'=tH (prW a b kind k++((List.range (i+1)).map fun y:Nat=>((k:Int),(y:Int))).filter fun p=>bsR a b kind p.1 p.2):=by
   intro c hc
   unfold oX sJ
   rw [List.range_succ,List.map_append,List.filter_append,←List.append_assoc,List.map_singleton,List.filter_cons,←hc,aW hi (show b.N.toNat < 4611686018427387904 by omega)]
   cases c with
   |true=>rw [if_pos rfl,aA,aIY hnot];exact ⟨_,rfl,rfl⟩
   |false=>rw [if_neg (by simp)];exact ⟨_,rfl,by simp⟩
  simp only [mE,hlt,if_pos]
  by_cases h1:kind=1
  ·subst h1
   have hl:=aNf (t:=a) (k:Int)
   rw [if_neg (by simp),aDH ha,aA,aDH hb,aA,aPR _ _ (by omega),aA]
   exact key _ (by unfold bsR;simp)
  ·rw [if_pos (by simpa using h1)]
   exact key _ (by
     unfold bsR;have:(kind == 1)=false:=by simpa using h1
     rw [this];rfl)
 ·subst hI
  have:decide (((b.N.toNat:Nat):Int) < b.N)=false:=by simp;omega
  exact ⟨_,by simp only [mE,this];rfl,by rw [prW_snoc]⟩
theorem mstart (ha:aN a) (hb:aN b):loop (fun s:List ((Int × Int) × Bool) × Int=>mG a b kind s.1 s.2) (([]:List ((Int × Int) × Bool)),0)=some (tH (mL a b kind 0)):=by
 have h40:=ha.1
 have key0:=cJ (step:=fun s:List ((Int × Int) × Bool) × Int=>mG a b kind s.1 s.2) a.N.toNat (fun i (m:List ((Int × Int) × Bool))=>(m,(i:Int)))
  (fun i m=>m=tH (prW a b kind i)) (fun r=>r=tH (mL a b kind 0)) (fun i m hi hI=>?_) (fun m hI=>?_) a.N.toNat 0 [] (by omega) rfl
 ·obtain ⟨r,h1,h2⟩:=key0
  have h1':loop (fun s:List ((Int × Int) × Bool) × Int=>mG a b kind s.1 s.2) (([]:List ((Int × Int) × Bool)),0)=some r:=h1
  rw [h1',h2]
 ·subst hI
  have:decide ((i:Int) < a.N)=true:=by simp;omega
  simp only [mG,this,if_pos]
  rw [mrow ha hb hi,aA]
  simp only [aDL,aAp,aW hi (show a.N.toNat < 4611686018427387904 by omega)]
  exact ⟨_,rfl,rfl⟩
 ·subst hI
  have:decide (((a.N.toNat:Nat):Int) < a.N)=false:=by simp;omega
  exact ⟨_,by simp only [mG,this];rfl,by rw [prW_all]⟩
theorem aKa (ha:aN a) (hb:aN b):∃ m:Int,(m < 0<->smG a b kind a.I b.I=true)/\aBA a b kind=some (tH (mL a b kind (mF a b kind)),m):=by
 have hai:=ha.2.1
 have hbi:=hb.2.1
 have hini:ini2 a b∈mL a b kind (mF a b kind)<->smG a b kind a.I b.I=true:=by
  rw [aQY]
  refine ⟨fun h=>h.2,fun h=>⟨⟨?_,?_⟩,h⟩⟩
  ·show cF a a.I
   unfold cF;omega
  ·show cF b b.I
   unfold cF;omega
 unfold aBA
 rw [mstart ha hb,aA]
 unfold aAo
 have h0:(mL a b kind 0).length<=1600:=Nat.le_trans (List.length_filter_le _ _) (prs2_len ha hb)
 have key0:=loop_rG (a:=a) (b:=b) (B:=bsR a b kind) (F:=anR a b kind) (step:=fun s:List ((Int × Int) × Bool) × Int × Int=>uN a b kind s.1 s.2.1 s.2.2) (fun n s=>n<=mF a b kind/\s.1=tH (mL a b kind n)/\s.2.2=(n:Int)/\(0<=s.2.1->ini2 a b∉mL a b kind n)) (fun r=>r.1=tH (mL a b kind (mF a b kind))/\(r.2 < 0<->ini2 a b∈mL a b kind (mF a b kind))) (fun n s hn hs=>?_) (fun s hs=>?_) (s:=(tH (mL a b kind 0),-1,0)) ⟨Nat.zero_le _,rfl,rfl,fun h=>by simp at h⟩
 ·obtain ⟨r,h1,h2,h3⟩:=key0
  refine ⟨r.2,h3.trans hini,?_⟩
  rw [h1,aA,←h2]
 ·obtain ⟨x,y,z⟩:=s
  obtain ⟨hle,rfl,rfl,hm⟩:=hs
  have hb1:=mF_le n hle
  obtain ⟨m',h1,h2⟩:=mstep ha hb n (by omega) hm
  have hne:¬ rSt a b (bsR a b kind) (anR a b kind) n:=rF_min hn
  rw [aNe] at hne
  have hne':¬ (mL a b kind (n+1)).length=(mL a b kind n).length:=hne
  rw [if_neg hne'] at h2
  refine ⟨_,h2,Nat.succ_le_of_lt hn,rfl,rfl,fun h hin=>?_⟩
  have:ini2 a b∈mL a b kind n:=by
   rw [aQY] at hin ⊢
   exact ⟨hin.1,rN_le hin.2⟩
  have:=h1.2 this
  simp only at h;omega
 ·obtain ⟨x,y,z⟩:=s
  obtain ⟨hle,rfl,rfl,hm⟩:=hs
  have hb1:=mF_le (rF a b (bsR a b kind) (anR a b kind)) hle
  obtain ⟨m',h1,h2⟩:=mstep ha hb (mF a b kind) (by
    have:(mL a b kind (mF a b kind)).length+mF a b kind<=(mL a b kind 0).length:=hb1
    omega) hm
  have hst:=(aNe (a:=a) (b:=b) (B:=bsR a b kind) (F:=anR a b kind) (mF a b kind)).1 rF_stab
  have hst':(mL a b kind (mF a b kind+1)).length=(mL a b kind (mF a b kind)).length:=hst
  rw [if_pos hst'] at h2
  exact ⟨_,h2,rfl,h1⟩
end
end Gv
namespace Gv
open Go
section
variable {a b:aO} {kind:Int}
theorem code_eq (ha:aN a) (hb:aN b) (fa:eT 999999999 a) (fb:eT 999999999 b) (hk:0<=kind/\kind<=2):sI a b kind=some 0:=by
 unfold sI
 rw [kK a fa,aHB ha,aA,if_neg (by simp),kK b fb,aHB hb,aA]
 unfold sB aNF
 rw [if_neg (by simp),aEu,aA,aA,if_neg (by simp;omega)]
instance inT_dec (t:aO) (k:Int):Decidable (cF t k):=by unfold cF;infer_instance
end
end Gv
namespace Gv
open Go
section
variable {a b:aO} {kind:Int}
end
end Gv
namespace Gv
open Go
def unA (a b:aO) (M:List aL):List Edge:=(a.E.map fun e=>(⟨e.F,pos (bC::M) (qA a e),e.To⟩:Edge))++b.E.map fun e=>(⟨e.F+a.N,pos (bC::M) (qA b e),e.To+a.N⟩:Edge)
structure Uni (a b:aO) (M:List aL) (Eo:List Edge):Prop where
 str:nT M
 mem:∀ s,s∈M<->s∈a.L++b.L/\s≠bC
 len:M.length<=24
 se:SE Eo
 ed:∀ x,x∈Eo<->x∈unA a b M
 elen:Eo.length<=600
section
variable {a b:aO}
theorem aDV {t:aO} (hv:aN t) {e:Edge} (he:e∈t.E):qA t e∈t.L:=by
 have:=(uL hv he).2.2
 unfold qA
 rw [List.getD_eq_getElem?_getD,List.getElem?_eq_getElem (by omega)]
 exact List.getElem_mem _
theorem txt_lab {t:aO} (hv:aN t) {e f:Edge} (he:e∈t.E) (hf:f∈t.E) (h:qA t e=qA t f):e.B=f.B:=by
 have h1:=aHc hv he (aDV hv he)
 have h2:=aHc hv hf (aDV hv he)
 rw [beq_self_eq_true] at h1
 rw [h,beq_self_eq_true] at h2
 rw [←h] at h2
 have h1':=beq_iff_eq.1 h1.symm
 have h2':=beq_iff_eq.1 h2.symm
 omega
theorem pos_eq {γ:Type} [BEq γ] [LawfulBEq γ] {xs:List γ} {x y:γ} (hx:x∈xs) (hy:y∈xs) (h:pos xs x=pos xs y):x=y:=by
 obtain ⟨i,e1,g1⟩:=aHE hx
 obtain ⟨j,e2,g2⟩:=aHE hy
 have:i=j:=by omega
 subst this
 rw [g1] at g2
 exact Option.some.inj g2
theorem edge_eq {e f:Edge} (h1:e.F=f.F) (h2:e.B=f.B) (h3:e.To=f.To):e=f:=by
 cases e;cases f;simp_all
theorem aPT (ha:aN a) (hb:aN b) {M:List aL} (hm:∀ s,s∈M<->s∈a.L++b.L/\s≠bC):(unA a b M).Nodup:=by
 have hin:∀ s,s∈a.L++b.L->s∈bC::M:=fun s hs=>by
  by_cases e:s=bC
  ·subst e;simp
  ·exact List.mem_cons_of_mem _ ((hm s).2 ⟨hs,e⟩)
 unfold unA
 rw [List.nodup_append]
 refine ⟨?_,?_,fun x hx y hy e=>?_⟩
 ·refine List.Pairwise.map _ (R:=fun e f:Edge=>e∈a.E/\f∈a.E/\e≠f) (fun e f ⟨he,hf,hne⟩ h=>hne ?_) ?_
  ·simp only [Edge.mk.injEq] at h
   exact edge_eq h.1 (txt_lab ha he hf (pos_eq (hin _ (by simp [aDV ha he])) (hin _ (by simp [aDV ha hf])) h.2.1)) h.2.2
  ·exact (aOo (aLm ha)).imp_of_mem fun he hf h=>⟨he,hf,h⟩
 ·refine List.Pairwise.map _ (R:=fun e f:Edge=>e∈b.E/\f∈b.E/\e≠f) (fun e f ⟨he,hf,hne⟩ h=>hne ?_) ?_
  ·simp only [Edge.mk.injEq] at h
   exact edge_eq (by omega) (txt_lab hb he hf (pos_eq (hin _ (by simp [aDV hb he])) (hin _ (by simp [aDV hb hf])) h.2.1)) (by omega)
  ·exact (aOo (aLm hb)).imp_of_mem fun he hf h=>⟨he,hf,h⟩
 ·obtain ⟨e1,h1,rfl⟩:=List.mem_map.1 hx
  obtain ⟨e2,h2,h3⟩:=List.mem_map.1 hy
  rw [←h3] at e
  simp only [Edge.mk.injEq] at e
  have:=(uL ha h1).1
  have:=(uL hb h2).1
  unfold cF at *
  omega
theorem uni_ex (ha:aN a) (hb:aN b):∃ M Eo,Uni a b M Eo:=by
 have l1:=ha.2.2.1.2.1
 have l2:=hb.2.2.1.2.1
 have h1:=ha.2.2.2.1
 have h2:=hb.2.2.2.1
 obtain ⟨M,_,j2,j3,j4⟩:=aLp (a.L++b.L) (by rw [List.length_append];omega)
 rw [List.length_append] at j4
 have hnd:=aPT ha hb (M:=M) j3
 refine ⟨M,tI bK (unA a b M),j2,j3,by omega,aKw bK aAU xG aFW hnd,fun x=>by unfold tI;rw [List.mem_mergeSort],?_⟩
 unfold tI
 rw [List.length_mergeSort]
 unfold unA
 rw [List.length_append,List.length_map,List.length_map];omega
def rX (a b:aO) (M:List aL) (Eo:List Edge):aO:=⟨a.N+b.N,a.I,bC::M,Eo⟩
theorem aKz (ha:aN a) (hb:aN b) {M:List aL} {Eo:List Edge} (h:Uni a b M Eo):aHw a b=some (rX a b M Eo):=by
 have s1:=ha.1
 have s2:=hb.1
 have l1:=ha.2.2.1.2.1
 have l2:=hb.2.2.1.2.1
 have h1:=ha.2.2.2.1
 have h2:=hb.2.2.2.1
 unfold aHw
 rw [aQJ (fun e he=>nS ha he) (by omega),aA,aQJ (fun e he=>nS hb he) (by omega),aA]
 have key:=kJ (step:=fun s:List nX × Int=>aEW a (b.E.map fun e=>(⟨e.F,qA b e,e.To⟩:nX)) s.1 s.2) (b.E.map fun e=>(⟨e.F,qA b e,e.To⟩:nX)) (fun j (o:List nX)=>(o,(j:Int)))
  (fun l o=>o++l.map fun x=>(⟨wr (x.from_+a.N),x.label,wr (x.to_+a.N)⟩:nX)) (fun j o=>o.length<=300+j) (fun j o e l hj hx hI=>?_) (fun o _=>by simp only [aEW,bI];simp) (a:=a.E.map fun e=>(⟨e.F,qA a e,e.To⟩:nX)) (by rw [List.length_map];omega)
 ·rw [show loop (fun s:List nX × Int=>aEW a (b.E.map fun e=>(⟨e.F,qA b e,e.To⟩:nX)) s.1 s.2) (a.E.map (fun e=>(⟨e.F,qA a e,e.To⟩:nX)),0)=_ from key,aA]
  unfold aHv
  rw [aOp _ _ (by omega),aA,fS (by omega) (by omega),List.map_map]
  have e0:((fun x:nX=>(⟨wr (x.from_+a.N),x.label,wr (x.to_+a.N)⟩:nX)) ∘ fun e:Edge=>(⟨e.F,qA b e,e.To⟩:nX))=fun e=>(⟨wr (e.F+a.N),qA b e,wr (e.To+a.N)⟩:nX):=rfl
  have e1:(b.E.map fun e=>(⟨wr (e.F+a.N),qA b e,wr (e.To+a.N)⟩:nX))=b.E.map fun e=>(⟨e.F+a.N,qA b e,e.To+a.N⟩:nX):=by
   refine List.map_congr_left fun e he=>?_
   have:=uL hb he
   unfold cF at this
   rw [fS (by omega) (by omega),fS (by omega) (by omega)]
  have e2:(((a.E.map fun e=>(⟨e.F,qA a e,e.To⟩:nX))++b.E.map fun e=>(⟨e.F+a.N,qA b e,e.To+a.N⟩:nX)).map fun x=>(⟨x.from_,pos (bC::M) x.label,x.to_⟩:Edge))=unA a b M:=by
   unfold unA
   rw [List.map_append,List.map_map,List.map_map];rfl
  rw [e0,e1,lts_gen (M:=M) (Eo:=Eo) h.str h.mem (by rw [List.length_append];omega) (by rw [List.length_append,List.length_map,List.length_map];omega) (by rw [e2];exact aPT ha hb h.mem) h.se (fun x=>by rw [e2];exact h.ed x) (by have:=h.len;omega)]
  rfl
 ·left
  rw [List.length_map] at hj
  obtain ⟨hj',rfl⟩:=lW hx
  refine ⟨o++[_],?_,by simp;omega,by simp [List.append_assoc];rfl⟩
  simp only [aEW,hx,aA,List.getElem_map]
  rw [if_pos (by rw [List.length_map];exact bD hj),bS (by simp [iO];omega),aA,aW hj (by omega)]
end
end Gv
namespace Gv
open Go
structure Big (u:aO):Prop where
 st:1<=u.N/\u.N<=100
 lab:u.L.length<=100
 ed:u.E.length<=1000
 inn:∀ e∈u.E,cF u e.F/\cF u e.To/\0<=e.B/\e.B < u.L.length
def eF (u:aO) (p:List Int):Prop:=p.length=u.N.toNat/\∀ z∈p,0<=z/\z < u.N
def vl1 (u:aO) (p:List Int) (e:Edge):Int:=e.B * u.N+p.getD e.To.toNat 0
def sg1 (u:aO) (p:List Int) (k:Nat):List Int:=iI (tI iLt ((u.E.filter fun e=>e.F == (k:Int)).map (vl1 u p)))
def ky1 (u:aO) (p:List Int):List (List Int):=(List.range u.N.toNat).map fun k=>p.getD k 0::sg1 u p k
section
variable {u:aO} {p:List Int}
theorem aNh {k:Nat} {z:Int}:z∈sg1 u p k<->∃ e∈u.E,e.F=(k:Int)/\vl1 u p e=z:=by
 unfold sg1
 rw [yK.mem,List.mem_map]
 constructor
 ·rintro ⟨e,he,h⟩
  rw [List.mem_filter,beq_iff_eq] at he
  exact ⟨e,he.1,he.2,h⟩
 ·rintro ⟨e,h1,h2,h⟩
  exact ⟨e,by rw [List.mem_filter,beq_iff_eq];exact ⟨h1,h2⟩,h⟩
theorem sg1_len (k:Nat):(sg1 u p k).length<=u.E.length:=by
 unfold sg1
 have h1:=aCJ (tI iLt ((u.E.filter fun e=>e.F == (k:Int)).map (vl1 u p)))
 unfold tI at h1 ⊢
 rw [List.length_mergeSort,List.length_map] at h1
 exact Nat.le_trans h1 (List.length_filter_le _ _)
theorem aNi:(ky1 u p).length=u.N.toNat:=by unfold ky1;rw [List.length_map,List.length_range]
theorem aNj {k:Nat} (h:k < u.N.toNat):(ky1 u p)[k]?=some (p.getD k 0::sg1 u p k):=by unfold ky1;rw [List.getElem?_map,List.getElem?_range h];rfl
theorem jM (hp:eF u p) {s:Int} (h:cF u s):ix p s=some (p.getD s.toNat 0)/\0<=p.getD s.toNat 0/\p.getD s.toNat 0 < u.N:=by
 unfold cF at h
 have hl:s.toNat < p.length:=by rw [hp.1];omega
 have e:p.getD s.toNat 0=p[s.toNat]:=by rw [List.getD_eq_getElem?_getD,List.getElem?_eq_getElem hl];rfl
 rw [e]
 exact ⟨aIb h.1 hl,hp.2 _ (List.getElem_mem hl)⟩
theorem mul_b {l m s n:Int} (h1:0<=l) (h2:l<=m) (h3:0<=s) (h4:s<=n):0<=l * s/\l * s<=m * n:=
 ⟨Int.mul_nonneg h1 h3,Int.mul_le_mul h2 h4 h3 (by omega)⟩
theorem set_range {γ:Type} (n:Nat) (g:Nat->γ) (j:Nat) (v:γ):((List.range n).map g).set j v=(List.range n).map fun k=>if k=j then v else g k:=by
 apply List.ext_getElem?
 intro i
 rw [List.getElem?_set,List.getElem?_map,List.getElem?_map]
 by_cases hi:i < n
 ·rw [List.getElem?_range hi]
  by_cases hj:j=i
  ·subst hj;simp [hi]
  ·rw [if_neg hj];simp [show ¬ i=j from fun e=>hj e.symm]
 ·rw [List.getElem?_eq_none (l:=List.range n) (by simp;omega)]
  by_cases hj:j=i
  ·subst hj;simp [hi]
  ·rw [if_neg hj];rfl
theorem aOz {γ:Type} {n:Nat} {g:Nat->γ} {j:Int} {v:γ} (h:0<=j/\j < n):Gv.st ((List.range n).map g) j v=some ((List.range n).map fun k=>if k=j.toNat then v else g k):=by
 unfold Gv.st
 rw [if_pos ⟨h.1,by rw [List.length_map,List.length_range];omega⟩,set_range]
theorem aLs {γ:Type} {n:Nat} {g:Nat->γ} {j:Int} (h:0<=j/\j < n):ix ((List.range n).map g) j=some (g j.toNat):=by
 rw [aIb h.1 (by rw [List.length_map,List.length_range];omega)];simp
theorem rep_range {γ:Type} (n:Nat) (v:γ):List.replicate n v=(List.range n).map fun _=>v:=by
 apply List.ext_getElem<;>simp
theorem part_cn (hu:Big u) {κ:Type} [DecidableEq κ] [BEq κ] [LawfulBEq κ] {l:List κ} (h:l.length=u.N.toNat):eF u (cn l):=by
 have:=hu.st
 refine ⟨by rw [yV,h],fun z hz=>?_⟩
 have:=cn_in hz
 omega
theorem aOA {l:List Int} {i j:Nat} (hi:i < l.length) (hj:j < l.length):l.getD i 0=l.getD j 0<->l[i]?=l[j]?:=by
 rw [List.getD_eq_getElem?_getD,List.getD_eq_getElem?_getD,List.getElem?_eq_getElem hi,List.getElem?_eq_getElem hj]
 simp
theorem aUh (hp:p.length=u.N.toNat):aHF (cn (ky1 u p)) p:=
 aJa (by rw [aNi,hp]) fun x y hx hy h=>by
  rw [aNj (by omega),aNj (by omega),Option.some.injEq,List.cons.injEq] at h
  exact (aOA hx hy).1 h.1
end
end Gv
namespace Gv
open Go
section
variable {a b:aO}
theorem aJy {M:List aL} {Eo:List Edge} (h:Uni a b M Eo) {s:aL} (hs:s∈a.L\/s∈b.L):s∈bC::M:=by
 by_cases e:s=bC
 ·subst e;simp
 ·exact List.mem_cons_of_mem _ ((h.mem s).2 ⟨by simpa using hs,e⟩)
theorem aQZ {γ:Type} [BEq γ] [LawfulBEq γ] {xs:List γ} {x:γ} (hx:x∈xs):0<=pos xs x/\pos xs x < xs.length:=by
 obtain ⟨i,e,g⟩:=aHE hx
 have:=(List.getElem?_eq_some_iff.1 g).1
 omega
theorem uni_big (ha:aN a) (hb:aN b) {M:List aL} {Eo:List Edge} (h:Uni a b M Eo):Big (rX a b M Eo):=by
 have s1:=ha.1
 have s2:=hb.1
 have hl:=h.len
 have he:=h.elen
 refine ⟨by show 1<=a.N+b.N/\a.N+b.N<=100;omega,by show (bC::M).length<=100;rw [List.length_cons];omega,by show Eo.length<=1000;omega,fun e hE=>?_⟩
 have hE':=(h.ed e).1 hE
 unfold unA at hE'
 show (0<=e.F/\e.F < a.N+b.N)/\(0<=e.To/\e.To < a.N+b.N)/\0<=e.B/\e.B < ((bC::M).length:Int)
 rcases List.mem_append.1 hE' with g|g
 ·obtain ⟨f,hf,rfl⟩:=List.mem_map.1 g
  have h1:=uL ha hf
  have h2:=aQZ (aJy h (.inl (aDV ha hf)))
  unfold cF at h1
  simp only;omega
 ·obtain ⟨f,hf,rfl⟩:=List.mem_map.1 g
  have h1:=uL hb hf
  have h2:=aQZ (aJy h (.inr (aDV hb hf)))
  unfold cF at h1
  simp only;omega
end
end Gv
namespace Gv
open Go
section
variable {κ β:Type} [DecidableEq β] [BEq β] [LawfulBEq β] {key:κ->β}
theorem atK_pos (F:List κ) (q:κ):atK key F q=pos ((vS key F q).map key) (key q):=by
 unfold atK vS
 by_cases h:key q∈F.map key
 ·rw [if_pos h,if_pos h]
 ·rw [if_neg h,if_neg h,List.map_append,List.map_singleton,aOe h,List.length_map]
theorem aNk {A B:List κ} (h:A <+:B):A.map key <+:B.map key:=by
 obtain ⟨C,rfl⟩:=h
 exact ⟨C.map key,by rw [List.map_append]⟩
theorem key_sub {A B:List κ} (h:A <+:B) {k:β} (hk:k∈A.map key):k∈B.map key:=by
 obtain ⟨C,hC⟩:=aNk (key:=key) h
 rw [←hC]
 exact List.mem_append_left _ hk
theorem aOB (i:Int):∀ (l:List (Int × κ)) (s:List κ × List Edge),(∀ x∈l,key x.2∈(jP key i l s).1.map key)/\
  ∀ e,e∈(jP key i l s).2<->e∈s.2\/∃ x∈l,e=⟨i,x.1,pos ((jP key i l s).1.map key) (key x.2)⟩
 |[],s=>⟨by simp,fun e=>by simp [aSo]⟩
 |y::l,s=>by
  obtain ⟨h1,h2⟩:=aOB i l (aCl key i s y)
  have hp:=(aDG (key:=key) i l (aCl key i s y)).1
  have hy:key y.2∈(aCl key i s y).1.map key:=insK_mem s.1 y.2
  have hpos:pos ((jP key i l (aCl key i s y)).1.map key) (key y.2)=atK key s.1 y.2:=by rw [aJq (aNk hp) hy,atK_pos];rfl
  refine ⟨fun x hx=>?_,fun e=>?_⟩
  ·rw [aCH]
   rcases List.mem_cons.1 hx with rfl|hx
   ·exact key_sub hp hy
   ·exact h1 x hx
  ·rw [aCH,h2]
   constructor
   ·rintro (he|⟨x,hx,rfl⟩)
    ·rcases List.mem_append.1 he with he|he
     ·exact .inl he
     ·rw [List.mem_singleton] at he
      exact .inr ⟨y,List.mem_cons_self,by rw [he,hpos]⟩
    ·exact .inr ⟨x,List.mem_cons_of_mem _ hx,rfl⟩
   ·rintro (he|⟨x,hx,rfl⟩)
    ·exact .inl (List.mem_append_left _ he)
    ·rcases List.mem_cons.1 hx with rfl|hx
     ·left
      rw [hpos]
      exact List.mem_append_right _ (List.mem_singleton.2 rfl)
     ·exact .inr ⟨x,hx,rfl⟩
theorem aMi (nx:κ->List (Int × κ)) (B:Nat):∀ (n i:Nat) (s:List κ × List Edge),(xpl key nx B n i s).1.length<=B->(xpl key nx B n i s).1.length < n+i->i<=s.1.length->
  (∀ j q,i<=j->(xpl key nx B n i s).1[j]?=some q->∀ x∈nx q,key x.2∈(xpl key nx B n i s).1.map key)/\
  ∀ e,e∈(xpl key nx B n i s).2<->e∈s.2\/∃ (j:Nat) (q:κ),i<=j/\(xpl key nx B n i s).1[j]?=some q/\∃ x∈nx q,e=⟨(j:Int),x.1,pos ((xpl key nx B n i s).1.map key) (key x.2)⟩
 |0,i,s,h1,h2,h3=>by
  have:(xpl key nx B 0 i s).1.length=s.1.length:=rfl
  omega
 |n+1,i,s,h1,h2,h3=>by
  have hd:xpl key nx B (n+1) i s=match s.1[i]? with
   |none=>s
   |some q=>if B < (jP key (i:Int) (nx q) s).1.length then jP key (i:Int) (nx q) s else xpl key nx B n (i+1) (jP key (i:Int) (nx q) s):=rfl
  cases hq:s.1[i]? with
  |none=>
   rw [hq] at hd
   simp only at hd
   rw [hd]
   have hl:s.1.length<=i:=by simpa using hq
   refine ⟨fun j q hj hjq=>?_,fun e=>⟨.inl,?_⟩⟩
   ·have:=(List.getElem?_eq_some_iff.1 hjq).1;omega
   ·rintro (he|⟨j,q,hj,hjq,_⟩)
    ·exact he
    ·have:=(List.getElem?_eq_some_iff.1 hjq).1;omega
  |some q=>
   rw [hq] at hd
   simp only at hd
   by_cases hb:B < (jP key (i:Int) (nx q) s).1.length
   ·rw [if_pos hb] at hd
    rw [hd] at h1
    omega
   ·rw [if_neg hb] at hd
    rw [hd] at h1 h2 ⊢
    have hil:i < s.1.length:=(List.getElem?_eq_some_iff.1 hq).1
    have hpre:=(aDG (key:=key) (i:Int) (nx q) s).1
    obtain ⟨g1,g2⟩:=aMi nx B n (i+1) (jP key (i:Int) (nx q) s) h1 (by omega) (by have:=hpre.length_le;omega)
    have hpre2:=(aLo (key:=key) nx B n (i+1) (jP key (i:Int) (nx q) s)).1
    obtain ⟨a1,a2⟩:=aOB (key:=key) (i:Int) (nx q) s
    have hat:∀ {r},(xpl key nx B n (i+1) (jP key (i:Int) (nx q) s)).1[i]?=some r->r=q:=fun {r} hr=>by
     obtain ⟨C,hC⟩:=hpre.trans hpre2
     rw [←hC,List.getElem?_append_left hil,hq] at hr
     exact (Option.some.inj hr).symm
    have hi':(xpl key nx B n (i+1) (jP key (i:Int) (nx q) s)).1[i]?=some q:=by
     obtain ⟨C,hC⟩:=hpre.trans hpre2
     rw [←hC,List.getElem?_append_left hil,hq]
    refine ⟨fun j r hj hjr x hx=>?_,fun e=>?_⟩
    ·rcases Nat.eq_or_lt_of_le hj with rfl|hj'
     ·have:=hat hjr
      subst this
      exact key_sub hpre2 (a1 x hx)
     ·exact g1 j r hj' hjr x hx
    ·rw [g2,a2]
     constructor
     ·rintro ((he|⟨x,hx,rfl⟩)|⟨j,r,hj,hjr,x,hx,rfl⟩)
      ·exact .inl he
      ·exact .inr ⟨i,q,Nat.le_refl _,hi',x,hx,by rw [aJq (aNk hpre2) (a1 x hx)]⟩
      ·exact .inr ⟨j,r,by omega,hjr,x,hx,rfl⟩
     ·rintro (he|⟨j,r,hj,hjr,x,hx,rfl⟩)
      ·exact .inl (.inl he)
      ·rcases Nat.eq_or_lt_of_le hj with rfl|hj'
       ·have:=hat hjr
        subst this
        exact .inl (.inr ⟨x,hx,by rw [aJq (aNk hpre2) (a1 x hx)]⟩)
       ·exact .inr ⟨j,r,hj',hjr,x,hx,rfl⟩
end
end Gv
namespace Gv
open Go
section
variable {t:aO}
theorem aLt (S:List Int) {x:Int × List Int}:∀ (n k:Nat),x∈aCn t S n k<->∃ j:Nat,k<=j/\j < k+n/\nxt t S (j:Int)≠[]/\x=((j:Int),nxt t S (j:Int))
 |0,k=>by
  simp only [aCn,List.not_mem_nil,false_iff]
  rintro ⟨j,h1,h2,_⟩
  omega
 |n+1,k=>by
  unfold aCn
  have ih:=aLt S (x:=x) n (k+1)
  split
  ·rename_i h0
   rw [ih]
   constructor
   ·rintro ⟨j,h1,h2,h3⟩;exact ⟨j,by omega,by omega,h3⟩
   ·rintro ⟨j,h1,h2,h3,h4⟩
    refine ⟨j,?_,by omega,h3,h4⟩
    rcases Nat.eq_or_lt_of_le h1 with rfl|h
    ·exact absurd h0 h3
    ·omega
  ·rename_i h0
   rw [List.mem_cons,ih]
   constructor
   ·rintro (rfl|⟨j,h1,h2,h3⟩)
    ·exact ⟨k,Nat.le_refl _,by omega,h0,rfl⟩
    ·exact ⟨j,by omega,by omega,h3⟩
   ·rintro ⟨j,h1,h2,h3,h4⟩
    rcases Nat.eq_or_lt_of_le h1 with rfl|h
    ·exact .inl h4
    ·exact .inr ⟨j,by omega,by omega,h3,h4⟩
noncomputable def aKA (t:aO) (S:List Int) (s:aL):List Int:=(gN t S s).getD []
noncomputable def aft (t:aO) (tr:List aL):List Int:=tr.foldl (aKA t) (wE t)
theorem aLu (tr:List aL) (s:aL):aft t (tr++[s])=aKA t (aft t tr) s:=by unfold aft;rw [List.foldl_append];rfl
theorem aJz (hv:aN t) {S:List Int} (hS:kL t S) (s:aL):gN t S s=some (aKA t S s)/\kL t (aKA t S s)/\nU (aKA t S s) (Cl t (AftT t S s)):=by
 obtain ⟨R,h1,h2⟩:=aME hv (S:=S) (Nat.lt_of_le_of_lt hS.len (by decide)) s
 have:aKA t S s=R:=by unfold aKA;rw [h1];rfl
 rw [this]
 exact ⟨h1,kL.of hv h2 fun q hq=>hq.inn hv fun x hx=>hx.inn hv,h2⟩
theorem visT_at (hv:aN t) {S:List Int} (hS:kL t S) {k:Nat} (hk:k < t.L.length):aKA t S t.L[k]=nxt t S (k:Int):=by
 obtain ⟨R,h1,h2,_⟩:=aMD hv (S:=S) (Nat.lt_of_le_of_lt hS.len (by decide)) hk
 unfold aKA nxt
 rw [h1,h2]
theorem visT_none (hv:aN t) {S:List Int} (hS:kL t S) {s:aL} (hs:s∉t.L):aKA t S s=[]:=by
 obtain ⟨_,_,h⟩:=aJz hv hS s
 refine List.eq_nil_iff_forall_not_mem.2 fun q hq=>?_
 have hc:=(h.mem q).1 hq
 clear hq
 induction hc with
 |base hx=>
  obtain ⟨e,he,ht,_⟩:=hx
  have hb:=aFr hv he
  refine hs (ht ▸ ?_)
  unfold qA
  rw [List.getD_eq_getElem?_getD,List.getElem?_eq_getElem (show e.B.toNat < t.L.length by omega)]
  exact List.getElem_mem _
 |step _ _ _ ih=>exact ih
theorem visT_nil (hv:aN t) (s:aL):aKA t [] s=[]:=by
 obtain ⟨_,_,h⟩:=aJz hv (S:=[]) ⟨by simp,by simp⟩ s
 refine List.eq_nil_iff_forall_not_mem.2 fun q hq=>?_
 have hc:=(h.mem q).1 hq
 clear hq
 induction hc with
 |base hx=>
  obtain ⟨e,he,ht,hf,_⟩:=hx
  simp at hf
 |step _ _ _ ih=>exact ih
theorem aFv (hv:aN t):∀ tr:List aL,kL t (aft t tr):=fun tr=>by
 unfold aft
 have:∀ (tr:List aL) (S:List Int),kL t S->kL t (tr.foldl (aKA t) S):=by
  intro tr
  induction tr with
  |nil=>intro S h;exact h
  |cons s tr ih=>intro S h;exact ih _ (aJz hv h s).2.1
 exact this tr _ (aFY hv).2.2
theorem fstS_ne (hv:aN t):wE t≠[]:=by
 obtain ⟨R,_,h2,h3⟩:=aJs hv
 have:wE t=R:=by unfold wE;rw [h2];rfl
 rw [this]
 intro e
 have:=(h3.mem t.I).2 (Cl.base rfl)
 rw [e] at this
 simp at this
noncomputable def jQ (t:aO):aO:=⟨((dC t).1.length:Int),0,t.L,(dC t).2⟩
theorem aOC (hv:aN t) (hs:(dC t).1.length<=40):∀ e,e∈(dC t).2<->∃ (j:Nat) (S:List Int),(dC t).1[j]?=some S/\∃ k:Nat,1<=k/\k < t.L.length/\nxt t S (k:Int)≠[]/\nxt t S (k:Int)∈(dC t).1/\e=⟨(j:Int),(k:Int),pos (dC t).1 (nxt t S (k:Int))⟩:=by
 have hl:=hv.2.2.1.1
 obtain ⟨g1,g2⟩:=aMi (key:=id) (iV t) 40 41 0 ([wE t],[]) hs (by have:=hs;unfold dC at this;omega) (Nat.zero_le _)
 intro e
 have h2:=g2 e
 rw [show xpl id (iV t) 40 41 0 ([wE t],[])=dC t from rfl] at g1 h2
 simp only [List.map_id,id] at g1 h2
 rw [h2]
 constructor
 ·rintro (h|⟨j,S,_,hj,x,hx,rfl⟩)
  ·simp at h
  ·have hin:=g1 j S (Nat.zero_le _) hj x hx
   unfold iV at hx
   obtain ⟨k,h3,h4,h5,rfl⟩:=(aLt S _ _).1 hx
   exact ⟨j,S,hj,k,h3,by omega,h5,hin,rfl⟩
 ·rintro ⟨j,S,hj,k,h3,h4,h5,h6,rfl⟩
  refine .inr ⟨j,S,Nat.zero_le _,hj,((k:Int),nxt t S (k:Int)),?_,rfl⟩
  unfold iV
  exact (aLt S _ _).2 ⟨k,h3,by omega,h5,rfl⟩
theorem dfin_next (hv:aN t) (hs:(dC t).1.length<=40) {j:Nat} {S:List Int} (hj:(dC t).1[j]?=some S) {k:Nat} (h1:1<=k) (h2:k < t.L.length) (h3:nxt t S (k:Int)≠[]):nxt t S (k:Int)∈(dC t).1:=by
 obtain ⟨g1,_⟩:=aMi (key:=id) (iV t) 40 41 0 ([wE t],[]) hs (by have:=hs;unfold dC at this;omega) (Nat.zero_le _)
 rw [show xpl id (iV t) 40 41 0 ([wE t],[])=dC t from rfl] at g1
 simp only [List.map_id,id] at g1
 refine g1 j S (Nat.zero_le _) hj ((k:Int),nxt t S (k:Int)) ?_
 unfold iV
 exact (aLt S _ _).2 ⟨k,h1,by omega,h3,rfl⟩
theorem dfin_good (hv:aN t) {j:Nat} {S:List Int} (hj:(dC t).1[j]?=some S):kL t S:=(aJt hv).2.1 S (List.mem_of_getElem? hj)
theorem dfin_zero (hv:aN t) (hs:Small (dC t)):(dC t).1[0]?=some (wE t):=by
 obtain ⟨C,hC⟩:=(aLo (key:=id) (iV t) 40 41 0 ([wE t],[])).1
 rw [show xpl id (iV t) 40 41 0 ([wE t],[])=dC t from rfl] at hC
 rw [←hC]
 rfl
theorem aHg {γ:Type} {p:List γ->Prop} (nil:p []) (snoc:∀ l x,p l->p (l++[x])):∀ l,p l:=by
 have:∀ l:List γ,p l.reverse:=by
  intro l
  induction l with
  |nil=>exact nil
  |cons x l ih=>rw [List.reverse_cons];exact snoc _ _ ih
 intro l
 have:=this l.reverse
 rwa [List.reverse_reverse] at this
theorem det_go (hv:aN t) (hs:Small (dC t)) {k:Nat} {S:List Int} (hk:(dC t).1[k]?=some S) {s:aL} (hs':s≠bC):
  (aKA t S s=[]/\goF (jQ t) (k:Int) s=-1)\/∃ j:Nat,(dC t).1[j]?=some (aKA t S s)/\aKA t S s≠[]/\goF (jQ t) (k:Int) s=(j:Int):=by
 have hg:=dfin_good hv hk
 have hnd:(dC t).1.Nodup:=by have:=(aJt hv).1;rwa [List.map_id] at this
 unfold goF
 cases hf:(jQ t).E.find? (hit (jQ t) (k:Int) s) with
 |some e=>
  right
  have he:=List.mem_of_find?_eq_some hf
  have hh:=List.find?_some hf
  obtain ⟨j,S',hj,n,h1,h2,h3,h4,rfl⟩:=(aOC hv hs.1 e).1 he
  unfold hit at hh
  rw [Bool.and_eq_true,beq_iff_eq,beq_iff_eq] at hh
  obtain ⟨e1,e2⟩:=hh
  have e1:(j:Int)=(k:Int):=e1
  obtain rfl:j=k:=by omega
  rw [hk] at hj
  cases hj
  have e2:t.L.getD n []=s:=e2
  rw [List.getD_eq_getElem?_getD,List.getElem?_eq_getElem h2] at e2
  have e2:t.L[n]=s:=e2
  rw [←e2,visT_at hv hg h2]
  obtain ⟨i,hi,hp,hq⟩:=pU h4
  exact ⟨i,by rw [List.getElem?_eq_getElem hi,hq],h3,hp⟩
 |none=>
  left
  refine ⟨?_,rfl⟩
  by_cases hm:s∈t.L
  ·obtain ⟨n,hn,rfl⟩:=List.mem_iff_getElem.1 hm
   rw [visT_at hv hg hn]
   have h1:1<=n:=by
    rcases Nat.eq_zero_or_pos n with rfl|h
    ·exact absurd (hv.2.2.1.2.2.1 hn) hs'
    ·exact h
   by_cases h0:nxt t S (n:Int)=[]
   ·exact h0
   ·exfalso
    have:=List.find?_eq_none.1 hf ⟨(k:Int),(n:Int),pos (dC t).1 (nxt t S (n:Int))⟩ ((aOC hv hs.1 _).2 ⟨k,S,hk,n,h1,hn,h0,dfin_next hv hs.1 hk h1 hn h0,rfl⟩)
    refine this ?_
    unfold hit
    rw [Bool.and_eq_true,beq_iff_eq,beq_iff_eq]
    refine ⟨rfl,?_⟩
    show t.L.getD n []=t.L[n]
    rw [List.getD_eq_getElem?_getD,List.getElem?_eq_getElem hn];rfl
  ·exact visT_none hv hg hm
def jA (d:aO) (tr:List aL):Int:=tr.foldl (goF d) 0
theorem aBq (d:aO) (tr:List aL) (s:aL):jA d (tr++[s])=goF d (jA d tr) s:=by unfold jA;rw [List.foldl_append];rfl
theorem aRa (hv:aN t) (hs:Small (dC t)) {tr:List aL} (ht:∀ s∈tr,s≠bC):(aft t tr=[]/\jA (jQ t) tr=-1)\/∃ j:Nat,(dC t).1[j]?=some (aft t tr)/\aft t tr≠[]/\jA (jQ t) tr=(j:Int):=by
 induction tr using aHg with
 |nil=>exact .inr ⟨0,dfin_zero hv hs,fstS_ne hv,rfl⟩
 |snoc tr s ih=>
  have hs':s≠bC:=ht s (by simp)
  rw [aLu,aBq]
  rcases ih fun x hx=>ht x (by simp [hx]) with ⟨h1,h2⟩|⟨j,h1,h2,h3⟩
  ·left
   rw [h1,h2]
   exact ⟨visT_nil hv s,aQD (aJv hv hs).1 (by decide) s⟩
  ·rw [h3]
   exact det_go hv hs h1 hs'
theorem aLv (hv:aN t) (hs:Small (dC t)) {tr:List aL} (ht:∀ s∈tr,s≠bC):jA (jQ t) tr < 0<->aft t tr=[]:=by
 rcases aRa hv hs ht with ⟨h1,h2⟩|⟨j,h1,h2,h3⟩
 ·simp [h1,h2]
 ·rw [h3];constructor
  ·intro h;omega
  ·intro h;exact absurd h h2
end
end Gv
namespace Gv
open Go
section
variable (a b:aO) (M:List aL)
def xH (e:aP):List aP:=M.map fun s=>⟨goF a e.a s,goF b e.b s,e.trace++[s]⟩
def bN (p q:Int):Prop:=p < 0/\q < 0
instance (p q:Int):Decidable (bN p q):=inferInstanceAs (Decidable (_/\_))
structure Stp (fd:Int->Int->Bool) (step:List ((Int × Int) × Bool) × List aP->Option ((List ((Int × Int) × Bool) × List aP) ⊕ (Unit ⊕ (List aL × Bool)))):Prop where
 nil:∀ l,step (tH l,[])=some (.inr (.inl ()))
 skip:∀ l e r,r.length<=1000000->e.trace.length<=1000000->bN e.a e.b\/(e.a,e.b)∈l->step (tH l,e::r)=some (.inl (tH l,r))
 hit:∀ l e r,r.length<=1000000->e.trace.length<=1000000->¬ bN e.a e.b->(e.a,e.b)∉l->fd e.a e.b=true->(-1<=e.a/\e.a < a.N)/\(-1<=e.b/\e.b < b.N)->step (tH l,e::r)=some (.inr (.inr (e.trace,true)))
 more:∀ l e r,r.length<=1000000->e.trace.length<=1000000->¬ bN e.a e.b->(e.a,e.b)∉l->fd e.a e.b=false->(-1<=e.a/\e.a < a.N)/\(-1<=e.b/\e.b < b.N)->step (tH l,e::r)=some (.inl (tH (l++[(e.a,e.b)]),r++xH a b M e))
def OvM (tr:List aL):Prop:=∀ s∈tr,s∈M
def FtRes (fd:Int->Int->Bool) (r:Unit ⊕ (List aL × Bool)):Prop:=
 match r with
 |.inl _=>∀ tr,OvM M tr->bN (jA a tr) (jA b tr)\/fd (jA a tr) (jA b tr)=false
 |.inr (tr,v)=>v=true/\tr.length<=2000/\OvM M tr/\¬ bN (jA a tr) (jA b tr)/\fd (jA a tr) (jA b tr)=true/\∀ tr' s r,tr=tr'++s::r->¬ bN (jA a tr') (jA b tr')/\fd (jA a tr') (jA b tr')=false
structure FtI (fd:Int->Int->Bool) (l:List (Int × Int)) (todo:List aP):Prop where
 nd:l.Nodup
 rng:∀ p∈l,(-1<=p.1/\p.1<=39)/\-1<=p.2/\p.2<=39
 ok:∀ p∈l,¬ bN p.1 p.2/\fd p.1 p.2=false
 ent:∀ e∈todo,OvM M e.trace/\e.a=jA a e.trace/\e.b=jA b e.trace/\e.trace.length<=l.length/\∀ tr' s r,e.trace=tr'++s::r->¬ bN (jA a tr') (jA b tr')/\fd (jA a tr') (jA b tr')=false
 cls:∀ p∈l,∀ s∈M,bN (goF a p.1 s) (goF b p.2 s)\/(goF a p.1 s,goF b p.2 s)∈l\/∃ e∈todo,e.a=goF a p.1 s/\e.b=goF b p.2 s
 ini:(0,0)∈l\/∃ e∈todo,e.a=0/\e.b=0
 len:todo.length<=1+30 * l.length
end
section
variable {a b:aO} {M:List aL} {fd:Int->Int->Bool}
theorem FtI.small {l:List (Int × Int)} {todo:List aP} (h:FtI a b M fd l todo):l.length<=1681:=by
 have:=List.Nodup.length_le_of_subset (l₂:=(List.range 1681).map fun (i:Nat)=>(((i / 41:Nat):Int) - 1,((i % 41:Nat):Int) - 1)) h.nd (fun q hq=>by
  have hr:=h.rng q hq
  rw [List.mem_map]
  refine ⟨(q.1+1).toNat * 41+(q.2+1).toNat,by rw [List.mem_range];omega,?_⟩
  have e1:((q.1+1).toNat * 41+(q.2+1).toNat) / 41=(q.1+1).toNat:=by omega
  have e2:((q.1+1).toNat * 41+(q.2+1).toNat) % 41=(q.2+1).toNat:=by omega
  rw [e1,e2]
  refine Prod.ext ?_ ?_<;>simp only<;>omega)
 rw [List.length_map,List.length_range] at this
 exact this
theorem aSC {d:aO} (hd:aN d) (h0:d.N<=40) (tr:List aL):-1<=jA d tr/\jA d tr<=39:=by
 induction tr using aHg with
 |nil=>exact ⟨by show (-1:Int)<=0;decide,by show (0:Int)<=39;decide⟩
 |snoc tr s _=>rw [aBq];have:=aQE hd (jA d tr) s;omega
theorem runD_st {d:aO} (hd:aN d) (tr:List aL):-1<=jA d tr/\jA d tr < d.N:=by
 have:=hd.1
 induction tr using aHg with
 |nil=>exact ⟨by show (-1:Int)<=0;decide,by show (0:Int) < _;omega⟩
 |snoc tr s _=>rw [aBq];have:=aQE hd (jA d tr) s;omega
theorem aSD {d:aO} (hd:aN d) {tr:List aL} (h:jA d tr < 0) (s:aL):jA d (tr++[s]) < 0:=by
 rw [aBq,aQD hd h];decide
theorem aOD {step:_} (h:Stp a b M fd step) (ha:aN a) (hb:aN b) (hM:M.length<=30):∃ r,loop step (tH [],[⟨0,0,[]⟩])=some r/\FtRes a b M fd r:=by
 have a40:=ha.1
 have b40:=hb.1
 refine sE (fun s=>∃ l todo,s=(tH l,todo)/\FtI a b M fd l todo) (fun s=>31 * (1681 - s.1.length)+s.2.length) (FtRes a b M fd) (fun s hs=>?_) ⟨[],[⟨0,0,[]⟩],rfl,⟨by simp,by simp,by simp,?_,by simp,.inr ⟨_,List.mem_singleton.2 rfl,rfl,rfl⟩,by simp⟩⟩
 ·obtain ⟨l,todo,rfl,hI⟩:=hs
  have hl:=hI.small
  cases todo with
  |nil=>
   right
   refine ⟨_,h.nil l,fun tr htr=>?_⟩
   have:bN (jA a tr) (jA b tr)\/(jA a tr,jA b tr)∈l:=by
    induction tr using aHg with
    |nil=>
     rcases hI.ini with h0|⟨e,he,_⟩
     ·exact .inr h0
     ·simp at he
    |snoc tr s ih=>
     rcases ih (fun x hx=>htr x (by simp [hx])) with h1|h1
     ·exact .inl ⟨aSD ha h1.1 s,aSD hb h1.2 s⟩
     ·rw [aBq,aBq]
      rcases hI.cls _ h1 s (htr s (by simp)) with h2|h2|⟨e,he,_⟩
      ·exact .inl h2
      ·exact .inr h2
      ·simp at he
   rcases this with h1|h1
   ·exact .inl h1
   ·exact .inr (hI.ok _ h1).2
  |cons e r=>
   have hlen:=hI.len
   simp only [List.length_cons] at hlen
   obtain ⟨e1,e2,e3,e4,e5⟩:=hI.ent e List.mem_cons_self
   have hr:r.length<=1000000:=by omega
   have ht:e.trace.length<=1000000:=by omega
   by_cases hsk:bN e.a e.b\/(e.a,e.b)∈l
   ·left
    refine ⟨(tH l,r),h.skip l e r hr ht hsk,⟨l,r,rfl,hI.nd,hI.rng,hI.ok,fun x hx=>hI.ent x (List.mem_cons_of_mem _ hx),fun p hp s hs=>?_,?_,by omega⟩,by simp only [List.length_cons];omega⟩
    ·rcases hI.cls p hp s hs with g|g|⟨x,hx,g1,g2⟩
     ·exact .inl g
     ·exact .inr (.inl g)
     ·rcases List.mem_cons.1 hx with rfl|hx
      ·rw [g1,g2] at hsk
       rcases hsk with g|g
       ·exact .inl g
       ·exact .inr (.inl g)
      ·exact .inr (.inr ⟨x,hx,g1,g2⟩)
    ·rcases hI.ini with g|⟨x,hx,g1,g2⟩
     ·exact .inl g
     ·rcases List.mem_cons.1 hx with rfl|hx
      ·rw [g1,g2] at hsk
       rcases hsk with g|g
       ·exact absurd g.1 (by decide)
       ·exact .inl g
      ·exact .inr ⟨x,hx,g1,g2⟩
   ·have hn:¬ bN e.a e.b:=fun g=>hsk (.inl g)
    have hnl:(e.a,e.b)∉l:=fun g=>hsk (.inr g)
    have hin:(-1<=e.a/\e.a < a.N)/\(-1<=e.b/\e.b < b.N):=by rw [e2,e3];exact ⟨runD_st ha _,runD_st hb _⟩
    cases hfd:fd e.a e.b with
    |true=>
     right
     refine ⟨_,h.hit l e r hr ht hn hnl hfd hin,rfl,by omega,e1,?_,?_,e5⟩
     ·rw [←e2,←e3];exact hn
     ·rw [←e2,←e3];exact hfd
    |false=>
     left
     have hra:=aSC ha (by omega) e.trace
     have hrb:=aSC hb (by omega) e.trace
     rw [←e2] at hra
     rw [←e3] at hrb
     have hnew:FtI a b M fd (l++[(e.a,e.b)]) (r++xH a b M e):=by
      refine ⟨List.nodup_append.2 ⟨hI.nd,by simp,fun x hx y hy=>?_⟩,fun p hp=>?_,fun p hp=>?_,fun x hx=>?_,fun p hp s hs=>?_,?_,?_⟩
      ·rw [List.mem_singleton] at hy
       subst hy
       exact fun g=>hnl (g ▸ hx)
      ·rcases List.mem_append.1 hp with hp|hp
       ·exact hI.rng p hp
       ·rw [List.mem_singleton] at hp
        subst hp
        exact ⟨hra,hrb⟩
      ·rcases List.mem_append.1 hp with hp|hp
       ·exact hI.ok p hp
       ·rw [List.mem_singleton] at hp
        subst hp
        exact ⟨hn,hfd⟩
      ·rcases List.mem_append.1 hx with hx|hx
       ·obtain ⟨g1,g2,g3,g4,g5⟩:=hI.ent x (List.mem_cons_of_mem _ hx)
        exact ⟨g1,g2,g3,by rw [List.length_append];omega,g5⟩
       ·unfold xH at hx
        obtain ⟨s,hs,rfl⟩:=List.mem_map.1 hx
        refine ⟨fun y hy=>?_,?_,?_,?_,fun tr' s' r' hx'=>?_⟩
        ·rcases List.mem_append.1 hy with hy|hy
         ·exact e1 y hy
         ·rw [List.mem_singleton] at hy
          exact hy ▸ hs
        ·show goF a e.a s=jA a (e.trace++[s])
         rw [aBq,e2]
        ·show goF b e.b s=jA b (e.trace++[s])
         rw [aBq,e3]
        ·show (e.trace++[s]).length<=_
         simp only [List.length_append,List.length_singleton];omega
        ·have hx':e.trace++[s]=tr'++s'::r':=hx'
         rcases List.eq_nil_or_concat r' with rfl|⟨r',z,rfl⟩
         ·obtain ⟨rfl,_⟩:=List.append_inj' hx' rfl
          rw [←e2,←e3]
          exact ⟨hn,hfd⟩
         ·have hx2:e.trace++[s]=(tr'++s'::r')++[z]:=by rw [hx'];simp
          obtain ⟨h1,_⟩:=List.append_inj' hx2 rfl
          exact e5 tr' s' r' h1
      ·rcases List.mem_append.1 hp with hp|hp
       ·rcases hI.cls p hp s hs with g|g|⟨x,hx,g1,g2⟩
        ·exact .inl g
        ·exact .inr (.inl (List.mem_append_left _ g))
        ·rcases List.mem_cons.1 hx with rfl|hx
         ·refine .inr (.inl (List.mem_append_right _ (List.mem_singleton.2 ?_)))
          rw [g1,g2]
         ·exact .inr (.inr ⟨x,List.mem_append_left _ hx,g1,g2⟩)
       ·rw [List.mem_singleton] at hp
        subst hp
        exact .inr (.inr ⟨⟨goF a e.a s,goF b e.b s,e.trace++[s]⟩,List.mem_append_right _ (List.mem_map.2 ⟨s,hs,rfl⟩),rfl,rfl⟩)
      ·rcases hI.ini with g|⟨x,hx,g1,g2⟩
       ·exact .inl (List.mem_append_left _ g)
       ·rcases List.mem_cons.1 hx with rfl|hx
        ·refine .inl (List.mem_append_right _ (List.mem_singleton.2 ?_))
         rw [g1,g2]
        ·exact .inr ⟨x,List.mem_append_left _ hx,g1,g2⟩
      ·unfold xH
       simp only [List.length_append,List.length_map,List.length_singleton];omega
     have hl2:=hnew.small
     refine ⟨(tH (l++[(e.a,e.b)]),r++xH a b M e),h.more l e r hr ht hn hnl hfd hin,⟨_,_,rfl,hnew⟩,?_⟩
     simp only [aQS,List.length_append,List.length_singleton,List.length_cons] at hl2 ⊢
     unfold xH
     rw [List.length_map]
     omega
 ·intro e he
  rw [List.mem_singleton] at he
  subst he
  exact ⟨fun s hs=>(by simp at hs),rfl,rfl,Nat.le_refl _,fun tr' s r h=>by simp at h⟩
end
end Gv
namespace Gv
open Go
section
variable {a b:aO} {M:List aL}
theorem aOE {γ:Type} (x:γ) (l:List γ):vT (x::l) 1 ((x::l).length:Int)=some l:=by
 unfold vT
 rw [if_pos ⟨by decide,by simp;omega,by simp⟩]
 simp
theorem aMj {l:List aL} (h:l.length<=2000000):cE l=some l:=by
 unfold cE
 rw [bS (by simp [iO];omega),aA,List.nil_append]
theorem ft_push (ha:aFV a) (hb:aFV b) (hM:M.length<=30) {e:aP} {r:List aP} (hr:r.length<=1000000) (ht:e.trace.length<=1000000):
  loop (fun s:List aP × Int=>gJ a b M e s.1 s.2) (r,0)=some (r++xH a b M e):=by
 obtain ⟨x,h1,h2⟩:=cJ (step:=fun s:List aP × Int=>gJ a b M e s.1 s.2) M.length (fun k (q:List aP)=>(q,(k:Int))) (fun k q=>q=r++xH a b (M.take k) e) (fun q=>q=r++xH a b M e) (fun k q hk hI=>by
  subst hI
  refine ⟨r++xH a b (M.take (k+1)) e,?_,rfl⟩
  show gJ a b M e (r++xH a b (M.take k) e) (k:Int)=_
  unfold gJ aAz
  have hl:(xH a b (M.take k) e).length=k:=by unfold xH;rw [List.length_map,List.length_take];omega
  rw [if_pos (bD hk),bE hk,aA,step_eq ha.1 ha.2,aA,step_eq hb.1 hb.2,aA,aMj (by omega),aA,bS (by simp [iO];omega),aA,bS (by simp only [List.length_append,List.length_singleton,hl,iO];omega),aA,aW hk (by omega)]
  unfold xH
  rw [List.take_succ_eq_append_getElem hk,List.map_append,List.map_singleton,List.append_assoc]) (fun q hI=>by
  subst hI
  refine ⟨r++xH a b (M.take M.length) e,?_,by rw [List.take_length]⟩
  show gJ a b M e (r++xH a b (M.take M.length) e) (M.length:Int)=_
  unfold gJ
  rw [if_neg (by simp)]) M.length 0 r (by omega) (by simp [xH])
 subst h2
 exact h1
theorem s5_v2:@gJ=@gJ:=rfl
theorem ft_step2 (ha:aFV a) (hb:aFV b) (hM:M.length<=30):Stp a b M (fun p q=>decide (p < 0\/q < 0)) fun s=>gK a b M s.1 s.2:=by
 have hc:∀ (l:List (Int × Int)) (e:aP) (r:List aP),gK a b M (tH l) (e::r)=lR a b M (tH l) e r (decide (bN e.a e.b\/(e.a,e.b)∈l)):=by
  intro l e r
  unfold gK
  rw [if_pos (by simp),show ix (e::r) 0=some e from rfl,aA,aOE,aA]
  have hg:(mW (tH l) (⟨e.a,e.b⟩:Int × Int)).getD false=decide ((e.a,e.b)∈l):=aIX (e.a,e.b) l
  rw [hg]
  by_cases h1:e.a < 0
  ·rw [if_pos (by simpa using h1)]
   by_cases h2:e.b < 0
   ·rw [if_pos (by simpa using h2),decide_eq_true (show bN e.a e.b\/(e.a,e.b)∈l from .inl ⟨h1,h2⟩)]
   ·rw [if_neg (by simpa using h2)]
    congr 1
    exact decide_eq_decide.2 ⟨.inr,fun h=>h.resolve_left fun g=>h2 g.2⟩
  ·rw [if_neg (by simpa using h1)]
   congr 1
   exact decide_eq_decide.2 ⟨.inr,fun h=>h.resolve_left fun g=>h1 g.1⟩
 have hq:∀ p q:Int,tC p q=some (decide (p < 0\/q < 0)):=by
  intro p q
  unfold tC sC
  by_cases h:p < 0<;>simp [h]
 refine ⟨fun l=>?_,fun l e r hr ht h=>?_,fun l e r hr ht h1 h2 h3 _=>?_,fun l e r hr ht h1 h2 h3 _=>?_⟩
 ·show gK a b M (tH l) []=_
  unfold gK
  rw [if_neg (by simp)]
 ·show gK a b M (tH l) (e::r)=_
  rw [hc,decide_eq_true h];rfl
 ·show gK a b M (tH l) (e::r)=_
  rw [hc,decide_eq_false (fun g=>g.elim h1 h2)]
  unfold lR
  rw [if_neg (by simp),aA,hq,aA,if_pos h3]
 ·show gK a b M (tH l) (e::r)=_
  rw [hc,decide_eq_false (fun g=>g.elim h1 h2)]
  unfold lR
  have hp:vN (tH l) (⟨e.a,e.b⟩:Int × Int) true=tH (l++[(e.a,e.b)]):=aIY h2
  rw [if_neg (by simp),aA,hq,aA,if_neg (by simpa using h3),s5_v2,ft_push ha hb hM hr ht,aA,hp]
  rfl
def aHh:Unit ⊕ (List aL × Bool)->List aL × Bool
 |.inl _=>([],false)
 |.inr x=>x
theorem aKB (ha:aN a) (hb:aN b):∃ M,Jn a b M/\(ob (bB [a.L,b.L]) fun r35=>ob (aDq 1 0 r35 []) fun r47=>vT r47.L 1 (r47.L.length:Int))=some M:=by
 obtain ⟨M,_,hJ,_⟩:=jn_of ha hb
 have h1:=ha.2.2.1.2.1
 have h2:=hb.2.2.1.2.1
 refine ⟨M,hJ,?_⟩
 rw [aOp _ _ (by omega),aA,lts_gen (M:=M) (Eo:=[]) hJ.str hJ.mem (by rw [List.length_append];omega) (by simp) (by simp) (by unfold SE;simp) (by simp) (by have:=hJ.len;omega),aA]
 exact aOE bC M
theorem first_two (ha:aFV a) (hb:aFV b) (ha0:a.I=0) (hb0:b.I=0):∃ M r,Jn a b M/\uH a b=some (aHh r)/\FtRes a b M (fun p q=>decide (p < 0\/q < 0)) r:=by
 obtain ⟨M,hJ,hm⟩:=aKB ha.1 hb.1
 have hlen:=hJ.len
 obtain ⟨r,h1,h2⟩:=aOD (ft_step2 (M:=M) ha hb (by omega)) ha.1 hb.1 (by omega)
 refine ⟨M,r,hJ,?_,h2⟩
 unfold uH
 have h1':loop (fun s:List ((Int × Int) × Bool) × List aP=>gK a b M s.1 s.2) (([]:List ((Int × Int) × Bool)),([⟨0,0,[]⟩]:List aP))=some r:=h1
 cases hx:bB [a.L,b.L] with
 |none=>rw [hx] at hm;cases hm
 |some X=>
  rw [hx,aA] at hm
  rw [aA]
  cases hy:aDq 1 0 X [] with
  |none=>rw [hy] at hm;cases hm
  |some Y=>
   rw [hy,aA] at hm
   rw [aA,hm,aA,ha0,hb0,h1',aA]
   cases r with
   |inl x=>rfl
   |inr x=>rfl
end
end Gv
namespace Gv
open Go
def VisL (s:aL):Prop:=aJX s=true/\s≠bC/\s.length<=999999999
section
variable {t:aO}
theorem tail_vis (hv:aN t) (hf:eT 999999999 t) {s:aL} (hs:s∈t.L.tail):VisL s:=by
 have hl:=hv.2.2.1
 obtain ⟨k,hk,rfl⟩:=List.mem_iff_getElem.1 hs
 rw [List.length_tail] at hk
 have h:=hl.2.2.2 (k+1) (by omega) (by omega)
 rw [List.getElem_tail]
 exact ⟨h.1,h.2.1,hf.2.1 _ (List.getElem_mem _)⟩
theorem aSE (hv:aN t) {tr:List aL} (hl:tr.length<=1000000000):oW t tr=some (aft t tr):=by
 unfold oW
 rw [(aFY hv).2.1,aA]
 obtain ⟨r,h1,h2⟩:=cJ (step:=fun s:List Int × Int=>pP t tr s.1 s.2) tr.length (fun k (q:List Int)=>(q,(k:Int))) (fun k q=>q=aft t (tr.take k)) (fun q=>q=aft t tr) (fun k q hk hI=>by
  subst hI
  refine ⟨aft t (tr.take (k+1)),?_,rfl⟩
  show pP t tr (aft t (tr.take k)) (k:Int)=_
  unfold pP
  rw [if_pos (bD hk),bE hk,aA,(aJz hv (aFv hv _) _).1,aA,aW hk (by omega),List.take_succ_eq_append_getElem hk,aLu]) (fun q hI=>by
  subst hI
  refine ⟨aft t (tr.take tr.length),?_,by rw [List.take_length]⟩
  show pP t tr (aft t (tr.take tr.length)) (tr.length:Int)=_
  unfold pP
  rw [if_neg (by simp)]) tr.length 0 (wE t) (by omega) rfl
 subst h2
 have h1':loop (fun s:List Int × Int=>pP t tr s.1 s.2) (wE t,0)=some (aft t tr):=h1
 rw [h1',aA];rfl
structure EntP (d:aO) (n:Nat) (e:aP):Prop where
 len:e.trace.length<=n
 lab:∀ s∈e.trace,s∈d.L.tail
 run:e.a=jA d e.trace
 pos:0<=e.a
end
end Gv
namespace Gv
open Go
section
variable {a b:aO}
def OvL (a b:aO) (tr:List aL):Prop:=∀ s∈tr,s∈a.L++b.L/\s≠bC
theorem OvL.symm {tr:List aL} (h:OvL a b tr):OvL b a tr:=fun s hs=>⟨by
 have:=(h s hs).1
 rw [List.mem_append] at this ⊢
 exact this.symm,(h s hs).2⟩
theorem OvL.vis (ha:aN a) (hb:aN b) (fa:eT 999999999 a) (fb:eT 999999999 b) {tr:List aL} (h:OvL a b tr):∀ s∈tr,VisL s:=fun s hs=>by
 obtain ⟨h1,h2⟩:=h s hs
 have key:∀ {t:aO},aN t->eT 999999999 t->s∈t.L->VisL s:=fun {t} hv hf h=>by
  obtain ⟨h0,e0⟩:=tau_at hv
  refine tail_vis hv hf ?_
  rw [(tail_cons hv).1] at h
  rcases List.mem_cons.1 h with h|h
  ·exact absurd h h2
  ·exact h
 rcases List.mem_append.1 h1 with h|h
 ·exact key ha fa h
 ·exact key hb fb h
theorem aCK (t:aO):(detS t).2.2=decide (Small (dC t)):=by
 unfold detS
 by_cases h:Small (dC t)
 ·rw [if_pos h,decide_eq_true h]
 ·rw [if_neg h,decide_eq_false h]
theorem cmp_two (ha:aN a) (hb:aN b) (fa:eT 999999999 a) (fb:eT 999999999 b):uR a b=if Small (dC a)/\Small (dC b) then (ob (uH (jQ a) (jQ b)) fun r87=>some (!r87.2,r87.1,0)) else some (false,[],5):=by
 unfold uR
 rw [kK a fa,aHB ha,aA,if_neg (by simp),kK b fb,aHB hb,aA]
 unfold pO
 rw [if_neg (by simp),tG ha fa,aA,tG hb fb,aA,aCK,aCK]
 by_cases h1:Small (dC a)
 ·rw [decide_eq_true h1,if_neg (by simp)]
  by_cases h2:Small (dC b)
  ·rw [decide_eq_true h2,if_pos ⟨h1,h2⟩]
   unfold pN
   rw [if_neg (by simp)]
   unfold detS
   rw [if_pos h1,if_pos h2];rfl
  ·rw [decide_eq_false h2,if_neg (fun h=>h2 h.2)];rfl
 ·rw [decide_eq_false h1,if_pos (show (!false)=true from rfl),if_neg (fun h=>h1 h.1)];rfl
theorem jn_ov {M:List aL} (hJ:Jn (jQ a) (jQ b) M) {tr:List aL}:OvM M tr<->OvL a b tr:=by
 constructor
 ·intro h s hs;exact (hJ.mem s).1 (h s hs)
 ·intro h s hs;exact (hJ.mem s).2 (h s hs)
theorem same_ok (ha:aN a) (hb:aN b) (fa:eT 999999999 a) (fb:eT 999999999 b) (sa:Small (dC a)) (sb:Small (dC b)):
  ∃ same w,rS a b=some (same,w,0)/\(same=true->∀ tr,OvL a b tr->(aft a tr=[]<->aft b tr=[]))/\(same=false->OvL a b w/\¬ (aft a w=[]/\aft b w=[])/\(aft a w=[]\/aft b w=[])):=by
 obtain ⟨M,r,hJ,h1,h2⟩:=first_two (aJv ha sa) (aJv hb sb) rfl rfl
 have h1':uH (jQ a) (jQ b)=some (aHh r):=h1
 refine ⟨!(aHh r).2,(aHh r).1,?_,fun hi tr htr=>?_,fun hi=>?_⟩
 ·unfold rS
  rw [cmp_two ha hb fa fb,if_pos ⟨sa,sb⟩,h1',aA,aA]
 ·have hvis:∀ s∈tr,s≠bC:=fun s hs=>(htr s hs).2
  cases r with
  |inr x=>
   obtain ⟨tr0,v⟩:=x
   have hv:v=true:=h2.1
   subst hv
   simp [aHh] at hi
  |inl x=>
   have h3:bN (jA (jQ a) tr) (jA (jQ b) tr)\/decide (jA (jQ a) tr < 0\/jA (jQ b) tr < 0)=false:=h2 tr ((jn_ov hJ).2 htr)
   have ea:=aLv ha sa hvis
   have eb:=aLv hb sb hvis
   rcases h3 with h|h
   ·exact ⟨fun _=>eb.1 h.2,fun _=>ea.1 h.1⟩
   ·rw [decide_eq_false_iff_not] at h
    exact ⟨fun g=>absurd (.inl (ea.2 g)) h,fun g=>absurd (.inr (eb.2 g)) h⟩
 ·cases r with
  |inl x=>simp [aHh] at hi
  |inr x=>
   obtain ⟨w,v⟩:=x
   obtain ⟨_,k0,k1,k2,k3,k4⟩:v=true/\w.length<=2000/\OvM M w/\¬ bN (jA (jQ a) w) (jA (jQ b) w)/\decide (jA (jQ a) w < 0\/jA (jQ b) w < 0)=true/\∀ tr' s r,w=tr'++s::r->¬ bN (jA (jQ a) tr') (jA (jQ b) tr')/\decide (jA (jQ a) tr' < 0\/jA (jQ b) tr' < 0)=false:=h2
   have hov:=(jn_ov hJ).1 k1
   have hvis:∀ s∈w,s≠bC:=fun s hs=>(hov s hs).2
   have ea:=aLv ha sa hvis
   have eb:=aLv hb sb hvis
   rw [decide_eq_true_iff] at k3
   exact ⟨hov,fun h=>k2 ⟨ea.2 h.1,eb.2 h.2⟩,k3.imp ea.1 eb.1⟩
end
end Gv
namespace Gv
open Go
theorem anU_le (x:Int):0<=anU x 255/\anU x 255<=255:=by
 unfold anU
 have h:(BitVec.ofInt 64 x&&& BitVec.ofInt 64 255).toNat<=255:=by
  rw [BitVec.toNat_and]
  exact Nat.le_trans Nat.and_le_right (by decide)
 unfold oZ
 omega
theorem shU_ok (x:Int):∃ y,shU x 40=some y:=⟨_,by unfold shU;rw [if_pos (by decide)]⟩
theorem byte_le (b:UInt8):0<=(b.toNat:Int)/\(b.toNat:Int)<=255:=by
 have:=b.toNat_lt
 omega
theorem next_ok (c:aL) {s1:Int} (s2:Int) (h:0<=s1/\s1<=1000000000000):∃ v s2',vL c s1 s2=some (v,s1+1,s2')/\0<=v/\v<=255:=by
 have hw:wr (s1+1)=s1+1:=fS (by omega) (by omega)
 have key:∀ b:Int,0<=b/\b<=255->∃ v s2',sU c s1 s2 b=some (v,s1+1,s2')/\0<=v/\v<=255:=by
  intro b hb
  unfold sU
  rw [hw]
  split
  ·exact ⟨_,_,rfl,hb⟩
  ·obtain ⟨y,hy⟩:=shU_ok (oZ ((oZ ((oZ (s2 * 6364136223846793005))+(oZ b)))+1442695040888963407))
   rw [hy,aA]
   have h2:=anU_le y
   refine ⟨_,_,rfl,?_⟩
   rw [fS (by omega) (by omega)];exact h2
 unfold vL
 split
 ·rename_i hlt
  have hlt':s1 < (c.length:Int):=by simpa using hlt
  rw [aIb h.1 (by omega),aA]
  have hb:=byte_le (c[s1.toNat]'(by omega))
  rw [fS (by omega) (by omega)]
  exact key _ hb
 ·exact key 0 (by omega)
theorem rm_ok {x n:Int} (hx:0<=x) (hn:1<=n):∃ v,rm x n=some v/\0<=v/\v < n:=by
 unfold rm
 rw [if_neg (by omega)]
 have e:x.tmod n=x % n:=Int.tmod_eq_emod_of_nonneg hx
 have h1:=Int.emod_nonneg x (show n≠0 by omega)
 have h2:=Int.emod_lt_of_pos x (show 0 < n by omega)
 first
  |exact ⟨_,rfl,by rw [e];exact h1,by rw [e];exact h2⟩
  |exact ⟨_,rfl,by rw [e,fS]<;>omega,by rw [e,fS]<;>omega⟩
theorem pV (c:aL) {s1 n:Int} (s2:Int) (h:0<=s1/\s1<=100000000000) (hn:1<=n):∃ v s1' s2',bZ c s1 s2 n=some (v,s1',s2')/\(0<=v/\v < n)/\s1<=s1'/\s1'<=s1+2:=by
 unfold bZ
 by_cases h1:n<=1
 ·rw [if_pos (by simpa using h1)]
  exact ⟨_,_,_,rfl,by omega,by omega,by omega⟩
 ·rw [if_neg (by simpa using h1)]
  obtain ⟨v,t2,e,g1,g2⟩:=next_ok c s2 (s1:=s1) (by omega)
  rw [e,aA]
  simp only
  have key:∀ x a b:Int,0<=x->s1<=a->a<=s1+2->∃ v s1' s2',sV n x a b=some (v,s1',s2')/\(0<=v/\v < n)/\s1<=s1'/\s1'<=s1+2:=by
   intro x a b hx ha hb
   unfold sV
   obtain ⟨y,hy,q1,q2⟩:=rm_ok hx (show 1<=n by omega)
   rw [hy,aA]
   exact ⟨_,_,_,rfl,⟨q1,q2⟩,ha,hb⟩
  by_cases h2:200 < n
  ·rw [if_pos (by simpa using h2)]
   obtain ⟨v',t2',e',g1',g2'⟩:=next_ok c t2 (s1:=s1+1) (by omega)
   rw [e',aA]
   simp only
   rw [fS (x:=v * 256) (by omega) (by omega),fS (by omega) (by omega)]
   exact key _ _ _ (by omega) (by omega) (by omega)
  ·rw [if_neg (by simpa using h2)]
   exact key _ _ _ g1 (by omega) (by omega)
theorem one_ok (c:aL) {s1 n:Int} (s2:Int) (h:0<=s1/\s1<=100000000000) (hn:1<=n):∃ b s1' s2',yD c s1 s2 n=some (b,s1',s2')/\s1<=s1'/\s1'<=s1+2:=by
 obtain ⟨v,a,b,e,_,h2,h3⟩:=pV c s2 h hn
 unfold yD
 rw [e,aA]
 exact ⟨_,_,_,rfl,h2,h3⟩
theorem among_ok (c:aL) {s1:Int} (s2:Int) (h:0<=s1/\s1<=100000000000) {l:List Int} (hl:l≠[]):∃ v s1' s2',aBU c s1 s2 l=some (v,s1',s2')/\v∈l/\s1<=s1'/\s1'<=s1+2:=by
 have h1:1<=(l.length:Int):=by
  have:=List.length_pos_iff.2 hl
  omega
 obtain ⟨v,a,b,e,hv,h2,h3⟩:=pV c s2 h h1
 unfold aBU
 rw [e,aA]
 simp only
 rw [aIb hv.1 (by omega),aA]
 exact ⟨_,_,_,rfl,List.getElem_mem _,h2,h3⟩
end Gv
namespace Gv
open Go
def Nm:List aL:=[bC,[97],[98],[99],[103,101,116,40,48,41],[103,101,116,40,49,41]]
theorem Nm_lab:∀ s∈Nm,aJX s=true:=by decide
theorem Nm_len:∀ s∈Nm,s.length<=6:=by decide
structure Drn (c:Nat) (t:aO):Prop where
 ok:aN t
 nm:∀ s∈t.L,s∈Nm
 st:t.N<=10
 ed:t.E.length<=c
theorem Drn.fits {c:Nat} {t:aO} (h:Drn c t):eT 999999999 t:=by
 have h1:=h.ok.2.2.1.2.1
 have h2:=h.ok.2.2.2.1
 refine ⟨by omega,fun s hs=>?_,by omega⟩
 have:=Nm_len s (h.nm s hs)
 omega
theorem Drn.mono {c d:Nat} {t:aO} (h:Drn c t) (hc:c<=d):Drn d t:=⟨h.ok,h.nm,h.st,Nat.le_trans h.ed hc⟩
theorem srtE_SE (l:List Edge):SE (iI (tI bK l)):=by
 have h1:(tI bK l).Pairwise fun a b=>bK b a=false:=by
  have:=List.pairwise_mergeSort (le:=fun a b=>!bK b a) (fun a b c h1 h2=>?_) (fun a b=>?_) l
  ·refine this.imp fun {a b} h=>?_
   simpa using h
  ·simp only [Bool.not_eq_true'] at h1 h2 ⊢
   cases h3:bK c a with
   |false=>rfl
   |true=>
    have:=aJw h3 h1
    rw [h2] at this;cases this
  ·cases h3:bK b a with
   |false=>simp
   |true=>simp [aKt h3]
 exact aCF (R:=fun a b=>bK b a=false) (S:=fun a b=>bK a b=true) (fun h hne=>aMh h hne) (fun h h'=>aJw h h') h1
theorem aSF (l:List Edge):(iI (tI bK l)).length<=l.length:=by
 have:=aCJ (tI bK l)
 unfold tI at this ⊢
 rwa [List.length_mergeSort] at this
theorem aSG {l:List Edge} {x:Edge}:x∈iI (tI bK l)<->x∈l:=by
 rw [aCE];unfold tI;rw [List.mem_mergeSort]
theorem labs_nm {M:List aL} (hM:nT M) (hn:∀ s∈M,s∈Nm):aDU (bC::M):=by
 have hnd:M.Nodup:=hM.1.imp fun {a b} h e=>by subst e;rw [rU] at h;cases h
 have hl:M.length<=5:=by
  have:=List.Nodup.length_le_of_subset (l₁:=bC::M) (l₂:=Nm) (List.nodup_cons.2 ⟨hM.2,hnd⟩) (fun x hx=>by
   rcases List.mem_cons.1 hx with rfl|hx
   ·simp [Nm]
   ·exact hn x hx)
  have h6:Nm.length=6:=rfl
  rw [List.length_cons] at this
  omega
 refine ⟨by simp,by simp;omega,fun _=>rfl,fun k h1 hk=>?_⟩
 obtain ⟨k,rfl⟩:∃ j,k=j+1:=⟨k - 1,by omega⟩
 have hk':k < M.length:=by simpa using hk
 have hm:M[k]∈M:=List.getElem_mem hk'
 rw [List.getElem_cons_succ]
 refine ⟨Nm_lab _ (hn _ hm),fun e=>hM.2 (e ▸ hm),fun h2=>?_⟩
 obtain ⟨k,rfl⟩:∃ j,k=j+1:=⟨k - 1,by omega⟩
 have:=List.pairwise_iff_getElem.1 hM.1 k (k+1) (by omega) hk' (by omega)
 simpa using this
theorem aRb {T:List aL} (hT:∀ s∈T,s∈Nm) (hTl:T.length<=100) {st ini:Int} (h1:1<=st/\st<=10) (h2:0<=ini/\ini < st) {edges:List Edge} (hl:edges.length<=300)
  (he:∀ e∈edges,(0<=e.F/\e.F < st)/\(0<=e.To/\e.To < st)/\0<=e.B/\e.B < T.length):∃ t,sK st ini T edges=some t/\Drn edges.length t/\t.N=st/\t.I=ini:=by
 obtain ⟨M,_,j2,j3,j4⟩:=aLp T (by omega)
 have hM:∀ s∈M,s∈Nm:=fun s hs=>hT s ((j3 s).1 hs).1
 refine ⟨⟨st,ini,bC::M,iI (tI bK (edges.map fun e=>(⟨e.F,pos (bC::M) (T.getD e.B.toNat []),e.To⟩:Edge)))⟩,make_gen (by omega) j2 j3 (by omega) (fun e h=>(he e h).2.2) (srtE_SE _) (fun x=>?_) st ini,⟨⟨by show 1<=st/\st<=40;omega,by show 0<=ini/\ini<=st - 1;omega,labs_nm j2 hM,aLq ?_ (srtE_SE _) fun x hx=>?_⟩,fun s hs=>?_,by show st<=10;omega,?_⟩,rfl,rfl⟩
 ·rw [aSG,List.mem_map]
  exact ⟨fun ⟨e,h,g⟩=>⟨e,h,g.symm⟩,fun ⟨e,h,g⟩=>⟨e,h,g.symm⟩⟩
 ·have:=aSF (edges.map fun e=>(⟨e.F,pos (bC::M) (T.getD e.B.toNat []),e.To⟩:Edge))
  rw [List.length_map] at this
  exact Nat.le_trans this hl
 ·obtain ⟨e,h,rfl⟩:=List.mem_map.1 (aSG.1 hx)
  obtain ⟨g1,g2,g3,g4⟩:=he e h
  have hin:T.getD e.B.toNat []∈bC::M:=by
   have hmem:T.getD e.B.toNat []∈T:=by
    rw [List.getD_eq_getElem?_getD,List.getElem?_eq_getElem (by omega)]
    exact List.getElem_mem _
   by_cases ht:T.getD e.B.toNat []=bC
   ·rw [ht];simp
   ·exact List.mem_cons_of_mem _ ((j3 _).2 ⟨hmem,ht⟩)
  have:=aQZ hin
  show (0<=e.F/\e.F<=st - 1)/\(0<=e.To/\e.To<=st - 1)/\0<=pos (bC::M) (T.getD e.B.toNat [])/\pos (bC::M) (T.getD e.B.toNat [])<=((bC::M).length:Int) - 1
  omega
 ·rcases List.mem_cons.1 hs with rfl|hs
  ·simp [Nm]
  ·exact hM s hs
 ·have:=aSF (edges.map fun e=>(⟨e.F,pos (bC::M) (T.getD e.B.toNat []),e.To⟩:Edge))
  rw [List.length_map] at this
  exact this
theorem names_ok (c:aL) {s1:Int} (s2:Int) (h:0<=s1/\s1<=10000000000):∃ L s1' s2',wP c s1 s2=some (L,s1',s2')/\((∀ s∈L,s∈Nm)/\1<=L.length/\L.length<=7)/\s1<=s1'/\s1'<=s1+10:=by
 have key:=cJ (step:=fun s:Int × Int × List aL × Int=>nO c s.1 s.2.1 s.2.2.1 s.2.2.2) 5 (fun k (a:Int × Int × List aL)=>(a.1,a.2.1,a.2.2,(k:Int))) (fun k a=>(∀ s∈a.2.2,s∈Nm)/\1<=a.2.2.length/\a.2.2.length<=1+k/\s1<=a.1/\a.1<=s1+2 * k)
  (fun r=>(∀ s∈r.1,s∈Nm)/\1<=r.1.length/\r.1.length<=6/\s1<=r.2.1/\r.2.1<=s1+10) (fun k a hk hI=>?_) (fun a hI=>?_) 5 0 (s1,s2,[bC]) (by omega) ⟨by simp [Nm],by simp,by simp,by simp,by simp⟩
 ·obtain ⟨r,h1,g1,g2,g3,g4,g5⟩:=key
  unfold wP
  have h1':loop (fun s:Int × Int × List aL × Int=>nO c s.1 s.2.1 s.2.2.1 s.2.2.2) (s1,s2,[bC],0)=some r:=h1
  rw [show ([([116,97,117]:aL)]:List aL)=[bC] from rfl,h1',aA]
  unfold wB wA
  split
  ·rw [bS (by simp [iO];omega),aA]
   refine ⟨_,_,_,rfl,⟨fun s hs=>?_,by simp,by simp;omega⟩,g4,g5⟩
   rcases List.mem_append.1 hs with hs|hs
   ·exact g1 s hs
   ·simp at hs;subst hs;simp [Nm]
  ·exact ⟨_,_,_,rfl,⟨g1,g2,by omega⟩,g4,g5⟩
 ·obtain ⟨x,y,o⟩:=a
  obtain ⟨g1,g2,g3,g4,g5⟩:=hI
  simp only at g1 g2 g3 g4 g5 ⊢
  obtain ⟨b,t1,t2,e,h3,h4⟩:=one_ok c y (s1:=x) (n:=2) (by omega) (by omega)
  have hw:wr ((k:Int)+1)=((k+1:Nat):Int):=aW hk (by omega)
  unfold nO
  rw [if_pos (by simp;omega),e,aA]
  have hno:kX (k:Int) t1 t2 o=some (.inl (t1,t2,o,((k+1:Nat):Int))):=by unfold kX;rw [hw]
  have key:∀ v:Bool,∃ a':Int × Int × List aL,qZ o (k:Int) t1 t2 v=some (.inl (a'.1,a'.2.1,a'.2.2,((k+1:Nat):Int)))/\(∀ s∈a'.2.2,s∈Nm)/\1<=a'.2.2.length/\a'.2.2.length<=1+(k+1)/\s1<=a'.1/\a'.1<=s1+2 * ((k+1:Nat):Int):=by
   intro v
   unfold qZ
   cases v with
   |false=>
    rw [if_neg (by simp),hno]
    exact ⟨(t1,t2,o),rfl,g1,g2,by simp only;omega,by simp only;omega,by simp only;omega⟩
   |true=>
    have hkl:k < ([([97]:aL),([98]:aL),([99]:aL),([103,101,116,40,48,41]:aL),([103,101,116,40,49,41]:aL)]:List aL).length:=hk
    rw [if_pos rfl,bE hkl,aA,bS (by simp [iO];omega),aA]
    unfold kX
    rw [hw]
    refine ⟨(t1,t2,_),rfl,fun s hs=>?_,by simp,by simp;omega,by simp only;omega,by simp only;omega⟩
    rcases List.mem_append.1 hs with hs|hs
    ·exact g1 s hs
    ·rw [List.mem_singleton] at hs
     have:s∈([([97]:aL),([98]:aL),([99]:aL),([103,101,116,40,48,41]:aL),([103,101,116,40,49,41]:aL)]:List aL):=hs ▸ List.getElem_mem hkl
     exact List.mem_cons_of_mem _ this
  split
  ·exact key _
  ·exact key _
 ·obtain ⟨x,y,o⟩:=a
  obtain ⟨g1,g2,g3,g4,g5⟩:=hI
  simp only at g1 g2 g3 g4 g5 ⊢
  refine ⟨(o,x,y),?_,g1,g2,by simp only;omega,g4,by simp only;omega⟩
  unfold nO
  rw [if_neg (by simp)]
end Gv
namespace Gv
open Go
def aAj (st:Int) (n:Nat) (e:Edge):Prop:=(0<=e.F/\e.F < st)/\(0<=e.To/\e.To < st)/\0<=e.B/\e.B < n
section
variable {c:aL} {r9 r14:Int × Int × Int} {base st:Int}
def aOF (K:List Int) (base st:Int):Prop:=(K.length:Int)=st/\∀ i,(hi:i < K.length)->(0<=K[i]/\K[i] < base)/\((i:Int) < base->K[i]=(i:Int))
theorem kinds_ok (hb:1<=base/\base<=4) (hs:base<=st/\st<=6) (e1:wr (1+r9.1)=base) (e2:wr (base+r14.1)=st) {s1:Int} (s2:Int) (h:0<=s1/\s1<=10000000000):
  ∃ a b K,loop (fun s:Int × Int × List Int × Int=>qK c r9 r14 s.1 s.2.1 s.2.2.1 s.2.2.2) (s1,s2,([]:List Int),0)=some (a,b,K)/\aOF K base st/\s1<=a/\a<=s1+12:=by
 have key:=cJ (step:=fun s:Int × Int × List Int × Int=>qK c r9 r14 s.1 s.2.1 s.2.2.1 s.2.2.2) st.toNat (fun k (a:Int × Int × List Int)=>(a.1,a.2.1,a.2.2,(k:Int))) (fun k a=>(a.2.2.length=k/\∀ i,(hi:i < a.2.2.length)->(0<=a.2.2[i]/\a.2.2[i] < base)/\((i:Int) < base->a.2.2[i]=(i:Int)))/\s1<=a.1/\a.1<=s1+2 * k)
  (fun r=>aOF r.2.2 base st/\s1<=r.1/\r.1<=s1+12) (fun k a hk hI=>?_) (fun a hI=>?_) st.toNat 0 (s1,s2,[]) (by omega) ⟨⟨rfl,fun i hi=>by simp at hi⟩,by simp,by simp⟩
 ·obtain ⟨⟨a,b,K⟩,h1,g1,g2,g3⟩:=key
  exact ⟨a,b,K,h1,g1,g2,g3⟩
 ·obtain ⟨x,y,o⟩:=a
  obtain ⟨⟨g1,g2⟩,g3,g4⟩:=hI
  simp only at g1 g2 g3 g4 ⊢
  have hw:wr ((k:Int)+1)=((k+1:Nat):Int):=aW hk (by omega)
  have hadd:∀ v:Int,(0<=v/\v < base)->((k:Int) < base->v=(k:Int))->(o++[v]).length=k+1/\∀ i,(hi:i < (o++[v]).length)->(0<=(o++[v])[i]/\(o++[v])[i] < base)/\((i:Int) < base->(o++[v])[i]=(i:Int)):=by
   intro v h1 h2
   refine ⟨by simp;exact g1,fun i hi=>?_⟩
   by_cases hl:i < o.length
   ·rw [List.getElem_append_left hl];exact g2 i hl
   ·have:i=o.length:=by simp at hi;omega
    subst this
    rw [List.getElem_append_right (Nat.le_refl _)]
    simp only [Nat.sub_self,List.getElem_cons_zero]
    exact ⟨h1,fun h=>by rw [g1] at h ⊢;exact h2 h⟩
  unfold qK
  rw [e1,e2,if_pos (by simp;omega)]
  by_cases hkb:(k:Int) < base
  ·rw [if_pos (by simpa using hkb),bS (by simp [iO];omega),aA]
   unfold qJ
   rw [hw]
   exact ⟨(x,y,o++[(k:Int)]),rfl,hadd _ (by omega) (fun _=>rfl),by simp only;omega,by simp only;omega⟩
  ·rw [if_neg (by simpa using hkb)]
   obtain ⟨v,t1,t2,e,q1,q2,q3⟩:=pV c y (s1:=x) (n:=base) (by omega) (by omega)
   rw [e,aA,bS (by simp [iO];omega),aA]
   unfold qJ
   rw [hw]
   exact ⟨(t1,t2,o++[v]),rfl,hadd _ q1 (fun h=>absurd h hkb),by simp only;omega,by simp only;omega⟩
 ·obtain ⟨x,y,o⟩:=a
  obtain ⟨⟨g1,g2⟩,g3,g4⟩:=hI
  simp only at g1 g2 g3 g4 ⊢
  refine ⟨(x,y,o),?_,⟨by simp only;omega,g2⟩,g3,by simp only;omega⟩
  unfold qK
  rw [e1,e2,if_neg (by simp;omega)]
theorem alike_ok {r219:Int × Int × Int} {K:List Int} (hb:1<=base/\base<=4) (hs:base<=st/\st<=6) (e1:wr (1+r9.1)=base) (e2:wr (base+r14.1)=st) (hK:aOF K base st) (hto:0<=r219.1/\r219.1 < base):
  ∃ l,loop (fun s:List Int × Int=>nI r9 r14 K r219 s.1 s.2) (([]:List Int),0)=some l/\l≠[]/\∀ z∈l,0<=z/\z < st:=by
 have hKl:=hK.1
 have key:=cJ (step:=fun s:List Int × Int=>nI r9 r14 K r219 s.1 s.2) st.toNat (fun k (a:List Int)=>(a,(k:Int))) (fun k a=>a.length<=k/\(r219.1 < k->r219.1∈a)/\∀ z∈a,0<=z/\z < st) (fun r=>r≠[]/\∀ z∈r,0<=z/\z < st) (fun k a hk hI=>?_) (fun a hI=>?_) st.toNat 0 [] (by omega) ⟨by simp,fun h=>by omega,by simp⟩
 ·obtain ⟨l,h1,h2⟩:=key
  exact ⟨l,h1,h2⟩
 ·obtain ⟨g1,g2,g3⟩:=hI
  have hkl:k < K.length:=by omega
  have hw:wr ((k:Int)+1)=((k+1:Nat):Int):=aW hk (by omega)
  show ∃ a',nI r9 r14 K r219 a (k:Int)=_/\_
  unfold nI wU
  rw [e1,e2,if_pos (by simp;omega),bE hkl,aA,hw]
  by_cases he:K[k]=r219.1
  ·rw [if_pos (by simpa using he),bS (by simp [iO];omega),aA]
   refine ⟨_,rfl,by simp;omega,fun h=>?_,fun z hz=>?_⟩
   ·by_cases hlt:r219.1 < k
    ·exact List.mem_append_left _ (g2 hlt)
    ·exact List.mem_append_right _ (by simp;omega)
   ·rcases List.mem_append.1 hz with hz|hz
    ·exact g3 z hz
    ·simp at hz;omega
  ·rw [if_neg (by simpa using he)]
   refine ⟨_,rfl,by omega,fun h=>g2 ?_,g3⟩
   have:=(hK.2 k hkl).2
   by_cases hlt:r219.1 < k
   ·exact hlt
   ·exfalso
    have e:r219.1=(k:Int):=by omega
    exact he (by rw [e];exact this (by omega))
 ·obtain ⟨g1,g2,g3⟩:=hI
  refine ⟨a,?_,fun h=>?_,g3⟩
  ·show nI r9 r14 K r219 a ((st.toNat:Nat):Int)=_
   unfold nI
   rw [e1,e2,if_neg (by simp;omega)]
  ·have:=g2 (by omega)
   rw [h] at this;cases this
theorem edges_row {r209 r214 r219:Int × Int × Int} {K:List Int} {nl:Nat} (hb:1<=base/\base<=4) (hs:base<=st/\st<=6) (e1:wr (1+r9.1)=base) (e2:wr (base+r14.1)=st) (hK:aOF K base st) (hto:0<=r219.1/\r219.1 < base) (hlab:0<=r214.1/\r214.1 < nl)
  {s1:Int} (s2:Int) (h:0<=s1/\s1<=10000000000) {ed:List Edge} (hed:∀ e∈ed,aAj st nl e) (hel:ed.length<=1000):
  ∃ a b ed',loop (fun s:Int × Int × List Edge × Int=>sW c r9 r14 K r209 r214 r219 s.1 s.2.1 s.2.2.1 s.2.2.2) (s1,s2,ed,0)=some (a,b,ed')/\(∀ e∈ed',aAj st nl e)/\ed'.length<=ed.length+6/\s1<=a/\a<=s1+12:=by
 have hKl:K.length=st.toNat:=by have:=hK.1;omega
 have hst9:st.toNat < 4611686018427387904:=by omega
 obtain ⟨al,ha1,ha2,ha3⟩:=alike_ok (r9:=r9) (r14:=r14) (r219:=r219) hb hs e1 e2 hK hto
 have key:=cJ (step:=fun s:Int × Int × List Edge × Int=>sW c r9 r14 K r209 r214 r219 s.1 s.2.1 s.2.2.1 s.2.2.2) st.toNat (fun k (a:Int × Int × List Edge)=>(a.1,a.2.1,a.2.2,(k:Int))) (fun k a=>(∀ e∈a.2.2,aAj st nl e)/\a.2.2.length<=ed.length+k/\s1<=a.1/\a.1<=s1+2 * k)
  (fun r=>(∀ e∈r.2.2,aAj st nl e)/\r.2.2.length<=ed.length+6/\s1<=r.1/\r.1<=s1+12) (fun k a hk hI=>?_) (fun a hI=>?_) st.toNat 0 (s1,s2,ed) (by omega) ⟨hed,by simp,by simp,by simp⟩
 ·obtain ⟨⟨a,b,K⟩,h1,g1,g2,g3⟩:=key
  exact ⟨a,b,K,h1,g1,g2,g3⟩
 ·obtain ⟨x,y,o⟩:=a
  obtain ⟨g1,g2,g3,g4⟩:=hI
  simp only at g1 g2 g3 g4 ⊢
  have hkl:k < K.length:=by rw [hKl];exact hk
  unfold sW
  rw [e1,e2,if_pos (by simp;omega),bE hkl,aA]
  unfold wT wS
  rw [aW hk (show st.toNat < 4611686018427387904 from hst9)]
  by_cases he:K[k]=r209.1
  ·rw [if_neg (by simp [he]),ha1,aA]
   obtain ⟨v,t1,t2,e,q1,q2,q3⟩:=among_ok c y (s1:=x) (by omega) ha2
   rw [e,aA,bS (by simp [iO];omega),aA]
   have hv:=ha3 v q1
   refine ⟨(t1,t2,_),rfl,fun e he=>?_,by simp;omega,by simp only;omega,by simp only;omega⟩
   rcases List.mem_append.1 he with he|he
   ·exact g1 e he
   ·rw [List.mem_singleton] at he
    subst he
    exact ⟨by simp only;omega,by simp only;omega,hlab⟩
  ·rw [if_pos (by simpa using he)]
   exact ⟨(x,y,o),rfl,g1,by simp only;omega,by simp only;omega,by simp only;omega⟩
 ·obtain ⟨x,y,o⟩:=a
  obtain ⟨g1,g2,g3,g4⟩:=hI
  simp only at g1 g2 g3 g4 ⊢
  refine ⟨(x,y,o),?_,g1,by simp only;omega,g3,by simp only;omega⟩
  unfold sW
  rw [e1,e2,if_neg (by simp;omega)]
theorem edges_all {r19:List aL × Int × Int} {K:List Int} (hb:1<=base/\base<=4) (hs:base<=st/\st<=6) (e1:wr (1+r9.1)=base) (e2:wr (base+r14.1)=st) (hK:aOF K base st) (hL:1<=r19.1.length/\r19.1.length<=7) {s1 m:Int} (s2:Int) (h:0<=s1/\s1<=1000000000) (hm:0<=m/\m<=9):
  ∃ a b ed,loop (fun s:Int × Int × List Edge × Int=>qI c r9 r14 r19 K s.1 s.2.1 s.2.2.1 s.2.2.2) (s1,s2,([]:List Edge),m)=some (a,b,ed)/\(∀ e∈ed,aAj st r19.1.length e)/\ed.length<=54/\s1<=a/\a<=s1+200:=by
 have key:=cJ (step:=fun s:Int × Int × List Edge × Int=>qI c r9 r14 r19 K s.1 s.2.1 s.2.2.1 s.2.2.2) m.toNat (fun k (a:Int × Int × List Edge)=>(a.1,a.2.1,a.2.2,m - (k:Int))) (fun k a=>(∀ e∈a.2.2,aAj st r19.1.length e)/\a.2.2.length<=6 * k/\s1<=a.1/\a.1<=s1+18 * k)
  (fun r=>(∀ e∈r.2.2,aAj st r19.1.length e)/\r.2.2.length<=54/\s1<=r.1/\r.1<=s1+200) (fun k a hk hI=>?_) (fun a hI=>?_) m.toNat 0 (s1,s2,[]) (by omega) ⟨by simp,by simp,by simp,by simp⟩
 ·obtain ⟨⟨a,b,K⟩,h1,g1,g2,g3⟩:=key
  exact ⟨a,b,K,by simpa using h1,g1,g2,g3⟩
 ·obtain ⟨x,y,o⟩:=a
  obtain ⟨g1,g2,g3,g4⟩:=hI
  simp only at g1 g2 g3 g4 ⊢
  obtain ⟨v,t1,t2,q,q1,q2,q3⟩:=pV c y (s1:=x) (n:=base) (by omega) (by omega)
  obtain ⟨v',t1',t2',q',q1',q2',q3'⟩:=pV c t2 (s1:=t1) (n:=(r19.1.length:Int)) (by omega) (by omega)
  obtain ⟨v'',t1'',t2'',q'',q1'',q2'',q3''⟩:=pV c t2' (s1:=t1') (n:=base) (by omega) (by omega)
  obtain ⟨a,b,ed',p1,p2,p3,p4,p5⟩:=edges_row (c:=c) (r9:=r9) (r14:=r14) (r209:=(v,t1,t2)) (r214:=(v',t1',t2')) (r219:=(v'',t1'',t2'')) (nl:=r19.1.length) hb hs e1 e2 hK q1'' q1' t2'' (s1:=t1'') (by omega) g1 (by omega)
  unfold qI
  rw [if_pos (by simp;omega),e1,q,aA,q',aA,q'',aA,p1,aA]
  unfold aBW aBV
  have hw:wr (m - (k:Int) - 1)=m - ((k+1:Nat):Int):=by rw [fS (by omega) (by omega)];omega
  rw [hw]
  exact ⟨(a,b,ed'),rfl,p2,by simp only;omega,by simp only;omega,by simp only;omega⟩
 ·obtain ⟨x,y,o⟩:=a
  obtain ⟨g1,g2,g3,g4⟩:=hI
  simp only at g1 g2 g3 g4 ⊢
  refine ⟨(x,y,o),?_,g1,by simp only;omega,g3,by simp only;omega⟩
  unfold qI
  rw [if_neg (by simp;omega)]
end
theorem drawOk_ok (c:aL) {s1:Int} (s2:Int) (h:0<=s1/\s1<=100000000):∃ t s1' s2',aDo c s1 s2=some (t,s1',s2')/\(Drn 55 t/\t.N<=6)/\s1<=s1'/\s1'<=s1+300:=by
 obtain ⟨v9,a9,b9,x9,y9,z9,w9⟩:=pV c s2 (s1:=s1) (n:=4) (by omega) (by omega)
 have e1:wr (1+v9)=1+v9:=fS (by omega) (by omega)
 have e1':wr (7 - (1+v9))=7 - (1+v9):=fS (by omega) (by omega)
 obtain ⟨v14,a14,b14,x14,y14,z14,w14⟩:=pV c b9 (s1:=a9) (n:=7 - (1+v9)) (by omega) (by omega)
 have e2:wr (1+v9+v14)=1+v9+v14:=fS (by omega) (by omega)
 obtain ⟨L,a19,b19,x19,⟨y19,y19',y19''⟩,z19,w19⟩:=names_ok c b14 (s1:=a14) (by omega)
 have hb:1<=1+v9/\1+v9<=4:=by omega
 have hs:1+v9<=1+v9+v14/\1+v9+v14<=6:=by omega
 obtain ⟨ak,bk,K,xk,yk,zk,wk⟩:=kinds_ok (c:=c) (r9:=(v9,a9,b9)) (r14:=(v14,a14,b14)) hb hs e1 e2 b19 (s1:=a19) (by omega)
 have e3:wr (2+wr (2 * (1+v9)))=2+2 * (1+v9):=by rw [fS (x:=2 * (1+v9)) (by omega) (by omega),fS (by omega) (by omega)]
 obtain ⟨vm,am,bm,xm,ym,zm,wm⟩:=pV c bk (s1:=ak) (n:=2+2 * (1+v9)) (by omega) (by omega)
 obtain ⟨ae,be,ed,xe,ye,ye',ze,we⟩:=edges_all (c:=c) (r9:=(v9,a9,b9)) (r14:=(v14,a14,b14)) (r19:=(L,a19,b19)) hb hs e1 e2 yk ⟨y19',y19''⟩ bm (s1:=am) (m:=vm) (by omega) (by omega)
 have hfin:∀ (s t:Int) (E:List Edge),(∀ e∈E,aAj (1+v9+v14) L.length e)->E.length<=55->ae<=s->s<=ae+8->∃ t' s1' s2',wQ c (v9,a9,b9) (v14,a14,b14) (L,a19,b19) s t E=some (t',s1',s2')/\(Drn 55 t'/\t'.N<=6)/\ae<=s1'/\s1'<=ae+10:=by
  intro s t E hE hEl hs1 hs2
  unfold wQ
  simp only
  rw [e1,e2]
  obtain ⟨v,a,b,q,q1,q2,q3⟩:=pV c t (s1:=s) (n:=1+v9+v14) (by omega) (by omega)
  obtain ⟨t',m1,m2,m3,m4⟩:=aRb y19 (by omega) (st:=1+v9+v14) (ini:=v) (by omega) q1 (edges:=E) (by omega) (fun e he=>by have:=hE e he;unfold aAj at this;exact ⟨this.1,this.2.1,this.2.2⟩)
  rw [q,aA,m1,aA]
  exact ⟨_,_,_,rfl,⟨m2.mono hEl,by omega⟩,by simp only;omega,by simp only;omega⟩
 unfold aDo
 rw [x9,aA]
 simp only
 rw [e1,e1',x14,aA,x19,aA,xk,aA]
 unfold uO
 simp only
 rw [e1,e3,xm,aA,xe,aA]
 unfold wR
 simp only
 rw [e1,e2]
 obtain ⟨bb,ao,bo,xo,zo,wo⟩:=one_ok c be (s1:=ae) (n:=3) (by omega) (by omega)
 rw [xo,aA]
 simp only
 cases bb with
 |false=>
  rw [if_neg (by simp)]
  obtain ⟨t',s1',s2',r1,r2,r3,r4⟩:=hfin ao bo ed ye (by omega) (by omega) (by omega)
  exact ⟨t',s1',s2',r1,r2,by omega,by omega⟩
 |true=>
  rw [if_pos rfl]
  obtain ⟨v1,a1,b1,p1,p1',p1'',p1'''⟩:=pV c bo (s1:=ao) (n:=1+v9+v14) (by omega) (by omega)
  obtain ⟨v2,a2,b2,p2,p2',p2'',p2'''⟩:=pV c b1 (s1:=a1) (n:=(L.length:Int)) (by omega) (by omega)
  obtain ⟨v3,a3,b3,p3,p3',p3'',p3'''⟩:=pV c b2 (s1:=a2) (n:=1+v9+v14) (by omega) (by omega)
  rw [p1,aA,p2,aA,p3,aA,bS (by simp [iO];omega),aA]
  obtain ⟨t',s1',s2',r1,r2,r3,r4⟩:=hfin a3 b3 (ed++[⟨v1,v2,v3⟩]) (fun e he=>by
   rcases List.mem_append.1 he with he|he
   ·exact ye e he
   ·rw [List.mem_singleton] at he
    subst he
    exact ⟨p1',p3',p2'⟩) (by simp;omega) (by omega) (by omega)
  exact ⟨t',s1',s2',r1,r2,by omega,by omega⟩
theorem aPV (c:aL) {s1:Int} (s2:Int) (h:0<=s1/\s1<=10000000):∃ t s1' s2',tN c s1 s2=some (t,s1',s2')/\(Drn 60 t/\t.N<=6)/\s1<=s1'/\s1'<=s1+500:=by
 obtain ⟨t,a,b,x,⟨y,ys⟩,z,w⟩:=drawOk_ok c s2 (s1:=s1) (by omega)
 have hed:=y.ed
 have hlab:=y.ok.2.2.1
 have hst:=y.ok.1
 have hini:=y.ok.2.1
 have hin:∀ e∈t.E,aAj t.N t.L.length e:=fun e he=>by
  have:=uL y.ok he
  unfold cF at this
  exact ⟨this.1,this.2.1,this.2.2⟩
 have key:=cJ (step:=fun s:Int × Int × List Edge × Int=>sY c (t,a,b) s.1 s.2.1 s.2.2.1 s.2.2.2) t.E.length (fun k (q:Int × Int × List Edge)=>(q.1,q.2.1,q.2.2,(k:Int))) (fun k q=>(∀ e∈q.2.2,aAj t.N t.L.length e)/\q.2.2.length<=k/\a<=q.1/\q.1<=a+2 * k)
  (fun r=>(∀ e∈r.2.2,aAj t.N t.L.length e)/\r.2.2.length<=55/\a<=r.1/\r.1<=a+110) (fun k q hk hI=>?_) (fun q hI=>?_) t.E.length 0 (a,b,[]) (by omega) ⟨by simp,by simp,by simp,by simp⟩
 ·obtain ⟨⟨a1,b1,E⟩,h1,g1,g2,g3,g4⟩:=key
  simp only at g1 g2 g3 g4
  have h1':loop (fun s:Int × Int × List Edge × Int=>sY c (t,a,b) s.1 s.2.1 s.2.2.1 s.2.2.2) (a,b,([]:List Edge),0)=some (a1,b1,E):=h1
  obtain ⟨vm,am,bm,xm,ym,zm,wm⟩:=pV c b1 (s1:=a1) (n:=3) (by omega) (by omega)
  have key2:=cJ (step:=fun s:Int × Int × List Edge × Int=>sX c (t,a,b) s.1 s.2.1 s.2.2.1 s.2.2.2) vm.toNat (fun k (q:Int × Int × List Edge)=>(q.1,q.2.1,q.2.2,vm - (k:Int))) (fun k q=>(∀ e∈q.2.2,aAj t.N t.L.length e)/\q.2.2.length<=55+k/\am<=q.1/\q.1<=am+4 * k)
   (fun r=>(∀ e∈r.1,aAj t.N t.L.length e)/\r.1.length<=60/\am<=r.2.1/\r.2.1<=am+20) (fun k q hk hI=>?_) (fun q hI=>?_) vm.toNat 0 (am,bm,E) (by omega) ⟨g1,by simp only;omega,by simp,by simp⟩
  ·obtain ⟨⟨F,a2,b2⟩,h2,q1,q2,q3,q4⟩:=key2
   simp only at q1 q2 q3 q4
   have h2':loop (fun s:Int × Int × List Edge × Int=>sX c (t,a,b) s.1 s.2.1 s.2.2.1 s.2.2.2) (am,bm,E,vm)=some (F,a2,b2):=by simpa using h2
   obtain ⟨t',m1,m2,m3,m4⟩:=aRb (T:=t.L) (fun s hs=>y.nm s hs) (by have:=hlab.2.1;omega) (st:=t.N) (ini:=t.I) (by have:=y.st;omega) (by omega) (edges:=F) (by omega) (fun e he=>by have:=q1 e he;unfold aAj at this;exact ⟨this.1,this.2.1,this.2.2⟩)
   unfold tN
   rw [x,aA,h1',aA]
   unfold aBX
   rw [xm,aA,h2',aA]
   unfold aEV
   rw [m1,aA]
   exact ⟨_,_,_,rfl,⟨m2.mono q2,by omega⟩,by simp only;omega,by simp only;omega⟩
  ·obtain ⟨x2,y2,o⟩:=q
   obtain ⟨i1,i2,i3,i4⟩:=hI
   simp only at i1 i2 i3 i4 ⊢
   obtain ⟨v1,t1,t1',p1,p1',p1'',p1'''⟩:=pV c y2 (s1:=x2) (n:=t.N) (by omega) (by omega)
   obtain ⟨v2,t2,t2',p2,p2',p2'',p2'''⟩:=pV c t1' (s1:=t1) (n:=t.N) (by omega) (by omega)
   unfold sX
   rw [if_pos (by simp;omega),p1,aA,p2,aA,bS (by simp [iO];omega),aA]
   have hw:wr (vm - (k:Int) - 1)=vm - ((k+1:Nat):Int):=by rw [fS (by omega) (by omega)];omega
   rw [hw]
   refine ⟨(t2,t2',_),rfl,fun e he=>?_,by simp;omega,by simp only;omega,by simp only;omega⟩
   rcases List.mem_append.1 he with he|he
   ·exact i1 e he
   ·rw [List.mem_singleton] at he
    subst he
    exact ⟨p1',p2',by simp only;have:=hlab.1;omega⟩
  ·obtain ⟨x2,y2,o⟩:=q
   obtain ⟨i1,i2,i3,i4⟩:=hI
   simp only at i1 i2 i3 i4 ⊢
   refine ⟨(o,x2,y2),?_,i1,by simp only;omega,i3,by simp only;omega⟩
   unfold sX
   rw [if_neg (by simp;omega)]
 ·obtain ⟨x2,y2,o⟩:=q
  obtain ⟨i1,i2,i3,i4⟩:=hI
  simp only at i1 i2 i3 i4 ⊢
  have he:=hin _ (List.getElem_mem hk)
  obtain ⟨bb,ao,bo,xo,zo,wo⟩:=one_ok c y2 (s1:=x2) (n:=3) (by omega) (by omega)
  have hw:wr ((k:Int)+1)=((k+1:Nat):Int):=aW hk (by omega)
  unfold sY
  rw [if_pos (bD hk),bE hk,aA,xo,aA]
  have hgo:∀ l:Int,0<=l/\l < t.L.length->∃ q':Int × Int × List Edge,wV o (k:Int) t.E[k] ao bo l=some (.inl (q'.1,q'.2.1,q'.2.2,((k+1:Nat):Int)))/\(∀ e∈q'.2.2,aAj t.N t.L.length e)/\q'.2.2.length<=k+1/\a<=q'.1/\q'.1<=a+2 * ((k+1:Nat):Int):=by
   intro l hl
   unfold wV
   rw [bS (by simp [iO];omega),aA,hw]
   refine ⟨(ao,bo,_),rfl,fun e he'=>?_,by simp;omega,by simp only;omega,by simp only;omega⟩
   rcases List.mem_append.1 he' with he'|he'
   ·exact i1 e he'
   ·rw [List.mem_singleton] at he'
    subst he'
    exact ⟨he.1,he.2.1,hl⟩
  simp only
  cases bb with
  |false=>rw [if_neg (by simp)];exact hgo _ he.2.2
  |true=>rw [if_pos rfl];exact hgo 0 (by have:=hlab.1;omega)
 ·obtain ⟨x2,y2,o⟩:=q
  obtain ⟨i1,i2,i3,i4⟩:=hI
  simp only at i1 i2 i3 i4 ⊢
  refine ⟨(x2,y2,o),?_,i1,by simp only;omega,i3,by simp only;omega⟩
  unfold sY
  rw [if_neg (by simp)]
end Gv
namespace Gv
open Go
theorem aOG (a b:List Int) (h:a.length < 4611686018427387904):sM a b=some (decide (a=b)):=by
 unfold sM
 by_cases hl:a.length=b.length
 ·rw [if_neg (by simp [hl])]
  have:=aGW (step:=fun s=>tW a b s) (a.zip b) (fun p=>decide (p.1=p.2)) (.inr false) (.inl ()) (fun k x hk hx=>?_) ?_
  ·rw [this,aA]
   by_cases he:a=b
   ·subst he
    have:((a.zip a).all fun p=>decide (p.1=p.2))=true:=by
     rw [List.all_eq_true]
     intro p hp
     obtain ⟨i,hi,rfl⟩:=List.mem_iff_getElem.1 hp
     rw [List.getElem_zip];simp
    rw [if_pos this,decide_eq_true rfl];rfl
   ·have:¬ ((a.zip b).all fun p=>decide (p.1=p.2))=true:=fun h'=>he (List.ext_getElem hl fun i h1 h2=>by
     rw [List.all_eq_true] at h'
     have hiz:i < (a.zip b).length:=by rw [List.length_zip];omega
     have:=h' (a.zip b)[i] (List.getElem_mem hiz)
     rw [List.getElem_zip] at this
     simpa using this)
    rw [if_neg this,decide_eq_false he]
  ·have hzl:(a.zip b).length=a.length:=by rw [List.length_zip];omega
   rw [hzl] at hk
   obtain ⟨hk',rfl⟩:=lW hx
   unfold tW
   rw [if_pos (bD hk),bE hk,aA,bE (by omega),aA,List.getElem_zip]
   by_cases e:a[k]=b[k]'(by omega)
   ·rw [if_neg (by simp [e]),if_pos (by simp [e]),aW hk h]
   ·rw [if_pos (by simpa using e),if_neg (by simpa using e)]
  ·have hzl:(a.zip b).length=a.length:=by rw [List.length_zip];omega
   rw [hzl]
   unfold tW
   rw [if_neg (by simp)]
 ·rw [if_pos (by simp;omega),decide_eq_false (fun h=>hl (by rw [h]))]
theorem put_ok (l:List Int) (n:Int) (hl:l.length<=1000000):∃ l',aGE l n=some l'/\l'.length<=l.length+1:=by
 have key:=cJ (step:=fun s:List Int × Bool × Int=>wL l n s.1 s.2.1 s.2.2) l.length (fun k (a:List Int × Bool)=>(a.1,a.2,(k:Int))) (fun k a=>a.1.length<=k+(if a.2=true then 1 else 0)) (fun r=>r.1.length<=l.length+(if r.2=true then 1 else 0)) (fun k a hk hI=>?_) (fun a hI=>?_) l.length 0 ([],false) (by omega) (by simp)
 ·obtain ⟨⟨o,d⟩,h1,h2⟩:=key
  have h1':loop (fun s:List Int × Bool × Int=>wL l n s.1 s.2.1 s.2.2) (([]:List Int),false,0)=some (o,d):=h1
  unfold aGE
  rw [h1',aA]
  unfold aFK aFJ
  simp only at h2 ⊢
  cases d with
  |true=>rw [if_neg (by simp)];exact ⟨_,rfl,by simpa using h2⟩
  |false=>
   simp at h2
   rw [if_pos (by simp),bS (by simp [iO];omega),aA]
   exact ⟨_,rfl,by simp;omega⟩
 ·obtain ⟨o,d⟩:=a
  simp only at hI ⊢
  have hw:wr ((k:Int)+1)=((k+1:Nat):Int):=aW hk (by omega)
  have h3:∀ o':List Int,∀ d',o'.length<=2000000->aBe l (k:Int) o' d'=some (.inl (o'++[l[k]],d',((k+1:Nat):Int))):=fun o' d' ho=>by
   unfold aBe
   rw [bE hk,aA,bS (by simp [iO];omega),aA,hw]
  have ho:o.length<=k+1:=by
   cases d<;>simp at hI<;>omega
  unfold wL
  rw [if_pos (bD hk)]
  have h4:∀ v:Bool,(v=true->d=false)->∃ a':List Int × Bool,aBf l n o d (k:Int) v=some (.inl (a'.1,a'.2,((k+1:Nat):Int)))/\a'.1.length<=(k+1)+(if a'.2=true then 1 else 0):=by
   intro v hv
   unfold aBf
   cases v with
   |false=>
    rw [if_neg (by simp),h3 o d (by omega)]
    exact ⟨(o++[l[k]],d),rfl,by simp only [List.length_append,List.length_singleton];omega⟩
   |true=>
    have:=hv rfl
    subst this
    simp at hI
    rw [if_pos rfl,bE hk,aA]
    split
    ·rw [bS (by simp [iO];omega),aA,h3 _ true (by simp;omega)]
     exact ⟨(_,true),rfl,by simp;omega⟩
    ·rw [h3 o true (by omega)]
     exact ⟨(_,true),rfl,by simp;omega⟩
  cases d with
  |true=>rw [if_neg (by simp)];exact h4 false (by simp)
  |false=>
   rw [if_pos (by simp),bE hk,aA]
   exact h4 _ fun _=>rfl
 ·obtain ⟨o,d⟩:=a
  refine ⟨(o,d),?_,hI⟩
  show wL l n o d (l.length:Int)=_
  unfold wL
  rw [if_neg (by simp)]
section
variable {u:aO} {p:List Int}
theorem sign_ok (hu:Big u) (hp:eF u p) (k:Int):∃ l,aGF u p k=some l/\l.length<=1000:=by
 have h5:=hu.ed
 have key:=cJ (step:=fun s:List Int × Int=>qX u p k s.1 s.2) u.E.length (fun i (a:List Int)=>(a,(i:Int))) (fun i a=>a.length<=i) (fun r=>r.length<=1000) (fun i a hi hI=>?_) (fun a hI=>?_) u.E.length 0 [] (by omega) (by simp)
 ·obtain ⟨l,h1,h2⟩:=key
  have h1':loop (fun s:List Int × Int=>qX u p k s.1 s.2) (([]:List Int),0)=some l:=h1
  unfold aGF
  rw [h1',aA]
  exact ⟨l,rfl,h2⟩
 ·have he:=hu.inn _ (List.getElem_mem hi)
  have hw:wr ((i:Int)+1)=((i+1:Nat):Int):=aW hi (by omega)
  show ∃ a',qX u p k a (i:Int)=_/\_
  unfold qX aBD
  rw [if_pos (bD hi),bE hi,aA]
  split
  ·rw [(jM hp he.2.1).1,aA]
   obtain ⟨l',h1,h2⟩:=put_ok a (wr (wr (u.E[i].B * (p.length:Int))+p.getD u.E[i].To.toNat 0)) (by omega)
   rw [h1,aA,hw]
   exact ⟨l',rfl,by omega⟩
  ·rw [hw]
   exact ⟨a,rfl,by omega⟩
 ·refine ⟨a,?_,by omega⟩
  show qX u p k a (u.E.length:Int)=_
  unfold qX
  rw [if_neg (by simp)]
end
def kz (p:List Int) (rows:List (List Int)):List (List Int):=List.zipWith (fun a r=>a::r) p rows
section
variable {p:List Int} {rows:List (List Int)}
theorem aGn (h:rows.length=p.length):(kz p rows).length=p.length:=by unfold kz;simp [h]
theorem aRc (h:rows.length=p.length) {k:Nat} (hk:k < p.length):(kz p rows)[k]'(by rw [aGn h];exact hk)=p[k]::rows[k]'(by omega):=by unfold kz;simp
theorem num_inner (hl:rows.length=p.length) (hs:p.length<=1000) (hr:∀ r∈rows,r.length<=100000) {k:Nat} (hk:k < p.length):
  loop (fun s:Int × Int=>pE p rows (cn ((kz p rows).take k)) (k:Int) s.1 s.2) (-1,0)=some (if (kz p rows)[k]'(by rw [aGn hl];exact hk)∈(kz p rows).take k then pos (dd ((kz p rows).take k)) ((kz p rows)[k]'(by rw [aGn hl];exact hk)) else -1):=by
 have hkz:=aGn hl
 have hkk:k < (kz p rows).length:=by omega
 have hcl:(cn ((kz p rows).take k)).length=k:=by rw [yV,List.length_take];omega
 have key:=sE (step:=fun s:Int × Int=>pE p rows (cn ((kz p rows).take k)) (k:Int) s.1 s.2)
  (fun s=>∃ j:Nat,s.2=(j:Int)/\j<=k/\((s.1=-1/\∀ i,(hi:i < j)->(hj:j<=k)->(kz p rows)[i]'(by omega)≠(kz p rows)[k])\/((kz p rows)[k]∈(kz p rows).take k/\s.1=pos (dd ((kz p rows).take k)) (kz p rows)[k])))
  (fun s=>k+1 - s.2.toNat) (fun r=>r=if (kz p rows)[k]∈(kz p rows).take k then pos (dd ((kz p rows).take k)) (kz p rows)[k] else -1) (fun s hI=>?_) (s:=(-1,0)) ⟨0,rfl,Nat.zero_le _,.inl ⟨rfl,fun i hi=>by omega⟩⟩
 ·obtain ⟨r,h1,h2⟩:=key
  rw [h1,h2]
 ·obtain ⟨n,jj⟩:=s
  obtain ⟨j,rfl,hjk,hI⟩:=hI
  simp only at hI ⊢
  have hout:pD p rows (cn ((kz p rows).take k)) (k:Int) n (j:Int) false=some (.inr n):=by unfold pD;rw [if_neg (by simp)]
  rcases hI with ⟨rfl,hno⟩|⟨hin,rfl⟩
  ·by_cases hj:j < k
   ·left
    have hw:wr ((j:Int)+1)=((j+1:Nat):Int):=aW hj (by omega)
    have hjp:j < p.length:=by omega
    have e1:=aRc hl hjp
    have e2:=aRc hl hk
    unfold pE
    rw [if_pos (bD hj),show decide ((-1:Int) < 0)=true from rfl]
    unfold pD
    rw [if_pos rfl,bE hjp,aA,bE hk,aA]
    have hgo:sP (cn ((kz p rows).take k)) (-1) (j:Int) false=some (.inl (-1,((j+1:Nat):Int))):=by
     unfold sP sO
     rw [if_neg (by simp),hw]
    have hstay:(kz p rows)[j]'(by omega)≠(kz p rows)[k]->∃ j':Nat,((j+1:Nat):Int)=(j':Int)/\j'<=k/\(((-1:Int)=-1/\∀ i,(hi:i < j')->(hj:j'<=k)->(kz p rows)[i]'(by omega)≠(kz p rows)[k])\/((kz p rows)[k]∈(kz p rows).take k/\(-1:Int)=pos (dd ((kz p rows).take k)) (kz p rows)[k])):=fun hne=>by
     refine ⟨j+1,rfl,hj,.inl ⟨rfl,fun i hi _=>?_⟩⟩
     by_cases e:i=j
     ·subst e;exact hne
     ·exact hno i (by omega) hjk
    by_cases hp:p[j]=p[k]
    ·rw [if_pos (by simpa using hp),bE (show j < rows.length by omega),aA,bE (show k < rows.length by omega),aA,aOG _ _ (by have:=hr _ (List.getElem_mem (show j < rows.length by omega));omega),aA]
     by_cases hrr:rows[j]'(by omega)=rows[k]'(by omega)
     ·have hkey:(kz p rows)[j]'(by omega)=(kz p rows)[k]:=by rw [e1,e2,hp,hrr]
      have hin:(kz p rows)[k]∈(kz p rows).take k:=by
       rw [←hkey,List.mem_take_iff_getElem]
       exact ⟨j,by omega,rfl⟩
      have hc:(cn ((kz p rows).take k))[j]?=some (pos (dd ((kz p rows).take k)) (kz p rows)[k]):=by
       rw [aMg (show j < ((kz p rows).take k).length by rw [List.length_take];omega),List.getElem_take,hkey]
      rw [hrr]
      unfold sP sO
      rw [decide_eq_true rfl,if_pos rfl,aFZ,hc]
      show ∃ s',ob (some _) _=_/\_
      rw [aA,hw]
      exact ⟨(_,((j+1:Nat):Int)),rfl,⟨j+1,rfl,hj,.inr ⟨hin,rfl⟩⟩,by simp only;omega⟩
     ·rw [decide_eq_false hrr,hgo]
      refine ⟨(-1,((j+1:Nat):Int)),rfl,hstay (fun e=>?_),by simp only;omega⟩
      rw [e1,e2,List.cons.injEq] at e
      exact hrr e.2
    ·rw [if_neg (by simpa using hp),hgo]
     refine ⟨(-1,((j+1:Nat):Int)),rfl,hstay (fun e=>?_),by simp only;omega⟩
     rw [e1,e2,List.cons.injEq] at e
     exact hp e.1
   ·right
    obtain rfl:j=k:=by omega
    refine ⟨-1,?_,?_⟩
    ·unfold pE
     rw [if_neg (by simp),hout]
    ·rw [if_neg]
     rw [List.mem_take_iff_getElem]
     rintro ⟨i,hi,e⟩
     exact hno i (by omega) (Nat.le_refl _) e
  ·right
   refine ⟨_,?_,by rw [if_pos hin]⟩
   have hpos:0<=pos (dd ((kz p rows).take k)) (kz p rows)[k]:=aCk.2 (aCI.2 hin)
   unfold pE
   rw [show decide (pos (dd ((kz p rows).take k)) (kz p rows)[k] < 0)=false from decide_eq_false (by omega),hout]
   split<;>rfl
theorem num_eq (hl:rows.length=p.length) (hs:p.length<=1000) (hr:∀ r∈rows,r.length<=100000):qE p rows=some (cn (kz p rows)):=by
 have hkz:=aGn hl
 have key:=cJ (step:=fun s:List Int × Int × Int=>nG p rows s.1 s.2.1 s.2.2) p.length (fun k (a:List Int × Int)=>(a.1,a.2,(k:Int))) (fun k a=>a.1=cn ((kz p rows).take k)/\a.2=((dd ((kz p rows).take k)).length:Int)) (fun r=>r=cn (kz p rows)) (fun k a hk hI=>?_) (fun a hI=>?_) p.length 0 ([],0) (by omega) ⟨rfl,rfl⟩
 ·obtain ⟨r,h1,rfl⟩:=key
  have h1':loop (fun s:List Int × Int × Int=>nG p rows s.1 s.2.1 s.2.2) (([]:List Int),0,0)=some (cn (kz p rows)):=h1
  unfold qE
  rw [h1',aA];rfl
 ·obtain ⟨o,m⟩:=a
  obtain ⟨rfl,rfl⟩:=hI
  have hkk:k < (kz p rows).length:=by omega
  have hcl:(cn ((kz p rows).take k)).length=k:=by rw [yV,List.length_take];omega
  have hw:wr ((k:Int)+1)=((k+1:Nat):Int):=aW hk (by omega)
  have e1:(kz p rows).take (k+1)=(kz p rows).take k++[(kz p rows)[k]]:=by rw [List.take_add_one,List.getElem?_eq_getElem hkk];rfl
  have hdl:(dd ((kz p rows).take k)).length<=1000:=by
   have h2:(dd ((kz p rows).take k)).length<=((kz p rows).take k).length:=by
    have:∀ (l:List (List Int)),(dd l).length<=l.length:=by
     intro l
     unfold dd
     have hg:∀ (m F:List (List Int)),(m.foldl (vS id) F).length<=F.length+m.length:=by
      intro m
      induction m with
      |nil=>intro F;simp
      |cons x m ih=>
       intro F
       have:=ih (vS id F x)
       have h3:=aLn (key:=id) F x
       simp only [List.foldl_cons,List.length_cons];omega
     have:=hg l []
     simpa using this
    exact this _
   rw [List.length_take] at h2;omega
  show ∃ a':List Int × Int,nG p rows (cn ((kz p rows).take k)) _ (k:Int)=_/\_
  unfold nG
  rw [if_pos (bD hk),num_inner hl hs hr hk,aA,e1,aNd,aJu,aOq]
  unfold aBG aBF aBE
  by_cases hin:(kz p rows)[k]∈(kz p rows).take k
  ·have hpos:0<=pos (dd ((kz p rows).take k)) (kz p rows)[k]:=aCk.2 (aCI.2 hin)
   rw [if_pos hin,if_neg (by simp;omega),bS (by simp [iO];omega),aA,hw,if_pos (aCI.2 hin)]
   refine ⟨(_,_),rfl,rfl,?_⟩
   have:vS id (dd ((kz p rows).take k)) (kz p rows)[k]=dd ((kz p rows).take k):=by
    unfold vS
    rw [if_pos (by rw [List.map_id];exact aCI.2 hin)]
   simp only [this]
  ·rw [if_neg hin,if_pos (by simp),bS (by simp [iO];omega),aA,hw,if_neg (fun h=>hin (aCI.1 h))]
   refine ⟨(_,_),rfl,rfl,?_⟩
   have:vS id (dd ((kz p rows).take k)) (kz p rows)[k]=dd ((kz p rows).take k)++[(kz p rows)[k]]:=by
    unfold vS
    rw [if_neg (by rw [List.map_id];exact fun h=>hin (aCI.1 h))]
   simp only [this,List.length_append,List.length_singleton]
   first
    |omega
    |(rw [fS (by omega) (by omega)];omega)
 ·obtain ⟨o,m⟩:=a
  obtain ⟨rfl,rfl⟩:=hI
  refine ⟨_,?_,rfl⟩
  show nG p rows (cn ((kz p rows).take p.length)) _ (p.length:Int)=_
  unfold nG
  rw [if_neg (by simp),List.take_of_length_le (by omega)]
theorem aPW (hl:rows.length=p.length):aHF (cn (kz p rows)) p:=
 aJa (aGn hl) fun x y hx hy h=>by
  rw [List.getElem?_eq_getElem (by rw [aGn hl];exact hx),List.getElem?_eq_getElem (by rw [aGn hl];exact hy),aRc hl hx,aRc hl hy,Option.some.injEq,List.cons.injEq] at h
  rw [List.getElem?_eq_getElem hx,List.getElem?_eq_getElem hy,h.1]
end
section
variable {u:aO} {p:List Int}
theorem aSH (hu:Big u) (hp:eF u p):∃ q,aDk u p=some q/\eF u q/\cn q=q/\aHF q p:=by
 have h3:=hu.st
 have key:=cJ (step:=fun s:List (List Int) × Int=>lJ u p s.1 s.2) u.N.toNat (fun k (a:List (List Int))=>(a,(k:Int))) (fun k a=>a.length=k/\∀ r∈a,r.length<=1000) (fun r=>r.length=u.N.toNat/\∀ x∈r,x.length<=1000) (fun k a hk hI=>?_) (fun a hI=>?_) u.N.toNat 0 [] (by omega) ⟨rfl,by simp⟩
 ·obtain ⟨rows,h1,h2,h4⟩:=key
  have h1':loop (fun s:List (List Int) × Int=>lJ u p s.1 s.2) (([]:List (List Int)),0)=some rows:=h1
  unfold aDk
  have hl:rows.length=p.length:=by rw [h2,hp.1]
  rw [h1',aA,num_eq hl (by rw [hp.1];omega) (fun r hr=>by have:=h4 r hr;omega)]
  exact ⟨_,rfl,part_cn hu (by rw [aGn hl,hp.1]),cn_cn _,aPW hl⟩
 ·obtain ⟨g1,g2⟩:=hI
  obtain ⟨l,e,hl⟩:=sign_ok hu hp (k:Int)
  have hw:wr ((k:Int)+1)=((k+1:Nat):Int):=aW hk (by omega)
  show ∃ a',lJ u p a (k:Int)=_/\_
  unfold lJ
  rw [if_pos (by simp;omega),e,aA,bS (by simp [iO];omega),aA,hw]
  refine ⟨_,rfl,by simp;omega,fun r hr=>?_⟩
  rcases List.mem_append.1 hr with hr|hr
  ·exact g2 r hr
  ·simp at hr;subst hr;exact hl
 ·refine ⟨a,?_,hI⟩
  show lJ u p a ((u.N.toNat:Nat):Int)=_
  unfold lJ
  rw [if_neg (by simp;omega)]
theorem part0 (hu:Big u):mkz u.N (0:Int)=some (List.replicate u.N.toNat 0)/\eF u (List.replicate u.N.toNat 0):=by
 have h3:=hu.st
 refine ⟨?_,by simp,fun z hz=>by rw [List.mem_replicate] at hz;omega⟩
 unfold mkz
 rw [if_pos ⟨by omega,by unfold iO;omega⟩]
theorem aSI (hu:Big u):∃ p n,aDl u=some (p,n)/\eF u p:=by
 obtain ⟨hm,h0⟩:=part0 hu
 have h3:=hu.st
 unfold aDl
 rw [hm,aA]
 have key:=aKy (step:=fun s:List Int × Int=>pF u s.1 s.2) u.N.toNat (fun p s=>s.1=p/\eF u p) (fun r=>eF u r.1) (fun p s hl hc hI=>?_) (List.replicate u.N.toNat 0) (List.replicate u.N.toNat 0,0) (by simp) (aOt _) ⟨rfl,h0⟩
 ·obtain ⟨⟨p,n⟩,h1,h2⟩:=key
  rw [h1,aA]
  exact ⟨p,n,rfl,h2⟩
 ·obtain ⟨q,n⟩:=s
  obtain ⟨rfl,hp⟩:=hI
  obtain ⟨r,e,g1,g2,g3⟩:=aSH hu hp
  have hstep:pF u q n=if decide (r=q)=true then some (.inr (q,n)) else some (.inl (r,wr (n+1))):=by
   unfold pF
   rw [e,aA,aOG _ _ (by rw [g1.1];omega),aA]
  show (∃ x,pF u q n=_/\_)\/_
  by_cases h:r=q
  ·left
   rw [hstep,if_pos (by simpa using h)]
   exact ⟨_,rfl,hp⟩
  ·right
   refine ⟨r,(r,wr (n+1)),g3,g2,h,?_,rfl,g1⟩
   show pF u q n=_
   rw [hstep,if_neg (by simpa using h)]
theorem aPX (hu:Big u):∃ p,aGG u=some p/\eF u p:=by
 obtain ⟨p,n,h1,h2⟩:=aSI hu
 exact ⟨p,by unfold aGG;rw [h1,aA],h2⟩
end
end Gv
namespace Gv
open Go
section
variable {u:aO} {p:List Int}
theorem aLw (hu:Big u) (hp:eF u p) {e:Edge} (he:e∈u.E):∃ b,wM e p=some b:=by
 have h:=hu.inn e he
 unfold wM aCT
 split
 ·rw [(jM hp h.1).1,aA,(jM hp h.2.1).1,aA]
  exact ⟨_,rfl⟩
 ·exact ⟨_,rfl⟩
def cnt (l:List Bool):Nat:=l.count true
theorem cnt_le (l:List Bool):cnt l<=l.length:=List.count_le_length
theorem cnt_off {l:List Bool} {k:Nat} (hk:k < l.length) (h:l[k]=true):cnt (l.set k false) < cnt l:=by
 unfold cnt
 rw [List.count_set hk,h]
 have:0 < l.count true:=List.count_pos_iff.2 (h ▸ List.getElem_mem hk)
 simp;omega
theorem cnt_on {l:List Bool} {k:Nat} (hk:k < l.length) (h:l[k]=false):cnt l < cnt (l.set k true):=by
 unfold cnt
 rw [List.count_set hk,h]
 simp
theorem ixB {l:List Bool} {s:Int} (hl:l.length=u.N.toNat) (hs:cF u s):∃ hk:s.toNat < l.length,ix l s=some l[s.toNat]:=by
 unfold cF at hs
 exact ⟨by omega,aIb hs.1 (by omega)⟩
theorem div_goes (hu:Big u) (hp:eF u p) {al:List Bool} (hl:al.length=u.N.toNat) (k:Int):∃ b,loop (fun s:Bool × Int=>lL u p al k s.1 s.2) (false,0)=some b:=by
 have h5:=hu.ed
 have key:=cJ (step:=fun s:Bool × Int=>lL u p al k s.1 s.2) u.E.length (fun i (a:Bool)=>(a,(i:Int))) (fun _ _=>True) (fun _=>True) (fun i a hi _=>?_) (fun a _=>?_) u.E.length 0 false (by omega) trivial
 ·obtain ⟨b,h1,_⟩:=key
  exact ⟨b,h1⟩
 ·have he:=List.getElem_mem hi
  have hin:=hu.inn _ he
  have hw:wr ((i:Int)+1)=((i+1:Nat):Int):=aW hi (by omega)
  have hj:∀ b,lK (i:Int) b=some (.inl (b,((i+1:Nat):Int))):=fun b=>by unfold lK;rw [hw]
  show ∃ a',lL u p al k a (i:Int)=_/\_
  unfold lL
  rw [if_pos (bD hi),bE hi,aA]
  split
  ·exact ⟨_,hj _,trivial⟩
  ·split
   ·obtain ⟨b,hb⟩:=aLw hu hp he
    rw [hb,aA]
    split
    ·obtain ⟨_,h2⟩:=ixB hl hin.2.1
     rw [h2,aA]
     exact ⟨_,hj _,trivial⟩
    ·exact ⟨_,hj _,trivial⟩
   ·exact ⟨_,hj _,trivial⟩
 ·refine ⟨a,?_,trivial⟩
  show lL u p al k a (u.E.length:Int)=_
  unfold lL
  rw [if_neg (by simp)]
theorem div_round (hu:Big u) (hp:eF u p) {al:List Bool} (hl:al.length=u.N.toNat):∃ al' m,loop (fun s:List Bool × Bool × Int=>oB u p s.1 s.2.1 s.2.2) (al,false,0)=some (al',m)/\al'.length=u.N.toNat/\cnt al'<=cnt al/\(m=true->cnt al' < cnt al):=by
 have h3:=hu.st
 have key:=cJ (step:=fun s:List Bool × Bool × Int=>oB u p s.1 s.2.1 s.2.2) u.N.toNat (fun k (a:List Bool × Bool)=>(a.1,a.2,(k:Int))) (fun _ a=>a.1.length=u.N.toNat/\cnt a.1<=cnt al/\(a.2=true->cnt a.1 < cnt al)) (fun r=>r.1.length=u.N.toNat/\cnt r.1<=cnt al/\(r.2=true->cnt r.1 < cnt al)) (fun k a hk hI=>?_) (fun a hI=>?_) u.N.toNat 0 (al,false) (by omega) ⟨hl,Nat.le_refl _,fun h=>by cases h⟩
 ·obtain ⟨⟨al',m⟩,h1,h2⟩:=key
  exact ⟨al',m,h1,h2⟩
 ·obtain ⟨b,m⟩:=a
  obtain ⟨g1,g2,g3⟩:=hI
  simp only at g1 g2 g3 ⊢
  have hw:wr ((k:Int)+1)=((k+1:Nat):Int):=aW hk (by omega)
  have hkb:k < b.length:=by omega
  have hj:∀ c n,oA (k:Int) c n=some (.inl (c,n,((k+1:Nat):Int))):=fun c n=>by unfold oA;rw [hw]
  unfold oB
  rw [if_pos (by simp;omega),bE hkb,aA]
  by_cases hb:b[k]=true
  ·rw [if_neg (by simp [hb])]
   obtain ⟨c,hc⟩:=div_goes hu hp g1 (k:Int)
   rw [hc,aA]
   unfold aAq
   cases c with
   |true=>rw [if_neg (by simp),hj];exact ⟨(b,m),rfl,g1,g2,g3⟩
   |false=>
    have hst:st b (k:Int) false=some (b.set k false):=by
     unfold Gv.st
     rw [if_pos ⟨by omega,by omega⟩,Int.toNat_natCast]
    have hlt:=cnt_off hkb hb
    rw [if_pos (by simp),hst,aA,hj]
    exact ⟨(b.set k false,true),rfl,by simp only [List.length_set];exact g1,by simp only;omega,fun _=>by simp only;omega⟩
  ·rw [if_pos (by simp [hb]),hj]
   exact ⟨(b,m),rfl,g1,g2,g3⟩
 ·obtain ⟨b,m⟩:=a
  refine ⟨(b,m),?_,hI⟩
  show oB u p b m ((u.N.toNat:Nat):Int)=_
  unfold oB
  rw [if_neg (by simp;omega)]
theorem aOH (hu:Big u) (hp:eF u p):∃ al,xV u p=some al/\al.length=u.N.toNat:=by
 have h3:=hu.st
 have hm:mkz u.N false=some (List.replicate u.N.toNat false):=by
  unfold mkz
  rw [if_pos ⟨by omega,by unfold iO;omega⟩]
 unfold xV
 rw [hm,aA]
 have key:=cJ (step:=fun s:List Bool × Int=>kC u s.1 s.2) u.N.toNat (fun k (a:List Bool)=>(a,(k:Int))) (fun _ a=>a.length=u.N.toNat) (fun r=>r.length=u.N.toNat) (fun k a hk hI=>?_) (fun a hI=>?_) u.N.toNat 0 (List.replicate u.N.toNat false) (by omega) (by simp)
 ·obtain ⟨al,h1,h2⟩:=key
  have h1':loop (fun s:List Bool × Int=>kC u s.1 s.2) (List.replicate u.N.toNat false,0)=some al:=h1
  rw [h1',aA]
  unfold xU aDM
  have key2:=sE (step:=fun s:List Bool × Bool=>qF u p s.1 s.2) (fun s=>s.1.length=u.N.toNat) (fun s=>2 * cnt s.1+(if s.2=true then 1 else 0)) (fun r=>r.length=u.N.toNat) (fun s hI=>?_) (s:=(al,true)) h2
  ·obtain ⟨r,h3,h4⟩:=key2
   rw [h3,aA]
   exact ⟨r,rfl,h4⟩
  ·obtain ⟨x,m⟩:=s
   show (∃ s',qF u p x m=_/\_)\/_
   cases m with
   |false=>right;exact ⟨x,by unfold qF;rw [if_neg (by simp)],hI⟩
   |true=>
    left
    obtain ⟨al',m',e,g1,g2,g3⟩:=div_round hu hp hI
    have g2:cnt al'<=cnt x:=g2
    have g3:m'=true->cnt al' < cnt x:=g3
    refine ⟨(al',m'),?_,g1,?_⟩
    ·unfold qF
     rw [if_pos rfl,e,aA];rfl
    ·show 2 * cnt al'+(if m'=true then 1 else 0) < 2 * cnt x+(if true=true then 1 else 0)
     rw [if_pos rfl]
     cases m' with
     |false=>rw [if_neg (by simp)];omega
     |true=>have:=g3 rfl;rw [if_pos rfl];omega
 ·have hw:wr ((k:Int)+1)=((k+1:Nat):Int):=aW hk (by omega)
  have hka:k < a.length:=by omega
  show ∃ a',kC u a (k:Int)=_/\_
  unfold kC
  have hst:st a (k:Int) true=some (a.set k true):=by
   unfold Gv.st
   rw [if_pos ⟨by omega,by omega⟩,Int.toNat_natCast]
  rw [if_pos (by simp;omega),bE hka,aA,hst,aA,hw]
  exact ⟨_,rfl,by simp only [List.length_set];exact hI⟩
 ·refine ⟨a,?_,hI⟩
  show kC u a ((u.N.toNat:Nat):Int)=_
  unfold kC
  rw [if_neg (by simp;omega)]
theorem aSJ (hu:Big u) (hp:eF u p) {al:List Bool} (hl:al.length=u.N.toNat):∃ al' m,loop (fun s:List Bool × Bool × Int=>rM u p s.1 s.2.1 s.2.2) (al,false,0)=some (al',m)/\al'.length=u.N.toNat/\cnt al<=cnt al'/\(m=true->cnt al < cnt al'):=by
 have h5:=hu.ed
 have key:=cJ (step:=fun s:List Bool × Bool × Int=>rM u p s.1 s.2.1 s.2.2) u.E.length (fun k (a:List Bool × Bool)=>(a.1,a.2,(k:Int))) (fun _ a=>a.1.length=u.N.toNat/\cnt al<=cnt a.1/\(a.2=true->cnt al < cnt a.1)) (fun r=>r.1.length=u.N.toNat/\cnt al<=cnt r.1/\(r.2=true->cnt al < cnt r.1)) (fun i a hi hI=>?_) (fun a hI=>?_) u.E.length 0 (al,false) (by omega) ⟨hl,Nat.le_refl _,fun h=>by cases h⟩
 ·obtain ⟨⟨al',m⟩,h1,h2⟩:=key
  exact ⟨al',m,h1,h2⟩
 ·obtain ⟨b,m⟩:=a
  obtain ⟨g1,g2,g3⟩:=hI
  simp only at g1 g2 g3 ⊢
  have he:=List.getElem_mem hi
  have hin:=hu.inn _ he
  have hw:wr ((i:Int)+1)=((i+1:Nat):Int):=aW hi (by omega)
  have hj:∀ c n,vH (i:Int) c n=some (.inl (c,n,((i+1:Nat):Int))):=fun c n=>by unfold vH;rw [hw]
  obtain ⟨_,f1⟩:=ixB g1 hin.1
  obtain ⟨hk,f2⟩:=ixB g1 hin.2.1
  have hT:=hin.2.1
  unfold cF at hT
  have hno:oU b m (i:Int) u.E[i] false=some (.inl (b,m,((i+1:Nat):Int))):=by unfold oU;rw [if_neg (by simp),hj]
  unfold rM
  rw [if_pos (bD hi),bE hi,aA,f1,aA]
  split
  ·rw [f2,aA]
   by_cases hb:b[u.E[i].To.toNat]=true
   ·rw [if_neg (by simp [hb]),hno]
    exact ⟨(b,m),rfl,g1,g2,g3⟩
   ·have hb':b[u.E[i].To.toNat]=false:=by simpa using hb
    rw [if_pos (by simp [hb'])]
    obtain ⟨c,hc⟩:=aLw hu hp he
    rw [hc,aA]
    cases c with
    |false=>rw [hno];exact ⟨(b,m),rfl,g1,g2,g3⟩
    |true=>
     have hst:st b u.E[i].To true=some (b.set u.E[i].To.toNat true):=by
      unfold Gv.st
      rw [if_pos ⟨hT.1,by omega⟩]
     have hlt:=cnt_on hk hb'
     unfold oU
     rw [if_pos rfl,f2,aA,hst,aA,hj]
     exact ⟨(_,true),rfl,by simp only [List.length_set];exact g1,by simp only;omega,fun _=>by simp only;omega⟩
  ·rw [hno]
   exact ⟨(b,m),rfl,g1,g2,g3⟩
 ·obtain ⟨b,m⟩:=a
  refine ⟨(b,m),?_,hI⟩
  show rM u p b m (u.E.length:Int)=_
  unfold rM
  rw [if_neg (by simp)]
theorem reach_ok (hu:Big u) (hp:eF u p) {k:Int} (hk:cF u k):∃ al,aEN u p k=some al/\al.length=u.N.toNat:=by
 have h3:=hu.st
 have hk':=hk
 unfold cF at hk'
 have hm:mkz u.N false=some (List.replicate u.N.toNat false):=by
  unfold mkz
  rw [if_pos ⟨by omega,by unfold iO;omega⟩]
 have hst:st (List.replicate u.N.toNat false) k true=some ((List.replicate u.N.toNat false).set k.toNat true):=by
  unfold Gv.st
  rw [if_pos ⟨hk'.1,by simp;omega⟩]
 obtain ⟨_,f⟩:=ixB (u:=u) (l:=List.replicate u.N.toNat false) (by simp) hk
 unfold aEN
 rw [hm,aA,f,aA,hst,aA]
 have key2:=sE (step:=fun s:List Bool × Bool=>vI u p s.1 s.2) (fun s=>s.1.length=u.N.toNat) (fun s=>2 * (u.N.toNat - cnt s.1)+(if s.2=true then 1 else 0)) (fun r=>r.length=u.N.toNat) (fun s hI=>?_) (s:=((List.replicate u.N.toNat false).set k.toNat true,true)) (by simp)
 ·obtain ⟨r,h3,h4⟩:=key2
  rw [h3,aA]
  exact ⟨r,rfl,h4⟩
 ·obtain ⟨x,m⟩:=s
  show (∃ s',vI u p x m=_/\_)\/_
  cases m with
  |false=>right;exact ⟨x,by unfold vI;rw [if_neg (by simp)],hI⟩
  |true=>
   left
   obtain ⟨al',m',e,g1,g2,g3⟩:=aSJ hu hp hI
   have g2:cnt x<=cnt al':=g2
   have g3:m'=true->cnt x < cnt al':=g3
   have hle:cnt al'<=al'.length:=cnt_le al'
   refine ⟨(al',m'),?_,g1,?_⟩
   ·unfold vI
    rw [if_pos rfl,e,aA];rfl
   ·show 2 * (u.N.toNat - cnt al')+(if m'=true then 1 else 0) < 2 * (u.N.toNat - cnt x)+(if true=true then 1 else 0)
    rw [if_pos rfl]
    cases m' with
    |false=>rw [if_neg (by simp)];omega
    |true=>have:=g3 rfl;rw [if_pos rfl];omega
theorem offers_ok (hu:Big u) (hp:eF u p) {k:Int} (hk:cF u k):∃ l,aDm u p k=some l/\l.length<=1000:=by
 have h5:=hu.ed
 obtain ⟨al,e,hl⟩:=reach_ok hu hp hk
 unfold aDm
 rw [e,aA]
 have key:=cJ (step:=fun s:List Int × Int=>nH u p al s.1 s.2) u.E.length (fun i (a:List Int)=>(a,(i:Int))) (fun i a=>a.length<=i) (fun r=>r.length<=1000) (fun i a hi hI=>?_) (fun a hI=>?_) u.E.length 0 [] (by omega) (by simp)
 ·obtain ⟨l,h1,h2⟩:=key
  have h1':loop (fun s:List Int × Int=>nH u p al s.1 s.2) (([]:List Int),0)=some l:=h1
  rw [h1',aA]
  exact ⟨l,rfl,h2⟩
 ·have he:=List.getElem_mem hi
  have hin:=hu.inn _ he
  have hw:wr ((i:Int)+1)=((i+1:Nat):Int):=aW hi (by omega)
  have hno:pG p a (i:Int) u.E[i] false=some (.inl (a,((i+1:Nat):Int))):=by
   unfold pG sS
   rw [if_neg (by simp),hw]
  obtain ⟨_,f1⟩:=ixB hl hin.1
  show ∃ a',nH u p al a (i:Int)=_/\_
  unfold nH
  rw [if_pos (bD hi),bE hi,aA,f1,aA]
  split
  ·obtain ⟨c,hc⟩:=aLw hu hp he
   rw [hc,aA]
   cases c with
   |true=>rw [show (!true)=false from rfl,hno];exact ⟨a,rfl,by omega⟩
   |false=>
    obtain ⟨l',h1,h2⟩:=put_ok a (wr (wr (u.E[i].B * (p.length:Int))+p.getD u.E[i].To.toNat 0)) (by omega)
    unfold pG sS
    rw [if_pos (by rfl),(jM hp hin.2.1).1,aA,h1,aA,hw]
    exact ⟨l',rfl,by omega⟩
  ·rw [hno];exact ⟨a,rfl,by omega⟩
 ·refine ⟨a,?_,by omega⟩
  show nH u p al a (u.E.length:Int)=_
  unfold nH
  rw [if_neg (by simp)]
theorem j10_same:@aAr=@qE:=rfl
theorem aSK (hu:Big u) (hp:eF u p) (d:Bool):∃ q,aDn u p d=some q/\eF u q/\cn q=q/\aHF q p:=by
 have h3:=hu.st
 obtain ⟨al,e,hal⟩:=aOH hu hp
 unfold aDn
 rw [e,aA]
 have key:=cJ (step:=fun s:List (List Int) × Int=>lM u p d al s.1 s.2) u.N.toNat (fun k (a:List (List Int))=>(a,(k:Int))) (fun k a=>a.length=k/\∀ r∈a,r.length<=1001) (fun r=>r.length=u.N.toNat/\∀ x∈r,x.length<=1001) (fun k a hk hI=>?_) (fun a hI=>?_) u.N.toNat 0 [] (by omega) ⟨rfl,by simp⟩
 ·obtain ⟨rows,h1,h2,h4⟩:=key
  have h1':loop (fun s:List (List Int) × Int=>lM u p d al s.1 s.2) (([]:List (List Int)),0)=some rows:=h1
  have hl:rows.length=p.length:=by rw [h2,hp.1]
  rw [h1',aA,j10_same,num_eq hl (by rw [hp.1];omega) (fun r hr=>by have:=h4 r hr;omega)]
  exact ⟨_,rfl,part_cn hu (by rw [aGn hl,hp.1]),cn_cn _,aPW hl⟩
 ·obtain ⟨g1,g2⟩:=hI
  have hkT:cF u (k:Int):=by unfold cF;omega
  obtain ⟨l,e,hl⟩:=offers_ok hu hp hkT
  obtain ⟨_,f⟩:=ixB hal hkT
  have hw:wr ((k:Int)+1)=((k+1:Nat):Int):=aW hk (by omega)
  have hgo:∀ r:List Int,r.length<=1001->∃ a',qG a (k:Int) r=some (.inl (a',((k+1:Nat):Int)))/\a'.length=k+1/\∀ r∈a',r.length<=1001:=by
   intro r hr
   unfold qG
   rw [bS (by simp [iO];omega),aA,hw]
   refine ⟨_,rfl,by simp;omega,fun x hx=>?_⟩
   rcases List.mem_append.1 hx with hx|hx
   ·exact g2 x hx
   ·simp at hx;subst hx;exact hr
  have hgo2:∀ b:Bool,∃ a',qH a (k:Int) l b=some (.inl (a',((k+1:Nat):Int)))/\a'.length=k+1/\∀ r∈a',r.length<=1001:=by
   intro b
   unfold qH
   cases b with
   |true=>rw [if_pos rfl,bS (by simp [iO];omega),aA];exact hgo _ (by simp;omega)
   |false=>rw [if_neg (by simp)];exact hgo _ (by omega)
  show ∃ a',lM u p d al a (k:Int)=_/\_
  unfold lM
  rw [if_pos (by simp;omega),e,aA]
  cases d with
  |true=>rw [if_pos rfl,f,aA];exact hgo2 _
  |false=>rw [if_neg (by simp)];exact hgo2 _
 ·refine ⟨a,?_,hI⟩
  show lM u p d al a ((u.N.toNat:Nat):Int)=_
  unfold lM
  rw [if_neg (by simp;omega)]
theorem part15_ok (hu:Big u) (d:Bool):∃ p,aGI u d=some p/\eF u p:=by
 obtain ⟨hm,h0⟩:=part0 hu
 have h3:=hu.st
 unfold aGI
 rw [hm,aA]
 have key:=aKy (step:=fun s:List Int=>aBK u d s) u.N.toNat (fun p s=>s=p/\eF u p) (fun r=>eF u r) (fun p s hl hc hI=>?_) (List.replicate u.N.toNat 0) (List.replicate u.N.toNat 0) (by simp) (aOt _) ⟨rfl,h0⟩
 ·obtain ⟨p,h1,h2⟩:=key
  rw [h1,aA]
  exact ⟨p,rfl,h2⟩
 ·obtain ⟨rfl,hp⟩:=hI
  obtain ⟨r,e,g1,g2,g3⟩:=aSK hu hp d
  have hstep:aBK u d s=if decide (r=s)=true then some (.inr s) else some (.inl r):=by
   unfold aBK
   rw [e,aA,aOG _ _ (by rw [g1.1];omega),aA]
  by_cases h:r=s
  ·left
   rw [hstep,if_pos (by simpa using h)]
   exact ⟨_,rfl,hp⟩
  ·right
   refine ⟨r,r,g3,g2,h,?_,rfl,g1⟩
   rw [hstep,if_neg (by simpa using h)]
theorem true_ok {al:List Bool} (hal:al.length<=1000):∃ l,aGH al=some l/\l.length<=al.length/\∀ z∈l,0<=z/\z < al.length:=by
 unfold aGH
 have key:=cJ (step:=fun s:List Int × Int=>qY al s.1 s.2) al.length (fun i (a:List Int)=>(a,(i:Int))) (fun i a=>a.length<=i/\∀ z∈a,0<=z/\z < al.length) (fun r=>r.length<=al.length/\∀ z∈r,0<=z/\z < al.length) (fun i a hi hI=>?_) (fun a hI=>?_) al.length 0 [] (by omega) (by simp)
 ·obtain ⟨l,h1,h2⟩:=key
  have h1':loop (fun s:List Int × Int=>qY al s.1 s.2) (([]:List Int),0)=some l:=h1
  rw [h1',aA]
  exact ⟨l,rfl,h2⟩
 ·obtain ⟨g1,g2⟩:=hI
  have hw:wr ((i:Int)+1)=((i+1:Nat):Int):=aW hi (by omega)
  show ∃ a',qY al a (i:Int)=_/\_
  unfold qY aBH
  rw [if_pos (bD hi),bE hi,aA,hw]
  split
  ·rw [bS (by simp [iO];omega),aA]
   refine ⟨_,rfl,by simp;omega,fun z hz=>?_⟩
   rcases List.mem_append.1 hz with hz|hz
   ·exact g2 z hz
   ·simp at hz;omega
  ·exact ⟨_,rfl,by omega,g2⟩
 ·refine ⟨a,?_,hI⟩
  show qY al a (al.length:Int)=_
  unfold qY
  rw [if_neg (by simp)]
end
theorem aRd {t:aO} (h:aN t):Big t:=by
 have h1:=h.1
 have h2:=h.2.2.1.2.1
 have h3:=h.2.2.2.1
 exact ⟨by omega,by omega,by omega,fun e he=>uL h he⟩
section
variable {t:aO} {c:Nat} {p:List Int}
theorem top_ok (h:Drn c t) (hp:eF t p):∃ b,tM p=some b/\(1<=b/\b<=10/\b<=t.N)/\∀ z∈p,0<=z/\z < b:=by
 have h1:=h.ok.1
 have h2:=h.st
 obtain ⟨b,e,⟨⟨z,hz,hb⟩,ht⟩⟩:=aUb (p:=p) (by rw [hp.1];omega) (by rw [hp.1];omega) fun z hz=>by
  have:=hp.2 z hz
  omega
 have:=hp.2 z hz
 exact ⟨b,e,by omega,fun w hw=>by have:=hp.2 w hw;have:=ht w hw;omega⟩
theorem quot13_ok (h:Drn c t) (hp:eF t p):∃ t',vF t p=some t'/\Drn c t'/\t'.N<=t.N:=by
 obtain ⟨b,e,hb,hz⟩:=top_ok h hp
 refine ⟨_,quo_ref h.ok hp.1 e,⟨quo_ok h.ok hp.1 (by omega) hz,h.nm,by show b<=10;omega,Nat.le_trans (aSw t p) h.ed⟩,hb.2.2⟩
theorem aUj (h:Drn c t) (hp:eF t p) {b:Int} (hzi:∀ s,cF t s->0<=p.getD s.toNat 0/\p.getD s.toNat 0 < b):
  ∃ E,loop (fun s:List Edge × Int=>kE t p s.1 s.2) (([]:List Edge),0)=some E/\E.length<=c/\∀ x∈E,aAj b t.L.length x:=by
 have hu:=aRd h.ok
 have h2:=h.ok.2.1
 have hed:=h.ed
 have h5:=hu.ed
 refine cJ (step:=fun s:List Edge × Int=>kE t p s.1 s.2) t.E.length (fun i (a:List Edge)=>(a,(i:Int))) (fun i a=>a.length<=i/\∀ x∈a,aAj b t.L.length x) (fun r=>r.length<=c/\∀ x∈r,aAj b t.L.length x) (fun i a hi hI=>?_) (fun a hI=>?_) t.E.length 0 [] (by omega) (by simp)
 ·obtain ⟨g1,g2⟩:=hI
  have he:=List.getElem_mem hi
  have hin:=uL h.ok he
  have hw:wr ((i:Int)+1)=((i+1:Nat):Int):=aW hi (by omega)
  obtain ⟨v,hv⟩:=aLw hu hp he
  have hal:a.length+1 < iO:=by unfold iO;omega
  have ha1:a.length<=i+1:=by omega
  show ∃ a',kE t p a (i:Int)=_/\_
  unfold kE sQ
  rw [if_pos (bD hi),bE hi,aA,hv,aA,hw]
  clear hw
  split
  ·rw [(jM hp hin.1).1,aA,(jM hp hin.2.1).1,aA,bS (by simp only [List.length_singleton];omega),aA]
   refine ⟨_,rfl,by rw [List.length_append];exact Nat.add_le_add_right g1 1,fun x hx=>?_⟩
   rcases List.mem_append.1 hx with hx|hx
   ·exact g2 x hx
   ·rw [List.mem_singleton] at hx
    subst hx
    exact ⟨hzi _ hin.1,hzi _ hin.2.1,hin.2.2⟩
  ·exact ⟨_,rfl,ha1,g2⟩
 ·obtain ⟨g1,g2⟩:=hI
  refine ⟨a,?_,by omega,g2⟩
  show kE t p a (t.E.length:Int)=_
  unfold kE
  rw [if_neg (by simp)]
theorem aUk (hc:c<=250) (h:Drn c t) (hp:eF t p) {b:Int} (hzi:∀ s,cF t s->0<=p.getD s.toNat 0/\p.getD s.toNat 0 < b) {E:List Edge} (k2:E.length<=c) (k3:∀ x∈E,aAj b t.L.length x) {l:List Int} (hl:l.length<=10) (hlT:∀ z∈l,cF t z):
  ∃ F,loop (fun s:List Edge × Int=>kD p l s.1 s.2) (E,0)=some F/\F.length<=c+10/\∀ x∈F,aAj b t.L.length x:=by
 have hlab:=h.ok.2.2.1.1
 refine cJ (step:=fun s:List Edge × Int=>kD p l s.1 s.2) l.length (fun i (a:List Edge)=>(a,(i:Int))) (fun i a=>a.length<=c+i/\∀ x∈a,aAj b t.L.length x) (fun r=>r.length<=c+10/\∀ x∈r,aAj b t.L.length x) (fun i a hi hI=>?_) (fun a hI=>?_) l.length 0 E (by omega) ⟨by omega,k3⟩
 ·obtain ⟨g1,g2⟩:=hI
  have hsT:=hlT _ (List.getElem_mem hi)
  have hal:a.length+1 < iO:=by unfold iO;omega
  have hw:wr ((i:Int)+1)=((i+1:Nat):Int):=aW hi (by omega)
  show ∃ a',kD p l a (i:Int)=_/\_
  unfold kD
  rw [if_pos (bD hi),bE hi,aA,(jM hp hsT).1,aA,bS (by simp only [List.length_singleton];omega),aA,hw]
  clear hw
  refine ⟨_,rfl,by rw [List.length_append];exact Nat.add_le_add_right g1 1,fun x hx=>?_⟩
  rcases List.mem_append.1 hx with hx|hx
  ·exact g2 x hx
  ·rw [List.mem_singleton] at hx
   subst hx
   have:=hzi _ hsT
   exact ⟨this,this,by simp only;omega⟩
 ·obtain ⟨g1,g2⟩:=hI
  refine ⟨a,?_,by omega,g2⟩
  show kD p l a (l.length:Int)=_
  unfold kD
  rw [if_neg (by simp)]
theorem aPY (hc:c<=250) (h:Drn c t) (hp:eF t p) (d:Bool):∃ t',vG t p d=some t'/\Drn (c+10) t'/\t'.N<=t.N:=by
 have hu:=aRd h.ok
 have h1:=h.ok.1
 have h2:=h.ok.2.1
 have hst:=h.st
 have hlab:=h.ok.2.2.1
 obtain ⟨b,e,hb,hz⟩:=top_ok h hp
 have hzi:∀ s,cF t s->0<=p.getD s.toNat 0/\p.getD s.toNat 0 < b:=fun s hs=>by
  have hl:s.toNat < p.length:=by rw [hp.1];unfold cF at hs;omega
  have e:p.getD s.toNat 0=p[s.toNat]:=by rw [List.getD_eq_getElem?_getD,List.getElem?_eq_getElem hl];rfl
  rw [e]
  exact hz _ (List.getElem_mem hl)
 have hini:cF t t.I:=by unfold cF;omega
 have hfin:∀ E:List Edge,(∀ x∈E,aAj b t.L.length x)->E.length<=c+10->∃ t',oY t p E=some t'/\Drn (c+10) t'/\t'.N<=t.N:=by
  intro E hE hl
  obtain ⟨t',m1,m2,m3,m4⟩:=aRb (T:=t.L) h.nm (by have:=hlab.2.1;omega) (st:=b) (ini:=p.getD t.I.toNat 0) (by omega) (hzi _ hini) (edges:=E) (by omega) (fun x hx=>by have:=hE x hx;unfold aAj at this;exact ⟨this.1,this.2.1,this.2.2⟩)
  unfold oY
  rw [(jM hp hini).1,aA,e,aA,m1,aA]
  exact ⟨t',rfl,m2.mono hl,by omega⟩
 obtain ⟨E,k1,k2,k3⟩:=aUj h hp hzi
 unfold vG
 rw [k1,aA]
 unfold xW
 cases d with
 |false=>rw [if_neg (by simp)];exact hfin E k3 (by omega)
 |true=>
  obtain ⟨al,d1,d2⟩:=aOH hu hp
  obtain ⟨l,d3,d4,d5⟩:=true_ok (al:=al) (by omega)
  obtain ⟨F,q1,q2,q3⟩:=aUk hc h hp hzi k2 k3 (l:=l) (by omega) (fun z hz=>by have:=d5 z hz;unfold cF;omega)
  rw [if_pos rfl,d1,aA,d3,aA,q1,aA]
  unfold aCw
  exact hfin F q3 q2
theorem aOI (h:Drn c t):wJ t=some (RL t)/\aBd t (RL t)=some (aPJ t (RL t))/\Drn c (aPJ t (RL t))/\(aPJ t (RL t)).N<=t.N:=by
 have h1:=h.ok.1
 have h2:=h.st
 have hl:=RL_len t
 refine ⟨aSl h.ok,aTS h.ok (by omega),⟨keep_ok h.ok,h.nm,?_,Nat.le_trans (aPK t (RL t)) h.ed⟩,?_⟩
 ·show ((RL t).length:Int)<=10
  omega
 ·show ((RL t).length:Int)<=t.N
  omega
theorem aUl (h:Drn c t):∃ t',aCv t=some t'/\Drn c t'/\t'.N<=t.N:=by
 obtain ⟨k1,k2,k3,k4⟩:=aOI h
 obtain ⟨p,p1,p2⟩:=aPX (aRd k3.ok)
 obtain ⟨t',q1,q2,q3⟩:=quot13_ok k3 p2
 unfold aCv
 rw [k1,aA,k2,aA,p1,aA,q1,aA]
 exact ⟨t',rfl,q2,by omega⟩
theorem aOJ (hc:c<=250) (h:Drn c t) (d:Bool):∃ t',wN t d=some t'/\Drn (c+10) t'/\t'.N<=t.N:=by
 obtain ⟨k1,k2,k3,k4⟩:=aOI h
 obtain ⟨p,p1,p2⟩:=part15_ok (aRd k3.ok) d
 obtain ⟨t',q1,q2,q3⟩:=aPY hc k3 p2 d
 unfold wN
 rw [k1,aA,k2,aA,p1,aA,q1,aA]
 exact ⟨t',rfl,q2,by omega⟩
end
end Gv
set_option linter.unusedSimpArgs false
set_option linter.unusedVariables false
namespace Gv
open Go
theorem xI {γ:Type} {step:List γ × Int->Option ((List γ × Int) ⊕ List γ)} {n:Int} (hn:0<=n) (R:Nat->List γ->Prop) (R':List γ->Prop)
  (h:∀ m i,0<=i->i < n->R i.toNat m->∃ m',step (m,i)=some (.inl (m',i+1))/\R (i.toNat+1) m') (h':∀ m,R n.toNat m->step (m,n)=some (.inr m)/\R' m):∀ m,R 0 m->∃ m',loop step (m,0)=some m'/\R' m':=by
 intro m hm
 obtain ⟨r,h1,h2⟩:=cJ (step:=step) n.toNat (fun k (q:List γ)=>(q,(k:Int))) R R' (fun k q hk hI=>by
  obtain ⟨m',g1,g2⟩:=h q (k:Int) (by omega) (by omega) (by rwa [Int.toNat_natCast])
  rw [Int.toNat_natCast] at g2
  exact ⟨m',g1,g2⟩) (fun q hI=>by
  obtain ⟨g1,g2⟩:=h' q hI
  refine ⟨q,?_,g2⟩
  have:((n.toNat:Nat):Int)=n:=by omega
  rw [this];exact g1) n.toNat 0 m (by omega) hm
 exact ⟨r,h1,h2⟩
theorem sq_lt {s x y:Int} (hs:s<=100) (hx:0<=x/\x < s) (hy:0<=y/\y < s):0<=x * s/\x * s<=10000/\x * s+y < s * s:=by
 have h1:(x+1) * s<=s * s:=Int.mul_le_mul_of_nonneg_right (by omega) (by omega)
 have h2:x * s<=100 * 100:=Int.mul_le_mul (by omega) hs (by omega) (by omega)
 have h3:0<=x * s:=Int.mul_nonneg hx.1 (by omega)
 rw [Int.add_mul,Int.one_mul] at h1
 omega
theorem sq_wr {s x y:Int} (hs:s<=100) (hx:0<=x/\x < s) (hy:0<=y/\y < s):wr (wr (x * s)+y)=x * s+y:=by
 obtain ⟨h1,h2,h3⟩:=sq_lt hs hx hy
 rw [fS (x:=x * s) (by omega) (by omega),fS (by omega) (by omega)]
theorem aMG {s x y:Int} {m:List Bool} (hs:s<=100) (hm:m.length=(s * s).toNat) (hx:0<=x/\x < s) (hy:0<=y/\y < s):∃ b,ix m (wr (wr (x * s)+y))=some b:=by
 obtain ⟨h1,h2,h3⟩:=sq_lt hs hx hy
 rw [sq_wr hs hx hy]
 unfold ix
 rw [if_pos (by omega),List.getElem?_eq_getElem (by omega)]
 exact ⟨_,rfl⟩
theorem sq_st {s x y:Int} {m:List Bool} (v:Bool) (hs:s<=100) (hm:m.length=(s * s).toNat) (hx:0<=x/\x < s) (hy:0<=y/\y < s):∃ m',st m (wr (wr (x * s)+y)) v=some m'/\m'.length=(s * s).toNat:=by
 obtain ⟨h1,h2,h3⟩:=sq_lt hs hx hy
 rw [sq_wr hs hx hy]
 unfold Gv.st
 rw [if_pos ⟨by omega,by omega⟩]
 exact ⟨_,rfl,by rw [List.length_set,hm]⟩
theorem ln_ix {γ:Type} {s k:Int} {m:List γ} (hm:m.length=s.toNat) (hk:0<=k/\k < s):∃ b,ix m k=some b:=by
 unfold ix
 rw [if_pos hk.1,List.getElem?_eq_getElem (by omega)]
 exact ⟨_,rfl⟩
theorem ln_st {γ:Type} {s k:Int} {m:List γ} (v:γ) (hm:m.length=s.toNat) (hk:0<=k/\k < s):∃ m',st m k v=some m'/\m'.length=s.toNat:=by
 unfold Gv.st
 rw [if_pos ⟨hk.1,by omega⟩]
 exact ⟨_,rfl,by rw [List.length_set,hm]⟩
theorem aCm {i n:Int} (h0:0<=i) (h1:i < n) (hn:n<=1000000):wr (i+1)=i+1:=fS (by omega) (by omega)
section
variable {s:Int}
theorem cl2_c (hs:0<=s/\s<=100) {x y:Int} (hx:0<=x/\x < s) (hy:0<=y/\y < s):∀ m:List Bool,m.length=(s * s).toNat->∃ m',loop (fun q:List Bool × Int=>rO s x y q.1 q.2) (m,0)=some m'/\m'.length=(s * s).toNat:=by
 refine xI hs.1 (fun _ m=>m.length=(s * s).toNat) (fun m=>m.length=(s * s).toNat) (fun m i h0 h1 hm=>?_) (fun m hm=>⟨?_,hm⟩)
 ·show ∃ m',rO s x y m i=_/\_
  unfold rO zZ
  obtain ⟨b,hb⟩:=aMG (m:=m) hs.2 hm hx ⟨h0,h1⟩
  obtain ⟨c,hc⟩:=aMG (m:=m) hs.2 hm hy ⟨h0,h1⟩
  obtain ⟨m',h2,h3⟩:=sq_st (m:=m) true hs.2 hm hy ⟨h0,h1⟩
  rw [if_pos (by simpa using h1),hb,aA,aCm h0 h1 (by omega)]
  cases b with
  |true=>rw [if_pos rfl,hc,aA,h2,aA];exact ⟨m',rfl,h3⟩
  |false=>rw [if_neg (by simp)];exact ⟨m,rfl,hm⟩
 ·show rO s x y m s=_
  unfold rO
  rw [if_neg (by simp)]
theorem cl2_a (hs:0<=s/\s<=100) {x:Int} (hx:0<=x/\x < s):∀ m:List Bool,m.length=(s * s).toNat->∃ m',loop (fun q:List Bool × Int=>rP s x q.1 q.2) (m,0)=some m'/\m'.length=(s * s).toNat:=by
 refine xI hs.1 (fun _ m=>m.length=(s * s).toNat) (fun m=>m.length=(s * s).toNat) (fun m i h0 h1 hm=>?_) (fun m hm=>⟨?_,hm⟩)
 ·show ∃ m',rP s x m i=_/\_
  unfold rP
  obtain ⟨b,hb⟩:=aMG (m:=m) hs.2 hm ⟨h0,h1⟩ hx
  obtain ⟨m',h2,h3⟩:=cl2_c hs hx ⟨h0,h1⟩ m hm
  rw [if_pos (by simpa using h1),hb,aA]
  unfold aGi zY
  rw [aCm h0 h1 (by omega)]
  cases b with
  |true=>rw [if_neg (by simp),h2,aA];exact ⟨m',rfl,h3⟩
  |false=>rw [if_pos (by simp)];exact ⟨m,rfl,hm⟩
 ·show rP s x m s=_
  unfold rP
  rw [if_neg (by simp)]
theorem cl2_b (hs:0<=s/\s<=100):∀ m:List Bool,m.length=(s * s).toNat->∃ m',loop (fun q:List Bool × Int=>rQ s q.1 q.2) (m,0)=some m'/\m'.length=(s * s).toNat:=by
 refine xI hs.1 (fun _ m=>m.length=(s * s).toNat) (fun m=>m.length=(s * s).toNat) (fun m i h0 h1 hm=>?_) (fun m hm=>⟨?_,hm⟩)
 ·show ∃ m',rQ s m i=_/\_
  unfold rQ
  obtain ⟨m',h2,h3⟩:=cl2_a hs ⟨h0,h1⟩ m hm
  rw [if_pos (by simpa using h1),h2,aA]
  unfold aGh aCU
  rw [aCm h0 h1 (by omega)]
  exact ⟨m',rfl,h3⟩
 ·show rQ s m s=_
  unfold rQ
  rw [if_neg (by simp)]
theorem close2_ok (hs:0<=s/\s<=100) (m:List Bool) (hm:m.length=(s * s).toNat):∃ m',aES s m=some m'/\m'.length=(s * s).toNat:=by
 obtain ⟨m1,h1,h2⟩:=xI (step:=fun q:List Bool × Int=>pH s q.1 q.2) hs.1 (fun _ m=>m.length=(s * s).toNat) (fun m=>m.length=(s * s).toNat) (fun m i h0 h1 hm=>by
  show ∃ m',pH s m i=_/\_
  unfold pH
  obtain ⟨b,hb⟩:=aMG (m:=m) hs.2 hm ⟨h0,h1⟩ ⟨h0,h1⟩
  obtain ⟨m',h2,h3⟩:=sq_st (m:=m) true hs.2 hm ⟨h0,h1⟩ ⟨h0,h1⟩
  rw [if_pos (by simpa using h1),hb,aA,h2,aA,aCm h0 h1 (by omega)]
  exact ⟨m',rfl,h3⟩) (fun m hm=>⟨by
  show pH s m s=_
  unfold pH
  rw [if_neg (by simp)],hm⟩) m hm
 obtain ⟨m2,h3,h4⟩:=cl2_b hs m1 h2
 unfold aES
 rw [h1,aA]
 unfold aBL
 rw [h3,aA]
 exact ⟨m2,rfl,h4⟩
end
section
variable {t:aO} {c:Nat}
theorem still_ok (h:Drn c t):∃ m,aET t=some m/\m.length=(t.N * t.N).toNat:=by
 have h1:=h.ok.1
 have h2:=h.st
 have h3:=h.ok.2.2.2.1
 have hq:=sq_lt (s:=t.N) (x:=t.N - 1) (y:=0) (by omega) (by omega) (by omega)
 have hsq:0<=t.N * t.N/\t.N * t.N<=100:=⟨Int.mul_nonneg (by omega) (by omega),Int.le_trans (Int.mul_le_mul h2 h2 (by omega) (by omega)) (by decide)⟩
 have hm:mkz (wr (t.N * t.N)) false=some (List.replicate (t.N * t.N).toNat false):=by
  rw [fS (by omega) (by omega)]
  unfold mkz
  rw [if_pos ⟨by omega,by unfold iO;omega⟩]
 unfold aET
 rw [hm,aA]
 obtain ⟨m1,e1,e2⟩:=xI (step:=fun q:List Bool × Int=>rR t q.1 q.2) (n:=(t.E.length:Int)) (by omega) (fun _ m=>m.length=(t.N * t.N).toNat) (fun m=>m.length=(t.N * t.N).toNat) (fun m i h0 h1' hm=>by
  show ∃ m',rR t m i=_/\_
  have hi:i.toNat < t.E.length:=by omega
  have hb:=uL h.ok (List.getElem_mem hi)
  unfold cF at hb
  obtain ⟨b,hb'⟩:=aMG (m:=m) (s:=t.N) (by omega) hm hb.1 hb.2.1
  obtain ⟨m',g2,g3⟩:=sq_st (m:=m) (s:=t.N) true (by omega) hm hb.1 hb.2.1
  have he:ix t.E i=some t.E[i.toNat]:=by unfold ix;rw [if_pos h0,List.getElem?_eq_getElem hi]
  unfold rR aAa
  rw [if_pos (by simpa using h1'),he,aA,hb',aA,g2,aA,aCm h0 h1' (by omega)]
  split
  ·exact ⟨m',rfl,g3⟩
  ·exact ⟨m,rfl,hm⟩) (fun m hm=>⟨by
  show rR t m (t.E.length:Int)=_
  unfold rR
  rw [if_neg (by simp)],hm⟩) (List.replicate (t.N * t.N).toNat false) (by simp)
 rw [e1,aA]
 unfold aCV
 obtain ⟨m2,e3,e4⟩:=close2_ok (s:=t.N) (by omega) m1 e2
 rw [e3,aA]
 exact ⟨m2,rfl,e4⟩
theorem step16_ok (h:Drn c t) {still:List Bool} (hst:still.length=(t.N * t.N).toNat) {k:Int} (hk:cF t k) (l:Int):∃ m,aGJ t still k l=some m/\m.length=t.N.toNat:=by
 have h1:=h.ok.1
 have h2:=h.st
 have h3:=h.ok.2.2.2.1
 have hk':=hk
 unfold cF at hk'
 have hm:mkz t.N false=some (List.replicate t.N.toNat false):=by
  unfold mkz
  rw [if_pos ⟨by omega,by unfold iO;omega⟩]
 unfold aGJ
 rw [hm,aA]
 split
 ·obtain ⟨m1,e1,e2⟩:=xI (step:=fun q:List Bool × Int=>tX t still k q.1 q.2) (n:=t.N) (by omega) (fun _ m=>m.length=t.N.toNat) (fun m=>m.length=t.N.toNat) (fun m i h0 h1' hm=>by
   show ∃ m',tX t still k m i=_/\_
   obtain ⟨b,hb⟩:=aMG (m:=still) (s:=t.N) (by omega) hst hk' ⟨h0,h1'⟩
   obtain ⟨x,hx⟩:=ln_ix (m:=m) hm ⟨h0,h1'⟩
   obtain ⟨m',g2,g3⟩:=ln_st (m:=m) b hm ⟨h0,h1'⟩
   unfold tX
   rw [if_pos (by simpa using h1'),hb,aA,hx,aA,g2,aA,aCm h0 h1' (by omega)]
   exact ⟨m',rfl,g3⟩) (fun m hm=>⟨by
   show tX t still k m t.N=_
   unfold tX
   rw [if_neg (by simp)],hm⟩) (List.replicate t.N.toNat false) (by simp)
  rw [e1,aA]
  exact ⟨m1,rfl,e2⟩
 ·obtain ⟨m1,e1,e2⟩:=xI (step:=fun q:List Bool × Int=>tZ t still k l q.1 q.2) (n:=(t.E.length:Int)) (by omega) (fun _ m=>m.length=t.N.toNat) (fun m=>m.length=t.N.toNat) (fun m i h0 h1' hm=>by
   show ∃ m',tZ t still k l m i=_/\_
   have hi:i.toNat < t.E.length:=by omega
   have hb:=uL h.ok (List.getElem_mem hi)
   unfold cF at hb
   have he:ix t.E i=some t.E[i.toNat]:=by unfold ix;rw [if_pos h0,List.getElem?_eq_getElem hi]
   obtain ⟨b,hb'⟩:=aMG (m:=still) (s:=t.N) (by omega) hst hk' hb.1
   have hj4:∀ m':List Bool,xX i m'=some (.inl (m',i+1)):=fun m'=>by unfold xX;rw [aCm h0 h1' (by omega)]
   obtain ⟨m2,e3,e4⟩:=xI (step:=fun q:List Bool × Int=>tY t still t.E[i.toNat] q.1 q.2) (n:=t.N) (by omega) (fun _ m=>m.length=t.N.toNat) (fun m=>m.length=t.N.toNat) (fun m j h0 h1' hm=>by
    show ∃ m',tY t still t.E[i.toNat] m j=_/\_
    obtain ⟨b,hb⟩:=aMG (m:=still) (s:=t.N) (by omega) hst hb.2.1 ⟨h0,h1'⟩
    obtain ⟨x,hx⟩:=ln_ix (m:=m) hm ⟨h0,h1'⟩
    obtain ⟨m',g2,g3⟩:=ln_st (m:=m) true hm ⟨h0,h1'⟩
    unfold tY aBM
    rw [if_pos (by simpa using h1'),hb,aA,aCm h0 h1' (by omega)]
    cases b with
    |true=>rw [if_pos rfl,hx,aA,g2,aA];exact ⟨m',rfl,g3⟩
    |false=>rw [if_neg (by simp)];exact ⟨m,rfl,hm⟩) (fun m hm=>⟨by
    show tY t still t.E[i.toNat] m t.N=_
    unfold tY
    rw [if_neg (by simp)],hm⟩) m hm
   unfold tZ
   rw [if_pos (by simpa using h1'),he,aA,hb',aA]
   have hj8:∀ v,∃ m',xY t still m i t.E[i.toNat] v=some (.inl (m',i+1))/\m'.length=t.N.toNat:=fun v=>by
    unfold xY
    cases v with
    |true=>rw [if_pos rfl,hj4];exact ⟨m,rfl,hm⟩
    |false=>
     rw [if_neg (by simp),e3,aA]
     unfold aHu
     rw [hj4]
     exact ⟨m2,rfl,e4⟩
   split
   ·exact hj8 _
   ·exact hj8 _) (fun m hm=>⟨by
   show tZ t still k l m (t.E.length:Int)=_
   unfold tZ
   rw [if_neg (by simp)],hm⟩) (List.replicate t.N.toNat false) (by simp)
  rw [e1,aA]
  exact ⟨m1,rfl,e2⟩
theorem sat16_ok (h:Drn c t) (h6:t.N<=6):∃ u,aAb t=some u/\Big u/\u.N=t.N:=by
 have h1:=h.ok.1
 have h3:=h.ok.2.2.2.1
 have hl:=h.ok.2.2.1.2.1
 have hl0:=h.ok.2.2.1.1
 obtain ⟨still,s1,s2⟩:=still_ok h
 unfold aAb
 rw [bS (by simp [iO];omega),aA,List.nil_append]
 unfold vZ
 rw [s1,aA]
 obtain ⟨E,e1,e2,e3⟩:=xI (step:=fun q:List Edge × Int=>mJ t still q.1 q.2) (n:=t.N) (by omega) (fun k E=>(∀ e∈E,aAj t.N t.L.length e)/\E.length<=72 * k) (fun E=>(∀ e∈E,aAj t.N t.L.length e)/\E.length<=432) (fun E k k0 k1 hE=>by
  show ∃ m',mJ t still E k=_/\_
  obtain ⟨F,f1,f2,f3⟩:=xI (step:=fun q:List Edge × Int=>mI t still k q.1 q.2) (n:=(t.L.length:Int)) (by omega) (fun j F=>(∀ e∈F,aAj t.N t.L.length e)/\F.length<=E.length+6 * j) (fun F=>(∀ e∈F,aAj t.N t.L.length e)/\F.length<=E.length+72) (fun F l l0 l1 hF=>by
   show ∃ m',mI t still k F l=_/\_
   obtain ⟨m,g1,g2⟩:=step16_ok h s2 (k:=k) ⟨k0,k1⟩ l
   obtain ⟨D,d1,d2,d3⟩:=xI (step:=fun q:List Edge × Int=>mH t k l m q.1 q.2) (n:=t.N) (by omega) (fun i D=>(∀ e∈D,aAj t.N t.L.length e)/\D.length<=F.length+i) (fun D=>(∀ e∈D,aAj t.N t.L.length e)/\D.length<=F.length+6) (fun D i i0 i1 hD=>by
    show ∃ m',mH t k l m D i=_/\_
    obtain ⟨b,hb⟩:=ln_ix (m:=m) g2 ⟨i0,i1⟩
    have hlen:=hD.2
    have hF2:=hF.2
    have hE2:=hE.2
    have hlim:D.length+1<=10000:=by omega
    unfold mH sT
    rw [if_pos (by simpa using i1),hb,aA,aCm i0 i1 (by omega)]
    cases b with
    |true=>
     rw [if_pos rfl,bS (by simp only [List.length_singleton,iO];omega),aA]
     refine ⟨_,rfl,fun e he=>?_,by rw [List.length_append,List.length_singleton];omega⟩
     rcases List.mem_append.1 he with he|he
     ·exact hD.1 e he
     ·rw [List.mem_singleton] at he
      subst he
      exact ⟨⟨k0,k1⟩,⟨i0,i1⟩,l0,l1⟩
    |false=>rw [if_neg (by simp)];exact ⟨D,rfl,hD.1,by omega⟩) (fun D hD=>⟨by
    show mH t k l m D t.N=_
    unfold mH
    rw [if_neg (by simp)],hD.1,by have:=hD.2;omega⟩) F ⟨hF.1,by omega⟩
   unfold mI
   rw [if_pos (by simpa using l1),g1,aA,d1,aA]
   unfold aCy yA
   rw [aCm l0 l1 (by omega)]
   exact ⟨D,rfl,d2,by have:=hF.2;omega⟩) (fun F hF=>⟨by
   show mI t still k F (t.L.length:Int)=_
   unfold mI
   rw [if_neg (by simp)],hF.1,by have:=hF.2;omega⟩) E ⟨hE.1,by omega⟩
  unfold mJ
  rw [if_pos (by simpa using k1),f1,aA]
  unfold aCx xZ
  rw [aCm k0 k1 (by omega)]
  exact ⟨F,rfl,f2,by have:=hE.2;omega⟩) (fun E hE=>⟨by
  show mJ t still E t.N=_
  unfold mJ
  rw [if_neg (by simp)],hE.1,by have:=hE.2;omega⟩) [] ⟨by simp,by simp⟩
 rw [e1,aA]
 exact ⟨_,rfl,⟨by show 1<=t.N/\t.N<=100;omega,by show t.L.length<=100;omega,by show E.length<=1000;omega,fun e he=>by have:=e2 e he;unfold aAj at this;exact ⟨this.1,this.2.1,this.2.2⟩⟩,rfl⟩
theorem aUm (hc:c<=250) (h:Drn c t) (h6:t.N<=6):∃ t',aCz t=some t'/\Drn (c+10) t':=by
 obtain ⟨k1,k2,k3,k4⟩:=aOI h
 obtain ⟨u,u1,u2,u3⟩:=sat16_ok k3 (by omega)
 obtain ⟨p,p1,p2⟩:=aPX u2
 have p3:eF (aPJ t (RL t)) p:=by
  unfold eF at p2 ⊢
  rw [u3] at p2
  exact p2
 obtain ⟨t',q1,q2,q3⟩:=aPY hc k3 p3 false
 unfold aCz
 rw [k1,aA,k2,aA]
 unfold aJl
 rw [u1,aA,p1,aA,aA,q1,aA]
 exact ⟨t',rfl,q2⟩
end
end Gv
set_option linter.unusedSimpArgs false
set_option linter.unusedVariables false
namespace Gv
open Go
section
variable {a:aO} (cs:aL)
def Ask (t:aO):Prop:=aN t/\eT 999999999 t
theorem Drn.ask {c:Nat} {t:aO} (h:Drn c t):Ask t:=⟨h.ok,h.fits⟩
theorem det_ask {c:Nat} {t:aO} (h:Drn c t) (hs:Small (dC t)):Ask (jQ t):=by
 refine ⟨(aJv h.ok hs).1,h.fits.1,h.fits.2.1,?_⟩
 have:=hs.2
 show (dC t).2.length<=999999999
 omega
theorem cut_ask {c:Nat} {t:aO} (h:Drn c t) {E:List Edge} (hE:E.Sublist t.E):Ask ⟨t.N,t.I,t.L,E⟩:=by
 have hl:=hE.length_le
 have h3:=h.ok.2.2.2.1
 refine ⟨⟨h.ok.1,h.ok.2.1,h.ok.2.2.1,aLq (by show E.length<=300;omega) ((aLm h.ok).sublist hE) fun e he=>nS h.ok (hE.subset he)⟩,h.fits.1,h.fits.2.1,by show E.length<=999999999;omega⟩
theorem own_eq {c:Nat} {t:aO} (h:Drn c t):aGL t=some t:=by
 have h1:=h.ok.2.2.1.2.1
 have h3:=h.ok.2.2.2.1
 unfold aGL
 rw [bS (by simp [iO];omega),aA,bS (by simp [iO];omega),aA,List.nil_append,List.nil_append]
theorem del_eq {E:List Edge} (hl:E.length<=1000) {v:Int} (hv:0<=v/\v < E.length):∃ r1 r2 F,vT E 0 v=some r1/\vT E (wr (v+1)) (E.length:Int)=some r2/\rZ r1 r2=some F/\F.Sublist E:=by
 refine ⟨E.take v.toNat,E.drop (v.toNat+1),E.take v.toNat++E.drop (v.toNat+1),?_,?_,bS (by simp only [List.length_take,List.length_drop,iO];omega),?_⟩
 ·unfold vT
  rw [if_pos ⟨by decide,hv.1,by omega⟩]
  simp
 ·rw [fS (by omega) (by omega)]
  unfold vT
  rw [if_pos ⟨by omega,by omega,by omega⟩,show (v+1).toNat=v.toNat+1 by omega,List.take_of_length_le (by simp)]
 ·have:(E.take v.toNat++E.drop (v.toNat+1)).Sublist (E.take v.toNat++E.drop v.toNat):=by
   refine List.Sublist.append_left ?_ _
   rw [show E.drop (v.toNat+1)=(E.drop v.toNat).drop 1 by rw [List.drop_drop]]
   exact List.drop_sublist _ _
  rwa [List.take_append_drop] at this
theorem pair_ok:∃ a b,aGN cs=some (a,b)/\Ask a/\Ask b:=by
 obtain ⟨a,x,y,e,⟨ha,h6⟩,h1,h2⟩:=aPV cs (s1:=0) 0 (by omega)
 obtain ⟨b,x',y',e',hb,h1',h2'⟩:=aPV cs (s1:=x) y (by omega)
 obtain ⟨v,x2,y2,e2,g,i,j⟩:=pV cs y' (s1:=x') (n:=7) (by omega) (by omega)
 unfold aGN aLR
 rw [aA]
 show ∃ a b,(ob (tN cs 0 0) fun r16=>ob (tN cs r16.2.1 r16.2.2) fun r30=>ob (bZ cs r30.2.1 r30.2.2 7) fun r44=>_)=_/\_
 rw [e,aA,e',aA,e2,aA]
 have hend:∀ t:aO,Ask t->∃ a' b',jO (a,x,y) t.N t.I t.L t.E=some (a',b')/\Ask a'/\Ask b':=fun t ht=>⟨a,t,rfl,ha.ask,ht⟩
 split
 ·obtain ⟨t',e3,h3,_⟩:=aUl ha
  show ∃ a' b',(ob (aCv a) fun r99=>_)=_/\_
  rw [e3,aA]
  exact hend t' h3.ask
 split
 ·obtain ⟨t',e3,h3,_⟩:=aOJ (by omega) ha true
  show ∃ a' b',(ob (wN a true) fun r99=>_)=_/\_
  rw [e3,aA]
  exact hend t' h3.ask
 split
 ·obtain ⟨t',e3,h3,_⟩:=aOJ (by omega) ha false
  show ∃ a' b',(ob (wN a false) fun r99=>_)=_/\_
  rw [e3,aA]
  exact hend t' h3.ask
 split
 ·obtain ⟨t',e3,h3⟩:=aUm (by omega) ha h6
  show ∃ a' b',(ob (aCz a) fun r99=>_)=_/\_
  rw [e3,aA]
  exact hend t' h3.ask
 split
 ·show ∃ a' b',(ob (aEt a) fun r215=>_)=_/\_
  rw [aTW ha.ok,aA,aCK]
  by_cases hs:Small (dC a)
  ·rw [decide_eq_true hs,if_pos rfl]
   unfold detS
   rw [if_pos hs]
   exact hend (jQ a) (det_ask ha hs)
  ·rw [decide_eq_false hs,if_neg (by simp)]
   exact hend b hb.1.ask
 split
 ·show ∃ a' b',(ob (aGL a) fun r254=>_)=_/\_
  rw [own_eq ha,aA]
  have h3:=ha.ok.2.2.2.1
  by_cases hp:0 < a.E.length
  ·rw [if_pos (by simpa using hp)]
   obtain ⟨u,x3,y3,e3,g3,_,_⟩:=pV cs y2 (s1:=x2) (n:=(a.E.length:Int)) (by omega) (by omega)
   obtain ⟨r1,r2,F,d1,d2,d3,d4⟩:=del_eq (E:=a.E) (by omega) g3
   show ∃ a' b',(ob (bZ cs x2 y2 (a.E.length:Int)) fun r269=>_)=_/\_
   rw [e3,aA]
   show ∃ a' b',(ob (vT a.E 0 u) fun r282=>ob (vT a.E (wr (u+1)) (a.E.length:Int)) fun r288=>_)=_/\_
   rw [d1,aA,d2,aA,d3,aA]
   exact hend ⟨a.N,a.I,a.L,F⟩ (cut_ask ha d4)
  ·rw [if_neg (by simp;simpa using hp)]
   exact hend a ha.ask
 ·exact hend b hb.1.ask
end
end Gv
