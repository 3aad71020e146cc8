/- Greatest relations between the states of two systems, by rounds. No program in sight. -/
import Derived.Test.YtnaggbljhaoimaaGreatDoorJP80
set_option linter.all false
namespace Gv
open Go
section
variable {a b:aW} {B:Int->Int->Bool} {F:(Int->Int->Bool)->Int->Int->Bool}
structure MonoT (a b:aW) (F:(Int->Int->Bool)->Int->Int->Bool):Prop where
 mono:∀ S T:Int->Int->Bool,(∀ x y,jY a x->jY b y->S x y=true->T x y=true)->∀ x y,jY a x->jY b y->F S x y=true->F T x y=true
end
end Gv
namespace Gv
open Go
def aJC (q p:List Int):Prop:=q.length=p.length/\∀ x y:Nat,x < p.length->y < p.length->q[x]?=q[y]?->p[x]?=p[y]?
theorem aLQ (p:List Int) (n:Nat):(nL p n).Nodup:=List.Nodup.sublist List.filter_sublist List.nodup_range
theorem aKU (p:List Int) (n:Nat):(nL p n).length<=n:=by
 have:=List.length_filter_le (fun i=>decide (∀ k,k < i->p[k]?≠p[i]?)) (List.range n)
 rw [List.length_range] at this
 exact this
theorem aJD {q:List Int} {n:Nat}:∀ x,x < n->∃ z,z<=x/\z∈nL q n/\q[z]?=q[x]?:=by
 intro x
 induction x using Nat.strongRecOn with
 |ind x ih=>
  intro hx
  by_cases h:∀ k,k < x->q[k]?≠q[x]?
  ·exact ⟨x,Nat.le_refl _,by unfold nL;rw [List.mem_filter,List.mem_range,decide_eq_true_iff];exact ⟨hx,h⟩,rfl⟩
  ·obtain ⟨k,hk⟩:=Classical.not_forall.1 h
   obtain ⟨hk1,hk2⟩:=Classical.not_imp.1 hk
   obtain ⟨z,z1,z2,z3⟩:=ih k hk1 (by omega)
   exact ⟨z,by omega,z2,z3.trans (Classical.not_not.1 hk2)⟩
theorem aEP {p q:List Int} (hp:cn p=p) (hq:cn q=q) (hs:aJC q p):q=p\/(nL p p.length).length < (nL q p.length).length:=by
 by_cases h:∀ x y:Nat,x < p.length->y < p.length->p[x]?=p[y]?->q[x]?=q[y]?
 ·left
  rw [←hp,←hq]
  refine aGO ⟨hs.1,fun x y hx hy=>?_⟩
  rw [hs.1] at hx hy
  exact ⟨hs.2 x y hx hy,h x y hx hy⟩
 ·right
  have hsub:∀ i,i∈nL p p.length->i∈nL q p.length:=fun i hi=>by
   unfold nL at hi ⊢
   rw [List.mem_filter,List.mem_range,decide_eq_true_iff] at hi ⊢
   exact ⟨hi.1,fun k hk e=>hi.2 k hk (hs.2 k i (by omega) hi.1 e)⟩
  have hex:∃ z,z∈nL q p.length/\z∉nL p p.length:=by
   apply Classical.byContradiction
   intro hno
   refine h fun x y hx hy e=>?_
   obtain ⟨a,a1,a2,a3⟩:=aJD (q:=q) x hx
   obtain ⟨b,b1,b2,b3⟩:=aJD (q:=q) y hy
   have ha:a∈nL p p.length:=Classical.byContradiction fun h=>hno ⟨a,a2,h⟩
   have hb:b∈nL p p.length:=Classical.byContradiction fun h=>hno ⟨b,b2,h⟩
   have hab:p[a]?=p[b]?:=((hs.2 a x (by omega) hx a3).trans e).trans (hs.2 b y (by omega) hy b3).symm
   unfold nL at ha hb
   rw [List.mem_filter,decide_eq_true_iff] at ha hb
   have:a=b:=by
    rcases Nat.lt_trichotomy a b with h|h|h
    ·exact absurd hab (hb.2 a h)
    ·exact h
    ·exact absurd hab.symm (ha.2 b h)
   subst this
   exact a3.symm.trans b3
  obtain ⟨z,z1,z2⟩:=hex
  have:=List.Nodup.length_le_of_subset (l₁:=z::nL p p.length) (l₂:=nL q p.length) (List.nodup_cons.2 ⟨z2,aLQ _ _⟩) (fun i hi=>by
   rcases List.mem_cons.1 hi with rfl|hi
   ·exact z1
   ·exact hsub i hi)
  rw [List.length_cons] at this
  omega
theorem aMQ (n:Nat):cn (List.replicate n (0:Int))=List.replicate n 0:=by
 refine List.ext_getElem? fun i=>?_
 by_cases hi:i < n
 ·rw [aHv (by simpa using hi),List.getElem_replicate,List.getElem?_replicate,if_pos hi]
  have hdd:∀ m,dd (List.replicate (m+1) (0:Int))=[0]:=by
   intro m
   induction m with
   |zero=>rfl
   |succ m ih=>rw [List.replicate_succ',aFd,ih];rfl
  obtain ⟨m,rfl⟩:∃ m,n=m+1:=⟨n - 1,by omega⟩
  rw [hdd];rfl
 ·rw [List.getElem?_eq_none (by rw [aBJ,List.length_replicate];omega),List.getElem?_eq_none (by rw [List.length_replicate];omega)]
theorem cn_cn {κ:Type} [DecidableEq κ] [BEq κ] [LawfulBEq κ] (l:List κ):cn (cn l)=cn l:=aGO (cn_ker l)
theorem aJE {σ ρ:Type} {step:σ->Option (σ ⊕ ρ)} (n:Nat) (I:List Int->σ->Prop) (R:ρ->Prop)
  (h:∀ p s,p.length=n->cn p=p->I p s->(∃ r,step s=some (.inr r)/\R r)\/∃ q s',aJC q p/\cn q=q/\q≠p/\step s=some (.inl s')/\I q s'):
  ∀ (p:List Int) (s:σ),p.length=n->cn p=p->I p s->∃ r,loop step s=some r/\R r:=by
 have key:∀ (m:Nat) (p:List Int) (s:σ),p.length=n->cn p=p->I p s->n<=m+(nL p n).length->∃ r,loop step s=some r/\R r:=by
  intro m
  induction m with
  |zero=>
   intro p s hl hc hI hm
   rcases h p s hl hc hI with ⟨r,h1,h2⟩|⟨q,s',hq,hqc,hne,h1,h2⟩
   ·exact ⟨r,aMK h1,h2⟩
   ·have h3:=(aEP hc hqc hq).resolve_left hne
    have h4:=aKU q n
    rw [hl] at h3
    omega
  |succ m ih=>
   intro p s hl hc hI hm
   rcases h p s hl hc hI with ⟨r,h1,h2⟩|⟨q,s',hq,hqc,hne,h1,h2⟩
   ·exact ⟨r,aMK h1,h2⟩
   ·have h3:=(aEP hc hqc hq).resolve_left hne
    rw [hl] at h3
    rw [loop_inl h1]
    exact ih q s' (hq.1.trans hl) hqc h2 (by omega)
 intro p s hl hc hI
 exact key n p s hl hc hI (by omega)
theorem aMR {κ:Type} [DecidableEq κ] [BEq κ] [LawfulBEq κ] {p:List Int} {keys:List κ} (hl:keys.length=p.length) (h:∀ x y:Nat,x < p.length->y < p.length->keys[x]?=keys[y]?->p[x]?=p[y]?):aJC (cn keys) p:=by
 refine ⟨by rw [aBJ,hl],fun x y hx hy e=>h x y hx hy ?_⟩
 exact ((cn_ker keys).2 x y (by rw [aBJ];omega) (by rw [aBJ];omega)).1 e
end Gv
namespace Gv
open Go
def AftT (t:aW) (S:List Int) (s:aV) (q:Int):Prop:=∃ e∈t.E,txt t e=s/\e.F∈S/\e.To=q
section
variable {t:aW}
theorem AftT.inn (hv:cP t) {S:List Int} {s:aV} {q:Int} (h:AftT t S s q):0<=q/\q < t.N:=by
 obtain ⟨e,he,_,_,rfl⟩:=h
 exact (aLO hv he).2.1
def Wk (t:aW) (y:Int) (s:aV) (w:Int):Prop:=if s=dN then Cl t (·∈[y]) w else Cl t (fun q=>∃ e∈t.E,txt t e=s/\Cl t (·∈[y]) e.F/\e.To=q) w
theorem Wk.inn (hv:cP t) {y:Int} (hy:jY t y) {s:aV} {w:Int} (h:Wk t y s w):jY t w:=by
 unfold jY at hy ⊢
 unfold Wk at h
 split at h
 ·exact h.inn hv fun q hq=>by simp at hq;omega
 ·exact h.inn hv fun q hq=>by
   obtain ⟨e,he,_,_,rfl⟩:=hq
   exact (aLO hv he).2.1
end
end Gv
namespace Gv
open Go
def StW (b:aW) (kind y:Int) (s:aV) (w:Int):Prop:=if kind=2 then Wk b y s w else ∃ f∈b.E,f.F=y/\txt b f=s/\f.To=w
section
variable {a b:aW} {kind:Int}
theorem StW.inn (hb:cP b) {y:Int} (hy:jY b y) {s:aV} {w:Int} (h:StW b kind y s w):jY b w:=by
 unfold StW at h
 split at h
 ·exact h.inn hb hy
 ·obtain ⟨f,hf,_,_,rfl⟩:=h
  exact (aGa hb hf).2.1
end
end Gv
namespace Gv
open Go
section
variable {a b:aW} {kind:Int}
end
end Gv
namespace Gv
open Go
section
variable {a b:aW} {kind:Int}
end
end Gv
namespace Gv
open Go
section
variable {a b:aW} {kind:Int}
instance inT_dec (t:aW) (k:Int):Decidable (jY t k):=by unfold jY;infer_instance
end
end Gv
namespace Gv
open Go
section
variable {a b:aW} {kind:Int}
end
end Gv
namespace Gv
open Go
def unA (a b:aW) (M:List aV):List Edge:=(a.E.map fun e=>(⟨e.F,pos (dN::M) (txt a e),e.To⟩:Edge))++b.E.map fun e=>(⟨e.F+a.N,pos (dN::M) (txt b e),e.To+a.N⟩:Edge)
structure Uni (a b:aW) (M:List aV) (Eo:List Edge):Prop where
 str:nT M
 mem:∀ s,s∈M<->s∈a.L++b.L/\s≠dN
 len:M.length<=24
 se:SE Eo
 ed:∀ x,x∈Eo<->x∈unA a b M
 elen:Eo.length<=600
section
variable {a b:aW}
theorem edge_eq {e f:Edge} (h1:e.F=f.F) (h2:e.B=f.B) (h3:e.To=f.To):e=f:=by
 cases e;cases f;simp_all
end
end Gv
namespace Gv
open Go
structure Big (u:aW):Prop where
 st:1<=u.N/\u.N<=100
 lab:u.L.length<=100
 ed:u.E.length<=1000
 inn:∀ e∈u.E,jY u e.F/\jY u e.To/\0<=e.B/\e.B < u.L.length
def fQ (u:aW) (p:List Int):Prop:=p.length=u.N.toNat/\∀ z∈p,0<=z/\z < u.N
def vl1 (u:aW) (p:List Int) (e:Edge):Int:=e.B * u.N+p.getD e.To.toNat 0
section
variable {u:aW} {p:List Int}
theorem jM (hp:fQ u p) {s:Int} (h:jY u s):ix p s=some (p.getD s.toNat 0)/\0<=p.getD s.toNat 0/\p.getD s.toNat 0 < u.N:=by
 unfold jY at h
 have hl:s.toNat < p.length:=by rw [hp.1];omega
 have e:p.getD s.toNat 0=p[s.toNat]:=by rw [List.getD_eq_getElem?_getD,List.getElem?_eq_getElem hl];rfl
 rw [e]
 exact ⟨aKp h.1 hl,hp.2 _ (List.getElem_mem hl)⟩
theorem mul_b {l m s n:Int} (h1:0<=l) (h2:l<=m) (h3:0<=s) (h4:s<=n):0<=l * s/\l * s<=m * n:=
 ⟨Int.mul_nonneg h1 h3,Int.mul_le_mul h2 h4 h3 (by omega)⟩
theorem vl1_wr (hu:Big u) (hp:fQ u p) {e:Edge} (he:e∈u.E):wr (wr (e.B * u.N)+p.getD e.To.toNat 0)=vl1 u p e:=by
 have h1:=hu.inn e he
 have h2:=(jM hp h1.2.1).2
 have h3:=hu.st
 have h4:=hu.lab
 have h5:=mul_b (l:=e.B) (m:=100) (s:=u.N) (n:=100) h1.2.2.1 (by omega) (by omega) (by omega)
 unfold vl1
 rw [dH (x:=e.B * u.N) (by omega) (by omega),dH (by omega) (by omega)]
theorem getD_get {l:List Int} {i j:Nat} (hi:i < l.length) (hj:j < l.length):l.getD i 0=l.getD j 0<->l[i]?=l[j]?:=by
 rw [List.getD_eq_getElem?_getD,List.getD_eq_getElem?_getD,List.getElem?_eq_getElem hi,List.getElem?_eq_getElem hj]
 simp
end
end Gv
namespace Gv
open Go
section
variable {a b:aW}
end
end Gv
namespace Gv
open Go
section
variable {κ β:Type} [DecidableEq β] [BEq β] [LawfulBEq β] {key:κ->β}
end
end Gv
namespace Gv
open Go
end Gv
namespace Gv
open Go
def Nm:List aV:=[dN,[97],[98],[99],[103,101,116,40,48,41],[103,101,116,40,49,41]]
structure Drn (c:Nat) (t:aW):Prop where
 ok:cP t
 nm:∀ s∈t.L,s∈Nm
 st:t.N<=10
 ed:t.E.length<=c
theorem Drn.mono {c d:Nat} {t:aW} (h:Drn c t) (hc:c<=d):Drn d t:=⟨h.ok,h.nm,h.st,Nat.le_trans h.ed hc⟩
theorem aLR (l:List Edge):SE (eW (yE bQ l)):=by
 have h1:(yE bQ l).Pairwise fun a b=>bQ b a=false:=by
  have:=List.pairwise_mergeSort (le:=fun a b=>!bQ b a) (fun a b c h1 h2=>?_) (fun a b=>?_) l
  ·refine this.imp fun {a b} h=>?_
   simpa using h
  ·simp only [Bool.not_eq_true'] at h1 h2 ⊢
   cases h3:bQ c a with
   |false=>rfl
   |true=>
    have:=aKT h3 h1
    rw [h2] at this;cases this
  ·cases h3:bQ b a with
   |false=>simp
   |true=>simp [aJt h3]
 exact aFY (R:=fun a b=>bQ b a=false) (S:=fun a b=>bQ a b=true) (fun h hne=>aKS h hne) (fun h h'=>aKT h h') h1
theorem aJF (l:List Edge):(eW (yE bQ l)).length<=l.length:=by
 have:=aFe (yE bQ l)
 unfold yE at this ⊢
 rwa [List.length_mergeSort] at this
theorem aGP {l:List Edge} {x:Edge}:x∈eW (yE bQ l)<->x∈l:=by
 rw [aFc];unfold yE;rw [List.mem_mergeSort]
end Gv
namespace Gv
open Go
section
variable {c:aV} {r9 r14:Int × Int × Int} {base st:Int}
end
end Gv
namespace Gv
open Go
theorem aMT (a b:List Int) (h:a.length < 4611686018427387904):aAG a b=some (decide (a=b)):=by
 unfold aAG
 by_cases hl:a.length=b.length
 ·rw [if_neg (by simp [hl])]
  have:=aCZ (step:=fun s=>aAw a b s) (a.zip b) (fun p=>decide (p.1=p.2)) (.inr false) (.inl ()) (fun k x hk hx=>?_) ?_
  ·rw [this,aA]
   by_cases he:a=b
   ·subst he
    have:((a.zip a).all fun p=>decide (p.1=p.2))=true:=by
     rw [List.all_eq_true]
     intro p hp
     obtain ⟨i,hi,rfl⟩:=List.mem_iff_getElem.1 hp
     rw [List.getElem_zip];simp
    rw [if_pos this,decide_eq_true rfl];rfl
   ·have:¬ ((a.zip b).all fun p=>decide (p.1=p.2))=true:=fun h'=>he (List.ext_getElem hl fun i h1 h2=>by
     rw [List.all_eq_true] at h'
     have hiz:i < (a.zip b).length:=by rw [List.length_zip];omega
     have:=h' (a.zip b)[i] (List.getElem_mem hiz)
     rw [List.getElem_zip] at this
     simpa using this)
    rw [if_neg this,decide_eq_false he]
  ·have hzl:(a.zip b).length=a.length:=by rw [List.length_zip];omega
   rw [hzl] at hk
   obtain ⟨hk',rfl⟩:=zX hx
   unfold aAw
   rw [if_pos (bI hk),bA hk,aA,bA (by omega),aA,List.getElem_zip]
   by_cases e:a[k]=b[k]'(by omega)
   ·rw [if_neg (by simp [e]),if_pos (by simp [e]),bD hk h]
   ·rw [if_pos (by simpa using e),if_neg (by simpa using e)]
  ·have hzl:(a.zip b).length=a.length:=by rw [List.length_zip];omega
   rw [hzl]
   unfold aAw
   rw [if_neg (by simp)]
 ·rw [if_pos (by simp;omega),decide_eq_false (fun h=>hl (by rw [h]))]
section
variable {u:aW} {p:List Int}
end
def kz (p:List Int) (rows:List (List Int)):List (List Int):=List.zipWith (fun a r=>a::r) p rows
section
variable {p:List Int} {rows:List (List Int)}
theorem aHw (h:rows.length=p.length):(kz p rows).length=p.length:=by unfold kz;simp [h]
theorem aLS (h:rows.length=p.length) {k:Nat} (hk:k < p.length):(kz p rows)[k]'(by rw [aHw h];exact hk)=p[k]::rows[k]'(by omega):=by unfold kz;simp
end
section
variable {u:aW} {p:List Int}
theorem part0 (hu:Big u):mkz u.N (0:Int)=some (List.replicate u.N.toNat 0)/\fQ u (List.replicate u.N.toNat 0):=by
 have h3:=hu.st
 refine ⟨?_,by simp,fun z hz=>by rw [List.mem_replicate] at hz;omega⟩
 unfold mkz
 rw [if_pos ⟨by omega,by unfold iQ;omega⟩]
end
end Gv
namespace Gv
open Go
section
variable {u:aW} {p:List Int}
def cnt (l:List Bool):Nat:=l.count true
theorem cnt_le (l:List Bool):cnt l<=l.length:=List.count_le_length
theorem cnt_off {l:List Bool} {k:Nat} (hk:k < l.length) (h:l[k]=true):cnt (l.set k false) < cnt l:=by
 unfold cnt
 rw [List.count_set hk,h]
 have:0 < l.count true:=List.count_pos_iff.2 (h ▸ List.getElem_mem hk)
 simp;omega
theorem cnt_on {l:List Bool} {k:Nat} (hk:k < l.length) (h:l[k]=false):cnt l < cnt (l.set k true):=by
 unfold cnt
 rw [List.count_set hk,h]
 simp
theorem ixB {l:List Bool} {s:Int} (hl:l.length=u.N.toNat) (hs:jY u s):∃ hk:s.toNat < l.length,ix l s=some l[s.toNat]:=by
 unfold jY at hs
 exact ⟨by omega,aKp hs.1 (by omega)⟩
end
theorem aJG {t:aW} (h:cP t):Big t:=by
 have h1:=h.1
 have h2:=h.2.2.1.2.1
 have h3:=h.2.2.2.1
 exact ⟨by omega,by omega,by omega,fun e he=>aGa h he⟩
section
variable {t:aW} {c:Nat} {p:List Int}
end
end Gv
set_option linter.unusedSimpArgs false
set_option linter.unusedVariables false
namespace Gv
open Go
section
variable {t:aW} {c0:Nat} (cs:aV)
def cap (t:aW) (k:Nat):Nat:=(t.E.filter fun e=>decide (e.F < (k:Int))).length+60 * (k - t.N.toNat)
end
end Gv
