/- Greatest relations between the states of two systems, by rounds. No program in sight. -/
import Derived.Test.YtkgakibhmcbflaaGreatDoorJP80
import Derived.Test.YtkgakibhmcbflaaGreatDoorJP62
import Derived.Test.YtkgakibhmcbflaaGreatDoorJP20
set_option linter.all false
namespace Gv
open Go
def rN (B:Int→Int→Bool) (F:(Int→Int→Bool)→Int→Int→Bool):Nat→Int→Int→Bool
 |0=>B
 |n+1=>fun x y=>rN B F n x y&&F (rN B F n) x y
def prs2 (a b:cD):List (Int × Int):=(List.range a.N.toNat).flatMap fun x:Nat=>(List.range b.N.toNat).map fun y:Nat=>((x:Int),(y:Int))
theorem prs2_mem {a b:cD} {p:Int × Int}:p∈prs2 a b↔iG a p.1∧iG b p.2:=by
 obtain ⟨x0,y0⟩:=p
 unfold prs2 iG
 simp only [List.mem_flatMap,List.mem_map,List.mem_range,Prod.mk.injEq]
 constructor
 ·rintro ⟨x,hx,y,hy,rfl,rfl⟩
  omega
 ·rintro ⟨⟨h1,h2⟩,h3,h4⟩
  exact ⟨x0.toNat,by omega,y0.toNat,by omega,by omega,by omega⟩
theorem aMm (a b:cD):(prs2 a b).Nodup:=by
 unfold prs2 List.Nodup
 rw [List.pairwise_flatMap]
 refine ⟨fun x _=>?_,?_⟩
 ·rw [List.pairwise_map]
  refine List.nodup_range.imp fun {a b} hab e=>?_
  simp only [Prod.mk.injEq] at e
  exact hab (by omega)
 ·refine List.nodup_range.imp fun {a b} hab x hx y hy e=>?_
  obtain ⟨i,_,rfl⟩:=List.mem_map.1 hx
  obtain ⟨j,_,rfl⟩:=List.mem_map.1 hy
  simp only [Prod.mk.injEq] at e
  exact hab (by omega)
section
variable {a b:cD} {B:Int→Int→Bool} {F:(Int→Int→Bool)→Int→Int→Bool}
theorem rN_le {n:Nat} {x y:Int} (h:rN B F (n+1) x y=true):rN B F n x y=true:=by
 unfold rN at h
 rw [Bool.and_eq_true] at h
 exact h.1
theorem aJT:∀ (n:Nat) {x y:Int},rN B F n x y=true→B x y=true
 |0,_,_,h=>h
 |n+1,_,_,h=>aJT n (rN_le h)
structure MonoT (a b:cD) (F:(Int→Int→Bool)→Int→Int→Bool):Prop where
 mono:∀ S T:Int→Int→Bool,(∀ x y,iG a x→iG b y→S x y=true→T x y=true)→∀ x y,iG a x→iG b y→F S x y=true→F T x y=true
theorem aJU (hF:MonoT a b F) {R:Int→Int→Bool} (h0:∀ x y,iG a x→iG b y→R x y=true→B x y=true) (h1:∀ x y,iG a x→iG b y→R x y=true→F R x y=true):
  ∀ (n:Nat) {x y:Int},iG a x→iG b y→R x y=true→rN B F n x y=true
 |0,x,y,hx,hy,h=>h0 x y hx hy h
 |n+1,x,y,hx,hy,h=>by
  unfold rN
  rw [Bool.and_eq_true]
  exact ⟨aJU hF h0 h1 n hx hy h,hF.mono R _ (fun x y hx hy h=>aJU hF h0 h1 n hx hy h) x y hx hy (h1 x y hx hy h)⟩
def rL (a b:cD) (B:Int→Int→Bool) (F:(Int→Int→Bool)→Int→Int→Bool) (n:Nat):List (Int × Int):=(prs2 a b).filter fun p=>rN B F n p.1 p.2
def rSt (a b:cD) (B:Int→Int→Bool) (F:(Int→Int→Bool)→Int→Int→Bool) (n:Nat):Prop:=∀ x y:Int,iG a x→iG b y→rN B F (n+1) x y=rN B F n x y
theorem rL_mem {n:Nat} {p:Int × Int}:p∈rL a b B F n↔(iG a p.1∧iG b p.2)∧rN B F n p.1 p.2=true:=by
 unfold rL
 rw [List.mem_filter,prs2_mem]
theorem rL_nodup (n:Nat):(rL a b B F n).Nodup:=(aMm a b).filter _
theorem aJV (n:Nat):rL a b B F (n+1)=(rL a b B F n).filter fun p=>rN B F (n+1) p.1 p.2:=by
 unfold rL
 rw [List.filter_filter]
 refine List.filter_congr fun p _=>?_
 cases h:rN B F (n+1) p.1 p.2 with
 |false=>rfl
 |true=>rw [rN_le h];rfl
theorem rL_le (n:Nat):(rL a b B F (n+1)).length≤(rL a b B F n).length:=by rw [aJV];exact List.length_filter_le _ _
theorem aGO (n:Nat):rSt a b B F n↔(rL a b B F (n+1)).length=(rL a b B F n).length:=by
 rw [aJV,List.length_filter_eq_length_iff]
 constructor
 ·intro h p hp
  have:=rL_mem.1 hp
  rw [h _ _ this.1.1 this.1.2];exact this.2
 ·intro h x y hx hy
  cases h1:rN B F n x y with
  |true=>exact h (x,y) (rL_mem.2 ⟨⟨hx,hy⟩,h1⟩)
  |false=>
   cases h2:rN B F (n+1) x y with
   |false=>rfl
   |true=>rw [rN_le h2] at h1;cases h1
theorem aJW (a b:cD) (B:Int→Int→Bool) (F:(Int→Int→Bool)→Int→Int→Bool):∃ n,rSt a b B F n∧∀ m,m < n→¬ rSt a b B F m:=by
 have hex:∃ n,rSt a b B F n:=by
  refine Classical.byContradiction fun h=>?_
  have h':∀ n,¬ rSt a b B F n:=fun n hn=>h ⟨n,hn⟩
  have key:∀ n,(rL a b B F n).length+n≤(rL a b B F 0).length:=by
   intro n
   induction n with
   |zero=>simp
   |succ n ih=>
    have h1:=rL_le (a:=a) (b:=b) (B:=B) (F:=F) n
    have h2:=h' n
    rw [aGO] at h2
    omega
  have:=key ((rL a b B F 0).length+1)
  omega
 obtain ⟨n,hn⟩:=hex
 induction n using Nat.strongRecOn with
 |ind n ih=>
  by_cases h:∃ m,m < n∧rSt a b B F m
  ·obtain ⟨m,hm,hs⟩:=h
   exact ih m hm hs
  ·exact ⟨n,hn,fun m hm hs=>h ⟨m,hm,hs⟩⟩
noncomputable def rF (a b:cD) (B:Int→Int→Bool) (F:(Int→Int→Bool)→Int→Int→Bool):Nat:=Classical.choose (aJW a b B F)
noncomputable def rG (a b:cD) (B:Int→Int→Bool) (F:(Int→Int→Bool)→Int→Int→Bool) (x y:Int):Bool:=rN B F (rF a b B F) x y
theorem rF_stab:rSt a b B F (rF a b B F):=(Classical.choose_spec (aJW a b B F)).1
theorem rF_min {n:Nat} (h:n < rF a b B F):¬ rSt a b B F n:=(Classical.choose_spec (aJW a b B F)).2 n h
theorem rG_post {x y:Int} (hx:iG a x) (hy:iG b y) (h:rG a b B F x y=true):B x y=true∧F (rG a b B F) x y=true:=by
 refine ⟨aJT _ h,?_⟩
 have h1:=rF_stab (a:=a) (b:=b) (B:=B) (F:=F) x y hx hy
 have h2:rN B F (rF a b B F+1) x y=true:=by rw [h1];exact h
 unfold rN at h2
 rw [Bool.and_eq_true] at h2
 exact h2.2
theorem rG_max (hF:MonoT a b F) {R:Int→Int→Bool} (h0:∀ x y,iG a x→iG b y→R x y=true→B x y=true) (h1:∀ x y,iG a x→iG b y→R x y=true→F R x y=true) {x y:Int} (hx:iG a x) (hy:iG b y) (h:R x y=true):rG a b B F x y=true:=
 aJU hF h0 h1 _ hx hy h
theorem loop_rG {σ ρ:Type} {step:σ→Option (σ ⊕ ρ)} (I:Nat→σ→Prop) (R:ρ→Prop)
  (h1:∀ n s,n < rF a b B F→I n s→∃ s',step s=some (.inl s')∧I (n+1) s') (h2:∀ s,I (rF a b B F) s→∃ r,step s=some (.inr r)∧R r) {s:σ} (h0:I 0 s):∃ r,loop step s=some r∧R r:=by
 have key:∀ j n s,n+j=rF a b B F→I n s→∃ r,loop step s=some r∧R r:=by
  intro j
  induction j with
  |zero=>
   intro n s e hI
   obtain rfl:n=rF a b B F:=by omega
   obtain ⟨r,h3,h4⟩:=h2 s hI
   exact ⟨r,by rw [cM,h3],h4⟩
  |succ j ih=>
   intro n s e hI
   obtain ⟨s',h3,h4⟩:=h1 n s (by omega) hI
   rw [cM,h3]
   exact ih (n+1) s' (by omega) h4
 exact key _ 0 s (Nat.zero_add _) h0
end
end Gv
namespace Gv
open Go
def aEG (q p:List Int):Prop:=q.length=p.length∧∀ x y:Nat,x < p.length→y < p.length→q[x]?=q[y]?→p[x]?=p[y]?
theorem aJX (p:List Int) (n:Nat):(oU p n).Nodup:=List.Nodup.sublist List.filter_sublist List.nodup_range
theorem aJa (p:List Int) (n:Nat):(oU p n).length≤n:=by
 have:=List.length_filter_le (fun i=>decide (∀ k,k < i→p[k]?≠p[i]?)) (List.range n)
 rw [List.length_range] at this
 exact this
theorem aHS {q:List Int} {n:Nat}:∀ x,x < n→∃ z,z≤x∧z∈oU q n∧q[z]?=q[x]?:=by
 intro x
 induction x using Nat.strongRecOn with
 |ind x ih=>
  intro hx
  by_cases h:∀ k,k < x→q[k]?≠q[x]?
  ·exact ⟨x,Nat.le_refl _,by unfold oU;rw [List.mem_filter,List.mem_range,decide_eq_true_iff];exact ⟨hx,h⟩,rfl⟩
  ·obtain ⟨k,hk⟩:=Classical.not_forall.1 h
   obtain ⟨hk1,hk2⟩:=Classical.not_imp.1 hk
   obtain ⟨z,z1,z2,z3⟩:=ih k hk1 (by omega)
   exact ⟨z,by omega,z2,z3.trans (Classical.not_not.1 hk2)⟩
theorem aDt {p q:List Int} (hp:cn p=p) (hq:cn q=q) (hs:aEG q p):q=p∨(oU p p.length).length < (oU q p.length).length:=by
 by_cases h:∀ x y:Nat,x < p.length→y < p.length→p[x]?=p[y]?→q[x]?=q[y]?
 ·left
  rw [←hp,←hq]
  refine aHQ ⟨hs.1,fun x y hx hy=>?_⟩
  rw [hs.1] at hx hy
  exact ⟨hs.2 x y hx hy,h x y hx hy⟩
 ·right
  have hsub:∀ i,i∈oU p p.length→i∈oU q p.length:=fun i hi=>by
   unfold oU at hi ⊢
   rw [List.mem_filter,List.mem_range,decide_eq_true_iff] at hi ⊢
   exact ⟨hi.1,fun k hk e=>hi.2 k hk (hs.2 k i (by omega) hi.1 e)⟩
  have hex:∃ z,z∈oU q p.length∧z∉oU p p.length:=by
   apply Classical.byContradiction
   intro hno
   refine h fun x y hx hy e=>?_
   obtain ⟨a,a1,a2,a3⟩:=aHS (q:=q) x hx
   obtain ⟨b,b1,b2,b3⟩:=aHS (q:=q) y hy
   have ha:a∈oU p p.length:=Classical.byContradiction fun h=>hno ⟨a,a2,h⟩
   have hb:b∈oU p p.length:=Classical.byContradiction fun h=>hno ⟨b,b2,h⟩
   have hab:p[a]?=p[b]?:=((hs.2 a x (by omega) hx a3).trans e).trans (hs.2 b y (by omega) hy b3).symm
   unfold oU at ha hb
   rw [List.mem_filter,decide_eq_true_iff] at ha hb
   have:a=b:=by
    rcases Nat.lt_trichotomy a b with h|h|h
    ·exact absurd hab (hb.2 a h)
    ·exact h
    ·exact absurd hab.symm (ha.2 b h)
   subst this
   exact a3.symm.trans b3
  obtain ⟨z,z1,z2⟩:=hex
  have:=List.Nodup.length_le_of_subset (l₁:=z::oU p p.length) (l₂:=oU q p.length) (List.nodup_cons.2 ⟨z2,aJX _ _⟩) (fun i hi=>by
   rcases List.mem_cons.1 hi with rfl|hi
   ·exact z1
   ·exact hsub i hi)
  rw [List.length_cons] at this
  omega
theorem aHT (n:Nat):cn (List.replicate n (0:Int))=List.replicate n 0:=by
 refine List.ext_getElem? fun i=>?_
 by_cases hi:i < n
 ·rw [aGe (by simpa using hi),List.getElem_replicate,List.getElem?_replicate,if_pos hi]
  have hdd:∀ m,dd (List.replicate (m+1) (0:Int))=[0]:=by
   intro m
   induction m with
   |zero=>rfl
   |succ m ih=>rw [List.replicate_succ',aDJ,ih];rfl
  obtain ⟨m,rfl⟩:∃ m,n=m+1:=⟨n - 1,by omega⟩
  rw [hdd];rfl
 ·rw [List.getElem?_eq_none (by rw [yV,List.length_replicate];omega),List.getElem?_eq_none (by rw [List.length_replicate];omega)]
theorem cn_cn {κ:Type} [DecidableEq κ] [BEq κ] [LawfulBEq κ] (l:List κ):cn (cn l)=cn l:=aHQ (cn_ker l)
theorem aEH {σ ρ:Type} {step:σ→Option (σ ⊕ ρ)} (n:Nat) (I:List Int→σ→Prop) (R:ρ→Prop)
  (h:∀ p s,p.length=n→cn p=p→I p s→(∃ r,step s=some (.inr r)∧R r)∨∃ q s',aEG q p∧cn q=q∧q≠p∧step s=some (.inl s')∧I q s'):
  ∀ (p:List Int) (s:σ),p.length=n→cn p=p→I p s→∃ r,loop step s=some r∧R r:=by
 have key:∀ (m:Nat) (p:List Int) (s:σ),p.length=n→cn p=p→I p s→n≤m+(oU p n).length→∃ r,loop step s=some r∧R r:=by
  intro m
  induction m with
  |zero=>
   intro p s hl hc hI hm
   rcases h p s hl hc hI with ⟨r,h1,h2⟩|⟨q,s',hq,hqc,hne,h1,h2⟩
   ·exact ⟨r,aFx h1,h2⟩
   ·have h3:=(aDt hc hqc hq).resolve_left hne
    have h4:=aJa q n
    rw [hl] at h3
    omega
  |succ m ih=>
   intro p s hl hc hI hm
   rcases h p s hl hc hI with ⟨r,h1,h2⟩|⟨q,s',hq,hqc,hne,h1,h2⟩
   ·exact ⟨r,aFx h1,h2⟩
   ·have h3:=(aDt hc hqc hq).resolve_left hne
    rw [hl] at h3
    rw [aDs h1]
    exact ih q s' (hq.1.trans hl) hqc h2 (by omega)
 intro p s hl hc hI
 exact key n p s hl hc hI (by omega)
theorem aGo {κ:Type} [DecidableEq κ] [BEq κ] [LawfulBEq κ] {p:List Int} {keys:List κ} (hl:keys.length=p.length) (h:∀ x y:Nat,x < p.length→y < p.length→keys[x]?=keys[y]?→p[x]?=p[y]?):aEG (cn keys) p:=by
 refine ⟨by rw [yV,hl],fun x y hx hy e=>h x y hx hy ?_⟩
 exact ((cn_ker keys).2 x y (by rw [yV];omega) (by rw [yV];omega)).1 e
end Gv
namespace Gv
open Go
def AftT (t:cD) (S:List Int) (s:bI) (q:Int):Prop:=∃ e∈t.E,vE t e=s∧e.F∈S∧e.To=q
section
variable {t:cD}
theorem AftT.inn (hv:cF t) {S:List Int} {s:bI} {q:Int} (h:AftT t S s q):0≤q∧q < t.N:=by
 obtain ⟨e,he,_,_,rfl⟩:=h
 exact (aJQ hv he).2.1
theorem aHU (hv:cF t) {S:List Int} (hS:S.length < 1000000000) (s:bI):∃ R,kX t S s=some R∧aAB R (AftT t S s):=by
 have h300:=hv.2.2.2.1
 have hl:((t.E.filter fun e=>vE t e == s&&S.any fun x=>e.F == x).map (·.To)).length≤300:=by
  rw [List.length_map];exact Nat.le_trans (List.length_filter_le _ _) h300
 refine ⟨iQ (rO iLt ((t.E.filter fun e=>vE t e == s&&S.any fun x=>e.F == x).map (·.To))),?_,aGd.iff fun q=>?_⟩
 ·unfold kX
  rw [aBK (step:=fun x:List Int × Int=>jI t S s x.1 x.2) t.E (fun e=>vE t e == s&&S.any fun x=>e.F == x) (·.To) id (fun j out x hj ho hx=>?_) (fun out=>by simp only [jI,eJ];rfl),aB]
  ·unfold nR
   simp only [id]
   rw [aAV (by omega),aB,aDr _ (by unfold rO;rw [List.length_mergeSort];omega),aB]
  ·obtain ⟨hj',rfl⟩:=tK hx
   simp only [jI,dE hj,if_pos,hx,aB,aBt (sH hv (List.getElem_mem hj')),aCz S _ (show S.length < 4611686018427387904 by omega),nT,nS,cO hj (show t.E.length < 4611686018427387904 by omega)]
   rw [dX (by simp [iX];omega),aB]
   cases vE t t.E[j] == s<;>cases (S.any fun x=>t.E[j].F == x)<;>rfl
 ·rw [List.mem_map]
  constructor
  ·rintro ⟨e,he,rfl⟩
   rw [List.mem_filter,Bool.and_eq_true,List.any_eq_true] at he
   obtain ⟨h1,h2,x,hx,h3⟩:=he
   rw [beq_iff_eq] at h2 h3
   exact ⟨e,h1,h2,h3 ▸ hx,rfl⟩
  ·rintro ⟨e,h1,h2,h3,rfl⟩
   refine ⟨e,?_,rfl⟩
   rw [List.mem_filter,Bool.and_eq_true,List.any_eq_true,beq_iff_eq]
   exact ⟨h1,h2,_,h3,by simp⟩
theorem aLb (hv:cF t) {S:List Int} (hS:S.length < 1000000000) (s:bI):∃ R,vA t S s=some R∧aAB R (Cl t (AftT t S s)):=by
 obtain ⟨R1,f1,f2⟩:=aHU hv hS s
 have hn:R1.Nodup:=f2.ord.imp fun h=>by omega
 obtain ⟨R,g1,g2⟩:=aFw hv hn fun q hq=>((f2.mem q).1 hq).inn hv
 exact ⟨R,by unfold vA;rw [f1,aB,g1];rfl,g2.iff (Cl.iff f2.mem)⟩
theorem txt_tau (hv:cF t) {e:Edge} (he:e∈t.E):vE t e=dH↔e.B=0:=by
 obtain ⟨h0,h1⟩:=tau_at hv
 have:=aCq hv he (s:=dH) (h1 ▸ List.getElem_mem h0)
 have hp:pos t.L dH=((0:Nat):Int):=by rw [←h1];exact aFv hv.2.2.1 h0
 rw [hp] at this
 rw [Bool.eq_iff_iff,beq_iff_eq,beq_iff_eq] at this
 simpa using this
def Wk (t:cD) (y:Int) (s:bI) (w:Int):Prop:=if s=dH then Cl t (·∈[y]) w else Cl t (fun q=>∃ e∈t.E,vE t e=s∧Cl t (·∈[y]) e.F∧e.To=q) w
theorem Wk.inn (hv:cF t) {y:Int} (hy:iG t y) {s:bI} {w:Int} (h:Wk t y s w):iG t w:=by
 unfold iG at hy ⊢
 unfold Wk at h
 split at h
 ·exact h.inn hv fun q hq=>by simp at hq;omega
 ·exact h.inn hv fun q hq=>by
   obtain ⟨e,he,_,_,rfl⟩:=hq
   exact (aJQ hv he).2.1
theorem wk_edge (hv:cF t) {e:Edge} (he:e∈t.E):Wk t e.F (vE t e) e.To:=by
 unfold Wk
 split
 ·rename_i h
  exact .step he ((txt_tau hv he).1 h) (.base (by simp))
 ·exact .base ⟨e,he,rfl,.base (by simp),rfl⟩
theorem aMo (hv:cF t) {y:Int} (hy:iG t y) (s:bI):∃ R,tZ t y s=some R∧aAB R (Wk t y s):=by
 have h40:=hv.1
 unfold iG at hy
 obtain ⟨R1,g1,g2⟩:=aFw hv (xs:=[y]) (by simp) fun q hq=>by simp at hq;omega
 have hin:∀ q,Cl t (·∈[y]) q→0≤q∧q < ((40:Nat):Int):=fun q hq=>by
  have:=hq.inn hv fun q hq=>by simp at hq;omega
  omega
 have hl:=g2.len (n:=40) hin
 unfold tZ
 rw [g1,aB]
 by_cases hs:s=dH
 ·subst hs
  exact ⟨R1,by rw [if_pos (by decide)],g2.iff fun q=>by unfold Wk;rw [if_pos rfl]⟩
 ·obtain ⟨R,f1,f2⟩:=aLb hv (S:=R1) (by omega) s
  refine ⟨R,?_,f2.iff fun q=>?_⟩
  ·have hb:(s == ([116,97,117]:bI))=false:=beq_eq_false_iff_ne.2 hs
   rw [hb,if_neg (by simp)]
   first|exact f1|(rw [f1];rfl)
  ·unfold Wk
   rw [if_neg hs]
   refine Cl.iff (fun q=>?_) q
   unfold AftT
   constructor
   ·rintro ⟨e,a,b,c,d⟩;exact ⟨e,a,b,(g2.mem _).1 c,d⟩
   ·rintro ⟨e,a,b,c,d⟩;exact ⟨e,a,b,(g2.mem _).2 c,d⟩
def rdy (t:cD) (k:Int):List bI:=iQ (rO kR ((t.E.filter fun e=>e.F == k).map (vE t)))
theorem rdy_mem {k:Int} {s:bI}:s∈rdy t k↔∃ e∈t.E,e.F=k∧vE t e=s:=by
 unfold rdy
 rw [yR];unfold rO;rw [List.mem_mergeSort,List.mem_map]
 constructor
 ·rintro ⟨e,he,rfl⟩
  rw [List.mem_filter,beq_iff_eq] at he
  exact ⟨e,he.1,he.2,rfl⟩
 ·rintro ⟨e,h1,h2,rfl⟩
  exact ⟨e,by rw [List.mem_filter,beq_iff_eq];exact ⟨h1,h2⟩,rfl⟩
theorem labLt_asy {a b:bI} (h:kR a b=true):kR b a=false:=by
 cases h2:kR b a with
 |false=>rfl
 |true=>have:=aDo h h2;rw [aDG] at this;cases this
theorem aLc {a b:bI} (h:kR b a=false) (hne:a≠b):kR a b=true:=by
 rcases aDH a b with g|g|g
 ·exact g
 ·exact absurd g hne
 ·rw [h] at g;cases g
theorem aLd {a b c:bI} (h:kR a b=true) (h':kR c b=false):kR a c=true:=by
 by_cases e:b=c
 ·subst e;exact h
 ·exact aDo h (aLc h' e)
theorem aLe (k:Int):(rdy t k).Pairwise fun a b=>kR a b=true:=by
 have h1:(rO kR ((t.E.filter fun e=>e.F == k).map (vE t))).Pairwise fun a b=>kR b a=false:=by
  have:=List.pairwise_mergeSort (le:=fun a b=>!kR b a) (fun a b c h1 h2=>?_) (fun a b=>?_) ((t.E.filter fun e=>e.F == k).map (vE t))
  ·refine this.imp fun {a b} h=>?_
   simpa using h
  ·simp only [Bool.not_eq_true'] at h1 h2 ⊢
   cases h3:kR c a with
   |false=>rfl
   |true=>
    have:=aLd h3 h1
    rw [h2] at this;cases this
  ·cases h3:kR b a with
   |false=>simp
   |true=>simp [labLt_asy h3]
 exact yS (R:=fun a b=>kR b a=false) (S:=fun a b=>kR a b=true) (fun h hne=>aLc h hne) (fun h h'=>aLd h h') h1
theorem rdy_eq {a b:cD} {x y:Int} (h:∀ s,(∃ e∈a.E,e.F=x∧vE a e=s)↔∃ e∈b.E,e.F=y∧vE b e=s):rdy a x=rdy b y:=
 wF (R:=fun a b=>kR a b=true) (fun a h=>by rw [aDG] at h;cases h) (fun h1 h2=>aDo h1 h2) (aLe x) (aLe y) fun s=>by rw [rdy_mem,rdy_mem];exact h s
theorem rdy_len (k:Int):(rdy t k).length≤t.E.length:=by
 unfold rdy
 have h1:=aCr (rO kR ((t.E.filter fun e=>e.F == k).map (vE t)))
 unfold rO at h1 ⊢
 rw [List.length_mergeSort,List.length_map] at h1
 exact Nat.le_trans h1 (List.length_filter_le _ _)
end
end Gv
namespace Gv
open Go
def StW (b:cD) (kind y:Int) (s:bI) (w:Int):Prop:=if kind=2 then Wk b y s w else ∃ f∈b.E,f.F=y∧vE b f=s∧f.To=w
def AnP (a b:cD) (kind:Int) (S:Int→Int→Bool) (x y:Int):Prop:=∀ e∈a.E,e.F=x→∃ w,StW b kind y (vE a e) w∧S e.To w=true
def bsR (a b:cD) (kind x y:Int):Bool:=!(kind == 1)||decide (rdy a x=rdy b y)
noncomputable def anR (a b:cD) (kind:Int) (S:Int→Int→Bool) (x y:Int):Bool:=@decide (AnP a b kind S x y) (Classical.propDecidable _)
section
variable {a b:cD} {kind:Int}
theorem aDL {S:Int→Int→Bool} {x y:Int}:anR a b kind S x y=true↔AnP a b kind S x y:=by unfold anR;exact @decide_eq_true_iff _ (Classical.propDecidable _)
theorem StW.inn (hb:cF b) {y:Int} (hy:iG b y) {s:bI} {w:Int} (h:StW b kind y s w):iG b w:=by
 unfold StW at h
 split at h
 ·exact h.inn hb hy
 ·obtain ⟨f,hf,_,_,rfl⟩:=h
  exact (nM hb hf).2.1
theorem aHV (ha:cF a) (hb:cF b):MonoT a b (anR a b kind):=⟨fun S T h x y hx hy hS=>by
 rw [aDL] at hS ⊢
 intro e he hex
 obtain ⟨w,h1,h2⟩:=hS e he hex
 exact ⟨w,h1,h _ _ (nM ha he).2.1 (h1.inn hb hy) h2⟩⟩
noncomputable def smG (a b:cD) (kind:Int) (x y:Int):Bool:=rG a b (bsR a b kind) (anR a b kind) x y
theorem aJY {x y:Int} (hx:iG a x) (hy:iG b y) (h:smG a b kind x y=true):bsR a b kind x y=true∧AnP a b kind (smG a b kind) x y:=by
 have:=rG_post hx hy h
 exact ⟨this.1,aDL.1 this.2⟩
theorem aHW (ha:cF a) (hb:cF b) {R:Int→Int→Bool} (h:∀ x y,iG a x→iG b y→R x y=true→bsR a b kind x y=true∧AnP a b kind R x y) {x y:Int} (hx:iG a x) (hy:iG b y) (hR:R x y=true):smG a b kind x y=true:=
 rG_max (aHV ha hb) (fun x y hx hy hR=>(h x y hx hy hR).1) (fun x y hx hy hR=>aDL.2 (h x y hx hy hR).2) hx hy hR
theorem sm_refl (ha:cF a) {x:Int} (hx:iG a x):smG a a kind x x=true:=by
 refine aHW ha ha (R:=fun x y=>decide (x=y)) (fun x y hx hy h=>?_) hx hx (by simp)
 rw [decide_eq_true_iff] at h
 subst h
 refine ⟨by unfold bsR;simp,fun e he hex=>⟨e.To,?_,by simp⟩⟩
 unfold StW
 split
 ·subst hex;exact wk_edge ha he
 ·exact ⟨e,he,hex,rfl,rfl⟩
theorem sm_ready (ha:cF a) (hb:cF b) {x y:Int} (hx:iG a x) (hy:iG b y) (h:smG a b 1 x y=true):smG a b 0 x y=true:=by
 refine aHW ha hb (R:=smG a b 1) (fun x y hx hy h=>⟨by unfold bsR;simp,fun e he hex=>?_⟩) hx hy h
 obtain ⟨w,h1,h2⟩:=(aJY hx hy h).2 e he hex
 refine ⟨w,?_,h2⟩
 unfold StW at h1 ⊢
 rw [if_neg (by decide)] at h1 ⊢
 exact h1
theorem sm_plain (ha:cF a) (hb:cF b) {x y:Int} (hx:iG a x) (hy:iG b y) (h:smG a b 0 x y=true):smG a b 2 x y=true:=by
 refine aHW ha hb (R:=smG a b 0) (fun x y hx hy h=>⟨by unfold bsR;simp,fun e he hex=>?_⟩) hx hy h
 obtain ⟨w,h1,h2⟩:=(aJY hx hy h).2 e he hex
 refine ⟨w,?_,h2⟩
 unfold StW at h1 ⊢
 rw [if_neg (by decide)] at h1
 rw [if_pos rfl]
 obtain ⟨f,hf,hy',ht,rfl⟩:=h1
 have:=wk_edge hb hf
 rwa [hy',ht] at this
theorem sm_bisim (ha:cF a) (hb:cF b) {R:Int→Int→Bool}
  (h1:∀ x y,iG a x→iG b y→R x y=true→∀ e∈a.E,e.F=x→∃ f∈b.E,f.F=y∧vE b f=vE a e∧R e.To f.To=true)
  (h2:∀ x y,iG a x→iG b y→R x y=true→∀ f∈b.E,f.F=y→∃ e∈a.E,e.F=x∧vE a e=vE b f) {x y:Int} (hx:iG a x) (hy:iG b y) (hR:R x y=true):smG a b 1 x y=true:=by
 refine aHW ha hb (R:=R) (fun x y hx hy h=>⟨?_,fun e he hex=>?_⟩) hx hy hR
 ·unfold bsR
  have:rdy a x=rdy b y:=rdy_eq fun s=>by
   constructor
   ·rintro ⟨e,he,hex,rfl⟩
    obtain ⟨f,hf,hfy,ht,_⟩:=h1 x y hx hy h e he hex
    exact ⟨f,hf,hfy,ht⟩
   ·rintro ⟨f,hf,hfy,rfl⟩
    exact h2 x y hx hy h f hf hfy
  simp [this]
 ·obtain ⟨f,hf,hfy,ht,hr⟩:=h1 x y hx hy h e he hex
  refine ⟨f.To,?_,hr⟩
  unfold StW
  rw [if_neg (by decide)]
  exact ⟨f,hf,hfy,ht,rfl⟩
end
end Gv
namespace Gv
open Go
theorem aJb (a b:List bI) (h:a.length < 4611686018427387904):dV a b=some (decide (a=b)):=by
 unfold dV
 by_cases hl:a.length=b.length
 ·rw [if_neg (by simp [hl])]
  have:=aCo (step:=fun s=>eD a b s) (a.zip b) (fun p=>decide (p.1=p.2)) (.inr false) (.inl ()) (fun k x hk hx=>?_) ?_
  ·rw [this,aB]
   by_cases he:a=b
   ·subst he
    have:((a.zip a).all fun p=>decide (p.1=p.2))=true:=by
     rw [List.all_eq_true]
     intro p hp
     obtain ⟨i,hi,rfl⟩:=List.mem_iff_getElem.1 hp
     rw [List.getElem_zip];simp
    rw [if_pos this,decide_eq_true rfl];rfl
   ·have:¬ ((a.zip b).all fun p=>decide (p.1=p.2))=true:=fun h'=>he (List.ext_getElem hl fun i h1 h2=>by
     rw [List.all_eq_true] at h'
     have hiz:i < (a.zip b).length:=by rw [List.length_zip];omega
     have:=h' (a.zip b)[i] (List.getElem_mem hiz)
     rw [List.getElem_zip] at this
     simpa using this)
    rw [if_neg this,decide_eq_false he]
  ·have hzl:(a.zip b).length=a.length:=by rw [List.length_zip];omega
   rw [hzl] at hk
   obtain ⟨hk',rfl⟩:=tK hx
   unfold eD
   rw [if_pos (dE hk),cV hk,aB,cV (by omega),aB,List.getElem_zip]
   by_cases e:a[k]=b[k]'(by omega)
   ·rw [if_neg (by simp [e]),if_pos (by simp [e]),cO hk h]
   ·rw [if_pos (by simpa using e),if_neg (by simpa using e)]
  ·have hzl:(a.zip b).length=a.length:=by rw [List.length_zip];omega
   rw [hzl]
   unfold eD
   rw [if_neg (by simp)]
 ·rw [if_pos (by simp;omega),decide_eq_false (fun h=>hl (by rw [h]))]
section
variable {a b:cD} {kind:Int}
theorem aFB {t:cD} (hv:cF t) (k:Int):gD t k=some (rdy t k):=by
 have h300:=hv.2.2.2.1
 have hl:(t.E.filter fun e=>e.F == k).length≤t.E.length:=List.length_filter_le _ _
 unfold gD
 rw [out_eq t k (by omega),aB]
 have:=uH (step:=fun s:List bI × Int=>iF t (t.E.filter fun e=>e.F == k) s.1 s.2) (t.E.filter fun e=>e.F == k) (fun j (o:List bI)=>(o,(j:Int))) (fun l o=>o++l.map (vE t)) (fun j o=>o.length≤j) (fun j o e l hj hx hI=>?_) (fun o _=>by simp only [iF,eJ];simp) (a:=[]) (by simp)
 ·rw [show loop (fun s:List bI × Int=>iF t (t.E.filter fun e=>e.F == k) s.1 s.2) ([],0)=_ from this,aB,List.nil_append]
  unfold lF yJ
  rw [if_pos (by rw [List.length_map];unfold iX;omega),aB,aGm _ (by unfold rO;rw [List.length_mergeSort,List.length_map];omega)]
  rfl
 ·left
  obtain ⟨hj',rfl⟩:=tK hx
  have he:(t.E.filter fun e=>e.F == k)[j]∈t.E:=(List.mem_filter.1 (List.getElem_mem hj')).1
  refine ⟨o++[vE t (t.E.filter fun e=>e.F == k)[j]],?_,by simp;exact hI,by simp⟩
  simp only [iF,dE hj,if_pos,hx,aB,aBt (sH hv he)]
  rw [dX (by simp [iX];omega),aB,cO hj (show (t.E.filter fun e=>e.F == k).length < 4611686018427387904 by omega)]
def yB (l:List (Int × Int)) (x y:Int):Bool:=decide ((x,y)∈l)
theorem aLf (l:List (Int × Int)) (x y:Int):(kZ (vV l) (x,y)).getD false=yB l x y:=aFz (x,y) l
noncomputable def stqB (a b:cD) (kind:Int) (S:Int→Int→Bool) (y:Int) (e:Edge):Bool:=@decide (∃ w,StW b kind y (vE a e) w∧S e.To w=true) (Classical.propDecidable _)
theorem aFC {S:Int→Int→Bool} {y:Int} {e:Edge}:stqB a b kind S y e=true↔∃ w,StW b kind y (vE a e) w∧S e.To w=true:=by unfold stqB;exact @decide_eq_true_iff _ (Classical.propDecidable _)
theorem anR_all {S:Int→Int→Bool} {x y:Int}:anR a b kind S x y=(a.E.filter fun e=>e.F == x).all fun e=>stqB a b kind S y e:=by
 rw [Bool.eq_iff_iff,aDL,List.all_eq_true]
 unfold AnP
 constructor
 ·intro h e he
  rw [List.mem_filter,beq_iff_eq] at he
  exact aFC.2 (h e he.1 he.2)
 ·intro h e he hx
  exact aFC.1 (h e (by rw [List.mem_filter,beq_iff_eq];exact ⟨he,hx⟩))
theorem any_set {R:List Int} {X:Int→Prop} (h:aAB R X) (f:Int→Bool):R.any f=true↔∃ w,X w∧f w=true:=by
 rw [List.any_eq_true]
 constructor
 ·rintro ⟨w,hw,hf⟩;exact ⟨w,(h.mem w).1 hw,hf⟩
 ·rintro ⟨w,hw,hf⟩;exact ⟨w,(h.mem w).2 hw,hf⟩
theorem contW (R:List Int) (hR:R.length < 1000000) (l:List (Int × Int)) (v:Int):eF R a.N a.I a.L a.E b.N b.I b.L b.E (vV l) v=some (R.any fun w=>yB l v w):=by
 unfold eF fY
 rw [wW (step:=fun s=>dJ R a.N a.I a.L a.E b.N b.I b.L b.E (vV l) v s) R (fun w=>yB l v w) (fun k w hk hx=>by
  obtain ⟨_,rfl⟩:=tK hx
  simp only [dJ,dE hk,if_pos,hx,aB,aAO,nU,aLf,cO hk (show R.length < 4611686018427387904 by omega)]) (by simp only [dJ,eJ];rfl),aB,←aFr]
 cases R.findIdx? (fun w=>yB l v w) with
 |none=>rfl
 |some i=>rfl
theorem contS (R:List Int) (hR:R.length < 1000000) (l:List (Int × Int)) (v:Int):eG R a.N a.I a.L a.E b.N b.I b.L b.E (vV l) v=some (R.any fun w=>yB l v w):=by
 unfold eG fZ
 rw [wW (step:=fun s=>dK R a.N a.I a.L a.E b.N b.I b.L b.E (vV l) v s) R (fun w=>yB l v w) (fun k w hk hx=>by
  obtain ⟨_,rfl⟩:=tK hx
  simp only [dK,dE hk,if_pos,hx,aB,zO,nU,aLf,cO hk (show R.length < 4611686018427387904 by omega)]) (by simp only [dK,eJ];rfl),aB,←aFr]
 cases R.findIdx? (fun w=>yB l v w) with
 |none=>rfl
 |some i=>rfl
theorem weak_eq (hb:cF b) (l:List (Int × Int)) (x:Int) {y:Int} (hy:iG b y) (e:Edge):uA a b (vV l) x y (vE a e) e.To=some (stqB a b 2 (yB l) y e):=by
 have h40:=hb.1
 obtain ⟨R,h1,h2⟩:=aMo hb hy (vE a e)
 have hR:R.length≤40:=h2.len (n:=40) fun q hq=>by
  have:=hq.inn hb hy
  unfold iG at this;omega
 unfold uA
 rw [h1,aB,contW R (by omega),aB]
 congr 1
 rw [Bool.eq_iff_iff,any_set h2,aFC]
 unfold StW
 simp only [if_true]
theorem strong_eq (hb:cF b) (hk:kind≠2) (l:List (Int × Int)) (x y:Int) (e:Edge):rX a b (vV l) x y (vE a e) e.To=some (stqB a b kind (yB l) y e):=by
 have h40:=hb.1
 obtain ⟨R,h1,h2⟩:=aHU hb (S:=[y]) (by simp) (vE a e)
 have hR:R.length≤40:=h2.len (n:=40) fun q hq=>by
  have:=hq.inn hb
  omega
 unfold rX
 rw [h1,aB,contS R (by omega),aB]
 congr 1
 rw [Bool.eq_iff_iff,any_set h2,aFC]
 unfold StW AftT
 simp only [if_neg hk]
 refine exists_congr fun w=>and_congr_left fun _=>exists_congr fun f=>?_
 simp only [List.mem_singleton]
 exact ⟨fun ⟨a,b,c,d⟩=>⟨a,c,b,d⟩,fun ⟨a,b,c,d⟩=>⟨a,c,b,d⟩⟩
theorem answW (ha:cF a) (hb:cF b) (l:List (Int × Int)) (x:Int) {y:Int} (hy:iG b y):kI a b (vV l) x y=some (anR a b 2 (yB l) x y):=by
 have h300:=ha.2.2.2.1
 have hl:(a.E.filter fun e=>e.F == x).length≤a.E.length:=List.length_filter_le _ _
 unfold kI
 rw [out_eq a x (by omega),aB]
 have:=aCo (step:=fun s:Int=>iN a b (vV l) x y (a.E.filter fun e=>e.F == x) s) (a.E.filter fun e=>e.F == x) (fun e=>stqB a b 2 (yB l) y e) (.inr false) (.inl ()) (fun k e hk hx=>?_) (by simp only [iN,eJ];rfl)
 ·rw [this,aB,anR_all]
  cases (a.E.filter fun e=>e.F == x).all fun e=>stqB a b 2 (yB l) y e<;>rfl
 ·obtain ⟨_,rfl⟩:=tK hx
  have he:(a.E.filter fun e=>e.F == x)[k]∈a.E:=(List.mem_filter.1 (List.getElem_mem hk)).1
  simp only [iN,dE hk,if_pos,hx,aB,aBt (sH ha he)]
  rw [show uA ⟨a.N,a.I,a.L,a.E⟩ ⟨b.N,b.I,b.L,b.E⟩ (vV l) x y (vE a (a.E.filter fun e=>e.F == x)[k]) (a.E.filter fun e=>e.F == x)[k].To=_ from weak_eq hb l x hy _,aB,cO hk (show (a.E.filter fun e=>e.F == x).length < 4611686018427387904 by omega)]
  cases stqB a b 2 (yB l) y (a.E.filter fun e=>e.F == x)[k]<;>simp
theorem answS (ha:cF a) (hb:cF b) (hk:kind≠2) (l:List (Int × Int)) (x y:Int):iO a b (vV l) x y=some (anR a b kind (yB l) x y):=by
 have h300:=ha.2.2.2.1
 have hl:(a.E.filter fun e=>e.F == x).length≤a.E.length:=List.length_filter_le _ _
 unfold iO
 rw [out_eq a x (by omega),aB]
 have:=aCo (step:=fun s:Int=>gH a b (vV l) x y (a.E.filter fun e=>e.F == x) s) (a.E.filter fun e=>e.F == x) (fun e=>stqB a b kind (yB l) y e) (.inr false) (.inl ()) (fun k e hk' hx=>?_) (by simp only [gH,eJ];rfl)
 ·rw [this,aB,anR_all]
  cases (a.E.filter fun e=>e.F == x).all fun e=>stqB a b kind (yB l) y e<;>rfl
 ·obtain ⟨_,rfl⟩:=tK hx
  have he:(a.E.filter fun e=>e.F == x)[k]∈a.E:=(List.mem_filter.1 (List.getElem_mem hk')).1
  simp only [gH,dE hk',if_pos,hx,aB,aBt (sH ha he)]
  rw [show rX ⟨a.N,a.I,a.L,a.E⟩ ⟨b.N,b.I,b.L,b.E⟩ (vV l) x y (vE a (a.E.filter fun e=>e.F == x)[k]) (a.E.filter fun e=>e.F == x)[k].To=_ from strong_eq hb hk l x y _,aB,cO hk' (show (a.E.filter fun e=>e.F == x).length < 4611686018427387904 by omega)]
  cases stqB a b kind (yB l) y (a.E.filter fun e=>e.F == x)[k]<;>simp
theorem simd_eq (ha:cF a) (hb:cF b) (l:List (Int × Int)) (x:Int) {y:Int} (hy:iG b y):fI a b (vV l) kind x y=some (bsR a b kind x y&&anR a b kind (yB l) x y):=by
 have h300:=ha.2.2.2.1
 have key:∀ c:Bool,gC a b (vV l) kind x y c=some (!c&&anR a b kind (yB l) x y):=by
  intro c
  unfold gC
  cases c with
  |true=>rw [if_pos rfl];rfl
  |false=>
   rw [if_neg (by simp)]
   by_cases h2:kind=2
   ·subst h2
    rw [if_pos (by rfl),show kI ⟨a.N,a.I,a.L,a.E⟩ ⟨b.N,b.I,b.L,b.E⟩ (vV l) x y=_ from answW ha hb l x hy];rfl
   ·rw [if_neg (by simpa using h2),show iO ⟨a.N,a.I,a.L,a.E⟩ ⟨b.N,b.I,b.L,b.E⟩ (vV l) x y=_ from answS ha hb h2 l x y];rfl
 unfold fI bsR
 by_cases h1:kind=1
 ·subst h1
  have hl:=rdy_len (t:=a) x
  rw [if_pos (by rfl),aFB ha,aB,aFB hb,aB,aJb _ _ (by omega),aB,key]
  simp
 ·rw [if_neg (by simpa using h1),key]
  have:(kind == 1)=false:=by simpa using h1
  rw [this];rfl
theorem simd_v3:@lL=@fI:=rfl
end
end Gv
namespace Gv
open Go
section
variable {a b:cD} {kind:Int}
noncomputable def mN (a b:cD) (kind:Int) (n:Nat) (x y:Int):Bool:=rN (bsR a b kind) (anR a b kind) n x y
noncomputable def mL (a b:cD) (kind:Int) (n:Nat):List (Int × Int):=rL a b (bsR a b kind) (anR a b kind) n
noncomputable def mF (a b:cD) (kind:Int):Nat:=rF a b (bsR a b kind) (anR a b kind)
theorem aHY {n:Nat} {p:Int × Int}:p∈mL a b kind n↔(iG a p.1∧iG b p.2)∧mN a b kind n p.1 p.2=true:=rL_mem
theorem aHZ (n:Nat):(mL a b kind n).Nodup:=rL_nodup n
theorem mL_rel {n:Nat} {x y:Int} (hx:iG a x) (hy:iG b y):yB (mL a b kind n) x y=mN a b kind n x y:=by
 unfold yB
 rw [Bool.eq_iff_iff,decide_eq_true_iff,aHY]
 exact ⟨fun h=>h.2,fun h=>⟨⟨hx,hy⟩,h⟩⟩
theorem aJc (ha:cF a) (hb:cF b) {S T:Int→Int→Bool} (h:∀ x y,iG a x→iG b y→S x y=T x y) {x y:Int} (hx:iG a x) (hy:iG b y):anR a b kind S x y=anR a b kind T x y:=by
 rw [Bool.eq_iff_iff]
 exact ⟨(aHV ha hb).mono S T (fun x y hx hy hS=>(h x y hx hy) ▸ hS) x y hx hy,(aHV ha hb).mono T S (fun x y hx hy hS=>(h x y hx hy).symm ▸ hS) x y hx hy⟩
theorem mround (ha:cF a) (hb:cF b) (n:Nat):aEK (gA a b kind (vV (mL a b kind n))) (List.map Prod.fst (vV (mL a b kind n)))=some (mL a b kind (n+1)):=by
 have e:mL a b kind (n+1)=(mL a b kind n).filter fun p=>mN a b kind (n+1) p.1 p.2:=aJV n
 rw [aFy,e]
 refine aJS (p:=fun p:Int × Int=>mN a b kind (n+1) p.1 p.2) fun k hk=>?_
 obtain ⟨⟨hx,hy⟩,hn⟩:=aHY.1 hk
 have h0:bsR a b kind k.1 k.2=true:=aJT n hn
 unfold gA
 rw [show fI ⟨a.N,a.I,a.L,a.E⟩ ⟨b.N,b.I,b.L,b.E⟩ (vV (mL a b kind n)) kind k.1 k.2=_ from simd_eq ha hb _ k.1 hy,aB,h0,Bool.true_and,aJc ha hb (fun x y hx hy=>mL_rel hx hy) hx hy]
 have:mN a b kind (n+1) k.1 k.2=anR a b kind (mN a b kind n) k.1 k.2:=by
  show (rN _ _ n k.1 k.2&&anR a b kind (rN _ _ n) k.1 k.2)=_
  have hn':rN (bsR a b kind) (anR a b kind) n k.1 k.2=true:=hn
  rw [hn',Bool.true_and];rfl
 rw [this]
 cases anR a b kind (mN a b kind n) k.1 k.2<;>rfl
def ini2 (a b:cD):Int × Int:=(a.I,b.I)
theorem mstep (ha:cF a) (hb:cF b) (n:Nat) (hn:n≤100000) {missing:Int} (hm:0≤missing→ini2 a b∉mL a b kind n):∃ m':Int,(m' < 0↔ini2 a b∈mL a b kind n)∧nW a b kind (vV (mL a b kind n)) missing (n:Int)=
  if (mL a b kind (n+1)).length=(mL a b kind n).length then some (.inr (vV (mL a b kind n),m')) else some (.inl (vV (mL a b kind (n+1)),m',((n+1:Nat):Int))):=by
 have h4:∀ m',nV a b kind (vV (mL a b kind n)) (n:Int) m'=if (mL a b kind (n+1)).length=(mL a b kind n).length then some (.inr (vV (mL a b kind n),m')) else some (.inl (vV (mL a b kind (n+1)),m',((n+1:Nat):Int))):=by
  intro m'
  unfold nV
  rw [mround ha hb,aB,aB,show ([]:List ((Int × Int) × Bool))=vV [] from rfl,aIZ _ [] (by rw [List.nil_append];exact aHZ _),List.nil_append]
  unfold vK vJ
  rw [mtt_len,mtt_len,cO (show n < 200000 by omega) (by decide)]
  by_cases h:(mL a b kind (n+1)).length=(mL a b kind n).length
  ·rw [if_pos h,if_pos (by simp [h])]
  ·rw [if_neg h,if_neg (by simp;omega)]
 unfold nW
 have hg:(kZ (vV (mL a b kind n)) (a.I,b.I)).getD false=decide (ini2 a b∈mL a b kind n):=aFz _ _
 by_cases hneg:missing < 0
 ·rw [if_pos (by simpa using hneg),hg]
  by_cases hin:ini2 a b∈mL a b kind n
  ·refine ⟨missing,⟨fun _=>hin,fun _=>hneg⟩,?_⟩
   unfold lS
   rw [if_neg (by simp [hin]),h4]
  ·refine ⟨(n:Int),⟨fun h=>by omega,fun h=>absurd h hin⟩,?_⟩
   unfold lS
   rw [if_pos (by simp [hin]),h4]
 ·rw [if_neg (by simpa using hneg)]
  refine ⟨missing,⟨fun h=>absurd h hneg,fun h=>absurd h (hm (by omega))⟩,?_⟩
  unfold lS
  rw [if_neg (by simp),h4]
theorem mF_le (n:Nat):n≤mF a b kind→(mL a b kind n).length+n≤(mL a b kind 0).length:=by
 induction n with
 |zero=>intro _;simp
 |succ n ih=>
  intro hn
  have h1:=ih (by omega)
  have h2:¬ rSt a b (bsR a b kind) (anR a b kind) n:=rF_min (show n < mF a b kind by omega)
  rw [aGO] at h2
  have h3:(mL a b kind (n+1)).length≤(mL a b kind n).length:=rL_le n
  have h4:¬ (mL a b kind (n+1)).length=(mL a b kind n).length:=h2
  omega
theorem aJd {β γ:Type} (c:Nat) (f:β→List γ):∀ l:List β,(∀ x∈l,(f x).length=c)→(l.flatMap f).length=l.length * c
 |[],_=>by simp
 |x::l,h=>by
  rw [List.flatMap_cons,List.length_append,h x (by simp),aJd c f l fun y hy=>h y (by simp [hy]),List.length_cons,Nat.add_mul];omega
theorem aIb (ha:cF a) (hb:cF b):(prs2 a b).length≤1600:=by
 have h1:=ha.1
 have h2:=hb.1
 unfold prs2
 rw [aJd b.N.toNat _ _ (fun x _=>by simp),List.length_range]
 have:a.N.toNat * b.N.toNat≤40 * 40:=Nat.mul_le_mul (by omega) (by omega)
 omega
def prW (a b:cD) (kind:Int) (k:Nat):List (Int × Int):=((List.range k).flatMap fun x:Nat=>(List.range b.N.toNat).map fun y:Nat=>((x:Int),(y:Int))).filter fun p=>bsR a b kind p.1 p.2
theorem prW_lt {k:Nat} {p:Int × Int} (h:p∈prW a b kind k):p.1 < k:=by
 unfold prW at h
 rw [List.mem_filter,List.mem_flatMap] at h
 obtain ⟨⟨x,hx,h⟩,_⟩:=h
 obtain ⟨y,_,rfl⟩:=List.mem_map.1 h
 rw [List.mem_range] at hx
 simp only;omega
theorem prW_snoc (k:Nat):prW a b kind (k+1)=prW a b kind k++((List.range b.N.toNat).map fun y:Nat=>((k:Int),(y:Int))).filter fun p=>bsR a b kind p.1 p.2:=by
 unfold prW
 rw [List.range_succ,List.flatMap_append,List.filter_append];simp
theorem prW_all:prW a b kind a.N.toNat=mL a b kind 0:=rfl
theorem mrow (ha:cF a) (hb:cF b) {k:Nat} (hk:k < a.N.toNat):loop (fun s:List ((Int × Int) × Bool) × Int=>jS a b kind (k:Int) s.1 s.2) (vV (prW a b kind k),0)=some (vV (prW a b kind (k+1))):=by
 have h40:=hb.1
 have h300:=ha.2.2.2.1
 have key0:=dI (step:=fun s:List ((Int × Int) × Bool) × Int=>jS a b kind (k:Int) s.1 s.2) b.N.toNat (fun i (m:List ((Int × Int) × Bool))=>(m,(i:Int)))
  (fun i m=>m=vV (prW a b kind k++((List.range i).map fun y:Nat=>((k:Int),(y:Int))).filter fun p=>bsR a b kind p.1 p.2)) (fun r=>r=vV (prW a b kind (k+1))) (fun i m hi hI=>?_) (fun m hI=>?_) b.N.toNat 0 (vV (prW a b kind k)) (by omega) (by simp)
 ·obtain ⟨r,h1,h2⟩:=key0
  have h1':loop (fun s:List ((Int × Int) × Bool) × Int=>jS a b kind (k:Int) s.1 s.2) (vV (prW a b kind k),0)=some r:=h1
  rw [h1',h2]
 ·subst hI
  have hlt:decide ((i:Int) < b.N)=true:=by simp;omega
  have hnot:((k:Int),(i:Int))∉prW a b kind k++((List.range i).map fun y:Nat=>((k:Int),(y:Int))).filter fun p=>bsR a b kind p.1 p.2:=by
   intro h
   rcases List.mem_append.1 h with h|h
   ·have:=prW_lt h
    simp only at this;omega
   ·obtain ⟨y,hy,e⟩:=List.mem_map.1 (List.mem_filter.1 h).1
    rw [List.mem_range] at hy
    simp only [Prod.mk.injEq] at e
    omega
  have key:∀ c:Bool,c=bsR a b kind (k:Int) (i:Int)→∃ m',mQ (k:Int) (vV (prW a b kind k++((List.range i).map fun y:Nat=>((k:Int),(y:Int))).filter fun p=>bsR a b kind p.1 p.2)) (i:Int) c=some (.inl (m',((i+1:Nat):Int)))∧m'=vV (prW a b kind k++((List.range (i+1)).map fun y:Nat=>((k:Int),(y:Int))).filter fun p=>bsR a b kind p.1 p.2):=by
   intro c hc
   unfold mQ pR
   rw [List.range_succ,List.map_append,List.filter_append,←List.append_assoc,List.map_singleton,List.filter_cons,←hc,cO hi (show b.N.toNat < 4611686018427387904 by omega)]
   cases c with
   |true=>rw [if_pos rfl,aB,aFA hnot];exact ⟨_,rfl,rfl⟩
   |false=>rw [if_neg (by simp)];exact ⟨_,rfl,by simp⟩
  simp only [jS,hlt,if_pos]
  by_cases h1:kind=1
  ·subst h1
   have hl:=rdy_len (t:=a) (k:Int)
   rw [if_neg (by simp),aFB ha,aB,aFB hb,aB,aJb _ _ (by omega),aB]
   exact key _ (by unfold bsR;simp)
  ·rw [if_pos (by simpa using h1)]
   exact key _ (by
     unfold bsR;have:(kind == 1)=false:=by simpa using h1
     rw [this];rfl)
 ·subst hI
  have:decide (((b.N.toNat:Nat):Int) < b.N)=false:=by simp;omega
  exact ⟨_,by simp only [jS,this];rfl,by rw [prW_snoc]⟩
theorem mstart (ha:cF a) (hb:cF b):loop (fun s:List ((Int × Int) × Bool) × Int=>jT a b kind s.1 s.2) (([]:List ((Int × Int) × Bool)),0)=some (vV (mL a b kind 0)):=by
 have h40:=ha.1
 have key0:=dI (step:=fun s:List ((Int × Int) × Bool) × Int=>jT a b kind s.1 s.2) a.N.toNat (fun i (m:List ((Int × Int) × Bool))=>(m,(i:Int)))
  (fun i m=>m=vV (prW a b kind i)) (fun r=>r=vV (mL a b kind 0)) (fun i m hi hI=>?_) (fun m hI=>?_) a.N.toNat 0 [] (by omega) rfl
 ·obtain ⟨r,h1,h2⟩:=key0
  have h1':loop (fun s:List ((Int × Int) × Bool) × Int=>jT a b kind s.1 s.2) (([]:List ((Int × Int) × Bool)),0)=some r:=h1
  rw [h1',h2]
 ·subst hI
  have:decide ((i:Int) < a.N)=true:=by simp;omega
  simp only [jT,this,if_pos]
  rw [mrow ha hb hi,aB]
  simp only [qX,vL,cO hi (show a.N.toNat < 4611686018427387904 by omega)]
  exact ⟨_,rfl,rfl⟩
 ·subst hI
  have:decide (((a.N.toNat:Nat):Int) < a.N)=false:=by simp;omega
  exact ⟨_,by simp only [jT,this];rfl,by rw [prW_all]⟩
theorem aEk (ha:cF a) (hb:cF b):∃ m:Int,(m < 0↔smG a b kind a.I b.I=true)∧uB a b kind=some (vV (mL a b kind (mF a b kind)),m):=by
 have hai:=ha.2.1
 have hbi:=hb.2.1
 have hini:ini2 a b∈mL a b kind (mF a b kind)↔smG a b kind a.I b.I=true:=by
  rw [aHY]
  refine ⟨fun h=>h.2,fun h=>⟨⟨?_,?_⟩,h⟩⟩
  ·show iG a a.I
   unfold iG;omega
  ·show iG b b.I
   unfold iG;omega
 unfold uB
 rw [mstart ha hb,aB]
 unfold qW
 have h0:(mL a b kind 0).length≤1600:=Nat.le_trans (List.length_filter_le _ _) (aIb ha hb)
 have key0:=loop_rG (a:=a) (b:=b) (B:=bsR a b kind) (F:=anR a b kind) (step:=fun s:List ((Int × Int) × Bool) × Int × Int=>nW a b kind s.1 s.2.1 s.2.2) (fun n s=>n≤mF a b kind∧s.1=vV (mL a b kind n)∧s.2.2=(n:Int)∧(0≤s.2.1→ini2 a b∉mL a b kind n)) (fun r=>r.1=vV (mL a b kind (mF a b kind))∧(r.2 < 0↔ini2 a b∈mL a b kind (mF a b kind))) (fun n s hn hs=>?_) (fun s hs=>?_) (s:=(vV (mL a b kind 0),-1,0)) ⟨Nat.zero_le _,rfl,rfl,fun h=>by simp at h⟩
 ·obtain ⟨r,h1,h2,h3⟩:=key0
  refine ⟨r.2,h3.trans hini,?_⟩
  rw [h1,aB,←h2]
 ·obtain ⟨x,y,z⟩:=s
  obtain ⟨hle,rfl,rfl,hm⟩:=hs
  have hb1:=mF_le n hle
  obtain ⟨m',h1,h2⟩:=mstep ha hb n (by omega) hm
  have hne:¬ rSt a b (bsR a b kind) (anR a b kind) n:=rF_min hn
  rw [aGO] at hne
  have hne':¬ (mL a b kind (n+1)).length=(mL a b kind n).length:=hne
  rw [if_neg hne'] at h2
  refine ⟨_,h2,Nat.succ_le_of_lt hn,rfl,rfl,fun h hin=>?_⟩
  have:ini2 a b∈mL a b kind n:=by
   rw [aHY] at hin ⊢
   exact ⟨hin.1,rN_le hin.2⟩
  have:=h1.2 this
  simp only at h;omega
 ·obtain ⟨x,y,z⟩:=s
  obtain ⟨hle,rfl,rfl,hm⟩:=hs
  have hb1:=mF_le (rF a b (bsR a b kind) (anR a b kind)) hle
  obtain ⟨m',h1,h2⟩:=mstep ha hb (mF a b kind) (by
    have:(mL a b kind (mF a b kind)).length+mF a b kind≤(mL a b kind 0).length:=hb1
    omega) hm
  have hst:=(aGO (a:=a) (b:=b) (B:=bsR a b kind) (F:=anR a b kind) (mF a b kind)).1 rF_stab
  have hst':(mL a b kind (mF a b kind+1)).length=(mL a b kind (mF a b kind)).length:=hst
  rw [if_pos hst'] at h2
  exact ⟨_,h2,rfl,h1⟩
end
end Gv
namespace Gv
open Go
theorem cmpI (a b:Int):dU a b=some (if a < b then -1 else if b < a then 1 else 0):=by
 unfold dU jQ
 simp only [bne_self_eq_false,aB]
 by_cases h1:a < b
 ·simp [h1]
 ·by_cases h2:b < a<;>simp [h1,h2]
theorem aMp (a b:Int × Int):dW (R2 a) (R2 b)=some (mE (R2 a) (R2 b)):=by
 unfold dW
 have s0:bR (R2 a) (R2 b) 0=some (if a.1 < b.1 then .inr (.inr (-1)) else if b.1 < a.1 then .inr (.inr 1) else .inl 1):=by
  unfold bR
  rw [show decide ((0:Int) < ((R2 a).length:Int))=true from rfl,if_pos rfl,show ix (R2 a) 0=some a.1 from rfl,aB,show decide (((R2 b).length:Int)≤0)=false from rfl,if_neg (by simp),show ix (R2 b) 0=some b.1 from rfl,aB,cmpI,aB]
  by_cases h1:a.1 < b.1
  ·simp [h1]
  ·by_cases h2:b.1 < a.1
   ·simp [h1,h2]
   ·simp [h1,h2,wr]
 have s1:bR (R2 a) (R2 b) 1=some (if a.2 < b.2 then .inr (.inr (-1)) else if b.2 < a.2 then .inr (.inr 1) else .inl 2):=by
  unfold bR
  rw [show decide ((1:Int) < ((R2 a).length:Int))=true from rfl,if_pos rfl,show ix (R2 a) 1=some a.2 from rfl,aB,show decide (((R2 b).length:Int)≤1)=false from rfl,if_neg (by simp),show ix (R2 b) 1=some b.2 from rfl,aB,cmpI,aB]
  by_cases h1:a.2 < b.2
  ·simp [h1]
  ·by_cases h2:b.2 < a.2
   ·simp [h1,h2]
   ·simp [h1,h2,wr]
 have s2:bR (R2 a) (R2 b) 2=some (.inr (.inl ())):=rfl
 rw [cM,s0]
 by_cases h1:a.1 < b.1
 ·simp [h1,R2,mE]
 ·by_cases h2:b.1 < a.1
  ·simp [h1,h2,R2,mE]
  ·simp only [h1,h2,if_false]
   rw [cM,s1]
   by_cases h3:a.2 < b.2
   ·simp [h1,h2,h3,R2,mE]
   ·by_cases h4:b.2 < a.2
    ·simp [h1,h2,h3,h4,R2,mE]
    ·simp only [h3,h4,if_false]
     rw [cM,s2,aB]
     simp [dL,h1,h2,h3,h4,R2,mE]
section
variable {a b:cD} {kind:Int}
theorem code_eq (ha:cF a) (hb:cF b) (fa:oL 999999999 a) (fb:oL 999999999 b) (hk:0≤kind∧kind≤2):mP a b kind=some 0:=by
 unfold mP
 rw [wY a fa,aGa ha,aB,if_neg (by simp),wY b fb,aGa hb,aB]
 unfold lT aCj
 rw [if_neg (by simp),yQ,aB,aB,if_neg (by simp;omega)]
theorem yC (ha:cF a) (hb:cF b) (fa:oL 999999999 a) (fb:oL 999999999 b) (hk:0≤kind∧kind≤2):jB a b kind=some (smG a b kind a.I b.I,0):=by
 obtain ⟨m,h1,h2⟩:=aEk (kind:=kind) ha hb
 unfold jB aBE
 rw [code_eq ha hb fa fb hk,aB,if_neg (by simp),h2,aB,aB]
 congr 2
 rw [Bool.eq_iff_iff,decide_eq_true_iff];exact h1
noncomputable def aAq (a b:cD) (kind:Int):List (Int × Int):=ordQ (mL a b kind (mF a b kind))
theorem aGC (ha:cF a) (hb:cF b) (fa:oL 999999999 a) (fb:oL 999999999 b) (hk:0≤kind∧kind≤2):pS a b kind=some (if smG a b kind a.I b.I=true then ((aAq a b kind).map R2,0) else ([],3)):=by
 obtain ⟨m,h1,h2⟩:=aEk (kind:=kind) ha hb
 unfold pS
 rw [code_eq ha hb fa fb hk,aB,if_neg (by simp),h2,aB]
 by_cases hm:m < 0
 ·rw [if_neg (by simpa using hm),if_pos (h1.1 hm)]
  have hl:(mL a b kind (mF a b kind)).length≤1600:=Nat.le_trans (List.length_filter_le _ _) (aIb ha hb)
  have hnd:=aHZ (a:=a) (b:=b) (kind:=kind) (mF a b kind)
  unfold xS
  simp only
  rw [aFy]
  unfold mapp
  rw [if_pos (by unfold iX;omega),aB]
  unfold lK vX
  have e:List.map (fun k43:Int × Int=>([k43.1,k43.2]:List Int)) (mL a b kind (mF a b kind))=(mL a b kind (mF a b kind)).map R2:=rfl
  rw [e,if_pos,aB,aB,ordQ_row]
  ·rfl
  ·refine ⟨by rw [List.length_map];unfold iX;omega,?_,fun x hx=>?_⟩
   ·refine List.Pairwise.map _ (fun p q hpq h=>hpq ?_) hnd
    have h':[p.1,p.2]=[q.1,q.2]:=h
    simp only [List.cons.injEq,and_true] at h'
    exact Prod.ext h'.1 h'.2
   ·obtain ⟨p,_,rfl⟩:=List.mem_map.1 hx
    unfold R2 iX;simp
 ·rw [if_pos (by simpa using hm),if_neg fun h=>hm (h1.2 h)]
def Rise (a b:cD) (l:List (Int × Int)):Prop:=(l.Pairwise fun p q=>qLt p q=true)∧∀ p∈l,iG a p.1∧iG b p.2
instance inT_dec (t:cD) (k:Int):Decidable (iG t k):=by unfold iG;infer_instance
theorem isSt {t:cD} (hv:cF t) (k:Int):jV t k=some (decide (iG t k)):=by
 have:=hv.1
 rw [aEE t k (by omega)]
 congr 1
 rw [Bool.eq_iff_iff,Bool.and_eq_true,decide_eq_true_iff,decide_eq_true_iff,decide_eq_true_iff]
 unfold iG
 omega
theorem len2 {l:List Int} (h:l.length=2):∃ p:Int × Int,l=R2 p:=by
 rcases l with _|⟨x,_|⟨y,_|⟨z,l⟩⟩⟩
 ·simp at h
 ·simp at h
 ·exact ⟨(x,y),rfl⟩
 ·simp at h
theorem aMq (ha:cF a) (hb:cF b) (r:List (List Int)) (hr:r.length < 1000000000):∃ R,aAZ a b r=some R∧(R.2=false∨R.2=true)∧(R.2=true↔∃ l,Rise a b l∧r=l.map R2)∧∀ l,Rise a b l→r=l.map R2→R=(vV l,true):=by
 have inj:∀ {l m:List (Int × Int)},l.map R2=m.map R2→l=m:=fun {l m} h=>by
  refine (List.map_inj_right (f:=R2) (fun p q h=>?_)).1 h
  have h':[p.1,p.2]=[q.1,q.2]:=h
  simp only [List.cons.injEq,and_true] at h'
  exact Prod.ext h'.1 h'.2
 suffices key:∃ R,aAZ a b r=some R∧((R.2=false∧¬ ∃ l,Rise a b l∧r=l.map R2)∨∃ l,R=(vV l,true)∧Rise a b l∧r=l.map R2) by
  obtain ⟨R,h1,h2⟩:=key
  refine ⟨R,h1,?_,?_,?_⟩
  ·rcases h2 with ⟨h,_⟩|⟨l,rfl,_⟩
   ·exact .inl h
   ·exact .inr rfl
  ·rcases h2 with ⟨h,h'⟩|⟨l,rfl,h,h'⟩
   ·rw [h];exact ⟨fun e=>(by cases e),fun e=>absurd e h'⟩
   ·exact ⟨fun _=>⟨l,h,h'⟩,fun _=>rfl⟩
  ·intro m hm hrm
   rcases h2 with ⟨h,h'⟩|⟨l,rfl,h,h'⟩
   ·exact absurd ⟨m,hm,hrm⟩ h'
   ·rw [inj (h'.symm.trans hrm)]
 unfold aAZ
 have key0:=aFt (step:=fun s:List ((Int × Int) × Bool) × Int=>qM a b r s.1 s.2) r.length (fun k (m:List ((Int × Int) × Bool))=>(m,(k:Int))) (fun k m=>∃ l,m=vV l∧Rise a b l∧r.take k=l.map R2)
  (fun x=>(∃ l,x=.inl (vV l)∧Rise a b l∧r=l.map R2)∨(∃ y,x=.inr (y,false))∧¬ ∃ l,Rise a b l∧r=l.map R2) (fun k m hk hI=>?_) (fun m hI=>?_) r.length 0 [] (by omega) ⟨[],rfl,⟨List.Pairwise.nil,fun p hp=>by cases hp⟩,rfl⟩
 ·obtain ⟨x,h1,h2⟩:=key0
  have h1':loop (fun s:List ((Int × Int) × Bool) × Int=>qM a b r s.1 s.2) (([]:List ((Int × Int) × Bool)),0)=some x:=h1
  rw [h1',aB]
  rcases h2 with ⟨l,rfl,h3,h4⟩|⟨⟨y,rfl⟩,h3⟩
  ·exact ⟨_,rfl,.inr ⟨l,rfl,h3,h4⟩⟩
  ·exact ⟨_,rfl,.inl ⟨rfl,h3⟩⟩
 ·obtain ⟨l,rfl,hR,hl⟩:=hI
  have hll:l.length=k:=by
   have:=congrArg List.length hl
   rw [List.length_take,List.length_map] at this;omega
  have hout:∀ c e,c=true→kF (vV l) (k:Int) e c=some (.inr (.inr ([],false))):=fun c e h=>by
   unfold kF;rw [if_pos h]
  simp only [qM,dE hk,if_pos,cV hk,aB]
  by_cases h2:r[k].length=2
  ·obtain ⟨p,hp⟩:=len2 h2
   rw [hp,if_neg (by simp [R2])]
   rw [show ix (R2 p) 0=some p.1 from rfl,aB,isSt ha,aB]
   by_cases hx:iG a p.1
   ·rw [if_neg (by simp [hx]),show ix (R2 p) 1=some p.2 from rfl,aB,isSt hb,aB]
    by_cases hy:iG b p.2
    ·rw [if_neg (by simp [hy])]
     have hgo:(∀ q∈l,qLt q p=true)→∃ a',kF (vV l) (k:Int) (R2 p) false=some (.inl (a',((k+1:Nat):Int)))∧∃ l',a'=vV l'∧Rise a b l'∧r.take (k+1)=l'.map R2:=fun hq=>by
      have hnot:p∉l:=fun h=>by have:=hq p h;rw [qLt_irr] at this;cases this
      unfold kF
      rw [if_neg (by simp),show ix (R2 p) 0=some p.1 from rfl,aB,show ix (R2 p) 1=some p.2 from rfl,aB,aB,cO hk (by omega),show ((p.1,p.2):Int × Int)=p from rfl,aFA hnot]
      refine ⟨_,rfl,l++[p],rfl,⟨?_,?_⟩,?_⟩
      ·rw [List.pairwise_append]
       exact ⟨hR.1,by simp,fun q hq' s hs=>by simp at hs;subst hs;exact hq q hq'⟩
      ·intro q hq'
       rcases List.mem_append.1 hq' with h|h
       ·exact hR.2 q h
       ·simp at h;subst h;exact ⟨hx,hy⟩
      ·rw [List.take_add_one,List.getElem?_eq_getElem hk,hl,hp,List.map_append];rfl
     by_cases hk0:k=0
     ·subst hk0
      rw [if_neg (by simp)]
      left
      have:l=[]:=List.length_eq_zero_iff.1 hll
      exact hgo fun q hq=>by rw [this] at hq;cases hq
     ·have hk1:wr ((k:Int) - 1)=((k - 1:Nat):Int):=by rw [fH (by omega) (by omega)];omega
      rw [if_pos (by simp;omega),hk1,cV (xs:=r) (k:=k - 1) (by omega),aB]
      have hlast:r[k - 1]'(by omega)=R2 (l[k - 1]'(by omega)):=by
       have h3:(r.take k)[k - 1]?=(l.map R2)[k - 1]?:=by rw [hl]
       rw [List.getElem?_take_of_lt (by omega),List.getElem?_eq_getElem (show k - 1 < r.length by omega),List.getElem?_map,List.getElem?_eq_getElem (show k - 1 < l.length by omega)] at h3
       exact Option.some.inj h3
      rw [hlast,aMp,aB]
      have hc:decide (0≤mE (R2 (l[k - 1]'(by omega))) (R2 p))=!qLt (l[k - 1]'(by omega)) p:=by
       rw [←aGM];unfold lH
       rw [Bool.eq_iff_iff]
       simp only [decide_eq_true_eq,Bool.not_eq_true',decide_eq_false_iff_not]
       omega
      rw [hc]
      cases hlt:qLt (l[k - 1]'(by omega)) p with
      |true=>
       left
       refine hgo fun q hq=>?_
       obtain ⟨i,hi,rfl⟩:=List.mem_iff_getElem.1 hq
       by_cases e:i=k - 1
       ·subst e;exact hlt
       ·exact qLt_tr (List.pairwise_iff_getElem.1 hR.1 i (k - 1) hi (by omega) (by omega)) hlt
      |false=>
       right
       refine ⟨_,hout _ _ rfl,.inr ⟨⟨_,rfl⟩,fun ⟨m,h3,h4⟩=>?_⟩⟩
       have hml:m.length=r.length:=by rw [h4,List.length_map]
       have g1:R2 m[k]=R2 p:=by
        have:r[k]?=(m.map R2)[k]?:=by rw [←h4]
        rw [List.getElem?_eq_getElem hk,List.getElem?_map,List.getElem?_eq_getElem (show k < m.length by omega),hp] at this
        exact (Option.some.inj this).symm
       have g2:R2 m[k - 1]=R2 (l[k - 1]'(by omega)):=by
        have:r[k - 1]?=(m.map R2)[k - 1]?:=by rw [←h4]
        rw [List.getElem?_eq_getElem (show k - 1 < r.length by omega),List.getElem?_map,List.getElem?_eq_getElem (show k - 1 < m.length by omega),hlast] at this
        exact (Option.some.inj this).symm
       have:=List.pairwise_iff_getElem.1 h3.1 (k - 1) k (by omega) (by omega) (by omega)
       rw [←aGM,g1,g2,aGM,hlt] at this
       cases this
    ·rw [if_pos (by simp [hy])]
     right
     refine ⟨_,hout _ _ rfl,.inr ⟨⟨_,rfl⟩,fun ⟨m,h3,h4⟩=>hy ?_⟩⟩
     have hmem:R2 p∈r:=hp ▸ List.getElem_mem hk
     rw [h4,List.mem_map] at hmem
     obtain ⟨q,hq,e⟩:=hmem
     have e':[q.1,q.2]=[p.1,p.2]:=e
     simp only [List.cons.injEq,and_true] at e'
     rw [←e'.2];exact (h3.2 q hq).2
   ·rw [if_pos (by simp [hx])]
    right
    refine ⟨_,hout _ _ rfl,.inr ⟨⟨_,rfl⟩,fun ⟨m,h3,h4⟩=>hx ?_⟩⟩
    have hmem:R2 p∈r:=hp ▸ List.getElem_mem hk
    rw [h4,List.mem_map] at hmem
    obtain ⟨q,hq,e⟩:=hmem
    have e':[q.1,q.2]=[p.1,p.2]:=e
    simp only [List.cons.injEq,and_true] at e'
    rw [←e'.1];exact (h3.2 q hq).1
  ·rw [if_pos (by simp;omega)]
   right
   refine ⟨_,hout _ _ rfl,.inr ⟨⟨_,rfl⟩,fun ⟨m,h3,h4⟩=>h2 ?_⟩⟩
   have hmem:∀ x∈r,x.length=2:=by
    rw [h4]
    intro x hx
    obtain ⟨q,_,rfl⟩:=List.mem_map.1 hx
    rfl
   exact hmem _ (List.getElem_mem hk)
 ·obtain ⟨l,rfl,hR,hl⟩:=hI
  exact ⟨_,by simp only [qM,eJ];rfl,.inl ⟨l,rfl,hR,by rw [←hl,List.take_length]⟩⟩
end
end Gv
namespace Gv
open Go
section
variable {a b:cD} {kind:Int}
def Accd (a b:cD) (kind:Int) (l:List (Int × Int)):Prop:=Rise a b l∧ini2 a b∈l∧∀ p∈l,bsR a b kind p.1 p.2=true∧anR a b kind (yB l) p.1 p.2=true
theorem aLg (ha:cF a) (hb:cF b) (fa:oL 999999999 a) (fb:oL 999999999 b) (hk:0≤kind∧kind≤2) (r:List (List Int)) (hr:r.length < 1000000000):
  ∃ c,kV a b kind r=some c∧(c=true↔∃ l,r=l.map R2∧Accd a b kind l):=by
 obtain ⟨R,h1,h2,h3,h4⟩:=aMq ha hb r hr
 unfold kV
 rw [wY a fa,aGa ha,aB,if_neg (by simp),wY b fb,aGa hb,aB,if_neg (by simp)]
 unfold aCj
 rw [yQ,aB,aB]
 unfold kJ
 rw [if_neg (by simp;omega),h1,aB]
 rcases h2 with h2|h2
 ·rw [h2,if_neg (by simp)]
  refine ⟨false,rfl,⟨fun e=>(by cases e),fun ⟨l,e,hl⟩=>?_⟩⟩
  have:=h3.2 ⟨l,hl.1,e⟩
  rw [h2] at this;cases this
 ·obtain ⟨l,hl,e⟩:=h3.1 h2
  have hR:=h4 l hl e
  subst hR
  simp only [if_true]
  have hg:(kZ (vV l) (a.I,b.I)).getD false=decide (ini2 a b∈l):=aFz _ _
  have inj:∀ {m:List (Int × Int)},r=m.map R2→Rise a b m→m=l:=fun {m} hm hr'=>by
   have:=h4 m hr' hm
   have h5:=congrArg (fun x:List ((Int × Int) × Bool) × Bool=>List.map Prod.fst x.1) this
   simp only [aFy] at h5
   exact h5.symm
  rw [hg]
  by_cases hin:ini2 a b∈l
  ·rw [if_neg (by simp [hin]),aFy,aJS (p:=fun p:Int × Int=>bsR a b kind p.1 p.2&&anR a b kind (yB l) p.1 p.2) fun k hk=>?_,aB]
   ·by_cases hall:∀ p∈l,bsR a b kind p.1 p.2=true∧anR a b kind (yB l) p.1 p.2=true
    ·refine ⟨true,?_,⟨fun _=>⟨l,e,hl,hin,hall⟩,fun _=>rfl⟩⟩
     rw [if_pos]
     ·rfl
     ·rw [decide_eq_true_iff,List.length_filter_eq_length_iff]
      intro p hp
      rw [(hall p hp).1,(hall p hp).2];rfl
    ·refine ⟨false,?_,⟨fun h=>(by cases h),fun ⟨m,hm,hA⟩=>?_⟩⟩
     ·rw [if_neg]
      rw [decide_eq_true_iff,List.length_filter_eq_length_iff]
      intro h
      refine hall fun p hp=>?_
      have:=h p hp
      rw [Bool.and_eq_true] at this
      exact this
     ·have:=inj hm hA.1
      subst this
      exact absurd hA.2.2 hall
   ·unfold lU
    rw [simd_v3,show fI ⟨a.N,a.I,a.L,a.E⟩ ⟨b.N,b.I,b.L,b.E⟩ (vV l) kind k.1 k.2=_ from simd_eq ha hb l k.1 (hl.2 k hk).2,aB]
    cases bsR a b kind k.1 k.2&&anR a b kind (yB l) k.1 k.2<;>rfl
  ·rw [if_pos (by simp [hin])]
   refine ⟨false,rfl,⟨fun h=>(by cases h),fun ⟨m,hm,hA⟩=>?_⟩⟩
   have:=inj hm hA.1
   subst this
   exact absurd hA.2.1 hin
theorem aBb {p:Int × Int}:p∈aAq a b kind↔(iG a p.1∧iG b p.2)∧smG a b kind p.1 p.2=true:=by
 unfold aAq
 rw [ordQ_mem,aHY];rfl
theorem aMr (ha:cF a) (hb:cF b) (h:smG a b kind a.I b.I=true):Accd a b kind (aAq a b kind):=by
 have hai:=ha.2.1
 have hbi:=hb.2.1
 refine ⟨⟨?_,fun p hp=>(aBb.1 hp).1⟩,aBb.2 ⟨⟨?_,?_⟩,h⟩,fun p hp=>?_⟩
 ·unfold aAq ordQ
  exact aCC qLt qLt_irr (fun h1 h2=>qLt_tr h1 h2) qLt_tri (aHZ _)
 ·show iG a a.I
  unfold iG;omega
 ·show iG b b.I
  unfold iG;omega
 ·obtain ⟨⟨hx,hy⟩,hs⟩:=aBb.1 hp
  obtain ⟨h1,h2⟩:=aJY hx hy hs
  refine ⟨h1,?_⟩
  rw [aJc ha hb (T:=smG a b kind) (fun x y hx hy=>?_) hx hy]
  ·exact aDL.2 h2
  ·unfold yB
   rw [Bool.eq_iff_iff,decide_eq_true_iff,aBb]
   exact ⟨fun h=>h.2,fun h=>⟨⟨hx,hy⟩,h⟩⟩
theorem accd_le (ha:cF a) (hb:cF b) {l:List (Int × Int)} (h:Accd a b kind l) {p:Int × Int} (hp:p∈l):p∈aAq a b kind:=by
 rw [aBb]
 refine ⟨h.1.2 p hp,aHW ha hb (R:=yB l) (fun x y hx hy hR=>?_) (h.1.2 p hp).1 (h.1.2 p hp).2 (by unfold yB;simpa using hp)⟩
 have hm:(x,y)∈l:=by unfold yB at hR;simpa using hR
 have:=h.2.2 (x,y) hm
 exact ⟨this.1,aDL.1 this.2⟩
theorem r8Pair_eq (l:List (Int × Int)) (hl:l.length < 1000000000) (x y:Int):aDc (l.map R2) x y=some (decide ((x,y)∈l)):=by
 unfold aDc
 have:=aCo (step:=fun s:Int=>wU (l.map R2) x y s) (l.map R2) (fun r=>!decide (r=R2 (x,y))) (.inr true) (.inl ()) (fun k r hk hx=>?_) (by unfold wU;simp only [eJ];rfl)
 ·rw [this,aB]
  by_cases h:(x,y)∈l
  ·rw [if_neg,decide_eq_true h]
   rw [List.all_eq_true]
   intro h'
   have:=h' (R2 (x,y)) (List.mem_map_of_mem h)
   simp at this
  ·rw [if_pos,decide_eq_false h]
   ·rfl
   ·rw [List.all_eq_true]
    intro r hr
    obtain ⟨p,hp,rfl⟩:=List.mem_map.1 hr
    have:¬ R2 p=R2 (x,y):=fun e=>h (by
     have e':[p.1,p.2]=[x,y]:=e
     simp only [List.cons.injEq,and_true] at e'
     rw [show ((x,y):Int × Int)=p from Prod.ext e'.1.symm e'.2.symm];exact hp)
    simp [this]
 ·obtain ⟨hk',rfl⟩:=tK hx
  have hr:(l.map R2)[k]∈l.map R2:=List.getElem_mem hk'
  obtain ⟨p,hp,e⟩:=List.mem_map.1 hr
  simp only [wU,dE hk,if_pos,hx,aB,←e]
  rw [if_pos (by rfl),show ix (R2 p) 0=some p.1 from rfl,aB,show ix (R2 p) 1=some p.2 from rfl]
  have hiff:R2 p=R2 (x,y)↔p.1=x∧p.2=y:=by
   have:R2 p=R2 (x,y)↔[p.1,p.2]=[x,y]:=Iff.rfl
   rw [this];simp
  rw [List.length_map] at hk
  have hw:wr ((k:Int)+1)=((k+1:Nat):Int):=cO hk (by omega)
  simp only [aB,wT,hw,hiff]
  by_cases h1:p.1=x
  ·by_cases h2:p.2=y<;>simp [h1,h2]
  ·simp [h1]
end
end Gv
