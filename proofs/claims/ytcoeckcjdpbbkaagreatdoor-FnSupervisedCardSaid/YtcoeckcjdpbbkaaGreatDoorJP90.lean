/- Greatest relations between the states of two systems, by rounds. No program in sight. -/
import Derived.Test.YtcoeckcjdpbbkaaGreatDoorJP80
set_option linter.all false
namespace Gv
open Go
def rN (B:Int->Int->Bool) (F:(Int->Int->Bool)->Int->Int->Bool):Nat->Int->Int->Bool
 |0=>B
 |n+1=>fun x y=>rN B F n x y&&F (rN B F n) x y
def prs2 (a b:aP):List (Int × Int):=(List.range a.N.toNat).flatMap fun x:Nat=>(List.range b.N.toNat).map fun y:Nat=>((x:Int),(y:Int))
theorem prs2_mem {a b:aP} {p:Int × Int}:p∈prs2 a b<->rX a p.1/\rX b p.2:=by
 obtain ⟨x0,y0⟩:=p
 unfold prs2 rX
 simp only [List.mem_flatMap,List.mem_map,List.mem_range,Prod.mk.injEq]
 constructor
 ·rintro ⟨x,hx,y,hy,rfl,rfl⟩
  omega
 ·rintro ⟨⟨h1,h2⟩,h3,h4⟩
  exact ⟨x0.toNat,by omega,y0.toNat,by omega,by omega,by omega⟩
theorem aTw (a b:aP):(prs2 a b).Nodup:=by
 unfold prs2 List.Nodup
 rw [List.pairwise_flatMap]
 refine ⟨fun x _=>?_,?_⟩
 ·rw [List.pairwise_map]
  refine List.nodup_range.imp fun {a b} hab e=>?_
  simp only [Prod.mk.injEq] at e
  exact hab (by omega)
 ·refine List.nodup_range.imp fun {a b} hab x hx y hy e=>?_
  obtain ⟨i,_,rfl⟩:=List.mem_map.1 hx
  obtain ⟨j,_,rfl⟩:=List.mem_map.1 hy
  simp only [Prod.mk.injEq] at e
  exact hab (by omega)
section
variable {a b:aP} {B:Int->Int->Bool} {F:(Int->Int->Bool)->Int->Int->Bool}
theorem rN_le {n:Nat} {x y:Int} (h:rN B F (n+1) x y=true):rN B F n x y=true:=by
 unfold rN at h
 rw [Bool.and_eq_true] at h
 exact h.1
theorem rN_base:∀ (n:Nat) {x y:Int},rN B F n x y=true->B x y=true
 |0,_,_,h=>h
 |n+1,_,_,h=>rN_base n (rN_le h)
structure MonoT (a b:aP) (F:(Int->Int->Bool)->Int->Int->Bool):Prop where
 mono:∀ S T:Int->Int->Bool,(∀ x y,rX a x->rX b y->S x y=true->T x y=true)->∀ x y,rX a x->rX b y->F S x y=true->F T x y=true
theorem aQw (hF:MonoT a b F) {R:Int->Int->Bool} (h0:∀ x y,rX a x->rX b y->R x y=true->B x y=true) (h1:∀ x y,rX a x->rX b y->R x y=true->F R x y=true):
  ∀ (n:Nat) {x y:Int},rX a x->rX b y->R x y=true->rN B F n x y=true
 |0,x,y,hx,hy,h=>h0 x y hx hy h
 |n+1,x,y,hx,hy,h=>by
  unfold rN
  rw [Bool.and_eq_true]
  exact ⟨aQw hF h0 h1 n hx hy h,hF.mono R _ (fun x y hx hy h=>aQw hF h0 h1 n hx hy h) x y hx hy (h1 x y hx hy h)⟩
def rL (a b:aP) (B:Int->Int->Bool) (F:(Int->Int->Bool)->Int->Int->Bool) (n:Nat):List (Int × Int):=(prs2 a b).filter fun p=>rN B F n p.1 p.2
def rSt (a b:aP) (B:Int->Int->Bool) (F:(Int->Int->Bool)->Int->Int->Bool) (n:Nat):Prop:=∀ x y:Int,rX a x->rX b y->rN B F (n+1) x y=rN B F n x y
theorem rL_mem {n:Nat} {p:Int × Int}:p∈rL a b B F n<->(rX a p.1/\rX b p.2)/\rN B F n p.1 p.2=true:=by
 unfold rL
 rw [List.mem_filter,prs2_mem]
theorem rL_nodup (n:Nat):(rL a b B F n).Nodup:=(aTw a b).filter _
theorem aQx (n:Nat):rL a b B F (n+1)=(rL a b B F n).filter fun p=>rN B F (n+1) p.1 p.2:=by
 unfold rL
 rw [List.filter_filter]
 refine List.filter_congr fun p _=>?_
 cases h:rN B F (n+1) p.1 p.2 with
 |false=>rfl
 |true=>rw [rN_le h];rfl
theorem rL_le (n:Nat):(rL a b B F (n+1)).length<=(rL a b B F n).length:=by rw [aQx];exact List.length_filter_le _ _
theorem aLX (n:Nat):rSt a b B F n<->(rL a b B F (n+1)).length=(rL a b B F n).length:=by
 rw [aQx,List.length_filter_eq_length_iff]
 constructor
 ·intro h p hp
  have:=rL_mem.1 hp
  rw [h _ _ this.1.1 this.1.2];exact this.2
 ·intro h x y hx hy
  cases h1:rN B F n x y with
  |true=>exact h (x,y) (rL_mem.2 ⟨⟨hx,hy⟩,h1⟩)
  |false=>
   cases h2:rN B F (n+1) x y with
   |false=>rfl
   |true=>rw [rN_le h2] at h1;cases h1
theorem aQy (a b:aP) (B:Int->Int->Bool) (F:(Int->Int->Bool)->Int->Int->Bool):∃ n,rSt a b B F n/\∀ m,m < n->¬ rSt a b B F m:=by
 have hex:∃ n,rSt a b B F n:=by
  refine Classical.byContradiction fun h=>?_
  have h':∀ n,¬ rSt a b B F n:=fun n hn=>h ⟨n,hn⟩
  have key:∀ n,(rL a b B F n).length+n<=(rL a b B F 0).length:=by
   intro n
   induction n with
   |zero=>simp
   |succ n ih=>
    have h1:=rL_le (a:=a) (b:=b) (B:=B) (F:=F) n
    have h2:=h' n
    rw [aLX] at h2
    omega
  have:=key ((rL a b B F 0).length+1)
  omega
 obtain ⟨n,hn⟩:=hex
 induction n using Nat.strongRecOn with
 |ind n ih=>
  by_cases h:∃ m,m < n/\rSt a b B F m
  ·obtain ⟨m,hm,hs⟩:=h
   exact ih m hm hs
  ·exact ⟨n,hn,fun m hm hs=>h ⟨m,hm,hs⟩⟩
noncomputable def rF (a b:aP) (B:Int->Int->Bool) (F:(Int->Int->Bool)->Int->Int->Bool):Nat:=Classical.choose (aQy a b B F)
noncomputable def rG (a b:aP) (B:Int->Int->Bool) (F:(Int->Int->Bool)->Int->Int->Bool) (x y:Int):Bool:=rN B F (rF a b B F) x y
theorem rF_stab:rSt a b B F (rF a b B F):=(Classical.choose_spec (aQy a b B F)).1
theorem rF_min {n:Nat} (h:n < rF a b B F):¬ rSt a b B F n:=(Classical.choose_spec (aQy a b B F)).2 n h
theorem rG_max (hF:MonoT a b F) {R:Int->Int->Bool} (h0:∀ x y,rX a x->rX b y->R x y=true->B x y=true) (h1:∀ x y,rX a x->rX b y->R x y=true->F R x y=true) {x y:Int} (hx:rX a x) (hy:rX b y) (h:R x y=true):rG a b B F x y=true:=
 aQw hF h0 h1 _ hx hy h
theorem loop_rG {σ ρ:Type} {step:σ->Option (σ ⊕ ρ)} (I:Nat->σ->Prop) (R:ρ->Prop)
  (h1:∀ n s,n < rF a b B F->I n s->∃ s',step s=some (.inl s')/\I (n+1) s') (h2:∀ s,I (rF a b B F) s->∃ r,step s=some (.inr r)/\R r) {s:σ} (h0:I 0 s):∃ r,loop step s=some r/\R r:=by
 have key:∀ j n s,n+j=rF a b B F->I n s->∃ r,loop step s=some r/\R r:=by
  intro j
  induction j with
  |zero=>
   intro n s e hI
   obtain rfl:n=rF a b B F:=by omega
   obtain ⟨r,h3,h4⟩:=h2 s hI
   exact ⟨r,by rw [bA,h3],h4⟩
  |succ j ih=>
   intro n s e hI
   obtain ⟨s',h3,h4⟩:=h1 n s (by omega) hI
   rw [bA,h3]
   exact ih (n+1) s' (by omega) h4
 exact key _ 0 s (Nat.zero_add _) h0
end
end Gv
namespace Gv
open Go
end Gv
namespace Gv
open Go
def AftT (t:aP) (S:List Int) (s:aH) (q:Int):Prop:=∃ e∈t.E,kC t e=s/\e.F∈S/\e.To=q
section
variable {t:aP}
theorem AftT.inn (hv:aT t) {S:List Int} {s:aH} {q:Int} (h:AftT t S s q):0<=q/\q < t.N:=by
 obtain ⟨e,he,_,_,rfl⟩:=h
 exact (aQv hv he).2.1
theorem aNM (hv:aT t) {S:List Int} (hS:S.length < 1000000000) (s:aH):∃ R,jK t S s=some R/\aDE R (AftT t S s):=by
 have h300:=hv.2.2.2.1
 have hl:((t.E.filter fun e=>kC t e == s&&S.any fun x=>e.F == x).map (·.To)).length<=300:=by
  rw [List.length_map];exact Nat.le_trans (List.length_filter_le _ _) h300
 refine ⟨iX (srt iLt ((t.E.filter fun e=>kC t e == s&&S.any fun x=>e.F == x).map (·.To))),?_,aPc.iff fun q=>?_⟩
 ·unfold jK
  rw [aBi (step:=fun x:List Int × Int=>fR t S s x.1 x.2) t.E (fun e=>kC t e == s&&S.any fun x=>e.F == x) (·.To) id (fun j out x hj ho hx=>?_) (fun out=>by simp only [fR,aS];rfl),aA]
  ·unfold qL
   simp only [id]
   rw [aHd (by omega),aA,aLs _ (by unfold srt;rw [List.length_mergeSort];omega),aA]
  ·obtain ⟨hj',rfl⟩:=oW hx
   simp only [fR,aV hj,if_pos,hx,aA,oQ (eB hv (List.getElem_mem hj')),uS S _ (show S.length < 4611686018427387904 by omega),qM,oA,aQ hj (show t.E.length < 4611686018427387904 by omega)]
   rw [bX (by simp [hX];omega),aA]
   cases kC t t.E[j] == s<;>cases (S.any fun x=>t.E[j].F == x)<;>rfl
 ·rw [List.mem_map]
  constructor
  ·rintro ⟨e,he,rfl⟩
   rw [List.mem_filter,Bool.and_eq_true,List.any_eq_true] at he
   obtain ⟨h1,h2,x,hx,h3⟩:=he
   rw [beq_iff_eq] at h2 h3
   exact ⟨e,h1,h2,h3 ▸ hx,rfl⟩
  ·rintro ⟨e,h1,h2,h3,rfl⟩
   refine ⟨e,?_,rfl⟩
   rw [List.mem_filter,Bool.and_eq_true,List.any_eq_true,beq_iff_eq]
   exact ⟨h1,h2,_,h3,by simp⟩
theorem aRX (hv:aT t) {S:List Int} (hS:S.length < 1000000000) (s:aH):∃ R,aAj t S s=some R/\aDE R (Cl t (AftT t S s)):=by
 obtain ⟨R1,f1,f2⟩:=aNM hv hS s
 have hn:R1.Nodup:=f2.ord.imp fun h=>by omega
 obtain ⟨R,g1,g2⟩:=aKf hv hn fun q hq=>((f2.mem q).1 hq).inn hv
 exact ⟨R,by unfold aAj;rw [f1,aA,g1];rfl,g2.iff (Cl.iff f2.mem)⟩
theorem txt_tau (hv:aT t) {e:Edge} (he:e∈t.E):kC t e=bL<->e.B=0:=by
 obtain ⟨h0,h1⟩:=tau_at hv
 have:=aDW hv he (s:=bL) (h1 ▸ List.getElem_mem h0)
 have hp:pos t.L bL=((0:Nat):Int):=by rw [←h1];exact aKb hv.2.2.1 h0
 rw [hp] at this
 rw [Bool.eq_iff_iff,beq_iff_eq,beq_iff_eq] at this
 simpa using this
def Wk (t:aP) (y:Int) (s:aH) (w:Int):Prop:=if s=bL then Cl t (·∈[y]) w else Cl t (fun q=>∃ e∈t.E,kC t e=s/\Cl t (·∈[y]) e.F/\e.To=q) w
theorem Wk.inn (hv:aT t) {y:Int} (hy:rX t y) {s:aH} {w:Int} (h:Wk t y s w):rX t w:=by
 unfold rX at hy ⊢
 unfold Wk at h
 split at h
 ·exact h.inn hv fun q hq=>by simp at hq;omega
 ·exact h.inn hv fun q hq=>by
   obtain ⟨e,he,_,_,rfl⟩:=hq
   exact (aQv hv he).2.1
theorem aTy (hv:aT t) {y:Int} (hy:rX t y) (s:aH):∃ R,aBV t y s=some R/\aDE R (Wk t y s):=by
 have h40:=hv.1
 unfold rX at hy
 obtain ⟨R1,g1,g2⟩:=aKf hv (xs:=[y]) (by simp) fun q hq=>by simp at hq;omega
 have hin:∀ q,Cl t (·∈[y]) q->0<=q/\q < ((40:Nat):Int):=fun q hq=>by
  have:=hq.inn hv fun q hq=>by simp at hq;omega
  omega
 have hl:=g2.len (n:=40) hin
 unfold aBV
 rw [g1,aA]
 by_cases hs:s=bL
 ·subst hs
  exact ⟨R1,by rw [if_pos (by decide)],g2.iff fun q=>by unfold Wk;rw [if_pos rfl]⟩
 ·obtain ⟨R,f1,f2⟩:=aRX hv (S:=R1) (by omega) s
  refine ⟨R,?_,f2.iff fun q=>?_⟩
  ·have hb:(s == ([116,97,117]:aH))=false:=beq_eq_false_iff_ne.2 hs
   rw [hb,if_neg (by simp)]
   first|exact f1|(rw [f1];rfl)
  ·unfold Wk
   rw [if_neg hs]
   refine Cl.iff (fun q=>?_) q
   unfold AftT
   constructor
   ·rintro ⟨e,a,b,c,d⟩;exact ⟨e,a,b,(g2.mem _).1 c,d⟩
   ·rintro ⟨e,a,b,c,d⟩;exact ⟨e,a,b,(g2.mem _).2 c,d⟩
def rdy (t:aP) (k:Int):List aH:=iX (srt zF ((t.E.filter fun e=>e.F == k).map (kC t)))
theorem rdy_len (k:Int):(rdy t k).length<=t.E.length:=by
 unfold rdy
 have h1:=aKP (srt zF ((t.E.filter fun e=>e.F == k).map (kC t)))
 unfold srt at h1 ⊢
 rw [List.length_mergeSort,List.length_map] at h1
 exact Nat.le_trans h1 (List.length_filter_le _ _)
end
end Gv
namespace Gv
open Go
def StW (b:aP) (kind y:Int) (s:aH) (w:Int):Prop:=if kind=2 then Wk b y s w else ∃ f∈b.E,f.F=y/\kC b f=s/\f.To=w
def AnP (a b:aP) (kind:Int) (S:Int->Int->Bool) (x y:Int):Prop:=∀ e∈a.E,e.F=x->∃ w,StW b kind y (kC a e) w/\S e.To w=true
def bsR (a b:aP) (kind x y:Int):Bool:=!(kind == 1)||decide (rdy a x=rdy b y)
noncomputable def anR (a b:aP) (kind:Int) (S:Int->Int->Bool) (x y:Int):Bool:=@decide (AnP a b kind S x y) (Classical.propDecidable _)
section
variable {a b:aP} {kind:Int}
theorem aQz {S:Int->Int->Bool} {x y:Int}:anR a b kind S x y=true<->AnP a b kind S x y:=by unfold anR;exact @decide_eq_true_iff _ (Classical.propDecidable _)
theorem StW.inn (hb:aT b) {y:Int} (hy:rX b y) {s:aH} {w:Int} (h:StW b kind y s w):rX b w:=by
 unfold StW at h
 split at h
 ·exact h.inn hb hy
 ·obtain ⟨f,hf,_,_,rfl⟩:=h
  exact (aKQ hb hf).2.1
theorem aNP (ha:aT a) (hb:aT b):MonoT a b (anR a b kind):=⟨fun S T h x y hx hy hS=>by
 rw [aQz] at hS ⊢
 intro e he hex
 obtain ⟨w,h1,h2⟩:=hS e he hex
 exact ⟨w,h1,h _ _ (aKQ ha he).2.1 (h1.inn hb hy) h2⟩⟩
noncomputable def smG (a b:aP) (kind:Int) (x y:Int):Bool:=rG a b (bsR a b kind) (anR a b kind) x y
theorem sm_max (ha:aT a) (hb:aT b) {R:Int->Int->Bool} (h:∀ x y,rX a x->rX b y->R x y=true->bsR a b kind x y=true/\AnP a b kind R x y) {x y:Int} (hx:rX a x) (hy:rX b y) (hR:R x y=true):smG a b kind x y=true:=
 rG_max (aNP ha hb) (fun x y hx hy hR=>(h x y hx hy hR).1) (fun x y hx hy hR=>aQz.2 (h x y hx hy hR).2) hx hy hR
end
end Gv
namespace Gv
open Go
theorem aPi (a b:List aH) (h:a.length < 4611686018427387904):dM a b=some (decide (a=b)):=by
 unfold dM
 by_cases hl:a.length=b.length
 ·rw [if_neg (by simp [hl])]
  have:=aGp (step:=fun s=>fP a b s) (a.zip b) (fun p=>decide (p.1=p.2)) (.inr false) (.inl ()) (fun k x hk hx=>?_) ?_
  ·rw [this,aA]
   by_cases he:a=b
   ·subst he
    have:((a.zip a).all fun p=>decide (p.1=p.2))=true:=by
     rw [List.all_eq_true]
     intro p hp
     obtain ⟨i,hi,rfl⟩:=List.mem_iff_getElem.1 hp
     rw [List.getElem_zip];simp
    rw [if_pos this,decide_eq_true rfl];rfl
   ·have:¬ ((a.zip b).all fun p=>decide (p.1=p.2))=true:=fun h'=>he (List.ext_getElem hl fun i h1 h2=>by
     rw [List.all_eq_true] at h'
     have hiz:i < (a.zip b).length:=by rw [List.length_zip];omega
     have:=h' (a.zip b)[i] (List.getElem_mem hiz)
     rw [List.getElem_zip] at this
     simpa using this)
    rw [if_neg this,decide_eq_false he]
  ·have hzl:(a.zip b).length=a.length:=by rw [List.length_zip];omega
   rw [hzl] at hk
   obtain ⟨hk',rfl⟩:=oW hx
   unfold fP
   rw [if_pos (aV hk),aX hk,aA,aX (by omega),aA,List.getElem_zip]
   by_cases e:a[k]=b[k]'(by omega)
   ·rw [if_neg (by simp [e]),if_pos (by simp [e]),aQ hk h]
   ·rw [if_pos (by simpa using e),if_neg (by simpa using e)]
  ·have hzl:(a.zip b).length=a.length:=by rw [List.length_zip];omega
   rw [hzl]
   unfold fP
   rw [if_neg (by simp)]
 ·rw [if_pos (by simp;omega),decide_eq_false (fun h=>hl (by rw [h]))]
section
variable {a b:aP} {kind:Int}
theorem aKg {t:aP} (hv:aT t) (k:Int):iY t k=some (rdy t k):=by
 have h300:=hv.2.2.2.1
 have hl:(t.E.filter fun e=>e.F == k).length<=t.E.length:=List.length_filter_le _ _
 unfold iY
 rw [aGT t k (by omega),aA]
 have:=jY (step:=fun s:List aH × Int=>nE t (t.E.filter fun e=>e.F == k) s.1 s.2) (t.E.filter fun e=>e.F == k) (fun j (o:List aH)=>(o,(j:Int))) (fun l o=>o++l.map (kC t)) (fun j o=>o.length<=j) (fun j o e l hj hx hI=>?_) (fun o _=>by simp only [nE,aS];simp) (a:=[]) (by simp)
 ·rw [show loop (fun s:List aH × Int=>nE t (t.E.filter fun e=>e.F == k) s.1 s.2) ([],0)=_ from this,aA,List.nil_append]
  unfold rK aCn
  rw [if_pos (by rw [List.length_map];unfold hX;omega),aA,aLm _ (by unfold srt;rw [List.length_mergeSort,List.length_map];omega)]
  rfl
 ·left
  obtain ⟨hj',rfl⟩:=oW hx
  have he:(t.E.filter fun e=>e.F == k)[j]∈t.E:=(List.mem_filter.1 (List.getElem_mem hj')).1
  refine ⟨o++[kC t (t.E.filter fun e=>e.F == k)[j]],?_,by simp;exact hI,by simp⟩
  simp only [nE,aV hj,if_pos,hx,aA,oQ (eB hv he)]
  rw [bX (by simp [hX];omega),aA,aQ hj (show (t.E.filter fun e=>e.F == k).length < 4611686018427387904 by omega)]
def aFL (l:List (Int × Int)) (x y:Int):Bool:=decide ((x,y)∈l)
theorem aRY (l:List (Int × Int)) (x y:Int):(mU (mtt l) (x,y)).getD false=aFL l x y:=aNK (x,y) l
noncomputable def stqB (a b:aP) (kind:Int) (S:Int->Int->Bool) (y:Int) (e:Edge):Bool:=@decide (∃ w,StW b kind y (kC a e) w/\S e.To w=true) (Classical.propDecidable _)
theorem aKh {S:Int->Int->Bool} {y:Int} {e:Edge}:stqB a b kind S y e=true<->∃ w,StW b kind y (kC a e) w/\S e.To w=true:=by unfold stqB;exact @decide_eq_true_iff _ (Classical.propDecidable _)
theorem anR_all {S:Int->Int->Bool} {x y:Int}:anR a b kind S x y=(a.E.filter fun e=>e.F == x).all fun e=>stqB a b kind S y e:=by
 rw [Bool.eq_iff_iff,aQz,List.all_eq_true]
 unfold AnP
 constructor
 ·intro h e he
  rw [List.mem_filter,beq_iff_eq] at he
  exact aKh.2 (h e he.1 he.2)
 ·intro h e he hx
  exact aKh.1 (h e (by rw [List.mem_filter,beq_iff_eq];exact ⟨he,hx⟩))
theorem any_set {R:List Int} {X:Int->Prop} (h:aDE R X) (f:Int->Bool):R.any f=true<->∃ w,X w/\f w=true:=by
 rw [List.any_eq_true]
 constructor
 ·rintro ⟨w,hw,hf⟩;exact ⟨w,(h.mem w).1 hw,hf⟩
 ·rintro ⟨w,hw,hf⟩;exact ⟨w,(h.mem w).2 hw,hf⟩
theorem contW (R:List Int) (hR:R.length < 1000000) (l:List (Int × Int)) (v:Int):eH R a.N a.I a.L a.E b.N b.I b.L b.E (mtt l) v=some (R.any fun w=>aFL l v w):=by
 unfold eH eX
 rw [qR (step:=fun s=>cW R a.N a.I a.L a.E b.N b.I b.L b.E (mtt l) v s) R (fun w=>aFL l v w) (fun k w hk hx=>by
  obtain ⟨_,rfl⟩:=oW hx
  simp only [cW,aV hk,if_pos,hx,aA,aDP,qO,aRY,aQ hk (show R.length < 4611686018427387904 by omega)]) (by simp only [cW,aS];rfl),aA,←aGq]
 cases R.findIdx? (fun w=>aFL l v w) with
 |none=>rfl
 |some i=>rfl
theorem contS (R:List Int) (hR:R.length < 1000000) (l:List (Int × Int)) (v:Int):eI R a.N a.I a.L a.E b.N b.I b.L b.E (mtt l) v=some (R.any fun w=>aFL l v w):=by
 unfold eI eY
 rw [qR (step:=fun s=>cX R a.N a.I a.L a.E b.N b.I b.L b.E (mtt l) v s) R (fun w=>aFL l v w) (fun k w hk hx=>by
  obtain ⟨_,rfl⟩:=oW hx
  simp only [cX,aV hk,if_pos,hx,aA,aCK,qO,aRY,aQ hk (show R.length < 4611686018427387904 by omega)]) (by simp only [cX,aS];rfl),aA,←aGq]
 cases R.findIdx? (fun w=>aFL l v w) with
 |none=>rfl
 |some i=>rfl
theorem weak_eq (hb:aT b) (l:List (Int × Int)) (x:Int) {y:Int} (hy:rX b y) (e:Edge):yR a b (mtt l) x y (kC a e) e.To=some (stqB a b 2 (aFL l) y e):=by
 have h40:=hb.1
 obtain ⟨R,h1,h2⟩:=aTy hb hy (kC a e)
 have hR:R.length<=40:=h2.len (n:=40) fun q hq=>by
  have:=hq.inn hb hy
  unfold rX at this;omega
 unfold yR
 rw [h1,aA,contW R (by omega),aA]
 congr 1
 rw [Bool.eq_iff_iff,any_set h2,aKh]
 unfold StW
 simp only [if_true]
theorem strong_eq (hb:aT b) (hk:kind≠2) (l:List (Int × Int)) (x y:Int) (e:Edge):wB a b (mtt l) x y (kC a e) e.To=some (stqB a b kind (aFL l) y e):=by
 have h40:=hb.1
 obtain ⟨R,h1,h2⟩:=aNM hb (S:=[y]) (by simp) (kC a e)
 have hR:R.length<=40:=h2.len (n:=40) fun q hq=>by
  have:=hq.inn hb
  omega
 unfold wB
 rw [h1,aA,contS R (by omega),aA]
 congr 1
 rw [Bool.eq_iff_iff,any_set h2,aKh]
 unfold StW AftT
 simp only [if_neg hk]
 refine exists_congr fun w=>and_congr_left fun _=>exists_congr fun f=>?_
 simp only [List.mem_singleton]
 exact ⟨fun ⟨a,b,c,d⟩=>⟨a,c,b,d⟩,fun ⟨a,b,c,d⟩=>⟨a,c,b,d⟩⟩
theorem answW (ha:aT a) (hb:aT b) (l:List (Int × Int)) (x:Int) {y:Int} (hy:rX b y):kY a b (mtt l) x y=some (anR a b 2 (aFL l) x y):=by
 have h300:=ha.2.2.2.1
 have hl:(a.E.filter fun e=>e.F == x).length<=a.E.length:=List.length_filter_le _ _
 unfold kY
 rw [aGT a x (by omega),aA]
 have:=aGp (step:=fun s:Int=>kV a b (mtt l) x y (a.E.filter fun e=>e.F == x) s) (a.E.filter fun e=>e.F == x) (fun e=>stqB a b 2 (aFL l) y e) (.inr false) (.inl ()) (fun k e hk hx=>?_) (by simp only [kV,aS];rfl)
 ·rw [this,aA,anR_all]
  cases (a.E.filter fun e=>e.F == x).all fun e=>stqB a b 2 (aFL l) y e<;>rfl
 ·obtain ⟨_,rfl⟩:=oW hx
  have he:(a.E.filter fun e=>e.F == x)[k]∈a.E:=(List.mem_filter.1 (List.getElem_mem hk)).1
  simp only [kV,aV hk,if_pos,hx,aA,oQ (eB ha he)]
  rw [show yR ⟨a.N,a.I,a.L,a.E⟩ ⟨b.N,b.I,b.L,b.E⟩ (mtt l) x y (kC a (a.E.filter fun e=>e.F == x)[k]) (a.E.filter fun e=>e.F == x)[k].To=_ from weak_eq hb l x hy _,aA,aQ hk (show (a.E.filter fun e=>e.F == x).length < 4611686018427387904 by omega)]
  cases stqB a b 2 (aFL l) y (a.E.filter fun e=>e.F == x)[k]<;>simp
theorem answS (ha:aT a) (hb:aT b) (hk:kind≠2) (l:List (Int × Int)) (x y:Int):iN a b (mtt l) x y=some (anR a b kind (aFL l) x y):=by
 have h300:=ha.2.2.2.1
 have hl:(a.E.filter fun e=>e.F == x).length<=a.E.length:=List.length_filter_le _ _
 unfold iN
 rw [aGT a x (by omega),aA]
 have:=aGp (step:=fun s:Int=>iR a b (mtt l) x y (a.E.filter fun e=>e.F == x) s) (a.E.filter fun e=>e.F == x) (fun e=>stqB a b kind (aFL l) y e) (.inr false) (.inl ()) (fun k e hk' hx=>?_) (by simp only [iR,aS];rfl)
 ·rw [this,aA,anR_all]
  cases (a.E.filter fun e=>e.F == x).all fun e=>stqB a b kind (aFL l) y e<;>rfl
 ·obtain ⟨_,rfl⟩:=oW hx
  have he:(a.E.filter fun e=>e.F == x)[k]∈a.E:=(List.mem_filter.1 (List.getElem_mem hk')).1
  simp only [iR,aV hk',if_pos,hx,aA,oQ (eB ha he)]
  rw [show wB ⟨a.N,a.I,a.L,a.E⟩ ⟨b.N,b.I,b.L,b.E⟩ (mtt l) x y (kC a (a.E.filter fun e=>e.F == x)[k]) (a.E.filter fun e=>e.F == x)[k].To=_ from strong_eq hb hk l x y _,aA,aQ hk' (show (a.E.filter fun e=>e.F == x).length < 4611686018427387904 by omega)]
  cases stqB a b kind (aFL l) y (a.E.filter fun e=>e.F == x)[k]<;>simp
theorem simd_eq (ha:aT a) (hb:aT b) (l:List (Int × Int)) (x:Int) {y:Int} (hy:rX b y):gT a b (mtt l) kind x y=some (bsR a b kind x y&&anR a b kind (aFL l) x y):=by
 have h300:=ha.2.2.2.1
 have key:∀ c:Bool,iC a b (mtt l) kind x y c=some (!c&&anR a b kind (aFL l) x y):=by
  intro c
  unfold iC
  cases c with
  |true=>rw [if_pos rfl];rfl
  |false=>
   rw [if_neg (by simp)]
   by_cases h2:kind=2
   ·subst h2
    rw [if_pos (by rfl),show kY ⟨a.N,a.I,a.L,a.E⟩ ⟨b.N,b.I,b.L,b.E⟩ (mtt l) x y=_ from answW ha hb l x hy];rfl
   ·rw [if_neg (by simpa using h2),show iN ⟨a.N,a.I,a.L,a.E⟩ ⟨b.N,b.I,b.L,b.E⟩ (mtt l) x y=_ from answS ha hb h2 l x y];rfl
 unfold gT bsR
 by_cases h1:kind=1
 ·subst h1
  have hl:=rdy_len (t:=a) x
  rw [if_pos (by rfl),aKg ha,aA,aKg hb,aA,aPi _ _ (by omega),aA,key]
  simp
 ·rw [if_neg (by simpa using h1),key]
  have:(kind == 1)=false:=by simpa using h1
  rw [this];rfl
end
end Gv
namespace Gv
open Go
section
variable {a b:aP} {kind:Int}
noncomputable def mN (a b:aP) (kind:Int) (n:Nat) (x y:Int):Bool:=rN (bsR a b kind) (anR a b kind) n x y
noncomputable def mL (a b:aP) (kind:Int) (n:Nat):List (Int × Int):=rL a b (bsR a b kind) (anR a b kind) n
noncomputable def mF (a b:aP) (kind:Int):Nat:=rF a b (bsR a b kind) (anR a b kind)
theorem aQA {n:Nat} {p:Int × Int}:p∈mL a b kind n<->(rX a p.1/\rX b p.2)/\mN a b kind n p.1 p.2=true:=rL_mem
theorem mL_nodup (n:Nat):(mL a b kind n).Nodup:=rL_nodup n
theorem mL_rel {n:Nat} {x y:Int} (hx:rX a x) (hy:rX b y):aFL (mL a b kind n) x y=mN a b kind n x y:=by
 unfold aFL
 rw [Bool.eq_iff_iff,decide_eq_true_iff,aQA]
 exact ⟨fun h=>h.2,fun h=>⟨⟨hx,hy⟩,h⟩⟩
theorem anR_congr (ha:aT a) (hb:aT b) {S T:Int->Int->Bool} (h:∀ x y,rX a x->rX b y->S x y=T x y) {x y:Int} (hx:rX a x) (hy:rX b y):anR a b kind S x y=anR a b kind T x y:=by
 rw [Bool.eq_iff_iff]
 exact ⟨(aNP ha hb).mono S T (fun x y hx hy hS=>(h x y hx hy) ▸ hS) x y hx hy,(aNP ha hb).mono T S (fun x y hx hy hS=>(h x y hx hy).symm ▸ hS) x y hx hy⟩
theorem mround (ha:aT a) (hb:aT b) (n:Nat):mfil (fA a b kind (mtt (mL a b kind n))) (List.map Prod.fst (mtt (mL a b kind n)))=some (mL a b kind (n+1)):=by
 have e:mL a b kind (n+1)=(mL a b kind n).filter fun p=>mN a b kind (n+1) p.1 p.2:=aQx n
 rw [mtt_keys,e]
 refine mfil_eq (p:=fun p:Int × Int=>mN a b kind (n+1) p.1 p.2) fun k hk=>?_
 obtain ⟨⟨hx,hy⟩,hn⟩:=aQA.1 hk
 have h0:bsR a b kind k.1 k.2=true:=rN_base n hn
 unfold fA
 rw [show gT ⟨a.N,a.I,a.L,a.E⟩ ⟨b.N,b.I,b.L,b.E⟩ (mtt (mL a b kind n)) kind k.1 k.2=_ from simd_eq ha hb _ k.1 hy,aA,h0,Bool.true_and,anR_congr ha hb (fun x y hx hy=>mL_rel hx hy) hx hy]
 have:mN a b kind (n+1) k.1 k.2=anR a b kind (mN a b kind n) k.1 k.2:=by
  show (rN _ _ n k.1 k.2&&anR a b kind (rN _ _ n) k.1 k.2)=_
  have hn':rN (bsR a b kind) (anR a b kind) n k.1 k.2=true:=hn
  rw [hn',Bool.true_and];rfl
 rw [this]
 cases anR a b kind (mN a b kind n) k.1 k.2<;>rfl
def ini2 (a b:aP):Int × Int:=(a.I,b.I)
theorem mstep (ha:aT a) (hb:aT b) (n:Nat) (hn:n<=100000) {missing:Int} (hm:0<=missing->ini2 a b∉mL a b kind n):∃ m':Int,(m' < 0<->ini2 a b∈mL a b kind n)/\vI a b kind (mtt (mL a b kind n)) missing (n:Int)=
  if (mL a b kind (n+1)).length=(mL a b kind n).length then some (.inr (mtt (mL a b kind n),m')) else some (.inl (mtt (mL a b kind (n+1)),m',((n+1:Nat):Int))):=by
 have h4:∀ m',qP a b kind (mtt (mL a b kind n)) (n:Int) m'=if (mL a b kind (n+1)).length=(mL a b kind n).length then some (.inr (mtt (mL a b kind n),m')) else some (.inl (mtt (mL a b kind (n+1)),m',((n+1:Nat):Int))):=by
  intro m'
  unfold qP
  rw [mround ha hb,aA,aA,show ([]:List ((Int × Int) × Bool))=mtt [] from rfl,aPh _ [] (by rw [List.nil_append];exact mL_nodup _),List.nil_append]
  unfold aAx aAw
  rw [mtt_len,mtt_len,aQ (show n < 200000 by omega) (by decide)]
  by_cases h:(mL a b kind (n+1)).length=(mL a b kind n).length
  ·rw [if_pos h,if_pos (by simp [h])]
  ·rw [if_neg h,if_neg (by simp;omega)]
 unfold vI
 have hg:(mU (mtt (mL a b kind n)) (a.I,b.I)).getD false=decide (ini2 a b∈mL a b kind n):=aNK _ _
 by_cases hneg:missing < 0
 ·rw [if_pos (by simpa using hneg),hg]
  by_cases hin:ini2 a b∈mL a b kind n
  ·refine ⟨missing,⟨fun _=>hin,fun _=>hneg⟩,?_⟩
   unfold qQ
   rw [if_neg (by simp [hin]),h4]
  ·refine ⟨(n:Int),⟨fun h=>by omega,fun h=>absurd h hin⟩,?_⟩
   unfold qQ
   rw [if_pos (by simp [hin]),h4]
 ·rw [if_neg (by simpa using hneg)]
  refine ⟨missing,⟨fun h=>absurd h hneg,fun h=>absurd h (hm (by omega))⟩,?_⟩
  unfold qQ
  rw [if_neg (by simp),h4]
theorem mF_le (n:Nat):n<=mF a b kind->(mL a b kind n).length+n<=(mL a b kind 0).length:=by
 induction n with
 |zero=>intro _;simp
 |succ n ih=>
  intro hn
  have h1:=ih (by omega)
  have h2:¬ rSt a b (bsR a b kind) (anR a b kind) n:=rF_min (show n < mF a b kind by omega)
  rw [aLX] at h2
  have h3:(mL a b kind (n+1)).length<=(mL a b kind n).length:=rL_le n
  have h4:¬ (mL a b kind (n+1)).length=(mL a b kind n).length:=h2
  omega
theorem aPj {β γ:Type} (c:Nat) (f:β->List γ):∀ l:List β,(∀ x∈l,(f x).length=c)->(l.flatMap f).length=l.length * c
 |[],_=>by simp
 |x::l,h=>by
  rw [List.flatMap_cons,List.length_append,h x (by simp),aPj c f l fun y hy=>h y (by simp [hy]),List.length_cons,Nat.add_mul];omega
theorem prs2_len (ha:aT a) (hb:aT b):(prs2 a b).length<=1600:=by
 have h1:=ha.1
 have h2:=hb.1
 unfold prs2
 rw [aPj b.N.toNat _ _ (fun x _=>by simp),List.length_range]
 have:a.N.toNat * b.N.toNat<=40 * 40:=Nat.mul_le_mul (by omega) (by omega)
 omega
def prW (a b:aP) (kind:Int) (k:Nat):List (Int × Int):=((List.range k).flatMap fun x:Nat=>(List.range b.N.toNat).map fun y:Nat=>((x:Int),(y:Int))).filter fun p=>bsR a b kind p.1 p.2
theorem prW_lt {k:Nat} {p:Int × Int} (h:p∈prW a b kind k):p.1 < k:=by
 unfold prW at h
 rw [List.mem_filter,List.mem_flatMap] at h
 obtain ⟨⟨x,hx,h⟩,_⟩:=h
 obtain ⟨y,_,rfl⟩:=List.mem_map.1 h
 rw [List.mem_range] at hx
 simp only;omega
theorem prW_snoc (k:Nat):prW a b kind (k+1)=prW a b kind k++((List.range b.N.toNat).map fun y:Nat=>((k:Int),(y:Int))).filter fun p=>bsR a b kind p.1 p.2:=by
 unfold prW
 rw [List.range_succ,List.flatMap_append,List.filter_append];simp
theorem prW_all:prW a b kind a.N.toNat=mL a b kind 0:=rfl
theorem mrow (ha:aT a) (hb:aT b) {k:Nat} (hk:k < a.N.toNat):loop (fun s:List ((Int × Int) × Bool) × Int=>mC a b kind (k:Int) s.1 s.2) (mtt (prW a b kind k),0)=some (mtt (prW a b kind (k+1))):=by
 have h40:=hb.1
 have h300:=ha.2.2.2.1
 have key0:=dZ (step:=fun s:List ((Int × Int) × Bool) × Int=>mC a b kind (k:Int) s.1 s.2) b.N.toNat (fun i (m:List ((Int × Int) × Bool))=>(m,(i:Int)))
  (fun i m=>m=mtt (prW a b kind k++((List.range i).map fun y:Nat=>((k:Int),(y:Int))).filter fun p=>bsR a b kind p.1 p.2)) (fun r=>r=mtt (prW a b kind (k+1))) (fun i m hi hI=>?_) (fun m hI=>?_) b.N.toNat 0 (mtt (prW a b kind k)) (by omega) (by simp)
 ·obtain ⟨r,h1,h2⟩:=key0
  have h1':loop (fun s:List ((Int × Int) × Bool) × Int=>mC a b kind (k:Int) s.1 s.2) (mtt (prW a b kind k),0)=some r:=h1
  rw [h1',h2]
 ·subst hI
  have hlt:decide ((i:Int) < b.N)=true:=by simp;omega
  have hnot:((k:Int),(i:Int))∉prW a b kind k++((List.range i).map fun y:Nat=>((k:Int),(y:Int))).filter fun p=>bsR a b kind p.1 p.2:=by
   intro h
   rcases List.mem_append.1 h with h|h
   ·have:=prW_lt h
    simp only at this;omega
   ·obtain ⟨y,hy,e⟩:=List.mem_map.1 (List.mem_filter.1 h).1
    rw [List.mem_range] at hy
    simp only [Prod.mk.injEq] at e
    omega
  have key:∀ c:Bool,c=bsR a b kind (k:Int) (i:Int)->∃ m',pJ (k:Int) (mtt (prW a b kind k++((List.range i).map fun y:Nat=>((k:Int),(y:Int))).filter fun p=>bsR a b kind p.1 p.2)) (i:Int) c=some (.inl (m',((i+1:Nat):Int)))/\m'=mtt (prW a b kind k++((List.range (i+1)).map fun y:Nat=>((k:Int),(y:Int))).filter fun p=>bsR a b kind p.1 p.2):=by
   intro c hc
   unfold pJ tV
   rw [List.range_succ,List.map_append,List.filter_append,←List.append_assoc,List.map_singleton,List.filter_cons,←hc,aQ hi (show b.N.toNat < 4611686018427387904 by omega)]
   cases c with
   |true=>rw [if_pos rfl,aA,aNL hnot];exact ⟨_,rfl,rfl⟩
   |false=>rw [if_neg (by simp)];exact ⟨_,rfl,by simp⟩
  simp only [mC,hlt,if_pos]
  by_cases h1:kind=1
  ·subst h1
   have hl:=rdy_len (t:=a) (k:Int)
   rw [if_neg (by simp),aKg ha,aA,aKg hb,aA,aPi _ _ (by omega),aA]
   exact key _ (by unfold bsR;simp)
  ·rw [if_pos (by simpa using h1)]
   exact key _ (by
     unfold bsR;have:(kind == 1)=false:=by simpa using h1
     rw [this];rfl)
 ·subst hI
  have:decide (((b.N.toNat:Nat):Int) < b.N)=false:=by simp;omega
  exact ⟨_,by simp only [mC,this];rfl,by rw [prW_snoc]⟩
theorem mstart (ha:aT a) (hb:aT b):loop (fun s:List ((Int × Int) × Bool) × Int=>mD a b kind s.1 s.2) (([]:List ((Int × Int) × Bool)),0)=some (mtt (mL a b kind 0)):=by
 have h40:=ha.1
 have key0:=dZ (step:=fun s:List ((Int × Int) × Bool) × Int=>mD a b kind s.1 s.2) a.N.toNat (fun i (m:List ((Int × Int) × Bool))=>(m,(i:Int)))
  (fun i m=>m=mtt (prW a b kind i)) (fun r=>r=mtt (mL a b kind 0)) (fun i m hi hI=>?_) (fun m hI=>?_) a.N.toNat 0 [] (by omega) rfl
 ·obtain ⟨r,h1,h2⟩:=key0
  have h1':loop (fun s:List ((Int × Int) × Bool) × Int=>mD a b kind s.1 s.2) (([]:List ((Int × Int) × Bool)),0)=some r:=h1
  rw [h1',h2]
 ·subst hI
  have:decide ((i:Int) < a.N)=true:=by simp;omega
  simp only [mD,this,if_pos]
  rw [mrow ha hb hi,aA]
  simp only [aDo,aAz,aQ hi (show a.N.toNat < 4611686018427387904 by omega)]
  exact ⟨_,rfl,rfl⟩
 ·subst hI
  have:decide (((a.N.toNat:Nat):Int) < a.N)=false:=by simp;omega
  exact ⟨_,by simp only [mD,this];rfl,by rw [prW_all]⟩
theorem aOm (ha:aT a) (hb:aT b):∃ m:Int,(m < 0<->smG a b kind a.I b.I=true)/\aBX a b kind=some (mtt (mL a b kind (mF a b kind)),m):=by
 have hai:=ha.2.1
 have hbi:=hb.2.1
 have hini:ini2 a b∈mL a b kind (mF a b kind)<->smG a b kind a.I b.I=true:=by
  rw [aQA]
  refine ⟨fun h=>h.2,fun h=>⟨⟨?_,?_⟩,h⟩⟩
  ·show rX a a.I
   unfold rX;omega
  ·show rX b b.I
   unfold rX;omega
 unfold aBX
 rw [mstart ha hb,aA]
 unfold aAy
 have h0:(mL a b kind 0).length<=1600:=Nat.le_trans (List.length_filter_le _ _) (prs2_len ha hb)
 have key0:=loop_rG (a:=a) (b:=b) (B:=bsR a b kind) (F:=anR a b kind) (step:=fun s:List ((Int × Int) × Bool) × Int × Int=>vI a b kind s.1 s.2.1 s.2.2) (fun n s=>n<=mF a b kind/\s.1=mtt (mL a b kind n)/\s.2.2=(n:Int)/\(0<=s.2.1->ini2 a b∉mL a b kind n)) (fun r=>r.1=mtt (mL a b kind (mF a b kind))/\(r.2 < 0<->ini2 a b∈mL a b kind (mF a b kind))) (fun n s hn hs=>?_) (fun s hs=>?_) (s:=(mtt (mL a b kind 0),-1,0)) ⟨Nat.zero_le _,rfl,rfl,fun h=>by simp at h⟩
 ·obtain ⟨r,h1,h2,h3⟩:=key0
  refine ⟨r.2,h3.trans hini,?_⟩
  rw [h1,aA,←h2]
 ·obtain ⟨x,y,z⟩:=s
  obtain ⟨hle,rfl,rfl,hm⟩:=hs
  have hb1:=mF_le n hle
  obtain ⟨m',h1,h2⟩:=mstep ha hb n (by omega) hm
  have hne:¬ rSt a b (bsR a b kind) (anR a b kind) n:=rF_min hn
  rw [aLX] at hne
  have hne':¬ (mL a b kind (n+1)).length=(mL a b kind n).length:=hne
  rw [if_neg hne'] at h2
  refine ⟨_,h2,Nat.succ_le_of_lt hn,rfl,rfl,fun h hin=>?_⟩
  have:ini2 a b∈mL a b kind n:=by
   rw [aQA] at hin ⊢
   exact ⟨hin.1,rN_le hin.2⟩
  have:=h1.2 this
  simp only at h;omega
 ·obtain ⟨x,y,z⟩:=s
  obtain ⟨hle,rfl,rfl,hm⟩:=hs
  have hb1:=mF_le (rF a b (bsR a b kind) (anR a b kind)) hle
  obtain ⟨m',h1,h2⟩:=mstep ha hb (mF a b kind) (by
    have:(mL a b kind (mF a b kind)).length+mF a b kind<=(mL a b kind 0).length:=hb1
    omega) hm
  have hst:=(aLX (a:=a) (b:=b) (B:=bsR a b kind) (F:=anR a b kind) (mF a b kind)).1 rF_stab
  have hst':(mL a b kind (mF a b kind+1)).length=(mL a b kind (mF a b kind)).length:=hst
  rw [if_pos hst'] at h2
  exact ⟨_,h2,rfl,h1⟩
end
end Gv
namespace Gv
open Go
section
variable {a b:aP} {kind:Int}
theorem code_eq (ha:aT a) (hb:aT b) (fa:eZ 999999999 a) (fb:eZ 999999999 b) (hk:0<=kind/\kind<=2):tT a b kind=some 0:=by
 unfold tT
 rw [aId a fa,jL ha,aA,if_neg (by simp),aId b fb,jL hb,aA]
 unfold sS aMB
 rw [if_neg (by simp),aDV,aA,aA,if_neg (by simp;omega)]
theorem aQB (ha:aT a) (hb:aT b) (fa:eZ 999999999 a) (fb:eZ 999999999 b) (hk:0<=kind/\kind<=2):aFo a b kind=some (smG a b kind a.I b.I,0):=by
 obtain ⟨m,h1,h2⟩:=aOm (kind:=kind) ha hb
 unfold aFo aHS
 rw [code_eq ha hb fa fb hk,aA,if_neg (by simp),h2,aA,aA]
 congr 2
 rw [Bool.eq_iff_iff,decide_eq_true_iff];exact h1
def Rise (a b:aP) (l:List (Int × Int)):Prop:=(l.Pairwise fun p q=>qLt p q=true)/\∀ p∈l,rX a p.1/\rX b p.2
theorem Rise.nodup {l:List (Int × Int)} (h:Rise a b l):l.Nodup:=h.1.imp fun {p q} h e=>by subst e;rw [aHa] at h;cases h
instance inT_dec (t:aP) (k:Int):Decidable (rX t k):=by unfold rX;infer_instance
end
end Gv
namespace Gv
open Go
section
variable {a b:aP} {kind:Int}
end
end Gv
namespace Gv
open Go
def unA (a b:aP) (M:List aH):List Edge:=(a.E.map fun e=>(⟨e.F,pos (bL::M) (kC a e),e.To⟩:Edge))++b.E.map fun e=>(⟨e.F+a.N,pos (bL::M) (kC b e),e.To+a.N⟩:Edge)
structure Uni (a b:aP) (M:List aH) (Eo:List Edge):Prop where
 str:rW M
 mem:∀ s,s∈M<->s∈a.L++b.L/\s≠bL
 len:M.length<=24
 se:SE Eo
 ed:∀ x,x∈Eo<->x∈unA a b M
 elen:Eo.length<=600
section
variable {a b:aP}
theorem txt_in {t:aP} (hv:aT t) {e:Edge} (he:e∈t.E):kC t e∈t.L:=by
 have:=(aKQ hv he).2.2
 unfold kC
 rw [List.getD_eq_getElem?_getD,List.getElem?_eq_getElem (by omega)]
 exact List.getElem_mem _
theorem aQC {t:aP} (hv:aT t) {e f:Edge} (he:e∈t.E) (hf:f∈t.E) (h:kC t e=kC t f):e.B=f.B:=by
 have h1:=aDW hv he (txt_in hv he)
 have h2:=aDW hv hf (txt_in hv he)
 rw [beq_self_eq_true] at h1
 rw [h,beq_self_eq_true] at h2
 rw [←h] at h2
 have h1':=beq_iff_eq.1 h1.symm
 have h2':=beq_iff_eq.1 h2.symm
 omega
end
end Gv
namespace Gv
open Go
structure Big (u:aP):Prop where
 st:1<=u.N/\u.N<=100
 lab:u.L.length<=100
 ed:u.E.length<=1000
 inn:∀ e∈u.E,rX u e.F/\rX u e.To/\0<=e.B/\e.B < u.L.length
section
variable {u:aP} {p:List Int}
end
end Gv
namespace Gv
open Go
section
variable {a b:aP}
theorem pos_rng {γ:Type} [BEq γ] [LawfulBEq γ] {xs:List γ} {x:γ} (hx:x∈xs):0<=pos xs x/\pos xs x < xs.length:=by
 obtain ⟨i,e,g⟩:=uU hx
 have:=(List.getElem?_eq_some_iff.1 g).1
 omega
end
end Gv
namespace Gv
open Go
theorem anU_le (x:Int):0<=anU x 255/\anU x 255<=255:=by
 unfold anU
 have h:(BitVec.ofInt 64 x&&& BitVec.ofInt 64 255).toNat<=255:=by
  rw [BitVec.toNat_and]
  exact Nat.le_trans Nat.and_le_right (by decide)
 unfold rY
 omega
theorem shU_ok (x:Int):∃ y,shU x 40=some y:=⟨_,by unfold shU;rw [if_pos (by decide)]⟩
theorem byte_le (b:UInt8):0<=(b.toNat:Int)/\(b.toNat:Int)<=255:=by
 have:=b.toNat_lt
 omega
theorem next_ok (c:aH) {s1:Int} (s2:Int) (h:0<=s1/\s1<=1000000000000):∃ v s2',vV c s1 s2=some (v,s1+1,s2')/\0<=v/\v<=255:=by
 have hw:wr (s1+1)=s1+1:=dE (by omega) (by omega)
 have key:∀ b:Int,0<=b/\b<=255->∃ v s2',tD c s1 s2 b=some (v,s1+1,s2')/\0<=v/\v<=255:=by
  intro b hb
  unfold tD
  rw [hw]
  split
  ·exact ⟨_,_,rfl,hb⟩
  ·obtain ⟨y,hy⟩:=shU_ok (rY ((rY ((rY (s2 * 6364136223846793005))+(rY b)))+1442695040888963407))
   rw [hy,aA]
   have h2:=anU_le y
   refine ⟨_,_,rfl,?_⟩
   rw [dE (by omega) (by omega)];exact h2
 unfold vV
 split
 ·rename_i hlt
  have hlt':s1 < (c.length:Int):=by simpa using hlt
  rw [aOr h.1 (by omega),aA]
  have hb:=byte_le (c[s1.toNat]'(by omega))
  rw [dE (by omega) (by omega)]
  exact key _ hb
 ·exact key 0 (by omega)
theorem rm_ok {x n:Int} (hx:0<=x) (hn:1<=n):∃ v,rm x n=some v/\0<=v/\v < n:=by
 unfold rm
 rw [if_neg (by omega)]
 have e:x.tmod n=x % n:=Int.tmod_eq_emod_of_nonneg hx
 have h1:=Int.emod_nonneg x (show n≠0 by omega)
 have h2:=Int.emod_lt_of_pos x (show 0 < n by omega)
 first
  |exact ⟨_,rfl,by rw [e];exact h1,by rw [e];exact h2⟩
  |exact ⟨_,rfl,by rw [e,dE]<;>omega,by rw [e,dE]<;>omega⟩
theorem lH (c:aH) {s1 n:Int} (s2:Int) (h:0<=s1/\s1<=100000000000) (hn:1<=n):∃ v s1' s2',bO c s1 s2 n=some (v,s1',s2')/\(0<=v/\v < n)/\s1<=s1'/\s1'<=s1+2:=by
 unfold bO
 by_cases h1:n<=1
 ·rw [if_pos (by simpa using h1)]
  exact ⟨_,_,_,rfl,by omega,by omega,by omega⟩
 ·rw [if_neg (by simpa using h1)]
  obtain ⟨v,t2,e,g1,g2⟩:=next_ok c s2 (s1:=s1) (by omega)
  rw [e,aA]
  simp only
  have key:∀ x a b:Int,0<=x->s1<=a->a<=s1+2->∃ v s1' s2',tE n x a b=some (v,s1',s2')/\(0<=v/\v < n)/\s1<=s1'/\s1'<=s1+2:=by
   intro x a b hx ha hb
   unfold tE
   obtain ⟨y,hy,q1,q2⟩:=rm_ok hx (show 1<=n by omega)
   rw [hy,aA]
   exact ⟨_,_,_,rfl,⟨q1,q2⟩,ha,hb⟩
  by_cases h2:200 < n
  ·rw [if_pos (by simpa using h2)]
   obtain ⟨v',t2',e',g1',g2'⟩:=next_ok c t2 (s1:=s1+1) (by omega)
   rw [e',aA]
   simp only
   rw [dE (x:=v * 256) (by omega) (by omega),dE (by omega) (by omega)]
   exact key _ _ _ (by omega) (by omega) (by omega)
  ·rw [if_neg (by simpa using h2)]
   exact key _ _ _ g1 (by omega) (by omega)
theorem aFM (c:aH) {s1 n:Int} (s2:Int) (h:0<=s1/\s1<=100000000000) (hn:1<=n):∃ b s1' s2',iH c s1 s2 n=some (b,s1',s2')/\s1<=s1'/\s1'<=s1+2:=by
 obtain ⟨v,a,b,e,_,h2,h3⟩:=lH c s2 h hn
 unfold iH
 rw [e,aA]
 exact ⟨_,_,_,rfl,h2,h3⟩
theorem among_ok (c:aH) {s1:Int} (s2:Int) (h:0<=s1/\s1<=100000000000) {l:List Int} (hl:l≠[]):∃ v s1' s2',aBG c s1 s2 l=some (v,s1',s2')/\v∈l/\s1<=s1'/\s1'<=s1+2:=by
 have h1:1<=(l.length:Int):=by
  have:=List.length_pos_iff.2 hl
  omega
 obtain ⟨v,a,b,e,hv,h2,h3⟩:=lH c s2 h h1
 unfold aBG
 rw [e,aA]
 simp only
 rw [aOr hv.1 (by omega),aA]
 exact ⟨_,_,_,rfl,List.getElem_mem _,h2,h3⟩
end Gv
namespace Gv
open Go
def Nm:List aH:=[bL,[97],[98],[99],[103,101,116,40,48,41],[103,101,116,40,49,41]]
theorem Nm_lab:∀ s∈Nm,aDD s=true:=by decide
theorem Nm_len:∀ s∈Nm,s.length<=6:=by decide
structure Drn (c:Nat) (t:aP):Prop where
 ok:aT t
 nm:∀ s∈t.L,s∈Nm
 st:t.N<=10
 ed:t.E.length<=c
theorem Drn.fits {c:Nat} {t:aP} (h:Drn c t):eZ 999999999 t:=by
 have h1:=h.ok.2.2.1.2.1
 have h2:=h.ok.2.2.2.1
 refine ⟨by omega,fun s hs=>?_,by omega⟩
 have:=Nm_len s (h.nm s hs)
 omega
theorem Drn.mono {c d:Nat} {t:aP} (h:Drn c t) (hc:c<=d):Drn d t:=⟨h.ok,h.nm,h.st,Nat.le_trans h.ed hc⟩
theorem aLY (l:List Edge):SE (iX (srt bK l)):=by
 have h1:(srt bK l).Pairwise fun a b=>bK b a=false:=by
  have:=List.pairwise_mergeSort (le:=fun a b=>!bK b a) (fun a b c h1 h2=>?_) (fun a b=>?_) l
  ·refine this.imp fun {a b} h=>?_
   simpa using h
  ·simp only [Bool.not_eq_true'] at h1 h2 ⊢
   cases h3:bK c a with
   |false=>rfl
   |true=>
    have:=aPg h3 h1
    rw [h2] at this;cases this
  ·cases h3:bK b a with
   |false=>simp
   |true=>simp [aJl h3]
 exact aGU (R:=fun a b=>bK b a=false) (S:=fun a b=>bK a b=true) (fun h hne=>aPf h hne) (fun h h'=>aPg h h') h1
theorem aNR (l:List Edge):(iX (srt bK l)).length<=l.length:=by
 have:=aKP (srt bK l)
 unfold srt at this ⊢
 rwa [List.length_mergeSort] at this
theorem aNS {l:List Edge} {x:Edge}:x∈iX (srt bK l)<->x∈l:=by
 rw [aGs];unfold srt;rw [List.mem_mergeSort]
theorem labs_nm {M:List aH} (hM:rW M) (hn:∀ s∈M,s∈Nm):pW (bL::M):=by
 have hnd:M.Nodup:=hM.1.imp fun {a b} h e=>by subst e;rw [uT] at h;cases h
 have hl:M.length<=5:=by
  have:=List.Nodup.length_le_of_subset (l₁:=bL::M) (l₂:=Nm) (List.nodup_cons.2 ⟨hM.2,hnd⟩) (fun x hx=>by
   rcases List.mem_cons.1 hx with rfl|hx
   ·simp [Nm]
   ·exact hn x hx)
  have h6:Nm.length=6:=rfl
  rw [List.length_cons] at this
  omega
 refine ⟨by simp,by simp;omega,fun _=>rfl,fun k h1 hk=>?_⟩
 obtain ⟨k,rfl⟩:∃ j,k=j+1:=⟨k - 1,by omega⟩
 have hk':k < M.length:=by simpa using hk
 have hm:M[k]∈M:=List.getElem_mem hk'
 rw [List.getElem_cons_succ]
 refine ⟨Nm_lab _ (hn _ hm),fun e=>hM.2 (e ▸ hm),fun h2=>?_⟩
 obtain ⟨k,rfl⟩:∃ j,k=j+1:=⟨k - 1,by omega⟩
 have:=List.pairwise_iff_getElem.1 hM.1 k (k+1) (by omega) hk' (by omega)
 simpa using this
theorem make_ok {T:List aH} (hT:∀ s∈T,s∈Nm) (hTl:T.length<=100) {st ini:Int} (h1:1<=st/\st<=10) (h2:0<=ini/\ini < st) {edges:List Edge} (hl:edges.length<=300)
  (he:∀ e∈edges,(0<=e.F/\e.F < st)/\(0<=e.To/\e.To < st)/\0<=e.B/\e.B < T.length):∃ t,qG st ini T edges=some t/\Drn edges.length t/\t.N=st/\t.I=ini:=by
 obtain ⟨M,_,j2,j3,j4⟩:=aNJ T (by omega)
 have hM:∀ s∈M,s∈Nm:=fun s hs=>hT s ((j3 s).1 hs).1
 refine ⟨⟨st,ini,bL::M,iX (srt bK (edges.map fun e=>(⟨e.F,pos (bL::M) (T.getD e.B.toNat []),e.To⟩:Edge)))⟩,aRU (by omega) j2 j3 (by omega) (fun e h=>(he e h).2.2) (aLY _) (fun x=>?_) st ini,⟨⟨by show 1<=st/\st<=40;omega,by show 0<=ini/\ini<=st - 1;omega,labs_nm j2 hM,aRW ?_ (aLY _) fun x hx=>?_⟩,fun s hs=>?_,by show st<=10;omega,?_⟩,rfl,rfl⟩
 ·rw [aNS,List.mem_map]
  exact ⟨fun ⟨e,h,g⟩=>⟨e,h,g.symm⟩,fun ⟨e,h,g⟩=>⟨e,h,g.symm⟩⟩
 ·have:=aNR (edges.map fun e=>(⟨e.F,pos (bL::M) (T.getD e.B.toNat []),e.To⟩:Edge))
  rw [List.length_map] at this
  exact Nat.le_trans this hl
 ·obtain ⟨e,h,rfl⟩:=List.mem_map.1 (aNS.1 hx)
  obtain ⟨g1,g2,g3,g4⟩:=he e h
  have hin:T.getD e.B.toNat []∈bL::M:=by
   have hmem:T.getD e.B.toNat []∈T:=by
    rw [List.getD_eq_getElem?_getD,List.getElem?_eq_getElem (by omega)]
    exact List.getElem_mem _
   by_cases ht:T.getD e.B.toNat []=bL
   ·rw [ht];simp
   ·exact List.mem_cons_of_mem _ ((j3 _).2 ⟨hmem,ht⟩)
  have:=pos_rng hin
  show (0<=e.F/\e.F<=st - 1)/\(0<=e.To/\e.To<=st - 1)/\0<=pos (bL::M) (T.getD e.B.toNat [])/\pos (bL::M) (T.getD e.B.toNat [])<=((bL::M).length:Int) - 1
  omega
 ·rcases List.mem_cons.1 hs with rfl|hs
  ·simp [Nm]
  ·exact hM s hs
 ·have:=aNR (edges.map fun e=>(⟨e.F,pos (bL::M) (T.getD e.B.toNat []),e.To⟩:Edge))
  rw [List.length_map] at this
  exact this
theorem names_ok (c:aH) {s1:Int} (s2:Int) (h:0<=s1/\s1<=10000000000):∃ L s1' s2',xJ c s1 s2=some (L,s1',s2')/\((∀ s∈L,s∈Nm)/\1<=L.length/\L.length<=7)/\s1<=s1'/\s1'<=s1+10:=by
 have key:=dZ (step:=fun s:Int × Int × List aH × Int=>nI c s.1 s.2.1 s.2.2.1 s.2.2.2) 5 (fun k (a:Int × Int × List aH)=>(a.1,a.2.1,a.2.2,(k:Int))) (fun k a=>(∀ s∈a.2.2,s∈Nm)/\1<=a.2.2.length/\a.2.2.length<=1+k/\s1<=a.1/\a.1<=s1+2 * k)
  (fun r=>(∀ s∈r.1,s∈Nm)/\1<=r.1.length/\r.1.length<=6/\s1<=r.2.1/\r.2.1<=s1+10) (fun k a hk hI=>?_) (fun a hI=>?_) 5 0 (s1,s2,[bL]) (by omega) ⟨by simp [Nm],by simp,by simp,by simp,by simp⟩
 ·obtain ⟨r,h1,g1,g2,g3,g4,g5⟩:=key
  unfold xJ
  have h1':loop (fun s:Int × Int × List aH × Int=>nI c s.1 s.2.1 s.2.2.1 s.2.2.2) (s1,s2,[bL],0)=some r:=h1
  rw [show ([([116,97,117]:aH)]:List aH)=[bL] from rfl,h1',aA]
  unfold wK wJ
  split
  ·rw [bX (by simp [hX];omega),aA]
   refine ⟨_,_,_,rfl,⟨fun s hs=>?_,by simp,by simp;omega⟩,g4,g5⟩
   rcases List.mem_append.1 hs with hs|hs
   ·exact g1 s hs
   ·simp at hs;subst hs;simp [Nm]
  ·exact ⟨_,_,_,rfl,⟨g1,g2,by omega⟩,g4,g5⟩
 ·obtain ⟨x,y,o⟩:=a
  obtain ⟨g1,g2,g3,g4,g5⟩:=hI
  simp only at g1 g2 g3 g4 g5 ⊢
  obtain ⟨b,t1,t2,e,h3,h4⟩:=aFM c y (s1:=x) (n:=2) (by omega) (by omega)
  have hw:wr ((k:Int)+1)=((k+1:Nat):Int):=aQ hk (by omega)
  unfold nI
  rw [if_pos (by simp;omega),e,aA]
  have hno:kM (k:Int) t1 t2 o=some (.inl (t1,t2,o,((k+1:Nat):Int))):=by unfold kM;rw [hw]
  have key:∀ v:Bool,∃ a':Int × Int × List aH,rA o (k:Int) t1 t2 v=some (.inl (a'.1,a'.2.1,a'.2.2,((k+1:Nat):Int)))/\(∀ s∈a'.2.2,s∈Nm)/\1<=a'.2.2.length/\a'.2.2.length<=1+(k+1)/\s1<=a'.1/\a'.1<=s1+2 * ((k+1:Nat):Int):=by
   intro v
   unfold rA
   cases v with
   |false=>
    rw [if_neg (by simp),hno]
    exact ⟨(t1,t2,o),rfl,g1,g2,by simp only;omega,by simp only;omega,by simp only;omega⟩
   |true=>
    have hkl:k < ([([97]:aH),([98]:aH),([99]:aH),([103,101,116,40,48,41]:aH),([103,101,116,40,49,41]:aH)]:List aH).length:=hk
    rw [if_pos rfl,aX hkl,aA,bX (by simp [hX];omega),aA]
    unfold kM
    rw [hw]
    refine ⟨(t1,t2,_),rfl,fun s hs=>?_,by simp,by simp;omega,by simp only;omega,by simp only;omega⟩
    rcases List.mem_append.1 hs with hs|hs
    ·exact g1 s hs
    ·rw [List.mem_singleton] at hs
     have:s∈([([97]:aH),([98]:aH),([99]:aH),([103,101,116,40,48,41]:aH),([103,101,116,40,49,41]:aH)]:List aH):=hs ▸ List.getElem_mem hkl
     exact List.mem_cons_of_mem _ this
  split
  ·exact key _
  ·exact key _
 ·obtain ⟨x,y,o⟩:=a
  obtain ⟨g1,g2,g3,g4,g5⟩:=hI
  simp only at g1 g2 g3 g4 g5 ⊢
  refine ⟨(o,x,y),?_,g1,g2,by simp only;omega,g4,by simp only;omega⟩
  unfold nI
  rw [if_neg (by simp)]
end Gv
namespace Gv
open Go
def EdOk (st:Int) (n:Nat) (e:Edge):Prop:=(0<=e.F/\e.F < st)/\(0<=e.To/\e.To < st)/\0<=e.B/\e.B < n
section
variable {c:aH} {r9 r14:Int × Int × Int} {base st:Int}
def aNT (K:List Int) (base st:Int):Prop:=(K.length:Int)=st/\∀ i,(hi:i < K.length)->(0<=K[i]/\K[i] < base)/\((i:Int) < base->K[i]=(i:Int))
theorem kinds_ok (hb:1<=base/\base<=4) (hs:base<=st/\st<=6) (e1:wr (1+r9.1)=base) (e2:wr (base+r14.1)=st) {s1:Int} (s2:Int) (h:0<=s1/\s1<=10000000000):
  ∃ a b K,loop (fun s:Int × Int × List Int × Int=>qJ c r9 r14 s.1 s.2.1 s.2.2.1 s.2.2.2) (s1,s2,([]:List Int),0)=some (a,b,K)/\aNT K base st/\s1<=a/\a<=s1+12:=by
 have key:=dZ (step:=fun s:Int × Int × List Int × Int=>qJ c r9 r14 s.1 s.2.1 s.2.2.1 s.2.2.2) st.toNat (fun k (a:Int × Int × List Int)=>(a.1,a.2.1,a.2.2,(k:Int))) (fun k a=>(a.2.2.length=k/\∀ i,(hi:i < a.2.2.length)->(0<=a.2.2[i]/\a.2.2[i] < base)/\((i:Int) < base->a.2.2[i]=(i:Int)))/\s1<=a.1/\a.1<=s1+2 * k)
  (fun r=>aNT r.2.2 base st/\s1<=r.1/\r.1<=s1+12) (fun k a hk hI=>?_) (fun a hI=>?_) st.toNat 0 (s1,s2,[]) (by omega) ⟨⟨rfl,fun i hi=>by simp at hi⟩,by simp,by simp⟩
 ·obtain ⟨⟨a,b,K⟩,h1,g1,g2,g3⟩:=key
  exact ⟨a,b,K,h1,g1,g2,g3⟩
 ·obtain ⟨x,y,o⟩:=a
  obtain ⟨⟨g1,g2⟩,g3,g4⟩:=hI
  simp only at g1 g2 g3 g4 ⊢
  have hw:wr ((k:Int)+1)=((k+1:Nat):Int):=aQ hk (by omega)
  have hadd:∀ v:Int,(0<=v/\v < base)->((k:Int) < base->v=(k:Int))->(o++[v]).length=k+1/\∀ i,(hi:i < (o++[v]).length)->(0<=(o++[v])[i]/\(o++[v])[i] < base)/\((i:Int) < base->(o++[v])[i]=(i:Int)):=by
   intro v h1 h2
   refine ⟨by simp;exact g1,fun i hi=>?_⟩
   by_cases hl:i < o.length
   ·rw [List.getElem_append_left hl];exact g2 i hl
   ·have:i=o.length:=by simp at hi;omega
    subst this
    rw [List.getElem_append_right (Nat.le_refl _)]
    simp only [Nat.sub_self,List.getElem_cons_zero]
    exact ⟨h1,fun h=>by rw [g1] at h ⊢;exact h2 h⟩
  unfold qJ
  rw [e1,e2,if_pos (by simp;omega)]
  by_cases hkb:(k:Int) < base
  ·rw [if_pos (by simpa using hkb),bX (by simp [hX];omega),aA]
   unfold qI
   rw [hw]
   exact ⟨(x,y,o++[(k:Int)]),rfl,hadd _ (by omega) (fun _=>rfl),by simp only;omega,by simp only;omega⟩
  ·rw [if_neg (by simpa using hkb)]
   obtain ⟨v,t1,t2,e,q1,q2,q3⟩:=lH c y (s1:=x) (n:=base) (by omega) (by omega)
   rw [e,aA,bX (by simp [hX];omega),aA]
   unfold qI
   rw [hw]
   exact ⟨(t1,t2,o++[v]),rfl,hadd _ q1 (fun h=>absurd h hkb),by simp only;omega,by simp only;omega⟩
 ·obtain ⟨x,y,o⟩:=a
  obtain ⟨⟨g1,g2⟩,g3,g4⟩:=hI
  simp only at g1 g2 g3 g4 ⊢
  refine ⟨(x,y,o),?_,⟨by simp only;omega,g2⟩,g3,by simp only;omega⟩
  unfold qJ
  rw [e1,e2,if_neg (by simp;omega)]
theorem alike_ok {r219:Int × Int × Int} {K:List Int} (hb:1<=base/\base<=4) (hs:base<=st/\st<=6) (e1:wr (1+r9.1)=base) (e2:wr (base+r14.1)=st) (hK:aNT K base st) (hto:0<=r219.1/\r219.1 < base):
  ∃ l,loop (fun s:List Int × Int=>nA r9 r14 K r219 s.1 s.2) (([]:List Int),0)=some l/\l≠[]/\∀ z∈l,0<=z/\z < st:=by
 have hKl:=hK.1
 have key:=dZ (step:=fun s:List Int × Int=>nA r9 r14 K r219 s.1 s.2) st.toNat (fun k (a:List Int)=>(a,(k:Int))) (fun k a=>a.length<=k/\(r219.1 < k->r219.1∈a)/\∀ z∈a,0<=z/\z < st) (fun r=>r≠[]/\∀ z∈r,0<=z/\z < st) (fun k a hk hI=>?_) (fun a hI=>?_) st.toNat 0 [] (by omega) ⟨by simp,fun h=>by omega,by simp⟩
 ·obtain ⟨l,h1,h2⟩:=key
  exact ⟨l,h1,h2⟩
 ·obtain ⟨g1,g2,g3⟩:=hI
  have hkl:k < K.length:=by omega
  have hw:wr ((k:Int)+1)=((k+1:Nat):Int):=aQ hk (by omega)
  show ∃ a',nA r9 r14 K r219 a (k:Int)=_/\_
  unfold nA xO
  rw [e1,e2,if_pos (by simp;omega),aX hkl,aA,hw]
  by_cases he:K[k]=r219.1
  ·rw [if_pos (by simpa using he),bX (by simp [hX];omega),aA]
   refine ⟨_,rfl,by simp;omega,fun h=>?_,fun z hz=>?_⟩
   ·by_cases hlt:r219.1 < k
    ·exact List.mem_append_left _ (g2 hlt)
    ·exact List.mem_append_right _ (by simp;omega)
   ·rcases List.mem_append.1 hz with hz|hz
    ·exact g3 z hz
    ·simp at hz;omega
  ·rw [if_neg (by simpa using he)]
   refine ⟨_,rfl,by omega,fun h=>g2 ?_,g3⟩
   have:=(hK.2 k hkl).2
   by_cases hlt:r219.1 < k
   ·exact hlt
   ·exfalso
    have e:r219.1=(k:Int):=by omega
    exact he (by rw [e];exact this (by omega))
 ·obtain ⟨g1,g2,g3⟩:=hI
  refine ⟨a,?_,fun h=>?_,g3⟩
  ·show nA r9 r14 K r219 a ((st.toNat:Nat):Int)=_
   unfold nA
   rw [e1,e2,if_neg (by simp;omega)]
  ·have:=g2 (by omega)
   rw [h] at this;cases this
theorem edges_row {r209 r214 r219:Int × Int × Int} {K:List Int} {nl:Nat} (hb:1<=base/\base<=4) (hs:base<=st/\st<=6) (e1:wr (1+r9.1)=base) (e2:wr (base+r14.1)=st) (hK:aNT K base st) (hto:0<=r219.1/\r219.1 < base) (hlab:0<=r214.1/\r214.1 < nl)
  {s1:Int} (s2:Int) (h:0<=s1/\s1<=10000000000) {ed:List Edge} (hed:∀ e∈ed,EdOk st nl e) (hel:ed.length<=1000):
  ∃ a b ed',loop (fun s:Int × Int × List Edge × Int=>tJ c r9 r14 K r209 r214 r219 s.1 s.2.1 s.2.2.1 s.2.2.2) (s1,s2,ed,0)=some (a,b,ed')/\(∀ e∈ed',EdOk st nl e)/\ed'.length<=ed.length+6/\s1<=a/\a<=s1+12:=by
 have hKl:K.length=st.toNat:=by have:=hK.1;omega
 have hst9:st.toNat < 4611686018427387904:=by omega
 obtain ⟨al,ha1,ha2,ha3⟩:=alike_ok (r9:=r9) (r14:=r14) (r219:=r219) hb hs e1 e2 hK hto
 have key:=dZ (step:=fun s:Int × Int × List Edge × Int=>tJ c r9 r14 K r209 r214 r219 s.1 s.2.1 s.2.2.1 s.2.2.2) st.toNat (fun k (a:Int × Int × List Edge)=>(a.1,a.2.1,a.2.2,(k:Int))) (fun k a=>(∀ e∈a.2.2,EdOk st nl e)/\a.2.2.length<=ed.length+k/\s1<=a.1/\a.1<=s1+2 * k)
  (fun r=>(∀ e∈r.2.2,EdOk st nl e)/\r.2.2.length<=ed.length+6/\s1<=r.1/\r.1<=s1+12) (fun k a hk hI=>?_) (fun a hI=>?_) st.toNat 0 (s1,s2,ed) (by omega) ⟨hed,by simp,by simp,by simp⟩
 ·obtain ⟨⟨a,b,K⟩,h1,g1,g2,g3⟩:=key
  exact ⟨a,b,K,h1,g1,g2,g3⟩
 ·obtain ⟨x,y,o⟩:=a
  obtain ⟨g1,g2,g3,g4⟩:=hI
  simp only at g1 g2 g3 g4 ⊢
  have hkl:k < K.length:=by rw [hKl];exact hk
  unfold tJ
  rw [e1,e2,if_pos (by simp;omega),aX hkl,aA]
  unfold xN xM
  rw [aQ hk (show st.toNat < 4611686018427387904 from hst9)]
  by_cases he:K[k]=r209.1
  ·rw [if_neg (by simp [he]),ha1,aA]
   obtain ⟨v,t1,t2,e,q1,q2,q3⟩:=among_ok c y (s1:=x) (by omega) ha2
   rw [e,aA,bX (by simp [hX];omega),aA]
   have hv:=ha3 v q1
   refine ⟨(t1,t2,_),rfl,fun e he=>?_,by simp;omega,by simp only;omega,by simp only;omega⟩
   rcases List.mem_append.1 he with he|he
   ·exact g1 e he
   ·rw [List.mem_singleton] at he
    subst he
    exact ⟨by simp only;omega,by simp only;omega,hlab⟩
  ·rw [if_pos (by simpa using he)]
   exact ⟨(x,y,o),rfl,g1,by simp only;omega,by simp only;omega,by simp only;omega⟩
 ·obtain ⟨x,y,o⟩:=a
  obtain ⟨g1,g2,g3,g4⟩:=hI
  simp only at g1 g2 g3 g4 ⊢
  refine ⟨(x,y,o),?_,g1,by simp only;omega,g3,by simp only;omega⟩
  unfold tJ
  rw [e1,e2,if_neg (by simp;omega)]
theorem edges_all {r19:List aH × Int × Int} {K:List Int} (hb:1<=base/\base<=4) (hs:base<=st/\st<=6) (e1:wr (1+r9.1)=base) (e2:wr (base+r14.1)=st) (hK:aNT K base st) (hL:1<=r19.1.length/\r19.1.length<=7) {s1 m:Int} (s2:Int) (h:0<=s1/\s1<=1000000000) (hm:0<=m/\m<=9):
  ∃ a b ed,loop (fun s:Int × Int × List Edge × Int=>qH c r9 r14 r19 K s.1 s.2.1 s.2.2.1 s.2.2.2) (s1,s2,([]:List Edge),m)=some (a,b,ed)/\(∀ e∈ed,EdOk st r19.1.length e)/\ed.length<=54/\s1<=a/\a<=s1+200:=by
 have key:=dZ (step:=fun s:Int × Int × List Edge × Int=>qH c r9 r14 r19 K s.1 s.2.1 s.2.2.1 s.2.2.2) m.toNat (fun k (a:Int × Int × List Edge)=>(a.1,a.2.1,a.2.2,m - (k:Int))) (fun k a=>(∀ e∈a.2.2,EdOk st r19.1.length e)/\a.2.2.length<=6 * k/\s1<=a.1/\a.1<=s1+18 * k)
  (fun r=>(∀ e∈r.2.2,EdOk st r19.1.length e)/\r.2.2.length<=54/\s1<=r.1/\r.1<=s1+200) (fun k a hk hI=>?_) (fun a hI=>?_) m.toNat 0 (s1,s2,[]) (by omega) ⟨by simp,by simp,by simp,by simp⟩
 ·obtain ⟨⟨a,b,K⟩,h1,g1,g2,g3⟩:=key
  exact ⟨a,b,K,by simpa using h1,g1,g2,g3⟩
 ·obtain ⟨x,y,o⟩:=a
  obtain ⟨g1,g2,g3,g4⟩:=hI
  simp only at g1 g2 g3 g4 ⊢
  obtain ⟨v,t1,t2,q,q1,q2,q3⟩:=lH c y (s1:=x) (n:=base) (by omega) (by omega)
  obtain ⟨v',t1',t2',q',q1',q2',q3'⟩:=lH c t2 (s1:=t1) (n:=(r19.1.length:Int)) (by omega) (by omega)
  obtain ⟨v'',t1'',t2'',q'',q1'',q2'',q3''⟩:=lH c t2' (s1:=t1') (n:=base) (by omega) (by omega)
  obtain ⟨a,b,ed',p1,p2,p3,p4,p5⟩:=edges_row (c:=c) (r9:=r9) (r14:=r14) (r209:=(v,t1,t2)) (r214:=(v',t1',t2')) (r219:=(v'',t1'',t2'')) (nl:=r19.1.length) hb hs e1 e2 hK q1'' q1' t2'' (s1:=t1'') (by omega) g1 (by omega)
  unfold qH
  rw [if_pos (by simp;omega),e1,q,aA,q',aA,q'',aA,p1,aA]
  unfold aBI aBH
  have hw:wr (m - (k:Int) - 1)=m - ((k+1:Nat):Int):=by rw [dE (by omega) (by omega)];omega
  rw [hw]
  exact ⟨(a,b,ed'),rfl,p2,by simp only;omega,by simp only;omega,by simp only;omega⟩
 ·obtain ⟨x,y,o⟩:=a
  obtain ⟨g1,g2,g3,g4⟩:=hI
  simp only at g1 g2 g3 g4 ⊢
  refine ⟨(x,y,o),?_,g1,by simp only;omega,g3,by simp only;omega⟩
  unfold qH
  rw [if_neg (by simp;omega)]
end
theorem drawOk_ok (c:aH) {s1:Int} (s2:Int) (h:0<=s1/\s1<=100000000):∃ t s1' s2',aCZ c s1 s2=some (t,s1',s2')/\(Drn 55 t/\t.N<=6)/\s1<=s1'/\s1'<=s1+300:=by
 obtain ⟨v9,a9,b9,x9,y9,z9,w9⟩:=lH c s2 (s1:=s1) (n:=4) (by omega) (by omega)
 have e1:wr (1+v9)=1+v9:=dE (by omega) (by omega)
 have e1':wr (7 - (1+v9))=7 - (1+v9):=dE (by omega) (by omega)
 obtain ⟨v14,a14,b14,x14,y14,z14,w14⟩:=lH c b9 (s1:=a9) (n:=7 - (1+v9)) (by omega) (by omega)
 have e2:wr (1+v9+v14)=1+v9+v14:=dE (by omega) (by omega)
 obtain ⟨L,a19,b19,x19,⟨y19,y19',y19''⟩,z19,w19⟩:=names_ok c b14 (s1:=a14) (by omega)
 have hb:1<=1+v9/\1+v9<=4:=by omega
 have hs:1+v9<=1+v9+v14/\1+v9+v14<=6:=by omega
 obtain ⟨ak,bk,K,xk,yk,zk,wk⟩:=kinds_ok (c:=c) (r9:=(v9,a9,b9)) (r14:=(v14,a14,b14)) hb hs e1 e2 b19 (s1:=a19) (by omega)
 have e3:wr (2+wr (2 * (1+v9)))=2+2 * (1+v9):=by rw [dE (x:=2 * (1+v9)) (by omega) (by omega),dE (by omega) (by omega)]
 obtain ⟨vm,am,bm,xm,ym,zm,wm⟩:=lH c bk (s1:=ak) (n:=2+2 * (1+v9)) (by omega) (by omega)
 obtain ⟨ae,be,ed,xe,ye,ye',ze,we⟩:=edges_all (c:=c) (r9:=(v9,a9,b9)) (r14:=(v14,a14,b14)) (r19:=(L,a19,b19)) hb hs e1 e2 yk ⟨y19',y19''⟩ bm (s1:=am) (m:=vm) (by omega) (by omega)
 have hfin:∀ (s t:Int) (E:List Edge),(∀ e∈E,EdOk (1+v9+v14) L.length e)->E.length<=55->ae<=s->s<=ae+8->∃ t' s1' s2',xK c (v9,a9,b9) (v14,a14,b14) (L,a19,b19) s t E=some (t',s1',s2')/\(Drn 55 t'/\t'.N<=6)/\ae<=s1'/\s1'<=ae+10:=by
  intro s t E hE hEl hs1 hs2
  unfold xK
  simp only
  rw [e1,e2]
  obtain ⟨v,a,b,q,q1,q2,q3⟩:=lH c t (s1:=s) (n:=1+v9+v14) (by omega) (by omega)
  obtain ⟨t',m1,m2,m3,m4⟩:=make_ok y19 (by omega) (st:=1+v9+v14) (ini:=v) (by omega) q1 (edges:=E) (by omega) (fun e he=>by have:=hE e he;unfold EdOk at this;exact ⟨this.1,this.2.1,this.2.2⟩)
  rw [q,aA,m1,aA]
  exact ⟨_,_,_,rfl,⟨m2.mono hEl,by omega⟩,by simp only;omega,by simp only;omega⟩
 unfold aCZ
 rw [x9,aA]
 simp only
 rw [e1,e1',x14,aA,x19,aA,xk,aA]
 unfold vB
 simp only
 rw [e1,e3,xm,aA,xe,aA]
 unfold xL
 simp only
 rw [e1,e2]
 obtain ⟨bb,ao,bo,xo,zo,wo⟩:=aFM c be (s1:=ae) (n:=3) (by omega) (by omega)
 rw [xo,aA]
 simp only
 cases bb with
 |false=>
  rw [if_neg (by simp)]
  obtain ⟨t',s1',s2',r1,r2,r3,r4⟩:=hfin ao bo ed ye (by omega) (by omega) (by omega)
  exact ⟨t',s1',s2',r1,r2,by omega,by omega⟩
 |true=>
  rw [if_pos rfl]
  obtain ⟨v1,a1,b1,p1,p1',p1'',p1'''⟩:=lH c bo (s1:=ao) (n:=1+v9+v14) (by omega) (by omega)
  obtain ⟨v2,a2,b2,p2,p2',p2'',p2'''⟩:=lH c b1 (s1:=a1) (n:=(L.length:Int)) (by omega) (by omega)
  obtain ⟨v3,a3,b3,p3,p3',p3'',p3'''⟩:=lH c b2 (s1:=a2) (n:=1+v9+v14) (by omega) (by omega)
  rw [p1,aA,p2,aA,p3,aA,bX (by simp [hX];omega),aA]
  obtain ⟨t',s1',s2',r1,r2,r3,r4⟩:=hfin a3 b3 (ed++[⟨v1,v2,v3⟩]) (fun e he=>by
   rcases List.mem_append.1 he with he|he
   ·exact ye e he
   ·rw [List.mem_singleton] at he
    subst he
    exact ⟨p1',p3',p2'⟩) (by simp;omega) (by omega) (by omega)
  exact ⟨t',s1',s2',r1,r2,by omega,by omega⟩
end Gv
namespace Gv
open Go
section
variable {u:aP} {p:List Int}
end
section
variable {p:List Int} {rows:List (List Int)}
end
section
variable {u:aP} {p:List Int}
end
end Gv
namespace Gv
open Go
section
variable {u:aP} {p:List Int}
end
section
variable {t:aP} {c:Nat} {p:List Int}
end
end Gv
set_option linter.unusedSimpArgs false
set_option linter.unusedVariables false
namespace Gv
open Go
section
variable {t:aP} {c0:Nat} (cs:aH)
def cap (t:aP) (k:Nat):Nat:=(t.E.filter fun e=>decide (e.F < (k:Int))).length+60 * (k - t.N.toNat)
end
end Gv
set_option linter.unusedSimpArgs false
set_option linter.unusedVariables false
namespace Gv
open Go
section
variable {a b:aP} {p:List Int}
end
end Gv
set_option linter.unusedSimpArgs false
set_option linter.unusedVariables false
namespace Gv
open Go
theorem long_ok (cs ms:aH):∃ b,aHM cs ms=some b:=by
 unfold aHM aFg
 split<;>exact ⟨_,rfl⟩
section
variable {a b:aP} {kind:Int}
end
end Gv
