/- Steps in systems that may be larger than valid ones. -/
import Derived.Test.YtnaggbljhaoimaaGreatDoorJP90
set_option linter.all false
namespace Gv
open Go
structure Hug (u:aW):Prop where
 st:1<=u.N/\u.N<=100
 lab:u.L.length<=100
 ed:u.E.length<=900000
 inn:∀ e∈u.E,jY u e.F/\jY u e.To/\0<=e.B/\e.B < u.L.length
theorem Big.hug {u:aW} (h:Big u):Hug u:=⟨h.st,h.lab,Nat.le_trans h.ed (by decide),h.inn⟩
section
variable {u:aW} {p:List Int}
theorem vl1_wrH (hu:Hug u) (hp:fQ u p) {e:Edge} (he:e∈u.E):wr (wr (e.B * u.N)+p.getD e.To.toNat 0)=vl1 u p e:=by
 have h1:=hu.inn e he
 have h2:=(jM hp h1.2.1).2
 have h3:=hu.st
 have h4:=hu.lab
 have h5:=mul_b (l:=e.B) (m:=100) (s:=u.N) (n:=100) h1.2.2.1 (by omega) (by omega) (by omega)
 unfold vl1
 rw [dH (x:=e.B * u.N) (by omega) (by omega),dH (by omega) (by omega)]
theorem aJH (hu:Hug u) {κ:Type} [DecidableEq κ] [BEq κ] [LawfulBEq κ] {l:List κ} (h:l.length=u.N.toNat):fQ u (cn l):=by
 have:=hu.st
 refine ⟨by rw [aBJ,h],fun z hz=>?_⟩
 have:=cn_in hz
 omega
end
structure aBK (u:aW):Prop where
 big:Hug u
 lab:∃ M,u.L=dN::M/\nT M
section
variable {u:aW}
theorem aBK.edge (h:aBK u) {e:Edge} (he:e∈u.E):xL u e:=by
 obtain ⟨h1,h2,h3,h4⟩:=h.big.inn e he
 unfold jY at h1 h2
 exact ⟨⟨by omega,by omega⟩,⟨by omega,by omega⟩,h3,by omega⟩
theorem aBK.tau (h:aBK u) {e:Edge} (he:e∈u.E):txt u e=dN<->e.B=0:=by
 obtain ⟨M,hM,hs⟩:=h.lab
 obtain ⟨_,_,h3,h4⟩:=h.big.inn e he
 unfold txt
 rw [hM] at h4 ⊢
 rw [List.length_cons] at h4
 by_cases h0:e.B=0
 ·rw [h0];exact ⟨fun _=>rfl,fun _=>rfl⟩
 ·have:e.B.toNat=(e.B.toNat - 1)+1:=by omega
  rw [this,List.getD_cons_succ,List.getD_eq_getElem?_getD,List.getElem?_eq_getElem (by omega)]
  exact ⟨fun g=>absurd (g ▸ List.getElem_mem _) hs.2,fun g=>absurd g h0⟩
theorem aftT_in (h:aBK u) {S:List Int} {s:aV} {q:Int} (hq:AftT u S s q):jY u q:=by
 obtain ⟨e,he,_,_,rfl⟩:=hq
 exact (h.big.inn e he).2.1
theorem cl_in (h:aBK u) {X:Int->Prop} (h0:∀ q,X q->jY u q) {q:Int} (hq:Cl u X q):jY u q:=by
 induction hq with
 |base h1=>exact h0 _ h1
 |step he _ _ _=>exact (h.big.inn _ he).2.1
theorem followU (h:aBK u) {S:List Int} (hS:S.length < 1000000000) (s:aV):∃ R,wH u S s=some R/\aCo R (AftT u S s):=by
 have hed:=h.big.ed
 have hl:((u.E.filter fun e=>txt u e == s&&S.any fun x=>e.F == x).map (·.To)).length<=900000:=by
  rw [List.length_map];exact Nat.le_trans (List.length_filter_le _ _) hed
 refine ⟨eW (yE iLt ((u.E.filter fun e=>txt u e == s&&S.any fun x=>e.F == x).map (·.To))),?_,aHt.iff fun q=>?_⟩
 ·unfold wH
  rw [yY (step:=fun x:List Int × Int=>pL u S s x.1 x.2) u.E (fun e=>txt u e == s&&S.any fun x=>e.F == x) (·.To) id (fun j out x hj ho hx=>?_) (fun out=>by simp only [pL,bJ];rfl),aA]
  ·unfold tY
   simp only [id]
   rw [aDG (by omega),aA,aHT _ (by unfold yE;rw [List.length_mergeSort];omega),aA]
  ·obtain ⟨hj',rfl⟩:=zX hx
   simp only [pL,bI hj,if_pos,hx,aA,aMC (h.edge (List.getElem_mem hj')),aDC S _ (show S.length < 4611686018427387904 by omega),tZ,pK,bD hj (show u.E.length < 4611686018427387904 by omega)]
   rw [dM (by simp [iQ];omega),aA]
   cases txt u u.E[j] == s<;>cases (S.any fun x=>u.E[j].F == x)<;>rfl
 ·rw [List.mem_map]
  constructor
  ·rintro ⟨e,he,rfl⟩
   rw [List.mem_filter,Bool.and_eq_true,List.any_eq_true] at he
   obtain ⟨h1,h2,x,hx,h3⟩:=he
   rw [beq_iff_eq] at h2 h3
   exact ⟨e,h1,h2,h3 ▸ hx,rfl⟩
  ·rintro ⟨e,h1,h2,h3,rfl⟩
   refine ⟨e,?_,rfl⟩
   rw [List.mem_filter,Bool.and_eq_true,List.any_eq_true,beq_iff_eq]
   exact ⟨h1,h2,_,h3,by simp⟩
theorem aKV (h:aBK u) {R:List Int} {X:Int->Prop} (hR:aCo R X) (h0:∀ q,X q->jY u q):R.length<=100:=by
 have:=h.big.st
 exact hR.len (n:=100) fun q hq=>by
  have:=h0 q hq
  unfold jY at this;omega
theorem internalU (h:aBK u) {xs:List Int} (hn:xs.Nodup) (h0:∀ q∈xs,jY u q):∃ R,lR u xs=some R/\aCo R (Cl u (·∈xs)):=by
 have h100:=h.big.st
 have hlen:∀ {o:List Int},o.Nodup->(∀ q∈o,Cl u (·∈xs) q)->o.length<=100:=fun {o} h1 h2=>by
  have:=List.Nodup.length_le_of_subset (l₂:=(List.range 100).map Int.ofNat) h1 (fun x hx=>by
   have:=cl_in h h0 (h2 x hx)
   unfold jY at this
   rw [List.mem_map]
   exact ⟨x.toNat,by rw [List.mem_range];omega,by show ((x.toNat:Nat):Int)=x;omega⟩)
  simpa using this
 have hx0:=hlen hn fun q hq=>.base hq
 have hloop:=kN (step:=fun s:List Int × Int=>mV u s.1 s.2)
  (fun s=>∃ k:Nat,s.2=(k:Int)/\k<=s.1.length/\s.1.Nodup/\(∀ q∈xs,q∈s.1)/\(∀ q∈s.1,Cl u (·∈xs) q)/\∀ j,(hj:j < s.1.length)->j < k->∀ e∈u.E,e.B=0->e.F=s.1[j]->e.To∈s.1)
  (fun s=>101 - s.2.toNat) (fun r=>r.Nodup/\r.length<=100/\∀ q,q∈r<->Cl u (·∈xs) q) (fun s hI=>?_) (s:=(xs,0)) ⟨0,rfl,Nat.zero_le _,hn,fun _ h=>h,fun q hq=>.base hq,fun j _ h=>by omega⟩
 ·obtain ⟨r,h1,h2,h3,h4⟩:=hloop
  refine ⟨yE iLt r,?_,(aNO h2).iff h4⟩
  unfold lR dX
  rw [dM (by simp [iQ];omega),aA,List.nil_append,aA,h1,aA]
  unfold qQ
  rw [aDG (by omega)];rfl
 ·obtain ⟨o,i⟩:=s
  obtain ⟨k,rfl,hk,hnd,hsub,hcl,hdone⟩:=hI
  simp only at hk hnd hsub hcl hdone
  have ho:=hlen hnd hcl
  by_cases hlt:k < o.length
  ·left
   obtain ⟨R,hf,hR⟩:=followU h (S:=[o[k]]) (by simp) dN
   have hRl:R.length<=100:=aKV h hR fun q hq=>aftT_in h hq
   have hin:=lB (step:=fun s:List Int × Int=>kG R s.1 s.2) R (fun j a=>(a,(j:Int))) (fun l a=>l.foldl aEb a) (fun j a=>a.length<=100+j) (fun j a x l hj hx hI=>?_) (fun a _=>by simp only [kG,bJ];rfl) (a:=o) ho
   ·obtain ⟨g1,g2,g3,g4⟩:=aKP R o hnd
    have hcl':∀ q∈R.foldl aEb o,Cl u (·∈xs) q:=fun q hq=>by
     rcases (g3 q).1 hq with g|g
     ·exact hcl q g
     ·obtain ⟨e,he,hl,hfr,rfl⟩:=(hR.mem q).1 g
      simp only [List.mem_singleton] at hfr
      exact .step he ((h.tau he).1 hl) (hfr ▸ hcl _ (List.getElem_mem hlt))
    refine ⟨(R.foldl aEb o,((k+1:Nat):Int)),?_,⟨k+1,rfl,Nat.le_trans hlt g1.length_le,g2,fun q hq=>(g3 q).2 (.inl (hsub q hq)),hcl',fun j hj hjk e he hl hfr=>?_⟩,by simp only;omega⟩
    ·simp only [mV,bI hlt,if_pos,bA hlt,aA]
     rw [show ([116,97,117]:aV)=dN from rfl,hf,aA,show loop (fun s:List Int × Int=>kG R s.1 s.2) (o,0)=_ from hin,aA]
     simp only [wI,qR,bD hlt (show o.length < 4611686018427387904 by omega)]
    ·simp only at hj hfr ⊢
     have hjo:j < o.length:=by omega
     have e1:(R.foldl aEb o)[j]=o[j]:=(g1.getElem hjo).symm
     rw [e1] at hfr
     rw [g3]
     by_cases hjk':j < k
     ·exact .inl (hdone j hjo hjk' e he hl hfr)
     ·obtain rfl:j=k:=by omega
      exact .inr ((hR.mem _).2 ⟨e,he,(h.tau he).2 hl,by simp [hfr],rfl⟩)
   ·left
    have hI':a.length<=100+j:=hI
    simp only [kG,bI hj,if_pos,hx,aA,aDC a _ (show a.length < 4611686018427387904 by omega),mU,bD hj (show R.length < 4611686018427387904 by omega)]
    rw [aHu,dM (by simp [iQ];omega),aA,List.foldl_cons]
    unfold aEb
    by_cases hm:x∈a
    ·rw [if_pos hm];exact ⟨a,by simp [hm],by omega,rfl⟩
    ·rw [if_neg hm];exact ⟨a++[x],by simp [hm],by simp;omega,rfl⟩
  ·right
   have hke:k=o.length:=by omega
   refine ⟨o,?_,hnd,ho,fun q=>⟨fun hq=>hcl q hq,fun hq=>?_⟩⟩
   ·simp only [mV,hke,bJ];rfl
   ·induction hq with
    |base g=>exact hsub _ g
    |step he hl _ ih=>
     obtain ⟨j,hj,ej⟩:=List.getElem_of_mem ih
     exact hdone j hj (by omega) _ he hl ej.symm
end
end Gv
namespace Gv
open Go
def wX (p:List Int) (x y:Int):Prop:=p.getD x.toNat 0=p.getD y.toNat 0
def Pres (u:aW) (F:List Int->List Int) (R:Int->Int->Prop):Prop:=
 ∀ q,fQ u q->(∀ x y,jY u x->jY u y->R x y->wX q x y)->∀ x y,jY u x->jY u y->R x y->wX (F q) x y
structure Crs (u:aW) (F:List Int->List Int) (p:List Int):Prop where
 part:fQ u p
 fix:F p=p
 low:∀ R,Pres u F R->∀ x y,jY u x->jY u y->R x y->wX p x y
section
variable {u:aW}
end
end Gv
namespace Gv
open Go
def inL (q:List Int) (e:Edge):Bool:=e.B == 0&&(q.getD e.F.toNat 0 == q.getD e.To.toNat 0)
def cN (u:aW) (q:List Int):aW:=⟨u.N,u.I,u.L,u.E.filter (inL q)⟩
section
variable {u v:aW} {q:List Int}
theorem sS {e:Edge}:inL q e=true<->e.B=0/\wX q e.F e.To:=by
 unfold inL wX
 rw [Bool.and_eq_true,beq_iff_eq,beq_iff_eq]
theorem xN {e:Edge}:e∈(cN u q).E<->e∈u.E/\e.B=0/\wX q e.F e.To:=by
 show e∈u.E.filter (inL q)<->_
 rw [List.mem_filter,sS]
theorem aMU (h:Hug u) (hq:fQ u q):mG u q=some (cN u q):=by
 have hed:=h.ed
 unfold mG aDt
 have key:=lB (step:=fun s:List Edge × Int=>qB u q s.1 s.2) u.E (fun j (o:List Edge)=>(o,(j:Int))) (fun l o=>o++l.filter (inL q)) (fun j o=>o.length<=j) (fun j o e l hj hx hI=>?_) (fun o _=>by simp only [qB,bJ];simp) (a:=[]) (by simp)
 ·rw [show loop (fun s:List Edge × Int=>qB u q s.1 s.2) ([],0)=_ from key,aA,List.nil_append];rfl
 ·left
  obtain ⟨hj',rfl⟩:=zX hx
  obtain ⟨h1,h2,_⟩:=h.inn _ (List.getElem_mem hj')
  have hw:=bD hj (show u.E.length < 4611686018427387904 by omega)
  have hc:lM u.E[j] q=some (inL q u.E[j]):=by
   unfold lM inL
   cases u.E[j].B == 0 with
   |false=>rfl
   |true=>rw [if_pos rfl,(jM hq h1).1,aA,(jM hq h2).1,aA];rfl
  refine ⟨if inL q u.E[j]=true then o++[u.E[j]] else o,?_,by split<;>(try rw [List.length_append,List.length_singleton])<;>omega,?_⟩
  ·simp only [qB,bI hj,if_pos,hx,aA,hc,tM,hw]
   cases inL q u.E[j] with
   |true=>rw [if_pos rfl,dM (by simp [iQ];omega),aA];rfl
   |false=>rfl
  ·rw [List.filter_cons]
   cases inL q u.E[j]<;>simp
theorem aDf (h:aBK u):aBK (cN u q):=
 ⟨⟨h.big.st,h.big.lab,Nat.le_trans (List.length_filter_le _ _) h.big.ed,fun e he=>h.big.inn e (xN.1 he).1⟩,h.lab⟩
def vD (v:aW) (d:List Bool) (k:Int):Bool:=(v.E.filter fun e=>e.F == k).any fun e=>e.B == 0&&d.getD e.To.toNat false
theorem aDg {d:List Bool} {k:Int}:vD v d k=true<->∃ e∈v.E,e.F=k/\e.B=0/\d.getD e.To.toNat false=true:=by
 unfold vD
 rw [List.any_eq_true]
 constructor
 ·rintro ⟨e,he,h⟩
  rw [List.mem_filter,beq_iff_eq] at he
  rw [Bool.and_eq_true,beq_iff_eq] at h
  exact ⟨e,he.1,he.2,h.1,h.2⟩
 ·rintro ⟨e,h1,h2,h3,h4⟩
  exact ⟨e,by rw [List.mem_filter,beq_iff_eq];exact ⟨h1,h2⟩,by rw [Bool.and_eq_true,beq_iff_eq];exact ⟨h3,h4⟩⟩
def aGQ (v:aW) (X:Int->Prop):Prop:=∀ x,X x->∃ e∈v.E,e.F=x/\e.B=0/\X e.To
structure DivS (v:aW) (d:List Bool):Prop where
 len:d.length=v.N.toNat
 step:∀ k:Nat,d[k]?=some true->vD v d (k:Int)=true
 max:∀ X,aGQ v X->∀ k:Nat,k < d.length->X (k:Int)->d[k]?=some true
theorem goes_eq (h:Hug v) {d:List Bool} (hd:d.length=v.N.toNat) (k:Int):(ob (xH v k) fun r=>cY r d)=some (vD v d k):=by
 have hed:=h.ed
 rw [out_eq v k (by omega),aA]
 unfold vD
 have hin:∀ e∈v.E.filter (fun e=>e.F == k),jY v e.To:=fun e he=>(h.inn e (List.mem_filter.1 he).1).2.1
 have hl:(v.E.filter fun e=>e.F == k).length<=v.E.length:=List.length_filter_le _ _
 generalize v.E.filter (fun e=>e.F == k)=es at hin hl ⊢
 unfold cY dO
 rw [sQ (step:=fun s=>cD es d s) es (fun e=>e.B == 0&&d.getD e.To.toNat false) (fun i x hi hx=>by
  obtain ⟨_,rfl⟩:=zX hx
  have ht:=hin _ (List.getElem_mem hi)
  unfold jY at ht
  have hc:lN es[i] d=some (es[i].B == 0&&d.getD es[i].To.toNat false):=by
   unfold lN
   cases es[i].B == 0 with
   |false=>rfl
   |true=>rw [if_pos rfl,ix_getD ht.1 (by omega),aA];rfl
  simp only [cD,bI hi,if_pos,hx,aA,hc,bD hi (show es.length < 4611686018427387904 by omega)]) (by simp only [cD,bJ];rfl),aA,←aJn]
 cases es.findIdx? (fun e=>e.B == 0&&d.getD e.To.toNat false) with
 |none=>rfl
 |some i=>simp
theorem aFf {d:List Bool} {k:Nat}:d.getD k false=true<->d[k]?=some true:=by
 rw [List.getD_eq_getElem?_getD]
 cases d[k]? with
 |none=>simp
 |some b=>simp
theorem aNS (h:Hug v) {d0:List Bool} (hd:d0.length=v.N.toNat) (hmax:∀ X,aGQ v X->∀ k:Nat,k < d0.length->X (k:Int)->d0[k]?=some true):
  ∃ d m,loop (fun s:List Bool × Bool × Int=>fC v d0 s.1 s.2.1 s.2.2) (d0,false,0)=some (d,m)/\d.length=v.N.toNat/\(∀ X,aGQ v X->∀ k:Nat,k < d.length->X (k:Int)->d[k]?=some true)/\(m=true->d.count true < d0.count true)/\
   (m=false->d=d0/\∀ k:Nat,d[k]?=some true->vD v d (k:Int)=true):=by
 have h100:=h.st
 have key:=iA (step:=fun s:List Bool × Bool × Int=>fC v d0 s.1 s.2.1 s.2.2) d0.length (fun j (a:List Bool × Bool)=>(a.1,a.2,(j:Int)))
  (fun j a=>a.1.length=v.N.toNat/\(∀ X,aGQ v X->∀ k:Nat,k < a.1.length->X (k:Int)->a.1[k]?=some true)/\(a.2=true->a.1.count true < d0.count true)/\a.1.count true<=d0.count true/\(a.2=false->a.1=d0/\∀ k:Nat,k < j->a.1[k]?=some true->vD v a.1 (k:Int)=true))
  (fun r=>r.1.length=v.N.toNat/\(∀ X,aGQ v X->∀ k:Nat,k < r.1.length->X (k:Int)->r.1[k]?=some true)/\(r.2=true->r.1.count true < d0.count true)/\(r.2=false->r.1=d0/\∀ k:Nat,r.1[k]?=some true->vD v r.1 (k:Int)=true))
  (fun j a hj hI=>?_) (fun a hI=>?_) d0.length 0 (d0,false) (by omega) ⟨hd,hmax,(fun g=>by cases g),Nat.le_refl _,fun _=>⟨rfl,fun k hk=>by omega⟩⟩
 ·obtain ⟨⟨d,m⟩,e,g1,g2,g3,g4⟩:=key
  exact ⟨d,m,e,g1,g2,g3,g4⟩
 ·obtain ⟨d,m⟩:=a
  obtain ⟨g1,g2,g3,g4,g5⟩:=hI
  simp only at g1 g2 g3 g4 g5
  have hjd:j < d.length:=by omega
  have hw:=bD hj (show d0.length < 4611686018427387904 by omega)
  have hstep:fC v d0 d m (j:Int)=(if d[j]=true then fB d m (j:Int) (!vD v d (j:Int)) else fB d m (j:Int) false):=by
   unfold fC
   rw [if_pos (bI hj)]
   have:=goes_eq h g1 (j:Int)
   cases ho:xH v (j:Int) with
   |none=>rw [ho] at this;cases this
   |some r=>
    rw [ho,aA] at this
    rw [aA,this,aA,bA hjd,aA]
  show ∃ a',fC v d0 d m (j:Int)=_/\_
  rw [hstep]
  by_cases hdj:d[j]=true
  ·rw [if_pos hdj]
   cases hg:vD v d (j:Int) with
   |true=>
    refine ⟨(d,m),by unfold fB iD;rw [Bool.not_true,if_neg (by simp),hw],g1,g2,g3,g4,fun hm=>⟨(g5 hm).1,fun k hk hk'=>?_⟩⟩
    by_cases e:k=j
    ·subst e;exact hg
    ·exact (g5 hm).2 k (by omega) hk'
   |false=>
    have hc:(d.set j false).count true < d.count true:=aFX (b:=true) (by rw [List.getElem?_eq_getElem hjd,hdj])
    refine ⟨(d.set j false,true),?_,by rw [List.length_set];exact g1,fun X hX k hk hXk=>?_,fun _=>by simp only;omega,by simp only;omega,fun hm=>by cases hm⟩
    ·unfold fB iD
     rw [Bool.not_false,if_pos rfl,bA hjd,aA,kS _ hjd,aA,hw]
    ·simp only at hk ⊢
     rw [List.length_set] at hk
     by_cases e:j=k
     ·subst e
      exfalso
      obtain ⟨e,he,e1,e2,e3⟩:=hX _ hXk
      have ht:=(h.inn e he).2.1
      unfold jY at ht
      have:vD v d (j:Int)=true:=aDg.2 ⟨e,he,e1,e2,aFf.2 (g2 X hX e.To.toNat (by omega) (by rw [show ((e.To.toNat:Nat):Int)=e.To by omega];exact e3))⟩
      rw [hg] at this;cases this
     ·rw [List.getElem?_set_ne e]
      exact g2 X hX k hk hXk
  ·rw [if_neg hdj]
   refine ⟨(d,m),by unfold fB iD;rw [if_neg (by simp),hw],g1,g2,g3,g4,fun hm=>⟨(g5 hm).1,fun k hk hk'=>?_⟩⟩
   by_cases e:k=j
   ·subst e
    rw [List.getElem?_eq_getElem hjd] at hk'
    exact absurd (Option.some.inj hk') hdj
   ·exact (g5 hm).2 k (by omega) hk'
 ·obtain ⟨d,m⟩:=a
  obtain ⟨g1,g2,g3,g4,g5⟩:=hI
  simp only at g1 g2 g3 g4 g5
  refine ⟨(d,m),?_,g1,g2,g3,fun hm=>⟨(g5 hm).1,fun k hk=>(g5 hm).2 k ?_ hk⟩⟩
  ·show fC v d0 d m (d0.length:Int)=_
   unfold fC
   rw [if_neg (by simp)]
  ·have:k < d.length:=(List.getElem?_eq_some_iff.1 hk).1
   omega
theorem div_eq (h:Hug v):∃ d,jD v=some d/\DivS v d:=by
 have h100:=h.st
 obtain ⟨n,hn⟩:∃ n:Nat,v.N=(n:Int):=⟨v.N.toNat,by omega⟩
 have hrep:eB ([true]:List Bool) v.N=some (List.replicate n true):=by rw [hn];exact Repeat_eq true n (by omega) (by omega)
 have key:=kN (step:=fun s:List Bool × Bool=>jR v s.1 s.2)
  (fun s=>s.1.length=v.N.toNat/\(∀ X,aGQ v X->∀ k:Nat,k < s.1.length->X (k:Int)->s.1[k]?=some true)/\(s.2=false->∀ k:Nat,s.1[k]?=some true->vD v s.1 (k:Int)=true))
  (fun s=>2 * s.1.count true+(if s.2=true then 1 else 0)) (DivS v) (fun s hI=>?_) (s:=(List.replicate n true,true)) ⟨by simp [hn],fun X _ k hk _=>?_,fun g=>by cases g⟩
 ·obtain ⟨d,e,hd⟩:=key
  have e':loop (fun s:List Bool × Bool=>jR v s.1 s.2) (List.replicate n true,true)=some d:=e
  refine ⟨d,?_,hd⟩
  unfold jD
  rw [hrep,aA,e',aA];rfl
 ·obtain ⟨d0,m0⟩:=s
  obtain ⟨g1,g2,g3⟩:=hI
  simp only at g1 g2 g3
  cases m0 with
  |true=>
   left
   obtain ⟨d,m,e,k1,k2,k3,k4⟩:=aNS h g1 g2
   refine ⟨(d,m),?_,⟨k1,k2,fun hm=>(k4 hm).2⟩,?_⟩
   ·show jR v d0 true=_
    unfold jR
    rw [if_pos rfl,e,aA];rfl
   ·simp only [if_true]
    cases m with
    |true=>have:=k3 rfl;simp only [if_true];omega
    |false=>rw [(k4 rfl).1];simp
  |false=>
   right
   exact ⟨d0,rfl,g1,g3 rfl,g2⟩
 ·simp only [List.length_replicate] at hk
  rw [List.getElem?_replicate_of_lt hk]
end
end Gv
namespace Gv
open Go
noncomputable def yZ (v:aW):List Bool:=(jD v).getD []
noncomputable def aFm (v:aW) (k:Int):List Int:=(lR v [k]).getD []
section
variable {u v:aW} {p:List Int}
theorem aIz (h:Hug v):jD v=some (yZ v)/\DivS v (yZ v):=by
 obtain ⟨d,e,hd⟩:=div_eq h
 unfold yZ
 rw [e]
 exact ⟨rfl,hd⟩
theorem aLT (h:aBK v) {k:Int} (hk:jY v k):lR v [k]=some (aFm v k)/\aCo (aFm v k) (Cl v (·∈[k]))/\(aFm v k).length<=100:=by
 obtain ⟨R,e,hR⟩:=internalU h (xs:=[k]) (by simp) fun q hq=>by simp at hq;exact hq ▸ hk
 unfold aFm
 rw [e]
 exact ⟨rfl,hR,aKV h hR fun q hq=>cl_in h (fun q hq=>by simp at hq;exact hq ▸ hk) hq⟩
noncomputable def intS (v:aW):List (List Int):=(List.range v.N.toNat).map fun k:Nat=>aFm v (k:Int)
theorem intS_eq (h:aBK v):lS v=some (intS v):=by
 have h100:=h.big.st
 obtain ⟨n,hn⟩:∃ n:Nat,v.N=(n:Int):=⟨v.N.toNat,by omega⟩
 unfold lS
 have key:=lB (step:=fun s:List (List Int) × Int=>gV v s.1 s.2) (List.range n) (fun j (o:List (List Int))=>(o,(j:Int))) (fun l o=>o++l.map fun k:Nat=>aFm v (k:Int)) (fun j o=>o.length<=j) (fun j o i l hj hx hI=>?_) (fun o _=>by
  simp only [gV,hn,List.length_range,bJ];simp) (a:=[]) (by simp)
 ·rw [show loop (fun s:List (List Int) × Int=>gV v s.1 s.2) ([],0)=_ from key,aA,List.nil_append]
  unfold intS
  rw [hn,Int.toNat_natCast];rfl
 ·left
  obtain ⟨hj',e⟩:=zX hx
  rw [List.getElem_range] at e
  subst e
  rw [List.length_range] at hj
  refine ⟨o++[aFm v (j:Int)],?_,by simp;omega,by simp [List.append_assoc]⟩
  simp only [gV,hn,bI hj,if_pos,(aLT h (show jY v (j:Int) by unfold jY;omega)).1,aA]
  rw [dM (by simp [iQ];omega),aA,bD hj (by omega)]
def offB (u:aW) (p:List Int) (S:List Int):List Int:=(u.E.filter fun e=>(S.any fun x=>e.F == x)&&!inL p e).map (vl1 u p)
noncomputable def sgB (u:aW) (p:List Int) (k:Nat):List Int:=eW (yE iLt (offB u p (aFm (cN u p) (k:Int))))
noncomputable def dvB (u:aW) (p:List Int) (dv:Bool) (k:Nat):Int:=if (dv&&(yZ (cN u p)).getD k false)=true then 1 else 0
noncomputable def kyB (u:aW) (dv:Bool) (p:List Int):List (List Int):=(List.range u.N.toNat).map fun k=>p.getD k 0::dvB u p dv k::sgB u p k
theorem aMV (S:List Int):(offB u p S).length<=u.E.length:=by
 unfold offB
 rw [List.length_map]
 exact List.length_filter_le _ _
theorem offB_loop (h:Hug u) (hp:fQ u p) {S:List Int} (hS:S.length<=1000):loop (fun s:List Int × Int=>eI u p S s.1 s.2) (([]:List Int),0)=some (offB u p S):=by
 have hed:=h.ed
 have key:=lB (step:=fun s:List Int × Int=>eI u p S s.1 s.2) u.E (fun j (o:List Int)=>(o,(j:Int))) (fun l o=>o++(l.filter fun e=>(S.any fun x=>e.F == x)&&!inL p e).map (vl1 u p)) (fun j o=>o.length<=j) (fun j o e l hj hx hI=>?_) (fun o _=>by simp only [eI,bJ];simp) (a:=[]) (by simp)
 ·rw [show loop (fun s:List Int × Int=>eI u p S s.1 s.2) ([],0)=_ from key,List.nil_append];rfl
 ·left
  obtain ⟨hj',rfl⟩:=zX hx
  have he:=List.getElem_mem hj'
  obtain ⟨h1,h2,_⟩:=h.inn _ he
  have hw:=bD hj (show u.E.length < 4611686018427387904 by omega)
  have hv:=vl1_wrH h hp he
  refine ⟨if ((S.any fun x=>u.E[j].F == x)&&!inL p u.E[j])=true then o++[vl1 u p u.E[j]] else o,?_,by split<;>(try rw [List.length_append,List.length_singleton])<;>omega,?_⟩
  ·have j6:∀ b,eH u p o (j:Int) u.E[j] b=some (.inl (if b=true then o++[vl1 u p u.E[j]] else o,((j+1:Nat):Int))):=fun b=>by
    unfold eH hY
    cases b with
    |true=>rw [if_pos rfl,(jM hp h2).1,aA,hv,dM (by simp [iQ];omega),aA,hw];rfl
    |false=>rw [if_neg (by simp),hw];rfl
   simp only [eI,bI hj,if_pos,hx,aA,aDC S _ (show S.length < 4611686018427387904 by omega),j6]
   unfold inL
   cases (S.any fun x=>u.E[j].F == x) with
   |false=>rfl
   |true=>
    rw [if_pos rfl]
    by_cases h0:u.E[j].B=0
    ·rw [if_neg (by simp [h0]),(jM hp h1).1,aA,(jM hp h2).1,aA,h0]
     cases hb:p.getD u.E[j].F.toNat 0 == p.getD u.E[j].To.toNat 0 with
     |true=>
      have:(p.getD u.E[j].F.toNat 0 != p.getD u.E[j].To.toNat 0)=false:=by unfold bne;rw [hb];rfl
      rw [this];rfl
     |false=>
      have:(p.getD u.E[j].F.toNat 0 != p.getD u.E[j].To.toNat 0)=true:=by unfold bne;rw [hb];rfl
      rw [this];rfl
    ·have hb:(u.E[j].B == 0)=false:=beq_eq_false_iff_ne.2 h0
     rw [if_pos (by simp [h0]),hb];rfl
  ·rw [List.filter_cons]
   cases (S.any fun x=>u.E[j].F == x)&&!inL p u.E[j]<;>simp
theorem aFg {dv:Bool}:(kyB u dv p).length=u.N.toNat:=by unfold kyB;rw [List.length_map,List.length_range]
theorem aIA {dv:Bool} {k:Nat} (h:k < u.N.toNat):(kyB u dv p)[k]?=some (p.getD k 0::dvB u p dv k::sgB u p k):=by
 unfold kyB
 rw [List.getElem?_map,List.getElem?_range h];rfl
theorem aNU (h:aBK u) (hp:fQ u p) (dv:Bool):jL u p dv=some (cn (kyB u dv p)):=by
 have hi:=aDf (q:=p) h
 have h100:=h.big.st
 have hed:=h.big.ed
 obtain ⟨n,hn⟩:∃ n:Nat,u.N=(n:Int):=⟨u.N.toNat,by omega⟩
 obtain ⟨d1,d2⟩:=aIz hi.big
 have dl:(yZ (cN u p)).length=n:=by
  have:(cN u p).N=u.N:=rfl
  rw [d2.len,this,hn,Int.toNat_natCast]
 have sl:(intS (cN u p)).length=n:=by
  unfold intS
  have:(cN u p).N=u.N:=rfl
  rw [List.length_map,List.length_range,this,hn,Int.toNat_natCast]
 unfold jL
 rw [aMU h.big hp,aA,d1,aA,intS_eq hi,aA]
 have key:=lB (step:=fun s:List (List Int) × Int=>eJ u p dv (yZ (cN u p)) (intS (cN u p)) s.1 s.2) (List.range n) (fun j (o:List (List Int))=>(o,(j:Int))) (fun l o=>o++l.map fun k=>p.getD k 0::dvB u p dv k::sgB u p k) (fun j o=>o.length<=j) (fun j o i l hj hx hI=>?_) (fun o _=>by
  simp only [eJ,sl,List.length_range,bJ];simp) (a:=[]) (by simp)
 ·rw [show loop (fun s:List (List Int) × Int=>eJ u p dv (yZ (cN u p)) (intS (cN u p)) s.1 s.2) ([],0)=_ from key,aA,List.nil_append]
  have e0:(List.range n).map (fun k=>p.getD k 0::dvB u p dv k::sgB u p k)=kyB u dv p:=by unfold kyB;rw [hn,Int.toNat_natCast]
  rw [e0]
  unfold gY
  rw [aKh _ (by rw [aFg];omega) (fun x hx=>?_),aA]
  unfold kyB at hx
  obtain ⟨k,_,rfl⟩:=List.mem_map.1 hx
  have h1:=aMV (u:=u) (p:=p) (aFm (cN u p) (k:Int))
  have h2:(sgB u p k).length<=(offB u p (aFm (cN u p) (k:Int))).length:=by
   unfold sgB
   refine Nat.le_trans (aFe _) ?_
   unfold yE
   rw [List.length_mergeSort];exact Nat.le_refl _
  simp only [List.length_cons];omega
 ·left
  obtain ⟨hj',e⟩:=zX hx
  rw [List.getElem_range] at e
  subst e
  rw [List.length_range] at hj
  have hk:jY u (j:Int):=by unfold jY;omega
  obtain ⟨s1,s2,s3⟩:=aLT hi (k:=(j:Int)) hk
  have hw:=bD hj (show n < 4611686018427387904 by omega)
  have hol:=aMV (u:=u) (p:=p) (aFm (cN u p) (j:Int))
  have hix:ix (intS (cN u p)) (j:Int)=some (aFm (cN u p) (j:Int)):=by
   rw [bA (by omega)]
   unfold intS
   rw [List.getElem_map,List.getElem_range]
  refine ⟨o++[p.getD j 0::dvB u p dv j::sgB u p j],?_,by simp;omega,by simp [List.append_assoc]⟩
  show eJ u p dv (yZ (cN u p)) (intS (cN u p)) o (j:Int)=_
  unfold eJ
  rw [sl,if_pos (bI hj),hix,aA,offB_loop h.big hp (by omega),aA]
  unfold gZ
  rw [aDG (by omega),aA]
  have hpj:ix p (j:Int)=some (p.getD j 0):=(jM hp hk).1
  rw [hpj,aA]
  have j3:∀ z:Int,fP o (j:Int) (yE iLt (offB u p (aFm (cN u p) (j:Int)))) [p.getD j 0,z]=some (.inl (o++[p.getD j 0::z::sgB u p j],((j+1:Nat):Int))):=fun z=>by
   have hsl:(yE iLt (offB u p (aFm (cN u p) (j:Int)))).length=(offB u p (aFm (cN u p) (j:Int))).length:=by unfold yE;rw [List.length_mergeSort]
   have hdl:=aFe (yE iLt (offB u p (aFm (cN u p) (j:Int))))
   unfold fP jW
   rw [aHT _ (by omega),aA,dM (by simp only [iQ,List.length_cons,List.length_nil];omega),aA,dM (by simp [iQ];omega),aA,hw];rfl
  unfold dvB
  cases dv with
  |false=>rw [if_neg (by simp)];exact j3 0
  |true=>
   rw [if_pos rfl,ix_getD (by omega) (by omega),aA,Int.toNat_natCast]
   cases (yZ (cN u p)).getD j false with
   |true=>exact j3 1
   |false=>exact j3 0
noncomputable def brF (u:aW) (dv:Bool) (p:List Int):List Int:=cn (kyB u dv p)
theorem aJI {dv:Bool} (hp:p.length=u.N.toNat):aJC (brF u dv p) p:=by
 refine aMR (by rw [aFg,hp]) fun x y hx hy h=>?_
 rw [aIA (by omega),aIA (by omega),Option.some.injEq,List.cons.injEq] at h
 exact (getD_get hx hy).1 h.1
end
end Gv
namespace Gv
open Go
def InP (u:aW) (q:List Int) (x z:Int):Prop:=Cl (cN u q) (·∈[x]) z
def Dv (u:aW) (q:List Int) (x:Int):Prop:=∃ X,aGQ (cN u q) X/\X x
def Nin (q:List Int) (e:Edge):Prop:=¬ (e.B=0/\wX q e.F e.To)
section
variable {u:aW} {q p:List Int}
theorem wX.symm {x y:Int} (h:wX q x y):wX q y x:=Eq.symm h
theorem wX.trans {x y z:Int} (h:wX q x y) (h':wX q y z):wX q x z:=Eq.trans h h'
theorem InP.refl {x:Int}:InP u q x x:=.base (by simp)
theorem InP.step {x:Int} {e:Edge} (he:e∈u.E) (h0:e.B=0) (hs:wX q e.F e.To) (h:InP u q x e.F):InP u q x e.To:=Cl.step (xN.2 ⟨he,h0,hs⟩) h0 h
theorem InP.ind {x:Int} {C:Int->Prop} (h0:C x) (hs:∀ e∈u.E,e.B=0->wX q e.F e.To->InP u q x e.F->C e.F->C e.To) {z:Int} (h:InP u q x z):C z:=by
 have key:∀ z,Cl (cN u q) (·∈[x]) z->(Cl (cN u q) (·∈[x]) z/\C z):=fun z h=>by
  induction h with
  |base h=>simp at h;subst h;exact ⟨.base (by simp),h0⟩
  |step he h1 h2 ih=>
   obtain ⟨g1,g2,g3⟩:=xN.1 he
   exact ⟨.step he h1 h2,hs _ g1 g2 g3 ih.1 ih.2⟩
 exact (key z h).2
theorem InP.same {x z:Int} (h:InP u q x z):wX q x z:=InP.ind (C:=fun z=>wX q x z) rfl (fun e _ _ hs _ ih=>ih.trans hs) h
theorem InP.inn (h:aBK u) {x z:Int} (hx:jY u x) (hz:InP u q x z):jY u z:=InP.ind hx (fun e he _ _ _ _=>(h.big.inn e he).2.1) hz
theorem InP.trans {x y z:Int} (h:InP u q x y) (h':InP u q y z):InP u q x z:=InP.ind h (fun e he h0 hs _ ih=>InP.step he h0 hs ih) h'
theorem InP.cl {x z:Int} (h:InP u q x z):Cl u (·∈[x]) z:=InP.ind (.base (by simp)) (fun e he h0 _ _ ih=>.step he h0 ih) h
theorem dv_iff (h:aBK u) {x:Int} (hx:jY u x):(yZ (cN u q)).getD x.toNat false=true<->Dv u q x:=by
 have hi:=aDf (q:=q) h
 obtain ⟨_,d⟩:=aIz hi.big
 unfold jY at hx
 have hl:(yZ (cN u q)).length=u.N.toNat:=d.len
 constructor
 ·intro hd
  refine ⟨fun z=>0<=z/\(yZ (cN u q)).getD z.toNat false=true,fun z ⟨h0,hz⟩=>?_,hx.1,hd⟩
  obtain ⟨e,he,h1,h2,h3⟩:=aDg.1 (d.step z.toNat (aFf.1 hz))
  have ht:=(hi.big.inn e he).2.1
  unfold jY at ht
  exact ⟨e,he,by omega,h2,ht.1,h3⟩
 ·rintro ⟨X,hX,hxX⟩
  refine aFf.2 (d.max X hX x.toNat (by omega) ?_)
  rw [show ((x.toNat:Nat):Int)=x by omega];exact hxX
theorem sgB_mem (h:aBK u) {k:Nat} (hk:jY u (k:Int)) {z:Int}:z∈sgB u q k<->∃ e∈u.E,InP u q (k:Int) e.F/\Nin q e/\vl1 u q e=z:=by
 obtain ⟨_,hR,_⟩:=aLT (aDf (q:=q) h) (k:=(k:Int)) hk
 unfold sgB offB
 rw [aHt.mem,List.mem_map]
 constructor
 ·rintro ⟨e,he,hz⟩
  rw [List.mem_filter,Bool.and_eq_true,Bool.not_eq_true',aHu,decide_eq_true_eq] at he
  refine ⟨e,he.1,(hR.mem _).1 he.2.1,fun g=>?_,hz⟩
  have:=sS.2 g
  rw [he.2.2] at this;cases this
 ·rintro ⟨e,h1,h2,h3,hz⟩
  refine ⟨e,?_,hz⟩
  rw [List.mem_filter,Bool.and_eq_true,Bool.not_eq_true',aHu,decide_eq_true_eq]
  refine ⟨h1,(hR.mem _).2 h2,?_⟩
  rw [Bool.eq_false_iff]
  exact fun g=>h3 (sS.1 g)
end
structure Emb (t u:aW) (o:Int):Prop where
 go:∀ e∈t.E,∃ f∈u.E,f.F=e.F+o/\f.To=e.To+o/\txt u f=txt t e
 back:∀ f∈u.E,∀ x,jY t x->f.F=x+o->∃ e∈t.E,e.F=x/\f.To=e.To+o/\txt u f=txt t e
section
variable {a b:aW} {M:List aV} {Eo:List Edge}
end
end Gv
