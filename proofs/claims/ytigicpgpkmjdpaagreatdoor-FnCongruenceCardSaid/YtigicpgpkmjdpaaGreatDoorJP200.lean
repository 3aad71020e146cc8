/- Steps in systems that may be larger than valid ones. -/
import Derived.Test.YtigicpgpkmjdpaaGreatDoorJP90
set_option linter.all false
namespace Gv
open Go
structure Hug (u:bB):Prop where
 st:1<=u.N/\u.N<=100
 lab:u.L.length<=100
 ed:u.E.length<=900000
 inn:∀ e∈u.E,inT u e.F/\inT u e.To/\0<=e.B/\e.B < u.L.length
theorem Big.hug {u:bB} (h:Big u):Hug u:=⟨h.st,h.lab,Nat.le_trans h.ed (by decide),h.inn⟩
section
variable {u:bB} {p:List Int}
theorem vl1_wrH (hu:Hug u) (hp:iC u p) {e:Edge} (he:e∈u.E):wr (wr (e.B * u.N)+p.getD e.To.toNat 0)=vl1 u p e:=by
 have h1:=hu.inn e he
 have h2:=(jX hp h1.2.1).2
 have h3:=hu.st
 have h4:=hu.lab
 have h5:=mul_b (l:=e.B) (m:=100) (s:=u.N) (n:=100) h1.2.2.1 (by omega) (by omega) (by omega)
 unfold vl1
 rw [dS (x:=e.B * u.N) (by omega) (by omega),dS (by omega) (by omega)]
theorem aOL (hu:Hug u) (hp:iC u p) {e f:Edge} (he:e∈u.E) (hf:f∈u.E) (h:vl1 u p e=vl1 u p f):e.B=f.B/\p.getD e.To.toNat 0=p.getD f.To.toNat 0:=by
 have h1:=(jX hp (hu.inn e he).2.1).2
 have h2:=(jX hp (hu.inn f hf).2.1).2
 have h3:=hu.st
 unfold vl1 at h
 have key:∀ (a b x y n:Int),0<=x->x < n->0<=y->y < n->a * n+x=b * n+y->¬ a < b:=by
  intro a b x y n hx hx' hy hy' h hlt
  have h5:(a+1) * n<=b * n:=Int.mul_le_mul_of_nonneg_right (by omega) (by omega)
  rw [Int.add_mul] at h5
  omega
 have n1:=key _ _ _ _ _ h1.1 h1.2 h2.1 h2.2 h
 have n2:=key _ _ _ _ _ h2.1 h2.2 h1.1 h1.2 h.symm
 have:e.B=f.B:=by omega
 refine ⟨this,?_⟩
 rw [this] at h;omega
theorem part_cnH (hu:Hug u) {κ:Type} [DecidableEq κ] [BEq κ] [LawfulBEq κ] {l:List κ} (h:l.length=u.N.toNat):iC u (cn l):=by
 have:=hu.st
 refine ⟨by rw [xS,h],fun z hz=>?_⟩
 have:=cn_in hz
 omega
end
structure yM (u:bB):Prop where
 big:Hug u
 lab:∃ M,u.L=bF::M/\pZ M
section
variable {u:bB}
theorem yM.edge (h:yM u) {e:Edge} (he:e∈u.E):aDJ u e:=by
 obtain ⟨h1,h2,h3,h4⟩:=h.big.inn e he
 unfold inT at h1 h2
 exact ⟨⟨by omega,by omega⟩,⟨by omega,by omega⟩,h3,by omega⟩
theorem yM.tau (h:yM u) {e:Edge} (he:e∈u.E):sQ u e=bF<->e.B=0:=by
 obtain ⟨M,hM,hs⟩:=h.lab
 obtain ⟨_,_,h3,h4⟩:=h.big.inn e he
 unfold sQ
 rw [hM] at h4 ⊢
 rw [List.length_cons] at h4
 by_cases h0:e.B=0
 ·rw [h0];exact ⟨fun _=>rfl,fun _=>rfl⟩
 ·have:e.B.toNat=(e.B.toNat - 1)+1:=by omega
  rw [this,List.getD_cons_succ,List.getD_eq_getElem?_getD,List.getElem?_eq_getElem (by omega)]
  exact ⟨fun g=>absurd (g ▸ List.getElem_mem _) hs.2,fun g=>absurd g h0⟩
theorem aftT_in (h:yM u) {S:List Int} {s:aI} {q:Int} (hq:AftT u S s q):inT u q:=by
 obtain ⟨e,he,_,_,rfl⟩:=hq
 exact (h.big.inn e he).2.1
theorem cl_in (h:yM u) {X:Int->Prop} (h0:∀ q,X q->inT u q) {q:Int} (hq:Cl u X q):inT u q:=by
 induction hq with
 |base h1=>exact h0 _ h1
 |step he _ _ _=>exact (h.big.inn _ he).2.1
theorem followU (h:yM u) {S:List Int} (hS:S.length < 1000000000) (s:aI):∃ R,aAM u S s=some R/\aDL R (AftT u S s):=by
 have hed:=h.big.ed
 have hl:((u.E.filter fun e=>sQ u e == s&&S.any fun x=>e.F == x).map (·.To)).length<=900000:=by
  rw [List.length_map];exact Nat.le_trans (List.length_filter_le _ _) hed
 refine ⟨eC (qD iLt ((u.E.filter fun e=>sQ u e == s&&S.any fun x=>e.F == x).map (·.To))),?_,aGU.iff fun q=>?_⟩
 ·unfold aAM
  rw [aAo (step:=fun x:List Int × Int=>tW u S s x.1 x.2) u.E (fun e=>sQ u e == s&&S.any fun x=>e.F == x) (·.To) id (fun j out x hj ho hx=>?_) (fun out=>by simp only [tW,cO];rfl),aA]
  ·unfold yQ
   simp only [id]
   rw [aFy (by omega),aA,aJL _ (by unfold qD;rw [List.length_mergeSort];omega),aA]
  ·obtain ⟨hj',rfl⟩:=aBs hx
   simp only [tW,bU hj,if_pos,hx,aA,aIL (h.edge (List.getElem_mem hj')),aFs S _ (show S.length < 4611686018427387904 by omega),yR,tV,bK hj (show u.E.length < 4611686018427387904 by omega)]
   rw [cQ (by simp [jA];omega),aA]
   cases sQ u u.E[j] == s<;>cases (S.any fun x=>u.E[j].F == x)<;>rfl
 ·rw [List.mem_map]
  constructor
  ·rintro ⟨e,he,rfl⟩
   rw [List.mem_filter,Bool.and_eq_true,List.any_eq_true] at he
   obtain ⟨h1,h2,x,hx,h3⟩:=he
   rw [beq_iff_eq] at h2 h3
   exact ⟨e,h1,h2,h3 ▸ hx,rfl⟩
  ·rintro ⟨e,h1,h2,h3,rfl⟩
   refine ⟨e,?_,rfl⟩
   rw [List.mem_filter,Bool.and_eq_true,List.any_eq_true,beq_iff_eq]
   exact ⟨h1,h2,_,h3,by simp⟩
theorem aMz (h:yM u) {R:List Int} {X:Int->Prop} (hR:aDL R X) (h0:∀ q,X q->inT u q):R.length<=100:=by
 have:=h.big.st
 exact hR.len (n:=100) fun q hq=>by
  have:=h0 q hq
  unfold inT at this;omega
theorem internalU (h:yM u) {xs:List Int} (hn:xs.Nodup) (h0:∀ q∈xs,inT u q):∃ R,pB u xs=some R/\aDL R (Cl u (·∈xs)):=by
 have h100:=h.big.st
 have hlen:∀ {o:List Int},o.Nodup->(∀ q∈o,Cl u (·∈xs) q)->o.length<=100:=fun {o} h1 h2=>by
  have:=List.Nodup.length_le_of_subset (l₂:=(List.range 100).map Int.ofNat) h1 (fun x hx=>by
   have:=cl_in h h0 (h2 x hx)
   unfold inT at this
   rw [List.mem_map]
   exact ⟨x.toNat,by rw [List.mem_range];omega,by show ((x.toNat:Nat):Int)=x;omega⟩)
  simpa using this
 have hx0:=hlen hn fun q hq=>.base hq
 have hloop:=lD (step:=fun s:List Int × Int=>qS u s.1 s.2)
  (fun s=>∃ k:Nat,s.2=(k:Int)/\k<=s.1.length/\s.1.Nodup/\(∀ q∈xs,q∈s.1)/\(∀ q∈s.1,Cl u (·∈xs) q)/\∀ j,(hj:j < s.1.length)->j < k->∀ e∈u.E,e.B=0->e.F=s.1[j]->e.To∈s.1)
  (fun s=>101 - s.2.toNat) (fun r=>r.Nodup/\r.length<=100/\∀ q,q∈r<->Cl u (·∈xs) q) (fun s hI=>?_) (s:=(xs,0)) ⟨0,rfl,Nat.zero_le _,hn,fun _ h=>h,fun q hq=>.base hq,fun j _ h=>by omega⟩
 ·obtain ⟨r,h1,h2,h3,h4⟩:=hloop
  refine ⟨qD iLt r,?_,(aPM h2).iff h4⟩
  unfold pB cZ
  rw [cQ (by simp [jA];omega),aA,List.nil_append,aA,h1,aA]
  unfold uZ
  rw [aFy (by omega)];rfl
 ·obtain ⟨o,i⟩:=s
  obtain ⟨k,rfl,hk,hnd,hsub,hcl,hdone⟩:=hI
  simp only at hk hnd hsub hcl hdone
  have ho:=hlen hnd hcl
  by_cases hlt:k < o.length
  ·left
   obtain ⟨R,hf,hR⟩:=followU h (S:=[o[k]]) (by simp) bF
   have hRl:R.length<=100:=aMz h hR fun q hq=>aftT_in h hq
   have hin:=kH (step:=fun s:List Int × Int=>nH R s.1 s.2) R (fun j a=>(a,(j:Int))) (fun l a=>l.foldl aFO a) (fun j a=>a.length<=100+j) (fun j a x l hj hx hI=>?_) (fun a _=>by simp only [nH,cO];rfl) (a:=o) ho
   ·obtain ⟨g1,g2,g3,g4⟩:=aMt R o hnd
    have hcl':∀ q∈R.foldl aFO o,Cl u (·∈xs) q:=fun q hq=>by
     rcases (g3 q).1 hq with g|g
     ·exact hcl q g
     ·obtain ⟨e,he,hl,hfr,rfl⟩:=(hR.mem q).1 g
      simp only [List.mem_singleton] at hfr
      exact .step he ((h.tau he).1 hl) (hfr ▸ hcl _ (List.getElem_mem hlt))
    refine ⟨(R.foldl aFO o,((k+1:Nat):Int)),?_,⟨k+1,rfl,Nat.le_trans hlt g1.length_le,g2,fun q hq=>(g3 q).2 (.inl (hsub q hq)),hcl',fun j hj hjk e he hl hfr=>?_⟩,by simp only;omega⟩
    ·simp only [qS,bU hlt,if_pos,bR hlt,aA]
     rw [show ([116,97,117]:aI)=bF from rfl,hf,aA,show loop (fun s:List Int × Int=>nH R s.1 s.2) (o,0)=_ from hin,aA]
     simp only [aAN,vA,bK hlt (show o.length < 4611686018427387904 by omega)]
    ·simp only at hj hfr ⊢
     have hjo:j < o.length:=by omega
     have e1:(R.foldl aFO o)[j]=o[j]:=(g1.getElem hjo).symm
     rw [e1] at hfr
     rw [g3]
     by_cases hjk':j < k
     ·exact .inl (hdone j hjo hjk' e he hl hfr)
     ·obtain rfl:j=k:=by omega
      exact .inr ((hR.mem _).2 ⟨e,he,(h.tau he).2 hl,by simp [hfr],rfl⟩)
   ·left
    have hI':a.length<=100+j:=hI
    simp only [nH,bU hj,if_pos,hx,aA,aFs a _ (show a.length < 4611686018427387904 by omega),qR,bK hj (show R.length < 4611686018427387904 by omega)]
    rw [aJo,cQ (by simp [jA];omega),aA,List.foldl_cons]
    unfold aFO
    by_cases hm:x∈a
    ·rw [if_pos hm];exact ⟨a,by simp [hm],by omega,rfl⟩
    ·rw [if_neg hm];exact ⟨a++[x],by simp [hm],by simp;omega,rfl⟩
  ·right
   have hke:k=o.length:=by omega
   refine ⟨o,?_,hnd,ho,fun q=>⟨fun hq=>hcl q hq,fun hq=>?_⟩⟩
   ·simp only [qS,hke,cO];rfl
   ·induction hq with
    |base g=>exact hsub _ g
    |step he hl _ ih=>
     obtain ⟨j,hj,ej⟩:=List.getElem_of_mem ih
     exact hdone j hj (by omega) _ he hl ej.symm
end
end Gv
namespace Gv
open Go
def kW (p:List Int) (x y:Int):Prop:=p.getD x.toNat 0=p.getD y.toNat 0
def Pres (u:bB) (F:List Int->List Int) (R:Int->Int->Prop):Prop:=
 ∀ q,iC u q->(∀ x y,inT u x->inT u y->R x y->kW q x y)->∀ x y,inT u x->inT u y->R x y->kW (F q) x y
structure Crs (u:bB) (F:List Int->List Int) (p:List Int):Prop where
 part:iC u p
 fix:F p=p
 low:∀ R,Pres u F R->∀ x y,inT u x->inT u y->R x y->kW p x y
section
variable {u:bB}
theorem aPU (hu:Hug u) {F:List Int->List Int} (hF:∀ p,iC u p->cn p=p->iC u (F p)/\cn (F p)=F p/\aHV (F p) p) {nx:List Int->Option (List Int)} (hn:∀ p,iC u p->nx p=some (F p))
  {step:List (List Int)->Option (List (List Int) ⊕ List (List Int))}
  (hs:∀ out,step out=ob (ix out (wr ((out.length:Int) - 1))) fun e=>ob (nx e) fun r=>ob (dA e r) fun b=>if b then (some (.inr out)) else (ob (uF out ([r]:List (List Int))) fun xs=>some (.inl xs))):
  ∃ p,(ob (mkz u.N (0:Int)) fun z=>ob (loop step ([z]:List (List Int))) fun r=>tU r)=some p/\Crs u F p:=by
 have h3:=hu.st
 have hm:mkz u.N (0:Int)=some (List.replicate u.N.toNat 0):=by
  unfold mkz
  rw [if_pos ⟨by omega,by unfold jA;omega⟩]
 rw [hm,aA]
 have hh:∀ q:List Int,(rF q u.N.toNat).length<=100:=fun q=>Nat.le_trans (aMx q _) (by omega)
 have key:=aLp (step:=step) u.N.toNat (fun p s=>(∃ l,s=l++[p])/\s.length<=(rF p u.N.toNat).length/\iC u p/\∀ R,Pres u F R->∀ x y,inT u x->inT u y->R x y->kW p x y) (fun r=>∃ l p,r=l++[p]/\Crs u F p/\r.length<=100) (fun p s hl hc hI=>?_) (List.replicate u.N.toNat 0) [List.replicate u.N.toNat 0] (by simp) (aOI _) ⟨⟨[],rfl⟩,?_,?_,?_⟩
 ·obtain ⟨r,h1,l,p,rfl,hp,hl⟩:=key
  rw [h1,aA]
  unfold tU
  rw [List.length_append,List.length_singleton] at hl
  have hw:wr ((((l++[p]).length:Nat):Int) - 1)=((l.length:Nat):Int):=by
   rw [List.length_append,List.length_singleton,dS (by omega) (by omega)];omega
  refine ⟨p,?_,hp⟩
  rw [hw,sT,List.getElem?_append_right (Nat.le_refl _),Nat.sub_self]
  rfl
 ·obtain ⟨⟨l,rfl⟩,hlen,hp,hlow⟩:=hI
  have hb:=hh p
  rw [List.length_append,List.length_singleton] at hlen
  have hw:wr ((((l++[p]).length:Nat):Int) - 1)=((l.length:Nat):Int):=by
   rw [List.length_append,List.length_singleton,dS (by omega) (by omega)];omega
  obtain ⟨hpF,hcc,hsp⟩:=hF p hp hc
  have hstep:step (l++[p])=if decide (p=F p)=true then some (.inr (l++[p])) else some (.inl (l++[p]++[F p])):=by
   rw [hs,hw,sT,List.getElem?_append_right (Nat.le_refl _),Nat.sub_self]
   show ob (some p) _=_
   rw [aA,hn p hp,aA,aJq _ _ (by rw [hl];omega),aA,cQ (by simp only [jA,List.length_append,List.length_singleton];omega),aA]
  rw [hstep]
  by_cases e:p=F p
  ·left
   rw [if_pos (by simpa using e)]
   exact ⟨_,rfl,l,p,rfl,⟨hp,e.symm,hlow⟩,by rw [List.length_append,List.length_singleton];omega⟩
  ·right
   rw [if_neg (by simpa using e)]
   have hmore:=(aGJ hc hcc hsp).resolve_left (fun h=>e h.symm)
   rw [hl] at hmore
   refine ⟨_,_,hsp,hcc,fun h=>e h.symm,rfl,⟨l++[p],rfl⟩,?_,hpF,fun R hR=>hR p hp (hlow R hR)⟩
   rw [List.length_append,List.length_append,List.length_singleton,List.length_singleton];omega
 ·have:0∈rF (List.replicate u.N.toNat (0:Int)) u.N.toNat:=by
   unfold rF
   rw [List.mem_filter,List.mem_range,decide_eq_true_iff]
   exact ⟨by omega,fun k hk=>by omega⟩
  exact List.length_pos_of_mem this
 ·exact ⟨by simp,fun z hz=>by rw [List.mem_replicate] at hz;omega⟩
 ·intro R _ x y hx hy _
  unfold kW
  unfold inT at hx hy
  rw [List.getD_eq_getElem?_getD,List.getD_eq_getElem?_getD,List.getElem?_replicate_of_lt (by omega),List.getElem?_replicate_of_lt (by omega)]
theorem cn_same {κ:Type} [DecidableEq κ] [BEq κ] [LawfulBEq κ] {l:List κ} {x y:Int} (hx:0<=x/\x.toNat < l.length) (hy:0<=y/\y.toNat < l.length):kW (cn l) x y<->l[x.toNat]?=l[y.toNat]?:=by
 unfold kW
 rw [aOJ (by rw [xS];exact hx.2) (by rw [xS];exact hy.2)]
 exact (cn_ker l).2 _ _ (by rw [xS];exact hx.2) (by rw [xS];exact hy.2)
end
end Gv
namespace Gv
open Go
def inL (q:List Int) (e:Edge):Bool:=e.B == 0&&(q.getD e.F.toNat 0 == q.getD e.To.toNat 0)
def dK (u:bB) (q:List Int):bB:=⟨u.N,u.I,u.L,u.E.filter (inL q)⟩
section
variable {u v:bB} {q:List Int}
theorem xJ {e:Edge}:inL q e=true<->e.B=0/\kW q e.F e.To:=by
 unfold inL kW
 rw [Bool.and_eq_true,beq_iff_eq,beq_iff_eq]
theorem xK {e:Edge}:e∈(dK u q).E<->e∈u.E/\e.B=0/\kW q e.F e.To:=by
 show e∈u.E.filter (inL q)<->_
 rw [List.mem_filter,xJ]
theorem aOM (h:Hug u) (hq:iC u q):qH u q=some (dK u q):=by
 have hed:=h.ed
 unfold qH aFk
 have key:=kH (step:=fun s:List Edge × Int=>uM u q s.1 s.2) u.E (fun j (o:List Edge)=>(o,(j:Int))) (fun l o=>o++l.filter (inL q)) (fun j o=>o.length<=j) (fun j o e l hj hx hI=>?_) (fun o _=>by simp only [uM,cO];simp) (a:=[]) (by simp)
 ·rw [show loop (fun s:List Edge × Int=>uM u q s.1 s.2) ([],0)=_ from key,aA,List.nil_append];rfl
 ·left
  obtain ⟨hj',rfl⟩:=aBs hx
  obtain ⟨h1,h2,_⟩:=h.inn _ (List.getElem_mem hj')
  have hw:=bK hj (show u.E.length < 4611686018427387904 by omega)
  have hc:oY u.E[j] q=some (inL q u.E[j]):=by
   unfold oY inL
   cases u.E[j].B == 0 with
   |false=>rfl
   |true=>rw [if_pos rfl,(jX hq h1).1,aA,(jX hq h2).1,aA];rfl
  refine ⟨if inL q u.E[j]=true then o++[u.E[j]] else o,?_,by split<;>(try rw [List.length_append,List.length_singleton])<;>omega,?_⟩
  ·simp only [uM,bU hj,if_pos,hx,aA,hc,yH,hw]
   cases inL q u.E[j] with
   |true=>rw [if_pos rfl,cQ (by simp [jA];omega),aA];rfl
   |false=>rfl
  ·rw [List.filter_cons]
   cases inL q u.E[j]<;>simp
theorem aEY (h:yM u):yM (dK u q):=
 ⟨⟨h.big.st,h.big.lab,Nat.le_trans (List.length_filter_le _ _) h.big.ed,fun e he=>h.big.inn e (xK.1 he).1⟩,h.lab⟩
def aAp (v:bB) (d:List Bool) (k:Int):Bool:=(v.E.filter fun e=>e.F == k).any fun e=>e.B == 0&&d.getD e.To.toNat false
theorem aEZ {d:List Bool} {k:Int}:aAp v d k=true<->∃ e∈v.E,e.F=k/\e.B=0/\d.getD e.To.toNat false=true:=by
 unfold aAp
 rw [List.any_eq_true]
 constructor
 ·rintro ⟨e,he,h⟩
  rw [List.mem_filter,beq_iff_eq] at he
  rw [Bool.and_eq_true,beq_iff_eq] at h
  exact ⟨e,he.1,he.2,h.1,h.2⟩
 ·rintro ⟨e,h1,h2,h3,h4⟩
  exact ⟨e,by rw [List.mem_filter,beq_iff_eq];exact ⟨h1,h2⟩,by rw [Bool.and_eq_true,beq_iff_eq];exact ⟨h3,h4⟩⟩
def aIO (v:bB) (X:Int->Prop):Prop:=∀ x,X x->∃ e∈v.E,e.F=x/\e.B=0/\X e.To
structure DivS (v:bB) (d:List Bool):Prop where
 len:d.length=v.N.toNat
 step:∀ k:Nat,d[k]?=some true->aAp v d (k:Int)=true
 max:∀ X,aIO v X->∀ k:Nat,k < d.length->X (k:Int)->d[k]?=some true
theorem goes_eq (h:Hug v) {d:List Bool} (hd:d.length=v.N.toNat) (k:Int):(ob (sF v k) fun r=>dV r d)=some (aAp v d k):=by
 have hed:=h.ed
 rw [out_eq v k (by omega),aA]
 unfold aAp
 have hin:∀ e∈v.E.filter (fun e=>e.F == k),inT v e.To:=fun e he=>(h.inn e (List.mem_filter.1 he).1).2.1
 have hl:(v.E.filter fun e=>e.F == k).length<=v.E.length:=List.length_filter_le _ _
 generalize v.E.filter (fun e=>e.F == k)=es at hin hl ⊢
 unfold dV eY
 rw [uO (step:=fun s=>cX es d s) es (fun e=>e.B == 0&&d.getD e.To.toNat false) (fun i x hi hx=>by
  obtain ⟨_,rfl⟩:=aBs hx
  have ht:=hin _ (List.getElem_mem hi)
  unfold inT at ht
  have hc:oZ es[i] d=some (es[i].B == 0&&d.getD es[i].To.toNat false):=by
   unfold oZ
   cases es[i].B == 0 with
   |false=>rfl
   |true=>rw [if_pos rfl,ix_getD ht.1 (by omega),aA];rfl
  simp only [cX,bU hi,if_pos,hx,aA,hc,bK hi (show es.length < 4611686018427387904 by omega)]) (by simp only [cX,cO];rfl),aA,←aKU]
 cases es.findIdx? (fun e=>e.B == 0&&d.getD e.To.toNat false) with
 |none=>rfl
 |some i=>simp
theorem aGZ {d:List Bool} {k:Nat}:d.getD k false=true<->d[k]?=some true:=by
 rw [List.getD_eq_getElem?_getD]
 cases d[k]? with
 |none=>simp
 |some b=>simp
theorem aPV (h:Hug v) {d0:List Bool} (hd:d0.length=v.N.toNat) (hmax:∀ X,aIO v X->∀ k:Nat,k < d0.length->X (k:Int)->d0[k]?=some true):
  ∃ d m,loop (fun s:List Bool × Bool × Int=>gW v d0 s.1 s.2.1 s.2.2) (d0,false,0)=some (d,m)/\d.length=v.N.toNat/\(∀ X,aIO v X->∀ k:Nat,k < d.length->X (k:Int)->d[k]?=some true)/\(m=true->d.count true < d0.count true)/\
   (m=false->d=d0/\∀ k:Nat,d[k]?=some true->aAp v d (k:Int)=true):=by
 have h100:=h.st
 have key:=gS (step:=fun s:List Bool × Bool × Int=>gW v d0 s.1 s.2.1 s.2.2) d0.length (fun j (a:List Bool × Bool)=>(a.1,a.2,(j:Int)))
  (fun j a=>a.1.length=v.N.toNat/\(∀ X,aIO v X->∀ k:Nat,k < a.1.length->X (k:Int)->a.1[k]?=some true)/\(a.2=true->a.1.count true < d0.count true)/\a.1.count true<=d0.count true/\(a.2=false->a.1=d0/\∀ k:Nat,k < j->a.1[k]?=some true->aAp v a.1 (k:Int)=true))
  (fun r=>r.1.length=v.N.toNat/\(∀ X,aIO v X->∀ k:Nat,k < r.1.length->X (k:Int)->r.1[k]?=some true)/\(r.2=true->r.1.count true < d0.count true)/\(r.2=false->r.1=d0/\∀ k:Nat,r.1[k]?=some true->aAp v r.1 (k:Int)=true))
  (fun j a hj hI=>?_) (fun a hI=>?_) d0.length 0 (d0,false) (by omega) ⟨hd,hmax,(fun g=>by cases g),Nat.le_refl _,fun _=>⟨rfl,fun k hk=>by omega⟩⟩
 ·obtain ⟨⟨d,m⟩,e,g1,g2,g3,g4⟩:=key
  exact ⟨d,m,e,g1,g2,g3,g4⟩
 ·obtain ⟨d,m⟩:=a
  obtain ⟨g1,g2,g3,g4,g5⟩:=hI
  simp only at g1 g2 g3 g4 g5
  have hjd:j < d.length:=by omega
  have hw:=bK hj (show d0.length < 4611686018427387904 by omega)
  have hstep:gW v d0 d m (j:Int)=(if d[j]=true then gV d m (j:Int) (!aAp v d (j:Int)) else gV d m (j:Int) false):=by
   unfold gW
   rw [if_pos (bU hj)]
   have:=goes_eq h g1 (j:Int)
   cases ho:sF v (j:Int) with
   |none=>rw [ho] at this;cases this
   |some r=>
    rw [ho,aA] at this
    rw [aA,this,aA,bR hjd,aA]
  show ∃ a',gW v d0 d m (j:Int)=_/\_
  rw [hstep]
  by_cases hdj:d[j]=true
  ·rw [if_pos hdj]
   cases hg:aAp v d (j:Int) with
   |true=>
    refine ⟨(d,m),by unfold gV kP;rw [Bool.not_true,if_neg (by simp),hw],g1,g2,g3,g4,fun hm=>⟨(g5 hm).1,fun k hk hk'=>?_⟩⟩
    by_cases e:k=j
    ·subst e;exact hg
    ·exact (g5 hm).2 k (by omega) hk'
   |false=>
    have hc:(d.set j false).count true < d.count true:=aHT (b:=true) (by rw [List.getElem?_eq_getElem hjd,hdj])
    refine ⟨(d.set j false,true),?_,by rw [List.length_set];exact g1,fun X hX k hk hXk=>?_,fun _=>by simp only;omega,by simp only;omega,fun hm=>by cases hm⟩
    ·unfold gV kP
     rw [Bool.not_false,if_pos rfl,bR hjd,aA,aBd _ hjd,aA,hw]
    ·simp only at hk ⊢
     rw [List.length_set] at hk
     by_cases e:j=k
     ·subst e
      exfalso
      obtain ⟨e,he,e1,e2,e3⟩:=hX _ hXk
      have ht:=(h.inn e he).2.1
      unfold inT at ht
      have:aAp v d (j:Int)=true:=aEZ.2 ⟨e,he,e1,e2,aGZ.2 (g2 X hX e.To.toNat (by omega) (by rw [show ((e.To.toNat:Nat):Int)=e.To by omega];exact e3))⟩
      rw [hg] at this;cases this
     ·rw [List.getElem?_set_ne e]
      exact g2 X hX k hk hXk
  ·rw [if_neg hdj]
   refine ⟨(d,m),by unfold gV kP;rw [if_neg (by simp),hw],g1,g2,g3,g4,fun hm=>⟨(g5 hm).1,fun k hk hk'=>?_⟩⟩
   by_cases e:k=j
   ·subst e
    rw [List.getElem?_eq_getElem hjd] at hk'
    exact absurd (Option.some.inj hk') hdj
   ·exact (g5 hm).2 k (by omega) hk'
 ·obtain ⟨d,m⟩:=a
  obtain ⟨g1,g2,g3,g4,g5⟩:=hI
  simp only at g1 g2 g3 g4 g5
  refine ⟨(d,m),?_,g1,g2,g3,fun hm=>⟨(g5 hm).1,fun k hk=>(g5 hm).2 k ?_ hk⟩⟩
  ·show gW v d0 d m (d0.length:Int)=_
   unfold gW
   rw [if_neg (by simp)]
  ·have:k < d.length:=(List.getElem?_eq_some_iff.1 hk).1
   omega
theorem div_eq (h:Hug v):∃ d,lR v=some d/\DivS v d:=by
 have h100:=h.st
 obtain ⟨n,hn⟩:∃ n:Nat,v.N=(n:Int):=⟨v.N.toNat,by omega⟩
 have hrep:fS ([true]:List Bool) v.N=some (List.replicate n true):=by rw [hn];exact Repeat_eq true n (by omega) (by omega)
 have key:=lD (step:=fun s:List Bool × Bool=>mI v s.1 s.2)
  (fun s=>s.1.length=v.N.toNat/\(∀ X,aIO v X->∀ k:Nat,k < s.1.length->X (k:Int)->s.1[k]?=some true)/\(s.2=false->∀ k:Nat,s.1[k]?=some true->aAp v s.1 (k:Int)=true))
  (fun s=>2 * s.1.count true+(if s.2=true then 1 else 0)) (DivS v) (fun s hI=>?_) (s:=(List.replicate n true,true)) ⟨by simp [hn],fun X _ k hk _=>?_,fun g=>by cases g⟩
 ·obtain ⟨d,e,hd⟩:=key
  have e':loop (fun s:List Bool × Bool=>mI v s.1 s.2) (List.replicate n true,true)=some d:=e
  refine ⟨d,?_,hd⟩
  unfold lR
  rw [hrep,aA,e',aA];rfl
 ·obtain ⟨d0,m0⟩:=s
  obtain ⟨g1,g2,g3⟩:=hI
  simp only at g1 g2 g3
  cases m0 with
  |true=>
   left
   obtain ⟨d,m,e,k1,k2,k3,k4⟩:=aPV h g1 g2
   refine ⟨(d,m),?_,⟨k1,k2,fun hm=>(k4 hm).2⟩,?_⟩
   ·show mI v d0 true=_
    unfold mI
    rw [if_pos rfl,e,aA];rfl
   ·simp only [if_true]
    cases m with
    |true=>have:=k3 rfl;simp only [if_true];omega
    |false=>rw [(k4 rfl).1];simp
  |false=>
   right
   exact ⟨d0,rfl,g1,g3 rfl,g2⟩
 ·simp only [List.length_replicate] at hk
  rw [List.getElem?_replicate_of_lt hk]
end
end Gv
namespace Gv
open Go
noncomputable def aCr (v:bB):List Bool:=(lR v).getD []
noncomputable def aHf (v:bB) (k:Int):List Int:=(pB v [k]).getD []
section
variable {u v:bB} {p:List Int}
theorem aKk (h:Hug v):lR v=some (aCr v)/\DivS v (aCr v):=by
 obtain ⟨d,e,hd⟩:=div_eq h
 unfold aCr
 rw [e]
 exact ⟨rfl,hd⟩
theorem aNE (h:yM v) {k:Int} (hk:inT v k):pB v [k]=some (aHf v k)/\aDL (aHf v k) (Cl v (·∈[k]))/\(aHf v k).length<=100:=by
 obtain ⟨R,e,hR⟩:=internalU h (xs:=[k]) (by simp) fun q hq=>by simp at hq;exact hq ▸ hk
 unfold aHf
 rw [e]
 exact ⟨rfl,hR,aMz h hR fun q hq=>cl_in h (fun q hq=>by simp at hq;exact hq ▸ hk) hq⟩
noncomputable def intS (v:bB):List (List Int):=(List.range v.N.toNat).map fun k:Nat=>aHf v (k:Int)
theorem intS_eq (h:yM v):pC v=some (intS v):=by
 have h100:=h.big.st
 obtain ⟨n,hn⟩:∃ n:Nat,v.N=(n:Int):=⟨v.N.toNat,by omega⟩
 unfold pC
 have key:=kH (step:=fun s:List (List Int) × Int=>kF v s.1 s.2) (List.range n) (fun j (o:List (List Int))=>(o,(j:Int))) (fun l o=>o++l.map fun k:Nat=>aHf v (k:Int)) (fun j o=>o.length<=j) (fun j o i l hj hx hI=>?_) (fun o _=>by
  simp only [kF,hn,List.length_range,cO];simp) (a:=[]) (by simp)
 ·rw [show loop (fun s:List (List Int) × Int=>kF v s.1 s.2) ([],0)=_ from key,aA,List.nil_append]
  unfold intS
  rw [hn,Int.toNat_natCast];rfl
 ·left
  obtain ⟨hj',e⟩:=aBs hx
  rw [List.getElem_range] at e
  subst e
  rw [List.length_range] at hj
  refine ⟨o++[aHf v (j:Int)],?_,by simp;omega,by simp [List.append_assoc]⟩
  simp only [kF,hn,bU hj,if_pos,(aNE h (show inT v (j:Int) by unfold inT;omega)).1,aA]
  rw [cQ (by simp [jA];omega),aA,bK hj (by omega)]
def offB (u:bB) (p:List Int) (S:List Int):List Int:=(u.E.filter fun e=>(S.any fun x=>e.F == x)&&!inL p e).map (vl1 u p)
noncomputable def sgB (u:bB) (p:List Int) (k:Nat):List Int:=eC (qD iLt (offB u p (aHf (dK u p) (k:Int))))
noncomputable def dvB (u:bB) (p:List Int) (dv:Bool) (k:Nat):Int:=if (dv&&(aCr (dK u p)).getD k false)=true then 1 else 0
noncomputable def kyB (u:bB) (dv:Bool) (p:List Int):List (List Int):=(List.range u.N.toNat).map fun k=>p.getD k 0::dvB u p dv k::sgB u p k
theorem aON (S:List Int):(offB u p S).length<=u.E.length:=by
 unfold offB
 rw [List.length_map]
 exact List.length_filter_le _ _
theorem offB_loop (h:Hug u) (hp:iC u p) {S:List Int} (hS:S.length<=1000):loop (fun s:List Int × Int=>gB u p S s.1 s.2) (([]:List Int),0)=some (offB u p S):=by
 have hed:=h.ed
 have key:=kH (step:=fun s:List Int × Int=>gB u p S s.1 s.2) u.E (fun j (o:List Int)=>(o,(j:Int))) (fun l o=>o++(l.filter fun e=>(S.any fun x=>e.F == x)&&!inL p e).map (vl1 u p)) (fun j o=>o.length<=j) (fun j o e l hj hx hI=>?_) (fun o _=>by simp only [gB,cO];simp) (a:=[]) (by simp)
 ·rw [show loop (fun s:List Int × Int=>gB u p S s.1 s.2) ([],0)=_ from key,List.nil_append];rfl
 ·left
  obtain ⟨hj',rfl⟩:=aBs hx
  have he:=List.getElem_mem hj'
  obtain ⟨h1,h2,_⟩:=h.inn _ he
  have hw:=bK hj (show u.E.length < 4611686018427387904 by omega)
  have hv:=vl1_wrH h hp he
  refine ⟨if ((S.any fun x=>u.E[j].F == x)&&!inL p u.E[j])=true then o++[vl1 u p u.E[j]] else o,?_,by split<;>(try rw [List.length_append,List.length_singleton])<;>omega,?_⟩
  ·have j6:∀ b,gA u p o (j:Int) u.E[j] b=some (.inl (if b=true then o++[vl1 u p u.E[j]] else o,((j+1:Nat):Int))):=fun b=>by
    unfold gA kN
    cases b with
    |true=>rw [if_pos rfl,(jX hp h2).1,aA,hv,cQ (by simp [jA];omega),aA,hw];rfl
    |false=>rw [if_neg (by simp),hw];rfl
   simp only [gB,bU hj,if_pos,hx,aA,aFs S _ (show S.length < 4611686018427387904 by omega),j6]
   unfold inL
   cases (S.any fun x=>u.E[j].F == x) with
   |false=>rfl
   |true=>
    rw [if_pos rfl]
    by_cases h0:u.E[j].B=0
    ·rw [if_neg (by simp [h0]),(jX hp h1).1,aA,(jX hp h2).1,aA,h0]
     cases hb:p.getD u.E[j].F.toNat 0 == p.getD u.E[j].To.toNat 0 with
     |true=>
      have:(p.getD u.E[j].F.toNat 0 != p.getD u.E[j].To.toNat 0)=false:=by unfold bne;rw [hb];rfl
      rw [this];rfl
     |false=>
      have:(p.getD u.E[j].F.toNat 0 != p.getD u.E[j].To.toNat 0)=true:=by unfold bne;rw [hb];rfl
      rw [this];rfl
    ·have hb:(u.E[j].B == 0)=false:=beq_eq_false_iff_ne.2 h0
     rw [if_pos (by simp [h0]),hb];rfl
  ·rw [List.filter_cons]
   cases (S.any fun x=>u.E[j].F == x)&&!inL p u.E[j]<;>simp
theorem aKl {dv:Bool}:(kyB u dv p).length=u.N.toNat:=by unfold kyB;rw [List.length_map,List.length_range]
theorem aKm {dv:Bool} {k:Nat} (h:k < u.N.toNat):(kyB u dv p)[k]?=some (p.getD k 0::dvB u p dv k::sgB u p k):=by
 unfold kyB
 rw [List.getElem?_map,List.getElem?_range h];rfl
theorem aPW (h:yM u) (hp:iC u p) (dv:Bool):lZ u p dv=some (cn (kyB u dv p)):=by
 have hi:=aEY (q:=p) h
 have h100:=h.big.st
 have hed:=h.big.ed
 obtain ⟨n,hn⟩:∃ n:Nat,u.N=(n:Int):=⟨u.N.toNat,by omega⟩
 obtain ⟨d1,d2⟩:=aKk hi.big
 have dl:(aCr (dK u p)).length=n:=by
  have:(dK u p).N=u.N:=rfl
  rw [d2.len,this,hn,Int.toNat_natCast]
 have sl:(intS (dK u p)).length=n:=by
  unfold intS
  have:(dK u p).N=u.N:=rfl
  rw [List.length_map,List.length_range,this,hn,Int.toNat_natCast]
 unfold lZ
 rw [aOM h.big hp,aA,d1,aA,intS_eq hi,aA]
 have key:=kH (step:=fun s:List (List Int) × Int=>gC u p dv (aCr (dK u p)) (intS (dK u p)) s.1 s.2) (List.range n) (fun j (o:List (List Int))=>(o,(j:Int))) (fun l o=>o++l.map fun k=>p.getD k 0::dvB u p dv k::sgB u p k) (fun j o=>o.length<=j) (fun j o i l hj hx hI=>?_) (fun o _=>by
  simp only [gC,sl,List.length_range,cO];simp) (a:=[]) (by simp)
 ·rw [show loop (fun s:List (List Int) × Int=>gC u p dv (aCr (dK u p)) (intS (dK u p)) s.1 s.2) ([],0)=_ from key,aA,List.nil_append]
  have e0:(List.range n).map (fun k=>p.getD k 0::dvB u p dv k::sgB u p k)=kyB u dv p:=by unfold kyB;rw [hn,Int.toNat_natCast]
  rw [e0]
  unfold kL
  rw [aLU _ (by rw [aKl];omega) (fun x hx=>?_),aA]
  unfold kyB at hx
  obtain ⟨k,_,rfl⟩:=List.mem_map.1 hx
  have h1:=aON (u:=u) (p:=p) (aHf (dK u p) (k:Int))
  have h2:(sgB u p k).length<=(offB u p (aHf (dK u p) (k:Int))).length:=by
   unfold sgB
   refine Nat.le_trans (aGW _) ?_
   unfold qD
   rw [List.length_mergeSort];exact Nat.le_refl _
  simp only [List.length_cons];omega
 ·left
  obtain ⟨hj',e⟩:=aBs hx
  rw [List.getElem_range] at e
  subst e
  rw [List.length_range] at hj
  have hk:inT u (j:Int):=by unfold inT;omega
  obtain ⟨s1,s2,s3⟩:=aNE hi (k:=(j:Int)) hk
  have hw:=bK hj (show n < 4611686018427387904 by omega)
  have hol:=aON (u:=u) (p:=p) (aHf (dK u p) (j:Int))
  have hix:ix (intS (dK u p)) (j:Int)=some (aHf (dK u p) (j:Int)):=by
   rw [bR (by omega)]
   unfold intS
   rw [List.getElem_map,List.getElem_range]
  refine ⟨o++[p.getD j 0::dvB u p dv j::sgB u p j],?_,by simp;omega,by simp [List.append_assoc]⟩
  show gC u p dv (aCr (dK u p)) (intS (dK u p)) o (j:Int)=_
  unfold gC
  rw [sl,if_pos (bU hj),hix,aA,offB_loop h.big hp (by omega),aA]
  unfold kM
  rw [aFy (by omega),aA]
  have hpj:ix p (j:Int)=some (p.getD j 0):=(jX hp hk).1
  rw [hpj,aA]
  have j3:∀ z:Int,iL o (j:Int) (qD iLt (offB u p (aHf (dK u p) (j:Int)))) [p.getD j 0,z]=some (.inl (o++[p.getD j 0::z::sgB u p j],((j+1:Nat):Int))):=fun z=>by
   have hsl:(qD iLt (offB u p (aHf (dK u p) (j:Int)))).length=(offB u p (aHf (dK u p) (j:Int))).length:=by unfold qD;rw [List.length_mergeSort]
   have hdl:=aGW (qD iLt (offB u p (aHf (dK u p) (j:Int))))
   unfold iL mU
   rw [aJL _ (by omega),aA,cQ (by simp only [jA,List.length_cons,List.length_nil];omega),aA,cQ (by simp [jA];omega),aA,hw];rfl
  unfold dvB
  cases dv with
  |false=>rw [if_neg (by simp)];exact j3 0
  |true=>
   rw [if_pos rfl,ix_getD (by omega) (by omega),aA,Int.toNat_natCast]
   cases (aCr (dK u p)).getD j false with
   |true=>exact j3 1
   |false=>exact j3 0
noncomputable def brF (u:bB) (dv:Bool) (p:List Int):List Int:=cn (kyB u dv p)
theorem aPX {dv:Bool} (hp:p.length=u.N.toNat):aHV (brF u dv p) p:=by
 refine aJN (by rw [aKl,hp]) fun x y hx hy h=>?_
 rw [aKm (by omega),aKm (by omega),Option.some.injEq,List.cons.injEq] at h
 exact (aOJ hx hy).1 h.1
end
end Gv
namespace Gv
open Go
def InP (u:bB) (q:List Int) (x z:Int):Prop:=Cl (dK u q) (·∈[x]) z
def Dv (u:bB) (q:List Int) (x:Int):Prop:=∃ X,aIO (dK u q) X/\X x
def Nin (q:List Int) (e:Edge):Prop:=¬ (e.B=0/\kW q e.F e.To)
def BrEq (u:bB) (q:List Int) (x y:Int):Prop:=∀ e∈u.E,InP u q x e.F->Nin q e->∃ f∈u.E,InP u q y f.F/\Nin q f/\f.B=e.B/\kW q e.To f.To
section
variable {u:bB} {q p:List Int}
theorem kW.symm {x y:Int} (h:kW q x y):kW q y x:=Eq.symm h
theorem kW.trans {x y z:Int} (h:kW q x y) (h':kW q y z):kW q x z:=Eq.trans h h'
theorem InP.refl {x:Int}:InP u q x x:=.base (by simp)
theorem InP.step {x:Int} {e:Edge} (he:e∈u.E) (h0:e.B=0) (hs:kW q e.F e.To) (h:InP u q x e.F):InP u q x e.To:=Cl.step (xK.2 ⟨he,h0,hs⟩) h0 h
theorem InP.ind {x:Int} {C:Int->Prop} (h0:C x) (hs:∀ e∈u.E,e.B=0->kW q e.F e.To->InP u q x e.F->C e.F->C e.To) {z:Int} (h:InP u q x z):C z:=by
 have key:∀ z,Cl (dK u q) (·∈[x]) z->(Cl (dK u q) (·∈[x]) z/\C z):=fun z h=>by
  induction h with
  |base h=>simp at h;subst h;exact ⟨.base (by simp),h0⟩
  |step he h1 h2 ih=>
   obtain ⟨g1,g2,g3⟩:=xK.1 he
   exact ⟨.step he h1 h2,hs _ g1 g2 g3 ih.1 ih.2⟩
 exact (key z h).2
theorem InP.same {x z:Int} (h:InP u q x z):kW q x z:=InP.ind (C:=fun z=>kW q x z) rfl (fun e _ _ hs _ ih=>ih.trans hs) h
theorem InP.inn (h:yM u) {x z:Int} (hx:inT u x) (hz:InP u q x z):inT u z:=InP.ind hx (fun e he _ _ _ _=>(h.big.inn e he).2.1) hz
theorem InP.trans {x y z:Int} (h:InP u q x y) (h':InP u q y z):InP u q x z:=InP.ind h (fun e he h0 hs _ ih=>InP.step he h0 hs ih) h'
theorem InP.cl {x z:Int} (h:InP u q x z):Cl u (·∈[x]) z:=InP.ind (.base (by simp)) (fun e he h0 _ _ ih=>.step he h0 ih) h
theorem InP.up (hs:∀ x y,inT u x->inT u y->kW p x y->kW q x y) (h:yM u) {x z:Int} (hz:InP u p x z):InP u q x z:=InP.ind InP.refl (fun e he h0 h1 _ ih=>InP.step he h0 (hs _ _ (h.big.inn e he).1 (h.big.inn e he).2.1 h1) ih) hz
theorem aNG (h:yM u) {x:Int} (hx:inT u x):(aCr (dK u q)).getD x.toNat false=true<->Dv u q x:=by
 have hi:=aEY (q:=q) h
 obtain ⟨_,d⟩:=aKk hi.big
 unfold inT at hx
 have hl:(aCr (dK u q)).length=u.N.toNat:=d.len
 constructor
 ·intro hd
  refine ⟨fun z=>0<=z/\(aCr (dK u q)).getD z.toNat false=true,fun z ⟨h0,hz⟩=>?_,hx.1,hd⟩
  obtain ⟨e,he,h1,h2,h3⟩:=aEZ.1 (d.step z.toNat (aGZ.1 hz))
  have ht:=(hi.big.inn e he).2.1
  unfold inT at ht
  exact ⟨e,he,by omega,h2,ht.1,h3⟩
 ·rintro ⟨X,hX,hxX⟩
  refine aGZ.2 (d.max X hX x.toNat (by omega) ?_)
  rw [show ((x.toNat:Nat):Int)=x by omega];exact hxX
theorem aKn (h:yM u) {k:Nat} (hk:inT u (k:Int)) {z:Int}:z∈sgB u q k<->∃ e∈u.E,InP u q (k:Int) e.F/\Nin q e/\vl1 u q e=z:=by
 obtain ⟨_,hR,_⟩:=aNE (aEY (q:=q) h) (k:=(k:Int)) hk
 unfold sgB offB
 rw [aGU.mem,List.mem_map]
 constructor
 ·rintro ⟨e,he,hz⟩
  rw [List.mem_filter,Bool.and_eq_true,Bool.not_eq_true',aJo,decide_eq_true_eq] at he
  refine ⟨e,he.1,(hR.mem _).1 he.2.1,fun g=>?_,hz⟩
  have:=xJ.2 g
  rw [he.2.2] at this;cases this
 ·rintro ⟨e,h1,h2,h3,hz⟩
  refine ⟨e,?_,hz⟩
  rw [List.mem_filter,Bool.and_eq_true,Bool.not_eq_true',aJo,decide_eq_true_eq]
  refine ⟨h1,(hR.mem _).2 h2,?_⟩
  rw [Bool.eq_false_iff]
  exact fun g=>h3 (xJ.1 g)
theorem aOO (h:yM u) (hq:iC u q) {dv:Bool} {x y:Int} (hx:inT u x) (hy:inT u y):kW (brF u dv q) x y<->kW q x y/\(dv=true->(Dv u q x<->Dv u q y))/\BrEq u q x y/\BrEq u q y x:=by
 have hx':=hx
 have hy':=hy
 unfold inT at hx hy
 have hl:=aKl (u:=u) (p:=q) (dv:=dv)
 have ex:((x.toNat:Nat):Int)=x:=by omega
 have ey:((y.toNat:Nat):Int)=y:=by omega
 have half:∀ {x y:Int},inT u x->inT u y->((∀ z∈sgB u q x.toNat,z∈sgB u q y.toNat)<->BrEq u q x y):=fun {x y} hx hy=>by
  have hx2:=hx
  have hy2:=hy
  unfold inT at hx2 hy2
  have ex:((x.toNat:Nat):Int)=x:=by omega
  have ey:((y.toNat:Nat):Int)=y:=by omega
  constructor
  ·intro g e he h1 h2
   obtain ⟨f,hf,f1,f2,f3⟩:=(aKn h (by rw [ey];exact hy)).1 (g (vl1 u q e) ((aKn h (by rw [ex];exact hx)).2 ⟨e,he,by rw [ex];exact h1,h2,rfl⟩))
   have:=aOL h.big hq hf he f3
   rw [ey] at f1
   exact ⟨f,hf,f1,f2,this.1,this.2.symm⟩
  ·intro g z hz
   obtain ⟨e,he,h1,h2,rfl⟩:=(aKn h (by rw [ex];exact hx)).1 hz
   rw [ex] at h1
   obtain ⟨f,hf,f1,f2,f3,f4⟩:=g e he h1 h2
   exact (aKn h (by rw [ey];exact hy)).2 ⟨f,hf,by rw [ey];exact f1,f2,by unfold vl1;unfold kW at f4;rw [f3,f4]⟩
 have hdv:dvB u q dv x.toNat=dvB u q dv y.toNat<->(dv=true->(Dv u q x<->Dv u q y)):=by
  unfold dvB
  rw [←aNG h hx',←aNG h hy']
  cases dv with
  |false=>simp
  |true=>
   simp only [Bool.true_and,forall_const]
   cases (aCr (dK u q)).getD x.toNat false<;>cases (aCr (dK u q)).getD y.toNat false<;>simp
 unfold brF
 rw [cn_same ⟨hx.1,by rw [hl];omega⟩ ⟨hy.1,by rw [hl];omega⟩,aKm (by omega),aKm (by omega),Option.some.injEq,List.cons.injEq,List.cons.injEq,hdv]
 refine and_congr Iff.rfl (and_congr Iff.rfl ?_)
 rw [←half hx' hy',←half hy' hx']
 constructor
 ·intro g;rw [g];exact ⟨fun z hz=>hz,fun z hz=>hz⟩
 ·intro ⟨h1,h2⟩
  exact aDL.eq (X:=fun z=>z∈sgB u q y.toNat) ⟨aGU.ord,fun z=>⟨h1 z,h2 z⟩⟩ ⟨aGU.ord,fun z=>Iff.rfl⟩
end
structure Emb (t u:bB) (o:Int):Prop where
 go:∀ e∈t.E,∃ f∈u.E,f.F=e.F+o/\f.To=e.To+o/\sQ u f=sQ t e
 back:∀ f∈u.E,∀ x,inT t x->f.F=x+o->∃ e∈t.E,e.F=x/\f.To=e.To+o/\sQ u f=sQ t e
section
variable {a b:bB} {M:List aI} {Eo:List Edge}
theorem aOP (ha:bW a) (hb:bW b) (h:Uni a b M Eo):yM (aDN a b M Eo):=⟨(uni_big ha hb h).hug,M,rfl,h.str⟩
theorem aKo {s:aI} (hs:s∈bF::M) {x y:Int}:sQ (aDN a b M Eo) ⟨x,pos (bF::M) s,y⟩=s:=by
 obtain ⟨i,e1,g1⟩:=yY hs
 unfold sQ
 show (bF::M).getD (pos (bF::M) s).toNat []=s
 rw [e1,Int.toNat_natCast,List.getD_eq_getElem?_getD,g1];rfl
theorem aOQ (ha:bW a) (hb:bW b) (h:Uni a b M Eo):Emb a (aDN a b M Eo) 0:=by
 refine ⟨fun e he=>⟨⟨e.F,pos (bF::M) (sQ a e),e.To⟩,(h.ed _).2 (by unfold unA;exact List.mem_append_left _ (List.mem_map_of_mem he)),by simp,by simp,aKo (aGX h (.inl (aAX ha he)))⟩,fun f hf x hx hfx=>?_⟩
 have hf':=(h.ed f).1 hf
 unfold unA at hf'
 unfold inT at hx
 rcases List.mem_append.1 hf' with k|k
 ·obtain ⟨e,he,rfl⟩:=List.mem_map.1 k
  exact ⟨e,he,by simp only at hfx;omega,by simp,aKo (aGX h (.inl (aAX ha he)))⟩
 ·obtain ⟨e,he,rfl⟩:=List.mem_map.1 k
  have:=(pP hb he).1
  unfold inT at this
  simp only at hfx;omega
theorem aOR (ha:bW a) (hb:bW b) (h:Uni a b M Eo):Emb b (aDN a b M Eo) a.N:=by
 refine ⟨fun e he=>⟨⟨e.F+a.N,pos (bF::M) (sQ b e),e.To+a.N⟩,(h.ed _).2 (by unfold unA;exact List.mem_append_right _ (List.mem_map_of_mem he)),rfl,rfl,aKo (aGX h (.inr (aAX hb he)))⟩,fun f hf x hx hfx=>?_⟩
 have hf':=(h.ed f).1 hf
 unfold unA at hf'
 unfold inT at hx
 rcases List.mem_append.1 hf' with k|k
 ·obtain ⟨e,he,rfl⟩:=List.mem_map.1 k
  have:=(pP ha he).1
  unfold inT at this
  simp only at hfx;omega
 ·obtain ⟨e,he,rfl⟩:=List.mem_map.1 k
  exact ⟨e,he,by simp only at hfx;omega,rfl,aKo (aGX h (.inr (aAX hb he)))⟩
theorem uni_A (ha:bW a) (hb:bW b):∀ x,inT a x->inT (aDN a b M Eo) (x+0):=fun x hx=>by
 have:=hb.1
 unfold inT at *
 show 0<=x+0/\x+0 < a.N+b.N
 omega
theorem uni_B (ha:bW a) (hb:bW b):∀ y,inT b y->inT (aDN a b M Eo) (y+a.N):=fun y hy=>by
 have:=ha.1
 unfold inT at *
 show 0<=y+a.N/\y+a.N < a.N+b.N
 omega
def tog (a b:bB) (p:List Int):Bool:=p.getD a.I.toNat 0 == p.getD (a.N+b.I).toNat 0
theorem tog_iff {p:List Int}:tog a b p=true<->kW p (a.I+0) (b.I+a.N):=by
 unfold tog kW
 rw [beq_iff_eq,Int.add_zero,Int.add_comm a.N]
theorem tog_eq (ha:bW a) (hb:bW b) {p:List Int} (hp:iC (aDN a b M Eo) p):vD a b p=some (tog a b p):=by
 have s1:=ha.1
 have s2:=hb.1
 have i1:=ha.2.1
 have i2:=hb.2.1
 have h1:inT (aDN a b M Eo) a.I:=by
  unfold inT;show 0<=a.I/\a.I < a.N+b.N;omega
 have h2:inT (aDN a b M Eo) (a.N+b.I):=by
  unfold inT;show 0<=a.N+b.I/\a.N+b.I < a.N+b.N;omega
 unfold vD tog
 rw [(jX hp h1).1,aA,dS (by omega) (by omega),(jX hp h2).1,aA]
end
end Gv
