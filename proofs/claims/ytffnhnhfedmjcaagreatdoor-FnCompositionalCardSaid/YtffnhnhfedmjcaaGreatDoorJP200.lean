/- Steps in systems that may be larger than valid ones. -/
import Derived.Test.YtffnhnhfedmjcaaGreatDoorJP90
set_option linter.all false
namespace Gv
open Go
structure Hug (u:bA):Prop where
 st:1<=u.N/\u.N<=100
 lab:u.L.length<=100
 ed:u.E.length<=900000
 inn:∀ e∈u.E,jS u e.F/\jS u e.To/\0<=e.B/\e.B < u.L.length
theorem Big.hug {u:bA} (h:Big u):Hug u:=⟨h.st,h.lab,Nat.le_trans h.ed (by decide),h.inn⟩
section
variable {u:bA} {p:List Int}
theorem vl1_wrH (hu:Hug u) (hp:pF u p) {e:Edge} (he:e∈u.E):wr (wr (e.B * u.N)+p.getD e.To.toNat 0)=vl1 u p e:=by
 have h1:=hu.inn e he
 have h2:=(oP hp h1.2.1).2
 have h3:=hu.st
 have h4:=hu.lab
 have h5:=mul_b (l:=e.B) (m:=100) (s:=u.N) (n:=100) h1.2.2.1 (by omega) (by omega) (by omega)
 unfold vl1
 rw [gA (x:=e.B * u.N) (by omega) (by omega),gA (by omega) (by omega)]
theorem aPZ (hu:Hug u) (hp:pF u p) {e f:Edge} (he:e∈u.E) (hf:f∈u.E) (h:vl1 u p e=vl1 u p f):e.B=f.B/\p.getD e.To.toNat 0=p.getD f.To.toNat 0:=by
 have h1:=(oP hp (hu.inn e he).2.1).2
 have h2:=(oP hp (hu.inn f hf).2.1).2
 have h3:=hu.st
 unfold vl1 at h
 have key:∀ (a b x y n:Int),0<=x->x < n->0<=y->y < n->a * n+x=b * n+y->¬ a < b:=by
  intro a b x y n hx hx' hy hy' h hlt
  have h5:(a+1) * n<=b * n:=Int.mul_le_mul_of_nonneg_right (by omega) (by omega)
  rw [Int.add_mul] at h5
  omega
 have n1:=key _ _ _ _ _ h1.1 h1.2 h2.1 h2.2 h
 have n2:=key _ _ _ _ _ h2.1 h2.2 h1.1 h1.2 h.symm
 have:e.B=f.B:=by omega
 refine ⟨this,?_⟩
 rw [this] at h;omega
theorem aOJ (hu:Hug u) (hp:pF u p):loop (fun s:List (List Int) × Int=>nB p s.1 s.2) ((List.range u.N.toNat).map fun _=>[],0)=some ((List.range u.N.toNat).map fun k=>[p.getD k 0]):=by
 have h3:=hu.st
 have key:=lO (step:=fun s:List (List Int) × Int=>nB p s.1 s.2) u.N.toNat (fun k (o:List (List Int))=>(o,(k:Int))) (fun i o=>o=(List.range u.N.toNat).map fun k=>if k < i then [p.getD k 0] else []) (fun r=>r=(List.range u.N.toNat).map fun k=>[p.getD k 0]) (fun k o hk hI=>?_) (fun o hI=>?_) u.N.toNat 0 ((List.range u.N.toNat).map fun _=>[]) (by omega) (by simp)
 ·obtain ⟨r,h1,rfl⟩:=key
  exact h1
 ·subst hI
  have hg:=(oP hp (s:=(k:Int)) (by unfold jS;omega)).1
  refine ⟨_,?_,rfl⟩
  show nB p _ (k:Int)=_
  unfold nB
  rw [if_pos (by rw [hp.1];exact bU hk),hg,aA,aJm (by omega),aA,aMk (by omega),aA,bQ hk (by omega)]
  congr 3
  refine List.map_congr_left fun i _=>?_
  by_cases e:i=k
  ·subst e;simp
  ·by_cases h:i < k
   ·simp [e,h,show i < k+1 by omega]
   ·simp [e,h,show ¬ i < k+1 by omega]
 ·subst hI
  refine ⟨_,?_,rfl⟩
  show nB p _ ((u.N.toNat:Nat):Int)=_
  unfold nB
  rw [if_neg (by rw [hp.1];simp)]
  congr 2
  refine List.map_congr_left fun i hi=>?_
  rw [List.mem_range] at hi
  rw [if_pos hi]
theorem aOK (hu:Hug u) (hp:pF u p):loop (fun s:List (List Int) × Int=>nA u p s.1 s.2) ((List.range u.N.toNat).map fun _=>[],0)=some ((List.range u.N.toNat).map fun k:Nat=>(u.E.filter fun e=>e.F == (k:Int)).map (vl1 u p)):=by
 have h3:=hu.st
 have h5:=hu.ed
 have key:=lO (step:=fun s:List (List Int) × Int=>nA u p s.1 s.2) u.E.length (fun k (o:List (List Int))=>(o,(k:Int))) (fun i o=>o=(List.range u.N.toNat).map fun k:Nat=>((u.E.take i).filter fun e=>e.F == (k:Int)).map (vl1 u p)) (fun r=>r=(List.range u.N.toNat).map fun k:Nat=>(u.E.filter fun e=>e.F == (k:Int)).map (vl1 u p)) (fun i o hi hI=>?_) (fun o hI=>?_) u.E.length 0 ((List.range u.N.toNat).map fun _=>[]) (by omega) (by simp)
 ·obtain ⟨r,h1,rfl⟩:=key
  exact h1
 ·subst hI
  have he:=List.getElem_mem hi
  have hin:=hu.inn _ he
  have hF:=hin.1
  unfold jS at hF
  have hg:=(oP hp hin.2.1).1
  have hl:(((u.E.take i).filter fun e=>e.F == (u.E[i].F.toNat:Int)).map (vl1 u p)).length<=900000:=by
   rw [List.length_map]
   refine Nat.le_trans (List.length_filter_le _ _) ?_
   rw [List.length_take];omega
  refine ⟨_,?_,rfl⟩
  show nA u p _ (i:Int)=_
  unfold nA
  rw [if_pos (bU hi),cG hi,aA,aJm (by omega),aA,hg,aA,vl1_wrH hu hp he,dC (by simp only [jT,List.length_singleton];omega),aA,aMk (by omega),aA]
  unfold aAP
  rw [bQ hi (by omega)]
  congr 3
  refine List.map_congr_left fun k _=>?_
  have e0:u.E.take (i+1)=u.E.take i++[u.E[i]]:=by rw [List.take_add_one,List.getElem?_eq_getElem hi];rfl
  rw [e0,List.filter_append,List.map_append,List.filter_cons,List.filter_nil]
  by_cases e:k=u.E[i].F.toNat
  ·subst e
   have:(u.E[i].F == ((u.E[i].F.toNat:Nat):Int))=true:=by rw [beq_iff_eq];omega
   rw [if_pos rfl,if_pos this];rfl
  ·have:¬ (u.E[i].F == (k:Int))=true:=by rw [beq_iff_eq];omega
   rw [if_neg e,if_neg this,List.map_nil,List.append_nil]
 ·subst hI
  refine ⟨_,?_,rfl⟩
  show nA u p _ (u.E.length:Int)=_
  unfold nA
  rw [if_neg (by simp),List.take_length]
theorem aRe (hu:Hug u) (hp:pF u p):zW u p=some (cn (ky1 u p)):=by
 have h3:=hu.st
 have h5:=hu.ed
 have hm:mkz u.N ([]:List Int)=some ((List.range u.N.toNat).map fun _=>[]):=by
  unfold mkz
  rw [if_pos ⟨by omega,by unfold jT;omega⟩,rep_range]
 unfold zW
 rw [hm,aA,aOJ hu hp,aA]
 unfold aAQ
 rw [hm,aA,aOK hu hp,aA]
 unfold aAO
 have key:=lO (step:=fun s:List (List Int) × Nat × Int=>mZ ((List.range u.N.toNat).map fun k:Nat=>(u.E.filter fun e=>e.F == (k:Int)).map (vl1 u p)) s.1 s.2.1 s.2.2) u.N.toNat (fun k (o:List (List Int))=>(o,k,(k:Int))) (fun i o=>o=(List.range u.N.toNat).map fun k=>if k < i then p.getD k 0::sg1 u p k else [p.getD k 0]) (fun r=>r=ky1 u p) (fun i o hi hI=>?_) (fun o hI=>?_) u.N.toNat 0 ((List.range u.N.toNat).map fun k=>[p.getD k 0]) (by omega) (by simp)
 ·obtain ⟨r,h1,rfl⟩:=key
  have h1':loop (fun s:List (List Int) × Nat × Int=>mZ ((List.range u.N.toNat).map fun k:Nat=>(u.E.filter fun e=>e.F == (k:Int)).map (vl1 u p)) s.1 s.2.1 s.2.2) ((List.range u.N.toNat).map fun k=>[p.getD k 0],0,0)=some (ky1 u p):=h1
  rw [h1',aA]
  unfold aAM
  rw [aIi _ (by rw [aKS];omega) (fun x hx=>?_),aA]
  unfold ky1 at hx
  obtain ⟨k,_,rfl⟩:=List.mem_map.1 hx
  have:=sg1_len (u:=u) (p:=p) k
  rw [List.length_cons];omega
 ·subst hI
  have hfl:((u.E.filter fun e=>e.F == (i:Int)).map (vl1 u p)).length<=900000:=by
   rw [List.length_map]
   exact Nat.le_trans (List.length_filter_le _ _) h5
  have hsl:=sg1_len (u:=u) (p:=p) i
  refine ⟨_,?_,rfl⟩
  show mZ _ _ i (i:Int)=_
  unfold mZ tkN
  rw [if_pos (by rw [List.length_map,List.length_range];exact bU hi),aJm (by omega),aA,if_pos (by omega),aA,Int.toNat_natCast,aDR (by omega),aA,aJm (by omega),aA,aFc _ (by unfold rO;rw [List.length_mergeSort];omega),aA,Int.toNat_natCast,if_neg (by omega)]
  have e0:fS (rO iLt ((u.E.filter fun e=>e.F == (i:Int)).map (vl1 u p)))=sg1 u p i:=rfl
  rw [e0,dC (by simp only [jT,List.length_singleton];omega),aA,aMk (by omega),aA]
  unfold aAN
  rw [bQ hi (by omega)]
  congr 3
  refine List.map_congr_left fun k _=>?_
  by_cases e:k=i
  ·subst e;simp
  ·by_cases h:k < i
   ·simp [e,h,show k < i+1 by omega]
   ·simp [e,h,show ¬ k < i+1 by omega]
 ·subst hI
  refine ⟨_,?_,rfl⟩
  show mZ _ _ u.N.toNat ((u.N.toNat:Nat):Int)=_
  unfold mZ
  rw [if_neg (by rw [List.length_map,List.length_range];simp)]
  unfold ky1
  congr 2
  refine List.map_congr_left fun i hi=>?_
  rw [List.mem_range] at hi
  rw [if_pos hi]
theorem aQa (hu:Hug u) {κ:Type} [DecidableEq κ] [BEq κ] [LawfulBEq κ] {l:List κ} (h:l.length=u.N.toNat):pF u (cn l):=by
 have:=hu.st
 refine ⟨by rw [aCy,h],fun z hz=>?_⟩
 have:=cn_in hz
 omega
end
structure aAG (u:bA):Prop where
 big:Hug u
 lab:∃ M,u.L=bC::M/\pV M
section
variable {u:bA}
theorem aAG.edge (h:aAG u) {e:Edge} (he:e∈u.E):aEy u e:=by
 obtain ⟨h1,h2,h3,h4⟩:=h.big.inn e he
 unfold jS at h1 h2
 exact ⟨⟨by omega,by omega⟩,⟨by omega,by omega⟩,h3,by omega⟩
theorem aAG.tau (h:aAG u) {e:Edge} (he:e∈u.E):oS u e=bC<->e.B=0:=by
 obtain ⟨M,hM,hs⟩:=h.lab
 obtain ⟨_,_,h3,h4⟩:=h.big.inn e he
 unfold oS
 rw [hM] at h4 ⊢
 rw [List.length_cons] at h4
 by_cases h0:e.B=0
 ·rw [h0];exact ⟨fun _=>rfl,fun _=>rfl⟩
 ·have:e.B.toNat=(e.B.toNat - 1)+1:=by omega
  rw [this,List.getD_cons_succ,List.getD_eq_getElem?_getD,List.getElem?_eq_getElem (by omega)]
  exact ⟨fun g=>absurd (g ▸ List.getElem_mem _) hs.2,fun g=>absurd g h0⟩
theorem aftT_in (h:aAG u) {S:List Int} {s:aH} {q:Int} (hq:AftT u S s q):jS u q:=by
 obtain ⟨e,he,_,_,rfl⟩:=hq
 exact (h.big.inn e he).2.1
theorem cl_in (h:aAG u) {X:Int->Prop} (h0:∀ q,X q->jS u q) {q:Int} (hq:Cl u X q):jS u q:=by
 induction hq with
 |base h1=>exact h0 _ h1
 |step he _ _ _=>exact (h.big.inn _ he).2.1
theorem followU (h:aAG u) {S:List Int} (hS:S.length < 1000000000) (s:aH):∃ R,aBQ u S s=some R/\aDf R (AftT u S s):=by
 have hed:=h.big.ed
 have hl:((u.E.filter fun e=>oS u e == s&&S.any fun x=>e.F == x).map (·.To)).length<=900000:=by
  rw [List.length_map];exact Nat.le_trans (List.length_filter_le _ _) hed
 refine ⟨fS (rO iLt ((u.E.filter fun e=>oS u e == s&&S.any fun x=>e.F == x).map (·.To))),?_,aCx.iff fun q=>?_⟩
 ·unfold aBQ
  rw [aFb (step:=fun x:List Int × Int=>wD u S s x.1 x.2) u.E (fun e=>oS u e == s&&S.any fun x=>e.F == x) (·.To) id (fun j out x hj ho hx=>?_) (fun out=>by simp only [wD,dB];rfl),aA]
  ·unfold aAK
   simp only [id]
   rw [aDR (by omega),aA,aFc _ (by unfold rO;rw [List.length_mergeSort];omega),aA]
  ·obtain ⟨hj',rfl⟩:=aDo hx
   simp only [wD,bU hj,if_pos,hx,aA,aHo (h.edge (List.getElem_mem hj')),aDP S _ (show S.length < 4611686018427387904 by omega),aAL,wC,bQ hj (show u.E.length < 4611686018427387904 by omega)]
   rw [dC (by simp [jT];omega),aA]
   cases oS u u.E[j] == s<;>cases (S.any fun x=>u.E[j].F == x)<;>rfl
 ·rw [List.mem_map]
  constructor
  ·rintro ⟨e,he,rfl⟩
   rw [List.mem_filter,Bool.and_eq_true,List.any_eq_true] at he
   obtain ⟨h1,h2,x,hx,h3⟩:=he
   rw [beq_iff_eq] at h2 h3
   exact ⟨e,h1,h2,h3 ▸ hx,rfl⟩
  ·rintro ⟨e,h1,h2,h3,rfl⟩
   refine ⟨e,?_,rfl⟩
   rw [List.mem_filter,Bool.and_eq_true,List.any_eq_true,beq_iff_eq]
   exact ⟨h1,h2,_,h3,by simp⟩
theorem aNz (h:aAG u) {R:List Int} {X:Int->Prop} (hR:aDf R X) (h0:∀ q,X q->jS u q):R.length<=100:=by
 have:=h.big.st
 exact hR.len (n:=100) fun q hq=>by
  have:=h0 q hq
  unfold jS at this;omega
theorem internalU (h:aAG u) {xs:List Int} (hn:xs.Nodup) (h0:∀ q∈xs,jS u q):∃ R,qO u xs=some R/\aDf R (Cl u (·∈xs)):=by
 have h100:=h.big.st
 have hlen:∀ {o:List Int},o.Nodup->(∀ q∈o,Cl u (·∈xs) q)->o.length<=100:=fun {o} h1 h2=>by
  have:=List.Nodup.length_le_of_subset (l₂:=(List.range 100).map Int.ofNat) h1 (fun x hx=>by
   have:=cl_in h h0 (h2 x hx)
   unfold jS at this
   rw [List.mem_map]
   exact ⟨x.toNat,by rw [List.mem_range];omega,by show ((x.toNat:Nat):Int)=x;omega⟩)
  simpa using this
 have hx0:=hlen hn fun q hq=>.base hq
 have hloop:=pG (step:=fun s:List Int × Int=>sJ u s.1 s.2)
  (fun s=>∃ k:Nat,s.2=(k:Int)/\k<=s.1.length/\s.1.Nodup/\(∀ q∈xs,q∈s.1)/\(∀ q∈s.1,Cl u (·∈xs) q)/\∀ j,(hj:j < s.1.length)->j < k->∀ e∈u.E,e.B=0->e.F=s.1[j]->e.To∈s.1)
  (fun s=>101 - s.2.toNat) (fun r=>r.Nodup/\r.length<=100/\∀ q,q∈r<->Cl u (·∈xs) q) (fun s hI=>?_) (s:=(xs,0)) ⟨0,rfl,Nat.zero_le _,hn,fun _ h=>h,fun q hq=>.base hq,fun j _ h=>by omega⟩
 ·obtain ⟨r,h1,h2,h3,h4⟩:=hloop
  refine ⟨rO iLt r,?_,(aQW h2).iff h4⟩
  unfold qO bY
  rw [dC (by simp [jT];omega),aA,List.nil_append,aA,h1,aA]
  unfold xK
  rw [aDR (by omega)];rfl
 ·obtain ⟨o,i⟩:=s
  obtain ⟨k,rfl,hk,hnd,hsub,hcl,hdone⟩:=hI
  simp only at hk hnd hsub hcl hdone
  have ho:=hlen hnd hcl
  by_cases hlt:k < o.length
  ·left
   obtain ⟨R,hf,hR⟩:=followU h (S:=[o[k]]) (by simp) bC
   have hRl:R.length<=100:=aNz h hR fun q hq=>aftT_in h hq
   have hin:=lH (step:=fun s:List Int × Int=>oY R s.1 s.2) R (fun j a=>(a,(j:Int))) (fun l a=>l.foldl aGD a) (fun j a=>a.length<=100+j) (fun j a x l hj hx hI=>?_) (fun a _=>by simp only [oY,dB];rfl) (a:=o) ho
   ·obtain ⟨g1,g2,g3,g4⟩:=aNt R o hnd
    have hcl':∀ q∈R.foldl aGD o,Cl u (·∈xs) q:=fun q hq=>by
     rcases (g3 q).1 hq with g|g
     ·exact hcl q g
     ·obtain ⟨e,he,hl,hfr,rfl⟩:=(hR.mem q).1 g
      simp only [List.mem_singleton] at hfr
      exact .step he ((h.tau he).1 hl) (hfr ▸ hcl _ (List.getElem_mem hlt))
    refine ⟨(R.foldl aGD o,((k+1:Nat):Int)),?_,⟨k+1,rfl,Nat.le_trans hlt g1.length_le,g2,fun q hq=>(g3 q).2 (.inl (hsub q hq)),hcl',fun j hj hjk e he hl hfr=>?_⟩,by simp only;omega⟩
    ·simp only [sJ,bU hlt,if_pos,cG hlt,aA]
     rw [show ([116,97,117]:aH)=bC from rfl,hf,aA,show loop (fun s:List Int × Int=>oY R s.1 s.2) (o,0)=_ from hin,aA]
     simp only [aBR,xL,bQ hlt (show o.length < 4611686018427387904 by omega)]
    ·simp only at hj hfr ⊢
     have hjo:j < o.length:=by omega
     have e1:(R.foldl aGD o)[j]=o[j]:=(g1.getElem hjo).symm
     rw [e1] at hfr
     rw [g3]
     by_cases hjk':j < k
     ·exact .inl (hdone j hjo hjk' e he hl hfr)
     ·obtain rfl:j=k:=by omega
      exact .inr ((hR.mem _).2 ⟨e,he,(h.tau he).2 hl,by simp [hfr],rfl⟩)
   ·left
    have hI':a.length<=100+j:=hI
    simp only [oY,bU hj,if_pos,hx,aA,aDP a _ (show a.length < 4611686018427387904 by omega),sI,bQ hj (show R.length < 4611686018427387904 by omega)]
    rw [aJV,dC (by simp [jT];omega),aA,List.foldl_cons]
    unfold aGD
    by_cases hm:x∈a
    ·rw [if_pos hm];exact ⟨a,by simp [hm],by omega,rfl⟩
    ·rw [if_neg hm];exact ⟨a++[x],by simp [hm],by simp;omega,rfl⟩
  ·right
   have hke:k=o.length:=by omega
   refine ⟨o,?_,hnd,ho,fun q=>⟨fun hq=>hcl q hq,fun hq=>?_⟩⟩
   ·simp only [sJ,hke,dB];rfl
   ·induction hq with
    |base g=>exact hsub _ g
    |step he hl _ ih=>
     obtain ⟨j,hj,ej⟩:=List.getElem_of_mem ih
     exact hdone j hj (by omega) _ he hl ej.symm
end
end Gv
namespace Gv
open Go
def kY (p:List Int) (x y:Int):Prop:=p.getD x.toNat 0=p.getD y.toNat 0
def Pres (u:bA) (F:List Int->List Int) (R:Int->Int->Prop):Prop:=
 ∀ q,pF u q->(∀ x y,jS u x->jS u y->R x y->kY q x y)->∀ x y,jS u x->jS u y->R x y->kY (F q) x y
structure Crs (u:bA) (F:List Int->List Int) (p:List Int):Prop where
 part:pF u p
 fix:F p=p
 low:∀ R,Pres u F R->∀ x y,jS u x->jS u y->R x y->kY p x y
section
variable {u:bA}
theorem aMm (hu:Hug u) {F:List Int->List Int} (hF:∀ p,pF u p->cn p=p->pF u (F p)/\cn (F p)=F p/\aJW (F p) p) {nx:List Int->Option (List Int)} (hn:∀ p,pF u p->nx p=some (F p))
  {step:List (List Int)->Option (List (List Int) ⊕ List (List Int))}
  (hs:∀ out,step out=ob (ix out (wr ((out.length:Int) - 1))) fun e=>ob (nx e) fun r=>ob (cR e r) fun b=>if b then (some (.inr out)) else (ob (xQ out ([r]:List (List Int))) fun xs=>some (.inl xs))):
  ∃ p,(ob (mkz u.N (0:Int)) fun z=>ob (loop step ([z]:List (List Int))) fun r=>pD r)=some p/\Crs u F p:=by
 have h3:=hu.st
 have hm:mkz u.N (0:Int)=some (List.replicate u.N.toNat 0):=by
  unfold mkz
  rw [if_pos ⟨by omega,by unfold jT;omega⟩]
 rw [hm,aA]
 have hh:∀ q:List Int,(tE q u.N.toNat).length<=100:=fun q=>Nat.le_trans (aNx q _) (by omega)
 have key:=aRc (step:=step) u.N.toNat (fun p s=>(∃ l,s=l++[p])/\s.length<=(tE p u.N.toNat).length/\pF u p/\∀ R,Pres u F R->∀ x y,jS u x->jS u y->R x y->kY p x y) (fun r=>∃ l p,r=l++[p]/\Crs u F p/\r.length<=100) (fun p s hl hc hI=>?_) (List.replicate u.N.toNat 0) [List.replicate u.N.toNat 0] (by simp) (cn_const _) ⟨⟨[],rfl⟩,?_,?_,?_⟩
 ·obtain ⟨r,h1,l,p,rfl,hp,hl⟩:=key
  rw [h1,aA]
  unfold pD
  rw [List.length_append,List.length_singleton] at hl
  have hw:wr ((((l++[p]).length:Nat):Int) - 1)=((l.length:Nat):Int):=by
   rw [List.length_append,List.length_singleton,gA (by omega) (by omega)];omega
  refine ⟨p,?_,hp⟩
  rw [hw,rS,List.getElem?_append_right (Nat.le_refl _),Nat.sub_self]
  rfl
 ·obtain ⟨⟨l,rfl⟩,hlen,hp,hlow⟩:=hI
  have hb:=hh p
  rw [List.length_append,List.length_singleton] at hlen
  have hw:wr ((((l++[p]).length:Nat):Int) - 1)=((l.length:Nat):Int):=by
   rw [List.length_append,List.length_singleton,gA (by omega) (by omega)];omega
  obtain ⟨hpF,hcc,hsp⟩:=hF p hp hc
  have hstep:step (l++[p])=if decide (p=F p)=true then some (.inr (l++[p])) else some (.inl (l++[p]++[F p])):=by
   rw [hs,hw,rS,List.getElem?_append_right (Nat.le_refl _),Nat.sub_self]
   show ob (some p) _=_
   rw [aA,hn p hp,aA,aHM _ _ (by rw [hl];omega),aA,dC (by simp only [jT,List.length_append,List.length_singleton];omega),aA]
  rw [hstep]
  by_cases e:p=F p
  ·left
   rw [if_pos (by simpa using e)]
   exact ⟨_,rfl,l,p,rfl,⟨hp,e.symm,hlow⟩,by rw [List.length_append,List.length_singleton];omega⟩
  ·right
   rw [if_neg (by simpa using e)]
   have hmore:=(aHr hc hcc hsp).resolve_left (fun h=>e h.symm)
   rw [hl] at hmore
   refine ⟨_,_,hsp,hcc,fun h=>e h.symm,rfl,⟨l++[p],rfl⟩,?_,hpF,fun R hR=>hR p hp (hlow R hR)⟩
   rw [List.length_append,List.length_append,List.length_singleton,List.length_singleton];omega
 ·have:0∈tE (List.replicate u.N.toNat (0:Int)) u.N.toNat:=by
   unfold tE
   rw [List.mem_filter,List.mem_range,decide_eq_true_iff]
   exact ⟨by omega,fun k hk=>by omega⟩
  exact List.length_pos_of_mem this
 ·exact ⟨by simp,fun z hz=>by rw [List.mem_replicate] at hz;omega⟩
 ·intro R _ x y hx hy _
  unfold kY
  unfold jS at hx hy
  rw [List.getD_eq_getElem?_getD,List.getD_eq_getElem?_getD,List.getElem?_replicate_of_lt (by omega),List.getElem?_replicate_of_lt (by omega)]
def stF (u:bA) (p:List Int):List Int:=cn (ky1 u p)
theorem aRf (hu:Hug u):∃ p,zX u=some p/\Crs u (stF u) p:=by
 obtain ⟨p,h1,h2⟩:=aMm hu (F:=stF u) (fun p hp hc=>⟨aQa hu aKS,cn_cn _,aRd hp.1⟩) (nx:=fun p=>zW u p) (fun p hp=>aRe hu hp) (step:=fun s=>aEU u s) (fun out=>rfl)
 refine ⟨p,?_,h2⟩
 rw [←h1]
 unfold zX aJg aFE
 cases hm:mkz u.N (0:Int) with
 |none=>rfl
 |some z=>
  simp only [aA]
  cases loop (fun s=>aEU u s) [z] with
  |none=>rfl
  |some r=>
   simp only [aA]
   cases pD r<;>rfl
theorem cn_same {κ:Type} [DecidableEq κ] [BEq κ] [LawfulBEq κ] {l:List κ} {x y:Int} (hx:0<=x/\x.toNat < l.length) (hy:0<=y/\y.toNat < l.length):kY (cn l) x y<->l[x.toNat]?=l[y.toNat]?:=by
 unfold kY
 rw [aMl (by rw [aCy];exact hx.2) (by rw [aCy];exact hy.2)]
 exact (cn_ker l).2 _ _ (by rw [aCy];exact hx.2) (by rw [aCy];exact hy.2)
def StEq (u:bA) (q:List Int) (x y:Int):Prop:=∀ e∈u.E,e.F=x->∃ f∈u.E,f.F=y/\f.B=e.B/\kY q e.To f.To
theorem stF_same (hu:Hug u) {q:List Int} (hq:pF u q) {x y:Int} (hx:jS u x) (hy:jS u y):kY (stF u q) x y<->kY q x y/\StEq u q x y/\StEq u q y x:=by
 unfold jS at hx hy
 have hl:=aKS (u:=u) (p:=q)
 have half:∀ {x y:Int},0<=x/\x < u.N->0<=y/\y < u.N->((∀ z∈sg1 u q x.toNat,z∈sg1 u q y.toNat)<->StEq u q x y):=fun {x y} hx hy=>by
  constructor
  ·intro h e he hex
   have:=h (vl1 u q e) (aKR.2 ⟨e,he,by omega,rfl⟩)
   obtain ⟨f,hf,h1,h2⟩:=aKR.1 this
   have:=aPZ hu hq hf he h2
   exact ⟨f,hf,by omega,this.1,this.2.symm⟩
  ·intro h z hz
   obtain ⟨e,he,h1,rfl⟩:=aKR.1 hz
   obtain ⟨f,hf,h2,h3,h4⟩:=h e he (by omega)
   exact aKR.2 ⟨f,hf,by omega,by unfold vl1;unfold kY at h4;rw [h3,h4]⟩
 unfold stF
 rw [cn_same ⟨hx.1,by rw [hl];omega⟩ ⟨hy.1,by rw [hl];omega⟩,aKT (by omega),aKT (by omega),Option.some.injEq,List.cons.injEq]
 refine and_congr Iff.rfl ?_
 rw [←half hx hy,←half hy hx]
 constructor
 ·intro h;rw [h];exact ⟨fun z hz=>hz,fun z hz=>hz⟩
 ·intro ⟨h1,h2⟩
  exact aDf.eq (X:=fun z=>z∈sg1 u q y.toNat) ⟨aCx.ord,fun z=>⟨h1 z,h2 z⟩⟩ ⟨aCx.ord,fun z=>Iff.rfl⟩
end
end Gv
namespace Gv
open Go
def inL (q:List Int) (e:Edge):Bool:=e.B == 0&&(q.getD e.F.toNat 0 == q.getD e.To.toNat 0)
def gG (u:bA) (q:List Int):bA:=⟨u.N,u.I,u.L,u.E.filter (inL q)⟩
section
variable {u v:bA} {q:List Int}
theorem aJq {e:Edge}:inL q e=true<->e.B=0/\kY q e.F e.To:=by
 unfold inL kY
 rw [Bool.and_eq_true,beq_iff_eq,beq_iff_eq]
theorem aDY {e:Edge}:e∈(gG u q).E<->e∈u.E/\e.B=0/\kY q e.F e.To:=by
 show e∈u.E.filter (inL q)<->_
 rw [List.mem_filter,aJq]
theorem aQb (h:Hug u) (hq:pF u q):rV u q=some (gG u q):=by
 have hed:=h.ed
 unfold rV aGe
 have key:=lH (step:=fun s:List Edge × Int=>wR u q s.1 s.2) u.E (fun j (o:List Edge)=>(o,(j:Int))) (fun l o=>o++l.filter (inL q)) (fun j o=>o.length<=j) (fun j o e l hj hx hI=>?_) (fun o _=>by simp only [wR,dB];simp) (a:=[]) (by simp)
 ·rw [show loop (fun s:List Edge × Int=>wR u q s.1 s.2) ([],0)=_ from key,aA,List.nil_append];rfl
 ·left
  obtain ⟨hj',rfl⟩:=aDo hx
  obtain ⟨h1,h2,_⟩:=h.inn _ (List.getElem_mem hj')
  have hw:=bQ hj (show u.E.length < 4611686018427387904 by omega)
  have hc:qM u.E[j] q=some (inL q u.E[j]):=by
   unfold qM inL
   cases u.E[j].B == 0 with
   |false=>rfl
   |true=>rw [if_pos rfl,(oP hq h1).1,aA,(oP hq h2).1,aA];rfl
  refine ⟨if inL q u.E[j]=true then o++[u.E[j]] else o,?_,by split<;>(try rw [List.length_append,List.length_singleton])<;>omega,?_⟩
  ·simp only [wR,bU hj,if_pos,hx,aA,hc,aAz,hw]
   cases inL q u.E[j] with
   |true=>rw [if_pos rfl,dC (by simp [jT];omega),aA];rfl
   |false=>rfl
  ·rw [List.filter_cons]
   cases inL q u.E[j]<;>simp
theorem aFT (h:aAG u):aAG (gG u q):=
 ⟨⟨h.big.st,h.big.lab,Nat.le_trans (List.length_filter_le _ _) h.big.ed,fun e he=>h.big.inn e (aDY.1 he).1⟩,h.lab⟩
def aGA (v:bA) (d:List Bool) (k:Int):Bool:=(v.E.filter fun e=>e.F == k).any fun e=>e.B == 0&&d.getD e.To.toNat false
theorem aNA {d:List Bool} {k:Int}:aGA v d k=true<->∃ e∈v.E,e.F=k/\e.B=0/\d.getD e.To.toNat false=true:=by
 unfold aGA
 rw [List.any_eq_true]
 constructor
 ·rintro ⟨e,he,h⟩
  rw [List.mem_filter,beq_iff_eq] at he
  rw [Bool.and_eq_true,beq_iff_eq] at h
  exact ⟨e,he.1,he.2,h.1,h.2⟩
 ·rintro ⟨e,h1,h2,h3,h4⟩
  exact ⟨e,by rw [List.mem_filter,beq_iff_eq];exact ⟨h1,h2⟩,by rw [Bool.and_eq_true,beq_iff_eq];exact ⟨h3,h4⟩⟩
def aMn (v:bA) (X:Int->Prop):Prop:=∀ x,X x->∃ e∈v.E,e.F=x/\e.B=0/\X e.To
structure DivS (v:bA) (d:List Bool):Prop where
 len:d.length=v.N.toNat
 step:∀ k:Nat,d[k]?=some true->aGA v d (k:Int)=true
 max:∀ X,aMn v X->∀ k:Nat,k < d.length->X (k:Int)->d[k]?=some true
theorem goes_eq (h:Hug v) {d:List Bool} (hd:d.length=v.N.toNat) (k:Int):(ob (nR v k) fun r=>eS r d)=some (aGA v d k):=by
 have hed:=h.ed
 rw [aLQ v k (by omega),aA]
 unfold aGA
 have hin:∀ e∈v.E.filter (fun e=>e.F == k),jS v e.To:=fun e he=>(h.inn e (List.mem_filter.1 he).1).2.1
 have hl:(v.E.filter fun e=>e.F == k).length<=v.E.length:=List.length_filter_le _ _
 generalize v.E.filter (fun e=>e.F == k)=es at hin hl ⊢
 unfold eS fR
 rw [wT (step:=fun s=>dO es d s) es (fun e=>e.B == 0&&d.getD e.To.toNat false) (fun i x hi hx=>by
  obtain ⟨_,rfl⟩:=aDo hx
  have ht:=hin _ (List.getElem_mem hi)
  unfold jS at ht
  have hc:qN es[i] d=some (es[i].B == 0&&d.getD es[i].To.toNat false):=by
   unfold qN
   cases es[i].B == 0 with
   |false=>rfl
   |true=>rw [if_pos rfl,ix_getD ht.1 (by omega),aA];rfl
  simp only [dO,bU hi,if_pos,hx,aA,hc,bQ hi (show es.length < 4611686018427387904 by omega)]) (by simp only [dO,dB];rfl),aA,←aLN]
 cases es.findIdx? (fun e=>e.B == 0&&d.getD e.To.toNat false) with
 |none=>rfl
 |some i=>simp
theorem aJX {d:List Bool} {k:Nat}:d.getD k false=true<->d[k]?=some true:=by
 rw [List.getD_eq_getElem?_getD]
 cases d[k]? with
 |none=>simp
 |some b=>simp
theorem aRg (h:Hug v) {d0:List Bool} (hd:d0.length=v.N.toNat) (hmax:∀ X,aMn v X->∀ k:Nat,k < d0.length->X (k:Int)->d0[k]?=some true):
  ∃ d m,loop (fun s:List Bool × Bool × Int=>iZ v d0 s.1 s.2.1 s.2.2) (d0,false,0)=some (d,m)/\d.length=v.N.toNat/\(∀ X,aMn v X->∀ k:Nat,k < d.length->X (k:Int)->d[k]?=some true)/\(m=true->d.count true < d0.count true)/\
   (m=false->d=d0/\∀ k:Nat,d[k]?=some true->aGA v d (k:Int)=true):=by
 have h100:=h.st
 have key:=lO (step:=fun s:List Bool × Bool × Int=>iZ v d0 s.1 s.2.1 s.2.2) d0.length (fun j (a:List Bool × Bool)=>(a.1,a.2,(j:Int)))
  (fun j a=>a.1.length=v.N.toNat/\(∀ X,aMn v X->∀ k:Nat,k < a.1.length->X (k:Int)->a.1[k]?=some true)/\(a.2=true->a.1.count true < d0.count true)/\a.1.count true<=d0.count true/\(a.2=false->a.1=d0/\∀ k:Nat,k < j->a.1[k]?=some true->aGA v a.1 (k:Int)=true))
  (fun r=>r.1.length=v.N.toNat/\(∀ X,aMn v X->∀ k:Nat,k < r.1.length->X (k:Int)->r.1[k]?=some true)/\(r.2=true->r.1.count true < d0.count true)/\(r.2=false->r.1=d0/\∀ k:Nat,r.1[k]?=some true->aGA v r.1 (k:Int)=true))
  (fun j a hj hI=>?_) (fun a hI=>?_) d0.length 0 (d0,false) (by omega) ⟨hd,hmax,(fun g=>by cases g),Nat.le_refl _,fun _=>⟨rfl,fun k hk=>by omega⟩⟩
 ·obtain ⟨⟨d,m⟩,e,g1,g2,g3,g4⟩:=key
  exact ⟨d,m,e,g1,g2,g3,g4⟩
 ·obtain ⟨d,m⟩:=a
  obtain ⟨g1,g2,g3,g4,g5⟩:=hI
  simp only at g1 g2 g3 g4 g5
  have hjd:j < d.length:=by omega
  have hw:=bQ hj (show d0.length < 4611686018427387904 by omega)
  have hstep:iZ v d0 d m (j:Int)=(if d[j]=true then iY d m (j:Int) (!aGA v d (j:Int)) else iY d m (j:Int) false):=by
   unfold iZ
   rw [if_pos (bU hj)]
   have:=goes_eq h g1 (j:Int)
   cases ho:nR v (j:Int) with
   |none=>rw [ho] at this;cases this
   |some r=>
    rw [ho,aA] at this
    rw [aA,this,aA,cG hjd,aA]
  show ∃ a',iZ v d0 d m (j:Int)=_/\_
  rw [hstep]
  by_cases hdj:d[j]=true
  ·rw [if_pos hdj]
   cases hg:aGA v d (j:Int) with
   |true=>
    refine ⟨(d,m),by unfold iY lP;rw [Bool.not_true,if_neg (by simp),hw],g1,g2,g3,g4,fun hm=>⟨(g5 hm).1,fun k hk hk'=>?_⟩⟩
    by_cases e:k=j
    ·subst e;exact hg
    ·exact (g5 hm).2 k (by omega) hk'
   |false=>
    have hc:(d.set j false).count true < d.count true:=aIH (b:=true) (by rw [List.getElem?_eq_getElem hjd,hdj])
    refine ⟨(d.set j false,true),?_,by rw [List.length_set];exact g1,fun X hX k hk hXk=>?_,fun _=>by simp only;omega,by simp only;omega,fun hm=>by cases hm⟩
    ·unfold iY lP
     rw [Bool.not_false,if_pos rfl,cG hjd,aA,aBu _ hjd,aA,hw]
    ·simp only at hk ⊢
     rw [List.length_set] at hk
     by_cases e:j=k
     ·subst e
      exfalso
      obtain ⟨e,he,e1,e2,e3⟩:=hX _ hXk
      have ht:=(h.inn e he).2.1
      unfold jS at ht
      have:aGA v d (j:Int)=true:=aNA.2 ⟨e,he,e1,e2,aJX.2 (g2 X hX e.To.toNat (by omega) (by rw [show ((e.To.toNat:Nat):Int)=e.To by omega];exact e3))⟩
      rw [hg] at this;cases this
     ·rw [List.getElem?_set_ne e]
      exact g2 X hX k hk hXk
  ·rw [if_neg hdj]
   refine ⟨(d,m),by unfold iY lP;rw [if_neg (by simp),hw],g1,g2,g3,g4,fun hm=>⟨(g5 hm).1,fun k hk hk'=>?_⟩⟩
   by_cases e:k=j
   ·subst e
    rw [List.getElem?_eq_getElem hjd] at hk'
    exact absurd (Option.some.inj hk') hdj
   ·exact (g5 hm).2 k (by omega) hk'
 ·obtain ⟨d,m⟩:=a
  obtain ⟨g1,g2,g3,g4,g5⟩:=hI
  simp only at g1 g2 g3 g4 g5
  refine ⟨(d,m),?_,g1,g2,g3,fun hm=>⟨(g5 hm).1,fun k hk=>(g5 hm).2 k ?_ hk⟩⟩
  ·show iZ v d0 d m (d0.length:Int)=_
   unfold iZ
   rw [if_neg (by simp)]
  ·have:k < d.length:=(List.getElem?_eq_some_iff.1 hk).1
   omega
theorem div_eq (h:Hug v):∃ d,mY v=some d/\DivS v d:=by
 have h100:=h.st
 obtain ⟨n,hn⟩:∃ n:Nat,v.N=(n:Int):=⟨v.N.toNat,by omega⟩
 have hrep:gH ([true]:List Bool) v.N=some (List.replicate n true):=by rw [hn];exact Repeat_eq true n (by omega) (by omega)
 have key:=pG (step:=fun s:List Bool × Bool=>nU v s.1 s.2)
  (fun s=>s.1.length=v.N.toNat/\(∀ X,aMn v X->∀ k:Nat,k < s.1.length->X (k:Int)->s.1[k]?=some true)/\(s.2=false->∀ k:Nat,s.1[k]?=some true->aGA v s.1 (k:Int)=true))
  (fun s=>2 * s.1.count true+(if s.2=true then 1 else 0)) (DivS v) (fun s hI=>?_) (s:=(List.replicate n true,true)) ⟨by simp [hn],fun X _ k hk _=>?_,fun g=>by cases g⟩
 ·obtain ⟨d,e,hd⟩:=key
  have e':loop (fun s:List Bool × Bool=>nU v s.1 s.2) (List.replicate n true,true)=some d:=e
  refine ⟨d,?_,hd⟩
  unfold mY
  rw [hrep,aA,e',aA];rfl
 ·obtain ⟨d0,m0⟩:=s
  obtain ⟨g1,g2,g3⟩:=hI
  simp only at g1 g2 g3
  cases m0 with
  |true=>
   left
   obtain ⟨d,m,e,k1,k2,k3,k4⟩:=aRg h g1 g2
   refine ⟨(d,m),?_,⟨k1,k2,fun hm=>(k4 hm).2⟩,?_⟩
   ·show nU v d0 true=_
    unfold nU
    rw [if_pos rfl,e,aA];rfl
   ·simp only [if_true]
    cases m with
    |true=>have:=k3 rfl;simp only [if_true];omega
    |false=>rw [(k4 rfl).1];simp
  |false=>
   right
   exact ⟨d0,rfl,g1,g3 rfl,g2⟩
 ·simp only [List.length_replicate] at hk
  rw [List.getElem?_replicate_of_lt hk]
end
end Gv
namespace Gv
open Go
noncomputable def aDp (v:bA):List Bool:=(mY v).getD []
noncomputable def aHU (v:bA) (k:Int):List Int:=(qO v [k]).getD []
section
variable {u v:bA} {p:List Int}
theorem aKU (h:Hug v):mY v=some (aDp v)/\DivS v (aDp v):=by
 obtain ⟨d,e,hd⟩:=div_eq h
 unfold aDp
 rw [e]
 exact ⟨rfl,hd⟩
theorem aOL (h:aAG v) {k:Int} (hk:jS v k):qO v [k]=some (aHU v k)/\aDf (aHU v k) (Cl v (·∈[k]))/\(aHU v k).length<=100:=by
 obtain ⟨R,e,hR⟩:=internalU h (xs:=[k]) (by simp) fun q hq=>by simp at hq;exact hq ▸ hk
 unfold aHU
 rw [e]
 exact ⟨rfl,hR,aNz h hR fun q hq=>cl_in h (fun q hq=>by simp at hq;exact hq ▸ hk) hq⟩
noncomputable def intS (v:bA):List (List Int):=(List.range v.N.toNat).map fun k:Nat=>aHU v (k:Int)
theorem intS_eq (h:aAG v):qP v=some (intS v):=by
 have h100:=h.big.st
 obtain ⟨n,hn⟩:∃ n:Nat,v.N=(n:Int):=⟨v.N.toNat,by omega⟩
 unfold qP
 have key:=lH (step:=fun s:List (List Int) × Int=>lF v s.1 s.2) (List.range n) (fun j (o:List (List Int))=>(o,(j:Int))) (fun l o=>o++l.map fun k:Nat=>aHU v (k:Int)) (fun j o=>o.length<=j) (fun j o i l hj hx hI=>?_) (fun o _=>by
  simp only [lF,hn,List.length_range,dB];simp) (a:=[]) (by simp)
 ·rw [show loop (fun s:List (List Int) × Int=>lF v s.1 s.2) ([],0)=_ from key,aA,List.nil_append]
  unfold intS
  rw [hn,Int.toNat_natCast];rfl
 ·left
  obtain ⟨hj',e⟩:=aDo hx
  rw [List.getElem_range] at e
  subst e
  rw [List.length_range] at hj
  refine ⟨o++[aHU v (j:Int)],?_,by simp;omega,by simp [List.append_assoc]⟩
  simp only [lF,hn,bU hj,if_pos,(aOL h (show jS v (j:Int) by unfold jS;omega)).1,aA]
  rw [dC (by simp [jT];omega),aA,bQ hj (by omega)]
def offB (u:bA) (p:List Int) (S:List Int):List Int:=(u.E.filter fun e=>(S.any fun x=>e.F == x)&&!inL p e).map (vl1 u p)
noncomputable def sgB (u:bA) (p:List Int) (k:Nat):List Int:=fS (rO iLt (offB u p (aHU (gG u p) (k:Int))))
noncomputable def dvB (u:bA) (p:List Int) (dv:Bool) (k:Nat):Int:=if (dv&&(aDp (gG u p)).getD k false)=true then 1 else 0
noncomputable def kyB (u:bA) (dv:Bool) (p:List Int):List (List Int):=(List.range u.N.toNat).map fun k=>p.getD k 0::dvB u p dv k::sgB u p k
theorem aQc (S:List Int):(offB u p S).length<=u.E.length:=by
 unfold offB
 rw [List.length_map]
 exact List.length_filter_le _ _
theorem offB_loop (h:Hug u) (hp:pF u p) {S:List Int} (hS:S.length<=1000):loop (fun s:List Int × Int=>gR u p S s.1 s.2) (([]:List Int),0)=some (offB u p S):=by
 have hed:=h.ed
 have key:=lH (step:=fun s:List Int × Int=>gR u p S s.1 s.2) u.E (fun j (o:List Int)=>(o,(j:Int))) (fun l o=>o++(l.filter fun e=>(S.any fun x=>e.F == x)&&!inL p e).map (vl1 u p)) (fun j o=>o.length<=j) (fun j o e l hj hx hI=>?_) (fun o _=>by simp only [gR,dB];simp) (a:=[]) (by simp)
 ·rw [show loop (fun s:List Int × Int=>gR u p S s.1 s.2) ([],0)=_ from key,List.nil_append];rfl
 ·left
  obtain ⟨hj',rfl⟩:=aDo hx
  have he:=List.getElem_mem hj'
  obtain ⟨h1,h2,_⟩:=h.inn _ he
  have hw:=bQ hj (show u.E.length < 4611686018427387904 by omega)
  have hv:=vl1_wrH h hp he
  refine ⟨if ((S.any fun x=>u.E[j].F == x)&&!inL p u.E[j])=true then o++[vl1 u p u.E[j]] else o,?_,by split<;>(try rw [List.length_append,List.length_singleton])<;>omega,?_⟩
  ·have j6:∀ b,gQ u p o (j:Int) u.E[j] b=some (.inl (if b=true then o++[vl1 u p u.E[j]] else o,((j+1:Nat):Int))):=fun b=>by
    unfold gQ lL
    cases b with
    |true=>rw [if_pos rfl,(oP hp h2).1,aA,hv,dC (by simp [jT];omega),aA,hw];rfl
    |false=>rw [if_neg (by simp),hw];rfl
   simp only [gR,bU hj,if_pos,hx,aA,aDP S _ (show S.length < 4611686018427387904 by omega),j6]
   unfold inL
   cases (S.any fun x=>u.E[j].F == x) with
   |false=>rfl
   |true=>
    rw [if_pos rfl]
    by_cases h0:u.E[j].B=0
    ·rw [if_neg (by simp [h0]),(oP hp h1).1,aA,(oP hp h2).1,aA,h0]
     cases hb:p.getD u.E[j].F.toNat 0 == p.getD u.E[j].To.toNat 0 with
     |true=>
      have:(p.getD u.E[j].F.toNat 0 != p.getD u.E[j].To.toNat 0)=false:=by unfold bne;rw [hb];rfl
      rw [this];rfl
     |false=>
      have:(p.getD u.E[j].F.toNat 0 != p.getD u.E[j].To.toNat 0)=true:=by unfold bne;rw [hb];rfl
      rw [this];rfl
    ·have hb:(u.E[j].B == 0)=false:=beq_eq_false_iff_ne.2 h0
     rw [if_pos (by simp [h0]),hb];rfl
  ·rw [List.filter_cons]
   cases (S.any fun x=>u.E[j].F == x)&&!inL p u.E[j]<;>simp
theorem aKV {dv:Bool}:(kyB u dv p).length=u.N.toNat:=by unfold kyB;rw [List.length_map,List.length_range]
theorem aKW {dv:Bool} {k:Nat} (h:k < u.N.toNat):(kyB u dv p)[k]?=some (p.getD k 0::dvB u p dv k::sgB u p k):=by
 unfold kyB
 rw [List.getElem?_map,List.getElem?_range h];rfl
theorem aRh (h:aAG u) (hp:pF u p) (dv:Bool):nK u p dv=some (cn (kyB u dv p)):=by
 have hi:=aFT (q:=p) h
 have h100:=h.big.st
 have hed:=h.big.ed
 obtain ⟨n,hn⟩:∃ n:Nat,u.N=(n:Int):=⟨u.N.toNat,by omega⟩
 obtain ⟨d1,d2⟩:=aKU hi.big
 have dl:(aDp (gG u p)).length=n:=by
  have:(gG u p).N=u.N:=rfl
  rw [d2.len,this,hn,Int.toNat_natCast]
 have sl:(intS (gG u p)).length=n:=by
  unfold intS
  have:(gG u p).N=u.N:=rfl
  rw [List.length_map,List.length_range,this,hn,Int.toNat_natCast]
 unfold nK
 rw [aQb h.big hp,aA,d1,aA,intS_eq hi,aA]
 have key:=lH (step:=fun s:List (List Int) × Int=>gS u p dv (aDp (gG u p)) (intS (gG u p)) s.1 s.2) (List.range n) (fun j (o:List (List Int))=>(o,(j:Int))) (fun l o=>o++l.map fun k=>p.getD k 0::dvB u p dv k::sgB u p k) (fun j o=>o.length<=j) (fun j o i l hj hx hI=>?_) (fun o _=>by
  simp only [gS,sl,List.length_range,dB];simp) (a:=[]) (by simp)
 ·rw [show loop (fun s:List (List Int) × Int=>gS u p dv (aDp (gG u p)) (intS (gG u p)) s.1 s.2) ([],0)=_ from key,aA,List.nil_append]
  have e0:(List.range n).map (fun k=>p.getD k 0::dvB u p dv k::sgB u p k)=kyB u dv p:=by unfold kyB;rw [hn,Int.toNat_natCast]
  rw [e0]
  unfold lJ
  rw [aIi _ (by rw [aKV];omega) (fun x hx=>?_),aA]
  unfold kyB at hx
  obtain ⟨k,_,rfl⟩:=List.mem_map.1 hx
  have h1:=aQc (u:=u) (p:=p) (aHU (gG u p) (k:Int))
  have h2:(sgB u p k).length<=(offB u p (aHU (gG u p) (k:Int))).length:=by
   unfold sgB
   refine Nat.le_trans (aFQ _) ?_
   unfold rO
   rw [List.length_mergeSort];exact Nat.le_refl _
  simp only [List.length_cons];omega
 ·left
  obtain ⟨hj',e⟩:=aDo hx
  rw [List.getElem_range] at e
  subst e
  rw [List.length_range] at hj
  have hk:jS u (j:Int):=by unfold jS;omega
  obtain ⟨s1,s2,s3⟩:=aOL hi (k:=(j:Int)) hk
  have hw:=bQ hj (show n < 4611686018427387904 by omega)
  have hol:=aQc (u:=u) (p:=p) (aHU (gG u p) (j:Int))
  have hix:ix (intS (gG u p)) (j:Int)=some (aHU (gG u p) (j:Int)):=by
   rw [cG (by omega)]
   unfold intS
   rw [List.getElem_map,List.getElem_range]
  refine ⟨o++[p.getD j 0::dvB u p dv j::sgB u p j],?_,by simp;omega,by simp [List.append_assoc]⟩
  show gS u p dv (aDp (gG u p)) (intS (gG u p)) o (j:Int)=_
  unfold gS
  rw [sl,if_pos (bU hj),hix,aA,offB_loop h.big hp (by omega),aA]
  unfold lK
  rw [aDR (by omega),aA]
  have hpj:ix p (j:Int)=some (p.getD j 0):=(oP hp hk).1
  rw [hpj,aA]
  have j3:∀ z:Int,jL o (j:Int) (rO iLt (offB u p (aHU (gG u p) (j:Int)))) [p.getD j 0,z]=some (.inl (o++[p.getD j 0::z::sgB u p j],((j+1:Nat):Int))):=fun z=>by
   have hsl:(rO iLt (offB u p (aHU (gG u p) (j:Int)))).length=(offB u p (aHU (gG u p) (j:Int))).length:=by unfold rO;rw [List.length_mergeSort]
   have hdl:=aFQ (rO iLt (offB u p (aHU (gG u p) (j:Int))))
   unfold jL oC
   rw [aFc _ (by omega),aA,dC (by simp only [jT,List.length_cons,List.length_nil];omega),aA,dC (by simp [jT];omega),aA,hw];rfl
  unfold dvB
  cases dv with
  |false=>rw [if_neg (by simp)];exact j3 0
  |true=>
   rw [if_pos rfl,ix_getD (by omega) (by omega),aA,Int.toNat_natCast]
   cases (aDp (gG u p)).getD j false with
   |true=>exact j3 1
   |false=>exact j3 0
noncomputable def brF (u:bA) (dv:Bool) (p:List Int):List Int:=cn (kyB u dv p)
theorem aRi {dv:Bool} (hp:p.length=u.N.toNat):aJW (brF u dv p) p:=by
 refine aKw (by rw [aKV,hp]) fun x y hx hy h=>?_
 rw [aKW (by omega),aKW (by omega),Option.some.injEq,List.cons.injEq] at h
 exact (aMl hx hy).1 h.1
end
end Gv
namespace Gv
open Go
def InP (u:bA) (q:List Int) (x z:Int):Prop:=Cl (gG u q) (·∈[x]) z
def Dv (u:bA) (q:List Int) (x:Int):Prop:=∃ X,aMn (gG u q) X/\X x
def Nin (q:List Int) (e:Edge):Prop:=¬ (e.B=0/\kY q e.F e.To)
def BrEq (u:bA) (q:List Int) (x y:Int):Prop:=∀ e∈u.E,InP u q x e.F->Nin q e->∃ f∈u.E,InP u q y f.F/\Nin q f/\f.B=e.B/\kY q e.To f.To
section
variable {u:bA} {q p:List Int}
theorem kY.symm {x y:Int} (h:kY q x y):kY q y x:=Eq.symm h
theorem kY.trans {x y z:Int} (h:kY q x y) (h':kY q y z):kY q x z:=Eq.trans h h'
theorem InP.refl {x:Int}:InP u q x x:=.base (by simp)
theorem InP.step {x:Int} {e:Edge} (he:e∈u.E) (h0:e.B=0) (hs:kY q e.F e.To) (h:InP u q x e.F):InP u q x e.To:=Cl.step (aDY.2 ⟨he,h0,hs⟩) h0 h
theorem InP.ind {x:Int} {C:Int->Prop} (h0:C x) (hs:∀ e∈u.E,e.B=0->kY q e.F e.To->InP u q x e.F->C e.F->C e.To) {z:Int} (h:InP u q x z):C z:=by
 have key:∀ z,Cl (gG u q) (·∈[x]) z->(Cl (gG u q) (·∈[x]) z/\C z):=fun z h=>by
  induction h with
  |base h=>simp at h;subst h;exact ⟨.base (by simp),h0⟩
  |step he h1 h2 ih=>
   obtain ⟨g1,g2,g3⟩:=aDY.1 he
   exact ⟨.step he h1 h2,hs _ g1 g2 g3 ih.1 ih.2⟩
 exact (key z h).2
theorem InP.same {x z:Int} (h:InP u q x z):kY q x z:=InP.ind (C:=fun z=>kY q x z) rfl (fun e _ _ hs _ ih=>ih.trans hs) h
theorem InP.inn (h:aAG u) {x z:Int} (hx:jS u x) (hz:InP u q x z):jS u z:=InP.ind hx (fun e he _ _ _ _=>(h.big.inn e he).2.1) hz
theorem InP.trans {x y z:Int} (h:InP u q x y) (h':InP u q y z):InP u q x z:=InP.ind h (fun e he h0 hs _ ih=>InP.step he h0 hs ih) h'
theorem InP.cl {x z:Int} (h:InP u q x z):Cl u (·∈[x]) z:=InP.ind (.base (by simp)) (fun e he h0 _ _ ih=>.step he h0 ih) h
theorem InP.up (hs:∀ x y,jS u x->jS u y->kY p x y->kY q x y) (h:aAG u) {x z:Int} (hz:InP u p x z):InP u q x z:=InP.ind InP.refl (fun e he h0 h1 _ ih=>InP.step he h0 (hs _ _ (h.big.inn e he).1 (h.big.inn e he).2.1 h1) ih) hz
theorem aON (h:aAG u) {x:Int} (hx:jS u x):(aDp (gG u q)).getD x.toNat false=true<->Dv u q x:=by
 have hi:=aFT (q:=q) h
 obtain ⟨_,d⟩:=aKU hi.big
 unfold jS at hx
 have hl:(aDp (gG u q)).length=u.N.toNat:=d.len
 constructor
 ·intro hd
  refine ⟨fun z=>0<=z/\(aDp (gG u q)).getD z.toNat false=true,fun z ⟨h0,hz⟩=>?_,hx.1,hd⟩
  obtain ⟨e,he,h1,h2,h3⟩:=aNA.1 (d.step z.toNat (aJX.1 hz))
  have ht:=(hi.big.inn e he).2.1
  unfold jS at ht
  exact ⟨e,he,by omega,h2,ht.1,h3⟩
 ·rintro ⟨X,hX,hxX⟩
  refine aJX.2 (d.max X hX x.toNat (by omega) ?_)
  rw [show ((x.toNat:Nat):Int)=x by omega];exact hxX
theorem aKX (h:aAG u) {k:Nat} (hk:jS u (k:Int)) {z:Int}:z∈sgB u q k<->∃ e∈u.E,InP u q (k:Int) e.F/\Nin q e/\vl1 u q e=z:=by
 obtain ⟨_,hR,_⟩:=aOL (aFT (q:=q) h) (k:=(k:Int)) hk
 unfold sgB offB
 rw [aCx.mem,List.mem_map]
 constructor
 ·rintro ⟨e,he,hz⟩
  rw [List.mem_filter,Bool.and_eq_true,Bool.not_eq_true',aJV,decide_eq_true_eq] at he
  refine ⟨e,he.1,(hR.mem _).1 he.2.1,fun g=>?_,hz⟩
  have:=aJq.2 g
  rw [he.2.2] at this;cases this
 ·rintro ⟨e,h1,h2,h3,hz⟩
  refine ⟨e,?_,hz⟩
  rw [List.mem_filter,Bool.and_eq_true,Bool.not_eq_true',aJV,decide_eq_true_eq]
  refine ⟨h1,(hR.mem _).2 h2,?_⟩
  rw [Bool.eq_false_iff]
  exact fun g=>h3 (aJq.1 g)
theorem aQd (h:aAG u) (hq:pF u q) {dv:Bool} {x y:Int} (hx:jS u x) (hy:jS u y):kY (brF u dv q) x y<->kY q x y/\(dv=true->(Dv u q x<->Dv u q y))/\BrEq u q x y/\BrEq u q y x:=by
 have hx':=hx
 have hy':=hy
 unfold jS at hx hy
 have hl:=aKV (u:=u) (p:=q) (dv:=dv)
 have ex:((x.toNat:Nat):Int)=x:=by omega
 have ey:((y.toNat:Nat):Int)=y:=by omega
 have half:∀ {x y:Int},jS u x->jS u y->((∀ z∈sgB u q x.toNat,z∈sgB u q y.toNat)<->BrEq u q x y):=fun {x y} hx hy=>by
  have hx2:=hx
  have hy2:=hy
  unfold jS at hx2 hy2
  have ex:((x.toNat:Nat):Int)=x:=by omega
  have ey:((y.toNat:Nat):Int)=y:=by omega
  constructor
  ·intro g e he h1 h2
   obtain ⟨f,hf,f1,f2,f3⟩:=(aKX h (by rw [ey];exact hy)).1 (g (vl1 u q e) ((aKX h (by rw [ex];exact hx)).2 ⟨e,he,by rw [ex];exact h1,h2,rfl⟩))
   have:=aPZ h.big hq hf he f3
   rw [ey] at f1
   exact ⟨f,hf,f1,f2,this.1,this.2.symm⟩
  ·intro g z hz
   obtain ⟨e,he,h1,h2,rfl⟩:=(aKX h (by rw [ex];exact hx)).1 hz
   rw [ex] at h1
   obtain ⟨f,hf,f1,f2,f3,f4⟩:=g e he h1 h2
   exact (aKX h (by rw [ey];exact hy)).2 ⟨f,hf,by rw [ey];exact f1,f2,by unfold vl1;unfold kY at f4;rw [f3,f4]⟩
 have hdv:dvB u q dv x.toNat=dvB u q dv y.toNat<->(dv=true->(Dv u q x<->Dv u q y)):=by
  unfold dvB
  rw [←aON h hx',←aON h hy']
  cases dv with
  |false=>simp
  |true=>
   simp only [Bool.true_and,forall_const]
   cases (aDp (gG u q)).getD x.toNat false<;>cases (aDp (gG u q)).getD y.toNat false<;>simp
 unfold brF
 rw [cn_same ⟨hx.1,by rw [hl];omega⟩ ⟨hy.1,by rw [hl];omega⟩,aKW (by omega),aKW (by omega),Option.some.injEq,List.cons.injEq,List.cons.injEq,hdv]
 refine and_congr Iff.rfl (and_congr Iff.rfl ?_)
 rw [←half hx' hy',←half hy' hx']
 constructor
 ·intro g;rw [g];exact ⟨fun z hz=>hz,fun z hz=>hz⟩
 ·intro ⟨h1,h2⟩
  exact aDf.eq (X:=fun z=>z∈sgB u q y.toNat) ⟨aCx.ord,fun z=>⟨h1 z,h2 z⟩⟩ ⟨aCx.ord,fun z=>Iff.rfl⟩
end
structure Emb (t u:bA) (o:Int):Prop where
 go:∀ e∈t.E,∃ f∈u.E,f.F=e.F+o/\f.To=e.To+o/\oS u f=oS t e
 back:∀ f∈u.E,∀ x,jS t x->f.F=x+o->∃ e∈t.E,e.F=x/\f.To=e.To+o/\oS u f=oS t e
section
variable {a b:bA} {M:List aH} {Eo:List Edge}
theorem aJr (ha:cF a) (hb:cF b) (h:Uni a b M Eo):aAG (aAZ a b M Eo):=⟨(uni_big ha hb h).hug,M,rfl,h.str⟩
theorem aKY {s:aH} (hs:s∈bC::M) {x y:Int}:oS (aAZ a b M Eo) ⟨x,pos (bC::M) s,y⟩=s:=by
 obtain ⟨i,e1,g1⟩:=aCa hs
 unfold oS
 show (bC::M).getD (pos (bC::M) s).toNat []=s
 rw [e1,Int.toNat_natCast,List.getD_eq_getElem?_getD,g1];rfl
theorem aMo (ha:cF a) (hb:cF b) (h:Uni a b M Eo):Emb a (aAZ a b M Eo) 0:=by
 refine ⟨fun e he=>⟨⟨e.F,pos (bC::M) (oS a e),e.To⟩,(h.ed _).2 (by unfold unA;exact List.mem_append_left _ (List.mem_map_of_mem he)),by simp,by simp,aKY (aHN h (.inl (vU ha he)))⟩,fun f hf x hx hfx=>?_⟩
 have hf':=(h.ed f).1 hf
 unfold unA at hf'
 unfold jS at hx
 rcases List.mem_append.1 hf' with k|k
 ·obtain ⟨e,he,rfl⟩:=List.mem_map.1 k
  exact ⟨e,he,by simp only at hfx;omega,by simp,aKY (aHN h (.inl (vU ha he)))⟩
 ·obtain ⟨e,he,rfl⟩:=List.mem_map.1 k
  have:=(xG hb he).1
  unfold jS at this
  simp only at hfx;omega
theorem aMp (ha:cF a) (hb:cF b) (h:Uni a b M Eo):Emb b (aAZ a b M Eo) a.N:=by
 refine ⟨fun e he=>⟨⟨e.F+a.N,pos (bC::M) (oS b e),e.To+a.N⟩,(h.ed _).2 (by unfold unA;exact List.mem_append_right _ (List.mem_map_of_mem he)),rfl,rfl,aKY (aHN h (.inr (vU hb he)))⟩,fun f hf x hx hfx=>?_⟩
 have hf':=(h.ed f).1 hf
 unfold unA at hf'
 unfold jS at hx
 rcases List.mem_append.1 hf' with k|k
 ·obtain ⟨e,he,rfl⟩:=List.mem_map.1 k
  have:=(xG ha he).1
  unfold jS at this
  simp only at hfx;omega
 ·obtain ⟨e,he,rfl⟩:=List.mem_map.1 k
  exact ⟨e,he,by simp only at hfx;omega,rfl,aKY (aHN h (.inr (vU hb he)))⟩
theorem uni_A (ha:cF a) (hb:cF b):∀ x,jS a x->jS (aAZ a b M Eo) (x+0):=fun x hx=>by
 have:=hb.1
 unfold jS at *
 show 0<=x+0/\x+0 < a.N+b.N
 omega
theorem uni_B (ha:cF a) (hb:cF b):∀ y,jS b y->jS (aAZ a b M Eo) (y+a.N):=fun y hy=>by
 have:=ha.1
 unfold jS at *
 show 0<=y+a.N/\y+a.N < a.N+b.N
 omega
def tog (a b:bA) (p:List Int):Bool:=p.getD a.I.toNat 0 == p.getD (a.N+b.I).toNat 0
theorem tog_iff {p:List Int}:tog a b p=true<->kY p (a.I+0) (b.I+a.N):=by
 unfold tog kY
 rw [beq_iff_eq,Int.add_zero,Int.add_comm a.N]
theorem tog_eq (ha:cF a) (hb:cF b) {p:List Int} (hp:pF (aAZ a b M Eo) p):sL a b p=some (tog a b p):=by
 have s1:=ha.1
 have s2:=hb.1
 have i1:=ha.2.1
 have i2:=hb.2.1
 have h1:jS (aAZ a b M Eo) a.I:=by
  unfold jS;show 0<=a.I/\a.I < a.N+b.N;omega
 have h2:jS (aAZ a b M Eo) (a.N+b.I):=by
  unfold jS;show 0<=a.N+b.I/\a.N+b.I < a.N+b.N;omega
 unfold sL tog
 rw [(oP hp h1).1,aA,gA (by omega) (by omega),(oP hp h2).1,aA]
end
end Gv
