/- Steps in systems that may be larger than valid ones. -/
import Derived.Test.YtjkjjlbjcgklhaaGreatDoorJP170
set_option linter.all false
namespace Gv
open Go
structure Hug (u:aO):Prop where
 st:1<=u.N/\u.N<=100
 lab:u.L.length<=100
 ed:u.E.length<=900000
 inn:∀ e∈u.E,cF u e.F/\cF u e.To/\0<=e.B/\e.B < u.L.length
theorem Big.hug {u:aO} (h:Big u):Hug u:=⟨h.st,h.lab,Nat.le_trans h.ed (by decide),h.inn⟩
section
variable {u:aO} {p:List Int}
theorem vl1_wrH (hu:Hug u) (hp:eF u p) {e:Edge} (he:e∈u.E):wr (wr (e.B * u.N)+p.getD e.To.toNat 0)=vl1 u p e:=by
 have h1:=hu.inn e he
 have h2:=(jM hp h1.2.1).2
 have h3:=hu.st
 have h4:=hu.lab
 have h5:=mul_b (l:=e.B) (m:=100) (s:=u.N) (n:=100) h1.2.2.1 (by omega) (by omega) (by omega)
 unfold vl1
 rw [fS (x:=e.B * u.N) (by omega) (by omega),fS (by omega) (by omega)]
theorem aSO (hu:Hug u) (hp:eF u p) {e f:Edge} (he:e∈u.E) (hf:f∈u.E) (h:vl1 u p e=vl1 u p f):e.B=f.B/\p.getD e.To.toNat 0=p.getD f.To.toNat 0:=by
 have h1:=(jM hp (hu.inn e he).2.1).2
 have h2:=(jM hp (hu.inn f hf).2.1).2
 have h3:=hu.st
 unfold vl1 at h
 have key:∀ (a b x y n:Int),0<=x->x < n->0<=y->y < n->a * n+x=b * n+y->¬ a < b:=by
  intro a b x y n hx hx' hy hy' h hlt
  have h5:(a+1) * n<=b * n:=Int.mul_le_mul_of_nonneg_right (by omega) (by omega)
  rw [Int.add_mul] at h5
  omega
 have n1:=key _ _ _ _ _ h1.1 h1.2 h2.1 h2.2 h
 have n2:=key _ _ _ _ _ h2.1 h2.2 h1.1 h1.2 h.symm
 have:e.B=f.B:=by omega
 refine ⟨this,?_⟩
 rw [this] at h;omega
theorem aRe (hu:Hug u) (hp:eF u p):loop (fun s:List (List Int) × Int=>lQ p s.1 s.2) ((List.range u.N.toNat).map fun _=>[],0)=some ((List.range u.N.toNat).map fun k=>[p.getD k 0]):=by
 have h3:=hu.st
 have key:=cJ (step:=fun s:List (List Int) × Int=>lQ p s.1 s.2) u.N.toNat (fun k (o:List (List Int))=>(o,(k:Int))) (fun i o=>o=(List.range u.N.toNat).map fun k=>if k < i then [p.getD k 0] else []) (fun r=>r=(List.range u.N.toNat).map fun k=>[p.getD k 0]) (fun k o hk hI=>?_) (fun o hI=>?_) u.N.toNat 0 ((List.range u.N.toNat).map fun _=>[]) (by omega) (by simp)
 ·obtain ⟨r,h1,rfl⟩:=key
  exact h1
 ·subst hI
  have hg:=(jM hp (s:=(k:Int)) (by unfold cF;omega)).1
  refine ⟨_,?_,rfl⟩
  show lQ p _ (k:Int)=_
  unfold lQ
  rw [if_pos (by rw [hp.1];exact bD hk),hg,aA,aLs (by omega),aA,aOz (by omega),aA,aW hk (by omega)]
  congr 3
  refine List.map_congr_left fun i _=>?_
  by_cases e:i=k
  ·subst e;simp
  ·by_cases h:i < k
   ·simp [e,h,show i < k+1 by omega]
   ·simp [e,h,show ¬ i < k+1 by omega]
 ·subst hI
  refine ⟨_,?_,rfl⟩
  show lQ p _ ((u.N.toNat:Nat):Int)=_
  unfold lQ
  rw [if_neg (by rw [hp.1];simp)]
  congr 2
  refine List.map_congr_left fun i hi=>?_
  rw [List.mem_range] at hi
  rw [if_pos hi]
theorem aRf (hu:Hug u) (hp:eF u p):loop (fun s:List (List Int) × Int=>lP u p s.1 s.2) ((List.range u.N.toNat).map fun _=>[],0)=some ((List.range u.N.toNat).map fun k:Nat=>(u.E.filter fun e=>e.F == (k:Int)).map (vl1 u p)):=by
 have h3:=hu.st
 have h5:=hu.ed
 have key:=cJ (step:=fun s:List (List Int) × Int=>lP u p s.1 s.2) u.E.length (fun k (o:List (List Int))=>(o,(k:Int))) (fun i o=>o=(List.range u.N.toNat).map fun k:Nat=>((u.E.take i).filter fun e=>e.F == (k:Int)).map (vl1 u p)) (fun r=>r=(List.range u.N.toNat).map fun k:Nat=>(u.E.filter fun e=>e.F == (k:Int)).map (vl1 u p)) (fun i o hi hI=>?_) (fun o hI=>?_) u.E.length 0 ((List.range u.N.toNat).map fun _=>[]) (by omega) (by simp)
 ·obtain ⟨r,h1,rfl⟩:=key
  exact h1
 ·subst hI
  have he:=List.getElem_mem hi
  have hin:=hu.inn _ he
  have hF:=hin.1
  unfold cF at hF
  have hg:=(jM hp hin.2.1).1
  have hl:(((u.E.take i).filter fun e=>e.F == (u.E[i].F.toNat:Int)).map (vl1 u p)).length<=900000:=by
   rw [List.length_map]
   refine Nat.le_trans (List.length_filter_le _ _) ?_
   rw [List.length_take];omega
  refine ⟨_,?_,rfl⟩
  show lP u p _ (i:Int)=_
  unfold lP
  rw [if_pos (bD hi),bE hi,aA,aLs (by omega),aA,hg,aA,vl1_wrH hu hp he,bS (by simp only [iO,List.length_singleton];omega),aA,aOz (by omega),aA]
  unfold aAw
  rw [aW hi (by omega)]
  congr 3
  refine List.map_congr_left fun k _=>?_
  have e0:u.E.take (i+1)=u.E.take i++[u.E[i]]:=by rw [List.take_add_one,List.getElem?_eq_getElem hi];rfl
  rw [e0,List.filter_append,List.map_append,List.filter_cons,List.filter_nil]
  by_cases e:k=u.E[i].F.toNat
  ·subst e
   have:(u.E[i].F == ((u.E[i].F.toNat:Nat):Int))=true:=by rw [beq_iff_eq];omega
   rw [if_pos rfl,if_pos this];rfl
  ·have:¬ (u.E[i].F == (k:Int))=true:=by rw [beq_iff_eq];omega
   rw [if_neg e,if_neg this,List.map_nil,List.append_nil]
 ·subst hI
  refine ⟨_,?_,rfl⟩
  show lP u p _ (u.E.length:Int)=_
  unfold lP
  rw [if_neg (by simp),List.take_length]
theorem aUo (hu:Hug u) (hp:eF u p):yG u p=some (cn (ky1 u p)):=by
 have h3:=hu.st
 have h5:=hu.ed
 have hm:mkz u.N ([]:List Int)=some ((List.range u.N.toNat).map fun _=>[]):=by
  unfold mkz
  rw [if_pos ⟨by omega,by unfold iO;omega⟩,rep_range]
 unfold yG
 rw [hm,aA,aRe hu hp,aA]
 unfold aAx
 rw [hm,aA,aRf hu hp,aA]
 unfold aAv
 have key:=cJ (step:=fun s:List (List Int) × Nat × Int=>lO ((List.range u.N.toNat).map fun k:Nat=>(u.E.filter fun e=>e.F == (k:Int)).map (vl1 u p)) s.1 s.2.1 s.2.2) u.N.toNat (fun k (o:List (List Int))=>(o,k,(k:Int))) (fun i o=>o=(List.range u.N.toNat).map fun k=>if k < i then p.getD k 0::sg1 u p k else [p.getD k 0]) (fun r=>r=ky1 u p) (fun i o hi hI=>?_) (fun o hI=>?_) u.N.toNat 0 ((List.range u.N.toNat).map fun k=>[p.getD k 0]) (by omega) (by simp)
 ·obtain ⟨r,h1,rfl⟩:=key
  have h1':loop (fun s:List (List Int) × Nat × Int=>lO ((List.range u.N.toNat).map fun k:Nat=>(u.E.filter fun e=>e.F == (k:Int)).map (vl1 u p)) s.1 s.2.1 s.2.2) ((List.range u.N.toNat).map fun k=>[p.getD k 0],0,0)=some (ky1 u p):=h1
  rw [h1',aA]
  unfold aAt
  rw [aJZ _ (by rw [aNi];omega) (fun x hx=>?_),aA]
  unfold ky1 at hx
  obtain ⟨k,_,rfl⟩:=List.mem_map.1 hx
  have:=sg1_len (u:=u) (p:=p) k
  rw [List.length_cons];omega
 ·subst hI
  have hfl:((u.E.filter fun e=>e.F == (i:Int)).map (vl1 u p)).length<=900000:=by
   rw [List.length_map]
   exact Nat.le_trans (List.length_filter_le _ _) h5
  have hsl:=sg1_len (u:=u) (p:=p) i
  refine ⟨_,?_,rfl⟩
  show lO _ _ i (i:Int)=_
  unfold lO tkN
  rw [if_pos (by rw [List.length_map,List.length_range];exact bD hi),aLs (by omega),aA,if_pos (by omega),aA,Int.toNat_natCast,uK (by omega),aA,aLs (by omega),aA,aDE _ (by unfold tI;rw [List.length_mergeSort];omega),aA,Int.toNat_natCast,if_neg (by omega)]
  have e0:iI (tI iLt ((u.E.filter fun e=>e.F == (i:Int)).map (vl1 u p)))=sg1 u p i:=rfl
  rw [e0,bS (by simp only [iO,List.length_singleton];omega),aA,aOz (by omega),aA]
  unfold aAu
  rw [aW hi (by omega)]
  congr 3
  refine List.map_congr_left fun k _=>?_
  by_cases e:k=i
  ·subst e;simp
  ·by_cases h:k < i
   ·simp [e,h,show k < i+1 by omega]
   ·simp [e,h,show ¬ k < i+1 by omega]
 ·subst hI
  refine ⟨_,?_,rfl⟩
  show lO _ _ u.N.toNat ((u.N.toNat:Nat):Int)=_
  unfold lO
  rw [if_neg (by rw [List.length_map,List.length_range];simp)]
  unfold ky1
  congr 2
  refine List.map_congr_left fun i hi=>?_
  rw [List.mem_range] at hi
  rw [if_pos hi]
theorem aSP (hu:Hug u) {κ:Type} [DecidableEq κ] [BEq κ] [LawfulBEq κ] {l:List κ} (h:l.length=u.N.toNat):eF u (cn l):=by
 have:=hu.st
 refine ⟨by rw [yV,h],fun z hz=>?_⟩
 have:=cn_in hz
 omega
end
structure rY (u:aO):Prop where
 big:Hug u
 lab:∃ M,u.L=bC::M/\nT M
section
variable {u:aO}
theorem rY.edge (h:rY u) {e:Edge} (he:e∈u.E):aAR u e:=by
 obtain ⟨h1,h2,h3,h4⟩:=h.big.inn e he
 unfold cF at h1 h2
 exact ⟨⟨by omega,by omega⟩,⟨by omega,by omega⟩,h3,by omega⟩
theorem rY.tau (h:rY u) {e:Edge} (he:e∈u.E):qA u e=bC<->e.B=0:=by
 obtain ⟨M,hM,hs⟩:=h.lab
 obtain ⟨_,_,h3,h4⟩:=h.big.inn e he
 unfold qA
 rw [hM] at h4 ⊢
 rw [List.length_cons] at h4
 by_cases h0:e.B=0
 ·rw [h0];exact ⟨fun _=>rfl,fun _=>rfl⟩
 ·have:e.B.toNat=(e.B.toNat - 1)+1:=by omega
  rw [this,List.getD_cons_succ,List.getD_eq_getElem?_getD,List.getElem?_eq_getElem (by omega)]
  exact ⟨fun g=>absurd (g ▸ List.getElem_mem _) hs.2,fun g=>absurd g h0⟩
theorem aftT_in (h:rY u) {S:List Int} {s:aL} {q:Int} (hq:AftT u S s q):cF u q:=by
 obtain ⟨e,he,_,_,rfl⟩:=hq
 exact (h.big.inn e he).2.1
theorem aOL (h:rY u) {X:Int->Prop} (h0:∀ q,X q->cF u q) {q:Int} (hq:Cl u X q):cF u q:=by
 induction hq with
 |base h1=>exact h0 _ h1
 |step he _ _ _=>exact (h.big.inn _ he).2.1
theorem followU (h:rY u) {S:List Int} (hS:S.length < 1000000000) (s:aL):∃ R,gU u S s=some R/\nU R (AftT u S s):=by
 have hed:=h.big.ed
 have hl:((u.E.filter fun e=>qA u e == s&&S.any fun x=>e.F == x).map (·.To)).length<=900000:=by
  rw [List.length_map];exact Nat.le_trans (List.length_filter_le _ _) hed
 refine ⟨iI (tI iLt ((u.E.filter fun e=>qA u e == s&&S.any fun x=>e.F == x).map (·.To))),?_,yK.iff fun q=>?_⟩
 ·unfold gU
  rw [aDD (step:=fun x:List Int × Int=>eK u S s x.1 x.2) u.E (fun e=>qA u e == s&&S.any fun x=>e.F == x) (·.To) id (fun j out x hj ho hx=>?_) (fun out=>by simp only [eK,bI];rfl),aA]
  ·unfold nY
   simp only [id]
   rw [uK (by omega),aA,aDE _ (by unfold tI;rw [List.length_mergeSort];omega),aA]
  ·obtain ⟨hj',rfl⟩:=lW hx
   simp only [eK,bD hj,if_pos,hx,aA,aAi (h.edge (List.getElem_mem hj')),uJ S _ (show S.length < 4611686018427387904 by omega),nZ,lI,aW hj (show u.E.length < 4611686018427387904 by omega)]
   rw [bS (by simp [iO];omega),aA]
   cases qA u u.E[j] == s<;>cases (S.any fun x=>u.E[j].F == x)<;>rfl
 ·rw [List.mem_map]
  constructor
  ·rintro ⟨e,he,rfl⟩
   rw [List.mem_filter,Bool.and_eq_true,List.any_eq_true] at he
   obtain ⟨h1,h2,x,hx,h3⟩:=he
   rw [beq_iff_eq] at h2 h3
   exact ⟨e,h1,h2,h3 ▸ hx,rfl⟩
  ·rintro ⟨e,h1,h2,h3,rfl⟩
   refine ⟨e,?_,rfl⟩
   rw [List.mem_filter,Bool.and_eq_true,List.any_eq_true,beq_iff_eq]
   exact ⟨h1,h2,_,h3,by simp⟩
theorem aMl (h:rY u) {R:List Int} {X:Int->Prop} (hR:nU R X) (h0:∀ q,X q->cF u q):R.length<=100:=by
 have:=h.big.st
 exact hR.len (n:=100) fun q hq=>by
  have:=h0 q hq
  unfold cF at this;omega
theorem aMm (h:rY u) {xs:List Int} (hn:xs.Nodup) (h0:∀ q∈xs,cF u q):∃ R,eQ u xs=some R/\nU R (Cl u (·∈xs)):=by
 have h100:=h.big.st
 have hlen:∀ {o:List Int},o.Nodup->(∀ q∈o,Cl u (·∈xs) q)->o.length<=100:=fun {o} h1 h2=>by
  have:=List.Nodup.length_le_of_subset (l₂:=(List.range 100).map Int.ofNat) h1 (fun x hx=>by
   have:=aOL h h0 (h2 x hx)
   unfold cF at this
   rw [List.mem_map]
   exact ⟨x.toNat,by rw [List.mem_range];omega,by show ((x.toNat:Nat):Int)=x;omega⟩)
  simpa using this
 have hx0:=hlen hn fun q hq=>.base hq
 have hloop:=sE (step:=fun s:List Int × Int=>jC u s.1 s.2)
  (fun s=>∃ k:Nat,s.2=(k:Int)/\k<=s.1.length/\s.1.Nodup/\(∀ q∈xs,q∈s.1)/\(∀ q∈s.1,Cl u (·∈xs) q)/\∀ j,(hj:j < s.1.length)->j < k->∀ e∈u.E,e.B=0->e.F=s.1[j]->e.To∈s.1)
  (fun s=>101 - s.2.toNat) (fun r=>r.Nodup/\r.length<=100/\∀ q,q∈r<->Cl u (·∈xs) q) (fun s hI=>?_) (s:=(xs,0)) ⟨0,rfl,Nat.zero_le _,hn,fun _ h=>h,fun q hq=>.base hq,fun j _ h=>by omega⟩
 ·obtain ⟨r,h1,h2,h3,h4⟩:=hloop
  refine ⟨tI iLt r,?_,(aOh h2).iff h4⟩
  unfold eQ cL
  rw [bS (by simp [iO];omega),aA,List.nil_append,aA,h1,aA]
  unfold qU
  rw [uK (by omega)];rfl
 ·obtain ⟨o,i⟩:=s
  obtain ⟨k,rfl,hk,hnd,hsub,hcl,hdone⟩:=hI
  simp only at hk hnd hsub hcl hdone
  have ho:=hlen hnd hcl
  by_cases hlt:k < o.length
  ·left
   obtain ⟨R,hf,hR⟩:=followU h (S:=[o[k]]) (by simp) bC
   have hRl:R.length<=100:=aMl h hR fun q hq=>aftT_in h hq
   have hin:=kJ (step:=fun s:List Int × Int=>fQ R s.1 s.2) R (fun j a=>(a,(j:Int))) (fun l a=>l.foldl aFs a) (fun j a=>a.length<=100+j) (fun j a x l hj hx hI=>?_) (fun a _=>by simp only [fQ,bI];rfl) (a:=o) ho
   ·obtain ⟨g1,g2,g3,g4⟩:=aMf R o hnd
    have hcl':∀ q∈R.foldl aFs o,Cl u (·∈xs) q:=fun q hq=>by
     rcases (g3 q).1 hq with g|g
     ·exact hcl q g
     ·obtain ⟨e,he,hl,hfr,rfl⟩:=(hR.mem q).1 g
      simp only [List.mem_singleton] at hfr
      exact .step he ((h.tau he).1 hl) (hfr ▸ hcl _ (List.getElem_mem hlt))
    refine ⟨(R.foldl aFs o,((k+1:Nat):Int)),?_,⟨k+1,rfl,Nat.le_trans hlt g1.length_le,g2,fun q hq=>(g3 q).2 (.inl (hsub q hq)),hcl',fun j hj hjk e he hl hfr=>?_⟩,by simp only;omega⟩
    ·simp only [jC,bD hlt,if_pos,bE hlt,aA]
     rw [show ([116,97,117]:aL)=bC from rfl,hf,aA,show loop (fun s:List Int × Int=>fQ R s.1 s.2) (o,0)=_ from hin,aA]
     simp only [vY,qV,aW hlt (show o.length < 4611686018427387904 by omega)]
    ·simp only at hj hfr ⊢
     have hjo:j < o.length:=by omega
     have e1:(R.foldl aFs o)[j]=o[j]:=(g1.getElem hjo).symm
     rw [e1] at hfr
     rw [g3]
     by_cases hjk':j < k
     ·exact .inl (hdone j hjo hjk' e he hl hfr)
     ·obtain rfl:j=k:=by omega
      exact .inr ((hR.mem _).2 ⟨e,he,(h.tau he).2 hl,by simp [hfr],rfl⟩)
   ·left
    have hI':a.length<=100+j:=hI
    simp only [fQ,bD hj,if_pos,hx,aA,uJ a _ (show a.length < 4611686018427387904 by omega),nN,aW hj (show R.length < 4611686018427387904 by omega)]
    rw [aJr,bS (by simp [iO];omega),aA,List.foldl_cons]
    unfold aFs
    by_cases hm:x∈a
    ·rw [if_pos hm];exact ⟨a,by simp [hm],by omega,rfl⟩
    ·rw [if_neg hm];exact ⟨a++[x],by simp [hm],by simp;omega,rfl⟩
  ·right
   have hke:k=o.length:=by omega
   refine ⟨o,?_,hnd,ho,fun q=>⟨fun hq=>hcl q hq,fun hq=>?_⟩⟩
   ·simp only [jC,hke,bI];rfl
   ·induction hq with
    |base g=>exact hsub _ g
    |step he hl _ ih=>
     obtain ⟨j,hj,ej⟩:=List.getElem_of_mem ih
     exact hdone j hj (by omega) _ he hl ej.symm
theorem visibleU (h:rY u) {S:List Int} (hS:S.length < 1000000000) (s:aL):∃ R,gN u S s=some R/\nU R (Cl u (AftT u S s)):=by
 obtain ⟨R1,f1,f2⟩:=followU h hS s
 have hn:R1.Nodup:=f2.ord.imp fun h=>by omega
 obtain ⟨R,g1,g2⟩:=aMm h hn fun q hq=>aftT_in h ((f2.mem q).1 hq)
 exact ⟨R,by unfold gN;rw [f1,aA,g1];rfl,g2.iff (Cl.iff f2.mem)⟩
theorem wk_in (h:rY u) {y:Int} (hy:cF u y) {s:aL} {w:Int} (hw:Wk u y s w):cF u w:=by
 unfold Wk at hw
 split at hw
 ·exact aOL h (fun q hq=>by simp at hq;exact hq ▸ hy) hw
 ·exact aOL h (fun q hq=>by obtain ⟨e,he,_,_,rfl⟩:=hq;exact (h.big.inn e he).2.1) hw
theorem weaklyU (h:rY u) {y:Int} (hy:cF u y) (s:aL):∃ R,mY u y s=some R/\nU R (Wk u y s):=by
 obtain ⟨R1,g1,g2⟩:=aMm h (xs:=[y]) (by simp) fun q hq=>by simp at hq;exact hq ▸ hy
 have hl:=aMl h g2 fun q hq=>aOL h (fun q hq=>by simp at hq;exact hq ▸ hy) hq
 unfold mY
 rw [g1,aA]
 by_cases hs:s=bC
 ·subst hs
  exact ⟨R1,by rw [if_pos (by decide)],g2.iff fun q=>by unfold Wk;rw [if_pos rfl]⟩
 ·obtain ⟨R,f1,f2⟩:=visibleU h (S:=R1) (by omega) s
  refine ⟨R,?_,f2.iff fun q=>?_⟩
  ·have hb:(s == ([116,97,117]:aL))=false:=beq_eq_false_iff_ne.2 hs
   rw [hb,if_neg (by simp)]
   first|exact f1|(rw [f1];rfl)
  ·unfold Wk
   rw [if_neg hs]
   refine Cl.iff (fun q=>?_) q
   unfold AftT
   constructor
   ·rintro ⟨e,a,b,c,d⟩;exact ⟨e,a,b,(g2.mem _).1 c,d⟩
   ·rintro ⟨e,a,b,c,d⟩;exact ⟨e,a,b,(g2.mem _).2 c,d⟩
end
end Gv
namespace Gv
open Go
def cN (p:List Int) (x y:Int):Prop:=p.getD x.toNat 0=p.getD y.toNat 0
def Pres (u:aO) (F:List Int->List Int) (R:Int->Int->Prop):Prop:=
 ∀ q,eF u q->(∀ x y,cF u x->cF u y->R x y->cN q x y)->∀ x y,cF u x->cF u y->R x y->cN (F q) x y
structure Crs (u:aO) (F:List Int->List Int) (p:List Int):Prop where
 part:eF u p
 fix:F p=p
 low:∀ R,Pres u F R->∀ x y,cF u x->cF u y->R x y->cN p x y
section
variable {u:aO}
theorem aOM (hu:Hug u) {F:List Int->List Int} (hF:∀ p,eF u p->cn p=p->eF u (F p)/\cn (F p)=F p/\aHF (F p) p) {nx:List Int->Option (List Int)} (hn:∀ p,eF u p->nx p=some (F p))
  {step:List (List Int)->Option (List (List Int) ⊕ List (List Int))}
  (hs:∀ out,step out=ob (ix out (wr ((out.length:Int) - 1))) fun e=>ob (nx e) fun r=>ob (cM e r) fun b=>if b then (some (.inr out)) else (ob (rZ out ([r]:List (List Int))) fun xs=>some (.inl xs))):
  ∃ p,(ob (mkz u.N (0:Int)) fun z=>ob (loop step ([z]:List (List Int))) fun r=>oC r)=some p/\Crs u F p:=by
 have h3:=hu.st
 have hm:mkz u.N (0:Int)=some (List.replicate u.N.toNat 0):=by
  unfold mkz
  rw [if_pos ⟨by omega,by unfold iO;omega⟩]
 rw [hm,aA]
 have hh:∀ q:List Int,(rW q u.N.toNat).length<=100:=fun q=>Nat.le_trans (aPQ q _) (by omega)
 have key:=aKy (step:=step) u.N.toNat (fun p s=>(∃ l,s=l++[p])/\s.length<=(rW p u.N.toNat).length/\eF u p/\∀ R,Pres u F R->∀ x y,cF u x->cF u y->R x y->cN p x y) (fun r=>∃ l p,r=l++[p]/\Crs u F p/\r.length<=100) (fun p s hl hc hI=>?_) (List.replicate u.N.toNat 0) [List.replicate u.N.toNat 0] (by simp) (aOt _) ⟨⟨[],rfl⟩,?_,?_,?_⟩
 ·obtain ⟨r,h1,l,p,rfl,hp,hl⟩:=key
  rw [h1,aA]
  unfold oC
  rw [List.length_append,List.length_singleton] at hl
  have hw:wr ((((l++[p]).length:Nat):Int) - 1)=((l.length:Nat):Int):=by
   rw [List.length_append,List.length_singleton,fS (by omega) (by omega)];omega
  refine ⟨p,?_,hp⟩
  rw [hw,aFZ,List.getElem?_append_right (Nat.le_refl _),Nat.sub_self]
  rfl
 ·obtain ⟨⟨l,rfl⟩,hlen,hp,hlow⟩:=hI
  have hb:=hh p
  rw [List.length_append,List.length_singleton] at hlen
  have hw:wr ((((l++[p]).length:Nat):Int) - 1)=((l.length:Nat):Int):=by
   rw [List.length_append,List.length_singleton,fS (by omega) (by omega)];omega
  obtain ⟨hpF,hcc,hsp⟩:=hF p hp hc
  have hstep:step (l++[p])=if decide (p=F p)=true then some (.inr (l++[p])) else some (.inl (l++[p]++[F p])):=by
   rw [hs,hw,aFZ,List.getElem?_append_right (Nat.le_refl _),Nat.sub_self]
   show ob (some p) _=_
   rw [aA,hn p hp,aA,aPO _ _ (by rw [hl];omega),aA,bS (by simp only [iO,List.length_append,List.length_singleton];omega),aA]
  rw [hstep]
  by_cases e:p=F p
  ·left
   rw [if_pos (by simpa using e)]
   exact ⟨_,rfl,l,p,rfl,⟨hp,e.symm,hlow⟩,by rw [List.length_append,List.length_singleton];omega⟩
  ·right
   rw [if_neg (by simpa using e)]
   have hmore:=(aIZ hc hcc hsp).resolve_left (fun h=>e h.symm)
   rw [hl] at hmore
   refine ⟨_,_,hsp,hcc,fun h=>e h.symm,rfl,⟨l++[p],rfl⟩,?_,hpF,fun R hR=>hR p hp (hlow R hR)⟩
   rw [List.length_append,List.length_append,List.length_singleton,List.length_singleton];omega
 ·have:0∈rW (List.replicate u.N.toNat (0:Int)) u.N.toNat:=by
   unfold rW
   rw [List.mem_filter,List.mem_range,decide_eq_true_iff]
   exact ⟨by omega,fun k hk=>by omega⟩
  exact List.length_pos_of_mem this
 ·exact ⟨by simp,fun z hz=>by rw [List.mem_replicate] at hz;omega⟩
 ·intro R _ x y hx hy _
  unfold cN
  unfold cF at hx hy
  rw [List.getD_eq_getElem?_getD,List.getD_eq_getElem?_getD,List.getElem?_replicate_of_lt (by omega),List.getElem?_replicate_of_lt (by omega)]
def stF (u:aO) (p:List Int):List Int:=cn (ky1 u p)
theorem aON (hu:Hug u):∃ p,rB u=some p/\Crs u (stF u) p:=by
 obtain ⟨p,h1,h2⟩:=aOM hu (F:=stF u) (fun p hp hc=>⟨aSP hu aNi,cn_cn _,aUh hp.1⟩) (nx:=fun p=>yG u p) (fun p hp=>aUo hu hp) (step:=fun s=>aFM u s) (fun out=>rfl)
 refine ⟨p,?_,h2⟩
 rw [←h1]
 unfold rB aLf aGO
 cases hm:mkz u.N (0:Int) with
 |none=>rfl
 |some z=>
  simp only [aA]
  cases loop (fun s=>aFM u s) [z] with
  |none=>rfl
  |some r=>
   simp only [aA]
   cases oC r<;>rfl
theorem cn_same {κ:Type} [DecidableEq κ] [BEq κ] [LawfulBEq κ] {l:List κ} {x y:Int} (hx:0<=x/\x.toNat < l.length) (hy:0<=y/\y.toNat < l.length):cN (cn l) x y<->l[x.toNat]?=l[y.toNat]?:=by
 unfold cN
 rw [aOA (by rw [yV];exact hx.2) (by rw [yV];exact hy.2)]
 exact (cn_ker l).2 _ _ (by rw [yV];exact hx.2) (by rw [yV];exact hy.2)
def StEq (u:aO) (q:List Int) (x y:Int):Prop:=∀ e∈u.E,e.F=x->∃ f∈u.E,f.F=y/\f.B=e.B/\cN q e.To f.To
theorem aLz (hu:Hug u) {q:List Int} (hq:eF u q) {x y:Int} (hx:cF u x) (hy:cF u y):cN (stF u q) x y<->cN q x y/\StEq u q x y/\StEq u q y x:=by
 unfold cF at hx hy
 have hl:=aNi (u:=u) (p:=q)
 have half:∀ {x y:Int},0<=x/\x < u.N->0<=y/\y < u.N->((∀ z∈sg1 u q x.toNat,z∈sg1 u q y.toNat)<->StEq u q x y):=fun {x y} hx hy=>by
  constructor
  ·intro h e he hex
   have:=h (vl1 u q e) (aNh.2 ⟨e,he,by omega,rfl⟩)
   obtain ⟨f,hf,h1,h2⟩:=aNh.1 this
   have:=aSO hu hq hf he h2
   exact ⟨f,hf,by omega,this.1,this.2.symm⟩
  ·intro h z hz
   obtain ⟨e,he,h1,rfl⟩:=aNh.1 hz
   obtain ⟨f,hf,h2,h3,h4⟩:=h e he (by omega)
   exact aNh.2 ⟨f,hf,by omega,by unfold vl1;unfold cN at h4;rw [h3,h4]⟩
 unfold stF
 rw [cn_same ⟨hx.1,by rw [hl];omega⟩ ⟨hy.1,by rw [hl];omega⟩,aNj (by omega),aNj (by omega),Option.some.injEq,List.cons.injEq]
 refine and_congr Iff.rfl ?_
 rw [←half hx hy,←half hy hx]
 constructor
 ·intro h;rw [h];exact ⟨fun z hz=>hz,fun z hz=>hz⟩
 ·intro ⟨h1,h2⟩
  exact nU.eq (X:=fun z=>z∈sg1 u q y.toNat) ⟨yK.ord,fun z=>⟨h1 z,h2 z⟩⟩ ⟨yK.ord,fun z=>Iff.rfl⟩
end
end Gv
namespace Gv
open Go
def inL (q:List Int) (e:Edge):Bool:=e.B == 0&&(q.getD e.F.toNat 0 == q.getD e.To.toNat 0)
def iW (u:aO) (q:List Int):aO:=⟨u.N,u.I,u.L,u.E.filter (inL q)⟩
section
variable {u v:aO} {q:List Int}
theorem aRh {e:Edge}:inL q e=true<->e.B=0/\cN q e.F e.To:=by
 unfold inL cN
 rw [Bool.and_eq_true,beq_iff_eq,beq_iff_eq]
theorem aCL {e:Edge}:e∈(iW u q).E<->e∈u.E/\e.B=0/\cN q e.F e.To:=by
 show e∈u.E.filter (inL q)<->_
 rw [List.mem_filter,aRh]
theorem inert_eq (h:Hug u) (hq:eF u q):uQ u q=some (iW u q):=by
 have hed:=h.ed
 unfold uQ aHy
 have key:=kJ (step:=fun s:List Edge × Int=>vM u q s.1 s.2) u.E (fun j (o:List Edge)=>(o,(j:Int))) (fun l o=>o++l.filter (inL q)) (fun j o=>o.length<=j) (fun j o e l hj hx hI=>?_) (fun o _=>by simp only [vM,bI];simp) (a:=[]) (by simp)
 ·rw [show loop (fun s:List Edge × Int=>vM u q s.1 s.2) ([],0)=_ from key,aA,List.nil_append];rfl
 ·left
  obtain ⟨hj',rfl⟩:=lW hx
  obtain ⟨h1,h2,_⟩:=h.inn _ (List.getElem_mem hj')
  have hw:=aW hj (show u.E.length < 4611686018427387904 by omega)
  have hc:pK u.E[j] q=some (inL q u.E[j]):=by
   unfold pK inL
   cases u.E[j].B == 0 with
   |false=>rfl
   |true=>rw [if_pos rfl,(jM hq h1).1,aA,(jM hq h2).1,aA];rfl
  refine ⟨if inL q u.E[j]=true then o++[u.E[j]] else o,?_,by split<;>(try rw [List.length_append,List.length_singleton])<;>omega,?_⟩
  ·simp only [vM,bD hj,if_pos,hx,aA,hc,aAg,hw]
   cases inL q u.E[j] with
   |true=>rw [if_pos rfl,bS (by simp [iO];omega),aA];rfl
   |false=>rfl
  ·rw [List.filter_cons]
   cases inL q u.E[j]<;>simp
theorem aMn (h:rY u):rY (iW u q):=
 ⟨⟨h.big.st,h.big.lab,Nat.le_trans (List.length_filter_le _ _) h.big.ed,fun e he=>h.big.inn e (aCL.1 he).1⟩,h.lab⟩
def aHZ (v:aO) (d:List Bool) (k:Int):Bool:=(v.E.filter fun e=>e.F == k).any fun e=>e.B == 0&&d.getD e.To.toNat false
theorem aQb {d:List Bool} {k:Int}:aHZ v d k=true<->∃ e∈v.E,e.F=k/\e.B=0/\d.getD e.To.toNat false=true:=by
 unfold aHZ
 rw [List.any_eq_true]
 constructor
 ·rintro ⟨e,he,h⟩
  rw [List.mem_filter,beq_iff_eq] at he
  rw [Bool.and_eq_true,beq_iff_eq] at h
  exact ⟨e,he.1,he.2,h.1,h.2⟩
 ·rintro ⟨e,h1,h2,h3,h4⟩
  exact ⟨e,by rw [List.mem_filter,beq_iff_eq];exact ⟨h1,h2⟩,by rw [Bool.and_eq_true,beq_iff_eq];exact ⟨h3,h4⟩⟩
def aOO (v:aO) (X:Int->Prop):Prop:=∀ x,X x->∃ e∈v.E,e.F=x/\e.B=0/\X e.To
structure DivS (v:aO) (d:List Bool):Prop where
 len:d.length=v.N.toNat
 step:∀ k:Nat,d[k]?=some true->aHZ v d (k:Int)=true
 max:∀ X,aOO v X->∀ k:Nat,k < d.length->X (k:Int)->d[k]?=some true
theorem goes_eq (h:Hug v) {d:List Bool} (hd:d.length=v.N.toNat) (k:Int):(ob (vD v k) fun r=>dL r d)=some (aHZ v d k):=by
 have hed:=h.ed
 rw [aQF v k (by omega),aA]
 unfold aHZ
 have hin:∀ e∈v.E.filter (fun e=>e.F == k),cF v e.To:=fun e he=>(h.inn e (List.mem_filter.1 he).1).2.1
 have hl:(v.E.filter fun e=>e.F == k).length<=v.E.length:=List.length_filter_le _ _
 generalize v.E.filter (fun e=>e.F == k)=es at hin hl ⊢
 unfold dL eL
 rw [qN (step:=fun s=>cI es d s) es (fun e=>e.B == 0&&d.getD e.To.toNat false) (fun i x hi hx=>by
  obtain ⟨_,rfl⟩:=lW hx
  have ht:=hin _ (List.getElem_mem hi)
  unfold cF at ht
  have hc:pL es[i] d=some (es[i].B == 0&&d.getD es[i].To.toNat false):=by
   unfold pL
   cases es[i].B == 0 with
   |false=>rfl
   |true=>rw [if_pos rfl,aHC ht.1 (by omega),aA];rfl
  simp only [cI,bD hi,if_pos,hx,aA,hc,aW hi (show es.length < 4611686018427387904 by omega)]) (by simp only [cI,bI];rfl),aA,←aGZ]
 cases es.findIdx? (fun e=>e.B == 0&&d.getD e.To.toNat false) with
 |none=>rfl
 |some i=>simp
theorem aMo {d:List Bool} {k:Nat}:d.getD k false=true<->d[k]?=some true:=by
 rw [List.getD_eq_getElem?_getD]
 cases d[k]? with
 |none=>simp
 |some b=>simp
theorem aUq (h:Hug v) {d0:List Bool} (hd:d0.length=v.N.toNat) (hmax:∀ X,aOO v X->∀ k:Nat,k < d0.length->X (k:Int)->d0[k]?=some true):
  ∃ d m,loop (fun s:List Bool × Bool × Int=>gA v d0 s.1 s.2.1 s.2.2) (d0,false,0)=some (d,m)/\d.length=v.N.toNat/\(∀ X,aOO v X->∀ k:Nat,k < d.length->X (k:Int)->d[k]?=some true)/\(m=true->d.count true < d0.count true)/\
   (m=false->d=d0/\∀ k:Nat,d[k]?=some true->aHZ v d (k:Int)=true):=by
 have h100:=h.st
 have key:=cJ (step:=fun s:List Bool × Bool × Int=>gA v d0 s.1 s.2.1 s.2.2) d0.length (fun j (a:List Bool × Bool)=>(a.1,a.2,(j:Int)))
  (fun j a=>a.1.length=v.N.toNat/\(∀ X,aOO v X->∀ k:Nat,k < a.1.length->X (k:Int)->a.1[k]?=some true)/\(a.2=true->a.1.count true < d0.count true)/\a.1.count true<=d0.count true/\(a.2=false->a.1=d0/\∀ k:Nat,k < j->a.1[k]?=some true->aHZ v a.1 (k:Int)=true))
  (fun r=>r.1.length=v.N.toNat/\(∀ X,aOO v X->∀ k:Nat,k < r.1.length->X (k:Int)->r.1[k]?=some true)/\(r.2=true->r.1.count true < d0.count true)/\(r.2=false->r.1=d0/\∀ k:Nat,r.1[k]?=some true->aHZ v r.1 (k:Int)=true))
  (fun j a hj hI=>?_) (fun a hI=>?_) d0.length 0 (d0,false) (by omega) ⟨hd,hmax,(fun g=>by cases g),Nat.le_refl _,fun _=>⟨rfl,fun k hk=>by omega⟩⟩
 ·obtain ⟨⟨d,m⟩,e,g1,g2,g3,g4⟩:=key
  exact ⟨d,m,e,g1,g2,g3,g4⟩
 ·obtain ⟨d,m⟩:=a
  obtain ⟨g1,g2,g3,g4,g5⟩:=hI
  simp only at g1 g2 g3 g4 g5
  have hjd:j < d.length:=by omega
  have hw:=aW hj (show d0.length < 4611686018427387904 by omega)
  have hstep:gA v d0 d m (j:Int)=(if d[j]=true then fZ d m (j:Int) (!aHZ v d (j:Int)) else fZ d m (j:Int) false):=by
   unfold gA
   rw [if_pos (bD hj)]
   have:=goes_eq h g1 (j:Int)
   cases ho:vD v (j:Int) with
   |none=>rw [ho] at this;cases this
   |some r=>
    rw [ho,aA] at this
    rw [aA,this,aA,bE hjd,aA]
  show ∃ a',gA v d0 d m (j:Int)=_/\_
  rw [hstep]
  by_cases hdj:d[j]=true
  ·rw [if_pos hdj]
   cases hg:aHZ v d (j:Int) with
   |true=>
    refine ⟨(d,m),by unfold fZ jU;rw [Bool.not_true,if_neg (by simp),hw],g1,g2,g3,g4,fun hm=>⟨(g5 hm).1,fun k hk hk'=>?_⟩⟩
    by_cases e:k=j
    ·subst e;exact hg
    ·exact (g5 hm).2 k (by omega) hk'
   |false=>
    have hc:(d.set j false).count true < d.count true:=aKs (b:=true) (by rw [List.getElem?_eq_getElem hjd,hdj])
    refine ⟨(d.set j false,true),?_,by rw [List.length_set];exact g1,fun X hX k hk hXk=>?_,fun _=>by simp only;omega,by simp only;omega,fun hm=>by cases hm⟩
    ·unfold fZ jU
     rw [Bool.not_false,if_pos rfl,bE hjd,aA,aCs _ hjd,aA,hw]
    ·simp only at hk ⊢
     rw [List.length_set] at hk
     by_cases e:j=k
     ·subst e
      exfalso
      obtain ⟨e,he,e1,e2,e3⟩:=hX _ hXk
      have ht:=(h.inn e he).2.1
      unfold cF at ht
      have:aHZ v d (j:Int)=true:=aQb.2 ⟨e,he,e1,e2,aMo.2 (g2 X hX e.To.toNat (by omega) (by rw [show ((e.To.toNat:Nat):Int)=e.To by omega];exact e3))⟩
      rw [hg] at this;cases this
     ·rw [List.getElem?_set_ne e]
      exact g2 X hX k hk hXk
  ·rw [if_neg hdj]
   refine ⟨(d,m),by unfold fZ jU;rw [if_neg (by simp),hw],g1,g2,g3,g4,fun hm=>⟨(g5 hm).1,fun k hk hk'=>?_⟩⟩
   by_cases e:k=j
   ·subst e
    rw [List.getElem?_eq_getElem hjd] at hk'
    exact absurd (Option.some.inj hk') hdj
   ·exact (g5 hm).2 k (by omega) hk'
 ·obtain ⟨d,m⟩:=a
  obtain ⟨g1,g2,g3,g4,g5⟩:=hI
  simp only at g1 g2 g3 g4 g5
  refine ⟨(d,m),?_,g1,g2,g3,fun hm=>⟨(g5 hm).1,fun k hk=>(g5 hm).2 k ?_ hk⟩⟩
  ·show gA v d0 d m (d0.length:Int)=_
   unfold gA
   rw [if_neg (by simp)]
  ·have:k < d.length:=(List.getElem?_eq_some_iff.1 hk).1
   omega
theorem div_eq (h:Hug v):∃ d,oD v=some d/\DivS v d:=by
 have h100:=h.st
 obtain ⟨n,hn⟩:∃ n:Nat,v.N=(n:Int):=⟨v.N.toNat,by omega⟩
 have hrep:eZ ([true]:List Bool) v.N=some (List.replicate n true):=by rw [hn];exact Repeat_eq true n (by omega) (by omega)
 have key:=sE (step:=fun s:List Bool × Bool=>mM v s.1 s.2)
  (fun s=>s.1.length=v.N.toNat/\(∀ X,aOO v X->∀ k:Nat,k < s.1.length->X (k:Int)->s.1[k]?=some true)/\(s.2=false->∀ k:Nat,s.1[k]?=some true->aHZ v s.1 (k:Int)=true))
  (fun s=>2 * s.1.count true+(if s.2=true then 1 else 0)) (DivS v) (fun s hI=>?_) (s:=(List.replicate n true,true)) ⟨by simp [hn],fun X _ k hk _=>?_,fun g=>by cases g⟩
 ·obtain ⟨d,e,hd⟩:=key
  have e':loop (fun s:List Bool × Bool=>mM v s.1 s.2) (List.replicate n true,true)=some d:=e
  refine ⟨d,?_,hd⟩
  unfold oD
  rw [hrep,aA,e',aA];rfl
 ·obtain ⟨d0,m0⟩:=s
  obtain ⟨g1,g2,g3⟩:=hI
  simp only at g1 g2 g3
  cases m0 with
  |true=>
   left
   obtain ⟨d,m,e,k1,k2,k3,k4⟩:=aUq h g1 g2
   refine ⟨(d,m),?_,⟨k1,k2,fun hm=>(k4 hm).2⟩,?_⟩
   ·show mM v d0 true=_
    unfold mM
    rw [if_pos rfl,e,aA];rfl
   ·simp only [if_true]
    cases m with
    |true=>have:=k3 rfl;simp only [if_true];omega
    |false=>rw [(k4 rfl).1];simp
  |false=>
   right
   exact ⟨d0,rfl,g1,g3 rfl,g2⟩
 ·simp only [List.length_replicate] at hk
  rw [List.getElem?_replicate_of_lt hk]
end
end Gv
namespace Gv
open Go
noncomputable def aLA (v:aO):List Bool:=(oD v).getD []
noncomputable def aJD (v:aO) (k:Int):List Int:=(eQ v [k]).getD []
section
variable {u v:aO} {p:List Int}
theorem divL_eq (h:Hug v):oD v=some (aLA v)/\DivS v (aLA v):=by
 obtain ⟨d,e,hd⟩:=div_eq h
 unfold aLA
 rw [e]
 exact ⟨rfl,hd⟩
theorem aRi (h:rY v) {k:Int} (hk:cF v k):eQ v [k]=some (aJD v k)/\nU (aJD v k) (Cl v (·∈[k]))/\(aJD v k).length<=100:=by
 obtain ⟨R,e,hR⟩:=aMm h (xs:=[k]) (by simp) fun q hq=>by simp at hq;exact hq ▸ hk
 unfold aJD
 rw [e]
 exact ⟨rfl,hR,aMl h hR fun q hq=>aOL h (fun q hq=>by simp at hq;exact hq ▸ hk) hq⟩
noncomputable def intS (v:aO):List (List Int):=(List.range v.N.toNat).map fun k:Nat=>aJD v (k:Int)
theorem intS_eq (h:rY v):pM v=some (intS v):=by
 have h100:=h.big.st
 obtain ⟨n,hn⟩:∃ n:Nat,v.N=(n:Int):=⟨v.N.toNat,by omega⟩
 unfold pM
 have key:=kJ (step:=fun s:List (List Int) × Int=>jF v s.1 s.2) (List.range n) (fun j (o:List (List Int))=>(o,(j:Int))) (fun l o=>o++l.map fun k:Nat=>aJD v (k:Int)) (fun j o=>o.length<=j) (fun j o i l hj hx hI=>?_) (fun o _=>by
  simp only [jF,hn,List.length_range,bI];simp) (a:=[]) (by simp)
 ·rw [show loop (fun s:List (List Int) × Int=>jF v s.1 s.2) ([],0)=_ from key,aA,List.nil_append]
  unfold intS
  rw [hn,Int.toNat_natCast];rfl
 ·left
  obtain ⟨hj',e⟩:=lW hx
  rw [List.getElem_range] at e
  subst e
  rw [List.length_range] at hj
  refine ⟨o++[aJD v (j:Int)],?_,by simp;omega,by simp [List.append_assoc]⟩
  simp only [jF,hn,bD hj,if_pos,(aRi h (show cF v (j:Int) by unfold cF;omega)).1,aA]
  rw [bS (by simp [iO];omega),aA,aW hj (by omega)]
def offB (u:aO) (p:List Int) (S:List Int):List Int:=(u.E.filter fun e=>(S.any fun x=>e.F == x)&&!inL p e).map (vl1 u p)
noncomputable def sgB (u:aO) (p:List Int) (k:Nat):List Int:=iI (tI iLt (offB u p (aJD (iW u p) (k:Int))))
noncomputable def dvB (u:aO) (p:List Int) (dv:Bool) (k:Nat):Int:=if (dv&&(aLA (iW u p)).getD k false)=true then 1 else 0
noncomputable def kyB (u:aO) (dv:Bool) (p:List Int):List (List Int):=(List.range u.N.toNat).map fun k=>p.getD k 0::dvB u p dv k::sgB u p k
theorem aSQ (S:List Int):(offB u p S).length<=u.E.length:=by
 unfold offB
 rw [List.length_map]
 exact List.length_filter_le _ _
theorem offB_loop (h:Hug u) (hp:eF u p) {S:List Int} (hS:S.length<=1000):loop (fun s:List Int × Int=>fB u p S s.1 s.2) (([]:List Int),0)=some (offB u p S):=by
 have hed:=h.ed
 have key:=kJ (step:=fun s:List Int × Int=>fB u p S s.1 s.2) u.E (fun j (o:List Int)=>(o,(j:Int))) (fun l o=>o++(l.filter fun e=>(S.any fun x=>e.F == x)&&!inL p e).map (vl1 u p)) (fun j o=>o.length<=j) (fun j o e l hj hx hI=>?_) (fun o _=>by simp only [fB,bI];simp) (a:=[]) (by simp)
 ·rw [show loop (fun s:List Int × Int=>fB u p S s.1 s.2) ([],0)=_ from key,List.nil_append];rfl
 ·left
  obtain ⟨hj',rfl⟩:=lW hx
  have he:=List.getElem_mem hj'
  obtain ⟨h1,h2,_⟩:=h.inn _ he
  have hw:=aW hj (show u.E.length < 4611686018427387904 by omega)
  have hv:=vl1_wrH h hp he
  refine ⟨if ((S.any fun x=>u.E[j].F == x)&&!inL p u.E[j])=true then o++[vl1 u p u.E[j]] else o,?_,by split<;>(try rw [List.length_append,List.length_singleton])<;>omega,?_⟩
  ·have j6:∀ b,fA u p o (j:Int) u.E[j] b=some (.inl (if b=true then o++[vl1 u p u.E[j]] else o,((j+1:Nat):Int))):=fun b=>by
    unfold fA jL
    cases b with
    |true=>rw [if_pos rfl,(jM hp h2).1,aA,hv,bS (by simp [iO];omega),aA,hw];rfl
    |false=>rw [if_neg (by simp),hw];rfl
   simp only [fB,bD hj,if_pos,hx,aA,uJ S _ (show S.length < 4611686018427387904 by omega),j6]
   unfold inL
   cases (S.any fun x=>u.E[j].F == x) with
   |false=>rfl
   |true=>
    rw [if_pos rfl]
    by_cases h0:u.E[j].B=0
    ·rw [if_neg (by simp [h0]),(jM hp h1).1,aA,(jM hp h2).1,aA,h0]
     cases hb:p.getD u.E[j].F.toNat 0 == p.getD u.E[j].To.toNat 0 with
     |true=>
      have:(p.getD u.E[j].F.toNat 0 != p.getD u.E[j].To.toNat 0)=false:=by unfold bne;rw [hb];rfl
      rw [this];rfl
     |false=>
      have:(p.getD u.E[j].F.toNat 0 != p.getD u.E[j].To.toNat 0)=true:=by unfold bne;rw [hb];rfl
      rw [this];rfl
    ·have hb:(u.E[j].B == 0)=false:=beq_eq_false_iff_ne.2 h0
     rw [if_pos (by simp [h0]),hb];rfl
  ·rw [List.filter_cons]
   cases (S.any fun x=>u.E[j].F == x)&&!inL p u.E[j]<;>simp
theorem aNl {dv:Bool}:(kyB u dv p).length=u.N.toNat:=by unfold kyB;rw [List.length_map,List.length_range]
theorem aNm {dv:Bool} {k:Nat} (h:k < u.N.toNat):(kyB u dv p)[k]?=some (p.getD k 0::dvB u p dv k::sgB u p k):=by
 unfold kyB
 rw [List.getElem?_map,List.getElem?_range h];rfl
theorem aUr (h:rY u) (hp:eF u p) (dv:Bool):mC u p dv=some (cn (kyB u dv p)):=by
 have hi:=aMn (q:=p) h
 have h100:=h.big.st
 have hed:=h.big.ed
 obtain ⟨n,hn⟩:∃ n:Nat,u.N=(n:Int):=⟨u.N.toNat,by omega⟩
 obtain ⟨d1,d2⟩:=divL_eq hi.big
 have dl:(aLA (iW u p)).length=n:=by
  have:(iW u p).N=u.N:=rfl
  rw [d2.len,this,hn,Int.toNat_natCast]
 have sl:(intS (iW u p)).length=n:=by
  unfold intS
  have:(iW u p).N=u.N:=rfl
  rw [List.length_map,List.length_range,this,hn,Int.toNat_natCast]
 unfold mC
 rw [inert_eq h.big hp,aA,d1,aA,intS_eq hi,aA]
 have key:=kJ (step:=fun s:List (List Int) × Int=>fC u p dv (aLA (iW u p)) (intS (iW u p)) s.1 s.2) (List.range n) (fun j (o:List (List Int))=>(o,(j:Int))) (fun l o=>o++l.map fun k=>p.getD k 0::dvB u p dv k::sgB u p k) (fun j o=>o.length<=j) (fun j o i l hj hx hI=>?_) (fun o _=>by
  simp only [fC,sl,List.length_range,bI];simp) (a:=[]) (by simp)
 ·rw [show loop (fun s:List (List Int) × Int=>fC u p dv (aLA (iW u p)) (intS (iW u p)) s.1 s.2) ([],0)=_ from key,aA,List.nil_append]
  have e0:(List.range n).map (fun k=>p.getD k 0::dvB u p dv k::sgB u p k)=kyB u dv p:=by unfold kyB;rw [hn,Int.toNat_natCast]
  rw [e0]
  unfold jJ
  rw [aJZ _ (by rw [aNl];omega) (fun x hx=>?_),aA]
  unfold kyB at hx
  obtain ⟨k,_,rfl⟩:=List.mem_map.1 hx
  have h1:=aSQ (u:=u) (p:=p) (aJD (iW u p) (k:Int))
  have h2:(sgB u p k).length<=(offB u p (aJD (iW u p) (k:Int))).length:=by
   unfold sgB
   refine Nat.le_trans (aCJ _) ?_
   unfold tI
   rw [List.length_mergeSort];exact Nat.le_refl _
  simp only [List.length_cons];omega
 ·left
  obtain ⟨hj',e⟩:=lW hx
  rw [List.getElem_range] at e
  subst e
  rw [List.length_range] at hj
  have hk:cF u (j:Int):=by unfold cF;omega
  obtain ⟨s1,s2,s3⟩:=aRi hi (k:=(j:Int)) hk
  have hw:=aW hj (show n < 4611686018427387904 by omega)
  have hol:=aSQ (u:=u) (p:=p) (aJD (iW u p) (j:Int))
  have hix:ix (intS (iW u p)) (j:Int)=some (aJD (iW u p) (j:Int)):=by
   rw [bE (by omega)]
   unfold intS
   rw [List.getElem_map,List.getElem_range]
  refine ⟨o++[p.getD j 0::dvB u p dv j::sgB u p j],?_,by simp;omega,by simp [List.append_assoc]⟩
  show fC u p dv (aLA (iW u p)) (intS (iW u p)) o (j:Int)=_
  unfold fC
  rw [sl,if_pos (bD hj),hix,aA,offB_loop h.big hp (by omega),aA]
  unfold jK
  rw [uK (by omega),aA]
  have hpj:ix p (j:Int)=some (p.getD j 0):=(jM hp hk).1
  rw [hpj,aA]
  have j3:∀ z:Int,gO o (j:Int) (tI iLt (offB u p (aJD (iW u p) (j:Int)))) [p.getD j 0,z]=some (.inl (o++[p.getD j 0::z::sgB u p j],((j+1:Nat):Int))):=fun z=>by
   have hsl:(tI iLt (offB u p (aJD (iW u p) (j:Int)))).length=(offB u p (aJD (iW u p) (j:Int))).length:=by unfold tI;rw [List.length_mergeSort]
   have hdl:=aCJ (tI iLt (offB u p (aJD (iW u p) (j:Int))))
   unfold gO nB
   rw [aDE _ (by omega),aA,bS (by simp only [iO,List.length_cons,List.length_nil];omega),aA,bS (by simp [iO];omega),aA,hw];rfl
  unfold dvB
  cases dv with
  |false=>rw [if_neg (by simp)];exact j3 0
  |true=>
   rw [if_pos rfl,aHC (by omega) (by omega),aA,Int.toNat_natCast]
   cases (aLA (iW u p)).getD j false with
   |true=>exact j3 1
   |false=>exact j3 0
noncomputable def brF (u:aO) (dv:Bool) (p:List Int):List Int:=cn (kyB u dv p)
theorem aUs {dv:Bool} (hp:p.length=u.N.toNat):aHF (brF u dv p) p:=by
 refine aJa (by rw [aNl,hp]) fun x y hx hy h=>?_
 rw [aNm (by omega),aNm (by omega),Option.some.injEq,List.cons.injEq] at h
 exact (aOA hx hy).1 h.1
theorem aUt (h:rY u) (dv:Bool):∃ p,qL u dv=some p/\Crs u (brF u dv) p:=by
 obtain ⟨p,h1,h2⟩:=aOM h.big (F:=brF u dv) (fun p hp hc=>⟨aSP h.big aNl,cn_cn _,aUs hp.1⟩) (nx:=fun p=>uG p u dv) (fun p hp=>by
  unfold uG
  rw [aUr h hp,aA];rfl) (step:=fun s=>aBY u dv s) (fun out=>rfl)
 refine ⟨p,?_,h2⟩
 rw [←h1]
 unfold qL aFN aGO
 cases hm:mkz u.N (0:Int) with
 |none=>rfl
 |some z=>
  simp only [aA]
  cases loop (fun s=>aBY u dv s) [z] with
  |none=>rfl
  |some r=>
   simp only [aA]
   cases oC r<;>rfl
end
end Gv
namespace Gv
open Go
def InP (u:aO) (q:List Int) (x z:Int):Prop:=Cl (iW u q) (·∈[x]) z
def Dv (u:aO) (q:List Int) (x:Int):Prop:=∃ X,aOO (iW u q) X/\X x
def Nin (q:List Int) (e:Edge):Prop:=¬ (e.B=0/\cN q e.F e.To)
def BrEq (u:aO) (q:List Int) (x y:Int):Prop:=∀ e∈u.E,InP u q x e.F->Nin q e->∃ f∈u.E,InP u q y f.F/\Nin q f/\f.B=e.B/\cN q e.To f.To
section
variable {u:aO} {q p:List Int}
theorem cN.symm {x y:Int} (h:cN q x y):cN q y x:=Eq.symm h
theorem cN.trans {x y z:Int} (h:cN q x y) (h':cN q y z):cN q x z:=Eq.trans h h'
theorem InP.refl {x:Int}:InP u q x x:=.base (by simp)
theorem InP.step {x:Int} {e:Edge} (he:e∈u.E) (h0:e.B=0) (hs:cN q e.F e.To) (h:InP u q x e.F):InP u q x e.To:=Cl.step (aCL.2 ⟨he,h0,hs⟩) h0 h
theorem InP.ind {x:Int} {C:Int->Prop} (h0:C x) (hs:∀ e∈u.E,e.B=0->cN q e.F e.To->InP u q x e.F->C e.F->C e.To) {z:Int} (h:InP u q x z):C z:=by
 have key:∀ z,Cl (iW u q) (·∈[x]) z->(Cl (iW u q) (·∈[x]) z/\C z):=fun z h=>by
  induction h with
  |base h=>simp at h;subst h;exact ⟨.base (by simp),h0⟩
  |step he h1 h2 ih=>
   obtain ⟨g1,g2,g3⟩:=aCL.1 he
   exact ⟨.step he h1 h2,hs _ g1 g2 g3 ih.1 ih.2⟩
 exact (key z h).2
theorem InP.same {x z:Int} (h:InP u q x z):cN q x z:=InP.ind (C:=fun z=>cN q x z) rfl (fun e _ _ hs _ ih=>ih.trans hs) h
theorem InP.inn (h:rY u) {x z:Int} (hx:cF u x) (hz:InP u q x z):cF u z:=InP.ind hx (fun e he _ _ _ _=>(h.big.inn e he).2.1) hz
theorem InP.trans {x y z:Int} (h:InP u q x y) (h':InP u q y z):InP u q x z:=InP.ind h (fun e he h0 hs _ ih=>InP.step he h0 hs ih) h'
theorem InP.cl {x z:Int} (h:InP u q x z):Cl u (·∈[x]) z:=InP.ind (.base (by simp)) (fun e he h0 _ _ ih=>.step he h0 ih) h
theorem InP.up (hs:∀ x y,cF u x->cF u y->cN p x y->cN q x y) (h:rY u) {x z:Int} (hz:InP u p x z):InP u q x z:=InP.ind InP.refl (fun e he h0 h1 _ ih=>InP.step he h0 (hs _ _ (h.big.inn e he).1 (h.big.inn e he).2.1 h1) ih) hz
theorem dv_iff (h:rY u) {x:Int} (hx:cF u x):(aLA (iW u q)).getD x.toNat false=true<->Dv u q x:=by
 have hi:=aMn (q:=q) h
 obtain ⟨_,d⟩:=divL_eq hi.big
 unfold cF at hx
 have hl:(aLA (iW u q)).length=u.N.toNat:=d.len
 constructor
 ·intro hd
  refine ⟨fun z=>0<=z/\(aLA (iW u q)).getD z.toNat false=true,fun z ⟨h0,hz⟩=>?_,hx.1,hd⟩
  obtain ⟨e,he,h1,h2,h3⟩:=aQb.1 (d.step z.toNat (aMo.1 hz))
  have ht:=(hi.big.inn e he).2.1
  unfold cF at ht
  exact ⟨e,he,by omega,h2,ht.1,h3⟩
 ·rintro ⟨X,hX,hxX⟩
  refine aMo.2 (d.max X hX x.toNat (by omega) ?_)
  rw [show ((x.toNat:Nat):Int)=x by omega];exact hxX
theorem aNn (h:rY u) {k:Nat} (hk:cF u (k:Int)) {z:Int}:z∈sgB u q k<->∃ e∈u.E,InP u q (k:Int) e.F/\Nin q e/\vl1 u q e=z:=by
 obtain ⟨_,hR,_⟩:=aRi (aMn (q:=q) h) (k:=(k:Int)) hk
 unfold sgB offB
 rw [yK.mem,List.mem_map]
 constructor
 ·rintro ⟨e,he,hz⟩
  rw [List.mem_filter,Bool.and_eq_true,Bool.not_eq_true',aJr,decide_eq_true_eq] at he
  refine ⟨e,he.1,(hR.mem _).1 he.2.1,fun g=>?_,hz⟩
  have:=aRh.2 g
  rw [he.2.2] at this;cases this
 ·rintro ⟨e,h1,h2,h3,hz⟩
  refine ⟨e,?_,hz⟩
  rw [List.mem_filter,Bool.and_eq_true,Bool.not_eq_true',aJr,decide_eq_true_eq]
  refine ⟨h1,(hR.mem _).2 h2,?_⟩
  rw [Bool.eq_false_iff]
  exact fun g=>h3 (aRh.1 g)
theorem aLB (h:rY u) (hq:eF u q) {dv:Bool} {x y:Int} (hx:cF u x) (hy:cF u y):cN (brF u dv q) x y<->cN q x y/\(dv=true->(Dv u q x<->Dv u q y))/\BrEq u q x y/\BrEq u q y x:=by
 have hx':=hx
 have hy':=hy
 unfold cF at hx hy
 have hl:=aNl (u:=u) (p:=q) (dv:=dv)
 have ex:((x.toNat:Nat):Int)=x:=by omega
 have ey:((y.toNat:Nat):Int)=y:=by omega
 have half:∀ {x y:Int},cF u x->cF u y->((∀ z∈sgB u q x.toNat,z∈sgB u q y.toNat)<->BrEq u q x y):=fun {x y} hx hy=>by
  have hx2:=hx
  have hy2:=hy
  unfold cF at hx2 hy2
  have ex:((x.toNat:Nat):Int)=x:=by omega
  have ey:((y.toNat:Nat):Int)=y:=by omega
  constructor
  ·intro g e he h1 h2
   obtain ⟨f,hf,f1,f2,f3⟩:=(aNn h (by rw [ey];exact hy)).1 (g (vl1 u q e) ((aNn h (by rw [ex];exact hx)).2 ⟨e,he,by rw [ex];exact h1,h2,rfl⟩))
   have:=aSO h.big hq hf he f3
   rw [ey] at f1
   exact ⟨f,hf,f1,f2,this.1,this.2.symm⟩
  ·intro g z hz
   obtain ⟨e,he,h1,h2,rfl⟩:=(aNn h (by rw [ex];exact hx)).1 hz
   rw [ex] at h1
   obtain ⟨f,hf,f1,f2,f3,f4⟩:=g e he h1 h2
   exact (aNn h (by rw [ey];exact hy)).2 ⟨f,hf,by rw [ey];exact f1,f2,by unfold vl1;unfold cN at f4;rw [f3,f4]⟩
 have hdv:dvB u q dv x.toNat=dvB u q dv y.toNat<->(dv=true->(Dv u q x<->Dv u q y)):=by
  unfold dvB
  rw [←dv_iff h hx',←dv_iff h hy']
  cases dv with
  |false=>simp
  |true=>
   simp only [Bool.true_and,forall_const]
   cases (aLA (iW u q)).getD x.toNat false<;>cases (aLA (iW u q)).getD y.toNat false<;>simp
 unfold brF
 rw [cn_same ⟨hx.1,by rw [hl];omega⟩ ⟨hy.1,by rw [hl];omega⟩,aNm (by omega),aNm (by omega),Option.some.injEq,List.cons.injEq,List.cons.injEq,hdv]
 refine and_congr Iff.rfl (and_congr Iff.rfl ?_)
 rw [←half hx' hy',←half hy' hx']
 constructor
 ·intro g;rw [g];exact ⟨fun z hz=>hz,fun z hz=>hz⟩
 ·intro ⟨h1,h2⟩
  exact nU.eq (X:=fun z=>z∈sgB u q y.toNat) ⟨yK.ord,fun z=>⟨h1 z,h2 z⟩⟩ ⟨yK.ord,fun z=>Iff.rfl⟩
theorem aSR (h:rY u) {p:List Int} (hp:Crs u (stF u) p) (dv:Bool):Pres u (brF u dv) (cN p):=by
 have st:∀ {x y:Int},cF u x->cF u y->cN p x y->StEq u p x y:=fun {x y} hx hy hs=>by
  have:cN (stF u p) x y:=by rw [hp.fix];exact hs
  exact ((aLz h.big hp.part hx hy).1 this).2.1
 intro q hq hsub x y hx hy hxy
 have dvs:∀ {x y:Int},cF u x->cF u y->cN p x y->Dv u q x->Dv u q y:=fun {x y} hx hy hxy ⟨X,hX,hXx⟩=>by
  refine ⟨fun z=>cF u z/\∃ w,cF u w/\X w/\cN p w z,fun z ⟨hz,w,hw,hXw,hwz⟩=>?_,hy,x,hx,hXx,hxy⟩
  obtain ⟨e,he,h1,h2,h3⟩:=hX w hXw
  obtain ⟨g1,_,g3⟩:=aCL.1 he
  obtain ⟨f,hf,f1,f2,f3⟩:=st hw hz hwz e g1 h1
  have hfT:=(h.big.inn f hf).2.1
  have heT:=(h.big.inn e g1).2.1
  refine ⟨f,aCL.2 ⟨hf,by omega,?_⟩,f1,by omega,hfT,e.To,heT,h3,f3⟩
  have a1:cN q w z:=hsub _ _ hw hz hwz
  have a2:cN q e.To f.To:=hsub _ _ heT hfT f3
  rw [h1] at g3
  rw [f1]
  exact a1.symm.trans (g3.trans a2)
 have path:∀ {x y:Int},cF u x->cF u y->cN p x y->∀ {z},InP u q x z->∃ z2,InP u q y z2/\cN p z z2:=fun {x y} hx hy hxy {z} hz=>by
  refine InP.ind (C:=fun z=>∃ z2,InP u q y z2/\cN p z z2) ⟨y,InP.refl,hxy⟩ (fun e he h0 hs hin ⟨z2,k1,k2⟩=>?_) hz
  have hz1:=hin.inn h hx
  have hz2:=k1.inn h hy
  obtain ⟨f,hf,f1,f2,f3⟩:=st hz1 hz2 k2 e he rfl
  have hfT:=(h.big.inn f hf).2.1
  have heT:=(h.big.inn e he).2.1
  refine ⟨f.To,InP.step hf (by omega) ?_ (by rw [f1];exact k1),f3⟩
  rw [f1]
  exact (hsub _ _ hz1 hz2 k2).symm.trans (hs.trans (hsub _ _ heT hfT f3))
 have br:∀ {x y:Int},cF u x->cF u y->cN p x y->BrEq u q x y:=fun {x y} hx hy hxy e he hin hn=>by
  obtain ⟨z2,k1,k2⟩:=path hx hy hxy hin
  have hz1:=hin.inn h hx
  have hz2:=k1.inn h hy
  obtain ⟨f,hf,f1,f2,f3⟩:=st hz1 hz2 k2 e he rfl
  have hfT:=(h.big.inn f hf).2.1
  have heT:=(h.big.inn e he).2.1
  have a2:cN q e.To f.To:=hsub _ _ heT hfT f3
  refine ⟨f,hf,by rw [f1];exact k1,fun ⟨g0,g1⟩=>hn ⟨by omega,?_⟩,f2,a2⟩
  rw [f1] at g1
  exact (hsub _ _ hz1 hz2 k2).trans (g1.trans a2.symm)
 exact (aLB h hq hx hy).2 ⟨hsub _ _ hx hy hxy,fun _=>⟨dvs hx hy hxy,dvs hy hx hxy.symm⟩,br hx hy hxy,br hy hx hxy.symm⟩
theorem aHi (h:rY u) {dv:Bool} {p:List Int} (hp:Crs u (brF u dv) p) {x y:Int} (hx:cF u x) (hy:cF u y) (hs:cN p x y) {e:Edge} (he:e∈u.E) (hex:e.F=x) (hn:Nin p e):
  ∃ f∈u.E,InP u p y f.F/\Nin p f/\f.B=e.B/\cN p e.To f.To:=by
 have:cN (brF u dv p) x y:=by rw [hp.fix];exact hs
 exact ((aLB h hp.part hx hy).1 this).2.2.1 e he (by rw [hex];exact InP.refl) hn
theorem aSS (h:rY u) {dv:Bool} {p:List Int} (hp:Crs u (brF u dv) p):Pres u (brF u false) (cN p):=by
 intro q hq hsub x y hx hy hxy
 have path:∀ {x y:Int},cF u x->cF u y->cN p x y->∀ {z},InP u q x z->∃ z2,InP u q y z2/\cN p z z2:=fun {x y} hx hy hxy {z} hz=>by
  refine InP.ind (C:=fun z=>∃ z2,InP u q y z2/\cN p z z2) ⟨y,InP.refl,hxy⟩ (fun e he h0 hs hin ⟨z2,k1,k2⟩=>?_) hz
  have hz1:=hin.inn h hx
  have hz2:=k1.inn h hy
  by_cases hpi:cN p e.F e.To
  ·exact ⟨z2,k1,hpi.symm.trans k2⟩
  ·obtain ⟨f,hf,f1,f2,f3,f4⟩:=aHi h hp hz1 hz2 k2 he rfl (fun g=>hpi g.2)
   have hfF:=(h.big.inn f hf).1
   have hfT:=(h.big.inn f hf).2.1
   have heT:=(h.big.inn e he).2.1
   have f1':=f1.up hsub h
   refine ⟨f.To,InP.step hf (by omega) ?_ (k1.trans f1'),f4⟩
   exact f1'.same.symm.trans ((hsub _ _ hz1 hz2 k2).symm.trans (hs.trans (hsub _ _ heT hfT f4)))
 have br:∀ {x y:Int},cF u x->cF u y->cN p x y->BrEq u q x y:=fun {x y} hx hy hxy e he hin hn=>by
  obtain ⟨z2,k1,k2⟩:=path hx hy hxy hin
  have hz1:=hin.inn h hx
  have hz2:=k1.inn h hy
  have hfe:=(h.big.inn e he)
  obtain ⟨f,hf,f1,f2,f3,f4⟩:=aHi h hp hz1 hz2 k2 he rfl (fun g=>hn ⟨g.1,hsub _ _ hfe.1 hfe.2.1 g.2⟩)
  have hfT:=(h.big.inn f hf).2.1
  have f1':=f1.up hsub h
  have a2:cN q e.To f.To:=hsub _ _ hfe.2.1 hfT f4
  refine ⟨f,hf,k1.trans f1',fun ⟨g0,g1⟩=>hn ⟨by omega,?_⟩,f3,a2⟩
  exact (hsub _ _ hz1 hz2 k2).trans (f1'.same.trans (g1.trans a2.symm))
 exact (aLB h hq hx hy).2 ⟨hsub _ _ hx hy hxy,(fun g=>by cases g),br hx hy hxy,br hy hx hxy.symm⟩
def WM (u:aO) (R:Int->Int->Prop):Prop:=∀ x y,cF u x->cF u y->R x y->∀ s w,Wk u x s w->∃ w',Wk u y s w'/\R w w'
theorem aQc (h:rY u) {dv:Bool} {p:List Int} (hp:Crs u (brF u dv) p):WM u (cN p):=by
 intro x y hx hy hxy s w hw
 have cin:∀ {x z:Int},cF u x->Cl u (·∈[x]) z->cF u z:=fun {x z} hx hz=>aOL h (fun q hq=>by simp at hq;exact hq ▸ hx) hz
 have ctr:∀ {x y z:Int},Cl u (·∈[x]) y->Cl u (·∈[y]) z->Cl u (·∈[x]) z:=fun {x y z} h1 h2=>by
  induction h2 with
  |base g=>simp at g;subst g;exact h1
  |step he h0 _ ih=>exact .step he h0 ih
 have path:∀ {x y:Int},cF u x->cF u y->cN p x y->∀ z,Cl u (·∈[x]) z->∃ z2,Cl u (·∈[y]) z2/\cN p z z2:=fun {x y} hx hy hxy z hz=>by
  have key:∀ z,Cl u (·∈[x]) z->cF u z/\∃ z2,Cl u (·∈[y]) z2/\cN p z z2:=fun z hz=>by
   induction hz with
   |base g=>simp at g;subst g;exact ⟨hx,y,.base (by simp),hxy⟩
   |@step e he h0 _ ih=>
    obtain ⟨hz1,z2,k1,k2⟩:=ih
    have hz2:=cin hy k1
    refine ⟨(h.big.inn e he).2.1,?_⟩
    by_cases hpi:cN p e.F e.To
    ·exact ⟨z2,k1,hpi.symm.trans k2⟩
    ·obtain ⟨f,hf,f1,f2,f3,f4⟩:=aHi h hp hz1 hz2 k2 he rfl (fun g=>hpi g.2)
     exact ⟨f.To,.step hf (by omega) (ctr k1 f1.cl),f4⟩
  exact (key z hz).2
 unfold Wk at hw ⊢
 by_cases hs:s=bC
 ·simp only [if_pos hs] at hw ⊢
  exact path hx hy hxy w hw
 ·simp only [if_neg hs] at hw ⊢
  have key:∀ w,Cl u (fun q=>∃ e∈u.E,qA u e=s/\Cl u (·∈[x]) e.F/\e.To=q) w->cF u w/\∃ w',Cl u (fun q=>∃ e∈u.E,qA u e=s/\Cl u (·∈[y]) e.F/\e.To=q) w'/\cN p w w':=fun w hw=>by
   induction hw with
   |base g=>
    obtain ⟨e,he,e1,e2,rfl⟩:=g
    obtain ⟨z2,k1,k2⟩:=path hx hy hxy _ e2
    have hl:e.B≠0:=fun g=>hs (by rw [←e1];exact (h.tau he).2 g)
    obtain ⟨f,hf,f1,f2,f3,f4⟩:=aHi h hp (h.big.inn e he).1 (cin hy k1) k2 he rfl (fun g=>hl g.1)
    refine ⟨(h.big.inn e he).2.1,f.To,.base ⟨f,hf,?_,ctr k1 f1.cl,rfl⟩,f4⟩
    rw [←e1];unfold qA;rw [f3]
   |@step e he h0 _ ih=>
    obtain ⟨hz1,z2,k1,k2⟩:=ih
    have hz2:cF u z2:=aOL h (fun q hq=>by obtain ⟨e,he,_,_,rfl⟩:=hq;exact (h.big.inn e he).2.1) k1
    refine ⟨(h.big.inn e he).2.1,?_⟩
    by_cases hpi:cN p e.F e.To
    ·exact ⟨z2,k1,hpi.symm.trans k2⟩
    ·obtain ⟨f,hf,f1,f2,f3,f4⟩:=aHi h hp hz1 hz2 k2 he rfl (fun g=>hpi g.2)
     refine ⟨f.To,.step hf (by omega) ?_,f4⟩
     exact InP.ind (C:=fun z=>Cl u (fun q=>∃ e∈u.E,qA u e=s/\Cl u (·∈[y]) e.F/\e.To=q) z) k1 (fun e he h0 _ _ ih=>.step he h0 ih) f1
  exact (key w hw).2
end
structure Emb (t u:aO) (o:Int):Prop where
 go:∀ e∈t.E,∃ f∈u.E,f.F=e.F+o/\f.To=e.To+o/\qA u f=qA t e
 back:∀ f∈u.E,∀ x,cF t x->f.F=x+o->∃ e∈t.E,e.F=x/\f.To=e.To+o/\qA u f=qA t e
section
variable {a b:aO} {M:List aL} {Eo:List Edge}
theorem aDJ (ha:aN a) (hb:aN b) (h:Uni a b M Eo):rY (rX a b M Eo):=⟨(uni_big ha hb h).hug,M,rfl,h.str⟩
theorem aNo {s:aL} (hs:s∈bC::M) {x y:Int}:qA (rX a b M Eo) ⟨x,pos (bC::M) s,y⟩=s:=by
 obtain ⟨i,e1,g1⟩:=aHE hs
 unfold qA
 show (bC::M).getD (pos (bC::M) s).toNat []=s
 rw [e1,Int.toNat_natCast,List.getD_eq_getElem?_getD,g1];rfl
theorem aLC (ha:aN a) (hb:aN b) (h:Uni a b M Eo):Emb a (rX a b M Eo) 0:=by
 refine ⟨fun e he=>⟨⟨e.F,pos (bC::M) (qA a e),e.To⟩,(h.ed _).2 (by unfold unA;exact List.mem_append_left _ (List.mem_map_of_mem he)),by simp,by simp,aNo (aJy h (.inl (aDV ha he)))⟩,fun f hf x hx hfx=>?_⟩
 have hf':=(h.ed f).1 hf
 unfold unA at hf'
 unfold cF at hx
 rcases List.mem_append.1 hf' with k|k
 ·obtain ⟨e,he,rfl⟩:=List.mem_map.1 k
  exact ⟨e,he,by simp only at hfx;omega,by simp,aNo (aJy h (.inl (aDV ha he)))⟩
 ·obtain ⟨e,he,rfl⟩:=List.mem_map.1 k
  have:=(uL hb he).1
  unfold cF at this
  simp only at hfx;omega
theorem aLD (ha:aN a) (hb:aN b) (h:Uni a b M Eo):Emb b (rX a b M Eo) a.N:=by
 refine ⟨fun e he=>⟨⟨e.F+a.N,pos (bC::M) (qA b e),e.To+a.N⟩,(h.ed _).2 (by unfold unA;exact List.mem_append_right _ (List.mem_map_of_mem he)),rfl,rfl,aNo (aJy h (.inr (aDV hb he)))⟩,fun f hf x hx hfx=>?_⟩
 have hf':=(h.ed f).1 hf
 unfold unA at hf'
 unfold cF at hx
 rcases List.mem_append.1 hf' with k|k
 ·obtain ⟨e,he,rfl⟩:=List.mem_map.1 k
  have:=(uL ha he).1
  unfold cF at this
  simp only at hfx;omega
 ·obtain ⟨e,he,rfl⟩:=List.mem_map.1 k
  exact ⟨e,he,by simp only at hfx;omega,rfl,aNo (aJy h (.inr (aDV hb he)))⟩
theorem aMH (ha:aN a) (hb:aN b):∀ x,cF a x->cF (rX a b M Eo) (x+0):=fun x hx=>by
 have:=hb.1
 unfold cF at *
 show 0<=x+0/\x+0 < a.N+b.N
 omega
theorem aMI (ha:aN a) (hb:aN b):∀ y,cF b y->cF (rX a b M Eo) (y+a.N):=fun y hy=>by
 have:=ha.1
 unfold cF at *
 show 0<=y+a.N/\y+a.N < a.N+b.N
 omega
def tog (a b:aO) (p:List Int):Bool:=p.getD a.I.toNat 0 == p.getD (a.N+b.I).toNat 0
theorem aDc {p:List Int}:tog a b p=true<->cN p (a.I+0) (b.I+a.N):=by
 unfold tog cN
 rw [beq_iff_eq,Int.add_zero,Int.add_comm a.N]
theorem tog_eq (ha:aN a) (hb:aN b) {p:List Int} (hp:eF (rX a b M Eo) p):nP a b p=some (tog a b p):=by
 have s1:=ha.1
 have s2:=hb.1
 have i1:=ha.2.1
 have i2:=hb.2.1
 have h1:cF (rX a b M Eo) a.I:=by
  unfold cF;show 0<=a.I/\a.I < a.N+b.N;omega
 have h2:cF (rX a b M Eo) (a.N+b.I):=by
  unfold cF;show 0<=a.N+b.I/\a.N+b.I < a.N+b.N;omega
 unfold nP tog
 rw [(jM hp h1).1,aA,fS (by omega) (by omega),(jM hp h2).1,aA]
theorem aRk (ha:aN a) (hb:aN b) (h:Uni a b M Eo):(rX a b M Eo).N<=80/\(rX a b M Eo).L.length<=30:=by
 have s1:=ha.1
 have s2:=hb.1
 have:=h.len
 refine ⟨?_,?_⟩
 ·show a.N+b.N<=80;omega
 ·show (bC::M).length<=30
  rw [List.length_cons];omega
end
end Gv
namespace Gv
open Go
noncomputable def wkL (u:aO) (k:Int) (s:aL):List Int:=(mY u k s).getD []
noncomputable def satE (u:aO):List Edge:=(List.range u.N.toNat).flatMap fun k:Nat=>(List.range u.L.length).flatMap fun i:Nat=>(wkL u (k:Int) (u.L.getD i [])).map fun w=>(⟨(k:Int),(i:Int),w⟩:Edge)
noncomputable def aHG (u:aO):aO:=⟨u.N,u.I,u.L,satE u⟩
section
variable {u:aO}
theorem aMp (h:rY u) {k:Int} (hk:cF u k) (s:aL):mY u k s=some (wkL u k s)/\(∀ w,w∈wkL u k s<->Wk u k s w)/\(wkL u k s).length<=u.N.toNat:=by
 obtain ⟨R,e,hR⟩:=weaklyU h hk s
 unfold wkL
 rw [e]
 have:=h.big.st
 refine ⟨rfl,hR.mem,hR.len (n:=u.N.toNat) fun q hq=>?_⟩
 have:=wk_in h hk hq
 unfold cF at this;omega
theorem aJc (h:rY u) {e:Edge}:e∈satE u<->cF u e.F/\(0<=e.B/\e.B < u.L.length)/\Wk u e.F (u.L.getD e.B.toNat []) e.To:=by
 unfold satE cF
 rw [List.mem_flatMap]
 constructor
 ·rintro ⟨k,hk,he⟩
  obtain ⟨i,hi,he⟩:=List.mem_flatMap.1 he
  obtain ⟨w,hw,rfl⟩:=List.mem_map.1 he
  rw [List.mem_range] at hk hi
  have:=(aMp h (k:=(k:Int)) (by unfold cF;omega) (u.L.getD i [])).2.1 w
  exact ⟨⟨by simp only;omega,by simp only;omega⟩,⟨by simp only;omega,by simp only;omega⟩,this.1 hw⟩
 ·rintro ⟨h1,h2,h3⟩
  refine ⟨e.F.toNat,by rw [List.mem_range];omega,List.mem_flatMap.2 ⟨e.B.toNat,by rw [List.mem_range];omega,List.mem_map.2 ⟨e.To,?_,?_⟩⟩⟩
  ·rw [show ((e.F.toNat:Nat):Int)=e.F by omega]
   exact ((aMp h (show cF u e.F from h1) _).2.1 _).2 h3
  ·rw [show ((e.F.toNat:Nat):Int)=e.F by omega,show ((e.B.toNat:Nat):Int)=e.B by omega]
theorem aNp {γ δ:Type} (f:γ->List δ) (c:Nat):∀ l:List γ,(∀ x∈l,(f x).length<=c)->(l.flatMap f).length<=l.length * c
 |[],_=>by simp
 |x::l,h=>by
  have h1:=aNp f c l fun y hy=>h y (List.mem_cons_of_mem _ hy)
  have h2:=h x List.mem_cons_self
  rw [List.flatMap_cons,List.length_append,List.length_cons,Nat.succ_mul];omega
theorem satE_len (h:rY u) (h80:u.N<=80) (h30:u.L.length<=30):(satE u).length<=200000:=by
 have hst:=h.big.st
 have e1:∀ k∈List.range u.N.toNat,((List.range u.L.length).flatMap fun i:Nat=>(wkL u ((k:Nat):Int) (u.L.getD i [])).map fun w=>(⟨((k:Nat):Int),(i:Int),w⟩:Edge)).length<=2400:=fun k hk=>by
  rw [List.mem_range] at hk
  have:=aNp (fun i:Nat=>(wkL u ((k:Nat):Int) (u.L.getD i [])).map fun w=>(⟨((k:Nat):Int),(i:Int),w⟩:Edge)) 80 (List.range u.L.length) (fun i _=>by
   rw [List.length_map]
   have:=(aMp h (k:=((k:Nat):Int)) (by unfold cF;omega) (u.L.getD i [])).2.2
   omega)
  rw [List.length_range] at this
  omega
 have:=aNp _ 2400 (List.range u.N.toNat) e1
 rw [List.length_range] at this
 unfold satE
 omega
theorem aOP (h:rY u) (h80:u.N<=80) (h30:u.L.length<=30):Hug (aHG u):=by
 refine ⟨h.big.st,h.big.lab,by have:=satE_len h h80 h30;show (satE u).length<=_;omega,fun e he=>?_⟩
 obtain ⟨h1,h2,h3⟩:=(aJc h).1 he
 exact ⟨h1,wk_in h h1 h3,h2.1,h2.2⟩
theorem aRl (h:rY u) (h80:u.N<=80) (h30:u.L.length<=30):uP u=some (aHG u):=by
 have hst:=h.big.st
 obtain ⟨n,hn⟩:∃ n:Nat,u.N=(n:Int):=⟨u.N.toNat,by omega⟩
 have in1:∀ (k i:Nat) (o:List Edge),o.length<=10000000->k < n->i < u.L.length->loop (fun s:List Edge × Int=>pJ (k:Int) (i:Int) (wkL u (k:Int) (u.L.getD i [])) s.1 s.2) (o,0)=some (o++(wkL u (k:Int) (u.L.getD i [])).map fun w=>(⟨(k:Int),(i:Int),w⟩:Edge)):=fun k i o ho hk hi=>by
  have hw:=(aMp h (k:=(k:Int)) (by unfold cF;omega) (u.L.getD i [])).2.2
  generalize wkL u (k:Int) (u.L.getD i [])=W at hw ⊢
  exact kJ (step:=fun s:List Edge × Int=>pJ (k:Int) (i:Int) W s.1 s.2) W (fun j (o:List Edge)=>(o,(j:Int))) (fun l o=>o++l.map fun w=>(⟨(k:Int),(i:Int),w⟩:Edge)) (fun j o=>o.length<=10000000+j) (fun j o e l hj hx hI=>by
   left
   obtain ⟨_,rfl⟩:=lW hx
   refine ⟨o++[⟨(k:Int),(i:Int),W[j]⟩],?_,by simp;omega,by simp [List.append_assoc]⟩
   simp only [pJ,bD hj,if_pos,hx,aA]
   rw [bS (by simp [iO];omega),aA,aW hj (by omega)]) (fun o _=>by simp only [pJ,bI];simp) (a:=o) (by omega)
 have in2:∀ (k:Nat) (o:List Edge),o.length<=8000000->k < n->loop (fun s:List Edge × Int=>mK u (k:Int) s.1 s.2) (o,0)=some (o++(List.range u.L.length).flatMap fun i:Nat=>(wkL u (k:Int) (u.L.getD i [])).map fun w=>(⟨(k:Int),(i:Int),w⟩:Edge)):=fun k o ho hk=>
  kJ (step:=fun s:List Edge × Int=>mK u (k:Int) s.1 s.2) (List.range u.L.length) (fun j (o:List Edge)=>(o,(j:Int))) (fun l o=>o++l.flatMap fun i:Nat=>(wkL u (k:Int) (u.L.getD i [])).map fun w=>(⟨(k:Int),(i:Int),w⟩:Edge)) (fun j o=>o.length<=8000000+100 * j) (fun j o e l hj hx hI=>by
   left
   obtain ⟨_,e⟩:=lW hx
   rw [List.getElem_range] at e
   subst e
   rw [List.length_range] at hj
   obtain ⟨w1,_,w3⟩:=aMp h (k:=(k:Int)) (by unfold cF;omega) (u.L.getD j [])
   refine ⟨o++(wkL u (k:Int) (u.L.getD j [])).map fun w=>(⟨(k:Int),(j:Int),w⟩:Edge),?_,by rw [List.length_append,List.length_map];omega,by rw [List.flatMap_cons,List.append_assoc]⟩
   have hg:u.L.getD j []=u.L[j]:=by rw [List.getD_eq_getElem?_getD,List.getElem?_eq_getElem hj];rfl
   have hi:=in1 k j o (by omega) hk hj
   rw [hg] at w1 hi ⊢
   simp only [mK,bD hj,if_pos,bE hj,aA,w1,hi,aAJ,uE,aW hj (show u.L.length < 4611686018427387904 by omega)]) (fun o _=>by
    simp only [mK,List.length_range,bI];simp) (a:=o) (by omega)
 have in3:loop (fun s:List Edge × Int=>jT u s.1 s.2) (([]:List Edge),0)=some (satE u):=by
  have key:=kJ (step:=fun s:List Edge × Int=>jT u s.1 s.2) (List.range n) (fun j (o:List Edge)=>(o,(j:Int))) (fun l o=>o++l.flatMap fun k:Nat=>(List.range u.L.length).flatMap fun i:Nat=>(wkL u (k:Int) (u.L.getD i [])).map fun w=>(⟨(k:Int),(i:Int),w⟩:Edge)) (fun j o=>o.length<=3000 * j) (fun j o e l hj hx hI=>?_) (fun o _=>by
   simp only [jT,hn,List.length_range,bI];simp) (a:=[]) (by simp)
  ·rw [show loop (fun s:List Edge × Int=>jT u s.1 s.2) (([]:List Edge),0)=_ from key,List.nil_append]
   unfold satE
   rw [hn,Int.toNat_natCast]
  ·left
   obtain ⟨_,e⟩:=lW hx
   rw [List.getElem_range] at e
   subst e
   rw [List.length_range] at hj
   have hfl:=aNp (fun i:Nat=>(wkL u ((j:Nat):Int) (u.L.getD i [])).map fun w=>(⟨((j:Nat):Int),(i:Int),w⟩:Edge)) 100 (List.range u.L.length) (fun i _=>by
    rw [List.length_map]
    have:=(aMp h (k:=((j:Nat):Int)) (by unfold cF;omega) (u.L.getD i [])).2.2
    omega)
   rw [List.length_range] at hfl
   refine ⟨o++(List.range u.L.length).flatMap fun i:Nat=>(wkL u (j:Int) (u.L.getD i [])).map fun w=>(⟨(j:Int),(i:Int),w⟩:Edge),?_,by rw [List.length_append];omega,by rw [List.flatMap_cons,List.append_assoc]⟩
   simp only [jT,hn,bD hj,if_pos,in2 j o (show o.length<=8000000 by omega) hj,aA,aAI,uD,aW hj (show n < 4611686018427387904 by omega)]
 unfold uP
 rw [aMj (by omega),aA]
 unfold uF
 rw [in3,aA];rfl
theorem weak_crs (h:rY u) (h80:u.N<=80) (h30:u.L.length<=30):∃ p,aCB u=some p/\Crs (aHG u) (stF (aHG u)) p:=by
 obtain ⟨p,h1,h2⟩:=aON (aOP h h80 h30)
 refine ⟨p,?_,h2⟩
 unfold aCB
 rw [aRl h h80 h30,aA,show rB ⟨(aHG u).N,(aHG u).I,(aHG u).L,(aHG u).E⟩=some p from h1,aA]
theorem part_sat {q:List Int} (h:eF (aHG u) q):eF u q:=h
theorem wm_pres (h:rY u) (h80:u.N<=80) (h30:u.L.length<=30) {R:Int->Int->Prop} (hs:∀ x y,R x y->R y x) (hR:WM u R):Pres (aHG u) (stF (aHG u)) R:=by
 intro q hq hsub x y hx hy hxy
 have hug:=aOP h h80 h30
 have st:∀ {x y:Int},cF u x->cF u y->R x y->StEq (aHG u) q x y:=fun {x y} hx hy hxy e he hex=>by
  obtain ⟨h1,h2,h3⟩:=(aJc h).1 he
  rw [hex] at h3
  obtain ⟨w',k1,k2⟩:=hR x y hx hy hxy _ _ h3
  exact ⟨⟨y,e.B,w'⟩,(aJc h).2 ⟨hy,h2,k1⟩,rfl,rfl,hsub _ _ (wk_in h hx h3) (wk_in h hy k1) k2⟩
 exact (aLz hug hq hx hy).2 ⟨hsub _ _ hx hy hxy,st hx hy hxy,st hy hx (hs _ _ hxy)⟩
theorem weak_wm (h:rY u) (h80:u.N<=80) (h30:u.L.length<=30) {p:List Int} (hp:Crs (aHG u) (stF (aHG u)) p):∀ x y,cF u x->cF u y->cN p x y->∀ s∈u.L,∀ w,Wk u x s w->∃ w',Wk u y s w'/\cN p w w':=by
 intro x y hx hy hxy s hs w hw
 have hug:=aOP h h80 h30
 obtain ⟨i,hi,rfl⟩:=List.getElem_of_mem hs
 have hg:u.L.getD (i:Int).toNat []=u.L[i]:=by rw [Int.toNat_natCast,List.getD_eq_getElem?_getD,List.getElem?_eq_getElem hi];rfl
 have:cN (stF (aHG u) p) x y:=by rw [hp.fix];exact hxy
 obtain ⟨f,hf,f1,f2,f3⟩:=((aLz hug hp.part hx hy).1 this).2.1 ⟨x,(i:Int),w⟩ ((aJc h).2 ⟨hx,⟨by simp only;omega,by simp only;omega⟩,by simp only;rw [hg];exact hw⟩) rfl
 obtain ⟨g1,g2,g3⟩:=(aJc h).1 hf
 simp only at f2 f3
 rw [f1,f2,hg] at g3
 exact ⟨f.To,g3,f3⟩
end
section
variable {t u:aO} {o:Int}
theorem emb_cl (hv:aN t) (hu:rY u) (h:Emb t u o) {X Y:Int->Prop} (hX:∀ x,X x->cF t x) (hY:∀ z,Y z<->∃ x,z=x+o/\X x) {z:Int}:Cl u Y z<->∃ x,z=x+o/\Cl t X x:=by
 constructor
 ·intro hz
  have key:∀ z,Cl u Y z->∃ x,z=x+o/\Cl t X x/\cF t x:=fun z hz=>by
   induction hz with
   |base g=>obtain ⟨x,rfl,hx⟩:=(hY _).1 g;exact ⟨x,rfl,.base hx,hX x hx⟩
   |@step f hf h0 _ ih=>
    obtain ⟨x,e1,hc,hx⟩:=ih
    obtain ⟨e,he,e2,e3,e4⟩:=h.back f hf x hx e1
    have hl:e.B=0:=(txt_tau hv he).1 (by rw [←e4];exact (hu.tau hf).2 h0)
    refine ⟨e.To,e3,.step he hl (by rw [e2];exact hc),?_⟩
    have:=(uL hv he).2.1
    exact this
  obtain ⟨x,e,hc,_⟩:=key z hz
  exact ⟨x,e,hc⟩
 ·rintro ⟨x,rfl,hx⟩
  induction hx with
  |base g=>exact .base ((hY _).2 ⟨_,rfl,g⟩)
  |@step e he h0 _ ih=>
   obtain ⟨f,hf,f1,f2,f3⟩:=h.go e he
   rw [←f2]
   refine .step hf ((hu.tau hf).1 (by rw [f3];exact (txt_tau hv he).2 h0)) (by rw [f1];exact ih)
theorem aHH (hv:aN t) (hu:rY u) (h:Emb t u o) {x:Int} (hx:cF t x) {s:aL} {w:Int}:Wk u (x+o) s w<->∃ z,w=z+o/\Wk t x s z:=by
 have h1:∀ z,Cl u (·∈[x+o]) z<->∃ y,z=y+o/\Cl t (·∈[x]) y:=fun z=>emb_cl hv hu h (X:=(·∈[x])) (Y:=(·∈[x+o])) (fun y hy=>by simp at hy;exact hy ▸ hx) fun z=>by
  simp only [List.mem_singleton]
  exact ⟨fun g=>⟨x,g,rfl⟩,fun ⟨y,g1,g2⟩=>by rw [g1,g2]⟩
 unfold Wk
 by_cases hs:s=bC
 ·simp only [if_pos hs]
  exact h1 w
 ·simp only [if_neg hs]
  refine emb_cl hv hu h (fun q hq=>by obtain ⟨e,he,_,_,rfl⟩:=hq;exact (uL hv he).2.1) fun z=>?_
  constructor
  ·rintro ⟨f,hf,e1,e2,rfl⟩
   obtain ⟨y,g1,g2⟩:=(h1 _).1 e2
   have hy:cF t y:=by
    have:=g2.inn hv fun q hq=>by simp at hq;unfold cF at hx;omega
    exact this
   obtain ⟨e,he,k1,k2,k3⟩:=h.back f hf y hy g1
   exact ⟨e.To,k2,e,he,by rw [←k3];exact e1,by rw [k1];exact g2,rfl⟩
  ·rintro ⟨y,rfl,e,he,e1,e2,rfl⟩
   obtain ⟨f,hf,f1,f2,f3⟩:=h.go e he
   exact ⟨f,hf,by rw [f3];exact e1,(h1 _).2 ⟨e.F,f1,e2⟩,f2⟩
end
section
variable {a b:aO} {M:List aL} {Eo:List Edge}
theorem aft_cl {t:aO} (hv:aN t):∀ tr:List aL,∃ Y:Int->Prop,(∀ q,Y q->cF t q)/\nU (aft t tr) (Cl t Y):=fun tr=>by
 induction tr using aHg with
 |nil=>
  obtain ⟨R,e,_,hR⟩:=aJs hv
  have:wE t=R:=by
   have:=(aFY hv).2.1
   rw [e] at this
   exact (Option.some.inj this).symm
  refine ⟨_,fun q hq=>?_,show nU (wE t) _ by rw [this];exact hR⟩
  subst hq
  have:=hv.2.1
  unfold cF;omega
 |snoc tr s _=>
  obtain ⟨_,_,h3⟩:=aJz hv (aFv hv tr) s
  rw [aLu]
  exact ⟨_,fun q hq=>hq.inn hv,h3⟩
theorem aNq {t:aO} (hv:aN t) {tr:List aL} {x:Int} (hx:x∈aft t tr):cF t x:=(aFv hv tr).inn x hx
theorem aOQ {t:aO} (hv:aN t) {tr:List aL} {x z:Int} (hx:x∈aft t tr) (hz:Cl t (·∈[x]) z):z∈aft t tr:=by
 obtain ⟨Y,_,hY⟩:=aft_cl hv tr
 rw [hY.mem]
 induction hz with
 |base g=>simp at g;subst g;exact (hY.mem _).1 hx
 |step he h0 _ ih=>exact .step he h0 ih
theorem aft_go {t:aO} (hv:aN t) {tr:List aL} {s:aL} (hs:s≠bC) {x:Int}:x∈aft t (tr++[s])<->∃ j∈aft t tr,Wk t j s x:=by
 obtain ⟨_,_,h3⟩:=aJz hv (aFv hv tr) s
 rw [aLu,h3.mem]
 unfold Wk
 simp only [if_neg hs]
 constructor
 ·intro h
  induction h with
  |base g=>
   obtain ⟨e,he,e1,e2,rfl⟩:=g
   exact ⟨e.F,e2,.base ⟨e,he,e1,.base (by simp),rfl⟩⟩
  |step he h0 _ ih=>
   obtain ⟨j,hj,hc⟩:=ih
   exact ⟨j,hj,.step he h0 hc⟩
 ·rintro ⟨j,hj,hc⟩
  induction hc with
  |base g=>
   obtain ⟨e,he,e1,e2,rfl⟩:=g
   exact .base ⟨e,he,e1,aOQ hv hj e2,rfl⟩
  |step he h0 _ ih=>exact .step he h0 ih
theorem aSU {t:aO} (hv:aN t) {x:Int}:x∈aft t []<->Wk t t.I bC x:=by
 obtain ⟨R,e,_,hR⟩:=aJs hv
 have:wE t=R:=by
  have:=(aFY hv).2.1
  rw [e] at this
  exact (Option.some.inj this).symm
 show x∈wE t<->_
 rw [this,hR.mem]
 unfold Wk
 rw [if_pos rfl]
 exact Cl.iff (fun q=>by simp) x
theorem aOR {t v u:aO} {o o':Int} (ht:aN t) (hv:aN v) (hu:rY u) (et:Emb t u o) (ev:Emb v u o') (it:∀ x,cF t x->cF u (x+o)) (iv:∀ x,cF v x->cF u (x+o')) {R:Int->Int->Prop}
  (hR:∀ x y,cF u x->cF u y->R x y->∀ s,s∈bC::(t.L++v.L)->∀ w,Wk u x s w->∃ w',Wk u y s w'/\R w w') (h0:R (t.I+o) (v.I+o')):
  ∀ tr:List aL,(∀ s∈tr,s∈t.L++v.L/\s≠bC)->∀ x∈aft t tr,∃ y∈aft v tr,R (x+o) (y+o'):=fun tr=>by
 have i1:cF t t.I:=by have:=ht.2.1;unfold cF;omega
 have i2:cF v v.I:=by have:=hv.2.1;unfold cF;omega
 induction tr using aHg with
 |nil=>
  intro _ x hx
  obtain ⟨w',k1,k2⟩:=hR _ _ (it _ i1) (iv _ i2) h0 bC (by simp) (x+o) ((aHH ht hu et i1).2 ⟨x,rfl,(aSU ht).1 hx⟩)
  obtain ⟨y,rfl,hy⟩:=(aHH hv hu ev i2).1 k1
  exact ⟨y,(aSU hv).2 hy,k2⟩
 |snoc tr s ih=>
  intro hl x hx
  obtain ⟨hs1,hs2⟩:=hl s (by simp)
  obtain ⟨j,hj,hw⟩:=(aft_go ht hs2).1 hx
  obtain ⟨y0,hy0,hR0⟩:=ih (fun z hz=>hl z (List.mem_append_left _ hz)) j hj
  have ij:=aNq ht hj
  have iy:=aNq hv hy0
  obtain ⟨w',k1,k2⟩:=hR _ _ (it _ ij) (iv _ iy) hR0 s (List.mem_cons_of_mem _ hs1) (x+o) ((aHH ht hu et ij).2 ⟨x,rfl,hw⟩)
  obtain ⟨y,rfl,hy⟩:=(aHH hv hu ev iy).1 k1
  exact ⟨y,(aft_go hv hs2).2 ⟨y0,hy0,hy⟩,k2⟩
end
end Gv
namespace Gv
open Go
section
variable {t v u:aO} {o o':Int}
theorem aRm (ht:aN t) (hv:aN v) (hu:rY u) (et:Emb t u o) (ev:Emb v u o') (it:∀ x,cF t x->cF u (x+o)) (iv:∀ x,cF v x->cF u (x+o')) {p:List Int} (hp:Crs u (brF u true) p)
  {tr:List aL} {k j0:Int} (hk:cF t k) (hks:aLx t k=true) (hj:j0∈aft v tr) (hR:cN p (k+o) (j0+o')):∃ j∈aft v tr,aLx v j=true/\∀ s∈rdy v j,s∈rdy t k:=by
 have hj0:=aNq hv hj
 have notau:∀ e∈u.E,e.F=k+o->e.B≠0:=fun e he hef hl=>by
  obtain ⟨e0,h0,h1,_,h3⟩:=et.back e he k hk hef
  unfold aLx at hks
  rw [Bool.not_eq_true',List.any_eq_false] at hks
  refine hks bC (aJx.2 ⟨e0,h0,h1,?_⟩) (beq_self_eq_true _)
  rw [←h3];exact (hu.tau he).2 hl
 have stay:∀ {z:Int},InP u p (k+o) z->z=k+o:=fun {z} hz=>InP.ind (C:=fun z=>z=k+o) rfl (fun e he h0 _ _ ih=>absurd h0 (notau e he ih)) hz
 have hfix:cN (brF u true p) (k+o) (j0+o'):=by rw [hp.fix];exact hR
 have hdv:=((aLB hu hp.part (it k hk) (iv j0 hj0)).1 hfix).2.1 rfl
 have nodv:¬ Dv u p (j0+o'):=fun hd=>by
  obtain ⟨X,hX,hXk⟩:=hdv.2 hd
  obtain ⟨e,he,h1,h2,_⟩:=hX _ hXk
  exact notau e (aCL.1 he).1 h1 h2
 obtain ⟨j',hj',hno⟩:∃ j',InP u p (j0+o') j'/\∀ e∈u.E,e.F=j'->e.B=0->¬ cN p e.F e.To:=by
  refine Classical.byContradiction fun hc=>nodv ⟨fun z=>InP u p (j0+o') z,fun z hz=>?_,InP.refl⟩
  refine Classical.byContradiction fun hn=>hc ⟨z,hz,fun e he hef h0 hs=>hn ⟨e,aCL.2 ⟨he,h0,hs⟩,hef,h0,InP.step he h0 hs (by rw [hef];exact hz)⟩⟩
 have hR':cN p j' (k+o):=hj'.same.symm.trans hR.symm
 have hj'u:=hj'.inn hu (iv j0 hj0)
 obtain ⟨j,rfl,hjw⟩:=(aHH hv hu ev hj0 (s:=bC)).1 (show Wk u (j0+o') bC j' by unfold Wk;rw [if_pos rfl];exact hj'.cl)
 have hjm:j∈aft v tr:=aOQ hv hj (by unfold Wk at hjw;rwa [if_pos rfl] at hjw)
 have ans:∀ e∈v.E,e.F=j->∃ f∈u.E,f.F=k+o/\qA u f=qA v e:=fun e he hej=>by
  obtain ⟨f,hf,f1,f2,f3⟩:=ev.go e he
  obtain ⟨g,hg,g1,g2,g3,_⟩:=aHi hu hp hj'u (it k hk) hR' hf (by rw [f1,hej]) (fun hin=>hno f hf (by rw [f1,hej]) hin.1 hin.2)
  refine ⟨g,hg,stay g1,?_⟩
  rw [←f3];unfold qA;rw [g3]
 refine ⟨j,hjm,?_,fun s hs=>?_⟩
 ·unfold aLx
  rw [Bool.not_eq_true',List.any_eq_false]
  intro x hx hxt
  rw [beq_iff_eq] at hxt
  subst hxt
  obtain ⟨e,he,h1,h2⟩:=aJx.1 hx
  obtain ⟨f,hf,f1,f2⟩:=ans e he h1
  exact notau f hf f1 ((hu.tau hf).1 (by rw [f2,h2]))
 ·obtain ⟨e,he,h1,rfl⟩:=aJx.1 hs
  obtain ⟨f,hf,f1,f2⟩:=ans e he h1
  obtain ⟨e0,h0,k1,_,k3⟩:=et.back f hf k hk f1
  exact aJx.2 ⟨e0,h0,k1,by rw [←k3,f2]⟩
theorem no_bad (ht:aN t) (hv:aN v) (hu:rY u) (et:Emb t u o) (ev:Emb v u o') (it:∀ x,cF t x->cF u (x+o)) (iv:∀ x,cF v x->cF u (x+o')) {p:List Int} (hp:Crs u (brF u true) p) (h0:cN p (t.I+o) (v.I+o'))
  {tr:List aL} (hl:∀ s∈tr,s∈t.L++v.L/\s≠bC):¬ BadR v t tr:=by
 rintro ⟨hne,hbad⟩
 have key:=aOR ht hv hu et ev it iv (R:=cN p) (fun x y hx hy hxy s _ w hw=>aQc hu hp x y hx hy hxy s w hw) h0 tr hl
 rcases hbad with h1|h1
 ·obtain ⟨x,hx⟩:=List.exists_mem_of_ne_nil _ hne
  obtain ⟨y,hy,_⟩:=key x hx
  rw [h1] at hy;cases hy
 ·obtain ⟨k,hk,hks,hc⟩:=(exc_pos (fun k hk=>((aFv ht tr).inn k hk).1)).1 h1
  obtain ⟨j0,hj0,hR⟩:=key k hk
  obtain ⟨j,hj,j1,j2⟩:=aRm ht hv hu et ev it iv hp (aNq ht hk) hks hj0 hR
  have:covd v t (aft v tr) k=true:=covd_iff.2 ⟨j,hj,j1,j2⟩
  rw [hc] at this;cases this
theorem aOS (ht:aN t) (hv:aN v) (hu:rY u) (et:Emb t u o) (ev:Emb v u o') (it:∀ x,cF t x->cF u (x+o)) (iv:∀ x,cF v x->cF u (x+o')) {p:List Int} (hp:Crs u (stF u) p) (h0:cN p (t.I+o) (v.I+o')):smG t v 0 t.I v.I=true:=by
 have i1:cF t t.I:=by have:=ht.2.1;unfold cF;omega
 have i2:cF v v.I:=by have:=hv.2.1;unfold cF;omega
 have st:∀ {x y:Int},cF u x->cF u y->cN p x y->StEq u p x y:=fun {x y} hx hy hs=>by
  have:cN (stF u p) x y:=by rw [hp.fix];exact hs
  exact ((aLz hu.big hp.part hx hy).1 this).2.1
 have one:∀ {t v:aO} {o o':Int},Emb t u o->Emb v u o'->(∀ x,cF t x->cF u (x+o))->(∀ x,cF v x->cF u (x+o'))->∀ x y,cF t x->cF v y->cN p (x+o) (y+o')->∀ e∈t.E,e.F=x->∃ f∈v.E,f.F=y/\qA v f=qA t e/\cN p (e.To+o) (f.To+o'):=fun {t v o o'} et ev it iv x y hx hy hs e he hex=>by
  obtain ⟨f,hf,f1,f2,f3⟩:=et.go e he
  obtain ⟨g,hg,g1,g2,g3⟩:=st (it x hx) (iv y hy) hs f hf (by rw [f1,hex])
  obtain ⟨e',he',k1,k2,k3⟩:=ev.back g hg y hy g1
  refine ⟨e',he',k1,?_,?_⟩
  ·rw [←k3,←f3];unfold qA;rw [g2]
  ·rw [←f2,←k2];exact g3
 refine sm_ready ht hv i1 i2 (sm_bisim ht hv (R:=fun x y=>decide (p.getD (x+o).toNat 0=p.getD (y+o').toNat 0)) (fun x y hx hy hR e he hex=>?_) (fun x y hx hy hR f hf hfy=>?_) i1 i2 (decide_eq_true (p:=p.getD (t.I+o).toNat 0=p.getD (v.I+o').toNat 0) h0))
 ·obtain ⟨f,hf,f1,f2,f3⟩:=one et ev it iv x y hx hy (of_decide_eq_true (p:=p.getD (x+o).toNat 0=p.getD (y+o').toNat 0) hR) e he hex
  exact ⟨f,hf,f1,f2,decide_eq_true (p:=p.getD (e.To+o).toNat 0=p.getD (f.To+o').toNat 0) f3⟩
 ·obtain ⟨e,he,e1,e2,_⟩:=one ev et iv it y x hy hx (Eq.symm (of_decide_eq_true (p:=p.getD (x+o).toNat 0=p.getD (y+o').toNat 0) hR)) f hf hfy
  exact ⟨e,he,e1,e2⟩
end
section
variable {a b:aO} {M:List aL} {Eo:List Edge}
theorem aSV (ha:aN a) (hb:aN b) (fa:eT 999999999 a) (fb:eT 999999999 b) (h:Uni a b M Eo):∃ p,aBh a b=some (tog a b p,0)/\Crs (aHG (rX a b M Eo)) (stF (aHG (rX a b M Eo))) p:=by
 obtain ⟨z1,z2⟩:=aRk ha hb h
 obtain ⟨p,h1,h2⟩:=weak_crs (aDJ ha hb h) z1 z2
 refine ⟨p,?_,h2⟩
 unfold aBh aHx
 rw [kK a fa,aHB ha,aA,if_neg (by simp),kK b fb,aHB hb,aA]
 unfold aAf aQy
 rw [if_neg (by simp),aKz ha hb h,aA,show aCB ⟨(rX a b M Eo).N,(rX a b M Eo).I,(rX a b M Eo).L,(rX a b M Eo).E⟩=_ from h1,aA,aA,tog_eq ha hb (part_sat h2.part),aA,aA]
theorem aUv (ha:aN a) (hb:aN b) (fa:eT 999999999 a) (fb:eT 999999999 b) (h:Uni a b M Eo):∃ p,wX a b=some (tog a b p,0)/\Crs (rX a b M Eo) (stF (rX a b M Eo)) p:=by
 obtain ⟨p,h1,h2⟩:=aON (aDJ ha hb h).big
 refine ⟨p,?_,h2⟩
 unfold wX aCY
 rw [kK a fa,aHB ha,aA,if_neg (by simp),kK b fb,aHB hb,aA]
 unfold sZ aJm
 rw [if_neg (by simp),aKz ha hb h,aA,show rB ⟨(rX a b M Eo).N,(rX a b M Eo).I,(rX a b M Eo).L,(rX a b M Eo).E⟩=_ from h1,aA,aA,tog_eq ha hb h2.part,aA,aA]
theorem aOT (ha:aN a) (hb:aN b) (fa:eT 999999999 a) (fb:eT 999999999 b) (h:Uni a b M Eo) (dv:Bool):∃ p,nJ a b dv=some (tog a b p,0)/\Crs (rX a b M Eo) (brF (rX a b M Eo) dv) p:=by
 obtain ⟨p,h1,h2⟩:=aUt (aDJ ha hb h) dv
 refine ⟨p,?_,h2⟩
 unfold nJ aAL aCZ
 rw [aA,kK a fa,aHB ha,aA,if_neg (by simp),kK b fb,aHB hb,aA]
 unfold tA aJn vR
 rw [if_neg (by simp),aKz ha hb h,aA,show qL ⟨(rX a b M Eo).N,(rX a b M Eo).I,(rX a b M Eo).L,(rX a b M Eo).E⟩ dv=_ from h1,aA,aA,aA,tog_eq ha hb h2.part,aA,aA]
theorem weak_self (ha:aN a) (fa:eT 999999999 a):aBh a a=some (true,0):=by
 obtain ⟨M,Eo,h⟩:=uni_ex ha ha
 obtain ⟨p,e,hp⟩:=aSV ha ha fa fa h
 obtain ⟨z1,z2⟩:=aRk ha ha h
 have hu:=aDJ ha ha h
 have eA:=aLC ha ha h
 have eB:=aLD ha ha h
 have i1:cF a a.I:=by have:=ha.2.1;unfold cF;omega
 have hlow:=hp.low (fun x y=>x=y\/(cF a x/\y=x+a.N)\/(cF a y/\x=y+a.N)) (wm_pres hu z1 z2 (fun x y g=>by
  rcases g with g|g|g
  ·exact .inl g.symm
  ·exact .inr (.inr g)
  ·exact .inr (.inl g)) fun x y hx hy hxy s w hw=>by
  rcases hxy with rfl|⟨g1,rfl⟩|⟨g1,rfl⟩
  ·exact ⟨w,hw,.inl rfl⟩
  ·obtain ⟨z,rfl,hz⟩:=(aHH ha hu eA g1).1 (show Wk (rX a a M Eo) (x+0) s w by rw [Int.add_zero];exact hw)
   refine ⟨z+a.N,(aHH ha hu eB g1).2 ⟨z,rfl,hz⟩,.inr (.inl ⟨?_,by omega⟩)⟩
   rw [Int.add_zero]
   exact hz.inn ha g1
  ·obtain ⟨z,rfl,hz⟩:=(aHH ha hu eB g1).1 hw
   refine ⟨z+0,(aHH ha hu eA g1).2 ⟨z,rfl,hz⟩ |> (fun q=>by rw [Int.add_zero y] at q;exact q),.inr (.inr ⟨?_,by omega⟩)⟩
   rw [Int.add_zero]
   exact hz.inn ha g1)
 have:tog a a p=true:=by
  rw [aDc,Int.add_zero]
  have j1:=aMH (M:=M) (Eo:=Eo) ha ha _ i1
  rw [Int.add_zero] at j1
  exact hlow _ _ j1 (aMI ha ha _ i1) (.inr (.inl ⟨i1,rfl⟩))
 rw [e,this]
end
end Gv
namespace Gv
open Go
section
variable {a b:aO} {M:List aL} {Eo:List Edge}
theorem uni_iA (ha:aN a) (hb:aN b):cF (rX a b M Eo) (a.I+0):=aMH ha hb _ (by have:=ha.2.1;unfold cF;omega)
theorem uni_iB (ha:aN a) (hb:aN b):cF (rX a b M Eo) (b.I+a.N):=aMI ha hb _ (by have:=hb.2.1;unfold cF;omega)
theorem aSW (h:Uni a b M Eo) {s:aL} (hs:s∈bC::(a.L++b.L)):s∈(rX a b M Eo).L:=by
 show s∈bC::M
 by_cases e:s=bC
 ·rw [e];exact List.mem_cons_self
 ·exact List.mem_cons_of_mem _ ((h.mem s).2 ⟨(List.mem_cons.1 hs).resolve_left e,e⟩)
theorem swap_lab {s:aL} (hs:s∈bC::(b.L++a.L)):s∈bC::(a.L++b.L):=by
 simp only [List.mem_cons,List.mem_append] at hs ⊢
 rcases hs with h|h|h
 ·exact .inl h
 ·exact .inr (.inr h)
 ·exact .inr (.inl h)
theorem aUw (ha:aN a) (hb:aN b) (fa:eT 999999999 a) (fb:eT 999999999 b) (h:Uni a b M Eo) {p:List Int} (hp:Crs (aHG (rX a b M Eo)) (stF (aHG (rX a b M Eo))) p):
  ∃ r,rS a b=some r/\(r.2.2=0->tog a b p=true->r.1=true):=by
 by_cases hs:Small (dC a)/\Small (dC b)
 ·obtain ⟨same,w,e,h1,h2⟩:=same_ok ha hb fa fb hs.1 hs.2
  refine ⟨_,e,fun _ ht=>?_⟩
  show same=true
  cases hx:same with
  |true=>rfl
  |false=>
   obtain ⟨k1,k2,k3⟩:=h2 hx
   obtain ⟨z1,z2⟩:=aRk ha hb h
   have hu:=aDJ ha hb h
   have eA:=aLC ha hb h
   have eB:=aLD ha hb h
   have hR:=weak_wm hu z1 z2 hp
   have h0:=aDc.1 ht
   rcases k3 with k3|k3
   ·obtain ⟨x,hx⟩:=List.exists_mem_of_ne_nil _ (fun g=>k2 ⟨k3,g⟩)
    obtain ⟨y,hy,_⟩:=aOR hb ha hu eB eA (aMI ha hb) (aMH ha hb) (R:=cN p) (fun x y hx hy hxy s hs w hw=>hR x y hx hy hxy s (aSW h (swap_lab hs)) w hw) h0.symm w k1.symm x hx
    rw [k3] at hy;cases hy
   ·obtain ⟨x,hx⟩:=List.exists_mem_of_ne_nil _ (fun g=>k2 ⟨g,k3⟩)
    obtain ⟨y,hy,_⟩:=aOR ha hb hu eA eB (aMH ha hb) (aMI ha hb) (R:=cN p) (fun x y hx hy hxy s hs w hw=>hR x y hx hy hxy s (aSW h hs) w hw) h0 w k1 x hx
    rw [k3] at hy;cases hy
 ·refine ⟨(false,[],5),?_,fun g=>by cases g⟩
  unfold rS
  rw [cmp_two ha hb fa fb,if_neg hs,aA]
theorem fail_step (ha:aN a) (hb:aN b) (fa:eT 999999999 a) (fb:eT 999999999 b) (h:Uni a b M Eo) {p:List Int} (hp:Crs (rX a b M Eo) (brF (rX a b M Eo) true) p):
  ∃ r,oG a b=some r/\(r.2=0->tog a b p=true->r.1=true):=by
 have e0:oG a b=ob (lD a b) fun r25=>ob (lD b a) fun r37=>if (!r25.2.2.2) then (jV r25 r37 true) else (jV r25 r37 (!r37.2.2.2)):=by
  unfold oG
  rw [kK a fa,aHB ha,aA,if_neg (by simp),kK b fb,aHB hb,aA]
  unfold pS
  rw [if_neg (by simp)]
 by_cases hs:Small (dC a)/\Small (dC b)
 ·obtain ⟨r,e1,g1⟩:=ref_ok ha hb fa fb hs.1 hs.2
  obtain ⟨q,e2,g2⟩:=ref_ok hb ha fb fa hs.2 hs.1
  have hu:=aDJ ha hb h
  have eA:=aLC ha hb h
  have eB:=aLD ha hb h
  refine ⟨(r.1&&q.1,0),?_,fun _ ht=>?_⟩
  ·rw [e0,e1,aA,e2,aA,g1.ok,g2.ok,if_neg (by simp)]
   unfold jV pR
   rw [if_neg (by simp)]
   cases r.1<;>rfl
  ·have h0:=aDc.1 ht
   have t1:r.1=true:=by
    cases hx:r.1 with
    |true=>rfl
    |false=>
     obtain ⟨k1,_,k3,_⟩:=g1.no hx
     exact absurd k3 (no_bad hb ha hu eB eA (aMI ha hb) (aMH ha hb) hp h0.symm k1.symm)
   have t2:q.1=true:=by
    cases hx:q.1 with
    |true=>rfl
    |false=>
     obtain ⟨k1,_,k3,_⟩:=g2.no hx
     exact absurd k3 (no_bad ha hb hu eA eB (aMH ha hb) (aMI ha hb) hp h0 k1.symm)
   show (r.1&&q.1)=true
   rw [t1,t2];rfl
 ·refine ⟨(false,5),?_,fun g=>by cases g⟩
  rw [e0]
  unfold lD
  rw [tG ha fa,tG hb fb,aA,aA,aA,aA,aCK,aCK]
  by_cases h1:Small (dC a)
  ·rw [decide_eq_true h1,decide_eq_false (fun g=>hs ⟨h1,g⟩)];rfl
  ·rw [decide_eq_false h1]
   by_cases h2:Small (dC b)
   ·rw [decide_eq_true h2];rfl
   ·rw [decide_eq_false h2];rfl
theorem aSX (ha:aN a) (hb:aN b) (fa:eT 999999999 a) (fb:eT 999999999 b) (h:Uni a b M Eo) {p:List Int} (hp:Crs (rX a b M Eo) (stF (rX a b M Eo)) p):
  ∃ c,aAZ a b 0=some (c,0)/\(tog a b p=true->c=true):=by
 obtain ⟨m,h1,h2⟩:=aKa (kind:=0) ha hb
 obtain ⟨n,g1,g2⟩:=aKa (kind:=0) hb ha
 have hu:=aDJ ha hb h
 have eA:=aLC ha hb h
 have eB:=aLD ha hb h
 refine ⟨decide (m < 0)&&decide (n < 0),?_,fun ht=>?_⟩
 ·unfold aAZ aFG
  rw [code_eq ha hb fa fb (by omega),aA,if_neg (by simp),h2,aA,aA,g2,aA,aA]
  unfold wI
  cases decide (m < 0)<;>rfl
 ·have h0:=aDc.1 ht
  rw [decide_eq_true (h1.2 (aOS ha hb hu eA eB (aMH ha hb) (aMI ha hb) hp h0)),decide_eq_true (g1.2 (aOS hb ha hu eB eA (aMI ha hb) (aMH ha hb) hp h0.symm))]
  rfl
theorem spec_two (ha:aN a) (hb:aN b) (fa:eT 999999999 a) (fb:eT 999999999 b):(ob (aBh a a) fun r42=>
 ob (wX a b) fun r68=>
 ob (nJ a b true) fun r96=>
 ob (nJ a b false) fun r124=>
 ob (aBh a b) fun r152=>
 if (!r42.1) then (dQ (a,b) r68 r96 r124 r152 true) else (if (r42.2 != 0) then (dQ (a,b) r68 r96 r124 r152 true) else (if (r68.2 != 0) then (dQ (a,b) r68 r96 r124 r152 true) else (if (r96.2 != 0) then (dQ (a,b) r68 r96 r124 r152 true) else (if (r124.2 != 0) then (dQ (a,b) r68 r96 r124 r152 true) else (dQ (a,b) r68 r96 r124 r152 (r152.2 != 0)))))))=some true:=by
 obtain ⟨M,Eo,h⟩:=uni_ex ha hb
 obtain ⟨z1,z2⟩:=aRk ha hb h
 have hu:=aDJ ha hb h
 obtain ⟨p1,e1,c1⟩:=aUv ha hb fa fb h
 obtain ⟨p2,e2,c2⟩:=aOT ha hb fa fb h true
 obtain ⟨p3,e3,c3⟩:=aOT ha hb fa fb h false
 obtain ⟨p4,e4,c4⟩:=aSV ha hb fa fb h
 have iA:cF (rX a b M Eo) (a.I+0):=uni_iA ha hb
 have iB:cF (rX a b M Eo) (b.I+a.N):=uni_iB ha hb
 have k12:tog a b p1=true->tog a b p2=true:=fun g=>aDc.2 (c2.low _ (aSR hu c1 true) _ _ iA iB (aDc.1 g))
 have k23:tog a b p2=true->tog a b p3=true:=fun g=>aDc.2 (c3.low _ (aSS hu c2) _ _ iA iB (aDc.1 g))
 have k34:tog a b p3=true->tog a b p4=true:=fun g=>aDc.2 (c4.low _ (wm_pres hu z1 z2 (fun _ _ g=>cN.symm g) (aQc hu c3)) _ _ iA iB (aDc.1 g))
 obtain ⟨r,f1,f2⟩:=aUw ha hb fa fb h c4
 obtain ⟨q,g1,g2⟩:=fail_step ha hb fa fb h c2
 obtain ⟨c,m1,m2⟩:=aSX ha hb fa fb h c1
 rw [weak_self ha fa,aA,e1,aA,e2,aA,e3,aA,e4,aA,if_neg (by simp),if_neg (by simp),if_neg (by simp),if_neg (by simp),if_neg (by simp),bne_self_eq_false]
 generalize tog a b p1=s1 at *
 generalize tog a b p2=s2 at *
 generalize tog a b p3=s3 at *
 generalize tog a b p4=s4 at *
 have j2:oH (a,b) (s1,0) false=some true:=by
  unfold oH qM
  rw [if_neg (by simp)]
  show ob (aAZ a b 0) _=_
  rw [m1,aA]
  cases s1 with
  |true=>rw [m2 rfl];rfl
  |false=>cases c<;>rfl
 have j3:oI (a,b) (s1,0) (s2,0) false=some true:=by
  unfold oI
  rw [if_neg (by simp)]
  show ob (oG a b) _=_
  rw [g1,aA]
  by_cases hq:q.2=0
  ·rw [if_pos (by simpa using hq)]
   cases s2 with
   |true=>rw [if_pos rfl,g2 hq rfl];exact j2
   |false=>rw [if_neg (by simp)];exact j2
  ·rw [if_neg (by simpa using hq)];exact j2
 have j4:dP (a,b) (s1,0) (s2,0) (s4,0) false=some true:=by
  unfold dP
  rw [if_neg (by simp)]
  show ob (rS a b) _=_
  rw [f1,aA]
  by_cases hq:r.2.2=0
  ·rw [if_pos (by simpa using hq)]
   cases s4 with
   |true=>rw [if_pos rfl,f2 hq rfl];exact j3
   |false=>rw [if_neg (by simp)];exact j3
  ·rw [if_neg (by simpa using hq)];exact j3
 unfold dQ
 rw [if_neg (by simp)]
 cases s1<;>cases s2<;>cases s3<;>cases s4<;>first|exact j4|(exfalso;simp at k12 k23 k34)
end
theorem lawSpec (cs:aL):aEm cs=some true:=by
 unfold aEm aLQ
 rw [aA]
 split
 ·rfl
 ·obtain ⟨a,b,e,⟨ha,fa⟩,hb,fb⟩:=pair_ok cs
  rw [e,aA]
  exact spec_two ha hb fa fb
end Gv
