/- Steps in systems that may be larger than valid ones. -/
import Derived.Test.YtkcggmmjnpdgnaaGreatDoorJP90
set_option linter.all false
namespace Gv
open Go
structure Hug (u:cB):Prop where
 st:1<=u.N/\u.N<=100
 lab:u.L.length<=100
 ed:u.E.length<=900000
 inn:∀ e∈u.E,lU u e.F/\lU u e.To/\0<=e.B/\e.B < u.L.length
theorem Big.hug {u:cB} (h:Big u):Hug u:=⟨h.st,h.lab,Nat.le_trans h.ed (by decide),h.inn⟩
section
variable {u:cB} {p:List Int}
end
structure aHh (u:cB):Prop where
 big:Hug u
 lab:∃ M,u.L=dV::M/\rD M
section
variable {u:cB}
theorem aHh.edge (h:aHh u) {e:Edge} (he:e∈u.E):aCj u e:=by
 obtain ⟨h1,h2,h3,h4⟩:=h.big.inn e he
 unfold lU at h1 h2
 exact ⟨⟨by omega,by omega⟩,⟨by omega,by omega⟩,h3,by omega⟩
theorem aHh.tau (h:aHh u) {e:Edge} (he:e∈u.E):txt u e=dV<->e.B=0:=by
 obtain ⟨M,hM,hs⟩:=h.lab
 obtain ⟨_,_,h3,h4⟩:=h.big.inn e he
 unfold txt
 rw [hM] at h4 ⊢
 rw [List.length_cons] at h4
 by_cases h0:e.B=0
 ·rw [h0];exact ⟨fun _=>rfl,fun _=>rfl⟩
 ·have:e.B.toNat=(e.B.toNat - 1)+1:=by omega
  rw [this,List.getD_cons_succ,List.getD_eq_getElem?_getD,List.getElem?_eq_getElem (by omega)]
  exact ⟨fun g=>absurd (g ▸ List.getElem_mem _) hs.2,fun g=>absurd g h0⟩
theorem aftT_in (h:aHh u) {S:List Int} {s:aY} {q:Int} (hq:AftT u S s q):lU u q:=by
 obtain ⟨e,he,_,_,rfl⟩:=hq
 exact (h.big.inn e he).2.1
theorem cl_in (h:aHh u) {X:Int->Prop} (h0:∀ q,X q->lU u q) {q:Int} (hq:Cl u X q):lU u q:=by
 induction hq with
 |base h1=>exact h0 _ h1
 |step he _ _ _=>exact (h.big.inn _ he).2.1
theorem followU (h:aHh u) {S:List Int} (hS:S.length < 1000000000) (s:aY):∃ R,mI u S s=some R/\zV R (AftT u S s):=by
 have hed:=h.big.ed
 have hl:((u.E.filter fun e=>txt u e == s&&S.any fun x=>e.F == x).map (·.To)).length<=900000:=by
  rw [List.length_map];exact Nat.le_trans (List.length_filter_le _ _) hed
 refine ⟨lW (srt iLt ((u.E.filter fun e=>txt u e == s&&S.any fun x=>e.F == x).map (·.To))),?_,aJH.iff fun q=>?_⟩
 ·unfold mI
  rw [aDn (step:=fun x:List Int × Int=>gT u S s x.1 x.2) u.E (fun e=>txt u e == s&&S.any fun x=>e.F == x) (·.To) id (fun j out x hj ho hx=>?_) (fun out=>by simp only [gT,eZ];rfl),aA]
  ·unfold nN
   simp only [id]
   rw [aBK (by omega),aA,aHR _ (by unfold srt;rw [List.length_mergeSort];omega),aA]
  ·obtain ⟨hj',rfl⟩:=wZ hx
   simp only [gT,dJ hj,if_pos,hx,aA,aHO (h.edge (List.getElem_mem hj')),aBJ S _ (show S.length < 4611686018427387904 by omega),nP,nO,cS hj (show u.E.length < 4611686018427387904 by omega)]
   rw [dK (by simp [kP];omega),aA]
   cases txt u u.E[j] == s<;>cases (S.any fun x=>u.E[j].F == x)<;>rfl
 ·rw [List.mem_map]
  constructor
  ·rintro ⟨e,he,rfl⟩
   rw [List.mem_filter,Bool.and_eq_true,List.any_eq_true] at he
   obtain ⟨h1,h2,x,hx,h3⟩:=he
   rw [beq_iff_eq] at h2 h3
   exact ⟨e,h1,h2,h3 ▸ hx,rfl⟩
  ·rintro ⟨e,h1,h2,h3,rfl⟩
   refine ⟨e,?_,rfl⟩
   rw [List.mem_filter,Bool.and_eq_true,List.any_eq_true,beq_iff_eq]
   exact ⟨h1,h2,_,h3,by simp⟩
theorem aMB (h:aHh u) {R:List Int} {X:Int->Prop} (hR:zV R X) (h0:∀ q,X q->lU u q):R.length<=100:=by
 have:=h.big.st
 exact hR.len (n:=100) fun q hq=>by
  have:=h0 q hq
  unfold lU at this;omega
theorem aMC (h:aHh u) {xs:List Int} (hn:xs.Nodup) (h0:∀ q∈xs,lU u q):∃ R,mR u xs=some R/\zV R (Cl u (·∈xs)):=by
 have h100:=h.big.st
 have hlen:∀ {o:List Int},o.Nodup->(∀ q∈o,Cl u (·∈xs) q)->o.length<=100:=fun {o} h1 h2=>by
  have:=List.Nodup.length_le_of_subset (l₂:=(List.range 100).map Int.ofNat) h1 (fun x hx=>by
   have:=cl_in h h0 (h2 x hx)
   unfold lU at this
   rw [List.mem_map]
   exact ⟨x.toNat,by rw [List.mem_range];omega,by show ((x.toNat:Nat):Int)=x;omega⟩)
  simpa using this
 have hx0:=hlen hn fun q hq=>.base hq
 have hloop:=oV (step:=fun s:List Int × Int=>iZ u s.1 s.2)
  (fun s=>∃ k:Nat,s.2=(k:Int)/\k<=s.1.length/\s.1.Nodup/\(∀ q∈xs,q∈s.1)/\(∀ q∈s.1,Cl u (·∈xs) q)/\∀ j,(hj:j < s.1.length)->j < k->∀ e∈u.E,e.B=0->e.F=s.1[j]->e.To∈s.1)
  (fun s=>101 - s.2.toNat) (fun r=>r.Nodup/\r.length<=100/\∀ q,q∈r<->Cl u (·∈xs) q) (fun s hI=>?_) (s:=(xs,0)) ⟨0,rfl,Nat.zero_le _,hn,fun _ h=>h,fun q hq=>.base hq,fun j _ h=>by omega⟩
 ·obtain ⟨r,h1,h2,h3,h4⟩:=hloop
  refine ⟨srt iLt r,?_,(aLk h2).iff h4⟩
  unfold mR gJ
  rw [dK (by simp [kP];omega),aA,List.nil_append,aA,h1,aA]
  unfold mY
  rw [aBK (by omega)];rfl
 ·obtain ⟨o,i⟩:=s
  obtain ⟨k,rfl,hk,hnd,hsub,hcl,hdone⟩:=hI
  simp only at hk hnd hsub hcl hdone
  have ho:=hlen hnd hcl
  by_cases hlt:k < o.length
  ·left
   obtain ⟨R,hf,hR⟩:=followU h (S:=[o[k]]) (by simp) dV
   have hRl:R.length<=100:=aMB h hR fun q hq=>aftT_in h hq
   have hin:=vB (step:=fun s:List Int × Int=>gF R s.1 s.2) R (fun j a=>(a,(j:Int))) (fun l a=>l.foldl aEW a) (fun j a=>a.length<=100+j) (fun j a x l hj hx hI=>?_) (fun a _=>by simp only [gF,eZ];rfl) (a:=o) ho
   ·obtain ⟨g1,g2,g3,g4⟩:=aJI R o hnd
    have hcl':∀ q∈R.foldl aEW o,Cl u (·∈xs) q:=fun q hq=>by
     rcases (g3 q).1 hq with g|g
     ·exact hcl q g
     ·obtain ⟨e,he,hl,hfr,rfl⟩:=(hR.mem q).1 g
      simp only [List.mem_singleton] at hfr
      exact .step he ((h.tau he).1 hl) (hfr ▸ hcl _ (List.getElem_mem hlt))
    refine ⟨(R.foldl aEW o,((k+1:Nat):Int)),?_,⟨k+1,rfl,Nat.le_trans hlt g1.length_le,g2,fun q hq=>(g3 q).2 (.inl (hsub q hq)),hcl',fun j hj hjk e he hl hfr=>?_⟩,by simp only;omega⟩
    ·simp only [iZ,dJ hlt,if_pos,cU hlt,aA]
     rw [show ([116,97,117]:aY)=dV from rfl,hf,aA,show loop (fun s:List Int × Int=>gF R s.1 s.2) (o,0)=_ from hin,aA]
     simp only [mZ,qV,cS hlt (show o.length < 4611686018427387904 by omega)]
    ·simp only at hj hfr ⊢
     have hjo:j < o.length:=by omega
     have e1:(R.foldl aEW o)[j]=o[j]:=(g1.getElem hjo).symm
     rw [e1] at hfr
     rw [g3]
     by_cases hjk':j < k
     ·exact .inl (hdone j hjo hjk' e he hl hfr)
     ·obtain rfl:j=k:=by omega
      exact .inr ((hR.mem _).2 ⟨e,he,(h.tau he).2 hl,by simp [hfr],rfl⟩)
   ·left
    have hI':a.length<=100+j:=hI
    simp only [gF,dJ hj,if_pos,hx,aA,aBJ a _ (show a.length < 4611686018427387904 by omega),nA,cS hj (show R.length < 4611686018427387904 by omega)]
    rw [aMp,dK (by simp [kP];omega),aA,List.foldl_cons]
    unfold aEW
    by_cases hm:x∈a
    ·rw [if_pos hm];exact ⟨a,by simp [hm],by omega,rfl⟩
    ·rw [if_neg hm];exact ⟨a++[x],by simp [hm],by simp;omega,rfl⟩
  ·right
   have hke:k=o.length:=by omega
   refine ⟨o,?_,hnd,ho,fun q=>⟨fun hq=>hcl q hq,fun hq=>?_⟩⟩
   ·simp only [iZ,hke,eZ];rfl
   ·induction hq with
    |base g=>exact hsub _ g
    |step he hl _ ih=>
     obtain ⟨j,hj,ej⟩:=List.getElem_of_mem ih
     exact hdone j hj (by omega) _ he hl ej.symm
theorem visibleU (h:aHh u) {S:List Int} (hS:S.length < 1000000000) (s:aY):∃ R,rP u S s=some R/\zV R (Cl u (AftT u S s)):=by
 obtain ⟨R1,f1,f2⟩:=followU h hS s
 have hn:R1.Nodup:=f2.ord.imp fun h=>by omega
 obtain ⟨R,g1,g2⟩:=aMC h hn fun q hq=>aftT_in h ((f2.mem q).1 hq)
 exact ⟨R,by unfold rP;rw [f1,aA,g1];rfl,g2.iff (Cl.iff f2.mem)⟩
theorem wk_in (h:aHh u) {y:Int} (hy:lU u y) {s:aY} {w:Int} (hw:Wk u y s w):lU u w:=by
 unfold Wk at hw
 split at hw
 ·exact cl_in h (fun q hq=>by simp at hq;exact hq ▸ hy) hw
 ·exact cl_in h (fun q hq=>by obtain ⟨e,he,_,_,rfl⟩:=hq;exact (h.big.inn e he).2.1) hw
theorem weaklyU (h:aHh u) {y:Int} (hy:lU u y) (s:aY):∃ R,kY u y s=some R/\zV R (Wk u y s):=by
 obtain ⟨R1,g1,g2⟩:=aMC h (xs:=[y]) (by simp) fun q hq=>by simp at hq;exact hq ▸ hy
 have hl:=aMB h g2 fun q hq=>cl_in h (fun q hq=>by simp at hq;exact hq ▸ hy) hq
 unfold kY
 rw [g1,aA]
 by_cases hs:s=dV
 ·subst hs
  exact ⟨R1,by rw [if_pos (by decide)],g2.iff fun q=>by unfold Wk;rw [if_pos rfl]⟩
 ·obtain ⟨R,f1,f2⟩:=visibleU h (S:=R1) (by omega) s
  refine ⟨R,?_,f2.iff fun q=>?_⟩
  ·have hb:(s == ([116,97,117]:aY))=false:=beq_eq_false_iff_ne.2 hs
   rw [hb,if_neg (by simp)]
   first|exact f1|(rw [f1];rfl)
  ·unfold Wk
   rw [if_neg hs]
   refine Cl.iff (fun q=>?_) q
   unfold AftT
   constructor
   ·rintro ⟨e,a,b,c,d⟩;exact ⟨e,a,b,(g2.mem _).1 c,d⟩
   ·rintro ⟨e,a,b,c,d⟩;exact ⟨e,a,b,(g2.mem _).2 c,d⟩
end
end Gv
namespace Gv
open Go
noncomputable def wkL (u:cB) (k:Int) (s:aY):List Int:=(kY u k s).getD []
noncomputable def satE (u:cB):List Edge:=(List.range u.N.toNat).flatMap fun k:Nat=>(List.range u.L.length).flatMap fun i:Nat=>(wkL u (k:Int) (u.L.getD i [])).map fun w=>(⟨(k:Int),(i:Int),w⟩:Edge)
noncomputable def aDx (u:cB):cB:=⟨u.N,u.I,u.L,satE u⟩
section
variable {u:cB}
theorem aJM (h:aHh u) {k:Int} (hk:lU u k) (s:aY):kY u k s=some (wkL u k s)/\(∀ w,w∈wkL u k s<->Wk u k s w)/\(wkL u k s).length<=u.N.toNat:=by
 obtain ⟨R,e,hR⟩:=weaklyU h hk s
 unfold wkL
 rw [e]
 have:=h.big.st
 refine ⟨rfl,hR.mem,hR.len (n:=u.N.toNat) fun q hq=>?_⟩
 have:=wk_in h hk hq
 unfold lU at this;omega
theorem aLv (h:aHh u) {e:Edge}:e∈satE u<->lU u e.F/\(0<=e.B/\e.B < u.L.length)/\Wk u e.F (u.L.getD e.B.toNat []) e.To:=by
 unfold satE lU
 rw [List.mem_flatMap]
 constructor
 ·rintro ⟨k,hk,he⟩
  obtain ⟨i,hi,he⟩:=List.mem_flatMap.1 he
  obtain ⟨w,hw,rfl⟩:=List.mem_map.1 he
  rw [List.mem_range] at hk hi
  have:=(aJM h (k:=(k:Int)) (by unfold lU;omega) (u.L.getD i [])).2.1 w
  exact ⟨⟨by simp only;omega,by simp only;omega⟩,⟨by simp only;omega,by simp only;omega⟩,this.1 hw⟩
 ·rintro ⟨h1,h2,h3⟩
  refine ⟨e.F.toNat,by rw [List.mem_range];omega,List.mem_flatMap.2 ⟨e.B.toNat,by rw [List.mem_range];omega,List.mem_map.2 ⟨e.To,?_,?_⟩⟩⟩
  ·rw [show ((e.F.toNat:Nat):Int)=e.F by omega]
   exact ((aJM h (show lU u e.F from h1) _).2.1 _).2 h3
  ·rw [show ((e.F.toNat:Nat):Int)=e.F by omega,show ((e.B.toNat:Nat):Int)=e.B by omega]
theorem aKv {γ δ:Type} (f:γ->List δ) (c:Nat):∀ l:List γ,(∀ x∈l,(f x).length<=c)->(l.flatMap f).length<=l.length * c
 |[],_=>by simp
 |x::l,h=>by
  have h1:=aKv f c l fun y hy=>h y (List.mem_cons_of_mem _ hy)
  have h2:=h x List.mem_cons_self
  rw [List.flatMap_cons,List.length_append,List.length_cons,Nat.succ_mul];omega
theorem satE_len (h:aHh u) (h80:u.N<=80) (h30:u.L.length<=30):(satE u).length<=200000:=by
 have hst:=h.big.st
 have e1:∀ k∈List.range u.N.toNat,((List.range u.L.length).flatMap fun i:Nat=>(wkL u ((k:Nat):Int) (u.L.getD i [])).map fun w=>(⟨((k:Nat):Int),(i:Int),w⟩:Edge)).length<=2400:=fun k hk=>by
  rw [List.mem_range] at hk
  have:=aKv (fun i:Nat=>(wkL u ((k:Nat):Int) (u.L.getD i [])).map fun w=>(⟨((k:Nat):Int),(i:Int),w⟩:Edge)) 80 (List.range u.L.length) (fun i _=>by
   rw [List.length_map]
   have:=(aJM h (k:=((k:Nat):Int)) (by unfold lU;omega) (u.L.getD i [])).2.2
   omega)
  rw [List.length_range] at this
  omega
 have:=aKv _ 2400 (List.range u.N.toNat) e1
 rw [List.length_range] at this
 unfold satE
 omega
theorem satU_hug (h:aHh u) (h80:u.N<=80) (h30:u.L.length<=30):Hug (aDx u):=by
 refine ⟨h.big.st,h.big.lab,by have:=satE_len h h80 h30;show (satE u).length<=_;omega,fun e he=>?_⟩
 obtain ⟨h1,h2,h3⟩:=(aLv h).1 he
 exact ⟨h1,wk_in h h1 h3,h2.1,h2.2⟩
theorem aNs (h:aHh u) (h80:u.N<=80) (h30:u.L.length<=30):uH u=some (aDx u):=by
 have hst:=h.big.st
 obtain ⟨n,hn⟩:∃ n:Nat,u.N=(n:Int):=⟨u.N.toNat,by omega⟩
 have in1:∀ (k i:Nat) (o:List Edge),o.length<=10000000->k < n->i < u.L.length->loop (fun s:List Edge × Int=>mF (k:Int) (i:Int) (wkL u (k:Int) (u.L.getD i [])) s.1 s.2) (o,0)=some (o++(wkL u (k:Int) (u.L.getD i [])).map fun w=>(⟨(k:Int),(i:Int),w⟩:Edge)):=fun k i o ho hk hi=>by
  have hw:=(aJM h (k:=(k:Int)) (by unfold lU;omega) (u.L.getD i [])).2.2
  generalize wkL u (k:Int) (u.L.getD i [])=W at hw ⊢
  exact vB (step:=fun s:List Edge × Int=>mF (k:Int) (i:Int) W s.1 s.2) W (fun j (o:List Edge)=>(o,(j:Int))) (fun l o=>o++l.map fun w=>(⟨(k:Int),(i:Int),w⟩:Edge)) (fun j o=>o.length<=10000000+j) (fun j o e l hj hx hI=>by
   left
   obtain ⟨_,rfl⟩:=wZ hx
   refine ⟨o++[⟨(k:Int),(i:Int),W[j]⟩],?_,by simp;omega,by simp [List.append_assoc]⟩
   simp only [mF,dJ hj,if_pos,hx,aA]
   rw [dK (by simp [kP];omega),aA,cS hj (by omega)]) (fun o _=>by simp only [mF,eZ];simp) (a:=o) (by omega)
 have in2:∀ (k:Nat) (o:List Edge),o.length<=8000000->k < n->loop (fun s:List Edge × Int=>mG u (k:Int) s.1 s.2) (o,0)=some (o++(List.range u.L.length).flatMap fun i:Nat=>(wkL u (k:Int) (u.L.getD i [])).map fun w=>(⟨(k:Int),(i:Int),w⟩:Edge)):=fun k o ho hk=>
  vB (step:=fun s:List Edge × Int=>mG u (k:Int) s.1 s.2) (List.range u.L.length) (fun j (o:List Edge)=>(o,(j:Int))) (fun l o=>o++l.flatMap fun i:Nat=>(wkL u (k:Int) (u.L.getD i [])).map fun w=>(⟨(k:Int),(i:Int),w⟩:Edge)) (fun j o=>o.length<=8000000+100 * j) (fun j o e l hj hx hI=>by
   left
   obtain ⟨_,e⟩:=wZ hx
   rw [List.getElem_range] at e
   subst e
   rw [List.length_range] at hj
   obtain ⟨w1,_,w3⟩:=aJM h (k:=(k:Int)) (by unfold lU;omega) (u.L.getD j [])
   refine ⟨o++(wkL u (k:Int) (u.L.getD j [])).map fun w=>(⟨(k:Int),(j:Int),w⟩:Edge),?_,by rw [List.length_append,List.length_map];omega,by rw [List.flatMap_cons,List.append_assoc]⟩
   have hg:u.L.getD j []=u.L[j]:=by rw [List.getD_eq_getElem?_getD,List.getElem?_eq_getElem hj];rfl
   have hi:=in1 k j o (by omega) hk hj
   rw [hg] at w1 hi ⊢
   simp only [mG,dJ hj,if_pos,cU hj,aA,w1,hi,pM,tU,cS hj (show u.L.length < 4611686018427387904 by omega)]) (fun o _=>by
    simp only [mG,List.length_range,eZ];simp) (a:=o) (by omega)
 have in3:loop (fun s:List Edge × Int=>jS u s.1 s.2) (([]:List Edge),0)=some (satE u):=by
  have key:=vB (step:=fun s:List Edge × Int=>jS u s.1 s.2) (List.range n) (fun j (o:List Edge)=>(o,(j:Int))) (fun l o=>o++l.flatMap fun k:Nat=>(List.range u.L.length).flatMap fun i:Nat=>(wkL u (k:Int) (u.L.getD i [])).map fun w=>(⟨(k:Int),(i:Int),w⟩:Edge)) (fun j o=>o.length<=3000 * j) (fun j o e l hj hx hI=>?_) (fun o _=>by
   simp only [jS,hn,List.length_range,eZ];simp) (a:=[]) (by simp)
  ·rw [show loop (fun s:List Edge × Int=>jS u s.1 s.2) (([]:List Edge),0)=_ from key,List.nil_append]
   unfold satE
   rw [hn,Int.toNat_natCast]
  ·left
   obtain ⟨_,e⟩:=wZ hx
   rw [List.getElem_range] at e
   subst e
   rw [List.length_range] at hj
   have hfl:=aKv (fun i:Nat=>(wkL u ((j:Nat):Int) (u.L.getD i [])).map fun w=>(⟨((j:Nat):Int),(i:Int),w⟩:Edge)) 100 (List.range u.L.length) (fun i _=>by
    rw [List.length_map]
    have:=(aJM h (k:=((j:Nat):Int)) (by unfold lU;omega) (u.L.getD i [])).2.2
    omega)
   rw [List.length_range] at hfl
   refine ⟨o++(List.range u.L.length).flatMap fun i:Nat=>(wkL u (j:Int) (u.L.getD i [])).map fun w=>(⟨(j:Int),(i:Int),w⟩:Edge),?_,by rw [List.length_append];omega,by rw [List.flatMap_cons,List.append_assoc]⟩
   simp only [jS,hn,dJ hj,if_pos,in2 j o (show o.length<=8000000 by omega) hj,aA,pL,tT,cS hj (show n < 4611686018427387904 by omega)]
 unfold uH
 have hcl:fY u.L=some u.L:=by
  unfold fY
  rw [dK (by simp [kP];omega),aA,List.nil_append]
 rw [hcl,aA]
 unfold tV
 rw [in3,aA];rfl
end
end Gv
set_option linter.unusedVariables false
set_option linter.unusedSimpArgs false
namespace Gv
open Go
theorem aJo (s:aY) (c0:UInt8) (h:s.length < 1000000000):lG s [c0]=some (if (s.getLast? == some c0)=true then (s.dropLast,true) else (s,false)):=by
 unfold lG hY eM
 rcases List.eq_nil_or_concat s with rfl|⟨l,c,rfl⟩
 ·rfl
 ·have hl:(l.concat c).length=l.length+1:=by simp
  have w:wr (((l.concat c).length:Int) - (([c0]:aY).length:Int))=(l.length:Int):=by
   rw [hl] at h ⊢
   show wr (((l.length+1:Nat):Int) - 1)=_
   rw [dP (by omega) (by omega)];omega
  have s1:slc (l.concat c) (l.length:Int) ((l.concat c).length:Int)=some [c]:=by
   unfold slc;rw [if_pos ⟨by omega,by omega,by simp⟩];simp
  have s2:slc (l.concat c) 0 (l.length:Int)=some l:=by
   unfold slc;rw [if_pos ⟨by omega,by omega,by simp⟩];simp
  rw [if_pos (by simp;omega),w,s1,aA,eW,aA]
  have hg:(l.concat c).getLast?=some c:=by simp
  have hd:(l.concat c).dropLast=l:=by simp
  rw [hg,hd]
  by_cases hc:c=c0
  ·subst hc
   rw [s2];simp
  ·have hc':¬ ([c]:aY)=[c0]:=fun e=>hc (by simpa using e)
   simp [hc]
theorem rdI_name {s nm:aY} {vs:List Int} (h:s.length < 1000000000) (e:vV s=some (nm,vs,true)):nm=(gV 40 s).1:=by
 have j2:∀ r1 v,mK s r1 v=some (nm,vs,true)->nm=r1.1:=fun r1 v e=>by
  have j1:∀ b,oY r1 v b=some (nm,vs,true)->nm=r1.1:=fun b e=>by
   unfold oY at e
   split at e
   ·simp at e
   ·simp at e;exact e.1.symm
  unfold mK at e
  obtain ⟨r,_,e⟩:=aC e
  split at e<;>exact j1 _ e
 unfold vV l_Cut at e
 rw [if_pos (by omega),aA,cut_eq] at e
 simp only at e
 split at e
 ·obtain ⟨x,_,e⟩:=aC e
  obtain ⟨y,_,e⟩:=aC e
  obtain ⟨z,_,e⟩:=aC e
  split at e
  ·simp at e
  ·exact j2 _ _ e
 ·exact j2 _ _ e
theorem LabelI_eq {s:aY} (h:s.length < 1000000000) (hl:zU s=true):aCZ s=some (gV 40 s).1:=by
 have e:=aIH s h
 unfold aEb at e
 obtain ⟨x,hx,e⟩:=aC e
 obtain ⟨nm,vs,b⟩:=x
 rw [hl] at e
 simp at e
 subst e
 unfold aCZ
 rw [hx,aA,rdI_name h hx]
noncomputable def selN (n:dD) (l:aY):Bool:=(pI n l).getD false
theorem aPH {n:dD} {l:aY} (hn:n.B.length < 1000000) (hl:l.length < 1000000) (hb:zU l=true):pI n l=some (selN n l):=by
 have key:∃ b,pI n l=some b:=by
  unfold pI kZ
  rw [aJo _ _ (by omega),aA,LabelI_eq (by omega) hb,aA]
  split
  ·exact ⟨_,rfl⟩
  ·split
   ·exact ⟨_,rfl⟩
   ·split<;>exact ⟨_,rfl⟩
 obtain ⟨b,e⟩:=key
 unfold selN
 rw [e]
 rfl
end Gv
