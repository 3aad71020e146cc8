/- Two systems side by side: the program's and the reference's. -/
import Derived.Test.YtkgakibhmcbflaaGreatDoorJP90
import Derived.Test.YtkgakibhmcbflaaGreatDoorJP50
import Derived.Test.YtkgakibhmcbflaaGreatDoorJP80
set_option linter.all false
namespace Gv
open Go
def unA (a b:cD) (M:List bI):List Edge:=(a.E.map fun e=>(⟨e.F,pos (dH::M) (vE a e),e.To⟩:Edge))++b.E.map fun e=>(⟨e.F+a.N,pos (dH::M) (vE b e),e.To+a.N⟩:Edge)
structure Uni (a b:cD) (M:List bI) (Eo:List Edge):Prop where
 str:oM M
 mem:∀ s,s∈M↔s∈a.L++b.L∧s≠dH
 len:M.length≤24
 se:SE Eo
 ed:∀ x,x∈Eo↔x∈unA a b M
 elen:Eo.length≤600
section
variable {a b:cD}
theorem aAx {t:cD} (hv:cF t) {e:Edge} (he:e∈t.E):vE t e∈t.L:=by
 have:=(nM hv he).2.2
 unfold vE
 rw [List.getD_eq_getElem?_getD,List.getElem?_eq_getElem (by omega)]
 exact List.getElem_mem _
theorem txt_lab {t:cD} (hv:cF t) {e f:Edge} (he:e∈t.E) (hf:f∈t.E) (h:vE t e=vE t f):e.B=f.B:=by
 have h1:=aCq hv he (aAx hv he)
 have h2:=aCq hv hf (aAx hv he)
 rw [beq_self_eq_true] at h1
 rw [h,beq_self_eq_true] at h2
 rw [←h] at h2
 have h1':=beq_iff_eq.1 h1.symm
 have h2':=beq_iff_eq.1 h2.symm
 omega
theorem aJZ {γ:Type} [BEq γ] [LawfulBEq γ] {xs:List γ} {x y:γ} (hx:x∈xs) (hy:y∈xs) (h:pos xs x=pos xs y):x=y:=by
 obtain ⟨i,e1,g1⟩:=aDI hx
 obtain ⟨j,e2,g2⟩:=aDI hy
 have:i=j:=by omega
 subst this
 rw [g1] at g2
 exact Option.some.inj g2
theorem edge_eq {e f:Edge} (h1:e.F=f.F) (h2:e.B=f.B) (h3:e.To=f.To):e=f:=by
 cases e;cases f;simp_all
theorem aJe (ha:cF a) (hb:cF b) {M:List bI} (hm:∀ s,s∈M↔s∈a.L++b.L∧s≠dH):(unA a b M).Nodup:=by
 have hin:∀ s,s∈a.L++b.L→s∈dH::M:=fun s hs=>by
  by_cases e:s=dH
  ·subst e;simp
  ·exact List.mem_cons_of_mem _ ((hm s).2 ⟨hs,e⟩)
 unfold unA
 rw [List.nodup_append]
 refine ⟨?_,?_,fun x hx y hy e=>?_⟩
 ·refine List.Pairwise.map _ (R:=fun e f:Edge=>e∈a.E∧f∈a.E∧e≠f) (fun e f ⟨he,hf,hne⟩ h=>hne ?_) ?_
  ·simp only [Edge.mk.injEq] at h
   exact edge_eq h.1 (txt_lab ha he hf (aJZ (hin _ (by simp [aAx ha he])) (hin _ (by simp [aAx ha hf])) h.2.1)) h.2.2
  ·exact (aHO (aHM ha)).imp_of_mem fun he hf h=>⟨he,hf,h⟩
 ·refine List.Pairwise.map _ (R:=fun e f:Edge=>e∈b.E∧f∈b.E∧e≠f) (fun e f ⟨he,hf,hne⟩ h=>hne ?_) ?_
  ·simp only [Edge.mk.injEq] at h
   exact edge_eq (by omega) (txt_lab hb he hf (aJZ (hin _ (by simp [aAx hb he])) (hin _ (by simp [aAx hb hf])) h.2.1)) (by omega)
  ·exact (aHO (aHM hb)).imp_of_mem fun he hf h=>⟨he,hf,h⟩
 ·obtain ⟨e1,h1,rfl⟩:=List.mem_map.1 hx
  obtain ⟨e2,h2,h3⟩:=List.mem_map.1 hy
  rw [←h3] at e
  simp only [Edge.mk.injEq] at e
  have:=(nM ha h1).1
  have:=(nM hb h2).1
  unfold iG at *
  omega
theorem uni_ex (ha:cF a) (hb:cF b):∃ M Eo,Uni a b M Eo:=by
 have l1:=ha.2.2.1.2.1
 have l2:=hb.2.2.1.2.1
 have h1:=ha.2.2.2.1
 have h2:=hb.2.2.2.1
 obtain ⟨M,_,j2,j3,j4⟩:=aHN (a.L++b.L) (by rw [List.length_append];omega)
 rw [List.length_append] at j4
 have hnd:=aJe ha hb (M:=M) j3
 refine ⟨M,rO cW (unA a b M),j2,j3,by omega,aCC cW wG tL aBL hnd,fun x=>by unfold rO;rw [List.mem_mergeSort],?_⟩
 unfold rO
 rw [List.length_mergeSort]
 unfold unA
 rw [List.length_append,List.length_map,List.length_map];omega
def uniL (a b:cD) (M:List bI) (Eo:List Edge):cD:=⟨a.N+b.N,a.I,dH::M,Eo⟩
theorem aMs (ha:cF a) (hb:cF b) {M:List bI} {Eo:List Edge} (h:Uni a b M Eo):aFe a b=some (uniL a b M Eo):=by
 have s1:=ha.1
 have s2:=hb.1
 have l1:=ha.2.2.1.2.1
 have l2:=hb.2.2.1.2.1
 have h1:=ha.2.2.2.1
 have h2:=hb.2.2.2.1
 unfold aFe
 rw [arcs_eq (fun e he=>sH ha he) (by omega),aB,arcs_eq (fun e he=>sH hb he) (by omega),aB]
 have key:=uH (step:=fun s:List Arc × Int=>wB a (b.E.map fun e=>(⟨e.F,vE b e,e.To⟩:Arc)) s.1 s.2) (b.E.map fun e=>(⟨e.F,vE b e,e.To⟩:Arc)) (fun j (o:List Arc)=>(o,(j:Int)))
  (fun l o=>o++l.map fun x=>(⟨wr (x.from_+a.N),x.label,wr (x.to_+a.N)⟩:Arc)) (fun j o=>o.length≤300+j) (fun j o e l hj hx hI=>?_) (fun o _=>by simp only [wB,eJ];simp) (a:=a.E.map fun e=>(⟨e.F,vE a e,e.To⟩:Arc)) (by rw [List.length_map];omega)
 ·rw [show loop (fun s:List Arc × Int=>wB a (b.E.map fun e=>(⟨e.F,vE b e,e.To⟩:Arc)) s.1 s.2) (a.E.map (fun e=>(⟨e.F,vE a e,e.To⟩:Arc)),0)=_ from key,aB]
  unfold aBp
  rw [aMh _ _ (by omega),aB,fH (by omega) (by omega),List.map_map]
  have e0:((fun x:Arc=>(⟨wr (x.from_+a.N),x.label,wr (x.to_+a.N)⟩:Arc)) ∘ fun e:Edge=>(⟨e.F,vE b e,e.To⟩:Arc))=fun e=>(⟨wr (e.F+a.N),vE b e,wr (e.To+a.N)⟩:Arc):=rfl
  have e1:(b.E.map fun e=>(⟨wr (e.F+a.N),vE b e,wr (e.To+a.N)⟩:Arc))=b.E.map fun e=>(⟨e.F+a.N,vE b e,e.To+a.N⟩:Arc):=by
   refine List.map_congr_left fun e he=>?_
   have:=nM hb he
   unfold iG at this
   rw [fH (by omega) (by omega),fH (by omega) (by omega)]
  have e2:(((a.E.map fun e=>(⟨e.F,vE a e,e.To⟩:Arc))++b.E.map fun e=>(⟨e.F+a.N,vE b e,e.To+a.N⟩:Arc)).map fun x=>(⟨x.from_,pos (dH::M) x.label,x.to_⟩:Edge))=unA a b M:=by
   unfold unA
   rw [List.map_append,List.map_map,List.map_map];rfl
  rw [e0,e1,lts_gen (M:=M) (Eo:=Eo) h.str h.mem (by rw [List.length_append];omega) (by rw [List.length_append,List.length_map,List.length_map];omega) (by rw [e2];exact aJe ha hb h.mem) h.se (fun x=>by rw [e2];exact h.ed x) (by have:=h.len;omega)]
  rfl
 ·left
  rw [List.length_map] at hj
  obtain ⟨hj',rfl⟩:=tK hx
  refine ⟨o++[_],?_,by simp;omega,by simp [List.append_assoc];rfl⟩
  simp only [wB,hx,aB,List.getElem_map]
  rw [if_pos (by rw [List.length_map];exact dE hj),dX (by simp [iX];omega),aB,cO hj (by omega)]
theorem union_ref (ha:cF a) (hb:cF b) {M:List bI} {Eo:List Edge} (h:Uni a b M Eo):aBq a b=some (uniL a b M Eo):=by
 have s1:=ha.1
 have s2:=hb.1
 have l1:=ha.2.2.1.2.1
 have l2:=hb.2.2.1.2.1
 have h1:=ha.2.2.2.1
 have h2:=hb.2.2.2.1
 unfold aBq
 rw [dX (by simp [iX];omega),aB,List.nil_append,dX (by simp [iX];omega),aB,dX (by simp [iX];omega),aB,List.nil_append]
 have key:=uH (step:=fun s:List Edge × Int=>oT a b s.1 s.2) b.E (fun j (o:List Edge)=>(o,(j:Int)))
  (fun l o=>o++l.map fun x=>(⟨wr (x.F+a.N),wr (x.B+(a.L.length:Int)),wr (x.To+a.N)⟩:Edge)) (fun j o=>o.length≤300+j) (fun j o e l hj hx hI=>?_) (fun o _=>by simp only [oT,eJ];simp) (a:=a.E) (by omega)
 ·rw [show loop (fun s:List Edge × Int=>oT a b s.1 s.2) (a.E,0)=_ from key,aB]
  unfold vC
  have e1:(b.E.map fun x=>(⟨wr (x.F+a.N),wr (x.B+(a.L.length:Int)),wr (x.To+a.N)⟩:Edge))=b.E.map fun x=>(⟨x.F+a.N,x.B+(a.L.length:Int),x.To+a.N⟩:Edge):=by
   refine List.map_congr_left fun e he=>?_
   have:=nM hb he
   unfold iG at this
   rw [fH (by omega) (by omega),fH (by omega) (by omega),fH (by omega) (by omega)]
  rw [e1,fH (by omega) (by omega),aKW (M:=M) (Eo:=Eo) (by rw [List.length_append];omega) h.str h.mem (by rw [List.length_append,List.length_map];omega) (fun e he=>?_) h.se (fun x=>?_)]
  ·rfl
  ·rw [List.length_append]
   rcases List.mem_append.1 he with he|he
   ·have:=nM ha he;omega
   ·obtain ⟨e0,h0,rfl⟩:=List.mem_map.1 he
    have:=nM hb h0
    simp only;omega
  ·rw [h.ed x]
   unfold unA
   have ga:∀ e∈a.E,(a.L++b.L).getD e.B.toNat []=vE a e:=fun e he=>by
    have:=nM ha he
    unfold vE
    rw [List.getD_eq_getElem?_getD,List.getD_eq_getElem?_getD,List.getElem?_append_left (by omega)]
   have gb:∀ e∈b.E,(a.L++b.L).getD (e.B+(a.L.length:Int)).toNat []=vE b e:=fun e he=>by
    have:=nM hb he
    unfold vE
    rw [List.getD_eq_getElem?_getD,List.getD_eq_getElem?_getD,List.getElem?_append_right (by omega)]
    congr 2
    omega
   rw [List.mem_append,List.mem_map,List.mem_map]
   constructor
   ·rintro (⟨e,he,rfl⟩|⟨e,he,rfl⟩)
    ·exact ⟨e,List.mem_append_left _ he,by rw [ga e he]⟩
    ·exact ⟨_,List.mem_append_right _ (List.mem_map_of_mem he),by simp only [gb e he]⟩
   ·rintro ⟨e,he,rfl⟩
    rcases List.mem_append.1 he with he|he
    ·exact .inl ⟨e,he,by rw [ga e he]⟩
    ·obtain ⟨e0,h0,rfl⟩:=List.mem_map.1 he
     exact .inr ⟨e0,h0,by simp only [gb e0 h0]⟩
 ·left
  obtain ⟨hj',rfl⟩:=tK hx
  refine ⟨o++[_],?_,by simp;omega,by simp [List.append_assoc];rfl⟩
  simp only [oT,dE hj,if_pos,hx,aB]
  rw [dX (by simp [iX];omega),aB,cO hj (by omega)]
end
end Gv
namespace Gv
open Go
structure Big (u:cD):Prop where
 st:1≤u.N∧u.N≤100
 lab:u.L.length≤100
 ed:u.E.length≤1000
 inn:∀ e∈u.E,iG u e.F∧iG u e.To∧0≤e.B∧e.B < u.L.length
def gP (u:cD) (p:List Int):Prop:=p.length=u.N.toNat∧∀ z∈p,0≤z∧z < u.N
def vl1 (u:cD) (p:List Int) (e:Edge):Int:=e.B * u.N+p.getD e.To.toNat 0
def sg1 (u:cD) (p:List Int) (k:Nat):List Int:=iQ (rO iLt ((u.E.filter fun e=>e.F == (k:Int)).map (vl1 u p)))
def ky1 (u:cD) (p:List Int):List (List Int):=(List.range u.N.toNat).map fun k=>p.getD k 0::sg1 u p k
section
variable {u:cD} {p:List Int}
theorem sg1_mem {k:Nat} {z:Int}:z∈sg1 u p k↔∃ e∈u.E,e.F=(k:Int)∧vl1 u p e=z:=by
 unfold sg1
 rw [aGd.mem,List.mem_map]
 constructor
 ·rintro ⟨e,he,h⟩
  rw [List.mem_filter,beq_iff_eq] at he
  exact ⟨e,he.1,he.2,h⟩
 ·rintro ⟨e,h1,h2,h⟩
  exact ⟨e,by rw [List.mem_filter,beq_iff_eq];exact ⟨h1,h2⟩,h⟩
theorem sg1_len (k:Nat):(sg1 u p k).length≤u.E.length:=by
 unfold sg1
 have h1:=aCr (rO iLt ((u.E.filter fun e=>e.F == (k:Int)).map (vl1 u p)))
 unfold rO at h1 ⊢
 rw [List.length_mergeSort,List.length_map] at h1
 exact Nat.le_trans h1 (List.length_filter_le _ _)
theorem aFD:(ky1 u p).length=u.N.toNat:=by unfold ky1;rw [List.length_map,List.length_range]
theorem aGP {k:Nat} (h:k < u.N.toNat):(ky1 u p)[k]?=some (p.getD k 0::sg1 u p k):=by unfold ky1;rw [List.getElem?_map,List.getElem?_range h];rfl
theorem nF (hp:gP u p) {s:Int} (h:iG u s):ix p s=some (p.getD s.toNat 0)∧0≤p.getD s.toNat 0∧p.getD s.toNat 0 < u.N:=by
 unfold iG at h
 have hl:s.toNat < p.length:=by rw [hp.1];omega
 have e:p.getD s.toNat 0=p[s.toNat]:=by rw [List.getD_eq_getElem?_getD,List.getElem?_eq_getElem hl];rfl
 rw [e]
 exact ⟨aDX h.1 hl,hp.2 _ (List.getElem_mem hl)⟩
theorem mul_b {l m s n:Int} (h1:0≤l) (h2:l≤m) (h3:0≤s) (h4:s≤n):0≤l * s∧l * s≤m * n:=
 ⟨Int.mul_nonneg h1 h3,Int.mul_le_mul h2 h4 h3 (by omega)⟩
theorem vl1_wr (hu:Big u) (hp:gP u p) {e:Edge} (he:e∈u.E):wr (wr (e.B * u.N)+p.getD e.To.toNat 0)=vl1 u p e:=by
 have h1:=hu.inn e he
 have h2:=(nF hp h1.2.1).2
 have h3:=hu.st
 have h4:=hu.lab
 have h5:=mul_b (l:=e.B) (m:=100) (s:=u.N) (n:=100) h1.2.2.1 (by omega) (by omega) (by omega)
 unfold vl1
 rw [fH (x:=e.B * u.N) (by omega) (by omega),fH (by omega) (by omega)]
theorem vl1_inj (hu:Big u) (hp:gP u p) {e f:Edge} (he:e∈u.E) (hf:f∈u.E) (h:vl1 u p e=vl1 u p f):e.B=f.B∧p.getD e.To.toNat 0=p.getD f.To.toNat 0:=by
 have h1:=(nF hp (hu.inn e he).2.1).2
 have h2:=(nF hp (hu.inn f hf).2.1).2
 have h3:=hu.st
 unfold vl1 at h
 have key:∀ (a b x y n:Int),0≤x→x < n→0≤y→y < n→a * n+x=b * n+y→¬ a < b:=by
  intro a b x y n hx hx' hy hy' h hlt
  have h5:(a+1) * n≤b * n:=Int.mul_le_mul_of_nonneg_right (by omega) (by omega)
  rw [Int.add_mul] at h5
  omega
 have n1:=key _ _ _ _ _ h1.1 h1.2 h2.1 h2.2 h
 have n2:=key _ _ _ _ _ h2.1 h2.2 h1.1 h1.2 h.symm
 have:e.B=f.B:=by omega
 refine ⟨this,?_⟩
 rw [this] at h;omega
theorem set_range {γ:Type} (n:Nat) (g:Nat→γ) (j:Nat) (v:γ):((List.range n).map g).set j v=(List.range n).map fun k=>if k=j then v else g k:=by
 apply List.ext_getElem?
 intro i
 rw [List.getElem?_set,List.getElem?_map,List.getElem?_map]
 by_cases hi:i < n
 ·rw [List.getElem?_range hi]
  by_cases hj:j=i
  ·subst hj;simp [hi]
  ·rw [if_neg hj];simp [show ¬ i=j from fun e=>hj e.symm]
 ·rw [List.getElem?_eq_none (l:=List.range n) (by simp;omega)]
  by_cases hj:j=i
  ·subst hj;simp [hi]
  ·rw [if_neg hj];rfl
theorem aIc {γ:Type} {n:Nat} {g:Nat→γ} {j:Int} {v:γ} (h:0≤j∧j < n):Gv.st ((List.range n).map g) j v=some ((List.range n).map fun k=>if k=j.toNat then v else g k):=by
 unfold Gv.st
 rw [if_pos ⟨h.1,by rw [List.length_map,List.length_range];omega⟩,set_range]
theorem aFE {γ:Type} {n:Nat} {g:Nat→γ} {j:Int} (h:0≤j∧j < n):ix ((List.range n).map g) j=some (g j.toNat):=by
 rw [aDX h.1 (by rw [List.length_map,List.length_range];omega)];simp
theorem rep_range {γ:Type} (n:Nat) (v:γ):List.replicate n v=(List.range n).map fun _=>v:=by
 apply List.ext_getElem<;>simp
theorem aLi (hu:Big u) (hp:gP u p):loop (fun s:List (List Int) × Int=>jM p s.1 s.2) ((List.range u.N.toNat).map fun _=>[],0)=some ((List.range u.N.toNat).map fun k=>[p.getD k 0]):=by
 have h3:=hu.st
 have key:=dI (step:=fun s:List (List Int) × Int=>jM p s.1 s.2) u.N.toNat (fun k (o:List (List Int))=>(o,(k:Int))) (fun i o=>o=(List.range u.N.toNat).map fun k=>if k < i then [p.getD k 0] else []) (fun r=>r=(List.range u.N.toNat).map fun k=>[p.getD k 0]) (fun k o hk hI=>?_) (fun o hI=>?_) u.N.toNat 0 ((List.range u.N.toNat).map fun _=>[]) (by omega) (by simp)
 ·obtain ⟨r,h1,rfl⟩:=key
  exact h1
 ·subst hI
  have hg:=(nF hp (s:=(k:Int)) (by unfold iG;omega)).1
  refine ⟨_,?_,rfl⟩
  show jM p _ (k:Int)=_
  unfold jM
  rw [if_pos (by rw [hp.1];exact dE hk),hg,aB,aFE (by omega),aB,aIc (by omega),aB,cO hk (by omega)]
  congr 3
  refine List.map_congr_left fun i _=>?_
  by_cases e:i=k
  ·subst e;simp
  ·by_cases h:i < k
   ·simp [e,h,show i < k+1 by omega]
   ·simp [e,h,show ¬ i < k+1 by omega]
 ·subst hI
  refine ⟨_,?_,rfl⟩
  show jM p _ ((u.N.toNat:Nat):Int)=_
  unfold jM
  rw [if_neg (by rw [hp.1];simp)]
  congr 2
  refine List.map_congr_left fun i hi=>?_
  rw [List.mem_range] at hi
  rw [if_pos hi]
theorem aLj (hu:Big u) (hp:gP u p):loop (fun s:List (List Int) × Int=>jL u p s.1 s.2) ((List.range u.N.toNat).map fun _=>[],0)=some ((List.range u.N.toNat).map fun k:Nat=>(u.E.filter fun e=>e.F == (k:Int)).map (vl1 u p)):=by
 have h3:=hu.st
 have h5:=hu.ed
 have key:=dI (step:=fun s:List (List Int) × Int=>jL u p s.1 s.2) u.E.length (fun k (o:List (List Int))=>(o,(k:Int))) (fun i o=>o=(List.range u.N.toNat).map fun k:Nat=>((u.E.take i).filter fun e=>e.F == (k:Int)).map (vl1 u p)) (fun r=>r=(List.range u.N.toNat).map fun k:Nat=>(u.E.filter fun e=>e.F == (k:Int)).map (vl1 u p)) (fun i o hi hI=>?_) (fun o hI=>?_) u.E.length 0 ((List.range u.N.toNat).map fun _=>[]) (by omega) (by simp)
 ·obtain ⟨r,h1,rfl⟩:=key
  exact h1
 ·subst hI
  have he:=List.getElem_mem hi
  have hin:=hu.inn _ he
  have hF:=hin.1
  unfold iG at hF
  have hg:=(nF hp hin.2.1).1
  have hl:(((u.E.take i).filter fun e=>e.F == (u.E[i].F.toNat:Int)).map (vl1 u p)).length≤1000:=by
   rw [List.length_map]
   refine Nat.le_trans (List.length_filter_le _ _) ?_
   rw [List.length_take];omega
  refine ⟨_,?_,rfl⟩
  show jL u p _ (i:Int)=_
  unfold jL
  rw [if_pos (dE hi),cV hi,aB,aFE (by omega),aB,hg,aB,vl1_wr hu hp he,dX (by simp only [iX,List.length_singleton];omega),aB,aIc (by omega),aB]
  unfold vP
  rw [cO hi (by omega)]
  congr 3
  refine List.map_congr_left fun k _=>?_
  have e0:u.E.take (i+1)=u.E.take i++[u.E[i]]:=by rw [List.take_add_one,List.getElem?_eq_getElem hi];rfl
  rw [e0,List.filter_append,List.map_append,List.filter_cons,List.filter_nil]
  by_cases e:k=u.E[i].F.toNat
  ·subst e
   have:(u.E[i].F == ((u.E[i].F.toNat:Nat):Int))=true:=by rw [beq_iff_eq];omega
   rw [if_pos rfl,if_pos this];rfl
  ·have:¬ (u.E[i].F == (k:Int))=true:=by rw [beq_iff_eq];omega
   rw [if_neg e,if_neg this,List.map_nil,List.append_nil]
 ·subst hI
  refine ⟨_,?_,rfl⟩
  show jL u p _ (u.E.length:Int)=_
  unfold jL
  rw [if_neg (by simp),List.take_length]
theorem refine_eq (hu:Big u) (hp:gP u p):xU u p=some (cn (ky1 u p)):=by
 have h3:=hu.st
 have h5:=hu.ed
 have hm:mkz u.N ([]:List Int)=some ((List.range u.N.toNat).map fun _=>[]):=by
  unfold mkz
  rw [if_pos ⟨by omega,by unfold iX;omega⟩,rep_range]
 unfold xU
 rw [hm,aB,aLi hu hp,aB]
 unfold rC
 rw [hm,aB,aLj hu hp,aB]
 unfold rB
 have key:=dI (step:=fun s:List (List Int) × Nat × Int=>jK ((List.range u.N.toNat).map fun k:Nat=>(u.E.filter fun e=>e.F == (k:Int)).map (vl1 u p)) s.1 s.2.1 s.2.2) u.N.toNat (fun k (o:List (List Int))=>(o,k,(k:Int))) (fun i o=>o=(List.range u.N.toNat).map fun k=>if k < i then p.getD k 0::sg1 u p k else [p.getD k 0]) (fun r=>r=ky1 u p) (fun i o hi hI=>?_) (fun o hI=>?_) u.N.toNat 0 ((List.range u.N.toNat).map fun k=>[p.getD k 0]) (by omega) (by simp)
 ·obtain ⟨r,h1,rfl⟩:=key
  have h1':loop (fun s:List (List Int) × Nat × Int=>jK ((List.range u.N.toNat).map fun k:Nat=>(u.E.filter fun e=>e.F == (k:Int)).map (vl1 u p)) s.1 s.2.1 s.2.2) ((List.range u.N.toNat).map fun k=>[p.getD k 0],0,0)=some (ky1 u p):=h1
  rw [h1',aB]
  unfold rA
  rw [aIv _ (by rw [aFD];omega) (fun x hx=>?_),aB]
  unfold ky1 at hx
  obtain ⟨k,_,rfl⟩:=List.mem_map.1 hx
  have:=sg1_len (u:=u) (p:=p) k
  rw [List.length_cons];omega
 ·subst hI
  have hfl:((u.E.filter fun e=>e.F == (i:Int)).map (vl1 u p)).length≤1000:=by
   rw [List.length_map]
   exact Nat.le_trans (List.length_filter_le _ _) h5
  have hsl:=sg1_len (u:=u) (p:=p) i
  refine ⟨_,?_,rfl⟩
  show jK _ _ i (i:Int)=_
  unfold jK tkN
  rw [if_pos (by rw [List.length_map,List.length_range];exact dE hi),aFE (by omega),aB,if_pos (by omega),aB,Int.toNat_natCast,aAV (by omega),aB,aFE (by omega),aB,aDr _ (by unfold rO;rw [List.length_mergeSort];omega),aB,Int.toNat_natCast,if_neg (by omega)]
  have e0:iQ (rO iLt ((u.E.filter fun e=>e.F == (i:Int)).map (vl1 u p)))=sg1 u p i:=rfl
  rw [e0,dX (by simp only [iX,List.length_singleton];omega),aB,aIc (by omega),aB]
  unfold vO
  rw [cO hi (by omega)]
  congr 3
  refine List.map_congr_left fun k _=>?_
  by_cases e:k=i
  ·subst e;simp
  ·by_cases h:k < i
   ·simp [e,h,show k < i+1 by omega]
   ·simp [e,h,show ¬ k < i+1 by omega]
 ·subst hI
  refine ⟨_,?_,rfl⟩
  show jK _ _ u.N.toNat ((u.N.toNat:Nat):Int)=_
  unfold jK
  rw [if_neg (by rw [List.length_map,List.length_range];simp)]
  unfold ky1
  congr 2
  refine List.map_congr_left fun i hi=>?_
  rw [List.mem_range] at hi
  rw [if_pos hi]
theorem aKc (hu:Big u) {κ:Type} [DecidableEq κ] [BEq κ] [LawfulBEq κ] {l:List κ} (h:l.length=u.N.toNat):gP u (cn l):=by
 have:=hu.st
 refine ⟨by rw [yV,h],fun z hz=>?_⟩
 have:=cn_in hz
 omega
theorem aLk {l:List Int} {i j:Nat} (hi:i < l.length) (hj:j < l.length):l.getD i 0=l.getD j 0↔l[i]?=l[j]?:=by
 rw [List.getD_eq_getElem?_getD,List.getD_eq_getElem?_getD,List.getElem?_eq_getElem hi,List.getElem?_eq_getElem hj]
 simp
theorem aMt (hp:p.length=u.N.toNat):aEG (cn (ky1 u p)) p:=
 aGo (by rw [aFD,hp]) fun x y hx hy h=>by
  rw [aGP (by omega),aGP (by omega),Option.some.injEq,List.cons.injEq] at h
  exact (aLk hx hy).1 h.1
theorem aLl (hu:Big u):∃ p,uC u=some p∧gP u p∧cn (ky1 u p)=p:=by
 have h3:=hu.st
 unfold uC aFg aFf
 have hm:mkz u.N (0:Int)=some (List.replicate u.N.toNat 0):=by
  unfold mkz
  rw [if_pos ⟨by omega,by unfold iX;omega⟩]
 rw [hm,aB,aB]
 have hh:∀ q:List Int,(oU q u.N.toNat).length≤100:=fun q=>Nat.le_trans (aJa q _) (by omega)
 have key:=aEH (step:=fun s:List (List Int)=>wS u s) u.N.toNat (fun p s=>(∃ l,s=l++[p])∧s.length≤(oU p u.N.toNat).length∧gP u p) (fun r=>∃ l p,r=l++[p]∧gP u p∧cn (ky1 u p)=p∧r.length≤100) (fun p s hl hc hI=>?_) (List.replicate u.N.toNat 0) [List.replicate u.N.toNat 0] (by simp) (aHT _) ⟨⟨[],rfl⟩,?_,?_⟩
 ·obtain ⟨r,h1,l,p,rfl,hp,hst,hl⟩:=key
  rw [h1,aB,aB]
  unfold vM
  rw [List.length_append,List.length_singleton] at hl
  have hw:wr ((((l++[p]).length:Nat):Int) - 1)=((l.length:Nat):Int):=by
   rw [List.length_append,List.length_singleton,fH (by omega) (by omega)];omega
  refine ⟨p,?_,hp,hst⟩
  rw [hw,aCs,List.getElem?_append_right (Nat.le_refl _),Nat.sub_self]
  rfl
 ·obtain ⟨⟨l,rfl⟩,hlen,hp⟩:=hI
  have hb:=hh p
  rw [List.length_append,List.length_singleton] at hlen
  have hw:wr ((((l++[p]).length:Nat):Int) - 1)=((l.length:Nat):Int):=by
   rw [List.length_append,List.length_singleton,fH (by omega) (by omega)];omega
  have hsp:=aMt (u:=u) hl
  have hcc:cn (cn (ky1 u p))=cn (ky1 u p):=cn_cn _
  have hstep:wS u (l++[p])=if decide (p=cn (ky1 u p))=true then some (.inr (l++[p])) else some (.inl (l++[p]++[cn (ky1 u p)])):=by
   unfold wS
   rw [hw,aCs,List.getElem?_append_right (Nat.le_refl _),Nat.sub_self]
   show ob (some p) _=_
   rw [aB,refine_eq hu hp,aB,aIY _ _ (by rw [hl];omega),aB,dX (by simp only [iX,List.length_append,List.length_singleton];omega),aB]
  rw [hstep]
  by_cases e:p=cn (ky1 u p)
  ·left
   rw [if_pos (by simpa using e)]
   exact ⟨_,rfl,l,p,rfl,hp,e.symm,by rw [List.length_append,List.length_singleton];omega⟩
  ·right
   rw [if_neg (by simpa using e)]
   have hmore:=(aDt hc hcc hsp).resolve_left (fun h=>e h.symm)
   rw [hl] at hmore
   refine ⟨_,_,hsp,hcc,fun h=>e h.symm,rfl,⟨l++[p],rfl⟩,?_,aKc hu aFD⟩
   rw [List.length_append,List.length_append,List.length_singleton,List.length_singleton];omega
 ·have:0∈oU (List.replicate u.N.toNat (0:Int)) u.N.toNat:=by
   unfold oU
   rw [List.mem_filter,List.mem_range,decide_eq_true_iff]
   exact ⟨by omega,fun k hk=>by omega⟩
  exact List.length_pos_of_mem this
 ·exact ⟨by simp,fun z hz=>by rw [List.mem_replicate] at hz;omega⟩
end
end Gv
namespace Gv
open Go
section
variable {a b:cD}
theorem aDM {M:List bI} {Eo:List Edge} (h:Uni a b M Eo) {s:bI} (hs:s∈a.L∨s∈b.L):s∈dH::M:=by
 by_cases e:s=dH
 ·subst e;simp
 ·exact List.mem_cons_of_mem _ ((h.mem s).2 ⟨by simpa using hs,e⟩)
theorem aKd {γ:Type} [BEq γ] [LawfulBEq γ] {xs:List γ} {x:γ} (hx:x∈xs):0≤pos xs x∧pos xs x < xs.length:=by
 obtain ⟨i,e,g⟩:=aDI hx
 have:=(List.getElem?_eq_some_iff.1 g).1
 omega
theorem uni_big (ha:cF a) (hb:cF b) {M:List bI} {Eo:List Edge} (h:Uni a b M Eo):Big (uniL a b M Eo):=by
 have s1:=ha.1
 have s2:=hb.1
 have hl:=h.len
 have he:=h.elen
 refine ⟨by show 1≤a.N+b.N∧a.N+b.N≤100;omega,by show (dH::M).length≤100;rw [List.length_cons];omega,by show Eo.length≤1000;omega,fun e hE=>?_⟩
 have hE':=(h.ed e).1 hE
 unfold unA at hE'
 show (0≤e.F∧e.F < a.N+b.N)∧(0≤e.To∧e.To < a.N+b.N)∧0≤e.B∧e.B < ((dH::M).length:Int)
 rcases List.mem_append.1 hE' with g|g
 ·obtain ⟨f,hf,rfl⟩:=List.mem_map.1 g
  have h1:=nM ha hf
  have h2:=aKd (aDM h (.inl (aAx ha hf)))
  unfold iG at h1
  simp only;omega
 ·obtain ⟨f,hf,rfl⟩:=List.mem_map.1 g
  have h1:=nM hb hf
  have h2:=aKd (aDM h (.inr (aAx hb hf)))
  unfold iG at h1
  simp only;omega
theorem aGp {u:cD} (hu:Big u) {p:List Int} (hp:gP u p) (hst:cn (ky1 u p)=p) {x y:Int} (hx:iG u x) (hy:iG u y) (h:p.getD x.toNat 0=p.getD y.toNat 0) {e:Edge} (he:e∈u.E) (hex:e.F=x):
  ∃ f∈u.E,f.F=y∧f.B=e.B∧p.getD e.To.toNat 0=p.getD f.To.toNat 0:=by
 unfold iG at hx hy
 have h3:=hu.st
 have hl:=hp.1
 have h':p[x.toNat]?=p[y.toNat]?:=(aLk (by omega) (by omega)).1 h
 rw [←hst] at h'
 have hk:=(cn_ker (ky1 u p)).2 x.toNat y.toNat (by rw [yV,aFD];omega) (by rw [yV,aFD];omega)
 have h2:=hk.1 h'
 rw [aGP (by omega),aGP (by omega),Option.some.injEq,List.cons.injEq] at h2
 have hm:vl1 u p e∈sg1 u p x.toNat:=sg1_mem.2 ⟨e,he,by omega,rfl⟩
 rw [h2.2,sg1_mem] at hm
 obtain ⟨f,hf,hfy,hv⟩:=hm
 have:=vl1_inj hu hp hf he hv
 exact ⟨f,hf,by omega,this.1,this.2.symm⟩
theorem aLm (ha:cF a) (hb:cF b) (fa:oL 999999999 a) (fb:oL 999999999 b):∃ c,pT a b=some (c,0)∧(c=true→smG a b 1 a.I b.I=true):=by
 have s1:=ha.1
 have s2:=hb.1
 have hai:=ha.2.1
 have hbi:=hb.2.1
 obtain ⟨M,Eo,h⟩:=uni_ex ha hb
 have hu:=uni_big ha hb h
 obtain ⟨p,hs,hp,hst⟩:=aLl hu
 have iA:∀ x,iG a x→iG (uniL a b M Eo) x:=fun x hx=>by
  unfold iG at *
  show 0≤x∧x < a.N+b.N
  omega
 have iB:∀ y,iG b y→iG (uniL a b M Eo) (a.N+y):=fun y hy=>by
  unfold iG at *
  show 0≤a.N+y∧a.N+y < a.N+b.N
  omega
 have ia:iG a a.I:=by unfold iG;omega
 have ib:iG b b.I:=by unfold iG;omega
 unfold pT aCv
 rw [wY a fa,aGa ha,aB,if_neg (by simp),wY b fb,aGa hb,aB]
 unfold vB aJD
 rw [if_neg (by simp),aMs ha hb h,aB,show uC ⟨(uniL a b M Eo).N,(uniL a b M Eo).I,(uniL a b M Eo).L,(uniL a b M Eo).E⟩=_ from hs,aB,aB]
 unfold sF
 rw [(nF hp (iA _ ia)).1,aB,fH (by omega) (by omega),(nF hp (iB _ ib)).1,aB,aB,aB]
 refine ⟨_,rfl,fun hc=>?_⟩
 rw [beq_iff_eq] at hc
 refine sm_bisim ha hb (R:=fun x y=>decide (p.getD x.toNat 0=p.getD (a.N+y).toNat 0)) (fun x y hx hy hR e he hex=>?_) (fun x y hx hy hR f hf hfy=>?_) ia ib (by simpa using hc)
 ·rw [decide_eq_true_iff] at hR
  have he':(⟨e.F,pos (dH::M) (vE a e),e.To⟩:Edge)∈Eo:=(h.ed _).2 (by unfold unA;exact List.mem_append_left _ (List.mem_map_of_mem he))
  obtain ⟨g,hg,g1,g2,g3⟩:=aGp hu hp hst (iA x hx) (iB y hy) hR he' hex
  have hg':=(h.ed g).1 hg
  unfold unA at hg'
  unfold iG at hx hy
  rcases List.mem_append.1 hg' with k|k
  ·obtain ⟨f,hf,rfl⟩:=List.mem_map.1 k
   have:=(nM ha hf).1
   unfold iG at this
   simp only at g1;omega
  ·obtain ⟨f,hf,rfl⟩:=List.mem_map.1 k
   refine ⟨f,hf,by simp only at g1;omega,?_,?_⟩
   ·exact aJZ (aDM h (.inr (aAx hb hf))) (aDM h (.inl (aAx ha he))) g2
   ·rw [decide_eq_true_iff,Int.add_comm a.N]
    exact g3
 ·rw [decide_eq_true_iff] at hR
  have hf':(⟨f.F+a.N,pos (dH::M) (vE b f),f.To+a.N⟩:Edge)∈Eo:=(h.ed _).2 (by unfold unA;exact List.mem_append_right _ (List.mem_map_of_mem hf))
  obtain ⟨g,hg,g1,g2,g3⟩:=aGp hu hp hst (iB y hy) (iA x hx) hR.symm hf' (by simp only;omega)
  have hg':=(h.ed g).1 hg
  unfold unA at hg'
  unfold iG at hx hy
  rcases List.mem_append.1 hg' with k|k
  ·obtain ⟨e,he,rfl⟩:=List.mem_map.1 k
   exact ⟨e,he,g1,aJZ (aDM h (.inl (aAx ha he))) (aDM h (.inr (aAx hb hf))) g2⟩
  ·obtain ⟨e,he,rfl⟩:=List.mem_map.1 k
   have:=(nM hb he).1
   unfold iG at this
   simp only at g1;omega
end
end Gv
namespace Gv
open Go
theorem anU_le (x:Int):0≤anU x 255∧anU x 255≤255:=by
 unfold anU
 have h:(BitVec.ofInt 64 x&&& BitVec.ofInt 64 255).toNat≤255:=by
  rw [BitVec.toNat_and]
  exact Nat.le_trans Nat.and_le_right (by decide)
 unfold qC
 omega
theorem shU_ok (x:Int):∃ y,shU x 40=some y:=⟨_,by unfold shU;rw [if_pos (by decide)]⟩
theorem byte_le (b:UInt8):0≤(b.toNat:Int)∧(b.toNat:Int)≤255:=by
 have:=b.toNat_lt
 omega
theorem next_ok (c:bI) {s1:Int} (s2:Int) (h:0≤s1∧s1≤1000000000000):∃ v s2',rU c s1 s2=some (v,s1+1,s2')∧0≤v∧v≤255:=by
 have hw:wr (s1+1)=s1+1:=fH (by omega) (by omega)
 have key:∀ b:Int,0≤b∧b≤255→∃ v s2',mJ c s1 s2 b=some (v,s1+1,s2')∧0≤v∧v≤255:=by
  intro b hb
  unfold mJ
  rw [hw]
  split
  ·exact ⟨_,_,rfl,hb⟩
  ·obtain ⟨y,hy⟩:=shU_ok (qC ((qC ((qC (s2 * 6364136223846793005))+(qC b)))+1442695040888963407))
   rw [hy,aB]
   have h2:=anU_le y
   refine ⟨_,_,rfl,?_⟩
   rw [fH (by omega) (by omega)];exact h2
 unfold rU
 split
 ·rename_i hlt
  have hlt':s1 < (c.length:Int):=by simpa using hlt
  rw [aDX h.1 (by omega),aB]
  have hb:=byte_le (c[s1.toNat]'(by omega))
  rw [fH (by omega) (by omega)]
  exact key _ hb
 ·exact key 0 (by omega)
theorem rm_ok {x n:Int} (hx:0≤x) (hn:1≤n):∃ v,rm x n=some v∧0≤v∧v < n:=by
 unfold rm
 rw [if_neg (by omega)]
 have e:x.tmod n=x % n:=Int.tmod_eq_emod_of_nonneg hx
 have h1:=Int.emod_nonneg x (show n≠0 by omega)
 have h2:=Int.emod_lt_of_pos x (show 0 < n by omega)
 first
  |exact ⟨_,rfl,by rw [e];exact h1,by rw [e];exact h2⟩
  |exact ⟨_,rfl,by rw [e,fH]<;>omega,by rw [e,fH]<;>omega⟩
theorem jP (c:bI) {s1 n:Int} (s2:Int) (h:0≤s1∧s1≤100000000000) (hn:1≤n):∃ v s1' s2',cL c s1 s2 n=some (v,s1',s2')∧(0≤v∧v < n)∧s1≤s1'∧s1'≤s1+2:=by
 unfold cL
 by_cases h1:n≤1
 ·rw [if_pos (by simpa using h1)]
  exact ⟨_,_,_,rfl,by omega,by omega,by omega⟩
 ·rw [if_neg (by simpa using h1)]
  obtain ⟨v,t2,e,g1,g2⟩:=next_ok c s2 (s1:=s1) (by omega)
  rw [e,aB]
  simp only
  have key:∀ x a b:Int,0≤x→s1≤a→a≤s1+2→∃ v s1' s2',mK n x a b=some (v,s1',s2')∧(0≤v∧v < n)∧s1≤s1'∧s1'≤s1+2:=by
   intro x a b hx ha hb
   unfold mK
   obtain ⟨y,hy,q1,q2⟩:=rm_ok hx (show 1≤n by omega)
   rw [hy,aB]
   exact ⟨_,_,_,rfl,⟨q1,q2⟩,ha,hb⟩
  by_cases h2:200 < n
  ·rw [if_pos (by simpa using h2)]
   obtain ⟨v',t2',e',g1',g2'⟩:=next_ok c t2 (s1:=s1+1) (by omega)
   rw [e',aB]
   simp only
   rw [fH (x:=v * 256) (by omega) (by omega),fH (by omega) (by omega)]
   exact key _ _ _ (by omega) (by omega) (by omega)
  ·rw [if_neg (by simpa using h2)]
   exact key _ _ _ g1 (by omega) (by omega)
theorem aDu (c:bI) {s1 n:Int} (s2:Int) (h:0≤s1∧s1≤100000000000) (hn:1≤n):∃ b s1' s2',jH c s1 s2 n=some (b,s1',s2')∧s1≤s1'∧s1'≤s1+2:=by
 obtain ⟨v,a,b,e,_,h2,h3⟩:=jP c s2 h hn
 unfold jH
 rw [e,aB]
 exact ⟨_,_,_,rfl,h2,h3⟩
theorem among_ok (c:bI) {s1:Int} (s2:Int) (h:0≤s1∧s1≤100000000000) {l:List Int} (hl:l≠[]):∃ v s1' s2',sW c s1 s2 l=some (v,s1',s2')∧v∈l∧s1≤s1'∧s1'≤s1+2:=by
 have h1:1≤(l.length:Int):=by
  have:=List.length_pos_iff.2 hl
  omega
 obtain ⟨v,a,b,e,hv,h2,h3⟩:=jP c s2 h h1
 unfold sW
 rw [e,aB]
 simp only
 rw [aDX hv.1 (by omega),aB]
 exact ⟨_,_,_,rfl,List.getElem_mem _,h2,h3⟩
end Gv
namespace Gv
open Go
def Nm:List bI:=[dH,[97],[98],[99],[103,101,116,40,48,41],[103,101,116,40,49,41]]
theorem Nm_lab:∀ s∈Nm,aFq s=true:=by decide
theorem Nm_len:∀ s∈Nm,s.length≤6:=by decide
structure Drn (c:Nat) (t:cD):Prop where
 ok:cF t
 nm:∀ s∈t.L,s∈Nm
 st:t.N≤10
 ed:t.E.length≤c
theorem Drn.fits {c:Nat} {t:cD} (h:Drn c t):oL 999999999 t:=by
 have h1:=h.ok.2.2.1.2.1
 have h2:=h.ok.2.2.2.1
 refine ⟨by omega,fun s hs=>?_,by omega⟩
 have:=Nm_len s (h.nm s hs)
 omega
theorem Drn.mono {c d:Nat} {t:cD} (h:Drn c t) (hc:c≤d):Drn d t:=⟨h.ok,h.nm,h.st,Nat.le_trans h.ed hc⟩
theorem srtE_SE (l:List Edge):SE (iQ (rO cW l)):=by
 have h1:(rO cW l).Pairwise fun a b=>cW b a=false:=by
  have:=List.pairwise_mergeSort (le:=fun a b=>!cW b a) (fun a b c h1 h2=>?_) (fun a b=>?_) l
  ·refine this.imp fun {a b} h=>?_
   simpa using h
  ·simp only [Bool.not_eq_true'] at h1 h2 ⊢
   cases h3:cW c a with
   |false=>rfl
   |true=>
    have:=aDK h3 h1
    rw [h2] at this;cases this
  ·cases h3:cW b a with
   |false=>simp
   |true=>simp [aHD h3]
 exact yS (R:=fun a b=>cW b a=false) (S:=fun a b=>cW a b=true) (fun h hne=>aGf h hne) (fun h h'=>aDK h h') h1
theorem aLn (l:List Edge):(iQ (rO cW l)).length≤l.length:=by
 have:=aCr (rO cW l)
 unfold rO at this ⊢
 rwa [List.length_mergeSort] at this
theorem aLo {l:List Edge} {x:Edge}:x∈iQ (rO cW l)↔x∈l:=by
 rw [yR];unfold rO;rw [List.mem_mergeSort]
theorem labs_nm {M:List bI} (hM:oM M) (hn:∀ s∈M,s∈Nm):aBT (dH::M):=by
 have hnd:M.Nodup:=hM.1.imp fun {a b} h e=>by subst e;rw [qQ] at h;cases h
 have hl:M.length≤5:=by
  have:=List.Nodup.length_le_of_subset (l₁:=dH::M) (l₂:=Nm) (List.nodup_cons.2 ⟨hM.2,hnd⟩) (fun x hx=>by
   rcases List.mem_cons.1 hx with rfl|hx
   ·simp [Nm]
   ·exact hn x hx)
  have h6:Nm.length=6:=rfl
  rw [List.length_cons] at this
  omega
 refine ⟨by simp,by simp;omega,fun _=>rfl,fun k h1 hk=>?_⟩
 obtain ⟨k,rfl⟩:∃ j,k=j+1:=⟨k - 1,by omega⟩
 have hk':k < M.length:=by simpa using hk
 have hm:M[k]∈M:=List.getElem_mem hk'
 rw [List.getElem_cons_succ]
 refine ⟨Nm_lab _ (hn _ hm),fun e=>hM.2 (e ▸ hm),fun h2=>?_⟩
 obtain ⟨k,rfl⟩:∃ j,k=j+1:=⟨k - 1,by omega⟩
 have:=List.pairwise_iff_getElem.1 hM.1 k (k+1) (by omega) hk' (by omega)
 simpa using this
theorem aFF {T:List bI} (hT:∀ s∈T,s∈Nm) (hTl:T.length≤100) {st ini:Int} (h1:1≤st∧st≤10) (h2:0≤ini∧ini < st) {edges:List Edge} (hl:edges.length≤300)
  (he:∀ e∈edges,(0≤e.F∧e.F < st)∧(0≤e.To∧e.To < st)∧0≤e.B∧e.B < T.length):∃ t,kS st ini T edges=some t∧Drn edges.length t∧t.N=st∧t.I=ini:=by
 obtain ⟨M,_,j2,j3,j4⟩:=aHN T (by omega)
 have hM:∀ s∈M,s∈Nm:=fun s hs=>hT s ((j3 s).1 hs).1
 refine ⟨⟨st,ini,dH::M,iQ (rO cW (edges.map fun e=>(⟨e.F,pos (dH::M) (T.getD e.B.toNat []),e.To⟩:Edge)))⟩,aKW (by omega) j2 j3 (by omega) (fun e h=>(he e h).2.2) (srtE_SE _) (fun x=>?_) st ini,⟨⟨by show 1≤st∧st≤40;omega,by show 0≤ini∧ini≤st - 1;omega,labs_nm j2 hM,aHR ?_ (srtE_SE _) fun x hx=>?_⟩,fun s hs=>?_,by show st≤10;omega,?_⟩,rfl,rfl⟩
 ·rw [aLo,List.mem_map]
  exact ⟨fun ⟨e,h,g⟩=>⟨e,h,g.symm⟩,fun ⟨e,h,g⟩=>⟨e,h,g.symm⟩⟩
 ·have:=aLn (edges.map fun e=>(⟨e.F,pos (dH::M) (T.getD e.B.toNat []),e.To⟩:Edge))
  rw [List.length_map] at this
  exact Nat.le_trans this hl
 ·obtain ⟨e,h,rfl⟩:=List.mem_map.1 (aLo.1 hx)
  obtain ⟨g1,g2,g3,g4⟩:=he e h
  have hin:T.getD e.B.toNat []∈dH::M:=by
   have hmem:T.getD e.B.toNat []∈T:=by
    rw [List.getD_eq_getElem?_getD,List.getElem?_eq_getElem (by omega)]
    exact List.getElem_mem _
   by_cases ht:T.getD e.B.toNat []=dH
   ·rw [ht];simp
   ·exact List.mem_cons_of_mem _ ((j3 _).2 ⟨hmem,ht⟩)
  have:=aKd hin
  show (0≤e.F∧e.F≤st - 1)∧(0≤e.To∧e.To≤st - 1)∧0≤pos (dH::M) (T.getD e.B.toNat [])∧pos (dH::M) (T.getD e.B.toNat [])≤((dH::M).length:Int) - 1
  omega
 ·rcases List.mem_cons.1 hs with rfl|hs
  ·simp [Nm]
  ·exact hM s hs
 ·have:=aLn (edges.map fun e=>(⟨e.F,pos (dH::M) (T.getD e.B.toNat []),e.To⟩:Edge))
  rw [List.length_map] at this
  exact this
theorem names_ok (c:bI) {s1:Int} (s2:Int) (h:0≤s1∧s1≤10000000000):∃ L s1' s2',sV c s1 s2=some (L,s1',s2')∧((∀ s∈L,s∈Nm)∧1≤L.length∧L.length≤7)∧s1≤s1'∧s1'≤s1+10:=by
 have key:=dI (step:=fun s:Int × Int × List bI × Int=>kC c s.1 s.2.1 s.2.2.1 s.2.2.2) 5 (fun k (a:Int × Int × List bI)=>(a.1,a.2.1,a.2.2,(k:Int))) (fun k a=>(∀ s∈a.2.2,s∈Nm)∧1≤a.2.2.length∧a.2.2.length≤1+k∧s1≤a.1∧a.1≤s1+2 * k)
  (fun r=>(∀ s∈r.1,s∈Nm)∧1≤r.1.length∧r.1.length≤6∧s1≤r.2.1∧r.2.1≤s1+10) (fun k a hk hI=>?_) (fun a hI=>?_) 5 0 (s1,s2,[dH]) (by omega) ⟨by simp [Nm],by simp,by simp,by simp,by simp⟩
 ·obtain ⟨r,h1,g1,g2,g3,g4,g5⟩:=key
  unfold sV
  have h1':loop (fun s:Int × Int × List bI × Int=>kC c s.1 s.2.1 s.2.2.1 s.2.2.2) (s1,s2,[dH],0)=some r:=h1
  rw [show ([([116,97,117]:bI)]:List bI)=[dH] from rfl,h1',aB]
  unfold oG oF
  split
  ·rw [dX (by simp [iX];omega),aB]
   refine ⟨_,_,_,rfl,⟨fun s hs=>?_,by simp,by simp;omega⟩,g4,g5⟩
   rcases List.mem_append.1 hs with hs|hs
   ·exact g1 s hs
   ·simp at hs;subst hs;simp [Nm]
  ·exact ⟨_,_,_,rfl,⟨g1,g2,by omega⟩,g4,g5⟩
 ·obtain ⟨x,y,o⟩:=a
  obtain ⟨g1,g2,g3,g4,g5⟩:=hI
  simp only at g1 g2 g3 g4 g5 ⊢
  obtain ⟨b,t1,t2,e,h3,h4⟩:=aDu c y (s1:=x) (n:=2) (by omega) (by omega)
  have hw:wr ((k:Int)+1)=((k+1:Nat):Int):=cO hk (by omega)
  unfold kC
  rw [if_pos (by simp;omega),e,aB]
  have hno:kB (k:Int) t1 t2 o=some (.inl (t1,t2,o,((k+1:Nat):Int))):=by unfold kB;rw [hw]
  have key:∀ v:Bool,∃ a':Int × Int × List bI,lI o (k:Int) t1 t2 v=some (.inl (a'.1,a'.2.1,a'.2.2,((k+1:Nat):Int)))∧(∀ s∈a'.2.2,s∈Nm)∧1≤a'.2.2.length∧a'.2.2.length≤1+(k+1)∧s1≤a'.1∧a'.1≤s1+2 * ((k+1:Nat):Int):=by
   intro v
   unfold lI
   cases v with
   |false=>
    rw [if_neg (by simp),hno]
    exact ⟨(t1,t2,o),rfl,g1,g2,by simp only;omega,by simp only;omega,by simp only;omega⟩
   |true=>
    have hkl:k < ([([97]:bI),([98]:bI),([99]:bI),([103,101,116,40,48,41]:bI),([103,101,116,40,49,41]:bI)]:List bI).length:=hk
    rw [if_pos rfl,cV hkl,aB,dX (by simp [iX];omega),aB]
    unfold kB
    rw [hw]
    refine ⟨(t1,t2,_),rfl,fun s hs=>?_,by simp,by simp;omega,by simp only;omega,by simp only;omega⟩
    rcases List.mem_append.1 hs with hs|hs
    ·exact g1 s hs
    ·rw [List.mem_singleton] at hs
     have:s∈([([97]:bI),([98]:bI),([99]:bI),([103,101,116,40,48,41]:bI),([103,101,116,40,49,41]:bI)]:List bI):=hs ▸ List.getElem_mem hkl
     exact List.mem_cons_of_mem _ this
  split
  ·exact key _
  ·exact key _
 ·obtain ⟨x,y,o⟩:=a
  obtain ⟨g1,g2,g3,g4,g5⟩:=hI
  simp only at g1 g2 g3 g4 g5 ⊢
  refine ⟨(o,x,y),?_,g1,g2,by simp only;omega,g4,by simp only;omega⟩
  unfold kC
  rw [if_neg (by simp)]
end Gv
namespace Gv
open Go
def uI (st:Int) (n:Nat) (e:Edge):Prop:=(0≤e.F∧e.F < st)∧(0≤e.To∧e.To < st)∧0≤e.B∧e.B < n
section
variable {c:bI} {r9 r14:Int × Int × Int} {base st:Int}
def aId (K:List Int) (base st:Int):Prop:=(K.length:Int)=st∧∀ i,(hi:i < K.length)→(0≤K[i]∧K[i] < base)∧((i:Int) < base→K[i]=(i:Int))
theorem kinds_ok (hb:1≤base∧base≤4) (hs:base≤st∧st≤6) (e1:wr (1+r9.1)=base) (e2:wr (base+r14.1)=st) {s1:Int} (s2:Int) (h:0≤s1∧s1≤10000000000):
  ∃ a b K,loop (fun s:Int × Int × List Int × Int=>lR c r9 r14 s.1 s.2.1 s.2.2.1 s.2.2.2) (s1,s2,([]:List Int),0)=some (a,b,K)∧aId K base st∧s1≤a∧a≤s1+12:=by
 have key:=dI (step:=fun s:Int × Int × List Int × Int=>lR c r9 r14 s.1 s.2.1 s.2.2.1 s.2.2.2) st.toNat (fun k (a:Int × Int × List Int)=>(a.1,a.2.1,a.2.2,(k:Int))) (fun k a=>(a.2.2.length=k∧∀ i,(hi:i < a.2.2.length)→(0≤a.2.2[i]∧a.2.2[i] < base)∧((i:Int) < base→a.2.2[i]=(i:Int)))∧s1≤a.1∧a.1≤s1+2 * k)
  (fun r=>aId r.2.2 base st∧s1≤r.1∧r.1≤s1+12) (fun k a hk hI=>?_) (fun a hI=>?_) st.toNat 0 (s1,s2,[]) (by omega) ⟨⟨rfl,fun i hi=>by simp at hi⟩,by simp,by simp⟩
 ·obtain ⟨⟨a,b,K⟩,h1,g1,g2,g3⟩:=key
  exact ⟨a,b,K,h1,g1,g2,g3⟩
 ·obtain ⟨x,y,o⟩:=a
  obtain ⟨⟨g1,g2⟩,g3,g4⟩:=hI
  simp only at g1 g2 g3 g4 ⊢
  have hw:wr ((k:Int)+1)=((k+1:Nat):Int):=cO hk (by omega)
  have hadd:∀ v:Int,(0≤v∧v < base)→((k:Int) < base→v=(k:Int))→(o++[v]).length=k+1∧∀ i,(hi:i < (o++[v]).length)→(0≤(o++[v])[i]∧(o++[v])[i] < base)∧((i:Int) < base→(o++[v])[i]=(i:Int)):=by
   intro v h1 h2
   refine ⟨by simp;exact g1,fun i hi=>?_⟩
   by_cases hl:i < o.length
   ·rw [List.getElem_append_left hl];exact g2 i hl
   ·have:i=o.length:=by simp at hi;omega
    subst this
    rw [List.getElem_append_right (Nat.le_refl _)]
    simp only [Nat.sub_self,List.getElem_cons_zero]
    exact ⟨h1,fun h=>by rw [g1] at h ⊢;exact h2 h⟩
  unfold lR
  rw [e1,e2,if_pos (by simp;omega)]
  by_cases hkb:(k:Int) < base
  ·rw [if_pos (by simpa using hkb),dX (by simp [iX];omega),aB]
   unfold nP
   rw [hw]
   exact ⟨(x,y,o++[(k:Int)]),rfl,hadd _ (by omega) (fun _=>rfl),by simp only;omega,by simp only;omega⟩
  ·rw [if_neg (by simpa using hkb)]
   obtain ⟨v,t1,t2,e,q1,q2,q3⟩:=jP c y (s1:=x) (n:=base) (by omega) (by omega)
   rw [e,aB,dX (by simp [iX];omega),aB]
   unfold nP
   rw [hw]
   exact ⟨(t1,t2,o++[v]),rfl,hadd _ q1 (fun h=>absurd h hkb),by simp only;omega,by simp only;omega⟩
 ·obtain ⟨x,y,o⟩:=a
  obtain ⟨⟨g1,g2⟩,g3,g4⟩:=hI
  simp only at g1 g2 g3 g4 ⊢
  refine ⟨(x,y,o),?_,⟨by simp only;omega,g2⟩,g3,by simp only;omega⟩
  unfold lR
  rw [e1,e2,if_neg (by simp;omega)]
theorem alike_ok {r219:Int × Int × Int} {K:List Int} (hb:1≤base∧base≤4) (hs:base≤st∧st≤6) (e1:wr (1+r9.1)=base) (e2:wr (base+r14.1)=st) (hK:aId K base st) (hto:0≤r219.1∧r219.1 < base):
  ∃ l,loop (fun s:List Int × Int=>kD r9 r14 K r219 s.1 s.2) (([]:List Int),0)=some l∧l≠[]∧∀ z∈l,0≤z∧z < st:=by
 have hKl:=hK.1
 have key:=dI (step:=fun s:List Int × Int=>kD r9 r14 K r219 s.1 s.2) st.toNat (fun k (a:List Int)=>(a,(k:Int))) (fun k a=>a.length≤k∧(r219.1 < k→r219.1∈a)∧∀ z∈a,0≤z∧z < st) (fun r=>r≠[]∧∀ z∈r,0≤z∧z < st) (fun k a hk hI=>?_) (fun a hI=>?_) st.toNat 0 [] (by omega) ⟨by simp,fun h=>by omega,by simp⟩
 ·obtain ⟨l,h1,h2⟩:=key
  exact ⟨l,h1,h2⟩
 ·obtain ⟨g1,g2,g3⟩:=hI
  have hkl:k < K.length:=by omega
  have hw:wr ((k:Int)+1)=((k+1:Nat):Int):=cO hk (by omega)
  show ∃ a',kD r9 r14 K r219 a (k:Int)=_∧_
  unfold kD tB
  rw [e1,e2,if_pos (by simp;omega),cV hkl,aB,hw]
  by_cases he:K[k]=r219.1
  ·rw [if_pos (by simpa using he),dX (by simp [iX];omega),aB]
   refine ⟨_,rfl,by simp;omega,fun h=>?_,fun z hz=>?_⟩
   ·by_cases hlt:r219.1 < k
    ·exact List.mem_append_left _ (g2 hlt)
    ·exact List.mem_append_right _ (by simp;omega)
   ·rcases List.mem_append.1 hz with hz|hz
    ·exact g3 z hz
    ·simp at hz;omega
  ·rw [if_neg (by simpa using he)]
   refine ⟨_,rfl,by omega,fun h=>g2 ?_,g3⟩
   have:=(hK.2 k hkl).2
   by_cases hlt:r219.1 < k
   ·exact hlt
   ·exfalso
    have e:r219.1=(k:Int):=by omega
    exact he (by rw [e];exact this (by omega))
 ·obtain ⟨g1,g2,g3⟩:=hI
  refine ⟨a,?_,fun h=>?_,g3⟩
  ·show kD r9 r14 K r219 a ((st.toNat:Nat):Int)=_
   unfold kD
   rw [e1,e2,if_neg (by simp;omega)]
  ·have:=g2 (by omega)
   rw [h] at this;cases this
theorem edges_row {r209 r214 r219:Int × Int × Int} {K:List Int} {nl:Nat} (hb:1≤base∧base≤4) (hs:base≤st∧st≤6) (e1:wr (1+r9.1)=base) (e2:wr (base+r14.1)=st) (hK:aId K base st) (hto:0≤r219.1∧r219.1 < base) (hlab:0≤r214.1∧r214.1 < nl)
  {s1:Int} (s2:Int) (h:0≤s1∧s1≤10000000000) {ed:List Edge} (hed:∀ e∈ed,uI st nl e) (hel:ed.length≤1000):
  ∃ a b ed',loop (fun s:Int × Int × List Edge × Int=>mX c r9 r14 K r209 r214 r219 s.1 s.2.1 s.2.2.1 s.2.2.2) (s1,s2,ed,0)=some (a,b,ed')∧(∀ e∈ed',uI st nl e)∧ed'.length≤ed.length+6∧s1≤a∧a≤s1+12:=by
 have hKl:K.length=st.toNat:=by have:=hK.1;omega
 have hst9:st.toNat < 4611686018427387904:=by omega
 obtain ⟨al,ha1,ha2,ha3⟩:=alike_ok (r9:=r9) (r14:=r14) (r219:=r219) hb hs e1 e2 hK hto
 have key:=dI (step:=fun s:Int × Int × List Edge × Int=>mX c r9 r14 K r209 r214 r219 s.1 s.2.1 s.2.2.1 s.2.2.2) st.toNat (fun k (a:Int × Int × List Edge)=>(a.1,a.2.1,a.2.2,(k:Int))) (fun k a=>(∀ e∈a.2.2,uI st nl e)∧a.2.2.length≤ed.length+k∧s1≤a.1∧a.1≤s1+2 * k)
  (fun r=>(∀ e∈r.2.2,uI st nl e)∧r.2.2.length≤ed.length+6∧s1≤r.1∧r.1≤s1+12) (fun k a hk hI=>?_) (fun a hI=>?_) st.toNat 0 (s1,s2,ed) (by omega) ⟨hed,by simp,by simp,by simp⟩
 ·obtain ⟨⟨a,b,K⟩,h1,g1,g2,g3⟩:=key
  exact ⟨a,b,K,h1,g1,g2,g3⟩
 ·obtain ⟨x,y,o⟩:=a
  obtain ⟨g1,g2,g3,g4⟩:=hI
  simp only at g1 g2 g3 g4 ⊢
  have hkl:k < K.length:=by rw [hKl];exact hk
  unfold mX
  rw [e1,e2,if_pos (by simp;omega),cV hkl,aB]
  unfold tA sZ
  rw [cO hk (show st.toNat < 4611686018427387904 from hst9)]
  by_cases he:K[k]=r209.1
  ·rw [if_neg (by simp [he]),ha1,aB]
   obtain ⟨v,t1,t2,e,q1,q2,q3⟩:=among_ok c y (s1:=x) (by omega) ha2
   rw [e,aB,dX (by simp [iX];omega),aB]
   have hv:=ha3 v q1
   refine ⟨(t1,t2,_),rfl,fun e he=>?_,by simp;omega,by simp only;omega,by simp only;omega⟩
   rcases List.mem_append.1 he with he|he
   ·exact g1 e he
   ·rw [List.mem_singleton] at he
    subst he
    exact ⟨by simp only;omega,by simp only;omega,hlab⟩
  ·rw [if_pos (by simpa using he)]
   exact ⟨(x,y,o),rfl,g1,by simp only;omega,by simp only;omega,by simp only;omega⟩
 ·obtain ⟨x,y,o⟩:=a
  obtain ⟨g1,g2,g3,g4⟩:=hI
  simp only at g1 g2 g3 g4 ⊢
  refine ⟨(x,y,o),?_,g1,by simp only;omega,g3,by simp only;omega⟩
  unfold mX
  rw [e1,e2,if_neg (by simp;omega)]
theorem edges_all {r19:List bI × Int × Int} {K:List Int} (hb:1≤base∧base≤4) (hs:base≤st∧st≤6) (e1:wr (1+r9.1)=base) (e2:wr (base+r14.1)=st) (hK:aId K base st) (hL:1≤r19.1.length∧r19.1.length≤7) {s1 m:Int} (s2:Int) (h:0≤s1∧s1≤1000000000) (hm:0≤m∧m≤9):
  ∃ a b ed,loop (fun s:Int × Int × List Edge × Int=>lQ c r9 r14 r19 K s.1 s.2.1 s.2.2.1 s.2.2.2) (s1,s2,([]:List Edge),m)=some (a,b,ed)∧(∀ e∈ed,uI st r19.1.length e)∧ed.length≤54∧s1≤a∧a≤s1+200:=by
 have key:=dI (step:=fun s:Int × Int × List Edge × Int=>lQ c r9 r14 r19 K s.1 s.2.1 s.2.2.1 s.2.2.2) m.toNat (fun k (a:Int × Int × List Edge)=>(a.1,a.2.1,a.2.2,m - (k:Int))) (fun k a=>(∀ e∈a.2.2,uI st r19.1.length e)∧a.2.2.length≤6 * k∧s1≤a.1∧a.1≤s1+18 * k)
  (fun r=>(∀ e∈r.2.2,uI st r19.1.length e)∧r.2.2.length≤54∧s1≤r.1∧r.1≤s1+200) (fun k a hk hI=>?_) (fun a hI=>?_) m.toNat 0 (s1,s2,[]) (by omega) ⟨by simp,by simp,by simp,by simp⟩
 ·obtain ⟨⟨a,b,K⟩,h1,g1,g2,g3⟩:=key
  exact ⟨a,b,K,by simpa using h1,g1,g2,g3⟩
 ·obtain ⟨x,y,o⟩:=a
  obtain ⟨g1,g2,g3,g4⟩:=hI
  simp only at g1 g2 g3 g4 ⊢
  obtain ⟨v,t1,t2,q,q1,q2,q3⟩:=jP c y (s1:=x) (n:=base) (by omega) (by omega)
  obtain ⟨v',t1',t2',q',q1',q2',q3'⟩:=jP c t2 (s1:=t1) (n:=(r19.1.length:Int)) (by omega) (by omega)
  obtain ⟨v'',t1'',t2'',q'',q1'',q2'',q3''⟩:=jP c t2' (s1:=t1') (n:=base) (by omega) (by omega)
  obtain ⟨a,b,ed',p1,p2,p3,p4,p5⟩:=edges_row (c:=c) (r9:=r9) (r14:=r14) (r209:=(v,t1,t2)) (r214:=(v',t1',t2')) (r219:=(v'',t1'',t2'')) (nl:=r19.1.length) hb hs e1 e2 hK q1'' q1' t2'' (s1:=t1'') (by omega) g1 (by omega)
  unfold lQ
  rw [if_pos (by simp;omega),e1,q,aB,q',aB,q'',aB,p1,aB]
  unfold sY xP
  have hw:wr (m - (k:Int) - 1)=m - ((k+1:Nat):Int):=by rw [fH (by omega) (by omega)];omega
  rw [hw]
  exact ⟨(a,b,ed'),rfl,p2,by simp only;omega,by simp only;omega,by simp only;omega⟩
 ·obtain ⟨x,y,o⟩:=a
  obtain ⟨g1,g2,g3,g4⟩:=hI
  simp only at g1 g2 g3 g4 ⊢
  refine ⟨(x,y,o),?_,g1,by simp only;omega,g3,by simp only;omega⟩
  unfold lQ
  rw [if_neg (by simp;omega)]
end
theorem drawOk_ok (c:bI) {s1:Int} (s2:Int) (h:0≤s1∧s1≤100000000):∃ t s1' s2',aAm c s1 s2=some (t,s1',s2')∧(Drn 55 t∧t.N≤6)∧s1≤s1'∧s1'≤s1+300:=by
 obtain ⟨v9,a9,b9,x9,y9,z9,w9⟩:=jP c s2 (s1:=s1) (n:=4) (by omega) (by omega)
 have e1:wr (1+v9)=1+v9:=fH (by omega) (by omega)
 have e1':wr (7 - (1+v9))=7 - (1+v9):=fH (by omega) (by omega)
 obtain ⟨v14,a14,b14,x14,y14,z14,w14⟩:=jP c b9 (s1:=a9) (n:=7 - (1+v9)) (by omega) (by omega)
 have e2:wr (1+v9+v14)=1+v9+v14:=fH (by omega) (by omega)
 obtain ⟨L,a19,b19,x19,⟨y19,y19',y19''⟩,z19,w19⟩:=names_ok c b14 (s1:=a14) (by omega)
 have hb:1≤1+v9∧1+v9≤4:=by omega
 have hs:1+v9≤1+v9+v14∧1+v9+v14≤6:=by omega
 obtain ⟨ak,bk,K,xk,yk,zk,wk⟩:=kinds_ok (c:=c) (r9:=(v9,a9,b9)) (r14:=(v14,a14,b14)) hb hs e1 e2 b19 (s1:=a19) (by omega)
 have e3:wr (2+wr (2 * (1+v9)))=2+2 * (1+v9):=by rw [fH (x:=2 * (1+v9)) (by omega) (by omega),fH (by omega) (by omega)]
 obtain ⟨vm,am,bm,xm,ym,zm,wm⟩:=jP c bk (s1:=ak) (n:=2+2 * (1+v9)) (by omega) (by omega)
 obtain ⟨ae,be,ed,xe,ye,ye',ze,we⟩:=edges_all (c:=c) (r9:=(v9,a9,b9)) (r14:=(v14,a14,b14)) (r19:=(L,a19,b19)) hb hs e1 e2 yk ⟨y19',y19''⟩ bm (s1:=am) (m:=vm) (by omega) (by omega)
 have hfin:∀ (s t:Int) (E:List Edge),(∀ e∈E,uI (1+v9+v14) L.length e)→E.length≤55→ae≤s→s≤ae+8→∃ t' s1' s2',pL c (v9,a9,b9) (v14,a14,b14) (L,a19,b19) s t E=some (t',s1',s2')∧(Drn 55 t'∧t'.N≤6)∧ae≤s1'∧s1'≤ae+10:=by
  intro s t E hE hEl hs1 hs2
  unfold pL
  simp only
  rw [e1,e2]
  obtain ⟨v,a,b,q,q1,q2,q3⟩:=jP c t (s1:=s) (n:=1+v9+v14) (by omega) (by omega)
  obtain ⟨t',m1,m2,m3,m4⟩:=aFF y19 (by omega) (st:=1+v9+v14) (ini:=v) (by omega) q1 (edges:=E) (by omega) (fun e he=>by have:=hE e he;unfold uI at this;exact ⟨this.1,this.2.1,this.2.2⟩)
  rw [q,aB,m1,aB]
  exact ⟨_,_,_,rfl,⟨m2.mono hEl,by omega⟩,by simp only;omega,by simp only;omega⟩
 unfold aAm
 rw [x9,aB]
 simp only
 rw [e1,e1',x14,aB,x19,aB,xk,aB]
 unfold qV
 simp only
 rw [e1,e3,xm,aB,xe,aB]
 unfold sX
 simp only
 rw [e1,e2]
 obtain ⟨bb,ao,bo,xo,zo,wo⟩:=aDu c be (s1:=ae) (n:=3) (by omega) (by omega)
 rw [xo,aB]
 simp only
 cases bb with
 |false=>
  rw [if_neg (by simp)]
  obtain ⟨t',s1',s2',r1,r2,r3,r4⟩:=hfin ao bo ed ye (by omega) (by omega) (by omega)
  exact ⟨t',s1',s2',r1,r2,by omega,by omega⟩
 |true=>
  rw [if_pos rfl]
  obtain ⟨v1,a1,b1,p1,p1',p1'',p1'''⟩:=jP c bo (s1:=ao) (n:=1+v9+v14) (by omega) (by omega)
  obtain ⟨v2,a2,b2,p2,p2',p2'',p2'''⟩:=jP c b1 (s1:=a1) (n:=(L.length:Int)) (by omega) (by omega)
  obtain ⟨v3,a3,b3,p3,p3',p3'',p3'''⟩:=jP c b2 (s1:=a2) (n:=1+v9+v14) (by omega) (by omega)
  rw [p1,aB,p2,aB,p3,aB,dX (by simp [iX];omega),aB]
  obtain ⟨t',s1',s2',r1,r2,r3,r4⟩:=hfin a3 b3 (ed++[⟨v1,v2,v3⟩]) (fun e he=>by
   rcases List.mem_append.1 he with he|he
   ·exact ye e he
   ·rw [List.mem_singleton] at he
    subst he
    exact ⟨p1',p3',p2'⟩) (by simp;omega) (by omega) (by omega)
  exact ⟨t',s1',s2',r1,r2,by omega,by omega⟩
theorem aJf (c:bI) {s1:Int} (s2:Int) (h:0≤s1∧s1≤10000000):∃ t s1' s2',qH c s1 s2=some (t,s1',s2')∧(Drn 60 t∧t.N≤6)∧s1≤s1'∧s1'≤s1+500:=by
 obtain ⟨t,a,b,x,⟨y,ys⟩,z,w⟩:=drawOk_ok c s2 (s1:=s1) (by omega)
 have hed:=y.ed
 have hlab:=y.ok.2.2.1
 have hst:=y.ok.1
 have hini:=y.ok.2.1
 have hin:∀ e∈t.E,uI t.N t.L.length e:=fun e he=>by
  have:=nM y.ok he
  unfold iG at this
  exact ⟨this.1,this.2.1,this.2.2⟩
 have key:=dI (step:=fun s:Int × Int × List Edge × Int=>mZ c (t,a,b) s.1 s.2.1 s.2.2.1 s.2.2.2) t.E.length (fun k (q:Int × Int × List Edge)=>(q.1,q.2.1,q.2.2,(k:Int))) (fun k q=>(∀ e∈q.2.2,uI t.N t.L.length e)∧q.2.2.length≤k∧a≤q.1∧q.1≤a+2 * k)
  (fun r=>(∀ e∈r.2.2,uI t.N t.L.length e)∧r.2.2.length≤55∧a≤r.1∧r.1≤a+110) (fun k q hk hI=>?_) (fun q hI=>?_) t.E.length 0 (a,b,[]) (by omega) ⟨by simp,by simp,by simp,by simp⟩
 ·obtain ⟨⟨a1,b1,E⟩,h1,g1,g2,g3,g4⟩:=key
  simp only at g1 g2 g3 g4
  have h1':loop (fun s:Int × Int × List Edge × Int=>mZ c (t,a,b) s.1 s.2.1 s.2.2.1 s.2.2.2) (a,b,([]:List Edge),0)=some (a1,b1,E):=h1
  obtain ⟨vm,am,bm,xm,ym,zm,wm⟩:=jP c b1 (s1:=a1) (n:=3) (by omega) (by omega)
  have key2:=dI (step:=fun s:Int × Int × List Edge × Int=>mY c (t,a,b) s.1 s.2.1 s.2.2.1 s.2.2.2) vm.toNat (fun k (q:Int × Int × List Edge)=>(q.1,q.2.1,q.2.2,vm - (k:Int))) (fun k q=>(∀ e∈q.2.2,uI t.N t.L.length e)∧q.2.2.length≤55+k∧am≤q.1∧q.1≤am+4 * k)
   (fun r=>(∀ e∈r.1,uI t.N t.L.length e)∧r.1.length≤60∧am≤r.2.1∧r.2.1≤am+20) (fun k q hk hI=>?_) (fun q hI=>?_) vm.toNat 0 (am,bm,E) (by omega) ⟨g1,by simp only;omega,by simp,by simp⟩
  ·obtain ⟨⟨F,a2,b2⟩,h2,q1,q2,q3,q4⟩:=key2
   simp only at q1 q2 q3 q4
   have h2':loop (fun s:Int × Int × List Edge × Int=>mY c (t,a,b) s.1 s.2.1 s.2.2.1 s.2.2.2) (am,bm,E,vm)=some (F,a2,b2):=by simpa using h2
   obtain ⟨t',m1,m2,m3,m4⟩:=aFF (T:=t.L) (fun s hs=>y.nm s hs) (by have:=hlab.2.1;omega) (st:=t.N) (ini:=t.I) (by have:=y.st;omega) (by omega) (edges:=F) (by omega) (fun e he=>by have:=q1 e he;unfold uI at this;exact ⟨this.1,this.2.1,this.2.2⟩)
   unfold qH
   rw [x,aB,h1',aB]
   unfold tD
   rw [xm,aB,h2',aB]
   unfold tC
   rw [m1,aB]
   exact ⟨_,_,_,rfl,⟨m2.mono q2,by omega⟩,by simp only;omega,by simp only;omega⟩
  ·obtain ⟨x2,y2,o⟩:=q
   obtain ⟨i1,i2,i3,i4⟩:=hI
   simp only at i1 i2 i3 i4 ⊢
   obtain ⟨v1,t1,t1',p1,p1',p1'',p1'''⟩:=jP c y2 (s1:=x2) (n:=t.N) (by omega) (by omega)
   obtain ⟨v2,t2,t2',p2,p2',p2'',p2'''⟩:=jP c t1' (s1:=t1) (n:=t.N) (by omega) (by omega)
   unfold mY
   rw [if_pos (by simp;omega),p1,aB,p2,aB,dX (by simp [iX];omega),aB]
   have hw:wr (vm - (k:Int) - 1)=vm - ((k+1:Nat):Int):=by rw [fH (by omega) (by omega)];omega
   rw [hw]
   refine ⟨(t2,t2',_),rfl,fun e he=>?_,by simp;omega,by simp only;omega,by simp only;omega⟩
   rcases List.mem_append.1 he with he|he
   ·exact i1 e he
   ·rw [List.mem_singleton] at he
    subst he
    exact ⟨p1',p2',by simp only;have:=hlab.1;omega⟩
  ·obtain ⟨x2,y2,o⟩:=q
   obtain ⟨i1,i2,i3,i4⟩:=hI
   simp only at i1 i2 i3 i4 ⊢
   refine ⟨(o,x2,y2),?_,i1,by simp only;omega,i3,by simp only;omega⟩
   unfold mY
   rw [if_neg (by simp;omega)]
 ·obtain ⟨x2,y2,o⟩:=q
  obtain ⟨i1,i2,i3,i4⟩:=hI
  simp only at i1 i2 i3 i4 ⊢
  have he:=hin _ (List.getElem_mem hk)
  obtain ⟨bb,ao,bo,xo,zo,wo⟩:=aDu c y2 (s1:=x2) (n:=3) (by omega) (by omega)
  have hw:wr ((k:Int)+1)=((k+1:Nat):Int):=cO hk (by omega)
  unfold mZ
  rw [if_pos (dE hk),cV hk,aB,xo,aB]
  have hgo:∀ l:Int,0≤l∧l < t.L.length→∃ q':Int × Int × List Edge,pM o (k:Int) t.E[k] ao bo l=some (.inl (q'.1,q'.2.1,q'.2.2,((k+1:Nat):Int)))∧(∀ e∈q'.2.2,uI t.N t.L.length e)∧q'.2.2.length≤k+1∧a≤q'.1∧q'.1≤a+2 * ((k+1:Nat):Int):=by
   intro l hl
   unfold pM
   rw [dX (by simp [iX];omega),aB,hw]
   refine ⟨(ao,bo,_),rfl,fun e he'=>?_,by simp;omega,by simp only;omega,by simp only;omega⟩
   rcases List.mem_append.1 he' with he'|he'
   ·exact i1 e he'
   ·rw [List.mem_singleton] at he'
    subst he'
    exact ⟨he.1,he.2.1,hl⟩
  simp only
  cases bb with
  |false=>rw [if_neg (by simp)];exact hgo _ he.2.2
  |true=>rw [if_pos rfl];exact hgo 0 (by have:=hlab.1;omega)
 ·obtain ⟨x2,y2,o⟩:=q
  obtain ⟨i1,i2,i3,i4⟩:=hI
  simp only at i1 i2 i3 i4 ⊢
  refine ⟨(x2,y2,o),?_,i1,by simp only;omega,i3,by simp only;omega⟩
  unfold mZ
  rw [if_neg (by simp)]
end Gv
namespace Gv
open Go
theorem aIe (a b:List Int) (h:a.length < 4611686018427387904):wP a b=some (decide (a=b)):=by
 unfold wP
 by_cases hl:a.length=b.length
 ·rw [if_neg (by simp [hl])]
  have:=aCo (step:=fun s=>tT a b s) (a.zip b) (fun p=>decide (p.1=p.2)) (.inr false) (.inl ()) (fun k x hk hx=>?_) ?_
  ·rw [this,aB]
   by_cases he:a=b
   ·subst he
    have:((a.zip a).all fun p=>decide (p.1=p.2))=true:=by
     rw [List.all_eq_true]
     intro p hp
     obtain ⟨i,hi,rfl⟩:=List.mem_iff_getElem.1 hp
     rw [List.getElem_zip];simp
    rw [if_pos this,decide_eq_true rfl];rfl
   ·have:¬ ((a.zip b).all fun p=>decide (p.1=p.2))=true:=fun h'=>he (List.ext_getElem hl fun i h1 h2=>by
     rw [List.all_eq_true] at h'
     have hiz:i < (a.zip b).length:=by rw [List.length_zip];omega
     have:=h' (a.zip b)[i] (List.getElem_mem hiz)
     rw [List.getElem_zip] at this
     simpa using this)
    rw [if_neg this,decide_eq_false he]
  ·have hzl:(a.zip b).length=a.length:=by rw [List.length_zip];omega
   rw [hzl] at hk
   obtain ⟨hk',rfl⟩:=tK hx
   unfold tT
   rw [if_pos (dE hk),cV hk,aB,cV (by omega),aB,List.getElem_zip]
   by_cases e:a[k]=b[k]'(by omega)
   ·rw [if_neg (by simp [e]),if_pos (by simp [e]),cO hk h]
   ·rw [if_pos (by simpa using e),if_neg (by simpa using e)]
  ·have hzl:(a.zip b).length=a.length:=by rw [List.length_zip];omega
   rw [hzl]
   unfold tT
   rw [if_neg (by simp)]
 ·rw [if_pos (by simp;omega),decide_eq_false (fun h=>hl (by rw [h]))]
theorem put_ok (l:List Int) (n:Int) (hl:l.length≤1000000):∃ l',aCf l n=some l'∧l'.length≤l.length+1:=by
 have key:=dI (step:=fun s:List Int × Bool × Int=>qF l n s.1 s.2.1 s.2.2) l.length (fun k (a:List Int × Bool)=>(a.1,a.2,(k:Int))) (fun k a=>a.1.length≤k+(if a.2=true then 1 else 0)) (fun r=>r.1.length≤l.length+(if r.2=true then 1 else 0)) (fun k a hk hI=>?_) (fun a hI=>?_) l.length 0 ([],false) (by omega) (by simp)
 ·obtain ⟨⟨o,d⟩,h1,h2⟩:=key
  have h1':loop (fun s:List Int × Bool × Int=>qF l n s.1 s.2.1 s.2.2) (([]:List Int),false,0)=some (o,d):=h1
  unfold aCf
  rw [h1',aB]
  unfold aAi aAh
  simp only at h2 ⊢
  cases d with
  |true=>rw [if_neg (by simp)];exact ⟨_,rfl,by simpa using h2⟩
  |false=>
   simp at h2
   rw [if_pos (by simp),dX (by simp [iX];omega),aB]
   exact ⟨_,rfl,by simp;omega⟩
 ·obtain ⟨o,d⟩:=a
  simp only at hI ⊢
  have hw:wr ((k:Int)+1)=((k+1:Nat):Int):=cO hk (by omega)
  have h3:∀ o':List Int,∀ d',o'.length≤2000000→sS l (k:Int) o' d'=some (.inl (o'++[l[k]],d',((k+1:Nat):Int))):=fun o' d' ho=>by
   unfold sS
   rw [cV hk,aB,dX (by simp [iX];omega),aB,hw]
  have ho:o.length≤k+1:=by
   cases d<;>simp at hI<;>omega
  unfold qF
  rw [if_pos (dE hk)]
  have h4:∀ v:Bool,(v=true→d=false)→∃ a':List Int × Bool,wQ l n o d (k:Int) v=some (.inl (a'.1,a'.2,((k+1:Nat):Int)))∧a'.1.length≤(k+1)+(if a'.2=true then 1 else 0):=by
   intro v hv
   unfold wQ
   cases v with
   |false=>
    rw [if_neg (by simp),h3 o d (by omega)]
    exact ⟨(o++[l[k]],d),rfl,by simp only [List.length_append,List.length_singleton];omega⟩
   |true=>
    have:=hv rfl
    subst this
    simp at hI
    rw [if_pos rfl,cV hk,aB]
    split
    ·rw [dX (by simp [iX];omega),aB,h3 _ true (by simp;omega)]
     exact ⟨(_,true),rfl,by simp;omega⟩
    ·rw [h3 o true (by omega)]
     exact ⟨(_,true),rfl,by simp;omega⟩
  cases d with
  |true=>rw [if_neg (by simp)];exact h4 false (by simp)
  |false=>
   rw [if_pos (by simp),cV hk,aB]
   exact h4 _ fun _=>rfl
 ·obtain ⟨o,d⟩:=a
  refine ⟨(o,d),?_,hI⟩
  show qF l n o d (l.length:Int)=_
  unfold qF
  rw [if_neg (by simp)]
section
variable {u:cD} {p:List Int}
theorem sign_ok (hu:Big u) (hp:gP u p) (k:Int):∃ l,aCh u p k=some l∧l.length≤1000:=by
 have h5:=hu.ed
 have key:=dI (step:=fun s:List Int × Int=>lX u p k s.1 s.2) u.E.length (fun i (a:List Int)=>(a,(i:Int))) (fun i a=>a.length≤i) (fun r=>r.length≤1000) (fun i a hi hI=>?_) (fun a hI=>?_) u.E.length 0 [] (by omega) (by simp)
 ·obtain ⟨l,h1,h2⟩:=key
  have h1':loop (fun s:List Int × Int=>lX u p k s.1 s.2) (([]:List Int),0)=some l:=h1
  unfold aCh
  rw [h1',aB]
  exact ⟨l,rfl,h2⟩
 ·have he:=hu.inn _ (List.getElem_mem hi)
  have hw:wr ((i:Int)+1)=((i+1:Nat):Int):=cO hi (by omega)
  show ∃ a',lX u p k a (i:Int)=_∧_
  unfold lX xM
  rw [if_pos (dE hi),cV hi,aB]
  split
  ·rw [(nF hp he.2.1).1,aB]
   obtain ⟨l',h1,h2⟩:=put_ok a (wr (wr (u.E[i].B * (p.length:Int))+p.getD u.E[i].To.toNat 0)) (by omega)
   rw [h1,aB,hw]
   exact ⟨l',rfl,by omega⟩
  ·rw [hw]
   exact ⟨a,rfl,by omega⟩
 ·refine ⟨a,?_,by omega⟩
  show lX u p k a (u.E.length:Int)=_
  unfold lX
  rw [if_neg (by simp)]
end
def kz (p:List Int) (rows:List (List Int)):List (List Int):=List.zipWith (fun a r=>a::r) p rows
section
variable {p:List Int} {rows:List (List Int)}
theorem aBV (h:rows.length=p.length):(kz p rows).length=p.length:=by unfold kz;simp [h]
theorem aKe (h:rows.length=p.length) {k:Nat} (hk:k < p.length):(kz p rows)[k]'(by rw [aBV h];exact hk)=p[k]::rows[k]'(by omega):=by unfold kz;simp
theorem num_inner (hl:rows.length=p.length) (hs:p.length≤1000) (hr:∀ r∈rows,r.length≤100000) {k:Nat} (hk:k < p.length):
  loop (fun s:Int × Int=>lD p rows (cn ((kz p rows).take k)) (k:Int) s.1 s.2) (-1,0)=some (if (kz p rows)[k]'(by rw [aBV hl];exact hk)∈(kz p rows).take k then pos (dd ((kz p rows).take k)) ((kz p rows)[k]'(by rw [aBV hl];exact hk)) else -1):=by
 have hkz:=aBV hl
 have hkk:k < (kz p rows).length:=by omega
 have hcl:(cn ((kz p rows).take k)).length=k:=by rw [yV,List.length_take];omega
 have key:=uM (step:=fun s:Int × Int=>lD p rows (cn ((kz p rows).take k)) (k:Int) s.1 s.2)
  (fun s=>∃ j:Nat,s.2=(j:Int)∧j≤k∧((s.1=-1∧∀ i,(hi:i < j)→(hj:j≤k)→(kz p rows)[i]'(by omega)≠(kz p rows)[k])∨((kz p rows)[k]∈(kz p rows).take k∧s.1=pos (dd ((kz p rows).take k)) (kz p rows)[k])))
  (fun s=>k+1 - s.2.toNat) (fun r=>r=if (kz p rows)[k]∈(kz p rows).take k then pos (dd ((kz p rows).take k)) (kz p rows)[k] else -1) (fun s hI=>?_) (s:=(-1,0)) ⟨0,rfl,Nat.zero_le _,.inl ⟨rfl,fun i hi=>by omega⟩⟩
 ·obtain ⟨r,h1,h2⟩:=key
  rw [h1,h2]
 ·obtain ⟨n,jj⟩:=s
  obtain ⟨j,rfl,hjk,hI⟩:=hI
  simp only at hI ⊢
  have hout:mW p rows (cn ((kz p rows).take k)) (k:Int) n (j:Int) false=some (.inr n):=by unfold mW;rw [if_neg (by simp)]
  rcases hI with ⟨rfl,hno⟩|⟨hin,rfl⟩
  ·by_cases hj:j < k
   ·left
    have hw:wr ((j:Int)+1)=((j+1:Nat):Int):=cO hj (by omega)
    have hjp:j < p.length:=by omega
    have e1:=aKe hl hjp
    have e2:=aKe hl hk
    unfold lD
    rw [if_pos (dE hj),show decide ((-1:Int) < 0)=true from rfl]
    unfold mW
    rw [if_pos rfl,cV hjp,aB,cV hk,aB]
    have hgo:mV (cn ((kz p rows).take k)) (-1) (j:Int) false=some (.inl (-1,((j+1:Nat):Int))):=by
     unfold mV pJ
     rw [if_neg (by simp),hw]
    have hstay:(kz p rows)[j]'(by omega)≠(kz p rows)[k]→∃ j':Nat,((j+1:Nat):Int)=(j':Int)∧j'≤k∧(((-1:Int)=-1∧∀ i,(hi:i < j')→(hj:j'≤k)→(kz p rows)[i]'(by omega)≠(kz p rows)[k])∨((kz p rows)[k]∈(kz p rows).take k∧(-1:Int)=pos (dd ((kz p rows).take k)) (kz p rows)[k])):=fun hne=>by
     refine ⟨j+1,rfl,hj,.inl ⟨rfl,fun i hi _=>?_⟩⟩
     by_cases e:i=j
     ·subst e;exact hne
     ·exact hno i (by omega) hjk
    by_cases hp:p[j]=p[k]
    ·rw [if_pos (by simpa using hp),cV (show j < rows.length by omega),aB,cV (show k < rows.length by omega),aB,aIe _ _ (by have:=hr _ (List.getElem_mem (show j < rows.length by omega));omega),aB]
     by_cases hrr:rows[j]'(by omega)=rows[k]'(by omega)
     ·have hkey:(kz p rows)[j]'(by omega)=(kz p rows)[k]:=by rw [e1,e2,hp,hrr]
      have hin:(kz p rows)[k]∈(kz p rows).take k:=by
       rw [←hkey,List.mem_take_iff_getElem]
       exact ⟨j,by omega,rfl⟩
      have hc:(cn ((kz p rows).take k))[j]?=some (pos (dd ((kz p rows).take k)) (kz p rows)[k]):=by
       rw [aGe (show j < ((kz p rows).take k).length by rw [List.length_take];omega),List.getElem_take,hkey]
      rw [hrr]
      unfold mV pJ
      rw [decide_eq_true rfl,if_pos rfl,aCs,hc]
      show ∃ s',ob (some _) _=_∧_
      rw [aB,hw]
      exact ⟨(_,((j+1:Nat):Int)),rfl,⟨j+1,rfl,hj,.inr ⟨hin,rfl⟩⟩,by simp only;omega⟩
     ·rw [decide_eq_false hrr,hgo]
      refine ⟨(-1,((j+1:Nat):Int)),rfl,hstay (fun e=>?_),by simp only;omega⟩
      rw [e1,e2,List.cons.injEq] at e
      exact hrr e.2
    ·rw [if_neg (by simpa using hp),hgo]
     refine ⟨(-1,((j+1:Nat):Int)),rfl,hstay (fun e=>?_),by simp only;omega⟩
     rw [e1,e2,List.cons.injEq] at e
     exact hp e.1
   ·right
    obtain rfl:j=k:=by omega
    refine ⟨-1,?_,?_⟩
    ·unfold lD
     rw [if_neg (by simp),hout]
    ·rw [if_neg]
     rw [List.mem_take_iff_getElem]
     rintro ⟨i,hi,e⟩
     exact hno i (by omega) (Nat.le_refl _) e
  ·right
   refine ⟨_,?_,by rw [if_pos hin]⟩
   have hpos:0≤pos (dd ((kz p rows).take k)) (kz p rows)[k]:=aAU.2 (yU.2 hin)
   unfold lD
   rw [show decide (pos (dd ((kz p rows).take k)) (kz p rows)[k] < 0)=false from decide_eq_false (by omega),hout]
   split<;>rfl
theorem num_eq (hl:rows.length=p.length) (hs:p.length≤1000) (hr:∀ r∈rows,r.length≤100000):lP p rows=some (cn (kz p rows)):=by
 have hkz:=aBV hl
 have key:=dI (step:=fun s:List Int × Int × Int=>kA p rows s.1 s.2.1 s.2.2) p.length (fun k (a:List Int × Int)=>(a.1,a.2,(k:Int))) (fun k a=>a.1=cn ((kz p rows).take k)∧a.2=((dd ((kz p rows).take k)).length:Int)) (fun r=>r=cn (kz p rows)) (fun k a hk hI=>?_) (fun a hI=>?_) p.length 0 ([],0) (by omega) ⟨rfl,rfl⟩
 ·obtain ⟨r,h1,rfl⟩:=key
  have h1':loop (fun s:List Int × Int × Int=>kA p rows s.1 s.2.1 s.2.2) (([]:List Int),0,0)=some (cn (kz p rows)):=h1
  unfold lP
  rw [h1',aB];rfl
 ·obtain ⟨o,m⟩:=a
  obtain ⟨rfl,rfl⟩:=hI
  have hkk:k < (kz p rows).length:=by omega
  have hcl:(cn ((kz p rows).take k)).length=k:=by rw [yV,List.length_take];omega
  have hw:wr ((k:Int)+1)=((k+1:Nat):Int):=cO hk (by omega)
  have e1:(kz p rows).take (k+1)=(kz p rows).take k++[(kz p rows)[k]]:=by rw [List.take_add_one,List.getElem?_eq_getElem hkk];rfl
  have hdl:(dd ((kz p rows).take k)).length≤1000:=by
   have h2:(dd ((kz p rows).take k)).length≤((kz p rows).take k).length:=by
    have:∀ (l:List (List Int)),(dd l).length≤l.length:=by
     intro l
     unfold dd
     have hg:∀ (m F:List (List Int)),(m.foldl (aBv id) F).length≤F.length+m.length:=by
      intro m
      induction m with
      |nil=>intro F;simp
      |cons x m ih=>
       intro F
       have:=ih (aBv id F x)
       have h3:=aKU (key:=id) F x
       simp only [List.foldl_cons,List.length_cons];omega
     have:=hg l []
     simpa using this
    exact this _
   rw [List.length_take] at h2;omega
  show ∃ a':List Int × Int,kA p rows (cn ((kz p rows).take k)) _ (k:Int)=_∧_
  unfold kA
  rw [if_pos (dE hk),num_inner hl hs hr hk,aB,e1,aGN,aDJ,aHP]
  unfold sU sT xO
  by_cases hin:(kz p rows)[k]∈(kz p rows).take k
  ·have hpos:0≤pos (dd ((kz p rows).take k)) (kz p rows)[k]:=aAU.2 (yU.2 hin)
   rw [if_pos hin,if_neg (by simp;omega),dX (by simp [iX];omega),aB,hw,if_pos (yU.2 hin)]
   refine ⟨(_,_),rfl,rfl,?_⟩
   have:aBv id (dd ((kz p rows).take k)) (kz p rows)[k]=dd ((kz p rows).take k):=by
    unfold aBv
    rw [if_pos (by rw [List.map_id];exact yU.2 hin)]
   simp only [this]
  ·rw [if_neg hin,if_pos (by simp),dX (by simp [iX];omega),aB,hw,if_neg (fun h=>hin (yU.1 h))]
   refine ⟨(_,_),rfl,rfl,?_⟩
   have:aBv id (dd ((kz p rows).take k)) (kz p rows)[k]=dd ((kz p rows).take k)++[(kz p rows)[k]]:=by
    unfold aBv
    rw [if_neg (by rw [List.map_id];exact fun h=>hin (yU.1 h))]
   simp only [this,List.length_append,List.length_singleton]
   first
    |omega
    |(rw [fH (by omega) (by omega)];omega)
 ·obtain ⟨o,m⟩:=a
  obtain ⟨rfl,rfl⟩:=hI
  refine ⟨_,?_,rfl⟩
  show kA p rows (cn ((kz p rows).take p.length)) _ (p.length:Int)=_
  unfold kA
  rw [if_neg (by simp),List.take_of_length_le (by omega)]
theorem aJg (hl:rows.length=p.length):aEG (cn (kz p rows)) p:=
 aGo (aBV hl) fun x y hx hy h=>by
  rw [List.getElem?_eq_getElem (by rw [aBV hl];exact hx),List.getElem?_eq_getElem (by rw [aBV hl];exact hy),aKe hl hx,aKe hl hy,Option.some.injEq,List.cons.injEq] at h
  rw [List.getElem?_eq_getElem hx,List.getElem?_eq_getElem hy,h.1]
end
section
variable {u:cD} {p:List Int}
theorem aGq (hu:Big u) (hp:gP u p):∃ q,wR u p=some q∧gP u q∧cn q=q∧aEG q p:=by
 have h3:=hu.st
 have key:=dI (step:=fun s:List (List Int) × Int=>jG u p s.1 s.2) u.N.toNat (fun k (a:List (List Int))=>(a,(k:Int))) (fun k a=>a.length=k∧∀ r∈a,r.length≤1000) (fun r=>r.length=u.N.toNat∧∀ x∈r,x.length≤1000) (fun k a hk hI=>?_) (fun a hI=>?_) u.N.toNat 0 [] (by omega) ⟨rfl,by simp⟩
 ·obtain ⟨rows,h1,h2,h4⟩:=key
  have h1':loop (fun s:List (List Int) × Int=>jG u p s.1 s.2) (([]:List (List Int)),0)=some rows:=h1
  unfold wR
  have hl:rows.length=p.length:=by rw [h2,hp.1]
  rw [h1',aB,num_eq hl (by rw [hp.1];omega) (fun r hr=>by have:=h4 r hr;omega)]
  exact ⟨_,rfl,aKc hu (by rw [aBV hl,hp.1]),cn_cn _,aJg hl⟩
 ·obtain ⟨g1,g2⟩:=hI
  obtain ⟨l,e,hl⟩:=sign_ok hu hp (k:Int)
  have hw:wr ((k:Int)+1)=((k+1:Nat):Int):=cO hk (by omega)
  show ∃ a',jG u p a (k:Int)=_∧_
  unfold jG
  rw [if_pos (by simp;omega),e,aB,dX (by simp [iX];omega),aB,hw]
  refine ⟨_,rfl,by simp;omega,fun r hr=>?_⟩
  rcases List.mem_append.1 hr with hr|hr
  ·exact g2 r hr
  ·simp at hr;subst hr;exact hl
 ·refine ⟨a,?_,hI⟩
  show jG u p a ((u.N.toNat:Nat):Int)=_
  unfold jG
  rw [if_neg (by simp;omega)]
theorem part0 (hu:Big u):mkz u.N (0:Int)=some (List.replicate u.N.toNat 0)∧gP u (List.replicate u.N.toNat 0):=by
 have h3:=hu.st
 refine ⟨?_,by simp,fun z hz=>by rw [List.mem_replicate] at hz;omega⟩
 unfold mkz
 rw [if_pos ⟨by omega,by unfold iX;omega⟩]
theorem aLp (hu:Big u):∃ p n,aAl u=some (p,n)∧gP u p:=by
 obtain ⟨hm,h0⟩:=part0 hu
 have h3:=hu.st
 unfold aAl
 rw [hm,aB]
 have key:=aEH (step:=fun s:List Int × Int=>lE u s.1 s.2) u.N.toNat (fun p s=>s.1=p∧gP u p) (fun r=>gP u r.1) (fun p s hl hc hI=>?_) (List.replicate u.N.toNat 0) (List.replicate u.N.toNat 0,0) (by simp) (aHT _) ⟨rfl,h0⟩
 ·obtain ⟨⟨p,n⟩,h1,h2⟩:=key
  rw [h1,aB]
  exact ⟨p,n,rfl,h2⟩
 ·obtain ⟨q,n⟩:=s
  obtain ⟨rfl,hp⟩:=hI
  obtain ⟨r,e,g1,g2,g3⟩:=aGq hu hp
  have hstep:lE u q n=if decide (r=q)=true then some (.inr (q,n)) else some (.inl (r,wr (n+1))):=by
   unfold lE
   rw [e,aB,aIe _ _ (by rw [g1.1];omega),aB]
  show (∃ x,lE u q n=_∧_)∨_
  by_cases h:r=q
  ·left
   rw [hstep,if_pos (by simpa using h)]
   exact ⟨_,rfl,hp⟩
  ·right
   refine ⟨r,(r,wr (n+1)),g3,g2,h,?_,rfl,g1⟩
   show lE u q n=_
   rw [hstep,if_neg (by simpa using h)]
theorem aJh (hu:Big u):∃ p,aAY u=some p∧gP u p:=by
 obtain ⟨p,n,h1,h2⟩:=aLp hu
 exact ⟨p,by unfold aAY;rw [h1,aB],h2⟩
theorem aMu (hu:Big u) {n:Int} (hn:0≤n∧n≤1000):∃ p,aBr u n=some p∧gP u p:=by
 obtain ⟨hm,h0⟩:=part0 hu
 unfold aBr
 rw [hm,aB]
 have key:=dI (step:=fun s:Int × List Int=>kY u s.1 s.2) n.toNat (fun k (a:List Int)=>(n - (k:Int),a)) (fun k a=>gP u a) (fun r=>gP u r) (fun k a hk hI=>?_) (fun a hI=>?_) n.toNat 0 (List.replicate u.N.toNat 0) (by omega) h0
 ·obtain ⟨p,h1,h2⟩:=key
  have h1':loop (fun s:Int × List Int=>kY u s.1 s.2) (n,List.replicate u.N.toNat 0)=some p:=by simpa using h1
  rw [h1',aB]
  exact ⟨p,rfl,h2⟩
 ·obtain ⟨q,e,g1,g2,g3⟩:=aGq hu hI
  show ∃ a',kY u (n - (k:Int)) a=_∧_
  unfold kY
  have hw:wr (n - (k:Int) - 1)=n - ((k+1:Nat):Int):=by rw [fH (by omega) (by omega)];omega
  rw [if_pos (by simp;omega),e,aB,hw]
  exact ⟨q,rfl,g1⟩
 ·refine ⟨a,?_,hI⟩
  show kY u (n - ((n.toNat:Nat):Int)) a=_
  unfold kY
  rw [if_neg (by simp;omega)]
end
end Gv
namespace Gv
open Go
section
variable {u:cD} {p:List Int}
theorem aFG (hu:Big u) (hp:gP u p) {e:Edge} (he:e∈u.E):∃ b,sQ e p=some b:=by
 have h:=hu.inn e he
 unfold sQ uT
 split
 ·rw [(nF hp h.1).1,aB,(nF hp h.2.1).1,aB]
  exact ⟨_,rfl⟩
 ·exact ⟨_,rfl⟩
def cnt (l:List Bool):Nat:=l.count true
theorem cnt_le (l:List Bool):cnt l≤l.length:=List.count_le_length
theorem cnt_off {l:List Bool} {k:Nat} (hk:k < l.length) (h:l[k]=true):cnt (l.set k false) < cnt l:=by
 unfold cnt
 rw [List.count_set hk,h]
 have:0 < l.count true:=List.count_pos_iff.2 (h ▸ List.getElem_mem hk)
 simp;omega
theorem cnt_on {l:List Bool} {k:Nat} (hk:k < l.length) (h:l[k]=false):cnt l < cnt (l.set k true):=by
 unfold cnt
 rw [List.count_set hk,h]
 simp
theorem ixB {l:List Bool} {s:Int} (hl:l.length=u.N.toNat) (hs:iG u s):∃ hk:s.toNat < l.length,ix l s=some l[s.toNat]:=by
 unfold iG at hs
 exact ⟨by omega,aDX hs.1 (by omega)⟩
theorem div_goes (hu:Big u) (hp:gP u p) {al:List Bool} (hl:al.length=u.N.toNat) (k:Int):∃ b,loop (fun s:Bool × Int=>jE u p al k s.1 s.2) (false,0)=some b:=by
 have h5:=hu.ed
 have key:=dI (step:=fun s:Bool × Int=>jE u p al k s.1 s.2) u.E.length (fun i (a:Bool)=>(a,(i:Int))) (fun _ _=>True) (fun _=>True) (fun i a hi _=>?_) (fun a _=>?_) u.E.length 0 false (by omega) trivial
 ·obtain ⟨b,h1,_⟩:=key
  exact ⟨b,h1⟩
 ·have he:=List.getElem_mem hi
  have hin:=hu.inn _ he
  have hw:wr ((i:Int)+1)=((i+1:Nat):Int):=cO hi (by omega)
  have hj:∀ b,kK (i:Int) b=some (.inl (b,((i+1:Nat):Int))):=fun b=>by unfold kK;rw [hw]
  show ∃ a',jE u p al k a (i:Int)=_∧_
  unfold jE
  rw [if_pos (dE hi),cV hi,aB]
  split
  ·exact ⟨_,hj _,trivial⟩
  ·split
   ·obtain ⟨b,hb⟩:=aFG hu hp he
    rw [hb,aB]
    split
    ·obtain ⟨_,h2⟩:=ixB hl hin.2.1
     rw [h2,aB]
     exact ⟨_,hj _,trivial⟩
    ·exact ⟨_,hj _,trivial⟩
   ·exact ⟨_,hj _,trivial⟩
 ·refine ⟨a,?_,trivial⟩
  show jE u p al k a (u.E.length:Int)=_
  unfold jE
  rw [if_neg (by simp)]
theorem div_round (hu:Big u) (hp:gP u p) {al:List Bool} (hl:al.length=u.N.toNat):∃ al' m,loop (fun s:List Bool × Bool × Int=>kL u p s.1 s.2.1 s.2.2) (al,false,0)=some (al',m)∧al'.length=u.N.toNat∧cnt al'≤cnt al∧(m=true→cnt al' < cnt al):=by
 have h3:=hu.st
 have key:=dI (step:=fun s:List Bool × Bool × Int=>kL u p s.1 s.2.1 s.2.2) u.N.toNat (fun k (a:List Bool × Bool)=>(a.1,a.2,(k:Int))) (fun _ a=>a.1.length=u.N.toNat∧cnt a.1≤cnt al∧(a.2=true→cnt a.1 < cnt al)) (fun r=>r.1.length=u.N.toNat∧cnt r.1≤cnt al∧(r.2=true→cnt r.1 < cnt al)) (fun k a hk hI=>?_) (fun a hI=>?_) u.N.toNat 0 (al,false) (by omega) ⟨hl,Nat.le_refl _,fun h=>by cases h⟩
 ·obtain ⟨⟨al',m⟩,h1,h2⟩:=key
  exact ⟨al',m,h1,h2⟩
 ·obtain ⟨b,m⟩:=a
  obtain ⟨g1,g2,g3⟩:=hI
  simp only at g1 g2 g3 ⊢
  have hw:wr ((k:Int)+1)=((k+1:Nat):Int):=cO hk (by omega)
  have hkb:k < b.length:=by omega
  have hj:∀ c n,lN (k:Int) c n=some (.inl (c,n,((k+1:Nat):Int))):=fun c n=>by unfold lN;rw [hw]
  unfold kL
  rw [if_pos (by simp;omega),cV hkb,aB]
  by_cases hb:b[k]=true
  ·rw [if_neg (by simp [hb])]
   obtain ⟨c,hc⟩:=div_goes hu hp g1 (k:Int)
   rw [hc,aB]
   unfold qT
   cases c with
   |true=>rw [if_neg (by simp),hj];exact ⟨(b,m),rfl,g1,g2,g3⟩
   |false=>
    have hst:st b (k:Int) false=some (b.set k false):=by
     unfold Gv.st
     rw [if_pos ⟨by omega,by omega⟩,Int.toNat_natCast]
    have hlt:=cnt_off hkb hb
    rw [if_pos (by simp),hst,aB,hj]
    exact ⟨(b.set k false,true),rfl,by simp only [List.length_set];exact g1,by simp only;omega,fun _=>by simp only;omega⟩
  ·rw [if_pos (by simp [hb]),hj]
   exact ⟨(b,m),rfl,g1,g2,g3⟩
 ·obtain ⟨b,m⟩:=a
  refine ⟨(b,m),?_,hI⟩
  show kL u p b m ((u.N.toNat:Nat):Int)=_
  unfold kL
  rw [if_neg (by simp;omega)]
theorem aIf (hu:Big u) (hp:gP u p):∃ al,tU u p=some al∧al.length=u.N.toNat:=by
 have h3:=hu.st
 have hm:mkz u.N false=some (List.replicate u.N.toNat false):=by
  unfold mkz
  rw [if_pos ⟨by omega,by unfold iX;omega⟩]
 unfold tU
 rw [hm,aB]
 have key:=dI (step:=fun s:List Bool × Int=>iI u s.1 s.2) u.N.toNat (fun k (a:List Bool)=>(a,(k:Int))) (fun _ a=>a.length=u.N.toNat) (fun r=>r.length=u.N.toNat) (fun k a hk hI=>?_) (fun a hI=>?_) u.N.toNat 0 (List.replicate u.N.toNat false) (by omega) (by simp)
 ·obtain ⟨al,h1,h2⟩:=key
  have h1':loop (fun s:List Bool × Int=>iI u s.1 s.2) (List.replicate u.N.toNat false,0)=some al:=h1
  rw [h1',aB]
  unfold pE qS
  have key2:=uM (step:=fun s:List Bool × Bool=>lO u p s.1 s.2) (fun s=>s.1.length=u.N.toNat) (fun s=>2 * cnt s.1+(if s.2=true then 1 else 0)) (fun r=>r.length=u.N.toNat) (fun s hI=>?_) (s:=(al,true)) h2
  ·obtain ⟨r,h3,h4⟩:=key2
   rw [h3,aB]
   exact ⟨r,rfl,h4⟩
  ·obtain ⟨x,m⟩:=s
   show (∃ s',lO u p x m=_∧_)∨_
   cases m with
   |false=>right;exact ⟨x,by unfold lO;rw [if_neg (by simp)],hI⟩
   |true=>
    left
    obtain ⟨al',m',e,g1,g2,g3⟩:=div_round hu hp hI
    have g2:cnt al'≤cnt x:=g2
    have g3:m'=true→cnt al' < cnt x:=g3
    refine ⟨(al',m'),?_,g1,?_⟩
    ·unfold lO
     rw [if_pos rfl,e,aB];rfl
    ·show 2 * cnt al'+(if m'=true then 1 else 0) < 2 * cnt x+(if true=true then 1 else 0)
     rw [if_pos rfl]
     cases m' with
     |false=>rw [if_neg (by simp)];omega
     |true=>have:=g3 rfl;rw [if_pos rfl];omega
 ·have hw:wr ((k:Int)+1)=((k+1:Nat):Int):=cO hk (by omega)
  have hka:k < a.length:=by omega
  show ∃ a',iI u a (k:Int)=_∧_
  unfold iI
  have hst:st a (k:Int) true=some (a.set k true):=by
   unfold Gv.st
   rw [if_pos ⟨by omega,by omega⟩,Int.toNat_natCast]
  rw [if_pos (by simp;omega),cV hka,aB,hst,aB,hw]
  exact ⟨_,rfl,by simp only [List.length_set];exact hI⟩
 ·refine ⟨a,?_,hI⟩
  show iI u a ((u.N.toNat:Nat):Int)=_
  unfold iI
  rw [if_neg (by simp;omega)]
theorem aLq (hu:Big u) (hp:gP u p) {al:List Bool} (hl:al.length=u.N.toNat):∃ al' m,loop (fun s:List Bool × Bool × Int=>mC u p s.1 s.2.1 s.2.2) (al,false,0)=some (al',m)∧al'.length=u.N.toNat∧cnt al≤cnt al'∧(m=true→cnt al < cnt al'):=by
 have h5:=hu.ed
 have key:=dI (step:=fun s:List Bool × Bool × Int=>mC u p s.1 s.2.1 s.2.2) u.E.length (fun k (a:List Bool × Bool)=>(a.1,a.2,(k:Int))) (fun _ a=>a.1.length=u.N.toNat∧cnt al≤cnt a.1∧(a.2=true→cnt al < cnt a.1)) (fun r=>r.1.length=u.N.toNat∧cnt al≤cnt r.1∧(r.2=true→cnt al < cnt r.1)) (fun i a hi hI=>?_) (fun a hI=>?_) u.E.length 0 (al,false) (by omega) ⟨hl,Nat.le_refl _,fun h=>by cases h⟩
 ·obtain ⟨⟨al',m⟩,h1,h2⟩:=key
  exact ⟨al',m,h1,h2⟩
 ·obtain ⟨b,m⟩:=a
  obtain ⟨g1,g2,g3⟩:=hI
  simp only at g1 g2 g3 ⊢
  have he:=List.getElem_mem hi
  have hin:=hu.inn _ he
  have hw:wr ((i:Int)+1)=((i+1:Nat):Int):=cO hi (by omega)
  have hj:∀ c n,rP (i:Int) c n=some (.inl (c,n,((i+1:Nat):Int))):=fun c n=>by unfold rP;rw [hw]
  obtain ⟨_,f1⟩:=ixB g1 hin.1
  obtain ⟨hk,f2⟩:=ixB g1 hin.2.1
  have hT:=hin.2.1
  unfold iG at hT
  have hno:mB b m (i:Int) u.E[i] false=some (.inl (b,m,((i+1:Nat):Int))):=by unfold mB;rw [if_neg (by simp),hj]
  unfold mC
  rw [if_pos (dE hi),cV hi,aB,f1,aB]
  split
  ·rw [f2,aB]
   by_cases hb:b[u.E[i].To.toNat]=true
   ·rw [if_neg (by simp [hb]),hno]
    exact ⟨(b,m),rfl,g1,g2,g3⟩
   ·have hb':b[u.E[i].To.toNat]=false:=by simpa using hb
    rw [if_pos (by simp [hb'])]
    obtain ⟨c,hc⟩:=aFG hu hp he
    rw [hc,aB]
    cases c with
    |false=>rw [hno];exact ⟨(b,m),rfl,g1,g2,g3⟩
    |true=>
     have hst:st b u.E[i].To true=some (b.set u.E[i].To.toNat true):=by
      unfold Gv.st
      rw [if_pos ⟨hT.1,by omega⟩]
     have hlt:=cnt_on hk hb'
     unfold mB
     rw [if_pos rfl,f2,aB,hst,aB,hj]
     exact ⟨(_,true),rfl,by simp only [List.length_set];exact g1,by simp only;omega,fun _=>by simp only;omega⟩
  ·rw [hno]
   exact ⟨(b,m),rfl,g1,g2,g3⟩
 ·obtain ⟨b,m⟩:=a
  refine ⟨(b,m),?_,hI⟩
  show mC u p b m (u.E.length:Int)=_
  unfold mC
  rw [if_neg (by simp)]
theorem reach_ok (hu:Big u) (hp:gP u p) {k:Int} (hk:iG u k):∃ al,aBj u p k=some al∧al.length=u.N.toNat:=by
 have h3:=hu.st
 have hk':=hk
 unfold iG at hk'
 have hm:mkz u.N false=some (List.replicate u.N.toNat false):=by
  unfold mkz
  rw [if_pos ⟨by omega,by unfold iX;omega⟩]
 have hst:st (List.replicate u.N.toNat false) k true=some ((List.replicate u.N.toNat false).set k.toNat true):=by
  unfold Gv.st
  rw [if_pos ⟨hk'.1,by simp;omega⟩]
 obtain ⟨_,f⟩:=ixB (u:=u) (l:=List.replicate u.N.toNat false) (by simp) hk
 unfold aBj
 rw [hm,aB,f,aB,hst,aB]
 have key2:=uM (step:=fun s:List Bool × Bool=>oN u p s.1 s.2) (fun s=>s.1.length=u.N.toNat) (fun s=>2 * (u.N.toNat - cnt s.1)+(if s.2=true then 1 else 0)) (fun r=>r.length=u.N.toNat) (fun s hI=>?_) (s:=((List.replicate u.N.toNat false).set k.toNat true,true)) (by simp)
 ·obtain ⟨r,h3,h4⟩:=key2
  rw [h3,aB]
  exact ⟨r,rfl,h4⟩
 ·obtain ⟨x,m⟩:=s
  show (∃ s',oN u p x m=_∧_)∨_
  cases m with
  |false=>right;exact ⟨x,by unfold oN;rw [if_neg (by simp)],hI⟩
  |true=>
   left
   obtain ⟨al',m',e,g1,g2,g3⟩:=aLq hu hp hI
   have g2:cnt x≤cnt al':=g2
   have g3:m'=true→cnt x < cnt al':=g3
   have hle:cnt al'≤al'.length:=cnt_le al'
   refine ⟨(al',m'),?_,g1,?_⟩
   ·unfold oN
    rw [if_pos rfl,e,aB];rfl
   ·show 2 * (u.N.toNat - cnt al')+(if m'=true then 1 else 0) < 2 * (u.N.toNat - cnt x)+(if true=true then 1 else 0)
    rw [if_pos rfl]
    cases m' with
    |false=>rw [if_neg (by simp)];omega
    |true=>have:=g3 rfl;rw [if_pos rfl];omega
theorem offers_ok (hu:Big u) (hp:gP u p) {k:Int} (hk:iG u k):∃ l,aAj u p k=some l∧l.length≤1000:=by
 have h5:=hu.ed
 obtain ⟨al,e,hl⟩:=reach_ok hu hp hk
 unfold aAj
 rw [e,aB]
 have key:=dI (step:=fun s:List Int × Int=>jZ u p al s.1 s.2) u.E.length (fun i (a:List Int)=>(a,(i:Int))) (fun i a=>a.length≤i) (fun r=>r.length≤1000) (fun i a hi hI=>?_) (fun a hI=>?_) u.E.length 0 [] (by omega) (by simp)
 ·obtain ⟨l,h1,h2⟩:=key
  have h1':loop (fun s:List Int × Int=>jZ u p al s.1 s.2) (([]:List Int),0)=some l:=h1
  rw [h1',aB]
  exact ⟨l,rfl,h2⟩
 ·have he:=List.getElem_mem hi
  have hin:=hu.inn _ he
  have hw:wr ((i:Int)+1)=((i+1:Nat):Int):=cO hi (by omega)
  have hno:mT p a (i:Int) u.E[i] false=some (.inl (a,((i+1:Nat):Int))):=by
   unfold mT pF
   rw [if_neg (by simp),hw]
  obtain ⟨_,f1⟩:=ixB hl hin.1
  show ∃ a',jZ u p al a (i:Int)=_∧_
  unfold jZ
  rw [if_pos (dE hi),cV hi,aB,f1,aB]
  split
  ·obtain ⟨c,hc⟩:=aFG hu hp he
   rw [hc,aB]
   cases c with
   |true=>rw [show (!true)=false from rfl,hno];exact ⟨a,rfl,by omega⟩
   |false=>
    obtain ⟨l',h1,h2⟩:=put_ok a (wr (wr (u.E[i].B * (p.length:Int))+p.getD u.E[i].To.toNat 0)) (by omega)
    unfold mT pF
    rw [if_pos (by rfl),(nF hp hin.2.1).1,aB,h1,aB,hw]
    exact ⟨l',rfl,by omega⟩
  ·rw [hno];exact ⟨a,rfl,by omega⟩
 ·refine ⟨a,?_,by omega⟩
  show jZ u p al a (u.E.length:Int)=_
  unfold jZ
  rw [if_neg (by simp)]
theorem j10_same:@qU=@lP:=rfl
theorem aLr (hu:Big u) (hp:gP u p) (d:Bool):∃ q,aAk u p d=some q∧gP u q∧cn q=q∧aEG q p:=by
 have h3:=hu.st
 obtain ⟨al,e,hal⟩:=aIf hu hp
 unfold aAk
 rw [e,aB]
 have key:=dI (step:=fun s:List (List Int) × Int=>jF u p d al s.1 s.2) u.N.toNat (fun k (a:List (List Int))=>(a,(k:Int))) (fun k a=>a.length=k∧∀ r∈a,r.length≤1001) (fun r=>r.length=u.N.toNat∧∀ x∈r,x.length≤1001) (fun k a hk hI=>?_) (fun a hI=>?_) u.N.toNat 0 [] (by omega) ⟨rfl,by simp⟩
 ·obtain ⟨rows,h1,h2,h4⟩:=key
  have h1':loop (fun s:List (List Int) × Int=>jF u p d al s.1 s.2) (([]:List (List Int)),0)=some rows:=h1
  have hl:rows.length=p.length:=by rw [h2,hp.1]
  rw [h1',aB,j10_same,num_eq hl (by rw [hp.1];omega) (fun r hr=>by have:=h4 r hr;omega)]
  exact ⟨_,rfl,aKc hu (by rw [aBV hl,hp.1]),cn_cn _,aJg hl⟩
 ·obtain ⟨g1,g2⟩:=hI
  have hkT:iG u (k:Int):=by unfold iG;omega
  obtain ⟨l,e,hl⟩:=offers_ok hu hp hkT
  obtain ⟨_,f⟩:=ixB hal hkT
  have hw:wr ((k:Int)+1)=((k+1:Nat):Int):=cO hk (by omega)
  have hgo:∀ r:List Int,r.length≤1001→∃ a',nN a (k:Int) r=some (.inl (a',((k+1:Nat):Int)))∧a'.length=k+1∧∀ r∈a',r.length≤1001:=by
   intro r hr
   unfold nN
   rw [dX (by simp [iX];omega),aB,hw]
   refine ⟨_,rfl,by simp;omega,fun x hx=>?_⟩
   rcases List.mem_append.1 hx with hx|hx
   ·exact g2 x hx
   ·simp at hx;subst hx;exact hr
  have hgo2:∀ b:Bool,∃ a',nO a (k:Int) l b=some (.inl (a',((k+1:Nat):Int)))∧a'.length=k+1∧∀ r∈a',r.length≤1001:=by
   intro b
   unfold nO
   cases b with
   |true=>rw [if_pos rfl,dX (by simp [iX];omega),aB];exact hgo _ (by simp;omega)
   |false=>rw [if_neg (by simp)];exact hgo _ (by omega)
  show ∃ a',jF u p d al a (k:Int)=_∧_
  unfold jF
  rw [if_pos (by simp;omega),e,aB]
  cases d with
  |true=>rw [if_pos rfl,f,aB];exact hgo2 _
  |false=>rw [if_neg (by simp)];exact hgo2 _
 ·refine ⟨a,?_,hI⟩
  show jF u p d al a ((u.N.toNat:Nat):Int)=_
  unfold jF
  rw [if_neg (by simp;omega)]
theorem part15_ok (hu:Big u) (d:Bool):∃ p,aAX u d=some p∧gP u p:=by
 obtain ⟨hm,h0⟩:=part0 hu
 have h3:=hu.st
 unfold aAX
 rw [hm,aB]
 have key:=aEH (step:=fun s:List Int=>tV u d s) u.N.toNat (fun p s=>s=p∧gP u p) (fun r=>gP u r) (fun p s hl hc hI=>?_) (List.replicate u.N.toNat 0) (List.replicate u.N.toNat 0) (by simp) (aHT _) ⟨rfl,h0⟩
 ·obtain ⟨p,h1,h2⟩:=key
  rw [h1,aB]
  exact ⟨p,rfl,h2⟩
 ·obtain ⟨rfl,hp⟩:=hI
  obtain ⟨r,e,g1,g2,g3⟩:=aLr hu hp d
  have hstep:tV u d s=if decide (r=s)=true then some (.inr s) else some (.inl r):=by
   unfold tV
   rw [e,aB,aIe _ _ (by rw [g1.1];omega),aB]
  by_cases h:r=s
  ·left
   rw [hstep,if_pos (by simpa using h)]
   exact ⟨_,rfl,hp⟩
  ·right
   refine ⟨r,r,g3,g2,h,?_,rfl,g1⟩
   rw [hstep,if_neg (by simpa using h)]
theorem true_ok {al:List Bool} (hal:al.length≤1000):∃ l,aCg al=some l∧l.length≤al.length∧∀ z∈l,0≤z∧z < al.length:=by
 unfold aCg
 have key:=dI (step:=fun s:List Int × Int=>lW al s.1 s.2) al.length (fun i (a:List Int)=>(a,(i:Int))) (fun i a=>a.length≤i∧∀ z∈a,0≤z∧z < al.length) (fun r=>r.length≤al.length∧∀ z∈r,0≤z∧z < al.length) (fun i a hi hI=>?_) (fun a hI=>?_) al.length 0 [] (by omega) (by simp)
 ·obtain ⟨l,h1,h2⟩:=key
  have h1':loop (fun s:List Int × Int=>lW al s.1 s.2) (([]:List Int),0)=some l:=h1
  rw [h1',aB]
  exact ⟨l,rfl,h2⟩
 ·obtain ⟨g1,g2⟩:=hI
  have hw:wr ((i:Int)+1)=((i+1:Nat):Int):=cO hi (by omega)
  show ∃ a',lW al a (i:Int)=_∧_
  unfold lW xK
  rw [if_pos (dE hi),cV hi,aB,hw]
  split
  ·rw [dX (by simp [iX];omega),aB]
   refine ⟨_,rfl,by simp;omega,fun z hz=>?_⟩
   rcases List.mem_append.1 hz with hz|hz
   ·exact g2 z hz
   ·simp at hz;omega
  ·exact ⟨_,rfl,by omega,g2⟩
 ·refine ⟨a,?_,hI⟩
  show lW al a (al.length:Int)=_
  unfold lW
  rw [if_neg (by simp)]
end
theorem aKf {t:cD} (h:cF t):Big t:=by
 have h1:=h.1
 have h2:=h.2.2.1.2.1
 have h3:=h.2.2.2.1
 exact ⟨by omega,by omega,by omega,fun e he=>nM h he⟩
section
variable {t:cD} {c:Nat} {p:List Int}
theorem top_ok (h:Drn c t) (hp:gP t p):∃ b,qG p=some b∧(1≤b∧b≤10∧b≤t.N)∧∀ z∈p,0≤z∧z < b:=by
 have h1:=h.ok.1
 have h2:=h.st
 obtain ⟨b,e,⟨⟨z,hz,hb⟩,ht⟩⟩:=aMl (p:=p) (by rw [hp.1];omega) (by rw [hp.1];omega) fun z hz=>by
  have:=hp.2 z hz
  omega
 have:=hp.2 z hz
 exact ⟨b,e,by omega,fun w hw=>by have:=hp.2 w hw;have:=ht w hw;omega⟩
theorem quot13_ok (h:Drn c t) (hp:gP t p):∃ t',rT t p=some t'∧Drn c t'∧t'.N≤t.N:=by
 obtain ⟨b,e,hb,hz⟩:=top_ok h hp
 refine ⟨_,quo_ref h.ok hp.1 e,⟨quo_ok h.ok hp.1 (by omega) hz,h.nm,by show b≤10;omega,Nat.le_trans (aKZ t p) h.ed⟩,hb.2.2⟩
theorem aMv (h:Drn c t) (hp:gP t p) {b:Int} (hzi:∀ s,iG t s→0≤p.getD s.toNat 0∧p.getD s.toNat 0 < b):
  ∃ E,loop (fun s:List Edge × Int=>iK t p s.1 s.2) (([]:List Edge),0)=some E∧E.length≤c∧∀ x∈E,uI b t.L.length x:=by
 have hu:=aKf h.ok
 have h2:=h.ok.2.1
 have hed:=h.ed
 have h5:=hu.ed
 refine dI (step:=fun s:List Edge × Int=>iK t p s.1 s.2) t.E.length (fun i (a:List Edge)=>(a,(i:Int))) (fun i a=>a.length≤i∧∀ x∈a,uI b t.L.length x) (fun r=>r.length≤c∧∀ x∈r,uI b t.L.length x) (fun i a hi hI=>?_) (fun a hI=>?_) t.E.length 0 [] (by omega) (by simp)
 ·obtain ⟨g1,g2⟩:=hI
  have he:=List.getElem_mem hi
  have hin:=nM h.ok he
  have hw:wr ((i:Int)+1)=((i+1:Nat):Int):=cO hi (by omega)
  obtain ⟨v,hv⟩:=aFG hu hp he
  have hal:a.length+1 < iX:=by unfold iX;omega
  have ha1:a.length≤i+1:=by omega
  show ∃ a',iK t p a (i:Int)=_∧_
  unfold iK pI
  rw [if_pos (dE hi),cV hi,aB,hv,aB,hw]
  clear hw
  split
  ·rw [(nF hp hin.1).1,aB,(nF hp hin.2.1).1,aB,dX (by simp only [List.length_singleton];omega),aB]
   refine ⟨_,rfl,by rw [List.length_append];exact Nat.add_le_add_right g1 1,fun x hx=>?_⟩
   rcases List.mem_append.1 hx with hx|hx
   ·exact g2 x hx
   ·rw [List.mem_singleton] at hx
    subst hx
    exact ⟨hzi _ hin.1,hzi _ hin.2.1,hin.2.2⟩
  ·exact ⟨_,rfl,ha1,g2⟩
 ·obtain ⟨g1,g2⟩:=hI
  refine ⟨a,?_,by omega,g2⟩
  show iK t p a (t.E.length:Int)=_
  unfold iK
  rw [if_neg (by simp)]
theorem aMw (hc:c≤250) (h:Drn c t) (hp:gP t p) {b:Int} (hzi:∀ s,iG t s→0≤p.getD s.toNat 0∧p.getD s.toNat 0 < b) {E:List Edge} (k2:E.length≤c) (k3:∀ x∈E,uI b t.L.length x) {l:List Int} (hl:l.length≤10) (hlT:∀ z∈l,iG t z):
  ∃ F,loop (fun s:List Edge × Int=>iJ p l s.1 s.2) (E,0)=some F∧F.length≤c+10∧∀ x∈F,uI b t.L.length x:=by
 have hlab:=h.ok.2.2.1.1
 refine dI (step:=fun s:List Edge × Int=>iJ p l s.1 s.2) l.length (fun i (a:List Edge)=>(a,(i:Int))) (fun i a=>a.length≤c+i∧∀ x∈a,uI b t.L.length x) (fun r=>r.length≤c+10∧∀ x∈r,uI b t.L.length x) (fun i a hi hI=>?_) (fun a hI=>?_) l.length 0 E (by omega) ⟨by omega,k3⟩
 ·obtain ⟨g1,g2⟩:=hI
  have hsT:=hlT _ (List.getElem_mem hi)
  have hal:a.length+1 < iX:=by unfold iX;omega
  have hw:wr ((i:Int)+1)=((i+1:Nat):Int):=cO hi (by omega)
  show ∃ a',iJ p l a (i:Int)=_∧_
  unfold iJ
  rw [if_pos (dE hi),cV hi,aB,(nF hp hsT).1,aB,dX (by simp only [List.length_singleton];omega),aB,hw]
  clear hw
  refine ⟨_,rfl,by rw [List.length_append];exact Nat.add_le_add_right g1 1,fun x hx=>?_⟩
  rcases List.mem_append.1 hx with hx|hx
  ·exact g2 x hx
  ·rw [List.mem_singleton] at hx
   subst hx
   have:=hzi _ hsT
   exact ⟨this,this,by simp only;omega⟩
 ·obtain ⟨g1,g2⟩:=hI
  refine ⟨a,?_,by omega,g2⟩
  show iJ p l a (l.length:Int)=_
  unfold iJ
  rw [if_neg (by simp)]
theorem quot15_ok (hc:c≤250) (h:Drn c t) (hp:gP t p) (d:Bool):∃ t',uW t p d=some t'∧Drn (c+10) t'∧t'.N≤t.N:=by
 have hu:=aKf h.ok
 have h1:=h.ok.1
 have h2:=h.ok.2.1
 have hst:=h.st
 have hlab:=h.ok.2.2.1
 obtain ⟨b,e,hb,hz⟩:=top_ok h hp
 have hzi:∀ s,iG t s→0≤p.getD s.toNat 0∧p.getD s.toNat 0 < b:=fun s hs=>by
  have hl:s.toNat < p.length:=by rw [hp.1];unfold iG at hs;omega
  have e:p.getD s.toNat 0=p[s.toNat]:=by rw [List.getD_eq_getElem?_getD,List.getElem?_eq_getElem hl];rfl
  rw [e]
  exact hz _ (List.getElem_mem hl)
 have hini:iG t t.I:=by unfold iG;omega
 have hfin:∀ E:List Edge,(∀ x∈E,uI b t.L.length x)→E.length≤c+10→∃ t',mH t p E=some t'∧Drn (c+10) t'∧t'.N≤t.N:=by
  intro E hE hl
  obtain ⟨t',m1,m2,m3,m4⟩:=aFF (T:=t.L) h.nm (by have:=hlab.2.1;omega) (st:=b) (ini:=p.getD t.I.toNat 0) (by omega) (hzi _ hini) (edges:=E) (by omega) (fun x hx=>by have:=hE x hx;unfold uI at this;exact ⟨this.1,this.2.1,this.2.2⟩)
  unfold mH
  rw [(nF hp hini).1,aB,e,aB,m1,aB]
  exact ⟨t',rfl,m2.mono hl,by omega⟩
 obtain ⟨E,k1,k2,k3⟩:=aMv h hp hzi
 unfold uW
 rw [k1,aB]
 unfold pH
 cases d with
 |false=>rw [if_neg (by simp)];exact hfin E k3 (by omega)
 |true=>
  obtain ⟨al,d1,d2⟩:=aIf hu hp
  obtain ⟨l,d3,d4,d5⟩:=true_ok (al:=al) (by omega)
  obtain ⟨F,q1,q2,q3⟩:=aMw hc h hp hzi k2 k3 (l:=l) (by omega) (fun z hz=>by have:=d5 z hz;unfold iG;omega)
  rw [if_pos rfl,d1,aB,d3,aB,q1,aB]
  unfold pG
  exact hfin F q3 q2
theorem aLs (h:Drn c t):vZ t=some (RL t)∧yN t (RL t)=some (keepL t (RL t))∧Drn c (keepL t (RL t))∧(keepL t (RL t)).N≤t.N:=by
 have h1:=h.ok.1
 have h2:=h.st
 have hl:=RL_len t
 refine ⟨aKS h.ok,aMd h.ok (by omega),⟨keep_ok h.ok,h.nm,?_,Nat.le_trans (aIV t (RL t)) h.ed⟩,?_⟩
 ·show ((RL t).length:Int)≤10
  omega
 ·show ((RL t).length:Int)≤t.N
  omega
theorem aMx (h:Drn c t):∃ t',aBo t=some t'∧Drn c t'∧t'.N≤t.N:=by
 obtain ⟨k1,k2,k3,k4⟩:=aLs h
 obtain ⟨p,p1,p2⟩:=aJh (aKf k3.ok)
 obtain ⟨t',q1,q2,q3⟩:=quot13_ok k3 p2
 unfold aBo
 rw [k1,aB,k2,aB,p1,aB,q1,aB]
 exact ⟨t',rfl,q2,by omega⟩
theorem aMy (hc:c≤250) (h:Drn c t) (d:Bool):∃ t',aBn t d=some t'∧Drn (c+10) t'∧t'.N≤t.N:=by
 obtain ⟨k1,k2,k3,k4⟩:=aLs h
 obtain ⟨p,p1,p2⟩:=part15_ok (aKf k3.ok) d
 obtain ⟨t',q1,q2,q3⟩:=quot15_ok hc k3 p2 d
 unfold aBn
 rw [k1,aB,k2,aB,p1,aB,q1,aB]
 exact ⟨t',rfl,q2,by omega⟩
end
end Gv
set_option linter.unusedSimpArgs false
set_option linter.unusedVariables false
namespace Gv
open Go
theorem aJi (E:List Edge) (k:Int):(E.filter fun e=>decide (e.F < k+1)).length=(E.filter fun e=>decide (e.F < k)).length+(E.filter fun e=>e.F == k).length:=by
 induction E with
 |nil=>rfl
 |cons e E ih=>
  simp only [List.filter_cons]
  by_cases h1:e.F < k
  ·rw [if_pos (by simp;omega),if_pos (by simpa using h1),if_neg (by simp;omega),List.length_cons,List.length_cons,ih];omega
  ·by_cases h2:e.F=k
   ·rw [if_pos (by simp;omega),if_neg (by simpa using h1),if_pos (by simpa using h2),List.length_cons,List.length_cons,ih];omega
   ·rw [if_neg (by simp;omega),if_neg (by simpa using h1),if_neg (by simpa using h2),ih]
section
variable {t:cD} {c0:Nat} (cs:bI)
theorem aLt (h:Drn 60 t) {r18:Int × Int × Int} (hr:0≤r18.1∧r18.1 < t.N) {more:Int} (hm:0≤more∧more≤2) {k old:Int} (hk:0≤k∧k < t.N+more) {s1:Int} (s2:Int) (hs:0≤s1∧s1≤1000000000) {E:List Edge} (hE:∀ e∈E,uI (t.N+more) t.L.length e) (hl:E.length≤1000):
  ∃ s1' s2' E',mO cs t r18 more s1 s2 E k old=some (.inl (s1',s2',E',k+1))∧E'.length=E.length+(t.E.filter fun e=>e.F == old).length∧(∀ e∈E',uI (t.N+more) t.L.length e)∧s1≤s1'∧s1'≤s1+120:=by
 have h1:=h.ok.1
 have h3:=h.st
 have h4:=h.ed
 unfold mO
 rw [l11Out_eq _ _ (by omega),aB]
 have hout:(t.E.filter fun e=>e.F == old).length≤60:=Nat.le_trans (List.length_filter_le _ _) h4
 have hmem:∀ e∈(t.E.filter fun e=>e.F == old),iG t e.F∧iG t e.To∧0≤e.B∧e.B < t.L.length:=fun e he=>nM h.ok (List.mem_filter.1 he).1
 generalize ho:(t.E.filter fun e=>e.F == old)=O at hout hmem ⊢
 have key:=dI (step:=fun s:Int × Int × List Edge × Int=>iL cs t r18 more k O s.1 s.2.1 s.2.2.1 s.2.2.2) O.length (fun i (q:Int × Int × List Edge)=>(q.1,q.2.1,q.2.2,(i:Int))) (fun i q=>(∀ e∈q.2.2,uI (t.N+more) t.L.length e)∧q.2.2.length=E.length+i∧s1≤q.1∧q.1≤s1+2 * i)
  (fun r=>(∀ e∈r.2.2,uI (t.N+more) t.L.length e)∧r.2.2.length=E.length+O.length∧s1≤r.1∧r.1≤s1+120) (fun i q hi hI=>?_) (fun q hI=>?_) O.length 0 (s1,s2,E) (by omega) ⟨hE,rfl,Int.le_refl _,by simp⟩
 ·obtain ⟨⟨a1,b1,E'⟩,e1,g1,g2,g3,g4⟩:=key
  have e1':loop (fun s:Int × Int × List Edge × Int=>iL cs t r18 more k O s.1 s.2.1 s.2.2.1 s.2.2.2) (s1,s2,E,0)=some (a1,b1,E'):=e1
  rw [e1',aB]
  unfold pO tW
  rw [fH (x:=k+1) (by omega) (by omega)]
  exact ⟨a1,b1,E',rfl,g2,g1,g3,g4⟩
 ·obtain ⟨a1,b1,E'⟩:=q
  obtain ⟨g1,g2,g3,g4⟩:=hI
  simp only at g1 g2 g3 g4 ⊢
  have hin:=hmem _ (List.getElem_mem hi)
  unfold iG at hin
  have hfin:∀ x y to,0≤to∧to < t.N+more→s1≤x∧x≤s1+2 * ((i:Int)+1)→
    ∃ q:Int × Int × List Edge,mM k E' (i:Int) O[i] x y to=some (.inl (q.1,q.2.1,q.2.2,((i+1:Nat):Int)))∧(∀ e∈q.2.2,uI (t.N+more) t.L.length e)∧q.2.2.length=E.length+(i+1)∧s1≤q.1∧q.1≤s1+2 * ((i+1:Nat):Int):=by
   intro x y to hto hx
   unfold mM
   rw [dX (by simp only [List.length_singleton];unfold iX;omega),aB,cO hi (by omega)]
   refine ⟨(x,y,E'++[_]),rfl,fun e he=>?_,by simp;omega,hx.1,by simp only;omega⟩
   rcases List.mem_append.1 he with he|he
   ·exact g1 e he
   ·rw [List.mem_singleton] at he
    subst he
    exact ⟨hk,hto,hin.2.2⟩
  have hj5:∀ x y (b:Bool),(b=true→0 < more)→s1≤x∧x≤s1+2 * ((i:Int)+1)→
    ∃ q:Int × Int × List Edge,kT t k E' (i:Int) O[i] x y b=some (.inl (q.1,q.2.1,q.2.2,((i+1:Nat):Int)))∧(∀ e∈q.2.2,uI (t.N+more) t.L.length e)∧q.2.2.length=E.length+(i+1)∧s1≤q.1∧q.1≤s1+2 * ((i+1:Nat):Int):=by
   intro x y b hb hx
   unfold kT
   cases b with
   |true=>have:=hb rfl;rw [if_pos rfl];exact hfin _ _ _ (by omega) hx
   |false=>rw [if_neg (by simp)];exact hfin _ _ _ (by omega) hx
  show ∃ q:Int × Int × List Edge,iL cs t r18 more k O a1 b1 E' (i:Int)=some (.inl (q.1,q.2.1,q.2.2,((i+1:Nat):Int)))∧_
  unfold iL
  rw [if_pos (dE hi),cV hi,aB]
  by_cases hm0:0 < more
  ·rw [if_pos (by simpa using hm0)]
   obtain ⟨v,hv,_⟩:=rm_ok (x:=t.N+r18.1) (n:=t.N) (by omega) (by omega)
   rw [fH (x:=t.N+r18.1) (by omega) (by omega),hv,aB]
   split
   ·obtain ⟨b,x,y,e,h5,h6⟩:=aDu cs b1 (s1:=a1) (n:=2) (by omega) (by omega)
    rw [e,aB]
    exact hj5 _ _ _ (fun _=>hm0) (by simp only;omega)
   ·exact hj5 _ _ _ (fun h=>by cases h) (by omega)
  ·rw [if_neg (by simpa using hm0)]
   exact hj5 _ _ _ (fun h=>by cases h) (by omega)
 ·obtain ⟨a1,b1,E'⟩:=q
  obtain ⟨g1,g2,g3,g4⟩:=hI
  refine ⟨(a1,b1,E'),?_,g1,g2,g3,by simp only at g4 ⊢;omega⟩
  show iL cs t r18 more k O a1 b1 E' (O.length:Int)=_
  unfold iL
  rw [if_neg (by simp)]
def cap (t:cD) (k:Nat):Nat:=(t.E.filter fun e=>decide (e.F < (k:Int))).length+60 * (k - t.N.toNat)
theorem like_loop (h:Drn 60 t) {r18:Int × Int × Int} (hr:0≤r18.1∧r18.1 < t.N) {more:Int} (hm:0≤more∧more≤2) {s1:Int} (s2:Int) (hs:0≤s1∧s1≤100000000) (hst:t.N≤6):
  ∃ t' s1' s2',kU cs t r18 s1 s2 more=some (t',s1',s2')∧Drn 180 t':=by
 have h1:=h.ok.1
 have h2:=h.ok.2.1
 have h4:=h.ed
 have hlab:=h.ok.2.2.1
 unfold kU
 have key:=dI (step:=fun s:Int × Int × List Edge × Int=>iM cs t r18 more s.1 s.2.1 s.2.2.1 s.2.2.2) (t.N+more).toNat (fun k (q:Int × Int × List Edge)=>(q.1,q.2.1,q.2.2,(k:Int))) (fun k q=>(∀ e∈q.2.2,uI (t.N+more) t.L.length e)∧q.2.2.length≤cap t k∧s1≤q.1∧q.1≤s1+120 * k)
  (fun r=>(∀ e∈r.1,uI (t.N+more) t.L.length e)∧r.1.length≤180) (fun k q hk hI=>?_) (fun q hI=>?_) (t.N+more).toNat 0 (s1,s2,[]) (by omega) ⟨by simp,by simp,Int.le_refl _,by simp⟩
 ·obtain ⟨⟨E,a1,b1⟩,e1,g1,g2⟩:=key
  have e1':loop (fun s:Int × Int × List Edge × Int=>iM cs t r18 more s.1 s.2.1 s.2.2.1 s.2.2.2) (s1,s2,([]:List Edge),0)=some (E,a1,b1):=e1
  obtain ⟨t',m1,m2,m3,m4⟩:=aFF (T:=t.L) h.nm (by have:=hlab.2.1;omega) (st:=t.N+more) (ini:=t.I) (by omega) (by omega) (edges:=E) (by simp only at g2;omega) (fun x hx=>by have:=g1 x hx;unfold uI at this;exact ⟨this.1,this.2.1,this.2.2⟩)
  rw [e1',aB]
  unfold pN
  rw [fH (x:=t.N+more) (by omega) (by omega),m1,aB]
  exact ⟨t',a1,b1,rfl,m2.mono g2⟩
 ·obtain ⟨a1,b1,E⟩:=q
  obtain ⟨g1,g2,g3,g4⟩:=hI
  simp only at g1 g2 g3 g4 ⊢
  have hcap:∀ j,(t.E.filter fun e=>decide (e.F < j)).length≤60:=fun j=>Nat.le_trans (List.length_filter_le _ _) h4
  have hcapk:cap t k≤60+60 * (k - t.N.toNat):=by unfold cap;have:=hcap (k:Int);omega
  have hkk:k≤8:=by omega
  show ∃ q:Int × Int × List Edge,iM cs t r18 more a1 b1 E (k:Int)=some (.inl (q.1,q.2.1,q.2.2,((k+1:Nat):Int)))∧_
  unfold iM
  rw [fH (x:=t.N+more) (by omega) (by omega),if_pos (by simp;omega)]
  by_cases ho:t.N≤(k:Int)
  ·have hwk:wr ((k:Int)+r18.1)=(k:Int)+r18.1:=fH (by omega) (by omega)
   obtain ⟨v,hv,_⟩:=rm_ok (x:=(k:Int)+r18.1) (n:=t.N) (by omega) (by omega)
   rw [if_pos (by simpa using ho),fH (x:=(k:Int)+r18.1) (by omega) (by omega),hv,aB]
   obtain ⟨x,y,E',e,f1,f2,f3,f4⟩:=aLt cs h hr hm (k:=k) (old:=v) (by omega) (s1:=a1) b1 (by omega) g1 (by omega)
   refine ⟨(x,y,E'),e,f2,?_,by simp only;omega,by simp only;omega⟩
   have hv6:(t.E.filter fun e=>e.F == v).length≤60:=Nat.le_trans (List.length_filter_le _ _) h4
   have hup:=aJi t.E (k:Int)
   unfold cap at g2 ⊢
   simp only
   rw [show ((k+1:Nat):Int)=(k:Int)+1 from rfl,hup]
   omega
  ·rw [if_neg (by simpa using ho)]
   obtain ⟨x,y,E',e,f1,f2,f3,f4⟩:=aLt cs h hr hm (k:=k) (old:=k) (by omega) (s1:=a1) b1 (by omega) g1 (by omega)
   refine ⟨(x,y,E'),e,f2,?_,by simp only;omega,by simp only;omega⟩
   have hup:=aJi t.E (k:Int)
   unfold cap at g2 ⊢
   simp only
   rw [show ((k+1:Nat):Int)=(k:Int)+1 from rfl,hup]
   omega
 ·obtain ⟨a1,b1,E⟩:=q
  obtain ⟨g1,g2,g3,g4⟩:=hI
  have hl:(t.E.filter fun e=>decide (e.F < ((t.N+more).toNat:Int))).length≤60:=Nat.le_trans (List.length_filter_le _ _) h4
  refine ⟨(E,a1,b1),?_,g1,?_⟩
  ·show iM cs t r18 more a1 b1 E (((t.N+more).toNat:Nat):Int)=_
   unfold iM
   rw [fH (x:=t.N+more) (by omega) (by omega),if_neg (by simp;omega)]
  ·simp only at g2 ⊢
   unfold cap at g2
   omega
theorem like_ok (h:Drn 60 t) (hst:t.N≤6) {s1:Int} (s2:Int) (hs:0≤s1∧s1≤1000000):∃ t' s1' s2',uX cs s1 s2 t=some (t',s1',s2')∧Drn 180 t':=by
 have h1:=h.ok.1
 obtain ⟨v,x,y,e,hv,h5,h6⟩:=jP cs s2 (s1:=s1) (n:=t.N) (by omega) (by omega)
 obtain ⟨v2,x2,y2,e2,hv2,h52,h62⟩:=jP cs y (s1:=x) (n:=3) (by omega) (by omega)
 unfold uX
 rw [e,aB,if_pos (by simp;omega)]
 show ∃ t' s1' s2',(ob (cL cs x y 3) fun r317=>kU cs t (v,x,y) r317.2.1 r317.2.2 r317.1)=_∧_
 rw [e2,aB]
 exact like_loop cs h hv (by simp only;omega) y2 (by simp only;omega) hst
theorem add_ok (h:Drn 60 t) {x l y:Int} (hx:0≤x∧x < t.N) (hl:0≤l∧l < t.L.length) (hy:0≤y∧y < t.N):
  ∃ t',kS t.N t.I t.L (t.E++[(⟨x,l,y⟩:Edge)])=some t'∧Drn 61 t':=by
 have h1:=h.ok.1
 have h2:=h.ok.2.1
 have h3:=h.st
 have h4:=h.ed
 have hlab:=h.ok.2.2.1
 have hl2:(t.E++[(⟨x,l,y⟩:Edge)]).length=t.E.length+1:=by simp
 obtain ⟨t',m1,m2,m3,m4⟩:=aFF (T:=t.L) h.nm (by have:=hlab.2.1;omega) (st:=t.N) (ini:=t.I) (by omega) (by omega) (edges:=t.E++[(⟨x,l,y⟩:Edge)]) (by omega) (fun e he=>by
  rcases List.mem_append.1 he with he|he
  ·have:=nM h.ok he
   unfold iG at this
   exact ⟨this.1,this.2.1,this.2.2⟩
  ·rw [List.mem_singleton] at he
   subst he
   exact ⟨hx,hy,hl⟩)
 exact ⟨t',m1,m2.mono (by omega)⟩
theorem two2_ok {a b:cD} {s1:Int} (s2:Int) (hs:0≤s1∧s1≤10000) (ha:Drn 60 a) (has:a.N≤6) (hb:Drn 60 b) {r16 r30 r44:_} (e16:r16.1=a) (e30:r30.1=b) (e1:r44.2.1=s1) (e2:r44.2.2=s2) (v:Bool):
  ∃ b',tE cs r16 r30 r44 v=some (a,b')∧Drn 180 b':=by
 subst e16 e30 e1 e2
 have h1:=ha.ok.1
 have h2:=ha.ok.2.2.1
 have h3:=h2.1
 unfold tE
 cases v with
 |true=>
  obtain ⟨t',x,y,e,h⟩:=like_ok cs ha has (s1:=r44.2.1) r44.2.2 (by omega)
  rw [if_pos rfl,e,aB]
  exact ⟨t',rfl,h⟩
 |false=>
  rw [if_neg (by simp)]
  split
  ·obtain ⟨b,x,y,e,_⟩:=aDu cs r44.2.2 (s1:=r44.2.1) (n:=2) (by omega) (by omega)
   obtain ⟨t',e2,h,_⟩:=aMy (by omega) ha b
   rw [e,aB,e2,aB]
   exact ⟨t',rfl,h.mono (by omega)⟩
  ·split
   ·obtain ⟨t',e,h,_⟩:=aMx ha
    rw [e,aB]
    exact ⟨t',rfl,h.mono (by omega)⟩
   ·split
    ·have h4:=ha.ed
     obtain ⟨v1,x1,y1,f1,g1,i1,j1⟩:=jP cs r44.2.2 (s1:=r44.2.1) (n:=r16.1.N) (by omega) (by omega)
     obtain ⟨v2,x2,y2,f2,g2,i2,j2⟩:=jP cs y1 (s1:=x1) (n:=(r16.1.L.length:Int)) (by omega) (by omega)
     obtain ⟨v3,x3,y3,f3,g3,i3,j3⟩:=jP cs y2 (s1:=x2) (n:=r16.1.N) (by omega) (by omega)
     obtain ⟨t',e,h⟩:=add_ok ha g1 g2 g3
     rw [dX (by simp only [List.length_nil];unfold iX;omega),aB,f1,aB,f2,aB,f3,aB,List.nil_append,dX (by simp only [List.length_singleton];unfold iX;omega),aB,e,aB]
     exact ⟨t',rfl,h.mono (by omega)⟩
    ·exact ⟨_,rfl,hb.mono (by omega)⟩
theorem two_ok:∃ a b,aFc cs=some (a,b)∧Drn 60 a∧a.N≤6∧Drn 180 b:=by
 obtain ⟨a,x,y,e,ha,h1,h2⟩:=aJf cs (s1:=0) 0 (by omega)
 obtain ⟨b,x',y',e',hb,h1',h2'⟩:=aJf cs (s1:=x) y (by omega)
 obtain ⟨v,x2,y2,e2,g,i,j⟩:=jP cs y' (s1:=x') (n:=6) (by omega) (by omega)
 unfold aFc aAW
 rw [aB]
 show ∃ a b,(ob (qH cs 0 0) fun r16=>ob (qH cs r16.2.1 r16.2.2) fun r30=>ob (cL cs r30.2.1 r30.2.2 6) fun r44=>if (r44.1 == 0) then (tE cs r16 r30 r44 (r44.1 == 0)) else (tE cs r16 r30 r44 (r44.1 == 1)))=_∧_
 rw [e,aB,e',aB,e2,aB]
 have hw:=fun v=>two2_ok cs (a:=a) (b:=b) (s1:=x2) y2 (by omega) ha.1 ha.2 hb.1 (r16:=(a,x,y)) (r30:=(b,x',y')) (r44:=(v,x2,y2)) rfl rfl rfl rfl
 split
 ·obtain ⟨b',h3,h4⟩:=hw _ _
  exact ⟨a,b',h3,ha.1,ha.2,h4⟩
 ·obtain ⟨b',h3,h4⟩:=hw _ _
  exact ⟨a,b',h3,ha.1,ha.2,h4⟩
theorem at_ok {k n:Int} (hn:1≤n) (hk:0≤k):∃ v,aHi cs k n=some v∧0≤v∧v < n:=by
 unfold aHi aCi
 split
 ·exact ⟨0,rfl,by omega,by omega⟩
 ·by_cases h:(cs.length:Int)≤k
  ·rw [if_pos (by simpa using h)];exact ⟨0,rfl,by omega,by omega⟩
  ·rw [if_neg (by simpa using h)]
   have hb:=byte_le (cs[k.toNat]'(by omega))
   obtain ⟨v,hv,h1,h2⟩:=rm_ok (x:=((cs[k.toNat]'(by omega)).toNat:Int)) (n:=n) hb.1 hn
   have he:ix cs k=some (cs[k.toNat]'(by omega)):=by
    have:=cV (xs:=cs) (k:=k.toNat) (by omega)
    rwa [Int.toNat_of_nonneg hk] at this
   rw [he,aB,fH (x:=((cs[k.toNat]'(by omega)).toNat:Int)) (by omega) (by omega),hv,aB]
   exact ⟨v,rfl,h1,h2⟩
end
end Gv
set_option linter.unusedSimpArgs false
set_option linter.unusedVariables false
namespace Gv
open Go
theorem cmp1_ok (a b:List Int) (h:a.length≤1000000):∃ v,xW a b=some v:=by
 unfold xW
 obtain ⟨r,e,_⟩:=uM (step:=fun s:Int=>rE a b s) (fun s=>∃ k:Nat,s=(k:Int)∧k≤a.length) (fun s=>a.length - s.toNat) (fun _=>True) (fun s hI=>by
  obtain ⟨k,rfl,hk⟩:=hI
  unfold rE
  by_cases h1:k < a.length
  ·rw [if_pos (dE h1)]
   unfold nZ
   by_cases h2:k < b.length
   ·rw [if_pos (dE h2),cV h1,aB,cV h2,aB]
    split
    ·exact .inr ⟨_,rfl,trivial⟩
    ·split
     ·exact .inr ⟨_,rfl,trivial⟩
     ·rw [cO h1 (by omega)]
      exact .inl ⟨_,rfl,⟨k+1,rfl,by omega⟩,by omega⟩
   ·rw [if_neg (by simp;omega)]
    exact .inr ⟨_,rfl,trivial⟩
  ·rw [if_neg (by simp;omega)]
   unfold nZ
   rw [if_neg (by simp)]
   exact .inr ⟨_,rfl,trivial⟩) (s:=0) ⟨0,rfl,by omega⟩
 rw [e,aB]
 cases r with
 |inl r=>
  show ∃ v,nY a b=some v
  unfold nY
  split
  ·exact ⟨_,rfl⟩
  ·split<;>exact ⟨_,rfl⟩
 |inr r=>exact ⟨r,rfl⟩
theorem insert_ok (rows:List (List Int)) (row:List Int) (h:rows.length≤10000) (hr:∀ r∈rows,r.length≤2):∃ r,aAo rows row=some r∧r.length≤20001:=by
 unfold aAo
 have key:=dI (step:=fun s:List (List Int) × Bool × Int=>kH rows row s.1 s.2.1 s.2.2) rows.length (fun i (q:List (List Int) × Bool)=>(q.1,q.2,(i:Int))) (fun i q=>q.1.length≤2 * i) (fun r=>r.1.length≤20000) (fun i q hi hI=>?_) (fun q hI=>?_) rows.length 0 ([],false) (by omega) (by simp)
 ·obtain ⟨⟨o,d⟩,e,hl⟩:=key
  have e':loop (fun s:List (List Int) × Bool × Int=>kH rows row s.1 s.2.1 s.2.2) (([]:List (List Int)),false,0)=some (o,d):=e
  simp only at hl
  rw [e',aB]
  show ∃ r,pU row o d=some r∧_
  unfold pU tG
  split
  ·rw [dX (by simp only [List.length_singleton];unfold iX;omega),aB]
   exact ⟨_,rfl,by simp;omega⟩
  ·exact ⟨_,rfl,by omega⟩
 ·obtain ⟨o,d⟩:=q
  simp only at hI ⊢
  have hg:=hr _ (List.getElem_mem hi)
  obtain ⟨v,hv⟩:=cmp1_ok rows[i] row (by omega)
  have hj:∀ (o':List (List Int)) (d':Bool),o'.length≤2 * i+1→∃ q:List (List Int) × Bool,nA (i:Int) rows[i] o' d'=some (.inl (q.1,q.2,((i+1:Nat):Int)))∧q.1.length≤2 * (i+1):=by
   intro o' d' h'
   unfold nA
   rw [dX (by simp only [List.length_singleton];unfold iX;omega),aB,cO hi (by omega)]
   exact ⟨(o'++[rows[i]],d'),rfl,by simp;omega⟩
  have hj4:∀ b:Bool,∃ q:List (List Int) × Bool,pV row o d (i:Int) rows[i] v b=some (.inl (q.1,q.2,((i+1:Nat):Int)))∧q.1.length≤2 * (i+1):=by
   intro b
   unfold pV
   split
   ·split
    ·rw [dX (by simp only [List.length_singleton];unfold iX;omega),aB]
     exact hj _ _ (by simp;omega)
    ·exact hj _ _ (by omega)
   ·exact hj _ _ (by omega)
  show ∃ q:List (List Int) × Bool,kH rows row o d (i:Int)=_∧_
  unfold kH
  rw [if_pos (dE hi),cV hi,aB,hv,aB]
  split<;>exact hj4 _
 ·obtain ⟨o,d⟩:=q
  refine ⟨(o,d),?_,by simp only at hI ⊢;omega⟩
  show kH rows row o d (rows.length:Int)=_
  unfold kH
  rw [if_neg (by simp)]
section
variable {a b:cD} {p:List Int}
theorem betw_row (ha:cF a) (hb:cF b) (hp:p.length=(a.N+b.N).toNat) {x:Nat} (hx:(x:Int) < a.N) {o:List (List Int)} (ho:o.length≤40 * x) (h2:∀ r∈o,r.length≤2):
  ∃ o',jO a b p o (x:Int)=some (.inl (o',((x+1:Nat):Int)))∧o'.length≤40 * (x+1)∧∀ r∈o',r.length≤2:=by
 have a1:=ha.1
 have b1:=hb.1
 unfold jO
 rw [if_pos (by simpa using hx)]
 have key:=dI (step:=fun s:List (List Int) × Int=>jN a b p (x:Int) s.1 s.2) b.N.toNat (fun j (q:List (List Int))=>(q,(j:Int))) (fun j q=>q.length≤o.length+j∧∀ r∈q,r.length≤2) (fun r=>r.length≤o.length+40∧∀ x∈r,x.length≤2) (fun j q hj hI=>?_) (fun q hI=>?_) b.N.toNat 0 o (by omega) ⟨by omega,h2⟩
 ·obtain ⟨o',e,g1,g2⟩:=key
  have e':loop (fun s:List (List Int) × Int=>jN a b p (x:Int) s.1 s.2) (o,0)=some o':=e
  rw [e',aB]
  unfold rD vR
  rw [cO (n:=40) (by omega) (by omega)]
  exact ⟨o',rfl,by omega,g2⟩
 ·obtain ⟨g1,g2⟩:=hI
  have hx2:x < p.length:=by omega
  have hj2:a.N.toNat+j < p.length:=by omega
  have hfin:∀ q':List (List Int),q'.length≤o.length+(j+1)→(∀ r∈q',r.length≤2)→∃ q'',nX (j:Int) q'=some (.inl (q'',((j+1:Nat):Int)))∧q''.length≤o.length+(j+1)∧∀ r∈q'',r.length≤2:=by
   intro q' h1 h3
   unfold nX
   rw [cO hj (by omega)]
   exact ⟨q',rfl,h1,h3⟩
  show ∃ q',jN a b p (x:Int) q (j:Int)=_∧_
  unfold jN
  rw [if_pos (by simp;omega),cV hx2,aB,fH (x:=a.N+(j:Int)) (by omega) (by omega),show a.N+(j:Int)=((a.N.toNat+j:Nat):Int) by omega,cV hj2,aB]
  split
  ·rw [dX (by simp only [List.length_singleton];unfold iX;omega),aB]
   refine hfin _ (by simp;omega) fun r hr=>?_
   rcases List.mem_append.1 hr with hr|hr
   ·exact g2 r hr
   ·rw [List.mem_singleton] at hr
    subst hr
    exact Nat.le_refl 2
  ·exact hfin _ (by omega) g2
 ·obtain ⟨g1,g2⟩:=hI
  refine ⟨q,?_,by omega,g2⟩
  show jN a b p (x:Int) q ((b.N.toNat:Nat):Int)=_
  unfold jN
  rw [if_neg (by simp;omega)]
theorem betw_ok (ha:cF a) (hb:cF b) (hp:p.length=(a.N+b.N).toNat):∃ r,xV a b p=some r∧r.length≤1600∧∀ x∈r,x.length≤2:=by
 have a1:=ha.1
 unfold xV
 have key:=dI (step:=fun s:List (List Int) × Int=>jO a b p s.1 s.2) a.N.toNat (fun j (q:List (List Int))=>(q,(j:Int))) (fun j q=>q.length≤40 * j∧∀ r∈q,r.length≤2) (fun r=>r.length≤1600∧∀ x∈r,x.length≤2) (fun j q hj hI=>?_) (fun q hI=>?_) a.N.toNat 0 [] (by omega) (by simp)
 ·obtain ⟨o',e,g1,g2⟩:=key
  have e':loop (fun s:List (List Int) × Int=>jO a b p s.1 s.2) (([]:List (List Int)),0)=some o':=e
  rw [e',aB]
  exact ⟨o',rfl,g1,g2⟩
 ·exact betw_row ha hb hp (by omega) hI.1 hI.2
 ·refine ⟨q,?_,by omega,hI.2⟩
  show jO a b p q ((a.N.toNat:Nat):Int)=_
  unfold jO
  rw [if_neg (by simp;omega)]
theorem aJj (cs:bI) (ha:cF a) (hb:cF b) (hp:p.length=(a.N+b.N).toNat) {s1:Int} (s2:Int) (hs:0≤s1∧s1≤1000000):∃ r,uE cs a b s1 s2 p=some r∧r.length≤100000:=by
 have a1:=ha.1
 have b1:=hb.1
 obtain ⟨r,e,hl,h2⟩:=betw_ok ha hb hp
 unfold uE
 rw [e,aB]
 have key:=dI (step:=fun s:Int × Int × List (List Int) × Int=>lZ cs r s.1 s.2.1 s.2.2.1 s.2.2.2) r.length (fun i (q:Int × Int × List (List Int))=>(q.1,q.2.1,q.2.2,(i:Int))) (fun i q=>(q.2.2.length≤i∧∀ x∈q.2.2,x.length≤2)∧s1≤q.1∧q.1≤s1+2 * i) (fun q=>(q.2.2.length≤1600∧∀ x∈q.2.2,x.length≤2)∧s1≤q.1∧q.1≤s1+3200) (fun i q hi hI=>?_) (fun q hI=>?_) r.length 0 (s1,s2,[]) (by omega) ⟨⟨by simp,by simp⟩,Int.le_refl _,by simp⟩
 ·obtain ⟨⟨x,y,o⟩,e1,⟨g1,g2⟩,g3,g4⟩:=key
  simp only at g1 g2 g3 g4
  have e1':loop (fun s:Int × Int × List (List Int) × Int=>lZ cs r s.1 s.2.1 s.2.2.1 s.2.2.2) (s1,s2,([]:List (List Int)),0)=some (x,y,o):=e1
  rw [e1',aB]
  show ∃ r,uD cs a b x y o=some r∧_
  unfold uD xX
  obtain ⟨c,x1,y1,f1,f2,f3⟩:=aDu cs y (s1:=x) (n:=4) (by omega) (by omega)
  rw [f1,aB]
  split
  ·obtain ⟨v,x2,y2,k1,_,k2,k3⟩:=jP cs y1 (s1:=x1) (n:=a.N) (by omega) (by omega)
   obtain ⟨w,x3,y3,l1,_,l2,l3⟩:=jP cs y2 (s1:=x2) (n:=b.N) (by omega) (by omega)
   obtain ⟨o',m1,m2⟩:=insert_ok o [v,w] (by omega) g2
   rw [k1,aB,l1,aB,m1,aB]
   exact ⟨o',rfl,by omega⟩
  ·exact ⟨o,rfl,by omega⟩
 ·obtain ⟨x,y,o⟩:=q
  obtain ⟨⟨g1,g2⟩,g3,g4⟩:=hI
  simp only at g1 g2 g3 g4 ⊢
  obtain ⟨c,x1,y1,f1,f2,f3⟩:=aDu cs y (s1:=x) (n:=9) (by omega) (by omega)
  show ∃ q:Int × Int × List (List Int),lZ cs r x y o (i:Int)=some (.inl (q.1,q.2.1,q.2.2,((i+1:Nat):Int)))∧_
  unfold lZ
  rw [if_pos (dE hi),f1,aB,cV hi,aB]
  unfold xY
  rw [cO hi (by omega)]
  split
  ·rw [dX (by simp only [List.length_singleton];unfold iX;omega),aB]
   refine ⟨(x1,y1,_),rfl,⟨by simp;omega,fun z hz=>?_⟩,by simp only;omega,by simp only;omega⟩
   rcases List.mem_append.1 hz with hz|hz
   ·exact g2 z hz
   ·rw [List.mem_singleton] at hz
    subst hz
    exact h2 _ (List.getElem_mem hi)
  ·exact ⟨(x1,y1,o),rfl,⟨by simp only;omega,g2⟩,by simp only;omega,by simp only;omega⟩
 ·obtain ⟨x,y,o⟩:=q
  obtain ⟨⟨g1,g2⟩,g3,g4⟩:=hI
  simp only at g1 g2 g3 g4
  refine ⟨(x,y,o),?_,⟨by simp only;omega,g2⟩,g3,by simp only;omega⟩
  show lZ cs r x y o (r.length:Int)=_
  unfold lZ
  rw [if_neg (by simp)]
theorem pairs_ok (cs:bI) (ha:cF a) (hb:cF b):∃ r,aBa cs a b false=some r∧r.length≤100000:=by
 obtain ⟨M,Eo,hU⟩:=uni_ex ha hb
 have hbig:=uni_big ha hb hU
 obtain ⟨p,p1,p2⟩:=aJh hbig
 unfold aBa aAW
 rw [aB,union_ref ha hb hU,aB,p1,aB,if_neg (by simp)]
 unfold xZ
 obtain ⟨c,x1,y1,f1,f2,f3⟩:=aDu cs 0 (s1:=0) (n:=4) (by omega) (by omega)
 rw [f1,aB]
 split
 ·obtain ⟨v,x2,y2,k1,k4,k2,k3⟩:=jP cs y1 (s1:=x1) (n:=3) (by omega) (by omega)
  obtain ⟨q,q1,q2⟩:=aMu hbig (n:=v) (by omega)
  rw [k1,aB,q1,aB]
  exact aJj cs ha hb q2.1 (s1:=x2) y2 (by omega)
 ·exact aJj cs ha hb p2.1 (s1:=x1) y1 (by omega)
end
end Gv
set_option linter.unusedSimpArgs false
set_option linter.unusedVariables false
namespace Gv
open Go
theorem long_ok (cs ms:bI):∃ b,aCX cs ms=some b:=by
 unfold aCX aAc
 split<;>exact ⟨_,rfl⟩
section
variable {a b:cD} {kind:Int}
theorem aJk (ha:cF a) (hb:cF b):(aAq a b kind).length≤1600:=by
 have h1:=mF_le (a:=a) (b:=b) (kind:=kind) _ (Nat.le_refl _)
 have h2:=aIb ha hb
 have h3:(mL a b kind 0).length≤(prs2 a b).length:=List.length_filter_le _ _
 unfold aAq
 rw [show (ordQ (mL a b kind (mF a b kind))).length=(mL a b kind (mF a b kind)).length from (aIT _).length_eq]
 omega
theorem sims_loop (ha:cF a) (hb:cF b) {l:List (Int × Int)} (hr:l.length < 1000000000) (h:∀ p∈l,p∈aAq a b kind) {n:Int}:
  loop (fun s:Int=>fR ((aAq a b kind).map R2,n) (l.map R2) s) 0=some (.inl ()):=by
 obtain ⟨r,e,hR⟩:=dI (step:=fun s:Int=>fR ((aAq a b kind).map R2,n) (l.map R2) s) l.length (fun k (_:Unit)=>(k:Int)) (fun _ _=>True) (fun r=>r=.inl ()) (fun k _ hk _=>by
  have hg:=h _ (List.getElem_mem hk)
  have hk':k < (l.map R2).length:=by simpa using hk
  refine ⟨(),?_,trivial⟩
  show fR ((aAq a b kind).map R2,n) (l.map R2) (k:Int)=_
  unfold fR
  rw [if_pos (dE hk'),cV hk',aB,List.getElem_map,show ix (R2 l[k]) 0=some l[k].1 from rfl,aB,show ix (R2 l[k]) 1=some l[k].2 from rfl,aB,r8Pair_eq _ (Nat.lt_of_le_of_lt (aJk ha hb) (by decide)),aB,decide_eq_true hg,if_neg (by simp),cO hk (by omega)]) (fun _ _=>by
  refine ⟨_,?_,rfl⟩
  show fR ((aAq a b kind).map R2,n) (l.map R2) (l.length:Int)=_
  unfold fR
  rw [if_neg (by simp)]) l.length 0 () (by omega) trivial
 subst hR
 exact e
theorem sims_end (ms:bI) (ha:cF a) (hb:cF b) (fa:oL 999999999 a) (fb:oL 999999999 b) (hk:0≤kind∧kind≤2) (is:Bool) (his:is=smG a b kind a.I b.I) {W:List (List Int)} {d:Int} (hW:is=true→W=(aAq a b kind).map R2) {n:Int}:
  bV ms (a,b) kind (is,n) (W,d) false=some true:=by
 obtain ⟨r,h1,h2⟩:=pairs_ok ms ha hb
 obtain ⟨c,h3,h4⟩:=aLg ha hb fa fb hk r (by omega)
 unfold bV
 rw [if_neg (by simp)]
 show (ob (aBa ms a b false) fun r272=>ob (kV a b kind r272) fun r285=>if (!r285) then (some true) else (ob (loop (fun (s:Int)=>fR (W,d) r272 s) 0) fun r=>match r with|.inl r=>nB (is,n)|.inr r=>some r))=some true
 rw [h1,aB,h3,aB]
 cases c with
 |false=>rfl
 |true=>
  obtain ⟨l,rfl,hl⟩:=h4.1 rfl
  have hi:=accd_le ha hb hl hl.2.1
  have hs:is=true:=by rw [his];exact (aBb.1 hi).2
  rw [if_neg (by simp),hW hs,sims_loop ha hb (by simp at h2;omega) (fun p hp=>accd_le ha hb hl hp),aB]
  show some is=some true
  rw [hs]
end
theorem lawSims (cs ms:bI):vS cs ms=some true:=by
 obtain ⟨l,hl⟩:=long_ok cs ms
 unfold vS
 rw [hl,aB]
 cases l with
 |true=>rfl
 |false=>
  rw [if_neg (by simp)]
  obtain ⟨a,b,h2,da,_,db⟩:=two_ok cs
  obtain ⟨k,h3,h4⟩:=at_ok ms (k:=40) (n:=3) (by omega) (by omega)
  have hk:0≤k∧k≤2:=by omega
  have ha:=da.ok
  have hb:=db.ok
  have fa:=da.fits
  have fb:=db.fits
  have hIA:iG a a.I:=by have:=ha.2.1;unfold iG;omega
  have hIB:iG b b.I:=by have:=hb.2.1;unfold iG;omega
  obtain ⟨c,h5,h6⟩:=aLm ha hb fa fb
  have e1:=sm_ready ha hb hIA hIB
  have e2:=sm_plain ha hb hIA hIB
  have e3:=sm_refl (kind:=k) ha hIA
  obtain ⟨is2,g1,g2⟩:=aLg ha hb fa fb hk ((aAq a b k).map R2) (by simp;have:=aJk (kind:=k) ha hb;omega)
  rw [h2,aB,h3,aB]
  show (ob (jB a b k) fun r59=>ob (pS a b k) fun r87=>ob (jB a b 0) fun r119=>ob (jB a b 1) fun r147=>ob (jB a b 2) fun r175=>ob (pT a b) fun r203=>ob (jB a a k) fun r221=>
   if (r59.2 != 0) then (dD ms (a,b) k r59 r87 r119 r147 r175 r203 true) else (if (r119.2 != 0) then (dD ms (a,b) k r59 r87 r119 r147 r175 r203 true) else (if (r147.2 != 0) then (dD ms (a,b) k r59 r87 r119 r147 r175 r203 true) else (if (r175.2 != 0) then (dD ms (a,b) k r59 r87 r119 r147 r175 r203 true) else (if (r203.2 != 0) then (dD ms (a,b) k r59 r87 r119 r147 r175 r203 true) else (if (r221.2 != 0) then (dD ms (a,b) k r59 r87 r119 r147 r175 r203 true) else (dD ms (a,b) k r59 r87 r119 r147 r175 r203 (!r221.1))))))))=some true
  rw [yC ha hb fa fb hk,aB,aGC ha hb fa fb hk,aB,yC ha hb fa fb (by omega),aB,yC ha hb fa fb (by omega),aB,yC ha hb fa fb (by omega),aB,h5,aB,yC ha ha fa fa hk,aB,e3]
  rw [if_neg (by simp),if_neg (by simp),if_neg (by simp),if_neg (by simp),if_neg (by simp),if_neg (by simp)]
  unfold dD
  rw [if_neg (by simp)]
  have fin:∀ W d,(smG a b k a.I b.I=true→W=(aAq a b k).map R2)→bV ms (a,b) k (smG a b k a.I b.I,0) (W,d) false=some true:=fun W d h=>sims_end ms ha hb fa fb hk _ rfl h
  have hro:smG a b 1 a.I b.I=true→smG a b 0 a.I b.I=true:=e1
  have hpl:smG a b 0 a.I b.I=true→smG a b 2 a.I b.I=true:=e2
  cases hs:smG a b k a.I b.I with
  |false=>
   rw [hs] at fin
   have fin:=fin [] 3 (by simp)
   generalize smG a b 1 a.I b.I=r1 at *
   generalize smG a b 0 a.I b.I=r0 at *
   generalize smG a b 2 a.I b.I=r2 at *
   cases c<;>cases r1<;>cases r0<;>cases r2<;>simp_all
  |true=>
   have hacc:is2=true:=g2.2 ⟨_,rfl,aMr ha hb hs⟩
   rw [hs] at fin
   have fin:=fin ((aAq a b k).map R2) 0 (fun _=>rfl)
   subst hacc
   generalize smG a b 1 a.I b.I=r1 at *
   generalize smG a b 0 a.I b.I=r0 at *
   generalize smG a b 2 a.I b.I=r2 at *
   simp only [if_pos rfl,g1,aB]
   cases c<;>cases r1<;>cases r0<;>cases r2<;>simp_all
end Gv
