/- What is drawn for monitors: systems that may be bent. -/
import Derived.Test.YtgpmcacjpjongaaGreatDoorJP90
set_option linter.all false
set_option linter.unusedSimpArgs false
set_option linter.unusedVariables false
namespace Gv
open Go
def Ok9 (t:bF):Prop:=bM t/\cJ 500 t
theorem Drn.ok9 {c:Nat} {t:bF} (h:Drn c t):Ok9 t:=by
 have h1:=h.ok.2.2.1.2.1
 have h2:=h.ok.2.2.2.1
 refine ⟨h.ok,by omega,fun s hs=>?_,by omega⟩
 have:=Nm_len s (h.nm s hs)
 omega
theorem cJ.up {a b:Nat} {t:bF} (h:cJ a t) (hab:a<=b):cJ b t:=⟨Nat.le_trans h.1 hab,fun s hs=>Nat.le_trans (h.2.1 s hs) hab,Nat.le_trans h.2.2 hab⟩
theorem Ok9.det {t:bF} (h:Ok9 t) (hs:Small (eA t)):Ok9 (iM t):=by
 refine ⟨(aJz h.1 hs).1,h.2.1,h.2.2.1,?_⟩
 have:=hs.2
 show (eA t).2.length<=500
 omega
theorem Ok9.cut {t:bF} (h:Ok9 t) {E:List Edge} (hE:E.Sublist t.E):Ok9 ⟨t.N,t.I,t.L,E⟩:=by
 have hl:=hE.length_le
 have h3:=h.1.2.2.2.1
 refine ⟨⟨h.1.1,h.1.2.1,h.1.2.2.1,aKR (by show E.length<=300;omega) ((aKK h.1).sublist hE) fun e he=>nJ h.1 (hE.subset he)⟩,h.2.1,h.2.2.1,by show E.length<=500;omega⟩
theorem own_fit {n:Nat} {t:bF} (h:cJ n t) (hn:n<=1000000):aCF t=some t:=by
 have h1:=h.1
 have h3:=h.2.2
 unfold aCF
 rw [cX (by simp [kJ];omega),aA,cX (by simp [kJ];omega),aA,List.nil_append,List.nil_append]
theorem text_ok (c:aF) {s1:Int} (s2:Int) (h:0<=s1/\s1<=100000000000) {l:List aF} (hl:l≠[]):∃ v s1' s2',rQ c s1 s2 l=some (v,s1',s2')/\v∈l/\s1<=s1'/\s1'<=s1+2:=by
 have h1:1<=(l.length:Int):=by
  have:=List.length_pos_iff.2 hl
  omega
 obtain ⟨v,a,b,e,hv,h2,h3⟩:=jK c s2 h h1
 unfold rQ
 rw [e,aA,aFD hv.1 (by omega),aA]
 exact ⟨_,_,_,rfl,List.getElem_mem _,h2,h3⟩
theorem bend_ok (c:aF) {s1:Int} (s2:Int) (h:0<=s1/\s1<=1000000000) {t:bF} (ht:Ok9 t):∃ u s1' s2',aCg c s1 s2 t=some (u,s1',s2')/\cJ 500 u/\s1<=s1'/\s1'<=s1+10:=by
 have g2:∀ s∈t.L,s.length<=500:=ht.2.2.1
 have f1:t.L.length<=12:=ht.1.2.2.1.2.1
 have f3:t.E.length<=300:=ht.1.2.2.2.1
 have hl0:1<=t.L.length:=ht.1.2.2.1.1
 obtain ⟨b,x,y,e,i1,i2⟩:=aFj c s2 (s1:=s1) (n:=8) (by omega) (by omega)
 obtain ⟨v,x',y',e',gv,j1,j2⟩:=jK c y (s1:=x) (n:=8) (by omega) (by omega)
 have hend:∀ (i j:Int) (L:List aF) (E:List Edge) (p q:Int),L.length<=500->(∀ s∈L,s.length<=500)->E.length<=500->s1<=p->p<=s1+10->∃ u s1' s2',gG i j L E p q=some (u,s1',s2')/\cJ 500 u/\s1<=s1'/\s1'<=s1+10:=
  fun i j L E p q k1 k2 k3 k4 k5=>⟨_,_,_,rfl,⟨k1,k2,k3⟩,k4,k5⟩
 unfold aCg
 rw [own_fit ht.2 (by decide),aA,e,aA]
 by_cases q:(!b)=true
 ·rw [if_pos q];exact ⟨_,_,_,rfl,ht.2.up (by decide),i1,by show x<=_;omega⟩
 rw [if_neg q]
 show ∃ u s1' s2',(ob (bX c x y 8) fun r46=>_)=_/\_
 rw [e',aA]
 show ∃ u s1' s2',(if (v == 0)=true then _ else _)=_/\_
 by_cases q0:(v == 0)=true
 ·rw [if_pos q0]
  obtain ⟨z,p,q,e3,_,k1,k2⟩:=aGp c y' (s1:=x') (l:=[0,-1,41,40,wr (t.N - 1)]) (by omega) (by simp)
  show ∃ u s1' s2',(ob (gQ c x' y' _) fun r77=>_)=_/\_
  rw [e3,aA]
  exact hend _ _ _ _ _ _ (by omega) g2 (by omega) (by show s1<=p;omega) (by show p<=_;omega)
 rw [if_neg q0]
 by_cases q1:(v == 1)=true
 ·rw [if_pos q1]
  obtain ⟨z,p,q,e3,_,k1,k2⟩:=aGp c y' (s1:=x') (l:=[-1,t.N]) (by omega) (by simp)
  show ∃ u s1' s2',(ob (gQ c x' y' _) fun r77=>_)=_/\_
  rw [e3,aA]
  exact hend _ _ _ _ _ _ (by omega) g2 (by omega) (by show s1<=p;omega) (by show p<=_;omega)
 rw [if_neg q1]
 by_cases q2:(v == 2)=true
 ·rw [if_pos q2]
  rw [aFD (by omega) (by omega),aA]
  have hst:st t.L 0 ([97]:aF)=some (t.L.set 0 [97]):=by
   unfold Gv.st
   rw [if_pos ⟨by omega,by omega⟩];rfl
  rw [hst,aA]
  refine hend _ _ _ _ _ _ (by rw [List.length_set];omega) (fun s hs=>?_) (by omega) (by show s1<=x';omega) (by show x'<=_;omega)
  rcases List.mem_or_eq_of_mem_set hs with hs|rfl
  ·exact g2 s hs
  ·decide
 rw [if_neg q2]
 by_cases q3:(v == 3)=true
 ·rw [if_pos q3]
  obtain ⟨z,p,q,e3,hz,k1,k2⟩:=text_ok c y' (s1:=x') (l:=[[116,97,117],[97],[122,122],[65],[]]) (by omega) (by simp)
  show ∃ u s1' s2',(ob (rQ c x' y' _) fun r77=>_)=_/\_
  rw [e3,aA,cX (by simp [kJ];omega),aA]
  refine hend _ _ _ _ _ _ (by simp;omega) (fun s hs=>?_) (by omega) (by show s1<=p;omega) (by show p<=_;omega)
  rcases List.mem_append.1 hs with hs|hs
  ·exact g2 s hs
  ·rw [List.mem_singleton] at hs
   subst hs
   have:∀ s∈([[116,97,117],[97],[122,122],[65],[]]:List aF),s.length<=500:=by decide
   exact this _ hz
 rw [if_neg q3]
 have hno:∃ u s1' s2',gG t.N t.I t.L t.E x' y'=some (u,s1',s2')/\cJ 500 u/\s1<=s1'/\s1'<=s1+10:=hend _ _ _ _ _ _ (by omega) g2 (by omega) (by omega) (by omega)
 by_cases q4:(v == 4)=true
 ·rw [if_pos q4]
  by_cases hp:(decide (0 < (t.E.length:Int)))=true
  ·rw [if_pos hp]
   have hp:0 < t.E.length:=by simpa using hp
   rw [aFD (by omega) (by omega),aA,cX (by simp [kJ];omega),aA]
   exact hend _ _ _ _ _ _ (by omega) g2 (by simp;omega) (by show s1<=x';omega) (by show x'<=_;omega)
  ·rw [if_neg hp];exact hno
 rw [if_neg q4]
 by_cases q5:(v == 5)=true
 ·rw [if_pos q5]
  by_cases hp:(decide (0 < (t.E.length:Int)))=true
  ·rw [if_pos hp]
   have hp:0 < t.E.length:=by simpa using hp
   obtain ⟨a,p0,q0,e2,ga,m1,m2⟩:=jK c y' (s1:=x') (n:=(t.E.length:Int)) (by omega) (by omega)
   obtain ⟨z,p,q,e3,_,k1,k2⟩:=aGp c q0 (s1:=p0) (l:=[-1,(t.L.length:Int),0]) (by omega) (by simp)
   show ∃ u s1' s2',(ob (bX c x' y' (t.E.length:Int)) fun r=>_)=_/\_
   rw [e2,aA]
   show ∃ u s1' s2',(ob (gQ c p0 q0 _) fun r77=>_)=_/\_
   rw [e3,aA,aFD (xs:=t.E) (j:=a) ga.1 (by omega),aA]
   unfold Gv.st
   rw [if_pos (by exact ⟨ga.1,by omega⟩),aA]
   exact hend _ _ _ _ _ _ (by omega) g2 (by rw [List.length_set];omega) (by show s1<=p;omega) (by show p<=_;omega)
  ·rw [if_neg hp];exact hno
 rw [if_neg q5]
 by_cases q6:(v == 6)=true
 ·rw [if_pos q6]
  by_cases hp:(decide (0 < (t.E.length:Int)))=true
  ·rw [if_pos hp]
   have hp:0 < t.E.length:=by simpa using hp
   obtain ⟨a,p0,q0,e2,ga,m1,m2⟩:=jK c y' (s1:=x') (n:=(t.E.length:Int)) (by omega) (by omega)
   obtain ⟨z,p,q,e3,_,k1,k2⟩:=aGp c q0 (s1:=p0) (l:=[-1,t.N,0]) (by omega) (by simp)
   show ∃ u s1' s2',(ob (bX c x' y' (t.E.length:Int)) fun r=>_)=_/\_
   rw [e2,aA]
   show ∃ u s1' s2',(ob (gQ c p0 q0 _) fun r77=>_)=_/\_
   rw [e3,aA,aFD (xs:=t.E) (j:=a) ga.1 (by omega),aA]
   unfold Gv.st
   rw [if_pos (by exact ⟨ga.1,by omega⟩),aA]
   exact hend _ _ _ _ _ _ (by omega) g2 (by rw [List.length_set];omega) (by show s1<=p;omega) (by show p<=_;omega)
  ·rw [if_neg hp];exact hno
 rw [if_neg q6]
 by_cases q7:(v == 7)=true
 ·rw [if_pos q7]
  exact hend _ _ _ _ _ _ (by simp) (by simp) (by omega) (by show s1<=x';omega) (by show x'<=_;omega)
 rw [if_neg q7]
 exact hno
theorem aMe (c:aF) {s1:Int} (s2:Int) (h:0<=s1/\s1<=10000000):∃ u s1' s2',aEm c s1 s2=some (u,s1',s2')/\cJ 500 u/\s1<=s1'/\s1'<=s1+510:=by
 obtain ⟨a,x,y,e,⟨ha,_⟩,h1,h2⟩:=draw15_ok c s2 h
 obtain ⟨u,x',y',e',hu,h3,h4⟩:=bend_ok c y (s1:=x) (by omega) ha.ok9
 unfold aEm
 rw [e,aA]
 show ∃ u s1' s2',(ob (aCg c x y a) fun r=>_)=_/\_
 rw [e',aA]
 exact ⟨_,_,_,rfl,hu,by show s1<=x';omega,by show x'<=_;omega⟩
end Gv
