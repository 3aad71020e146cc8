/- What is drawn for monitors: systems that may be bent. -/
import Derived.Test.YtlehiakgdejgkaaGreatDoorJP90
import Derived.Test.YtlehiakgdejgkaaGreatDoorJP62
set_option linter.all false
set_option linter.unusedSimpArgs false
set_option linter.unusedVariables false
namespace Gv
open Go
def Ok9 (t:aS):Prop:=aO t/\bA 500 t
theorem Drn.ok9 {c:Nat} {t:aS} (h:Drn c t):Ok9 t:=by
 have h1:=h.ok.2.2.1.2.1
 have h2:=h.ok.2.2.2.1
 refine ⟨h.ok,by omega,fun s hs=>?_,by omega⟩
 have:=Nm_len s (h.nm s hs)
 omega
theorem bA.up {a b:Nat} {t:aS} (h:bA a t) (hab:a<=b):bA b t:=⟨Nat.le_trans h.1 hab,fun s hs=>Nat.le_trans (h.2.1 s hs) hab,Nat.le_trans h.2.2 hab⟩
theorem Ok9.ask {t:aS} (h:Ok9 t):Ask t:=⟨h.1,h.2.up (by decide)⟩
theorem Ok9.det {t:aS} (h:Ok9 t) (hs:Small (fI t)):Ok9 (aKD t):=by
 refine ⟨(aPM h.1 hs).1,h.2.1,h.2.2.1,?_⟩
 have:=hs.2
 show (fI t).2.length<=500
 omega
theorem Ok9.cut {t:aS} (h:Ok9 t) {E:List Edge} (hE:E.Sublist t.E):Ok9 ⟨t.N,t.I,t.L,E⟩:=by
 have hl:=hE.length_le
 have h3:=h.1.2.2.2.1
 refine ⟨⟨h.1.1,h.1.2.1,h.1.2.2.1,aNG (by show E.length<=300;omega) ((edges_SE h.1).sublist hE) fun e he=>mY h.1 (hE.subset he)⟩,h.2.1,h.2.2.1,by show E.length<=500;omega⟩
theorem own_fit {n:Nat} {t:aS} (h:bA n t) (hn:n<=1000000):aCy t=some t:=by
 have h1:=h.1
 have h3:=h.2.2
 unfold aCy
 rw [cF (by simp [jL];omega),aA,cF (by simp [jL];omega),aA,List.nil_append,List.nil_append]
theorem text_ok (c:aJ) {s1:Int} (s2:Int) (h:0<=s1/\s1<=100000000000) {l:List aJ} (hl:l≠[]):∃ v s1' s2',zV c s1 s2 l=some (v,s1',s2')/\v∈l/\s1<=s1'/\s1'<=s1+2:=by
 have h1:1<=(l.length:Int):=by
  have:=List.length_pos_iff.2 hl
  omega
 obtain ⟨v,a,b,e,hv,h2,h3⟩:=lA c s2 h h1
 unfold zV
 rw [e,aA,aFZ hv.1 (by omega),aA]
 exact ⟨_,_,_,rfl,List.getElem_mem _,h2,h3⟩
theorem bend_ok (c:aJ) {s1:Int} (s2:Int) (h:0<=s1/\s1<=1000000000) {t:aS} (ht:Ok9 t):∃ u s1' s2',aAM c s1 s2 t=some (u,s1',s2')/\bA 500 u/\s1<=s1'/\s1'<=s1+10:=by
 have g2:∀ s∈t.L,s.length<=500:=ht.2.2.1
 have f1:t.L.length<=12:=ht.1.2.2.1.2.1
 have f3:t.E.length<=300:=ht.1.2.2.2.1
 have hl0:1<=t.L.length:=ht.1.2.2.1.1
 obtain ⟨b,x,y,e,i1,i2⟩:=aIs c s2 (s1:=s1) (n:=8) (by omega) (by omega)
 obtain ⟨v,x',y',e',gv,j1,j2⟩:=lA c y (s1:=x) (n:=8) (by omega) (by omega)
 have hend:∀ (i j:Int) (L:List aJ) (E:List Edge) (p q:Int),L.length<=500->(∀ s∈L,s.length<=500)->E.length<=500->s1<=p->p<=s1+10->∃ u s1' s2',fX i j L E p q=some (u,s1',s2')/\bA 500 u/\s1<=s1'/\s1'<=s1+10:=
  fun i j L E p q k1 k2 k3 k4 k5=>⟨_,_,_,rfl,⟨k1,k2,k3⟩,k4,k5⟩
 unfold aAM
 rw [own_fit ht.2 (by decide),aA,e,aA]
 by_cases q:(!b)=true
 ·rw [if_pos q];exact ⟨_,_,_,rfl,ht.2.up (by decide),i1,by show x<=_;omega⟩
 rw [if_neg q]
 show ∃ u s1' s2',(ob (bH c x y 8) fun r46=>_)=_/\_
 rw [e',aA]
 show ∃ u s1' s2',(if (v == 0)=true then _ else _)=_/\_
 by_cases q0:(v == 0)=true
 ·rw [if_pos q0]
  obtain ⟨z,p,q,e3,_,k1,k2⟩:=aIt c y' (s1:=x') (l:=[0,-1,41,40,wr (t.N - 1)]) (by omega) (by simp)
  show ∃ u s1' s2',(ob (gF c x' y' _) fun r77=>_)=_/\_
  rw [e3,aA]
  exact hend _ _ _ _ _ _ (by omega) g2 (by omega) (by show s1<=p;omega) (by show p<=_;omega)
 rw [if_neg q0]
 by_cases q1:(v == 1)=true
 ·rw [if_pos q1]
  obtain ⟨z,p,q,e3,_,k1,k2⟩:=aIt c y' (s1:=x') (l:=[-1,t.N]) (by omega) (by simp)
  show ∃ u s1' s2',(ob (gF c x' y' _) fun r77=>_)=_/\_
  rw [e3,aA]
  exact hend _ _ _ _ _ _ (by omega) g2 (by omega) (by show s1<=p;omega) (by show p<=_;omega)
 rw [if_neg q1]
 by_cases q2:(v == 2)=true
 ·rw [if_pos q2]
  rw [aFZ (by omega) (by omega),aA]
  have hst:st t.L 0 ([97]:aJ)=some (t.L.set 0 [97]):=by
   unfold Gv.st
   rw [if_pos ⟨by omega,by omega⟩];rfl
  rw [hst,aA]
  refine hend _ _ _ _ _ _ (by rw [List.length_set];omega) (fun s hs=>?_) (by omega) (by show s1<=x';omega) (by show x'<=_;omega)
  rcases List.mem_or_eq_of_mem_set hs with hs|rfl
  ·exact g2 s hs
  ·decide
 rw [if_neg q2]
 by_cases q3:(v == 3)=true
 ·rw [if_pos q3]
  obtain ⟨z,p,q,e3,hz,k1,k2⟩:=text_ok c y' (s1:=x') (l:=[[116,97,117],[97],[122,122],[65],[]]) (by omega) (by simp)
  show ∃ u s1' s2',(ob (zV c x' y' _) fun r77=>_)=_/\_
  rw [e3,aA,cF (by simp [jL];omega),aA]
  refine hend _ _ _ _ _ _ (by simp;omega) (fun s hs=>?_) (by omega) (by show s1<=p;omega) (by show p<=_;omega)
  rcases List.mem_append.1 hs with hs|hs
  ·exact g2 s hs
  ·rw [List.mem_singleton] at hs
   subst hs
   have:∀ s∈([[116,97,117],[97],[122,122],[65],[]]:List aJ),s.length<=500:=by decide
   exact this _ hz
 rw [if_neg q3]
 have hno:∃ u s1' s2',fX t.N t.I t.L t.E x' y'=some (u,s1',s2')/\bA 500 u/\s1<=s1'/\s1'<=s1+10:=hend _ _ _ _ _ _ (by omega) g2 (by omega) (by omega) (by omega)
 by_cases q4:(v == 4)=true
 ·rw [if_pos q4]
  by_cases hp:(decide (0 < (t.E.length:Int)))=true
  ·rw [if_pos hp]
   have hp:0 < t.E.length:=by simpa using hp
   rw [aFZ (by omega) (by omega),aA,cF (by simp [jL];omega),aA]
   exact hend _ _ _ _ _ _ (by omega) g2 (by simp;omega) (by show s1<=x';omega) (by show x'<=_;omega)
  ·rw [if_neg hp];exact hno
 rw [if_neg q4]
 by_cases q5:(v == 5)=true
 ·rw [if_pos q5]
  by_cases hp:(decide (0 < (t.E.length:Int)))=true
  ·rw [if_pos hp]
   have hp:0 < t.E.length:=by simpa using hp
   obtain ⟨a,p0,q0,e2,ga,m1,m2⟩:=lA c y' (s1:=x') (n:=(t.E.length:Int)) (by omega) (by omega)
   obtain ⟨z,p,q,e3,_,k1,k2⟩:=aIt c q0 (s1:=p0) (l:=[-1,(t.L.length:Int),0]) (by omega) (by simp)
   show ∃ u s1' s2',(ob (bH c x' y' (t.E.length:Int)) fun r=>_)=_/\_
   rw [e2,aA]
   show ∃ u s1' s2',(ob (gF c p0 q0 _) fun r77=>_)=_/\_
   rw [e3,aA,aFZ (xs:=t.E) (j:=a) ga.1 (by omega),aA]
   unfold Gv.st
   rw [if_pos (by exact ⟨ga.1,by omega⟩),aA]
   exact hend _ _ _ _ _ _ (by omega) g2 (by rw [List.length_set];omega) (by show s1<=p;omega) (by show p<=_;omega)
  ·rw [if_neg hp];exact hno
 rw [if_neg q5]
 by_cases q6:(v == 6)=true
 ·rw [if_pos q6]
  by_cases hp:(decide (0 < (t.E.length:Int)))=true
  ·rw [if_pos hp]
   have hp:0 < t.E.length:=by simpa using hp
   obtain ⟨a,p0,q0,e2,ga,m1,m2⟩:=lA c y' (s1:=x') (n:=(t.E.length:Int)) (by omega) (by omega)
   obtain ⟨z,p,q,e3,_,k1,k2⟩:=aIt c q0 (s1:=p0) (l:=[-1,t.N,0]) (by omega) (by simp)
   show ∃ u s1' s2',(ob (bH c x' y' (t.E.length:Int)) fun r=>_)=_/\_
   rw [e2,aA]
   show ∃ u s1' s2',(ob (gF c p0 q0 _) fun r77=>_)=_/\_
   rw [e3,aA,aFZ (xs:=t.E) (j:=a) ga.1 (by omega),aA]
   unfold Gv.st
   rw [if_pos (by exact ⟨ga.1,by omega⟩),aA]
   exact hend _ _ _ _ _ _ (by omega) g2 (by rw [List.length_set];omega) (by show s1<=p;omega) (by show p<=_;omega)
  ·rw [if_neg hp];exact hno
 rw [if_neg q6]
 by_cases q7:(v == 7)=true
 ·rw [if_pos q7]
  exact hend _ _ _ _ _ _ (by simp) (by simp) (by omega) (by show s1<=x';omega) (by show x'<=_;omega)
 rw [if_neg q7]
 exact hno
theorem bent15_ok (c:aJ) {s1:Int} (s2:Int) (h:0<=s1/\s1<=10000000):∃ u s1' s2',aIJ c s1 s2=some (u,s1',s2')/\bA 500 u/\s1<=s1'/\s1'<=s1+510:=by
 obtain ⟨a,x,y,e,⟨ha,_⟩,h1,h2⟩:=draw15_ok c s2 h
 obtain ⟨u,x',y',e',hu,h3,h4⟩:=bend_ok c y (s1:=x) (by omega) ha.ok9
 unfold aIJ
 rw [e,aA]
 show ∃ u s1' s2',(ob (aAM c x y a) fun r=>_)=_/\_
 rw [e',aA]
 exact ⟨_,_,_,rfl,hu,by show s1<=x';omega,by show x'<=_;omega⟩
end Gv
set_option linter.unusedSimpArgs false
set_option linter.unusedVariables false
namespace Gv
open Go
theorem long12_ok (c:aJ) {s1:Int} (s2:Int) (h:0<=s1/\s1<=1000000000):∃ t s1' s2',vA c s1 s2=some (t,s1',s2')/\Ok9 t/\s1<=s1'/\s1'<=s1+2:=by
 obtain ⟨v,x,y,e,gv,i1,i2⟩:=lA c s2 (s1:=s1) (n:=4) (by omega) (by omega)
 have hw:wr (4+v)=4+v:=eB (by omega) (by omega)
 have hw2:wr (wr (4+v)+1)=5+v:=by rw [hw,eB (by omega) (by omega)];omega
 have key:=oN (step:=fun s:List Edge × Int=>xT (v,x,y) s.1 s.2) (fun s=>∃ k:Int,s.2=k/\1<=k/\k<=4+v/\(s.1.length:Int)<=3+2 * (k - 1)/\∀ e∈s.1,(0<=e.F/\e.F < 5+v)/\(0<=e.To/\e.To < 5+v)/\0<=e.B/\e.B < 3) (fun s=>(4+v - s.2).toNat)
  (fun E=>(E.length:Int)<=20/\∀ e∈E,(0<=e.F/\e.F < 5+v)/\(0<=e.To/\e.To < 5+v)/\0<=e.B/\e.B < 3) (fun s hs=>?_) (s:=([⟨0,1,0⟩,⟨0,2,0⟩,⟨0,1,1⟩],1)) ⟨1,rfl,by omega,by omega,by simp,fun e he=>by simp at he;rcases he with rfl|rfl|rfl<;>(simp only;omega)⟩
 ·obtain ⟨E,h1,h2,h3⟩:=key
  unfold vA
  rw [e,aA]
  have h1':loop (fun s:List Edge × Int=>xT (v,x,y) s.1 s.2) ([⟨0,1,0⟩,⟨0,2,0⟩,⟨0,1,1⟩],1)=some E:=h1
  rw [h1',aA]
  unfold aCb
  rw [show wr (wr (4+(v,x,y).1)+1)=5+v from hw2]
  obtain ⟨t,m1,m2,m3,m4⟩:=aPN (T:=[[116,97,117],[97],[98]]) (by decide) (by decide) (st:=5+v) (ini:=0) (by omega) (by omega) (edges:=E) (by omega) h3
  rw [m1,aA]
  exact ⟨_,_,_,rfl,m2.ok9,i1,by show x<=_;omega⟩
 ·obtain ⟨k,rfl,k1,k2,k3,k4⟩:=hs
  obtain ⟨E,k⟩:=s
  simp only at k1 k2 k3 k4 ⊢
  unfold xT
  simp only
  rw [hw]
  by_cases hk:k < 4+v
  ·left
   rw [if_pos (by simpa using hk),eB (x:=k+1) (by omega) (by omega),cF (by simp [jL];omega),aA]
   refine ⟨_,rfl,⟨k+1,rfl,by omega,by omega,by simp;omega,fun e he=>?_⟩,by simp only;omega⟩
   rcases List.mem_append.1 he with he|he
   ·exact k4 e he
   ·simp at he
    rcases he with rfl|rfl<;>(simp only;omega)
  ·right
   rw [if_neg (by simpa using hk)]
   exact ⟨_,rfl,by omega,k4⟩
theorem both30_ok (c:aJ) {s1:Int} (s2:Int) (h:0<=s1/\s1<=1000000):∃ t p s1' s2',zW c s1 s2=some (t,p,s1',s2')/\bA 500 t/\bA 500 p/\s1<=s1'/\s1'<=s1+2000:=by
 have h1:∀ (t p:aS) (x y:Int),bA 500 t->Ok9 p->s1<=x->x<=s1+1900->∃ t' p' s1' s2',oG c t.N t.I t.L t.E p.N p.I p.L x y p.E=some (t',p',s1',s2')/\bA 500 t'/\bA 500 p'/\s1<=s1'/\s1'<=s1+2000:=by
  intro t p x y ht hp k1 k2
  obtain ⟨u,x',y',e',hu,h3,h4⟩:=bend_ok c y (s1:=x) (by omega) hp
  unfold oG
  show ∃ t' p' s1' s2',(ob (aAM c x y p) fun r=>_)=_/\_
  rw [e',aA]
  exact ⟨t,u,x',y',rfl,ht,hu,by omega,by omega⟩
 have hdel:∀ (p:aS) (x y:Int),Ok9 p->0<=x->x<=s1+1900->0 < p.E.length->∃ v x' y' r1 r2 F,bH c x y (p.E.length:Int)=some (v,x',y')/\x<=x'/\x'<=x+2/\pQ p.E 0 v=some r1/\pQ p.E (wr (v+1)) (p.E.length:Int)=some r2/\tG r1 r2=some F/\Ok9 ⟨p.N,p.I,p.L,F⟩:=by
  intro p x y hp k1 k2 hl
  have h3:=hp.1.2.2.2.1
  obtain ⟨v,x',y',e,gv,i1,i2⟩:=lA c y (s1:=x) (n:=(p.E.length:Int)) (by omega) (by omega)
  obtain ⟨r1,r2,F,d1,d2,d3,d4⟩:=del_eq (E:=p.E) (by omega) gv
  exact ⟨v,x',y',r1,r2,F,e,i1,i2,d1,d2,d3,hp.cut d4⟩
 have h3:∀ (t p:aS) (x y:Int),bA 500 t->Ok9 p->s1<=x->x<=s1+1880->∃ t' p' s1' s2',lP c t.N t.I t.L t.E x y p.N p.I p.L p.E=some (t',p',s1',s2')/\bA 500 t'/\bA 500 p'/\s1<=s1'/\s1'<=s1+2000:=by
  intro t p x y ht hp k1 k2
  obtain ⟨b,x',y',e,i1,i2⟩:=aIs c y (s1:=x) (n:=4) (by omega) (by omega)
  have hv:∀ v,∃ t' p' s1' s2',oH c t.N t.I t.L t.E p.N p.I p.L p.E x' y' (v&&decide (0 < (p.E.length:Int)))=some (t',p',s1',s2')/\bA 500 t'/\bA 500 p'/\s1<=s1'/\s1'<=s1+2000:=by
   intro v
   unfold oH
   by_cases hb:(v&&decide (0 < (p.E.length:Int)))=true
   ·rw [if_pos hb]
    rw [Bool.and_eq_true,decide_eq_true_iff] at hb
    obtain ⟨v,x2,y2,r1,r2,F,d0,i3,i4,d1,d2,d3,d4⟩:=hdel p x' y' hp (by omega) (by omega) (by omega)
    rw [d0,aA]
    show ∃ t' p' s1' s2',(ob (pQ p.E 0 v) fun r=>ob (pQ p.E (wr (v+1)) (p.E.length:Int)) fun r'=>_)=_/\_
    rw [d1,aA,d2,aA,d3,aA]
    exact h1 t ⟨p.N,p.I,p.L,F⟩ x2 y2 ht d4 (by omega) (by omega)
   ·rw [if_neg hb]
    exact h1 t p x' y' ht hp (by omega) (by omega)
  unfold lP
  rw [e,aA]
  show ∃ t' p' s1' s2',(if b=true then _ else _)=_/\_
  cases b with
  |true=>rw [if_pos rfl];exact hv true
  |false=>rw [if_neg (by simp)];exact hv false
 have h4:∀ (t p:aS) (x y:Int),bA 500 t->Ok9 p->s1<=x->x<=s1+1870->∃ t' p' s1' s2',lQ c t.N t.I t.L t.E x y p.N p.I p.L p.E=some (t',p',s1',s2')/\bA 500 t'/\bA 500 p'/\s1<=s1'/\s1'<=s1+2000:=by
  intro t p x y ht hp k1 k2
  obtain ⟨b,x',y',e,i1,i2⟩:=aIs c y (s1:=x) (n:=10) (by omega) (by omega)
  unfold lQ
  rw [e,aA]
  by_cases hb:(!b)=true
  ·show ∃ t' p' s1' s2',(if (!b)=true then _ else _)=_/\_
   rw [if_pos hb]
   show ∃ t' p' s1' s2',(ob (aDV p) fun r=>_)=_/\_
   rw [aSl hp.1,aA,sets_flag]
   by_cases hs:Small (fI p)
   ·rw [decide_eq_true hs,if_pos rfl]
    unfold detS
    rw [if_pos hs]
    exact h3 t (aKD p) x' y' ht (hp.det hs) (by omega) (by omega)
   ·rw [decide_eq_false hs,if_neg (by simp)]
    exact h3 t p x' y' ht hp (by omega) (by omega)
  ·show ∃ t' p' s1' s2',(if (!b)=true then _ else _)=_/\_
   rw [if_neg hb]
   exact h3 t p x' y' ht hp (by omega) (by omega)
 have h7:∀ (t:aS) (x y:Int),bA 500 t->s1<=x->x<=s1+1000->∃ t' p' s1' s2',oJ c x y t.N t.I t.L t.E=some (t',p',s1',s2')/\bA 500 t'/\bA 500 p'/\s1<=s1'/\s1'<=s1+2000:=by
  intro t x y ht k1 k2
  obtain ⟨a,x',y',e,⟨ha,_⟩,i1,i2⟩:=aOL c y (s1:=x) (by omega)
  unfold oJ
  rw [e,aA]
  show ∃ t' p' s1' s2',(ob (aFo t) fun r=>_)=_/\_
  rw [aIi t (ht.up (by decide)),aA]
  have hno:∀ (x y:Int),s1<=x->x<=s1+1870->∃ t' p' s1' s2',jS c t.N t.I t.L t.E (a,x',y') x y false=some (t',p',s1',s2')/\bA 500 t'/\bA 500 p'/\s1<=s1'/\s1'<=s1+2000:=by
   intro x y k1 k2
   unfold jS
   rw [if_neg (by simp)]
   exact h4 t a x y ht ha.ok9 k1 k2
  by_cases hv:aO t
  ·rw [tY hv,if_pos rfl]
   have h9:Ok9 t:=⟨hv,ht⟩
   obtain ⟨v,x2,y2,e2,_,i3,i4⟩:=lA c y' (s1:=x') (n:=3) (by omega) (by omega)
   show ∃ t' p' s1' s2',(ob (bH c x' y' 3) fun r=>_)=_/\_
   rw [e2,aA]
   show ∃ t' p' s1' s2',jS c t.N t.I t.L t.E (a,x',y') x2 y2 (decide (0 < v))=_/\_
   cases hd:decide (0 < v) with
   |false=>exact hno _ _ (by omega) (by omega)
   |true=>
    unfold jS
    rw [if_pos rfl]
    show ∃ t' p' s1' s2',(ob (aCy t) fun r=>_)=_/\_
    rw [own_fit ht (by decide),aA]
    obtain ⟨b,x3,y3,e3,i5,i6⟩:=aIs c y2 (s1:=x2) (n:=2) (by omega) (by omega)
    rw [e3,aA]
    have hv:∀ v,∃ t' p' s1' s2',oI c t.N t.I t.L t.E t x3 y3 (v&&decide (0 < (t.E.length:Int)))=some (t',p',s1',s2')/\bA 500 t'/\bA 500 p'/\s1<=s1'/\s1'<=s1+2000:=by
     intro v
     unfold oI
     by_cases hb:(v&&decide (0 < (t.E.length:Int)))=true
     ·rw [if_pos hb]
      rw [Bool.and_eq_true,decide_eq_true_iff] at hb
      obtain ⟨v,x4,y4,r1,r2,F,d0,i7,i8,d1,d2,d3,d4⟩:=hdel t x3 y3 h9 (by omega) (by omega) (by omega)
      rw [d0,aA]
      show ∃ t' p' s1' s2',(ob (pQ t.E 0 v) fun r=>ob (pQ t.E (wr (v+1)) (t.E.length:Int)) fun r'=>_)=_/\_
      rw [d1,aA,d2,aA,d3,aA]
      exact h4 t ⟨t.N,t.I,t.L,F⟩ x4 y4 ht d4 (by omega) (by omega)
     ·rw [if_neg hb]
      exact h4 t t x3 y3 ht h9 (by omega) (by omega)
    show ∃ t' p' s1' s2',(if b=true then _ else _)=_/\_
    cases b with
    |true=>rw [if_pos rfl];exact hv true
    |false=>rw [if_neg (by simp)];exact hv false
  ·rw [tZ hv,if_neg (by simp)]
   exact hno _ _ (by show s1<=x';omega) (by show x'<=_;omega)
 obtain ⟨t,x,y,e,ht,i1,i2⟩:=bent15_ok c s2 (s1:=s1) (by omega)
 obtain ⟨b,x',y',e',i3,i4⟩:=aIs c y (s1:=x) (n:=25) (by omega) (by omega)
 unfold zW
 rw [e,aA]
 show ∃ t' p' s1' s2',(ob (jG c x y 25) fun r=>_)=_/\_
 rw [e',aA]
 show ∃ t' p' s1' s2',(if b=true then _ else _)=_/\_
 cases b with
 |true=>
  rw [if_pos rfl]
  obtain ⟨u,x2,y2,e2,hu,i5,i6⟩:=long12_ok c y' (s1:=x') (by omega)
  show ∃ t' p' s1' s2',(ob (vA c x' y') fun r=>_)=_/\_
  rw [e2,aA]
  exact h7 u x2 y2 hu.2 (by omega) (by omega)
 |false=>
  rw [if_neg (by simp)]
  exact h7 t x' y' ht (by omega) (by omega)
theorem aSz (c:aJ):∃ t p,aBu c=some (t,p)/\aO t/\jK p/\bA 500 t/\bA 500 p:=by
 have key:=oN (step:=fun s:Int × Int × Int=>uF c s.1 s.2.1 s.2.2) (fun s=>0<=s.1/\s.1<=2000 * s.2.2/\0<=s.2.2/\s.2.2<=6) (fun s=>(6 - s.2.2).toNat)
  (fun r=>match r with|.inl _=>True|.inr q=>aO q.1/\jK q.2/\bA 500 q.1/\bA 500 q.2) (fun s hs=>?_) (s:=(0,0,0)) (by simp)
 ·obtain ⟨r,h1,h2⟩:=key
  have h1':loop (fun s:Int × Int × Int=>uF c s.1 s.2.1 s.2.2) (0,0,0)=some r:=h1
  unfold aBu aKV
  rw [aA,h1',aA]
  cases r with
  |inr q=>exact ⟨q.1,q.2,rfl,h2⟩
  |inl _=>
   have hk:jK (⟨1,0,[[116,97,117],[97]],[⟨0,1,0⟩]⟩:aS):=by
    refine ⟨⟨by decide,by decide,?_,aNG (by decide) (by simp [SE]) fun e he=>?_⟩,?_⟩
    ·refine ⟨by decide,by decide,fun _=>rfl,fun k h1 hk=>?_⟩
     have:k=1:=by
      have:k < 2:=hk
      omega
     subst this
     exact ⟨by show rD ([97]:aJ)=true;decide,by show ([97]:aJ)≠bQ;decide,fun h=>by omega⟩
    ·rw [List.mem_singleton] at he
     subst he
     unfold vR
     decide
    ·intro k hk
     have:k=0:=by
      have:k < 1:=hk
      omega
     subst this
     exact ⟨by show (1:Int)≠0;decide,fun h=>by omega⟩
   have hf:bA 500 (⟨1,0,[[116,97,117],[97]],[⟨0,1,0⟩]⟩:aS):=⟨by decide,by decide,by decide⟩
   exact ⟨_,_,rfl,hk.1,hk,hf,hf⟩
 ·obtain ⟨x,y,k⟩:=s
  obtain ⟨k1,k2,k3,k4⟩:=hs
  simp only at k1 k2 k3 k4 ⊢
  unfold uF
  by_cases hk:k < 6
  ·obtain ⟨t,p,x',y',e,ht,hp,i1,i2⟩:=both30_ok c y (s1:=x) (by omega)
   rw [if_pos (by simpa using hk),e,aA]
   show (∃ s',(ob (aBq t p) fun r=>_)=_/\_)\/_
   have ask:∃ z,aBq t p=some z/\(z=0->aO t/\jK p):=by
    unfold aBq aCD
    rw [aIi t (ht.up (by decide)),aA,aIi p (hp.up (by decide)),aA]
    by_cases h1:aO t
    ·rw [tY h1,if_neg (by simp)]
     by_cases h2:aO p
     ·rw [tY h2,if_neg (by simp),aKq p (by have:=h2.2.2.2.1;omega),aA]
      by_cases h3:aAD p
      ·rw [tY h3,if_neg (by simp)]
       exact ⟨_,rfl,fun _=>⟨h1,h2,h3⟩⟩
      ·rw [tZ h3,if_pos (by simp)]
       exact ⟨_,rfl,fun h=>absurd h (by decide)⟩
     ·rw [tZ h2,if_pos (by simp)]
      exact ⟨_,rfl,fun h=>absurd h (by decide)⟩
    ·rw [tZ h1,if_pos (by simp),if_pos rfl]
     exact ⟨_,rfl,fun h=>absurd h (by decide)⟩
   obtain ⟨z,ask,hz⟩:=ask
   rw [ask,aA]
   by_cases h:z=0
   ·right
    obtain ⟨h1,h2⟩:=hz h
    rw [if_pos (by simpa using h)]
    exact ⟨_,rfl,h1,h2,ht,hp⟩
   ·left
    rw [if_neg (by simpa using h),eB (x:=k+1) (by omega) (by omega)]
    exact ⟨_,rfl,⟨by show 0<=x';omega,by show x'<=2000 * (k+1);omega,by show 0<=k+1;omega,by show k+1<=6;omega⟩,by simp only;omega⟩
  ·right
   rw [if_neg (by simpa using hk)]
   exact ⟨_,rfl,trivial⟩
end Gv
set_option linter.unusedSimpArgs false
set_option linter.unusedVariables false
namespace Gv
open Go
section
variable (mv:Nat->List (Option Nat))
inductive LvC:Nat->Prop
 |out {i:Nat}:none∈mv i->LvC i
 |go {i j:Nat}:some j∈mv i->LvC j->LvC i
def StC (i:Nat):Prop:=∃ S:Nat->Prop,S i/\∀ z,S z->mv z=[]\/∃ j,some j∈mv z/\S j
def lvC (m:List Bool) (i:Nat):Bool:=(mv i).any fun z=>match z with|none=>true|some j=>m.getD j false
def stC (m:List Bool) (i:Nat):Bool:=(mv i).any fun z=>match z with|none=>false|some j=>m.getD j false
noncomputable def aHf (M:Nat):List Bool:=(List.range M).map fun i=>cl (LvC mv i)
noncomputable def aHg (M:Nat):List Bool:=(List.range M).map fun i=>cl (StC mv i)
def GLc (M:Nat) (m:List Bool):Prop:=m.length=M/\∀ i,m[i]?=some true->LvC mv i
def CLc (m:List Bool):Prop:=∀ i,m[i]?=some false->lvC mv m i=false
def GSc (M:Nat) (m:List Bool):Prop:=m.length=M/\∀ i,m[i]?=some false->¬ StC mv i
def CSc (m:List Bool):Prop:=∀ i,m[i]?=some true->mv i=[]\/stC mv m i=true
end
section
variable {mv:Nat->List (Option Nat)} {M:Nat} {m:List Bool}
theorem getD_some {m:List Bool} {j:Nat} (h:m.getD j false=true):m[j]?=some true:=by
 rw [List.getD_eq_getElem?_getD] at h
 cases hx:m[j]? with
 |none=>rw [hx] at h;cases h
 |some x=>rw [hx] at h;simp at h;rw [h]
theorem GLc.flip (h:GLc mv M m) {i:Nat} (hi:m[i]?=some false) (hb:lvC mv m i=true):GLc mv M (m.set i (!false)):=by
 refine ⟨by simp [h.1],fun z hz=>?_⟩
 by_cases e:z=i
 ·subst e
  unfold lvC at hb
  rw [List.any_eq_true] at hb
  obtain ⟨s,hs,hb⟩:=hb
  cases s with
  |none=>exact .out hs
  |some j=>exact .go hs (h.2 j (getD_some hb))
 ·rw [List.getElem?_set_ne (Ne.symm e)] at hz
  exact h.2 z hz
theorem GLc.row (hm:∀ i,i < M->∀ j,some j∈mv i->j < M) (h:GLc mv M m) (hc:CLc mv m):m=aHf mv M:=by
 have key:∀ z,LvC mv z->z < M->m[z]?=some true:=by
  intro z hz
  induction hz with
  |@out q hs=>
   intro h0
   cases hx:m[q]? with
   |none=>rw [List.getElem?_eq_none_iff] at hx;have:=h.1;omega
   |some x=>
    cases x with
    |true=>rfl
    |false=>
     have:=hc q hx
     unfold lvC at this
     rw [List.any_eq_false] at this
     exact absurd rfl (this _ hs)
  |@go q j hs hg ih=>
   intro h0
   have:=ih (hm q h0 j hs)
   cases hx:m[q]? with
   |none=>rw [List.getElem?_eq_none_iff] at hx;have:=h.1;omega
   |some x=>
    cases x with
    |true=>rfl
    |false=>
     have hf:=hc q hx
     unfold lvC at hf
     rw [List.any_eq_false] at hf
     have hf:=hf _ hs
     simp only at hf
     rw [List.getD_eq_getElem?_getD,this] at hf
     exact absurd rfl hf
 unfold aHf
 refine List.ext_getElem? fun q=>?_
 by_cases hq:q < M
 ·have hlen:=h.1
  rw [List.getElem?_map,List.getElem?_range hq,Option.map_some]
  cases hx:m[q]? with
  |none=>rw [List.getElem?_eq_none_iff] at hx;omega
  |some x=>
   congr 1
   symm
   apply aIh
   refine ⟨fun e=>h.2 q (by rw [hx,e]),fun e=>?_⟩
   have:=key q e hq
   rw [hx] at this;simpa using this
 ·rw [List.getElem?_eq_none (by have:=h.1;omega),List.getElem?_eq_none (by simp;omega)]
theorem GSc.flip (h:GSc mv M m) {i:Nat} (hi:m[i]?=some true) (hlt:∀ j,some j∈mv i->j < M) (hL:mv i≠[]) (hb:stC mv m i=false):GSc mv M (m.set i (!true)):=by
 refine ⟨by simp [h.1],fun z hz=>?_⟩
 by_cases e:z=i
 ·subst e
  rintro ⟨S,h1,h2⟩
  rcases h2 _ h1 with h3|⟨j,hj,h5⟩
  ·exact hL h3
  ·unfold stC at hb
   rw [List.any_eq_false] at hb
   have:=hb _ hj
   have hlen:=h.1
   have hjl:=hlt j hj
   simp only at this
   rw [List.getD_eq_getElem?_getD] at this
   cases hx:m[j]? with
   |none=>rw [List.getElem?_eq_none_iff] at hx;omega
   |some x=>
    rw [hx] at this
    cases x with
    |true=>simp at this
    |false=>exact h.2 _ hx ⟨S,h5,h2⟩
 ·rw [List.getElem?_set_ne (Ne.symm e)] at hz
  exact h.2 z hz
theorem GSc.row (h:GSc mv M m) (hc:CSc mv m):m=aHg mv M:=by
 unfold aHg
 refine List.ext_getElem? fun q=>?_
 by_cases hq:q < M
 ·have hlen:=h.1
  rw [List.getElem?_map,List.getElem?_range hq,Option.map_some]
  cases hx:m[q]? with
  |none=>rw [List.getElem?_eq_none_iff] at hx;omega
  |some x=>
   congr 1
   symm
   apply aIh
   constructor
   ·rintro rfl
    refine ⟨fun z=>m[z]?=some true,hx,fun z hz=>?_⟩
    rcases hc z hz with h1|h1
    ·exact .inl h1
    ·right
     unfold stC at h1
     rw [List.any_eq_true] at h1
     obtain ⟨s,hs,h2⟩:=h1
     cases s with
     |none=>cases h2
     |some j=>exact ⟨j,hs,getD_some h2⟩
   ·intro hst
    cases x with
    |true=>rfl
    |false=>exact absurd hst (h.2 q hx)
 ·rw [List.getElem?_eq_none (by have:=h.1;omega),List.getElem?_eq_none (by simp;omega)]
theorem StC.step {i:Nat} (h:StC mv i):mv i=[]\/∃ j,some j∈mv i/\StC mv j:=by
 obtain ⟨S,h1,h2⟩:=h
 rcases h2 i h1 with h3|⟨j,h4,h5⟩
 ·exact .inl h3
 ·exact .inr ⟨j,h4,S,h5,h2⟩
theorem StC.mk {i:Nat} (h:mv i=[]\/∃ j,some j∈mv i/\StC mv j):StC mv i:=by
 refine ⟨fun z=>StC mv z\/z=i,.inr rfl,fun z hz=>?_⟩
 have:mv z=[]\/∃ j,some j∈mv z/\StC mv j:=by
  rcases hz with hz|rfl
  ·exact hz.step
  ·exact h
 rcases this with h1|⟨j,h1,h2⟩
 ·exact .inl h1
 ·exact .inr ⟨j,h1,.inl h2⟩
theorem aLY {i:Nat} (h:¬ StC mv i):LvC mv i:=by
 refine Classical.byContradiction fun hn=>h ⟨fun z=>¬ LvC mv z,hn,fun z hz=>?_⟩
 cases hm:mv z with
 |nil=>exact .inl rfl
 |cons s l=>
  right
  cases s with
  |none=>exact absurd (LvC.out (by rw [hm];simp)) hz
  |some j=>exact ⟨j,by simp,fun hj=>hz (.go (j:=j) (by rw [hm];simp) hj)⟩
theorem aRl {i:Nat} (hi:i < M):(aHf mv M).getD i false=cl (LvC mv i):=by
 unfold aHf
 rw [List.getD_eq_getElem?_getD,List.getElem?_map,List.getElem?_range hi];rfl
theorem aRm {i:Nat} (hi:i < M):(aHg mv M).getD i false=cl (StC mv i):=by
 unfold aHg
 rw [List.getD_eq_getElem?_getD,List.getElem?_map,List.getElem?_range hi];rfl
end
def aBS (n N:Nat) (m:List Bool):List (List Bool):=(List.range N).map fun x=>(m.drop (x * n)).take n
section
variable {n N:Nat} {m:List Bool}
theorem aAi:(aBS n N m).length=N:=by unfold aBS;simp
theorem aAs {x y:Nat} (hx:x < N) (hy:y < n):x * n+y < N * n:=by
 have:=Nat.mul_le_mul_right n (show x+1<=N by omega)
 rw [Nat.add_mul,Nat.one_mul] at this
 omega
theorem aKF {x:Nat} (hx:x < N):(aBS n N m)[x]?=some ((m.drop (x * n)).take n):=by
 unfold aBS
 rw [List.getElem?_map,List.getElem?_range hx];rfl
theorem aDO (hm:m.length=N * n) {x:Nat} (hx:x < N):((m.drop (x * n)).take n).length=n:=by
 have:=Nat.mul_le_mul_right n (show x+1<=N by omega)
 rw [Nat.add_mul,Nat.one_mul] at this
 rw [List.length_take,List.length_drop]
 omega
theorem aKG {x y:Nat} (hy:y < n):((m.drop (x * n)).take n)[y]?=m[x * n+y]?:=by
 rw [List.getElem?_take_of_lt hy,List.getElem?_drop]
theorem aBQ (hm:m.length=N * n) {x:Nat} (hx:x < N):ix (aBS n N m) (x:Int)=some ((m.drop (x * n)).take n):=by
 unfold ix
 rw [if_pos (by omega),Int.toNat_natCast]
 exact aKF hx
theorem aCg (hm:m.length=N * n) {x y:Nat} (hx:x < N) (hy:y < n):ix ((m.drop (x * n)).take n) (y:Int)=some (m.getD (x * n+y) false):=by
 have h:=aAs hx hy
 unfold ix
 rw [if_pos (by omega),Int.toNat_natCast,aKG hy,List.getD_eq_getElem?_getD,List.getElem?_eq_getElem (by omega)];rfl
theorem aRn (hm:m.length=N * n) {x y:Nat} (hx:x < N) (hy:y < n) (v:Bool):(aBS n N m).set x (((m.drop (x * n)).take n).set y v)=aBS n N (m.set (x * n+y) v):=by
 refine List.ext_getElem? fun z=>?_
 by_cases hz:z < N
 ·rw [aKF hz]
  by_cases e:z=x
  ·subst e
   rw [List.getElem?_set_self (by rw [aAi];exact hz)]
   congr 1
   refine List.ext_getElem? fun k=>?_
   by_cases hk:k < n
   ·rw [aKG hk]
    by_cases e2:k=y
    ·subst e2
     rw [List.getElem?_set_self (by rw [aDO hm hz];exact hk),List.getElem?_set_self (by rw [hm];exact aAs hz hk)]
    ·rw [List.getElem?_set_ne (Ne.symm e2),List.getElem?_set_ne (by omega),aKG hk]
   ·rw [List.getElem?_eq_none (by rw [List.length_set,aDO hm hz];omega),List.getElem?_eq_none (by rw [aDO (by rw [List.length_set];exact hm) hz];omega)]
  ·rw [List.getElem?_set_ne (Ne.symm e),aKF hz]
   congr 1
   refine List.ext_getElem? fun k=>?_
   by_cases hk:k < n
   ·rw [aKG hk,aKG hk,List.getElem?_set_ne ?_]
    intro heq
    rcases Nat.lt_or_gt_of_ne e with h|h
    ·have:=Nat.mul_le_mul_right n (show z+1<=x by omega)
     rw [Nat.add_mul,Nat.one_mul] at this
     omega
    ·have:=Nat.mul_le_mul_right n (show x+1<=z by omega)
     rw [Nat.add_mul,Nat.one_mul] at this
     omega
   ·rw [List.getElem?_eq_none (by rw [aDO hm hz];omega),List.getElem?_eq_none (by rw [aDO (by rw [List.length_set];exact hm) hz];omega)]
 ·rw [List.getElem?_eq_none (by rw [List.length_set,aAi];omega),List.getElem?_eq_none (by rw [aAi];omega)]
theorem aRo (b:Bool):aBS n N (List.replicate (N * n) b)=List.replicate N (List.replicate n b):=by
 refine List.ext_getElem? fun z=>?_
 by_cases hz:z < N
 ·rw [aKF hz,List.getElem?_replicate,if_pos hz,List.drop_replicate,List.take_replicate]
  congr 2
  have:=Nat.mul_le_mul_right n (show z+1<=N by omega)
  rw [Nat.add_mul,Nat.one_mul] at this
  omega
 ·rw [List.getElem?_eq_none (by rw [aAi];omega),List.getElem?_eq_none (by rw [List.length_replicate];omega)]
end
end Gv
set_option linter.unusedSimpArgs false
set_option linter.unusedVariables false
namespace Gv
open Go
section
variable (t p:aS)
def tgt (e:Edge) (y:Int):Int:=if e.B=0 then y else iR p y (txt t e)
def toC (y:Int) (e:Edge):Option Nat:=if tgt t p e y < 0 then none else some (e.To.toNat * p.N.toNat+(tgt t p e y).toNat)
def nY (i:Nat):List (Option Nat):=(dG t ((i / p.N.toNat:Nat):Int)).map (toC t p ((i % p.N.toNat:Nat):Int))
end
section
variable {t p:aS} {m:List Bool} {n N:Nat}
theorem aPO {x y:Nat} (hn:p.N.toNat=n) (hy:y < n):nY t p (x * n+y)=(dG t (x:Int)).map (toC t p (y:Int)):=by
 unfold nY
 have h1:(x * n+y) / n=x:=by
  rw [Nat.add_comm,Nat.add_mul_div_right _ _ (by omega),Nat.div_eq_of_lt hy,Nat.zero_add]
 have h2:(x * n+y) % n=y:=by
  rw [Nat.add_comm,Nat.add_mul_mod_self_right,Nat.mod_eq_of_lt hy]
 rw [hn,h1,h2]
theorem aNL (hp:aO p) {y:Int} (hy:y < p.N) (e:Edge):tgt t p e y < p.N:=by
 unfold tgt
 split
 ·exact hy
 ·have:=xI hp y (txt t e);omega
theorem lvC_at {x y:Nat} (hn:p.N.toNat=n) (hy:y < n):lvC (nY t p) m (x * n+y)=(dG t (x:Int)).any fun e=>decide (tgt t p e (y:Int) < 0)||m.getD (e.To.toNat * n+(tgt t p e (y:Int)).toNat) false:=by
 unfold lvC
 rw [aPO hn hy,List.any_map]
 congr 1
 funext e
 simp only [Function.comp,toC,hn]
 by_cases h:tgt t p e (y:Int) < 0
 ·rw [if_pos h,decide_eq_true h];rfl
 ·rw [if_neg h,decide_eq_false h];rfl
theorem stC_at {x y:Nat} (hn:p.N.toNat=n) (hy:y < n):stC (nY t p) m (x * n+y)=(dG t (x:Int)).any fun e=>decide (0<=tgt t p e (y:Int))&&m.getD (e.To.toNat * n+(tgt t p e (y:Int)).toNat) false:=by
 unfold stC
 rw [aPO hn hy,List.any_map]
 congr 1
 funext e
 simp only [Function.comp,toC,hn]
 by_cases h:tgt t p e (y:Int) < 0
 ·rw [if_pos h,decide_eq_false (by omega)];rfl
 ·rw [if_neg h,decide_eq_true (by omega)];rfl
theorem aPP (ht:aO t) (hp:aO p):∀ i,i < t.N.toNat * p.N.toNat->∀ j,some j∈nY t p i->j < t.N.toNat * p.N.toNat:=by
 intro i hi j hj
 have h1:=hp.1
 unfold nY at hj
 obtain ⟨e,he,h⟩:=List.mem_map.1 hj
 have hb:=tA ht (List.mem_filter.1 he).1
 have hy:i % p.N.toNat < p.N.toNat:=Nat.mod_lt _ (by omega)
 have hlt:=aNL (t:=t) hp (y:=((i % p.N.toNat:Nat):Int)) (by omega) e
 unfold toC at h
 split at h
 ·cases h
 ·cases h
  exact aAs (by omega) (by omega)
theorem mvC_nil {x y:Nat} (hn:p.N.toNat=n) (hy:y < n):nY t p (x * n+y)=[]<->dG t (x:Int)=[]:=by
 rw [aPO hn hy,List.map_eq_nil_iff]
theorem has_at (hm:m.length=N * n) {v:Nat} (hv:v < N) {w:Int} (hw:w < n):jV (v:Int) w (aBS n N m)=some (decide (0<=w)&&m.getD (v * n+w.toNat) false):=by
 unfold jV
 by_cases h0:0<=w
 ·obtain ⟨k,rfl⟩:∃ k:Nat,w=(k:Int):=⟨w.toNat,by omega⟩
  rw [if_pos (by simpa using h0),aBQ hm hv,aA,aCg hm hv (by omega),aA,decide_eq_true h0,Int.toNat_natCast];rfl
 ·rw [if_neg (by simpa using h0),decide_eq_false h0];rfl
theorem anyL_at (hm:m.length=N * n) {v:Nat} (hv:v < N) {w:Int} (hw:w < n) (a:Bool):mU (v:Int) w a (aBS n N m)=some (a||(decide (w < 0)||m.getD (v * n+w.toNat) false)):=by
 unfold mU nT
 cases a with
 |true=>rfl
 |false=>
  simp only [Bool.false_eq_true,if_false,Bool.false_or]
  by_cases h0:w < 0
  ·rw [if_pos (by simpa using h0),decide_eq_true h0];rfl
  ·rw [if_neg (by simpa using h0),decide_eq_false h0,has_at hm hv hw,decide_eq_true (p:=0<=w) (by omega)];rfl
theorem anyS_at (hm:m.length=N * n) {v:Nat} (hv:v < N) {w:Int} (hw:w < n) (a:Bool):jW (v:Int) w a (aBS n N m)=some (a||(decide (0<=w)&&m.getD (v * n+w.toNat) false)):=by
 unfold jW
 cases a with
 |true=>rfl
 |false=>
  simp only [Bool.false_eq_true,if_false,Bool.false_or]
  rw [has_at hm hv hw];rfl
theorem movesL_at (ht:aO t) (hp:jK p) (hn:p.N=(n:Int)) (hN:t.N=(N:Int)) (hm:m.length=N * n) {x y:Nat} (hx:x < N) (hy:y < n):sJ ⟨t,p⟩ (x:Int) (y:Int) false (aBS n N m)=some (lvC (nY t p) m (x * n+y)):=by
 have h300:=ht.2.2.2.1
 unfold sJ
 rw [aPv _ _ (by simp only;omega),aA,lvC_at (by omega) hy]
 simp only
 show (ob (loop (fun s:Bool × Int=>lB ⟨t,p⟩ (y:Int) (aBS n N m) (dG t (x:Int)) s.1 s.2) (false,0)) fun r=>yS r)=_
 have hol:(dG t (x:Int)).length<=300:=Nat.le_trans (List.length_filter_le _ _) h300
 have:=sY (step:=fun s:Bool × Int=>lB ⟨t,p⟩ (y:Int) (aBS n N m) (dG t (x:Int)) s.1 s.2) (dG t (x:Int)) (fun k (b:Bool)=>(b,(k:Int))) (fun l b=>b||l.any fun e=>decide (tgt t p e (y:Int) < 0)||m.getD (e.To.toNat * n+(tgt t p e (y:Int)).toNat) false) (fun _ _=>True) (fun k a e l hk hx _=>?_) (fun a _=>by simp only [lB,bJ];simp) (a:=false) trivial
 ·rw [show (0:Int)=((0:Nat):Int) from rfl,this,aA,Bool.false_or];rfl
 ·left
  obtain ⟨hk',rfl⟩:=aBO hx
  have hem:(dG t (x:Int))[k]∈t.E:=(List.mem_filter.1 (List.getElem_mem hk)).1
  have hb:=tA ht hem
  obtain ⟨v,hv⟩:∃ v:Nat,(dG t (x:Int))[k].To=(v:Int):=⟨(dG t (x:Int))[k].To.toNat,by omega⟩
  refine ⟨_,?_,trivial,by rw [List.any_cons,←Bool.or_assoc]⟩
  have hlt:=aNL (t:=t) hp.1 (y:=(y:Int)) (by omega) (dG t (x:Int))[k]
  simp only [lB,bF hk,if_pos,hx,aA,nK,aV hk (show (dG t (x:Int)).length < 4611686018427387904 by omega)]
  by_cases h0:(dG t (x:Int))[k].B=0
  ·have ht0:tgt t p (dG t (x:Int))[k] (y:Int)=(y:Int):=by unfold tgt;rw [if_pos h0]
   rw [if_pos (by simpa using h0),hv,anyL_at hm (by omega) (by omega),aA,ht0,Int.toNat_natCast]
   simp
  ·have ht0:tgt t p (dG t (x:Int))[k] (y:Int)=iR p (y:Int) (txt t (dG t (x:Int))[k]):=by unfold tgt;rw [if_neg h0]
   rw [if_neg (by simpa using h0),xH (mY ht hem),aA,aFA hp.1 hp.2,aA,hv,anyL_at hm (by omega) (by omega),aA,ht0,Int.toNat_natCast]
theorem movesS_at (ht:aO t) (hp:jK p) (hn:p.N=(n:Int)) (hN:t.N=(N:Int)) (hm:m.length=N * n) {x y:Nat} (hx:x < N) (hy:y < n):nL ⟨t,p⟩ (x:Int) (y:Int) false (aBS n N m)=some (stC (nY t p) m (x * n+y)):=by
 have h300:=ht.2.2.2.1
 unfold nL
 rw [aPv _ _ (by simp only;omega),aA,stC_at (by omega) hy]
 simp only
 show (ob (loop (fun s:Bool × Int=>iP ⟨t,p⟩ (y:Int) (aBS n N m) (dG t (x:Int)) s.1 s.2) (false,0)) fun r=>tS r)=_
 have hol:(dG t (x:Int)).length<=300:=Nat.le_trans (List.length_filter_le _ _) h300
 have:=sY (step:=fun s:Bool × Int=>iP ⟨t,p⟩ (y:Int) (aBS n N m) (dG t (x:Int)) s.1 s.2) (dG t (x:Int)) (fun k (b:Bool)=>(b,(k:Int))) (fun l b=>b||l.any fun e=>decide (0<=tgt t p e (y:Int))&&m.getD (e.To.toNat * n+(tgt t p e (y:Int)).toNat) false) (fun _ _=>True) (fun k a e l hk hx _=>?_) (fun a _=>by simp only [iP,bJ];simp) (a:=false) trivial
 ·rw [show (0:Int)=((0:Nat):Int) from rfl,this,aA,Bool.false_or];rfl
 ·left
  obtain ⟨hk',rfl⟩:=aBO hx
  have hem:(dG t (x:Int))[k]∈t.E:=(List.mem_filter.1 (List.getElem_mem hk)).1
  have hb:=tA ht hem
  obtain ⟨v,hv⟩:∃ v:Nat,(dG t (x:Int))[k].To=(v:Int):=⟨(dG t (x:Int))[k].To.toNat,by omega⟩
  refine ⟨_,?_,trivial,by rw [List.any_cons,←Bool.or_assoc]⟩
  have hlt:=aNL (t:=t) hp.1 (y:=(y:Int)) (by omega) (dG t (x:Int))[k]
  simp only [iP,bF hk,if_pos,hx,aA,kP,aV hk (show (dG t (x:Int)).length < 4611686018427387904 by omega)]
  by_cases h0:(dG t (x:Int))[k].B=0
  ·have ht0:tgt t p (dG t (x:Int))[k] (y:Int)=(y:Int):=by unfold tgt;rw [if_pos h0]
   rw [if_pos (by simpa using h0),hv,anyS_at hm (by omega) (by omega),aA,ht0,Int.toNat_natCast]
   simp
  ·have ht0:tgt t p (dG t (x:Int))[k] (y:Int)=iR p (y:Int) (txt t (dG t (x:Int))[k]):=by unfold tgt;rw [if_neg h0]
   rw [if_neg (by simpa using h0),xH (mY ht hem),aA,aFA hp.1 hp.2,aA,hv,anyS_at hm (by omega) (by omega),aA,ht0,Int.toNat_natCast]
end
section
variable {α:Type} {g:List Bool->α} {n N:Nat} {b:Bool} {G:List Bool->Prop} {C:Nat->List Bool->Prop}
 {s8:Nat->α × Bool × Int->Option ((α × Bool × Int) ⊕ (α × Bool))} {s9:α × Bool × Int->Option ((α × Bool × Int) ⊕ (α × Bool))}
theorem pass_row (h8:∀ x y m ag,x < N->y < n->G m->s8 x (g m,ag,(y:Int))=some (.inl (g m,ag,((y+1:Nat):Int)))/\C (x * n+y) m\/m[x * n+y]?=some b/\G (m.set (x * n+y) (!b))/\s8 x (g m,ag,(y:Int))=some (.inl (g (m.set (x * n+y) (!b)),true,((y+1:Nat):Int))))
  (h8':∀ x m ag,x < N->G m->s8 x (g m,ag,(n:Int))=some (.inr (g m,ag))) {m0 m:List Bool} {ag:Bool} {x:Nat} (hx:x < N) (h:Adv b G m0 m ag) (hc:ag=false->∀ i,i < x * n->C i m0):
  ∃ m' ag',loop (s8 x) (g m,ag,0)=some (g m',ag')/\Adv b G m0 m' ag'/\(ag'=false->∀ i,i < (x+1) * n->C i m0):=by
 have key:=eP (step:=s8 x) n (fun y (a:List Bool × Bool)=>(g a.1,a.2,(y:Int))) (fun y a=>Adv b G m0 a.1 a.2/\(a.2=false->∀ i,i < x * n+y->C i m0)) (fun r=>∃ m' ag',r=(g m',ag')/\Adv b G m0 m' ag'/\(ag'=false->∀ i,i < (x+1) * n->C i m0)) (fun y a hy hI=>?_) (fun a hI=>?_) n 0 (m,ag) (by omega) ⟨h,by simpa using hc⟩
 ·obtain ⟨r,h1,m',ag',rfl,h2⟩:=key
  exact ⟨m',ag',h1,h2⟩
 ·obtain ⟨m1,ag1⟩:=a
  obtain ⟨hI1,hI2⟩:=hI
  simp only at hI1 hI2
  rcases h8 x y m1 ag1 hx hy hI1.good with ⟨e,hC⟩|⟨e1,e2,e3⟩
  ·refine ⟨(m1,ag1),e,hI1,fun hf i hi=>?_⟩
   by_cases hii:i < x * n+y
   ·exact hI2 hf i hii
   ·obtain rfl:i=x * n+y:=by omega
    rw [←hI1.eq hf];exact hC
  ·exact ⟨(m1.set (x * n+y) (!b),true),e3,hI1.flip e1 e2,fun h=>by cases h⟩
 ·refine ⟨_,h8' x a.1 a.2 hx hI.1.good,a.1,a.2,rfl,hI.1,fun hf i hi=>hI.2 hf i ?_⟩
  rw [Nat.add_mul,Nat.one_mul] at hi
  exact hi
theorem aNM (h8:∀ x y m ag,x < N->y < n->G m->s8 x (g m,ag,(y:Int))=some (.inl (g m,ag,((y+1:Nat):Int)))/\C (x * n+y) m\/m[x * n+y]?=some b/\G (m.set (x * n+y) (!b))/\s8 x (g m,ag,(y:Int))=some (.inl (g (m.set (x * n+y) (!b)),true,((y+1:Nat):Int))))
  (h8':∀ x m ag,x < N->G m->s8 x (g m,ag,(n:Int))=some (.inr (g m,ag)))
  (h9:∀ x m ag,x < N->G m->s9 (g m,ag,(x:Int))=ob (loop (s8 x) (g m,ag,0)) fun r=>some (.inl (r.1,r.2,((x+1:Nat):Int))))
  (h9':∀ m ag,G m->s9 (g m,ag,(N:Int))=some (.inr (g m,ag))) {m:List Bool} (hG:G m):
  ∃ m' ag,loop s9 (g m,false,0)=some (g m',ag)/\Adv b G m m' ag/\(ag=false->∀ i,i < N * n->C i m):=by
 have key:=eP (step:=s9) N (fun x (a:List Bool × Bool)=>(g a.1,a.2,(x:Int))) (fun x a=>Adv b G m a.1 a.2/\(a.2=false->∀ i,i < x * n->C i m)) (fun r=>∃ m' ag',r=(g m',ag')/\Adv b G m m' ag'/\(ag'=false->∀ i,i < N * n->C i m)) (fun x a hx hI=>?_) (fun a hI=>?_) N 0 (m,false) (by omega) ⟨Adv.refl hG,fun _ i hi=>by omega⟩
 ·obtain ⟨r,h1,m',ag',rfl,h2⟩:=key
  exact ⟨m',ag',h1,h2⟩
 ·obtain ⟨m',ag',h1,h2,h3⟩:=pass_row h8 h8' hx hI.1 hI.2
  exact ⟨(m',ag'),by rw [h9 x _ _ hx hI.1.good,h1];rfl,h2,h3⟩
 ·exact ⟨_,h9' _ _ hI.1.good,a.1,a.2,rfl,hI⟩
end
end Gv
set_option linter.unusedSimpArgs false
set_option linter.unusedVariables false
namespace Gv
open Go
theorem aLq {γ:Type} {step:List γ × Int->Option ((List γ × Int) ⊕ List γ)} {N:Nat} {row:γ} (hN:N<=1000000) (h:∀ (k:Nat) m,k < N->m.length=N->step (m,(k:Int))=some (.inl (m.set k row,((k+1:Nat):Int)))) (h':∀ m,m.length=N->step (m,(N:Int))=some (.inr m)) {m0:List γ} (h0:m0.length=N):loop step (m0,0)=some (List.replicate N row):=by
 obtain ⟨r,h1,h2⟩:=eP (step:=step) N (fun k (m:List γ)=>(m,(k:Int))) (fun k m=>m.length=N/\m.take k=List.replicate k row) (fun r=>r=List.replicate N row) (fun k m hk hI=>⟨m.set k row,h k m hk hI.1,by simp [hI.1],by
  rw [List.take_add_one,List.take_set_of_le (Nat.le_refl _),hI.2,List.replicate_succ']
  simp [hI.1,hk]⟩) (fun m hI=>⟨m,h' m hI.1,by
  have:=hI.2
  rw [List.take_of_length_le (by omega)] at this
  exact this⟩) N 0 m0 (by omega) ⟨h0,by simp⟩
 rw [←h2];exact h1
section
variable {t p:aS} {m:List Bool} {n N:Nat}
theorem aFE {m:List Bool} {i:Nat} (hi:i < m.length) (b:Bool) (h:m.getD i false=b):m[i]?=some b:=by
 rw [List.getD_eq_getElem?_getD,List.getElem?_eq_getElem hi] at h
 rw [List.getElem?_eq_getElem hi]
 simp at h
 rw [h]
theorem leave_at (ht:aO t) (hp:jK p) (hn:p.N=(n:Int)) (hN:t.N=(N:Int)):sK ⟨t,p⟩=some (aBS n N (aHf (nY t p) (N * n))):=by
 have hn40:1<=n/\n<=40:=by have:=hp.1.1;omega
 have hN40:1<=N/\N<=40:=by have:=ht.1;omega
 have hnt:p.N.toNat=n:=by omega
 have hNt:t.N.toNat=N:=by omega
 unfold sK vY
 simp only
 rw [hN,aGV _ (by simp [jL];omega),aA]
 have hfill:=aLq (step:=fun s:List (List Bool) × Int=>lL ⟨t,p⟩ false (List.replicate N []) s.1 s.2) (N:=N) (row:=List.replicate n false) (by omega) (fun k m hk hm=>by
  simp only [lL,List.length_replicate,bF hk,if_pos,hn,aOu false n hn40.1 (by omega),aA,bK (xs:=m) (k:=k) (by omega),yL (xs:=m) (k:=k) _ (by omega),aV hk (show N < 4611686018427387904 by omega)]) (fun m hm=>by simp only [lL,List.length_replicate,bJ];rfl) (m0:=List.replicate N []) (by simp)
 rw [hfill,aA]
 unfold oY
 rw [←aRo]
 have hG0:GLc (nY t p) (N * n) (List.replicate (N * n) false):=⟨by simp,fun q hq=>by rw [List.getElem?_replicate] at hq;split at hq<;>cases hq⟩
 have hset:=aCP (α:=List (List Bool)) (aBS n N) (step:=fun s:List (List Bool) × Bool=>oX false ⟨t,p⟩ s.1 s.2) false (GLc (nY t p) (N * n)) (CLc (nY t p)) (fun m hG=>?_) (fun m=>rfl) (N * n) (List.replicate (N * n) false) (by simp) hG0
 ·obtain ⟨m,hl,hG,hC⟩:=hset
  rw [hl,aA,wW,aA,GLc.row (by rw [←hnt,←hNt];exact aPP ht hp.1) hG hC]
 ·have key:=aNM (g:=aBS n N) (n:=n) (N:=N) (b:=false) (G:=GLc (nY t p) (N * n)) (C:=fun i m=>m[i]?=some false->lvC (nY t p) m i=false) (s8:=fun x s=>fU false ⟨t,p⟩ (x:Int) (List.replicate n false) s.1 s.2.1 s.2.2) (s9:=fun s=>mI false ⟨t,p⟩ (aBS n N m) s.1 s.2.1 s.2.2) (fun x y m1 ag1 hx hy hG1=>?_) (fun x m1 ag1 hx hG1=>?_) (fun x m1 ag1 hx hG1=>?_) (fun m1 ag1 hG1=>?_) hG
  ·obtain ⟨m',ag,h1,h2,h3⟩:=key
   refine ⟨m',ag,?_,h2,fun hf i hi=>h3 hf i (by have:=(List.getElem?_eq_some_iff.1 hi).1;have:=hG.1;omega) hi⟩
   simp only [oX,if_pos]
   rw [h1];rfl
  ·have hm:=hG1.1
   have hlt:=aAs hx hy
   simp only [fU,List.length_replicate,bF hy,if_pos,aBQ hm hx,aA,aCg hm hx hy,rT,aBv,movesL_at ht hp hn hN hm hx hy]
   cases hc:m1.getD (x * n+y) false with
   |true=>
    left
    simp only [show ((true == false)=true)=False by simp,if_false,iF,Bool.false_eq_true,iE,aV hy (show n < 4611686018427387904 by omega)]
    exact ⟨trivial,fun h=>by rw [aFE (by omega) true hc] at h;cases h⟩
   |false=>
    have hmq:=aFE (by omega) false hc
    simp only [BEq.rfl,if_pos]
    cases hb:lvC (nY t p) m1 (x * n+y) with
    |false=>
     left
     simp only [iF,Bool.false_eq_true,if_false,iE,aV hy (show n < 4611686018427387904 by omega)]
     exact ⟨trivial,fun _=>trivial⟩
    |true=>
     right
     refine ⟨hmq,hG1.flip hmq hb,?_⟩
     simp only [iF,if_pos,aBQ hm hx,aA,aCg hm hx hy,iE,aV hy (show n < 4611686018427387904 by omega),Bool.not_false]
     rw [yL _ (by rw [aDO hm hx];exact hy),aA,yL _ (by rw [aAi];exact hx),aRn hm hx hy,aA]
  ·simp only [fU,List.length_replicate,bJ];rfl
  ·have hm:=hG1.1
   have hrow:∀ s:List (List Bool) × Bool × Int,fU false ⟨t,p⟩ (x:Int) ((m1.drop (x * n)).take n) s.1 s.2.1 s.2.2=fU false ⟨t,p⟩ (x:Int) (List.replicate n false) s.1 s.2.1 s.2.2:=fun s=>by
    unfold fU
    rw [aDO hm hx,List.length_replicate]
   simp only [mI,aAi,bF hx,if_pos,aBQ hm hx,aA,wY,qB,aV hx (show N < 4611686018427387904 by omega),hrow]
  ·simp only [mI,aAi,bJ];rfl
theorem stay_at (ht:aO t) (hp:jK p) (hn:p.N=(n:Int)) (hN:t.N=(N:Int)):uG ⟨t,p⟩=some (aBS n N (aHg (nY t p) (N * n))):=by
 have hn40:1<=n/\n<=40:=by have:=hp.1.1;omega
 have hN40:1<=N/\N<=40:=by have:=ht.1;omega
 have hnt:p.N.toNat=n:=by omega
 have hNt:t.N.toNat=N:=by omega
 have h300:=ht.2.2.2.1
 unfold uG qC
 simp only
 rw [hN,aGV _ (by simp [jL];omega),aA]
 have hfill:=aLq (step:=fun s:List (List Bool) × Int=>jD ⟨t,p⟩ true (List.replicate N []) s.1 s.2) (N:=N) (row:=List.replicate n true) (by omega) (fun k m hk hm=>by
  simp only [jD,List.length_replicate,bF hk,if_pos,hn,aOu true n hn40.1 (by omega),aA,bK (xs:=m) (k:=k) (by omega),yL (xs:=m) (k:=k) _ (by omega),aV hk (show N < 4611686018427387904 by omega)]) (fun m hm=>by simp only [jD,List.length_replicate,bJ];rfl) (m0:=List.replicate N []) (by simp)
 rw [hfill,aA]
 unfold mA
 rw [←aRo]
 have hG0:GSc (nY t p) (N * n) (List.replicate (N * n) true):=⟨by simp,fun q hq=>by rw [List.getElem?_replicate] at hq;split at hq<;>cases hq⟩
 have hset:=aCP (α:=List (List Bool)) (aBS n N) (step:=fun s:List (List Bool) × Bool=>lZ true ⟨t,p⟩ s.1 s.2) true (GSc (nY t p) (N * n)) (CSc (nY t p)) (fun m hG=>?_) (fun m=>rfl) (N * n) (List.replicate (N * n) true) (by simp) hG0
 ·obtain ⟨m,hl,hG,hC⟩:=hset
  rw [hl,aA,sM,aA,hG.row hC]
 ·have key:=aNM (g:=aBS n N) (n:=n) (N:=N) (b:=true) (G:=GSc (nY t p) (N * n)) (C:=fun i m=>m[i]?=some true->nY t p i=[]\/stC (nY t p) m i=true) (s8:=fun x s=>eD true ⟨t,p⟩ (x:Int) (List.replicate n true) s.1 s.2.1 s.2.2) (s9:=fun s=>jX true ⟨t,p⟩ (aBS n N m) s.1 s.2.1 s.2.2) (fun x y m1 ag1 hx hy hG1=>?_) (fun x m1 ag1 hx hG1=>?_) (fun x m1 ag1 hx hG1=>?_) (fun m1 ag1 hG1=>?_) hG
  ·obtain ⟨m',ag,h1,h2,h3⟩:=key
   refine ⟨m',ag,?_,h2,fun hf i hi=>h3 hf i (by have:=(List.getElem?_eq_some_iff.1 hi).1;have:=hG.1;omega) hi⟩
   simp only [lZ,if_pos]
   rw [h1];rfl
  ·have hm:=hG1.1
   have hlt:=aAs hx hy
   have hst:oR (x:Int) (y:Int) (aBS n N m1) ⟨t,p⟩=some (decide (nY t p (x * n+y)≠[])&&!stC (nY t p) m1 (x * n+y)):=by
    have hne:nY t p (x * n+y)=[]<->t.E.filter (fun e=>e.F == (x:Int))=[]:=mvC_nil hnt hy
    unfold oR vZ
    simp only
    rw [aPv _ _ (by omega),aA]
    by_cases h0:t.E.filter (fun e=>e.F == (x:Int))=[]
    ·rw [if_neg (by rw [h0];simp),decide_eq_false (p:=nY t p (x * n+y)≠[]) (fun h=>h (hne.2 h0))];rfl
    ·have:0 < (t.E.filter fun e=>e.F == (x:Int)).length:=List.length_pos_iff.2 h0
     rw [if_pos (by simp only [decide_eq_true_eq];omega),movesS_at ht hp hn hN hm hx hy,decide_eq_true (p:=nY t p (x * n+y)≠[]) (fun h=>h0 (hne.1 h))];rfl
   simp only [eD,List.length_replicate,bF hy,if_pos,aBQ hm hx,aA,aCg hm hx hy,hst]
   cases hc:m1.getD (x * n+y) false with
   |false=>
    left
    simp only [show ((false == true)=true)=False by simp,if_false,fH,Bool.false_eq_true,fG,aV hy (show n < 4611686018427387904 by omega)]
    exact ⟨trivial,fun h=>by rw [aFE (by omega) false hc] at h;cases h⟩
   |true=>
    have hmq:=aFE (by omega) true hc
    simp only [BEq.rfl,if_pos]
    cases hb:(decide (nY t p (x * n+y)≠[])&&!stC (nY t p) m1 (x * n+y)) with
    |false=>
     left
     simp only [fH,Bool.false_eq_true,if_false,fG,aV hy (show n < 4611686018427387904 by omega)]
     refine ⟨trivial,fun _=>?_⟩
     rw [Bool.and_eq_false_iff,decide_eq_false_iff_not,Classical.not_not] at hb
     rcases hb with h|h
     ·exact .inl h
     ·exact .inr (by simpa using h)
    |true=>
     right
     rw [Bool.and_eq_true,decide_eq_true_iff] at hb
     refine ⟨hmq,hG1.flip hmq (by rw [←hnt,←hNt];exact aPP ht hp.1 _ (by rw [hnt,hNt];exact hlt)) hb.1 (by simpa using hb.2),?_⟩
     simp only [fH,if_pos,aBQ hm hx,aA,aCg hm hx hy,fG,aV hy (show n < 4611686018427387904 by omega),Bool.not_true]
     rw [yL _ (by rw [aDO hm hx];exact hy),aA,yL _ (by rw [aAi];exact hx),aRn hm hx hy,aA]
  ·simp only [eD,List.length_replicate,bJ];rfl
  ·have hm:=hG1.1
   have hrow:∀ s:List (List Bool) × Bool × Int,eD true ⟨t,p⟩ (x:Int) ((m1.drop (x * n)).take n) s.1 s.2.1 s.2.2=eD true ⟨t,p⟩ (x:Int) (List.replicate n true) s.1 s.2.1 s.2.2:=fun s=>by
    unfold eD
    rw [aDO hm hx,List.length_replicate]
   simp only [jX,aAi,bF hx,if_pos,aBQ hm hx,aA,sP,mV,aV hx (show N < 4611686018427387904 by omega),hrow]
  ·simp only [jX,aAi,bJ];rfl
end
end Gv
set_option linter.unusedSimpArgs false
set_option linter.unusedVariables false
namespace Gv
open Go
section
variable {t p:aS} {m:List Bool} {n N:Nat}
theorem To_at (ht:aO t) (hp:aO p) {e:Edge} (he:e∈t.E) (q:Int):aKh t p e q=some (tgt t p e q):=by
 unfold aKh tgt
 by_cases h:e.B=0
 ·rw [if_pos (by simpa using h),if_pos h]
 ·rw [if_neg (by simpa using h),if_neg h,xH (mY ht he),aA,aQM hp,aA]
theorem aFF (hn:n<=40) {x y:Nat} (hx:x<=40) (hy:y < n):wr (wr ((x:Int) * (n:Int))+(y:Int))=((x * n+y:Nat):Int):=by
 have h1:x * n<=40 * 40:=Nat.mul_le_mul hx hn
 rw [show (x:Int) * (n:Int)=((x * n:Nat):Int) by rw [Int.natCast_mul],eB (x:=((x * n:Nat):Int)) (by omega) (by omega),eB (by omega) (by omega)]
 omega
theorem aDP {i:Nat} (h:i < m.length):ix m (i:Int)=some (m.getD i false):=by
 rw [bK h,List.getD_eq_getElem?_getD,List.getElem?_eq_getElem h];rfl
def CEe (t p:aS) (n:Nat) (e:Edge) (y:Nat) (m:List Bool):Prop:=m[e.F.toNat * n+y]?=some false->¬ (tgt t p e (y:Int) < 0)/\m.getD (e.To.toNat * n+(tgt t p e (y:Int)).toNat) false=false
theorem aSB (ht:aO t) (hp:aO p) (hn:p.N=(n:Int)) (hN:t.N=(N:Int)) {e:Edge} (he:e∈t.E) {m0 m:List Bool} {ag:Bool} (h:Adv false (GLc (nY t p) (N * n)) m0 m ag) (Q:Prop) (hQ:ag=false->Q):
  ∃ m' ag',loop (fun s:List Bool × Bool × Int=>vE t p e s.1 s.2.1 s.2.2) (m,ag,0)=some (m',ag')/\Adv false (GLc (nY t p) (N * n)) m0 m' ag'/\(ag'=false->Q/\∀ y,y < n->CEe t p n e y m0):=by
 have hn40:1<=n/\n<=40:=by have:=hp.1;omega
 have hN40:1<=N/\N<=40:=by have:=ht.1;omega
 have hnt:p.N.toNat=n:=by omega
 have hb:=tA ht he
 obtain ⟨x,hx⟩:∃ x:Nat,e.F=(x:Int):=⟨e.F.toNat,by omega⟩
 obtain ⟨v,hv⟩:∃ v:Nat,e.To=(v:Int):=⟨e.To.toNat,by omega⟩
 have hmem:e∈dG t (x:Int):=List.mem_filter.2 ⟨he,by simp [hx]⟩
 have key:=eP (step:=fun s:List Bool × Bool × Int=>vE t p e s.1 s.2.1 s.2.2) n (fun y (a:List Bool × Bool)=>(a.1,a.2,(y:Int)))
  (fun y a=>Adv false (GLc (nY t p) (N * n)) m0 a.1 a.2/\(a.2=false->Q/\∀ y',y' < y->CEe t p n e y' m0)) (fun r=>∃ m' ag',r=(m',ag')/\Adv false (GLc (nY t p) (N * n)) m0 m' ag'/\(ag'=false->Q/\∀ y,y < n->CEe t p n e y m0)) (fun y a hy hI=>?_) (fun a hI=>?_) n 0 (m,ag) (by omega) ⟨h,fun h=>⟨hQ h,fun q' hq'=>by omega⟩⟩
 ·obtain ⟨r,h1,m',ag',rfl,h2⟩:=key
  exact ⟨m',ag',h1,h2⟩
 ·obtain ⟨m,ag⟩:=a
  obtain ⟨hI1,hI2⟩:=hI
  simp only at hI1 hI2
  have hlen:=hI1.good.1
  have hlt:=aAs (n:=n) (N:=N) (x:=x) (y:=y) (by omega) hy
  have htg:=aNL (t:=t) hp (y:=(y:Int)) (by omega) e
  have hk:∀ m' ag',Adv false (GLc (nY t p) (N * n)) m0 m' ag'->(ag'=false->Q/\∀ y',y' < y->CEe t p n e y' m0)->(ag'=false->CEe t p n e y m')->(ag'=false->Q/\∀ y',y' < y+1->CEe t p n e y' m0):=by
   intro m' ag' hA hQ' hC hf
   refine ⟨(hQ' hf).1,fun y' hy'=>?_⟩
   by_cases hyy:y' < y
   ·exact (hQ' hf).2 y' hyy
   ·obtain rfl:y'=y:=by omega
    rw [←hA.eq hf];exact hC hf
  simp only [vE,hn,bF hy,if_pos,hx,aFF hn40.2 (show x<=40 by omega) hy,aDP (m:=m) (i:=x * n+y) (by omega),aA,To_at ht hp he,mB,aV hy (show n < 4611686018427387904 by omega)]
  cases hm:m.getD (x * n+y) false with
  |true=>
   refine ⟨(m,ag),rfl,hI1,hk m ag hI1 hI2 fun _ hc=>?_⟩
   rw [hx,Int.toNat_natCast,aFE (by omega) true hm] at hc
   cases hc
  |false=>
   have hmq:=aFE (by omega) false hm
   have hflip:(decide (tgt t p e (y:Int) < 0)||m.getD (e.To.toNat * n+(tgt t p e (y:Int)).toNat) false)=true->GLc (nY t p) (N * n) (m.set (x * n+y) (!false)):=fun hb'=>
    hI1.good.flip hmq (by rw [lvC_at hnt hy,List.any_eq_true];exact ⟨e,hmem,hb'⟩)
   simp only [Bool.false_eq_true,if_false]
   by_cases hneg:tgt t p e (y:Int) < 0
   ·rw [if_pos (by simpa using hneg)]
    simp only [rI,if_pos,hx,hn,aFF hn40.2 (show x<=40 by omega) hy,aDP (m:=m) (i:=x * n+y) (by omega),aA,yL (xs:=m) (k:=x * n+y) _ (by omega),mB,aV hy (show n < 4611686018427387904 by omega)]
    exact ⟨(m.set (x * n+y) true,true),rfl,hI1.flip hmq (hflip (by simp [hneg])),fun h=>by cases h⟩
   ·obtain ⟨k,hkk⟩:∃ k:Nat,tgt t p e (y:Int)=(k:Int):=⟨(tgt t p e (y:Int)).toNat,by omega⟩
    have hlt2:=aAs (n:=n) (N:=N) (x:=v) (y:=k) (by omega) (by omega)
    rw [if_neg (by simpa using hneg),hv,hkk,aFF hn40.2 (by omega) (by omega),aDP (m:=m) (i:=v * n+k) (by omega),aA]
    cases hg:m.getD (v * n+k) false with
    |true=>
     simp only [rI,if_pos,hx,hn,aFF hn40.2 (show x<=40 by omega) hy,aDP (m:=m) (i:=x * n+y) (by omega),aA,yL (xs:=m) (k:=x * n+y) _ (by omega),mB,aV hy (show n < 4611686018427387904 by omega)]
     exact ⟨(m.set (x * n+y) true,true),rfl,hI1.flip hmq (hflip (by rw [hv,hkk,Int.toNat_natCast,Int.toNat_natCast,hg];simp)),fun h=>by cases h⟩
    |false=>
     simp only [rI,Bool.false_eq_true,if_false,mB,aV hy (show n < 4611686018427387904 by omega)]
     refine ⟨(m,ag),rfl,hI1,hk m ag hI1 hI2 fun _ _=>⟨hneg,?_⟩⟩
     rw [hv,hkk,Int.toNat_natCast,Int.toNat_natCast];exact hg
 ·refine ⟨_,?_,a.1,a.2,rfl,hI.1,hI.2⟩
  simp only [vE,hn,bJ];rfl
theorem refL_at (ht:aO t) (hp:aO p) (hn:p.N=(n:Int)) (hN:t.N=(N:Int)):aEw t p=some (aHf (nY t p) (N * n)):=by
 have hn40:1<=n/\n<=40:=by have:=hp.1;omega
 have hN40:1<=N/\N<=40:=by have:=ht.1;omega
 have hnt:p.N.toNat=n:=by omega
 have hNt:t.N.toNat=N:=by omega
 have h300:=ht.2.2.2.1
 have hNn:N * n<=40 * 40:=Nat.mul_le_mul hN40.2 hn40.2
 unfold aEw
 rw [hN,hn,show (N:Int) * (n:Int)=((N * n:Nat):Int) by rw [Int.natCast_mul],eB (by omega) (by omega),aGV _ (by simp [jL];omega),aA]
 have hG0:GLc (nY t p) (N * n) (List.replicate (N * n) false):=⟨by simp,fun q hq=>by rw [List.getElem?_replicate] at hq;split at hq<;>cases hq⟩
 have hset:=aCP (α:=List Bool) id (step:=fun s:List Bool × Bool=>aBx t p s.1 s.2) false (GLc (nY t p) (N * n)) (CLc (nY t p)) (fun m hG=>?_) (fun m=>rfl) (N * n) (List.replicate (N * n) false) (by simp) hG0
 ·obtain ⟨m,hl,hG,hC⟩:=hset
  simp only [id] at hl
  rw [hl,aA,aFQ,GLc.row (by rw [←hnt,←hNt];exact aPP ht hp) hG hC]
 ·have key:=eP (step:=fun s:List Bool × Bool × Int=>aAb t p s.1 s.2.1 s.2.2) t.E.length (fun i (a:List Bool × Bool)=>(a.1,a.2,(i:Int)))
   (fun i a=>Adv false (GLc (nY t p) (N * n)) m a.1 a.2/\(a.2=false->∀ i',i' < i->∀ he:i' < t.E.length,∀ y,y < n->CEe t p n t.E[i'] y m)) (fun r=>Adv false (GLc (nY t p) (N * n)) m r.1 r.2/\(r.2=false->CLc (nY t p) m)) (fun i a hi hI=>?_) (fun a hI=>?_) t.E.length 0 (m,false) (by omega) ⟨Adv.refl hG,fun _ i' h=>by omega⟩
  ·obtain ⟨r,hr,hA,hc⟩:=key
   simp only [id,aBx,if_pos]
   rw [show (0:Int)=((0:Nat):Int) from rfl,hr]
   exact ⟨r.1,r.2,rfl,hA,hc⟩
  ·obtain ⟨m1,ag⟩:=a
   simp only at hI
   obtain ⟨m',ag',hr,hA,hc⟩:=aSB ht hp hn hN (List.getElem_mem hi) hI.1 _ hI.2
   refine ⟨(m',ag'),?_,hA,fun hf i' hi' he' y hy=>?_⟩
   ·simp only [aAb,bF hi,if_pos,bK hi,aA,hr]
    rw [←aV hi (by omega)];rfl
   ·by_cases hii:i' < i
    ·exact (hc hf).1 i' hii he' y hy
    ·obtain rfl:i'=i:=by omega
     exact (hc hf).2 y hy
  ·refine ⟨a,by simp only [aAb,bJ];rfl,hI.1,fun hf q hq=>?_⟩
   have hql:q < N * n:=by have:=(List.getElem?_eq_some_iff.1 hq).1;have:=hG.1;omega
   obtain ⟨x,y,hy,rfl⟩:∃ x y,y < n/\q=x * n+y:=⟨q / n,q % n,Nat.mod_lt _ (by omega),by rw [Nat.mul_comm];exact (Nat.div_add_mod q n).symm⟩
   rw [lvC_at hnt hy,List.any_eq_false]
   intro e he
   obtain ⟨he1,he2⟩:=List.mem_filter.1 he
   have hf':e.F=(x:Int):=by simpa using he2
   obtain ⟨i',hi',rfl⟩:=List.mem_iff_getElem.1 he1
   have:=hI.2 hf i' hi' hi' y hy
   unfold CEe at this
   rw [hf',Int.toNat_natCast] at this
   obtain ⟨g1,g2⟩:=this hq
   rw [decide_eq_false g1,g2];simp
theorem refS_any (ht:aO t) (hp:aO p) (hn:p.N=(n:Int)) (hN:t.N=(N:Int)) (hm:m.length=N * n) {x y:Nat} (hx:x < N) (hy:y < n):
  loop (fun s:Bool × Int=>xW t p (dG t (x:Int)) m (y:Int) s.1 s.2) (false,0)=some (stC (nY t p) m (x * n+y)):=by
 have h300:=ht.2.2.2.1
 have hn40:1<=n/\n<=40:=by have:=hp.1;omega
 have hN40:1<=N/\N<=40:=by have:=ht.1;omega
 have hol:(dG t (x:Int)).length<=300:=Nat.le_trans (List.length_filter_le _ _) h300
 rw [stC_at (by omega) hy]
 have:=sY (step:=fun s:Bool × Int=>xW t p (dG t (x:Int)) m (y:Int) s.1 s.2) (dG t (x:Int)) (fun k (b:Bool)=>(b,(k:Int))) (fun l b=>b||l.any fun e=>decide (0<=tgt t p e (y:Int))&&m.getD (e.To.toNat * n+(tgt t p e (y:Int)).toNat) false) (fun _ _=>True) (fun k a e l hk hx _=>?_) (fun a _=>by simp only [xW,bJ];simp) (a:=false) trivial
 ·simpa using this
 ·left
  obtain ⟨hk',rfl⟩:=aBO hx
  have hem:(dG t (x:Int))[k]∈t.E:=(List.mem_filter.1 (List.getElem_mem hk)).1
  have hb:=tA ht hem
  obtain ⟨v,hv⟩:∃ v:Nat,(dG t (x:Int))[k].To=(v:Int):=⟨(dG t (x:Int))[k].To.toNat,by omega⟩
  have hlt:=aNL (t:=t) hp (y:=(y:Int)) (by omega) (dG t (x:Int))[k]
  refine ⟨a||(decide (0<=tgt t p (dG t (x:Int))[k] (y:Int))&&m.getD ((dG t (x:Int))[k].To.toNat * n+(tgt t p (dG t (x:Int))[k] (y:Int)).toNat) false),?_,trivial,?_⟩
  ·simp only [xW,bF hk,if_pos,hx,aA,To_at ht hp hem,xV,aV hk (show (dG t (x:Int)).length < 4611686018427387904 by omega)]
   cases a with
   |true=>simp
   |false=>
    by_cases h0:0<=tgt t p (dG t (x:Int))[k] (y:Int)
    ·obtain ⟨j,hj⟩:∃ j:Nat,tgt t p (dG t (x:Int))[k] (y:Int)=(j:Int):=⟨(tgt t p (dG t (x:Int))[k] (y:Int)).toNat,by omega⟩
     have hlt2:=aAs (n:=n) (N:=N) (x:=v) (y:=j) (by omega) (by omega)
     rw [decide_eq_true h0,hv,hn,hj,aFF hn40.2 (by omega) (by omega),aDP (by omega)];simp
    ·rw [decide_eq_false h0];simp
  ·rw [List.any_cons,Bool.or_assoc]
theorem refS_at (ht:aO t) (hp:aO p) (hn:p.N=(n:Int)) (hN:t.N=(N:Int)):aGn t p=some (aHg (nY t p) (N * n)):=by
 have hn40:1<=n/\n<=40:=by have:=hp.1;omega
 have hN40:1<=N/\N<=40:=by have:=ht.1;omega
 have hnt:p.N.toNat=n:=by omega
 have hNt:t.N.toNat=N:=by omega
 have h300:=ht.2.2.2.1
 have hNn:N * n<=40 * 40:=Nat.mul_le_mul hN40.2 hn40.2
 unfold aGn
 rw [hN,hn,show (N:Int) * (n:Int)=((N * n:Nat):Int) by rw [Int.natCast_mul],eB (by omega) (by omega),aGV _ (by simp [jL];omega),aA]
 have hfill:=aLq (step:=fun s:List Bool × Int=>aAe s.1 s.2) (N:=N * n) (row:=true) (by omega) (fun k m hk hm=>by
  simp only [aAe,hm,bF hk,if_pos,bK (xs:=m) (k:=k) (by omega),yL (xs:=m) (k:=k) _ (by omega),aA,aV hk (show N * n < 4611686018427387904 by omega)]) (fun m hm=>by simp only [aAe,hm,bJ];rfl) (m0:=List.replicate (N * n) false) (by simp)
 rw [hfill,aA]
 unfold aCp
 have hG0:GSc (nY t p) (N * n) (List.replicate (N * n) true):=⟨by simp,fun q hq=>by rw [List.getElem?_replicate] at hq;split at hq<;>cases hq⟩
 have hset:=aCP (α:=List Bool) id (step:=fun s:List Bool × Bool=>aCo t p s.1 s.2) true (GSc (nY t p) (N * n)) (CSc (nY t p)) (fun m hG=>?_) (fun m=>rfl) (N * n) (List.replicate (N * n) true) (by simp) hG0
 ·obtain ⟨m,hl,hG,hC⟩:=hset
  simp only [id] at hl
  rw [hl,aA,aGN,hG.row hC]
 ·have key:=aNM (g:=id) (n:=n) (N:=N) (b:=true) (G:=GSc (nY t p) (N * n)) (C:=fun i m=>m[i]?=some true->nY t p i=[]\/stC (nY t p) m i=true) (s8:=fun x s=>aAc t p (x:Int) (dG t (x:Int)) s.1 s.2.1 s.2.2) (s9:=fun s=>aAd t p s.1 s.2.1 s.2.2) (fun x y m1 ag1 hx hy hG1=>?_) (fun x m1 ag1 hx hG1=>?_) (fun x m1 ag1 hx hG1=>?_) (fun m1 ag1 hG1=>?_) hG
  ·obtain ⟨m',ag,h1,h2,h3⟩:=key
   refine ⟨m',ag,?_,h2,fun hf i hi=>h3 hf i (by have:=(List.getElem?_eq_some_iff.1 hi).1;have:=hG.1;omega) hi⟩
   simp only [id] at h1
   simp only [id,aCo,if_pos]
   rw [h1];rfl
  ·have hm:=hG1.1
   have hlt:=aAs hx hy
   have hne:nY t p (x * n+y)=[]<->dG t (x:Int)=[]:=mvC_nil hnt hy
   simp only [id,aAc,hn,bF hy,if_pos,aFF hn40.2 (show x<=40 by omega) hy,aDP (m:=m1) (i:=x * n+y) (by omega),aA]
   cases hc:m1.getD (x * n+y) false with
   |false=>
    left
    simp only [Bool.not_false,if_pos,vF,nU,aV hy (show n < 4611686018427387904 by omega)]
    exact ⟨trivial,fun h=>by rw [aFE (by omega) false hc] at h;cases h⟩
   |true=>
    have hmq:=aFE (by omega) true hc
    simp only [Bool.not_true,Bool.false_eq_true,if_false,vF,nU,aV hy (show n < 4611686018427387904 by omega)]
    by_cases h0:dG t (x:Int)=[]
    ·left
     rw [if_pos (by rw [h0];rfl)]
     exact ⟨rfl,fun _=>.inl (hne.2 h0)⟩
    ·rw [if_neg (by simpa using h0),refS_any ht hp hn hN hm hx hy,aA]
     cases hb:stC (nY t p) m1 (x * n+y) with
     |true=>
      left
      simp only [aBy,Bool.not_true,Bool.false_eq_true,if_false,nU,aV hy (show n < 4611686018427387904 by omega)]
      exact ⟨trivial,fun _=>.inr trivial⟩
     |false=>
      right
      refine ⟨hmq,hG1.flip hmq (by rw [←hnt,←hNt];exact aPP ht hp _ (by rw [hnt,hNt];exact hlt)) (fun h=>h0 (hne.1 h)) hb,?_⟩
      simp only [aBy,Bool.not_false,if_pos,hn,aFF hn40.2 (show x<=40 by omega) hy,aDP (m:=m1) (i:=x * n+y) (by omega),yL (xs:=m1) (k:=x * n+y) _ (by omega),aA,nU,aV hy (show n < 4611686018427387904 by omega),Bool.not_true]
  ·simp only [id,aAc,hn,bJ];rfl
  ·simp only [id,aAd,hN,bF hx,if_pos,aGP,aDG,aV hx (show N < 4611686018427387904 by omega)]
   rw [l11Out_eq t _ (by omega),aA];rfl
  ·simp only [id,aAd,hN,bJ];rfl
end
end Gv
set_option linter.unusedSimpArgs false
set_option linter.unusedVariables false
namespace Gv
open Go
theorem aMl {γ:Type} {step:Int->Option (Int ⊕ (Unit ⊕ Int))} (xs:List γ) (f:γ->Bool) (h:∀ (k:Nat) (hk:k < xs.length),step (k:Int)=if f xs[k]=true then some (.inr (.inr (k:Int))) else some (.inl ((k+1:Nat):Int))) (h':step (xs.length:Int)=some (.inr (.inl ()))):
  ∃ r,loop step 0=some r/\((r=.inl ()/\xs.any f=false)\/∃ k:Nat,r=.inr (k:Int)/\xs.any f=true):=by
 obtain ⟨r,h1,h2⟩:=oN (step:=step) (fun s=>∃ k:Nat,s=(k:Int)/\k<=xs.length/\∀ i,(hi:i < xs.length)->i < k->f xs[i]=false) (fun s=>xs.length - s.toNat) (fun r=>(r=.inl ()/\xs.any f=false)\/∃ k:Nat,r=.inr (k:Int)/\xs.any f=true) (fun s hs=>by
  obtain ⟨k,rfl,hk,hI⟩:=hs
  by_cases he:k=xs.length
  ·right
   subst he
   refine ⟨_,h',.inl ⟨rfl,?_⟩⟩
   rw [List.any_eq_false]
   intro x hx
   obtain ⟨i,hi,rfl⟩:=List.mem_iff_getElem.1 hx
   rw [hI i hi hi];simp
  ·have hk':k < xs.length:=by omega
   rw [h k hk']
   by_cases hf:f xs[k]=true
   ·right
    rw [if_pos hf]
    exact ⟨_,rfl,.inr ⟨k,rfl,List.any_eq_true.2 ⟨_,List.getElem_mem hk',hf⟩⟩⟩
   ·left
    rw [if_neg hf]
    refine ⟨_,rfl,⟨k+1,rfl,by omega,fun i hi hik=>?_⟩,by omega⟩
    by_cases e:i=k
    ·subst e;simpa using hf
    ·exact hI i hi (by omega)) (s:=0) ⟨0,rfl,Nat.zero_le _,fun i _ h=>by omega⟩
 exact ⟨r,h1,h2⟩
section
variable {t p:aS} {n N:Nat}
noncomputable def lvS (t p:aS) (S:List Int) (y:Int):Bool:=S.any fun x=>cl (LvC (nY t p) (x.toNat * p.N.toNat+y.toNat))
noncomputable def stS (t p:aS) (S:List Int) (y:Int):Bool:=S.any fun x=>cl (StC (nY t p) (x.toNat * p.N.toNat+y.toNat))
noncomputable def rQ (t p:aS) (S:List Int) (y:Int):Int:=if y < 0 then 2 else if lvS t p S y=false then 1 else if stS t p S y=false then 2 else 0
noncomputable def jdg (t p:aS):pV:=⟨aBS p.N.toNat t.N.toNat (aHf (nY t p) (t.N.toNat * p.N.toNat)),aBS p.N.toNat t.N.toNat (aHg (nY t p) (t.N.toNat * p.N.toNat))⟩
theorem aRp (ht:aO t) (hp:jK p):oK ⟨t,p⟩=some (jdg t p):=by
 have h1:=ht.1
 have h2:=hp.1.1
 unfold oK
 rw [leave_at ht hp (n:=p.N.toNat) (N:=t.N.toNat) (by omega) (by omega),aA,stay_at ht hp (n:=p.N.toNat) (N:=t.N.toNat) (by omega) (by omega),aA]
 rfl
theorem aNN (mv:Nat->List (Option Nat)) (M:Nat):(aHf mv M).length=M:=by unfold aHf;simp
theorem aNO (mv:Nat->List (Option Nat)) (M:Nat):(aHg mv M).length=M:=by unfold aHg;simp
theorem aJK (ht:aO t) (hp:aO p) {S:List Int} (hS:iS t S) {y:Int} (hy:y < p.N):jH (jdg t p) S y=some (rQ t p S y):=by
 have h1:=ht.1
 have h2:=hp.1
 have hSl:=hS.len
 unfold jH rQ
 by_cases h0:y < 0
 ·rw [if_pos (by simpa using h0),if_pos h0]
 ·obtain ⟨k,rfl⟩:∃ k:Nat,y=(k:Int):=⟨y.toNat,by omega⟩
  rw [if_neg (by simpa using h0),if_neg h0]
  have hcL:∀ i (hi:i < S.length),tT S[i] (jdg t p) (k:Int)=some (cl (LvC (nY t p) (S[i].toNat * p.N.toNat+k))):=fun i hi=>by
   have hin:=hS.inn S[i] (List.getElem_mem hi)
   obtain ⟨x,hx⟩:∃ x:Nat,S[i]=(x:Int):=⟨S[i].toNat,by omega⟩
   have hlt:=aAs (n:=p.N.toNat) (N:=t.N.toNat) (x:=x) (y:=k) (by omega) (by omega)
   unfold tT jdg
   simp only
   rw [hx,aBQ (aNN _ _) (by omega),aA,aCg (aNN _ _) (by omega) (by omega),aA,aRl hlt,Int.toNat_natCast]
  have hcS:∀ i (hi:i < S.length),tU S[i] (jdg t p) (k:Int)=some (cl (StC (nY t p) (S[i].toNat * p.N.toNat+k))):=fun i hi=>by
   have hin:=hS.inn S[i] (List.getElem_mem hi)
   obtain ⟨x,hx⟩:∃ x:Nat,S[i]=(x:Int):=⟨S[i].toNat,by omega⟩
   have hlt:=aAs (n:=p.N.toNat) (N:=t.N.toNat) (x:=x) (y:=k) (by omega) (by omega)
   unfold tU jdg
   simp only
   rw [hx,aBQ (aNO _ _) (by omega),aA,aCg (aNO _ _) (by omega) (by omega),aA,aRm hlt,Int.toNat_natCast]
  have hL:eG S (jdg t p) (k:Int)=some (lvS t p S (k:Int)):=by
   unfold eG eY
   obtain ⟨r,e1,e2⟩:=aMl (step:=fun s=>cY S (jdg t p) (k:Int) s) S (fun x=>cl (LvC (nY t p) (x.toNat * p.N.toNat+(k:Int).toNat))) (fun i hi=>by
    simp only [cY,bF hi,if_pos,bK hi,aA,hcL i hi,Int.toNat_natCast,aV hi (show S.length < 4611686018427387904 by omega)]) (by simp only [cY,bJ];rfl)
   rw [e1,aA]
   unfold lvS
   rcases e2 with ⟨rfl,e⟩|⟨j,rfl,e⟩
   ·rw [e];rfl
   ·rw [e]
    show (ob (some (j:Int)) fun r16=>some (decide (0<=r16)))=_
    rw [aA,decide_eq_true (by omega)]
  have hSt:eH S (jdg t p) (k:Int)=some (stS t p S (k:Int)):=by
   unfold eH eZ
   obtain ⟨r,e1,e2⟩:=aMl (step:=fun s=>cZ S (jdg t p) (k:Int) s) S (fun x=>cl (StC (nY t p) (x.toNat * p.N.toNat+(k:Int).toNat))) (fun i hi=>by
    simp only [cZ,bF hi,if_pos,bK hi,aA,hcS i hi,Int.toNat_natCast,aV hi (show S.length < 4611686018427387904 by omega)]) (by simp only [cZ,bJ];rfl)
   rw [e1,aA]
   unfold stS
   rcases e2 with ⟨rfl,e⟩|⟨j,rfl,e⟩
   ·rw [e];rfl
   ·rw [e]
    show (ob (some (j:Int)) fun r16=>some (decide (0<=r16)))=_
    rw [aA,decide_eq_true (by omega)]
  rw [hL,aA]
  cases lvS t p S (k:Int) with
  |false=>simp
  |true=>
   rw [if_neg (by simp),if_neg (by simp),hSt,aA]
   cases stS t p S (k:Int)<;>simp
theorem refV_at (ht:aO t) (hp:aO p) {S:List Int} (hS:iS t S) {y:Int} (hy:y < p.N):aBz p (aHf (nY t p) (t.N.toNat * p.N.toNat)) (aHg (nY t p) (t.N.toNat * p.N.toNat)) S y=some (rQ t p S y):=by
 have h1:=ht.1
 have h2:=hp.1
 have hSl:=hS.len
 unfold aBz rQ
 by_cases h0:y < 0
 ·rw [if_pos (by simpa using h0),if_pos h0]
 ·obtain ⟨k,rfl⟩:∃ k:Nat,y=(k:Int):=⟨y.toNat,by omega⟩
  rw [if_neg (by simpa using h0),if_neg h0]
  have key:=eP (step:=fun s:Bool × Bool × Int=>pO p (aHf (nY t p) (t.N.toNat * p.N.toNat)) (aHg (nY t p) (t.N.toNat * p.N.toNat)) S (k:Int) s.1 s.2.1 s.2.2) S.length (fun i (a:Bool × Bool)=>(a.1,a.2,(i:Int)))
   (fun i a=>a.1=(S.take i).any (fun x=>cl (LvC (nY t p) (x.toNat * p.N.toNat+(k:Int).toNat)))/\a.2=(S.take i).any (fun x=>cl (StC (nY t p) (x.toNat * p.N.toNat+(k:Int).toNat)))) (fun r=>r.1=lvS t p S (k:Int)/\r.2=stS t p S (k:Int)) (fun i a hi hI=>?_) (fun a hI=>?_) S.length 0 (false,false) (by omega) ⟨rfl,rfl⟩
  ·obtain ⟨r,e1,e2,e3⟩:=key
   have e1':loop (fun s:Bool × Bool × Int=>pO p (aHf (nY t p) (t.N.toNat * p.N.toNat)) (aHg (nY t p) (t.N.toNat * p.N.toNat)) S (k:Int) s.1 s.2.1 s.2.2) (false,false,0)=some r:=e1
   rw [e1',aA,e2,e3]
   unfold aCV
   cases lvS t p S (k:Int)<;>cases stS t p S (k:Int)<;>rfl
  ·obtain ⟨a,b⟩:=a
   obtain ⟨rfl,rfl⟩:=hI
   have hin:=hS.inn S[i] (List.getElem_mem hi)
   obtain ⟨x,hx⟩:∃ x:Nat,S[i]=(x:Int):=⟨S[i].toNat,by omega⟩
   have hlt:=aAs (n:=p.N.toNat) (N:=t.N.toNat) (x:=x) (y:=k) (by omega) (by omega)
   have hw:wr (wr ((x:Int) * p.N)+(k:Int))=((x * p.N.toNat+k:Nat):Int):=by
    have:=aFF (n:=p.N.toNat) (x:=x) (y:=k) (by omega) (by omega) (by omega)
    rw [show ((p.N.toNat:Nat):Int)=p.N by omega] at this
    exact this
   refine ⟨((S.take (i+1)).any (fun x=>cl (LvC (nY t p) (x.toNat * p.N.toNat+(k:Int).toNat))),(S.take (i+1)).any (fun x=>cl (StC (nY t p) (x.toNat * p.N.toNat+(k:Int).toNat)))),?_,rfl,rfl⟩
   simp only
   rw [List.take_succ_eq_append_getElem hi,List.any_append,List.any_append]
   simp only [pO,bF hi,if_pos,bK hi,aA,hw,aDP (m:=aHf (nY t p) (t.N.toNat * p.N.toNat)) (i:=x * p.N.toNat+k) (by rw [aNN];exact hlt),aRl hlt,uI,aDP (m:=aHg (nY t p) (t.N.toNat * p.N.toNat)) (i:=x * p.N.toNat+k) (by rw [aNO];exact hlt),aRm hlt,uH,aV hi (show S.length < 4611686018427387904 by omega),List.any_cons,List.any_nil,Bool.or_false,hx,Int.toNat_natCast]
   cases (S.take i).any fun x=>cl (LvC (nY t p) (x.toNat * p.N.toNat+k))<;>cases (S.take i).any fun x=>cl (StC (nY t p) (x.toNat * p.N.toNat+k))<;>simp
  ·refine ⟨(a.1,a.2),?_,?_,?_⟩
   ·simp only [pO,bJ];rfl
   ·simp only
    rw [hI.1,List.take_length];rfl
   ·simp only
    rw [hI.2,List.take_length];rfl
end
end Gv
set_option linter.unusedSimpArgs false
set_option linter.unusedVariables false
namespace Gv
open Go
section
variable (t p:aS)
noncomputable def wthG (y:Int) (x:Int × List Int):Int × (List Int × Int):=(x.1,(x.2,iR p y (jF t x.1.toNat)))
noncomputable def aGA (S:List Int) (y:Int) (n k:Nat):List (Int × (List Int × Int)):=(aAX t S n k).map (wthG t p y)
noncomputable def fJ (q:List Int × Int):List (Int × (List Int × Int)):=if rQ t p q.1 q.2=0 then aGA t p q.1 q.2 (t.L.length - 1) 1 else []
structure tC (q:List Int × Int):Prop where
 set:iS t q.1
 low:-1<=q.2
 lt:q.2 < p.N
noncomputable def dN:List (List Int × Int) × List Edge:=rP id (fJ t p) 40 41 0 ([(lU t,p.I)],[])
noncomputable def aCR:aZ:=⟨⟨((dN t p).1.length:Int),0,t.L,(dN t p).2⟩,(dN t p).1.map fun q=>rQ t p q.1 q.2⟩
noncomputable def monS:aZ × Bool:=if Small (dN t p) then (aCR t p,true) else (⟨⟨0,0,[],[]⟩,[]⟩,false)
end
section
variable {t p:aS}
theorem aON (S:List Int) (y:Int) (n k:Nat):aGA t p S y (n+1) k=if vS t S (k:Int)=[] then aGA t p S y n (k+1) else ((k:Int),(vS t S (k:Int),iR p y (jF t k)))::aGA t p S y n (k+1):=by
 unfold aGA
 simp only [aAX]
 split
 ·rfl
 ·simp [wthG]
theorem sucY_good (ht:aO t) (hp:aO p) {S:List Int} (hS:iS t S) (y:Int) (n k:Nat):∀ x∈aGA t p S y n k,tC t p x.2:=by
 intro x hx
 obtain ⟨z,hz,rfl⟩:=List.mem_map.1 hx
 have h:=xI hp y (jF t z.1.toNat)
 exact ⟨aDZ ht hS n k z hz,h.1,by show iR p y _ < _;omega⟩
theorem aLr (ht:aO t) (hp:aO p) {q:List Int × Int} (hq:tC t p q):∀ x∈fJ t p q,tC t p x.2:=by
 unfold fJ
 split
 ·exact sucY_good ht hp hq.set _ _ _
 ·intro x hx;simp at hx
theorem sucW_len (q:List Int × Int):(fJ t p q).length<=t.L.length - 1:=by
 unfold fJ
 split
 ·unfold aGA
  rw [List.length_map]
  exact aNx _ _ _
 ·simp
theorem sucW_inc (ht:aO t) (q:List Int × Int):Inc 0 (t.L.tail.length:Int) (fJ t p q):=by
 unfold fJ
 split
 ·obtain ⟨h1,h2⟩:=aQT ht q.1
  unfold iL at h1 h2
  unfold aGA
  refine ⟨?_,fun x hx=>?_⟩
  ·rw [List.pairwise_map]
   exact h1.imp fun {a b} h=>h
  ·obtain ⟨z,hz,rfl⟩:=List.mem_map.1 hx
   exact h2 z hz
 ·exact ⟨by simp,fun x hx=>by simp at hx⟩
theorem pair_find (A:List (List Int × Int)) (r:List Int) (y:Int) (hn:A.Nodup) (hA:A.length<=1000) (h2:∀ q∈A,q.1.length<=40):loop (fun s:Int × Int=>nZ (A.map (·.1)) (A.map (·.2)) r y s.1 s.2) (-1,0)=some (pos A (r,y)):=by
 have:=rC (step:=fun s:Int × Int=>nZ (A.map (·.1)) (A.map (·.2)) r y s.1 s.2) A.length (fun k (a:Int)=>(a,(k:Int))) (fun k a=>match (A.drop k).findIdx? (fun x=>(r,y) == x) with|none=>a|some j=>((k+j:Nat):Int)) (fun _ _=>True) (fun k a hk _=>?_) (fun a _=>by
  have hd:decide ((A.length:Int) < ((A.map (·.1)).length:Int))=false:=by simp
  simp only [nZ,hd];simp) A.length 0 (-1) (by omega) trivial
 ·rw [show loop (fun s:Int × Int=>nZ (A.map (·.1)) (A.map (·.2)) r y s.1 s.2) (-1,0)=_ from this]
  unfold pos
  rw [List.drop_zero]
  cases A.findIdx? (fun x=>(r,y) == x)<;>simp
 ·left
  have hl:=h2 _ (List.getElem_mem hk)
  have hk1:k < (A.map (·.1)).length:=by simpa using hk
  have hk2:k < (A.map (·.2)).length:=by simpa using hk
  rw [List.drop_eq_getElem_cons hk,List.findIdx?_cons]
  have hst:nZ (A.map (·.1)) (A.map (·.2)) r y a (k:Int)=some (.inl (if A[k]=(r,y) then (k:Int) else a,((k+1:Nat):Int))):=by
   have hw:=aV hk (show A.length < 4611686018427387904 by omega)
   simp only [nZ,bF hk1,if_pos,bK hk2,aA,bK hk1,List.getElem_map,aNp _ r (show A[k].1.length < 4611686018427387904 by omega),aDJ,aBB,hw]
   by_cases e1:A[k].2=y
   ·by_cases e2:A[k].1=r
    ·have e:A[k]=(r,y):=Prod.ext e2 e1
     rw [if_pos e,if_pos (by simp [e1]),if_pos (by simp [e2])]
    ·rw [if_neg (show ¬ A[k]=(r,y) from fun h=>e2 (by rw [h])),if_pos (by simp [e1]),if_neg (by simp [e2])]
   ·rw [if_neg (show ¬ A[k]=(r,y) from fun h=>e1 (by rw [h])),if_neg (by simp [e1]),if_neg (by simp)]
  by_cases e:A[k]=(r,y)
  ·have hno:(A.drop (k+1)).findIdx? (fun x=>(r,y) == x)=none:=by
    rw [List.findIdx?_eq_none_iff]
    intro x hx
    rw [beq_eq_false_iff_ne]
    rintro rfl
    have hd:(A.drop k).Nodup:=hn.sublist (List.drop_sublist _ _)
    rw [List.drop_eq_getElem_cons hk,List.nodup_cons] at hd
    exact hd.1 (e ▸ hx)
   refine ⟨(k:Int),by simp only;rw [hst,if_pos e],trivial,?_⟩
   rw [hno]
   simp [e]
  ·refine ⟨a,by simp only;rw [hst,if_neg e],trivial,?_⟩
   have e':¬ (r,y)=A[k]:=fun h=>e h.symm
   rw [if_neg (by simpa using e')]
   cases (A.drop (k+1)).findIdx? (fun x=>(r,y) == x) with
   |none=>rfl
   |some j=>simp only [Option.map_some];congr 1;omega
theorem lab_at {k:Nat} (h:k < t.L.length):ix t.L (k:Int)=some (jF t k):=by
 rw [bK h]
 unfold jF
 rw [List.getD_eq_getElem?_getD,List.getElem?_eq_getElem h];rfl
noncomputable abbrev s12W (t p:aS) (i:Nat) (v:Int) (s:List (List Int) × List Int × List Edge × Int):=rK t p (i:Int) v s.1 s.2.1 s.2.2.1 s.2.2.2
theorem aSC (ht:aO t) (hp:aO p) {i:Nat} {q:List Int × Int} {s:List (List Int × Int) × List Edge} (hi:s.1[i]?=some q) (hnd:(s.1.map id).Nodup) (hg:∀ q∈s.1,tC t p q) (hs:Small s):
  loop (s12W t p i (rQ t p q.1 q.2)) (s.1.map (·.1),s.1.map (·.2),s.2,1)=some (if Small (cU id (i:Int) (fJ t p q) s) then .inl ((cU id (i:Int) (fJ t p q) s).1.map (·.1),(cU id (i:Int) (fJ t p q) s).1.map (·.2),(cU id (i:Int) (fJ t p q) s).2) else .inr (⟨⟨0,0,[],[]⟩,[]⟩,false)):=by
 have h12:=ht.2.2.1.2.1
 have h1:=ht.2.2.1.1
 by_cases hv:rQ t p q.1 q.2=0
 ·have:=rC (step:=s12W t p i (rQ t p q.1 q.2)) t.L.length (fun k (a:List (List Int × Int) × List Edge)=>(a.1.map (·.1),a.1.map (·.2),a.2,(k:Int)))
   (fun k a=>if Small (cU id (i:Int) (aGA t p q.1 q.2 (t.L.length - k) k) a) then (Sum.inl ((cU id (i:Int) (aGA t p q.1 q.2 (t.L.length - k) k) a).1.map (·.1),(cU id (i:Int) (aGA t p q.1 q.2 (t.L.length - k) k) a).1.map (·.2),(cU id (i:Int) (aGA t p q.1 q.2 (t.L.length - k) k) a).2):(List (List Int) × List Int × List Edge) ⊕ (aZ × Bool)) else .inr (⟨⟨0,0,[],[]⟩,[]⟩,false))
   (fun _ a=>a.1[i]?=some q/\(a.1.map id).Nodup/\(∀ q∈a.1,tC t p q)/\Small a) (fun k a hk hI=>?_) (fun a hI=>?_) (t.L.length - 1) 1 s (by omega) ⟨hi,hnd,hg,hs⟩
  ·unfold fJ
   rw [if_pos hv]
   exact this
  ·obtain ⟨a1,a2,a3,a4⟩:=hI
   have hS:=(a3 q (List.mem_of_getElem? a1)).set
   obtain ⟨hn,hng⟩:=aNw ht hS (k:Int)
   have hnw:tC t p (vS t q.1 (k:Int),iR p q.2 (jF t k)):=⟨hng,(xI hp q.2 (jF t k)).1,by have:=xI hp q.2 (jF t k);show iR p q.2 (jF t k) < _;omega⟩
   have hsl:=aON (t:=t) (p:=p) q.1 q.2 (t.L.length - (k+1)) k
   rw [show t.L.length - (k+1)+1=t.L.length - k by omega] at hsl
   have hw:=aV hk (show t.L.length < 4611686018427387904 by omega)
   have hm1:(a.1.map (·.1))[i]?=some q.1:=by rw [List.getElem?_map,a1];rfl
   have hm2:(a.1.map (·.2))[i]?=some q.2:=by rw [List.getElem?_map,a1];rfl
   have hst:s12W t p i (rQ t p q.1 q.2) (a.1.map (·.1),a.1.map (·.2),a.2,(k:Int))=(if vS t q.1 (k:Int)=[] then some (.inl (a.1.map (·.1),a.1.map (·.2),a.2,((k+1:Nat):Int))) else xZ (i:Int) (a.1.map (·.1)) (a.1.map (·.2)) a.2 (k:Int) (vS t q.1 (k:Int)) (iR p q.2 (jF t k)) (pos a.1 (vS t q.1 (k:Int),iR p q.2 (jF t k)))):=by
    simp only [s12W,rK,bF hk,if_pos,hv,BEq.rfl,rJ,aFG,hm1,hm2,aA,hn,xY,hw]
    by_cases e:vS t q.1 (k:Int)=[]
    ·rw [if_pos e,if_pos (by simp [e])]
    ·rw [if_neg e,if_neg (by simpa using e),←aFG,lab_at hk,aA,aQM hp,aA,pair_find _ _ _ (by simpa using a2) (by have:=a4.1;omega) (fun x hx=>(a3 x hx).set.len),aA]
   try simp only
   rw [hst,hsl]
   by_cases e:vS t q.1 (k:Int)=[]
   ·left
    rw [if_pos e,if_pos e]
    exact ⟨a,rfl,⟨a1,a2,a3,a4⟩,rfl⟩
   ·rw [if_neg e,if_neg e,vI]
    have hnew:xZ (i:Int) (a.1.map (·.1)) (a.1.map (·.2)) a.2 (k:Int) (vS t q.1 (k:Int)) (iR p q.2 (jF t k)) (pos a.1 (vS t q.1 (k:Int),iR p q.2 (jF t k)))=some (if Small (nX id (i:Int) a ((k:Int),(vS t q.1 (k:Int),iR p q.2 (jF t k)))) then .inl ((nX id (i:Int) a ((k:Int),(vS t q.1 (k:Int),iR p q.2 (jF t k)))).1.map (·.1),(nX id (i:Int) a ((k:Int),(vS t q.1 (k:Int),iR p q.2 (jF t k)))).1.map (·.2),(nX id (i:Int) a ((k:Int),(vS t q.1 (k:Int),iR p q.2 (jF t k)))).2,((k+1:Nat):Int)) else .inr (.inr (⟨⟨0,0,[],[]⟩,[]⟩,false))):=by
     obtain ⟨b1,b2⟩:=a4
     unfold xZ aBA aDI xY nX tF atK Small
     simp only [List.map_id,id]
     by_cases hm:(vS t q.1 (k:Int),iR p q.2 (jF t k))∈a.1
     ·have hp':=aFB.2 hm
      rw [if_neg (by simpa using hp')]
      simp only [if_pos hm,List.length_append,List.length_singleton]
      rw [cF (by simp [jL];omega),aA,if_neg (by simp;omega)]
      by_cases h3:a.2.length=300
      ·rw [if_pos (by simp [h3]),if_neg (by omega)]
      ·rw [if_neg (by simp;omega),if_pos (by omega),hw]
     ·have hp':¬ 0<=pos a.1 (vS t q.1 (k:Int),iR p q.2 (jF t k)):=fun h=>hm (aFB.1 h)
      rw [if_pos (by simpa using hp'),cF (by simp [jL];omega),aA,cF (by simp [jL];omega),aA,cF (by simp [jL];omega),aA]
      simp only [if_neg hm,List.length_append,List.length_singleton,List.map_append,List.map_singleton,List.length_map]
      by_cases h4:a.1.length=40
      ·rw [if_pos (by simp [h4]),if_pos trivial,if_neg (by omega)]
      ·rw [if_neg (by simp;omega)]
       by_cases h3:a.2.length=300
       ·rw [if_pos (by simp [h3]),if_neg (by omega)]
       ·rw [if_neg (by simp;omega),if_pos (by omega),hw]
    rw [hnew]
    by_cases hok:Small (nX id (i:Int) a ((k:Int),(vS t q.1 (k:Int),iR p q.2 (jF t k))))
    ·left
     rw [if_pos hok]
     refine ⟨_,rfl,⟨pre_get (aGx (key:=id) a.1 _) a1,aJI (key:=id) a2 _,aGy (key:=id) a3 hnw,hok⟩,rfl⟩
    ·right
     rw [if_neg hok,if_neg (fun h=>hok (Small.pre (uR (key:=id) _ _ _) h))]
  ·simp only [s12W,rK,bJ,rJ]
   rw [Nat.sub_self]
   show some (Sum.inr (Sum.inl (a.1.map (·.1),a.1.map (·.2),a.2)))=_
   rw [show cU id (i:Int) (aGA t p q.1 q.2 0 t.L.length) a=a from rfl,if_pos hI.2.2.2]
 ·unfold fJ
  rw [if_neg hv,aKy,if_pos hs]
  refine uQ ?_
  have hb:(rQ t p q.1 q.2 == 0)=false:=by simpa using hv
  simp only [s12W,rK,hb,rJ]
  split<;>rfl
theorem aNP (ht:aO t) (hp:aO p):∀ (n i:Nat) (s:List (List Int × Int) × List Edge) (out:List Int),i<=s.1.length->41<=n+i->(s.1.map id).Nodup->(∀ q∈s.1,tC t p q)->Small s->out=(s.1.take i).map (fun q=>rQ t p q.1 q.2)->
  loop (fun x:List (List Int) × List Int × List Int × List Edge × Int=>kJ t p (aHf (nY t p) (t.N.toNat * p.N.toNat)) (aHg (nY t p) (t.N.toNat * p.N.toNat)) x.1 x.2.1 x.2.2.1 x.2.2.2.1 x.2.2.2.2) (s.1.map (·.1),s.1.map (·.2),out,s.2,(i:Int))=
   some (if Small (rP id (fJ t p) 40 n i s) then .inl ((rP id (fJ t p) 40 n i s).1.map (·.1),(rP id (fJ t p) 40 n i s).1.map (fun q=>rQ t p q.1 q.2),(rP id (fJ t p) 40 n i s).2) else .inr (⟨⟨0,0,[],[]⟩,[]⟩,false))
 |0,i,s,out,hi,hn,_,_,hs,_=>by have:=hs.1;omega
 |n+1,i,s,out,hi,hn,hnd,hg,hs,ho=>by
  have hstep:∀ x:List (List Int) × List Int × List Int × List Edge × Int,(fun x:List (List Int) × List Int × List Int × List Edge × Int=>kJ t p (aHf (nY t p) (t.N.toNat * p.N.toNat)) (aHg (nY t p) (t.N.toNat * p.N.toNat)) x.1 x.2.1 x.2.2.1 x.2.2.2.1 x.2.2.2.2) x=kJ t p (aHf (nY t p) (t.N.toNat * p.N.toNat)) (aHg (nY t p) (t.N.toNat * p.N.toNat)) x.1 x.2.1 x.2.2.1 x.2.2.2.1 x.2.2.2.2:=fun _=>rfl
  by_cases hlt:i < s.1.length
  ·have hq:s.1[i]?=some s.1[i]:=List.getElem?_eq_getElem hlt
   have hx:rP id (fJ t p) 40 (n+1) i s=if 40 < (cU id (i:Int) (fJ t p s.1[i]) s).1.length then cU id (i:Int) (fJ t p s.1[i]) s else rP id (fJ t p) 40 n (i+1) (cU id (i:Int) (fJ t p s.1[i]) s):=by
    rw [rP,hq]
   have hw:=aV hlt (show s.1.length < 4611686018427387904 by have:=hs.1;omega)
   have hGq:=hg _ (List.getElem_mem hlt)
   have g1:=aEM (key:=id) (i:Int) (fJ t p s.1[i]) s hnd
   have g2:=aCQ (key:=id) (P:=tC t p) (i:Int) (fJ t p s.1[i]) s hg (aLr ht hp hGq)
   have gp:=(uR (key:=id) (i:Int) (fJ t p s.1[i]) s).1
   have gl:=gp.length_le
   have hol:out.length<=100:=by rw [ho,List.length_map,List.length_take];have:=hs.1;omega
   have hi1:i < (s.1.map (·.1)).length:=by simpa using hlt
   have hi2:i < (s.1.map (·.2)).length:=by simpa using hlt
   have hst:kJ t p (aHf (nY t p) (t.N.toNat * p.N.toNat)) (aHg (nY t p) (t.N.toNat * p.N.toNat)) (s.1.map (·.1)) (s.1.map (·.2)) out s.2 (i:Int)=if Small (cU id (i:Int) (fJ t p s.1[i]) s) then some (.inl ((cU id (i:Int) (fJ t p s.1[i]) s).1.map (·.1),(cU id (i:Int) (fJ t p s.1[i]) s).1.map (·.2),out++[rQ t p s.1[i].1 s.1[i].2],(cU id (i:Int) (fJ t p s.1[i]) s).2,((i+1:Nat):Int))) else some (.inr (.inr (⟨⟨0,0,[],[]⟩,[]⟩,false))):=by
    have hin:=aSC ht hp hq hnd hg hs
    unfold kJ
    rw [if_pos (bF hi1),bK hi1,aA,bK hi2,aA,List.getElem_map,List.getElem_map,refV_at ht hp hGq.set hGq.lt,aA,cF (by simp [jL];omega),aA]
    have hin':loop (fun x:List (List Int) × List Int × List Edge × Int=>rK t p (i:Int) (rQ t p s.1[i].1 s.1[i].2) x.1 x.2.1 x.2.2.1 x.2.2.2) (s.1.map (·.1),s.1.map (·.2),s.2,1)=_:=hin
    rw [hin',aA]
    by_cases hok:Small (cU id (i:Int) (fJ t p s.1[i]) s)
    ·rw [if_pos hok,if_pos hok];simp only [aGQ,aDH,hw]
    ·rw [if_neg hok,if_neg hok]
   by_cases hok:Small (cU id (i:Int) (fJ t p s.1[i]) s)
   ·rw [if_pos hok] at hst
    rw [aBP (s:=(s.1.map (·.1),s.1.map (·.2),out,s.2,(i:Int))) ((hstep _).trans hst),show rP id (fJ t p) 40 (n+1) i s=rP id (fJ t p) 40 n (i+1) (cU id (i:Int) (fJ t p s.1[i]) s) by rw [hx];exact if_neg (by have:=hok.1;omega)]
    refine aNP ht hp n (i+1) _ _ (by omega) (by omega) g1 g2 hok ?_
    have ht1:(cU id (i:Int) (fJ t p s.1[i]) s).1.take (i+1)=s.1.take (i+1):=by
     obtain ⟨z,hz⟩:=gp
     rw [←hz,List.take_append_of_le_length (by omega)]
    rw [ht1,List.take_succ_eq_append_getElem hlt,List.map_append,ho];rfl
   ·rw [if_neg hok] at hst
    rw [uQ (s:=(s.1.map (·.1),s.1.map (·.2),out,s.2,(i:Int))) ((hstep _).trans hst),hx]
    by_cases h40:40 < (cU id (i:Int) (fJ t p s.1[i]) s).1.length
    ·rw [if_pos h40,if_neg hok]
    ·rw [show (if 40 < (cU id (i:Int) (fJ t p s.1[i]) s).1.length then cU id (i:Int) (fJ t p s.1[i]) s else rP id (fJ t p) 40 n (i+1) (cU id (i:Int) (fJ t p s.1[i]) s))=rP id (fJ t p) 40 n (i+1) (cU id (i:Int) (fJ t p s.1[i]) s) from if_neg h40,if_neg (fun h=>hok (Small.pre (aCt (key:=id) (fJ t p) 40 n (i+1) _) h))]
  ·obtain rfl:i=s.1.length:=by omega
   have hx:rP id (fJ t p) 40 (n+1) s.1.length s=s:=by
    rw [rP,List.getElem?_eq_none (Nat.le_refl _)]
   have hst:kJ t p (aHf (nY t p) (t.N.toNat * p.N.toNat)) (aHg (nY t p) (t.N.toNat * p.N.toNat)) (s.1.map (·.1)) (s.1.map (·.2)) out s.2 (s.1.length:Int)=some (.inr (.inl (s.1.map (·.1),out,s.2))):=by
    unfold kJ
    rw [if_neg (by simp)]
   rw [uQ (s:=(s.1.map (·.1),s.1.map (·.2),out,s.2,(s.1.length:Int))) ((hstep _).trans hst),hx,if_pos hs,ho,List.take_length]
theorem firstW (ht:aO t) (hp:aO p):tC t p (lU t,p.I):=⟨(aDN ht).2.2,by have:=hp.2.1;show -1<=p.I;omega,by have:=hp.2.1;show p.I < _;omega⟩
theorem refM_at (ht:aO t) (hp:aO p):aGo t p=some (monS t p):=by
 have h1:=ht.1
 have h2:=hp.1
 obtain ⟨f1,_,f3⟩:=aDN ht
 unfold aGo monS
 rw [refL_at ht hp (n:=p.N.toNat) (N:=t.N.toNat) (by omega) (by omega),aA,refS_at ht hp (n:=p.N.toNat) (N:=t.N.toNat) (by omega) (by omega),aA,f1,aA]
 have:=aNP ht hp 41 0 ([(lU t,p.I)],[]) [] (by simp) (by omega) (by simp) (fun q hq=>by simp at hq;subst hq;exact firstW ht hp) ⟨by simp,by simp⟩ rfl
 rw [show loop (fun x:List (List Int) × List Int × List Int × List Edge × Int=>kJ t p (aHf (nY t p) (t.N.toNat * p.N.toNat)) (aHg (nY t p) (t.N.toNat * p.N.toNat)) x.1 x.2.1 x.2.2.1 x.2.2.2.1 x.2.2.2.2) ([lU t],[p.I],[],[],0)=_ from this,aA]
 show (match (if Small (dN t p) then Sum.inl ((dN t p).1.map (·.1),(dN t p).1.map (fun q=>rQ t p q.1 q.2),(dN t p).2) else Sum.inr (⟨⟨0,0,[],[]⟩,[]⟩,false):(List (List Int) × List Int × List Edge) ⊕ (aZ × Bool)) with|.inl r=>xX t r.1 r.2.1 r.2.2|.inr r=>some r)=_
 by_cases hs:Small (dN t p)
 ·rw [if_pos hs,if_pos hs]
  simp only [xX]
  rw [cF (by have:=ht.2.2.1.2.1;simp [jL];omega),aA,List.nil_append,List.length_map]
  rfl
 ·rw [if_neg hs,if_neg hs]
theorem aMm (ht:aO t) (hp:aO p):(dN t p).1.Nodup/\(∀ q∈(dN t p).1,tC t p q)/\(dN t p).2.Pairwise xG/\(∀ e∈(dN t p).2,(0<=e.F/\e.F < (dN t p).1.length)/\(1<=e.B/\e.B<=t.L.tail.length)/\0<=e.To/\e.To < (dN t p).1.length)/\1<=(dN t p).1.length:=by
 have hg:∀ q∈([(lU t,p.I)],([]:List Edge)).1,tC t p q:=fun q hq=>by simp at hq;subst hq;exact firstW ht hp
 have hP:∀ q,tC t p q->∀ x∈fJ t p q,tC t p x.2:=fun q hq=>aLr ht hp hq
 obtain ⟨g1,g2⟩:=aPE (key:=id) hP 40 41 0 ([(lU t,p.I)],[]) (by simp) hg
 obtain ⟨j,hj,hE⟩:=aPF (key:=id) (L:=t.L.tail) hP (fun q _=>sucW_inc ht q) 40 41 0 ([(lU t,p.I)],[]) hg (by simp) ⟨by simp,fun e he=>by simp at he⟩
 obtain ⟨e1,e2⟩:=hE.done hj
 have g1':((dN t p).1.map id).Nodup:=g1
 rw [List.map_id] at g1'
 exact ⟨g1',g2,e1,e2,(aCt (key:=id) (fJ t p) 40 41 0 ([(lU t,p.I)],[])).1.length_le⟩
end
end Gv
set_option linter.unusedSimpArgs false
set_option linter.unusedVariables false
namespace Gv
open Go
theorem aPQ:∀ {S:List Int},(∀ q∈S,0<=q/\q<=63)->(32:UInt8)∉kS S
 |[],_=>by simp [kS,Lib.join_nil]
 |[a],h=>by
  have ha:=h a (by simp)
  unfold kS
  simp only [List.map_cons,List.map_nil,Lib.join_one]
  intro hm
  exact absurd (List.all_eq_true.1 (aKo (aGY ha.1 ha.2)) _ hm) (by decide)
 |a::c::S,h=>by
  have ha:=h a (by simp)
  have ih:=aPQ (S:=c::S) fun q hq=>h q (List.mem_cons_of_mem _ hq)
  unfold kS at ih ⊢
  simp only [List.map_cons,aEN] at ih ⊢
  intro hm
  rcases List.mem_append.1 hm with hm|hm
  ·exact absurd (List.all_eq_true.1 (aKo (aGY ha.1 ha.2)) _ hm) (by decide)
  ·rcases List.mem_cons.1 hm with hm|hm
   ·exact absurd hm (by decide)
   ·exact ih hm
def kW (q:List Int × Int):aJ:=kS q.1++32::Lib.itoa q.2
def toW (q:List Int × Int):bG:=⟨q.1,q.2⟩
section
variable {t p:aS}
theorem kW_inj (ht:aO t) (hp:aO p) {F:List (List Int × Int)} (hF:∀ q∈F,tC t p q) {q:List Int × Int} (h:tC t p q):∀ x∈F,kW x=kW q->x=q:=by
 intro x hx e
 have hx':=hF x hx
 obtain ⟨g1,g2⟩:=aPG (aPQ (hx'.set.small ht)) (aPQ (h.set.small ht)) e
 have hp1:=hp.1
 have a1:=hx'.low
 have a2:=hx'.lt
 have b1:=h.low
 have b2:=h.lt
 exact Prod.ext (kS_inj (hx'.set.small ht) (h.set.small ht) g1) (aKv (by omega) (by omega) g2)
theorem monKey_eq (ht:aO t) (hp:aO p) {q:List Int × Int} (h:tC t p q):oZ (toW q)=some (kW q):=by
 have hs:=h.set.small ht
 have hl:=kS_len hs
 have hsl:=h.set.len
 have hp1:=hp.1
 have b1:=h.low
 have b2:=h.lt
 have hi:=aNn (a:=q.2) (by omega)
 have hd:uT q.2=some (Lib.itoa q.2):=by unfold uT;rw [if_pos ⟨by omega,by omega⟩]
 unfold oZ toW
 simp only
 rw [aLk q.1 [44] (by omega) (fun x hx=>by have:=hs x hx;omega) (by show (kS q.1).length < jL;unfold jL;omega),aA]
 show (ob (cat (kS q.1) [32]) fun s13=>_)=_
 rw [aMU (by simp [jL];omega),aA,hd,aA,aMU (by simp [jL];omega),aA]
 unfold kW
 rw [List.append_assoc];rfl
theorem aNQ (ht:aO t) (hp:aO p) {F:List (List Int × Int)} (hF:∀ q∈F,tC t p q) {q:List Int × Int} (h:tC t p q) (hl:F.length<=1000) (arcs:List fD):
  cP (F.map toW) (mq 0 (F.map kW)) arcs (toW q)=some (atK id F q,(tF id F q).map toW,mq 0 ((tF id F q).map kW)):=by
 have hk:=kW_inj ht hp hF h
 unfold cP
 rw [monKey_eq ht hp h,aA]
 unfold atK tF
 rw [List.map_id]
 by_cases hm:q∈F
 ·rw [aMf ((aNv hk).2 hm),if_neg (by simp),if_pos (show id q∈F from hm),if_pos (show id q∈F from hm),aMg hk]
  rfl
 ·have hm':kW q∉F.map kW:=fun h=>hm ((aNv hk).1 h)
  rw [aKx hm',if_pos (by simp),if_neg (show ¬ id q∈F from hm),if_neg (show ¬ id q∈F from hm)]
  have h1:yX (mq 0 (F.map kW)) (kW q) ((F.map toW).length:Int)=mq 0 ((F++[q]).map kW):=by
   have:=aKw (k:=0) hm'
   rw [Nat.zero_add,List.length_map] at this
   rw [List.length_map,this,List.map_append];rfl
  rw [aA,h1,cF (by simp [jL];omega),aA]
  unfold fL
  simp only [List.length_map,List.map_append];rfl
theorem monAdd_eq (ht:aO t) (hp:aO p) {s:List (List Int × Int) × List Edge} (hF:∀ q∈s.1,tC t p q) {q:List Int × Int} (h:tC t p q) (hl:s.1.length<=1000) (he:s.2.length<=1000000) (L:List aJ) (i:Nat) (k:Int):
  eT (L.getD (k - 1).toNat []) (toW q) (s.1.map toW) (mq 0 (s.1.map kW)) (s.2.map (cL L)) (i:Int)=some ((nX id (i:Int) s (k,q)).1.map toW,mq 0 ((nX id (i:Int) s (k,q)).1.map kW),(nX id (i:Int) s (k,q)).2.map (cL L)):=by
 unfold eT
 rw [aNQ ht hp hF h hl,aA,cF (by simp [jL];omega),aA]
 unfold lS nX
 rw [List.map_append]
 rfl
theorem mon_inner (ht:aO t) (hp:jK p) {i:Nat} {q:List Int × Int} (hq:tC t p q) {s:List (List Int × Int) × List Edge} (hg:∀ q∈s.1,tC t p q) (hl:s.1.length<=100) (he:s.2.length<=100000):
  lM (toW q) (s.1.map toW) (mq 0 (s.1.map kW)) (s.2.map (cL t.L.tail)) (i:Int) (jdg t p) ⟨t,p⟩=some (true,(cU id (i:Int) (fJ t p q) s).1.map toW,mq 0 ((cU id (i:Int) (fJ t p q) s).1.map kW),(cU id (i:Int) (fJ t p q) s).2.map (cL t.L.tail)):=by
 have h12:=ht.2.2.1.2.1
 have h1:=ht.2.2.1.1
 have hS:=hq.set
 unfold lM
 show (ob (jH (jdg t p) q.1 q.2) fun r41=>_)=_
 rw [aJK ht hp.1 hS hq.lt,aA]
 by_cases hv:rQ t p q.1 q.2=0
 ·rw [if_neg (by simpa using hv)]
  have hsl:pQ t.L 1 (t.L.length:Int)=some t.L.tail:=by
   have:=aEK (s:=t.L) (w:=1) h1
   rw [show ((1:Nat):Int)=1 from rfl] at this
   rw [this,List.drop_one]
  have htl:t.L.tail.length=t.L.length - 1:=List.length_tail ..
  show (ob (pQ t.L 1 (t.L.length:Int)) fun r48=>_)=_
  rw [hsl,aA]
  have hsw:fJ t p q=aGA t p q.1 q.2 (t.L.length - 1) 1:=by unfold fJ;rw [if_pos hv]
  rw [hsw]
  have:=rC (step:=fun x:List bG × List (aJ × Int) × List fD × Int=>gK (toW q) (i:Int) (jdg t p) ⟨t,p⟩ t.L.tail x.1 x.2.1 x.2.2.1 x.2.2.2) t.L.tail.length (fun k (a:List (List Int × Int) × List Edge)=>(a.1.map toW,mq 0 (a.1.map kW),a.2.map (cL t.L.tail),(k:Int)))
   (fun k a=>((cU id (i:Int) (aGA t p q.1 q.2 (t.L.tail.length - k) (k+1)) a).1.map toW,mq 0 ((cU id (i:Int) (aGA t p q.1 q.2 (t.L.tail.length - k) (k+1)) a).1.map kW),(cU id (i:Int) (aGA t p q.1 q.2 (t.L.tail.length - k) (k+1)) a).2.map (cL t.L.tail)))
   (fun k a=>(∀ q∈a.1,tC t p q)/\a.1.length<=100+k/\a.2.length<=100000+k) (fun k a hk hI=>?_) (fun a hI=>?_) t.L.tail.length 0 s (by omega) ⟨hg,hl,he⟩
  ·rw [show loop (fun x:List bG × List (aJ × Int) × List fD × Int=>gK (toW q) (i:Int) (jdg t p) ⟨t,p⟩ t.L.tail x.1 x.2.1 x.2.2.1 x.2.2.2) (s.1.map toW,mq 0 (s.1.map kW),s.2.map (cL t.L.tail),0)=_ from this,aA]
   unfold rH
   simp only [Nat.sub_zero,htl,Nat.zero_add]
  ·left
   obtain ⟨a3,a4,a5⟩:=hI
   have hk1:k+1 < t.L.length:=by omega
   obtain ⟨hn,hng⟩:=aNw ht hS ((k+1:Nat):Int)
   obtain ⟨R,v1,v2,_⟩:=aIl ht (S:=q.1) (by have:=hS.len;omega) hk1
   have hR:R=vS t q.1 ((k+1:Nat):Int):=by rw [hn] at v2;exact (Option.some.inj v2).symm
   subst hR
   have hlab:t.L.tail[k]=t.L[k+1]:=by rw [List.getElem_tail]
   have hlK:jF t (k+1)=t.L[k+1]:=by unfold jF;rw [List.getD_eq_getElem?_getD,List.getElem?_eq_getElem hk1];rfl
   have hnw:tC t p (vS t q.1 ((k+1:Nat):Int),iR p q.2 (jF t (k+1))):=⟨hng,(xI hp.1 q.2 (jF t (k+1))).1,by have:=xI hp.1 q.2 (jF t (k+1));show iR p q.2 (jF t (k+1)) < _;omega⟩
   have hsL:=aON (t:=t) (p:=p) q.1 q.2 (t.L.tail.length - (k+1)) (k+1)
   rw [show t.L.tail.length - (k+1)+1=t.L.tail.length - k by omega] at hsL
   have hw:=aV hk (show t.L.tail.length < 4611686018427387904 by omega)
   rw [hsL]
   simp only [gK,bF hk,if_pos,bK hk,aA,hlab]
   show (∃ a',(ob (iJ t q.1 t.L[k+1]) fun r154=>_)=_/\_)
   rw [v1,aA]
   by_cases e:vS t q.1 ((k+1:Nat):Int)=[]
   ·rw [if_pos e,if_neg (by rw [e];simp)]
    exact ⟨a,by simp only [gJ,hw],⟨a3,by omega,by omega⟩,rfl⟩
   ·rw [if_neg e,if_pos (decide_eq_true (by have:=List.length_pos_iff.2 e;omega))]
    have hadd:=monAdd_eq ht hp.1 (s:=a) a3 hnw (by omega) (by omega) t.L.tail i ((k+1:Nat):Int)
    have hgd:t.L.tail.getD (((k+1:Nat):Int) - 1).toNat []=t.L[k+1]:=by
     rw [show (((k+1:Nat):Int) - 1).toNat=k by omega,List.getD_eq_getElem?_getD,List.getElem?_eq_getElem hk,←hlab];rfl
    rw [hgd] at hadd
    show (∃ a',(ob (lR p q.2 t.L[k+1]) fun r161=>_)=_/\_)
    rw [aFA hp.1 hp.2,aA,←hlK]
    rw [←hlK] at hadd
    show (∃ a',(ob (eT (jF t (k+1)) (toW (vS t q.1 ((k+1:Nat):Int),iR p q.2 (jF t (k+1)))) (a.1.map toW) (mq 0 (a.1.map kW)) (a.2.map (cL t.L.tail)) (i:Int)) fun r171=>_)=_/\_)
    rw [hadd,aA,vI]
    simp only [gJ,hw]
    refine ⟨nX id (i:Int) a (((k+1:Nat):Int),(vS t q.1 ((k+1:Nat):Int),iR p q.2 (jF t (k+1)))),rfl,⟨aGy (key:=id) a3 hnw,?_,?_⟩,rfl⟩
    ·have:=aIm (key:=id) a.1 (vS t q.1 ((k+1:Nat):Int),iR p q.2 (jF t (k+1)))
     simp only [nX];omega
    ·simp only [nX,List.length_append,List.length_singleton];omega
  ·simp only [gK,bJ]
   rw [Nat.sub_self]
   rfl
 ·rw [if_pos (by simpa using hv)]
  unfold fJ
  rw [if_neg hv,aKy]
theorem aOO (ht:aO t) (hp:jK p):∀ (n i:Nat) (s:List (List Int × Int) × List Edge),i<=s.1.length->41<=n+i->(∀ q∈s.1,tC t p q)->s.1.length<=40->s.2.length<=11 * i->
  loop (fun x:List bG × List (aJ × Int) × List fD × Int=>bY (jdg t p) ⟨t,p⟩ x.1 x.2.1 x.2.2.1 x.2.2.2) (s.1.map toW,mq 0 (s.1.map kW),s.2.map (cL t.L.tail),(i:Int))=
   some (if (rP id (fJ t p) 40 n i s).1.length<=40 then .inl ((rP id (fJ t p) 40 n i s).1.map toW,mq 0 ((rP id (fJ t p) 40 n i s).1.map kW),(rP id (fJ t p) 40 n i s).2.map (cL t.L.tail)) else .inr (⟨0,0,[],[]⟩,[],false))/\
   (rP id (fJ t p) 40 n i s).2.length<=11 * (n+i)
 |0,i,s,hi,hn,_,hs,_=>by omega
 |n+1,i,s,hi,hn,hg,hs,he=>by
  have h12:=ht.2.2.1.2.1
  by_cases hlt:i < s.1.length
  ·have hq:s.1[i]?=some s.1[i]:=List.getElem?_eq_getElem hlt
   have hx:rP id (fJ t p) 40 (n+1) i s=if 40 < (cU id (i:Int) (fJ t p s.1[i]) s).1.length then cU id (i:Int) (fJ t p s.1[i]) s else rP id (fJ t p) 40 n (i+1) (cU id (i:Int) (fJ t p s.1[i]) s):=by
    rw [rP,hq]
   have hw:=aV hlt (show s.1.length < 4611686018427387904 by omega)
   have hGq:=hg _ (List.getElem_mem hlt)
   have g2:=aCQ (key:=id) (P:=tC t p) (i:Int) (fJ t p s.1[i]) s hg (aLr ht hp.1 hGq)
   have gl:=(uR (key:=id) (i:Int) (fJ t p s.1[i]) s).1.length_le
   have ge:=(aIn (key:=id) (i:Int) (fJ t p s.1[i]) s).1
   have gs:(fJ t p s.1[i]).length<=11:=Nat.le_trans (sucW_len _) (by omega)
   have hlt':i < (s.1.map toW).length:=by simpa using hlt
   have hst:bY (jdg t p) ⟨t,p⟩ (s.1.map toW) (mq 0 (s.1.map kW)) (s.2.map (cL t.L.tail)) (i:Int)=if 40 < (cU id (i:Int) (fJ t p s.1[i]) s).1.length then some (.inr (.inr (⟨0,0,[],[]⟩,[],false))) else some (.inl ((cU id (i:Int) (fJ t p s.1[i]) s).1.map toW,mq 0 ((cU id (i:Int) (fJ t p s.1[i]) s).1.map kW),(cU id (i:Int) (fJ t p s.1[i]) s).2.map (cL t.L.tail),((i+1:Nat):Int))):=by
    unfold bY
    rw [if_pos (bF hlt'),bK hlt',aA,List.getElem_map,mon_inner ht hp hGq hg (by omega) (by omega),aA,if_neg (by simp)]
    unfold gQ
    simp only [List.length_map]
    by_cases h40:40 < (cU id (i:Int) (fJ t p s.1[i]) s).1.length
    ·rw [if_pos h40,if_pos (by simp only [decide_eq_true_eq];omega)]
    ·rw [if_neg h40,if_neg (by simp only [decide_eq_true_eq];omega),hw]
   by_cases h40:40 < (cU id (i:Int) (fJ t p s.1[i]) s).1.length
   ·rw [if_pos h40] at hst hx
    rw [hx]
    refine ⟨?_,by omega⟩
    rw [uQ (step:=fun x:List bG × List (aJ × Int) × List fD × Int=>bY (jdg t p) ⟨t,p⟩ x.1 x.2.1 x.2.2.1 x.2.2.2) (s:=(s.1.map toW,mq 0 (s.1.map kW),s.2.map (cL t.L.tail),(i:Int))) hst,if_neg (by omega)]
   ·rw [if_neg h40] at hst hx
    rw [hx,aBP (step:=fun x:List bG × List (aJ × Int) × List fD × Int=>bY (jdg t p) ⟨t,p⟩ x.1 x.2.1 x.2.2.1 x.2.2.2) (s:=(s.1.map toW,mq 0 (s.1.map kW),s.2.map (cL t.L.tail),(i:Int))) hst]
    obtain ⟨r1,r2⟩:=aOO ht hp n (i+1) (cU id (i:Int) (fJ t p s.1[i]) s) (by omega) (by omega) g2 (by omega) (by omega)
    exact ⟨r1,by omega⟩
  ·obtain rfl:i=s.1.length:=by omega
   have hx:rP id (fJ t p) 40 (n+1) s.1.length s=s:=by
    rw [rP,List.getElem?_eq_none (Nat.le_refl _)]
   have hst:bY (jdg t p) ⟨t,p⟩ (s.1.map toW) (mq 0 (s.1.map kW)) (s.2.map (cL t.L.tail)) (s.1.length:Int)=some (.inr (.inl (s.1.map toW,mq 0 (s.1.map kW),s.2.map (cL t.L.tail)))):=by
    unfold bY
    rw [if_neg (by simp)]
   rw [hx]
   refine ⟨?_,by omega⟩
   rw [uQ (step:=fun x:List bG × List (aJ × Int) × List fD × Int=>bY (jdg t p) ⟨t,p⟩ x.1 x.2.1 x.2.2.1 x.2.2.2) (s:=(s.1.map toW,mq 0 (s.1.map kW),s.2.map (cL t.L.tail),(s.1.length:Int))) hst,if_pos hs]
theorem aPR (ht:aO t) (hp:jK p) (hf:bA 999999999 t):gL ⟨lU t,p.I⟩ (jdg t p) ⟨t,p⟩=some (if (dN t p).1.length<=40 then (eS t.L.tail (dN t p).1.length (dN t p).2,(dN t p).1.map toW,decide ((dN t p).2.length<=300)) else (⟨0,0,[],[]⟩,[],false))/\(dN t p).2.length<=451:=by
 have h3:=firstW ht hp.1
 obtain ⟨hok,h11⟩:=aFD ht
 obtain ⟨o1,o2⟩:=aOO ht hp 41 0 ([(lU t,p.I)],[]) (by simp) (by omega) (fun q hq=>by simp at hq;subst hq;exact h3) (by simp) (by simp)
 have hlen:(dN t p).2.length<=451:=o2
 refine ⟨?_,hlen⟩
 unfold gL
 have hf0:=aNQ ht hp.1 (F:=[]) (by simp) h3 (by simp) []
 have e0:tF id ([]:List (List Int × Int)) (lU t,p.I)=[(lU t,p.I)]:=rfl
 rw [e0] at hf0
 rw [show cP [] ([]:List (aJ × Int)) [] ⟨lU t,p.I⟩=_ from hf0,aA]
 simp only
 rw [show loop (fun x:List bG × List (aJ × Int) × List fD × Int=>bY (jdg t p) ⟨t,p⟩ x.1 x.2.1 x.2.2.1 x.2.2.2) ([(lU t,p.I)].map toW,mq 0 ([(lU t,p.I)].map kW),[],0)=_ from o1,aA]
 obtain ⟨d1,d2,d3,d4,d5⟩:=aMm ht hp.1
 show (match (if (dN t p).1.length<=40 then Sum.inl ((dN t p).1.map toW,mq 0 ((dN t p).1.map kW),(dN t p).2.map (cL t.L.tail)) else Sum.inr (⟨0,0,[],[]⟩,[],false):(List bG × List (aJ × Int) × List fD) ⊕ (aS × List bG × Bool)) with|.inl r=>gP r.1 r.2.1 r.2.2|.inr r=>some r)=_
 by_cases h40:(dN t p).1.length<=40
 ·rw [if_pos h40,if_pos h40]
  simp only
  unfold gP
  rw [List.length_map,aIj (by simp;omega),aA,aJH hok h11 d3 (fun e he=>(d4 e he).2.1) (by omega),aA]
  unfold kE
  rw [show (⟨(eS t.L.tail (dN t p).1.length (dN t p).2).N,(eS t.L.tail (dN t p).1.length (dN t p).2).I,(eS t.L.tail (dN t p).1.length (dN t p).2).L,(eS t.L.tail (dN t p).1.length (dN t p).2).E⟩:aS)=eS t.L.tail (dN t p).1.length (dN t p).2 from rfl]
  rw [tL _ (aIo ht hf (by omega)),aA,aIh (b:=decide ((dN t p).2.length<=300)) (by rw [decide_eq_true_iff];exact (aLm hok h11 ⟨d5,h40⟩ d3 d4).symm)]
 ·rw [if_neg h40,if_neg h40]
theorem aSE (ht:aO t) (hp:jK p) (hf:bA 999999999 t):oT ⟨t,p⟩=some (monS t p):=by
 obtain ⟨h1,h2,h3⟩:=aDN ht
 obtain ⟨hok,h11⟩:=aFD ht
 obtain ⟨hc,hst⟩:=tail_cons ht
 obtain ⟨d1,d2,d3,d4,d5⟩:=aMm ht hp.1
 obtain ⟨x1,x2⟩:=aPR ht hp hf
 unfold oT monS
 rw [aRp ht hp,aA]
 show (ob (iG t [t.I]) fun r332=>_)=_
 rw [h2,aA]
 unfold pB
 show (ob (gL ⟨lU t,p.I⟩ (jdg t p) ⟨t,p⟩) fun r66=>_)=_
 rw [x1,aA]
 by_cases hs:Small (dN t p)
 ·rw [if_pos hs,if_pos hs.1]
  simp only [decide_eq_true hs.2]
  rw [if_neg (by simp),aLJ hok (by omega) d4,aA]
  have hl:=lts_eq (st:=((dN t p).1.length:Int)) (ini:=0) (labels:=t.L) (M:=t.L.tail) (arcs:=(dN t p).2.map (cL t.L.tail)) hst (fun s hs=>by rw [hc];simp [hs]) (by have:=ht.2.2.1.2.1;omega) (by simp;omega) (by rw [aIN hst (fun e he=>(d4 e he).2.1)];exact d3.imp aGv) (by omega)
  rw [aIN hst (fun e he=>(d4 e he).2.1),←hc] at hl
  rw [show (eS t.L.tail (dN t p).1.length (dN t p).2).N=((dN t p).1.length:Int) from rfl,hl,aA]
  unfold pA
  obtain ⟨r,e1,e2⟩:=eP (step:=fun s:List Int × Int=>jB (jdg t p) (eS t.L.tail (dN t p).1.length (dN t p).2,(dN t p).1.map toW,true) s.1 s.2) (dN t p).1.length (fun k (o:List Int)=>(o,(k:Int))) (fun k o=>o=((dN t p).1.take k).map fun q=>rQ t p q.1 q.2) (fun o=>o=(dN t p).1.map fun q=>rQ t p q.1 q.2) (fun k o hk ho=>by
   have hk':k < ((dN t p).1.map toW).length:=by simpa using hk
   have hg:=d2 _ (List.getElem_mem hk)
   have hol:o.length<=100:=by rw [ho,List.length_map,List.length_take];have:=hs.1;omega
   refine ⟨o++[rQ t p (dN t p).1[k].1 (dN t p).1[k].2],?_,by rw [List.take_succ_eq_append_getElem hk,List.map_append,ho];rfl⟩
   simp only [jB,bF hk',if_pos,bK hk',aA,List.getElem_map]
   show (ob (jH (jdg t p) (dN t p).1[k].1 (dN t p).1[k].2) fun r191=>_)=_
   rw [aJK ht hp.1 hg.set hg.lt,aA,cF (by simp [jL];omega),aA,aV hk (by have:=hs.1;omega)]) (fun o ho=>by
   refine ⟨o,?_,by rw [ho,List.take_length]⟩
   simp only [jB]
   rw [if_neg (by simp)]) (dN t p).1.length 0 [] (by omega) rfl
  have e1':loop (fun s:List Int × Int=>jB (jdg t p) (eS t.L.tail (dN t p).1.length (dN t p).2,(dN t p).1.map toW,true) s.1 s.2) ([],0)=some r:=e1
  rw [e1',aA,e2]
  rfl
 ·rw [if_neg hs]
  by_cases h40:(dN t p).1.length<=40
  ·rw [if_pos h40]
   have:¬ (dN t p).2.length<=300:=fun h=>hs ⟨h40,h⟩
   simp only [decide_eq_false this]
   rw [if_pos (by simp)]
  ·rw [if_neg h40]
   simp only
   rw [if_pos (by simp)]
end
end Gv
set_option linter.unusedSimpArgs false
set_option linter.unusedVariables false
namespace Gv
open Go
section
variable {t p:aS}
theorem aRq (ht:aO t) (hp:jK p) (ft:bA 999999999 t) (fp:bA 999999999 p):sH t p=some 0/\aBq t p=some 0:=by
 constructor
 ·unfold sH vX
  rw [tL t ft,aA,tY ht,if_neg (by simp),tL p fp,aA,tY hp.1,if_neg (by simp),aQK p fp,aA,tY (show aO p/\aAD p from hp),if_neg (by simp)]
 ·unfold aBq aCD
  rw [aIi t ft,aA,tY ht,if_neg (by simp),aIi p fp,aA,tY hp.1,if_neg (by simp),aKq p (by have:=fp.2.2;omega),aA,tY hp.2,if_neg (by simp)]
noncomputable def mkM (t p:aS):aZ × Int:=if Small (dN t p) then (aCR t p,0) else (⟨⟨0,0,[],[]⟩,[]⟩,5)
theorem make_at (ht:aO t) (hp:jK p) (ft:bA 999999999 t) (fp:bA 999999999 p):vD t p=some (mkM t p)/\vG t p=some (mkM t p):=by
 obtain ⟨h1,h2⟩:=aRq ht hp ft fp
 unfold vD vG mkM
 rw [h1,h2,aA,aA,aSE ht hp ft,refM_at ht hp.1]
 by_cases hs:Small (dN t p)
 ·rw [show monS t p=(aCR t p,true) from if_pos hs,if_pos hs]
  exact ⟨rfl,rfl⟩
 ·rw [show monS t p=(⟨⟨0,0,[],[]⟩,[]⟩,false) from if_neg hs,if_neg hs]
  exact ⟨rfl,rfl⟩
theorem aJL (ht:aO t) (hs:(dN t p).1.length<=40) (e:Edge):e∈(dN t p).2<->∃ (j:Nat) (q:List Int × Int),(dN t p).1[j]?=some q/\rQ t p q.1 q.2=0/\∃ k:Nat,1<=k/\k < t.L.length/\vS t q.1 (k:Int)≠[]/\(vS t q.1 (k:Int),iR p q.2 (jF t k))∈(dN t p).1/\e=⟨(j:Int),(k:Int),pos (dN t p).1 (vS t q.1 (k:Int),iR p q.2 (jF t k))⟩:=by
 have hl:=ht.2.2.1.1
 obtain ⟨g1,g2⟩:=aCf (key:=id) (fJ t p) 40 41 0 ([(lU t,p.I)],[]) hs (by have:=hs;unfold dN at this;omega) (Nat.zero_le _)
 have h2:=g2 e
 rw [show rP id (fJ t p) 40 41 0 ([(lU t,p.I)],[])=dN t p from rfl] at g1 h2
 simp only [List.map_id,id] at g1 h2
 rw [h2]
 constructor
 ·rintro (h|⟨j,q,_,hj,x,hx,rfl⟩)
  ·simp at h
  ·have hin:=g1 j q (Nat.zero_le _) hj x hx
   unfold fJ at hx
   by_cases hv:rQ t p q.1 q.2=0
   ·rw [if_pos hv] at hx
    unfold aGA at hx
    obtain ⟨y,hy,rfl⟩:=List.mem_map.1 hx
    obtain ⟨k,h3,h4,h5,rfl⟩:=(aEQ q.1 _ _).1 hy
    exact ⟨j,q,hj,hv,k,h3,by omega,h5,hin,rfl⟩
   ·rw [if_neg hv] at hx
    simp at hx
 ·rintro ⟨j,q,hj,hv,k,h3,h4,h5,h6,rfl⟩
  refine .inr ⟨j,q,Nat.zero_le _,hj,((k:Int),(vS t q.1 (k:Int),iR p q.2 (jF t k))),?_,rfl⟩
  unfold fJ aGA
  rw [if_pos hv,List.mem_map]
  exact ⟨((k:Int),vS t q.1 (k:Int)),(aEQ q.1 _ _).2 ⟨k,h3,by omega,h5,rfl⟩,rfl⟩
theorem wfin_next (ht:aO t) (hs:(dN t p).1.length<=40) {j:Nat} {q:List Int × Int} (hj:(dN t p).1[j]?=some q) (hv:rQ t p q.1 q.2=0) {k:Nat} (h1:1<=k) (h2:k < t.L.length) (h3:vS t q.1 (k:Int)≠[]):(vS t q.1 (k:Int),iR p q.2 (jF t k))∈(dN t p).1:=by
 obtain ⟨g1,_⟩:=aCf (key:=id) (fJ t p) 40 41 0 ([(lU t,p.I)],[]) hs (by have:=hs;unfold dN at this;omega) (Nat.zero_le _)
 rw [show rP id (fJ t p) 40 41 0 ([(lU t,p.I)],[])=dN t p from rfl] at g1
 simp only [List.map_id,id] at g1
 refine g1 j q (Nat.zero_le _) hj ((k:Int),(vS t q.1 (k:Int),iR p q.2 (jF t k))) ?_
 unfold fJ aGA
 rw [if_pos hv,List.mem_map]
 exact ⟨((k:Int),vS t q.1 (k:Int)),(aEQ q.1 _ _).2 ⟨k,h1,by omega,h3,rfl⟩,rfl⟩
theorem wfin_good (ht:aO t) (hp:aO p) {j:Nat} {q:List Int × Int} (hj:(dN t p).1[j]?=some q):tC t p q:=(aMm ht hp).2.1 q (List.mem_of_getElem? hj)
theorem wfin_zero:(dN t p).1[0]?=some (lU t,p.I):=by
 obtain ⟨C,hC⟩:=(aCt (key:=id) (fJ t p) 40 41 0 ([(lU t,p.I)],[])).1
 rw [show rP id (fJ t p) 40 41 0 ([(lU t,p.I)],[])=dN t p from rfl] at hC
 rw [←hC]
 rfl
theorem monT_det (ht:aO t) (hp:aO p) (hs:Small (dN t p)):jK (aCR t p).S:=by
 obtain ⟨d1,d2,d3,d4,d5⟩:=aMm ht hp
 exact det_mk ht.2.2.1 ⟨d5,hs.1⟩ hs.2 d3 d4
theorem ver_rng (S:List Int) (y:Int):0<=rQ t p S y/\rQ t p S y<=2:=by
 unfold rQ
 repeat' split
 all_goals omega
theorem mon_ver (hs:(dN t p).1.length<=40) {k:Nat} {q:List Int × Int} (hk:(dN t p).1[k]?=some q):ix (aCR t p).Verdicts (k:Int)=some (rQ t p q.1 q.2):=by
 obtain ⟨h,e⟩:=List.getElem?_eq_some_iff.1 hk
 show ix ((dN t p).1.map fun q=>rQ t p q.1 q.2) (k:Int)=_
 rw [bK (by simpa using h),List.getElem_map,e]
theorem mon_go (ht:aO t) (hp:aO p) (hs:Small (dN t p)) {k:Nat} {q:List Int × Int} (hk:(dN t p).1[k]?=some q) (hv:rQ t p q.1 q.2=0) {s:aJ} (hs':s≠bQ):
  (aER t q.1 s=[]/\iR (aCR t p).S (k:Int) s=-1)\/∃ j:Nat,(dN t p).1[j]?=some (aER t q.1 s,iR p q.2 s)/\aER t q.1 s≠[]/\iR (aCR t p).S (k:Int) s=(j:Int):=by
 have hg:=(wfin_good ht hp hk).set
 unfold iR
 cases hf:(aCR t p).S.E.find? (hit (aCR t p).S (k:Int) s) with
 |some e=>
  right
  have he:=List.mem_of_find?_eq_some hf
  have hh:=List.find?_some hf
  obtain ⟨j,q',hj,_,n,h1,h2,h3,h4,rfl⟩:=(aJL ht hs.1 e).1 he
  unfold hit at hh
  rw [Bool.and_eq_true,beq_iff_eq,beq_iff_eq] at hh
  obtain ⟨e1,e2⟩:=hh
  have e1:(j:Int)=(k:Int):=e1
  obtain rfl:j=k:=by omega
  rw [hk] at hj
  cases hj
  have e2:t.L.getD n []=s:=e2
  have e3:jF t n=s:=e2
  rw [List.getD_eq_getElem?_getD,List.getElem?_eq_getElem h2] at e2
  have e2:t.L[n]=s:=e2
  rw [e3] at h4
  rw [←aKC ht hg h2,e2] at h3 h4
  obtain ⟨i,hi,hpp,hq⟩:=kZ h4
  refine ⟨i,by rw [List.getElem?_eq_getElem hi,hq];rfl,h3,?_⟩
  show pos (dN t p).1 (vS t q.1 (n:Int),iR p q.2 (jF t n))=_
  rw [e3,←aKC ht hg h2,e2]
  exact hpp
 |none=>
  left
  refine ⟨?_,rfl⟩
  by_cases hm:s∈t.L
  ·obtain ⟨n,hn,rfl⟩:=List.mem_iff_getElem.1 hm
   rw [aKC ht hg hn]
   have h1:1<=n:=by
    rcases Nat.eq_zero_or_pos n with rfl|h
    ·exact absurd (ht.2.2.1.2.2.1 hn) hs'
    ·exact h
   by_cases h0:vS t q.1 (n:Int)=[]
   ·exact h0
   ·exfalso
    have:=List.find?_eq_none.1 hf ⟨(k:Int),(n:Int),pos (dN t p).1 (vS t q.1 (n:Int),iR p q.2 (jF t n))⟩ ((aJL ht hs.1 _).2 ⟨k,q,hk,hv,n,h1,hn,h0,wfin_next ht hs.1 hk hv h1 hn h0,rfl⟩)
    refine this ?_
    unfold hit
    rw [Bool.and_eq_true,beq_iff_eq,beq_iff_eq]
    refine ⟨rfl,?_⟩
    show t.L.getD n []=t.L[n]
    rw [List.getD_eq_getElem?_getD,List.getElem?_eq_getElem hn];rfl
  ·exact aOJ ht hg hm
end
end Gv
set_option linter.unusedSimpArgs false
set_option linter.unusedVariables false
namespace Gv
open Go
structure aCS (m:aZ):Prop where
 det:jK m.S
 len:m.Verdicts.length=m.S.N.toNat
 rng:∀ v∈m.Verdicts,0<=v/\v<=2
 out:∀ e∈m.S.E,m.Verdicts.getD e.F.toNat 0=0
theorem aCS.ver {m:aZ} (h:aCS m) {k:Int} (hk:0<=k/\k < m.S.N):ix m.Verdicts k=some (m.Verdicts.getD k.toNat 0)/\0<=m.Verdicts.getD k.toNat 0/\m.Verdicts.getD k.toNat 0<=2:=by
 have hl:=h.len
 obtain ⟨n,rfl⟩:∃ n:Nat,k=(n:Int):=⟨k.toNat,by omega⟩
 have hn:n < m.Verdicts.length:=by omega
 rw [bK hn,Int.toNat_natCast,List.getD_eq_getElem?_getD,List.getElem?_eq_getElem hn]
 exact ⟨rfl,h.rng _ (List.getElem_mem hn)⟩
theorem aIv {m:aZ} (h:aCS m) (hf:bA 999999999 m.S):jE m=some true:=by
 have hS:=h.det.1.1
 have hl:=h.len
 have hE:m.S.E.length<=300:=h.det.1.2.2.2.1
 unfold jE
 rw [aQK m.S hf,aA,tY (show aO m.S/\aAD m.S from h.det),if_neg (by simp)]
 have e0:((m.Verdicts.length:Int) != m.S.N)=false:=by
  have:(m.Verdicts.length:Int)=m.S.N:=by omega
  rw [this];simp
 rw [e0]
 unfold qH
 rw [if_neg (by simp)]
 have hV:eI m.Verdicts=some false:=by
  unfold eI fC
  obtain ⟨r,e1,e2⟩:=aMl (step:=fun s=>dB m.Verdicts s) m.Verdicts (fun _=>false) (fun i hi=>by
   have hr:=h.rng _ (List.getElem_mem hi)
   simp only [dB,bF hi,if_pos,bK hi,aA,aV hi (show m.Verdicts.length < 4611686018427387904 by omega)]
   unfold aBC
   rw [aDW,aA,aA,decide_eq_true hr.1,decide_eq_true hr.2]
   rfl) (by simp only [dB,bJ];rfl)
  rw [e1,aA]
  rcases e2 with ⟨rfl,e⟩|⟨j,rfl,e⟩
  ·rfl
  ·simp at e
 rw [hV,aA,if_neg (by simp)]
 have hC:dD m.S.E m=some false:=by
  unfold dD dW
  obtain ⟨r,e1,e2⟩:=aMl (step:=fun s=>cH m.S.E m s) m.S.E (fun _=>false) (fun i hi=>by
   have he:=List.getElem_mem hi
   have hb:=(mY h.det.1 he).1
   simp only [cH,bF hi,if_pos,bK hi,aA,aV hi (show m.S.E.length < 4611686018427387904 by omega)]
   unfold aBD
   rw [(h.ver ⟨hb.1,by omega⟩).1,aA,h.out _ he,aA]
   rfl) (by simp only [cH,bJ];rfl)
  rw [e1,aA]
  rcases e2 with ⟨rfl,e⟩|⟨j,rfl,e⟩
  ·rfl
  ·simp at e
 rw [hC,aA]
 rfl
section
variable {t p:aS}
theorem monT_ok (ht:aO t) (hp:aO p) (hs:Small (dN t p)):aCS (aCR t p):=by
 refine ⟨monT_det ht hp hs,?_,fun v hv=>?_,fun e he=>?_⟩
 ·show ((dN t p).1.map fun q=>rQ t p q.1 q.2).length=((dN t p).1.length:Int).toNat
  rw [List.length_map,Int.toNat_natCast]
 ·obtain ⟨q,_,rfl⟩:=List.mem_map.1 hv
  exact ver_rng _ _
 ·obtain ⟨j,q,hj,h0,n,h1,h2,h3,h4,rfl⟩:=(aJL ht hs.1 e).1 he
  show ((dN t p).1.map fun q=>rQ t p q.1 q.2).getD (j:Int).toNat 0=0
  rw [Int.toNat_natCast,List.getD_eq_getElem?_getD,List.getElem?_map,hj]
  exact h0
theorem aOP (ht:bA 500 t) (hs:Small (dN t p)):bA 500 (aCR t p).S:=by
 refine ⟨ht.1,ht.2.1,?_⟩
 show (dN t p).2.length<=500
 have:=hs.2
 omega
end
end Gv
set_option linter.unusedSimpArgs false
set_option linter.unusedVariables false
namespace Gv
open Go
section
variable {t p:aS}
theorem aPS (S:List Int) (y:Int):lvS t p S y=false<->∀ x∈S,¬ LvC (nY t p) (x.toNat * p.N.toNat+y.toNat):=by
 unfold lvS
 rw [List.any_eq_false]
 exact ⟨fun h x hx hL=>h x hx (tY hL),fun h x hx hc=>h x hx (aEJ.1 hc)⟩
theorem stS_iff (S:List Int) (y:Int):stS t p S y=false<->∀ x∈S,¬ StC (nY t p) (x.toNat * p.N.toNat+y.toNat):=by
 unfold stS
 rw [List.any_eq_false]
 exact ⟨fun h x hx hL=>h x hx (tY hL),fun h x hx hc=>h x hx (aEJ.1 hc)⟩
theorem mv_edge (ht:aO t) {e:Edge} (he:e∈t.E) {y:Int} (hy:0<=y/\y < p.N):toC t p y e∈nY t p (e.F.toNat * p.N.toNat+y.toNat):=by
 have hb:=tA ht he
 rw [aPO rfl (by omega),List.mem_map]
 refine ⟨e,?_,by rw [show ((y.toNat:Nat):Int)=y by omega]⟩
 unfold dG
 rw [List.mem_filter]
 exact ⟨he,by rw [beq_iff_eq];omega⟩
theorem aPT (ht:aO t) {e:Edge} (he:e∈t.E) {y:Int} (hy:0<=y/\y < p.N) (h:tgt t p e y < 0\/LvC (nY t p) (e.To.toNat * p.N.toNat+(tgt t p e y).toNat)):LvC (nY t p) (e.F.toNat * p.N.toNat+y.toNat):=by
 have hm:=mv_edge (p:=p) ht he hy
 unfold toC at hm
 by_cases h0:tgt t p e y < 0
 ·rw [if_pos h0] at hm
  exact .out hm
 ·rw [if_neg h0] at hm
  exact .go hm (h.resolve_left h0)
theorem st_edge (ht:aO t) {e:Edge} (he:e∈t.E) {y:Int} (hy:0<=y/\y < p.N) (h0:¬ tgt t p e y < 0) (h:StC (nY t p) (e.To.toNat * p.N.toNat+(tgt t p e y).toNat)):StC (nY t p) (e.F.toNat * p.N.toNat+y.toNat):=by
 have hm:=mv_edge (p:=p) ht he hy
 unfold toC at hm
 rw [if_neg h0] at hm
 exact StC.mk (.inr ⟨_,hm,h⟩)
theorem aRr (ht:aO t) {X:Int->Prop} {y:Int} (hy:0<=y/\y < p.N) {z:Int} (hz:Cl t X z):
  (LvC (nY t p) (z.toNat * p.N.toNat+y.toNat)->∃ x,X x/\LvC (nY t p) (x.toNat * p.N.toNat+y.toNat))/\(StC (nY t p) (z.toNat * p.N.toNat+y.toNat)->∃ x,X x/\StC (nY t p) (x.toNat * p.N.toNat+y.toNat)):=by
 induction hz with
 |base h=>exact ⟨fun h'=>⟨_,h,h'⟩,fun h'=>⟨_,h,h'⟩⟩
 |@step e he h0 _ ih=>
  have e0:tgt t p e y=y:=if_pos h0
  exact ⟨fun h=>ih.1 (aPT ht he hy (.inr (by rwa [e0]))),fun h=>ih.2 (st_edge ht he hy (by omega) (by rwa [e0]))⟩
theorem cl_some {X:Int->Prop} {z:Int} (hz:Cl t X z):∃ x,X x:=by
 induction hz with
 |base h=>exact ⟨_,h⟩
 |step _ _ _ ih=>exact ih
theorem ver_step (ht:aO t) (hp:aO p) {S:List Int} (hS:iS t S) {y:Int} (hy:y < p.N) {s:aJ} (hs:s≠bQ) (h0:rQ t p S y≠0) (hn:aER t S s≠[]):rQ t p (aER t S s) (iR p y s)=rQ t p S y:=by
 obtain ⟨_,_,hL⟩:=aKB ht hS s
 by_cases hy0:y < 0
 ·rw [aGZ hp hy0]
  unfold rQ
  rw [if_pos (by omega),if_pos hy0]
 ·have hyr:0<=y/\y < p.N:=⟨by omega,hy⟩
  have hg:=xI hp y s
  have hedge:∀ x,AftT t S s x->∃ e∈t.E,e.F∈S/\e.To=x/\tgt t p e y=iR p y s:=by
   rintro x ⟨e,he,h1,h2,h3⟩
   refine ⟨e,he,h2,h3,?_⟩
   unfold tgt
   rw [if_neg (fun h=>hs ?_),h1]
   rw [←h1]
   unfold txt
   rw [h]
   have:=ht.2.2.1.1
   rw [Int.toNat_zero,List.getD_eq_getElem?_getD,List.getElem?_eq_getElem (by omega)]
   exact ht.2.2.1.2.2.1 (by omega)
  obtain ⟨z,hz⟩:=List.exists_mem_of_ne_nil _ hn
  obtain ⟨x0,hx0⟩:=cl_some ((hL.mem z).1 hz)
  obtain ⟨e0,he0,hf0,_,ht0⟩:=hedge x0 hx0
  by_cases h1:lvS t p S y=false
  ·have hl:=(aPS S y).1 h1
   have hnn:¬ iR p y s < 0:=fun h=>hl _ hf0 (aPT ht he0 hyr (.inl (by rwa [ht0])))
   have h2:lvS t p (aER t S s) (iR p y s)=false:=by
    rw [aPS]
    intro w hw hLv
    obtain ⟨x,hx,hxl⟩:=(aRr (p:=p) ht ⟨by omega,by omega⟩ ((hL.mem w).1 hw)).1 hLv
    obtain ⟨e,he,hf,e1,e2⟩:=hedge x hx
    exact hl _ hf (aPT ht he hyr (.inr (by rw [e1,e2];exact hxl)))
   unfold rQ
   rw [if_neg hnn,if_pos h2,if_neg hy0,if_pos h1]
  ·have h2:stS t p S y=false:=by
    unfold rQ at h0
    rw [if_neg hy0,if_neg h1] at h0
    by_cases h3:stS t p S y=false
    ·exact h3
    ·rw [if_neg h3] at h0;exact absurd rfl h0
   have e2:rQ t p S y=2:=by
    unfold rQ
    rw [if_neg hy0,if_neg h1,if_pos h2]
   rw [e2]
   unfold rQ
   by_cases hnn:iR p y s < 0
   ·rw [if_pos hnn]
   ·rw [if_neg hnn]
    have hst:=(stS_iff S y).1 h2
    have h3:∀ w∈aER t S s,¬ StC (nY t p) (w.toNat * p.N.toNat+(iR p y s).toNat):=by
     intro w hw hLv
     obtain ⟨x,hx,hxl⟩:=(aRr (p:=p) ht ⟨by omega,by omega⟩ ((hL.mem w).1 hw)).2 hLv
     obtain ⟨e,he,hf,e1,e2⟩:=hedge x hx
     exact hst _ hf (st_edge ht he hyr (by rw [e2];exact hnn) (by rw [e1,e2];exact hxl))
    have h4:¬ lvS t p (aER t S s) (iR p y s)=false:=fun h=>(aPS _ _).1 h z hz (aLY (h3 z hz))
    rw [if_neg h4,if_pos ((stS_iff _ _).2 h3)]
end
end Gv
set_option linter.unusedSimpArgs false
set_option linter.unusedVariables false
namespace Gv
open Go
section
variable {t p:aS}
def yaf (p:aS) (tr:List aJ):Int:=tr.foldl (iR p) p.I
theorem aKH (tr:List aJ) (s:aJ):yaf p (tr++[s])=iR p (yaf p tr) s:=by unfold yaf;rw [List.foldl_append];rfl
theorem yaf_lt (hp:aO p) (tr:List aJ):yaf p tr < p.N:=by
 refine aET (p:=fun tr=>yaf p tr < p.N) ?_ (fun l x _=>?_) tr
 ·have:=hp.2.1;show p.I < _;omega
 ·rw [aKH];have:=xI hp (yaf p l) x;omega
noncomputable def aFX (t p:aS) (tr:List aJ):Int:=rQ t p (aft t tr) (yaf p tr)
theorem aPU (ht:aO t) {tr:List aJ} (h:aft t tr≠[]) (k:Nat):aft t (tr.take k)≠[]:=by
 have key:∀ b:List aJ,∀ a,aft t a=[]->aft t (a++b)=[]:=by
  intro b
  refine aET (p:=fun b=>∀ a,aft t a=[]->aft t (a++b)=[]) (fun a ha=>by rwa [List.append_nil]) (fun l x ih a ha=>?_) b
  rw [←List.append_assoc,aES,ih a ha,aRb ht]
 intro h0
 have:=key (tr.drop k) _ h0
 rw [List.take_append_drop] at this
 exact h this
theorem aSF (ht:aO t) (hp:aO p) {tr:List aJ} (hv:∀ s∈tr,s≠bQ) (hne:aft t tr≠[]) {n:Nat} (h0:aFX t p (tr.take n)≠0):aFX t p tr=aFX t p (tr.take n):=by
 have key:∀ m,n<=m->m<=tr.length->aFX t p (tr.take m)=aFX t p (tr.take n):=by
  intro m
  induction m with
  |zero=>intro h _;rw [show n=0 by omega]
  |succ m ih=>
   intro h hm
   rcases Nat.lt_or_ge n (m+1) with h1|h1
   ·have e:=ih (by omega) (by omega)
    have hn1:=aPU ht hne (m+1)
    rw [List.take_succ_eq_append_getElem (by omega),aES] at hn1
    rw [←e] at h0 ⊢
    rw [List.take_succ_eq_append_getElem (by omega)]
    unfold aFX at h0 ⊢
    rw [aES,aKH]
    exact ver_step ht hp (aNI ht _) (yaf_lt hp _) (hv _ (List.getElem_mem _)) h0 hn1
   ·rw [show m+1=n by omega]
 rcases Nat.lt_or_ge n tr.length with h|h
 ·have:=key tr.length (by omega) (Nat.le_refl _)
  rwa [List.take_length] at this
 ·rw [List.take_of_length_le h]
theorem aRs (ht:aO t) (hp:jK p) (ft:bA 999999999 t) (fp:bA 999999999 p) {tr:List aJ} (hl:tr.length<=1000) (hv:∀ s∈tr,VisL s) (hne:aft t tr≠[]):sV t p tr=some (aFX t p tr,0):=by
 unfold sV
 rw [(aRq ht hp ft fp).1,aA,if_neg (by simp),aOd ht ft (by omega) hv,aA,if_neg hne,if_neg (by simp)]
 obtain ⟨r,h1,h2⟩:=eP (step:=fun s:Int × Int=>jA p tr s.1 s.2) tr.length (fun k (q:Int)=>(q,(k:Int))) (fun k q=>q=yaf p (tr.take k)) (fun q=>q=yaf p tr) (fun k q hk hI=>by
  subst hI
  refine ⟨yaf p (tr.take (k+1)),?_,rfl⟩
  show jA p tr (yaf p (tr.take k)) (k:Int)=_
  unfold jA
  rw [if_pos (bF hk),bK hk,aA,aFA hp.1 hp.2,aA,aV hk (by omega),List.take_succ_eq_append_getElem hk,aKH]) (fun q hI=>by
  subst hI
  refine ⟨yaf p (tr.take tr.length),?_,by rw [List.take_length]⟩
  show jA p tr (yaf p (tr.take tr.length)) (tr.length:Int)=_
  unfold jA
  rw [if_neg (by simp)]) tr.length 0 p.I (by omega) rfl
 subst h2
 have h1':loop (fun s:Int × Int=>jA p tr s.1 s.2) (p.I,0)=some (yaf p tr):=h1
 rw [h1',aA]
 unfold qY
 rw [aRp ht hp,aA,aJK ht hp.1 (aNI ht tr) (yaf_lt hp.1 tr),aA]
 rfl
theorem areVis_ok {tr:List aJ} (hl:tr.length<=1000) (hv:∀ s∈tr,VisL s):tV tr=some true:=by
 rw [aJm tr (by omega) (fun s hs=>by have:=(hv s hs).2.2;omega)]
 congr 1
 rw [List.all_eq_true]
 intro s hs
 have:=hv s hs
 rw [this.1,Bool.true_and,Bool.not_eq_true',beq_eq_false_iff_ne]
 exact this.2.1
theorem Run_eq (ht:aO t) (hp:aO p) (ft:bA 500 t) (hs:Small (dN t p)) {tr:List aJ} (hl:tr.length<=1000) (hv:∀ s∈tr,VisL s) (hne:aft t tr≠[]):
  ∃ n:Nat,n<=tr.length/\aBH (aCR t p) tr=some (aFX t p tr,(n:Int),0)/\(aFX t p tr=0->n=tr.length)/\(1<=n->aFX t p (tr.take (n - 1))=0):=by
 have hM:=monT_ok ht hp hs
 unfold aBH aFV
 rw [aIv hM ((aOP ft hs).up (by decide)),aA,if_neg (by simp),areVis_ok hl hv,aA,if_neg (by simp),aA,if_neg (by simp)]
 obtain ⟨r,e1,n,k,rfl,hn,hk,hd,hb⟩:=oN (step:=fun s:Int × Int=>uK (aCR t p) tr s.1 s.2)
  (fun s=>∃ n k:Nat,s=((k:Int),(n:Int))/\n<=tr.length/\(dN t p).1[k]?=some (aft t (tr.take n),yaf p (tr.take n))/\(1<=n->aFX t p (tr.take (n - 1))=0)) (fun s=>tr.length - s.2.toNat)
  (fun r=>∃ n k:Nat,r=.inl ((k:Int),(n:Int))/\n<=tr.length/\(dN t p).1[k]?=some (aft t (tr.take n),yaf p (tr.take n))/\(n=tr.length\/aFX t p (tr.take n)≠0)/\(1<=n->aFX t p (tr.take (n - 1))=0)) (fun s hI=>by
  obtain ⟨n,k,rfl,hn,hk,hb⟩:=hI
  have hV:=mon_ver hs.1 hk
  rw [show rQ t p (aft t (tr.take n),yaf p (tr.take n)).1 (aft t (tr.take n),yaf p (tr.take n)).2=aFX t p (tr.take n) from rfl] at hV
  by_cases h:n < tr.length
  ·simp only [uK,bF h,if_pos,hV,aA,uJ]
   by_cases h0:aFX t p (tr.take n)=0
   ·left
    rw [if_pos (by simpa using h0),bK h,aA]
    have hne1:=aPU ht hne (n+1)
    rw [List.take_succ_eq_append_getElem h,aES] at hne1
    have hmem:=List.getElem_mem h
    have hgo:=mon_go ht hp hs hk h0 (hv _ hmem).2.1
    rcases hgo with ⟨hx,_⟩|⟨j,hj,_,hg⟩
    ·exact absurd hx hne1
    ·unfold aBG
     rw [hV,aA,h0,if_neg (by simp),aFA hM.det.1 hM.det.2,aA,hg,aA,if_neg (by simp),aV h (by omega)]
     refine ⟨_,rfl,⟨n+1,j,rfl,h,?_,fun _=>h0⟩,by show tr.length - ((n+1:Nat):Int).toNat < tr.length - (n:Int).toNat;omega⟩
     rw [List.take_succ_eq_append_getElem h,aES,aKH]
     exact hj
   ·right
    rw [if_neg (by simpa using h0)]
    exact ⟨_,rfl,n,k,rfl,hn,hk,.inr h0,hb⟩
  ·right
   have:n=tr.length:=by omega
   subst this
   simp only [uK,bJ,uJ]
   exact ⟨_,rfl,tr.length,k,rfl,hn,hk,.inl rfl,hb⟩) (s:=((aCR t p).S.I,0)) ⟨0,0,rfl,Nat.zero_le _,wfin_zero,fun h=>by omega⟩
 rw [e1,aA]
 have hV:=mon_ver hs.1 hk
 have hA:aFX t p (tr.take n)=aFX t p tr:=by
  rcases hd with rfl|h0
  ·rw [List.take_length]
  ·exact (aSF ht hp (fun s h=>(hv s h).2.1) hne h0).symm
 refine ⟨n,hn,?_,fun h=>?_,hb⟩
 ·show (ob (ix (aCR t p).Verdicts (k:Int)) fun e29=>some (e29,(n:Int),(0:Int)))=_
  rw [hV,aA,←hA]
  rfl
 ·rcases hd with h1|h1
  ·exact h1
  ·rw [hA] at h1
   exact absurd h h1
end
end Gv
set_option linter.unusedSimpArgs false
set_option linter.unusedVariables false
namespace Gv
open Go
section
variable {t p:aS}
theorem slc_take {γ:Type} {xs:List γ} {n:Nat} (h:n<=xs.length):pQ xs 0 (n:Int)=some (xs.take n):=by
 unfold pQ
 rw [if_pos ⟨by omega,by omega,by omega⟩]
 simp
theorem look_ok (ht:aO t) (hp:jK p) (ft:bA 500 t) (fp:bA 500 p) (hs:Small (dN t p)):jI (t,p) (aCR t p,0) false=some true:=by
 have ft':bA 999999999 t:=ft.up (by decide)
 have fp':bA 999999999 p:=fp.up (by decide)
 unfold jI
 rw [if_neg (by simp)]
 show (ob (aAA t 3) fun r195=>_)=_
 by_cases hd:Small (fI t)
 ·obtain ⟨all,h1,h2,_,h4⟩:=aRh ht ft' hd (n:=3) (by omega)
  rw [show (3:Int)=((3:Nat):Int) from rfl,h4,aA]
  by_cases hl:200 < all.length
  ·rw [if_pos hl,if_pos (by simp)];rfl
  ·rw [if_neg hl,if_neg (by simp)]
   obtain ⟨r,e1,e2⟩:=eP (step:=fun s:Int=>pP (t,p) (aCR t p,0) (all.map (·.trace),0) s) all.length (fun k (_:Unit)=>(k:Int)) (fun _ _=>True) (fun r=>r=.inl ()) (fun k _ hk _=>by
    have he:=h2 _ (List.getElem_mem hk)
    have hk':k < (all.map (·.trace)).length:=by simpa using hk
    have hlen:=he.len
    have hlab:=he.lab
    have hrun:=he.run
    have hpos:=he.pos
    generalize hE:all[k]=e at *
    have hv:∀ s∈e.trace,VisL s:=fun s hs=>aRg ht ft' (hlab s hs)
    have hne:aft t e.trace≠[]:=fun h=>by
     have:=(run_neg ht hd (fun s hs=>(hv s hs).2.1)).2 h
     omega
    obtain ⟨n,hn,hr,h0,hb⟩:=Run_eq ht hp.1 ft hs (by omega) hv hne
    refine ⟨(),?_,trivial⟩
    have hA:=aRs ht hp ft' fp' (by omega) hv hne
    simp only [pP,bF hk',if_pos,bK hk',aA,List.getElem_map,hE,hr,hA]
    have a1:(aFX t p e.trace != aFX t p e.trace)=false:=by simp
    have a2:decide ((n:Int) < 0)=false:=by simp
    have a3:decide ((e.trace.length:Int) < (n:Int))=false:=by simp;omega
    rw [if_neg (by simp),if_neg (by simp),a1,if_neg (by simp),a2,if_neg (by simp),a3]
    unfold lH
    rw [if_neg (by simp)]
    have h4:nF (t,p) (k:Int) e.trace (aFX t p e.trace,(n:Int),0) false=some (.inl ((k+1:Nat):Int)):=by
     unfold nF
     rw [if_neg (by simp)]
     by_cases hn0:1<=n
     ·have hw:wr ((n:Int) - 1)=((n - 1:Nat):Int):=by rw [eB (by omega) (by omega)];omega
      have hA':=aRs ht hp ft' fp' (tr:=e.trace.take (n - 1)) (by rw [List.length_take];omega) (fun s hs=>hv s (List.mem_of_mem_take hs)) (aPU ht hne _)
      show (if decide (0 < (n:Int))=true then _ else _)=_
      rw [if_pos (by simp;omega),hw,slc_take (by omega),aA,hA',aA,hb hn0,if_neg (by simp)]
      show some (Sum.inl (wr ((k:Int)+1)))=_
      rw [aV hk (by omega)]
     ·show (if decide (0 < (n:Int))=true then _ else _)=_
      rw [if_neg (by simp;omega)]
      show some (Sum.inl (wr ((k:Int)+1)))=_
      rw [aV hk (by omega)]
    by_cases hz:aFX t p e.trace=0
    ·rw [if_pos (by simpa using hz)]
     have:((n:Int) != (e.trace.length:Int))=false:=by rw [h0 hz];simp
     show nF _ _ _ _ ((n:Int) != (e.trace.length:Int))=_
     rw [this]
     exact h4
    ·rw [if_neg (by simpa using hz)]
     exact h4) (fun _ _=>by
    refine ⟨_,?_,rfl⟩
    have:(all.map (·.trace)).length=all.length:=List.length_map _
    simp only [pP,this,bJ]
    rfl) all.length 0 () (by omega) trivial
   subst e2
   have e1':loop (fun s:Int=>pP (t,p) (aCR t p,0) (all.map (·.trace),0) s) 0=some (.inl ()):=e1
   rw [e1',aA]
   show some (decide (0 < ((all.map (·.trace)).length:Int)))=_
   rw [List.length_map,decide_eq_true (by omega)]
 ·unfold aAA
  rw [show (3:Int)=((3:Nat):Int) from rfl,aKE ht ft' (by omega),if_neg hd,aA,if_pos (by simp),aA,if_pos (by simp)]
  rfl
end
end Gv
set_option linter.unusedSimpArgs false
set_option linter.unusedVariables false
namespace Gv
open Go
theorem aOQ {α:Type} {f g:α->Bool}:∀ {l:List α},(∀ x∈l,g x=true->f x=true)->∀ {x0:α},x0∈l->f x0=true->g x0=false->l.countP g < l.countP f
 |[],_,x0,h,_,_=>by simp at h
 |a::l,hm,x0,h,hf,hg=>by
  have hle:l.countP g<=l.countP f:=List.countP_mono_left fun x hx hgx=>hm x (List.mem_cons_of_mem _ hx) hgx
  rw [List.countP_cons,List.countP_cons]
  rcases List.mem_cons.1 h with rfl|h
  ·rw [if_pos hf,if_neg (by simp [hg])];omega
  ·have ih:=aOQ (fun x hx=>hm x (List.mem_cons_of_mem _ hx)) h hf hg
   have:=hm a (List.mem_cons_self)
   by_cases ha:g a=true
   ·rw [if_pos ha,if_pos (this ha)];omega
   ·rw [if_neg ha];omega
def twos (n:Nat):List (Nat × Nat):=(List.range n).flatMap fun x=>(List.range n).map fun y=>(x,y)
theorem aRt {n:Nat} {z:Nat × Nat}:z∈twos n<->z.1 < n/\z.2 < n:=by
 unfold twos
 simp only [List.mem_flatMap,List.mem_range,List.mem_map]
 constructor
 ·rintro ⟨x,hx,y,hy,rfl⟩;exact ⟨hx,hy⟩
 ·rintro ⟨h1,h2⟩;exact ⟨z.1,h1,z.2,h2,rfl⟩
def sm (p:List Int) (z:Nat × Nat):Bool:=decide (p[z.1]?=p[z.2]?)
section
variable {d:aS}
theorem aHh (hd:aO d) {p:List Int} (hp:p.length=d.N.toNat) {x y:Nat} (hx:x < d.N.toNat) (hy:y < d.N.toNat):(cn (yN d p))[x]?=(cn (yN d p))[y]?<->p[x]?=p[y]?/\kr d p x=kr d p y:=by
 have h:=(aNC (yN d p)).2 x y (by rw [aEO,aAW];exact hx) (by rw [aEO,aAW];exact hy)
 rw [h,aLo hx,aLo hy,Option.some.injEq,List.cons.injEq,List.getD_eq_getElem?_getD,List.getD_eq_getElem?_getD,List.getElem?_eq_getElem (by omega),List.getElem?_eq_getElem (by omega)]
 simp
theorem aSG (hd:jK d) {v:List Int} (hv:v.length=d.N.toNat):∃ P,loop (fun s:List Int=>jZ d s) (cn v)=some P/\P.length=d.N.toNat/\cn (yN d P)=P/\(∀ x y:Nat,x < d.N.toNat->y < d.N.toNat->P[x]?=P[y]?->v[x]?=v[y]?):=by
 obtain ⟨r,h1,h2⟩:=oN (step:=fun s:List Int=>jZ d s) (fun p=>p.length=d.N.toNat/\cn p=p/\∀ x y:Nat,x < d.N.toNat->y < d.N.toNat->p[x]?=p[y]?->v[x]?=v[y]?)
  (fun p=>(twos d.N.toNat).countP (sm p)) (fun P=>P.length=d.N.toNat/\cn (yN d P)=P/\∀ x y:Nat,x < d.N.toNat->y < d.N.toNat->P[x]?=P[y]?->v[x]?=v[y]?) (fun p hI=>by
  obtain ⟨hp,hc,hr⟩:=hI
  rw [aSr hd hp]
  by_cases h:cn (yN d p)=p
  ·right
   rw [if_pos h]
   exact ⟨_,rfl,hp,h,hr⟩
  ·left
   rw [if_neg h]
   have hl:(cn (yN d p)).length=d.N.toNat:=by rw [aEO,aAW]
   refine ⟨_,rfl,⟨hl,aIp (aNC _),fun x y hx hy e=>hr x y hx hy ((aHh hd.1 hp hx hy).1 e).1⟩,?_⟩
   have hex:∃ z∈twos d.N.toNat,sm p z=true/\sm (cn (yN d p)) z=false:=by
    refine Classical.byContradiction fun hno=>h ?_
    have hK:Ker (cn (yN d p)) p:=by
     refine ⟨by rw [hl,hp],fun i j hi hj=>?_⟩
     rw [hl] at hi hj
     refine ⟨fun e=>((aHh hd.1 hp hi hj).1 e).1,fun e=>?_⟩
     refine Classical.byContradiction fun hn=>hno ⟨(i,j),aRt.2 ⟨hi,hj⟩,?_,?_⟩
     ·unfold sm;simpa using e
     ·unfold sm;simpa using hn
    have:=aIp hK
    rw [hc,aIp (aNC (yN d p))] at this
    exact this
   obtain ⟨z,hz,z1,z2⟩:=hex
   refine aOQ (fun w hw hg=>?_) hz z1 z2
   have hw':=aRt.1 hw
   unfold sm at hg ⊢
   rw [decide_eq_true_iff] at hg ⊢
   exact ((aHh hd.1 hp hw'.1 hw'.2).1 hg).1) (s:=cn v) ⟨by rw [aEO,hv],aIp (aNC _),fun x y hx hy e=>((aNC v).2 x y (by rw [aEO];omega) (by rw [aEO];omega)).1 e⟩
 exact ⟨r,h1,h2⟩
end
end Gv
set_option linter.unusedSimpArgs false
set_option linter.unusedVariables false
namespace Gv
open Go
structure StbP (d:aS) (P:List Int):Prop where
 len:P.length=d.N.toNat
 fix:cn (yN d P)=P
section
variable {d:aS} {P:List Int}
theorem StbP.blk (hd:aO d) (h:StbP d P):Blk d P:=by
 have h40:=hd.1
 refine ⟨h.len,fun z hz=>?_⟩
 rw [←h.fix] at hz
 have:=cn_in hz
 rw [aAW] at this
 omega
def aBT (d:aS) (P:List Int):aS:=eS d.L.tail (uS d P).1.length (uS d P).2
theorem aLM (hd:aO d):(uS d P).2.length<=451:=by
 have h12:=hd.2.2.1.2.1
 have:=aOF (key:=kB P) (nx:=nxM d) (fun q=>by
  have:=aND (d:=d) q (d.L.length - 1) 1
  unfold nxM
  omega) 40 41 0 ([0],[])
 have e:(uS d P).2.length<=([]:List Edge).length+11 * 41:=this
 simpa using e
theorem aSH (hd:jK d) (hf:bA 999999999 d) (h0:d.I=0) (hp:Blk d P):∃ b,qM d.I P d=some (aBT d P,(uS d P).1,b):=by
 obtain ⟨hok,h11⟩:=aFD hd.1
 have hin0:inS d 0:=by have:=hd.1.1;unfold inS;omega
 have hl440:=aLM (P:=P) hd.1
 obtain ⟨f1,f2,f3,f4⟩:=aHe (p:=P) hd.1
 have o1:=aNF hd hp 41 0 ([0],[]) (by simp) (by omega) (by simp) (fun s hs=>by simp at hs;subst hs;exact hin0) (by simp)
 have hflen:(uS d P).1.length<=40:=aEP hd.1 hp.len hp.bnd f1 f2
 have hf0:=aNE hp (F:=[]) (by simp) hin0 (by simp) []
 have e0:tF (kB P) ([]:List Int) 0=[0]:=rfl
 rw [e0] at hf0
 unfold qM
 rw [h0,show eJ [] ([]:List (aJ × Int)) [] P 0=_ from hf0,aA]
 simp only
 rw [show loop (fun x:List Int × List (aJ × Int) × List fD × Int=>dU P d x.1 x.2.1 x.2.2.1 x.2.2.2) ([0],mq 0 ([0].map (kT P)),[],0)=_ from o1,aA]
 show ∃ b,mL (uS d P).1 (mq 0 ((uS d P).1.map (kT P))) ((uS d P).2.map (cL d.L.tail))=_
 unfold mL
 rw [aIj (by simp;omega),aA,aJH hok h11 f3 (fun e he=>(f4 e he).2.1) (by omega),aA]
 unfold qK
 rw [show (⟨(eS d.L.tail (uS d P).1.length (uS d P).2).N,(eS d.L.tail (uS d P).1.length (uS d P).2).I,(eS d.L.tail (uS d P).1.length (uS d P).2).L,(eS d.L.tail (uS d P).1.length (uS d P).2).E⟩:aS)=aBT d P from rfl]
 rw [tL (aBT d P) (aIo hd.1 hf (by omega)),aA]
 exact ⟨_,rfl⟩
theorem from_eq (hd:jK d) (hf:bA 999999999 d) (h0:d.I=0) {v:List Int} (hv:v.length=d.N.toNat):∃ P,StbP d P/\(∀ x y:Nat,x < d.N.toNat->y < d.N.toNat->P[x]?=P[y]?->v[x]?=v[y]?)/\qT d v=some (aBT d P,(uS d P).1):=by
 obtain ⟨P,h1,h2,h3,h4⟩:=aSG hd hv
 have h40:=hd.1.1
 have hs:StbP d P:=⟨h2,h3⟩
 obtain ⟨b,hb⟩:=aSH hd hf h0 (hs.blk hd.1)
 refine ⟨P,hs,h4,?_⟩
 unfold qT
 rw [aOD v (by omega),aA,h1,aA]
 unfold qN
 rw [hb,aA]
end
end Gv
namespace Gv
open Go
def qF (d:aS) (P:List Int):List Int:=(uS d P).1
def qE (d:aS) (P:List Int):List Edge:=(uS d P).2
section
variable {d:aS} {P:List Int}
theorem aPV (hd:aO d) (hp:Blk d P):1<=(qF d P).length/\(qF d P).length<=40:=by
 obtain ⟨g1,g2,_,_⟩:=aHe (p:=P) hd
 refine ⟨?_,aEP hd hp.len hp.bnd g1 g2⟩
 obtain ⟨C,hC⟩:=(aCt (key:=kB P) (nxM d) 40 41 0 ([0],[])).1
 have:(qF d P)=[0]++C:=hC.symm
 rw [this];simp
theorem qF_zero (hd:aO d):(qF d P)[0]?=some 0:=by
 obtain ⟨C,hC⟩:=(aCt (key:=kB P) (nxM d) 40 41 0 ([0],[])).1
 have:(qF d P)=[0]++C:=hC.symm
 rw [this];rfl
theorem qF_in (hd:aO d) {j:Nat} {q:Int} (h:(qF d P)[j]?=some q):inS d q:=(aHe (p:=P) hd).2.1 q (List.mem_of_getElem? h)
theorem aLs (hd:aO d) (hp:Blk d P) (e:Edge):e∈qE d P<->∃ (j:Nat) (q:Int),(qF d P)[j]?=some q/\∃ k:Nat,1<=k/\k < d.L.length/\0<=iR d q (jF d k)/\e=⟨(j:Int),(k:Int),pos ((qF d P).map (kB P)) (kB P (iR d q (jF d k)))⟩:=by
 have hl:=hd.2.2.1.1
 have hlen:=aPV hd hp
 obtain ⟨_,g2⟩:=aCf (key:=kB P) (nxM d) 40 41 0 ([0],[]) hlen.2 (by have:=hlen.2;unfold qF uS at this;omega) (Nat.zero_le _)
 have h2:=g2 e
 have h2':e∈qE d P<->e∈([]:List Edge)\/∃ (j:Nat) (q:Int),0<=j/\(qF d P)[j]?=some q/\∃ x∈nxM d q,e=⟨(j:Int),x.1,pos ((qF d P).map (kB P)) (kB P x.2)⟩:=h2
 rw [h2']
 constructor
 ·rintro (h|⟨j,q,_,hj,x,hx,rfl⟩)
  ·simp at h
  ·unfold nxM at hx
   obtain ⟨k,h3,h4,h5,rfl⟩:=(aIq q _ _).1 hx
   exact ⟨j,q,hj,k,h3,by omega,h5,rfl⟩
 ·rintro ⟨j,q,hj,k,h3,h4,h5,rfl⟩
  refine .inr ⟨j,q,Nat.zero_le _,hj,((k:Int),iR d q (jF d k)),?_,rfl⟩
  unfold nxM
  exact (aIq q _ _).2 ⟨k,h3,by omega,h5,rfl⟩
theorem qF_next (hd:aO d) (hp:Blk d P) {j:Nat} {q:Int} (hj:(qF d P)[j]?=some q) {k:Nat} (h3:1<=k) (h4:k < d.L.length) (h5:0<=iR d q (jF d k)):kB P (iR d q (jF d k))∈(qF d P).map (kB P):=by
 have hlen:=aPV hd hp
 obtain ⟨g1,_⟩:=aCf (key:=kB P) (nxM d) 40 41 0 ([0],[]) hlen.2 (by have:=hlen.2;unfold qF uS at this;omega) (Nat.zero_le _)
 refine g1 j q (Nat.zero_le _) hj ((k:Int),iR d q (jF d k)) ?_
 unfold nxM
 exact (aIq q _ _).2 ⟨k,h3,by omega,h5,rfl⟩
theorem qE_len (hd:jK d) (hp:Blk d P):(qE d P).length<=d.E.length:=by
 obtain ⟨g1,g2,g3,_⟩:=aHe (p:=P) hd.1
 have hnd:(qF d P).Nodup:=(List.pairwise_map.1 g1).imp fun h e=>h (congrArg _ e)
 have hfl:∀ {a b:Edge},xG a b->¬ (a.F=b.F/\a.B=b.B):=fun {a b} h g=>by unfold xG at h;omega
 have key:=List.Nodup.length_le_of_subset (l₁:=(qE d P).map fun e=>(⟨(qF d P).getD e.F.toNat 0,e.B,iR d ((qF d P).getD e.F.toNat 0) (jF d e.B.toNat)⟩:Edge)) (l₂:=d.E) ?_ (fun x hx=>?_)
 ·rwa [List.length_map] at key
 ·rw [List.nodup_iff_pairwise_ne,List.pairwise_map]
  have g3':(qE d P).Pairwise xG:=g3
  refine g3'.imp_of_mem fun {a b} ha hb hab e=>hfl hab ?_
  obtain ⟨j,q,hj,k,h1,h2,h3,rfl⟩:=(aLs hd.1 hp a).1 ha
  obtain ⟨j',q',hj',k',h1',h2',h3',rfl⟩:=(aLs hd.1 hp b).1 hb
  have e1:(qF d P).getD j 0=(qF d P).getD j' 0:=congrArg Edge.F e
  have e2:(k:Int)=(k':Int):=congrArg Edge.B e
  rw [List.getD_eq_getElem?_getD,List.getD_eq_getElem?_getD,hj,hj'] at e1
  have e1:q=q':=e1
  subst e1
  have p1:=aOx hnd hj
  have p2:=aOx hnd hj'
  exact ⟨by show (j:Int)=(j':Int);omega,e2⟩
 ·obtain ⟨e,he,rfl⟩:=List.mem_map.1 hx
  obtain ⟨j,q,hj,k,h1,h2,h3,rfl⟩:=(aLs hd.1 hp e).1 he
  have hjl:=(List.getElem?_eq_some_iff.1 hj)
  have hq:(qF d P).getD j 0=q:=by rw [List.getD_eq_getElem?_getD,hj];rfl
  show (⟨(qF d P).getD j 0,(k:Int),iR d ((qF d P).getD j 0) (jF d k)⟩:Edge)∈d.E
  rw [hq]
  unfold iR at h3 ⊢
  cases hf:d.E.find? (hit d q (jF d k)) with
  |none=>rw [hf] at h3;exact absurd h3 (by decide)
  |some y=>
   have hy:=List.mem_of_find?_eq_some hf
   have hh:=List.find?_some hf
   unfold hit at hh
   rw [Bool.and_eq_true,beq_iff_eq] at hh
   have hlab:jF d k∈d.L:=by unfold jF;rw [List.getD_eq_getElem?_getD,List.getElem?_eq_getElem h2];exact List.getElem_mem _
   have ht:=aLn hd.1 hy hlab
   rw [hh.2] at ht
   have ht:=beq_iff_eq.1 ht.symm
   have hp:pos d.L (jF d k)=(k:Int):=by
    unfold jF
    rw [List.getD_eq_getElem?_getD,List.getElem?_eq_getElem h2]
    exact aNs hd.1.2.2.1 h2
   rw [hp] at ht
   have:(⟨q,(k:Int),y.To⟩:Edge)=y:=by
    obtain ⟨y1,y2,y3⟩:=y
    simp only at hh ht ⊢
    rw [hh.1,ht]
   simp only
   rw [this]
   exact hy
end
end Gv
namespace Gv
open Go
section
variable {d:aS} {P:List Int}
theorem aRu (hd:aO d) {k:Nat} (h1:1<=k) (h2:k < d.L.length) (x y:Int):(cL d.L.tail ⟨x,(k:Int),y⟩).label=jF d k:=by
 unfold cL jF
 simp only
 rw [List.getD_eq_getElem?_getD,List.getD_eq_getElem?_getD,show ((k:Int) - 1).toNat=k - 1 by omega,List.getElem?_eq_getElem (by rw [List.length_tail];omega),List.getElem?_eq_getElem h2,List.getElem_tail]
 simp only [Option.getD_some]
 congr 1
 omega
theorem qn_all (hd:aO d):∀ e∈qE d P,(0<=e.F/\e.F < (qF d P).length)/\(1<=e.B/\e.B<=d.L.tail.length)/\0<=e.To/\e.To < (qF d P).length:=(aHe (p:=P) hd).2.2.2
theorem aIQ (hd:aO d) (e':Edge):e'∈(aBT d P).E<->∃ e∈qE d P,e'=⟨e.F,pos (bQ::aDd d.L.tail (qE d P)) (cL d.L.tail e).label,e.To⟩:=by
 show e'∈((qE d P).map (cL d.L.tail)).map (fun a=>(⟨a.from_,pos (bQ::aDd d.L.tail (qE d P)) a.label,a.to_⟩:Edge))<->_
 rw [List.map_map,List.mem_map]
 constructor
 ·rintro ⟨e,he,rfl⟩;exact ⟨e,he,rfl⟩
 ·rintro ⟨e,he,rfl⟩;exact ⟨e,he,rfl⟩
theorem aRv (hd:aO d) {e:Edge} (he:e∈qE d P):(cL d.L.tail e).label∈aDd d.L.tail (qE d P)/\(cL d.L.tail e).label≠bQ:=by
 have h:=(aGw fun x hx=>(qn_all hd x hx).2.1).2 (List.mem_map_of_mem (List.mem_map_of_mem he))
 have hM:aCO (aDd d.L.tail (qE d P)):=(aFD hd).1.sub List.filter_sublist
 exact ⟨h,fun e=>hM.strict.2 (e ▸ h)⟩
theorem aRw (hd:jK d) (hp:Blk d P):jK (aBT d P):=by
 obtain ⟨hL,h11⟩:=aFD hd.1
 have hlen:=aPV hd.1 hp
 have hfl:(qE d P).Pairwise xG:=(aHe (p:=P) hd.1).2.2.1
 have hel:=qE_len hd hp
 have h3:=hd.1.2.2.2.1
 have hall:=qn_all (P:=P) hd.1
 have hok:aO (aBT d P):=(aLm hL h11 hlen hfl hall).2 (by show (qE d P).length<=300;omega)
 have hue:=aJG hL hfl fun x hx=>(hall x hx).2.1
 refine ⟨hok,fun k hk=>⟨?_,fun h1=>?_⟩⟩
 ·obtain ⟨e,he,hk2⟩:=(aIQ hd.1 _).1 (List.getElem_mem hk)
  obtain ⟨m1,m2⟩:=aRv hd.1 he
  rw [hk2]
  show pos (bQ::aDd d.L.tail (qE d P)) (cL d.L.tail e).label≠0
  intro h0
  obtain ⟨i,hi,p1,p2⟩:=kZ (List.mem_cons_of_mem bQ m1)
  rw [h0] at p1
  obtain rfl:i=0:=by omega
  exact m2 p2.symm
 ·have hpw:=List.pairwise_iff_getElem.1 hue (k - 1) k (by have:k < (aBT d P).E.length:=hk;unfold aBT eS at this;simp only at this;exact Nat.lt_of_le_of_lt (Nat.sub_le _ _) this) hk (by omega)
  have hp':xG ((aBT d P).E[k - 1]'(by omega)) (aBT d P).E[k]:=hpw
  unfold xG at hp'
  omega
theorem minP_go (hd:jK d) (hp:Blk d P) {j:Nat} {q:Int} (hj:(qF d P)[j]?=some q) {s:aJ} (hs:s≠bQ):
  (iR d q s < 0/\iR (aBT d P) (j:Int) s=-1)\/∃ (j':Nat) (q':Int),(qF d P)[j']?=some q'/\kB P q'=kB P (iR d q s)/\0<=iR d q s/\iR (aBT d P) (j:Int) s=(j':Int):=by
 have htx:∀ e∈qE d P,txt (aBT d P) ⟨e.F,pos (bQ::aDd d.L.tail (qE d P)) (cL d.L.tail e).label,e.To⟩=(cL d.L.tail e).label:=fun e he=>by
  obtain ⟨m1,m2⟩:=aRv hd.1 he
  obtain ⟨i,hi,p1,p2⟩:=kZ (List.mem_cons_of_mem bQ m1)
  unfold txt
  simp only [p1,Int.toNat_natCast]
  show (bQ::aDd d.L.tail (qE d P)).getD i []=_
  rw [List.getD_eq_getElem?_getD,List.getElem?_eq_getElem hi]
  exact p2
 cases hf:(aBT d P).E.find? (hit (aBT d P) (j:Int) s) with
 |some e'=>
  right
  have hg:iR (aBT d P) (j:Int) s=e'.To:=by unfold iR;rw [hf]
  have hh:=List.find?_some hf
  obtain ⟨e,he,rfl⟩:=(aIQ hd.1 e').1 (List.mem_of_find?_eq_some hf)
  unfold hit at hh
  rw [Bool.and_eq_true,beq_iff_eq,beq_iff_eq,htx e he] at hh
  obtain ⟨e1,e2⟩:=hh
  obtain ⟨i,q',hi,k,h1,h2,h3,rfl⟩:=(aLs hd.1 hp e).1 he
  have e1:(i:Int)=(j:Int):=e1
  obtain rfl:i=j:=by omega
  rw [hj] at hi
  cases hi
  rw [aRu hd.1 h1 h2] at e2
  subst e2
  obtain ⟨i',hi',p1,p2⟩:=kZ (qF_next hd.1 hp hj h1 h2 h3)
  rw [List.length_map] at hi'
  rw [List.getElem_map] at p2
  exact ⟨i',(qF d P)[i'],List.getElem?_eq_getElem hi',p2,h3,by rw [hg];exact p1⟩
 |none=>
  left
  have hg:iR (aBT d P) (j:Int) s=-1:=by unfold iR;rw [hf]
  refine ⟨?_,hg⟩
  by_cases h0:0<=iR d q s
  ·exfalso
   have h0':=h0
   unfold iR at h0'
   cases hy:d.E.find? (hit d q s) with
   |none=>rw [hy] at h0';exact absurd h0' (by decide)
   |some y=>
    have hym:=List.mem_of_find?_eq_some hy
    have hyh:=List.find?_some hy
    unfold hit at hyh
    rw [Bool.and_eq_true,beq_iff_eq,beq_iff_eq] at hyh
    have hb:=tA hd.1 hym
    obtain ⟨n,hn,hne⟩:=List.mem_iff_getElem.1 hym
    have h00:=(hd.2 n hn).1
    rw [hne] at h00
    have hk:jF d y.B.toNat=s:=hyh.2
    have hmem:(⟨(j:Int),((y.B.toNat:Nat):Int),pos ((qF d P).map (kB P)) (kB P (iR d q (jF d y.B.toNat)))⟩:Edge)∈qE d P:=(aLs hd.1 hp _).2 ⟨j,q,hj,y.B.toNat,by omega,by omega,by rw [hk];exact h0,rfl⟩
    refine List.find?_eq_none.1 hf _ ((aIQ hd.1 _).2 ⟨_,hmem,rfl⟩) ?_
    unfold hit
    rw [Bool.and_eq_true,beq_iff_eq,beq_iff_eq,htx _ hmem]
    refine ⟨rfl,?_⟩
    rw [aRu hd.1 (by omega) (by omega)]
    exact hk
  ·omega
theorem aRx (hd:aO d) {s:aJ} (hs:s∉d.L) (k:Int):iR d k s=-1:=by
 unfold iR
 rw [List.find?_eq_none.2 fun e he=>by
  have hb:=tA hd he
  unfold hit
  intro h
  rw [Bool.and_eq_true,beq_iff_eq,beq_iff_eq] at h
  refine hs (h.2 ▸ ?_)
  unfold txt
  rw [List.getD_eq_getElem?_getD,List.getElem?_eq_getElem (show e.B.toNat < d.L.length by omega)]
  exact List.getElem_mem _]
theorem goN_in (hd:aO d) {k:Int} {s:aJ} (h:0<=iR d k s):inS d (iR d k s):=by
 have:=xI hd k s
 unfold inS
 omega
theorem kB_step (hd:aO d) (h:StbP d P) {x y:Int} (hx:inS d x) (hy:inS d y) (e:kB P x=kB P y) {s:aJ} (hs:s≠bQ):(iR d x s < 0/\iR d y s < 0)\/(0<=iR d x s/\0<=iR d y s/\kB P (iR d x s)=kB P (iR d y s)):=by
 have hlen:=h.len
 have hb:=h.blk hd
 have hge:∀ z:Int,inS d z->P[z.toNat]?=some (kB P z):=fun z hz=>by
  unfold inS at hz
  unfold kB
  rw [List.getD_eq_getElem?_getD,List.getElem?_eq_getElem (by omega)];rfl
 by_cases hm:s∈d.L
 ·have hmt:s∈d.L.tail:=by rw [(tail_cons hd).1] at hm;simpa [hs] using hm
  have hx':=hx
  have hy':=hy
  unfold inS at hx' hy'
  have hk:=(aHh hd hlen (x:=x.toNat) (y:=y.toNat) (by omega) (by omega)).1 (by rw [h.fix,hge x hx,hge y hy,e])
  have hk2:=hk.2
  unfold kr at hk2
  have:=List.map_inj_left.1 hk2 s hmt
  rw [show ((x.toNat:Nat):Int)=x by omega,show ((y.toNat:Nat):Int)=y by omega] at this
  have g1:=xI hd x s
  have g2:=xI hd y s
  rcases (bl_same hd hlen (fun z hz=>(hb.bnd z hz).1) g1 g2).1 this with hn|⟨a,b,c⟩
  ·exact .inl hn
  ·rw [hge _ (goN_in hd a),hge _ (goN_in hd b)] at c
   exact .inr ⟨a,b,Option.some.inj c⟩
 ·rw [aRx hd hm,aRx hd hm]
  exact .inl ⟨by decide,by decide⟩
end
end Gv
set_option linter.unusedSimpArgs false
set_option linter.unusedVariables false
namespace Gv
open Go
section
variable {d:aS} {P:List Int}
theorem minP_run (hd:jK d) (h:StbP d P) {tr:List aJ} (ht:∀ s∈tr,s≠bQ):
  (kH d tr < 0/\kH (aBT d P) tr=-1)\/∃ (j:Nat) (q:Int),(qF d P)[j]?=some q/\kB P q=kB P (kH d tr)/\inS d (kH d tr)/\kH (aBT d P) tr=(j:Int):=by
 have h40:=hd.1.1
 have hp:=h.blk hd.1
 induction tr using aET with
 |nil=>exact .inr ⟨0,0,qF_zero hd.1,rfl,by show inS d 0;unfold inS;omega,rfl⟩
 |snoc tr s ih=>
  have hs:s≠bQ:=ht s (by simp)
  rw [tB,tB]
  rcases ih fun x hx=>ht x (by simp [hx]) with ⟨h1,h2⟩|⟨j,q,h1,h2,h3,h4⟩
  ·left
   rw [h2]
   exact ⟨by rw [aGZ hd.1 h1];decide,aGZ (aRw hd hp).1 (by decide) s⟩
  ·rw [h4]
   have hk:=kB_step hd.1 h (qF_in hd.1 h1) h3 h2 hs
   rcases minP_go hd hp h1 hs with ⟨g1,g2⟩|⟨j',q',g1,g2,g3,g4⟩
   ·left
    rcases hk with ⟨k1,k2⟩|⟨k1,_,_⟩
    ·exact ⟨k2,g2⟩
    ·omega
   ·right
    rcases hk with ⟨k1,_⟩|⟨_,k2,k3⟩
    ·omega
    ·exact ⟨j',q',g1,g2.trans k3,goN_in hd.1 k2,g4⟩
end
end Gv
set_option linter.unusedSimpArgs false
set_option linter.unusedVariables false
namespace Gv
open Go
def yW (m:aZ) (P:List Int):aZ:=⟨aBT m.S P,(qF m.S P).map fun q=>m.Verdicts.getD q.toNat 0⟩
theorem aSJ {m:aZ} (hM:aCS m) (hf:bA 999999999 m.S) (h0:m.S.I=0):∃ P,StbP m.S P/\(∀ x y:Nat,x < m.S.N.toNat->y < m.S.N.toNat->P[x]?=P[y]?->m.Verdicts[x]?=m.Verdicts[y]?)/\oL m=some (yW m P,0):=by
 obtain ⟨P,h1,h2,h3⟩:=from_eq hM.det hf h0 hM.len
 refine ⟨P,h1,h2,?_⟩
 have hl:=(aPV hM.det.1 (h1.blk hM.det.1)).2
 unfold oL
 rw [aIv hM hf,aA,if_neg (by simp),h3,aA]
 obtain ⟨r,e1,e2⟩:=eP (step:=fun s:List Int × Int=>iV m (aBT m.S P,(uS m.S P).1) s.1 s.2) (qF m.S P).length (fun k (o:List Int)=>(o,(k:Int))) (fun k o=>o=((qF m.S P).take k).map fun q=>m.Verdicts.getD q.toNat 0) (fun o=>o=(qF m.S P).map fun q=>m.Verdicts.getD q.toNat 0) (fun k o hk ho=>by
  have hk':k < (uS m.S P).1.length:=hk
  have hin:=qF_in hM.det.1 (List.getElem?_eq_getElem hk)
  have hol:o.length<=100:=by rw [ho,List.length_map,List.length_take];omega
  refine ⟨o++[m.Verdicts.getD (qF m.S P)[k].toNat 0],?_,by rw [List.take_succ_eq_append_getElem hk,List.map_append,ho];rfl⟩
  have hix:ix (uS m.S P).1 (k:Int)=some (qF m.S P)[k]:=bK hk
  generalize (qF m.S P)[k]=w at *
  simp only [iV,bF hk',if_pos,hix,aA]
  rw [(hM.ver hin).1,aA,cF (by simp [jL];omega),aA,aV hk (by omega)]) (fun o ho=>by
  refine ⟨o,?_,by rw [ho,List.take_length]⟩
  show iV m (aBT m.S P,(uS m.S P).1) o ((uS m.S P).1.length:Int)=_
  simp only [iV]
  rw [if_neg (by simp)]) (qF m.S P).length 0 [] (by omega) rfl
 have e1':loop (fun s:List Int × Int=>iV m (aBT m.S P,(uS m.S P).1) s.1 s.2) ([],0)=some r:=e1
 rw [e1',aA,e2]
 rfl
end Gv
set_option linter.unusedSimpArgs false
set_option linter.unusedVariables false
namespace Gv
open Go
theorem least_ok {m:aZ} {P:List Int} (hM:aCS m) (h:StbP m.S P):aCS (yW m P):=by
 have hp:=h.blk hM.det.1
 refine ⟨aRw hM.det hp,?_,fun v hv=>?_,fun e he=>?_⟩
 ·show ((qF m.S P).map fun q=>m.Verdicts.getD q.toNat 0).length=((qF m.S P).length:Int).toNat
  rw [List.length_map,Int.toNat_natCast]
 ·obtain ⟨q,hq,rfl⟩:=List.mem_map.1 hv
  obtain ⟨k,hk,rfl⟩:=List.mem_iff_getElem.1 hq
  exact (hM.ver (qF_in hM.det.1 (List.getElem?_eq_getElem hk))).2
 ·obtain ⟨e0,he0,rfl⟩:=(aIQ hM.det.1 e).1 he
  obtain ⟨j,q,hj,k,h1,h2,h3,rfl⟩:=(aLs hM.det.1 hp e0).1 he0
  show ((qF m.S P).map fun q=>m.Verdicts.getD q.toNat 0).getD (j:Int).toNat 0=0
  rw [Int.toNat_natCast,List.getD_eq_getElem?_getD,List.getElem?_map,hj]
  show m.Verdicts.getD q.toNat 0=0
  unfold iR at h3
  cases hy:m.S.E.find? (hit m.S q (jF m.S k)) with
  |none=>rw [hy] at h3;exact absurd h3 (by decide)
  |some y=>
   have hym:=List.mem_of_find?_eq_some hy
   have hyh:=List.find?_some hy
   unfold hit at hyh
   rw [Bool.and_eq_true,beq_iff_eq,beq_iff_eq] at hyh
   have:=hM.out y hym
   rwa [hyh.1] at this
end Gv
set_option linter.unusedSimpArgs false
set_option linter.unusedVariables false
namespace Gv
open Go
theorem least_le {m:aZ} {P:List Int} (hM:aCS m):(yW m P).S.N<=m.S.N:=by
 have h40:=hM.det.1.1
 obtain ⟨g1,g2,_,_⟩:=aHe (p:=P) hM.det.1
 have hnd:(qF m.S P).Nodup:=(List.pairwise_map.1 g1).imp fun h e=>h (congrArg _ e)
 have:=List.Nodup.length_le_of_subset (l₂:=(List.range m.S.N.toNat).map fun i=>((i:Nat):Int)) hnd (fun q hq=>by
  have hi:inS m.S q:=g2 q hq
  unfold inS at hi
  rw [List.mem_map]
  exact ⟨q.toNat,by rw [List.mem_range];omega,by omega⟩)
 rw [List.length_map,List.length_range] at this
 show ((qF m.S P).length:Int)<=_
 omega
def vAt (m:aZ) (k:Int):Int:=m.Verdicts.getD k.toNat 0
theorem least_run {m:aZ} {P:List Int} (hM:aCS m) (h:StbP m.S P) (hr:∀ x y:Nat,x < m.S.N.toNat->y < m.S.N.toNat->P[x]?=P[y]?->m.Verdicts[x]?=m.Verdicts[y]?) {tr:List aJ} (ht:∀ s∈tr,s≠bQ):
  (kH m.S tr < 0/\kH (yW m P).S tr < 0)\/(0<=kH m.S tr/\0<=kH (yW m P).S tr/\vAt m (kH m.S tr)=vAt (yW m P) (kH (yW m P).S tr)):=by
 rcases minP_run hM.det h ht with ⟨h1,h2⟩|⟨j,q,h1,h2,h3,h4⟩
 ·exact .inl ⟨h1,by show kH (aBT m.S P) tr < 0;omega⟩
 ·right
  have hq:=qF_in hM.det.1 h1
  have h3':=h3
  unfold inS at h3' hq
  have hl:=h.len
  have e:P[q.toNat]?=P[(kH m.S tr).toNat]?:=by
   unfold kB at h2
   rw [List.getD_eq_getElem?_getD,List.getD_eq_getElem?_getD,List.getElem?_eq_getElem (by omega),List.getElem?_eq_getElem (by omega)] at h2
   rw [List.getElem?_eq_getElem (by omega),List.getElem?_eq_getElem (by omega)]
   exact congrArg some h2
  have hv:=hr _ _ (by omega) (by omega) e
  refine ⟨h3'.1,by show 0<=kH (aBT m.S P) tr;omega,?_⟩
  show vAt m (kH m.S tr)=((qF m.S P).map fun q=>m.Verdicts.getD q.toNat 0).getD (kH (aBT m.S P) tr).toNat 0
  rw [h4,Int.toNat_natCast,List.getD_eq_getElem?_getD,List.getElem?_map,h1]
  show vAt m (kH m.S tr)=m.Verdicts.getD q.toNat 0
  unfold vAt
  rw [List.getD_eq_getElem?_getD,List.getD_eq_getElem?_getD,hv]
end Gv
set_option linter.unusedSimpArgs false
set_option linter.unusedVariables false
namespace Gv
open Go
section
variable {ma mb:aZ} {M:List aJ}
def fdV (ma mb:aZ) (p q:Int):Bool:=decide (p < 0\/q < 0\/vAt ma p≠vAt mb q)
theorem fdV_eq (ha:aCS ma) (hb:aCS mb) {p q:Int} (hp:-1<=p/\p < ma.S.N) (hq:-1<=q/\q < mb.S.N):qU p q ma mb=some (fdV ma mb p q):=by
 unfold qU mM fdV
 by_cases h1:p < 0
 ·simp [h1]
 ·by_cases h2:q < 0
  ·simp [h2]
  ·rw [if_neg (by simpa using h1),if_neg (by simpa using h2),(ha.ver ⟨by omega,hp.2⟩).1,aA,(hb.ver ⟨by omega,hq.2⟩).1,aA]
   congr 1
   show (vAt ma p != vAt mb q)=_
   by_cases h3:vAt ma p=vAt mb q
   ·rw [h3,decide_eq_false (by simp;omega)];simp
   ·rw [decide_eq_true (.inr (.inr h3)),bne_iff_ne];exact h3
theorem ft_stepV (ha:aCS ma) (hb:aCS mb) (hM:M.length<=30):Stp ma.S mb.S M (fdV ma mb) fun s=>gH ma.S mb.S ma mb M s.1 s.2:=by
 have hc:∀ (l:List (Int × Int)) (e:aN) (r:List aN),gH ma.S mb.S ma mb M (mtt l) (e::r)=lG ma.S mb.S ma mb M (mtt l) e r (decide (bN e.a e.b\/(e.a,e.b)∈l)):=by
  intro l e r
  unfold gH
  rw [if_pos (by simp),show ix (e::r) 0=some e from rfl,aA,aRe,aA]
  have hg:(vJ (mtt l) (⟨e.a,e.b⟩:Int × Int)).getD false=decide ((e.a,e.b)∈l):=aQY (e.a,e.b) l
  rw [hg]
  by_cases h1:e.a < 0
  ·rw [if_pos (by simpa using h1)]
   by_cases h2:e.b < 0
   ·rw [if_pos (by simpa using h2),decide_eq_true (show bN e.a e.b\/(e.a,e.b)∈l from .inl ⟨h1,h2⟩)]
   ·rw [if_neg (by simpa using h2)]
    congr 1
    exact decide_eq_decide.2 ⟨.inr,fun h=>h.resolve_left fun g=>h2 g.2⟩
  ·rw [if_neg (by simpa using h1)]
   congr 1
   exact decide_eq_decide.2 ⟨.inr,fun h=>h.resolve_left fun g=>h1 g.1⟩
 refine ⟨fun l=>?_,fun l e r hr ht h=>?_,fun l e r hr ht h1 h2 h3 hin=>?_,fun l e r hr ht h1 h2 h3 hin=>?_⟩
 ·show gH ma.S mb.S ma mb M (mtt l) []=_
  unfold gH
  rw [if_neg (by simp)]
 ·show gH ma.S mb.S ma mb M (mtt l) (e::r)=_
  rw [hc,decide_eq_true h];rfl
 ·show gH ma.S mb.S ma mb M (mtt l) (e::r)=_
  rw [hc,decide_eq_false (fun g=>g.elim h1 h2)]
  unfold lG
  rw [if_neg (by simp),aA,fdV_eq ha hb hin.1 hin.2,aA,if_pos h3]
 ·show gH ma.S mb.S ma mb M (mtt l) (e::r)=_
  rw [hc,decide_eq_false (fun g=>g.elim h1 h2)]
  unfold lG
  have hp:yX (mtt l) (⟨e.a,e.b⟩:Int × Int) true=mtt (l++[(e.a,e.b)]):=aQZ h2
  rw [if_neg (by simp),aA,fdV_eq ha hb hin.1 hin.2,aA,if_neg (by simpa using h3),ft_push ha.det hb.det hM hr ht,aA,hp]
  rfl
end
end Gv
set_option linter.unusedSimpArgs false
set_option linter.unusedVariables false
namespace Gv
open Go
section
variable {ma mb:aZ}
theorem first_V (ha:aCS ma) (hb:aCS mb) (ha0:ma.S.I=0) (hb0:mb.S.I=0):∃ M r,Jn ma.S mb.S M/\aBF ma.S mb.S ma mb=some (ftOut r)/\FtRes ma.S mb.S M (fdV ma mb) r:=by
 obtain ⟨M,hJ,hm⟩:=aSx ha.det.1 hb.det.1
 have hlen:=hJ.len
 obtain ⟨r,h1,h2⟩:=aSw (ft_stepV (M:=M) ha hb (by omega)) ha.det.1 hb.det.1 (by omega)
 refine ⟨M,r,hJ,?_,h2⟩
 unfold aBF
 have h1':loop (fun s:List ((Int × Int) × Bool) × List aN=>gH ma.S mb.S ma mb M s.1 s.2) (([]:List ((Int × Int) × Bool)),([⟨0,0,[]⟩]:List aN))=some r:=h1
 cases hx:cQ [ma.S.L,mb.S.L] with
 |none=>rw [hx] at hm;cases hm
 |some X=>
  rw [hx,aA] at hm
  rw [aA]
  cases hy:aEu 1 0 X [] with
  |none=>rw [hy] at hm;cases hm
  |some Y=>
   rw [hy,aA] at hm
   rw [aA,hm,aA,ha0,hb0,h1',aA]
   cases r with
   |inl x=>rfl
   |inr x=>rfl
theorem aRy {n:Nat} {m:aZ} {P:List Int} (hn:451<=n) (hM:aCS m) (hf:bA n m.S):bA n (yW m P).S:=by
 have h12:=hM.det.1.2.2.1.2.1
 refine ⟨?_,fun s hs=>?_,?_⟩
 ·have:(aDd m.S.L.tail (uS m.S P).2).length<=m.S.L.tail.length:=List.length_filter_le _ _
  rw [List.length_tail] at this
  show (bQ::aDd m.S.L.tail (uS m.S P).2).length<=n
  rw [List.length_cons]
  omega
 ·have hs:s∈bQ::aDd m.S.L.tail (uS m.S P).2:=hs
  rcases List.mem_cons.1 hs with rfl|hs
  ·exact Nat.le_trans (by decide) hn
  ·exact hf.2.1 s (List.mem_of_mem_tail (List.mem_filter.1 hs).1)
 ·have:=aLM (P:=P) hM.det.1
  have e:(yW m P).S.E.length=(uS m.S P).2.length:=by simp [yW,aBT,eS]
  rw [e]
  omega
theorem Same_at {m:aZ} {P:List Int} (hM:aCS m) (h:StbP m.S P) (hr:∀ x y:Nat,x < m.S.N.toNat->y < m.S.N.toNat->P[x]?=P[y]?->m.Verdicts[x]?=m.Verdicts[y]?) (hf:bA 999999999 m.S) (h0:m.S.I=0):sT m (yW m P)=some (true,[],0):=by
 have hL:=least_ok hM h
 obtain ⟨M,r,hJ,h1,h2⟩:=first_V hM hL h0 rfl
 unfold sT
 rw [aIv hM hf,aA,if_neg (by simp),aIv hL (aRy (by omega) hM hf),aA]
 unfold qV
 rw [if_neg (by simp),h1,aA]
 cases r with
 |inl x=>rfl
 |inr x=>
  obtain ⟨w,v⟩:=x
  obtain ⟨_,_,k1,k2,k3,_⟩:v=true/\w.length<=2000/\OvM M w/\¬ bN (kH m.S w) (kH (yW m P).S w)/\fdV m (yW m P) (kH m.S w) (kH (yW m P).S w)=true/\_:=h2
  rcases least_run hM h hr (fun s hs=>((hJ.mem s).1 (k1 s hs)).2) with g|⟨g1,g2,g3⟩
  ·exact absurd g k2
  ·unfold fdV at k3
   rw [decide_eq_true_iff] at k3
   rcases k3 with k|k|k
   ·omega
   ·omega
   ·exact absurd g3 k
end
theorem lawMon (cs:aJ):aDL cs=some true:=by
 unfold aDL aKU
 rw [aA]
 split
 ·rfl
 ·obtain ⟨t,p,e,ht,hp,ft,fp⟩:=aSz cs
  rw [e,aA]
  obtain ⟨e1,e2⟩:=make_at ht hp (ft.up (by omega)) (fp.up (by omega))
  show (ob (vD t p) fun r52=>_)=_
  rw [e1,aA]
  by_cases hs:Small (dN t p)
  ·rw [show mkM t p=(aCR t p,0) from if_pos hs,if_neg (by simp)]
   have hM:=monT_ok ht hp.1 hs
   have hF:bA 999999999 (aCR t p).S:=(aOP ft hs).up (by omega)
   obtain ⟨P,h1,h2,h3⟩:=aSJ hM hF rfl
   show (ob (oL (aCR t p)) fun r127=>_)=_
   rw [h3,aA]
   show (ob (sT (aCR t p) (yW (aCR t p) P)) fun r169=>_)=_
   rw [Same_at hM h1 h2 hF rfl,aA,if_neg (by simp),if_neg (by simp),if_neg (by simp)]
   show (ob (jE (aCR t p)) fun r414=>_)=_
   rw [aIv hM hF,aA,if_neg (by simp)]
   have hle:=least_le (P:=P) hM
   rw [show decide ((aCR t p).S.N < (yW (aCR t p) P).S.N)=false from decide_eq_false (by omega)]
   exact look_ok ht hp ft fp hs
  ·rw [show mkM t p=(⟨⟨0,0,[],[]⟩,[]⟩,5) from if_neg hs,if_pos (by simp)]
   show (ob (vG t p) fun r92=>_)=_
   rw [e2,aA,show mkM t p=(⟨⟨0,0,[],[]⟩,[]⟩,5) from if_neg hs]
   rfl
end Gv
