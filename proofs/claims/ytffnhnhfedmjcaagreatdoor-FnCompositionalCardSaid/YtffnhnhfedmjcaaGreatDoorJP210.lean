/- Branching bisimulations that keep divergence, of systems given by their steps; they are kept by putting systems side by side. Plain Lean. -/
import Derived.Test.YtffnhnhfedmjcaaGreatDoorJP200
set_option linter.all false
namespace Gv
section
variable {L S T:Type}
inductive Tp (t0:L) (A:S->L->S->Prop) (ok:S->Prop) (x:S):S->Prop
 |refl:Tp t0 A ok x x
 |step {y z:S}:Tp t0 A ok x y->A y t0 z->ok z->Tp t0 A ok x z
def DivR (t0:L) (A:S->L->S->Prop) (ok:S->Prop) (x:S):Prop:=∃ X:S->Prop,X x/\∀ z,X z->ok z/\∃ z',A z t0 z'/\X z'
def Fwd (t0:L) (A:S->L->S->Prop) (B:T->L->T->Prop) (R:S->T->Prop):Prop:=
 ∀ x y,R x y->∀ a x',A x a x'->(a=t0/\R x' y)\/∃ y1 y',Tp t0 B (R x) y y1/\B y1 a y'/\R x' y'
def Dvf (t0:L) (A:S->L->S->Prop) (B:T->L->T->Prop) (R:S->T->Prop):Prop:=
 ∀ x y,R x y->DivR t0 A (fun z=>R z y) x->DivR t0 B (R x) y
def Dvq (t0:L) (A:S->L->S->Prop) (B:T->L->T->Prop) (R:S->T->Prop):Prop:=
 ∀ (CA:S->Prop) (CB:T->Prop),(∀ x y,R x y->(CA x<->CB y))->∀ x y,R x y->DivR t0 A CA x->DivR t0 B CB y
variable {t0:L} {A:S->L->S->Prop} {B:T->L->T->Prop} {R:S->T->Prop}
def Inr (t0:L) (A:S->L->S->Prop) (ok:S->Prop) (z' z:S):Prop:=A z t0 z'/\ok z/\ok z'
theorem aMs {ok:S->Prop} {x:S} (h:¬ DivR t0 A ok x):Acc (Inr t0 A ok) x:=by
 refine Classical.byContradiction fun hx=>h ⟨fun z=>¬ Acc (Inr t0 A ok) z,hx,fun z hz=>?_⟩
 have:∃ z',Inr t0 A ok z' z/\¬ Acc (Inr t0 A ok) z':=by
  refine Classical.byContradiction fun hn=>hz ⟨_,fun z' hr=>?_⟩
  exact Classical.byContradiction fun h'=>hn ⟨z',hr,h'⟩
 obtain ⟨z',hr,h'⟩:=this
 exact ⟨hr.2.1,z',hr.1,h'⟩
theorem aMt {ok:S->Prop} {x:S} (h:Acc (Inr t0 A ok) x):¬ DivR t0 A ok x:=by
 induction h with
 |intro x _ ih=>
  rintro ⟨X,hx,hX⟩
  obtain ⟨ho,z',hz,hz'⟩:=hX x hx
  exact ih z' ⟨hz,ho,(hX z' hz').1⟩ ⟨X,hz',hX⟩
inductive Mor (r:S->S->Prop):S->S->Prop
 |one {x y:S}:r x y->Mor r x y
 |more {x y z:S}:r x y->Mor r y z->Mor r x z
theorem acc_mor {r:S->S->Prop} {x:S} (h:Acc r x):Acc (Mor r) x:=by
 induction h with
 |intro x _ ih=>
  refine ⟨_,fun y hy=>?_⟩
  have key:∀ y z,Mor r y z->z=x->Acc (Mor r) y:=by
   intro y z hm
   induction hm with
   |one hr=>rintro rfl;exact ih _ hr
   |more hr _ ih2=>intro e;exact (ih2 e).inv (.one hr)
  exact key y x hy rfl
theorem Mor.trans {r:S->S->Prop} {x y z:S} (h:Mor r x y) (h':Mor r y z):Mor r x z:=by
 induction h with
 |one hr=>exact .more hr h'
 |more hr _ ih=>exact .more hr (ih h')
theorem Tp.mor {ok C:S->Prop} {x y:S} (hk:∀ z,ok z->C z) (hx:C x) (h:Tp t0 A ok x y):C y/\(x=y\/Mor (Inr t0 A C) y x):=by
 induction h with
 |refl=>exact ⟨hx,.inl rfl⟩
 |step _ hs ho ih=>
  refine ⟨hk _ ho,.inr ?_⟩
  rcases ih.2 with rfl|h
  ·exact .one ⟨hs,hx,hk _ ho⟩
  ·exact .more ⟨hs,ih.1,hk _ ho⟩ h
theorem Tp.trans {ok:S->Prop} {x y z:S} (h:Tp t0 A ok x y) (h':Tp t0 A ok y z):Tp t0 A ok x z:=by
 induction h' with
 |refl=>exact h
 |step _ hs ho ih=>exact ih.step hs ho
theorem end_step {Z:S->S->Prop} (hF:∀ x y,R x y->∀ x',A x t0 x'->(Z x x'/\R x' y)\/∃ y1 y',Tp t0 B (R x) y y1/\B y1 t0 y'/\R x' y') {CA:S->Prop} {CB:T->Prop} (hC:∀ x y,R x y->(CA x<->CB y))
  (hz:∀ x y,R x y->Acc (Inr t0 B CB) y->CA x->Acc (fun x' x=>Z x x'/\R x y/\R x' y) x) {y:T} (hy:Acc (Inr t0 B CB) y):∀ x,R x y->Acc (Inr t0 A CA) x:=by
 induction acc_mor hy with
 |intro y hacc ih=>
  intro x hx
  rcases Classical.em (CA x) with hcx|hcx
  ·have:=hz x y hx hy hcx
   induction this with
   |intro x _ ihx=>
    refine ⟨_,fun x' hr=>?_⟩
    rcases hF x y hx x' hr.1 with ⟨hzz,hx'⟩|⟨y1,y',hp,hs,hx'⟩
    ·exact ihx x' ⟨hzz,hx,hx'⟩ hx' hr.2.2
    ·obtain ⟨h1,h2⟩:=hp.mor (C:=CB) (fun z hz=>(hC _ _ hz).1 hr.2.1) ((hC _ _ hx).1 hr.2.1)
     have h3:Mor (Inr t0 B CB) y' y:=by
      have h4:Inr t0 B CB y' y1:=⟨hs,h1,(hC _ _ hx').1 hr.2.2⟩
      rcases h2 with rfl|h2
      ·exact .one h4
      ·exact .more h4 h2
     have hy':Acc (Inr t0 B CB) y':=by
      have:∀ {a b:T},Mor (Inr t0 B CB) a b->Acc (Inr t0 B CB) b->Acc (Inr t0 B CB) a:=by
       intro a b hm
       induction hm with
       |one hr=>exact fun h=>h.inv hr
       |more hr _ ih=>exact fun h=>(ih h).inv hr
      exact this h3 hy
     exact ih y' h3 hy' x' hx'
  ·exact ⟨_,fun x' hr=>absurd hr.2.1 hcx⟩
end
section
variable {L:Type}
inductive Mv (n:Nat) (A:Nat->Int->L->Int->Prop) (sh:L->Option L) (mte:L->L->Option L):List Int->L->List Int->Prop
 |one {s:List Int} {i:Nat} {a l:L} {x:Int}:i < n->A i (s.getD i 0) a x->sh a=some l->Mv n A sh mte s l (s.set i x)
 |two {s:List Int} {i k:Nat} {a b c l:L} {x y:Int}:i < k->k < n->A i (s.getD i 0) a x->A k (s.getD k 0) b y->mte a b=some c->sh c=some l->Mv n A sh mte s l ((s.set i x).set k y)
def NR (n:Nat) (R:Nat->Int->Int->Prop) (s t:List Int):Prop:=s.length=n/\t.length=n/\∀ i,i < n->R i (s.getD i 0) (t.getD i 0)
variable {n:Nat} {A B:Nat->Int->L->Int->Prop} {sh:L->Option L} {mte:L->L->Option L} {t0:L} {R:Nat->Int->Int->Prop} {s t:List Int}
theorem dL {s:List Int} {i j:Nat} {x:Int} (hi:i < s.length):(s.set i x).getD j 0=if j=i then x else s.getD j 0:=by
 by_cases h:j=i
 ·subst h;simp [List.getD,hi]
 ·rw [if_neg h];simp only [List.getD];rw [List.getElem?_set_ne (fun e=>h e.symm)]
theorem NR.setL (h:NR n R s t) {i:Nat} (hi:i < n) {x:Int} (hx:R i x (t.getD i 0)):NR n R (s.set i x) t:=by
 refine ⟨by rw [List.length_set];exact h.1,h.2.1,fun j hj=>?_⟩
 rw [dL (by rw [h.1];exact hi)]
 split
 ·rename_i e;subst e;exact hx
 ·exact h.2.2 j hj
theorem NR.setR (h:NR n R s t) {i:Nat} (hi:i < n) {x:Int} (hx:R i (s.getD i 0) x):NR n R s (t.set i x):=by
 refine ⟨h.1,by rw [List.length_set];exact h.2.1,fun j hj=>?_⟩
 rw [dL (by rw [h.2.1];exact hi)]
 split
 ·rename_i e;subst e;exact hx
 ·exact h.2.2 j hj
theorem NR.setB (h:NR n R s t) {i:Nat} (hi:i < n) {x y:Int} (hx:R i x y):NR n R (s.set i x) (t.set i y):=by
 refine ⟨by rw [List.length_set];exact h.1,by rw [List.length_set];exact h.2.1,fun j hj=>?_⟩
 rw [dL (by rw [h.1];exact hi),dL (by rw [h.2.1];exact hi)]
 split
 ·rename_i e;subst e;exact hx
 ·exact h.2.2 j hj
theorem aMu {i:Nat}:t.set i (t.getD i 0)=t:=by
 by_cases h:i < t.length
 ·apply List.ext_getElem?
  intro j
  by_cases e:i=j
  ·subst e;simp [List.getD,h]
  ·rw [List.getElem?_set_ne e]
 ·rw [List.set_eq_of_length_le (by omega)]
theorem aOO (h0:sh t0=some t0) (h:NR n R s t) {i:Nat} (hi:i < n) {y:Int} (hp:Tp t0 (B i) (R i (s.getD i 0)) (t.getD i 0) y):Tp t0 (Mv n B sh mte) (NR n R s) t (t.set i y)/\NR n R s (t.set i y):=by
 induction hp with
 |refl=>rw [aMu];exact ⟨.refl,h⟩
 |@step y z hy hs ho ih=>
  have e:(t.set i y).set i z=t.set i z:=List.set_set ..
  have hm:Mv n B sh mte (t.set i y) t0 ((t.set i y).set i z):=.one hi (by rw [dL (by rw [h.2.1];exact hi),if_pos rfl];exact hs) h0
  rw [e] at hm
  exact ⟨ih.1.step hm (h.setR hi ho),h.setR hi ho⟩
theorem net_fwdZ (h0:sh t0=some t0) (hm1:∀ b,mte t0 b=none) (hm2:∀ b,mte b t0=none) (hF:∀ i,i < n->Fwd t0 (A i) (B i) (R i)):∀ s t,NR n R s t->∀ l s',Mv n A sh mte s l s'->(l=t0/\(∃ i,i < n/\∃ x,A i (s.getD i 0) t0 x/\s'=s.set i x)/\NR n R s' t)\/∃ t1 t',Tp t0 (Mv n B sh mte) (NR n R s) t t1/\Mv n B sh mte t1 l t'/\NR n R s' t':=by
 intro s t h l s' hs
 cases hs with
 |@one i a _ x hi ha hl=>
  rcases hF i hi _ _ (h.2.2 i hi) a x ha with ⟨rfl,hx⟩|⟨y1,y',hp,hb,hx⟩
  ·rw [h0] at hl;cases hl
   exact .inl ⟨rfl,⟨i,hi,x,ha,rfl⟩,h.setL hi hx⟩
  ·obtain ⟨p1,p2⟩:=aOO (sh:=sh) (mte:=mte) (B:=B) h0 h hi hp
   refine .inr ⟨t.set i y1,t.set i y',p1,?_,h.setB hi hx⟩
   have:Mv n B sh mte (t.set i y1) l ((t.set i y1).set i y'):=.one hi (by rw [dL (by rw [h.2.1];exact hi),if_pos rfl];exact hb) hl
   rwa [List.set_set] at this
 |@two i k a b c _ x y hik hk ha hb hc hl=>
  have hi:i < n:=by omega
  rcases hF i hi _ _ (h.2.2 i hi) a x ha with ⟨rfl,_⟩|⟨y1,y',hp,hb1,hx⟩
  ·rw [hm1] at hc;cases hc
  rcases hF k hk _ _ (h.2.2 k hk) b y hb with ⟨rfl,_⟩|⟨z1,z',hq,hb2,hy⟩
  ·rw [hm2] at hc;cases hc
  obtain ⟨p1,p2⟩:=aOO (sh:=sh) (mte:=mte) (B:=B) h0 h hi hp
  have hq':Tp t0 (B k) (R k (s.getD k 0)) ((t.set i y1).getD k 0) z1:=by rw [dL (by rw [h.2.1];exact hi),if_neg (by omega)];exact hq
  obtain ⟨p3,p4⟩:=aOO (sh:=sh) (mte:=mte) (B:=B) h0 p2 hk hq'
  have li:i < t.length:=by rw [h.2.1];exact hi
  have lk:k < (t.set i y1).length:=by rw [List.length_set,h.2.1];exact hk
  refine .inr ⟨(t.set i y1).set k z1,(t.set i y').set k z',p1.trans p3,?_,(h.setB hi hx).setB hk hy⟩
  have:Mv n B sh mte ((t.set i y1).set k z1) l ((((t.set i y1).set k z1).set i y').set k z'):=
   .two hik hk (by rw [dL lk,if_neg (by omega),dL li,if_pos rfl];exact hb1) (by rw [dL lk,if_pos rfl];exact hb2) hc hl
  have e:(((t.set i y1).set k z1).set i y').set k z'=(t.set i y').set k z':=by
   rw [List.set_comm z1 y' (by omega),List.set_set,List.set_set]
  rwa [e] at this
theorem aQe:∀ (s:List Int) (r:Nat->Int->Int->Prop),(∀ i,i < s.length->Acc (r i) (s.getD i 0))->Acc (fun s' s:List Int=>∃ i,i < s.length/\∃ x,r i x (s.getD i 0)/\s'=s.set i x) s
 |[],r,_=>⟨_,fun s' ⟨i,hi,_⟩=>absurd hi (Nat.not_lt_zero _)⟩
 |x::xs,r,h=>by
  have h1:=aQe xs (fun i=>r (i+1)) (fun i hi=>h (i+1) (by simpa using hi))
  have h2:Acc (r 0) x:=h 0 (by simp)
  clear h
  induction h2 generalizing xs with
  |intro x _ ihx=>
   induction h1 with
   |intro xs hxs ihxs=>
    refine ⟨_,?_⟩
    rintro s' ⟨i,hi,z,hr,rfl⟩
    cases i with
    |zero=>exact ihx z hr xs ⟨_,hxs⟩
    |succ i=>exact ihxs (xs.set i z) ⟨i,by simpa using hi,z,hr,rfl⟩
theorem acc_sub {S:Type} {r q:S->S->Prop} (h:∀ x y,q x y->r x y) {x:S} (hx:Acc r x):Acc q x:=by
 induction hx with
 |intro x _ ih=>exact ⟨_,fun y hy=>ih y (h _ _ hy)⟩
end
end Gv
namespace Gv
open Go
def nX (t:bA) (x:Int) (s:aH) (y:Int):Prop:=∃ e∈t.E,e.F=x/\oS t e=s/\e.To=y
structure Bbq (a b:bA) (R:Int->Int->Prop):Prop where
 inn:∀ x y,R x y->jS a x/\jS b y
 fw:Fwd bC (nX a) (nX b) R
 bw:Fwd bC (nX b) (nX a) (fun y x=>R x y)
 df:Dvq bC (nX a) (nX b) R
 db:Dvq bC (nX b) (nX a) (fun y x=>R x y)
theorem Bbq.symm {a b:bA} {R:Int->Int->Prop} (h:Bbq a b R):Bbq b a (fun y x=>R x y):=⟨fun x y g=>(h.inn y x g).symm,h.bw,h.fw,h.db,h.df⟩
section
variable {u:bA} {q:List Int} {R:Int->Int->Prop}
theorem aAG.txt_inj (h:aAG u) {e f:Edge} (he:e∈u.E) (hf:f∈u.E) (ht:oS u e=oS u f):e.B=f.B:=by
 obtain ⟨M,hM,hs⟩:=h.lab
 obtain ⟨_,_,h3,h4⟩:=h.big.inn e he
 obtain ⟨_,_,g3,g4⟩:=h.big.inn f hf
 have hn:u.L.Nodup:=by
  rw [hM,List.nodup_cons]
  exact ⟨hs.2,hs.1.imp fun {a b} h e=>by subst e;rw [lB] at h;cases h⟩
 unfold oS at ht
 rw [List.getD_eq_getElem?_getD,List.getD_eq_getElem?_getD,List.getElem?_eq_getElem (by omega),List.getElem?_eq_getElem (by omega)] at ht
 have:=(List.getElem_inj hn).1 (by simpa using ht)
 omega
theorem aOP (h:aAG u) {x:Int} (hx:jS u x):Dv u q x<->DivR bC (nX u) (fun z=>jS u z/\kY q x z) x:=by
 constructor
 ·rintro ⟨X,hX,h0⟩
  refine ⟨fun z=>X z/\jS u z/\kY q x z,⟨h0,hx,rfl⟩,fun z ⟨g1,g2,g3⟩=>⟨⟨g2,g3⟩,?_⟩⟩
  obtain ⟨e,he,rfl,hl,hX'⟩:=hX z g1
  obtain ⟨k1,k2,k3⟩:=aDY.1 he
  exact ⟨e.To,⟨e,k1,rfl,(h.tau k1).2 k2,rfl⟩,hX',(h.big.inn e k1).2.1,g3.trans k3⟩
 ·rintro ⟨X,h0,hX⟩
  refine ⟨X,fun z hz=>?_,h0⟩
  obtain ⟨⟨g1,g2⟩,z',⟨e,he,rfl,ht,rfl⟩,hz'⟩:=hX z hz
  have hl:=(h.tau he).1 ht
  exact ⟨e,aDY.2 ⟨he,hl,g2.symm.trans (hX _ hz').1.2⟩,rfl,hl,hz'⟩
theorem tp_inp (h:aAG u) (hs:∀ x y,R x y->kY q x y) {x y y1:Int} (hxy:R x y) (hp:Tp bC (nX u) (R x) y y1):InP u q y y1/\R x y1:=by
 induction hp with
 |refl=>exact ⟨.refl,hxy⟩
 |step _ hst ho ih=>
  obtain ⟨e,he,rfl,ht,rfl⟩:=hst
  exact ⟨InP.step he ((h.tau he).1 ht) ((hs _ _ ih.2).symm.trans (hs _ _ ho)) ih.1,ho⟩
theorem inp_match (h:aAG u) (hF:Fwd bC (nX u) (nX u) R) (hs:∀ x y,R x y->kY q x y) {x y z:Int} (hxy:R x y) (hz:InP u q x z):∃ w,InP u q y w/\R z w:=by
 refine InP.ind (C:=fun z=>∃ w,InP u q y w/\R z w) ⟨y,.refl,hxy⟩ (fun e he h0 hsm _ ⟨w,hw,hr⟩=>?_) hz
 rcases hF _ _ hr bC e.To ⟨e,he,rfl,(h.tau he).2 h0,rfl⟩ with ⟨_,hr'⟩|⟨y1,y',hp,⟨f,hf,rfl,ht,rfl⟩,hr'⟩
 ·exact ⟨w,hw,hr'⟩
 ·obtain ⟨i1,i2⟩:=tp_inp h hs hr hp
  exact ⟨f.To,(hw.trans i1).trans (InP.step hf ((h.tau hf).1 ht) ((hs _ _ i2).symm.trans (hsm.trans (hs _ _ hr'))) .refl),hr'⟩
theorem breq_of (h:aAG u) (hF:Fwd bC (nX u) (nX u) R) (hs:∀ x y,R x y->kY q x y) {x y:Int} (hxy:R x y):BrEq u q x y:=by
 intro e he hp hn
 obtain ⟨w,hw,hr⟩:=inp_match h hF hs hxy hp
 rcases hF _ _ hr (oS u e) e.To ⟨e,he,rfl,rfl,rfl⟩ with ⟨ht,hr'⟩|⟨y1,y',hp',⟨f,hf,rfl,ht,rfl⟩,hr'⟩
 ·exact absurd ⟨(h.tau he).1 ht,(hs _ _ hr).trans (hs _ _ hr').symm⟩ hn
 ·obtain ⟨i1,i2⟩:=tp_inp h hs hr hp'
  have hl:=h.txt_inj hf he ht
  refine ⟨f,hf,hw.trans i1,fun g=>hn ⟨by rw [←hl];exact g.1,(hs _ _ i2).trans (g.2.trans (hs _ _ hr').symm)⟩,hl,hs _ _ hr'⟩
end
section
variable {t u:bA} {o:Int}
theorem aJY (hv:cF t) {x y:Int} {s:aH} (h:nX t x s y):jS t x/\jS t y:=by
 obtain ⟨e,he,rfl,_,rfl⟩:=h
 exact ⟨(xG hv he).1,(xG hv he).2.1⟩
theorem aJZ (h:Emb t u o) {x y:Int} {s:aH} (hs:nX t x s y):nX u (x+o) s (y+o):=by
 obtain ⟨e,he,rfl,rfl,rfl⟩:=hs
 obtain ⟨f,hf,f1,f2,f3⟩:=h.go e he
 exact ⟨f,hf,f1,f3,f2⟩
theorem aHs (h:Emb t u o) {x z:Int} {s:aH} (hx:jS t x) (hs:nX u (x+o) s z):∃ y,z=y+o/\nX t x s y:=by
 obtain ⟨f,hf,f1,rfl,rfl⟩:=hs
 obtain ⟨e,he,e1,e2,e3⟩:=h.back f hf x hx f1
 exact ⟨e.To,e2,e,he,e1,e3.symm,rfl⟩
theorem emb_tp (h:Emb t u o) {ok ok':Int->Prop} (hk:∀ z,ok z->ok' (z+o)) {x y:Int} (hp:Tp bC (nX t) ok x y):Tp bC (nX u) ok' (x+o) (y+o):=by
 induction hp with
 |refl=>exact .refl
 |step _ hs ho ih=>exact ih.step (aJZ h hs) (hk _ ho)
theorem emb_div (h:Emb t u o) {C:Int->Prop} {x:Int} (hd:DivR bC (nX t) (fun z=>C (z+o)) x):DivR bC (nX u) C (x+o):=by
 obtain ⟨X,h0,hX⟩:=hd
 refine ⟨fun z=>∃ x,z=x+o/\X x,⟨x,rfl,h0⟩,?_⟩
 rintro z ⟨x,rfl,hx⟩
 obtain ⟨h1,x',h2,h3⟩:=hX x hx
 exact ⟨h1,x'+o,aJZ h h2,x',rfl,h3⟩
theorem emb_vid (hv:cF t) (h:Emb t u o) {C:Int->Prop} {x:Int} (hx:jS t x) (hd:DivR bC (nX u) C (x+o)):DivR bC (nX t) (fun z=>C (z+o)) x:=by
 obtain ⟨X,h0,hX⟩:=hd
 refine ⟨fun z=>jS t z/\X (z+o),⟨hx,h0⟩,fun z ⟨g1,g2⟩=>?_⟩
 obtain ⟨h1,z',h2,h3⟩:=hX _ g2
 obtain ⟨y,rfl,hy⟩:=aHs h g1 h2
 exact ⟨h1,y,hy,(aJY hv hy).2,h3⟩
end
section
variable {u:bA}
theorem aKx (h:aAG u) (dv:Bool):∃ p,pE u dv=some p/\Crs u (brF u dv) p:=by
 obtain ⟨p,h1,h2⟩:=aMm h.big (F:=brF u dv) (fun p hp hc=>⟨aQa h.big aKV,cn_cn _,aRi hp.1⟩) (nx:=fun p=>vN p u dv) (fun p hp=>by
  unfold vN
  rw [aRh h hp,aA];rfl) (step:=fun s=>aBS u dv s) (fun out=>rfl)
 refine ⟨p,?_,h2⟩
 rw [←h1]
 unfold pE aET aFE
 cases hm:mkz u.N (0:Int) with
 |none=>rfl
 |some z=>
  simp only [aA]
  cases loop (fun s=>aBS u dv s) [z] with
  |none=>rfl
  |some r=>
   simp only [aA]
   cases pD r<;>rfl
end
section
variable {a b:bA} {M:List aH} {Eo:List Edge} {R:Int->Int->Prop}
def RU (a:bA) (R:Int->Int->Prop) (x y:Int):Prop:=(∃ p q,R p q/\x=p+0/\y=q+a.N)\/∃ p q,R p q/\y=p+0/\x=q+a.N
theorem aRk (ha:cF a) (hb:cF b) (fa:pU 999999999 a) (fb:pU 999999999 b) (h:Uni a b M Eo) (dv:Bool):∃ p,uF a b dv=some (tog a b p,0)/\Crs (aAZ a b M Eo) (brF (aAZ a b M Eo) dv) p:=by
 obtain ⟨p,h1,h2⟩:=aKx (aJr ha hb h) dv
 refine ⟨p,?_,h2⟩
 unfold uF aAW aGg
 rw [aA,aBw a fa,aHT ha,aA,if_neg (by simp),aBw b fb,aHT hb,aA]
 unfold aAB aOg xC
 rw [if_neg (by simp),aMj ha hb h,aA,show pE ⟨(aAZ a b M Eo).N,(aAZ a b M Eo).I,(aAZ a b M Eo).L,(aAZ a b M Eo).E⟩ dv=_ from h1,aA,aA,aA,tog_eq ha hb h2.part,aA,aA]
end
end Gv
