/- Branching bisimulations that keep divergence, of systems given by their steps; they are kept by putting systems side by side. Plain Lean. -/
import Derived.Test.YtigicpgpkmjdpaaGreatDoorJP200
set_option linter.all false
namespace Gv
section
variable {L S T:Type}
inductive Tp (t0:L) (A:S->L->S->Prop) (ok:S->Prop) (x:S):S->Prop
 |refl:Tp t0 A ok x x
 |step {y z:S}:Tp t0 A ok x y->A y t0 z->ok z->Tp t0 A ok x z
def DivR (t0:L) (A:S->L->S->Prop) (ok:S->Prop) (x:S):Prop:=∃ X:S->Prop,X x/\∀ z,X z->ok z/\∃ z',A z t0 z'/\X z'
def Fwd (t0:L) (A:S->L->S->Prop) (B:T->L->T->Prop) (R:S->T->Prop):Prop:=
 ∀ x y,R x y->∀ a x',A x a x'->(a=t0/\R x' y)\/∃ y1 y',Tp t0 B (R x) y y1/\B y1 a y'/\R x' y'
def Dvf (t0:L) (A:S->L->S->Prop) (B:T->L->T->Prop) (R:S->T->Prop):Prop:=
 ∀ x y,R x y->DivR t0 A (fun z=>R z y) x->DivR t0 B (R x) y
def Dvq (t0:L) (A:S->L->S->Prop) (B:T->L->T->Prop) (R:S->T->Prop):Prop:=
 ∀ (CA:S->Prop) (CB:T->Prop),(∀ x y,R x y->(CA x<->CB y))->∀ x y,R x y->DivR t0 A CA x->DivR t0 B CB y
variable {t0:L} {A:S->L->S->Prop} {B:T->L->T->Prop} {R:S->T->Prop}
def Inr (t0:L) (A:S->L->S->Prop) (ok:S->Prop) (z' z:S):Prop:=A z t0 z'/\ok z/\ok z'
theorem aLt {ok:S->Prop} {x:S} (h:¬ DivR t0 A ok x):Acc (Inr t0 A ok) x:=by
 refine Classical.byContradiction fun hx=>h ⟨fun z=>¬ Acc (Inr t0 A ok) z,hx,fun z hz=>?_⟩
 have:∃ z',Inr t0 A ok z' z/\¬ Acc (Inr t0 A ok) z':=by
  refine Classical.byContradiction fun hn=>hz ⟨_,fun z' hr=>?_⟩
  exact Classical.byContradiction fun h'=>hn ⟨z',hr,h'⟩
 obtain ⟨z',hr,h'⟩:=this
 exact ⟨hr.2.1,z',hr.1,h'⟩
theorem aLu {ok:S->Prop} {x:S} (h:Acc (Inr t0 A ok) x):¬ DivR t0 A ok x:=by
 induction h with
 |intro x _ ih=>
  rintro ⟨X,hx,hX⟩
  obtain ⟨ho,z',hz,hz'⟩:=hX x hx
  exact ih z' ⟨hz,ho,(hX z' hz').1⟩ ⟨X,hz',hX⟩
inductive Mor (r:S->S->Prop):S->S->Prop
 |one {x y:S}:r x y->Mor r x y
 |more {x y z:S}:r x y->Mor r y z->Mor r x z
theorem acc_mor {r:S->S->Prop} {x:S} (h:Acc r x):Acc (Mor r) x:=by
 induction h with
 |intro x _ ih=>
  refine ⟨_,fun y hy=>?_⟩
  have key:∀ y z,Mor r y z->z=x->Acc (Mor r) y:=by
   intro y z hm
   induction hm with
   |one hr=>rintro rfl;exact ih _ hr
   |more hr _ ih2=>intro e;exact (ih2 e).inv (.one hr)
  exact key y x hy rfl
theorem Mor.trans {r:S->S->Prop} {x y z:S} (h:Mor r x y) (h':Mor r y z):Mor r x z:=by
 induction h with
 |one hr=>exact .more hr h'
 |more hr _ ih=>exact .more hr (ih h')
theorem Tp.mor {ok C:S->Prop} {x y:S} (hk:∀ z,ok z->C z) (hx:C x) (h:Tp t0 A ok x y):C y/\(x=y\/Mor (Inr t0 A C) y x):=by
 induction h with
 |refl=>exact ⟨hx,.inl rfl⟩
 |step _ hs ho ih=>
  refine ⟨hk _ ho,.inr ?_⟩
  rcases ih.2 with rfl|h
  ·exact .one ⟨hs,hx,hk _ ho⟩
  ·exact .more ⟨hs,ih.1,hk _ ho⟩ h
theorem Tp.trans {ok:S->Prop} {x y z:S} (h:Tp t0 A ok x y) (h':Tp t0 A ok y z):Tp t0 A ok x z:=by
 induction h' with
 |refl=>exact h
 |step _ hs ho ih=>exact ih.step hs ho
theorem end_step {Z:S->S->Prop} (hF:∀ x y,R x y->∀ x',A x t0 x'->(Z x x'/\R x' y)\/∃ y1 y',Tp t0 B (R x) y y1/\B y1 t0 y'/\R x' y') {CA:S->Prop} {CB:T->Prop} (hC:∀ x y,R x y->(CA x<->CB y))
  (hz:∀ x y,R x y->Acc (Inr t0 B CB) y->CA x->Acc (fun x' x=>Z x x'/\R x y/\R x' y) x) {y:T} (hy:Acc (Inr t0 B CB) y):∀ x,R x y->Acc (Inr t0 A CA) x:=by
 induction acc_mor hy with
 |intro y hacc ih=>
  intro x hx
  rcases Classical.em (CA x) with hcx|hcx
  ·have:=hz x y hx hy hcx
   induction this with
   |intro x _ ihx=>
    refine ⟨_,fun x' hr=>?_⟩
    rcases hF x y hx x' hr.1 with ⟨hzz,hx'⟩|⟨y1,y',hp,hs,hx'⟩
    ·exact ihx x' ⟨hzz,hx,hx'⟩ hx' hr.2.2
    ·obtain ⟨h1,h2⟩:=hp.mor (C:=CB) (fun z hz=>(hC _ _ hz).1 hr.2.1) ((hC _ _ hx).1 hr.2.1)
     have h3:Mor (Inr t0 B CB) y' y:=by
      have h4:Inr t0 B CB y' y1:=⟨hs,h1,(hC _ _ hx').1 hr.2.2⟩
      rcases h2 with rfl|h2
      ·exact .one h4
      ·exact .more h4 h2
     have hy':Acc (Inr t0 B CB) y':=by
      have:∀ {a b:T},Mor (Inr t0 B CB) a b->Acc (Inr t0 B CB) b->Acc (Inr t0 B CB) a:=by
       intro a b hm
       induction hm with
       |one hr=>exact fun h=>h.inv hr
       |more hr _ ih=>exact fun h=>(ih h).inv hr
      exact this h3 hy
     exact ih y' h3 hy' x' hx'
  ·exact ⟨_,fun x' hr=>absurd hr.2.1 hcx⟩
end
section
variable {L:Type}
inductive Mv (n:Nat) (A:Nat->Int->L->Int->Prop) (sh:L->Option L) (mte:L->L->Option L):List Int->L->List Int->Prop
 |one {s:List Int} {i:Nat} {a l:L} {x:Int}:i < n->A i (s.getD i 0) a x->sh a=some l->Mv n A sh mte s l (s.set i x)
 |two {s:List Int} {i k:Nat} {a b c l:L} {x y:Int}:i < k->k < n->A i (s.getD i 0) a x->A k (s.getD k 0) b y->mte a b=some c->sh c=some l->Mv n A sh mte s l ((s.set i x).set k y)
def NR (n:Nat) (R:Nat->Int->Int->Prop) (s t:List Int):Prop:=s.length=n/\t.length=n/\∀ i,i < n->R i (s.getD i 0) (t.getD i 0)
variable {n:Nat} {A B:Nat->Int->L->Int->Prop} {sh:L->Option L} {mte:L->L->Option L} {t0:L} {R:Nat->Int->Int->Prop} {s t:List Int}
theorem sL {s:List Int} {i j:Nat} {x:Int} (hi:i < s.length):(s.set i x).getD j 0=if j=i then x else s.getD j 0:=by
 by_cases h:j=i
 ·subst h;simp [List.getD,hi]
 ·rw [if_neg h];simp only [List.getD];rw [List.getElem?_set_ne (fun e=>h e.symm)]
theorem NR.setL (h:NR n R s t) {i:Nat} (hi:i < n) {x:Int} (hx:R i x (t.getD i 0)):NR n R (s.set i x) t:=by
 refine ⟨by rw [List.length_set];exact h.1,h.2.1,fun j hj=>?_⟩
 rw [sL (by rw [h.1];exact hi)]
 split
 ·rename_i e;subst e;exact hx
 ·exact h.2.2 j hj
theorem NR.setR (h:NR n R s t) {i:Nat} (hi:i < n) {x:Int} (hx:R i (s.getD i 0) x):NR n R s (t.set i x):=by
 refine ⟨h.1,by rw [List.length_set];exact h.2.1,fun j hj=>?_⟩
 rw [sL (by rw [h.2.1];exact hi)]
 split
 ·rename_i e;subst e;exact hx
 ·exact h.2.2 j hj
theorem NR.setB (h:NR n R s t) {i:Nat} (hi:i < n) {x y:Int} (hx:R i x y):NR n R (s.set i x) (t.set i y):=by
 refine ⟨by rw [List.length_set];exact h.1,by rw [List.length_set];exact h.2.1,fun j hj=>?_⟩
 rw [sL (by rw [h.1];exact hi),sL (by rw [h.2.1];exact hi)]
 split
 ·rename_i e;subst e;exact hx
 ·exact h.2.2 j hj
theorem aLv {i:Nat}:t.set i (t.getD i 0)=t:=by
 by_cases h:i < t.length
 ·apply List.ext_getElem?
  intro j
  by_cases e:i=j
  ·subst e;simp [List.getD,h]
  ·rw [List.getElem?_set_ne e]
 ·rw [List.set_eq_of_length_le (by omega)]
theorem aNH (h0:sh t0=some t0) (h:NR n R s t) {i:Nat} (hi:i < n) {y:Int} (hp:Tp t0 (B i) (R i (s.getD i 0)) (t.getD i 0) y):Tp t0 (Mv n B sh mte) (NR n R s) t (t.set i y)/\NR n R s (t.set i y):=by
 induction hp with
 |refl=>rw [aLv];exact ⟨.refl,h⟩
 |@step y z hy hs ho ih=>
  have e:(t.set i y).set i z=t.set i z:=List.set_set ..
  have hm:Mv n B sh mte (t.set i y) t0 ((t.set i y).set i z):=.one hi (by rw [sL (by rw [h.2.1];exact hi),if_pos rfl];exact hs) h0
  rw [e] at hm
  exact ⟨ih.1.step hm (h.setR hi ho),h.setR hi ho⟩
theorem aOS (h0:sh t0=some t0) (hm1:∀ b,mte t0 b=none) (hm2:∀ b,mte b t0=none) (hF:∀ i,i < n->Fwd t0 (A i) (B i) (R i)):∀ s t,NR n R s t->∀ l s',Mv n A sh mte s l s'->(l=t0/\(∃ i,i < n/\∃ x,A i (s.getD i 0) t0 x/\s'=s.set i x)/\NR n R s' t)\/∃ t1 t',Tp t0 (Mv n B sh mte) (NR n R s) t t1/\Mv n B sh mte t1 l t'/\NR n R s' t':=by
 intro s t h l s' hs
 cases hs with
 |@one i a _ x hi ha hl=>
  rcases hF i hi _ _ (h.2.2 i hi) a x ha with ⟨rfl,hx⟩|⟨y1,y',hp,hb,hx⟩
  ·rw [h0] at hl;cases hl
   exact .inl ⟨rfl,⟨i,hi,x,ha,rfl⟩,h.setL hi hx⟩
  ·obtain ⟨p1,p2⟩:=aNH (sh:=sh) (mte:=mte) (B:=B) h0 h hi hp
   refine .inr ⟨t.set i y1,t.set i y',p1,?_,h.setB hi hx⟩
   have:Mv n B sh mte (t.set i y1) l ((t.set i y1).set i y'):=.one hi (by rw [sL (by rw [h.2.1];exact hi),if_pos rfl];exact hb) hl
   rwa [List.set_set] at this
 |@two i k a b c _ x y hik hk ha hb hc hl=>
  have hi:i < n:=by omega
  rcases hF i hi _ _ (h.2.2 i hi) a x ha with ⟨rfl,_⟩|⟨y1,y',hp,hb1,hx⟩
  ·rw [hm1] at hc;cases hc
  rcases hF k hk _ _ (h.2.2 k hk) b y hb with ⟨rfl,_⟩|⟨z1,z',hq,hb2,hy⟩
  ·rw [hm2] at hc;cases hc
  obtain ⟨p1,p2⟩:=aNH (sh:=sh) (mte:=mte) (B:=B) h0 h hi hp
  have hq':Tp t0 (B k) (R k (s.getD k 0)) ((t.set i y1).getD k 0) z1:=by rw [sL (by rw [h.2.1];exact hi),if_neg (by omega)];exact hq
  obtain ⟨p3,p4⟩:=aNH (sh:=sh) (mte:=mte) (B:=B) h0 p2 hk hq'
  have li:i < t.length:=by rw [h.2.1];exact hi
  have lk:k < (t.set i y1).length:=by rw [List.length_set,h.2.1];exact hk
  refine .inr ⟨(t.set i y1).set k z1,(t.set i y').set k z',p1.trans p3,?_,(h.setB hi hx).setB hk hy⟩
  have:Mv n B sh mte ((t.set i y1).set k z1) l ((((t.set i y1).set k z1).set i y').set k z'):=
   .two hik hk (by rw [sL lk,if_neg (by omega),sL li,if_pos rfl];exact hb1) (by rw [sL lk,if_pos rfl];exact hb2) hc hl
  have e:(((t.set i y1).set k z1).set i y').set k z'=(t.set i y').set k z':=by
   rw [List.set_comm z1 y' (by omega),List.set_set,List.set_set]
  rwa [e] at this
theorem net_fwd (h0:sh t0=some t0) (hm1:∀ b,mte t0 b=none) (hm2:∀ b,mte b t0=none) (hF:∀ i,i < n->Fwd t0 (A i) (B i) (R i)):Fwd t0 (Mv n A sh mte) (Mv n B sh mte) (NR n R):=by
 intro s t h l s' hs
 rcases aOS h0 hm1 hm2 hF s t h l s' hs with ⟨h1,_,h3⟩|h
 ·exact .inl ⟨h1,h3⟩
 ·exact .inr h
theorem aOT:∀ (s:List Int) (r:Nat->Int->Int->Prop),(∀ i,i < s.length->Acc (r i) (s.getD i 0))->Acc (fun s' s:List Int=>∃ i,i < s.length/\∃ x,r i x (s.getD i 0)/\s'=s.set i x) s
 |[],r,_=>⟨_,fun s' ⟨i,hi,_⟩=>absurd hi (Nat.not_lt_zero _)⟩
 |x::xs,r,h=>by
  have h1:=aOT xs (fun i=>r (i+1)) (fun i hi=>h (i+1) (by simpa using hi))
  have h2:Acc (r 0) x:=h 0 (by simp)
  clear h
  induction h2 generalizing xs with
  |intro x _ ihx=>
   induction h1 with
   |intro xs hxs ihxs=>
    refine ⟨_,?_⟩
    rintro s' ⟨i,hi,z,hr,rfl⟩
    cases i with
    |zero=>exact ihx z hr xs ⟨_,hxs⟩
    |succ i=>exact ihxs (xs.set i z) ⟨i,by simpa using hi,z,hr,rfl⟩
theorem acc_sub {S:Type} {r q:S->S->Prop} (h:∀ x y,q x y->r x y) {x:S} (hx:Acc r x):Acc q x:=by
 induction hx with
 |intro x _ ih=>exact ⟨_,fun y hy=>ih y (h _ _ hy)⟩
end
end Gv
namespace Gv
open Go
def vI (t:bB) (x:Int) (s:aI) (y:Int):Prop:=∃ e∈t.E,e.F=x/\sQ t e=s/\e.To=y
structure Bbq (a b:bB) (R:Int->Int->Prop):Prop where
 inn:∀ x y,R x y->inT a x/\inT b y
 fw:Fwd bF (vI a) (vI b) R
 bw:Fwd bF (vI b) (vI a) (fun y x=>R x y)
 df:Dvq bF (vI a) (vI b) R
 db:Dvq bF (vI b) (vI a) (fun y x=>R x y)
theorem Bbq.symm {a b:bB} {R:Int->Int->Prop} (h:Bbq a b R):Bbq b a (fun y x=>R x y):=⟨fun x y g=>(h.inn y x g).symm,h.bw,h.fw,h.db,h.df⟩
section
variable {u:bB} {q:List Int} {R:Int->Int->Prop}
theorem yM.txt_inj (h:yM u) {e f:Edge} (he:e∈u.E) (hf:f∈u.E) (ht:sQ u e=sQ u f):e.B=f.B:=by
 obtain ⟨M,hM,hs⟩:=h.lab
 obtain ⟨_,_,h3,h4⟩:=h.big.inn e he
 obtain ⟨_,_,g3,g4⟩:=h.big.inn f hf
 have hn:u.L.Nodup:=by
  rw [hM,List.nodup_cons]
  exact ⟨hs.2,hs.1.imp fun {a b} h e=>by subst e;rw [mP] at h;cases h⟩
 unfold sQ at ht
 rw [List.getD_eq_getElem?_getD,List.getD_eq_getElem?_getD,List.getElem?_eq_getElem (by omega),List.getElem?_eq_getElem (by omega)] at ht
 have:=(List.getElem_inj hn).1 (by simpa using ht)
 omega
theorem aNI (h:yM u) {x:Int} (hx:inT u x):Dv u q x<->DivR bF (vI u) (fun z=>inT u z/\kW q x z) x:=by
 constructor
 ·rintro ⟨X,hX,h0⟩
  refine ⟨fun z=>X z/\inT u z/\kW q x z,⟨h0,hx,rfl⟩,fun z ⟨g1,g2,g3⟩=>⟨⟨g2,g3⟩,?_⟩⟩
  obtain ⟨e,he,rfl,hl,hX'⟩:=hX z g1
  obtain ⟨k1,k2,k3⟩:=xK.1 he
  exact ⟨e.To,⟨e,k1,rfl,(h.tau k1).2 k2,rfl⟩,hX',(h.big.inn e k1).2.1,g3.trans k3⟩
 ·rintro ⟨X,h0,hX⟩
  refine ⟨X,fun z hz=>?_,h0⟩
  obtain ⟨⟨g1,g2⟩,z',⟨e,he,rfl,ht,rfl⟩,hz'⟩:=hX z hz
  have hl:=(h.tau he).1 ht
  exact ⟨e,xK.2 ⟨he,hl,g2.symm.trans (hX _ hz').1.2⟩,rfl,hl,hz'⟩
theorem tp_inp (h:yM u) (hs:∀ x y,R x y->kW q x y) {x y y1:Int} (hxy:R x y) (hp:Tp bF (vI u) (R x) y y1):InP u q y y1/\R x y1:=by
 induction hp with
 |refl=>exact ⟨.refl,hxy⟩
 |step _ hst ho ih=>
  obtain ⟨e,he,rfl,ht,rfl⟩:=hst
  exact ⟨InP.step he ((h.tau he).1 ht) ((hs _ _ ih.2).symm.trans (hs _ _ ho)) ih.1,ho⟩
theorem inp_match (h:yM u) (hF:Fwd bF (vI u) (vI u) R) (hs:∀ x y,R x y->kW q x y) {x y z:Int} (hxy:R x y) (hz:InP u q x z):∃ w,InP u q y w/\R z w:=by
 refine InP.ind (C:=fun z=>∃ w,InP u q y w/\R z w) ⟨y,.refl,hxy⟩ (fun e he h0 hsm _ ⟨w,hw,hr⟩=>?_) hz
 rcases hF _ _ hr bF e.To ⟨e,he,rfl,(h.tau he).2 h0,rfl⟩ with ⟨_,hr'⟩|⟨y1,y',hp,⟨f,hf,rfl,ht,rfl⟩,hr'⟩
 ·exact ⟨w,hw,hr'⟩
 ·obtain ⟨i1,i2⟩:=tp_inp h hs hr hp
  exact ⟨f.To,(hw.trans i1).trans (InP.step hf ((h.tau hf).1 ht) ((hs _ _ i2).symm.trans (hsm.trans (hs _ _ hr'))) .refl),hr'⟩
theorem breq_of (h:yM u) (hF:Fwd bF (vI u) (vI u) R) (hs:∀ x y,R x y->kW q x y) {x y:Int} (hxy:R x y):BrEq u q x y:=by
 intro e he hp hn
 obtain ⟨w,hw,hr⟩:=inp_match h hF hs hxy hp
 rcases hF _ _ hr (sQ u e) e.To ⟨e,he,rfl,rfl,rfl⟩ with ⟨ht,hr'⟩|⟨y1,y',hp',⟨f,hf,rfl,ht,rfl⟩,hr'⟩
 ·exact absurd ⟨(h.tau he).1 ht,(hs _ _ hr).trans (hs _ _ hr').symm⟩ hn
 ·obtain ⟨i1,i2⟩:=tp_inp h hs hr hp'
  have hl:=h.txt_inj hf he ht
  refine ⟨f,hf,hw.trans i1,fun g=>hn ⟨by rw [←hl];exact g.1,(hs _ _ i2).trans (g.2.trans (hs _ _ hr').symm)⟩,hl,hs _ _ hr'⟩
theorem bb_pres (h:yM u) (hi:∀ x y,R x y->inT u x/\inT u y) (hsy:∀ x y,R x y->R y x) (hF:Fwd bF (vI u) (vI u) R) (hD:Dvq bF (vI u) (vI u) R):Pres u (brF u true) R:=by
 intro q hq hsub x y hx hy hxy
 have hs:∀ x y,R x y->kW q x y:=fun x y g=>hsub x y (hi x y g).1 (hi x y g).2 g
 have dv:∀ {x y:Int},R x y->Dv u q x->Dv u q y:=fun {x y} g hd=>by
  rw [aNI h (hi x y g).1] at hd
  rw [aNI h (hi x y g).2]
  refine hD _ _ (fun v w k=>?_) x y g hd
  exact ⟨fun m=>⟨(hi v w k).2,(hs x y g).symm.trans (m.2.trans (hs v w k))⟩,fun m=>⟨(hi v w k).1,(hs x y g).trans (m.2.trans (hs v w k).symm)⟩⟩
 exact (aOO h hq hx hy).2 ⟨hs x y hxy,fun _=>⟨dv hxy,dv (hsy x y hxy)⟩,breq_of h hF hs hxy,breq_of h hF hs (hsy x y hxy)⟩
end
section
variable {t u:bB} {o:Int}
theorem stT_in (hv:bW t) {x y:Int} {s:aI} (h:vI t x s y):inT t x/\inT t y:=by
 obtain ⟨e,he,rfl,_,rfl⟩:=h
 exact ⟨(pP hv he).1,(pP hv he).2.1⟩
theorem aNJ (h:Emb t u o) {x y:Int} {s:aI} (hs:vI t x s y):vI u (x+o) s (y+o):=by
 obtain ⟨e,he,rfl,rfl,rfl⟩:=hs
 obtain ⟨f,hf,f1,f2,f3⟩:=h.go e he
 exact ⟨f,hf,f1,f3,f2⟩
theorem aLw (h:Emb t u o) {x z:Int} {s:aI} (hx:inT t x) (hs:vI u (x+o) s z):∃ y,z=y+o/\vI t x s y:=by
 obtain ⟨f,hf,f1,rfl,rfl⟩:=hs
 obtain ⟨e,he,e1,e2,e3⟩:=h.back f hf x hx f1
 exact ⟨e.To,e2,e,he,e1,e3.symm,rfl⟩
theorem emb_tp (h:Emb t u o) {ok ok':Int->Prop} (hk:∀ z,ok z->ok' (z+o)) {x y:Int} (hp:Tp bF (vI t) ok x y):Tp bF (vI u) ok' (x+o) (y+o):=by
 induction hp with
 |refl=>exact .refl
 |step _ hs ho ih=>exact ih.step (aNJ h hs) (hk _ ho)
theorem emb_div (h:Emb t u o) {C:Int->Prop} {x:Int} (hd:DivR bF (vI t) (fun z=>C (z+o)) x):DivR bF (vI u) C (x+o):=by
 obtain ⟨X,h0,hX⟩:=hd
 refine ⟨fun z=>∃ x,z=x+o/\X x,⟨x,rfl,h0⟩,?_⟩
 rintro z ⟨x,rfl,hx⟩
 obtain ⟨h1,x',h2,h3⟩:=hX x hx
 exact ⟨h1,x'+o,aNJ h h2,x',rfl,h3⟩
theorem emb_vid (hv:bW t) (h:Emb t u o) {C:Int->Prop} {x:Int} (hx:inT t x) (hd:DivR bF (vI u) C (x+o)):DivR bF (vI t) (fun z=>C (z+o)) x:=by
 obtain ⟨X,h0,hX⟩:=hd
 refine ⟨fun z=>inT t z/\X (z+o),⟨hx,h0⟩,fun z ⟨g1,g2⟩=>?_⟩
 obtain ⟨h1,z',h2,h3⟩:=hX _ g2
 obtain ⟨y,rfl,hy⟩:=aLw h g1 h2
 exact ⟨h1,y,hy,(stT_in hv hy).2,h3⟩
end
section
variable {u:bB}
theorem aJO (h:yM u) (dv:Bool):∃ p,nS u dv=some p/\Crs u (brF u dv) p:=by
 obtain ⟨p,h1,h2⟩:=aPU h.big (F:=brF u dv) (fun p hp hc=>⟨part_cnH h.big aKl,cn_cn _,aPX hp.1⟩) (nx:=fun p=>tF p u dv) (fun p hp=>by
  unfold tF
  rw [aPW h hp,aA];rfl) (step:=fun s=>aEg u dv s) (fun out=>rfl)
 refine ⟨p,?_,h2⟩
 rw [←h1]
 unfold nS aIB aIA
 cases hm:mkz u.N (0:Int) with
 |none=>rfl
 |some z=>
  simp only [aA]
  cases loop (fun s=>aEg u dv s) [z] with
  |none=>rfl
  |some r=>
   simp only [aA]
   cases tU r<;>rfl
end
section
variable {a b:bB} {M:List aI} {Eo:List Edge} {R:Int->Int->Prop}
def RU (a:bB) (R:Int->Int->Prop) (x y:Int):Prop:=(∃ p q,R p q/\x=p+0/\y=q+a.N)\/∃ p q,R p q/\y=p+0/\x=q+a.N
theorem ru_fwd (ha:bW a) (hb:bW b) (h:Uni a b M Eo) (hB:Bbq a b R):Fwd bF (vI (aDN a b M Eo)) (vI (aDN a b M Eo)) (RU a R):=by
 have eA:=aOQ ha hb h
 have eB:=aOR ha hb h
 intro x y g s x' hs
 rcases g with ⟨p,q,g,rfl,rfl⟩|⟨p,q,g,rfl,rfl⟩
 ·obtain ⟨p',rfl,hp'⟩:=aLw eA (hB.inn _ _ g).1 hs
  rcases hB.fw p q g s p' hp' with ⟨h1,h2⟩|⟨q1,q',h1,h2,h3⟩
  ·exact .inl ⟨h1,.inl ⟨p',q,h2,rfl,rfl⟩⟩
  ·exact .inr ⟨q1+a.N,q'+a.N,emb_tp eB (fun z hz=>.inl ⟨p,z,hz,rfl,rfl⟩) h1,aNJ eB h2,.inl ⟨p',q',h3,rfl,rfl⟩⟩
 ·obtain ⟨q',rfl,hq'⟩:=aLw eB (hB.inn _ _ g).2 hs
  rcases hB.bw q p g s q' hq' with ⟨h1,h2⟩|⟨p1,p',h1,h2,h3⟩
  ·exact .inl ⟨h1,.inr ⟨p,q',h2,rfl,rfl⟩⟩
  ·exact .inr ⟨p1+0,p'+0,emb_tp eA (fun z hz=>.inr ⟨z,q,hz,rfl,rfl⟩) h1,aNJ eA h2,.inr ⟨p',q',h3,rfl,rfl⟩⟩
theorem ru_dvq (ha:bW a) (hb:bW b) (h:Uni a b M Eo) (hB:Bbq a b R):Dvq bF (vI (aDN a b M Eo)) (vI (aDN a b M Eo)) (RU a R):=by
 have eA:=aOQ ha hb h
 have eB:=aOR ha hb h
 intro CA CB hC x y g hd
 rcases g with ⟨p,q,g,rfl,rfl⟩|⟨p,q,g,rfl,rfl⟩
 ·exact emb_div eB (hB.df (fun z=>CA (z+0)) (fun z=>CB (z+a.N)) (fun v w k=>hC _ _ (.inl ⟨v,w,k,rfl,rfl⟩)) p q g (emb_vid ha eA (hB.inn _ _ g).1 hd))
 ·exact emb_div eA (hB.db (fun z=>CA (z+a.N)) (fun z=>CB (z+0)) (fun v w k=>hC _ _ (.inr ⟨w,v,k,rfl,rfl⟩)) q p g (emb_vid hb eB (hB.inn _ _ g).2 hd))
theorem aQa (ha:bW a) (hb:bW b) (fa:vG 999999999 a) (fb:vG 999999999 b) (h:Uni a b M Eo) (dv:Bool):∃ p,lK a b dv=some (tog a b p,0)/\Crs (aDN a b M Eo) (brF (aDN a b M Eo) dv) p:=by
 obtain ⟨p,h1,h2⟩:=aJO (aOP ha hb h) dv
 refine ⟨p,?_,h2⟩
 unfold lK zQ aFn
 rw [aA,aEl a fa,aIH ha,aA,if_neg (by simp),aEl b fb,aIH hb,aA]
 unfold yJ aNg uR
 rw [if_neg (by simp),aPT ha hb h,aA,show nS ⟨(aDN a b M Eo).N,(aDN a b M Eo).I,(aDN a b M Eo).L,(aDN a b M Eo).E⟩ dv=_ from h1,aA,aA,aA,tog_eq ha hb h2.part,aA,aA]
theorem alike_of (ha:bW a) (hb:bW b) (fa:vG 999999999 a) (fb:vG 999999999 b) (hB:Bbq a b R) (h0:R a.I b.I):lK a b true=some (true,0):=by
 obtain ⟨M,Eo,h⟩:=uni_ex ha hb
 obtain ⟨p,e,hp⟩:=aQa ha hb fa fb h true
 have hi:∀ x y,RU a R x y->inT (aDN a b M Eo) x/\inT (aDN a b M Eo) y:=by
  rintro x y (⟨p,q,g,rfl,rfl⟩|⟨p,q,g,rfl,rfl⟩)
  ·exact ⟨uni_A ha hb _ (hB.inn _ _ g).1,uni_B ha hb _ (hB.inn _ _ g).2⟩
  ·exact ⟨uni_B ha hb _ (hB.inn _ _ g).2,uni_A ha hb _ (hB.inn _ _ g).1⟩
 have hlow:=hp.low (RU a R) (bb_pres (aOP ha hb h) hi (fun x y g=>g.elim .inr .inl) (ru_fwd ha hb h hB) (ru_dvq ha hb h hB))
 have hr:RU a R (a.I+0) (b.I+a.N):=.inl ⟨_,_,h0,rfl,rfl⟩
 have:tog a b p=true:=tog_iff.2 (hlow _ _ (hi _ _ hr).1 (hi _ _ hr).2 hr)
 rw [e,this]
end
end Gv
namespace Gv
open Go
def T6:List aI:=[bF,[97],[103,101,116,40,48,41],[103,101,116,40,49,41],[112,117,116,40,48,41],[112,117,116,40,49,41]]
def vs6 (s:aI):List Int:=if s=[103,101,116,40,48,41]\/s=[112,117,116,40,48,41] then [0] else if s=[103,101,116,40,49,41]\/s=[112,117,116,40,49,41] then [1] else []
def nm6 (s:aI):aI:=(nC 40 s).1
theorem rd_nm {s nm:aI} {vs:List Int} (h:s.length < 1000000000) (e:lM s=some (nm,vs,true)):nm=(nC 40 s).1:=by
 have j2:∀ r1 v,kK s r1 v=some (nm,vs,true)->nm=r1.1:=fun r1 v e=>by
  have j1:∀ b,lF r1 v b=some (nm,vs,true)->nm=r1.1:=fun b e=>by
   unfold lF at e
   cases b with
   |true=>simp at e
   |false=>simp at e;exact e.1.symm
  unfold kK at e
  obtain ⟨x,_,e⟩:=aB e
  split at e<;>exact j1 _ e
 unfold lM aMd at e
 rw [if_pos (by omega),aA,aNj] at e
 simp only at e
 split at e
 ·obtain ⟨x,_,e⟩:=aB e
  obtain ⟨y,_,e⟩:=aB e
  obtain ⟨z,_,e⟩:=aB e
  split at e
  ·simp at e
  ·exact j2 _ _ e
 ·exact j2 _ _ e
theorem rd_nums {s nm:aI} {vs:List Int} (h:s.length < 1000000000) (e:lM s=some (nm,vs,true)):
  vs=match (nC 40 s).2 with|none=>[]|some r=>(spl 44 (if (r.getLast? == some 41)=true then r.dropLast else r)).map fun x=>(gH x).1:=by
 have j2:∀ r1 v,kK s r1 v=some (nm,vs,true)->vs=v:=fun r1 v e=>by
  have j1:∀ b,lF r1 v b=some (nm,vs,true)->vs=v:=fun b e=>by
   unfold lF at e
   cases b with
   |true=>simp at e
   |false=>simp at e;exact e.2.symm
  unfold kK at e
  obtain ⟨x,_,e⟩:=aB e
  split at e<;>exact j1 _ e
 unfold lM aMd at e
 rw [if_pos (by omega),aA,aNj] at e
 have hcl:=aMl 40 s
 cases hc:(nC 40 s).2 with
 |none=>
  rw [hc] at e
  simp only [Option.isSome_none] at e
  rw [if_neg (by simp)] at e
  exact j2 _ _ e
 |some r=>
  have hlen:=hcl.2 r hc
  rw [hc] at e
  simp only [Option.isSome_some,Option.getD_some,if_pos] at e ⊢
  rw [aHz r (by omega),aA] at e
  generalize hT:(if (r.getLast? == some 41)=true then r.dropLast else r)=t at e ⊢
  have htl:t.length<=r.length:=by rw [←hT];split<;>simp
  have hsp:aFf t [44]=some (spl 44 t):=by
   unfold aFf;rw [if_pos ⟨by omega,by simp⟩,aJg 44 _ _ (Nat.le_refl _)]
  have hsl:=spl_len 44 t
  rw [hsp,aA,aGF _ (by omega) (fun x hx=>by have:=hsl.2 x hx;omega),aA] at e
  by_cases hd:(spl 44 t).all (fun s=>(gH s).2)=true
  ·rw [if_pos hd,if_neg (by simp)] at e
   exact j2 _ _ e
  ·rw [if_neg hd] at e;simp at e
theorem rdc {c:UInt8} (h:dig c=true) (h2:aEk [c]=true):(gH [c]).1=(c.toNat:Int) - 48:=by
 have hi:=aHO [c]
 rw [h2] at hi
 unfold in63 at hi
 rw [Bool.and_eq_true] at hi
 have h3:=aHN hi.1
 have h4:=hi.2
 simp only [aHe,Bool.and_eq_true,decide_eq_true_eq] at h4
 have h5:=c.toNat_lt
 unfold dig at h
 simp only [Bool.and_eq_true,decide_eq_true_eq] at h
 exact aLg (by omega) (by omega) (h3.trans (aKR (by unfold dig;simp [h])).symm)
theorem rd6 {s:aI} (h:s∈T6):lM s=some (nm6 s,vs6 s,true):=by
 have hl:s.length < 1000000000/\aGE s=true:=by
  have:∀ s∈T6,s.length < 1000000000/\aGE s=true:=by decide
  exact this s h
 have e:=aHQ s hl.1
 unfold aCW at e
 obtain ⟨x,hx,e⟩:=aB e
 obtain ⟨nm,vs,b⟩:=x
 rw [hl.2] at e
 simp at e
 subst e
 have h1:=rd_nm hl.1 hx
 have h2:=rd_nums hl.1 hx
 have h3:∀ s∈T6,(match (nC 40 s).2 with|none=>[]|some r=>(spl 44 (if (r.getLast? == some 41)=true then r.dropLast else r)).map fun x=>(gH x).1)=vs6 s:=by
  have r0:(gH [48]).1=0:=rdc (by decide) (by decide)
  have r1:(gH [49]).1=1:=rdc (by decide) (by decide)
  intro s hs
  unfold T6 at hs
  simp only [List.mem_cons,List.not_mem_nil,or_false] at hs
  rcases hs with rfl|rfl|rfl|rfl|rfl|rfl
  ·rfl
  ·rfl
  ·show ([[48]]:List aI).map (fun x=>(gH x).1)=[0];rw [List.map_cons,r0];rfl
  ·show ([[49]]:List aI).map (fun x=>(gH x).1)=[1];rw [List.map_cons,r1];rfl
  ·show ([[48]]:List aI).map (fun x=>(gH x).1)=[0];rw [List.map_cons,r0];rfl
  ·show ([[49]]:List aI).map (fun x=>(gH x).1)=[1];rw [List.map_cons,r1];rfl
 rw [hx,h1,h2,h3 s h];rfl
def mtP (a b:aI) (m:cF):Bool:=m.Left == mnS a b&&m.Right == mxS a b
theorem meet_idx (ms:List cF) (a b:aI) (h:ms.length < 1000000):cM ms a b=some (match ms.findIdx? (mtP a b) with|none=>-1|some i=>(i:Int)):=by
 unfold cM
 have hl:=uO (step:=fun s=>cE ms a b s) ms (mtP a b) (fun k x hk hx=>by
  have hw:=bK hk (show ms.length < 4611686018427387904 by omega)
  simp only [cE,bU hk,if_pos,hx,aA,hw]
  unfold rQ oF mtP
  by_cases h1:(x.Left == mnS a b)=true
  ·rw [if_pos h1,h1,Bool.true_and,aA]
  ·have h1':(x.Left == mnS a b)=false:=by simpa using h1
   rw [if_neg h1,h1',Bool.false_and,aA]) (by simp only [cE,cO];rfl)
 rw [hl,aA]
 cases ms.findIdx? (mtP a b)<;>rfl
structure aHW (ms:List cF):Prop where
 len:ms.length<=6
 tau:∀ m∈ms,m.Left≠bF/\m.Right≠bF
 res:∀ m∈ms,m.Result.length<=100
def labF (nm:aI) (vs:List Int):Option aI:=if nm=bF then (if vs.length=0 then some bF else none) else if xN nm=true/\vs.length<=2/\vs.all aHe=true then some (if vs.length=0 then nm else nm++[40]++Lib.join (vs.map Lib.itoa) [44]++[41]) else none
def mtN (ms:List cF) (a b:aI):Option aI:=if a∈T6/\b∈T6 then (match ms.find? (mtP (nm6 a) (nm6 b)) with
 |none=>none
 |some m=>if vs6 a=vs6 b then labF m.Result (vs6 a) else none) else none
theorem vs6_ok (s:aI):vs6 s=[]\/vs6 s=[0]\/vs6 s=[1]:=by
 unfold vs6
 split
 ·exact .inr (.inl rfl)
 ·split
  ·exact .inr (.inr rfl)
  ·exact .inl rfl
theorem lab_at {nm:aI} (hn:nm.length<=100) (s:aI):∃ r,aBk nm (vs6 s)=some r/\(labF nm (vs6 s)=if r.2=true then some r.1 else none)/\r.1.length<=110:=by
 have hj:(Lib.join ((vs6 s).map Lib.itoa) [44]).length<=5:=by
  have i1:Lib.itoa 1=[49]:=aKR (c:=49) (by decide)
  rcases vs6_ok s with h|h|h<;>rw [h]
  ·simp [Lib.join_nil]
  ·simp only [List.map_cons,List.map_nil,Lib.join_one,itoa_zero];decide
  ·simp only [List.map_cons,List.map_nil,Lib.join_one,i1];decide
 have hl:(vs6 s).length<=1:=by rcases vs6_ok s with h|h|h<;>rw [h]<;>decide
 refine ⟨_,aHP nm (vs6 s) (by omega) (by omega) (by omega),?_,?_⟩
 ·unfold labF
  by_cases h1:nm=bF
  ·rw [if_pos h1,if_pos h1]
   by_cases h2:(vs6 s).length=0
   ·rw [if_pos h2,if_pos (by simpa using h2)]
   ·rw [if_neg h2,if_neg (by simpa using h2)]
  ·rw [if_neg h1,if_neg h1]
   by_cases h2:xN nm=true/\(vs6 s).length<=2/\(vs6 s).all aHe=true
   ·rw [if_pos h2,if_pos h2,if_pos rfl]
   ·rw [if_neg h2,if_neg h2,if_neg (by simp)]
 ·split
  ·show bF.length<=110;decide
  ·split
   ·show (if (vs6 s).length=0 then nm else nm++[40]++Lib.join ((vs6 s).map Lib.itoa) [44]++[41]).length<=110
    split
    ·omega
    ·simp only [List.length_append,List.length_singleton];omega
   ·simp
theorem aLx {β:Type} {p:β->Bool}:∀ (l:List β),(l.findIdx? p=none/\l.find? p=none)\/∃ i,∃ h:i < l.length,l.findIdx? p=some i/\l.find? p=some l[i]
 |[]=>.inl ⟨rfl,rfl⟩
 |x::l=>by
  rw [List.findIdx?_cons,List.find?_cons]
  cases hx:p x with
  |true=>exact .inr ⟨0,by simp,rfl,rfl⟩
  |false=>
   rcases aLx (p:=p) l with ⟨h1,h2⟩|⟨i,h,h1,h2⟩
   ·rw [h1,h2];exact .inl ⟨rfl,rfl⟩
   ·rw [h1,h2];exact .inr ⟨i+1,by simp;omega,rfl,rfl⟩
theorem meet_at {n:aX} (hm:aHW n.Meetings) {a b:aI} (ha:a∈T6) (hb:b∈T6):∃ r,mZ n a b=some r/\(mtN n.Meetings a b=if r.2=true then some r.1 else none)/\r.1.length<=110:=by
 have hl:=hm.len
 have hv:(vs6 a).length<=1:=by rcases vs6_ok a with h|h|h<;>rw [h]<;>decide
 unfold mZ
 rw [rd6 ha,aA,rd6 hb,aA]
 unfold xD
 rw [meet_idx _ _ _ (by show n.Meetings.length < 1000000;omega),aA]
 unfold mtN
 rw [if_pos (show a∈T6/\b∈T6 from ⟨ha,hb⟩)]
 rcases aLx (p:=mtP (nm6 a) (nm6 b)) n.Meetings with ⟨h1,h2⟩|⟨i,hi,h1,h2⟩
 ·rw [h1,h2]
  simp only
  rw [if_pos (by decide),aA,if_pos (by decide)]
  refine ⟨([],false),rfl,?_,?_⟩<;>simp
 ·rw [h1,h2]
  simp only
  rw [if_neg (by simp),bR hi,aA,aA,if_neg (by simp),aJq _ _ (by omega),aA]
  unfold nL
  by_cases he:vs6 a=vs6 b
  ·obtain ⟨r,e1,e2,e3⟩:=lab_at (hm.res _ (List.getElem_mem hi)) a
   rw [if_neg (by simp [he]),if_pos he]
   simp only
   rw [e1,aA]
   exact ⟨r,rfl,e2,e3⟩
  ·rw [if_pos (by simp [he]),if_neg he]
   refine ⟨([],false),rfl,?_,?_⟩<;>simp
theorem mn_mx (a b:aI):(mnS a b=a/\mxS a b=b)\/(mnS a b=b/\mxS a b=a):=by
 unfold mnS mxS
 rcases aIK a b with h|h|h
 ·left;rw [h];exact ⟨rfl,rfl⟩
 ·subst h;left;exact ⟨by simp,by simp⟩
 ·right
  have h1:vJ a b=false:=by
   cases g:vJ a b with
   |false=>rfl
   |true=>have:=xG g h;rw [mP] at this;cases this
  have h2:(a == b)=false:=by
   rw [beq_eq_false_iff_ne];rintro rfl;rw [mP] at h;cases h
  rw [h1,h2];exact ⟨rfl,rfl⟩
theorem aNK {ms:List cF} (hm:aHW ms) (b:aI):mtN ms bF b=none/\mtN ms b bF=none:=by
 have e:nm6 bF=bF:=by decide
 have key:∀ x y,(nm6 x=bF\/nm6 y=bF)->ms.find? (mtP (nm6 x) (nm6 y))=none:=fun x y h=>by
  rw [List.find?_eq_none]
  intro m hmm hp
  unfold mtP at hp
  rw [Bool.and_eq_true,beq_iff_eq,beq_iff_eq] at hp
  obtain ⟨t1,t2⟩:=hm.tau m hmm
  rcases mn_mx (nm6 x) (nm6 y) with ⟨g1,g2⟩|⟨g1,g2⟩<;>rw [g1,g2] at hp<;>rcases h with h|h<;>rw [h] at hp
  ·exact t1 hp.1
  ·exact t2 hp.2
  ·exact t2 hp.2
  ·exact t1 hp.1
 unfold mtN
 constructor
 ·split
  ·rw [key _ _ (.inl e)]
  ·rfl
 ·split
  ·rw [key _ _ (.inr e)]
  ·rfl
noncomputable def shN (n:aX) (l:aI):Option aI:=if l=bF then some bF else if l.length<=1000/\(wA l).isSome=true then (if n.Allowed.any (fun x=>((wA l).getD []) == x)=true then (if n.Hidden.any (fun x=>((wA l).getD []) == x)=true then some bF else some l) else none) else none
theorem name_some {l:aI} (h:l.length<=1000):∃ r,wA l=some r:=by
 have e:=aHQ l (by omega)
 unfold aCW at e
 obtain ⟨x,hx,e⟩:=aB e
 exact ⟨x.1,by unfold wA;rw [hx,aA]⟩
theorem shown_at {n:aX} (h1:n.Allowed.length<=12) (h2:n.Hidden.length<=12) {l:aI} (hl:l.length<=1000):∃ r,yV n l=some r/\(shN n l=if r.2=true then some r.1 else none)/\r.1.length<=1000:=by
 obtain ⟨nm,e⟩:=name_some hl
 unfold yV shN
 rw [e,aA]
 by_cases ht:l=bF
 ·rw [if_pos (by rw [ht];rfl),if_pos ht]
  exact ⟨_,rfl,rfl,by decide⟩
 ·rw [if_neg (by simpa [bF] using ht),if_neg ht,if_pos ⟨hl,rfl⟩,aIG _ _ (by omega),aA]
  simp only [Option.getD_some]
  cases ha:n.Allowed.any (fun x=>nm == x) with
  |false=>rw [if_pos (by simp),if_neg (by simp)];exact ⟨_,rfl,by simp,by simp⟩
  |true=>
   rw [if_neg (by simp),if_pos rfl,aIG _ _ (by omega),aA]
   by_cases hh:n.Hidden.any (fun x=>nm == x)=true
   ·rw [if_pos hh,if_pos hh];exact ⟨_,rfl,rfl,by show bF.length<=1000;decide⟩
   ·rw [if_neg hh,if_neg hh];exact ⟨_,rfl,rfl,hl⟩
theorem sh_tau (n:aX):shN n bF=some bF:=by unfold shN;rw [if_pos rfl]
end Gv
namespace Gv
open Go
def eX (n:aX) (i:Nat):bB:=n.Parts.getD i ⟨0,0,[],[]⟩
structure aNL (t:bB):Prop where
 ok:bW t
 lab:∀ s∈t.L,s∈T6
 ed:t.E.length<=30
structure nN (n:aX):Prop where
 len:1<=n.Parts.length/\n.Parts.length<=4
 part:∀ t∈n.Parts,aNL t
 meet:aHW n.Meetings
 al:n.Allowed.length<=12
 hid:n.Hidden.length<=12
def Rng (n:aX) (s:List Int):Prop:=s.length=n.Parts.length/\∀ i,i < n.Parts.length->inT (eX n i) (s.getD i 0)
def addT (i:Int) (a:List (List Int) × List fX) (x:aI × List Int):List (List Int) × List fX:=(uU id a.1 x.2,a.2++[⟨i,x.1,atK id a.1 x.2⟩])
def fR (i:Int) (l:List (aI × List Int)) (a:List (List Int) × List fX):List (List Int) × List fX:=l.foldl (addT i) a
noncomputable def see (n:aX) (c:aI) (t:List Int):List (aI × List Int):=match shN n c with|some l=>[(l,t)]|none=>[]
def rG (n:aX) (s:List Int) (i:Nat):List Edge:=(eX n i).E.filter fun e=>e.F == s.getD i 0
noncomputable def mv3 (n:aX) (s:List Int) (i k:Nat) (e f:Edge):List (aI × List Int):=match mtN n.Meetings (sQ (eX n i) e) (sQ (eX n k) f) with|some c=>see n c ((s.set i e.To).set k f.To)|none=>[]
noncomputable def mv2 (n:aX) (s:List Int) (i:Nat) (e:Edge) (k:Nat):List (aI × List Int):=(rG n s k).flatMap (mv3 n s i k e)
noncomputable def mv1 (n:aX) (s:List Int) (i:Nat) (e:Edge):List (aI × List Int):=see n (sQ (eX n i) e) (s.set i e.To)++(List.range' (i+1) (n.Parts.length - (i+1))).flatMap (mv2 n s i e)
noncomputable def mv0 (n:aX) (s:List Int) (i:Nat):List (aI × List Int):=(rG n s i).flatMap (mv1 n s i)
noncomputable def mvs (n:aX) (s:List Int):List (aI × List Int):=(List.range' 0 n.Parts.length).flatMap (mv0 n s)
theorem aFa (i:Int) (l m:List (aI × List Int)) (a:List (List Int) × List fX):fR i (l++m) a=fR i m (fR i l a):=by unfold fR;rw [List.foldl_append]
theorem aJt (i:Int):∀ (l:List (aI × List Int)) (a:List (List Int) × List fX),(fR i l a).1.length<=a.1.length+l.length/\(fR i l a).2.length=a.2.length+l.length
 |[],a=>by simp [fR]
 |x::l,a=>by
  have h:=aJt i l (addT i a x)
  have h2:=aLk (key:=id) a.1 x.2
  have e:fR i (x::l) a=fR i l (addT i a x):=rfl
  rw [e]
  unfold addT at h ⊢
  simp only [List.length_append,List.length_cons,List.length_nil] at h ⊢
  omega
theorem aJu {P:List Int->Prop} (i:Int):∀ (l:List (aI × List Int)) (a:List (List Int) × List fX),(∀ S∈a.1,P S)->(∀ x∈l,P x.2)->∀ S∈(fR i l a).1,P S
 |[],_,h,_=>h
 |x::l,a,h,h2=>aJu i l (addT i a x) (insK_all (key:=id) h (h2 x (by simp))) fun y hy=>h2 y (List.mem_cons_of_mem _ hy)
theorem aFz {α β:Type} {f:α->List β} {c:Nat}:∀ (l:List α),(∀ x∈l,(f x).length<=c)->(l.flatMap f).length<=c * l.length
 |[],_=>by simp
 |x::l,h=>by
  have h1:=aFz l fun y hy=>h y (List.mem_cons_of_mem _ hy)
  have h2:=h x (by simp)
  rw [List.flatMap_cons,List.length_append,List.length_cons,Nat.mul_succ];omega
section
variable {n:aX} {s:List Int}
theorem yN {i:Nat} (hi:i < n.Parts.length):eX n i∈n.Parts/\n.Parts[i]?=some (eX n i):=by
 unfold eX
 rw [List.getD_eq_getElem?_getD,List.getElem?_eq_getElem hi]
 exact ⟨List.getElem_mem hi,rfl⟩
theorem nN.at (hn:nN n) {i:Nat} (hi:i < n.Parts.length):aNL (eX n i):=hn.part _ (yN hi).1
theorem aHX (hn:nN n) {i:Nat} (hi:i < n.Parts.length) {e:Edge} (he:e∈rG n s i):e∈(eX n i).E/\e.F=s.getD i 0/\inT (eX n i) e.To/\sQ (eX n i) e∈T6/\(0<=e.B/\e.B.toNat < (eX n i).L.length):=by
 unfold rG at he
 obtain ⟨h1,h2⟩:=List.mem_filter.1 he
 obtain ⟨_,h3,h4⟩:=pP (hn.at hi).ok h1
 exact ⟨h1,beq_iff_eq.1 h2,h3,(hn.at hi).lab _ (aAX (hn.at hi).ok h1),h4.1,by omega⟩
theorem Rng.set (hs:Rng n s) {i:Nat} {x:Int} (hi:i < n.Parts.length) (hx:inT (eX n i) x):Rng n (s.set i x):=by
 refine ⟨by rw [List.length_set];exact hs.1,fun j hj=>?_⟩
 rw [sL (by rw [hs.1];exact hi)]
 split
 ·rename_i e;subst e;exact hx
 ·exact hs.2 j hj
theorem aIP {c:aI} {t:List Int} {x:aI × List Int} (hx:x∈see n c t):x.2=t/\shN n c=some x.1:=by
 unfold see at hx
 split at hx
 ·rename_i l h
  simp at hx;subst hx;exact ⟨rfl,h⟩
 ·cases hx
theorem aNO (c:aI) (t:List Int):(see n c t).length<=1:=by unfold see;split<;>simp
theorem aIQ (hn:nN n) {i:Nat} (hi:i < n.Parts.length):(rG n s i).length<=30:=Nat.le_trans (List.length_filter_le _ _) (hn.at hi).ed
theorem mv3_len (i k:Nat) (e f:Edge):(mv3 n s i k e f).length<=1:=by
 unfold mv3
 split
 ·exact aNO _ _
 ·simp
theorem mv2_len (hn:nN n) {i k:Nat} (hk:k < n.Parts.length) (e:Edge):(mv2 n s i e k).length<=30:=by
 have:=aFz (f:=mv3 n s i k e) (rG n s k) fun f _=>mv3_len i k e f
 have:=aIQ (s:=s) hn hk
 unfold mv2;omega
theorem mv1_len (hn:nN n) (i:Nat) (e:Edge):(mv1 n s i e).length<=121:=by
 have h1:=aFz (f:=mv2 n s i e) (List.range' (i+1) (n.Parts.length - (i+1))) (c:=30) fun k hk=>mv2_len hn (by rw [List.mem_range'_1] at hk;omega) e
 have h2:=aNO (n:=n) (sQ (eX n i) e) (s.set i e.To)
 have:=hn.len
 rw [List.length_range'] at h1
 unfold mv1
 rw [List.length_append];omega
theorem mv0_len (hn:nN n) {i:Nat} (hi:i < n.Parts.length):(mv0 n s i).length<=3630:=by
 have h1:=aFz (f:=mv1 n s i) (rG n s i) (c:=121) fun e _=>mv1_len hn i e
 have:=aIQ (s:=s) hn hi
 unfold mv0;omega
theorem mvs_len (hn:nN n):(mvs n s).length<=14520:=by
 have h1:=aFz (f:=mv0 n s) (List.range' 0 n.Parts.length) (c:=3630) fun i hi=>mv0_len hn (by rw [List.mem_range'_1] at hi;omega)
 have:=hn.len
 rw [List.length_range'] at h1
 unfold mvs;omega
theorem mv3_rng (hn:nN n) (hs:Rng n s) {i k:Nat} (hi:i < n.Parts.length) (hk:k < n.Parts.length) {e f:Edge} (he:e∈rG n s i) (hf:f∈rG n s k):∀ x∈mv3 n s i k e f,Rng n x.2:=by
 intro x hx
 unfold mv3 at hx
 split at hx
 ·rw [(aIP hx).1]
  exact (hs.set hi (aHX hn hi he).2.2.1).set hk (aHX hn hk hf).2.2.1
 ·cases hx
theorem mv2_rng (hn:nN n) (hs:Rng n s) {i k:Nat} (hi:i < n.Parts.length) (hk:k < n.Parts.length) {e:Edge} (he:e∈rG n s i):∀ x∈mv2 n s i e k,Rng n x.2:=by
 intro x hx
 obtain ⟨f,hf,hx⟩:=List.mem_flatMap.1 hx
 exact mv3_rng hn hs hi hk he hf x hx
theorem mv1_rng (hn:nN n) (hs:Rng n s) {i:Nat} (hi:i < n.Parts.length) {e:Edge} (he:e∈rG n s i):∀ x∈mv1 n s i e,Rng n x.2:=by
 intro x hx
 rcases List.mem_append.1 hx with hx|hx
 ·rw [(aIP hx).1];exact hs.set hi (aHX hn hi he).2.2.1
 ·obtain ⟨k,hk,hx⟩:=List.mem_flatMap.1 hx
  exact mv2_rng hn hs hi (by rw [List.mem_range'_1] at hk;omega) he x hx
theorem mv0_rng (hn:nN n) (hs:Rng n s) {i:Nat} (hi:i < n.Parts.length):∀ x∈mv0 n s i,Rng n x.2:=by
 intro x hx
 obtain ⟨e,he,hx⟩:=List.mem_flatMap.1 hx
 exact mv1_rng hn hs hi he x hx
theorem mvs_rng (hn:nN n) (hs:Rng n s):∀ x∈mvs n s,Rng n x.2:=by
 intro x hx
 obtain ⟨i,hi,hx⟩:=List.mem_flatMap.1 hx
 exact mv0_rng hn hs (by rw [List.mem_range'_1] at hi;omega) x hx
theorem Rng.small (hn:nN n) (hs:Rng n s):∀ q∈s,0<=q/\q<=63:=by
 intro q hq
 obtain ⟨i,hi,rfl⟩:=List.getElem_of_mem hq
 have:=hs.2 i (by rw [←hs.1];exact hi)
 have h2:=(hn.at (i:=i) (by rw [←hs.1];exact hi)).ok.1
 rw [List.getD_eq_getElem?_getD,List.getElem?_eq_getElem hi] at this
 unfold inT at this
 simp only [Option.getD_some] at this
 omega
theorem netKey_eq (hn:nN n) (hs:Rng n s):pT s=some (kS s):=by
 have h:=hs.small hn
 have hl:=kS_len h
 have:=hs.1
 have:=hn.len
 unfold pT
 rw [aMk s [44] (by omega) (fun x hx=>by have:=h x hx;omega) (by show (kS s).length < jA;unfold jA;omega)]
 rfl
theorem aLy (hn:nN n) {F:List (List Int)} (hF:∀ S∈F,Rng n S) (hs:Rng n s) (hl:F.length<=1000000) (arcs:List fX):
  eU F (mq 0 (F.map kS)) arcs s=some (atK id F s,uU id F s,mq 0 ((uU id F s).map kS)):=by
 have hk:∀ x∈F,kS x=kS s->x=s:=fun x hx e=>kS_inj ((hF x hx).small hn) (hs.small hn) e
 unfold eU
 rw [netKey_eq hn hs,aA]
 unfold atK uU
 rw [List.map_id]
 by_cases hm:s∈F
 ·rw [mget_in ((key_in hk).2 hm),if_neg (by simp),if_pos (show id s∈F from hm),if_pos (show id s∈F from hm),pos_inj hk]
  rfl
 ·have hm':kS s∉F.map kS:=fun h=>hm ((key_in hk).1 h)
  rw [aOA hm',if_pos (by simp),if_neg (show ¬ id s∈F from hm),if_neg (show ¬ id s∈F from hm)]
  have h1:aCE (mq 0 (F.map kS)) (kS s) (F.length:Int)=mq 0 ((F++[s]).map kS):=by
   have:=aNt (k:=0) hm'
   rw [Nat.zero_add,List.length_map] at this
   rw [this,List.map_append];rfl
  rw [aA,h1,cQ (by simp [jA];omega),aA]
  rfl
theorem put_at (hn:nN n) {c:aI} (hc:c.length<=1000) {t:List Int} (ht:Rng n t) {a:List (List Int) × List fX} (hg:∀ S∈a.1,Rng n S) (h1:a.1.length<=1000000) (h2:a.2.length<=1000000) (i:Nat):
  iM c t n a.1 (mq 0 (a.1.map kS)) a.2 (i:Int)=some ((fR i (see n c t) a).1,mq 0 ((fR i (see n c t) a).1.map kS),(fR i (see n c t) a).2):=by
 obtain ⟨r,e1,e2,_⟩:=shown_at hn.al hn.hid hc
 unfold iM
 rw [e1,aA]
 unfold see
 rw [e2]
 by_cases hr:r.2=true
 ·rw [if_pos hr,if_pos hr]
  unfold oG
  rw [aLy hn hg ht h1,aA,cQ (by simp [jA];omega),aA]
  rfl
 ·rw [if_neg hr,if_neg hr];rfl
end
end Gv
namespace Gv
open Go
section
variable {n:aX} {s:List Int}
structure Gd (n:aX) (b b':Nat) (a:List (List Int) × List fX):Prop where
 rng:∀ S∈a.1,Rng n S
 l1:a.1.length<=b
 l2:a.2.length<=b'
theorem Gd.add {b b' c:Nat} {a:List (List Int) × List fX} (h:Gd n b b' a) (i:Int) {l:List (aI × List Int)} (hr:∀ x∈l,Rng n x.2) (hl:l.length<=c):Gd n (b+c) (b'+c) (fR i l a):=by
 have:=aJt i l a
 have:=h.l1
 have:=h.l2
 exact ⟨aJu i l a h.rng hr,by omega,by omega⟩
theorem Gd.le {b b' c c':Nat} {a:List (List Int) × List fX} (h:Gd n b b' a) (h1:b<=c) (h2:b'<=c'):Gd n c c' a:=⟨h.rng,Nat.le_trans h.l1 h1,Nat.le_trans h.l2 h2⟩
theorem t6_len {c:aI} (h:c∈T6):c.length<=110:=by
 have:∀ c∈T6,c.length<=110:=by decide
 exact this c h
theorem move_c1 (hn:nN n) (hs:Rng n s) {i:Nat} (hi:i < n.Parts.length) (x:Int):mM (i:Int) x s=some (s.set i x):=by
 have hl:=hs.1
 have:=hn.len
 unfold mM cZ
 rw [cQ (by simp [jA];omega),aA,List.nil_append,aA,bR (by rw [hl];exact hi),aA,aBd _ (by rw [hl];exact hi),aA]
theorem lab_of (hn:nN n) {i:Nat} (hi:i < n.Parts.length) {e:Edge} (he:e∈rG n s i):ix (eX n i).L e.B=some (sQ (eX n i) e):=by
 obtain ⟨_,_,_,_,h1,h2⟩:=aHX hn hi he
 have e0:e.B=((e.B.toNat:Nat):Int):=by omega
 have:=bR h2
 rw [←e0] at this
 rw [this]
 unfold sQ
 rw [List.getD_eq_getElem?_getD,List.getElem?_eq_getElem h2];rfl
theorem aBx {α:Type} {xs:List α} {k:Nat} {x:α} (h:ix xs (k:Int)=some x):x∈xs:=by
 rw [sT] at h;exact List.mem_of_getElem? h
theorem lv3s (hn:nN n) (hs:Rng n s) {i k:Nat} (hi:i < n.Parts.length) (hk:k < n.Parts.length) {e f:Edge} (he:e∈rG n s i) (hf:f∈rG n s k) (idx:Nat) {b b':Nat} {a:List (List Int) × List fX} (hI:Gd n b b' a) (h1:b<=950000) (h2:b'<=950000) {j:Nat} (hj:j < (rG n s k).length) (hx:ix (rG n s k) (j:Int)=some f) (hol:(rG n s k).length<=30):
 jK n s n (idx:Int) (i:Int) e (sQ (eX n i) e) (k:Int) (eX n k) (rG n s k) (j:Int) a.1 (mq 0 (a.1.map kS)) a.2=some (.inl (((j+1:Nat):Int),(fR idx (mv3 n s i k e f) a).1,mq 0 ((fR idx (mv3 n s i k e f) a).1.map kS),(fR idx (mv3 n s i k e f) a).2)):=by
  obtain ⟨_,_,eT,e6,_⟩:=aHX hn hi he
  obtain ⟨_,_,fT,f6,_⟩:=aHX hn hk hf
  have hw:=bK hj (show (rG n s k).length < 4611686018427387904 by omega)
  obtain ⟨r,m1,m2,m3⟩:=meet_at hn.meet e6 f6
  have g1:=hI.l1
  have g2:=hI.l2
  have e3:mv3 n s i k e f=if r.2=true then see n r.1 ((s.set i e.To).set k f.To) else []:=by
   unfold mv3
   rw [m2]
   by_cases hr:r.2=true
   ·rw [if_pos hr,if_pos hr]
   ·rw [if_neg hr,if_neg hr]
  rw [e3]
  generalize hE:(fR (idx:Int))=AT
  unfold jK
  rw [if_pos (bU hj),hx,aA,lab_of hn hk hf,aA,m1,aA]
  have hs1:=hs.set hi eT
  have hp:=put_at hn (show r.1.length<=1000 by omega) (hs1.set hk fT) hI.rng (by omega) (by omega) idx
  rw [hE] at hp
  by_cases hr:r.2=true
  ·rw [if_pos hr,if_pos hr,move_c1 hn hs hi,aA,bR (by rw [hs1.1];exact hk),aA,aBd _ (by rw [hs1.1];exact hk),aA,hp,aA]
   unfold mN
   rw [hw]
  ·rw [if_neg hr,if_neg hr]
   unfold mN
   rw [hw,←hE];rfl
theorem lv3 (hn:nN n) (hs:Rng n s) {i k:Nat} (hik:i < k) (hk:k < n.Parts.length) {e:Edge} (he:e∈rG n s i) (idx:Nat) {b b':Nat} {a:List (List Int) × List fX} (hg:Gd n b b' a) (h1:b<=900000) (h2:b'<=900000):
  loop (fun x:Int × List (List Int) × List (aI × Int) × List fX=>jK n s n (idx:Int) (i:Int) e (sQ (eX n i) e) (k:Int) (eX n k) (rG n s k) x.1 x.2.1 x.2.2.1 x.2.2.2) (0,a.1,mq 0 (a.1.map kS),a.2)=
   some ((fR idx (mv2 n s i e k) a).1,mq 0 ((fR idx (mv2 n s i e k) a).1.map kS),(fR idx (mv2 n s i e k) a).2):=by
 have hi:i < n.Parts.length:=by omega
 have hol:=aIQ (s:=s) hn hk
 refine kH (step:=fun x:Int × List (List Int) × List (aI × Int) × List fX=>jK n s n (idx:Int) (i:Int) e (sQ (eX n i) e) (k:Int) (eX n k) (rG n s k) x.1 x.2.1 x.2.2.1 x.2.2.2) (rG n s k) (fun j (a:List (List Int) × List fX)=>((j:Int),a.1,mq 0 (a.1.map kS),a.2))
  (fun l a=>((fR idx (l.flatMap (mv3 n s i k e)) a).1,mq 0 ((fR idx (l.flatMap (mv3 n s i k e)) a).1.map kS),(fR idx (l.flatMap (mv3 n s i k e)) a).2)) (fun j a=>Gd n (b+j) (b'+j) a) (fun j a f l hj hx hI=>?_) (fun a hI=>?_) hg
 ·left
  have hf:=aBx hx
  exact ⟨fR idx (mv3 n s i k e f) a,lv3s hn hs hi hk he hf idx hI (by omega) (by omega) hj hx hol,hI.add idx (mv3_rng hn hs hi hk he hf) (mv3_len i k e f),by rw [List.flatMap_cons,aFa]⟩
 ·show jK n s n (idx:Int) (i:Int) e (sQ (eX n i) e) (k:Int) (eX n k) (rG n s k) ((rG n s k).length:Int) a.1 (mq 0 (a.1.map kS)) a.2=_
  unfold jK
  rw [if_neg (by simp)];rfl
theorem aLz {k m:Nat} (h:k < m):List.range' k (m - k)=k::List.range' (k+1) (m - (k+1)):=by
 rw [show m - k=(m - (k+1))+1 by omega,List.range'_succ]
theorem lv2 (hn:nN n) (hs:Rng n s) {i:Nat} (hi:i < n.Parts.length) {e:Edge} (he:e∈rG n s i) (idx:Nat) {b b':Nat} {a:List (List Int) × List fX} (hg:Gd n b b' a) (h1:b<=800000) (h2:b'<=800000):
  loop (fun x:Int × List (List Int) × List (aI × Int) × List fX=>iO n s n (idx:Int) (i:Int) e (sQ (eX n i) e) x.1 x.2.1 x.2.2.1 x.2.2.2) (((i+1:Nat):Int),a.1,mq 0 (a.1.map kS),a.2)=
   some ((fR idx ((List.range' (i+1) (n.Parts.length - (i+1))).flatMap (mv2 n s i e)) a).1,mq 0 ((fR idx ((List.range' (i+1) (n.Parts.length - (i+1))).flatMap (mv2 n s i e)) a).1.map kS),(fR idx ((List.range' (i+1) (n.Parts.length - (i+1))).flatMap (mv2 n s i e)) a).2):=by
 have hnl:=hn.len
 refine aAV (step:=fun x:Int × List (List Int) × List (aI × Int) × List fX=>iO n s n (idx:Int) (i:Int) e (sQ (eX n i) e) x.1 x.2.1 x.2.2.1 x.2.2.2) n.Parts.length (fun k (a:List (List Int) × List fX)=>((k:Int),a.1,mq 0 (a.1.map kS),a.2))
  (fun k a=>((fR idx ((List.range' k (n.Parts.length - k)).flatMap (mv2 n s i e)) a).1,mq 0 ((fR idx ((List.range' k (n.Parts.length - k)).flatMap (mv2 n s i e)) a).1.map kS),(fR idx ((List.range' k (n.Parts.length - k)).flatMap (mv2 n s i e)) a).2)) (fun k a=>i < k/\Gd n (b+30 * k) (b'+30 * k) a) (fun k a hk hI=>?_) (fun a hI=>?_) (n.Parts.length - (i+1)) (i+1) a (by omega) ⟨by omega,hg.le (by omega) (by omega)⟩
 ·left
  have hw:=bK hk (show n.Parts.length < 4611686018427387904 by omega)
  have hks:k < s.length:=by rw [hs.1];exact hk
  refine ⟨fR idx (mv2 n s i e k) a,?_,⟨by omega,(hI.2.add idx (mv2_rng hn hs hi hk he) (mv2_len hn hk e)).le (by omega) (by omega)⟩,by rw [aLz hk,List.flatMap_cons,aFa]⟩
  show iO n s n (idx:Int) (i:Int) e (sQ (eX n i) e) (k:Int) a.1 (mq 0 (a.1.map kS)) a.2=_
  unfold iO
  have ho:sF (eX n k) s[k]=some (rG n s k):=by
   have:=(hn.at hk).ed
   rw [out_eq _ _ (by omega)]
   unfold rG
   rw [List.getD_eq_getElem?_getD,List.getElem?_eq_getElem hks];rfl
  rw [if_pos (bU hk),sT,(yN hk).2,aA,bR hks,aA,ho,aA,lv3 hn hs hI.1 hk he idx hI.2 (by omega) (by omega),aA]
  unfold tN tM
  rw [hw]
 ·show iO n s n (idx:Int) (i:Int) e (sQ (eX n i) e) (n.Parts.length:Int) a.1 (mq 0 (a.1.map kS)) a.2=_
  unfold iO
  rw [if_neg (by simp),Nat.sub_self];rfl
theorem lv1s (hn:nN n) (hs:Rng n s) {i:Nat} (hi:i < n.Parts.length) (idx:Nat) {b b':Nat} {a:List (List Int) × List fX} {e:Edge} (he:e∈rG n s i) (hI:Gd n b b' a) (h1:b<=720000) (h2:b'<=720000) {j:Nat} (hj:j < (rG n s i).length) (hx:ix (rG n s i) (j:Int)=some e) (hol:(rG n s i).length<=30):
  iP n s n (idx:Int) (i:Int) (eX n i) (rG n s i) (j:Int) a.1 (mq 0 (a.1.map kS)) a.2=some (.inl (((j+1:Nat):Int),(fR idx (mv1 n s i e) a).1,mq 0 ((fR idx (mv1 n s i e) a).1.map kS),(fR idx (mv1 n s i e) a).2)):=by
 have hnl:=hn.len
 obtain ⟨_,_,eT,e6,_⟩:=aHX hn hi he
 have hw:=bK hj (show (rG n s i).length < 4611686018427387904 by omega)
 have hwi:wr ((i:Int)+1)=((i+1:Nat):Int):=bK hi (by omega)
 have hg1:=hI.add (c:=1) idx (l:=see n (sQ (eX n i) e) (s.set i e.To)) (fun x hx=>by rw [(aIP hx).1];exact hs.set hi eT) (aNO _ _)
 have h6:=t6_len e6
 have i1:=hI.l1
 have i2:=hI.l2
 have hp:=put_at hn (show (sQ (eX n i) e).length<=1000 by omega) (hs.set hi eT) hI.rng (by omega) (by omega) idx
 have hq:=lv2 hn hs hi he idx hg1 (by omega) (by omega)
 unfold mv1
 rw [aFa]
 generalize fR (idx:Int) (see n (sQ (eX n i) e) (s.set i e.To)) a=A at hp hq ⊢
 generalize fR (idx:Int) ((List.range' (i+1) (n.Parts.length - (i+1))).flatMap (mv2 n s i e)) A=A2 at hq ⊢
 unfold iP
 rw [if_pos (bU hj),hx,aA,lab_of hn hi he,aA,move_c1 hn hs hi,aA,hp,aA,hwi]
 simp only
 rw [hq,aA]
 unfold pK tL
 rw [hw]
theorem lv1 (hn:nN n) (hs:Rng n s) {i:Nat} (hi:i < n.Parts.length) (idx:Nat) {b b':Nat} {a:List (List Int) × List fX} (hg:Gd n b b' a) (h1:b<=700000) (h2:b'<=700000):
  loop (fun x:Int × List (List Int) × List (aI × Int) × List fX=>iP n s n (idx:Int) (i:Int) (eX n i) (rG n s i) x.1 x.2.1 x.2.2.1 x.2.2.2) (0,a.1,mq 0 (a.1.map kS),a.2)=
   some ((fR idx (mv0 n s i) a).1,mq 0 ((fR idx (mv0 n s i) a).1.map kS),(fR idx (mv0 n s i) a).2):=by
 have hol:=aIQ (s:=s) hn hi
 have hnl:=hn.len
 refine kH (step:=fun x:Int × List (List Int) × List (aI × Int) × List fX=>iP n s n (idx:Int) (i:Int) (eX n i) (rG n s i) x.1 x.2.1 x.2.2.1 x.2.2.2) (rG n s i) (fun j (a:List (List Int) × List fX)=>((j:Int),a.1,mq 0 (a.1.map kS),a.2))
  (fun l a=>((fR idx (l.flatMap (mv1 n s i)) a).1,mq 0 ((fR idx (l.flatMap (mv1 n s i)) a).1.map kS),(fR idx (l.flatMap (mv1 n s i)) a).2)) (fun j a=>Gd n (b+121 * j) (b'+121 * j) a) (fun j a e l hj hx hI=>?_) (fun a hI=>?_) hg
 ·left
  have he:=aBx hx
  exact ⟨fR idx (mv1 n s i e) a,lv1s hn hs hi idx he hI (by omega) (by omega) hj hx hol,(hI.add idx (mv1_rng hn hs hi he) (mv1_len hn i e)).le (by omega) (by omega),by rw [List.flatMap_cons,aFa]⟩
 ·show iP n s n (idx:Int) (i:Int) (eX n i) (rG n s i) ((rG n s i).length:Int) a.1 (mq 0 (a.1.map kS)) a.2=_
  unfold iP
  rw [if_neg (by simp)];rfl
theorem aOU (hn:nN n) (hs:Rng n s) (idx:Nat) {b b':Nat} {a:List (List Int) × List fX} (hg:Gd n b b' a) (h1:b<=600000) (h2:b'<=600000):
  tZ n s n a.1 (mq 0 (a.1.map kS)) a.2 (idx:Int)=some ((fR idx (mvs n s) a).1,mq 0 ((fR idx (mvs n s) a).1.map kS),(fR idx (mvs n s) a).2):=by
 have hnl:=hn.len
 have:=aAV (step:=fun x:Int × List (List Int) × List (aI × Int) × List fX=>iQ n s n (idx:Int) x.1 x.2.1 x.2.2.1 x.2.2.2) n.Parts.length (fun k (a:List (List Int) × List fX)=>((k:Int),a.1,mq 0 (a.1.map kS),a.2))
  (fun k a=>((fR idx ((List.range' k (n.Parts.length - k)).flatMap (mv0 n s)) a).1,mq 0 ((fR idx ((List.range' k (n.Parts.length - k)).flatMap (mv0 n s)) a).1.map kS),(fR idx ((List.range' k (n.Parts.length - k)).flatMap (mv0 n s)) a).2)) (fun k a=>Gd n (b+3630 * k) (b'+3630 * k) a) (fun k a hk hI=>?_) (fun a hI=>?_) n.Parts.length 0 a (by omega) hg
 ·unfold tZ
  rw [show loop (fun x:Int × List (List Int) × List (aI × Int) × List fX=>iQ n s n (idx:Int) x.1 x.2.1 x.2.2.1 x.2.2.2) (0,a.1,mq 0 (a.1.map kS),a.2)=_ from this,aA]
  rfl
 ·left
  have hw:=bK hk (show n.Parts.length < 4611686018427387904 by omega)
  have hks:k < s.length:=by rw [hs.1];exact hk
  refine ⟨fR idx (mv0 n s k) a,?_,(hI.add idx (mv0_rng hn hs hk) (mv0_len hn hk)).le (by omega) (by omega),by rw [aLz hk,List.flatMap_cons,aFa]⟩
  show iQ n s n (idx:Int) (k:Int) a.1 (mq 0 (a.1.map kS)) a.2=_
  unfold iQ
  have ho:sF (eX n k) s[k]=some (rG n s k):=by
   have:=(hn.at hk).ed
   rw [out_eq _ _ (by omega)]
   unfold rG
   rw [List.getD_eq_getElem?_getD,List.getElem?_eq_getElem hks];rfl
  rw [if_pos (bU hk),sT,(yN hk).2,aA,bR hks,aA,ho,aA,lv1 hn hs hk idx hI (by omega) (by omega),aA]
  unfold tK tJ
  rw [hw]
 ·show iQ n s n (idx:Int) (n.Parts.length:Int) a.1 (mq 0 (a.1.map kS)) a.2=_
  unfold iQ
  rw [if_neg (by simp),Nat.sub_self];rfl
end
end Gv
namespace Gv
open Go
theorem lts_dup {st ini:Int} {labels M:List aI} {arcs:List fX} (hM:pZ M) (hm:∀ s,s∈M<->s∈labels/\s≠bF) (h1:labels.length < 1000000) (h2:arcs.length < 1000000) (h3:M.length < 1000000):
  aJE st ini labels arcs=some ⟨st,ini,bF::M,eC (qD bM (arcs.map fun a=>(⟨a.from_,pos (bF::M) a.label,a.to_⟩:Edge)))⟩:=by
 unfold aJE
 rw [show ([116,97,117]:aI)=bF from rfl,cQ (by simp [jA];omega),aA]
 have e1:aBh ([bF]++labels)=some (qD aAc ([bF]++labels)):=by unfold aBh;rw [if_pos (by simp [jA];omega)]
 rw [e1,aA,aJJ _ (by unfold qD;rw [List.length_mergeSort];simp;omega),aA]
 rw [aMn aAc aJk aKX aGT hM.lab (fun x=>?_)]
 ·rw [aBt (step:=fun s:List Edge × Int=>aBW arcs (bF::M) s.1 s.2) arcs (fun a=>(⟨a.from_,pos (bF::M) a.label,a.to_⟩:Edge)) id (fun k out x hk ho hx=>?_) (fun out=>by simp only [aBW,cO];rfl),aA]
  ·unfold aGt
   have e2:mE (id (arcs.map fun a=>(⟨a.from_,pos (bF::M) a.label,a.to_⟩:Edge)))=some (qD bM (arcs.map fun a=>(⟨a.from_,pos (bF::M) a.label,a.to_⟩:Edge))):=by
    unfold mE;rw [if_pos (by simp [jA];omega)];rfl
   rw [e2,aA,aHA _ (by unfold qD;rw [List.length_mergeSort,List.length_map];omega),aA]
  ·simp only [aBW,bU hk,if_pos,hx,aA,aJi _ _ (show (bF::M).length < 4611686018427387904 by simp;omega),bK hk (show arcs.length < 4611686018427387904 by omega)]
   rw [cQ (by simp [jA];omega),aA]
 ·by_cases e:x=bF
  ·subst e;simp
  ·simp [e,hm x]
def At (F:List (List Int)) (j:Int) (S:List Int):Prop:=0<=j/\F[j.toNat]?=some S
theorem At.pre {F G:List (List Int)} {j:Int} {S:List Int} (h:F <+:G) (ha:At F j S):At G j S:=by
 obtain ⟨r,rfl⟩:=h
 obtain ⟨h1,h2⟩:=ha
 exact ⟨h1,by rw [List.getElem?_append_left (List.getElem?_eq_some_iff.1 h2).1];exact h2⟩
theorem at_ins (F:List (List Int)) (S:List Int):At (uU id F S) (atK id F S) S:=by
 have hm:=insK_mem (key:=id) F S
 rw [atK_pos]
 obtain ⟨j,e,g⟩:=yY hm
 rw [List.map_id] at e g
 rw [List.map_id]
 exact ⟨by omega,by rw [e];exact g⟩
structure Ad (i:Int) (l:List (aI × List Int)) (a r:List (List Int) × List fX):Prop where
 pre:a.1 <+:r.1
 nd:a.1.Nodup->r.1.Nodup
 new:∃ new,r.2=a.2++new/\(∀ c∈new,c.from_=i/\∃ x∈l,c.label=x.1/\At r.1 c.to_ x.2)/\∀ x∈l,∃ c∈new,c.from_=i/\c.label=x.1/\At r.1 c.to_ x.2
theorem aLA (i:Int):∀ (l:List (aI × List Int)) (a:List (List Int) × List fX),Ad i l a (fR i l a)
 |[],a=>⟨List.prefix_refl _,id,[],by simp [fR],by simp,by simp⟩
 |x::l,a=>by
  obtain ⟨p,d,new,e,h1,h2⟩:=aLA i l (addT i a x)
  have e0:fR i (x::l) a=fR i l (addT i a x):=rfl
  rw [e0]
  have hp:a.1 <+:(addT i a x).1:=aLj (key:=id) a.1 x.2
  have hx:At (fR i l (addT i a x)).1 (atK id a.1 x.2) x.2:=At.pre p (at_ins a.1 x.2)
  refine ⟨hp.trans p,fun hn=>d ?_,⟨i,x.1,atK id a.1 x.2⟩::new,?_,fun c hc=>?_,fun y hy=>?_⟩
  ·have:=aPN (key:=id) (F:=a.1) (by rw [List.map_id];exact hn) x.2
   rw [List.map_id] at this;exact this
  ·rw [e];show (a.2++[_])++new=_;rw [List.append_assoc];rfl
  ·rcases List.mem_cons.1 hc with rfl|hc
   ·exact ⟨rfl,x,by simp,rfl,hx⟩
   ·obtain ⟨g1,y,g2,g3⟩:=h1 c hc
    exact ⟨g1,y,List.mem_cons_of_mem _ g2,g3⟩
  ·rcases List.mem_cons.1 hy with rfl|hy
   ·exact ⟨⟨i,y.1,atK id a.1 y.2⟩,List.mem_cons_self,rfl,rfl,hx⟩
   ·obtain ⟨c,g1,g2⟩:=h2 y hy
    exact ⟨c,List.mem_cons_of_mem _ g1,g2⟩
section
variable {n:aX}
structure Inv (n:aX) (f:List Int) (i:Nat) (a:List (List Int) × List fX):Prop where
 rng:∀ S∈a.1,Rng n S
 nd:a.1.Nodup
 fst:a.1[0]?=some f
 l1:a.1.length<=40
 l2:a.2.length<=14520 * i
 snd:∀ c∈a.2,∃ S,At a.1 c.from_ S/\∃ x∈mvs n S,c.label=x.1/\At a.1 c.to_ x.2
 cmp:∀ k S,k < i->a.1[k]?=some S->∀ x∈mvs n S,∃ c∈a.2,c.from_=(k:Int)/\c.label=x.1/\At a.1 c.to_ x.2
theorem Inv.next (hn:nN n) {f:List Int} {i:Nat} {a:List (List Int) × List fX} (h:Inv n f i a) {S:List Int} (hS:a.1[i]?=some S) (hl:(fR i (mvs n S) a).1.length<=40):Inv n f (i+1) (fR i (mvs n S) a):=by
 have hR:=h.rng _ (List.mem_of_getElem? hS)
 obtain ⟨p,d,new,e,h1,h2⟩:=aLA (i:Int) (mvs n S) a
 have up:∀ {k:Nat} {T:List Int},k < a.1.length->(fR i (mvs n S) a).1[k]?=some T->a.1[k]?=some T:=fun {k T} hk g=>by
  obtain ⟨r,hr⟩:=p
  rw [←hr,List.getElem?_append_left hk] at g;exact g
 have hil:=(List.getElem?_eq_some_iff.1 hS).1
 refine ⟨aJu (P:=Rng n) _ _ _ h.rng (mvs_rng hn hR),d h.nd,?_,hl,?_,fun c hc=>?_,fun k T hk hT x hx=>?_⟩
 ·obtain ⟨r,hr⟩:=p
  rw [←hr,List.getElem?_append_left (by omega)];exact h.fst
 ·have:=aJt (i:Int) (mvs n S) a
  have:=mvs_len (s:=S) hn
  have:=h.l2
  omega
 ·rw [e] at hc
  rcases List.mem_append.1 hc with hc|hc
  ·obtain ⟨T,g1,x,g2,g3,g4⟩:=h.snd c hc
   exact ⟨T,g1.pre p,x,g2,g3,g4.pre p⟩
  ·obtain ⟨g1,x,g2,g3,g4⟩:=h1 c hc
   exact ⟨S,At.pre p ⟨by omega,by rw [g1,Int.toNat_natCast];exact hS⟩,x,g2,g3,g4⟩
 ·rw [e]
  have hT':=up (by omega) hT
  by_cases hki:k=i
  ·subst hki
   rw [hS] at hT';cases hT'
   obtain ⟨c,g1,g2⟩:=h2 x hx
   exact ⟨c,List.mem_append_right _ g1,g2⟩
  ·obtain ⟨c,g1,g2,g3,g4⟩:=h.cmp k T (by omega) hT' x hx
   exact ⟨c,List.mem_append_left _ g1,g2,g3,g4.pre p⟩
theorem aMA (hn:nN n) {f:List Int}:∀ (m i:Nat) (a:List (List Int) × List fX),i<=a.1.length->41<=m+i->Inv n f i a->
  ∃ r,loop (fun x:List (List Int) × List (aI × Int) × List fX × Int=>dH n n x.1 x.2.1 x.2.2.1 x.2.2.2) (a.1,mq 0 (a.1.map kS),a.2,(i:Int))=some r/\
   (r=.inr (⟨0,0,[],[]⟩,[],false)\/∃ b,r=.inl (b.1,mq 0 (b.1.map kS),b.2)/\Inv n f b.1.length b)
 |0,i,a,hi,hm,hI=>by have:=hI.l1;omega
 |m+1,i,a,hi,hm,hI=>by
  have hl1:=hI.l1
  have hl2:=hI.l2
  by_cases hlt:i < a.1.length
  ·have hS:=List.getElem?_eq_getElem hlt
   have hR:=hI.rng _ (List.getElem_mem hlt)
   have hw:=bK hlt (show a.1.length < 4611686018427387904 by omega)
   have hmv:=aOU hn hR i (a:=a) (b:=40) (b':=600000) ⟨hI.rng,hl1,by omega⟩ (by omega) (by omega)
   have hnx:=hI.next hn hS
   have hpl:=(aLA (i:Int) (mvs n a.1[i]) a).pre.length_le
   generalize fR (i:Int) (mvs n a.1[i]) a=A at hmv hnx hpl
   have hst:dH n n a.1 (mq 0 (a.1.map kS)) a.2 (i:Int)=if 40 < A.1.length then some (.inr (.inr (⟨0,0,[],[]⟩,[],false))) else some (.inl (A.1,mq 0 (A.1.map kS),A.2,((i+1:Nat):Int))):=by
    unfold dH
    rw [if_pos (bU hlt),bR hlt,aA]
    unfold pU
    rw [hmv,aA,aA,if_neg (by simp)]
    unfold lJ
    by_cases h40:40 < A.1.length
    ·rw [if_pos h40,if_pos (by simp only [decide_eq_true_eq];omega)]
    ·rw [if_neg h40,if_neg (by simp only [decide_eq_true_eq];omega),hw]
   by_cases h40:40 < A.1.length
   ·rw [if_pos h40] at hst
    exact ⟨_,aDM (step:=fun x:List (List Int) × List (aI × Int) × List fX × Int=>dH n n x.1 x.2.1 x.2.2.1 x.2.2.2) (s:=(a.1,mq 0 (a.1.map kS),a.2,(i:Int))) hst,.inl rfl⟩
   ·rw [if_neg h40] at hst
    rw [aEV (step:=fun x:List (List Int) × List (aI × Int) × List fX × Int=>dH n n x.1 x.2.1 x.2.2.1 x.2.2.2) (s:=(a.1,mq 0 (a.1.map kS),a.2,(i:Int))) hst]
    have hnx':=hnx (by omega)
    exact aMA hn m (i+1) A (by omega) (by omega) hnx'
  ·obtain rfl:i=a.1.length:=by omega
   have hst:dH n n a.1 (mq 0 (a.1.map kS)) a.2 (a.1.length:Int)=some (.inr (.inl (a.1,mq 0 (a.1.map kS),a.2))):=by
    unfold dH
    rw [if_neg (by simp)]
   exact ⟨_,aDM (step:=fun x:List (List Int) × List (aI × Int) × List fX × Int=>dH n n x.1 x.2.1 x.2.2.1 x.2.2.2) (s:=(a.1,mq 0 (a.1.map kS),a.2,(a.1.length:Int))) hst,.inr ⟨a,rfl,hI⟩⟩
end
end Gv
namespace Gv
open Go
section
variable {n:aX}
structure aDP (n:aX) (f:List Int) (t:bB) (F:List (List Int)):Prop where
 ok:bW t
 fits:vG 999999999 t
 st:t.N=(F.length:Int)
 nd:F.Nodup
 rng:∀ S∈F,Rng n S
 ini:At F t.I f
 snd:∀ e∈t.E,∃ S T,At F e.F S/\At F e.To T/\(sQ t e,T)∈mvs n S
 cmp:∀ k S,At F k S->∀ x∈mvs n S,∃ e∈t.E,e.F=k/\sQ t e=x.1/\At F e.To x.2
theorem sh_len {c l:aI} (h:shN n c=some l):l.length<=1000:=by
 unfold shN at h
 split at h
 ·cases h;decide
 ·split at h
  ·rename_i h1
   split at h
   ·split at h
    ·cases h;decide
    ·cases h;exact h1.1
   ·cases h
  ·cases h
theorem mvs_lab {s:List Int} {x:aI × List Int} (hx:x∈mvs n s):x.1.length<=1000:=by
 obtain ⟨i,_,hx⟩:=List.mem_flatMap.1 hx
 obtain ⟨e,_,hx⟩:=List.mem_flatMap.1 hx
 rcases List.mem_append.1 hx with hx|hx
 ·exact sh_len (aIP hx).2
 ·obtain ⟨k,_,hx⟩:=List.mem_flatMap.1 hx
  obtain ⟨f,_,hx⟩:=List.mem_flatMap.1 hx
  unfold mv3 at hx
  split at hx
  ·exact sh_len (aIP hx).2
  ·cases hx
theorem tau_or {M:List aI} {labels:List aI} (hm:∀ s,s∈M<->s∈labels/\s≠bF) {l:aI} (h:l∈labels):l∈bF::M:=by
 by_cases e:l=bF
 ·rw [e];exact List.mem_cons_self
 ·exact List.mem_cons_of_mem _ ((hm l).2 ⟨h,e⟩)
theorem lab_pos {M:List aI} {t:bB} (ht:t.L=bF::M) {l:aI} (hl:l∈bF::M) (x y:Int):sQ t ⟨x,pos (bF::M) l,y⟩=l:=by
 obtain ⟨i,e1,g1⟩:=yY hl
 unfold sQ
 show t.L.getD (pos (bF::M) l).toNat []=l
 rw [ht,e1,Int.toNat_natCast,List.getD_eq_getElem?_getD,g1];rfl
theorem found_lts {f:List Int} {b:List (List Int) × List fX} (hI:Inv n f b.1.length b):
  ∃ t v,lI b.1 (mq 0 (b.1.map kS)) b.2=some (t,b.1,v)/\(v=true->aDP n f t b.1):=by
 have h1:=hI.l1
 have h2:=hI.l2
 have hlab:(b.2.map (·.label)).length=b.2.length:=List.length_map ..
 obtain ⟨M,_,hM,hm,hMl⟩:=aIN (b.2.map (·.label)) (by omega)
 have hE:=lts_dup (st:=(b.1.length:Int)) (ini:=0) (arcs:=b.2) hM hm (by omega) (by omega) (by omega)
 generalize ht:(⟨(b.1.length:Int),0,bF::M,eC (qD bM (b.2.map fun a=>(⟨a.from_,pos (bF::M) a.label,a.to_⟩:Edge)))⟩:bB)=t at hE
 have hl2:∀ l∈b.2.map (·.label),l.length<=1000:=fun l hl=>by
  obtain ⟨c,hc,rfl⟩:=List.mem_map.1 hl
  obtain ⟨S,_,x,g1,g2,_⟩:=hI.snd c hc
  rw [g2];exact mvs_lab g1
 have hfit:vG 999999999 t:=by
  subst ht
  refine ⟨by simp only [List.length_cons];omega,fun s hs=>?_,?_⟩
  ·rcases List.mem_cons.1 hs with rfl|hs
   ·decide
   ·have:=hl2 s ((hm s).1 hs).1;omega
  ·have:=aDO (b.2.map fun a=>(⟨a.from_,pos (bF::M) a.label,a.to_⟩:Edge))
   rw [List.length_map] at this
   show (eC _).length<=_
   omega
 have hL:t.L=bF::M:=by subst ht;rfl
 have hed:∀ e,e∈t.E<->∃ c∈b.2,(⟨c.from_,pos (bF::M) c.label,c.to_⟩:Edge)=e:=fun e=>by
  subst ht
  show e∈eC _<->_
  rw [aAY,List.mem_map]
 refine ⟨t,cl (bW t),?_,fun hv=>?_⟩
 ·unfold lI
  rw [aOz (by omega),aA,hE,aA]
  unfold oH
  rw [show (⟨t.N,t.I,t.L,t.E⟩:bB)=t from rfl,aEl t hfit,aA]
 ·have hok:bW t:=aGG.1 hv
  refine ⟨hok,hfit,by subst ht;rfl,hI.nd,hI.rng,by subst ht;exact ⟨by show (0:Int)<=0;omega,hI.fst⟩,fun e he=>?_,fun k S hk x hx=>?_⟩
  ·obtain ⟨c,hc,rfl⟩:=(hed e).1 he
   obtain ⟨S,g1,x,g2,g3,g4⟩:=hI.snd c hc
   refine ⟨S,x.2,g1,g4,?_⟩
   rw [lab_pos hL (tau_or hm (List.mem_map_of_mem hc)),g3]
   exact g2
  ·obtain ⟨c,g1,g2,g3,g4⟩:=hI.cmp k.toNat S (List.getElem?_eq_some_iff.1 hk.2).1 hk.2 x hx
   refine ⟨⟨c.from_,pos (bF::M) c.label,c.to_⟩,(hed _).2 ⟨c,g1,rfl⟩,?_,?_,g4⟩
   ·show c.from_=k
    rw [g2];have:=hk.1;omega
   ·rw [lab_pos hL (tau_or hm (List.mem_map_of_mem g1)),g3]
theorem expl_at (hn:nN n) {f:List Int} (hf:Rng n f):∃ t F v,oB f n n=some (t,F,v)/\(v=true->aDP n f t F):=by
 have hf0:=aLy hn (F:=[]) (by simp) hf (by simp) []
 have e0:uU id ([]:List (List Int)) f=[f]:=rfl
 rw [e0] at hf0
 obtain ⟨r,h1,h2⟩:=aMA hn (f:=f) 41 0 ([f],[]) (by simp) (by omega) ⟨fun S hS=>by simp at hS;rw [hS];exact hf,by simp,rfl,by simp,by simp,by simp,fun k S hk=>by omega⟩
 unfold oB
 rw [show eU [] ([]:List (aI × Int)) [] f=_ from hf0,aA]
 simp only
 rw [show loop (fun x:List (List Int) × List (aI × Int) × List fX × Int=>dH n n x.1 x.2.1 x.2.2.1 x.2.2.2) ([f],mq 0 ([f].map kS),[],0)=_ from h1,aA]
 rcases h2 with rfl|⟨b,rfl,hI⟩
 ·exact ⟨_,_,false,rfl,by simp⟩
 ·obtain ⟨t,v,e1,e2⟩:=found_lts hI
  exact ⟨t,b.1,v,e1,e2⟩
theorem part_gen {t:bB} (hv:bW t) {S:List Int} (hS:S.length < 1000000000):vY t S=some ⟨(S.length:Int),pos S t.I,t.L,qD bM (aCh t S)⟩:=by
 have h300:=hv.2.2.2.1
 have h12:=hv.2.2.1.2.1
 unfold vY
 rw [aFx _ _ (by omega),aA,aJn _ (by unfold jA;omega),aA]
 unfold yG
 have:=kH (step:=fun s:List Edge × Int=>lB t S s.1 s.2) t.E (fun k (a:List Edge)=>(a,(k:Int)))
  (fun l a=>a++l.filterMap fun e=>if 0<=pos S e.F/\0<=pos S e.To then some (⟨pos S e.F,e.B,pos S e.To⟩:Edge) else none) (fun k a=>a.length<=k) (fun k out x l hk' hx hI=>?_) (fun out hI=>by simp only [lB,cO];simp) (a:=[]) (by simp)
 ·have this':loop (fun s:List Edge × Int=>lB t S s.1 s.2) ([],0)=some (aCh t S):=this
  rw [this',aA]
  unfold yF mE
  have hl:=aDb t S
  rw [if_pos (by unfold jA;omega),aA]
 ·left
  have hI':out.length<=k:=hI
  have hw:=bK hk' (show t.E.length < 4611686018427387904 by omega)
  simp only [lB,bU hk',if_pos,hx,aA,aFx _ S (show S.length < 4611686018427387904 by omega)]
  rw [List.filterMap_cons]
  by_cases h1:0<=pos S x.F
  ·rw [if_pos (decide_eq_true h1)]
   by_cases h2:0<=pos S x.To
   ·rw [if_pos ⟨h1,h2⟩]
    simp only [mT,lA,decide_eq_true h2,if_pos]
    rw [cQ (show out.length+1<=jA by unfold jA;omega),aA,hw]
    exact ⟨_,rfl,by simp;omega,by simp⟩
   ·rw [if_neg (fun h=>h2 h.2)]
    simp only [mT,lA,decide_eq_false h2,hw]
    exact ⟨out,by simp,by omega,rfl⟩
  ·rw [if_neg (by simpa using h1),if_neg (fun h=>h1 h.1)]
   simp only [mT,lA,hw]
   exact ⟨out,by simp,by omega,rfl⟩
end
end Gv
namespace Gv
open Option.some renaming inj→zI
open Go
theorem posN_at {O:List Int} (hn:O.Nodup) {i:Nat} {x:Int} (h:O[i]?=some x):pos O x=(i:Int):=by
 obtain ⟨j,e,g⟩:=yY (List.mem_of_getElem? h)
 obtain ⟨hi,h'⟩:=List.getElem?_eq_some_iff.1 h
 obtain ⟨hj,g'⟩:=List.getElem?_eq_some_iff.1 g
 rw [e,(List.getElem_inj hn).1 (g'.trans h'.symm)]
theorem upTo_net {m:Nat} (h:m<=1000000):aGs (m:Int)=some ((List.range m).map Int.ofNat):=by
 unfold aGs
 have:=aBt (step:=fun s:List Int × Int=>aBp (m:Int) s.1 s.2) (List.range m) Int.ofNat id (fun k out x hk ho hx=>by
  rw [List.length_range] at hk
  have:x=k:=by
   rw [sT,List.getElem?_range hk] at hx;exact (zI hx).symm
  subst this
  simp only [aBp,bU hk,if_pos,bK hk (show m < 4611686018427387904 by omega)]
  rw [cQ (by simp [jA];omega),aA];rfl) (fun out=>by
  rw [List.length_range]
  simp only [aBp,cO];rfl)
 rw [this,aA];rfl
section
variable {n:aX} {f:List Int} {t:bB} {F:List (List Int)}
def idN (m:Nat):List Int:=(List.range m).map Int.ofNat
def uE (F:List (List Int)):List Int:=qD (aKG F) (idN F.length)
def aJP (F:List (List Int)):List (List Int):=(uE F).map fun k=>F.getD k.toNat []
def renL (F:List (List Int)) (t:bB):bB:=⟨((uE F).length:Int),pos (uE F) t.I,t.L,qD bM (aCh t (uE F))⟩
theorem idN_mem {m:Nat} {k:Int}:k∈idN m<->0<=k/\k < m:=by
 unfold idN
 rw [List.mem_map]
 constructor
 ·rintro ⟨a,ha,rfl⟩
  rw [List.mem_range] at ha
  exact ⟨Int.natCast_nonneg a,by show (a:Int) < m;omega⟩
 ·rintro ⟨h1,h2⟩
  exact ⟨k.toNat,by rw [List.mem_range];omega,by show ((k.toNat:Nat):Int)=k;omega⟩
theorem aIR (F:List (List Int)):(uE F).Perm (idN F.length):=List.mergeSort_perm _ _
theorem aNP (F:List (List Int)):(uE F).length=F.length:=by rw [(aIR F).length_eq];unfold idN;rw [List.length_map,List.length_range]
theorem aEm {F:List (List Int)} {k:Int}:k∈uE F<->0<=k/\k < F.length:=(aIR F).mem_iff.trans idN_mem
theorem idN_nodup (m:Nat):(idN m).Nodup:=by
 unfold idN
 exact List.Pairwise.map Int.ofNat (fun a b h e=>h (Int.ofNat.inj e)) List.nodup_range
theorem ord_nodup (F:List (List Int)):(uE F).Nodup:=(aIR F).nodup_iff.2 (idN_nodup _)
theorem idN_rows (F:List (List Int)):(idN F.length).map (fun k=>F.getD k.toNat [])=F:=by
 apply List.ext_getElem?
 intro i
 unfold idN
 rw [List.map_map,List.getElem?_map]
 by_cases h:i < F.length
 ·rw [List.getElem?_range h]
  show some (F.getD i [])=_
  rw [List.getD_eq_getElem?_getD,List.getElem?_eq_getElem h];rfl
 ·rw [List.getElem?_eq_none (by rw [List.length_range];omega),List.getElem?_eq_none (by omega)];rfl
theorem aJv (F:List (List Int)):(aJP F).Perm F:=by
 have:=(aIR F).map (fun k=>F.getD k.toNat [])
 rw [idN_rows] at this;exact this
theorem aKp {k:Int} {S:List Int} (h:At F k S):At (aJP F) (pos (uE F) k) S:=by
 obtain ⟨h1,h2⟩:=h
 have hlt:=(List.getElem?_eq_some_iff.1 h2).1
 obtain ⟨j,e,g⟩:=yY (aEm (F:=F) (k:=k) |>.2 ⟨h1,by omega⟩)
 refine ⟨by omega,?_⟩
 rw [e,Int.toNat_natCast]
 unfold aJP
 rw [List.getElem?_map,g]
 show some (F.getD k.toNat [])=some S
 rw [List.getD_eq_getElem?_getD,h2];rfl
theorem rows_at {j:Int} {S:List Int} (h:At (aJP F) j S):∃ k,At F k S/\pos (uE F) k=j:=by
 obtain ⟨h1,h2⟩:=h
 unfold aJP at h2
 rw [List.getElem?_map] at h2
 cases hk:(uE F)[j.toNat]? with
 |none=>rw [hk] at h2;cases h2
 |some k=>
  rw [hk] at h2
  have hm:=aEm.1 (List.mem_of_getElem? hk)
  refine ⟨k,⟨hm.1,?_⟩,by rw [posN_at (ord_nodup F) hk];omega⟩
  have h3:F.getD k.toNat []=S:=zI h2
  rw [List.getD_eq_getElem?_getD,List.getElem?_eq_getElem (by omega)] at h3
  rw [List.getElem?_eq_getElem (by omega)]
  exact congrArg some h3
theorem aCT {k:Int} (h:0<=k/\k < F.length):0<=pos (uE F) k/\pos (uE F) k < F.length:=by
 have:=aKj (aEm.2 h)
 rw [aNP] at this;exact this
theorem aNQ (h:aDP n f t F) {e:Edge}:e∈(renL F t).E<->∃ d∈t.E,(⟨pos (uE F) d.F,d.B,pos (uE F) d.To⟩:Edge)=e:=by
 show e∈qD bM (aCh t (uE F))<->_
 unfold qD aCh
 rw [List.mem_mergeSort,List.mem_filterMap]
 have hp:∀ d∈t.E,0<=pos (uE F) d.F/\0<=pos (uE F) d.To:=fun d hd=>by
  obtain ⟨S,T,⟨a1,a2⟩,⟨b1,b2⟩,_⟩:=h.snd d hd
  have:=(List.getElem?_eq_some_iff.1 a2).1
  have:=(List.getElem?_eq_some_iff.1 b2).1
  exact ⟨(aCT ⟨a1,by omega⟩).1,(aCT ⟨b1,by omega⟩).1⟩
 constructor
 ·rintro ⟨d,hd,he⟩
  rw [if_pos (hp d hd)] at he
  exact ⟨d,hd,zI he⟩
 ·rintro ⟨d,hd,he⟩
  exact ⟨d,hd,by rw [if_pos (hp d hd),he]⟩
theorem aOV {t:bB} (hv:bW t):t.E.Nodup:=(aGH hv).imp fun {a b} h e=>by subst e;rw [wM] at h;cases h
theorem ren_ok (h:aDP n f t F):aDP n f (renL F t) (aJP F):=by
 have hok:=h.ok
 have hst:=h.st
 have hF:=aNP F
 have hin:∀ d∈t.E,(0<=d.F/\d.F < F.length)/\(0<=d.To/\d.To < F.length):=fun d hd=>by
  obtain ⟨S,T,⟨a1,a2⟩,⟨b1,b2⟩,_⟩:=h.snd d hd
  have:=(List.getElem?_eq_some_iff.1 a2).1
  have:=(List.getElem?_eq_some_iff.1 b2).1
  exact ⟨⟨a1,by omega⟩,b1,by omega⟩
 have hkn:(aCh t (uE F)).Nodup:=by
  unfold aCh
  refine List.Pairwise.filterMap _ (R:=fun a b=>a∈t.E/\b∈t.E/\a≠b) (fun a b hab x hx y hy hxy=>?_) ?_
  ·obtain ⟨ha,hb,hne⟩:=hab
   obtain ⟨a1,a2⟩:=hin a ha
   obtain ⟨b1,b2⟩:=hin b hb
   have pa:=aCT a1;have pa2:=aCT a2;have pb:=aCT b1;have pb2:=aCT b2
   rw [if_pos ⟨pa.1,pa2.1⟩] at hx
   rw [if_pos ⟨pb.1,pb2.1⟩] at hy
   have e:=(zI hx).trans (hxy.trans (zI hy).symm)
   simp only [Edge.mk.injEq] at e
   exact hne (aKi (aLq (aEm.2 a1) (aEm.2 b1) e.1) e.2.1 (aLq (aEm.2 a2) (aEm.2 b2) e.2.2))
  ·have hn:=aOV hok
   exact List.Pairwise.imp_of_mem (fun ha hb hab=>⟨ha,hb,hab⟩) hn
 have hSE:SE (renL F t).E:=aFw bM wM wN aCg hkn
 have hlen:(renL F t).E.length<=t.E.length:=by
  show (qD bM _).length<=_
  unfold qD
  rw [List.length_mergeSort];exact aDb t _
 have h1:=hok.1
 have hi:=hok.2.1
 have hpi:=aCT (F:=F) (k:=t.I) ⟨by omega,by omega⟩
 have h300:=hok.2.2.2.1
 refine ⟨⟨?_,?_,hok.2.2.1,aGI (by omega) hSE fun e he=>?_⟩,⟨h.fits.1,h.fits.2.1,by have:=h.fits.2.2;omega⟩,?_,?_,fun S hS=>h.rng S ((aJv F).mem_iff.1 hS),aKp h.ini,fun e he=>?_,fun k S hk x hx=>?_⟩
 ·show 1<=((uE F).length:Int)/\((uE F).length:Int)<=40
  omega
 ·show 0<=pos (uE F) t.I/\pos (uE F) t.I<=((uE F).length:Int) - 1
  omega
 ·obtain ⟨d,hd,rfl⟩:=(aNQ h).1 he
  obtain ⟨d1,d2⟩:=hin d hd
  have p1:=aCT d1
  have p2:=aCT d2
  obtain ⟨_,_,q⟩:=yX hok hd
  exact ⟨⟨p1.1,by show pos (uE F) d.F<=((uE F).length:Int) - 1;omega⟩,⟨p2.1,by show pos (uE F) d.To<=((uE F).length:Int) - 1;omega⟩,q⟩
 ·show ((uE F).length:Int)=((aJP F).length:Int)
  rw [(aJv F).length_eq,hF]
 ·exact (aJv F).nodup_iff.2 h.nd
 ·obtain ⟨d,hd,rfl⟩:=(aNQ h).1 he
  obtain ⟨S,T,g1,g2,g3⟩:=h.snd d hd
  exact ⟨S,T,aKp g1,aKp g2,g3⟩
 ·obtain ⟨k0,a1,a2⟩:=rows_at hk
  obtain ⟨d,hd,d1,d2,d3⟩:=h.cmp k0 S a1 x hx
  refine ⟨⟨pos (uE F) d.F,d.B,pos (uE F) d.To⟩,(aNQ h).2 ⟨d,hd,rfl⟩,?_,d2,aKp d3⟩
  show pos (uE F) d.F=k
  rw [d1,a2]
theorem firsts_eq (hn:nN n):loop (fun s:List Int × Int=>mA n s.1 s.2) ([],0)=some (n.Parts.map (·.I)):=by
 have:=hn.len
 have:=aBt (step:=fun s:List Int × Int=>mA n s.1 s.2) n.Parts (·.I) id (fun k out x hk ho hx=>by
  simp only [mA,bU hk,if_pos,hx,aA,bK hk (show n.Parts.length < 4611686018427387904 by omega)]
  rw [cQ (by simp [jA];omega),aA]) (fun out=>by simp only [mA,cO];rfl)
 exact this
theorem first_rng (hn:nN n):Rng n (n.Parts.map (·.I)):=by
 refine ⟨List.length_map ..,fun i hi=>?_⟩
 have h:=(hn.at hi).ok.2.1
 rw [List.getD_eq_getElem?_getD,List.getElem?_map,(yN hi).2]
 show inT (eX n i) (eX n i).I
 unfold inT;omega
theorem aOW (hn:nN n):∃ t F v,pL n n=some (t,F,v)/\(v=true->aDP n (n.Parts.map (·.I)) t F):=by
 obtain ⟨t,F,v,e1,e2⟩:=expl_at hn (first_rng hn)
 unfold pL
 rw [firsts_eq hn,aA]
 unfold pW
 rw [e1,aA]
 cases v with
 |false=>exact ⟨⟨0,0,[],[]⟩,[],false,by simp only [Bool.not_false,if_true],by simp⟩
 |true=>
  have h:=e2 rfl
  have hst:=h.st
  have h1:=h.ok.1
  rw [if_neg (by simp),show t.N=((F.length:Nat):Int) from hst,upTo_net (by omega),aA]
  have hs:aCV (idN F.length) F=some (uE F):=by
   unfold aCV
   rw [if_pos ⟨by unfold idN jA;rw [List.length_map,List.length_range];omega,by omega,h.nd,fun r hr=>by have:=(h.rng r hr).1;have:=hn.len;unfold jA;omega,fun x hx=>idN_mem.1 hx⟩];rfl
  rw [show aCV ((List.range F.length).map Int.ofNat) F=some (uE F) from hs,aA]
  have hl:=aNP F
  have:=aBt (step:=fun s:List (List Int) × Int=>kG (t,F,true) (uE F) s.1 s.2) (uE F) (fun k=>F.getD k.toNat []) id (fun k out x hk ho hx=>by
   have hm:=aEm.1 (aBx hx)
   have hxe:x=((x.toNat:Nat):Int):=by omega
   have hix:ix F x=some (F.getD x.toNat []):=by
    have:=bR (xs:=F) (k:=x.toNat) (by omega)
    rw [←hxe] at this
    rw [this,List.getD_eq_getElem?_getD,List.getElem?_eq_getElem (by omega)];rfl
   simp only [kG,bU hk,if_pos,hx,aA,hix,bK hk (show (uE F).length < 4611686018427387904 by omega)]
   rw [cQ (by simp [jA];omega),aA]) (fun out=>by simp only [kG,cO];rfl)
  rw [show loop (fun s:List (List Int) × Int=>kG (t,F,true) (uE F) s.1 s.2) ([],0)=_ from this,aA]
  unfold pV
  rw [part_gen h.ok (by omega),aA]
  exact ⟨renL F t,aJP F,true,rfl,fun _=>ren_ok h⟩
end
end Gv
namespace Gv
open Go
section
variable {n:aX} {s:List Int}
theorem aKq {c l:aI} {t u:List Int}:(l,u)∈see n c t<->shN n c=some l/\u=t:=by
 unfold see
 split
 ·rename_i l' h
  simp only [List.mem_singleton,Prod.mk.injEq,h,Option.some.injEq]
  constructor
  ·rintro ⟨rfl,rfl⟩;exact ⟨rfl,rfl⟩
  ·rintro ⟨rfl,rfl⟩;exact ⟨rfl,rfl⟩
 ·rename_i h;simp [h]
theorem aGK {i:Nat} {e:Edge}:e∈rG n s i<->e∈(eX n i).E/\e.F=s.getD i 0:=by
 unfold rG
 rw [List.mem_filter,beq_iff_eq]
abbrev MvN (n:aX):List Int->aI->List Int->Prop:=Mv n.Parts.length (fun i=>vI (eX n i)) (shN n) (mtN n.Meetings)
theorem mvs_iff {l:aI} {u:List Int}:(l,u)∈mvs n s<->MvN n s l u:=by
 constructor
 ·intro h
  obtain ⟨i,hi,h⟩:=List.mem_flatMap.1 h
  rw [List.mem_range'_1] at hi
  obtain ⟨e,he,h⟩:=List.mem_flatMap.1 h
  obtain ⟨e1,e2⟩:=aGK.1 he
  rcases List.mem_append.1 h with h|h
  ·obtain ⟨h1,rfl⟩:=aKq.1 h
   exact .one (by omega) ⟨e,e1,e2,rfl,rfl⟩ h1
  ·obtain ⟨k,hk,h⟩:=List.mem_flatMap.1 h
   rw [List.mem_range'_1] at hk
   obtain ⟨f,hf,h⟩:=List.mem_flatMap.1 h
   obtain ⟨f1,f2⟩:=aGK.1 hf
   unfold mv3 at h
   split at h
   ·rename_i c hc
    obtain ⟨h1,rfl⟩:=aKq.1 h
    exact .two (by omega) (by omega) ⟨e,e1,e2,rfl,rfl⟩ ⟨f,f1,f2,rfl,rfl⟩ hc h1
   ·cases h
 ·intro h
  cases h with
  |@one i a _ x hi ha hl=>
   obtain ⟨e,e1,e2,rfl,rfl⟩:=ha
   exact List.mem_flatMap.2 ⟨i,by rw [List.mem_range'_1];omega,List.mem_flatMap.2 ⟨e,aGK.2 ⟨e1,e2⟩,List.mem_append_left _ (aKq.2 ⟨hl,rfl⟩)⟩⟩
  |@two i k a b c _ x y hik hk ha hb hc hl=>
   obtain ⟨e,e1,e2,rfl,rfl⟩:=ha
   obtain ⟨f,f1,f2,rfl,rfl⟩:=hb
   refine List.mem_flatMap.2 ⟨i,by rw [List.mem_range'_1];omega,List.mem_flatMap.2 ⟨e,aGK.2 ⟨e1,e2⟩,List.mem_append_right _ (List.mem_flatMap.2 ⟨k,by rw [List.mem_range'_1];omega,List.mem_flatMap.2 ⟨f,aGK.2 ⟨f1,f2⟩,?_⟩⟩)⟩⟩
   unfold mv3
   rw [hc]
   exact aKq.2 ⟨hl,rfl⟩
end
section
variable {n:Nat} {A B:Nat->Int->aI->Int->Prop} {sh:aI->Option aI} {mte:aI->aI->Option aI} {R:Nat->Int->Int->Prop} {PA PB:List Int->Prop}
def NRP (n:Nat) (R:Nat->Int->Int->Prop) (PA PB:List Int->Prop) (s t:List Int):Prop:=NR n R s t/\PA s/\PB t
theorem tp_P {S T:Type} {B:T->aI->T->Prop} {ok:T->Prop} {PB:T->Prop} (c:∀ s l s',PB s->B s l s'->PB s') {x y:T} (hx:PB x) (h:Tp bF B ok x y):Tp bF B (fun z=>ok z/\PB z) x y/\PB y:=by
 induction h with
 |refl=>exact ⟨.refl,hx⟩
 |step _ hs ho ih=>have:=c _ _ _ ih.2 hs;exact ⟨ih.1.step hs ⟨ho,this⟩,this⟩
theorem tp_imp {T:Type} {B:T->aI->T->Prop} {ok ok':T->Prop} (h:∀ z,ok z->ok' z) {x y:T} (hp:Tp bF B ok x y):Tp bF B ok' x y:=by
 induction hp with
 |refl=>exact .refl
 |step _ hs ho ih=>exact ih.step hs (h _ ho)
theorem net_fwdP (h0:sh bF=some bF) (hm1:∀ b,mte bF b=none) (hm2:∀ b,mte b bF=none) (hF:∀ i,i < n->Fwd bF (A i) (B i) (R i))
  (cA:∀ s l s',PA s->Mv n A sh mte s l s'->PA s') (cB:∀ s l s',PB s->Mv n B sh mte s l s'->PB s'):
  ∀ s t,NRP n R PA PB s t->∀ l s',Mv n A sh mte s l s'->(l=bF/\(∃ i,i < n/\∃ x,A i (s.getD i 0) bF x/\s'=s.set i x)/\NRP n R PA PB s' t)\/∃ t1 t',Tp bF (Mv n B sh mte) (NRP n R PA PB s) t t1/\Mv n B sh mte t1 l t'/\NRP n R PA PB s' t':=by
 intro s t h l s' hs
 have hs':=cA _ _ _ h.2.1 hs
 rcases aOS h0 hm1 hm2 hF s t h.1 l s' hs with ⟨h1,h2,h3⟩|⟨t1,t',h1,h2,h3⟩
 ·exact .inl ⟨h1,h2,h3,hs',h.2.2⟩
 ·obtain ⟨k1,k2⟩:=tp_P (S:=Unit) cB h.2.2 h1
  exact .inr ⟨t1,t',tp_imp (fun z hz=>⟨hz.1,h.2.1,hz.2⟩) k1,h2,h3,hs',cB _ _ _ k2 h2⟩
theorem net_dvqP (h0:sh bF=some bF) (hm1:∀ b,mte bF b=none) (hm2:∀ b,mte b bF=none) (hF:∀ i,i < n->Fwd bF (A i) (B i) (R i)) (hD:∀ i,i < n->Dvf bF (A i) (B i) (R i))
  (cA:∀ s l s',PA s->Mv n A sh mte s l s'->PA s') (cB:∀ s l s',PB s->Mv n B sh mte s l s'->PB s'):Dvq bF (Mv n A sh mte) (Mv n B sh mte) (NRP n R PA PB):=by
 intro CA CB hC s t h hd
 refine Classical.byContradiction fun hn=>aLu (end_step (Z:=fun s s'=>∃ i,i < n/\∃ x,A i (s.getD i 0) bF x/\s'=s.set i x) ?_ hC ?_ (aLt hn) s h) hd
 ·intro x y hx x' hs
  rcases net_fwdP h0 hm1 hm2 hF cA cB x y hx bF x' hs with ⟨_,h2,h3⟩|h
  ·exact .inl ⟨h2,h3⟩
  ·exact .inr h
 ·intro s t h hac hcs
  have hone:∀ i,i < n->Acc (fun x' x=>A i x bF x'/\R i x (t.getD i 0)/\R i x' (t.getD i 0)) (s.getD i 0):=by
   intro i hi
   refine aLt (ok:=fun x=>R i x (t.getD i 0)) fun hdv=>?_
   obtain ⟨X,hx,hX⟩:=hD i hi _ _ (h.1.2.2 i hi) hdv
   refine aLu hac ⟨fun t'=>∃ z,X z/\PB (t.set i z)/\t'=t.set i z,⟨t.getD i 0,hx,by rw [aLv];exact h.2.2,aLv.symm⟩,?_⟩
   rintro t' ⟨z,hz,hp,rfl⟩
   obtain ⟨ho,z',hz',hX'⟩:=hX z hz
   have hm:Mv n B sh mte (t.set i z) bF (t.set i z'):=by
    have:Mv n B sh mte (t.set i z) bF ((t.set i z).set i z'):=.one hi (by rw [sL (by rw [h.1.2.1];exact hi),if_pos rfl];exact hz') h0
    rwa [List.set_set] at this
   exact ⟨(hC _ _ ⟨h.1.setR hi ho,h.2.1,hp⟩).1 hcs,t.set i z',hm,z',hX',cB _ _ _ hp hm,rfl⟩
  have hl:s.length=n:=h.1.1
  refine acc_sub ?_ (aOT s (fun i x' x=>A i x bF x'/\R i x (t.getD i 0)/\R i x' (t.getD i 0)) (by rw [hl];exact hone))
  rintro s2 s1 ⟨⟨i,hi,x,ha,rfl⟩,h1,h2⟩
  have hi1:i < s1.length:=by rw [h1.1.1];exact hi
  refine ⟨i,hi1,x,⟨ha,h1.1.2.2 i hi,?_⟩,rfl⟩
  have:=h2.1.2.2 i hi
  rwa [sL hi1,if_pos rfl] at this
end
theorem At.fun {F:List (List Int)} {k:Int} {S T:List Int} (h:At F k S) (g:At F k T):S=T:=Option.some.inj (h.2.symm.trans g.2)
theorem At.inj {F:List (List Int)} (hn:F.Nodup) {j k:Int} {S:List Int} (h:At F j S) (g:At F k S):j=k:=by
 obtain ⟨h1,h2⟩:=h
 obtain ⟨g1,g2⟩:=g
 obtain ⟨a,a'⟩:=List.getElem?_eq_some_iff.1 h2
 obtain ⟨b,b'⟩:=List.getElem?_eq_some_iff.1 g2
 have:=(List.getElem_inj hn).1 (a'.trans b'.symm)
 omega
theorem At.mem {F:List (List Int)} {k:Int} {S:List Int} (h:At F k S):S∈F:=List.mem_of_getElem? h.2
theorem at_of {F:List (List Int)} {S:List Int} (h:S∈F):∃ k,At F k S:=by
 obtain ⟨i,hi,rfl⟩:=List.getElem_of_mem h
 exact ⟨(i:Int),by omega,by rw [Int.toNat_natCast];exact List.getElem?_eq_getElem hi⟩
section
variable {n:aX} {f:List Int} {t:bB} {F:List (List Int)}
theorem aDP.go (h:aDP n f t F) {k:Int} {S T:List Int} {l:aI} (hk:At F k S) (hm:MvN n S l T):∃ j,At F j T/\vI t k l j:=by
 obtain ⟨e,he,e1,e2,e3⟩:=h.cmp k S hk (l,T) (mvs_iff.2 hm)
 exact ⟨e.To,e3,e,he,e1,e2,rfl⟩
theorem aDP.back (h:aDP n f t F) {k j:Int} {S:List Int} {l:aI} (hk:At F k S) (hs:vI t k l j):∃ T,At F j T/\MvN n S l T:=by
 obtain ⟨e,he,rfl,rfl,rfl⟩:=hs
 obtain ⟨S',T,g1,g2,g3⟩:=h.snd e he
 rw [hk.fun g1]
 exact ⟨T,g2,mvs_iff.1 g3⟩
theorem aDP.cls (h:aDP n f t F):∀ s l s',s∈F->MvN n s l s'->s'∈F:=fun s l s' hs hm=>by
 obtain ⟨k,hk⟩:=at_of hs
 obtain ⟨j,hj,_⟩:=h.go hk hm
 exact hj.mem
theorem aDP.inT (h:aDP n f t F) {k:Int} {S:List Int} (hk:At F k S):Gv.inT t k:=by
 have h1:=h.st
 have h2:=(List.getElem?_eq_some_iff.1 hk.2).1
 have h3:=hk.1
 unfold Gv.inT;omega
end
section
variable {n n':aX} {f f':List Int} {t t':bB} {F F':List (List Int)} {R:Nat->Int->Int->Prop}
def RLn (m:Nat) (R:Nat->Int->Int->Prop) (F F':List (List Int)) (i j:Int):Prop:=∃ S S',At F i S/\At F' j S'/\NR m R S S'
theorem rl_fwd (h:aDP n f t F) (h':aDP n' f' t' F') (hl:n'.Parts.length=n.Parts.length) (hsh:shN n'=shN n) (hmt:mtN n'.Meetings=mtN n.Meetings) (hm:aHW n.Meetings)
  (hF:∀ i,i < n.Parts.length->Fwd bF (vI (eX n i)) (vI (eX n' i)) (R i)):Fwd bF (vI t) (vI t') (RLn n.Parts.length R F F'):=by
 rintro i j ⟨S,S',hS,hS',hr⟩ l i' hs
 obtain ⟨T,hT,hm1⟩:=h.back hS hs
 have e:MvN n'=Mv n.Parts.length (fun i=>vI (eX n' i)) (shN n) (mtN n.Meetings):=by unfold MvN;rw [hl,hsh,hmt]
 rcases net_fwd (sh_tau n) (fun b=>(aNK hm b).1) (fun b=>(aNK hm b).2) hF S S' hr l T hm1 with ⟨h1,h2⟩|⟨T1,T',h1,h2,h3⟩
 ·exact .inl ⟨h1,T,S',hT,hS',h2⟩
 ·have key:∀ {U:List Int},Tp bF (Mv n.Parts.length (fun i=>vI (eX n' i)) (shN n) (mtN n.Meetings)) (NR n.Parts.length R S) S' U->∃ k,At F' k U/\Tp bF (vI t') (RLn n.Parts.length R F F' i) j k:=fun {U} hU=>by
   clear h1 h2 h3
   induction hU with
   |refl=>exact ⟨j,hS',.refl⟩
   |step _ hs ho ih=>
    obtain ⟨k,k1,k2⟩:=ih
    rw [←e] at hs
    obtain ⟨m,m1,m2⟩:=h'.go k1 hs
    exact ⟨m,m1,k2.step m2 ⟨S,_,hS,m1,ho⟩⟩
  obtain ⟨k,k1,k2⟩:=key h1
  rw [←e] at h2
  obtain ⟨m,m1,m2⟩:=h'.go k1 h2
  exact .inr ⟨k,m,k2,m2,T,T',hT,m1,h3⟩
theorem rl_dvq (h:aDP n f t F) (h':aDP n' f' t' F') (hl:n'.Parts.length=n.Parts.length) (hsh:shN n'=shN n) (hmt:mtN n'.Meetings=mtN n.Meetings) (hm:aHW n.Meetings)
  (hF:∀ i,i < n.Parts.length->Fwd bF (vI (eX n i)) (vI (eX n' i)) (R i)) (hD:∀ i,i < n.Parts.length->Dvf bF (vI (eX n i)) (vI (eX n' i)) (R i)):Dvq bF (vI t) (vI t') (RLn n.Parts.length R F F'):=by
 have e:MvN n'=Mv n.Parts.length (fun i=>vI (eX n' i)) (shN n) (mtN n.Meetings):=by unfold MvN;rw [hl,hsh,hmt]
 rintro CA CB hC i j ⟨S,S',hS,hS',hr⟩ ⟨X,hX0,hX⟩
 have hq:=net_dvqP (PA:=fun s=>s∈F) (PB:=fun s=>s∈F') (sh_tau n) (fun b=>(aNK hm b).1) (fun b=>(aNK hm b).2) hF hD (fun s l s'=>h.cls s l s') (fun s l s'=>by rw [←e];exact h'.cls s l s')
  (fun s=>∃ i,At F i s/\CA i) (fun s=>∃ j,At F' j s/\CB j) (fun s s' ⟨g1,g2,g3⟩=>⟨fun ⟨i,a1,a2⟩=>by
   obtain ⟨j,hj⟩:=at_of g3
   exact ⟨j,hj,(hC i j ⟨s,s',a1,hj,g1⟩).1 a2⟩,fun ⟨j,a1,a2⟩=>by
   obtain ⟨i,hi⟩:=at_of g2
   exact ⟨i,hi,(hC i j ⟨s,s',hi,a1,g1⟩).2 a2⟩⟩) S S' ⟨hr,hS.mem,hS'.mem⟩ ⟨fun s=>∃ i,At F i s/\X i,⟨i,hS,hX0⟩,fun s ⟨i,a1,a2⟩=>by
   obtain ⟨c,i',st,x'⟩:=hX i a2
   obtain ⟨T,hT,hm1⟩:=h.back a1 st
   exact ⟨⟨i,a1,c⟩,T,hm1,i',hT,x'⟩⟩
 obtain ⟨Y,hY0,hY⟩:=hq
 refine ⟨fun j=>∃ s,At F' j s/\Y s,⟨S',hS',hY0⟩,?_⟩
 rintro j ⟨s,a1,a2⟩
 obtain ⟨⟨j2,b1,b2⟩,s',hm1,y'⟩:=hY s a2
 rw [←e] at hm1
 obtain ⟨k,k1,k2⟩:=h'.go a1 hm1
 exact ⟨by rw [At.inj h'.nd a1 b1];exact b2,k,k2,s',k1,y'⟩
structure Bbd (a b:bB) (R:Int->Int->Prop):Prop where
 fw:Fwd bF (vI a) (vI b) R
 bw:Fwd bF (vI b) (vI a) (fun y x=>R x y)
 df:Dvf bF (vI a) (vI b) R
 db:Dvf bF (vI b) (vI a) (fun y x=>R x y)
theorem rl_flip {m:Nat} {i j:Int}:RLn m (fun i y x=>R i x y) F' F j i<->RLn m R F F' i j:=by
 constructor
 ·rintro ⟨S,S',a,b,c1,c2,c3⟩;exact ⟨S',S,b,a,c2,c1,c3⟩
 ·rintro ⟨S,S',a,b,c1,c2,c3⟩;exact ⟨S',S,b,a,c2,c1,c3⟩
theorem aQf (h:aDP n f t F) (h':aDP n' f' t' F') (hl:n'.Parts.length=n.Parts.length) (hsh:shN n'=shN n) (hme:n'.Meetings=n.Meetings) (hm:aHW n.Meetings)
  (hB:∀ i,i < n.Parts.length->Bbd (eX n i) (eX n' i) (R i)) (hf:NR n.Parts.length R f f'):lK t t' true=some (true,0):=by
 have hmt:mtN n'.Meetings=mtN n.Meetings:=by rw [hme]
 refine alike_of h.ok h'.ok h.fits h'.fits (R:=RLn n.Parts.length R F F') ⟨fun i j ⟨S,S',a,b,_⟩=>⟨h.inT a,h'.inT b⟩,rl_fwd h h' hl hsh hmt hm (fun i hi=>(hB i hi).fw),?_,rl_dvq h h' hl hsh hmt hm (fun i hi=>(hB i hi).fw) (fun i hi=>(hB i hi).df),?_⟩ ⟨f,f',h.ini,h'.ini,hf⟩
 ·have:=rl_fwd (R:=fun i y x=>R i x y) h' h hl.symm hsh.symm hmt.symm (by rw [hme];exact hm) (fun i hi=>(hB i (by omega)).bw)
  rw [hl] at this
  have e:RLn n.Parts.length (fun i y x=>R i x y) F' F=fun j i=>RLn n.Parts.length R F F' i j:=by funext j i;exact propext rl_flip
  rw [e] at this;exact this
 ·have:=rl_dvq (R:=fun i y x=>R i x y) h' h hl.symm hsh.symm hmt.symm (by rw [hme];exact hm) (fun i hi=>(hB i (by omega)).bw) (fun i hi=>(hB i (by omega)).db)
  rw [hl] at this
  have e:RLn n.Parts.length (fun i y x=>R i x y) F' F=fun j i=>RLn n.Parts.length R F F' i j:=by funext j i;exact propext rl_flip
  rw [e] at this;exact this
end
end Gv
namespace Gv
open Go
theorem bbd_refl (a:bB):Bbd a a (fun x y=>x=y):=by
 have hf:Fwd bF (vI a) (vI a) (fun x y=>x=y):=by
  rintro x _ rfl l x' hs
  exact .inr ⟨x,x',.refl,hs,rfl⟩
 have hb:Fwd bF (vI a) (vI a) (fun y x=>x=y):=by
  rintro x _ rfl l x' hs
  exact .inr ⟨_,x',.refl,hs,rfl⟩
 refine ⟨hf,hb,?_,?_⟩
 ·rintro x _ rfl ⟨X,h0,hX⟩
  exact ⟨X,h0,fun z hz=>⟨(hX z hz).1.symm,(hX z hz).2⟩⟩
 ·rintro x _ rfl ⟨X,h0,hX⟩
  exact ⟨X,h0,fun z hz=>⟨(hX z hz).1.symm,(hX z hz).2⟩⟩
theorem bbd_fun {a b:bB} {g:Int->Int} {P:Int->Prop} (h1:∀ k l k',P k->vI b k l k'->P k'/\vI a (g k) l (g k')) (h2:∀ k l s,P k->vI a (g k) l s->∃ k',vI b k l k'/\g k'=s):Bbd a b (fun s k=>P k/\s=g k):=by
 refine ⟨?_,?_,?_,?_⟩
 ·rintro _ k ⟨hp,rfl⟩ l s' hs
  obtain ⟨k',h3,h4⟩:=h2 k l s' hp hs
  exact .inr ⟨k,k',.refl,h3,(h1 k l k' hp h3).1,h4.symm⟩
 ·rintro k _ ⟨hp,rfl⟩ l k' hs
  obtain ⟨h3,h4⟩:=h1 k l k' hp hs
  exact .inr ⟨g k,g k',.refl,h4,h3,rfl⟩
 ·rintro _ k ⟨hp,rfl⟩ ⟨X,h0,hX⟩
  obtain ⟨_,s',hs,hx⟩:=hX _ h0
  have he:s'=g k:=(hX _ hx).1.2
  subst he
  refine ⟨fun k'=>P k'/\g k=g k',⟨hp,rfl⟩,?_⟩
  rintro k' ⟨hp',he⟩
  rw [he] at hs
  obtain ⟨k2,h3,h4⟩:=h2 k' bF _ hp' hs
  exact ⟨⟨hp',he⟩,k2,h3,(h1 k' bF k2 hp' h3).1,by rw [h4];exact he⟩
 ·rintro k _ ⟨hp,rfl⟩ ⟨X,h0,hX⟩
  obtain ⟨_,k',hs,hx⟩:=hX _ h0
  have he:=(hX _ hx).1
  have:=(h1 k bF k' hp hs).2
  rw [←he.2] at this
  exact ⟨fun s=>s=g k,rfl,by rintro s rfl;exact ⟨⟨hp,rfl⟩,g k,this,rfl⟩⟩
theorem bbd_iso {a r c:bB} {g:Int->Int} {S:Int->Prop} {R:Int->Int->Prop} (h1:∀ x l x',S x->vI a x l x'->S x'/\vI r (g x) l (g x')) (h2:∀ x l y,S x->vI r (g x) l y->∃ x',vI a x l x'/\y=g x'/\S x') (hB:Bbd r c R):
  Bbd a c (fun x y=>S x/\R (g x) y):=by
 refine ⟨?_,?_,?_,?_⟩
 ·rintro x y ⟨hx,hr⟩ l x' hs
  obtain ⟨s1,s2⟩:=h1 x l x' hx hs
  rcases hB.fw _ _ hr l _ s2 with ⟨e1,e2⟩|⟨y1,y',p,q,q2⟩
  ·exact .inl ⟨e1,s1,e2⟩
  ·exact .inr ⟨y1,y',tp_imp (fun z hz=>⟨hx,hz⟩) p,q,s1,q2⟩
 ·rintro y x ⟨hx,hr⟩ l y' hs
  rcases hB.bw _ _ hr l _ hs with ⟨e1,e2⟩|⟨z1,z',p,q,q2⟩
  ·exact .inl ⟨e1,hx,e2⟩
  ·have key:∃ x1,S x1/\z1=g x1/\Tp bF (vI a) (fun x=>S x/\R (g x) y) x x1:=by
    clear q
    induction p with
    |refl=>exact ⟨x,hx,rfl,.refl⟩
    |step _ hs ho ih=>
     obtain ⟨x1,k1,rfl,k3⟩:=ih
     obtain ⟨x2,m1,rfl,m3⟩:=h2 x1 bF _ k1 hs
     exact ⟨x2,m3,rfl,k3.step m1 ⟨m3,ho⟩⟩
   obtain ⟨x1,k1,rfl,k3⟩:=key
   obtain ⟨x2,m1,rfl,m3⟩:=h2 x1 l _ k1 q
   exact .inr ⟨x1,x2,k3,m1,m3,q2⟩
 ·rintro x y ⟨hx,hr⟩ ⟨X,h0,hX⟩
  obtain ⟨Y,g0,gY⟩:=hB.df _ _ hr ⟨fun z=>∃ x,S x/\z=g x/\X x,⟨x,hx,rfl,h0⟩,by
   rintro z ⟨x,sx,rfl,xx⟩
   obtain ⟨ho,x',hs,hx'⟩:=hX x xx
   obtain ⟨s1,s2⟩:=h1 x bF x' sx hs
   exact ⟨ho.2,g x',s2,x',s1,rfl,hx'⟩⟩
  exact ⟨Y,g0,fun z hz=>⟨⟨hx,(gY z hz).1⟩,(gY z hz).2⟩⟩
 ·rintro y x ⟨hx,hr⟩ ⟨X,h0,hX⟩
  obtain ⟨Y,g0,gY⟩:=hB.db _ _ hr ⟨X,h0,fun z hz=>⟨(hX z hz).1.2,(hX z hz).2⟩⟩
  refine ⟨fun x=>S x/\Y (g x),⟨hx,g0⟩,fun x ⟨sx,yx⟩=>?_⟩
  obtain ⟨ho,z',hs,hz'⟩:=gY _ yx
  obtain ⟨x',m1,rfl,m3⟩:=h2 x bF z' sx hs
  exact ⟨⟨sx,ho⟩,x',m1,m3,hz'⟩
def Stab (r:bB) (p:List Int):Prop:=∀ x y,inT r x->inT r y->kW p x y->(Dv r p x<->Dv r p y)/\BrEq r p x y
structure Quo (r:bB) (p:List Int) (c:bB):Prop where
 lab:c.L=r.L
 ed:∀ e,e∈c.E<->(∃ d∈r.E,Nin p d/\e=⟨p.getD d.F.toNat 0,d.B,p.getD d.To.toNat 0⟩)\/∃ k,inT r k/\Dv r p k/\e=⟨p.getD k.toNat 0,0,p.getD k.toNat 0⟩
theorem crs_stab {r:bB} {p:List Int} (hu:yM r) (h:Crs r (brF r true) p):Stab r p:=by
 intro x y hx hy hs
 have:kW (brF r true p) x y:=by rw [h.fix];exact hs
 obtain ⟨_,h2,h3,_⟩:=(aOO hu h.part hx hy).1 this
 exact ⟨h2 rfl,h3⟩
theorem bbd_quo {r c:bB} {p:List Int} (hu:yM r) (hp:Stab r p) (hq:Quo r p c):Bbd r c (fun x y=>inT r x/\y=p.getD x.toNat 0):=by
 have htx:∀ {x y l:Int},sQ c ⟨x,l,y⟩=r.L.getD l.toNat []:=fun {x y l}=>by unfold sQ;rw [hq.lab]
 have hin:∀ {z y1:Int} {x:Int},inT r x->InP r p x z->inT r z:=fun hx hz=>InP.inn hu hx hz
 have h00:sQ c ⟨0,0,0⟩=bF:=by
  rw [htx]
  obtain ⟨M,hM,_⟩:=hu.lab
  rw [hM];rfl
 have tp_of:∀ {x z:Int},inT r x->InP r p x z->Tp bF (vI r) (fun z=>inT r z/\p.getD x.toNat 0=p.getD z.toNat 0) x z:=fun {x z} hx hz=>by
  refine InP.ind (C:=fun z=>Tp bF (vI r) (fun z=>inT r z/\p.getD x.toNat 0=p.getD z.toNat 0) x z) .refl (fun e he h0 hs hi ih=>?_) hz
  exact ih.step ⟨e,he,rfl,(hu.tau he).2 h0,rfl⟩ ⟨(hu.big.inn e he).2.1,(hi.same.trans hs:kW p x e.To)⟩
 refine ⟨?_,?_,?_,?_⟩
 ·rintro x _ ⟨hx,rfl⟩ l x' ⟨e,he,rfl,rfl,rfl⟩
  have hT:=(hu.big.inn e he).2.1
  by_cases hn:e.B=0/\kW p e.F e.To
  ·exact .inl ⟨(hu.tau he).2 hn.1,hT,hn.2⟩
  ·exact .inr ⟨_,p.getD e.To.toNat 0,.refl,⟨⟨p.getD e.F.toNat 0,e.B,p.getD e.To.toNat 0⟩,(hq.ed _).2 (.inl ⟨e,he,hn,rfl⟩),rfl,htx,rfl⟩,hT,rfl⟩
 ·rintro _ x ⟨hx,rfl⟩ l y' ⟨e,he,h1,h2,h3⟩
  rcases (hq.ed e).1 he with ⟨d,hd,hn,rfl⟩|⟨k,hk,_,rfl⟩
  ·simp only at h1 h3
   have hdF:=(hu.big.inn d hd).1
   obtain ⟨f,hf,f1,f2,f3,f4⟩:=(hp d.F x hdF hx h1).2 d hd .refl hn
   refine .inr ⟨f.F,f.To,?_,⟨f,hf,rfl,?_,rfl⟩,(hu.big.inn f hf).2.1,?_⟩
   ·exact tp_imp (fun z hz=>hz) (tp_of hx f1)
   ·rw [←h2,htx,←f3];rfl
   ·rw [←h3];exact f4
  ·simp only at h1 h3
   refine .inl ⟨?_,hx,?_⟩
   ·rw [←h2,htx];rw [htx] at h00;exact h00
   ·rw [←h3];exact h1
 ·rintro x _ ⟨hx,rfl⟩ ⟨X,h0,hX⟩
  have hd:Dv r p x:=(aNI hu hx).2 ⟨X,h0,fun z hz=>⟨⟨(hX z hz).1.1,(hX z hz).1.2⟩,(hX z hz).2⟩⟩
  refine ⟨fun z=>z=p.getD x.toNat 0,rfl,?_⟩
  rintro z rfl
  refine ⟨⟨hx,rfl⟩,_,⟨⟨p.getD x.toNat 0,0,p.getD x.toNat 0⟩,(hq.ed _).2 (.inr ⟨x,hx,hd,rfl⟩),rfl,?_,rfl⟩,rfl⟩
  rw [htx];rw [htx] at h00;exact h00
 ·rintro _ x ⟨hx,rfl⟩ ⟨X,h0,hX⟩
  obtain ⟨_,z',⟨e,he,h1,h2,h3⟩,hz'⟩:=hX _ h0
  have hz2:z'=p.getD x.toNat 0:=(hX _ hz').1.2
  have hd:Dv r p x:=by
   rcases (hq.ed e).1 he with ⟨d,hd,hn,rfl⟩|⟨k,hk,hdv,rfl⟩
   ·exfalso
    simp only at h1 h3
    refine hn ⟨(hu.tau hd).1 ?_,?_⟩
    ·rw [←h2,htx];rfl
    ·show p.getD d.F.toNat 0=p.getD d.To.toNat 0
     rw [h1,h3,hz2]
   ·exact (hp k x hk hx h1).1.1 hdv
  obtain ⟨Y,g0,gY⟩:=(aNI hu hx).1 hd
  exact ⟨Y,g0,fun z hz=>⟨⟨(gY z hz).1.1,(gY z hz).1.2⟩,(gY z hz).2⟩⟩
end Gv
