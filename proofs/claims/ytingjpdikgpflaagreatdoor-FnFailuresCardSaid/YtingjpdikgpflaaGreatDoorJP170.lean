/- Deleting from lists, in general; states that are quiet. -/
import Derived.Test.YtingjpdikgpflaaGreatDoorJP90
set_option linter.all false
namespace Gv
open Go
theorem del_gen {γ:Type} (z:γ) {xs:List γ} {p:γ->Bool} (hl:xs.length < 1000000) {r0:Option Int} (h0:r0=some (match xs.findIdx? p with|none=>-1|some i=>(i:Int)))
  {step:List γ × Int × Int->Option ((List γ × Int × Int) ⊕ (List γ × Int))}
  (hin:∀ (s:List γ) (i j:Nat) (x:γ),(hj:j < s.length)->i < j->s[j]=x->x∈xs->s.length=xs.length->step (s,(i:Int),(j:Int))=some (.inl (if p x=true then (s,(i:Int),((j+1:Nat):Int)) else (s.set i x,((i+1:Nat):Int),((j+1:Nat):Int)))))
  (hout:∀ (s:List γ) (i:Int),step (s,i,(s.length:Int))=some (.inr (s,i))):
  (ob r0 fun r=>if (r == (-1)) then some xs else ob (loop step (xs,r,wr (r+1))) fun q=>ob (yK q.1 q.2 (q.1.length:Int)) fun r35=>ob (ovw q.1 q.2 (List.replicate r35.length z)) fun xs41=>ob (yK xs41 0 q.2) fun r45=>some r45)=some (xs.filter fun x=>!p x):=by
 rw [h0,lJ]
 cases hf:xs.findIdx? p with
 |none=>
  have:xs.filter (fun x=>!p x)=xs:=List.filter_eq_self.2 fun x hx=>by have:=List.findIdx?_eq_none_iff.1 hf x hx;simp [this]
  rw [if_pos (by rfl),this]
 |some i0=>
  obtain ⟨hi0,hpi,hlt⟩:=List.findIdx?_eq_some_iff_getElem.1 hf
  rw [if_neg (by simp)]
  have:=aIQ (step:=step) xs.length (fun j (a:List γ × Nat)=>(a.1,(a.2:Int),(j:Int)))
   (fun j a=>a.1.length=xs.length/\a.2 < j/\a.1.take a.2=(xs.take j).filter (fun x=>!p x)/\a.1.drop j=xs.drop j) (fun r=>∃ i:Nat,r.2=(i:Int)/\r.1.length=xs.length/\i<=xs.length/\r.1.take i=xs.filter fun x=>!p x) (fun j a hj hI=>?_) (fun a hI=>?_) (xs.length - (i0+1)) (i0+1) (xs,i0) (by omega) ⟨rfl,by simp,?_,rfl⟩
  ·obtain ⟨r,hr,i,h1,h2,h3,h4⟩:=this
   have hr':loop step (xs,(i0:Int),((i0+1:Nat):Int))=some r:=hr
   simp only
   rw [aAg (n:=xs.length) hi0 (by omega),hr',lJ]
   have s1:yK r.1 (i:Int) (r.1.length:Int)=some (r.1.drop i):=by
    unfold yK;rw [if_pos ⟨by omega,by omega,by omega⟩]
    rw [Int.toNat_natCast,Int.toNat_natCast,List.take_of_length_le (by simp)]
   rw [h1,s1,lJ]
   have o1:ovw r.1 (i:Int) (List.replicate (r.1.drop i).length z)=some (r.1.take i++List.replicate (r.1.drop i).length z):=by
    unfold ovw
    rw [if_pos ⟨by omega,by simp only [Int.toNat_natCast,List.length_replicate,List.length_drop];omega⟩]
    simp only [Int.toNat_natCast,List.length_replicate,List.length_drop]
    rw [List.drop_of_length_le (by omega),List.append_nil]
   rw [o1,lJ]
   have s2:yK (r.1.take i++List.replicate (r.1.drop i).length z) 0 (i:Int)=some (r.1.take i):=by
    unfold yK;rw [if_pos ⟨by omega,by omega,by simp;omega⟩]
    simp only [Int.toNat_natCast,Int.toNat_zero,List.drop_zero,Nat.sub_zero]
    rw [List.take_append_of_le_length (by simp;omega),List.take_of_length_le (by simp;omega)]
   rw [s2,lJ,h4]
  ·obtain ⟨s,i⟩:=a
   obtain ⟨h1,h2,h3,h4⟩:=hI
   simp only at h1 h2 h3 h4
   have hsj:s[j]'(by omega)=xs[j]:=by
    have a1:=List.drop_eq_getElem_cons (l:=s) (i:=j) (by omega)
    have a2:=List.drop_eq_getElem_cons (l:=xs) (i:=j) hj
    rw [a1,a2] at h4
    exact (List.cons.inj h4).1
   have hd:s.drop (j+1)=xs.drop (j+1):=by
    rw [←List.drop_drop (i:=1) (j:=j),←List.drop_drop (i:=1) (j:=j),h4]
   have ht:(xs.take (j+1)).filter (fun x=>!p x)=(xs.take j).filter (fun x=>!p x)++(if p xs[j]=true then [] else [xs[j]]):=by
    rw [List.take_add_one,List.getElem?_eq_getElem hj,List.filter_append]
    simp only [Option.toList_some]
    cases hq:p xs[j]<;>simp [hq]
   simp only [hin s i j _ (by omega) h2 hsj (List.getElem_mem hj) h1]
   cases hpj:p xs[j] with
   |true=>
    refine ⟨(s,i),rfl,h1,by simp only;omega,?_,hd⟩
    rw [ht,hpj];simpa using h3
   |false=>
    refine ⟨(s.set i xs[j],i+1),rfl,by simpa using h1,by simp only;omega,?_,?_⟩
    ·rw [ht,hpj]
     simp only [Bool.false_eq_true,if_false]
     rw [List.take_add_one,List.getElem?_set_self (by omega),List.take_set_of_le (Nat.le_refl _),h3];rfl
    ·simp only
     rw [List.drop_set_of_lt (by omega)];exact hd
  ·obtain ⟨s,i⟩:=a
   obtain ⟨h1,h2,h3,h4⟩:=hI
   simp only at h1 h2 h3 h4
   refine ⟨(s,(i:Int)),by rw [←h1];exact hout s i,i,rfl,h1,by omega,?_⟩
   rw [List.take_length] at h3;exact h3
  ·rw [List.take_add_one,List.getElem?_eq_getElem hi0,List.filter_append]
   simp only [Option.toList_some]
   rw [List.filter_eq_self.2 (fun x hx=>by
    obtain ⟨j,hj,rfl⟩:=List.getElem_of_mem hx
    rw [List.length_take] at hj
    rw [List.getElem_take]
    have:=hlt j (by omega)
    simpa using this)]
   simp [hpi]
section
variable {t:cI} {I:List aZ}
structure InpOk (I:List aZ):Prop where
 len:I.length < 1000000
 tau:nI∉I
end
end Gv
namespace Gv
open Go
section
variable {t a b:cI}
def aLs (t:cI) (k:Int):Bool:=!(rdy t k).any fun x=>nI == x
def stL (t:cI) (X:List Int):List Int:=X.filter (aLs t)
theorem aPo (hv:nB t) (k:Int):yB t k=some (aLs t k):=by
 have h300:=hv.2.2.2.1
 have hl:=rdy_len (t:=t) k
 unfold yB
 rw [aKF hv k,lJ,aKK _ _ (by omega),lJ];rfl
theorem clone_int {l:List Int} (h:l.length<=2000000):gQ l=some l:=by
 unfold gQ
 rw [aGO (by simp [lim];omega),lJ,List.nil_append]
theorem aLg (hv:nB t) {X:List Int} (hX:X.length<=1000):oJ t X=some (stL t X):=by
 unfold oJ
 rw [clone_int (by omega),lJ]
 have hc:∀ x,pS x t=some (!aLs t x):=fun x=>by
  unfold pS
  rw [aPo hv,lJ]
 have key:=del_gen (0:Int) (xs:=X) (p:=fun k=>!aLs t k) (by omega) (r0:=gL X t) ?_ (step:=fun s:List Int × Int × Int=>jH t s.1 s.2.1 s.2.2) (fun s i j x hj hij hx hm hsl=>?_) (fun s i=>?_)
 ·have e:gW X t=_:=key
  rw [e,lJ]
  unfold stL
  simp only [Bool.not_not]
 ·unfold gL
  rw [aJq (step:=fun s=>iW X t s) X (fun k=>!aLs t k) (fun k x hk hx=>by
   obtain ⟨hk',rfl⟩:=aJi hx
   simp only [iW,aBK hk,if_pos,hx,lJ,hc,aAg hk (show X.length < 4611686018427387904 by omega)]) (by simp only [iW,aGf];rfl),lJ]
  cases X.findIdx? (fun k=>!aLs t k)<;>rfl
 ·have hw:=aAg hj (show s.length < 4611686018427387904 by omega)
  subst hx
  simp only [jH,aBK hj,if_pos,aAM hj,lJ,hc,eK,hw]
  cases aLs t s[j] with
  |false=>rfl
  |true=>
   simp only [Bool.not_true,Bool.not_false,if_pos,Bool.false_eq_true,if_false]
   rw [aAM (by omega),lJ,aJZ _ (by omega),lJ,aAg (show i < s.length by omega) (by omega)]
 ·simp only [jH,aGf];rfl
theorem aJI {X:List Int} {k:Int}:k∈stL t X<->k∈X/\aLs t k=true:=List.mem_filter
theorem aLJ (X:List Int):(stL t X).length<=X.length:=List.length_filter_le _ _
def aKG (A B:List aZ):List aZ:=A.filter fun s=>!B.any fun x=>s == x
theorem aNe {A B:List aZ} {s:aZ}:s∈aKG A B<->s∈A/\s∉B:=by
 unfold aKG
 rw [List.mem_filter,Bool.not_eq_true',List.any_eq_false]
 refine and_congr_right fun _=>⟨fun h hm=>h s hm (beq_self_eq_true s),fun h x hx e=>h (beq_iff_eq.1 e ▸ hx)⟩
theorem aNf {A B:List aZ}:aKG A B=[]<->∀ s∈A,s∈B:=by
 rw [List.eq_nil_iff_forall_not_mem]
 refine forall_congr' fun s=>?_
 rw [aNe]
 exact ⟨fun h hs=>Classical.byContradiction fun hn=>h ⟨hs,hn⟩,fun h ⟨h1,h2⟩=>h2 (h h1)⟩
theorem aMo {A B:List aZ} (hA:A.length<=100000) (hB:B.length<=100000):xM A B=some (aKG A B):=by
 unfold xM aKG
 have hall:∀ s,xD s B=some (B.any fun x=>s == x):=fun s=>by
  unfold xD
  rw [aKK _ _ (by omega),lJ]
 rw [aLW (by omega),lJ]
 have key:=del_gen ([]:aZ) (xs:=A) (p:=fun s=>B.any fun x=>s == x) (by omega) (r0:=gB A B) ?_ (step:=fun s:List aZ × Int × Int=>iX B s.1 s.2.1 s.2.2) (fun s i j x hj hij hx hm hsl=>?_) (fun s i=>?_)
 ·have e:gM A B=_:=key
  rw [e,lJ]
 ·unfold gB
  rw [aJq (step:=fun s=>iL A B s) A (fun s=>B.any fun x=>s == x) (fun k x hk hx=>by
   obtain ⟨hk',rfl⟩:=aJi hx
   simp only [iL,aBK hk,if_pos,hx,lJ,hall,aAg hk (show A.length < 4611686018427387904 by omega)]) (by simp only [iL,aGf];rfl),lJ]
  cases A.findIdx? (fun s=>B.any fun x=>s == x)<;>rfl
 ·have hw:=aAg hj (show s.length < 4611686018427387904 by omega)
  subst hx
  simp only [iX,aBK hj,if_pos,aAM hj,lJ,hall,eD,hw]
  cases (B.any fun x=>s[j] == x) with
  |true=>rfl
  |false=>
   simp only [Bool.not_false,if_pos,Bool.false_eq_true,if_false]
   rw [aAM (by omega),lJ,aJZ _ (by omega),lJ,aAg (show i < s.length by omega) (by omega)]
 ·simp only [iX,aGf];rfl
def aLX (a b:cI) (X:List Int) (k:Int):Bool:=(stL a X).any fun j=>decide ((aKG (rdy a j) (rdy b k)).length=0)
theorem aNg {X:List Int} {k:Int}:aLX a b X k=true<->∃ j∈X,aLs a j=true/\∀ s∈rdy a j,s∈rdy b k:=by
 unfold aLX
 rw [List.any_eq_true]
 constructor
 ·rintro ⟨j,hj,h⟩
  rw [decide_eq_true_eq,List.length_eq_zero_iff,aNf] at h
  exact ⟨j,(aJI.1 hj).1,(aJI.1 hj).2,h⟩
 ·rintro ⟨j,h1,h2,h3⟩
  exact ⟨j,aJI.2 ⟨h1,h2⟩,by rw [decide_eq_true_eq,List.length_eq_zero_iff,aNf];exact h3⟩
theorem aJD (hv:nB t) (k:Int):(rdy t k).length<=300:=Nat.le_trans (rdy_len k) hv.2.2.2.1
theorem cov_eq (ha:nB a) (hb:nB b) {Y:List Int} (hY:Y.length<=1000) (k:Int):fS Y a (rdy b k)=some (Y.any fun j=>decide ((aKG (rdy a j) (rdy b k)).length=0)):=by
 have hk:=aJD hb k
 unfold fS gN
 rw [aJq (step:=fun s=>iY Y a (rdy b k) s) Y (fun j=>decide ((aKG (rdy a j) (rdy b k)).length=0)) (fun i x hi hx=>by
  have hj:=aJD ha x
  simp only [iY,aBK hi,if_pos,hx,lJ,aCr,aKF ha,aMo (show (rdy a x).length<=100000 by omega) (show (rdy b k).length<=100000 by omega),aAg hi (show Y.length < 4611686018427387904 by omega)]
  have e:(((aKG (rdy a x) (rdy b k)).length:Int) == 0)=decide ((aKG (rdy a x) (rdy b k)).length=0):=by
   rw [Bool.eq_iff_iff,beq_iff_eq,decide_eq_true_eq];omega
  rw [e]) (by simp only [iY,aGf];rfl),lJ,←aKA]
 cases Y.findIdx? (fun j=>decide ((aKG (rdy a j) (rdy b k)).length=0)) with
 |none=>rfl
 |some i=>simp
def exc (a b:cI) (X Y:List Int):Int:=match (stL b Y).find? fun k=>!aLX a b X k with|none=>-1|some k=>k
theorem exc_pos {X Y:List Int} (hY:∀ k∈Y,0<=k):0<=exc a b X Y<->∃ k∈Y,aLs b k=true/\aLX a b X k=false:=by
 unfold exc
 cases h:(stL b Y).find? fun k=>!aLX a b X k with
 |none=>
  rw [List.find?_eq_none] at h
  constructor
  ·intro h0;simp at h0
  ·rintro ⟨k,h1,h2,h3⟩
   have:=h k (aJI.2 ⟨h1,h2⟩)
   rw [h3] at this;simp at this
 |some k=>
  have hm:=aJI.1 (List.mem_of_find?_eq_some h)
  have hp:=List.find?_some h
  constructor
  ·intro _
   exact ⟨k,hm.1,hm.2,by simpa using hp⟩
  ·intro _
   exact hY k hm.1
theorem exc_at {X Y:List Int} (h0:0<=exc a b X Y):exc a b X Y∈Y/\aLs b (exc a b X Y)=true/\aLX a b X (exc a b X Y)=false:=by
 unfold exc at h0 ⊢
 cases h:(stL b Y).find? fun k=>!aLX a b X k with
 |none=>rw [h] at h0;simp at h0
 |some k=>
  have hm:=aJI.1 (List.mem_of_find?_eq_some h)
  have hp:=List.find?_some h
  exact ⟨hm.1,hm.2,by simpa using hp⟩
theorem aQl {γ ρ:Type} {step:Int->Option (Int ⊕ (Unit ⊕ ρ))} (xs:List γ) (p:γ->Bool) (g:γ->ρ)
  (h:∀ (k:Nat) x,k < xs.length->ix xs (k:Int)=some x->step (k:Int)=if p x=true then some (.inr (.inr (g x))) else some (.inl ((k+1:Nat):Int)))
  (h':step (xs.length:Int)=some (.inr (.inl ()))):loop step 0=some (match xs.find? p with|none=>.inl ()|some x=>.inr (g x)):=by
 have:=aJr (step:=step) xs.length (fun k (_:Unit)=>(k:Int)) (fun k _=>match (xs.drop k).find? p with|none=>.inl ()|some x=>.inr (g x)) (fun _ _=>True) (fun k a hk _=>?_) (fun a _=>?_) xs.length 0 () (by omega) trivial
 ·simpa using this
 ·rw [List.drop_eq_getElem_cons hk,h k _ hk (aAM hk)]
  by_cases hp:p xs[k]=true
  ·right;simp only [List.find?_cons,hp,if_pos]
  ·left
   refine ⟨(),by rw [if_neg hp],trivial,?_⟩
   rw [Bool.not_eq_true] at hp
   simp only [List.find?_cons,hp]
 ·rw [h'];simp
theorem aNN (ha:nB a) (hb:nB b) {X Y:List Int} (hX:X.length<=1000) (hY:Y.length<=1000):aEX a b X Y=some (exc a b X Y):=by
 unfold aEX
 have hl:=aLJ (t:=b) Y
 have hl2:=aLJ (t:=a) X
 rw [aLg hb hY,lJ,aQl (step:=fun s=>aGa a b X (stL b Y) s) (stL b Y) (fun k=>!aLX a b X k) id (fun k x hk hx=>by
  simp only [aGa,aBK hk,if_pos,hx,lJ,aKF hb,aLg ha hX,cov_eq ha hb (show (stL a X).length<=1000 by omega),aAg hk (show (stL b Y).length < 4611686018427387904 by omega)]
  rfl) (by simp only [aGa,aGf];rfl),lJ]
 unfold exc
 cases (stL b Y).find? (fun k=>!aLX a b X k)<;>rfl
end
end Gv
namespace Gv
open Go
section
variable {a b:cI} {M:List aZ} {fd:Int->Int->Bool}
section
variable {c0 c1:cI} {c3 c4:List (List Int)}
theorem s5R:@aBA=@aBA:=rfl
theorem ft_stepR (ha:aKs a) (hb:aKs b) (hM:M.length<=30) (hfd:∀ p q:Int,(-1<=p/\p < a.N)->(-1<=q/\q < b.N)->vL p q c0 c1 c3 c4=some (fd p q)):Stp a b M fd fun s=>aBB a b c0 c1 c3 c4 M s.1 s.2:=by
 have hc:∀ (l:List (Int × Int)) (e:bR) (r:List bR),aBB a b c0 c1 c3 c4 M (mtt l) (e::r)=mD a b c0 c1 c3 c4 M (mtt l) e r (decide (bN e.a e.b\/(e.a,e.b)∈l)):=by
  intro l e r
  unfold aBB
  rw [if_pos (by simp),show ix (e::r) 0=some e from rfl,lJ,aPf,lJ]
  have hg:(qO (mtt l) (⟨e.a,e.b⟩:Int × Int)).getD false=decide ((e.a,e.b)∈l):=aOX (e.a,e.b) l
  rw [hg]
  by_cases h1:e.a < 0
  ·rw [if_pos (by simpa using h1)]
   by_cases h2:e.b < 0
   ·rw [if_pos (by simpa using h2),decide_eq_true (show bN e.a e.b\/(e.a,e.b)∈l from .inl ⟨h1,h2⟩)]
   ·rw [if_neg (by simpa using h2)]
    congr 1
    exact decide_eq_decide.2 ⟨.inr,fun h=>h.resolve_left fun g=>h2 g.2⟩
  ·rw [if_neg (by simpa using h1)]
   congr 1
   exact decide_eq_decide.2 ⟨.inr,fun h=>h.resolve_left fun g=>h1 g.1⟩
 refine ⟨fun l=>?_,fun l e r hr ht h=>?_,fun l e r hr ht h1 h2 h3 hin=>?_,fun l e r hr ht h1 h2 h3 hin=>?_⟩
 ·show aBB a b c0 c1 c3 c4 M (mtt l) []=_
  unfold aBB
  rw [if_neg (by simp)]
 ·show aBB a b c0 c1 c3 c4 M (mtt l) (e::r)=_
  rw [hc,decide_eq_true h];rfl
 ·show aBB a b c0 c1 c3 c4 M (mtt l) (e::r)=_
  rw [hc,decide_eq_false (fun g=>g.elim h1 h2)]
  unfold mD
  rw [if_neg (by simp),lJ,hfd _ _ hin.1 hin.2,lJ,if_pos h3]
 ·show aBB a b c0 c1 c3 c4 M (mtt l) (e::r)=_
  rw [hc,decide_eq_false (fun g=>g.elim h1 h2)]
  unfold mD
  have hp:aAt (mtt l) (⟨e.a,e.b⟩:Int × Int) true=mtt (l++[(e.a,e.b)]):=aOY h2
  rw [if_neg (by simp),lJ,hfd _ _ hin.1 hin.2,lJ,if_neg (by simpa using h3),s5R,ft_push ha hb hM hr ht,lJ,hp]
  rfl
theorem first_R (ha:aKs a) (hb:aKs b) (ha0:a.I=0) (hb0:b.I=0) (hfd:∀ p q:Int,(-1<=p/\p < a.N)->(-1<=q/\q < b.N)->vL p q c0 c1 c3 c4=some (fd p q)):∃ M r,Jn a b M/\aBb a b c0 c1 c3 c4=some (aMV r)/\FtRes a b M fd r:=by
 obtain ⟨M,hJ,hm⟩:=aMW ha.1 hb.1
 have hlen:=hJ.len
 obtain ⟨r,h1,h2⟩:=aQe (ft_stepR (M:=M) ha hb (by omega) hfd) ha.1 hb.1 (by omega)
 refine ⟨M,r,hJ,?_,h2⟩
 unfold aBb
 have h1':loop (fun s:List ((Int × Int) × Bool) × List bR=>aBB a b c0 c1 c3 c4 M s.1 s.2) (([]:List ((Int × Int) × Bool)),([⟨0,0,[]⟩]:List bR))=some r:=h1
 cases hx:fQ [a.L,b.L] with
 |none=>rw [hx] at hm;cases hm
 |some X=>
  rw [hx,lJ] at hm
  rw [lJ]
  cases hy:aHO 1 0 X [] with
  |none=>rw [hy] at hm;cases hm
  |some Y=>
   rw [hy,lJ] at hm
   rw [lJ,hm,lJ,ha0,hb0,h1',lJ]
   cases r with
   |inl x=>rfl
   |inr x=>rfl
end
noncomputable def fdR (a b:cI) (p q:Int):Bool:=decide (0<=q/\(p < 0\/0<=exc a b ((aHs a).1.getD p.toNat []) ((aHs b).1.getD q.toNat [])))
theorem finD_at (hv:nB a) {p:Int} (h0:0<=p) (h1:p < (aJg a).N):ix (aHs a).1 p=some ((aHs a).1.getD p.toNat [])/\aIx a ((aHs a).1.getD p.toNat []):=by
 have h1:p < ((aHs a).1.length:Int):=h1
 have hl:p.toNat < (aHs a).1.length:=by omega
 have hg:(aHs a).1.getD p.toNat []=(aHs a).1[p.toNat]:=by rw [List.getD_eq_getElem?_getD,List.getElem?_eq_getElem hl];rfl
 rw [hg]
 refine ⟨?_,(aLd hv).2.1 _ (List.getElem_mem hl)⟩
 obtain ⟨n,rfl⟩:∃ n:Nat,p=(n:Int):=⟨p.toNat,by omega⟩
 exact aAM hl
theorem fdR_eq (ha:nB a) (hb:nB b) (p q:Int) (hp:-1<=p/\p < (aJg a).N) (hq:-1<=q/\q < (aJg b).N):vL p q a b (aHs a).1 (aHs b).1=some (fdR a b p q):=by
 unfold vL fdR
 by_cases h1:0<=q
 ·rw [if_pos (by simpa using h1)]
  by_cases h2:p < 0
  ·rw [if_pos (by simpa using h2),decide_eq_true (⟨h1,.inl h2⟩)];rfl
  ·obtain ⟨g1,g2⟩:=finD_at ha (by omega) hp.2
   obtain ⟨g3,g4⟩:=finD_at hb h1 hq.2
   have l1:=g2.len
   have l2:=g4.len
   rw [if_neg (by simpa using h2),g1,lJ,g3,lJ,aNN ha hb (by omega) (by omega),lJ]
   unfold kL
   congr 1
   exact decide_eq_decide.2 ⟨fun h=>⟨h1,.inr h⟩,fun h=>h.2.resolve_left h2⟩
 ·rw [if_neg (by simpa using h1),decide_eq_false (fun h=>h1 h.1)];rfl
def BadR (a b:cI) (tr:List aZ):Prop:=aft b tr≠[]/\(aft a tr=[]\/0<=exc a b (aft a tr) (aft b tr))
theorem aNh {γ:Type} {l:List γ} {j:Nat} {x d:γ} (h:l[j]?=some x):l.getD j d=x:=by rw [List.getD_eq_getElem?_getD,h];rfl
theorem fdR_run (ha:nB a) (hb:nB b) (sa:Small (aHs a)) (sb:Small (aHs b)) {tr:List aZ} (ht:∀ s∈tr,s≠nI):fdR a b (aJa (aJg a) tr) (aJa (aJg b) tr)=true<->BadR a b tr:=by
 unfold fdR BadR
 rw [decide_eq_true_eq]
 rcases aOn hb sb ht with ⟨h1,h2⟩|⟨j,h1,h2,h3⟩
 ·rw [h2,h1];simp
 ·rw [h3,Int.toNat_natCast,aNh h1]
  rcases aOn ha sa ht with ⟨g1,g2⟩|⟨k,g1,g2,g3⟩
  ·rw [g2,g1]
   exact ⟨fun _=>⟨h2,.inl rfl⟩,fun _=>⟨by omega,.inl (by decide)⟩⟩
  ·rw [g3,Int.toNat_natCast,aNh g1]
   constructor
   ·rintro ⟨_,h|h⟩
    ·omega
    ·exact ⟨h2,.inr h⟩
   ·rintro ⟨_,h|h⟩
    ·exact absurd h g2
    ·exact ⟨by omega,.inr h⟩
structure RefR (a b:cI) (r:Bool × List aZ × List aZ × Bool):Prop where
 ok:r.2.2.2=true
 yes:r.1=true->∀ tr,OvL a b tr->¬ BadR a b tr
 no:r.1=false->OvL a b r.2.1/\r.2.1.length<=2000/\BadR a b r.2.1/\(aft a r.2.1=[]->r.2.2.1=[])/\(aft a r.2.1≠[]->∃ M,Jn a b M/\r.2.2.1=aKG M (rdy b (exc a b (aft a r.2.1) (aft b r.2.1))))
theorem ref_ok (ha:nB a) (hb:nB b) (fa:aBo 999999999 a) (fb:aBo 999999999 b) (sa:Small (aHs a)) (sb:Small (aHs b)):∃ r,aBc a b=some r/\RefR a b r:=by
 have da:aKs (aJg a):=aLE ha sa
 have db:aKs (aJg b):=aLE hb sb
 obtain ⟨J,r,hJ,h1,h2⟩:=first_R da db rfl rfl (fun p q hp hq=>fdR_eq ha hb p q hp hq)
 obtain ⟨M,hM,hm⟩:=aMW ha hb
 have e:aBc a b=(if (!(aMV r).2)=true then (some (true,[],[],true)) else (ob (nN a (aMV r).1) fun r120=>
   if ((r120.length:Int) == 0) then (some (false,(aMV r).1,[],true)) else (ob (nN b (aMV r).1) fun r132=>
   ob (aEX a b r120 r132) fun r148=>ob (gR b r148) fun r190=>ob (xM M r190) fun r206=>some (false,(aMV r).1,r206,true)))):=by
  unfold aBc
  rw [aJy ha fa,lJ,aJy hb fb,lJ,aJS,aJS,decide_eq_true sa,decide_eq_true sb,if_neg (by simp)]
  unfold pW detS
  rw [if_neg (by simp),if_pos sa,if_pos sb]
  have h1':aBb ⟨(aJg a).N,(aJg a).I,(aJg a).L,(aJg a).E⟩ ⟨(aJg b).N,(aJg b).I,(aJg b).L,(aJg b).E⟩ a b (aHs a).1 (aHs b).1=some (aMV r):=h1
  show ob (aBb ⟨(aJg a).N,(aJg a).I,(aJg a).L,(aJg a).E⟩ ⟨(aJg b).N,(aJg b).I,(aJg b).L,(aJg b).E⟩ a b (aHs a).1 (aHs b).1) _=_
  rw [h1',lJ]
  cases hx:fQ [a.L,b.L] with
  |none=>rw [hx] at hm;cases hm
  |some X=>
   rw [hx,lJ] at hm
   cases hy:aHO 1 0 X [] with
   |none=>rw [hy] at hm;cases hm
   |some Y=>
    rw [hy,lJ] at hm
    simp only [lJ,hy,hm]
 have hm12:=hM.len
 cases r with
 |inl u=>
  refine ⟨(true,[],[],true),e,⟨rfl,fun _ tr htr hb'=>?_,fun h=>by cases h⟩⟩
  have ht:∀ s∈tr,s≠nI:=fun s hs=>(htr s hs).2
  have hf:fdR a b (aJa (aJg a) tr) (aJa (aJg b) tr)=true:=(fdR_run ha hb sa sb ht).2 hb'
  have hx:∀ tr,OvM J tr->bN (aJa (aJg a) tr) (aJa (aJg b) tr)\/fdR a b (aJa (aJg a) tr) (aJa (aJg b) tr)=false:=h2
  rcases hx tr ((jn_ov hJ).2 htr) with h|h
  ·exact hb'.1 ((run_neg hb sb ht).1 h.2)
  ·rw [h] at hf;cases hf
 |inr x=>
  obtain ⟨w,v⟩:=x
  obtain ⟨k0,k1,k2,k3,k4,k5⟩:v=true/\w.length<=2000/\OvM J w/\¬ bN (aJa (aJg a) w) (aJa (aJg b) w)/\fdR a b (aJa (aJg a) w) (aJa (aJg b) w)=true/\∀ tr' s q,w=tr'++s::q->¬ bN (aJa (aJg a) tr') (aJa (aJg b) tr')/\fdR a b (aJa (aJg a) tr') (aJa (aJg b) tr')=false:=h2
  subst k0
  have hov:=(jn_ov hJ).1 k2
  have ht:∀ s∈w,s≠nI:=fun s hs=>(hov s hs).2
  have hbad:=(fdR_run ha hb sa sb ht).1 k4
  have e2:aBc a b=ob (nN a w) fun r120=>if ((r120.length:Int) == 0) then (some (false,w,[],true)) else (ob (nN b w) fun r132=>ob (aEX a b r120 r132) fun r148=>ob (gR b r148) fun r190=>ob (xM M r190) fun r206=>some (false,w,r206,true)):=e
  have lena:=(aJG ha w).len
  have lenb:=(aJG hb w).len
  rw [aKY ha (by omega),lJ] at e2
  by_cases h0:aft a w=[]
  ·rw [if_pos (by simp [h0])] at e2
   exact ⟨_,e2,⟨rfl,(fun h=>by cases h),fun _=>⟨hov,k1,hbad,fun _=>rfl,fun h=>absurd h0 h⟩⟩⟩
  ·have hr:=aJD hb (exc a b (aft a w) (aft b w))
   rw [if_neg (by simpa using h0),aKY hb (by omega),lJ,aNN ha hb (by omega) (by omega),lJ,aKF hb,lJ,aMo (by omega) (by omega),lJ] at e2
   exact ⟨_,e2,⟨rfl,(fun h=>by cases h),fun _=>⟨hov,k1,hbad,fun h=>absurd h h0,fun _=>⟨M,hM,rfl⟩⟩⟩⟩
theorem bad_self (ha:nB a) {tr:List aZ}:¬ BadR a a tr:=by
 rintro ⟨h1,h2|h2⟩
 ·exact h1 h2
 ·obtain ⟨k,hk,h3,h4⟩:=(exc_pos (fun k hk=>((aJG ha tr).inn k hk).1)).1 h2
  have:aLX a a (aft a tr) k=true:=aNg.2 ⟨k,hk,h3,fun s hs=>hs⟩
  rw [h4] at this;cases this
end
end Gv
namespace Gv
open Go
theorem aNi {α:Type} [DecidableEq α] {step:(List α × Int × Int)->Option ((List α × Int × Int) ⊕ (List α × Int))} (s:List α) (k:Nat) (h1:1<=k) (hk:k < s.length) (hd:aHy (s.take (k+1))=s.take k)
  (hst:∀ (j w:Nat) s' x y,1<=j->k+j < s.length->s'.length=s.length->w < s.length->s'[k+j]?=some x->s'[k+j - 1]?=some y->x∈s->y∈s->step (s',(w:Int),(j:Int))=some (.inl (if x=y then (s',(w:Int),((j+1:Nat):Int)) else (s'.set w x,((w+1:Nat):Int),((j+1:Nat):Int)))))
  (hen:∀ s' w,step (s',w,((s.length - k:Nat):Int))=some (.inr (s',w))):∃ s' w,loop step (s,(k:Int),1)=some (s',((w:Nat):Int))/\s'.length=s.length/\w<=s.length/\s'.take w=aHy s:=by
 have:=aIQ (step:=step) (s.length - k) (fun j (a:List α × Nat)=>(a.1,(a.2:Int),(j:Int))) (fun j a=>1<=j/\a.1.length=s.length/\a.2<=k+j - 1/\a.1.take a.2=aHy (s.take (k+j))/\∀ i,k+j - 1<=i->a.1[i]?=s[i]?)
  (fun r=>∃ w:Nat,r.2=(w:Int)/\r.1.length=s.length/\w<=s.length/\r.1.take w=aHy s) (fun j a hj hI=>?_) (fun a hI=>?_) (s.length - k - 1) 1 (s,k) (by omega) ⟨Nat.le_refl _,rfl,by simp only;omega,by simp only;rw [hd],fun i _=>rfl⟩
 ·obtain ⟨⟨s',w⟩,hr,w',hw,h2,h3,h4⟩:=this
  simp only at hw h2 h3 h4
  subst hw
  exact ⟨s',w',hr,h2,h3,h4⟩
 ·obtain ⟨s',w⟩:=a
  obtain ⟨i1,i2,i3,i4,i5⟩:=hI
  simp only at i2 i3 i4 i5
  have hkj:k+j < s.length:=by omega
  have hx:s'[k+j]?=some s[k+j]:=by rw [i5 _ (by omega),List.getElem?_eq_getElem hkj]
  have hy:s'[k+j - 1]?=some (s[k+j - 1]'(by omega)):=by rw [i5 _ (by omega),List.getElem?_eq_getElem (by omega)]
  have hst':=hst j w s' _ _ i1 hkj i2 (by omega) hx hy (List.getElem_mem _) (List.getElem_mem _)
  have hdt:=aKk (s:=s) (m:=k+j) (by omega) hkj
  by_cases e:s[k+j]=s[k+j - 1]'(by omega)
  ·rw [if_pos e] at hst'
   rw [if_pos e.symm] at hdt
   refine ⟨(s',w),hst',by omega,i2,by simp only;omega,?_,fun i hi=>i5 i (by omega)⟩
   simp only;rw [i4,←Nat.add_assoc,hdt]
  ·rw [if_neg e] at hst'
   rw [if_neg (fun h=>e h.symm)] at hdt
   refine ⟨(s'.set w s[k+j],w+1),hst',by omega,by simp [i2],by simp only;omega,?_,fun i hi=>?_⟩
   ·simp only
    rw [←Nat.add_assoc,hdt,←i4,List.take_add_one,List.take_set_of_le (Nat.le_refl _)]
    simp [show w < s'.length by omega]
   ·simp only
    rw [List.getElem?_set_ne (by omega)]
    exact i5 i (by omega)
 ·obtain ⟨s',w⟩:=a
  obtain ⟨i1,i2,i3,i4,i5⟩:=hI
  simp only at i2 i3 i4 i5
  refine ⟨_,hen s' _,w,rfl,i2,by omega,?_⟩
  simp only
  rw [i4,List.take_of_length_le (by omega)]
theorem aPp (s:List (List aZ)) (h:s.length < 1000000000) (hz:∀ x∈s,x.length < 1000000000):fL s=some (aHy s):=by
 unfold fL
 by_cases h2:s.length < 2
 ·rw [if_pos (by simp;omega)]
  rcases s with _|⟨a,_|⟨b,l⟩⟩
  ·rfl
  ·rfl
  ·simp at h2;omega
 rw [if_neg (by simp;omega)]
 have:=aLz (step:=fun k=>aHr s k) s.length (fun k (_:Unit)=>(k:Int)) (fun k _=>1<=k/\aHy (s.take k)=s.take k) (fun r=>r=.inr (aHy s)\/(r=.inl ()/\aHy s=s)) (fun k a hk hI=>?_) (fun a hI=>?_) (s.length - 1) 1 () (by omega) ⟨Nat.le_refl _,?_⟩
 ·obtain ⟨r,hr,hR⟩:=this
  rw [show (1:Int)=((1:Nat):Int) from rfl,hr,lJ]
  rcases hR with rfl|⟨rfl,h⟩
  ·rfl
  ·rw [h];rfl
 ·obtain ⟨i1,i2⟩:=hI
  have hk1:wr ((k:Int) - 1)=((k - 1:Nat):Int):=by rw [aHw (by omega) (by omega)];omega
  have hdt:=aKk (s:=s) (m:=k) i1 hk
  simp only [aHr,aBK hk,if_pos,aAM hk,lJ,hk1,aAM (xs:=s) (k:=k - 1) (by omega),aNI _ _ (show (s[k]).length < 4611686018427387904 by have:=hz _ (List.getElem_mem hk);omega),eT,aAg hk (show s.length < 4611686018427387904 by omega)]
  by_cases e:s[k]=s[k - 1]'(by omega)
  ·right
   rw [if_pos e.symm,i2] at hdt
   rw [if_pos (by simpa using e),aKl (by omega),lJ]
   obtain ⟨s',w,hl,g1,g2,g3⟩:=aNi (step:=fun x:List (List aZ) × Int × Int=>gZ (k:Int) (s.drop k) x.1 x.2.1 x.2.2) s k i1 hk hdt (fun j w s' x y j1 j2 j3 j4 hx hy mx my=>by
    have hl:(s.drop k).length=s.length - k:=by simp
    have a1:(k:Int)+(j:Int)=((k+j:Nat):Int):=by omega
    have a2:wr ((j:Int) - 1)=((j - 1:Nat):Int):=by rw [aHw (by omega) (by omega)];omega
    have a3:(k:Int)+((j - 1:Nat):Int)=((k+j - 1:Nat):Int):=by omega
    simp only [gZ,hl,aBK (show j < s.length - k by omega),if_pos,aAM (xs:=s.drop k) (k:=j) (by omega),lJ,a1,aKt,hx,a2,List.getElem?_eq_getElem (show j - 1 < (s.drop k).length by omega),a3,hy,aNI x y (show x.length < 4611686018427387904 by have:=hz _ mx;omega),dR,aAg (show j < s.length - k by omega) (by omega),List.getElem?_eq_getElem (show w < s'.length by omega),aJZ (xs:=s') (k:=w) _ (by omega),aAg j4 (show s.length < 4611686018427387904 by omega)]
    by_cases e:x=y<;>simp [e]) (fun s' w=>by
     have hl:(s.drop k).length=s.length - k:=by simp
     simp only [gZ,hl,aGf];rfl)
   rw [hl,lJ]
   unfold dQ
   simp only
   rw [aKl (by omega),lJ,aLn _ (by omega),lJ,slc_to (by simp;omega),lJ]
   refine ⟨_,rfl,.inl ?_⟩
   rw [List.take_append_of_le_length (by simp;omega),List.take_take,Nat.min_self,g3]
  ·left
   rw [if_neg (by simpa using e)]
   refine ⟨(),rfl,by omega,?_⟩
   rw [hdt,if_neg (fun h=>e h.symm),i2,List.take_add_one]
   simp [hk]
 ·refine ⟨_,by simp only [aHr,aGf];rfl,.inr ⟨rfl,?_⟩⟩
  have:=hI.2
  rwa [List.take_of_length_le (by omega)] at this
 ·rcases s with _|⟨a,l⟩
  ·rfl
  ·rfl
section
variable {t a b:cI}
def aKQ (t:cI) (X:List Int):List (List aZ):=aHy (srt iU ((stL t X).map (rdy t)))
theorem aNj {X:List Int} {o:List aZ}:o∈aKQ t X<->∃ k∈X,aLs t k=true/\o=rdy t k:=by
 unfold aKQ srt
 rw [aJK,List.mem_mergeSort,List.mem_map]
 constructor
 ·rintro ⟨k,hk,rfl⟩;exact ⟨k,(aJI.1 hk).1,(aJI.1 hk).2,rfl⟩
 ·rintro ⟨k,h1,h2,rfl⟩;exact ⟨k,aJI.2 ⟨h1,h2⟩,rfl⟩
theorem aPq {γ:Type} [DecidableEq γ]:∀ l:List γ,(aHy l).length<=l.length
 |[]=>Nat.le_refl _
 |[a]=>Nat.le_refl _
 |a::b::l=>by
  unfold aHy
  have:=aPq (b::l)
  split
  ·simp only [List.length_cons] at *;omega
  ·simp only [List.length_cons] at *;omega
theorem aPr {X:List Int}:(aKQ t X).length<=X.length:=by
 unfold aKQ
 refine Nat.le_trans (aPq _) ?_
 unfold srt
 rw [List.length_mergeSort,List.length_map]
 exact aLJ X
def aMj (p o:List aZ):Bool:=decide (p.length < o.length)&&decide ((aKG p o).length=0)
def acc (t:cI) (X:List Int):List (List aZ):=(aKQ t X).filter fun o=>!(aKQ t X).any fun p=>aMj p o
theorem smlr_eq {p o:List aZ} (hp:p.length<=100000) (ho:o.length<=100000):nR p o=some (aMj p o):=by
 unfold nR aMj
 by_cases h:p.length < o.length
 ·rw [if_pos (by simp;omega),aMo hp ho,lJ,decide_eq_true h,Bool.true_and]
  unfold jI
  congr 1
  rw [Bool.eq_iff_iff,beq_iff_eq,decide_eq_true_eq];omega
 ·rw [if_neg (by simp;omega),decide_eq_false h];rfl
theorem aNk (hv:nB t) {X:List Int} {o:List aZ} (h:o∈aKQ t X):o.length<=300:=by
 obtain ⟨k,_,_,rfl⟩:=aNj.1 h
 exact aJD hv k
theorem acc_eq (hv:nB t) {X:List Int} (hX:X.length<=1000):sM t X=some (acc t X):=by
 have hl:=aLJ (t:=t) X
 unfold sM
 rw [aLg hv hX,lJ]
 have k1:=aJl (step:=fun s:List (List aZ) × Int=>vG t (stL t X) s.1 s.2) (stL t X) (fun j (o:List (List aZ))=>(o,(j:Int))) (fun l o=>o++l.map (rdy t)) (fun j o=>o.length<=j) (fun j o e l hj hx hI=>?_) (fun o _=>by simp only [vG,aGf];simp) (a:=[]) (by simp)
 ·rw [show loop (fun s:List (List aZ) × Int=>vG t (stL t X) s.1 s.2) ([],0)=_ from k1,lJ,List.nil_append]
  have hsz:∀ x∈(stL t X).map (rdy t),x.length < lim:=fun x hx=>by
   obtain ⟨k,_,rfl⟩:=List.mem_map.1 hx
   have:=aJD hv k
   unfold lim;omega
  have e1:aBS ((stL t X).map (rdy t))=some (srt iU ((stL t X).map (rdy t))):=by
   unfold aBS
   rw [if_pos ⟨by rw [List.length_map];unfold lim;omega,hsz⟩]
  unfold lC
  rw [e1,lJ,aPp _ (by unfold srt;rw [List.length_mergeSort,List.length_map];omega) (fun x hx=>by
   unfold srt at hx
   rw [List.mem_mergeSort] at hx
   obtain ⟨k,_,rfl⟩:=List.mem_map.1 hx
   have:=aJD hv k
   omega),lJ]
  show ob (loop (fun s:List (List aZ) × Int=>vF (aKQ t X) s.1 s.2) ([],0)) _=_
  have hol:=aPr (t:=t) (X:=X)
  have hall:∀ o∈aKQ t X,fI (aKQ t X) o=some ((aKQ t X).any fun p=>aMj p o):=fun o ho=>by
   unfold fI fU
   rw [aJq (step:=fun s=>iH (aKQ t X) o s) (aKQ t X) (fun p=>aMj p o) (fun k x hk hx=>by
    obtain ⟨_,rfl⟩:=aJi hx
    have h1:=aNk hv (List.getElem_mem hk)
    have h2:=aNk hv ho
    simp only [iH,aBK hk,if_pos,hx,lJ,smlr_eq (show ((aKQ t X)[k]).length<=100000 by omega) (show o.length<=100000 by omega),aAg hk (show (aKQ t X).length < 4611686018427387904 by omega)]) (by simp only [iH,aGf];rfl),lJ,←aKA]
   cases (aKQ t X).findIdx? (fun p=>aMj p o) with
   |none=>rfl
   |some i=>simp
  unfold acc
  generalize aKQ t X=ys at hol hall ⊢
  have k2:=aJl (step:=fun s:List (List aZ) × Int=>vF ys s.1 s.2) ys (fun j (o:List (List aZ))=>(o,(j:Int))) (fun l o=>o++l.filter fun o=>!ys.any fun p=>aMj p o) (fun j o=>o.length<=j) (fun j o e l hj hx hI=>?_) (fun o _=>by simp only [vF,aGf];simp) (a:=[]) (by simp)
  ·rw [show loop (fun s:List (List aZ) × Int=>vF ys s.1 s.2) ([],0)=_ from k2,lJ,List.nil_append];rfl
  ·left
   obtain ⟨hj',rfl⟩:=aJi hx
   have hw:=aAg hj (show ys.length < 4611686018427387904 by omega)
   refine ⟨if (!ys.any fun p=>aMj p ys[j])=true then o++[ys[j]] else o,?_,by split<;>(try rw [List.length_append,List.length_singleton])<;>omega,?_⟩
   ·simp only [vF,aBK hj,if_pos,hx,lJ,hall _ (List.getElem_mem hj),lB,hw]
    cases (!ys.any fun p=>aMj p ys[j]) with
    |true=>rw [if_pos rfl,aGO (by simp [lim];omega),lJ];rfl
    |false=>rfl
   ·rw [List.filter_cons]
    cases (!ys.any fun p=>aMj p ys[j])<;>simp
 ·left
  obtain ⟨hj',rfl⟩:=aJi hx
  refine ⟨o++[rdy t (stL t X)[j]],?_,by simp;omega,by simp [List.append_assoc]⟩
  simp only [vG,aBK hj,if_pos,hx,lJ,aKF hv]
  rw [aGO (by simp [lim];omega),lJ,aAg hj (by omega)]
theorem aOt {X:List Int} {o:List aZ} (h:o∈acc t X):∃ k∈X,aLs t k=true/\o=rdy t k:=aNj.1 (List.mem_filter.1 h).1
theorem acc_len {X:List Int}:(acc t X).length<=X.length:=Nat.le_trans (List.length_filter_le _ _) aPr
theorem aNO {X:List Int}:∀ (n:Nat) (o:List aZ),o.length<=n->o∈aKQ t X->∃ m∈acc t X,∀ s∈m,s∈o
 |n,o,hn,ho=>by
  by_cases h:((aKQ t X).any fun p=>aMj p o)=true
  ·obtain ⟨p,hp,hs⟩:=List.any_eq_true.1 h
   unfold aMj at hs
   rw [Bool.and_eq_true,decide_eq_true_eq,decide_eq_true_eq,List.length_eq_zero_iff,aNf] at hs
   cases n with
   |zero=>omega
   |succ n=>
    obtain ⟨m,h1,h2⟩:=aNO n p (by omega) hp
    exact ⟨m,h1,fun s hm=>hs.2 s (h2 s hm)⟩
  ·exact ⟨o,List.mem_filter.2 ⟨ho,by rw [Bool.not_eq_true] at h;rw [h];rfl⟩,fun s hs=>hs⟩
def refs (t:cI) (X:List Int) (F:List aZ):Bool:=(stL t X).any fun k=>decide ((aKG F (rdy t k)).length=F.length)
theorem aNP (hv:nB t) {X:List Int} (hX:X.length<=1000) {F:List aZ} (hF:F.length<=100000):xH t X F=some (refs t X F):=by
 have hl:=aLJ (t:=t) X
 unfold xH refs
 rw [aLg hv hX,lJ]
 generalize stL t X=Y at hl ⊢
 unfold fT gO
 rw [aJq (step:=fun s=>iZ Y F t s) Y (fun k=>decide ((aKG F (rdy t k)).length=F.length)) (fun i x hi hx=>by
  have hj:=aJD hv x
  simp only [iZ,aBK hi,if_pos,hx,lJ,vN,aKF hv,aMo hF (show (rdy t x).length<=100000 by omega),aAg hi (show Y.length < 4611686018427387904 by omega)]
  have e:(((aKG F (rdy t x)).length:Int) == (F.length:Int))=decide ((aKG F (rdy t x)).length=F.length):=by
   rw [Bool.eq_iff_iff,beq_iff_eq,decide_eq_true_eq];omega
  rw [e]) (by simp only [iZ,aGf];rfl),lJ,←aKA]
 cases Y.findIdx? (fun k=>decide ((aKG F (rdy t k)).length=F.length)) with
 |none=>rfl
 |some i=>simp
theorem aPs {A B:List aZ}:(aKG A B).length=A.length<->∀ s∈A,s∉B:=by
 unfold aKG
 rw [List.length_filter_eq_length_iff]
 refine forall_congr' fun s=>forall_congr' fun _=>?_
 rw [Bool.not_eq_true',List.any_eq_false]
 exact ⟨fun h hm=>h s hm (beq_self_eq_true s),fun h x hx e=>h (beq_iff_eq.1 e ▸ hx)⟩
theorem aPt {X:List Int} {F:List aZ}:refs t X F=true<->∃ k∈X,aLs t k=true/\∀ s∈F,s∉rdy t k:=by
 unfold refs
 rw [List.any_eq_true]
 constructor
 ·rintro ⟨k,hk,h⟩
  rw [decide_eq_true_eq,aPs] at h
  exact ⟨k,(aJI.1 hk).1,(aJI.1 hk).2,h⟩
 ·rintro ⟨k,h1,h2,h3⟩
  exact ⟨k,aJI.2 ⟨h1,h2⟩,by rw [decide_eq_true_eq,aPs];exact h3⟩
theorem aPu {tr:List aZ} (hl:tr.length<=1000000) (ht:∀ s∈tr,VisL s):qU tr=some true:=by
 rw [aLj tr (by omega) (fun s hs=>by have:=(ht s hs).2.2;omega)]
 congr 1
 rw [List.all_eq_true]
 intro s hs
 have h1:=ht s hs
 rw [h1.1,Bool.true_and,Bool.not_eq_true',beq_eq_false_iff_ne]
 exact h1.2.1
theorem isSetV_eq {F:List aZ} (hs:aBq F) (hl:F.length<=1000) (ht:∀ s∈F,VisL s):aIf F=some true:=by
 unfold aIf
 rw [aJT (step:=fun s=>aGW F s) F (fun _=>true) (.inr false) (.inl ()) (fun k x hk hx=>by
  obtain ⟨_,rfl⟩:=aJi hx
  simp only [aGW,aBK hk,if_pos,hx,lJ,aBj,aAg hk (show F.length < 4611686018427387904 by omega)]
  by_cases h0:k=0
  ·subst h0;rfl
  ·have hk1:wr ((k:Int) - 1)=((k - 1:Nat):Int):=by rw [aHw (by omega) (by omega)];omega
   have hlt:qJ (F[k - 1]'(by omega)) F[k]=true:=List.pairwise_iff_getElem.1 hs.1 (k - 1) k (by omega) hk (by omega)
   have:(qJ F[k] (F[k - 1]'(by omega))||F[k] == F[k - 1]'(by omega))=false:=by
    rw [Bool.or_eq_false_iff]
    refine ⟨aLa hlt,?_⟩
    rw [beq_eq_false_iff_ne]
    intro e
    rw [e,tF] at hlt;cases hlt
   rw [if_pos (by simp;omega),hk1,aAM (by omega),lJ,this];rfl) (by simp only [aGW,aGf];rfl),if_pos (by simp),lJ]
 show aBi F=some true
 unfold aBi
 rw [aPu (by omega) ht,lJ]
end
end Gv
namespace Gv
open Go
section
variable {a b:cI}
theorem shows_ok (ha:nB a) (hb:nB b) (fa:aBo 999999999 a) (fb:aBo 999999999 b) {r:Bool × List aZ × List aZ × Bool} (h:RefR a b r) (hr:r.1=false):oQ a b r.2.1 r.2.2.1=some (true,0):=by
 obtain ⟨h1,h2,h3,h4,h5⟩:=h.no hr
 have hvis:=h1.vis ha hb fa fb
 have hset:aBq r.2.2.1/\r.2.2.1.length<=1000/\∀ s∈r.2.2.1,VisL s:=by
  by_cases h0:aft a r.2.1=[]
  ·rw [h4 h0];exact ⟨⟨List.Pairwise.nil,by simp⟩,by simp,by simp⟩
  ·obtain ⟨M,hM,e⟩:=h5 h0
   have hsub:(r.2.2.1).Sublist M:=by rw [e];exact List.filter_sublist
   have hov:OvL a b r.2.2.1:=fun s hs=>(hM.mem s).1 (hsub.subset hs)
   exact ⟨⟨hM.str.1.sublist hsub,fun g=>hM.str.2 (hsub.subset g)⟩,by have:=hsub.length_le;have:=hM.len;omega,hov.vis ha hb fa fb⟩
 have lena:=(aJG ha r.2.1).len
 have lenb:=(aJG hb r.2.1).len
 unfold oQ
 rw [aJx a fa,aKq ha,lJ,if_neg (by simp),aJx b fb,aKq hb,lJ]
 unfold kB
 rw [if_neg (by simp),aPu (by omega) hvis,lJ,if_neg (by simp),isSetV_eq hset.1 hset.2.1 hset.2.2,lJ]
 unfold kA
 rw [if_neg (by simp),aKY ha (by omega),lJ,aKY hb (by omega),lJ,if_neg (by simpa using h3.1)]
 by_cases h0:aft a r.2.1=[]
 ·rw [if_pos (by simp [h0]),h4 h0];rfl
 ·rw [if_neg (by simpa using h0),aNP hb (by omega) (by omega),lJ,aNP ha (by omega) (by omega)]
  obtain ⟨M,hM,e⟩:=h5 h0
  obtain ⟨g1,g2,g3⟩:=exc_at (h3.2.resolve_left h0)
  have t1:refs b (aft b r.2.1) r.2.2.1=true:=aPt.2 ⟨_,g1,g2,fun s hs=>by rw [e] at hs;exact (aNe.1 hs).2⟩
  have t2:refs a (aft a r.2.1) r.2.2.1=false:=by
   rw [Bool.eq_false_iff]
   intro ht
   obtain ⟨j,j1,j2,j3⟩:=aPt.1 ht
   have:aLX a b (aft a r.2.1) (exc a b (aft a r.2.1) (aft b r.2.1))=true:=aNg.2 ⟨j,j1,j2,fun s hs=>Classical.byContradiction fun hn=>by
    refine j3 s ?_ hs
    rw [e]
    refine aNe.2 ⟨(hM.mem s).2 ⟨?_,fun hx=>?_⟩,hn⟩
    ·obtain ⟨x,hx,_,rfl⟩:=rdy_mem.1 hs
     exact List.mem_append_left _ (txt_in ha hx)
    ·subst hx
     unfold aLs at j2
     rw [Bool.not_eq_true',List.any_eq_false] at j2
     exact j2 _ hs (beq_self_eq_true _)⟩
   rw [g3] at this;cases this
  rw [t1,t2];rfl
theorem aMp (ha:nB a) (hb:nB b) (fa:aBo 999999999 a) (fb:aBo 999999999 b):mZ a b=ob (aBc a b) fun r=>if (!r.2.2.2) then (some (false,[],[],5)) else (some (r.1,r.2.1,r.2.2.1,0)):=by
 unfold mZ
 rw [aJx a fa,aKq ha,lJ,if_neg (by simp),aJx b fb,aKq hb,lJ]
 unfold kY
 rw [if_neg (by simp)]
theorem aNQ (ha:nB a) (hb:nB b) (fa:aBo 999999999 a) (fb:aBo 999999999 b) (h:¬ (Small (aHs a)/\Small (aHs b))):mZ a b=some (false,[],[],5)/\sL a b=some (false,[],[],5):=by
 constructor
 ·rw [aMp ha hb fa fb]
  unfold aBc
  rw [aJy ha fa,lJ,aJy hb fb,lJ,aJS,aJS]
  by_cases h1:Small (aHs a)
  ·rw [decide_eq_true h1,decide_eq_false (fun g=>h ⟨h1,g⟩)];rfl
  ·rw [decide_eq_false h1];rfl
 ·unfold sL
  rw [aOD a fa,aKq ha,lJ,if_neg (by simp),aOD b fb,aKq hb,lJ]
  unfold kZ
  rw [if_neg (by simp)]
  unfold aCx
  rw [aLq ha,lJ,aLq hb,lJ,aJS,aJS]
  by_cases h1:Small (aHs a)
  ·rw [decide_eq_true h1,decide_eq_false (fun g=>h ⟨h1,g⟩)];rfl
  ·rw [decide_eq_false h1];rfl
theorem inside_eq {x y:List aZ} (hx:x.length<=1000) (hy:y.length<=1000):aCB x y=some (x.all fun s=>decide (s∈y)):=by
 unfold aCB
 have k1:=aJT (step:=fun s=>aCA x y s) x (fun s=>decide (s∈y)) (.inr false) (.inl ()) (fun i s hi hs=>?_) (by simp only [aCA,aGf];rfl)
 ·rw [k1,lJ]
  cases x.all fun s=>decide (s∈y)<;>rfl
 ·obtain ⟨_,rfl⟩:=aJi hs
  have k2:=aJl (step:=fun s:Bool × Int=>aCz x y (i:Int) s.1 s.2) y (fun j (o:Bool)=>(o,(j:Int))) (fun l o=>o||l.any fun z=>x[i] == z) (fun _ _=>True) (fun j o e l hj he _=>?_) (fun o _=>by simp only [aCz,aGf];simp) (a:=false) trivial
  ·have k2':loop (fun s:Bool × Int=>aCz x y (i:Int) s.1 s.2) (false,0)=some (false||y.any fun z=>x[i] == z):=k2
   simp only [aCA,aBK hi,if_pos,k2',lJ,Bool.false_or,sP,yD,aAg hi (show x.length < 4611686018427387904 by omega)]
   have e:(y.any fun z=>x[i] == z)=decide (x[i]∈y):=labs_any
   rw [e]
   cases decide (x[i]∈y)<;>rfl
  ·left
   obtain ⟨_,rfl⟩:=aJi he
   refine ⟨o||x[i] == y[j],?_,trivial,by rw [List.any_cons,Bool.or_assoc]⟩
   simp only [aCz,aBK hj,if_pos,sQ,aAg hj (show y.length < 4611686018427387904 by omega)]
   cases o with
   |true=>rfl
   |false=>rw [if_neg (by simp),aAM hi,lJ,aAM hj,lJ,Bool.false_or]
theorem aQn (ha:nB a) (hb:nB b) {tr:List aZ} (h:¬ BadR a b tr) (hne:aft b tr≠[]):aft a tr≠[]/\∀ y∈acc b (aft b tr),∃ x∈acc a (aft a tr),∀ s∈x,s∈y:=by
 have h0:aft a tr≠[]:=fun e=>h ⟨hne,.inl e⟩
 refine ⟨h0,fun y hy=>?_⟩
 obtain ⟨k,k1,k2,rfl⟩:=aOt hy
 have hc:aLX a b (aft a tr) k=true:=by
  cases hx:aLX a b (aft a tr) k with
  |true=>rfl
  |false=>exact absurd ⟨hne,.inr ((exc_pos (fun k hk=>((aJG hb tr).inn k hk).1)).2 ⟨k,k1,k2,hx⟩)⟩ h
 obtain ⟨j,j1,j2,j3⟩:=aNg.1 hc
 obtain ⟨m,m1,m2⟩:=aNO (t:=a) (X:=aft a tr) _ (rdy a j) (Nat.le_refl _) (aNj.2 ⟨j,j1,j2,rfl⟩)
 exact ⟨m,m1,fun s hs=>j3 s (m2 s hs)⟩
theorem aNR (ha:nB a) (fa:aBo 999999999 a) {tr:List aZ} (hl:tr.length<=1000) (ht:∀ s∈tr,VisL s) (hne:aft a tr≠[]):lZ a tr=some (acc a (aft a tr),0):=by
 have lena:=(aJG ha tr).len
 unfold lZ
 rw [aNr ha fa (by omega) ht,if_neg hne,lJ,if_neg (by simp)]
 show ob (sM a (aft a tr)) _=_
 rw [acc_eq ha (by omega),lJ]
theorem fail_two (ha:nB a) (hb:nB b) (fa:aBo 999999999 a) (fb:aBo 999999999 b):(ob (mZ a b) fun r48=>ob (mZ b b) fun r60=>
   if (r48.2.2.2 != 0) then (oL (a,b) r48 r60 true) else (oL (a,b) r48 r60 (r60.2.2.2 != 0)))=some true:=by
 by_cases hs:Small (aHs a)/\Small (aHs b)
 ·obtain ⟨sa,sb⟩:=hs
  obtain ⟨r,e1,e2⟩:=ref_ok ha hb fa fb sa sb
  obtain ⟨q,f1,f2⟩:=ref_ok hb hb fb fb sb sb
  have hq:q.1=true:=by
   cases hx:q.1 with
   |true=>rfl
   |false=>exact absurd (f2.no hx).2.2.1 (bad_self hb)
  rw [aMp ha hb fa fb,e1,lJ,e2.ok,if_neg (by simp),lJ,aMp hb hb fb fb,f1,lJ,f2.ok,if_neg (by simp),lJ,if_neg (by simp)]
  show oL (a,b) (r.1,r.2.1,r.2.2.1,0) (q.1,q.2.1,q.2.2.1,0) false=some true
  unfold oL
  rw [if_neg (by simp),hq,if_neg (by simp)]
  cases hr:r.1 with
  |false=>
   rw [if_pos (by rfl),shows_ok ha hb fa fb e2 hr,lJ,if_pos (by rfl)];rfl
  |true=>
   rw [if_neg (by simp)]
   obtain ⟨all,h1,h2,_,h3⟩:=aPg hb fb sb (n:=2) (by omega)
   have h3':aEg b 2=some (if 200 < all.length then ([],5) else (all.map (·.trace),0)):=h3
   rw [h3',lJ]
   by_cases hl:200 < all.length
   ·rw [if_pos hl];rfl
   ·rw [if_neg hl,if_neg (by simp)]
    have hall:∀ tr∈all.map (·.trace),(∀ s∈tr,s∈b.L.tail)/\tr.length<=2/\aft b tr≠[]:=fun tr htr=>by
     obtain ⟨e,he,rfl⟩:=List.mem_map.1 htr
     have hE:=h2 e he
     have hlab:∀ s∈e.trace,s∈b.L.tail:=hE.lab
     refine ⟨hlab,hE.len,fun hn=>?_⟩
     have:=(run_neg hb sb (fun s hs=>(aMX hb fb (hlab s hs)).2.1)).2 hn
     rw [←hE.run] at this
     have:=hE.pos
     omega
    have hml:(all.map (·.trace)).length=all.length:=List.length_map _
    generalize all.map (·.trace)=L at hall hml ⊢
    have k1:=aJT (step:=fun s=>aAJ (a,b) (L,0) s) L (fun _=>true) (.inr false) (.inl ()) (fun i x hi hx=>?_) (by simp only [aAJ,aGf];rfl)
    ·rw [if_pos (by simp)] at k1
     rw [k1,lJ]
     show pY (L,0)=some true
     unfold pY
     congr 1
     simp;omega
    ·obtain ⟨_,rfl⟩:=aJi hx
     obtain ⟨t1,t2,t3⟩:=hall _ (List.getElem_mem hi)
     have hv:∀ s∈L[i],VisL s:=fun s hs=>aMX hb fb (t1 s hs)
     obtain ⟨o1,o2⟩:=aQn ha hb (e2.yes hr L[i] (fun s hs=>⟨List.mem_append_right _ (List.mem_of_mem_tail (t1 s hs)),(hv s hs).2.1⟩)) t3
     have lena:=(aJG ha L[i]).len
     have lenb:=(aJG hb L[i]).len
     have q1:=acc_len (t:=a) (X:=aft a L[i])
     have q2:=acc_len (t:=b) (X:=aft b L[i])
     simp only [aAJ,aBK hi,if_pos,hx,lJ,aNR ha fa (show (L[i]).length<=1000 by omega) hv o1,aNR hb fb (show (L[i]).length<=1000 by omega) hv t3]
     have sx:∀ o∈acc a (aft a L[i]),o.length<=300:=fun o ho=>by
      obtain ⟨k,_,_,rfl⟩:=aOt ho
      exact aJD ha k
     have sy:∀ o∈acc b (aft b L[i]),o.length<=300:=fun o ho=>by
      obtain ⟨k,_,_,rfl⟩:=aOt ho
      exact aJD hb k
     generalize acc a (aft a L[i])=x at o2 q1 sx ⊢
     generalize acc b (aft b L[i])=y at o2 q2 sy ⊢
     rw [if_neg (by simp),bne_self_eq_false]
     unfold oK
     rw [if_neg (by simp)]
     have k2:=aJT (step:=fun s=>aBD (x,0) (y,0) s) y (fun _=>true) (.inr false) (.inl ()) (fun k o hk ho=>?_) (by simp only [aBD,aGf];rfl)
     ·rw [if_pos (by simp)] at k2
      rw [k2,lJ]
      show pZ (i:Int)=_
      unfold pZ vO
      rw [aAg hi (by omega)]
     ·obtain ⟨_,rfl⟩:=aJi ho
      have k3:=aJl (step:=fun s:Bool × Int=>aBC (x,0) (y,0) (k:Int) s.1 s.2) x (fun j (o:Bool)=>(o,(j:Int))) (fun l o=>o||l.any fun z=>z.all fun s=>decide (s∈y[k])) (fun _ _=>True) (fun j o e l hj he _=>?_) (fun o _=>by simp only [aBC,aGf];simp) (a:=false) trivial
      ·have k3':loop (fun s:Bool × Int=>aBC (x,0) (y,0) (k:Int) s.1 s.2) (false,0)=some (false||x.any fun z=>z.all fun s=>decide (s∈y[k])):=k3
       obtain ⟨m,m1,m2⟩:=o2 y[k] (List.getElem_mem hk)
       have hf:(x.any fun z=>z.all fun s=>decide (s∈y[k]))=true:=List.any_eq_true.2 ⟨m,m1,List.all_eq_true.2 fun s hs=>decide_eq_true (m2 s hs)⟩
       rw [hf] at k3'
       simp only [aBD,aBK hk,if_pos,k3',lJ,Bool.or_true,qA,vP,aAg hk (show y.length < 4611686018427387904 by omega)]
       rfl
      ·left
       obtain ⟨_,rfl⟩:=aJi he
       refine ⟨o||x[j].all fun s=>decide (s∈y[k]),?_,trivial,by rw [List.any_cons,Bool.or_assoc]⟩
       simp only [aBC,aBK hj,if_pos,qB,aAg hj (show x.length < 4611686018427387904 by omega)]
       cases o with
       |true=>rfl
       |false=>
        have s1:=sx _ (List.getElem_mem hj)
        have s2:=sy _ (List.getElem_mem hk)
        rw [if_neg (by simp),aAM hj,lJ,aAM hk,lJ,inside_eq (by omega) (by omega),lJ,Bool.false_or]
 ·obtain ⟨e1,e2⟩:=aNQ ha hb fa fb hs
  have key:∀ r60,oL (a,b) (false,[],[],5) r60 true=some true:=fun r60=>by
   unfold oL
   rw [if_pos rfl,e2,lJ];rfl
  rw [e1,lJ]
  by_cases sb:Small (aHs b)
  ·obtain ⟨q,f1,f2⟩:=ref_ok hb hb fb fb sb sb
   rw [aMp hb hb fb fb,f1,lJ,f2.ok,if_neg (by simp),lJ,if_pos (by rfl)]
   exact key _
  ·rw [(aNQ hb hb fb fb (fun g=>sb g.1)).1,lJ,if_pos (by rfl)]
   exact key _
end
theorem lawFail (cs:aZ):aFa cs=some true:=by
 unfold aFa
 obtain ⟨v,hv⟩:∃ v,aFq cs=some v:=⟨_,rfl⟩
 rw [hv,lJ]
 cases v with
 |true=>rfl
 |false=>
  rw [if_neg (by simp)]
  obtain ⟨a,b,e,ha,hb⟩:=pair_ok cs
  rw [e,lJ]
  exact fail_two ha.1 hb.1 ha.2 hb.2
end Gv
