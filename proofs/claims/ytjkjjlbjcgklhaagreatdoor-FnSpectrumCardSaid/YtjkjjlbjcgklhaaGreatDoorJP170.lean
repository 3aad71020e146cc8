/- Deleting from lists, in general; states that are quiet. -/
import Derived.Test.YtjkjjlbjcgklhaaGreatDoorJP90
set_option linter.all false
namespace Gv
open Go
theorem del_gen {γ:Type} (z:γ) {xs:List γ} {p:γ->Bool} (hl:xs.length < 1000000) {r0:Option Int} (h0:r0=some (match xs.findIdx? p with|none=>-1|some i=>(i:Int)))
  {step:List γ × Int × Int->Option ((List γ × Int × Int) ⊕ (List γ × Int))}
  (hin:∀ (s:List γ) (i j:Nat) (x:γ),(hj:j < s.length)->i < j->s[j]=x->x∈xs->s.length=xs.length->step (s,(i:Int),(j:Int))=some (.inl (if p x=true then (s,(i:Int),((j+1:Nat):Int)) else (s.set i x,((i+1:Nat):Int),((j+1:Nat):Int)))))
  (hout:∀ (s:List γ) (i:Int),step (s,i,(s.length:Int))=some (.inr (s,i))):
  (ob r0 fun r=>if (r == (-1)) then some xs else ob (loop step (xs,r,wr (r+1))) fun q=>ob (vT q.1 q.2 (q.1.length:Int)) fun r35=>ob (ovw q.1 q.2 (List.replicate r35.length z)) fun xs41=>ob (vT xs41 0 q.2) fun r45=>some r45)=some (xs.filter fun x=>!p x):=by
 rw [h0,aA]
 cases hf:xs.findIdx? p with
 |none=>
  have:xs.filter (fun x=>!p x)=xs:=List.filter_eq_self.2 fun x hx=>by have:=List.findIdx?_eq_none_iff.1 hf x hx;simp [this]
  rw [if_pos (by rfl),this]
 |some i0=>
  obtain ⟨hi0,hpi,hlt⟩:=List.findIdx?_eq_some_iff_getElem.1 hf
  rw [if_neg (by simp)]
  have:=cJ (step:=step) xs.length (fun j (a:List γ × Nat)=>(a.1,(a.2:Int),(j:Int)))
   (fun j a=>a.1.length=xs.length/\a.2 < j/\a.1.take a.2=(xs.take j).filter (fun x=>!p x)/\a.1.drop j=xs.drop j) (fun r=>∃ i:Nat,r.2=(i:Int)/\r.1.length=xs.length/\i<=xs.length/\r.1.take i=xs.filter fun x=>!p x) (fun j a hj hI=>?_) (fun a hI=>?_) (xs.length - (i0+1)) (i0+1) (xs,i0) (by omega) ⟨rfl,by simp,?_,rfl⟩
  ·obtain ⟨r,hr,i,h1,h2,h3,h4⟩:=this
   have hr':loop step (xs,(i0:Int),((i0+1:Nat):Int))=some r:=hr
   simp only
   rw [aW (n:=xs.length) hi0 (by omega),hr',aA]
   have s1:vT r.1 (i:Int) (r.1.length:Int)=some (r.1.drop i):=by
    unfold vT;rw [if_pos ⟨by omega,by omega,by omega⟩]
    rw [Int.toNat_natCast,Int.toNat_natCast,List.take_of_length_le (by simp)]
   rw [h1,s1,aA]
   have o1:ovw r.1 (i:Int) (List.replicate (r.1.drop i).length z)=some (r.1.take i++List.replicate (r.1.drop i).length z):=by
    unfold ovw
    rw [if_pos ⟨by omega,by simp only [Int.toNat_natCast,List.length_replicate,List.length_drop];omega⟩]
    simp only [Int.toNat_natCast,List.length_replicate,List.length_drop]
    rw [List.drop_of_length_le (by omega),List.append_nil]
   rw [o1,aA]
   have s2:vT (r.1.take i++List.replicate (r.1.drop i).length z) 0 (i:Int)=some (r.1.take i):=by
    unfold vT;rw [if_pos ⟨by omega,by omega,by simp;omega⟩]
    simp only [Int.toNat_natCast,Int.toNat_zero,List.drop_zero,Nat.sub_zero]
    rw [List.take_append_of_le_length (by simp;omega),List.take_of_length_le (by simp;omega)]
   rw [s2,aA,h4]
  ·obtain ⟨s,i⟩:=a
   obtain ⟨h1,h2,h3,h4⟩:=hI
   simp only at h1 h2 h3 h4
   have hsj:s[j]'(by omega)=xs[j]:=by
    have a1:=List.drop_eq_getElem_cons (l:=s) (i:=j) (by omega)
    have a2:=List.drop_eq_getElem_cons (l:=xs) (i:=j) hj
    rw [a1,a2] at h4
    exact (List.cons.inj h4).1
   have hd:s.drop (j+1)=xs.drop (j+1):=by
    rw [←List.drop_drop (i:=1) (j:=j),←List.drop_drop (i:=1) (j:=j),h4]
   have ht:(xs.take (j+1)).filter (fun x=>!p x)=(xs.take j).filter (fun x=>!p x)++(if p xs[j]=true then [] else [xs[j]]):=by
    rw [List.take_add_one,List.getElem?_eq_getElem hj,List.filter_append]
    simp only [Option.toList_some]
    cases hq:p xs[j]<;>simp [hq]
   simp only [hin s i j _ (by omega) h2 hsj (List.getElem_mem hj) h1]
   cases hpj:p xs[j] with
   |true=>
    refine ⟨(s,i),rfl,h1,by simp only;omega,?_,hd⟩
    rw [ht,hpj];simpa using h3
   |false=>
    refine ⟨(s.set i xs[j],i+1),rfl,by simpa using h1,by simp only;omega,?_,?_⟩
    ·rw [ht,hpj]
     simp only [Bool.false_eq_true,if_false]
     rw [List.take_add_one,List.getElem?_set_self (by omega),List.take_set_of_le (Nat.le_refl _),h3];rfl
    ·simp only
     rw [List.drop_set_of_lt (by omega)];exact hd
  ·obtain ⟨s,i⟩:=a
   obtain ⟨h1,h2,h3,h4⟩:=hI
   simp only at h1 h2 h3 h4
   refine ⟨(s,(i:Int)),by rw [←h1];exact hout s i,i,rfl,h1,by omega,?_⟩
   rw [List.take_length] at h3;exact h3
  ·rw [List.take_add_one,List.getElem?_eq_getElem hi0,List.filter_append]
   simp only [Option.toList_some]
   rw [List.filter_eq_self.2 (fun x hx=>by
    obtain ⟨j,hj,rfl⟩:=List.getElem_of_mem hx
    rw [List.length_take] at hj
    rw [List.getElem_take]
    have:=hlt j (by omega)
    simpa using this)]
   simp [hpi]
section
variable {t:aO} {I:List aL}
structure InpOk (I:List aL):Prop where
 len:I.length < 1000000
 tau:bC∉I
end
end Gv
namespace Gv
open Go
section
variable {t a b:aO}
def aLx (t:aO) (k:Int):Bool:=!(rdy t k).any fun x=>bC == x
def stL (t:aO) (X:List Int):List Int:=X.filter (aLx t)
theorem aSL (hv:aN t) (k:Int):aBZ t k=some (aLx t k):=by
 have h300:=hv.2.2.2.1
 have hl:=aNf (t:=t) k
 unfold aBZ
 rw [aDH hv k,aA,aLi _ _ (by omega),aA];rfl
theorem clone_int {l:List Int} (h:l.length<=2000000):cL l=some l:=by
 unfold cL
 rw [bS (by simp [iO];omega),aA,List.nil_append]
theorem aPZ (hv:aN t) {X:List Int} (hX:X.length<=1000):yH t X=some (stL t X):=by
 unfold yH
 rw [clone_int (by omega),aA]
 have hc:∀ x,uS x t=some (!aLx t x):=fun x=>by
  unfold uS
  rw [aSL hv,aA]
 have key:=del_gen (0:Int) (xs:=X) (p:=fun k=>!aLx t k) (by omega) (r0:=dW X t) ?_ (step:=fun s:List Int × Int × Int=>dN t s.1 s.2.1 s.2.2) (fun s i j x hj hij hx hm hsl=>?_) (fun s i=>?_)
 ·have e:gB X t=_:=key
  rw [e,aA]
  unfold stL
  simp only [Bool.not_not]
 ·unfold dW
  rw [qN (step:=fun s=>cY X t s) X (fun k=>!aLx t k) (fun k x hk hx=>by
   obtain ⟨hk',rfl⟩:=lW hx
   simp only [cY,bD hk,if_pos,hx,aA,hc,aW hk (show X.length < 4611686018427387904 by omega)]) (by simp only [cY,bI];rfl),aA]
  cases X.findIdx? (fun k=>!aLx t k)<;>rfl
 ·have hw:=aW hj (show s.length < 4611686018427387904 by omega)
  subst hx
  simp only [dN,bD hj,if_pos,bE hj,aA,hc,dM,hw]
  cases aLx t s[j] with
  |false=>rfl
  |true=>
   simp only [Bool.not_true,Bool.not_false,if_pos,Bool.false_eq_true,if_false]
   rw [bE (by omega),aA,aCs _ (by omega),aA,aW (show i < s.length by omega) (by omega)]
 ·simp only [dN,bI];rfl
theorem aLy {X:List Int} {k:Int}:k∈stL t X<->k∈X/\aLx t k=true:=List.mem_filter
theorem stL_len (X:List Int):(stL t X).length<=X.length:=List.length_filter_le _ _
def aMT (A B:List aL):List aL:=A.filter fun s=>!B.any fun x=>s == x
theorem lack_mem {A B:List aL} {s:aL}:s∈aMT A B<->s∈A/\s∉B:=by
 unfold aMT
 rw [List.mem_filter,Bool.not_eq_true',List.any_eq_false]
 refine and_congr_right fun _=>⟨fun h hm=>h s hm (beq_self_eq_true s),fun h x hx e=>h (beq_iff_eq.1 e ▸ hx)⟩
theorem aSM {A B:List aL}:aMT A B=[]<->∀ s∈A,s∈B:=by
 rw [List.eq_nil_iff_forall_not_mem]
 refine forall_congr' fun s=>?_
 rw [lack_mem]
 exact ⟨fun h hs=>Classical.byContradiction fun hn=>h ⟨hs,hn⟩,fun h ⟨h1,h2⟩=>h2 (h h1)⟩
theorem lack_eq {A B:List aL} (hA:A.length<=100000) (hB:B.length<=100000):aBi A B=some (aMT A B):=by
 unfold aBi aMT
 have hall:∀ s,aCa s B=some (B.any fun x=>s == x):=fun s=>by
  unfold aCa
  rw [aLi _ _ (by omega),aA]
 rw [aMj (by omega),aA]
 have key:=del_gen ([]:aL) (xs:=A) (p:=fun s=>B.any fun x=>s == x) (by omega) (r0:=eI A B) ?_ (step:=fun s:List aL × Int × Int=>dA B s.1 s.2.1 s.2.2) (fun s i j x hj hij hx hm hsl=>?_) (fun s i=>?_)
 ·have e:fL A B=_:=key
  rw [e,aA]
 ·unfold eI
  rw [qN (step:=fun s=>dF A B s) A (fun s=>B.any fun x=>s == x) (fun k x hk hx=>by
   obtain ⟨hk',rfl⟩:=lW hx
   simp only [dF,bD hk,if_pos,hx,aA,hall,aW hk (show A.length < 4611686018427387904 by omega)]) (by simp only [dF,bI];rfl),aA]
  cases A.findIdx? (fun s=>B.any fun x=>s == x)<;>rfl
 ·have hw:=aW hj (show s.length < 4611686018427387904 by omega)
  subst hx
  simp only [dA,bD hj,if_pos,bE hj,aA,hall,cZ,hw]
  cases (B.any fun x=>s[j] == x) with
  |true=>rfl
  |false=>
   simp only [Bool.not_false,if_pos,Bool.false_eq_true,if_false]
   rw [bE (by omega),aA,aCs _ (by omega),aA,aW (show i < s.length by omega) (by omega)]
 ·simp only [dA,bI];rfl
def covd (a b:aO) (X:List Int) (k:Int):Bool:=(stL a X).any fun j=>decide ((aMT (rdy a j) (rdy b k)).length=0)
theorem covd_iff {X:List Int} {k:Int}:covd a b X k=true<->∃ j∈X,aLx a j=true/\∀ s∈rdy a j,s∈rdy b k:=by
 unfold covd
 rw [List.any_eq_true]
 constructor
 ·rintro ⟨j,hj,h⟩
  rw [decide_eq_true_eq,List.length_eq_zero_iff,aSM] at h
  exact ⟨j,(aLy.1 hj).1,(aLy.1 hj).2,h⟩
 ·rintro ⟨j,h1,h2,h3⟩
  exact ⟨j,aLy.2 ⟨h1,h2⟩,by rw [decide_eq_true_eq,List.length_eq_zero_iff,aSM];exact h3⟩
theorem aMk (hv:aN t) (k:Int):(rdy t k).length<=300:=Nat.le_trans (aNf k) hv.2.2.2.1
theorem cov_eq (ha:aN a) (hb:aN b) {Y:List Int} (hY:Y.length<=1000) (k:Int):eX Y a (rdy b k)=some (Y.any fun j=>decide ((aMT (rdy a j) (rdy b k)).length=0)):=by
 have hk:=aMk hb k
 unfold eX fM
 rw [qN (step:=fun s=>dB Y a (rdy b k) s) Y (fun j=>decide ((aMT (rdy a j) (rdy b k)).length=0)) (fun i x hi hx=>by
  have hj:=aMk ha x
  simp only [dB,bD hi,if_pos,hx,aA,aFO,aDH ha,lack_eq (show (rdy a x).length<=100000 by omega) (show (rdy b k).length<=100000 by omega),aW hi (show Y.length < 4611686018427387904 by omega)]
  have e:(((aMT (rdy a x) (rdy b k)).length:Int) == 0)=decide ((aMT (rdy a x) (rdy b k)).length=0):=by
   rw [Bool.eq_iff_iff,beq_iff_eq,decide_eq_true_eq];omega
  rw [e]) (by simp only [dB,bI];rfl),aA,←aGZ]
 cases Y.findIdx? (fun j=>decide ((aMT (rdy a j) (rdy b k)).length=0)) with
 |none=>rfl
 |some i=>simp
def exc (a b:aO) (X Y:List Int):Int:=match (stL b Y).find? fun k=>!covd a b X k with|none=>-1|some k=>k
theorem exc_pos {X Y:List Int} (hY:∀ k∈Y,0<=k):0<=exc a b X Y<->∃ k∈Y,aLx b k=true/\covd a b X k=false:=by
 unfold exc
 cases h:(stL b Y).find? fun k=>!covd a b X k with
 |none=>
  rw [List.find?_eq_none] at h
  constructor
  ·intro h0;simp at h0
  ·rintro ⟨k,h1,h2,h3⟩
   have:=h k (aLy.2 ⟨h1,h2⟩)
   rw [h3] at this;simp at this
 |some k=>
  have hm:=aLy.1 (List.mem_of_find?_eq_some h)
  have hp:=List.find?_some h
  constructor
  ·intro _
   exact ⟨k,hm.1,hm.2,by simpa using hp⟩
  ·intro _
   exact hY k hm.1
theorem aUn {γ ρ:Type} {step:Int->Option (Int ⊕ (Unit ⊕ ρ))} (xs:List γ) (p:γ->Bool) (g:γ->ρ)
  (h:∀ (k:Nat) x,k < xs.length->ix xs (k:Int)=some x->step (k:Int)=if p x=true then some (.inr (.inr (g x))) else some (.inl ((k+1:Nat):Int)))
  (h':step (xs.length:Int)=some (.inr (.inl ()))):loop step 0=some (match xs.find? p with|none=>.inl ()|some x=>.inr (g x)):=by
 have:=yJ (step:=step) xs.length (fun k (_:Unit)=>(k:Int)) (fun k _=>match (xs.drop k).find? p with|none=>.inl ()|some x=>.inr (g x)) (fun _ _=>True) (fun k a hk _=>?_) (fun a _=>?_) xs.length 0 () (by omega) trivial
 ·simpa using this
 ·rw [List.drop_eq_getElem_cons hk,h k _ hk (bE hk)]
  by_cases hp:p xs[k]=true
  ·right;simp only [List.find?_cons,hp,if_pos]
  ·left
   refine ⟨(),by rw [if_neg hp],trivial,?_⟩
   rw [Bool.not_eq_true] at hp
   simp only [List.find?_cons,hp]
 ·rw [h'];simp
theorem aQa (ha:aN a) (hb:aN b) {X Y:List Int} (hX:X.length<=1000) (hY:Y.length<=1000):aDt a b X Y=some (exc a b X Y):=by
 unfold aDt
 have hl:=stL_len (t:=b) Y
 have hl2:=stL_len (t:=a) X
 rw [aPZ hb hY,aA,aUn (step:=fun s=>aDs a b X (stL b Y) s) (stL b Y) (fun k=>!covd a b X k) id (fun k x hk hx=>by
  simp only [aDs,bD hk,if_pos,hx,aA,aDH hb,aPZ ha hX,cov_eq ha hb (show (stL a X).length<=1000 by omega),aW hk (show (stL b Y).length < 4611686018427387904 by omega)]
  rfl) (by simp only [aDs,bI];rfl),aA]
 unfold exc
 cases (stL b Y).find? (fun k=>!covd a b X k)<;>rfl
end
end Gv
namespace Gv
open Go
section
variable {a b:aO} {M:List aL} {fd:Int->Int->Bool}
section
variable {c0 c1:aO} {c3 c4:List (List Int)}
theorem s5R:@aAO=@gJ:=rfl
theorem ft_stepR (ha:aFV a) (hb:aFV b) (hM:M.length<=30) (hfd:∀ p q:Int,(-1<=p/\p < a.N)->(-1<=q/\q < b.N)->oE p q c0 c1 c3 c4=some (fd p q)):Stp a b M fd fun s=>eS a b c0 c1 c3 c4 M s.1 s.2:=by
 have hc:∀ (l:List (Int × Int)) (e:aP) (r:List aP),eS a b c0 c1 c3 c4 M (tH l) (e::r)=iM a b c0 c1 c3 c4 M (tH l) e r (decide (bN e.a e.b\/(e.a,e.b)∈l)):=by
  intro l e r
  unfold eS
  rw [if_pos (by simp),show ix (e::r) 0=some e from rfl,aA,aOE,aA]
  have hg:(mW (tH l) (⟨e.a,e.b⟩:Int × Int)).getD false=decide ((e.a,e.b)∈l):=aIX (e.a,e.b) l
  rw [hg]
  by_cases h1:e.a < 0
  ·rw [if_pos (by simpa using h1)]
   by_cases h2:e.b < 0
   ·rw [if_pos (by simpa using h2),decide_eq_true (show bN e.a e.b\/(e.a,e.b)∈l from .inl ⟨h1,h2⟩)]
   ·rw [if_neg (by simpa using h2)]
    congr 1
    exact decide_eq_decide.2 ⟨.inr,fun h=>h.resolve_left fun g=>h2 g.2⟩
  ·rw [if_neg (by simpa using h1)]
   congr 1
   exact decide_eq_decide.2 ⟨.inr,fun h=>h.resolve_left fun g=>h1 g.1⟩
 refine ⟨fun l=>?_,fun l e r hr ht h=>?_,fun l e r hr ht h1 h2 h3 hin=>?_,fun l e r hr ht h1 h2 h3 hin=>?_⟩
 ·show eS a b c0 c1 c3 c4 M (tH l) []=_
  unfold eS
  rw [if_neg (by simp)]
 ·show eS a b c0 c1 c3 c4 M (tH l) (e::r)=_
  rw [hc,decide_eq_true h];rfl
 ·show eS a b c0 c1 c3 c4 M (tH l) (e::r)=_
  rw [hc,decide_eq_false (fun g=>g.elim h1 h2)]
  unfold iM
  rw [if_neg (by simp),aA,hfd _ _ hin.1 hin.2,aA,if_pos h3]
 ·show eS a b c0 c1 c3 c4 M (tH l) (e::r)=_
  rw [hc,decide_eq_false (fun g=>g.elim h1 h2)]
  unfold iM
  have hp:vN (tH l) (⟨e.a,e.b⟩:Int × Int) true=tH (l++[(e.a,e.b)]):=aIY h2
  rw [if_neg (by simp),aA,hfd _ _ hin.1 hin.2,aA,if_neg (by simpa using h3),s5R,ft_push ha hb hM hr ht,aA,hp]
  rfl
theorem first_R (ha:aFV a) (hb:aFV b) (ha0:a.I=0) (hb0:b.I=0) (hfd:∀ p q:Int,(-1<=p/\p < a.N)->(-1<=q/\q < b.N)->oE p q c0 c1 c3 c4=some (fd p q)):∃ M r,Jn a b M/\oF a b c0 c1 c3 c4=some (aHh r)/\FtRes a b M fd r:=by
 obtain ⟨M,hJ,hm⟩:=aKB ha.1 hb.1
 have hlen:=hJ.len
 obtain ⟨r,h1,h2⟩:=aOD (ft_stepR (M:=M) ha hb (by omega) hfd) ha.1 hb.1 (by omega)
 refine ⟨M,r,hJ,?_,h2⟩
 unfold oF
 have h1':loop (fun s:List ((Int × Int) × Bool) × List aP=>eS a b c0 c1 c3 c4 M s.1 s.2) (([]:List ((Int × Int) × Bool)),([⟨0,0,[]⟩]:List aP))=some r:=h1
 cases hx:bB [a.L,b.L] with
 |none=>rw [hx] at hm;cases hm
 |some X=>
  rw [hx,aA] at hm
  rw [aA]
  cases hy:aDq 1 0 X [] with
  |none=>rw [hy] at hm;cases hm
  |some Y=>
   rw [hy,aA] at hm
   rw [aA,hm,aA,ha0,hb0,h1',aA]
   cases r with
   |inl x=>rfl
   |inr x=>rfl
end
noncomputable def fdR (a b:aO) (p q:Int):Bool:=decide (0<=q/\(p < 0\/0<=exc a b ((dC a).1.getD p.toNat []) ((dC b).1.getD q.toNat [])))
theorem finD_at (hv:aN a) {p:Int} (h0:0<=p) (h1:p < (jQ a).N):ix (dC a).1 p=some ((dC a).1.getD p.toNat [])/\kL a ((dC a).1.getD p.toNat []):=by
 have h1:p < ((dC a).1.length:Int):=h1
 have hl:p.toNat < (dC a).1.length:=by omega
 have hg:(dC a).1.getD p.toNat []=(dC a).1[p.toNat]:=by rw [List.getD_eq_getElem?_getD,List.getElem?_eq_getElem hl];rfl
 rw [hg]
 refine ⟨?_,(aJt hv).2.1 _ (List.getElem_mem hl)⟩
 obtain ⟨n,rfl⟩:∃ n:Nat,p=(n:Int):=⟨p.toNat,by omega⟩
 exact bE hl
theorem fdR_eq (ha:aN a) (hb:aN b) (p q:Int) (hp:-1<=p/\p < (jQ a).N) (hq:-1<=q/\q < (jQ b).N):oE p q a b (dC a).1 (dC b).1=some (fdR a b p q):=by
 unfold oE fdR
 by_cases h1:0<=q
 ·rw [if_pos (by simpa using h1)]
  by_cases h2:p < 0
  ·rw [if_pos (by simpa using h2),decide_eq_true (⟨h1,.inl h2⟩)];rfl
  ·obtain ⟨g1,g2⟩:=finD_at ha (by omega) hp.2
   obtain ⟨g3,g4⟩:=finD_at hb h1 hq.2
   have l1:=g2.len
   have l2:=g4.len
   rw [if_neg (by simpa using h2),g1,aA,g3,aA,aQa ha hb (by omega) (by omega),aA]
   unfold pQ
   congr 1
   exact decide_eq_decide.2 ⟨fun h=>⟨h1,.inr h⟩,fun h=>h.2.resolve_left h2⟩
 ·rw [if_neg (by simpa using h1),decide_eq_false (fun h=>h1 h.1)];rfl
def BadR (a b:aO) (tr:List aL):Prop:=aft b tr≠[]/\(aft a tr=[]\/0<=exc a b (aft a tr) (aft b tr))
theorem aOK {γ:Type} {l:List γ} {j:Nat} {x d:γ} (h:l[j]?=some x):l.getD j d=x:=by rw [List.getD_eq_getElem?_getD,h];rfl
theorem fdR_run (ha:aN a) (hb:aN b) (sa:Small (dC a)) (sb:Small (dC b)) {tr:List aL} (ht:∀ s∈tr,s≠bC):fdR a b (jA (jQ a) tr) (jA (jQ b) tr)=true<->BadR a b tr:=by
 unfold fdR BadR
 rw [decide_eq_true_eq]
 rcases aRa hb sb ht with ⟨h1,h2⟩|⟨j,h1,h2,h3⟩
 ·rw [h2,h1];simp
 ·rw [h3,Int.toNat_natCast,aOK h1]
  rcases aRa ha sa ht with ⟨g1,g2⟩|⟨k,g1,g2,g3⟩
  ·rw [g2,g1]
   exact ⟨fun _=>⟨h2,.inl rfl⟩,fun _=>⟨by omega,.inl (by decide)⟩⟩
  ·rw [g3,Int.toNat_natCast,aOK g1]
   constructor
   ·rintro ⟨_,h|h⟩
    ·omega
    ·exact ⟨h2,.inr h⟩
   ·rintro ⟨_,h|h⟩
    ·exact absurd h g2
    ·exact ⟨by omega,.inr h⟩
structure RefR (a b:aO) (r:Bool × List aL × List aL × Bool):Prop where
 ok:r.2.2.2=true
 yes:r.1=true->∀ tr,OvL a b tr->¬ BadR a b tr
 no:r.1=false->OvL a b r.2.1/\r.2.1.length<=2000/\BadR a b r.2.1/\(aft a r.2.1=[]->r.2.2.1=[])/\(aft a r.2.1≠[]->∃ M,Jn a b M/\r.2.2.1=aMT M (rdy b (exc a b (aft a r.2.1) (aft b r.2.1))))
theorem ref_ok (ha:aN a) (hb:aN b) (fa:eT 999999999 a) (fb:eT 999999999 b) (sa:Small (dC a)) (sb:Small (dC b)):∃ r,lD a b=some r/\RefR a b r:=by
 have da:aFV (jQ a):=aJv ha sa
 have db:aFV (jQ b):=aJv hb sb
 obtain ⟨J,r,hJ,h1,h2⟩:=first_R da db rfl rfl (fun p q hp hq=>fdR_eq ha hb p q hp hq)
 obtain ⟨M,hM,hm⟩:=aKB ha hb
 have e:lD a b=(if (!(aHh r).2)=true then (some (true,[],[],true)) else (ob (oW a (aHh r).1) fun r120=>
   if ((r120.length:Int) == 0) then (some (false,(aHh r).1,[],true)) else (ob (oW b (aHh r).1) fun r132=>
   ob (aDt a b r120 r132) fun r148=>ob (cT b r148) fun r190=>ob (aBi M r190) fun r206=>some (false,(aHh r).1,r206,true)))):=by
  unfold lD
  rw [tG ha fa,aA,tG hb fb,aA,aCK,aCK,decide_eq_true sa,decide_eq_true sb,if_neg (by simp)]
  unfold uT detS
  rw [if_neg (by simp),if_pos sa,if_pos sb]
  have h1':oF ⟨(jQ a).N,(jQ a).I,(jQ a).L,(jQ a).E⟩ ⟨(jQ b).N,(jQ b).I,(jQ b).L,(jQ b).E⟩ a b (dC a).1 (dC b).1=some (aHh r):=h1
  show ob (oF ⟨(jQ a).N,(jQ a).I,(jQ a).L,(jQ a).E⟩ ⟨(jQ b).N,(jQ b).I,(jQ b).L,(jQ b).E⟩ a b (dC a).1 (dC b).1) _=_
  rw [h1',aA]
  cases hx:bB [a.L,b.L] with
  |none=>rw [hx] at hm;cases hm
  |some X=>
   rw [hx,aA] at hm
   cases hy:aDq 1 0 X [] with
   |none=>rw [hy] at hm;cases hm
   |some Y=>
    rw [hy,aA] at hm
    simp only [aA,hy,hm]
 have hm12:=hM.len
 cases r with
 |inl u=>
  refine ⟨(true,[],[],true),e,⟨rfl,fun _ tr htr hb'=>?_,fun h=>by cases h⟩⟩
  have ht:∀ s∈tr,s≠bC:=fun s hs=>(htr s hs).2
  have hf:fdR a b (jA (jQ a) tr) (jA (jQ b) tr)=true:=(fdR_run ha hb sa sb ht).2 hb'
  have hx:∀ tr,OvM J tr->bN (jA (jQ a) tr) (jA (jQ b) tr)\/fdR a b (jA (jQ a) tr) (jA (jQ b) tr)=false:=h2
  rcases hx tr ((jn_ov hJ).2 htr) with h|h
  ·exact hb'.1 ((aLv hb sb ht).1 h.2)
  ·rw [h] at hf;cases hf
 |inr x=>
  obtain ⟨w,v⟩:=x
  obtain ⟨k0,k1,k2,k3,k4,k5⟩:v=true/\w.length<=2000/\OvM J w/\¬ bN (jA (jQ a) w) (jA (jQ b) w)/\fdR a b (jA (jQ a) w) (jA (jQ b) w)=true/\∀ tr' s q,w=tr'++s::q->¬ bN (jA (jQ a) tr') (jA (jQ b) tr')/\fdR a b (jA (jQ a) tr') (jA (jQ b) tr')=false:=h2
  subst k0
  have hov:=(jn_ov hJ).1 k2
  have ht:∀ s∈w,s≠bC:=fun s hs=>(hov s hs).2
  have hbad:=(fdR_run ha hb sa sb ht).1 k4
  have e2:lD a b=ob (oW a w) fun r120=>if ((r120.length:Int) == 0) then (some (false,w,[],true)) else (ob (oW b w) fun r132=>ob (aDt a b r120 r132) fun r148=>ob (cT b r148) fun r190=>ob (aBi M r190) fun r206=>some (false,w,r206,true)):=e
  have lena:=(aFv ha w).len
  have lenb:=(aFv hb w).len
  rw [aSE ha (by omega),aA] at e2
  by_cases h0:aft a w=[]
  ·rw [if_pos (by simp [h0])] at e2
   exact ⟨_,e2,⟨rfl,(fun h=>by cases h),fun _=>⟨hov,k1,hbad,fun _=>rfl,fun h=>absurd h0 h⟩⟩⟩
  ·have hr:=aMk hb (exc a b (aft a w) (aft b w))
   rw [if_neg (by simpa using h0),aSE hb (by omega),aA,aQa ha hb (by omega) (by omega),aA,aDH hb,aA,lack_eq (by omega) (by omega),aA] at e2
   exact ⟨_,e2,⟨rfl,(fun h=>by cases h),fun _=>⟨hov,k1,hbad,fun h=>absurd h h0,fun _=>⟨M,hM,rfl⟩⟩⟩⟩
end
end Gv
