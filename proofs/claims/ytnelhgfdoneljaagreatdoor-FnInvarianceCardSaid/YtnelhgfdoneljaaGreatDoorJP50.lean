/- Sets of states, as lists; sets closed under inner steps: the reference's and the program's. -/
import Derived.Test.YtnelhgfdoneljaaGreatDoorJP20
set_option linter.all false
namespace Gv
open Go
theorem aHP (s:List Int) (h:s.length < 1000000000):dD s=some (fZ s):=by
 unfold dD
 by_cases h2:s.length < 2
 ·rw [if_pos (by simp;omega)]
  rcases s with _|⟨a,_|⟨b,l⟩⟩
  ·rfl
  ·rfl
  ·simp at h2;omega
 rw [if_neg (by simp;omega)]
 have:=aJd (step:=fun k=>dP s k) s.length (fun k (_:Unit)=>(k:Int)) (fun k _=>1<=k/\fZ (s.take k)=s.take k) (fun r=>r=.inr (fZ s)\/(r=.inl ()/\fZ s=s)) (fun k a hk hI=>?_) (fun a hI=>?_) (s.length - 1) 1 () (by omega) ⟨Nat.le_refl _,?_⟩
 ·obtain ⟨r,hr,hR⟩:=this
  rw [show (1:Int)=((1:Nat):Int) from rfl,hr,aA]
  rcases hR with rfl|⟨rfl,h⟩
  ·rfl
  ·rw [h];rfl
 ·obtain ⟨i1,i2⟩:=hI
  have hk1:wr ((k:Int) - 1)=((k - 1:Nat):Int):=by rw [cF (by omega) (by omega)];omega
  have hdt:=aGe (s:=s) (m:=k) i1 hk
  simp only [dP,bU hk,if_pos,bK hk,aA,hk1,bK (xs:=s) (k:=k - 1) (by omega),eR,bI hk (show s.length < 4611686018427387904 by omega)]
  by_cases e:s[k]=s[k - 1]'(by omega)
  ·right
   rw [if_pos e.symm,i2] at hdt
   rw [if_pos (by simpa using e),aGO (by omega),aA]
   obtain ⟨s',w,hl,g1,g2,g3⟩:=aFP (step:=fun x:List Int × Int × Int=>dO (k:Int) (s.drop k) x.1 x.2.1 x.2.2) s k i1 hk hdt (fun j w s' x y j1 j2 j3 j4 hx hy=>by
    have hl:(s.drop k).length=s.length - k:=by simp
    have a1:(k:Int)+(j:Int)=((k+j:Nat):Int):=by omega
    have a2:wr ((j:Int) - 1)=((j - 1:Nat):Int):=by rw [cF (by omega) (by omega)];omega
    have a3:(k:Int)+((j - 1:Nat):Int)=((k+j - 1:Nat):Int):=by omega
    simp only [dO,hl,bU (show j < s.length - k by omega),if_pos,bK (xs:=s.drop k) (k:=j) (by omega),aA,a1,aBb,hx,a2,List.getElem?_eq_getElem (show j - 1 < (s.drop k).length by omega),a3,hy,dN,bI (show j < s.length - k by omega) (by omega),List.getElem?_eq_getElem (show w < s'.length by omega),oD (xs:=s') (k:=w) _ (by omega),bI j4 (show s.length < 4611686018427387904 by omega)]
    by_cases e:x=y<;>simp [e]) (fun s' w=>by
     have hl:(s.drop k).length=s.length - k:=by simp
     simp only [dO,hl,fI];rfl)
   rw [hl,aA]
   unfold eS
   simp only
   rw [aGO (by omega),aA,aJc _ (by omega),aA,slc_to (by simp;omega),aA]
   refine ⟨_,rfl,.inl ?_⟩
   rw [List.take_append_of_le_length (by simp;omega),List.take_take,Nat.min_self,g3]
  ·left
   rw [if_neg (by simpa using e)]
   refine ⟨(),rfl,by omega,?_⟩
   rw [hdt,if_neg (fun h=>e h.symm),i2,List.take_add_one]
   simp [hk]
 ·refine ⟨_,by simp only [dP,fI];rfl,.inr ⟨rfl,?_⟩⟩
  have:=hI.2
  rwa [List.take_of_length_le (by omega)] at this
 ·rcases s with _|⟨a,l⟩
  ·rfl
  ·rfl
structure aJh (xs:List Int) (X:Int->Prop):Prop where
 ord:xs.Pairwise (· < ·)
 mem:∀ q,q∈xs<->X q
theorem aJh.eq {xs ys:List Int} {X:Int->Prop} (a:aJh xs X) (b:aJh ys X):xs=ys:=
 yA (R:=fun a b:Int=>a < b) (fun a=>Int.lt_irrefl a) (fun h1 h2=>Int.lt_trans h1 h2) a.ord b.ord fun q=>(a.mem q).trans (b.mem q).symm
theorem aJh.len {xs:List Int} {X:Int->Prop} (a:aJh xs X) {n:Nat} (h:∀ q,X q->0<=q/\q < n):xs.length<=n:=by
 have hn:xs.Nodup:=a.ord.imp fun h=>by omega
 have:=List.Nodup.length_le_of_subset (l₂:=(List.range n).map Int.ofNat) hn (fun x hx=>by
  have:=h x ((a.mem x).1 hx)
  rw [List.mem_map]
  exact ⟨x.toNat,by rw [List.mem_range];omega,by show ((x.toNat:Nat):Int)=x;omega⟩)
 simpa using this
def iLt (a b:Int):Bool:=decide (a < b)
theorem aFn {xs:List Int}:aJh (fZ (xB iLt xs)) (fun q=>q∈xs):=by
 have h1:(xB iLt xs).Pairwise fun a b=>a<=b:=by
  have:=List.pairwise_mergeSort (le:=fun a b=>!iLt b a) (fun a b c h1 h2=>by unfold iLt at *;simp at *;omega) (fun a b=>by unfold iLt;simp;omega) xs
  refine this.imp fun {a b} h=>?_
  unfold iLt at h;simpa using h
 refine ⟨aBN (R:=fun a b:Int=>a<=b) (S:=fun a b:Int=>a < b) (fun h hne=>by omega) (fun h h'=>by omega) h1,fun q=>?_⟩
 rw [aAX];unfold xB;rw [List.mem_mergeSort]
theorem aGP {xs:List Int} (h:xs.length < 1000000000):aAT xs=some (xB iLt xs):=by
 unfold aAT;rw [if_pos (by unfold gQ;omega)];rfl
inductive Cl (t:bQ) (X:Int->Prop):Int->Prop
 |base {q:Int}:X q->Cl t X q
 |step {e:Edge}:e∈t.E->e.B=0->Cl t X e.F->Cl t X e.To
section
variable {t:bQ} {X:Int->Prop}
theorem aHx (hv:dK t) {e:Edge} (he:e∈t.E):(0<=e.F/\e.F < t.N)/\(0<=e.To/\e.To < t.N)/\0<=e.B/\e.B < t.L.length:=by
 have h:=yS hv he
 unfold aCL at h
 omega
theorem Cl.inn (hv:dK t) (h0:∀ q,X q->0<=q/\q < t.N) {q:Int} (h:Cl t X q):0<=q/\q < t.N:=by
 induction h with
 |base h=>exact h0 _ h
 |step he _ _ _=>have:=(aHx hv he).2.1;omega
theorem Cl.congr {Y:Int->Prop} (h:∀ q,X q->Y q) {q:Int} (hc:Cl t X q):Cl t Y q:=by
 induction hc with
 |base hx=>exact .base (h _ hx)
 |step a b _ ih=>exact .step a b ih
def Aft (t:bQ) (S:List Int) (k:Int) (q:Int):Prop:=∃ e∈t.E,e.B=k/\e.F∈S/\e.To=q
theorem Aft.inn (hv:dK t) {S:List Int} {k q:Int} (h:Aft t S k q):0<=q/\q < t.N:=by
 obtain ⟨e,he,_,_,rfl⟩:=h
 have:=(aHx hv he).2.1;omega
end
end Gv
namespace Gv
open Go
section
variable {t:bQ}
end
end Gv
namespace Gv
open Go
theorem aEX {σ ρ:Type} {step:σ->Option (σ ⊕ ρ)} {s s':σ} (h:step s=some (.inl s')):loop step s=loop step s':=by rw [cB,h]
theorem aGQ {σ ρ:Type} {step:σ->Option (σ ⊕ ρ)} {s:σ} {r:ρ} (h:step s=some (.inr r)):loop step s=some r:=by rw [cB,h]
section
variable {κ β:Type} [DecidableEq β] [BEq β] [LawfulBEq β] (key:κ->β)
def atK (F:List κ) (q:κ):Int:=if key q∈F.map key then pos (F.map key) (key q) else (F.length:Int)
def aBP (F:List κ) (q:κ):List κ:=if key q∈F.map key then F else F++[q]
def add1 (i:Int) (s:List κ × List Edge) (x:Int × κ):List κ × List Edge:=(aBP key s.1 x.2,s.2++[⟨i,x.1,atK key s.1 x.2⟩])
variable {key}
theorem aLZ (F:List κ) (q:κ):F <+:aBP key F q:=by
 unfold aBP;split
 ·exact List.prefix_refl _
 ·exact List.prefix_append _ _
theorem aMa (F:List κ) (q:κ):(aBP key F q).length<=F.length+1:=by unfold aBP;split<;>simp
theorem atK_in (F:List κ) (q:κ):0<=atK key F q/\atK key F q < (aBP key F q).length:=by
 unfold atK aBP
 by_cases h:key q∈F.map key
 ·rw [if_pos h,if_pos h]
  obtain ⟨i,hi,e,_⟩:=uU h
  rw [List.length_map] at hi
  omega
 ·rw [if_neg h,if_neg h,List.length_append,List.length_singleton];omega
theorem ED.done {L:List aQ} {j n:Nat} {ed:List Edge} (h:ED L (j:Int) 0 n ed) (hj:j<=n):ed.Pairwise flLt/\∀ e∈ed,(0<=e.F/\e.F < n)/\(1<=e.B/\e.B<=L.length)/\0<=e.To/\e.To < n:=
 ⟨h.ord,fun e he=>by have:=h.all e he;omega⟩
def Small (s:List κ × List Edge):Prop:=s.1.length<=40/\s.2.length<=300
instance (s:List κ × List Edge):Decidable (Small s):=by unfold Small;infer_instance
end
end Gv
namespace Gv
open Go
section
structure GoodS (t:bQ) (S:List Int):Prop where
 len:S.length<=40
 inn:∀ q∈S,0<=q/\q < t.N
variable {t:bQ}
theorem GoodS.of (hv:dK t) {R:List Int} {X:Int->Prop} (h:aJh R X) (h0:∀ q,X q->0<=q/\q < t.N):GoodS t R:=
 ⟨h.len (n:=40) fun q hq=>by have:=h0 q hq;have:=hv.1;omega,fun q hq=>h0 q ((h.mem q).1 hq)⟩
end
end Gv
namespace Gv
open Go
section
variable {t:bQ}
theorem GoodS.small (hv:dK t) {S:List Int} (h:GoodS t S):∀ q∈S,0<=q/\q<=63:=fun q hq=>by have:=h.inn q hq;have:=hv.1;omega
theorem tail_cons (hv:dK t):t.L=cI::t.L.tail/\nR t.L.tail:=by
 obtain ⟨L,e,h⟩:=hv.2.2.1.cons
 rw [e];exact ⟨rfl,h⟩
end
end Gv
namespace Gv
open Go
theorem aNf (l:List aQ) (a:Nat) (ha:a<=l.length) (h:l.length < 1000000000):∃ z:aQ,loop (fun s:List aQ × Int=>pN (a:Int) s.1 s.2) (l++[[]],(l.length:Int))=some (l.take a++z::l.drop a):=by
 have key:=tP (step:=fun s:List aQ × Int=>pN (a:Int) s.1 s.2) (fun s=>∃ (k:Nat) (z:aQ),s=(l.take k++z::l.drop k,(k:Int))/\a<=k/\k<=l.length) (fun s=>s.2.toNat)
  (fun x=>∃ z:aQ,x=l.take a++z::l.drop a) (fun s hI=>?_) (s:=(l++[[]],(l.length:Int))) ⟨l.length,[],by simp,ha,Nat.le_refl _⟩
 ·obtain ⟨r,h1,z,rfl⟩:=key
  exact ⟨z,h1⟩
 ·obtain ⟨k,z,rfl,hak,hk⟩:=hI
  simp only [pN]
  have hlen:(l.take k++z::l.drop k).length=l.length+1:=by simp;omega
  by_cases h0:a < k
  ·have hk1:wr ((k:Int) - 1)=((k - 1:Nat):Int):=by rw [cF (by omega) (by omega)];omega
   rw [decide_eq_true (p:=(a:Int) < (k:Int)) (by omega),if_pos rfl,hk1,bK (xs:=l.take k++z::l.drop k) (k:=k - 1) (by omega),aA,bK (by omega),aA,oD _ (by omega),aA]
   left
   refine ⟨_,rfl,⟨k - 1,l[k - 1],?_,by omega,by omega⟩,by simp;omega⟩
   have e1:(l.take k++z::l.drop k)[k - 1]'(by omega)=l[k - 1]:=by
    rw [List.getElem_append_left (by simp;omega),List.getElem_take]
   rw [e1]
   have e2:(l.take k++z::l.drop k).set k l[k - 1]=l.take k++l[k - 1]::l.drop k:=by
    rw [List.set_append_right _ _ (by rw [List.length_take];omega)]
    simp [Nat.min_eq_left hk]
   have e3:l.take k=l.take (k - 1)++[l[k - 1]]:=by
    have:=List.take_add_one (l:=l) (i:=k - 1)
    rw [show k - 1+1=k by omega,List.getElem?_eq_getElem (by omega)] at this
    exact this
   have e4:l.drop (k - 1)=l[k - 1]::l.drop k:=by
    have:=List.drop_eq_getElem_cons (l:=l) (i:=k - 1) (by omega)
    rw [show k - 1+1=k by omega] at this
    exact this
   simp only [Prod.mk.injEq,and_true]
   rw [e2,e3,e4,List.append_assoc];rfl
  ·obtain rfl:k=a:=by omega
   right
   rw [decide_eq_false (p:=(k:Int) < (k:Int)) (by omega),if_neg (by simp)]
   exact ⟨_,rfl,z,rfl⟩
theorem join_find (l:List aQ) (e:aQ) (h1:1<=l.length) (h:l.length < 1000000000):∃ a:Nat,loop (fun s:Int=>jO l e s) 1=some (a:Int)/\1<=a/\a<=l.length/\(∀ (j:Nat) x,1<=j->j < a->l[j]?=some x->yF x e=true)/\(∀ x,l[a]?=some x->yF x e=false):=by
 have key:=tP (step:=fun s:Int=>jO l e s) (fun s=>∃ a:Nat,s=(a:Int)/\1<=a/\a<=l.length/\∀ (j:Nat) x,1<=j->j < a->l[j]?=some x->yF x e=true) (fun s=>l.length - s.toNat)
  (fun r=>∃ a:Nat,r=(a:Int)/\1<=a/\a<=l.length/\(∀ (j:Nat) x,1<=j->j < a->l[j]?=some x->yF x e=true)/\(∀ x,l[a]?=some x->yF x e=false)) (fun s hI=>?_) (s:=1) ⟨1,rfl,Nat.le_refl _,h1,fun j x g1 g2=>by omega⟩
 ·obtain ⟨r,hr,a,rfl,h2⟩:=key
  exact ⟨a,hr,h2⟩
 ·obtain ⟨a,rfl,ha1,ha,hall⟩:=hI
  by_cases hlt:a < l.length
  ·have hx:l[a]?=some l[a]:=List.getElem?_eq_getElem hlt
   simp only [jO,bU hlt,if_pos,bK hlt,aA,sL]
   cases he:yF l[a] e with
   |true=>
    left
    refine ⟨_,by rw [if_pos rfl,bI hlt (by omega)],⟨a+1,rfl,by omega,by omega,fun j x g1 g2 hj=>?_⟩,by simp;omega⟩
    by_cases e1:j=a
    ·subst e1;rw [hx] at hj;cases hj;exact he
    ·exact hall j x g1 (by omega) hj
   |false=>
    right
    refine ⟨_,by rw [if_neg (by simp)],a,rfl,ha1,ha,hall,fun x hj=>?_⟩
    rw [hx] at hj;cases hj;exact he
  ·obtain rfl:a=l.length:=by omega
   right
   refine ⟨_,by simp only [jO,fI,sL];rw [if_neg (by simp),if_neg (by simp)],_,rfl,ha1,Nat.le_refl _,hall,fun x hx=>?_⟩
   rw [List.getElem?_eq_none (Nat.le_refl _)] at hx;cases hx
theorem join_step (xs:List aQ) (M:List aQ) (hM:nR M) (hl:M.length < 1000000) (hx:xs.length < 1000000) {k:Nat} (hk:k < xs.length):∃ M',gR xs (cI::M) (k:Int)=some (.inl (cI::M',((k+1:Nat):Int)))/\nR M'/\(∀ s,s∈M'<->s∈M\/(s=xs[k]/\s≠cI))/\M'.length<=M.length+1:=by
 have hw:=bI hk (show xs.length < 4611686018427387904 by omega)
 simp only [gR,bU hk,if_pos,bK hk,aA,aBO (cI::M) xs[k] (by simp;omega),mY,hw]
 by_cases hm:xs[k]∈cI::M
 ·rw [if_pos (by simpa using aAR.2 hm)]
  refine ⟨M,rfl,hM,fun s=>⟨.inl,?_⟩,by omega⟩
  rintro (h|⟨rfl,h⟩)
  ·exact h
  ·rcases List.mem_cons.1 hm with h'|h'
   ·exact absurd h' h
   ·exact h'
 ·rw [if_neg (by have:¬ 0<=pos (cI::M) xs[k]:=fun h=>hm (aAR.1 h);simpa using this)]
  have hne:xs[k]≠cI:=fun h=>hm (by rw [h];simp)
  have hnm:xs[k]∉M:=fun h=>hm (by simp [h])
  obtain ⟨a,h1,h2,h3,h4,h5⟩:=join_find (cI::M) xs[k] (by simp) (by simp;omega)
  rw [h1,aA]
  unfold vY
  rw [cE (by simp [gQ];omega),aA]
  have hk1:wr ((((cI::M)++([([]:aQ)]:List aQ)).length:Int) - 1)=((cI::M).length:Int):=by
   simp only [List.length_append,List.length_cons,List.length_nil]
   rw [cF (by omega) (by omega)];omega
  rw [hk1]
  obtain ⟨z,hz⟩:=aNf (cI::M) a h3 (by simp;omega)
  rw [hz,aA]
  unfold vX
  have hlen:((cI::M).take a++z::(cI::M).drop a).length=(cI::M).length+1:=by simp;omega
  rw [bK (by omega),aA,oD _ (by omega),aA]
  have e2:((cI::M).take a++z::(cI::M).drop a).set a xs[k]=(cI::M).take a++xs[k]::(cI::M).drop a:=by
   rw [List.set_append_right _ _ (by rw [List.length_take];omega),List.length_take,Nat.min_eq_left h3,Nat.sub_self];rfl
  rw [e2]
  obtain ⟨b,rfl⟩:∃ b,a=b+1:=⟨a - 1,by omega⟩
  have h3':b<=M.length:=by simpa using h3
  have hbef:∀ x∈M.take b,yF x xs[k]=true:=fun x hx=>by
   obtain ⟨j,hj,rfl⟩:=List.getElem_of_mem hx
   rw [List.length_take] at hj
   exact h4 (j+1) _ (by omega) (by omega) (by rw [List.getElem_take,List.getElem?_cons_succ];exact List.getElem?_eq_getElem (by omega))
  have haft:∀ x∈M.drop b,yF xs[k] x=true:=fun x hx=>by
   obtain ⟨j,hj,rfl⟩:=List.getElem_of_mem hx
   rw [List.length_drop] at hj
   have hb:b < M.length:=by omega
   have g:yF M[b] xs[k]=false:=h5 _ (by rw [List.getElem?_cons_succ];exact List.getElem?_eq_getElem hb)
   have g2:yF xs[k] M[b]=true:=by
    rcases aIj xs[k] M[b] with t|t|t
    ·exact t
    ·exact absurd (t ▸ List.getElem_mem hb) hnm
    ·rw [g] at t;cases t
   rw [List.getElem_drop]
   by_cases j0:j=0
   ·subst j0;exact g2
   ·exact vR g2 (List.pairwise_iff_getElem.1 hM.1 b (b+j) hb (by omega) (by omega))
  refine ⟨M.take b++xs[k]::M.drop b,by unfold mY;rw [hw];rfl,⟨?_,fun h=>?_⟩,fun s=>?_,by simp;omega⟩
  ·have hs':(M.take b++M.drop b).Pairwise fun a b=>yF a b=true:=by rw [List.take_append_drop];exact hM.1
   rw [List.pairwise_append] at hs'
   rw [List.pairwise_append,List.pairwise_cons]
   refine ⟨hs'.1,⟨haft,hs'.2.1⟩,fun x hx y hy=>?_⟩
   rcases List.mem_cons.1 hy with rfl|hy
   ·exact hbef x hx
   ·exact vR (hbef x hx) (haft y hy)
  ·rw [List.mem_append,List.mem_cons] at h
   rcases h with h|h|h
   ·exact hM.2 (List.mem_of_mem_take h)
   ·exact hne h.symm
   ·exact hM.2 (List.mem_of_mem_drop h)
  ·rw [List.mem_append,List.mem_cons]
   conv=>rhs;rw [←List.take_append_drop b M,List.mem_append]
   constructor
   ·rintro (g|g|g)
    ·simp [g]
    ·exact .inr ⟨g,g ▸ hne⟩
    ·simp [g]
   ·rintro ((g|g)|⟨g,_⟩)<;>simp [g]
theorem aJi (xs:List aQ) (hx:xs.length < 1000000):∃ M,xN xs=some (cI::M)/\nR M/\(∀ s,s∈M<->s∈xs/\s≠cI)/\M.length<=xs.length:=by
 have key:=bZ (step:=fun s:List aQ × Int=>gR xs s.1 s.2) xs.length (fun k (M:List aQ)=>(cI::M,(k:Int))) (fun k M=>nR M/\(∀ s,s∈M<->s∈xs.take k/\s≠cI)/\M.length<=k)
  (fun r=>∃ M,r=cI::M/\nR M/\(∀ s,s∈M<->s∈xs/\s≠cI)/\M.length<=xs.length) (fun k M hk hI=>?_) (fun M hI=>?_) xs.length 0 [] (by omega) ⟨⟨by simp,by simp⟩,by simp,by simp⟩
 ·obtain ⟨r,h1,M,rfl,h2⟩:=key
  refine ⟨M,?_,h2⟩
  unfold xN
  rw [show loop (fun s:List aQ × Int=>gR xs s.1 s.2) ([[116,97,117]],0)=some (cI::M) from h1];rfl
 ·obtain ⟨i1,i2,i3⟩:=hI
  obtain ⟨M',g1,g2,g3,g4⟩:=join_step xs M i1 (by omega) hx hk
  refine ⟨M',g1,g2,fun s=>?_,by omega⟩
  rw [g3 s,i2 s,List.take_add_one,List.getElem?_eq_getElem hk,List.mem_append]
  simp only [Option.toList_some,List.mem_singleton]
  constructor
  ·rintro (⟨a,b⟩|⟨a,b⟩)
   ·exact ⟨.inl a,b⟩
   ·exact ⟨.inr a,b⟩
  ·rintro ⟨a|a,b⟩
   ·exact .inl ⟨a,b⟩
   ·exact .inr ⟨a,b⟩
 ·obtain ⟨i1,i2,i3⟩:=hI
  rw [List.take_length] at i2
  exact ⟨_,by simp only [gR,fI];rfl,M,rfl,i1,i2,i3⟩
theorem aMb {M M':List aQ} (h:nR M) (h':nR M') (hm:∀ s,s∈M<->s∈M'):M=M':=
 yA (R:=fun a b=>yF a b=true) (fun a h=>by rw [pW] at h;cases h) vR h.1 h'.1 hm
theorem aKT {A B:List Edge} (h:SE A) (h':SE B) (hm:∀ x,x∈A<->x∈B):A=B:=
 yA (R:=fun a b=>bS a b=true) (fun a h=>by rw [vD] at h;cases h) (fun h1 h2=>sD h1 h2) h h' hm
theorem make_gen {texts M:List aQ} {edges Eo:List Edge} (ht:texts.length < 1000000) (hM:nR M) (hm:∀ s,s∈M<->s∈texts/\s≠cI) (hlen:edges.length < 1000000) (hin:∀ e∈edges,0<=e.B/\e.B < texts.length)
  (hEE:SE Eo) (he:∀ x,x∈Eo<->∃ e∈edges,x=⟨e.F,pos (cI::M) (texts.getD e.B.toNat []),e.To⟩) (st ini:Int):kF st ini texts edges=some ⟨st,ini,cI::M,Eo⟩:=by
 obtain ⟨M',j1,j2,j3,j4⟩:=aJi texts ht
 obtain rfl:M'=M:=aMb j2 hM fun s=>(j3 s).trans (hm s).symm
 unfold kF
 rw [j1,aA]
 have key:=bZ (step:=fun s:List Edge × Int=>jP texts edges (cI::M') s.1 s.2) edges.length (fun k (a:List Edge)=>(a,(k:Int))) (fun k a=>SE a/\(∀ x,x∈a<->∃ e∈edges.take k,x=⟨e.F,pos (cI::M') (texts.getD e.B.toNat []),e.To⟩)/\a.length<=k)
  (fun x=>x=Eo) (fun k a hk hI=>?_) (fun a hI=>?_) edges.length 0 [] (by omega) ⟨List.Pairwise.nil,by simp,by simp⟩
 ·obtain ⟨x,hx,hx2⟩:=key
  have hx':loop (fun s:List Edge × Int=>jP texts edges (cI::M') s.1 s.2) (([]:List Edge),0)=some x:=hx
  rw [hx',aA,hx2];rfl
 ·obtain ⟨hs,hmem,hl⟩:=hI
  have hi:=hin _ (List.getElem_mem hk)
  have hlt:edges[k].B.toNat < texts.length:=by omega
  have hgd:texts.getD edges[k].B.toNat []=texts[edges[k].B.toNat]:=by rw [List.getD_eq_getElem?_getD,List.getElem?_eq_getElem hlt];rfl
  simp only [jP,bU hk,if_pos,bK hk,aA]
  rw [aDW hi.1 hlt,aA,aBO _ _ (by simp;omega),aA,←hgd]
  obtain ⟨l',h1,h2,h3,h4⟩:=aKk a ⟨edges[k].F,pos (cI::M') (texts.getD edges[k].B.toNat []),edges[k].To⟩ (by omega) hs
  rw [h1,aA]
  refine ⟨l',by rw [bI hk (show edges.length < 4611686018427387904 by omega)],h2,fun x=>?_,by omega⟩
  rw [h3,hmem,List.take_add_one,List.getElem?_eq_getElem hk]
  simp only [Option.toList_some,List.mem_append,List.mem_singleton]
  constructor
  ·rintro (g|⟨e,g1,g2⟩)
   ·exact ⟨_,.inr rfl,g⟩
   ·exact ⟨e,.inl g1,g2⟩
  ·rintro ⟨e,g1|rfl,g2⟩
   ·exact .inr ⟨e,g1,g2⟩
   ·exact .inl g2
 ·obtain ⟨hs,hmem,hl⟩:=hI
  rw [List.take_length] at hmem
  exact ⟨a,by simp only [jP,fI];rfl,aKT hs hEE fun x=>(hmem x).trans (he x).symm⟩
theorem lts_gen {st ini:Int} {labels M:List aQ} {arcs:List Arc} {Eo:List Edge} (hM:nR M) (hm:∀ s,s∈M<->s∈labels/\s≠cI) (h1:labels.length < 1000000) (h2:arcs.length < 1000000)
  (hn:(arcs.map fun a=>(⟨a.from_,pos (cI::M) a.label,a.to_⟩:Edge)).Nodup) (hEE:SE Eo) (he:∀ x,x∈Eo<->x∈arcs.map fun a=>(⟨a.from_,pos (cI::M) a.label,a.to_⟩:Edge)) (h3:M.length < 1000000):
  i_lts st ini labels arcs=some ⟨st,ini,cI::M,Eo⟩:=by
 unfold i_lts
 rw [show ([116,97,117]:aQ)=cI from rfl,cE (by simp [gQ];omega),aA]
 have e1:aCU ([cI]++labels)=some (xB xE ([cI]++labels)):=by unfold aCU;rw [if_pos (by simp [gQ];omega)]
 rw [e1,aA,aLV _ (by unfold xB;rw [List.length_mergeSort];simp;omega),aA]
 rw [srt_dedup xE aKi aLR aHv hM.lab (fun x=>?_)]
 ·rw [aFl (step:=fun s:List Edge × Int=>aEF arcs (cI::M) s.1 s.2) arcs (fun a=>(⟨a.from_,pos (cI::M) a.label,a.to_⟩:Edge)) id (fun k out x hk ho hx=>?_) (fun out=>by simp only [aEF,fI];rfl),aA]
  ·unfold aGI
   have hst:=aJe bS vD sD aCw hn
   have e2:aBf (id (arcs.map fun a=>(⟨a.from_,pos (cI::M) a.label,a.to_⟩:Edge)))=some Eo:=by
    unfold aBf;rw [if_pos (by simp [gQ];omega),id,aKT hst hEE fun x=>by unfold xB;rw [List.mem_mergeSort];exact (he x).symm]
   have hEl:Eo.length=arcs.length:=by
    rw [←aKT hst hEE fun x=>by unfold xB;rw [List.mem_mergeSort];exact (he x).symm]
    unfold xB;rw [List.length_mergeSort,List.length_map]
   rw [e2,aA,aKP _ (by omega) hEE,aA]
  ·simp only [aEF,bU hk,if_pos,hx,aA,Index_str _ _ (show (cI::M).length < 4611686018427387904 by simp;omega),bI hk (show arcs.length < 4611686018427387904 by omega)]
   rw [cE (by simp [gQ];omega),aA]
 ·by_cases e:x=cI
  ·subst e;simp
  ·simp [e,hm x]
end Gv
namespace Gv
open Go
structure Jn (a b:bQ) (M:List aQ):Prop where
 str:nR M
 mem:∀ s,s∈M<->s∈a.L++b.L/\s≠cI
 len:M.length<=24
def inQ (a b:bQ) (q:Int × Int):Prop:=(0<=q.1/\q.1 < a.N)/\0<=q.2/\q.2 < b.N
section
variable {a b:bQ} {M:List aQ}
def atQ (F:List (Int × Int)) (i:Int):Int × Int:=F.getD i.toNat (0,0)
theorem atQ_mem {F:List (Int × Int)} {i:Int} (h0:0<=i) (h:i < F.length):atQ F i∈F:=by
 unfold atQ;rw [List.getD_eq_getElem?_getD,List.getElem?_eq_getElem (by omega)];exact List.getElem_mem _
theorem atQ_inj {F:List (Int × Int)} (hn:F.Nodup) {i j:Int} (hi:0<=i/\i < F.length) (hj:0<=j/\j < F.length) (h:atQ F i=atQ F j):i=j:=by
 unfold atQ at h
 rw [List.getD_eq_getElem?_getD,List.getElem?_eq_getElem (by omega),List.getD_eq_getElem?_getD,List.getElem?_eq_getElem (by omega)] at h
 simp only [Option.getD_some] at h
 have:=(List.getElem_inj hn).1 h
 omega
def Bnd (s:List (Int × Int) × List Edge):Prop:=∀ e∈s.2,(0<=e.F/\e.F < s.1.length)/\0<=e.To/\e.To < s.1.length
theorem Bnd.add {s:List (Int × Int) × List Edge} (h:Bnd s) {i:Nat} (hi:i < s.1.length) (x:Int × (Int × Int)):Bnd (add1 id (i:Int) s x):=by
 intro e he
 have hl:=(aLZ (key:=id) s.1 x.2).length_le
 have ha:=atK_in (key:=id) s.1 x.2
 simp only [add1] at he ⊢
 rcases List.mem_append.1 he with he|he
 ·have:=h e he;omega
 ·simp at he;subst he
  simp only;omega
def imE (g:Int × Int->Int) (F:List (Int × Int)) (E:List Edge):List Edge:=E.map fun e=>⟨g (atQ F e.F),e.B,g (atQ F e.To)⟩
theorem imE_nodup {g:Int × Int->Int} {F:List (Int × Int)} {E:List Edge} (hb:Bnd (F,E)) (hn:F.Nodup) (hg:∀ p∈F,∀ q∈F,g p=g q->p=q) (hE:E.Pairwise flLt):(imE g F E).Nodup:=by
 unfold imE List.Nodup
 rw [List.pairwise_map]
 refine hE.imp_of_mem ?_
 intro e f he hf h heq
 simp only [Edge.mk.injEq] at heq
 have h1:=hb e he
 have h2:=hb f hf
 simp only at h1 h2
 have:=atQ_inj hn h1.1 h2.1 (hg _ (atQ_mem h1.1.1 h1.1.2) _ (atQ_mem h2.1.1 h2.1.2) heq.1)
 unfold flLt at h
 omega
theorem aKm (p q:Int × Int):prLt p q=true<->p.1 < q.1\/(p.1=q.1/\p.2 < q.2):=by
 simp [prLt]
end
end Gv
namespace Gv
open Go
structure Shd (M sh:List aQ):Prop where
 len:sh.length<=1000
 mem:∀ s∈M,(lG 40 s).1∈sh
def nm (b:bQ) (q:Int × Int):Int:=q.1 * b.N+q.2
section
variable {a b:bQ} {M sh:List aQ}
theorem nm_lt (hb:dK b) {p q:Int × Int} (hp:0<=p.2/\p.2 < b.N) (hq:0<=q.2/\q.2 < b.N):prLt p q=true<->nm b p < nm b q:=by
 have h2:=hb.1
 rw [aKm]
 unfold nm
 constructor
 ·rintro (h|⟨h,h'⟩)
  ·have:(p.1+1) * b.N<=q.1 * b.N:=Int.mul_le_mul_of_nonneg_right (by omega) (by omega)
   rw [Int.add_mul,Int.one_mul] at this
   omega
  ·rw [h];omega
 ·intro h
  rcases Int.lt_trichotomy p.1 q.1 with g|g|g
  ·exact .inl g
  ·right;rw [g] at h;omega
  ·exfalso
   have:(q.1+1) * b.N<=p.1 * b.N:=Int.mul_le_mul_of_nonneg_right (by omega) (by omega)
   rw [Int.add_mul,Int.one_mul] at this
   omega
theorem nm_inj (hb:dK b) {p q:Int × Int} (hp:0<=p.2/\p.2 < b.N) (hq:0<=q.2/\q.2 < b.N) (h:nm b p=nm b q):p=q:=by
 have h1:=nm_lt hb hp hq
 have h2:=nm_lt hb hq hp
 rw [aKm] at h1 h2
 obtain ⟨p1,p2⟩:=p
 obtain ⟨q1,q2⟩:=q
 simp only [Prod.mk.injEq] at *
 omega
end
end Gv
namespace Gv
open Go
section
variable {a b:bQ} {M sh:List aQ}
structure Rf (b:bQ) (s:List (Int × Int) × List Edge) (ed:List Edge):Prop where
 se:SE ed
 mem:∀ x,x∈ed<->x∈imE (nm b) s.1 s.2
theorem aJj {l:List Edge} (h:SE l):l.Nodup:=h.imp fun {x y} h e=>by subst e;rw [vD] at h;cases h
theorem Rf.len (hb:dK b) {s:List (Int × Int) × List Edge} {ed:List Edge} (h:Rf b s ed) (hB:Bnd s) (hn:s.1.Nodup) (hq:∀ q∈s.1,inQ a b q) (hE:s.2.Pairwise flLt):ed.length=s.2.length:=by
 have h1:=imE_nodup (g:=nm b) hB hn (fun p hp q hq'=>nm_inj hb (hq p hp).2 (hq q hq').2) hE
 have:=((List.perm_ext_iff_of_nodup (aJj h.se) h1).2 h.mem).length_eq
 rw [this];unfold imE;simp
end
end Gv
namespace Gv
open Go
section
variable {a b:bQ} {M sh:List aQ}
end
end Gv
namespace Gv
open Go
theorem aNg (x y:List aQ) (h:x.length+y.length<=1000000):eB [x,y]=some (x++y):=by
 unfold eB
 have h1:loop (fun s:Int × Int=>bB [x,y] s.1 s.2) (0,0)=some (((x.length+y.length:Nat):Int)):=by
  have a1:wr (0+(x.length:Int))=(x.length:Int):=by rw [cF (by omega) (by omega)];omega
  have a2:wr ((x.length:Int)+(y.length:Int))=((x.length+y.length:Nat):Int):=by rw [cF (by omega) (by omega)];omega
  have s0:bB [x,y] 0 0=some (.inl ((x.length:Int),1)):=by
   unfold bB dH
   rw [if_pos (by simp),show ix [x,y] 0=some x from rfl,aA,a1,if_neg (by simp)];rfl
  have s1:bB [x,y] (x.length:Int) 1=some (.inl (((x.length+y.length:Nat):Int),2)):=by
   unfold bB dH
   rw [if_pos (by simp),show ix [x,y] 1=some y from rfl,aA,a2,if_neg (by simp;omega)];rfl
  have s2:bB [x,y] ((x.length+y.length:Nat):Int) 2=some (.inr (((x.length+y.length:Nat):Int))):=by
   unfold bB
   rw [if_neg (by simp)]
  rw [aEX (step:=fun s:Int × Int=>bB [x,y] s.1 s.2) (s:=(0,0)) s0,aEX (step:=fun s:Int × Int=>bB [x,y] s.1 s.2) (s:=((x.length:Int),1)) s1,aGQ (step:=fun s:Int × Int=>bB [x,y] s.1 s.2) (s:=(((x.length+y.length:Nat):Int),2)) s2]
 rw [h1,aA]
 unfold eN aFf
 rw [if_pos ⟨rfl,by omega,by unfold gQ;omega⟩,aA]
 have s0:bJ [x,y] [] 0=some (.inl (x,1)):=by
  unfold bJ
  rw [if_pos (by simp),show ix [x,y] 0=some x from rfl,aA,cE (by simp [gQ];omega),aA];rfl
 have s1:bJ [x,y] x 1=some (.inl (x++y,2)):=by
  unfold bJ
  rw [if_pos (by simp),show ix [x,y] 1=some y from rfl,aA,cE (by unfold gQ;omega),aA];rfl
 have s2:bJ [x,y] (x++y) 2=some (.inr (x++y)):=by
  unfold bJ
  rw [if_neg (by simp)]
 rw [aEX (step:=fun s:List aQ × Int=>bJ [x,y] s.1 s.2) (s:=([],0)) s0,aEX (step:=fun s:List aQ × Int=>bJ [x,y] s.1 s.2) (s:=(x,1)) s1,aGQ (step:=fun s:List aQ × Int=>bJ [x,y] s.1 s.2) (s:=(x++y,2)) s2,aA]
 rfl
def zm (F:List (Int × Int)):List ((Int × Int) × Int):=F.map fun q=>(q,0)
theorem aAY {κ:Type} [DecidableEq κ] {k q:κ} {v:Int}:∀ {m:List (κ × Int)},jG (xC m k v) q=if q=k then some v else jG m q
 |[]=>by simp [xC,jG]
 |(x,u)::m=>by
  have ih:=aAY (k:=k) (q:=q) (v:=v) (m:=m)
  unfold xC
  by_cases e:k=x
  ·subst e
   rw [if_pos rfl,jG,jG]
   by_cases h:q=k
   ·rw [if_pos h,if_pos h]
   ·rw [if_neg h,if_neg h,if_neg h]
  ·rw [if_neg e,jG,jG,ih]
   by_cases h:q=x
   ·subst h
    rw [if_pos rfl,if_neg (fun h=>e h.symm),if_pos rfl]
   ·rw [if_neg h,if_neg h]
section
variable {a b:bQ} {M:List aQ}
end
end Gv
namespace Gv
open Go
section
variable {a b:bQ} {M:List aQ}
end
end Gv
