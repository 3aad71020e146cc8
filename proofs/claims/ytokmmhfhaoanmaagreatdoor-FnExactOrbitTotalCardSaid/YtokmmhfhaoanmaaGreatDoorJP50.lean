/- Sets of states, as lists; sets closed under inner steps: the reference's and the program's. -/
import Derived.Test.YtokmmhfhaoanmaaGreatDoorJP20
set_option linter.all false
namespace Gv
open Go
structure Lists (xs:List Int) (X:Int->Prop):Prop where
 ord:xs.Pairwise (· < ·)
 mem:∀ q,q∈xs<->X q
theorem Lists.eq {xs ys:List Int} {X:Int->Prop} (a:Lists xs X) (b:Lists ys X):xs=ys:=
 aEv (R:=fun a b:Int=>a < b) (fun a=>Int.lt_irrefl a) (fun h1 h2=>Int.lt_trans h1 h2) a.ord b.ord fun q=>(a.mem q).trans (b.mem q).symm
theorem Lists.len {xs:List Int} {X:Int->Prop} (a:Lists xs X) {n:Nat} (h:∀ q,X q->0<=q/\q < n):xs.length<=n:=by
 have hn:xs.Nodup:=a.ord.imp fun h=>by omega
 have:=List.Nodup.length_le_of_subset (l₂:=(List.range n).map Int.ofNat) hn (fun x hx=>by
  have:=h x ((a.mem x).1 hx)
  rw [List.mem_map]
  exact ⟨x.toNat,by rw [List.mem_range];omega,by show ((x.toNat:Nat):Int)=x;omega⟩)
 simpa using this
inductive Cl (t:iQ) (X:Int->Prop):Int->Prop
 |base {q:Int}:X q->Cl t X q
 |step {e:Edge}:e∈t.E->e.B=0->Cl t X e.F->Cl t X e.To
section
variable {t:iQ} {X:Int->Prop}
theorem aSy (hv:nE t) {e:Edge} (he:e∈t.E):(0<=e.F/\e.F < t.N)/\(0<=e.To/\e.To < t.N)/\0<=e.B/\e.B < t.L.length:=by
 have h:=aSu hv he
 unfold aJj at h
 omega
theorem Cl.inn (hv:nE t) (h0:∀ q,X q->0<=q/\q < t.N) {q:Int} (h:Cl t X q):0<=q/\q < t.N:=by
 induction h with
 |base h=>exact h0 _ h
 |step he _ _ _=>have:=(aSy hv he).2.1;omega
theorem Cl.congr {Y:Int->Prop} (h:∀ q,X q->Y q) {q:Int} (hc:Cl t X q):Cl t Y q:=by
 induction hc with
 |base hx=>exact .base (h _ hx)
 |step a b _ ih=>exact .step a b ih
def Aft (t:iQ) (S:List Int) (k:Int) (q:Int):Prop:=∃ e∈t.E,e.B=k/\e.F∈S/\e.To=q
theorem Aft.inn (hv:nE t) {S:List Int} {k q:Int} (h:Aft t S k q):0<=q/\q < t.N:=by
 obtain ⟨e,he,_,_,rfl⟩:=h
 have:=(aSy hv he).2.1;omega
end
end Gv
namespace Gv
open Go
section
variable {t:iQ}
end
end Gv
namespace Gv
open Go
section
variable {κ β:Type} [DecidableEq β] [BEq β] [LawfulBEq β] (key:κ->β)
def atK (F:List κ) (q:κ):Int:=if key q∈F.map key then pos (F.map key) (key q) else (F.length:Int)
def insK (F:List κ) (q:κ):List κ:=if key q∈F.map key then F else F++[q]
def add1 (i:Int) (s:List κ × List Edge) (x:Int × κ):List κ × List Edge:=(insK key s.1 x.2,s.2++[⟨i,x.1,atK key s.1 x.2⟩])
variable {key}
theorem insK_pre (F:List κ) (q:κ):F <+:insK key F q:=by
 unfold insK;split
 ·exact List.prefix_refl _
 ·exact List.prefix_append _ _
theorem atK_in (F:List κ) (q:κ):0<=atK key F q/\atK key F q < (insK key F q).length:=by
 unfold atK insK
 by_cases h:key q∈F.map key
 ·rw [if_pos h,if_pos h]
  obtain ⟨i,hi,e,_⟩:=xL h
  rw [List.length_map] at hi
  omega
 ·rw [if_neg h,if_neg h,List.length_append,List.length_singleton];omega
theorem ED.done {L:List aH} {j n:Nat} {ed:List Edge} (h:ED L (j:Int) 0 n ed) (hj:j<=n):ed.Pairwise flLt/\∀ e∈ed,(0<=e.F/\e.F < n)/\(1<=e.B/\e.B<=L.length)/\0<=e.To/\e.To < n:=
 ⟨h.ord,fun e he=>by have:=h.all e he;omega⟩
def Small (s:List κ × List Edge):Prop:=s.1.length<=40/\s.2.length<=300
instance (s:List κ × List Edge):Decidable (Small s):=by unfold Small;infer_instance
theorem Small.pre {s u:List κ × List Edge} (h:s.1 <+:u.1/\s.2 <+:u.2) (hu:Small u):Small s:=⟨Nat.le_trans h.1.length_le hu.1,Nat.le_trans h.2.length_le hu.2⟩
end
end Gv
namespace Gv
open Go
section
structure GoodS (t:iQ) (S:List Int):Prop where
 len:S.length<=40
 inn:∀ q∈S,0<=q/\q < t.N
variable {t:iQ}
end
end Gv
namespace Gv
open Go
section
variable {t:iQ}
theorem GoodS.small (hv:nE t) {S:List Int} (h:GoodS t S):∀ q∈S,0<=q/\q<=63:=fun q hq=>by have:=h.inn q hq;have:=hv.1;omega
theorem tail_cons (hv:nE t):t.L=bS::t.L.tail/\pJ t.L.tail:=by
 obtain ⟨L,e,h⟩:=hv.2.2.1.cons
 rw [e];exact ⟨rfl,h⟩
end
end Gv
namespace Gv
open Go
theorem aVw (l:List aH) (a:Nat) (ha:a<=l.length) (h:l.length < 1000000000):∃ z:aH,loop (fun s:List aH × Int=>aAg (a:Int) s.1 s.2) (l++[[]],(l.length:Int))=some (l.take a++z::l.drop a):=by
 have key:=yU (step:=fun s:List aH × Int=>aAg (a:Int) s.1 s.2) (fun s=>∃ (k:Nat) (z:aH),s=(l.take k++z::l.drop k,(k:Int))/\a<=k/\k<=l.length) (fun s=>s.2.toNat)
  (fun x=>∃ z:aH,x=l.take a++z::l.drop a) (fun s hI=>?_) (s:=(l++[[]],(l.length:Int))) ⟨l.length,[],by simp,ha,Nat.le_refl _⟩
 ·obtain ⟨r,h1,z,rfl⟩:=key
  exact ⟨z,h1⟩
 ·obtain ⟨k,z,rfl,hak,hk⟩:=hI
  simp only [aAg]
  have hlen:(l.take k++z::l.drop k).length=l.length+1:=by simp;omega
  by_cases h0:a < k
  ·have hk1:wr ((k:Int) - 1)=((k - 1:Nat):Int):=by rw [eG (by omega) (by omega)];omega
   rw [decide_eq_true (p:=(a:Int) < (k:Int)) (by omega),if_pos rfl,hk1,aU (xs:=l.take k++z::l.drop k) (k:=k - 1) (by omega),aA,aU (by omega),aA,oO _ (by omega),aA]
   left
   refine ⟨_,rfl,⟨k - 1,l[k - 1],?_,by omega,by omega⟩,by simp;omega⟩
   have e1:(l.take k++z::l.drop k)[k - 1]'(by omega)=l[k - 1]:=by
    rw [List.getElem_append_left (by simp;omega),List.getElem_take]
   rw [e1]
   have e2:(l.take k++z::l.drop k).set k l[k - 1]=l.take k++l[k - 1]::l.drop k:=by
    rw [List.set_append_right _ _ (by rw [List.length_take];omega)]
    simp [Nat.min_eq_left hk]
   have e3:l.take k=l.take (k - 1)++[l[k - 1]]:=by
    have:=List.take_add_one (l:=l) (i:=k - 1)
    rw [show k - 1+1=k by omega,List.getElem?_eq_getElem (by omega)] at this
    exact this
   have e4:l.drop (k - 1)=l[k - 1]::l.drop k:=by
    have:=List.drop_eq_getElem_cons (l:=l) (i:=k - 1) (by omega)
    rw [show k - 1+1=k by omega] at this
    exact this
   simp only [Prod.mk.injEq,and_true]
   rw [e2,e3,e4,List.append_assoc];rfl
  ·obtain rfl:k=a:=by omega
   right
   rw [decide_eq_false (p:=(k:Int) < (k:Int)) (by omega),if_neg (by simp)]
   exact ⟨_,rfl,z,rfl⟩
theorem join_find (l:List aH) (e:aH) (h1:1<=l.length) (h:l.length < 1000000000):∃ a:Nat,loop (fun s:Int=>uO l e s) 1=some (a:Int)/\1<=a/\a<=l.length/\(∀ (j:Nat) x,1<=j->j < a->l[j]?=some x->mW x e=true)/\(∀ x,l[a]?=some x->mW x e=false):=by
 have key:=yU (step:=fun s:Int=>uO l e s) (fun s=>∃ a:Nat,s=(a:Int)/\1<=a/\a<=l.length/\∀ (j:Nat) x,1<=j->j < a->l[j]?=some x->mW x e=true) (fun s=>l.length - s.toNat)
  (fun r=>∃ a:Nat,r=(a:Int)/\1<=a/\a<=l.length/\(∀ (j:Nat) x,1<=j->j < a->l[j]?=some x->mW x e=true)/\(∀ x,l[a]?=some x->mW x e=false)) (fun s hI=>?_) (s:=1) ⟨1,rfl,Nat.le_refl _,h1,fun j x g1 g2=>by omega⟩
 ·obtain ⟨r,hr,a,rfl,h2⟩:=key
  exact ⟨a,hr,h2⟩
 ·obtain ⟨a,rfl,ha1,ha,hall⟩:=hI
  by_cases hlt:a < l.length
  ·have hx:l[a]?=some l[a]:=List.getElem?_eq_getElem hlt
   simp only [uO,aY hlt,if_pos,aU hlt,aA,aAh]
   cases he:mW l[a] e with
   |true=>
    left
    refine ⟨_,by rw [if_pos rfl,aV hlt (by omega)],⟨a+1,rfl,by omega,by omega,fun j x g1 g2 hj=>?_⟩,by simp;omega⟩
    by_cases e1:j=a
    ·subst e1;rw [hx] at hj;cases hj;exact he
    ·exact hall j x g1 (by omega) hj
   |false=>
    right
    refine ⟨_,by rw [if_neg (by simp)],a,rfl,ha1,ha,hall,fun x hj=>?_⟩
    rw [hx] at hj;cases hj;exact he
  ·obtain rfl:a=l.length:=by omega
   right
   refine ⟨_,by simp only [uO,bE,aAh];rw [if_neg (by simp),if_neg (by simp)],_,rfl,ha1,Nat.le_refl _,hall,fun x hx=>?_⟩
   rw [List.getElem?_eq_none (Nat.le_refl _)] at hx;cases hx
theorem join_step (xs:List aH) (M:List aH) (hM:pJ M) (hl:M.length < 1000000) (hx:xs.length < 1000000) {k:Nat} (hk:k < xs.length):∃ M',rF xs (bS::M) (k:Int)=some (.inl (bS::M',((k+1:Nat):Int)))/\pJ M'/\(∀ s,s∈M'<->s∈M\/(s=xs[k]/\s≠bS))/\M'.length<=M.length+1:=by
 have hw:=aV hk (show xs.length < 4611686018427387904 by omega)
 simp only [rF,aY hk,if_pos,aU hk,aA,aBm (bS::M) xs[k] (by simp;omega),uN,hw]
 by_cases hm:xs[k]∈bS::M
 ·rw [if_pos (by simpa using pos_iff.2 hm)]
  refine ⟨M,rfl,hM,fun s=>⟨.inl,?_⟩,by omega⟩
  rintro (h|⟨rfl,h⟩)
  ·exact h
  ·rcases List.mem_cons.1 hm with h'|h'
   ·exact absurd h' h
   ·exact h'
 ·rw [if_neg (by have:¬ 0<=pos (bS::M) xs[k]:=fun h=>hm (pos_iff.1 h);simpa using this)]
  have hne:xs[k]≠bS:=fun h=>hm (by rw [h];simp)
  have hnm:xs[k]∉M:=fun h=>hm (by simp [h])
  obtain ⟨a,h1,h2,h3,h4,h5⟩:=join_find (bS::M) xs[k] (by simp) (by simp;omega)
  rw [h1,aA]
  unfold aCZ
  rw [dM (by simp [fG];omega),aA]
  have hk1:wr ((((bS::M)++([([]:aH)]:List aH)).length:Int) - 1)=((bS::M).length:Int):=by
   simp only [List.length_append,List.length_cons,List.length_nil]
   rw [eG (by omega) (by omega)];omega
  rw [hk1]
  obtain ⟨z,hz⟩:=aVw (bS::M) a h3 (by simp;omega)
  rw [hz,aA]
  unfold aCY
  have hlen:((bS::M).take a++z::(bS::M).drop a).length=(bS::M).length+1:=by simp;omega
  rw [aU (by omega),aA,oO _ (by omega),aA]
  have e2:((bS::M).take a++z::(bS::M).drop a).set a xs[k]=(bS::M).take a++xs[k]::(bS::M).drop a:=by
   rw [List.set_append_right _ _ (by rw [List.length_take];omega),List.length_take,Nat.min_eq_left h3,Nat.sub_self];rfl
  rw [e2]
  obtain ⟨b,rfl⟩:∃ b,a=b+1:=⟨a - 1,by omega⟩
  have h3':b<=M.length:=by simpa using h3
  have hbef:∀ x∈M.take b,mW x xs[k]=true:=fun x hx=>by
   obtain ⟨j,hj,rfl⟩:=List.getElem_of_mem hx
   rw [List.length_take] at hj
   exact h4 (j+1) _ (by omega) (by omega) (by rw [List.getElem_take,List.getElem?_cons_succ];exact List.getElem?_eq_getElem (by omega))
  have haft:∀ x∈M.drop b,mW xs[k] x=true:=fun x hx=>by
   obtain ⟨j,hj,rfl⟩:=List.getElem_of_mem hx
   rw [List.length_drop] at hj
   have hb:b < M.length:=by omega
   have g:mW M[b] xs[k]=false:=h5 _ (by rw [List.getElem?_cons_succ];exact List.getElem?_eq_getElem hb)
   have g2:mW xs[k] M[b]=true:=by
    rcases aMu xs[k] M[b] with t|t|t
    ·exact t
    ·exact absurd (t ▸ List.getElem_mem hb) hnm
    ·rw [g] at t;cases t
   rw [List.getElem_drop]
   by_cases j0:j=0
   ·subst j0;exact g2
   ·exact yQ g2 (List.pairwise_iff_getElem.1 hM.1 b (b+j) hb (by omega) (by omega))
  refine ⟨M.take b++xs[k]::M.drop b,by unfold uN;rw [hw];rfl,⟨?_,fun h=>?_⟩,fun s=>?_,by simp;omega⟩
  ·have hs':(M.take b++M.drop b).Pairwise fun a b=>mW a b=true:=by rw [List.take_append_drop];exact hM.1
   rw [List.pairwise_append] at hs'
   rw [List.pairwise_append,List.pairwise_cons]
   refine ⟨hs'.1,⟨haft,hs'.2.1⟩,fun x hx y hy=>?_⟩
   rcases List.mem_cons.1 hy with rfl|hy
   ·exact hbef x hx
   ·exact yQ (hbef x hx) (haft y hy)
  ·rw [List.mem_append,List.mem_cons] at h
   rcases h with h|h|h
   ·exact hM.2 (List.mem_of_mem_take h)
   ·exact hne h.symm
   ·exact hM.2 (List.mem_of_mem_drop h)
  ·rw [List.mem_append,List.mem_cons]
   conv=>rhs;rw [←List.take_append_drop b M,List.mem_append]
   constructor
   ·rintro (g|g|g)
    ·simp [g]
    ·exact .inr ⟨g,g ▸ hne⟩
    ·simp [g]
   ·rintro ((g|g)|⟨g,_⟩)<;>simp [g]
theorem aTQ (xs:List aH) (hx:xs.length < 1000000):∃ M,aDv xs=some (bS::M)/\pJ M/\(∀ s,s∈M<->s∈xs/\s≠bS)/\M.length<=xs.length:=by
 have key:=aEu (step:=fun s:List aH × Int=>rF xs s.1 s.2) xs.length (fun k (M:List aH)=>(bS::M,(k:Int))) (fun k M=>pJ M/\(∀ s,s∈M<->s∈xs.take k/\s≠bS)/\M.length<=k)
  (fun r=>∃ M,r=bS::M/\pJ M/\(∀ s,s∈M<->s∈xs/\s≠bS)/\M.length<=xs.length) (fun k M hk hI=>?_) (fun M hI=>?_) xs.length 0 [] (by omega) ⟨⟨by simp,by simp⟩,by simp,by simp⟩
 ·obtain ⟨r,h1,M,rfl,h2⟩:=key
  refine ⟨M,?_,h2⟩
  unfold aDv
  rw [show loop (fun s:List aH × Int=>rF xs s.1 s.2) ([[116,97,117]],0)=some (bS::M) from h1];rfl
 ·obtain ⟨i1,i2,i3⟩:=hI
  obtain ⟨M',g1,g2,g3,g4⟩:=join_step xs M i1 (by omega) hx hk
  refine ⟨M',g1,g2,fun s=>?_,by omega⟩
  rw [g3 s,i2 s,List.take_add_one,List.getElem?_eq_getElem hk,List.mem_append]
  simp only [Option.toList_some,List.mem_singleton]
  constructor
  ·rintro (⟨a,b⟩|⟨a,b⟩)
   ·exact ⟨.inl a,b⟩
   ·exact ⟨.inr a,b⟩
  ·rintro ⟨a|a,b⟩
   ·exact .inl ⟨a,b⟩
   ·exact .inr ⟨a,b⟩
 ·obtain ⟨i1,i2,i3⟩:=hI
  rw [List.take_length] at i2
  exact ⟨_,by simp only [rF,bE];rfl,M,rfl,i1,i2,i3⟩
theorem aTR {M M':List aH} (h:pJ M) (h':pJ M') (hm:∀ s,s∈M<->s∈M'):M=M':=
 aEv (R:=fun a b=>mW a b=true) (fun a h=>by rw [rM] at h;cases h) yQ h.1 h'.1 hm
theorem se_uniq {A B:List Edge} (h:SE A) (h':SE B) (hm:∀ x,x∈A<->x∈B):A=B:=
 aEv (R:=fun a b=>cO a b=true) (fun a h=>by rw [aHp] at h;cases h) (fun h1 h2=>aHq h1 h2) h h' hm
theorem make_gen {texts M:List aH} {edges Eo:List Edge} (ht:texts.length < 1000000) (hM:pJ M) (hm:∀ s,s∈M<->s∈texts/\s≠bS) (hlen:edges.length < 1000000) (hin:∀ e∈edges,0<=e.B/\e.B < texts.length)
  (hEE:SE Eo) (he:∀ x,x∈Eo<->∃ e∈edges,x=⟨e.F,pos (bS::M) (texts.getD e.B.toNat []),e.To⟩) (st ini:Int):aAX st ini texts edges=some ⟨st,ini,bS::M,Eo⟩:=by
 obtain ⟨M',j1,j2,j3,j4⟩:=aTQ texts ht
 obtain rfl:M'=M:=aTR j2 hM fun s=>(j3 s).trans (hm s).symm
 unfold aAX
 rw [j1,aA]
 have key:=aEu (step:=fun s:List Edge × Int=>rG texts edges (bS::M') s.1 s.2) edges.length (fun k (a:List Edge)=>(a,(k:Int))) (fun k a=>SE a/\(∀ x,x∈a<->∃ e∈edges.take k,x=⟨e.F,pos (bS::M') (texts.getD e.B.toNat []),e.To⟩)/\a.length<=k)
  (fun x=>x=Eo) (fun k a hk hI=>?_) (fun a hI=>?_) edges.length 0 [] (by omega) ⟨List.Pairwise.nil,by simp,by simp⟩
 ·obtain ⟨x,hx,hx2⟩:=key
  have hx':loop (fun s:List Edge × Int=>rG texts edges (bS::M') s.1 s.2) (([]:List Edge),0)=some x:=hx
  rw [hx',aA,hx2];rfl
 ·obtain ⟨hs,hmem,hl⟩:=hI
  have hi:=hin _ (List.getElem_mem hk)
  have hlt:edges[k].B.toNat < texts.length:=by omega
  have hgd:texts.getD edges[k].B.toNat []=texts[edges[k].B.toNat]:=by rw [List.getD_eq_getElem?_getD,List.getElem?_eq_getElem hlt];rfl
  simp only [rG,aY hk,if_pos,aU hk,aA]
  rw [ix_of hi.1 hlt,aA,aBm _ _ (by simp;omega),aA,←hgd]
  obtain ⟨l',h1,h2,h3,h4⟩:=l11Put_eq a ⟨edges[k].F,pos (bS::M') (texts.getD edges[k].B.toNat []),edges[k].To⟩ (by omega) hs
  rw [h1,aA]
  refine ⟨l',by rw [aV hk (show edges.length < 4611686018427387904 by omega)],h2,fun x=>?_,by omega⟩
  rw [h3,hmem,List.take_add_one,List.getElem?_eq_getElem hk]
  simp only [Option.toList_some,List.mem_append,List.mem_singleton]
  constructor
  ·rintro (g|⟨e,g1,g2⟩)
   ·exact ⟨_,.inr rfl,g⟩
   ·exact ⟨e,.inl g1,g2⟩
  ·rintro ⟨e,g1|rfl,g2⟩
   ·exact .inr ⟨e,g1,g2⟩
   ·exact .inl g2
 ·obtain ⟨hs,hmem,hl⟩:=hI
  rw [List.take_length] at hmem
  exact ⟨a,by simp only [rG,bE];rfl,se_uniq hs hEE fun x=>(hmem x).trans (he x).symm⟩
end Gv
namespace Gv
open Go
structure Jn (a b:iQ) (M:List aH):Prop where
 str:pJ M
 mem:∀ s,s∈M<->s∈a.L++b.L/\s≠bS
 len:M.length<=24
def inQ (a b:iQ) (q:Int × Int):Prop:=(0<=q.1/\q.1 < a.N)/\0<=q.2/\q.2 < b.N
section
variable {a b:iQ} {M:List aH}
def atQ (F:List (Int × Int)) (i:Int):Int × Int:=F.getD i.toNat (0,0)
theorem atQ_mem {F:List (Int × Int)} {i:Int} (h0:0<=i) (h:i < F.length):atQ F i∈F:=by
 unfold atQ;rw [List.getD_eq_getElem?_getD,List.getElem?_eq_getElem (by omega)];exact List.getElem_mem _
theorem atQ_inj {F:List (Int × Int)} (hn:F.Nodup) {i j:Int} (hi:0<=i/\i < F.length) (hj:0<=j/\j < F.length) (h:atQ F i=atQ F j):i=j:=by
 unfold atQ at h
 rw [List.getD_eq_getElem?_getD,List.getElem?_eq_getElem (by omega),List.getD_eq_getElem?_getD,List.getElem?_eq_getElem (by omega)] at h
 simp only [Option.getD_some] at h
 have:=(List.getElem_inj hn).1 h
 omega
def Bnd (s:List (Int × Int) × List Edge):Prop:=∀ e∈s.2,(0<=e.F/\e.F < s.1.length)/\0<=e.To/\e.To < s.1.length
theorem Bnd.add {s:List (Int × Int) × List Edge} (h:Bnd s) {i:Nat} (hi:i < s.1.length) (x:Int × (Int × Int)):Bnd (add1 id (i:Int) s x):=by
 intro e he
 have hl:=(insK_pre (key:=id) s.1 x.2).length_le
 have ha:=atK_in (key:=id) s.1 x.2
 simp only [add1] at he ⊢
 rcases List.mem_append.1 he with he|he
 ·have:=h e he;omega
 ·simp at he;subst he
  simp only;omega
def imE (g:Int × Int->Int) (F:List (Int × Int)) (E:List Edge):List Edge:=E.map fun e=>⟨g (atQ F e.F),e.B,g (atQ F e.To)⟩
theorem imE_nodup {g:Int × Int->Int} {F:List (Int × Int)} {E:List Edge} (hb:Bnd (F,E)) (hn:F.Nodup) (hg:∀ p∈F,∀ q∈F,g p=g q->p=q) (hE:E.Pairwise flLt):(imE g F E).Nodup:=by
 unfold imE List.Nodup
 rw [List.pairwise_map]
 refine hE.imp_of_mem ?_
 intro e f he hf h heq
 simp only [Edge.mk.injEq] at heq
 have h1:=hb e he
 have h2:=hb f hf
 simp only at h1 h2
 have:=atQ_inj hn h1.1 h2.1 (hg _ (atQ_mem h1.1.1 h1.1.2) _ (atQ_mem h2.1.1 h2.1.2) heq.1)
 unfold flLt at h
 omega
theorem aRn (p q:Int × Int):prLt p q=true<->p.1 < q.1\/(p.1=q.1/\p.2 < q.2):=by
 simp [prLt]
end
end Gv
namespace Gv
open Go
structure Shd (M sh:List aH):Prop where
 len:sh.length<=1000
 mem:∀ s∈M,(iZ 40 s).1∈sh
def nm (b:iQ) (q:Int × Int):Int:=q.1 * b.N+q.2
section
variable {a b:iQ} {M sh:List aH}
theorem nm_lt (hb:nE b) {p q:Int × Int} (hp:0<=p.2/\p.2 < b.N) (hq:0<=q.2/\q.2 < b.N):prLt p q=true<->nm b p < nm b q:=by
 have h2:=hb.1
 rw [aRn]
 unfold nm
 constructor
 ·rintro (h|⟨h,h'⟩)
  ·have:(p.1+1) * b.N<=q.1 * b.N:=Int.mul_le_mul_of_nonneg_right (by omega) (by omega)
   rw [Int.add_mul,Int.one_mul] at this
   omega
  ·rw [h];omega
 ·intro h
  rcases Int.lt_trichotomy p.1 q.1 with g|g|g
  ·exact .inl g
  ·right;rw [g] at h;omega
  ·exfalso
   have:(q.1+1) * b.N<=p.1 * b.N:=Int.mul_le_mul_of_nonneg_right (by omega) (by omega)
   rw [Int.add_mul,Int.one_mul] at this
   omega
theorem nm_inj (hb:nE b) {p q:Int × Int} (hp:0<=p.2/\p.2 < b.N) (hq:0<=q.2/\q.2 < b.N) (h:nm b p=nm b q):p=q:=by
 have h1:=nm_lt hb hp hq
 have h2:=nm_lt hb hq hp
 rw [aRn] at h1 h2
 obtain ⟨p1,p2⟩:=p
 obtain ⟨q1,q2⟩:=q
 simp only [Prod.mk.injEq] at *
 omega
end
end Gv
namespace Gv
open Go
section
variable {a b:iQ} {M sh:List aH}
structure Rf (b:iQ) (s:List (Int × Int) × List Edge) (ed:List Edge):Prop where
 se:SE ed
 mem:∀ x,x∈ed<->x∈imE (nm b) s.1 s.2
theorem aTS {l:List Edge} (h:SE l):l.Nodup:=h.imp fun {x y} h e=>by subst e;rw [aHp] at h;cases h
theorem Rf.len (hb:nE b) {s:List (Int × Int) × List Edge} {ed:List Edge} (h:Rf b s ed) (hB:Bnd s) (hn:s.1.Nodup) (hq:∀ q∈s.1,inQ a b q) (hE:s.2.Pairwise flLt):ed.length=s.2.length:=by
 have h1:=imE_nodup (g:=nm b) hB hn (fun p hp q hq'=>nm_inj hb (hq p hp).2 (hq q hq').2) hE
 have:=((List.perm_ext_iff_of_nodup (aTS h.se) h1).2 h.mem).length_eq
 rw [this];unfold imE;simp
end
end Gv
namespace Gv
open Go
section
variable {a b:iQ} {M sh:List aH}
end
end Gv
namespace Gv
open Go
section
variable {a b:iQ} {M:List aH}
end
end Gv
namespace Gv
open Go
section
variable {a b:iQ} {M:List aH}
end
end Gv
