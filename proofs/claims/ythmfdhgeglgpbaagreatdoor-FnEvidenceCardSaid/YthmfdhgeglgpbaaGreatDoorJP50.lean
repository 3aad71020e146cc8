/- Sets of states, as lists; sets closed under inner steps: the reference's and the program's. -/
import Derived.Test.YthmfdhgeglgpbaaGreatDoorJP20
set_option linter.all false
namespace Gv
open Go
theorem aQR (s:List Int) (h:s.length < 1000000000):fG s=some (iW s):=by
 unfold fG
 by_cases h2:s.length < 2
 ·rw [if_pos (by simp;omega)]
  rcases s with _|⟨a,_|⟨b,l⟩⟩
  ·rfl
  ·rfl
  ·simp at h2;omega
 rw [if_neg (by simp;omega)]
 have:=aNG (step:=fun k=>eO s k) s.length (fun k (_:Unit)=>(k:Int)) (fun k _=>1<=k/\iW (s.take k)=s.take k) (fun r=>r=.inr (iW s)\/(r=.inl ()/\iW s=s)) (fun k a hk hI=>?_) (fun a hI=>?_) (s.length - 1) 1 () (by omega) ⟨Nat.le_refl _,?_⟩
 ·obtain ⟨r,hr,hR⟩:=this
  rw [show (1:Int)=((1:Nat):Int) from rfl,hr,aA]
  rcases hR with rfl|⟨rfl,h⟩
  ·rfl
  ·rw [h];rfl
 ·obtain ⟨i1,i2⟩:=hI
  have hk1:wr ((k:Int) - 1)=((k - 1:Nat):Int):=by rw [bT (by omega) (by omega)];omega
  have hdt:=aJM (s:=s) (m:=k) i1 hk
  simp only [eO,bV hk,if_pos,bS hk,aA,hk1,bS (xs:=s) (k:=k - 1) (by omega),gB,bQ hk (show s.length < 4611686018427387904 by omega)]
  by_cases e:s[k]=s[k - 1]'(by omega)
  ·right
   rw [if_pos e.symm,i2] at hdt
   rw [if_pos (by simpa using e),aKI (by omega),aA]
   obtain ⟨s',w,hl,g1,g2,g3⟩:=aJu (step:=fun x:List Int × Int × Int=>eN (k:Int) (s.drop k) x.1 x.2.1 x.2.2) s k i1 hk hdt (fun j w s' x y j1 j2 j3 j4 hx hy=>by
    have hl:(s.drop k).length=s.length - k:=by simp
    have a1:(k:Int)+(j:Int)=((k+j:Nat):Int):=by omega
    have a2:wr ((j:Int) - 1)=((j - 1:Nat):Int):=by rw [bT (by omega) (by omega)];omega
    have a3:(k:Int)+((j - 1:Nat):Int)=((k+j - 1:Nat):Int):=by omega
    simp only [eN,hl,bV (show j < s.length - k by omega),if_pos,bS (xs:=s.drop k) (k:=j) (by omega),aA,a1,aFf,hx,a2,List.getElem?_eq_getElem (show j - 1 < (s.drop k).length by omega),a3,hy,eM,bQ (show j < s.length - k by omega) (by omega),List.getElem?_eq_getElem (show w < s'.length by omega),pL (xs:=s') (k:=w) _ (by omega),bQ j4 (show s.length < 4611686018427387904 by omega)]
    by_cases e:x=y<;>simp [e]) (fun s' w=>by
     have hl:(s.drop k).length=s.length - k:=by simp
     simp only [eN,hl,jH];rfl)
   rw [hl,aA]
   unfold gC
   simp only
   rw [aKI (by omega),aA,aNF _ (by omega),aA,aPO (by simp;omega),aA]
   refine ⟨_,rfl,.inl ?_⟩
   rw [List.take_append_of_le_length (by simp;omega),List.take_take,Nat.min_self,g3]
  ·left
   rw [if_neg (by simpa using e)]
   refine ⟨(),rfl,by omega,?_⟩
   rw [hdt,if_neg (fun h=>e h.symm),i2,List.take_add_one]
   simp [hk]
 ·refine ⟨_,by simp only [eO,jH];rfl,.inr ⟨rfl,?_⟩⟩
  have:=hI.2
  rwa [List.take_of_length_le (by omega)] at this
 ·rcases s with _|⟨a,l⟩
  ·rfl
  ·rfl
structure aKJ (xs:List Int) (X:Int->Prop):Prop where
 ord:xs.Pairwise (· < ·)
 mem:∀ q,q∈xs<->X q
theorem aKJ.eq {xs ys:List Int} {X:Int->Prop} (a:aKJ xs X) (b:aKJ ys X):xs=ys:=
 aGJ (R:=fun a b:Int=>a < b) (fun a=>Int.lt_irrefl a) (fun h1 h2=>Int.lt_trans h1 h2) a.ord b.ord fun q=>(a.mem q).trans (b.mem q).symm
theorem aKJ.len {xs:List Int} {X:Int->Prop} (a:aKJ xs X) {n:Nat} (h:∀ q,X q->0<=q/\q < n):xs.length<=n:=by
 have hn:xs.Nodup:=a.ord.imp fun h=>by omega
 have:=List.Nodup.length_le_of_subset (l₂:=(List.range n).map Int.ofNat) hn (fun x hx=>by
  have:=h x ((a.mem x).1 hx)
  rw [List.mem_map]
  exact ⟨x.toNat,by rw [List.mem_range];omega,by show ((x.toNat:Nat):Int)=x;omega⟩)
 simpa using this
def iLt (a b:Int):Bool:=decide (a < b)
theorem aIS {xs:List Int}:aKJ (iW (srt iLt xs)) (fun q=>q∈xs):=by
 have h1:(srt iLt xs).Pairwise fun a b=>a<=b:=by
  have:=List.pairwise_mergeSort (le:=fun a b=>!iLt b a) (fun a b c h1 h2=>by unfold iLt at *;simp at *;omega) (fun a b=>by unfold iLt;simp;omega) xs
  refine this.imp fun {a b} h=>?_
  unfold iLt at h;simpa using h
 refine ⟨aJL (R:=fun a b:Int=>a<=b) (S:=fun a b:Int=>a < b) (fun h hne=>by omega) (fun h h'=>by omega) h1,fun q=>?_⟩
 rw [aIP];unfold srt;rw [List.mem_mergeSort]
theorem aGM {xs:List Int} (hn:xs.Nodup):aKJ (srt iLt xs) (fun q=>q∈xs):=by
 refine ⟨(aRS iLt (fun a=>by simp [iLt]) (fun {a b c} h1 h2=>by unfold iLt at *;simp at *;omega) (fun a b=>by unfold iLt;simp;omega) hn).imp fun h=>by unfold iLt at h;simpa using h,fun q=>?_⟩
 unfold srt;rw [List.mem_mergeSort]
theorem aKK {xs:List Int} (h:xs.length < 1000000000):aDl xs=some (srt iLt xs):=by
 unfold aDl;rw [if_pos (by unfold iE;omega)];rfl
inductive Cl (t:cN) (X:Int->Prop):Int->Prop
 |base {q:Int}:X q->Cl t X q
 |step {e:Edge}:e∈t.E->e.B=0->Cl t X e.F->Cl t X e.To
section
variable {t:cN} {X:Int->Prop}
theorem aLr (hv:cM t) {e:Edge} (he:e∈t.E):(0<=e.F/\e.F < t.N)/\(0<=e.To/\e.To < t.N)/\0<=e.B/\e.B < t.L.length:=by
 have h:=aIO hv he
 unfold aCv at h
 omega
theorem Cl.inn (hv:cM t) (h0:∀ q,X q->0<=q/\q < t.N) {q:Int} (h:Cl t X q):0<=q/\q < t.N:=by
 induction h with
 |base h=>exact h0 _ h
 |step he _ _ _=>have:=(aLr hv he).2.1;omega
theorem Cl.congr {Y:Int->Prop} (h:∀ q,X q->Y q) {q:Int} (hc:Cl t X q):Cl t Y q:=by
 induction hc with
 |base hx=>exact .base (h _ hx)
 |step a b _ ih=>exact .step a b ih
theorem list_eq {m:List Bool} (hm:m.length < 1000000):aDu m=some (((List.range m.length).filter fun i=>m.getD i false).map Int.ofNat):=by
 unfold aDu
 rw [filt_list (step:=fun s:List Int × Int=>aAH m s.1 s.2) hm (fun i=>m.getD i false) (fun k out hk ho=>?_) (fun out=>by simp only [aAH,jH];rfl),aA]
 ·rfl
 ·have i1:=ix_getD (m:=m) (q:=(k:Int)) (by omega) (by omega)
  rw [Int.toNat_natCast] at i1
  simp only [aAH,bV hk,if_pos,i1,aA,aAG,bQ hk (show m.length < 4611686018427387904 by omega)]
  rw [cG (by simp [iE];omega),aA]
  cases m.getD k false<;>rfl
def Aft (t:cN) (S:List Int) (k:Int) (q:Int):Prop:=∃ e∈t.E,e.B=k/\e.F∈S/\e.To=q
theorem Aft.inn (hv:cM t) {S:List Int} {k q:Int} (h:Aft t S k q):0<=q/\q < t.N:=by
 obtain ⟨e,he,_,_,rfl⟩:=h
 have:=(aLr hv he).2.1;omega
end
end Gv
namespace Gv
open Go
def mO (o:List Int) (x:Int):List Int:=if x∈o then o else o++[x]
theorem aIT:∀ (l o:List Int),o.Nodup->o <+:l.foldl mO o/\(l.foldl mO o).Nodup/\(∀ q,q∈l.foldl mO o<->q∈o\/q∈l)/\(l.foldl mO o).length<=o.length+l.length
 |[],o,h=>⟨List.prefix_refl _,h,fun q=>by simp,by simp⟩
 |x::l,o,h=>by
  have h':(mO o x).Nodup:=by
   unfold mO
   split
   ·exact h
   ·rename_i hx
    rw [List.nodup_append]
    refine ⟨h,by simp,fun a ha b hb=>?_⟩
    simp at hb;subst hb
    exact fun e=>hx (e ▸ ha)
  obtain ⟨g1,g2,g3,g4⟩:=aIT l (mO o x) h'
  have hp:o <+:mO o x:=by
   unfold mO;split
   ·exact List.prefix_refl _
   ·exact List.prefix_append _ _
  have hm:∀ q,q∈mO o x<->q∈o\/q=x:=fun q=>by
   unfold mO;split
   ·rename_i hx
    constructor
    ·exact .inl
    ·rintro (h|rfl)
     ·exact h
     ·exact hx
   ·simp
  refine ⟨hp.trans g1,g2,fun q=>?_,?_⟩
  ·rw [List.foldl_cons,g3 q,hm q,List.mem_cons,or_assoc]
  ·rw [List.foldl_cons]
   have:(mO o x).length<=o.length+1:=by unfold mO;split<;>simp
   rw [List.length_cons];omega
section
variable {t:cN}
end
end Gv
namespace Gv
open Go
section
variable {κ β:Type} [DecidableEq β] [BEq β] [LawfulBEq β] (key:κ->β)
def atK (F:List κ) (q:κ):Int:=if key q∈F.map key then pos (F.map key) (key q) else (F.length:Int)
def insK (F:List κ) (q:κ):List κ:=if key q∈F.map key then F else F++[q]
def add1 (i:Int) (s:List κ × List Edge) (x:Int × κ):List κ × List Edge:=(insK key s.1 x.2,s.2++[⟨i,x.1,atK key s.1 x.2⟩])
variable {key}
theorem insK_pre (F:List κ) (q:κ):F <+:insK key F q:=by
 unfold insK;split
 ·exact List.prefix_refl _
 ·exact List.prefix_append _ _
theorem atK_in (F:List κ) (q:κ):0<=atK key F q/\atK key F q < (insK key F q).length:=by
 unfold atK insK
 by_cases h:key q∈F.map key
 ·rw [if_pos h,if_pos h]
  obtain ⟨i,hi,e,_⟩:=aMw h
  rw [List.length_map] at hi
  omega
 ·rw [if_neg h,if_neg h,List.length_append,List.length_singleton];omega
theorem ED.done {L:List aJ} {j n:Nat} {ed:List Edge} (h:ED L (j:Int) 0 n ed) (hj:j<=n):ed.Pairwise flLt/\∀ e∈ed,(0<=e.F/\e.F < n)/\(1<=e.B/\e.B<=L.length)/\0<=e.To/\e.To < n:=
 ⟨h.ord,fun e he=>by have:=h.all e he;omega⟩
def Small (s:List κ × List Edge):Prop:=s.1.length<=40/\s.2.length<=300
instance (s:List κ × List Edge):Decidable (Small s):=by unfold Small;infer_instance
end
end Gv
namespace Gv
open Go
section
structure GoodS (t:cN) (S:List Int):Prop where
 len:S.length<=40
 inn:∀ q∈S,0<=q/\q < t.N
variable {t:cN}
theorem GoodS.of (hv:cM t) {R:List Int} {X:Int->Prop} (h:aKJ R X) (h0:∀ q,X q->0<=q/\q < t.N):GoodS t R:=
 ⟨h.len (n:=40) fun q hq=>by have:=h0 q hq;have:=hv.1;omega,fun q hq=>h0 q ((h.mem q).1 hq)⟩
end
end Gv
namespace Gv
open Go
section
variable {t:cN}
theorem GoodS.small (hv:cM t) {S:List Int} (h:GoodS t S):∀ q∈S,0<=q/\q<=63:=fun q hq=>by have:=h.inn q hq;have:=hv.1;omega
end
end Gv
namespace Gv
open Go
theorem aRU (l:List aJ) (a:Nat) (ha:a<=l.length) (h:l.length < 1000000000):∃ z:aJ,loop (fun s:List aJ × Int=>aAq (a:Int) s.1 s.2) (l++[[]],(l.length:Int))=some (l.take a++z::l.drop a):=by
 have key:=lQ (step:=fun s:List aJ × Int=>aAq (a:Int) s.1 s.2) (fun s=>∃ (k:Nat) (z:aJ),s=(l.take k++z::l.drop k,(k:Int))/\a<=k/\k<=l.length) (fun s=>s.2.toNat)
  (fun x=>∃ z:aJ,x=l.take a++z::l.drop a) (fun s hI=>?_) (s:=(l++[[]],(l.length:Int))) ⟨l.length,[],by simp,ha,Nat.le_refl _⟩
 ·obtain ⟨r,h1,z,rfl⟩:=key
  exact ⟨z,h1⟩
 ·obtain ⟨k,z,rfl,hak,hk⟩:=hI
  simp only [aAq]
  have hlen:(l.take k++z::l.drop k).length=l.length+1:=by simp;omega
  by_cases h0:a < k
  ·have hk1:wr ((k:Int) - 1)=((k - 1:Nat):Int):=by rw [bT (by omega) (by omega)];omega
   rw [decide_eq_true (p:=(a:Int) < (k:Int)) (by omega),if_pos rfl,hk1,bS (xs:=l.take k++z::l.drop k) (k:=k - 1) (by omega),aA,bS (by omega),aA,pL _ (by omega),aA]
   left
   refine ⟨_,rfl,⟨k - 1,l[k - 1],?_,by omega,by omega⟩,by simp;omega⟩
   have e1:(l.take k++z::l.drop k)[k - 1]'(by omega)=l[k - 1]:=by
    rw [List.getElem_append_left (by simp;omega),List.getElem_take]
   rw [e1]
   have e2:(l.take k++z::l.drop k).set k l[k - 1]=l.take k++l[k - 1]::l.drop k:=by
    rw [List.set_append_right _ _ (by rw [List.length_take];omega)]
    simp [Nat.min_eq_left hk]
   have e3:l.take k=l.take (k - 1)++[l[k - 1]]:=by
    have:=List.take_add_one (l:=l) (i:=k - 1)
    rw [show k - 1+1=k by omega,List.getElem?_eq_getElem (by omega)] at this
    exact this
   have e4:l.drop (k - 1)=l[k - 1]::l.drop k:=by
    have:=List.drop_eq_getElem_cons (l:=l) (i:=k - 1) (by omega)
    rw [show k - 1+1=k by omega] at this
    exact this
   simp only [Prod.mk.injEq,and_true]
   rw [e2,e3,e4,List.append_assoc];rfl
  ·obtain rfl:k=a:=by omega
   right
   rw [decide_eq_false (p:=(k:Int) < (k:Int)) (by omega),if_neg (by simp)]
   exact ⟨_,rfl,z,rfl⟩
theorem join_find (l:List aJ) (e:aJ) (h1:1<=l.length) (h:l.length < 1000000000):∃ a:Nat,loop (fun s:Int=>wI l e s) 1=some (a:Int)/\1<=a/\a<=l.length/\(∀ (j:Nat) x,1<=j->j < a->l[j]?=some x->ltB x e=true)/\(∀ x,l[a]?=some x->ltB x e=false):=by
 have key:=lQ (step:=fun s:Int=>wI l e s) (fun s=>∃ a:Nat,s=(a:Int)/\1<=a/\a<=l.length/\∀ (j:Nat) x,1<=j->j < a->l[j]?=some x->ltB x e=true) (fun s=>l.length - s.toNat)
  (fun r=>∃ a:Nat,r=(a:Int)/\1<=a/\a<=l.length/\(∀ (j:Nat) x,1<=j->j < a->l[j]?=some x->ltB x e=true)/\(∀ x,l[a]?=some x->ltB x e=false)) (fun s hI=>?_) (s:=1) ⟨1,rfl,Nat.le_refl _,h1,fun j x g1 g2=>by omega⟩
 ·obtain ⟨r,hr,a,rfl,h2⟩:=key
  exact ⟨a,hr,h2⟩
 ·obtain ⟨a,rfl,ha1,ha,hall⟩:=hI
  by_cases hlt:a < l.length
  ·have hx:l[a]?=some l[a]:=List.getElem?_eq_getElem hlt
   simp only [wI,bV hlt,if_pos,bS hlt,aA,aAr]
   cases he:ltB l[a] e with
   |true=>
    left
    refine ⟨_,by rw [if_pos rfl,bQ hlt (by omega)],⟨a+1,rfl,by omega,by omega,fun j x g1 g2 hj=>?_⟩,by simp;omega⟩
    by_cases e1:j=a
    ·subst e1;rw [hx] at hj;cases hj;exact he
    ·exact hall j x g1 (by omega) hj
   |false=>
    right
    refine ⟨_,by rw [if_neg (by simp)],a,rfl,ha1,ha,hall,fun x hj=>?_⟩
    rw [hx] at hj;cases hj;exact he
  ·obtain rfl:a=l.length:=by omega
   right
   refine ⟨_,by simp only [wI,jH,aAr];rw [if_neg (by simp),if_neg (by simp)],_,rfl,ha1,Nat.le_refl _,hall,fun x hx=>?_⟩
   rw [List.getElem?_eq_none (Nat.le_refl _)] at hx;cases hx
theorem join_step (xs:List aJ) (M:List aJ) (hM:tP M) (hl:M.length < 1000000) (hx:xs.length < 1000000) {k:Nat} (hk:k < xs.length):∃ M',sY xs (eQ::M) (k:Int)=some (.inl (eQ::M',((k+1:Nat):Int)))/\tP M'/\(∀ s,s∈M'<->s∈M\/(s=xs[k]/\s≠eQ))/\M'.length<=M.length+1:=by
 have hw:=bQ hk (show xs.length < 4611686018427387904 by omega)
 simp only [sY,bV hk,if_pos,bS hk,aA,aNH (eQ::M) xs[k] (by simp;omega),wH,hw]
 by_cases hm:xs[k]∈eQ::M
 ·rw [if_pos (by simpa using pos_iff.2 hm)]
  refine ⟨M,rfl,hM,fun s=>⟨.inl,?_⟩,by omega⟩
  rintro (h|⟨rfl,h⟩)
  ·exact h
  ·rcases List.mem_cons.1 hm with h'|h'
   ·exact absurd h' h
   ·exact h'
 ·rw [if_neg (by have:¬ 0<=pos (eQ::M) xs[k]:=fun h=>hm (pos_iff.1 h);simpa using this)]
  have hne:xs[k]≠eQ:=fun h=>hm (by rw [h];simp)
  have hnm:xs[k]∉M:=fun h=>hm (by simp [h])
  obtain ⟨a,h1,h2,h3,h4,h5⟩:=join_find (eQ::M) xs[k] (by simp) (by simp;omega)
  rw [h1,aA]
  unfold aCS
  rw [cG (by simp [iE];omega),aA]
  have hk1:wr ((((eQ::M)++([([]:aJ)]:List aJ)).length:Int) - 1)=((eQ::M).length:Int):=by
   simp only [List.length_append,List.length_cons,List.length_nil]
   rw [bT (by omega) (by omega)];omega
  rw [hk1]
  obtain ⟨z,hz⟩:=aRU (eQ::M) a h3 (by simp;omega)
  rw [hz,aA]
  unfold aCR
  have hlen:((eQ::M).take a++z::(eQ::M).drop a).length=(eQ::M).length+1:=by simp;omega
  rw [bS (by omega),aA,pL _ (by omega),aA]
  have e2:((eQ::M).take a++z::(eQ::M).drop a).set a xs[k]=(eQ::M).take a++xs[k]::(eQ::M).drop a:=by
   rw [List.set_append_right _ _ (by rw [List.length_take];omega),List.length_take,Nat.min_eq_left h3,Nat.sub_self];rfl
  rw [e2]
  obtain ⟨b,rfl⟩:∃ b,a=b+1:=⟨a - 1,by omega⟩
  have h3':b<=M.length:=by simpa using h3
  have hbef:∀ x∈M.take b,ltB x xs[k]=true:=fun x hx=>by
   obtain ⟨j,hj,rfl⟩:=List.getElem_of_mem hx
   rw [List.length_take] at hj
   exact h4 (j+1) _ (by omega) (by omega) (by rw [List.getElem_take,List.getElem?_cons_succ];exact List.getElem?_eq_getElem (by omega))
  have haft:∀ x∈M.drop b,ltB xs[k] x=true:=fun x hx=>by
   obtain ⟨j,hj,rfl⟩:=List.getElem_of_mem hx
   rw [List.length_drop] at hj
   have hb:b < M.length:=by omega
   have g:ltB M[b] xs[k]=false:=h5 _ (by rw [List.getElem?_cons_succ];exact List.getElem?_eq_getElem hb)
   have g2:ltB xs[k] M[b]=true:=by
    rcases aPK xs[k] M[b] with t|t|t
    ·exact t
    ·exact absurd (t ▸ List.getElem_mem hb) hnm
    ·rw [g] at t;cases t
   rw [List.getElem_drop]
   by_cases j0:j=0
   ·subst j0;exact g2
   ·exact aBz g2 (List.pairwise_iff_getElem.1 hM.1 b (b+j) hb (by omega) (by omega))
  refine ⟨M.take b++xs[k]::M.drop b,by unfold wH;rw [hw];rfl,⟨?_,fun h=>?_⟩,fun s=>?_,by simp;omega⟩
  ·have hs':(M.take b++M.drop b).Pairwise fun a b=>ltB a b=true:=by rw [List.take_append_drop];exact hM.1
   rw [List.pairwise_append] at hs'
   rw [List.pairwise_append,List.pairwise_cons]
   refine ⟨hs'.1,⟨haft,hs'.2.1⟩,fun x hx y hy=>?_⟩
   rcases List.mem_cons.1 hy with rfl|hy
   ·exact hbef x hx
   ·exact aBz (hbef x hx) (haft y hy)
  ·rw [List.mem_append,List.mem_cons] at h
   rcases h with h|h|h
   ·exact hM.2 (List.mem_of_mem_take h)
   ·exact hne h.symm
   ·exact hM.2 (List.mem_of_mem_drop h)
  ·rw [List.mem_append,List.mem_cons]
   conv=>rhs;rw [←List.take_append_drop b M,List.mem_append]
   constructor
   ·rintro (g|g|g)
    ·simp [g]
    ·exact .inr ⟨g,g ▸ hne⟩
    ·simp [g]
   ·rintro ((g|g)|⟨g,_⟩)<;>simp [g]
theorem aQS (xs:List aJ) (hx:xs.length < 1000000):∃ M,aFL xs=some (eQ::M)/\tP M/\(∀ s,s∈M<->s∈xs/\s≠eQ)/\M.length<=xs.length:=by
 have key:=dO (step:=fun s:List aJ × Int=>sY xs s.1 s.2) xs.length (fun k (M:List aJ)=>(eQ::M,(k:Int))) (fun k M=>tP M/\(∀ s,s∈M<->s∈xs.take k/\s≠eQ)/\M.length<=k)
  (fun r=>∃ M,r=eQ::M/\tP M/\(∀ s,s∈M<->s∈xs/\s≠eQ)/\M.length<=xs.length) (fun k M hk hI=>?_) (fun M hI=>?_) xs.length 0 [] (by omega) ⟨⟨by simp,by simp⟩,by simp,by simp⟩
 ·obtain ⟨r,h1,M,rfl,h2⟩:=key
  refine ⟨M,?_,h2⟩
  unfold aFL
  rw [show loop (fun s:List aJ × Int=>sY xs s.1 s.2) ([[116,97,117]],0)=some (eQ::M) from h1];rfl
 ·obtain ⟨i1,i2,i3⟩:=hI
  obtain ⟨M',g1,g2,g3,g4⟩:=join_step xs M i1 (by omega) hx hk
  refine ⟨M',g1,g2,fun s=>?_,by omega⟩
  rw [g3 s,i2 s,List.take_add_one,List.getElem?_eq_getElem hk,List.mem_append]
  simp only [Option.toList_some,List.mem_singleton]
  constructor
  ·rintro (⟨a,b⟩|⟨a,b⟩)
   ·exact ⟨.inl a,b⟩
   ·exact ⟨.inr a,b⟩
  ·rintro ⟨a|a,b⟩
   ·exact .inl ⟨a,b⟩
   ·exact .inr ⟨a,b⟩
 ·obtain ⟨i1,i2,i3⟩:=hI
  rw [List.take_length] at i2
  exact ⟨_,by simp only [sY,jH];rfl,M,rfl,i1,i2,i3⟩
theorem aQT {M M':List aJ} (h:tP M) (h':tP M') (hm:∀ s,s∈M<->s∈M'):M=M':=
 aGJ (R:=fun a b=>ltB a b=true) (fun a h=>by rw [zM] at h;cases h) aBz h.1 h'.1 hm
theorem se_uniq {A B:List Edge} (h:SE A) (h':SE B) (hm:∀ x,x∈A<->x∈B):A=B:=
 aGJ (R:=fun a b=>cK a b=true) (fun a h=>by rw [aGK] at h;cases h) (fun h1 h2=>aGL h1 h2) h h' hm
theorem make_gen {texts M:List aJ} {edges Eo:List Edge} (ht:texts.length < 1000000) (hM:tP M) (hm:∀ s,s∈M<->s∈texts/\s≠eQ) (hlen:edges.length < 1000000) (hin:∀ e∈edges,0<=e.B/\e.B < texts.length)
  (hEE:SE Eo) (he:∀ x,x∈Eo<->∃ e∈edges,x=⟨e.F,pos (eQ::M) (texts.getD e.B.toNat []),e.To⟩) (st ini:Int):aDp st ini texts edges=some ⟨st,ini,eQ::M,Eo⟩:=by
 obtain ⟨M',j1,j2,j3,j4⟩:=aQS texts ht
 obtain rfl:M'=M:=aQT j2 hM fun s=>(j3 s).trans (hm s).symm
 unfold aDp
 rw [j1,aA]
 have key:=dO (step:=fun s:List Edge × Int=>wJ texts edges (eQ::M') s.1 s.2) edges.length (fun k (a:List Edge)=>(a,(k:Int))) (fun k a=>SE a/\(∀ x,x∈a<->∃ e∈edges.take k,x=⟨e.F,pos (eQ::M') (texts.getD e.B.toNat []),e.To⟩)/\a.length<=k)
  (fun x=>x=Eo) (fun k a hk hI=>?_) (fun a hI=>?_) edges.length 0 [] (by omega) ⟨List.Pairwise.nil,by simp,by simp⟩
 ·obtain ⟨x,hx,hx2⟩:=key
  have hx':loop (fun s:List Edge × Int=>wJ texts edges (eQ::M') s.1 s.2) (([]:List Edge),0)=some x:=hx
  rw [hx',aA,hx2];rfl
 ·obtain ⟨hs,hmem,hl⟩:=hI
  have hi:=hin _ (List.getElem_mem hk)
  have hlt:edges[k].B.toNat < texts.length:=by omega
  have hgd:texts.getD edges[k].B.toNat []=texts[edges[k].B.toNat]:=by rw [List.getD_eq_getElem?_getD,List.getElem?_eq_getElem hlt];rfl
  simp only [wJ,bV hk,if_pos,bS hk,aA]
  rw [aHq hi.1 hlt,aA,aNH _ _ (by simp;omega),aA,←hgd]
  obtain ⟨l',h1,h2,h3,h4⟩:=l11Put_eq a ⟨edges[k].F,pos (eQ::M') (texts.getD edges[k].B.toNat []),edges[k].To⟩ (by omega) hs
  rw [h1,aA]
  refine ⟨l',by rw [bQ hk (show edges.length < 4611686018427387904 by omega)],h2,fun x=>?_,by omega⟩
  rw [h3,hmem,List.take_add_one,List.getElem?_eq_getElem hk]
  simp only [Option.toList_some,List.mem_append,List.mem_singleton]
  constructor
  ·rintro (g|⟨e,g1,g2⟩)
   ·exact ⟨_,.inr rfl,g⟩
   ·exact ⟨e,.inl g1,g2⟩
  ·rintro ⟨e,g1|rfl,g2⟩
   ·exact .inr ⟨e,g1,g2⟩
   ·exact .inl g2
 ·obtain ⟨hs,hmem,hl⟩:=hI
  rw [List.take_length] at hmem
  exact ⟨a,by simp only [wJ,jH];rfl,se_uniq hs hEE fun x=>(hmem x).trans (he x).symm⟩
end Gv
namespace Gv
open Go
structure Jn (a b:cN) (M:List aJ):Prop where
 str:tP M
 mem:∀ s,s∈M<->s∈a.L++b.L/\s≠eQ
 len:M.length<=24
def inQ (a b:cN) (q:Int × Int):Prop:=(0<=q.1/\q.1 < a.N)/\0<=q.2/\q.2 < b.N
section
variable {a b:cN} {M:List aJ}
def atQ (F:List (Int × Int)) (i:Int):Int × Int:=F.getD i.toNat (0,0)
theorem atQ_mem {F:List (Int × Int)} {i:Int} (h0:0<=i) (h:i < F.length):atQ F i∈F:=by
 unfold atQ;rw [List.getD_eq_getElem?_getD,List.getElem?_eq_getElem (by omega)];exact List.getElem_mem _
theorem atQ_inj {F:List (Int × Int)} (hn:F.Nodup) {i j:Int} (hi:0<=i/\i < F.length) (hj:0<=j/\j < F.length) (h:atQ F i=atQ F j):i=j:=by
 unfold atQ at h
 rw [List.getD_eq_getElem?_getD,List.getElem?_eq_getElem (by omega),List.getD_eq_getElem?_getD,List.getElem?_eq_getElem (by omega)] at h
 simp only [Option.getD_some] at h
 have:=(List.getElem_inj hn).1 h
 omega
def Bnd (s:List (Int × Int) × List Edge):Prop:=∀ e∈s.2,(0<=e.F/\e.F < s.1.length)/\0<=e.To/\e.To < s.1.length
theorem Bnd.add {s:List (Int × Int) × List Edge} (h:Bnd s) {i:Nat} (hi:i < s.1.length) (x:Int × (Int × Int)):Bnd (add1 id (i:Int) s x):=by
 intro e he
 have hl:=(insK_pre (key:=id) s.1 x.2).length_le
 have ha:=atK_in (key:=id) s.1 x.2
 simp only [add1] at he ⊢
 rcases List.mem_append.1 he with he|he
 ·have:=h e he;omega
 ·simp at he;subst he
  simp only;omega
def imE (g:Int × Int->Int) (F:List (Int × Int)) (E:List Edge):List Edge:=E.map fun e=>⟨g (atQ F e.F),e.B,g (atQ F e.To)⟩
theorem imE_nodup {g:Int × Int->Int} {F:List (Int × Int)} {E:List Edge} (hb:Bnd (F,E)) (hn:F.Nodup) (hg:∀ p∈F,∀ q∈F,g p=g q->p=q) (hE:E.Pairwise flLt):(imE g F E).Nodup:=by
 unfold imE List.Nodup
 rw [List.pairwise_map]
 refine hE.imp_of_mem ?_
 intro e f he hf h heq
 simp only [Edge.mk.injEq] at heq
 have h1:=hb e he
 have h2:=hb f hf
 simp only at h1 h2
 have:=atQ_inj hn h1.1 h2.1 (hg _ (atQ_mem h1.1.1 h1.1.2) _ (atQ_mem h2.1.1 h2.1.2) heq.1)
 unfold flLt at h
 omega
theorem aOS (p q:Int × Int):prLt p q=true<->p.1 < q.1\/(p.1=q.1/\p.2 < q.2):=by
 simp [prLt]
end
end Gv
namespace Gv
open Go
theorem name_eq (s:aJ) (h:s.length < 4611686018427387904):aAE s=some (iQ 40 s).1:=by
 unfold aAE
 rw [aNp s h,aA]
 have hl:=(aOJ 40 s).1
 have ha:=aBy 40 s
 have:slc s 0 ((iQ 40 s).1.length:Int)=some (iQ 40 s).1:=by
  unfold slc
  rw [if_pos ⟨by omega,by omega,by omega⟩]
  simp only [Int.toNat_natCast,Int.toNat_zero,List.drop_zero,Nat.sub_zero]
  congr 1
  generalize iQ 40 s=c at ha ⊢
  rw [ha,List.take_append_of_le_length (Nat.le_refl _),List.take_length]
 rw [this];rfl
structure Shd (M sh:List aJ):Prop where
 len:sh.length<=1000
 mem:∀ s∈M,(iQ 40 s).1∈sh
def nm (b:cN) (q:Int × Int):Int:=q.1 * b.N+q.2
section
variable {a b:cN} {M sh:List aJ}
theorem nm_lt (hb:cM b) {p q:Int × Int} (hp:0<=p.2/\p.2 < b.N) (hq:0<=q.2/\q.2 < b.N):prLt p q=true<->nm b p < nm b q:=by
 have h2:=hb.1
 rw [aOS]
 unfold nm
 constructor
 ·rintro (h|⟨h,h'⟩)
  ·have:(p.1+1) * b.N<=q.1 * b.N:=Int.mul_le_mul_of_nonneg_right (by omega) (by omega)
   rw [Int.add_mul,Int.one_mul] at this
   omega
  ·rw [h];omega
 ·intro h
  rcases Int.lt_trichotomy p.1 q.1 with g|g|g
  ·exact .inl g
  ·right;rw [g] at h;omega
  ·exfalso
   have:(q.1+1) * b.N<=p.1 * b.N:=Int.mul_le_mul_of_nonneg_right (by omega) (by omega)
   rw [Int.add_mul,Int.one_mul] at this
   omega
theorem nm_inj (hb:cM b) {p q:Int × Int} (hp:0<=p.2/\p.2 < b.N) (hq:0<=q.2/\q.2 < b.N) (h:nm b p=nm b q):p=q:=by
 have h1:=nm_lt hb hp hq
 have h2:=nm_lt hb hq hp
 rw [aOS] at h1 h2
 obtain ⟨p1,p2⟩:=p
 obtain ⟨q1,q2⟩:=q
 simp only [Prod.mk.injEq] at *
 omega
end
end Gv
namespace Gv
open Go
def aJN (n:Int):List Int->List Int
 |[]=>[n]
 |x::l=>if n < x then n::x::l else if n=x then x::l else x::aJN n l
def goZ (n:Int):List Int->List Int × Bool->List Int × Bool
 |[],s=>s
 |x::l,s=>if s.2=false/\n<=x then goZ n l ((if n < x then s.1++[n] else s.1)++[x],true) else goZ n l (s.1++[x],s.2)
theorem aQU (n:Int):∀ (l o:List Int),goZ n l (o,true)=(o++l,true)
 |[],o=>by simp [goZ]
 |x::l,o=>by unfold goZ;rw [if_neg (by simp)];rw [aQU n l];simp
theorem goZ_le {n x:Int} {l o:List Int} (h:n<=x):goZ n (x::l) (o,false)=(((if n < x then o++[n] else o)++[x])++l,true):=by
 rw [goZ,if_pos ⟨rfl,h⟩,aQU]
theorem goZ_gt {n x:Int} {l o:List Int} (h:¬ n<=x):goZ n (x::l) (o,false)=goZ n l (o++[x],false):=by
 rw [goZ,if_neg (fun g=>h g.2)]
theorem goZ_fin (n:Int):∀ (l o:List Int),(if (goZ n l (o,false)).2=true then (goZ n l (o,false)).1 else (goZ n l (o,false)).1++[n])=o++aJN n l
 |[],o=>by simp [goZ,aJN]
 |x::l,o=>by
  by_cases h1:n<=x
  ·rw [goZ_le h1,if_pos rfl,aJN]
   by_cases h2:n < x
   ·rw [if_pos h2,if_pos h2];simp
   ·rw [if_neg h2,if_neg h2,if_pos (by omega)];simp
  ·rw [goZ_gt h1,goZ_fin n l,aJN,if_neg (by omega),if_neg (by omega)];simp
theorem aQV {n q:Int}:∀ {l:List Int},q∈aJN n l<->q=n\/q∈l
 |[]=>by simp [aJN]
 |x::l=>by
  unfold aJN
  split
  ·simp
  ·split
   ·rename_i h;subst h;simp
   ·rw [List.mem_cons,aQV,List.mem_cons]
    constructor
    ·rintro (h|h|h)<;>simp [h]
    ·rintro (h|h|h)<;>simp [h]
theorem aQW (n:Int):∀ l:List Int,(aJN n l).length<=l.length+1
 |[]=>by simp [aJN]
 |x::l=>by
  have:=aQW n l
  unfold aJN
  split
  ·simp
  ·split
   ·simp
   ·rw [List.length_cons,List.length_cons];omega
theorem put_eq (list:List Int) (n:Int) (h:list.length < 1000000):aHU list n=some (aJN n list):=by
 unfold aHU
 have:=aBw (step:=fun s:List Int × Bool × Int=>sU list n s.1 s.2.1 s.2.2) list (fun k (a:List Int × Bool)=>(a.1,a.2,(k:Int))) (fun l a=>goZ n l a) (fun k a=>a.1.length<=2 * k) (fun k a x l hk hx hI=>?_) (fun a _=>?_) (a:=([],false)) (by simp)
 ·rw [show loop (fun s:List Int × Bool × Int=>sU list n s.1 s.2.1 s.2.2) ([],false,0)=_ from this,aA]
  have hf:=goZ_fin n list []
  have hlen:(goZ n list ([],false)).1.length<=list.length+1:=by
   have hl:=aQW n list
   rw [List.nil_append] at hf
   rw [←hf] at hl
   split at hl
   ·exact hl
   ·simp at hl;omega
  unfold aES aER
  rw [List.nil_append] at hf
  cases hd:(goZ n list ([],false)).2 with
  |true=>rw [hd] at hf;simp only [if_true] at hf;rw [if_neg (by simp),hf]
  |false=>rw [hd] at hf;simp only [Bool.false_eq_true,if_false] at hf;rw [if_pos (by simp),cG (by simp [iE];omega),aA,hf]
 ·left
  obtain ⟨o,d⟩:=a
  have hI':o.length<=2 * k:=hI
  have hw:=bQ hk (show list.length < 4611686018427387904 by omega)
  have hap:∀ (o:List Int) (z:Int),o.length<=2 * k+1->pS o [z]=some (o++[z]):=fun o z h=>cG (by simp [iE];omega)
  have hst:sU list n o d (k:Int)=some (.inl (if d=false/\n<=x then ((if n < x then o++[n] else o)++[x],true,((k+1:Nat):Int)) else (o++[x],d,((k+1:Nat):Int)))):=by
   unfold sU aCe aCd
   rw [if_pos (bV hk)]
   cases d with
   |true=>
    rw [if_neg (by simp),if_neg (by simp),hx,aA,hap o x (by omega),aA,hw,if_neg (by simp)]
   |false=>
    rw [if_pos (by simp),hx,aA]
    by_cases h1:n<=x
    ·rw [if_pos (by simpa using h1),aA]
     by_cases h2:n < x
     ·rw [if_pos (by simpa using h2),hap o n (by omega),aA,aA,hap (o++[n]) x (by simp;omega),aA,hw,if_pos ⟨rfl,h1⟩,if_pos h2]
     ·rw [if_neg (by simpa using h2),aA,hap o x (by omega),aA,hw,if_pos ⟨rfl,h1⟩,if_neg h2]
    ·rw [if_neg (by simpa using h1),aA,hap o x (by omega),aA,hw,if_neg (fun h=>h1 h.2)]
  simp only
  rw [hst]
  by_cases h1:d=false/\n<=x
  ·rw [if_pos h1]
   refine ⟨((if n < x then o++[n] else o)++[x],true),rfl,?_,?_⟩
   ·simp only;split<;>simp<;>omega
   ·conv=>rhs;unfold goZ
    rw [if_pos h1]
  ·rw [if_neg h1]
   refine ⟨(o++[x],d),rfl,by simp;omega,?_⟩
   conv=>rhs;unfold goZ
   rw [if_neg h1]
 ·show sU list n a.1 a.2 (list.length:Int)=_
  unfold sU
  rw [if_neg (by simp)];rfl
section
variable {a b:cN} {M sh:List aJ}
structure Rf (b:cN) (s:List (Int × Int) × List Edge) (ed:List Edge):Prop where
 se:SE ed
 mem:∀ x,x∈ed<->x∈imE (nm b) s.1 s.2
theorem aQX {l:List Edge} (h:SE l):l.Nodup:=h.imp fun {x y} h e=>by subst e;rw [aGK] at h;cases h
theorem Rf.len (hb:cM b) {s:List (Int × Int) × List Edge} {ed:List Edge} (h:Rf b s ed) (hB:Bnd s) (hn:s.1.Nodup) (hq:∀ q∈s.1,inQ a b q) (hE:s.2.Pairwise flLt):ed.length=s.2.length:=by
 have h1:=imE_nodup (g:=nm b) hB hn (fun p hp q hq'=>nm_inj hb (hq p hp).2 (hq q hq').2) hE
 have:=((List.perm_ext_iff_of_nodup (aQX h.se) h1).2 h.mem).length_eq
 rw [this];unfold imE;simp
end
end Gv
namespace Gv
open Go
section
variable {a b:cN} {M sh:List aJ}
end
end Gv
namespace Gv
open Go
def zm (F:List (Int × Int)):List ((Int × Int) × Int):=F.map fun q=>(q,0)
theorem aDx {κ:Type} [DecidableEq κ] {k q:κ} {v:Int}:∀ {m:List (κ × Int)},mF (wD m k v) q=if q=k then some v else mF m q
 |[]=>by simp [wD,mF]
 |(x,u)::m=>by
  have ih:=aDx (k:=k) (q:=q) (v:=v) (m:=m)
  unfold wD
  by_cases e:k=x
  ·subst e
   rw [if_pos rfl,mF,mF]
   by_cases h:q=k
   ·rw [if_pos h,if_pos h]
   ·rw [if_neg h,if_neg h,if_neg h]
  ·rw [if_neg e,mF,mF,ih]
   by_cases h:q=x
   ·subst h
    rw [if_pos rfl,if_neg (fun h=>e h.symm),if_pos rfl]
   ·rw [if_neg h,if_neg h]
section
variable {a b:cN} {M:List aJ}
end
end Gv
namespace Gv
open Go
section
variable {a b:cN} {M:List aJ}
end
end Gv
