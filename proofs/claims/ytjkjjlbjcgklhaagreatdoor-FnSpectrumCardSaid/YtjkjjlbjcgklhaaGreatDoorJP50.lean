/- Sets of states, as lists; sets closed under inner steps: the reference's and the program's. -/
import Derived.Test.YtjkjjlbjcgklhaaGreatDoorJP20
set_option linter.all false
namespace Gv
open Go
theorem aDE (s:List Int) (h:s.length < 1000000000):bU s=some (iI s):=by
 unfold bU
 by_cases h2:s.length < 2
 ·rw [if_pos (by simp;omega)]
  rcases s with _|⟨a,_|⟨b,l⟩⟩
  ·rfl
  ·rfl
  ·simp at h2;omega
 rw [if_neg (by simp;omega)]
 have:=aOc (step:=fun k=>eP s k) s.length (fun k (_:Unit)=>(k:Int)) (fun k _=>1<=k/\iI (s.take k)=s.take k) (fun r=>r=.inr (iI s)\/(r=.inl ()/\iI s=s)) (fun k a hk hI=>?_) (fun a hI=>?_) (s.length - 1) 1 () (by omega) ⟨Nat.le_refl _,?_⟩
 ·obtain ⟨r,hr,hR⟩:=this
  rw [show (1:Int)=((1:Nat):Int) from rfl,hr,aA]
  rcases hR with rfl|⟨rfl,h⟩
  ·rfl
  ·rw [h];rfl
 ·obtain ⟨i1,i2⟩:=hI
  have hk1:wr ((k:Int) - 1)=((k - 1:Nat):Int):=by rw [fS (by omega) (by omega)];omega
  have hdt:=aKu (s:=s) (m:=k) i1 hk
  simp only [eP,bD hk,if_pos,bE hk,aA,hk1,bE (xs:=s) (k:=k - 1) (by omega),fU,aW hk (show s.length < 4611686018427387904 by omega)]
  by_cases e:s[k]=s[k - 1]'(by omega)
  ·right
   rw [if_pos e.symm,i2] at hdt
   rw [if_pos (by simpa using e),aIS (by omega),aA]
   obtain ⟨s',w,hl,g1,g2,g3⟩:=aJY (step:=fun x:List Int × Int × Int=>eO (k:Int) (s.drop k) x.1 x.2.1 x.2.2) s k i1 hk hdt (fun j w s' x y j1 j2 j3 j4 hx hy=>by
    have hl:(s.drop k).length=s.length - k:=by simp
    have a1:(k:Int)+(j:Int)=((k+j:Nat):Int):=by omega
    have a2:wr ((j:Int) - 1)=((j - 1:Nat):Int):=by rw [fS (by omega) (by omega)];omega
    have a3:(k:Int)+((j - 1:Nat):Int)=((k+j - 1:Nat):Int):=by omega
    simp only [eO,hl,bD (show j < s.length - k by omega),if_pos,bE (xs:=s.drop k) (k:=j) (by omega),aA,a1,aFZ,hx,a2,List.getElem?_eq_getElem (show j - 1 < (s.drop k).length by omega),a3,hy,eN,aW (show j < s.length - k by omega) (by omega),List.getElem?_eq_getElem (show w < s'.length by omega),aCs (xs:=s') (k:=w) _ (by omega),aW j4 (show s.length < 4611686018427387904 by omega)]
    by_cases e:x=y<;>simp [e]) (fun s' w=>by
     have hl:(s.drop k).length=s.length - k:=by simp
     simp only [eO,hl,bI];rfl)
   rw [hl,aA]
   unfold fV
   simp only
   rw [aIS (by omega),aA,aOb _ (by omega),aA,slc_to (by simp;omega),aA]
   refine ⟨_,rfl,.inl ?_⟩
   rw [List.take_append_of_le_length (by simp;omega),List.take_take,Nat.min_self,g3]
  ·left
   rw [if_neg (by simpa using e)]
   refine ⟨(),rfl,by omega,?_⟩
   rw [hdt,if_neg (fun h=>e h.symm),i2,List.take_add_one]
   simp [hk]
 ·refine ⟨_,by simp only [eP,bI];rfl,.inr ⟨rfl,?_⟩⟩
  have:=hI.2
  rwa [List.take_of_length_le (by omega)] at this
 ·rcases s with _|⟨a,l⟩
  ·rfl
  ·rfl
structure nU (xs:List Int) (X:Int->Prop):Prop where
 ord:xs.Pairwise (· < ·)
 mem:∀ q,q∈xs<->X q
theorem nU.eq {xs ys:List Int} {X:Int->Prop} (a:nU xs X) (b:nU ys X):xs=ys:=
 aAT (R:=fun a b:Int=>a < b) (fun a=>Int.lt_irrefl a) (fun h1 h2=>Int.lt_trans h1 h2) a.ord b.ord fun q=>(a.mem q).trans (b.mem q).symm
theorem nU.iff {xs:List Int} {X Y:Int->Prop} (a:nU xs X) (h:∀ q,X q<->Y q):nU xs Y:=⟨a.ord,fun q=>(a.mem q).trans (h q)⟩
theorem nU.len {xs:List Int} {X:Int->Prop} (a:nU xs X) {n:Nat} (h:∀ q,X q->0<=q/\q < n):xs.length<=n:=by
 have hn:xs.Nodup:=a.ord.imp fun h=>by omega
 have:=List.Nodup.length_le_of_subset (l₂:=(List.range n).map Int.ofNat) hn (fun x hx=>by
  have:=h x ((a.mem x).1 hx)
  rw [List.mem_map]
  exact ⟨x.toNat,by rw [List.mem_range];omega,by show ((x.toNat:Nat):Int)=x;omega⟩)
 simpa using this
theorem aSm {n:Nat} (f:Nat->Bool) {X:Int->Prop} (h:∀ i:Nat,i < n->(f i=true<->X (i:Int))) (h':∀ q,X q->0<=q/\q < n):nU (((List.range n).filter f).map Int.ofNat) X:=by
 refine ⟨?_,fun q=>?_⟩
 ·rw [List.pairwise_map]
  refine (List.Pairwise.filter _ List.pairwise_lt_range).imp fun {a b} hab=>?_
  show ((a:Nat):Int) < (b:Nat);omega
 ·rw [List.mem_map]
  constructor
  ·rintro ⟨i,hi,rfl⟩
   rw [List.mem_filter,List.mem_range] at hi
   exact (h i hi.1).1 hi.2
  ·intro hq
   have:=h' q hq
   refine ⟨q.toNat,?_,by show ((q.toNat:Nat):Int)=q;omega⟩
   rw [List.mem_filter,List.mem_range]
   refine ⟨by omega,(h _ (by omega)).2 ?_⟩
   rw [show ((q.toNat:Nat):Int)=q by omega];exact hq
def iLt (a b:Int):Bool:=decide (a < b)
theorem yK {xs:List Int}:nU (iI (tI iLt xs)) (fun q=>q∈xs):=by
 have h1:(tI iLt xs).Pairwise fun a b=>a<=b:=by
  have:=List.pairwise_mergeSort (le:=fun a b=>!iLt b a) (fun a b c h1 h2=>by unfold iLt at *;simp at *;omega) (fun a b=>by unfold iLt;simp;omega) xs
  refine this.imp fun {a b} h=>?_
  unfold iLt at h;simpa using h
 refine ⟨aCF (R:=fun a b:Int=>a<=b) (S:=fun a b:Int=>a < b) (fun h hne=>by omega) (fun h h'=>by omega) h1,fun q=>?_⟩
 rw [aCE];unfold tI;rw [List.mem_mergeSort]
theorem aOh {xs:List Int} (hn:xs.Nodup):nU (tI iLt xs) (fun q=>q∈xs):=by
 refine ⟨(aKw iLt (fun a=>by simp [iLt]) (fun {a b c} h1 h2=>by unfold iLt at *;simp at *;omega) (fun a b=>by unfold iLt;simp;omega) hn).imp fun h=>by unfold iLt at h;simpa using h,fun q=>?_⟩
 unfold tI;rw [List.mem_mergeSort]
theorem uK {xs:List Int} (h:xs.length < 1000000000):vA xs=some (tI iLt xs):=by
 unfold vA;rw [if_pos (by unfold iO;omega)];rfl
inductive Cl (t:aO) (X:Int->Prop):Int->Prop
 |base {q:Int}:X q->Cl t X q
 |step {e:Edge}:e∈t.E->e.B=0->Cl t X e.F->Cl t X e.To
section
variable {t:aO} {X:Int->Prop}
theorem aFr (hv:aN t) {e:Edge} (he:e∈t.E):(0<=e.F/\e.F < t.N)/\(0<=e.To/\e.To < t.N)/\0<=e.B/\e.B < t.L.length:=by
 have h:=nS hv he
 unfold aAR at h
 omega
theorem Cl.inn (hv:aN t) (h0:∀ q,X q->0<=q/\q < t.N) {q:Int} (h:Cl t X q):0<=q/\q < t.N:=by
 induction h with
 |base h=>exact h0 _ h
 |step he _ _ _=>have:=(aFr hv he).2.1;omega
theorem Cl.congr {Y:Int->Prop} (h:∀ q,X q->Y q) {q:Int} (hc:Cl t X q):Cl t Y q:=by
 induction hc with
 |base hx=>exact .base (h _ hx)
 |step a b _ ih=>exact .step a b ih
theorem Cl.iff {Y:Int->Prop} (h:∀ q,X q<->Y q) (q:Int):Cl t X q<->Cl t Y q:=⟨Cl.congr fun q=>(h q).1,Cl.congr fun q=>(h q).2⟩
theorem close_eq (hv:aN t) {m:List Bool} (hm:m.length=t.N.toNat) (hX:∀ i:Nat,on m i<->X (i:Int)):
  ∃ m',aAH t m=some m'/\m'.length=t.N.toNat/\∀ i:Nat,on m' i<->Cl t X (i:Int):=by
 have h300:=hv.2.2.2.1
 have hE:=fun k (hk:k < t.E.length)=>aFr hv (List.getElem_mem hk)
 have hsat:=aPI (ed:=t.E) (n:=t.N.toNat) (fun e=>e.B == 0) (fun e=>e.F.toNat) (fun e=>e.To.toNat)
  (inner:=fun s=>aAd t s.1 s.2.1 s.2.2) (outer:=fun s=>vK t s.1 s.2) (fun k hk m ag hml=>?_) (fun m ag=>by simp only [aAd,bI];rfl) (fun m _=>?_) (fun m=>by simp [vK])
  (fun e he=>by have:=(aFr hv he).2.1;omega) (fun i=>Cl t X (i:Int)) hm (fun i hi=>.base ((hX i).1 hi)) (fun e he hc hp=>?_)
 ·obtain ⟨m',h1,h2,h3⟩:=hsat
  refine ⟨m',?_,h2.len,fun i=>⟨h2.ok i,fun hc=>?_⟩⟩
  ·unfold aAH
   rw [show loop (fun s:List Bool × Bool=>vK t s.1 s.2) (m,true)=some m' from h1];rfl
  ·generalize hj:(i:Int)=j at hc
   induction hc generalizing i with
   |base hx=>subst hj;exact h2.has _ ((hX i).2 hx)
   |@step e he hl hc ih=>
    have hin:=aFr hv he
    have h5:=h3 e he (by simpa using hl) (ih e.F.toNat (by omega))
    rwa [show i=e.To.toNat by omega]
 ·have hin:=hE k hk
  have i1:=aHC (m:=m) (q:=t.E[k].F) hin.1.1 (by omega)
  have i2:=aHC (m:=m) (q:=t.E[k].To) hin.2.1.1 (by omega)
  have hs:st m t.E[k].To true=some (m.set t.E[k].To.toNat true):=by
   have:=aCs (xs:=m) (k:=t.E[k].To.toNat) true (by omega)
   rwa [show ((t.E[k].To.toNat:Nat):Int)=t.E[k].To by omega] at this
  simp only [aAd,bD hk,if_pos,bE hk,aA,vJ,aAc,aW hk (show t.E.length < 4611686018427387904 by omega),i1,i2,hs]
  cases t.E[k].B == 0<;>cases m.getD t.E[k].F.toNat false<;>cases m.getD t.E[k].To.toNat false<;>rfl
 ·simp only [vK,if_pos,aGj,aCX]
 ·have hin:=aFr hv he
  have hl:e.B=0:=by simpa using hc
  rw [show ((e.To.toNat:Nat):Int)=e.To by omega]
  rw [show ((e.F.toNat:Nat):Int)=e.F by omega] at hp
  exact .step he hl hp
theorem list_eq {m:List Bool} (hm:m.length < 1000000):aCA m=some (((List.range m.length).filter fun i=>m.getD i false).map Int.ofNat):=by
 unfold aCA
 rw [aPL (step:=fun s:List Int × Int=>aBO m s.1 s.2) hm (fun i=>m.getD i false) (fun k out hk ho=>?_) (fun out=>by simp only [aBO,bI];rfl),aA]
 ·rfl
 ·have i1:=aHC (m:=m) (q:=(k:Int)) (by omega) (by omega)
  rw [Int.toNat_natCast] at i1
  simp only [aBO,bD hk,if_pos,i1,aA,aBN,aW hk (show m.length < 4611686018427387904 by omega)]
  rw [bS (by simp [iO];omega),aA]
  cases m.getD k false<;>rfl
theorem aOi (hv:aN t) (h0:∀ q,X q->0<=q/\q < t.N) {m:List Bool} (hm:m.length=t.N.toNat) (hX:∀ i:Nat,on m i<->X (i:Int)):
  ∃ m' R,aAH t m=some m'/\aCA m'=some R/\nU R (Cl t X):=by
 have h40:=hv.1
 obtain ⟨m',h1,h2,h3⟩:=close_eq hv hm hX
 refine ⟨m',_,h1,list_eq (by omega),aSm _ (fun i _=>by rw [aQN];exact h3 i) fun q hq=>?_⟩
 have:=hq.inn hv h0
 omega
theorem first_eq (hv:aN t):∃ R,wO t=some R/\nU R (Cl t fun q=>q=t.I):=by
 have h40:=hv.1
 have hin:=hv.2.1
 have hmk:aEU t [t.I]=some ((List.replicate t.N.toNat false).set t.I.toNat true):=by
  unfold aEU
  have:=aLY (n:=t.N.toNat) false (by unfold iO;omega)
  rw [show ((t.N.toNat:Nat):Int)=t.N by omega] at this
  rw [this,aA,bR]
  have i0:ix [t.I] 0=some t.I:=rfl
  have i1:=aHC (m:=List.replicate t.N.toNat false) (q:=t.I) hin.1 (by simp;omega)
  have i2:st (List.replicate t.N.toNat false) t.I true=some ((List.replicate t.N.toNat false).set t.I.toNat true):=by
   have:=aCs (xs:=List.replicate t.N.toNat false) (k:=t.I.toNat) true (by simp;omega)
   rwa [show ((t.I.toNat:Nat):Int)=t.I by omega] at this
  simp only [aCW,List.length_singleton,i0,aA,i1,i2]
  rw [if_pos (by simp)]
  simp only
  rw [bR]
  simp only [aCW,List.length_singleton]
  rw [if_neg (by simp [wr])]
  rfl
 obtain ⟨m',R,h1,h2,h3⟩:=aOi (X:=fun q=>q=t.I) hv (fun q hq=>by omega) (m:=(List.replicate t.N.toNat false).set t.I.toNat true) (by simp) (fun i=>by
  rw [aOf (by simp;omega),on_rep]
  split
  ·rename_i h;simp;omega
  ·rename_i h;simp;omega)
 refine ⟨R,?_,h3⟩
 unfold wO
 rw [hmk,aA,h1,aA,h2];rfl
def Aft (t:aO) (S:List Int) (k:Int) (q:Int):Prop:=∃ e∈t.E,e.B=k/\e.F∈S/\e.To=q
theorem Aft.inn (hv:aN t) {S:List Int} {k q:Int} (h:Aft t S k q):0<=q/\q < t.N:=by
 obtain ⟨e,he,_,_,rfl⟩:=h
 have:=(aFr hv he).2.1;omega
theorem aSn (hv:aN t) {S:List Int} (hS:S.length < 1000000000) (k:Int):∃ R,aBg t S k=some R/\nU R (Cl t (Aft t S k)):=by
 have h40:=hv.1
 have h300:=hv.2.2.2.1
 have hloop:=kJ (step:=fun s:List Bool × Int=>yB t S k s.1 s.2) t.E (fun j m=>(m,(j:Int)))
  (fun l m=>l.foldl (fun m e=>if (e.B == k&&S.any fun x=>e.F == x)=true then m.set e.To.toNat true else m) m) (fun _ m=>m.length=t.N.toNat) (fun j m e l hj he hI=>?_) (fun m _=>by simp only [yB,bI];rfl) (a:=List.replicate t.N.toNat false) (by simp)
 ·have hf:∀ (l:List Edge) (m:List Bool),m.length=t.N.toNat->(∀ e∈l,e∈t.E)->(l.foldl (fun m e=>if (e.B == k&&S.any fun x=>e.F == x)=true then m.set e.To.toNat true else m) m).length=t.N.toNat/\
    ∀ i:Nat,on (l.foldl (fun m e=>if (e.B == k&&S.any fun x=>e.F == x)=true then m.set e.To.toNat true else m) m) i<->on m i\/∃ e∈l,e.B=k/\e.F∈S/\e.To=(i:Int):=by
   intro l
   induction l with
   |nil=>intro m hm _;exact ⟨hm,fun i=>by simp⟩
   |cons e l ih=>
    intro m hm hl
    have hin:=aFr hv (hl e (by simp))
    have hc:((e.B == k&&S.any fun x=>e.F == x)=true)<->(e.B=k/\e.F∈S):=by
     rw [Bool.and_eq_true,beq_iff_eq,List.any_eq_true]
     constructor
     ·rintro ⟨a,x,hx,hb⟩
      rw [beq_iff_eq] at hb
      exact ⟨a,hb ▸ hx⟩
     ·rintro ⟨a,b⟩
      exact ⟨a,_,b,by simp⟩
    rw [List.foldl_cons]
    obtain ⟨g1,g2⟩:=ih (if (e.B == k&&S.any fun x=>e.F == x)=true then m.set e.To.toNat true else m) (by split<;>simp [hm]) (fun x hx=>hl x (by simp [hx]))
    refine ⟨g1,fun i=>?_⟩
    rw [g2 i]
    simp only [List.mem_cons,exists_eq_or_imp]
    by_cases h:(e.B == k&&S.any fun x=>e.F == x)=true
    ·rw [if_pos h,aOf (by omega)]
     have h':=hc.1 h
     by_cases hi:i=e.To.toNat
     ·simp only [hi,if_pos,true_or,true_iff]
      exact .inr (.inl ⟨h'.1,h'.2,by omega⟩)
     ·rw [if_neg hi]
      constructor
      ·rintro (a|b)
       ·exact .inl a
       ·exact .inr (.inr b)
      ·rintro (a|⟨_,_,b⟩|b)
       ·exact .inl a
       ·omega
       ·exact .inr b
    ·rw [if_neg h]
     rw [hc] at h
     constructor
     ·rintro (a|b)
      ·exact .inl a
      ·exact .inr (.inr b)
     ·rintro (a|⟨b,c,_⟩|b)
      ·exact .inl a
      ·exact absurd ⟨b,c⟩ h
      ·exact .inr b
  obtain ⟨g1,g2⟩:=hf t.E (List.replicate t.N.toNat false) (by simp) (fun _ he=>he)
  obtain ⟨m',R,h1,h2,h3⟩:=aOi (X:=Aft t S k) hv (fun q hq=>hq.inn hv) g1 (fun i=>by rw [g2 i,on_rep];simp [Aft])
  refine ⟨R,?_,h3⟩
  unfold aBg
  have:=aLY (n:=t.N.toNat) false (by unfold iO;omega)
  rw [show ((t.N.toNat:Nat):Int)=t.N by omega] at this
  rw [this,aA,show loop (fun s:List Bool × Int=>yB t S k s.1 s.2) (List.replicate t.N.toNat false,0)=_ from hloop,aA]
  unfold aEj
  rw [h1,aA,h2];rfl
 ·left
  obtain ⟨hj',rfl⟩:=lW he
  have hin:=aFr hv (List.getElem_mem hj')
  have hI':m.length=t.N.toNat:=hI
  have i2:=aHC (m:=m) (q:=t.E[j].To) hin.2.1.1 (by omega)
  have hs:st m t.E[j].To true=some (m.set t.E[j].To.toNat true):=by
   have:=aCs (xs:=m) (k:=t.E[j].To.toNat) true (by omega)
   rwa [show ((t.E[j].To.toNat:Nat):Int)=t.E[j].To by omega] at this
  simp only [yB,bD hj,if_pos,he,aA,l00Has_eq S _ hS,aBQ,aBP,aW hj (show t.E.length < 4611686018427387904 by omega),i2,hs]
  rw [List.foldl_cons]
  cases t.E[j].B == k<;>cases (S.any fun x=>t.E[j].F == x)<;>first|exact ⟨m,rfl,hI',rfl⟩|exact ⟨_,rfl,by simpa using hI',rfl⟩
end
end Gv
namespace Gv
open Go
def aFs (o:List Int) (x:Int):List Int:=if x∈o then o else o++[x]
theorem aMf:∀ (l o:List Int),o.Nodup->o <+:l.foldl aFs o/\(l.foldl aFs o).Nodup/\(∀ q,q∈l.foldl aFs o<->q∈o\/q∈l)/\(l.foldl aFs o).length<=o.length+l.length
 |[],o,h=>⟨List.prefix_refl _,h,fun q=>by simp,by simp⟩
 |x::l,o,h=>by
  have h':(aFs o x).Nodup:=by
   unfold aFs
   split
   ·exact h
   ·rename_i hx
    rw [List.nodup_append]
    refine ⟨h,by simp,fun a ha b hb=>?_⟩
    simp at hb;subst hb
    exact fun e=>hx (e ▸ ha)
  obtain ⟨g1,g2,g3,g4⟩:=aMf l (aFs o x) h'
  have hp:o <+:aFs o x:=by
   unfold aFs;split
   ·exact List.prefix_refl _
   ·exact List.prefix_append _ _
  have hm:∀ q,q∈aFs o x<->q∈o\/q=x:=fun q=>by
   unfold aFs;split
   ·rename_i hx
    constructor
    ·exact .inl
    ·rintro (h|rfl)
     ·exact h
     ·exact hx
   ·simp
  refine ⟨hp.trans g1,g2,fun q=>?_,?_⟩
  ·rw [List.foldl_cons,g3 q,hm q,List.mem_cons,or_assoc]
  ·rw [List.foldl_cons]
   have:(aFs o x).length<=o.length+1:=by unfold aFs;split<;>simp
   rw [List.length_cons];omega
theorem aJr {xs:List Int} {s:Int}:(xs.any fun x=>s == x)=decide (s∈xs):=by
 rw [Bool.eq_iff_iff,List.any_eq_true,decide_eq_true_iff]
 constructor
 ·rintro ⟨x,hx,h⟩
  rw [beq_iff_eq] at h
  exact h ▸ hx
 ·intro h;exact ⟨s,h,by simp⟩
section
variable {t:aO}
theorem aOj (hv:aN t) {S:List Int} (hS:S.length < 1000000000) {k:Nat} (hk:k < t.L.length):∃ R,gU t S t.L[k]=some R/\nU R (Aft t S (k:Int)):=by
 have h300:=hv.2.2.2.1
 have hl:((t.E.filter fun e=>qA t e == t.L[k]&&S.any fun x=>e.F == x).map (·.To)).length<=300:=by
  rw [List.length_map];exact Nat.le_trans (List.length_filter_le _ _) h300
 refine ⟨iI (tI iLt ((t.E.filter fun e=>qA t e == t.L[k]&&S.any fun x=>e.F == x).map (·.To))),?_,yK.iff fun q=>?_⟩
 ·unfold gU
  rw [aDD (step:=fun x:List Int × Int=>eK t S t.L[k] x.1 x.2) t.E (fun e=>qA t e == t.L[k]&&S.any fun x=>e.F == x) (·.To) id (fun j out x hj ho hx=>?_) (fun out=>by simp only [eK,bI];rfl),aA]
  ·unfold nY
   simp only [id]
   rw [uK (by omega),aA,aDE _ (by unfold tI;rw [List.length_mergeSort];omega),aA]
  ·obtain ⟨hj',rfl⟩:=lW hx
   simp only [eK,bD hj,if_pos,hx,aA,aAi (nS hv (List.getElem_mem hj')),uJ S _ (show S.length < 4611686018427387904 by omega),nZ,lI,aW hj (show t.E.length < 4611686018427387904 by omega)]
   rw [bS (by simp [iO];omega),aA]
   cases qA t t.E[j] == t.L[k]<;>cases (S.any fun x=>t.E[j].F == x)<;>rfl
 ·rw [List.mem_map]
  constructor
  ·rintro ⟨e,he,rfl⟩
   rw [List.mem_filter,Bool.and_eq_true,List.any_eq_true] at he
   obtain ⟨h1,h2,x,hx,h3⟩:=he
   rw [aHc hv h1 (List.getElem_mem hk),aLl hv.2.2.1 hk,beq_iff_eq] at h2
   rw [beq_iff_eq] at h3
   exact ⟨e,h1,h2,h3 ▸ hx,rfl⟩
  ·rintro ⟨e,h1,h2,h3,rfl⟩
   refine ⟨e,?_,rfl⟩
   rw [List.mem_filter,Bool.and_eq_true,List.any_eq_true,aHc hv h1 (List.getElem_mem hk),aLl hv.2.2.1 hk,beq_iff_eq]
   exact ⟨h1,h2,_,h3,by simp⟩
theorem tau_at (hv:aN t):∃ h:0 < t.L.length,t.L[0]=bC:=⟨by have:=hv.2.2.1.1;omega,hv.2.2.1.2.2.1 _⟩
theorem aEq (hv:aN t) {xs:List Int} (hn:xs.Nodup) (h0:∀ q∈xs,0<=q/\q < t.N):∃ R,eQ t xs=some R/\nU R (Cl t (·∈xs)):=by
 have h40:=hv.1
 have hlen:∀ {o:List Int},o.Nodup->(∀ q∈o,Cl t (·∈xs) q)->o.length<=40:=fun {o} h1 h2=>by
  have:=List.Nodup.length_le_of_subset (l₂:=(List.range 40).map Int.ofNat) h1 (fun x hx=>by
   have:=(h2 x hx).inn hv h0
   rw [List.mem_map]
   exact ⟨x.toNat,by rw [List.mem_range];omega,by show ((x.toNat:Nat):Int)=x;omega⟩)
  simpa using this
 have hx0:=hlen hn fun q hq=>.base hq
 have hloop:=sE (step:=fun s:List Int × Int=>jC t s.1 s.2)
  (fun s=>∃ k:Nat,s.2=(k:Int)/\k<=s.1.length/\s.1.Nodup/\(∀ q∈xs,q∈s.1)/\(∀ q∈s.1,Cl t (·∈xs) q)/\∀ j,(hj:j < s.1.length)->j < k->∀ e∈t.E,e.B=0->e.F=s.1[j]->e.To∈s.1)
  (fun s=>41 - s.2.toNat) (fun r=>r.Nodup/\r.length<=40/\∀ q,q∈r<->Cl t (·∈xs) q) (fun s hI=>?_) (s:=(xs,0)) ⟨0,rfl,Nat.zero_le _,hn,fun _ h=>h,fun q hq=>.base hq,fun j _ h=>by omega⟩
 ·obtain ⟨r,h1,h2,h3,h4⟩:=hloop
  refine ⟨tI iLt r,?_,(aOh h2).iff h4⟩
  unfold eQ cL
  rw [bS (by simp [iO];omega),aA,List.nil_append,aA,h1,aA]
  unfold qU
  rw [uK (by omega)];rfl
 ·obtain ⟨o,i⟩:=s
  obtain ⟨k,rfl,hk,hnd,hsub,hcl,hdone⟩:=hI
  simp only at hk hnd hsub hcl hdone
  have ho:=hlen hnd hcl
  by_cases hlt:k < o.length
  ·left
   obtain ⟨ht0,ht⟩:=tau_at hv
   obtain ⟨R,hf,hR⟩:=aOj hv (S:=[o[k]]) (by simp) ht0
   rw [ht] at hf
   have hRl:R.length<=40:=hR.len (n:=40) fun q hq=>by have:=hq.inn hv;omega
   have hin:=kJ (step:=fun s:List Int × Int=>fQ R s.1 s.2) R (fun j a=>(a,(j:Int))) (fun l a=>l.foldl aFs a) (fun j a=>a.length<=40+j) (fun j a x l hj hx hI=>?_) (fun a _=>by simp only [fQ,bI];rfl) (a:=o) ho
   ·obtain ⟨g1,g2,g3,g4⟩:=aMf R o hnd
    have hcl':∀ q∈R.foldl aFs o,Cl t (·∈xs) q:=fun q hq=>by
     rcases (g3 q).1 hq with h|h
     ·exact hcl q h
     ·obtain ⟨e,he,hl,hfr,rfl⟩:=(hR.mem q).1 h
      simp only [List.mem_singleton] at hfr
      exact .step he (by simpa using hl) (hfr ▸ hcl _ (List.getElem_mem hlt))
    refine ⟨(R.foldl aFs o,((k+1:Nat):Int)),?_,⟨k+1,rfl,Nat.le_trans hlt g1.length_le,g2,fun q hq=>(g3 q).2 (.inl (hsub q hq)),hcl',fun j hj hjk e he hl hfr=>?_⟩,by simp only;omega⟩
    ·simp only [jC,bD hlt,if_pos,bE hlt,aA]
     rw [show ([116,97,117]:aL)=bC from rfl,hf,aA,show loop (fun s:List Int × Int=>fQ R s.1 s.2) (o,0)=_ from hin,aA]
     simp only [vY,qV,aW hlt (show o.length < 4611686018427387904 by omega)]
    ·simp only at hj hfr ⊢
     have hjo:j < o.length:=by omega
     have e1:(R.foldl aFs o)[j]=o[j]:=(g1.getElem hjo).symm
     rw [e1] at hfr
     rw [g3]
     by_cases hjk':j < k
     ·exact .inl (hdone j hjo hjk' e he hl hfr)
     ·obtain rfl:j=k:=by omega
      exact .inr ((hR.mem _).2 ⟨e,he,by simpa using hl,by simp [hfr],rfl⟩)
   ·left
    have hI':a.length<=40+j:=hI
    simp only [fQ,bD hj,if_pos,hx,aA,uJ a _ (show a.length < 4611686018427387904 by omega),nN,aW hj (show R.length < 4611686018427387904 by omega)]
    rw [aJr,bS (by simp [iO];omega),aA,List.foldl_cons]
    unfold aFs
    by_cases hm:x∈a
    ·rw [if_pos hm];exact ⟨a,by simp [hm],by omega,rfl⟩
    ·rw [if_neg hm];exact ⟨a++[x],by simp [hm],by simp;omega,rfl⟩
  ·right
   obtain rfl:k=o.length:=by omega
   refine ⟨o,by simp only [jC,bI];rfl,hnd,ho,fun q=>⟨hcl q,fun hc=>?_⟩⟩
   induction hc with
   |base hx=>exact hsub _ hx
   |@step e he hl hc ih=>
    obtain ⟨j,hj,e1⟩:=List.mem_iff_getElem.1 ih
    exact hdone j hj hj e he hl e1.symm
def Vis (t:aO) (S:List Int) (k:Int):Int->Prop:=Cl t (Aft t S k)
theorem aMD (hv:aN t) {S:List Int} (hS:S.length < 1000000000) {k:Nat} (hk:k < t.L.length):∃ R,gN t S t.L[k]=some R/\aBg t S (k:Int)=some R/\nU R (Vis t S (k:Int)):=by
 obtain ⟨R1,f1,f2⟩:=aOj hv hS hk
 have hn:R1.Nodup:=f2.ord.imp fun h=>by omega
 obtain ⟨R,g1,g2⟩:=aEq hv hn fun q hq=>((f2.mem q).1 hq).inn hv
 obtain ⟨R',n1,n2⟩:=aSn hv hS (k:Int)
 have e:R=R':=(g2.iff (Cl.iff f2.mem)).eq n2
 subst e
 refine ⟨R,?_,n1,n2⟩
 unfold gN
 rw [f1,aA,g1];rfl
theorem aJs (hv:aN t):∃ R,eQ t [t.I]=some R/\wO t=some R/\nU R (Cl t fun q=>q=t.I):=by
 have hin:=hv.2.1
 obtain ⟨R,g1,g2⟩:=aEq hv (xs:=[t.I]) (by simp) fun q hq=>by simp at hq;omega
 obtain ⟨R',n1,n2⟩:=first_eq hv
 have e:R=R':=(g2.iff (Cl.iff fun q=>by simp)).eq n2
 subst e
 exact ⟨R,g1,n1,n2⟩
end
end Gv
namespace Gv
open Go
theorem aFt {σ ρ:Type} {step:σ->Option (σ ⊕ ρ)} {s s':σ} (h:step s=some (.inl s')):loop step s=loop step s':=by rw [bR,h]
theorem aDF {σ ρ:Type} {step:σ->Option (σ ⊕ ρ)} {s:σ} {r:ρ} (h:step s=some (.inr r)):loop step s=some r:=by rw [bR,h]
section
variable {κ β:Type} [DecidableEq β] [BEq β] [LawfulBEq β] (key:κ->β)
def atK (F:List κ) (q:κ):Int:=if key q∈F.map key then pos (F.map key) (key q) else (F.length:Int)
def vS (F:List κ) (q:κ):List κ:=if key q∈F.map key then F else F++[q]
def aCl (i:Int) (s:List κ × List Edge) (x:Int × κ):List κ × List Edge:=(vS key s.1 x.2,s.2++[⟨i,x.1,atK key s.1 x.2⟩])
def jP (i:Int) (l:List (Int × κ)) (s:List κ × List Edge):List κ × List Edge:=l.foldl (aCl key i) s
def xpl (nx:κ->List (Int × κ)) (B:Nat):Nat->Nat->List κ × List Edge->List κ × List Edge
 |0,_,s=>s
 |n+1,i,s=>match s.1[i]? with
  |none=>s
  |some q=>if B < (jP key (i:Int) (nx q) s).1.length then jP key (i:Int) (nx q) s else xpl nx B n (i+1) (jP key (i:Int) (nx q) s)
theorem aSo (i:Int) (s:List κ × List Edge):jP key i [] s=s:=rfl
theorem aCH (i:Int) (x:Int × κ) (l:List (Int × κ)) (s:List κ × List Edge):jP key i (x::l) s=jP key i l (aCl key i s x):=rfl
variable {key}
theorem aIV (F:List κ) (q:κ):F <+:vS key F q:=by
 unfold vS;split
 ·exact List.prefix_refl _
 ·exact List.prefix_append _ _
theorem aLn (F:List κ) (q:κ):(vS key F q).length<=F.length+1:=by unfold vS;split<;>simp
theorem atK_in (F:List κ) (q:κ):0<=atK key F q/\atK key F q < (vS key F q).length:=by
 unfold atK vS
 by_cases h:key q∈F.map key
 ·rw [if_pos h,if_pos h]
  obtain ⟨i,hi,e,_⟩:=pU h
  rw [List.length_map] at hi
  omega
 ·rw [if_neg h,if_neg h,List.length_append,List.length_singleton];omega
theorem aOk {F:List κ} (h:(F.map key).Nodup) (q:κ):((vS key F q).map key).Nodup:=by
 unfold vS;split
 ·exact h
 ·rename_i hx
  rw [List.map_append,List.nodup_append]
  refine ⟨h,by simp,fun a ha b hb=>?_⟩
  simp at hb;subst hb
  exact fun e=>hx (e ▸ ha)
theorem aOl {P:κ->Prop} {F:List κ} (h:∀ x∈F,P x) {q:κ} (hq:P q):∀ x∈vS key F q,P x:=by
 unfold vS;split
 ·exact h
 ·intro x hx
  rcases List.mem_append.1 hx with hx|hx
  ·exact h x hx
  ·simp at hx;subst hx;exact hq
theorem insK_mem (F:List κ) (q:κ):key q∈(vS key F q).map key:=by
 unfold vS;split
 ·assumption
 ·simp
theorem aDG (i:Int):∀ (l:List (Int × κ)) (s:List κ × List Edge),s.1 <+:(jP key i l s).1/\s.2 <+:(jP key i l s).2
 |[],s=>⟨List.prefix_refl _,List.prefix_refl _⟩
 |x::l,s=>by
  obtain ⟨h1,h2⟩:=aDG i l (aCl key i s x)
  rw [aCH]
  exact ⟨(aIV s.1 x.2).trans h1,(List.prefix_append _ _).trans h2⟩
theorem aSp (i:Int):∀ (l:List (Int × κ)) (s:List κ × List Edge),(jP key i l s).2.length=s.2.length+l.length/\(jP key i l s).1.length<=s.1.length+l.length
 |[],s=>⟨rfl,by simp [aSo]⟩
 |x::l,s=>by
  obtain ⟨h1,h2⟩:=aSp i l (aCl key i s x)
  have:=aLn (key:=key) s.1 x.2
  have h1':(jP key i l (aCl key i s x)).2.length=(s.2.length+1)+l.length:=by rw [h1];simp [aCl]
  have h2':(jP key i l (aCl key i s x)).1.length<=(vS key s.1 x.2).length+l.length:=h2
  rw [aCH,List.length_cons]
  omega
theorem aKx (i:Int):∀ (l:List (Int × κ)) (s:List κ × List Edge),(s.1.map key).Nodup->((jP key i l s).1.map key).Nodup
 |[],_,h=>h
 |x::l,s,h=>aKx i l (aCl key i s x) (aOk h x.2)
theorem aIW {P:κ->Prop} (i:Int):∀ (l:List (Int × κ)) (s:List κ × List Edge),(∀ x∈s.1,P x)->(∀ x∈l,P x.2)->∀ x∈(jP key i l s).1,P x
 |[],_,h,_=>h
 |x::l,s,h,hl=>aIW i l (aCl key i s x) (aOl h (hl x (by simp))) fun y hy=>hl y (by simp [hy])
theorem aLo (nx:κ->List (Int × κ)) (B:Nat):∀ (n i:Nat) (s:List κ × List Edge),s.1 <+:(xpl key nx B n i s).1/\s.2 <+:(xpl key nx B n i s).2
 |0,_,s=>⟨List.prefix_refl _,List.prefix_refl _⟩
 |n+1,i,s=>by
  unfold xpl
  cases hq:s.1[i]? with
  |none=>exact ⟨List.prefix_refl _,List.prefix_refl _⟩
  |some q=>
   simp only
   obtain ⟨h1,h2⟩:=aDG (key:=key) (i:Int) (nx q) s
   split
   ·exact ⟨h1,h2⟩
   ·obtain ⟨h3,h4⟩:=aLo nx B n (i+1) (jP key (i:Int) (nx q) s)
    exact ⟨h1.trans h3,h2.trans h4⟩
theorem xpl_ok {P:κ->Prop} {nx:κ->List (Int × κ)} (hP:∀ q,P q->∀ x∈nx q,P x.2) (B:Nat):∀ (n i:Nat) (s:List κ × List Edge),(s.1.map key).Nodup->(∀ x∈s.1,P x)->((xpl key nx B n i s).1.map key).Nodup/\∀ x∈(xpl key nx B n i s).1,P x
 |0,_,s,h1,h2=>⟨h1,h2⟩
 |n+1,i,s,h1,h2=>by
  unfold xpl
  cases hq:s.1[i]? with
  |none=>exact ⟨h1,h2⟩
  |some q=>
   simp only
   have hl:=hP q (h2 q (List.mem_of_getElem? hq))
   have g1:=aKx (key:=key) (i:Int) (nx q) s h1
   have g2:=aIW (key:=key) (P:=P) (i:Int) (nx q) s h2 hl
   split
   ·exact ⟨g1,g2⟩
   ·exact xpl_ok hP B n (i+1) _ g1 g2
def Inc (k m:Int) (l:List (Int × κ)):Prop:=(l.Pairwise fun a b=>a.1 < b.1)/\∀ x∈l,k < x.1/\x.1<=m
theorem addA_ED {L:List aL} (i:Nat):∀ {l:List (Int × κ)} {k:Int} {s:List κ × List Edge},0<=k->Inc k L.length l->ED L (i:Int) k s.1.length s.2->ED L ((i+1:Nat):Int) 0 (jP key (i:Int) l s).1.length (jP key (i:Int) l s).2
 |[],k,s,_,_,h=>by
  have:=h.next
  rwa [show (i:Int)+1=((i+1:Nat):Int) by omega] at this
 |x::l,k,s,hk,hi,h=>by
  rw [aCH]
  obtain ⟨h1,h2⟩:=hi
  rw [List.pairwise_cons] at h1
  have hx:=h2 x (by simp)
  have ha:=atK_in (key:=key) s.1 x.2
  have hl:=(aIV (key:=key) s.1 x.2).length_le
  refine addA_ED i (k:=x.1) (by omega) ⟨h1.2,fun y hy=>⟨h1.1 y hy,(h2 y (by simp [hy])).2⟩⟩ ⟨?_,fun e he=>?_⟩
  ·simp only [aCl]
   rw [List.pairwise_append]
   refine ⟨h.ord,by simp,fun a ha b hb=>?_⟩
   simp at hb;subst hb
   have:=h.all a ha
   unfold aEp
   simp only;omega
  ·simp only [aCl] at he ⊢
   rcases List.mem_append.1 he with he|he
   ·have:=h.all e he;omega
   ·simp at he;subst he
    exact ⟨by simp only;omega,.inr ⟨rfl,by simp only;omega⟩,by simp only;omega,by simp only;omega,ha.1,ha.2⟩
theorem xpl_ED {L:List aL} {P:κ->Prop} {nx:κ->List (Int × κ)} (hP:∀ q,P q->∀ x∈nx q,P x.2) (hI:∀ q,P q->Inc 0 L.length (nx q)) (B:Nat):∀ (n i:Nat) (s:List κ × List Edge),(∀ x∈s.1,P x)->i<=s.1.length->ED L (i:Int) 0 s.1.length s.2->
  ∃ j:Nat,j<=(xpl key nx B n i s).1.length/\ED L (j:Int) 0 (xpl key nx B n i s).1.length (xpl key nx B n i s).2
 |0,i,s,_,hi,h=>⟨i,hi,h⟩
 |n+1,i,s,h2,hi,h=>by
  unfold xpl
  cases hq:s.1[i]? with
  |none=>exact ⟨i,hi,h⟩
  |some q=>
   simp only
   have hil:i < s.1.length:=(List.getElem?_eq_some_iff.1 hq).1
   have hPq:=h2 q (List.mem_of_getElem? hq)
   have g:=addA_ED (key:=key) (L:=L) i (l:=nx q) (k:=0) (s:=s) (Int.le_refl _) (hI q hPq) h
   have hp:=(aDG (key:=key) (i:Int) (nx q) s).1.length_le
   split
   ·exact ⟨i+1,by omega,g⟩
   ·exact xpl_ED hP hI B n (i+1) _ (aIW (i:Int) (nx q) s h2 (hP q hPq)) (by omega) g
theorem ED.done {L:List aL} {j n:Nat} {ed:List Edge} (h:ED L (j:Int) 0 n ed) (hj:j<=n):ed.Pairwise aEp/\∀ e∈ed,(0<=e.F/\e.F < n)/\(1<=e.B/\e.B<=L.length)/\0<=e.To/\e.To < n:=
 ⟨h.ord,fun e he=>by have:=h.all e he;omega⟩
def Small (s:List κ × List Edge):Prop:=s.1.length<=40/\s.2.length<=300
instance (s:List κ × List Edge):Decidable (Small s):=by unfold Small;infer_instance
theorem Small.pre {s u:List κ × List Edge} (h:s.1 <+:u.1/\s.2 <+:u.2) (hu:Small u):Small s:=⟨Nat.le_trans h.1.length_le hu.1,Nat.le_trans h.2.length_le hu.2⟩
theorem pos_inj {γ:Type} [BEq γ] [LawfulBEq γ] {ks:β->γ} {b:β}:∀ {A:List β},(∀ x∈A,ks x=ks b->x=b)->pos (A.map ks) (ks b)=pos A b
 |[],_=>rfl
 |x::A,h=>by
  have ih:=pos_inj (ks:=ks) (b:=b) (A:=A) fun y hy=>h y (by simp [hy])
  unfold pos at ih ⊢
  rw [List.map_cons,List.findIdx?_cons,List.findIdx?_cons]
  by_cases e:b=x
  ·subst e;simp
  ·have e2:¬ ks b=ks x:=fun e'=>e (h x (by simp) e'.symm).symm
   rw [if_neg (by simpa using e2),if_neg (by simpa using e)]
   cases h1:List.findIdx? (fun x=>ks b == x) (A.map ks)<;>cases h2:List.findIdx? (fun x=>b == x) A<;>rw [h1,h2] at ih<;>simp only [Option.map_none,Option.map_some] at ih ⊢<;>omega
theorem key_in {γ:Type} {ks:β->γ} {b:β} {A:List β} (h:∀ x∈A,ks x=ks b->x=b):ks b∈A.map ks<->b∈A:=by
 constructor
 ·intro hb
  obtain ⟨x,hx,e⟩:=List.mem_map.1 hb
  exact h x hx e ▸ hx
 ·exact fun hb=>List.mem_map_of_mem hb
end
end Gv
namespace Gv
open Go
section
noncomputable def nxt (t:aO) (S:List Int) (k:Int):List Int:=(aBg t S k).getD []
noncomputable def aCn (t:aO) (S:List Int):Nat->Nat->List (Int × List Int)
 |0,_=>[]
 |n+1,k=>if nxt t S (k:Int)=[] then aCn t S n (k+1) else ((k:Int),nxt t S (k:Int))::aCn t S n (k+1)
noncomputable def iV (t:aO) (S:List Int):List (Int × List Int):=aCn t S (t.L.length - 1) 1
structure kL (t:aO) (S:List Int):Prop where
 len:S.length<=40
 inn:∀ q∈S,0<=q/\q < t.N
variable {t:aO}
theorem kL.of (hv:aN t) {R:List Int} {X:Int->Prop} (h:nU R X) (h0:∀ q,X q->0<=q/\q < t.N):kL t R:=
 ⟨h.len (n:=40) fun q hq=>by have:=h0 q hq;have:=hv.1;omega,fun q hq=>h0 q ((h.mem q).1 hq)⟩
theorem nxt_eq (hv:aN t) {S:List Int} (hS:kL t S) (k:Int):aBg t S k=some (nxt t S k)/\kL t (nxt t S k):=by
 obtain ⟨R,h1,h2⟩:=aSn hv (S:=S) (by have:=hS.len;omega) k
 have e:nxt t S k=R:=by unfold nxt;rw [h1];rfl
 rw [e]
 exact ⟨h1,kL.of hv h2 fun q hq=>hq.inn hv fun q hq=>hq.inn hv⟩
theorem aHd (hv:aN t) {S:List Int} (hS:kL t S):∀ (n k:Nat),∀ x∈aCn t S n k,kL t x.2
 |0,_,x,h=>by simp [aCn] at h
 |n+1,k,x,h=>by
  unfold aCn at h
  split at h
  ·exact aHd hv hS n (k+1) x h
  ·rcases List.mem_cons.1 h with rfl|h
   ·exact (nxt_eq hv hS _).2
   ·exact aHd hv hS n (k+1) x h
theorem aSq (S:List Int):∀ (n k:Nat),Inc ((k:Int) - 1) ((k:Int)+n - 1) (aCn t S n k)
 |0,k=>⟨by simp [aCn],fun x hx=>by simp [aCn] at hx⟩
 |n+1,k=>by
  obtain ⟨h1,h2⟩:=aSq S n (k+1)
  unfold aCn
  split
  ·exact ⟨h1,fun x hx=>by have:=h2 x hx;omega⟩
  ·refine ⟨?_,fun x hx=>?_⟩
   ·rw [List.pairwise_cons]
    exact ⟨fun x hx=>by have:=h2 x hx;simp only;omega,h1⟩
   ·rcases List.mem_cons.1 hx with rfl|hx
    ·simp only;omega
    ·have:=h2 x hx;omega
theorem aSr (S:List Int):∀ (n k:Nat),(aCn t S n k).length<=n
 |0,_=>by simp [aCn]
 |n+1,k=>by
  have:=aSr S n (k+1)
  unfold aCn
  split
  ·omega
  ·rw [List.length_cons];omega
theorem sucD_inc (hv:aN t) (S:List Int):Inc 0 (t.L.tail.length:Int) (iV t S):=by
 have:=aSq (t:=t) S (t.L.length - 1) 1
 have h1:=hv.2.2.1.1
 rw [List.length_tail]
 unfold iV
 rw [show ((t.L.length - 1:Nat):Int)=((1:Nat):Int)+((t.L.length - 1:Nat):Int) - 1 by omega]
 exact this
theorem sets_find (A:List (List Int)) (r:List Int) (hn:A.Nodup) (hA:A.length<=1000) (h2:∀ S∈A,S.length<=40):loop (fun s:Int × Int=>uB A r s.1 s.2) (-1,0)=some (pos A r):=by
 have:=yJ (step:=fun s:Int × Int=>uB A r s.1 s.2) A.length (fun k (a:Int)=>(a,(k:Int))) (fun k a=>match (A.drop k).findIdx? (fun x=>r == x) with|none=>a|some j=>((k+j:Nat):Int)) (fun _ _=>True) (fun k a hk _=>?_) (fun a _=>by simp only [uB,bI];simp) A.length 0 (-1) (by omega) trivial
 ·rw [show loop (fun s:Int × Int=>uB A r s.1 s.2) (-1,0)=_ from this]
  unfold pos
  rw [List.drop_zero]
  cases A.findIdx? (fun x=>r == x)<;>simp
 ·left
  have hl:=h2 _ (List.getElem_mem hk)
  simp only [uB,bD hk,if_pos,bE hk,aA,aTM _ r (show A[k].length < 4611686018427387904 by omega),aBT,aW hk (show A.length < 4611686018427387904 by omega)]
  rw [List.drop_eq_getElem_cons hk,List.findIdx?_cons]
  by_cases e:A[k]=r
  ·have hno:(A.drop (k+1)).findIdx? (fun x=>r == x)=none:=by
    rw [List.findIdx?_eq_none_iff]
    intro x hx
    rw [beq_eq_false_iff_ne]
    rintro rfl
    have hd:(A.drop k).Nodup:=hn.sublist (List.drop_sublist _ _)
    rw [List.drop_eq_getElem_cons hk,List.nodup_cons] at hd
    exact hd.1 (e ▸ hx)
   refine ⟨(k:Int),by simp [e],trivial,?_⟩
   rw [hno]
   simp [e]
  ·refine ⟨a,by simp [e],trivial,?_⟩
   have e':¬ r=A[k]:=fun h=>e h.symm
   rw [if_neg (by simpa using e')]
   cases (A.drop (k+1)).findIdx? (fun x=>r == x) with
   |none=>rfl
   |some j=>simp only [Option.map_some];congr 1;omega
theorem aTV (hv:aN t) {i:Nat} {S:List Int} {s:List (List Int) × List Edge} (hi:s.1[i]?=some S) (hnd:(s.1.map id).Nodup) (hg:∀ S∈s.1,kL t S) (hs:Small s):
  loop (fun s:List (List Int) × List Edge × Int=>uC t (i:Int) s.1 s.2.1 s.2.2) (s.1,s.2,1)=some (if Small (jP id (i:Int) (iV t S) s) then .inl (jP id (i:Int) (iV t S) s) else .inr (⟨0,0,[],[]⟩,[],false)):=by
 have h12:=hv.2.2.1.2.1
 have h1:=hv.2.2.1.1
 have:=yJ (step:=fun s:List (List Int) × List Edge × Int=>uC t (i:Int) s.1 s.2.1 s.2.2) t.L.length (fun k (a:List (List Int) × List Edge)=>(a.1,a.2,(k:Int)))
  (fun k a=>if Small (jP id (i:Int) (aCn t S (t.L.length - k) k) a) then (Sum.inl (jP id (i:Int) (aCn t S (t.L.length - k) k) a):(List (List Int) × List Edge) ⊕ (aO × List (List Int) × Bool)) else .inr (⟨0,0,[],[]⟩,[],false))
  (fun _ a=>a.1[i]?=some S/\(a.1.map id).Nodup/\(∀ S∈a.1,kL t S)/\Small a) (fun k a hk hI=>?_) (fun a hI=>?_) (t.L.length - 1) 1 s (by omega) ⟨hi,hnd,hg,hs⟩
 ·exact this
 ·obtain ⟨a1,a2,a3,a4⟩:=hI
  have hS:=a3 S (List.mem_of_getElem? a1)
  obtain ⟨hn,hng⟩:=nxt_eq hv hS (k:Int)
  have hsl:aCn t S (t.L.length - k) k=if nxt t S (k:Int)=[] then aCn t S (t.L.length - (k+1)) (k+1) else ((k:Int),nxt t S (k:Int))::aCn t S (t.L.length - (k+1)) (k+1):=by
   rw [show t.L.length - k=(t.L.length - (k+1))+1 by omega];rfl
  have hw:=aW hk (show t.L.length < 4611686018427387904 by omega)
  have hst:uC t (i:Int) a.1 a.2 (k:Int)=(if nxt t S (k:Int)=[] then some (.inl (a.1,a.2,((k+1:Nat):Int))) else uA (i:Int) a.1 a.2 (k:Int) (nxt t S (k:Int)) (pos a.1 (nxt t S (k:Int)))):=by
   simp only [uC,bD hk,if_pos,aFZ,a1,aA,hn,yC,hw]
   by_cases e:nxt t S (k:Int)=[]
   ·rw [if_pos e,if_pos (by simp [e])]
   ·rw [if_neg e,if_neg (by simpa using e),sets_find _ _ (by simpa using a2) (by have:=a4.1;omega) (fun x hx=>(a3 x hx).len),aA]
  simp only
  rw [hst,hsl]
  by_cases e:nxt t S (k:Int)=[]
  ·left
   rw [if_pos e,if_pos e]
   exact ⟨a,rfl,⟨a1,a2,a3,a4⟩,rfl⟩
  ·rw [if_neg e,if_neg e,aCH]
   have hnew:uA (i:Int) a.1 a.2 (k:Int) (nxt t S (k:Int)) (pos a.1 (nxt t S (k:Int)))=some (if Small (aCl id (i:Int) a ((k:Int),nxt t S (k:Int))) then .inl ((aCl id (i:Int) a ((k:Int),nxt t S (k:Int))).1,(aCl id (i:Int) a ((k:Int),nxt t S (k:Int))).2,((k+1:Nat):Int)) else .inr (.inr (⟨0,0,[],[]⟩,[],false))):=by
    obtain ⟨b1,b2⟩:=a4
    unfold uA aBS yC aCl vS atK Small
    simp only [List.map_id,id]
    by_cases hm:nxt t S (k:Int)∈a.1
    ·have hp:=aCk.2 hm
     rw [if_neg (by simpa using hp)]
     simp only [if_pos hm,List.length_append,List.length_singleton]
     by_cases h3:a.2.length=300
     ·rw [if_pos (by simp [h3]),if_neg (by omega)]
     ·rw [if_neg (by simp;omega),if_pos (by omega),bS (by simp [iO];omega),aA,hw]
    ·have hp:¬ 0<=pos a.1 (nxt t S (k:Int)):=fun h=>hm (aCk.1 h)
     rw [if_pos (by simpa using hp)]
     simp only [if_neg hm,List.length_append,List.length_singleton]
     by_cases h4:a.1.length=40
     ·rw [if_pos (by simp [h4]),if_neg (by omega)]
     ·rw [if_neg (by simp;omega),bS (by simp [iO];omega),aA]
      by_cases h3:a.2.length=300
      ·rw [if_pos (by simp [h3]),if_neg (by omega)]
      ·rw [if_neg (by simp;omega),if_pos (by omega),bS (by simp [iO];omega),aA,hw]
   rw [hnew]
   by_cases hok:Small (aCl id (i:Int) a ((k:Int),nxt t S (k:Int)))
   ·left
    rw [if_pos hok]
    refine ⟨_,rfl,⟨pre_get (aIV (key:=id) a.1 _) a1,aOk (key:=id) a2 _,aOl (key:=id) a3 hng,hok⟩,rfl⟩
   ·right
    rw [if_neg hok,if_neg (fun h=>hok (Small.pre (aDG (key:=id) _ _ _) h))]
 ·simp only [uC,bI]
  rw [Nat.sub_self]
  show some (Sum.inr (Sum.inl (a.1,a.2)))=_
  rw [show jP id (i:Int) (aCn t S 0 t.L.length) a=a from rfl,if_pos hI.2.2.2]
theorem aOm (hv:aN t):∀ (n i:Nat) (s:List (List Int) × List Edge),i<=s.1.length->41<=n+i->(s.1.map id).Nodup->(∀ S∈s.1,kL t S)->Small s->
  loop (fun s:List (List Int) × List Edge × Int=>jI t s.1 s.2.1 s.2.2) (s.1,s.2,(i:Int))=some (if Small (xpl id (iV t) 40 n i s) then .inl (xpl id (iV t) 40 n i s) else .inr (⟨0,0,[],[]⟩,[],false))
 |0,i,s,hi,hn,_,_,hs=>by have:=hs.1;omega
 |n+1,i,s,hi,hn,hnd,hg,hs=>by
  by_cases hlt:i < s.1.length
  ·have hq:s.1[i]?=some s.1[i]:=List.getElem?_eq_getElem hlt
   have hx:xpl id (iV t) 40 (n+1) i s=if 40 < (jP id (i:Int) (iV t s.1[i]) s).1.length then jP id (i:Int) (iV t s.1[i]) s else xpl id (iV t) 40 n (i+1) (jP id (i:Int) (iV t s.1[i]) s):=by
    rw [xpl,hq]
   have hw:=aW hlt (show s.1.length < 4611686018427387904 by have:=hs.1;omega)
   have hGq:=hg _ (List.getElem_mem hlt)
   have g1:=aKx (key:=id) (i:Int) (iV t s.1[i]) s hnd
   have g2:=aIW (key:=id) (P:=kL t) (i:Int) (iV t s.1[i]) s hg (aHd hv hGq _ _)
   have gl:=(aDG (key:=id) (i:Int) (iV t s.1[i]) s).1.length_le
   have hst:jI t s.1 s.2 (i:Int)=if Small (jP id (i:Int) (iV t s.1[i]) s) then some (.inl ((jP id (i:Int) (iV t s.1[i]) s).1,(jP id (i:Int) (iV t s.1[i]) s).2,((i+1:Nat):Int))) else some (.inr (.inr (⟨0,0,[],[]⟩,[],false))):=by
    unfold jI
    rw [if_pos (bD hlt),aTV hv hq hnd hg hs,aA]
    by_cases hok:Small (jP id (i:Int) (iV t s.1[i]) s)
    ·rw [if_pos hok,if_pos hok];simp only [aEl,aEk,hw]
    ·rw [if_neg hok,if_neg hok]
   by_cases hok:Small (jP id (i:Int) (iV t s.1[i]) s)
   ·rw [if_pos hok] at hst
    rw [aFt (step:=fun s:List (List Int) × List Edge × Int=>jI t s.1 s.2.1 s.2.2) (s:=(s.1,s.2,(i:Int))) hst,show xpl id (iV t) 40 (n+1) i s=xpl id (iV t) 40 n (i+1) (jP id (i:Int) (iV t s.1[i]) s) by rw [hx];exact if_neg (by have:=hok.1;omega)]
    exact aOm hv n (i+1) _ (by omega) (by omega) g1 g2 hok
   ·rw [if_neg hok] at hst
    rw [aDF (step:=fun s:List (List Int) × List Edge × Int=>jI t s.1 s.2.1 s.2.2) (s:=(s.1,s.2,(i:Int))) hst,hx]
    by_cases h40:40 < (jP id (i:Int) (iV t s.1[i]) s).1.length
    ·rw [if_pos h40,if_neg hok]
    ·rw [show (if 40 < (jP id (i:Int) (iV t s.1[i]) s).1.length then jP id (i:Int) (iV t s.1[i]) s else xpl id (iV t) 40 n (i+1) (jP id (i:Int) (iV t s.1[i]) s))=xpl id (iV t) 40 n (i+1) (jP id (i:Int) (iV t s.1[i]) s) from if_neg h40,if_neg (fun h=>hok (Small.pre (aLo (key:=id) (iV t) 40 n (i+1) _) h))]
  ·obtain rfl:i=s.1.length:=by omega
   have hx:xpl id (iV t) 40 (n+1) s.1.length s=s:=by
    rw [xpl,List.getElem?_eq_none (Nat.le_refl _)]
   have hst:jI t s.1 s.2 (s.1.length:Int)=some (.inr (.inl (s.1,s.2))):=by
    simp only [jI,bI];rfl
   rw [aDF (step:=fun s:List (List Int) × List Edge × Int=>jI t s.1 s.2.1 s.2.2) (s:=(s.1,s.2,(s.1.length:Int))) hst,hx,if_pos hs]
noncomputable def wE (t:aO):List Int:=(wO t).getD []
noncomputable def dC (t:aO):List (List Int) × List Edge:=xpl id (iV t) 40 41 0 ([wE t],[])
theorem aFY (hv:aN t):wO t=some (wE t)/\eQ t [t.I]=some (wE t)/\kL t (wE t):=by
 obtain ⟨R,h1,h2,h3⟩:=aJs hv
 have e:wE t=R:=by unfold wE;rw [h2];rfl
 rw [e]
 exact ⟨h2,h1,kL.of hv h3 fun q hq=>hq.inn hv fun q hq=>by have:=hv.2.1;omega⟩
noncomputable def detS (t:aO):aO × List (List Int) × Bool:=if Small (dC t) then (⟨((dC t).1.length:Int),0,t.L,(dC t).2⟩,(dC t).1,true) else (⟨0,0,[],[]⟩,[],false)
theorem aTW (hv:aN t):aEt t=some (detS t):=by
 obtain ⟨h1,_,h3⟩:=aFY hv
 unfold aEt detS
 rw [h1,aA]
 have:=aOm hv 41 0 ([wE t],[]) (by simp) (by omega) (by simp) (fun S hS=>by simp at hS;subst hS;exact h3) ⟨by simp,by simp⟩
 rw [show loop (fun s:List (List Int) × List Edge × Int=>jI t s.1 s.2.1 s.2.2) ([wE t],[],0)=_ from this,aA]
 show (match (if Small (dC t) then Sum.inl (dC t) else Sum.inr (⟨0,0,[],[]⟩,[],false):(List (List Int) × List Edge) ⊕ (aO × List (List Int) × Bool)) with|.inl r=>aBR t r.1 r.2|.inr r=>some r)=_
 by_cases hs:Small (dC t)
 ·rw [if_pos hs,if_pos hs]
  simp only [aBR]
  rw [bS (by have:=hv.2.2.1.2.1;simp [iO];omega),aA,List.nil_append]
 ·rw [if_neg hs,if_neg hs]
theorem aJt (hv:aN t):((dC t).1.map id).Nodup/\(∀ S∈(dC t).1,kL t S)/\(dC t).2.Pairwise aEp/\(∀ e∈(dC t).2,(0<=e.F/\e.F < (dC t).1.length)/\(1<=e.B/\e.B<=t.L.tail.length)/\0<=e.To/\e.To < (dC t).1.length)/\1<=(dC t).1.length:=by
 obtain ⟨_,_,h3⟩:=aFY hv
 have hg:∀ S∈([wE t],([]:List Edge)).1,kL t S:=fun S hS=>by simp at hS;subst hS;exact h3
 have hP:∀ q,kL t q->∀ x∈iV t q,kL t x.2:=fun q hq=>aHd hv hq _ _
 obtain ⟨g1,g2⟩:=xpl_ok (key:=id) hP 40 41 0 ([wE t],[]) (by simp) hg
 obtain ⟨j,hj,hE⟩:=xpl_ED (key:=id) (L:=t.L.tail) hP (fun q _=>sucD_inc hv q) 40 41 0 ([wE t],[]) hg (by simp) ⟨by simp,fun e he=>by simp at he⟩
 obtain ⟨e1,e2⟩:=hE.done hj
 exact ⟨g1,g2,e1,e2,(aLo (key:=id) (iV t) 40 41 0 ([wE t],[])).1.length_le⟩
end
end Gv
namespace Gv
open Go
def kS (S:List Int):aL:=Lib.join (S.map Lib.itoa) [44]
theorem aHe {v:Int} (h0:0<=v) (h1:v<=63):(44:UInt8)∉Lib.itoa v/\Lib.itoa v≠[]:=by
 have h:=aNQ h0 h1
 refine ⟨fun hm=>?_,fun e=>by rw [e] at h;cases h⟩
 have:=List.all_eq_true.1 (isNum_ok h) _ hm
 exact absurd this (by decide)
theorem app_inj {c:UInt8}:∀ {x y r r':aL},c∉x->c∉y->x++c::r=y++c::r'->x=y/\r=r'
 |[],[],r,r',_,_,h=>⟨rfl,by simpa using h⟩
 |[],b::y,r,r',_,hy,h=>by simp at h;exact absurd (by simp [h.1]) hy
 |a::x,[],r,r',hx,_,h=>by simp at h;exact absurd (by simp [h.1]) hx
 |a::x,b::y,r,r',hx,hy,h=>by
  simp only [List.cons_append,List.cons.injEq] at h
  obtain ⟨g1,g2⟩:=app_inj (fun hm=>hx (by simp [hm])) (fun hm=>hy (by simp [hm])) h.2
  exact ⟨by rw [h.1,g1],g2⟩
theorem aHf (x y:aL) (l:List aL):Lib.join (x::y::l) [44]=x++(44::Lib.join (y::l) [44]):=by
 rw [Lib.join_cons,Lib.join_cons]
 simp [Lib.joinTail]
theorem kS_inj:∀ {S T:List Int},(∀ q∈S,0<=q/\q<=63)->(∀ q∈T,0<=q/\q<=63)->kS S=kS T->S=T
 |[],[],_,_,_=>rfl
 |[],b::T,_,hT,h=>by
  have hb:=aHe (hT b (by simp)).1 (hT b (by simp)).2
  cases T with
  |nil=>unfold kS at h;simp only [List.map_cons,List.map_nil,Lib.join_one,Lib.join_nil] at h;exact absurd h.symm hb.2
  |cons c T=>unfold kS at h;simp only [List.map_cons,List.map_nil,aHf,Lib.join_nil] at h;simp at h
 |a::S,[],hS,_,h=>by
  have hb:=aHe (hS a (by simp)).1 (hS a (by simp)).2
  cases S with
  |nil=>unfold kS at h;simp only [List.map_cons,List.map_nil,Lib.join_one,Lib.join_nil] at h;exact absurd h hb.2
  |cons c T=>unfold kS at h;simp only [List.map_cons,List.map_nil,aHf,Lib.join_nil] at h;simp at h
 |[a],[b],hS,hT,h=>by
  have ha:=hS a (by simp);have hb:=hT b (by simp)
  unfold kS at h
  simp only [List.map_cons,List.map_nil,Lib.join_one] at h
  rw [aSg (by omega) (by omega) h]
 |[a],b::c::T,hS,hT,h=>by
  have ha:=aHe (hS a (by simp)).1 (hS a (by simp)).2
  unfold kS at h
  simp only [List.map_cons,List.map_nil,Lib.join_one,aHf] at h
  exact absurd (by rw [h];simp) ha.1
 |a::c::S,[b],hS,hT,h=>by
  have hb:=aHe (hT b (by simp)).1 (hT b (by simp)).2
  unfold kS at h
  simp only [List.map_cons,List.map_nil,Lib.join_one,aHf] at h
  exact absurd (by rw [←h];simp) hb.1
 |a::c::S,b::d::T,hS,hT,h=>by
  have ha:=hS a (by simp);have hb:=hT b (by simp)
  have h':Lib.itoa a++(44::kS (c::S))=Lib.itoa b++(44::kS (d::T)):=by
   unfold kS at h ⊢
   simp only [List.map_cons,aHf] at h ⊢
   exact h
  obtain ⟨g1,g2⟩:=app_inj (aHe ha.1 ha.2).1 (aHe hb.1 hb.2).1 h'
  have:=kS_inj (fun q hq=>hS q (List.mem_cons_of_mem _ hq)) (fun q hq=>hT q (List.mem_cons_of_mem _ hq)) g2
  rw [aSg (by omega) (by omega) g1,this]
theorem kS_len:∀ {S:List Int},(∀ q∈S,0<=q/\q<=63)->(kS S).length<=3 * S.length
 |[],_=>by simp [kS,Lib.join_nil]
 |[a],h=>by
  have:=aSh (a:=a) (by have:=h a (by simp);omega)
  unfold kS
  simp only [List.map_cons,List.map_nil,Lib.join_one,List.length_singleton];omega
 |a::c::S,h=>by
  have:=aSh (a:=a) (by have:=h a (by simp);omega)
  have ih:=kS_len (S:=c::S) fun q hq=>h q (List.mem_cons_of_mem _ hq)
  unfold kS at ih ⊢
  simp only [List.map_cons,aHf,List.length_append,List.length_cons] at ih ⊢
  omega
section
variable {t:aO}
theorem kL.small (hv:aN t) {S:List Int} (h:kL t S):∀ q∈S,0<=q/\q<=63:=fun q hq=>by have:=h.inn q hq;have:=hv.1;omega
theorem detKey_eq (hv:aN t) {S:List Int} (h:kL t S):rC S=some (kS S):=by
 have hs:=h.small hv
 have hl:=kS_len hs
 have:=h.len
 unfold rC
 rw [aPB S [44] (by omega) (fun x hx=>by have:=hs x hx;omega) (by show (kS S).length < iO;unfold iO;omega)]
 rfl
theorem keyS_inj (hv:aN t) {F:List (List Int)} (hF:∀ S∈F,kL t S) {S:List Int} (h:kL t S):∀ x∈F,kS x=kS S->x=S:=
 fun x hx e=>kS_inj ((hF x hx).small hv) (h.small hv) e
theorem aOn (hv:aN t) {F:List (List Int)} (hF:∀ S∈F,kL t S) {S:List Int} (h:kL t S) (hl:F.length<=1000) (arcs:List nX):
  eE F (mq 0 (F.map kS)) arcs S=some (atK id F S,vS id F S,mq 0 ((vS id F S).map kS)):=by
 have hk:=keyS_inj hv hF h
 unfold eE
 rw [detKey_eq hv h,aA]
 unfold atK vS
 rw [List.map_id]
 by_cases hm:S∈F
 ·rw [mget_in ((key_in hk).2 hm),if_neg (by simp),if_pos (show id S∈F from hm),if_pos (show id S∈F from hm),pos_inj hk]
  rfl
 ·have hm':kS S∉F.map kS:=fun h=>hm ((key_in hk).1 h)
  rw [aSk hm',if_pos (by simp),if_neg (show ¬ id S∈F from hm),if_neg (show ¬ id S∈F from hm)]
  have h1:vN (mq 0 (F.map kS)) (kS S) (F.length:Int)=mq 0 ((F++[S]).map kS):=by
   have:=aQM (k:=0) hm'
   rw [Nat.zero_add,List.length_map] at this
   rw [this,List.map_append];rfl
  rw [aA,h1,bS (by simp [iO];omega),aA]
  rfl
theorem detAdd_eq (hv:aN t) {s:List (List Int) × List Edge} (hF:∀ S∈s.1,kL t S) {S:List Int} (h:kL t S) (hl:s.1.length<=1000) (he:s.2.length<=1000000) (L:List aL) (i:Nat) (k:Int):
  lA (L.getD (k - 1).toNat []) S s.1 (mq 0 (s.1.map kS)) (s.2.map (mV L)) (i:Int)=some ((aCl id (i:Int) s (k,S)).1,mq 0 ((aCl id (i:Int) s (k,S)).1.map kS),(aCl id (i:Int) s (k,S)).2.map (mV L)):=by
 unfold lA
 rw [aOn hv hF h hl,aA,bS (by simp [iO];omega),aA]
 unfold pZ aCl
 rw [List.map_append]
 rfl
theorem tail_cons (hv:aN t):t.L=bC::t.L.tail/\nT t.L.tail:=by
 obtain ⟨L,e,h⟩:=hv.2.2.1.cons
 rw [e];exact ⟨rfl,h⟩
theorem aQP (hv:aN t):aEf t.L.tail/\t.L.tail.length<=11:=by
 obtain ⟨h1,h12,h0,hk⟩:=hv.2.2.1
 refine ⟨⟨fun s hs=>?_,fun k hk1 hkl=>?_⟩,by rw [List.length_tail];omega⟩
 ·obtain ⟨j,hj,rfl⟩:=List.mem_iff_getElem.1 hs
  rw [List.length_tail] at hj
  rw [List.getElem_tail]
  have:=hk (j+1) (by omega) (by omega)
  exact ⟨this.1,this.2.1⟩
 ·rw [List.length_tail] at hkl
  rw [List.getElem_tail,List.getElem_tail]
  have:=(hk (k+1) (by omega) (by omega)).2.2 (by omega)
  have e:k - 1+1=k:=by omega
  simp only [e]
  simpa using this
theorem det_inner (hv:aN t) {i:Nat} {S:List Int} (hS:kL t S) {s:List (List Int) × List Edge} (hg:∀ S∈s.1,kL t S) (hl:s.1.length<=100) (he:s.2.length<=100000):
  nK S s.1 (mq 0 (s.1.map kS)) (s.2.map (mV t.L.tail)) (i:Int) t=some (true,(jP id (i:Int) (iV t S) s).1,mq 0 ((jP id (i:Int) (iV t S) s).1.map kS),(jP id (i:Int) (iV t S) s).2.map (mV t.L.tail)):=by
 have h12:=hv.2.2.1.2.1
 have h1:=hv.2.2.1.1
 have hsl:vT t.L 1 (t.L.length:Int)=some t.L.tail:=by
  have:=aIS (s:=t.L) (w:=1) h1
  rw [show ((1:Nat):Int)=1 from rfl] at this
  rw [this,List.drop_one]
 have htl:t.L.tail.length=t.L.length - 1:=List.length_tail ..
 unfold nK
 rw [hsl,aA]
 have:=yJ (step:=fun x:List (List Int) × List (aL × Int) × List nX × Int=>iC S (i:Int) t t.L.tail x.1 x.2.1 x.2.2.1 x.2.2.2) t.L.tail.length (fun k (a:List (List Int) × List Edge)=>(a.1,mq 0 (a.1.map kS),a.2.map (mV t.L.tail),(k:Int)))
  (fun k a=>((jP id (i:Int) (aCn t S (t.L.tail.length - k) (k+1)) a).1,mq 0 ((jP id (i:Int) (aCn t S (t.L.tail.length - k) (k+1)) a).1.map kS),(jP id (i:Int) (aCn t S (t.L.tail.length - k) (k+1)) a).2.map (mV t.L.tail)))
  (fun k a=>(∀ S∈a.1,kL t S)/\a.1.length<=100+k/\a.2.length<=100000+k) (fun k a hk hI=>?_) (fun a hI=>?_) t.L.tail.length 0 s (by omega) ⟨hg,hl,he⟩
 ·rw [show loop (fun x:List (List Int) × List (aL × Int) × List nX × Int=>iC S (i:Int) t t.L.tail x.1 x.2.1 x.2.2.1 x.2.2.2) (s.1,mq 0 (s.1.map kS),s.2.map (mV t.L.tail),0)=_ from this,aA]
  unfold tB iV
  simp only [Nat.sub_zero,htl,Nat.zero_add]
 ·left
  obtain ⟨a3,a4,a5⟩:=hI
  have hk1:k+1 < t.L.length:=by omega
  obtain ⟨hn,hng⟩:=nxt_eq hv hS ((k+1:Nat):Int)
  obtain ⟨R,v1,v2,_⟩:=aMD hv (S:=S) (by have:=hS.len;omega) hk1
  have hR:R=nxt t S ((k+1:Nat):Int):=by rw [hn] at v2;exact (Option.some.inj v2).symm
  subst hR
  have hlab:t.L.tail[k]=t.L[k+1]:=by rw [List.getElem_tail]
  have hsL:aCn t S (t.L.tail.length - k) (k+1)=if nxt t S ((k+1:Nat):Int)=[] then aCn t S (t.L.tail.length - (k+1)) (k+1+1) else (((k+1:Nat):Int),nxt t S ((k+1:Nat):Int))::aCn t S (t.L.tail.length - (k+1)) (k+1+1):=by
   rw [show t.L.tail.length - k=(t.L.tail.length - (k+1))+1 by omega];rfl
  have hw:=aW hk (show t.L.tail.length < 4611686018427387904 by omega)
  rw [hsL]
  simp only [iC,bD hk,if_pos,bE hk,aA,hlab,v1]
  by_cases e:nxt t S ((k+1:Nat):Int)=[]
  ·rw [if_pos e,if_neg (by rw [e];simp)]
   exact ⟨a,by simp only [hQ,hw],⟨a3,by omega,by omega⟩,rfl⟩
  ·rw [if_neg e,if_pos (decide_eq_true (by have:=List.length_pos_iff.2 e;omega))]
   have hadd:=detAdd_eq hv (s:=a) a3 hng (by omega) (by omega) t.L.tail i ((k+1:Nat):Int)
   have hgd:t.L.tail.getD (((k+1:Nat):Int) - 1).toNat []=t.L[k+1]:=by
    rw [show (((k+1:Nat):Int) - 1).toNat=k by omega,List.getD_eq_getElem?_getD,List.getElem?_eq_getElem hk,←hlab];rfl
   rw [hgd] at hadd
   rw [hadd,aA,aCH]
   simp only [hQ,hw]
   refine ⟨aCl id (i:Int) a (((k+1:Nat):Int),nxt t S ((k+1:Nat):Int)),rfl,⟨aOl (key:=id) a3 hng,?_,?_⟩,rfl⟩
   ·have:=aLn (key:=id) a.1 (nxt t S ((k+1:Nat):Int))
    simp only [aCl];omega
   ·simp only [aCl,List.length_append,List.length_singleton];omega
 ·simp only [iC,bI]
  rw [Nat.sub_self]
  rfl
theorem aPM (hv:aN t):∀ (n i:Nat) (s:List (List Int) × List Edge),i<=s.1.length->41<=n+i->(∀ S∈s.1,kL t S)->s.1.length<=40->s.2.length<=11 * i->
  loop (fun x:List (List Int) × List (aL × Int) × List nX × Int=>cP t x.1 x.2.1 x.2.2.1 x.2.2.2) (s.1,mq 0 (s.1.map kS),s.2.map (mV t.L.tail),(i:Int))=
   some (if (xpl id (iV t) 40 n i s).1.length<=40 then .inl ((xpl id (iV t) 40 n i s).1,mq 0 ((xpl id (iV t) 40 n i s).1.map kS),(xpl id (iV t) 40 n i s).2.map (mV t.L.tail)) else .inr (⟨0,0,[],[]⟩,[],false))/\
   (xpl id (iV t) 40 n i s).2.length<=11 * (n+i)
 |0,i,s,hi,hn,_,hs,_=>by omega
 |n+1,i,s,hi,hn,hg,hs,he=>by
  have h12:=hv.2.2.1.2.1
  by_cases hlt:i < s.1.length
  ·have hq:s.1[i]?=some s.1[i]:=List.getElem?_eq_getElem hlt
   have hx:xpl id (iV t) 40 (n+1) i s=if 40 < (jP id (i:Int) (iV t s.1[i]) s).1.length then jP id (i:Int) (iV t s.1[i]) s else xpl id (iV t) 40 n (i+1) (jP id (i:Int) (iV t s.1[i]) s):=by
    rw [xpl,hq]
   have hw:=aW hlt (show s.1.length < 4611686018427387904 by omega)
   have hGq:=hg _ (List.getElem_mem hlt)
   have g2:=aIW (key:=id) (P:=kL t) (i:Int) (iV t s.1[i]) s hg (aHd hv hGq _ _)
   have gl:=(aDG (key:=id) (i:Int) (iV t s.1[i]) s).1.length_le
   have ge:=(aSp (key:=id) (i:Int) (iV t s.1[i]) s).1
   have gs:(iV t s.1[i]).length<=11:=Nat.le_trans (aSr _ _ _) (by omega)
   have hst:cP t s.1 (mq 0 (s.1.map kS)) (s.2.map (mV t.L.tail)) (i:Int)=if 40 < (jP id (i:Int) (iV t s.1[i]) s).1.length then some (.inr (.inr (⟨0,0,[],[]⟩,[],false))) else some (.inl ((jP id (i:Int) (iV t s.1[i]) s).1,mq 0 ((jP id (i:Int) (iV t s.1[i]) s).1.map kS),(jP id (i:Int) (iV t s.1[i]) s).2.map (mV t.L.tail),((i+1:Nat):Int))):=by
    unfold cP
    rw [if_pos (bD hlt),bE hlt,aA,det_inner hv hGq hg (by omega) (by omega),aA,if_neg (by simp)]
    unfold lC
    by_cases h40:40 < (jP id (i:Int) (iV t s.1[i]) s).1.length
    ·rw [if_pos h40,if_pos (by simp only [decide_eq_true_eq];omega)]
    ·rw [if_neg h40,if_neg (by simp only [decide_eq_true_eq];omega),hw]
   by_cases h40:40 < (jP id (i:Int) (iV t s.1[i]) s).1.length
   ·rw [if_pos h40] at hst hx
    rw [hx]
    refine ⟨?_,by omega⟩
    rw [aDF (step:=fun x:List (List Int) × List (aL × Int) × List nX × Int=>cP t x.1 x.2.1 x.2.2.1 x.2.2.2) (s:=(s.1,mq 0 (s.1.map kS),s.2.map (mV t.L.tail),(i:Int))) hst,if_neg (by omega)]
   ·rw [if_neg h40] at hst hx
    rw [hx,aFt (step:=fun x:List (List Int) × List (aL × Int) × List nX × Int=>cP t x.1 x.2.1 x.2.2.1 x.2.2.2) (s:=(s.1,mq 0 (s.1.map kS),s.2.map (mV t.L.tail),(i:Int))) hst]
    obtain ⟨r1,r2⟩:=aPM hv n (i+1) (jP id (i:Int) (iV t s.1[i]) s) (by omega) (by omega) g2 (by omega) (by omega)
    exact ⟨r1,by omega⟩
  ·obtain rfl:i=s.1.length:=by omega
   have hx:xpl id (iV t) 40 (n+1) s.1.length s=s:=by
    rw [xpl,List.getElem?_eq_none (Nat.le_refl _)]
   have hst:cP t s.1 (mq 0 (s.1.map kS)) (s.2.map (mV t.L.tail)) (s.1.length:Int)=some (.inr (.inl (s.1,mq 0 (s.1.map kS),s.2.map (mV t.L.tail)))):=by
    unfold cP
    rw [if_neg (by simp)]
   rw [hx]
   refine ⟨?_,by omega⟩
   rw [aDF (step:=fun x:List (List Int) × List (aL × Int) × List nX × Int=>cP t x.1 x.2.1 x.2.2.1 x.2.2.2) (s:=(s.1,mq 0 (s.1.map kS),s.2.map (mV t.L.tail),(s.1.length:Int))) hst,if_pos hs]
theorem aSs (hv:aN t) (hf:eT 999999999 t) {n:Nat} {ed:List Edge} (hl:ed.length<=999999999):eT 999999999 (mP t.L.tail n ed):=by
 obtain ⟨hok,h11⟩:=aQP hv
 have hMl:(aKv t.L.tail ed).length<=t.L.tail.length:=List.length_filter_le _ _
 refine ⟨by simp only [mP,List.length_cons];omega,fun s hs=>?_,by simp [mP];omega⟩
 simp only [mP] at hs
 rcases List.mem_cons.1 hs with rfl|hs
 ·decide
 ·exact hf.2.1 s (List.mem_of_mem_tail (List.mem_filter.1 hs).1)
theorem aQQ (hv:aN t) (hf:eT 999999999 t):oN (wE t) t=some (if (dC t).1.length<=40 then (mP t.L.tail (dC t).1.length (dC t).2,(dC t).1,decide ((dC t).2.length<=300)) else (⟨0,0,[],[]⟩,[],false))/\(dC t).2.length<=451:=by
 obtain ⟨h1,_,h3⟩:=aFY hv
 obtain ⟨hok,h11⟩:=aQP hv
 obtain ⟨o1,o2⟩:=aPM hv 41 0 ([wE t],[]) (by simp) (by omega) (fun S hS=>by simp at hS;subst hS;exact h3) (by simp) (by simp)
 have hlen:(dC t).2.length<=451:=o2
 refine ⟨?_,hlen⟩
 unfold oN
 have hf0:=aOn hv (F:=[]) (by simp) h3 (by simp) []
 have e0:vS id ([]:List (List Int)) (wE t)=[wE t]:=rfl
 rw [e0] at hf0
 rw [show eE [] ([]:List (aL × Int)) [] (wE t)=_ from hf0,aA]
 simp only
 rw [show loop (fun x:List (List Int) × List (aL × Int) × List nX × Int=>cP t x.1 x.2.1 x.2.2.1 x.2.2.2) ([wE t],mq 0 ([wE t].map kS),[],0)=_ from o1,aA]
 obtain ⟨d1,d2,d3,d4,d5⟩:=aJt hv
 show (match (if (dC t).1.length<=40 then Sum.inl ((dC t).1,mq 0 ((dC t).1.map kS),(dC t).2.map (mV t.L.tail)) else Sum.inr (⟨0,0,[],[]⟩,[],false):(List (List Int) × List (aL × Int) × List nX) ⊕ (aO × List (List Int) × Bool)) with|.inl r=>lB r.1 r.2.1 r.2.2|.inr r=>some r)=_
 by_cases h40:(dC t).1.length<=40
 ·rw [if_pos h40,if_pos h40]
  simp only
  unfold lB
  rw [aSi (by simp;omega),aA,aTL hok h11 d3 (fun e he=>(d4 e he).2.1) (by omega),aA]
  unfold oT
  rw [show (⟨(mP t.L.tail (dC t).1.length (dC t).2).N,(mP t.L.tail (dC t).1.length (dC t).2).I,(mP t.L.tail (dC t).1.length (dC t).2).L,(mP t.L.tail (dC t).1.length (dC t).2).E⟩:aO)=mP t.L.tail (dC t).1.length (dC t).2 from rfl]
  rw [kK _ (aSs hv hf (by omega)),aA,aNX (b:=decide ((dC t).2.length<=300)) (by rw [decide_eq_true_iff];exact (foundT_ok hok h11 ⟨d5,h40⟩ d3 d4).symm)]
 ·rw [if_neg h40,if_neg h40]
theorem tG (hv:aN t) (hf:eT 999999999 t):jD t=some (detS t):=by
 obtain ⟨h1,h2,h3⟩:=aFY hv
 obtain ⟨hok,h11⟩:=aQP hv
 obtain ⟨hc,hst⟩:=tail_cons hv
 obtain ⟨d1,d2,d3,d4,d5⟩:=aJt hv
 obtain ⟨x1,x2⟩:=aQQ hv hf
 unfold jD detS
 rw [h2,aA,x1,aA]
 by_cases hs:Small (dC t)
 ·rw [if_pos hs,if_pos hs.1]
  simp only [decide_eq_true hs.2]
  rw [if_neg (by simp),aSj hok (by omega) d4,aA]
  have hl:=lts_eq (st:=((dC t).1.length:Int)) (ini:=0) (labels:=t.L) (M:=t.L.tail) (arcs:=(dC t).2.map (mV t.L.tail)) hst (fun s hs=>by rw [hc];simp [hs]) (by have:=hv.2.2.1.2.1;omega) (by simp;omega) (by rw [aPF hst (fun e he=>(d4 e he).2.1)];exact d3.imp aJp) (by omega)
  rw [aPF hst (fun e he=>(d4 e he).2.1),←hc] at hl
  rw [show (mP t.L.tail (dC t).1.length (dC t).2).N=((dC t).1.length:Int) from rfl,hl,aA]
 ·rw [if_neg hs]
  by_cases h40:(dC t).1.length<=40
  ·rw [if_pos h40]
   have:¬ (dC t).2.length<=300:=fun h=>hs ⟨h40,h⟩
   simp only [decide_eq_false this]
   rw [if_pos (by simp)]
  ·rw [if_neg h40]
   simp only
   rw [if_pos (by simp)]
end
end Gv
namespace Gv
open Go
theorem aTX (l:List aL) (a:Nat) (ha:a<=l.length) (h:l.length < 1000000000):∃ z:aL,loop (fun s:List aL × Int=>tU (a:Int) s.1 s.2) (l++[[]],(l.length:Int))=some (l.take a++z::l.drop a):=by
 have key:=sE (step:=fun s:List aL × Int=>tU (a:Int) s.1 s.2) (fun s=>∃ (k:Nat) (z:aL),s=(l.take k++z::l.drop k,(k:Int))/\a<=k/\k<=l.length) (fun s=>s.2.toNat)
  (fun x=>∃ z:aL,x=l.take a++z::l.drop a) (fun s hI=>?_) (s:=(l++[[]],(l.length:Int))) ⟨l.length,[],by simp,ha,Nat.le_refl _⟩
 ·obtain ⟨r,h1,z,rfl⟩:=key
  exact ⟨z,h1⟩
 ·obtain ⟨k,z,rfl,hak,hk⟩:=hI
  simp only [tU]
  have hlen:(l.take k++z::l.drop k).length=l.length+1:=by simp;omega
  by_cases h0:a < k
  ·have hk1:wr ((k:Int) - 1)=((k - 1:Nat):Int):=by rw [fS (by omega) (by omega)];omega
   rw [decide_eq_true (p:=(a:Int) < (k:Int)) (by omega),if_pos rfl,hk1,bE (xs:=l.take k++z::l.drop k) (k:=k - 1) (by omega),aA,bE (by omega),aA,aCs _ (by omega),aA]
   left
   refine ⟨_,rfl,⟨k - 1,l[k - 1],?_,by omega,by omega⟩,by simp;omega⟩
   have e1:(l.take k++z::l.drop k)[k - 1]'(by omega)=l[k - 1]:=by
    rw [List.getElem_append_left (by simp;omega),List.getElem_take]
   rw [e1]
   have e2:(l.take k++z::l.drop k).set k l[k - 1]=l.take k++l[k - 1]::l.drop k:=by
    rw [List.set_append_right _ _ (by rw [List.length_take];omega)]
    simp [Nat.min_eq_left hk]
   have e3:l.take k=l.take (k - 1)++[l[k - 1]]:=by
    have:=List.take_add_one (l:=l) (i:=k - 1)
    rw [show k - 1+1=k by omega,List.getElem?_eq_getElem (by omega)] at this
    exact this
   have e4:l.drop (k - 1)=l[k - 1]::l.drop k:=by
    have:=List.drop_eq_getElem_cons (l:=l) (i:=k - 1) (by omega)
    rw [show k - 1+1=k by omega] at this
    exact this
   simp only [Prod.mk.injEq,and_true]
   rw [e2,e3,e4,List.append_assoc];rfl
  ·obtain rfl:k=a:=by omega
   right
   rw [decide_eq_false (p:=(k:Int) < (k:Int)) (by omega),if_neg (by simp)]
   exact ⟨_,rfl,z,rfl⟩
theorem join_find (l:List aL) (e:aL) (h1:1<=l.length) (h:l.length < 1000000000):∃ a:Nat,loop (fun s:Int=>mZ l e s) 1=some (a:Int)/\1<=a/\a<=l.length/\(∀ (j:Nat) x,1<=j->j < a->l[j]?=some x->ltB x e=true)/\(∀ x,l[a]?=some x->ltB x e=false):=by
 have key:=sE (step:=fun s:Int=>mZ l e s) (fun s=>∃ a:Nat,s=(a:Int)/\1<=a/\a<=l.length/\∀ (j:Nat) x,1<=j->j < a->l[j]?=some x->ltB x e=true) (fun s=>l.length - s.toNat)
  (fun r=>∃ a:Nat,r=(a:Int)/\1<=a/\a<=l.length/\(∀ (j:Nat) x,1<=j->j < a->l[j]?=some x->ltB x e=true)/\(∀ x,l[a]?=some x->ltB x e=false)) (fun s hI=>?_) (s:=1) ⟨1,rfl,Nat.le_refl _,h1,fun j x g1 g2=>by omega⟩
 ·obtain ⟨r,hr,a,rfl,h2⟩:=key
  exact ⟨a,hr,h2⟩
 ·obtain ⟨a,rfl,ha1,ha,hall⟩:=hI
  by_cases hlt:a < l.length
  ·have hx:l[a]?=some l[a]:=List.getElem?_eq_getElem hlt
   simp only [mZ,bD hlt,if_pos,bE hlt,aA,xQ]
   cases he:ltB l[a] e with
   |true=>
    left
    refine ⟨_,by rw [if_pos rfl,aW hlt (by omega)],⟨a+1,rfl,by omega,by omega,fun j x g1 g2 hj=>?_⟩,by simp;omega⟩
    by_cases e1:j=a
    ·subst e1;rw [hx] at hj;cases hj;exact he
    ·exact hall j x g1 (by omega) hj
   |false=>
    right
    refine ⟨_,by rw [if_neg (by simp)],a,rfl,ha1,ha,hall,fun x hj=>?_⟩
    rw [hx] at hj;cases hj;exact he
  ·obtain rfl:a=l.length:=by omega
   right
   refine ⟨_,by simp only [mZ,bI,xQ];rw [if_neg (by simp),if_neg (by simp)],_,rfl,ha1,Nat.le_refl _,hall,fun x hx=>?_⟩
   rw [List.getElem?_eq_none (Nat.le_refl _)] at hx;cases hx
theorem join_step (xs:List aL) (M:List aL) (hM:nT M) (hl:M.length < 1000000) (hx:xs.length < 1000000) {k:Nat} (hk:k < xs.length):∃ M',jN xs (bC::M) (k:Int)=some (.inl (bC::M',((k+1:Nat):Int)))/\nT M'/\(∀ s,s∈M'<->s∈M\/(s=xs[k]/\s≠bC))/\M'.length<=M.length+1:=by
 have hw:=aW hk (show xs.length < 4611686018427387904 by omega)
 simp only [jN,bD hk,if_pos,bE hk,aA,aFq (bC::M) xs[k] (by simp;omega),qW,hw]
 by_cases hm:xs[k]∈bC::M
 ·rw [if_pos (by simpa using aCk.2 hm)]
  refine ⟨M,rfl,hM,fun s=>⟨.inl,?_⟩,by omega⟩
  rintro (h|⟨rfl,h⟩)
  ·exact h
  ·rcases List.mem_cons.1 hm with h'|h'
   ·exact absurd h' h
   ·exact h'
 ·rw [if_neg (by have:¬ 0<=pos (bC::M) xs[k]:=fun h=>hm (aCk.1 h);simpa using this)]
  have hne:xs[k]≠bC:=fun h=>hm (by rw [h];simp)
  have hnm:xs[k]∉M:=fun h=>hm (by simp [h])
  obtain ⟨a,h1,h2,h3,h4,h5⟩:=join_find (bC::M) xs[k] (by simp) (by simp;omega)
  rw [h1,aA]
  unfold aBC
  rw [bS (by simp [iO];omega),aA]
  have hk1:wr ((((bC::M)++([([]:aL)]:List aL)).length:Int) - 1)=((bC::M).length:Int):=by
   simp only [List.length_append,List.length_cons,List.length_nil]
   rw [fS (by omega) (by omega)];omega
  rw [hk1]
  obtain ⟨z,hz⟩:=aTX (bC::M) a h3 (by simp;omega)
  rw [hz,aA]
  unfold aBB
  have hlen:((bC::M).take a++z::(bC::M).drop a).length=(bC::M).length+1:=by simp;omega
  rw [bE (by omega),aA,aCs _ (by omega),aA]
  have e2:((bC::M).take a++z::(bC::M).drop a).set a xs[k]=(bC::M).take a++xs[k]::(bC::M).drop a:=by
   rw [List.set_append_right _ _ (by rw [List.length_take];omega),List.length_take,Nat.min_eq_left h3,Nat.sub_self];rfl
  rw [e2]
  obtain ⟨b,rfl⟩:∃ b,a=b+1:=⟨a - 1,by omega⟩
  have h3':b<=M.length:=by simpa using h3
  have hbef:∀ x∈M.take b,ltB x xs[k]=true:=fun x hx=>by
   obtain ⟨j,hj,rfl⟩:=List.getElem_of_mem hx
   rw [List.length_take] at hj
   exact h4 (j+1) _ (by omega) (by omega) (by rw [List.getElem_take,List.getElem?_cons_succ];exact List.getElem?_eq_getElem (by omega))
  have haft:∀ x∈M.drop b,ltB xs[k] x=true:=fun x hx=>by
   obtain ⟨j,hj,rfl⟩:=List.getElem_of_mem hx
   rw [List.length_drop] at hj
   have hb:b < M.length:=by omega
   have g:ltB M[b] xs[k]=false:=h5 _ (by rw [List.getElem?_cons_succ];exact List.getElem?_eq_getElem hb)
   have g2:ltB xs[k] M[b]=true:=by
    rcases aNc xs[k] M[b] with t|t|t
    ·exact t
    ·exact absurd (t ▸ List.getElem_mem hb) hnm
    ·rw [g] at t;cases t
   rw [List.getElem_drop]
   by_cases j0:j=0
   ·subst j0;exact g2
   ·exact aBo g2 (List.pairwise_iff_getElem.1 hM.1 b (b+j) hb (by omega) (by omega))
  refine ⟨M.take b++xs[k]::M.drop b,by unfold qW;rw [hw];rfl,⟨?_,fun h=>?_⟩,fun s=>?_,by simp;omega⟩
  ·have hs':(M.take b++M.drop b).Pairwise fun a b=>ltB a b=true:=by rw [List.take_append_drop];exact hM.1
   rw [List.pairwise_append] at hs'
   rw [List.pairwise_append,List.pairwise_cons]
   refine ⟨hs'.1,⟨haft,hs'.2.1⟩,fun x hx y hy=>?_⟩
   rcases List.mem_cons.1 hy with rfl|hy
   ·exact hbef x hx
   ·exact aBo (hbef x hx) (haft y hy)
  ·rw [List.mem_append,List.mem_cons] at h
   rcases h with h|h|h
   ·exact hM.2 (List.mem_of_mem_take h)
   ·exact hne h.symm
   ·exact hM.2 (List.mem_of_mem_drop h)
  ·rw [List.mem_append,List.mem_cons]
   conv=>rhs;rw [←List.take_append_drop b M,List.mem_append]
   constructor
   ·rintro (g|g|g)
    ·simp [g]
    ·exact .inr ⟨g,g ▸ hne⟩
    ·simp [g]
   ·rintro ((g|g)|⟨g,_⟩)<;>simp [g]
theorem aLp (xs:List aL) (hx:xs.length < 1000000):∃ M,aBa xs=some (bC::M)/\nT M/\(∀ s,s∈M<->s∈xs/\s≠bC)/\M.length<=xs.length:=by
 have key:=cJ (step:=fun s:List aL × Int=>jN xs s.1 s.2) xs.length (fun k (M:List aL)=>(bC::M,(k:Int))) (fun k M=>nT M/\(∀ s,s∈M<->s∈xs.take k/\s≠bC)/\M.length<=k)
  (fun r=>∃ M,r=bC::M/\nT M/\(∀ s,s∈M<->s∈xs/\s≠bC)/\M.length<=xs.length) (fun k M hk hI=>?_) (fun M hI=>?_) xs.length 0 [] (by omega) ⟨⟨by simp,by simp⟩,by simp,by simp⟩
 ·obtain ⟨r,h1,M,rfl,h2⟩:=key
  refine ⟨M,?_,h2⟩
  unfold aBa
  rw [show loop (fun s:List aL × Int=>jN xs s.1 s.2) ([[116,97,117]],0)=some (bC::M) from h1];rfl
 ·obtain ⟨i1,i2,i3⟩:=hI
  obtain ⟨M',g1,g2,g3,g4⟩:=join_step xs M i1 (by omega) hx hk
  refine ⟨M',g1,g2,fun s=>?_,by omega⟩
  rw [g3 s,i2 s,List.take_add_one,List.getElem?_eq_getElem hk,List.mem_append]
  simp only [Option.toList_some,List.mem_singleton]
  constructor
  ·rintro (⟨a,b⟩|⟨a,b⟩)
   ·exact ⟨.inl a,b⟩
   ·exact ⟨.inr a,b⟩
  ·rintro ⟨a|a,b⟩
   ·exact .inl ⟨a,b⟩
   ·exact .inr ⟨a,b⟩
 ·obtain ⟨i1,i2,i3⟩:=hI
  rw [List.take_length] at i2
  exact ⟨_,by simp only [jN,bI];rfl,M,rfl,i1,i2,i3⟩
theorem aSt {M M':List aL} (h:nT M) (h':nT M') (hm:∀ s,s∈M<->s∈M'):M=M':=
 aAT (R:=fun a b=>ltB a b=true) (fun a h=>by rw [rU] at h;cases h) aBo h.1 h'.1 hm
theorem aQR {A B:List Edge} (h:SE A) (h':SE B) (hm:∀ x,x∈A<->x∈B):A=B:=
 aAT (R:=fun a b=>bK a b=true) (fun a h=>by rw [aAU] at h;cases h) (fun h1 h2=>xG h1 h2) h h' hm
theorem make_gen {texts M:List aL} {edges Eo:List Edge} (ht:texts.length < 1000000) (hM:nT M) (hm:∀ s,s∈M<->s∈texts/\s≠bC) (hlen:edges.length < 1000000) (hin:∀ e∈edges,0<=e.B/\e.B < texts.length)
  (hEE:SE Eo) (he:∀ x,x∈Eo<->∃ e∈edges,x=⟨e.F,pos (bC::M) (texts.getD e.B.toNat []),e.To⟩) (st ini:Int):sK st ini texts edges=some ⟨st,ini,bC::M,Eo⟩:=by
 obtain ⟨M',j1,j2,j3,j4⟩:=aLp texts ht
 obtain rfl:M'=M:=aSt j2 hM fun s=>(j3 s).trans (hm s).symm
 unfold sK
 rw [j1,aA]
 have key:=cJ (step:=fun s:List Edge × Int=>nA texts edges (bC::M') s.1 s.2) edges.length (fun k (a:List Edge)=>(a,(k:Int))) (fun k a=>SE a/\(∀ x,x∈a<->∃ e∈edges.take k,x=⟨e.F,pos (bC::M') (texts.getD e.B.toNat []),e.To⟩)/\a.length<=k)
  (fun x=>x=Eo) (fun k a hk hI=>?_) (fun a hI=>?_) edges.length 0 [] (by omega) ⟨List.Pairwise.nil,by simp,by simp⟩
 ·obtain ⟨x,hx,hx2⟩:=key
  have hx':loop (fun s:List Edge × Int=>nA texts edges (bC::M') s.1 s.2) (([]:List Edge),0)=some x:=hx
  rw [hx',aA,hx2];rfl
 ·obtain ⟨hs,hmem,hl⟩:=hI
  have hi:=hin _ (List.getElem_mem hk)
  have hlt:edges[k].B.toNat < texts.length:=by omega
  have hgd:texts.getD edges[k].B.toNat []=texts[edges[k].B.toNat]:=by rw [List.getD_eq_getElem?_getD,List.getElem?_eq_getElem hlt];rfl
  simp only [nA,bD hk,if_pos,bE hk,aA]
  rw [aIb hi.1 hlt,aA,aFq _ _ (by simp;omega),aA,←hgd]
  obtain ⟨l',h1,h2,h3,h4⟩:=aPH a ⟨edges[k].F,pos (bC::M') (texts.getD edges[k].B.toNat []),edges[k].To⟩ (by omega) hs
  rw [h1,aA]
  refine ⟨l',by rw [aW hk (show edges.length < 4611686018427387904 by omega)],h2,fun x=>?_,by omega⟩
  rw [h3,hmem,List.take_add_one,List.getElem?_eq_getElem hk]
  simp only [Option.toList_some,List.mem_append,List.mem_singleton]
  constructor
  ·rintro (g|⟨e,g1,g2⟩)
   ·exact ⟨_,.inr rfl,g⟩
   ·exact ⟨e,.inl g1,g2⟩
  ·rintro ⟨e,g1|rfl,g2⟩
   ·exact .inr ⟨e,g1,g2⟩
   ·exact .inl g2
 ·obtain ⟨hs,hmem,hl⟩:=hI
  rw [List.take_length] at hmem
  exact ⟨a,by simp only [nA,bI];rfl,aQR hs hEE fun x=>(hmem x).trans (he x).symm⟩
theorem lts_gen {st ini:Int} {labels M:List aL} {arcs:List nX} {Eo:List Edge} (hM:nT M) (hm:∀ s,s∈M<->s∈labels/\s≠bC) (h1:labels.length < 1000000) (h2:arcs.length < 1000000)
  (hn:(arcs.map fun a=>(⟨a.from_,pos (bC::M) a.label,a.to_⟩:Edge)).Nodup) (hEE:SE Eo) (he:∀ x,x∈Eo<->x∈arcs.map fun a=>(⟨a.from_,pos (bC::M) a.label,a.to_⟩:Edge)) (h3:M.length < 1000000):
  aDq st ini labels arcs=some ⟨st,ini,bC::M,Eo⟩:=by
 unfold aDq
 rw [show ([116,97,117]:aL)=bC from rfl,bS (by simp [iO];omega),aA]
 have e1:xN ([bC]++labels)=some (tI kB ([bC]++labels)):=by unfold xN;rw [if_pos (by simp [iO];omega)]
 rw [e1,aA,aIT _ (by unfold tI;rw [List.length_mergeSort];simp;omega),aA]
 rw [aPE kB aCG aFp aHb hM.lab (fun x=>?_)]
 ·rw [aGY (step:=fun s:List Edge × Int=>aDp arcs (bC::M) s.1 s.2) arcs (fun a=>(⟨a.from_,pos (bC::M) a.label,a.to_⟩:Edge)) id (fun k out x hk ho hx=>?_) (fun out=>by simp only [aDp,bI];rfl),aA]
  ·unfold aIy
   have hst:=aKw bK aAU xG aFW hn
   have e2:aAE (id (arcs.map fun a=>(⟨a.from_,pos (bC::M) a.label,a.to_⟩:Edge)))=some Eo:=by
    unfold aAE;rw [if_pos (by simp [iO];omega),id,aQR hst hEE fun x=>by unfold tI;rw [List.mem_mergeSort];exact (he x).symm]
   have hEl:Eo.length=arcs.length:=by
    rw [←aQR hst hEE fun x=>by unfold tI;rw [List.mem_mergeSort];exact (he x).symm]
    unfold tI;rw [List.length_mergeSort,List.length_map]
   rw [e2,aA,aLk _ (by omega) hEE,aA]
  ·simp only [aDp,bD hk,if_pos,hx,aA,aMb _ _ (show (bC::M).length < 4611686018427387904 by simp;omega),aW hk (show arcs.length < 4611686018427387904 by omega)]
   rw [bS (by simp [iO];omega),aA]
 ·by_cases e:x=bC
  ·subst e;simp
  ·simp [e,hm x]
end Gv
namespace Gv
open Go
structure Jn (a b:aO) (M:List aL):Prop where
 str:nT M
 mem:∀ s,s∈M<->s∈a.L++b.L/\s≠bC
 len:M.length<=24
def inQ (a b:aO) (q:Int × Int):Prop:=(0<=q.1/\q.1 < a.N)/\0<=q.2/\q.2 < b.N
section
variable {a b:aO} {M:List aL}
def atQ (F:List (Int × Int)) (i:Int):Int × Int:=F.getD i.toNat (0,0)
theorem atQ_mem {F:List (Int × Int)} {i:Int} (h0:0<=i) (h:i < F.length):atQ F i∈F:=by
 unfold atQ;rw [List.getD_eq_getElem?_getD,List.getElem?_eq_getElem (by omega)];exact List.getElem_mem _
theorem atQ_inj {F:List (Int × Int)} (hn:F.Nodup) {i j:Int} (hi:0<=i/\i < F.length) (hj:0<=j/\j < F.length) (h:atQ F i=atQ F j):i=j:=by
 unfold atQ at h
 rw [List.getD_eq_getElem?_getD,List.getElem?_eq_getElem (by omega),List.getD_eq_getElem?_getD,List.getElem?_eq_getElem (by omega)] at h
 simp only [Option.getD_some] at h
 have:=(List.getElem_inj hn).1 h
 omega
def Bnd (s:List (Int × Int) × List Edge):Prop:=∀ e∈s.2,(0<=e.F/\e.F < s.1.length)/\0<=e.To/\e.To < s.1.length
theorem Bnd.add {s:List (Int × Int) × List Edge} (h:Bnd s) {i:Nat} (hi:i < s.1.length) (x:Int × (Int × Int)):Bnd (aCl id (i:Int) s x):=by
 intro e he
 have hl:=(aIV (key:=id) s.1 x.2).length_le
 have ha:=atK_in (key:=id) s.1 x.2
 simp only [aCl] at he ⊢
 rcases List.mem_append.1 he with he|he
 ·have:=h e he;omega
 ·simp at he;subst he
  simp only;omega
def imE (g:Int × Int->Int) (F:List (Int × Int)) (E:List Edge):List Edge:=E.map fun e=>⟨g (atQ F e.F),e.B,g (atQ F e.To)⟩
theorem imE_nodup {g:Int × Int->Int} {F:List (Int × Int)} {E:List Edge} (hb:Bnd (F,E)) (hn:F.Nodup) (hg:∀ p∈F,∀ q∈F,g p=g q->p=q) (hE:E.Pairwise aEp):(imE g F E).Nodup:=by
 unfold imE List.Nodup
 rw [List.pairwise_map]
 refine hE.imp_of_mem ?_
 intro e f he hf h heq
 simp only [Edge.mk.injEq] at heq
 have h1:=hb e he
 have h2:=hb f hf
 simp only at h1 h2
 have:=atQ_inj hn h1.1 h2.1 (hg _ (atQ_mem h1.1.1 h1.1.2) _ (atQ_mem h2.1.1 h2.1.2) heq.1)
 unfold aEp at h
 omega
theorem aPN (p q:Int × Int):prLt p q=true<->p.1 < q.1\/(p.1=q.1/\p.2 < q.2):=by
 simp [prLt]
end
end Gv
namespace Gv
open Go
structure Shd (M sh:List aL):Prop where
 len:sh.length<=1000
 mem:∀ s∈M,(pY 40 s).1∈sh
def nm (b:aO) (q:Int × Int):Int:=q.1 * b.N+q.2
section
variable {a b:aO} {M sh:List aL}
theorem nm_lt (hb:aN b) {p q:Int × Int} (hp:0<=p.2/\p.2 < b.N) (hq:0<=q.2/\q.2 < b.N):prLt p q=true<->nm b p < nm b q:=by
 have h2:=hb.1
 rw [aPN]
 unfold nm
 constructor
 ·rintro (h|⟨h,h'⟩)
  ·have:(p.1+1) * b.N<=q.1 * b.N:=Int.mul_le_mul_of_nonneg_right (by omega) (by omega)
   rw [Int.add_mul,Int.one_mul] at this
   omega
  ·rw [h];omega
 ·intro h
  rcases Int.lt_trichotomy p.1 q.1 with g|g|g
  ·exact .inl g
  ·right;rw [g] at h;omega
  ·exfalso
   have:(q.1+1) * b.N<=p.1 * b.N:=Int.mul_le_mul_of_nonneg_right (by omega) (by omega)
   rw [Int.add_mul,Int.one_mul] at this
   omega
theorem nm_inj (hb:aN b) {p q:Int × Int} (hp:0<=p.2/\p.2 < b.N) (hq:0<=q.2/\q.2 < b.N) (h:nm b p=nm b q):p=q:=by
 have h1:=nm_lt hb hp hq
 have h2:=nm_lt hb hq hp
 rw [aPN] at h1 h2
 obtain ⟨p1,p2⟩:=p
 obtain ⟨q1,q2⟩:=q
 simp only [Prod.mk.injEq] at *
 omega
end
end Gv
namespace Gv
open Go
section
variable {a b:aO} {M sh:List aL}
structure Rf (b:aO) (s:List (Int × Int) × List Edge) (ed:List Edge):Prop where
 se:SE ed
 mem:∀ x,x∈ed<->x∈imE (nm b) s.1 s.2
theorem aOo {l:List Edge} (h:SE l):l.Nodup:=h.imp fun {x y} h e=>by subst e;rw [aAU] at h;cases h
theorem Rf.len (hb:aN b) {s:List (Int × Int) × List Edge} {ed:List Edge} (h:Rf b s ed) (hB:Bnd s) (hn:s.1.Nodup) (hq:∀ q∈s.1,inQ a b q) (hE:s.2.Pairwise aEp):ed.length=s.2.length:=by
 have h1:=imE_nodup (g:=nm b) hB hn (fun p hp q hq'=>nm_inj hb (hq p hp).2 (hq q hq').2) hE
 have:=((List.perm_ext_iff_of_nodup (aOo h.se) h1).2 h.mem).length_eq
 rw [this];unfold imE;simp
end
end Gv
namespace Gv
open Go
section
variable {a b:aO} {M sh:List aL}
end
end Gv
namespace Gv
open Go
theorem aOp (x y:List aL) (h:x.length+y.length<=1000000):bB [x,y]=some (x++y):=by
 unfold bB
 have h1:loop (fun s:Int × Int=>aZ [x,y] s.1 s.2) (0,0)=some (((x.length+y.length:Nat):Int)):=by
  have a1:wr (0+(x.length:Int))=(x.length:Int):=by rw [fS (by omega) (by omega)];omega
  have a2:wr ((x.length:Int)+(y.length:Int))=((x.length+y.length:Nat):Int):=by rw [fS (by omega) (by omega)];omega
  have s0:aZ [x,y] 0 0=some (.inl ((x.length:Int),1)):=by
   unfold aZ eH
   rw [if_pos (by simp),show ix [x,y] 0=some x from rfl,aA,a1,if_neg (by simp)];rfl
  have s1:aZ [x,y] (x.length:Int) 1=some (.inl (((x.length+y.length:Nat):Int),2)):=by
   unfold aZ eH
   rw [if_pos (by simp),show ix [x,y] 1=some y from rfl,aA,a2,if_neg (by simp;omega)];rfl
  have s2:aZ [x,y] ((x.length+y.length:Nat):Int) 2=some (.inr (((x.length+y.length:Nat):Int))):=by
   unfold aZ
   rw [if_neg (by simp)]
  rw [aFt (step:=fun s:Int × Int=>aZ [x,y] s.1 s.2) (s:=(0,0)) s0,aFt (step:=fun s:Int × Int=>aZ [x,y] s.1 s.2) (s:=((x.length:Int),1)) s1,aDF (step:=fun s:Int × Int=>aZ [x,y] s.1 s.2) (s:=(((x.length+y.length:Nat):Int),2)) s2]
 rw [h1,aA]
 unfold fR aJg
 rw [if_pos ⟨rfl,by omega,by unfold iO;omega⟩,aA]
 have s0:bF [x,y] [] 0=some (.inl (x,1)):=by
  unfold bF
  rw [if_pos (by simp),show ix [x,y] 0=some x from rfl,aA,bS (by simp [iO];omega),aA];rfl
 have s1:bF [x,y] x 1=some (.inl (x++y,2)):=by
  unfold bF
  rw [if_pos (by simp),show ix [x,y] 1=some y from rfl,aA,bS (by unfold iO;omega),aA];rfl
 have s2:bF [x,y] (x++y) 2=some (.inr (x++y)):=by
  unfold bF
  rw [if_neg (by simp)]
 rw [aFt (step:=fun s:List aL × Int=>bF [x,y] s.1 s.2) (s:=([],0)) s0,aFt (step:=fun s:List aL × Int=>bF [x,y] s.1 s.2) (s:=(x,1)) s1,aDF (step:=fun s:List aL × Int=>bF [x,y] s.1 s.2) (s:=(x++y,2)) s2,aA]
 rfl
def zm (F:List (Int × Int)):List ((Int × Int) × Int):=F.map fun q=>(q,0)
section
variable {a b:aO} {M:List aL}
end
end Gv
namespace Gv
open Go
section
variable {a b:aO} {M:List aL}
theorem jn_of {a b:aO} (ha:aN a) (hb:aN b):∃ M,aBa (a.L++b.L)=some (bC::M)/\Jn a b M/\Jn b a M:=by
 have h1:=ha.2.2.1.2.1
 have h2:=hb.2.2.1.2.1
 obtain ⟨M,j1,j2,j3,j4⟩:=aLp (a.L++b.L) (by simp;omega)
 rw [List.length_append] at j4
 exact ⟨M,j1,⟨j2,j3,by omega⟩,⟨j2,fun s=>(j3 s).trans (by simp only [List.mem_append];exact ⟨fun h=>⟨h.1.symm,h.2⟩,fun h=>⟨h.1.symm,h.2⟩⟩),by omega⟩⟩
end
end Gv
