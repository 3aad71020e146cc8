/- Sets of states, as lists; sets closed under inner steps: the reference's and the program's. -/
import Derived.Test.YtingjpdikgpflaaGreatDoorJP20
set_option linter.all false
namespace Gv
open Go
theorem aMc (s:List Int) (h:s.length < 1000000000):iQ s=some (aHy s):=by
 unfold iQ
 by_cases h2:s.length < 2
 ·rw [if_pos (by simp;omega)]
  rcases s with _|⟨a,_|⟨b,l⟩⟩
  ·rfl
  ·rfl
  ·simp at h2;omega
 rw [if_neg (by simp;omega)]
 have:=aLz (step:=fun k=>kK s k) s.length (fun k (_:Unit)=>(k:Int)) (fun k _=>1<=k/\aHy (s.take k)=s.take k) (fun r=>r=.inr (aHy s)\/(r=.inl ()/\aHy s=s)) (fun k a hk hI=>?_) (fun a hI=>?_) (s.length - 1) 1 () (by omega) ⟨Nat.le_refl _,?_⟩
 ·obtain ⟨r,hr,hR⟩:=this
  rw [show (1:Int)=((1:Nat):Int) from rfl,hr,lJ]
  rcases hR with rfl|⟨rfl,h⟩
  ·rfl
  ·rw [h];rfl
 ·obtain ⟨i1,i2⟩:=hI
  have hk1:wr ((k:Int) - 1)=((k - 1:Nat):Int):=by rw [aHw (by omega) (by omega)];omega
  have hdt:=aKk (s:=s) (m:=k) i1 hk
  simp only [kK,aBK hk,if_pos,aAM hk,lJ,hk1,aAM (xs:=s) (k:=k - 1) (by omega),gV,aAg hk (show s.length < 4611686018427387904 by omega)]
  by_cases e:s[k]=s[k - 1]'(by omega)
  ·right
   rw [if_pos e.symm,i2] at hdt
   rw [if_pos (by simpa using e),aKl (by omega),lJ]
   obtain ⟨s',w,hl,g1,g2,g3⟩:=aLk (step:=fun x:List Int × Int × Int=>kJ (k:Int) (s.drop k) x.1 x.2.1 x.2.2) s k i1 hk hdt (fun j w s' x y j1 j2 j3 j4 hx hy=>by
    have hl:(s.drop k).length=s.length - k:=by simp
    have a1:(k:Int)+(j:Int)=((k+j:Nat):Int):=by omega
    have a2:wr ((j:Int) - 1)=((j - 1:Nat):Int):=by rw [aHw (by omega) (by omega)];omega
    have a3:(k:Int)+((j - 1:Nat):Int)=((k+j - 1:Nat):Int):=by omega
    simp only [kJ,hl,aBK (show j < s.length - k by omega),if_pos,aAM (xs:=s.drop k) (k:=j) (by omega),lJ,a1,aKt,hx,a2,List.getElem?_eq_getElem (show j - 1 < (s.drop k).length by omega),a3,hy,fF,aAg (show j < s.length - k by omega) (by omega),List.getElem?_eq_getElem (show w < s'.length by omega),aJZ (xs:=s') (k:=w) _ (by omega),aAg j4 (show s.length < 4611686018427387904 by omega)]
    by_cases e:x=y<;>simp [e]) (fun s' w=>by
     have hl:(s.drop k).length=s.length - k:=by simp
     simp only [kJ,hl,aGf];rfl)
   rw [hl,lJ]
   unfold fE
   simp only
   rw [aKl (by omega),lJ,aLn _ (by omega),lJ,slc_to (by simp;omega),lJ]
   refine ⟨_,rfl,.inl ?_⟩
   rw [List.take_append_of_le_length (by simp;omega),List.take_take,Nat.min_self,g3]
  ·left
   rw [if_neg (by simpa using e)]
   refine ⟨(),rfl,by omega,?_⟩
   rw [hdt,if_neg (fun h=>e h.symm),i2,List.take_add_one]
   simp [hk]
 ·refine ⟨_,by simp only [kK,aGf];rfl,.inr ⟨rfl,?_⟩⟩
  have:=hI.2
  rwa [List.take_of_length_le (by omega)] at this
 ·rcases s with _|⟨a,l⟩
  ·rfl
  ·rfl
structure aJE (xs:List Int) (X:Int->Prop):Prop where
 ord:xs.Pairwise (· < ·)
 mem:∀ q,q∈xs<->X q
theorem aJE.eq {xs ys:List Int} {X:Int->Prop} (a:aJE xs X) (b:aJE ys X):xs=ys:=
 aHl (R:=fun a b:Int=>a < b) (fun a=>Int.lt_irrefl a) (fun h1 h2=>Int.lt_trans h1 h2) a.ord b.ord fun q=>(a.mem q).trans (b.mem q).symm
theorem aJE.iff {xs:List Int} {X Y:Int->Prop} (a:aJE xs X) (h:∀ q,X q<->Y q):aJE xs Y:=⟨a.ord,fun q=>(a.mem q).trans (h q)⟩
theorem aJE.len {xs:List Int} {X:Int->Prop} (a:aJE xs X) {n:Nat} (h:∀ q,X q->0<=q/\q < n):xs.length<=n:=by
 have hn:xs.Nodup:=a.ord.imp fun h=>by omega
 have:=List.Nodup.length_le_of_subset (l₂:=(List.range n).map Int.ofNat) hn (fun x hx=>by
  have:=h x ((a.mem x).1 hx)
  rw [List.mem_map]
  exact ⟨x.toNat,by rw [List.mem_range];omega,by show ((x.toNat:Nat):Int)=x;omega⟩)
 simpa using this
theorem aOM {n:Nat} (f:Nat->Bool) {X:Int->Prop} (h:∀ i:Nat,i < n->(f i=true<->X (i:Int))) (h':∀ q,X q->0<=q/\q < n):aJE (((List.range n).filter f).map Int.ofNat) X:=by
 refine ⟨?_,fun q=>?_⟩
 ·rw [List.pairwise_map]
  refine (List.Pairwise.filter _ List.pairwise_lt_range).imp fun {a b} hab=>?_
  show ((a:Nat):Int) < (b:Nat);omega
 ·rw [List.mem_map]
  constructor
  ·rintro ⟨i,hi,rfl⟩
   rw [List.mem_filter,List.mem_range] at hi
   exact (h i hi.1).1 hi.2
  ·intro hq
   have:=h' q hq
   refine ⟨q.toNat,?_,by show ((q.toNat:Nat):Int)=q;omega⟩
   rw [List.mem_filter,List.mem_range]
   refine ⟨by omega,(h _ (by omega)).2 ?_⟩
   rw [show ((q.toNat:Nat):Int)=q by omega];exact hq
def iLt (a b:Int):Bool:=decide (a < b)
theorem aND {xs:List Int}:aJE (aHy (srt iLt xs)) (fun q=>q∈xs):=by
 have h1:(srt iLt xs).Pairwise fun a b=>a<=b:=by
  have:=List.pairwise_mergeSort (le:=fun a b=>!iLt b a) (fun a b c h1 h2=>by unfold iLt at *;simp at *;omega) (fun a b=>by unfold iLt;simp;omega) xs
  refine this.imp fun {a b} h=>?_
  unfold iLt at h;simpa using h
 refine ⟨aKj (R:=fun a b:Int=>a<=b) (S:=fun a b:Int=>a < b) (fun h hne=>by omega) (fun h h'=>by omega) h1,fun q=>?_⟩
 rw [aJK];unfold srt;rw [List.mem_mergeSort]
theorem aPV {xs:List Int} (hn:xs.Nodup):aJE (srt iLt xs) (fun q=>q∈xs):=by
 refine ⟨(aMG iLt (fun a=>by simp [iLt]) (fun {a b c} h1 h2=>by unfold iLt at *;simp at *;omega) (fun a b=>by unfold iLt;simp;omega) hn).imp fun h=>by unfold iLt at h;simpa using h,fun q=>?_⟩
 unfold srt;rw [List.mem_mergeSort]
theorem aKM {xs:List Int} (h:xs.length < 1000000000):aCQ xs=some (srt iLt xs):=by
 unfold aCQ;rw [if_pos (by unfold lim;omega)];rfl
inductive Cl (t:cI) (X:Int->Prop):Int->Prop
 |base {q:Int}:X q->Cl t X q
 |step {e:Edge}:e∈t.E->e.B=0->Cl t X e.F->Cl t X e.To
section
variable {t:cI} {X:Int->Prop}
theorem aIo (hv:nB t) {e:Edge} (he:e∈t.E):(0<=e.F/\e.F < t.N)/\(0<=e.To/\e.To < t.N)/\0<=e.B/\e.B < t.L.length:=by
 have h:=aIk hv he
 unfold aIj at h
 omega
theorem Cl.inn (hv:nB t) (h0:∀ q,X q->0<=q/\q < t.N) {q:Int} (h:Cl t X q):0<=q/\q < t.N:=by
 induction h with
 |base h=>exact h0 _ h
 |step he _ _ _=>have:=(aIo hv he).2.1;omega
theorem Cl.congr {Y:Int->Prop} (h:∀ q,X q->Y q) {q:Int} (hc:Cl t X q):Cl t Y q:=by
 induction hc with
 |base hx=>exact .base (h _ hx)
 |step a b _ ih=>exact .step a b ih
theorem Cl.iff {Y:Int->Prop} (h:∀ q,X q<->Y q) (q:Int):Cl t X q<->Cl t Y q:=⟨Cl.congr fun q=>(h q).1,Cl.congr fun q=>(h q).2⟩
theorem close_eq (hv:nB t) {m:List Bool} (hm:m.length=t.N.toNat) (hX:∀ i:Nat,on m i<->X (i:Int)):
  ∃ m',aAX t m=some m'/\m'.length=t.N.toNat/\∀ i:Nat,on m' i<->Cl t X (i:Int):=by
 have h300:=hv.2.2.2.1
 have hE:=fun k (hk:k < t.E.length)=>aIo hv (List.getElem_mem hk)
 have hsat:=aNz (ed:=t.E) (n:=t.N.toNat) (fun e=>e.B == 0) (fun e=>e.F.toNat) (fun e=>e.To.toNat)
  (inner:=fun s=>aDw t s.1 s.2.1 s.2.2) (outer:=fun s=>aDx t s.1 s.2) (fun k hk m ag hml=>?_) (fun m ag=>by simp only [aDw,aGf];rfl) (fun m _=>?_) (fun m=>by simp [aDx])
  (fun e he=>by have:=(aIo hv he).2.1;omega) (fun i=>Cl t X (i:Int)) hm (fun i hi=>.base ((hX i).1 hi)) (fun e he hc hp=>?_)
 ·obtain ⟨m',h1,h2,h3⟩:=hsat
  refine ⟨m',?_,h2.len,fun i=>⟨h2.ok i,fun hc=>?_⟩⟩
  ·unfold aAX
   rw [show loop (fun s:List Bool × Bool=>aDx t s.1 s.2) (m,true)=some m' from h1];rfl
  ·generalize hj:(i:Int)=j at hc
   induction hc generalizing i with
   |base hx=>subst hj;exact h2.has _ ((hX i).2 hx)
   |@step e he hl hc ih=>
    have hin:=aIo hv he
    have h5:=h3 e he (by simpa using hl) (ih e.F.toNat (by omega))
    rwa [show i=e.To.toNat by omega]
 ·have hin:=hE k hk
  have i1:=aLx (m:=m) (q:=t.E[k].F) hin.1.1 (by omega)
  have i2:=aLx (m:=m) (q:=t.E[k].To) hin.2.1.1 (by omega)
  have hs:st m t.E[k].To true=some (m.set t.E[k].To.toNat true):=by
   have:=aJZ (xs:=m) (k:=t.E[k].To.toNat) true (by omega)
   rwa [show ((t.E[k].To.toNat:Nat):Int)=t.E[k].To by omega] at this
  simp only [aDw,aBK hk,if_pos,aAM hk,lJ,oX,uF,aAg hk (show t.E.length < 4611686018427387904 by omega),i1,i2,hs]
  cases t.E[k].B == 0<;>cases m.getD t.E[k].F.toNat false<;>cases m.getD t.E[k].To.toNat false<;>rfl
 ·simp only [aDx,if_pos,uE,aAp]
 ·have hin:=aIo hv he
  have hl:e.B=0:=by simpa using hc
  rw [show ((e.To.toNat:Nat):Int)=e.To by omega]
  rw [show ((e.F.toNat:Nat):Int)=e.F by omega] at hp
  exact .step he hl hp
theorem list_eq {m:List Bool} (hm:m.length < 1000000):aCW m=some (((List.range m.length).filter fun i=>m.getD i false).map Int.ofNat):=by
 unfold aCW
 rw [aNC (step:=fun s:List Int × Int=>aER m s.1 s.2) hm (fun i=>m.getD i false) (fun k out hk ho=>?_) (fun out=>by simp only [aER,aGf];rfl),lJ]
 ·rfl
 ·have i1:=aLx (m:=m) (q:=(k:Int)) (by omega) (by omega)
  rw [Int.toNat_natCast] at i1
  simp only [aER,aBK hk,if_pos,i1,lJ,wR,aAg hk (show m.length < 4611686018427387904 by omega)]
  rw [aGO (by simp [lim];omega),lJ]
  cases m.getD k false<;>rfl
theorem aMK (hv:nB t) (h0:∀ q,X q->0<=q/\q < t.N) {m:List Bool} (hm:m.length=t.N.toNat) (hX:∀ i:Nat,on m i<->X (i:Int)):
  ∃ m' R,aAX t m=some m'/\aCW m'=some R/\aJE R (Cl t X):=by
 have h40:=hv.1
 obtain ⟨m',h1,h2,h3⟩:=close_eq hv hm hX
 refine ⟨m',_,h1,list_eq (by omega),aOM _ (fun i _=>by rw [aOf];exact h3 i) fun q hq=>?_⟩
 have:=hq.inn hv h0
 omega
theorem first_eq (hv:nB t):∃ R,aAY t=some R/\aJE R (Cl t fun q=>q=t.I):=by
 have h40:=hv.1
 have hin:=hv.2.1
 have hmk:aEa t [t.I]=some ((List.replicate t.N.toNat false).set t.I.toNat true):=by
  unfold aEa
  have:=aNV (n:=t.N.toNat) false (by unfold lim;omega)
  rw [show ((t.N.toNat:Nat):Int)=t.N by omega] at this
  rw [this,lJ,eZ]
  have i0:ix [t.I] 0=some t.I:=rfl
  have i1:=aLx (m:=List.replicate t.N.toNat false) (q:=t.I) hin.1 (by simp;omega)
  have i2:st (List.replicate t.N.toNat false) t.I true=some ((List.replicate t.N.toNat false).set t.I.toNat true):=by
   have:=aJZ (xs:=List.replicate t.N.toNat false) (k:=t.I.toNat) true (by simp;omega)
   rwa [show ((t.I.toNat:Nat):Int)=t.I by omega] at this
  simp only [aDv,List.length_singleton,i0,lJ,i1,i2]
  rw [if_pos (by simp)]
  simp only
  rw [eZ]
  simp only [aDv,List.length_singleton]
  rw [if_neg (by simp [wr])]
  rfl
 obtain ⟨m',R,h1,h2,h3⟩:=aMK (X:=fun q=>q=t.I) hv (fun q hq=>by omega) (m:=(List.replicate t.N.toNat false).set t.I.toNat true) (by simp) (fun i=>by
  rw [aMI (by simp;omega),on_rep]
  split
  ·rename_i h;simp;omega
  ·rename_i h;simp;omega)
 refine ⟨R,?_,h3⟩
 unfold aAY
 rw [hmk,lJ,h1,lJ,h2];rfl
def Aft (t:cI) (S:List Int) (k:Int) (q:Int):Prop:=∃ e∈t.E,e.B=k/\e.F∈S/\e.To=q
theorem Aft.inn (hv:nB t) {S:List Int} {k q:Int} (h:Aft t S k q):0<=q/\q < t.N:=by
 obtain ⟨e,he,_,_,rfl⟩:=h
 have:=(aIo hv he).2.1;omega
theorem aON (hv:nB t) {S:List Int} (hS:S.length < 1000000000) (k:Int):∃ R,aFy t S k=some R/\aJE R (Cl t (Aft t S k)):=by
 have h40:=hv.1
 have h300:=hv.2.2.2.1
 have hloop:=aJl (step:=fun s:List Bool × Int=>aES t S k s.1 s.2) t.E (fun j m=>(m,(j:Int)))
  (fun l m=>l.foldl (fun m e=>if (e.B == k&&S.any fun x=>e.F == x)=true then m.set e.To.toNat true else m) m) (fun _ m=>m.length=t.N.toNat) (fun j m e l hj he hI=>?_) (fun m _=>by simp only [aES,aGf];rfl) (a:=List.replicate t.N.toNat false) (by simp)
 ·have hf:∀ (l:List Edge) (m:List Bool),m.length=t.N.toNat->(∀ e∈l,e∈t.E)->(l.foldl (fun m e=>if (e.B == k&&S.any fun x=>e.F == x)=true then m.set e.To.toNat true else m) m).length=t.N.toNat/\
    ∀ i:Nat,on (l.foldl (fun m e=>if (e.B == k&&S.any fun x=>e.F == x)=true then m.set e.To.toNat true else m) m) i<->on m i\/∃ e∈l,e.B=k/\e.F∈S/\e.To=(i:Int):=by
   intro l
   induction l with
   |nil=>intro m hm _;exact ⟨hm,fun i=>by simp⟩
   |cons e l ih=>
    intro m hm hl
    have hin:=aIo hv (hl e (by simp))
    have hc:((e.B == k&&S.any fun x=>e.F == x)=true)<->(e.B=k/\e.F∈S):=by
     rw [Bool.and_eq_true,beq_iff_eq,List.any_eq_true]
     constructor
     ·rintro ⟨a,x,hx,hb⟩
      rw [beq_iff_eq] at hb
      exact ⟨a,hb ▸ hx⟩
     ·rintro ⟨a,b⟩
      exact ⟨a,_,b,by simp⟩
    rw [List.foldl_cons]
    obtain ⟨g1,g2⟩:=ih (if (e.B == k&&S.any fun x=>e.F == x)=true then m.set e.To.toNat true else m) (by split<;>simp [hm]) (fun x hx=>hl x (by simp [hx]))
    refine ⟨g1,fun i=>?_⟩
    rw [g2 i]
    simp only [List.mem_cons,exists_eq_or_imp]
    by_cases h:(e.B == k&&S.any fun x=>e.F == x)=true
    ·rw [if_pos h,aMI (by omega)]
     have h':=hc.1 h
     by_cases hi:i=e.To.toNat
     ·simp only [hi,if_pos,true_or,true_iff]
      exact .inr (.inl ⟨h'.1,h'.2,by omega⟩)
     ·rw [if_neg hi]
      constructor
      ·rintro (a|b)
       ·exact .inl a
       ·exact .inr (.inr b)
      ·rintro (a|⟨_,_,b⟩|b)
       ·exact .inl a
       ·omega
       ·exact .inr b
    ·rw [if_neg h]
     rw [hc] at h
     constructor
     ·rintro (a|b)
      ·exact .inl a
      ·exact .inr (.inr b)
     ·rintro (a|⟨b,c,_⟩|b)
      ·exact .inl a
      ·exact absurd ⟨b,c⟩ h
      ·exact .inr b
  obtain ⟨g1,g2⟩:=hf t.E (List.replicate t.N.toNat false) (by simp) (fun _ he=>he)
  obtain ⟨m',R,h1,h2,h3⟩:=aMK (X:=Aft t S k) hv (fun q hq=>hq.inn hv) g1 (fun i=>by rw [g2 i,on_rep];simp [Aft])
  refine ⟨R,?_,h3⟩
  unfold aFy
  have:=aNV (n:=t.N.toNat) false (by unfold lim;omega)
  rw [show ((t.N.toNat:Nat):Int)=t.N by omega] at this
  rw [this,lJ,show loop (fun s:List Bool × Int=>aES t S k s.1 s.2) (List.replicate t.N.toNat false,0)=_ from hloop,lJ]
  unfold wS
  rw [h1,lJ,h2];rfl
 ·left
  obtain ⟨hj',rfl⟩:=aJi he
  have hin:=aIo hv (List.getElem_mem hj')
  have hI':m.length=t.N.toNat:=hI
  have i2:=aLx (m:=m) (q:=t.E[j].To) hin.2.1.1 (by omega)
  have hs:st m t.E[j].To true=some (m.set t.E[j].To.toNat true):=by
   have:=aJZ (xs:=m) (k:=t.E[j].To.toNat) true (by omega)
   rwa [show ((t.E[j].To.toNat:Nat):Int)=t.E[j].To by omega] at this
  simp only [aES,aBK hj,if_pos,he,lJ,l00Has_eq S _ hS,wU,wT,aAg hj (show t.E.length < 4611686018427387904 by omega),i2,hs]
  rw [List.foldl_cons]
  cases t.E[j].B == k<;>cases (S.any fun x=>t.E[j].F == x)<;>first|exact ⟨m,rfl,hI',rfl⟩|exact ⟨_,rfl,by simpa using hI',rfl⟩
end
end Gv
namespace Gv
open Go
def aKR (o:List Int) (x:Int):List Int:=if x∈o then o else o++[x]
theorem aNE:∀ (l o:List Int),o.Nodup->o <+:l.foldl aKR o/\(l.foldl aKR o).Nodup/\(∀ q,q∈l.foldl aKR o<->q∈o\/q∈l)/\(l.foldl aKR o).length<=o.length+l.length
 |[],o,h=>⟨List.prefix_refl _,h,fun q=>by simp,by simp⟩
 |x::l,o,h=>by
  have h':(aKR o x).Nodup:=by
   unfold aKR
   split
   ·exact h
   ·rename_i hx
    rw [List.nodup_append]
    refine ⟨h,by simp,fun a ha b hb=>?_⟩
    simp at hb;subst hb
    exact fun e=>hx (e ▸ ha)
  obtain ⟨g1,g2,g3,g4⟩:=aNE l (aKR o x) h'
  have hp:o <+:aKR o x:=by
   unfold aKR;split
   ·exact List.prefix_refl _
   ·exact List.prefix_append _ _
  have hm:∀ q,q∈aKR o x<->q∈o\/q=x:=fun q=>by
   unfold aKR;split
   ·rename_i hx
    constructor
    ·exact .inl
    ·rintro (h|rfl)
     ·exact h
     ·exact hx
   ·simp
  refine ⟨hp.trans g1,g2,fun q=>?_,?_⟩
  ·rw [List.foldl_cons,g3 q,hm q,List.mem_cons,or_assoc]
  ·rw [List.foldl_cons]
   have:(aKR o x).length<=o.length+1:=by unfold aKR;split<;>simp
   rw [List.length_cons];omega
theorem labs_any' {xs:List Int} {s:Int}:(xs.any fun x=>s == x)=decide (s∈xs):=by
 rw [Bool.eq_iff_iff,List.any_eq_true,decide_eq_true_iff]
 constructor
 ·rintro ⟨x,hx,h⟩
  rw [beq_iff_eq] at h
  exact h ▸ hx
 ·intro h;exact ⟨s,h,by simp⟩
section
variable {t:cI}
theorem aML (hv:nB t) {S:List Int} (hS:S.length < 1000000000) {k:Nat} (hk:k < t.L.length):∃ R,rX t S t.L[k]=some R/\aJE R (Aft t S (k:Int)):=by
 have h300:=hv.2.2.2.1
 have hl:((t.E.filter fun e=>txt t e == t.L[k]&&S.any fun x=>e.F == x).map (·.To)).length<=300:=by
  rw [List.length_map];exact Nat.le_trans (List.length_filter_le _ _) h300
 refine ⟨aHy (srt iLt ((t.E.filter fun e=>txt t e == t.L[k]&&S.any fun x=>e.F == x).map (·.To))),?_,aND.iff fun q=>?_⟩
 ·unfold rX
  rw [aJU (step:=fun x:List Int × Int=>aBz t S t.L[k] x.1 x.2) t.E (fun e=>txt t e == t.L[k]&&S.any fun x=>e.F == x) (·.To) id (fun j out x hj ho hx=>?_) (fun out=>by simp only [aBz,aGf];rfl),lJ]
  ·unfold pO
   simp only [id]
   rw [aKM (by omega),lJ,aMc _ (by unfold srt;rw [List.length_mergeSort];omega),lJ]
  ·obtain ⟨hj',rfl⟩:=aJi hx
   simp only [aBz,aBK hj,if_pos,hx,lJ,aKi (aIk hv (List.getElem_mem hj')),aKd S _ (show S.length < 4611686018427387904 by omega),pQ,pP,aAg hj (show t.E.length < 4611686018427387904 by omega)]
   rw [aGO (by simp [lim];omega),lJ]
   cases txt t t.E[j] == t.L[k]<;>cases (S.any fun x=>t.E[j].F == x)<;>rfl
 ·rw [List.mem_map]
  constructor
  ·rintro ⟨e,he,rfl⟩
   rw [List.mem_filter,Bool.and_eq_true,List.any_eq_true] at he
   obtain ⟨h1,h2,x,hx,h3⟩:=he
   rw [aNx hv h1 (List.getElem_mem hk),aMH hv.2.2.1 hk,beq_iff_eq] at h2
   rw [beq_iff_eq] at h3
   exact ⟨e,h1,h2,h3 ▸ hx,rfl⟩
  ·rintro ⟨e,h1,h2,h3,rfl⟩
   refine ⟨e,?_,rfl⟩
   rw [List.mem_filter,Bool.and_eq_true,List.any_eq_true,aNx hv h1 (List.getElem_mem hk),aMH hv.2.2.1 hk,beq_iff_eq]
   exact ⟨h1,h2,_,h3,by simp⟩
theorem tau_at (hv:nB t):∃ h:0 < t.L.length,t.L[0]=nI:=⟨by have:=hv.2.2.1.1;omega,hv.2.2.1.2.2.1 _⟩
theorem aKN (hv:nB t) {xs:List Int} (hn:xs.Nodup) (h0:∀ q∈xs,0<=q/\q < t.N):∃ R,nM t xs=some R/\aJE R (Cl t (·∈xs)):=by
 have h40:=hv.1
 have hlen:∀ {o:List Int},o.Nodup->(∀ q∈o,Cl t (·∈xs) q)->o.length<=40:=fun {o} h1 h2=>by
  have:=List.Nodup.length_le_of_subset (l₂:=(List.range 40).map Int.ofNat) h1 (fun x hx=>by
   have:=(h2 x hx).inn hv h0
   rw [List.mem_map]
   exact ⟨x.toNat,by rw [List.mem_range];omega,by show ((x.toNat:Nat):Int)=x;omega⟩)
  simpa using this
 have hx0:=hlen hn fun q hq=>.base hq
 have hloop:=aJt (step:=fun s:List Int × Int=>zZ t s.1 s.2)
  (fun s=>∃ k:Nat,s.2=(k:Int)/\k<=s.1.length/\s.1.Nodup/\(∀ q∈xs,q∈s.1)/\(∀ q∈s.1,Cl t (·∈xs) q)/\∀ j,(hj:j < s.1.length)->j < k->∀ e∈t.E,e.B=0->e.F=s.1[j]->e.To∈s.1)
  (fun s=>41 - s.2.toNat) (fun r=>r.Nodup/\r.length<=40/\∀ q,q∈r<->Cl t (·∈xs) q) (fun s hI=>?_) (s:=(xs,0)) ⟨0,rfl,Nat.zero_le _,hn,fun _ h=>h,fun q hq=>.base hq,fun j _ h=>by omega⟩
 ·obtain ⟨r,h1,h2,h3,h4⟩:=hloop
  refine ⟨srt iLt r,?_,(aPV h2).iff h4⟩
  unfold nM gQ
  rw [aGO (by simp [lim];omega),lJ,List.nil_append,lJ,h1,lJ]
  unfold mW
  rw [aKM (by omega)];rfl
 ·obtain ⟨o,i⟩:=s
  obtain ⟨k,rfl,hk,hnd,hsub,hcl,hdone⟩:=hI
  simp only at hk hnd hsub hcl hdone
  have ho:=hlen hnd hcl
  by_cases hlt:k < o.length
  ·left
   obtain ⟨ht0,ht⟩:=tau_at hv
   obtain ⟨R,hf,hR⟩:=aML hv (S:=[o[k]]) (by simp) ht0
   rw [ht] at hf
   have hRl:R.length<=40:=hR.len (n:=40) fun q hq=>by have:=hq.inn hv;omega
   have hin:=aJl (step:=fun s:List Int × Int=>zY R s.1 s.2) R (fun j a=>(a,(j:Int))) (fun l a=>l.foldl aKR a) (fun j a=>a.length<=40+j) (fun j a x l hj hx hI=>?_) (fun a _=>by simp only [zY,aGf];rfl) (a:=o) ho
   ·obtain ⟨g1,g2,g3,g4⟩:=aNE R o hnd
    have hcl':∀ q∈R.foldl aKR o,Cl t (·∈xs) q:=fun q hq=>by
     rcases (g3 q).1 hq with h|h
     ·exact hcl q h
     ·obtain ⟨e,he,hl,hfr,rfl⟩:=(hR.mem q).1 h
      simp only [List.mem_singleton] at hfr
      exact .step he (by simpa using hl) (hfr ▸ hcl _ (List.getElem_mem hlt))
    refine ⟨(R.foldl aKR o,((k+1:Nat):Int)),?_,⟨k+1,rfl,Nat.le_trans hlt g1.length_le,g2,fun q hq=>(g3 q).2 (.inl (hsub q hq)),hcl',fun j hj hjk e he hl hfr=>?_⟩,by simp only;omega⟩
    ·simp only [zZ,aBK hlt,if_pos,aAM hlt,lJ]
     rw [show ([116,97,117]:aZ)=nI from rfl,hf,lJ,show loop (fun s:List Int × Int=>zY R s.1 s.2) (o,0)=_ from hin,lJ]
     simp only [mX,rY,aAg hlt (show o.length < 4611686018427387904 by omega)]
    ·simp only at hj hfr ⊢
     have hjo:j < o.length:=by omega
     have e1:(R.foldl aKR o)[j]=o[j]:=(g1.getElem hjo).symm
     rw [e1] at hfr
     rw [g3]
     by_cases hjk':j < k
     ·exact .inl (hdone j hjo hjk' e he hl hfr)
     ·obtain rfl:j=k:=by omega
      exact .inr ((hR.mem _).2 ⟨e,he,by simpa using hl,by simp [hfr],rfl⟩)
   ·left
    have hI':a.length<=40+j:=hI
    simp only [zY,aBK hj,if_pos,hx,lJ,aKd a _ (show a.length < 4611686018427387904 by omega),mY,aAg hj (show R.length < 4611686018427387904 by omega)]
    rw [labs_any',aGO (by simp [lim];omega),lJ,List.foldl_cons]
    unfold aKR
    by_cases hm:x∈a
    ·rw [if_pos hm];exact ⟨a,by simp [hm],by omega,rfl⟩
    ·rw [if_neg hm];exact ⟨a++[x],by simp [hm],by simp;omega,rfl⟩
  ·right
   obtain rfl:k=o.length:=by omega
   refine ⟨o,by simp only [zZ,aGf];rfl,hnd,ho,fun q=>⟨hcl q,fun hc=>?_⟩⟩
   induction hc with
   |base hx=>exact hsub _ hx
   |@step e he hl hc ih=>
    obtain ⟨j,hj,e1⟩:=List.mem_iff_getElem.1 ih
    exact hdone j hj hj e he hl e1.symm
def Vis (t:cI) (S:List Int) (k:Int):Int->Prop:=Cl t (Aft t S k)
theorem aMd (hv:nB t) {S:List Int} (hS:S.length < 1000000000) {k:Nat} (hk:k < t.L.length):∃ R,pA t S t.L[k]=some R/\aFy t S (k:Int)=some R/\aJE R (Vis t S (k:Int)):=by
 obtain ⟨R1,f1,f2⟩:=aML hv hS hk
 have hn:R1.Nodup:=f2.ord.imp fun h=>by omega
 obtain ⟨R,g1,g2⟩:=aKN hv hn fun q hq=>((f2.mem q).1 hq).inn hv
 obtain ⟨R',n1,n2⟩:=aON hv hS (k:Int)
 have e:R=R':=(g2.iff (Cl.iff f2.mem)).eq n2
 subst e
 refine ⟨R,?_,n1,n2⟩
 unfold pA
 rw [f1,lJ,g1];rfl
theorem aNF (hv:nB t):∃ R,nM t [t.I]=some R/\aAY t=some R/\aJE R (Cl t fun q=>q=t.I):=by
 have hin:=hv.2.1
 obtain ⟨R,g1,g2⟩:=aKN hv (xs:=[t.I]) (by simp) fun q hq=>by simp at hq;omega
 obtain ⟨R',n1,n2⟩:=first_eq hv
 have e:R=R':=(g2.iff (Cl.iff fun q=>by simp)).eq n2
 subst e
 exact ⟨R,g1,n1,n2⟩
end
end Gv
namespace Gv
open Go
theorem aKn {σ ρ:Type} {step:σ->Option (σ ⊕ ρ)} {s s':σ} (h:step s=some (.inl s')):loop step s=loop step s':=by rw [eZ,h]
theorem aJV {σ ρ:Type} {step:σ->Option (σ ⊕ ρ)} {s:σ} {r:ρ} (h:step s=some (.inr r)):loop step s=some r:=by rw [eZ,h]
section
variable {κ β:Type} [DecidableEq β] [BEq β] [LawfulBEq β] (key:κ->β)
def atK (F:List κ) (q:κ):Int:=if key q∈F.map key then pos (F.map key) (key q) else (F.length:Int)
def aJv (F:List κ) (q:κ):List κ:=if key q∈F.map key then F else F++[q]
def aJL (i:Int) (s:List κ × List Edge) (x:Int × κ):List κ × List Edge:=(aJv key s.1 x.2,s.2++[⟨i,x.1,atK key s.1 x.2⟩])
def aIp (i:Int) (l:List (Int × κ)) (s:List κ × List Edge):List κ × List Edge:=l.foldl (aJL key i) s
def xpl (nx:κ->List (Int × κ)) (B:Nat):Nat->Nat->List κ × List Edge->List κ × List Edge
 |0,_,s=>s
 |n+1,i,s=>match s.1[i]? with
  |none=>s
  |some q=>if B < (aIp key (i:Int) (nx q) s).1.length then aIp key (i:Int) (nx q) s else xpl nx B n (i+1) (aIp key (i:Int) (nx q) s)
theorem aOO (i:Int) (s:List κ × List Edge):aIp key i [] s=s:=rfl
theorem aJQ (i:Int) (x:Int × κ) (l:List (Int × κ)) (s:List κ × List Edge):aIp key i (x::l) s=aIp key i l (aJL key i s x):=rfl
variable {key}
theorem aKW (F:List κ) (q:κ):F <+:aJv key F q:=by
 unfold aJv;split
 ·exact List.prefix_refl _
 ·exact List.prefix_append _ _
theorem aLB (F:List κ) (q:κ):(aJv key F q).length<=F.length+1:=by unfold aJv;split<;>simp
theorem atK_in (F:List κ) (q:κ):0<=atK key F q/\atK key F q < (aJv key F q).length:=by
 unfold atK aJv
 by_cases h:key q∈F.map key
 ·rw [if_pos h,if_pos h]
  obtain ⟨i,hi,e,_⟩:=aJs h
  rw [List.length_map] at hi
  omega
 ·rw [if_neg h,if_neg h,List.length_append,List.length_singleton];omega
theorem aMM {F:List κ} (h:(F.map key).Nodup) (q:κ):((aJv key F q).map key).Nodup:=by
 unfold aJv;split
 ·exact h
 ·rename_i hx
  rw [List.map_append,List.nodup_append]
  refine ⟨h,by simp,fun a ha b hb=>?_⟩
  simp at hb;subst hb
  exact fun e=>hx (e ▸ ha)
theorem aMN {P:κ->Prop} {F:List κ} (h:∀ x∈F,P x) {q:κ} (hq:P q):∀ x∈aJv key F q,P x:=by
 unfold aJv;split
 ·exact h
 ·intro x hx
  rcases List.mem_append.1 hx with hx|hx
  ·exact h x hx
  ·simp at hx;subst hx;exact hq
theorem insK_mem (F:List κ) (q:κ):key q∈(aJv key F q).map key:=by
 unfold aJv;split
 ·assumption
 ·simp
theorem aJW (i:Int):∀ (l:List (Int × κ)) (s:List κ × List Edge),s.1 <+:(aIp key i l s).1/\s.2 <+:(aIp key i l s).2
 |[],s=>⟨List.prefix_refl _,List.prefix_refl _⟩
 |x::l,s=>by
  obtain ⟨h1,h2⟩:=aJW i l (aJL key i s x)
  rw [aJQ]
  exact ⟨(aKW s.1 x.2).trans h1,(List.prefix_append _ _).trans h2⟩
theorem aOP (i:Int):∀ (l:List (Int × κ)) (s:List κ × List Edge),(aIp key i l s).2.length=s.2.length+l.length/\(aIp key i l s).1.length<=s.1.length+l.length
 |[],s=>⟨rfl,by simp [aOO]⟩
 |x::l,s=>by
  obtain ⟨h1,h2⟩:=aOP i l (aJL key i s x)
  have:=aLB (key:=key) s.1 x.2
  have h1':(aIp key i l (aJL key i s x)).2.length=(s.2.length+1)+l.length:=by rw [h1];simp [aJL]
  have h2':(aIp key i l (aJL key i s x)).1.length<=(aJv key s.1 x.2).length+l.length:=h2
  rw [aJQ,List.length_cons]
  omega
theorem aLp (i:Int):∀ (l:List (Int × κ)) (s:List κ × List Edge),(s.1.map key).Nodup->((aIp key i l s).1.map key).Nodup
 |[],_,h=>h
 |x::l,s,h=>aLp i l (aJL key i s x) (aMM h x.2)
theorem aKX {P:κ->Prop} (i:Int):∀ (l:List (Int × κ)) (s:List κ × List Edge),(∀ x∈s.1,P x)->(∀ x∈l,P x.2)->∀ x∈(aIp key i l s).1,P x
 |[],_,h,_=>h
 |x::l,s,h,hl=>aKX i l (aJL key i s x) (aMN h (hl x (by simp))) fun y hy=>hl y (by simp [hy])
theorem aLC (nx:κ->List (Int × κ)) (B:Nat):∀ (n i:Nat) (s:List κ × List Edge),s.1 <+:(xpl key nx B n i s).1/\s.2 <+:(xpl key nx B n i s).2
 |0,_,s=>⟨List.prefix_refl _,List.prefix_refl _⟩
 |n+1,i,s=>by
  unfold xpl
  cases hq:s.1[i]? with
  |none=>exact ⟨List.prefix_refl _,List.prefix_refl _⟩
  |some q=>
   simp only
   obtain ⟨h1,h2⟩:=aJW (key:=key) (i:Int) (nx q) s
   split
   ·exact ⟨h1,h2⟩
   ·obtain ⟨h3,h4⟩:=aLC nx B n (i+1) (aIp key (i:Int) (nx q) s)
    exact ⟨h1.trans h3,h2.trans h4⟩
theorem xpl_ok {P:κ->Prop} {nx:κ->List (Int × κ)} (hP:∀ q,P q->∀ x∈nx q,P x.2) (B:Nat):∀ (n i:Nat) (s:List κ × List Edge),(s.1.map key).Nodup->(∀ x∈s.1,P x)->((xpl key nx B n i s).1.map key).Nodup/\∀ x∈(xpl key nx B n i s).1,P x
 |0,_,s,h1,h2=>⟨h1,h2⟩
 |n+1,i,s,h1,h2=>by
  unfold xpl
  cases hq:s.1[i]? with
  |none=>exact ⟨h1,h2⟩
  |some q=>
   simp only
   have hl:=hP q (h2 q (List.mem_of_getElem? hq))
   have g1:=aLp (key:=key) (i:Int) (nx q) s h1
   have g2:=aKX (key:=key) (P:=P) (i:Int) (nx q) s h2 hl
   split
   ·exact ⟨g1,g2⟩
   ·exact xpl_ok hP B n (i+1) _ g1 g2
def Inc (k m:Int) (l:List (Int × κ)):Prop:=(l.Pairwise fun a b=>a.1 < b.1)/\∀ x∈l,k < x.1/\x.1<=m
theorem addA_ED {L:List aZ} (i:Nat):∀ {l:List (Int × κ)} {k:Int} {s:List κ × List Edge},0<=k->Inc k L.length l->ED L (i:Int) k s.1.length s.2->ED L ((i+1:Nat):Int) 0 (aIp key (i:Int) l s).1.length (aIp key (i:Int) l s).2
 |[],k,s,_,_,h=>by
  have:=h.next
  rwa [show (i:Int)+1=((i+1:Nat):Int) by omega] at this
 |x::l,k,s,hk,hi,h=>by
  rw [aJQ]
  obtain ⟨h1,h2⟩:=hi
  rw [List.pairwise_cons] at h1
  have hx:=h2 x (by simp)
  have ha:=atK_in (key:=key) s.1 x.2
  have hl:=(aKW (key:=key) s.1 x.2).length_le
  refine addA_ED i (k:=x.1) (by omega) ⟨h1.2,fun y hy=>⟨h1.1 y hy,(h2 y (by simp [hy])).2⟩⟩ ⟨?_,fun e he=>?_⟩
  ·simp only [aJL]
   rw [List.pairwise_append]
   refine ⟨h.ord,by simp,fun a ha b hb=>?_⟩
   simp at hb;subst hb
   have:=h.all a ha
   unfold aKe
   simp only;omega
  ·simp only [aJL] at he ⊢
   rcases List.mem_append.1 he with he|he
   ·have:=h.all e he;omega
   ·simp at he;subst he
    exact ⟨by simp only;omega,.inr ⟨rfl,by simp only;omega⟩,by simp only;omega,by simp only;omega,ha.1,ha.2⟩
theorem xpl_ED {L:List aZ} {P:κ->Prop} {nx:κ->List (Int × κ)} (hP:∀ q,P q->∀ x∈nx q,P x.2) (hI:∀ q,P q->Inc 0 L.length (nx q)) (B:Nat):∀ (n i:Nat) (s:List κ × List Edge),(∀ x∈s.1,P x)->i<=s.1.length->ED L (i:Int) 0 s.1.length s.2->
  ∃ j:Nat,j<=(xpl key nx B n i s).1.length/\ED L (j:Int) 0 (xpl key nx B n i s).1.length (xpl key nx B n i s).2
 |0,i,s,_,hi,h=>⟨i,hi,h⟩
 |n+1,i,s,h2,hi,h=>by
  unfold xpl
  cases hq:s.1[i]? with
  |none=>exact ⟨i,hi,h⟩
  |some q=>
   simp only
   have hil:i < s.1.length:=(List.getElem?_eq_some_iff.1 hq).1
   have hPq:=h2 q (List.mem_of_getElem? hq)
   have g:=addA_ED (key:=key) (L:=L) i (l:=nx q) (k:=0) (s:=s) (Int.le_refl _) (hI q hPq) h
   have hp:=(aJW (key:=key) (i:Int) (nx q) s).1.length_le
   split
   ·exact ⟨i+1,by omega,g⟩
   ·exact xpl_ED hP hI B n (i+1) _ (aKX (i:Int) (nx q) s h2 (hP q hPq)) (by omega) g
theorem ED.done {L:List aZ} {j n:Nat} {ed:List Edge} (h:ED L (j:Int) 0 n ed) (hj:j<=n):ed.Pairwise aKe/\∀ e∈ed,(0<=e.F/\e.F < n)/\(1<=e.B/\e.B<=L.length)/\0<=e.To/\e.To < n:=
 ⟨h.ord,fun e he=>by have:=h.all e he;omega⟩
def Small (s:List κ × List Edge):Prop:=s.1.length<=40/\s.2.length<=300
instance (s:List κ × List Edge):Decidable (Small s):=by unfold Small;infer_instance
theorem Small.pre {s u:List κ × List Edge} (h:s.1 <+:u.1/\s.2 <+:u.2) (hu:Small u):Small s:=⟨Nat.le_trans h.1.length_le hu.1,Nat.le_trans h.2.length_le hu.2⟩
theorem pos_inj {γ:Type} [BEq γ] [LawfulBEq γ] {ks:β->γ} {b:β}:∀ {A:List β},(∀ x∈A,ks x=ks b->x=b)->pos (A.map ks) (ks b)=pos A b
 |[],_=>rfl
 |x::A,h=>by
  have ih:=pos_inj (ks:=ks) (b:=b) (A:=A) fun y hy=>h y (by simp [hy])
  unfold pos at ih ⊢
  rw [List.map_cons,List.findIdx?_cons,List.findIdx?_cons]
  by_cases e:b=x
  ·subst e;simp
  ·have e2:¬ ks b=ks x:=fun e'=>e (h x (by simp) e'.symm).symm
   rw [if_neg (by simpa using e2),if_neg (by simpa using e)]
   cases h1:List.findIdx? (fun x=>ks b == x) (A.map ks)<;>cases h2:List.findIdx? (fun x=>b == x) A<;>rw [h1,h2] at ih<;>simp only [Option.map_none,Option.map_some] at ih ⊢<;>omega
theorem key_in {γ:Type} {ks:β->γ} {b:β} {A:List β} (h:∀ x∈A,ks x=ks b->x=b):ks b∈A.map ks<->b∈A:=by
 constructor
 ·intro hb
  obtain ⟨x,hx,e⟩:=List.mem_map.1 hb
  exact h x hx e ▸ hx
 ·exact fun hb=>List.mem_map_of_mem hb
end
end Gv
namespace Gv
open Go
section
noncomputable def nxt (t:cI) (S:List Int) (k:Int):List Int:=(aFy t S k).getD []
noncomputable def aJN (t:cI) (S:List Int):Nat->Nat->List (Int × List Int)
 |0,_=>[]
 |n+1,k=>if nxt t S (k:Int)=[] then aJN t S n (k+1) else ((k:Int),nxt t S (k:Int))::aJN t S n (k+1)
noncomputable def aHZ (t:cI) (S:List Int):List (Int × List Int):=aJN t S (t.L.length - 1) 1
structure aIx (t:cI) (S:List Int):Prop where
 len:S.length<=40
 inn:∀ q∈S,0<=q/\q < t.N
variable {t:cI}
theorem aIx.of (hv:nB t) {R:List Int} {X:Int->Prop} (h:aJE R X) (h0:∀ q,X q->0<=q/\q < t.N):aIx t R:=
 ⟨h.len (n:=40) fun q hq=>by have:=h0 q hq;have:=hv.1;omega,fun q hq=>h0 q ((h.mem q).1 hq)⟩
theorem nxt_eq (hv:nB t) {S:List Int} (hS:aIx t S) (k:Int):aFy t S k=some (nxt t S k)/\aIx t (nxt t S k):=by
 obtain ⟨R,h1,h2⟩:=aON hv (S:=S) (by have:=hS.len;omega) k
 have e:nxt t S k=R:=by unfold nxt;rw [h1];rfl
 rw [e]
 exact ⟨h1,aIx.of hv h2 fun q hq=>hq.inn hv fun q hq=>hq.inn hv⟩
theorem aKC (hv:nB t) {S:List Int} (hS:aIx t S):∀ (n k:Nat),∀ x∈aJN t S n k,aIx t x.2
 |0,_,x,h=>by simp [aJN] at h
 |n+1,k,x,h=>by
  unfold aJN at h
  split at h
  ·exact aKC hv hS n (k+1) x h
  ·rcases List.mem_cons.1 h with rfl|h
   ·exact (nxt_eq hv hS _).2
   ·exact aKC hv hS n (k+1) x h
theorem aOQ (S:List Int):∀ (n k:Nat),Inc ((k:Int) - 1) ((k:Int)+n - 1) (aJN t S n k)
 |0,k=>⟨by simp [aJN],fun x hx=>by simp [aJN] at hx⟩
 |n+1,k=>by
  obtain ⟨h1,h2⟩:=aOQ S n (k+1)
  unfold aJN
  split
  ·exact ⟨h1,fun x hx=>by have:=h2 x hx;omega⟩
  ·refine ⟨?_,fun x hx=>?_⟩
   ·rw [List.pairwise_cons]
    exact ⟨fun x hx=>by have:=h2 x hx;simp only;omega,h1⟩
   ·rcases List.mem_cons.1 hx with rfl|hx
    ·simp only;omega
    ·have:=h2 x hx;omega
theorem aOR (S:List Int):∀ (n k:Nat),(aJN t S n k).length<=n
 |0,_=>by simp [aJN]
 |n+1,k=>by
  have:=aOR S n (k+1)
  unfold aJN
  split
  ·omega
  ·rw [List.length_cons];omega
theorem sucD_inc (hv:nB t) (S:List Int):Inc 0 (t.L.tail.length:Int) (aHZ t S):=by
 have:=aOQ (t:=t) S (t.L.length - 1) 1
 have h1:=hv.2.2.1.1
 rw [List.length_tail]
 unfold aHZ
 rw [show ((t.L.length - 1:Nat):Int)=((1:Nat):Int)+((t.L.length - 1:Nat):Int) - 1 by omega]
 exact this
theorem sets_find (A:List (List Int)) (r:List Int) (hn:A.Nodup) (hA:A.length<=1000) (h2:∀ S∈A,S.length<=40):loop (fun s:Int × Int=>aET A r s.1 s.2) (-1,0)=some (pos A r):=by
 have:=aJr (step:=fun s:Int × Int=>aET A r s.1 s.2) A.length (fun k (a:Int)=>(a,(k:Int))) (fun k a=>match (A.drop k).findIdx? (fun x=>r == x) with|none=>a|some j=>((k+j:Nat):Int)) (fun _ _=>True) (fun k a hk _=>?_) (fun a _=>by simp only [aET,aGf];simp) A.length 0 (-1) (by omega) trivial
 ·rw [show loop (fun s:Int × Int=>aET A r s.1 s.2) (-1,0)=_ from this]
  unfold pos
  rw [List.drop_zero]
  cases A.findIdx? (fun x=>r == x)<;>simp
 ·left
  have hl:=h2 _ (List.getElem_mem hk)
  simp only [aET,aBK hk,if_pos,aAM hk,lJ,aPP _ r (show A[k].length < 4611686018427387904 by omega),xA,aAg hk (show A.length < 4611686018427387904 by omega)]
  rw [List.drop_eq_getElem_cons hk,List.findIdx?_cons]
  by_cases e:A[k]=r
  ·have hno:(A.drop (k+1)).findIdx? (fun x=>r == x)=none:=by
    rw [List.findIdx?_eq_none_iff]
    intro x hx
    rw [beq_eq_false_iff_ne]
    rintro rfl
    have hd:(A.drop k).Nodup:=hn.sublist (List.drop_sublist _ _)
    rw [List.drop_eq_getElem_cons hk,List.nodup_cons] at hd
    exact hd.1 (e ▸ hx)
   refine ⟨(k:Int),by simp [e],trivial,?_⟩
   rw [hno]
   simp [e]
  ·refine ⟨a,by simp [e],trivial,?_⟩
   have e':¬ r=A[k]:=fun h=>e h.symm
   rw [if_neg (by simpa using e')]
   cases (A.drop (k+1)).findIdx? (fun x=>r == x) with
   |none=>rfl
   |some j=>simp only [Option.map_some];congr 1;omega
theorem aPY (hv:nB t) {i:Nat} {S:List Int} {s:List (List Int) × List Edge} (hi:s.1[i]?=some S) (hnd:(s.1.map id).Nodup) (hg:∀ S∈s.1,aIx t S) (hs:Small s):
  loop (fun s:List (List Int) × List Edge × Int=>aEU t (i:Int) s.1 s.2.1 s.2.2) (s.1,s.2,1)=some (if Small (aIp id (i:Int) (aHZ t S) s) then .inl (aIp id (i:Int) (aHZ t S) s) else .inr (⟨0,0,[],[]⟩,[],false)):=by
 have h12:=hv.2.2.1.2.1
 have h1:=hv.2.2.1.1
 have:=aJr (step:=fun s:List (List Int) × List Edge × Int=>aEU t (i:Int) s.1 s.2.1 s.2.2) t.L.length (fun k (a:List (List Int) × List Edge)=>(a.1,a.2,(k:Int)))
  (fun k a=>if Small (aIp id (i:Int) (aJN t S (t.L.length - k) k) a) then (Sum.inl (aIp id (i:Int) (aJN t S (t.L.length - k) k) a):(List (List Int) × List Edge) ⊕ (cI × List (List Int) × Bool)) else .inr (⟨0,0,[],[]⟩,[],false))
  (fun _ a=>a.1[i]?=some S/\(a.1.map id).Nodup/\(∀ S∈a.1,aIx t S)/\Small a) (fun k a hk hI=>?_) (fun a hI=>?_) (t.L.length - 1) 1 s (by omega) ⟨hi,hnd,hg,hs⟩
 ·exact this
 ·obtain ⟨a1,a2,a3,a4⟩:=hI
  have hS:=a3 S (List.mem_of_getElem? a1)
  obtain ⟨hn,hng⟩:=nxt_eq hv hS (k:Int)
  have hsl:aJN t S (t.L.length - k) k=if nxt t S (k:Int)=[] then aJN t S (t.L.length - (k+1)) (k+1) else ((k:Int),nxt t S (k:Int))::aJN t S (t.L.length - (k+1)) (k+1):=by
   rw [show t.L.length - k=(t.L.length - (k+1))+1 by omega];rfl
  have hw:=aAg hk (show t.L.length < 4611686018427387904 by omega)
  have hst:aEU t (i:Int) a.1 a.2 (k:Int)=(if nxt t S (k:Int)=[] then some (.inl (a.1,a.2,((k+1:Nat):Int))) else wZ (i:Int) a.1 a.2 (k:Int) (nxt t S (k:Int)) (pos a.1 (nxt t S (k:Int)))):=by
   simp only [aEU,aBK hk,if_pos,aKt,a1,lJ,hn,wX,hw]
   by_cases e:nxt t S (k:Int)=[]
   ·rw [if_pos e,if_pos (by simp [e])]
   ·rw [if_neg e,if_neg (by simpa using e),sets_find _ _ (by simpa using a2) (by have:=a4.1;omega) (fun x hx=>(a3 x hx).len),lJ]
  simp only
  rw [hst,hsl]
  by_cases e:nxt t S (k:Int)=[]
  ·left
   rw [if_pos e,if_pos e]
   exact ⟨a,rfl,⟨a1,a2,a3,a4⟩,rfl⟩
  ·rw [if_neg e,if_neg e,aJQ]
   have hnew:wZ (i:Int) a.1 a.2 (k:Int) (nxt t S (k:Int)) (pos a.1 (nxt t S (k:Int)))=some (if Small (aJL id (i:Int) a ((k:Int),nxt t S (k:Int))) then .inl ((aJL id (i:Int) a ((k:Int),nxt t S (k:Int))).1,(aJL id (i:Int) a ((k:Int),nxt t S (k:Int))).2,((k+1:Nat):Int)) else .inr (.inr (⟨0,0,[],[]⟩,[],false))):=by
    obtain ⟨b1,b2⟩:=a4
    unfold wZ wY wX aJL aJv atK Small
    simp only [List.map_id,id]
    by_cases hm:nxt t S (k:Int)∈a.1
    ·have hp:=aKf.2 hm
     rw [if_neg (by simpa using hp)]
     simp only [if_pos hm,List.length_append,List.length_singleton]
     by_cases h3:a.2.length=300
     ·rw [if_pos (by simp [h3]),if_neg (by omega)]
     ·rw [if_neg (by simp;omega),if_pos (by omega),aGO (by simp [lim];omega),lJ,hw]
    ·have hp:¬ 0<=pos a.1 (nxt t S (k:Int)):=fun h=>hm (aKf.1 h)
     rw [if_pos (by simpa using hp)]
     simp only [if_neg hm,List.length_append,List.length_singleton]
     by_cases h4:a.1.length=40
     ·rw [if_pos (by simp [h4]),if_neg (by omega)]
     ·rw [if_neg (by simp;omega),aGO (by simp [lim];omega),lJ]
      by_cases h3:a.2.length=300
      ·rw [if_pos (by simp [h3]),if_neg (by omega)]
      ·rw [if_neg (by simp;omega),if_pos (by omega),aGO (by simp [lim];omega),lJ,hw]
   rw [hnew]
   by_cases hok:Small (aJL id (i:Int) a ((k:Int),nxt t S (k:Int)))
   ·left
    rw [if_pos hok]
    refine ⟨_,rfl,⟨pre_get (aKW (key:=id) a.1 _) a1,aMM (key:=id) a2 _,aMN (key:=id) a3 hng,hok⟩,rfl⟩
   ·right
    rw [if_neg hok,if_neg (fun h=>hok (Small.pre (aJW (key:=id) _ _ _) h))]
 ·simp only [aEU,aGf]
  rw [Nat.sub_self]
  show some (Sum.inr (Sum.inl (a.1,a.2)))=_
  rw [show aIp id (i:Int) (aJN t S 0 t.L.length) a=a from rfl,if_pos hI.2.2.2]
theorem aMO (hv:nB t):∀ (n i:Nat) (s:List (List Int) × List Edge),i<=s.1.length->41<=n+i->(s.1.map id).Nodup->(∀ S∈s.1,aIx t S)->Small s->
  loop (fun s:List (List Int) × List Edge × Int=>aDy t s.1 s.2.1 s.2.2) (s.1,s.2,(i:Int))=some (if Small (xpl id (aHZ t) 40 n i s) then .inl (xpl id (aHZ t) 40 n i s) else .inr (⟨0,0,[],[]⟩,[],false))
 |0,i,s,hi,hn,_,_,hs=>by have:=hs.1;omega
 |n+1,i,s,hi,hn,hnd,hg,hs=>by
  by_cases hlt:i < s.1.length
  ·have hq:s.1[i]?=some s.1[i]:=List.getElem?_eq_getElem hlt
   have hx:xpl id (aHZ t) 40 (n+1) i s=if 40 < (aIp id (i:Int) (aHZ t s.1[i]) s).1.length then aIp id (i:Int) (aHZ t s.1[i]) s else xpl id (aHZ t) 40 n (i+1) (aIp id (i:Int) (aHZ t s.1[i]) s):=by
    rw [xpl,hq]
   have hw:=aAg hlt (show s.1.length < 4611686018427387904 by have:=hs.1;omega)
   have hGq:=hg _ (List.getElem_mem hlt)
   have g1:=aLp (key:=id) (i:Int) (aHZ t s.1[i]) s hnd
   have g2:=aKX (key:=id) (P:=aIx t) (i:Int) (aHZ t s.1[i]) s hg (aKC hv hGq _ _)
   have gl:=(aJW (key:=id) (i:Int) (aHZ t s.1[i]) s).1.length_le
   have hst:aDy t s.1 s.2 (i:Int)=if Small (aIp id (i:Int) (aHZ t s.1[i]) s) then some (.inl ((aIp id (i:Int) (aHZ t s.1[i]) s).1,(aIp id (i:Int) (aHZ t s.1[i]) s).2,((i+1:Nat):Int))) else some (.inr (.inr (⟨0,0,[],[]⟩,[],false))):=by
    unfold aDy
    rw [if_pos (aBK hlt),aPY hv hq hnd hg hs,lJ]
    by_cases hok:Small (aIp id (i:Int) (aHZ t s.1[i]) s)
    ·rw [if_pos hok,if_pos hok];simp only [wW,aAZ,hw]
    ·rw [if_neg hok,if_neg hok]
   by_cases hok:Small (aIp id (i:Int) (aHZ t s.1[i]) s)
   ·rw [if_pos hok] at hst
    rw [aKn (step:=fun s:List (List Int) × List Edge × Int=>aDy t s.1 s.2.1 s.2.2) (s:=(s.1,s.2,(i:Int))) hst,show xpl id (aHZ t) 40 (n+1) i s=xpl id (aHZ t) 40 n (i+1) (aIp id (i:Int) (aHZ t s.1[i]) s) by rw [hx];exact if_neg (by have:=hok.1;omega)]
    exact aMO hv n (i+1) _ (by omega) (by omega) g1 g2 hok
   ·rw [if_neg hok] at hst
    rw [aJV (step:=fun s:List (List Int) × List Edge × Int=>aDy t s.1 s.2.1 s.2.2) (s:=(s.1,s.2,(i:Int))) hst,hx]
    by_cases h40:40 < (aIp id (i:Int) (aHZ t s.1[i]) s).1.length
    ·rw [if_pos h40,if_neg hok]
    ·rw [show (if 40 < (aIp id (i:Int) (aHZ t s.1[i]) s).1.length then aIp id (i:Int) (aHZ t s.1[i]) s else xpl id (aHZ t) 40 n (i+1) (aIp id (i:Int) (aHZ t s.1[i]) s))=xpl id (aHZ t) 40 n (i+1) (aIp id (i:Int) (aHZ t s.1[i]) s) from if_neg h40,if_neg (fun h=>hok (Small.pre (aLC (key:=id) (aHZ t) 40 n (i+1) _) h))]
  ·obtain rfl:i=s.1.length:=by omega
   have hx:xpl id (aHZ t) 40 (n+1) s.1.length s=s:=by
    rw [xpl,List.getElem?_eq_none (Nat.le_refl _)]
   have hst:aDy t s.1 s.2 (s.1.length:Int)=some (.inr (.inl (s.1,s.2))):=by
    simp only [aDy,aGf];rfl
   rw [aJV (step:=fun s:List (List Int) × List Edge × Int=>aDy t s.1 s.2.1 s.2.2) (s:=(s.1,s.2,(s.1.length:Int))) hst,hx,if_pos hs]
noncomputable def aJF (t:cI):List Int:=(aAY t).getD []
noncomputable def aHs (t:cI):List (List Int) × List Edge:=xpl id (aHZ t) 40 41 0 ([aJF t],[])
theorem aLc (hv:nB t):aAY t=some (aJF t)/\nM t [t.I]=some (aJF t)/\aIx t (aJF t):=by
 obtain ⟨R,h1,h2,h3⟩:=aNF hv
 have e:aJF t=R:=by unfold aJF;rw [h2];rfl
 rw [e]
 exact ⟨h2,h1,aIx.of hv h3 fun q hq=>hq.inn hv fun q hq=>by have:=hv.2.1;omega⟩
noncomputable def detS (t:cI):cI × List (List Int) × Bool:=if Small (aHs t) then (⟨((aHs t).1.length:Int),0,t.L,(aHs t).2⟩,(aHs t).1,true) else (⟨0,0,[],[]⟩,[],false)
theorem aLq (hv:nB t):aAI t=some (detS t):=by
 obtain ⟨h1,_,h3⟩:=aLc hv
 unfold aAI detS
 rw [h1,lJ]
 have:=aMO hv 41 0 ([aJF t],[]) (by simp) (by omega) (by simp) (fun S hS=>by simp at hS;subst hS;exact h3) ⟨by simp,by simp⟩
 rw [show loop (fun s:List (List Int) × List Edge × Int=>aDy t s.1 s.2.1 s.2.2) ([aJF t],[],0)=_ from this,lJ]
 show (match (if Small (aHs t) then Sum.inl (aHs t) else Sum.inr (⟨0,0,[],[]⟩,[],false):(List (List Int) × List Edge) ⊕ (cI × List (List Int) × Bool)) with|.inl r=>wV t r.1 r.2|.inr r=>some r)=_
 by_cases hs:Small (aHs t)
 ·rw [if_pos hs,if_pos hs]
  simp only [wV]
  rw [aGO (by have:=hv.2.2.1.2.1;simp [lim];omega),lJ,List.nil_append]
 ·rw [if_neg hs,if_neg hs]
theorem aLd (hv:nB t):((aHs t).1.map id).Nodup/\(∀ S∈(aHs t).1,aIx t S)/\(aHs t).2.Pairwise aKe/\(∀ e∈(aHs t).2,(0<=e.F/\e.F < (aHs t).1.length)/\(1<=e.B/\e.B<=t.L.tail.length)/\0<=e.To/\e.To < (aHs t).1.length)/\1<=(aHs t).1.length:=by
 obtain ⟨_,_,h3⟩:=aLc hv
 have hg:∀ S∈([aJF t],([]:List Edge)).1,aIx t S:=fun S hS=>by simp at hS;subst hS;exact h3
 have hP:∀ q,aIx t q->∀ x∈aHZ t q,aIx t x.2:=fun q hq=>aKC hv hq _ _
 obtain ⟨g1,g2⟩:=xpl_ok (key:=id) hP 40 41 0 ([aJF t],[]) (by simp) hg
 obtain ⟨j,hj,hE⟩:=xpl_ED (key:=id) (L:=t.L.tail) hP (fun q _=>sucD_inc hv q) 40 41 0 ([aJF t],[]) hg (by simp) ⟨by simp,fun e he=>by simp at he⟩
 obtain ⟨e1,e2⟩:=hE.done hj
 exact ⟨g1,g2,e1,e2,(aLC (key:=id) (aHZ t) 40 41 0 ([aJF t],[])).1.length_le⟩
end
end Gv
namespace Gv
open Go
def kS (S:List Int):aZ:=Lib.join (S.map Lib.itoa) [44]
theorem aKD {v:Int} (h0:0<=v) (h1:v<=63):(44:UInt8)∉Lib.itoa v/\Lib.itoa v≠[]:=by
 have h:=aMu h0 h1
 refine ⟨fun hm=>?_,fun e=>by rw [e] at h;cases h⟩
 have:=List.all_eq_true.1 (aOz h) _ hm
 exact absurd this (by decide)
theorem app_inj {c:UInt8}:∀ {x y r r':aZ},c∉x->c∉y->x++c::r=y++c::r'->x=y/\r=r'
 |[],[],r,r',_,_,h=>⟨rfl,by simpa using h⟩
 |[],b::y,r,r',_,hy,h=>by simp at h;exact absurd (by simp [h.1]) hy
 |a::x,[],r,r',hx,_,h=>by simp at h;exact absurd (by simp [h.1]) hx
 |a::x,b::y,r,r',hx,hy,h=>by
  simp only [List.cons_append,List.cons.injEq] at h
  obtain ⟨g1,g2⟩:=app_inj (fun hm=>hx (by simp [hm])) (fun hm=>hy (by simp [hm])) h.2
  exact ⟨by rw [h.1,g1],g2⟩
theorem aKE (x y:aZ) (l:List aZ):Lib.join (x::y::l) [44]=x++(44::Lib.join (y::l) [44]):=by
 rw [Lib.join_cons,Lib.join_cons]
 simp [Lib.joinTail]
theorem kS_inj:∀ {S T:List Int},(∀ q∈S,0<=q/\q<=63)->(∀ q∈T,0<=q/\q<=63)->kS S=kS T->S=T
 |[],[],_,_,_=>rfl
 |[],b::T,_,hT,h=>by
  have hb:=aKD (hT b (by simp)).1 (hT b (by simp)).2
  cases T with
  |nil=>unfold kS at h;simp only [List.map_cons,List.map_nil,Lib.join_one,Lib.join_nil] at h;exact absurd h.symm hb.2
  |cons c T=>unfold kS at h;simp only [List.map_cons,List.map_nil,aKE,Lib.join_nil] at h;simp at h
 |a::S,[],hS,_,h=>by
  have hb:=aKD (hS a (by simp)).1 (hS a (by simp)).2
  cases S with
  |nil=>unfold kS at h;simp only [List.map_cons,List.map_nil,Lib.join_one,Lib.join_nil] at h;exact absurd h hb.2
  |cons c T=>unfold kS at h;simp only [List.map_cons,List.map_nil,aKE,Lib.join_nil] at h;simp at h
 |[a],[b],hS,hT,h=>by
  have ha:=hS a (by simp);have hb:=hT b (by simp)
  unfold kS at h
  simp only [List.map_cons,List.map_nil,Lib.join_one] at h
  rw [aOF (by omega) (by omega) h]
 |[a],b::c::T,hS,hT,h=>by
  have ha:=aKD (hS a (by simp)).1 (hS a (by simp)).2
  unfold kS at h
  simp only [List.map_cons,List.map_nil,Lib.join_one,aKE] at h
  exact absurd (by rw [h];simp) ha.1
 |a::c::S,[b],hS,hT,h=>by
  have hb:=aKD (hT b (by simp)).1 (hT b (by simp)).2
  unfold kS at h
  simp only [List.map_cons,List.map_nil,Lib.join_one,aKE] at h
  exact absurd (by rw [←h];simp) hb.1
 |a::c::S,b::d::T,hS,hT,h=>by
  have ha:=hS a (by simp);have hb:=hT b (by simp)
  have h':Lib.itoa a++(44::kS (c::S))=Lib.itoa b++(44::kS (d::T)):=by
   unfold kS at h ⊢
   simp only [List.map_cons,aKE] at h ⊢
   exact h
  obtain ⟨g1,g2⟩:=app_inj (aKD ha.1 ha.2).1 (aKD hb.1 hb.2).1 h'
  have:=kS_inj (fun q hq=>hS q (List.mem_cons_of_mem _ hq)) (fun q hq=>hT q (List.mem_cons_of_mem _ hq)) g2
  rw [aOF (by omega) (by omega) g1,this]
theorem kS_len:∀ {S:List Int},(∀ q∈S,0<=q/\q<=63)->(kS S).length<=3 * S.length
 |[],_=>by simp [kS,Lib.join_nil]
 |[a],h=>by
  have:=aOG (a:=a) (by have:=h a (by simp);omega)
  unfold kS
  simp only [List.map_cons,List.map_nil,Lib.join_one,List.length_singleton];omega
 |a::c::S,h=>by
  have:=aOG (a:=a) (by have:=h a (by simp);omega)
  have ih:=kS_len (S:=c::S) fun q hq=>h q (List.mem_cons_of_mem _ hq)
  unfold kS at ih ⊢
  simp only [List.map_cons,aKE,List.length_append,List.length_cons] at ih ⊢
  omega
section
variable {t:cI}
theorem aIx.small (hv:nB t) {S:List Int} (h:aIx t S):∀ q∈S,0<=q/\q<=63:=fun q hq=>by have:=h.inn q hq;have:=hv.1;omega
theorem detKey_eq (hv:nB t) {S:List Int} (h:aIx t S):nO S=some (kS S):=by
 have hs:=h.small hv
 have hl:=kS_len hs
 have:=h.len
 unfold nO
 rw [aNt S [44] (by omega) (fun x hx=>by have:=hs x hx;omega) (by show (kS S).length < lim;unfold lim;omega)]
 rfl
theorem keyS_inj (hv:nB t) {F:List (List Int)} (hF:∀ S∈F,aIx t S) {S:List Int} (h:aIx t S):∀ x∈F,kS x=kS S->x=S:=
 fun x hx e=>kS_inj ((hF x hx).small hv) (h.small hv) e
theorem aMP (hv:nB t) {F:List (List Int)} (hF:∀ S∈F,aIx t S) {S:List Int} (h:aIx t S) (hl:F.length<=1000) (arcs:List oT):
  aHt F (mq 0 (F.map kS)) arcs S=some (atK id F S,aJv id F S,mq 0 ((aJv id F S).map kS)):=by
 have hk:=keyS_inj hv hF h
 unfold aHt
 rw [detKey_eq hv h,lJ]
 unfold atK aJv
 rw [List.map_id]
 by_cases hm:S∈F
 ·rw [mget_in ((key_in hk).2 hm),if_neg (by simp),if_pos (show id S∈F from hm),if_pos (show id S∈F from hm),pos_inj hk]
  rfl
 ·have hm':kS S∉F.map kS:=fun h=>hm ((key_in hk).1 h)
  rw [mget_out hm',if_pos (by simp),if_neg (show ¬ id S∈F from hm),if_neg (show ¬ id S∈F from hm)]
  have h1:aAt (mq 0 (F.map kS)) (kS S) (F.length:Int)=mq 0 ((F++[S]).map kS):=by
   have:=mput_mq (k:=0) hm'
   rw [Nat.zero_add,List.length_map] at this
   rw [this,List.map_append];rfl
  rw [lJ,h1,aGO (by simp [lim];omega),lJ]
  rfl
theorem detAdd_eq (hv:nB t) {s:List (List Int) × List Edge} (hF:∀ S∈s.1,aIx t S) {S:List Int} (h:aIx t S) (hl:s.1.length<=1000) (he:s.2.length<=1000000) (L:List aZ) (i:Nat) (k:Int):
  lX (L.getD (k - 1).toNat []) S s.1 (mq 0 (s.1.map kS)) (s.2.map (aJc L)) (i:Int)=some ((aJL id (i:Int) s (k,S)).1,mq 0 ((aJL id (i:Int) s (k,S)).1.map kS),(aJL id (i:Int) s (k,S)).2.map (aJc L)):=by
 unfold lX
 rw [aMP hv hF h hl,lJ,aGO (by simp [lim];omega),lJ]
 unfold kR aJL
 rw [List.map_append]
 rfl
theorem aNG (hv:nB t):t.L=nI::t.L.tail/\aBq t.L.tail:=by
 obtain ⟨L,e,h⟩:=hv.2.2.1.cons
 rw [e];exact ⟨rfl,h⟩
theorem aOh (hv:nB t):aKc t.L.tail/\t.L.tail.length<=11:=by
 obtain ⟨h1,h12,h0,hk⟩:=hv.2.2.1
 refine ⟨⟨fun s hs=>?_,fun k hk1 hkl=>?_⟩,by rw [List.length_tail];omega⟩
 ·obtain ⟨j,hj,rfl⟩:=List.mem_iff_getElem.1 hs
  rw [List.length_tail] at hj
  rw [List.getElem_tail]
  have:=hk (j+1) (by omega) (by omega)
  exact ⟨this.1,this.2.1⟩
 ·rw [List.length_tail] at hkl
  rw [List.getElem_tail,List.getElem_tail]
  have:=(hk (k+1) (by omega) (by omega)).2.2 (by omega)
  have e:k - 1+1=k:=by omega
  simp only [e]
  simpa using this
theorem det_inner (hv:nB t) {i:Nat} {S:List Int} (hS:aIx t S) {s:List (List Int) × List Edge} (hg:∀ S∈s.1,aIx t S) (hl:s.1.length<=100) (he:s.2.length<=100000):
  nP S s.1 (mq 0 (s.1.map kS)) (s.2.map (aJc t.L.tail)) (i:Int) t=some (true,(aIp id (i:Int) (aHZ t S) s).1,mq 0 ((aIp id (i:Int) (aHZ t S) s).1.map kS),(aIp id (i:Int) (aHZ t S) s).2.map (aJc t.L.tail)):=by
 have h12:=hv.2.2.1.2.1
 have h1:=hv.2.2.1.1
 have hsl:yK t.L 1 (t.L.length:Int)=some t.L.tail:=by
  have:=aKl (s:=t.L) (w:=1) h1
  rw [show ((1:Nat):Int)=1 from rfl] at this
  rw [this,List.drop_one]
 have htl:t.L.tail.length=t.L.length - 1:=List.length_tail ..
 unfold nP
 rw [hsl,lJ]
 have:=aJr (step:=fun x:List (List Int) × List (aZ × Int) × List oT × Int=>qK S (i:Int) t t.L.tail x.1 x.2.1 x.2.2.1 x.2.2.2) t.L.tail.length (fun k (a:List (List Int) × List Edge)=>(a.1,mq 0 (a.1.map kS),a.2.map (aJc t.L.tail),(k:Int)))
  (fun k a=>((aIp id (i:Int) (aJN t S (t.L.tail.length - k) (k+1)) a).1,mq 0 ((aIp id (i:Int) (aJN t S (t.L.tail.length - k) (k+1)) a).1.map kS),(aIp id (i:Int) (aJN t S (t.L.tail.length - k) (k+1)) a).2.map (aJc t.L.tail)))
  (fun k a=>(∀ S∈a.1,aIx t S)/\a.1.length<=100+k/\a.2.length<=100000+k) (fun k a hk hI=>?_) (fun a hI=>?_) t.L.tail.length 0 s (by omega) ⟨hg,hl,he⟩
 ·rw [show loop (fun x:List (List Int) × List (aZ × Int) × List oT × Int=>qK S (i:Int) t t.L.tail x.1 x.2.1 x.2.2.1 x.2.2.2) (s.1,mq 0 (s.1.map kS),s.2.map (aJc t.L.tail),0)=_ from this,lJ]
  unfold jF aHZ
  simp only [Nat.sub_zero,htl,Nat.zero_add]
 ·left
  obtain ⟨a3,a4,a5⟩:=hI
  have hk1:k+1 < t.L.length:=by omega
  obtain ⟨hn,hng⟩:=nxt_eq hv hS ((k+1:Nat):Int)
  obtain ⟨R,v1,v2,_⟩:=aMd hv (S:=S) (by have:=hS.len;omega) hk1
  have hR:R=nxt t S ((k+1:Nat):Int):=by rw [hn] at v2;exact (Option.some.inj v2).symm
  subst hR
  have hlab:t.L.tail[k]=t.L[k+1]:=by rw [List.getElem_tail]
  have hsL:aJN t S (t.L.tail.length - k) (k+1)=if nxt t S ((k+1:Nat):Int)=[] then aJN t S (t.L.tail.length - (k+1)) (k+1+1) else (((k+1:Nat):Int),nxt t S ((k+1:Nat):Int))::aJN t S (t.L.tail.length - (k+1)) (k+1+1):=by
   rw [show t.L.tail.length - k=(t.L.tail.length - (k+1))+1 by omega];rfl
  have hw:=aAg hk (show t.L.tail.length < 4611686018427387904 by omega)
  rw [hsL]
  simp only [qK,aBK hk,if_pos,aAM hk,lJ,hlab,v1]
  by_cases e:nxt t S ((k+1:Nat):Int)=[]
  ·rw [if_pos e,if_neg (by rw [e];simp)]
   exact ⟨a,by simp only [jG,hw],⟨a3,by omega,by omega⟩,rfl⟩
  ·rw [if_neg e,if_pos (decide_eq_true (by have:=List.length_pos_iff.2 e;omega))]
   have hadd:=detAdd_eq hv (s:=a) a3 hng (by omega) (by omega) t.L.tail i ((k+1:Nat):Int)
   have hgd:t.L.tail.getD (((k+1:Nat):Int) - 1).toNat []=t.L[k+1]:=by
    rw [show (((k+1:Nat):Int) - 1).toNat=k by omega,List.getD_eq_getElem?_getD,List.getElem?_eq_getElem hk,←hlab];rfl
   rw [hgd] at hadd
   rw [hadd,lJ,aJQ]
   simp only [jG,hw]
   refine ⟨aJL id (i:Int) a (((k+1:Nat):Int),nxt t S ((k+1:Nat):Int)),rfl,⟨aMN (key:=id) a3 hng,?_,?_⟩,rfl⟩
   ·have:=aLB (key:=id) a.1 (nxt t S ((k+1:Nat):Int))
    simp only [aJL];omega
   ·simp only [aJL,List.length_append,List.length_singleton];omega
 ·simp only [qK,aGf]
  rw [Nat.sub_self]
  rfl
theorem aNH (hv:nB t):∀ (n i:Nat) (s:List (List Int) × List Edge),i<=s.1.length->41<=n+i->(∀ S∈s.1,aIx t S)->s.1.length<=40->s.2.length<=11 * i->
  loop (fun x:List (List Int) × List (aZ × Int) × List oT × Int=>sA t x.1 x.2.1 x.2.2.1 x.2.2.2) (s.1,mq 0 (s.1.map kS),s.2.map (aJc t.L.tail),(i:Int))=
   some (if (xpl id (aHZ t) 40 n i s).1.length<=40 then .inl ((xpl id (aHZ t) 40 n i s).1,mq 0 ((xpl id (aHZ t) 40 n i s).1.map kS),(xpl id (aHZ t) 40 n i s).2.map (aJc t.L.tail)) else .inr (⟨0,0,[],[]⟩,[],false))/\
   (xpl id (aHZ t) 40 n i s).2.length<=11 * (n+i)
 |0,i,s,hi,hn,_,hs,_=>by omega
 |n+1,i,s,hi,hn,hg,hs,he=>by
  have h12:=hv.2.2.1.2.1
  by_cases hlt:i < s.1.length
  ·have hq:s.1[i]?=some s.1[i]:=List.getElem?_eq_getElem hlt
   have hx:xpl id (aHZ t) 40 (n+1) i s=if 40 < (aIp id (i:Int) (aHZ t s.1[i]) s).1.length then aIp id (i:Int) (aHZ t s.1[i]) s else xpl id (aHZ t) 40 n (i+1) (aIp id (i:Int) (aHZ t s.1[i]) s):=by
    rw [xpl,hq]
   have hw:=aAg hlt (show s.1.length < 4611686018427387904 by omega)
   have hGq:=hg _ (List.getElem_mem hlt)
   have g2:=aKX (key:=id) (P:=aIx t) (i:Int) (aHZ t s.1[i]) s hg (aKC hv hGq _ _)
   have gl:=(aJW (key:=id) (i:Int) (aHZ t s.1[i]) s).1.length_le
   have ge:=(aOP (key:=id) (i:Int) (aHZ t s.1[i]) s).1
   have gs:(aHZ t s.1[i]).length<=11:=Nat.le_trans (aOR _ _ _) (by omega)
   have hst:sA t s.1 (mq 0 (s.1.map kS)) (s.2.map (aJc t.L.tail)) (i:Int)=if 40 < (aIp id (i:Int) (aHZ t s.1[i]) s).1.length then some (.inr (.inr (⟨0,0,[],[]⟩,[],false))) else some (.inl ((aIp id (i:Int) (aHZ t s.1[i]) s).1,mq 0 ((aIp id (i:Int) (aHZ t s.1[i]) s).1.map kS),(aIp id (i:Int) (aHZ t s.1[i]) s).2.map (aJc t.L.tail),((i+1:Nat):Int))):=by
    unfold sA
    rw [if_pos (aBK hlt),aAM hlt,lJ,det_inner hv hGq hg (by omega) (by omega),lJ,if_neg (by simp)]
    unfold jY
    by_cases h40:40 < (aIp id (i:Int) (aHZ t s.1[i]) s).1.length
    ·rw [if_pos h40,if_pos (by simp only [decide_eq_true_eq];omega)]
    ·rw [if_neg h40,if_neg (by simp only [decide_eq_true_eq];omega),hw]
   by_cases h40:40 < (aIp id (i:Int) (aHZ t s.1[i]) s).1.length
   ·rw [if_pos h40] at hst hx
    rw [hx]
    refine ⟨?_,by omega⟩
    rw [aJV (step:=fun x:List (List Int) × List (aZ × Int) × List oT × Int=>sA t x.1 x.2.1 x.2.2.1 x.2.2.2) (s:=(s.1,mq 0 (s.1.map kS),s.2.map (aJc t.L.tail),(i:Int))) hst,if_neg (by omega)]
   ·rw [if_neg h40] at hst hx
    rw [hx,aKn (step:=fun x:List (List Int) × List (aZ × Int) × List oT × Int=>sA t x.1 x.2.1 x.2.2.1 x.2.2.2) (s:=(s.1,mq 0 (s.1.map kS),s.2.map (aJc t.L.tail),(i:Int))) hst]
    obtain ⟨r1,r2⟩:=aNH hv n (i+1) (aIp id (i:Int) (aHZ t s.1[i]) s) (by omega) (by omega) g2 (by omega) (by omega)
    exact ⟨r1,by omega⟩
  ·obtain rfl:i=s.1.length:=by omega
   have hx:xpl id (aHZ t) 40 (n+1) s.1.length s=s:=by
    rw [xpl,List.getElem?_eq_none (Nat.le_refl _)]
   have hst:sA t s.1 (mq 0 (s.1.map kS)) (s.2.map (aJc t.L.tail)) (s.1.length:Int)=some (.inr (.inl (s.1,mq 0 (s.1.map kS),s.2.map (aJc t.L.tail)))):=by
    unfold sA
    rw [if_neg (by simp)]
   rw [hx]
   refine ⟨?_,by omega⟩
   rw [aJV (step:=fun x:List (List Int) × List (aZ × Int) × List oT × Int=>sA t x.1 x.2.1 x.2.2.1 x.2.2.2) (s:=(s.1,mq 0 (s.1.map kS),s.2.map (aJc t.L.tail),(s.1.length:Int))) hst,if_pos hs]
theorem aOS (hv:nB t) (hf:aBo 999999999 t) {n:Nat} {ed:List Edge} (hl:ed.length<=999999999):aBo 999999999 (aJb t.L.tail n ed):=by
 obtain ⟨hok,h11⟩:=aOh hv
 have hMl:(aLo t.L.tail ed).length<=t.L.tail.length:=List.length_filter_le _ _
 refine ⟨by simp only [aJb,List.length_cons];omega,fun s hs=>?_,by simp [aJb];omega⟩
 simp only [aJb] at hs
 rcases List.mem_cons.1 hs with rfl|hs
 ·decide
 ·exact hf.2.1 s (List.mem_of_mem_tail (List.mem_filter.1 hs).1)
theorem aOi (hv:nB t) (hf:aBo 999999999 t):oP (aJF t) t=some (if (aHs t).1.length<=40 then (aJb t.L.tail (aHs t).1.length (aHs t).2,(aHs t).1,decide ((aHs t).2.length<=300)) else (⟨0,0,[],[]⟩,[],false))/\(aHs t).2.length<=451:=by
 obtain ⟨h1,_,h3⟩:=aLc hv
 obtain ⟨hok,h11⟩:=aOh hv
 obtain ⟨o1,o2⟩:=aNH hv 41 0 ([aJF t],[]) (by simp) (by omega) (fun S hS=>by simp at hS;subst hS;exact h3) (by simp) (by simp)
 have hlen:(aHs t).2.length<=451:=o2
 refine ⟨?_,hlen⟩
 unfold oP
 have hf0:=aMP hv (F:=[]) (by simp) h3 (by simp) []
 have e0:aJv id ([]:List (List Int)) (aJF t)=[aJF t]:=rfl
 rw [e0] at hf0
 rw [show aHt [] ([]:List (aZ × Int)) [] (aJF t)=_ from hf0,lJ]
 simp only
 rw [show loop (fun x:List (List Int) × List (aZ × Int) × List oT × Int=>sA t x.1 x.2.1 x.2.2.1 x.2.2.2) ([aJF t],mq 0 ([aJF t].map kS),[],0)=_ from o1,lJ]
 obtain ⟨d1,d2,d3,d4,d5⟩:=aLd hv
 show (match (if (aHs t).1.length<=40 then Sum.inl ((aHs t).1,mq 0 ((aHs t).1.map kS),(aHs t).2.map (aJc t.L.tail)) else Sum.inr (⟨0,0,[],[]⟩,[],false):(List (List Int) × List (aZ × Int) × List oT) ⊕ (cI × List (List Int) × Bool)) with|.inl r=>jX r.1 r.2.1 r.2.2|.inr r=>some r)=_
 by_cases h40:(aHs t).1.length<=40
 ·rw [if_pos h40,if_pos h40]
  simp only
  unfold jX
  rw [aOH (by simp;omega),lJ,aPO hok h11 d3 (fun e he=>(d4 e he).2.1) (by omega),lJ]
  unfold lY
  rw [show (⟨(aJb t.L.tail (aHs t).1.length (aHs t).2).N,(aJb t.L.tail (aHs t).1.length (aHs t).2).I,(aJb t.L.tail (aHs t).1.length (aHs t).2).L,(aJb t.L.tail (aHs t).1.length (aHs t).2).E⟩:cI)=aJb t.L.tail (aHs t).1.length (aHs t).2 from rfl]
  rw [aJx _ (aOS hv hf (by omega)),lJ,aLv (b:=decide ((aHs t).2.length<=300)) (by rw [decide_eq_true_iff];exact (foundT_ok hok h11 ⟨d5,h40⟩ d3 d4).symm)]
 ·rw [if_neg h40,if_neg h40]
theorem aJy (hv:nB t) (hf:aBo 999999999 t):kW t=some (detS t):=by
 obtain ⟨h1,h2,h3⟩:=aLc hv
 obtain ⟨hok,h11⟩:=aOh hv
 obtain ⟨hc,hst⟩:=aNG hv
 obtain ⟨d1,d2,d3,d4,d5⟩:=aLd hv
 obtain ⟨x1,x2⟩:=aOi hv hf
 unfold kW detS
 rw [h2,lJ,x1,lJ]
 by_cases hs:Small (aHs t)
 ·rw [if_pos hs,if_pos hs.1]
  simp only [decide_eq_true hs.2]
  rw [if_neg (by simp),aOI hok (by omega) d4,lJ]
  have hl:=lts_eq (st:=((aHs t).1.length:Int)) (ini:=0) (labels:=t.L) (M:=t.L.tail) (arcs:=(aHs t).2.map (aJc t.L.tail)) hst (fun s hs=>by rw [hc];simp [hs]) (by have:=hv.2.2.1.2.1;omega) (by simp;omega) (by rw [aNv hst (fun e he=>(d4 e he).2.1)];exact d3.imp aLb) (by omega)
  rw [aNv hst (fun e he=>(d4 e he).2.1),←hc] at hl
  rw [show (aJb t.L.tail (aHs t).1.length (aHs t).2).N=((aHs t).1.length:Int) from rfl,hl,lJ]
 ·rw [if_neg hs]
  by_cases h40:(aHs t).1.length<=40
  ·rw [if_pos h40]
   have:¬ (aHs t).2.length<=300:=fun h=>hs ⟨h40,h⟩
   simp only [decide_eq_false this]
   rw [if_pos (by simp)]
  ·rw [if_neg h40]
   simp only
   rw [if_pos (by simp)]
end
end Gv
namespace Gv
open Go
theorem aPZ (l:List aZ) (a:Nat) (ha:a<=l.length) (h:l.length < 1000000000):∃ z:aZ,loop (fun s:List aZ × Int=>aEE (a:Int) s.1 s.2) (l++[[]],(l.length:Int))=some (l.take a++z::l.drop a):=by
 have key:=aJt (step:=fun s:List aZ × Int=>aEE (a:Int) s.1 s.2) (fun s=>∃ (k:Nat) (z:aZ),s=(l.take k++z::l.drop k,(k:Int))/\a<=k/\k<=l.length) (fun s=>s.2.toNat)
  (fun x=>∃ z:aZ,x=l.take a++z::l.drop a) (fun s hI=>?_) (s:=(l++[[]],(l.length:Int))) ⟨l.length,[],by simp,ha,Nat.le_refl _⟩
 ·obtain ⟨r,h1,z,rfl⟩:=key
  exact ⟨z,h1⟩
 ·obtain ⟨k,z,rfl,hak,hk⟩:=hI
  simp only [aEE]
  have hlen:(l.take k++z::l.drop k).length=l.length+1:=by simp;omega
  by_cases h0:a < k
  ·have hk1:wr ((k:Int) - 1)=((k - 1:Nat):Int):=by rw [aHw (by omega) (by omega)];omega
   rw [decide_eq_true (p:=(a:Int) < (k:Int)) (by omega),if_pos rfl,hk1,aAM (xs:=l.take k++z::l.drop k) (k:=k - 1) (by omega),lJ,aAM (by omega),lJ,aJZ _ (by omega),lJ]
   left
   refine ⟨_,rfl,⟨k - 1,l[k - 1],?_,by omega,by omega⟩,by simp;omega⟩
   have e1:(l.take k++z::l.drop k)[k - 1]'(by omega)=l[k - 1]:=by
    rw [List.getElem_append_left (by simp;omega),List.getElem_take]
   rw [e1]
   have e2:(l.take k++z::l.drop k).set k l[k - 1]=l.take k++l[k - 1]::l.drop k:=by
    rw [List.set_append_right _ _ (by rw [List.length_take];omega)]
    simp [Nat.min_eq_left hk]
   have e3:l.take k=l.take (k - 1)++[l[k - 1]]:=by
    have:=List.take_add_one (l:=l) (i:=k - 1)
    rw [show k - 1+1=k by omega,List.getElem?_eq_getElem (by omega)] at this
    exact this
   have e4:l.drop (k - 1)=l[k - 1]::l.drop k:=by
    have:=List.drop_eq_getElem_cons (l:=l) (i:=k - 1) (by omega)
    rw [show k - 1+1=k by omega] at this
    exact this
   simp only [Prod.mk.injEq,and_true]
   rw [e2,e3,e4,List.append_assoc];rfl
  ·obtain rfl:k=a:=by omega
   right
   rw [decide_eq_false (p:=(k:Int) < (k:Int)) (by omega),if_neg (by simp)]
   exact ⟨_,rfl,z,rfl⟩
theorem join_find (l:List aZ) (e:aZ) (h1:1<=l.length) (h:l.length < 1000000000):∃ a:Nat,loop (fun s:Int=>aEF l e s) 1=some (a:Int)/\1<=a/\a<=l.length/\(∀ (j:Nat) x,1<=j->j < a->l[j]?=some x->qJ x e=true)/\(∀ x,l[a]?=some x->qJ x e=false):=by
 have key:=aJt (step:=fun s:Int=>aEF l e s) (fun s=>∃ a:Nat,s=(a:Int)/\1<=a/\a<=l.length/\∀ (j:Nat) x,1<=j->j < a->l[j]?=some x->qJ x e=true) (fun s=>l.length - s.toNat)
  (fun r=>∃ a:Nat,r=(a:Int)/\1<=a/\a<=l.length/\(∀ (j:Nat) x,1<=j->j < a->l[j]?=some x->qJ x e=true)/\(∀ x,l[a]?=some x->qJ x e=false)) (fun s hI=>?_) (s:=1) ⟨1,rfl,Nat.le_refl _,h1,fun j x g1 g2=>by omega⟩
 ·obtain ⟨r,hr,a,rfl,h2⟩:=key
  exact ⟨a,hr,h2⟩
 ·obtain ⟨a,rfl,ha1,ha,hall⟩:=hI
  by_cases hlt:a < l.length
  ·have hx:l[a]?=some l[a]:=List.getElem?_eq_getElem hlt
   simp only [aEF,aBK hlt,if_pos,aAM hlt,lJ,vZ]
   cases he:qJ l[a] e with
   |true=>
    left
    refine ⟨_,by rw [if_pos rfl,aAg hlt (by omega)],⟨a+1,rfl,by omega,by omega,fun j x g1 g2 hj=>?_⟩,by simp;omega⟩
    by_cases e1:j=a
    ·subst e1;rw [hx] at hj;cases hj;exact he
    ·exact hall j x g1 (by omega) hj
   |false=>
    right
    refine ⟨_,by rw [if_neg (by simp)],a,rfl,ha1,ha,hall,fun x hj=>?_⟩
    rw [hx] at hj;cases hj;exact he
  ·obtain rfl:a=l.length:=by omega
   right
   refine ⟨_,by simp only [aEF,aGf,vZ];rw [if_neg (by simp),if_neg (by simp)],_,rfl,ha1,Nat.le_refl _,hall,fun x hx=>?_⟩
   rw [List.getElem?_eq_none (Nat.le_refl _)] at hx;cases hx
theorem join_step (xs:List aZ) (M:List aZ) (hM:aBq M) (hl:M.length < 1000000) (hx:xs.length < 1000000) {k:Nat} (hk:k < xs.length):∃ M',aEG xs (nI::M) (k:Int)=some (.inl (nI::M',((k+1:Nat):Int)))/\aBq M'/\(∀ s,s∈M'<->s∈M\/(s=xs[k]/\s≠nI))/\M'.length<=M.length+1:=by
 have hw:=aAg hk (show xs.length < 4611686018427387904 by omega)
 simp only [aEG,aBK hk,if_pos,aAM hk,lJ,aKm (nI::M) xs[k] (by simp;omega),vW,hw]
 by_cases hm:xs[k]∈nI::M
 ·rw [if_pos (by simpa using aKf.2 hm)]
  refine ⟨M,rfl,hM,fun s=>⟨.inl,?_⟩,by omega⟩
  rintro (h|⟨rfl,h⟩)
  ·exact h
  ·rcases List.mem_cons.1 hm with h'|h'
   ·exact absurd h' h
   ·exact h'
 ·rw [if_neg (by have:¬ 0<=pos (nI::M) xs[k]:=fun h=>hm (aKf.1 h);simpa using this)]
  have hne:xs[k]≠nI:=fun h=>hm (by rw [h];simp)
  have hnm:xs[k]∉M:=fun h=>hm (by simp [h])
  obtain ⟨a,h1,h2,h3,h4,h5⟩:=join_find (nI::M) xs[k] (by simp) (by simp;omega)
  rw [h1,lJ]
  unfold vY
  rw [aGO (by simp [lim];omega),lJ]
  have hk1:wr ((((nI::M)++([([]:aZ)]:List aZ)).length:Int) - 1)=((nI::M).length:Int):=by
   simp only [List.length_append,List.length_cons,List.length_nil]
   rw [aHw (by omega) (by omega)];omega
  rw [hk1]
  obtain ⟨z,hz⟩:=aPZ (nI::M) a h3 (by simp;omega)
  rw [hz,lJ]
  unfold vX
  have hlen:((nI::M).take a++z::(nI::M).drop a).length=(nI::M).length+1:=by simp;omega
  rw [aAM (by omega),lJ,aJZ _ (by omega),lJ]
  have e2:((nI::M).take a++z::(nI::M).drop a).set a xs[k]=(nI::M).take a++xs[k]::(nI::M).drop a:=by
   rw [List.set_append_right _ _ (by rw [List.length_take];omega),List.length_take,Nat.min_eq_left h3,Nat.sub_self];rfl
  rw [e2]
  obtain ⟨b,rfl⟩:∃ b,a=b+1:=⟨a - 1,by omega⟩
  have h3':b<=M.length:=by simpa using h3
  have hbef:∀ x∈M.take b,qJ x xs[k]=true:=fun x hx=>by
   obtain ⟨j,hj,rfl⟩:=List.getElem_of_mem hx
   rw [List.length_take] at hj
   exact h4 (j+1) _ (by omega) (by omega) (by rw [List.getElem_take,List.getElem?_cons_succ];exact List.getElem?_eq_getElem (by omega))
  have haft:∀ x∈M.drop b,qJ xs[k] x=true:=fun x hx=>by
   obtain ⟨j,hj,rfl⟩:=List.getElem_of_mem hx
   rw [List.length_drop] at hj
   have hb:b < M.length:=by omega
   have g:qJ M[b] xs[k]=false:=h5 _ (by rw [List.getElem?_cons_succ];exact List.getElem?_eq_getElem hb)
   have g2:qJ xs[k] M[b]=true:=by
    rcases aFg xs[k] M[b] with t|t|t
    ·exact t
    ·exact absurd (t ▸ List.getElem_mem hb) hnm
    ·rw [g] at t;cases t
   rw [List.getElem_drop]
   by_cases j0:j=0
   ·subst j0;exact g2
   ·exact xN g2 (List.pairwise_iff_getElem.1 hM.1 b (b+j) hb (by omega) (by omega))
  refine ⟨M.take b++xs[k]::M.drop b,by unfold vW;rw [hw];rfl,⟨?_,fun h=>?_⟩,fun s=>?_,by simp;omega⟩
  ·have hs':(M.take b++M.drop b).Pairwise fun a b=>qJ a b=true:=by rw [List.take_append_drop];exact hM.1
   rw [List.pairwise_append] at hs'
   rw [List.pairwise_append,List.pairwise_cons]
   refine ⟨hs'.1,⟨haft,hs'.2.1⟩,fun x hx y hy=>?_⟩
   rcases List.mem_cons.1 hy with rfl|hy
   ·exact hbef x hx
   ·exact xN (hbef x hx) (haft y hy)
  ·rw [List.mem_append,List.mem_cons] at h
   rcases h with h|h|h
   ·exact hM.2 (List.mem_of_mem_take h)
   ·exact hne h.symm
   ·exact hM.2 (List.mem_of_mem_drop h)
  ·rw [List.mem_append,List.mem_cons]
   conv=>rhs;rw [←List.take_append_drop b M,List.mem_append]
   constructor
   ·rintro (g|g|g)
    ·simp [g]
    ·exact .inr ⟨g,g ▸ hne⟩
    ·simp [g]
   ·rintro ((g|g)|⟨g,_⟩)<;>simp [g]
theorem aMQ (xs:List aZ) (hx:xs.length < 1000000):∃ M,aFs xs=some (nI::M)/\aBq M/\(∀ s,s∈M<->s∈xs/\s≠nI)/\M.length<=xs.length:=by
 have key:=aIQ (step:=fun s:List aZ × Int=>aEG xs s.1 s.2) xs.length (fun k (M:List aZ)=>(nI::M,(k:Int))) (fun k M=>aBq M/\(∀ s,s∈M<->s∈xs.take k/\s≠nI)/\M.length<=k)
  (fun r=>∃ M,r=nI::M/\aBq M/\(∀ s,s∈M<->s∈xs/\s≠nI)/\M.length<=xs.length) (fun k M hk hI=>?_) (fun M hI=>?_) xs.length 0 [] (by omega) ⟨⟨by simp,by simp⟩,by simp,by simp⟩
 ·obtain ⟨r,h1,M,rfl,h2⟩:=key
  refine ⟨M,?_,h2⟩
  unfold aFs
  rw [show loop (fun s:List aZ × Int=>aEG xs s.1 s.2) ([[116,97,117]],0)=some (nI::M) from h1];rfl
 ·obtain ⟨i1,i2,i3⟩:=hI
  obtain ⟨M',g1,g2,g3,g4⟩:=join_step xs M i1 (by omega) hx hk
  refine ⟨M',g1,g2,fun s=>?_,by omega⟩
  rw [g3 s,i2 s,List.take_add_one,List.getElem?_eq_getElem hk,List.mem_append]
  simp only [Option.toList_some,List.mem_singleton]
  constructor
  ·rintro (⟨a,b⟩|⟨a,b⟩)
   ·exact ⟨.inl a,b⟩
   ·exact ⟨.inr a,b⟩
  ·rintro ⟨a|a,b⟩
   ·exact .inl ⟨a,b⟩
   ·exact .inr ⟨a,b⟩
 ·obtain ⟨i1,i2,i3⟩:=hI
  rw [List.take_length] at i2
  exact ⟨_,by simp only [aEG,aGf];rfl,M,rfl,i1,i2,i3⟩
theorem aOT {M M':List aZ} (h:aBq M) (h':aBq M') (hm:∀ s,s∈M<->s∈M'):M=M':=
 aHl (R:=fun a b=>qJ a b=true) (fun a h=>by rw [tF] at h;cases h) xN h.1 h'.1 hm
theorem aOj {A B:List Edge} (h:SE A) (h':SE B) (hm:∀ x,x∈A<->x∈B):A=B:=
 aHl (R:=fun a b=>lE a b=true) (fun a h=>by rw [aJn] at h;cases h) (fun h1 h2=>aJJ h1 h2) h h' hm
theorem make_gen {texts M:List aZ} {edges Eo:List Edge} (ht:texts.length < 1000000) (hM:aBq M) (hm:∀ s,s∈M<->s∈texts/\s≠nI) (hlen:edges.length < 1000000) (hin:∀ e∈edges,0<=e.B/\e.B < texts.length)
  (hEE:SE Eo) (he:∀ x,x∈Eo<->∃ e∈edges,x=⟨e.F,pos (nI::M) (texts.getD e.B.toNat []),e.To⟩) (st ini:Int):xL st ini texts edges=some ⟨st,ini,nI::M,Eo⟩:=by
 obtain ⟨M',j1,j2,j3,j4⟩:=aMQ texts ht
 obtain rfl:M'=M:=aOT j2 hM fun s=>(j3 s).trans (hm s).symm
 unfold xL
 rw [j1,lJ]
 have key:=aIQ (step:=fun s:List Edge × Int=>aEH texts edges (nI::M') s.1 s.2) edges.length (fun k (a:List Edge)=>(a,(k:Int))) (fun k a=>SE a/\(∀ x,x∈a<->∃ e∈edges.take k,x=⟨e.F,pos (nI::M') (texts.getD e.B.toNat []),e.To⟩)/\a.length<=k)
  (fun x=>x=Eo) (fun k a hk hI=>?_) (fun a hI=>?_) edges.length 0 [] (by omega) ⟨List.Pairwise.nil,by simp,by simp⟩
 ·obtain ⟨x,hx,hx2⟩:=key
  have hx':loop (fun s:List Edge × Int=>aEH texts edges (nI::M') s.1 s.2) (([]:List Edge),0)=some x:=hx
  rw [hx',lJ,hx2];rfl
 ·obtain ⟨hs,hmem,hl⟩:=hI
  have hi:=hin _ (List.getElem_mem hk)
  have hlt:edges[k].B.toNat < texts.length:=by omega
  have hgd:texts.getD edges[k].B.toNat []=texts[edges[k].B.toNat]:=by rw [List.getD_eq_getElem?_getD,List.getElem?_eq_getElem hlt];rfl
  simp only [aEH,aBK hk,if_pos,aAM hk,lJ]
  rw [aLi hi.1 hlt,lJ,aKm _ _ (by simp;omega),lJ,←hgd]
  obtain ⟨l',h1,h2,h3,h4⟩:=aNy a ⟨edges[k].F,pos (nI::M') (texts.getD edges[k].B.toNat []),edges[k].To⟩ (by omega) hs
  rw [h1,lJ]
  refine ⟨l',by rw [aAg hk (show edges.length < 4611686018427387904 by omega)],h2,fun x=>?_,by omega⟩
  rw [h3,hmem,List.take_add_one,List.getElem?_eq_getElem hk]
  simp only [Option.toList_some,List.mem_append,List.mem_singleton]
  constructor
  ·rintro (g|⟨e,g1,g2⟩)
   ·exact ⟨_,.inr rfl,g⟩
   ·exact ⟨e,.inl g1,g2⟩
  ·rintro ⟨e,g1|rfl,g2⟩
   ·exact .inr ⟨e,g1,g2⟩
   ·exact .inl g2
 ·obtain ⟨hs,hmem,hl⟩:=hI
  rw [List.take_length] at hmem
  exact ⟨a,by simp only [aEH,aGf];rfl,aOj hs hEE fun x=>(hmem x).trans (he x).symm⟩
theorem lts_gen {st ini:Int} {labels M:List aZ} {arcs:List oT} {Eo:List Edge} (hM:aBq M) (hm:∀ s,s∈M<->s∈labels/\s≠nI) (h1:labels.length < 1000000) (h2:arcs.length < 1000000)
  (hn:(arcs.map fun a=>(⟨a.from_,pos (nI::M) a.label,a.to_⟩:Edge)).Nodup) (hEE:SE Eo) (he:∀ x,x∈Eo<->x∈arcs.map fun a=>(⟨a.from_,pos (nI::M) a.label,a.to_⟩:Edge)) (h3:M.length < 1000000):
  aHO st ini labels arcs=some ⟨st,ini,nI::M,Eo⟩:=by
 unfold aHO
 rw [show ([116,97,117]:aZ)=nI from rfl,aGO (by simp [lim];omega),lJ]
 have e1:aCP ([nI]++labels)=some (srt uZ ([nI]++labels)):=by unfold aCP;rw [if_pos (by simp [lim];omega)]
 rw [e1,lJ,aKT _ (by unfold srt;rw [List.length_mergeSort];simp;omega),lJ]
 rw [aNu uZ aKB aLy aHP hM.lab (fun x=>?_)]
 ·rw [aKy (step:=fun s:List Edge × Int=>aII arcs (nI::M) s.1 s.2) arcs (fun a=>(⟨a.from_,pos (nI::M) a.label,a.to_⟩:Edge)) id (fun k out x hk ho hx=>?_) (fun out=>by simp only [aII,aGf];rfl),lJ]
  ·unfold aEV
   have hst:=aMG lE aJn aJJ aKV hn
   have e2:aDT (id (arcs.map fun a=>(⟨a.from_,pos (nI::M) a.label,a.to_⟩:Edge)))=some Eo:=by
    unfold aDT;rw [if_pos (by simp [lim];omega),id,aOj hst hEE fun x=>by unfold srt;rw [List.mem_mergeSort];exact (he x).symm]
   have hEl:Eo.length=arcs.length:=by
    rw [←aOj hst hEE fun x=>by unfold srt;rw [List.mem_mergeSort];exact (he x).symm]
    unfold srt;rw [List.length_mergeSort,List.length_map]
   rw [e2,lJ,aLA _ (by omega) hEE,lJ]
  ·simp only [aII,aBK hk,if_pos,hx,lJ,aLO _ _ (show (nI::M).length < 4611686018427387904 by simp;omega),aAg hk (show arcs.length < 4611686018427387904 by omega)]
   rw [aGO (by simp [lim];omega),lJ]
 ·by_cases e:x=nI
  ·subst e;simp
  ·simp [e,hm x]
end Gv
namespace Gv
open Go
structure Jn (a b:cI) (M:List aZ):Prop where
 str:aBq M
 mem:∀ s,s∈M<->s∈a.L++b.L/\s≠nI
 len:M.length<=24
def aJY (a:cI) (x:Int):List Edge:=a.E.filter fun e=>e.F == x
def inQ (a b:cI) (q:Int × Int):Prop:=(0<=q.1/\q.1 < a.N)/\0<=q.2/\q.2 < b.N
section
variable {a b:cI} {M:List aZ}
def atQ (F:List (Int × Int)) (i:Int):Int × Int:=F.getD i.toNat (0,0)
theorem atQ_mem {F:List (Int × Int)} {i:Int} (h0:0<=i) (h:i < F.length):atQ F i∈F:=by
 unfold atQ;rw [List.getD_eq_getElem?_getD,List.getElem?_eq_getElem (by omega)];exact List.getElem_mem _
theorem atQ_inj {F:List (Int × Int)} (hn:F.Nodup) {i j:Int} (hi:0<=i/\i < F.length) (hj:0<=j/\j < F.length) (h:atQ F i=atQ F j):i=j:=by
 unfold atQ at h
 rw [List.getD_eq_getElem?_getD,List.getElem?_eq_getElem (by omega),List.getD_eq_getElem?_getD,List.getElem?_eq_getElem (by omega)] at h
 simp only [Option.getD_some] at h
 have:=(List.getElem_inj hn).1 h
 omega
def Bnd (s:List (Int × Int) × List Edge):Prop:=∀ e∈s.2,(0<=e.F/\e.F < s.1.length)/\0<=e.To/\e.To < s.1.length
theorem Bnd.add {s:List (Int × Int) × List Edge} (h:Bnd s) {i:Nat} (hi:i < s.1.length) (x:Int × (Int × Int)):Bnd (aJL id (i:Int) s x):=by
 intro e he
 have hl:=(aKW (key:=id) s.1 x.2).length_le
 have ha:=atK_in (key:=id) s.1 x.2
 simp only [aJL] at he ⊢
 rcases List.mem_append.1 he with he|he
 ·have:=h e he;omega
 ·simp at he;subst he
  simp only;omega
def imE (g:Int × Int->Int) (F:List (Int × Int)) (E:List Edge):List Edge:=E.map fun e=>⟨g (atQ F e.F),e.B,g (atQ F e.To)⟩
theorem imE_nodup {g:Int × Int->Int} {F:List (Int × Int)} {E:List Edge} (hb:Bnd (F,E)) (hn:F.Nodup) (hg:∀ p∈F,∀ q∈F,g p=g q->p=q) (hE:E.Pairwise aKe):(imE g F E).Nodup:=by
 unfold imE List.Nodup
 rw [List.pairwise_map]
 refine hE.imp_of_mem ?_
 intro e f he hf h heq
 simp only [Edge.mk.injEq] at heq
 have h1:=hb e he
 have h2:=hb f hf
 simp only at h1 h2
 have:=atQ_inj hn h1.1 h2.1 (hg _ (atQ_mem h1.1.1 h1.1.2) _ (atQ_mem h2.1.1 h2.1.2) heq.1)
 unfold aKe at h
 omega
theorem aHR (p q:Int × Int):prLt p q=true<->p.1 < q.1\/(p.1=q.1/\p.2 < q.2):=by
 simp [prLt]
end
end Gv
namespace Gv
open Go
structure Shd (M sh:List aZ):Prop where
 len:sh.length<=1000
 mem:∀ s∈M,(aIP 40 s).1∈sh
def nm (b:cI) (q:Int × Int):Int:=q.1 * b.N+q.2
section
variable {a b:cI} {M sh:List aZ}
theorem nm_lt (hb:nB b) {p q:Int × Int} (hp:0<=p.2/\p.2 < b.N) (hq:0<=q.2/\q.2 < b.N):prLt p q=true<->nm b p < nm b q:=by
 have h2:=hb.1
 rw [aHR]
 unfold nm
 constructor
 ·rintro (h|⟨h,h'⟩)
  ·have:(p.1+1) * b.N<=q.1 * b.N:=Int.mul_le_mul_of_nonneg_right (by omega) (by omega)
   rw [Int.add_mul,Int.one_mul] at this
   omega
  ·rw [h];omega
 ·intro h
  rcases Int.lt_trichotomy p.1 q.1 with g|g|g
  ·exact .inl g
  ·right;rw [g] at h;omega
  ·exfalso
   have:(q.1+1) * b.N<=p.1 * b.N:=Int.mul_le_mul_of_nonneg_right (by omega) (by omega)
   rw [Int.add_mul,Int.one_mul] at this
   omega
theorem nm_inj (hb:nB b) {p q:Int × Int} (hp:0<=p.2/\p.2 < b.N) (hq:0<=q.2/\q.2 < b.N) (h:nm b p=nm b q):p=q:=by
 have h1:=nm_lt hb hp hq
 have h2:=nm_lt hb hq hp
 rw [aHR] at h1 h2
 obtain ⟨p1,p2⟩:=p
 obtain ⟨q1,q2⟩:=q
 simp only [Prod.mk.injEq] at *
 omega
end
end Gv
namespace Gv
open Go
section
variable {a b:cI} {M sh:List aZ}
structure Rf (b:cI) (s:List (Int × Int) × List Edge) (ed:List Edge):Prop where
 se:SE ed
 mem:∀ x,x∈ed<->x∈imE (nm b) s.1 s.2
theorem se_nodup {l:List Edge} (h:SE l):l.Nodup:=h.imp fun {x y} h e=>by subst e;rw [aJn] at h;cases h
theorem Rf.len (hb:nB b) {s:List (Int × Int) × List Edge} {ed:List Edge} (h:Rf b s ed) (hB:Bnd s) (hn:s.1.Nodup) (hq:∀ q∈s.1,inQ a b q) (hE:s.2.Pairwise aKe):ed.length=s.2.length:=by
 have h1:=imE_nodup (g:=nm b) hB hn (fun p hp q hq'=>nm_inj hb (hq p hp).2 (hq q hq').2) hE
 have:=((List.perm_ext_iff_of_nodup (se_nodup h.se) h1).2 h.mem).length_eq
 rw [this];unfold imE;simp
end
end Gv
namespace Gv
open Go
section
variable {a b:cI} {M sh:List aZ}
end
end Gv
namespace Gv
open Go
theorem aQa (x y:List aZ) (h:x.length+y.length<=1000000):fQ [x,y]=some (x++y):=by
 unfold fQ
 have h1:loop (fun s:Int × Int=>kF [x,y] s.1 s.2) (0,0)=some (((x.length+y.length:Nat):Int)):=by
  have a1:wr (0+(x.length:Int))=(x.length:Int):=by rw [aHw (by omega) (by omega)];omega
  have a2:wr ((x.length:Int)+(y.length:Int))=((x.length+y.length:Nat):Int):=by rw [aHw (by omega) (by omega)];omega
  have s0:kF [x,y] 0 0=some (.inl ((x.length:Int),1)):=by
   unfold kF gT
   rw [if_pos (by simp),show ix [x,y] 0=some x from rfl,lJ,a1,if_neg (by simp)];rfl
  have s1:kF [x,y] (x.length:Int) 1=some (.inl (((x.length+y.length:Nat):Int),2)):=by
   unfold kF gT
   rw [if_pos (by simp),show ix [x,y] 1=some y from rfl,lJ,a2,if_neg (by simp;omega)];rfl
  have s2:kF [x,y] ((x.length+y.length:Nat):Int) 2=some (.inr (((x.length+y.length:Nat):Int))):=by
   unfold kF
   rw [if_neg (by simp)]
  rw [aKn (step:=fun s:Int × Int=>kF [x,y] s.1 s.2) (s:=(0,0)) s0,aKn (step:=fun s:Int × Int=>kF [x,y] s.1 s.2) (s:=((x.length:Int),1)) s1,aJV (step:=fun s:Int × Int=>kF [x,y] s.1 s.2) (s:=(((x.length+y.length:Nat):Int),2)) s2]
 rw [h1,lJ]
 unfold eX aFm
 rw [if_pos ⟨rfl,by omega,by unfold lim;omega⟩,lJ]
 have s0:kE [x,y] [] 0=some (.inl (x,1)):=by
  unfold kE
  rw [if_pos (by simp),show ix [x,y] 0=some x from rfl,lJ,aGO (by simp [lim];omega),lJ];rfl
 have s1:kE [x,y] x 1=some (.inl (x++y,2)):=by
  unfold kE
  rw [if_pos (by simp),show ix [x,y] 1=some y from rfl,lJ,aGO (by unfold lim;omega),lJ];rfl
 have s2:kE [x,y] (x++y) 2=some (.inr (x++y)):=by
  unfold kE
  rw [if_neg (by simp)]
 rw [aKn (step:=fun s:List aZ × Int=>kE [x,y] s.1 s.2) (s:=([],0)) s0,aKn (step:=fun s:List aZ × Int=>kE [x,y] s.1 s.2) (s:=(x,1)) s1,aJV (step:=fun s:List aZ × Int=>kE [x,y] s.1 s.2) (s:=(x++y,2)) s2,lJ]
 rfl
def zm (F:List (Int × Int)):List ((Int × Int) × Int):=F.map fun q=>(q,0)
section
variable {a b:cI} {M:List aZ}
end
end Gv
namespace Gv
open Go
section
variable {a b:cI} {M:List aZ}
theorem jn_of {a b:cI} (ha:nB a) (hb:nB b):∃ M,aFs (a.L++b.L)=some (nI::M)/\Jn a b M/\Jn b a M:=by
 have h1:=ha.2.2.1.2.1
 have h2:=hb.2.2.1.2.1
 obtain ⟨M,j1,j2,j3,j4⟩:=aMQ (a.L++b.L) (by simp;omega)
 rw [List.length_append] at j4
 exact ⟨M,j1,⟨j2,j3,by omega⟩,⟨j2,fun s=>(j3 s).trans (by simp only [List.mem_append];exact ⟨fun h=>⟨h.1.symm,h.2⟩,fun h=>⟨h.1.symm,h.2⟩⟩),by omega⟩⟩
end
end Gv
