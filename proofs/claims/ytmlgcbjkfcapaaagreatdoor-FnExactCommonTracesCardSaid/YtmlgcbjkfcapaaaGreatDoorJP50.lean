/- Sets of states, as lists; sets closed under inner steps: the reference's and the program's. -/
import Derived.Test.YtmlgcbjkfcapaaaGreatDoorJP20
set_option linter.all false
namespace Gv
open Go
theorem aLg (s:List Int) (h:s.length < 1000000000):dY s=some (lJ s):=by
 unfold dY
 by_cases h2:s.length < 2
 ·rw [if_pos (by simp;omega)]
  rcases s with _|⟨a,_|⟨b,l⟩⟩
  ·rfl
  ·rfl
  ·simp at h2;omega
 rw [if_neg (by simp;omega)]
 have:=aHV (step:=fun k=>eC s k) s.length (fun k (_:Unit)=>(k:Int)) (fun k _=>1≤k∧lJ (s.take k)=s.take k) (fun r=>r=.inr (lJ s)∨(r=.inl ()∧lJ s=s)) (fun k a hk hI=>?_) (fun a hI=>?_) (s.length - 1) 1 () (by omega) ⟨Nat.le_refl _,?_⟩
 ·obtain ⟨r,hr,hR⟩:=this
  rw [show (1:Int)=((1:Nat):Int) from rfl,hr,aG]
  rcases hR with rfl|⟨rfl,h⟩
  ·rfl
  ·rw [h];rfl
 ·obtain ⟨i1,i2⟩:=hI
  have hk1:wr ((k:Int) - 1)=((k - 1:Nat):Int):=by rw [iV (by omega) (by omega)];omega
  have hdt:=aEH (s:=s) (m:=k) i1 hk
  simp only [eC,cS hk,if_pos,cZ hk,aG,hk1,cZ (xs:=s) (k:=k - 1) (by omega),gM,cH hk (show s.length < 4611686018427387904 by omega)]
  by_cases e:s[k]=s[k - 1]'(by omega)
  ·right
   rw [if_pos e.symm,i2] at hdt
   rw [if_pos (by simpa using e),aCx (by omega),aG]
   obtain ⟨s',w,hl,g1,g2,g3⟩:=aEn (step:=fun x:List Int × Int × Int=>eB (k:Int) (s.drop k) x.1 x.2.1 x.2.2) s k i1 hk hdt (fun j w s' x y j1 j2 j3 j4 hx hy=>by
    have hl:(s.drop k).length=s.length - k:=by simp
    have a1:(k:Int)+(j:Int)=((k+j:Nat):Int):=by omega
    have a2:wr ((j:Int) - 1)=((j - 1:Nat):Int):=by rw [iV (by omega) (by omega)];omega
    have a3:(k:Int)+((j - 1:Nat):Int)=((k+j - 1:Nat):Int):=by omega
    simp only [eB,hl,cS (show j < s.length - k by omega),if_pos,cZ (xs:=s.drop k) (k:=j) (by omega),aG,a1,rI,hx,a2,List.getElem?_eq_getElem (show j - 1 < (s.drop k).length by omega),a3,hy,fF,cH (show j < s.length - k by omega) (by omega),List.getElem?_eq_getElem (show w < s'.length by omega),wF (xs:=s') (k:=w) _ (by omega),cH j4 (show s.length < 4611686018427387904 by omega)]
    by_cases e:x=y<;>simp [e]) (fun s' w=>by
     have hl:(s.drop k).length=s.length - k:=by simp
     simp only [eB,hl,dJ];rfl)
   rw [hl,aG]
   unfold fE
   simp only
   rw [aCx (by omega),aG,aHU _ (by omega),aG,slc_to (by simp;omega),aG]
   refine ⟨_,rfl,.inl ?_⟩
   rw [List.take_append_of_le_length (by simp;omega),List.take_take,Nat.min_self,g3]
  ·left
   rw [if_neg (by simpa using e)]
   refine ⟨(),rfl,by omega,?_⟩
   rw [hdt,if_neg (fun h=>e h.symm),i2,List.take_add_one]
   simp [hk]
 ·refine ⟨_,by simp only [eC,dJ];rfl,.inr ⟨rfl,?_⟩⟩
  have:=hI.2
  rwa [List.take_of_length_le (by omega)] at this
 ·rcases s with _|⟨a,l⟩
  ·rfl
  ·rfl
structure sJ (xs:List Int) (X:Int→Prop):Prop where
 ord:xs.Pairwise (· < ·)
 mem:∀ q,q∈xs↔X q
theorem sJ.eq {xs ys:List Int} {X:Int→Prop} (a:sJ xs X) (b:sJ ys X):xs=ys:=
 yJ (R:=fun a b:Int=>a < b) (fun a=>Int.lt_irrefl a) (fun h1 h2=>Int.lt_trans h1 h2) a.ord b.ord fun q=>(a.mem q).trans (b.mem q).symm
theorem sJ.iff {xs:List Int} {X Y:Int→Prop} (a:sJ xs X) (h:∀ q,X q↔Y q):sJ xs Y:=⟨a.ord,fun q=>(a.mem q).trans (h q)⟩
theorem sJ.len {xs:List Int} {X:Int→Prop} (a:sJ xs X) {n:Nat} (h:∀ q,X q→0≤q∧q < n):xs.length≤n:=by
 have hn:xs.Nodup:=a.ord.imp fun h=>by omega
 have:=List.Nodup.length_le_of_subset (l₂:=(List.range n).map Int.ofNat) hn (fun x hx=>by
  have:=h x ((a.mem x).1 hx)
  rw [List.mem_map]
  exact ⟨x.toNat,by rw [List.mem_range];omega,by show ((x.toNat:Nat):Int)=x;omega⟩)
 simpa using this
theorem aLh {n:Nat} (f:Nat→Bool) {X:Int→Prop} (h:∀ i:Nat,i < n→(f i=true↔X (i:Int))) (h':∀ q,X q→0≤q∧q < n):sJ (((List.range n).filter f).map Int.ofNat) X:=by
 refine ⟨?_,fun q=>?_⟩
 ·rw [List.pairwise_map]
  refine (List.Pairwise.filter _ List.pairwise_lt_range).imp fun {a b} hab=>?_
  show ((a:Nat):Int) < (b:Nat);omega
 ·rw [List.mem_map]
  constructor
  ·rintro ⟨i,hi,rfl⟩
   rw [List.mem_filter,List.mem_range] at hi
   exact (h i hi.1).1 hi.2
  ·intro hq
   have:=h' q hq
   refine ⟨q.toNat,?_,by show ((q.toNat:Nat):Int)=q;omega⟩
   rw [List.mem_filter,List.mem_range]
   refine ⟨by omega,(h _ (by omega)).2 ?_⟩
   rw [show ((q.toNat:Nat):Int)=q by omega];exact hq
def iLt (a b:Int):Bool:=decide (a < b)
theorem lists_srt {xs:List Int}:sJ (lJ (srt iLt xs)) (fun q=>q∈xs):=by
 have h1:(srt iLt xs).Pairwise fun a b=>a≤b:=by
  have:=List.pairwise_mergeSort (le:=fun a b=>!iLt b a) (fun a b c h1 h2=>by unfold iLt at *;simp at *;omega) (fun a b=>by unfold iLt;simp;omega) xs
  refine this.imp fun {a b} h=>?_
  unfold iLt at h;simpa using h
 refine ⟨aEG (R:=fun a b:Int=>a≤b) (S:=fun a b:Int=>a < b) (fun h hne=>by omega) (fun h h'=>by omega) h1,fun q=>?_⟩
 rw [aDW];unfold srt;rw [List.mem_mergeSort]
theorem aMk {xs:List Int} (hn:xs.Nodup):sJ (srt iLt xs) (fun q=>q∈xs):=by
 refine ⟨(aGB iLt (fun a=>by simp [iLt]) (fun {a b c} h1 h2=>by unfold iLt at *;simp at *;omega) (fun a b=>by unfold iLt;simp;omega) hn).imp fun h=>by unfold iLt at h;simpa using h,fun q=>?_⟩
 unfold srt;rw [List.mem_mergeSort]
theorem aFn {xs:List Int} (h:xs.length < 1000000000):vW xs=some (srt iLt xs):=by
 unfold vW;rw [if_pos (by unfold jK;omega)];rfl
inductive Cl (t:cN) (X:Int→Prop):Int→Prop
 |base {q:Int}:X q→Cl t X q
 |step {e:Edge}:e∈t.E→e.B=0→Cl t X e.F→Cl t X e.To
section
variable {t:cN} {X:Int→Prop}
theorem tT (hv:cU t) {e:Edge} (he:e∈t.E):(0≤e.F∧e.F < t.N)∧(0≤e.To∧e.To < t.N)∧0≤e.B∧e.B < t.L.length:=by
 have h:=nW hv he
 unfold tS at h
 omega
theorem Cl.inn (hv:cU t) (h0:∀ q,X q→0≤q∧q < t.N) {q:Int} (h:Cl t X q):0≤q∧q < t.N:=by
 induction h with
 |base h=>exact h0 _ h
 |step he _ _ _=>have:=(tT hv he).2.1;omega
theorem Cl.congr {Y:Int→Prop} (h:∀ q,X q→Y q) {q:Int} (hc:Cl t X q):Cl t Y q:=by
 induction hc with
 |base hx=>exact .base (h _ hx)
 |step a b _ ih=>exact .step a b ih
theorem Cl.iff {Y:Int→Prop} (h:∀ q,X q↔Y q) (q:Int):Cl t X q↔Cl t Y q:=⟨Cl.congr fun q=>(h q).1,Cl.congr fun q=>(h q).2⟩
theorem close_eq (hv:cU t) {m:List Bool} (hm:m.length=t.N.toNat) (hX:∀ i:Nat,on m i↔X (i:Int)):
  ∃ m',vL t m=some m'∧m'.length=t.N.toNat∧∀ i:Nat,on m' i↔Cl t X (i:Int):=by
 have h300:=hv.2.2.2.1
 have hE:=fun k (hk:k < t.E.length)=>tT hv (List.getElem_mem hk)
 have hsat:=sat_edges (ed:=t.E) (n:=t.N.toNat) (fun e=>e.B == 0) (fun e=>e.F.toNat) (fun e=>e.To.toNat)
  (inner:=fun s=>qS t s.1 s.2.1 s.2.2) (outer:=fun s=>oA t s.1 s.2) (fun k hk m ag hml=>?_) (fun m ag=>by simp only [qS,dJ];rfl) (fun m _=>?_) (fun m=>by simp [oA])
  (fun e he=>by have:=(tT hv he).2.1;omega) (fun i=>Cl t X (i:Int)) hm (fun i hi=>.base ((hX i).1 hi)) (fun e he hc hp=>?_)
 ·obtain ⟨m',h1,h2,h3⟩:=hsat
  refine ⟨m',?_,h2.len,fun i=>⟨h2.ok i,fun hc=>?_⟩⟩
  ·unfold vL
   rw [show loop (fun s:List Bool × Bool=>oA t s.1 s.2) (m,true)=some m' from h1];rfl
  ·generalize hj:(i:Int)=j at hc
   induction hc generalizing i with
   |base hx=>subst hj;exact h2.has _ ((hX i).2 hx)
   |@step e he hl hc ih=>
    have hin:=tT hv he
    have h5:=h3 e he (by simpa using hl) (ih e.F.toNat (by omega))
    rwa [show i=e.To.toNat by omega]
 ·have hin:=hE k hk
  have i1:=aFk (m:=m) (q:=t.E[k].F) hin.1.1 (by omega)
  have i2:=aFk (m:=m) (q:=t.E[k].To) hin.2.1.1 (by omega)
  have hs:st m t.E[k].To true=some (m.set t.E[k].To.toNat true):=by
   have:=wF (xs:=m) (k:=t.E[k].To.toNat) true (by omega)
   rwa [show ((t.E[k].To.toNat:Nat):Int)=t.E[k].To by omega] at this
  simp only [qS,cS hk,if_pos,cZ hk,aG,qR,uG,cH hk (show t.E.length < 4611686018427387904 by omega),i1,i2,hs]
  cases t.E[k].B == 0<;>cases m.getD t.E[k].F.toNat false<;>cases m.getD t.E[k].To.toNat false<;>rfl
 ·simp only [oA,if_pos,uF,yW]
 ·have hin:=tT hv he
  have hl:e.B=0:=by simpa using hc
  rw [show ((e.To.toNat:Nat):Int)=e.To by omega]
  rw [show ((e.F.toNat:Nat):Int)=e.F by omega] at hp
  exact .step he hl hp
theorem list_eq {m:List Bool} (hm:m.length < 1000000):yE m=some (((List.range m.length).filter fun i=>m.getD i false).map Int.ofNat):=by
 unfold yE
 rw [filt_list (step:=fun s:List Int × Int=>sU m s.1 s.2) hm (fun i=>m.getD i false) (fun k out hk ho=>?_) (fun out=>by simp only [sU,dJ];rfl),aG]
 ·rfl
 ·have i1:=aFk (m:=m) (q:=(k:Int)) (by omega) (by omega)
  rw [Int.toNat_natCast] at i1
  simp only [sU,cS hk,if_pos,i1,aG,wY,cH hk (show m.length < 4611686018427387904 by omega)]
  rw [eN (by simp [jK];omega),aG]
  cases m.getD k false<;>rfl
theorem aHZ (hv:cU t) (h0:∀ q,X q→0≤q∧q < t.N) {m:List Bool} (hm:m.length=t.N.toNat) (hX:∀ i:Nat,on m i↔X (i:Int)):
  ∃ m' R,vL t m=some m'∧yE m'=some R∧sJ R (Cl t X):=by
 have h40:=hv.1
 obtain ⟨m',h1,h2,h3⟩:=close_eq hv hm hX
 refine ⟨m',_,h1,list_eq (by omega),aLh _ (fun i _=>by rw [aLH];exact h3 i) fun q hq=>?_⟩
 have:=hq.inn hv h0
 omega
theorem first_eq (hv:cU t):∃ R,rV t=some R∧sJ R (Cl t fun q=>q=t.I):=by
 have h40:=hv.1
 have hin:=hv.2.1
 have hmk:aBk t [t.I]=some ((List.replicate t.N.toNat false).set t.I.toNat true):=by
  unfold aBk
  have:=aCQ (n:=t.N.toNat) false (by unfold jK;omega)
  rw [show ((t.N.toNat:Nat):Int)=t.N by omega] at this
  rw [this,aG,dL]
  have i0:ix [t.I] 0=some t.I:=rfl
  have i1:=aFk (m:=List.replicate t.N.toNat false) (q:=t.I) hin.1 (by simp;omega)
  have i2:st (List.replicate t.N.toNat false) t.I true=some ((List.replicate t.N.toNat false).set t.I.toNat true):=by
   have:=wF (xs:=List.replicate t.N.toNat false) (k:=t.I.toNat) true (by simp;omega)
   rwa [show ((t.I.toNat:Nat):Int)=t.I by omega] at this
  simp only [uE,List.length_singleton,i0,aG,i1,i2]
  rw [if_pos (by simp)]
  simp only
  rw [dL]
  simp only [uE,List.length_singleton]
  rw [if_neg (by simp [wr])]
  rfl
 obtain ⟨m',R,h1,h2,h3⟩:=aHZ (X:=fun q=>q=t.I) hv (fun q hq=>by omega) (m:=(List.replicate t.N.toNat false).set t.I.toNat true) (by simp) (fun i=>by
  rw [aLI (by simp;omega),on_rep]
  split
  ·rename_i h;simp;omega
  ·rename_i h;simp;omega)
 refine ⟨R,?_,h3⟩
 unfold rV
 rw [hmk,aG,h1,aG,h2];rfl
def Aft (t:cN) (S:List Int) (k:Int) (q:Int):Prop:=∃ e∈t.E,e.B=k∧e.F∈S∧e.To=q
theorem Aft.inn (hv:cU t) {S:List Int} {k q:Int} (h:Aft t S k q):0≤q∧q < t.N:=by
 obtain ⟨e,he,_,_,rfl⟩:=h
 have:=(tT hv he).2.1;omega
theorem aLi (hv:cU t) {S:List Int} (hS:S.length < 1000000000) (k:Int):∃ R,wB t S k=some R∧sJ R (Cl t (Aft t S k)):=by
 have h40:=hv.1
 have h300:=hv.2.2.2.1
 have hloop:=nF (step:=fun s:List Bool × Int=>pM t S k s.1 s.2) t.E (fun j m=>(m,(j:Int)))
  (fun l m=>l.foldl (fun m e=>if (e.B == k&&S.any fun x=>e.F == x)=true then m.set e.To.toNat true else m) m) (fun _ m=>m.length=t.N.toNat) (fun j m e l hj he hI=>?_) (fun m _=>by simp only [pM,dJ];rfl) (a:=List.replicate t.N.toNat false) (by simp)
 ·have hf:∀ (l:List Edge) (m:List Bool),m.length=t.N.toNat→(∀ e∈l,e∈t.E)→(l.foldl (fun m e=>if (e.B == k&&S.any fun x=>e.F == x)=true then m.set e.To.toNat true else m) m).length=t.N.toNat∧
    ∀ i:Nat,on (l.foldl (fun m e=>if (e.B == k&&S.any fun x=>e.F == x)=true then m.set e.To.toNat true else m) m) i↔on m i∨∃ e∈l,e.B=k∧e.F∈S∧e.To=(i:Int):=by
   intro l
   induction l with
   |nil=>intro m hm _;exact ⟨hm,fun i=>by simp⟩
   |cons e l ih=>
    intro m hm hl
    have hin:=tT hv (hl e (by simp))
    have hc:((e.B == k&&S.any fun x=>e.F == x)=true)↔(e.B=k∧e.F∈S):=by
     rw [Bool.and_eq_true,beq_iff_eq,List.any_eq_true]
     constructor
     ·rintro ⟨a,x,hx,hb⟩
      rw [beq_iff_eq] at hb
      exact ⟨a,hb ▸ hx⟩
     ·rintro ⟨a,b⟩
      exact ⟨a,_,b,by simp⟩
    rw [List.foldl_cons]
    obtain ⟨g1,g2⟩:=ih (if (e.B == k&&S.any fun x=>e.F == x)=true then m.set e.To.toNat true else m) (by split<;>simp [hm]) (fun x hx=>hl x (by simp [hx]))
    refine ⟨g1,fun i=>?_⟩
    rw [g2 i]
    simp only [List.mem_cons,exists_eq_or_imp]
    by_cases h:(e.B == k&&S.any fun x=>e.F == x)=true
    ·rw [if_pos h,aLI (by omega)]
     have h':=hc.1 h
     by_cases hi:i=e.To.toNat
     ·simp only [hi,if_pos,true_or,true_iff]
      exact .inr (.inl ⟨h'.1,h'.2,by omega⟩)
     ·rw [if_neg hi]
      constructor
      ·rintro (a|b)
       ·exact .inl a
       ·exact .inr (.inr b)
      ·rintro (a|⟨_,_,b⟩|b)
       ·exact .inl a
       ·omega
       ·exact .inr b
    ·rw [if_neg h]
     rw [hc] at h
     constructor
     ·rintro (a|b)
      ·exact .inl a
      ·exact .inr (.inr b)
     ·rintro (a|⟨b,c,_⟩|b)
      ·exact .inl a
      ·exact absurd ⟨b,c⟩ h
      ·exact .inr b
  obtain ⟨g1,g2⟩:=hf t.E (List.replicate t.N.toNat false) (by simp) (fun _ he=>he)
  obtain ⟨m',R,h1,h2,h3⟩:=aHZ (X:=Aft t S k) hv (fun q hq=>hq.inn hv) g1 (fun i=>by rw [g2 i,on_rep];simp [Aft])
  refine ⟨R,?_,h3⟩
  unfold wB
  have:=aCQ (n:=t.N.toNat) false (by unfold jK;omega)
  rw [show ((t.N.toNat:Nat):Int)=t.N by omega] at this
  rw [this,aG,show loop (fun s:List Bool × Int=>pM t S k s.1 s.2) (List.replicate t.N.toNat false,0)=_ from hloop,aG]
  unfold wZ
  rw [h1,aG,h2];rfl
 ·left
  obtain ⟨hj',rfl⟩:=aAq he
  have hin:=tT hv (List.getElem_mem hj')
  have hI':m.length=t.N.toNat:=hI
  have i2:=aFk (m:=m) (q:=t.E[j].To) hin.2.1.1 (by omega)
  have hs:st m t.E[j].To true=some (m.set t.E[j].To.toNat true):=by
   have:=wF (xs:=m) (k:=t.E[j].To.toNat) true (by omega)
   rwa [show ((t.E[j].To.toNat:Nat):Int)=t.E[j].To by omega] at this
  simp only [pM,cS hj,if_pos,he,aG,l00Has_eq S _ hS,xB,xA,cH hj (show t.E.length < 4611686018427387904 by omega),i2,hs]
  rw [List.foldl_cons]
  cases t.E[j].B == k<;>cases (S.any fun x=>t.E[j].F == x)<;>first|exact ⟨m,rfl,hI',rfl⟩|exact ⟨_,rfl,by simpa using hI',rfl⟩
end
end Gv
namespace Gv
open Go
def aDh (o:List Int) (x:Int):List Int:=if x∈o then o else o++[x]
theorem aJg:∀ (l o:List Int),o.Nodup→o <+:l.foldl aDh o∧(l.foldl aDh o).Nodup∧(∀ q,q∈l.foldl aDh o↔q∈o∨q∈l)∧(l.foldl aDh o).length≤o.length+l.length
 |[],o,h=>⟨List.prefix_refl _,h,fun q=>by simp,by simp⟩
 |x::l,o,h=>by
  have h':(aDh o x).Nodup:=by
   unfold aDh
   split
   ·exact h
   ·rename_i hx
    rw [List.nodup_append]
    refine ⟨h,by simp,fun a ha b hb=>?_⟩
    simp at hb;subst hb
    exact fun e=>hx (e ▸ ha)
  obtain ⟨g1,g2,g3,g4⟩:=aJg l (aDh o x) h'
  have hp:o <+:aDh o x:=by
   unfold aDh;split
   ·exact List.prefix_refl _
   ·exact List.prefix_append _ _
  have hm:∀ q,q∈aDh o x↔q∈o∨q=x:=fun q=>by
   unfold aDh;split
   ·rename_i hx
    constructor
    ·exact .inl
    ·rintro (h|rfl)
     ·exact h
     ·exact hx
   ·simp
  refine ⟨hp.trans g1,g2,fun q=>?_,?_⟩
  ·rw [List.foldl_cons,g3 q,hm q,List.mem_cons,or_assoc]
  ·rw [List.foldl_cons]
   have:(aDh o x).length≤o.length+1:=by unfold aDh;split<;>simp
   rw [List.length_cons];omega
theorem labs_any' {xs:List Int} {s:Int}:(xs.any fun x=>s == x)=decide (s∈xs):=by
 rw [Bool.eq_iff_iff,List.any_eq_true,decide_eq_true_iff]
 constructor
 ·rintro ⟨x,hx,h⟩
  rw [beq_iff_eq] at h
  exact h ▸ hx
 ·intro h;exact ⟨s,h,by simp⟩
section
variable {t:cN}
theorem aIa (hv:cU t) {S:List Int} (hS:S.length < 1000000000) {k:Nat} (hk:k < t.L.length):∃ R,kN t S t.L[k]=some R∧sJ R (Aft t S (k:Int)):=by
 have h300:=hv.2.2.2.1
 have hl:((t.E.filter fun e=>tJ t e == t.L[k]&&S.any fun x=>e.F == x).map (·.To)).length≤300:=by
  rw [List.length_map];exact Nat.le_trans (List.length_filter_le _ _) h300
 refine ⟨lJ (srt iLt ((t.E.filter fun e=>tJ t e == t.L[k]&&S.any fun x=>e.F == x).map (·.To))),?_,lists_srt.iff fun q=>?_⟩
 ·unfold kN
  rw [wI (step:=fun x:List Int × Int=>jF t S t.L[k] x.1 x.2) t.E (fun e=>tJ t e == t.L[k]&&S.any fun x=>e.F == x) (·.To) id (fun j out x hj ho hx=>?_) (fun out=>by simp only [jF,dJ];rfl),aG]
  ·unfold nA
   simp only [id]
   rw [aFn (by omega),aG,aLg _ (by unfold srt;rw [List.length_mergeSort];omega),aG]
  ·obtain ⟨hj',rfl⟩:=aAq hx
   simp only [jF,cS hj,if_pos,hx,aG,sI (nW hv (List.getElem_mem hj')),aCT S _ (show S.length < 4611686018427387904 by omega),nC,nB,cH hj (show t.E.length < 4611686018427387904 by omega)]
   rw [eN (by simp [jK];omega),aG]
   cases tJ t t.E[j] == t.L[k]<;>cases (S.any fun x=>t.E[j].F == x)<;>rfl
 ·rw [List.mem_map]
  constructor
  ·rintro ⟨e,he,rfl⟩
   rw [List.mem_filter,Bool.and_eq_true,List.any_eq_true] at he
   obtain ⟨h1,h2,x,hx,h3⟩:=he
   rw [aJf hv h1 (List.getElem_mem hk),aMj hv.2.2.1 hk,beq_iff_eq] at h2
   rw [beq_iff_eq] at h3
   exact ⟨e,h1,h2,h3 ▸ hx,rfl⟩
  ·rintro ⟨e,h1,h2,h3,rfl⟩
   refine ⟨e,?_,rfl⟩
   rw [List.mem_filter,Bool.and_eq_true,List.any_eq_true,aJf hv h1 (List.getElem_mem hk),aMj hv.2.2.1 hk,beq_iff_eq]
   exact ⟨h1,h2,_,h3,by simp⟩
theorem tau_at (hv:cU t):∃ h:0 < t.L.length,t.L[0]=cE:=⟨by have:=hv.2.2.1.1;omega,hv.2.2.1.2.2.1 _⟩
theorem aFo (hv:cU t) {xs:List Int} (hn:xs.Nodup) (h0:∀ q∈xs,0≤q∧q < t.N):∃ R,kY t xs=some R∧sJ R (Cl t (·∈xs)):=by
 have h40:=hv.1
 have hlen:∀ {o:List Int},o.Nodup→(∀ q∈o,Cl t (·∈xs) q)→o.length≤40:=fun {o} h1 h2=>by
  have:=List.Nodup.length_le_of_subset (l₂:=(List.range 40).map Int.ofNat) h1 (fun x hx=>by
   have:=(h2 x hx).inn hv h0
   rw [List.mem_map]
   exact ⟨x.toNat,by rw [List.mem_range];omega,by show ((x.toNat:Nat):Int)=x;omega⟩)
  simpa using this
 have hx0:=hlen hn fun q hq=>.base hq
 have hloop:=zF (step:=fun s:List Int × Int=>lL t s.1 s.2)
  (fun s=>∃ k:Nat,s.2=(k:Int)∧k≤s.1.length∧s.1.Nodup∧(∀ q∈xs,q∈s.1)∧(∀ q∈s.1,Cl t (·∈xs) q)∧∀ j,(hj:j < s.1.length)→j < k→∀ e∈t.E,e.B=0→e.F=s.1[j]→e.To∈s.1)
  (fun s=>41 - s.2.toNat) (fun r=>r.Nodup∧r.length≤40∧∀ q,q∈r↔Cl t (·∈xs) q) (fun s hI=>?_) (s:=(xs,0)) ⟨0,rfl,Nat.zero_le _,hn,fun _ h=>h,fun q hq=>.base hq,fun j _ h=>by omega⟩
 ·obtain ⟨r,h1,h2,h3,h4⟩:=hloop
  refine ⟨srt iLt r,?_,(aMk h2).iff h4⟩
  unfold kY iU
  rw [eN (by simp [jK];omega),aG,List.nil_append,aG,h1,aG]
  unfold nL
  rw [aFn (by omega)];rfl
 ·obtain ⟨o,i⟩:=s
  obtain ⟨k,rfl,hk,hnd,hsub,hcl,hdone⟩:=hI
  simp only at hk hnd hsub hcl hdone
  have ho:=hlen hnd hcl
  by_cases hlt:k < o.length
  ·left
   obtain ⟨ht0,ht⟩:=tau_at hv
   obtain ⟨R,hf,hR⟩:=aIa hv (S:=[o[k]]) (by simp) ht0
   rw [ht] at hf
   have hRl:R.length≤40:=hR.len (n:=40) fun q hq=>by have:=hq.inn hv;omega
   have hin:=nF (step:=fun s:List Int × Int=>jT R s.1 s.2) R (fun j a=>(a,(j:Int))) (fun l a=>l.foldl aDh a) (fun j a=>a.length≤40+j) (fun j a x l hj hx hI=>?_) (fun a _=>by simp only [jT,dJ];rfl) (a:=o) ho
   ·obtain ⟨g1,g2,g3,g4⟩:=aJg R o hnd
    have hcl':∀ q∈R.foldl aDh o,Cl t (·∈xs) q:=fun q hq=>by
     rcases (g3 q).1 hq with h|h
     ·exact hcl q h
     ·obtain ⟨e,he,hl,hfr,rfl⟩:=(hR.mem q).1 h
      simp only [List.mem_singleton] at hfr
      exact .step he (by simpa using hl) (hfr ▸ hcl _ (List.getElem_mem hlt))
    refine ⟨(R.foldl aDh o,((k+1:Nat):Int)),?_,⟨k+1,rfl,Nat.le_trans hlt g1.length_le,g2,fun q hq=>(g3 q).2 (.inl (hsub q hq)),hcl',fun j hj hjk e he hl hfr=>?_⟩,by simp only;omega⟩
    ·simp only [lL,cS hlt,if_pos,cZ hlt,aG]
     rw [show ([116,97,117]:bB)=cE from rfl,hf,aG,show loop (fun s:List Int × Int=>jT R s.1 s.2) (o,0)=_ from hin,aG]
     simp only [nM,rD,cH hlt (show o.length < 4611686018427387904 by omega)]
    ·simp only at hj hfr ⊢
     have hjo:j < o.length:=by omega
     have e1:(R.foldl aDh o)[j]=o[j]:=(g1.getElem hjo).symm
     rw [e1] at hfr
     rw [g3]
     by_cases hjk':j < k
     ·exact .inl (hdone j hjo hjk' e he hl hfr)
     ·obtain rfl:j=k:=by omega
      exact .inr ((hR.mem _).2 ⟨e,he,by simpa using hl,by simp [hfr],rfl⟩)
   ·left
    have hI':a.length≤40+j:=hI
    simp only [jT,cS hj,if_pos,hx,aG,aCT a _ (show a.length < 4611686018427387904 by omega),nN,cH hj (show R.length < 4611686018427387904 by omega)]
    rw [labs_any',eN (by simp [jK];omega),aG,List.foldl_cons]
    unfold aDh
    by_cases hm:x∈a
    ·rw [if_pos hm];exact ⟨a,by simp [hm],by omega,rfl⟩
    ·rw [if_neg hm];exact ⟨a++[x],by simp [hm],by simp;omega,rfl⟩
  ·right
   obtain rfl:k=o.length:=by omega
   refine ⟨o,by simp only [lL,dJ];rfl,hnd,ho,fun q=>⟨hcl q,fun hc=>?_⟩⟩
   induction hc with
   |base hx=>exact hsub _ hx
   |@step e he hl hc ih=>
    obtain ⟨j,hj,e1⟩:=List.mem_iff_getElem.1 ih
    exact hdone j hj hj e he hl e1.symm
def Vis (t:cN) (S:List Int) (k:Int):Int→Prop:=Cl t (Aft t S k)
theorem aLj (hv:cU t) {S:List Int} (hS:S.length < 1000000000) {k:Nat} (hk:k < t.L.length):∃ R,uP t S t.L[k]=some R∧wB t S (k:Int)=some R∧sJ R (Vis t S (k:Int)):=by
 obtain ⟨R1,f1,f2⟩:=aIa hv hS hk
 have hn:R1.Nodup:=f2.ord.imp fun h=>by omega
 obtain ⟨R,g1,g2⟩:=aFo hv hn fun q hq=>((f2.mem q).1 hq).inn hv
 obtain ⟨R',n1,n2⟩:=aLi hv hS (k:Int)
 have e:R=R':=(g2.iff (Cl.iff f2.mem)).eq n2
 subst e
 refine ⟨R,?_,n1,n2⟩
 unfold uP
 rw [f1,aG,g1];rfl
theorem first_set (hv:cU t):∃ R,kY t [t.I]=some R∧rV t=some R∧sJ R (Cl t fun q=>q=t.I):=by
 have hin:=hv.2.1
 obtain ⟨R,g1,g2⟩:=aFo hv (xs:=[t.I]) (by simp) fun q hq=>by simp at hq;omega
 obtain ⟨R',n1,n2⟩:=first_eq hv
 have e:R=R':=(g2.iff (Cl.iff fun q=>by simp)).eq n2
 subst e
 exact ⟨R,g1,n1,n2⟩
end
end Gv
namespace Gv
open Go
theorem qM {σ ρ:Type} {step:σ→Option (σ ⊕ ρ)} {s s':σ} (h:step s=some (.inl s')):loop step s=loop step s':=by rw [dL,h]
theorem nX {σ ρ:Type} {step:σ→Option (σ ⊕ ρ)} {s:σ} {r:ρ} (h:step s=some (.inr r)):loop step s=some r:=by rw [dL,h]
section
variable {κ β:Type} [DecidableEq β] [BEq β] [LawfulBEq β] (key:κ→β)
def atK (F:List κ) (q:κ):Int:=if key q∈F.map key then pos (F.map key) (key q) else (F.length:Int)
def qZ (F:List κ) (q:κ):List κ:=if key q∈F.map key then F else F++[q]
def kE (i:Int) (s:List κ × List Edge) (x:Int × κ):List κ × List Edge:=(qZ key s.1 x.2,s.2++[⟨i,x.1,atK key s.1 x.2⟩])
def dA (i:Int) (l:List (Int × κ)) (s:List κ × List Edge):List κ × List Edge:=l.foldl (kE key i) s
def rG (nx:κ→List (Int × κ)) (B:Nat):Nat→Nat→List κ × List Edge→List κ × List Edge
 |0,_,s=>s
 |n+1,i,s=>match s.1[i]? with
  |none=>s
  |some q=>if B < (dA key (i:Int) (nx q) s).1.length then dA key (i:Int) (nx q) s else rG nx B n (i+1) (dA key (i:Int) (nx q) s)
theorem addA_nil (i:Int) (s:List κ × List Edge):dA key i [] s=s:=rfl
theorem yL (i:Int) (x:Int × κ) (l:List (Int × κ)) (s:List κ × List Edge):dA key i (x::l) s=dA key i l (kE key i s x):=rfl
variable {key}
theorem uS (F:List κ) (q:κ):F <+:qZ key F q:=by
 unfold qZ;split
 ·exact List.prefix_refl _
 ·exact List.prefix_append _ _
theorem aBy (F:List κ) (q:κ):(qZ key F q).length≤F.length+1:=by unfold qZ;split<;>simp
theorem atK_in (F:List κ) (q:κ):0≤atK key F q∧atK key F q < (qZ key F q).length:=by
 unfold atK qZ
 by_cases h:key q∈F.map key
 ·rw [if_pos h,if_pos h]
  obtain ⟨i,hi,e,_⟩:=kC h
  rw [List.length_map] at hi
  omega
 ·rw [if_neg h,if_neg h,List.length_append,List.length_singleton];omega
theorem aIb {F:List κ} (h:(F.map key).Nodup) (q:κ):((qZ key F q).map key).Nodup:=by
 unfold qZ;split
 ·exact h
 ·rename_i hx
  rw [List.map_append,List.nodup_append]
  refine ⟨h,by simp,fun a ha b hb=>?_⟩
  simp at hb;subst hb
  exact fun e=>hx (e ▸ ha)
theorem aCz {P:κ→Prop} {F:List κ} (h:∀ x∈F,P x) {q:κ} (hq:P q):∀ x∈qZ key F q,P x:=by
 unfold qZ;split
 ·exact h
 ·intro x hx
  rcases List.mem_append.1 hx with hx|hx
  ·exact h x hx
  ·simp at hx;subst hx;exact hq
theorem sK (i:Int):∀ (l:List (Int × κ)) (s:List κ × List Edge),s.1 <+:(dA key i l s).1∧s.2 <+:(dA key i l s).2
 |[],s=>⟨List.prefix_refl _,List.prefix_refl _⟩
 |x::l,s=>by
  obtain ⟨h1,h2⟩:=sK i l (kE key i s x)
  rw [yL]
  exact ⟨(uS s.1 x.2).trans h1,(List.prefix_append _ _).trans h2⟩
theorem aCA (i:Int):∀ (l:List (Int × κ)) (s:List κ × List Edge),(dA key i l s).2.length=s.2.length+l.length∧(dA key i l s).1.length≤s.1.length+l.length
 |[],s=>⟨rfl,by simp [addA_nil]⟩
 |x::l,s=>by
  obtain ⟨h1,h2⟩:=aCA i l (kE key i s x)
  have:=aBy (key:=key) s.1 x.2
  have h1':(dA key i l (kE key i s x)).2.length=(s.2.length+1)+l.length:=by rw [h1];simp [kE]
  have h2':(dA key i l (kE key i s x)).1.length≤(qZ key s.1 x.2).length+l.length:=h2
  rw [yL,List.length_cons]
  omega
theorem vQ (i:Int):∀ (l:List (Int × κ)) (s:List κ × List Edge),(s.1.map key).Nodup→((dA key i l s).1.map key).Nodup
 |[],_,h=>h
 |x::l,s,h=>vQ i l (kE key i s x) (aIb h x.2)
theorem xU {P:κ→Prop} (i:Int):∀ (l:List (Int × κ)) (s:List κ × List Edge),(∀ x∈s.1,P x)→(∀ x∈l,P x.2)→∀ x∈(dA key i l s).1,P x
 |[],_,h,_=>h
 |x::l,s,h,hl=>xU i l (kE key i s x) (aCz h (hl x (by simp))) fun y hy=>hl y (by simp [hy])
theorem aFp (nx:κ→List (Int × κ)) (B:Nat):∀ (n i:Nat) (s:List κ × List Edge),s.1 <+:(rG key nx B n i s).1∧s.2 <+:(rG key nx B n i s).2
 |0,_,s=>⟨List.prefix_refl _,List.prefix_refl _⟩
 |n+1,i,s=>by
  unfold rG
  cases hq:s.1[i]? with
  |none=>exact ⟨List.prefix_refl _,List.prefix_refl _⟩
  |some q=>
   simp only
   obtain ⟨h1,h2⟩:=sK (key:=key) (i:Int) (nx q) s
   split
   ·exact ⟨h1,h2⟩
   ·obtain ⟨h3,h4⟩:=aFp nx B n (i+1) (dA key (i:Int) (nx q) s)
    exact ⟨h1.trans h3,h2.trans h4⟩
theorem aJZ {P:κ→Prop} {nx:κ→List (Int × κ)} (hP:∀ q,P q→∀ x∈nx q,P x.2) (B:Nat):∀ (n i:Nat) (s:List κ × List Edge),(s.1.map key).Nodup→(∀ x∈s.1,P x)→((rG key nx B n i s).1.map key).Nodup∧∀ x∈(rG key nx B n i s).1,P x
 |0,_,s,h1,h2=>⟨h1,h2⟩
 |n+1,i,s,h1,h2=>by
  unfold rG
  cases hq:s.1[i]? with
  |none=>exact ⟨h1,h2⟩
  |some q=>
   simp only
   have hl:=hP q (h2 q (List.mem_of_getElem? hq))
   have g1:=vQ (key:=key) (i:Int) (nx q) s h1
   have g2:=xU (key:=key) (P:=P) (i:Int) (nx q) s h2 hl
   split
   ·exact ⟨g1,g2⟩
   ·exact aJZ hP B n (i+1) _ g1 g2
def Inc (k m:Int) (l:List (Int × κ)):Prop:=(l.Pairwise fun a b=>a.1 < b.1)∧∀ x∈l,k < x.1∧x.1≤m
theorem aKa {L:List bB} (i:Nat):∀ {l:List (Int × κ)} {k:Int} {s:List κ × List Edge},0≤k→Inc k L.length l→ED L (i:Int) k s.1.length s.2→ED L ((i+1:Nat):Int) 0 (dA key (i:Int) l s).1.length (dA key (i:Int) l s).2
 |[],k,s,_,_,h=>by
  have:=h.next
  rwa [show (i:Int)+1=((i+1:Nat):Int) by omega] at this
 |x::l,k,s,hk,hi,h=>by
  rw [yL]
  obtain ⟨h1,h2⟩:=hi
  rw [List.pairwise_cons] at h1
  have hx:=h2 x (by simp)
  have ha:=atK_in (key:=key) s.1 x.2
  have hl:=(uS (key:=key) s.1 x.2).length_le
  refine aKa i (k:=x.1) (by omega) ⟨h1.2,fun y hy=>⟨h1.1 y hy,(h2 y (by simp [hy])).2⟩⟩ ⟨?_,fun e he=>?_⟩
  ·simp only [kE]
   rw [List.pairwise_append]
   refine ⟨h.ord,by simp,fun a ha b hb=>?_⟩
   simp at hb;subst hb
   have:=h.all a ha
   unfold wL
   simp only;omega
  ·simp only [kE] at he ⊢
   rcases List.mem_append.1 he with he|he
   ·have:=h.all e he;omega
   ·simp at he;subst he
    exact ⟨by simp only;omega,.inr ⟨rfl,by simp only;omega⟩,by simp only;omega,by simp only;omega,ha.1,ha.2⟩
theorem aKb {L:List bB} {P:κ→Prop} {nx:κ→List (Int × κ)} (hP:∀ q,P q→∀ x∈nx q,P x.2) (hI:∀ q,P q→Inc 0 L.length (nx q)) (B:Nat):∀ (n i:Nat) (s:List κ × List Edge),(∀ x∈s.1,P x)→i≤s.1.length→ED L (i:Int) 0 s.1.length s.2→
  ∃ j:Nat,j≤(rG key nx B n i s).1.length∧ED L (j:Int) 0 (rG key nx B n i s).1.length (rG key nx B n i s).2
 |0,i,s,_,hi,h=>⟨i,hi,h⟩
 |n+1,i,s,h2,hi,h=>by
  unfold rG
  cases hq:s.1[i]? with
  |none=>exact ⟨i,hi,h⟩
  |some q=>
   simp only
   have hil:i < s.1.length:=(List.getElem?_eq_some_iff.1 hq).1
   have hPq:=h2 q (List.mem_of_getElem? hq)
   have g:=aKa (key:=key) (L:=L) i (l:=nx q) (k:=0) (s:=s) (Int.le_refl _) (hI q hPq) h
   have hp:=(sK (key:=key) (i:Int) (nx q) s).1.length_le
   split
   ·exact ⟨i+1,by omega,g⟩
   ·exact aKb hP hI B n (i+1) _ (xU (i:Int) (nx q) s h2 (hP q hPq)) (by omega) g
theorem ED.done {L:List bB} {j n:Nat} {ed:List Edge} (h:ED L (j:Int) 0 n ed) (hj:j≤n):ed.Pairwise wL∧∀ e∈ed,(0≤e.F∧e.F < n)∧(1≤e.B∧e.B≤L.length)∧0≤e.To∧e.To < n:=
 ⟨h.ord,fun e he=>by have:=h.all e he;omega⟩
def Small (s:List κ × List Edge):Prop:=s.1.length≤40∧s.2.length≤300
instance (s:List κ × List Edge):Decidable (Small s):=by unfold Small;infer_instance
theorem Small.pre {s u:List κ × List Edge} (h:s.1 <+:u.1∧s.2 <+:u.2) (hu:Small u):Small s:=⟨Nat.le_trans h.1.length_le hu.1,Nat.le_trans h.2.length_le hu.2⟩
theorem aGG {γ:Type} [BEq γ] [LawfulBEq γ] {ks:β→γ} {b:β}:∀ {A:List β},(∀ x∈A,ks x=ks b→x=b)→pos (A.map ks) (ks b)=pos A b
 |[],_=>rfl
 |x::A,h=>by
  have ih:=aGG (ks:=ks) (b:=b) (A:=A) fun y hy=>h y (by simp [hy])
  unfold pos at ih ⊢
  rw [List.map_cons,List.findIdx?_cons,List.findIdx?_cons]
  by_cases e:b=x
  ·subst e;simp
  ·have e2:¬ ks b=ks x:=fun e'=>e (h x (by simp) e'.symm).symm
   rw [if_neg (by simpa using e2),if_neg (by simpa using e)]
   cases h1:List.findIdx? (fun x=>ks b == x) (A.map ks)<;>cases h2:List.findIdx? (fun x=>b == x) A<;>rw [h1,h2] at ih<;>simp only [Option.map_none,Option.map_some] at ih ⊢<;>omega
theorem aKc {γ:Type} {ks:β→γ} {b:β} {A:List β} (h:∀ x∈A,ks x=ks b→x=b):ks b∈A.map ks↔b∈A:=by
 constructor
 ·intro hb
  obtain ⟨x,hx,e⟩:=List.mem_map.1 hb
  exact h x hx e ▸ hx
 ·exact fun hb=>List.mem_map_of_mem hb
end
end Gv
namespace Gv
open Go
section
noncomputable def nxt (t:cN) (S:List Int) (k:Int):List Int:=(wB t S k).getD []
noncomputable def aAr (t:cN) (S:List Int):Nat→Nat→List (Int × List Int)
 |0,_=>[]
 |n+1,k=>if nxt t S (k:Int)=[] then aAr t S n (k+1) else ((k:Int),nxt t S (k:Int))::aAr t S n (k+1)
noncomputable def jQ (t:cN) (S:List Int):List (Int × List Int):=aAr t S (t.L.length - 1) 1
structure mR (t:cN) (S:List Int):Prop where
 len:S.length≤40
 inn:∀ q∈S,0≤q∧q < t.N
variable {t:cN}
theorem mR.of (hv:cU t) {R:List Int} {X:Int→Prop} (h:sJ R X) (h0:∀ q,X q→0≤q∧q < t.N):mR t R:=
 ⟨h.len (n:=40) fun q hq=>by have:=h0 q hq;have:=hv.1;omega,fun q hq=>h0 q ((h.mem q).1 hq)⟩
theorem nxt_eq (hv:cU t) {S:List Int} (hS:mR t S) (k:Int):wB t S k=some (nxt t S k)∧mR t (nxt t S k):=by
 obtain ⟨R,h1,h2⟩:=aLi hv (S:=S) (by have:=hS.len;omega) k
 have e:nxt t S k=R:=by unfold nxt;rw [h1];rfl
 rw [e]
 exact ⟨h1,mR.of hv h2 fun q hq=>hq.inn hv fun q hq=>hq.inn hv⟩
theorem aCB (hv:cU t) {S:List Int} (hS:mR t S):∀ (n k:Nat),∀ x∈aAr t S n k,mR t x.2
 |0,_,x,h=>by simp [aAr] at h
 |n+1,k,x,h=>by
  unfold aAr at h
  split at h
  ·exact aCB hv hS n (k+1) x h
  ·rcases List.mem_cons.1 h with rfl|h
   ·exact (nxt_eq hv hS _).2
   ·exact aCB hv hS n (k+1) x h
theorem aLk (S:List Int):∀ (n k:Nat),Inc ((k:Int) - 1) ((k:Int)+n - 1) (aAr t S n k)
 |0,k=>⟨by simp [aAr],fun x hx=>by simp [aAr] at hx⟩
 |n+1,k=>by
  obtain ⟨h1,h2⟩:=aLk S n (k+1)
  unfold aAr
  split
  ·exact ⟨h1,fun x hx=>by have:=h2 x hx;omega⟩
  ·refine ⟨?_,fun x hx=>?_⟩
   ·rw [List.pairwise_cons]
    exact ⟨fun x hx=>by have:=h2 x hx;simp only;omega,h1⟩
   ·rcases List.mem_cons.1 hx with rfl|hx
    ·simp only;omega
    ·have:=h2 x hx;omega
theorem aLl (S:List Int):∀ (n k:Nat),(aAr t S n k).length≤n
 |0,_=>by simp [aAr]
 |n+1,k=>by
  have:=aLl S n (k+1)
  unfold aAr
  split
  ·omega
  ·rw [List.length_cons];omega
theorem sucD_inc (hv:cU t) (S:List Int):Inc 0 (t.L.tail.length:Int) (jQ t S):=by
 have:=aLk (t:=t) S (t.L.length - 1) 1
 have h1:=hv.2.2.1.1
 rw [List.length_tail]
 unfold jQ
 rw [show ((t.L.length - 1:Nat):Int)=((1:Nat):Int)+((t.L.length - 1:Nat):Int) - 1 by omega]
 exact this
theorem sets_find (A:List (List Int)) (r:List Int) (hn:A.Nodup) (hA:A.length≤1000) (h2:∀ S∈A,S.length≤40):loop (fun s:Int × Int=>nG A r s.1 s.2) (-1,0)=some (pos A r):=by
 have:=mC (step:=fun s:Int × Int=>nG A r s.1 s.2) A.length (fun k (a:Int)=>(a,(k:Int))) (fun k a=>match (A.drop k).findIdx? (fun x=>r == x) with|none=>a|some j=>((k+j:Nat):Int)) (fun _ _=>True) (fun k a hk _=>?_) (fun a _=>by simp only [nG,dJ];simp) A.length 0 (-1) (by omega) trivial
 ·rw [show loop (fun s:Int × Int=>nG A r s.1 s.2) (-1,0)=_ from this]
  unfold pos
  rw [List.drop_zero]
  cases A.findIdx? (fun x=>r == x)<;>simp
 ·left
  have hl:=h2 _ (List.getElem_mem hk)
  simp only [nG,cS hk,if_pos,cZ hk,aG,aMi _ r (show A[k].length < 4611686018427387904 by omega),xE,cH hk (show A.length < 4611686018427387904 by omega)]
  rw [List.drop_eq_getElem_cons hk,List.findIdx?_cons]
  by_cases e:A[k]=r
  ·have hno:(A.drop (k+1)).findIdx? (fun x=>r == x)=none:=by
    rw [List.findIdx?_eq_none_iff]
    intro x hx
    rw [beq_eq_false_iff_ne]
    rintro rfl
    have hd:(A.drop k).Nodup:=hn.sublist (List.drop_sublist _ _)
    rw [List.drop_eq_getElem_cons hk,List.nodup_cons] at hd
    exact hd.1 (e ▸ hx)
   refine ⟨(k:Int),by simp [e],trivial,?_⟩
   rw [hno]
   simp [e]
  ·refine ⟨a,by simp [e],trivial,?_⟩
   have e':¬ r=A[k]:=fun h=>e h.symm
   rw [if_neg (by simpa using e')]
   cases (A.drop (k+1)).findIdx? (fun x=>r == x) with
   |none=>rfl
   |some j=>simp only [Option.map_some];congr 1;omega
theorem aMm (hv:cU t) {i:Nat} {S:List Int} {s:List (List Int) × List Edge} (hi:s.1[i]?=some S) (hnd:(s.1.map id).Nodup) (hg:∀ S∈s.1,mR t S) (hs:Small s):
  loop (fun s:List (List Int) × List Edge × Int=>nH t (i:Int) s.1 s.2.1 s.2.2) (s.1,s.2,1)=some (if Small (dA id (i:Int) (jQ t S) s) then .inl (dA id (i:Int) (jQ t S) s) else .inr (⟨0,0,[],[]⟩,[],false)):=by
 have h12:=hv.2.2.1.2.1
 have h1:=hv.2.2.1.1
 have:=mC (step:=fun s:List (List Int) × List Edge × Int=>nH t (i:Int) s.1 s.2.1 s.2.2) t.L.length (fun k (a:List (List Int) × List Edge)=>(a.1,a.2,(k:Int)))
  (fun k a=>if Small (dA id (i:Int) (aAr t S (t.L.length - k) k) a) then (Sum.inl (dA id (i:Int) (aAr t S (t.L.length - k) k) a):(List (List Int) × List Edge) ⊕ (cN × List (List Int) × Bool)) else .inr (⟨0,0,[],[]⟩,[],false))
  (fun _ a=>a.1[i]?=some S∧(a.1.map id).Nodup∧(∀ S∈a.1,mR t S)∧Small a) (fun k a hk hI=>?_) (fun a hI=>?_) (t.L.length - 1) 1 s (by omega) ⟨hi,hnd,hg,hs⟩
 ·exact this
 ·obtain ⟨a1,a2,a3,a4⟩:=hI
  have hS:=a3 S (List.mem_of_getElem? a1)
  obtain ⟨hn,hng⟩:=nxt_eq hv hS (k:Int)
  have hsl:aAr t S (t.L.length - k) k=if nxt t S (k:Int)=[] then aAr t S (t.L.length - (k+1)) (k+1) else ((k:Int),nxt t S (k:Int))::aAr t S (t.L.length - (k+1)) (k+1):=by
   rw [show t.L.length - k=(t.L.length - (k+1))+1 by omega];rfl
  have hw:=cH hk (show t.L.length < 4611686018427387904 by omega)
  have hst:nH t (i:Int) a.1 a.2 (k:Int)=(if nxt t S (k:Int)=[] then some (.inl (a.1,a.2,((k+1:Nat):Int))) else pN (i:Int) a.1 a.2 (k:Int) (nxt t S (k:Int)) (pos a.1 (nxt t S (k:Int)))):=by
   simp only [nH,cS hk,if_pos,rI,a1,aG,hn,sX,hw]
   by_cases e:nxt t S (k:Int)=[]
   ·rw [if_pos e,if_pos (by simp [e])]
   ·rw [if_neg e,if_neg (by simpa using e),sets_find _ _ (by simpa using a2) (by have:=a4.1;omega) (fun x hx=>(a3 x hx).len),aG]
  simp only
  rw [hst,hsl]
  by_cases e:nxt t S (k:Int)=[]
  ·left
   rw [if_pos e,if_pos e]
   exact ⟨a,rfl,⟨a1,a2,a3,a4⟩,rfl⟩
  ·rw [if_neg e,if_neg e,yL]
   have hnew:pN (i:Int) a.1 a.2 (k:Int) (nxt t S (k:Int)) (pos a.1 (nxt t S (k:Int)))=some (if Small (kE id (i:Int) a ((k:Int),nxt t S (k:Int))) then .inl ((kE id (i:Int) a ((k:Int),nxt t S (k:Int))).1,(kE id (i:Int) a ((k:Int),nxt t S (k:Int))).2,((k+1:Nat):Int)) else .inr (.inr (⟨0,0,[],[]⟩,[],false))):=by
    obtain ⟨b1,b2⟩:=a4
    unfold pN xD sX kE qZ atK Small
    simp only [List.map_id,id]
    by_cases hm:nxt t S (k:Int)∈a.1
    ·have hp:=tH.2 hm
     rw [if_neg (by simpa using hp)]
     simp only [if_pos hm,List.length_append,List.length_singleton]
     by_cases h3:a.2.length=300
     ·rw [if_pos (by simp [h3]),if_neg (by omega)]
     ·rw [if_neg (by simp;omega),if_pos (by omega),eN (by simp [jK];omega),aG,hw]
    ·have hp:¬ 0≤pos a.1 (nxt t S (k:Int)):=fun h=>hm (tH.1 h)
     rw [if_pos (by simpa using hp)]
     simp only [if_neg hm,List.length_append,List.length_singleton]
     by_cases h4:a.1.length=40
     ·rw [if_pos (by simp [h4]),if_neg (by omega)]
     ·rw [if_neg (by simp;omega),eN (by simp [jK];omega),aG]
      by_cases h3:a.2.length=300
      ·rw [if_pos (by simp [h3]),if_neg (by omega)]
      ·rw [if_neg (by simp;omega),if_pos (by omega),eN (by simp [jK];omega),aG,hw]
   rw [hnew]
   by_cases hok:Small (kE id (i:Int) a ((k:Int),nxt t S (k:Int)))
   ·left
    rw [if_pos hok]
    refine ⟨_,rfl,⟨aCF (uS (key:=id) a.1 _) a1,aIb (key:=id) a2 _,aCz (key:=id) a3 hng,hok⟩,rfl⟩
   ·right
    rw [if_neg hok,if_neg (fun h=>hok (Small.pre (sK (key:=id) _ _ _) h))]
 ·simp only [nH,dJ]
  rw [Nat.sub_self]
  show some (Sum.inr (Sum.inl (a.1,a.2)))=_
  rw [show dA id (i:Int) (aAr t S 0 t.L.length) a=a from rfl,if_pos hI.2.2.2]
theorem aIc (hv:cU t):∀ (n i:Nat) (s:List (List Int) × List Edge),i≤s.1.length→41≤n+i→(s.1.map id).Nodup→(∀ S∈s.1,mR t S)→Small s→
  loop (fun s:List (List Int) × List Edge × Int=>iI t s.1 s.2.1 s.2.2) (s.1,s.2,(i:Int))=some (if Small (rG id (jQ t) 40 n i s) then .inl (rG id (jQ t) 40 n i s) else .inr (⟨0,0,[],[]⟩,[],false))
 |0,i,s,hi,hn,_,_,hs=>by have:=hs.1;omega
 |n+1,i,s,hi,hn,hnd,hg,hs=>by
  by_cases hlt:i < s.1.length
  ·have hq:s.1[i]?=some s.1[i]:=List.getElem?_eq_getElem hlt
   have hx:rG id (jQ t) 40 (n+1) i s=if 40 < (dA id (i:Int) (jQ t s.1[i]) s).1.length then dA id (i:Int) (jQ t s.1[i]) s else rG id (jQ t) 40 n (i+1) (dA id (i:Int) (jQ t s.1[i]) s):=by
    rw [rG,hq]
   have hw:=cH hlt (show s.1.length < 4611686018427387904 by have:=hs.1;omega)
   have hGq:=hg _ (List.getElem_mem hlt)
   have g1:=vQ (key:=id) (i:Int) (jQ t s.1[i]) s hnd
   have g2:=xU (key:=id) (P:=mR t) (i:Int) (jQ t s.1[i]) s hg (aCB hv hGq _ _)
   have gl:=(sK (key:=id) (i:Int) (jQ t s.1[i]) s).1.length_le
   have hst:iI t s.1 s.2 (i:Int)=if Small (dA id (i:Int) (jQ t s.1[i]) s) then some (.inl ((dA id (i:Int) (jQ t s.1[i]) s).1,(dA id (i:Int) (jQ t s.1[i]) s).2,((i+1:Nat):Int))) else some (.inr (.inr (⟨0,0,[],[]⟩,[],false))):=by
    unfold iI
    rw [if_pos (cS hlt),aMm hv hq hnd hg hs,aG]
    by_cases hok:Small (dA id (i:Int) (jQ t s.1[i]) s)
    ·rw [if_pos hok,if_pos hok];simp only [xC,aAG,hw]
    ·rw [if_neg hok,if_neg hok]
   by_cases hok:Small (dA id (i:Int) (jQ t s.1[i]) s)
   ·rw [if_pos hok] at hst
    rw [qM (step:=fun s:List (List Int) × List Edge × Int=>iI t s.1 s.2.1 s.2.2) (s:=(s.1,s.2,(i:Int))) hst,show rG id (jQ t) 40 (n+1) i s=rG id (jQ t) 40 n (i+1) (dA id (i:Int) (jQ t s.1[i]) s) by rw [hx];exact if_neg (by have:=hok.1;omega)]
    exact aIc hv n (i+1) _ (by omega) (by omega) g1 g2 hok
   ·rw [if_neg hok] at hst
    rw [nX (step:=fun s:List (List Int) × List Edge × Int=>iI t s.1 s.2.1 s.2.2) (s:=(s.1,s.2,(i:Int))) hst,hx]
    by_cases h40:40 < (dA id (i:Int) (jQ t s.1[i]) s).1.length
    ·rw [if_pos h40,if_neg hok]
    ·rw [show (if 40 < (dA id (i:Int) (jQ t s.1[i]) s).1.length then dA id (i:Int) (jQ t s.1[i]) s else rG id (jQ t) 40 n (i+1) (dA id (i:Int) (jQ t s.1[i]) s))=rG id (jQ t) 40 n (i+1) (dA id (i:Int) (jQ t s.1[i]) s) from if_neg h40,if_neg (fun h=>hok (Small.pre (aFp (key:=id) (jQ t) 40 n (i+1) _) h))]
  ·obtain rfl:i=s.1.length:=by omega
   have hx:rG id (jQ t) 40 (n+1) s.1.length s=s:=by
    rw [rG,List.getElem?_eq_none (Nat.le_refl _)]
   have hst:iI t s.1 s.2 (s.1.length:Int)=some (.inr (.inl (s.1,s.2))):=by
    simp only [iI,dJ];rfl
   rw [nX (step:=fun s:List (List Int) × List Edge × Int=>iI t s.1 s.2.1 s.2.2) (s:=(s.1,s.2,(s.1.length:Int))) hst,hx,if_pos hs]
noncomputable def aCV (t:cN):List Int:=(rV t).getD []
noncomputable def kF (t:cN):List (List Int) × List Edge:=rG id (jQ t) 40 41 0 ([aCV t],[])
theorem aGH (hv:cU t):rV t=some (aCV t)∧kY t [t.I]=some (aCV t)∧mR t (aCV t):=by
 obtain ⟨R,h1,h2,h3⟩:=first_set hv
 have e:aCV t=R:=by unfold aCV;rw [h2];rfl
 rw [e]
 exact ⟨h2,h1,mR.of hv h3 fun q hq=>hq.inn hv fun q hq=>by have:=hv.2.1;omega⟩
noncomputable def detS (t:cN):cN × List (List Int) × Bool:=if Small (kF t) then (⟨((kF t).1.length:Int),0,t.L,(kF t).2⟩,(kF t).1,true) else (⟨0,0,[],[]⟩,[],false)
theorem aEJ (hv:cU t):yF t=some (detS t):=by
 obtain ⟨h1,_,h3⟩:=aGH hv
 unfold yF detS
 rw [h1,aG]
 have:=aIc hv 41 0 ([aCV t],[]) (by simp) (by omega) (by simp) (fun S hS=>by simp at hS;subst hS;exact h3) ⟨by simp,by simp⟩
 rw [show loop (fun s:List (List Int) × List Edge × Int=>iI t s.1 s.2.1 s.2.2) ([aCV t],[],0)=_ from this,aG]
 show (match (if Small (kF t) then Sum.inl (kF t) else Sum.inr (⟨0,0,[],[]⟩,[],false):(List (List Int) × List Edge) ⊕ (cN × List (List Int) × Bool)) with|.inl r=>sW t r.1 r.2|.inr r=>some r)=_
 by_cases hs:Small (kF t)
 ·rw [if_pos hs,if_pos hs]
  simp only [sW]
  rw [eN (by have:=hv.2.2.1.2.1;simp [jK];omega),aG,List.nil_append]
 ·rw [if_neg hs,if_neg hs]
theorem aKd (hv:cU t):((kF t).1.map id).Nodup∧(∀ S∈(kF t).1,mR t S)∧(kF t).2.Pairwise wL∧(∀ e∈(kF t).2,(0≤e.F∧e.F < (kF t).1.length)∧(1≤e.B∧e.B≤t.L.tail.length)∧0≤e.To∧e.To < (kF t).1.length)∧1≤(kF t).1.length:=by
 obtain ⟨_,_,h3⟩:=aGH hv
 have hg:∀ S∈([aCV t],([]:List Edge)).1,mR t S:=fun S hS=>by simp at hS;subst hS;exact h3
 have hP:∀ q,mR t q→∀ x∈jQ t q,mR t x.2:=fun q hq=>aCB hv hq _ _
 obtain ⟨g1,g2⟩:=aJZ (key:=id) hP 40 41 0 ([aCV t],[]) (by simp) hg
 obtain ⟨j,hj,hE⟩:=aKb (key:=id) (L:=t.L.tail) hP (fun q _=>sucD_inc hv q) 40 41 0 ([aCV t],[]) hg (by simp) ⟨by simp,fun e he=>by simp at he⟩
 obtain ⟨e1,e2⟩:=hE.done hj
 exact ⟨g1,g2,e1,e2,(aFp (key:=id) (jQ t) 40 41 0 ([aCV t],[])).1.length_le⟩
end
end Gv
namespace Gv
open Go
def kS (S:List Int):bB:=Lib.join (S.map Lib.itoa) [44]
theorem aCC {v:Int} (h0:0≤v) (h1:v≤63):(44:UInt8)∉Lib.itoa v∧Lib.itoa v≠[]:=by
 have h:=aHF h0 h1
 refine ⟨fun hm=>?_,fun e=>by rw [e] at h;cases h⟩
 have:=List.all_eq_true.1 (aKU h) _ hm
 exact absurd this (by decide)
theorem app_inj {c:UInt8}:∀ {x y r r':bB},c∉x→c∉y→x++c::r=y++c::r'→x=y∧r=r'
 |[],[],r,r',_,_,h=>⟨rfl,by simpa using h⟩
 |[],b::y,r,r',_,hy,h=>by simp at h;exact absurd (by simp [h.1]) hy
 |a::x,[],r,r',hx,_,h=>by simp at h;exact absurd (by simp [h.1]) hx
 |a::x,b::y,r,r',hx,hy,h=>by
  simp only [List.cons_append,List.cons.injEq] at h
  obtain ⟨g1,g2⟩:=app_inj (fun hm=>hx (by simp [hm])) (fun hm=>hy (by simp [hm])) h.2
  exact ⟨by rw [h.1,g1],g2⟩
theorem aCD (x y:bB) (l:List bB):Lib.join (x::y::l) [44]=x++(44::Lib.join (y::l) [44]):=by
 rw [Lib.join_cons,Lib.join_cons]
 simp [Lib.joinTail]
theorem kS_inj:∀ {S T:List Int},(∀ q∈S,0≤q∧q≤63)→(∀ q∈T,0≤q∧q≤63)→kS S=kS T→S=T
 |[],[],_,_,_=>rfl
 |[],b::T,_,hT,h=>by
  have hb:=aCC (hT b (by simp)).1 (hT b (by simp)).2
  cases T with
  |nil=>unfold kS at h;simp only [List.map_cons,List.map_nil,Lib.join_one,Lib.join_nil] at h;exact absurd h.symm hb.2
  |cons c T=>unfold kS at h;simp only [List.map_cons,List.map_nil,aCD,Lib.join_nil] at h;simp at h
 |a::S,[],hS,_,h=>by
  have hb:=aCC (hS a (by simp)).1 (hS a (by simp)).2
  cases S with
  |nil=>unfold kS at h;simp only [List.map_cons,List.map_nil,Lib.join_one,Lib.join_nil] at h;exact absurd h hb.2
  |cons c T=>unfold kS at h;simp only [List.map_cons,List.map_nil,aCD,Lib.join_nil] at h;simp at h
 |[a],[b],hS,hT,h=>by
  have ha:=hS a (by simp);have hb:=hT b (by simp)
  unfold kS at h
  simp only [List.map_cons,List.map_nil,Lib.join_one] at h
  rw [aHW (by omega) (by omega) h]
 |[a],b::c::T,hS,hT,h=>by
  have ha:=aCC (hS a (by simp)).1 (hS a (by simp)).2
  unfold kS at h
  simp only [List.map_cons,List.map_nil,Lib.join_one,aCD] at h
  exact absurd (by rw [h];simp) ha.1
 |a::c::S,[b],hS,hT,h=>by
  have hb:=aCC (hT b (by simp)).1 (hT b (by simp)).2
  unfold kS at h
  simp only [List.map_cons,List.map_nil,Lib.join_one,aCD] at h
  exact absurd (by rw [←h];simp) hb.1
 |a::c::S,b::d::T,hS,hT,h=>by
  have ha:=hS a (by simp);have hb:=hT b (by simp)
  have h':Lib.itoa a++(44::kS (c::S))=Lib.itoa b++(44::kS (d::T)):=by
   unfold kS at h ⊢
   simp only [List.map_cons,aCD] at h ⊢
   exact h
  obtain ⟨g1,g2⟩:=app_inj (aCC ha.1 ha.2).1 (aCC hb.1 hb.2).1 h'
  have:=kS_inj (fun q hq=>hS q (List.mem_cons_of_mem _ hq)) (fun q hq=>hT q (List.mem_cons_of_mem _ hq)) g2
  rw [aHW (by omega) (by omega) g1,this]
theorem kS_len:∀ {S:List Int},(∀ q∈S,0≤q∧q≤63)→(kS S).length≤3 * S.length
 |[],_=>by simp [kS,Lib.join_nil]
 |[a],h=>by
  have:=aLd (a:=a) (by have:=h a (by simp);omega)
  unfold kS
  simp only [List.map_cons,List.map_nil,Lib.join_one,List.length_singleton];omega
 |a::c::S,h=>by
  have:=aLd (a:=a) (by have:=h a (by simp);omega)
  have ih:=kS_len (S:=c::S) fun q hq=>h q (List.mem_cons_of_mem _ hq)
  unfold kS at ih ⊢
  simp only [List.map_cons,aCD,List.length_append,List.length_cons] at ih ⊢
  omega
section
variable {t:cN}
theorem mR.small (hv:cU t) {S:List Int} (h:mR t S):∀ q∈S,0≤q∧q≤63:=fun q hq=>by have:=h.inn q hq;have:=hv.1;omega
theorem detKey_eq (hv:cU t) {S:List Int} (h:mR t S):kZ S=some (kS S):=by
 have hs:=h.small hv
 have hl:=kS_len hs
 have:=h.len
 unfold kZ
 rw [aIW S [44] (by omega) (fun x hx=>by have:=hs x hx;omega) (by show (kS S).length < jK;unfold jK;omega)]
 rfl
theorem keyS_inj (hv:cU t) {F:List (List Int)} (hF:∀ S∈F,mR t S) {S:List Int} (h:mR t S):∀ x∈F,kS x=kS S→x=S:=
 fun x hx e=>kS_inj ((hF x hx).small hv) (h.small hv) e
theorem aId (hv:cU t) {F:List (List Int)} (hF:∀ S∈F,mR t S) {S:List Int} (h:mR t S) (hl:F.length≤1000) (arcs:List iC):
  eW F (mq 0 (F.map kS)) arcs S=some (atK id F S,qZ id F S,mq 0 ((qZ id F S).map kS)):=by
 have hk:=keyS_inj hv hF h
 unfold eW
 rw [detKey_eq hv h,aG]
 unfold atK qZ
 rw [List.map_id]
 by_cases hm:S∈F
 ·rw [aJY ((aKc hk).2 hm),if_neg (by simp),if_pos (show id S∈F from hm),if_pos (show id S∈F from hm),aGG hk]
  rfl
 ·have hm':kS S∉F.map kS:=fun h=>hm ((aKc hk).1 h)
  rw [aHY hm',if_pos (by simp),if_neg (show ¬ id S∈F from hm),if_neg (show ¬ id S∈F from hm)]
  have h1:rH (mq 0 (F.map kS)) (kS S) (F.length:Int)=mq 0 ((F++[S]).map kS):=by
   have:=aGF (k:=0) hm'
   rw [Nat.zero_add,List.length_map] at this
   rw [this,List.map_append];rfl
  rw [aG,h1,eN (by simp [jK];omega),aG]
  rfl
theorem detAdd_eq (hv:cU t) {s:List (List Int) × List Edge} (hF:∀ S∈s.1,mR t S) {S:List Int} (h:mR t S) (hl:s.1.length≤1000) (he:s.2.length≤1000000) (L:List bB) (i:Nat) (k:Int):
  jU (L.getD (k - 1).toNat []) S s.1 (mq 0 (s.1.map kS)) (s.2.map (fG L)) (i:Int)=some ((kE id (i:Int) s (k,S)).1,mq 0 ((kE id (i:Int) s (k,S)).1.map kS),(kE id (i:Int) s (k,S)).2.map (fG L)):=by
 unfold jU
 rw [aId hv hF h hl,aG,eN (by simp [jK];omega),aG]
 unfold kH kE
 rw [List.map_append]
 rfl
theorem aJh (hv:cU t):t.L=cE::t.L.tail∧oL t.L.tail:=by
 obtain ⟨L,e,h⟩:=hv.2.2.1.cons
 rw [e];exact ⟨rfl,h⟩
theorem aFq (hv:cU t):xV t.L.tail∧t.L.tail.length≤11:=by
 obtain ⟨h1,h12,h0,hk⟩:=hv.2.2.1
 refine ⟨⟨fun s hs=>?_,fun k hk1 hkl=>?_⟩,by rw [List.length_tail];omega⟩
 ·obtain ⟨j,hj,rfl⟩:=List.mem_iff_getElem.1 hs
  rw [List.length_tail] at hj
  rw [List.getElem_tail]
  have:=hk (j+1) (by omega) (by omega)
  exact ⟨this.1,this.2.1⟩
 ·rw [List.length_tail] at hkl
  rw [List.getElem_tail,List.getElem_tail]
  have:=(hk (k+1) (by omega) (by omega)).2.2 (by omega)
  have e:k - 1+1=k:=by omega
  simp only [e]
  simpa using this
theorem det_inner (hv:cU t) {i:Nat} {S:List Int} (hS:mR t S) {s:List (List Int) × List Edge} (hg:∀ S∈s.1,mR t S) (hl:s.1.length≤100) (he:s.2.length≤100000):
  lA S s.1 (mq 0 (s.1.map kS)) (s.2.map (fG t.L.tail)) (i:Int) t=some (true,(dA id (i:Int) (jQ t S) s).1,mq 0 ((dA id (i:Int) (jQ t S) s).1.map kS),(dA id (i:Int) (jQ t S) s).2.map (fG t.L.tail)):=by
 have h12:=hv.2.2.1.2.1
 have h1:=hv.2.2.1.1
 have hsl:zH t.L 1 (t.L.length:Int)=some t.L.tail:=by
  have:=aCx (s:=t.L) (w:=1) h1
  rw [show ((1:Nat):Int)=1 from rfl] at this
  rw [this,List.drop_one]
 have htl:t.L.tail.length=t.L.length - 1:=List.length_tail ..
 unfold lA
 rw [hsl,aG]
 have:=mC (step:=fun x:List (List Int) × List (bB × Int) × List iC × Int=>gC S (i:Int) t t.L.tail x.1 x.2.1 x.2.2.1 x.2.2.2) t.L.tail.length (fun k (a:List (List Int) × List Edge)=>(a.1,mq 0 (a.1.map kS),a.2.map (fG t.L.tail),(k:Int)))
  (fun k a=>((dA id (i:Int) (aAr t S (t.L.tail.length - k) (k+1)) a).1,mq 0 ((dA id (i:Int) (aAr t S (t.L.tail.length - k) (k+1)) a).1.map kS),(dA id (i:Int) (aAr t S (t.L.tail.length - k) (k+1)) a).2.map (fG t.L.tail)))
  (fun k a=>(∀ S∈a.1,mR t S)∧a.1.length≤100+k∧a.2.length≤100000+k) (fun k a hk hI=>?_) (fun a hI=>?_) t.L.tail.length 0 s (by omega) ⟨hg,hl,he⟩
 ·rw [show loop (fun x:List (List Int) × List (bB × Int) × List iC × Int=>gC S (i:Int) t t.L.tail x.1 x.2.1 x.2.2.1 x.2.2.2) (s.1,mq 0 (s.1.map kS),s.2.map (fG t.L.tail),0)=_ from this,aG]
  unfold jM jQ
  simp only [Nat.sub_zero,htl,Nat.zero_add]
 ·left
  obtain ⟨a3,a4,a5⟩:=hI
  have hk1:k+1 < t.L.length:=by omega
  obtain ⟨hn,hng⟩:=nxt_eq hv hS ((k+1:Nat):Int)
  obtain ⟨R,v1,v2,_⟩:=aLj hv (S:=S) (by have:=hS.len;omega) hk1
  have hR:R=nxt t S ((k+1:Nat):Int):=by rw [hn] at v2;exact (Option.some.inj v2).symm
  subst hR
  have hlab:t.L.tail[k]=t.L[k+1]:=by rw [List.getElem_tail]
  have hsL:aAr t S (t.L.tail.length - k) (k+1)=if nxt t S ((k+1:Nat):Int)=[] then aAr t S (t.L.tail.length - (k+1)) (k+1+1) else (((k+1:Nat):Int),nxt t S ((k+1:Nat):Int))::aAr t S (t.L.tail.length - (k+1)) (k+1+1):=by
   rw [show t.L.tail.length - k=(t.L.tail.length - (k+1))+1 by omega];rfl
  have hw:=cH hk (show t.L.tail.length < 4611686018427387904 by omega)
  rw [hsL]
  simp only [gC,cS hk,if_pos,cZ hk,aG,hlab,v1]
  by_cases e:nxt t S ((k+1:Nat):Int)=[]
  ·rw [if_pos e,if_neg (by rw [e];simp)]
   exact ⟨a,by simp only [iE,hw],⟨a3,by omega,by omega⟩,rfl⟩
  ·rw [if_neg e,if_pos (decide_eq_true (by have:=List.length_pos_iff.2 e;omega))]
   have hadd:=detAdd_eq hv (s:=a) a3 hng (by omega) (by omega) t.L.tail i ((k+1:Nat):Int)
   have hgd:t.L.tail.getD (((k+1:Nat):Int) - 1).toNat []=t.L[k+1]:=by
    rw [show (((k+1:Nat):Int) - 1).toNat=k by omega,List.getD_eq_getElem?_getD,List.getElem?_eq_getElem hk,←hlab];rfl
   rw [hgd] at hadd
   rw [hadd,aG,yL]
   simp only [iE,hw]
   refine ⟨kE id (i:Int) a (((k+1:Nat):Int),nxt t S ((k+1:Nat):Int)),rfl,⟨aCz (key:=id) a3 hng,?_,?_⟩,rfl⟩
   ·have:=aBy (key:=id) a.1 (nxt t S ((k+1:Nat):Int))
    simp only [kE];omega
   ·simp only [kE,List.length_append,List.length_singleton];omega
 ·simp only [gC,dJ]
  rw [Nat.sub_self]
  rfl
theorem aJi (hv:cU t):∀ (n i:Nat) (s:List (List Int) × List Edge),i≤s.1.length→41≤n+i→(∀ S∈s.1,mR t S)→s.1.length≤40→s.2.length≤11 * i→
  loop (fun x:List (List Int) × List (bB × Int) × List iC × Int=>dM t x.1 x.2.1 x.2.2.1 x.2.2.2) (s.1,mq 0 (s.1.map kS),s.2.map (fG t.L.tail),(i:Int))=
   some (if (rG id (jQ t) 40 n i s).1.length≤40 then .inl ((rG id (jQ t) 40 n i s).1,mq 0 ((rG id (jQ t) 40 n i s).1.map kS),(rG id (jQ t) 40 n i s).2.map (fG t.L.tail)) else .inr (⟨0,0,[],[]⟩,[],false))∧
   (rG id (jQ t) 40 n i s).2.length≤11 * (n+i)
 |0,i,s,hi,hn,_,hs,_=>by omega
 |n+1,i,s,hi,hn,hg,hs,he=>by
  have h12:=hv.2.2.1.2.1
  by_cases hlt:i < s.1.length
  ·have hq:s.1[i]?=some s.1[i]:=List.getElem?_eq_getElem hlt
   have hx:rG id (jQ t) 40 (n+1) i s=if 40 < (dA id (i:Int) (jQ t s.1[i]) s).1.length then dA id (i:Int) (jQ t s.1[i]) s else rG id (jQ t) 40 n (i+1) (dA id (i:Int) (jQ t s.1[i]) s):=by
    rw [rG,hq]
   have hw:=cH hlt (show s.1.length < 4611686018427387904 by omega)
   have hGq:=hg _ (List.getElem_mem hlt)
   have g2:=xU (key:=id) (P:=mR t) (i:Int) (jQ t s.1[i]) s hg (aCB hv hGq _ _)
   have gl:=(sK (key:=id) (i:Int) (jQ t s.1[i]) s).1.length_le
   have ge:=(aCA (key:=id) (i:Int) (jQ t s.1[i]) s).1
   have gs:(jQ t s.1[i]).length≤11:=Nat.le_trans (aLl _ _ _) (by omega)
   have hst:dM t s.1 (mq 0 (s.1.map kS)) (s.2.map (fG t.L.tail)) (i:Int)=if 40 < (dA id (i:Int) (jQ t s.1[i]) s).1.length then some (.inr (.inr (⟨0,0,[],[]⟩,[],false))) else some (.inl ((dA id (i:Int) (jQ t s.1[i]) s).1,mq 0 ((dA id (i:Int) (jQ t s.1[i]) s).1.map kS),(dA id (i:Int) (jQ t s.1[i]) s).2.map (fG t.L.tail),((i+1:Nat):Int))):=by
    unfold dM
    rw [if_pos (cS hlt),cZ hlt,aG,det_inner hv hGq hg (by omega) (by omega),aG,if_neg (by simp)]
    unfold jV
    by_cases h40:40 < (dA id (i:Int) (jQ t s.1[i]) s).1.length
    ·rw [if_pos h40,if_pos (by simp only [decide_eq_true_eq];omega)]
    ·rw [if_neg h40,if_neg (by simp only [decide_eq_true_eq];omega),hw]
   by_cases h40:40 < (dA id (i:Int) (jQ t s.1[i]) s).1.length
   ·rw [if_pos h40] at hst hx
    rw [hx]
    refine ⟨?_,by omega⟩
    rw [nX (step:=fun x:List (List Int) × List (bB × Int) × List iC × Int=>dM t x.1 x.2.1 x.2.2.1 x.2.2.2) (s:=(s.1,mq 0 (s.1.map kS),s.2.map (fG t.L.tail),(i:Int))) hst,if_neg (by omega)]
   ·rw [if_neg h40] at hst hx
    rw [hx,qM (step:=fun x:List (List Int) × List (bB × Int) × List iC × Int=>dM t x.1 x.2.1 x.2.2.1 x.2.2.2) (s:=(s.1,mq 0 (s.1.map kS),s.2.map (fG t.L.tail),(i:Int))) hst]
    obtain ⟨r1,r2⟩:=aJi hv n (i+1) (dA id (i:Int) (jQ t s.1[i]) s) (by omega) (by omega) g2 (by omega) (by omega)
    exact ⟨r1,by omega⟩
  ·obtain rfl:i=s.1.length:=by omega
   have hx:rG id (jQ t) 40 (n+1) s.1.length s=s:=by
    rw [rG,List.getElem?_eq_none (Nat.le_refl _)]
   have hst:dM t s.1 (mq 0 (s.1.map kS)) (s.2.map (fG t.L.tail)) (s.1.length:Int)=some (.inr (.inl (s.1,mq 0 (s.1.map kS),s.2.map (fG t.L.tail)))):=by
    unfold dM
    rw [if_neg (by simp)]
   rw [hx]
   refine ⟨?_,by omega⟩
   rw [nX (step:=fun x:List (List Int) × List (bB × Int) × List iC × Int=>dM t x.1 x.2.1 x.2.2.1 x.2.2.2) (s:=(s.1,mq 0 (s.1.map kS),s.2.map (fG t.L.tail),(s.1.length:Int))) hst,if_pos hs]
theorem aGm (hv:cU t) (hf:iB 999999999 t) {n:Nat} {ed:List Edge} (hl:ed.length≤999999999):iB 999999999 (gN t.L.tail n ed):=by
 obtain ⟨hok,h11⟩:=aFq hv
 have hMl:(aDg t.L.tail ed).length≤t.L.tail.length:=List.length_filter_le _ _
 refine ⟨by simp only [gN,List.length_cons];omega,fun s hs=>?_,by simp [gN];omega⟩
 simp only [gN] at hs
 rcases List.mem_cons.1 hs with rfl|hs
 ·decide
 ·exact hf.2.1 s (List.mem_of_mem_tail (List.mem_filter.1 hs).1)
theorem aKe (hv:cU t) (hf:iB 999999999 t):lV (aCV t) t=some (if (kF t).1.length≤40 then (gN t.L.tail (kF t).1.length (kF t).2,(kF t).1,decide ((kF t).2.length≤300)) else (⟨0,0,[],[]⟩,[],false))∧(kF t).2.length≤451:=by
 obtain ⟨h1,_,h3⟩:=aGH hv
 obtain ⟨hok,h11⟩:=aFq hv
 obtain ⟨o1,o2⟩:=aJi hv 41 0 ([aCV t],[]) (by simp) (by omega) (fun S hS=>by simp at hS;subst hS;exact h3) (by simp) (by simp)
 have hlen:(kF t).2.length≤451:=o2
 refine ⟨?_,hlen⟩
 unfold lV
 have hf0:=aId hv (F:=[]) (by simp) h3 (by simp) []
 have e0:qZ id ([]:List (List Int)) (aCV t)=[aCV t]:=rfl
 rw [e0] at hf0
 rw [show eW [] ([]:List (bB × Int)) [] (aCV t)=_ from hf0,aG]
 simp only
 rw [show loop (fun x:List (List Int) × List (bB × Int) × List iC × Int=>dM t x.1 x.2.1 x.2.2.1 x.2.2.2) ([aCV t],mq 0 ([aCV t].map kS),[],0)=_ from o1,aG]
 obtain ⟨d1,d2,d3,d4,d5⟩:=aKd hv
 show (match (if (kF t).1.length≤40 then Sum.inl ((kF t).1,mq 0 ((kF t).1.map kS),(kF t).2.map (fG t.L.tail)) else Sum.inr (⟨0,0,[],[]⟩,[],false):(List (List Int) × List (bB × Int) × List iC) ⊕ (cN × List (List Int) × Bool)) with|.inl r=>iS r.1 r.2.1 r.2.2|.inr r=>some r)=_
 by_cases h40:(kF t).1.length≤40
 ·rw [if_pos h40,if_pos h40]
  simp only
  unfold iS
  rw [aGl (by simp;omega),aG,aHX hok h11 d3 (fun e he=>(d4 e he).2.1) (by omega),aG]
  unfold mB
  rw [show (⟨(gN t.L.tail (kF t).1.length (kF t).2).N,(gN t.L.tail (kF t).1.length (kF t).2).I,(gN t.L.tail (kF t).1.length (kF t).2).L,(gN t.L.tail (kF t).1.length (kF t).2).E⟩:cN)=gN t.L.tail (kF t).1.length (kF t).2 from rfl]
  rw [wH _ (aGm hv hf (by omega)),aG,aGj (b:=decide ((kF t).2.length≤300)) (by rw [decide_eq_true_iff];exact (foundT_ok hok h11 ⟨d5,h40⟩ d3 d4).symm)]
 ·rw [if_neg h40,if_neg h40]
theorem aBz (hv:cU t) (hf:iB 999999999 t):jW t=some (detS t):=by
 obtain ⟨h1,h2,h3⟩:=aGH hv
 obtain ⟨hok,h11⟩:=aFq hv
 obtain ⟨hc,hst⟩:=aJh hv
 obtain ⟨d1,d2,d3,d4,d5⟩:=aKd hv
 obtain ⟨x1,x2⟩:=aKe hv hf
 unfold jW detS
 rw [h2,aG,x1,aG]
 by_cases hs:Small (kF t)
 ·rw [if_pos hs,if_pos hs.1]
  simp only [decide_eq_true hs.2]
  rw [if_neg (by simp),aLe hok (by omega) d4,aG]
  have hl:=lts_eq (st:=((kF t).1.length:Int)) (ini:=0) (labels:=t.L) (M:=t.L.tail) (arcs:=(kF t).2.map (fG t.L.tail)) hst (fun s hs=>by rw [hc];simp [hs]) (by have:=hv.2.2.1.2.1;omega) (by simp;omega) (by rw [aJd hst (fun e he=>(d4 e he).2.1)];exact d3.imp aCy) (by omega)
  rw [aJd hst (fun e he=>(d4 e he).2.1),←hc] at hl
  rw [show (gN t.L.tail (kF t).1.length (kF t).2).N=((kF t).1.length:Int) from rfl,hl,aG]
 ·rw [if_neg hs]
  by_cases h40:(kF t).1.length≤40
  ·rw [if_pos h40]
   have:¬ (kF t).2.length≤300:=fun h=>hs ⟨h40,h⟩
   simp only [decide_eq_false this]
   rw [if_pos (by simp)]
  ·rw [if_neg h40]
   simp only
   rw [if_pos (by simp)]
end
end Gv
namespace Gv
open Go
theorem aMn (l:List bB) (a:Nat) (ha:a≤l.length) (h:l.length < 1000000000):∃ z:bB,loop (fun s:List bB × Int=>tA (a:Int) s.1 s.2) (l++[[]],(l.length:Int))=some (l.take a++z::l.drop a):=by
 have key:=zF (step:=fun s:List bB × Int=>tA (a:Int) s.1 s.2) (fun s=>∃ (k:Nat) (z:bB),s=(l.take k++z::l.drop k,(k:Int))∧a≤k∧k≤l.length) (fun s=>s.2.toNat)
  (fun x=>∃ z:bB,x=l.take a++z::l.drop a) (fun s hI=>?_) (s:=(l++[[]],(l.length:Int))) ⟨l.length,[],by simp,ha,Nat.le_refl _⟩
 ·obtain ⟨r,h1,z,rfl⟩:=key
  exact ⟨z,h1⟩
 ·obtain ⟨k,z,rfl,hak,hk⟩:=hI
  simp only [tA]
  have hlen:(l.take k++z::l.drop k).length=l.length+1:=by simp;omega
  by_cases h0:a < k
  ·have hk1:wr ((k:Int) - 1)=((k - 1:Nat):Int):=by rw [iV (by omega) (by omega)];omega
   rw [decide_eq_true (p:=(a:Int) < (k:Int)) (by omega),if_pos rfl,hk1,cZ (xs:=l.take k++z::l.drop k) (k:=k - 1) (by omega),aG,cZ (by omega),aG,wF _ (by omega),aG]
   left
   refine ⟨_,rfl,⟨k - 1,l[k - 1],?_,by omega,by omega⟩,by simp;omega⟩
   have e1:(l.take k++z::l.drop k)[k - 1]'(by omega)=l[k - 1]:=by
    rw [List.getElem_append_left (by simp;omega),List.getElem_take]
   rw [e1]
   have e2:(l.take k++z::l.drop k).set k l[k - 1]=l.take k++l[k - 1]::l.drop k:=by
    rw [List.set_append_right _ _ (by rw [List.length_take];omega)]
    simp [Nat.min_eq_left hk]
   have e3:l.take k=l.take (k - 1)++[l[k - 1]]:=by
    have:=List.take_add_one (l:=l) (i:=k - 1)
    rw [show k - 1+1=k by omega,List.getElem?_eq_getElem (by omega)] at this
    exact this
   have e4:l.drop (k - 1)=l[k - 1]::l.drop k:=by
    have:=List.drop_eq_getElem_cons (l:=l) (i:=k - 1) (by omega)
    rw [show k - 1+1=k by omega] at this
    exact this
   simp only [Prod.mk.injEq,and_true]
   rw [e2,e3,e4,List.append_assoc];rfl
  ·obtain rfl:k=a:=by omega
   right
   rw [decide_eq_false (p:=(k:Int) < (k:Int)) (by omega),if_neg (by simp)]
   exact ⟨_,rfl,z,rfl⟩
theorem join_find (l:List bB) (e:bB) (h1:1≤l.length) (h:l.length < 1000000000):∃ a:Nat,loop (fun s:Int=>pO l e s) 1=some (a:Int)∧1≤a∧a≤l.length∧(∀ (j:Nat) x,1≤j→j < a→l[j]?=some x→vU x e=true)∧(∀ x,l[a]?=some x→vU x e=false):=by
 have key:=zF (step:=fun s:Int=>pO l e s) (fun s=>∃ a:Nat,s=(a:Int)∧1≤a∧a≤l.length∧∀ (j:Nat) x,1≤j→j < a→l[j]?=some x→vU x e=true) (fun s=>l.length - s.toNat)
  (fun r=>∃ a:Nat,r=(a:Int)∧1≤a∧a≤l.length∧(∀ (j:Nat) x,1≤j→j < a→l[j]?=some x→vU x e=true)∧(∀ x,l[a]?=some x→vU x e=false)) (fun s hI=>?_) (s:=1) ⟨1,rfl,Nat.le_refl _,h1,fun j x g1 g2=>by omega⟩
 ·obtain ⟨r,hr,a,rfl,h2⟩:=key
  exact ⟨a,hr,h2⟩
 ·obtain ⟨a,rfl,ha1,ha,hall⟩:=hI
  by_cases hlt:a < l.length
  ·have hx:l[a]?=some l[a]:=List.getElem?_eq_getElem hlt
   simp only [pO,cS hlt,if_pos,cZ hlt,aG,tB]
   cases he:vU l[a] e with
   |true=>
    left
    refine ⟨_,by rw [if_pos rfl,cH hlt (by omega)],⟨a+1,rfl,by omega,by omega,fun j x g1 g2 hj=>?_⟩,by simp;omega⟩
    by_cases e1:j=a
    ·subst e1;rw [hx] at hj;cases hj;exact he
    ·exact hall j x g1 (by omega) hj
   |false=>
    right
    refine ⟨_,by rw [if_neg (by simp)],a,rfl,ha1,ha,hall,fun x hj=>?_⟩
    rw [hx] at hj;cases hj;exact he
  ·obtain rfl:a=l.length:=by omega
   right
   refine ⟨_,by simp only [pO,dJ,tB];rw [if_neg (by simp),if_neg (by simp)],_,rfl,ha1,Nat.le_refl _,hall,fun x hx=>?_⟩
   rw [List.getElem?_eq_none (Nat.le_refl _)] at hx;cases hx
theorem join_step (xs:List bB) (M:List bB) (hM:oL M) (hl:M.length < 1000000) (hx:xs.length < 1000000) {k:Nat} (hk:k < xs.length):∃ M',nI xs (cE::M) (k:Int)=some (.inl (cE::M',((k+1:Nat):Int)))∧oL M'∧(∀ s,s∈M'↔s∈M∨(s=xs[k]∧s≠cE))∧M'.length≤M.length+1:=by
 have hw:=cH hk (show xs.length < 4611686018427387904 by omega)
 simp only [nI,cS hk,if_pos,cZ hk,aG,aBx (cE::M) xs[k] (by simp;omega),sZ,hw]
 by_cases hm:xs[k]∈cE::M
 ·rw [if_pos (by simpa using tH.2 hm)]
  refine ⟨M,rfl,hM,fun s=>⟨.inl,?_⟩,by omega⟩
  rintro (h|⟨rfl,h⟩)
  ·exact h
  ·rcases List.mem_cons.1 hm with h'|h'
   ·exact absurd h' h
   ·exact h'
 ·rw [if_neg (by have:¬ 0≤pos (cE::M) xs[k]:=fun h=>hm (tH.1 h);simpa using this)]
  have hne:xs[k]≠cE:=fun h=>hm (by rw [h];simp)
  have hnm:xs[k]∉M:=fun h=>hm (by simp [h])
  obtain ⟨a,h1,h2,h3,h4,h5⟩:=join_find (cE::M) xs[k] (by simp) (by simp;omega)
  rw [h1,aG]
  unfold xG
  rw [eN (by simp [jK];omega),aG]
  have hk1:wr ((((cE::M)++([([]:bB)]:List bB)).length:Int) - 1)=((cE::M).length:Int):=by
   simp only [List.length_append,List.length_cons,List.length_nil]
   rw [iV (by omega) (by omega)];omega
  rw [hk1]
  obtain ⟨z,hz⟩:=aMn (cE::M) a h3 (by simp;omega)
  rw [hz,aG]
  unfold xF
  have hlen:((cE::M).take a++z::(cE::M).drop a).length=(cE::M).length+1:=by simp;omega
  rw [cZ (by omega),aG,wF _ (by omega),aG]
  have e2:((cE::M).take a++z::(cE::M).drop a).set a xs[k]=(cE::M).take a++xs[k]::(cE::M).drop a:=by
   rw [List.set_append_right _ _ (by rw [List.length_take];omega),List.length_take,Nat.min_eq_left h3,Nat.sub_self];rfl
  rw [e2]
  obtain ⟨b,rfl⟩:∃ b,a=b+1:=⟨a - 1,by omega⟩
  have h3':b≤M.length:=by simpa using h3
  have hbef:∀ x∈M.take b,vU x xs[k]=true:=fun x hx=>by
   obtain ⟨j,hj,rfl⟩:=List.getElem_of_mem hx
   rw [List.length_take] at hj
   exact h4 (j+1) _ (by omega) (by omega) (by rw [List.getElem_take,List.getElem?_cons_succ];exact List.getElem?_eq_getElem (by omega))
  have haft:∀ x∈M.drop b,vU xs[k] x=true:=fun x hx=>by
   obtain ⟨j,hj,rfl⟩:=List.getElem_of_mem hx
   rw [List.length_drop] at hj
   have hb:b < M.length:=by omega
   have g:vU M[b] xs[k]=false:=h5 _ (by rw [List.getElem?_cons_succ];exact List.getElem?_eq_getElem hb)
   have g2:vU xs[k] M[b]=true:=by
    rcases aGE xs[k] M[b] with t|t|t
    ·exact t
    ·exact absurd (t ▸ List.getElem_mem hb) hnm
    ·rw [g] at t;cases t
   rw [List.getElem_drop]
   by_cases j0:j=0
   ·subst j0;exact g2
   ·exact wG g2 (List.pairwise_iff_getElem.1 hM.1 b (b+j) hb (by omega) (by omega))
  refine ⟨M.take b++xs[k]::M.drop b,by unfold sZ;rw [hw];rfl,⟨?_,fun h=>?_⟩,fun s=>?_,by simp;omega⟩
  ·have hs':(M.take b++M.drop b).Pairwise fun a b=>vU a b=true:=by rw [List.take_append_drop];exact hM.1
   rw [List.pairwise_append] at hs'
   rw [List.pairwise_append,List.pairwise_cons]
   refine ⟨hs'.1,⟨haft,hs'.2.1⟩,fun x hx y hy=>?_⟩
   rcases List.mem_cons.1 hy with rfl|hy
   ·exact hbef x hx
   ·exact wG (hbef x hx) (haft y hy)
  ·rw [List.mem_append,List.mem_cons] at h
   rcases h with h|h|h
   ·exact hM.2 (List.mem_of_mem_take h)
   ·exact hne h.symm
   ·exact hM.2 (List.mem_of_mem_drop h)
  ·rw [List.mem_append,List.mem_cons]
   conv=>rhs;rw [←List.take_append_drop b M,List.mem_append]
   constructor
   ·rintro (g|g|g)
    ·simp [g]
    ·exact .inr ⟨g,g ▸ hne⟩
    ·simp [g]
   ·rintro ((g|g)|⟨g,_⟩)<;>simp [g]
theorem aLn (xs:List bB) (hx:xs.length < 1000000):∃ M,qT xs=some (cE::M)∧oL M∧(∀ s,s∈M↔s∈xs∧s≠cE)∧M.length≤xs.length:=by
 have key:=mQ (step:=fun s:List bB × Int=>nI xs s.1 s.2) xs.length (fun k (M:List bB)=>(cE::M,(k:Int))) (fun k M=>oL M∧(∀ s,s∈M↔s∈xs.take k∧s≠cE)∧M.length≤k)
  (fun r=>∃ M,r=cE::M∧oL M∧(∀ s,s∈M↔s∈xs∧s≠cE)∧M.length≤xs.length) (fun k M hk hI=>?_) (fun M hI=>?_) xs.length 0 [] (by omega) ⟨⟨by simp,by simp⟩,by simp,by simp⟩
 ·obtain ⟨r,h1,M,rfl,h2⟩:=key
  refine ⟨M,?_,h2⟩
  unfold qT
  rw [show loop (fun s:List bB × Int=>nI xs s.1 s.2) ([[116,97,117]],0)=some (cE::M) from h1];rfl
 ·obtain ⟨i1,i2,i3⟩:=hI
  obtain ⟨M',g1,g2,g3,g4⟩:=join_step xs M i1 (by omega) hx hk
  refine ⟨M',g1,g2,fun s=>?_,by omega⟩
  rw [g3 s,i2 s,List.take_add_one,List.getElem?_eq_getElem hk,List.mem_append]
  simp only [Option.toList_some,List.mem_singleton]
  constructor
  ·rintro (⟨a,b⟩|⟨a,b⟩)
   ·exact ⟨.inl a,b⟩
   ·exact ⟨.inr a,b⟩
  ·rintro ⟨a|a,b⟩
   ·exact .inl ⟨a,b⟩
   ·exact .inr ⟨a,b⟩
 ·obtain ⟨i1,i2,i3⟩:=hI
  rw [List.take_length] at i2
  exact ⟨_,by simp only [nI,dJ];rfl,M,rfl,i1,i2,i3⟩
theorem aLo {M M':List bB} (h:oL M) (h':oL M') (hm:∀ s,s∈M↔s∈M'):M=M':=
 yJ (R:=fun a b=>vU a b=true) (fun a h=>by rw [oH] at h;cases h) wG h.1 h'.1 hm
theorem aGI {A B:List Edge} (h:SE A) (h':SE B) (hm:∀ x,x∈A↔x∈B):A=B:=
 yJ (R:=fun a b=>gI a b=true) (fun a h=>by rw [aAw] at h;cases h) (fun h1 h2=>aCe h1 h2) h h' hm
theorem make_gen {texts M:List bB} {edges Eo:List Edge} (ht:texts.length < 1000000) (hM:oL M) (hm:∀ s,s∈M↔s∈texts∧s≠cE) (hlen:edges.length < 1000000) (hin:∀ e∈edges,0≤e.B∧e.B < texts.length)
  (hEE:SE Eo) (he:∀ x,x∈Eo↔∃ e∈edges,x=⟨e.F,pos (cE::M) (texts.getD e.B.toNat []),e.To⟩) (st ini:Int):aCr st ini texts edges=some ⟨st,ini,cE::M,Eo⟩:=by
 obtain ⟨M',j1,j2,j3,j4⟩:=aLn texts ht
 obtain rfl:M'=M:=aLo j2 hM fun s=>(j3 s).trans (hm s).symm
 unfold aCr
 rw [j1,aG]
 have key:=mQ (step:=fun s:List Edge × Int=>pQ texts edges (cE::M') s.1 s.2) edges.length (fun k (a:List Edge)=>(a,(k:Int))) (fun k a=>SE a∧(∀ x,x∈a↔∃ e∈edges.take k,x=⟨e.F,pos (cE::M') (texts.getD e.B.toNat []),e.To⟩)∧a.length≤k)
  (fun x=>x=Eo) (fun k a hk hI=>?_) (fun a hI=>?_) edges.length 0 [] (by omega) ⟨List.Pairwise.nil,by simp,by simp⟩
 ·obtain ⟨x,hx,hx2⟩:=key
  have hx':loop (fun s:List Edge × Int=>pQ texts edges (cE::M') s.1 s.2) (([]:List Edge),0)=some x:=hx
  rw [hx',aG,hx2];rfl
 ·obtain ⟨hs,hmem,hl⟩:=hI
  have hi:=hin _ (List.getElem_mem hk)
  have hlt:edges[k].B.toNat < texts.length:=by omega
  have hgd:texts.getD edges[k].B.toNat []=texts[edges[k].B.toNat]:=by rw [List.getD_eq_getElem?_getD,List.getElem?_eq_getElem hlt];rfl
  simp only [pQ,cS hk,if_pos,cZ hk,aG]
  rw [aIM hi.1 hlt,aG,aBx _ _ (by simp;omega),aG,←hgd]
  obtain ⟨l',h1,h2,h3,h4⟩:=aKH a ⟨edges[k].F,pos (cE::M') (texts.getD edges[k].B.toNat []),edges[k].To⟩ (by omega) hs
  rw [h1,aG]
  refine ⟨l',by rw [cH hk (show edges.length < 4611686018427387904 by omega)],h2,fun x=>?_,by omega⟩
  rw [h3,hmem,List.take_add_one,List.getElem?_eq_getElem hk]
  simp only [Option.toList_some,List.mem_append,List.mem_singleton]
  constructor
  ·rintro (g|⟨e,g1,g2⟩)
   ·exact ⟨_,.inr rfl,g⟩
   ·exact ⟨e,.inl g1,g2⟩
  ·rintro ⟨e,g1|rfl,g2⟩
   ·exact .inr ⟨e,g1,g2⟩
   ·exact .inl g2
 ·obtain ⟨hs,hmem,hl⟩:=hI
  rw [List.take_length] at hmem
  exact ⟨a,by simp only [pQ,dJ];rfl,aGI hs hEE fun x=>(hmem x).trans (he x).symm⟩
theorem lts_gen {st ini:Int} {labels M:List bB} {arcs:List iC} {Eo:List Edge} (hM:oL M) (hm:∀ s,s∈M↔s∈labels∧s≠cE) (h1:labels.length < 1000000) (h2:arcs.length < 1000000)
  (hn:(arcs.map fun a=>(⟨a.from_,pos (cE::M) a.label,a.to_⟩:Edge)).Nodup) (hEE:SE Eo) (he:∀ x,x∈Eo↔x∈arcs.map fun a=>(⟨a.from_,pos (cE::M) a.label,a.to_⟩:Edge)) (h3:M.length < 1000000):
  aDA st ini labels arcs=some ⟨st,ini,cE::M,Eo⟩:=by
 unfold aDA
 rw [show ([116,97,117]:bB)=cE from rfl,eN (by simp [jK];omega),aG]
 have e1:yA ([cE]++labels)=some (srt rB ([cE]++labels)):=by unfold yA;rw [if_pos (by simp [jK];omega)]
 rw [e1,aG,aGk _ (by unfold srt;rw [List.length_mergeSort];simp;omega),aG]
 rw [aJb rB yK aDK aDX hM.lab (fun x=>?_)]
 ·rw [aAR (step:=fun s:List Edge × Int=>xN arcs (cE::M) s.1 s.2) arcs (fun a=>(⟨a.from_,pos (cE::M) a.label,a.to_⟩:Edge)) id (fun k out x hk ho hx=>?_) (fun out=>by simp only [xN,dJ];rfl),aG]
  ·unfold aCt
   have hst:=aGB gI aAw aCe aHE hn
   have e2:vI (id (arcs.map fun a=>(⟨a.from_,pos (cE::M) a.label,a.to_⟩:Edge)))=some Eo:=by
    unfold vI;rw [if_pos (by simp [jK];omega),id,aGI hst hEE fun x=>by unfold srt;rw [List.mem_mergeSort];exact (he x).symm]
   have hEl:Eo.length=arcs.length:=by
    rw [←aGI hst hEE fun x=>by unfold srt;rw [List.mem_mergeSort];exact (he x).symm]
    unfold srt;rw [List.length_mergeSort,List.length_map]
   rw [e2,aG,aFm _ (by omega) hEE,aG]
  ·simp only [xN,cS hk,if_pos,hx,aG,aIV _ _ (show (cE::M).length < 4611686018427387904 by simp;omega),cH hk (show arcs.length < 4611686018427387904 by omega)]
   rw [eN (by simp [jK];omega),aG]
 ·by_cases e:x=cE
  ·subst e;simp
  ·simp [e,hm x]
end Gv
namespace Gv
open Go
structure Jn (a b:cN) (M:List bB):Prop where
 str:oL M
 mem:∀ s,s∈M↔s∈a.L++b.L∧s≠cE
 len:M.length≤24
def mH (b:cN) (M:List bB) (y:Int) (a:cN) (e:Edge):Option (Int × (Int × Int)):=if xW b y (tJ a e) < 0 then none else some (pos (cE::M) (tJ a e),(e.To,xW b y (tJ a e)))
def dO (a:cN) (x:Int):List Edge:=a.E.filter fun e=>e.F == x
def gF (a b:cN) (M:List bB) (q:Int × Int):List (Int × (Int × Int)):=(dO a q.1).filterMap (mH b M q.2 a)
def inQ (a b:cN) (q:Int × Int):Prop:=(0≤q.1∧q.1 < a.N)∧0≤q.2∧q.2 < b.N
section
variable {a b:cN} {M:List bB}
theorem aIe (ha:fP a) (hJ:Jn a b M) {e:Edge} (he:e∈a.E):tJ a e∈M∧tJ a e≠cE:=by
 have h0:e.B≠0:=by
  obtain ⟨k,hk,rfl⟩:=List.mem_iff_getElem.1 he
  exact (ha.2 k hk).1
 have hb:=tT ha.1 he
 have hlt:e.B.toNat < a.L.length:=by omega
 have e1:tJ a e=a.L[e.B.toNat]:=by unfold tJ;rw [List.getD_eq_getElem?_getD,List.getElem?_eq_getElem hlt];rfl
 have h2:=(ha.1.2.2.1.2.2.2 e.B.toNat (by omega) hlt).2.1
 rw [←e1] at h2
 refine ⟨(hJ.mem _).2 ⟨List.mem_append_left _ (e1 ▸ List.getElem_mem hlt),h2⟩,h2⟩
theorem qN {x:Int} {e:Edge} (h:e∈dO a x):e∈a.E∧e.F=x:=by
 have:=List.mem_filter.1 h
 exact ⟨this.1,by simpa using this.2⟩
theorem aGJ (ha:cU a) (hb:cU b) (q:Int × Int):∀ x∈gF a b M q,inQ a b x.2:=by
 intro x hx
 obtain ⟨e,he,h⟩:=List.mem_filterMap.1 hx
 unfold mH at h
 split at h
 ·cases h
 ·rename_i hg
  cases h
  have h1:=tT ha (qN he).1
  have h2:=aEF hb q.2 (tJ a e)
  unfold inQ
  simp only
  omega
theorem aCE (ha:cU a) (hb:cU b) {F:List (Int × Int)} (hn:F.Nodup) (hF:∀ q∈F,inQ a b q):F.length≤1600:=by
 have h1:=ha.1;have h2:=hb.1
 have:=List.Nodup.length_le_of_subset (l₂:=(List.range 1600).map fun (i:Nat)=>(((i / 40:Nat):Int),((i % 40:Nat):Int))) hn (fun q hq=>by
  have:=hF q hq
  unfold inQ at this
  rw [List.mem_map]
  refine ⟨q.1.toNat * 40+q.2.toNat,by rw [List.mem_range];omega,?_⟩
  obtain ⟨x,y⟩:=q
  simp only [Prod.mk.injEq] at this ⊢
  omega)
 simpa using this
theorem aJj (ha:fP a) (x:Int):(dO a x).Pairwise fun e f=>e.B < f.B:=by
 have h1:a.E.Pairwise wL:=List.pairwise_iff_getElem.2 fun i j hi hj hij=>aLa ha.1 ha.2 hij hj
 have h2:(dO a x).Pairwise wL:=h1.filter _
 refine h2.imp_of_mem ?_
 intro e f he hf h
 have h3:=(qN he).2
 have h4:=(qN hf).2
 unfold wL at h
 omega
theorem lab_lt (ha:fP a) (hJ:Jn a b M) {e f:Edge} (he:e∈a.E) (hf:f∈a.E) (h:e.B < f.B):pos (cE::M) (tJ a e) < pos (cE::M) (tJ a f):=by
 have h1:=aIe ha hJ he
 have h2:=aIe ha hJ hf
 refine pos_lt (R:=fun a b=>rB a b=true) (fun {a b} h h'=>by have:=aDK h h';rw [yK] at this;cases this) hJ.str.lab (by simp [h1.1]) (by simp [h2.1]) ?_
 have hb1:=tT ha.1 he
 have hb2:=tT ha.1 hf
 have h0:e.B≠0:=by
  obtain ⟨k,hk,rfl⟩:=List.mem_iff_getElem.1 he
  exact (ha.2 k hk).1
 have hl1:e.B.toNat < a.L.length:=by omega
 have hl2:f.B.toNat < a.L.length:=by omega
 have e1:tJ a e=a.L[e.B.toNat]:=by unfold tJ;rw [List.getD_eq_getElem?_getD,List.getElem?_eq_getElem hl1];rfl
 have e2:tJ a f=a.L[f.B.toNat]:=by unfold tJ;rw [List.getD_eq_getElem?_getD,List.getElem?_eq_getElem hl2];rfl
 have:=aLD ha.1.2.2.1 (i:=e.B.toNat) (j:=f.B.toNat) (by omega) (by omega) hl2
 rw [←e1,←e2] at this
 rw [tG]
 exact ⟨fun e=>(by rw [e,oH] at this;cases this),.inr ⟨h2.2,this⟩⟩
theorem aFY {y:Int} {e:Edge} {x:Int × (Int × Int)} (h:mH b M y a e=some x):x.1=pos (cE::M) (tJ a e):=by
 unfold mH at h
 split at h
 ·cases h
 ·cases h;rfl
theorem aLp (ha:fP a) (hJ:Jn a b M) (q:Int × Int):Inc 0 (M.length:Int) (gF a b M q):=by
 have key:∀ l:List Edge,(∀ e∈l,e∈a.E)→(l.Pairwise fun e f=>e.B < f.B)→(l.filterMap (mH b M q.2 a)).Pairwise fun x y=>x.1 < y.1:=by
  intro l
  induction l with
  |nil=>intro _ _;exact List.Pairwise.nil
  |cons e l ih=>
   intro hs hp
   rw [List.pairwise_cons] at hp
   have ih':=ih (fun e he=>hs e (by simp [he])) hp.2
   rw [List.filterMap_cons]
   cases hx:mH b M q.2 a e with
   |none=>exact ih'
   |some x=>
    simp only
    rw [List.pairwise_cons]
    refine ⟨fun y hy=>?_,ih'⟩
    obtain ⟨f,hf,hy⟩:=List.mem_filterMap.1 hy
    rw [aFY hx,aFY hy]
    exact lab_lt ha hJ (hs e (by simp)) (hs f (by simp [hf])) (hp.1 f hf)
 refine ⟨key _ (fun e he=>(qN he).1) (aJj ha q.1),fun x hx=>?_⟩
 obtain ⟨e,he,h⟩:=List.mem_filterMap.1 hx
 rw [aFY h]
 obtain ⟨h1,h2⟩:=aIe ha hJ (qN he).1
 obtain ⟨i,hi,e1,e2⟩:=kC (List.mem_cons_of_mem cE h1)
 rw [List.length_cons] at hi
 have:i≠0:=fun e=>by subst e;exact h2 e2.symm
 omega
theorem aLq (ha:cU a) (q:Int × Int):(gF a b M q).length≤300:=
 Nat.le_trans (List.length_filterMap_le _ _) (Nat.le_trans (List.length_filter_le _ _) ha.2.2.2.1)
def atQ (F:List (Int × Int)) (i:Int):Int × Int:=F.getD i.toNat (0,0)
theorem aGK {F:List (Int × Int)} {i:Nat} {q:Int × Int} (h:F[i]?=some q):atQ F (i:Int)=q:=by
 unfold atQ;rw [Int.toNat_natCast,List.getD_eq_getElem?_getD,h];rfl
theorem vF {F:List (Int × Int)} {i:Int} (h0:0≤i) (h:i < F.length):atQ F i∈F:=by
 unfold atQ;rw [List.getD_eq_getElem?_getD,List.getElem?_eq_getElem (by omega)];exact List.getElem_mem _
theorem aGL {F G:List (Int × Int)} (h:F <+:G) {i:Int} (h0:0≤i) (hi:i < F.length):atQ G i=atQ F i:=by
 have h1:F[i.toNat]?=some F[i.toNat]:=List.getElem?_eq_getElem (by omega)
 have h2:=aCF h h1
 unfold atQ
 rw [List.getD_eq_getElem?_getD,List.getD_eq_getElem?_getD,h1,h2]
theorem atQ_atK (F:List (Int × Int)) (q:Int × Int):atQ (qZ id F q) (atK id F q)=q:=by
 unfold qZ atK
 rw [List.map_id]
 by_cases h:id q∈F
 ·rw [if_pos h,if_pos h]
  obtain ⟨i,hi,e,e2⟩:=kC h
  rw [e]
  exact aGK (by rw [List.getElem?_eq_getElem hi,e2];rfl)
 ·rw [if_neg h,if_neg h]
  exact aGK (by simp)
theorem atQ_inj {F:List (Int × Int)} (hn:F.Nodup) {i j:Int} (hi:0≤i∧i < F.length) (hj:0≤j∧j < F.length) (h:atQ F i=atQ F j):i=j:=by
 unfold atQ at h
 rw [List.getD_eq_getElem?_getD,List.getElem?_eq_getElem (by omega),List.getD_eq_getElem?_getD,List.getElem?_eq_getElem (by omega)] at h
 simp only [Option.getD_some] at h
 have:=(List.getElem_inj hn).1 h
 omega
def Bnd (s:List (Int × Int) × List Edge):Prop:=∀ e∈s.2,(0≤e.F∧e.F < s.1.length)∧0≤e.To∧e.To < s.1.length
theorem Bnd.add {s:List (Int × Int) × List Edge} (h:Bnd s) {i:Nat} (hi:i < s.1.length) (x:Int × (Int × Int)):Bnd (kE id (i:Int) s x):=by
 intro e he
 have hl:=(uS (key:=id) s.1 x.2).length_le
 have ha:=atK_in (key:=id) s.1 x.2
 simp only [kE] at he ⊢
 rcases List.mem_append.1 he with he|he
 ·have:=h e he;omega
 ·simp at he;subst he
  simp only;omega
def imE (g:Int × Int→Int) (F:List (Int × Int)) (E:List Edge):List Edge:=E.map fun e=>⟨g (atQ F e.F),e.B,g (atQ F e.To)⟩
theorem imE_pre (g:Int × Int→Int) {F G:List (Int × Int)} (h:F <+:G) {E:List Edge} (hb:Bnd (F,E)):imE g G E=imE g F E:=by
 unfold imE
 refine List.map_congr_left fun e he=>?_
 have:=hb e he
 simp only at this
 rw [aGL h this.1.1 this.1.2,aGL h this.2.1 this.2.2]
theorem imE_add (g:Int × Int→Int) {s:List (Int × Int) × List Edge} (hb:Bnd s) {i:Nat} {q:Int × Int} (hi:s.1[i]?=some q) (x:Int × (Int × Int)):imE g (kE id (i:Int) s x).1 (kE id (i:Int) s x).2=imE g s.1 s.2++[⟨g q,x.1,g x.2⟩]:=by
 have hp:=uS (key:=id) s.1 x.2
 have h1:=imE_pre g hp (E:=s.2) hb
 simp only [kE]
 unfold imE at h1 ⊢
 rw [List.map_append,h1]
 simp only [List.map_cons,List.map_nil,atQ_atK]
 rw [aGK (aCF hp hi)]
theorem aJk {g:Int × Int→Int} {F:List (Int × Int)} {E:List Edge} (hb:Bnd (F,E)) (hn:F.Nodup) (hg:∀ p∈F,∀ q∈F,g p=g q→p=q) (hE:E.Pairwise wL):(imE g F E).Nodup:=by
 unfold imE List.Nodup
 rw [List.pairwise_map]
 refine hE.imp_of_mem ?_
 intro e f he hf h heq
 simp only [Edge.mk.injEq] at heq
 have h1:=hb e he
 have h2:=hb f hf
 simp only at h1 h2
 have:=atQ_inj hn h1.1 h2.1 (hg _ (vF h1.1.1 h1.1.2) _ (vF h2.1.1 h2.1.2) heq.1)
 unfold wL at h
 omega
def gO (a b:cN) (M:List bB):List (Int × Int) × List Edge:=rG id (gF a b M) 1600 1601 0 ([(a.I,b.I)],[])
theorem aGM (ha:cU a) (hb:cU b):inQ a b (a.I,b.I):=by
 have h1:=ha.2.1;have h2:=hb.2.1
 unfold inQ;simp only;omega
theorem aDY (ha:fP a) (hb:fP b) (hJ:Jn a b M):(gO a b M).1.Nodup∧(∀ q∈(gO a b M).1,inQ a b q)∧(gO a b M).2.Pairwise wL∧(∀ e∈(gO a b M).2,(0≤e.F∧e.F < (gO a b M).1.length)∧(1≤e.B∧e.B≤M.length)∧0≤e.To∧e.To < (gO a b M).1.length)∧
  (gO a b M).1[0]?=some (a.I,b.I):=by
 have hg:∀ q∈([(a.I,b.I)],([]:List Edge)).1,inQ a b q:=fun q hq=>by simp at hq;subst hq;exact aGM ha.1 hb.1
 have hP:∀ q,inQ a b q→∀ x∈gF a b M q,inQ a b x.2:=fun q _=>aGJ ha.1 hb.1 q
 obtain ⟨g1,g2⟩:=aJZ (key:=id) hP 1600 1601 0 ([(a.I,b.I)],[]) (by simp) hg
 obtain ⟨j,hj,hE⟩:=aKb (key:=id) (L:=M) hP (fun q _=>aLp ha hJ q) 1600 1601 0 ([(a.I,b.I)],[]) hg (by simp) ⟨by simp,fun e he=>by simp at he⟩
 obtain ⟨e1,e2⟩:=hE.done hj
 rw [List.map_id] at g1
 exact ⟨g1,g2,e1,e2,aCF (aFp (key:=id) (gF a b M) 1600 1601 0 ([(a.I,b.I)],[])).1 rfl⟩
def oI (a b:cN) (M:List bB):List (Int × Int):=srt aAY (gO a b M).1
def edP (a b:cN) (M:List bB):List Edge:=srt gI (imE (pos (oI a b M)) (gO a b M).1 (gO a b M).2)
def lX (a b:cN) (M:List bB):cN:=⟨((gO a b M).1.length:Int),pos (oI a b M) (a.I,b.I),cE::M,edP a b M⟩
theorem wJ (p q:Int × Int):aAY p q=true↔p.1 < q.1∨(p.1=q.1∧p.2 < q.2):=by
 simp [aAY]
theorem aDM (ha:fP a) (hb:fP b) (hJ:Jn a b M):(oI a b M).Pairwise fun p q=>aAY p q=true:=by
 refine aGB aAY (fun p=>?_) (fun {p q r} h1 h2=>?_) (fun p q=>?_) (aDY ha hb hJ).1
 ·cases h:aAY p p with
  |false=>rfl
  |true=>rw [wJ] at h;omega
 ·rw [wJ] at *;omega
 ·rw [wJ,wJ]
  obtain ⟨p1,p2⟩:=p
  obtain ⟨q1,q2⟩:=q
  simp only [Prod.mk.injEq]
  omega
theorem uT {q:Int × Int}:q∈oI a b M↔q∈(gO a b M).1:=by unfold oI srt;rw [List.mem_mergeSort]
theorem aIf:(oI a b M).length=(gO a b M).1.length:=by unfold oI srt;rw [List.length_mergeSort]
theorem pos_one {p q:Int × Int} {O:List (Int × Int)} (hp:p∈O) (hq:q∈O) (h:pos O p=pos O q):p=q:=by
 obtain ⟨i,hi,e1,e2⟩:=kC hp
 obtain ⟨j,hj,e3,e4⟩:=kC hq
 have:i=j:=by omega
 subst this
 exact e2.symm.trans e4
theorem aLr (ha:fP a) (hb:fP b) (hJ:Jn a b M):Bnd (gO a b M):=fun e he=>by
 have:=(aDY ha hb hJ).2.2.2.1 e he
 exact ⟨this.1,this.2.2⟩
theorem aJl (ha:fP a) (hb:fP b) (hJ:Jn a b M):(imE (pos (oI a b M)) (gO a b M).1 (gO a b M).2).Nodup:=by
 obtain ⟨g1,_,g3,_,_⟩:=aDY ha hb hJ
 exact aJk (aLr ha hb hJ) g1 (fun p hp q hq=>pos_one (uT.2 hp) (uT.2 hq)) g3
theorem edP_se (ha:fP a) (hb:fP b) (hJ:Jn a b M):SE (edP a b M):=aGB gI aAw aCe aHE (aJl ha hb hJ)
theorem aKf {e:Edge}:e∈edP a b M↔e∈imE (pos (oI a b M)) (gO a b M).1 (gO a b M).2:=by unfold edP srt;rw [List.mem_mergeSort]
theorem aGN:(edP a b M).length=(gO a b M).2.length:=by unfold edP srt imE;rw [List.length_mergeSort,List.length_map]
theorem aKg (ha:fP a) (hb:fP b) {q:Int × Int} (hq:q∈(gO a b M).1):0≤pos (oI a b M) q∧pos (oI a b M) q < (gO a b M).1.length:=by
 obtain ⟨i,hi,e1,e2⟩:=kC (uT.2 hq)
 rw [aIf] at hi
 omega
theorem aLs (ha:fP a) (hb:fP b) (hJ:Jn a b M):cU (lX a b M)↔(M.length≤11∧Small (gO a b M)):=by
 obtain ⟨g1,g2,g3,g4,g5⟩:=aDY ha hb hJ
 have hi0:=aKg (M:=M) ha hb (List.mem_of_getElem? g5)
 have h0:1≤(gO a b M).1.length:=by have:=(List.getElem?_eq_some_iff.1 g5).1;omega
 constructor
 ·rintro ⟨h1,h2,h3,h4⟩
  have:=h3.2.1
  have e1:=h4.1
  unfold lX at *
  simp only [List.length_cons,aGN] at *
  exact ⟨by omega,by omega,e1⟩
 ·rintro ⟨h1,h2,h3⟩
  refine ⟨by simp only [lX];omega,by simp only [lX];omega,⟨by simp [lX],by simp [lX];omega,fun _=>rfl,fun k hk1 hk=>?_⟩,by simp only [lX,aGN];omega,fun k hk=>⟨?_,fun hk1=>?_⟩⟩
  ·simp only [lX,List.length_cons] at hk
   obtain ⟨j,rfl⟩:∃ j,k=j+1:=⟨k - 1,by omega⟩
   have hm:M[j]'(by omega)∈M:=List.getElem_mem _
   obtain ⟨m1,m2⟩:=(hJ.mem _).1 hm
   have hlab:aBv (M[j]'(by omega))=true:=by
    have key:∀ (t:cN),cU t→∀ s∈t.L,s≠cE→aBv s=true:=fun t ht s hs hne=>by
     obtain ⟨i,hi,rfl⟩:=List.mem_iff_getElem.1 hs
     have i0:i≠0:=fun e=>by subst e;exact hne (ht.2.2.1.2.2.1 _)
     exact (ht.2.2.1.2.2.2 i (by omega) hi).1
    rcases List.mem_append.1 m1 with h|h
    ·exact key a ha.1 _ h m2
    ·exact key b hb.1 _ h m2
   refine ⟨by simpa [lX] using hlab,by simpa [lX] using m2,fun h2=>?_⟩
   obtain ⟨i,rfl⟩:∃ i,j=i+1:=⟨j - 1,by omega⟩
   have:=List.pairwise_iff_getElem.1 hJ.str.1 i (i+1) (by omega) (by omega) (by omega)
   simpa [lX] using this
  ·have hm:=aKf.1 (List.getElem_mem hk:(lX a b M).E[k]∈edP a b M)
   unfold imE at hm
   obtain ⟨e,he,h⟩:=List.mem_map.1 hm
   have hb':=g4 e he
   have p1:=aKg (M:=M) ha hb (vF hb'.1.1 hb'.1.2)
   have p2:=aKg (M:=M) ha hb (vF hb'.2.2.1 hb'.2.2.2)
   rw [←h]
   unfold tS lX
   simp only [List.length_cons]
   omega
  ·exact List.pairwise_iff_getElem.1 (edP_se ha hb hJ) (k - 1) k (by have:(lX a b M).E=edP a b M:=rfl;rw [this] at hk;omega) hk (by omega)
end
end Gv
namespace Gv
open Go
theorem name_eq (s:bB) (h:s.length < 4611686018427387904):kX s=some (iH 40 s).1:=by
 unfold kX
 rw [aHC s h,aG]
 have hl:=(aIX 40 s).1
 have ha:=aAQ 40 s
 have:zH s 0 ((iH 40 s).1.length:Int)=some (iH 40 s).1:=by
  unfold zH
  rw [if_pos ⟨by omega,by omega,by omega⟩]
  simp only [Int.toNat_natCast,Int.toNat_zero,List.drop_zero,Nat.sub_zero]
  congr 1
  generalize iH 40 s=c at ha ⊢
  rw [ha,List.take_append_of_le_length (Nat.le_refl _),List.take_length]
 rw [this];rfl
structure Shd (M sh:List bB):Prop where
 len:sh.length≤1000
 mem:∀ s∈M,(iH 40 s).1∈sh
theorem shared_eq {a b:cN} {M:List bB} (hj:qT (a.L++b.L)=some (cE::M)) (hl:a.L.length+b.L.length≤24) (hM:M.length≤24) (hs:∀ s∈M,s.length≤999999999):∃ sh,aAk a b=some sh∧Shd M sh:=by
 unfold aAk
 rw [eN (by simp [jK];omega),aG,List.nil_append,eN (by simp [jK];omega),aG,hj,aG]
 have key:=mQ (step:=fun s:List bB × Int=>mM (cE::M) s.1 s.2) (cE::M).length (fun k (o:List bB)=>(o,(k:Int))) (fun k o=>1≤k∧o.length≤k∧∀ (j:Nat) s,1≤j→j < k→(cE::M)[j]?=some s→(iH 40 s).1∈o)
  (fun r=>Shd M r) (fun k o hk hI=>?_) (fun o hI=>?_) M.length 1 [] (by simp;omega) ⟨Nat.le_refl _,by simp,fun j s h1 h2=>by omega⟩
 ·obtain ⟨r,h1,h2⟩:=key
  rw [show loop (fun s:List bB × Int=>mM (cE::M) s.1 s.2) ([],1)=some r from h1]
  exact ⟨r,rfl,h2⟩
 ·obtain ⟨k1,ho,hm⟩:=hI
  have hk':k≤M.length:=by simpa using Nat.lt_succ_iff.1 hk
  have hx:(cE::M)[k]?=some (cE::M)[k]:=List.getElem?_eq_getElem hk
  have hmem:(cE::M)[k]∈M:=by
   obtain ⟨j,rfl⟩:∃ j,k=j+1:=⟨k - 1,by omega⟩
   rw [List.getElem_cons_succ];exact List.getElem_mem _
  have hsl:=hs _ hmem
  simp only [mM,cS hk,if_pos,cZ hk,aG,name_eq (cE::M)[k] (by omega),aBx o _ (show o.length < 4611686018427387904 by omega),rW,cH hk (show (cE::M).length < 4611686018427387904 by simp;omega)]
  by_cases hin:(iH 40 (cE::M)[k]).1∈o
  ·rw [if_neg (by have:=tH.2 hin;simpa using this)]
   refine ⟨o,rfl,by omega,by omega,fun j s h1 h2 h3=>?_⟩
   by_cases e:j=k
   ·subst e;rw [hx] at h3;cases h3;exact hin
   ·exact hm j s h1 (by omega) h3
  ·rw [if_pos (by have:¬ 0≤pos o (iH 40 (cE::M)[k]).1:=fun h=>hin (tH.1 h);simpa using this),eN (by simp [jK];omega),aG]
   refine ⟨_,rfl,by omega,by simp;omega,fun j s h1 h2 h3=>?_⟩
   by_cases e:j=k
   ·subst e;rw [hx] at h3;cases h3;simp
   ·exact List.mem_append_left _ (hm j s h1 (by omega) h3)
 ·obtain ⟨k1,ho,hm⟩:=hI
  refine ⟨o,by simp only [mM,dJ];rfl,by simp at ho;omega,fun s hs=>?_⟩
  obtain ⟨j,hj,rfl⟩:=List.mem_iff_getElem.1 hs
  exact hm (j+1) _ (by omega) (by simp;omega) (by rw [List.getElem?_cons_succ];exact List.getElem?_eq_getElem hj)
theorem aKh {β γ ρ:Type} {step:(List γ × Int)→Option ((List γ × Int) ⊕ ρ)} (xs:List β) (p:β→Bool) (f:β→γ) (e:List γ→ρ) (N:Nat)
  (h:∀ (k:Nat) out x,k < xs.length→out.length≤N+k→ix xs (k:Int)=some x→step (out,(k:Int))=some (.inl (if p x=true then out++[f x] else out,((k+1:Nat):Int))))
  (h':∀ out,step (out,(xs.length:Int))=some (.inr (e out))) {o:List γ} (ho:o.length≤N):loop step (o,0)=some (e (o++(xs.filter p).map f)):=by
 have:=nF (step:=step) xs (fun k out=>(out,(k:Int))) (fun l out=>e (out++(l.filter p).map f)) (fun k out=>out.length≤N+k) (fun k a x l hk hx hI=>?_) (fun a _=>by simp [h']) (a:=o) (by simpa using ho)
 ·exact this
 ·left;rw [h k a x hk hI hx]
  by_cases hp:p x=true
  ·exact ⟨a++[f x],by rw [if_pos hp],by simp;omega,by simp [hp]⟩
  ·exact ⟨a,by rw [if_neg hp],by omega,by simp [hp]⟩
def nm (b:cN) (q:Int × Int):Int:=q.1 * b.N+q.2
section
variable {a b:cN} {M sh:List bB}
theorem nm_in (ha:cU a) (hb:cU b) {q:Int × Int} (hq:inQ a b q):0≤nm b q∧nm b q < 1600∧wr (wr (q.1 * b.N)+q.2)=nm b q∧(nm b q).tdiv b.N=q.1∧(nm b q).tmod b.N=q.2:=by
 have h1:=ha.1;have h2:=hb.1
 obtain ⟨⟨x0,x1⟩,y0,y1⟩:=hq
 have hm0:0≤q.1 * b.N:=Int.mul_nonneg x0 (by omega)
 have hm1:q.1 * b.N≤39 * b.N:=Int.mul_le_mul_of_nonneg_right (by omega) (by omega)
 have e0:0≤nm b q:=by unfold nm;omega
 refine ⟨e0,by unfold nm;omega,?_,?_,?_⟩
 ·unfold nm;rw [iV (x:=q.1 * b.N) (by omega) (by omega),iV (by omega) (by omega)]
 ·rw [Int.tdiv_eq_ediv_of_nonneg e0]
  unfold nm
  rw [Int.add_comm,Int.add_mul_ediv_right _ _ (by omega),Int.ediv_eq_zero_of_lt y0 y1,Int.zero_add]
 ·rw [Int.tmod_eq_emod_of_nonneg e0]
  unfold nm
  rw [Int.add_comm,Int.add_mul_emod_self_right,Int.emod_eq_of_lt y0 y1]
theorem nm_lt (hb:cU b) {p q:Int × Int} (hp:0≤p.2∧p.2 < b.N) (hq:0≤q.2∧q.2 < b.N):aAY p q=true↔nm b p < nm b q:=by
 have h2:=hb.1
 rw [wJ]
 unfold nm
 constructor
 ·rintro (h|⟨h,h'⟩)
  ·have:(p.1+1) * b.N≤q.1 * b.N:=Int.mul_le_mul_of_nonneg_right (by omega) (by omega)
   rw [Int.add_mul,Int.one_mul] at this
   omega
  ·rw [h];omega
 ·intro h
  rcases Int.lt_trichotomy p.1 q.1 with g|g|g
  ·exact .inl g
  ·right;rw [g] at h;omega
  ·exfalso
   have:(q.1+1) * b.N≤p.1 * b.N:=Int.mul_le_mul_of_nonneg_right (by omega) (by omega)
   rw [Int.add_mul,Int.one_mul] at this
   omega
theorem aIg (hb:cU b) {p q:Int × Int} (hp:0≤p.2∧p.2 < b.N) (hq:0≤q.2∧q.2 < b.N) (h:nm b p=nm b q):p=q:=by
 have h1:=nm_lt hb hp hq
 have h2:=nm_lt hb hq hp
 rw [wJ] at h1 h2
 obtain ⟨p1,p2⟩:=p
 obtain ⟨q1,q2⟩:=q
 simp only [Prod.mk.injEq] at *
 omega
def edR (b:cN) (q:Int × Int) (x:Int × (Int × Int)):Edge:=⟨nm b q,x.1,nm b x.2⟩
theorem fnd_has (ha:fP a) (hJ:Jn a b M) (hS:Shd M sh) (hsz:∀ s∈M,s.length≤999999999) {e:Edge} (he:e∈a.E):∃ z,kX (tJ a e)=some z∧mK sh z=some (pos sh z)∧0≤pos sh z:=by
 obtain ⟨h1,h2⟩:=aIe ha hJ he
 have:=hsz _ h1
 exact ⟨_,name_eq _ (by omega),aBx _ _ (by have:=hS.len;omega),tH.2 (hS.mem _ h1)⟩
theorem stepP_hit (hb:fP b) (q:Int × Int) (e:Edge):((dO b q.2).filter fun f=>tJ b f == tJ a e).map (fun f=>(⟨nm b q,pos (cE::M) (tJ a e),nm b (e.To,f.To)⟩:Edge))=(mH b M q.2 a e).toList.map (edR b q):=by
 have hone:=aJQ hb.1 hb.2 q.2 (tJ a e)
 have hfl:(dO b q.2).filter (fun f=>tJ b f == tJ a e)=b.E.filter (hit b q.2 (tJ a e)):=by
  unfold dO
  rw [List.filter_filter]
  congr 1
  funext f
  unfold hit
  exact Bool.and_comm _ _
 rw [hfl,hone]
 unfold mH xW
 cases hf:b.E.find? (hit b q.2 (tJ a e)) with
 |none=>simp
 |some f=>
  have hfb:=tT hb.1 (List.mem_of_find?_eq_some hf)
  have:¬ f.To < 0:=by omega
  simp only [if_neg this,Option.toList_some,List.map_cons,List.map_nil]
  rfl
theorem aLt (ha:fP a) (hb:fP b) {q:Int × Int} {e:Edge} (he:e∈a.E) {o:List Edge} (ho:o.length≤300):
  loop (fun s:List Edge × Int=>qU b (nm b q) (dO b q.2) e (tJ a e) (pos (cE::M) (tJ a e)) s.1 s.2) (o,0)=some (o++(mH b M q.2 a e).toList.map (edR b q)):=by
 have hbl:=hb.1.2.2.2.1
 have ol2:(dO b q.2).length≤300:=Nat.le_trans (List.length_filter_le _ _) hbl
 have hin:=tT ha.1 he
 rw [←stepP_hit hb q e]
 refine aKh (dO b q.2) (fun f=>tJ b f == tJ a e) (fun f=>(⟨nm b q,pos (cE::M) (tJ a e),nm b (e.To,f.To)⟩:Edge)) id 300 (fun j o' f hj ho' hf=>?_) (fun o'=>?_) ho
 ·obtain ⟨hj',rfl⟩:=aAq hf
  have hfe:=(qN (List.getElem_mem hj':(dO b q.2)[j]∈dO b q.2)).1
  have hfb:=tT hb.1 hfe
  have hnn:=(nm_in ha.1 hb.1 (q:=(e.To,(dO b q.2)[j].To)) ⟨hin.2.1,hfb.2.1⟩).2.2.1
  have hw:=cH hj (show (dO b q.2).length < 4611686018427387904 from Nat.lt_of_le_of_lt ol2 (by decide))
  unfold qU uM
  simp only
  rw [if_pos (cS hj),hf,aG,sI (nW hb.1 hfe),aG,hw,hnn]
  have hap:∀ z:Edge,tK o' [z]=some (o'++[z]):=fun z=>eN (by have:=Nat.lt_of_lt_of_le hj ol2;rw [List.length_singleton];exact Nat.le_trans (Nat.succ_le_succ (Nat.le_trans ho' (Nat.add_le_add_left (Nat.le_of_lt this) 300))) (by decide))
  rw [hap,aG]
  generalize (tJ b (dO b q.2)[j] == tJ a e)=c
  cases c<;>rfl
 ·unfold qU
  simp only
  rw [if_neg (by simp)];rfl
theorem aKi (hb:fP b) (hJ':Jn b a M) (hS:Shd M sh) (hsz:∀ s∈M,s.length≤999999999) (pr x y:Int) (o:List Edge):loop (fun s:List Edge × Int=>oC b (cE::M) sh pr x (dO b y) s.1 s.2) (o,0)=some o:=by
 have hbl:=hb.1.2.2.2.1
 have ol2:(dO b y).length≤300:=Nat.le_trans (List.length_filter_le _ _) hbl
 have hsec:=mQ (step:=fun s:List Edge × Int=>oC b (cE::M) sh pr x (dO b y) s.1 s.2) (dO b y).length (fun k o'=>(o',(k:Int))) (fun _ o'=>o'=o) (fun r=>r=o) (fun k o' hk hI=>?_) (fun o' hI=>⟨o',by unfold oC;simp only;rw [if_neg (by simp)],hI⟩) (dO b y).length 0 o (by omega) rfl
 ·obtain ⟨r,g1,rfl⟩:=hsec
  exact g1
 ·have he:=(qN (List.getElem_mem hk:(dO b y)[k]∈dO b y)).1
  obtain ⟨z,z1,z2,z3⟩:=fnd_has hb hJ' hS hsz he
  have hw:=cH hk (show (dO b y).length < 4611686018427387904 from Nat.lt_of_le_of_lt ol2 (by decide))
  refine ⟨o',?_,hI⟩
  unfold oC uI
  simp only
  rw [if_pos (cS hk),cZ hk,aG,sI (nW hb.1 he),aG,z1,aG,z2,aG,if_neg (by simpa using z3),hw]
theorem aLu (ha:fP a) (hb:fP b) (hJ:Jn a b M) (hS:Shd M sh) (hsz:∀ s∈M,s.length≤999999999) (q:Int × Int):loop (fun s:List Edge × Int=>mF a b (cE::M) sh (nm b q) q.2 (dO a q.1) (dO b q.2) s.1 s.2) ([],0)=some ((gF a b M q).map (edR b q)):=by
 have hal:=ha.1.2.2.2.1
 have ol:(dO a q.1).length≤300:=Nat.le_trans (List.length_filter_le _ _) hal
 have hML:=hJ.len
 have hout:=nF (step:=fun s:List Edge × Int=>mF a b (cE::M) sh (nm b q) q.2 (dO a q.1) (dO b q.2) s.1 s.2) (dO a q.1) (fun k o=>(o,(k:Int))) (fun l o=>o++(l.filterMap (mH b M q.2 a)).map (edR b q)) (fun k o=>o.length≤k) (fun k o e l hk hx hI=>?_) (fun o _=>?_) (a:=[]) (by simp)
 ·exact hout
 ·left
  obtain ⟨hk',rfl⟩:=aAq hx
  have hI':o.length≤k:=hI
  have he:=(qN (List.getElem_mem hk':(dO a q.1)[k]∈dO a q.1)).1
  obtain ⟨z,z1,z2,z3⟩:=fnd_has ha hJ hS hsz he
  have hw:=cH hk (show (dO a q.1).length < 4611686018427387904 from Nat.lt_of_le_of_lt ol (by decide))
  have ho3:o.length≤300:=Nat.le_of_lt (Nat.lt_of_le_of_lt hI' (Nat.lt_of_lt_of_le hk ol))
  have hfd:mK (cE::M) (tJ a (dO a q.1)[k])=some (pos (cE::M) (tJ a (dO a q.1)[k])):=aBx (cE::M) _ (Nat.lt_of_le_of_lt (show (cE::M).length≤25 from Nat.succ_le_succ hML) (by decide))
  have hst:mF a b (cE::M) sh (nm b q) q.2 (dO a q.1) (dO b q.2) o (k:Int)=some (.inl (o++(mH b M q.2 a (dO a q.1)[k]).toList.map (edR b q),((k+1:Nat):Int))):=by
   unfold mF uL uK
   rw [if_pos (cS hk),hx,aG,sI (nW ha.1 he),aG,hfd,aG,z1,aG,z2,aG,if_neg (by simpa using z3),aLt ha hb he ho3,aG,hw]
  refine ⟨_,hst,?_,?_⟩
  ·rw [List.length_append,List.length_map]
   have:(mH b M q.2 a (dO a q.1)[k]).toList.length≤1:=by cases mH b M q.2 a (dO a q.1)[k]<;>simp
   omega
  ·simp only [List.filterMap_cons]
   cases mH b M q.2 a (dO a q.1)[k]<;>simp
 ·unfold mF
  simp only
  rw [if_neg (by simp)];simp
theorem steps_eq (ha:fP a) (hb:fP b) (hJ:Jn a b M) (hJ':Jn b a M) (hS:Shd M sh) (hsz:∀ s∈M,s.length≤999999999) {q:Int × Int} (hq:inQ a b q):aBl a b (cE::M) sh (nm b q)=some ((gF a b M q).map (edR b q)):=by
 have h1:=ha.1.1;have h2:=hb.1.1
 have hal:=ha.1.2.2.2.1
 have hbl:=hb.1.2.2.2.1
 obtain ⟨n0,n1,n2,n3,n4⟩:=nm_in ha.1 hb.1 hq
 have hq1:=hq.1;have hq2:=hq.2
 have hne:¬ b.N=0:=by omega
 have hwr:wr q.1=q.1:=iV (by omega) (by omega)
 have o1:aAg a q.1=some (dO a q.1):=aIZ a _ (Nat.lt_of_le_of_lt hal (by decide))
 have o2:aAg b q.2=some (dO b q.2):=aIZ b _ (Nat.lt_of_le_of_lt hbl (by decide))
 unfold aBl qu rm uJ uH
 rw [if_neg hne,aG,if_neg hne,aG,n3,n4,hwr,o1,aG,o2,aG,aLu ha hb hJ hS hsz,aG,aKi hb hJ' hS hsz,aG]
end
end Gv
namespace Gv
open Go
def aEd (n:Int):List Int→List Int
 |[]=>[n]
 |x::l=>if n < x then n::x::l else if n=x then x::l else x::aEd n l
def goZ (n:Int):List Int→List Int × Bool→List Int × Bool
 |[],s=>s
 |x::l,s=>if s.2=false∧n≤x then goZ n l ((if n < x then s.1++[n] else s.1)++[x],true) else goZ n l (s.1++[x],s.2)
theorem aLv (n:Int):∀ (l o:List Int),goZ n l (o,true)=(o++l,true)
 |[],o=>by simp [goZ]
 |x::l,o=>by unfold goZ;rw [if_neg (by simp)];rw [aLv n l];simp
theorem goZ_le {n x:Int} {l o:List Int} (h:n≤x):goZ n (x::l) (o,false)=(((if n < x then o++[n] else o)++[x])++l,true):=by
 rw [goZ,if_pos ⟨rfl,h⟩,aLv]
theorem goZ_gt {n x:Int} {l o:List Int} (h:¬ n≤x):goZ n (x::l) (o,false)=goZ n l (o++[x],false):=by
 rw [goZ,if_neg (fun g=>h g.2)]
theorem goZ_fin (n:Int):∀ (l o:List Int),(if (goZ n l (o,false)).2=true then (goZ n l (o,false)).1 else (goZ n l (o,false)).1++[n])=o++aEd n l
 |[],o=>by simp [goZ,aEd]
 |x::l,o=>by
  by_cases h1:n≤x
  ·rw [goZ_le h1,if_pos rfl,aEd]
   by_cases h2:n < x
   ·rw [if_pos h2,if_pos h2];simp
   ·rw [if_neg h2,if_neg h2,if_pos (by omega)];simp
  ·rw [goZ_gt h1,goZ_fin n l,aEd,if_neg (by omega),if_neg (by omega)];simp
theorem aIh {n q:Int}:∀ {l:List Int},q∈aEd n l↔q=n∨q∈l
 |[]=>by simp [aEd]
 |x::l=>by
  unfold aEd
  split
  ·simp
  ·split
   ·rename_i h;subst h;simp
   ·rw [List.mem_cons,aIh,List.mem_cons]
    constructor
    ·rintro (h|h|h)<;>simp [h]
    ·rintro (h|h|h)<;>simp [h]
theorem aLw {n:Int}:∀ {l:List Int},l.Pairwise (· < ·)→(aEd n l).Pairwise (· < ·)
 |[],_=>by simp [aEd]
 |x::l,h=>by
  rw [List.pairwise_cons] at h
  unfold aEd
  split
  ·rename_i hx
   rw [List.pairwise_cons,List.pairwise_cons]
   refine ⟨fun y hy=>?_,h⟩
   rcases List.mem_cons.1 hy with rfl|hy
   ·exact hx
   ·have:=h.1 y hy;omega
  ·split
   ·rw [List.pairwise_cons];exact h
   ·rw [List.pairwise_cons]
    refine ⟨fun y hy=>?_,aLw h.2⟩
    rcases aIh.1 hy with rfl|hy
    ·omega
    ·exact h.1 y hy
theorem aIi (n:Int):∀ l:List Int,(aEd n l).length≤l.length+1
 |[]=>by simp [aEd]
 |x::l=>by
  have:=aIi n l
  unfold aEd
  split
  ·simp
  ·split
   ·simp
   ·rw [List.length_cons,List.length_cons];omega
theorem put_eq (list:List Int) (n:Int) (h:list.length < 1000000):aDz list n=some (aEd n list):=by
 unfold aDz
 have:=nF (step:=fun s:List Int × Bool × Int=>nJ list n s.1 s.2.1 s.2.2) list (fun k (a:List Int × Bool)=>(a.1,a.2,(k:Int))) (fun l a=>goZ n l a) (fun k a=>a.1.length≤2 * k) (fun k a x l hk hx hI=>?_) (fun a _=>?_) (a:=([],false)) (by simp)
 ·rw [show loop (fun s:List Int × Bool × Int=>nJ list n s.1 s.2.1 s.2.2) ([],false,0)=_ from this,aG]
  have hf:=goZ_fin n list []
  have hlen:(goZ n list ([],false)).1.length≤list.length+1:=by
   have hl:=aIi n list
   rw [List.nil_append] at hf
   rw [←hf] at hl
   split at hl
   ·exact hl
   ·simp at hl;omega
  unfold aAi aAh
  rw [List.nil_append] at hf
  cases hd:(goZ n list ([],false)).2 with
  |true=>rw [hd] at hf;simp only [if_true] at hf;rw [if_neg (by simp),hf]
  |false=>rw [hd] at hf;simp only [Bool.false_eq_true,if_false] at hf;rw [if_pos (by simp),eN (by simp [jK];omega),aG,hf]
 ·left
  obtain ⟨o,d⟩:=a
  have hI':o.length≤2 * k:=hI
  have hw:=cH hk (show list.length < 4611686018427387904 by omega)
  have hap:∀ (o:List Int) (z:Int),o.length≤2 * k+1→tK o [z]=some (o++[z]):=fun o z h=>eN (by simp [jK];omega)
  have hst:nJ list n o d (k:Int)=some (.inl (if d=false∧n≤x then ((if n < x then o++[n] else o)++[x],true,((k+1:Nat):Int)) else (o++[x],d,((k+1:Nat):Int)))):=by
   unfold nJ aAj wD
   rw [if_pos (cS hk)]
   cases d with
   |true=>
    rw [if_neg (by simp),if_neg (by simp),hx,aG,hap o x (by omega),aG,hw,if_neg (by simp)]
   |false=>
    rw [if_pos (by simp),hx,aG]
    by_cases h1:n≤x
    ·rw [if_pos (by simpa using h1),aG]
     by_cases h2:n < x
     ·rw [if_pos (by simpa using h2),hap o n (by omega),aG,aG,hap (o++[n]) x (by simp;omega),aG,hw,if_pos ⟨rfl,h1⟩,if_pos h2]
     ·rw [if_neg (by simpa using h2),aG,hap o x (by omega),aG,hw,if_pos ⟨rfl,h1⟩,if_neg h2]
    ·rw [if_neg (by simpa using h1),aG,hap o x (by omega),aG,hw,if_neg (fun h=>h1 h.2)]
  simp only
  rw [hst]
  by_cases h1:d=false∧n≤x
  ·rw [if_pos h1]
   refine ⟨((if n < x then o++[n] else o)++[x],true),rfl,?_,?_⟩
   ·simp only;split<;>simp<;>omega
   ·conv=>rhs;unfold goZ
    rw [if_pos h1]
  ·rw [if_neg h1]
   refine ⟨(o++[x],d),rfl,by simp;omega,?_⟩
   conv=>rhs;unfold goZ
   rw [if_neg h1]
 ·show nJ list n a.1 a.2 (list.length:Int)=_
  unfold nJ
  rw [if_neg (by simp)];rfl
section
variable {a b:cN} {M sh:List bB}
structure Rf (b:cN) (s:List (Int × Int) × List Edge) (ed:List Edge):Prop where
 se:SE ed
 mem:∀ x,x∈ed↔x∈imE (nm b) s.1 s.2
theorem se_nodup {l:List Edge} (h:SE l):l.Nodup:=h.imp fun {x y} h e=>by subst e;rw [aAw] at h;cases h
theorem Rf.len (hb:cU b) {s:List (Int × Int) × List Edge} {ed:List Edge} (h:Rf b s ed) (hB:Bnd s) (hn:s.1.Nodup) (hq:∀ q∈s.1,inQ a b q) (hE:s.2.Pairwise wL):ed.length=s.2.length:=by
 have h1:=aJk (g:=nm b) hB hn (fun p hp q hq'=>aIg hb (hq p hp).2 (hq q hq').2) hE
 have:=((List.perm_ext_iff_of_nodup (se_nodup h.se) h1).2 h.mem).length_eq
 rw [this];unfold imE;simp
theorem nm_has (hb:cU b) {F:List (Int × Int)} (hF:∀ q∈F,inQ a b q) {q:Int × Int} (hq:inQ a b q):nm b q∈F.map (nm b)↔q∈F:=aKc fun x hx h=>aIg hb (hF x hx).2 hq.2 h
theorem aMq (ha:cU a) (hb:cU b) {i:Nat} {q:Int × Int} {s:List (Int × Int) × List Edge} {ed:List Edge} (hi:s.1[i]?=some q) (hB:Bnd s) (hF:∀ q∈s.1,inQ a b q) (hl:s.1.length≤2000) (hle:ed.length≤1000000) (hR:Rf b s ed):
  ∃ ed',loop (fun x:List Int × List Edge × Int=>iN ((gF a b M q).map (edR b q)) x.1 x.2.1 x.2.2) (s.1.map (nm b),ed,0)=some ((dA id (i:Int) (gF a b M q) s).1.map (nm b),ed')∧Rf b (dA id (i:Int) (gF a b M q) s) ed'∧Bnd (dA id (i:Int) (gF a b M q) s):=by
 have hsl:=aLq (b:=b) (M:=M) ha q
 have hsi:=aGJ (M:=M) ha hb q
 generalize gF a b M q=l at hsl hsi ⊢
 have key:=mQ (step:=fun x:List Int × List Edge × Int=>iN (l.map (edR b q)) x.1 x.2.1 x.2.2) l.length (fun k (c:(List (Int × Int) × List Edge) × List Edge)=>(c.1.1.map (nm b),c.2,(k:Int)))
  (fun k c=>c.1=dA id (i:Int) (l.take k) s∧Bnd c.1∧(∀ q∈c.1.1,inQ a b q)∧c.1.1[i]?=some q∧Rf b c.1 c.2∧c.1.1.length≤2000+k∧c.2.length≤1000000+k)
  (fun r=>∃ ed',r=((dA id (i:Int) l s).1.map (nm b),ed')∧Rf b (dA id (i:Int) l s) ed'∧Bnd (dA id (i:Int) l s)) (fun k c hk hI=>?_) (fun c hI=>?_) l.length 0 (s,ed) (by omega) ⟨rfl,hB,hF,hi,hR,hl,hle⟩
 ·obtain ⟨r,h1,ed',rfl,h2⟩:=key
  exact ⟨ed',h1,h2⟩
 ·obtain ⟨c1,c2⟩:=c
  obtain ⟨rfl,i2,i3,i4,i5,i6,i7⟩:=hI
  simp only at i2 i3 i4 i5 i6 i7
  have hil:i < (dA id (i:Int) (l.take k) s).1.length:=(List.getElem?_eq_some_iff.1 i4).1
  have hx:=hsi _ (List.getElem_mem hk)
  obtain ⟨l',p1,p2,p3,p4⟩:=aKH c2 (edR b q l[k]) (by omega) i5.se
  have htk:dA id (i:Int) (l.take (k+1)) s=kE id (i:Int) (dA id (i:Int) (l.take k) s) l[k]:=by
   rw [List.take_add_one,List.getElem?_eq_getElem hk]
   unfold dA
   rw [List.foldl_append];rfl
  have him:=imE_add (nm b) i2 i4 l[k]
  have hix:ix (l.map (edR b q)) (k:Int)=some (edR b q l[k]):=by rw [rI];simp [hk]
  have hpl:oB ((dA id (i:Int) (l.take k) s).1.map (nm b)) (edR b q l[k]).To=some (pos ((dA id (i:Int) (l.take k) s).1.map (nm b)) (nm b l[k].2)):=aCc _ _ (by rw [List.length_map];omega)
  have hrl:((l.map (edR b q)).length:Int)=(l.length:Int):=by rw [List.length_map]
  have hst:iN (l.map (edR b q)) ((dA id (i:Int) (l.take k) s).1.map (nm b)) c2 (k:Int)=some (.inl ((kE id (i:Int) (dA id (i:Int) (l.take k) s) l[k]).1.map (nm b),l',((k+1:Nat):Int))):=by
   unfold iN qC
   rw [hrl,if_pos (cS hk),hix,aG,p1,aG,hpl,aG,cH hk (by omega)]
   have hh:=nm_has hb i3 hx
   simp only [kE]
   unfold qZ
   rw [List.map_id]
   by_cases hm:l[k].2∈(dA id (i:Int) (l.take k) s).1
   ·have hp:=tH.2 (hh.2 hm)
    rw [if_neg (by simpa using hp),if_pos (show id l[k].2∈_ from hm)]
   ·have hp:¬ 0≤pos ((dA id (i:Int) (l.take k) s).1.map (nm b)) (nm b l[k].2):=fun h=>hm (hh.1 (tH.1 h))
    rw [if_pos (by simpa using hp),eN (by rw [List.length_map];simp [jK];omega),aG,if_neg (show ¬ id l[k].2∈_ from hm),List.map_append];rfl
  refine ⟨(kE id (i:Int) (dA id (i:Int) (l.take k) s) l[k],l'),hst,htk.symm,i2.add hil _,aCz (key:=id) i3 hx,aCF (uS (key:=id) _ _) i4,⟨p2,fun x=>?_⟩,?_,by simp only;omega⟩
  ·simp only
   rw [him,p3,i5.mem,List.mem_append,List.mem_singleton]
   constructor
   ·rintro (h|h)
    ·exact .inr h
    ·exact .inl h
   ·rintro (h|h)
    ·exact .inr h
    ·exact .inl h
  ·have:=aBy (key:=id) (dA id (i:Int) (l.take k) s).1 l[k].2
   simp only [kE];omega
 ·obtain ⟨c1,c2⟩:=c
  obtain ⟨i1,i2,i3,i4,i5,i6,i7⟩:=hI
  simp only at i1
  rw [List.take_length] at i1
  subst i1
  refine ⟨_,?_,c2,rfl,i5,i2⟩
  show iN (l.map (edR b q)) _ c2 (l.length:Int)=_
  unfold iN
  rw [if_neg (by simp)]
theorem aIj (ha:fP a) (hb:fP b) (hJ:Jn a b M) (hJ':Jn b a M) (hS:Shd M sh) (hsz:∀ s∈M,s.length≤999999999):∀ (n i:Nat) (s:List (Int × Int) × List Edge) (ed:List Edge),i≤s.1.length→1601≤n+i→s.1.Nodup→(∀ q∈s.1,inQ a b q)→ED M (i:Int) 0 s.1.length s.2→Small s→Rf b s ed→
  ∃ r,loop (fun x:List Int × List Edge × Int=>fL a b sh (cE::M) x.1 x.2.1 x.2.2) (s.1.map (nm b),ed,(i:Int))=some r∧
   (if Small (rG id (gF a b M) 1600 n i s) then ∃ ed',r=.inl ((rG id (gF a b M) 1600 n i s).1.map (nm b),ed')∧Rf b (rG id (gF a b M) 1600 n i s) ed' else r=.inr (⟨0,0,[],[]⟩,false))
 |0,i,s,ed,hi,hn,hnd,hF,_,_,_=>by have:=aCE ha.1 hb.1 hnd hF;omega
 |n+1,i,s,ed,hi,hn,hnd,hF,hE,hs,hR=>by
  have hB:Bnd s:=fun e he=>by have:=hE.all e he;omega
  by_cases hlt:i < s.1.length
  ·have hq:s.1[i]?=some s.1[i]:=List.getElem?_eq_getElem hlt
   have hx:rG id (gF a b M) 1600 (n+1) i s=if 1600 < (dA id (i:Int) (gF a b M s.1[i]) s).1.length then dA id (i:Int) (gF a b M s.1[i]) s else rG id (gF a b M) 1600 n (i+1) (dA id (i:Int) (gF a b M s.1[i]) s):=by
    rw [rG,hq]
   have hw:=cH hlt (show s.1.length < 4611686018427387904 by have:=hs.1;omega)
   have hQ:=hF _ (List.getElem_mem hlt)
   have h0:=hR.len hb.1 hB hnd hF hE.ord
   obtain ⟨ed',k1,k2,k3⟩:=aMq (M:=M) ha.1 hb.1 hq hB hF (by have:=hs.1;omega) (by have:=hs.2;omega) hR
   have hsi:=aGJ (M:=M) ha.1 hb.1 s.1[i]
   have g1:=vQ (key:=id) (i:Int) (gF a b M s.1[i]) s (by rw [List.map_id];exact hnd)
   rw [List.map_id] at g1
   have g2:=xU (key:=id) (P:=inQ a b) (i:Int) (gF a b M s.1[i]) s hF hsi
   have g3:=aKa (key:=id) (L:=M) i (l:=gF a b M s.1[i]) (k:=0) (s:=s) (Int.le_refl _) (aLp ha hJ _) hE
   have g4:=k2.len hb.1 k3 g1 g2 g3.ord
   have gl:=(sK (key:=id) (i:Int) (gF a b M s.1[i]) s).1.length_le
   have hix:ix (s.1.map (nm b)) (i:Int)=some (nm b s.1[i]):=by rw [rI];simp [hlt]
   have hml:((s.1.map (nm b)).length:Int)=(s.1.length:Int):=by rw [List.length_map]
   have hst:fL a b sh (cE::M) (s.1.map (nm b)) ed (i:Int)=if Small (dA id (i:Int) (gF a b M s.1[i]) s) then some (.inl ((dA id (i:Int) (gF a b M s.1[i]) s).1.map (nm b),ed',((i+1:Nat):Int))) else some (.inr (.inr (⟨0,0,[],[]⟩,false))):=by
    unfold fL
    rw [hml,if_pos (cS hlt),hix,aG,steps_eq ha hb hJ hJ' hS hsz hQ,aG,k1,aG]
    unfold qB qA uV
    simp only [List.length_map,g4,hw]
    by_cases h40:40 < (dA id (i:Int) (gF a b M s.1[i]) s).1.length
    ·rw [if_pos (by simp;omega),if_pos trivial,if_neg (fun h=>by have:=h.1;omega)]
    ·rw [if_neg (by simp;omega)]
     by_cases h300:300 < (dA id (i:Int) (gF a b M s.1[i]) s).2.length
     ·rw [if_pos (by simp;omega),if_neg (fun h=>by have:=h.2;omega)]
     ·rw [if_neg (by simp;omega),if_pos ⟨by omega,by omega⟩]
   by_cases hok:Small (dA id (i:Int) (gF a b M s.1[i]) s)
   ·rw [if_pos hok] at hst
    have hx2:rG id (gF a b M) 1600 (n+1) i s=rG id (gF a b M) 1600 n (i+1) (dA id (i:Int) (gF a b M s.1[i]) s):=by
     rw [hx];exact if_neg (by have:=hok.1;omega)
    rw [qM (step:=fun x:List Int × List Edge × Int=>fL a b sh (cE::M) x.1 x.2.1 x.2.2) (s:=(s.1.map (nm b),ed,(i:Int))) hst,hx2]
    exact aIj ha hb hJ hJ' hS hsz n (i+1) _ ed' (by omega) (by omega) g1 g2 g3 hok k2
   ·rw [if_neg hok] at hst
    have hx2:¬ Small (rG id (gF a b M) 1600 (n+1) i s):=by
     rw [hx]
     by_cases h:1600 < (dA id (i:Int) (gF a b M s.1[i]) s).1.length
     ·rw [if_pos h];exact hok
     ·rw [show (if 1600 < (dA id (i:Int) (gF a b M s.1[i]) s).1.length then dA id (i:Int) (gF a b M s.1[i]) s else rG id (gF a b M) 1600 n (i+1) (dA id (i:Int) (gF a b M s.1[i]) s))=rG id (gF a b M) 1600 n (i+1) (dA id (i:Int) (gF a b M s.1[i]) s) from if_neg h]
      exact fun h=>hok (Small.pre (aFp (key:=id) (gF a b M) 1600 n (i+1) _) h)
    rw [nX (step:=fun x:List Int × List Edge × Int=>fL a b sh (cE::M) x.1 x.2.1 x.2.2) (s:=(s.1.map (nm b),ed,(i:Int))) hst]
    exact ⟨_,rfl,by rw [if_neg hx2]⟩
  ·obtain rfl:i=s.1.length:=by omega
   have hx:rG id (gF a b M) 1600 (n+1) s.1.length s=s:=by
    rw [rG,List.getElem?_eq_none (Nat.le_refl _)]
   have hst:fL a b sh (cE::M) (s.1.map (nm b)) ed (s.1.length:Int)=some (.inr (.inl (s.1.map (nm b),ed))):=by
    unfold fL
    rw [if_neg (by simp)]
   rw [nX (step:=fun x:List Int × List Edge × Int=>fL a b sh (cE::M) x.1 x.2.1 x.2.2) (s:=(s.1.map (nm b),ed,(s.1.length:Int))) hst,hx]
   exact ⟨_,rfl,by rw [if_pos hs];exact ⟨ed,rfl,hR⟩⟩
end
end Gv
namespace Gv
open Go
section
variable {a b:cN} {M sh:List bB}
theorem ord_nums (hb:cU b) {F:List (Int × Int)} (hF:∀ q∈F,inQ a b q) {O:List (Int × Int)} (hO:O.Pairwise fun p q=>aAY p q=true) (hm:∀ q,q∈O↔q∈F):sJ (O.map (nm b)) (fun z=>z∈F.map (nm b)):=by
 refine ⟨?_,fun z=>?_⟩
 ·rw [List.pairwise_map]
  refine hO.imp_of_mem ?_
  intro p q hp hq h
  exact (nm_lt hb (hF p ((hm p).1 hp)).2 (hF q ((hm q).1 hq)).2).1 h
 ·rw [List.mem_map,List.mem_map]
  constructor
  ·rintro ⟨q,h,e⟩;exact ⟨q,(hm q).1 h,e⟩
  ·rintro ⟨q,h,e⟩;exact ⟨q,(hm q).2 h,e⟩
theorem aMr (xs:List Int) (h:xs.length≤1000):∃ o,loop (fun s:List Int × Int=>jB xs s.1 s.2) ([],0)=some o∧sJ o (fun z=>z∈xs):=by
 have key:=mQ (step:=fun s:List Int × Int=>jB xs s.1 s.2) xs.length (fun k (o:List Int)=>(o,(k:Int))) (fun k o=>sJ o (fun z=>z∈xs.take k)∧o.length≤k) (fun r=>sJ r (fun z=>z∈xs)) (fun k o hk hI=>?_) (fun o hI=>?_) xs.length 0 [] (by omega) ⟨⟨by simp,by simp⟩,by simp⟩
 ·exact key
 ·obtain ⟨i1,i2⟩:=hI
  have hst:jB xs o (k:Int)=some (.inl (aEd xs[k] o,((k+1:Nat):Int))):=by
   unfold jB
   rw [if_pos (cS hk),cZ hk,aG,put_eq o xs[k] (by omega),aG,cH hk (by omega)]
  refine ⟨_,hst,⟨aLw i1.ord,fun z=>?_⟩,Nat.le_trans (aIi _ _) (by omega)⟩
  rw [aIh,i1.mem,List.take_add_one,List.getElem?_eq_getElem hk,List.mem_append]
  simp only [Option.toList_some,List.mem_singleton]
  constructor
  ·rintro (h|h)
   ·exact .inr h
   ·exact .inl h
  ·rintro (h|h)
   ·exact .inr h
   ·exact .inl h
 ·rw [List.take_length] at hI
  refine ⟨o,?_,hI.1⟩
  show jB xs o (xs.length:Int)=_
  unfold jB
  rw [if_neg (by simp)]
theorem aIk (hb:cU b) {F:List (Int × Int)} (hF:∀ q∈F,inQ a b q) {q:Int × Int} (hq:inQ a b q) {O:List (Int × Int)} (hm:∀ q,q∈O↔q∈F):pos (O.map (nm b)) (nm b q)=pos O q:=
 aGG fun x hx h=>aIg hb (hF x ((hm x).1 hx)).2 hq.2 h
theorem aIH (ha:fP a) (hb:fP b) (hJ:Jn a b M) (hJ':Jn b a M) (hS:Shd M sh) (hsz:∀ s∈M,s.length≤999999999) (hj:qT (a.L++b.L)=some (cE::M)):
  xH a b sh=some (if M.length≤11∧Small (gO a b M) then (lX a b M,true) else (⟨0,0,[],[]⟩,false)):=by
 obtain ⟨g1,g2,g3,g4,g5⟩:=aDY ha hb hJ
 have h12a:=ha.1.2.2.1.2.1
 have h12b:=hb.1.2.2.1.2.1
 unfold xH
 rw [eN (by simp [jK];omega),aG,List.nil_append,eN (by simp [jK];omega),aG,hj,aG]
 by_cases h11:M.length≤11
 ·rw [if_neg (by simp;omega)]
  have hi0:=aGM ha.1 hb.1
  have hnm:=nm_in ha.1 hb.1 hi0
  obtain ⟨r,r1,r2⟩:=aIj ha hb hJ hJ' hS hsz 1601 0 ([(a.I,b.I)],[]) [] (by simp) (by omega) (by simp) (fun q hq=>by simp at hq;subst hq;exact hi0) ⟨by simp,fun e he=>by simp at he⟩ ⟨by simp,by simp⟩ ⟨List.Pairwise.nil,fun x=>by simp [imE]⟩
  rw [show wr (wr (a.I * b.N)+b.I)=nm b (a.I,b.I) from hnm.2.2.1]
  rw [show loop (fun x:List Int × List Edge × Int=>fL a b sh (cE::M) x.1 x.2.1 x.2.2) ([nm b (a.I,b.I)],[],0)=some r from r1,aG]
  have r2':if Small (gO a b M) then ∃ ed',r=.inl ((gO a b M).1.map (nm b),ed')∧Rf b (gO a b M) ed' else r=.inr (⟨0,0,[],[]⟩,false):=r2
  by_cases hs:Small (gO a b M)
  ·rw [if_pos hs] at r2'
   obtain ⟨ed,rfl,hR⟩:=r2'
   rw [if_pos ⟨h11,hs⟩]
   simp only
   obtain ⟨o,o1,o2⟩:=aMr ((gO a b M).1.map (nm b)) (by rw [List.length_map];have:=hs.1;omega)
   have hO:=ord_nums hb.1 g2 (aDM ha hb hJ) (fun q=>uT)
   obtain rfl:o=(oI a b M).map (nm b):=o2.eq hO
   have hol:((oI a b M).map (nm b)).length=(gO a b M).1.length:=by rw [List.length_map,aIf]
   have hEl:=hR.len hb.1 (aLr ha hb hJ) g1 g2 g3
   unfold pZ
   rw [o1,aG]
   unfold pY
   have hpl:∀ q,inQ a b q→oB ((oI a b M).map (nm b)) (nm b q)=some (pos (oI a b M) q):=fun q hq=>by
    rw [aCc _ _ (by rw [hol];have:=hs.1;omega),aIk hb.1 g2 hq (fun q=>uT)]
   rw [hnm.2.2.1,hpl _ hi0,aG]
   have hout:loop (fun s:List Edge × Int=>jA ed ((oI a b M).map (nm b)) s.1 s.2) ([],0)=some (ed.map fun e=>⟨pos ((oI a b M).map (nm b)) e.F,e.B,pos ((oI a b M).map (nm b)) e.To⟩):=by
    rw [aAR (step:=fun s:List Edge × Int=>jA ed ((oI a b M).map (nm b)) s.1 s.2) ed (fun e=>(⟨pos ((oI a b M).map (nm b)) e.F,e.B,pos ((oI a b M).map (nm b)) e.To⟩:Edge)) id (fun k out x hk ho hx=>?_) (fun out=>by show jA ed _ out (ed.length:Int)=_;unfold jA;rw [if_neg (by simp)];rfl)]
    ·rfl
    ·show jA ed _ out (k:Int)=_
     unfold jA
     have hs300:=hs.2
     rw [if_pos (cS hk),hx,aG,aCc _ _ (by rw [hol];have:=hs.1;omega),aG,aCc _ _ (by rw [hol];have:=hs.1;omega),aG,eN (by simp [jK];omega),aG,cH hk (by omega)]
   rw [hout,aG]
   unfold pX
   rw [hol]
   have hee:(ed.map fun e=>(⟨pos ((oI a b M).map (nm b)) e.F,e.B,pos ((oI a b M).map (nm b)) e.To⟩:Edge))=edP a b M:=by
    have hmem:∀ e∈ed,∃ e0∈(gO a b M).2,e=⟨nm b (atQ (gO a b M).1 e0.F),e0.B,nm b (atQ (gO a b M).1 e0.To)⟩:=fun e he=>by
     have:=(hR.mem e).1 he
     unfold imE at this
     obtain ⟨e0,h0,h1⟩:=List.mem_map.1 this
     exact ⟨e0,h0,h1.symm⟩
    have hren:∀ e0∈(gO a b M).2,(⟨pos ((oI a b M).map (nm b)) (nm b (atQ (gO a b M).1 e0.F)),e0.B,pos ((oI a b M).map (nm b)) (nm b (atQ (gO a b M).1 e0.To))⟩:Edge)=⟨pos (oI a b M) (atQ (gO a b M).1 e0.F),e0.B,pos (oI a b M) (atQ (gO a b M).1 e0.To)⟩:=fun e0 h0=>by
     have h:=g4 e0 h0
     rw [aIk hb.1 g2 (g2 _ (vF h.1.1 h.1.2)) (fun q=>uT),aIk hb.1 g2 (g2 _ (vF h.2.2.1 h.2.2.2)) (fun q=>uT)]
    have hmono:∀ x∈(gO a b M).1,∀ y∈(gO a b M).1,nm b x < nm b y→pos (oI a b M) x < pos (oI a b M) y:=fun x hx y hy h=>
     pos_lt (R:=fun p q=>aAY p q=true) (fun {p q} h h'=>by rw [wJ] at h h';omega) (aDM ha hb hJ) (uT.2 hx) (uT.2 hy) ((nm_lt hb.1 (g2 x hx).2 (g2 y hy).2).2 h)
    refine aGI ?_ (edP_se ha hb hJ) fun x=>?_
    ·unfold SE
     rw [List.pairwise_map]
     refine hR.se.imp_of_mem ?_
     intro e f he hf h
     obtain ⟨e0,h0,rfl⟩:=hmem e he
     obtain ⟨f0,k0,rfl⟩:=hmem f hf
     rw [hren e0 h0,hren f0 k0]
     have b1:=g4 e0 h0
     have b2:=g4 f0 k0
     have m1:=vF b1.1.1 b1.1.2
     have m2:=vF b2.1.1 b2.1.2
     have m3:=vF b1.2.2.1 b1.2.2.2
     have m4:=vF b2.2.2.1 b2.2.2.2
     rw [vP] at h ⊢
     simp only at h ⊢
     rcases h with h|⟨h1,h|⟨h2,h3⟩⟩
     ·exact .inl (hmono _ m1 _ m2 h)
     ·have e1:=aIg hb.1 (g2 _ m1).2 (g2 _ m2).2 h1
      exact .inr ⟨by rw [e1],.inl h⟩
     ·have e1:=aIg hb.1 (g2 _ m1).2 (g2 _ m2).2 h1
      exact .inr ⟨by rw [e1],.inr ⟨h2,hmono _ m3 _ m4 h3⟩⟩
    ·rw [aKf,List.mem_map]
     unfold imE
     rw [List.mem_map]
     constructor
     ·rintro ⟨e,he,rfl⟩
      obtain ⟨e0,h0,rfl⟩:=hmem e he
      exact ⟨e0,h0,(hren e0 h0).symm⟩
     ·rintro ⟨e0,h0,rfl⟩
      exact ⟨⟨nm b (atQ (gO a b M).1 e0.F),e0.B,nm b (atQ (gO a b M).1 e0.To)⟩,(hR.mem _).2 (by unfold imE;exact List.mem_map_of_mem h0),hren e0 h0⟩
   rw [hee];rfl
  ·rw [if_neg hs] at r2'
   subst r2'
   rw [if_neg (fun h=>hs h.2)]
 ·rw [if_pos (by simp;omega),if_neg (fun h=>h11 h.1)]
end
end Gv
namespace Gv
open Go
theorem aMs (x y:List bB) (h:x.length+y.length≤1000000):fO [x,y]=some (x++y):=by
 unfold fO
 have h1:loop (fun s:Int × Int=>bX [x,y] s.1 s.2) (0,0)=some (((x.length+y.length:Nat):Int)):=by
  have a1:wr (0+(x.length:Int))=(x.length:Int):=by rw [iV (by omega) (by omega)];omega
  have a2:wr ((x.length:Int)+(y.length:Int))=((x.length+y.length:Nat):Int):=by rw [iV (by omega) (by omega)];omega
  have s0:bX [x,y] 0 0=some (.inl ((x.length:Int),1)):=by
   unfold bX fB
   rw [if_pos (by simp),show ix [x,y] 0=some x from rfl,aG,a1,if_neg (by simp)];rfl
  have s1:bX [x,y] (x.length:Int) 1=some (.inl (((x.length+y.length:Nat):Int),2)):=by
   unfold bX fB
   rw [if_pos (by simp),show ix [x,y] 1=some y from rfl,aG,a2,if_neg (by simp;omega)];rfl
  have s2:bX [x,y] ((x.length+y.length:Nat):Int) 2=some (.inr (((x.length+y.length:Nat):Int))):=by
   unfold bX
   rw [if_neg (by simp)]
  rw [qM (step:=fun s:Int × Int=>bX [x,y] s.1 s.2) (s:=(0,0)) s0,qM (step:=fun s:Int × Int=>bX [x,y] s.1 s.2) (s:=((x.length:Int),1)) s1,nX (step:=fun s:Int × Int=>bX [x,y] s.1 s.2) (s:=(((x.length+y.length:Nat):Int),2)) s2]
 rw [h1,aG]
 unfold fA aDP
 rw [if_pos ⟨rfl,by omega,by unfold jK;omega⟩,aG]
 have s0:cA [x,y] [] 0=some (.inl (x,1)):=by
  unfold cA
  rw [if_pos (by simp),show ix [x,y] 0=some x from rfl,aG,eN (by simp [jK];omega),aG];rfl
 have s1:cA [x,y] x 1=some (.inl (x++y,2)):=by
  unfold cA
  rw [if_pos (by simp),show ix [x,y] 1=some y from rfl,aG,eN (by unfold jK;omega),aG];rfl
 have s2:cA [x,y] (x++y) 2=some (.inr (x++y)):=by
  unfold cA
  rw [if_neg (by simp)]
 rw [qM (step:=fun s:List bB × Int=>cA [x,y] s.1 s.2) (s:=([],0)) s0,qM (step:=fun s:List bB × Int=>cA [x,y] s.1 s.2) (s:=(x,1)) s1,nX (step:=fun s:List bB × Int=>cA [x,y] s.1 s.2) (s:=(x++y,2)) s2,aG]
 rfl
def zm (F:List (Int × Int)):List ((Int × Int) × Int):=F.map fun q=>(q,0)
theorem mget_zm {q:Int × Int}:∀ {F:List (Int × Int)},fS (zm F) q=if q∈F then some 0 else none
 |[]=>rfl
 |x::F=>by
  have ih:=mget_zm (q:=q) (F:=F)
  unfold zm at ih ⊢
  rw [List.map_cons,fS]
  by_cases e:q=x
  ·rw [if_pos e,if_pos (by simp [e])]
  ·rw [if_neg e,ih]
   by_cases h:q∈F
   ·rw [if_pos h,if_pos (by simp [h])]
   ·rw [if_neg h,if_neg (by simp [h,e])]
theorem mput_zm {q:Int × Int}:∀ {F:List (Int × Int)},q∉F→rH (zm F) q 0=zm (F++[q])
 |[],_=>rfl
 |x::F,h=>by
  have ih:=mput_zm (q:=q) (F:=F) fun hm=>h (by simp [hm])
  have e:¬ q=x:=fun e=>h (by simp [e])
  unfold zm at ih ⊢
  rw [List.map_cons,rH,if_neg e,ih];rfl
theorem aJm {κ:Type} [DecidableEq κ] {k q:κ} {v:Int}:∀ {m:List (κ × Int)},fS (rH m k v) q=if q=k then some v else fS m q
 |[]=>by simp [rH,fS]
 |(x,u)::m=>by
  have ih:=aJm (k:=k) (q:=q) (v:=v) (m:=m)
  unfold rH
  by_cases e:k=x
  ·subst e
   rw [if_pos rfl,fS,fS]
   by_cases h:q=k
   ·rw [if_pos h,if_pos h]
   ·rw [if_neg h,if_neg h,if_neg h]
  ·rw [if_neg e,fS,fS,ih]
   by_cases h:q=x
   ·subst h
    rw [if_pos rfl,if_neg (fun h=>e h.symm),if_pos rfl]
   ·rw [if_neg h,if_neg h]
def imL (M:List bB) (F:List (Int × Int)) (E:List Edge):List iL:=E.map fun e=>⟨atQ F e.F,(cE::M).getD e.B.toNat [],atQ F e.To⟩
section
variable {a b:cN} {M:List bB}
theorem imL_add {s:List (Int × Int) × List Edge} (hb:Bnd s) {i:Nat} {q:Int × Int} (hi:s.1[i]?=some q) (x:Int × (Int × Int)):imL M (kE id (i:Int) s x).1 (kE id (i:Int) s x).2=imL M s.1 s.2++[⟨q,(cE::M).getD x.1.toNat [],x.2⟩]:=by
 have hp:=uS (key:=id) s.1 x.2
 simp only [kE]
 unfold imL
 rw [List.map_append]
 congr 1
 ·refine List.map_congr_left fun e he=>?_
  have:=hb e he
  rw [aGL hp this.1.1 this.1.2,aGL hp this.2.1 this.2.2]
 ·simp only [List.map_cons,List.map_nil,atQ_atK]
  rw [aGK (aCF hp hi)]
theorem aMt {i:Nat} {q:Int × Int} {s:List (Int × Int) × List Edge} (hi:s.1[i]?=some q) (hB:Bnd s) (hl:s.1.length≤2000) (he:s.2.length≤10000000) {lab:bB} (hm:lab∈M) (to_:Int × Int):
  mN lab to_ (imL M s.1 s.2) q (zm s.1) s.1=some (imL M (kE id (i:Int) s (pos (cE::M) lab,to_)).1 (kE id (i:Int) s (pos (cE::M) lab,to_)).2,zm (kE id (i:Int) s (pos (cE::M) lab,to_)).1,(kE id (i:Int) s (pos (cE::M) lab,to_)).1):=by
 rw [imL_add hB hi]
 have hlab:(cE::M).getD (pos (cE::M) lab).toNat []=lab:=by
  obtain ⟨j,hj,e1,e2⟩:=kC (List.mem_cons_of_mem cE hm)
  rw [e1,Int.toNat_natCast,List.getD_eq_getElem?_getD,List.getElem?_eq_getElem hj,e2];rfl
 have hll:(imL M s.1 s.2).length=s.2.length:=by unfold imL;rw [List.length_map]
 unfold mN
 rw [eN (by rw [hll];simp [jK];omega),aG,mget_zm]
 simp only [hlab,kE]
 unfold qZ
 rw [List.map_id]
 by_cases h:to_∈s.1
 ·rw [if_pos h,if_neg (by simp),if_pos (show id to_∈s.1 from h)]
 ·rw [if_neg h,if_pos (by simp),aG,mput_zm h,eN (by simp [jK];omega),aG,if_neg (show ¬ id to_∈s.1 from h)]
theorem aLx (i:Int) (l l':List (Int × (Int × Int))) (s:List (Int × Int) × List Edge):dA id i (l++l') s=dA id i l' (dA id i l s):=by unfold dA;rw [List.foldl_append]
theorem prod_edge (ha:fP a) (hb:fP b) (hJ:Jn a b M) {i:Nat} {q:Int × Int} {s:List (Int × Int) × List Edge} (hi:s.1[i]?=some q) (hB:Bnd s) (hl:s.1.length≤2000) (hle:s.2.length≤10000000) {k:Nat} (hk:k < (dO a q.1).length):
  jJ a b q (dO a q.1) (zm s.1) s.1 (imL M s.1 s.2) (k:Int)=some (.inl (zm (dA id (i:Int) (mH b M q.2 a (dO a q.1)[k]).toList s).1,(dA id (i:Int) (mH b M q.2 a (dO a q.1)[k]).toList s).1,imL M (dA id (i:Int) (mH b M q.2 a (dO a q.1)[k]).toList s).1 (dA id (i:Int) (mH b M q.2 a (dO a q.1)[k]).toList s).2,((k+1:Nat):Int))):=by
 have hal:=ha.1.2.2.2.1
 have ol:(dO a q.1).length≤300:=Nat.le_trans (List.length_filter_le _ _) hal
 have he:=(qN (List.getElem_mem hk:(dO a q.1)[k]∈dO a q.1)).1
 have hm:=(aIe ha hJ he).1
 have hw:=cH hk (show (dO a q.1).length < 4611686018427387904 from Nat.lt_of_le_of_lt ol (by decide))
 unfold jJ lM qJ qI
 rw [if_pos (cS hk),cZ hk,aG,sI (nW ha.1 he),aG,aG,if_neg (by simp),aJa hb.1 hb.2,aG,hw]
 unfold mH xW
 cases hf:b.E.find? (hit b q.2 (tJ a (dO a q.1)[k])) with
 |none=>
  have s0:fX q (dO a q.1)[k] (tJ a (dO a q.1)[k]) [] (zm s.1) s.1 (imL M s.1 s.2) 0=some (.inr (zm s.1,s.1,imL M s.1 s.2)):=by
   unfold fX
   rw [if_neg (by simp)]
  simp only [Option.toList_none,List.map_nil]
  rw [nX (step:=fun s:List ((Int × Int) × Int) × List (Int × Int) × List iL × Int=>fX q (dO a q.1)[k] (tJ a (dO a q.1)[k]) [] s.1 s.2.1 s.2.2.1 s.2.2.2) (s:=(zm s.1,s.1,imL M s.1 s.2,0)) s0]
  rfl
 |some f=>
  have hfb:=tT hb.1 (List.mem_of_find?_eq_some hf)
  have hne:¬ f.To < 0:=by omega
  simp only [Option.toList_some,List.map_cons,List.map_nil,if_neg hne]
  have hadd:=aMt (M:=M) hi hB hl hle hm ((dO a q.1)[k].To,f.To)
  have s0:fX q (dO a q.1)[k] (tJ a (dO a q.1)[k]) [f.To] (zm s.1) s.1 (imL M s.1 s.2) 0=some (.inl (zm (kE id (i:Int) s (pos (cE::M) (tJ a (dO a q.1)[k]),((dO a q.1)[k].To,f.To))).1,(kE id (i:Int) s (pos (cE::M) (tJ a (dO a q.1)[k]),((dO a q.1)[k].To,f.To))).1,imL M (kE id (i:Int) s (pos (cE::M) (tJ a (dO a q.1)[k]),((dO a q.1)[k].To,f.To))).1 (kE id (i:Int) s (pos (cE::M) (tJ a (dO a q.1)[k]),((dO a q.1)[k].To,f.To))).2,1)):=by
   unfold fX
   rw [if_pos (by simp),show ix [f.To] 0=some f.To from rfl,aG,hadd,aG];rfl
  have s1:∀ x y z,fX q (dO a q.1)[k] (tJ a (dO a q.1)[k]) [f.To] x y z 1=some (.inr (x,y,z)):=fun x y z=>by
   unfold fX
   rw [if_neg (by simp)]
  rw [qM (step:=fun s:List ((Int × Int) × Int) × List (Int × Int) × List iL × Int=>fX q (dO a q.1)[k] (tJ a (dO a q.1)[k]) [f.To] s.1 s.2.1 s.2.2.1 s.2.2.2) (s:=(zm s.1,s.1,imL M s.1 s.2,0)) s0]
  rw [nX (step:=fun s:List ((Int × Int) × Int) × List (Int × Int) × List iL × Int=>fX q (dO a q.1)[k] (tJ a (dO a q.1)[k]) [f.To] s.1 s.2.1 s.2.2.1 s.2.2.2) (s1 _ _ _)]
  rfl
theorem aIl {i:Nat}:∀ (l:List (Int × (Int × Int))) {s:List (Int × Int) × List Edge},Bnd s→i < s.1.length→Bnd (dA id (i:Int) l s)
 |[],_,h,_=>h
 |x::l,s,h,hi=>aIl l (h.add hi x) (by have:=(uS (key:=id) s.1 x.2).length_le;simp only [kE];omega)
theorem prod_node (ha:fP a) (hb:fP b) (hJ:Jn a b M) {i:Nat} {q:Int × Int} {s:List (Int × Int) × List Edge} (hi:s.1[i]?=some q) (hB:Bnd s) (hl:s.1.length≤1600) (hle:s.2.length≤1000000) (hiw:i < 1600):
  gR a b (zm s.1) s.1 (imL M s.1 s.2) (i:Int)=some (.inl (zm (dA id (i:Int) (gF a b M q) s).1,(dA id (i:Int) (gF a b M q) s).1,imL M (dA id (i:Int) (gF a b M q) s).1 (dA id (i:Int) (gF a b M q) s).2,((i+1:Nat):Int))):=by
 have hal:=ha.1.2.2.2.1
 have hbl:=hb.1.2.2.2.1
 have ol:(dO a q.1).length≤300:=Nat.le_trans (List.length_filter_le _ _) hal
 have ol2:(dO b q.2).length≤300:=Nat.le_trans (List.length_filter_le _ _) hbl
 have hil:i < s.1.length:=(List.getElem?_eq_some_iff.1 hi).1
 have o1:pC a q.1=some (dO a q.1):=by
  unfold pC
  rw [wI (step:=fun s:List Edge × Int=>jG a q.1 s.1 s.2) a.E (fun e=>e.F == q.1) id id (fun k out x hk ho hx=>?_) (fun out=>by simp only [jG,dJ];rfl),aG]
  ·simp [pR,dO]
  ·simp only [jG,cS hk,if_pos,hx,aG,pS,cH hk (show a.E.length < 4611686018427387904 by omega)]
   rw [eN (by simp [jK];omega),aG]
   cases x.F == q.1<;>rfl
 have o2:pC b q.2=some (dO b q.2):=by
  unfold pC
  rw [wI (step:=fun s:List Edge × Int=>jG b q.2 s.1 s.2) b.E (fun e=>e.F == q.2) id id (fun k out x hk ho hx=>?_) (fun out=>by simp only [jG,dJ];rfl),aG]
  ·simp [pR,dO]
  ·simp only [jG,cS hk,if_pos,hx,aG,pS,cH hk (show b.E.length < 4611686018427387904 by omega)]
   rw [eN (by simp [jK];omega),aG]
   cases x.F == q.2<;>rfl
 have hloop:=nF (step:=fun x:List ((Int × Int) × Int) × List (Int × Int) × List iL × Int=>jJ a b q (dO a q.1) x.1 x.2.1 x.2.2.1 x.2.2.2) (dO a q.1) (fun k (c:List (Int × Int) × List Edge)=>(zm c.1,c.1,imL M c.1 c.2,(k:Int)))
  (fun l c=>(zm (dA id (i:Int) (l.filterMap (mH b M q.2 a)) c).1,(dA id (i:Int) (l.filterMap (mH b M q.2 a)) c).1,imL M (dA id (i:Int) (l.filterMap (mH b M q.2 a)) c).1 (dA id (i:Int) (l.filterMap (mH b M q.2 a)) c).2))
  (fun k c=>c.1[i]?=some q∧Bnd c∧c.1.length≤1600+k∧c.2.length≤1000000+k) (fun k c e l hk hx hI=>?_) (fun c _=>?_) (a:=s) ⟨hi,hB,hl,hle⟩
 ·have hsec:=mQ (step:=fun x:List ((Int × Int) × Int) × List (Int × Int) × List iL × Int=>jZ b q (dO b q.2) x.1 x.2.1 x.2.2.1 x.2.2.2) (dO b q.2).length (fun k (c:List ((Int × Int) × Int) × List (Int × Int) × List iL)=>(c.1,c.2.1,c.2.2,(k:Int)))
   (fun _ c=>c=(zm (dA id (i:Int) (gF a b M q) s).1,(dA id (i:Int) (gF a b M q) s).1,imL M (dA id (i:Int) (gF a b M q) s).1 (dA id (i:Int) (gF a b M q) s).2)) (fun r=>r=(zm (dA id (i:Int) (gF a b M q) s).1,(dA id (i:Int) (gF a b M q) s).1,imL M (dA id (i:Int) (gF a b M q) s).1 (dA id (i:Int) (gF a b M q) s).2)) (fun k c hk hI=>?_) (fun c hI=>?_) (dO b q.2).length 0 (zm (dA id (i:Int) (gF a b M q) s).1,(dA id (i:Int) (gF a b M q) s).1,imL M (dA id (i:Int) (gF a b M q) s).1 (dA id (i:Int) (gF a b M q) s).2) (by omega) rfl
  ·obtain ⟨r,r1,rfl⟩:=hsec
   unfold gR
   rw [if_pos (cS hil),rI,hi,aG,o1,aG,show loop (fun x:List ((Int × Int) × Int) × List (Int × Int) × List iL × Int=>jJ a b q (dO a q.1) x.1 x.2.1 x.2.2.1 x.2.2.2) (zm s.1,s.1,imL M s.1 s.2,0)=_ from hloop,aG]
   show nD b (i:Int) q (zm (dA id (i:Int) (gF a b M q) s).1) (dA id (i:Int) (gF a b M q) s).1 (imL M (dA id (i:Int) (gF a b M q) s).1 (dA id (i:Int) (gF a b M q) s).2)=_
   unfold nD
   rw [o2,aG,show loop (fun x:List ((Int × Int) × Int) × List (Int × Int) × List iL × Int=>jZ b q (dO b q.2) x.1 x.2.1 x.2.2.1 x.2.2.2) (zm (dA id (i:Int) (gF a b M q) s).1,(dA id (i:Int) (gF a b M q) s).1,imL M (dA id (i:Int) (gF a b M q) s).1 (dA id (i:Int) (gF a b M q) s).2,0)=_ from r1,aG]
   unfold sB xQ
   rw [cH hiw (by decide)]
  ·have he:=(qN (List.getElem_mem hk:(dO b q.2)[k]∈dO b q.2)).1
   refine ⟨c,?_,hI⟩
   show jZ b q (dO b q.2) c.1 c.2.1 c.2.2 (k:Int)=_
   unfold jZ lM sC
   rw [if_pos (cS hk),cZ hk,aG,sI (nW hb.1 he),aG,aG,if_neg (by simp),cH hk (Nat.lt_of_le_of_lt ol2 (by decide))]
  ·refine ⟨_,?_,hI⟩
   show jZ b q (dO b q.2) c.1 c.2.1 c.2.2 ((dO b q.2).length:Int)=_
   unfold jZ
   rw [if_neg (by simp)]
 ·left
  obtain ⟨hk',rfl⟩:=aAq hx
  obtain ⟨i1,i2,i3,i4⟩:=hI
  have hil':i < c.1.length:=(List.getElem?_eq_some_iff.1 i1).1
  have hst:=prod_edge ha hb hJ i1 i2 (by omega) (by omega) hk'
  have hln:=aCA (key:=id) (i:Int) (mH b M q.2 a (dO a q.1)[k]).toList c
  have hpr:=sK (key:=id) (i:Int) (mH b M q.2 a (dO a q.1)[k]).toList c
  have h1:(mH b M q.2 a (dO a q.1)[k]).toList.length≤1:=by cases mH b M q.2 a (dO a q.1)[k]<;>simp
  refine ⟨dA id (i:Int) (mH b M q.2 a (dO a q.1)[k]).toList c,hst,⟨aCF hpr.1 i1,aIl _ i2 hil',by omega,by omega⟩,?_⟩
  have hfm:((dO a q.1)[k]::l).filterMap (mH b M q.2 a)=(mH b M q.2 a (dO a q.1)[k]).toList++l.filterMap (mH b M q.2 a):=by
   rw [List.filterMap_cons]
   cases mH b M q.2 a (dO a q.1)[k]<;>rfl
  rw [hfm,aLx]
 ·show jJ a b q (dO a q.1) (zm c.1) c.1 (imL M c.1 c.2) ((dO a q.1).length:Int)=_
  unfold jJ
  rw [if_neg (by simp)]
  rfl
theorem aEK (ha:fP a) (hb:fP b) (hJ:Jn a b M):∀ (n i:Nat) (s:List (Int × Int) × List Edge),i≤s.1.length→1601≤n+i→s.1.Nodup→(∀ q∈s.1,inQ a b q)→Bnd s→s.2.length≤300 * i→
  loop (fun x:List ((Int × Int) × Int) × List (Int × Int) × List iL × Int=>gR a b x.1 x.2.1 x.2.2.1 x.2.2.2) (zm s.1,s.1,imL M s.1 s.2,(i:Int))=some (zm (rG id (gF a b M) 1600 n i s).1,(rG id (gF a b M) 1600 n i s).1,imL M (rG id (gF a b M) 1600 n i s).1 (rG id (gF a b M) 1600 n i s).2)∧(rG id (gF a b M) 1600 n i s).2.length≤300 * 1600
 |0,i,s,hi,hn,hnd,hF,_,_=>by have:=aCE ha.1 hb.1 hnd hF;omega
 |n+1,i,s,hi,hn,hnd,hF,hB,he=>by
  have hlen:=aCE ha.1 hb.1 hnd hF
  by_cases hlt:i < s.1.length
  ·have hq:s.1[i]?=some s.1[i]:=List.getElem?_eq_getElem hlt
   have hsi:=aGJ (M:=M) ha.1 hb.1 s.1[i]
   have g1:=vQ (key:=id) (i:Int) (gF a b M s.1[i]) s (by rw [List.map_id];exact hnd)
   rw [List.map_id] at g1
   have g2:=xU (key:=id) (P:=inQ a b) (i:Int) (gF a b M s.1[i]) s hF hsi
   have g3:=aIl (gF a b M s.1[i]) hB hlt
   have g4:=aCE ha.1 hb.1 g1 g2
   have gl:=(sK (key:=id) (i:Int) (gF a b M s.1[i]) s).1.length_le
   have ge:=(aCA (key:=id) (i:Int) (gF a b M s.1[i]) s).1
   have gs:=aLq (b:=b) (M:=M) ha.1 s.1[i]
   have hx:rG id (gF a b M) 1600 (n+1) i s=rG id (gF a b M) 1600 n (i+1) (dA id (i:Int) (gF a b M s.1[i]) s):=by
    rw [rG,hq];exact if_neg (by omega)
   have hst:=prod_node ha hb hJ hq hB hlen (by omega) (by omega)
   rw [qM (step:=fun x:List ((Int × Int) × Int) × List (Int × Int) × List iL × Int=>gR a b x.1 x.2.1 x.2.2.1 x.2.2.2) (s:=(zm s.1,s.1,imL M s.1 s.2,(i:Int))) hst,hx]
   exact aEK ha hb hJ n (i+1) _ (by omega) (by omega) g1 g2 g3 (by omega)
  ·obtain rfl:i=s.1.length:=by omega
   have hx:rG id (gF a b M) 1600 (n+1) s.1.length s=s:=by
    rw [rG,List.getElem?_eq_none (Nat.le_refl _)]
   have hst:gR a b (zm s.1) s.1 (imL M s.1 s.2) (s.1.length:Int)=some (.inr (zm s.1,s.1,imL M s.1 s.2)):=by
    unfold gR
    rw [if_neg (by simp)]
   rw [nX (step:=fun x:List ((Int × Int) × Int) × List (Int × Int) × List iL × Int=>gR a b x.1 x.2.1 x.2.2.1 x.2.2.2) (s:=(zm s.1,s.1,imL M s.1 s.2,(s.1.length:Int))) hst,hx]
   exact ⟨rfl,by omega⟩
end
end Gv
namespace Gv
open Go
section
variable {a b:cN} {M:List bB}
theorem aKk (O:List (Int × Int)) (hn:O.Nodup) (hl:O.length≤1600) (m0:List ((Int × Int) × Int)):∃ m,loop (fun s:List ((Int × Int) × Int) × Int=>jY O s.1 s.2) (m0,0)=some m∧∀ q∈O,fS m q=some (pos O q):=by
 have key:=mQ (step:=fun s:List ((Int × Int) × Int) × Int=>jY O s.1 s.2) O.length (fun k (m:List ((Int × Int) × Int))=>(m,(k:Int))) (fun k m=>∀ j,(hj:j < O.length)→j < k→fS m O[j]=some (j:Int)) (fun m=>∀ j,(hj:j < O.length)→fS m O[j]=some (j:Int)) (fun k m hk hI=>?_) (fun m hI=>?_) O.length 0 m0 (by omega) (fun j _ h=>by omega)
 ·obtain ⟨m,h1,h2⟩:=key
  refine ⟨m,h1,fun q hq=>?_⟩
  obtain ⟨j,hj,e1,e2⟩:=kC hq
  have:=h2 j hj
  rw [e2] at this
  rw [this,e1]
 ·refine ⟨rH m O[k] (k:Int),?_,fun j hj hjk=>?_⟩
  ·show jY O m (k:Int)=_
   unfold jY
   rw [if_pos (cS hk),cZ hk,aG,aG,cH hk (by omega)]
  ·rw [aJm]
   by_cases e:j=k
   ·subst e;rw [if_pos rfl]
   ·rw [if_neg (fun h=>e ((List.getElem_inj hn).1 h)),hI j hj (by omega)]
 ·refine ⟨m,?_,fun j hj=>hI j hj hj⟩
  show jY O m (O.length:Int)=_
  unfold jY
  rw [if_neg (by simp)]
theorem aKl (ha:fP a) (hb:fP b) (hJ:Jn a b M):aAm a b=some (lX a b M):=by
 obtain ⟨g1,g2,g3,g4,g5⟩:=aDY ha hb hJ
 have hi0:=aGM ha.1 hb.1
 have h12a:=ha.1.2.2.1.2.1
 have h12b:=hb.1.2.2.1.2.1
 have hMl:=hJ.len
 have hlen:=aCE ha.1 hb.1 g1 g2
 obtain ⟨o1,o2⟩:=aEK ha hb hJ 1601 0 ([(a.I,b.I)],[]) (by simp) (by omega) (by simp) (fun q hq=>by simp at hq;subst hq;exact hi0) (fun e he=>by simp at he) (by simp)
 have o2':(gO a b M).2.length≤300 * 1600:=o2
 have o1':loop (fun x:List ((Int × Int) × Int) × List (Int × Int) × List iL × Int=>gR a b x.1 x.2.1 x.2.2.1 x.2.2.2) (zm [(a.I,b.I)],[(a.I,b.I)],[],0)=some (zm (gO a b M).1,(gO a b M).1,imL M (gO a b M).1 (gO a b M).2):=o1
 have hOn:(oI a b M).Nodup:=(aDM ha hb hJ).imp fun {p q} h e=>by subst e;rw [wJ] at h;omega
 have hOl:(oI a b M).length=(gO a b M).1.length:=aIf
 obtain ⟨m,m1,m2⟩:=aKk (oI a b M) hOn (by omega) (zm (gO a b M).1)
 have hix0:ix (gO a b M).1 0=some (a.I,b.I):=by rw [show (0:Int)=((0:Nat):Int) from rfl,rI,g5]
 have hsort:aAZ (gO a b M).1=some (oI a b M):=by unfold aAZ;rw [if_pos (by unfold jK;omega)];rfl
 have hmg:∀ q∈(gO a b M).1,(fS m q).getD 0=pos (oI a b M) q:=fun q hq=>by rw [m2 q (uT.2 hq)];rfl
 have harcs:loop (fun s:List iC × Int=>jX (imL M (gO a b M).1 (gO a b M).2) m s.1 s.2) ([],0)=some ((imL M (gO a b M).1 (gO a b M).2).map fun l=>⟨(fS m l.from_).getD 0,l.label,(fS m l.to_).getD 0⟩):=by
  have hll:(imL M (gO a b M).1 (gO a b M).2).length≤300 * 1600:=by unfold imL;rw [List.length_map];exact o2'
  generalize imL M (gO a b M).1 (gO a b M).2=lk at hll ⊢
  rw [aAR (step:=fun s:List iC × Int=>jX lk m s.1 s.2) lk (fun l=>(⟨(fS m l.from_).getD 0,l.label,(fS m l.to_).getD 0⟩:iC)) id (fun k out x hk ho hx=>?_) (fun out=>by show jX lk m out (lk.length:Int)=_;unfold jX;rw [if_neg (by simp)];rfl)]
  ·rfl
  ·show jX lk m out (k:Int)=_
   unfold jX
   rw [if_pos (cS hk),hx,aG,eN (by simp [jK];omega),aG,cH hk (by omega)]
 have hA:(imL M (gO a b M).1 (gO a b M).2).map (fun l=>(⟨(fS m l.from_).getD 0,l.label,(fS m l.to_).getD 0⟩:iC))=(gO a b M).2.map fun e=>⟨pos (oI a b M) (atQ (gO a b M).1 e.F),(cE::M).getD e.B.toNat [],pos (oI a b M) (atQ (gO a b M).1 e.To)⟩:=by
  unfold imL
  rw [List.map_map]
  refine List.map_congr_left fun e he=>?_
  have hbd:=g4 e he
  simp only [Function.comp]
  rw [hmg _ (vF hbd.1.1 hbd.1.2),hmg _ (vF hbd.2.2.1 hbd.2.2.2)]
 have hB:((gO a b M).2.map fun e=>(⟨pos (oI a b M) (atQ (gO a b M).1 e.F),(cE::M).getD e.B.toNat [],pos (oI a b M) (atQ (gO a b M).1 e.To)⟩:iC)).map (fun x=>(⟨x.from_,pos (cE::M) x.label,x.to_⟩:Edge))=imE (pos (oI a b M)) (gO a b M).1 (gO a b M).2:=by
  rw [List.map_map]
  unfold imE
  refine List.map_congr_left fun e he=>?_
  have hbd:=g4 e he
  simp only [Function.comp]
  have hlt:e.B.toNat < (cE::M).length:=by simp;omega
  have:=pos_at (R:=fun a b=>rB a b=true) (fun a h=>by rw [yK] at h;cases h) hJ.str.lab (k:=e.B.toNat) hlt
  rw [List.getD_eq_getElem?_getD,List.getElem?_eq_getElem hlt]
  simp only [Option.getD_some]
  rw [this,show ((e.B.toNat:Nat):Int)=e.B by omega]
 have hlts:=lts_gen (st:=((oI a b M).length:Int)) (ini:=pos (oI a b M) (a.I,b.I)) (labels:=a.L++b.L) (M:=M) (arcs:=(gO a b M).2.map fun e=>⟨pos (oI a b M) (atQ (gO a b M).1 e.F),(cE::M).getD e.B.toNat [],pos (oI a b M) (atQ (gO a b M).1 e.To)⟩) (Eo:=edP a b M) hJ.str hJ.mem (by simp;omega) (by rw [List.length_map];omega) (by rw [hB];exact aJl ha hb hJ) (edP_se ha hb hJ) (fun x=>by rw [hB];exact aKf) (by omega)
 unfold aAm
 rw [show ix ([(a.I,b.I)]:List (Int × Int)) 0=some (a.I,b.I) from rfl,aG,aG,show rH ([]:List ((Int × Int) × Int)) (a.I,b.I) 0=zm [(a.I,b.I)] from rfl,o1',aG]
 show pD a b (zm (gO a b M).1) (gO a b M).1 (imL M (gO a b M).1 (gO a b M).2)=_
 unfold pD
 rw [hix0,aG,hsort,aG,m1,aG]
 unfold sA
 rw [harcs,aG,hA]
 unfold rZ
 rw [aMs _ _ (by omega),aG,hmg _ (List.mem_of_getElem? g5),hlts,aG]
 unfold lX
 rw [hOl]
theorem jn_of {a b:cN} (ha:cU a) (hb:cU b):∃ M,qT (a.L++b.L)=some (cE::M)∧Jn a b M∧Jn b a M:=by
 have h1:=ha.2.2.1.2.1
 have h2:=hb.2.2.1.2.1
 obtain ⟨M,j1,j2,j3,j4⟩:=aLn (a.L++b.L) (by simp;omega)
 rw [List.length_append] at j4
 exact ⟨M,j1,⟨j2,j3,by omega⟩,⟨j2,fun s=>(j3 s).trans (by simp only [List.mem_append];exact ⟨fun h=>⟨h.1.symm,h.2⟩,fun h=>⟨h.1.symm,h.2⟩⟩),by omega⟩⟩
end
end Gv
