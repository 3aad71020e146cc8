/- Sets of states, as lists; sets closed under inner steps: the reference's and the program's. -/
import Derived.Test.YtkgakibhmcbflaaGreatDoorJP20
set_option linter.all false
namespace Gv
open Go
theorem aDr (s:List Int) (h:s.length < 1000000000):eU s=some (iQ s):=by
 unfold eU
 by_cases h2:s.length < 2
 ·rw [if_pos (by simp;omega)]
  rcases s with _|⟨a,_|⟨b,l⟩⟩
  ·rfl
  ·rfl
  ·simp at h2;omega
 rw [if_neg (by simp;omega)]
 have:=aFt (step:=fun k=>eC s k) s.length (fun k (_:Unit)=>(k:Int)) (fun k _=>1≤k∧iQ (s.take k)=s.take k) (fun r=>r=.inr (iQ s)∨(r=.inl ()∧iQ s=s)) (fun k a hk hI=>?_) (fun a hI=>?_) (s.length - 1) 1 () (by omega) ⟨Nat.le_refl _,?_⟩
 ·obtain ⟨r,hr,hR⟩:=this
  rw [show (1:Int)=((1:Nat):Int) from rfl,hr,aB]
  rcases hR with rfl|⟨rfl,h⟩
  ·rfl
  ·rw [h];rfl
 ·obtain ⟨i1,i2⟩:=hI
  have hk1:wr ((k:Int) - 1)=((k - 1:Nat):Int):=by rw [fH (by omega) (by omega)];omega
  have hdt:=aEF (s:=s) (m:=k) i1 hk
  simp only [eC,dE hk,if_pos,cV hk,aB,hk1,cV (xs:=s) (k:=k - 1) (by omega),gL,cO hk (show s.length < 4611686018427387904 by omega)]
  by_cases e:s[k]=s[k - 1]'(by omega)
  ·right
   rw [if_pos e.symm,i2] at hdt
   rw [if_pos (by simpa using e),aFs (by omega),aB]
   obtain ⟨s',w,hl,g1,g2,g3⟩:=aEi (step:=fun x:List Int × Int × Int=>eB (k:Int) (s.drop k) x.1 x.2.1 x.2.2) s k i1 hk hdt (fun j w s' x y j1 j2 j3 j4 hx hy=>by
    have hl:(s.drop k).length=s.length - k:=by simp
    have a1:(k:Int)+(j:Int)=((k+j:Nat):Int):=by omega
    have a2:wr ((j:Int) - 1)=((j - 1:Nat):Int):=by rw [fH (by omega) (by omega)];omega
    have a3:(k:Int)+((j - 1:Nat):Int)=((k+j - 1:Nat):Int):=by omega
    simp only [eB,hl,dE (show j < s.length - k by omega),if_pos,cV (xs:=s.drop k) (k:=j) (by omega),aB,a1,aCs,hx,a2,List.getElem?_eq_getElem (show j - 1 < (s.drop k).length by omega),a3,hy,fF,cO (show j < s.length - k by omega) (by omega),List.getElem?_eq_getElem (show w < s'.length by omega),aCG (xs:=s') (k:=w) _ (by omega),cO j4 (show s.length < 4611686018427387904 by omega)]
    by_cases e:x=y<;>simp [e]) (fun s' w=>by
     have hl:(s.drop k).length=s.length - k:=by simp
     simp only [eB,hl,eJ];rfl)
   rw [hl,aB]
   unfold fE
   simp only
   rw [aFs (by omega),aB,aHK _ (by omega),aB,slc_to (by simp;omega),aB]
   refine ⟨_,rfl,.inl ?_⟩
   rw [List.take_append_of_le_length (by simp;omega),List.take_take,Nat.min_self,g3]
  ·left
   rw [if_neg (by simpa using e)]
   refine ⟨(),rfl,by omega,?_⟩
   rw [hdt,if_neg (fun h=>e h.symm),i2,List.take_add_one]
   simp [hk]
 ·refine ⟨_,by simp only [eC,eJ];rfl,.inr ⟨rfl,?_⟩⟩
  have:=hI.2
  rwa [List.take_of_length_le (by omega)] at this
 ·rcases s with _|⟨a,l⟩
  ·rfl
  ·rfl
structure aAB (xs:List Int) (X:Int→Prop):Prop where
 ord:xs.Pairwise (· < ·)
 mem:∀ q,q∈xs↔X q
theorem aAB.eq {xs ys:List Int} {X:Int→Prop} (a:aAB xs X) (b:aAB ys X):xs=ys:=
 wF (R:=fun a b:Int=>a < b) (fun a=>Int.lt_irrefl a) (fun h1 h2=>Int.lt_trans h1 h2) a.ord b.ord fun q=>(a.mem q).trans (b.mem q).symm
theorem aAB.iff {xs:List Int} {X Y:Int→Prop} (a:aAB xs X) (h:∀ q,X q↔Y q):aAB xs Y:=⟨a.ord,fun q=>(a.mem q).trans (h q)⟩
theorem aAB.len {xs:List Int} {X:Int→Prop} (a:aAB xs X) {n:Nat} (h:∀ q,X q→0≤q∧q < n):xs.length≤n:=by
 have hn:xs.Nodup:=a.ord.imp fun h=>by omega
 have:=List.Nodup.length_le_of_subset (l₂:=(List.range n).map Int.ofNat) hn (fun x hx=>by
  have:=h x ((a.mem x).1 hx)
  rw [List.mem_map]
  exact ⟨x.toNat,by rw [List.mem_range];omega,by show ((x.toNat:Nat):Int)=x;omega⟩)
 simpa using this
def iLt (a b:Int):Bool:=decide (a < b)
theorem aGd {xs:List Int}:aAB (iQ (rO iLt xs)) (fun q=>q∈xs):=by
 have h1:(rO iLt xs).Pairwise fun a b=>a≤b:=by
  have:=List.pairwise_mergeSort (le:=fun a b=>!iLt b a) (fun a b c h1 h2=>by unfold iLt at *;simp at *;omega) (fun a b=>by unfold iLt;simp;omega) xs
  refine this.imp fun {a b} h=>?_
  unfold iLt at h;simpa using h
 refine ⟨yS (R:=fun a b:Int=>a≤b) (S:=fun a b:Int=>a < b) (fun h hne=>by omega) (fun h h'=>by omega) h1,fun q=>?_⟩
 rw [yR];unfold rO;rw [List.mem_mergeSort]
theorem aMe {xs:List Int} (hn:xs.Nodup):aAB (rO iLt xs) (fun q=>q∈xs):=by
 refine ⟨(aCC iLt (fun a=>by simp [iLt]) (fun {a b c} h1 h2=>by unfold iLt at *;simp at *;omega) (fun a b=>by unfold iLt;simp;omega) hn).imp fun h=>by unfold iLt at h;simpa using h,fun q=>?_⟩
 unfold rO;rw [List.mem_mergeSort]
theorem aAV {xs:List Int} (h:xs.length < 1000000000):yK xs=some (rO iLt xs):=by
 unfold yK;rw [if_pos (by unfold iX;omega)];rfl
inductive Cl (t:cD) (X:Int→Prop):Int→Prop
 |base {q:Int}:X q→Cl t X q
 |step {e:Edge}:e∈t.E→e.B=0→Cl t X e.F→Cl t X e.To
section
variable {t:cD} {X:Int→Prop}
theorem aJQ (hv:cF t) {e:Edge} (he:e∈t.E):(0≤e.F∧e.F < t.N)∧(0≤e.To∧e.To < t.N)∧0≤e.B∧e.B < t.L.length:=by
 have h:=sH hv he
 unfold aBU at h
 omega
theorem Cl.inn (hv:cF t) (h0:∀ q,X q→0≤q∧q < t.N) {q:Int} (h:Cl t X q):0≤q∧q < t.N:=by
 induction h with
 |base h=>exact h0 _ h
 |step he _ _ _=>have:=(aJQ hv he).2.1;omega
theorem Cl.congr {Y:Int→Prop} (h:∀ q,X q→Y q) {q:Int} (hc:Cl t X q):Cl t Y q:=by
 induction hc with
 |base hx=>exact .base (h _ hx)
 |step a b _ ih=>exact .step a b ih
theorem Cl.iff {Y:Int→Prop} (h:∀ q,X q↔Y q) (q:Int):Cl t X q↔Cl t Y q:=⟨Cl.congr fun q=>(h q).1,Cl.congr fun q=>(h q).2⟩
def Aft (t:cD) (S:List Int) (k:Int) (q:Int):Prop:=∃ e∈t.E,e.B=k∧e.F∈S∧e.To=q
theorem Aft.inn (hv:cF t) {S:List Int} {k q:Int} (h:Aft t S k q):0≤q∧q < t.N:=by
 obtain ⟨e,he,_,_,rfl⟩:=h
 have:=(aJQ hv he).2.1;omega
end
end Gv
namespace Gv
open Go
def aCK (o:List Int) (x:Int):List Int:=if x∈o then o else o++[x]
theorem aIW:∀ (l o:List Int),o.Nodup→o <+:l.foldl aCK o∧(l.foldl aCK o).Nodup∧(∀ q,q∈l.foldl aCK o↔q∈o∨q∈l)∧(l.foldl aCK o).length≤o.length+l.length
 |[],o,h=>⟨List.prefix_refl _,h,fun q=>by simp,by simp⟩
 |x::l,o,h=>by
  have h':(aCK o x).Nodup:=by
   unfold aCK
   split
   ·exact h
   ·rename_i hx
    rw [List.nodup_append]
    refine ⟨h,by simp,fun a ha b hb=>?_⟩
    simp at hb;subst hb
    exact fun e=>hx (e ▸ ha)
  obtain ⟨g1,g2,g3,g4⟩:=aIW l (aCK o x) h'
  have hp:o <+:aCK o x:=by
   unfold aCK;split
   ·exact List.prefix_refl _
   ·exact List.prefix_append _ _
  have hm:∀ q,q∈aCK o x↔q∈o∨q=x:=fun q=>by
   unfold aCK;split
   ·rename_i hx
    constructor
    ·exact .inl
    ·rintro (h|rfl)
     ·exact h
     ·exact hx
   ·simp
  refine ⟨hp.trans g1,g2,fun q=>?_,?_⟩
  ·rw [List.foldl_cons,g3 q,hm q,List.mem_cons,or_assoc]
  ·rw [List.foldl_cons]
   have:(aCK o x).length≤o.length+1:=by unfold aCK;split<;>simp
   rw [List.length_cons];omega
theorem labs_any' {xs:List Int} {s:Int}:(xs.any fun x=>s == x)=decide (s∈xs):=by
 rw [Bool.eq_iff_iff,List.any_eq_true,decide_eq_true_iff]
 constructor
 ·rintro ⟨x,hx,h⟩
  rw [beq_iff_eq] at h
  exact h ▸ hx
 ·intro h;exact ⟨s,h,by simp⟩
section
variable {t:cD}
theorem aMf (hv:cF t) {S:List Int} (hS:S.length < 1000000000) {k:Nat} (hk:k < t.L.length):∃ R,kX t S t.L[k]=some R∧aAB R (Aft t S (k:Int)):=by
 have h300:=hv.2.2.2.1
 have hl:((t.E.filter fun e=>vE t e == t.L[k]&&S.any fun x=>e.F == x).map (·.To)).length≤300:=by
  rw [List.length_map];exact Nat.le_trans (List.length_filter_le _ _) h300
 refine ⟨iQ (rO iLt ((t.E.filter fun e=>vE t e == t.L[k]&&S.any fun x=>e.F == x).map (·.To))),?_,aGd.iff fun q=>?_⟩
 ·unfold kX
  rw [aBK (step:=fun x:List Int × Int=>jI t S t.L[k] x.1 x.2) t.E (fun e=>vE t e == t.L[k]&&S.any fun x=>e.F == x) (·.To) id (fun j out x hj ho hx=>?_) (fun out=>by simp only [jI,eJ];rfl),aB]
  ·unfold nR
   simp only [id]
   rw [aAV (by omega),aB,aDr _ (by unfold rO;rw [List.length_mergeSort];omega),aB]
  ·obtain ⟨hj',rfl⟩:=tK hx
   simp only [jI,dE hj,if_pos,hx,aB,aBt (sH hv (List.getElem_mem hj')),aCz S _ (show S.length < 4611686018427387904 by omega),nT,nS,cO hj (show t.E.length < 4611686018427387904 by omega)]
   rw [dX (by simp [iX];omega),aB]
   cases vE t t.E[j] == t.L[k]<;>cases (S.any fun x=>t.E[j].F == x)<;>rfl
 ·rw [List.mem_map]
  constructor
  ·rintro ⟨e,he,rfl⟩
   rw [List.mem_filter,Bool.and_eq_true,List.any_eq_true] at he
   obtain ⟨h1,h2,x,hx,h3⟩:=he
   rw [aCq hv h1 (List.getElem_mem hk),aFv hv.2.2.1 hk,beq_iff_eq] at h2
   rw [beq_iff_eq] at h3
   exact ⟨e,h1,h2,h3 ▸ hx,rfl⟩
  ·rintro ⟨e,h1,h2,h3,rfl⟩
   refine ⟨e,?_,rfl⟩
   rw [List.mem_filter,Bool.and_eq_true,List.any_eq_true,aCq hv h1 (List.getElem_mem hk),aFv hv.2.2.1 hk,beq_iff_eq]
   exact ⟨h1,h2,_,h3,by simp⟩
theorem tau_at (hv:cF t):∃ h:0 < t.L.length,t.L[0]=dH:=⟨by have:=hv.2.2.1.1;omega,hv.2.2.1.2.2.1 _⟩
theorem aFw (hv:cF t) {xs:List Int} (hn:xs.Nodup) (h0:∀ q∈xs,0≤q∧q < t.N):∃ R,pQ t xs=some R∧aAB R (Cl t (·∈xs)):=by
 have h40:=hv.1
 have hlen:∀ {o:List Int},o.Nodup→(∀ q∈o,Cl t (·∈xs) q)→o.length≤40:=fun {o} h1 h2=>by
  have:=List.Nodup.length_le_of_subset (l₂:=(List.range 40).map Int.ofNat) h1 (fun x hx=>by
   have:=(h2 x hx).inn hv h0
   rw [List.mem_map]
   exact ⟨x.toNat,by rw [List.mem_range];omega,by show ((x.toNat:Nat):Int)=x;omega⟩)
  simpa using this
 have hx0:=hlen hn fun q hq=>.base hq
 have hloop:=uM (step:=fun s:List Int × Int=>lJ t s.1 s.2)
  (fun s=>∃ k:Nat,s.2=(k:Int)∧k≤s.1.length∧s.1.Nodup∧(∀ q∈xs,q∈s.1)∧(∀ q∈s.1,Cl t (·∈xs) q)∧∀ j,(hj:j < s.1.length)→j < k→∀ e∈t.E,e.B=0→e.F=s.1[j]→e.To∈s.1)
  (fun s=>41 - s.2.toNat) (fun r=>r.Nodup∧r.length≤40∧∀ q,q∈r↔Cl t (·∈xs) q) (fun s hI=>?_) (s:=(xs,0)) ⟨0,rfl,Nat.zero_le _,hn,fun _ h=>h,fun q hq=>.base hq,fun j _ h=>by omega⟩
 ·obtain ⟨r,h1,h2,h3,h4⟩:=hloop
  refine ⟨rO iLt r,?_,(aMe h2).iff h4⟩
  unfold pQ jA
  rw [dX (by simp [iX];omega),aB,List.nil_append,aB,h1,aB]
  unfold oH
  rw [aAV (by omega)];rfl
 ·obtain ⟨o,i⟩:=s
  obtain ⟨k,rfl,hk,hnd,hsub,hcl,hdone⟩:=hI
  simp only at hk hnd hsub hcl hdone
  have ho:=hlen hnd hcl
  by_cases hlt:k < o.length
  ·left
   obtain ⟨ht0,ht⟩:=tau_at hv
   obtain ⟨R,hf,hR⟩:=aMf hv (S:=[o[k]]) (by simp) ht0
   rw [ht] at hf
   have hRl:R.length≤40:=hR.len (n:=40) fun q hq=>by have:=hq.inn hv;omega
   have hin:=uH (step:=fun s:List Int × Int=>kE R s.1 s.2) R (fun j a=>(a,(j:Int))) (fun l a=>l.foldl aCK a) (fun j a=>a.length≤40+j) (fun j a x l hj hx hI=>?_) (fun a _=>by simp only [kE,eJ];rfl) (a:=o) ho
   ·obtain ⟨g1,g2,g3,g4⟩:=aIW R o hnd
    have hcl':∀ q∈R.foldl aCK o,Cl t (·∈xs) q:=fun q hq=>by
     rcases (g3 q).1 hq with h|h
     ·exact hcl q h
     ·obtain ⟨e,he,hl,hfr,rfl⟩:=(hR.mem q).1 h
      simp only [List.mem_singleton] at hfr
      exact .step he (by simpa using hl) (hfr ▸ hcl _ (List.getElem_mem hlt))
    refine ⟨(R.foldl aCK o,((k+1:Nat):Int)),?_,⟨k+1,rfl,Nat.le_trans hlt g1.length_le,g2,fun q hq=>(g3 q).2 (.inl (hsub q hq)),hcl',fun j hj hjk e he hl hfr=>?_⟩,by simp only;omega⟩
    ·simp only [lJ,dE hlt,if_pos,cV hlt,aB]
     rw [show ([116,97,117]:bI)=dH from rfl,hf,aB,show loop (fun s:List Int × Int=>kE R s.1 s.2) (o,0)=_ from hin,aB]
     simp only [oI,sE,cO hlt (show o.length < 4611686018427387904 by omega)]
    ·simp only at hj hfr ⊢
     have hjo:j < o.length:=by omega
     have e1:(R.foldl aCK o)[j]=o[j]:=(g1.getElem hjo).symm
     rw [e1] at hfr
     rw [g3]
     by_cases hjk':j < k
     ·exact .inl (hdone j hjo hjk' e he hl hfr)
     ·obtain rfl:j=k:=by omega
      exact .inr ((hR.mem _).2 ⟨e,he,by simpa using hl,by simp [hfr],rfl⟩)
   ·left
    have hI':a.length≤40+j:=hI
    simp only [kE,dE hj,if_pos,hx,aB,aCz a _ (show a.length < 4611686018427387904 by omega),oJ,cO hj (show R.length < 4611686018427387904 by omega)]
    rw [labs_any',dX (by simp [iX];omega),aB,List.foldl_cons]
    unfold aCK
    by_cases hm:x∈a
    ·rw [if_pos hm];exact ⟨a,by simp [hm],by omega,rfl⟩
    ·rw [if_neg hm];exact ⟨a++[x],by simp [hm],by simp;omega,rfl⟩
  ·right
   obtain rfl:k=o.length:=by omega
   refine ⟨o,by simp only [lJ,eJ];rfl,hnd,ho,fun q=>⟨hcl q,fun hc=>?_⟩⟩
   induction hc with
   |base hx=>exact hsub _ hx
   |@step e he hl hc ih=>
    obtain ⟨j,hj,e1⟩:=List.mem_iff_getElem.1 ih
    exact hdone j hj hj e he hl e1.symm
end
end Gv
namespace Gv
open Go
theorem aDs {σ ρ:Type} {step:σ→Option (σ ⊕ ρ)} {s s':σ} (h:step s=some (.inl s')):loop step s=loop step s':=by rw [cM,h]
theorem aFx {σ ρ:Type} {step:σ→Option (σ ⊕ ρ)} {s:σ} {r:ρ} (h:step s=some (.inr r)):loop step s=some r:=by rw [cM,h]
section
variable {κ β:Type} [DecidableEq β] [BEq β] [LawfulBEq β] (key:κ→β)
def atK (F:List κ) (q:κ):Int:=if key q∈F.map key then pos (F.map key) (key q) else (F.length:Int)
def aBv (F:List κ) (q:κ):List κ:=if key q∈F.map key then F else F++[q]
def add1 (i:Int) (s:List κ × List Edge) (x:Int × κ):List κ × List Edge:=(aBv key s.1 x.2,s.2++[⟨i,x.1,atK key s.1 x.2⟩])
variable {key}
theorem aKT (F:List κ) (q:κ):F <+:aBv key F q:=by
 unfold aBv;split
 ·exact List.prefix_refl _
 ·exact List.prefix_append _ _
theorem aKU (F:List κ) (q:κ):(aBv key F q).length≤F.length+1:=by unfold aBv;split<;>simp
theorem atK_in (F:List κ) (q:κ):0≤atK key F q∧atK key F q < (aBv key F q).length:=by
 unfold atK aBv
 by_cases h:key q∈F.map key
 ·rw [if_pos h,if_pos h]
  obtain ⟨i,hi,e,_⟩:=vU h
  rw [List.length_map] at hi
  omega
 ·rw [if_neg h,if_neg h,List.length_append,List.length_singleton];omega
theorem ED.done {L:List bI} {j n:Nat} {ed:List Edge} (h:ED L (j:Int) 0 n ed) (hj:j≤n):ed.Pairwise flLt∧∀ e∈ed,(0≤e.F∧e.F < n)∧(1≤e.B∧e.B≤L.length)∧0≤e.To∧e.To < n:=
 ⟨h.ord,fun e he=>by have:=h.all e he;omega⟩
def Small (s:List κ × List Edge):Prop:=s.1.length≤40∧s.2.length≤300
instance (s:List κ × List Edge):Decidable (Small s):=by unfold Small;infer_instance
end
end Gv
namespace Gv
open Go
section
structure GoodS (t:cD) (S:List Int):Prop where
 len:S.length≤40
 inn:∀ q∈S,0≤q∧q < t.N
variable {t:cD}
end
end Gv
namespace Gv
open Go
section
variable {t:cD}
theorem GoodS.small (hv:cF t) {S:List Int} (h:GoodS t S):∀ q∈S,0≤q∧q≤63:=fun q hq=>by have:=h.inn q hq;have:=hv.1;omega
theorem tail_cons (hv:cF t):t.L=dH::t.L.tail∧oM t.L.tail:=by
 obtain ⟨L,e,h⟩:=hv.2.2.1.cons
 rw [e];exact ⟨rfl,h⟩
end
end Gv
namespace Gv
open Go
theorem aMg (l:List bI) (a:Nat) (ha:a≤l.length) (h:l.length < 1000000000):∃ z:bI,loop (fun s:List bI × Int=>oE (a:Int) s.1 s.2) (l++[[]],(l.length:Int))=some (l.take a++z::l.drop a):=by
 have key:=uM (step:=fun s:List bI × Int=>oE (a:Int) s.1 s.2) (fun s=>∃ (k:Nat) (z:bI),s=(l.take k++z::l.drop k,(k:Int))∧a≤k∧k≤l.length) (fun s=>s.2.toNat)
  (fun x=>∃ z:bI,x=l.take a++z::l.drop a) (fun s hI=>?_) (s:=(l++[[]],(l.length:Int))) ⟨l.length,[],by simp,ha,Nat.le_refl _⟩
 ·obtain ⟨r,h1,z,rfl⟩:=key
  exact ⟨z,h1⟩
 ·obtain ⟨k,z,rfl,hak,hk⟩:=hI
  simp only [oE]
  have hlen:(l.take k++z::l.drop k).length=l.length+1:=by simp;omega
  by_cases h0:a < k
  ·have hk1:wr ((k:Int) - 1)=((k - 1:Nat):Int):=by rw [fH (by omega) (by omega)];omega
   rw [decide_eq_true (p:=(a:Int) < (k:Int)) (by omega),if_pos rfl,hk1,cV (xs:=l.take k++z::l.drop k) (k:=k - 1) (by omega),aB,cV (by omega),aB,aCG _ (by omega),aB]
   left
   refine ⟨_,rfl,⟨k - 1,l[k - 1],?_,by omega,by omega⟩,by simp;omega⟩
   have e1:(l.take k++z::l.drop k)[k - 1]'(by omega)=l[k - 1]:=by
    rw [List.getElem_append_left (by simp;omega),List.getElem_take]
   rw [e1]
   have e2:(l.take k++z::l.drop k).set k l[k - 1]=l.take k++l[k - 1]::l.drop k:=by
    rw [List.set_append_right _ _ (by rw [List.length_take];omega)]
    simp [Nat.min_eq_left hk]
   have e3:l.take k=l.take (k - 1)++[l[k - 1]]:=by
    have:=List.take_add_one (l:=l) (i:=k - 1)
    rw [show k - 1+1=k by omega,List.getElem?_eq_getElem (by omega)] at this
    exact this
   have e4:l.drop (k - 1)=l[k - 1]::l.drop k:=by
    have:=List.drop_eq_getElem_cons (l:=l) (i:=k - 1) (by omega)
    rw [show k - 1+1=k by omega] at this
    exact this
   simp only [Prod.mk.injEq,and_true]
   rw [e2,e3,e4,List.append_assoc];rfl
  ·obtain rfl:k=a:=by omega
   right
   rw [decide_eq_false (p:=(k:Int) < (k:Int)) (by omega),if_neg (by simp)]
   exact ⟨_,rfl,z,rfl⟩
theorem join_find (l:List bI) (e:bI) (h1:1≤l.length) (h:l.length < 1000000000):∃ a:Nat,loop (fun s:Int=>jX l e s) 1=some (a:Int)∧1≤a∧a≤l.length∧(∀ (j:Nat) x,1≤j→j < a→l[j]?=some x→zW x e=true)∧(∀ x,l[a]?=some x→zW x e=false):=by
 have key:=uM (step:=fun s:Int=>jX l e s) (fun s=>∃ a:Nat,s=(a:Int)∧1≤a∧a≤l.length∧∀ (j:Nat) x,1≤j→j < a→l[j]?=some x→zW x e=true) (fun s=>l.length - s.toNat)
  (fun r=>∃ a:Nat,r=(a:Int)∧1≤a∧a≤l.length∧(∀ (j:Nat) x,1≤j→j < a→l[j]?=some x→zW x e=true)∧(∀ x,l[a]?=some x→zW x e=false)) (fun s hI=>?_) (s:=1) ⟨1,rfl,Nat.le_refl _,h1,fun j x g1 g2=>by omega⟩
 ·obtain ⟨r,hr,a,rfl,h2⟩:=key
  exact ⟨a,hr,h2⟩
 ·obtain ⟨a,rfl,ha1,ha,hall⟩:=hI
  by_cases hlt:a < l.length
  ·have hx:l[a]?=some l[a]:=List.getElem?_eq_getElem hlt
   simp only [jX,dE hlt,if_pos,cV hlt,aB,qI]
   cases he:zW l[a] e with
   |true=>
    left
    refine ⟨_,by rw [if_pos rfl,cO hlt (by omega)],⟨a+1,rfl,by omega,by omega,fun j x g1 g2 hj=>?_⟩,by simp;omega⟩
    by_cases e1:j=a
    ·subst e1;rw [hx] at hj;cases hj;exact he
    ·exact hall j x g1 (by omega) hj
   |false=>
    right
    refine ⟨_,by rw [if_neg (by simp)],a,rfl,ha1,ha,hall,fun x hj=>?_⟩
    rw [hx] at hj;cases hj;exact he
  ·obtain rfl:a=l.length:=by omega
   right
   refine ⟨_,by simp only [jX,eJ,qI];rw [if_neg (by simp),if_neg (by simp)],_,rfl,ha1,Nat.le_refl _,hall,fun x hx=>?_⟩
   rw [List.getElem?_eq_none (Nat.le_refl _)] at hx;cases hx
theorem join_step (xs:List bI) (M:List bI) (hM:oM M) (hl:M.length < 1000000) (hx:xs.length < 1000000) {k:Nat} (hk:k < xs.length):∃ M',iH xs (dH::M) (k:Int)=some (.inl (dH::M',((k+1:Nat):Int)))∧oM M'∧(∀ s,s∈M'↔s∈M∨(s=xs[k]∧s≠dH))∧M'.length≤M.length+1:=by
 have hw:=cO hk (show xs.length < 4611686018427387904 by omega)
 simp only [iH,dE hk,if_pos,cV hk,aB,aBu (dH::M) xs[k] (by simp;omega),oD,hw]
 by_cases hm:xs[k]∈dH::M
 ·rw [if_pos (by simpa using aAU.2 hm)]
  refine ⟨M,rfl,hM,fun s=>⟨.inl,?_⟩,by omega⟩
  rintro (h|⟨rfl,h⟩)
  ·exact h
  ·rcases List.mem_cons.1 hm with h'|h'
   ·exact absurd h' h
   ·exact h'
 ·rw [if_neg (by have:¬ 0≤pos (dH::M) xs[k]:=fun h=>hm (aAU.1 h);simpa using this)]
  have hne:xs[k]≠dH:=fun h=>hm (by rw [h];simp)
  have hnm:xs[k]∉M:=fun h=>hm (by simp [h])
  obtain ⟨a,h1,h2,h3,h4,h5⟩:=join_find (dH::M) xs[k] (by simp) (by simp;omega)
  rw [h1,aB]
  unfold tS
  rw [dX (by simp [iX];omega),aB]
  have hk1:wr ((((dH::M)++([([]:bI)]:List bI)).length:Int) - 1)=((dH::M).length:Int):=by
   simp only [List.length_append,List.length_cons,List.length_nil]
   rw [fH (by omega) (by omega)];omega
  rw [hk1]
  obtain ⟨z,hz⟩:=aMg (dH::M) a h3 (by simp;omega)
  rw [hz,aB]
  unfold tR
  have hlen:((dH::M).take a++z::(dH::M).drop a).length=(dH::M).length+1:=by simp;omega
  rw [cV (by omega),aB,aCG _ (by omega),aB]
  have e2:((dH::M).take a++z::(dH::M).drop a).set a xs[k]=(dH::M).take a++xs[k]::(dH::M).drop a:=by
   rw [List.set_append_right _ _ (by rw [List.length_take];omega),List.length_take,Nat.min_eq_left h3,Nat.sub_self];rfl
  rw [e2]
  obtain ⟨b,rfl⟩:∃ b,a=b+1:=⟨a - 1,by omega⟩
  have h3':b≤M.length:=by simpa using h3
  have hbef:∀ x∈M.take b,zW x xs[k]=true:=fun x hx=>by
   obtain ⟨j,hj,rfl⟩:=List.getElem_of_mem hx
   rw [List.length_take] at hj
   exact h4 (j+1) _ (by omega) (by omega) (by rw [List.getElem_take,List.getElem?_cons_succ];exact List.getElem?_eq_getElem (by omega))
  have haft:∀ x∈M.drop b,zW xs[k] x=true:=fun x hx=>by
   obtain ⟨j,hj,rfl⟩:=List.getElem_of_mem hx
   rw [List.length_drop] at hj
   have hb:b < M.length:=by omega
   have g:zW M[b] xs[k]=false:=h5 _ (by rw [List.getElem?_cons_succ];exact List.getElem?_eq_getElem hb)
   have g2:zW xs[k] M[b]=true:=by
    rcases aGL xs[k] M[b] with t|t|t
    ·exact t
    ·exact absurd (t ▸ List.getElem_mem hb) hnm
    ·rw [g] at t;cases t
   rw [List.getElem_drop]
   by_cases j0:j=0
   ·subst j0;exact g2
   ·exact wX g2 (List.pairwise_iff_getElem.1 hM.1 b (b+j) hb (by omega) (by omega))
  refine ⟨M.take b++xs[k]::M.drop b,by unfold oD;rw [hw];rfl,⟨?_,fun h=>?_⟩,fun s=>?_,by simp;omega⟩
  ·have hs':(M.take b++M.drop b).Pairwise fun a b=>zW a b=true:=by rw [List.take_append_drop];exact hM.1
   rw [List.pairwise_append] at hs'
   rw [List.pairwise_append,List.pairwise_cons]
   refine ⟨hs'.1,⟨haft,hs'.2.1⟩,fun x hx y hy=>?_⟩
   rcases List.mem_cons.1 hy with rfl|hy
   ·exact hbef x hx
   ·exact wX (hbef x hx) (haft y hy)
  ·rw [List.mem_append,List.mem_cons] at h
   rcases h with h|h|h
   ·exact hM.2 (List.mem_of_mem_take h)
   ·exact hne h.symm
   ·exact hM.2 (List.mem_of_mem_drop h)
  ·rw [List.mem_append,List.mem_cons]
   conv=>rhs;rw [←List.take_append_drop b M,List.mem_append]
   constructor
   ·rintro (g|g|g)
    ·simp [g]
    ·exact .inr ⟨g,g ▸ hne⟩
    ·simp [g]
   ·rintro ((g|g)|⟨g,_⟩)<;>simp [g]
theorem aHN (xs:List bI) (hx:xs.length < 1000000):∃ M,yM xs=some (dH::M)∧oM M∧(∀ s,s∈M↔s∈xs∧s≠dH)∧M.length≤xs.length:=by
 have key:=dI (step:=fun s:List bI × Int=>iH xs s.1 s.2) xs.length (fun k (M:List bI)=>(dH::M,(k:Int))) (fun k M=>oM M∧(∀ s,s∈M↔s∈xs.take k∧s≠dH)∧M.length≤k)
  (fun r=>∃ M,r=dH::M∧oM M∧(∀ s,s∈M↔s∈xs∧s≠dH)∧M.length≤xs.length) (fun k M hk hI=>?_) (fun M hI=>?_) xs.length 0 [] (by omega) ⟨⟨by simp,by simp⟩,by simp,by simp⟩
 ·obtain ⟨r,h1,M,rfl,h2⟩:=key
  refine ⟨M,?_,h2⟩
  unfold yM
  rw [show loop (fun s:List bI × Int=>iH xs s.1 s.2) ([[116,97,117]],0)=some (dH::M) from h1];rfl
 ·obtain ⟨i1,i2,i3⟩:=hI
  obtain ⟨M',g1,g2,g3,g4⟩:=join_step xs M i1 (by omega) hx hk
  refine ⟨M',g1,g2,fun s=>?_,by omega⟩
  rw [g3 s,i2 s,List.take_add_one,List.getElem?_eq_getElem hk,List.mem_append]
  simp only [Option.toList_some,List.mem_singleton]
  constructor
  ·rintro (⟨a,b⟩|⟨a,b⟩)
   ·exact ⟨.inl a,b⟩
   ·exact ⟨.inr a,b⟩
  ·rintro ⟨a|a,b⟩
   ·exact .inl ⟨a,b⟩
   ·exact .inr ⟨a,b⟩
 ·obtain ⟨i1,i2,i3⟩:=hI
  rw [List.take_length] at i2
  exact ⟨_,by simp only [iH,eJ];rfl,M,rfl,i1,i2,i3⟩
theorem aKV {M M':List bI} (h:oM M) (h':oM M') (hm:∀ s,s∈M↔s∈M'):M=M':=
 wF (R:=fun a b=>zW a b=true) (fun a h=>by rw [qQ] at h;cases h) wX h.1 h'.1 hm
theorem aJR {A B:List Edge} (h:SE A) (h':SE B) (hm:∀ x,x∈A↔x∈B):A=B:=
 wF (R:=fun a b=>cW a b=true) (fun a h=>by rw [wG] at h;cases h) (fun h1 h2=>tL h1 h2) h h' hm
theorem aKW {texts M:List bI} {edges Eo:List Edge} (ht:texts.length < 1000000) (hM:oM M) (hm:∀ s,s∈M↔s∈texts∧s≠dH) (hlen:edges.length < 1000000) (hin:∀ e∈edges,0≤e.B∧e.B < texts.length)
  (hEE:SE Eo) (he:∀ x,x∈Eo↔∃ e∈edges,x=⟨e.F,pos (dH::M) (texts.getD e.B.toNat []),e.To⟩) (st ini:Int):kS st ini texts edges=some ⟨st,ini,dH::M,Eo⟩:=by
 obtain ⟨M',j1,j2,j3,j4⟩:=aHN texts ht
 obtain rfl:M'=M:=aKV j2 hM fun s=>(j3 s).trans (hm s).symm
 unfold kS
 rw [j1,aB]
 have key:=dI (step:=fun s:List Edge × Int=>jY texts edges (dH::M') s.1 s.2) edges.length (fun k (a:List Edge)=>(a,(k:Int))) (fun k a=>SE a∧(∀ x,x∈a↔∃ e∈edges.take k,x=⟨e.F,pos (dH::M') (texts.getD e.B.toNat []),e.To⟩)∧a.length≤k)
  (fun x=>x=Eo) (fun k a hk hI=>?_) (fun a hI=>?_) edges.length 0 [] (by omega) ⟨List.Pairwise.nil,by simp,by simp⟩
 ·obtain ⟨x,hx,hx2⟩:=key
  have hx':loop (fun s:List Edge × Int=>jY texts edges (dH::M') s.1 s.2) (([]:List Edge),0)=some x:=hx
  rw [hx',aB,hx2];rfl
 ·obtain ⟨hs,hmem,hl⟩:=hI
  have hi:=hin _ (List.getElem_mem hk)
  have hlt:edges[k].B.toNat < texts.length:=by omega
  have hgd:texts.getD edges[k].B.toNat []=texts[edges[k].B.toNat]:=by rw [List.getD_eq_getElem?_getD,List.getElem?_eq_getElem hlt];rfl
  simp only [jY,dE hk,if_pos,cV hk,aB]
  rw [aDX hi.1 hlt,aB,aBu _ _ (by simp;omega),aB,←hgd]
  obtain ⟨l',h1,h2,h3,h4⟩:=aIU a ⟨edges[k].F,pos (dH::M') (texts.getD edges[k].B.toNat []),edges[k].To⟩ (by omega) hs
  rw [h1,aB]
  refine ⟨l',by rw [cO hk (show edges.length < 4611686018427387904 by omega)],h2,fun x=>?_,by omega⟩
  rw [h3,hmem,List.take_add_one,List.getElem?_eq_getElem hk]
  simp only [Option.toList_some,List.mem_append,List.mem_singleton]
  constructor
  ·rintro (g|⟨e,g1,g2⟩)
   ·exact ⟨_,.inr rfl,g⟩
   ·exact ⟨e,.inl g1,g2⟩
  ·rintro ⟨e,g1|rfl,g2⟩
   ·exact .inr ⟨e,g1,g2⟩
   ·exact .inl g2
 ·obtain ⟨hs,hmem,hl⟩:=hI
  rw [List.take_length] at hmem
  exact ⟨a,by simp only [jY,eJ];rfl,aJR hs hEE fun x=>(hmem x).trans (he x).symm⟩
theorem lts_gen {st ini:Int} {labels M:List bI} {arcs:List Arc} {Eo:List Edge} (hM:oM M) (hm:∀ s,s∈M↔s∈labels∧s≠dH) (h1:labels.length < 1000000) (h2:arcs.length < 1000000)
  (hn:(arcs.map fun a=>(⟨a.from_,pos (dH::M) a.label,a.to_⟩:Edge)).Nodup) (hEE:SE Eo) (he:∀ x,x∈Eo↔x∈arcs.map fun a=>(⟨a.from_,pos (dH::M) a.label,a.to_⟩:Edge)) (h3:M.length < 1000000):
  i_lts st ini labels arcs=some ⟨st,ini,dH::M,Eo⟩:=by
 unfold i_lts
 rw [show ([116,97,117]:bI)=dH from rfl,dX (by simp [iX];omega),aB]
 have e1:yJ ([dH]++labels)=some (rO kR ([dH]++labels)):=by unfold yJ;rw [if_pos (by simp [iX];omega)]
 rw [e1,aB,aGm _ (by unfold rO;rw [List.length_mergeSort];simp;omega),aB]
 rw [srt_dedup kR aDG aDo aDH hM.lab (fun x=>?_)]
 ·rw [aFX (step:=fun s:List Edge × Int=>aCk arcs (dH::M) s.1 s.2) arcs (fun a=>(⟨a.from_,pos (dH::M) a.label,a.to_⟩:Edge)) id (fun k out x hk ho hx=>?_) (fun out=>by simp only [aCk,eJ];rfl),aB]
  ·unfold aDa
   have hst:=aCC cW wG tL aBL hn
   have e2:aBh (id (arcs.map fun a=>(⟨a.from_,pos (dH::M) a.label,a.to_⟩:Edge)))=some Eo:=by
    unfold aBh;rw [if_pos (by simp [iX];omega),id,aJR hst hEE fun x=>by unfold rO;rw [List.mem_mergeSort];exact (he x).symm]
   have hEl:Eo.length=arcs.length:=by
    rw [←aJR hst hEE fun x=>by unfold rO;rw [List.mem_mergeSort];exact (he x).symm]
    unfold rO;rw [List.length_mergeSort,List.length_map]
   rw [e2,aB,aJL _ (by omega) hEE,aB]
  ·simp only [aCk,dE hk,if_pos,hx,aB,Index_str _ _ (show (dH::M).length < 4611686018427387904 by simp;omega),cO hk (show arcs.length < 4611686018427387904 by omega)]
   rw [dX (by simp [iX];omega),aB]
 ·by_cases e:x=dH
  ·subst e;simp
  ·simp [e,hm x]
end Gv
namespace Gv
open Go
structure Jn (a b:cD) (M:List bI):Prop where
 str:oM M
 mem:∀ s,s∈M↔s∈a.L++b.L∧s≠dH
 len:M.length≤24
def inQ (a b:cD) (q:Int × Int):Prop:=(0≤q.1∧q.1 < a.N)∧0≤q.2∧q.2 < b.N
section
variable {a b:cD} {M:List bI}
def atQ (F:List (Int × Int)) (i:Int):Int × Int:=F.getD i.toNat (0,0)
theorem atQ_mem {F:List (Int × Int)} {i:Int} (h0:0≤i) (h:i < F.length):atQ F i∈F:=by
 unfold atQ;rw [List.getD_eq_getElem?_getD,List.getElem?_eq_getElem (by omega)];exact List.getElem_mem _
theorem atQ_inj {F:List (Int × Int)} (hn:F.Nodup) {i j:Int} (hi:0≤i∧i < F.length) (hj:0≤j∧j < F.length) (h:atQ F i=atQ F j):i=j:=by
 unfold atQ at h
 rw [List.getD_eq_getElem?_getD,List.getElem?_eq_getElem (by omega),List.getD_eq_getElem?_getD,List.getElem?_eq_getElem (by omega)] at h
 simp only [Option.getD_some] at h
 have:=(List.getElem_inj hn).1 h
 omega
def Bnd (s:List (Int × Int) × List Edge):Prop:=∀ e∈s.2,(0≤e.F∧e.F < s.1.length)∧0≤e.To∧e.To < s.1.length
theorem Bnd.add {s:List (Int × Int) × List Edge} (h:Bnd s) {i:Nat} (hi:i < s.1.length) (x:Int × (Int × Int)):Bnd (add1 id (i:Int) s x):=by
 intro e he
 have hl:=(aKT (key:=id) s.1 x.2).length_le
 have ha:=atK_in (key:=id) s.1 x.2
 simp only [add1] at he ⊢
 rcases List.mem_append.1 he with he|he
 ·have:=h e he;omega
 ·simp at he;subst he
  simp only;omega
def imE (g:Int × Int→Int) (F:List (Int × Int)) (E:List Edge):List Edge:=E.map fun e=>⟨g (atQ F e.F),e.B,g (atQ F e.To)⟩
theorem imE_nodup {g:Int × Int→Int} {F:List (Int × Int)} {E:List Edge} (hb:Bnd (F,E)) (hn:F.Nodup) (hg:∀ p∈F,∀ q∈F,g p=g q→p=q) (hE:E.Pairwise flLt):(imE g F E).Nodup:=by
 unfold imE List.Nodup
 rw [List.pairwise_map]
 refine hE.imp_of_mem ?_
 intro e f he hf h heq
 simp only [Edge.mk.injEq] at heq
 have h1:=hb e he
 have h2:=hb f hf
 simp only at h1 h2
 have:=atQ_inj hn h1.1 h2.1 (hg _ (atQ_mem h1.1.1 h1.1.2) _ (atQ_mem h2.1.1 h2.1.2) heq.1)
 unfold flLt at h
 omega
theorem aIX (p q:Int × Int):prLt p q=true↔p.1 < q.1∨(p.1=q.1∧p.2 < q.2):=by
 simp [prLt]
end
end Gv
namespace Gv
open Go
structure Shd (M sh:List bI):Prop where
 len:sh.length≤1000
 mem:∀ s∈M,(nJ 40 s).1∈sh
def nm (b:cD) (q:Int × Int):Int:=q.1 * b.N+q.2
section
variable {a b:cD} {M sh:List bI}
theorem nm_lt (hb:cF b) {p q:Int × Int} (hp:0≤p.2∧p.2 < b.N) (hq:0≤q.2∧q.2 < b.N):prLt p q=true↔nm b p < nm b q:=by
 have h2:=hb.1
 rw [aIX]
 unfold nm
 constructor
 ·rintro (h|⟨h,h'⟩)
  ·have:(p.1+1) * b.N≤q.1 * b.N:=Int.mul_le_mul_of_nonneg_right (by omega) (by omega)
   rw [Int.add_mul,Int.one_mul] at this
   omega
  ·rw [h];omega
 ·intro h
  rcases Int.lt_trichotomy p.1 q.1 with g|g|g
  ·exact .inl g
  ·right;rw [g] at h;omega
  ·exfalso
   have:(q.1+1) * b.N≤p.1 * b.N:=Int.mul_le_mul_of_nonneg_right (by omega) (by omega)
   rw [Int.add_mul,Int.one_mul] at this
   omega
theorem nm_inj (hb:cF b) {p q:Int × Int} (hp:0≤p.2∧p.2 < b.N) (hq:0≤q.2∧q.2 < b.N) (h:nm b p=nm b q):p=q:=by
 have h1:=nm_lt hb hp hq
 have h2:=nm_lt hb hq hp
 rw [aIX] at h1 h2
 obtain ⟨p1,p2⟩:=p
 obtain ⟨q1,q2⟩:=q
 simp only [Prod.mk.injEq] at *
 omega
end
end Gv
namespace Gv
open Go
section
variable {a b:cD} {M sh:List bI}
structure Rf (b:cD) (s:List (Int × Int) × List Edge) (ed:List Edge):Prop where
 se:SE ed
 mem:∀ x,x∈ed↔x∈imE (nm b) s.1 s.2
theorem aHO {l:List Edge} (h:SE l):l.Nodup:=h.imp fun {x y} h e=>by subst e;rw [wG] at h;cases h
theorem Rf.len (hb:cF b) {s:List (Int × Int) × List Edge} {ed:List Edge} (h:Rf b s ed) (hB:Bnd s) (hn:s.1.Nodup) (hq:∀ q∈s.1,inQ a b q) (hE:s.2.Pairwise flLt):ed.length=s.2.length:=by
 have h1:=imE_nodup (g:=nm b) hB hn (fun p hp q hq'=>nm_inj hb (hq p hp).2 (hq q hq').2) hE
 have:=((List.perm_ext_iff_of_nodup (aHO h.se) h1).2 h.mem).length_eq
 rw [this];unfold imE;simp
end
end Gv
namespace Gv
open Go
section
variable {a b:cD} {M sh:List bI}
end
end Gv
namespace Gv
open Go
theorem aMh (x y:List bI) (h:x.length+y.length≤1000000):fQ [x,y]=some (x++y):=by
 unfold fQ
 have h1:loop (fun s:Int × Int=>bW [x,y] s.1 s.2) (0,0)=some (((x.length+y.length:Nat):Int)):=by
  have a1:wr (0+(x.length:Int))=(x.length:Int):=by rw [fH (by omega) (by omega)];omega
  have a2:wr ((x.length:Int)+(y.length:Int))=((x.length+y.length:Nat):Int):=by rw [fH (by omega) (by omega)];omega
  have s0:bW [x,y] 0 0=some (.inl ((x.length:Int),1)):=by
   unfold bW fC
   rw [if_pos (by simp),show ix [x,y] 0=some x from rfl,aB,a1,if_neg (by simp)];rfl
  have s1:bW [x,y] (x.length:Int) 1=some (.inl (((x.length+y.length:Nat):Int),2)):=by
   unfold bW fC
   rw [if_pos (by simp),show ix [x,y] 1=some y from rfl,aB,a2,if_neg (by simp;omega)];rfl
  have s2:bW [x,y] ((x.length+y.length:Nat):Int) 2=some (.inr (((x.length+y.length:Nat):Int))):=by
   unfold bW
   rw [if_neg (by simp)]
  rw [aDs (step:=fun s:Int × Int=>bW [x,y] s.1 s.2) (s:=(0,0)) s0,aDs (step:=fun s:Int × Int=>bW [x,y] s.1 s.2) (s:=((x.length:Int),1)) s1,aFx (step:=fun s:Int × Int=>bW [x,y] s.1 s.2) (s:=(((x.length+y.length:Nat):Int),2)) s2]
 rw [h1,aB]
 unfold fB aDA
 rw [if_pos ⟨rfl,by omega,by unfold iX;omega⟩,aB]
 have s0:bZ [x,y] [] 0=some (.inl (x,1)):=by
  unfold bZ
  rw [if_pos (by simp),show ix [x,y] 0=some x from rfl,aB,dX (by simp [iX];omega),aB];rfl
 have s1:bZ [x,y] x 1=some (.inl (x++y,2)):=by
  unfold bZ
  rw [if_pos (by simp),show ix [x,y] 1=some y from rfl,aB,dX (by unfold iX;omega),aB];rfl
 have s2:bZ [x,y] (x++y) 2=some (.inr (x++y)):=by
  unfold bZ
  rw [if_neg (by simp)]
 rw [aDs (step:=fun s:List bI × Int=>bZ [x,y] s.1 s.2) (s:=([],0)) s0,aDs (step:=fun s:List bI × Int=>bZ [x,y] s.1 s.2) (s:=(x,1)) s1,aFx (step:=fun s:List bI × Int=>bZ [x,y] s.1 s.2) (s:=(x++y,2)) s2,aB]
 rfl
def zm (F:List (Int × Int)):List ((Int × Int) × Int):=F.map fun q=>(q,0)
section
variable {a b:cD} {M:List bI}
end
end Gv
namespace Gv
open Go
section
variable {a b:cD} {M:List bI}
end
end Gv
