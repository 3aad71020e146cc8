/- Sets of states, as lists; sets closed under inner steps: the reference's and the program's. -/
import Derived.Test.YtkcggmmjnpdgnaaGreatDoorJP20
set_option linter.all false
namespace Gv
open Go
theorem aHR (s:List Int) (h:s.length < 1000000000):fW s=some (lW s):=by
 unfold fW
 by_cases h2:s.length < 2
 ·rw [if_pos (by simp;omega)]
  rcases s with _|⟨a,_|⟨b,l⟩⟩
  ·rfl
  ·rfl
  ·simp at h2;omega
 rw [if_neg (by simp;omega)]
 have:=aLg (step:=fun k=>fE s k) s.length (fun k (_:Unit)=>(k:Int)) (fun k _=>1<=k/\lW (s.take k)=s.take k) (fun r=>r=.inr (lW s)\/(r=.inl ()/\lW s=s)) (fun k a hk hI=>?_) (fun a hI=>?_) (s.length - 1) 1 () (by omega) ⟨Nat.le_refl _,?_⟩
 ·obtain ⟨r,hr,hR⟩:=this
  rw [show (1:Int)=((1:Nat):Int) from rfl,hr,aA]
  rcases hR with rfl|⟨rfl,h⟩
  ·rfl
  ·rw [h];rfl
 ·obtain ⟨i1,i2⟩:=hI
  have hk1:wr ((k:Int) - 1)=((k - 1:Nat):Int):=by rw [dP (by omega) (by omega)];omega
  have hdt:=aLf (s:=s) (m:=k) i1 hk
  simp only [fE,dJ hk,if_pos,cU hk,aA,hk1,cU (xs:=s) (k:=k - 1) (by omega),gN,cS hk (show s.length < 4611686018427387904 by omega)]
  by_cases e:s[k]=s[k - 1]'(by omega)
  ·right
   rw [if_pos e.symm,i2] at hdt
   rw [if_pos (by simpa using e),aOk (by omega),aA]
   obtain ⟨s',w,hl,g1,g2,g3⟩:=aLL (step:=fun x:List Int × Int × Int=>fD (k:Int) (s.drop k) x.1 x.2.1 x.2.2) s k i1 hk hdt (fun j w s' x y j1 j2 j3 j4 hx hy=>by
    have hl:(s.drop k).length=s.length - k:=by simp
    have a1:(k:Int)+(j:Int)=((k+j:Nat):Int):=by omega
    have a2:wr ((j:Int) - 1)=((j - 1:Nat):Int):=by rw [dP (by omega) (by omega)];omega
    have a3:(k:Int)+((j - 1:Nat):Int)=((k+j - 1:Nat):Int):=by omega
    simp only [fD,hl,dJ (show j < s.length - k by omega),if_pos,cU (xs:=s.drop k) (k:=j) (by omega),aA,a1,aIv,hx,a2,List.getElem?_eq_getElem (show j - 1 < (s.drop k).length by omega),a3,hy,fC,cS (show j < s.length - k by omega) (by omega),List.getElem?_eq_getElem (show w < s'.length by omega),aJY (xs:=s') (k:=w) _ (by omega),cS j4 (show s.length < 4611686018427387904 by omega)]
    by_cases e:x=y<;>simp [e]) (fun s' w=>by
     have hl:(s.drop k).length=s.length - k:=by simp
     simp only [fD,hl,eZ];rfl)
   rw [hl,aA]
   unfold fB
   simp only
   rw [aOk (by omega),aA,aPt _ (by omega),aA,slc_to (by simp;omega),aA]
   refine ⟨_,rfl,.inl ?_⟩
   rw [List.take_append_of_le_length (by simp;omega),List.take_take,Nat.min_self,g3]
  ·left
   rw [if_neg (by simpa using e)]
   refine ⟨(),rfl,by omega,?_⟩
   rw [hdt,if_neg (fun h=>e h.symm),i2,List.take_add_one]
   simp [hk]
 ·refine ⟨_,by simp only [fE,eZ];rfl,.inr ⟨rfl,?_⟩⟩
  have:=hI.2
  rwa [List.take_of_length_le (by omega)] at this
 ·rcases s with _|⟨a,l⟩
  ·rfl
  ·rfl
structure zV (xs:List Int) (X:Int->Prop):Prop where
 ord:xs.Pairwise (· < ·)
 mem:∀ q,q∈xs<->X q
theorem zV.eq {xs ys:List Int} {X:Int->Prop} (a:zV xs X) (b:zV ys X):xs=ys:=
 aGN (R:=fun a b:Int=>a < b) (fun a=>Int.lt_irrefl a) (fun h1 h2=>Int.lt_trans h1 h2) a.ord b.ord fun q=>(a.mem q).trans (b.mem q).symm
theorem zV.iff {xs:List Int} {X Y:Int->Prop} (a:zV xs X) (h:∀ q,X q<->Y q):zV xs Y:=⟨a.ord,fun q=>(a.mem q).trans (h q)⟩
theorem zV.len {xs:List Int} {X:Int->Prop} (a:zV xs X) {n:Nat} (h:∀ q,X q->0<=q/\q < n):xs.length<=n:=by
 have hn:xs.Nodup:=a.ord.imp fun h=>by omega
 have:=List.Nodup.length_le_of_subset (l₂:=(List.range n).map Int.ofNat) hn (fun x hx=>by
  have:=h x ((a.mem x).1 hx)
  rw [List.mem_map]
  exact ⟨x.toNat,by rw [List.mem_range];omega,by show ((x.toNat:Nat):Int)=x;omega⟩)
 simpa using this
def iLt (a b:Int):Bool:=decide (a < b)
theorem aJH {xs:List Int}:zV (lW (srt iLt xs)) (fun q=>q∈xs):=by
 have h1:(srt iLt xs).Pairwise fun a b=>a<=b:=by
  have:=List.pairwise_mergeSort (le:=fun a b=>!iLt b a) (fun a b c h1 h2=>by unfold iLt at *;simp at *;omega) (fun a b=>by unfold iLt;simp;omega) xs
  refine this.imp fun {a b} h=>?_
  unfold iLt at h;simpa using h
 refine ⟨aIK (R:=fun a b:Int=>a<=b) (S:=fun a b:Int=>a < b) (fun h hne=>by omega) (fun h h'=>by omega) h1,fun q=>?_⟩
 rw [aIb];unfold srt;rw [List.mem_mergeSort]
theorem aLk {xs:List Int} (hn:xs.Nodup):zV (srt iLt xs) (fun q=>q∈xs):=by
 refine ⟨(aLh iLt (fun a=>by simp [iLt]) (fun {a b c} h1 h2=>by unfold iLt at *;simp at *;omega) (fun a b=>by unfold iLt;simp;omega) hn).imp fun h=>by unfold iLt at h;simpa using h,fun q=>?_⟩
 unfold srt;rw [List.mem_mergeSort]
theorem aBK {xs:List Int} (h:xs.length < 1000000000):aEa xs=some (srt iLt xs):=by
 unfold aEa;rw [if_pos (by unfold kP;omega)];rfl
inductive Cl (t:cB) (X:Int->Prop):Int->Prop
 |base {q:Int}:X q->Cl t X q
 |step {e:Edge}:e∈t.E->e.B=0->Cl t X e.F->Cl t X e.To
section
variable {t:cB} {X:Int->Prop}
theorem aIM (hv:cN t) {e:Edge} (he:e∈t.E):(0<=e.F/\e.F < t.N)/\(0<=e.To/\e.To < t.N)/\0<=e.B/\e.B < t.L.length:=by
 have h:=aCC hv he
 unfold aCj at h
 omega
theorem Cl.inn (hv:cN t) (h0:∀ q,X q->0<=q/\q < t.N) {q:Int} (h:Cl t X q):0<=q/\q < t.N:=by
 induction h with
 |base h=>exact h0 _ h
 |step he _ _ _=>have:=(aIM hv he).2.1;omega
theorem Cl.congr {Y:Int->Prop} (h:∀ q,X q->Y q) {q:Int} (hc:Cl t X q):Cl t Y q:=by
 induction hc with
 |base hx=>exact .base (h _ hx)
 |step a b _ ih=>exact .step a b ih
theorem Cl.iff {Y:Int->Prop} (h:∀ q,X q<->Y q) (q:Int):Cl t X q<->Cl t Y q:=⟨Cl.congr fun q=>(h q).1,Cl.congr fun q=>(h q).2⟩
def Aft (t:cB) (S:List Int) (k:Int) (q:Int):Prop:=∃ e∈t.E,e.B=k/\e.F∈S/\e.To=q
theorem Aft.inn (hv:cN t) {S:List Int} {k q:Int} (h:Aft t S k q):0<=q/\q < t.N:=by
 obtain ⟨e,he,_,_,rfl⟩:=h
 have:=(aIM hv he).2.1;omega
end
end Gv
namespace Gv
open Go
def aEW (o:List Int) (x:Int):List Int:=if x∈o then o else o++[x]
theorem aJI:∀ (l o:List Int),o.Nodup->o <+:l.foldl aEW o/\(l.foldl aEW o).Nodup/\(∀ q,q∈l.foldl aEW o<->q∈o\/q∈l)/\(l.foldl aEW o).length<=o.length+l.length
 |[],o,h=>⟨List.prefix_refl _,h,fun q=>by simp,by simp⟩
 |x::l,o,h=>by
  have h':(aEW o x).Nodup:=by
   unfold aEW
   split
   ·exact h
   ·rename_i hx
    rw [List.nodup_append]
    refine ⟨h,by simp,fun a ha b hb=>?_⟩
    simp at hb;subst hb
    exact fun e=>hx (e ▸ ha)
  obtain ⟨g1,g2,g3,g4⟩:=aJI l (aEW o x) h'
  have hp:o <+:aEW o x:=by
   unfold aEW;split
   ·exact List.prefix_refl _
   ·exact List.prefix_append _ _
  have hm:∀ q,q∈aEW o x<->q∈o\/q=x:=fun q=>by
   unfold aEW;split
   ·rename_i hx
    constructor
    ·exact .inl
    ·rintro (h|rfl)
     ·exact h
     ·exact hx
   ·simp
  refine ⟨hp.trans g1,g2,fun q=>?_,?_⟩
  ·rw [List.foldl_cons,g3 q,hm q,List.mem_cons,or_assoc]
  ·rw [List.foldl_cons]
   have:(aEW o x).length<=o.length+1:=by unfold aEW;split<;>simp
   rw [List.length_cons];omega
theorem aMp {xs:List Int} {s:Int}:(xs.any fun x=>s == x)=decide (s∈xs):=by
 rw [Bool.eq_iff_iff,List.any_eq_true,decide_eq_true_iff]
 constructor
 ·rintro ⟨x,hx,h⟩
  rw [beq_iff_eq] at h
  exact h ▸ hx
 ·intro h;exact ⟨s,h,by simp⟩
section
variable {t:cB}
theorem aPx (hv:cN t) {S:List Int} (hS:S.length < 1000000000) {k:Nat} (hk:k < t.L.length):∃ R,mI t S t.L[k]=some R/\zV R (Aft t S (k:Int)):=by
 have h300:=hv.2.2.2.1
 have hl:((t.E.filter fun e=>txt t e == t.L[k]&&S.any fun x=>e.F == x).map (·.To)).length<=300:=by
  rw [List.length_map];exact Nat.le_trans (List.length_filter_le _ _) h300
 refine ⟨lW (srt iLt ((t.E.filter fun e=>txt t e == t.L[k]&&S.any fun x=>e.F == x).map (·.To))),?_,aJH.iff fun q=>?_⟩
 ·unfold mI
  rw [aDn (step:=fun x:List Int × Int=>gT t S t.L[k] x.1 x.2) t.E (fun e=>txt t e == t.L[k]&&S.any fun x=>e.F == x) (·.To) id (fun j out x hj ho hx=>?_) (fun out=>by simp only [gT,eZ];rfl),aA]
  ·unfold nN
   simp only [id]
   rw [aBK (by omega),aA,aHR _ (by unfold srt;rw [List.length_mergeSort];omega),aA]
  ·obtain ⟨hj',rfl⟩:=wZ hx
   simp only [gT,dJ hj,if_pos,hx,aA,aHO (aCC hv (List.getElem_mem hj')),aBJ S _ (show S.length < 4611686018427387904 by omega),nP,nO,cS hj (show t.E.length < 4611686018427387904 by omega)]
   rw [dK (by simp [kP];omega),aA]
   cases txt t t.E[j] == t.L[k]<;>cases (S.any fun x=>t.E[j].F == x)<;>rfl
 ·rw [List.mem_map]
  constructor
  ·rintro ⟨e,he,rfl⟩
   rw [List.mem_filter,Bool.and_eq_true,List.any_eq_true] at he
   obtain ⟨h1,h2,x,hx,h3⟩:=he
   rw [aGx hv h1 (List.getElem_mem hk),aLi hv.2.2.1 hk,beq_iff_eq] at h2
   rw [beq_iff_eq] at h3
   exact ⟨e,h1,h2,h3 ▸ hx,rfl⟩
  ·rintro ⟨e,h1,h2,h3,rfl⟩
   refine ⟨e,?_,rfl⟩
   rw [List.mem_filter,Bool.and_eq_true,List.any_eq_true,aGx hv h1 (List.getElem_mem hk),aLi hv.2.2.1 hk,beq_iff_eq]
   exact ⟨h1,h2,_,h3,by simp⟩
theorem aNj (hv:cN t):∃ h:0 < t.L.length,t.L[0]=dV:=⟨by have:=hv.2.2.1.1;omega,hv.2.2.1.2.2.1 _⟩
theorem aJk (hv:cN t) {xs:List Int} (hn:xs.Nodup) (h0:∀ q∈xs,0<=q/\q < t.N):∃ R,mR t xs=some R/\zV R (Cl t (·∈xs)):=by
 have h40:=hv.1
 have hlen:∀ {o:List Int},o.Nodup->(∀ q∈o,Cl t (·∈xs) q)->o.length<=40:=fun {o} h1 h2=>by
  have:=List.Nodup.length_le_of_subset (l₂:=(List.range 40).map Int.ofNat) h1 (fun x hx=>by
   have:=(h2 x hx).inn hv h0
   rw [List.mem_map]
   exact ⟨x.toNat,by rw [List.mem_range];omega,by show ((x.toNat:Nat):Int)=x;omega⟩)
  simpa using this
 have hx0:=hlen hn fun q hq=>.base hq
 have hloop:=oV (step:=fun s:List Int × Int=>iZ t s.1 s.2)
  (fun s=>∃ k:Nat,s.2=(k:Int)/\k<=s.1.length/\s.1.Nodup/\(∀ q∈xs,q∈s.1)/\(∀ q∈s.1,Cl t (·∈xs) q)/\∀ j,(hj:j < s.1.length)->j < k->∀ e∈t.E,e.B=0->e.F=s.1[j]->e.To∈s.1)
  (fun s=>41 - s.2.toNat) (fun r=>r.Nodup/\r.length<=40/\∀ q,q∈r<->Cl t (·∈xs) q) (fun s hI=>?_) (s:=(xs,0)) ⟨0,rfl,Nat.zero_le _,hn,fun _ h=>h,fun q hq=>.base hq,fun j _ h=>by omega⟩
 ·obtain ⟨r,h1,h2,h3,h4⟩:=hloop
  refine ⟨srt iLt r,?_,(aLk h2).iff h4⟩
  unfold mR gJ
  rw [dK (by simp [kP];omega),aA,List.nil_append,aA,h1,aA]
  unfold mY
  rw [aBK (by omega)];rfl
 ·obtain ⟨o,i⟩:=s
  obtain ⟨k,rfl,hk,hnd,hsub,hcl,hdone⟩:=hI
  simp only at hk hnd hsub hcl hdone
  have ho:=hlen hnd hcl
  by_cases hlt:k < o.length
  ·left
   obtain ⟨ht0,ht⟩:=aNj hv
   obtain ⟨R,hf,hR⟩:=aPx hv (S:=[o[k]]) (by simp) ht0
   rw [ht] at hf
   have hRl:R.length<=40:=hR.len (n:=40) fun q hq=>by have:=hq.inn hv;omega
   have hin:=vB (step:=fun s:List Int × Int=>gF R s.1 s.2) R (fun j a=>(a,(j:Int))) (fun l a=>l.foldl aEW a) (fun j a=>a.length<=40+j) (fun j a x l hj hx hI=>?_) (fun a _=>by simp only [gF,eZ];rfl) (a:=o) ho
   ·obtain ⟨g1,g2,g3,g4⟩:=aJI R o hnd
    have hcl':∀ q∈R.foldl aEW o,Cl t (·∈xs) q:=fun q hq=>by
     rcases (g3 q).1 hq with h|h
     ·exact hcl q h
     ·obtain ⟨e,he,hl,hfr,rfl⟩:=(hR.mem q).1 h
      simp only [List.mem_singleton] at hfr
      exact .step he (by simpa using hl) (hfr ▸ hcl _ (List.getElem_mem hlt))
    refine ⟨(R.foldl aEW o,((k+1:Nat):Int)),?_,⟨k+1,rfl,Nat.le_trans hlt g1.length_le,g2,fun q hq=>(g3 q).2 (.inl (hsub q hq)),hcl',fun j hj hjk e he hl hfr=>?_⟩,by simp only;omega⟩
    ·simp only [iZ,dJ hlt,if_pos,cU hlt,aA]
     rw [show ([116,97,117]:aY)=dV from rfl,hf,aA,show loop (fun s:List Int × Int=>gF R s.1 s.2) (o,0)=_ from hin,aA]
     simp only [mZ,qV,cS hlt (show o.length < 4611686018427387904 by omega)]
    ·simp only at hj hfr ⊢
     have hjo:j < o.length:=by omega
     have e1:(R.foldl aEW o)[j]=o[j]:=(g1.getElem hjo).symm
     rw [e1] at hfr
     rw [g3]
     by_cases hjk':j < k
     ·exact .inl (hdone j hjo hjk' e he hl hfr)
     ·obtain rfl:j=k:=by omega
      exact .inr ((hR.mem _).2 ⟨e,he,by simpa using hl,by simp [hfr],rfl⟩)
   ·left
    have hI':a.length<=40+j:=hI
    simp only [gF,dJ hj,if_pos,hx,aA,aBJ a _ (show a.length < 4611686018427387904 by omega),nA,cS hj (show R.length < 4611686018427387904 by omega)]
    rw [aMp,dK (by simp [kP];omega),aA,List.foldl_cons]
    unfold aEW
    by_cases hm:x∈a
    ·rw [if_pos hm];exact ⟨a,by simp [hm],by omega,rfl⟩
    ·rw [if_neg hm];exact ⟨a++[x],by simp [hm],by simp;omega,rfl⟩
  ·right
   obtain rfl:k=o.length:=by omega
   refine ⟨o,by simp only [iZ,eZ];rfl,hnd,ho,fun q=>⟨hcl q,fun hc=>?_⟩⟩
   induction hc with
   |base hx=>exact hsub _ hx
   |@step e he hl hc ih=>
    obtain ⟨j,hj,e1⟩:=List.mem_iff_getElem.1 ih
    exact hdone j hj hj e he hl e1.symm
end
end Gv
namespace Gv
open Go
theorem loop_inl {σ ρ:Type} {step:σ->Option (σ ⊕ ρ)} {s s':σ} (h:step s=some (.inl s')):loop step s=loop step s':=by rw [cY,h]
theorem aOn {σ ρ:Type} {step:σ->Option (σ ⊕ ρ)} {s:σ} {r:ρ} (h:step s=some (.inr r)):loop step s=some r:=by rw [cY,h]
section
variable {κ β:Type} [DecidableEq β] [BEq β] [LawfulBEq β] (key:κ->β)
def atK (F:List κ) (q:κ):Int:=if key q∈F.map key then pos (F.map key) (key q) else (F.length:Int)
def aFc (F:List κ) (q:κ):List κ:=if key q∈F.map key then F else F++[q]
def add1 (i:Int) (s:List κ × List Edge) (x:Int × κ):List κ × List Edge:=(aFc key s.1 x.2,s.2++[⟨i,x.1,atK key s.1 x.2⟩])
variable {key}
theorem aOo (F:List κ) (q:κ):F <+:aFc key F q:=by
 unfold aFc;split
 ·exact List.prefix_refl _
 ·exact List.prefix_append _ _
theorem aOp (F:List κ) (q:κ):(aFc key F q).length<=F.length+1:=by unfold aFc;split<;>simp
theorem atK_in (F:List κ) (q:κ):0<=atK key F q/\atK key F q < (aFc key F q).length:=by
 unfold atK aFc
 by_cases h:key q∈F.map key
 ·rw [if_pos h,if_pos h]
  obtain ⟨i,hi,e,_⟩:=aFy h
  rw [List.length_map] at hi
  omega
 ·rw [if_neg h,if_neg h,List.length_append,List.length_singleton];omega
theorem ED.done {L:List aY} {j n:Nat} {ed:List Edge} (h:ED L (j:Int) 0 n ed) (hj:j<=n):ed.Pairwise flLt/\∀ e∈ed,(0<=e.F/\e.F < n)/\(1<=e.B/\e.B<=L.length)/\0<=e.To/\e.To < n:=
 ⟨h.ord,fun e he=>by have:=h.all e he;omega⟩
def Small (s:List κ × List Edge):Prop:=s.1.length<=40/\s.2.length<=300
instance (s:List κ × List Edge):Decidable (Small s):=by unfold Small;infer_instance
theorem Small.pre {s u:List κ × List Edge} (h:s.1 <+:u.1/\s.2 <+:u.2) (hu:Small u):Small s:=⟨Nat.le_trans h.1.length_le hu.1,Nat.le_trans h.2.length_le hu.2⟩
end
end Gv
namespace Gv
open Go
section
structure GoodS (t:cB) (S:List Int):Prop where
 len:S.length<=40
 inn:∀ q∈S,0<=q/\q < t.N
variable {t:cB}
end
end Gv
namespace Gv
open Go
section
variable {t:cB}
theorem GoodS.small (hv:cN t) {S:List Int} (h:GoodS t S):∀ q∈S,0<=q/\q<=63:=fun q hq=>by have:=h.inn q hq;have:=hv.1;omega
theorem tail_cons (hv:cN t):t.L=dV::t.L.tail/\rD t.L.tail:=by
 obtain ⟨L,e,h⟩:=hv.2.2.1.cons
 rw [e];exact ⟨rfl,h⟩
end
end Gv
namespace Gv
open Go
theorem aPy (l:List aY) (a:Nat) (ha:a<=l.length) (h:l.length < 1000000000):∃ z:aY,loop (fun s:List aY × Int=>aAY (a:Int) s.1 s.2) (l++[[]],(l.length:Int))=some (l.take a++z::l.drop a):=by
 have key:=oV (step:=fun s:List aY × Int=>aAY (a:Int) s.1 s.2) (fun s=>∃ (k:Nat) (z:aY),s=(l.take k++z::l.drop k,(k:Int))/\a<=k/\k<=l.length) (fun s=>s.2.toNat)
  (fun x=>∃ z:aY,x=l.take a++z::l.drop a) (fun s hI=>?_) (s:=(l++[[]],(l.length:Int))) ⟨l.length,[],by simp,ha,Nat.le_refl _⟩
 ·obtain ⟨r,h1,z,rfl⟩:=key
  exact ⟨z,h1⟩
 ·obtain ⟨k,z,rfl,hak,hk⟩:=hI
  simp only [aAY]
  have hlen:(l.take k++z::l.drop k).length=l.length+1:=by simp;omega
  by_cases h0:a < k
  ·have hk1:wr ((k:Int) - 1)=((k - 1:Nat):Int):=by rw [dP (by omega) (by omega)];omega
   rw [decide_eq_true (p:=(a:Int) < (k:Int)) (by omega),if_pos rfl,hk1,cU (xs:=l.take k++z::l.drop k) (k:=k - 1) (by omega),aA,cU (by omega),aA,aJY _ (by omega),aA]
   left
   refine ⟨_,rfl,⟨k - 1,l[k - 1],?_,by omega,by omega⟩,by simp;omega⟩
   have e1:(l.take k++z::l.drop k)[k - 1]'(by omega)=l[k - 1]:=by
    rw [List.getElem_append_left (by simp;omega),List.getElem_take]
   rw [e1]
   have e2:(l.take k++z::l.drop k).set k l[k - 1]=l.take k++l[k - 1]::l.drop k:=by
    rw [List.set_append_right _ _ (by rw [List.length_take];omega)]
    simp [Nat.min_eq_left hk]
   have e3:l.take k=l.take (k - 1)++[l[k - 1]]:=by
    have:=List.take_add_one (l:=l) (i:=k - 1)
    rw [show k - 1+1=k by omega,List.getElem?_eq_getElem (by omega)] at this
    exact this
   have e4:l.drop (k - 1)=l[k - 1]::l.drop k:=by
    have:=List.drop_eq_getElem_cons (l:=l) (i:=k - 1) (by omega)
    rw [show k - 1+1=k by omega] at this
    exact this
   simp only [Prod.mk.injEq,and_true]
   rw [e2,e3,e4,List.append_assoc];rfl
  ·obtain rfl:k=a:=by omega
   right
   rw [decide_eq_false (p:=(k:Int) < (k:Int)) (by omega),if_neg (by simp)]
   exact ⟨_,rfl,z,rfl⟩
theorem join_find (l:List aY) (e:aY) (h1:1<=l.length) (h:l.length < 1000000000):∃ a:Nat,loop (fun s:Int=>xG l e s) 1=some (a:Int)/\1<=a/\a<=l.length/\(∀ (j:Nat) x,1<=j->j < a->l[j]?=some x->ltB x e=true)/\(∀ x,l[a]?=some x->ltB x e=false):=by
 have key:=oV (step:=fun s:Int=>xG l e s) (fun s=>∃ a:Nat,s=(a:Int)/\1<=a/\a<=l.length/\∀ (j:Nat) x,1<=j->j < a->l[j]?=some x->ltB x e=true) (fun s=>l.length - s.toNat)
  (fun r=>∃ a:Nat,r=(a:Int)/\1<=a/\a<=l.length/\(∀ (j:Nat) x,1<=j->j < a->l[j]?=some x->ltB x e=true)/\(∀ x,l[a]?=some x->ltB x e=false)) (fun s hI=>?_) (s:=1) ⟨1,rfl,Nat.le_refl _,h1,fun j x g1 g2=>by omega⟩
 ·obtain ⟨r,hr,a,rfl,h2⟩:=key
  exact ⟨a,hr,h2⟩
 ·obtain ⟨a,rfl,ha1,ha,hall⟩:=hI
  by_cases hlt:a < l.length
  ·have hx:l[a]?=some l[a]:=List.getElem?_eq_getElem hlt
   simp only [xG,dJ hlt,if_pos,cU hlt,aA,xF]
   cases he:ltB l[a] e with
   |true=>
    left
    refine ⟨_,by rw [if_pos rfl,cS hlt (by omega)],⟨a+1,rfl,by omega,by omega,fun j x g1 g2 hj=>?_⟩,by simp;omega⟩
    by_cases e1:j=a
    ·subst e1;rw [hx] at hj;cases hj;exact he
    ·exact hall j x g1 (by omega) hj
   |false=>
    right
    refine ⟨_,by rw [if_neg (by simp)],a,rfl,ha1,ha,hall,fun x hj=>?_⟩
    rw [hx] at hj;cases hj;exact he
  ·obtain rfl:a=l.length:=by omega
   right
   refine ⟨_,by simp only [xG,eZ,xF];rw [if_neg (by simp),if_neg (by simp)],_,rfl,ha1,Nat.le_refl _,hall,fun x hx=>?_⟩
   rw [List.getElem?_eq_none (Nat.le_refl _)] at hx;cases hx
theorem join_step (xs:List aY) (M:List aY) (hM:rD M) (hl:M.length < 1000000) (hx:xs.length < 1000000) {k:Nat} (hk:k < xs.length):∃ M',tL xs (dV::M) (k:Int)=some (.inl (dV::M',((k+1:Nat):Int)))/\rD M'/\(∀ s,s∈M'<->s∈M\/(s=xs[k]/\s≠dV))/\M'.length<=M.length+1:=by
 have hw:=cS hk (show xs.length < 4611686018427387904 by omega)
 simp only [tL,dJ hk,if_pos,cU hk,aA,aIL (dV::M) xs[k] (by simp;omega),xE,hw]
 by_cases hm:xs[k]∈dV::M
 ·rw [if_pos (by simpa using aGO.2 hm)]
  refine ⟨M,rfl,hM,fun s=>⟨.inl,?_⟩,by omega⟩
  rintro (h|⟨rfl,h⟩)
  ·exact h
  ·rcases List.mem_cons.1 hm with h'|h'
   ·exact absurd h' h
   ·exact h'
 ·rw [if_neg (by have:¬ 0<=pos (dV::M) xs[k]:=fun h=>hm (aGO.1 h);simpa using this)]
  have hne:xs[k]≠dV:=fun h=>hm (by rw [h];simp)
  have hnm:xs[k]∉M:=fun h=>hm (by simp [h])
  obtain ⟨a,h1,h2,h3,h4,h5⟩:=join_find (dV::M) xs[k] (by simp) (by simp;omega)
  rw [h1,aA]
  unfold aAZ
  rw [dK (by simp [kP];omega),aA]
  have hk1:wr ((((dV::M)++([([]:aY)]:List aY)).length:Int) - 1)=((dV::M).length:Int):=by
   simp only [List.length_append,List.length_cons,List.length_nil]
   rw [dP (by omega) (by omega)];omega
  rw [hk1]
  obtain ⟨z,hz⟩:=aPy (dV::M) a h3 (by simp;omega)
  rw [hz,aA]
  unfold aAX
  have hlen:((dV::M).take a++z::(dV::M).drop a).length=(dV::M).length+1:=by simp;omega
  rw [cU (by omega),aA,aJY _ (by omega),aA]
  have e2:((dV::M).take a++z::(dV::M).drop a).set a xs[k]=(dV::M).take a++xs[k]::(dV::M).drop a:=by
   rw [List.set_append_right _ _ (by rw [List.length_take];omega),List.length_take,Nat.min_eq_left h3,Nat.sub_self];rfl
  rw [e2]
  obtain ⟨b,rfl⟩:∃ b,a=b+1:=⟨a - 1,by omega⟩
  have h3':b<=M.length:=by simpa using h3
  have hbef:∀ x∈M.take b,ltB x xs[k]=true:=fun x hx=>by
   obtain ⟨j,hj,rfl⟩:=List.getElem_of_mem hx
   rw [List.length_take] at hj
   exact h4 (j+1) _ (by omega) (by omega) (by rw [List.getElem_take,List.getElem?_cons_succ];exact List.getElem?_eq_getElem (by omega))
  have haft:∀ x∈M.drop b,ltB xs[k] x=true:=fun x hx=>by
   obtain ⟨j,hj,rfl⟩:=List.getElem_of_mem hx
   rw [List.length_drop] at hj
   have hb:b < M.length:=by omega
   have g:ltB M[b] xs[k]=false:=h5 _ (by rw [List.getElem?_cons_succ];exact List.getElem?_eq_getElem hb)
   have g2:ltB xs[k] M[b]=true:=by
    rcases aNf xs[k] M[b] with t|t|t
    ·exact t
    ·exact absurd (t ▸ List.getElem_mem hb) hnm
    ·rw [g] at t;cases t
   rw [List.getElem_drop]
   by_cases j0:j=0
   ·subst j0;exact g2
   ·exact aCi g2 (List.pairwise_iff_getElem.1 hM.1 b (b+j) hb (by omega) (by omega))
  refine ⟨M.take b++xs[k]::M.drop b,by unfold xE;rw [hw];rfl,⟨?_,fun h=>?_⟩,fun s=>?_,by simp;omega⟩
  ·have hs':(M.take b++M.drop b).Pairwise fun a b=>ltB a b=true:=by rw [List.take_append_drop];exact hM.1
   rw [List.pairwise_append] at hs'
   rw [List.pairwise_append,List.pairwise_cons]
   refine ⟨hs'.1,⟨haft,hs'.2.1⟩,fun x hx y hy=>?_⟩
   rcases List.mem_cons.1 hy with rfl|hy
   ·exact hbef x hx
   ·exact aCi (hbef x hx) (haft y hy)
  ·rw [List.mem_append,List.mem_cons] at h
   rcases h with h|h|h
   ·exact hM.2 (List.mem_of_mem_take h)
   ·exact hne h.symm
   ·exact hM.2 (List.mem_of_mem_drop h)
  ·rw [List.mem_append,List.mem_cons]
   conv=>rhs;rw [←List.take_append_drop b M,List.mem_append]
   constructor
   ·rintro (g|g|g)
    ·simp [g]
    ·exact .inr ⟨g,g ▸ hne⟩
    ·simp [g]
   ·rintro ((g|g)|⟨g,_⟩)<;>simp [g]
theorem aLl (xs:List aY) (hx:xs.length < 1000000):∃ M,aFV xs=some (dV::M)/\rD M/\(∀ s,s∈M<->s∈xs/\s≠dV)/\M.length<=xs.length:=by
 have key:=eA (step:=fun s:List aY × Int=>tL xs s.1 s.2) xs.length (fun k (M:List aY)=>(dV::M,(k:Int))) (fun k M=>rD M/\(∀ s,s∈M<->s∈xs.take k/\s≠dV)/\M.length<=k)
  (fun r=>∃ M,r=dV::M/\rD M/\(∀ s,s∈M<->s∈xs/\s≠dV)/\M.length<=xs.length) (fun k M hk hI=>?_) (fun M hI=>?_) xs.length 0 [] (by omega) ⟨⟨by simp,by simp⟩,by simp,by simp⟩
 ·obtain ⟨r,h1,M,rfl,h2⟩:=key
  refine ⟨M,?_,h2⟩
  unfold aFV
  rw [show loop (fun s:List aY × Int=>tL xs s.1 s.2) ([[116,97,117]],0)=some (dV::M) from h1];rfl
 ·obtain ⟨i1,i2,i3⟩:=hI
  obtain ⟨M',g1,g2,g3,g4⟩:=join_step xs M i1 (by omega) hx hk
  refine ⟨M',g1,g2,fun s=>?_,by omega⟩
  rw [g3 s,i2 s,List.take_add_one,List.getElem?_eq_getElem hk,List.mem_append]
  simp only [Option.toList_some,List.mem_singleton]
  constructor
  ·rintro (⟨a,b⟩|⟨a,b⟩)
   ·exact ⟨.inl a,b⟩
   ·exact ⟨.inr a,b⟩
  ·rintro ⟨a|a,b⟩
   ·exact .inl ⟨a,b⟩
   ·exact .inr ⟨a,b⟩
 ·obtain ⟨i1,i2,i3⟩:=hI
  rw [List.take_length] at i2
  exact ⟨_,by simp only [tL,eZ];rfl,M,rfl,i1,i2,i3⟩
theorem aOq {M M':List aY} (h:rD M) (h':rD M') (hm:∀ s,s∈M<->s∈M'):M=M':=
 aGN (R:=fun a b=>ltB a b=true) (fun a h=>by rw [tX] at h;cases h) aCi h.1 h'.1 hm
theorem se_uniq {A B:List Edge} (h:SE A) (h':SE B) (hm:∀ x,x∈A<->x∈B):A=B:=
 aGN (R:=fun a b=>dW a b=true) (fun a h=>by rw [aEV] at h;cases h) (fun h1 h2=>aCl h1 h2) h h' hm
theorem aOr {texts M:List aY} {edges Eo:List Edge} (ht:texts.length < 1000000) (hM:rD M) (hm:∀ s,s∈M<->s∈texts/\s≠dV) (hlen:edges.length < 1000000) (hin:∀ e∈edges,0<=e.B/\e.B < texts.length)
  (hEE:SE Eo) (he:∀ x,x∈Eo<->∃ e∈edges,x=⟨e.F,pos (dV::M) (texts.getD e.B.toNat []),e.To⟩) (st ini:Int):rZ st ini texts edges=some ⟨st,ini,dV::M,Eo⟩:=by
 obtain ⟨M',j1,j2,j3,j4⟩:=aLl texts ht
 obtain rfl:M'=M:=aOq j2 hM fun s=>(j3 s).trans (hm s).symm
 unfold rZ
 rw [j1,aA]
 have key:=eA (step:=fun s:List Edge × Int=>xH texts edges (dV::M') s.1 s.2) edges.length (fun k (a:List Edge)=>(a,(k:Int))) (fun k a=>SE a/\(∀ x,x∈a<->∃ e∈edges.take k,x=⟨e.F,pos (dV::M') (texts.getD e.B.toNat []),e.To⟩)/\a.length<=k)
  (fun x=>x=Eo) (fun k a hk hI=>?_) (fun a hI=>?_) edges.length 0 [] (by omega) ⟨List.Pairwise.nil,by simp,by simp⟩
 ·obtain ⟨x,hx,hx2⟩:=key
  have hx':loop (fun s:List Edge × Int=>xH texts edges (dV::M') s.1 s.2) (([]:List Edge),0)=some x:=hx
  rw [hx',aA,hx2];rfl
 ·obtain ⟨hs,hmem,hl⟩:=hI
  have hi:=hin _ (List.getElem_mem hk)
  have hlt:edges[k].B.toNat < texts.length:=by omega
  have hgd:texts.getD edges[k].B.toNat []=texts[edges[k].B.toNat]:=by rw [List.getD_eq_getElem?_getD,List.getElem?_eq_getElem hlt];rfl
  simp only [xH,dJ hk,if_pos,cU hk,aA]
  rw [aFd hi.1 hlt,aA,aIL _ _ (by simp;omega),aA,←hgd]
  obtain ⟨l',h1,h2,h3,h4⟩:=l11Put_eq a ⟨edges[k].F,pos (dV::M') (texts.getD edges[k].B.toNat []),edges[k].To⟩ (by omega) hs
  rw [h1,aA]
  refine ⟨l',by rw [cS hk (show edges.length < 4611686018427387904 by omega)],h2,fun x=>?_,by omega⟩
  rw [h3,hmem,List.take_add_one,List.getElem?_eq_getElem hk]
  simp only [Option.toList_some,List.mem_append,List.mem_singleton]
  constructor
  ·rintro (g|⟨e,g1,g2⟩)
   ·exact ⟨_,.inr rfl,g⟩
   ·exact ⟨e,.inl g1,g2⟩
  ·rintro ⟨e,g1|rfl,g2⟩
   ·exact .inr ⟨e,g1,g2⟩
   ·exact .inl g2
 ·obtain ⟨hs,hmem,hl⟩:=hI
  rw [List.take_length] at hmem
  exact ⟨a,by simp only [xH,eZ];rfl,se_uniq hs hEE fun x=>(hmem x).trans (he x).symm⟩
end Gv
namespace Gv
open Go
structure Jn (a b:cB) (M:List aY):Prop where
 str:rD M
 mem:∀ s,s∈M<->s∈a.L++b.L/\s≠dV
 len:M.length<=24
def inQ (a b:cB) (q:Int × Int):Prop:=(0<=q.1/\q.1 < a.N)/\0<=q.2/\q.2 < b.N
section
variable {a b:cB} {M:List aY}
def atQ (F:List (Int × Int)) (i:Int):Int × Int:=F.getD i.toNat (0,0)
theorem atQ_mem {F:List (Int × Int)} {i:Int} (h0:0<=i) (h:i < F.length):atQ F i∈F:=by
 unfold atQ;rw [List.getD_eq_getElem?_getD,List.getElem?_eq_getElem (by omega)];exact List.getElem_mem _
theorem atQ_inj {F:List (Int × Int)} (hn:F.Nodup) {i j:Int} (hi:0<=i/\i < F.length) (hj:0<=j/\j < F.length) (h:atQ F i=atQ F j):i=j:=by
 unfold atQ at h
 rw [List.getD_eq_getElem?_getD,List.getElem?_eq_getElem (by omega),List.getD_eq_getElem?_getD,List.getElem?_eq_getElem (by omega)] at h
 simp only [Option.getD_some] at h
 have:=(List.getElem_inj hn).1 h
 omega
def Bnd (s:List (Int × Int) × List Edge):Prop:=∀ e∈s.2,(0<=e.F/\e.F < s.1.length)/\0<=e.To/\e.To < s.1.length
theorem Bnd.add {s:List (Int × Int) × List Edge} (h:Bnd s) {i:Nat} (hi:i < s.1.length) (x:Int × (Int × Int)):Bnd (add1 id (i:Int) s x):=by
 intro e he
 have hl:=(aOo (key:=id) s.1 x.2).length_le
 have ha:=atK_in (key:=id) s.1 x.2
 simp only [add1] at he ⊢
 rcases List.mem_append.1 he with he|he
 ·have:=h e he;omega
 ·simp at he;subst he
  simp only;omega
def imE (g:Int × Int->Int) (F:List (Int × Int)) (E:List Edge):List Edge:=E.map fun e=>⟨g (atQ F e.F),e.B,g (atQ F e.To)⟩
theorem imE_nodup {g:Int × Int->Int} {F:List (Int × Int)} {E:List Edge} (hb:Bnd (F,E)) (hn:F.Nodup) (hg:∀ p∈F,∀ q∈F,g p=g q->p=q) (hE:E.Pairwise flLt):(imE g F E).Nodup:=by
 unfold imE List.Nodup
 rw [List.pairwise_map]
 refine hE.imp_of_mem ?_
 intro e f he hf h heq
 simp only [Edge.mk.injEq] at heq
 have h1:=hb e he
 have h2:=hb f hf
 simp only at h1 h2
 have:=atQ_inj hn h1.1 h2.1 (hg _ (atQ_mem h1.1.1 h1.1.2) _ (atQ_mem h2.1.1 h2.1.2) heq.1)
 unfold flLt at h
 omega
theorem aMq (p q:Int × Int):prLt p q=true<->p.1 < q.1\/(p.1=q.1/\p.2 < q.2):=by
 simp [prLt]
end
end Gv
namespace Gv
open Go
theorem name_eq (s:aY) (h:s.length < 4611686018427387904):tC s=some (gV 40 s).1:=by
 unfold tC
 rw [aKS s h,aA]
 have hl:=(aMl 40 s).1
 have ha:=aEi 40 s
 have:slc s 0 ((gV 40 s).1.length:Int)=some (gV 40 s).1:=by
  unfold slc
  rw [if_pos ⟨by omega,by omega,by omega⟩]
  simp only [Int.toNat_natCast,Int.toNat_zero,List.drop_zero,Nat.sub_zero]
  congr 1
  generalize gV 40 s=c at ha ⊢
  rw [ha,List.take_append_of_le_length (Nat.le_refl _),List.take_length]
 rw [this];rfl
structure Shd (M sh:List aY):Prop where
 len:sh.length<=1000
 mem:∀ s∈M,(gV 40 s).1∈sh
def nm (b:cB) (q:Int × Int):Int:=q.1 * b.N+q.2
section
variable {a b:cB} {M sh:List aY}
theorem nm_lt (hb:cN b) {p q:Int × Int} (hp:0<=p.2/\p.2 < b.N) (hq:0<=q.2/\q.2 < b.N):prLt p q=true<->nm b p < nm b q:=by
 have h2:=hb.1
 rw [aMq]
 unfold nm
 constructor
 ·rintro (h|⟨h,h'⟩)
  ·have:(p.1+1) * b.N<=q.1 * b.N:=Int.mul_le_mul_of_nonneg_right (by omega) (by omega)
   rw [Int.add_mul,Int.one_mul] at this
   omega
  ·rw [h];omega
 ·intro h
  rcases Int.lt_trichotomy p.1 q.1 with g|g|g
  ·exact .inl g
  ·right;rw [g] at h;omega
  ·exfalso
   have:(q.1+1) * b.N<=p.1 * b.N:=Int.mul_le_mul_of_nonneg_right (by omega) (by omega)
   rw [Int.add_mul,Int.one_mul] at this
   omega
theorem nm_inj (hb:cN b) {p q:Int × Int} (hp:0<=p.2/\p.2 < b.N) (hq:0<=q.2/\q.2 < b.N) (h:nm b p=nm b q):p=q:=by
 have h1:=nm_lt hb hp hq
 have h2:=nm_lt hb hq hp
 rw [aMq] at h1 h2
 obtain ⟨p1,p2⟩:=p
 obtain ⟨q1,q2⟩:=q
 simp only [Prod.mk.injEq] at *
 omega
end
end Gv
namespace Gv
open Go
section
variable {a b:cB} {M sh:List aY}
structure Rf (b:cB) (s:List (Int × Int) × List Edge) (ed:List Edge):Prop where
 se:SE ed
 mem:∀ x,x∈ed<->x∈imE (nm b) s.1 s.2
theorem aLm {l:List Edge} (h:SE l):l.Nodup:=h.imp fun {x y} h e=>by subst e;rw [aEV] at h;cases h
theorem Rf.len (hb:cN b) {s:List (Int × Int) × List Edge} {ed:List Edge} (h:Rf b s ed) (hB:Bnd s) (hn:s.1.Nodup) (hq:∀ q∈s.1,inQ a b q) (hE:s.2.Pairwise flLt):ed.length=s.2.length:=by
 have h1:=imE_nodup (g:=nm b) hB hn (fun p hp q hq'=>nm_inj hb (hq p hp).2 (hq q hq').2) hE
 have:=((List.perm_ext_iff_of_nodup (aLm h.se) h1).2 h.mem).length_eq
 rw [this];unfold imE;simp
end
end Gv
namespace Gv
open Go
section
variable {a b:cB} {M sh:List aY}
end
end Gv
namespace Gv
open Go
def zm (F:List (Int × Int)):List ((Int × Int) × Int):=F.map fun q=>(q,0)
section
variable {a b:cB} {M:List aY}
end
end Gv
namespace Gv
open Go
section
variable {a b:cB} {M:List aY}
end
end Gv
