/- Exploring that ends: the edges are those of all states. -/
import Derived.Test.YtohbafhnoifmoaaGreatDoorTJP62
import Derived.Test.YtohbafhnoifmoaaGreatDoorTJP80
import Derived.Test.YtohbafhnoifmoaaGreatDoorTJP50
import Derived.Test.YtohbafhnoifmoaaGreatDoorTJP20
set_option linter.all false
namespace Gv
open Go
section
variable {κ β:Type} [DecidableEq β] [BEq β] [LawfulBEq β] {key:κ→β}
theorem atK_pos (F:List κ) (q:κ):atK key F q=pos ((sC key F q).map key) (key q):=by
 unfold atK sC
 by_cases h:key q∈F.map key
 ·rw [if_pos h,if_pos h]
 ·rw [if_neg h,if_neg h,List.map_append,List.map_singleton,aMe h,List.length_map]
theorem aHY {A B:List κ} (h:A <+:B):A.map key <+:B.map key:=by
 obtain ⟨C,rfl⟩:=h
 exact ⟨C.map key,by rw [List.map_append]⟩
theorem key_sub {A B:List κ} (h:A <+:B) {k:β} (hk:k∈A.map key):k∈B.map key:=by
 obtain ⟨C,hC⟩:=aHY (key:=key) h
 rw [←hC]
 exact List.mem_append_left _ hk
theorem aJx (i:Int):∀ (l:List (Int × κ)) (s:List κ × List Edge),(∀ x∈l,key x.2∈(iP key i l s).1.map key)∧
  ∀ e,e∈(iP key i l s).2↔e∈s.2∨∃ x∈l,e=⟨i,x.1,pos ((iP key i l s).1.map key) (key x.2)⟩
 |[],s=>⟨by simp,fun e=>by simp [aMj]⟩
 |y::l,s=>by
  obtain ⟨h1,h2⟩:=aJx i l (zN key i s y)
  have hp:=(aBj (key:=key) i l (zN key i s y)).1
  have hy:key y.2∈(zN key i s y).1.map key:=insK_mem s.1 y.2
  have hpos:pos ((iP key i l (zN key i s y)).1.map key) (key y.2)=atK key s.1 y.2:=by rw [aHW (aHY hp) hy,atK_pos];rfl
  refine ⟨fun x hx=>?_,fun e=>?_⟩
  ·rw [aAo]
   rcases List.mem_cons.1 hx with rfl|hx
   ·exact key_sub hp hy
   ·exact h1 x hx
  ·rw [aAo,h2]
   constructor
   ·rintro (he|⟨x,hx,rfl⟩)
    ·rcases List.mem_append.1 he with he|he
     ·exact .inl he
     ·rw [List.mem_singleton] at he
      exact .inr ⟨y,List.mem_cons_self,by rw [he,hpos]⟩
    ·exact .inr ⟨x,List.mem_cons_of_mem _ hx,rfl⟩
   ·rintro (he|⟨x,hx,rfl⟩)
    ·exact .inl (List.mem_append_left _ he)
    ·rcases List.mem_cons.1 hx with rfl|hx
     ·left
      rw [hpos]
      exact List.mem_append_right _ (List.mem_singleton.2 rfl)
     ·exact .inr ⟨x,hx,rfl⟩
theorem aHk (nx:κ→List (Int × κ)) (B:Nat):∀ (n i:Nat) (s:List κ × List Edge),(xpl key nx B n i s).1.length≤B→(xpl key nx B n i s).1.length < n+i→i≤s.1.length→
  (∀ j q,i≤j→(xpl key nx B n i s).1[j]?=some q→∀ x∈nx q,key x.2∈(xpl key nx B n i s).1.map key)∧
  ∀ e,e∈(xpl key nx B n i s).2↔e∈s.2∨∃ (j:Nat) (q:κ),i≤j∧(xpl key nx B n i s).1[j]?=some q∧∃ x∈nx q,e=⟨(j:Int),x.1,pos ((xpl key nx B n i s).1.map key) (key x.2)⟩
 |0,i,s,h1,h2,h3=>by
  have:(xpl key nx B 0 i s).1.length=s.1.length:=rfl
  omega
 |n+1,i,s,h1,h2,h3=>by
  have hd:xpl key nx B (n+1) i s=match s.1[i]? with
   |none=>s
   |some q=>if B < (iP key (i:Int) (nx q) s).1.length then iP key (i:Int) (nx q) s else xpl key nx B n (i+1) (iP key (i:Int) (nx q) s):=rfl
  cases hq:s.1[i]? with
  |none=>
   rw [hq] at hd
   simp only at hd
   rw [hd]
   have hl:s.1.length≤i:=by simpa using hq
   refine ⟨fun j q hj hjq=>?_,fun e=>⟨.inl,?_⟩⟩
   ·have:=(List.getElem?_eq_some_iff.1 hjq).1;omega
   ·rintro (he|⟨j,q,hj,hjq,_⟩)
    ·exact he
    ·have:=(List.getElem?_eq_some_iff.1 hjq).1;omega
  |some q=>
   rw [hq] at hd
   simp only at hd
   by_cases hb:B < (iP key (i:Int) (nx q) s).1.length
   ·rw [if_pos hb] at hd
    rw [hd] at h1
    omega
   ·rw [if_neg hb] at hd
    rw [hd] at h1 h2 ⊢
    have hil:i < s.1.length:=(List.getElem?_eq_some_iff.1 hq).1
    have hpre:=(aBj (key:=key) (i:Int) (nx q) s).1
    obtain ⟨g1,g2⟩:=aHk nx B n (i+1) (iP key (i:Int) (nx q) s) h1 (by omega) (by have:=hpre.length_le;omega)
    have hpre2:=(aGw (key:=key) nx B n (i+1) (iP key (i:Int) (nx q) s)).1
    obtain ⟨a1,a2⟩:=aJx (key:=key) (i:Int) (nx q) s
    have hat:∀ {r},(xpl key nx B n (i+1) (iP key (i:Int) (nx q) s)).1[i]?=some r→r=q:=fun {r} hr=>by
     obtain ⟨C,hC⟩:=hpre.trans hpre2
     rw [←hC,List.getElem?_append_left hil,hq] at hr
     exact (Option.some.inj hr).symm
    have hi':(xpl key nx B n (i+1) (iP key (i:Int) (nx q) s)).1[i]?=some q:=by
     obtain ⟨C,hC⟩:=hpre.trans hpre2
     rw [←hC,List.getElem?_append_left hil,hq]
    refine ⟨fun j r hj hjr x hx=>?_,fun e=>?_⟩
    ·rcases Nat.eq_or_lt_of_le hj with rfl|hj'
     ·have:=hat hjr
      subst this
      exact key_sub hpre2 (a1 x hx)
     ·exact g1 j r hj' hjr x hx
    ·rw [g2,a2]
     constructor
     ·rintro ((he|⟨x,hx,rfl⟩)|⟨j,r,hj,hjr,x,hx,rfl⟩)
      ·exact .inl he
      ·exact .inr ⟨i,q,Nat.le_refl _,hi',x,hx,by rw [aHW (aHY hpre2) (a1 x hx)]⟩
      ·exact .inr ⟨j,r,by omega,hjr,x,hx,rfl⟩
     ·rintro (he|⟨j,r,hj,hjr,x,hx,rfl⟩)
      ·exact .inl (.inl he)
      ·rcases Nat.eq_or_lt_of_le hj with rfl|hj'
       ·have:=hat hjr
        subst this
        exact .inl (.inr ⟨x,hx,by rw [aHW (aHY hpre2) (a1 x hx)]⟩)
       ·exact .inr ⟨j,r,hj',hjr,x,hx,rfl⟩
end
end Gv
namespace Gv
open Go
section
variable {a b:cG} {B:Int→Int→Bool} {F:(Int→Int→Bool)→Int→Int→Bool}
structure MonoT (a b:cG) (F:(Int→Int→Bool)→Int→Int→Bool):Prop where
 mono:∀ S T:Int→Int→Bool,(∀ x y,inT a x→inT b y→S x y=true→T x y=true)→∀ x y,inT a x→inT b y→F S x y=true→F T x y=true
end
end Gv
namespace Gv
open Go
def aHj (q p:List Int):Prop:=q.length=p.length∧∀ x y:Nat,x < p.length→y < p.length→q[x]?=q[y]?→p[x]?=p[y]?
theorem aLk (p:List Int) (n:Nat):(tR p n).Nodup:=List.Nodup.sublist List.filter_sublist List.nodup_range
theorem heads1_le (p:List Int) (n:Nat):(tR p n).length≤n:=by
 have:=List.length_filter_le (fun i=>decide (∀ k,k < i→p[k]?≠p[i]?)) (List.range n)
 rw [List.length_range] at this
 exact this
theorem aJv {q:List Int} {n:Nat}:∀ x,x < n→∃ z,z≤x∧z∈tR q n∧q[z]?=q[x]?:=by
 intro x
 induction x using Nat.strongRecOn with
 |ind x ih=>
  intro hx
  by_cases h:∀ k,k < x→q[k]?≠q[x]?
  ·exact ⟨x,Nat.le_refl _,by unfold tR;rw [List.mem_filter,List.mem_range,decide_eq_true_iff];exact ⟨hx,h⟩,rfl⟩
  ·obtain ⟨k,hk⟩:=Classical.not_forall.1 h
   obtain ⟨hk1,hk2⟩:=Classical.not_imp.1 hk
   obtain ⟨z,z1,z2,z3⟩:=ih k hk1 (by omega)
   exact ⟨z,by omega,z2,z3.trans (Classical.not_not.1 hk2)⟩
theorem aHx {p q:List Int} (hp:cn p=p) (hq:cn q=q) (hs:aHj q p):q=p∨(tR p p.length).length < (tR q p.length).length:=by
 by_cases h:∀ x y:Nat,x < p.length→y < p.length→p[x]?=p[y]?→q[x]?=q[y]?
 ·left
  rw [←hp,←hq]
  refine aMp ⟨hs.1,fun x y hx hy=>?_⟩
  rw [hs.1] at hx hy
  exact ⟨hs.2 x y hx hy,h x y hx hy⟩
 ·right
  have hsub:∀ i,i∈tR p p.length→i∈tR q p.length:=fun i hi=>by
   unfold tR at hi ⊢
   rw [List.mem_filter,List.mem_range,decide_eq_true_iff] at hi ⊢
   exact ⟨hi.1,fun k hk e=>hi.2 k hk (hs.2 k i (by omega) hi.1 e)⟩
  have hex:∃ z,z∈tR q p.length∧z∉tR p p.length:=by
   apply Classical.byContradiction
   intro hno
   refine h fun x y hx hy e=>?_
   obtain ⟨a,a1,a2,a3⟩:=aJv (q:=q) x hx
   obtain ⟨b,b1,b2,b3⟩:=aJv (q:=q) y hy
   have ha:a∈tR p p.length:=Classical.byContradiction fun h=>hno ⟨a,a2,h⟩
   have hb:b∈tR p p.length:=Classical.byContradiction fun h=>hno ⟨b,b2,h⟩
   have hab:p[a]?=p[b]?:=((hs.2 a x (by omega) hx a3).trans e).trans (hs.2 b y (by omega) hy b3).symm
   unfold tR at ha hb
   rw [List.mem_filter,decide_eq_true_iff] at ha hb
   have:a=b:=by
    rcases Nat.lt_trichotomy a b with h|h|h
    ·exact absurd hab (hb.2 a h)
    ·exact h
    ·exact absurd hab.symm (ha.2 b h)
   subst this
   exact a3.symm.trans b3
  obtain ⟨z,z1,z2⟩:=hex
  have:=List.Nodup.length_le_of_subset (l₁:=z::tR p p.length) (l₂:=tR q p.length) (List.nodup_cons.2 ⟨z2,aLk _ _⟩) (fun i hi=>by
   rcases List.mem_cons.1 hi with rfl|hi
   ·exact z1
   ·exact hsub i hi)
  rw [List.length_cons] at this
  omega
theorem aMt (n:Nat):cn (List.replicate n (0:Int))=List.replicate n 0:=by
 refine List.ext_getElem? fun i=>?_
 by_cases hi:i < n
 ·rw [aHg (by simpa using hi),List.getElem_replicate,List.getElem?_replicate,if_pos hi]
  have hdd:∀ m,dd (List.replicate (m+1) (0:Int))=[0]:=by
   intro m
   induction m with
   |zero=>rfl
   |succ m ih=>rw [List.replicate_succ',aGy,ih];rfl
  obtain ⟨m,rfl⟩:∃ m,n=m+1:=⟨n - 1,by omega⟩
  rw [hdd];rfl
 ·rw [List.getElem?_eq_none (by rw [aEj,List.length_replicate];omega),List.getElem?_eq_none (by rw [List.length_replicate];omega)]
theorem cn_cn {κ:Type} [DecidableEq κ] [BEq κ] [LawfulBEq κ] (l:List κ):cn (cn l)=cn l:=aMp (cn_ker l)
theorem aJw {σ ρ:Type} {step:σ→Option (σ ⊕ ρ)} (n:Nat) (I:List Int→σ→Prop) (R:ρ→Prop)
  (h:∀ p s,p.length=n→cn p=p→I p s→(∃ r,step s=some (.inr r)∧R r)∨∃ q s',aHj q p∧cn q=q∧q≠p∧step s=some (.inl s')∧I q s'):
  ∀ (p:List Int) (s:σ),p.length=n→cn p=p→I p s→∃ r,loop step s=some r∧R r:=by
 have key:∀ (m:Nat) (p:List Int) (s:σ),p.length=n→cn p=p→I p s→n≤m+(tR p n).length→∃ r,loop step s=some r∧R r:=by
  intro m
  induction m with
  |zero=>
   intro p s hl hc hI hm
   rcases h p s hl hc hI with ⟨r,h1,h2⟩|⟨q,s',hq,hqc,hne,h1,h2⟩
   ·exact ⟨r,aBi h1,h2⟩
   ·have h3:=(aHx hc hqc hq).resolve_left hne
    have h4:=heads1_le q n
    rw [hl] at h3
    omega
  |succ m ih=>
   intro p s hl hc hI hm
   rcases h p s hl hc hI with ⟨r,h1,h2⟩|⟨q,s',hq,hqc,hne,h1,h2⟩
   ·exact ⟨r,aBi h1,h2⟩
   ·have h3:=(aHx hc hqc hq).resolve_left hne
    rw [hl] at h3
    rw [aCH h1]
    exact ih q s' (hq.1.trans hl) hqc h2 (by omega)
 intro p s hl hc hI
 exact key n p s hl hc hI (by omega)
theorem aMu {κ:Type} [DecidableEq κ] [BEq κ] [LawfulBEq κ] {p:List Int} {keys:List κ} (hl:keys.length=p.length) (h:∀ x y:Nat,x < p.length→y < p.length→keys[x]?=keys[y]?→p[x]?=p[y]?):aHj (cn keys) p:=by
 refine ⟨by rw [aEj,hl],fun x y hx hy e=>h x y hx hy ?_⟩
 exact ((cn_ker keys).2 x y (by rw [aEj];omega) (by rw [aEj];omega)).1 e
end Gv
namespace Gv
open Go
def AftT (t:cG) (S:List Int) (s:aU) (q:Int):Prop:=∃ e∈t.E,txt t e=s∧e.F∈S∧e.To=q
section
variable {t:cG}
theorem AftT.inn (hv:cI t) {S:List Int} {s:aU} {q:Int} (h:AftT t S s q):0≤q∧q < t.N:=by
 obtain ⟨e,he,_,_,rfl⟩:=h
 exact (aBt hv he).2.1
theorem aNr (hv:cI t) {S:List Int} (hS:S.length < 1000000000) (s:aU):∃ R,jN t S s=some R∧uU R (AftT t S s):=by
 have h300:=hv.2.2.2.1
 have hl:((t.E.filter fun e=>txt t e == s&&S.any fun x=>e.F == x).map (·.To)).length≤300:=by
  rw [List.length_map];exact Nat.le_trans (List.length_filter_le _ _) h300
 refine ⟨iS (zQ iLt ((t.E.filter fun e=>txt t e == s&&S.any fun x=>e.F == x).map (·.To))),?_,aKr.iff fun q=>?_⟩
 ·unfold jN
  rw [aDa (step:=fun x:List Int × Int=>fT t S s x.1 x.2) t.E (fun e=>txt t e == s&&S.any fun x=>e.F == x) (·.To) id (fun j out x hj ho hx=>?_) (fun out=>by simp only [fT,dO];rfl),aC]
  ·unfold lL
   simp only [id]
   rw [aEh (by omega),aC,aHv _ (by unfold zQ;rw [List.length_mergeSort];omega),aC]
  ·obtain ⟨hj',rfl⟩:=aDg hx
   simp only [fT,dC hj,if_pos,hx,aC,aDK (qP hv (List.getElem_mem hj')),aBR S _ (show S.length < 4611686018427387904 by omega),lN,lM,cT hj (show t.E.length < 4611686018427387904 by omega)]
   rw [dR (by simp [iU];omega),aC]
   cases txt t t.E[j] == s<;>cases (S.any fun x=>t.E[j].F == x)<;>rfl
 ·rw [List.mem_map]
  constructor
  ·rintro ⟨e,he,rfl⟩
   rw [List.mem_filter,Bool.and_eq_true,List.any_eq_true] at he
   obtain ⟨h1,h2,x,hx,h3⟩:=he
   rw [beq_iff_eq] at h2 h3
   exact ⟨e,h1,h2,h3 ▸ hx,rfl⟩
  ·rintro ⟨e,h1,h2,h3,rfl⟩
   refine ⟨e,?_,rfl⟩
   rw [List.mem_filter,Bool.and_eq_true,List.any_eq_true,beq_iff_eq]
   exact ⟨h1,h2,_,h3,by simp⟩
theorem aMv (hv:cI t) {S:List Int} (hS:S.length < 1000000000) (s:aU):∃ R,jD t S s=some R∧uU R (Cl t (AftT t S s)):=by
 obtain ⟨R1,f1,f2⟩:=aNr hv hS s
 have hn:R1.Nodup:=f2.ord.imp fun h=>by omega
 obtain ⟨R,g1,g2⟩:=aEi hv hn fun q hq=>((f2.mem q).1 hq).inn hv
 exact ⟨R,by unfold jD;rw [f1,aC,g1];rfl,g2.iff (Cl.iff f2.mem)⟩
def Wk (t:cG) (y:Int) (s:aU) (w:Int):Prop:=if s=cW then Cl t (·∈[y]) w else Cl t (fun q=>∃ e∈t.E,txt t e=s∧Cl t (·∈[y]) e.F∧e.To=q) w
theorem Wk.inn (hv:cI t) {y:Int} (hy:inT t y) {s:aU} {w:Int} (h:Wk t y s w):inT t w:=by
 unfold inT at hy ⊢
 unfold Wk at h
 split at h
 ·exact h.inn hv fun q hq=>by simp at hq;omega
 ·exact h.inn hv fun q hq=>by
   obtain ⟨e,he,_,_,rfl⟩:=hq
   exact (aBt hv he).2.1
end
end Gv
namespace Gv
open Go
section
variable {t:cG}
theorem aGA (S:List Int) {x:Int × List Int}:∀ (n k:Nat),x∈zU t S n k↔∃ j:Nat,k≤j∧j < k+n∧nxt t S (j:Int)≠[]∧x=((j:Int),nxt t S (j:Int))
 |0,k=>by
  simp only [zU,List.not_mem_nil,false_iff]
  rintro ⟨j,h1,h2,_⟩
  omega
 |n+1,k=>by
  unfold zU
  have ih:=aGA S (x:=x) n (k+1)
  split
  ·rename_i h0
   rw [ih]
   constructor
   ·rintro ⟨j,h1,h2,h3⟩;exact ⟨j,by omega,by omega,h3⟩
   ·rintro ⟨j,h1,h2,h3,h4⟩
    refine ⟨j,?_,by omega,h3,h4⟩
    rcases Nat.eq_or_lt_of_le h1 with rfl|h
    ·exact absurd h0 h3
    ·omega
  ·rename_i h0
   rw [List.mem_cons,ih]
   constructor
   ·rintro (rfl|⟨j,h1,h2,h3⟩)
    ·exact ⟨k,Nat.le_refl _,by omega,h0,rfl⟩
    ·exact ⟨j,by omega,by omega,h3⟩
   ·rintro ⟨j,h1,h2,h3,h4⟩
    rcases Nat.eq_or_lt_of_le h1 with rfl|h
    ·exact .inl h4
    ·exact .inr ⟨j,by omega,by omega,h3,h4⟩
noncomputable def aFX (t:cG) (S:List Int) (s:aU):List Int:=(jD t S s).getD []
noncomputable def aft (t:cG) (tr:List aU):List Int:=tr.foldl (aFX t) (vV t)
theorem aMw (tr:List aU) (s:aU):aft t (tr++[s])=aFX t (aft t tr) s:=by unfold aft;rw [List.foldl_append];rfl
theorem aHZ (hv:cI t) {S:List Int} (hS:jB t S) (s:aU):jD t S s=some (aFX t S s)∧jB t (aFX t S s)∧uU (aFX t S s) (Cl t (AftT t S s)):=by
 obtain ⟨R,h1,h2⟩:=aMv hv (S:=S) (Nat.lt_of_le_of_lt hS.len (by decide)) s
 have:aFX t S s=R:=by unfold aFX;rw [h1];rfl
 rw [this]
 exact ⟨h1,jB.of hv h2 fun q hq=>hq.inn hv fun x hx=>hx.inn hv,h2⟩
theorem visT_at (hv:cI t) {S:List Int} (hS:jB t S) {k:Nat} (hk:k < t.L.length):aFX t S t.L[k]=nxt t S (k:Int):=by
 obtain ⟨R,h1,h2,_⟩:=aHw hv (S:=S) (Nat.lt_of_le_of_lt hS.len (by decide)) hk
 unfold aFX nxt
 rw [h1,h2]
theorem visT_none (hv:cI t) {S:List Int} (hS:jB t S) {s:aU} (hs:s∉t.L):aFX t S s=[]:=by
 obtain ⟨_,_,h⟩:=aHZ hv hS s
 refine List.eq_nil_iff_forall_not_mem.2 fun q hq=>?_
 have hc:=(h.mem q).1 hq
 clear hq
 induction hc with
 |base hx=>
  obtain ⟨e,he,ht,_⟩:=hx
  have hb:=aBt hv he
  refine hs (ht ▸ ?_)
  unfold txt
  rw [List.getD_eq_getElem?_getD,List.getElem?_eq_getElem (show e.B.toNat < t.L.length by omega)]
  exact List.getElem_mem _
 |step _ _ _ ih=>exact ih
theorem visT_nil (hv:cI t) (s:aU):aFX t [] s=[]:=by
 obtain ⟨_,_,h⟩:=aHZ hv (S:=[]) ⟨by simp,by simp⟩ s
 refine List.eq_nil_iff_forall_not_mem.2 fun q hq=>?_
 have hc:=(h.mem q).1 hq
 clear hq
 induction hc with
 |base hx=>
  obtain ⟨e,he,ht,hf,_⟩:=hx
  simp at hf
 |step _ _ _ ih=>exact ih
theorem aft_good (hv:cI t):∀ tr:List aU,jB t (aft t tr):=fun tr=>by
 unfold aft
 have:∀ (tr:List aU) (S:List Int),jB t S→jB t (tr.foldl (aFX t) S):=by
  intro tr
  induction tr with
  |nil=>intro S h;exact h
  |cons s tr ih=>intro S h;exact ih _ (aHZ hv h s).2.1
 exact this tr _ (aFl hv).2.2
theorem fstS_ne (hv:cI t):vV t≠[]:=by
 obtain ⟨R,_,h2,h3⟩:=aKt hv
 have:vV t=R:=by unfold vV;rw [h2];rfl
 rw [this]
 intro e
 have:=(h3.mem t.I).2 (Cl.base rfl)
 rw [e] at this
 simp at this
noncomputable def nI (t:cG):cG:=⟨((eQ t).1.length:Int),0,t.L,(eQ t).2⟩
theorem aJy (hv:cI t) (hs:Small (eQ t)):∀ e,e∈(eQ t).2↔∃ (j:Nat) (S:List Int),(eQ t).1[j]?=some S∧∃ k:Nat,1≤k∧k < t.L.length∧nxt t S (k:Int)≠[]∧nxt t S (k:Int)∈(eQ t).1∧e=⟨(j:Int),(k:Int),pos (eQ t).1 (nxt t S (k:Int))⟩:=by
 have hl:=hv.2.2.1.1
 obtain ⟨g1,g2⟩:=aHk (key:=id) (iF t) 40 41 0 ([vV t],[]) hs.1 (by have:=hs.1;unfold eQ at this;omega) (Nat.zero_le _)
 intro e
 have h2:=g2 e
 rw [show xpl id (iF t) 40 41 0 ([vV t],[])=eQ t from rfl] at g1 h2
 simp only [List.map_id,id] at g1 h2
 rw [h2]
 constructor
 ·rintro (h|⟨j,S,_,hj,x,hx,rfl⟩)
  ·simp at h
  ·have hin:=g1 j S (Nat.zero_le _) hj x hx
   unfold iF at hx
   obtain ⟨k,h3,h4,h5,rfl⟩:=(aGA S _ _).1 hx
   exact ⟨j,S,hj,k,h3,by omega,h5,hin,rfl⟩
 ·rintro ⟨j,S,hj,k,h3,h4,h5,h6,rfl⟩
  refine .inr ⟨j,S,Nat.zero_le _,hj,((k:Int),nxt t S (k:Int)),?_,rfl⟩
  unfold iF
  exact (aGA S _ _).2 ⟨k,h3,by omega,h5,rfl⟩
theorem dfin_next (hv:cI t) (hs:Small (eQ t)) {j:Nat} {S:List Int} (hj:(eQ t).1[j]?=some S) {k:Nat} (h1:1≤k) (h2:k < t.L.length) (h3:nxt t S (k:Int)≠[]):nxt t S (k:Int)∈(eQ t).1:=by
 obtain ⟨g1,_⟩:=aHk (key:=id) (iF t) 40 41 0 ([vV t],[]) hs.1 (by have:=hs.1;unfold eQ at this;omega) (Nat.zero_le _)
 rw [show xpl id (iF t) 40 41 0 ([vV t],[])=eQ t from rfl] at g1
 simp only [List.map_id,id] at g1
 refine g1 j S (Nat.zero_le _) hj ((k:Int),nxt t S (k:Int)) ?_
 unfold iF
 exact (aGA S _ _).2 ⟨k,h1,by omega,h3,rfl⟩
theorem dfin_good (hv:cI t) {j:Nat} {S:List Int} (hj:(eQ t).1[j]?=some S):jB t S:=(aGx hv).2.1 S (List.mem_of_getElem? hj)
theorem dfin_zero (hv:cI t) (hs:Small (eQ t)):(eQ t).1[0]?=some (vV t):=by
 obtain ⟨C,hC⟩:=(aGw (key:=id) (iF t) 40 41 0 ([vV t],[])).1
 rw [show xpl id (iF t) 40 41 0 ([vV t],[])=eQ t from rfl] at hC
 rw [←hC]
 rfl
theorem aJz {γ:Type} {p:List γ→Prop} (nil:p []) (snoc:∀ l x,p l→p (l++[x])):∀ l,p l:=by
 have:∀ l:List γ,p l.reverse:=by
  intro l
  induction l with
  |nil=>exact nil
  |cons x l ih=>rw [List.reverse_cons];exact snoc _ _ ih
 intro l
 have:=this l.reverse
 rwa [List.reverse_reverse] at this
theorem det_go (hv:cI t) (hs:Small (eQ t)) {k:Nat} {S:List Int} (hk:(eQ t).1[k]?=some S) {s:aU} (hs':s≠cW):
  (aFX t S s=[]∧goF (nI t) (k:Int) s=-1)∨∃ j:Nat,(eQ t).1[j]?=some (aFX t S s)∧aFX t S s≠[]∧goF (nI t) (k:Int) s=(j:Int):=by
 have hg:=dfin_good hv hk
 have hnd:(eQ t).1.Nodup:=by have:=(aGx hv).1;rwa [List.map_id] at this
 unfold goF
 cases hf:(nI t).E.find? (hit (nI t) (k:Int) s) with
 |some e=>
  right
  have he:=List.mem_of_find?_eq_some hf
  have hh:=List.find?_some hf
  obtain ⟨j,S',hj,n,h1,h2,h3,h4,rfl⟩:=(aJy hv hs e).1 he
  unfold hit at hh
  rw [Bool.and_eq_true,beq_iff_eq,beq_iff_eq] at hh
  obtain ⟨e1,e2⟩:=hh
  have e1:(j:Int)=(k:Int):=e1
  obtain rfl:j=k:=by omega
  rw [hk] at hj
  cases hj
  have e2:t.L.getD n []=s:=e2
  rw [List.getD_eq_getElem?_getD,List.getElem?_eq_getElem h2] at e2
  have e2:t.L[n]=s:=e2
  rw [←e2,visT_at hv hg h2]
  obtain ⟨i,hi,hp,hq⟩:=qQ h4
  exact ⟨i,by rw [List.getElem?_eq_getElem hi,hq],h3,hp⟩
 |none=>
  left
  refine ⟨?_,rfl⟩
  by_cases hm:s∈t.L
  ·obtain ⟨n,hn,rfl⟩:=List.mem_iff_getElem.1 hm
   rw [visT_at hv hg hn]
   have h1:1≤n:=by
    rcases Nat.eq_zero_or_pos n with rfl|h
    ·exact absurd (hv.2.2.1.2.2.1 hn) hs'
    ·exact h
   by_cases h0:nxt t S (n:Int)=[]
   ·exact h0
   ·exfalso
    have:=List.find?_eq_none.1 hf ⟨(k:Int),(n:Int),pos (eQ t).1 (nxt t S (n:Int))⟩ ((aJy hv hs _).2 ⟨k,S,hk,n,h1,hn,h0,dfin_next hv hs hk h1 hn h0,rfl⟩)
    refine this ?_
    unfold hit
    rw [Bool.and_eq_true,beq_iff_eq,beq_iff_eq]
    refine ⟨rfl,?_⟩
    show t.L.getD n []=t.L[n]
    rw [List.getD_eq_getElem?_getD,List.getElem?_eq_getElem hn];rfl
  ·exact visT_none hv hg hm
def jW (d:cG) (tr:List aU):Int:=tr.foldl (goF d) 0
theorem xL (d:cG) (tr:List aU) (s:aU):jW d (tr++[s])=goF d (jW d tr) s:=by unfold jW;rw [List.foldl_append];rfl
theorem run_det (hv:cI t) (hs:Small (eQ t)) {tr:List aU} (ht:∀ s∈tr,s≠cW):(aft t tr=[]∧jW (nI t) tr=-1)∨∃ j:Nat,(eQ t).1[j]?=some (aft t tr)∧aft t tr≠[]∧jW (nI t) tr=(j:Int):=by
 induction tr using aJz with
 |nil=>exact .inr ⟨0,dfin_zero hv hs,fstS_ne hv,rfl⟩
 |snoc tr s ih=>
  have hs':s≠cW:=ht s (by simp)
  rw [aMw,xL]
  rcases ih fun x hx=>ht x (by simp [hx]) with ⟨h1,h2⟩|⟨j,h1,h2,h3⟩
  ·left
   rw [h1,h2]
   exact ⟨visT_nil hv s,aKY (aEk hv hs).1 (by decide) s⟩
  ·rw [h3]
   exact det_go hv hs h1 hs'
theorem aAM (hv:cI t) (hs:Small (eQ t)) {tr:List aU} (ht:∀ s∈tr,s≠cW):jW (nI t) tr < 0↔aft t tr=[]:=by
 rcases run_det hv hs ht with ⟨h1,h2⟩|⟨j,h1,h2,h3⟩
 ·simp [h1,h2]
 ·rw [h3];constructor
  ·intro h;omega
  ·intro h;exact absurd h h2
end
end Gv
namespace Gv
open Go
section
variable (a b:cG) (M:List aU)
def tS (e:aY):List aY:=M.map fun s=>⟨goF a e.a s,goF b e.b s,e.trace++[s]⟩
def bN (p q:Int):Prop:=p < 0∧q < 0
instance (p q:Int):Decidable (bN p q):=inferInstanceAs (Decidable (_∧_))
structure Stp (fd:Int→Int→Bool) (step:List ((Int × Int) × Bool) × List aY→Option ((List ((Int × Int) × Bool) × List aY) ⊕ (Unit ⊕ (List aU × Bool)))):Prop where
 nil:∀ l,step (mtt l,[])=some (.inr (.inl ()))
 skip:∀ l e r,r.length≤1000000→e.trace.length≤1000000→bN e.a e.b∨(e.a,e.b)∈l→step (mtt l,e::r)=some (.inl (mtt l,r))
 hit:∀ l e r,r.length≤1000000→e.trace.length≤1000000→¬ bN e.a e.b→(e.a,e.b)∉l→fd e.a e.b=true→step (mtt l,e::r)=some (.inr (.inr (e.trace,true)))
 more:∀ l e r,r.length≤1000000→e.trace.length≤1000000→¬ bN e.a e.b→(e.a,e.b)∉l→fd e.a e.b=false→step (mtt l,e::r)=some (.inl (mtt (l++[(e.a,e.b)]),r++tS a b M e))
def OvM (tr:List aU):Prop:=∀ s∈tr,s∈M
def FtRes (fd:Int→Int→Bool) (r:Unit ⊕ (List aU × Bool)):Prop:=
 match r with
 |.inl _=>∀ tr,OvM M tr→bN (jW a tr) (jW b tr)∨fd (jW a tr) (jW b tr)=false
 |.inr (tr,v)=>v=true∧tr.length≤2000∧OvM M tr∧¬ bN (jW a tr) (jW b tr)∧fd (jW a tr) (jW b tr)=true∧∀ tr' s,tr=tr'++[s]→¬ bN (jW a tr') (jW b tr')∧fd (jW a tr') (jW b tr')=false
structure FtI (fd:Int→Int→Bool) (l:List (Int × Int)) (todo:List aY):Prop where
 nd:l.Nodup
 rng:∀ p∈l,(-1≤p.1∧p.1≤39)∧-1≤p.2∧p.2≤39
 ok:∀ p∈l,¬ bN p.1 p.2∧fd p.1 p.2=false
 ent:∀ e∈todo,OvM M e.trace∧e.a=jW a e.trace∧e.b=jW b e.trace∧e.trace.length≤l.length∧∀ tr' s,e.trace=tr'++[s]→¬ bN (jW a tr') (jW b tr')∧fd (jW a tr') (jW b tr')=false
 cls:∀ p∈l,∀ s∈M,bN (goF a p.1 s) (goF b p.2 s)∨(goF a p.1 s,goF b p.2 s)∈l∨∃ e∈todo,e.a=goF a p.1 s∧e.b=goF b p.2 s
 ini:(0,0)∈l∨∃ e∈todo,e.a=0∧e.b=0
 len:todo.length≤1+30 * l.length
end
section
variable {a b:cG} {M:List aU} {fd:Int→Int→Bool}
theorem FtI.small {l:List (Int × Int)} {todo:List aY} (h:FtI a b M fd l todo):l.length≤1681:=by
 have:=List.Nodup.length_le_of_subset (l₂:=(List.range 1681).map fun (i:Nat)=>(((i / 41:Nat):Int) - 1,((i % 41:Nat):Int) - 1)) h.nd (fun q hq=>by
  have hr:=h.rng q hq
  rw [List.mem_map]
  refine ⟨(q.1+1).toNat * 41+(q.2+1).toNat,by rw [List.mem_range];omega,?_⟩
  have e1:((q.1+1).toNat * 41+(q.2+1).toNat) / 41=(q.1+1).toNat:=by omega
  have e2:((q.1+1).toNat * 41+(q.2+1).toNat) % 41=(q.2+1).toNat:=by omega
  rw [e1,e2]
  refine Prod.ext ?_ ?_<;>simp only<;>omega)
 rw [List.length_map,List.length_range] at this
 exact this
theorem aMx {d:cG} (hd:cI d) (h0:d.N≤40) (tr:List aU):-1≤jW d tr∧jW d tr≤39:=by
 induction tr using aJz with
 |nil=>exact ⟨by show (-1:Int)≤0;decide,by show (0:Int)≤39;decide⟩
 |snoc tr s _=>rw [xL];have:=goF_lt hd (jW d tr) s;omega
theorem aMy {d:cG} (hd:cI d) {tr:List aU} (h:jW d tr < 0) (s:aU):jW d (tr++[s]) < 0:=by
 rw [xL,aKY hd h];decide
theorem aJA {step:_} (h:Stp a b M fd step) (ha:cI a) (hb:cI b) (hM:M.length≤30):∃ r,loop step (mtt [],[⟨0,0,[]⟩])=some r∧FtRes a b M fd r:=by
 have a40:=ha.1
 have b40:=hb.1
 refine qR (fun s=>∃ l todo,s=(mtt l,todo)∧FtI a b M fd l todo) (fun s=>31 * (1681 - s.1.length)+s.2.length) (FtRes a b M fd) (fun s hs=>?_) ⟨[],[⟨0,0,[]⟩],rfl,⟨by simp,by simp,by simp,?_,by simp,.inr ⟨_,List.mem_singleton.2 rfl,rfl,rfl⟩,by simp⟩⟩
 ·obtain ⟨l,todo,rfl,hI⟩:=hs
  have hl:=hI.small
  cases todo with
  |nil=>
   right
   refine ⟨_,h.nil l,fun tr htr=>?_⟩
   have:bN (jW a tr) (jW b tr)∨(jW a tr,jW b tr)∈l:=by
    induction tr using aJz with
    |nil=>
     rcases hI.ini with h0|⟨e,he,_⟩
     ·exact .inr h0
     ·simp at he
    |snoc tr s ih=>
     rcases ih (fun x hx=>htr x (by simp [hx])) with h1|h1
     ·exact .inl ⟨aMy ha h1.1 s,aMy hb h1.2 s⟩
     ·rw [xL,xL]
      rcases hI.cls _ h1 s (htr s (by simp)) with h2|h2|⟨e,he,_⟩
      ·exact .inl h2
      ·exact .inr h2
      ·simp at he
   rcases this with h1|h1
   ·exact .inl h1
   ·exact .inr (hI.ok _ h1).2
  |cons e r=>
   have hlen:=hI.len
   simp only [List.length_cons] at hlen
   obtain ⟨e1,e2,e3,e4,e5⟩:=hI.ent e List.mem_cons_self
   have hr:r.length≤1000000:=by omega
   have ht:e.trace.length≤1000000:=by omega
   by_cases hsk:bN e.a e.b∨(e.a,e.b)∈l
   ·left
    refine ⟨(mtt l,r),h.skip l e r hr ht hsk,⟨l,r,rfl,hI.nd,hI.rng,hI.ok,fun x hx=>hI.ent x (List.mem_cons_of_mem _ hx),fun p hp s hs=>?_,?_,by omega⟩,by simp only [List.length_cons];omega⟩
    ·rcases hI.cls p hp s hs with g|g|⟨x,hx,g1,g2⟩
     ·exact .inl g
     ·exact .inr (.inl g)
     ·rcases List.mem_cons.1 hx with rfl|hx
      ·rw [g1,g2] at hsk
       rcases hsk with g|g
       ·exact .inl g
       ·exact .inr (.inl g)
      ·exact .inr (.inr ⟨x,hx,g1,g2⟩)
    ·rcases hI.ini with g|⟨x,hx,g1,g2⟩
     ·exact .inl g
     ·rcases List.mem_cons.1 hx with rfl|hx
      ·rw [g1,g2] at hsk
       rcases hsk with g|g
       ·exact absurd g.1 (by decide)
       ·exact .inl g
      ·exact .inr ⟨x,hx,g1,g2⟩
   ·have hn:¬ bN e.a e.b:=fun g=>hsk (.inl g)
    have hnl:(e.a,e.b)∉l:=fun g=>hsk (.inr g)
    cases hfd:fd e.a e.b with
    |true=>
     right
     refine ⟨_,h.hit l e r hr ht hn hnl hfd,rfl,by omega,e1,?_,?_,e5⟩
     ·rw [←e2,←e3];exact hn
     ·rw [←e2,←e3];exact hfd
    |false=>
     left
     have hra:=aMx ha (by omega) e.trace
     have hrb:=aMx hb (by omega) e.trace
     rw [←e2] at hra
     rw [←e3] at hrb
     have hnew:FtI a b M fd (l++[(e.a,e.b)]) (r++tS a b M e):=by
      refine ⟨List.nodup_append.2 ⟨hI.nd,by simp,fun x hx y hy=>?_⟩,fun p hp=>?_,fun p hp=>?_,fun x hx=>?_,fun p hp s hs=>?_,?_,?_⟩
      ·rw [List.mem_singleton] at hy
       subst hy
       exact fun g=>hnl (g ▸ hx)
      ·rcases List.mem_append.1 hp with hp|hp
       ·exact hI.rng p hp
       ·rw [List.mem_singleton] at hp
        subst hp
        exact ⟨hra,hrb⟩
      ·rcases List.mem_append.1 hp with hp|hp
       ·exact hI.ok p hp
       ·rw [List.mem_singleton] at hp
        subst hp
        exact ⟨hn,hfd⟩
      ·rcases List.mem_append.1 hx with hx|hx
       ·obtain ⟨g1,g2,g3,g4,g5⟩:=hI.ent x (List.mem_cons_of_mem _ hx)
        exact ⟨g1,g2,g3,by rw [List.length_append];omega,g5⟩
       ·unfold tS at hx
        obtain ⟨s,hs,rfl⟩:=List.mem_map.1 hx
        refine ⟨fun y hy=>?_,?_,?_,?_,fun tr' s' hx'=>?_⟩
        ·rcases List.mem_append.1 hy with hy|hy
         ·exact e1 y hy
         ·rw [List.mem_singleton] at hy
          exact hy ▸ hs
        ·show goF a e.a s=jW a (e.trace++[s])
         rw [xL,e2]
        ·show goF b e.b s=jW b (e.trace++[s])
         rw [xL,e3]
        ·show (e.trace++[s]).length≤_
         simp only [List.length_append,List.length_singleton];omega
        ·have hx':e.trace++[s]=tr'++[s']:=hx'
         obtain ⟨rfl,_⟩:=List.append_inj' hx' rfl
         rw [←e2,←e3]
         exact ⟨hn,hfd⟩
      ·rcases List.mem_append.1 hp with hp|hp
       ·rcases hI.cls p hp s hs with g|g|⟨x,hx,g1,g2⟩
        ·exact .inl g
        ·exact .inr (.inl (List.mem_append_left _ g))
        ·rcases List.mem_cons.1 hx with rfl|hx
         ·refine .inr (.inl (List.mem_append_right _ (List.mem_singleton.2 ?_)))
          rw [g1,g2]
         ·exact .inr (.inr ⟨x,List.mem_append_left _ hx,g1,g2⟩)
       ·rw [List.mem_singleton] at hp
        subst hp
        exact .inr (.inr ⟨⟨goF a e.a s,goF b e.b s,e.trace++[s]⟩,List.mem_append_right _ (List.mem_map.2 ⟨s,hs,rfl⟩),rfl,rfl⟩)
      ·rcases hI.ini with g|⟨x,hx,g1,g2⟩
       ·exact .inl (List.mem_append_left _ g)
       ·rcases List.mem_cons.1 hx with rfl|hx
        ·refine .inl (List.mem_append_right _ (List.mem_singleton.2 ?_))
         rw [g1,g2]
        ·exact .inr ⟨x,List.mem_append_left _ hx,g1,g2⟩
      ·unfold tS
       simp only [List.length_append,List.length_map,List.length_singleton];omega
     have hl2:=hnew.small
     refine ⟨(mtt (l++[(e.a,e.b)]),r++tS a b M e),h.more l e r hr ht hn hnl hfd,⟨_,_,rfl,hnew⟩,?_⟩
     simp only [mtt_len,List.length_append,List.length_singleton,List.length_cons] at hl2 ⊢
     unfold tS
     rw [List.length_map]
     omega
 ·intro e he
  rw [List.mem_singleton] at he
  subst he
  exact ⟨fun s hs=>(by simp at hs),rfl,rfl,Nat.le_refl _,fun tr' s h=>by simp at h⟩
end
end Gv
namespace Gv
open Go
section
variable {a b:cG} {M:List aU}
theorem aJB {γ:Type} (x:γ) (l:List γ):tU (x::l) 1 ((x::l).length:Int)=some l:=by
 unfold tU
 rw [if_pos ⟨by decide,by simp;omega,by simp⟩]
 simp
theorem aKx {l:List aU} (h:l.length≤2000000):eB l=some l:=by
 unfold eB
 rw [dR (by simp [iU];omega),aC,List.nil_append]
theorem ft_push (ha:aBB a) (hb:aBB b) (hM:M.length≤30) {e:aY} {r:List aY} (hr:r.length≤1000000) (ht:e.trace.length≤1000000):
  loop (fun s:List aY × Int=>gX a b M e s.1 s.2) (r,0)=some (r++tS a b M e):=by
 obtain ⟨x,h1,h2⟩:=eM (step:=fun s:List aY × Int=>gX a b M e s.1 s.2) M.length (fun k (q:List aY)=>(q,(k:Int))) (fun k q=>q=r++tS a b (M.take k) e) (fun q=>q=r++tS a b M e) (fun k q hk hI=>by
  subst hI
  refine ⟨r++tS a b (M.take (k+1)) e,?_,rfl⟩
  show gX a b M e (r++tS a b (M.take k) e) (k:Int)=_
  unfold gX wF
  have hl:(tS a b (M.take k) e).length=k:=by unfold tS;rw [List.length_map,List.length_take];omega
  rw [if_pos (dC hk),cR hk,aC,step_eq ha.1 ha.2,aC,step_eq hb.1 hb.2,aC,aKx (by omega),aC,dR (by simp [iU];omega),aC,dR (by simp only [List.length_append,List.length_singleton,hl,iU];omega),aC,cT hk (by omega)]
  unfold tS
  rw [List.take_succ_eq_append_getElem hk,List.map_append,List.map_singleton,List.append_assoc]) (fun q hI=>by
  subst hI
  refine ⟨r++tS a b (M.take M.length) e,?_,by rw [List.take_length]⟩
  show gX a b M e (r++tS a b (M.take M.length) e) (M.length:Int)=_
  unfold gX
  rw [if_neg (by simp)]) M.length 0 r (by omega) (by simp [tS])
 subst h2
 exact h1
theorem s5_v2:@qN=@gX:=rfl
theorem ft_step (ha:aBB a) (hb:aBB b) (hM:M.length≤30):Stp a b M (fun p _=>decide (p < 0)) fun s=>fU a b M s.1 s.2:=by
 have hc:∀ (l:List (Int × Int)) (e:aY) (r:List aY),fU a b M (mtt l) (e::r)=jZ a b M (mtt l) e r (decide (bN e.a e.b∨(e.a,e.b)∈l)):=by
  intro l e r
  unfold fU
  rw [if_pos (by simp),show ix (e::r) 0=some e from rfl,aC,aJB,aC]
  have hg:(nO (mtt l) (⟨e.a,e.b⟩:Int × Int)).getD false=decide ((e.a,e.b)∈l):=aJt (e.a,e.b) l
  rw [hg]
  by_cases h1:e.a < 0
  ·rw [if_pos (by simpa using h1)]
   by_cases h2:e.b < 0
   ·rw [if_pos (by simpa using h2),decide_eq_true (show bN e.a e.b∨(e.a,e.b)∈l from .inl ⟨h1,h2⟩)]
   ·rw [if_neg (by simpa using h2)]
    congr 1
    exact decide_eq_decide.2 ⟨.inr,fun h=>h.resolve_left fun g=>h2 g.2⟩
  ·rw [if_neg (by simpa using h1)]
   congr 1
   exact decide_eq_decide.2 ⟨.inr,fun h=>h.resolve_left fun g=>h1 g.1⟩
 refine ⟨fun l=>?_,fun l e r hr ht h=>?_,fun l e r hr ht h1 h2 h3=>?_,fun l e r hr ht h1 h2 h3=>?_⟩
 ·show fU a b M (mtt l) []=_
  unfold fU
  rw [if_neg (by simp)]
 ·show fU a b M (mtt l) (e::r)=_
  rw [hc,decide_eq_true h];rfl
 ·show fU a b M (mtt l) (e::r)=_
  rw [hc,decide_eq_false (fun g=>g.elim h1 h2)]
  unfold jZ lT
  rw [if_neg (by simp),aC,aC,if_pos h3]
 ·show fU a b M (mtt l) (e::r)=_
  rw [hc,decide_eq_false (fun g=>g.elim h1 h2)]
  unfold jZ lT
  have hp:xM (mtt l) (⟨e.a,e.b⟩:Int × Int) true=mtt (l++[(e.a,e.b)]):=aJu h2
  rw [if_neg (by simp),aC,aC,if_neg (by simpa using h3),ft_push ha hb hM hr ht,aC,hp]
  rfl
theorem ft_step2 (ha:aBB a) (hb:aBB b) (hM:M.length≤30):Stp a b M (fun p q=>decide (p < 0∨q < 0)) fun s=>eN a b M s.1 s.2:=by
 have hc:∀ (l:List (Int × Int)) (e:aY) (r:List aY),eN a b M (mtt l) (e::r)=gV a b M (mtt l) e r (decide (bN e.a e.b∨(e.a,e.b)∈l)):=by
  intro l e r
  unfold eN
  rw [if_pos (by simp),show ix (e::r) 0=some e from rfl,aC,aJB,aC]
  have hg:(nO (mtt l) (⟨e.a,e.b⟩:Int × Int)).getD false=decide ((e.a,e.b)∈l):=aJt (e.a,e.b) l
  rw [hg]
  by_cases h1:e.a < 0
  ·rw [if_pos (by simpa using h1)]
   by_cases h2:e.b < 0
   ·rw [if_pos (by simpa using h2),decide_eq_true (show bN e.a e.b∨(e.a,e.b)∈l from .inl ⟨h1,h2⟩)]
   ·rw [if_neg (by simpa using h2)]
    congr 1
    exact decide_eq_decide.2 ⟨.inr,fun h=>h.resolve_left fun g=>h2 g.2⟩
  ·rw [if_neg (by simpa using h1)]
   congr 1
   exact decide_eq_decide.2 ⟨.inr,fun h=>h.resolve_left fun g=>h1 g.1⟩
 have hq:∀ p q:Int,pI p q=some (decide (p < 0∨q < 0)):=by
  intro p q
  unfold pI lU
  by_cases h:p < 0<;>simp [h]
 refine ⟨fun l=>?_,fun l e r hr ht h=>?_,fun l e r hr ht h1 h2 h3=>?_,fun l e r hr ht h1 h2 h3=>?_⟩
 ·show eN a b M (mtt l) []=_
  unfold eN
  rw [if_neg (by simp)]
 ·show eN a b M (mtt l) (e::r)=_
  rw [hc,decide_eq_true h];rfl
 ·show eN a b M (mtt l) (e::r)=_
  rw [hc,decide_eq_false (fun g=>g.elim h1 h2)]
  unfold gV
  rw [if_neg (by simp),aC,hq,aC,if_pos h3]
 ·show eN a b M (mtt l) (e::r)=_
  rw [hc,decide_eq_false (fun g=>g.elim h1 h2)]
  unfold gV
  have hp:xM (mtt l) (⟨e.a,e.b⟩:Int × Int) true=mtt (l++[(e.a,e.b)]):=aJu h2
  rw [if_neg (by simp),aC,hq,aC,if_neg (by simpa using h3),s5_v2,ft_push ha hb hM hr ht,aC,hp]
  rfl
def aEr:Unit ⊕ (List aU × Bool)→List aU × Bool
 |.inl _=>([],false)
 |.inr x=>x
theorem aJC (ha:cI a) (hb:cI b):∃ M,Jn a b M∧(ob (dB [a.L,b.L]) fun r35=>ob (aCW 1 0 r35 []) fun r47=>tU r47.L 1 (r47.L.length:Int))=some M:=by
 obtain ⟨M,_,hJ,_⟩:=jn_of ha hb
 have h1:=ha.2.2.1.2.1
 have h2:=hb.2.2.1.2.1
 refine ⟨M,hJ,?_⟩
 rw [aNo _ _ (by omega),aC,lts_gen (M:=M) (Eo:=[]) hJ.str hJ.mem (by rw [List.length_append];omega) (by simp) (by simp) (by unfold SE;simp) (by simp) (by have:=hJ.len;omega),aC]
 exact aJB cW M
theorem first_one (ha:aBB a) (hb:aBB b) (ha0:a.I=0) (hb0:b.I=0):∃ M r,Jn a b M∧qJ a b=some (aEr r)∧FtRes a b M (fun p _=>decide (p < 0)) r:=by
 obtain ⟨M,hJ,hm⟩:=aJC ha.1 hb.1
 have hlen:=hJ.len
 obtain ⟨r,h1,h2⟩:=aJA (ft_step (M:=M) ha hb (by omega)) ha.1 hb.1 (by omega)
 refine ⟨M,r,hJ,?_,h2⟩
 unfold qJ
 have h1':loop (fun s:List ((Int × Int) × Bool) × List aY=>fU a b M s.1 s.2) (([]:List ((Int × Int) × Bool)),([⟨0,0,[]⟩]:List aY))=some r:=h1
 cases hx:dB [a.L,b.L] with
 |none=>rw [hx] at hm;cases hm
 |some X=>
  rw [hx,aC] at hm
  rw [aC]
  cases hy:aCW 1 0 X [] with
  |none=>rw [hy] at hm;cases hm
  |some Y=>
   rw [hy,aC] at hm
   rw [aC,hm,aC,ha0,hb0,h1',aC]
   cases r with
   |inl x=>rfl
   |inr x=>rfl
theorem first_two (ha:aBB a) (hb:aBB b) (ha0:a.I=0) (hb0:b.I=0):∃ M r,Jn a b M∧lO a b=some (aEr r)∧FtRes a b M (fun p q=>decide (p < 0∨q < 0)) r:=by
 obtain ⟨M,hJ,hm⟩:=aJC ha.1 hb.1
 have hlen:=hJ.len
 obtain ⟨r,h1,h2⟩:=aJA (ft_step2 (M:=M) ha hb (by omega)) ha.1 hb.1 (by omega)
 refine ⟨M,r,hJ,?_,h2⟩
 unfold lO
 have h1':loop (fun s:List ((Int × Int) × Bool) × List aY=>eN a b M s.1 s.2) (([]:List ((Int × Int) × Bool)),([⟨0,0,[]⟩]:List aY))=some r:=h1
 cases hx:dB [a.L,b.L] with
 |none=>rw [hx] at hm;cases hm
 |some X=>
  rw [hx,aC] at hm
  rw [aC]
  cases hy:aCW 1 0 X [] with
  |none=>rw [hy] at hm;cases hm
  |some Y=>
   rw [hy,aC] at hm
   rw [aC,hm,aC,ha0,hb0,h1',aC]
   cases r with
   |inl x=>rfl
   |inr x=>rfl
end
end Gv
namespace Gv
open Go
def VisL (s:aU):Prop:=oN s=true∧s≠cW∧s.length≤999999999
section
variable {t:cG}
theorem aMz (hv:cI t) (hf:fM 999999999 t) {s:aU} (hs:s∈t.L.tail):VisL s:=by
 have hl:=hv.2.2.1
 obtain ⟨k,hk,rfl⟩:=List.mem_iff_getElem.1 hs
 rw [List.length_tail] at hk
 have h:=hl.2.2.2 (k+1) (by omega) (by omega)
 rw [List.getElem_tail]
 exact ⟨h.1,h.2.1,hf.2.1 _ (List.getElem_mem _)⟩
theorem after_eq (hv:cI t) {tr:List aU} (hl:tr.length≤1000000000):aBh t tr=some (aft t tr):=by
 unfold aBh
 rw [(aFl hv).2.1,aC]
 obtain ⟨r,h1,h2⟩:=eM (step:=fun s:List Int × Int=>jS t tr s.1 s.2) tr.length (fun k (q:List Int)=>(q,(k:Int))) (fun k q=>q=aft t (tr.take k)) (fun q=>q=aft t tr) (fun k q hk hI=>by
  subst hI
  refine ⟨aft t (tr.take (k+1)),?_,rfl⟩
  show jS t tr (aft t (tr.take k)) (k:Int)=_
  unfold jS
  rw [if_pos (dC hk),cR hk,aC,(aHZ hv (aft_good hv _) _).1,aC,cT hk (by omega),List.take_succ_eq_append_getElem hk,aMw]) (fun q hI=>by
  subst hI
  refine ⟨aft t (tr.take tr.length),?_,by rw [List.take_length]⟩
  show jS t tr (aft t (tr.take tr.length)) (tr.length:Int)=_
  unfold jS
  rw [if_neg (by simp)]) tr.length 0 (vV t) (by omega) rfl
 subst h2
 have h1':loop (fun s:List Int × Int=>jS t tr s.1 s.2) (vV t,0)=some (aft t tr):=h1
 rw [h1',aC];rfl
theorem aAN (hv:cI t) (hf:fM 999999999 t) {tr:List aU} (hl:tr.length≤900000000) (ht:∀ s∈tr,VisL s):iO t tr=some (if aft t tr=[] then ([],3) else (aft t tr,0)):=by
 unfold iO
 rw [tP t hf,aCN hv,aC,if_neg (by simp),aJS tr (by omega) (fun s hs=>by have:=(ht s hs).2.2;omega),aC]
 have:(tr.all fun s=>oN s&&!(s == cW))=true:=by
  rw [List.all_eq_true]
  intro s hs
  have:=ht s hs
  rw [this.1,Bool.true_and,Bool.not_eq_true',beq_eq_false_iff_ne]
  exact this.2.1
 rw [this,if_neg (by simp),after_eq hv (by omega),aC]
 by_cases h:aft t tr=[]
 ·rw [if_pos (by simp [h]),if_pos h]
 ·rw [if_neg (by simp [h]),if_neg h]
theorem out_eqI {d:cG} (hd:cI d) (k:Int):aBY d k=some (aBu d k):=by
 have hal:=hd.2.2.2.1
 unfold aBY
 rw [aDa (step:=fun s:List Edge × Int=>uQ d k s.1 s.2) d.E (fun e=>e.F == k) id id (fun j out x hk ho hx=>?_) (fun out=>by simp only [uQ,dO];rfl),aC]
 ·simp [yW,aBu]
 ·simp only [uQ,dC hk,if_pos,hx,aC,yX,cT hk (show d.E.length < 4611686018427387904 by omega)]
  rw [dR (by simp [iU];omega),aC]
  cases x.F == k<;>rfl
theorem go_edgeD {d:cG} (hd:aBB d) {e:Edge} (he:e∈d.E):goF d e.F (txt d e)=e.To:=by
 have h:=hit_one hd.1 hd.2 e.F (txt d e)
 have hm:e∈d.E.filter (hit d e.F (txt d e)):=List.mem_filter.2 ⟨he,by unfold hit;simp⟩
 unfold goF
 rw [h] at hm
 cases hf:d.E.find? (hit d e.F (txt d e)) with
 |none=>rw [hf] at hm;simp at hm
 |some x=>
  rw [hf] at hm
  simp at hm
  rw [hm]
def kid (d:cG) (n:Nat) (e:aY):List aY:=if e.trace.length=n then [] else (aBu d e.a).map fun x=>⟨x.To,0,e.trace++[txt d x]⟩
structure EntP (d:cG) (n:Nat) (e:aY):Prop where
 len:e.trace.length≤n
 lab:∀ s∈e.trace,s∈d.L.tail
 run:e.a=jW d e.trace
 pos:0≤e.a
theorem kid_ok {d:cG} (hd:aBB d) {n:Nat} {e x:aY} (he:EntP d n e) (hx:x∈kid d n e):EntP d n x:=by
 unfold kid at hx
 split at hx
 ·simp at hx
 ·rename_i hn
  obtain ⟨y,hy,rfl⟩:=List.mem_map.1 hx
  unfold aBu at hy
  obtain ⟨hy1,hy2⟩:=List.mem_filter.1 hy
  rw [beq_iff_eq] at hy2
  have hb:=aBt hd.1 hy1
  obtain ⟨k,hk,hke⟩:=List.mem_iff_getElem.1 hy1
  have hs:=(hd.2 k hk).1
  rw [hke] at hs
  have hlen:=he.len
  refine ⟨by simp only [List.length_append,List.length_singleton];omega,fun s h=>?_,?_,hb.2.1.1⟩
  ·rcases List.mem_append.1 h with h|h
   ·exact he.lab s h
   ·rw [List.mem_singleton] at h
    subst h
    unfold txt
    have hlt:y.B.toNat < d.L.length:=by omega
    rw [List.getD_eq_getElem?_getD,List.getElem?_eq_getElem hlt]
    rw [List.mem_iff_getElem]
    refine ⟨y.B.toNat - 1,by rw [List.length_tail];omega,?_⟩
    rw [List.getElem_tail]
    show d.L[y.B.toNat - 1+1]=d.L[y.B.toNat]
    congr 1
    omega
  ·show y.To=jW d (e.trace++[txt d y])
   rw [xL,←he.run,←hy2,go_edgeD hd hy1]
theorem tr_push {d:cG} (hd:aBB d) {c:Int} {n:Nat} (hn:n≤1000) {e:aY} (he:EntP d n e) {r:List aY} (hr:r.length≤1000000):
  loop (fun s:List aY × Int=>kM (d,c) e (aBu d e.a) s.1 s.2) (r,0)=some (r++(aBu d e.a).map fun x=>⟨x.To,0,e.trace++[txt d x]⟩):=by
 have h3:=hd.1.2.2.2.1
 have ol:(aBu d e.a).length≤300:=Nat.le_trans (List.length_filter_le _ _) h3
 have hlen:=he.len
 obtain ⟨x,h1,h2⟩:=eM (step:=fun s:List aY × Int=>kM (d,c) e (aBu d e.a) s.1 s.2) (aBu d e.a).length (fun k (q:List aY)=>(q,(k:Int))) (fun k q=>q=r++((aBu d e.a).take k).map fun x=>(⟨x.To,0,e.trace++[txt d x]⟩:aY)) (fun q=>q=r++(aBu d e.a).map fun x=>(⟨x.To,0,e.trace++[txt d x]⟩:aY)) (fun k q hk hI=>by
  subst hI
  refine ⟨_,?_,rfl⟩
  show kM (d,c) e (aBu d e.a) (r++((aBu d e.a).take k).map fun x=>(⟨x.To,0,e.trace++[txt d x]⟩:aY)) (k:Int)=some (.inl (r++((aBu d e.a).take (k+1)).map fun x=>(⟨x.To,0,e.trace++[txt d x]⟩:aY),((k+1:Nat):Int)))
  unfold kM aAL
  have hm:(aBu d e.a)[k]∈d.E:=(List.mem_filter.1 (List.getElem_mem hk)).1
  have hl:(((aBu d e.a).take k).map fun x=>(⟨x.To,0,e.trace++[txt d x]⟩:aY)).length=k:=by rw [List.length_map,List.length_take];omega
  rw [if_pos (dC hk),cR hk,aC]
  show (ob (ix d.L (aBu d e.a)[k].B) fun e332=>_)=_
  rw [aDK (qP hd.1 hm),aC,aKx (by omega),aC,dR (by simp [iU];omega),aC,dR (by simp only [List.length_append,List.length_singleton,hl,iU];omega),aC,cT hk (by omega),List.take_succ_eq_append_getElem hk,List.map_append,List.map_singleton,List.append_assoc]) (fun q hI=>by
  subst hI
  refine ⟨r++((aBu d e.a).take (aBu d e.a).length).map fun x=>⟨x.To,0,e.trace++[txt d x]⟩,?_,by rw [List.take_length]⟩
  show kM (d,c) e (aBu d e.a) _ ((aBu d e.a).length:Int)=some (.inr (r++((aBu d e.a).take (aBu d e.a).length).map fun x=>(⟨x.To,0,e.trace++[txt d x]⟩:aY)))
  unfold kM
  rw [if_neg (by simp)]) (aBu d e.a).length 0 r (by omega) (by simp)
 subst h2
 exact h1
theorem tr_all {d:cG} (hd:aBB d) (c:Int) {n:Nat} (hn:n≤1000):∃ all,loop (fun s:List aY × Int=>iJ (n:Int) (d,c) s.1 s.2) ([⟨0,0,[]⟩],0)=some all∧1≤all.length∧all.length≤1000∧(∀ e∈all,EntP d n e)∧(all.length≤200→all=⟨0,0,[]⟩::all.flatMap (kid d n)):=by
 have h3:=hd.1.2.2.2.1
 refine qR (step:=fun s:List aY × Int=>iJ (n:Int) (d,c) s.1 s.2) (fun s=>∃ i:Nat,s.2=(i:Int)∧i≤s.1.length∧1≤s.1.length∧s.1.length≤1000∧i≤201∧(∀ e∈s.1,EntP d n e)∧s.1=⟨0,0,[]⟩::(s.1.take i).flatMap (kid d n)) (fun s=>202 - s.2.toNat)
  (fun all=>1≤all.length∧all.length≤1000∧(∀ e∈all,EntP d n e)∧(all.length≤200→all=⟨0,0,[]⟩::all.flatMap (kid d n))) (fun s hI=>?_) ⟨0,rfl,by simp,by simp,by simp,by omega,fun e he=>?_,by simp⟩
 ·obtain ⟨all,p⟩:=s
  obtain ⟨i,rfl,i1,i2,i3,i4,i5,i6⟩:=hI
  simp only at i1 i2 i3 i5 i6 ⊢
  show (∃ s',iJ (n:Int) (d,c) all (i:Int)=_∧_)∨_
  by_cases h1:i < all.length
  ·by_cases h2:all.length≤200
   ·left
    have he:=i5 _ (List.getElem_mem h1)
    have hj4:∀ all',rP (i:Int) all'=some (.inl (all',((i+1:Nat):Int))):=fun all'=>by unfold rP;rw [cT h1 (by omega)]
    have ol:(aBu d all[i].a).length≤300:=Nat.le_trans (List.length_filter_le _ _) h3
    have hstep:iJ (n:Int) (d,c) all (i:Int)=some (.inl (all++kid d n all[i],((i+1:Nat):Int))):=by
     unfold iJ
     rw [if_pos (dC h1),decide_eq_true (p:=(all.length:Int)≤200) (by omega)]
     unfold oK
     rw [if_pos rfl,cR h1,aC]
     unfold kid
     by_cases hk:all[i].trace.length=n
     ·rw [if_pos (by simp [hk]),if_pos hk,List.append_nil,hj4]
     ·rw [if_neg (by simp;omega),if_neg hk]
      show (ob (aBY d all[i].a) fun r223=>_)=_
      rw [out_eqI hd.1,aC,tr_push hd hn he (by omega),aC]
      exact hj4 _
    have hkl:(kid d n all[i]).length≤300:=by
     unfold kid
     split
     ·simp
     ·rw [List.length_map];exact ol
    refine ⟨_,hstep,⟨i+1,rfl,by simp only [List.length_append];omega,by simp only [List.length_append];omega,by simp only [List.length_append];omega,by omega,fun e hx=>?_,?_⟩,by simp only;omega⟩
    ·rcases List.mem_append.1 hx with hx|hx
     ·exact i5 e hx
     ·exact kid_ok hd he hx
    ·simp only
     rw [List.take_append_of_le_length (by omega),List.take_succ_eq_append_getElem h1,List.flatMap_append,List.flatMap_singleton,←List.cons_append,←i6]
   ·right
    refine ⟨all,?_,i2,i3,i5,fun h=>absurd h h2⟩
    unfold iJ
    rw [if_pos (dC h1),decide_eq_false (p:=(all.length:Int)≤200) (by omega)]
    unfold oK
    rw [if_neg (by simp)]
  ·right
   refine ⟨all,?_,i2,i3,i5,fun _=>?_⟩
   ·unfold iJ
    rw [if_neg (by simp;omega)]
    unfold oK
    rw [if_neg (by simp)]
   ·rw [List.take_of_length_le (by omega)] at i6
    exact i6
 ·rw [List.mem_singleton] at he
  subst he
  exact ⟨by simp,by simp,rfl,by simp⟩
theorem tr_names {all:List aY} (h:all.length≤1000):loop (fun s:List (List aU) × Int=>kL all s.1 s.2) ([],0)=some (all.map (·.trace)):=by
 obtain ⟨x,h1,h2⟩:=eM (step:=fun s:List (List aU) × Int=>kL all s.1 s.2) all.length (fun k (q:List (List aU))=>(q,(k:Int))) (fun k q=>q=(all.take k).map (·.trace)) (fun q=>q=all.map (·.trace)) (fun k q hk hI=>by
  subst hI
  refine ⟨(all.take (k+1)).map (·.trace),?_,rfl⟩
  show kL all ((all.take k).map (·.trace)) (k:Int)=_
  unfold kL
  have hl:((all.take k).map (·.trace)).length=k:=by rw [List.length_map,List.length_take];omega
  rw [if_pos (dC hk),cR hk,aC,dR (by simp only [List.length_singleton,hl,iU];omega),aC,cT hk (by omega),List.take_succ_eq_append_getElem hk,List.map_append,List.map_singleton]) (fun q hI=>by
  subst hI
  refine ⟨(all.take all.length).map (·.trace),?_,by rw [List.take_length]⟩
  show kL all ((all.take all.length).map (·.trace)) (all.length:Int)=_
  unfold kL
  rw [if_neg (by simp)]) all.length 0 [] (by omega) rfl
 subst h2
 exact h1
theorem aLl (hv:cI t) (hf:fM 999999999 t) {n:Nat} (hn:n≤12):aBf t (n:Int)=some (if Small (eQ t) then (nI t,0) else (⟨0,0,[],[]⟩,5)):=by
 unfold aBf
 rw [tP t hf,aCN hv,aC,if_neg (by simp)]
 unfold sG aAS
 rw [if_pos (by simp),decide_eq_true (p:=(n:Int)≤12) (by omega),aC,if_neg (by simp),tQ hv hf,aC]
 unfold detS nI
 by_cases hs:Small (eQ t)
 ·rw [if_pos hs,if_pos hs];rfl
 ·rw [if_neg hs,if_neg hs];rfl
theorem aMA (hv:cI t) (hf:fM 999999999 t) (hs:Small (eQ t)) {n:Nat} (hn:n≤12):∃ all,1≤all.length∧(∀ e∈all,EntP (nI t) n e)∧(all.length≤200→all=⟨0,0,[]⟩::all.flatMap (kid (nI t) n))∧aAi t (n:Int)=some (if 200 < all.length then ([],5) else (all.map (·.trace),0)):=by
 obtain ⟨all,h1,h2,h3,h4,h5⟩:=tr_all (n:=n) (aEk hv hs) 0 (by omega)
 refine ⟨all,h2,h4,h5,?_⟩
 unfold aAi
 rw [aLl hv hf hn,if_pos hs,aC,if_neg (by simp)]
 have h1':loop (fun s:List aY × Int=>iJ (n:Int) (nI t,0) s.1 s.2) (([⟨0,0,[]⟩]:List aY),0)=some all:=h1
 rw [h1',aC]
 unfold vT
 by_cases hl:200 < all.length
 ·rw [if_pos (by simp;omega),if_pos hl]
 ·rw [if_neg (by simp;omega),if_neg hl,tr_names h3,aC];rfl
end
end Gv
namespace Gv
open Go
section
variable {a b:cG}
def OvL (a b:cG) (tr:List aU):Prop:=∀ s∈tr,s∈a.L++b.L∧s≠cW
theorem OvL.symm {tr:List aU} (h:OvL a b tr):OvL b a tr:=fun s hs=>⟨by
 have:=(h s hs).1
 rw [List.mem_append] at this ⊢
 exact this.symm,(h s hs).2⟩
theorem OvL.vis (ha:cI a) (hb:cI b) (fa:fM 999999999 a) (fb:fM 999999999 b) {tr:List aU} (h:OvL a b tr):∀ s∈tr,VisL s:=fun s hs=>by
 obtain ⟨h1,h2⟩:=h s hs
 have key:∀ {t:cG},cI t→fM 999999999 t→s∈t.L→VisL s:=fun {t} hv hf h=>by
  obtain ⟨h0,e0⟩:=tau_at hv
  refine aMz hv hf ?_
  rw [(aKu hv).1] at h
  rcases List.mem_cons.1 h with h|h
  ·exact absurd h h2
  ·exact h
 rcases List.mem_append.1 h1 with h|h
 ·exact key ha fa h
 ·exact key hb fb h
theorem aAq (t:cG):(detS t).2.2=decide (Small (eQ t)):=by
 unfold detS
 by_cases h:Small (eQ t)
 ·rw [if_pos h,decide_eq_true h]
 ·rw [if_neg h,decide_eq_false h]
theorem aLm (ha:cI a) (hb:cI b) (fa:fM 999999999 a) (fb:fM 999999999 b):qW a b=if Small (eQ a)∧Small (eQ b) then (ob (qJ (nI a) (nI b)) fun r87=>some (!r87.2,r87.1,0)) else some (false,[],5):=by
 unfold qW
 rw [tP a fa,aCN ha,aC,if_neg (by simp),tP b fb,aCN hb,aC]
 unfold nB
 rw [if_neg (by simp),tQ ha fa,aC,tQ hb fb,aC,aAq,aAq]
 by_cases h1:Small (eQ a)
 ·rw [decide_eq_true h1,if_neg (by simp)]
  by_cases h2:Small (eQ b)
  ·rw [decide_eq_true h2,if_pos ⟨h1,h2⟩]
   unfold nA
   rw [if_neg (by simp)]
   unfold detS
   rw [if_pos h1,if_pos h2];rfl
  ·rw [decide_eq_false h2,if_neg (fun h=>h2 h.2)];rfl
 ·rw [decide_eq_false h1,if_pos (show (!false)=true from rfl),if_neg (fun h=>h1 h.1)];rfl
theorem cmp_two (ha:cI a) (hb:cI b) (fa:fM 999999999 a) (fb:fM 999999999 b):nC a b=if Small (eQ a)∧Small (eQ b) then (ob (lO (nI a) (nI b)) fun r87=>some (!r87.2,r87.1,0)) else some (false,[],5):=by
 unfold nC
 rw [tP a fa,aCN ha,aC,if_neg (by simp),tP b fb,aCN hb,aC]
 unfold kE
 rw [if_neg (by simp),tQ ha fa,aC,tQ hb fb,aC,aAq,aAq]
 by_cases h1:Small (eQ a)
 ·rw [decide_eq_true h1,if_neg (by simp)]
  by_cases h2:Small (eQ b)
  ·rw [decide_eq_true h2,if_pos ⟨h1,h2⟩]
   unfold kD
   rw [if_neg (by simp)]
   unfold detS
   rw [if_pos h1,if_pos h2];rfl
  ·rw [decide_eq_false h2,if_neg (fun h=>h2 h.2)];rfl
 ·rw [decide_eq_false h1,if_pos (show (!false)=true from rfl),if_neg (fun h=>h1 h.1)];rfl
theorem jn_ov {M:List aU} (hJ:Jn (nI a) (nI b) M) {tr:List aU}:OvM M tr↔OvL a b tr:=by
 constructor
 ·intro h s hs;exact (hJ.mem s).1 (h s hs)
 ·intro h s hs;exact (hJ.mem s).2 (h s hs)
theorem inc_ok (ha:cI a) (hb:cI b) (fa:fM 999999999 a) (fb:fM 999999999 b) (sa:Small (eQ a)) (sb:Small (eQ b)):
  ∃ inn w,fG a b=some (inn,w,0)∧(inn=true→∀ tr,OvL a b tr→aft b tr≠[]→aft a tr≠[])∧(inn=false→OvL a b w∧w.length≤2000∧aft b w≠[]∧aft a w=[]∧∀ tr' s,w=tr'++[s]→aft a tr'≠[]):=by
 obtain ⟨M,r,hJ,h1,h2⟩:=first_one (aEk ha sa) (aEk hb sb) rfl rfl
 have h1':qJ (nI a) (nI b)=some (aEr r):=h1
 refine ⟨!(aEr r).2,(aEr r).1,?_,fun hi tr htr hbt=>?_,fun hi=>?_⟩
 ·unfold fG
  rw [aLm ha hb fa fb,if_pos ⟨sa,sb⟩,h1',aC,aC]
 ·have hvis:∀ s∈tr,s≠cW:=fun s hs=>(htr s hs).2
  cases r with
  |inr x=>
   obtain ⟨tr0,v⟩:=x
   have hv:v=true:=h2.1
   subst hv
   simp [aEr] at hi
  |inl x=>
   have h3:bN (jW (nI a) tr) (jW (nI b) tr)∨decide (jW (nI a) tr < 0)=false:=h2 tr ((jn_ov hJ).2 htr)
   intro he
   have h4:=(aAM ha sa hvis).2 he
   rcases h3 with h|h
   ·exact hbt ((aAM hb sb hvis).1 h.2)
   ·rw [decide_eq_false_iff_not] at h
    exact h h4
 ·cases r with
  |inl x=>simp [aEr] at hi
  |inr x=>
   obtain ⟨w,v⟩:=x
   obtain ⟨_,k0,k1,k2,k3,k4⟩:v=true∧w.length≤2000∧OvM M w∧¬ bN (jW (nI a) w) (jW (nI b) w)∧decide (jW (nI a) w < 0)=true∧∀ tr' s,w=tr'++[s]→¬ bN (jW (nI a) tr') (jW (nI b) tr')∧decide (jW (nI a) tr' < 0)=false:=h2
   have hov:=(jn_ov hJ).1 k1
   have hvis:∀ s∈w,s≠cW:=fun s hs=>(hov s hs).2
   rw [decide_eq_true_iff] at k3
   refine ⟨hov,k0,fun he=>k2 ⟨k3,(aAM hb sb hvis).2 he⟩,(aAM ha sa hvis).1 k3,fun tr' s he hn=>?_⟩
   have he:w=tr'++[s]:=he
   have hvis':∀ s∈tr',s≠cW:=fun x hx=>hvis x (by rw [he];exact List.mem_append_left _ hx)
   have:=(k4 tr' s he).2
   rw [decide_eq_false_iff_not] at this
   exact this ((aAM ha sa hvis').2 hn)
theorem same_ok (ha:cI a) (hb:cI b) (fa:fM 999999999 a) (fb:fM 999999999 b) (sa:Small (eQ a)) (sb:Small (eQ b)):
  ∃ same w,mJ a b=some (same,w,0)∧(same=true→∀ tr,OvL a b tr→(aft a tr=[]↔aft b tr=[]))∧(same=false→OvL a b w∧¬ (aft a w=[]∧aft b w=[])∧(aft a w=[]∨aft b w=[])):=by
 obtain ⟨M,r,hJ,h1,h2⟩:=first_two (aEk ha sa) (aEk hb sb) rfl rfl
 have h1':lO (nI a) (nI b)=some (aEr r):=h1
 refine ⟨!(aEr r).2,(aEr r).1,?_,fun hi tr htr=>?_,fun hi=>?_⟩
 ·unfold mJ
  rw [cmp_two ha hb fa fb,if_pos ⟨sa,sb⟩,h1',aC,aC]
 ·have hvis:∀ s∈tr,s≠cW:=fun s hs=>(htr s hs).2
  cases r with
  |inr x=>
   obtain ⟨tr0,v⟩:=x
   have hv:v=true:=h2.1
   subst hv
   simp [aEr] at hi
  |inl x=>
   have h3:bN (jW (nI a) tr) (jW (nI b) tr)∨decide (jW (nI a) tr < 0∨jW (nI b) tr < 0)=false:=h2 tr ((jn_ov hJ).2 htr)
   have ea:=aAM ha sa hvis
   have eb:=aAM hb sb hvis
   rcases h3 with h|h
   ·exact ⟨fun _=>eb.1 h.2,fun _=>ea.1 h.1⟩
   ·rw [decide_eq_false_iff_not] at h
    exact ⟨fun g=>absurd (.inl (ea.2 g)) h,fun g=>absurd (.inr (eb.2 g)) h⟩
 ·cases r with
  |inl x=>simp [aEr] at hi
  |inr x=>
   obtain ⟨w,v⟩:=x
   obtain ⟨_,k0,k1,k2,k3,k4⟩:v=true∧w.length≤2000∧OvM M w∧¬ bN (jW (nI a) w) (jW (nI b) w)∧decide (jW (nI a) w < 0∨jW (nI b) w < 0)=true∧∀ tr' s,w=tr'++[s]→¬ bN (jW (nI a) tr') (jW (nI b) tr')∧decide (jW (nI a) tr' < 0∨jW (nI b) tr' < 0)=false:=h2
   have hov:=(jn_ov hJ).1 k1
   have hvis:∀ s∈w,s≠cW:=fun s hs=>(hov s hs).2
   have ea:=aAM ha sa hvis
   have eb:=aAM hb sb hvis
   rw [decide_eq_true_iff] at k3
   exact ⟨hov,fun h=>k2 ⟨ea.2 h.1,eb.2 h.2⟩,k3.imp ea.1 eb.1⟩
theorem aNt (ha:cI a) (hb:cI b) (fa:fM 999999999 a) (fb:fM 999999999 b) (h:¬ (Small (eQ a)∧Small (eQ b))):rO a b=some (false,[],5):=by
 unfold rO
 rw [aLV a fa,aCN ha,aC,if_neg (by simp),aLV b fb,aCN hb,aC]
 unfold pN
 rw [if_neg (by simp)]
 unfold aGj aBe
 rw [aFW ha,aC,aFW hb,aC,aAq,aAq]
 by_cases h1:Small (eQ a)
 ·rw [decide_eq_true h1,if_pos rfl,aC]
  by_cases h2:Small (eQ b)
  ·exact absurd ⟨h1,h2⟩ h
  ·rw [decide_eq_false h2];rfl
 ·rw [decide_eq_false h1,if_neg (by simp),aC];rfl
theorem list_part (ha:cI a) (hb:cI b) (fa:fM 999999999 a) (fb:fM 999999999 b) (sb:Small (eQ b)) (hin:∀ tr,OvL a b tr→aft b tr≠[]→aft a tr≠[]) (w:List aU):
  mK (a,b) (true,w,0) false=some true:=by
 unfold mK
 rw [if_neg (by simp),if_pos rfl]
 obtain ⟨all,h1,h2,_,h4⟩:=aMA hb fb sb (n:=2) (by omega)
 show (ob (aAi b ((2:Nat):Int)) fun r114=>_)=some true
 rw [h4,aC]
 by_cases hl:200 < all.length
 ·rw [if_pos hl];rfl
 ·rw [if_neg hl,if_neg (by simp)]
  obtain ⟨r,e1,e2⟩:=eM (step:=fun s:Int=>kN (a,b) (all.map (·.trace),0) s) all.length (fun k (_:Unit)=>(k:Int)) (fun _ _=>True) (fun r=>r=.inl ()) (fun k _ hk _=>by
   refine ⟨(),?_,trivial⟩
   show kN (a,b) (all.map (·.trace),0) (k:Int)=_
   have hk':k < (all.map (·.trace)).length:=by simpa using hk
   have he:=h2 _ (List.getElem_mem hk)
   have hvis:∀ s∈all[k].trace,VisL s:=fun s hs=>aMz hb fb (he.lab s hs)
   have hov:OvL a b all[k].trace:=fun s hs=>⟨List.mem_append_right _ (List.mem_of_mem_tail (he.lab s hs)),(hvis s hs).2.1⟩
   have hne:aft b all[k].trace≠[]:=fun g=>by
    have:=(aAM hb sb fun s hs=>(hvis s hs).2.1).2 g
    have h5:=he.run
    have h6:=he.pos
    rw [←h5] at this
    omega
   have hlen:=he.len
   unfold kN
   rw [if_pos (dC hk'),cR hk',aC,List.getElem_map]
   show (ob (iO a all[k].trace) fun r178=>_)=_
   rw [aAN ha fa (by omega) hvis,if_neg (hin _ hov hne),aC,if_neg (by simp),cT hk (by omega)]) (fun _ _=>by
   refine ⟨_,?_,rfl⟩
   show kN (a,b) (all.map (·.trace),0) (all.length:Int)=_
   unfold kN
   rw [if_neg (by simp)]) all.length 0 () (by omega) trivial
  subst e2
  have e1':loop (fun s:Int=>kN (a,b) (all.map (·.trace),0) s) 0=some (.inl ()):=e1
  rw [e1',aC]
  show rQ (all.map (·.trace),0)=some true
  unfold rQ
  rw [decide_eq_true (p:=(0:Int) < ((all.map (·.trace)).length:Int)) (by rw [List.length_map];omega)]
theorem wit_part (ha:cI a) (hb:cI b) (fa:fM 999999999 a) (fb:fM 999999999 b) {w:List aU} (hov:OvL a b w) (hl:w.length≤2000) (h1:aft b w≠[]) (h2:aft a w=[]) (h3:∀ tr' s,w=tr'++[s]→aft a tr'≠[]):
  mK (a,b) (false,w,0) false=some true:=by
 have hne:w≠[]:=fun e=>by subst e;exact fstS_ne ha h2
 have hw:=List.dropLast_concat_getLast hne
 have hvis:=hov.vis ha hb fa fb
 have hl0:0 < w.length:=List.length_pos_iff.2 hne
 unfold mK
 rw [if_neg (by simp),if_neg (by simp),if_neg (by simp;omega)]
 show (ob (iO b w) fun r194=>ob (iO a w) fun r200=>ob (tU w 0 (wr ((w.length:Int) - 1))) fun r215=>ob (iO a r215) fun r221=>_)=some true
 have hslc:tU w 0 (wr ((w.length:Int) - 1))=some w.dropLast:=by
  rw [fN (by omega) (by omega)]
  unfold tU
  rw [if_pos ⟨by decide,by omega,by omega⟩,List.dropLast_eq_take]
  show some ((w.drop 0).take _)=_
  rw [List.drop_zero]
  congr 2
  simp only [Int.toNat_zero]
  omega
 rw [aAN hb fb (by omega) hvis,if_neg h1,aC,aAN ha fa (by omega) hvis,if_pos h2,aC,hslc,aC,aAN ha fa (by rw [List.length_dropLast];omega) (fun s hs=>hvis s (List.dropLast_subset _ hs)),if_neg (h3 _ _ hw.symm),aC]
 have hp:decide ((0:Int) < ((aft b w).length:Int))=true:=by
  have:=List.length_pos_iff.2 h1
  simp;omega
 show (if decide ((0:Int) < ((aft b w).length:Int))=true then some true else some false)=some true
 rw [if_pos hp]
theorem aNu (ha:cI a) (hb:cI b) (fa:fM 999999999 a) (fb:fM 999999999 b):
  (ob (fG a b) fun r48=>ob (fG b a) fun r57=>ob (mJ a b) fun r66=>
   if (r48.2.2 != 0) then (jE (a,b) r48 r57 r66 true) else (if (r57.2.2 != 0) then (jE (a,b) r48 r57 r66 true) else (jE (a,b) r48 r57 r66 (r66.2.2 != 0))))=some true:=by
 by_cases hs:Small (eQ a)∧Small (eQ b)
 ·obtain ⟨sa,sb⟩:=hs
  obtain ⟨i1,w1,e1,p1,q1⟩:=inc_ok ha hb fa fb sa sb
  obtain ⟨i2,w2,e2,p2,q2⟩:=inc_ok hb ha fb fa sb sa
  obtain ⟨i3,w3,e3,p3,q3⟩:=same_ok ha hb fa fb sa sb
  rw [e1,aC,e2,aC,e3,aC,if_neg (by simp),if_neg (by simp)]
  unfold jE
  rw [if_neg (by simp)]
  cases i1 with
  |true=>
   rw [if_pos rfl]
   have:i3=i2:=by
    cases i3 with
    |true=>
     cases i2 with
     |true=>rfl
     |false=>
      obtain ⟨g1,_,g2,g3,_⟩:=q2 rfl
      exact absurd ((p3 rfl w2 g1.symm).2 g3) g2
    |false=>
     cases i2 with
     |false=>rfl
     |true=>
      obtain ⟨g1,g2,g3⟩:=q3 rfl
      exfalso
      rcases g3 with g|g
      ·by_cases hb':aft b w3=[]
       ·exact g2 ⟨g,hb'⟩
       ·exact p1 rfl w3 g1 hb' g
      ·by_cases ha':aft a w3=[]
       ·exact g2 ⟨ha',g⟩
       ·exact p2 rfl w3 g1.symm ha' g
   rw [this,show (i2 != i2)=false by simp]
   exact list_part ha hb fa fb sb (p1 rfl) w1
  |false=>
   rw [if_neg (by simp)]
   obtain ⟨g1,g0,g2,g3,g4⟩:=q1 rfl
   have:i3=false:=by
    cases i3 with
    |false=>rfl
    |true=>exact absurd ((p3 rfl w1 g1).1 g3) g2
   rw [this]
   exact wit_part ha hb fa fb g1 g0 g2 g3 g4
 ·have e1:fG a b=some (false,[],5):=by unfold fG;rw [aLm ha hb fa fb,if_neg hs,aC]
  have e2:fG b a=some (false,[],5):=by unfold fG;rw [aLm hb ha fb fa,if_neg (fun h=>hs ⟨h.2,h.1⟩),aC]
  have e3:mJ a b=some (false,[],5):=by unfold mJ;rw [cmp_two ha hb fa fb,if_neg hs,aC]
  rw [e1,aC,e2,aC,e3,aC,if_pos (by decide)]
  unfold jE
  rw [if_pos rfl]
  show (ob (rO a b) fun r89=>_)=some true
  rw [aNt ha hb fa fb hs,aC]
  rfl
end
end Gv
namespace Gv
open Go
def StW (b:cG) (kind y:Int) (s:aU) (w:Int):Prop:=if kind=2 then Wk b y s w else ∃ f∈b.E,f.F=y∧txt b f=s∧f.To=w
section
variable {a b:cG} {kind:Int}
theorem StW.inn (hb:cI b) {y:Int} (hy:inT b y) {s:aU} {w:Int} (h:StW b kind y s w):inT b w:=by
 unfold StW at h
 split at h
 ·exact h.inn hb hy
 ·obtain ⟨f,hf,_,_,rfl⟩:=h
  exact (aEX hb hf).2.1
end
end Gv
namespace Gv
open Go
section
variable {a b:cG} {kind:Int}
end
end Gv
namespace Gv
open Go
section
variable {a b:cG} {kind:Int}
end
end Gv
namespace Gv
open Go
section
variable {a b:cG} {kind:Int}
instance inT_dec (t:cG) (k:Int):Decidable (inT t k):=by unfold inT;infer_instance
end
end Gv
namespace Gv
open Go
section
variable {a b:cG} {kind:Int}
end
end Gv
namespace Gv
open Go
def unA (a b:cG) (M:List aU):List Edge:=(a.E.map fun e=>(⟨e.F,pos (cW::M) (txt a e),e.To⟩:Edge))++b.E.map fun e=>(⟨e.F+a.N,pos (cW::M) (txt b e),e.To+a.N⟩:Edge)
structure Uni (a b:cG) (M:List aU) (Eo:List Edge):Prop where
 str:mB M
 mem:∀ s,s∈M↔s∈a.L++b.L∧s≠cW
 len:M.length≤24
 se:SE Eo
 ed:∀ x,x∈Eo↔x∈unA a b M
 elen:Eo.length≤600
section
variable {a b:cG}
end
end Gv
namespace Gv
open Go
structure Big (u:cG):Prop where
 st:1≤u.N∧u.N≤100
 lab:u.L.length≤100
 ed:u.E.length≤1000
 inn:∀ e∈u.E,inT u e.F∧inT u e.To∧0≤e.B∧e.B < u.L.length
def jV (u:cG) (p:List Int):Prop:=p.length=u.N.toNat∧∀ z∈p,0≤z∧z < u.N
section
variable {u:cG} {p:List Int}
theorem aBk (hp:jV u p) {s:Int} (h:inT u s):ix p s=some (p.getD s.toNat 0)∧0≤p.getD s.toNat 0∧p.getD s.toNat 0 < u.N:=by
 unfold inT at h
 have hl:s.toNat < p.length:=by rw [hp.1];omega
 have e:p.getD s.toNat 0=p[s.toNat]:=by rw [List.getD_eq_getElem?_getD,List.getElem?_eq_getElem hl];rfl
 rw [e]
 exact ⟨aFt h.1 hl,hp.2 _ (List.getElem_mem hl)⟩
theorem part_cn (hu:Big u) {κ:Type} [DecidableEq κ] [BEq κ] [LawfulBEq κ] {l:List κ} (h:l.length=u.N.toNat):jV u (cn l):=by
 have:=hu.st
 refine ⟨by rw [aEj,h],fun z hz=>?_⟩
 have:=cn_in hz
 omega
end
end Gv
namespace Gv
open Go
section
variable {a b:cG}
theorem pos_rng {γ:Type} [BEq γ] [LawfulBEq γ] {xs:List γ} {x:γ} (hx:x∈xs):0≤pos xs x∧pos xs x < xs.length:=by
 obtain ⟨i,e,g⟩:=aHX hx
 have:=(List.getElem?_eq_some_iff.1 g).1
 omega
end
end Gv
namespace Gv
open Go
theorem anU_le (x:Int):0≤anU x 255∧anU x 255≤255:=by
 unfold anU
 have h:(BitVec.ofInt 64 x&&& BitVec.ofInt 64 255).toNat≤255:=by
  rw [BitVec.toNat_and]
  exact Nat.le_trans Nat.and_le_right (by decide)
 unfold pR
 omega
theorem shU_ok (x:Int):∃ y,shU x 40=some y:=⟨_,by unfold shU;rw [if_pos (by decide)]⟩
theorem byte_le (b:UInt8):0≤(b.toNat:Int)∧(b.toNat:Int)≤255:=by
 have:=b.toNat_lt
 omega
theorem next_ok (c:aU) {s1:Int} (s2:Int) (h:0≤s1∧s1≤1000000000000):∃ v s2',rG c s1 s2=some (v,s1+1,s2')∧0≤v∧v≤255:=by
 have hw:wr (s1+1)=s1+1:=fN (by omega) (by omega)
 have key:∀ b:Int,0≤b∧b≤255→∃ v s2',mO c s1 s2 b=some (v,s1+1,s2')∧0≤v∧v≤255:=by
  intro b hb
  unfold mO
  rw [hw]
  split
  ·exact ⟨_,_,rfl,hb⟩
  ·obtain ⟨y,hy⟩:=shU_ok (pR ((pR ((pR (s2 * 6364136223846793005))+(pR b)))+1442695040888963407))
   rw [hy,aC]
   have h2:=anU_le y
   refine ⟨_,_,rfl,?_⟩
   rw [fN (by omega) (by omega)];exact h2
 unfold rG
 split
 ·rename_i hlt
  have hlt':s1 < (c.length:Int):=by simpa using hlt
  rw [aFt h.1 (by omega),aC]
  have hb:=byte_le (c[s1.toNat]'(by omega))
  rw [fN (by omega) (by omega)]
  exact key _ hb
 ·exact key 0 (by omega)
theorem rm_ok {x n:Int} (hx:0≤x) (hn:1≤n):∃ v,rm x n=some v∧0≤v∧v < n:=by
 unfold rm
 rw [if_neg (by omega)]
 have e:x.tmod n=x % n:=Int.tmod_eq_emod_of_nonneg hx
 have h1:=Int.emod_nonneg x (show n≠0 by omega)
 have h2:=Int.emod_lt_of_pos x (show 0 < n by omega)
 first
  |exact ⟨_,rfl,by rw [e];exact h1,by rw [e];exact h2⟩
  |exact ⟨_,rfl,by rw [e,fN]<;>omega,by rw [e,fN]<;>omega⟩
theorem nF (c:aU) {s1 n:Int} (s2:Int) (h:0≤s1∧s1≤100000000000) (hn:1≤n):∃ v s1' s2',dK c s1 s2 n=some (v,s1',s2')∧(0≤v∧v < n)∧s1≤s1'∧s1'≤s1+2:=by
 unfold dK
 by_cases h1:n≤1
 ·rw [if_pos (by simpa using h1)]
  exact ⟨_,_,_,rfl,by omega,by omega,by omega⟩
 ·rw [if_neg (by simpa using h1)]
  obtain ⟨v,t2,e,g1,g2⟩:=next_ok c s2 (s1:=s1) (by omega)
  rw [e,aC]
  simp only
  have key:∀ x a b:Int,0≤x→s1≤a→a≤s1+2→∃ v s1' s2',mP n x a b=some (v,s1',s2')∧(0≤v∧v < n)∧s1≤s1'∧s1'≤s1+2:=by
   intro x a b hx ha hb
   unfold mP
   obtain ⟨y,hy,q1,q2⟩:=rm_ok hx (show 1≤n by omega)
   rw [hy,aC]
   exact ⟨_,_,_,rfl,⟨q1,q2⟩,ha,hb⟩
  by_cases h2:200 < n
  ·rw [if_pos (by simpa using h2)]
   obtain ⟨v',t2',e',g1',g2'⟩:=next_ok c t2 (s1:=s1+1) (by omega)
   rw [e',aC]
   simp only
   rw [fN (x:=v * 256) (by omega) (by omega),fN (by omega) (by omega)]
   exact key _ _ _ (by omega) (by omega) (by omega)
  ·rw [if_neg (by simpa using h2)]
   exact key _ _ _ g1 (by omega) (by omega)
theorem one_ok (c:aU) {s1 n:Int} (s2:Int) (h:0≤s1∧s1≤100000000000) (hn:1≤n):∃ b s1' s2',qI c s1 s2 n=some (b,s1',s2')∧s1≤s1'∧s1'≤s1+2:=by
 obtain ⟨v,a,b,e,_,h2,h3⟩:=nF c s2 h hn
 unfold qI
 rw [e,aC]
 exact ⟨_,_,_,rfl,h2,h3⟩
theorem among_ok (c:aU) {s1:Int} (s2:Int) (h:0≤s1∧s1≤100000000000) {l:List Int} (hl:l≠[]):∃ v s1' s2',sT c s1 s2 l=some (v,s1',s2')∧v∈l∧s1≤s1'∧s1'≤s1+2:=by
 have h1:1≤(l.length:Int):=by
  have:=List.length_pos_iff.2 hl
  omega
 obtain ⟨v,a,b,e,hv,h2,h3⟩:=nF c s2 h h1
 unfold sT
 rw [e,aC]
 simp only
 rw [aFt hv.1 (by omega),aC]
 exact ⟨_,_,_,rfl,List.getElem_mem _,h2,h3⟩
end Gv
namespace Gv
open Go
def Nm:List aU:=[cW,[97],[98],[99],[103,101,116,40,48,41],[103,101,116,40,49,41]]
theorem Nm_lab:∀ s∈Nm,oN s=true:=by decide
theorem Nm_len:∀ s∈Nm,s.length≤6:=by decide
structure Drn (c:Nat) (t:cG):Prop where
 ok:cI t
 nm:∀ s∈t.L,s∈Nm
 st:t.N≤10
 ed:t.E.length≤c
theorem Drn.fits {c:Nat} {t:cG} (h:Drn c t):fM 999999999 t:=by
 have h1:=h.ok.2.2.1.2.1
 have h2:=h.ok.2.2.2.1
 refine ⟨by omega,fun s hs=>?_,by omega⟩
 have:=Nm_len s (h.nm s hs)
 omega
theorem Drn.mono {c d:Nat} {t:cG} (h:Drn c t) (hc:c≤d):Drn d t:=⟨h.ok,h.nm,h.st,Nat.le_trans h.ed hc⟩
theorem srtE_SE (l:List Edge):SE (iS (zQ cS l)):=by
 have h1:(zQ cS l).Pairwise fun a b=>cS b a=false:=by
  have:=List.pairwise_mergeSort (le:=fun a b=>!cS b a) (fun a b c h1 h2=>?_) (fun a b=>?_) l
  ·refine this.imp fun {a b} h=>?_
   simpa using h
  ·simp only [Bool.not_eq_true'] at h1 h2 ⊢
   cases h3:cS c a with
   |false=>rfl
   |true=>
    have:=aFm h3 h1
    rw [h2] at this;cases this
  ·cases h3:cS b a with
   |false=>simp
   |true=>simp [aFS h3]
 exact aCF (R:=fun a b=>cS b a=false) (S:=fun a b=>cS a b=true) (fun h hne=>aHh h hne) (fun h h'=>aFm h h') h1
theorem aMC (l:List Edge):(iS (zQ cS l)).length≤l.length:=by
 have:=aHi (zQ cS l)
 unfold zQ at this ⊢
 rwa [List.length_mergeSort] at this
theorem aMD {l:List Edge} {x:Edge}:x∈iS (zQ cS l)↔x∈l:=by
 rw [aCa];unfold zQ;rw [List.mem_mergeSort]
theorem labs_nm {M:List aU} (hM:mB M) (hn:∀ s∈M,s∈Nm):pQ (cW::M):=by
 have hnd:M.Nodup:=hM.1.imp fun {a b} h e=>by subst e;rw [oL] at h;cases h
 have hl:M.length≤5:=by
  have:=List.Nodup.length_le_of_subset (l₁:=cW::M) (l₂:=Nm) (List.nodup_cons.2 ⟨hM.2,hnd⟩) (fun x hx=>by
   rcases List.mem_cons.1 hx with rfl|hx
   ·simp [Nm]
   ·exact hn x hx)
  have h6:Nm.length=6:=rfl
  rw [List.length_cons] at this
  omega
 refine ⟨by simp,by simp;omega,fun _=>rfl,fun k h1 hk=>?_⟩
 obtain ⟨k,rfl⟩:∃ j,k=j+1:=⟨k - 1,by omega⟩
 have hk':k < M.length:=by simpa using hk
 have hm:M[k]∈M:=List.getElem_mem hk'
 rw [List.getElem_cons_succ]
 refine ⟨Nm_lab _ (hn _ hm),fun e=>hM.2 (e ▸ hm),fun h2=>?_⟩
 obtain ⟨k,rfl⟩:∃ j,k=j+1:=⟨k - 1,by omega⟩
 have:=List.pairwise_iff_getElem.1 hM.1 k (k+1) (by omega) hk' (by omega)
 simpa using this
theorem aLn {T:List aU} (hT:∀ s∈T,s∈Nm) (hTl:T.length≤100) {st ini:Int} (h1:1≤st∧st≤10) (h2:0≤ini∧ini < st) {edges:List Edge} (hl:edges.length≤300)
  (he:∀ e∈edges,(0≤e.F∧e.F < st)∧(0≤e.To∧e.To < st)∧0≤e.B∧e.B < T.length):∃ t,oT st ini T edges=some t∧Drn edges.length t∧t.N=st∧t.I=ini:=by
 obtain ⟨M,_,j2,j3,j4⟩:=aJs T (by omega)
 have hM:∀ s∈M,s∈Nm:=fun s hs=>hT s ((j3 s).1 hs).1
 refine ⟨⟨st,ini,cW::M,iS (zQ cS (edges.map fun e=>(⟨e.F,pos (cW::M) (T.getD e.B.toNat []),e.To⟩:Edge)))⟩,make_gen (by omega) j2 j3 (by omega) (fun e h=>(he e h).2.2) (srtE_SE _) (fun x=>?_) st ini,⟨⟨by show 1≤st∧st≤40;omega,by show 0≤ini∧ini≤st - 1;omega,labs_nm j2 hM,aGz ?_ (srtE_SE _) fun x hx=>?_⟩,fun s hs=>?_,by show st≤10;omega,?_⟩,rfl,rfl⟩
 ·rw [aMD,List.mem_map]
  exact ⟨fun ⟨e,h,g⟩=>⟨e,h,g.symm⟩,fun ⟨e,h,g⟩=>⟨e,h,g.symm⟩⟩
 ·have:=aMC (edges.map fun e=>(⟨e.F,pos (cW::M) (T.getD e.B.toNat []),e.To⟩:Edge))
  rw [List.length_map] at this
  exact Nat.le_trans this hl
 ·obtain ⟨e,h,rfl⟩:=List.mem_map.1 (aMD.1 hx)
  obtain ⟨g1,g2,g3,g4⟩:=he e h
  have hin:T.getD e.B.toNat []∈cW::M:=by
   have hmem:T.getD e.B.toNat []∈T:=by
    rw [List.getD_eq_getElem?_getD,List.getElem?_eq_getElem (by omega)]
    exact List.getElem_mem _
   by_cases ht:T.getD e.B.toNat []=cW
   ·rw [ht];simp
   ·exact List.mem_cons_of_mem _ ((j3 _).2 ⟨hmem,ht⟩)
  have:=pos_rng hin
  show (0≤e.F∧e.F≤st - 1)∧(0≤e.To∧e.To≤st - 1)∧0≤pos (cW::M) (T.getD e.B.toNat [])∧pos (cW::M) (T.getD e.B.toNat [])≤((cW::M).length:Int) - 1
  omega
 ·rcases List.mem_cons.1 hs with rfl|hs
  ·simp [Nm]
  ·exact hM s hs
 ·have:=aMC (edges.map fun e=>(⟨e.F,pos (cW::M) (T.getD e.B.toNat []),e.To⟩:Edge))
  rw [List.length_map] at this
  exact this
theorem names_ok (c:aU) {s1:Int} (s2:Int) (h:0≤s1∧s1≤10000000000):∃ L s1' s2',sS c s1 s2=some (L,s1',s2')∧((∀ s∈L,s∈Nm)∧1≤L.length∧L.length≤7)∧s1≤s1'∧s1'≤s1+10:=by
 have key:=eM (step:=fun s:Int × Int × List aU × Int=>jL c s.1 s.2.1 s.2.2.1 s.2.2.2) 5 (fun k (a:Int × Int × List aU)=>(a.1,a.2.1,a.2.2,(k:Int))) (fun k a=>(∀ s∈a.2.2,s∈Nm)∧1≤a.2.2.length∧a.2.2.length≤1+k∧s1≤a.1∧a.1≤s1+2 * k)
  (fun r=>(∀ s∈r.1,s∈Nm)∧1≤r.1.length∧r.1.length≤6∧s1≤r.2.1∧r.2.1≤s1+10) (fun k a hk hI=>?_) (fun a hI=>?_) 5 0 (s1,s2,[cW]) (by omega) ⟨by simp [Nm],by simp,by simp,by simp,by simp⟩
 ·obtain ⟨r,h1,g1,g2,g3,g4,g5⟩:=key
  unfold sS
  have h1':loop (fun s:Int × Int × List aU × Int=>jL c s.1 s.2.1 s.2.2.1 s.2.2.2) (s1,s2,[cW],0)=some r:=h1
  rw [show ([([116,97,117]:aU)]:List aU)=[cW] from rfl,h1',aC]
  unfold nY nX
  split
  ·rw [dR (by simp [iU];omega),aC]
   refine ⟨_,_,_,rfl,⟨fun s hs=>?_,by simp,by simp;omega⟩,g4,g5⟩
   rcases List.mem_append.1 hs with hs|hs
   ·exact g1 s hs
   ·simp at hs;subst hs;simp [Nm]
  ·exact ⟨_,_,_,rfl,⟨g1,g2,by omega⟩,g4,g5⟩
 ·obtain ⟨x,y,o⟩:=a
  obtain ⟨g1,g2,g3,g4,g5⟩:=hI
  simp only at g1 g2 g3 g4 g5 ⊢
  obtain ⟨b,t1,t2,e,h3,h4⟩:=one_ok c y (s1:=x) (n:=2) (by omega) (by omega)
  have hw:wr ((k:Int)+1)=((k+1:Nat):Int):=cT hk (by omega)
  unfold jL
  rw [if_pos (by simp;omega),e,aC]
  have hno:jK (k:Int) t1 t2 o=some (.inl (t1,t2,o,((k+1:Nat):Int))):=by unfold jK;rw [hw]
  have key:∀ v:Bool,∃ a':Int × Int × List aU,lA o (k:Int) t1 t2 v=some (.inl (a'.1,a'.2.1,a'.2.2,((k+1:Nat):Int)))∧(∀ s∈a'.2.2,s∈Nm)∧1≤a'.2.2.length∧a'.2.2.length≤1+(k+1)∧s1≤a'.1∧a'.1≤s1+2 * ((k+1:Nat):Int):=by
   intro v
   unfold lA
   cases v with
   |false=>
    rw [if_neg (by simp),hno]
    exact ⟨(t1,t2,o),rfl,g1,g2,by simp only;omega,by simp only;omega,by simp only;omega⟩
   |true=>
    have hkl:k < ([([97]:aU),([98]:aU),([99]:aU),([103,101,116,40,48,41]:aU),([103,101,116,40,49,41]:aU)]:List aU).length:=hk
    rw [if_pos rfl,cR hkl,aC,dR (by simp [iU];omega),aC]
    unfold jK
    rw [hw]
    refine ⟨(t1,t2,_),rfl,fun s hs=>?_,by simp,by simp;omega,by simp only;omega,by simp only;omega⟩
    rcases List.mem_append.1 hs with hs|hs
    ·exact g1 s hs
    ·rw [List.mem_singleton] at hs
     have:s∈([([97]:aU),([98]:aU),([99]:aU),([103,101,116,40,48,41]:aU),([103,101,116,40,49,41]:aU)]:List aU):=hs ▸ List.getElem_mem hkl
     exact List.mem_cons_of_mem _ this
  split
  ·exact key _
  ·exact key _
 ·obtain ⟨x,y,o⟩:=a
  obtain ⟨g1,g2,g3,g4,g5⟩:=hI
  simp only at g1 g2 g3 g4 g5 ⊢
  refine ⟨(o,x,y),?_,g1,g2,by simp only;omega,g4,by simp only;omega⟩
  unfold jL
  rw [if_neg (by simp)]
end Gv
namespace Gv
open Go
def vW (st:Int) (n:Nat) (e:Edge):Prop:=(0≤e.F∧e.F < st)∧(0≤e.To∧e.To < st)∧0≤e.B∧e.B < n
section
variable {c:aU} {r9 r14:Int × Int × Int} {base st:Int}
def aJD (K:List Int) (base st:Int):Prop:=(K.length:Int)=st∧∀ i,(hi:i < K.length)→(0≤K[i]∧K[i] < base)∧((i:Int) < base→K[i]=(i:Int))
theorem kinds_ok (hb:1≤base∧base≤4) (hs:base≤st∧st≤6) (e1:wr (1+r9.1)=base) (e2:wr (base+r14.1)=st) {s1:Int} (s2:Int) (h:0≤s1∧s1≤10000000000):
  ∃ a b K,loop (fun s:Int × Int × List Int × Int=>lK c r9 r14 s.1 s.2.1 s.2.2.1 s.2.2.2) (s1,s2,([]:List Int),0)=some (a,b,K)∧aJD K base st∧s1≤a∧a≤s1+12:=by
 have key:=eM (step:=fun s:Int × Int × List Int × Int=>lK c r9 r14 s.1 s.2.1 s.2.2.1 s.2.2.2) st.toNat (fun k (a:Int × Int × List Int)=>(a.1,a.2.1,a.2.2,(k:Int))) (fun k a=>(a.2.2.length=k∧∀ i,(hi:i < a.2.2.length)→(0≤a.2.2[i]∧a.2.2[i] < base)∧((i:Int) < base→a.2.2[i]=(i:Int)))∧s1≤a.1∧a.1≤s1+2 * k)
  (fun r=>aJD r.2.2 base st∧s1≤r.1∧r.1≤s1+12) (fun k a hk hI=>?_) (fun a hI=>?_) st.toNat 0 (s1,s2,[]) (by omega) ⟨⟨rfl,fun i hi=>by simp at hi⟩,by simp,by simp⟩
 ·obtain ⟨⟨a,b,K⟩,h1,g1,g2,g3⟩:=key
  exact ⟨a,b,K,h1,g1,g2,g3⟩
 ·obtain ⟨x,y,o⟩:=a
  obtain ⟨⟨g1,g2⟩,g3,g4⟩:=hI
  simp only at g1 g2 g3 g4 ⊢
  have hw:wr ((k:Int)+1)=((k+1:Nat):Int):=cT hk (by omega)
  have hadd:∀ v:Int,(0≤v∧v < base)→((k:Int) < base→v=(k:Int))→(o++[v]).length=k+1∧∀ i,(hi:i < (o++[v]).length)→(0≤(o++[v])[i]∧(o++[v])[i] < base)∧((i:Int) < base→(o++[v])[i]=(i:Int)):=by
   intro v h1 h2
   refine ⟨by simp;exact g1,fun i hi=>?_⟩
   by_cases hl:i < o.length
   ·rw [List.getElem_append_left hl];exact g2 i hl
   ·have:i=o.length:=by simp at hi;omega
    subst this
    rw [List.getElem_append_right (Nat.le_refl _)]
    simp only [Nat.sub_self,List.getElem_cons_zero]
    exact ⟨h1,fun h=>by rw [g1] at h ⊢;exact h2 h⟩
  unfold lK
  rw [e1,e2,if_pos (by simp;omega)]
  by_cases hkb:(k:Int) < base
  ·rw [if_pos (by simpa using hkb),dR (by simp [iU];omega),aC]
   unfold nM
   rw [hw]
   exact ⟨(x,y,o++[(k:Int)]),rfl,hadd _ (by omega) (fun _=>rfl),by simp only;omega,by simp only;omega⟩
  ·rw [if_neg (by simpa using hkb)]
   obtain ⟨v,t1,t2,e,q1,q2,q3⟩:=nF c y (s1:=x) (n:=base) (by omega) (by omega)
   rw [e,aC,dR (by simp [iU];omega),aC]
   unfold nM
   rw [hw]
   exact ⟨(t1,t2,o++[v]),rfl,hadd _ q1 (fun h=>absurd h hkb),by simp only;omega,by simp only;omega⟩
 ·obtain ⟨x,y,o⟩:=a
  obtain ⟨⟨g1,g2⟩,g3,g4⟩:=hI
  simp only at g1 g2 g3 g4 ⊢
  refine ⟨(x,y,o),?_,⟨by simp only;omega,g2⟩,g3,by simp only;omega⟩
  unfold lK
  rw [e1,e2,if_neg (by simp;omega)]
theorem alike_ok {r219:Int × Int × Int} {K:List Int} (hb:1≤base∧base≤4) (hs:base≤st∧st≤6) (e1:wr (1+r9.1)=base) (e2:wr (base+r14.1)=st) (hK:aJD K base st) (hto:0≤r219.1∧r219.1 < base):
  ∃ l,loop (fun s:List Int × Int=>jM r9 r14 K r219 s.1 s.2) (([]:List Int),0)=some l∧l≠[]∧∀ z∈l,0≤z∧z < st:=by
 have hKl:=hK.1
 have key:=eM (step:=fun s:List Int × Int=>jM r9 r14 K r219 s.1 s.2) st.toNat (fun k (a:List Int)=>(a,(k:Int))) (fun k a=>a.length≤k∧(r219.1 < k→r219.1∈a)∧∀ z∈a,0≤z∧z < st) (fun r=>r≠[]∧∀ z∈r,0≤z∧z < st) (fun k a hk hI=>?_) (fun a hI=>?_) st.toNat 0 [] (by omega) ⟨by simp,fun h=>by omega,by simp⟩
 ·obtain ⟨l,h1,h2⟩:=key
  exact ⟨l,h1,h2⟩
 ·obtain ⟨g1,g2,g3⟩:=hI
  have hkl:k < K.length:=by omega
  have hw:wr ((k:Int)+1)=((k+1:Nat):Int):=cT hk (by omega)
  show ∃ a',jM r9 r14 K r219 a (k:Int)=_∧_
  unfold jM sY
  rw [e1,e2,if_pos (by simp;omega),cR hkl,aC,hw]
  by_cases he:K[k]=r219.1
  ·rw [if_pos (by simpa using he),dR (by simp [iU];omega),aC]
   refine ⟨_,rfl,by simp;omega,fun h=>?_,fun z hz=>?_⟩
   ·by_cases hlt:r219.1 < k
    ·exact List.mem_append_left _ (g2 hlt)
    ·exact List.mem_append_right _ (by simp;omega)
   ·rcases List.mem_append.1 hz with hz|hz
    ·exact g3 z hz
    ·simp at hz;omega
  ·rw [if_neg (by simpa using he)]
   refine ⟨_,rfl,by omega,fun h=>g2 ?_,g3⟩
   have:=(hK.2 k hkl).2
   by_cases hlt:r219.1 < k
   ·exact hlt
   ·exfalso
    have e:r219.1=(k:Int):=by omega
    exact he (by rw [e];exact this (by omega))
 ·obtain ⟨g1,g2,g3⟩:=hI
  refine ⟨a,?_,fun h=>?_,g3⟩
  ·show jM r9 r14 K r219 a ((st.toNat:Nat):Int)=_
   unfold jM
   rw [e1,e2,if_neg (by simp;omega)]
  ·have:=g2 (by omega)
   rw [h] at this;cases this
theorem edges_row {r209 r214 r219:Int × Int × Int} {K:List Int} {nl:Nat} (hb:1≤base∧base≤4) (hs:base≤st∧st≤6) (e1:wr (1+r9.1)=base) (e2:wr (base+r14.1)=st) (hK:aJD K base st) (hto:0≤r219.1∧r219.1 < base) (hlab:0≤r214.1∧r214.1 < nl)
  {s1:Int} (s2:Int) (h:0≤s1∧s1≤10000000000) {ed:List Edge} (hed:∀ e∈ed,vW st nl e) (hel:ed.length≤1000):
  ∃ a b ed',loop (fun s:Int × Int × List Edge × Int=>mV c r9 r14 K r209 r214 r219 s.1 s.2.1 s.2.2.1 s.2.2.2) (s1,s2,ed,0)=some (a,b,ed')∧(∀ e∈ed',vW st nl e)∧ed'.length≤ed.length+6∧s1≤a∧a≤s1+12:=by
 have hKl:K.length=st.toNat:=by have:=hK.1;omega
 have hst9:st.toNat < 4611686018427387904:=by omega
 obtain ⟨al,ha1,ha2,ha3⟩:=alike_ok (r9:=r9) (r14:=r14) (r219:=r219) hb hs e1 e2 hK hto
 have key:=eM (step:=fun s:Int × Int × List Edge × Int=>mV c r9 r14 K r209 r214 r219 s.1 s.2.1 s.2.2.1 s.2.2.2) st.toNat (fun k (a:Int × Int × List Edge)=>(a.1,a.2.1,a.2.2,(k:Int))) (fun k a=>(∀ e∈a.2.2,vW st nl e)∧a.2.2.length≤ed.length+k∧s1≤a.1∧a.1≤s1+2 * k)
  (fun r=>(∀ e∈r.2.2,vW st nl e)∧r.2.2.length≤ed.length+6∧s1≤r.1∧r.1≤s1+12) (fun k a hk hI=>?_) (fun a hI=>?_) st.toNat 0 (s1,s2,ed) (by omega) ⟨hed,by simp,by simp,by simp⟩
 ·obtain ⟨⟨a,b,K⟩,h1,g1,g2,g3⟩:=key
  exact ⟨a,b,K,h1,g1,g2,g3⟩
 ·obtain ⟨x,y,o⟩:=a
  obtain ⟨g1,g2,g3,g4⟩:=hI
  simp only at g1 g2 g3 g4 ⊢
  have hkl:k < K.length:=by rw [hKl];exact hk
  unfold mV
  rw [e1,e2,if_pos (by simp;omega),cR hkl,aC]
  unfold sX sW
  rw [cT hk (show st.toNat < 4611686018427387904 from hst9)]
  by_cases he:K[k]=r209.1
  ·rw [if_neg (by simp [he]),ha1,aC]
   obtain ⟨v,t1,t2,e,q1,q2,q3⟩:=among_ok c y (s1:=x) (by omega) ha2
   rw [e,aC,dR (by simp [iU];omega),aC]
   have hv:=ha3 v q1
   refine ⟨(t1,t2,_),rfl,fun e he=>?_,by simp;omega,by simp only;omega,by simp only;omega⟩
   rcases List.mem_append.1 he with he|he
   ·exact g1 e he
   ·rw [List.mem_singleton] at he
    subst he
    exact ⟨by simp only;omega,by simp only;omega,hlab⟩
  ·rw [if_pos (by simpa using he)]
   exact ⟨(x,y,o),rfl,g1,by simp only;omega,by simp only;omega,by simp only;omega⟩
 ·obtain ⟨x,y,o⟩:=a
  obtain ⟨g1,g2,g3,g4⟩:=hI
  simp only at g1 g2 g3 g4 ⊢
  refine ⟨(x,y,o),?_,g1,by simp only;omega,g3,by simp only;omega⟩
  unfold mV
  rw [e1,e2,if_neg (by simp;omega)]
theorem edges_all {r19:List aU × Int × Int} {K:List Int} (hb:1≤base∧base≤4) (hs:base≤st∧st≤6) (e1:wr (1+r9.1)=base) (e2:wr (base+r14.1)=st) (hK:aJD K base st) (hL:1≤r19.1.length∧r19.1.length≤7) {s1 m:Int} (s2:Int) (h:0≤s1∧s1≤1000000000) (hm:0≤m∧m≤9):
  ∃ a b ed,loop (fun s:Int × Int × List Edge × Int=>lJ c r9 r14 r19 K s.1 s.2.1 s.2.2.1 s.2.2.2) (s1,s2,([]:List Edge),m)=some (a,b,ed)∧(∀ e∈ed,vW st r19.1.length e)∧ed.length≤54∧s1≤a∧a≤s1+200:=by
 have key:=eM (step:=fun s:Int × Int × List Edge × Int=>lJ c r9 r14 r19 K s.1 s.2.1 s.2.2.1 s.2.2.2) m.toNat (fun k (a:Int × Int × List Edge)=>(a.1,a.2.1,a.2.2,m - (k:Int))) (fun k a=>(∀ e∈a.2.2,vW st r19.1.length e)∧a.2.2.length≤6 * k∧s1≤a.1∧a.1≤s1+18 * k)
  (fun r=>(∀ e∈r.2.2,vW st r19.1.length e)∧r.2.2.length≤54∧s1≤r.1∧r.1≤s1+200) (fun k a hk hI=>?_) (fun a hI=>?_) m.toNat 0 (s1,s2,[]) (by omega) ⟨by simp,by simp,by simp,by simp⟩
 ·obtain ⟨⟨a,b,K⟩,h1,g1,g2,g3⟩:=key
  exact ⟨a,b,K,by simpa using h1,g1,g2,g3⟩
 ·obtain ⟨x,y,o⟩:=a
  obtain ⟨g1,g2,g3,g4⟩:=hI
  simp only at g1 g2 g3 g4 ⊢
  obtain ⟨v,t1,t2,q,q1,q2,q3⟩:=nF c y (s1:=x) (n:=base) (by omega) (by omega)
  obtain ⟨v',t1',t2',q',q1',q2',q3'⟩:=nF c t2 (s1:=t1) (n:=(r19.1.length:Int)) (by omega) (by omega)
  obtain ⟨v'',t1'',t2'',q'',q1'',q2'',q3''⟩:=nF c t2' (s1:=t1') (n:=base) (by omega) (by omega)
  obtain ⟨a,b,ed',p1,p2,p3,p4,p5⟩:=edges_row (c:=c) (r9:=r9) (r14:=r14) (r209:=(v,t1,t2)) (r214:=(v',t1',t2')) (r219:=(v'',t1'',t2'')) (nl:=r19.1.length) hb hs e1 e2 hK q1'' q1' t2'' (s1:=t1'') (by omega) g1 (by omega)
  unfold lJ
  rw [if_pos (by simp;omega),e1,q,aC,q',aC,q'',aC,p1,aC]
  unfold sV yN
  have hw:wr (m - (k:Int) - 1)=m - ((k+1:Nat):Int):=by rw [fN (by omega) (by omega)];omega
  rw [hw]
  exact ⟨(a,b,ed'),rfl,p2,by simp only;omega,by simp only;omega,by simp only;omega⟩
 ·obtain ⟨x,y,o⟩:=a
  obtain ⟨g1,g2,g3,g4⟩:=hI
  simp only at g1 g2 g3 g4 ⊢
  refine ⟨(x,y,o),?_,g1,by simp only;omega,g3,by simp only;omega⟩
  unfold lJ
  rw [if_neg (by simp;omega)]
end
theorem drawOk_ok (c:aU) {s1:Int} (s2:Int) (h:0≤s1∧s1≤100000000):∃ t s1' s2',aBc c s1 s2=some (t,s1',s2')∧(Drn 55 t∧t.N≤6)∧s1≤s1'∧s1'≤s1+300:=by
 obtain ⟨v9,a9,b9,x9,y9,z9,w9⟩:=nF c s2 (s1:=s1) (n:=4) (by omega) (by omega)
 have e1:wr (1+v9)=1+v9:=fN (by omega) (by omega)
 have e1':wr (7 - (1+v9))=7 - (1+v9):=fN (by omega) (by omega)
 obtain ⟨v14,a14,b14,x14,y14,z14,w14⟩:=nF c b9 (s1:=a9) (n:=7 - (1+v9)) (by omega) (by omega)
 have e2:wr (1+v9+v14)=1+v9+v14:=fN (by omega) (by omega)
 obtain ⟨L,a19,b19,x19,⟨y19,y19',y19''⟩,z19,w19⟩:=names_ok c b14 (s1:=a14) (by omega)
 have hb:1≤1+v9∧1+v9≤4:=by omega
 have hs:1+v9≤1+v9+v14∧1+v9+v14≤6:=by omega
 obtain ⟨ak,bk,K,xk,yk,zk,wk⟩:=kinds_ok (c:=c) (r9:=(v9,a9,b9)) (r14:=(v14,a14,b14)) hb hs e1 e2 b19 (s1:=a19) (by omega)
 have e3:wr (2+wr (2 * (1+v9)))=2+2 * (1+v9):=by rw [fN (x:=2 * (1+v9)) (by omega) (by omega),fN (by omega) (by omega)]
 obtain ⟨vm,am,bm,xm,ym,zm,wm⟩:=nF c bk (s1:=ak) (n:=2+2 * (1+v9)) (by omega) (by omega)
 obtain ⟨ae,be,ed,xe,ye,ye',ze,we⟩:=edges_all (c:=c) (r9:=(v9,a9,b9)) (r14:=(v14,a14,b14)) (r19:=(L,a19,b19)) hb hs e1 e2 yk ⟨y19',y19''⟩ bm (s1:=am) (m:=vm) (by omega) (by omega)
 have hfin:∀ (s t:Int) (E:List Edge),(∀ e∈E,vW (1+v9+v14) L.length e)→E.length≤55→ae≤s→s≤ae+8→∃ t' s1' s2',pF c (v9,a9,b9) (v14,a14,b14) (L,a19,b19) s t E=some (t',s1',s2')∧(Drn 55 t'∧t'.N≤6)∧ae≤s1'∧s1'≤ae+10:=by
  intro s t E hE hEl hs1 hs2
  unfold pF
  simp only
  rw [e1,e2]
  obtain ⟨v,a,b,q,q1,q2,q3⟩:=nF c t (s1:=s) (n:=1+v9+v14) (by omega) (by omega)
  obtain ⟨t',m1,m2,m3,m4⟩:=aLn y19 (by omega) (st:=1+v9+v14) (ini:=v) (by omega) q1 (edges:=E) (by omega) (fun e he=>by have:=hE e he;unfold vW at this;exact ⟨this.1,this.2.1,this.2.2⟩)
  rw [q,aC,m1,aC]
  exact ⟨_,_,_,rfl,⟨m2.mono hEl,by omega⟩,by simp only;omega,by simp only;omega⟩
 unfold aBc
 rw [x9,aC]
 simp only
 rw [e1,e1',x14,aC,x19,aC,xk,aC]
 unfold qV
 simp only
 rw [e1,e3,xm,aC,xe,aC]
 unfold sU
 simp only
 rw [e1,e2]
 obtain ⟨bb,ao,bo,xo,zo,wo⟩:=one_ok c be (s1:=ae) (n:=3) (by omega) (by omega)
 rw [xo,aC]
 simp only
 cases bb with
 |false=>
  rw [if_neg (by simp)]
  obtain ⟨t',s1',s2',r1,r2,r3,r4⟩:=hfin ao bo ed ye (by omega) (by omega) (by omega)
  exact ⟨t',s1',s2',r1,r2,by omega,by omega⟩
 |true=>
  rw [if_pos rfl]
  obtain ⟨v1,a1,b1,p1,p1',p1'',p1'''⟩:=nF c bo (s1:=ao) (n:=1+v9+v14) (by omega) (by omega)
  obtain ⟨v2,a2,b2,p2,p2',p2'',p2'''⟩:=nF c b1 (s1:=a1) (n:=(L.length:Int)) (by omega) (by omega)
  obtain ⟨v3,a3,b3,p3,p3',p3'',p3'''⟩:=nF c b2 (s1:=a2) (n:=1+v9+v14) (by omega) (by omega)
  rw [p1,aC,p2,aC,p3,aC,dR (by simp [iU];omega),aC]
  obtain ⟨t',s1',s2',r1,r2,r3,r4⟩:=hfin a3 b3 (ed++[⟨v1,v2,v3⟩]) (fun e he=>by
   rcases List.mem_append.1 he with he|he
   ·exact ye e he
   ·rw [List.mem_singleton] at he
    subst he
    exact ⟨p1',p3',p2'⟩) (by simp;omega) (by omega) (by omega)
  exact ⟨t',s1',s2',r1,r2,by omega,by omega⟩
theorem aKy (c:aU) {s1:Int} (s2:Int) (h:0≤s1∧s1≤10000000):∃ t s1' s2',pW c s1 s2=some (t,s1',s2')∧(Drn 60 t∧t.N≤6)∧s1≤s1'∧s1'≤s1+500:=by
 obtain ⟨t,a,b,x,⟨y,ys⟩,z,w⟩:=drawOk_ok c s2 (s1:=s1) (by omega)
 have hed:=y.ed
 have hlab:=y.ok.2.2.1
 have hst:=y.ok.1
 have hini:=y.ok.2.1
 have hin:∀ e∈t.E,vW t.N t.L.length e:=fun e he=>by
  have:=aEX y.ok he
  unfold inT at this
  exact ⟨this.1,this.2.1,this.2.2⟩
 have key:=eM (step:=fun s:Int × Int × List Edge × Int=>mX c (t,a,b) s.1 s.2.1 s.2.2.1 s.2.2.2) t.E.length (fun k (q:Int × Int × List Edge)=>(q.1,q.2.1,q.2.2,(k:Int))) (fun k q=>(∀ e∈q.2.2,vW t.N t.L.length e)∧q.2.2.length≤k∧a≤q.1∧q.1≤a+2 * k)
  (fun r=>(∀ e∈r.2.2,vW t.N t.L.length e)∧r.2.2.length≤55∧a≤r.1∧r.1≤a+110) (fun k q hk hI=>?_) (fun q hI=>?_) t.E.length 0 (a,b,[]) (by omega) ⟨by simp,by simp,by simp,by simp⟩
 ·obtain ⟨⟨a1,b1,E⟩,h1,g1,g2,g3,g4⟩:=key
  simp only at g1 g2 g3 g4
  have h1':loop (fun s:Int × Int × List Edge × Int=>mX c (t,a,b) s.1 s.2.1 s.2.2.1 s.2.2.2) (a,b,([]:List Edge),0)=some (a1,b1,E):=h1
  obtain ⟨vm,am,bm,xm,ym,zm,wm⟩:=nF c b1 (s1:=a1) (n:=3) (by omega) (by omega)
  have key2:=eM (step:=fun s:Int × Int × List Edge × Int=>mW c (t,a,b) s.1 s.2.1 s.2.2.1 s.2.2.2) vm.toNat (fun k (q:Int × Int × List Edge)=>(q.1,q.2.1,q.2.2,vm - (k:Int))) (fun k q=>(∀ e∈q.2.2,vW t.N t.L.length e)∧q.2.2.length≤55+k∧am≤q.1∧q.1≤am+4 * k)
   (fun r=>(∀ e∈r.1,vW t.N t.L.length e)∧r.1.length≤60∧am≤r.2.1∧r.2.1≤am+20) (fun k q hk hI=>?_) (fun q hI=>?_) vm.toNat 0 (am,bm,E) (by omega) ⟨g1,by simp only;omega,by simp,by simp⟩
  ·obtain ⟨⟨F,a2,b2⟩,h2,q1,q2,q3,q4⟩:=key2
   simp only at q1 q2 q3 q4
   have h2':loop (fun s:Int × Int × List Edge × Int=>mW c (t,a,b) s.1 s.2.1 s.2.2.1 s.2.2.2) (am,bm,E,vm)=some (F,a2,b2):=by simpa using h2
   obtain ⟨t',m1,m2,m3,m4⟩:=aLn (T:=t.L) (fun s hs=>y.nm s hs) (by have:=hlab.2.1;omega) (st:=t.N) (ini:=t.I) (by have:=y.st;omega) (by omega) (edges:=F) (by omega) (fun e he=>by have:=q1 e he;unfold vW at this;exact ⟨this.1,this.2.1,this.2.2⟩)
   unfold pW
   rw [x,aC,h1',aC]
   unfold tA
   rw [xm,aC,h2',aC]
   unfold sZ
   rw [m1,aC]
   exact ⟨_,_,_,rfl,⟨m2.mono q2,by omega⟩,by simp only;omega,by simp only;omega⟩
  ·obtain ⟨x2,y2,o⟩:=q
   obtain ⟨i1,i2,i3,i4⟩:=hI
   simp only at i1 i2 i3 i4 ⊢
   obtain ⟨v1,t1,t1',p1,p1',p1'',p1'''⟩:=nF c y2 (s1:=x2) (n:=t.N) (by omega) (by omega)
   obtain ⟨v2,t2,t2',p2,p2',p2'',p2'''⟩:=nF c t1' (s1:=t1) (n:=t.N) (by omega) (by omega)
   unfold mW
   rw [if_pos (by simp;omega),p1,aC,p2,aC,dR (by simp [iU];omega),aC]
   have hw:wr (vm - (k:Int) - 1)=vm - ((k+1:Nat):Int):=by rw [fN (by omega) (by omega)];omega
   rw [hw]
   refine ⟨(t2,t2',_),rfl,fun e he=>?_,by simp;omega,by simp only;omega,by simp only;omega⟩
   rcases List.mem_append.1 he with he|he
   ·exact i1 e he
   ·rw [List.mem_singleton] at he
    subst he
    exact ⟨p1',p2',by simp only;have:=hlab.1;omega⟩
  ·obtain ⟨x2,y2,o⟩:=q
   obtain ⟨i1,i2,i3,i4⟩:=hI
   simp only at i1 i2 i3 i4 ⊢
   refine ⟨(o,x2,y2),?_,i1,by simp only;omega,i3,by simp only;omega⟩
   unfold mW
   rw [if_neg (by simp;omega)]
 ·obtain ⟨x2,y2,o⟩:=q
  obtain ⟨i1,i2,i3,i4⟩:=hI
  simp only at i1 i2 i3 i4 ⊢
  have he:=hin _ (List.getElem_mem hk)
  obtain ⟨bb,ao,bo,xo,zo,wo⟩:=one_ok c y2 (s1:=x2) (n:=3) (by omega) (by omega)
  have hw:wr ((k:Int)+1)=((k+1:Nat):Int):=cT hk (by omega)
  unfold mX
  rw [if_pos (dC hk),cR hk,aC,xo,aC]
  have hgo:∀ l:Int,0≤l∧l < t.L.length→∃ q':Int × Int × List Edge,pG o (k:Int) t.E[k] ao bo l=some (.inl (q'.1,q'.2.1,q'.2.2,((k+1:Nat):Int)))∧(∀ e∈q'.2.2,vW t.N t.L.length e)∧q'.2.2.length≤k+1∧a≤q'.1∧q'.1≤a+2 * ((k+1:Nat):Int):=by
   intro l hl
   unfold pG
   rw [dR (by simp [iU];omega),aC,hw]
   refine ⟨(ao,bo,_),rfl,fun e he'=>?_,by simp;omega,by simp only;omega,by simp only;omega⟩
   rcases List.mem_append.1 he' with he'|he'
   ·exact i1 e he'
   ·rw [List.mem_singleton] at he'
    subst he'
    exact ⟨he.1,he.2.1,hl⟩
  simp only
  cases bb with
  |false=>rw [if_neg (by simp)];exact hgo _ he.2.2
  |true=>rw [if_pos rfl];exact hgo 0 (by have:=hlab.1;omega)
 ·obtain ⟨x2,y2,o⟩:=q
  obtain ⟨i1,i2,i3,i4⟩:=hI
  simp only at i1 i2 i3 i4 ⊢
  refine ⟨(x2,y2,o),?_,i1,by simp only;omega,i3,by simp only;omega⟩
  unfold mX
  rw [if_neg (by simp)]
end Gv
namespace Gv
open Go
theorem aJE (a b:List Int) (h:a.length < 4611686018427387904):oV a b=some (decide (a=b)):=by
 unfold oV
 by_cases hl:a.length=b.length
 ·rw [if_neg (by simp [hl])]
  have:=aIN (step:=fun s=>lX a b s) (a.zip b) (fun p=>decide (p.1=p.2)) (.inr false) (.inl ()) (fun k x hk hx=>?_) ?_
  ·rw [this,aC]
   by_cases he:a=b
   ·subst he
    have:((a.zip a).all fun p=>decide (p.1=p.2))=true:=by
     rw [List.all_eq_true]
     intro p hp
     obtain ⟨i,hi,rfl⟩:=List.mem_iff_getElem.1 hp
     rw [List.getElem_zip];simp
    rw [if_pos this,decide_eq_true rfl];rfl
   ·have:¬ ((a.zip b).all fun p=>decide (p.1=p.2))=true:=fun h'=>he (List.ext_getElem hl fun i h1 h2=>by
     rw [List.all_eq_true] at h'
     have hiz:i < (a.zip b).length:=by rw [List.length_zip];omega
     have:=h' (a.zip b)[i] (List.getElem_mem hiz)
     rw [List.getElem_zip] at this
     simpa using this)
    rw [if_neg this,decide_eq_false he]
  ·have hzl:(a.zip b).length=a.length:=by rw [List.length_zip];omega
   rw [hzl] at hk
   obtain ⟨hk',rfl⟩:=aDg hx
   unfold lX
   rw [if_pos (dC hk),cR hk,aC,cR (by omega),aC,List.getElem_zip]
   by_cases e:a[k]=b[k]'(by omega)
   ·rw [if_neg (by simp [e]),if_pos (by simp [e]),cT hk h]
   ·rw [if_pos (by simpa using e),if_neg (by simpa using e)]
  ·have hzl:(a.zip b).length=a.length:=by rw [List.length_zip];omega
   rw [hzl]
   unfold lX
   rw [if_neg (by simp)]
 ·rw [if_pos (by simp;omega),decide_eq_false (fun h=>hl (by rw [h]))]
theorem put_ok (l:List Int) (n:Int) (hl:l.length≤1000000):∃ l',aDt l n=some l'∧l'.length≤l.length+1:=by
 have key:=eM (step:=fun s:List Int × Bool × Int=>pV l n s.1 s.2.1 s.2.2) l.length (fun k (a:List Int × Bool)=>(a.1,a.2,(k:Int))) (fun k a=>a.1.length≤k+(if a.2=true then 1 else 0)) (fun r=>r.1.length≤l.length+(if r.2=true then 1 else 0)) (fun k a hk hI=>?_) (fun a hI=>?_) l.length 0 ([],false) (by omega) (by simp)
 ·obtain ⟨⟨o,d⟩,h1,h2⟩:=key
  have h1':loop (fun s:List Int × Bool × Int=>pV l n s.1 s.2.1 s.2.2) (([]:List Int),false,0)=some (o,d):=h1
  unfold aDt
  rw [h1',aC]
  unfold aAX aAW
  simp only at h2 ⊢
  cases d with
  |true=>rw [if_neg (by simp)];exact ⟨_,rfl,by simpa using h2⟩
  |false=>
   simp at h2
   rw [if_pos (by simp),dR (by simp [iU];omega),aC]
   exact ⟨_,rfl,by simp;omega⟩
 ·obtain ⟨o,d⟩:=a
  simp only at hI ⊢
  have hw:wr ((k:Int)+1)=((k+1:Nat):Int):=cT hk (by omega)
  have h3:∀ o':List Int,∀ d',o'.length≤2000000→sJ l (k:Int) o' d'=some (.inl (o'++[l[k]],d',((k+1:Nat):Int))):=fun o' d' ho=>by
   unfold sJ
   rw [cR hk,aC,dR (by simp [iU];omega),aC,hw]
  have ho:o.length≤k+1:=by
   cases d<;>simp at hI<;>omega
  unfold pV
  rw [if_pos (dC hk)]
  have h4:∀ v:Bool,(v=true→d=false)→∃ a':List Int × Bool,xD l n o d (k:Int) v=some (.inl (a'.1,a'.2,((k+1:Nat):Int)))∧a'.1.length≤(k+1)+(if a'.2=true then 1 else 0):=by
   intro v hv
   unfold xD
   cases v with
   |false=>
    rw [if_neg (by simp),h3 o d (by omega)]
    exact ⟨(o++[l[k]],d),rfl,by simp only [List.length_append,List.length_singleton];omega⟩
   |true=>
    have:=hv rfl
    subst this
    simp at hI
    rw [if_pos rfl,cR hk,aC]
    split
    ·rw [dR (by simp [iU];omega),aC,h3 _ true (by simp;omega)]
     exact ⟨(_,true),rfl,by simp;omega⟩
    ·rw [h3 o true (by omega)]
     exact ⟨(_,true),rfl,by simp;omega⟩
  cases d with
  |true=>rw [if_neg (by simp)];exact h4 false (by simp)
  |false=>
   rw [if_pos (by simp),cR hk,aC]
   exact h4 _ fun _=>rfl
 ·obtain ⟨o,d⟩:=a
  refine ⟨(o,d),?_,hI⟩
  show pV l n o d (l.length:Int)=_
  unfold pV
  rw [if_neg (by simp)]
section
variable {u:cG} {p:List Int}
theorem sign_ok (hu:Big u) (hp:jV u p) (k:Int):∃ l,aDu u p k=some l∧l.length≤1000:=by
 have h5:=hu.ed
 have key:=eM (step:=fun s:List Int × Int=>lY u p k s.1 s.2) u.E.length (fun i (a:List Int)=>(a,(i:Int))) (fun i a=>a.length≤i) (fun r=>r.length≤1000) (fun i a hi hI=>?_) (fun a hI=>?_) u.E.length 0 [] (by omega) (by simp)
 ·obtain ⟨l,h1,h2⟩:=key
  have h1':loop (fun s:List Int × Int=>lY u p k s.1 s.2) (([]:List Int),0)=some l:=h1
  unfold aDu
  rw [h1',aC]
  exact ⟨l,rfl,h2⟩
 ·have he:=hu.inn _ (List.getElem_mem hi)
  have hw:wr ((i:Int)+1)=((i+1:Nat):Int):=cT hi (by omega)
  show ∃ a',lY u p k a (i:Int)=_∧_
  unfold lY xT
  rw [if_pos (dC hi),cR hi,aC]
  split
  ·rw [(aBk hp he.2.1).1,aC]
   obtain ⟨l',h1,h2⟩:=put_ok a (wr (wr (u.E[i].B * (p.length:Int))+p.getD u.E[i].To.toNat 0)) (by omega)
   rw [h1,aC,hw]
   exact ⟨l',rfl,by omega⟩
  ·rw [hw]
   exact ⟨a,rfl,by omega⟩
 ·refine ⟨a,?_,by omega⟩
  show lY u p k a (u.E.length:Int)=_
  unfold lY
  rw [if_neg (by simp)]
end
def kz (p:List Int) (rows:List (List Int)):List (List Int):=List.zipWith (fun a r=>a::r) p rows
section
variable {p:List Int} {rows:List (List Int)}
theorem aDh (h:rows.length=p.length):(kz p rows).length=p.length:=by unfold kz;simp [h]
theorem aLo (h:rows.length=p.length) {k:Nat} (hk:k < p.length):(kz p rows)[k]'(by rw [aDh h];exact hk)=p[k]::rows[k]'(by omega):=by unfold kz;simp
theorem num_inner (hl:rows.length=p.length) (hs:p.length≤1000) (hr:∀ r∈rows,r.length≤100000) {k:Nat} (hk:k < p.length):
  loop (fun s:Int × Int=>kR p rows (cn ((kz p rows).take k)) (k:Int) s.1 s.2) (-1,0)=some (if (kz p rows)[k]'(by rw [aDh hl];exact hk)∈(kz p rows).take k then pos (dd ((kz p rows).take k)) ((kz p rows)[k]'(by rw [aDh hl];exact hk)) else -1):=by
 have hkz:=aDh hl
 have hkk:k < (kz p rows).length:=by omega
 have hcl:(cn ((kz p rows).take k)).length=k:=by rw [aEj,List.length_take];omega
 have key:=qR (step:=fun s:Int × Int=>kR p rows (cn ((kz p rows).take k)) (k:Int) s.1 s.2)
  (fun s=>∃ j:Nat,s.2=(j:Int)∧j≤k∧((s.1=-1∧∀ i,(hi:i < j)→(hj:j≤k)→(kz p rows)[i]'(by omega)≠(kz p rows)[k])∨((kz p rows)[k]∈(kz p rows).take k∧s.1=pos (dd ((kz p rows).take k)) (kz p rows)[k])))
  (fun s=>k+1 - s.2.toNat) (fun r=>r=if (kz p rows)[k]∈(kz p rows).take k then pos (dd ((kz p rows).take k)) (kz p rows)[k] else -1) (fun s hI=>?_) (s:=(-1,0)) ⟨0,rfl,Nat.zero_le _,.inl ⟨rfl,fun i hi=>by omega⟩⟩
 ·obtain ⟨r,h1,h2⟩:=key
  rw [h1,h2]
 ·obtain ⟨n,jj⟩:=s
  obtain ⟨j,rfl,hjk,hI⟩:=hI
  simp only at hI ⊢
  have hout:mT p rows (cn ((kz p rows).take k)) (k:Int) n (j:Int) false=some (.inr n):=by unfold mT;rw [if_neg (by simp)]
  rcases hI with ⟨rfl,hno⟩|⟨hin,rfl⟩
  ·by_cases hj:j < k
   ·left
    have hw:wr ((j:Int)+1)=((j+1:Nat):Int):=cT hj (by omega)
    have hjp:j < p.length:=by omega
    have e1:=aLo hl hjp
    have e2:=aLo hl hk
    unfold kR
    rw [if_pos (dC hj),show decide ((-1:Int) < 0)=true from rfl]
    unfold mT
    rw [if_pos rfl,cR hjp,aC,cR hk,aC]
    have hgo:mS (cn ((kz p rows).take k)) (-1) (j:Int) false=some (.inl (-1,((j+1:Nat):Int))):=by
     unfold mS oW
     rw [if_neg (by simp),hw]
    have hstay:(kz p rows)[j]'(by omega)≠(kz p rows)[k]→∃ j':Nat,((j+1:Nat):Int)=(j':Int)∧j'≤k∧(((-1:Int)=-1∧∀ i,(hi:i < j')→(hj:j'≤k)→(kz p rows)[i]'(by omega)≠(kz p rows)[k])∨((kz p rows)[k]∈(kz p rows).take k∧(-1:Int)=pos (dd ((kz p rows).take k)) (kz p rows)[k])):=fun hne=>by
     refine ⟨j+1,rfl,hj,.inl ⟨rfl,fun i hi _=>?_⟩⟩
     by_cases e:i=j
     ·subst e;exact hne
     ·exact hno i (by omega) hjk
    by_cases hp:p[j]=p[k]
    ·rw [if_pos (by simpa using hp),cR (show j < rows.length by omega),aC,cR (show k < rows.length by omega),aC,aJE _ _ (by have:=hr _ (List.getElem_mem (show j < rows.length by omega));omega),aC]
     by_cases hrr:rows[j]'(by omega)=rows[k]'(by omega)
     ·have hkey:(kz p rows)[j]'(by omega)=(kz p rows)[k]:=by rw [e1,e2,hp,hrr]
      have hin:(kz p rows)[k]∈(kz p rows).take k:=by
       rw [←hkey,List.mem_take_iff_getElem]
       exact ⟨j,by omega,rfl⟩
      have hc:(cn ((kz p rows).take k))[j]?=some (pos (dd ((kz p rows).take k)) (kz p rows)[k]):=by
       rw [aHg (show j < ((kz p rows).take k).length by rw [List.length_take];omega),List.getElem_take,hkey]
      rw [hrr]
      unfold mS oW
      rw [decide_eq_true rfl,if_pos rfl,aDR,hc]
      show ∃ s',ob (some _) _=_∧_
      rw [aC,hw]
      exact ⟨(_,((j+1:Nat):Int)),rfl,⟨j+1,rfl,hj,.inr ⟨hin,rfl⟩⟩,by simp only;omega⟩
     ·rw [decide_eq_false hrr,hgo]
      refine ⟨(-1,((j+1:Nat):Int)),rfl,hstay (fun e=>?_),by simp only;omega⟩
      rw [e1,e2,List.cons.injEq] at e
      exact hrr e.2
    ·rw [if_neg (by simpa using hp),hgo]
     refine ⟨(-1,((j+1:Nat):Int)),rfl,hstay (fun e=>?_),by simp only;omega⟩
     rw [e1,e2,List.cons.injEq] at e
     exact hp e.1
   ·right
    obtain rfl:j=k:=by omega
    refine ⟨-1,?_,?_⟩
    ·unfold kR
     rw [if_neg (by simp),hout]
    ·rw [if_neg]
     rw [List.mem_take_iff_getElem]
     rintro ⟨i,hi,e⟩
     exact hno i (by omega) (Nat.le_refl _) e
  ·right
   refine ⟨_,?_,by rw [if_pos hin]⟩
   have hpos:0≤pos (dd ((kz p rows).take k)) (kz p rows)[k]:=aBT.2 (aAp.2 hin)
   unfold kR
   rw [show decide (pos (dd ((kz p rows).take k)) (kz p rows)[k] < 0)=false from decide_eq_false (by omega),hout]
   split<;>rfl
theorem num_eq (hl:rows.length=p.length) (hs:p.length≤1000) (hr:∀ r∈rows,r.length≤100000):lG p rows=some (cn (kz p rows)):=by
 have hkz:=aDh hl
 have key:=eM (step:=fun s:List Int × Int × Int=>jI p rows s.1 s.2.1 s.2.2) p.length (fun k (a:List Int × Int)=>(a.1,a.2,(k:Int))) (fun k a=>a.1=cn ((kz p rows).take k)∧a.2=((dd ((kz p rows).take k)).length:Int)) (fun r=>r=cn (kz p rows)) (fun k a hk hI=>?_) (fun a hI=>?_) p.length 0 ([],0) (by omega) ⟨rfl,rfl⟩
 ·obtain ⟨r,h1,rfl⟩:=key
  have h1':loop (fun s:List Int × Int × Int=>jI p rows s.1 s.2.1 s.2.2) (([]:List Int),0,0)=some (cn (kz p rows)):=h1
  unfold lG
  rw [h1',aC];rfl
 ·obtain ⟨o,m⟩:=a
  obtain ⟨rfl,rfl⟩:=hI
  have hkk:k < (kz p rows).length:=by omega
  have hcl:(cn ((kz p rows).take k)).length=k:=by rw [aEj,List.length_take];omega
  have hw:wr ((k:Int)+1)=((k+1:Nat):Int):=cT hk (by omega)
  have e1:(kz p rows).take (k+1)=(kz p rows).take k++[(kz p rows)[k]]:=by rw [List.take_add_one,List.getElem?_eq_getElem hkk];rfl
  have hdl:(dd ((kz p rows).take k)).length≤1000:=by
   have h2:(dd ((kz p rows).take k)).length≤((kz p rows).take k).length:=by
    have:∀ (l:List (List Int)),(dd l).length≤l.length:=by
     intro l
     unfold dd
     have hg:∀ (m F:List (List Int)),(m.foldl (sC id) F).length≤F.length+m.length:=by
      intro m
      induction m with
      |nil=>intro F;simp
      |cons x m ih=>
       intro F
       have:=ih (sC id F x)
       have h3:=aGv (key:=id) F x
       simp only [List.foldl_cons,List.length_cons];omega
     have:=hg l []
     simpa using this
    exact this _
   rw [List.length_take] at h2;omega
  show ∃ a':List Int × Int,jI p rows (cn ((kz p rows).take k)) _ (k:Int)=_∧_
  unfold jI
  rw [if_pos (dC hk),num_inner hl hs hr hk,aC,e1,aLj,aGy,aLi]
  unfold sL sK xV
  by_cases hin:(kz p rows)[k]∈(kz p rows).take k
  ·have hpos:0≤pos (dd ((kz p rows).take k)) (kz p rows)[k]:=aBT.2 (aAp.2 hin)
   rw [if_pos hin,if_neg (by simp;omega),dR (by simp [iU];omega),aC,hw,if_pos (aAp.2 hin)]
   refine ⟨(_,_),rfl,rfl,?_⟩
   have:sC id (dd ((kz p rows).take k)) (kz p rows)[k]=dd ((kz p rows).take k):=by
    unfold sC
    rw [if_pos (by rw [List.map_id];exact aAp.2 hin)]
   simp only [this]
  ·rw [if_neg hin,if_pos (by simp),dR (by simp [iU];omega),aC,hw,if_neg (fun h=>hin (aAp.1 h))]
   refine ⟨(_,_),rfl,rfl,?_⟩
   have:sC id (dd ((kz p rows).take k)) (kz p rows)[k]=dd ((kz p rows).take k)++[(kz p rows)[k]]:=by
    unfold sC
    rw [if_neg (by rw [List.map_id];exact fun h=>hin (aAp.1 h))]
   simp only [this,List.length_append,List.length_singleton]
   first
    |omega
    |(rw [fN (by omega) (by omega)];omega)
 ·obtain ⟨o,m⟩:=a
  obtain ⟨rfl,rfl⟩:=hI
  refine ⟨_,?_,rfl⟩
  show jI p rows (cn ((kz p rows).take p.length)) _ (p.length:Int)=_
  unfold jI
  rw [if_neg (by simp),List.take_of_length_le (by omega)]
theorem aKz (hl:rows.length=p.length):aHj (cn (kz p rows)) p:=
 aMu (aDh hl) fun x y hx hy h=>by
  rw [List.getElem?_eq_getElem (by rw [aDh hl];exact hx),List.getElem?_eq_getElem (by rw [aDh hl];exact hy),aLo hl hx,aLo hl hy,Option.some.injEq,List.cons.injEq] at h
  rw [List.getElem?_eq_getElem hx,List.getElem?_eq_getElem hy,h.1]
end
section
variable {u:cG} {p:List Int}
theorem aME (hu:Big u) (hp:jV u p):∃ q,aAY u p=some q∧jV u q∧cn q=q∧aHj q p:=by
 have h3:=hu.st
 have key:=eM (step:=fun s:List (List Int) × Int=>iK u p s.1 s.2) u.N.toNat (fun k (a:List (List Int))=>(a,(k:Int))) (fun k a=>a.length=k∧∀ r∈a,r.length≤1000) (fun r=>r.length=u.N.toNat∧∀ x∈r,x.length≤1000) (fun k a hk hI=>?_) (fun a hI=>?_) u.N.toNat 0 [] (by omega) ⟨rfl,by simp⟩
 ·obtain ⟨rows,h1,h2,h4⟩:=key
  have h1':loop (fun s:List (List Int) × Int=>iK u p s.1 s.2) (([]:List (List Int)),0)=some rows:=h1
  unfold aAY
  have hl:rows.length=p.length:=by rw [h2,hp.1]
  rw [h1',aC,num_eq hl (by rw [hp.1];omega) (fun r hr=>by have:=h4 r hr;omega)]
  exact ⟨_,rfl,part_cn hu (by rw [aDh hl,hp.1]),cn_cn _,aKz hl⟩
 ·obtain ⟨g1,g2⟩:=hI
  obtain ⟨l,e,hl⟩:=sign_ok hu hp (k:Int)
  have hw:wr ((k:Int)+1)=((k+1:Nat):Int):=cT hk (by omega)
  show ∃ a',iK u p a (k:Int)=_∧_
  unfold iK
  rw [if_pos (by simp;omega),e,aC,dR (by simp [iU];omega),aC,hw]
  refine ⟨_,rfl,by simp;omega,fun r hr=>?_⟩
  rcases List.mem_append.1 hr with hr|hr
  ·exact g2 r hr
  ·simp at hr;subst hr;exact hl
 ·refine ⟨a,?_,hI⟩
  show iK u p a ((u.N.toNat:Nat):Int)=_
  unfold iK
  rw [if_neg (by simp;omega)]
theorem part0 (hu:Big u):mkz u.N (0:Int)=some (List.replicate u.N.toNat 0)∧jV u (List.replicate u.N.toNat 0):=by
 have h3:=hu.st
 refine ⟨?_,by simp,fun z hz=>by rw [List.mem_replicate] at hz;omega⟩
 unfold mkz
 rw [if_pos ⟨by omega,by unfold iU;omega⟩]
theorem aMF (hu:Big u):∃ p n,aAZ u=some (p,n)∧jV u p:=by
 obtain ⟨hm,h0⟩:=part0 hu
 have h3:=hu.st
 unfold aAZ
 rw [hm,aC]
 have key:=aJw (step:=fun s:List Int × Int=>kT u s.1 s.2) u.N.toNat (fun p s=>s.1=p∧jV u p) (fun r=>jV u r.1) (fun p s hl hc hI=>?_) (List.replicate u.N.toNat 0) (List.replicate u.N.toNat 0,0) (by simp) (aMt _) ⟨rfl,h0⟩
 ·obtain ⟨⟨p,n⟩,h1,h2⟩:=key
  rw [h1,aC]
  exact ⟨p,n,rfl,h2⟩
 ·obtain ⟨q,n⟩:=s
  obtain ⟨rfl,hp⟩:=hI
  obtain ⟨r,e,g1,g2,g3⟩:=aME hu hp
  have hstep:kT u q n=if decide (r=q)=true then some (.inr (q,n)) else some (.inl (r,wr (n+1))):=by
   unfold kT
   rw [e,aC,aJE _ _ (by rw [g1.1];omega),aC]
  show (∃ x,kT u q n=_∧_)∨_
  by_cases h:r=q
  ·left
   rw [hstep,if_pos (by simpa using h)]
   exact ⟨_,rfl,hp⟩
  ·right
   refine ⟨r,(r,wr (n+1)),g3,g2,h,?_,rfl,g1⟩
   show kT u q n=_
   rw [hstep,if_neg (by simpa using h)]
theorem aKA (hu:Big u):∃ p,aBW u=some p∧jV u p:=by
 obtain ⟨p,n,h1,h2⟩:=aMF hu
 exact ⟨p,by unfold aBW;rw [h1,aC],h2⟩
end
end Gv
namespace Gv
open Go
section
variable {u:cG} {p:List Int}
theorem aGB (hu:Big u) (hp:jV u p) {e:Edge} (he:e∈u.E):∃ b,sM e p=some b:=by
 have h:=hu.inn e he
 unfold sM vE
 split
 ·rw [(aBk hp h.1).1,aC,(aBk hp h.2.1).1,aC]
  exact ⟨_,rfl⟩
 ·exact ⟨_,rfl⟩
def cnt (l:List Bool):Nat:=l.count true
theorem cnt_le (l:List Bool):cnt l≤l.length:=List.count_le_length
theorem cnt_off {l:List Bool} {k:Nat} (hk:k < l.length) (h:l[k]=true):cnt (l.set k false) < cnt l:=by
 unfold cnt
 rw [List.count_set hk,h]
 have:0 < l.count true:=List.count_pos_iff.2 (h ▸ List.getElem_mem hk)
 simp;omega
theorem cnt_on {l:List Bool} {k:Nat} (hk:k < l.length) (h:l[k]=false):cnt l < cnt (l.set k true):=by
 unfold cnt
 rw [List.count_set hk,h]
 simp
theorem ixB {l:List Bool} {s:Int} (hl:l.length=u.N.toNat) (hs:inT u s):∃ hk:s.toNat < l.length,ix l s=some l[s.toNat]:=by
 unfold inT at hs
 exact ⟨by omega,aFt hs.1 (by omega)⟩
theorem div_goes (hu:Big u) (hp:jV u p) {al:List Bool} (hl:al.length=u.N.toNat) (k:Int):∃ b,loop (fun s:Bool × Int=>iL u p al k s.1 s.2) (false,0)=some b:=by
 have h5:=hu.ed
 have key:=eM (step:=fun s:Bool × Int=>iL u p al k s.1 s.2) u.E.length (fun i (a:Bool)=>(a,(i:Int))) (fun _ _=>True) (fun _=>True) (fun i a hi _=>?_) (fun a _=>?_) u.E.length 0 false (by omega) trivial
 ·obtain ⟨b,h1,_⟩:=key
  exact ⟨b,h1⟩
 ·have he:=List.getElem_mem hi
  have hin:=hu.inn _ he
  have hw:wr ((i:Int)+1)=((i+1:Nat):Int):=cT hi (by omega)
  have hj:∀ b,jX (i:Int) b=some (.inl (b,((i+1:Nat):Int))):=fun b=>by unfold jX;rw [hw]
  show ∃ a',iL u p al k a (i:Int)=_∧_
  unfold iL
  rw [if_pos (dC hi),cR hi,aC]
  split
  ·exact ⟨_,hj _,trivial⟩
  ·split
   ·obtain ⟨b,hb⟩:=aGB hu hp he
    rw [hb,aC]
    split
    ·obtain ⟨_,h2⟩:=ixB hl hin.2.1
     rw [h2,aC]
     exact ⟨_,hj _,trivial⟩
    ·exact ⟨_,hj _,trivial⟩
   ·exact ⟨_,hj _,trivial⟩
 ·refine ⟨a,?_,trivial⟩
  show iL u p al k a (u.E.length:Int)=_
  unfold iL
  rw [if_neg (by simp)]
theorem div_round (hu:Big u) (hp:jV u p) {al:List Bool} (hl:al.length=u.N.toNat):∃ al' m,loop (fun s:List Bool × Bool × Int=>jY u p s.1 s.2.1 s.2.2) (al,false,0)=some (al',m)∧al'.length=u.N.toNat∧cnt al'≤cnt al∧(m=true→cnt al' < cnt al):=by
 have h3:=hu.st
 have key:=eM (step:=fun s:List Bool × Bool × Int=>jY u p s.1 s.2.1 s.2.2) u.N.toNat (fun k (a:List Bool × Bool)=>(a.1,a.2,(k:Int))) (fun _ a=>a.1.length=u.N.toNat∧cnt a.1≤cnt al∧(a.2=true→cnt a.1 < cnt al)) (fun r=>r.1.length=u.N.toNat∧cnt r.1≤cnt al∧(r.2=true→cnt r.1 < cnt al)) (fun k a hk hI=>?_) (fun a hI=>?_) u.N.toNat 0 (al,false) (by omega) ⟨hl,Nat.le_refl _,fun h=>by cases h⟩
 ·obtain ⟨⟨al',m⟩,h1,h2⟩:=key
  exact ⟨al',m,h1,h2⟩
 ·obtain ⟨b,m⟩:=a
  obtain ⟨g1,g2,g3⟩:=hI
  simp only at g1 g2 g3 ⊢
  have hw:wr ((k:Int)+1)=((k+1:Nat):Int):=cT hk (by omega)
  have hkb:k < b.length:=by omega
  have hj:∀ c n,lH (k:Int) c n=some (.inl (c,n,((k+1:Nat):Int))):=fun c n=>by unfold lH;rw [hw]
  unfold jY
  rw [if_pos (by simp;omega),cR hkb,aC]
  by_cases hb:b[k]=true
  ·rw [if_neg (by simp [hb])]
   obtain ⟨c,hc⟩:=div_goes hu hp g1 (k:Int)
   rw [hc,aC]
   unfold qT
   cases c with
   |true=>rw [if_neg (by simp),hj];exact ⟨(b,m),rfl,g1,g2,g3⟩
   |false=>
    have hst:st b (k:Int) false=some (b.set k false):=by
     unfold Gv.st
     rw [if_pos ⟨by omega,by omega⟩,Int.toNat_natCast]
    have hlt:=cnt_off hkb hb
    rw [if_pos (by simp),hst,aC,hj]
    exact ⟨(b.set k false,true),rfl,by simp only [List.length_set];exact g1,by simp only;omega,fun _=>by simp only;omega⟩
  ·rw [if_pos (by simp [hb]),hj]
   exact ⟨(b,m),rfl,g1,g2,g3⟩
 ·obtain ⟨b,m⟩:=a
  refine ⟨(b,m),?_,hI⟩
  show jY u p b m ((u.N.toNat:Nat):Int)=_
  unfold jY
  rw [if_neg (by simp;omega)]
theorem aJF (hu:Big u) (hp:jV u p):∃ al,uE u p=some al∧al.length=u.N.toNat:=by
 have h3:=hu.st
 have hm:mkz u.N false=some (List.replicate u.N.toNat false):=by
  unfold mkz
  rw [if_pos ⟨by omega,by unfold iU;omega⟩]
 unfold uE
 rw [hm,aC]
 have key:=eM (step:=fun s:List Bool × Int=>iA u s.1 s.2) u.N.toNat (fun k (a:List Bool)=>(a,(k:Int))) (fun _ a=>a.length=u.N.toNat) (fun r=>r.length=u.N.toNat) (fun k a hk hI=>?_) (fun a hI=>?_) u.N.toNat 0 (List.replicate u.N.toNat false) (by omega) (by simp)
 ·obtain ⟨al,h1,h2⟩:=key
  have h1':loop (fun s:List Bool × Int=>iA u s.1 s.2) (List.replicate u.N.toNat false,0)=some al:=h1
  rw [h1',aC]
  unfold oX qS
  have key2:=qR (step:=fun s:List Bool × Bool=>lI u p s.1 s.2) (fun s=>s.1.length=u.N.toNat) (fun s=>2 * cnt s.1+(if s.2=true then 1 else 0)) (fun r=>r.length=u.N.toNat) (fun s hI=>?_) (s:=(al,true)) h2
  ·obtain ⟨r,h3,h4⟩:=key2
   rw [h3,aC]
   exact ⟨r,rfl,h4⟩
  ·obtain ⟨x,m⟩:=s
   show (∃ s',lI u p x m=_∧_)∨_
   cases m with
   |false=>right;exact ⟨x,by unfold lI;rw [if_neg (by simp)],hI⟩
   |true=>
    left
    obtain ⟨al',m',e,g1,g2,g3⟩:=div_round hu hp hI
    have g2:cnt al'≤cnt x:=g2
    have g3:m'=true→cnt al' < cnt x:=g3
    refine ⟨(al',m'),?_,g1,?_⟩
    ·unfold lI
     rw [if_pos rfl,e,aC];rfl
    ·show 2 * cnt al'+(if m'=true then 1 else 0) < 2 * cnt x+(if true=true then 1 else 0)
     rw [if_pos rfl]
     cases m' with
     |false=>rw [if_neg (by simp)];omega
     |true=>have:=g3 rfl;rw [if_pos rfl];omega
 ·have hw:wr ((k:Int)+1)=((k+1:Nat):Int):=cT hk (by omega)
  have hka:k < a.length:=by omega
  show ∃ a',iA u a (k:Int)=_∧_
  unfold iA
  have hst:st a (k:Int) true=some (a.set k true):=by
   unfold Gv.st
   rw [if_pos ⟨by omega,by omega⟩,Int.toNat_natCast]
  rw [if_pos (by simp;omega),cR hka,aC,hst,aC,hw]
  exact ⟨_,rfl,by simp only [List.length_set];exact hI⟩
 ·refine ⟨a,?_,hI⟩
  show iA u a ((u.N.toNat:Nat):Int)=_
  unfold iA
  rw [if_neg (by simp;omega)]
theorem aMG (hu:Big u) (hp:jV u p) {al:List Bool} (hl:al.length=u.N.toNat):∃ al' m,loop (fun s:List Bool × Bool × Int=>mD u p s.1 s.2.1 s.2.2) (al,false,0)=some (al',m)∧al'.length=u.N.toNat∧cnt al≤cnt al'∧(m=true→cnt al < cnt al'):=by
 have h5:=hu.ed
 have key:=eM (step:=fun s:List Bool × Bool × Int=>mD u p s.1 s.2.1 s.2.2) u.E.length (fun k (a:List Bool × Bool)=>(a.1,a.2,(k:Int))) (fun _ a=>a.1.length=u.N.toNat∧cnt al≤cnt a.1∧(a.2=true→cnt al < cnt a.1)) (fun r=>r.1.length=u.N.toNat∧cnt al≤cnt r.1∧(r.2=true→cnt al < cnt r.1)) (fun i a hi hI=>?_) (fun a hI=>?_) u.E.length 0 (al,false) (by omega) ⟨hl,Nat.le_refl _,fun h=>by cases h⟩
 ·obtain ⟨⟨al',m⟩,h1,h2⟩:=key
  exact ⟨al',m,h1,h2⟩
 ·obtain ⟨b,m⟩:=a
  obtain ⟨g1,g2,g3⟩:=hI
  simp only at g1 g2 g3 ⊢
  have he:=List.getElem_mem hi
  have hin:=hu.inn _ he
  have hw:wr ((i:Int)+1)=((i+1:Nat):Int):=cT hi (by omega)
  have hj:∀ c n,rD (i:Int) c n=some (.inl (c,n,((i+1:Nat):Int))):=fun c n=>by unfold rD;rw [hw]
  obtain ⟨_,f1⟩:=ixB g1 hin.1
  obtain ⟨hk,f2⟩:=ixB g1 hin.2.1
  have hT:=hin.2.1
  unfold inT at hT
  have hno:mC b m (i:Int) u.E[i] false=some (.inl (b,m,((i+1:Nat):Int))):=by unfold mC;rw [if_neg (by simp),hj]
  unfold mD
  rw [if_pos (dC hi),cR hi,aC,f1,aC]
  split
  ·rw [f2,aC]
   by_cases hb:b[u.E[i].To.toNat]=true
   ·rw [if_neg (by simp [hb]),hno]
    exact ⟨(b,m),rfl,g1,g2,g3⟩
   ·have hb':b[u.E[i].To.toNat]=false:=by simpa using hb
    rw [if_pos (by simp [hb'])]
    obtain ⟨c,hc⟩:=aGB hu hp he
    rw [hc,aC]
    cases c with
    |false=>rw [hno];exact ⟨(b,m),rfl,g1,g2,g3⟩
    |true=>
     have hst:st b u.E[i].To true=some (b.set u.E[i].To.toNat true):=by
      unfold Gv.st
      rw [if_pos ⟨hT.1,by omega⟩]
     have hlt:=cnt_on hk hb'
     unfold mC
     rw [if_pos rfl,f2,aC,hst,aC,hj]
     exact ⟨(_,true),rfl,by simp only [List.length_set];exact g1,by simp only;omega,fun _=>by simp only;omega⟩
  ·rw [hno]
   exact ⟨(b,m),rfl,g1,g2,g3⟩
 ·obtain ⟨b,m⟩:=a
  refine ⟨(b,m),?_,hI⟩
  show mD u p b m (u.E.length:Int)=_
  unfold mD
  rw [if_neg (by simp)]
theorem reach_ok (hu:Big u) (hp:jV u p) {k:Int} (hk:inT u k):∃ al,aCj u p k=some al∧al.length=u.N.toNat:=by
 have h3:=hu.st
 have hk':=hk
 unfold inT at hk'
 have hm:mkz u.N false=some (List.replicate u.N.toNat false):=by
  unfold mkz
  rw [if_pos ⟨by omega,by unfold iU;omega⟩]
 have hst:st (List.replicate u.N.toNat false) k true=some ((List.replicate u.N.toNat false).set k.toNat true):=by
  unfold Gv.st
  rw [if_pos ⟨hk'.1,by simp;omega⟩]
 obtain ⟨_,f⟩:=ixB (u:=u) (l:=List.replicate u.N.toNat false) (by simp) hk
 unfold aCj
 rw [hm,aC,f,aC,hst,aC]
 have key2:=qR (step:=fun s:List Bool × Bool=>oE u p s.1 s.2) (fun s=>s.1.length=u.N.toNat) (fun s=>2 * (u.N.toNat - cnt s.1)+(if s.2=true then 1 else 0)) (fun r=>r.length=u.N.toNat) (fun s hI=>?_) (s:=((List.replicate u.N.toNat false).set k.toNat true,true)) (by simp)
 ·obtain ⟨r,h3,h4⟩:=key2
  rw [h3,aC]
  exact ⟨r,rfl,h4⟩
 ·obtain ⟨x,m⟩:=s
  show (∃ s',oE u p x m=_∧_)∨_
  cases m with
  |false=>right;exact ⟨x,by unfold oE;rw [if_neg (by simp)],hI⟩
  |true=>
   left
   obtain ⟨al',m',e,g1,g2,g3⟩:=aMG hu hp hI
   have g2:cnt x≤cnt al':=g2
   have g3:m'=true→cnt x < cnt al':=g3
   have hle:cnt al'≤al'.length:=cnt_le al'
   refine ⟨(al',m'),?_,g1,?_⟩
   ·unfold oE
    rw [if_pos rfl,e,aC];rfl
   ·show 2 * (u.N.toNat - cnt al')+(if m'=true then 1 else 0) < 2 * (u.N.toNat - cnt x)+(if true=true then 1 else 0)
    rw [if_pos rfl]
    cases m' with
    |false=>rw [if_neg (by simp)];omega
    |true=>have:=g3 rfl;rw [if_pos rfl];omega
theorem offers_ok (hu:Big u) (hp:jV u p) {k:Int} (hk:inT u k):∃ l,aBa u p k=some l∧l.length≤1000:=by
 have h5:=hu.ed
 obtain ⟨al,e,hl⟩:=reach_ok hu hp hk
 unfold aBa
 rw [e,aC]
 have key:=eM (step:=fun s:List Int × Int=>jJ u p al s.1 s.2) u.E.length (fun i (a:List Int)=>(a,(i:Int))) (fun i a=>a.length≤i) (fun r=>r.length≤1000) (fun i a hi hI=>?_) (fun a hI=>?_) u.E.length 0 [] (by omega) (by simp)
 ·obtain ⟨l,h1,h2⟩:=key
  have h1':loop (fun s:List Int × Int=>jJ u p al s.1 s.2) (([]:List Int),0)=some l:=h1
  rw [h1',aC]
  exact ⟨l,rfl,h2⟩
 ·have he:=List.getElem_mem hi
  have hin:=hu.inn _ he
  have hw:wr ((i:Int)+1)=((i+1:Nat):Int):=cT hi (by omega)
  have hno:mU p a (i:Int) u.E[i] false=some (.inl (a,((i+1:Nat):Int))):=by
   unfold mU pB
   rw [if_neg (by simp),hw]
  obtain ⟨_,f1⟩:=ixB hl hin.1
  show ∃ a',jJ u p al a (i:Int)=_∧_
  unfold jJ
  rw [if_pos (dC hi),cR hi,aC,f1,aC]
  split
  ·obtain ⟨c,hc⟩:=aGB hu hp he
   rw [hc,aC]
   cases c with
   |true=>rw [show (!true)=false from rfl,hno];exact ⟨a,rfl,by omega⟩
   |false=>
    obtain ⟨l',h1,h2⟩:=put_ok a (wr (wr (u.E[i].B * (p.length:Int))+p.getD u.E[i].To.toNat 0)) (by omega)
    unfold mU pB
    rw [if_pos (by rfl),(aBk hp hin.2.1).1,aC,h1,aC,hw]
    exact ⟨l',rfl,by omega⟩
  ·rw [hno];exact ⟨a,rfl,by omega⟩
 ·refine ⟨a,?_,by omega⟩
  show jJ u p al a (u.E.length:Int)=_
  unfold jJ
  rw [if_neg (by simp)]
theorem j10_same:@qU=@lG:=rfl
theorem aMH (hu:Big u) (hp:jV u p) (d:Bool):∃ q,aBb u p d=some q∧jV u q∧cn q=q∧aHj q p:=by
 have h3:=hu.st
 obtain ⟨al,e,hal⟩:=aJF hu hp
 unfold aBb
 rw [e,aC]
 have key:=eM (step:=fun s:List (List Int) × Int=>iM u p d al s.1 s.2) u.N.toNat (fun k (a:List (List Int))=>(a,(k:Int))) (fun k a=>a.length=k∧∀ r∈a,r.length≤1001) (fun r=>r.length=u.N.toNat∧∀ x∈r,x.length≤1001) (fun k a hk hI=>?_) (fun a hI=>?_) u.N.toNat 0 [] (by omega) ⟨rfl,by simp⟩
 ·obtain ⟨rows,h1,h2,h4⟩:=key
  have h1':loop (fun s:List (List Int) × Int=>iM u p d al s.1 s.2) (([]:List (List Int)),0)=some rows:=h1
  have hl:rows.length=p.length:=by rw [h2,hp.1]
  rw [h1',aC,j10_same,num_eq hl (by rw [hp.1];omega) (fun r hr=>by have:=h4 r hr;omega)]
  exact ⟨_,rfl,part_cn hu (by rw [aDh hl,hp.1]),cn_cn _,aKz hl⟩
 ·obtain ⟨g1,g2⟩:=hI
  have hkT:inT u (k:Int):=by unfold inT;omega
  obtain ⟨l,e,hl⟩:=offers_ok hu hp hkT
  obtain ⟨_,f⟩:=ixB hal hkT
  have hw:wr ((k:Int)+1)=((k+1:Nat):Int):=cT hk (by omega)
  have hgo:∀ r:List Int,r.length≤1001→∃ a',nK a (k:Int) r=some (.inl (a',((k+1:Nat):Int)))∧a'.length=k+1∧∀ r∈a',r.length≤1001:=by
   intro r hr
   unfold nK
   rw [dR (by simp [iU];omega),aC,hw]
   refine ⟨_,rfl,by simp;omega,fun x hx=>?_⟩
   rcases List.mem_append.1 hx with hx|hx
   ·exact g2 x hx
   ·simp at hx;subst hx;exact hr
  have hgo2:∀ b:Bool,∃ a',nL a (k:Int) l b=some (.inl (a',((k+1:Nat):Int)))∧a'.length=k+1∧∀ r∈a',r.length≤1001:=by
   intro b
   unfold nL
   cases b with
   |true=>rw [if_pos rfl,dR (by simp [iU];omega),aC];exact hgo _ (by simp;omega)
   |false=>rw [if_neg (by simp)];exact hgo _ (by omega)
  show ∃ a',iM u p d al a (k:Int)=_∧_
  unfold iM
  rw [if_pos (by simp;omega),e,aC]
  cases d with
  |true=>rw [if_pos rfl,f,aC];exact hgo2 _
  |false=>rw [if_neg (by simp)];exact hgo2 _
 ·refine ⟨a,?_,hI⟩
  show iM u p d al a ((u.N.toNat:Nat):Int)=_
  unfold iM
  rw [if_neg (by simp;omega)]
theorem part15_ok (hu:Big u) (d:Bool):∃ p,aDw u d=some p∧jV u p:=by
 obtain ⟨hm,h0⟩:=part0 hu
 have h3:=hu.st
 unfold aDw
 rw [hm,aC]
 have key:=aJw (step:=fun s:List Int=>uF u d s) u.N.toNat (fun p s=>s=p∧jV u p) (fun r=>jV u r) (fun p s hl hc hI=>?_) (List.replicate u.N.toNat 0) (List.replicate u.N.toNat 0) (by simp) (aMt _) ⟨rfl,h0⟩
 ·obtain ⟨p,h1,h2⟩:=key
  rw [h1,aC]
  exact ⟨p,rfl,h2⟩
 ·obtain ⟨rfl,hp⟩:=hI
  obtain ⟨r,e,g1,g2,g3⟩:=aMH hu hp d
  have hstep:uF u d s=if decide (r=s)=true then some (.inr s) else some (.inl r):=by
   unfold uF
   rw [e,aC,aJE _ _ (by rw [g1.1];omega),aC]
  by_cases h:r=s
  ·left
   rw [hstep,if_pos (by simpa using h)]
   exact ⟨_,rfl,hp⟩
  ·right
   refine ⟨r,r,g3,g2,h,?_,rfl,g1⟩
   rw [hstep,if_neg (by simpa using h)]
theorem true_ok {al:List Bool} (hal:al.length≤1000):∃ l,aDv al=some l∧l.length≤al.length∧∀ z∈l,0≤z∧z < al.length:=by
 unfold aDv
 have key:=eM (step:=fun s:List Int × Int=>lZ al s.1 s.2) al.length (fun i (a:List Int)=>(a,(i:Int))) (fun i a=>a.length≤i∧∀ z∈a,0≤z∧z < al.length) (fun r=>r.length≤al.length∧∀ z∈r,0≤z∧z < al.length) (fun i a hi hI=>?_) (fun a hI=>?_) al.length 0 [] (by omega) (by simp)
 ·obtain ⟨l,h1,h2⟩:=key
  have h1':loop (fun s:List Int × Int=>lZ al s.1 s.2) (([]:List Int),0)=some l:=h1
  rw [h1',aC]
  exact ⟨l,rfl,h2⟩
 ·obtain ⟨g1,g2⟩:=hI
  have hw:wr ((i:Int)+1)=((i+1:Nat):Int):=cT hi (by omega)
  show ∃ a',lZ al a (i:Int)=_∧_
  unfold lZ xW
  rw [if_pos (dC hi),cR hi,aC,hw]
  split
  ·rw [dR (by simp [iU];omega),aC]
   refine ⟨_,rfl,by simp;omega,fun z hz=>?_⟩
   rcases List.mem_append.1 hz with hz|hz
   ·exact g2 z hz
   ·simp at hz;omega
  ·exact ⟨_,rfl,by omega,g2⟩
 ·refine ⟨a,?_,hI⟩
  show lZ al a (al.length:Int)=_
  unfold lZ
  rw [if_neg (by simp)]
end
theorem aLp {t:cG} (h:cI t):Big t:=by
 have h1:=h.1
 have h2:=h.2.2.1.2.1
 have h3:=h.2.2.2.1
 exact ⟨by omega,by omega,by omega,fun e he=>aEX h he⟩
section
variable {t:cG} {c:Nat} {p:List Int}
theorem top_ok (h:Drn c t) (hp:jV t p):∃ b,pU p=some b∧(1≤b∧b≤10∧b≤t.N)∧∀ z∈p,0≤z∧z < b:=by
 have h1:=h.ok.1
 have h2:=h.st
 obtain ⟨b,e,⟨⟨z,hz,hb⟩,ht⟩⟩:=aNq (p:=p) (by rw [hp.1];omega) (by rw [hp.1];omega) fun z hz=>by
  have:=hp.2 z hz
  omega
 have:=hp.2 z hz
 exact ⟨b,e,by omega,fun w hw=>by have:=hp.2 w hw;have:=ht w hw;omega⟩
theorem quot13_ok (h:Drn c t) (hp:jV t p):∃ t',rB t p=some t'∧Drn c t'∧t'.N≤t.N:=by
 obtain ⟨b,e,hb,hz⟩:=top_ok h hp
 refine ⟨_,quo_ref h.ok hp.1 e,⟨quo_ok h.ok hp.1 (by omega) hz,h.nm,by show b≤10;omega,Nat.le_trans (aMs t p) h.ed⟩,hb.2.2⟩
theorem aNw (h:Drn c t) (hp:jV t p) {b:Int} (hzi:∀ s,inT t s→0≤p.getD s.toNat 0∧p.getD s.toNat 0 < b):
  ∃ E,loop (fun s:List Edge × Int=>iC t p s.1 s.2) (([]:List Edge),0)=some E∧E.length≤c∧∀ x∈E,vW b t.L.length x:=by
 have hu:=aLp h.ok
 have h2:=h.ok.2.1
 have hed:=h.ed
 have h5:=hu.ed
 refine eM (step:=fun s:List Edge × Int=>iC t p s.1 s.2) t.E.length (fun i (a:List Edge)=>(a,(i:Int))) (fun i a=>a.length≤i∧∀ x∈a,vW b t.L.length x) (fun r=>r.length≤c∧∀ x∈r,vW b t.L.length x) (fun i a hi hI=>?_) (fun a hI=>?_) t.E.length 0 [] (by omega) (by simp)
 ·obtain ⟨g1,g2⟩:=hI
  have he:=List.getElem_mem hi
  have hin:=aEX h.ok he
  have hw:wr ((i:Int)+1)=((i+1:Nat):Int):=cT hi (by omega)
  obtain ⟨v,hv⟩:=aGB hu hp he
  have hal:a.length+1 < iU:=by unfold iU;omega
  have ha1:a.length≤i+1:=by omega
  show ∃ a',iC t p a (i:Int)=_∧_
  unfold iC pA
  rw [if_pos (dC hi),cR hi,aC,hv,aC,hw]
  clear hw
  split
  ·rw [(aBk hp hin.1).1,aC,(aBk hp hin.2.1).1,aC,dR (by simp only [List.length_singleton];omega),aC]
   refine ⟨_,rfl,by rw [List.length_append];exact Nat.add_le_add_right g1 1,fun x hx=>?_⟩
   rcases List.mem_append.1 hx with hx|hx
   ·exact g2 x hx
   ·rw [List.mem_singleton] at hx
    subst hx
    exact ⟨hzi _ hin.1,hzi _ hin.2.1,hin.2.2⟩
  ·exact ⟨_,rfl,ha1,g2⟩
 ·obtain ⟨g1,g2⟩:=hI
  refine ⟨a,?_,by omega,g2⟩
  show iC t p a (t.E.length:Int)=_
  unfold iC
  rw [if_neg (by simp)]
theorem aNx (hc:c≤250) (h:Drn c t) (hp:jV t p) {b:Int} (hzi:∀ s,inT t s→0≤p.getD s.toNat 0∧p.getD s.toNat 0 < b) {E:List Edge} (k2:E.length≤c) (k3:∀ x∈E,vW b t.L.length x) {l:List Int} (hl:l.length≤10) (hlT:∀ z∈l,inT t z):
  ∃ F,loop (fun s:List Edge × Int=>iB p l s.1 s.2) (E,0)=some F∧F.length≤c+10∧∀ x∈F,vW b t.L.length x:=by
 have hlab:=h.ok.2.2.1.1
 refine eM (step:=fun s:List Edge × Int=>iB p l s.1 s.2) l.length (fun i (a:List Edge)=>(a,(i:Int))) (fun i a=>a.length≤c+i∧∀ x∈a,vW b t.L.length x) (fun r=>r.length≤c+10∧∀ x∈r,vW b t.L.length x) (fun i a hi hI=>?_) (fun a hI=>?_) l.length 0 E (by omega) ⟨by omega,k3⟩
 ·obtain ⟨g1,g2⟩:=hI
  have hsT:=hlT _ (List.getElem_mem hi)
  have hal:a.length+1 < iU:=by unfold iU;omega
  have hw:wr ((i:Int)+1)=((i+1:Nat):Int):=cT hi (by omega)
  show ∃ a',iB p l a (i:Int)=_∧_
  unfold iB
  rw [if_pos (dC hi),cR hi,aC,(aBk hp hsT).1,aC,dR (by simp only [List.length_singleton];omega),aC,hw]
  clear hw
  refine ⟨_,rfl,by rw [List.length_append];exact Nat.add_le_add_right g1 1,fun x hx=>?_⟩
  rcases List.mem_append.1 hx with hx|hx
  ·exact g2 x hx
  ·rw [List.mem_singleton] at hx
   subst hx
   have:=hzi _ hsT
   exact ⟨this,this,by simp only;omega⟩
 ·obtain ⟨g1,g2⟩:=hI
  refine ⟨a,?_,by omega,g2⟩
  show iB p l a (l.length:Int)=_
  unfold iB
  rw [if_neg (by simp)]
theorem aKB (hc:c≤250) (h:Drn c t) (hp:jV t p) (d:Bool):∃ t',rC t p d=some t'∧Drn (c+10) t'∧t'.N≤t.N:=by
 have hu:=aLp h.ok
 have h1:=h.ok.1
 have h2:=h.ok.2.1
 have hst:=h.st
 have hlab:=h.ok.2.2.1
 obtain ⟨b,e,hb,hz⟩:=top_ok h hp
 have hzi:∀ s,inT t s→0≤p.getD s.toNat 0∧p.getD s.toNat 0 < b:=fun s hs=>by
  have hl:s.toNat < p.length:=by rw [hp.1];unfold inT at hs;omega
  have e:p.getD s.toNat 0=p[s.toNat]:=by rw [List.getD_eq_getElem?_getD,List.getElem?_eq_getElem hl];rfl
  rw [e]
  exact hz _ (List.getElem_mem hl)
 have hini:inT t t.I:=by unfold inT;omega
 have hfin:∀ E:List Edge,(∀ x∈E,vW b t.L.length x)→E.length≤c+10→∃ t',mN t p E=some t'∧Drn (c+10) t'∧t'.N≤t.N:=by
  intro E hE hl
  obtain ⟨t',m1,m2,m3,m4⟩:=aLn (T:=t.L) h.nm (by have:=hlab.2.1;omega) (st:=b) (ini:=p.getD t.I.toNat 0) (by omega) (hzi _ hini) (edges:=E) (by omega) (fun x hx=>by have:=hE x hx;unfold vW at this;exact ⟨this.1,this.2.1,this.2.2⟩)
  unfold mN
  rw [(aBk hp hini).1,aC,e,aC,m1,aC]
  exact ⟨t',rfl,m2.mono hl,by omega⟩
 obtain ⟨E,k1,k2,k3⟩:=aNw h hp hzi
 unfold rC
 rw [k1,aC]
 unfold oZ
 cases d with
 |false=>rw [if_neg (by simp)];exact hfin E k3 (by omega)
 |true=>
  obtain ⟨al,d1,d2⟩:=aJF hu hp
  obtain ⟨l,d3,d4,d5⟩:=true_ok (al:=al) (by omega)
  obtain ⟨F,q1,q2,q3⟩:=aNx hc h hp hzi k2 k3 (l:=l) (by omega) (fun z hz=>by have:=d5 z hz;unfold inT;omega)
  rw [if_pos rfl,d1,aC,d3,aC,q1,aC]
  unfold oY
  exact hfin F q3 q2
theorem aJG (h:Drn c t):sI t=some (RL t)∧xC t (RL t)=some (aKo t (RL t))∧Drn c (aKo t (RL t))∧(aKo t (RL t)).N≤t.N:=by
 have h1:=h.ok.1
 have h2:=h.st
 have hl:=RL_len t
 refine ⟨aMg h.ok,aNi h.ok (by omega),⟨keep_ok h.ok,h.nm,?_,Nat.le_trans (aKp t (RL t)) h.ed⟩,?_⟩
 ·show ((RL t).length:Int)≤10
  omega
 ·show ((RL t).length:Int)≤t.N
  omega
theorem aNy (h:Drn c t):∃ t',aAc t=some t'∧Drn c t'∧t'.N≤t.N:=by
 obtain ⟨k1,k2,k3,k4⟩:=aJG h
 obtain ⟨p,p1,p2⟩:=aKA (aLp k3.ok)
 obtain ⟨t',q1,q2,q3⟩:=quot13_ok k3 p2
 unfold aAc
 rw [k1,aC,k2,aC,p1,aC,q1,aC]
 exact ⟨t',rfl,q2,by omega⟩
theorem aJH (hc:c≤250) (h:Drn c t) (d:Bool):∃ t',sO t d=some t'∧Drn (c+10) t'∧t'.N≤t.N:=by
 obtain ⟨k1,k2,k3,k4⟩:=aJG h
 obtain ⟨p,p1,p2⟩:=part15_ok (aLp k3.ok) d
 obtain ⟨t',q1,q2,q3⟩:=aKB hc k3 p2 d
 unfold sO
 rw [k1,aC,k2,aC,p1,aC,q1,aC]
 exact ⟨t',rfl,q2,by omega⟩
end
end Gv
set_option linter.unusedSimpArgs false
set_option linter.unusedVariables false
namespace Gv
open Go
theorem tT {γ:Type} {step:List γ × Int→Option ((List γ × Int) ⊕ List γ)} {n:Int} (hn:0≤n) (R:Nat→List γ→Prop) (R':List γ→Prop)
  (h:∀ m i,0≤i→i < n→R i.toNat m→∃ m',step (m,i)=some (.inl (m',i+1))∧R (i.toNat+1) m') (h':∀ m,R n.toNat m→step (m,n)=some (.inr m)∧R' m):∀ m,R 0 m→∃ m',loop step (m,0)=some m'∧R' m':=by
 intro m hm
 obtain ⟨r,h1,h2⟩:=eM (step:=step) n.toNat (fun k (q:List γ)=>(q,(k:Int))) R R' (fun k q hk hI=>by
  obtain ⟨m',g1,g2⟩:=h q (k:Int) (by omega) (by omega) (by rwa [Int.toNat_natCast])
  rw [Int.toNat_natCast] at g2
  exact ⟨m',g1,g2⟩) (fun q hI=>by
  obtain ⟨g1,g2⟩:=h' q hI
  refine ⟨q,?_,g2⟩
  have:((n.toNat:Nat):Int)=n:=by omega
  rw [this];exact g1) n.toNat 0 m (by omega) hm
 exact ⟨r,h1,h2⟩
theorem sq_lt {s x y:Int} (hs:s≤100) (hx:0≤x∧x < s) (hy:0≤y∧y < s):0≤x * s∧x * s≤10000∧x * s+y < s * s:=by
 have h1:(x+1) * s≤s * s:=Int.mul_le_mul_of_nonneg_right (by omega) (by omega)
 have h2:x * s≤100 * 100:=Int.mul_le_mul (by omega) hs (by omega) (by omega)
 have h3:0≤x * s:=Int.mul_nonneg hx.1 (by omega)
 rw [Int.add_mul,Int.one_mul] at h1
 omega
theorem sq_wr {s x y:Int} (hs:s≤100) (hx:0≤x∧x < s) (hy:0≤y∧y < s):wr (wr (x * s)+y)=x * s+y:=by
 obtain ⟨h1,h2,h3⟩:=sq_lt hs hx hy
 rw [fN (x:=x * s) (by omega) (by omega),fN (by omega) (by omega)]
theorem aHy {s x y:Int} {m:List Bool} (hs:s≤100) (hm:m.length=(s * s).toNat) (hx:0≤x∧x < s) (hy:0≤y∧y < s):∃ b,ix m (wr (wr (x * s)+y))=some b:=by
 obtain ⟨h1,h2,h3⟩:=sq_lt hs hx hy
 rw [sq_wr hs hx hy]
 unfold ix
 rw [if_pos (by omega),List.getElem?_eq_getElem (by omega)]
 exact ⟨_,rfl⟩
theorem sq_st {s x y:Int} {m:List Bool} (v:Bool) (hs:s≤100) (hm:m.length=(s * s).toNat) (hx:0≤x∧x < s) (hy:0≤y∧y < s):∃ m',st m (wr (wr (x * s)+y)) v=some m'∧m'.length=(s * s).toNat:=by
 obtain ⟨h1,h2,h3⟩:=sq_lt hs hx hy
 rw [sq_wr hs hx hy]
 unfold Gv.st
 rw [if_pos ⟨by omega,by omega⟩]
 exact ⟨_,rfl,by rw [List.length_set,hm]⟩
theorem ln_ix {γ:Type} {s k:Int} {m:List γ} (hm:m.length=s.toNat) (hk:0≤k∧k < s):∃ b,ix m k=some b:=by
 unfold ix
 rw [if_pos hk.1,List.getElem?_eq_getElem (by omega)]
 exact ⟨_,rfl⟩
theorem ln_st {γ:Type} {s k:Int} {m:List γ} (v:γ) (hm:m.length=s.toNat) (hk:0≤k∧k < s):∃ m',st m k v=some m'∧m'.length=s.toNat:=by
 unfold Gv.st
 rw [if_pos ⟨hk.1,by omega⟩]
 exact ⟨_,rfl,by rw [List.length_set,hm]⟩
theorem zO {i n:Int} (h0:0≤i) (h1:i < n) (hn:n≤1000000):wr (i+1)=i+1:=fN (by omega) (by omega)
section
variable {s:Int}
theorem cl2_c (hs:0≤s∧s≤100) {x y:Int} (hx:0≤x∧x < s) (hy:0≤y∧y < s):∀ m:List Bool,m.length=(s * s).toNat→∃ m',loop (fun q:List Bool × Int=>mE s x y q.1 q.2) (m,0)=some m'∧m'.length=(s * s).toNat:=by
 refine tT hs.1 (fun _ m=>m.length=(s * s).toNat) (fun m=>m.length=(s * s).toNat) (fun m i h0 h1 hm=>?_) (fun m hm=>⟨?_,hm⟩)
 ·show ∃ m',mE s x y m i=_∧_
  unfold mE vI
  obtain ⟨b,hb⟩:=aHy (m:=m) hs.2 hm hx ⟨h0,h1⟩
  obtain ⟨c,hc⟩:=aHy (m:=m) hs.2 hm hy ⟨h0,h1⟩
  obtain ⟨m',h2,h3⟩:=sq_st (m:=m) true hs.2 hm hy ⟨h0,h1⟩
  rw [if_pos (by simpa using h1),hb,aC,zO h0 h1 (by omega)]
  cases b with
  |true=>rw [if_pos rfl,hc,aC,h2,aC];exact ⟨m',rfl,h3⟩
  |false=>rw [if_neg (by simp)];exact ⟨m,rfl,hm⟩
 ·show mE s x y m s=_
  unfold mE
  rw [if_neg (by simp)]
theorem cl2_a (hs:0≤s∧s≤100) {x:Int} (hx:0≤x∧x < s):∀ m:List Bool,m.length=(s * s).toNat→∃ m',loop (fun q:List Bool × Int=>mF s x q.1 q.2) (m,0)=some m'∧m'.length=(s * s).toNat:=by
 refine tT hs.1 (fun _ m=>m.length=(s * s).toNat) (fun m=>m.length=(s * s).toNat) (fun m i h0 h1 hm=>?_) (fun m hm=>⟨?_,hm⟩)
 ·show ∃ m',mF s x m i=_∧_
  unfold mF
  obtain ⟨b,hb⟩:=aHy (m:=m) hs.2 hm ⟨h0,h1⟩ hx
  obtain ⟨m',h2,h3⟩:=cl2_c hs hx ⟨h0,h1⟩ m hm
  rw [if_pos (by simpa using h1),hb,aC]
  unfold vH vG
  rw [zO h0 h1 (by omega)]
  cases b with
  |true=>rw [if_neg (by simp),h2,aC];exact ⟨m',rfl,h3⟩
  |false=>rw [if_pos (by simp)];exact ⟨m,rfl,hm⟩
 ·show mF s x m s=_
  unfold mF
  rw [if_neg (by simp)]
theorem cl2_b (hs:0≤s∧s≤100):∀ m:List Bool,m.length=(s * s).toNat→∃ m',loop (fun q:List Bool × Int=>mG s q.1 q.2) (m,0)=some m'∧m'.length=(s * s).toNat:=by
 refine tT hs.1 (fun _ m=>m.length=(s * s).toNat) (fun m=>m.length=(s * s).toNat) (fun m i h0 h1 hm=>?_) (fun m hm=>⟨?_,hm⟩)
 ·show ∃ m',mG s m i=_∧_
  unfold mG
  obtain ⟨m',h2,h3⟩:=cl2_a hs ⟨h0,h1⟩ m hm
  rw [if_pos (by simpa using h1),h2,aC]
  unfold vF aAy
  rw [zO h0 h1 (by omega)]
  exact ⟨m',rfl,h3⟩
 ·show mG s m s=_
  unfold mG
  rw [if_neg (by simp)]
theorem close2_ok (hs:0≤s∧s≤100) (m:List Bool) (hm:m.length=(s * s).toNat):∃ m',aCn s m=some m'∧m'.length=(s * s).toNat:=by
 obtain ⟨m1,h1,h2⟩:=tT (step:=fun q:List Bool × Int=>kU s q.1 q.2) hs.1 (fun _ m=>m.length=(s * s).toNat) (fun m=>m.length=(s * s).toNat) (fun m i h0 h1 hm=>by
  show ∃ m',kU s m i=_∧_
  unfold kU
  obtain ⟨b,hb⟩:=aHy (m:=m) hs.2 hm ⟨h0,h1⟩ ⟨h0,h1⟩
  obtain ⟨m',h2,h3⟩:=sq_st (m:=m) true hs.2 hm ⟨h0,h1⟩ ⟨h0,h1⟩
  rw [if_pos (by simpa using h1),hb,aC,h2,aC,zO h0 h1 (by omega)]
  exact ⟨m',rfl,h3⟩) (fun m hm=>⟨by
  show kU s m s=_
  unfold kU
  rw [if_neg (by simp)],hm⟩) m hm
 obtain ⟨m2,h3,h4⟩:=cl2_b hs m1 h2
 unfold aCn
 rw [h1,aC]
 unfold sP
 rw [h3,aC]
 exact ⟨m2,rfl,h4⟩
end
section
variable {t:cG} {c:Nat}
theorem still_ok (h:Drn c t):∃ m,aCo t=some m∧m.length=(t.N * t.N).toNat:=by
 have h1:=h.ok.1
 have h2:=h.st
 have h3:=h.ok.2.2.2.1
 have hq:=sq_lt (s:=t.N) (x:=t.N - 1) (y:=0) (by omega) (by omega) (by omega)
 have hsq:0≤t.N * t.N∧t.N * t.N≤100:=⟨Int.mul_nonneg (by omega) (by omega),Int.le_trans (Int.mul_le_mul h2 h2 (by omega) (by omega)) (by decide)⟩
 have hm:mkz (wr (t.N * t.N)) false=some (List.replicate (t.N * t.N).toNat false):=by
  rw [fN (by omega) (by omega)]
  unfold mkz
  rw [if_pos ⟨by omega,by unfold iU;omega⟩]
 unfold aCo
 rw [hm,aC]
 obtain ⟨m1,e1,e2⟩:=tT (step:=fun q:List Bool × Int=>mH t q.1 q.2) (n:=(t.E.length:Int)) (by omega) (fun _ m=>m.length=(t.N * t.N).toNat) (fun m=>m.length=(t.N * t.N).toNat) (fun m i h0 h1' hm=>by
  show ∃ m',mH t m i=_∧_
  have hi:i.toNat < t.E.length:=by omega
  have hb:=aEX h.ok (List.getElem_mem hi)
  unfold inT at hb
  obtain ⟨b,hb'⟩:=aHy (m:=m) (s:=t.N) (by omega) hm hb.1 hb.2.1
  obtain ⟨m',g2,g3⟩:=sq_st (m:=m) (s:=t.N) true (by omega) hm hb.1 hb.2.1
  have he:ix t.E i=some t.E[i.toNat]:=by unfold ix;rw [if_pos h0,List.getElem?_eq_getElem hi]
  unfold mH vK
  rw [if_pos (by simpa using h1'),he,aC,hb',aC,g2,aC,zO h0 h1' (by omega)]
  split
  ·exact ⟨m',rfl,g3⟩
  ·exact ⟨m,rfl,hm⟩) (fun m hm=>⟨by
  show mH t m (t.E.length:Int)=_
  unfold mH
  rw [if_neg (by simp)],hm⟩) (List.replicate (t.N * t.N).toNat false) (by simp)
 rw [e1,aC]
 unfold vJ
 obtain ⟨m2,e3,e4⟩:=close2_ok (s:=t.N) (by omega) m1 e2
 rw [e3,aC]
 exact ⟨m2,rfl,e4⟩
theorem step16_ok (h:Drn c t) {still:List Bool} (hst:still.length=(t.N * t.N).toNat) {k:Int} (hk:inT t k) (l:Int):∃ m,aDx t still k l=some m∧m.length=t.N.toNat:=by
 have h1:=h.ok.1
 have h2:=h.st
 have h3:=h.ok.2.2.2.1
 have hk':=hk
 unfold inT at hk'
 have hm:mkz t.N false=some (List.replicate t.N.toNat false):=by
  unfold mkz
  rw [if_pos ⟨by omega,by unfold iU;omega⟩]
 unfold aDx
 rw [hm,aC]
 split
 ·obtain ⟨m1,e1,e2⟩:=tT (step:=fun q:List Bool × Int=>nS t still k q.1 q.2) (n:=t.N) (by omega) (fun _ m=>m.length=t.N.toNat) (fun m=>m.length=t.N.toNat) (fun m i h0 h1' hm=>by
   show ∃ m',nS t still k m i=_∧_
   obtain ⟨b,hb⟩:=aHy (m:=still) (s:=t.N) (by omega) hst hk' ⟨h0,h1'⟩
   obtain ⟨x,hx⟩:=ln_ix (m:=m) hm ⟨h0,h1'⟩
   obtain ⟨m',g2,g3⟩:=ln_st (m:=m) b hm ⟨h0,h1'⟩
   unfold nS
   rw [if_pos (by simpa using h1'),hb,aC,hx,aC,g2,aC,zO h0 h1' (by omega)]
   exact ⟨m',rfl,g3⟩) (fun m hm=>⟨by
   show nS t still k m t.N=_
   unfold nS
   rw [if_neg (by simp)],hm⟩) (List.replicate t.N.toNat false) (by simp)
  rw [e1,aC]
  exact ⟨m1,rfl,e2⟩
 ·obtain ⟨m1,e1,e2⟩:=tT (step:=fun q:List Bool × Int=>nU t still k l q.1 q.2) (n:=(t.E.length:Int)) (by omega) (fun _ m=>m.length=t.N.toNat) (fun m=>m.length=t.N.toNat) (fun m i h0 h1' hm=>by
   show ∃ m',nU t still k l m i=_∧_
   have hi:i.toNat < t.E.length:=by omega
   have hb:=aEX h.ok (List.getElem_mem hi)
   unfold inT at hb
   have he:ix t.E i=some t.E[i.toNat]:=by unfold ix;rw [if_pos h0,List.getElem?_eq_getElem hi]
   obtain ⟨b,hb'⟩:=aHy (m:=still) (s:=t.N) (by omega) hst hk' hb.1
   have hj4:∀ m':List Bool,uG i m'=some (.inl (m',i+1)):=fun m'=>by unfold uG;rw [zO h0 h1' (by omega)]
   obtain ⟨m2,e3,e4⟩:=tT (step:=fun q:List Bool × Int=>nT t still t.E[i.toNat] q.1 q.2) (n:=t.N) (by omega) (fun _ m=>m.length=t.N.toNat) (fun m=>m.length=t.N.toNat) (fun m j h0 h1' hm=>by
    show ∃ m',nT t still t.E[i.toNat] m j=_∧_
    obtain ⟨b,hb⟩:=aHy (m:=still) (s:=t.N) (by omega) hst hb.2.1 ⟨h0,h1'⟩
    obtain ⟨x,hx⟩:=ln_ix (m:=m) hm ⟨h0,h1'⟩
    obtain ⟨m',g2,g3⟩:=ln_st (m:=m) true hm ⟨h0,h1'⟩
    unfold nT yF
    rw [if_pos (by simpa using h1'),hb,aC,zO h0 h1' (by omega)]
    cases b with
    |true=>rw [if_pos rfl,hx,aC,g2,aC];exact ⟨m',rfl,g3⟩
    |false=>rw [if_neg (by simp)];exact ⟨m,rfl,hm⟩) (fun m hm=>⟨by
    show nT t still t.E[i.toNat] m t.N=_
    unfold nT
    rw [if_neg (by simp)],hm⟩) m hm
   unfold nU
   rw [if_pos (by simpa using h1'),he,aC,hb',aC]
   have hj8:∀ v,∃ m',uH t still m i t.E[i.toNat] v=some (.inl (m',i+1))∧m'.length=t.N.toNat:=fun v=>by
    unfold uH
    cases v with
    |true=>rw [if_pos rfl,hj4];exact ⟨m,rfl,hm⟩
    |false=>
     rw [if_neg (by simp),e3,aC]
     unfold yE
     rw [hj4]
     exact ⟨m2,rfl,e4⟩
   split
   ·exact hj8 _
   ·exact hj8 _) (fun m hm=>⟨by
   show nU t still k l m (t.E.length:Int)=_
   unfold nU
   rw [if_neg (by simp)],hm⟩) (List.replicate t.N.toNat false) (by simp)
  rw [e1,aC]
  exact ⟨m1,rfl,e2⟩
theorem sat16_ok (h:Drn c t) (h6:t.N≤6):∃ u,vL t=some u∧Big u∧u.N=t.N:=by
 have h1:=h.ok.1
 have h3:=h.ok.2.2.2.1
 have hl:=h.ok.2.2.1.2.1
 have hl0:=h.ok.2.2.1.1
 obtain ⟨still,s1,s2⟩:=still_ok h
 unfold vL
 rw [dR (by simp [iU];omega),aC,List.nil_append]
 unfold rX
 rw [s1,aC]
 obtain ⟨E,e1,e2,e3⟩:=tT (step:=fun q:List Edge × Int=>iX t still q.1 q.2) (n:=t.N) (by omega) (fun k E=>(∀ e∈E,vW t.N t.L.length e)∧E.length≤72 * k) (fun E=>(∀ e∈E,vW t.N t.L.length e)∧E.length≤432) (fun E k k0 k1 hE=>by
  show ∃ m',iX t still E k=_∧_
  obtain ⟨F,f1,f2,f3⟩:=tT (step:=fun q:List Edge × Int=>iW t still k q.1 q.2) (n:=(t.L.length:Int)) (by omega) (fun j F=>(∀ e∈F,vW t.N t.L.length e)∧F.length≤E.length+6 * j) (fun F=>(∀ e∈F,vW t.N t.L.length e)∧F.length≤E.length+72) (fun F l l0 l1 hF=>by
   show ∃ m',iW t still k F l=_∧_
   obtain ⟨m,g1,g2⟩:=step16_ok h s2 (k:=k) ⟨k0,k1⟩ l
   obtain ⟨D,d1,d2,d3⟩:=tT (step:=fun q:List Edge × Int=>iV t k l m q.1 q.2) (n:=t.N) (by omega) (fun i D=>(∀ e∈D,vW t.N t.L.length e)∧D.length≤F.length+i) (fun D=>(∀ e∈D,vW t.N t.L.length e)∧D.length≤F.length+6) (fun D i i0 i1 hD=>by
    show ∃ m',iV t k l m D i=_∧_
    obtain ⟨b,hb⟩:=ln_ix (m:=m) g2 ⟨i0,i1⟩
    have hlen:=hD.2
    have hF2:=hF.2
    have hE2:=hE.2
    have hlim:D.length+1≤10000:=by omega
    unfold iV pE
    rw [if_pos (by simpa using i1),hb,aC,zO i0 i1 (by omega)]
    cases b with
    |true=>
     rw [if_pos rfl,dR (by simp only [List.length_singleton,iU];omega),aC]
     refine ⟨_,rfl,fun e he=>?_,by rw [List.length_append,List.length_singleton];omega⟩
     rcases List.mem_append.1 he with he|he
     ·exact hD.1 e he
     ·rw [List.mem_singleton] at he
      subst he
      exact ⟨⟨k0,k1⟩,⟨i0,i1⟩,l0,l1⟩
    |false=>rw [if_neg (by simp)];exact ⟨D,rfl,hD.1,by omega⟩) (fun D hD=>⟨by
    show iV t k l m D t.N=_
    unfold iV
    rw [if_neg (by simp)],hD.1,by have:=hD.2;omega⟩) F ⟨hF.1,by omega⟩
   unfold iW
   rw [if_pos (by simpa using l1),g1,aC,d1,aC]
   unfold pD uK
   rw [zO l0 l1 (by omega)]
   exact ⟨D,rfl,d2,by have:=hF.2;omega⟩) (fun F hF=>⟨by
   show iW t still k F (t.L.length:Int)=_
   unfold iW
   rw [if_neg (by simp)],hF.1,by have:=hF.2;omega⟩) E ⟨hE.1,by omega⟩
  unfold iX
  rw [if_pos (by simpa using k1),f1,aC]
  unfold pC uJ
  rw [zO k0 k1 (by omega)]
  exact ⟨F,rfl,f2,by have:=hE.2;omega⟩) (fun E hE=>⟨by
  show iX t still E t.N=_
  unfold iX
  rw [if_neg (by simp)],hE.1,by have:=hE.2;omega⟩) [] ⟨by simp,by simp⟩
 rw [e1,aC]
 exact ⟨_,rfl,⟨by show 1≤t.N∧t.N≤100;omega,by show t.L.length≤100;omega,by show E.length≤1000;omega,fun e he=>by have:=e2 e he;unfold vW at this;exact ⟨this.1,this.2.1,this.2.2⟩⟩,rfl⟩
theorem aNz (hc:c≤250) (h:Drn c t) (h6:t.N≤6):∃ t',aAd t=some t'∧Drn (c+10) t':=by
 obtain ⟨k1,k2,k3,k4⟩:=aJG h
 obtain ⟨u,u1,u2,u3⟩:=sat16_ok k3 (by omega)
 obtain ⟨p,p1,p2⟩:=aKA u2
 have p3:jV (aKo t (RL t)) p:=by
  unfold jV at p2 ⊢
  rw [u3] at p2
  exact p2
 obtain ⟨t',q1,q2,q3⟩:=aKB hc k3 p3 false
 unfold aAd
 rw [k1,aC,k2,aC]
 unfold aFg
 rw [u1,aC,p1,aC,aC,q1,aC]
 exact ⟨t',rfl,q2⟩
end
end Gv
set_option linter.unusedSimpArgs false
set_option linter.unusedVariables false
namespace Gv
open Go
section
variable {a:cG} (cs:aU)
def Ask (t:cG):Prop:=cI t∧fM 999999999 t
theorem Drn.ask {c:Nat} {t:cG} (h:Drn c t):Ask t:=⟨h.ok,h.fits⟩
theorem det_ask {c:Nat} {t:cG} (h:Drn c t) (hs:Small (eQ t)):Ask (nI t):=by
 refine ⟨(aEk h.ok hs).1,h.fits.1,h.fits.2.1,?_⟩
 have:=hs.2
 show (eQ t).2.length≤999999999
 omega
theorem cut_ask {c:Nat} {t:cG} (h:Drn c t) {E:List Edge} (hE:E.Sublist t.E):Ask ⟨t.N,t.I,t.L,E⟩:=by
 have hl:=hE.length_le
 have h3:=h.ok.2.2.2.1
 refine ⟨⟨h.ok.1,h.ok.2.1,h.ok.2.2.1,aGz (by show E.length≤300;omega) ((aMf h.ok).sublist hE) fun e he=>qP h.ok (hE.subset he)⟩,h.fits.1,h.fits.2.1,by show E.length≤999999999;omega⟩
theorem own_eq {c:Nat} {t:cG} (h:Drn c t):aDy t=some t:=by
 have h1:=h.ok.2.2.1.2.1
 have h3:=h.ok.2.2.2.1
 unfold aDy
 rw [dR (by simp [iU];omega),aC,dR (by simp [iU];omega),aC,List.nil_append,List.nil_append]
theorem del_eq {E:List Edge} (hl:E.length≤1000) {v:Int} (hv:0≤v∧v < E.length):∃ r1 r2 F,tU E 0 v=some r1∧tU E (wr (v+1)) (E.length:Int)=some r2∧pX r1 r2=some F∧F.Sublist E:=by
 refine ⟨E.take v.toNat,E.drop (v.toNat+1),E.take v.toNat++E.drop (v.toNat+1),?_,?_,dR (by simp only [List.length_take,List.length_drop,iU];omega),?_⟩
 ·unfold tU
  rw [if_pos ⟨by decide,hv.1,by omega⟩]
  simp
 ·rw [fN (by omega) (by omega)]
  unfold tU
  rw [if_pos ⟨by omega,by omega,by omega⟩,show (v+1).toNat=v.toNat+1 by omega,List.take_of_length_le (by simp)]
 ·have:(E.take v.toNat++E.drop (v.toNat+1)).Sublist (E.take v.toNat++E.drop v.toNat):=by
   refine List.Sublist.append_left ?_ _
   rw [show E.drop (v.toNat+1)=(E.drop v.toNat).drop 1 by rw [List.drop_drop]]
   exact List.drop_sublist _ _
  rwa [List.take_append_drop] at this
theorem pair_ok:∃ a b,aDz cs=some (a,b)∧Ask a∧Ask b:=by
 obtain ⟨a,x,y,e,⟨ha,h6⟩,h1,h2⟩:=aKy cs (s1:=0) 0 (by omega)
 obtain ⟨b,x',y',e',hb,h1',h2'⟩:=aKy cs (s1:=x) y (by omega)
 obtain ⟨v,x2,y2,e2,g,i,j⟩:=nF cs y' (s1:=x') (n:=7) (by omega) (by omega)
 unfold aDz aFf
 rw [aC]
 show ∃ a b,(ob (pW cs 0 0) fun r16=>ob (pW cs r16.2.1 r16.2.2) fun r30=>ob (dK cs r30.2.1 r30.2.2 7) fun r44=>_)=_∧_
 rw [e,aC,e',aC,e2,aC]
 have hend:∀ t:cG,Ask t→∃ a' b',iN (a,x,y) t.N t.I t.L t.E=some (a',b')∧Ask a'∧Ask b':=fun t ht=>⟨a,t,rfl,ha.ask,ht⟩
 split
 ·obtain ⟨t',e3,h3,_⟩:=aNy ha
  show ∃ a' b',(ob (aAc a) fun r99=>_)=_∧_
  rw [e3,aC]
  exact hend t' h3.ask
 split
 ·obtain ⟨t',e3,h3,_⟩:=aJH (by omega) ha true
  show ∃ a' b',(ob (sO a true) fun r99=>_)=_∧_
  rw [e3,aC]
  exact hend t' h3.ask
 split
 ·obtain ⟨t',e3,h3,_⟩:=aJH (by omega) ha false
  show ∃ a' b',(ob (sO a false) fun r99=>_)=_∧_
  rw [e3,aC]
  exact hend t' h3.ask
 split
 ·obtain ⟨t',e3,h3⟩:=aNz (by omega) ha h6
  show ∃ a' b',(ob (aAd a) fun r99=>_)=_∧_
  rw [e3,aC]
  exact hend t' h3.ask
 split
 ·show ∃ a' b',(ob (xG a) fun r215=>_)=_∧_
  rw [aFW ha.ok,aC,aAq]
  by_cases hs:Small (eQ a)
  ·rw [decide_eq_true hs,if_pos rfl]
   unfold detS
   rw [if_pos hs]
   exact hend (nI a) (det_ask ha hs)
  ·rw [decide_eq_false hs,if_neg (by simp)]
   exact hend b hb.1.ask
 split
 ·show ∃ a' b',(ob (aDy a) fun r254=>_)=_∧_
  rw [own_eq ha,aC]
  have h3:=ha.ok.2.2.2.1
  by_cases hp:0 < a.E.length
  ·rw [if_pos (by simpa using hp)]
   obtain ⟨u,x3,y3,e3,g3,_,_⟩:=nF cs y2 (s1:=x2) (n:=(a.E.length:Int)) (by omega) (by omega)
   obtain ⟨r1,r2,F,d1,d2,d3,d4⟩:=del_eq (E:=a.E) (by omega) g3
   show ∃ a' b',(ob (dK cs x2 y2 (a.E.length:Int)) fun r269=>_)=_∧_
   rw [e3,aC]
   show ∃ a' b',(ob (tU a.E 0 u) fun r282=>ob (tU a.E (wr (u+1)) (a.E.length:Int)) fun r288=>_)=_∧_
   rw [d1,aC,d2,aC,d3,aC]
   exact hend ⟨a.N,a.I,a.L,F⟩ (cut_ask ha d4)
  ·rw [if_neg (by simp;simpa using hp)]
   exact hend a ha.ask
 ·exact hend b hb.1.ask
theorem lawTraces:aEd cs=some true:=by
 unfold aEd aFe
 rw [aC]
 split
 ·rfl
 ·obtain ⟨a,b,e,⟨ha,fa⟩,hb,fb⟩:=pair_ok cs
  rw [e,aC]
  exact aNu ha hb fa fb
end
end Gv
