/- Sets of states, as lists; sets closed under inner steps: the reference's and the program's. -/
import Derived.Test.YtigicpgpkmjdpaaGreatDoorJP20
set_option linter.all false
namespace Gv
open Go
theorem aJL (s:List Int) (h:s.length < 1000000000):eN s=some (eC s):=by
 unfold eN
 by_cases h2:s.length < 2
 ·rw [if_pos (by simp;omega)]
  rcases s with _|⟨a,_|⟨b,l⟩⟩
  ·rfl
  ·rfl
  ·simp at h2;omega
 rw [if_neg (by simp;omega)]
 have:=aIM (step:=fun k=>fD s k) s.length (fun k (_:Unit)=>(k:Int)) (fun k _=>1<=k/\eC (s.take k)=s.take k) (fun r=>r=.inr (eC s)\/(r=.inl ()/\eC s=s)) (fun k a hk hI=>?_) (fun a hI=>?_) (s.length - 1) 1 () (by omega) ⟨Nat.le_refl _,?_⟩
 ·obtain ⟨r,hr,hR⟩:=this
  rw [show (1:Int)=((1:Nat):Int) from rfl,hr,aA]
  rcases hR with rfl|⟨rfl,h⟩
  ·rfl
  ·rw [h];rfl
 ·obtain ⟨i1,i2⟩:=hI
  have hk1:wr ((k:Int) - 1)=((k - 1:Nat):Int):=by rw [dS (by omega) (by omega)];omega
  have hdt:=aFu (s:=s) (m:=k) i1 hk
  simp only [fD,bU hk,if_pos,bR hk,aA,hk1,bR (xs:=s) (k:=k - 1) (by omega),gX,bK hk (show s.length < 4611686018427387904 by omega)]
  by_cases e:s[k]=s[k - 1]'(by omega)
  ·right
   rw [if_pos e.symm,i2] at hdt
   rw [if_pos (by simpa using e),aEU (by omega),aA]
   obtain ⟨s',w,hl,g1,g2,g3⟩:=aEw (step:=fun x:List Int × Int × Int=>fC (k:Int) (s.drop k) x.1 x.2.1 x.2.2) s k i1 hk hdt (fun j w s' x y j1 j2 j3 j4 hx hy=>by
    have hl:(s.drop k).length=s.length - k:=by simp
    have a1:(k:Int)+(j:Int)=((k+j:Nat):Int):=by omega
    have a2:wr ((j:Int) - 1)=((j - 1:Nat):Int):=by rw [dS (by omega) (by omega)];omega
    have a3:(k:Int)+((j - 1:Nat):Int)=((k+j - 1:Nat):Int):=by omega
    simp only [fC,hl,bU (show j < s.length - k by omega),if_pos,bR (xs:=s.drop k) (k:=j) (by omega),aA,a1,sT,hx,a2,List.getElem?_eq_getElem (show j - 1 < (s.drop k).length by omega),a3,hy,fB,bK (show j < s.length - k by omega) (by omega),List.getElem?_eq_getElem (show w < s'.length by omega),aBd (xs:=s') (k:=w) _ (by omega),bK j4 (show s.length < 4611686018427387904 by omega)]
    by_cases e:x=y<;>simp [e]) (fun s' w=>by
     have hl:(s.drop k).length=s.length - k:=by simp
     simp only [fC,hl,cO];rfl)
   rw [hl,aA]
   unfold gZ
   simp only
   rw [aEU (by omega),aA,aHU _ (by omega),aA,aNn (by simp;omega),aA]
   refine ⟨_,rfl,.inl ?_⟩
   rw [List.take_append_of_le_length (by simp;omega),List.take_take,Nat.min_self,g3]
  ·left
   rw [if_neg (by simpa using e)]
   refine ⟨(),rfl,by omega,?_⟩
   rw [hdt,if_neg (fun h=>e h.symm),i2,List.take_add_one]
   simp [hk]
 ·refine ⟨_,by simp only [fD,cO];rfl,.inr ⟨rfl,?_⟩⟩
  have:=hI.2
  rwa [List.take_of_length_le (by omega)] at this
 ·rcases s with _|⟨a,l⟩
  ·rfl
  ·rfl
structure aDL (xs:List Int) (X:Int->Prop):Prop where
 ord:xs.Pairwise (· < ·)
 mem:∀ q,q∈xs<->X q
theorem aDL.eq {xs ys:List Int} {X:Int->Prop} (a:aDL xs X) (b:aDL ys X):xs=ys:=
 aDK (R:=fun a b:Int=>a < b) (fun a=>Int.lt_irrefl a) (fun h1 h2=>Int.lt_trans h1 h2) a.ord b.ord fun q=>(a.mem q).trans (b.mem q).symm
theorem aDL.iff {xs:List Int} {X Y:Int->Prop} (a:aDL xs X) (h:∀ q,X q<->Y q):aDL xs Y:=⟨a.ord,fun q=>(a.mem q).trans (h q)⟩
theorem aDL.len {xs:List Int} {X:Int->Prop} (a:aDL xs X) {n:Nat} (h:∀ q,X q->0<=q/\q < n):xs.length<=n:=by
 have hn:xs.Nodup:=a.ord.imp fun h=>by omega
 have:=List.Nodup.length_le_of_subset (l₂:=(List.range n).map Int.ofNat) hn (fun x hx=>by
  have:=h x ((a.mem x).1 hx)
  rw [List.mem_map]
  exact ⟨x.toNat,by rw [List.mem_range];omega,by show ((x.toNat:Nat):Int)=x;omega⟩)
 simpa using this
def iLt (a b:Int):Bool:=decide (a < b)
theorem aGU {xs:List Int}:aDL (eC (qD iLt xs)) (fun q=>q∈xs):=by
 have h1:(qD iLt xs).Pairwise fun a b=>a<=b:=by
  have:=List.pairwise_mergeSort (le:=fun a b=>!iLt b a) (fun a b c h1 h2=>by unfold iLt at *;simp at *;omega) (fun a b=>by unfold iLt;simp;omega) xs
  refine this.imp fun {a b} h=>?_
  unfold iLt at h;simpa using h
 refine ⟨aFt (R:=fun a b:Int=>a<=b) (S:=fun a b:Int=>a < b) (fun h hne=>by omega) (fun h h'=>by omega) h1,fun q=>?_⟩
 rw [aET];unfold qD;rw [List.mem_mergeSort]
theorem aPM {xs:List Int} (hn:xs.Nodup):aDL (qD iLt xs) (fun q=>q∈xs):=by
 refine ⟨(aFw iLt (fun a=>by simp [iLt]) (fun {a b c} h1 h2=>by unfold iLt at *;simp at *;omega) (fun a b=>by unfold iLt;simp;omega) hn).imp fun h=>by unfold iLt at h;simpa using h,fun q=>?_⟩
 unfold qD;rw [List.mem_mergeSort]
theorem aFy {xs:List Int} (h:xs.length < 1000000000):aBi xs=some (qD iLt xs):=by
 unfold aBi;rw [if_pos (by unfold jA;omega)];rfl
inductive Cl (t:bB) (X:Int->Prop):Int->Prop
 |base {q:Int}:X q->Cl t X q
 |step {e:Edge}:e∈t.E->e.B=0->Cl t X e.F->Cl t X e.To
section
variable {t:bB} {X:Int->Prop}
theorem aNy (hv:bW t) {e:Edge} (he:e∈t.E):(0<=e.F/\e.F < t.N)/\(0<=e.To/\e.To < t.N)/\0<=e.B/\e.B < t.L.length:=by
 have h:=yX hv he
 unfold aDJ at h
 omega
theorem Cl.inn (hv:bW t) (h0:∀ q,X q->0<=q/\q < t.N) {q:Int} (h:Cl t X q):0<=q/\q < t.N:=by
 induction h with
 |base h=>exact h0 _ h
 |step he _ _ _=>have:=(aNy hv he).2.1;omega
theorem Cl.congr {Y:Int->Prop} (h:∀ q,X q->Y q) {q:Int} (hc:Cl t X q):Cl t Y q:=by
 induction hc with
 |base hx=>exact .base (h _ hx)
 |step a b _ ih=>exact .step a b ih
theorem Cl.iff {Y:Int->Prop} (h:∀ q,X q<->Y q) (q:Int):Cl t X q<->Cl t Y q:=⟨Cl.congr fun q=>(h q).1,Cl.congr fun q=>(h q).2⟩
def Aft (t:bB) (S:List Int) (k:Int) (q:Int):Prop:=∃ e∈t.E,e.B=k/\e.F∈S/\e.To=q
theorem Aft.inn (hv:bW t) {S:List Int} {k q:Int} (h:Aft t S k q):0<=q/\q < t.N:=by
 obtain ⟨e,he,_,_,rfl⟩:=h
 have:=(aNy hv he).2.1;omega
end
end Gv
namespace Gv
open Go
def aFO (o:List Int) (x:Int):List Int:=if x∈o then o else o++[x]
theorem aMt:∀ (l o:List Int),o.Nodup->o <+:l.foldl aFO o/\(l.foldl aFO o).Nodup/\(∀ q,q∈l.foldl aFO o<->q∈o\/q∈l)/\(l.foldl aFO o).length<=o.length+l.length
 |[],o,h=>⟨List.prefix_refl _,h,fun q=>by simp,by simp⟩
 |x::l,o,h=>by
  have h':(aFO o x).Nodup:=by
   unfold aFO
   split
   ·exact h
   ·rename_i hx
    rw [List.nodup_append]
    refine ⟨h,by simp,fun a ha b hb=>?_⟩
    simp at hb;subst hb
    exact fun e=>hx (e ▸ ha)
  obtain ⟨g1,g2,g3,g4⟩:=aMt l (aFO o x) h'
  have hp:o <+:aFO o x:=by
   unfold aFO;split
   ·exact List.prefix_refl _
   ·exact List.prefix_append _ _
  have hm:∀ q,q∈aFO o x<->q∈o\/q=x:=fun q=>by
   unfold aFO;split
   ·rename_i hx
    constructor
    ·exact .inl
    ·rintro (h|rfl)
     ·exact h
     ·exact hx
   ·simp
  refine ⟨hp.trans g1,g2,fun q=>?_,?_⟩
  ·rw [List.foldl_cons,g3 q,hm q,List.mem_cons,or_assoc]
  ·rw [List.foldl_cons]
   have:(aFO o x).length<=o.length+1:=by unfold aFO;split<;>simp
   rw [List.length_cons];omega
theorem aJo {xs:List Int} {s:Int}:(xs.any fun x=>s == x)=decide (s∈xs):=by
 rw [Bool.eq_iff_iff,List.any_eq_true,decide_eq_true_iff]
 constructor
 ·rintro ⟨x,hx,h⟩
  rw [beq_iff_eq] at h
  exact h ▸ hx
 ·intro h;exact ⟨s,h,by simp⟩
section
variable {t:bB}
end
end Gv
namespace Gv
open Go
theorem aEV {σ ρ:Type} {step:σ->Option (σ ⊕ ρ)} {s s':σ} (h:step s=some (.inl s')):loop step s=loop step s':=by rw [cI,h]
theorem aDM {σ ρ:Type} {step:σ->Option (σ ⊕ ρ)} {s:σ} {r:ρ} (h:step s=some (.inr r)):loop step s=some r:=by rw [cI,h]
section
variable {κ β:Type} [DecidableEq β] [BEq β] [LawfulBEq β] (key:κ->β)
def atK (F:List κ) (q:κ):Int:=if key q∈F.map key then pos (F.map key) (key q) else (F.length:Int)
def uU (F:List κ) (q:κ):List κ:=if key q∈F.map key then F else F++[q]
def add1 (i:Int) (s:List κ × List Edge) (x:Int × κ):List κ × List Edge:=(uU key s.1 x.2,s.2++[⟨i,x.1,atK key s.1 x.2⟩])
variable {key}
theorem aLj (F:List κ) (q:κ):F <+:uU key F q:=by
 unfold uU;split
 ·exact List.prefix_refl _
 ·exact List.prefix_append _ _
theorem aLk (F:List κ) (q:κ):(uU key F q).length<=F.length+1:=by unfold uU;split<;>simp
theorem atK_in (F:List κ) (q:κ):0<=atK key F q/\atK key F q < (uU key F q).length:=by
 unfold atK uU
 by_cases h:key q∈F.map key
 ·rw [if_pos h,if_pos h]
  obtain ⟨i,hi,e,_⟩:=aAW h
  rw [List.length_map] at hi
  omega
 ·rw [if_neg h,if_neg h,List.length_append,List.length_singleton];omega
theorem aPN {F:List κ} (h:(F.map key).Nodup) (q:κ):((uU key F q).map key).Nodup:=by
 unfold uU;split
 ·exact h
 ·rename_i hx
  rw [List.map_append,List.nodup_append]
  refine ⟨h,by simp,fun a ha b hb=>?_⟩
  simp at hb;subst hb
  exact fun e=>hx (e ▸ ha)
theorem insK_all {P:κ->Prop} {F:List κ} (h:∀ x∈F,P x) {q:κ} (hq:P q):∀ x∈uU key F q,P x:=by
 unfold uU;split
 ·exact h
 ·intro x hx
  rcases List.mem_append.1 hx with hx|hx
  ·exact h x hx
  ·simp at hx;subst hx;exact hq
theorem insK_mem (F:List κ) (q:κ):key q∈(uU key F q).map key:=by
 unfold uU;split
 ·assumption
 ·simp
theorem ED.done {L:List aI} {j n:Nat} {ed:List Edge} (h:ED L (j:Int) 0 n ed) (hj:j<=n):ed.Pairwise flLt/\∀ e∈ed,(0<=e.F/\e.F < n)/\(1<=e.B/\e.B<=L.length)/\0<=e.To/\e.To < n:=
 ⟨h.ord,fun e he=>by have:=h.all e he;omega⟩
def Small (s:List κ × List Edge):Prop:=s.1.length<=40/\s.2.length<=300
instance (s:List κ × List Edge):Decidable (Small s):=by unfold Small;infer_instance
theorem Small.pre {s u:List κ × List Edge} (h:s.1 <+:u.1/\s.2 <+:u.2) (hu:Small u):Small s:=⟨Nat.le_trans h.1.length_le hu.1,Nat.le_trans h.2.length_le hu.2⟩
theorem pos_inj {γ:Type} [BEq γ] [LawfulBEq γ] {ks:β->γ} {b:β}:∀ {A:List β},(∀ x∈A,ks x=ks b->x=b)->pos (A.map ks) (ks b)=pos A b
 |[],_=>rfl
 |x::A,h=>by
  have ih:=pos_inj (ks:=ks) (b:=b) (A:=A) fun y hy=>h y (by simp [hy])
  unfold pos at ih ⊢
  rw [List.map_cons,List.findIdx?_cons,List.findIdx?_cons]
  by_cases e:b=x
  ·subst e;simp
  ·have e2:¬ ks b=ks x:=fun e'=>e (h x (by simp) e'.symm).symm
   rw [if_neg (by simpa using e2),if_neg (by simpa using e)]
   cases h1:List.findIdx? (fun x=>ks b == x) (A.map ks)<;>cases h2:List.findIdx? (fun x=>b == x) A<;>rw [h1,h2] at ih<;>simp only [Option.map_none,Option.map_some] at ih ⊢<;>omega
theorem key_in {γ:Type} {ks:β->γ} {b:β} {A:List β} (h:∀ x∈A,ks x=ks b->x=b):ks b∈A.map ks<->b∈A:=by
 constructor
 ·intro hb
  obtain ⟨x,hx,e⟩:=List.mem_map.1 hb
  exact h x hx e ▸ hx
 ·exact fun hb=>List.mem_map_of_mem hb
end
end Gv
namespace Gv
open Go
section
structure GoodS (t:bB) (S:List Int):Prop where
 len:S.length<=40
 inn:∀ q∈S,0<=q/\q < t.N
variable {t:bB}
end
end Gv
namespace Gv
open Go
def kS (S:List Int):aI:=Lib.join (S.map Lib.itoa) [44]
theorem aEW {v:Int} (h0:0<=v) (h1:v<=63):(44:UInt8)∉Lib.itoa v/\Lib.itoa v≠[]:=by
 have h:=aKS h0 h1
 refine ⟨fun hm=>?_,fun e=>by rw [e] at h;cases h⟩
 have:=List.all_eq_true.1 (isNum_ok h) _ hm
 exact absurd this (by decide)
theorem app_inj {c:UInt8}:∀ {x y r r':aI},c∉x->c∉y->x++c::r=y++c::r'->x=y/\r=r'
 |[],[],r,r',_,_,h=>⟨rfl,by simpa using h⟩
 |[],b::y,r,r',_,hy,h=>by simp at h;exact absurd (by simp [h.1]) hy
 |a::x,[],r,r',hx,_,h=>by simp at h;exact absurd (by simp [h.1]) hx
 |a::x,b::y,r,r',hx,hy,h=>by
  simp only [List.cons_append,List.cons.injEq] at h
  obtain ⟨g1,g2⟩:=app_inj (fun hm=>hx (by simp [hm])) (fun hm=>hy (by simp [hm])) h.2
  exact ⟨by rw [h.1,g1],g2⟩
theorem aEX (x y:aI) (l:List aI):Lib.join (x::y::l) [44]=x++(44::Lib.join (y::l) [44]):=by
 rw [Lib.join_cons,Lib.join_cons]
 simp [Lib.joinTail]
theorem kS_inj:∀ {S T:List Int},(∀ q∈S,0<=q/\q<=63)->(∀ q∈T,0<=q/\q<=63)->kS S=kS T->S=T
 |[],[],_,_,_=>rfl
 |[],b::T,_,hT,h=>by
  have hb:=aEW (hT b (by simp)).1 (hT b (by simp)).2
  cases T with
  |nil=>unfold kS at h;simp only [List.map_cons,List.map_nil,Lib.join_one,Lib.join_nil] at h;exact absurd h.symm hb.2
  |cons c T=>unfold kS at h;simp only [List.map_cons,List.map_nil,aEX,Lib.join_nil] at h;simp at h
 |a::S,[],hS,_,h=>by
  have hb:=aEW (hS a (by simp)).1 (hS a (by simp)).2
  cases S with
  |nil=>unfold kS at h;simp only [List.map_cons,List.map_nil,Lib.join_one,Lib.join_nil] at h;exact absurd h hb.2
  |cons c T=>unfold kS at h;simp only [List.map_cons,List.map_nil,aEX,Lib.join_nil] at h;simp at h
 |[a],[b],hS,hT,h=>by
  have ha:=hS a (by simp);have hb:=hT b (by simp)
  unfold kS at h
  simp only [List.map_cons,List.map_nil,Lib.join_one] at h
  rw [aLg (by omega) (by omega) h]
 |[a],b::c::T,hS,hT,h=>by
  have ha:=aEW (hS a (by simp)).1 (hS a (by simp)).2
  unfold kS at h
  simp only [List.map_cons,List.map_nil,Lib.join_one,aEX] at h
  exact absurd (by rw [h];simp) ha.1
 |a::c::S,[b],hS,hT,h=>by
  have hb:=aEW (hT b (by simp)).1 (hT b (by simp)).2
  unfold kS at h
  simp only [List.map_cons,List.map_nil,Lib.join_one,aEX] at h
  exact absurd (by rw [←h];simp) hb.1
 |a::c::S,b::d::T,hS,hT,h=>by
  have ha:=hS a (by simp);have hb:=hT b (by simp)
  have h':Lib.itoa a++(44::kS (c::S))=Lib.itoa b++(44::kS (d::T)):=by
   unfold kS at h ⊢
   simp only [List.map_cons,aEX] at h ⊢
   exact h
  obtain ⟨g1,g2⟩:=app_inj (aEW ha.1 ha.2).1 (aEW hb.1 hb.2).1 h'
  have:=kS_inj (fun q hq=>hS q (List.mem_cons_of_mem _ hq)) (fun q hq=>hT q (List.mem_cons_of_mem _ hq)) g2
  rw [aLg (by omega) (by omega) g1,this]
theorem kS_len:∀ {S:List Int},(∀ q∈S,0<=q/\q<=63)->(kS S).length<=3 * S.length
 |[],_=>by simp [kS,Lib.join_nil]
 |[a],h=>by
  have:=aOy (a:=a) (by have:=h a (by simp);omega)
  unfold kS
  simp only [List.map_cons,List.map_nil,Lib.join_one,List.length_singleton];omega
 |a::c::S,h=>by
  have:=aOy (a:=a) (by have:=h a (by simp);omega)
  have ih:=kS_len (S:=c::S) fun q hq=>h q (List.mem_cons_of_mem _ hq)
  unfold kS at ih ⊢
  simp only [List.map_cons,aEX,List.length_append,List.length_cons] at ih ⊢
  omega
section
variable {t:bB}
theorem GoodS.small (hv:bW t) {S:List Int} (h:GoodS t S):∀ q∈S,0<=q/\q<=63:=fun q hq=>by have:=h.inn q hq;have:=hv.1;omega
end
end Gv
namespace Gv
open Go
theorem aPO (l:List aI) (a:Nat) (ha:a<=l.length) (h:l.length < 1000000000):∃ z:aI,loop (fun s:List aI × Int=>aAu (a:Int) s.1 s.2) (l++[[]],(l.length:Int))=some (l.take a++z::l.drop a):=by
 have key:=lD (step:=fun s:List aI × Int=>aAu (a:Int) s.1 s.2) (fun s=>∃ (k:Nat) (z:aI),s=(l.take k++z::l.drop k,(k:Int))/\a<=k/\k<=l.length) (fun s=>s.2.toNat)
  (fun x=>∃ z:aI,x=l.take a++z::l.drop a) (fun s hI=>?_) (s:=(l++[[]],(l.length:Int))) ⟨l.length,[],by simp,ha,Nat.le_refl _⟩
 ·obtain ⟨r,h1,z,rfl⟩:=key
  exact ⟨z,h1⟩
 ·obtain ⟨k,z,rfl,hak,hk⟩:=hI
  simp only [aAu]
  have hlen:(l.take k++z::l.drop k).length=l.length+1:=by simp;omega
  by_cases h0:a < k
  ·have hk1:wr ((k:Int) - 1)=((k - 1:Nat):Int):=by rw [dS (by omega) (by omega)];omega
   rw [decide_eq_true (p:=(a:Int) < (k:Int)) (by omega),if_pos rfl,hk1,bR (xs:=l.take k++z::l.drop k) (k:=k - 1) (by omega),aA,bR (by omega),aA,aBd _ (by omega),aA]
   left
   refine ⟨_,rfl,⟨k - 1,l[k - 1],?_,by omega,by omega⟩,by simp;omega⟩
   have e1:(l.take k++z::l.drop k)[k - 1]'(by omega)=l[k - 1]:=by
    rw [List.getElem_append_left (by simp;omega),List.getElem_take]
   rw [e1]
   have e2:(l.take k++z::l.drop k).set k l[k - 1]=l.take k++l[k - 1]::l.drop k:=by
    rw [List.set_append_right _ _ (by rw [List.length_take];omega)]
    simp [Nat.min_eq_left hk]
   have e3:l.take k=l.take (k - 1)++[l[k - 1]]:=by
    have:=List.take_add_one (l:=l) (i:=k - 1)
    rw [show k - 1+1=k by omega,List.getElem?_eq_getElem (by omega)] at this
    exact this
   have e4:l.drop (k - 1)=l[k - 1]::l.drop k:=by
    have:=List.drop_eq_getElem_cons (l:=l) (i:=k - 1) (by omega)
    rw [show k - 1+1=k by omega] at this
    exact this
   simp only [Prod.mk.injEq,and_true]
   rw [e2,e3,e4,List.append_assoc];rfl
  ·obtain rfl:k=a:=by omega
   right
   rw [decide_eq_false (p:=(k:Int) < (k:Int)) (by omega),if_neg (by simp)]
   exact ⟨_,rfl,z,rfl⟩
theorem join_find (l:List aI) (e:aI) (h1:1<=l.length) (h:l.length < 1000000000):∃ a:Nat,loop (fun s:Int=>wR l e s) 1=some (a:Int)/\1<=a/\a<=l.length/\(∀ (j:Nat) x,1<=j->j < a->l[j]?=some x->vJ x e=true)/\(∀ x,l[a]?=some x->vJ x e=false):=by
 have key:=lD (step:=fun s:Int=>wR l e s) (fun s=>∃ a:Nat,s=(a:Int)/\1<=a/\a<=l.length/\∀ (j:Nat) x,1<=j->j < a->l[j]?=some x->vJ x e=true) (fun s=>l.length - s.toNat)
  (fun r=>∃ a:Nat,r=(a:Int)/\1<=a/\a<=l.length/\(∀ (j:Nat) x,1<=j->j < a->l[j]?=some x->vJ x e=true)/\(∀ x,l[a]?=some x->vJ x e=false)) (fun s hI=>?_) (s:=1) ⟨1,rfl,Nat.le_refl _,h1,fun j x g1 g2=>by omega⟩
 ·obtain ⟨r,hr,a,rfl,h2⟩:=key
  exact ⟨a,hr,h2⟩
 ·obtain ⟨a,rfl,ha1,ha,hall⟩:=hI
  by_cases hlt:a < l.length
  ·have hx:l[a]?=some l[a]:=List.getElem?_eq_getElem hlt
   simp only [wR,bU hlt,if_pos,bR hlt,aA,aAv]
   cases he:vJ l[a] e with
   |true=>
    left
    refine ⟨_,by rw [if_pos rfl,bK hlt (by omega)],⟨a+1,rfl,by omega,by omega,fun j x g1 g2 hj=>?_⟩,by simp;omega⟩
    by_cases e1:j=a
    ·subst e1;rw [hx] at hj;cases hj;exact he
    ·exact hall j x g1 (by omega) hj
   |false=>
    right
    refine ⟨_,by rw [if_neg (by simp)],a,rfl,ha1,ha,hall,fun x hj=>?_⟩
    rw [hx] at hj;cases hj;exact he
  ·obtain rfl:a=l.length:=by omega
   right
   refine ⟨_,by simp only [wR,cO,aAv];rw [if_neg (by simp),if_neg (by simp)],_,rfl,ha1,Nat.le_refl _,hall,fun x hx=>?_⟩
   rw [List.getElem?_eq_none (Nat.le_refl _)] at hx;cases hx
theorem join_step (xs:List aI) (M:List aI) (hM:pZ M) (hl:M.length < 1000000) (hx:xs.length < 1000000) {k:Nat} (hk:k < xs.length):∃ M',sZ xs (bF::M) (k:Int)=some (.inl (bF::M',((k+1:Nat):Int)))/\pZ M'/\(∀ s,s∈M'<->s∈M\/(s=xs[k]/\s≠bF))/\M'.length<=M.length+1:=by
 have hw:=bK hk (show xs.length < 4611686018427387904 by omega)
 simp only [sZ,bU hk,if_pos,bR hk,aA,aLh (bF::M) xs[k] (by simp;omega),wQ,hw]
 by_cases hm:xs[k]∈bF::M
 ·rw [if_pos (by simpa using xH.2 hm)]
  refine ⟨M,rfl,hM,fun s=>⟨.inl,?_⟩,by omega⟩
  rintro (h|⟨rfl,h⟩)
  ·exact h
  ·rcases List.mem_cons.1 hm with h'|h'
   ·exact absurd h' h
   ·exact h'
 ·rw [if_neg (by have:¬ 0<=pos (bF::M) xs[k]:=fun h=>hm (xH.1 h);simpa using this)]
  have hne:xs[k]≠bF:=fun h=>hm (by rw [h];simp)
  have hnm:xs[k]∉M:=fun h=>hm (by simp [h])
  obtain ⟨a,h1,h2,h3,h4,h5⟩:=join_find (bF::M) xs[k] (by simp) (by simp;omega)
  rw [h1,aA]
  unfold aCI
  rw [cQ (by simp [jA];omega),aA]
  have hk1:wr ((((bF::M)++([([]:aI)]:List aI)).length:Int) - 1)=((bF::M).length:Int):=by
   simp only [List.length_append,List.length_cons,List.length_nil]
   rw [dS (by omega) (by omega)];omega
  rw [hk1]
  obtain ⟨z,hz⟩:=aPO (bF::M) a h3 (by simp;omega)
  rw [hz,aA]
  unfold aCH
  have hlen:((bF::M).take a++z::(bF::M).drop a).length=(bF::M).length+1:=by simp;omega
  rw [bR (by omega),aA,aBd _ (by omega),aA]
  have e2:((bF::M).take a++z::(bF::M).drop a).set a xs[k]=(bF::M).take a++xs[k]::(bF::M).drop a:=by
   rw [List.set_append_right _ _ (by rw [List.length_take];omega),List.length_take,Nat.min_eq_left h3,Nat.sub_self];rfl
  rw [e2]
  obtain ⟨b,rfl⟩:∃ b,a=b+1:=⟨a - 1,by omega⟩
  have h3':b<=M.length:=by simpa using h3
  have hbef:∀ x∈M.take b,vJ x xs[k]=true:=fun x hx=>by
   obtain ⟨j,hj,rfl⟩:=List.getElem_of_mem hx
   rw [List.length_take] at hj
   exact h4 (j+1) _ (by omega) (by omega) (by rw [List.getElem_take,List.getElem?_cons_succ];exact List.getElem?_eq_getElem (by omega))
  have haft:∀ x∈M.drop b,vJ xs[k] x=true:=fun x hx=>by
   obtain ⟨j,hj,rfl⟩:=List.getElem_of_mem hx
   rw [List.length_drop] at hj
   have hb:b < M.length:=by omega
   have g:vJ M[b] xs[k]=false:=h5 _ (by rw [List.getElem?_cons_succ];exact List.getElem?_eq_getElem hb)
   have g2:vJ xs[k] M[b]=true:=by
    rcases aIK xs[k] M[b] with t|t|t
    ·exact t
    ·exact absurd (t ▸ List.getElem_mem hb) hnm
    ·rw [g] at t;cases t
   rw [List.getElem_drop]
   by_cases j0:j=0
   ·subst j0;exact g2
   ·exact xG g2 (List.pairwise_iff_getElem.1 hM.1 b (b+j) hb (by omega) (by omega))
  refine ⟨M.take b++xs[k]::M.drop b,by unfold wQ;rw [hw];rfl,⟨?_,fun h=>?_⟩,fun s=>?_,by simp;omega⟩
  ·have hs':(M.take b++M.drop b).Pairwise fun a b=>vJ a b=true:=by rw [List.take_append_drop];exact hM.1
   rw [List.pairwise_append] at hs'
   rw [List.pairwise_append,List.pairwise_cons]
   refine ⟨hs'.1,⟨haft,hs'.2.1⟩,fun x hx y hy=>?_⟩
   rcases List.mem_cons.1 hy with rfl|hy
   ·exact hbef x hx
   ·exact xG (hbef x hx) (haft y hy)
  ·rw [List.mem_append,List.mem_cons] at h
   rcases h with h|h|h
   ·exact hM.2 (List.mem_of_mem_take h)
   ·exact hne h.symm
   ·exact hM.2 (List.mem_of_mem_drop h)
  ·rw [List.mem_append,List.mem_cons]
   conv=>rhs;rw [←List.take_append_drop b M,List.mem_append]
   constructor
   ·rintro (g|g|g)
    ·simp [g]
    ·exact .inr ⟨g,g ▸ hne⟩
    ·simp [g]
   ·rintro ((g|g)|⟨g,_⟩)<;>simp [g]
theorem aIN (xs:List aI) (hx:xs.length < 1000000):∃ M,aEH xs=some (bF::M)/\pZ M/\(∀ s,s∈M<->s∈xs/\s≠bF)/\M.length<=xs.length:=by
 have key:=gS (step:=fun s:List aI × Int=>sZ xs s.1 s.2) xs.length (fun k (M:List aI)=>(bF::M,(k:Int))) (fun k M=>pZ M/\(∀ s,s∈M<->s∈xs.take k/\s≠bF)/\M.length<=k)
  (fun r=>∃ M,r=bF::M/\pZ M/\(∀ s,s∈M<->s∈xs/\s≠bF)/\M.length<=xs.length) (fun k M hk hI=>?_) (fun M hI=>?_) xs.length 0 [] (by omega) ⟨⟨by simp,by simp⟩,by simp,by simp⟩
 ·obtain ⟨r,h1,M,rfl,h2⟩:=key
  refine ⟨M,?_,h2⟩
  unfold aEH
  rw [show loop (fun s:List aI × Int=>sZ xs s.1 s.2) ([[116,97,117]],0)=some (bF::M) from h1];rfl
 ·obtain ⟨i1,i2,i3⟩:=hI
  obtain ⟨M',g1,g2,g3,g4⟩:=join_step xs M i1 (by omega) hx hk
  refine ⟨M',g1,g2,fun s=>?_,by omega⟩
  rw [g3 s,i2 s,List.take_add_one,List.getElem?_eq_getElem hk,List.mem_append]
  simp only [Option.toList_some,List.mem_singleton]
  constructor
  ·rintro (⟨a,b⟩|⟨a,b⟩)
   ·exact ⟨.inl a,b⟩
   ·exact ⟨.inr a,b⟩
  ·rintro ⟨a|a,b⟩
   ·exact .inl ⟨a,b⟩
   ·exact .inr ⟨a,b⟩
 ·obtain ⟨i1,i2,i3⟩:=hI
  rw [List.take_length] at i2
  exact ⟨_,by simp only [sZ,cO];rfl,M,rfl,i1,i2,i3⟩
theorem aOE {M M':List aI} (h:pZ M) (h':pZ M') (hm:∀ s,s∈M<->s∈M'):M=M':=
 aDK (R:=fun a b=>vJ a b=true) (fun a h=>by rw [mP] at h;cases h) xG h.1 h'.1 hm
theorem aNA {A B:List Edge} (h:SE A) (h':SE B) (hm:∀ x,x∈A<->x∈B):A=B:=
 aDK (R:=fun a b=>bM a b=true) (fun a h=>by rw [wM] at h;cases h) (fun h1 h2=>wN h1 h2) h h' hm
theorem aOF {texts M:List aI} {edges Eo:List Edge} (ht:texts.length < 1000000) (hM:pZ M) (hm:∀ s,s∈M<->s∈texts/\s≠bF) (hlen:edges.length < 1000000) (hin:∀ e∈edges,0<=e.B/\e.B < texts.length)
  (hEE:SE Eo) (he:∀ x,x∈Eo<->∃ e∈edges,x=⟨e.F,pos (bF::M) (texts.getD e.B.toNat []),e.To⟩) (st ini:Int):qE st ini texts edges=some ⟨st,ini,bF::M,Eo⟩:=by
 obtain ⟨M',j1,j2,j3,j4⟩:=aIN texts ht
 obtain rfl:M'=M:=aOE j2 hM fun s=>(j3 s).trans (hm s).symm
 unfold qE
 rw [j1,aA]
 have key:=gS (step:=fun s:List Edge × Int=>wS texts edges (bF::M') s.1 s.2) edges.length (fun k (a:List Edge)=>(a,(k:Int))) (fun k a=>SE a/\(∀ x,x∈a<->∃ e∈edges.take k,x=⟨e.F,pos (bF::M') (texts.getD e.B.toNat []),e.To⟩)/\a.length<=k)
  (fun x=>x=Eo) (fun k a hk hI=>?_) (fun a hI=>?_) edges.length 0 [] (by omega) ⟨List.Pairwise.nil,by simp,by simp⟩
 ·obtain ⟨x,hx,hx2⟩:=key
  have hx':loop (fun s:List Edge × Int=>wS texts edges (bF::M') s.1 s.2) (([]:List Edge),0)=some x:=hx
  rw [hx',aA,hx2];rfl
 ·obtain ⟨hs,hmem,hl⟩:=hI
  have hi:=hin _ (List.getElem_mem hk)
  have hlt:edges[k].B.toNat < texts.length:=by omega
  have hgd:texts.getD edges[k].B.toNat []=texts[edges[k].B.toNat]:=by rw [List.getD_eq_getElem?_getD,List.getElem?_eq_getElem hlt];rfl
  simp only [wS,bU hk,if_pos,bR hk,aA]
  rw [aHg hi.1 hlt,aA,aLh _ _ (by simp;omega),aA,←hgd]
  obtain ⟨l',h1,h2,h3,h4⟩:=l11Put_eq a ⟨edges[k].F,pos (bF::M') (texts.getD edges[k].B.toNat []),edges[k].To⟩ (by omega) hs
  rw [h1,aA]
  refine ⟨l',by rw [bK hk (show edges.length < 4611686018427387904 by omega)],h2,fun x=>?_,by omega⟩
  rw [h3,hmem,List.take_add_one,List.getElem?_eq_getElem hk]
  simp only [Option.toList_some,List.mem_append,List.mem_singleton]
  constructor
  ·rintro (g|⟨e,g1,g2⟩)
   ·exact ⟨_,.inr rfl,g⟩
   ·exact ⟨e,.inl g1,g2⟩
  ·rintro ⟨e,g1|rfl,g2⟩
   ·exact .inr ⟨e,g1,g2⟩
   ·exact .inl g2
 ·obtain ⟨hs,hmem,hl⟩:=hI
  rw [List.take_length] at hmem
  exact ⟨a,by simp only [wS,cO];rfl,aNA hs hEE fun x=>(hmem x).trans (he x).symm⟩
theorem lts_gen {st ini:Int} {labels M:List aI} {arcs:List fX} {Eo:List Edge} (hM:pZ M) (hm:∀ s,s∈M<->s∈labels/\s≠bF) (h1:labels.length < 1000000) (h2:arcs.length < 1000000)
  (hn:(arcs.map fun a=>(⟨a.from_,pos (bF::M) a.label,a.to_⟩:Edge)).Nodup) (hEE:SE Eo) (he:∀ x,x∈Eo<->x∈arcs.map fun a=>(⟨a.from_,pos (bF::M) a.label,a.to_⟩:Edge)) (h3:M.length < 1000000):
  aJE st ini labels arcs=some ⟨st,ini,bF::M,Eo⟩:=by
 unfold aJE
 rw [show ([116,97,117]:aI)=bF from rfl,cQ (by simp [jA];omega),aA]
 have e1:aBh ([bF]++labels)=some (qD aAc ([bF]++labels)):=by unfold aBh;rw [if_pos (by simp [jA];omega)]
 rw [e1,aA,aJJ _ (by unfold qD;rw [List.length_mergeSort];simp;omega),aA]
 rw [aMn aAc aJk aKX aGT hM.lab (fun x=>?_)]
 ·rw [aBt (step:=fun s:List Edge × Int=>aBW arcs (bF::M) s.1 s.2) arcs (fun a=>(⟨a.from_,pos (bF::M) a.label,a.to_⟩:Edge)) id (fun k out x hk ho hx=>?_) (fun out=>by simp only [aBW,cO];rfl),aA]
  ·unfold aGt
   have hst:=aFw bM wM wN aCg hn
   have e2:mE (id (arcs.map fun a=>(⟨a.from_,pos (bF::M) a.label,a.to_⟩:Edge)))=some Eo:=by
    unfold mE;rw [if_pos (by simp [jA];omega),id,aNA hst hEE fun x=>by unfold qD;rw [List.mem_mergeSort];exact (he x).symm]
   have hEl:Eo.length=arcs.length:=by
    rw [←aNA hst hEE fun x=>by unfold qD;rw [List.mem_mergeSort];exact (he x).symm]
    unfold qD;rw [List.length_mergeSort,List.length_map]
   rw [e2,aA,aNo _ (by omega) hEE,aA]
  ·simp only [aBW,bU hk,if_pos,hx,aA,aJi _ _ (show (bF::M).length < 4611686018427387904 by simp;omega),bK hk (show arcs.length < 4611686018427387904 by omega)]
   rw [cQ (by simp [jA];omega),aA]
 ·by_cases e:x=bF
  ·subst e;simp
  ·simp [e,hm x]
end Gv
namespace Gv
open Go
structure Jn (a b:bB) (M:List aI):Prop where
 str:pZ M
 mem:∀ s,s∈M<->s∈a.L++b.L/\s≠bF
 len:M.length<=24
def inQ (a b:bB) (q:Int × Int):Prop:=(0<=q.1/\q.1 < a.N)/\0<=q.2/\q.2 < b.N
section
variable {a b:bB} {M:List aI}
def atQ (F:List (Int × Int)) (i:Int):Int × Int:=F.getD i.toNat (0,0)
theorem atQ_mem {F:List (Int × Int)} {i:Int} (h0:0<=i) (h:i < F.length):atQ F i∈F:=by
 unfold atQ;rw [List.getD_eq_getElem?_getD,List.getElem?_eq_getElem (by omega)];exact List.getElem_mem _
theorem atQ_inj {F:List (Int × Int)} (hn:F.Nodup) {i j:Int} (hi:0<=i/\i < F.length) (hj:0<=j/\j < F.length) (h:atQ F i=atQ F j):i=j:=by
 unfold atQ at h
 rw [List.getD_eq_getElem?_getD,List.getElem?_eq_getElem (by omega),List.getD_eq_getElem?_getD,List.getElem?_eq_getElem (by omega)] at h
 simp only [Option.getD_some] at h
 have:=(List.getElem_inj hn).1 h
 omega
def Bnd (s:List (Int × Int) × List Edge):Prop:=∀ e∈s.2,(0<=e.F/\e.F < s.1.length)/\0<=e.To/\e.To < s.1.length
theorem Bnd.add {s:List (Int × Int) × List Edge} (h:Bnd s) {i:Nat} (hi:i < s.1.length) (x:Int × (Int × Int)):Bnd (add1 id (i:Int) s x):=by
 intro e he
 have hl:=(aLj (key:=id) s.1 x.2).length_le
 have ha:=atK_in (key:=id) s.1 x.2
 simp only [add1] at he ⊢
 rcases List.mem_append.1 he with he|he
 ·have:=h e he;omega
 ·simp at he;subst he
  simp only;omega
def imE (g:Int × Int->Int) (F:List (Int × Int)) (E:List Edge):List Edge:=E.map fun e=>⟨g (atQ F e.F),e.B,g (atQ F e.To)⟩
theorem imE_nodup {g:Int × Int->Int} {F:List (Int × Int)} {E:List Edge} (hb:Bnd (F,E)) (hn:F.Nodup) (hg:∀ p∈F,∀ q∈F,g p=g q->p=q) (hE:E.Pairwise flLt):(imE g F E).Nodup:=by
 unfold imE List.Nodup
 rw [List.pairwise_map]
 refine hE.imp_of_mem ?_
 intro e f he hf h heq
 simp only [Edge.mk.injEq] at heq
 have h1:=hb e he
 have h2:=hb f hf
 simp only at h1 h2
 have:=atQ_inj hn h1.1 h2.1 (hg _ (atQ_mem h1.1.1 h1.1.2) _ (atQ_mem h2.1.1 h2.1.2) heq.1)
 unfold flLt at h
 omega
theorem aMu (p q:Int × Int):prLt p q=true<->p.1 < q.1\/(p.1=q.1/\p.2 < q.2):=by
 simp [prLt]
end
end Gv
namespace Gv
open Go
structure Shd (M sh:List aI):Prop where
 len:sh.length<=1000
 mem:∀ s∈M,(nC 40 s).1∈sh
theorem aNB {β γ ρ:Type} {step:(List γ × Int)->Option ((List γ × Int) ⊕ ρ)} (xs:List β) (p:β->Bool) (f:β->γ) (e:List γ->ρ) (N:Nat)
  (h:∀ (k:Nat) out x,k < xs.length->out.length<=N+k->ix xs (k:Int)=some x->step (out,(k:Int))=some (.inl (if p x=true then out++[f x] else out,((k+1:Nat):Int))))
  (h':∀ out,step (out,(xs.length:Int))=some (.inr (e out))) {o:List γ} (ho:o.length<=N):loop step (o,0)=some (e (o++(xs.filter p).map f)):=by
 have:=kH (step:=step) xs (fun k out=>(out,(k:Int))) (fun l out=>e (out++(l.filter p).map f)) (fun k out=>out.length<=N+k) (fun k a x l hk hx hI=>?_) (fun a _=>by simp [h']) (a:=o) (by simpa using ho)
 ·exact this
 ·left;rw [h k a x hk hI hx]
  by_cases hp:p x=true
  ·exact ⟨a++[f x],by rw [if_pos hp],by simp;omega,by simp [hp]⟩
  ·exact ⟨a,by rw [if_neg hp],by omega,by simp [hp]⟩
def nm (b:bB) (q:Int × Int):Int:=q.1 * b.N+q.2
section
variable {a b:bB} {M sh:List aI}
theorem nm_lt (hb:bW b) {p q:Int × Int} (hp:0<=p.2/\p.2 < b.N) (hq:0<=q.2/\q.2 < b.N):prLt p q=true<->nm b p < nm b q:=by
 have h2:=hb.1
 rw [aMu]
 unfold nm
 constructor
 ·rintro (h|⟨h,h'⟩)
  ·have:(p.1+1) * b.N<=q.1 * b.N:=Int.mul_le_mul_of_nonneg_right (by omega) (by omega)
   rw [Int.add_mul,Int.one_mul] at this
   omega
  ·rw [h];omega
 ·intro h
  rcases Int.lt_trichotomy p.1 q.1 with g|g|g
  ·exact .inl g
  ·right;rw [g] at h;omega
  ·exfalso
   have:(q.1+1) * b.N<=p.1 * b.N:=Int.mul_le_mul_of_nonneg_right (by omega) (by omega)
   rw [Int.add_mul,Int.one_mul] at this
   omega
theorem nm_inj (hb:bW b) {p q:Int × Int} (hp:0<=p.2/\p.2 < b.N) (hq:0<=q.2/\q.2 < b.N) (h:nm b p=nm b q):p=q:=by
 have h1:=nm_lt hb hp hq
 have h2:=nm_lt hb hq hp
 rw [aMu] at h1 h2
 obtain ⟨p1,p2⟩:=p
 obtain ⟨q1,q2⟩:=q
 simp only [Prod.mk.injEq] at *
 omega
end
end Gv
namespace Gv
open Go
section
variable {a b:bB} {M sh:List aI}
structure Rf (b:bB) (s:List (Int × Int) × List Edge) (ed:List Edge):Prop where
 se:SE ed
 mem:∀ x,x∈ed<->x∈imE (nm b) s.1 s.2
theorem aLl {l:List Edge} (h:SE l):l.Nodup:=h.imp fun {x y} h e=>by subst e;rw [wM] at h;cases h
theorem Rf.len (hb:bW b) {s:List (Int × Int) × List Edge} {ed:List Edge} (h:Rf b s ed) (hB:Bnd s) (hn:s.1.Nodup) (hq:∀ q∈s.1,inQ a b q) (hE:s.2.Pairwise flLt):ed.length=s.2.length:=by
 have h1:=imE_nodup (g:=nm b) hB hn (fun p hp q hq'=>nm_inj hb (hq p hp).2 (hq q hq').2) hE
 have:=((List.perm_ext_iff_of_nodup (aLl h.se) h1).2 h.mem).length_eq
 rw [this];unfold imE;simp
end
end Gv
namespace Gv
open Go
section
variable {a b:bB} {M sh:List aI}
end
end Gv
namespace Gv
open Go
theorem aPP (x y:List aI) (h:x.length+y.length<=1000000):fZ [x,y]=some (x++y):=by
 unfold fZ
 have h1:loop (fun s:Int × Int=>bI [x,y] s.1 s.2) (0,0)=some (((x.length+y.length:Nat):Int)):=by
  have a1:wr (0+(x.length:Int))=(x.length:Int):=by rw [dS (by omega) (by omega)];omega
  have a2:wr ((x.length:Int)+(y.length:Int))=((x.length+y.length:Nat):Int):=by rw [dS (by omega) (by omega)];omega
  have s0:bI [x,y] 0 0=some (.inl ((x.length:Int),1)):=by
   unfold bI eW
   rw [if_pos (by simp),show ix [x,y] 0=some x from rfl,aA,a1,if_neg (by simp)];rfl
  have s1:bI [x,y] (x.length:Int) 1=some (.inl (((x.length+y.length:Nat):Int),2)):=by
   unfold bI eW
   rw [if_pos (by simp),show ix [x,y] 1=some y from rfl,aA,a2,if_neg (by simp;omega)];rfl
  have s2:bI [x,y] ((x.length+y.length:Nat):Int) 2=some (.inr (((x.length+y.length:Nat):Int))):=by
   unfold bI
   rw [if_neg (by simp)]
  rw [aEV (step:=fun s:Int × Int=>bI [x,y] s.1 s.2) (s:=(0,0)) s0,aEV (step:=fun s:Int × Int=>bI [x,y] s.1 s.2) (s:=((x.length:Int),1)) s1,aDM (step:=fun s:Int × Int=>bI [x,y] s.1 s.2) (s:=(((x.length+y.length:Nat):Int),2)) s2]
 rw [h1,aA]
 unfold gQ aGP
 rw [if_pos ⟨rfl,by omega,by unfold jA;omega⟩,aA]
 have s0:bO [x,y] [] 0=some (.inl (x,1)):=by
  unfold bO
  rw [if_pos (by simp),show ix [x,y] 0=some x from rfl,aA,cQ (by simp [jA];omega),aA];rfl
 have s1:bO [x,y] x 1=some (.inl (x++y,2)):=by
  unfold bO
  rw [if_pos (by simp),show ix [x,y] 1=some y from rfl,aA,cQ (by unfold jA;omega),aA];rfl
 have s2:bO [x,y] (x++y) 2=some (.inr (x++y)):=by
  unfold bO
  rw [if_neg (by simp)]
 rw [aEV (step:=fun s:List aI × Int=>bO [x,y] s.1 s.2) (s:=([],0)) s0,aEV (step:=fun s:List aI × Int=>bO [x,y] s.1 s.2) (s:=(x,1)) s1,aDM (step:=fun s:List aI × Int=>bO [x,y] s.1 s.2) (s:=(x++y,2)) s2,aA]
 rfl
section
variable {a b:bB} {M:List aI}
end
end Gv
namespace Gv
open Go
section
variable {a b:bB} {M:List aI}
end
end Gv
