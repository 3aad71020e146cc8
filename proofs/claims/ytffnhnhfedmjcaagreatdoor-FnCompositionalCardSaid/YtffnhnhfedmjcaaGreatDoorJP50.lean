/- Sets of states, as lists; sets closed under inner steps: the reference's and the program's. -/
import Derived.Test.YtffnhnhfedmjcaaGreatDoorJP20
set_option linter.all false
namespace Gv
open Go
theorem aFc (s:List Int) (h:s.length < 1000000000):dK s=some (fS s):=by
 unfold dK
 by_cases h2:s.length < 2
 ·rw [if_pos (by simp;omega)]
  rcases s with _|⟨a,_|⟨b,l⟩⟩
  ·rfl
  ·rfl
  ·simp at h2;omega
 rw [if_neg (by simp;omega)]
 have:=aHp (step:=fun k=>fW s k) s.length (fun k (_:Unit)=>(k:Int)) (fun k _=>1<=k/\fS (s.take k)=s.take k) (fun r=>r=.inr (fS s)\/(r=.inl ()/\fS s=s)) (fun k a hk hI=>?_) (fun a hI=>?_) (s.length - 1) 1 () (by omega) ⟨Nat.le_refl _,?_⟩
 ·obtain ⟨r,hr,hR⟩:=this
  rw [show (1:Int)=((1:Nat):Int) from rfl,hr,aA]
  rcases hR with rfl|⟨rfl,h⟩
  ·rfl
  ·rw [h];rfl
 ·obtain ⟨i1,i2⟩:=hI
  have hk1:wr ((k:Int) - 1)=((k - 1:Nat):Int):=by rw [gA (by omega) (by omega)];omega
  have hdt:=aGn (s:=s) (m:=k) i1 hk
  simp only [fW,bU hk,if_pos,cG hk,aA,hk1,cG (xs:=s) (k:=k - 1) (by omega),iW,bQ hk (show s.length < 4611686018427387904 by omega)]
  by_cases e:s[k]=s[k - 1]'(by omega)
  ·right
   rw [if_pos e.symm,i2] at hdt
   rw [if_pos (by simpa using e),aFM (by omega),aA]
   obtain ⟨s',w,hl,g1,g2,g3⟩:=aFk (step:=fun x:List Int × Int × Int=>fV (k:Int) (s.drop k) x.1 x.2.1 x.2.2) s k i1 hk hdt (fun j w s' x y j1 j2 j3 j4 hx hy=>by
    have hl:(s.drop k).length=s.length - k:=by simp
    have a1:(k:Int)+(j:Int)=((k+j:Nat):Int):=by omega
    have a2:wr ((j:Int) - 1)=((j - 1:Nat):Int):=by rw [gA (by omega) (by omega)];omega
    have a3:(k:Int)+((j - 1:Nat):Int)=((k+j - 1:Nat):Int):=by omega
    simp only [fV,hl,bU (show j < s.length - k by omega),if_pos,cG (xs:=s.drop k) (k:=j) (by omega),aA,a1,rS,hx,a2,List.getElem?_eq_getElem (show j - 1 < (s.drop k).length by omega),a3,hy,fU,bQ (show j < s.length - k by omega) (by omega),List.getElem?_eq_getElem (show w < s'.length by omega),aBu (xs:=s') (k:=w) _ (by omega),bQ j4 (show s.length < 4611686018427387904 by omega)]
    by_cases e:x=y<;>simp [e]) (fun s' w=>by
     have hl:(s.drop k).length=s.length - k:=by simp
     simp only [fV,hl,dB];rfl)
   rw [hl,aA]
   unfold iX
   simp only
   rw [aFM (by omega),aA,aII _ (by omega),aA,aOq (by simp;omega),aA]
   refine ⟨_,rfl,.inl ?_⟩
   rw [List.take_append_of_le_length (by simp;omega),List.take_take,Nat.min_self,g3]
  ·left
   rw [if_neg (by simpa using e)]
   refine ⟨(),rfl,by omega,?_⟩
   rw [hdt,if_neg (fun h=>e h.symm),i2,List.take_add_one]
   simp [hk]
 ·refine ⟨_,by simp only [fW,dB];rfl,.inr ⟨rfl,?_⟩⟩
  have:=hI.2
  rwa [List.take_of_length_le (by omega)] at this
 ·rcases s with _|⟨a,l⟩
  ·rfl
  ·rfl
structure aDf (xs:List Int) (X:Int->Prop):Prop where
 ord:xs.Pairwise (· < ·)
 mem:∀ q,q∈xs<->X q
theorem aDf.eq {xs ys:List Int} {X:Int->Prop} (a:aDf xs X) (b:aDf ys X):xs=ys:=
 aEz (R:=fun a b:Int=>a < b) (fun a=>Int.lt_irrefl a) (fun h1 h2=>Int.lt_trans h1 h2) a.ord b.ord fun q=>(a.mem q).trans (b.mem q).symm
theorem aDf.iff {xs:List Int} {X Y:Int->Prop} (a:aDf xs X) (h:∀ q,X q<->Y q):aDf xs Y:=⟨a.ord,fun q=>(a.mem q).trans (h q)⟩
theorem aDf.len {xs:List Int} {X:Int->Prop} (a:aDf xs X) {n:Nat} (h:∀ q,X q->0<=q/\q < n):xs.length<=n:=by
 have hn:xs.Nodup:=a.ord.imp fun h=>by omega
 have:=List.Nodup.length_le_of_subset (l₂:=(List.range n).map Int.ofNat) hn (fun x hx=>by
  have:=h x ((a.mem x).1 hx)
  rw [List.mem_map]
  exact ⟨x.toNat,by rw [List.mem_range];omega,by show ((x.toNat:Nat):Int)=x;omega⟩)
 simpa using this
def iLt (a b:Int):Bool:=decide (a < b)
theorem aCx {xs:List Int}:aDf (fS (rO iLt xs)) (fun q=>q∈xs):=by
 have h1:(rO iLt xs).Pairwise fun a b=>a<=b:=by
  have:=List.pairwise_mergeSort (le:=fun a b=>!iLt b a) (fun a b c h1 h2=>by unfold iLt at *;simp at *;omega) (fun a b=>by unfold iLt;simp;omega) xs
  refine this.imp fun {a b} h=>?_
  unfold iLt at h;simpa using h
 refine ⟨aGm (R:=fun a b:Int=>a<=b) (S:=fun a b:Int=>a < b) (fun h hne=>by omega) (fun h h'=>by omega) h1,fun q=>?_⟩
 rw [aFL];unfold rO;rw [List.mem_mergeSort]
theorem aQW {xs:List Int} (hn:xs.Nodup):aDf (rO iLt xs) (fun q=>q∈xs):=by
 refine ⟨(aGp iLt (fun a=>by simp [iLt]) (fun {a b c} h1 h2=>by unfold iLt at *;simp at *;omega) (fun a b=>by unfold iLt;simp;omega) hn).imp fun h=>by unfold iLt at h;simpa using h,fun q=>?_⟩
 unfold rO;rw [List.mem_mergeSort]
theorem aDR {xs:List Int} (h:xs.length < 1000000000):tU xs=some (rO iLt xs):=by
 unfold tU;rw [if_pos (by unfold jT;omega)];rfl
inductive Cl (t:bA) (X:Int->Prop):Int->Prop
 |base {q:Int}:X q->Cl t X q
 |step {e:Edge}:e∈t.E->e.B=0->Cl t X e.F->Cl t X e.To
section
variable {t:bA} {X:Int->Prop}
theorem aOA (hv:cF t) {e:Edge} (he:e∈t.E):(0<=e.F/\e.F < t.N)/\(0<=e.To/\e.To < t.N)/\0<=e.B/\e.B < t.L.length:=by
 have h:=rN hv he
 unfold aEy at h
 omega
theorem Cl.inn (hv:cF t) (h0:∀ q,X q->0<=q/\q < t.N) {q:Int} (h:Cl t X q):0<=q/\q < t.N:=by
 induction h with
 |base h=>exact h0 _ h
 |step he _ _ _=>have:=(aOA hv he).2.1;omega
theorem Cl.congr {Y:Int->Prop} (h:∀ q,X q->Y q) {q:Int} (hc:Cl t X q):Cl t Y q:=by
 induction hc with
 |base hx=>exact .base (h _ hx)
 |step a b _ ih=>exact .step a b ih
theorem Cl.iff {Y:Int->Prop} (h:∀ q,X q<->Y q) (q:Int):Cl t X q<->Cl t Y q:=⟨Cl.congr fun q=>(h q).1,Cl.congr fun q=>(h q).2⟩
def Aft (t:bA) (S:List Int) (k:Int) (q:Int):Prop:=∃ e∈t.E,e.B=k/\e.F∈S/\e.To=q
theorem Aft.inn (hv:cF t) {S:List Int} {k q:Int} (h:Aft t S k q):0<=q/\q < t.N:=by
 obtain ⟨e,he,_,_,rfl⟩:=h
 have:=(aOA hv he).2.1;omega
end
end Gv
namespace Gv
open Go
def aGD (o:List Int) (x:Int):List Int:=if x∈o then o else o++[x]
theorem aNt:∀ (l o:List Int),o.Nodup->o <+:l.foldl aGD o/\(l.foldl aGD o).Nodup/\(∀ q,q∈l.foldl aGD o<->q∈o\/q∈l)/\(l.foldl aGD o).length<=o.length+l.length
 |[],o,h=>⟨List.prefix_refl _,h,fun q=>by simp,by simp⟩
 |x::l,o,h=>by
  have h':(aGD o x).Nodup:=by
   unfold aGD
   split
   ·exact h
   ·rename_i hx
    rw [List.nodup_append]
    refine ⟨h,by simp,fun a ha b hb=>?_⟩
    simp at hb;subst hb
    exact fun e=>hx (e ▸ ha)
  obtain ⟨g1,g2,g3,g4⟩:=aNt l (aGD o x) h'
  have hp:o <+:aGD o x:=by
   unfold aGD;split
   ·exact List.prefix_refl _
   ·exact List.prefix_append _ _
  have hm:∀ q,q∈aGD o x<->q∈o\/q=x:=fun q=>by
   unfold aGD;split
   ·rename_i hx
    constructor
    ·exact .inl
    ·rintro (h|rfl)
     ·exact h
     ·exact hx
   ·simp
  refine ⟨hp.trans g1,g2,fun q=>?_,?_⟩
  ·rw [List.foldl_cons,g3 q,hm q,List.mem_cons,or_assoc]
  ·rw [List.foldl_cons]
   have:(aGD o x).length<=o.length+1:=by unfold aGD;split<;>simp
   rw [List.length_cons];omega
theorem aJV {xs:List Int} {s:Int}:(xs.any fun x=>s == x)=decide (s∈xs):=by
 rw [Bool.eq_iff_iff,List.any_eq_true,decide_eq_true_iff]
 constructor
 ·rintro ⟨x,hx,h⟩
  rw [beq_iff_eq] at h
  exact h ▸ hx
 ·intro h;exact ⟨s,h,by simp⟩
section
variable {t:bA}
end
end Gv
namespace Gv
open Go
theorem aEA {σ ρ:Type} {step:σ->Option (σ ⊕ ρ)} {s s':σ} (h:step s=some (.inl s')):loop step s=loop step s':=by rw [dN,h]
theorem aCc {σ ρ:Type} {step:σ->Option (σ ⊕ ρ)} {s:σ} {r:ρ} (h:step s=some (.inr r)):loop step s=some r:=by rw [dN,h]
section
variable {κ β:Type} [DecidableEq β] [BEq β] [LawfulBEq β] (key:κ->β)
def atK (F:List κ) (q:κ):Int:=if key q∈F.map key then pos (F.map key) (key q) else (F.length:Int)
def aAF (F:List κ) (q:κ):List κ:=if key q∈F.map key then F else F++[q]
def add1 (i:Int) (s:List κ × List Edge) (x:Int × κ):List κ × List Edge:=(aAF key s.1 x.2,s.2++[⟨i,x.1,atK key s.1 x.2⟩])
variable {key}
theorem aMd (F:List κ) (q:κ):F <+:aAF key F q:=by
 unfold aAF;split
 ·exact List.prefix_refl _
 ·exact List.prefix_append _ _
theorem aPV (F:List κ) (q:κ):(aAF key F q).length<=F.length+1:=by unfold aAF;split<;>simp
theorem atK_in (F:List κ) (q:κ):0<=atK key F q/\atK key F q < (aAF key F q).length:=by
 unfold atK aAF
 by_cases h:key q∈F.map key
 ·rw [if_pos h,if_pos h]
  obtain ⟨i,hi,e,_⟩:=aAa h
  rw [List.length_map] at hi
  omega
 ·rw [if_neg h,if_neg h,List.length_append,List.length_singleton];omega
theorem aQX {F:List κ} (h:(F.map key).Nodup) (q:κ):((aAF key F q).map key).Nodup:=by
 unfold aAF;split
 ·exact h
 ·rename_i hx
  rw [List.map_append,List.nodup_append]
  refine ⟨h,by simp,fun a ha b hb=>?_⟩
  simp at hb;subst hb
  exact fun e=>hx (e ▸ ha)
theorem insK_all {P:κ->Prop} {F:List κ} (h:∀ x∈F,P x) {q:κ} (hq:P q):∀ x∈aAF key F q,P x:=by
 unfold aAF;split
 ·exact h
 ·intro x hx
  rcases List.mem_append.1 hx with hx|hx
  ·exact h x hx
  ·simp at hx;subst hx;exact hq
theorem insK_mem (F:List κ) (q:κ):key q∈(aAF key F q).map key:=by
 unfold aAF;split
 ·assumption
 ·simp
theorem ED.done {L:List aH} {j n:Nat} {ed:List Edge} (h:ED L (j:Int) 0 n ed) (hj:j<=n):ed.Pairwise flLt/\∀ e∈ed,(0<=e.F/\e.F < n)/\(1<=e.B/\e.B<=L.length)/\0<=e.To/\e.To < n:=
 ⟨h.ord,fun e he=>by have:=h.all e he;omega⟩
def Small (s:List κ × List Edge):Prop:=s.1.length<=40/\s.2.length<=300
instance (s:List κ × List Edge):Decidable (Small s):=by unfold Small;infer_instance
theorem Small.pre {s u:List κ × List Edge} (h:s.1 <+:u.1/\s.2 <+:u.2) (hu:Small u):Small s:=⟨Nat.le_trans h.1.length_le hu.1,Nat.le_trans h.2.length_le hu.2⟩
theorem pos_inj {γ:Type} [BEq γ] [LawfulBEq γ] {ks:β->γ} {b:β}:∀ {A:List β},(∀ x∈A,ks x=ks b->x=b)->pos (A.map ks) (ks b)=pos A b
 |[],_=>rfl
 |x::A,h=>by
  have ih:=pos_inj (ks:=ks) (b:=b) (A:=A) fun y hy=>h y (by simp [hy])
  unfold pos at ih ⊢
  rw [List.map_cons,List.findIdx?_cons,List.findIdx?_cons]
  by_cases e:b=x
  ·subst e;simp
  ·have e2:¬ ks b=ks x:=fun e'=>e (h x (by simp) e'.symm).symm
   rw [if_neg (by simpa using e2),if_neg (by simpa using e)]
   cases h1:List.findIdx? (fun x=>ks b == x) (A.map ks)<;>cases h2:List.findIdx? (fun x=>b == x) A<;>rw [h1,h2] at ih<;>simp only [Option.map_none,Option.map_some] at ih ⊢<;>omega
theorem key_in {γ:Type} {ks:β->γ} {b:β} {A:List β} (h:∀ x∈A,ks x=ks b->x=b):ks b∈A.map ks<->b∈A:=by
 constructor
 ·intro hb
  obtain ⟨x,hx,e⟩:=List.mem_map.1 hb
  exact h x hx e ▸ hx
 ·exact fun hb=>List.mem_map_of_mem hb
end
end Gv
namespace Gv
open Go
section
structure GoodS (t:bA) (S:List Int):Prop where
 len:S.length<=40
 inn:∀ q∈S,0<=q/\q < t.N
variable {t:bA}
theorem GoodS.of (hv:cF t) {R:List Int} {X:Int->Prop} (h:aDf R X) (h0:∀ q,X q->0<=q/\q < t.N):GoodS t R:=
 ⟨h.len (n:=40) fun q hq=>by have:=h0 q hq;have:=hv.1;omega,fun q hq=>h0 q ((h.mem q).1 hq)⟩
end
end Gv
namespace Gv
open Go
def kS (S:List Int):aH:=Lib.join (S.map Lib.itoa) [44]
theorem aFO {v:Int} (h0:0<=v) (h1:v<=63):(44:UInt8)∉Lib.itoa v/\Lib.itoa v≠[]:=by
 have h:=aLL h0 h1
 refine ⟨fun hm=>?_,fun e=>by rw [e] at h;cases h⟩
 have:=List.all_eq_true.1 (isNum_ok h) _ hm
 exact absurd this (by decide)
theorem app_inj {c:UInt8}:∀ {x y r r':aH},c∉x->c∉y->x++c::r=y++c::r'->x=y/\r=r'
 |[],[],r,r',_,_,h=>⟨rfl,by simpa using h⟩
 |[],b::y,r,r',_,hy,h=>by simp at h;exact absurd (by simp [h.1]) hy
 |a::x,[],r,r',hx,_,h=>by simp at h;exact absurd (by simp [h.1]) hx
 |a::x,b::y,r,r',hx,hy,h=>by
  simp only [List.cons_append,List.cons.injEq] at h
  obtain ⟨g1,g2⟩:=app_inj (fun hm=>hx (by simp [hm])) (fun hm=>hy (by simp [hm])) h.2
  exact ⟨by rw [h.1,g1],g2⟩
theorem aFP (x y:aH) (l:List aH):Lib.join (x::y::l) [44]=x++(44::Lib.join (y::l) [44]):=by
 rw [Lib.join_cons,Lib.join_cons]
 simp [Lib.joinTail]
theorem kS_inj:∀ {S T:List Int},(∀ q∈S,0<=q/\q<=63)->(∀ q∈T,0<=q/\q<=63)->kS S=kS T->S=T
 |[],[],_,_,_=>rfl
 |[],b::T,_,hT,h=>by
  have hb:=aFO (hT b (by simp)).1 (hT b (by simp)).2
  cases T with
  |nil=>unfold kS at h;simp only [List.map_cons,List.map_nil,Lib.join_one,Lib.join_nil] at h;exact absurd h.symm hb.2
  |cons c T=>unfold kS at h;simp only [List.map_cons,List.map_nil,aFP,Lib.join_nil] at h;simp at h
 |a::S,[],hS,_,h=>by
  have hb:=aFO (hS a (by simp)).1 (hS a (by simp)).2
  cases S with
  |nil=>unfold kS at h;simp only [List.map_cons,List.map_nil,Lib.join_one,Lib.join_nil] at h;exact absurd h hb.2
  |cons c T=>unfold kS at h;simp only [List.map_cons,List.map_nil,aFP,Lib.join_nil] at h;simp at h
 |[a],[b],hS,hT,h=>by
  have ha:=hS a (by simp);have hb:=hT b (by simp)
  unfold kS at h
  simp only [List.map_cons,List.map_nil,Lib.join_one] at h
  rw [aMa (by omega) (by omega) h]
 |[a],b::c::T,hS,hT,h=>by
  have ha:=aFO (hS a (by simp)).1 (hS a (by simp)).2
  unfold kS at h
  simp only [List.map_cons,List.map_nil,Lib.join_one,aFP] at h
  exact absurd (by rw [h];simp) ha.1
 |a::c::S,[b],hS,hT,h=>by
  have hb:=aFO (hT b (by simp)).1 (hT b (by simp)).2
  unfold kS at h
  simp only [List.map_cons,List.map_nil,Lib.join_one,aFP] at h
  exact absurd (by rw [←h];simp) hb.1
 |a::c::S,b::d::T,hS,hT,h=>by
  have ha:=hS a (by simp);have hb:=hT b (by simp)
  have h':Lib.itoa a++(44::kS (c::S))=Lib.itoa b++(44::kS (d::T)):=by
   unfold kS at h ⊢
   simp only [List.map_cons,aFP] at h ⊢
   exact h
  obtain ⟨g1,g2⟩:=app_inj (aFO ha.1 ha.2).1 (aFO hb.1 hb.2).1 h'
  have:=kS_inj (fun q hq=>hS q (List.mem_cons_of_mem _ hq)) (fun q hq=>hT q (List.mem_cons_of_mem _ hq)) g2
  rw [aMa (by omega) (by omega) g1,this]
theorem kS_len:∀ {S:List Int},(∀ q∈S,0<=q/\q<=63)->(kS S).length<=3 * S.length
 |[],_=>by simp [kS,Lib.join_nil]
 |[a],h=>by
  have:=aPR (a:=a) (by have:=h a (by simp);omega)
  unfold kS
  simp only [List.map_cons,List.map_nil,Lib.join_one,List.length_singleton];omega
 |a::c::S,h=>by
  have:=aPR (a:=a) (by have:=h a (by simp);omega)
  have ih:=kS_len (S:=c::S) fun q hq=>h q (List.mem_cons_of_mem _ hq)
  unfold kS at ih ⊢
  simp only [List.map_cons,aFP,List.length_append,List.length_cons] at ih ⊢
  omega
section
variable {t:bA}
theorem GoodS.small (hv:cF t) {S:List Int} (h:GoodS t S):∀ q∈S,0<=q/\q<=63:=fun q hq=>by have:=h.inn q hq;have:=hv.1;omega
theorem tail_cons (hv:cF t):t.L=bC::t.L.tail/\pV t.L.tail:=by
 obtain ⟨L,e,h⟩:=hv.2.2.1.cons
 rw [e];exact ⟨rfl,h⟩
end
end Gv
namespace Gv
open Go
theorem aQY (l:List aH) (a:Nat) (ha:a<=l.length) (h:l.length < 1000000000):∃ z:aH,loop (fun s:List aH × Int=>aBD (a:Int) s.1 s.2) (l++[[]],(l.length:Int))=some (l.take a++z::l.drop a):=by
 have key:=pG (step:=fun s:List aH × Int=>aBD (a:Int) s.1 s.2) (fun s=>∃ (k:Nat) (z:aH),s=(l.take k++z::l.drop k,(k:Int))/\a<=k/\k<=l.length) (fun s=>s.2.toNat)
  (fun x=>∃ z:aH,x=l.take a++z::l.drop a) (fun s hI=>?_) (s:=(l++[[]],(l.length:Int))) ⟨l.length,[],by simp,ha,Nat.le_refl _⟩
 ·obtain ⟨r,h1,z,rfl⟩:=key
  exact ⟨z,h1⟩
 ·obtain ⟨k,z,rfl,hak,hk⟩:=hI
  simp only [aBD]
  have hlen:(l.take k++z::l.drop k).length=l.length+1:=by simp;omega
  by_cases h0:a < k
  ·have hk1:wr ((k:Int) - 1)=((k - 1:Nat):Int):=by rw [gA (by omega) (by omega)];omega
   rw [decide_eq_true (p:=(a:Int) < (k:Int)) (by omega),if_pos rfl,hk1,cG (xs:=l.take k++z::l.drop k) (k:=k - 1) (by omega),aA,cG (by omega),aA,aBu _ (by omega),aA]
   left
   refine ⟨_,rfl,⟨k - 1,l[k - 1],?_,by omega,by omega⟩,by simp;omega⟩
   have e1:(l.take k++z::l.drop k)[k - 1]'(by omega)=l[k - 1]:=by
    rw [List.getElem_append_left (by simp;omega),List.getElem_take]
   rw [e1]
   have e2:(l.take k++z::l.drop k).set k l[k - 1]=l.take k++l[k - 1]::l.drop k:=by
    rw [List.set_append_right _ _ (by rw [List.length_take];omega)]
    simp [Nat.min_eq_left hk]
   have e3:l.take k=l.take (k - 1)++[l[k - 1]]:=by
    have:=List.take_add_one (l:=l) (i:=k - 1)
    rw [show k - 1+1=k by omega,List.getElem?_eq_getElem (by omega)] at this
    exact this
   have e4:l.drop (k - 1)=l[k - 1]::l.drop k:=by
    have:=List.drop_eq_getElem_cons (l:=l) (i:=k - 1) (by omega)
    rw [show k - 1+1=k by omega] at this
    exact this
   simp only [Prod.mk.injEq,and_true]
   rw [e2,e3,e4,List.append_assoc];rfl
  ·obtain rfl:k=a:=by omega
   right
   rw [decide_eq_false (p:=(k:Int) < (k:Int)) (by omega),if_neg (by simp)]
   exact ⟨_,rfl,z,rfl⟩
theorem join_find (l:List aH) (e:aH) (h1:1<=l.length) (h:l.length < 1000000000):∃ a:Nat,loop (fun s:Int=>zF l e s) 1=some (a:Int)/\1<=a/\a<=l.length/\(∀ (j:Nat) x,1<=j->j < a->l[j]?=some x->wV x e=true)/\(∀ x,l[a]?=some x->wV x e=false):=by
 have key:=pG (step:=fun s:Int=>zF l e s) (fun s=>∃ a:Nat,s=(a:Int)/\1<=a/\a<=l.length/\∀ (j:Nat) x,1<=j->j < a->l[j]?=some x->wV x e=true) (fun s=>l.length - s.toNat)
  (fun r=>∃ a:Nat,r=(a:Int)/\1<=a/\a<=l.length/\(∀ (j:Nat) x,1<=j->j < a->l[j]?=some x->wV x e=true)/\(∀ x,l[a]?=some x->wV x e=false)) (fun s hI=>?_) (s:=1) ⟨1,rfl,Nat.le_refl _,h1,fun j x g1 g2=>by omega⟩
 ·obtain ⟨r,hr,a,rfl,h2⟩:=key
  exact ⟨a,hr,h2⟩
 ·obtain ⟨a,rfl,ha1,ha,hall⟩:=hI
  by_cases hlt:a < l.length
  ·have hx:l[a]?=some l[a]:=List.getElem?_eq_getElem hlt
   simp only [zF,bU hlt,if_pos,cG hlt,aA,aBE]
   cases he:wV l[a] e with
   |true=>
    left
    refine ⟨_,by rw [if_pos rfl,bQ hlt (by omega)],⟨a+1,rfl,by omega,by omega,fun j x g1 g2 hj=>?_⟩,by simp;omega⟩
    by_cases e1:j=a
    ·subst e1;rw [hx] at hj;cases hj;exact he
    ·exact hall j x g1 (by omega) hj
   |false=>
    right
    refine ⟨_,by rw [if_neg (by simp)],a,rfl,ha1,ha,hall,fun x hj=>?_⟩
    rw [hx] at hj;cases hj;exact he
  ·obtain rfl:a=l.length:=by omega
   right
   refine ⟨_,by simp only [zF,dB,aBE];rw [if_neg (by simp),if_neg (by simp)],_,rfl,ha1,Nat.le_refl _,hall,fun x hx=>?_⟩
   rw [List.getElem?_eq_none (Nat.le_refl _)] at hx;cases hx
theorem join_step (xs:List aH) (M:List aH) (hM:pV M) (hl:M.length < 1000000) (hx:xs.length < 1000000) {k:Nat} (hk:k < xs.length):∃ M',vB xs (bC::M) (k:Int)=some (.inl (bC::M',((k+1:Nat):Int)))/\pV M'/\(∀ s,s∈M'<->s∈M\/(s=xs[k]/\s≠bC))/\M'.length<=M.length+1:=by
 have hw:=bQ hk (show xs.length < 4611686018427387904 by omega)
 simp only [vB,bU hk,if_pos,cG hk,aA,aMb (bC::M) xs[k] (by simp;omega),zD,hw]
 by_cases hm:xs[k]∈bC::M
 ·rw [if_pos (by simpa using aBZ.2 hm)]
  refine ⟨M,rfl,hM,fun s=>⟨.inl,?_⟩,by omega⟩
  rintro (h|⟨rfl,h⟩)
  ·exact h
  ·rcases List.mem_cons.1 hm with h'|h'
   ·exact absurd h' h
   ·exact h'
 ·rw [if_neg (by have:¬ 0<=pos (bC::M) xs[k]:=fun h=>hm (aBZ.1 h);simpa using this)]
  have hne:xs[k]≠bC:=fun h=>hm (by rw [h];simp)
  have hnm:xs[k]∉M:=fun h=>hm (by simp [h])
  obtain ⟨a,h1,h2,h3,h4,h5⟩:=join_find (bC::M) xs[k] (by simp) (by simp;omega)
  rw [h1,aA]
  unfold aDF
  rw [dC (by simp [jT];omega),aA]
  have hk1:wr ((((bC::M)++([([]:aH)]:List aH)).length:Int) - 1)=((bC::M).length:Int):=by
   simp only [List.length_append,List.length_cons,List.length_nil]
   rw [gA (by omega) (by omega)];omega
  rw [hk1]
  obtain ⟨z,hz⟩:=aQY (bC::M) a h3 (by simp;omega)
  rw [hz,aA]
  unfold aDE
  have hlen:((bC::M).take a++z::(bC::M).drop a).length=(bC::M).length+1:=by simp;omega
  rw [cG (by omega),aA,aBu _ (by omega),aA]
  have e2:((bC::M).take a++z::(bC::M).drop a).set a xs[k]=(bC::M).take a++xs[k]::(bC::M).drop a:=by
   rw [List.set_append_right _ _ (by rw [List.length_take];omega),List.length_take,Nat.min_eq_left h3,Nat.sub_self];rfl
  rw [e2]
  obtain ⟨b,rfl⟩:∃ b,a=b+1:=⟨a - 1,by omega⟩
  have h3':b<=M.length:=by simpa using h3
  have hbef:∀ x∈M.take b,wV x xs[k]=true:=fun x hx=>by
   obtain ⟨j,hj,rfl⟩:=List.getElem_of_mem hx
   rw [List.length_take] at hj
   exact h4 (j+1) _ (by omega) (by omega) (by rw [List.getElem_take,List.getElem?_cons_succ];exact List.getElem?_eq_getElem (by omega))
  have haft:∀ x∈M.drop b,wV xs[k] x=true:=fun x hx=>by
   obtain ⟨j,hj,rfl⟩:=List.getElem_of_mem hx
   rw [List.length_drop] at hj
   have hb:b < M.length:=by omega
   have g:wV M[b] xs[k]=false:=h5 _ (by rw [List.getElem?_cons_succ];exact List.getElem?_eq_getElem hb)
   have g2:wV xs[k] M[b]=true:=by
    rcases aHI xs[k] M[b] with t|t|t
    ·exact t
    ·exact absurd (t ▸ List.getElem_mem hb) hnm
    ·rw [g] at t;cases t
   rw [List.getElem_drop]
   by_cases j0:j=0
   ·subst j0;exact g2
   ·exact uM g2 (List.pairwise_iff_getElem.1 hM.1 b (b+j) hb (by omega) (by omega))
  refine ⟨M.take b++xs[k]::M.drop b,by unfold zD;rw [hw];rfl,⟨?_,fun h=>?_⟩,fun s=>?_,by simp;omega⟩
  ·have hs':(M.take b++M.drop b).Pairwise fun a b=>wV a b=true:=by rw [List.take_append_drop];exact hM.1
   rw [List.pairwise_append] at hs'
   rw [List.pairwise_append,List.pairwise_cons]
   refine ⟨hs'.1,⟨haft,hs'.2.1⟩,fun x hx y hy=>?_⟩
   rcases List.mem_cons.1 hy with rfl|hy
   ·exact hbef x hx
   ·exact uM (hbef x hx) (haft y hy)
  ·rw [List.mem_append,List.mem_cons] at h
   rcases h with h|h|h
   ·exact hM.2 (List.mem_of_mem_take h)
   ·exact hne h.symm
   ·exact hM.2 (List.mem_of_mem_drop h)
  ·rw [List.mem_append,List.mem_cons]
   conv=>rhs;rw [←List.take_append_drop b M,List.mem_append]
   constructor
   ·rintro (g|g|g)
    ·simp [g]
    ·exact .inr ⟨g,g ▸ hne⟩
    ·simp [g]
   ·rintro ((g|g)|⟨g,_⟩)<;>simp [g]
theorem aHq (xs:List aH) (hx:xs.length < 1000000):∃ M,aFx xs=some (bC::M)/\pV M/\(∀ s,s∈M<->s∈xs/\s≠bC)/\M.length<=xs.length:=by
 have key:=lO (step:=fun s:List aH × Int=>vB xs s.1 s.2) xs.length (fun k (M:List aH)=>(bC::M,(k:Int))) (fun k M=>pV M/\(∀ s,s∈M<->s∈xs.take k/\s≠bC)/\M.length<=k)
  (fun r=>∃ M,r=bC::M/\pV M/\(∀ s,s∈M<->s∈xs/\s≠bC)/\M.length<=xs.length) (fun k M hk hI=>?_) (fun M hI=>?_) xs.length 0 [] (by omega) ⟨⟨by simp,by simp⟩,by simp,by simp⟩
 ·obtain ⟨r,h1,M,rfl,h2⟩:=key
  refine ⟨M,?_,h2⟩
  unfold aFx
  rw [show loop (fun s:List aH × Int=>vB xs s.1 s.2) ([[116,97,117]],0)=some (bC::M) from h1];rfl
 ·obtain ⟨i1,i2,i3⟩:=hI
  obtain ⟨M',g1,g2,g3,g4⟩:=join_step xs M i1 (by omega) hx hk
  refine ⟨M',g1,g2,fun s=>?_,by omega⟩
  rw [g3 s,i2 s,List.take_add_one,List.getElem?_eq_getElem hk,List.mem_append]
  simp only [Option.toList_some,List.mem_singleton]
  constructor
  ·rintro (⟨a,b⟩|⟨a,b⟩)
   ·exact ⟨.inl a,b⟩
   ·exact ⟨.inr a,b⟩
  ·rintro ⟨a|a,b⟩
   ·exact .inl ⟨a,b⟩
   ·exact .inr ⟨a,b⟩
 ·obtain ⟨i1,i2,i3⟩:=hI
  rw [List.take_length] at i2
  exact ⟨_,by simp only [vB,dB];rfl,M,rfl,i1,i2,i3⟩
theorem aPW {M M':List aH} (h:pV M) (h':pV M') (hm:∀ s,s∈M<->s∈M'):M=M':=
 aEz (R:=fun a b=>wV a b=true) (fun a h=>by rw [lB] at h;cases h) uM h.1 h'.1 hm
theorem aOC {A B:List Edge} (h:SE A) (h':SE B) (hm:∀ x,x∈A<->x∈B):A=B:=
 aEz (R:=fun a b=>bZ a b=true) (fun a h=>by rw [vT] at h;cases h) (fun h1 h2=>yT h1 h2) h h' hm
theorem make_gen {texts M:List aH} {edges Eo:List Edge} (ht:texts.length < 1000000) (hM:pV M) (hm:∀ s,s∈M<->s∈texts/\s≠bC) (hlen:edges.length < 1000000) (hin:∀ e∈edges,0<=e.B/\e.B < texts.length)
  (hEE:SE Eo) (he:∀ x,x∈Eo<->∃ e∈edges,x=⟨e.F,pos (bC::M) (texts.getD e.B.toNat []),e.To⟩) (st ini:Int):zJ st ini texts edges=some ⟨st,ini,bC::M,Eo⟩:=by
 obtain ⟨M',j1,j2,j3,j4⟩:=aHq texts ht
 obtain rfl:M'=M:=aPW j2 hM fun s=>(j3 s).trans (hm s).symm
 unfold zJ
 rw [j1,aA]
 have key:=lO (step:=fun s:List Edge × Int=>zH texts edges (bC::M') s.1 s.2) edges.length (fun k (a:List Edge)=>(a,(k:Int))) (fun k a=>SE a/\(∀ x,x∈a<->∃ e∈edges.take k,x=⟨e.F,pos (bC::M') (texts.getD e.B.toNat []),e.To⟩)/\a.length<=k)
  (fun x=>x=Eo) (fun k a hk hI=>?_) (fun a hI=>?_) edges.length 0 [] (by omega) ⟨List.Pairwise.nil,by simp,by simp⟩
 ·obtain ⟨x,hx,hx2⟩:=key
  have hx':loop (fun s:List Edge × Int=>zH texts edges (bC::M') s.1 s.2) (([]:List Edge),0)=some x:=hx
  rw [hx',aA,hx2];rfl
 ·obtain ⟨hs,hmem,hl⟩:=hI
  have hi:=hin _ (List.getElem_mem hk)
  have hlt:edges[k].B.toNat < texts.length:=by omega
  have hgd:texts.getD edges[k].B.toNat []=texts[edges[k].B.toNat]:=by rw [List.getD_eq_getElem?_getD,List.getElem?_eq_getElem hlt];rfl
  simp only [zH,bU hk,if_pos,cG hk,aA]
  rw [aHW hi.1 hlt,aA,aMb _ _ (by simp;omega),aA,←hgd]
  obtain ⟨l',h1,h2,h3,h4⟩:=l11Put_eq a ⟨edges[k].F,pos (bC::M') (texts.getD edges[k].B.toNat []),edges[k].To⟩ (by omega) hs
  rw [h1,aA]
  refine ⟨l',by rw [bQ hk (show edges.length < 4611686018427387904 by omega)],h2,fun x=>?_,by omega⟩
  rw [h3,hmem,List.take_add_one,List.getElem?_eq_getElem hk]
  simp only [Option.toList_some,List.mem_append,List.mem_singleton]
  constructor
  ·rintro (g|⟨e,g1,g2⟩)
   ·exact ⟨_,.inr rfl,g⟩
   ·exact ⟨e,.inl g1,g2⟩
  ·rintro ⟨e,g1|rfl,g2⟩
   ·exact .inr ⟨e,g1,g2⟩
   ·exact .inl g2
 ·obtain ⟨hs,hmem,hl⟩:=hI
  rw [List.take_length] at hmem
  exact ⟨a,by simp only [zH,dB];rfl,aOC hs hEE fun x=>(hmem x).trans (he x).symm⟩
theorem lts_gen {st ini:Int} {labels M:List aH} {arcs:List cO} {Eo:List Edge} (hM:pV M) (hm:∀ s,s∈M<->s∈labels/\s≠bC) (h1:labels.length < 1000000) (h2:arcs.length < 1000000)
  (hn:(arcs.map fun a=>(⟨a.from_,pos (bC::M) a.label,a.to_⟩:Edge)).Nodup) (hEE:SE Eo) (he:∀ x,x∈Eo<->x∈arcs.map fun a=>(⟨a.from_,pos (bC::M) a.label,a.to_⟩:Edge)) (h3:M.length < 1000000):
  aFC st ini labels arcs=some ⟨st,ini,bC::M,Eo⟩:=by
 unfold aFC
 rw [show ([116,97,117]:aH)=bC from rfl,dC (by simp [jT];omega),aA]
 have e1:aCm ([bC]++labels)=some (rO aBc ([bC]++labels)):=by unfold aCm;rw [if_pos (by simp [jT];omega)]
 rw [e1,aA,aKv _ (by unfold rO;rw [List.length_mergeSort];simp;omega),aA]
 rw [aJR aBc aJS aLR aHJ hM.lab (fun x=>?_)]
 ·rw [uL (step:=fun s:List Edge × Int=>aCR arcs (bC::M) s.1 s.2) arcs (fun a=>(⟨a.from_,pos (bC::M) a.label,a.to_⟩:Edge)) id (fun k out x hk ho hx=>?_) (fun out=>by simp only [aCR,dB];rfl),aA]
  ·unfold aGY
   have hst:=aGp bZ vT yT aDd hn
   have e2:nP (id (arcs.map fun a=>(⟨a.from_,pos (bC::M) a.label,a.to_⟩:Edge)))=some Eo:=by
    unfold nP;rw [if_pos (by simp [jT];omega),id,aOC hst hEE fun x=>by unfold rO;rw [List.mem_mergeSort];exact (he x).symm]
   have hEl:Eo.length=arcs.length:=by
    rw [←aOC hst hEE fun x=>by unfold rO;rw [List.mem_mergeSort];exact (he x).symm]
    unfold rO;rw [List.length_mergeSort,List.length_map]
   rw [e2,aA,aOr _ (by omega) hEE,aA]
  ·simp only [aCR,bU hk,if_pos,hx,aA,aJP _ _ (show (bC::M).length < 4611686018427387904 by simp;omega),bQ hk (show arcs.length < 4611686018427387904 by omega)]
   rw [dC (by simp [jT];omega),aA]
 ·by_cases e:x=bC
  ·subst e;simp
  ·simp [e,hm x]
end Gv
namespace Gv
open Go
structure Jn (a b:bA) (M:List aH):Prop where
 str:pV M
 mem:∀ s,s∈M<->s∈a.L++b.L/\s≠bC
 len:M.length<=24
def inQ (a b:bA) (q:Int × Int):Prop:=(0<=q.1/\q.1 < a.N)/\0<=q.2/\q.2 < b.N
section
variable {a b:bA} {M:List aH}
def atQ (F:List (Int × Int)) (i:Int):Int × Int:=F.getD i.toNat (0,0)
theorem atQ_mem {F:List (Int × Int)} {i:Int} (h0:0<=i) (h:i < F.length):atQ F i∈F:=by
 unfold atQ;rw [List.getD_eq_getElem?_getD,List.getElem?_eq_getElem (by omega)];exact List.getElem_mem _
theorem atQ_inj {F:List (Int × Int)} (hn:F.Nodup) {i j:Int} (hi:0<=i/\i < F.length) (hj:0<=j/\j < F.length) (h:atQ F i=atQ F j):i=j:=by
 unfold atQ at h
 rw [List.getD_eq_getElem?_getD,List.getElem?_eq_getElem (by omega),List.getD_eq_getElem?_getD,List.getElem?_eq_getElem (by omega)] at h
 simp only [Option.getD_some] at h
 have:=(List.getElem_inj hn).1 h
 omega
def Bnd (s:List (Int × Int) × List Edge):Prop:=∀ e∈s.2,(0<=e.F/\e.F < s.1.length)/\0<=e.To/\e.To < s.1.length
theorem Bnd.add {s:List (Int × Int) × List Edge} (h:Bnd s) {i:Nat} (hi:i < s.1.length) (x:Int × (Int × Int)):Bnd (add1 id (i:Int) s x):=by
 intro e he
 have hl:=(aMd (key:=id) s.1 x.2).length_le
 have ha:=atK_in (key:=id) s.1 x.2
 simp only [add1] at he ⊢
 rcases List.mem_append.1 he with he|he
 ·have:=h e he;omega
 ·simp at he;subst he
  simp only;omega
def imE (g:Int × Int->Int) (F:List (Int × Int)) (E:List Edge):List Edge:=E.map fun e=>⟨g (atQ F e.F),e.B,g (atQ F e.To)⟩
theorem imE_nodup {g:Int × Int->Int} {F:List (Int × Int)} {E:List Edge} (hb:Bnd (F,E)) (hn:F.Nodup) (hg:∀ p∈F,∀ q∈F,g p=g q->p=q) (hE:E.Pairwise flLt):(imE g F E).Nodup:=by
 unfold imE List.Nodup
 rw [List.pairwise_map]
 refine hE.imp_of_mem ?_
 intro e f he hf h heq
 simp only [Edge.mk.injEq] at heq
 have h1:=hb e he
 have h2:=hb f hf
 simp only at h1 h2
 have:=atQ_inj hn h1.1 h2.1 (hg _ (atQ_mem h1.1.1 h1.1.2) _ (atQ_mem h2.1.1 h2.1.2) heq.1)
 unfold flLt at h
 omega
theorem aNu (p q:Int × Int):prLt p q=true<->p.1 < q.1\/(p.1=q.1/\p.2 < q.2):=by
 simp [prLt]
end
end Gv
namespace Gv
open Go
structure Shd (M sh:List aH):Prop where
 len:sh.length<=1000
 mem:∀ s∈M,(oO 40 s).1∈sh
theorem aOD {β γ ρ:Type} {step:(List γ × Int)->Option ((List γ × Int) ⊕ ρ)} (xs:List β) (p:β->Bool) (f:β->γ) (e:List γ->ρ) (N:Nat)
  (h:∀ (k:Nat) out x,k < xs.length->out.length<=N+k->ix xs (k:Int)=some x->step (out,(k:Int))=some (.inl (if p x=true then out++[f x] else out,((k+1:Nat):Int))))
  (h':∀ out,step (out,(xs.length:Int))=some (.inr (e out))) {o:List γ} (ho:o.length<=N):loop step (o,0)=some (e (o++(xs.filter p).map f)):=by
 have:=lH (step:=step) xs (fun k out=>(out,(k:Int))) (fun l out=>e (out++(l.filter p).map f)) (fun k out=>out.length<=N+k) (fun k a x l hk hx hI=>?_) (fun a _=>by simp [h']) (a:=o) (by simpa using ho)
 ·exact this
 ·left;rw [h k a x hk hI hx]
  by_cases hp:p x=true
  ·exact ⟨a++[f x],by rw [if_pos hp],by simp;omega,by simp [hp]⟩
  ·exact ⟨a,by rw [if_neg hp],by omega,by simp [hp]⟩
def nm (b:bA) (q:Int × Int):Int:=q.1 * b.N+q.2
section
variable {a b:bA} {M sh:List aH}
theorem nm_lt (hb:cF b) {p q:Int × Int} (hp:0<=p.2/\p.2 < b.N) (hq:0<=q.2/\q.2 < b.N):prLt p q=true<->nm b p < nm b q:=by
 have h2:=hb.1
 rw [aNu]
 unfold nm
 constructor
 ·rintro (h|⟨h,h'⟩)
  ·have:(p.1+1) * b.N<=q.1 * b.N:=Int.mul_le_mul_of_nonneg_right (by omega) (by omega)
   rw [Int.add_mul,Int.one_mul] at this
   omega
  ·rw [h];omega
 ·intro h
  rcases Int.lt_trichotomy p.1 q.1 with g|g|g
  ·exact .inl g
  ·right;rw [g] at h;omega
  ·exfalso
   have:(q.1+1) * b.N<=p.1 * b.N:=Int.mul_le_mul_of_nonneg_right (by omega) (by omega)
   rw [Int.add_mul,Int.one_mul] at this
   omega
theorem nm_inj (hb:cF b) {p q:Int × Int} (hp:0<=p.2/\p.2 < b.N) (hq:0<=q.2/\q.2 < b.N) (h:nm b p=nm b q):p=q:=by
 have h1:=nm_lt hb hp hq
 have h2:=nm_lt hb hq hp
 rw [aNu] at h1 h2
 obtain ⟨p1,p2⟩:=p
 obtain ⟨q1,q2⟩:=q
 simp only [Prod.mk.injEq] at *
 omega
end
end Gv
namespace Gv
open Go
section
variable {a b:bA} {M sh:List aH}
structure Rf (b:bA) (s:List (Int × Int) × List Edge) (ed:List Edge):Prop where
 se:SE ed
 mem:∀ x,x∈ed<->x∈imE (nm b) s.1 s.2
theorem aMe {l:List Edge} (h:SE l):l.Nodup:=h.imp fun {x y} h e=>by subst e;rw [vT] at h;cases h
theorem Rf.len (hb:cF b) {s:List (Int × Int) × List Edge} {ed:List Edge} (h:Rf b s ed) (hB:Bnd s) (hn:s.1.Nodup) (hq:∀ q∈s.1,inQ a b q) (hE:s.2.Pairwise flLt):ed.length=s.2.length:=by
 have h1:=imE_nodup (g:=nm b) hB hn (fun p hp q hq'=>nm_inj hb (hq p hp).2 (hq q hq').2) hE
 have:=((List.perm_ext_iff_of_nodup (aMe h.se) h1).2 h.mem).length_eq
 rw [this];unfold imE;simp
end
end Gv
namespace Gv
open Go
section
variable {a b:bA} {M sh:List aH}
end
end Gv
namespace Gv
open Go
theorem aQZ (x y:List aH) (h:x.length+y.length<=1000000):gN [x,y]=some (x++y):=by
 unfold gN
 have h1:loop (fun s:Int × Int=>bL [x,y] s.1 s.2) (0,0)=some (((x.length+y.length:Nat):Int)):=by
  have a1:wr (0+(x.length:Int))=(x.length:Int):=by rw [gA (by omega) (by omega)];omega
  have a2:wr ((x.length:Int)+(y.length:Int))=((x.length+y.length:Nat):Int):=by rw [gA (by omega) (by omega)];omega
  have s0:bL [x,y] 0 0=some (.inl ((x.length:Int),1)):=by
   unfold bL fQ
   rw [if_pos (by simp),show ix [x,y] 0=some x from rfl,aA,a1,if_neg (by simp)];rfl
  have s1:bL [x,y] (x.length:Int) 1=some (.inl (((x.length+y.length:Nat):Int),2)):=by
   unfold bL fQ
   rw [if_pos (by simp),show ix [x,y] 1=some y from rfl,aA,a2,if_neg (by simp;omega)];rfl
  have s2:bL [x,y] ((x.length+y.length:Nat):Int) 2=some (.inr (((x.length+y.length:Nat):Int))):=by
   unfold bL
   rw [if_neg (by simp)]
  rw [aEA (step:=fun s:Int × Int=>bL [x,y] s.1 s.2) (s:=(0,0)) s0,aEA (step:=fun s:Int × Int=>bL [x,y] s.1 s.2) (s:=((x.length:Int),1)) s1,aCc (step:=fun s:Int × Int=>bL [x,y] s.1 s.2) (s:=(((x.length+y.length:Nat):Int),2)) s2]
 rw [h1,aA]
 unfold iP aHA
 rw [if_pos ⟨rfl,by omega,by unfold jT;omega⟩,aA]
 have s0:bV [x,y] [] 0=some (.inl (x,1)):=by
  unfold bV
  rw [if_pos (by simp),show ix [x,y] 0=some x from rfl,aA,dC (by simp [jT];omega),aA];rfl
 have s1:bV [x,y] x 1=some (.inl (x++y,2)):=by
  unfold bV
  rw [if_pos (by simp),show ix [x,y] 1=some y from rfl,aA,dC (by unfold jT;omega),aA];rfl
 have s2:bV [x,y] (x++y) 2=some (.inr (x++y)):=by
  unfold bV
  rw [if_neg (by simp)]
 rw [aEA (step:=fun s:List aH × Int=>bV [x,y] s.1 s.2) (s:=([],0)) s0,aEA (step:=fun s:List aH × Int=>bV [x,y] s.1 s.2) (s:=(x,1)) s1,aCc (step:=fun s:List aH × Int=>bV [x,y] s.1 s.2) (s:=(x++y,2)) s2,aA]
 rfl
section
variable {a b:bA} {M:List aH}
end
end Gv
namespace Gv
open Go
section
variable {a b:bA} {M:List aH}
end
end Gv
