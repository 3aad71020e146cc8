/- Sets of states, as lists; sets closed under inner steps: the reference's and the program's. -/
import Derived.Test.YthbfapccpmppoaaGreatDoorJP20
set_option linter.all false
namespace Gv
open Go
structure Lists (xs:List Int) (X:Int->Prop):Prop where
 ord:xs.Pairwise (· < ·)
 mem:∀ q,q∈xs<->X q
theorem Lists.eq {xs ys:List Int} {X:Int->Prop} (a:Lists xs X) (b:Lists ys X):xs=ys:=
 aNl (R:=fun a b:Int=>a < b) (fun a=>Int.lt_irrefl a) (fun h1 h2=>Int.lt_trans h1 h2) a.ord b.ord fun q=>(a.mem q).trans (b.mem q).symm
theorem Lists.len {xs:List Int} {X:Int->Prop} (a:Lists xs X) {n:Nat} (h:∀ q,X q->0<=q/\q < n):xs.length<=n:=by
 have hn:xs.Nodup:=a.ord.imp fun h=>by omega
 have:=List.Nodup.length_le_of_subset (l₂:=(List.range n).map Int.ofNat) hn (fun x hx=>by
  have:=h x ((a.mem x).1 hx)
  rw [List.mem_map]
  exact ⟨x.toNat,by rw [List.mem_range];omega,by show ((x.toNat:Nat):Int)=x;omega⟩)
 simpa using this
inductive Cl (t:gM) (X:Int->Prop):Int->Prop
 |base {q:Int}:X q->Cl t X q
 |step {e:Edge}:e∈t.E->e.B=0->Cl t X e.F->Cl t X e.To
section
variable {t:gM} {X:Int->Prop}
theorem aPt (hv:iP t) {e:Edge} (he:e∈t.E):(0<=e.F/\e.F < t.N)/\(0<=e.To/\e.To < t.N)/\0<=e.B/\e.B < t.L.length:=by
 have h:=aPr hv he
 unfold aDJ at h
 omega
theorem Cl.inn (hv:iP t) (h0:∀ q,X q->0<=q/\q < t.N) {q:Int} (h:Cl t X q):0<=q/\q < t.N:=by
 induction h with
 |base h=>exact h0 _ h
 |step he _ _ _=>have:=(aPt hv he).2.1;omega
theorem Cl.congr {Y:Int->Prop} (h:∀ q,X q->Y q) {q:Int} (hc:Cl t X q):Cl t Y q:=by
 induction hc with
 |base hx=>exact .base (h _ hx)
 |step a b _ ih=>exact .step a b ih
def Aft (t:gM) (S:List Int) (k:Int) (q:Int):Prop:=∃ e∈t.E,e.B=k/\e.F∈S/\e.To=q
theorem Aft.inn (hv:iP t) {S:List Int} {k q:Int} (h:Aft t S k q):0<=q/\q < t.N:=by
 obtain ⟨e,he,_,_,rfl⟩:=h
 have:=(aPt hv he).2.1;omega
end
end Gv
namespace Gv
open Go
section
variable {t:gM}
end
end Gv
namespace Gv
open Go
section
variable {κ β:Type} [DecidableEq β] [BEq β] [LawfulBEq β] (key:κ->β)
def atK (F:List κ) (q:κ):Int:=if key q∈F.map key then pos (F.map key) (key q) else (F.length:Int)
def insK (F:List κ) (q:κ):List κ:=if key q∈F.map key then F else F++[q]
def add1 (i:Int) (s:List κ × List Edge) (x:Int × κ):List κ × List Edge:=(insK key s.1 x.2,s.2++[⟨i,x.1,atK key s.1 x.2⟩])
variable {key}
theorem insK_pre (F:List κ) (q:κ):F <+:insK key F q:=by
 unfold insK;split
 ·exact List.prefix_refl _
 ·exact List.prefix_append _ _
theorem atK_in (F:List κ) (q:κ):0<=atK key F q/\atK key F q < (insK key F q).length:=by
 unfold atK insK
 by_cases h:key q∈F.map key
 ·rw [if_pos h,if_pos h]
  obtain ⟨i,hi,e,_⟩:=pos_get h
  rw [List.length_map] at hi
  omega
 ·rw [if_neg h,if_neg h,List.length_append,List.length_singleton];omega
theorem ED.done {L:List aL} {j n:Nat} {ed:List Edge} (h:ED L (j:Int) 0 n ed) (hj:j<=n):ed.Pairwise flLt/\∀ e∈ed,(0<=e.F/\e.F < n)/\(1<=e.B/\e.B<=L.length)/\0<=e.To/\e.To < n:=
 ⟨h.ord,fun e he=>by have:=h.all e he;omega⟩
def Small (s:List κ × List Edge):Prop:=s.1.length<=40/\s.2.length<=300
instance (s:List κ × List Edge):Decidable (Small s):=by unfold Small;infer_instance
theorem Small.pre {s u:List κ × List Edge} (h:s.1 <+:u.1/\s.2 <+:u.2) (hu:Small u):Small s:=⟨Nat.le_trans h.1.length_le hu.1,Nat.le_trans h.2.length_le hu.2⟩
end
end Gv
namespace Gv
open Go
section
structure GoodS (t:gM) (S:List Int):Prop where
 len:S.length<=40
 inn:∀ q∈S,0<=q/\q < t.N
variable {t:gM}
end
end Gv
namespace Gv
open Go
section
variable {t:gM}
theorem GoodS.small (hv:iP t) {S:List Int} (h:GoodS t S):∀ q∈S,0<=q/\q<=63:=fun q hq=>by have:=h.inn q hq;have:=hv.1;omega
theorem tail_cons (hv:iP t):t.L=gY::t.L.tail/\aFm t.L.tail:=by
 obtain ⟨L,e,h⟩:=hv.2.2.1.cons
 rw [e];exact ⟨rfl,h⟩
end
end Gv
namespace Gv
open Go
end Gv
namespace Gv
open Go
structure Jn (a b:gM) (M:List aL):Prop where
 str:aFm M
 mem:∀ s,s∈M<->s∈a.L++b.L/\s≠gY
 len:M.length<=24
def inQ (a b:gM) (q:Int × Int):Prop:=(0<=q.1/\q.1 < a.N)/\0<=q.2/\q.2 < b.N
section
variable {a b:gM} {M:List aL}
def atQ (F:List (Int × Int)) (i:Int):Int × Int:=F.getD i.toNat (0,0)
theorem atQ_mem {F:List (Int × Int)} {i:Int} (h0:0<=i) (h:i < F.length):atQ F i∈F:=by
 unfold atQ;rw [List.getD_eq_getElem?_getD,List.getElem?_eq_getElem (by omega)];exact List.getElem_mem _
theorem atQ_inj {F:List (Int × Int)} (hn:F.Nodup) {i j:Int} (hi:0<=i/\i < F.length) (hj:0<=j/\j < F.length) (h:atQ F i=atQ F j):i=j:=by
 unfold atQ at h
 rw [List.getD_eq_getElem?_getD,List.getElem?_eq_getElem (by omega),List.getD_eq_getElem?_getD,List.getElem?_eq_getElem (by omega)] at h
 simp only [Option.getD_some] at h
 have:=(List.getElem_inj hn).1 h
 omega
def Bnd (s:List (Int × Int) × List Edge):Prop:=∀ e∈s.2,(0<=e.F/\e.F < s.1.length)/\0<=e.To/\e.To < s.1.length
theorem Bnd.add {s:List (Int × Int) × List Edge} (h:Bnd s) {i:Nat} (hi:i < s.1.length) (x:Int × (Int × Int)):Bnd (add1 id (i:Int) s x):=by
 intro e he
 have hl:=(insK_pre (key:=id) s.1 x.2).length_le
 have ha:=atK_in (key:=id) s.1 x.2
 simp only [add1] at he ⊢
 rcases List.mem_append.1 he with he|he
 ·have:=h e he;omega
 ·simp at he;subst he
  simp only;omega
def imE (g:Int × Int->Int) (F:List (Int × Int)) (E:List Edge):List Edge:=E.map fun e=>⟨g (atQ F e.F),e.B,g (atQ F e.To)⟩
theorem imE_nodup {g:Int × Int->Int} {F:List (Int × Int)} {E:List Edge} (hb:Bnd (F,E)) (hn:F.Nodup) (hg:∀ p∈F,∀ q∈F,g p=g q->p=q) (hE:E.Pairwise flLt):(imE g F E).Nodup:=by
 unfold imE List.Nodup
 rw [List.pairwise_map]
 refine hE.imp_of_mem ?_
 intro e f he hf h heq
 simp only [Edge.mk.injEq] at heq
 have h1:=hb e he
 have h2:=hb f hf
 simp only at h1 h2
 have:=atQ_inj hn h1.1 h2.1 (hg _ (atQ_mem h1.1.1 h1.1.2) _ (atQ_mem h2.1.1 h2.1.2) heq.1)
 unfold flLt at h
 omega
theorem aOD (p q:Int × Int):prLt p q=true<->p.1 < q.1\/(p.1=q.1/\p.2 < q.2):=by
 simp [prLt]
end
end Gv
namespace Gv
open Go
structure Shd (M sh:List aL):Prop where
 len:sh.length<=1000
 mem:∀ s∈M,(iA 40 s).1∈sh
def nm (b:gM) (q:Int × Int):Int:=q.1 * b.N+q.2
section
variable {a b:gM} {M sh:List aL}
theorem nm_lt (hb:iP b) {p q:Int × Int} (hp:0<=p.2/\p.2 < b.N) (hq:0<=q.2/\q.2 < b.N):prLt p q=true<->nm b p < nm b q:=by
 have h2:=hb.1
 rw [aOD]
 unfold nm
 constructor
 ·rintro (h|⟨h,h'⟩)
  ·have:(p.1+1) * b.N<=q.1 * b.N:=Int.mul_le_mul_of_nonneg_right (by omega) (by omega)
   rw [Int.add_mul,Int.one_mul] at this
   omega
  ·rw [h];omega
 ·intro h
  rcases Int.lt_trichotomy p.1 q.1 with g|g|g
  ·exact .inl g
  ·right;rw [g] at h;omega
  ·exfalso
   have:(q.1+1) * b.N<=p.1 * b.N:=Int.mul_le_mul_of_nonneg_right (by omega) (by omega)
   rw [Int.add_mul,Int.one_mul] at this
   omega
theorem nm_inj (hb:iP b) {p q:Int × Int} (hp:0<=p.2/\p.2 < b.N) (hq:0<=q.2/\q.2 < b.N) (h:nm b p=nm b q):p=q:=by
 have h1:=nm_lt hb hp hq
 have h2:=nm_lt hb hq hp
 rw [aOD] at h1 h2
 obtain ⟨p1,p2⟩:=p
 obtain ⟨q1,q2⟩:=q
 simp only [Prod.mk.injEq] at *
 omega
end
end Gv
namespace Gv
open Go
section
variable {a b:gM} {M sh:List aL}
structure Rf (b:gM) (s:List (Int × Int) × List Edge) (ed:List Edge):Prop where
 se:SE ed
 mem:∀ x,x∈ed<->x∈imE (nm b) s.1 s.2
theorem se_nodup {l:List Edge} (h:SE l):l.Nodup:=h.imp fun {x y} h e=>by subst e;rw [aRx] at h;cases h
theorem Rf.len (hb:iP b) {s:List (Int × Int) × List Edge} {ed:List Edge} (h:Rf b s ed) (hB:Bnd s) (hn:s.1.Nodup) (hq:∀ q∈s.1,inQ a b q) (hE:s.2.Pairwise flLt):ed.length=s.2.length:=by
 have h1:=imE_nodup (g:=nm b) hB hn (fun p hp q hq'=>nm_inj hb (hq p hp).2 (hq q hq').2) hE
 have:=((List.perm_ext_iff_of_nodup (se_nodup h.se) h1).2 h.mem).length_eq
 rw [this];unfold imE;simp
end
end Gv
namespace Gv
open Go
section
variable {a b:gM} {M sh:List aL}
end
end Gv
namespace Gv
open Go
section
variable {a b:gM} {M:List aL}
end
end Gv
namespace Gv
open Go
section
variable {a b:gM} {M:List aL}
end
end Gv
