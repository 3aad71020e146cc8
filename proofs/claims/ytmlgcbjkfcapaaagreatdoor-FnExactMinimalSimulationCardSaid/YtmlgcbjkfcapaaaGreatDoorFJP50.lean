/- Sets of states, as lists; sets closed under inner steps: the reference's and the program's. -/
import Derived.Test.YtmlgcbjkfcapaaaGreatDoorFJP20
set_option linter.all false
namespace Gv
open Go
theorem aJw (s:List Int) (h:s.length < 1000000000):fG s=some (jT s):=by
 unfold fG
 by_cases h2:s.length < 2
 ·rw [if_pos (by simp;omega)]
  rcases s with _|⟨a,_|⟨b,l⟩⟩
  ·rfl
  ·rfl
  ·simp at h2;omega
 rw [if_neg (by simp;omega)]
 have:=aDS (step:=fun k=>dP s k) s.length (fun k (_:Unit)=>(k:Int)) (fun k _=>1≤k∧jT (s.take k)=s.take k) (fun r=>r=.inr (jT s)∨(r=.inl ()∧jT s=s)) (fun k a hk hI=>?_) (fun a hI=>?_) (s.length - 1) 1 () (by omega) ⟨Nat.le_refl _,?_⟩
 ·obtain ⟨r,hr,hR⟩:=this
  rw [show (1:Int)=((1:Nat):Int) from rfl,hr,aD]
  rcases hR with rfl|⟨rfl,h⟩
  ·rfl
  ·rw [h];rfl
 ·obtain ⟨i1,i2⟩:=hI
  have hk1:wr ((k:Int) - 1)=((k - 1:Nat):Int):=by rw [iN (by omega) (by omega)];omega
  have hdt:=aDq (s:=s) (m:=k) i1 hk
  simp only [dP,dA hk,if_pos,dD hk,aD,hk1,dD (xs:=s) (k:=k - 1) (by omega),gD,cI hk (show s.length < 4611686018427387904 by omega)]
  by_cases e:s[k]=s[k - 1]'(by omega)
  ·right
   rw [if_pos e.symm,i2] at hdt
   rw [if_pos (by simpa using e),aDR (by omega),aD]
   obtain ⟨s',w,hl,g1,g2,g3⟩:=aCM (step:=fun x:List Int × Int × Int=>dO (k:Int) (s.drop k) x.1 x.2.1 x.2.2) s k i1 hk hdt (fun j w s' x y j1 j2 j3 j4 hx hy=>by
    have hl:(s.drop k).length=s.length - k:=by simp
    have a1:(k:Int)+(j:Int)=((k+j:Nat):Int):=by omega
    have a2:wr ((j:Int) - 1)=((j - 1:Nat):Int):=by rw [iN (by omega) (by omega)];omega
    have a3:(k:Int)+((j - 1:Nat):Int)=((k+j - 1:Nat):Int):=by omega
    simp only [dO,hl,dA (show j < s.length - k by omega),if_pos,dD (xs:=s.drop k) (k:=j) (by omega),aD,a1,aAE,hx,a2,List.getElem?_eq_getElem (show j - 1 < (s.drop k).length by omega),a3,hy,eQ,cI (show j < s.length - k by omega) (by omega),List.getElem?_eq_getElem (show w < s'.length by omega),vL (xs:=s') (k:=w) _ (by omega),cI j4 (show s.length < 4611686018427387904 by omega)]
    by_cases e:x=y<;>simp [e]) (fun s' w=>by
     have hl:(s.drop k).length=s.length - k:=by simp
     simp only [dO,hl,cQ];rfl)
   rw [hl,aD]
   unfold eP
   simp only
   rw [aDR (by omega),aD,aGs _ (by omega),aD,slc_to (by simp;omega),aD]
   refine ⟨_,rfl,.inl ?_⟩
   rw [List.take_append_of_le_length (by simp;omega),List.take_take,Nat.min_self,g3]
  ·left
   rw [if_neg (by simpa using e)]
   refine ⟨(),rfl,by omega,?_⟩
   rw [hdt,if_neg (fun h=>e h.symm),i2,List.take_add_one]
   simp [hk]
 ·refine ⟨_,by simp only [dP,cQ];rfl,.inr ⟨rfl,?_⟩⟩
  have:=hI.2
  rwa [List.take_of_length_le (by omega)] at this
 ·rcases s with _|⟨a,l⟩
  ·rfl
  ·rfl
structure aCN (xs:List Int) (X:Int→Prop):Prop where
 ord:xs.Pairwise (· < ·)
 mem:∀ q,q∈xs↔X q
theorem aCN.eq {xs ys:List Int} {X:Int→Prop} (a:aCN xs X) (b:aCN ys X):xs=ys:=
 aDo (R:=fun a b:Int=>a < b) (fun a=>Int.lt_irrefl a) (fun h1 h2=>Int.lt_trans h1 h2) a.ord b.ord fun q=>(a.mem q).trans (b.mem q).symm
theorem aCN.iff {xs:List Int} {X Y:Int→Prop} (a:aCN xs X) (h:∀ q,X q↔Y q):aCN xs Y:=⟨a.ord,fun q=>(a.mem q).trans (h q)⟩
theorem aCN.len {xs:List Int} {X:Int→Prop} (a:aCN xs X) {n:Nat} (h:∀ q,X q→0≤q∧q < n):xs.length≤n:=by
 have hn:xs.Nodup:=a.ord.imp fun h=>by omega
 have:=List.Nodup.length_le_of_subset (l₂:=(List.range n).map Int.ofNat) hn (fun x hx=>by
  have:=h x ((a.mem x).1 hx)
  rw [List.mem_map]
  exact ⟨x.toNat,by rw [List.mem_range];omega,by show ((x.toNat:Nat):Int)=x;omega⟩)
 simpa using this
def iLt (a b:Int):Bool:=decide (a < b)
theorem lists_srt {xs:List Int}:aCN (jT (srt iLt xs)) (fun q=>q∈xs):=by
 have h1:(srt iLt xs).Pairwise fun a b=>a≤b:=by
  have:=List.pairwise_mergeSort (le:=fun a b=>!iLt b a) (fun a b c h1 h2=>by unfold iLt at *;simp at *;omega) (fun a b=>by unfold iLt;simp;omega) xs
  refine this.imp fun {a b} h=>?_
  unfold iLt at h;simpa using h
 refine ⟨aDp (R:=fun a b:Int=>a≤b) (S:=fun a b:Int=>a < b) (fun h hne=>by omega) (fun h h'=>by omega) h1,fun q=>?_⟩
 rw [aCz];unfold srt;rw [List.mem_mergeSort]
theorem aIn {xs:List Int} (h:xs.length < 1000000000):yY xs=some (srt iLt xs):=by
 unfold yY;rw [if_pos (by unfold lT;omega)];rfl
inductive Cl (t:cH) (X:Int→Prop):Int→Prop
 |base {q:Int}:X q→Cl t X q
 |step {e:Edge}:e∈t.E→e.B=0→Cl t X e.F→Cl t X e.To
section
variable {t:cH} {X:Int→Prop}
theorem edge_b (hv:dU t) {e:Edge} (he:e∈t.E):(0≤e.F∧e.F < t.N)∧(0≤e.To∧e.To < t.N)∧0≤e.B∧e.B < t.L.length:=by
 have h:=wX hv he
 unfold xW at h
 omega
theorem Cl.inn (hv:dU t) (h0:∀ q,X q→0≤q∧q < t.N) {q:Int} (h:Cl t X q):0≤q∧q < t.N:=by
 induction h with
 |base h=>exact h0 _ h
 |step he _ _ _=>have:=(edge_b hv he).2.1;omega
theorem Cl.congr {Y:Int→Prop} (h:∀ q,X q→Y q) {q:Int} (hc:Cl t X q):Cl t Y q:=by
 induction hc with
 |base hx=>exact .base (h _ hx)
 |step a b _ ih=>exact .step a b ih
theorem Cl.iff {Y:Int→Prop} (h:∀ q,X q↔Y q) (q:Int):Cl t X q↔Cl t Y q:=⟨Cl.congr fun q=>(h q).1,Cl.congr fun q=>(h q).2⟩
def Aft (t:cH) (S:List Int) (k:Int) (q:Int):Prop:=∃ e∈t.E,e.B=k∧e.F∈S∧e.To=q
theorem Aft.inn (hv:dU t) {S:List Int} {k q:Int} (h:Aft t S k q):0≤q∧q < t.N:=by
 obtain ⟨e,he,_,_,rfl⟩:=h
 have:=(edge_b hv he).2.1;omega
end
end Gv
namespace Gv
open Go
section
variable {t:cH}
theorem aKr (hv:dU t) {S:List Int} (hS:S.length < 1000000000) {k:Nat} (hk:k < t.L.length):∃ R,oN t S t.L[k]=some R∧aCN R (Aft t S (k:Int)):=by
 have h300:=hv.2.2.2.1
 have hl:((t.E.filter fun e=>txt t e == t.L[k]&&S.any fun x=>e.F == x).map (·.To)).length≤300:=by
  rw [List.length_map];exact Nat.le_trans (List.length_filter_le _ _) h300
 refine ⟨jT (srt iLt ((t.E.filter fun e=>txt t e == t.L[k]&&S.any fun x=>e.F == x).map (·.To))),?_,lists_srt.iff fun q=>?_⟩
 ·unfold oN
  rw [aAC (step:=fun x:List Int × Int=>mA t S t.L[k] x.1 x.2) t.E (fun e=>txt t e == t.L[k]&&S.any fun x=>e.F == x) (·.To) id (fun j out x hj ho hx=>?_) (fun out=>by simp only [mA,cQ];rfl),aD]
  ·unfold oX
   simp only [id]
   rw [aIn (by omega),aD,aJw _ (by unfold srt;rw [List.length_mergeSort];omega),aD]
  ·obtain ⟨hj',rfl⟩:=vY hx
   simp only [mA,dA hj,if_pos,hx,aD,aJq (wX hv (List.getElem_mem hj')),aIa S _ (show S.length < 4611686018427387904 by omega),oZ,oY,cI hj (show t.E.length < 4611686018427387904 by omega)]
   rw [iR (by simp [lT];omega),aD]
   cases txt t t.E[j] == t.L[k]<;>cases (S.any fun x=>t.E[j].F == x)<;>rfl
 ·rw [List.mem_map]
  constructor
  ·rintro ⟨e,he,rfl⟩
   rw [List.mem_filter,Bool.and_eq_true,List.any_eq_true] at he
   obtain ⟨h1,h2,x,hx,h3⟩:=he
   rw [aHs hv h1 (List.getElem_mem hk),aDU hv.2.2.1 hk,beq_iff_eq] at h2
   rw [beq_iff_eq] at h3
   exact ⟨e,h1,h2,h3 ▸ hx,rfl⟩
  ·rintro ⟨e,h1,h2,h3,rfl⟩
   refine ⟨e,?_,rfl⟩
   rw [List.mem_filter,Bool.and_eq_true,List.any_eq_true,aHs hv h1 (List.getElem_mem hk),aDU hv.2.2.1 hk,beq_iff_eq]
   exact ⟨h1,h2,_,h3,by simp⟩
end
end Gv
namespace Gv
open Go
section
variable {κ β:Type} [DecidableEq β] [BEq β] [LawfulBEq β] (key:κ→β)
def atK (F:List κ) (q:κ):Int:=if key q∈F.map key then pos (F.map key) (key q) else (F.length:Int)
def aAS (F:List κ) (q:κ):List κ:=if key q∈F.map key then F else F++[q]
def add1 (i:Int) (s:List κ × List Edge) (x:Int × κ):List κ × List Edge:=(aAS key s.1 x.2,s.2++[⟨i,x.1,atK key s.1 x.2⟩])
variable {key}
theorem aJx (F:List κ) (q:κ):F <+:aAS key F q:=by
 unfold aAS;split
 ·exact List.prefix_refl _
 ·exact List.prefix_append _ _
theorem aJy (F:List κ) (q:κ):(aAS key F q).length≤F.length+1:=by unfold aAS;split<;>simp
theorem atK_in (F:List κ) (q:κ):0≤atK key F q∧atK key F q < (aAS key F q).length:=by
 unfold atK aAS
 by_cases h:key q∈F.map key
 ·rw [if_pos h,if_pos h]
  obtain ⟨i,hi,e,_⟩:=aBG h
  rw [List.length_map] at hi
  omega
 ·rw [if_neg h,if_neg h,List.length_append,List.length_singleton];omega
theorem ED.done {L:List bH} {j n:Nat} {ed:List Edge} (h:ED L (j:Int) 0 n ed) (hj:j≤n):ed.Pairwise flLt∧∀ e∈ed,(0≤e.F∧e.F < n)∧(1≤e.B∧e.B≤L.length)∧0≤e.To∧e.To < n:=
 ⟨h.ord,fun e he=>by have:=h.all e he;omega⟩
def Small (s:List κ × List Edge):Prop:=s.1.length≤40∧s.2.length≤300
instance (s:List κ × List Edge):Decidable (Small s):=by unfold Small;infer_instance
end
end Gv
namespace Gv
open Go
section
structure GoodS (t:cH) (S:List Int):Prop where
 len:S.length≤40
 inn:∀ q∈S,0≤q∧q < t.N
variable {t:cH}
end
end Gv
namespace Gv
open Go
section
variable {t:cH}
theorem GoodS.small (hv:dU t) {S:List Int} (h:GoodS t S):∀ q∈S,0≤q∧q≤63:=fun q hq=>by have:=h.inn q hq;have:=hv.1;omega
end
end Gv
namespace Gv
open Go
end Gv
namespace Gv
open Go
structure Jn (a b:cH) (M:List bH):Prop where
 str:aIe M
 mem:∀ s,s∈M↔s∈a.L++b.L∧s≠jK
 len:M.length≤24
def inQ (a b:cH) (q:Int × Int):Prop:=(0≤q.1∧q.1 < a.N)∧0≤q.2∧q.2 < b.N
section
variable {a b:cH} {M:List bH}
def atQ (F:List (Int × Int)) (i:Int):Int × Int:=F.getD i.toNat (0,0)
theorem atQ_mem {F:List (Int × Int)} {i:Int} (h0:0≤i) (h:i < F.length):atQ F i∈F:=by
 unfold atQ;rw [List.getD_eq_getElem?_getD,List.getElem?_eq_getElem (by omega)];exact List.getElem_mem _
theorem atQ_inj {F:List (Int × Int)} (hn:F.Nodup) {i j:Int} (hi:0≤i∧i < F.length) (hj:0≤j∧j < F.length) (h:atQ F i=atQ F j):i=j:=by
 unfold atQ at h
 rw [List.getD_eq_getElem?_getD,List.getElem?_eq_getElem (by omega),List.getD_eq_getElem?_getD,List.getElem?_eq_getElem (by omega)] at h
 simp only [Option.getD_some] at h
 have:=(List.getElem_inj hn).1 h
 omega
def Bnd (s:List (Int × Int) × List Edge):Prop:=∀ e∈s.2,(0≤e.F∧e.F < s.1.length)∧0≤e.To∧e.To < s.1.length
theorem Bnd.add {s:List (Int × Int) × List Edge} (h:Bnd s) {i:Nat} (hi:i < s.1.length) (x:Int × (Int × Int)):Bnd (add1 id (i:Int) s x):=by
 intro e he
 have hl:=(aJx (key:=id) s.1 x.2).length_le
 have ha:=atK_in (key:=id) s.1 x.2
 simp only [add1] at he ⊢
 rcases List.mem_append.1 he with he|he
 ·have:=h e he;omega
 ·simp at he;subst he
  simp only;omega
def imE (g:Int × Int→Int) (F:List (Int × Int)) (E:List Edge):List Edge:=E.map fun e=>⟨g (atQ F e.F),e.B,g (atQ F e.To)⟩
theorem imE_nodup {g:Int × Int→Int} {F:List (Int × Int)} {E:List Edge} (hb:Bnd (F,E)) (hn:F.Nodup) (hg:∀ p∈F,∀ q∈F,g p=g q→p=q) (hE:E.Pairwise flLt):(imE g F E).Nodup:=by
 unfold imE List.Nodup
 rw [List.pairwise_map]
 refine hE.imp_of_mem ?_
 intro e f he hf h heq
 simp only [Edge.mk.injEq] at heq
 have h1:=hb e he
 have h2:=hb f hf
 simp only at h1 h2
 have:=atQ_inj hn h1.1 h2.1 (hg _ (atQ_mem h1.1.1 h1.1.2) _ (atQ_mem h2.1.1 h2.1.2) heq.1)
 unfold flLt at h
 omega
theorem aHt (p q:Int × Int):prLt p q=true↔p.1 < q.1∨(p.1=q.1∧p.2 < q.2):=by
 simp [prLt]
end
end Gv
namespace Gv
open Go
structure Shd (M sh:List bH):Prop where
 len:sh.length≤1000
 mem:∀ s∈M,(iZ 40 s).1∈sh
def nm (b:cH) (q:Int × Int):Int:=q.1 * b.N+q.2
section
variable {a b:cH} {M sh:List bH}
theorem nm_lt (hb:dU b) {p q:Int × Int} (hp:0≤p.2∧p.2 < b.N) (hq:0≤q.2∧q.2 < b.N):prLt p q=true↔nm b p < nm b q:=by
 have h2:=hb.1
 rw [aHt]
 unfold nm
 constructor
 ·rintro (h|⟨h,h'⟩)
  ·have:(p.1+1) * b.N≤q.1 * b.N:=Int.mul_le_mul_of_nonneg_right (by omega) (by omega)
   rw [Int.add_mul,Int.one_mul] at this
   omega
  ·rw [h];omega
 ·intro h
  rcases Int.lt_trichotomy p.1 q.1 with g|g|g
  ·exact .inl g
  ·right;rw [g] at h;omega
  ·exfalso
   have:(q.1+1) * b.N≤p.1 * b.N:=Int.mul_le_mul_of_nonneg_right (by omega) (by omega)
   rw [Int.add_mul,Int.one_mul] at this
   omega
theorem nm_inj (hb:dU b) {p q:Int × Int} (hp:0≤p.2∧p.2 < b.N) (hq:0≤q.2∧q.2 < b.N) (h:nm b p=nm b q):p=q:=by
 have h1:=nm_lt hb hp hq
 have h2:=nm_lt hb hq hp
 rw [aHt] at h1 h2
 obtain ⟨p1,p2⟩:=p
 obtain ⟨q1,q2⟩:=q
 simp only [Prod.mk.injEq] at *
 omega
end
end Gv
namespace Gv
open Go
section
variable {a b:cH} {M sh:List bH}
structure Rf (b:cH) (s:List (Int × Int) × List Edge) (ed:List Edge):Prop where
 se:SE ed
 mem:∀ x,x∈ed↔x∈imE (nm b) s.1 s.2
theorem se_nodup {l:List Edge} (h:SE l):l.Nodup:=h.imp fun {x y} h e=>by subst e;rw [aBI] at h;cases h
theorem Rf.len (hb:dU b) {s:List (Int × Int) × List Edge} {ed:List Edge} (h:Rf b s ed) (hB:Bnd s) (hn:s.1.Nodup) (hq:∀ q∈s.1,inQ a b q) (hE:s.2.Pairwise flLt):ed.length=s.2.length:=by
 have h1:=imE_nodup (g:=nm b) hB hn (fun p hp q hq'=>nm_inj hb (hq p hp).2 (hq q hq').2) hE
 have:=((List.perm_ext_iff_of_nodup (se_nodup h.se) h1).2 h.mem).length_eq
 rw [this];unfold imE;simp
end
end Gv
namespace Gv
open Go
section
variable {a b:cH} {M sh:List bH}
end
end Gv
namespace Gv
open Go
section
variable {a b:cH} {M:List bH}
end
end Gv
namespace Gv
open Go
section
variable {a b:cH} {M:List bH}
end
end Gv
