/- Branching bisimulations that keep divergence, of systems given by their steps; they are kept by putting systems side by side. Plain Lean. -/
import Derived.Test.YtnaggbljhaoimaaGreatDoorJP200
set_option linter.all false
namespace Gv
section
variable {L S T:Type}
inductive Tp (t0:L) (A:S->L->S->Prop) (ok:S->Prop) (x:S):S->Prop
 |refl:Tp t0 A ok x x
 |step {y z:S}:Tp t0 A ok x y->A y t0 z->ok z->Tp t0 A ok x z
def DivR (t0:L) (A:S->L->S->Prop) (ok:S->Prop) (x:S):Prop:=∃ X:S->Prop,X x/\∀ z,X z->ok z/\∃ z',A z t0 z'/\X z'
def Fwd (t0:L) (A:S->L->S->Prop) (B:T->L->T->Prop) (R:S->T->Prop):Prop:=
 ∀ x y,R x y->∀ a x',A x a x'->(a=t0/\R x' y)\/∃ y1 y',Tp t0 B (R x) y y1/\B y1 a y'/\R x' y'
def Dvf (t0:L) (A:S->L->S->Prop) (B:T->L->T->Prop) (R:S->T->Prop):Prop:=
 ∀ x y,R x y->DivR t0 A (fun z=>R z y) x->DivR t0 B (R x) y
def Dvq (t0:L) (A:S->L->S->Prop) (B:T->L->T->Prop) (R:S->T->Prop):Prop:=
 ∀ (CA:S->Prop) (CB:T->Prop),(∀ x y,R x y->(CA x<->CB y))->∀ x y,R x y->DivR t0 A CA x->DivR t0 B CB y
variable {t0:L} {A:S->L->S->Prop} {B:T->L->T->Prop} {R:S->T->Prop}
inductive Mor (r:S->S->Prop):S->S->Prop
 |one {x y:S}:r x y->Mor r x y
 |more {x y z:S}:r x y->Mor r y z->Mor r x z
theorem Mor.trans {r:S->S->Prop} {x y z:S} (h:Mor r x y) (h':Mor r y z):Mor r x z:=by
 induction h with
 |one hr=>exact .more hr h'
 |more hr _ ih=>exact .more hr (ih h')
theorem Tp.trans {ok:S->Prop} {x y z:S} (h:Tp t0 A ok x y) (h':Tp t0 A ok y z):Tp t0 A ok x z:=by
 induction h' with
 |refl=>exact h
 |step _ hs ho ih=>exact ih.step hs ho
end
section
variable {L:Type}
inductive Mv (n:Nat) (A:Nat->Int->L->Int->Prop) (sh:L->Option L) (mte:L->L->Option L):List Int->L->List Int->Prop
 |one {s:List Int} {i:Nat} {a l:L} {x:Int}:i < n->A i (s.getD i 0) a x->sh a=some l->Mv n A sh mte s l (s.set i x)
 |two {s:List Int} {i k:Nat} {a b c l:L} {x y:Int}:i < k->k < n->A i (s.getD i 0) a x->A k (s.getD k 0) b y->mte a b=some c->sh c=some l->Mv n A sh mte s l ((s.set i x).set k y)
variable {n:Nat} {A B:Nat->Int->L->Int->Prop} {sh:L->Option L} {mte:L->L->Option L} {t0:L} {R:Nat->Int->Int->Prop} {s t:List Int}
theorem getD_set {s:List Int} {i j:Nat} {x:Int} (hi:i < s.length):(s.set i x).getD j 0=if j=i then x else s.getD j 0:=by
 by_cases h:j=i
 ·subst h;simp [List.getD,hi]
 ·rw [if_neg h];simp only [List.getD];rw [List.getElem?_set_ne (fun e=>h e.symm)]
end
end Gv
namespace Gv
open Go
def stT (t:aW) (x:Int) (s:aV) (y:Int):Prop:=∃ e∈t.E,e.F=x/\txt t e=s/\e.To=y
structure Bbq (a b:aW) (R:Int->Int->Prop):Prop where
 inn:∀ x y,R x y->jY a x/\jY b y
 fw:Fwd dN (stT a) (stT b) R
 bw:Fwd dN (stT b) (stT a) (fun y x=>R x y)
 df:Dvq dN (stT a) (stT b) R
 db:Dvq dN (stT b) (stT a) (fun y x=>R x y)
theorem Bbq.symm {a b:aW} {R:Int->Int->Prop} (h:Bbq a b R):Bbq b a (fun y x=>R x y):=⟨fun x y g=>(h.inn y x g).symm,h.bw,h.fw,h.db,h.df⟩
section
variable {u:aW} {q:List Int} {R:Int->Int->Prop}
end
section
variable {t u:aW} {o:Int}
end
section
variable {u:aW}
end
section
variable {a b:aW} {M:List aV} {Eo:List Edge} {R:Int->Int->Prop}
end
end Gv
namespace Gv
open Go
def T6:List aV:=[dN,[97],[103,101,116,40,48,41],[103,101,116,40,49,41],[112,117,116,40,48,41],[112,117,116,40,49,41]]
structure MeetOk (ms:List aT):Prop where
 len:ms.length<=6
 tau:∀ m∈ms,m.Left≠dN/\m.Right≠dN
 res:∀ m∈ms,m.Result.length<=100
end Gv
namespace Gv
open Go
def aKW (n:bB) (i:Nat):aW:=n.Parts.getD i ⟨0,0,[],[]⟩
structure PartOk (t:aW):Prop where
 ok:cP t
 lab:∀ s∈t.L,s∈T6
 ed:t.E.length<=30
structure NetOk (n:bB):Prop where
 len:1<=n.Parts.length/\n.Parts.length<=4
 part:∀ t∈n.Parts,PartOk t
 meet:MeetOk n.Meetings
 al:n.Allowed.length<=12
 hid:n.Hidden.length<=12
def Rng (n:bB) (s:List Int):Prop:=s.length=n.Parts.length/\∀ i,i < n.Parts.length->jY (aKW n i) (s.getD i 0)
section
variable {n:bB} {s:List Int}
theorem part_mem {i:Nat} (hi:i < n.Parts.length):aKW n i∈n.Parts/\n.Parts[i]?=some (aKW n i):=by
 unfold aKW
 rw [List.getD_eq_getElem?_getD,List.getElem?_eq_getElem hi]
 exact ⟨List.getElem_mem hi,rfl⟩
theorem NetOk.at (hn:NetOk n) {i:Nat} (hi:i < n.Parts.length):PartOk (aKW n i):=hn.part _ (part_mem hi).1
theorem Rng.set (hs:Rng n s) {i:Nat} {x:Int} (hi:i < n.Parts.length) (hx:jY (aKW n i) x):Rng n (s.set i x):=by
 refine ⟨by rw [List.length_set];exact hs.1,fun j hj=>?_⟩
 rw [getD_set (by rw [hs.1];exact hi)]
 split
 ·rename_i e;subst e;exact hx
 ·exact hs.2 j hj
theorem Rng.small (hn:NetOk n) (hs:Rng n s):∀ q∈s,0<=q/\q<=63:=by
 intro q hq
 obtain ⟨i,hi,rfl⟩:=List.getElem_of_mem hq
 have:=hs.2 i (by rw [←hs.1];exact hi)
 have h2:=(hn.at (i:=i) (by rw [←hs.1];exact hi)).ok.1
 rw [List.getD_eq_getElem?_getD,List.getElem?_eq_getElem hi] at this
 unfold jY at this
 simp only [Option.getD_some] at this
 omega
end
end Gv
namespace Gv
open Go
section
variable {n:bB} {s:List Int}
theorem aFh {α:Type} {xs:List α} {k:Nat} {x:α} (h:ix xs (k:Int)=some x):x∈xs:=by
 rw [uE] at h;exact List.mem_of_getElem? h
end
end Gv
namespace Gv
open Go
def At (F:List (List Int)) (j:Int) (S:List Int):Prop:=0<=j/\F[j.toNat]?=some S
section
variable {n:bB}
end
end Gv
namespace Gv
open Go
section
variable {n:bB}
end
end Gv
namespace Gv
open Go
section
variable {n:bB} {f:List Int} {t:aW} {F:List (List Int)}
end
end Gv
namespace Gv
open Go
section
variable {n:bB} {s:List Int}
end
section
variable {n:Nat} {A B:Nat->Int->aV->Int->Prop} {sh:aV->Option aV} {mte:aV->aV->Option aV} {R:Nat->Int->Int->Prop} {PA PB:List Int->Prop}
end
theorem At.fun {F:List (List Int)} {k:Int} {S T:List Int} (h:At F k S) (g:At F k T):S=T:=Option.some.inj (h.2.symm.trans g.2)
theorem At.inj {F:List (List Int)} (hn:F.Nodup) {j k:Int} {S:List Int} (h:At F j S) (g:At F k S):j=k:=by
 obtain ⟨h1,h2⟩:=h
 obtain ⟨g1,g2⟩:=g
 obtain ⟨a,a'⟩:=List.getElem?_eq_some_iff.1 h2
 obtain ⟨b,b'⟩:=List.getElem?_eq_some_iff.1 g2
 have:=(List.getElem_inj hn).1 (a'.trans b'.symm)
 omega
theorem At.mem {F:List (List Int)} {k:Int} {S:List Int} (h:At F k S):S∈F:=List.mem_of_getElem? h.2
section
variable {n:bB} {f:List Int} {t:aW} {F:List (List Int)}
end
section
variable {n n':bB} {f f':List Int} {t t':aW} {F F':List (List Int)} {R:Nat->Int->Int->Prop}
structure Bbd (a b:aW) (R:Int->Int->Prop):Prop where
 fw:Fwd dN (stT a) (stT b) R
 bw:Fwd dN (stT b) (stT a) (fun y x=>R x y)
 df:Dvf dN (stT a) (stT b) R
 db:Dvf dN (stT b) (stT a) (fun y x=>R x y)
end
end Gv
namespace Gv
open Go
structure Quo (r:aW) (p:List Int) (c:aW):Prop where
 lab:c.L=r.L
 ed:∀ e,e∈c.E<->(∃ d∈r.E,Nin p d/\e=⟨p.getD d.F.toNat 0,d.B,p.getD d.To.toNat 0⟩)\/∃ k,jY r k/\Dv r p k/\e=⟨p.getD k.toNat 0,0,p.getD k.toNat 0⟩
end Gv
