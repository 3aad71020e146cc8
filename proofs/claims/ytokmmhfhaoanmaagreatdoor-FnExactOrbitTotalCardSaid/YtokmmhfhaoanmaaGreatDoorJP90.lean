/- Greatest relations between the states of two systems, by rounds. No program in sight. -/
import Derived.Test.YtokmmhfhaoanmaaGreatDoorJP80
set_option linter.all false
namespace Gv
open Go
section
variable {a b:iQ} {B:Int->Int->Bool} {F:(Int->Int->Bool)->Int->Int->Bool}
structure MonoT (a b:iQ) (F:(Int->Int->Bool)->Int->Int->Bool):Prop where
 mono:∀ S T:Int->Int->Bool,(∀ x y,inT a x->inT b y->S x y=true->T x y=true)->∀ x y,inT a x->inT b y->F S x y=true->F T x y=true
end
end Gv
namespace Gv
open Go
end Gv
namespace Gv
open Go
def AftT (t:iQ) (S:List Int) (s:aH) (q:Int):Prop:=∃ e∈t.E,txt t e=s/\e.F∈S/\e.To=q
section
variable {t:iQ}
theorem AftT.inn (hv:nE t) {S:List Int} {s:aH} {q:Int} (h:AftT t S s q):0<=q/\q < t.N:=by
 obtain ⟨e,he,_,_,rfl⟩:=h
 exact (aSy hv he).2.1
def Wk (t:iQ) (y:Int) (s:aH) (w:Int):Prop:=if s=bS then Cl t (·∈[y]) w else Cl t (fun q=>∃ e∈t.E,txt t e=s/\Cl t (·∈[y]) e.F/\e.To=q) w
theorem Wk.inn (hv:nE t) {y:Int} (hy:inT t y) {s:aH} {w:Int} (h:Wk t y s w):inT t w:=by
 unfold inT at hy ⊢
 unfold Wk at h
 split at h
 ·exact h.inn hv fun q hq=>by simp at hq;omega
 ·exact h.inn hv fun q hq=>by
   obtain ⟨e,he,_,_,rfl⟩:=hq
   exact (aSy hv he).2.1
end
end Gv
namespace Gv
open Go
def StW (b:iQ) (kind y:Int) (s:aH) (w:Int):Prop:=if kind=2 then Wk b y s w else ∃ f∈b.E,f.F=y/\txt b f=s/\f.To=w
section
variable {a b:iQ} {kind:Int}
theorem StW.inn (hb:nE b) {y:Int} (hy:inT b y) {s:aH} {w:Int} (h:StW b kind y s w):inT b w:=by
 unfold StW at h
 split at h
 ·exact h.inn hb hy
 ·obtain ⟨f,hf,_,_,rfl⟩:=h
  exact (edge_T hb hf).2.1
end
end Gv
namespace Gv
open Go
section
variable {a b:iQ} {kind:Int}
end
end Gv
namespace Gv
open Go
section
variable {a b:iQ} {kind:Int}
end
end Gv
namespace Gv
open Go
section
variable {a b:iQ} {kind:Int}
instance inT_dec (t:iQ) (k:Int):Decidable (inT t k):=by unfold inT;infer_instance
end
end Gv
namespace Gv
open Go
section
variable {a b:iQ} {kind:Int}
end
end Gv
namespace Gv
open Go
def unA (a b:iQ) (M:List aH):List Edge:=(a.E.map fun e=>(⟨e.F,pos (bS::M) (txt a e),e.To⟩:Edge))++b.E.map fun e=>(⟨e.F+a.N,pos (bS::M) (txt b e),e.To+a.N⟩:Edge)
structure Uni (a b:iQ) (M:List aH) (Eo:List Edge):Prop where
 str:pJ M
 mem:∀ s,s∈M<->s∈a.L++b.L/\s≠bS
 len:M.length<=24
 se:SE Eo
 ed:∀ x,x∈Eo<->x∈unA a b M
 elen:Eo.length<=600
section
variable {a b:iQ}
end
end Gv
namespace Gv
open Go
structure Big (u:iQ):Prop where
 st:1<=u.N/\u.N<=100
 lab:u.L.length<=100
 ed:u.E.length<=90000
 inn:∀ e∈u.E,inT u e.F/\inT u e.To/\0<=e.B/\e.B < u.L.length
section
variable {u:iQ} {p:List Int}
end
end Gv
namespace Gv
open Go
section
variable {a b:iQ}
end
end Gv
namespace Gv
open Go
end Gv
namespace Gv
open Go
def Nm:List aH:=[bS,[97],[98],[99],[103,101,116,40,48,41],[103,101,116,40,49,41]]
structure Drn (c:Nat) (t:iQ):Prop where
 ok:nE t
 nm:∀ s∈t.L,s∈Nm
 st:t.N<=10
 ed:t.E.length<=c
theorem Drn.mono {c d:Nat} {t:iQ} (h:Drn c t) (hc:c<=d):Drn d t:=⟨h.ok,h.nm,h.st,Nat.le_trans h.ed hc⟩
theorem aSz (l:List Edge):SE (gX (srt cO l)):=by
 have h1:(srt cO l).Pairwise fun a b=>cO b a=false:=by
  have:=List.pairwise_mergeSort (le:=fun a b=>!cO b a) (fun a b c h1 h2=>?_) (fun a b=>?_) l
  ·refine this.imp fun {a b} h=>?_
   simpa using h
  ·simp only [Bool.not_eq_true'] at h1 h2 ⊢
   cases h3:cO c a with
   |false=>rfl
   |true=>
    have:=aRp h3 h1
    rw [h2] at this;cases this
  ·cases h3:cO b a with
   |false=>simp
   |true=>simp [aVt h3]
 exact aLd (R:=fun a b=>cO b a=false) (S:=fun a b=>cO a b=true) (fun h hne=>aRo h hne) (fun h h'=>aRp h h') h1
theorem aPY {l:List Edge} {x:Edge}:x∈gX (srt cO l)<->x∈l:=by
 rw [aJL];unfold srt;rw [List.mem_mergeSort]
end Gv
