/- Greatest relations between the states of two systems, by rounds. No program in sight. -/
import Derived.Test.YtiipffjapfalhaaGreatDoorJP80
set_option linter.all false
namespace Gv
open Go
section
variable {a b:iZ} {B:Int->Int->Bool} {F:(Int->Int->Bool)->Int->Int->Bool}
structure MonoT (a b:iZ) (F:(Int->Int->Bool)->Int->Int->Bool):Prop where
 mono:∀ S T:Int->Int->Bool,(∀ x y,inT a x->inT b y->S x y=true->T x y=true)->∀ x y,inT a x->inT b y->F S x y=true->F T x y=true
end
end Gv
namespace Gv
open Go
end Gv
namespace Gv
open Go
def AftT (t:iZ) (S:List Int) (s:aO) (q:Int):Prop:=∃ e∈t.E,txt t e=s/\e.F∈S/\e.To=q
section
variable {t:iZ}
theorem AftT.inn (hv:nV t) {S:List Int} {s:aO} {q:Int} (h:AftT t S s q):0<=q/\q < t.N:=by
 obtain ⟨e,he,_,_,rfl⟩:=h
 exact (aTu hv he).2.1
def Wk (t:iZ) (y:Int) (s:aO) (w:Int):Prop:=if s=cF then Cl t (·∈[y]) w else Cl t (fun q=>∃ e∈t.E,txt t e=s/\Cl t (·∈[y]) e.F/\e.To=q) w
theorem Wk.inn (hv:nV t) {y:Int} (hy:inT t y) {s:aO} {w:Int} (h:Wk t y s w):inT t w:=by
 unfold inT at hy ⊢
 unfold Wk at h
 split at h
 ·exact h.inn hv fun q hq=>by simp at hq;omega
 ·exact h.inn hv fun q hq=>by
   obtain ⟨e,he,_,_,rfl⟩:=hq
   exact (aTu hv he).2.1
end
end Gv
namespace Gv
open Go
def StW (b:iZ) (kind y:Int) (s:aO) (w:Int):Prop:=if kind=2 then Wk b y s w else ∃ f∈b.E,f.F=y/\txt b f=s/\f.To=w
section
variable {a b:iZ} {kind:Int}
theorem StW.inn (hb:nV b) {y:Int} (hy:inT b y) {s:aO} {w:Int} (h:StW b kind y s w):inT b w:=by
 unfold StW at h
 split at h
 ·exact h.inn hb hy
 ·obtain ⟨f,hf,_,_,rfl⟩:=h
  exact (edge_T hb hf).2.1
end
end Gv
namespace Gv
open Go
section
variable {a b:iZ} {kind:Int}
end
end Gv
namespace Gv
open Go
section
variable {a b:iZ} {kind:Int}
end
end Gv
namespace Gv
open Go
section
variable {a b:iZ} {kind:Int}
instance inT_dec (t:iZ) (k:Int):Decidable (inT t k):=by unfold inT;infer_instance
end
end Gv
namespace Gv
open Go
section
variable {a b:iZ} {kind:Int}
end
end Gv
namespace Gv
open Go
def unA (a b:iZ) (M:List aO):List Edge:=(a.E.map fun e=>(⟨e.F,pos (cF::M) (txt a e),e.To⟩:Edge))++b.E.map fun e=>(⟨e.F+a.N,pos (cF::M) (txt b e),e.To+a.N⟩:Edge)
structure Uni (a b:iZ) (M:List aO) (Eo:List Edge):Prop where
 str:pR M
 mem:∀ s,s∈M<->s∈a.L++b.L/\s≠cF
 len:M.length<=24
 se:SE Eo
 ed:∀ x,x∈Eo<->x∈unA a b M
 elen:Eo.length<=600
section
variable {a b:iZ}
end
end Gv
namespace Gv
open Go
structure Big (u:iZ):Prop where
 st:1<=u.N/\u.N<=100
 lab:u.L.length<=100
 ed:u.E.length<=90000
 inn:∀ e∈u.E,inT u e.F/\inT u e.To/\0<=e.B/\e.B < u.L.length
section
variable {u:iZ} {p:List Int}
end
end Gv
namespace Gv
open Go
section
variable {a b:iZ}
end
end Gv
namespace Gv
open Go
end Gv
namespace Gv
open Go
def Nm:List aO:=[cF,[97],[98],[99],[103,101,116,40,48,41],[103,101,116,40,49,41]]
structure Drn (c:Nat) (t:iZ):Prop where
 ok:nV t
 nm:∀ s∈t.L,s∈Nm
 st:t.N<=10
 ed:t.E.length<=c
theorem Drn.mono {c d:Nat} {t:iZ} (h:Drn c t) (hc:c<=d):Drn d t:=⟨h.ok,h.nm,h.st,Nat.le_trans h.ed hc⟩
theorem aTv (l:List Edge):SE (kD (srt dC l)):=by
 have h1:(srt dC l).Pairwise fun a b=>dC b a=false:=by
  have:=List.pairwise_mergeSort (le:=fun a b=>!dC b a) (fun a b c h1 h2=>?_) (fun a b=>?_) l
  ·refine this.imp fun {a b} h=>?_
   simpa using h
  ·simp only [Bool.not_eq_true'] at h1 h2 ⊢
   cases h3:dC c a with
   |false=>rfl
   |true=>
    have:=aSk h3 h1
    rw [h2] at this;cases this
  ·cases h3:dC b a with
   |false=>simp
   |true=>simp [aWl h3]
 exact aLL (R:=fun a b=>dC b a=false) (S:=fun a b=>dC a b=true) (fun h hne=>aSj h hne) (fun h h'=>aSk h h') h1
theorem aQR {l:List Edge} {x:Edge}:x∈kD (srt dC l)<->x∈l:=by
 rw [aKq];unfold srt;rw [List.mem_mergeSort]
end Gv
