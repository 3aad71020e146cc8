/- Greatest relations between the states of two systems, by rounds. No program in sight. -/
import Derived.Test.YthbfapccpmppoaaGreatDoorJP80
set_option linter.all false
namespace Gv
open Go
section
variable {a b:gM} {B:Int->Int->Bool} {F:(Int->Int->Bool)->Int->Int->Bool}
structure MonoT (a b:gM) (F:(Int->Int->Bool)->Int->Int->Bool):Prop where
 mono:∀ S T:Int->Int->Bool,(∀ x y,inT a x->inT b y->S x y=true->T x y=true)->∀ x y,inT a x->inT b y->F S x y=true->F T x y=true
end
end Gv
namespace Gv
open Go
end Gv
namespace Gv
open Go
def AftT (t:gM) (S:List Int) (s:aL) (q:Int):Prop:=∃ e∈t.E,txt t e=s/\e.F∈S/\e.To=q
section
variable {t:gM}
theorem AftT.inn (hv:iP t) {S:List Int} {s:aL} {q:Int} (h:AftT t S s q):0<=q/\q < t.N:=by
 obtain ⟨e,he,_,_,rfl⟩:=h
 exact (aPt hv he).2.1
def Wk (t:gM) (y:Int) (s:aL) (w:Int):Prop:=if s=gY then Cl t (·∈[y]) w else Cl t (fun q=>∃ e∈t.E,txt t e=s/\Cl t (·∈[y]) e.F/\e.To=q) w
theorem Wk.inn (hv:iP t) {y:Int} (hy:inT t y) {s:aL} {w:Int} (h:Wk t y s w):inT t w:=by
 unfold inT at hy ⊢
 unfold Wk at h
 split at h
 ·exact h.inn hv fun q hq=>by simp at hq;omega
 ·exact h.inn hv fun q hq=>by
   obtain ⟨e,he,_,_,rfl⟩:=hq
   exact (aPt hv he).2.1
end
end Gv
namespace Gv
open Go
def StW (b:gM) (kind y:Int) (s:aL) (w:Int):Prop:=if kind=2 then Wk b y s w else ∃ f∈b.E,f.F=y/\txt b f=s/\f.To=w
section
variable {a b:gM} {kind:Int}
theorem StW.inn (hb:iP b) {y:Int} (hy:inT b y) {s:aL} {w:Int} (h:StW b kind y s w):inT b w:=by
 unfold StW at h
 split at h
 ·exact h.inn hb hy
 ·obtain ⟨f,hf,_,_,rfl⟩:=h
  exact (edge_T hb hf).2.1
end
end Gv
namespace Gv
open Go
section
variable {a b:gM} {kind:Int}
end
end Gv
namespace Gv
open Go
section
variable {a b:gM} {kind:Int}
end
end Gv
namespace Gv
open Go
section
variable {a b:gM} {kind:Int}
instance inT_dec (t:gM) (k:Int):Decidable (inT t k):=by unfold inT;infer_instance
end
end Gv
namespace Gv
open Go
section
variable {a b:gM} {kind:Int}
end
end Gv
namespace Gv
open Go
def unA (a b:gM) (M:List aL):List Edge:=(a.E.map fun e=>(⟨e.F,pos (gY::M) (txt a e),e.To⟩:Edge))++b.E.map fun e=>(⟨e.F+a.N,pos (gY::M) (txt b e),e.To+a.N⟩:Edge)
structure Uni (a b:gM) (M:List aL) (Eo:List Edge):Prop where
 str:aFm M
 mem:∀ s,s∈M<->s∈a.L++b.L/\s≠gY
 len:M.length<=24
 se:SE Eo
 ed:∀ x,x∈Eo<->x∈unA a b M
 elen:Eo.length<=600
section
variable {a b:gM}
end
end Gv
namespace Gv
open Go
structure Big (u:gM):Prop where
 st:1<=u.N/\u.N<=100
 lab:u.L.length<=100
 ed:u.E.length<=90000
 inn:∀ e∈u.E,inT u e.F/\inT u e.To/\0<=e.B/\e.B < u.L.length
section
variable {u:gM} {p:List Int}
end
end Gv
namespace Gv
open Go
section
variable {a b:gM}
end
end Gv
namespace Gv
open Go
end Gv
namespace Gv
open Go
def Nm:List aL:=[gY,[97],[98],[99],[103,101,116,40,48,41],[103,101,116,40,49,41]]
structure Drn (c:Nat) (t:gM):Prop where
 ok:iP t
 nm:∀ s∈t.L,s∈Nm
 st:t.N<=10
 ed:t.E.length<=c
theorem Drn.mono {c d:Nat} {t:gM} (h:Drn c t) (hc:c<=d):Drn d t:=⟨h.ok,h.nm,h.st,Nat.le_trans h.ed hc⟩
end Gv
