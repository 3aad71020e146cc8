/- Greatest relations between the states of two systems, by rounds. No program in sight. -/
import Derived.Test.YtlechllgdgniaaaGreatDoorJP80
set_option linter.all false
namespace Gv
open Go
section
variable {a b:eP} {B:Int->Int->Bool} {F:(Int->Int->Bool)->Int->Int->Bool}
structure MonoT (a b:eP) (F:(Int->Int->Bool)->Int->Int->Bool):Prop where
 mono:∀ S T:Int->Int->Bool,(∀ x y,inT a x->inT b y->S x y=true->T x y=true)->∀ x y,inT a x->inT b y->F S x y=true->F T x y=true
end
end Gv
namespace Gv
open Go
end Gv
namespace Gv
open Go
def AftT (t:eP) (S:List Int) (s:bK) (q:Int):Prop:=∃ e∈t.E,txt t e=s/\e.F∈S/\e.To=q
section
variable {t:eP}
theorem AftT.inn (hv:lK t) {S:List Int} {s:bK} {q:Int} (h:AftT t S s q):0<=q/\q < t.N:=by
 obtain ⟨e,he,_,_,rfl⟩:=h
 exact (aQg hv he).2.1
def Wk (t:eP) (y:Int) (s:bK) (w:Int):Prop:=if s=eO then Cl t (·∈[y]) w else Cl t (fun q=>∃ e∈t.E,txt t e=s/\Cl t (·∈[y]) e.F/\e.To=q) w
theorem Wk.inn (hv:lK t) {y:Int} (hy:inT t y) {s:bK} {w:Int} (h:Wk t y s w):inT t w:=by
 unfold inT at hy ⊢
 unfold Wk at h
 split at h
 ·exact h.inn hv fun q hq=>by simp at hq;omega
 ·exact h.inn hv fun q hq=>by
   obtain ⟨e,he,_,_,rfl⟩:=hq
   exact (aQg hv he).2.1
end
end Gv
namespace Gv
open Go
def StW (b:eP) (kind y:Int) (s:bK) (w:Int):Prop:=if kind=2 then Wk b y s w else ∃ f∈b.E,f.F=y/\txt b f=s/\f.To=w
section
variable {a b:eP} {kind:Int}
theorem StW.inn (hb:lK b) {y:Int} (hy:inT b y) {s:bK} {w:Int} (h:StW b kind y s w):inT b w:=by
 unfold StW at h
 split at h
 ·exact h.inn hb hy
 ·obtain ⟨f,hf,_,_,rfl⟩:=h
  exact (edge_T hb hf).2.1
end
end Gv
namespace Gv
open Go
section
variable {a b:eP} {kind:Int}
end
end Gv
namespace Gv
open Go
section
variable {a b:eP} {kind:Int}
end
end Gv
namespace Gv
open Go
section
variable {a b:eP} {kind:Int}
instance inT_dec (t:eP) (k:Int):Decidable (inT t k):=by unfold inT;infer_instance
end
end Gv
namespace Gv
open Go
section
variable {a b:eP} {kind:Int}
end
end Gv
namespace Gv
open Go
def unA (a b:eP) (M:List bK):List Edge:=(a.E.map fun e=>(⟨e.F,pos (eO::M) (txt a e),e.To⟩:Edge))++b.E.map fun e=>(⟨e.F+a.N,pos (eO::M) (txt b e),e.To+a.N⟩:Edge)
structure Uni (a b:eP) (M:List bK) (Eo:List Edge):Prop where
 str:pN M
 mem:∀ s,s∈M<->s∈a.L++b.L/\s≠eO
 len:M.length<=24
 se:SE Eo
 ed:∀ x,x∈Eo<->x∈unA a b M
 elen:Eo.length<=600
section
variable {a b:eP}
end
end Gv
namespace Gv
open Go
structure Big (u:eP):Prop where
 st:1<=u.N/\u.N<=100
 lab:u.L.length<=100
 ed:u.E.length<=90000
 inn:∀ e∈u.E,inT u e.F/\inT u e.To/\0<=e.B/\e.B < u.L.length
section
variable {u:eP} {p:List Int}
end
end Gv
namespace Gv
open Go
section
variable {a b:eP}
end
end Gv
namespace Gv
open Go
end Gv
namespace Gv
open Go
def Nm:List bK:=[eO,[97],[98],[99],[103,101,116,40,48,41],[103,101,116,40,49,41]]
structure Drn (c:Nat) (t:eP):Prop where
 ok:lK t
 nm:∀ s∈t.L,s∈Nm
 st:t.N<=10
 ed:t.E.length<=c
theorem Drn.mono {c d:Nat} {t:eP} (h:Drn c t) (hc:c<=d):Drn d t:=⟨h.ok,h.nm,h.st,Nat.le_trans h.ed hc⟩
theorem srtE_SE (l:List Edge):SE (jQ (srt dT l)):=by
 have h1:(srt dT l).Pairwise fun a b=>dT b a=false:=by
  have:=List.pairwise_mergeSort (le:=fun a b=>!dT b a) (fun a b c h1 h2=>?_) (fun a b=>?_) l
  ·refine this.imp fun {a b} h=>?_
   simpa using h
  ·simp only [Bool.not_eq_true'] at h1 h2 ⊢
   cases h3:dT c a with
   |false=>rfl
   |true=>
    have:=aPc h3 h1
    rw [h2] at this;cases this
  ·cases h3:dT b a with
   |false=>simp
   |true=>simp [aSy h3]
 exact aJu (R:=fun a b=>dT b a=false) (S:=fun a b=>dT a b=true) (fun h hne=>aPb h hne) (fun h h'=>aPc h h') h1
theorem aRs {l:List Edge} {x:Edge}:x∈jQ (srt dT l)<->x∈l:=by
 rw [aIp];unfold srt;rw [List.mem_mergeSort]
end Gv
