/- Taking out repetitions, as slices.Compact does; the system made out of labels and arcs. -/
import Derived.Test.YthbfapccpmppoaaGreatDoorJP11
set_option linter.all false
namespace Gv
open Go
theorem slc_from {α:Type} {s:List α} {w:Nat} (h:w<=s.length):slc s (w:Int) (s.length:Int)=some (s.drop w):=by
 unfold slc;rw [if_pos ⟨by omega,by omega,by omega⟩]
 rw [Int.toNat_natCast,Int.toNat_natCast,List.take_of_length_le (by simp)]
end Gv
namespace Gv
open Go
def WF (p:gM) (at_:List Int):Prop:=at_.Nodup/\∀ q∈at_,-1<=q/\q<=p.N - 1
theorem WF.len {p:gM} (hp:iP p) {a:List Int} (h:WF p a):a.length<=41:=by
 have h1:=hp.1
 have:=List.Nodup.length_le_of_subset (l₂:=(List.range 41).map fun (i:Nat)=>(i:Int) - 1) h.1 (fun q hq=>by
  have:=h.2 q hq
  rw [List.mem_map]
  exact ⟨(q+1).toNat,by rw [List.mem_range];omega,by omega⟩)
 simpa using this
end Gv
namespace Gv
open Go
section
variable {p:gM} {L:List aL}
end
end Gv
namespace Gv
open Go
theorem pos_get {α:Type} [BEq α] [LawfulBEq α] {xs:List α} {a:α} (h:a∈xs):∃ i:Nat,∃ hi:i < xs.length,pos xs a=(i:Int)/\xs[i]=a:=by
 unfold pos
 cases hx:xs.findIdx? (fun x=>a == x) with
 |none=>
  rw [List.findIdx?_eq_none_iff] at hx
  have:=hx a h
  simp at this
 |some i=>
  rw [List.findIdx?_eq_some_iff_getElem] at hx
  obtain ⟨hi,h1,_⟩:=hx
  exact ⟨i,hi,rfl,by simpa using Eq.symm (by simpa using h1)⟩
def key (q:Int):aL:=[48,32]++Lib.itoa q
section
variable {p:gM} {L:List aL}
theorem WF.small (hp:iP p) {a:List Int} (h:WF p a):∀ x∈a,-1<=x/\x<=63:=fun x hx=>by
 have:=h.2 x hx;have:=hp.1;omega
end
end Gv
namespace Gv
open Go
structure ED (L:List aL) (i k:Int) (n:Nat) (ed:List Edge):Prop where
 ord:ed.Pairwise flLt
 all:∀ e∈ed,0<=e.F/\(e.F < i\/(e.F=i/\e.B<=k))/\1<=e.B/\e.B<=L.length/\0<=e.To/\e.To < n
section
variable {p:gM} {L:List aL}
theorem ED.mono {i k:Int} {n m:Nat} {ed:List Edge} (h:ED L i k n ed) (hm:n<=m):ED L i k m ed:=
 ⟨h.ord,fun e he=>by have:=h.all e he;omega⟩
theorem SetOk.sub {M:List aL} (hL:SetOk L) (h:M.Sublist L):SetOk M:=by
 refine ⟨fun s hs=>hL.1 s (h.mem hs),fun k h1 hk=>?_⟩
 have:=hL.strict.1.sublist h
 exact List.pairwise_iff_getElem.1 this (k - 1) k (by omega) hk (by omega)
end
end Gv
namespace Gv
open Go
section
variable {p:gM} {L:List aL}
end
end Gv
namespace Gv
open Go
theorem mC.mono {a b:Nat} {t:gM} (h:mC a t) (hab:a<=b):mC b t:=⟨Nat.le_trans h.1 hab,fun s hs=>Nat.le_trans (h.2.1 s hs) hab,Nat.le_trans h.2.2 hab⟩
end Gv
