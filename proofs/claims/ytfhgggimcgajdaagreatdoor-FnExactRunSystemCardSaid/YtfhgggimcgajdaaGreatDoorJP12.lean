/- Taking out repetitions, as slices.Compact does; the system made out of labels and arcs. -/
import Derived.Test.YtfhgggimcgajdaaGreatDoorJP11
set_option linter.all false
namespace Gv
open Go
end Gv
namespace Gv
open Go
end Gv
namespace Gv
open Go
section
variable  {L:List bJ}
end
end Gv
namespace Gv
open Go
theorem itoa_m1:Lib.itoa (-1)=[45,49]:=by
 unfold Lib.itoa
 rw [if_pos (by omega),show (-1:Int).natAbs=1 from rfl,Lib.decDigits_one (by omega)];rfl
theorem itoa_len {a:Int} (ha:-1<=a/\a<=63):(Lib.itoa a).length<=2:=by
 by_cases h1:a=-1
 ·subst h1;rw [itoa_m1];simp
 ·unfold Lib.itoa
  rw [if_neg (by omega)]
  by_cases h:a.toNat < 10
  ·rw [Lib.decDigits_one h];simp
  ·rw [Lib.decDigits_two h (by omega)];simp
def key (q:Int):bJ:=[48,32]++Lib.itoa q
def mp (k:Nat):List Int->List (bJ × Int)
 |[]=>[]
 |q::l=>(key q,(k:Int))::mp (k+1) l
section
variable  {L:List bJ}
end
end Gv
namespace Gv
open Go
section
variable  {L:List bJ}
theorem SetOk.sub {M:List bJ} (hL:SetOk L) (h:M.Sublist L):SetOk M:=by
 refine ⟨fun s hs=>hL.1 s (h.mem hs),fun k h1 hk=>?_⟩
 have:=hL.strict.1.sublist h
 exact List.pairwise_iff_getElem.1 this (k - 1) k (by omega) hk (by omega)
end
end Gv
namespace Gv
open Go
section
variable  {L:List bJ}
end
end Gv
namespace Gv
open Go
end Gv
