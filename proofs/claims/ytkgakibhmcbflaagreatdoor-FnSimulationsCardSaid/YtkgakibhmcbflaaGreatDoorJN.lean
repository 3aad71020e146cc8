/- More rules: bytes to strings; what is given for good. No program in sight. -/
import Derived.Test.YtkgakibhmcbflaaGreatDoorJJ
import Derived.Laws.IdiomStrings
set_option linter.all false
namespace Gv
open Go
section
variable {P:Program} {n:Nat} {ops:Array Oper} {rest:List Oper} {Q:yD} {f:Nat→Value} {w:World}
variable {d:Nat} {x y z:Operand} {ty:TypeId} {pos:String} {af:Array Edge}
variable {G:Env} {K:Hp} {L:List nG} {α:Type} [El α]
end
theorem aI.giveS {α:Type} [El α] {G:Env} {E:TypeId} {K Ke:Hp} {L:List nG} {w:World} {i:Nat} {a:Option Addr} {cap:Nat} {xs:List α} (s:aI G K L w) (hK:Ke.le K) (e:L[i]?=some (aR E Ke a cap xs)):
  ∃ K',K.le K'∧bX K' a cap xs∧aI G K' (L.eraseIdx i) w:=by
 obtain ⟨K',h1,h2,h3,_⟩:=aI.lendS s hK e
 exact ⟨K',h1,h2,h3⟩
end Gv
