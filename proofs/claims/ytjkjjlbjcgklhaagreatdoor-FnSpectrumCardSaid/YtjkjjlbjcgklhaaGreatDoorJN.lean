/- More rules: bytes to strings; what is given for good. No program in sight. -/
import Derived.Test.YtjkjjlbjcgklhaaGreatDoorJJ
import Derived.Laws.IdiomStrings
set_option linter.all false
namespace Gv
open Go
section
variable {P:Program} {n:Nat} {ops:Array Oper} {rest:List Oper} {Q:sF} {f:Nat->Value} {w:World}
variable {d:Nat} {x y z:Operand} {ty:TypeId} {pos:String} {af:Array Edge}
variable {G:Env} {K:Hp} {L:List iD} {α:Type} [El α]
end
theorem aD.giveSp {α:Type} [El α] {G:Env} {E:TypeId} {K Ke:Hp} {L M:List iD} {w:World} {a:Option Addr} {cap:Nat} {xs:List α} (s:aD G K L w) (hK:Ke.le K) (p:Pck L (aH E Ke a cap xs) M):
  ∃ K',K.le K'/\aT K' a cap xs/\aD G K' M w:=by
 obtain ⟨K',h1,h2,h3,_⟩:=aD.lendSp s hK p
 exact ⟨K',h1,h2,h3⟩
end Gv
