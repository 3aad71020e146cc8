/- More rules: bytes to strings; what is given for good. No program in sight. -/
import Derived.Test.YtffnhnhfedmjcaaGreatDoorJJ
import Derived.Laws.IdiomStrings
set_option linter.all false
namespace Gv
open Go
section
variable {P:Program} {n:Nat} {ops:Array Oper} {rest:List Oper} {Q:sV} {f:Nat->Value} {w:World}
variable {d:Nat} {x y z:Operand} {ty:TypeId} {pos:String} {af:Array Edge}
variable {G:yU} {K:Hp} {L:List jN} {α:Type} [El α]
end
theorem aD.giveSp {α:Type} [El α] {G:yU} {E:TypeId} {K Ke:Hp} {L M:List jN} {w:World} {a:Option Addr} {cap:Nat} {xs:List α} (s:aD G K L w) (hK:Ke.le K) (p:Pck L (aG E Ke a cap xs) M):
  ∃ K',K.le K'/\bE K' a cap xs/\aD G K' M w:=by
 obtain ⟨K',h1,h2,h3,_⟩:=aD.lendSp s hK p
 exact ⟨K',h1,h2,h3⟩
end Gv
