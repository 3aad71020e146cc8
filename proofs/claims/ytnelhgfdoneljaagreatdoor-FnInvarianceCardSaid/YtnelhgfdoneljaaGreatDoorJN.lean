/- More rules: bytes to strings; what is given for good. No program in sight. -/
import Derived.Test.YtnelhgfdoneljaaGreatDoorJJ
import Derived.Laws.IdiomStrings
set_option linter.all false
namespace Gv
open Go
section
variable {P:Program} {n:Nat} {ops:Array Oper} {rest:List Oper} {Q:mS} {f:Nat->Value} {w:World}
variable {d:Nat} {x y z:Operand} {ty:TypeId} {pos:String} {af:Array Edge}
variable {G:tO} {K:Hp} {L:List fJ} {α:Type} [El α]
end
theorem aF.giveSp {α:Type} [El α] {G:tO} {E:TypeId} {K Ke:Hp} {L M:List fJ} {w:World} {a:Option Addr} {cap:Nat} {xs:List α} (s:aF G K L w) (hK:Ke.le K) (p:Pck L (own E Ke a cap xs) M):
  ∃ K',K.le K'/\bL K' a cap xs/\aF G K' M w:=by
 obtain ⟨K',h1,h2,h3,_⟩:=aF.lendSp s hK p
 exact ⟨K',h1,h2,h3⟩
end Gv
