/- More rules: bytes to strings; what is given for good. No program in sight. -/
import Derived.Test.YthmfdhgeglgpbaaGreatDoorJJ
import Derived.Laws.IdiomStrings
set_option linter.all false
namespace Gv
open Go
section
variable {P:Program} {n:Nat} {ops:Array Oper} {rest:List Oper} {Q:pP} {f:Nat->Value} {w:World}
variable {d:Nat} {x y z:Operand} {ty:TypeId} {pos:String} {af:Array Edge}
variable {G:rT} {K:Hp} {L:List fM} {α:Type} [El α]
theorem aQl {a b:UInt8} {T U:TypeId} (hx:ev f x=.int .u8 (a.toNat:Int)) (hy:ev f y=.int .u8 (b.toNat:Int)):
  (execOp (ev f) ⟨some d,.binOp .sub T x y U,ty,pos,af,none⟩).run P w=.ok (.value (.int .u8 ((a - b).toNat:Int))) w:=by
 rw [R_u8sub hx hy];congr 3;have:=a.toNat_lt;have:=b.toNat_lt;simp only [wu8,UInt8.toNat_sub];omega
end
theorem aF.giveSp {α:Type} [El α] {G:rT} {E:TypeId} {K Ke:Hp} {L M:List fM} {w:World} {a:Option Addr} {cap:Nat} {xs:List α} (s:aF G K L w) (hK:Ke.le K) (p:Pck L (own E Ke a cap xs) M):
  ∃ K',K.le K'/\bI K' a cap xs/\aF G K' M w:=by
 obtain ⟨K',h1,h2,h3,_⟩:=aF.lendSp s hK p
 exact ⟨K',h1,h2,h3⟩
end Gv
