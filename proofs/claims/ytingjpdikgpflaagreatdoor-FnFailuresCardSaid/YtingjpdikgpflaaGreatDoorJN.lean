/- More rules: bytes to strings; what is given for good. No program in sight. -/
import Derived.Test.YtingjpdikgpflaaGreatDoorJJ
import Derived.Laws.IdiomStrings
set_option linter.all false
namespace Gv
open Go
section
variable {P:Program} {n:Nat} {ops:Array Oper} {rest:List Oper} {Q:mB} {f:Nat->Value} {w:World}
variable {d:Nat} {x y z:Operand} {ty:TypeId} {pos:String} {af:Array Edge}
variable {G:qN} {K:Hp} {L:List gH} {α:Type} [El α]
theorem aRi {a b:UInt8} {T U:TypeId} (hx:ev f x=.int .u8 (a.toNat:Int)) (hy:ev f y=.int .u8 (b.toNat:Int)):
  (execOp (ev f) ⟨some d,.binOp .sub T x y U,ty,pos,af,none⟩).run P w=.ok (.value (.int .u8 ((a - b).toNat:Int))) w:=by
 rw [R_u8sub hx hy];congr 3;have:=a.toNat_lt;have:=b.toNat_lt;simp only [wu8,UInt8.toNat_sub];omega
end
theorem aJ.giveSp {α:Type} [El α] {G:qN} {E:TypeId} {K Ke:Hp} {L M:List gH} {w:World} {a:Option Addr} {cap:Nat} {xs:List α} (s:aJ G K L w) (hK:Ke.le K) (p:Pck L (aN E Ke a cap xs) M):
  ∃ K',K.le K'/\cF K' a cap xs/\aJ G K' M w:=by
 obtain ⟨K',h1,h2,h3,_⟩:=aJ.lendSp s hK p
 exact ⟨K',h1,h2,h3⟩
end Gv
