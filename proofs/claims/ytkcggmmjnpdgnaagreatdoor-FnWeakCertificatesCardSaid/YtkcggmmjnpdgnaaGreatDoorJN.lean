/- More rules: bytes to strings; what is given for good. No program in sight. -/
import Derived.Test.YtkcggmmjnpdgnaaGreatDoorJJ
import Derived.Laws.IdiomStrings
set_option linter.all false
namespace Gv
open Go
section
variable {P:Program} {n:Nat} {ops:Array Oper} {rest:List Oper} {Q:pS} {f:Nat->Value} {w:World}
variable {d:Nat} {x y z:Operand} {ty:TypeId} {pos:String} {af:Array Edge}
variable {G:uK} {K:Hp} {L:List gQ} {α:Type} [El α]
theorem aND {a b:UInt8} {T U:TypeId} (hx:ev f x=.int .u8 (a.toNat:Int)) (hy:ev f y=.int .u8 (b.toNat:Int)):
  (execOp (ev f) ⟨some d,.binOp .sub T x y U,ty,pos,af,none⟩).run P w=.ok (.value (.int .u8 ((a - b).toNat:Int))) w:=by
 rw [R_u8sub hx hy];congr 3;have:=a.toNat_lt;have:=b.toNat_lt;simp only [wu8,UInt8.toNat_sub];omega
end
theorem aI.giveSp {α:Type} [El α] {G:uK} {E:TypeId} {K Ke:Hp} {L M:List gQ} {w:World} {a:Option Addr} {cap:Nat} {xs:List α} (s:aI G K L w) (hK:Ke.le K) (p:Pck L (aN E Ke a cap xs) M):
  ∃ K',K.le K'/\bW K' a cap xs/\aI G K' M w:=by
 obtain ⟨K',h1,h2,h3,_⟩:=aI.lendSp s hK p
 exact ⟨K',h1,h2,h3⟩
end Gv
