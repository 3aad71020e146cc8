/- More rules: bytes to strings; what is given for good. No program in sight. -/
import Derived.Test.YtohbafhnoifmoaaGreatDoorMJJ
import Derived.Laws.IdiomStrings
set_option linter.all false
namespace Gv
open Go
section
variable {P:Program} {n:Nat} {ops:Array Oper} {rest:List Oper} {Q:oT} {f:Nat->Value} {w:World}
variable {d:Nat} {x y z:Operand} {ty:TypeId} {pos:String} {af:Array Edge}
variable {G:uA} {K:Hp} {L:List iU} {α:Type} [El α]
theorem R_u8sub' {a b:UInt8} {T U:TypeId} (hx:ev f x=.int .u8 (a.toNat:Int)) (hy:ev f y=.int .u8 (b.toNat:Int)):
  (execOp (ev f) ⟨some d,.binOp .sub T x y U,ty,pos,af,none⟩).run P w=.ok (.value (.int .u8 ((a - b).toNat:Int))) w:=by
 rw [R_u8sub hx hy];congr 3;have:=a.toNat_lt;have:=b.toNat_lt;simp only [wu8,UInt8.toNat_sub];omega
end
theorem aH.giveS {α:Type} [El α] {G:uA} {E:TypeId} {K Ke:Hp} {L:List iU} {w:World} {i:Nat} {a:Option Addr} {cap:Nat} {xs:List α} (s:aH G K L w) (hK:Ke.le K) (e:L[i]?=some (aJ E Ke a cap xs)):
  ∃ K',K.le K'/\cR K' a cap xs/\aH G K' (L.eraseIdx i) w:=by
 obtain ⟨K',h1,h2,h3,_⟩:=aH.lendS s hK e
 exact ⟨K',h1,h2,h3⟩
end Gv
