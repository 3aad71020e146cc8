/- Arrays of scalars. No program in sight. -/
import Derived.Test.YtiipffjapfalhaaGreatDoorJX
set_option linter.all false
namespace Gv
open Go
structure ART (P:Program) (T E:TypeId) (n:Nat):Prop where
 un:∀ w,(underlying T).run P w=.ok (.array n E) w
 agg:∀ w,(isAgg E).run P w=.ok false w
 size:∀ w,(Go.sizeOf E).run P w=.ok 1 w
section
variable {P:Program} {f:Nat->Value} {w:World} {d:Nat} {x y:Operand} {ty:TypeId} {pos:String} {af:Array Go.Edge}
end
instance:eL (Int × Int) where
 sz:=2
 enc p:=[i64 p.1,i64 p.2]
 len _:=rfl
 one _ v h:=by simp at h;rcases h with rfl|rfl<;>rfl
 pos:=by decide
instance:eL (Int × Int × Int) where
 sz:=3
 enc p:=[i64 p.1,i64 p.2.1,i64 p.2.2]
 len _:=rfl
 one _ v h:=by simp at h;rcases h with rfl|rfl|rfl<;>rfl
 pos:=by decide
end Gv
