/- Regions that draw their order in which several operations act: each order that may come is walked. No program in sight. -/
import Derived.Test.YtfhgggimcgajdaaGreatDoorJQ
set_option linter.all false
namespace Gv
open Go
section
variable {P:Program} {n:Nat} {C:World->Prop} {Q:uL} {f:Nat->Value} {w:World}
structure WA (P:Program) (n:Nat) (ops:Array Oper) (C:World->Prop) (bs:List Nat) (R:(Nat->Value)->World->Prop) (m:Nat) (listed:Array Bool) (f:Nat->Value) (w:World):Prop where
 go:ops.all (fun o=>oko n o&&okg n ops o.guard)=true->Region.noSelect ops=true->aGN P .any ops C (fun j=>bs.contains j) (fun a w=>∃ f,a=act n f/\R f w) m listed (act n f) w
variable {R:(Nat->Value)->World->Prop} {bs:List Nat} {m:Nat} {listed:Array Bool} {os:List Oper}
variable {i j k:Nat} {oi oj ok':Oper}
end
end Gv
