/- What functions of Go's library compute, as plain functions. -/
import Derived.Test.YtoddhhghiolggaaGreatDoorJS
import Derived.Lib.IndexMore
import Derived.Lib.Join
import Derived.Lib.ItoaNum
import Derived.Lib.ParseIntB
import Derived.Lib.SlicesCompact
set_option linter.all false
namespace Gv
open Go
def aBA (sep:aN):Nat->aN->List aN
 |0,s=>[s]
 |n+1,s=>match Lib.cut s sep with
  |(a,b,true)=>a::aBA sep n b
  |(_,_,false)=>[s]
def l_Cut (s sep:aN):Option (aN × aN × Bool):=if s.length < 4294967281 then some (Lib.cut s sep) else none
def aIH (s sep:aN):Option (List aN):=if s.length < 4294967281/\sep≠[] then some (aBA sep s.length s) else none
def aBB (xs:List aN) (sep:aN):Option aN:=if xs.length < jB/\(Lib.join xs sep).length < jB then some (Lib.join xs sep) else none
def iF (n:Int):Option aN:=if -9223372036854775808<=n/\n<=9223372036854775807 then some (Lib.itoa n) else none
def bare (s:aN):aN:=match s with|45::s'=>s'|s=>s
def hH (s:aN):Int × Bool:=
 if (bare s).length > 18 then (0,false)
 else match Lib.parseIntB 64 s with
  |.ok v=>if Lib.itoa v=s then (v,true) else (0,false)
  |_=>(0,false)
def sG (s:aN):Option (Int × Bool):=if s.length < jB then some (hH s) else none
def gS:aN:=[116,97,117]
def labLt (a b:aN):Bool:=if a == b then false else if a == gS then true else if b == gS then false else nI a b
def nJ (a b:Edge):Bool:=decide (a.F < b.F)||(a.F == b.F&&(decide (a.B < b.B)||(a.B == b.B&&decide (a.To < b.To))))
def prLt (a b:Int × Int):Bool:=decide (a.1 < b.1)||(a.1 == b.1&&decide (a.2 < b.2))
end Gv
namespace Gv
end Gv
namespace Gv
end Gv
