/- What functions of Go's library compute, as plain functions. -/
import Derived.Test.YthbfapccpmppoaaGreatDoorJS
import Derived.Lib.Join
import Derived.Lib.ItoaNum
import Derived.Lib.ParseIntB
import Derived.Lib.SlicesCompact
import Derived.Lib.Replace
set_option linter.all false
namespace Gv
open Go
def aBO (sep:aL):Nat->aL->List aL
 |0,s=>[s]
 |n+1,s=>match Lib.cut s sep with
  |(a,b,true)=>a::aBO sep n b
  |(_,_,false)=>[s]
def l_Cut (s sep:aL):Option (aL × aL × Bool):=if s.length < 4294967281 then some (Lib.cut s sep) else none
def aIY (s sep:aL):Option (List aL):=if s.length < 4294967281/\sep≠[] then some (aBO sep s.length s) else none
def aAH (xs:List aL) (sep:aL):Option aL:=if xs.length < iK/\(Lib.join xs sep).length < iK then some (Lib.join xs sep) else none
def gN (n:Int):Option aL:=if -9223372036854775808<=n/\n<=9223372036854775807 then some (Lib.itoa n) else none
def bare (s:aL):aL:=match s with|45::s'=>s'|s=>s
def iC (s:aL):Int × Bool:=
 if (bare s).length > 18 then (0,false)
 else match Lib.parseIntB 64 s with
  |.ok v=>if Lib.itoa v=s then (v,true) else (0,false)
  |_=>(0,false)
def sL (s:aL):Option (Int × Bool):=if s.length < iK then some (iC s) else none
def gY:aL:=[116,97,117]
def labLt (a b:aL):Bool:=if a == b then false else if a == gY then true else if b == gY then false else pM a b
def nO (a b:Edge):Bool:=decide (a.F < b.F)||(a.F == b.F&&(decide (a.B < b.B)||(a.B == b.B&&decide (a.To < b.To))))
def prLt (a b:Int × Int):Bool:=decide (a.1 < b.1)||(a.1 == b.1&&decide (a.2 < b.2))
end Gv
namespace Gv
end Gv
namespace Gv
end Gv
namespace Gv
open Go
def aAY (s o n:aL):Option aL:=if s.length < 4294967281/\o.length=1/\n.length=1 then some (Lib.replaceAll s o n) else none
def aOY (s:aL) (a b:UInt8):Option aL:=if s.length < iK then some (s.map fun x=>if x=a then b else x) else none
end Gv
