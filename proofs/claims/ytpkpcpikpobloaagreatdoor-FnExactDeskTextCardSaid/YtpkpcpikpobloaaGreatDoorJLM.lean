/- What functions of Go's library compute, as plain functions. -/
import Derived.Test.YtpkpcpikpobloaaGreatDoorJS
import Derived.Lib.Join
import Derived.Lib.ItoaNum
import Derived.Lib.ParseIntB
import Derived.Lib.SlicesCompact
import Derived.Lib.Replace
set_option linter.all false
namespace Gv
open Go
def aCa (sep:aK):Nat->aK->List aK
 |0,s=>[s]
 |n+1,s=>match Lib.cut s sep with
  |(a,b,true)=>a::aCa sep n b
  |(_,_,false)=>[s]
def l_Cut (s sep:aK):Option (aK × aK × Bool):=if s.length < 4294967281 then some (Lib.cut s sep) else none
def aJH (s sep:aK):Option (List aK):=if s.length < 4294967281/\sep≠[] then some (aCa sep s.length s) else none
def yJ (xs:List aK) (sep:aK):Option aK:=if xs.length < iB/\(Lib.join xs sep).length < iB then some (Lib.join xs sep) else none
def gN (n:Int):Option aK:=if -9223372036854775808<=n/\n<=9223372036854775807 then some (Lib.itoa n) else none
def bare (s:aK):aK:=match s with|45::s'=>s'|s=>s
def iD (s:aK):Int × Bool:=
 if (bare s).length > 18 then (0,false)
 else match Lib.parseIntB 64 s with
  |.ok v=>if Lib.itoa v=s then (v,true) else (0,false)
  |_=>(0,false)
def sW (s:aK):Option (Int × Bool):=if s.length < iB then some (iD s) else none
def gY:aK:=[116,97,117]
def labLt (a b:aK):Bool:=if a == b then false else if a == gY then true else if b == gY then false else nT a b
def nU (a b:Edge):Bool:=decide (a.F < b.F)||(a.F == b.F&&(decide (a.B < b.B)||(a.B == b.B&&decide (a.To < b.To))))
def prLt (a b:Int × Int):Bool:=decide (a.1 < b.1)||(a.1 == b.1&&decide (a.2 < b.2))
end Gv
namespace Gv
end Gv
namespace Gv
end Gv
namespace Gv
open Go
def aBk (s o n:aK):Option aK:=if s.length < 4294967281/\o.length=1/\n.length=1 then some (Lib.replaceAll s o n) else none
def aPX (s:aK) (a b:UInt8):Option aK:=if s.length < iB then some (s.map fun x=>if x=a then b else x) else none
end Gv
