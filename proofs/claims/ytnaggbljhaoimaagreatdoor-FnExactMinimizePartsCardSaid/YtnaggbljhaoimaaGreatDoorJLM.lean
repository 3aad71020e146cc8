/- What functions of Go's library compute, as plain functions. -/
import Derived.Test.YtnaggbljhaoimaaGreatDoorJS
import Derived.Lib.IndexMore
import Derived.Lib.Join
import Derived.Lib.ItoaNum
import Derived.Lib.ParseIntB
import Derived.Lib.SlicesCompact
set_option linter.all false
namespace Gv
open Go
def aAT (sep:aV):Nat->aV->List aV
 |0,s=>[s]
 |n+1,s=>match Lib.cut s sep with
  |(a,b,true)=>a::aAT sep n b
  |(_,_,false)=>[s]
def l_Cut (s sep:aV):Option (aV × aV × Bool):=if s.length < 4294967281 then some (Lib.cut s sep) else none
def aGl (s sep:aV):Option (List aV):=if s.length < 4294967281/\sep≠[] then some (aAT sep s.length s) else none
def aLo (xs:List aV) (sep:aV):Option aV:=if xs.length < iQ/\(Lib.join xs sep).length < iQ then some (Lib.join xs sep) else none
def aCG (n:Int):Option aV:=if -9223372036854775808<=n/\n<=9223372036854775807 then some (Lib.itoa n) else none
def bare (s:aV):aV:=match s with|45::s'=>s'|s=>s
def iT (s:aV):Int × Bool:=
 if (bare s).length > 18 then (0,false)
 else match Lib.parseIntB 64 s with
  |.ok v=>if Lib.itoa v=s then (v,true) else (0,false)
  |_=>(0,false)
def sZ (s:aV):Option (Int × Bool):=if s.length < iQ then some (iT s) else none
def yE {α:Type} (lt:α->α->Bool) (xs:List α):List α:=xs.mergeSort fun a b=>!lt b a
def dN:aV:=[116,97,117]
def labLt (a b:aV):Bool:=if a == b then false else if a == dN then true else if b == dN then false else mZ a b
def bQ (a b:Edge):Bool:=decide (a.F < b.F)||(a.F == b.F&&(decide (a.B < b.B)||(a.B == b.B&&decide (a.To < b.To))))
def eW {α:Type} [DecidableEq α]:List α->List α
 |[]=>[]
 |[a]=>[a]
 |a::b::l=>if a=b then eW (b::l) else a::eW (b::l)
def uF (xs:List Edge):Option (List Edge):=if xs.length < iQ then some (yE bQ xs) else none
def wZ (xs:List Int):Option (List Int):=if xs.length < iQ then some (yE (fun a b=>decide (a < b)) xs) else none
def prLt (a b:Int × Int):Bool:=decide (a.1 < b.1)||(a.1 == b.1&&decide (a.2 < b.2))
def aHy (a b:Int):Option (Int × Int):=if 0<=a/\a < 18446744073709551616/\0<=b/\b < 18446744073709551616 then some (a * b / 18446744073709551616,a * b % 18446744073709551616) else none
end Gv
namespace Gv
end Gv
namespace Gv
end Gv
