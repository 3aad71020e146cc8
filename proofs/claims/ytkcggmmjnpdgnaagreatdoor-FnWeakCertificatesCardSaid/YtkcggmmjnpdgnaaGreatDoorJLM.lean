/- What functions of Go's library compute, as plain functions. -/
import Derived.Test.YtkcggmmjnpdgnaaGreatDoorJS
import Derived.Lib.IndexMore
import Derived.Lib.Join
import Derived.Lib.ItoaNum
import Derived.Lib.ParseIntB
import Derived.Lib.SlicesCompact
set_option linter.all false
namespace Gv
open Go
def aEr (sep:aY):Nat->aY->List aY
 |0,s=>[s]
 |n+1,s=>match Lib.cut s sep with
  |(a,b,true)=>a::aEr sep n b
  |(_,_,false)=>[s]
def l_Cut (s sep:aY):Option (aY × aY × Bool):=if s.length < 4294967281 then some (Lib.cut s sep) else none
def aIW (s sep:aY):Option (List aY):=if s.length < 4294967281/\sep≠[] then some (aEr sep s.length s) else none
def aMV (xs:List aY) (sep:aY):Option aY:=if xs.length < kP/\(Lib.join xs sep).length < kP then some (Lib.join xs sep) else none
def aFQ (n:Int):Option aY:=if -9223372036854775808<=n/\n<=9223372036854775807 then some (Lib.itoa n) else none
def bare (s:aY):aY:=match s with|45::s'=>s'|s=>s
def kV (s:aY):Int × Bool:=
 if (bare s).length > 18 then (0,false)
 else match Lib.parseIntB 64 s with
  |.ok v=>if Lib.itoa v=s then (v,true) else (0,false)
  |_=>(0,false)
def yO (s:aY):Option (Int × Bool):=if s.length < kP then some (kV s) else none
def srt {α:Type} (lt:α->α->Bool) (xs:List α):List α:=xs.mergeSort fun a b=>!lt b a
def dV:aY:=[116,97,117]
def labLt (a b:aY):Bool:=if a == b then false else if a == dV then true else if b == dV then false else ltB a b
def dW (a b:Edge):Bool:=decide (a.F < b.F)||(a.F == b.F&&(decide (a.B < b.B)||(a.B == b.B&&decide (a.To < b.To))))
def lW {α:Type} [DecidableEq α]:List α->List α
 |[]=>[]
 |[a]=>[a]
 |a::b::l=>if a=b then lW (b::l) else a::lW (b::l)
def aHf:List Int->List Int->Int
 |[],[]=>0
 |[],_::_=>-1
 |_::_,[]=>1
 |a::l,b::m=>if a < b then -1 else if b < a then 1 else aHf l m
def rowLt (a b:List Int):Bool:=decide (aHf a b < 0)
def aEa (xs:List Int):Option (List Int):=if xs.length < kP then some (srt (fun a b=>decide (a < b)) xs) else none
def prLt (a b:Int × Int):Bool:=decide (a.1 < b.1)||(a.1 == b.1&&decide (a.2 < b.2))
def l_Mul (a b:Int):Option (Int × Int):=if 0<=a/\a < 18446744073709551616/\0<=b/\b < 18446744073709551616 then some (a * b / 18446744073709551616,a * b % 18446744073709551616) else none
def shU (x n:Int):Option Int:=if 0<=n then some (x.fdiv (2 ^ min n.toNat 64)) else none
def anU (x y:Int):Int:=gG (((BitVec.ofInt 64 x&&& BitVec.ofInt 64 y).toNat:Nat):Int)
end Gv
namespace Gv
end Gv
namespace Gv
end Gv
