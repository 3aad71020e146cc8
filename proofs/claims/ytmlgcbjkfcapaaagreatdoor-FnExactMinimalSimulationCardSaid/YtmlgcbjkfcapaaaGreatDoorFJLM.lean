/- What functions of Go's library compute, as plain functions. -/
import Derived.Test.YtmlgcbjkfcapaaaGreatDoorFJS
import Derived.Lib.IndexMore
import Derived.Lib.Join
import Derived.Lib.ItoaNum
import Derived.Lib.ParseIntB
import Derived.Lib.SlicesCompact
set_option linter.all false
namespace Gv
open Go
def cmpB (a b:bH):Int:=if a == b then 0 else if xY a b then -1 else 1
def zW (sep:bH):Nat→bH→List bH
 |0,s=>[s]
 |n+1,s=>match Lib.cut s sep with
  |(a,b,true)=>a::zW sep n b
  |(_,_,false)=>[s]
def l_Cut (s sep:bH):Option (bH × bH × Bool):=if s.length < 4294967281 then some (Lib.cut s sep) else none
def aDA (s sep:bH):Option (List bH):=if s.length < 4294967281∧sep≠[] then some (zW sep s.length s) else none
def aHP (xs:List bH) (sep:bH):Option bH:=if xs.length < lT∧(Lib.join xs sep).length < lT then some (Lib.join xs sep) else none
def aHk (a b:bH):Option Int:=some (cmpB a b)
def aAW (n:Int):Option bH:=if -9223372036854775808≤n∧n≤9223372036854775807 then some (Lib.itoa n) else none
def bare (s:bH):bH:=match s with|45::s'=>s'|s=>s
def jB (s:bH):Int × Bool:=
 if (bare s).length > 18 then (0,false)
 else match Lib.parseIntB 64 s with
  |.ok v=>if Lib.itoa v=s then (v,true) else (0,false)
  |_=>(0,false)
def rY (s:bH):Option (Int × Bool):=if s.length < lT then some (jB s) else none
def srt {α:Type} (lt:α→α→Bool) (xs:List α):List α:=xs.mergeSort fun a b=>!lt b a
def jK:bH:=[116,97,117]
def zX (a b:bH):Bool:=if a == b then false else if a == jK then true else if b == jK then false else xY a b
def cY (a b:Edge):Bool:=decide (a.F < b.F)||(a.F == b.F&&(decide (a.B < b.B)||(a.B == b.B&&decide (a.To < b.To))))
def jT {α:Type} [DecidableEq α]:List α→List α
 |[]=>[]
 |[a]=>[a]
 |a::b::l=>if a=b then jT (b::l) else a::jT (b::l)
def aEk (xs:List bH):Option (List bH):=if xs.length < lT then some (srt zX xs) else none
def tK (xs:List Edge):Option (List Edge):=if xs.length < lT then some (srt cY xs) else none
def yY (xs:List Int):Option (List Int):=if xs.length < lT then some (srt (fun a b=>decide (a < b)) xs) else none
def prLt (a b:Int × Int):Bool:=decide (a.1 < b.1)||(a.1 == b.1&&decide (a.2 < b.2))
def l_Mul (a b:Int):Option (Int × Int):=if 0≤a∧a < 18446744073709551616∧0≤b∧b < 18446744073709551616 then some (a * b / 18446744073709551616,a * b % 18446744073709551616) else none
end Gv
