/- What functions of Go's library compute, as plain functions. -/
import Derived.Test.YtmlemmpanilhjaaGreatDoorJS
import Derived.Lib.IndexMore
import Derived.Lib.Join
import Derived.Lib.ItoaNum
import Derived.Lib.ParseIntB
import Derived.Lib.SlicesCompact
set_option linter.all false
namespace Gv
open Go
def cmpB (a b:bL):Int:=if a == b then 0 else if lE a b then -1 else 1
def aDc (sep:bL):Nat->bL->List bL
 |0,s=>[s]
 |n+1,s=>match Lib.cut s sep with
  |(a,b,true)=>a::aDc sep n b
  |(_,_,false)=>[s]
def l_Cut (s sep:bL):Option (bL × bL × Bool):=if s.length < 4294967281 then some (Lib.cut s sep) else none
def aIz (s sep:bL):Option (List bL):=if s.length < 4294967281/\sep≠[] then some (aDc sep s.length s) else none
def aOo (xs:List bL) (sep:bL):Option bL:=if xs.length < kM/\(Lib.join xs sep).length < kM then some (Lib.join xs sep) else none
def aNz (a b:bL):Option Int:=some (cmpB a b)
def tV (n:Int):Option bL:=if -9223372036854775808<=n/\n<=9223372036854775807 then some (Lib.itoa n) else none
def bare (s:bL):bL:=match s with|45::s'=>s'|s=>s
def jY (s:bL):Int × Bool:=
 if (bare s).length > 18 then (0,false)
 else match Lib.parseIntB 64 s with
  |.ok v=>if Lib.itoa v=s then (v,true) else (0,false)
  |_=>(0,false)
def vA (s:bL):Option (Int × Bool):=if s.length < kM then some (jY s) else none
def srt {α:Type} (lt:α->α->Bool) (xs:List α):List α:=xs.mergeSort fun a b=>!lt b a
def eK:bL:=[116,97,117]
def aAG (a b:bL):Bool:=if a == b then false else if a == eK then true else if b == eK then false else lE a b
def dP (a b:Edge):Bool:=decide (a.F < b.F)||(a.F == b.F&&(decide (a.B < b.B)||(a.B == b.B&&decide (a.To < b.To))))
def jK {α:Type} [DecidableEq α]:List α->List α
 |[]=>[]
 |[a]=>[a]
 |a::b::l=>if a=b then jK (b::l) else a::jK (b::l)
def aEy (xs:List bL):Option (List bL):=if xs.length < kM then some (srt aAG xs) else none
def aDd (xs:List Edge):Option (List Edge):=if xs.length < kM then some (srt dP xs) else none
def prLt (a b:Int × Int):Bool:=decide (a.1 < b.1)||(a.1 == b.1&&decide (a.2 < b.2))
end Gv
namespace Gv
end Gv
namespace Gv
end Gv
