/- What functions of Go's library compute, as plain functions. -/
import Derived.Test.YtlechllgdgniaaaGreatDoorJS
import Derived.Lib.IndexMore
import Derived.Lib.Join
import Derived.Lib.ItoaNum
import Derived.Lib.ParseIntB
import Derived.Lib.SlicesCompact
set_option linter.all false
namespace Gv
open Go
def cmpB (a b:bK):Int:=if a == b then 0 else if lQ a b then -1 else 1
def aDW (sep:bK):Nat->bK->List bK
 |0,s=>[s]
 |n+1,s=>match Lib.cut s sep with
  |(a,b,true)=>a::aDW sep n b
  |(_,_,false)=>[s]
def l_Cut (s sep:bK):Option (bK × bK × Bool):=if s.length < 4294967281 then some (Lib.cut s sep) else none
def aJE (s sep:bK):Option (List bK):=if s.length < 4294967281/\sep≠[] then some (aDW sep s.length s) else none
def aPG (xs:List bK) (sep:bK):Option bK:=if xs.length < jU/\(Lib.join xs sep).length < jU then some (Lib.join xs sep) else none
def aOO (a b:bK):Option Int:=some (cmpB a b)
def uS (n:Int):Option bK:=if -9223372036854775808<=n/\n<=9223372036854775807 then some (Lib.itoa n) else none
def bare (s:bK):bK:=match s with|45::s'=>s'|s=>s
def kE (s:bK):Int × Bool:=
 if (bare s).length > 18 then (0,false)
 else match Lib.parseIntB 64 s with
  |.ok v=>if Lib.itoa v=s then (v,true) else (0,false)
  |_=>(0,false)
def vX (s:bK):Option (Int × Bool):=if s.length < jU then some (kE s) else none
def srt {α:Type} (lt:α->α->Bool) (xs:List α):List α:=xs.mergeSort fun a b=>!lt b a
def eO:bK:=[116,97,117]
def aBm (a b:bK):Bool:=if a == b then false else if a == eO then true else if b == eO then false else lQ a b
def dT (a b:Edge):Bool:=decide (a.F < b.F)||(a.F == b.F&&(decide (a.B < b.B)||(a.B == b.B&&decide (a.To < b.To))))
def jQ {α:Type} [DecidableEq α]:List α->List α
 |[]=>[]
 |[a]=>[a]
 |a::b::l=>if a=b then jQ (b::l) else a::jQ (b::l)
def aFw (xs:List bK):Option (List bK):=if xs.length < jU then some (srt aBm xs) else none
def aDX (xs:List Edge):Option (List Edge):=if xs.length < jU then some (srt dT xs) else none
def prLt (a b:Int × Int):Bool:=decide (a.1 < b.1)||(a.1 == b.1&&decide (a.2 < b.2))
end Gv
namespace Gv
end Gv
namespace Gv
end Gv
