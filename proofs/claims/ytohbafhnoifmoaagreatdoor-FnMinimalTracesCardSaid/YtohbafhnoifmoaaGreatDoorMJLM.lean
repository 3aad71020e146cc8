/- What functions of Go's library compute, as plain functions. -/
import Derived.Test.YtohbafhnoifmoaaGreatDoorMJS
import Derived.Lib.IndexMore
import Derived.Lib.Join
import Derived.Lib.ItoaNum
import Derived.Lib.ParseIntB
import Derived.Lib.SlicesCompact
set_option linter.all false
namespace Gv
open Go
def cmpB (a b:bD):Int:=if a == b then 0 else if ltB a b then -1 else 1
def aBj (sep:bD):Nat->bD->List bD
 |0,s=>[s]
 |n+1,s=>match Lib.cut s sep with
  |(a,b,true)=>a::aBj sep n b
  |(_,_,false)=>[s]
def l_Cut (s sep:bD):Option (bD × bD × Bool):=if s.length < 4294967281 then some (Lib.cut s sep) else none
def aHb (s sep:bD):Option (List bD):=if s.length < 4294967281/\sep≠[] then some (aBj sep s.length s) else none
def aOb (xs:List bD) (sep:bD):Option bD:=if xs.length < lim/\(Lib.join xs sep).length < lim then some (Lib.join xs sep) else none
def aGL (a b:bD):Option Int:=some (cmpB a b)
def aCV (n:Int):Option bD:=if -9223372036854775808<=n/\n<=9223372036854775807 then some (Lib.itoa n) else none
def bare (s:bD):bD:=match s with|45::s'=>s'|s=>s
def aIi (s:bD):Int × Bool:=
 if (bare s).length > 18 then (0,false)
 else match Lib.parseIntB 64 s with
  |.ok v=>if Lib.itoa v=s then (v,true) else (0,false)
  |_=>(0,false)
def aAg (s:bD):Option (Int × Bool):=if s.length < lim then some (aIi s) else none
def srt {α:Type} (lt:α->α->Bool) (xs:List α):List α:=xs.mergeSort fun a b=>!lt b a
def nD:bD:=[116,97,117]
def uS (a b:bD):Bool:=if a == b then false else if a == nD then true else if b == nD then false else ltB a b
def jM (a b:Edge):Bool:=decide (a.F < b.F)||(a.F == b.F&&(decide (a.B < b.B)||(a.B == b.B&&decide (a.To < b.To))))
def aId {α:Type} [DecidableEq α]:List α->List α
 |[]=>[]
 |[a]=>[a]
 |a::b::l=>if a=b then aId (b::l) else a::aId (b::l)
def aEy (xs:List bD):Option (List bD):=if xs.length < lim then some (srt uS xs) else none
def aDA (xs:List Edge):Option (List Edge):=if xs.length < lim then some (srt jM xs) else none
def aCW (xs:List Int):Option (List Int):=if xs.length < lim then some (srt (fun a b=>decide (a < b)) xs) else none
def prLt (a b:Int × Int):Bool:=decide (a.1 < b.1)||(a.1 == b.1&&decide (a.2 < b.2))
def aEz (xs:List bD) (n:Int):Option (List bD):=if xs=[]/\0<=n/\n < lim then some [] else none
def shU (x n:Int):Option Int:=if 0<=n then some (x.fdiv (2 ^ min n.toNat 64)) else none
def anU (x y:Int):Int:=lE (((BitVec.ofInt 64 x&&& BitVec.ofInt 64 y).toNat:Nat):Int)
end Gv
