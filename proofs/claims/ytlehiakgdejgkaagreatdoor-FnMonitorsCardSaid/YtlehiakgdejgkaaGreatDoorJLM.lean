/- What functions of Go's library compute, as plain functions. -/
import Derived.Test.YtlehiakgdejgkaaGreatDoorJS
import Derived.Lib.IndexMore
import Derived.Lib.Join
import Derived.Lib.ItoaNum
import Derived.Lib.ParseIntB
import Derived.Lib.SlicesCompact
set_option linter.all false
namespace Gv
open Go
def cmpB (a b:aJ):Int:=if a == b then 0 else if ltB a b then -1 else 1
def aEf (sep:aJ):Nat->aJ->List aJ
 |0,s=>[s]
 |n+1,s=>match Lib.cut s sep with
  |(a,b,true)=>a::aEf sep n b
  |(_,_,false)=>[s]
def l_Cut (s sep:aJ):Option (aJ × aJ × Bool):=if s.length < 4294967281 then some (Lib.cut s sep) else none
def aJX (s sep:aJ):Option (List aJ):=if s.length < 4294967281/\sep≠[] then some (aEf sep s.length s) else none
def aPf (xs:List aJ) (sep:aJ):Option aJ:=if xs.length < jL/\(Lib.join xs sep).length < jL then some (Lib.join xs sep) else none
def aOq (a b:aJ):Option Int:=some (cmpB a b)
def uT (n:Int):Option aJ:=if -9223372036854775808<=n/\n<=9223372036854775807 then some (Lib.itoa n) else none
def bare (s:aJ):aJ:=match s with|45::s'=>s'|s=>s
def kM (s:aJ):Int × Bool:=
 if (bare s).length > 18 then (0,false)
 else match Lib.parseIntB 64 s with
  |.ok v=>if Lib.itoa v=s then (v,true) else (0,false)
  |_=>(0,false)
def zH (s:aJ):Option (Int × Bool):=if s.length < jL then some (kM s) else none
def srt {α:Type} (lt:α->α->Bool) (xs:List α):List α:=xs.mergeSort fun a b=>!lt b a
def bQ:aJ:=[116,97,117]
def yD (a b:aJ):Bool:=if a == b then false else if a == bQ then true else if b == bQ then false else ltB a b
def bX (a b:Edge):Bool:=decide (a.F < b.F)||(a.F == b.F&&(decide (a.B < b.B)||(a.B == b.B&&decide (a.To < b.To))))
def jQ {α:Type} [DecidableEq α]:List α->List α
 |[]=>[]
 |[a]=>[a]
 |a::b::l=>if a=b then jQ (b::l) else a::jQ (b::l)
def aBY (xs:List aJ):Option (List aJ):=if xs.length < jL then some (srt yD xs) else none
def aAu (xs:List Edge):Option (List Edge):=if xs.length < jL then some (srt bX xs) else none
def aAF (xs:List Int):Option (List Int):=if xs.length < jL then some (srt (fun a b=>decide (a < b)) xs) else none
def prLt (a b:Int × Int):Bool:=decide (a.1 < b.1)||(a.1 == b.1&&decide (a.2 < b.2))
def aIC (xs:List aJ) (n:Int):Option (List aJ):=if xs=[]/\0<=n/\n < jL then some [] else none
def l_Mul (a b:Int):Option (Int × Int):=if 0<=a/\a < 18446744073709551616/\0<=b/\b < 18446744073709551616 then some (a * b / 18446744073709551616,a * b % 18446744073709551616) else none
def shU (x n:Int):Option Int:=if 0<=n then some (x.fdiv (2 ^ min n.toNat 64)) else none
def anU (x y:Int):Int:=oM (((BitVec.ofInt 64 x&&& BitVec.ofInt 64 y).toNat:Nat):Int)
end Gv
