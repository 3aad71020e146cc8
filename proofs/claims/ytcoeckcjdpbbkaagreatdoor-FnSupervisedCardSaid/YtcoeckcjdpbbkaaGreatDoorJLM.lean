/- What functions of Go's library compute, as plain functions. -/
import Derived.Test.YtcoeckcjdpbbkaaGreatDoorJS
import Derived.Lib.IndexMore
import Derived.Lib.Join
import Derived.Lib.ItoaNum
import Derived.Lib.ParseIntB
import Derived.Lib.SlicesCompact
set_option linter.all false
namespace Gv
open Go
def cmpB (a b:aH):Int:=if a == b then 0 else if wY a b then -1 else 1
def aEg (sep:aH):Nat->aH->List aH
 |0,s=>[s]
 |n+1,s=>match Lib.cut s sep with
  |(a,b,true)=>a::aEg sep n b
  |(_,_,false)=>[s]
def l_Cut (s sep:aH):Option (aH × aH × Bool):=if s.length < 4294967281 then some (Lib.cut s sep) else none
def aJG (s sep:aH):Option (List aH):=if s.length < 4294967281/\sep≠[] then some (aEg sep s.length s) else none
def aPA (xs:List aH) (sep:aH):Option aH:=if xs.length < hX/\(Lib.join xs sep).length < hX then some (Lib.join xs sep) else none
def aOC (a b:aH):Option Int:=some (cmpB a b)
def aFU (n:Int):Option aH:=if -9223372036854775808<=n/\n<=9223372036854775807 then some (Lib.itoa n) else none
def bare (s:aH):aH:=match s with|45::s'=>s'|s=>s
def kJ (s:aH):Int × Bool:=
 if (bare s).length > 18 then (0,false)
 else match Lib.parseIntB 64 s with
  |.ok v=>if Lib.itoa v=s then (v,true) else (0,false)
  |_=>(0,false)
def zD (s:aH):Option (Int × Bool):=if s.length < hX then some (kJ s) else none
def srt {α:Type} (lt:α->α->Bool) (xs:List α):List α:=xs.mergeSort fun a b=>!lt b a
def bL:aH:=[116,97,117]
def zF (a b:aH):Bool:=if a == b then false else if a == bL then true else if b == bL then false else wY a b
def bK (a b:Edge):Bool:=decide (a.F < b.F)||(a.F == b.F&&(decide (a.B < b.B)||(a.B == b.B&&decide (a.To < b.To))))
def iX {α:Type} [DecidableEq α]:List α->List α
 |[]=>[]
 |[a]=>[a]
 |a::b::l=>if a=b then iX (b::l) else a::iX (b::l)
def aCn (xs:List aH):Option (List aH):=if xs.length < hX then some (srt zF xs) else none
def aAF (xs:List Edge):Option (List Edge):=if xs.length < hX then some (srt bK xs) else none
def nV:List Int->List Int->Int
 |[],[]=>0
 |[],_::_=>-1
 |_::_,[]=>1
 |a::l,b::m=>if a < b then -1 else if b < a then 1 else nV l m
def sL (a b:List Int):Bool:=decide (nV a b < 0)
def aEh (xs:List (List Int)):Option (List (List Int)):=if xs.length < hX/\xs.Nodup/\(∀ x∈xs,x.length < hX) then some (srt sL xs) else none
def aAT (xs:List Int):Option (List Int):=if xs.length < hX then some (srt (fun a b=>decide (a < b)) xs) else none
def prLt (a b:Int × Int):Bool:=decide (a.1 < b.1)||(a.1 == b.1&&decide (a.2 < b.2))
def aKX (a b:Int):Option (Int × Int):=if 0<=a/\a < 18446744073709551616/\0<=b/\b < 18446744073709551616 then some (a * b / 18446744073709551616,a * b % 18446744073709551616) else none
def shU (x n:Int):Option Int:=if 0<=n then some (x.fdiv (2 ^ min n.toNat 64)) else none
def anU (x y:Int):Int:=rY (((BitVec.ofInt 64 x&&& BitVec.ofInt 64 y).toNat:Nat):Int)
end Gv
