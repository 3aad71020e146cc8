/- What functions of Go's library compute, as plain functions. -/
import Derived.Test.YtjkjjlbjcgklhaaGreatDoorJS
import Derived.Lib.IndexMore
import Derived.Lib.Join
import Derived.Lib.ItoaNum
import Derived.Lib.ParseIntB
import Derived.Lib.SlicesCompact
set_option linter.all false
namespace Gv
open Go
def cmpB (a b:aL):Int:=if a == b then 0 else if ltB a b then -1 else 1
def aED (sep:aL):Nat->aL->List aL
 |0,s=>[s]
 |n+1,s=>match Lib.cut s sep with
  |(a,b,true)=>a::aED sep n b
  |(_,_,false)=>[s]
def l_Cut (s sep:aL):Option (aL × aL × Bool):=if s.length < 4294967281 then some (Lib.cut s sep) else none
def aKS (s sep:aL):Option (List aL):=if s.length < 4294967281/\sep≠[] then some (aED sep s.length s) else none
def aQk (xs:List aL) (sep:aL):Option aL:=if xs.length < iO/\(Lib.join xs sep).length < iO then some (Lib.join xs sep) else none
def aPx (a b:aL):Option Int:=some (cmpB a b)
def aGz (n:Int):Option aL:=if -9223372036854775808<=n/\n<=9223372036854775807 then some (Lib.itoa n) else none
def bare (s:aL):aL:=match s with|45::s'=>s'|s=>s
def kV (s:aL):Int × Bool:=
 if (bare s).length > 18 then (0,false)
 else match Lib.parseIntB 64 s with
  |.ok v=>if Lib.itoa v=s then (v,true) else (0,false)
  |_=>(0,false)
def yZ (s:aL):Option (Int × Bool):=if s.length < iO then some (kV s) else none
def tI {α:Type} (lt:α->α->Bool) (xs:List α):List α:=xs.mergeSort fun a b=>!lt b a
def bC:aL:=[116,97,117]
def kB (a b:aL):Bool:=if a == b then false else if a == bC then true else if b == bC then false else ltB a b
def bK (a b:Edge):Bool:=decide (a.F < b.F)||(a.F == b.F&&(decide (a.B < b.B)||(a.B == b.B&&decide (a.To < b.To))))
def iI {α:Type} [DecidableEq α]:List α->List α
 |[]=>[]
 |[a]=>[a]
 |a::b::l=>if a=b then iI (b::l) else a::iI (b::l)
def xN (xs:List aL):Option (List aL):=if xs.length < iO then some (tI kB xs) else none
def aAE (xs:List Edge):Option (List Edge):=if xs.length < iO then some (tI bK xs) else none
def vA (xs:List Int):Option (List Int):=if xs.length < iO then some (tI (fun a b=>decide (a < b)) xs) else none
def prLt (a b:Int × Int):Bool:=decide (a.1 < b.1)||(a.1 == b.1&&decide (a.2 < b.2))
def aJg (xs:List aL) (n:Int):Option (List aL):=if xs=[]/\0<=n/\n < iO then some [] else none
def l_Mul (a b:Int):Option (Int × Int):=if 0<=a/\a < 18446744073709551616/\0<=b/\b < 18446744073709551616 then some (a * b / 18446744073709551616,a * b % 18446744073709551616) else none
def tkN (g:Nat) (j:Int):Option Nat:=if g<=j.toNat then some (j.toNat+1) else none
def shU (x n:Int):Option Int:=if 0<=n then some (x.fdiv (2 ^ min n.toNat 64)) else none
def anU (x y:Int):Int:=oZ (((BitVec.ofInt 64 x&&& BitVec.ofInt 64 y).toNat:Nat):Int)
end Gv
