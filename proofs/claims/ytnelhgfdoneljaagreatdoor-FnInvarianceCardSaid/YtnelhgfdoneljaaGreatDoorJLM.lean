/- What functions of Go's library compute, as plain functions. -/
import Derived.Test.YtnelhgfdoneljaaGreatDoorJS
import Derived.Lib.IndexMore
import Derived.Lib.Join
import Derived.Lib.ItoaNum
import Derived.Lib.ParseIntB
import Derived.Lib.SlicesCompact
set_option linter.all false
namespace Gv
open Go
def cmpB (a b:aQ):Int:=if a == b then 0 else if yF a b then -1 else 1
def aBe (sep:aQ):Nat->aQ->List aQ
 |0,s=>[s]
 |n+1,s=>match Lib.cut s sep with
  |(a,b,true)=>a::aBe sep n b
  |(_,_,false)=>[s]
def l_Cut (s sep:aQ):Option (aQ × aQ × Bool):=if s.length < 4294967281 then some (Lib.cut s sep) else none
def aGt (s sep:aQ):Option (List aQ):=if s.length < 4294967281/\sep≠[] then some (aBe sep s.length s) else none
def aKE (xs:List aQ) (sep:aQ):Option aQ:=if xs.length < gQ/\(Lib.join xs sep).length < gQ then some (Lib.join xs sep) else none
def aKb (a b:aQ):Option Int:=some (cmpB a b)
def aCT (n:Int):Option aQ:=if -9223372036854775808<=n/\n<=9223372036854775807 then some (Lib.itoa n) else none
def bare (s:aQ):aQ:=match s with|45::s'=>s'|s=>s
def iF (s:aQ):Int × Bool:=
 if (bare s).length > 18 then (0,false)
 else match Lib.parseIntB 64 s with
  |.ok v=>if Lib.itoa v=s then (v,true) else (0,false)
  |_=>(0,false)
def tS (s:aQ):Option (Int × Bool):=if s.length < gQ then some (iF s) else none
def xB {α:Type} (lt:α->α->Bool) (xs:List α):List α:=xs.mergeSort fun a b=>!lt b a
def cI:aQ:=[116,97,117]
def xE (a b:aQ):Bool:=if a == b then false else if a == cI then true else if b == cI then false else yF a b
def bS (a b:Edge):Bool:=decide (a.F < b.F)||(a.F == b.F&&(decide (a.B < b.B)||(a.B == b.B&&decide (a.To < b.To))))
def fZ {α:Type} [DecidableEq α]:List α->List α
 |[]=>[]
 |[a]=>[a]
 |a::b::l=>if a=b then fZ (b::l) else a::fZ (b::l)
def aCU (xs:List aQ):Option (List aQ):=if xs.length < gQ then some (xB xE xs) else none
def aBf (xs:List Edge):Option (List Edge):=if xs.length < gQ then some (xB bS xs) else none
def aAT (xs:List Int):Option (List Int):=if xs.length < gQ then some (xB (fun a b=>decide (a < b)) xs) else none
def prLt (a b:Int × Int):Bool:=decide (a.1 < b.1)||(a.1 == b.1&&decide (a.2 < b.2))
def aFf (xs:List aQ) (n:Int):Option (List aQ):=if xs=[]/\0<=n/\n < gQ then some [] else none
def l_Mul (a b:Int):Option (Int × Int):=if 0<=a/\a < 18446744073709551616/\0<=b/\b < 18446744073709551616 then some (a * b / 18446744073709551616,a * b % 18446744073709551616) else none
def tkN (g:Nat) (j:Int):Option Nat:=if g<=j.toNat then some (j.toNat+1) else none
def shU (x n:Int):Option Int:=if 0<=n then some (x.fdiv (2 ^ min n.toNat 64)) else none
def anU (x y:Int):Int:=kX (((BitVec.ofInt 64 x&&& BitVec.ofInt 64 y).toNat:Nat):Int)
end Gv
namespace Gv
end Gv
namespace Gv
end Gv
