/- What functions of Go's library compute, as plain functions. -/
import Derived.Test.YtffnhnhfedmjcaaGreatDoorJS
import Derived.Lib.IndexMore
import Derived.Lib.Join
import Derived.Lib.ItoaNum
import Derived.Lib.ParseIntB
import Derived.Lib.SlicesCompact
set_option linter.all false
namespace Gv
open Go
def cmpB (a b:aH):Int:=if a == b then 0 else if wV a b then -1 else 1
def aEg (sep:aH):Nat->aH->List aH
 |0,s=>[s]
 |n+1,s=>match Lib.cut s sep with
  |(a,b,true)=>a::aEg sep n b
  |(_,_,false)=>[s]
def aNf (s sep:aH):Option (aH × aH × Bool):=if s.length < 4294967281 then some (Lib.cut s sep) else none
def aFY (s sep:aH):Option (List aH):=if s.length < 4294967281/\sep≠[] then some (aEg sep s.length s) else none
def aNU (xs:List aH) (sep:aH):Option aH:=if xs.length < jT/\(Lib.join xs sep).length < jT then some (Lib.join xs sep) else none
def aNg (a b:aH):Option Int:=some (cmpB a b)
def aFr (n:Int):Option aH:=if -9223372036854775808<=n/\n<=9223372036854775807 then some (Lib.itoa n) else none
def bare (s:aH):aH:=match s with|45::s'=>s'|s=>s
def gJ (s:aH):Int × Bool:=
 if (bare s).length > 18 then (0,false)
 else match Lib.parseIntB 64 s with
  |.ok v=>if Lib.itoa v=s then (v,true) else (0,false)
  |_=>(0,false)
def aAp (s:aH):Option (Int × Bool):=if s.length < jT then some (gJ s) else none
def rO {α:Type} (lt:α->α->Bool) (xs:List α):List α:=xs.mergeSort fun a b=>!lt b a
def bC:aH:=[116,97,117]
def aBc (a b:aH):Bool:=if a == b then false else if a == bC then true else if b == bC then false else wV a b
def bZ (a b:Edge):Bool:=decide (a.F < b.F)||(a.F == b.F&&(decide (a.B < b.B)||(a.B == b.B&&decide (a.To < b.To))))
def fS {α:Type} [DecidableEq α]:List α->List α
 |[]=>[]
 |[a]=>[a]
 |a::b::l=>if a=b then fS (b::l) else a::fS (b::l)
def aCm (xs:List aH):Option (List aH):=if xs.length < jT then some (rO aBc xs) else none
def nP (xs:List Edge):Option (List Edge):=if xs.length < jT then some (rO bZ xs) else none
def xW:List Int->List Int->Int
 |[],[]=>0
 |[],_::_=>-1
 |_::_,[]=>1
 |a::l,b::m=>if a < b then -1 else if b < a then 1 else xW l m
def aEh (a b:List Int):Bool:=decide (xW a b < 0)
def tU (xs:List Int):Option (List Int):=if xs.length < jT then some (rO (fun a b=>decide (a < b)) xs) else none
def prLt (a b:Int × Int):Bool:=decide (a.1 < b.1)||(a.1 == b.1&&decide (a.2 < b.2))
def aHA (xs:List aH) (n:Int):Option (List aH):=if xs=[]/\0<=n/\n < jT then some [] else none
def aKj (a b:Int):Option (Int × Int):=if 0<=a/\a < 18446744073709551616/\0<=b/\b < 18446744073709551616 then some (a * b / 18446744073709551616,a * b % 18446744073709551616) else none
def tkN (g:Nat) (j:Int):Option Nat:=if g<=j.toNat then some (j.toNat+1) else none
def shU (x n:Int):Option Int:=if 0<=n then some (x.fdiv (2 ^ min n.toNat 64)) else none
def anU (x y:Int):Int:=mK (((BitVec.ofInt 64 x&&& BitVec.ofInt 64 y).toNat:Nat):Int)
end Gv
namespace Gv
end Gv
namespace Gv
def mnS (a b:aH):aH:=if (wV a b||a == b)=true then a else b
def mxS (a b:aH):aH:=if (!wV a b)=true then a else b
def aLy (rows:List (List Int)) (x y:Int):Bool:=aEh (rows.getD x.toNat []) (rows.getD y.toNat [])
def wM (xs:List Int) (rows:List (List Int)):Option (List Int):=if xs.length < jT/\0 < rows.length/\rows.Nodup/\(∀ r∈rows,r.length < jT)/\(∀ x∈xs,0<=x/\x < rows.length) then some (rO (aLy rows) xs) else none
end Gv
namespace Gv
def aEI {α:Type} (xs:List α) (i j:Int):Option (List α):=if 0<=i/\i<=j/\j<=xs.length then some (xs.take i.toNat++xs.drop j.toNat) else none
end Gv
