/- What functions of Go's library compute, as plain functions. -/
import Derived.Test.YthmfdhgeglgpbaaGreatDoorJS
import Derived.Lib.IndexMore
import Derived.Lib.Join
import Derived.Lib.ItoaNum
import Derived.Lib.ParseIntB
import Derived.Lib.SlicesCompact
set_option linter.all false
namespace Gv
open Go
def aDF (sep:aJ):Nat->aJ->List aJ
 |0,s=>[s]
 |n+1,s=>match Lib.cut s sep with
  |(a,b,true)=>a::aDF sep n b
  |(_,_,false)=>[s]
def l_Cut (s sep:aJ):Option (aJ × aJ × Bool):=if s.length < 4294967281 then some (Lib.cut s sep) else none
def aKh (s sep:aJ):Option (List aJ):=if s.length < 4294967281/\sep≠[] then some (aDF sep s.length s) else none
def aPu (xs:List aJ) (sep:aJ):Option aJ:=if xs.length < iE/\(Lib.join xs sep).length < iE then some (Lib.join xs sep) else none
def aFE (n:Int):Option aJ:=if -9223372036854775808<=n/\n<=9223372036854775807 then some (Lib.itoa n) else none
def bare (s:aJ):aJ:=match s with|45::s'=>s'|s=>s
def kL (s:aJ):Int × Bool:=
 if (bare s).length > 18 then (0,false)
 else match Lib.parseIntB 64 s with
  |.ok v=>if Lib.itoa v=s then (v,true) else (0,false)
  |_=>(0,false)
def xI (s:aJ):Option (Int × Bool):=if s.length < iE then some (kL s) else none
def srt {α:Type} (lt:α->α->Bool) (xs:List α):List α:=xs.mergeSort fun a b=>!lt b a
def eQ:aJ:=[116,97,117]
def labLt (a b:aJ):Bool:=if a == b then false else if a == eQ then true else if b == eQ then false else ltB a b
def cK (a b:Edge):Bool:=decide (a.F < b.F)||(a.F == b.F&&(decide (a.B < b.B)||(a.B == b.B&&decide (a.To < b.To))))
def iW {α:Type} [DecidableEq α]:List α->List α
 |[]=>[]
 |[a]=>[a]
 |a::b::l=>if a=b then iW (b::l) else a::iW (b::l)
def aGr (xs:List Edge):Option (List Edge):=if xs.length < iE then some (srt cK xs) else none
def uQ:List Int->List Int->Int
 |[],[]=>0
 |[],_::_=>-1
 |_::_,[]=>1
 |a::l,b::m=>if a < b then -1 else if b < a then 1 else uQ l m
def jU (a b:List Int):Bool:=decide (uQ a b < 0)
def aMQ (xs:List (List Int)):Option (List (List Int)):=if xs.length < iE/\xs.Nodup/\(∀ x∈xs,x.length < iE) then some (srt jU xs) else none
def aDl (xs:List Int):Option (List Int):=if xs.length < iE then some (srt (fun a b=>decide (a < b)) xs) else none
def prLt (a b:Int × Int):Bool:=decide (a.1 < b.1)||(a.1 == b.1&&decide (a.2 < b.2))
def aLE (a b:Int):Option (Int × Int):=if 0<=a/\a < 18446744073709551616/\0<=b/\b < 18446744073709551616 then some (a * b / 18446744073709551616,a * b % 18446744073709551616) else none
def shU (x n:Int):Option Int:=if 0<=n then some (x.fdiv (2 ^ min n.toNat 64)) else none
def anU (x y:Int):Int:=oV (((BitVec.ofInt 64 x&&& BitVec.ofInt 64 y).toNat:Nat):Int)
end Gv
namespace Gv
end Gv
namespace Gv
end Gv
namespace Gv
def aOA {α:Type} (xs:List α) (i j:Int):Option (List α):=if 0<=i/\i<=j/\j<=xs.length then some (xs.take i.toNat++xs.drop j.toNat) else none
end Gv
namespace Gv
def aBP (xs:List (List Int)):Option (List (List Int)):=if xs.length < iE/\(∀ x∈xs,x.length < iE) then some (srt jU xs) else none
end Gv
