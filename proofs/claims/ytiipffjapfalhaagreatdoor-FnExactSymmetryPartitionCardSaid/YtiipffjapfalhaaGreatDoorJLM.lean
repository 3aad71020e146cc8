/- What functions of Go's library compute, as plain functions. -/
import Derived.Test.YtiipffjapfalhaaGreatDoorJS
import Derived.Lib.IndexMore
import Derived.Lib.Join
import Derived.Lib.ItoaNum
import Derived.Lib.ParseIntB
import Derived.Lib.SlicesCompact
set_option linter.all false
namespace Gv
open Go
def cmpB (a b:aO):Int:=if a == b then 0 else if nR a b then -1 else 1
def aEq (sep:aO):Nat->aO->List aO
 |0,s=>[s]
 |n+1,s=>match Lib.cut s sep with
  |(a,b,true)=>a::aEq sep n b
  |(_,_,false)=>[s]
def l_Cut (s sep:aO):Option (aO × aO × Bool):=if s.length < 4294967281 then some (Lib.cut s sep) else none
def aHd (s sep:aO):Option (List aO):=if s.length < 4294967281/\sep≠[] then some (aEq sep s.length s) else none
def aNE (xs:List aO) (sep:aO):Option aO:=if xs.length < gN/\(Lib.join xs sep).length < gN then some (Lib.join xs sep) else none
def aRU (a b:aO):Option Int:=some (cmpB a b)
def pV (n:Int):Option aO:=if -9223372036854775808<=n/\n<=9223372036854775807 then some (Lib.itoa n) else none
def bare (s:aO):aO:=match s with|45::s'=>s'|s=>s
def gW (s:aO):Int × Bool:=
 if (bare s).length > 18 then (0,false)
 else match Lib.parseIntB 64 s with
  |.ok v=>if Lib.itoa v=s then (v,true) else (0,false)
  |_=>(0,false)
def wA (s:aO):Option (Int × Bool):=if s.length < gN then some (gW s) else none
def srt {α:Type} (lt:α->α->Bool) (xs:List α):List α:=xs.mergeSort fun a b=>!lt b a
def cF:aO:=[116,97,117]
def aBg (a b:aO):Bool:=if a == b then false else if a == cF then true else if b == cF then false else nR a b
def dC (a b:Edge):Bool:=decide (a.F < b.F)||(a.F == b.F&&(decide (a.B < b.B)||(a.B == b.B&&decide (a.To < b.To))))
def kD {α:Type} [DecidableEq α]:List α->List α
 |[]=>[]
 |[a]=>[a]
 |a::b::l=>if a=b then kD (b::l) else a::kD (b::l)
def aGk (xs:List aO):Option (List aO):=if xs.length < gN then some (srt aBg xs) else none
def aEr (xs:List Edge):Option (List Edge):=if xs.length < gN then some (srt dC xs) else none
def sA:List Int->List Int->Int
 |[],[]=>0
 |[],_::_=>-1
 |_::_,[]=>1
 |a::l,b::m=>if a < b then -1 else if b < a then 1 else sA l m
def prLt (a b:Int × Int):Bool:=decide (a.1 < b.1)||(a.1 == b.1&&decide (a.2 < b.2))
end Gv
namespace Gv
end Gv
namespace Gv
def mnS (a b:aO):aO:=if (nR a b||a == b)=true then a else b
def mxS (a b:aO):aO:=if (!nR a b)=true then a else b
end Gv
namespace Gv
end Gv
namespace Gv
end Gv
namespace Gv
def aCi (a b:GPoint):Int:=if a.Definition < b.Definition then -1 else if b.Definition < a.Definition then 1 else if a.Part < b.Part then -1 else if b.Part < a.Part then 1 else sA a.Values b.Values
def tA (a b:GPoint):Bool:=decide (aCi a b < 0)
def aJZ (xs:List GPoint):Option (List GPoint):=if xs.length < gN/\(∀ x∈xs,x.Values.length < gN) then some (srt tA xs) else none
end Gv
