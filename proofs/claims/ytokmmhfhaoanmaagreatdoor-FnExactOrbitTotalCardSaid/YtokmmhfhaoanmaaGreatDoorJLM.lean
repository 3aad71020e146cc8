/- What functions of Go's library compute, as plain functions. -/
import Derived.Test.YtokmmhfhaoanmaaGreatDoorJS
import Derived.Lib.IndexMore
import Derived.Lib.Join
import Derived.Lib.ItoaNum
import Derived.Lib.ParseIntB
import Derived.Lib.SlicesCompact
set_option linter.all false
namespace Gv
open Go
def cmpB (a b:aH):Int:=if a == b then 0 else if mW a b then -1 else 1
def aDG (sep:aH):Nat->aH->List aH
 |0,s=>[s]
 |n+1,s=>match Lib.cut s sep with
  |(a,b,true)=>a::aDG sep n b
  |(_,_,false)=>[s]
def l_Cut (s sep:aH):Option (aH × aH × Bool):=if s.length < 4294967281 then some (Lib.cut s sep) else none
def aGF (s sep:aH):Option (List aH):=if s.length < 4294967281/\sep≠[] then some (aDG sep s.length s) else none
def aNb (xs:List aH) (sep:aH):Option aH:=if xs.length < fG/\(Lib.join xs sep).length < fG then some (Lib.join xs sep) else none
def aRa (a b:aH):Option Int:=some (cmpB a b)
def pN (n:Int):Option aH:=if -9223372036854775808<=n/\n<=9223372036854775807 then some (Lib.itoa n) else none
def bare (s:aH):aH:=match s with|45::s'=>s'|s=>s
def gL (s:aH):Int × Bool:=
 if (bare s).length > 18 then (0,false)
 else match Lib.parseIntB 64 s with
  |.ok v=>if Lib.itoa v=s then (v,true) else (0,false)
  |_=>(0,false)
def vG (s:aH):Option (Int × Bool):=if s.length < fG then some (gL s) else none
def srt {α:Type} (lt:α->α->Bool) (xs:List α):List α:=xs.mergeSort fun a b=>!lt b a
def bS:aH:=[116,97,117]
def aAK (a b:aH):Bool:=if a == b then false else if a == bS then true else if b == bS then false else mW a b
def cO (a b:Edge):Bool:=decide (a.F < b.F)||(a.F == b.F&&(decide (a.B < b.B)||(a.B == b.B&&decide (a.To < b.To))))
def gX {α:Type} [DecidableEq α]:List α->List α
 |[]=>[]
 |[a]=>[a]
 |a::b::l=>if a=b then gX (b::l) else a::gX (b::l)
def aFM (xs:List aH):Option (List aH):=if xs.length < fG then some (srt aAK xs) else none
def aDH (xs:List Edge):Option (List Edge):=if xs.length < fG then some (srt cO xs) else none
def nA:List Int->List Int->Int
 |[],[]=>0
 |[],_::_=>-1
 |_::_,[]=>1
 |a::l,b::m=>if a < b then -1 else if b < a then 1 else nA l m
def prLt (a b:Int × Int):Bool:=decide (a.1 < b.1)||(a.1 == b.1&&decide (a.2 < b.2))
end Gv
namespace Gv
end Gv
namespace Gv
def mnS (a b:aH):aH:=if (mW a b||a == b)=true then a else b
def mxS (a b:aH):aH:=if (!mW a b)=true then a else b
end Gv
namespace Gv
end Gv
namespace Gv
end Gv
namespace Gv
def jC (a b:GPoint):Int:=if a.Definition < b.Definition then -1 else if b.Definition < a.Definition then 1 else if a.Part < b.Part then -1 else if b.Part < a.Part then 1 else nA a.Values b.Values
def sK (a b:GPoint):Bool:=decide (jC a b < 0)
def aJw (xs:List GPoint):Option (List GPoint):=if xs.length < fG/\(∀ x∈xs,x.Values.length < fG) then some (srt sK xs) else none
def iR:List GPoint->List GPoint->Int
 |[],[]=>0
 |[],_::_=>-1
 |_::_,[]=>1
 |a::l,b::m=>if jC a b≠0 then jC a b else iR l m
def vH (a b:List GPoint):Bool:=decide (iR a b < 0)
def aJx (xs:List (List GPoint)):Option (List (List GPoint)):=if xs.length < fG/\(∀ x∈xs,x.length < fG/\∀ p∈x,p.Values.length < fG) then some (srt vH xs) else none
end Gv
