/- What functions of Go's library compute, as plain functions. -/
import Derived.Test.YtfneiajlaacfoaaGreatDoorJS
import Derived.Lib.IndexMore
import Derived.Lib.Join
import Derived.Lib.ItoaNum
import Derived.Lib.ParseIntB
import Derived.Lib.SlicesCompact
set_option linter.all false
namespace Gv
open Go
def aBn (sep:aF):Nat->aF->List aF
 |0,s=>[s]
 |n+1,s=>match Lib.cut s sep with
  |(a,b,true)=>a::aBn sep n b
  |(_,_,false)=>[s]
def l_Cut (s sep:aF):Option (aF × aF × Bool):=if s.length < 4294967281 then some (Lib.cut s sep) else none
def aGJ (s sep:aF):Option (List aF):=if s.length < 4294967281/\sep≠[] then some (aBn sep s.length s) else none
def aLq (xs:List aF) (sep:aF):Option aF:=if xs.length < iC/\(Lib.join xs sep).length < iC then some (Lib.join xs sep) else none
def aDd (n:Int):Option aF:=if -9223372036854775808<=n/\n<=9223372036854775807 then some (Lib.itoa n) else none
def bare (s:aF):aF:=match s with|45::s'=>s'|s=>s
def iS (s:aF):Int × Bool:=
 if (bare s).length > 18 then (0,false)
 else match Lib.parseIntB 64 s with
  |.ok v=>if Lib.itoa v=s then (v,true) else (0,false)
  |_=>(0,false)
def uI (s:aF):Option (Int × Bool):=if s.length < iC then some (iS s) else none
def srt {α:Type} (lt:α->α->Bool) (xs:List α):List α:=xs.mergeSort fun a b=>!lt b a
def dR:aF:=[116,97,117]
def labLt (a b:aF):Bool:=if a == b then false else if a == dR then true else if b == dR then false else yD a b
def cU (a b:Edge):Bool:=decide (a.F < b.F)||(a.F == b.F&&(decide (a.B < b.B)||(a.B == b.B&&decide (a.To < b.To))))
def iQ {α:Type} [DecidableEq α]:List α->List α
 |[]=>[]
 |[a]=>[a]
 |a::b::l=>if a=b then iQ (b::l) else a::iQ (b::l)
def rV:List Int->List Int->Int
 |[],[]=>0
 |[],_::_=>-1
 |_::_,[]=>1
 |a::l,b::m=>if a < b then -1 else if b < a then 1 else rV l m
def iH (a b:List Int):Bool:=decide (rV a b < 0)
def aIW (xs:List (List Int)):Option (List (List Int)):=if xs.length < iC/\xs.Nodup/\(∀ x∈xs,x.length < iC) then some (srt iH xs) else none
def aDe (xs:List Int):Option (List Int):=if xs.length < iC then some (srt (fun a b=>decide (a < b)) xs) else none
def prLt (a b:Int × Int):Bool:=decide (a.1 < b.1)||(a.1 == b.1&&decide (a.2 < b.2))
def l_Mul (a b:Int):Option (Int × Int):=if 0<=a/\a < 18446744073709551616/\0<=b/\b < 18446744073709551616 then some (a * b / 18446744073709551616,a * b % 18446744073709551616) else none
def shU (x n:Int):Option Int:=if 0<=n then some (x.fdiv (2 ^ min n.toNat 64)) else none
def anU (x y:Int):Int:=rS (((BitVec.ofInt 64 x&&& BitVec.ofInt 64 y).toNat:Nat):Int)
end Gv
namespace Gv
end Gv
namespace Gv
end Gv
namespace Gv
end Gv
namespace Gv
def zJ (xs:List (List Int)):Option (List (List Int)):=if xs.length < iC/\(∀ x∈xs,x.length < iC) then some (srt iH xs) else none
end Gv
