/- What functions of Go's library compute, as plain functions. -/
import Derived.Test.YtmlgcbjkfcapaaaGreatDoorKS
import Derived.Lib.IndexMore
import Derived.Lib.Join
import Derived.Lib.ItoaNum
import Derived.Lib.ParseIntB
import Derived.Lib.SlicesCompact
set_option linter.all false
namespace Gv
open Go
def cmpB (a b:aZ):Int:=if a == b then 0 else if wQ a b then -1 else 1
def aBT (sep:aZ):Nat→aZ→List aZ
 |0,s=>[s]
 |n+1,s=>match Lib.cut s sep with
  |(a,b,true)=>a::aBT sep n b
  |(_,_,false)=>[s]
def l_Cut (s sep:aZ):Option (aZ × aZ × Bool):=if s.length < 4294967281 then some (Lib.cut s sep) else none
def aGd (s sep:aZ):Option (List aZ):=if s.length < 4294967281∧sep≠[] then some (aBT sep s.length s) else none
def aKN (xs:List aZ) (sep:aZ):Option aZ:=if xs.length < kT∧(Lib.join xs sep).length < kT then some (Lib.join xs sep) else none
def aKi (a b:aZ):Option Int:=some (cmpB a b)
def aDb (n:Int):Option aZ:=if -9223372036854775808≤n∧n≤9223372036854775807 then some (Lib.itoa n) else none
def bare (s:aZ):aZ:=match s with|45::s'=>s'|s=>s
def kX (s:aZ):Int × Bool:=
 if (bare s).length > 18 then (0,false)
 else match Lib.parseIntB 64 s with
  |.ok v=>if Lib.itoa v=s then (v,true) else (0,false)
  |_=>(0,false)
def vW (s:aZ):Option (Int × Bool):=if s.length < kT then some (kX s) else none
def srt {α:Type} (lt:α→α→Bool) (xs:List α):List α:=xs.mergeSort fun a b=>!lt b a
def iH:aZ:=[116,97,117]
def yC (a b:aZ):Bool:=if a == b then false else if a == iH then true else if b == iH then false else wQ a b
def dX (a b:Edge):Bool:=decide (a.F < b.F)||(a.F == b.F&&(decide (a.B < b.B)||(a.B == b.B&&decide (a.To < b.To))))
def qA {α:Type} [DecidableEq α]:List α→List α
 |[]=>[]
 |[a]=>[a]
 |a::b::l=>if a=b then qA (b::l) else a::qA (b::l)
def aDc (xs:List aZ):Option (List aZ):=if xs.length < kT then some (srt yC xs) else none
def wZ (xs:List Edge):Option (List Edge):=if xs.length < kT then some (srt dX xs) else none
def mZ:List Int→List Int→Int
 |[],[]=>0
 |[],_::_=>-1
 |_::_,[]=>1
 |a::l,b::m=>if a < b then -1 else if b < a then 1 else mZ l m
def qB (a b:List Int):Bool:=decide (mZ a b < 0)
def aBU (xs:List (List Int)):Option (List (List Int)):=if xs.length < kT∧xs.Nodup∧(∀ x∈xs,x.length < kT) then some (srt qB xs) else none
def aDd (xs:List Int):Option (List Int):=if xs.length < kT then some (srt (fun a b=>decide (a < b)) xs) else none
def aHm (a b:Int):Option (Int × Int):=if 0≤a∧a < 18446744073709551616∧0≤b∧b < 18446744073709551616 then some (a * b / 18446744073709551616,a * b % 18446744073709551616) else none
end Gv
