/- What functions of Go's library compute, as plain functions. -/
import Derived.Test.YtingjpdikgpflaaGreatDoorJS
import Derived.Lib.IndexMore
import Derived.Lib.Join
import Derived.Lib.ItoaNum
import Derived.Lib.ParseIntB
import Derived.Lib.SlicesCompact
set_option linter.all false
namespace Gv
open Go
def cmpB (a b:aZ):Int:=if a == b then 0 else if qJ a b then -1 else 1
def aAT (sep:aZ):Nat->aZ->List aZ
 |0,s=>[s]
 |n+1,s=>match Lib.cut s sep with
  |(a,b,true)=>a::aAT sep n b
  |(_,_,false)=>[s]
def l_Cut (s sep:aZ):Option (aZ × aZ × Bool):=if s.length < 4294967281 then some (Lib.cut s sep) else none
def aIb (s sep:aZ):Option (List aZ):=if s.length < 4294967281/\sep≠[] then some (aAT sep s.length s) else none
def aNU (xs:List aZ) (sep:aZ):Option aZ:=if xs.length < lim/\(Lib.join xs sep).length < lim then some (Lib.join xs sep) else none
def aHN (a b:aZ):Option Int:=some (cmpB a b)
def aFl (n:Int):Option aZ:=if -9223372036854775808<=n/\n<=9223372036854775807 then some (Lib.itoa n) else none
def bare (s:aZ):aZ:=match s with|45::s'=>s'|s=>s
def aIU (s:aZ):Int × Bool:=
 if (bare s).length > 18 then (0,false)
 else match Lib.parseIntB 64 s with
  |.ok v=>if Lib.itoa v=s then (v,true) else (0,false)
  |_=>(0,false)
def aAi (s:aZ):Option (Int × Bool):=if s.length < lim then some (aIU s) else none
def srt {α:Type} (lt:α->α->Bool) (xs:List α):List α:=xs.mergeSort fun a b=>!lt b a
def nI:aZ:=[116,97,117]
def uZ (a b:aZ):Bool:=if a == b then false else if a == nI then true else if b == nI then false else qJ a b
def lE (a b:Edge):Bool:=decide (a.F < b.F)||(a.F == b.F&&(decide (a.B < b.B)||(a.B == b.B&&decide (a.To < b.To))))
def aHy {α:Type} [DecidableEq α]:List α->List α
 |[]=>[]
 |[a]=>[a]
 |a::b::l=>if a=b then aHy (b::l) else a::aHy (b::l)
def aCP (xs:List aZ):Option (List aZ):=if xs.length < lim then some (srt uZ xs) else none
def aDT (xs:List Edge):Option (List Edge):=if xs.length < lim then some (srt lE xs) else none
def aCQ (xs:List Int):Option (List Int):=if xs.length < lim then some (srt (fun a b=>decide (a < b)) xs) else none
def prLt (a b:Int × Int):Bool:=decide (a.1 < b.1)||(a.1 == b.1&&decide (a.2 < b.2))
def aFm (xs:List aZ) (n:Int):Option (List aZ):=if xs=[]/\0<=n/\n < lim then some [] else none
def shU (x n:Int):Option Int:=if 0<=n then some (x.fdiv (2 ^ min n.toNat 64)) else none
def anU (x y:Int):Int:=nD (((BitVec.ofInt 64 x&&& BitVec.ofInt 64 y).toNat:Nat):Int)
end Gv
namespace Gv
def jP:List aZ->List aZ->Int
 |[],[]=>0
 |[],_::_=>-1
 |_::_,[]=>1
 |a::l,b::m=>if qJ a b=true then -1 else if qJ b a=true then 1 else jP l m
def iU (a b:List aZ):Bool:=decide (jP a b < 0)
def aBS (xs:List (List aZ)):Option (List (List aZ)):=if xs.length < lim/\(∀ x∈xs,x.length < lim) then some (srt iU xs) else none
end Gv
