/- What functions of Go's library compute, as plain functions. -/
import Derived.Test.YtgpmcacjpjongaaGreatDoorJS
import Derived.Lib.IndexMore
import Derived.Lib.Join
import Derived.Lib.ItoaNum
import Derived.Lib.ParseIntB
import Derived.Lib.SlicesCompact
set_option linter.all false
namespace Gv
open Go
def cmpB (a b:aF):Int:=if a == b then 0 else if vJ a b then -1 else 1
def aCz (sep:aF):Nat->aF->List aF
 |0,s=>[s]
 |n+1,s=>match Lib.cut s sep with
  |(a,b,true)=>a::aCz sep n b
  |(_,_,false)=>[s]
def l_Cut (s sep:aF):Option (aF × aF × Bool):=if s.length < 4294967281 then some (Lib.cut s sep) else none
def aHG (s sep:aF):Option (List aF):=if s.length < 4294967281/\sep≠[] then some (aCz sep s.length s) else none
def aMu (xs:List aF) (sep:aF):Option aF:=if xs.length < kJ/\(Lib.join xs sep).length < kJ then some (Lib.join xs sep) else none
def aLD (a b:aF):Option Int:=some (cmpB a b)
def aEf (n:Int):Option aF:=if -9223372036854775808<=n/\n<=9223372036854775807 then some (Lib.itoa n) else none
def bare (s:aF):aF:=match s with|45::s'=>s'|s=>s
def jR (s:aF):Int × Bool:=
 if (bare s).length > 18 then (0,false)
 else match Lib.parseIntB 64 s with
  |.ok v=>if Lib.itoa v=s then (v,true) else (0,false)
  |_=>(0,false)
def vV (s:aF):Option (Int × Bool):=if s.length < kJ then some (jR s) else none
def vE {α:Type} (lt:α->α->Bool) (xs:List α):List α:=xs.mergeSort fun a b=>!lt b a
def bU:aF:=[116,97,117]
def sG (a b:aF):Bool:=if a == b then false else if a == bU then true else if b == bU then false else vJ a b
def cA (a b:Edge):Bool:=decide (a.F < b.F)||(a.F == b.F&&(decide (a.B < b.B)||(a.B == b.B&&decide (a.To < b.To))))
def jC {α:Type} [DecidableEq α]:List α->List α
 |[]=>[]
 |[a]=>[a]
 |a::b::l=>if a=b then jC (b::l) else a::jC (b::l)
def uI (xs:List aF):Option (List aF):=if xs.length < kJ then some (vE sG xs) else none
def xA (xs:List Edge):Option (List Edge):=if xs.length < kJ then some (vE cA xs) else none
def xS (xs:List Int):Option (List Int):=if xs.length < kJ then some (vE (fun a b=>decide (a < b)) xs) else none
def prLt (a b:Int × Int):Bool:=decide (a.1 < b.1)||(a.1 == b.1&&decide (a.2 < b.2))
def aGt (xs:List aF) (n:Int):Option (List aF):=if xs=[]/\0<=n/\n < kJ then some [] else none
def shU (x n:Int):Option Int:=if 0<=n then some (x.fdiv (2 ^ min n.toNat 64)) else none
def anU (x y:Int):Int:=qC (((BitVec.ofInt 64 x&&& BitVec.ofInt 64 y).toNat:Nat):Int)
end Gv
