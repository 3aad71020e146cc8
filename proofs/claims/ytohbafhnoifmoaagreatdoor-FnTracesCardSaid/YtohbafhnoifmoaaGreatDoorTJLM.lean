/- What functions of Go's library compute, as plain functions. -/
import Derived.Test.YtohbafhnoifmoaaGreatDoorTJS
import Derived.Lib.IndexMore
import Derived.Lib.Join
import Derived.Lib.ItoaNum
import Derived.Lib.ParseIntB
import Derived.Lib.SlicesCompact
set_option linter.all false
namespace Gv
open Go
def cmpB (a b:aU):Int:=if a == b then 0 else if wU a b then -1 else 1
def aCg (sep:aU):Nat→aU→List aU
 |0,s=>[s]
 |n+1,s=>match Lib.cut s sep with
  |(a,b,true)=>a::aCg sep n b
  |(_,_,false)=>[s]
def l_Cut (s sep:aU):Option (aU × aU × Bool):=if s.length < 4294967281 then some (Lib.cut s sep) else none
def aGf (s sep:aU):Option (List aU):=if s.length < 4294967281∧sep≠[] then some (aCg sep s.length s) else none
def aKN (xs:List aU) (sep:aU):Option aU:=if xs.length < iU∧(Lib.join xs sep).length < iU then some (Lib.join xs sep) else none
def aKe (a b:aU):Option Int:=some (cmpB a b)
def aDo (n:Int):Option aU:=if -9223372036854775808≤n∧n≤9223372036854775807 then some (Lib.itoa n) else none
def bare (s:aU):aU:=match s with|45::s'=>s'|s=>s
def jF (s:aU):Int × Bool:=
 if (bare s).length > 18 then (0,false)
 else match Lib.parseIntB 64 s with
  |.ok v=>if Lib.itoa v=s then (v,true) else (0,false)
  |_=>(0,false)
def uZ (s:aU):Option (Int × Bool):=if s.length < iU then some (jF s) else none
def zQ {α:Type} (lt:α→α→Bool) (xs:List α):List α:=xs.mergeSort fun a b=>!lt b a
def cW:aU:=[116,97,117]
def uT (a b:aU):Bool:=if a == b then false else if a == cW then true else if b == cW then false else wU a b
def cS (a b:Edge):Bool:=decide (a.F < b.F)||(a.F == b.F&&(decide (a.B < b.B)||(a.B == b.B&&decide (a.To < b.To))))
def iS {α:Type} [DecidableEq α]:List α→List α
 |[]=>[]
 |[a]=>[a]
 |a::b::l=>if a=b then iS (b::l) else a::iS (b::l)
def aAa (xs:List aU):Option (List aU):=if xs.length < iU then some (zQ uT xs) else none
def wK (xs:List Edge):Option (List Edge):=if xs.length < iU then some (zQ cS xs) else none
def wW (xs:List Int):Option (List Int):=if xs.length < iU then some (zQ (fun a b=>decide (a < b)) xs) else none
def prLt (a b:Int × Int):Bool:=decide (a.1 < b.1)||(a.1 == b.1&&decide (a.2 < b.2))
def aFb (xs:List aU) (n:Int):Option (List aU):=if xs=[]∧0≤n∧n < iU then some [] else none
def shU (x n:Int):Option Int:=if 0≤n then some (x.fdiv (2 ^ min n.toNat 64)) else none
def anU (x y:Int):Int:=pR (((BitVec.ofInt 64 x&&& BitVec.ofInt 64 y).toNat:Nat):Int)
end Gv
