/- What functions of Go's library compute, as plain functions. -/
import Derived.Test.YtnpdckpkipjngaaGreatDoorKS
import Derived.Lib.IndexMore
import Derived.Lib.Join
import Derived.Lib.ItoaNum
import Derived.Lib.ParseIntB
import Derived.Lib.SlicesCompact
set_option linter.all false
namespace Gv
open Go
def cmpB (a b:aZ):Int:=if a == b then 0 else if qW a b then -1 else 1
def aBt (sep:aZ):Nat→aZ→List aZ
 |0,s=>[s]
 |n+1,s=>match Lib.cut s sep with
  |(a,b,true)=>a::aBt sep n b
  |(_,_,false)=>[s]
def l_Cut (s sep:aZ):Option (aZ × aZ × Bool):=if s.length < 4294967281 then some (Lib.cut s sep) else none
def aGJ (s sep:aZ):Option (List aZ):=if s.length < 4294967281∧sep≠[] then some (aBt sep s.length s) else none
def aLG (xs:List aZ) (sep:aZ):Option aZ:=if xs.length < jJ∧(Lib.join xs sep).length < jJ then some (Lib.join xs sep) else none
def aLd (a b:aZ):Option Int:=some (cmpB a b)
def vR (n:Int):Option aZ:=if -9223372036854775808≤n∧n≤9223372036854775807 then some (Lib.itoa n) else none
def bare (s:aZ):aZ:=match s with|45::s'=>s'|s=>s
def iW (s:aZ):Int × Bool:=
 if (bare s).length > 18 then (0,false)
 else match Lib.parseIntB 64 s with
  |.ok v=>if Lib.itoa v=s then (v,true) else (0,false)
  |_=>(0,false)
def uB (s:aZ):Option (Int × Bool):=if s.length < jJ then some (iW s) else none
def srt {α:Type} (lt:α→α→Bool) (xs:List α):List α:=xs.mergeSort fun a b=>!lt b a
def dY:aZ:=[116,97,117]
def uC (a b:aZ):Bool:=if a == b then false else if a == dY then true else if b == dY then false else qW a b
def dP (a b:Edge):Bool:=decide (a.F < b.F)||(a.F == b.F&&(decide (a.B < b.B)||(a.B == b.B&&decide (a.To < b.To))))
def nT {α:Type} [DecidableEq α]:List α→List α
 |[]=>[]
 |[a]=>[a]
 |a::b::l=>if a=b then nT (b::l) else a::nT (b::l)
def aCQ (xs:List aZ):Option (List aZ):=if xs.length < jJ then some (srt uC xs) else none
def aBu (xs:List Edge):Option (List Edge):=if xs.length < jJ then some (srt dP xs) else none
def kU:List Int→List Int→Int
 |[],[]=>0
 |[],_::_=>-1
 |_::_,[]=>1
 |a::l,b::m=>if a < b then -1 else if b < a then 1 else kU l m
def nU (a b:List Int):Bool:=decide (kU a b < 0)
def aBv (xs:List (List Int)):Option (List (List Int)):=if xs.length < jJ∧xs.Nodup∧(∀ x∈xs,x.length < jJ) then some (srt nU xs) else none
def aBi (xs:List Int):Option (List Int):=if xs.length < jJ then some (srt (fun a b=>decide (a < b)) xs) else none
def l_Mul (a b:Int):Option (Int × Int):=if 0≤a∧a < 18446744073709551616∧0≤b∧b < 18446744073709551616 then some (a * b / 18446744073709551616,a * b % 18446744073709551616) else none
end Gv
