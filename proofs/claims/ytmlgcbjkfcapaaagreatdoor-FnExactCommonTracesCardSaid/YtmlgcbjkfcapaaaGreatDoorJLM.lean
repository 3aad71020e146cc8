/- What functions of Go's library compute, as plain functions. -/
import Derived.Test.YtmlgcbjkfcapaaaGreatDoorJS
import Derived.Lib.IndexMore
import Derived.Lib.Join
import Derived.Lib.ItoaNum
import Derived.Lib.ParseIntB
import Derived.Lib.SlicesCompact
set_option linter.all false
namespace Gv
open Go
def cmpB (a b:bB):Int:=if a == b then 0 else if vU a b then -1 else 1
def aAX (sep:bB):Nat→bB→List bB
 |0,s=>[s]
 |n+1,s=>match Lib.cut s sep with
  |(a,b,true)=>a::aAX sep n b
  |(_,_,false)=>[s]
def l_Cut (s sep:bB):Option (bB × bB × Bool):=if s.length < 4294967281 then some (Lib.cut s sep) else none
def aEV (s sep:bB):Option (List bB):=if s.length < 4294967281∧sep≠[] then some (aAX sep s.length s) else none
def aJD (xs:List bB) (sep:bB):Option bB:=if xs.length < jK∧(Lib.join xs sep).length < jK then some (Lib.join xs sep) else none
def aIS (a b:bB):Option Int:=some (cmpB a b)
def xZ (n:Int):Option bB:=if -9223372036854775808≤n∧n≤9223372036854775807 then some (Lib.itoa n) else none
def bare (s:bB):bB:=match s with|45::s'=>s'|s=>s
def jS (s:bB):Int × Bool:=
 if (bare s).length > 18 then (0,false)
 else match Lib.parseIntB 64 s with
  |.ok v=>if Lib.itoa v=s then (v,true) else (0,false)
  |_=>(0,false)
def tV (s:bB):Option (Int × Bool):=if s.length < jK then some (jS s) else none
def srt {α:Type} (lt:α→α→Bool) (xs:List α):List α:=xs.mergeSort fun a b=>!lt b a
def cE:bB:=[116,97,117]
def rB (a b:bB):Bool:=if a == b then false else if a == cE then true else if b == cE then false else vU a b
def gI (a b:Edge):Bool:=decide (a.F < b.F)||(a.F == b.F&&(decide (a.B < b.B)||(a.B == b.B&&decide (a.To < b.To))))
def lJ {α:Type} [DecidableEq α]:List α→List α
 |[]=>[]
 |[a]=>[a]
 |a::b::l=>if a=b then lJ (b::l) else a::lJ (b::l)
def yA (xs:List bB):Option (List bB):=if xs.length < jK then some (srt rB xs) else none
def vI (xs:List Edge):Option (List Edge):=if xs.length < jK then some (srt gI xs) else none
def aFC:List Int→List Int→Int
 |[],[]=>0
 |[],_::_=>-1
 |_::_,[]=>1
 |a::l,b::m=>if a < b then -1 else if b < a then 1 else aFC l m
def vW (xs:List Int):Option (List Int):=if xs.length < jK then some (srt (fun a b=>decide (a < b)) xs) else none
def aAY (a b:Int × Int):Bool:=decide (a.1 < b.1)||(a.1 == b.1&&decide (a.2 < b.2))
def aAZ (xs:List (Int × Int)):Option (List (Int × Int)):=if xs.length < jK then some (srt aAY xs) else none
def aDP (xs:List bB) (n:Int):Option (List bB):=if xs=[]∧0≤n∧n < jK then some [] else none
end Gv
