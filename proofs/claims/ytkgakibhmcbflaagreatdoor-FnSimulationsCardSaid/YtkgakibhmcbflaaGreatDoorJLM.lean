/- What functions of Go's library compute, as plain functions. -/
import Derived.Test.YtkgakibhmcbflaaGreatDoorJS
import Derived.Lib.IndexMore
import Derived.Lib.Join
import Derived.Lib.ItoaNum
import Derived.Lib.ParseIntB
import Derived.Lib.SlicesCompact
set_option linter.all false
namespace Gv
open Go
def cmpB (a b:bI):Int:=if a == b then 0 else if zW a b then -1 else 1
def aBg (sep:bI):Nat→bI→List bI
 |0,s=>[s]
 |n+1,s=>match Lib.cut s sep with
  |(a,b,true)=>a::aBg sep n b
  |(_,_,false)=>[s]
def l_Cut (s sep:bI):Option (bI × bI × Bool):=if s.length < 4294967281 then some (Lib.cut s sep) else none
def aEY (s sep:bI):Option (List bI):=if s.length < 4294967281∧sep≠[] then some (aBg sep s.length s) else none
def aJy (xs:List bI) (sep:bI):Option bI:=if xs.length < iX∧(Lib.join xs sep).length < iX then some (Lib.join xs sep) else none
def aIJ (a b:bI):Option Int:=some (cmpB a b)
def aCa (n:Int):Option bI:=if -9223372036854775808≤n∧n≤9223372036854775807 then some (Lib.itoa n) else none
def bare (s:bI):bI:=match s with|45::s'=>s'|s=>s
def jW (s:bI):Int × Bool:=
 if (bare s).length > 18 then (0,false)
 else match Lib.parseIntB 64 s with
  |.ok v=>if Lib.itoa v=s then (v,true) else (0,false)
  |_=>(0,false)
def uP (s:bI):Option (Int × Bool):=if s.length < iX then some (jW s) else none
def rO {α:Type} (lt:α→α→Bool) (xs:List α):List α:=xs.mergeSort fun a b=>!lt b a
def dH:bI:=[116,97,117]
def kR (a b:bI):Bool:=if a == b then false else if a == dH then true else if b == dH then false else zW a b
def cW (a b:Edge):Bool:=decide (a.F < b.F)||(a.F == b.F&&(decide (a.B < b.B)||(a.B == b.B&&decide (a.To < b.To))))
def iQ {α:Type} [DecidableEq α]:List α→List α
 |[]=>[]
 |[a]=>[a]
 |a::b::l=>if a=b then iQ (b::l) else a::iQ (b::l)
def yJ (xs:List bI):Option (List bI):=if xs.length < iX then some (rO kR xs) else none
def aBh (xs:List Edge):Option (List Edge):=if xs.length < iX then some (rO cW xs) else none
def mE:List Int→List Int→Int
 |[],[]=>0
 |[],_::_=>-1
 |_::_,[]=>1
 |a::l,b::m=>if a < b then -1 else if b < a then 1 else mE l m
def lH (a b:List Int):Bool:=decide (mE a b < 0)
def vX (xs:List (List Int)):Option (List (List Int)):=if xs.length < iX∧xs.Nodup∧(∀ x∈xs,x.length < iX) then some (rO lH xs) else none
def yK (xs:List Int):Option (List Int):=if xs.length < iX then some (rO (fun a b=>decide (a < b)) xs) else none
def prLt (a b:Int × Int):Bool:=decide (a.1 < b.1)||(a.1 == b.1&&decide (a.2 < b.2))
def aDA (xs:List bI) (n:Int):Option (List bI):=if xs=[]∧0≤n∧n < iX then some [] else none
def tkN (g:Nat) (j:Int):Option Nat:=if g≤j.toNat then some (j.toNat+1) else none
def mapp {κ β:Type} (f:κ→β) (l:List κ):Option (List β):=if l.length < iX then some (l.map f) else none
def shU (x n:Int):Option Int:=if 0≤n then some (x.fdiv (2 ^ min n.toNat 64)) else none
def anU (x y:Int):Int:=qC (((BitVec.ofInt 64 x&&& BitVec.ofInt 64 y).toNat:Nat):Int)
end Gv
