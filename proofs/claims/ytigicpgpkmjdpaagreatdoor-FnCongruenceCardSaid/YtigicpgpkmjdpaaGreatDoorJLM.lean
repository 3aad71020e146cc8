/- What functions of Go's library compute, as plain functions. -/
import Derived.Test.YtigicpgpkmjdpaaGreatDoorJS
import Derived.Lib.IndexMore
import Derived.Lib.Join
import Derived.Lib.ItoaNum
import Derived.Lib.ParseIntB
import Derived.Lib.SlicesCompact
set_option linter.all false
namespace Gv
open Go
def cmpB (a b:aI):Int:=if a == b then 0 else if vJ a b then -1 else 1
def aDi (sep:aI):Nat->aI->List aI
 |0,s=>[s]
 |n+1,s=>match Lib.cut s sep with
  |(a,b,true)=>a::aDi sep n b
  |(_,_,false)=>[s]
def aMd (s sep:aI):Option (aI × aI × Bool):=if s.length < 4294967281 then some (Lib.cut s sep) else none
def aFf (s sep:aI):Option (List aI):=if s.length < 4294967281/\sep≠[] then some (aDi sep s.length s) else none
def aMU (xs:List aI) (sep:aI):Option aI:=if xs.length < jA/\(Lib.join xs sep).length < jA then some (Lib.join xs sep) else none
def aMe (a b:aI):Option Int:=some (cmpB a b)
def aEC (n:Int):Option aI:=if -9223372036854775808<=n/\n<=9223372036854775807 then some (Lib.itoa n) else none
def bare (s:aI):aI:=match s with|45::s'=>s'|s=>s
def gH (s:aI):Int × Bool:=
 if (bare s).length > 18 then (0,false)
 else match Lib.parseIntB 64 s with
  |.ok v=>if Lib.itoa v=s then (v,true) else (0,false)
  |_=>(0,false)
def xU (s:aI):Option (Int × Bool):=if s.length < jA then some (gH s) else none
def qD {α:Type} (lt:α->α->Bool) (xs:List α):List α:=xs.mergeSort fun a b=>!lt b a
def bF:aI:=[116,97,117]
def aAc (a b:aI):Bool:=if a == b then false else if a == bF then true else if b == bF then false else vJ a b
def bM (a b:Edge):Bool:=decide (a.F < b.F)||(a.F == b.F&&(decide (a.B < b.B)||(a.B == b.B&&decide (a.To < b.To))))
def eC {α:Type} [DecidableEq α]:List α->List α
 |[]=>[]
 |[a]=>[a]
 |a::b::l=>if a=b then eC (b::l) else a::eC (b::l)
def aBh (xs:List aI):Option (List aI):=if xs.length < jA then some (qD aAc xs) else none
def mE (xs:List Edge):Option (List Edge):=if xs.length < jA then some (qD bM xs) else none
def vO:List Int->List Int->Int
 |[],[]=>0
 |[],_::_=>-1
 |_::_,[]=>1
 |a::l,b::m=>if a < b then -1 else if b < a then 1 else vO l m
def aDj (a b:List Int):Bool:=decide (vO a b < 0)
def aBi (xs:List Int):Option (List Int):=if xs.length < jA then some (qD (fun a b=>decide (a < b)) xs) else none
def prLt (a b:Int × Int):Bool:=decide (a.1 < b.1)||(a.1 == b.1&&decide (a.2 < b.2))
def aGP (xs:List aI) (n:Int):Option (List aI):=if xs=[]/\0<=n/\n < jA then some [] else none
def aJx (a b:Int):Option (Int × Int):=if 0<=a/\a < 18446744073709551616/\0<=b/\b < 18446744073709551616 then some (a * b / 18446744073709551616,a * b % 18446744073709551616) else none
def shU (x n:Int):Option Int:=if 0<=n then some (x.fdiv (2 ^ min n.toNat 64)) else none
def anU (x y:Int):Int:=lC (((BitVec.ofInt 64 x&&& BitVec.ofInt 64 y).toNat:Nat):Int)
end Gv
namespace Gv
end Gv
namespace Gv
def mnS (a b:aI):aI:=if (vJ a b||a == b)=true then a else b
def mxS (a b:aI):aI:=if (!vJ a b)=true then a else b
def aKG (rows:List (List Int)) (x y:Int):Bool:=aDj (rows.getD x.toNat []) (rows.getD y.toNat [])
def aCV (xs:List Int) (rows:List (List Int)):Option (List Int):=if xs.length < jA/\0 < rows.length/\rows.Nodup/\(∀ r∈rows,r.length < jA)/\(∀ x∈xs,0<=x/\x < rows.length) then some (qD (aKG rows) xs) else none
end Gv
