/- What functions of Go's library compute, as plain functions. -/
import Derived.Test.YtfhgggimcgajdaaGreatDoorJS
import Derived.Lib.IndexMore
import Derived.Lib.Join
import Derived.Lib.ItoaNum
import Derived.Lib.ParseIntB
import Derived.Lib.SlicesCompact
set_option linter.all false
namespace Gv
open Go
def aDF (sep:bJ):Nat->bJ->List bJ
 |0,s=>[s]
 |n+1,s=>match Lib.cut s sep with
  |(a,b,true)=>a::aDF sep n b
  |(_,_,false)=>[s]
def l_Cut (s sep:bJ):Option (bJ × bJ × Bool):=if s.length < 4294967281 then some (Lib.cut s sep) else none
def aIS (s sep:bJ):Option (List bJ):=if s.length < 4294967281/\sep≠[] then some (aDF sep s.length s) else none
def aJS (xs:List bJ) (sep:bJ):Option bJ:=if xs.length < jN/\(Lib.join xs sep).length < jN then some (Lib.join xs sep) else none
def mO (n:Int):Option bJ:=if -9223372036854775808<=n/\n<=9223372036854775807 then some (Lib.itoa n) else none
def bare (s:bJ):bJ:=match s with|45::s'=>s'|s=>s
def jM (s:bJ):Int × Bool:=
 if (bare s).length > 18 then (0,false)
 else match Lib.parseIntB 64 s with
  |.ok v=>if Lib.itoa v=s then (v,true) else (0,false)
  |_=>(0,false)
def vS (s:bJ):Option (Int × Bool):=if s.length < jN then some (jM s) else none
def iT:bJ:=[116,97,117]
def labLt (a b:bJ):Bool:=if a == b then false else if a == iT then true else if b == iT then false else qF a b
theorem xoE (x y:Int):∃ z:Int,z=wr (((BitVec.ofInt 64 x ^^^ BitVec.ofInt 64 y).toNat:Nat):Int):=⟨_,rfl⟩
noncomputable def xoI (x y:Int):Int:=Classical.choose (xoE x y)
theorem xoI_eq (x y:Int):xoI x y=wr (((BitVec.ofInt 64 x ^^^ BitVec.ofInt 64 y).toNat:Nat):Int):=Classical.choose_spec (xoE x y)
theorem anE (x y:Int):∃ z:Int,z=wr (((BitVec.ofInt 64 x&&& BitVec.ofInt 64 y).toNat:Nat):Int):=⟨_,rfl⟩
noncomputable def anI (x y:Int):Int:=Classical.choose (anE x y)
theorem anI_eq (x y:Int):anI x y=wr (((BitVec.ofInt 64 x&&& BitVec.ofInt 64 y).toNat:Nat):Int):=Classical.choose_spec (anE x y)
def shI (x n:Int):Option Int:=if 0<=n then some (wr (x * 2 ^ min n.toNat 64)) else none
end Gv
namespace Gv
end Gv
namespace Gv
def mnS (a b:bJ):bJ:=if (qF a b||a == b)=true then a else b
def mxS (a b:bJ):bJ:=if (!qF a b)=true then a else b
end Gv
