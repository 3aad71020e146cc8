/- Loops over maps that a function made. No program in sight. -/
import Derived.Test.YthbfapccpmppoaaGreatDoorJX
import Derived.Laws.IdiomRangeMap
set_option linter.all false
namespace Gv
open Vl (vl)
open Go
section
variable {κ ν:Type} [DecidableEq κ] [Vl κ] [Vl ν]
structure IterIs (es:Array MapEntry) (c since c0:Nat) (sb:Array Nat) (kv:List (κ × ν)) (rem:List κ) (cur:Option (κ × ν)):Prop where
 map:aOs es c kv
 old:∀ e∈es.toList,e.born < since
 le:since<=c0
 clk:since<=c
 left:∃ l:List κ,l.Perm rem/\(es.filter fun e=>!sb.contains e.born).toList.map (·.key)=l.map vl
 cur:∀ k v,cur=some (k,v)->c0=c/\∃ e∈es.toList,e.key=vl k/\e.val=vl v/\sb.back?=some e.born
variable {P:Program} {n:Nat} {ops:Array Oper} {rest:List Oper} {Q:lI} {f:Nat->Value} {w:World}
variable {d:Nat} {x y z:Operand} {ty:TypeId} {pos:String} {af:Array Edge}
variable {G:kH} {K:Hp} {L:List eW}
omit [Vl κ] [Vl ν] in
omit [Vl κ] [Vl ν] in
omit [Vl κ] [Vl ν] in
omit [Vl κ] [Vl ν] in
omit [Vl κ] [Vl ν] in
omit [Vl κ] [Vl ν] in
omit [Vl κ] [Vl ν] in
omit [Vl κ] [Vl ν] in
omit [Vl κ] [Vl ν] in
omit [Vl κ] [Vl ν] in
omit [Vl κ] [Vl ν] [DecidableEq κ] in
omit [Vl κ] [Vl ν] in
omit [Vl κ] [Vl ν] [DecidableEq κ] in
omit [Vl κ] [Vl ν] [DecidableEq κ] in
omit [Vl κ] [Vl ν] in
end
section
variable {P:Program} {f:Nat->Value} {w:World} {d:Nat} {x y:Operand} {ty:TypeId} {pos:String} {af:Array Go.Edge} {Ts:Array TypeId}
end
end Gv
