/- Trees: what stands at a node, and the branches. No program in sight. -/
import Derived.Test.YtkcggmmjnpdgnaaGreatDoorJM
set_option linter.all false
namespace Gv
inductive Tr (N:Type) where
 |mk (n:N) (l:List (Tr N))
def Tr.val {N:Type}:Tr N->N
 |.mk n _=>n
def Tr.kids {N:Type}:Tr N->List (Tr N)
 |.mk _ l=>l
end Gv
namespace Gv
structure Edge where
 F:Int
 B:Int
 To:Int
 deriving DecidableEq,Inhabited
structure cB where
 N:Int
 I:Int
 L:(List aY)
 E:(List Edge)
 deriving DecidableEq,Inhabited
structure dD where
 Kind:Int
 Variable:Int
 B:aY
 Not:Bool
 deriving DecidableEq,Inhabited
end Gv
