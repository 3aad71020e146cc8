/- Trees: what stands at a node, and the branches. No program in sight. -/
import Derived.Test.YtoddhhghiolggaaGreatDoorJM
set_option linter.all false
namespace Gv
inductive Tr (N:Type) where
 |mk (n:N) (l:List (Tr N))
def Tr.val {N:Type}:Tr N->N
 |.mk n _=>n
def Tr.kids {N:Type}:Tr N->List (Tr N)
 |.mk _ l=>l
end Gv
namespace Gv
structure Edge where
 F:Int
 B:Int
 To:Int
 deriving DecidableEq,Inhabited
structure hJ where
 N:Int
 I:Int
 L:(List aN)
 E:(List Edge)
 deriving DecidableEq,Inhabited
structure bH where
 Kind:Int
 Variable:Int
 B:aN
 Not:Bool
 deriving DecidableEq,Inhabited
structure aR where
 Kind:Int
 Value:Int
 deriving DecidableEq,Inhabited
structure bG where
 Kind:Int
 Number:Int
 Name:aN
 Arguments:(List (List aR))
 deriving DecidableEq,Inhabited
structure Definition where
 Name:aN
 Parameters:Int
 Body:(List bG)
 deriving DecidableEq,Inhabited
structure aX where
 Definition:Int
 Values:(List Int)
 deriving DecidableEq,Inhabited
structure bB where
 Left:aN
 Right:aN
 Result:aN
 deriving DecidableEq,Inhabited
structure bL where
 Definitions:(List Definition)
 Components:(List aX)
 Meetings:(List bB)
 Allowed:(List aN)
 Hidden:(List aN)
 deriving DecidableEq,Inhabited
structure Kept where
 Name:aN
 Kind:Int
 S:hJ
 Formula:(List bH)
 Source:bL
 deriving DecidableEq,Inhabited
structure vI where
 Kept:(List Kept)
 deriving DecidableEq,Inhabited
structure dF where
 scope:Int
 behind:Bool
 deriving DecidableEq,Inhabited
def aHP:List aN:=[[43],[45],[42],[61],[35],[60],[60,61],[38],[124]]
def aKe:List Int:=[4,4,5,3,3,3,3,2,1]
end Gv
