/- Trees: what stands at a node, and the branches. No program in sight. -/
import Derived.Test.YthbfapccpmppoaaGreatDoorJM
set_option linter.all false
namespace Gv
inductive Tr (N:Type) where
 |mk (n:N) (l:List (Tr N))
def Tr.val {N:Type}:Tr N->N
 |.mk n _=>n
def Tr.kids {N:Type}:Tr N->List (Tr N)
 |.mk _ l=>l
end Gv
namespace Gv
structure Edge where
 F:Int
 B:Int
 To:Int
 deriving DecidableEq,Inhabited
structure gM where
 N:Int
 I:Int
 L:(List aL)
 E:(List Edge)
 deriving DecidableEq,Inhabited
structure bI where
 Kind:Int
 Variable:Int
 B:aL
 Not:Bool
 deriving DecidableEq,Inhabited
structure aR where
 Kind:Int
 Value:Int
 deriving DecidableEq,Inhabited
structure bG where
 Kind:Int
 Number:Int
 Name:aL
 Arguments:(List (List aR))
 deriving DecidableEq,Inhabited
structure Definition where
 Name:aL
 Parameters:Int
 Body:(List bG)
 deriving DecidableEq,Inhabited
structure aY where
 Definition:Int
 Values:(List Int)
 deriving DecidableEq,Inhabited
structure bB where
 Left:aL
 Right:aL
 Result:aL
 deriving DecidableEq,Inhabited
structure bM where
 Definitions:(List Definition)
 Components:(List aY)
 Meetings:(List bB)
 Allowed:(List aL)
 Hidden:(List aL)
 deriving DecidableEq,Inhabited
structure pL where
 Name:aL
 Kind:Int
 S:gM
 Formula:(List bI)
 Source:bM
 deriving DecidableEq,Inhabited
structure dH where
 scope:Int
 behind:Bool
 deriving DecidableEq,Inhabited
def aIi:List aL:=[[43],[45],[42],[61],[35],[60],[60,61],[38],[124]]
def aKq:List Int:=[4,4,5,3,3,3,3,2,1]
end Gv
