/- Trees: what stands at a node, and the branches. No program in sight. -/
import Derived.Test.YtokmmhfhaoanmaaGreatDoorJM
set_option linter.all false
namespace Gv
inductive Tr (N:Type) where
 |mk (n:N) (l:List (Tr N))
def Tr.val {N:Type}:Tr N->N
 |.mk n _=>n
def Tr.kids {N:Type}:Tr N->List (Tr N)
 |.mk _ l=>l
end Gv
namespace Gv
structure aP where
 Kind:Int
 Value:Int
 deriving DecidableEq,Inhabited
structure Part where
 Kind:Int
 Number:Int
 Name:aH
 Arguments:(List (List aP))
 deriving DecidableEq,Inhabited
structure Definition where
 Name:aH
 Parameters:Int
 Body:(List Part)
 deriving DecidableEq,Inhabited
structure aZ where
 Definition:Int
 Values:(List Int)
 deriving DecidableEq,Inhabited
structure aT where
 Left:aH
 Right:aH
 Result:aH
 deriving DecidableEq,Inhabited
structure aR where
 Definitions:(List Definition)
 Components:(List aZ)
 Meetings:(List aT)
 Allowed:(List aH)
 Hidden:(List aH)
 deriving DecidableEq,Inhabited
structure GPoint where
 Definition:Int
 Part:Int
 Values:(List Int)
 deriving DecidableEq,Inhabited
structure bF where
 B:aH
 Next:GPoint
 deriving DecidableEq,Inhabited
structure aN where
 B:aH
 First:Int
 Second:Int
 State:(List GPoint)
 deriving DecidableEq,Inhabited
structure Edge where
 F:Int
 B:Int
 To:Int
 deriving DecidableEq,Inhabited
structure iQ where
 N:Int
 I:Int
 L:(List aH)
 E:(List Edge)
 deriving DecidableEq,Inhabited
structure dJ where
 scope:Int
 behind:Bool
 deriving DecidableEq,Inhabited
structure lN where
 from_:Int
 label:aH
 to_:Int
 deriving DecidableEq,Inhabited
structure Stepper where
 list:(List Definition)
 out:(List bF)
 seen:(List (aH × Bool))
 deriving DecidableEq,Inhabited
structure Mover where
 s:aR
 state:(List GPoint)
 out:(List aN)
 seen:(List (aH × Bool))
 deriving DecidableEq,Inhabited
end Gv
