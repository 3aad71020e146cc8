/- Trees: what stands at a node, and the branches. No program in sight. -/
import Derived.Test.YtiipffjapfalhaaGreatDoorJM
set_option linter.all false
namespace Gv
inductive Tr (N:Type) where
 |mk (n:N) (l:List (Tr N))
def Tr.val {N:Type}:Tr N->N
 |.mk n _=>n
def Tr.kids {N:Type}:Tr N->List (Tr N)
 |.mk _ l=>l
end Gv
namespace Gv
structure aW where
 Kind:Int
 Value:Int
 deriving DecidableEq,Inhabited
structure Part where
 Kind:Int
 Number:Int
 Name:aO
 Arguments:(List (List aW))
 deriving DecidableEq,Inhabited
structure Definition where
 Name:aO
 Parameters:Int
 Body:(List Part)
 deriving DecidableEq,Inhabited
structure aY where
 Definition:Int
 Values:(List Int)
 deriving DecidableEq,Inhabited
structure bB where
 Left:aO
 Right:aO
 Result:aO
 deriving DecidableEq,Inhabited
structure bE where
 Definitions:(List Definition)
 Components:(List aY)
 Meetings:(List bB)
 Allowed:(List aO)
 Hidden:(List aO)
 deriving DecidableEq,Inhabited
structure GPoint where
 Definition:Int
 Part:Int
 Values:(List Int)
 deriving DecidableEq,Inhabited
structure bR where
 B:aO
 Next:GPoint
 deriving DecidableEq,Inhabited
structure bC where
 B:aO
 First:Int
 Second:Int
 State:(List GPoint)
 deriving DecidableEq,Inhabited
structure Edge where
 F:Int
 B:Int
 To:Int
 deriving DecidableEq,Inhabited
structure iZ where
 N:Int
 I:Int
 L:(List aO)
 E:(List Edge)
 deriving DecidableEq,Inhabited
structure dV where
 scope:Int
 behind:Bool
 deriving DecidableEq,Inhabited
structure lS where
 from_:Int
 label:aO
 to_:Int
 deriving DecidableEq,Inhabited
structure Stepper where
 list:(List Definition)
 out:(List bR)
 seen:(List (aO × Bool))
 deriving DecidableEq,Inhabited
structure Mover where
 s:bE
 state:(List GPoint)
 out:(List bC)
 seen:(List (aO × Bool))
 deriving DecidableEq,Inhabited
end Gv
