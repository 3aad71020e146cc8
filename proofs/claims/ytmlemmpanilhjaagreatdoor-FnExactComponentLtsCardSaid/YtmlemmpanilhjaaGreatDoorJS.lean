/- Trees: what stands at a node, and the branches. No program in sight. -/
import Derived.Test.YtmlemmpanilhjaaGreatDoorJM
set_option linter.all false
namespace Gv
inductive Tr (N:Type) where
 |mk (n:N) (l:List (Tr N))
def Tr.val {N:Type}:Tr N->N
 |.mk n _=>n
def Tr.kids {N:Type}:Tr N->List (Tr N)
 |.mk _ l=>l
end Gv
namespace Gv
structure bS where
 Kind:Int
 Value:Int
 deriving DecidableEq,Inhabited
structure Part where
 Kind:Int
 Number:Int
 Name:bL
 Arguments:(List (List bS))
 deriving DecidableEq,Inhabited
structure Definition where
 Name:bL
 Parameters:Int
 Body:(List Part)
 deriving DecidableEq,Inhabited
structure bU where
 Definition:Int
 Values:(List Int)
 deriving DecidableEq,Inhabited
structure cB where
 Left:bL
 Right:bL
 Result:bL
 deriving DecidableEq,Inhabited
structure cW where
 Definitions:(List Definition)
 Components:(List bU)
 Meetings:(List cB)
 Allowed:(List bL)
 Hidden:(List bL)
 deriving DecidableEq,Inhabited
structure bO where
 Definition:Int
 Part:Int
 Values:(List Int)
 deriving DecidableEq,Inhabited
structure dK where
 B:bL
 Next:bO
 deriving DecidableEq,Inhabited
structure Edge where
 F:Int
 B:Int
 To:Int
 deriving DecidableEq,Inhabited
structure iW where
 N:Int
 I:Int
 L:(List bL)
 E:(List Edge)
 deriving DecidableEq,Inhabited
structure eZ where
 scope:Int
 behind:Bool
 deriving DecidableEq,Inhabited
structure uT where
 from_:Int
 label:bL
 to_:Int
 deriving DecidableEq,Inhabited
structure Stepper where
 list:(List Definition)
 out:(List dK)
 seen:(List (bL × Bool))
 deriving DecidableEq,Inhabited
end Gv
