/- Trees: what stands at a node, and the branches. No program in sight. -/
import Derived.Test.YtlechllgdgniaaaGreatDoorJM
set_option linter.all false
namespace Gv
inductive Tr (N:Type) where
 |mk (n:N) (l:List (Tr N))
def Tr.val {N:Type}:Tr N->N
 |.mk n _=>n
def Tr.kids {N:Type}:Tr N->List (Tr N)
 |.mk _ l=>l
end Gv
namespace Gv
structure bP where
 Kind:Int
 Value:Int
 deriving DecidableEq,Inhabited
structure Part where
 Kind:Int
 Number:Int
 Name:bK
 Arguments:(List (List bP))
 deriving DecidableEq,Inhabited
structure Definition where
 Name:bK
 Parameters:Int
 Body:(List Part)
 deriving DecidableEq,Inhabited
structure bL where
 Definition:Int
 Values:(List Int)
 deriving DecidableEq,Inhabited
structure bV where
 Left:bK
 Right:bK
 Result:bK
 deriving DecidableEq,Inhabited
structure cP where
 Definitions:(List Definition)
 Components:(List bL)
 Meetings:(List bV)
 Allowed:(List bK)
 Hidden:(List bK)
 deriving DecidableEq,Inhabited
structure bS where
 Definition:Int
 Part:Int
 Values:(List Int)
 deriving DecidableEq,Inhabited
structure dM where
 B:bK
 Next:bS
 deriving DecidableEq,Inhabited
structure Edge where
 F:Int
 B:Int
 To:Int
 deriving DecidableEq,Inhabited
structure eP where
 N:Int
 I:Int
 L:(List bK)
 E:(List Edge)
 deriving DecidableEq,Inhabited
structure iY where
 Parts:(List eP)
 Meetings:(List bV)
 Allowed:(List bK)
 Hidden:(List bK)
 deriving DecidableEq,Inhabited
structure fD where
 scope:Int
 behind:Bool
 deriving DecidableEq,Inhabited
structure vQ where
 from_:Int
 label:bK
 to_:Int
 deriving DecidableEq,Inhabited
structure Stepper where
 list:(List Definition)
 out:(List dM)
 seen:(List (bK × Bool))
 deriving DecidableEq,Inhabited
end Gv
