/- Trees: what stands at a node, and the branches. No program in sight. -/
import Derived.Test.YtfhgggimcgajdaaGreatDoorJM
set_option linter.all false
namespace Gv
inductive Tr (N:Type) where
 |mk (n:N) (l:List (Tr N))
def Tr.val {N:Type}:Tr N->N
 |.mk n _=>n
def Tr.kids {N:Type}:Tr N->List (Tr N)
 |.mk _ l=>l
end Gv
namespace Gv
structure bS where
 Kind:Int
 Value:Int
 deriving DecidableEq,Inhabited
structure Part where
 Kind:Int
 Number:Int
 Name:bJ
 Arguments:(List (List bS))
 deriving DecidableEq,Inhabited
structure Definition where
 Name:bJ
 Parameters:Int
 Body:(List Part)
 deriving DecidableEq,Inhabited
structure bT where
 Definition:Int
 Values:(List Int)
 deriving DecidableEq,Inhabited
structure bU where
 Left:bJ
 Right:bJ
 Result:bJ
 deriving DecidableEq,Inhabited
structure bZ where
 Definitions:(List Definition)
 Components:(List bT)
 Meetings:(List bU)
 Allowed:(List bJ)
 Hidden:(List bJ)
 deriving DecidableEq,Inhabited
structure aZ where
 Definition:Int
 Part:Int
 Values:(List Int)
 deriving DecidableEq,Inhabited
structure cM where
 B:bJ
 Next:aZ
 deriving DecidableEq,Inhabited
structure bV where
 B:bJ
 First:Int
 Second:Int
 State:(List aZ)
 deriving DecidableEq,Inhabited
structure dI where
 Choice:Int
 First:Int
 Second:Int
 B:bJ
 deriving DecidableEq,Inhabited
structure eX where
 scope:Int
 behind:Bool
 deriving DecidableEq,Inhabited
structure rZ where
 policy:Int
 seed:Int
 deriving DecidableEq,Inhabited
structure Stepper where
 list:(List Definition)
 out:(List cM)
 seen:(List (bJ × Bool))
 deriving DecidableEq,Inhabited
structure Mover where
 s:bZ
 state:(List aZ)
 out:(List bV)
 seen:(List (bJ × Bool))
 deriving DecidableEq,Inhabited
end Gv
