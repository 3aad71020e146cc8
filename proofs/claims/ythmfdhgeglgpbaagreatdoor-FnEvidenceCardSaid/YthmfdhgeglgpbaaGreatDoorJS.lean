/- The program's data as Lean structures. -/
import Derived.Test.YthmfdhgeglgpbaaGreatDoorJM
set_option linter.all false
namespace Gv
structure Edge where
 F:Int
 B:Int
 To:Int
 deriving DecidableEq,Inhabited
structure cN where
 N:Int
 I:Int
 L:(List aJ)
 E:(List Edge)
 deriving DecidableEq,Inhabited
structure aT where
 Kind:Int
 Variable:Int
 B:aJ
 Not:Bool
 deriving DecidableEq,Inhabited
structure aO where
 Owner:Int
 Priority:Int
 Next:(List Int)
 deriving DecidableEq,Inhabited
structure bB where
 Greatest:Bool
 All:Bool
 Terms:(List Int)
 deriving DecidableEq,Inhabited
structure fS where
 g:(List aO)
 back:(List (List Int))
 in_:(List Bool)
 deriving DecidableEq,Inhabited
structure gY where
 f:(List aT)
 t:cN
 equations:(List bB)
 list:(List (List Int))
 game:(List aO)
 start:Int
 deriving DecidableEq,Inhabited
structure aFF where
 Verdict:Bool
 Rows:(List (List Int))
 deriving DecidableEq,Inhabited
structure aMR where
 e:(List bB)
 places:(List Int)
 g:(List aO)
 start:Int
 deriving DecidableEq,Inhabited
end Gv
