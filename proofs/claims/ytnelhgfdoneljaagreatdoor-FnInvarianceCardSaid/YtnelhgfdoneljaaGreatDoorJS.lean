/- The program's data as Lean structures. -/
import Derived.Test.YtnelhgfdoneljaaGreatDoorJM
set_option linter.all false
namespace Gv
structure bD where
 Kind:Int
 Variable:Int
 B:aQ
 Not:Bool
 deriving DecidableEq,Inhabited
structure Edge where
 F:Int
 B:Int
 To:Int
 deriving DecidableEq,Inhabited
structure bQ where
 N:Int
 I:Int
 L:(List aQ)
 E:(List Edge)
 deriving DecidableEq,Inhabited
structure bM where
 Owner:Int
 Priority:Int
 Next:(List Int)
 deriving DecidableEq,Inhabited
structure eO where
 g:(List bM)
 back:(List (List Int))
 in_:(List Bool)
 deriving DecidableEq,Inhabited
structure Arc where
 from_:Int
 label:aQ
 to_:Int
 deriving DecidableEq,Inhabited
end Gv
