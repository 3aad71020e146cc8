/- The program's data as Lean structures. -/
import Derived.Test.YtfneiajlaacfoaaGreatDoorJM
set_option linter.all false
namespace Gv
structure Edge where
 F:Int
 B:Int
 To:Int
 deriving DecidableEq,Inhabited
structure cR where
 N:Int
 I:Int
 L:(List aF)
 E:(List Edge)
 deriving DecidableEq,Inhabited
structure aO where
 Kind:Int
 Variable:Int
 B:aF
 Not:Bool
 deriving DecidableEq,Inhabited
structure aV where
 Owner:Int
 Priority:Int
 Next:(List Int)
 deriving DecidableEq,Inhabited
structure aS where
 Greatest:Bool
 All:Bool
 Terms:(List Int)
 deriving DecidableEq,Inhabited
structure eS where
 g:(List aV)
 back:(List (List Int))
 in_:(List Bool)
 deriving DecidableEq,Inhabited
end Gv
