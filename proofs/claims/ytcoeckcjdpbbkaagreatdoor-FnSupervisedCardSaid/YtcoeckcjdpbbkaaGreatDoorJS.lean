/- The program's data as Lean structures. -/
import Derived.Test.YtcoeckcjdpbbkaaGreatDoorJM
set_option linter.all false
namespace Gv
structure Edge where
 F:Int
 B:Int
 To:Int
 deriving DecidableEq,Inhabited
structure aP where
 N:Int
 I:Int
 L:(List aH)
 E:(List Edge)
 deriving DecidableEq,Inhabited
structure aO where
 S:aP
 M:(List Int)
 C:(List aH)
 deriving DecidableEq,Inhabited
structure L29Pairs where
 p:aO
 d:aP
 rows:(List (List Int))
 edges:(List Edge)
 full:Bool
 deriving DecidableEq,Inhabited
structure Arc where
 from_:Int
 label:aH
 to_:Int
 deriving DecidableEq,Inhabited
structure Together where
 p:aO
 r:aP
 pairs:(List (List Int))
 number:(List ((Int × Int) × Int))
 paths:(List (List aH))
 deriving DecidableEq,Inhabited
structure Triples where
 list:(List (Int × Int × Int))
 number:(List ((Int × Int × Int) × Int))
 back:(List (List Int))
 deriving DecidableEq,Inhabited
end Gv
