/- The program's data as Lean structures. -/
import Derived.Test.YtnpdckpkipjngaaGreatDoorKM
set_option linter.all false
namespace Gv
structure Edge where
 F:Int
 B:Int
 To:Int
 deriving DecidableEq,Inhabited
structure cH where
 N:Int
 I:Int
 L:(List aZ)
 E:(List Edge)
 deriving DecidableEq,Inhabited
structure eZ where
 S:cH
 Verdicts:(List Int)
 deriving DecidableEq,Inhabited
structure lS where
 from_:Int
 label:aZ
 to_:Int
 deriving DecidableEq,Inhabited
structure eL where
 t:cH
 p:cH
 deriving DecidableEq,Inhabited
structure yM where
 leave:(List (List Bool))
 stay:(List (List Bool))
 deriving DecidableEq,Inhabited
structure dM where
 states:(List Int)
 y:Int
 deriving DecidableEq,Inhabited
structure cI where
 S:cH
 M:(List Int)
 C:(List aZ)
 deriving DecidableEq,Inhabited
structure L29Pairs where
 p:cI
 d:cH
 rows:(List (List Int))
 edges:(List Edge)
 full:Bool
 deriving DecidableEq,Inhabited
structure Together where
 p:cI
 r:cH
 pairs:(List (List Int))
 number:(List ((Int × Int) × Int))
 paths:(List (List aZ))
 deriving DecidableEq,Inhabited
end Gv
