/- The program's data as Lean structures. -/
import Derived.Test.YtlehiakgdejgkaaGreatDoorJM
set_option linter.all false
namespace Gv
structure Edge where
 F:Int
 B:Int
 To:Int
 deriving DecidableEq,Inhabited
structure aS where
 N:Int
 I:Int
 L:(List aJ)
 E:(List Edge)
 deriving DecidableEq,Inhabited
structure bZ where
 t:aS
 p:aS
 deriving DecidableEq,Inhabited
structure pV where
 leave:(List (List Bool))
 stay:(List (List Bool))
 deriving DecidableEq,Inhabited
structure bG where
 states:(List Int)
 y:Int
 deriving DecidableEq,Inhabited
structure fD where
 from_:Int
 label:aJ
 to_:Int
 deriving DecidableEq,Inhabited
structure aZ where
 S:aS
 Verdicts:(List Int)
 deriving DecidableEq,Inhabited
structure aN where
 a:Int
 b:Int
 trace:(List aJ)
 deriving DecidableEq,Inhabited
end Gv
