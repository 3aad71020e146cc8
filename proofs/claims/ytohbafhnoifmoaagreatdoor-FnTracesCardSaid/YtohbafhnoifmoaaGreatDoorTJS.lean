/- The program's data as Lean structures. -/
import Derived.Test.YtohbafhnoifmoaaGreatDoorTJM
set_option linter.all false
namespace Gv
structure Edge where
 F:Int
 B:Int
 To:Int
 deriving DecidableEq,Inhabited
structure cG where
 N:Int
 I:Int
 L:(List aU)
 E:(List Edge)
 deriving DecidableEq,Inhabited
structure oO where
 from_:Int
 label:aU
 to_:Int
 deriving DecidableEq,Inhabited
structure aY where
 a:Int
 b:Int
 trace:(List aU)
 deriving DecidableEq,Inhabited
end Gv
