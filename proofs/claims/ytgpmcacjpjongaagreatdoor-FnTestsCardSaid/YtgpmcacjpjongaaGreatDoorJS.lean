/- The program's data as Lean structures. -/
import Derived.Test.YtgpmcacjpjongaaGreatDoorJM
set_option linter.all false
namespace Gv
structure Edge where
 F:Int
 B:Int
 To:Int
 deriving DecidableEq,Inhabited
structure bF where
 N:Int
 I:Int
 L:(List aF)
 E:(List Edge)
 deriving DecidableEq,Inhabited
structure mN where
 from_:Int
 label:aF
 to_:Int
 deriving DecidableEq,Inhabited
structure aS where
 a:Int
 b:Int
 trace:(List aF)
 deriving DecidableEq,Inhabited
end Gv
