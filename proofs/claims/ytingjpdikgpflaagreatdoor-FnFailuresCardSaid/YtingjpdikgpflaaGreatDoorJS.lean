/- The program's data as Lean structures. -/
import Derived.Test.YtingjpdikgpflaaGreatDoorJM
set_option linter.all false
namespace Gv
structure Edge where
 F:Int
 B:Int
 To:Int
 deriving DecidableEq,Inhabited
structure cI where
 N:Int
 I:Int
 L:(List aZ)
 E:(List Edge)
 deriving DecidableEq,Inhabited
structure oT where
 from_:Int
 label:aZ
 to_:Int
 deriving DecidableEq,Inhabited
structure bR where
 a:Int
 b:Int
 trace:(List aZ)
 deriving DecidableEq,Inhabited
end Gv
