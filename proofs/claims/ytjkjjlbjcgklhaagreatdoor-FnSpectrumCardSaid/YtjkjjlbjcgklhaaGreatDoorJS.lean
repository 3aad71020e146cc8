/- The program's data as Lean structures. -/
import Derived.Test.YtjkjjlbjcgklhaaGreatDoorJM
set_option linter.all false
namespace Gv
structure Edge where
 F:Int
 B:Int
 To:Int
 deriving DecidableEq,Inhabited
structure aO where
 N:Int
 I:Int
 L:(List aL)
 E:(List Edge)
 deriving DecidableEq,Inhabited
structure nX where
 from_:Int
 label:aL
 to_:Int
 deriving DecidableEq,Inhabited
structure aP where
 a:Int
 b:Int
 trace:(List aL)
 deriving DecidableEq,Inhabited
end Gv
