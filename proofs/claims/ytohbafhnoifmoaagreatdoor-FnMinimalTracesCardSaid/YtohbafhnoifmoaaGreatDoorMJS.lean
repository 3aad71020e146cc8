/- The program's data as Lean structures. -/
import Derived.Test.YtohbafhnoifmoaaGreatDoorMJM
set_option linter.all false
namespace Gv
structure Edge where
 F:Int
 B:Int
 To:Int
 deriving DecidableEq,Inhabited
structure cO where
 N:Int
 I:Int
 L:(List bD)
 E:(List Edge)
 deriving DecidableEq,Inhabited
structure gV where
 from_:Int
 label:bD
 to_:Int
 deriving DecidableEq,Inhabited
structure bT where
 a:Int
 b:Int
 trace:(List bD)
 deriving DecidableEq,Inhabited
end Gv
