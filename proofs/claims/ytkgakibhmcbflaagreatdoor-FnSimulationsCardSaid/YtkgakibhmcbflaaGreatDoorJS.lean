/- The program's data as Lean structures. -/
import Derived.Test.YtkgakibhmcbflaaGreatDoorJM
set_option linter.all false
namespace Gv
structure Edge where
 F:Int
 B:Int
 To:Int
 deriving DecidableEq,Inhabited
structure cD where
 N:Int
 I:Int
 L:(List bI)
 E:(List Edge)
 deriving DecidableEq,Inhabited
structure Arc where
 from_:Int
 label:bI
 to_:Int
 deriving DecidableEq,Inhabited
end Gv
