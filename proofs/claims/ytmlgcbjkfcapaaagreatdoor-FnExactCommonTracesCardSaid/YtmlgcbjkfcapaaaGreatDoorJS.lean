/- The program's data as Lean structures. -/
import Derived.Test.YtmlgcbjkfcapaaaGreatDoorJM
set_option linter.all false
namespace Gv
structure Edge where
 F:Int
 B:Int
 To:Int
 deriving DecidableEq,Inhabited
structure cN where
 N:Int
 I:Int
 L:(List bB)
 E:(List Edge)
 deriving DecidableEq,Inhabited
structure iC where
 from_:Int
 label:bB
 to_:Int
 deriving DecidableEq,Inhabited
structure iL where
 from_:(Int × Int)
 label:bB
 to_:(Int × Int)
 deriving DecidableEq,Inhabited
end Gv
