/- The program's data as Lean structures. -/
import Derived.Test.YtmlgcbjkfcapaaaGreatDoorFJM
set_option linter.all false
namespace Gv
structure Edge where
 F:Int
 B:Int
 To:Int
 deriving DecidableEq,Inhabited
structure cH where
 N:Int
 I:Int
 L:(List bH)
 E:(List Edge)
 deriving DecidableEq,Inhabited
structure L17Table where
 a:cH
 b:cH
 kind:Int
 rows:(List (List Bool))
 deriving DecidableEq,Inhabited
end Gv
