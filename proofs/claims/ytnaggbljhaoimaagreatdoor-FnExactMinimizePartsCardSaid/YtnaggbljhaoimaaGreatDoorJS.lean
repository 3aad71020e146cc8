/- The program's data as Lean structures. -/
import Derived.Test.YtnaggbljhaoimaaGreatDoorJM
set_option linter.all false
namespace Gv
structure Edge where
 F:Int
 B:Int
 To:Int
 deriving DecidableEq,Inhabited
structure aW where
 N:Int
 I:Int
 L:(List aV)
 E:(List Edge)
 deriving DecidableEq,Inhabited
structure aT where
 Left:aV
 Right:aV
 Result:aV
 deriving DecidableEq,Inhabited
structure bB where
 Parts:(List aW)
 Meetings:(List aT)
 Allowed:(List aV)
 Hidden:(List aV)
 deriving DecidableEq,Inhabited
end Gv
