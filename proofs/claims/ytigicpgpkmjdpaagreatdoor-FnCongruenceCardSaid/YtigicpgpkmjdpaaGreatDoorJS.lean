/- The program's data as Lean structures. -/
import Derived.Test.YtigicpgpkmjdpaaGreatDoorJM
set_option linter.all false
namespace Gv
structure Edge where
 F:Int
 B:Int
 To:Int
 deriving DecidableEq,Inhabited
structure bB where
 N:Int
 I:Int
 L:(List aI)
 E:(List Edge)
 deriving DecidableEq,Inhabited
structure cF where
 Left:aI
 Right:aI
 Result:aI
 deriving DecidableEq,Inhabited
structure aX where
 Parts:(List bB)
 Meetings:(List cF)
 Allowed:(List aI)
 Hidden:(List aI)
 deriving DecidableEq,Inhabited
structure fX where
 from_:Int
 label:aI
 to_:Int
 deriving DecidableEq,Inhabited
structure GTerm where
 Kind:Int
 Value:Int
 deriving DecidableEq,Inhabited
structure Part where
 Kind:Int
 Number:Int
 Name:aI
 Arguments:(List (List GTerm))
 deriving DecidableEq,Inhabited
structure Definition where
 Name:aI
 Parameters:Int
 Body:(List Part)
 deriving DecidableEq,Inhabited
structure aIY where
 Definition:Int
 Values:(List Int)
 deriving DecidableEq,Inhabited
structure aMX where
 Definitions:(List Definition)
 Components:(List aIY)
 Meetings:(List cF)
 Allowed:(List aI)
 Hidden:(List aI)
 deriving DecidableEq,Inhabited
end Gv
