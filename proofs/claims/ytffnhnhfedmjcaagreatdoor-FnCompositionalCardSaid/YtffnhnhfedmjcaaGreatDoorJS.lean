/- The program's data as Lean structures. -/
import Derived.Test.YtffnhnhfedmjcaaGreatDoorJM
set_option linter.all false
namespace Gv
structure Edge where
 F:Int
 B:Int
 To:Int
 deriving DecidableEq,Inhabited
structure bA where
 N:Int
 I:Int
 L:(List aH)
 E:(List Edge)
 deriving DecidableEq,Inhabited
structure bK where
 Left:aH
 Right:aH
 Result:aH
 deriving DecidableEq,Inhabited
structure aO where
 Parts:(List bA)
 Meetings:(List bK)
 Allowed:(List aH)
 Hidden:(List aH)
 deriving DecidableEq,Inhabited
structure cO where
 from_:Int
 label:aH
 to_:Int
 deriving DecidableEq,Inhabited
structure GTerm where
 Kind:Int
 Value:Int
 deriving DecidableEq,Inhabited
structure Part where
 Kind:Int
 Number:Int
 Name:aH
 Arguments:(List (List GTerm))
 deriving DecidableEq,Inhabited
structure Definition where
 Name:aH
 Parameters:Int
 Body:(List Part)
 deriving DecidableEq,Inhabited
structure aJH where
 Definition:Int
 Values:(List Int)
 deriving DecidableEq,Inhabited
structure aNY where
 Definitions:(List Definition)
 Components:(List aJH)
 Meetings:(List bK)
 Allowed:(List aH)
 Hidden:(List aH)
 deriving DecidableEq,Inhabited
end Gv
