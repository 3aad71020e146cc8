/- The program's data as Lean structures. -/
import Derived.Test.YtnpdckpkipjngaaGreatDoorRM
set_option linter.all false
namespace Gv
structure Edge where
 From : Int
 Label : Int
 To : Int
 deriving DecidableEq, Inhabited
structure dC where
 States : Int
 Initial : Int
 Labels : (List bF)
 Edges : (List Edge)
 deriving DecidableEq, Inhabited
structure dS where
 System : dC
 Verdicts : (List Int)
 deriving DecidableEq, Inhabited
structure lL where
 from_ : Int
 label : bF
 to_ : Int
 deriving DecidableEq, Inhabited
structure cO where
 t : dC
 p : dC
 deriving DecidableEq, Inhabited
structure mR where
 leave : (List (List Bool))
 stay : (List (List Bool))
 deriving DecidableEq, Inhabited
structure cB where
 states : (List Int)
 y : Int
 deriving DecidableEq, Inhabited
end Gv
