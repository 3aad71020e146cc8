/- The program's data as Lean structures. -/
import Derived.Test.YtmlgcbjkfcapaaaGreatDoorKM
set_option linter.all false
namespace Gv
structure Edge where
 F:Int
 B:Int
 To:Int
 deriving DecidableEq,Inhabited
structure dB where
 N:Int
 I:Int
 L:(List aZ)
 E:(List Edge)
 deriving DecidableEq,Inhabited
structure cA where
 S:dB
 M:(List Int)
 C:(List aZ)
 deriving DecidableEq,Inhabited
structure L29Pairs where
 p:cA
 d:dB
 rows:(List (List Int))
 edges:(List Edge)
 full:Bool
 deriving DecidableEq,Inhabited
structure Arc where
 from_:Int
 label:aZ
 to_:Int
 deriving DecidableEq,Inhabited
structure Together where
 p:cA
 r:dB
 pairs:(List (List Int))
 number:(List ((Int × Int) × Int))
 paths:(List (List aZ))
 deriving DecidableEq,Inhabited
end Gv
