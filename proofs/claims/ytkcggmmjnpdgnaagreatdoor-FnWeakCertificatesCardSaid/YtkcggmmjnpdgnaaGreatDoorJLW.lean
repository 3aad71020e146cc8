/- Contracts of functions of Go's library, said of heaps of pieces. -/
import Derived.Test.YtkcggmmjnpdgnaaGreatDoorJWk0
import Derived.Test.YtkcggmmjnpdgnaaGreatDoorJP11
set_option linter.all false
namespace Gv
open Go Go.Proofs Go.RowKit Go.Sort
section
variable {G:uK} {K:Hp} {L:List gQ} {w:World}
end
end Gv
