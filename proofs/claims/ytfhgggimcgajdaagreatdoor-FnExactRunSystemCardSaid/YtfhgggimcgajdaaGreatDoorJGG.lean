/- The row's way to its code: one closed fact. -/
import Derived.Test.YtfhgggimcgajdaaGreatDoorRows
import GoSem.ClaimGoes
set_option linter.all false
namespace Go.Proofs.YtfhgggimcgajdaaGreatDoor.fnRun
open Go
set_option maxRecDepth 100000
set_option maxHeartbeats 4000000
theorem goes:false=Rows.fnExactRunSystemRow.goesBy Tryz.pinned.checked.prog:=by kernel_rfl
end Go.Proofs.YtfhgggimcgajdaaGreatDoor.fnRun
