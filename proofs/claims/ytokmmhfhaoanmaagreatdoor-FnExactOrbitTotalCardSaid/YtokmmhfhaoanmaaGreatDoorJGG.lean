/- The row's way to its code: one closed fact. -/
import Derived.Test.YtokmmhfhaoanmaaGreatDoorRows
import GoSem.ClaimGoes
set_option linter.all false
namespace Go.Proofs.YtokmmhfhaoanmaaGreatDoor.fnTot
open Go
set_option maxRecDepth 100000
set_option maxHeartbeats 4000000
theorem goes:false=Rows.fnExactOrbitTotalRow.goesBy Tryz.pinned.checked.prog:=by kernel_rfl
end Go.Proofs.YtokmmhfhaoanmaaGreatDoor.fnTot
