/- The row's way to its code: one closed fact. -/
import Derived.Test.YtlechllgdgniaaaGreatDoorRows
import GoSem.ClaimGoes
set_option linter.all false
namespace Go.Proofs.YtlechllgdgniaaaGreatDoor.fnNet
open Go
set_option maxRecDepth 100000
set_option maxHeartbeats 4000000
theorem goes:false=Rows.fnExactNetworkOfRow.goesBy Tryz.pinned.checked.prog:=by kernel_rfl
end Go.Proofs.YtlechllgdgniaaaGreatDoor.fnNet
