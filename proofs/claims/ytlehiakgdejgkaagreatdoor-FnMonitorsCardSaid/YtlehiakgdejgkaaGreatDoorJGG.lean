/- The row's way to its code: one closed fact. -/
import Derived.Test.YtlehiakgdejgkaaGreatDoorRows
import GoSem.ClaimGoes
import Derived.KernelRfl
set_option linter.all false
namespace Go.Proofs.YtlehiakgdejgkaaGreatDoor.fnMon
open Go
set_option maxRecDepth 100000
set_option maxHeartbeats 4000000
theorem goes:false=Rows.fnMonitorsRow.goesBy Tryz.pinned.checked.prog:=by kernel_rfl
end Go.Proofs.YtlehiakgdejgkaaGreatDoor.fnMon
