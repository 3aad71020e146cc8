/- The row's way to its code: one closed fact. -/
import Derived.Test.YtohbafhnoifmoaaGreatDoorRows
import GoSem.ClaimGoes
import Derived.KernelRfl
set_option linter.all false
namespace Go.Proofs.YtohbafhnoifmoaaGreatDoor.fnMinT
open Go
set_option maxRecDepth 100000
set_option maxHeartbeats 4000000
theorem goes:false=Rows.fnMinimalTracesRow.goesBy Tryz.pinned.checked.prog:=by kernel_rfl
end Go.Proofs.YtohbafhnoifmoaaGreatDoor.fnMinT
