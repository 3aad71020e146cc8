/- The row's way to its code: one closed fact. -/
import Derived.Test.YtiipffjapfalhaaGreatDoorRows
import GoSem.ClaimGoes
set_option linter.all false
namespace Go.Proofs.YtiipffjapfalhaaGreatDoor.fnSym
open Go
set_option maxRecDepth 100000
set_option maxHeartbeats 4000000
theorem goes:false=Rows.fnExactSymmetryPartitionRow.goesBy Tryz.pinned.checked.prog:=by kernel_rfl
end Go.Proofs.YtiipffjapfalhaaGreatDoor.fnSym
