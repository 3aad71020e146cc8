/- The row's way to its code: one closed fact. -/
import Derived.Test.YthbfapccpmppoaaGreatDoorRows
import GoSem.ClaimGoes
set_option linter.all false
namespace Go.Proofs.YthbfapccpmppoaaGreatDoor.fnKpT
open Go
set_option maxRecDepth 100000
set_option maxHeartbeats 4000000
theorem goes:false=Rows.fnExactKeptTextRow.goesBy Tryz.pinned.checked.prog:=by kernel_rfl
end Go.Proofs.YthbfapccpmppoaaGreatDoor.fnKpT
