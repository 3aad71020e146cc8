/- The row's way to its code: one closed fact. -/
import Derived.Test.YtigicpgpkmjdpaaGreatDoorRows
import GoSem.ClaimGoes
set_option linter.all false
namespace Go.Proofs.YtigicpgpkmjdpaaGreatDoor.fnCong
open Go
set_option maxRecDepth 100000
set_option maxHeartbeats 4000000
theorem goes:false=Rows.fnCongruenceRow.goesBy Tryz.pinned.checked.prog:=by kernel_rfl
end Go.Proofs.YtigicpgpkmjdpaaGreatDoor.fnCong
