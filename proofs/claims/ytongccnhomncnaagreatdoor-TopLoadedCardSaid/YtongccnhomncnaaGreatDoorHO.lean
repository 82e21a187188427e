/- Walks and plain laws that lead to the given statement, part 15 of 20. -/
import Derived.Test.YtongccnhomncnaaGreatDoorHN
import Derived.Test.YtongccnhomncnaaGreatDoorRows
import Derived.KernelRfl
set_option maxRecDepth 100000
set_option maxHeartbeats 4000000
set_option linter.all false
namespace Go.Proofs.YtongccnhomncnaaGreatDoor
open Go Go.Sx
theorem jk3:jc3 Tryz.pinned.checked.prog 3 Tryz.f3 Rows.topLoadedSpec Rows.topLoadedRow=true:=by kernel_rfl
end Go.Proofs.YtongccnhomncnaaGreatDoor
