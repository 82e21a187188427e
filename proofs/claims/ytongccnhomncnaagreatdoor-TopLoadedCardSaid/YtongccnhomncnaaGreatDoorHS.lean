/- Walks and plain laws that lead to the given statement, part 19 of 20. -/
import Derived.Test.YtongccnhomncnaaGreatDoorHR
set_option maxRecDepth 100000
set_option maxHeartbeats 4000000
set_option linter.all false
namespace Go.Proofs.YtongccnhomncnaaGreatDoor
open Go Go.Sx Go.Azalai Go.ChangeShapes Go.WideShapes Go.RowKit
theorem Zca:Rows.TopLoadedSaid :=
 OpenClaim.holds_of_wide 3 Tryz.f3 rfl rfl rfl rfl rfl rfl rfl ⟨rfl,rfl,rfl,rfl,rfl⟩ rfl rfl rfl rfl rfl (by kernel_rfl) Tryz.func3 (Zn3 jk0 jk1 jk2 jk3 jk4 jk5 jk6 jk7)
  (of_decide_eq_true (by kernel_rfl)) (by unfold Func.isWrapper;first | (rw [if_pos (by decide +kernel)];kernel_rfl) | (rw [if_neg (by decide +kernel)];exact ⟨rfl,rfl⟩))
  (λos started H enc _=>ZaZ os started H enc)
end Go.Proofs.YtongccnhomncnaaGreatDoor
