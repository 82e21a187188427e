/- Walks and plain laws that lead to the given statement, part 20 of 20. -/
import Derived.Test.YtongccnhomncnaaGreatDoorHS
set_option maxRecDepth 100000
set_option maxHeartbeats 4000000
set_option linter.all false
namespace Go.Proofs.YtongccnhomncnaaGreatDoor
open Go Go.Sx Go.Azalai Go.ChangeShapes Go.WideShapes Go.RowKit
theorem topLoaded_card:Rows.TopLoadedCardSaid :=
 Claim7.holds_tied_plain_at .later [] [.data] true (true, "489fe36aa1f3d47cdd3fe8b46f8c06ee7710f88efbdbb030db3c5961105bde21") true
  Zca (λ_ h=>by cases h) (by kernel_rfl) (λ_ h=>by cases h) topLoaded_row_tie rfl ⟨rfl,rfl⟩ (by kernel_rfl) rfl
  (λf fn hf hfn=>by
   obtain rfl:f=3:=Option.some.inj ((show Tryz.prog.funcNamed "azalai/azalaitop.TopLoaded" = some 3 by kernel_rfl).symm.trans hf) |>.symm;obtain rfl:fn=Tryz.f3:=(Option.some.inj (Tryz.func3.symm.trans hfn)).symm
   exact ⟨by kernel_rfl,λj t ht=>by
    rw [Tryz.params3] at ht;have hm:t ∈ [34,37]:=by simpa using Array.mem_of_getElem? ht
    have hall:([34,37].all λu=>!Tryz.prog.wantsStandIn u)=true:=by kernel_rfl
    exact (show Tryz.prog.wantsStandIn t=false by simpa using List.all_eq_true.1 hall t hm)⟩)
  (by kernel_rfl)
end Go.Proofs.YtongccnhomncnaaGreatDoor
