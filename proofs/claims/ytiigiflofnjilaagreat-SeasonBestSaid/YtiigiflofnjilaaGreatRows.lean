/-
  No cell of these rows narrows 'for every input' (looked for: loops, veiled, ifaces, maps, wideKeys, modest, calm, conditions, laid).
  DERIVED. THE GIVEN ROWS OF THIS SEAT. 9 by the template 'for every input the law returns true; each argument reads behind the call as it read before'; 0 by the template 'total and deterministic' (their statements: YtiigiflofnjilaaGreatTotals.lean).
  GIVEN WITH THE SEED: the statements are not yours to turn. If you find one false, say at which input.
  Laid BY PROGRAM, IN A SANDBOX (cutbox-rows.mjs): the forced cells as the released guide's own fill.sh prints them over the translation 00d4d29b68805197… (all of the seat's roots in one cut). By AI agents, Wed Nov 11 2026. No macro, syntax, notation, axiom, sorry.
-/
import Derived.Test.YtiigiflofnjilaaGreatChecked
import GoSem.Claim
import GoSem.ClaimJoined
import GoSem.ClaimMapViews
import Derived.JoinedTies
import Derived.KernelRfl
namespace Go.Proofs.YtiigiflofnjilaaGreat
/- THE CELL 'sum', in the pinned program and in every row, IS THE sha256 OF THE DUMP (.gsa) THAT YtiigiflofnjilaaGreatProg.lean LOADS. Nothing in Lean hashes anything: it is a label: what it is worth is what the hold of that sum in a sandbox is worth. -/
noncomputable def Tryz.pinned : Pinned := { name := "ytiigiflofnjilaagreat", sum := "00d4d29b688051976c04054ba37439730e47dbed8535a61f2bb3112560caa59d", checked := Tryz.checked }
namespace Rows
def none {H : Type} : Left H := { results := [], args := [] }

/-- 'azalailaw09.SeasonHolds': WHATEVER THE INPUT: true; the input reads as it did. -/
def seasonHoldsSpec : ChangeSpec := { name := "seasonHolds", fn := fun _ => fun
  | [d1, d2] => { results := [.lit (.bool true)], args := [d1, d2] }
  | _ => none }
def seasonHoldsRow : OpenClaim := { program := "ytiigiflofnjilaagreat", sum := "00d4d29b688051976c04054ba37439730e47dbed8535a61f2bb3112560caa59d", func := "azalai/azalailaw09.SeasonHolds", spec := "seasonHolds", unfollowed := true, recurses := true, apart := false }
def SeasonHoldsSaid : Prop := seasonHoldsRow.holds Tryz.pinned (OpenSpec.ofChange seasonHoldsSpec)

/-- ITS FALSE NEIGHBOUR: 'it returns false'. Refute it at one input. -/
def seasonHoldsWrong : ChangeSpec := { name := "seasonHolds", fn := fun _ => fun
  | [d1, d2] => { results := [.lit (.bool false)], args := [d1, d2] }
  | _ => none }
def SeasonHoldsWrongFalsely : Prop := seasonHoldsRow.holds Tryz.pinned (OpenSpec.ofChange seasonHoldsWrong)

/-- 'azalailaw09.SeasonWorth': WHATEVER THE INPUT: true; the input reads as it did. -/
def seasonWorthSpec : ChangeSpec := { name := "seasonWorth", fn := fun _ => fun
  | [d1, d2, d3] => { results := [.lit (.bool true)], args := [d1, d2, d3] }
  | _ => none }
def seasonWorthRow : OpenClaim := { program := "ytiigiflofnjilaagreat", sum := "00d4d29b688051976c04054ba37439730e47dbed8535a61f2bb3112560caa59d", func := "azalai/azalailaw09.SeasonWorth", spec := "seasonWorth", unfollowed := true, recurses := true, apart := false }
def SeasonWorthSaid : Prop := seasonWorthRow.holds Tryz.pinned (OpenSpec.ofChange seasonWorthSpec)

/-- ITS FALSE NEIGHBOUR: 'it returns false'. Refute it at one input. -/
def seasonWorthWrong : ChangeSpec := { name := "seasonWorth", fn := fun _ => fun
  | [d1, d2, d3] => { results := [.lit (.bool false)], args := [d1, d2, d3] }
  | _ => none }
def SeasonWorthWrongFalsely : Prop := seasonWorthRow.holds Tryz.pinned (OpenSpec.ofChange seasonWorthWrong)

/-- 'azalailaw09.SeasonBest': WHATEVER THE INPUT: true; the input reads as it did. -/
def seasonBestSpec : ChangeSpec := { name := "seasonBest", fn := fun _ => fun
  | [d] => { results := [.lit (.bool true)], args := [d] }
  | _ => none }
def seasonBestRow : OpenClaim := { program := "ytiigiflofnjilaagreat", sum := "00d4d29b688051976c04054ba37439730e47dbed8535a61f2bb3112560caa59d", func := "azalai/azalailaw09.SeasonBest", spec := "seasonBest", unfollowed := true, recurses := true, apart := false }
def SeasonBestSaid : Prop := seasonBestRow.holds Tryz.pinned (OpenSpec.ofChange seasonBestSpec)

/-- ITS FALSE NEIGHBOUR: 'it returns false'. Refute it at one input. -/
def seasonBestWrong : ChangeSpec := { name := "seasonBest", fn := fun _ => fun
  | [d] => { results := [.lit (.bool false)], args := [d] }
  | _ => none }
def SeasonBestWrongFalsely : Prop := seasonBestRow.holds Tryz.pinned (OpenSpec.ofChange seasonBestWrong)

/-- 'azalailaw09.SeasonTrue': WHATEVER THE INPUT: true; the input reads as it did. -/
def seasonTrueSpec : ChangeSpec := { name := "seasonTrue", fn := fun _ => fun
  | [d1, d2, d3, d4] => { results := [.lit (.bool true)], args := [d1, d2, d3, d4] }
  | _ => none }
def seasonTrueRow : OpenClaim := { program := "ytiigiflofnjilaagreat", sum := "00d4d29b688051976c04054ba37439730e47dbed8535a61f2bb3112560caa59d", func := "azalai/azalailaw09.SeasonTrue", spec := "seasonTrue", unfollowed := true, recurses := true, apart := false }
def SeasonTrueSaid : Prop := seasonTrueRow.holds Tryz.pinned (OpenSpec.ofChange seasonTrueSpec)

/-- ITS FALSE NEIGHBOUR: 'it returns false'. Refute it at one input. -/
def seasonTrueWrong : ChangeSpec := { name := "seasonTrue", fn := fun _ => fun
  | [d1, d2, d3, d4] => { results := [.lit (.bool false)], args := [d1, d2, d3, d4] }
  | _ => none }
def SeasonTrueWrongFalsely : Prop := seasonTrueRow.holds Tryz.pinned (OpenSpec.ofChange seasonTrueWrong)

/-- 'azalailaw09.SeasonSteps': WHATEVER THE INPUT: true; the input reads as it did. -/
def seasonStepsSpec : ChangeSpec := { name := "seasonSteps", fn := fun _ => fun
  | [d1, d2] => { results := [.lit (.bool true)], args := [d1, d2] }
  | _ => none }
def seasonStepsRow : OpenClaim := { program := "ytiigiflofnjilaagreat", sum := "00d4d29b688051976c04054ba37439730e47dbed8535a61f2bb3112560caa59d", func := "azalai/azalailaw09.SeasonSteps", spec := "seasonSteps", unfollowed := true, recurses := true, apart := false }
def SeasonStepsSaid : Prop := seasonStepsRow.holds Tryz.pinned (OpenSpec.ofChange seasonStepsSpec)

/-- ITS FALSE NEIGHBOUR: 'it returns false'. Refute it at one input. -/
def seasonStepsWrong : ChangeSpec := { name := "seasonSteps", fn := fun _ => fun
  | [d1, d2] => { results := [.lit (.bool false)], args := [d1, d2] }
  | _ => none }
def SeasonStepsWrongFalsely : Prop := seasonStepsRow.holds Tryz.pinned (OpenSpec.ofChange seasonStepsWrong)

/-- 'azalailaw09.SeasonMost': WHATEVER THE INPUT: true; the input reads as it did. -/
def seasonMostSpec : ChangeSpec := { name := "seasonMost", fn := fun _ => fun
  | [d1, d2] => { results := [.lit (.bool true)], args := [d1, d2] }
  | _ => none }
def seasonMostRow : OpenClaim := { program := "ytiigiflofnjilaagreat", sum := "00d4d29b688051976c04054ba37439730e47dbed8535a61f2bb3112560caa59d", func := "azalai/azalailaw09.SeasonMost", spec := "seasonMost", unfollowed := true, recurses := true, apart := false }
def SeasonMostSaid : Prop := seasonMostRow.holds Tryz.pinned (OpenSpec.ofChange seasonMostSpec)

/-- ITS FALSE NEIGHBOUR: 'it returns false'. Refute it at one input. -/
def seasonMostWrong : ChangeSpec := { name := "seasonMost", fn := fun _ => fun
  | [d1, d2] => { results := [.lit (.bool false)], args := [d1, d2] }
  | _ => none }
def SeasonMostWrongFalsely : Prop := seasonMostRow.holds Tryz.pinned (OpenSpec.ofChange seasonMostWrong)

/-- 'azalailaw09.SeasonEasier': WHATEVER THE INPUT: true; the input reads as it did. -/
def seasonEasierSpec : ChangeSpec := { name := "seasonEasier", fn := fun _ => fun
  | [d1, d2, d3] => { results := [.lit (.bool true)], args := [d1, d2, d3] }
  | _ => none }
def seasonEasierRow : OpenClaim := { program := "ytiigiflofnjilaagreat", sum := "00d4d29b688051976c04054ba37439730e47dbed8535a61f2bb3112560caa59d", func := "azalai/azalailaw09.SeasonEasier", spec := "seasonEasier", unfollowed := true, recurses := true, apart := false }
def SeasonEasierSaid : Prop := seasonEasierRow.holds Tryz.pinned (OpenSpec.ofChange seasonEasierSpec)

/-- ITS FALSE NEIGHBOUR: 'it returns false'. Refute it at one input. -/
def seasonEasierWrong : ChangeSpec := { name := "seasonEasier", fn := fun _ => fun
  | [d1, d2, d3] => { results := [.lit (.bool false)], args := [d1, d2, d3] }
  | _ => none }
def SeasonEasierWrongFalsely : Prop := seasonEasierRow.holds Tryz.pinned (OpenSpec.ofChange seasonEasierWrong)

/-- 'azalailaw09.SeasonLeast': WHATEVER THE INPUT: true; the input reads as it did. -/
def seasonLeastSpec : ChangeSpec := { name := "seasonLeast", fn := fun _ => fun
  | [d1, d2] => { results := [.lit (.bool true)], args := [d1, d2] }
  | _ => none }
def seasonLeastRow : OpenClaim := { program := "ytiigiflofnjilaagreat", sum := "00d4d29b688051976c04054ba37439730e47dbed8535a61f2bb3112560caa59d", func := "azalai/azalailaw09.SeasonLeast", spec := "seasonLeast", unfollowed := true, recurses := true, apart := false }
def SeasonLeastSaid : Prop := seasonLeastRow.holds Tryz.pinned (OpenSpec.ofChange seasonLeastSpec)

/-- ITS FALSE NEIGHBOUR: 'it returns false'. Refute it at one input. -/
def seasonLeastWrong : ChangeSpec := { name := "seasonLeast", fn := fun _ => fun
  | [d1, d2] => { results := [.lit (.bool false)], args := [d1, d2] }
  | _ => none }
def SeasonLeastWrongFalsely : Prop := seasonLeastRow.holds Tryz.pinned (OpenSpec.ofChange seasonLeastWrong)

/-- 'azalailaw09.SeasonWater': WHATEVER THE INPUT: true; the input reads as it did. -/
def seasonWaterSpec : ChangeSpec := { name := "seasonWater", fn := fun _ => fun
  | [d1, d2, d3, d4] => { results := [.lit (.bool true)], args := [d1, d2, d3, d4] }
  | _ => none }
def seasonWaterRow : OpenClaim := { program := "ytiigiflofnjilaagreat", sum := "00d4d29b688051976c04054ba37439730e47dbed8535a61f2bb3112560caa59d", func := "azalai/azalailaw09.SeasonWater", spec := "seasonWater", unfollowed := true, recurses := true, apart := false }
def SeasonWaterSaid : Prop := seasonWaterRow.holds Tryz.pinned (OpenSpec.ofChange seasonWaterSpec)

/-- ITS FALSE NEIGHBOUR: 'it returns false'. Refute it at one input. -/
def seasonWaterWrong : ChangeSpec := { name := "seasonWater", fn := fun _ => fun
  | [d1, d2, d3, d4] => { results := [.lit (.bool false)], args := [d1, d2, d3, d4] }
  | _ => none }
def SeasonWaterWrongFalsely : Prop := seasonWaterRow.holds Tryz.pinned (OpenSpec.ofChange seasonWaterWrong)

/- THE SECOND FORM. 'bulk': how many values and letters a reading holds, each counted each time it is reached (what is shared counts as often as it is met; a slice's spare places count too). A statement '..UptoSaid' is the law's where the arguments, and the package variables that the reading takes, are together of bulk at most 1048576: NARROWER than '..Said'. Prove '..Said' where nothing that the law and all that it calls make is longer than what came in: it says more and counts as full. Else prove '..UptoSaid'. A law counts once. -/
mutual
def uptoBulk {H : Type} : DataW H → Nat
  | .lit (.string bytes) => bytes.length + 1
  | .lit _ => 1
  | .nil => 1
  | .ptr d => uptoBulk d + 1
  | .slice elems spare => uptoBulkAll elems + uptoBulkAll spare + 1
  | .agg parts => uptoBulkAll parts + 1
  | .iface _ d => uptoBulk d + 1
  | .map entries => uptoBulkEntries entries + 1
  | .held _ => 1
def uptoBulkAll {H : Type} : List (DataW H) → Nat
  | [] => 0
  | d :: r => uptoBulk d + uptoBulkAll r
def uptoBulkEntries {H : Type} : List (Lit × DataW H) → Nat
  | [] => 0
  | x :: r => uptoBulkEntry x + uptoBulkEntries r
def uptoBulkEntry {H : Type} : Lit × DataW H → Nat
  | (.string bytes, d) => bytes.length + uptoBulk d + 1
  | (_, d) => uptoBulk d + 1
 end
def uptoSmall : (H : Type) → List (DataW H) → Bool := fun _ ds => decide (uptoBulkAll ds ≤ 1048576)
def OpenSpec.upto (s : _root_.Go.ChangeSpec) : _root_.Go.OpenSpec := { _root_.Go.OpenSpec.ofChange s with cond := some uptoSmall }

/-- 'azalailaw09.SeasonHolds', WHERE WHAT IT READS IS OF BULK AT MOST 1048576: true; the input reads as it did. -/
def seasonHoldsUptoRow : OpenClaim := { program := "ytiigiflofnjilaagreat", sum := "00d4d29b688051976c04054ba37439730e47dbed8535a61f2bb3112560caa59d", func := "azalai/azalailaw09.SeasonHolds", spec := "seasonHolds", unfollowed := true, recurses := true, apart := false, narrowed := true }
def SeasonHoldsUptoSaid : Prop := seasonHoldsUptoRow.holds Tryz.pinned (OpenSpec.upto seasonHoldsSpec)

/-- 'azalailaw09.SeasonWorth', WHERE WHAT IT READS IS OF BULK AT MOST 1048576: true; the input reads as it did. -/
def seasonWorthUptoRow : OpenClaim := { program := "ytiigiflofnjilaagreat", sum := "00d4d29b688051976c04054ba37439730e47dbed8535a61f2bb3112560caa59d", func := "azalai/azalailaw09.SeasonWorth", spec := "seasonWorth", unfollowed := true, recurses := true, apart := false, narrowed := true }
def SeasonWorthUptoSaid : Prop := seasonWorthUptoRow.holds Tryz.pinned (OpenSpec.upto seasonWorthSpec)

/-- 'azalailaw09.SeasonBest', WHERE WHAT IT READS IS OF BULK AT MOST 1048576: true; the input reads as it did. -/
def seasonBestUptoRow : OpenClaim := { program := "ytiigiflofnjilaagreat", sum := "00d4d29b688051976c04054ba37439730e47dbed8535a61f2bb3112560caa59d", func := "azalai/azalailaw09.SeasonBest", spec := "seasonBest", unfollowed := true, recurses := true, apart := false, narrowed := true }
def SeasonBestUptoSaid : Prop := seasonBestUptoRow.holds Tryz.pinned (OpenSpec.upto seasonBestSpec)

/-- 'azalailaw09.SeasonTrue', WHERE WHAT IT READS IS OF BULK AT MOST 1048576: true; the input reads as it did. -/
def seasonTrueUptoRow : OpenClaim := { program := "ytiigiflofnjilaagreat", sum := "00d4d29b688051976c04054ba37439730e47dbed8535a61f2bb3112560caa59d", func := "azalai/azalailaw09.SeasonTrue", spec := "seasonTrue", unfollowed := true, recurses := true, apart := false, narrowed := true }
def SeasonTrueUptoSaid : Prop := seasonTrueUptoRow.holds Tryz.pinned (OpenSpec.upto seasonTrueSpec)

/-- 'azalailaw09.SeasonSteps', WHERE WHAT IT READS IS OF BULK AT MOST 1048576: true; the input reads as it did. -/
def seasonStepsUptoRow : OpenClaim := { program := "ytiigiflofnjilaagreat", sum := "00d4d29b688051976c04054ba37439730e47dbed8535a61f2bb3112560caa59d", func := "azalai/azalailaw09.SeasonSteps", spec := "seasonSteps", unfollowed := true, recurses := true, apart := false, narrowed := true }
def SeasonStepsUptoSaid : Prop := seasonStepsUptoRow.holds Tryz.pinned (OpenSpec.upto seasonStepsSpec)

/-- 'azalailaw09.SeasonMost', WHERE WHAT IT READS IS OF BULK AT MOST 1048576: true; the input reads as it did. -/
def seasonMostUptoRow : OpenClaim := { program := "ytiigiflofnjilaagreat", sum := "00d4d29b688051976c04054ba37439730e47dbed8535a61f2bb3112560caa59d", func := "azalai/azalailaw09.SeasonMost", spec := "seasonMost", unfollowed := true, recurses := true, apart := false, narrowed := true }
def SeasonMostUptoSaid : Prop := seasonMostUptoRow.holds Tryz.pinned (OpenSpec.upto seasonMostSpec)

/-- 'azalailaw09.SeasonEasier', WHERE WHAT IT READS IS OF BULK AT MOST 1048576: true; the input reads as it did. -/
def seasonEasierUptoRow : OpenClaim := { program := "ytiigiflofnjilaagreat", sum := "00d4d29b688051976c04054ba37439730e47dbed8535a61f2bb3112560caa59d", func := "azalai/azalailaw09.SeasonEasier", spec := "seasonEasier", unfollowed := true, recurses := true, apart := false, narrowed := true }
def SeasonEasierUptoSaid : Prop := seasonEasierUptoRow.holds Tryz.pinned (OpenSpec.upto seasonEasierSpec)

/-- 'azalailaw09.SeasonLeast', WHERE WHAT IT READS IS OF BULK AT MOST 1048576: true; the input reads as it did. -/
def seasonLeastUptoRow : OpenClaim := { program := "ytiigiflofnjilaagreat", sum := "00d4d29b688051976c04054ba37439730e47dbed8535a61f2bb3112560caa59d", func := "azalai/azalailaw09.SeasonLeast", spec := "seasonLeast", unfollowed := true, recurses := true, apart := false, narrowed := true }
def SeasonLeastUptoSaid : Prop := seasonLeastUptoRow.holds Tryz.pinned (OpenSpec.upto seasonLeastSpec)

/-- 'azalailaw09.SeasonWater', WHERE WHAT IT READS IS OF BULK AT MOST 1048576: true; the input reads as it did. -/
def seasonWaterUptoRow : OpenClaim := { program := "ytiigiflofnjilaagreat", sum := "00d4d29b688051976c04054ba37439730e47dbed8535a61f2bb3112560caa59d", func := "azalai/azalailaw09.SeasonWater", spec := "seasonWater", unfollowed := true, recurses := true, apart := false, narrowed := true }
def SeasonWaterUptoSaid : Prop := seasonWaterUptoRow.holds Tryz.pinned (OpenSpec.upto seasonWaterSpec)

end Rows
end Go.Proofs.YtiigiflofnjilaaGreat
