/-
  No cell of these rows narrows 'for every input' (looked for: loops, veiled, ifaces, maps, wideKeys, modest, calm, conditions, laid).
  DERIVED. THE GIVEN ROWS OF THIS SEAT. 13 by the template 'for every input the law returns true; each argument reads behind the call as it read before'; 0 by the template 'total and deterministic' (their statements: YtkjldleglbbkeaaTotals.lean).
  GIVEN WITH THE SEED: the statements are not yours to turn. If you find one false, say at which input.
  Laid BY PROGRAM, IN A SANDBOX (cutbox-rows.mjs): the forced cells as the released guide's own fill.sh prints them over the translation efa4ddc54bc3e0e1… (all of the seat's roots in one cut). By AI agents, Wed Nov 11 2026. No macro, syntax, notation, axiom, sorry.
-/
import Derived.Test.YtkjldleglbbkeaaChecked
import GoSem.Claim
import GoSem.ClaimJoined
import GoSem.ClaimMapViews
import Derived.JoinedTies
import Derived.KernelRfl
namespace Go.Proofs.Ytkjldleglbbkeaa
/- THE CELL 'sum', in the pinned program and in every row, IS THE sha256 OF THE DUMP (.gsa) THAT YtkjldleglbbkeaaProg.lean LOADS. Nothing in Lean hashes anything: it is a label: what it is worth is what the hold of that sum in a sandbox is worth. -/
noncomputable def Try.pinned : Pinned := { name := "ytkjldleglbbkeaa", sum := "efa4ddc54bc3e0e18291a6521bd16f9af4a40ef72cca19417d4da8b77bc7a888", checked := Try.checked }
namespace Rows
def none {H : Type} : Left H := { results := [], args := [] }

/-- 'azalailaw03.WayWells': WHATEVER THE INPUT: true; the input reads as it did. -/
def wayWellsSpec : ChangeSpec := { name := "wayWells", fn := fun _ => fun
  | [d1, d2, d3, d4, d5, d6] => { results := [.lit (.bool true)], args := [d1, d2, d3, d4, d5, d6] }
  | _ => none }
def wayWellsRow : OpenClaim := { program := "ytkjldleglbbkeaa", sum := "efa4ddc54bc3e0e18291a6521bd16f9af4a40ef72cca19417d4da8b77bc7a888", func := "azalai/azalailaw03.WayWells", spec := "wayWells", unfollowed := true, recurses := true, plainKeys := false, apart := false }
def WayWellsSaid : Prop := wayWellsRow.holds Try.pinned (OpenSpec.ofChange wayWellsSpec)

/-- ITS FALSE NEIGHBOUR: 'it returns false'. Refute it at one input. -/
def wayWellsWrong : ChangeSpec := { name := "wayWells", fn := fun _ => fun
  | [d1, d2, d3, d4, d5, d6] => { results := [.lit (.bool false)], args := [d1, d2, d3, d4, d5, d6] }
  | _ => none }
def WayWellsWrongFalsely : Prop := wayWellsRow.holds Try.pinned (OpenSpec.ofChange wayWellsWrong)

/-- 'azalailaw03.WayLegs': WHATEVER THE INPUT: true; the input reads as it did. -/
def wayLegsSpec : ChangeSpec := { name := "wayLegs", fn := fun _ => fun
  | [d1, d2, d3, d4] => { results := [.lit (.bool true)], args := [d1, d2, d3, d4] }
  | _ => none }
def wayLegsRow : OpenClaim := { program := "ytkjldleglbbkeaa", sum := "efa4ddc54bc3e0e18291a6521bd16f9af4a40ef72cca19417d4da8b77bc7a888", func := "azalai/azalailaw03.WayLegs", spec := "wayLegs", unfollowed := true, recurses := true, plainKeys := false, apart := false }
def WayLegsSaid : Prop := wayLegsRow.holds Try.pinned (OpenSpec.ofChange wayLegsSpec)

/-- ITS FALSE NEIGHBOUR: 'it returns false'. Refute it at one input. -/
def wayLegsWrong : ChangeSpec := { name := "wayLegs", fn := fun _ => fun
  | [d1, d2, d3, d4] => { results := [.lit (.bool false)], args := [d1, d2, d3, d4] }
  | _ => none }
def WayLegsWrongFalsely : Prop := wayLegsRow.holds Try.pinned (OpenSpec.ofChange wayLegsWrong)

/-- 'azalailaw03.WayFinds': WHATEVER THE INPUT: true; the input reads as it did. -/
def wayFindsSpec : ChangeSpec := { name := "wayFinds", fn := fun _ => fun
  | [d1, d2, d3, d4, d5, d6] => { results := [.lit (.bool true)], args := [d1, d2, d3, d4, d5, d6] }
  | _ => none }
def wayFindsRow : OpenClaim := { program := "ytkjldleglbbkeaa", sum := "efa4ddc54bc3e0e18291a6521bd16f9af4a40ef72cca19417d4da8b77bc7a888", func := "azalai/azalailaw03.WayFinds", spec := "wayFinds", unfollowed := true, recurses := true, plainKeys := false, apart := false }
def WayFindsSaid : Prop := wayFindsRow.holds Try.pinned (OpenSpec.ofChange wayFindsSpec)

/-- ITS FALSE NEIGHBOUR: 'it returns false'. Refute it at one input. -/
def wayFindsWrong : ChangeSpec := { name := "wayFinds", fn := fun _ => fun
  | [d1, d2, d3, d4, d5, d6] => { results := [.lit (.bool false)], args := [d1, d2, d3, d4, d5, d6] }
  | _ => none }
def WayFindsWrongFalsely : Prop := wayFindsRow.holds Try.pinned (OpenSpec.ofChange wayFindsWrong)

/-- 'azalailaw03.WayGoes': WHATEVER THE INPUT: true; the input reads as it did. -/
def wayGoesSpec : ChangeSpec := { name := "wayGoes", fn := fun _ => fun
  | [d1, d2, d3, d4, d5, d6] => { results := [.lit (.bool true)], args := [d1, d2, d3, d4, d5, d6] }
  | _ => none }
def wayGoesRow : OpenClaim := { program := "ytkjldleglbbkeaa", sum := "efa4ddc54bc3e0e18291a6521bd16f9af4a40ef72cca19417d4da8b77bc7a888", func := "azalai/azalailaw03.WayGoes", spec := "wayGoes", unfollowed := true, recurses := true, plainKeys := false, apart := false }
def WayGoesSaid : Prop := wayGoesRow.holds Try.pinned (OpenSpec.ofChange wayGoesSpec)

/-- ITS FALSE NEIGHBOUR: 'it returns false'. Refute it at one input. -/
def wayGoesWrong : ChangeSpec := { name := "wayGoes", fn := fun _ => fun
  | [d1, d2, d3, d4, d5, d6] => { results := [.lit (.bool false)], args := [d1, d2, d3, d4, d5, d6] }
  | _ => none }
def WayGoesWrongFalsely : Prop := wayGoesRow.holds Try.pinned (OpenSpec.ofChange wayGoesWrong)

/-- 'azalailaw03.WayTrue': WHATEVER THE INPUT: true; the input reads as it did. -/
def wayTrueSpec : ChangeSpec := { name := "wayTrue", fn := fun _ => fun
  | [d1, d2, d3, d4, d5, d6] => { results := [.lit (.bool true)], args := [d1, d2, d3, d4, d5, d6] }
  | _ => none }
def wayTrueRow : OpenClaim := { program := "ytkjldleglbbkeaa", sum := "efa4ddc54bc3e0e18291a6521bd16f9af4a40ef72cca19417d4da8b77bc7a888", func := "azalai/azalailaw03.WayTrue", spec := "wayTrue", unfollowed := true, recurses := true, plainKeys := false, apart := false }
def WayTrueSaid : Prop := wayTrueRow.holds Try.pinned (OpenSpec.ofChange wayTrueSpec)

/-- ITS FALSE NEIGHBOUR: 'it returns false'. Refute it at one input. -/
def wayTrueWrong : ChangeSpec := { name := "wayTrue", fn := fun _ => fun
  | [d1, d2, d3, d4, d5, d6] => { results := [.lit (.bool false)], args := [d1, d2, d3, d4, d5, d6] }
  | _ => none }
def WayTrueWrongFalsely : Prop := wayTrueRow.holds Try.pinned (OpenSpec.ofChange wayTrueWrong)

/-- 'azalailaw03.WayGate': WHATEVER THE INPUT: true; the input reads as it did. -/
def wayGateSpec : ChangeSpec := { name := "wayGate", fn := fun _ => fun
  | [d1, d2, d3, d4, d5] => { results := [.lit (.bool true)], args := [d1, d2, d3, d4, d5] }
  | _ => none }
def wayGateRow : OpenClaim := { program := "ytkjldleglbbkeaa", sum := "efa4ddc54bc3e0e18291a6521bd16f9af4a40ef72cca19417d4da8b77bc7a888", func := "azalai/azalailaw03.WayGate", spec := "wayGate", unfollowed := true, recurses := true, plainKeys := false, apart := false }
def WayGateSaid : Prop := wayGateRow.holds Try.pinned (OpenSpec.ofChange wayGateSpec)

/-- ITS FALSE NEIGHBOUR: 'it returns false'. Refute it at one input. -/
def wayGateWrong : ChangeSpec := { name := "wayGate", fn := fun _ => fun
  | [d1, d2, d3, d4, d5] => { results := [.lit (.bool false)], args := [d1, d2, d3, d4, d5] }
  | _ => none }
def WayGateWrongFalsely : Prop := wayGateRow.holds Try.pinned (OpenSpec.ofChange wayGateWrong)

/-- 'azalailaw03.WayFirst': WHATEVER THE INPUT: true; the input reads as it did. -/
def wayFirstSpec : ChangeSpec := { name := "wayFirst", fn := fun _ => fun
  | [d1, d2, d3, d4, d5, d6] => { results := [.lit (.bool true)], args := [d1, d2, d3, d4, d5, d6] }
  | _ => none }
def wayFirstRow : OpenClaim := { program := "ytkjldleglbbkeaa", sum := "efa4ddc54bc3e0e18291a6521bd16f9af4a40ef72cca19417d4da8b77bc7a888", func := "azalai/azalailaw03.WayFirst", spec := "wayFirst", unfollowed := true, recurses := true, plainKeys := false, apart := false }
def WayFirstSaid : Prop := wayFirstRow.holds Try.pinned (OpenSpec.ofChange wayFirstSpec)

/-- ITS FALSE NEIGHBOUR: 'it returns false'. Refute it at one input. -/
def wayFirstWrong : ChangeSpec := { name := "wayFirst", fn := fun _ => fun
  | [d1, d2, d3, d4, d5, d6] => { results := [.lit (.bool false)], args := [d1, d2, d3, d4, d5, d6] }
  | _ => none }
def WayFirstWrongFalsely : Prop := wayFirstRow.holds Try.pinned (OpenSpec.ofChange wayFirstWrong)

/-- 'azalailaw03.WayBest': WHATEVER THE INPUT: true; the input reads as it did. -/
def wayBestSpec : ChangeSpec := { name := "wayBest", fn := fun _ => fun
  | [d1, d2, d3, d4] => { results := [.lit (.bool true)], args := [d1, d2, d3, d4] }
  | _ => none }
def wayBestRow : OpenClaim := { program := "ytkjldleglbbkeaa", sum := "efa4ddc54bc3e0e18291a6521bd16f9af4a40ef72cca19417d4da8b77bc7a888", func := "azalai/azalailaw03.WayBest", spec := "wayBest", unfollowed := true, recurses := true, plainKeys := false, apart := false }
def WayBestSaid : Prop := wayBestRow.holds Try.pinned (OpenSpec.ofChange wayBestSpec)

/-- ITS FALSE NEIGHBOUR: 'it returns false'. Refute it at one input. -/
def wayBestWrong : ChangeSpec := { name := "wayBest", fn := fun _ => fun
  | [d1, d2, d3, d4] => { results := [.lit (.bool false)], args := [d1, d2, d3, d4] }
  | _ => none }
def WayBestWrongFalsely : Prop := wayBestRow.holds Try.pinned (OpenSpec.ofChange wayBestWrong)

/-- 'azalailaw03.WayAll': WHATEVER THE INPUT: true; the input reads as it did. -/
def wayAllSpec : ChangeSpec := { name := "wayAll", fn := fun _ => fun
  | [d1, d2, d3, d4, d5, d6, d7] => { results := [.lit (.bool true)], args := [d1, d2, d3, d4, d5, d6, d7] }
  | _ => none }
def wayAllRow : OpenClaim := { program := "ytkjldleglbbkeaa", sum := "efa4ddc54bc3e0e18291a6521bd16f9af4a40ef72cca19417d4da8b77bc7a888", func := "azalai/azalailaw03.WayAll", spec := "wayAll", unfollowed := true, recurses := true, plainKeys := false, apart := false }
def WayAllSaid : Prop := wayAllRow.holds Try.pinned (OpenSpec.ofChange wayAllSpec)

/-- ITS FALSE NEIGHBOUR: 'it returns false'. Refute it at one input. -/
def wayAllWrong : ChangeSpec := { name := "wayAll", fn := fun _ => fun
  | [d1, d2, d3, d4, d5, d6, d7] => { results := [.lit (.bool false)], args := [d1, d2, d3, d4, d5, d6, d7] }
  | _ => none }
def WayAllWrongFalsely : Prop := wayAllRow.holds Try.pinned (OpenSpec.ofChange wayAllWrong)

/-- 'azalailaw03.WayNarrow': WHATEVER THE INPUT: true; the input reads as it did. -/
def wayNarrowSpec : ChangeSpec := { name := "wayNarrow", fn := fun _ => fun
  | [d1, d2, d3, d4, d5, d6] => { results := [.lit (.bool true)], args := [d1, d2, d3, d4, d5, d6] }
  | _ => none }
def wayNarrowRow : OpenClaim := { program := "ytkjldleglbbkeaa", sum := "efa4ddc54bc3e0e18291a6521bd16f9af4a40ef72cca19417d4da8b77bc7a888", func := "azalai/azalailaw03.WayNarrow", spec := "wayNarrow", unfollowed := true, recurses := true, plainKeys := false, apart := false }
def WayNarrowSaid : Prop := wayNarrowRow.holds Try.pinned (OpenSpec.ofChange wayNarrowSpec)

/-- ITS FALSE NEIGHBOUR: 'it returns false'. Refute it at one input. -/
def wayNarrowWrong : ChangeSpec := { name := "wayNarrow", fn := fun _ => fun
  | [d1, d2, d3, d4, d5, d6] => { results := [.lit (.bool false)], args := [d1, d2, d3, d4, d5, d6] }
  | _ => none }
def WayNarrowWrongFalsely : Prop := wayNarrowRow.holds Try.pinned (OpenSpec.ofChange wayNarrowWrong)

/-- 'azalailaw03.WayWater': WHATEVER THE INPUT: true; the input reads as it did. -/
def wayWaterSpec : ChangeSpec := { name := "wayWater", fn := fun _ => fun
  | [d1, d2, d3, d4, d5] => { results := [.lit (.bool true)], args := [d1, d2, d3, d4, d5] }
  | _ => none }
def wayWaterRow : OpenClaim := { program := "ytkjldleglbbkeaa", sum := "efa4ddc54bc3e0e18291a6521bd16f9af4a40ef72cca19417d4da8b77bc7a888", func := "azalai/azalailaw03.WayWater", spec := "wayWater", unfollowed := true, recurses := true, plainKeys := false, apart := false }
def WayWaterSaid : Prop := wayWaterRow.holds Try.pinned (OpenSpec.ofChange wayWaterSpec)

/-- ITS FALSE NEIGHBOUR: 'it returns false'. Refute it at one input. -/
def wayWaterWrong : ChangeSpec := { name := "wayWater", fn := fun _ => fun
  | [d1, d2, d3, d4, d5] => { results := [.lit (.bool false)], args := [d1, d2, d3, d4, d5] }
  | _ => none }
def WayWaterWrongFalsely : Prop := wayWaterRow.holds Try.pinned (OpenSpec.ofChange wayWaterWrong)

/-- 'azalailaw03.WayExamples': WHATEVER THE INPUT: true; the input reads as it did. -/
def wayExamplesSpec : ChangeSpec := { name := "wayExamples", fn := fun _ => fun
  | [] => { results := [.lit (.bool true)], args := [] }
  | _ => none }
def wayExamplesRow : OpenClaim := { program := "ytkjldleglbbkeaa", sum := "efa4ddc54bc3e0e18291a6521bd16f9af4a40ef72cca19417d4da8b77bc7a888", func := "azalai/azalailaw03.WayExamples", spec := "wayExamples", unfollowed := true, recurses := true, plainKeys := false, apart := false }
def WayExamplesSaid : Prop := wayExamplesRow.holds Try.pinned (OpenSpec.ofChange wayExamplesSpec)

/-- ITS FALSE NEIGHBOUR: 'it returns false'. Refute it at one input. -/
def wayExamplesWrong : ChangeSpec := { name := "wayExamples", fn := fun _ => fun
  | [] => { results := [.lit (.bool false)], args := [] }
  | _ => none }
def WayExamplesWrongFalsely : Prop := wayExamplesRow.holds Try.pinned (OpenSpec.ofChange wayExamplesWrong)

/-- 'azalailaw03.WayDrawn': WHATEVER THE INPUT: true; the input reads as it did. -/
def wayDrawnSpec : ChangeSpec := { name := "wayDrawn", fn := fun _ => fun
  | [d1, d2, d3, d4, d5, d6, d7, d8] => { results := [.lit (.bool true)], args := [d1, d2, d3, d4, d5, d6, d7, d8] }
  | _ => none }
def wayDrawnRow : OpenClaim := { program := "ytkjldleglbbkeaa", sum := "efa4ddc54bc3e0e18291a6521bd16f9af4a40ef72cca19417d4da8b77bc7a888", func := "azalai/azalailaw03.WayDrawn", spec := "wayDrawn", unfollowed := true, recurses := true, plainKeys := false, apart := false }
def WayDrawnSaid : Prop := wayDrawnRow.holds Try.pinned (OpenSpec.ofChange wayDrawnSpec)

/-- ITS FALSE NEIGHBOUR: 'it returns false'. Refute it at one input. -/
def wayDrawnWrong : ChangeSpec := { name := "wayDrawn", fn := fun _ => fun
  | [d1, d2, d3, d4, d5, d6, d7, d8] => { results := [.lit (.bool false)], args := [d1, d2, d3, d4, d5, d6, d7, d8] }
  | _ => none }
def WayDrawnWrongFalsely : Prop := wayDrawnRow.holds Try.pinned (OpenSpec.ofChange wayDrawnWrong)

/- THE SECOND FORM. 'bulk': how many values and letters a reading holds, each counted each time it is reached (what is shared counts as often as it is met; a slice's spare places count too). A statement '..UptoSaid' is the law's where the arguments, and the package variables that the reading takes, are together of bulk at most 1048576: NARROWER than '..Said'. Prove '..Said' where nothing that the law and all that it calls make is longer than what came in: it says more and counts as full. Else prove '..UptoSaid'. A law counts once. -/
mutual
def uptoBulk {H : Type} : DataW H → Nat
  | .lit (.string bytes) => bytes.length + 1
  | .lit _ => 1
  | .nil => 1
  | .ptr d => uptoBulk d + 1
  | .slice elems spare => uptoBulkAll elems + uptoBulkAll spare + 1
  | .agg parts => uptoBulkAll parts + 1
  | .iface _ d => uptoBulk d + 1
  | .map entries => uptoBulkEntries entries + 1
  | .held _ => 1
def uptoBulkAll {H : Type} : List (DataW H) → Nat
  | [] => 0
  | d :: r => uptoBulk d + uptoBulkAll r
def uptoBulkEntries {H : Type} : List (Lit × DataW H) → Nat
  | [] => 0
  | x :: r => uptoBulkEntry x + uptoBulkEntries r
def uptoBulkEntry {H : Type} : Lit × DataW H → Nat
  | (.string bytes, d) => bytes.length + uptoBulk d + 1
  | (_, d) => uptoBulk d + 1
 end
def uptoSmall : (H : Type) → List (DataW H) → Bool := fun _ ds => decide (uptoBulkAll ds ≤ 1048576)
def OpenSpec.upto (s : _root_.Go.ChangeSpec) : _root_.Go.OpenSpec := { _root_.Go.OpenSpec.ofChange s with cond := some uptoSmall }

/-- 'azalailaw03.WayWells', WHERE WHAT IT READS IS OF BULK AT MOST 1048576: true; the input reads as it did. -/
def wayWellsUptoRow : OpenClaim := { program := "ytkjldleglbbkeaa", sum := "efa4ddc54bc3e0e18291a6521bd16f9af4a40ef72cca19417d4da8b77bc7a888", func := "azalai/azalailaw03.WayWells", spec := "wayWells", unfollowed := true, recurses := true, plainKeys := false, apart := false, narrowed := true }
def WayWellsUptoSaid : Prop := wayWellsUptoRow.holds Try.pinned (OpenSpec.upto wayWellsSpec)

/-- 'azalailaw03.WayLegs', WHERE WHAT IT READS IS OF BULK AT MOST 1048576: true; the input reads as it did. -/
def wayLegsUptoRow : OpenClaim := { program := "ytkjldleglbbkeaa", sum := "efa4ddc54bc3e0e18291a6521bd16f9af4a40ef72cca19417d4da8b77bc7a888", func := "azalai/azalailaw03.WayLegs", spec := "wayLegs", unfollowed := true, recurses := true, plainKeys := false, apart := false, narrowed := true }
def WayLegsUptoSaid : Prop := wayLegsUptoRow.holds Try.pinned (OpenSpec.upto wayLegsSpec)

/-- 'azalailaw03.WayFinds', WHERE WHAT IT READS IS OF BULK AT MOST 1048576: true; the input reads as it did. -/
def wayFindsUptoRow : OpenClaim := { program := "ytkjldleglbbkeaa", sum := "efa4ddc54bc3e0e18291a6521bd16f9af4a40ef72cca19417d4da8b77bc7a888", func := "azalai/azalailaw03.WayFinds", spec := "wayFinds", unfollowed := true, recurses := true, plainKeys := false, apart := false, narrowed := true }
def WayFindsUptoSaid : Prop := wayFindsUptoRow.holds Try.pinned (OpenSpec.upto wayFindsSpec)

/-- 'azalailaw03.WayGoes', WHERE WHAT IT READS IS OF BULK AT MOST 1048576: true; the input reads as it did. -/
def wayGoesUptoRow : OpenClaim := { program := "ytkjldleglbbkeaa", sum := "efa4ddc54bc3e0e18291a6521bd16f9af4a40ef72cca19417d4da8b77bc7a888", func := "azalai/azalailaw03.WayGoes", spec := "wayGoes", unfollowed := true, recurses := true, plainKeys := false, apart := false, narrowed := true }
def WayGoesUptoSaid : Prop := wayGoesUptoRow.holds Try.pinned (OpenSpec.upto wayGoesSpec)

/-- 'azalailaw03.WayTrue', WHERE WHAT IT READS IS OF BULK AT MOST 1048576: true; the input reads as it did. -/
def wayTrueUptoRow : OpenClaim := { program := "ytkjldleglbbkeaa", sum := "efa4ddc54bc3e0e18291a6521bd16f9af4a40ef72cca19417d4da8b77bc7a888", func := "azalai/azalailaw03.WayTrue", spec := "wayTrue", unfollowed := true, recurses := true, plainKeys := false, apart := false, narrowed := true }
def WayTrueUptoSaid : Prop := wayTrueUptoRow.holds Try.pinned (OpenSpec.upto wayTrueSpec)

/-- 'azalailaw03.WayGate', WHERE WHAT IT READS IS OF BULK AT MOST 1048576: true; the input reads as it did. -/
def wayGateUptoRow : OpenClaim := { program := "ytkjldleglbbkeaa", sum := "efa4ddc54bc3e0e18291a6521bd16f9af4a40ef72cca19417d4da8b77bc7a888", func := "azalai/azalailaw03.WayGate", spec := "wayGate", unfollowed := true, recurses := true, plainKeys := false, apart := false, narrowed := true }
def WayGateUptoSaid : Prop := wayGateUptoRow.holds Try.pinned (OpenSpec.upto wayGateSpec)

/-- 'azalailaw03.WayFirst', WHERE WHAT IT READS IS OF BULK AT MOST 1048576: true; the input reads as it did. -/
def wayFirstUptoRow : OpenClaim := { program := "ytkjldleglbbkeaa", sum := "efa4ddc54bc3e0e18291a6521bd16f9af4a40ef72cca19417d4da8b77bc7a888", func := "azalai/azalailaw03.WayFirst", spec := "wayFirst", unfollowed := true, recurses := true, plainKeys := false, apart := false, narrowed := true }
def WayFirstUptoSaid : Prop := wayFirstUptoRow.holds Try.pinned (OpenSpec.upto wayFirstSpec)

/-- 'azalailaw03.WayBest', WHERE WHAT IT READS IS OF BULK AT MOST 1048576: true; the input reads as it did. -/
def wayBestUptoRow : OpenClaim := { program := "ytkjldleglbbkeaa", sum := "efa4ddc54bc3e0e18291a6521bd16f9af4a40ef72cca19417d4da8b77bc7a888", func := "azalai/azalailaw03.WayBest", spec := "wayBest", unfollowed := true, recurses := true, plainKeys := false, apart := false, narrowed := true }
def WayBestUptoSaid : Prop := wayBestUptoRow.holds Try.pinned (OpenSpec.upto wayBestSpec)

/-- 'azalailaw03.WayAll', WHERE WHAT IT READS IS OF BULK AT MOST 1048576: true; the input reads as it did. -/
def wayAllUptoRow : OpenClaim := { program := "ytkjldleglbbkeaa", sum := "efa4ddc54bc3e0e18291a6521bd16f9af4a40ef72cca19417d4da8b77bc7a888", func := "azalai/azalailaw03.WayAll", spec := "wayAll", unfollowed := true, recurses := true, plainKeys := false, apart := false, narrowed := true }
def WayAllUptoSaid : Prop := wayAllUptoRow.holds Try.pinned (OpenSpec.upto wayAllSpec)

/-- 'azalailaw03.WayNarrow', WHERE WHAT IT READS IS OF BULK AT MOST 1048576: true; the input reads as it did. -/
def wayNarrowUptoRow : OpenClaim := { program := "ytkjldleglbbkeaa", sum := "efa4ddc54bc3e0e18291a6521bd16f9af4a40ef72cca19417d4da8b77bc7a888", func := "azalai/azalailaw03.WayNarrow", spec := "wayNarrow", unfollowed := true, recurses := true, plainKeys := false, apart := false, narrowed := true }
def WayNarrowUptoSaid : Prop := wayNarrowUptoRow.holds Try.pinned (OpenSpec.upto wayNarrowSpec)

/-- 'azalailaw03.WayWater', WHERE WHAT IT READS IS OF BULK AT MOST 1048576: true; the input reads as it did. -/
def wayWaterUptoRow : OpenClaim := { program := "ytkjldleglbbkeaa", sum := "efa4ddc54bc3e0e18291a6521bd16f9af4a40ef72cca19417d4da8b77bc7a888", func := "azalai/azalailaw03.WayWater", spec := "wayWater", unfollowed := true, recurses := true, plainKeys := false, apart := false, narrowed := true }
def WayWaterUptoSaid : Prop := wayWaterUptoRow.holds Try.pinned (OpenSpec.upto wayWaterSpec)

/-- 'azalailaw03.WayExamples', WHERE WHAT IT READS IS OF BULK AT MOST 1048576: true; the input reads as it did. -/
def wayExamplesUptoRow : OpenClaim := { program := "ytkjldleglbbkeaa", sum := "efa4ddc54bc3e0e18291a6521bd16f9af4a40ef72cca19417d4da8b77bc7a888", func := "azalai/azalailaw03.WayExamples", spec := "wayExamples", unfollowed := true, recurses := true, plainKeys := false, apart := false, narrowed := true }
def WayExamplesUptoSaid : Prop := wayExamplesUptoRow.holds Try.pinned (OpenSpec.upto wayExamplesSpec)

/-- 'azalailaw03.WayDrawn', WHERE WHAT IT READS IS OF BULK AT MOST 1048576: true; the input reads as it did. -/
def wayDrawnUptoRow : OpenClaim := { program := "ytkjldleglbbkeaa", sum := "efa4ddc54bc3e0e18291a6521bd16f9af4a40ef72cca19417d4da8b77bc7a888", func := "azalai/azalailaw03.WayDrawn", spec := "wayDrawn", unfollowed := true, recurses := true, plainKeys := false, apart := false, narrowed := true }
def WayDrawnUptoSaid : Prop := wayDrawnUptoRow.holds Try.pinned (OpenSpec.upto wayDrawnSpec)

end Rows
end Go.Proofs.Ytkjldleglbbkeaa
