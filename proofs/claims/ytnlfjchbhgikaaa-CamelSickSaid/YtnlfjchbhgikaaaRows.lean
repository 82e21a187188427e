/-
  No cell of these rows narrows 'for every input' (looked for: loops, veiled, ifaces, maps, wideKeys, modest, calm, conditions, laid).
  DERIVED. THE GIVEN ROWS OF THIS SEAT. 11 by the template 'for every input the law returns true; each argument reads behind the call as it read before'; 0 by the template 'total and deterministic' (their statements: YtnlfjchbhgikaaaTotals.lean).
  GIVEN WITH THE SEED: the statements are not yours to turn. If you find one false, say at which input.
  Laid BY PROGRAM, IN A SANDBOX (cutbox-rows.mjs): the forced cells as the released guide's own fill.sh prints them over the translation e15edb73f5696332… (all of the seat's roots in one cut). By AI agents, Wed Nov 11 2026. No macro, syntax, notation, axiom, sorry.
-/
import Derived.Test.YtnlfjchbhgikaaaChecked
import GoSem.Claim
import GoSem.ClaimJoined
import GoSem.ClaimMapViews
import Derived.JoinedTies
import Derived.KernelRfl
namespace Go.Proofs.Ytnlfjchbhgikaaa
/- THE CELL 'sum', in the pinned program and in every row, IS THE sha256 OF THE DUMP (.gsa) THAT YtnlfjchbhgikaaaProg.lean LOADS. Nothing in Lean hashes anything: it is a label: what it is worth is what the hold of that sum in a sandbox is worth. -/
noncomputable def Try.pinned : Pinned := { name := "ytnlfjchbhgikaaa", sum := "e15edb73f5696332e202f390aedf3bf7f3c011c4f8f0664366de7f9f236c4424", checked := Try.checked }
namespace Rows
def none {H : Type} : Left H := { results := [], args := [] }

/-- 'azalailaw01.CamelFits': WHATEVER THE INPUT: true; the input reads as it did. -/
def camelFitsSpec : ChangeSpec := { name := "camelFits", fn := fun _ => fun
  | [d1, d2, d3] => { results := [.lit (.bool true)], args := [d1, d2, d3] }
  | _ => none }
def camelFitsRow : OpenClaim := { program := "ytnlfjchbhgikaaa", sum := "e15edb73f5696332e202f390aedf3bf7f3c011c4f8f0664366de7f9f236c4424", func := "azalai/azalailaw01.CamelFits", spec := "camelFits", unfollowed := true, recurses := true, apart := false }
def CamelFitsSaid : Prop := camelFitsRow.holds Try.pinned (OpenSpec.ofChange camelFitsSpec)

/-- ITS FALSE NEIGHBOUR: 'it returns false'. Refute it at one input. -/
def camelFitsWrong : ChangeSpec := { name := "camelFits", fn := fun _ => fun
  | [d1, d2, d3] => { results := [.lit (.bool false)], args := [d1, d2, d3] }
  | _ => none }
def CamelFitsWrongFalsely : Prop := camelFitsRow.holds Try.pinned (OpenSpec.ofChange camelFitsWrong)

/-- 'azalailaw01.CamelLoads': WHATEVER THE INPUT: true; the input reads as it did. -/
def camelLoadsSpec : ChangeSpec := { name := "camelLoads", fn := fun _ => fun
  | [d1, d2, d3, d4] => { results := [.lit (.bool true)], args := [d1, d2, d3, d4] }
  | _ => none }
def camelLoadsRow : OpenClaim := { program := "ytnlfjchbhgikaaa", sum := "e15edb73f5696332e202f390aedf3bf7f3c011c4f8f0664366de7f9f236c4424", func := "azalai/azalailaw01.CamelLoads", spec := "camelLoads", unfollowed := true, recurses := true, apart := false }
def CamelLoadsSaid : Prop := camelLoadsRow.holds Try.pinned (OpenSpec.ofChange camelLoadsSpec)

/-- ITS FALSE NEIGHBOUR: 'it returns false'. Refute it at one input. -/
def camelLoadsWrong : ChangeSpec := { name := "camelLoads", fn := fun _ => fun
  | [d1, d2, d3, d4] => { results := [.lit (.bool false)], args := [d1, d2, d3, d4] }
  | _ => none }
def CamelLoadsWrongFalsely : Prop := camelLoadsRow.holds Try.pinned (OpenSpec.ofChange camelLoadsWrong)

/-- 'azalailaw01.CamelDays': WHATEVER THE INPUT: true; the input reads as it did. -/
def camelDaysSpec : ChangeSpec := { name := "camelDays", fn := fun _ => fun
  | [d1, d2, d3, d4] => { results := [.lit (.bool true)], args := [d1, d2, d3, d4] }
  | _ => none }
def camelDaysRow : OpenClaim := { program := "ytnlfjchbhgikaaa", sum := "e15edb73f5696332e202f390aedf3bf7f3c011c4f8f0664366de7f9f236c4424", func := "azalai/azalailaw01.CamelDays", spec := "camelDays", unfollowed := true, recurses := true, apart := false }
def CamelDaysSaid : Prop := camelDaysRow.holds Try.pinned (OpenSpec.ofChange camelDaysSpec)

/-- ITS FALSE NEIGHBOUR: 'it returns false'. Refute it at one input. -/
def camelDaysWrong : ChangeSpec := { name := "camelDays", fn := fun _ => fun
  | [d1, d2, d3, d4] => { results := [.lit (.bool false)], args := [d1, d2, d3, d4] }
  | _ => none }
def CamelDaysWrongFalsely : Prop := camelDaysRow.holds Try.pinned (OpenSpec.ofChange camelDaysWrong)

/-- 'azalailaw01.CamelMange': WHATEVER THE INPUT: true; the input reads as it did. -/
def camelMangeSpec : ChangeSpec := { name := "camelMange", fn := fun _ => fun
  | [d1, d2, d3, d4, d5] => { results := [.lit (.bool true)], args := [d1, d2, d3, d4, d5] }
  | _ => none }
def camelMangeRow : OpenClaim := { program := "ytnlfjchbhgikaaa", sum := "e15edb73f5696332e202f390aedf3bf7f3c011c4f8f0664366de7f9f236c4424", func := "azalai/azalailaw01.CamelMange", spec := "camelMange", unfollowed := true, recurses := true, apart := false }
def CamelMangeSaid : Prop := camelMangeRow.holds Try.pinned (OpenSpec.ofChange camelMangeSpec)

/-- ITS FALSE NEIGHBOUR: 'it returns false'. Refute it at one input. -/
def camelMangeWrong : ChangeSpec := { name := "camelMange", fn := fun _ => fun
  | [d1, d2, d3, d4, d5] => { results := [.lit (.bool false)], args := [d1, d2, d3, d4, d5] }
  | _ => none }
def CamelMangeWrongFalsely : Prop := camelMangeRow.holds Try.pinned (OpenSpec.ofChange camelMangeWrong)

/-- 'azalailaw01.CamelTrue': WHATEVER THE INPUT: true; the input reads as it did. -/
def camelTrueSpec : ChangeSpec := { name := "camelTrue", fn := fun _ => fun
  | [d1, d2, d3, d4] => { results := [.lit (.bool true)], args := [d1, d2, d3, d4] }
  | _ => none }
def camelTrueRow : OpenClaim := { program := "ytnlfjchbhgikaaa", sum := "e15edb73f5696332e202f390aedf3bf7f3c011c4f8f0664366de7f9f236c4424", func := "azalai/azalailaw01.CamelTrue", spec := "camelTrue", unfollowed := true, recurses := true, apart := false }
def CamelTrueSaid : Prop := camelTrueRow.holds Try.pinned (OpenSpec.ofChange camelTrueSpec)

/-- ITS FALSE NEIGHBOUR: 'it returns false'. Refute it at one input. -/
def camelTrueWrong : ChangeSpec := { name := "camelTrue", fn := fun _ => fun
  | [d1, d2, d3, d4] => { results := [.lit (.bool false)], args := [d1, d2, d3, d4] }
  | _ => none }
def CamelTrueWrongFalsely : Prop := camelTrueRow.holds Try.pinned (OpenSpec.ofChange camelTrueWrong)

/-- 'azalailaw01.CamelNarrow': WHATEVER THE INPUT: true; the input reads as it did. -/
def camelNarrowSpec : ChangeSpec := { name := "camelNarrow", fn := fun _ => fun
  | [d1, d2, d3, d4] => { results := [.lit (.bool true)], args := [d1, d2, d3, d4] }
  | _ => none }
def camelNarrowRow : OpenClaim := { program := "ytnlfjchbhgikaaa", sum := "e15edb73f5696332e202f390aedf3bf7f3c011c4f8f0664366de7f9f236c4424", func := "azalai/azalailaw01.CamelNarrow", spec := "camelNarrow", unfollowed := true, recurses := true, apart := false }
def CamelNarrowSaid : Prop := camelNarrowRow.holds Try.pinned (OpenSpec.ofChange camelNarrowSpec)

/-- ITS FALSE NEIGHBOUR: 'it returns false'. Refute it at one input. -/
def camelNarrowWrong : ChangeSpec := { name := "camelNarrow", fn := fun _ => fun
  | [d1, d2, d3, d4] => { results := [.lit (.bool false)], args := [d1, d2, d3, d4] }
  | _ => none }
def CamelNarrowWrongFalsely : Prop := camelNarrowRow.holds Try.pinned (OpenSpec.ofChange camelNarrowWrong)

/-- 'azalailaw01.CamelLighter': WHATEVER THE INPUT: true; the input reads as it did. -/
def camelLighterSpec : ChangeSpec := { name := "camelLighter", fn := fun _ => fun
  | [d1, d2, d3, d4] => { results := [.lit (.bool true)], args := [d1, d2, d3, d4] }
  | _ => none }
def camelLighterRow : OpenClaim := { program := "ytnlfjchbhgikaaa", sum := "e15edb73f5696332e202f390aedf3bf7f3c011c4f8f0664366de7f9f236c4424", func := "azalai/azalailaw01.CamelLighter", spec := "camelLighter", unfollowed := true, recurses := true, apart := false }
def CamelLighterSaid : Prop := camelLighterRow.holds Try.pinned (OpenSpec.ofChange camelLighterSpec)

/-- ITS FALSE NEIGHBOUR: 'it returns false'. Refute it at one input. -/
def camelLighterWrong : ChangeSpec := { name := "camelLighter", fn := fun _ => fun
  | [d1, d2, d3, d4] => { results := [.lit (.bool false)], args := [d1, d2, d3, d4] }
  | _ => none }
def CamelLighterWrongFalsely : Prop := camelLighterRow.holds Try.pinned (OpenSpec.ofChange camelLighterWrong)

/-- 'azalailaw01.CamelSick': WHATEVER THE INPUT: true; the input reads as it did. -/
def camelSickSpec : ChangeSpec := { name := "camelSick", fn := fun _ => fun
  | [d1, d2, d3, d4, d5, d6] => { results := [.lit (.bool true)], args := [d1, d2, d3, d4, d5, d6] }
  | _ => none }
def camelSickRow : OpenClaim := { program := "ytnlfjchbhgikaaa", sum := "e15edb73f5696332e202f390aedf3bf7f3c011c4f8f0664366de7f9f236c4424", func := "azalai/azalailaw01.CamelSick", spec := "camelSick", unfollowed := true, recurses := true, apart := false }
def CamelSickSaid : Prop := camelSickRow.holds Try.pinned (OpenSpec.ofChange camelSickSpec)

/-- ITS FALSE NEIGHBOUR: 'it returns false'. Refute it at one input. -/
def camelSickWrong : ChangeSpec := { name := "camelSick", fn := fun _ => fun
  | [d1, d2, d3, d4, d5, d6] => { results := [.lit (.bool false)], args := [d1, d2, d3, d4, d5, d6] }
  | _ => none }
def CamelSickWrongFalsely : Prop := camelSickRow.holds Try.pinned (OpenSpec.ofChange camelSickWrong)

/-- 'azalailaw01.CamelOpen': WHATEVER THE INPUT: true; the input reads as it did. -/
def camelOpenSpec : ChangeSpec := { name := "camelOpen", fn := fun _ => fun
  | [d1, d2, d3, d4, d5] => { results := [.lit (.bool true)], args := [d1, d2, d3, d4, d5] }
  | _ => none }
def camelOpenRow : OpenClaim := { program := "ytnlfjchbhgikaaa", sum := "e15edb73f5696332e202f390aedf3bf7f3c011c4f8f0664366de7f9f236c4424", func := "azalai/azalailaw01.CamelOpen", spec := "camelOpen", unfollowed := true, recurses := true, apart := false }
def CamelOpenSaid : Prop := camelOpenRow.holds Try.pinned (OpenSpec.ofChange camelOpenSpec)

/-- ITS FALSE NEIGHBOUR: 'it returns false'. Refute it at one input. -/
def camelOpenWrong : ChangeSpec := { name := "camelOpen", fn := fun _ => fun
  | [d1, d2, d3, d4, d5] => { results := [.lit (.bool false)], args := [d1, d2, d3, d4, d5] }
  | _ => none }
def CamelOpenWrongFalsely : Prop := camelOpenRow.holds Try.pinned (OpenSpec.ofChange camelOpenWrong)

/-- 'azalailaw01.CamelHeavy': WHATEVER THE INPUT: true; the input reads as it did. -/
def camelHeavySpec : ChangeSpec := { name := "camelHeavy", fn := fun _ => fun
  | [d1, d2, d3, d4] => { results := [.lit (.bool true)], args := [d1, d2, d3, d4] }
  | _ => none }
def camelHeavyRow : OpenClaim := { program := "ytnlfjchbhgikaaa", sum := "e15edb73f5696332e202f390aedf3bf7f3c011c4f8f0664366de7f9f236c4424", func := "azalai/azalailaw01.CamelHeavy", spec := "camelHeavy", unfollowed := true, recurses := true, apart := false }
def CamelHeavySaid : Prop := camelHeavyRow.holds Try.pinned (OpenSpec.ofChange camelHeavySpec)

/-- ITS FALSE NEIGHBOUR: 'it returns false'. Refute it at one input. -/
def camelHeavyWrong : ChangeSpec := { name := "camelHeavy", fn := fun _ => fun
  | [d1, d2, d3, d4] => { results := [.lit (.bool false)], args := [d1, d2, d3, d4] }
  | _ => none }
def CamelHeavyWrongFalsely : Prop := camelHeavyRow.holds Try.pinned (OpenSpec.ofChange camelHeavyWrong)

/-- 'azalailaw01.CamelExamples': WHATEVER THE INPUT: true; the input reads as it did. -/
def camelExamplesSpec : ChangeSpec := { name := "camelExamples", fn := fun _ => fun
  | [] => { results := [.lit (.bool true)], args := [] }
  | _ => none }
def camelExamplesRow : OpenClaim := { program := "ytnlfjchbhgikaaa", sum := "e15edb73f5696332e202f390aedf3bf7f3c011c4f8f0664366de7f9f236c4424", func := "azalai/azalailaw01.CamelExamples", spec := "camelExamples", unfollowed := true, recurses := true, apart := false }
def CamelExamplesSaid : Prop := camelExamplesRow.holds Try.pinned (OpenSpec.ofChange camelExamplesSpec)

/-- ITS FALSE NEIGHBOUR: 'it returns false'. Refute it at one input. -/
def camelExamplesWrong : ChangeSpec := { name := "camelExamples", fn := fun _ => fun
  | [] => { results := [.lit (.bool false)], args := [] }
  | _ => none }
def CamelExamplesWrongFalsely : Prop := camelExamplesRow.holds Try.pinned (OpenSpec.ofChange camelExamplesWrong)

/- THE SECOND FORM. 'bulk': how many values and letters a reading holds, each counted each time it is reached (what is shared counts as often as it is met; a slice's spare places count too). A statement '..UptoSaid' is the law's where the arguments, and the package variables that the reading takes, are together of bulk at most 1048576: NARROWER than '..Said'. Prove '..Said' where nothing that the law and all that it calls make is longer than what came in: it says more and counts as full. Else prove '..UptoSaid'. A law counts once. -/
mutual
def uptoBulk {H : Type} : DataW H → Nat
  | .lit (.string bytes) => bytes.length + 1
  | .lit _ => 1
  | .nil => 1
  | .ptr d => uptoBulk d + 1
  | .slice elems spare => uptoBulkAll elems + uptoBulkAll spare + 1
  | .agg parts => uptoBulkAll parts + 1
  | .iface _ d => uptoBulk d + 1
  | .map entries => uptoBulkEntries entries + 1
  | .held _ => 1
def uptoBulkAll {H : Type} : List (DataW H) → Nat
  | [] => 0
  | d :: r => uptoBulk d + uptoBulkAll r
def uptoBulkEntries {H : Type} : List (Lit × DataW H) → Nat
  | [] => 0
  | x :: r => uptoBulkEntry x + uptoBulkEntries r
def uptoBulkEntry {H : Type} : Lit × DataW H → Nat
  | (.string bytes, d) => bytes.length + uptoBulk d + 1
  | (_, d) => uptoBulk d + 1
 end
def uptoSmall : (H : Type) → List (DataW H) → Bool := fun _ ds => decide (uptoBulkAll ds ≤ 1048576)
def OpenSpec.upto (s : _root_.Go.ChangeSpec) : _root_.Go.OpenSpec := { _root_.Go.OpenSpec.ofChange s with cond := some uptoSmall }

/-- 'azalailaw01.CamelFits', WHERE WHAT IT READS IS OF BULK AT MOST 1048576: true; the input reads as it did. -/
def camelFitsUptoRow : OpenClaim := { program := "ytnlfjchbhgikaaa", sum := "e15edb73f5696332e202f390aedf3bf7f3c011c4f8f0664366de7f9f236c4424", func := "azalai/azalailaw01.CamelFits", spec := "camelFits", unfollowed := true, recurses := true, apart := false, narrowed := true }
def CamelFitsUptoSaid : Prop := camelFitsUptoRow.holds Try.pinned (OpenSpec.upto camelFitsSpec)

/-- 'azalailaw01.CamelLoads', WHERE WHAT IT READS IS OF BULK AT MOST 1048576: true; the input reads as it did. -/
def camelLoadsUptoRow : OpenClaim := { program := "ytnlfjchbhgikaaa", sum := "e15edb73f5696332e202f390aedf3bf7f3c011c4f8f0664366de7f9f236c4424", func := "azalai/azalailaw01.CamelLoads", spec := "camelLoads", unfollowed := true, recurses := true, apart := false, narrowed := true }
def CamelLoadsUptoSaid : Prop := camelLoadsUptoRow.holds Try.pinned (OpenSpec.upto camelLoadsSpec)

/-- 'azalailaw01.CamelDays', WHERE WHAT IT READS IS OF BULK AT MOST 1048576: true; the input reads as it did. -/
def camelDaysUptoRow : OpenClaim := { program := "ytnlfjchbhgikaaa", sum := "e15edb73f5696332e202f390aedf3bf7f3c011c4f8f0664366de7f9f236c4424", func := "azalai/azalailaw01.CamelDays", spec := "camelDays", unfollowed := true, recurses := true, apart := false, narrowed := true }
def CamelDaysUptoSaid : Prop := camelDaysUptoRow.holds Try.pinned (OpenSpec.upto camelDaysSpec)

/-- 'azalailaw01.CamelMange', WHERE WHAT IT READS IS OF BULK AT MOST 1048576: true; the input reads as it did. -/
def camelMangeUptoRow : OpenClaim := { program := "ytnlfjchbhgikaaa", sum := "e15edb73f5696332e202f390aedf3bf7f3c011c4f8f0664366de7f9f236c4424", func := "azalai/azalailaw01.CamelMange", spec := "camelMange", unfollowed := true, recurses := true, apart := false, narrowed := true }
def CamelMangeUptoSaid : Prop := camelMangeUptoRow.holds Try.pinned (OpenSpec.upto camelMangeSpec)

/-- 'azalailaw01.CamelTrue', WHERE WHAT IT READS IS OF BULK AT MOST 1048576: true; the input reads as it did. -/
def camelTrueUptoRow : OpenClaim := { program := "ytnlfjchbhgikaaa", sum := "e15edb73f5696332e202f390aedf3bf7f3c011c4f8f0664366de7f9f236c4424", func := "azalai/azalailaw01.CamelTrue", spec := "camelTrue", unfollowed := true, recurses := true, apart := false, narrowed := true }
def CamelTrueUptoSaid : Prop := camelTrueUptoRow.holds Try.pinned (OpenSpec.upto camelTrueSpec)

/-- 'azalailaw01.CamelNarrow', WHERE WHAT IT READS IS OF BULK AT MOST 1048576: true; the input reads as it did. -/
def camelNarrowUptoRow : OpenClaim := { program := "ytnlfjchbhgikaaa", sum := "e15edb73f5696332e202f390aedf3bf7f3c011c4f8f0664366de7f9f236c4424", func := "azalai/azalailaw01.CamelNarrow", spec := "camelNarrow", unfollowed := true, recurses := true, apart := false, narrowed := true }
def CamelNarrowUptoSaid : Prop := camelNarrowUptoRow.holds Try.pinned (OpenSpec.upto camelNarrowSpec)

/-- 'azalailaw01.CamelLighter', WHERE WHAT IT READS IS OF BULK AT MOST 1048576: true; the input reads as it did. -/
def camelLighterUptoRow : OpenClaim := { program := "ytnlfjchbhgikaaa", sum := "e15edb73f5696332e202f390aedf3bf7f3c011c4f8f0664366de7f9f236c4424", func := "azalai/azalailaw01.CamelLighter", spec := "camelLighter", unfollowed := true, recurses := true, apart := false, narrowed := true }
def CamelLighterUptoSaid : Prop := camelLighterUptoRow.holds Try.pinned (OpenSpec.upto camelLighterSpec)

/-- 'azalailaw01.CamelSick', WHERE WHAT IT READS IS OF BULK AT MOST 1048576: true; the input reads as it did. -/
def camelSickUptoRow : OpenClaim := { program := "ytnlfjchbhgikaaa", sum := "e15edb73f5696332e202f390aedf3bf7f3c011c4f8f0664366de7f9f236c4424", func := "azalai/azalailaw01.CamelSick", spec := "camelSick", unfollowed := true, recurses := true, apart := false, narrowed := true }
def CamelSickUptoSaid : Prop := camelSickUptoRow.holds Try.pinned (OpenSpec.upto camelSickSpec)

/-- 'azalailaw01.CamelOpen', WHERE WHAT IT READS IS OF BULK AT MOST 1048576: true; the input reads as it did. -/
def camelOpenUptoRow : OpenClaim := { program := "ytnlfjchbhgikaaa", sum := "e15edb73f5696332e202f390aedf3bf7f3c011c4f8f0664366de7f9f236c4424", func := "azalai/azalailaw01.CamelOpen", spec := "camelOpen", unfollowed := true, recurses := true, apart := false, narrowed := true }
def CamelOpenUptoSaid : Prop := camelOpenUptoRow.holds Try.pinned (OpenSpec.upto camelOpenSpec)

/-- 'azalailaw01.CamelHeavy', WHERE WHAT IT READS IS OF BULK AT MOST 1048576: true; the input reads as it did. -/
def camelHeavyUptoRow : OpenClaim := { program := "ytnlfjchbhgikaaa", sum := "e15edb73f5696332e202f390aedf3bf7f3c011c4f8f0664366de7f9f236c4424", func := "azalai/azalailaw01.CamelHeavy", spec := "camelHeavy", unfollowed := true, recurses := true, apart := false, narrowed := true }
def CamelHeavyUptoSaid : Prop := camelHeavyUptoRow.holds Try.pinned (OpenSpec.upto camelHeavySpec)

/-- 'azalailaw01.CamelExamples', WHERE WHAT IT READS IS OF BULK AT MOST 1048576: true; the input reads as it did. -/
def camelExamplesUptoRow : OpenClaim := { program := "ytnlfjchbhgikaaa", sum := "e15edb73f5696332e202f390aedf3bf7f3c011c4f8f0664366de7f9f236c4424", func := "azalai/azalailaw01.CamelExamples", spec := "camelExamples", unfollowed := true, recurses := true, apart := false, narrowed := true }
def CamelExamplesUptoSaid : Prop := camelExamplesUptoRow.holds Try.pinned (OpenSpec.upto camelExamplesSpec)

end Rows
end Go.Proofs.Ytnlfjchbhgikaaa
