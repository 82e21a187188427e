/-
  No cell of these rows narrows 'for every input' (looked for: loops, veiled, ifaces, maps, wideKeys, modest, calm, conditions, laid).
  DERIVED. THE GIVEN ROWS OF THIS SEAT. 13 by the template 'for every input the law returns true; each argument reads behind the call as it read before'; 0 by the template 'total and deterministic' (their statements: YthilckbkffjliaaTotals.lean).
  GIVEN WITH THE SEED: the statements are not yours to turn. If you find one false, say at which input.
  Laid BY PROGRAM, IN A SANDBOX (cutbox-rows.mjs): the forced cells as the released guide's own fill.sh prints them over the translation 7a55d5c539df8411… (all of the seat's roots in one cut). By AI agents, Wed Nov 11 2026. No macro, syntax, notation, axiom, sorry.
-/
import Derived.Test.YthilckbkffjliaaChecked
import GoSem.Claim
import GoSem.ClaimJoined
import GoSem.ClaimMapViews
import Derived.JoinedTies
import Derived.KernelRfl
namespace Go.Proofs.Ythilckbkffjliaa
/- THE CELL 'sum', in the pinned program and in every row, IS THE sha256 OF THE DUMP (.gsa) THAT YthilckbkffjliaaProg.lean LOADS. Nothing in Lean hashes anything: it is a label: what it is worth is what the hold of that sum in a sandbox is worth. -/
noncomputable def Try.pinned : Pinned := { name := "ythilckbkffjliaa", sum := "7a55d5c539df8411208761e7bf3b7cacbe410d6a0cd9024f2d39c916a6f96e60", checked := Try.checked }
namespace Rows
def none {H : Type} : Left H := { results := [], args := [] }

/-- 'azalailaw08.ShareDivides': WHATEVER THE INPUT: true; the input reads as it did. -/
def shareDividesSpec : ChangeSpec := { name := "shareDivides", fn := fun _ => fun
  | [d1, d2] => { results := [.lit (.bool true)], args := [d1, d2] }
  | _ => none }
def shareDividesRow : OpenClaim := { program := "ythilckbkffjliaa", sum := "7a55d5c539df8411208761e7bf3b7cacbe410d6a0cd9024f2d39c916a6f96e60", func := "azalai/azalailaw08.ShareDivides", spec := "shareDivides", unfollowed := true, recurses := true, plainKeys := false, apart := false }
def ShareDividesSaid : Prop := shareDividesRow.holds Try.pinned (OpenSpec.ofChange shareDividesSpec)

/-- ITS FALSE NEIGHBOUR: 'it returns false'. Refute it at one input. -/
def shareDividesWrong : ChangeSpec := { name := "shareDivides", fn := fun _ => fun
  | [d1, d2] => { results := [.lit (.bool false)], args := [d1, d2] }
  | _ => none }
def ShareDividesWrongFalsely : Prop := shareDividesRow.holds Try.pinned (OpenSpec.ofChange shareDividesWrong)

/-- 'azalailaw08.ShareReads': WHATEVER THE INPUT: true; the input reads as it did. -/
def shareReadsSpec : ChangeSpec := { name := "shareReads", fn := fun _ => fun
  | [d1, d2, d3, d4] => { results := [.lit (.bool true)], args := [d1, d2, d3, d4] }
  | _ => none }
def shareReadsRow : OpenClaim := { program := "ythilckbkffjliaa", sum := "7a55d5c539df8411208761e7bf3b7cacbe410d6a0cd9024f2d39c916a6f96e60", func := "azalai/azalailaw08.ShareReads", spec := "shareReads", unfollowed := true, recurses := true, plainKeys := false, apart := false }
def ShareReadsSaid : Prop := shareReadsRow.holds Try.pinned (OpenSpec.ofChange shareReadsSpec)

/-- ITS FALSE NEIGHBOUR: 'it returns false'. Refute it at one input. -/
def shareReadsWrong : ChangeSpec := { name := "shareReads", fn := fun _ => fun
  | [d1, d2, d3, d4] => { results := [.lit (.bool false)], args := [d1, d2, d3, d4] }
  | _ => none }
def ShareReadsWrongFalsely : Prop := shareReadsRow.holds Try.pinned (OpenSpec.ofChange shareReadsWrong)

/-- 'azalailaw08.ShareSettles': WHATEVER THE INPUT: true; the input reads as it did. -/
def shareSettlesSpec : ChangeSpec := { name := "shareSettles", fn := fun _ => fun
  | [d1, d2] => { results := [.lit (.bool true)], args := [d1, d2] }
  | _ => none }
def shareSettlesRow : OpenClaim := { program := "ythilckbkffjliaa", sum := "7a55d5c539df8411208761e7bf3b7cacbe410d6a0cd9024f2d39c916a6f96e60", func := "azalai/azalailaw08.ShareSettles", spec := "shareSettles", unfollowed := true, recurses := true, plainKeys := false, apart := false }
def ShareSettlesSaid : Prop := shareSettlesRow.holds Try.pinned (OpenSpec.ofChange shareSettlesSpec)

/-- ITS FALSE NEIGHBOUR: 'it returns false'. Refute it at one input. -/
def shareSettlesWrong : ChangeSpec := { name := "shareSettles", fn := fun _ => fun
  | [d1, d2] => { results := [.lit (.bool false)], args := [d1, d2] }
  | _ => none }
def ShareSettlesWrongFalsely : Prop := shareSettlesRow.holds Try.pinned (OpenSpec.ofChange shareSettlesWrong)

/-- 'azalailaw08.ShareAnyOrder': WHATEVER THE INPUT: true; the input reads as it did. -/
def shareAnyOrderSpec : ChangeSpec := { name := "shareAnyOrder", fn := fun _ => fun
  | [d1, d2, d3] => { results := [.lit (.bool true)], args := [d1, d2, d3] }
  | _ => none }
def shareAnyOrderRow : OpenClaim := { program := "ythilckbkffjliaa", sum := "7a55d5c539df8411208761e7bf3b7cacbe410d6a0cd9024f2d39c916a6f96e60", func := "azalai/azalailaw08.ShareAnyOrder", spec := "shareAnyOrder", unfollowed := true, recurses := true, plainKeys := false, apart := false }
def ShareAnyOrderSaid : Prop := shareAnyOrderRow.holds Try.pinned (OpenSpec.ofChange shareAnyOrderSpec)

/-- ITS FALSE NEIGHBOUR: 'it returns false'. Refute it at one input. -/
def shareAnyOrderWrong : ChangeSpec := { name := "shareAnyOrder", fn := fun _ => fun
  | [d1, d2, d3] => { results := [.lit (.bool false)], args := [d1, d2, d3] }
  | _ => none }
def ShareAnyOrderWrongFalsely : Prop := shareAnyOrderRow.holds Try.pinned (OpenSpec.ofChange shareAnyOrderWrong)

/-- 'azalailaw08.ShareCalf': WHATEVER THE INPUT: true; the input reads as it did. -/
def shareCalfSpec : ChangeSpec := { name := "shareCalf", fn := fun _ => fun
  | [d1, d2, d3] => { results := [.lit (.bool true)], args := [d1, d2, d3] }
  | _ => none }
def shareCalfRow : OpenClaim := { program := "ythilckbkffjliaa", sum := "7a55d5c539df8411208761e7bf3b7cacbe410d6a0cd9024f2d39c916a6f96e60", func := "azalai/azalailaw08.ShareCalf", spec := "shareCalf", unfollowed := true, recurses := true, plainKeys := false, apart := false }
def ShareCalfSaid : Prop := shareCalfRow.holds Try.pinned (OpenSpec.ofChange shareCalfSpec)

/-- ITS FALSE NEIGHBOUR: 'it returns false'. Refute it at one input. -/
def shareCalfWrong : ChangeSpec := { name := "shareCalf", fn := fun _ => fun
  | [d1, d2, d3] => { results := [.lit (.bool false)], args := [d1, d2, d3] }
  | _ => none }
def ShareCalfWrongFalsely : Prop := shareCalfRow.holds Try.pinned (OpenSpec.ofChange shareCalfWrong)

/-- 'azalailaw08.ShareKept': WHATEVER THE INPUT: true; the input reads as it did. -/
def shareKeptSpec : ChangeSpec := { name := "shareKept", fn := fun _ => fun
  | [d1, d2] => { results := [.lit (.bool true)], args := [d1, d2] }
  | _ => none }
def shareKeptRow : OpenClaim := { program := "ythilckbkffjliaa", sum := "7a55d5c539df8411208761e7bf3b7cacbe410d6a0cd9024f2d39c916a6f96e60", func := "azalai/azalailaw08.ShareKept", spec := "shareKept", unfollowed := true, recurses := true, plainKeys := false, apart := false }
def ShareKeptSaid : Prop := shareKeptRow.holds Try.pinned (OpenSpec.ofChange shareKeptSpec)

/-- ITS FALSE NEIGHBOUR: 'it returns false'. Refute it at one input. -/
def shareKeptWrong : ChangeSpec := { name := "shareKept", fn := fun _ => fun
  | [d1, d2] => { results := [.lit (.bool false)], args := [d1, d2] }
  | _ => none }
def ShareKeptWrongFalsely : Prop := shareKeptRow.holds Try.pinned (OpenSpec.ofChange shareKeptWrong)

/-- 'azalailaw08.ShareFair': WHATEVER THE INPUT: true; the input reads as it did. -/
def shareFairSpec : ChangeSpec := { name := "shareFair", fn := fun _ => fun
  | [d1, d2] => { results := [.lit (.bool true)], args := [d1, d2] }
  | _ => none }
def shareFairRow : OpenClaim := { program := "ythilckbkffjliaa", sum := "7a55d5c539df8411208761e7bf3b7cacbe410d6a0cd9024f2d39c916a6f96e60", func := "azalai/azalailaw08.ShareFair", spec := "shareFair", unfollowed := true, recurses := true, plainKeys := false, apart := false }
def ShareFairSaid : Prop := shareFairRow.holds Try.pinned (OpenSpec.ofChange shareFairSpec)

/-- ITS FALSE NEIGHBOUR: 'it returns false'. Refute it at one input. -/
def shareFairWrong : ChangeSpec := { name := "shareFair", fn := fun _ => fun
  | [d1, d2] => { results := [.lit (.bool false)], args := [d1, d2] }
  | _ => none }
def ShareFairWrongFalsely : Prop := shareFairRow.holds Try.pinned (OpenSpec.ofChange shareFairWrong)

/-- 'azalailaw08.ShareVoid': WHATEVER THE INPUT: true; the input reads as it did. -/
def shareVoidSpec : ChangeSpec := { name := "shareVoid", fn := fun _ => fun
  | [d1, d2, d3] => { results := [.lit (.bool true)], args := [d1, d2, d3] }
  | _ => none }
def shareVoidRow : OpenClaim := { program := "ythilckbkffjliaa", sum := "7a55d5c539df8411208761e7bf3b7cacbe410d6a0cd9024f2d39c916a6f96e60", func := "azalai/azalailaw08.ShareVoid", spec := "shareVoid", unfollowed := true, recurses := true, plainKeys := false, apart := false }
def ShareVoidSaid : Prop := shareVoidRow.holds Try.pinned (OpenSpec.ofChange shareVoidSpec)

/-- ITS FALSE NEIGHBOUR: 'it returns false'. Refute it at one input. -/
def shareVoidWrong : ChangeSpec := { name := "shareVoid", fn := fun _ => fun
  | [d1, d2, d3] => { results := [.lit (.bool false)], args := [d1, d2, d3] }
  | _ => none }
def ShareVoidWrongFalsely : Prop := shareVoidRow.holds Try.pinned (OpenSpec.ofChange shareVoidWrong)

/-- 'azalailaw08.ShareLate': WHATEVER THE INPUT: true; the input reads as it did. -/
def shareLateSpec : ChangeSpec := { name := "shareLate", fn := fun _ => fun
  | [d1, d2, d3] => { results := [.lit (.bool true)], args := [d1, d2, d3] }
  | _ => none }
def shareLateRow : OpenClaim := { program := "ythilckbkffjliaa", sum := "7a55d5c539df8411208761e7bf3b7cacbe410d6a0cd9024f2d39c916a6f96e60", func := "azalai/azalailaw08.ShareLate", spec := "shareLate", unfollowed := true, recurses := true, plainKeys := false, apart := false }
def ShareLateSaid : Prop := shareLateRow.holds Try.pinned (OpenSpec.ofChange shareLateSpec)

/-- ITS FALSE NEIGHBOUR: 'it returns false'. Refute it at one input. -/
def shareLateWrong : ChangeSpec := { name := "shareLate", fn := fun _ => fun
  | [d1, d2, d3] => { results := [.lit (.bool false)], args := [d1, d2, d3] }
  | _ => none }
def ShareLateWrongFalsely : Prop := shareLateRow.holds Try.pinned (OpenSpec.ofChange shareLateWrong)

/-- 'azalailaw08.ShareMouth': WHATEVER THE INPUT: true; the input reads as it did. -/
def shareMouthSpec : ChangeSpec := { name := "shareMouth", fn := fun _ => fun
  | [d1, d2, d3] => { results := [.lit (.bool true)], args := [d1, d2, d3] }
  | _ => none }
def shareMouthRow : OpenClaim := { program := "ythilckbkffjliaa", sum := "7a55d5c539df8411208761e7bf3b7cacbe410d6a0cd9024f2d39c916a6f96e60", func := "azalai/azalailaw08.ShareMouth", spec := "shareMouth", unfollowed := true, recurses := true, plainKeys := false, apart := false }
def ShareMouthSaid : Prop := shareMouthRow.holds Try.pinned (OpenSpec.ofChange shareMouthSpec)

/-- ITS FALSE NEIGHBOUR: 'it returns false'. Refute it at one input. -/
def shareMouthWrong : ChangeSpec := { name := "shareMouth", fn := fun _ => fun
  | [d1, d2, d3] => { results := [.lit (.bool false)], args := [d1, d2, d3] }
  | _ => none }
def ShareMouthWrongFalsely : Prop := shareMouthRow.holds Try.pinned (OpenSpec.ofChange shareMouthWrong)

/-- 'azalailaw08.ShareAlone': WHATEVER THE INPUT: true; the input reads as it did. -/
def shareAloneSpec : ChangeSpec := { name := "shareAlone", fn := fun _ => fun
  | [d1, d2, d3] => { results := [.lit (.bool true)], args := [d1, d2, d3] }
  | _ => none }
def shareAloneRow : OpenClaim := { program := "ythilckbkffjliaa", sum := "7a55d5c539df8411208761e7bf3b7cacbe410d6a0cd9024f2d39c916a6f96e60", func := "azalai/azalailaw08.ShareAlone", spec := "shareAlone", unfollowed := true, recurses := true, plainKeys := false, apart := false }
def ShareAloneSaid : Prop := shareAloneRow.holds Try.pinned (OpenSpec.ofChange shareAloneSpec)

/-- ITS FALSE NEIGHBOUR: 'it returns false'. Refute it at one input. -/
def shareAloneWrong : ChangeSpec := { name := "shareAlone", fn := fun _ => fun
  | [d1, d2, d3] => { results := [.lit (.bool false)], args := [d1, d2, d3] }
  | _ => none }
def ShareAloneWrongFalsely : Prop := shareAloneRow.holds Try.pinned (OpenSpec.ofChange shareAloneWrong)

/-- 'azalailaw08.ShareExamples': WHATEVER THE INPUT: true; the input reads as it did. -/
def shareExamplesSpec : ChangeSpec := { name := "shareExamples", fn := fun _ => fun
  | [] => { results := [.lit (.bool true)], args := [] }
  | _ => none }
def shareExamplesRow : OpenClaim := { program := "ythilckbkffjliaa", sum := "7a55d5c539df8411208761e7bf3b7cacbe410d6a0cd9024f2d39c916a6f96e60", func := "azalai/azalailaw08.ShareExamples", spec := "shareExamples", unfollowed := true, recurses := true, plainKeys := false, apart := false }
def ShareExamplesSaid : Prop := shareExamplesRow.holds Try.pinned (OpenSpec.ofChange shareExamplesSpec)

/-- ITS FALSE NEIGHBOUR: 'it returns false'. Refute it at one input. -/
def shareExamplesWrong : ChangeSpec := { name := "shareExamples", fn := fun _ => fun
  | [] => { results := [.lit (.bool false)], args := [] }
  | _ => none }
def ShareExamplesWrongFalsely : Prop := shareExamplesRow.holds Try.pinned (OpenSpec.ofChange shareExamplesWrong)

/-- 'azalailaw08.ShareDebts': WHATEVER THE INPUT: true; the input reads as it did. -/
def shareDebtsSpec : ChangeSpec := { name := "shareDebts", fn := fun _ => fun
  | [d1, d2, d3, d4] => { results := [.lit (.bool true)], args := [d1, d2, d3, d4] }
  | _ => none }
def shareDebtsRow : OpenClaim := { program := "ythilckbkffjliaa", sum := "7a55d5c539df8411208761e7bf3b7cacbe410d6a0cd9024f2d39c916a6f96e60", func := "azalai/azalailaw08.ShareDebts", spec := "shareDebts", unfollowed := true, recurses := true, plainKeys := false, apart := false }
def ShareDebtsSaid : Prop := shareDebtsRow.holds Try.pinned (OpenSpec.ofChange shareDebtsSpec)

/-- ITS FALSE NEIGHBOUR: 'it returns false'. Refute it at one input. -/
def shareDebtsWrong : ChangeSpec := { name := "shareDebts", fn := fun _ => fun
  | [d1, d2, d3, d4] => { results := [.lit (.bool false)], args := [d1, d2, d3, d4] }
  | _ => none }
def ShareDebtsWrongFalsely : Prop := shareDebtsRow.holds Try.pinned (OpenSpec.ofChange shareDebtsWrong)

/- THE SECOND FORM. 'bulk': how many values and letters a reading holds, each counted each time it is reached (what is shared counts as often as it is met; a slice's spare places count too). A statement '..UptoSaid' is the law's where the arguments, and the package variables that the reading takes, are together of bulk at most 1048576: NARROWER than '..Said'. Prove '..Said' where nothing that the law and all that it calls make is longer than what came in: it says more and counts as full. Else prove '..UptoSaid'. A law counts once. -/
mutual
def uptoBulk {H : Type} : DataW H → Nat
  | .lit (.string bytes) => bytes.length + 1
  | .lit _ => 1
  | .nil => 1
  | .ptr d => uptoBulk d + 1
  | .slice elems spare => uptoBulkAll elems + uptoBulkAll spare + 1
  | .agg parts => uptoBulkAll parts + 1
  | .iface _ d => uptoBulk d + 1
  | .map entries => uptoBulkEntries entries + 1
  | .held _ => 1
def uptoBulkAll {H : Type} : List (DataW H) → Nat
  | [] => 0
  | d :: r => uptoBulk d + uptoBulkAll r
def uptoBulkEntries {H : Type} : List (Lit × DataW H) → Nat
  | [] => 0
  | x :: r => uptoBulkEntry x + uptoBulkEntries r
def uptoBulkEntry {H : Type} : Lit × DataW H → Nat
  | (.string bytes, d) => bytes.length + uptoBulk d + 1
  | (_, d) => uptoBulk d + 1
 end
def uptoSmall : (H : Type) → List (DataW H) → Bool := fun _ ds => decide (uptoBulkAll ds ≤ 1048576)
def OpenSpec.upto (s : _root_.Go.ChangeSpec) : _root_.Go.OpenSpec := { _root_.Go.OpenSpec.ofChange s with cond := some uptoSmall }

/-- 'azalailaw08.ShareDivides', WHERE WHAT IT READS IS OF BULK AT MOST 1048576: true; the input reads as it did. -/
def shareDividesUptoRow : OpenClaim := { program := "ythilckbkffjliaa", sum := "7a55d5c539df8411208761e7bf3b7cacbe410d6a0cd9024f2d39c916a6f96e60", func := "azalai/azalailaw08.ShareDivides", spec := "shareDivides", unfollowed := true, recurses := true, plainKeys := false, apart := false, narrowed := true }
def ShareDividesUptoSaid : Prop := shareDividesUptoRow.holds Try.pinned (OpenSpec.upto shareDividesSpec)

/-- 'azalailaw08.ShareReads', WHERE WHAT IT READS IS OF BULK AT MOST 1048576: true; the input reads as it did. -/
def shareReadsUptoRow : OpenClaim := { program := "ythilckbkffjliaa", sum := "7a55d5c539df8411208761e7bf3b7cacbe410d6a0cd9024f2d39c916a6f96e60", func := "azalai/azalailaw08.ShareReads", spec := "shareReads", unfollowed := true, recurses := true, plainKeys := false, apart := false, narrowed := true }
def ShareReadsUptoSaid : Prop := shareReadsUptoRow.holds Try.pinned (OpenSpec.upto shareReadsSpec)

/-- 'azalailaw08.ShareSettles', WHERE WHAT IT READS IS OF BULK AT MOST 1048576: true; the input reads as it did. -/
def shareSettlesUptoRow : OpenClaim := { program := "ythilckbkffjliaa", sum := "7a55d5c539df8411208761e7bf3b7cacbe410d6a0cd9024f2d39c916a6f96e60", func := "azalai/azalailaw08.ShareSettles", spec := "shareSettles", unfollowed := true, recurses := true, plainKeys := false, apart := false, narrowed := true }
def ShareSettlesUptoSaid : Prop := shareSettlesUptoRow.holds Try.pinned (OpenSpec.upto shareSettlesSpec)

/-- 'azalailaw08.ShareAnyOrder', WHERE WHAT IT READS IS OF BULK AT MOST 1048576: true; the input reads as it did. -/
def shareAnyOrderUptoRow : OpenClaim := { program := "ythilckbkffjliaa", sum := "7a55d5c539df8411208761e7bf3b7cacbe410d6a0cd9024f2d39c916a6f96e60", func := "azalai/azalailaw08.ShareAnyOrder", spec := "shareAnyOrder", unfollowed := true, recurses := true, plainKeys := false, apart := false, narrowed := true }
def ShareAnyOrderUptoSaid : Prop := shareAnyOrderUptoRow.holds Try.pinned (OpenSpec.upto shareAnyOrderSpec)

/-- 'azalailaw08.ShareCalf', WHERE WHAT IT READS IS OF BULK AT MOST 1048576: true; the input reads as it did. -/
def shareCalfUptoRow : OpenClaim := { program := "ythilckbkffjliaa", sum := "7a55d5c539df8411208761e7bf3b7cacbe410d6a0cd9024f2d39c916a6f96e60", func := "azalai/azalailaw08.ShareCalf", spec := "shareCalf", unfollowed := true, recurses := true, plainKeys := false, apart := false, narrowed := true }
def ShareCalfUptoSaid : Prop := shareCalfUptoRow.holds Try.pinned (OpenSpec.upto shareCalfSpec)

/-- 'azalailaw08.ShareKept', WHERE WHAT IT READS IS OF BULK AT MOST 1048576: true; the input reads as it did. -/
def shareKeptUptoRow : OpenClaim := { program := "ythilckbkffjliaa", sum := "7a55d5c539df8411208761e7bf3b7cacbe410d6a0cd9024f2d39c916a6f96e60", func := "azalai/azalailaw08.ShareKept", spec := "shareKept", unfollowed := true, recurses := true, plainKeys := false, apart := false, narrowed := true }
def ShareKeptUptoSaid : Prop := shareKeptUptoRow.holds Try.pinned (OpenSpec.upto shareKeptSpec)

/-- 'azalailaw08.ShareFair', WHERE WHAT IT READS IS OF BULK AT MOST 1048576: true; the input reads as it did. -/
def shareFairUptoRow : OpenClaim := { program := "ythilckbkffjliaa", sum := "7a55d5c539df8411208761e7bf3b7cacbe410d6a0cd9024f2d39c916a6f96e60", func := "azalai/azalailaw08.ShareFair", spec := "shareFair", unfollowed := true, recurses := true, plainKeys := false, apart := false, narrowed := true }
def ShareFairUptoSaid : Prop := shareFairUptoRow.holds Try.pinned (OpenSpec.upto shareFairSpec)

/-- 'azalailaw08.ShareVoid', WHERE WHAT IT READS IS OF BULK AT MOST 1048576: true; the input reads as it did. -/
def shareVoidUptoRow : OpenClaim := { program := "ythilckbkffjliaa", sum := "7a55d5c539df8411208761e7bf3b7cacbe410d6a0cd9024f2d39c916a6f96e60", func := "azalai/azalailaw08.ShareVoid", spec := "shareVoid", unfollowed := true, recurses := true, plainKeys := false, apart := false, narrowed := true }
def ShareVoidUptoSaid : Prop := shareVoidUptoRow.holds Try.pinned (OpenSpec.upto shareVoidSpec)

/-- 'azalailaw08.ShareLate', WHERE WHAT IT READS IS OF BULK AT MOST 1048576: true; the input reads as it did. -/
def shareLateUptoRow : OpenClaim := { program := "ythilckbkffjliaa", sum := "7a55d5c539df8411208761e7bf3b7cacbe410d6a0cd9024f2d39c916a6f96e60", func := "azalai/azalailaw08.ShareLate", spec := "shareLate", unfollowed := true, recurses := true, plainKeys := false, apart := false, narrowed := true }
def ShareLateUptoSaid : Prop := shareLateUptoRow.holds Try.pinned (OpenSpec.upto shareLateSpec)

/-- 'azalailaw08.ShareMouth', WHERE WHAT IT READS IS OF BULK AT MOST 1048576: true; the input reads as it did. -/
def shareMouthUptoRow : OpenClaim := { program := "ythilckbkffjliaa", sum := "7a55d5c539df8411208761e7bf3b7cacbe410d6a0cd9024f2d39c916a6f96e60", func := "azalai/azalailaw08.ShareMouth", spec := "shareMouth", unfollowed := true, recurses := true, plainKeys := false, apart := false, narrowed := true }
def ShareMouthUptoSaid : Prop := shareMouthUptoRow.holds Try.pinned (OpenSpec.upto shareMouthSpec)

/-- 'azalailaw08.ShareAlone', WHERE WHAT IT READS IS OF BULK AT MOST 1048576: true; the input reads as it did. -/
def shareAloneUptoRow : OpenClaim := { program := "ythilckbkffjliaa", sum := "7a55d5c539df8411208761e7bf3b7cacbe410d6a0cd9024f2d39c916a6f96e60", func := "azalai/azalailaw08.ShareAlone", spec := "shareAlone", unfollowed := true, recurses := true, plainKeys := false, apart := false, narrowed := true }
def ShareAloneUptoSaid : Prop := shareAloneUptoRow.holds Try.pinned (OpenSpec.upto shareAloneSpec)

/-- 'azalailaw08.ShareExamples', WHERE WHAT IT READS IS OF BULK AT MOST 1048576: true; the input reads as it did. -/
def shareExamplesUptoRow : OpenClaim := { program := "ythilckbkffjliaa", sum := "7a55d5c539df8411208761e7bf3b7cacbe410d6a0cd9024f2d39c916a6f96e60", func := "azalai/azalailaw08.ShareExamples", spec := "shareExamples", unfollowed := true, recurses := true, plainKeys := false, apart := false, narrowed := true }
def ShareExamplesUptoSaid : Prop := shareExamplesUptoRow.holds Try.pinned (OpenSpec.upto shareExamplesSpec)

/-- 'azalailaw08.ShareDebts', WHERE WHAT IT READS IS OF BULK AT MOST 1048576: true; the input reads as it did. -/
def shareDebtsUptoRow : OpenClaim := { program := "ythilckbkffjliaa", sum := "7a55d5c539df8411208761e7bf3b7cacbe410d6a0cd9024f2d39c916a6f96e60", func := "azalai/azalailaw08.ShareDebts", spec := "shareDebts", unfollowed := true, recurses := true, plainKeys := false, apart := false, narrowed := true }
def ShareDebtsUptoSaid : Prop := shareDebtsUptoRow.holds Try.pinned (OpenSpec.upto shareDebtsSpec)

end Rows
end Go.Proofs.Ythilckbkffjliaa
