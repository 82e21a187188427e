/-
  NARROWER THAN 'FOR EVERY INPUT', by the rows' own cells (each row's printed sentence says how): TopBears: laid · TopCrumbs: laid · TopFairs: laid · TopWorth: laid.
  DERIVED. THE GIVEN ROWS OF THIS SEAT. 4 by the template 'for every input the law returns true; each argument reads behind the call as it read before'; 0 by the template 'total and deterministic' (their statements: YtkpkgafhfakpdaaGreatDoorTotals.lean).
  GIVEN WITH THE SEED: the statements are not yours to turn. If you find one false, say at which input.
  Laid BY PROGRAM, IN A SANDBOX (cutbox-rows.mjs): the forced cells as the released guide's own fill.sh prints them over the translation dd8a1b09bdb6b1d2… (all of the seat's roots in one cut). By AI agents, Wed Nov 11 2026. No macro, syntax, notation, axiom, sorry.
-/
import Derived.Test.YtkpkgafhfakpdaaGreatDoorChecked
import GoSem.Claim
import GoSem.ClaimJoined
import GoSem.ClaimMapViews
import Derived.JoinedTies
import Derived.KernelRfl
namespace Go.Proofs.YtkpkgafhfakpdaaGreatDoor
/- THE CELL 'sum', in the pinned program and in every row, IS THE sha256 OF THE DUMP (.gsa) THAT YtkpkgafhfakpdaaGreatDoorProg.lean LOADS. Nothing in Lean hashes anything: it is a label: what it is worth is what the hold of that sum in a sandbox is worth. -/
noncomputable def Tryz.pinned : Pinned := { name := "ytkpkgafhfakpdaagreatdoor", sum := "dd8a1b09bdb6b1d27a3a5f6e4f39ae5ed0ee9802f7ea5b6b5d922166728c011e", checked := Tryz.checked }
namespace Rows
def none {H : Type} : Left H := { results := [], args := [] }

/- WHAT THE LISTED PACKAGE-LEVEL VARIABLES READ AS WHEN THE CALL BEGINS. Each datum BY PROGRAM (the guide's laid-datum.mjs) off the statement by which the dump's own 'gosem.cut.vars' lays the variable. In a bare row this is a premise. The card (YtkpkgafhfakpdaaGreatDoorCards.lean) ties it to the program's text. -/
def laid_azalai_load_none {H : Type} : DataW H := .agg [.lit (.int .i64 0), .lit (.int .i64 0)]

/-- 'azalaitop.TopBears': WHATEVER THE INPUT: true; the input reads as it did. -/
def topBearsSpec : ChangeSpec := { name := "topBears", fn := fun _ => fun
  | [d1, d2, d3, d4, d5, d6] => { results := [.lit (.bool true)], args := [d1, d2, d3, d4, d5, d6] }
  | _ => none }
def topBearsRow : OpenClaim := { program := "ytkpkgafhfakpdaagreatdoor", sum := "dd8a1b09bdb6b1d27a3a5f6e4f39ae5ed0ee9802f7ea5b6b5d922166728c011e", func := "azalai/azalaitop.TopBears", spec := "topBears", unfollowed := true, recurses := true, named := ["azalai/load.none"], apart := false, laid := [("azalai/load.none", laid_azalai_load_none)] }
def TopBearsSaid : Prop := topBearsRow.holds Tryz.pinned (OpenSpec.ofChange topBearsSpec)

/-- ITS FALSE NEIGHBOUR: 'it returns false'. Refute it at one input. -/
def topBearsWrong : ChangeSpec := { name := "topBears", fn := fun _ => fun
  | [d1, d2, d3, d4, d5, d6] => { results := [.lit (.bool false)], args := [d1, d2, d3, d4, d5, d6] }
  | _ => none }
def TopBearsWrongFalsely : Prop := topBearsRow.holds Tryz.pinned (OpenSpec.ofChange topBearsWrong)

/-- 'azalaitop.TopCrumbs': WHATEVER THE INPUT: true; the input reads as it did. -/
def topCrumbsSpec : ChangeSpec := { name := "topCrumbs", fn := fun _ => fun
  | [d1, d2] => { results := [.lit (.bool true)], args := [d1, d2] }
  | _ => none }
def topCrumbsRow : OpenClaim := { program := "ytkpkgafhfakpdaagreatdoor", sum := "dd8a1b09bdb6b1d27a3a5f6e4f39ae5ed0ee9802f7ea5b6b5d922166728c011e", func := "azalai/azalaitop.TopCrumbs", spec := "topCrumbs", unfollowed := true, recurses := true, named := ["azalai/load.none"], apart := false, laid := [("azalai/load.none", laid_azalai_load_none)] }
def TopCrumbsSaid : Prop := topCrumbsRow.holds Tryz.pinned (OpenSpec.ofChange topCrumbsSpec)

/-- ITS FALSE NEIGHBOUR: 'it returns false'. Refute it at one input. -/
def topCrumbsWrong : ChangeSpec := { name := "topCrumbs", fn := fun _ => fun
  | [d1, d2] => { results := [.lit (.bool false)], args := [d1, d2] }
  | _ => none }
def TopCrumbsWrongFalsely : Prop := topCrumbsRow.holds Tryz.pinned (OpenSpec.ofChange topCrumbsWrong)

/-- 'azalaitop.TopFairs': WHATEVER THE INPUT: true; the input reads as it did. -/
def topFairsSpec : ChangeSpec := { name := "topFairs", fn := fun _ => fun
  | [d1, d2, d3, d4, d5, d6, d7, d8, d9, d10, d11, d12] => { results := [.lit (.bool true)], args := [d1, d2, d3, d4, d5, d6, d7, d8, d9, d10, d11, d12] }
  | _ => none }
def topFairsRow : OpenClaim := { program := "ytkpkgafhfakpdaagreatdoor", sum := "dd8a1b09bdb6b1d27a3a5f6e4f39ae5ed0ee9802f7ea5b6b5d922166728c011e", func := "azalai/azalaitop.TopFairs", spec := "topFairs", unfollowed := true, recurses := true, named := ["azalai/load.none"], apart := false, laid := [("azalai/load.none", laid_azalai_load_none)] }
def TopFairsSaid : Prop := topFairsRow.holds Tryz.pinned (OpenSpec.ofChange topFairsSpec)

/-- ITS FALSE NEIGHBOUR: 'it returns false'. Refute it at one input. -/
def topFairsWrong : ChangeSpec := { name := "topFairs", fn := fun _ => fun
  | [d1, d2, d3, d4, d5, d6, d7, d8, d9, d10, d11, d12] => { results := [.lit (.bool false)], args := [d1, d2, d3, d4, d5, d6, d7, d8, d9, d10, d11, d12] }
  | _ => none }
def TopFairsWrongFalsely : Prop := topFairsRow.holds Tryz.pinned (OpenSpec.ofChange topFairsWrong)

/-- 'azalaitop.TopWorth': WHATEVER THE INPUT: true; the input reads as it did. -/
def topWorthSpec : ChangeSpec := { name := "topWorth", fn := fun _ => fun
  | [d1, d2, d3, d4, d5, d6] => { results := [.lit (.bool true)], args := [d1, d2, d3, d4, d5, d6] }
  | _ => none }
def topWorthRow : OpenClaim := { program := "ytkpkgafhfakpdaagreatdoor", sum := "dd8a1b09bdb6b1d27a3a5f6e4f39ae5ed0ee9802f7ea5b6b5d922166728c011e", func := "azalai/azalaitop.TopWorth", spec := "topWorth", unfollowed := true, recurses := true, named := ["azalai/load.none"], apart := false, laid := [("azalai/load.none", laid_azalai_load_none)] }
def TopWorthSaid : Prop := topWorthRow.holds Tryz.pinned (OpenSpec.ofChange topWorthSpec)

/-- ITS FALSE NEIGHBOUR: 'it returns false'. Refute it at one input. -/
def topWorthWrong : ChangeSpec := { name := "topWorth", fn := fun _ => fun
  | [d1, d2, d3, d4, d5, d6] => { results := [.lit (.bool false)], args := [d1, d2, d3, d4, d5, d6] }
  | _ => none }
def TopWorthWrongFalsely : Prop := topWorthRow.holds Tryz.pinned (OpenSpec.ofChange topWorthWrong)

/- THE SECOND FORM. 'bulk': how many values and letters a reading holds, each counted each time it is reached (what is shared counts as often as it is met; a slice's spare places count too). A statement '..UptoSaid' is the law's where the arguments, and the package variables that the reading takes, are together of bulk at most 1048576: NARROWER than '..Said'. Prove '..Said' where nothing that the law and all that it calls make is longer than what came in: it says more and counts as full. Else prove '..UptoSaid'. A law counts once. -/
mutual
def uptoBulk {H : Type} : DataW H → Nat
  | .lit (.string bytes) => bytes.length + 1
  | .lit _ => 1
  | .nil => 1
  | .ptr d => uptoBulk d + 1
  | .slice elems spare => uptoBulkAll elems + uptoBulkAll spare + 1
  | .agg parts => uptoBulkAll parts + 1
  | .iface _ d => uptoBulk d + 1
  | .map entries => uptoBulkEntries entries + 1
  | .held _ => 1
def uptoBulkAll {H : Type} : List (DataW H) → Nat
  | [] => 0
  | d :: r => uptoBulk d + uptoBulkAll r
def uptoBulkEntries {H : Type} : List (Lit × DataW H) → Nat
  | [] => 0
  | x :: r => uptoBulkEntry x + uptoBulkEntries r
def uptoBulkEntry {H : Type} : Lit × DataW H → Nat
  | (.string bytes, d) => bytes.length + uptoBulk d + 1
  | (_, d) => uptoBulk d + 1
 end
def uptoSmall : (H : Type) → List (DataW H) → Bool := fun _ ds => decide (uptoBulkAll ds ≤ 1048576)
def OpenSpec.upto (s : _root_.Go.ChangeSpec) : _root_.Go.OpenSpec := { _root_.Go.OpenSpec.ofChange s with cond := some uptoSmall }

/-- 'azalaitop.TopBears', WHERE WHAT IT READS IS OF BULK AT MOST 1048576: true; the input reads as it did. -/
def topBearsUptoRow : OpenClaim := { program := "ytkpkgafhfakpdaagreatdoor", sum := "dd8a1b09bdb6b1d27a3a5f6e4f39ae5ed0ee9802f7ea5b6b5d922166728c011e", func := "azalai/azalaitop.TopBears", spec := "topBears", unfollowed := true, recurses := true, named := ["azalai/load.none"], apart := false, laid := [("azalai/load.none", laid_azalai_load_none)], narrowed := true }
def TopBearsUptoSaid : Prop := topBearsUptoRow.holds Tryz.pinned (OpenSpec.upto topBearsSpec)

/-- 'azalaitop.TopCrumbs', WHERE WHAT IT READS IS OF BULK AT MOST 1048576: true; the input reads as it did. -/
def topCrumbsUptoRow : OpenClaim := { program := "ytkpkgafhfakpdaagreatdoor", sum := "dd8a1b09bdb6b1d27a3a5f6e4f39ae5ed0ee9802f7ea5b6b5d922166728c011e", func := "azalai/azalaitop.TopCrumbs", spec := "topCrumbs", unfollowed := true, recurses := true, named := ["azalai/load.none"], apart := false, laid := [("azalai/load.none", laid_azalai_load_none)], narrowed := true }
def TopCrumbsUptoSaid : Prop := topCrumbsUptoRow.holds Tryz.pinned (OpenSpec.upto topCrumbsSpec)

/-- 'azalaitop.TopFairs', WHERE WHAT IT READS IS OF BULK AT MOST 1048576: true; the input reads as it did. -/
def topFairsUptoRow : OpenClaim := { program := "ytkpkgafhfakpdaagreatdoor", sum := "dd8a1b09bdb6b1d27a3a5f6e4f39ae5ed0ee9802f7ea5b6b5d922166728c011e", func := "azalai/azalaitop.TopFairs", spec := "topFairs", unfollowed := true, recurses := true, named := ["azalai/load.none"], apart := false, laid := [("azalai/load.none", laid_azalai_load_none)], narrowed := true }
def TopFairsUptoSaid : Prop := topFairsUptoRow.holds Tryz.pinned (OpenSpec.upto topFairsSpec)

/-- 'azalaitop.TopWorth', WHERE WHAT IT READS IS OF BULK AT MOST 1048576: true; the input reads as it did. -/
def topWorthUptoRow : OpenClaim := { program := "ytkpkgafhfakpdaagreatdoor", sum := "dd8a1b09bdb6b1d27a3a5f6e4f39ae5ed0ee9802f7ea5b6b5d922166728c011e", func := "azalai/azalaitop.TopWorth", spec := "topWorth", unfollowed := true, recurses := true, named := ["azalai/load.none"], apart := false, laid := [("azalai/load.none", laid_azalai_load_none)], narrowed := true }
def TopWorthUptoSaid : Prop := topWorthUptoRow.holds Tryz.pinned (OpenSpec.upto topWorthSpec)

end Rows
end Go.Proofs.YtkpkgafhfakpdaaGreatDoor
