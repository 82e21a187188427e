/-
  DERIVED. GIVEN WITH THE SEED: THE CARDS: each row of YtongccnhomncnaaGreatDoorRows.lean that lists a variable, with what it lists TIED to the program's text (the seventh form; the later family's looks); each row that meets fmt, with fmt's text TOLD by the authors' own Lean function (tested against real Go, not proved from fmt's source: count such statements apart). THE CARD IS WHAT COUNTS. Prove the row's statement (the work); the ties are given (YtongccnhomncnaaGreatDoorTie.lean); close each card by the builder's one call (the guide's Derived/Test/ToyasCard.lean, 'card_holds'). Laid BY PROGRAM, IN A SANDBOX (cutbox-door.mjs). By AI agents, Wed Nov 11 2026. No macro, syntax, notation, axiom, sorry.
-/
import Derived.Test.YtongccnhomncnaaGreatDoorRows
import GoSem.ClaimSeven
namespace Go.Proofs.YtongccnhomncnaaGreatDoor
namespace Rows

/-- THE TIED CARD OF 'azalaitop.TopLoaded'. -/
def topLoadedCard : Claim7 := { stood := { row := topLoadedRow, standIns := [], harness := (true, "489fe36aa1f3d47cdd3fe8b46f8c06ee7710f88efbdbb030db3c5961105bde21"), looks := true }, kinds := [], alts := [], laidByText := true, laidKinds := [.data], laidTests := true, laidLooks := .later }
def TopLoadedCardSaid : Prop := Claim7.holds Tryz.pinned (.plain (OpenSpec.ofChange topLoadedSpec)) topLoadedCard

/-- THE TIED CARD OF 'azalaitop.TopCaravan'. -/
def topCaravanCard : Claim7 := { stood := { row := topCaravanRow, standIns := [], harness := (true, "489fe36aa1f3d47cdd3fe8b46f8c06ee7710f88efbdbb030db3c5961105bde21"), looks := true }, kinds := [], alts := [], laidByText := true, laidKinds := [.funcs], laidTests := true, laidLooks := .later }
def TopCaravanCardSaid : Prop := Claim7.holds Tryz.pinned (.plain (OpenSpec.ofChange topCaravanSpec)) topCaravanCard

/-- THE SECOND FORM's CARD OF 'azalaitop.TopLoaded'. -/
def topLoadedUptoCard : Claim7 := { stood := { row := topLoadedUptoRow, standIns := [], harness := (true, "489fe36aa1f3d47cdd3fe8b46f8c06ee7710f88efbdbb030db3c5961105bde21"), looks := true }, kinds := [], alts := [], laidByText := true, laidKinds := [.data], laidTests := true, laidLooks := .later }
def TopLoadedUptoCardSaid : Prop := Claim7.holds Tryz.pinned (.plain (OpenSpec.upto topLoadedSpec)) topLoadedUptoCard

/-- THE SECOND FORM's CARD OF 'azalaitop.TopCaravan'. -/
def topCaravanUptoCard : Claim7 := { stood := { row := topCaravanUptoRow, standIns := [], harness := (true, "489fe36aa1f3d47cdd3fe8b46f8c06ee7710f88efbdbb030db3c5961105bde21"), looks := true }, kinds := [], alts := [], laidByText := true, laidKinds := [.funcs], laidTests := true, laidLooks := .later }
def TopCaravanUptoCardSaid : Prop := Claim7.holds Tryz.pinned (.plain (OpenSpec.upto topCaravanSpec)) topCaravanUptoCard
end Rows
end Go.Proofs.YtongccnhomncnaaGreatDoor
