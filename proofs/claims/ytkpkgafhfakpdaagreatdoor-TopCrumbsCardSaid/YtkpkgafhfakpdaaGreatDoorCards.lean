/-
  DERIVED. GIVEN WITH THE SEED: THE CARDS: each row of YtkpkgafhfakpdaaGreatDoorRows.lean that lists a variable, with what it lists TIED to the program's text (the seventh form; the later family's looks); each row that meets fmt, with fmt's text TOLD by the authors' own Lean function (tested against real Go, not proved from fmt's source: count such statements apart). THE CARD IS WHAT COUNTS. Prove the row's statement (the work); the ties are given (YtkpkgafhfakpdaaGreatDoorTie.lean); close each card by the builder's one call (the guide's Derived/Test/ToyasCard.lean, 'card_holds'). Laid BY PROGRAM, IN A SANDBOX (cutbox-door.mjs). By AI agents, Wed Nov 11 2026. No macro, syntax, notation, axiom, sorry.
-/
import Derived.Test.YtkpkgafhfakpdaaGreatDoorRows
import GoSem.ClaimSeven
namespace Go.Proofs.YtkpkgafhfakpdaaGreatDoor
namespace Rows

/-- THE TIED CARD OF 'azalaitop.TopBears'. -/
def topBearsCard : Claim7 := { stood := { row := topBearsRow, standIns := [], harness := (true, "4dae473236b4413a6808244eb82e8d1fe0d18b94fb28f9c5ab98726bc22e66e8"), looks := true }, kinds := [], alts := [], laidByText := true, laidKinds := [.data], laidTests := true, laidLooks := .later }
def TopBearsCardSaid : Prop := Claim7.holds Tryz.pinned (.plain (OpenSpec.ofChange topBearsSpec)) topBearsCard

/-- THE TIED CARD OF 'azalaitop.TopCrumbs'. -/
def topCrumbsCard : Claim7 := { stood := { row := topCrumbsRow, standIns := [], harness := (true, "4dae473236b4413a6808244eb82e8d1fe0d18b94fb28f9c5ab98726bc22e66e8"), looks := true }, kinds := [], alts := [], laidByText := true, laidKinds := [.data], laidTests := true, laidLooks := .later }
def TopCrumbsCardSaid : Prop := Claim7.holds Tryz.pinned (.plain (OpenSpec.ofChange topCrumbsSpec)) topCrumbsCard

/-- THE TIED CARD OF 'azalaitop.TopFairs'. -/
def topFairsCard : Claim7 := { stood := { row := topFairsRow, standIns := [], harness := (true, "4dae473236b4413a6808244eb82e8d1fe0d18b94fb28f9c5ab98726bc22e66e8"), looks := true }, kinds := [], alts := [], laidByText := true, laidKinds := [.data], laidTests := true, laidLooks := .later }
def TopFairsCardSaid : Prop := Claim7.holds Tryz.pinned (.plain (OpenSpec.ofChange topFairsSpec)) topFairsCard

/-- THE TIED CARD OF 'azalaitop.TopWorth'. -/
def topWorthCard : Claim7 := { stood := { row := topWorthRow, standIns := [], harness := (true, "4dae473236b4413a6808244eb82e8d1fe0d18b94fb28f9c5ab98726bc22e66e8"), looks := true }, kinds := [], alts := [], laidByText := true, laidKinds := [.data], laidTests := true, laidLooks := .later }
def TopWorthCardSaid : Prop := Claim7.holds Tryz.pinned (.plain (OpenSpec.ofChange topWorthSpec)) topWorthCard

/-- THE SECOND FORM's CARD OF 'azalaitop.TopBears'. -/
def topBearsUptoCard : Claim7 := { stood := { row := topBearsUptoRow, standIns := [], harness := (true, "4dae473236b4413a6808244eb82e8d1fe0d18b94fb28f9c5ab98726bc22e66e8"), looks := true }, kinds := [], alts := [], laidByText := true, laidKinds := [.data], laidTests := true, laidLooks := .later }
def TopBearsUptoCardSaid : Prop := Claim7.holds Tryz.pinned (.plain (OpenSpec.upto topBearsSpec)) topBearsUptoCard

/-- THE SECOND FORM's CARD OF 'azalaitop.TopCrumbs'. -/
def topCrumbsUptoCard : Claim7 := { stood := { row := topCrumbsUptoRow, standIns := [], harness := (true, "4dae473236b4413a6808244eb82e8d1fe0d18b94fb28f9c5ab98726bc22e66e8"), looks := true }, kinds := [], alts := [], laidByText := true, laidKinds := [.data], laidTests := true, laidLooks := .later }
def TopCrumbsUptoCardSaid : Prop := Claim7.holds Tryz.pinned (.plain (OpenSpec.upto topCrumbsSpec)) topCrumbsUptoCard

/-- THE SECOND FORM's CARD OF 'azalaitop.TopFairs'. -/
def topFairsUptoCard : Claim7 := { stood := { row := topFairsUptoRow, standIns := [], harness := (true, "4dae473236b4413a6808244eb82e8d1fe0d18b94fb28f9c5ab98726bc22e66e8"), looks := true }, kinds := [], alts := [], laidByText := true, laidKinds := [.data], laidTests := true, laidLooks := .later }
def TopFairsUptoCardSaid : Prop := Claim7.holds Tryz.pinned (.plain (OpenSpec.upto topFairsSpec)) topFairsUptoCard

/-- THE SECOND FORM's CARD OF 'azalaitop.TopWorth'. -/
def topWorthUptoCard : Claim7 := { stood := { row := topWorthUptoRow, standIns := [], harness := (true, "4dae473236b4413a6808244eb82e8d1fe0d18b94fb28f9c5ab98726bc22e66e8"), looks := true }, kinds := [], alts := [], laidByText := true, laidKinds := [.data], laidTests := true, laidLooks := .later }
def TopWorthUptoCardSaid : Prop := Claim7.holds Tryz.pinned (.plain (OpenSpec.upto topWorthSpec)) topWorthUptoCard
end Rows
end Go.Proofs.YtkpkgafhfakpdaaGreatDoor
