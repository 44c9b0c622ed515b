/-
  DERIVED. GIVEN WITH THE SEED: THE CARDS: each row of YtlooeiaiafmikaaGreatDoorRows.lean that lists a variable, with what it lists TIED to the program's text (the seventh form; the later family's looks); each row that meets fmt, with fmt's text TOLD by the authors' own Lean function (tested against real Go, not proved from fmt's source: count such statements apart). THE CARD IS WHAT COUNTS. Prove the row's statement (the work); the ties are given (YtlooeiaiafmikaaGreatDoorTie.lean); close each card by the builder's one call (the guide's Derived/Test/ToyasCard.lean, 'card_holds'). Laid BY PROGRAM, IN A SANDBOX (cutbox-door.mjs). By AI agents, Wed Nov 11 2026. No macro, syntax, notation, axiom, sorry.
-/
import Derived.Test.YtlooeiaiafmikaaGreatDoorRows
import GoSem.ClaimSeven
namespace Go.Proofs.YtlooeiaiafmikaaGreatDoor
namespace Rows

/-- THE TIED CARD OF 'parcenerlaw45.BoundsNames'. -/
def boundsNamesCard : Claim7 := { stood := { row := boundsNamesRow, standIns := [], harness := (true, "6a1bd68ae50d8852180f4c4734467bde3cfa8a314cd1516e00eeab7e77868d9c"), looks := true }, kinds := [], alts := [], laidByText := true, laidKinds := [.data], laidTests := true, laidLooks := .later }
def BoundsNamesCardSaid : Prop := Claim7.holds Tryz.pinned (.plain (OpenSpec.ofChange boundsNamesSpec)) boundsNamesCard

/-- THE SECOND FORM's CARD OF 'parcenerlaw45.BoundsNames'. -/
def boundsNamesUptoCard : Claim7 := { stood := { row := boundsNamesUptoRow, standIns := [], harness := (true, "6a1bd68ae50d8852180f4c4734467bde3cfa8a314cd1516e00eeab7e77868d9c"), looks := true }, kinds := [], alts := [], laidByText := true, laidKinds := [.data], laidTests := true, laidLooks := .later }
def BoundsNamesUptoCardSaid : Prop := Claim7.holds Tryz.pinned (.plain (OpenSpec.upto boundsNamesSpec)) boundsNamesUptoCard
end Rows
end Go.Proofs.YtlooeiaiafmikaaGreatDoor
