/-
  DERIVED. GIVEN WITH THE SEED: THE CARDS: each row of YtegkpannhahmcaaGreatDoorRows.lean that lists a variable, with what it lists TIED to the program's text (the seventh form; the later family's looks); each row that meets fmt, with fmt's text TOLD by the authors' own Lean function (tested against real Go, not proved from fmt's source: count such statements apart). THE CARD IS WHAT COUNTS. Prove the row's statement (the work); the ties are given (YtegkpannhahmcaaGreatDoorTie.lean); close each card by the builder's one call (the guide's Derived/Test/ToyasCard.lean, 'card_holds'). Laid BY PROGRAM, IN A SANDBOX (cutbox-door.mjs). By AI agents, Wed Nov 11 2026. No macro, syntax, notation, axiom, sorry.
-/
import Derived.Test.YtegkpannhahmcaaGreatDoorRows
import GoSem.ClaimSeven
namespace Go.Proofs.YtegkpannhahmcaaGreatDoor
namespace Rows

/-- THE TIED CARD OF 'parcenerlaw07.ChooseFair'. -/
def chooseFairCard : Claim7 := { stood := { row := chooseFairRow, standIns := [], harness := (true, "f510ebbd879baa0dbaa9fb64895fca7b640c1bf2c1a6dd49f11660984da86458"), looks := false }, kinds := [], alts := [], laidByText := true, laidKinds := [.data], laidTests := true, laidLooks := .later }
def ChooseFairCardSaid : Prop := Claim7.holds Tryz.pinned (.plain (OpenSpec.ofChange chooseFairSpec)) chooseFairCard

/-- THE SECOND FORM's CARD OF 'parcenerlaw07.ChooseFair'. -/
def chooseFairUptoCard : Claim7 := { stood := { row := chooseFairUptoRow, standIns := [], harness := (true, "f510ebbd879baa0dbaa9fb64895fca7b640c1bf2c1a6dd49f11660984da86458"), looks := false }, kinds := [], alts := [], laidByText := true, laidKinds := [.data], laidTests := true, laidLooks := .later }
def ChooseFairUptoCardSaid : Prop := Claim7.holds Tryz.pinned (.plain (OpenSpec.upto chooseFairSpec)) chooseFairUptoCard
end Rows
end Go.Proofs.YtegkpannhahmcaaGreatDoor
