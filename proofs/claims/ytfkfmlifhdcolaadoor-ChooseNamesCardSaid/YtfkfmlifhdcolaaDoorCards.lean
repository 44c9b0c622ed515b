/-
  DERIVED. GIVEN WITH THE SEED: THE CARDS: each row of YtfkfmlifhdcolaaDoorRows.lean that lists a variable, with what it lists TIED to the program's text (the seventh form; the later family's looks); each row that meets fmt, with fmt's text TOLD by the authors' own Lean function (tested against real Go, not proved from fmt's source: count such statements apart). THE CARD IS WHAT COUNTS. Prove the row's statement (the work); the ties are given (YtfkfmlifhdcolaaDoorTie.lean); close each card by the builder's one call (the guide's Derived/Test/ToyasCard.lean, 'card_holds'). Laid BY PROGRAM, IN A SANDBOX (cutbox-door.mjs). By AI agents, Wed Nov 11 2026. No macro, syntax, notation, axiom, sorry.
-/
import Derived.Test.YtfkfmlifhdcolaaDoorRows
import GoSem.ClaimSeven
namespace Go.Proofs.YtfkfmlifhdcolaaDoor
namespace Rows

/-- THE TIED CARD OF 'parcenerlaw07.ChooseNames'. -/
def chooseNamesCard : Claim7 := { stood := { row := chooseNamesRow, standIns := [], harness := (true, "4f2d5cb72ec3d14d0ecaa2c49a6df1e79e7ea4f30f43d440cbd979d3a6a6a720"), looks := false }, kinds := [], alts := [], laidByText := true, laidKinds := [.data], laidTests := true, laidLooks := .later }
def ChooseNamesCardSaid : Prop := Claim7.holds Tryd.pinned (.plain (OpenSpec.ofChange chooseNamesSpec)) chooseNamesCard

/-- THE SECOND FORM's CARD OF 'parcenerlaw07.ChooseNames'. -/
def chooseNamesUptoCard : Claim7 := { stood := { row := chooseNamesUptoRow, standIns := [], harness := (true, "4f2d5cb72ec3d14d0ecaa2c49a6df1e79e7ea4f30f43d440cbd979d3a6a6a720"), looks := false }, kinds := [], alts := [], laidByText := true, laidKinds := [.data], laidTests := true, laidLooks := .later }
def ChooseNamesUptoCardSaid : Prop := Claim7.holds Tryd.pinned (.plain (OpenSpec.upto chooseNamesSpec)) chooseNamesUptoCard
end Rows
end Go.Proofs.YtfkfmlifhdcolaaDoor
