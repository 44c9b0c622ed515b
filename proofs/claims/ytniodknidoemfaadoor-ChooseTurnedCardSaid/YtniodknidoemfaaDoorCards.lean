/-
  DERIVED. GIVEN WITH THE SEED: THE CARDS: each row of YtniodknidoemfaaDoorRows.lean that lists a variable, with what it lists TIED to the program's text (the seventh form; the later family's looks); each row that meets fmt, with fmt's text TOLD by the authors' own Lean function (tested against real Go, not proved from fmt's source: count such statements apart). THE CARD IS WHAT COUNTS. Prove the row's statement (the work); the ties are given (YtniodknidoemfaaDoorTie.lean); close each card by the builder's one call (the guide's Derived/Test/ToyasCard.lean, 'card_holds'). Laid BY PROGRAM, IN A SANDBOX (cutbox-door.mjs). By AI agents, Wed Nov 11 2026. No macro, syntax, notation, axiom, sorry.
-/
import Derived.Test.YtniodknidoemfaaDoorRows
import GoSem.ClaimSeven
namespace Go.Proofs.YtniodknidoemfaaDoor
namespace Rows

/-- THE TIED CARD OF 'parcenerlaw07.ChooseTurned'. -/
def chooseTurnedCard : Claim7 := { stood := { row := chooseTurnedRow, standIns := [], harness := (true, "784f1bc0e781ac68ffaa90fb9ca29eeb80957e5009a82da4d8f5ba084a855508"), looks := false }, kinds := [], alts := [], laidByText := true, laidKinds := [.data], laidTests := true, laidLooks := .later }
def ChooseTurnedCardSaid : Prop := Claim7.holds Tryd.pinned (.plain (OpenSpec.ofChange chooseTurnedSpec)) chooseTurnedCard

/-- THE TIED CARD OF 'parcenerlaw07.ChooseLine'. -/
def chooseLineCard : Claim7 := { stood := { row := chooseLineRow, standIns := [], harness := (true, "784f1bc0e781ac68ffaa90fb9ca29eeb80957e5009a82da4d8f5ba084a855508"), looks := false }, kinds := [], alts := [], laidByText := true, laidKinds := [.data], laidTests := true, laidLooks := .later }
def ChooseLineCardSaid : Prop := Claim7.holds Tryd.pinned (.plain (OpenSpec.ofChange chooseLineSpec)) chooseLineCard

/-- THE SECOND FORM's CARD OF 'parcenerlaw07.ChooseTurned'. -/
def chooseTurnedUptoCard : Claim7 := { stood := { row := chooseTurnedUptoRow, standIns := [], harness := (true, "784f1bc0e781ac68ffaa90fb9ca29eeb80957e5009a82da4d8f5ba084a855508"), looks := false }, kinds := [], alts := [], laidByText := true, laidKinds := [.data], laidTests := true, laidLooks := .later }
def ChooseTurnedUptoCardSaid : Prop := Claim7.holds Tryd.pinned (.plain (OpenSpec.upto chooseTurnedSpec)) chooseTurnedUptoCard

/-- THE SECOND FORM's CARD OF 'parcenerlaw07.ChooseLine'. -/
def chooseLineUptoCard : Claim7 := { stood := { row := chooseLineUptoRow, standIns := [], harness := (true, "784f1bc0e781ac68ffaa90fb9ca29eeb80957e5009a82da4d8f5ba084a855508"), looks := false }, kinds := [], alts := [], laidByText := true, laidKinds := [.data], laidTests := true, laidLooks := .later }
def ChooseLineUptoCardSaid : Prop := Claim7.holds Tryd.pinned (.plain (OpenSpec.upto chooseLineSpec)) chooseLineUptoCard
end Rows
end Go.Proofs.YtniodknidoemfaaDoor
