/-
  DERIVED. GIVEN WITH THE SEED: THE CARDS: each row of YtniodknidoemfaaGreatDoorRows.lean that lists a variable, with what it lists TIED to the program's text (the seventh form; the later family's looks); each row that meets fmt, with fmt's text TOLD by the authors' own Lean function (tested against real Go, not proved from fmt's source: count such statements apart). THE CARD IS WHAT COUNTS. Prove the row's statement (the work); the ties are given (YtniodknidoemfaaGreatDoorTie.lean); close each card by the builder's one call (the guide's Derived/Test/ToyasCard.lean, 'card_holds'). Laid BY PROGRAM, IN A SANDBOX (cutbox-door.mjs). By AI agents, Wed Nov 11 2026. No macro, syntax, notation, axiom, sorry.
-/
import Derived.Test.YtniodknidoemfaaGreatDoorRows
import GoSem.ClaimSeven
namespace Go.Proofs.YtniodknidoemfaaGreatDoor
namespace Rows

/-- THE TIED CARD OF 'parcenerlaw07.ChooseRuns'. -/
def chooseRunsCard : Claim7 := { stood := { row := chooseRunsRow, standIns := [], harness := (true, "aaa2dc73260956ea4fb5b9ced40e359cfa8ea57451b8354616ebaec403a31a64"), looks := false }, kinds := [], alts := [], laidByText := true, laidKinds := [.data], laidTests := true, laidLooks := .later }
def ChooseRunsCardSaid : Prop := Claim7.holds Tryz.pinned (.plain (OpenSpec.ofChange chooseRunsSpec)) chooseRunsCard

/-- THE TIED CARD OF 'parcenerlaw07.ChooseSteps'. -/
def chooseStepsCard : Claim7 := { stood := { row := chooseStepsRow, standIns := [], harness := (true, "aaa2dc73260956ea4fb5b9ced40e359cfa8ea57451b8354616ebaec403a31a64"), looks := false }, kinds := [], alts := [], laidByText := true, laidKinds := [.data], laidTests := true, laidLooks := .later }
def ChooseStepsCardSaid : Prop := Claim7.holds Tryz.pinned (.plain (OpenSpec.ofChange chooseStepsSpec)) chooseStepsCard

/-- THE SECOND FORM's CARD OF 'parcenerlaw07.ChooseRuns'. -/
def chooseRunsUptoCard : Claim7 := { stood := { row := chooseRunsUptoRow, standIns := [], harness := (true, "aaa2dc73260956ea4fb5b9ced40e359cfa8ea57451b8354616ebaec403a31a64"), looks := false }, kinds := [], alts := [], laidByText := true, laidKinds := [.data], laidTests := true, laidLooks := .later }
def ChooseRunsUptoCardSaid : Prop := Claim7.holds Tryz.pinned (.plain (OpenSpec.upto chooseRunsSpec)) chooseRunsUptoCard

/-- THE SECOND FORM's CARD OF 'parcenerlaw07.ChooseSteps'. -/
def chooseStepsUptoCard : Claim7 := { stood := { row := chooseStepsUptoRow, standIns := [], harness := (true, "aaa2dc73260956ea4fb5b9ced40e359cfa8ea57451b8354616ebaec403a31a64"), looks := false }, kinds := [], alts := [], laidByText := true, laidKinds := [.data], laidTests := true, laidLooks := .later }
def ChooseStepsUptoCardSaid : Prop := Claim7.holds Tryz.pinned (.plain (OpenSpec.upto chooseStepsSpec)) chooseStepsUptoCard
end Rows
end Go.Proofs.YtniodknidoemfaaGreatDoor
