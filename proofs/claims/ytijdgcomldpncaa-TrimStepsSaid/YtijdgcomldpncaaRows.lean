/-
  No cell of these rows narrows 'for every input' (looked for: loops, veiled, ifaces, maps, wideKeys, modest, calm, conditions, laid).
  DERIVED. THE GIVEN ROWS OF THIS SEAT. 3 by the template 'for every input the law returns true; each argument reads behind the call as it read before'; 0 by the template 'total and deterministic' (their statements: YtijdgcomldpncaaTotals.lean).
  GIVEN WITH THE SEED: the statements are not yours to turn. If you find one false, say at which input.
  Laid BY PROGRAM, IN A SANDBOX (cutbox-rows.mjs): the forced cells as the released guide's own fill.sh prints them over the translation b327601fb3f936d7… (all of the seat's roots in one cut). By AI agents, Wed Nov 11 2026. No macro, syntax, notation, axiom, sorry.
-/
import Derived.Test.YtijdgcomldpncaaChecked
import GoSem.Claim
import GoSem.ClaimJoined
import GoSem.ClaimMapViews
import Derived.JoinedTies
import Derived.KernelRfl
namespace Go.Proofs.Ytijdgcomldpncaa
/- THE CELL 'sum', in the pinned program and in every row, IS THE sha256 OF THE DUMP (.gsa) THAT YtijdgcomldpncaaProg.lean LOADS. Nothing in Lean hashes anything: it is a label: what it is worth is what the hold of that sum in a sandbox is worth. -/
noncomputable def Try.pinned : Pinned := { name := "ytijdgcomldpncaa", sum := "b327601fb3f936d7faf19102a215dc6fc72f2e5fc4187b56f549dad2611a1d70", checked := Try.checked }
namespace Rows
def none {H : Type} : Left H := { results := [], args := [] }

/-- 'parcenerlaw12.EqualBests': WHATEVER THE INPUT: true; the input reads as it did. -/
def equalBestsSpec : ChangeSpec := { name := "equalBests", fn := fun _ => fun
  | [d] => { results := [.lit (.bool true)], args := [d] }
  | _ => none }
def equalBestsRow : OpenClaim := { program := "ytijdgcomldpncaa", sum := "b327601fb3f936d7faf19102a215dc6fc72f2e5fc4187b56f549dad2611a1d70", func := "parcener/parcenerlaw12.EqualBests", spec := "equalBests", inPlace := ["math/bits.Add64", "math/bits.Sub64"], unfollowed := true, recurses := true, named := ["math/bits.divideError", "math/bits.overflowError"], apart := false }
def EqualBestsSaid : Prop := equalBestsRow.holds Try.pinned (OpenSpec.ofChange equalBestsSpec)

/-- ITS FALSE NEIGHBOUR: 'it returns false'. Refute it at one input. -/
def equalBestsWrong : ChangeSpec := { name := "equalBests", fn := fun _ => fun
  | [d] => { results := [.lit (.bool false)], args := [d] }
  | _ => none }
def EqualBestsWrongFalsely : Prop := equalBestsRow.holds Try.pinned (OpenSpec.ofChange equalBestsWrong)

/-- 'parcenerlaw08.TrimTurns': WHATEVER THE INPUT: true; the input reads as it did. -/
def trimTurnsSpec : ChangeSpec := { name := "trimTurns", fn := fun _ => fun
  | [d] => { results := [.lit (.bool true)], args := [d] }
  | _ => none }
def trimTurnsRow : OpenClaim := { program := "ytijdgcomldpncaa", sum := "b327601fb3f936d7faf19102a215dc6fc72f2e5fc4187b56f549dad2611a1d70", func := "parcener/parcenerlaw08.TrimTurns", spec := "trimTurns", inPlace := ["math/bits.Add64", "math/bits.Sub64"], unfollowed := true, recurses := true, named := ["math/bits.divideError", "math/bits.overflowError"], apart := false }
def TrimTurnsSaid : Prop := trimTurnsRow.holds Try.pinned (OpenSpec.ofChange trimTurnsSpec)

/-- ITS FALSE NEIGHBOUR: 'it returns false'. Refute it at one input. -/
def trimTurnsWrong : ChangeSpec := { name := "trimTurns", fn := fun _ => fun
  | [d] => { results := [.lit (.bool false)], args := [d] }
  | _ => none }
def TrimTurnsWrongFalsely : Prop := trimTurnsRow.holds Try.pinned (OpenSpec.ofChange trimTurnsWrong)

/-- 'parcenerlaw08.TrimSteps': WHATEVER THE INPUT: true; the input reads as it did. -/
def trimStepsSpec : ChangeSpec := { name := "trimSteps", fn := fun _ => fun
  | [d] => { results := [.lit (.bool true)], args := [d] }
  | _ => none }
def trimStepsRow : OpenClaim := { program := "ytijdgcomldpncaa", sum := "b327601fb3f936d7faf19102a215dc6fc72f2e5fc4187b56f549dad2611a1d70", func := "parcener/parcenerlaw08.TrimSteps", spec := "trimSteps", inPlace := ["math/bits.Add64", "math/bits.Sub64"], unfollowed := true, recurses := true, named := ["math/bits.divideError", "math/bits.overflowError"], apart := false }
def TrimStepsSaid : Prop := trimStepsRow.holds Try.pinned (OpenSpec.ofChange trimStepsSpec)

/-- ITS FALSE NEIGHBOUR: 'it returns false'. Refute it at one input. -/
def trimStepsWrong : ChangeSpec := { name := "trimSteps", fn := fun _ => fun
  | [d] => { results := [.lit (.bool false)], args := [d] }
  | _ => none }
def TrimStepsWrongFalsely : Prop := trimStepsRow.holds Try.pinned (OpenSpec.ofChange trimStepsWrong)

/- THE SECOND FORM. 'bulk': how many values and letters a reading holds, each counted each time it is reached (what is shared counts as often as it is met; a slice's spare places count too). A statement '..UptoSaid' is the law's where the arguments, and the package variables that the reading takes, are together of bulk at most 1048576: NARROWER than '..Said'. Prove '..Said' where nothing that the law and all that it calls make is longer than what came in: it says more and counts as full. Else prove '..UptoSaid'. A law counts once. -/
mutual
def uptoBulk {H : Type} : DataW H → Nat
  | .lit (.string bytes) => bytes.length + 1
  | .lit _ => 1
  | .nil => 1
  | .ptr d => uptoBulk d + 1
  | .slice elems spare => uptoBulkAll elems + uptoBulkAll spare + 1
  | .agg parts => uptoBulkAll parts + 1
  | .iface _ d => uptoBulk d + 1
  | .map entries => uptoBulkEntries entries + 1
  | .held _ => 1
def uptoBulkAll {H : Type} : List (DataW H) → Nat
  | [] => 0
  | d :: r => uptoBulk d + uptoBulkAll r
def uptoBulkEntries {H : Type} : List (Lit × DataW H) → Nat
  | [] => 0
  | x :: r => uptoBulkEntry x + uptoBulkEntries r
def uptoBulkEntry {H : Type} : Lit × DataW H → Nat
  | (.string bytes, d) => bytes.length + uptoBulk d + 1
  | (_, d) => uptoBulk d + 1
 end
def uptoSmall : (H : Type) → List (DataW H) → Bool := fun _ ds => decide (uptoBulkAll ds ≤ 1048576)
def OpenSpec.upto (s : _root_.Go.ChangeSpec) : _root_.Go.OpenSpec := { _root_.Go.OpenSpec.ofChange s with cond := some uptoSmall }

/-- 'parcenerlaw12.EqualBests', WHERE WHAT IT READS IS OF BULK AT MOST 1048576: true; the input reads as it did. -/
def equalBestsUptoRow : OpenClaim := { program := "ytijdgcomldpncaa", sum := "b327601fb3f936d7faf19102a215dc6fc72f2e5fc4187b56f549dad2611a1d70", func := "parcener/parcenerlaw12.EqualBests", spec := "equalBests", inPlace := ["math/bits.Add64", "math/bits.Sub64"], unfollowed := true, recurses := true, named := ["math/bits.divideError", "math/bits.overflowError"], apart := false, narrowed := true }
def EqualBestsUptoSaid : Prop := equalBestsUptoRow.holds Try.pinned (OpenSpec.upto equalBestsSpec)

/-- 'parcenerlaw08.TrimTurns', WHERE WHAT IT READS IS OF BULK AT MOST 1048576: true; the input reads as it did. -/
def trimTurnsUptoRow : OpenClaim := { program := "ytijdgcomldpncaa", sum := "b327601fb3f936d7faf19102a215dc6fc72f2e5fc4187b56f549dad2611a1d70", func := "parcener/parcenerlaw08.TrimTurns", spec := "trimTurns", inPlace := ["math/bits.Add64", "math/bits.Sub64"], unfollowed := true, recurses := true, named := ["math/bits.divideError", "math/bits.overflowError"], apart := false, narrowed := true }
def TrimTurnsUptoSaid : Prop := trimTurnsUptoRow.holds Try.pinned (OpenSpec.upto trimTurnsSpec)

/-- 'parcenerlaw08.TrimSteps', WHERE WHAT IT READS IS OF BULK AT MOST 1048576: true; the input reads as it did. -/
def trimStepsUptoRow : OpenClaim := { program := "ytijdgcomldpncaa", sum := "b327601fb3f936d7faf19102a215dc6fc72f2e5fc4187b56f549dad2611a1d70", func := "parcener/parcenerlaw08.TrimSteps", spec := "trimSteps", inPlace := ["math/bits.Add64", "math/bits.Sub64"], unfollowed := true, recurses := true, named := ["math/bits.divideError", "math/bits.overflowError"], apart := false, narrowed := true }
def TrimStepsUptoSaid : Prop := trimStepsUptoRow.holds Try.pinned (OpenSpec.upto trimStepsSpec)

end Rows
end Go.Proofs.Ytijdgcomldpncaa
