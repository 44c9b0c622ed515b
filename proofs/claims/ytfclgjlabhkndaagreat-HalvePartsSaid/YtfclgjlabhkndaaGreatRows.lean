/-
  No cell of these rows narrows 'for every input' (looked for: loops, veiled, ifaces, maps, wideKeys, modest, calm, conditions, laid).
  DERIVED. THE GIVEN ROWS OF THIS SEAT. 3 by the template 'for every input the law returns true; each argument reads behind the call as it read before'; 0 by the template 'total and deterministic' (their statements: YtfclgjlabhkndaaGreatTotals.lean).
  GIVEN WITH THE SEED: the statements are not yours to turn. If you find one false, say at which input.
  Laid BY PROGRAM, IN A SANDBOX (cutbox-rows.mjs): the forced cells as the released guide's own fill.sh prints them over the translation 0132be9646717026… (all of the seat's roots in one cut). By AI agents, Wed Nov 11 2026. No macro, syntax, notation, axiom, sorry.
-/
import Derived.Test.YtfclgjlabhkndaaGreatChecked
import GoSem.Claim
import GoSem.ClaimJoined
import GoSem.ClaimMapViews
import Derived.JoinedTies
import Derived.KernelRfl
namespace Go.Proofs.YtfclgjlabhkndaaGreat
/- THE CELL 'sum', in the pinned program and in every row, IS THE sha256 OF THE DUMP (.gsa) THAT YtfclgjlabhkndaaGreatProg.lean LOADS. Nothing in Lean hashes anything: it is a label: what it is worth is what the hold of that sum in a sandbox is worth. -/
noncomputable def Tryz.pinned : Pinned := { name := "ytfclgjlabhkndaagreat", sum := "0132be964671702613d8c84a5825bd12187d2abd1c4b6dd534031df02f2acb8d", checked := Tryz.checked }
namespace Rows
def none {H : Type} : Left H := { results := [], args := [] }

/-- 'parcenerlaw09.HalveRuns': WHATEVER THE INPUT: true; the input reads as it did. -/
def halveRunsSpec : ChangeSpec := { name := "halveRuns", fn := fun _ => fun
  | [d1, d2] => { results := [.lit (.bool true)], args := [d1, d2] }
  | _ => none }
def halveRunsRow : OpenClaim := { program := "ytfclgjlabhkndaagreat", sum := "0132be964671702613d8c84a5825bd12187d2abd1c4b6dd534031df02f2acb8d", func := "parcener/parcenerlaw09.HalveRuns", spec := "halveRuns", inPlace := ["math/bits.Add64", "math/bits.Sub64"], unfollowed := true, recurses := true, named := ["math/bits.divideError", "math/bits.overflowError"], apart := false }
def HalveRunsSaid : Prop := halveRunsRow.holds Tryz.pinned (OpenSpec.ofChange halveRunsSpec)

/-- ITS FALSE NEIGHBOUR: 'it returns false'. Refute it at one input. -/
def halveRunsWrong : ChangeSpec := { name := "halveRuns", fn := fun _ => fun
  | [d1, d2] => { results := [.lit (.bool false)], args := [d1, d2] }
  | _ => none }
def HalveRunsWrongFalsely : Prop := halveRunsRow.holds Tryz.pinned (OpenSpec.ofChange halveRunsWrong)

/-- 'parcenerlaw09.HalveParts': WHATEVER THE INPUT: true; the input reads as it did. -/
def halvePartsSpec : ChangeSpec := { name := "halveParts", fn := fun _ => fun
  | [d1, d2, d3, d4] => { results := [.lit (.bool true)], args := [d1, d2, d3, d4] }
  | _ => none }
def halvePartsRow : OpenClaim := { program := "ytfclgjlabhkndaagreat", sum := "0132be964671702613d8c84a5825bd12187d2abd1c4b6dd534031df02f2acb8d", func := "parcener/parcenerlaw09.HalveParts", spec := "halveParts", inPlace := ["math/bits.Add64", "math/bits.Sub64"], unfollowed := true, recurses := true, named := ["math/bits.divideError", "math/bits.overflowError"], apart := false }
def HalvePartsSaid : Prop := halvePartsRow.holds Tryz.pinned (OpenSpec.ofChange halvePartsSpec)

/-- ITS FALSE NEIGHBOUR: 'it returns false'. Refute it at one input. -/
def halvePartsWrong : ChangeSpec := { name := "halveParts", fn := fun _ => fun
  | [d1, d2, d3, d4] => { results := [.lit (.bool false)], args := [d1, d2, d3, d4] }
  | _ => none }
def HalvePartsWrongFalsely : Prop := halvePartsRow.holds Tryz.pinned (OpenSpec.ofChange halvePartsWrong)

/-- 'parcenerlaw09.HalveFair': WHATEVER THE INPUT: true; the input reads as it did. -/
def halveFairSpec : ChangeSpec := { name := "halveFair", fn := fun _ => fun
  | [d] => { results := [.lit (.bool true)], args := [d] }
  | _ => none }
def halveFairRow : OpenClaim := { program := "ytfclgjlabhkndaagreat", sum := "0132be964671702613d8c84a5825bd12187d2abd1c4b6dd534031df02f2acb8d", func := "parcener/parcenerlaw09.HalveFair", spec := "halveFair", inPlace := ["math/bits.Add64", "math/bits.Sub64"], unfollowed := true, recurses := true, named := ["math/bits.divideError", "math/bits.overflowError"], apart := false }
def HalveFairSaid : Prop := halveFairRow.holds Tryz.pinned (OpenSpec.ofChange halveFairSpec)

/-- ITS FALSE NEIGHBOUR: 'it returns false'. Refute it at one input. -/
def halveFairWrong : ChangeSpec := { name := "halveFair", fn := fun _ => fun
  | [d] => { results := [.lit (.bool false)], args := [d] }
  | _ => none }
def HalveFairWrongFalsely : Prop := halveFairRow.holds Tryz.pinned (OpenSpec.ofChange halveFairWrong)

/- THE SECOND FORM. 'bulk': how many values and letters a reading holds, each counted each time it is reached (what is shared counts as often as it is met; a slice's spare places count too). A statement '..UptoSaid' is the law's where the arguments, and the package variables that the reading takes, are together of bulk at most 1048576: NARROWER than '..Said'. Prove '..Said' where nothing that the law and all that it calls make is longer than what came in: it says more and counts as full. Else prove '..UptoSaid'. A law counts once. -/
mutual
def uptoBulk {H : Type} : DataW H → Nat
  | .lit (.string bytes) => bytes.length + 1
  | .lit _ => 1
  | .nil => 1
  | .ptr d => uptoBulk d + 1
  | .slice elems spare => uptoBulkAll elems + uptoBulkAll spare + 1
  | .agg parts => uptoBulkAll parts + 1
  | .iface _ d => uptoBulk d + 1
  | .map entries => uptoBulkEntries entries + 1
  | .held _ => 1
def uptoBulkAll {H : Type} : List (DataW H) → Nat
  | [] => 0
  | d :: r => uptoBulk d + uptoBulkAll r
def uptoBulkEntries {H : Type} : List (Lit × DataW H) → Nat
  | [] => 0
  | x :: r => uptoBulkEntry x + uptoBulkEntries r
def uptoBulkEntry {H : Type} : Lit × DataW H → Nat
  | (.string bytes, d) => bytes.length + uptoBulk d + 1
  | (_, d) => uptoBulk d + 1
 end
def uptoSmall : (H : Type) → List (DataW H) → Bool := fun _ ds => decide (uptoBulkAll ds ≤ 1048576)
def OpenSpec.upto (s : _root_.Go.ChangeSpec) : _root_.Go.OpenSpec := { _root_.Go.OpenSpec.ofChange s with cond := some uptoSmall }

/-- 'parcenerlaw09.HalveRuns', WHERE WHAT IT READS IS OF BULK AT MOST 1048576: true; the input reads as it did. -/
def halveRunsUptoRow : OpenClaim := { program := "ytfclgjlabhkndaagreat", sum := "0132be964671702613d8c84a5825bd12187d2abd1c4b6dd534031df02f2acb8d", func := "parcener/parcenerlaw09.HalveRuns", spec := "halveRuns", inPlace := ["math/bits.Add64", "math/bits.Sub64"], unfollowed := true, recurses := true, named := ["math/bits.divideError", "math/bits.overflowError"], apart := false, narrowed := true }
def HalveRunsUptoSaid : Prop := halveRunsUptoRow.holds Tryz.pinned (OpenSpec.upto halveRunsSpec)

/-- 'parcenerlaw09.HalveParts', WHERE WHAT IT READS IS OF BULK AT MOST 1048576: true; the input reads as it did. -/
def halvePartsUptoRow : OpenClaim := { program := "ytfclgjlabhkndaagreat", sum := "0132be964671702613d8c84a5825bd12187d2abd1c4b6dd534031df02f2acb8d", func := "parcener/parcenerlaw09.HalveParts", spec := "halveParts", inPlace := ["math/bits.Add64", "math/bits.Sub64"], unfollowed := true, recurses := true, named := ["math/bits.divideError", "math/bits.overflowError"], apart := false, narrowed := true }
def HalvePartsUptoSaid : Prop := halvePartsUptoRow.holds Tryz.pinned (OpenSpec.upto halvePartsSpec)

/-- 'parcenerlaw09.HalveFair', WHERE WHAT IT READS IS OF BULK AT MOST 1048576: true; the input reads as it did. -/
def halveFairUptoRow : OpenClaim := { program := "ytfclgjlabhkndaagreat", sum := "0132be964671702613d8c84a5825bd12187d2abd1c4b6dd534031df02f2acb8d", func := "parcener/parcenerlaw09.HalveFair", spec := "halveFair", inPlace := ["math/bits.Add64", "math/bits.Sub64"], unfollowed := true, recurses := true, named := ["math/bits.divideError", "math/bits.overflowError"], apart := false, narrowed := true }
def HalveFairUptoSaid : Prop := halveFairUptoRow.holds Tryz.pinned (OpenSpec.upto halveFairSpec)

end Rows
end Go.Proofs.YtfclgjlabhkndaaGreat
