/-
  No cell of these rows narrows 'for every input' (looked for: loops, veiled, ifaces, maps, wideKeys, modest, calm, conditions, laid).
  DERIVED. THE GIVEN ROWS OF THIS SEAT. 6 by the template 'for every input the law returns true; each argument reads behind the call as it read before'; 0 by the template 'total and deterministic' (their statements: YtobbapakhillmaaGreatTotals.lean).
  GIVEN WITH THE SEED: the statements are not yours to turn. If you find one false, say at which input.
  Laid BY PROGRAM, IN A SANDBOX (cutbox-rows.mjs): the forced cells as the released guide's own fill.sh prints them over the translation 874fc888a26b7442… (all of the seat's roots in one cut). By AI agents, Wed Nov 11 2026. No macro, syntax, notation, axiom, sorry.
-/
import Derived.Test.YtobbapakhillmaaGreatChecked
import GoSem.Claim
import GoSem.ClaimJoined
import GoSem.ClaimMapViews
import Derived.JoinedTies
import Derived.KernelRfl
namespace Go.Proofs.YtobbapakhillmaaGreat
/- THE CELL 'sum', in the pinned program and in every row, IS THE sha256 OF THE DUMP (.gsa) THAT YtobbapakhillmaaGreatProg.lean LOADS. Nothing in Lean hashes anything: it is a label: what it is worth is what the hold of that sum in a sandbox is worth. -/
noncomputable def Tryz.pinned : Pinned := { name := "ytobbapakhillmaagreat", sum := "874fc888a26b744265f710d9600ec1cba34ed8006b7f2cac16baeb0b74875cc6", checked := Tryz.checked }
namespace Rows
def none {H : Type} : Left H := { results := [], args := [] }

/-- 'parcenerlaw10.TripleFirsts': WHATEVER THE INPUT: true; the input reads as it did. -/
def tripleFirstsSpec : ChangeSpec := { name := "tripleFirsts", fn := fun _ => fun
  | [d] => { results := [.lit (.bool true)], args := [d] }
  | _ => none }
def tripleFirstsRow : OpenClaim := { program := "ytobbapakhillmaagreat", sum := "874fc888a26b744265f710d9600ec1cba34ed8006b7f2cac16baeb0b74875cc6", func := "parcener/parcenerlaw10.TripleFirsts", spec := "tripleFirsts", inPlace := ["math/bits.Add64", "math/bits.Sub64"], unfollowed := true, recurses := true, named := ["math/bits.divideError", "math/bits.overflowError"], apart := false }
def TripleFirstsSaid : Prop := tripleFirstsRow.holds Tryz.pinned (OpenSpec.ofChange tripleFirstsSpec)

/-- ITS FALSE NEIGHBOUR: 'it returns false'. Refute it at one input. -/
def tripleFirstsWrong : ChangeSpec := { name := "tripleFirsts", fn := fun _ => fun
  | [d] => { results := [.lit (.bool false)], args := [d] }
  | _ => none }
def TripleFirstsWrongFalsely : Prop := tripleFirstsRow.holds Tryz.pinned (OpenSpec.ofChange tripleFirstsWrong)

/-- 'parcenerlaw10.TripleRuns': WHATEVER THE INPUT: true; the input reads as it did. -/
def tripleRunsSpec : ChangeSpec := { name := "tripleRuns", fn := fun _ => fun
  | [d] => { results := [.lit (.bool true)], args := [d] }
  | _ => none }
def tripleRunsRow : OpenClaim := { program := "ytobbapakhillmaagreat", sum := "874fc888a26b744265f710d9600ec1cba34ed8006b7f2cac16baeb0b74875cc6", func := "parcener/parcenerlaw10.TripleRuns", spec := "tripleRuns", inPlace := ["math/bits.Add64", "math/bits.Sub64"], unfollowed := true, recurses := true, named := ["math/bits.divideError", "math/bits.overflowError"], apart := false }
def TripleRunsSaid : Prop := tripleRunsRow.holds Tryz.pinned (OpenSpec.ofChange tripleRunsSpec)

/-- ITS FALSE NEIGHBOUR: 'it returns false'. Refute it at one input. -/
def tripleRunsWrong : ChangeSpec := { name := "tripleRuns", fn := fun _ => fun
  | [d] => { results := [.lit (.bool false)], args := [d] }
  | _ => none }
def TripleRunsWrongFalsely : Prop := tripleRunsRow.holds Tryz.pinned (OpenSpec.ofChange tripleRunsWrong)

/-- 'parcenerlaw10.TripleHalf': WHATEVER THE INPUT: true; the input reads as it did. -/
def tripleHalfSpec : ChangeSpec := { name := "tripleHalf", fn := fun _ => fun
  | [d] => { results := [.lit (.bool true)], args := [d] }
  | _ => none }
def tripleHalfRow : OpenClaim := { program := "ytobbapakhillmaagreat", sum := "874fc888a26b744265f710d9600ec1cba34ed8006b7f2cac16baeb0b74875cc6", func := "parcener/parcenerlaw10.TripleHalf", spec := "tripleHalf", inPlace := ["math/bits.Add64", "math/bits.Sub64"], unfollowed := true, recurses := true, named := ["math/bits.divideError", "math/bits.overflowError"], apart := false }
def TripleHalfSaid : Prop := tripleHalfRow.holds Tryz.pinned (OpenSpec.ofChange tripleHalfSpec)

/-- ITS FALSE NEIGHBOUR: 'it returns false'. Refute it at one input. -/
def tripleHalfWrong : ChangeSpec := { name := "tripleHalf", fn := fun _ => fun
  | [d] => { results := [.lit (.bool false)], args := [d] }
  | _ => none }
def TripleHalfWrongFalsely : Prop := tripleHalfRow.holds Tryz.pinned (OpenSpec.ofChange tripleHalfWrong)

/-- 'parcenerlaw10.TripleKeeps': WHATEVER THE INPUT: true; the input reads as it did. -/
def tripleKeepsSpec : ChangeSpec := { name := "tripleKeeps", fn := fun _ => fun
  | [d] => { results := [.lit (.bool true)], args := [d] }
  | _ => none }
def tripleKeepsRow : OpenClaim := { program := "ytobbapakhillmaagreat", sum := "874fc888a26b744265f710d9600ec1cba34ed8006b7f2cac16baeb0b74875cc6", func := "parcener/parcenerlaw10.TripleKeeps", spec := "tripleKeeps", inPlace := ["math/bits.Add64", "math/bits.Sub64"], unfollowed := true, recurses := true, named := ["math/bits.divideError", "math/bits.overflowError"], apart := false }
def TripleKeepsSaid : Prop := tripleKeepsRow.holds Tryz.pinned (OpenSpec.ofChange tripleKeepsSpec)

/-- ITS FALSE NEIGHBOUR: 'it returns false'. Refute it at one input. -/
def tripleKeepsWrong : ChangeSpec := { name := "tripleKeeps", fn := fun _ => fun
  | [d] => { results := [.lit (.bool false)], args := [d] }
  | _ => none }
def TripleKeepsWrongFalsely : Prop := tripleKeepsRow.holds Tryz.pinned (OpenSpec.ofChange tripleKeepsWrong)

/-- 'parcenerlaw06.ProofTrue': WHATEVER THE INPUT: true; the input reads as it did. -/
def proofTrueSpec : ChangeSpec := { name := "proofTrue", fn := fun _ => fun
  | [d1, d2, d3, d4, d5, d6] => { results := [.lit (.bool true)], args := [d1, d2, d3, d4, d5, d6] }
  | _ => none }
def proofTrueRow : OpenClaim := { program := "ytobbapakhillmaagreat", sum := "874fc888a26b744265f710d9600ec1cba34ed8006b7f2cac16baeb0b74875cc6", func := "parcener/parcenerlaw06.ProofTrue", spec := "proofTrue", inPlace := ["math/bits.Add64", "math/bits.Sub64"], unfollowed := true, recurses := true, named := ["math/bits.divideError", "math/bits.overflowError"], apart := false }
def ProofTrueSaid : Prop := proofTrueRow.holds Tryz.pinned (OpenSpec.ofChange proofTrueSpec)

/-- ITS FALSE NEIGHBOUR: 'it returns false'. Refute it at one input. -/
def proofTrueWrong : ChangeSpec := { name := "proofTrue", fn := fun _ => fun
  | [d1, d2, d3, d4, d5, d6] => { results := [.lit (.bool false)], args := [d1, d2, d3, d4, d5, d6] }
  | _ => none }
def ProofTrueWrongFalsely : Prop := proofTrueRow.holds Tryz.pinned (OpenSpec.ofChange proofTrueWrong)

/-- 'parcenerlaw10.TripleFair': WHATEVER THE INPUT: true; the input reads as it did. -/
def tripleFairSpec : ChangeSpec := { name := "tripleFair", fn := fun _ => fun
  | [d] => { results := [.lit (.bool true)], args := [d] }
  | _ => none }
def tripleFairRow : OpenClaim := { program := "ytobbapakhillmaagreat", sum := "874fc888a26b744265f710d9600ec1cba34ed8006b7f2cac16baeb0b74875cc6", func := "parcener/parcenerlaw10.TripleFair", spec := "tripleFair", inPlace := ["math/bits.Add64", "math/bits.Sub64"], unfollowed := true, recurses := true, named := ["math/bits.divideError", "math/bits.overflowError"], apart := false }
def TripleFairSaid : Prop := tripleFairRow.holds Tryz.pinned (OpenSpec.ofChange tripleFairSpec)

/-- ITS FALSE NEIGHBOUR: 'it returns false'. Refute it at one input. -/
def tripleFairWrong : ChangeSpec := { name := "tripleFair", fn := fun _ => fun
  | [d] => { results := [.lit (.bool false)], args := [d] }
  | _ => none }
def TripleFairWrongFalsely : Prop := tripleFairRow.holds Tryz.pinned (OpenSpec.ofChange tripleFairWrong)

/- THE SECOND FORM. 'bulk': how many values and letters a reading holds, each counted each time it is reached (what is shared counts as often as it is met; a slice's spare places count too). A statement '..UptoSaid' is the law's where the arguments, and the package variables that the reading takes, are together of bulk at most 1048576: NARROWER than '..Said'. Prove '..Said' where nothing that the law and all that it calls make is longer than what came in: it says more and counts as full. Else prove '..UptoSaid'. A law counts once. -/
mutual
def uptoBulk {H : Type} : DataW H → Nat
  | .lit (.string bytes) => bytes.length + 1
  | .lit _ => 1
  | .nil => 1
  | .ptr d => uptoBulk d + 1
  | .slice elems spare => uptoBulkAll elems + uptoBulkAll spare + 1
  | .agg parts => uptoBulkAll parts + 1
  | .iface _ d => uptoBulk d + 1
  | .map entries => uptoBulkEntries entries + 1
  | .held _ => 1
def uptoBulkAll {H : Type} : List (DataW H) → Nat
  | [] => 0
  | d :: r => uptoBulk d + uptoBulkAll r
def uptoBulkEntries {H : Type} : List (Lit × DataW H) → Nat
  | [] => 0
  | x :: r => uptoBulkEntry x + uptoBulkEntries r
def uptoBulkEntry {H : Type} : Lit × DataW H → Nat
  | (.string bytes, d) => bytes.length + uptoBulk d + 1
  | (_, d) => uptoBulk d + 1
 end
def uptoSmall : (H : Type) → List (DataW H) → Bool := fun _ ds => decide (uptoBulkAll ds ≤ 1048576)
def OpenSpec.upto (s : _root_.Go.ChangeSpec) : _root_.Go.OpenSpec := { _root_.Go.OpenSpec.ofChange s with cond := some uptoSmall }

/-- 'parcenerlaw10.TripleFirsts', WHERE WHAT IT READS IS OF BULK AT MOST 1048576: true; the input reads as it did. -/
def tripleFirstsUptoRow : OpenClaim := { program := "ytobbapakhillmaagreat", sum := "874fc888a26b744265f710d9600ec1cba34ed8006b7f2cac16baeb0b74875cc6", func := "parcener/parcenerlaw10.TripleFirsts", spec := "tripleFirsts", inPlace := ["math/bits.Add64", "math/bits.Sub64"], unfollowed := true, recurses := true, named := ["math/bits.divideError", "math/bits.overflowError"], apart := false, narrowed := true }
def TripleFirstsUptoSaid : Prop := tripleFirstsUptoRow.holds Tryz.pinned (OpenSpec.upto tripleFirstsSpec)

/-- 'parcenerlaw10.TripleRuns', WHERE WHAT IT READS IS OF BULK AT MOST 1048576: true; the input reads as it did. -/
def tripleRunsUptoRow : OpenClaim := { program := "ytobbapakhillmaagreat", sum := "874fc888a26b744265f710d9600ec1cba34ed8006b7f2cac16baeb0b74875cc6", func := "parcener/parcenerlaw10.TripleRuns", spec := "tripleRuns", inPlace := ["math/bits.Add64", "math/bits.Sub64"], unfollowed := true, recurses := true, named := ["math/bits.divideError", "math/bits.overflowError"], apart := false, narrowed := true }
def TripleRunsUptoSaid : Prop := tripleRunsUptoRow.holds Tryz.pinned (OpenSpec.upto tripleRunsSpec)

/-- 'parcenerlaw10.TripleHalf', WHERE WHAT IT READS IS OF BULK AT MOST 1048576: true; the input reads as it did. -/
def tripleHalfUptoRow : OpenClaim := { program := "ytobbapakhillmaagreat", sum := "874fc888a26b744265f710d9600ec1cba34ed8006b7f2cac16baeb0b74875cc6", func := "parcener/parcenerlaw10.TripleHalf", spec := "tripleHalf", inPlace := ["math/bits.Add64", "math/bits.Sub64"], unfollowed := true, recurses := true, named := ["math/bits.divideError", "math/bits.overflowError"], apart := false, narrowed := true }
def TripleHalfUptoSaid : Prop := tripleHalfUptoRow.holds Tryz.pinned (OpenSpec.upto tripleHalfSpec)

/-- 'parcenerlaw10.TripleKeeps', WHERE WHAT IT READS IS OF BULK AT MOST 1048576: true; the input reads as it did. -/
def tripleKeepsUptoRow : OpenClaim := { program := "ytobbapakhillmaagreat", sum := "874fc888a26b744265f710d9600ec1cba34ed8006b7f2cac16baeb0b74875cc6", func := "parcener/parcenerlaw10.TripleKeeps", spec := "tripleKeeps", inPlace := ["math/bits.Add64", "math/bits.Sub64"], unfollowed := true, recurses := true, named := ["math/bits.divideError", "math/bits.overflowError"], apart := false, narrowed := true }
def TripleKeepsUptoSaid : Prop := tripleKeepsUptoRow.holds Tryz.pinned (OpenSpec.upto tripleKeepsSpec)

/-- 'parcenerlaw06.ProofTrue', WHERE WHAT IT READS IS OF BULK AT MOST 1048576: true; the input reads as it did. -/
def proofTrueUptoRow : OpenClaim := { program := "ytobbapakhillmaagreat", sum := "874fc888a26b744265f710d9600ec1cba34ed8006b7f2cac16baeb0b74875cc6", func := "parcener/parcenerlaw06.ProofTrue", spec := "proofTrue", inPlace := ["math/bits.Add64", "math/bits.Sub64"], unfollowed := true, recurses := true, named := ["math/bits.divideError", "math/bits.overflowError"], apart := false, narrowed := true }
def ProofTrueUptoSaid : Prop := proofTrueUptoRow.holds Tryz.pinned (OpenSpec.upto proofTrueSpec)

/-- 'parcenerlaw10.TripleFair', WHERE WHAT IT READS IS OF BULK AT MOST 1048576: true; the input reads as it did. -/
def tripleFairUptoRow : OpenClaim := { program := "ytobbapakhillmaagreat", sum := "874fc888a26b744265f710d9600ec1cba34ed8006b7f2cac16baeb0b74875cc6", func := "parcener/parcenerlaw10.TripleFair", spec := "tripleFair", inPlace := ["math/bits.Add64", "math/bits.Sub64"], unfollowed := true, recurses := true, named := ["math/bits.divideError", "math/bits.overflowError"], apart := false, narrowed := true }
def TripleFairUptoSaid : Prop := tripleFairUptoRow.holds Tryz.pinned (OpenSpec.upto tripleFairSpec)

end Rows
end Go.Proofs.YtobbapakhillmaaGreat
