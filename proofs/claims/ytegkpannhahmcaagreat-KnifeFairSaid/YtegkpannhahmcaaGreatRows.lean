/-
  No cell of these rows narrows 'for every input' (looked for: loops, veiled, ifaces, maps, wideKeys, modest, calm, conditions, laid).
  DERIVED. THE GIVEN ROWS OF THIS SEAT. 6 by the template 'for every input the law returns true; each argument reads behind the call as it read before'; 0 by the template 'total and deterministic' (their statements: YtegkpannhahmcaaGreatTotals.lean).
  GIVEN WITH THE SEED: the statements are not yours to turn. If you find one false, say at which input.
  Laid BY PROGRAM, IN A SANDBOX (cutbox-rows.mjs): the forced cells as the released guide's own fill.sh prints them over the translation 22f13ef532a6792f… (all of the seat's roots in one cut). By AI agents, Wed Nov 11 2026. No macro, syntax, notation, axiom, sorry.
-/
import Derived.Test.YtegkpannhahmcaaGreatChecked
import GoSem.Claim
import GoSem.ClaimJoined
import GoSem.ClaimMapViews
import Derived.JoinedTies
import Derived.KernelRfl
namespace Go.Proofs.YtegkpannhahmcaaGreat
/- THE CELL 'sum', in the pinned program and in every row, IS THE sha256 OF THE DUMP (.gsa) THAT YtegkpannhahmcaaGreatProg.lean LOADS. Nothing in Lean hashes anything: it is a label: what it is worth is what the hold of that sum in a sandbox is worth. -/
noncomputable def Tryz.pinned : Pinned := { name := "ytegkpannhahmcaagreat", sum := "22f13ef532a6792f076a5926abc9ac62224e2b70f3876f48419a3ea6ee8d3d1d", checked := Tryz.checked }
namespace Rows
def none {H : Type} : Left H := { results := [], args := [] }

/-- 'parcenerlaw06.ProofImplies': WHATEVER THE INPUT: true; the input reads as it did. -/
def proofImpliesSpec : ChangeSpec := { name := "proofImplies", fn := fun _ => fun
  | [d1, d2] => { results := [.lit (.bool true)], args := [d1, d2] }
  | _ => none }
def proofImpliesRow : OpenClaim := { program := "ytegkpannhahmcaagreat", sum := "22f13ef532a6792f076a5926abc9ac62224e2b70f3876f48419a3ea6ee8d3d1d", func := "parcener/parcenerlaw06.ProofImplies", spec := "proofImplies", inPlace := ["math/bits.Add64", "math/bits.Sub64"], unfollowed := true, recurses := true, named := ["math/bits.divideError", "math/bits.overflowError"], apart := false }
def ProofImpliesSaid : Prop := proofImpliesRow.holds Tryz.pinned (OpenSpec.ofChange proofImpliesSpec)

/-- ITS FALSE NEIGHBOUR: 'it returns false'. Refute it at one input. -/
def proofImpliesWrong : ChangeSpec := { name := "proofImplies", fn := fun _ => fun
  | [d1, d2] => { results := [.lit (.bool false)], args := [d1, d2] }
  | _ => none }
def ProofImpliesWrongFalsely : Prop := proofImpliesRow.holds Tryz.pinned (OpenSpec.ofChange proofImpliesWrong)

/-- 'parcenerlaw06.ProofWitness': WHATEVER THE INPUT: true; the input reads as it did. -/
def proofWitnessSpec : ChangeSpec := { name := "proofWitness", fn := fun _ => fun
  | [d1, d2] => { results := [.lit (.bool true)], args := [d1, d2] }
  | _ => none }
def proofWitnessRow : OpenClaim := { program := "ytegkpannhahmcaagreat", sum := "22f13ef532a6792f076a5926abc9ac62224e2b70f3876f48419a3ea6ee8d3d1d", func := "parcener/parcenerlaw06.ProofWitness", spec := "proofWitness", inPlace := ["math/bits.Add64", "math/bits.Sub64"], unfollowed := true, recurses := true, named := ["math/bits.divideError", "math/bits.overflowError"], apart := false }
def ProofWitnessSaid : Prop := proofWitnessRow.holds Tryz.pinned (OpenSpec.ofChange proofWitnessSpec)

/-- ITS FALSE NEIGHBOUR: 'it returns false'. Refute it at one input. -/
def proofWitnessWrong : ChangeSpec := { name := "proofWitness", fn := fun _ => fun
  | [d1, d2] => { results := [.lit (.bool false)], args := [d1, d2] }
  | _ => none }
def ProofWitnessWrongFalsely : Prop := proofWitnessRow.holds Tryz.pinned (OpenSpec.ofChange proofWitnessWrong)

/-- 'parcenerlaw06.ProofTrue': WHATEVER THE INPUT: true; the input reads as it did. -/
def proofTrueSpec : ChangeSpec := { name := "proofTrue", fn := fun _ => fun
  | [d1, d2, d3, d4, d5, d6] => { results := [.lit (.bool true)], args := [d1, d2, d3, d4, d5, d6] }
  | _ => none }
def proofTrueRow : OpenClaim := { program := "ytegkpannhahmcaagreat", sum := "22f13ef532a6792f076a5926abc9ac62224e2b70f3876f48419a3ea6ee8d3d1d", func := "parcener/parcenerlaw06.ProofTrue", spec := "proofTrue", inPlace := ["math/bits.Add64", "math/bits.Sub64"], unfollowed := true, recurses := true, named := ["math/bits.divideError", "math/bits.overflowError"], apart := false }
def ProofTrueSaid : Prop := proofTrueRow.holds Tryz.pinned (OpenSpec.ofChange proofTrueSpec)

/-- ITS FALSE NEIGHBOUR: 'it returns false'. Refute it at one input. -/
def proofTrueWrong : ChangeSpec := { name := "proofTrue", fn := fun _ => fun
  | [d1, d2, d3, d4, d5, d6] => { results := [.lit (.bool false)], args := [d1, d2, d3, d4, d5, d6] }
  | _ => none }
def ProofTrueWrongFalsely : Prop := proofTrueRow.holds Tryz.pinned (OpenSpec.ofChange proofTrueWrong)

/-- 'parcenerlaw09.HalveRuns': WHATEVER THE INPUT: true; the input reads as it did. -/
def halveRunsSpec : ChangeSpec := { name := "halveRuns", fn := fun _ => fun
  | [d1, d2] => { results := [.lit (.bool true)], args := [d1, d2] }
  | _ => none }
def halveRunsRow : OpenClaim := { program := "ytegkpannhahmcaagreat", sum := "22f13ef532a6792f076a5926abc9ac62224e2b70f3876f48419a3ea6ee8d3d1d", func := "parcener/parcenerlaw09.HalveRuns", spec := "halveRuns", inPlace := ["math/bits.Add64", "math/bits.Sub64"], unfollowed := true, recurses := true, named := ["math/bits.divideError", "math/bits.overflowError"], apart := false }
def HalveRunsSaid : Prop := halveRunsRow.holds Tryz.pinned (OpenSpec.ofChange halveRunsSpec)

/-- ITS FALSE NEIGHBOUR: 'it returns false'. Refute it at one input. -/
def halveRunsWrong : ChangeSpec := { name := "halveRuns", fn := fun _ => fun
  | [d1, d2] => { results := [.lit (.bool false)], args := [d1, d2] }
  | _ => none }
def HalveRunsWrongFalsely : Prop := halveRunsRow.holds Tryz.pinned (OpenSpec.ofChange halveRunsWrong)

/-- 'parcenerlaw09.HalveParts': WHATEVER THE INPUT: true; the input reads as it did. -/
def halvePartsSpec : ChangeSpec := { name := "halveParts", fn := fun _ => fun
  | [d1, d2, d3, d4] => { results := [.lit (.bool true)], args := [d1, d2, d3, d4] }
  | _ => none }
def halvePartsRow : OpenClaim := { program := "ytegkpannhahmcaagreat", sum := "22f13ef532a6792f076a5926abc9ac62224e2b70f3876f48419a3ea6ee8d3d1d", func := "parcener/parcenerlaw09.HalveParts", spec := "halveParts", inPlace := ["math/bits.Add64", "math/bits.Sub64"], unfollowed := true, recurses := true, named := ["math/bits.divideError", "math/bits.overflowError"], apart := false }
def HalvePartsSaid : Prop := halvePartsRow.holds Tryz.pinned (OpenSpec.ofChange halvePartsSpec)

/-- ITS FALSE NEIGHBOUR: 'it returns false'. Refute it at one input. -/
def halvePartsWrong : ChangeSpec := { name := "halveParts", fn := fun _ => fun
  | [d1, d2, d3, d4] => { results := [.lit (.bool false)], args := [d1, d2, d3, d4] }
  | _ => none }
def HalvePartsWrongFalsely : Prop := halvePartsRow.holds Tryz.pinned (OpenSpec.ofChange halvePartsWrong)

/-- 'parcenerlaw11.KnifeFair': WHATEVER THE INPUT: true; the input reads as it did. -/
def knifeFairSpec : ChangeSpec := { name := "knifeFair", fn := fun _ => fun
  | [d] => { results := [.lit (.bool true)], args := [d] }
  | _ => none }
def knifeFairRow : OpenClaim := { program := "ytegkpannhahmcaagreat", sum := "22f13ef532a6792f076a5926abc9ac62224e2b70f3876f48419a3ea6ee8d3d1d", func := "parcener/parcenerlaw11.KnifeFair", spec := "knifeFair", inPlace := ["math/bits.Add64", "math/bits.Sub64"], unfollowed := true, recurses := true, named := ["math/bits.divideError", "math/bits.overflowError"], apart := false }
def KnifeFairSaid : Prop := knifeFairRow.holds Tryz.pinned (OpenSpec.ofChange knifeFairSpec)

/-- ITS FALSE NEIGHBOUR: 'it returns false'. Refute it at one input. -/
def knifeFairWrong : ChangeSpec := { name := "knifeFair", fn := fun _ => fun
  | [d] => { results := [.lit (.bool false)], args := [d] }
  | _ => none }
def KnifeFairWrongFalsely : Prop := knifeFairRow.holds Tryz.pinned (OpenSpec.ofChange knifeFairWrong)

/- THE SECOND FORM. 'bulk': how many values and letters a reading holds, each counted each time it is reached (what is shared counts as often as it is met; a slice's spare places count too). A statement '..UptoSaid' is the law's where the arguments, and the package variables that the reading takes, are together of bulk at most 1048576: NARROWER than '..Said'. Prove '..Said' where nothing that the law and all that it calls make is longer than what came in: it says more and counts as full. Else prove '..UptoSaid'. A law counts once. -/
mutual
def uptoBulk {H : Type} : DataW H → Nat
  | .lit (.string bytes) => bytes.length + 1
  | .lit _ => 1
  | .nil => 1
  | .ptr d => uptoBulk d + 1
  | .slice elems spare => uptoBulkAll elems + uptoBulkAll spare + 1
  | .agg parts => uptoBulkAll parts + 1
  | .iface _ d => uptoBulk d + 1
  | .map entries => uptoBulkEntries entries + 1
  | .held _ => 1
def uptoBulkAll {H : Type} : List (DataW H) → Nat
  | [] => 0
  | d :: r => uptoBulk d + uptoBulkAll r
def uptoBulkEntries {H : Type} : List (Lit × DataW H) → Nat
  | [] => 0
  | x :: r => uptoBulkEntry x + uptoBulkEntries r
def uptoBulkEntry {H : Type} : Lit × DataW H → Nat
  | (.string bytes, d) => bytes.length + uptoBulk d + 1
  | (_, d) => uptoBulk d + 1
 end
def uptoSmall : (H : Type) → List (DataW H) → Bool := fun _ ds => decide (uptoBulkAll ds ≤ 1048576)
def OpenSpec.upto (s : _root_.Go.ChangeSpec) : _root_.Go.OpenSpec := { _root_.Go.OpenSpec.ofChange s with cond := some uptoSmall }

/-- 'parcenerlaw06.ProofImplies', WHERE WHAT IT READS IS OF BULK AT MOST 1048576: true; the input reads as it did. -/
def proofImpliesUptoRow : OpenClaim := { program := "ytegkpannhahmcaagreat", sum := "22f13ef532a6792f076a5926abc9ac62224e2b70f3876f48419a3ea6ee8d3d1d", func := "parcener/parcenerlaw06.ProofImplies", spec := "proofImplies", inPlace := ["math/bits.Add64", "math/bits.Sub64"], unfollowed := true, recurses := true, named := ["math/bits.divideError", "math/bits.overflowError"], apart := false, narrowed := true }
def ProofImpliesUptoSaid : Prop := proofImpliesUptoRow.holds Tryz.pinned (OpenSpec.upto proofImpliesSpec)

/-- 'parcenerlaw06.ProofWitness', WHERE WHAT IT READS IS OF BULK AT MOST 1048576: true; the input reads as it did. -/
def proofWitnessUptoRow : OpenClaim := { program := "ytegkpannhahmcaagreat", sum := "22f13ef532a6792f076a5926abc9ac62224e2b70f3876f48419a3ea6ee8d3d1d", func := "parcener/parcenerlaw06.ProofWitness", spec := "proofWitness", inPlace := ["math/bits.Add64", "math/bits.Sub64"], unfollowed := true, recurses := true, named := ["math/bits.divideError", "math/bits.overflowError"], apart := false, narrowed := true }
def ProofWitnessUptoSaid : Prop := proofWitnessUptoRow.holds Tryz.pinned (OpenSpec.upto proofWitnessSpec)

/-- 'parcenerlaw06.ProofTrue', WHERE WHAT IT READS IS OF BULK AT MOST 1048576: true; the input reads as it did. -/
def proofTrueUptoRow : OpenClaim := { program := "ytegkpannhahmcaagreat", sum := "22f13ef532a6792f076a5926abc9ac62224e2b70f3876f48419a3ea6ee8d3d1d", func := "parcener/parcenerlaw06.ProofTrue", spec := "proofTrue", inPlace := ["math/bits.Add64", "math/bits.Sub64"], unfollowed := true, recurses := true, named := ["math/bits.divideError", "math/bits.overflowError"], apart := false, narrowed := true }
def ProofTrueUptoSaid : Prop := proofTrueUptoRow.holds Tryz.pinned (OpenSpec.upto proofTrueSpec)

/-- 'parcenerlaw09.HalveRuns', WHERE WHAT IT READS IS OF BULK AT MOST 1048576: true; the input reads as it did. -/
def halveRunsUptoRow : OpenClaim := { program := "ytegkpannhahmcaagreat", sum := "22f13ef532a6792f076a5926abc9ac62224e2b70f3876f48419a3ea6ee8d3d1d", func := "parcener/parcenerlaw09.HalveRuns", spec := "halveRuns", inPlace := ["math/bits.Add64", "math/bits.Sub64"], unfollowed := true, recurses := true, named := ["math/bits.divideError", "math/bits.overflowError"], apart := false, narrowed := true }
def HalveRunsUptoSaid : Prop := halveRunsUptoRow.holds Tryz.pinned (OpenSpec.upto halveRunsSpec)

/-- 'parcenerlaw09.HalveParts', WHERE WHAT IT READS IS OF BULK AT MOST 1048576: true; the input reads as it did. -/
def halvePartsUptoRow : OpenClaim := { program := "ytegkpannhahmcaagreat", sum := "22f13ef532a6792f076a5926abc9ac62224e2b70f3876f48419a3ea6ee8d3d1d", func := "parcener/parcenerlaw09.HalveParts", spec := "halveParts", inPlace := ["math/bits.Add64", "math/bits.Sub64"], unfollowed := true, recurses := true, named := ["math/bits.divideError", "math/bits.overflowError"], apart := false, narrowed := true }
def HalvePartsUptoSaid : Prop := halvePartsUptoRow.holds Tryz.pinned (OpenSpec.upto halvePartsSpec)

/-- 'parcenerlaw11.KnifeFair', WHERE WHAT IT READS IS OF BULK AT MOST 1048576: true; the input reads as it did. -/
def knifeFairUptoRow : OpenClaim := { program := "ytegkpannhahmcaagreat", sum := "22f13ef532a6792f076a5926abc9ac62224e2b70f3876f48419a3ea6ee8d3d1d", func := "parcener/parcenerlaw11.KnifeFair", spec := "knifeFair", inPlace := ["math/bits.Add64", "math/bits.Sub64"], unfollowed := true, recurses := true, named := ["math/bits.divideError", "math/bits.overflowError"], apart := false, narrowed := true }
def KnifeFairUptoSaid : Prop := knifeFairUptoRow.holds Tryz.pinned (OpenSpec.upto knifeFairSpec)

end Rows
end Go.Proofs.YtegkpannhahmcaaGreat
