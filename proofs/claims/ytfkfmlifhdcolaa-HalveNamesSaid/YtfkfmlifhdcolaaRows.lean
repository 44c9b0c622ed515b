/-
  No cell of these rows narrows 'for every input' (looked for: loops, veiled, ifaces, maps, wideKeys, modest, calm, conditions, laid).
  DERIVED. THE GIVEN ROWS OF THIS SEAT. 8 by the template 'for every input the law returns true; each argument reads behind the call as it read before'; 0 by the template 'total and deterministic' (their statements: YtfkfmlifhdcolaaTotals.lean).
  GIVEN WITH THE SEED: the statements are not yours to turn. If you find one false, say at which input.
  Laid BY PROGRAM, IN A SANDBOX (cutbox-rows.mjs): the forced cells as the released guide's own fill.sh prints them over the translation 8f9a4b1450aba8f8… (all of the seat's roots in one cut). By AI agents, Wed Nov 11 2026. No macro, syntax, notation, axiom, sorry.
-/
import Derived.Test.YtfkfmlifhdcolaaChecked
import GoSem.Claim
import GoSem.ClaimJoined
import GoSem.ClaimMapViews
import Derived.JoinedTies
import Derived.KernelRfl
namespace Go.Proofs.Ytfkfmlifhdcolaa
/- THE CELL 'sum', in the pinned program and in every row, IS THE sha256 OF THE DUMP (.gsa) THAT YtfkfmlifhdcolaaProg.lean LOADS. Nothing in Lean hashes anything: it is a label: what it is worth is what the hold of that sum in a sandbox is worth. -/
noncomputable def Try.pinned : Pinned := { name := "ytfkfmlifhdcolaa", sum := "8f9a4b1450aba8f8b4fd75a53632efa9feb79a292d82e977bd1f327b15a1b410", checked := Try.checked }
namespace Rows
def none {H : Type} : Left H := { results := [], args := [] }

/-- 'parcenerlaw11.KnifeNames': WHATEVER THE INPUT: true; the input reads as it did. -/
def knifeNamesSpec : ChangeSpec := { name := "knifeNames", fn := fun _ => fun
  | [] => { results := [.lit (.bool true)], args := [] }
  | _ => none }
def knifeNamesRow : OpenClaim := { program := "ytfkfmlifhdcolaa", sum := "8f9a4b1450aba8f8b4fd75a53632efa9feb79a292d82e977bd1f327b15a1b410", func := "parcener/parcenerlaw11.KnifeNames", spec := "knifeNames", inPlace := ["math/bits.Add64", "math/bits.Sub64"], unfollowed := true, recurses := true, named := ["math/bits.divideError", "math/bits.overflowError"], apart := false }
def KnifeNamesSaid : Prop := knifeNamesRow.holds Try.pinned (OpenSpec.ofChange knifeNamesSpec)

/-- ITS FALSE NEIGHBOUR: 'it returns false'. Refute it at one input. -/
def knifeNamesWrong : ChangeSpec := { name := "knifeNames", fn := fun _ => fun
  | [] => { results := [.lit (.bool false)], args := [] }
  | _ => none }
def KnifeNamesWrongFalsely : Prop := knifeNamesRow.holds Try.pinned (OpenSpec.ofChange knifeNamesWrong)

/-- 'parcenerlaw08.TrimNames': WHATEVER THE INPUT: true; the input reads as it did. -/
def trimNamesSpec : ChangeSpec := { name := "trimNames", fn := fun _ => fun
  | [] => { results := [.lit (.bool true)], args := [] }
  | _ => none }
def trimNamesRow : OpenClaim := { program := "ytfkfmlifhdcolaa", sum := "8f9a4b1450aba8f8b4fd75a53632efa9feb79a292d82e977bd1f327b15a1b410", func := "parcener/parcenerlaw08.TrimNames", spec := "trimNames", inPlace := ["math/bits.Add64", "math/bits.Sub64"], unfollowed := true, recurses := true, named := ["math/bits.divideError", "math/bits.overflowError"], apart := false }
def TrimNamesSaid : Prop := trimNamesRow.holds Try.pinned (OpenSpec.ofChange trimNamesSpec)

/-- ITS FALSE NEIGHBOUR: 'it returns false'. Refute it at one input. -/
def trimNamesWrong : ChangeSpec := { name := "trimNames", fn := fun _ => fun
  | [] => { results := [.lit (.bool false)], args := [] }
  | _ => none }
def TrimNamesWrongFalsely : Prop := trimNamesRow.holds Try.pinned (OpenSpec.ofChange trimNamesWrong)

/-- 'parcenerlaw05.AuditNames': WHATEVER THE INPUT: true; the input reads as it did. -/
def auditNamesSpec : ChangeSpec := { name := "auditNames", fn := fun _ => fun
  | [] => { results := [.lit (.bool true)], args := [] }
  | _ => none }
def auditNamesRow : OpenClaim := { program := "ytfkfmlifhdcolaa", sum := "8f9a4b1450aba8f8b4fd75a53632efa9feb79a292d82e977bd1f327b15a1b410", func := "parcener/parcenerlaw05.AuditNames", spec := "auditNames", inPlace := ["math/bits.Add64", "math/bits.Sub64"], unfollowed := true, recurses := true, named := ["math/bits.divideError", "math/bits.overflowError"], apart := false }
def AuditNamesSaid : Prop := auditNamesRow.holds Try.pinned (OpenSpec.ofChange auditNamesSpec)

/-- ITS FALSE NEIGHBOUR: 'it returns false'. Refute it at one input. -/
def auditNamesWrong : ChangeSpec := { name := "auditNames", fn := fun _ => fun
  | [] => { results := [.lit (.bool false)], args := [] }
  | _ => none }
def AuditNamesWrongFalsely : Prop := auditNamesRow.holds Try.pinned (OpenSpec.ofChange auditNamesWrong)

/-- 'parcenerlaw03.PieceNames': WHATEVER THE INPUT: true; the input reads as it did. -/
def pieceNamesSpec : ChangeSpec := { name := "pieceNames", fn := fun _ => fun
  | [] => { results := [.lit (.bool true)], args := [] }
  | _ => none }
def pieceNamesRow : OpenClaim := { program := "ytfkfmlifhdcolaa", sum := "8f9a4b1450aba8f8b4fd75a53632efa9feb79a292d82e977bd1f327b15a1b410", func := "parcener/parcenerlaw03.PieceNames", spec := "pieceNames", inPlace := ["math/bits.Add64", "math/bits.Sub64"], unfollowed := true, recurses := true, named := ["math/bits.divideError", "math/bits.overflowError"], apart := false }
def PieceNamesSaid : Prop := pieceNamesRow.holds Try.pinned (OpenSpec.ofChange pieceNamesSpec)

/-- ITS FALSE NEIGHBOUR: 'it returns false'. Refute it at one input. -/
def pieceNamesWrong : ChangeSpec := { name := "pieceNames", fn := fun _ => fun
  | [] => { results := [.lit (.bool false)], args := [] }
  | _ => none }
def PieceNamesWrongFalsely : Prop := pieceNamesRow.holds Try.pinned (OpenSpec.ofChange pieceNamesWrong)

/-- 'parcenerlaw12.EqualNames': WHATEVER THE INPUT: true; the input reads as it did. -/
def equalNamesSpec : ChangeSpec := { name := "equalNames", fn := fun _ => fun
  | [] => { results := [.lit (.bool true)], args := [] }
  | _ => none }
def equalNamesRow : OpenClaim := { program := "ytfkfmlifhdcolaa", sum := "8f9a4b1450aba8f8b4fd75a53632efa9feb79a292d82e977bd1f327b15a1b410", func := "parcener/parcenerlaw12.EqualNames", spec := "equalNames", inPlace := ["math/bits.Add64", "math/bits.Sub64"], unfollowed := true, recurses := true, named := ["math/bits.divideError", "math/bits.overflowError"], apart := false }
def EqualNamesSaid : Prop := equalNamesRow.holds Try.pinned (OpenSpec.ofChange equalNamesSpec)

/-- ITS FALSE NEIGHBOUR: 'it returns false'. Refute it at one input. -/
def equalNamesWrong : ChangeSpec := { name := "equalNames", fn := fun _ => fun
  | [] => { results := [.lit (.bool false)], args := [] }
  | _ => none }
def EqualNamesWrongFalsely : Prop := equalNamesRow.holds Try.pinned (OpenSpec.ofChange equalNamesWrong)

/-- 'parcenerlaw10.TripleNames': WHATEVER THE INPUT: true; the input reads as it did. -/
def tripleNamesSpec : ChangeSpec := { name := "tripleNames", fn := fun _ => fun
  | [] => { results := [.lit (.bool true)], args := [] }
  | _ => none }
def tripleNamesRow : OpenClaim := { program := "ytfkfmlifhdcolaa", sum := "8f9a4b1450aba8f8b4fd75a53632efa9feb79a292d82e977bd1f327b15a1b410", func := "parcener/parcenerlaw10.TripleNames", spec := "tripleNames", inPlace := ["math/bits.Add64", "math/bits.Sub64"], unfollowed := true, recurses := true, named := ["math/bits.divideError", "math/bits.overflowError"], apart := false }
def TripleNamesSaid : Prop := tripleNamesRow.holds Try.pinned (OpenSpec.ofChange tripleNamesSpec)

/-- ITS FALSE NEIGHBOUR: 'it returns false'. Refute it at one input. -/
def tripleNamesWrong : ChangeSpec := { name := "tripleNames", fn := fun _ => fun
  | [] => { results := [.lit (.bool false)], args := [] }
  | _ => none }
def TripleNamesWrongFalsely : Prop := tripleNamesRow.holds Try.pinned (OpenSpec.ofChange tripleNamesWrong)

/-- 'parcenerlaw06.ProofNames': WHATEVER THE INPUT: true; the input reads as it did. -/
def proofNamesSpec : ChangeSpec := { name := "proofNames", fn := fun _ => fun
  | [] => { results := [.lit (.bool true)], args := [] }
  | _ => none }
def proofNamesRow : OpenClaim := { program := "ytfkfmlifhdcolaa", sum := "8f9a4b1450aba8f8b4fd75a53632efa9feb79a292d82e977bd1f327b15a1b410", func := "parcener/parcenerlaw06.ProofNames", spec := "proofNames", inPlace := ["math/bits.Add64", "math/bits.Sub64"], unfollowed := true, recurses := true, named := ["math/bits.divideError", "math/bits.overflowError"], apart := false }
def ProofNamesSaid : Prop := proofNamesRow.holds Try.pinned (OpenSpec.ofChange proofNamesSpec)

/-- ITS FALSE NEIGHBOUR: 'it returns false'. Refute it at one input. -/
def proofNamesWrong : ChangeSpec := { name := "proofNames", fn := fun _ => fun
  | [] => { results := [.lit (.bool false)], args := [] }
  | _ => none }
def ProofNamesWrongFalsely : Prop := proofNamesRow.holds Try.pinned (OpenSpec.ofChange proofNamesWrong)

/-- 'parcenerlaw09.HalveNames': WHATEVER THE INPUT: true; the input reads as it did. -/
def halveNamesSpec : ChangeSpec := { name := "halveNames", fn := fun _ => fun
  | [] => { results := [.lit (.bool true)], args := [] }
  | _ => none }
def halveNamesRow : OpenClaim := { program := "ytfkfmlifhdcolaa", sum := "8f9a4b1450aba8f8b4fd75a53632efa9feb79a292d82e977bd1f327b15a1b410", func := "parcener/parcenerlaw09.HalveNames", spec := "halveNames", inPlace := ["math/bits.Add64", "math/bits.Sub64"], unfollowed := true, recurses := true, named := ["math/bits.divideError", "math/bits.overflowError"], apart := false }
def HalveNamesSaid : Prop := halveNamesRow.holds Try.pinned (OpenSpec.ofChange halveNamesSpec)

/-- ITS FALSE NEIGHBOUR: 'it returns false'. Refute it at one input. -/
def halveNamesWrong : ChangeSpec := { name := "halveNames", fn := fun _ => fun
  | [] => { results := [.lit (.bool false)], args := [] }
  | _ => none }
def HalveNamesWrongFalsely : Prop := halveNamesRow.holds Try.pinned (OpenSpec.ofChange halveNamesWrong)

/- THE SECOND FORM. 'bulk': how many values and letters a reading holds, each counted each time it is reached (what is shared counts as often as it is met; a slice's spare places count too). A statement '..UptoSaid' is the law's where the arguments, and the package variables that the reading takes, are together of bulk at most 1048576: NARROWER than '..Said'. Prove '..Said' where nothing that the law and all that it calls make is longer than what came in: it says more and counts as full. Else prove '..UptoSaid'. A law counts once. -/
mutual
def uptoBulk {H : Type} : DataW H → Nat
  | .lit (.string bytes) => bytes.length + 1
  | .lit _ => 1
  | .nil => 1
  | .ptr d => uptoBulk d + 1
  | .slice elems spare => uptoBulkAll elems + uptoBulkAll spare + 1
  | .agg parts => uptoBulkAll parts + 1
  | .iface _ d => uptoBulk d + 1
  | .map entries => uptoBulkEntries entries + 1
  | .held _ => 1
def uptoBulkAll {H : Type} : List (DataW H) → Nat
  | [] => 0
  | d :: r => uptoBulk d + uptoBulkAll r
def uptoBulkEntries {H : Type} : List (Lit × DataW H) → Nat
  | [] => 0
  | x :: r => uptoBulkEntry x + uptoBulkEntries r
def uptoBulkEntry {H : Type} : Lit × DataW H → Nat
  | (.string bytes, d) => bytes.length + uptoBulk d + 1
  | (_, d) => uptoBulk d + 1
 end
def uptoSmall : (H : Type) → List (DataW H) → Bool := fun _ ds => decide (uptoBulkAll ds ≤ 1048576)
def OpenSpec.upto (s : _root_.Go.ChangeSpec) : _root_.Go.OpenSpec := { _root_.Go.OpenSpec.ofChange s with cond := some uptoSmall }

/-- 'parcenerlaw11.KnifeNames', WHERE WHAT IT READS IS OF BULK AT MOST 1048576: true; the input reads as it did. -/
def knifeNamesUptoRow : OpenClaim := { program := "ytfkfmlifhdcolaa", sum := "8f9a4b1450aba8f8b4fd75a53632efa9feb79a292d82e977bd1f327b15a1b410", func := "parcener/parcenerlaw11.KnifeNames", spec := "knifeNames", inPlace := ["math/bits.Add64", "math/bits.Sub64"], unfollowed := true, recurses := true, named := ["math/bits.divideError", "math/bits.overflowError"], apart := false, narrowed := true }
def KnifeNamesUptoSaid : Prop := knifeNamesUptoRow.holds Try.pinned (OpenSpec.upto knifeNamesSpec)

/-- 'parcenerlaw08.TrimNames', WHERE WHAT IT READS IS OF BULK AT MOST 1048576: true; the input reads as it did. -/
def trimNamesUptoRow : OpenClaim := { program := "ytfkfmlifhdcolaa", sum := "8f9a4b1450aba8f8b4fd75a53632efa9feb79a292d82e977bd1f327b15a1b410", func := "parcener/parcenerlaw08.TrimNames", spec := "trimNames", inPlace := ["math/bits.Add64", "math/bits.Sub64"], unfollowed := true, recurses := true, named := ["math/bits.divideError", "math/bits.overflowError"], apart := false, narrowed := true }
def TrimNamesUptoSaid : Prop := trimNamesUptoRow.holds Try.pinned (OpenSpec.upto trimNamesSpec)

/-- 'parcenerlaw05.AuditNames', WHERE WHAT IT READS IS OF BULK AT MOST 1048576: true; the input reads as it did. -/
def auditNamesUptoRow : OpenClaim := { program := "ytfkfmlifhdcolaa", sum := "8f9a4b1450aba8f8b4fd75a53632efa9feb79a292d82e977bd1f327b15a1b410", func := "parcener/parcenerlaw05.AuditNames", spec := "auditNames", inPlace := ["math/bits.Add64", "math/bits.Sub64"], unfollowed := true, recurses := true, named := ["math/bits.divideError", "math/bits.overflowError"], apart := false, narrowed := true }
def AuditNamesUptoSaid : Prop := auditNamesUptoRow.holds Try.pinned (OpenSpec.upto auditNamesSpec)

/-- 'parcenerlaw03.PieceNames', WHERE WHAT IT READS IS OF BULK AT MOST 1048576: true; the input reads as it did. -/
def pieceNamesUptoRow : OpenClaim := { program := "ytfkfmlifhdcolaa", sum := "8f9a4b1450aba8f8b4fd75a53632efa9feb79a292d82e977bd1f327b15a1b410", func := "parcener/parcenerlaw03.PieceNames", spec := "pieceNames", inPlace := ["math/bits.Add64", "math/bits.Sub64"], unfollowed := true, recurses := true, named := ["math/bits.divideError", "math/bits.overflowError"], apart := false, narrowed := true }
def PieceNamesUptoSaid : Prop := pieceNamesUptoRow.holds Try.pinned (OpenSpec.upto pieceNamesSpec)

/-- 'parcenerlaw12.EqualNames', WHERE WHAT IT READS IS OF BULK AT MOST 1048576: true; the input reads as it did. -/
def equalNamesUptoRow : OpenClaim := { program := "ytfkfmlifhdcolaa", sum := "8f9a4b1450aba8f8b4fd75a53632efa9feb79a292d82e977bd1f327b15a1b410", func := "parcener/parcenerlaw12.EqualNames", spec := "equalNames", inPlace := ["math/bits.Add64", "math/bits.Sub64"], unfollowed := true, recurses := true, named := ["math/bits.divideError", "math/bits.overflowError"], apart := false, narrowed := true }
def EqualNamesUptoSaid : Prop := equalNamesUptoRow.holds Try.pinned (OpenSpec.upto equalNamesSpec)

/-- 'parcenerlaw10.TripleNames', WHERE WHAT IT READS IS OF BULK AT MOST 1048576: true; the input reads as it did. -/
def tripleNamesUptoRow : OpenClaim := { program := "ytfkfmlifhdcolaa", sum := "8f9a4b1450aba8f8b4fd75a53632efa9feb79a292d82e977bd1f327b15a1b410", func := "parcener/parcenerlaw10.TripleNames", spec := "tripleNames", inPlace := ["math/bits.Add64", "math/bits.Sub64"], unfollowed := true, recurses := true, named := ["math/bits.divideError", "math/bits.overflowError"], apart := false, narrowed := true }
def TripleNamesUptoSaid : Prop := tripleNamesUptoRow.holds Try.pinned (OpenSpec.upto tripleNamesSpec)

/-- 'parcenerlaw06.ProofNames', WHERE WHAT IT READS IS OF BULK AT MOST 1048576: true; the input reads as it did. -/
def proofNamesUptoRow : OpenClaim := { program := "ytfkfmlifhdcolaa", sum := "8f9a4b1450aba8f8b4fd75a53632efa9feb79a292d82e977bd1f327b15a1b410", func := "parcener/parcenerlaw06.ProofNames", spec := "proofNames", inPlace := ["math/bits.Add64", "math/bits.Sub64"], unfollowed := true, recurses := true, named := ["math/bits.divideError", "math/bits.overflowError"], apart := false, narrowed := true }
def ProofNamesUptoSaid : Prop := proofNamesUptoRow.holds Try.pinned (OpenSpec.upto proofNamesSpec)

/-- 'parcenerlaw09.HalveNames', WHERE WHAT IT READS IS OF BULK AT MOST 1048576: true; the input reads as it did. -/
def halveNamesUptoRow : OpenClaim := { program := "ytfkfmlifhdcolaa", sum := "8f9a4b1450aba8f8b4fd75a53632efa9feb79a292d82e977bd1f327b15a1b410", func := "parcener/parcenerlaw09.HalveNames", spec := "halveNames", inPlace := ["math/bits.Add64", "math/bits.Sub64"], unfollowed := true, recurses := true, named := ["math/bits.divideError", "math/bits.overflowError"], apart := false, narrowed := true }
def HalveNamesUptoSaid : Prop := halveNamesUptoRow.holds Try.pinned (OpenSpec.upto halveNamesSpec)

end Rows
end Go.Proofs.Ytfkfmlifhdcolaa
