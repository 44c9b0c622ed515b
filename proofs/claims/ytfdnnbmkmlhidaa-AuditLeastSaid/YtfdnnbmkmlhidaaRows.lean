/-
  No cell of these rows narrows 'for every input' (looked for: loops, veiled, ifaces, maps, wideKeys, modest, calm, conditions, laid).
  DERIVED. THE GIVEN ROWS OF THIS SEAT. 5 by the template 'for every input the law returns true; each argument reads behind the call as it read before'; 0 by the template 'total and deterministic' (their statements: YtfdnnbmkmlhidaaTotals.lean).
  GIVEN WITH THE SEED: the statements are not yours to turn. If you find one false, say at which input.
  Laid BY PROGRAM, IN A SANDBOX (cutbox-rows.mjs): the forced cells as the released guide's own fill.sh prints them over the translation af1c43f4c9644acf… (all of the seat's roots in one cut). By AI agents, Wed Nov 11 2026. No macro, syntax, notation, axiom, sorry.
-/
import Derived.Test.YtfdnnbmkmlhidaaChecked
import GoSem.Claim
import GoSem.ClaimJoined
import GoSem.ClaimMapViews
import Derived.JoinedTies
import Derived.KernelRfl
namespace Go.Proofs.Ytfdnnbmkmlhidaa
/- THE CELL 'sum', in the pinned program and in every row, IS THE sha256 OF THE DUMP (.gsa) THAT YtfdnnbmkmlhidaaProg.lean LOADS. Nothing in Lean hashes anything: it is a label: what it is worth is what the hold of that sum in a sandbox is worth. -/
noncomputable def Try.pinned : Pinned := { name := "ytfdnnbmkmlhidaa", sum := "af1c43f4c9644acf2ba5ad5e0b4b262edeffabd7a1e89b76f5b7186868cc89c3", checked := Try.checked }
namespace Rows
def none {H : Type} : Left H := { results := [], args := [] }

/-- 'parcenerlaw05.AuditLeast': WHATEVER THE INPUT: true; the input reads as it did. -/
def auditLeastSpec : ChangeSpec := { name := "auditLeast", fn := fun _ => fun
  | [d1, d2, d3] => { results := [.lit (.bool true)], args := [d1, d2, d3] }
  | _ => none }
def auditLeastRow : OpenClaim := { program := "ytfdnnbmkmlhidaa", sum := "af1c43f4c9644acf2ba5ad5e0b4b262edeffabd7a1e89b76f5b7186868cc89c3", func := "parcener/parcenerlaw05.AuditLeast", spec := "auditLeast", unfollowed := true, recurses := true, apart := false }
def AuditLeastSaid : Prop := auditLeastRow.holds Try.pinned (OpenSpec.ofChange auditLeastSpec)

/-- ITS FALSE NEIGHBOUR: 'it returns false'. Refute it at one input. -/
def auditLeastWrong : ChangeSpec := { name := "auditLeast", fn := fun _ => fun
  | [d1, d2, d3] => { results := [.lit (.bool false)], args := [d1, d2, d3] }
  | _ => none }
def AuditLeastWrongFalsely : Prop := auditLeastRow.holds Try.pinned (OpenSpec.ofChange auditLeastWrong)

/-- 'parcenerlaw05.AuditFinds': WHATEVER THE INPUT: true; the input reads as it did. -/
def auditFindsSpec : ChangeSpec := { name := "auditFinds", fn := fun _ => fun
  | [d1, d2] => { results := [.lit (.bool true)], args := [d1, d2] }
  | _ => none }
def auditFindsRow : OpenClaim := { program := "ytfdnnbmkmlhidaa", sum := "af1c43f4c9644acf2ba5ad5e0b4b262edeffabd7a1e89b76f5b7186868cc89c3", func := "parcener/parcenerlaw05.AuditFinds", spec := "auditFinds", unfollowed := true, recurses := true, apart := false }
def AuditFindsSaid : Prop := auditFindsRow.holds Try.pinned (OpenSpec.ofChange auditFindsSpec)

/-- ITS FALSE NEIGHBOUR: 'it returns false'. Refute it at one input. -/
def auditFindsWrong : ChangeSpec := { name := "auditFinds", fn := fun _ => fun
  | [d1, d2] => { results := [.lit (.bool false)], args := [d1, d2] }
  | _ => none }
def AuditFindsWrongFalsely : Prop := auditFindsRow.holds Try.pinned (OpenSpec.ofChange auditFindsWrong)

/-- 'parcenerlaw05.AuditFits': WHATEVER THE INPUT: true; the input reads as it did. -/
def auditFitsSpec : ChangeSpec := { name := "auditFits", fn := fun _ => fun
  | [d1, d2, d3] => { results := [.lit (.bool true)], args := [d1, d2, d3] }
  | _ => none }
def auditFitsRow : OpenClaim := { program := "ytfdnnbmkmlhidaa", sum := "af1c43f4c9644acf2ba5ad5e0b4b262edeffabd7a1e89b76f5b7186868cc89c3", func := "parcener/parcenerlaw05.AuditFits", spec := "auditFits", inPlace := ["math/bits.Add64", "math/bits.Sub64"], unfollowed := true, recurses := true, named := ["math/bits.divideError", "math/bits.overflowError"], apart := false }
def AuditFitsSaid : Prop := auditFitsRow.holds Try.pinned (OpenSpec.ofChange auditFitsSpec)

/-- ITS FALSE NEIGHBOUR: 'it returns false'. Refute it at one input. -/
def auditFitsWrong : ChangeSpec := { name := "auditFits", fn := fun _ => fun
  | [d1, d2, d3] => { results := [.lit (.bool false)], args := [d1, d2, d3] }
  | _ => none }
def AuditFitsWrongFalsely : Prop := auditFitsRow.holds Try.pinned (OpenSpec.ofChange auditFitsWrong)

/-- 'parcenerlaw05.AuditOther': WHATEVER THE INPUT: true; the input reads as it did. -/
def auditOtherSpec : ChangeSpec := { name := "auditOther", fn := fun _ => fun
  | [d1, d2, d3] => { results := [.lit (.bool true)], args := [d1, d2, d3] }
  | _ => none }
def auditOtherRow : OpenClaim := { program := "ytfdnnbmkmlhidaa", sum := "af1c43f4c9644acf2ba5ad5e0b4b262edeffabd7a1e89b76f5b7186868cc89c3", func := "parcener/parcenerlaw05.AuditOther", spec := "auditOther", inPlace := ["math/bits.Add64", "math/bits.Sub64"], unfollowed := true, recurses := true, named := ["math/bits.divideError", "math/bits.overflowError"], apart := false }
def AuditOtherSaid : Prop := auditOtherRow.holds Try.pinned (OpenSpec.ofChange auditOtherSpec)

/-- ITS FALSE NEIGHBOUR: 'it returns false'. Refute it at one input. -/
def auditOtherWrong : ChangeSpec := { name := "auditOther", fn := fun _ => fun
  | [d1, d2, d3] => { results := [.lit (.bool false)], args := [d1, d2, d3] }
  | _ => none }
def AuditOtherWrongFalsely : Prop := auditOtherRow.holds Try.pinned (OpenSpec.ofChange auditOtherWrong)

/-- 'parcenerlaw05.AuditExactly': WHATEVER THE INPUT: true; the input reads as it did. -/
def auditExactlySpec : ChangeSpec := { name := "auditExactly", fn := fun _ => fun
  | [d1, d2] => { results := [.lit (.bool true)], args := [d1, d2] }
  | _ => none }
def auditExactlyRow : OpenClaim := { program := "ytfdnnbmkmlhidaa", sum := "af1c43f4c9644acf2ba5ad5e0b4b262edeffabd7a1e89b76f5b7186868cc89c3", func := "parcener/parcenerlaw05.AuditExactly", spec := "auditExactly", inPlace := ["math/bits.Add64", "math/bits.Sub64"], unfollowed := true, recurses := true, named := ["math/bits.divideError", "math/bits.overflowError"], apart := false }
def AuditExactlySaid : Prop := auditExactlyRow.holds Try.pinned (OpenSpec.ofChange auditExactlySpec)

/-- ITS FALSE NEIGHBOUR: 'it returns false'. Refute it at one input. -/
def auditExactlyWrong : ChangeSpec := { name := "auditExactly", fn := fun _ => fun
  | [d1, d2] => { results := [.lit (.bool false)], args := [d1, d2] }
  | _ => none }
def AuditExactlyWrongFalsely : Prop := auditExactlyRow.holds Try.pinned (OpenSpec.ofChange auditExactlyWrong)

/- THE SECOND FORM. 'bulk': how many values and letters a reading holds, each counted each time it is reached (what is shared counts as often as it is met; a slice's spare places count too). A statement '..UptoSaid' is the law's where the arguments, and the package variables that the reading takes, are together of bulk at most 1048576: NARROWER than '..Said'. Prove '..Said' where nothing that the law and all that it calls make is longer than what came in: it says more and counts as full. Else prove '..UptoSaid'. A law counts once. -/
mutual
def uptoBulk {H : Type} : DataW H → Nat
  | .lit (.string bytes) => bytes.length + 1
  | .lit _ => 1
  | .nil => 1
  | .ptr d => uptoBulk d + 1
  | .slice elems spare => uptoBulkAll elems + uptoBulkAll spare + 1
  | .agg parts => uptoBulkAll parts + 1
  | .iface _ d => uptoBulk d + 1
  | .map entries => uptoBulkEntries entries + 1
  | .held _ => 1
def uptoBulkAll {H : Type} : List (DataW H) → Nat
  | [] => 0
  | d :: r => uptoBulk d + uptoBulkAll r
def uptoBulkEntries {H : Type} : List (Lit × DataW H) → Nat
  | [] => 0
  | x :: r => uptoBulkEntry x + uptoBulkEntries r
def uptoBulkEntry {H : Type} : Lit × DataW H → Nat
  | (.string bytes, d) => bytes.length + uptoBulk d + 1
  | (_, d) => uptoBulk d + 1
 end
def uptoSmall : (H : Type) → List (DataW H) → Bool := fun _ ds => decide (uptoBulkAll ds ≤ 1048576)
def OpenSpec.upto (s : _root_.Go.ChangeSpec) : _root_.Go.OpenSpec := { _root_.Go.OpenSpec.ofChange s with cond := some uptoSmall }

/-- 'parcenerlaw05.AuditLeast', WHERE WHAT IT READS IS OF BULK AT MOST 1048576: true; the input reads as it did. -/
def auditLeastUptoRow : OpenClaim := { program := "ytfdnnbmkmlhidaa", sum := "af1c43f4c9644acf2ba5ad5e0b4b262edeffabd7a1e89b76f5b7186868cc89c3", func := "parcener/parcenerlaw05.AuditLeast", spec := "auditLeast", unfollowed := true, recurses := true, apart := false, narrowed := true }
def AuditLeastUptoSaid : Prop := auditLeastUptoRow.holds Try.pinned (OpenSpec.upto auditLeastSpec)

/-- 'parcenerlaw05.AuditFinds', WHERE WHAT IT READS IS OF BULK AT MOST 1048576: true; the input reads as it did. -/
def auditFindsUptoRow : OpenClaim := { program := "ytfdnnbmkmlhidaa", sum := "af1c43f4c9644acf2ba5ad5e0b4b262edeffabd7a1e89b76f5b7186868cc89c3", func := "parcener/parcenerlaw05.AuditFinds", spec := "auditFinds", unfollowed := true, recurses := true, apart := false, narrowed := true }
def AuditFindsUptoSaid : Prop := auditFindsUptoRow.holds Try.pinned (OpenSpec.upto auditFindsSpec)

/-- 'parcenerlaw05.AuditFits', WHERE WHAT IT READS IS OF BULK AT MOST 1048576: true; the input reads as it did. -/
def auditFitsUptoRow : OpenClaim := { program := "ytfdnnbmkmlhidaa", sum := "af1c43f4c9644acf2ba5ad5e0b4b262edeffabd7a1e89b76f5b7186868cc89c3", func := "parcener/parcenerlaw05.AuditFits", spec := "auditFits", inPlace := ["math/bits.Add64", "math/bits.Sub64"], unfollowed := true, recurses := true, named := ["math/bits.divideError", "math/bits.overflowError"], apart := false, narrowed := true }
def AuditFitsUptoSaid : Prop := auditFitsUptoRow.holds Try.pinned (OpenSpec.upto auditFitsSpec)

/-- 'parcenerlaw05.AuditOther', WHERE WHAT IT READS IS OF BULK AT MOST 1048576: true; the input reads as it did. -/
def auditOtherUptoRow : OpenClaim := { program := "ytfdnnbmkmlhidaa", sum := "af1c43f4c9644acf2ba5ad5e0b4b262edeffabd7a1e89b76f5b7186868cc89c3", func := "parcener/parcenerlaw05.AuditOther", spec := "auditOther", inPlace := ["math/bits.Add64", "math/bits.Sub64"], unfollowed := true, recurses := true, named := ["math/bits.divideError", "math/bits.overflowError"], apart := false, narrowed := true }
def AuditOtherUptoSaid : Prop := auditOtherUptoRow.holds Try.pinned (OpenSpec.upto auditOtherSpec)

/-- 'parcenerlaw05.AuditExactly', WHERE WHAT IT READS IS OF BULK AT MOST 1048576: true; the input reads as it did. -/
def auditExactlyUptoRow : OpenClaim := { program := "ytfdnnbmkmlhidaa", sum := "af1c43f4c9644acf2ba5ad5e0b4b262edeffabd7a1e89b76f5b7186868cc89c3", func := "parcener/parcenerlaw05.AuditExactly", spec := "auditExactly", inPlace := ["math/bits.Add64", "math/bits.Sub64"], unfollowed := true, recurses := true, named := ["math/bits.divideError", "math/bits.overflowError"], apart := false, narrowed := true }
def AuditExactlyUptoSaid : Prop := auditExactlyUptoRow.holds Try.pinned (OpenSpec.upto auditExactlySpec)

end Rows
end Go.Proofs.Ytfdnnbmkmlhidaa
