/- The framework, part 26: from a run of the evaluator to what any caller gets. -/
import Derived.Test.YthlajkcfbpfmdaaFw25
namespace Go.Pf
open Go Go.RowKit

/-- A call from outside. -/
def topV (E : Env) (n f : Nat) (args : List PV) : Option PV :=
  match inline E n f args [] with
  | some (r, H) => purN (E.nl f) H r
  | none => none

section
variable {P : Program} {E : Env}

theorem sum_top (hE : EnvOk P E) (hm : P.follows .mixedOrders = true) {n f : Nat} {args : List PV} {q : PV} (h : topV E n f args = some q) : SumOk P E.glob f args q := by
  intro I w vs himm hgl hv
  unfold topV at h
  split at h
  · rename_i r H hin
    exact run_pure (inline_ok hE hm n) himm hgl hv hin h
  · cases h
end
end Go.Pf
