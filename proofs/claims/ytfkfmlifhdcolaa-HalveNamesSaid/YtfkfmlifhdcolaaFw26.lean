/- The framework, part 26: from a run of the evaluator to what any caller gets. -/
import Derived.Test.YtfkfmlifhdcolaaFw25
namespace Go.Pf
open Go Go.RowKit

/-- A call from outside. -/
def topV (E : Env) (n f : Nat) (args : List PV) : Option PV :=
  match inline E n f args [] with
  | some (r, H) => purR H r
  | none => none

section
variable {P : Program} {E : Env}

theorem sum_top (hE : EnvOk P E) (hm : P.follows .mixedOrders = true) (hg : ∀ n, E.glob n = none) {n f : Nat} {args : List PV} {q : PV} (h : topV E n f args = some q) : SumOk P f args q := by
  intro I w vs himm hv
  unfold topV at h
  split at h
  · rename_i r H hin
    exact run_pure (inline_ok hE hm n) himm (fun n x e => by rw [hg n] at e; cases e) hv hin h
  · cases h
end
end Go.Pf
