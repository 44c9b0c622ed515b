/- The calls that the statement BoundsNames makes, answered by the evaluator (tables 72 to 72). -/
import Derived.Test.YtlooeiaiafmikaaGreatDoorBnM
namespace Go.Proofs.YtlooeiaiafmikaaGreatDoor.Bn
open Go Go.Pf
theorem c72:yad E72 3000 t72=true:=by kernel_rfl
end Go.Proofs.YtlooeiaiafmikaaGreatDoor.Bn
