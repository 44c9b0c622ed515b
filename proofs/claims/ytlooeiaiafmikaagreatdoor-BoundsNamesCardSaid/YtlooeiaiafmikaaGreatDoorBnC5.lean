/- The calls that the statement BoundsNames makes, answered by the evaluator (tables 60 to 71). -/
import Derived.Test.YtlooeiaiafmikaaGreatDoorBnM
namespace Go.Proofs.YtlooeiaiafmikaaGreatDoor.Bn
open Go Go.Pf
theorem c60:yad E60 3000 t60=true:=by kernel_rfl
theorem c61:yad E61 3000 t61=true:=by kernel_rfl
theorem c62:yad E62 3000 t62=true:=by kernel_rfl
theorem c63:yad E63 3000 t63=true:=by kernel_rfl
theorem c64:yad E64 3000 t64=true:=by kernel_rfl
theorem c65:yad E65 3000 t65=true:=by kernel_rfl
theorem c66:yad E66 3000 t66=true:=by kernel_rfl
theorem c67:yad E67 3000 t67=true:=by kernel_rfl
theorem c68:yad E68 3000 t68=true:=by kernel_rfl
theorem c69:yad E69 3000 t69=true:=by kernel_rfl
theorem c70:yad E70 3000 t70=true:=by kernel_rfl
theorem c71:yad E71 3000 t71=true:=by kernel_rfl
end Go.Proofs.YtlooeiaiafmikaaGreatDoor.Bn
