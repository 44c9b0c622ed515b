/- The calls that the statement BoundsNames makes, answered by the evaluator (tables 24 to 35). -/
import Derived.Test.YtlooeiaiafmikaaGreatDoorBnM
namespace Go.Proofs.YtlooeiaiafmikaaGreatDoor.Bn
open Go Go.Pf
theorem c24:yad E24 3000 t24=true:=by kernel_rfl
theorem c25:yad E25 3000 t25=true:=by kernel_rfl
theorem c26:yad E26 3000 t26=true:=by kernel_rfl
theorem c27:yad E27 3000 t27=true:=by kernel_rfl
theorem c28:yad E28 3000 t28=true:=by kernel_rfl
theorem c29:yad E29 3000 t29=true:=by kernel_rfl
theorem c30:yad E30 3000 t30=true:=by kernel_rfl
theorem c31:yad E31 3000 t31=true:=by kernel_rfl
theorem c32:yad E32 3000 t32=true:=by kernel_rfl
theorem c33:yad E33 3000 t33=true:=by kernel_rfl
theorem c34:yad E34 3000 t34=true:=by kernel_rfl
theorem c35:yad E35 3000 t35=true:=by kernel_rfl
end Go.Proofs.YtlooeiaiafmikaaGreatDoor.Bn
