/- The calls that the statement BoundsNames makes, answered by the evaluator (tables 48 to 59). -/
import Derived.Test.YtlooeiaiafmikaaGreatDoorBnM
namespace Go.Proofs.YtlooeiaiafmikaaGreatDoor.Bn
open Go Go.Pf
theorem c48:yad E48 3000 t48=true:=by kernel_rfl
theorem c49:yad E49 3000 t49=true:=by kernel_rfl
theorem c50:yad E50 3000 t50=true:=by kernel_rfl
theorem c51:yad E51 3000 t51=true:=by kernel_rfl
theorem c52:yad E52 3000 t52=true:=by kernel_rfl
theorem c53:yad E53 3000 t53=true:=by kernel_rfl
theorem c54:yad E54 3000 t54=true:=by kernel_rfl
theorem c55:yad E55 3000 t55=true:=by kernel_rfl
theorem c56:yad E56 3000 t56=true:=by kernel_rfl
theorem c57:yad E57 3000 t57=true:=by kernel_rfl
theorem c58:yad E58 3000 t58=true:=by kernel_rfl
theorem c59:yad E59 3000 t59=true:=by kernel_rfl
end Go.Proofs.YtlooeiaiafmikaaGreatDoor.Bn
