/- The calls that the statement BoundsNames makes, answered by the evaluator (tables 36 to 47). -/
import Derived.Test.YtlooeiaiafmikaaGreatDoorBnM
namespace Go.Proofs.YtlooeiaiafmikaaGreatDoor.Bn
open Go Go.Pf
theorem c36:yad E36 3000 t36=true:=by kernel_rfl
theorem c37:yad E37 3000 t37=true:=by kernel_rfl
theorem c38:yad E38 3000 t38=true:=by kernel_rfl
theorem c39:yad E39 3000 t39=true:=by kernel_rfl
theorem c40:yad E40 3000 t40=true:=by kernel_rfl
theorem c41:yad E41 3000 t41=true:=by kernel_rfl
theorem c42:yad E42 3000 t42=true:=by kernel_rfl
theorem c43:yad E43 3000 t43=true:=by kernel_rfl
theorem c44:yad E44 3000 t44=true:=by kernel_rfl
theorem c45:yad E45 3000 t45=true:=by kernel_rfl
theorem c46:yad E46 3000 t46=true:=by kernel_rfl
theorem c47:yad E47 3000 t47=true:=by kernel_rfl
end Go.Proofs.YtlooeiaiafmikaaGreatDoor.Bn
