/- The calls that the statement BoundsNames makes, answered by the evaluator (tables 12 to 23). -/
import Derived.Test.YtlooeiaiafmikaaGreatDoorBnM
namespace Go.Proofs.YtlooeiaiafmikaaGreatDoor.Bn
open Go Go.Pf
theorem c12:yad E12 3000 t12=true:=by kernel_rfl
theorem c13:yad E13 3000 t13=true:=by kernel_rfl
theorem c14:yad E14 3000 t14=true:=by kernel_rfl
theorem c15:yad E15 3000 t15=true:=by kernel_rfl
theorem c16:yad E16 3000 t16=true:=by kernel_rfl
theorem c17:yad E17 3000 t17=true:=by kernel_rfl
theorem c18:yad E18 3000 t18=true:=by kernel_rfl
theorem c19:yad E19 3000 t19=true:=by kernel_rfl
theorem c20:yad E20 3000 t20=true:=by kernel_rfl
theorem c21:yad E21 3000 t21=true:=by kernel_rfl
theorem c22:yad E22 3000 t22=true:=by kernel_rfl
theorem c23:yad E23 3000 t23=true:=by kernel_rfl
end Go.Proofs.YtlooeiaiafmikaaGreatDoor.Bn
