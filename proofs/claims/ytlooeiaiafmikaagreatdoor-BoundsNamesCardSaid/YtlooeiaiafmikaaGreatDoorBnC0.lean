/- The calls that the statement BoundsNames makes, answered by the evaluator (tables 0 to 11). -/
import Derived.Test.YtlooeiaiafmikaaGreatDoorBnM
namespace Go.Proofs.YtlooeiaiafmikaaGreatDoor.Bn
open Go Go.Pf
theorem c0:yad E0 3000 t0=true:=by kernel_rfl
theorem c1:yad E1 3000 t1=true:=by kernel_rfl
theorem c2:yad E2 3000 t2=true:=by kernel_rfl
theorem c3:yad E3 3000 t3=true:=by kernel_rfl
theorem c4:yad E4 3000 t4=true:=by kernel_rfl
theorem c5:yad E5 3000 t5=true:=by kernel_rfl
theorem c6:yad E6 3000 t6=true:=by kernel_rfl
theorem c7:yad E7 3000 t7=true:=by kernel_rfl
theorem c8:yad E8 3000 t8=true:=by kernel_rfl
theorem c9:yad E9 3000 t9=true:=by kernel_rfl
theorem c10:yad E10 3000 t10=true:=by kernel_rfl
theorem c11:yad E11 3000 t11=true:=by kernel_rfl
end Go.Proofs.YtlooeiaiafmikaaGreatDoor.Bn
