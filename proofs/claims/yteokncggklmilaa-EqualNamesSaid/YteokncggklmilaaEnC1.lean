/- The calls that the statement EqualNames makes, answered by the evaluator (tables 6 to 11). -/
import Derived.Test.YteokncggklmilaaEnM
namespace Go.Proofs.Yteokncggklmilaa.En
open Go Go.Pf
theorem c6 : checksT E6 3000 t6 = true := by kernel_rfl
theorem c7 : checksT E7 3000 t7 = true := by kernel_rfl
theorem c8 : checksT E8 3000 t8 = true := by kernel_rfl
theorem c9 : checksT E9 3000 t9 = true := by kernel_rfl
theorem c10 : checksT E10 3000 t10 = true := by kernel_rfl
theorem c11 : checksT E11 3000 t11 = true := by kernel_rfl
end Go.Proofs.Yteokncggklmilaa.En
