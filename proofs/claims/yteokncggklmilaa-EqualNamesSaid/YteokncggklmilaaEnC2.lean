/- The calls that the statement EqualNames makes, answered by the evaluator (tables 12 to 17). -/
import Derived.Test.YteokncggklmilaaEnM
namespace Go.Proofs.Yteokncggklmilaa.En
open Go Go.Pf
theorem c12 : checksT E12 3000 t12 = true := by kernel_rfl
theorem c13 : checksT E13 3000 t13 = true := by kernel_rfl
theorem c14 : checksT E14 3000 t14 = true := by kernel_rfl
theorem c15 : checksT E15 3000 t15 = true := by kernel_rfl
theorem c16 : checksT E16 3000 t16 = true := by kernel_rfl
theorem c17 : checksT E17 3000 t17 = true := by kernel_rfl
end Go.Proofs.Yteokncggklmilaa.En
