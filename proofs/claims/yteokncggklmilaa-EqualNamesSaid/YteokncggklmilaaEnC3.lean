/- The calls that the statement EqualNames makes, answered by the evaluator (tables 18 to 23). -/
import Derived.Test.YteokncggklmilaaEnM
namespace Go.Proofs.Yteokncggklmilaa.En
open Go Go.Pf
theorem c18 : checksT E18 3000 t18 = true := by kernel_rfl
theorem c19 : checksT E19 3000 t19 = true := by kernel_rfl
theorem c20 : checksT E20 3000 t20 = true := by kernel_rfl
theorem c21 : checksT E21 3000 t21 = true := by kernel_rfl
theorem c22 : checksT E22 3000 t22 = true := by kernel_rfl
theorem c23 : checksT E23 3000 t23 = true := by kernel_rfl
end Go.Proofs.Yteokncggklmilaa.En
