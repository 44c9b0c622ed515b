/- The calls that the statement EqualNames makes, answered by the evaluator (tables 36 to 39). -/
import Derived.Test.YteokncggklmilaaEnM
namespace Go.Proofs.Yteokncggklmilaa.En
open Go Go.Pf
theorem c36 : checksT E36 3000 t36 = true := by kernel_rfl
theorem c37 : checksT E37 3000 t37 = true := by kernel_rfl
theorem c38 : checksT E38 3000 t38 = true := by kernel_rfl
theorem c39 : checksT E39 3000 t39 = true := by kernel_rfl
end Go.Proofs.Yteokncggklmilaa.En
