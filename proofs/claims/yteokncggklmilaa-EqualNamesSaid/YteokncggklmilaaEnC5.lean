/- The calls that the statement EqualNames makes, answered by the evaluator (tables 30 to 35). -/
import Derived.Test.YteokncggklmilaaEnM
namespace Go.Proofs.Yteokncggklmilaa.En
open Go Go.Pf
theorem c30 : checksT E30 3000 t30 = true := by kernel_rfl
theorem c31 : checksT E31 3000 t31 = true := by kernel_rfl
theorem c32 : checksT E32 3000 t32 = true := by kernel_rfl
theorem c33 : checksT E33 3000 t33 = true := by kernel_rfl
theorem c34 : checksT E34 3000 t34 = true := by kernel_rfl
theorem c35 : checksT E35 3000 t35 = true := by kernel_rfl
end Go.Proofs.Yteokncggklmilaa.En
