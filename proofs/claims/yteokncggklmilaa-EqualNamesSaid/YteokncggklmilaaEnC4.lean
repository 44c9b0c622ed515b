/- The calls that the statement EqualNames makes, answered by the evaluator (tables 24 to 29). -/
import Derived.Test.YteokncggklmilaaEnM
namespace Go.Proofs.Yteokncggklmilaa.En
open Go Go.Pf
theorem c24 : checksT E24 3000 t24 = true := by kernel_rfl
theorem c25 : checksT E25 3000 t25 = true := by kernel_rfl
theorem c26 : checksT E26 3000 t26 = true := by kernel_rfl
theorem c27 : checksT E27 3000 t27 = true := by kernel_rfl
theorem c28 : checksT E28 3000 t28 = true := by kernel_rfl
theorem c29 : checksT E29 3000 t29 = true := by kernel_rfl
end Go.Proofs.Yteokncggklmilaa.En
