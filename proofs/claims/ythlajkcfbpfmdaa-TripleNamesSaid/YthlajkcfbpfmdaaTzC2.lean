/- The calls that the statement TripleNames makes, answered by the evaluator (tables 24 to 35). -/
import Derived.Test.YthlajkcfbpfmdaaTzM
namespace Go.Proofs.Ythlajkcfbpfmdaa.Tz
open Go Go.Pf
theorem c24 : checksT E24 3000 t24 = true := by kernel_rfl
theorem c25 : checksT E25 3000 t25 = true := by kernel_rfl
theorem c26 : checksT E26 3000 t26 = true := by kernel_rfl
theorem c27 : checksT E27 3000 t27 = true := by kernel_rfl
theorem c28 : checksT E28 3000 t28 = true := by kernel_rfl
theorem c29 : checksT E29 3000 t29 = true := by kernel_rfl
theorem c30 : checksT E30 3000 t30 = true := by kernel_rfl
theorem c31 : checksT E31 3000 t31 = true := by kernel_rfl
theorem c32 : checksT E32 3000 t32 = true := by kernel_rfl
theorem c33 : checksT E33 3000 t33 = true := by kernel_rfl
theorem c34 : checksT E34 3000 t34 = true := by kernel_rfl
theorem c35 : checksT EC 3000 t35 = true := by kernel_rfl
end Go.Proofs.Ythlajkcfbpfmdaa.Tz
