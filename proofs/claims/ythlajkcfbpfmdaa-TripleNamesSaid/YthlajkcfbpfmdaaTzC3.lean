/- The calls that the statement TripleNames makes, answered by the evaluator (tables 36 to 43). -/
import Derived.Test.YthlajkcfbpfmdaaTzM
namespace Go.Proofs.Ythlajkcfbpfmdaa.Tz
open Go Go.Pf
theorem c36 : checksT E36 3000 t36 = true := by kernel_rfl
theorem c37 : checksT E37 3000 t37 = true := by kernel_rfl
theorem c38 : checksT E38 3000 t38 = true := by kernel_rfl
theorem c39 : checksT E39 3000 t39 = true := by kernel_rfl
theorem c40 : checksT E40 3000 t40 = true := by kernel_rfl
theorem c41 : checksT E41 3000 t41 = true := by kernel_rfl
theorem c42 : checksT E42 3000 t42 = true := by kernel_rfl
theorem c43 : checksT E43 3000 t43 = true := by kernel_rfl
end Go.Proofs.Ythlajkcfbpfmdaa.Tz
