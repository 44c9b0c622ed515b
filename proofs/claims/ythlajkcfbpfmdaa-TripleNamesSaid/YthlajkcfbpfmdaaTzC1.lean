/- The calls that the statement TripleNames makes, answered by the evaluator (tables 12 to 23). -/
import Derived.Test.YthlajkcfbpfmdaaTzM
namespace Go.Proofs.Ythlajkcfbpfmdaa.Tz
open Go Go.Pf
theorem c12 : checksT E12 3000 t12 = true := by kernel_rfl
theorem c13 : checksT E13 3000 t13 = true := by kernel_rfl
theorem c14 : checksT E14 3000 t14 = true := by kernel_rfl
theorem c15 : checksT E15 3000 t15 = true := by kernel_rfl
theorem c16 : checksT E16 3000 t16 = true := by kernel_rfl
theorem c17 : checksT E17 3000 t17 = true := by kernel_rfl
theorem c18 : checksT E18 3000 t18 = true := by kernel_rfl
theorem c19 : checksT E19 3000 t19 = true := by kernel_rfl
theorem c20 : checksT E20 3000 t20 = true := by kernel_rfl
theorem c21 : checksT E21 3000 t21 = true := by kernel_rfl
theorem c22 : checksT E22 3000 t22 = true := by kernel_rfl
theorem c23 : checksT E23 3000 t23 = true := by kernel_rfl
end Go.Proofs.Ythlajkcfbpfmdaa.Tz
