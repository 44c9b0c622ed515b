/- The calls that the statement TripleNames makes, answered by the evaluator (tables 0 to 11). -/
import Derived.Test.YthlajkcfbpfmdaaTzM
namespace Go.Proofs.Ythlajkcfbpfmdaa.Tz
open Go Go.Pf
theorem c0 : checksT E0 3000 t0 = true := by kernel_rfl
theorem c1 : checksT E1 3000 t1 = true := by kernel_rfl
theorem c2 : checksT E2 3000 t2 = true := by kernel_rfl
theorem c3 : checksT E3 3000 t3 = true := by kernel_rfl
theorem c4 : checksT E4 3000 t4 = true := by kernel_rfl
theorem c5 : checksT E5 3000 t5 = true := by kernel_rfl
theorem c6 : checksT E6 3000 t6 = true := by kernel_rfl
theorem c7 : checksT E7 3000 t7 = true := by kernel_rfl
theorem c8 : checksT E8 3000 t8 = true := by kernel_rfl
theorem c9 : checksT E9 3000 t9 = true := by kernel_rfl
theorem c10 : checksT E10 3000 t10 = true := by kernel_rfl
theorem c11 : checksT E11 3000 t11 = true := by kernel_rfl
end Go.Proofs.Ythlajkcfbpfmdaa.Tz
