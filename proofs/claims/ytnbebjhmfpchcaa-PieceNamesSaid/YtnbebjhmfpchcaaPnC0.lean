/- The calls that the statement PieceNames makes, answered by the evaluator (tables 0 to 15). -/
import Derived.Test.YtnbebjhmfpchcaaPnM
namespace Go.Proofs.Ytnbebjhmfpchcaa.Pn
open Go Go.Pf
theorem c0 : checksT E0 3000 t0 = true := by kernel_rfl
theorem c1 : checksT E1 3000 t1 = true := by kernel_rfl
theorem c2 : checksT E2 3000 t2 = true := by kernel_rfl
theorem c3 : checksT E3 3000 t3 = true := by kernel_rfl
theorem c4 : checksT E4 3000 t4 = true := by kernel_rfl
theorem c5 : checksT E5 3000 t5 = true := by kernel_rfl
theorem c6 : checksT E6 3000 t6 = true := by kernel_rfl
theorem c7 : checksT E7 3000 t7 = true := by kernel_rfl
theorem c8 : checksT E8 3000 t8 = true := by kernel_rfl
theorem c9 : checksT E9 3000 t9 = true := by kernel_rfl
theorem c10 : checksT E10 3000 t10 = true := by kernel_rfl
theorem c11 : checksT E11 3000 t11 = true := by kernel_rfl
theorem c12 : checksT E12 3000 t12 = true := by kernel_rfl
theorem c13 : checksT E13 3000 t13 = true := by kernel_rfl
theorem c14 : checksT E14 3000 t14 = true := by kernel_rfl
theorem c15 : checksT E15 3000 t15 = true := by kernel_rfl
end Go.Proofs.Ytnbebjhmfpchcaa.Pn
