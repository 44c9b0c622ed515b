/- The calls that the statement PieceNames makes, answered by the evaluator (tables 16 to 31). -/
import Derived.Test.YtnbebjhmfpchcaaPnM
namespace Go.Proofs.Ytnbebjhmfpchcaa.Pn
open Go Go.Pf
theorem c16 : checksT E16 3000 t16 = true := by kernel_rfl
theorem c17 : checksT E17 3000 t17 = true := by kernel_rfl
theorem c18 : checksT E18 3000 t18 = true := by kernel_rfl
theorem c19 : checksT E19 3000 t19 = true := by kernel_rfl
theorem c20 : checksT E20 3000 t20 = true := by kernel_rfl
theorem c21 : checksT E21 3000 t21 = true := by kernel_rfl
theorem c22 : checksT E22 3000 t22 = true := by kernel_rfl
theorem c23 : checksT E23 3000 t23 = true := by kernel_rfl
theorem c24 : checksT E24 3000 t24 = true := by kernel_rfl
theorem c25 : checksT E25 3000 t25 = true := by kernel_rfl
theorem c26 : checksT E26 3000 t26 = true := by kernel_rfl
theorem c27 : checksT E27 3000 t27 = true := by kernel_rfl
theorem c28 : checksT E28 3000 t28 = true := by kernel_rfl
theorem c29 : checksT E29 3000 t29 = true := by kernel_rfl
theorem c30 : checksT E30 3000 t30 = true := by kernel_rfl
theorem c31 : checksT E31 3000 t31 = true := by kernel_rfl
end Go.Proofs.Ytnbebjhmfpchcaa.Pn
