/- The calls that the statement PieceNames makes, answered by the evaluator (tables 48 to 62). -/
import Derived.Test.YtnbebjhmfpchcaaPnM
namespace Go.Proofs.Ytnbebjhmfpchcaa.Pn
open Go Go.Pf
theorem c48 : checksT E48 3000 t48 = true := by kernel_rfl
theorem c49 : checksT E49 3000 t49 = true := by kernel_rfl
theorem c50 : checksT E50 3000 t50 = true := by kernel_rfl
theorem c51 : checksT E51 3000 t51 = true := by kernel_rfl
theorem c52 : checksT E52 3000 t52 = true := by kernel_rfl
theorem c53 : checksT E53 3000 t53 = true := by kernel_rfl
theorem c54 : checksT E54 3000 t54 = true := by kernel_rfl
theorem c55 : checksT E55 3000 t55 = true := by kernel_rfl
theorem c56 : checksT E56 3000 t56 = true := by kernel_rfl
theorem c57 : checksT E57 3000 t57 = true := by kernel_rfl
theorem c58 : checksT E58 3000 t58 = true := by kernel_rfl
theorem c59 : checksT E59 3000 t59 = true := by kernel_rfl
theorem c60 : checksT E60 3000 t60 = true := by kernel_rfl
theorem c61 : checksT E61 3000 t61 = true := by kernel_rfl
theorem c62 : checksT E62 3000 t62 = true := by kernel_rfl
end Go.Proofs.Ytnbebjhmfpchcaa.Pn
