/- The calls that the statement PieceNames makes, answered by the evaluator (tables 32 to 47). -/
import Derived.Test.YtnbebjhmfpchcaaPnM
namespace Go.Proofs.Ytnbebjhmfpchcaa.Pn
open Go Go.Pf
theorem c32 : checksT E32 3000 t32 = true := by kernel_rfl
theorem c33 : checksT E33 3000 t33 = true := by kernel_rfl
theorem c34 : checksT E34 3000 t34 = true := by kernel_rfl
theorem c35 : checksT E35 3000 t35 = true := by kernel_rfl
theorem c36 : checksT E36 3000 t36 = true := by kernel_rfl
theorem c37 : checksT E37 3000 t37 = true := by kernel_rfl
theorem c38 : checksT E38 3000 t38 = true := by kernel_rfl
theorem c39 : checksT E39 3000 t39 = true := by kernel_rfl
theorem c40 : checksT E40 3000 t40 = true := by kernel_rfl
theorem c41 : checksT E41 3000 t41 = true := by kernel_rfl
theorem c42 : checksT E42 3000 t42 = true := by kernel_rfl
theorem c43 : checksT E43 3000 t43 = true := by kernel_rfl
theorem c44 : checksT E44 3000 t44 = true := by kernel_rfl
theorem c45 : checksT E45 3000 t45 = true := by kernel_rfl
theorem c46 : checksT E46 3000 t46 = true := by kernel_rfl
theorem c47 : checksT E47 3000 t47 = true := by kernel_rfl
end Go.Proofs.Ytnbebjhmfpchcaa.Pn
