/- The calls that the statement TrimNames makes, answered by the evaluator (tables 12 to 15). -/
import Derived.Test.YtppkmfaolbocfaaTnM
namespace Go.Proofs.Ytppkmfaolbocfaa.Tn
open Go Go.Pf
theorem c12 : checksT E12 3000 t12 = true := by kernel_rfl
theorem c13 : checksT E13 3000 t13 = true := by kernel_rfl
theorem c14 : checksT E14 3000 t14 = true := by kernel_rfl
theorem c15 : checksT E15 3000 t15 = true := by kernel_rfl
end Go.Proofs.Ytppkmfaolbocfaa.Tn
