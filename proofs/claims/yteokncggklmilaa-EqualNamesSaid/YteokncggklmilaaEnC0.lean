/- The calls that the statement EqualNames makes, answered by the evaluator (tables 0 to 5). -/
import Derived.Test.YteokncggklmilaaEnM
namespace Go.Proofs.Yteokncggklmilaa.En
open Go Go.Pf
theorem c0 : checksT E0 3000 t0 = true := by kernel_rfl
theorem c1 : checksT E1 3000 t1 = true := by kernel_rfl
theorem c2 : checksT E2 3000 t2 = true := by kernel_rfl
theorem c3 : checksT E3 3000 t3 = true := by kernel_rfl
theorem c4 : checksT E4 3000 t4 = true := by kernel_rfl
theorem c5 : checksT E5 3000 t5 = true := by kernel_rfl
end Go.Proofs.Yteokncggklmilaa.En
