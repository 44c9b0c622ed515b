/- The calls that the statement KnifeNames makes, answered by the evaluator (tables 36 to 36). -/
import Derived.Test.YtfkfmlifhdcolaaKnM
namespace Go.Proofs.Ytfkfmlifhdcolaa.Kn
open Go Go.Pf
theorem c36 : checksT E36 3000 t36 = true := by kernel_rfl
end Go.Proofs.Ytfkfmlifhdcolaa.Kn
