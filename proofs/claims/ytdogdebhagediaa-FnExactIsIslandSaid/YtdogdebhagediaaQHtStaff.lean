/- The plain side of this seat's proofs: what the printed Lean functions answer, in numbers and lists alone. What is asked stands in each theorem. -/
import Derived.Test.YtdogdebhagediaaFx0
import Derived.Test.YtdogdebhagediaaFSpecHtStaff
import Derived.Test.YtdogdebhagediaaQBase
import Derived.Test.YtdogdebhagediaaQL1In
namespace Go.Proofs.Ytdogdebhagediaa.P
open Go.RowKit Go.Proofs.YtdogdebhagediaaW.PrintWords Go.Proofs.YtdogdebhagediaaW.PrintLast Go.Proofs.YtdogdebhagediaaW.PrintMore
set_option linter.unusedVariables false
set_option linter.unusedSimpArgs false
theorem spec_htStaff.eq (a : Int) : spec_htStaff.f a = some (inr 1 100 a) := by
  unfold spec_htStaff.f; rw [spec_l1In.eq]; rfl
end Go.Proofs.Ytdogdebhagediaa.P
