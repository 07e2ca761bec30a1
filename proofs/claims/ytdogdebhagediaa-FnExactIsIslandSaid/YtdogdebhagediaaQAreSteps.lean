/- The plain side of this seat's proofs: what the printed Lean functions answer, in numbers and lists alone. What is asked stands in each theorem. -/
import Derived.Test.YtdogdebhagediaaFx0
import Derived.Test.YtdogdebhagediaaFImplAreSteps
import Derived.Test.YtdogdebhagediaaQBase
namespace Go.Proofs.Ytdogdebhagediaa.P
open Go.RowKit Go.Proofs.YtdogdebhagediaaW.PrintWords Go.Proofs.YtdogdebhagediaaW.PrintLast Go.Proofs.YtdogdebhagediaaW.PrintMore
set_option linter.unusedVariables false
set_option linter.unusedSimpArgs false
theorem impl_areSteps.eq (l : List Int) : impl_areSteps.f l = some (l.all (inr 1 2000)) := by
  unfold impl_areSteps.f
  rw [List.not_any_eq_all_not]; congr 1; congr 1; funext n; simp [inr]
end Go.Proofs.Ytdogdebhagediaa.P
