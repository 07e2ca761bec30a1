/- The plain side of this seat's proofs: what the printed Lean functions answer, in numbers and lists alone. What is asked stands in each theorem. -/
import Derived.Test.YtdogdebhagediaaFx0
import Derived.Test.YtdogdebhagediaaFSpecIsIsland
import Derived.Test.YtdogdebhagediaaQHtGood
namespace Go.Proofs.Ytdogdebhagediaa.P
open Go.RowKit Go.Proofs.YtdogdebhagediaaW.PrintWords Go.Proofs.YtdogdebhagediaaW.PrintLast Go.Proofs.YtdogdebhagediaaW.PrintMore
set_option linter.unusedVariables false
set_option linter.unusedSimpArgs false
theorem spec_IsIsland.ev (a b c d : Int) : Ev (fun k => spec_IsIsland.f k a b c d) (mIsland a b c d) := by
  unfold spec_IsIsland.f
  exact Ev.bind (spec_htGood.ev a b c d) (Ev.now _)
end Go.Proofs.Ytdogdebhagediaa.P
