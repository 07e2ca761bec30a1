/- The plain side of this seat's proofs: what the printed Lean functions answer, in numbers and lists alone. What is asked stands in each theorem. -/
import Derived.Test.YtdogdebhagediaaFx0
import Derived.Test.YtdogdebhagediaaFImplIsIsland
import Derived.Test.YtdogdebhagediaaQAreStaffs
import Derived.Test.YtdogdebhagediaaQAreSteps
import Derived.Test.YtdogdebhagediaaQBase
import Derived.Test.YtdogdebhagediaaQHtGood
namespace Go.Proofs.Ytdogdebhagediaa.P
open Go.RowKit Go.Proofs.YtdogdebhagediaaW.PrintWords Go.Proofs.YtdogdebhagediaaW.PrintLast Go.Proofs.YtdogdebhagediaaW.PrintMore
set_option linter.unusedVariables false
set_option linter.unusedSimpArgs false
theorem impl_IsIsland.eq (a b c d : Int) : impl_IsIsland.f a b c d = some (mIsland a b c d) := by
  unfold impl_IsIsland.f mIsland
  rw [impl_areStaffs.eq, impl_areSteps.eq]
  simp only [Option.bind_some, List.all_cons, List.all_nil, Bool.and_true]
  cases inr 1 100 a <;> cases inr 1 2000 b <;> cases inr 1 2000 c <;> cases inr 1 2000 d <;> simp
end Go.Proofs.Ytdogdebhagediaa.P
