/- The plain side of this seat's proofs: what the printed Lean functions answer, in numbers and lists alone. What is asked stands in each theorem. -/
import Derived.Test.YtdogdebhagediaaFx0
import Derived.Test.YtdogdebhagediaaFSpecHtGood
import Derived.Test.YtdogdebhagediaaQBase
import Derived.Test.YtdogdebhagediaaQHtLong
import Derived.Test.YtdogdebhagediaaQHtStaff
namespace Go.Proofs.Ytdogdebhagediaa.P
open Go.RowKit Go.Proofs.YtdogdebhagediaaW.PrintWords Go.Proofs.YtdogdebhagediaaW.PrintLast Go.Proofs.YtdogdebhagediaaW.PrintMore
set_option linter.unusedVariables false
set_option linter.unusedSimpArgs false
def mIsland (a b c d : Int) : Bool := inr 1 100 a && (inr 1 2000 b && (inr 1 2000 c && (inr 1 2000 d && decide (c < d))))
theorem spec_htGood.ev (a b c d : Int) : Ev (fun k => spec_htGood.f k a b c d) (mIsland a b c d) := by
  obtain ⟨K1, h1⟩ := spec_htLong.ev (l := [b, c, d]) (by simp)
  refine ⟨K1, fun k hk => ?_⟩
  have h1 := h1 k hk
  simp only [List.all_cons, List.all_nil, Bool.and_true] at h1
  unfold spec_htGood.f mIsland
  dsimp only at *
  rw [spec_htStaff.eq, h1]
  simp only [Option.bind_some]
  cases inr 1 100 a <;> cases inr 1 2000 b <;> cases inr 1 2000 c <;> cases inr 1 2000 d <;> simp
end Go.Proofs.Ytdogdebhagediaa.P
