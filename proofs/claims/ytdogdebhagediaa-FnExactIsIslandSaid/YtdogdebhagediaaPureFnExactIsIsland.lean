/- The plain side of this seat's proofs: what the printed Lean functions answer, in numbers and lists alone. What is asked stands in each theorem. -/
import Derived.Test.YtdogdebhagediaaFx0
import Derived.Test.YtdogdebhagediaaFLawsFnExactIsIsland
import Derived.Test.YtdogdebhagediaaFLawsToIsland
import Derived.Test.YtdogdebhagediaaQImplIsIsland
import Derived.Test.YtdogdebhagediaaQSpecIsIsland
namespace Go.Proofs.Ytdogdebhagediaa.Pure
open Go.RowKit Go.Proofs.YtdogdebhagediaaW.PrintWords Go.Proofs.YtdogdebhagediaaW.PrintLast Go.Proofs.YtdogdebhagediaaW.PrintMore Go.Proofs.Ytdogdebhagediaa.P
set_option linter.unusedVariables false
set_option linter.unusedSimpArgs false
theorem FnExactIsIsland : ∀ a b c d : Int, (Lit.int .i64 a).wf = true → (Lit.int .i64 b).wf = true → (Lit.int .i64 c).wf = true → (Lit.int .i64 d).wf = true → ∃ k, laws_FnExactIsIsland.f k a b c d = some true := fun a b c d _ _ _ _ => by
  obtain ⟨K, h⟩ := spec_IsIsland.ev a b c d
  refine ⟨K, ?_⟩
  have h := h K (Nat.le_refl _)
  dsimp only at *
  simp [laws_FnExactIsIsland.f, laws_toIsland.f, h, impl_IsIsland.eq]
end Go.Proofs.Ytdogdebhagediaa.Pure
