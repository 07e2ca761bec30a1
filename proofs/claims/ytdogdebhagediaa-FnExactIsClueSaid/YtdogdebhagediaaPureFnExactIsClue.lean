/- The plain side of this seat's proofs: what the printed Lean functions answer, in numbers and lists alone. What is asked stands in each theorem. -/
import Derived.Test.YtdogdebhagediaaFx0
import Derived.Test.YtdogdebhagediaaFLawsFnExactIsClue
import Derived.Test.YtdogdebhagediaaFLawsToClue
import Derived.Test.YtdogdebhagediaaQIsClue
namespace Go.Proofs.Ytdogdebhagediaa.Pure
open Go.RowKit Go.Proofs.YtdogdebhagediaaW.PrintWords Go.Proofs.YtdogdebhagediaaW.PrintLast Go.Proofs.YtdogdebhagediaaW.PrintMore Go.Proofs.Ytdogdebhagediaa.P
set_option linter.unusedVariables false
set_option linter.unusedSimpArgs false
theorem FnExactIsClue : ∀ n a b c : Int, (Lit.int .i64 n).wf = true → (Lit.int .i64 a).wf = true → (Lit.int .i64 b).wf = true → (Lit.int .i64 c).wf = true → ∃ k, laws_FnExactIsClue.f k n a b c = some true := fun n a b c _ _ _ _ => by
  obtain ⟨K1, h1⟩ := spec_IsClue.ev n a b c
  obtain ⟨K2, h2⟩ := impl_IsClue.ev n a b c
  refine ⟨max K1 K2, ?_⟩
  have h1 := h1 (max K1 K2) (by omega)
  have h2 := h2 (max K1 K2) (by omega)
  dsimp only at *
  simp [laws_FnExactIsClue.f, laws_toClue.f, h1, h2]
end Go.Proofs.Ytdogdebhagediaa.Pure
