/- The plain side of this seat's proofs: what the printed Lean functions answer, in numbers and lists alone. What is asked stands in each theorem. -/
import Derived.Test.YtdogdebhagediaaFx0
import Derived.Test.YtdogdebhagediaaFLawsFnExactRiverWide
import Derived.Test.YtdogdebhagediaaQRiver
namespace Go.Proofs.Ytdogdebhagediaa.Pure
open Go.RowKit Go.Proofs.YtdogdebhagediaaW.PrintWords Go.Proofs.YtdogdebhagediaaW.PrintLast Go.Proofs.YtdogdebhagediaaW.PrintMore Go.Proofs.Ytdogdebhagediaa.P
set_option linter.unusedVariables false
set_option linter.unusedSimpArgs false
theorem FnExactRiverWide : laws_FnExactRiverWide.Pure := fun a b c _ _ _  => by
  obtain ⟨K1, h1⟩ := spec_RiverWide.ev a b c
  obtain ⟨K2, h2⟩ := impl_RiverWide.ev a b c
  refine ⟨max K1 K2, ?_⟩
  have h1 := h1 (max K1 K2) (by omega)
  have h2 := h2 (max K1 K2) (by omega)
  dsimp only at *
  unfold laws_FnExactRiverWide.f
  rw [h1, h2]
  simp
end Go.Proofs.Ytdogdebhagediaa.Pure
