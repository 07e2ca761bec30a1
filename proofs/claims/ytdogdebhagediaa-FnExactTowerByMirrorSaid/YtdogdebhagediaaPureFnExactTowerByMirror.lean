/- The plain side of this seat's proofs: what the printed Lean functions answer, in numbers and lists alone. What is asked stands in each theorem. -/
import Derived.Test.YtdogdebhagediaaFx0
import Derived.Test.YtdogdebhagediaaFLawsFnExactTowerByMirror
import Derived.Test.YtdogdebhagediaaQMirror
namespace Go.Proofs.Ytdogdebhagediaa.Pure
open Go.RowKit Go.Proofs.YtdogdebhagediaaW.PrintWords Go.Proofs.YtdogdebhagediaaW.PrintLast Go.Proofs.YtdogdebhagediaaW.PrintMore Go.Proofs.Ytdogdebhagediaa.P
set_option linter.unusedVariables false
set_option linter.unusedSimpArgs false
theorem FnExactTowerByMirror : laws_FnExactTowerByMirror.Pure := fun a b c _ _ _  => by
  obtain ⟨K1, h1⟩ := spec_TowerByMirror.ev a b c
  obtain ⟨K2, h2⟩ := impl_TowerByMirror.ev a b c
  refine ⟨max K1 K2, ?_⟩
  have h1 := h1 (max K1 K2) (by omega)
  have h2 := h2 (max K1 K2) (by omega)
  dsimp only at *
  unfold laws_FnExactTowerByMirror.f
  rw [h1, h2]
  simp
end Go.Proofs.Ytdogdebhagediaa.Pure
