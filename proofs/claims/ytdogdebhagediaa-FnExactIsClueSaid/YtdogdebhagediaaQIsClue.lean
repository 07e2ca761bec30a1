/- The plain side of this seat's proofs: what the printed Lean functions answer, in numbers and lists alone. What is asked stands in each theorem. -/
import Derived.Test.YtdogdebhagediaaFx0
import Derived.Test.YtdogdebhagediaaFImplIsClueb
import Derived.Test.YtdogdebhagediaaFImplIsSmall
import Derived.Test.YtdogdebhagediaaFSpecIsClue
import Derived.Test.YtdogdebhagediaaFSpecPzWide
import Derived.Test.YtdogdebhagediaaQBase
import Derived.Test.YtdogdebhagediaaQClue
import Derived.Test.YtdogdebhagediaaQL1In
import Derived.Test.YtdogdebhagediaaQWithin
namespace Go.Proofs.Ytdogdebhagediaa.P
open Go.RowKit Go.Proofs.YtdogdebhagediaaW.PrintWords Go.Proofs.YtdogdebhagediaaW.PrintLast Go.Proofs.YtdogdebhagediaaW.PrintMore
set_option linter.unusedVariables false
set_option linter.unusedSimpArgs false
theorem spec_IsClue.ev (n k a b : Int) : Ev (fun m => spec_IsClue.f m n k a b) (inr 1 12 n && mClue k a b) := by
  obtain ⟨K, h⟩ := spec_pzClue.ev k a b
  refine ⟨K, fun m hm => ?_⟩
  have h := h m hm
  dsimp only at *
  unfold spec_IsClue.f spec_pzWide.f
  rw [spec_l1In.eq, h]
  cases inr 1 12 n <;> simp
theorem impl_IsClue.ev (n k a b : Int) : Ev (fun m => impl_IsClue.f m n k a b) (inr 1 12 n && mClue k a b) := by
  obtain ⟨K, h⟩ := impl_isClue.ev k a b
  refine ⟨K, fun m hm => ?_⟩
  have h := h m hm
  dsimp only at *
  unfold impl_IsClue.f impl_isSmall.f
  rw [impl_within.eq, h]
  cases inr 1 12 n <;> simp
end Go.Proofs.Ytdogdebhagediaa.P
