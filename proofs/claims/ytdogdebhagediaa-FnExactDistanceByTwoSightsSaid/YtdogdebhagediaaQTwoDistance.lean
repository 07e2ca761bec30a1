/- The plain side of this seat's proofs: what the printed Lean functions answer, in numbers and lists alone. What is asked stands in each theorem. -/
import Derived.Test.YtdogdebhagediaaFx0
import Derived.Test.YtdogdebhagediaaFImplDistanceByTwoSights
import Derived.Test.YtdogdebhagediaaFSpecDistanceByTwoSights
import Derived.Test.YtdogdebhagediaaQAreSteps
import Derived.Test.YtdogdebhagediaaQBase
import Derived.Test.YtdogdebhagediaaQClLow
import Derived.Test.YtdogdebhagediaaQGcd
import Derived.Test.YtdogdebhagediaaQSights
namespace Go.Proofs.Ytdogdebhagediaa.P
open Go.RowKit Go.Proofs.YtdogdebhagediaaW.PrintWords Go.Proofs.YtdogdebhagediaaW.PrintLast Go.Proofs.YtdogdebhagediaaW.PrintMore
set_option linter.unusedVariables false
set_option linter.unusedSimpArgs false
def mTwoDist (a b c : Int) : Int × Int × Bool := if mSights a b c = true then (loA (a * c) (b - a), loB (a * c) (b - a), true) else (0, 0, false)
theorem spec_DistanceByTwoSights.ev (a b c : Int) : Ev (fun k => spec_DistanceByTwoSights.f k a b c) (mTwoDist a b c) := by
  obtain ⟨K1, h1⟩ := spec_htSights.ev a b c
  unfold mTwoDist spec_DistanceByTwoSights.f
  by_cases e : mSights a b c = true
  · obtain ⟨b0, b1, b2, b3⟩ := mSights_iff.1 e
    have p := mul_bd (a := a) (b := c) (A := 2000) (B := 2000) (by omega) (by omega) (by omega) (by omega)
    obtain ⟨K2, h2⟩ := spec_clLow.ev (x := a * c) (y := b - a) (by omega) (by omega) (by omega) (by omega)
    refine ⟨max K1 K2, fun k hk => ?_⟩
    have h1 := h1 k (by omega); have h2 := h2 k (by omega)
    rw [Int.mul_comm c a]
    simp [h1, e, wid (show -9223372036854775808 ≤ a * c by omega) (by omega), wid (show -9223372036854775808 ≤ b - a by omega) (by omega), h2]
  · refine ⟨K1, fun k hk => ?_⟩
    have h1 := h1 k hk
    simp [h1, e]
theorem impl_DistanceByTwoSights.ev (a b c : Int) : Ev (fun k => impl_DistanceByTwoSights.f k a b c) (mTwoDist a b c) := by
  unfold mTwoDist impl_DistanceByTwoSights.f
  by_cases e : mSights a b c = true
  · obtain ⟨b0, b1, b2, b3⟩ := mSights_iff.1 e
    have p := mul_bd (a := a) (b := c) (A := 2000) (B := 2000) (by omega) (by omega) (by omega) (by omega)
    obtain ⟨K2, h2⟩ := impl_fraction.ev (a := a * c) (b := b - a) (by omega) (by omega) (by omega) (by omega)
    refine ⟨K2, fun k hk => ?_⟩
    have h2 := h2 k (by omega)
    simp [impl_areSteps.eq, inr_iff.2 b0, inr_iff.2 b1, inr_iff.2 b2, e, show ¬ b ≤ a by omega, wid (show -9223372036854775808 ≤ a * c by omega) (by omega), wid (show -9223372036854775808 ≤ b - a by omega) (by omega), h2]
  · refine ⟨0, fun k hk => ?_⟩
    dsimp only at *
    rw [if_neg e, impl_areSteps.eq]
    simp only [mSights] at e
    cases e0 : inr 1 2000 a <;> cases e1 : inr 1 2000 b <;> cases e2 : inr 1 2000 c <;> simp [e0, e1, e2] at e ⊢
    intro h; omega
end Go.Proofs.Ytdogdebhagediaa.P
