/- The plain side of this seat's proofs: what the printed Lean functions answer, in numbers and lists alone. What is asked stands in each theorem. -/
import Derived.Test.YtdogdebhagediaaFx0
import Derived.Test.YtdogdebhagediaaFImplTowerByShadow
import Derived.Test.YtdogdebhagediaaFSpecTowerByShadow
import Derived.Test.YtdogdebhagediaaQAreStaffs
import Derived.Test.YtdogdebhagediaaQAreSteps
import Derived.Test.YtdogdebhagediaaQBase
import Derived.Test.YtdogdebhagediaaQClLow
import Derived.Test.YtdogdebhagediaaQGcd
import Derived.Test.YtdogdebhagediaaQHtLong
import Derived.Test.YtdogdebhagediaaQHtStaff
namespace Go.Proofs.Ytdogdebhagediaa.P
open Go.RowKit Go.Proofs.YtdogdebhagediaaW.PrintWords Go.Proofs.YtdogdebhagediaaW.PrintLast Go.Proofs.YtdogdebhagediaaW.PrintMore
set_option linter.unusedVariables false
set_option linter.unusedSimpArgs false
def mTower (a b c : Int) : Int × Int × Bool := if (inr 1 100 a && (inr 1 2000 b && inr 1 2000 c)) = true then (loA (a * c) b, loB (a * c) b, true) else (0, 0, false)
theorem spec_TowerByShadow.ev (a b c : Int) : Ev (fun k => spec_TowerByShadow.f k a b c) (mTower a b c) := by
  obtain ⟨K1, h1⟩ := spec_htLong.ev (l := [b, c]) (by simp)
  simp only [List.all_cons, List.all_nil, Bool.and_true] at h1
  cases e0 : inr 1 100 a <;> cases e1 : inr 1 2000 b <;> cases e2 : inr 1 2000 c
  case true.true.true =>
    have b0 := inr_iff.1 e0; have b1 := inr_iff.1 e1; have b2 := inr_iff.1 e2
    have p := mul_bd (a := a) (b := c) (A := 100) (B := 2000) (by omega) (by omega) (by omega) (by omega)
    obtain ⟨K2, h2⟩ := spec_clLow.ev (x := a * c) (y := b) (by omega) (by omega) (by omega) (by omega)
    refine ⟨max K1 K2, fun k hk => ?_⟩
    have h1 := h1 k (by omega); have h2 := h2 k (by omega)
    unfold spec_TowerByShadow.f mTower
    simp only [e1, e2] at h1
    simp [spec_htStaff.eq, h1, e0, e1, e2, wid (show -9223372036854775808 ≤ a * c by omega) (by omega), h2]
  all_goals
    refine ⟨K1, fun k hk => ?_⟩
    have h1 := h1 k hk
    unfold spec_TowerByShadow.f mTower
    simp only [e1, e2] at h1
    simp [spec_htStaff.eq, h1, e0, e1, e2]
theorem impl_TowerByShadow.ev (a b c : Int) : Ev (fun k => impl_TowerByShadow.f k a b c) (mTower a b c) := by
  cases e0 : inr 1 100 a <;> cases e1 : inr 1 2000 b <;> cases e2 : inr 1 2000 c
  case true.true.true =>
    have b0 := inr_iff.1 e0; have b1 := inr_iff.1 e1; have b2 := inr_iff.1 e2
    have p := mul_bd (a := a) (b := c) (A := 100) (B := 2000) (by omega) (by omega) (by omega) (by omega)
    obtain ⟨K2, h2⟩ := impl_fraction.ev (a := a * c) (b := b) (by omega) (by omega) (by omega) (by omega)
    refine ⟨K2, fun k hk => ?_⟩
    have h2 := h2 k (by omega)
    unfold impl_TowerByShadow.f mTower
    simp [impl_areStaffs.eq, impl_areSteps.eq, e0, e1, e2, wid (show -9223372036854775808 ≤ a * c by omega) (by omega), h2]
  all_goals
    refine ⟨0, fun k hk => ?_⟩
    unfold impl_TowerByShadow.f mTower
    simp [impl_areStaffs.eq, impl_areSteps.eq, e0, e1, e2]
end Go.Proofs.Ytdogdebhagediaa.P
