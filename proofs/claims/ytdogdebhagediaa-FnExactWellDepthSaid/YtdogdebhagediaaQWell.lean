/- The plain side of this seat's proofs: what the printed Lean functions answer, in numbers and lists alone. What is asked stands in each theorem. -/
import Derived.Test.YtdogdebhagediaaFx0
import Derived.Test.YtdogdebhagediaaFImplWellDepth
import Derived.Test.YtdogdebhagediaaFSpecWellDepth
import Derived.Test.YtdogdebhagediaaQBase
import Derived.Test.YtdogdebhagediaaQClLow
import Derived.Test.YtdogdebhagediaaQHtLong
import Derived.Test.YtdogdebhagediaaQHtStaff
import Derived.Test.YtdogdebhagediaaQTower
namespace Go.Proofs.Ytdogdebhagediaa.P
open Go.RowKit Go.Proofs.YtdogdebhagediaaW.PrintWords Go.Proofs.YtdogdebhagediaaW.PrintLast Go.Proofs.YtdogdebhagediaaW.PrintMore
set_option linter.unusedVariables false
set_option linter.unusedSimpArgs false
theorem spec_WellDepth.ev (w e i : Int) : Ev (fun k => spec_WellDepth.f k w e i) (mTower e i w) := by
  obtain ⟨K1, h1⟩ := spec_htLong.ev (l := [w, i]) (by simp)
  simp only [List.all_cons, List.all_nil, Bool.and_true] at h1
  cases e0 : inr 1 100 e <;> cases e1 : inr 1 2000 i <;> cases e2 : inr 1 2000 w
  case true.true.true =>
    have b0 := inr_iff.1 e0; have b1 := inr_iff.1 e1; have b2 := inr_iff.1 e2
    have p := mul_bd (a := e) (b := w) (A := 100) (B := 2000) (by omega) (by omega) (by omega) (by omega)
    obtain ⟨K2, h2⟩ := spec_clLow.ev (x := e * w) (y := i) (by omega) (by omega) (by omega) (by omega)
    refine ⟨max K1 K2, fun k hk => ?_⟩
    have h1 := h1 k (by omega); have h2 := h2 k (by omega)
    unfold spec_WellDepth.f mTower
    simp only [e1, e2] at h1
    simp [spec_htStaff.eq, h1, e0, e1, e2, wid (show -9223372036854775808 ≤ e * w by omega) (by omega), h2]
  all_goals
    refine ⟨K1, fun k hk => ?_⟩
    have h1 := h1 k hk
    unfold spec_WellDepth.f mTower
    simp only [e1, e2] at h1
    simp [spec_htStaff.eq, h1, e0, e1, e2]
theorem impl_WellDepth.ev (w e i : Int) : Ev (fun k => impl_WellDepth.f k w e i) (mTower e i w) := by
  unfold impl_WellDepth.f
  exact Ev.bind (impl_TowerByShadow.ev e i w) (Ev.now _)
end Go.Proofs.Ytdogdebhagediaa.P
