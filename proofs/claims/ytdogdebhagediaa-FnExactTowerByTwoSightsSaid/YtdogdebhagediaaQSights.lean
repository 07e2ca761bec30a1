/- The plain side of this seat's proofs: what the printed Lean functions answer, in numbers and lists alone. What is asked stands in each theorem. -/
import Derived.Test.YtdogdebhagediaaFx0
import Derived.Test.YtdogdebhagediaaFSpecHtSights
import Derived.Test.YtdogdebhagediaaQBase
import Derived.Test.YtdogdebhagediaaQHtLong
namespace Go.Proofs.Ytdogdebhagediaa.P
open Go.RowKit Go.Proofs.YtdogdebhagediaaW.PrintWords Go.Proofs.YtdogdebhagediaaW.PrintLast Go.Proofs.YtdogdebhagediaaW.PrintMore
set_option linter.unusedVariables false
set_option linter.unusedSimpArgs false
def mSights (a b c : Int) : Bool := inr 1 2000 a && (inr 1 2000 b && (inr 1 2000 c && decide (a < b)))
theorem spec_htSights.ev (a b c : Int) : Ev (fun k => spec_htSights.f k a b c) (mSights a b c) := by
  obtain ⟨K1, h1⟩ := spec_htLong.ev (l := [a, b, c]) (by simp)
  refine ⟨K1, fun k hk => ?_⟩
  have h1 := h1 k hk
  simp only [List.all_cons, List.all_nil, Bool.and_true] at h1
  unfold spec_htSights.f mSights
  dsimp only at *
  rw [h1]
  simp only [Option.bind_some]
  cases inr 1 2000 a <;> cases inr 1 2000 b <;> cases inr 1 2000 c <;> simp
theorem mSights_iff {a b c : Int} : mSights a b c = true ↔ (1 ≤ a ∧ a ≤ 2000) ∧ (1 ≤ b ∧ b ≤ 2000) ∧ (1 ≤ c ∧ c ≤ 2000) ∧ a < b := by
  unfold mSights; simp only [Bool.and_eq_true, inr_iff, decide_eq_true_eq]
end Go.Proofs.Ytdogdebhagediaa.P
