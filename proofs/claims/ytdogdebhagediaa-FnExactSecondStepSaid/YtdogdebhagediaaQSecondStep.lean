/- The plain side of this seat's proofs: what the printed Lean functions answer, in numbers and lists alone. What is asked stands in each theorem. -/
import Derived.Test.YtdogdebhagediaaFx0
import Derived.Test.YtdogdebhagediaaFImplSecondStep
import Derived.Test.YtdogdebhagediaaFSpecSecondStep
import Derived.Test.YtdogdebhagediaaQAreStaffs
import Derived.Test.YtdogdebhagediaaQAreSteps
import Derived.Test.YtdogdebhagediaaQBase
import Derived.Test.YtdogdebhagediaaQClLow
import Derived.Test.YtdogdebhagediaaQGcd
import Derived.Test.YtdogdebhagediaaQHtLong
import Derived.Test.YtdogdebhagediaaQHtStaff
namespace Go.Proofs.Ytdogdebhagediaa.P
open Go.RowKit Go.Proofs.YtdogdebhagediaaW.PrintWords Go.Proofs.YtdogdebhagediaaW.PrintLast Go.Proofs.YtdogdebhagediaaW.PrintMore
set_option linter.unusedVariables false
set_option linter.unusedSimpArgs false
def mSecOk (a b c d : Int) : Bool := inr 1 100 a && (inr 1 2000 b && (inr 1 2000 c && (inr 1 2000 d && decide (a < d))))
theorem mSecOk_iff {a b c d : Int} : mSecOk a b c d = true ↔ (1 ≤ a ∧ a ≤ 100) ∧ (1 ≤ b ∧ b ≤ 2000) ∧ (1 ≤ c ∧ c ≤ 2000) ∧ (1 ≤ d ∧ d ≤ 2000) ∧ a < d := by
  unfold mSecOk; simp only [Bool.and_eq_true, inr_iff, decide_eq_true_eq]
def mSecond (a b c d : Int) : Int × Int × Bool := if mSecOk a b c d = true then (loA (c * (d - a) + a * b) (d - a), loB (c * (d - a) + a * b) (d - a), true) else (0, 0, false)
theorem spec_SecondStep.ev (a b c d : Int) : Ev (fun k => spec_SecondStep.f k a b c d) (mSecond a b c d) := by
  obtain ⟨K1, h1⟩ := spec_htLong.ev (l := [b, c, d]) (by simp)
  simp only [List.all_cons, List.all_nil, Bool.and_true] at h1
  unfold mSecond spec_SecondStep.f
  by_cases e : mSecOk a b c d = true
  · obtain ⟨b0, b1, b2, b3, b4⟩ := mSecOk_iff.1 e
    have p := mul_bd (a := a) (b := b) (A := 100) (B := 2000) (by omega) (by omega) (by omega) (by omega)
    have q := mul_bd (a := c) (b := d - a) (A := 2000) (B := 2000) (by omega) (by omega) (by omega) (by omega)
    obtain ⟨K2, h2⟩ := spec_clLow.ev (x := c * (d - a) + a * b) (y := d - a) (by omega) (by omega) (by omega) (by omega)
    refine ⟨max K1 K2, fun k hk => ?_⟩
    have h1 := h1 k (by omega); have h2 := h2 k (by omega)
    dsimp only at *
    rw [inr_iff.2 b1, inr_iff.2 b2, inr_iff.2 b3] at h1
    rw [spec_htStaff.eq, inr_iff.2 b0, h1, wid (show -9223372036854775808 ≤ d - a by omega) (by omega), wid (show -9223372036854775808 ≤ c * (d - a) by omega) (by omega), wid (show -9223372036854775808 ≤ a * b by omega) (by omega), wid (show -9223372036854775808 ≤ c * (d - a) + a * b by omega) (by omega), h2]
    simp [e, show ¬ d ≤ a by omega]
  · refine ⟨K1, fun k hk => ?_⟩
    have h1 := h1 k hk
    dsimp only at *
    rw [if_neg e, spec_htStaff.eq, h1]
    simp only [mSecOk] at e
    cases e0 : inr 1 100 a <;> cases e1 : inr 1 2000 b <;> cases e2 : inr 1 2000 c <;> cases e3 : inr 1 2000 d <;> simp [e0, e1, e2, e3] at e ⊢
    intro h; omega
theorem impl_SecondStep.ev (a b c d : Int) : Ev (fun k => impl_SecondStep.f k a b c d) (mSecond a b c d) := by
  unfold mSecond impl_SecondStep.f
  by_cases e : mSecOk a b c d = true
  · obtain ⟨b0, b1, b2, b3, b4⟩ := mSecOk_iff.1 e
    have p := mul_bd (a := a) (b := b) (A := 100) (B := 2000) (by omega) (by omega) (by omega) (by omega)
    have q := mul_bd (a := c) (b := d - a) (A := 2000) (B := 2000) (by omega) (by omega) (by omega) (by omega)
    obtain ⟨K2, h2⟩ := impl_fraction.ev (a := c * (d - a) + a * b) (b := d - a) (by omega) (by omega) (by omega) (by omega)
    refine ⟨K2, fun k hk => ?_⟩
    have h2 := h2 k (by omega)
    dsimp only at *
    rw [impl_areStaffs.eq, impl_areSteps.eq, wid (show -9223372036854775808 ≤ d - a by omega) (by omega), wid (show -9223372036854775808 ≤ c * (d - a) by omega) (by omega), wid (show -9223372036854775808 ≤ a * b by omega) (by omega), wid (show -9223372036854775808 ≤ c * (d - a) + a * b by omega) (by omega), h2]
    simp [e, show ¬ d ≤ a by omega, inr_iff.2 b0, inr_iff.2 b1, inr_iff.2 b2, inr_iff.2 b3]
  · refine ⟨0, fun k hk => ?_⟩
    dsimp only at *
    rw [if_neg e, impl_areStaffs.eq, impl_areSteps.eq]
    simp only [mSecOk] at e
    cases e0 : inr 1 100 a <;> cases e1 : inr 1 2000 b <;> cases e2 : inr 1 2000 c <;> cases e3 : inr 1 2000 d <;> simp [e0, e1, e2, e3] at e ⊢
    intro h; omega
end Go.Proofs.Ytdogdebhagediaa.P
