/- The plain side of this seat's proofs: what the printed Lean functions answer, in numbers and lists alone. What is asked stands in each theorem. -/
import Derived.Test.YtdogdebhagediaaFx0
import Derived.Test.YtdogdebhagediaaFImplStepsForIsland
import Derived.Test.YtdogdebhagediaaFSpecStepsForIsland
import Derived.Test.YtdogdebhagediaaQAreStaffs
import Derived.Test.YtdogdebhagediaaQAreSteps
import Derived.Test.YtdogdebhagediaaQBase
import Derived.Test.YtdogdebhagediaaQClLow
import Derived.Test.YtdogdebhagediaaQGcd
import Derived.Test.YtdogdebhagediaaQHtLong
import Derived.Test.YtdogdebhagediaaQHtStaff
namespace Go.Proofs.Ytdogdebhagediaa.P
open Go.RowKit Go.Proofs.YtdogdebhagediaaW.PrintWords Go.Proofs.YtdogdebhagediaaW.PrintLast Go.Proofs.YtdogdebhagediaaW.PrintMore
set_option linter.unusedVariables false
set_option linter.unusedSimpArgs false
def mStepsOk (a b c d : Int) : Bool := inr 1 100 a && (inr 1 2000 b && (inr 1 2000 c && (inr 1 2000 d && decide (a < c))))
theorem mStepsOk_iff {a b c d : Int} : mStepsOk a b c d = true ↔ (1 ≤ a ∧ a ≤ 100) ∧ (1 ≤ b ∧ b ≤ 2000) ∧ (1 ≤ c ∧ c ≤ 2000) ∧ (1 ≤ d ∧ d ≤ 2000) ∧ a < c := by
  unfold mStepsOk; simp only [Bool.and_eq_true, inr_iff, decide_eq_true_eq]
def mSteps (a b c d : Int) : Int × Int × Int × Int × Bool := if mStepsOk a b c d = true then (loA (a * d) (c - a), loB (a * d) (c - a), loA (a * (d + b)) (c - a), loB (a * (d + b)) (c - a), true) else (0, 0, 0, 0, false)
theorem spec_StepsForIsland.ev (a b c d : Int) : Ev (fun k => spec_StepsForIsland.f k a b c d) (mSteps a b c d) := by
  obtain ⟨K1, h1⟩ := spec_htLong.ev (l := [b, c, d]) (by simp)
  simp only [List.all_cons, List.all_nil, Bool.and_true] at h1
  unfold mSteps spec_StepsForIsland.f
  by_cases e : mStepsOk a b c d = true
  · obtain ⟨b0, b1, b2, b3, b4⟩ := mStepsOk_iff.1 e
    have p := mul_bd (a := a) (b := d) (A := 100) (B := 2000) (by omega) (by omega) (by omega) (by omega)
    have q := mul_bd (a := a) (b := d + b) (A := 100) (B := 4000) (by omega) (by omega) (by omega) (by omega)
    obtain ⟨K2, h2⟩ := spec_clLow.ev (x := a * d) (y := c - a) (by omega) (by omega) (by omega) (by omega)
    obtain ⟨K3, h3⟩ := spec_clLow.ev (x := a * (d + b)) (y := c - a) (by omega) (by omega) (by omega) (by omega)
    refine ⟨max K1 (max K2 K3) + 1, fun k hk => ?_⟩
    obtain ⟨k, rfl⟩ : ∃ m, k = m + 1 := ⟨k - 1, by omega⟩
    have h1 := h1 (k + 1) (by omega); have h2 := h2 k (by omega); have h3 := h3 k (by omega)
    dsimp only at *
    rw [inr_iff.2 b1, inr_iff.2 b2, inr_iff.2 b3] at h1
    rw [spec_htStaff.eq, inr_iff.2 b0, h1]
    simp only [Option.bind_some, Bool.and_self, if_true, spec_StepsForIsland.j0]
    rw [wid (show -9223372036854775808 ≤ c - a by omega) (by omega), wid (show -9223372036854775808 ≤ d + b by omega) (by omega), wid (show -9223372036854775808 ≤ a * d by omega) (by omega), wid (show -9223372036854775808 ≤ a * (d + b) by omega) (by omega), h2, h3]
    simp [e, show ¬ c ≤ a by omega]
  · refine ⟨K1 + 1, fun k hk => ?_⟩
    obtain ⟨k, rfl⟩ : ∃ m, k = m + 1 := ⟨k - 1, by omega⟩
    have h1 := h1 (k + 1) (by omega)
    dsimp only at *
    rw [if_neg e, spec_htStaff.eq, h1]
    simp only [mStepsOk] at e
    cases e0 : inr 1 100 a <;> cases e1 : inr 1 2000 b <;> cases e2 : inr 1 2000 c <;> cases e3 : inr 1 2000 d <;> simp [e0, e1, e2, e3, spec_StepsForIsland.j0] at e ⊢
    intro h; omega
theorem impl_StepsForIsland.ev (a b c d : Int) : Ev (fun k => impl_StepsForIsland.f k a b c d) (mSteps a b c d) := by
  unfold mSteps impl_StepsForIsland.f
  by_cases e : mStepsOk a b c d = true
  · obtain ⟨b0, b1, b2, b3, b4⟩ := mStepsOk_iff.1 e
    have p := mul_bd (a := a) (b := d) (A := 100) (B := 2000) (by omega) (by omega) (by omega) (by omega)
    have q := mul_bd (a := a) (b := d + b) (A := 100) (B := 4000) (by omega) (by omega) (by omega) (by omega)
    obtain ⟨K2, h2⟩ := impl_fraction.ev (a := a * d) (b := c - a) (by omega) (by omega) (by omega) (by omega)
    obtain ⟨K3, h3⟩ := impl_fraction.ev (a := a * (d + b)) (b := c - a) (by omega) (by omega) (by omega) (by omega)
    refine ⟨max K2 K3 + 1, fun k hk => ?_⟩
    obtain ⟨k, rfl⟩ : ∃ m, k = m + 1 := ⟨k - 1, by omega⟩
    have h2 := h2 k (by omega); have h3 := h3 k (by omega)
    dsimp only at *
    rw [impl_areStaffs.eq, impl_areSteps.eq]
    simp only [Option.bind_some, List.all_cons, List.all_nil, Bool.and_true, inr_iff.2 b0, inr_iff.2 b1, inr_iff.2 b2, inr_iff.2 b3, if_true, impl_StepsForIsland.j0]
    rw [wid (show -9223372036854775808 ≤ c - a by omega) (by omega), wid (show -9223372036854775808 ≤ d + b by omega) (by omega), wid (show -9223372036854775808 ≤ a * d by omega) (by omega), wid (show -9223372036854775808 ≤ a * (d + b) by omega) (by omega), h2, h3]
    simp [e, show ¬ c ≤ a by omega]
  · refine ⟨1, fun k hk => ?_⟩
    obtain ⟨k, rfl⟩ : ∃ m, k = m + 1 := ⟨k - 1, by omega⟩
    dsimp only at *
    rw [if_neg e, impl_areStaffs.eq, impl_areSteps.eq]
    simp only [mStepsOk] at e
    cases e0 : inr 1 100 a <;> cases e1 : inr 1 2000 b <;> cases e2 : inr 1 2000 c <;> cases e3 : inr 1 2000 d <;> simp [e0, e1, e2, e3, impl_StepsForIsland.j0] at e ⊢
    intro h; omega
end Go.Proofs.Ytdogdebhagediaa.P
