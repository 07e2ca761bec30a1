/- The plain side of this seat's proofs: what the printed Lean functions answer, in numbers and lists alone. What is asked stands in each theorem. -/
import Derived.Test.YtdogdebhagediaaFx0
import Derived.Test.YtdogdebhagediaaFSpecClLow
import Derived.Test.YtdogdebhagediaaQBase
import Derived.Test.YtdogdebhagediaaQGcd
namespace Go.Proofs.Ytdogdebhagediaa.P
open Go.RowKit Go.Proofs.YtdogdebhagediaaW.PrintWords Go.Proofs.YtdogdebhagediaaW.PrintLast Go.Proofs.YtdogdebhagediaaW.PrintMore
set_option linter.unusedVariables false
set_option linter.unusedSimpArgs false
theorem spec_clLow.ev_l (x y : Int) (hx0 : 0 ≤ x) (hx1 : x ≤ 9223372036854775807) (hy0 : 0 < y) (hy1 : y ≤ 9223372036854775807) (n : Nat) : ∀ a b : Int, b.natAbs ≤ n → 0 ≤ a → 0 ≤ b → (0 < a ∨ 0 < b) → Int.gcd a b = Int.gcd x y → Ev (fun k => spec_clLow.l0 k x y a b) (loA x y, loB x y) := by
  induction n using Nat.strongRecOn with
  | ind n ih =>
    intro a b hn ha hb hab hg
    by_cases hb' : b = 0
    · subst hb'
      refine Ev.step (f := fun _ => some (wrap64 (Int.tdiv x a), wrap64 (Int.tdiv y a))) (fun k => by simp only [spec_clLow.l0]; rw [if_neg (by omega), if_neg (by omega)]) ?_
      refine Ev.const ?_
      have ea : a = (Int.gcd x y : Int) := by rw [← hg, Int.gcd_zero_right]; omega
      have h1 := loA_bd (a := x) hy0
      have h2 := loB_pos (a := x) hy0
      rw [ea, tdiv_gcd_l, tdiv_gcd_r, wid (by omega) (by omega), wid (by omega) (by omega)]
    · refine Ev.step (f := fun k => spec_clLow.l0 k x y b (Int.tmod a b)) (fun k => by simp only [spec_clLow.l0]; rw [if_pos (by omega), if_neg hb']) ?_
      have h1 : (Int.tmod a b).natAbs < b.natAbs := by rw [Int.natAbs_tmod]; exact Nat.mod_lt _ (by omega)
      exact ih (Int.tmod a b).natAbs (by omega) b (Int.tmod a b) (Nat.le_refl _) hb (Int.tmod_nonneg _ ha) (.inl (by omega)) ((gcd_tmod a b).trans hg)
theorem spec_clLow.ev {x y : Int} (hx0 : 0 ≤ x) (hx1 : x ≤ 9223372036854775807) (hy0 : 0 < y) (hy1 : y ≤ 9223372036854775807) : Ev (fun k => spec_clLow.f k x y) (loA x y, loB x y) := by
  unfold spec_clLow.f; exact spec_clLow.ev_l x y hx0 hx1 hy0 hy1 _ x y (Nat.le_refl _) hx0 (by omega) (.inr hy0) rfl
end Go.Proofs.Ytdogdebhagediaa.P
