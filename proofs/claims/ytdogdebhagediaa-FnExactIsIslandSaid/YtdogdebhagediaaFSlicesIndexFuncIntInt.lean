/- A part of this seat's proof, written by a program of this claim: Go functions as plain Lean functions, each with a proof that a call of the Go function answers as the Lean function says; and the rows of the laws. What is asked stands in each theorem. -/
import Derived.Test.YtdogdebhagediaaFx0
namespace Go.Proofs.Ytdogdebhagediaa.P
open Go.RowKit Go.Proofs.YtdogdebhagediaaW.PrintWords Go.Proofs.YtdogdebhagediaaW.PrintLast Go.Proofs.YtdogdebhagediaaW.PrintMore
attribute [local go_sem] max2_int min2_int max_two min_two max_three min_three max_four min_four   -- for this text's walks alone
set_option linter.unusedVariables false
set_option linter.unusedSimpArgs false

/-! ### slices_IndexFunc_int_int: function 60 -/
def hIdx (p : Int → Bool) : List Int → Nat → Int
  | [], _ => -1
  | x :: l, i => if p x then (i : Int) else hIdx p l (i + 1)
theorem hIdx_any (p : Int → Bool) : ∀ (l : List Int) (i : Nat), decide (hIdx p l i ≥ 0) = l.any p
  | [], i => by simp [hIdx]
  | x :: l, i => by
    simp only [hIdx, List.any_cons]
    by_cases h : p x = true
    · simp only [h, Bool.true_or]; exact decide_eq_true (by rw [if_pos trivial]; omega)
    · simp only [if_neg h, Bool.eq_false_iff.mpr h, Bool.false_or]; exact hIdx_any p l (i + 1)
theorem hIdx_drop (p : Int → Bool) (l : List Int) (i : Nat) (h : i < l.length) : hIdx p (l.drop i) i = if p (rd l i) then (i : Int) else hIdx p (l.drop (i + 1)) (i + 1) := by
  rw [List.drop_eq_getElem_cons h]
  simp [hIdx, rd, List.getD_eq_getElem?_getD, List.getElem?_eq_getElem h]

def hGives (g : Nat) (p : Int → Bool) : Prop := ∀ (x : Int) (W : World), Calls Try.prog g #[.int .i64 x] W fun e w' => e = .returned (.bool (p x)) ∧ Drawn0 W w'

set_option maxHeartbeats 8000000 in
theorem hIndexFunc (g : Nat) (p : Int → Bool) (hp : hGives g p) (eg : ∀ args w, (callFunc g args).run Try.prog w = .ok (.enter g args) w) (A0 : Option Addr) (c0 : Nat) (l0 : List Int) (w : World) (hr0 : Kd.C (Kd.int .i64) w A0 l0.length l0) (hc0 : l0.length ≤ c0) :
    Calls Try.prog 60 #[.slice A0 l0.length c0, .func (.func g) #[] #[]] w fun e w' => e = .returned (.int .i64 (hIdx p l0 0)) ∧ Drawn0 w w' := by
  have hm : l0.length ≤ 9223372036854775807 := Kd.C_max hr0
  have HR0 := Aside0.mk hr0
  have HC0 := Aside0.mk hc0
  have HP := Aside0.mk hp
  clear hr0 hc0 hp
  have hE := Aside0.mk (show hIdx p l0 0 = hIdx p (l0.drop 0) 0 by simp)
  go_enter Try.func60, Try.ntmps60
  go_wp2
  go_loopg [5, 8] l0.length (fun gk v5 v8 w' => ∃ i : Nat, v8 = .int .i64 i ∧ i ≤ l0.length ∧ l0.length - i ≤ gk ∧ Aside0 (hIdx p l0 0 = hIdx p (l0.drop i) i) ∧ Drawn0 w w')
  case atStart => exact ⟨0, rfl, by omega, by omega, hE, Drawn0.refl _⟩
  case round =>
    clear hE
    obtain ⟨i, rfl, hi, hgk, HE, ⟨m1, rfl⟩⟩ := hrel
    by_cases hlt : i < l0.length
    · have hx := hIdx_drop p l0 i hlt
      have p101 : 0 ≤ (i : Int) := by omega
      have q101 : (i : Int) < (l0.length : Int) := by omega
      obtain ⟨ad, e, hx101⟩ := Kd.at_int HR0.out i p101 q101
      cases e
      rw [Int.toNat_natCast] at hx101
      have hcall := HP.out (rd l0 i)
      generalize hy : rd l0 i = y at hcall hx hx101
      have B := Aside0.mk hy
      clear hy
      cases hq : p y with
      | true =>
        rw [hq] at hcall
        rw [hq, if_pos rfl] at hx
        have HX := Aside0.mk (HE.out.trans hx)
        clear hx hq
        go_wp2_with (go_at_fn g; refine (hcall _).mono ?_; rintro e w' ⟨rfl, ⟨nd, rfl⟩⟩)
        go_ret
        exact ⟨by rw [HX.out]; rfl, by repeat (first | exact Drawn0.refl _ | apply Drawn0.step)⟩
      | false =>
        rw [hq] at hcall
        rw [hq, if_neg (by simp)] at hx
        have HX := Aside0.mk (HE.out.trans hx)
        clear hx hq
        go_wp2_with (go_at_fn g; refine (hcall _).mono ?_; rintro e w' ⟨rfl, ⟨nd, rfl⟩⟩)
        go_roundg (l0.length - (i + 1))
        case measure => omega
        case rel => exact ⟨i + 1, by go_num, by omega, by omega, HX, by repeat (first | exact Drawn0.refl _ | apply Drawn0.step)⟩
    · have hltz : ¬ (i : Int) < (l0.length : Int) := by omega
      have hi' : i = l0.length := by omega
      have HX := Aside0.mk (HE.out.trans (by rw [hi', List.drop_length]; rfl : hIdx p (l0.drop i) i = -1))
      clear hi'
      go_wp2
      go_ret
      exact ⟨by rw [HX.out]; rfl, by repeat (first | exact Drawn0.refl _ | apply Drawn0.step)⟩


end Go.Proofs.Ytdogdebhagediaa.P
