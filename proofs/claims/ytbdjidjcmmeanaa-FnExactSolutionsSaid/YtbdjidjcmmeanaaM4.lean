/- Go functions of this seat as plain Lean functions, proofs that the calls answer as these say, and what these answer: parts of the proofs of 8 laws. Every input that the given rows speak of; nothing else is asked. -/
import Derived.Test.YtbdjidjcmmeanaaM0
import Derived.Test.YtbdjidjcmmeanaaM3
namespace Go.Proofs.Ytbdjidjcmmeanaa.P
open Go.RowKit Go.Proofs.YtbdjidjcmmeanaaW.PrintWords Go.Proofs.YtbdjidjcmmeanaaW.PrintLast Go.Proofs.YtbdjidjcmmeanaaW.PrintMore
set_option linter.unusedVariables false
set_option linter.unusedSimpArgs false
theorem spec_clRoot.ev_l {x : Int} (hx : 0 ≤ x) (n : Nat) : ∀ lo hi : Int, (hi - lo).toNat ≤ n → 0 ≤ lo → lo < hi → hi ≤ 2147483648 → lo ≤ flr x → flr x < hi → Ev (fun k => spec_clRoot.l0 k x lo hi) (flr x) := by
  induction n using Nat.strongRecOn with
  | ind n ih =>
    intro lo hi hn h0 h1 h2 h3 h4
    have hs := flr_spec hx
    refine Ev.succ ?_
    simp only [spec_clRoot.l0]
    rw [wid (show -9223372036854775808 ≤ hi - 1 by omega) (by omega)]
    by_cases hlt : lo < hi - 1
    · simp only [if_pos hlt]
      rw [wid (show -9223372036854775808 ≤ lo + hi by omega) (by omega), tdiv2 (by omega), wid (show -9223372036854775808 ≤ (lo + hi) / 2 by omega) (by omega)]
      have hm0 : 0 ≤ (lo + hi) / 2 := by omega
      have hmb := mul_bd hm0 (show (lo + hi) / 2 ≤ 2147483648 by omega) hm0 (show (lo + hi) / 2 ≤ 2147483648 by omega)
      rw [wid (show -9223372036854775808 ≤ (lo + hi) / 2 * ((lo + hi) / 2) by omega) (by omega)]
      by_cases hc : (lo + hi) / 2 * ((lo + hi) / 2) ≤ x
      · simp only [if_pos hc]
        have := flr_le hx hm0 hc
        exact ih (hi - (lo + hi) / 2).toNat (by omega) _ _ (Nat.le_refl _) (by omega) (by omega) h2 this h4
      · simp only [if_neg hc]
        have := flr_lt hx hm0 (by omega)
        exact ih ((lo + hi) / 2 - lo).toNat (by omega) _ _ (Nat.le_refl _) h0 (by omega) (by omega) h3 this
    · simp only [if_neg hlt]
      exact Ev.const (by congr 1; omega)
theorem spec_clRoot.ev {x : Int} (hx : 0 ≤ x) (hx1 : x < 4611686018427387904) : Ev (fun k => spec_clRoot.f k x) (flr x) := by
  unfold spec_clRoot.f
  exact spec_clRoot.ev_l hx _ 0 2147483648 (Nat.le_refl _) (by omega) (by omega) (by omega) (flr_spec hx).1 (flr_lt hx (by omega) (by omega))
end Go.Proofs.Ytbdjidjcmmeanaa.P

namespace Go.Proofs.Ytbdjidjcmmeanaa.P
open Go.RowKit Go.Proofs.YtbdjidjcmmeanaaW.PrintWords Go.Proofs.YtbdjidjcmmeanaaW.PrintLast Go.Proofs.YtbdjidjcmmeanaaW.PrintMore
set_option linter.unusedVariables false
set_option linter.unusedSimpArgs false
def mLadders (a b c : Int) : Bool := inr 1 1000 a && (inr 1 1000 b && inr 1 1000 c)
theorem mLadders_iff {a b c : Int} : mLadders a b c = true ↔ (1 ≤ a ∧ a ≤ 1000) ∧ (1 ≤ b ∧ b ≤ 1000) ∧ (1 ≤ c ∧ c ≤ 1000) := by
  unfold mLadders; simp only [Bool.and_eq_true, inr_iff]
theorem impl_AreLadders.eq (a b c : Int) : impl_AreLadders.f a b c = some (mLadders a b c) := by
  unfold impl_AreLadders.f impl_isWide.f mLadders
  simp only [impl_within.eq, Option.bind_some]
  cases inr 1 1000 a <;> cases inr 1 1000 b <;> cases inr 1 1000 c <;> simp
def mCrossHeight (a b c : Int) : Int × Int × Bool := if mLadders a b c = true then (loA (b * c) (b + c), loB (b * c) (b + c), true) else (0, 0, false)
def mCrossPlace (a b c : Int) : Int × Int × Bool := if mLadders a b c = true then (loA (b * a) (b + c), loB (b * a) (b + c), true) else (0, 0, false)
theorem impl_CrossHeight.ev (a b c : Int) : Ev (fun k => impl_CrossHeight.f k a b c) (mCrossHeight a b c) := by
  unfold impl_CrossHeight.f mCrossHeight
  refine Ev.bindc (impl_AreLadders.eq a b c) ?_
  refine Ev.ite (fun h => ?_) (fun _ => Ev.now _)
  obtain ⟨h0, h1, h2⟩ := mLadders_iff.1 h
  have p := mul_bd (a := b) (b := c) (A := 1000) (B := 1000) (by omega) (by omega) (by omega) (by omega)
  rw [wid (show -9223372036854775808 ≤ b * c by omega) (by omega), wid (show -9223372036854775808 ≤ b + c by omega) (by omega)]
  exact Ev.bind (impl_fraction.ev (by omega) (by omega) (by omega) (by omega)) (Ev.now _)
theorem impl_CrossPlace.ev (a b c : Int) : Ev (fun k => impl_CrossPlace.f k a b c) (mCrossPlace a b c) := by
  unfold impl_CrossPlace.f mCrossPlace
  refine Ev.bindc (impl_AreLadders.eq a b c) ?_
  refine Ev.ite (fun h => ?_) (fun _ => Ev.now _)
  obtain ⟨h0, h1, h2⟩ := mLadders_iff.1 h
  have p := mul_bd (a := b) (b := a) (A := 1000) (B := 1000) (by omega) (by omega) (by omega) (by omega)
  rw [wid (show -9223372036854775808 ≤ b * a by omega) (by omega), wid (show -9223372036854775808 ≤ b + c by omega) (by omega)]
  exact Ev.bind (impl_fraction.ev (by omega) (by omega) (by omega) (by omega)) (Ev.now _)
end Go.Proofs.Ytbdjidjcmmeanaa.P

namespace Go.Proofs.Ytbdjidjcmmeanaa.P
open Go.RowKit Go.Proofs.YtbdjidjcmmeanaaW.PrintWords Go.Proofs.YtbdjidjcmmeanaaW.PrintLast Go.Proofs.YtbdjidjcmmeanaaW.PrintMore
set_option linter.unusedVariables false
set_option linter.unusedSimpArgs false
theorem impl_rootOf.ev_b {x : Int} (hx : 0 ≤ x) (hx1 : x ≤ 1152921504606846976) (n : Nat) : ∀ lo hi : Int, (hi - lo).toNat ≤ n → 0 ≤ lo → lo ≤ mCeil x → mCeil x ≤ hi → hi ≤ 2147483648 → Ev (fun k => impl_rootOf.l1 k x lo hi) (mCeil x, mWhole x) := by
  induction n using Nat.strongRecOn with
  | ind n ih =>
    intro lo hi hn h0 h1 h2 h3
    have hs := mCeil_spec hx
    refine Ev.succ ?_
    simp only [impl_rootOf.l1]
    by_cases hlt : lo < hi
    · simp only [if_pos hlt]
      rw [wid (show -9223372036854775808 ≤ lo + hi by omega) (by omega), tdiv2 (by omega), wid (show -9223372036854775808 ≤ (lo + hi) / 2 by omega) (by omega)]
      have hm0 : 0 ≤ (lo + hi) / 2 := by omega
      have hmb := mul_bd hm0 (show (lo + hi) / 2 ≤ 2147483648 by omega) hm0 (show (lo + hi) / 2 ≤ 2147483648 by omega)
      rw [wid (show -9223372036854775808 ≤ (lo + hi) / 2 * ((lo + hi) / 2) by omega) (by omega)]
      by_cases hc : (lo + hi) / 2 * ((lo + hi) / 2) < x
      · simp only [if_pos hc]
        have := mCeil_gt hx hm0 hc
        rw [wid (show -9223372036854775808 ≤ (lo + hi) / 2 + 1 by omega) (by omega)]
        exact ih (hi - ((lo + hi) / 2 + 1)).toNat (by omega) _ _ (Nat.le_refl _) (by omega) (by omega) h2 h3
      · simp only [if_neg hc]
        have := mCeil_le hx hm0 (by omega)
        exact ih ((lo + hi) / 2 - lo).toNat (by omega) _ _ (Nat.le_refl _) h0 h1 this (by omega)
    · simp only [if_neg hlt]
      have e : lo = mCeil x := by omega
      refine Ev.const ?_
      have hmb := mul_bd h0 (show lo ≤ 2147483648 by omega) h0 (show lo ≤ 2147483648 by omega)
      rw [wid (show -9223372036854775808 ≤ lo * lo by omega) (by omega), e, hs.2.2]
theorem impl_rootOf.ev_a {x : Int} (hx : 0 ≤ x) (hx1 : x ≤ 1152921504606846976) (n : Nat) : ∀ hi : Int, (2147483648 - hi).toNat ≤ n → 1 ≤ hi → hi ≤ 2147483648 → Ev (fun k => impl_rootOf.l0 k x 0 hi) (mCeil x, mWhole x) := by
  induction n using Nat.strongRecOn with
  | ind n ih =>
    intro hi hn h0 h1
    have hs := mCeil_spec hx
    refine Ev.succ ?_
    simp only [impl_rootOf.l0]
    have hmb := mul_bd (show 0 ≤ hi by omega) h1 (show 0 ≤ hi by omega) h1
    rw [wid (show -9223372036854775808 ≤ hi * hi by omega) (by omega)]
    by_cases hc : hi * hi < x
    · simp only [if_pos hc]
      have hh : hi ≤ 1073741823 := by
        rcases Int.lt_or_le hi 1073741824 with h | h
        · omega
        · have := sq_le (show (0 : Int) ≤ 1073741824 by omega) h; omega
      rw [wid (show -9223372036854775808 ≤ hi * 2 by omega) (by omega)]
      exact ih (2147483648 - hi * 2).toNat (by omega) _ (Nat.le_refl _) (by omega) (by omega)
    · simp only [if_neg hc]
      exact impl_rootOf.ev_b hx hx1 _ 0 hi (Nat.le_refl _) (by omega) hs.1 (mCeil_le hx (by omega) (by omega)) h1
theorem impl_rootOf.ev {x : Int} (hx : 0 ≤ x) (hx1 : x ≤ 1152921504606846976) : Ev (fun k => impl_rootOf.f k x) (mCeil x, mWhole x) := by
  unfold impl_rootOf.f
  exact impl_rootOf.ev_a hx hx1 _ 1 (Nat.le_refl _) (by omega) (by omega)
end Go.Proofs.Ytbdjidjcmmeanaa.P

namespace Go.Proofs.Ytbdjidjcmmeanaa.P
open Go.RowKit Go.Proofs.YtbdjidjcmmeanaaW.PrintWords Go.Proofs.YtbdjidjcmmeanaaW.PrintLast Go.Proofs.YtbdjidjcmmeanaaW.PrintMore
set_option linter.unusedVariables false
set_option linter.unusedSimpArgs false
def mOwn (a b c : Int) : Int := if a = 1 then c else b
/-- What a clue of kind k tells of ladders (w, l, r), with a for the kind 3. -/
def mVal (k a w l r : Int) : Int × Int :=
  if k = 0 then (a, l + r) else if k = 1 then (a, if l > r then 1 else 0) else if k = 2 then (loA (l * r) (l + r), loB (l * r) (l + r))
  else if k = 3 then (a, if mWhole (w * w + mOwn a l r * mOwn a l r) = true then 1 else 0) else if k = 4 then (loA (l * w) (l + r), loB (l * w) (l + r)) else (a, l * r)
theorem mWhole_flr (x : Int) : (flr x * flr x = x) = (mWhole x = true) := by unfold mWhole; simp
theorem spec_pzValue.ev (k a w l r : Int) (h : mHidden w l r = true) : Ev (fun n => spec_pzValue.f n k a w l r) (mVal k a w l r) := by
  obtain ⟨h0, h1, h2⟩ := mHidden_iff.1 h
  have p1 := mul_bd (a := l) (b := r) (A := 12) (B := 12) (by omega) (by omega) (by omega) (by omega)
  have p2 := mul_bd (a := l) (b := w) (A := 12) (B := 12) (by omega) (by omega) (by omega) (by omega)
  have p3 := mul_bd (a := w) (b := w) (A := 12) (B := 12) (by omega) (by omega) (by omega) (by omega)
  have p4 := mul_bd (a := l) (b := l) (A := 12) (B := 12) (by omega) (by omega) (by omega) (by omega)
  have p5 := mul_bd (a := r) (b := r) (A := 12) (B := 12) (by omega) (by omega) (by omega) (by omega)
  unfold spec_pzValue.f mVal
  rw [Int.mul_comm w l, wid (show -9223372036854775808 ≤ l + r by omega) (by omega), wid (show -9223372036854775808 ≤ l * r by omega) (by omega), wid (show -9223372036854775808 ≤ l * w by omega) (by omega)]
  refine Ev.ite (fun _ => Ev.now _) (fun _ => ?_)
  refine Ev.ite (fun _ => ?_) (fun _ => ?_)
  · by_cases hc : l > r
    · simp only [if_pos hc]; exact Ev.now _
    · simp only [if_neg hc]; exact Ev.now _
  refine Ev.ite (fun _ => Ev.bind (spec_clLow.ev (by omega) (by omega) (by omega) (by omega)) (Ev.now _)) (fun _ => ?_)
  refine Ev.ite (fun _ => ?_) (fun _ => ?_)
  · refine Ev.bindc (a := (w * w + l * l, w * w + r * r)) ?_ ?_
    · unfold spec_clSquares.f
      rw [wid (show -9223372036854775808 ≤ w * w by omega) (by omega), wid (show -9223372036854775808 ≤ l * l by omega) (by omega), wid (show -9223372036854775808 ≤ r * r by omega) (by omega), wid (show -9223372036854775808 ≤ w * w + l * l by omega) (by omega), wid (show -9223372036854775808 ≤ w * w + r * r by omega) (by omega)]
    · have hsq : ∀ x : Int, 0 ≤ x → x ≤ 288 → wrap64 (flr x * flr x) = flr x * flr x := fun x hx h => by have := flr_spec hx; have := sq_le (show (0 : Int) ≤ 0 by omega) this.1; exact wid (by omega) (by omega)
      by_cases hc : a = 1
      · simp only [if_pos hc, mOwn]
        refine Ev.bind (spec_clRoot.ev (x := w * w + r * r) (by omega) (by omega)) ?_
        rw [hsq _ (by omega) (by omega)]
        simp only [mWhole_flr]
        by_cases hw : mWhole (w * w + r * r) = true
        · simp only [if_pos hw]; exact Ev.now _
        · simp only [if_neg hw]; exact Ev.now _
      · simp only [if_neg hc, mOwn]
        refine Ev.bind (spec_clRoot.ev (x := w * w + l * l) (by omega) (by omega)) ?_
        rw [hsq _ (by omega) (by omega)]
        simp only [mWhole_flr]
        by_cases hw : mWhole (w * w + l * l) = true
        · simp only [if_pos hw]; exact Ev.now _
        · simp only [if_neg hw]; exact Ev.now _
  refine Ev.ite (fun _ => Ev.bind (spec_clLow.ev (by omega) (by omega) (by omega) (by omega)) (Ev.now _)) (fun _ => Ev.now _)
/-- What told answers: side 0 or 1. -/
theorem impl_told.ev (k a w l r : Int) (h : mHidden w l r = true) (hk : 0 ≤ k ∧ k ≤ 5) (ha : a = 0 ∨ a = 1) (ha3 : k ≠ 3 → a = 0) : Ev (fun n => impl_told.f n w l r k a) (k, (mVal k a w l r).1, (mVal k a w l r).2) := by
  obtain ⟨h0, h1, h2⟩ := mHidden_iff.1 h
  have hL : mLadders w l r = true := mLadders_iff.2 (by omega)
  have p1 := mul_bd (a := l) (b := r) (A := 12) (B := 12) (by omega) (by omega) (by omega) (by omega)
  have p2 := mul_bd (a := l) (b := w) (A := 12) (B := 12) (by omega) (by omega) (by omega) (by omega)
  have p3 := mul_bd (a := w) (b := w) (A := 12) (B := 12) (by omega) (by omega) (by omega) (by omega)
  have p4 := mul_bd (a := l) (b := l) (A := 12) (B := 12) (by omega) (by omega) (by omega) (by omega)
  have p5 := mul_bd (a := r) (b := r) (A := 12) (B := 12) (by omega) (by omega) (by omega) (by omega)
  unfold impl_told.f
  rw [wid (show -9223372036854775808 ≤ l + r by omega) (by omega), wid (show -9223372036854775808 ≤ l * r by omega) (by omega)]
  have hk6 : k = 0 ∨ k = 1 ∨ k = 2 ∨ k = 3 ∨ k = 4 ∨ k = 5 := by omega
  rcases hk6 with rfl | rfl | rfl | rfl | rfl | rfl
  · obtain rfl := ha3 (by omega)
    simp only [if_true, mVal]; exact Ev.now _
  · obtain rfl := ha3 (by omega)
    simp only [mVal, show ¬ ((1 : Int) = 0) by omega, if_false, if_true]
    by_cases hc : l > r
    · simp [impl_asNumber.f, hc]; exact Ev.now _
    · simp [impl_asNumber.f, hc]; exact Ev.now _
  · simp only [mVal, show ¬ ((2 : Int) = 0) by omega, show ¬ ((2 : Int) = 1) by omega, if_false, if_true]
    have e := impl_CrossHeight.ev w l r
    rw [mCrossHeight, if_pos hL] at e
    exact Ev.bind e (Ev.now _)
  · simp only [mVal, show ¬ ((3 : Int) = 0) by omega, show ¬ ((3 : Int) = 1) by omega, show ¬ ((3 : Int) = 2) by omega, if_false, if_true, Option.bind_some]
    have hl : (([l, r] : List Int).length : Int) = 2 := rfl
    rw [hl]
    simp only [show 0 ≤ a by omega, show a < 2 by omega, if_true]
    have hrd : rd [l, r] a = mOwn a l r := by
      rcases ha with rfl | rfl
      · simp [mOwn, rd]
      · simp [mOwn, rd]
    rw [hrd]
    have hob : 1 ≤ mOwn a l r ∧ mOwn a l r ≤ 12 := by unfold mOwn; split <;> omega
    have p6 := mul_bd (a := mOwn a l r) (b := mOwn a l r) (A := 12) (B := 12) (by omega) (by omega) (by omega) (by omega)
    refine Ev.bindc (a := w * w + mOwn a l r * mOwn a l r) ?_ ?_
    · unfold impl_square.f
      rw [wid (show -9223372036854775808 ≤ w * w by omega) (by omega), wid (show -9223372036854775808 ≤ mOwn a l r * mOwn a l r by omega) (by omega), wid (show -9223372036854775808 ≤ w * w + mOwn a l r * mOwn a l r by omega) (by omega)]
    · refine Ev.bind (impl_rootOf.ev (by omega) (by omega)) ?_
      simp only [impl_asNumber.f]
      by_cases hw : mWhole (w * w + mOwn a l r * mOwn a l r) = true
      · simp only [if_pos hw, Option.bind_some]; exact Ev.now _
      · simp only [if_neg hw, Option.bind_some]; exact Ev.now _
  · simp only [mVal, show ¬ ((4 : Int) = 0) by omega, show ¬ ((4 : Int) = 1) by omega, show ¬ ((4 : Int) = 2) by omega, show ¬ ((4 : Int) = 3) by omega, if_false, if_true]
    have e := impl_CrossPlace.ev w l r
    rw [mCrossPlace, if_pos hL] at e
    exact Ev.bind e (Ev.now _)
  · obtain rfl := ha3 (by omega)
    simp only [mVal, show ¬ ((5 : Int) = 0) by omega, show ¬ ((5 : Int) = 1) by omega, show ¬ ((5 : Int) = 2) by omega, show ¬ ((5 : Int) = 3) by omega, show ¬ ((5 : Int) = 4) by omega, if_false, if_true]; exact Ev.now _
end Go.Proofs.Ytbdjidjcmmeanaa.P

namespace Go.Proofs.Ytbdjidjcmmeanaa.P
open Go.RowKit Go.Proofs.YtbdjidjcmmeanaaW.PrintWords Go.Proofs.YtbdjidjcmmeanaaW.PrintLast Go.Proofs.YtbdjidjcmmeanaaW.PrintMore
set_option linter.unusedVariables false
set_option linter.unusedSimpArgs false
/-- The clue (k, a, b) fits the ladders. -/
def mFits (k a b w l r : Int) : Bool := (mVal k a w l r).1 == a && (mVal k a w l r).2 == b
theorem mClue_kind {k a b : Int} (h : mClue k a b = true) : 0 ≤ k ∧ k ≤ 5 ∧ (k ≠ 3 → k ≠ 2 → k ≠ 4 → a = 0) ∧ (k = 3 → a = 0 ∨ a = 1) := by
  unfold mClue at h
  simp only [Bool.and_eq_true, Bool.or_eq_true, inr_iff, beq_iff_eq, decide_eq_true_eq] at h
  omega
theorem spec_pzFits.ev (k a b w l r : Int) (h : mHidden w l r = true) : Ev (fun n => spec_pzFits.f n k a b w l r) (mFits k a b w l r) := by
  unfold spec_pzFits.f mFits
  refine Ev.bind (spec_pzValue.ev k a w l r h) ?_
  by_cases hc : (mVal k a w l r).1 = a
  · simp only [if_pos hc, hc, beq_self_eq_true, Bool.true_and]; exact Ev.now _
  · simp only [if_neg hc]
    exact Ev.const (by simp [hc])
theorem mVal_other (k a a' w l r : Int) (hk : k = 2 ∨ k = 4) : mVal k a w l r = mVal k a' w l r := by
  rcases hk with rfl | rfl <;> simp [mVal]
theorem impl_doesFit.ev (k a b w l r : Int) (h : mHidden w l r = true) (hc : mClue k a b = true) : Ev (fun n => impl_doesFit.f n k a b w l r) (mFits k a b w l r) := by
  obtain ⟨k0, k5, k1, k3⟩ := mClue_kind hc
  unfold impl_doesFit.f
  by_cases h3 : k = 3
  · simp only [if_pos h3]
    refine Ev.bind (impl_told.ev k a w l r h ⟨k0, k5⟩ (k3 h3) (fun h => absurd h3 h)) ?_
    refine Ev.const ?_
    simp [mFits]
  · simp only [if_neg h3]
    refine Ev.bind (impl_told.ev k 0 w l r h ⟨k0, k5⟩ (.inl rfl) (fun _ => rfl)) ?_
    refine Ev.const ?_
    by_cases h24 : k = 2 ∨ k = 4
    · rw [mVal_other k 0 a w l r h24]; simp [mFits]
    · have ha := k1 h3 (by omega) (by omega)
      subst ha
      simp [mFits]
end Go.Proofs.Ytbdjidjcmmeanaa.P
