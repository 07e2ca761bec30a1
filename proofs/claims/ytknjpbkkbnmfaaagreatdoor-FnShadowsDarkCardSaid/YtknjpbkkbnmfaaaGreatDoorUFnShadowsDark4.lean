/- The law FnShadowsDark is proved: a call of it returns true and leaves its arguments as they were; and what this needs. Every input that the given rows speak of; nothing else is asked. -/
import Derived.Test.YtknjpbkkbnmfaaaGreatDoorUFnShadowsDark0
import Derived.Test.YtknjpbkkbnmfaaaGreatDoorUX3
import Derived.Test.YtknjpbkkbnmfaaaGreatDoorUFnShadowsDark2
import Derived.Test.YtknjpbkkbnmfaaaGreatDoorUFnShadowsDark1
import Derived.Lib.AtoiTie
import Derived.Test.YtknjpbkkbnmfaaaGreatDoorRows
import Derived.Test.YtknjpbkkbnmfaaaGreatDoorCards
import Derived.Test.YtknjpbkkbnmfaaaGreatDoorTie
import Derived.WalkKit
import Derived.ProofKit
import Derived.OpenShut
import Derived.ShutString
import Derived.ChangeOld
import Derived.Below
import Derived.SizedLaws
import Derived.Deep.Slices
import Derived.Deep.Fields
import Derived.ChangeSame
import Derived.Lib.SmallJoins
import Derived.Handed
import Derived.LaidLaws
import Derived.LaidMore
import Derived.Stop.LaidErr
import Derived.Lib.LaidTab
import Derived.SevenTiedAt
import Derived.ShapedOpen
import Derived.Lay
import Derived.Test.YtknjpbkkbnmfaaaGreatDoorUW
set_option maxHeartbeats 8000000
set_option maxRecDepth 100000
namespace Go.Proofs.YtknjpbkkbnmfaaaGreatDoor.P
open Go.RowKit Go.Proofs.YtknjpbkkbnmfaaaGreatDoorW.PrintWords Go.Proofs.YtknjpbkkbnmfaaaGreatDoorW.PrintLast Go.Proofs.YtknjpbkkbnmfaaaGreatDoorW.PrintMore
set_option linter.unusedVariables false
theorem zU4_0 {p : Prop} (h : p := by split <;> (try rw [List.length_append]) <;> (try simp only [List.length_cons, List.length_nil]) <;> omega) : p := h
theorem zU4_1 {p : Prop} (h : p := by unfold whR; split <;> (try simp only [List.length_append, List.length_cons, List.length_nil]) <;> omega) : p := h
theorem zU4_2 {p : Prop} (h : p := by rw [List.length_append]; simp only [List.length_cons, List.length_nil]; omega) : p := h
theorem zU4_3 {p : Prop} (h : p := by simp only [List.length_append, List.length_cons, List.length_nil]; omega) : p := h
theorem zU4_4 {p : Prop} (h : p := by have := (mPoles_el hp).2.1; omega) : p := h
theorem zU4_5 {p : Prop} (h : p := by rw [mkS_size]; omega) : p := h
theorem zU4_6 {p : Prop} (h : p := by omega) : p := h
theorem zU4_7 {p : Prop} (h : p := by simp) : p := h
end Go.Proofs.YtknjpbkkbnmfaaaGreatDoor.P
namespace Go.Proofs.YtknjpbkkbnmfaaaGreatDoor.P
open Go.RowKit Go.Proofs.YtknjpbkkbnmfaaaGreatDoorW.PrintWords Go.Proofs.YtknjpbkkbnmfaaaGreatDoorW.PrintLast Go.Proofs.YtknjpbkkbnmfaaaGreatDoorW.PrintMore
set_option linter.unusedVariables false
set_option linter.unusedSimpArgs false
theorem cr_trans {a b c d e f : Int} (hb : 0 < b) (hd : 0 < d) (hf : 0 < f) (h1 : a * d ≤ c * b) (h2 : c * f ≤ e * d) : a * f ≤ e * b := by
 have q1 := Int.mul_le_mul_of_nonneg_right h1 (show 0 ≤ f by omega)
 have q2 := Int.mul_le_mul_of_nonneg_right h2 (show 0 ≤ b by omega)
 refine Int.le_of_mul_le_mul_right (a := d) ?_ hd
 grind
theorem cr_lt {a b c d e f : Int} (hb : 0 < b) (hd : 0 < d) (hf : 0 < f) (h1 : a * d ≤ c * b) (h2 : c * f < e * d) : a * f < e * b := by
 have q1 := Int.mul_le_mul_of_nonneg_right h1 (show 0 ≤ f by omega)
 have q2 := Int.mul_lt_mul_of_pos_right h2 (show 0 < b by omega)
 refine Int.lt_of_mul_lt_mul_right (a := d) ?_ zU4_6
 grind
/-- The first best of items i.., by what is told of two. -/
def bestF (lt : Nat → Nat → Bool) : Nat → Nat → Nat → Nat
 | 0, _, b => b
 | d + 1, i, b => bestF lt d (i + 1) (if lt b i = true then i else b)
def crL (a c : Nat → Int) (b i : Nat) : Bool := decide (a b * c i < a i * c b)
def BestI (a c : Nat → Int) (i b : Nat) : Prop := (∀ j, j < i → a j * c b ≤ a b * c j) ∧ (∀ j, j < b → a j * c b < a b * c j)
theorem bestF_ok {a c : Nat → Int} {n : Nat} (hc : ∀ i, i < n → 0 < c i) (h0 : 0 < n) : ∀ (d i b : Nat), i + d = n → (b < i ∨ b = 0) → BestI a c i b → bestF (crL a c) d i b < n ∧ BestI a c n (bestF (crL a c) d i b)
 | 0, i, b, h, hb, hi => by
  have : i = n := by omega
  subst this
  exact ⟨by unfold bestF; omega, hi⟩
 | d + 1, i, b, h, hb, hi => by
  unfold bestF
  by_cases q : crL a c b i = true
  ·rw [if_pos q]
   have q2 : a b * c i < a i * c b := of_decide_eq_true q
   refine bestF_ok hc h0 d (i + 1) i zU4_6 zU4_6 ⟨fun j hj => ?_, fun j hj => ?_⟩
   ·rcases Nat.lt_or_ge j i with h1 | h1
    ·exact cr_trans (hc j zU4_6) (hc b zU4_6) (hc i zU4_6) (hi.1 j h1) (Int.le_of_lt q2)
    ·have : j = i := by omega
     subst this; exact Int.le_refl _
   ·exact cr_lt (hc j zU4_6) (hc b zU4_6) (hc i zU4_6) (hi.1 j hj) q2
  ·rw [if_neg q]
   have q2 : a i * c b ≤ a b * c i := Int.not_lt.1 (fun x => q (decide_eq_true x))
   refine bestF_ok hc h0 d (i + 1) b zU4_6 zU4_6 ⟨fun j hj => ?_, hi.2⟩
   rcases Nat.lt_or_ge j i with h1 | h1
   ·exact hi.1 j h1
   ·have : j = i := by omega
    subst this; exact q2
theorem bestF_all {a c : Nat → Int} {n : Nat} (hc : ∀ i, i < n → 0 < c i) (h0 : 0 < n) : bestF (crL a c) n 0 0 < n ∧ BestI a c n (bestF (crL a c) n 0 0) :=
 bestF_ok hc h0 n 0 0 zU4_6 (.inr rfl) ⟨fun j hj => absurd hj zU4_6, fun j hj => absurd hj zU4_6⟩
/-- The numbers i.. that a test lets in. -/
def fltL (f : Nat → Bool) : Nat → Nat → List Int
 | 0, _ => []
 | d + 1, i => if f i = true then (i : Int) :: fltL f d (i + 1) else fltL f d (i + 1)
theorem fltL_mem (f : Nat → Bool) (x : Int) : ∀ d i : Nat, x ∈ fltL f d i ↔ ∃ j : Nat, x = (j : Int) ∧ i ≤ j ∧ j < i + d ∧ f j = true
 | 0, i => by
  unfold fltL
  constructor
  ·intro h; exact absurd h zU4_7
  ·rintro ⟨j, _, h1, h2, _⟩; omega
 | d + 1, i => by
  unfold fltL
  have ih := fltL_mem f x d (i + 1)
  by_cases q : f i = true
  ·rw [if_pos q, List.mem_cons, ih]
   constructor
   ·rintro (h | ⟨j, h1, h2, h3, h4⟩)
    ·exact ⟨i, h, by omega, by omega, q⟩
    ·exact ⟨j, h1, by omega, by omega, h4⟩
   ·rintro ⟨j, h1, h2, h3, h4⟩
    by_cases e : j = i
    ·exact .inl (by rw [h1, e])
    ·exact .inr ⟨j, h1, by omega, by omega, h4⟩
  ·rw [if_neg q, ih]
   constructor
   ·rintro ⟨j, h1, h2, h3, h4⟩; exact ⟨j, h1, by omega, by omega, h4⟩
   ·rintro ⟨j, h1, h2, h3, h4⟩
    by_cases e : j = i
    ·rw [e] at h4; exact absurd h4 q
    ·exact ⟨j, h1, by omega, by omega, h4⟩
theorem fltL_rise (f : Nat → Bool) : ∀ d i : Nat, (fltL f d i).Pairwise (· < ·)
 | 0, _ => List.Pairwise.nil
 | d + 1, i => by
  unfold fltL
  split
  ·refine List.Pairwise.cons (fun x hx => ?_) (fltL_rise f d (i + 1))
   obtain ⟨j, h1, h2, _, _⟩ := (fltL_mem f x d (i + 1)).1 hx
   omega
  ·exact fltL_rise f d (i + 1)
theorem fltL_len (f : Nat → Bool) : ∀ d i : Nat, (fltL f d i).length ≤ d
 | 0, _ => Nat.le_refl 0
 | d + 1, i => by
  have := fltL_len f d (i + 1)
  unfold fltL
  split
  ·simp only [List.length_cons]; omega
  ·omega
theorem fltL_has {f : Nat → Bool} {d i j : Nat} (h : i ≤ j) (h2 : j < i + d) : decide ((j : Int) ∈ fltL f d i) = f j := by
 cases q : f j with
 | true => exact decide_eq_true ((fltL_mem f _ d i).2 ⟨j, rfl, h, h2, q⟩)
 | false =>
  refine decide_eq_false (fun hm => ?_)
  obtain ⟨j2, e, _, _, h4⟩ := (fltL_mem f _ d i).1 hm
  have : j2 = j := by omega
  rw [this, q] at h4
  exact absurd h4 zU4_7
def anyF (f : Nat → Bool) : Nat → Nat → Bool
 | 0, _ => false
 | d + 1, i => f i || anyF f d (i + 1)
theorem Ev.succ {α : Type} {g : Nat → Option α} {r : α} (h : Ev (fun k => g (k + 1)) r) : Ev g r := Ev.step (fun _ => rfl) h
theorem Ev.ite {α : Type} {c : Prop} [Decidable c] {g f : Nat → Option α} {r s : α} (h1 : c → Ev g r) (h2 : ¬ c → Ev f s) : Ev (fun k => if c then g k else f k) (if c then r else s) := by
 by_cases h : c
 ·simp only [if_pos h]; exact h1 h
 ·simp only [if_neg h]; exact h2 h
theorem Ev.bindc {α β : Type} {g : Option α} {f : Nat → α → Option β} {a : α} {r : β} (h : g = some a) (k : Ev (fun n => f n a) r) : Ev (fun n => g.bind (f n)) r := by
 subst h; exact k
theorem spec_l1In.eq (a lo hi : Int) : spec_l1In.f a lo hi = some (inr lo hi a) := by
 unfold spec_l1In.f inr
 by_cases h : a ≥ lo
 ·rw [if_pos h]; simp [show lo ≤ a from h]
 ·rw [if_neg h]; simp [show ¬ lo ≤ a from h]
theorem impl_within.eq (a lo hi : Int) : impl_within.f a lo hi = some (inr lo hi a) := by
 unfold impl_within.f inr
 by_cases h : a ≥ lo
 ·rw [if_pos h]; simp [show lo ≤ a from h]
 ·rw [if_neg h]; simp [show ¬ lo ≤ a from h]
def okP (lamp a b : Int) : Bool := inr 2 200 lamp && ((inr 1 500 a && inr 1 200 b) && decide (b < lamp))
theorem impl_isPoleOf.eq (lamp a b : Int) : impl_isPoleOf.f lamp a b = some (okP lamp a b) := by
 unfold impl_isPoleOf.f impl_isLamp.f impl_isPole.f impl_isPlace.f impl_isHigh.f okP
 simp only [impl_within.eq, Option.bind_some]
 cases inr 2 200 lamp <;> cases inr 1 500 a <;> cases inr 1 200 b <;> rfl
theorem spec_swPole.eq (a b : Int) : spec_swPole.f a b = some (inr 1 500 a && inr 1 200 b) := by
 unfold spec_swPole.f
 simp only [spec_l1In.eq, Option.bind_some]
 cases inr 1 500 a <;> cases inr 1 200 b <;> rfl
theorem spec_swLamp.eq (a : Int) : spec_swLamp.f a = some (inr 2 200 a) := by
 unfold spec_swLamp.f; rw [spec_l1In.eq]; rfl
def ordP (l : List S39) (i : Nat) : Bool := decide (i = 0) || decide ((rd_T39 l ((i : Int) - 1)).f0 < (rd_T39 l (i : Int)).f0)
/-- The poles from place i on are poles under the lamp, and in order. -/
def polF (lamp : Int) (l : List S39) : Nat → Nat → Bool
 | 0, _ => true
 | d + 1, i => okP lamp (rd_T39 l (i : Int)).f0 (rd_T39 l (i : Int)).f1 && (ordP l i && polF lamp l d (i + 1))
def rowF (l : List S39) : Nat → Nat → Bool
 | 0, _ => true
 | d + 1, i => (inr 1 500 (rd_T39 l (i : Int)).f0 && inr 1 200 (rd_T39 l (i : Int)).f1) && (ordP l i && rowF l d (i + 1))
def lowF (lamp : Int) (l : List S39) : Nat → Nat → Bool
 | 0, _ => true
 | d + 1, i => decide ((rd_T39 l (i : Int)).f1 < lamp) && lowF lamp l d (i + 1)
theorem polF_parts (lamp : Int) (l : List S39) (d : Nat) : ∀ i : Nat, polF lamp l d i = ((decide (d = 0) || inr 2 200 lamp) && (rowF l d i && lowF lamp l d i)) := by
 induction d with
 | zero => intro i; rfl
 | succ d ih =>
  intro i
  simp only [polF, rowF, lowF, ih, okP]
  cases inr 2 200 lamp <;> cases inr 1 500 (rd_T39 l (i : Int)).f0 <;> cases inr 1 200 (rd_T39 l (i : Int)).f1 <;> cases decide ((rd_T39 l (i : Int)).f1 < lamp) <;> cases ordP l i <;> cases rowF l d (i + 1) <;> cases lowF lamp l d (i + 1) <;> simp
theorem impl_ArePoles.ev_l (lamp : Int) (l : List S39) (hl : l.length ≤ 4611686018427387904) (d : Nat) : ∀ i : Nat, i + d = l.length → Ev (fun k => impl_ArePoles.l0 k lamp l l (l.length : Int) (i : Int)) (polF lamp l d i && inr 1 6 (l.length : Int)) := by
 induction d with
 | zero =>
  intro i hi
  refine Ev.succ ?_
  simp only [impl_ArePoles.l0, show ¬ ((i : Int) < (l.length : Int)) by omega, if_false]
  exact Ev.const (by rw [impl_within.eq]; rfl)
 | succ d ih =>
  intro i hi
  refine Ev.succ ?_
  simp only [impl_ArePoles.l0, show ((i : Int) < (l.length : Int)) by omega, show (0 : Int) ≤ (i : Int) by omega, if_true]
  rw [wid (show -9223372036854775808 ≤ (i : Int) + 1 by omega) zU4_6]
  refine Ev.bindc (impl_isPoleOf.eq _ _ _) ?_
  unfold polF
  have ih := ih (i + 1) zU4_6
  cases h : okP lamp (rd_T39 l (i : Int)).f0 (rd_T39 l (i : Int)).f1 with
  | false => simp only [Bool.false_eq_true, if_false, Bool.false_and]; exact Ev.now _
  | true =>
   simp only [if_true, Bool.true_and]
   by_cases h0 : i = 0
   ·simp only [show ¬ ((i : Int) > 0) by omega, if_false]
    rw [show ordP l i = true by unfold ordP; simp [h0], Bool.true_and]
    exact ih
   ·rw [wid (show -9223372036854775808 ≤ (i : Int) - 1 by omega) zU4_6]
    simp only [show ((i : Int) > 0) by omega, show (0 : Int) ≤ (i : Int) - 1 by omega, show (i : Int) - 1 < (l.length : Int) by omega, if_true]
    by_cases hc : (rd_T39 l ((i : Int) - 1)).f0 < (rd_T39 l (i : Int)).f0
    ·simp only [show ¬ ((rd_T39 l ((i : Int) - 1)).f0 ≥ (rd_T39 l (i : Int)).f0) by omega, if_false]
     rw [show ordP l i = true by unfold ordP; simp [hc], Bool.true_and]
     exact ih
    ·simp only [show ((rd_T39 l ((i : Int) - 1)).f0 ≥ (rd_T39 l (i : Int)).f0) by omega, if_true]
     rw [show ordP l i = false by unfold ordP; simp [hc, h0], Bool.false_and, Bool.false_and]
     exact Ev.now _
theorem spec_swRow.ev_l (l : List S39) (hl : l.length ≤ 4611686018427387904) (d : Nat) : ∀ i : Nat, i + d = l.length → Ev (fun k => spec_swRow.l0 k l l (l.length : Int) (i : Int)) (rowF l d i) := by
 induction d with
 | zero =>
  intro i hi
  refine Ev.succ ?_
  simp only [spec_swRow.l0, show ¬ ((i : Int) < (l.length : Int)) by omega, if_false]
  exact Ev.now _
 | succ d ih =>
  intro i hi
  refine Ev.succ ?_
  simp only [spec_swRow.l0, show ((i : Int) < (l.length : Int)) by omega, show (0 : Int) ≤ (i : Int) by omega, if_true]
  rw [wid (show -9223372036854775808 ≤ (i : Int) + 1 by omega) zU4_6]
  refine Ev.bindc (spec_swPole.eq _ _) ?_
  unfold rowF
  have ih := ih (i + 1) zU4_6
  cases h : (inr 1 500 (rd_T39 l (i : Int)).f0 && inr 1 200 (rd_T39 l (i : Int)).f1) with
  | false => simp only [Bool.false_eq_true, if_false, Bool.false_and]; exact Ev.now _
  | true =>
   simp only [if_true, Bool.true_and]
   by_cases h0 : i = 0
   ·simp only [show ¬ ((i : Int) > 0) by omega, if_false]
    rw [show ordP l i = true by unfold ordP; simp [h0], Bool.true_and]
    exact ih
   ·rw [wid (show -9223372036854775808 ≤ (i : Int) - 1 by omega) zU4_6]
    simp only [show ((i : Int) > 0) by omega, show (0 : Int) ≤ (i : Int) - 1 by omega, show (i : Int) - 1 < (l.length : Int) by omega, if_true]
    by_cases hc : (rd_T39 l ((i : Int) - 1)).f0 < (rd_T39 l (i : Int)).f0
    ·simp only [show ¬ ((rd_T39 l (i : Int)).f0 ≤ (rd_T39 l ((i : Int) - 1)).f0) by omega, if_false]
     rw [show ordP l i = true by unfold ordP; simp [hc], Bool.true_and]
     exact ih
    ·simp only [show ((rd_T39 l (i : Int)).f0 ≤ (rd_T39 l ((i : Int) - 1)).f0) by omega, if_true]
     rw [show ordP l i = false by unfold ordP; simp [hc, h0], Bool.false_and]
     exact Ev.now _
theorem spec_swGood.ev_l (lamp : Int) (l : List S39) (hl : l.length ≤ 4611686018427387904) (d : Nat) : ∀ i : Nat, i + d = l.length → Ev (fun k => spec_swGood.l0 k lamp l (l.length : Int) (i : Int)) (lowF lamp l d i) := by
 induction d with
 | zero =>
  intro i hi
  refine Ev.succ ?_
  simp only [spec_swGood.l0, show ¬ ((i : Int) < (l.length : Int)) by omega, if_false]
  exact Ev.now _
 | succ d ih =>
  intro i hi
  refine Ev.succ ?_
  simp only [spec_swGood.l0, show ((i : Int) < (l.length : Int)) by omega, show (0 : Int) ≤ (i : Int) by omega, if_true]
  rw [wid (show -9223372036854775808 ≤ (i : Int) + 1 by omega) zU4_6]
  unfold lowF
  have ih := ih (i + 1) zU4_6
  by_cases hc : (rd_T39 l (i : Int)).f1 < lamp
  ·simp only [show ¬ ((rd_T39 l (i : Int)).f1 ≥ lamp) by omega, if_false, decide_eq_true hc, Bool.true_and]
   exact ih
  ·simp only [show ((rd_T39 l (i : Int)).f1 ≥ lamp) by omega, if_true, decide_eq_false hc, Bool.false_and]
   exact Ev.now _
def mPoles (lamp : Int) (l : List S39) : Bool := inr 2 200 lamp && (inr 1 6 (l.length : Int) && (rowF l l.length 0 && lowF lamp l l.length 0))
theorem impl_ArePoles.ev (lamp : Int) {l : List S39} (hl : l.length ≤ 4611686018427387904) : Ev (fun k => impl_ArePoles.f k lamp l) (mPoles lamp l) := by
 unfold impl_ArePoles.f mPoles
 refine ev_eq (impl_ArePoles.ev_l lamp l hl l.length 0 zU4_6) ?_
 rw [polF_parts]
 cases h : inr 1 6 (l.length : Int) with
 | false => simp
 | true =>
  have := inr_iff.1 h
  rw [decide_eq_false (show ¬ l.length = 0 by omega)]
  simp
theorem spec_swGood.ev (lamp : Int) {l : List S39} (hl : l.length ≤ 4611686018427387904) : Ev (fun k => spec_swGood.f k lamp l) (mPoles lamp l) := by
 unfold spec_swGood.f mPoles
 refine Ev.bindc (spec_swLamp.eq _) ?_
 cases h : inr 2 200 lamp with
 | false =>
  simp only [Bool.false_eq_true, if_false, Bool.false_and]
  refine Ev.succ ?_
  exact Ev.now _
 | true =>
  simp only [if_true, Bool.true_and]
  refine Ev.bind (a := (inr 1 6 (l.length : Int) && rowF l l.length 0)) ?_ ?_
  ·unfold spec_swRow.f
   refine Ev.bindc (spec_l1In.eq _ _ _) ?_
   cases inr 1 6 (l.length : Int) with
   | false => exact Ev.now _
   | true =>
    simp only [if_true, Bool.true_and]
    exact spec_swRow.ev_l l hl l.length 0 zU4_6
  ·refine Ev.succ ?_
   rw [← Bool.and_assoc]
   cases inr 1 6 (l.length : Int) && rowF l l.length 0 with
   | false => exact Ev.now _
   | true =>
    simp only [spec_swGood.j0, Bool.not_true, Bool.false_eq_true, if_false, Bool.true_and]
    exact spec_swGood.ev_l lamp l hl l.length 0 zU4_6
theorem rdPole {l : List S39} {i : Nat} (h : i < l.length) : rd_T39 l (i : Int) = l[i] := by
 simp [rd_T39, List.getD_eq_getElem?_getD, List.getElem?_eq_getElem h]
def pX (l : List S39) (i : Nat) : Int := (rd_T39 l (i : Int)).f0
def pH (l : List S39) (i : Nat) : Int := (rd_T39 l (i : Int)).f1
def mRow (l : List S39) : Bool := inr 1 6 (l.length : Int) && rowF l l.length 0
theorem spec_swRow.ev {l : List S39} (hl : l.length ≤ 4611686018427387904) : Ev (fun k => spec_swRow.f k l) (mRow l) := by
 unfold spec_swRow.f mRow
 refine Ev.bindc (spec_l1In.eq _ _ _) ?_
 cases inr 1 6 (l.length : Int) with
 | false => exact Ev.now _
 | true =>
  simp only [if_true, Bool.true_and]
  exact spec_swRow.ev_l l hl l.length 0 zU4_6
theorem rowF_el {l : List S39} : ∀ d i : Nat, rowF l d i = true → ∀ j, i ≤ j → j < i + d → (1 ≤ pX l j ∧ pX l j ≤ 500) ∧ (1 ≤ pH l j ∧ pH l j ≤ 200)
 | 0, _, _, j, h1, h2 => absurd h2 zU4_6
 | d + 1, i, h, j, h1, h2 => by
  simp only [rowF, Bool.and_eq_true, inr_iff] at h
  by_cases e : j = i
  ·subst e; exact h.1
  ·exact rowF_el d (i + 1) h.2.2 j zU4_6 zU4_6
theorem lowF_el {lamp : Int} {l : List S39} : ∀ d i : Nat, lowF lamp l d i = true → ∀ j, i ≤ j → j < i + d → pH l j < lamp
 | 0, _, _, j, h1, h2 => absurd h2 zU4_6
 | d + 1, i, h, j, h1, h2 => by
  simp only [lowF, Bool.and_eq_true, decide_eq_true_eq] at h
  by_cases e : j = i
  ·subst e; exact h.1
  ·exact lowF_el d (i + 1) h.2 j zU4_6 zU4_6
theorem mRow_el {l : List S39} (h : mRow l = true) : (1 ≤ l.length ∧ l.length ≤ 6) ∧ ∀ j, j < l.length → (1 ≤ pX l j ∧ pX l j ≤ 500) ∧ (1 ≤ pH l j ∧ pH l j ≤ 200) := by
 unfold mRow at h
 rw [Bool.and_eq_true, inr_iff] at h
 exact ⟨by omega, fun j hj => rowF_el _ _ h.2 j zU4_6 zU4_6⟩
theorem mPoles_el {lamp : Int} {l : List S39} (h : mPoles lamp l = true) : (2 ≤ lamp ∧ lamp ≤ 200) ∧ (1 ≤ l.length ∧ l.length ≤ 6) ∧ ∀ j, j < l.length → ((1 ≤ pX l j ∧ pX l j ≤ 500) ∧ (1 ≤ pH l j ∧ pH l j ≤ 200)) ∧ pH l j < lamp := by
 unfold mPoles at h
 simp only [Bool.and_eq_true, inr_iff] at h
 exact ⟨h.1, by omega, fun j hj => ⟨rowF_el _ _ h.2.2.1 j zU4_6 zU4_6, lowF_el _ _ h.2.2.2 j zU4_6 zU4_6⟩⟩
theorem mPoles_ok {lamp : Int} {l : List S39} (h : mPoles lamp l = true) {j : Nat} (hj : j < l.length) : okP lamp (pX l j) (pH l j) = true := by
 obtain ⟨h1, h2, h3⟩ := mPoles_el h
 have := h3 j hj
 unfold okP
 simp only [Bool.and_eq_true, inr_iff, decide_eq_true_eq]
 exact ⟨h1, this.1, this.2⟩
theorem impl_isPole.eq2 (p h : Int) : impl_isPole.f p h = some (inr 1 500 p && inr 1 200 h) := by
 unfold impl_isPole.f impl_isPlace.f impl_isHigh.f
 simp only [impl_within.eq, Option.bind_some]
 cases inr 1 500 p <;> rfl
theorem impl_areAnyPoles.ev_l (l : List S39) (hl : l.length ≤ 4611686018427387904) (d : Nat) : ∀ i : Nat, i + d = l.length → Ev (fun k => impl_areAnyPoles.l0 k l l (l.length : Int) (i : Int)) (rowF l d i && inr 1 6 (l.length : Int)) := by
 induction d with
 | zero =>
  intro i hi
  refine Ev.succ ?_
  simp only [impl_areAnyPoles.l0, show ¬ ((i : Int) < (l.length : Int)) by omega, if_false]
  exact Ev.const (by rw [impl_within.eq]; rfl)
 | succ d ih =>
  intro i hi
  refine Ev.succ ?_
  simp only [impl_areAnyPoles.l0, show ((i : Int) < (l.length : Int)) by omega, show (0 : Int) ≤ (i : Int) by omega, if_true]
  rw [wid (show -9223372036854775808 ≤ (i : Int) + 1 by omega) zU4_6]
  refine Ev.bindc (impl_isPole.eq2 _ _) ?_
  unfold rowF
  have ih := ih (i + 1) zU4_6
  cases h : (inr 1 500 (rd_T39 l (i : Int)).f0 && inr 1 200 (rd_T39 l (i : Int)).f1) with
  | false => simp only [Bool.false_eq_true, if_false, Bool.false_and]; exact Ev.now _
  | true =>
   simp only [if_true, Bool.true_and]
   by_cases h0 : i = 0
   ·simp only [show ¬ ((i : Int) > 0) by omega, if_false]
    rw [show ordP l i = true by unfold ordP; simp [h0], Bool.true_and]
    exact ih
   ·rw [wid (show -9223372036854775808 ≤ (i : Int) - 1 by omega) zU4_6]
    simp only [show ((i : Int) > 0) by omega, show (0 : Int) ≤ (i : Int) - 1 by omega, show (i : Int) - 1 < (l.length : Int) by omega, if_true]
    by_cases hc : (rd_T39 l ((i : Int) - 1)).f0 < (rd_T39 l (i : Int)).f0
    ·simp only [show ¬ ((rd_T39 l ((i : Int) - 1)).f0 ≥ (rd_T39 l (i : Int)).f0) by omega, if_false]
     rw [show ordP l i = true by unfold ordP; simp [hc], Bool.true_and]
     exact ih
    ·simp only [show ((rd_T39 l ((i : Int) - 1)).f0 ≥ (rd_T39 l (i : Int)).f0) by omega, if_true]
     rw [show ordP l i = false by unfold ordP; simp [hc, h0], Bool.false_and, Bool.false_and]
     exact Ev.now _
theorem impl_areAnyPoles.ev {l : List S39} (hl : l.length ≤ 4611686018427387904) : Ev (fun k => impl_areAnyPoles.f k l) (mRow l) := by
 unfold impl_areAnyPoles.f mRow
 refine ev_eq (impl_areAnyPoles.ev_l l hl l.length 0 zU4_6) ?_
 rw [Bool.and_comm]
theorem okP_iff {L p h : Int} : okP L p h = true ↔ (2 ≤ L ∧ L ≤ 200) ∧ ((1 ≤ p ∧ p ≤ 500) ∧ (1 ≤ h ∧ h ≤ 200)) ∧ h < L := by
 unfold okP; simp only [Bool.and_eq_true, inr_iff, decide_eq_true_eq]
theorem spec_swBoth.eq2 (L p h : Int) : spec_swBoth.f L p h = some (okP L p h) := by
 unfold spec_swBoth.f okP
 rw [spec_swLamp.eq, spec_swPole.eq]
 cases inr 2 200 L <;> cases (inr 1 500 p && inr 1 200 h) <;> rfl
theorem okP_bd {L p h : Int} (hb : okP L p h = true) : (0 ≤ p * h ∧ p * h ≤ 100000) ∧ (0 ≤ p * L ∧ p * L ≤ 100000) := by
 obtain ⟨h1, h2, h3⟩ := okP_iff.1 hb
 exact ⟨mul_bd (A := 500) (B := 200) zU4_6 zU4_6 zU4_6 zU4_6, mul_bd (A := 500) (B := 200) zU4_6 zU4_6 zU4_6 zU4_6⟩
def dSL (L p h : Int) : Int × Int × Bool := if okP L p h = true then (loA (p * h) (L - h), loB (p * h) (L - h), true) else (0, 0, false)
def dSE (L p h : Int) : Int × Int × Bool := if okP L p h = true then (loA (p * L) (L - h), loB (p * L) (L - h), true) else (0, 0, false)
theorem impl_ShadowLength.ev2 (L p h : Int) : Ev (fun k => impl_ShadowLength.f k L p h) (dSL L p h) := by
 unfold impl_ShadowLength.f dSL
 refine Ev.bindc (impl_isPoleOf.eq L p h) ?_
 cases hb : okP L p h with
 | false => exact Ev.now _
 | true =>
  have := okP_bd hb; have := okP_iff.1 hb
  simp only [if_true]
  rw [wid (show -9223372036854775808 ≤ p * h by omega) zU4_6, wid (show -9223372036854775808 ≤ L - h by omega) zU4_6]
  exact Ev.bind (impl_fraction.ev zU4_6 zU4_6 zU4_6 zU4_6) (Ev.now _)
theorem impl_ShadowEnd.ev2 (L p h : Int) : Ev (fun k => impl_ShadowEnd.f k L p h) (dSE L p h) := by
 unfold impl_ShadowEnd.f dSE
 refine Ev.bindc (impl_isPoleOf.eq L p h) ?_
 cases hb : okP L p h with
 | false => exact Ev.now _
 | true =>
  have := okP_bd hb; have := okP_iff.1 hb
  simp only [if_true]
  rw [wid (show -9223372036854775808 ≤ p * L by omega) zU4_6, wid (show -9223372036854775808 ≤ L - h by omega) zU4_6]
  exact Ev.bind (impl_fraction.ev zU4_6 zU4_6 zU4_6 zU4_6) (Ev.now _)
theorem spec_ShadowEnd.ev2 (L p h : Int) : Ev (fun k => spec_ShadowEnd.f k L p h) (dSE L p h) := by
 unfold spec_ShadowEnd.f dSE
 refine Ev.bindc (spec_swBoth.eq2 L p h) ?_
 cases hb : okP L p h with
 | false => exact Ev.now _
 | true =>
  have := okP_bd hb; have := okP_iff.1 hb
  simp only [if_true]
  rw [wid (show -9223372036854775808 ≤ p * L by omega) zU4_6, wid (show -9223372036854775808 ≤ L - h by omega) zU4_6]
  exact Ev.bind (spec_clLow.ev zU4_6 zU4_6 zU4_6 zU4_6) (Ev.now _)
/-- A place that lies in a pole's shadow. -/
def dkT (L : Int) (l : List S39) (n i : Nat) : Bool := decide (pX l i < (n : Int)) && decide ((n : Int) * (L - pH l i) ≤ pX l i * L)
def dkAt (L : Int) (l : List S39) (n : Nat) : Bool := anyF (dkT L l n) l.length 0
def mDark (L : Int) (l : List S39) (m : Int) : List Int × Bool := if (mPoles L l && inr 0 500 m) = true then (fltL (dkAt L l) (m.toNat + 1) 0, true) else ([], false)
theorem dk_bd {L : Int} {l : List S39} (hp : mPoles L l = true) {i n : Nat} (hi : i < l.length) (hn : n ≤ 500) : (0 ≤ L - pH l i ∧ L - pH l i ≤ 200) ∧ (0 ≤ (n : Int) * (L - pH l i) ∧ (n : Int) * (L - pH l i) ≤ 100000) ∧ (0 ≤ pX l i * L ∧ pX l i * L ≤ 100000) := by
 have h := okP_iff.1 (mPoles_ok hp hi)
 have h2 := (okP_bd (mPoles_ok hp hi)).2
 exact ⟨by omega, mul_bd (A := 500) (B := 200) zU4_6 zU4_6 zU4_6 zU4_6, h2⟩
theorem dk_impl_l1 {L : Int} {l : List S39} (hp : mPoles L l = true) {n : Nat} (hn : n ≤ 500) (m : Int) (acc : List Int) (ha : acc.length ≤ 1000) (r : List Int × Bool) (d : Nat) : ∀ i : Nat, i + d = l.length → Ev (fun k => impl_DarkPlaces.l0 k L l m (if anyF (dkT L l n) d i = true then acc ++ [(n : Int)] else acc) ((n + 1 : Nat) : Int)) r → Ev (fun k => impl_DarkPlaces.l1 k L l m acc (n : Int) l (l.length : Int) (i : Int)) r := by
 have hlen := (mPoles_el hp).2.1
 have hw : wrap64 ((n : Int) + 1) = ((n + 1 : Nat) : Int) := by rw [wid zU4_6 zU4_6]; rfl
 induction d with
 | zero =>
  intro i hi h
  refine Ev.succ ?_
  simp only [impl_DarkPlaces.l1, show ¬ ((i : Int) < (l.length : Int)) by omega, if_false, hw]
  exact h
 | succ d ih =>
  intro i hi h
  have hlt : i < l.length := by omega
  obtain ⟨b1, b2, b3⟩ := dk_bd hp hlt hn
  have e0 : (rd_T39 l (i : Int)).f0 = pX l i := rfl
  have e1 : (rd_T39 l (i : Int)).f1 = pH l i := rfl
  refine Ev.succ ?_
  simp only [impl_DarkPlaces.l1, show ((i : Int) < (l.length : Int)) by omega, show (0 : Int) ≤ (i : Int) by omega, if_true, e0, e1, wid (show -9223372036854775808 ≤ (i : Int) + 1 by omega) zU4_6, wid (show -9223372036854775808 ≤ L - pH l i by omega) zU4_6, wid (show -9223372036854775808 ≤ (n : Int) * (L - pH l i) by omega) zU4_6, wid (show -9223372036854775808 ≤ pX l i * L by omega) zU4_6]
  unfold anyF at h
  by_cases c1 : (n : Int) > pX l i
  ·by_cases c2 : (n : Int) * (L - pH l i) ≤ pX l i * L
   ·rw [show dkT L l n i = true by unfold dkT; simp only [Bool.and_eq_true, decide_eq_true_eq]; exact ⟨c1, c2⟩, Bool.true_or, if_pos rfl] at h
    simp only [c1, c2, if_true, show acc.length < 17592186044416 by omega, hw]
    exact h
   ·rw [show dkT L l n i = false by unfold dkT; rw [decide_eq_false c2, Bool.and_false], Bool.false_or] at h
    simp only [c1, c2, if_true, if_false]
    exact ih (i + 1) zU4_6 h
  ·rw [show dkT L l n i = false by unfold dkT; rw [decide_eq_false c1, Bool.false_and], Bool.false_or] at h
   simp only [c1, if_false]
   exact ih (i + 1) zU4_6 h
theorem dk_impl_l0 {L : Int} {l : List S39} (hp : mPoles L l = true) (m : Nat) (hm : m ≤ 500) (d : Nat) : ∀ (n : Nat) (acc : List Int), n + d = m + 1 → acc.length ≤ n → Ev (fun k => impl_DarkPlaces.l0 k L l (m : Int) acc (n : Int)) (acc ++ fltL (dkAt L l) d n, true) := by
 induction d with
 | zero =>
  intro n acc hn ha
  refine Ev.succ ?_
  simp only [impl_DarkPlaces.l0, show ¬ ((n : Int) ≤ (m : Int)) by omega, if_false, fltL, List.append_nil]
  exact Ev.now _
 | succ d ih =>
  intro n acc hn ha
  refine Ev.succ ?_
  simp only [impl_DarkPlaces.l0, show ((n : Int) ≤ (m : Int)) by omega, if_true]
  refine dk_impl_l1 hp zU4_6 _ acc zU4_6 _ l.length 0 zU4_6 ?_
  unfold fltL
  have e := ih (n + 1) (if dkAt L l n = true then acc ++ [(n : Int)] else acc) zU4_6 zU4_0
  refine ev_eq e ?_
  by_cases c : dkAt L l n = true
  ·rw [if_pos c, if_pos c, List.append_assoc]; rfl
  ·rw [if_neg c, if_neg c]
theorem impl_DarkPlaces.ev (L : Int) {l : List S39} (hl : l.length ≤ 4611686018427387904) (m : Int) : Ev (fun k => impl_DarkPlaces.f k L l m) (mDark L l m) := by
 unfold impl_DarkPlaces.f mDark
 refine Ev.bind (impl_ArePoles.ev L hl) ?_
 cases hp : mPoles L l with
 | false =>
  simp only [Bool.false_eq_true, if_false, Bool.false_and]
  refine Ev.succ ?_
  simp only [impl_DarkPlaces.j0, if_true]
  exact Ev.now _
 | true =>
  simp only [if_true, Bool.true_and]
  refine Ev.bindc (impl_within.eq m 0 500) ?_
  refine Ev.succ ?_
  cases hm : inr 0 500 m with
  | false => simp only [impl_DarkPlaces.j0, Bool.not_false, if_true, Bool.false_eq_true, if_false]; exact Ev.now _
  | true =>
   have h := inr_iff.1 hm
   simp only [impl_DarkPlaces.j0, Bool.not_true, Bool.false_eq_true, if_false, if_true]
   have e := dk_impl_l0 hp m.toNat zU4_6 (m.toNat + 1) 0 [] zU4_6 zU4_7
   rw [show ((m.toNat : Nat) : Int) = m by omega] at e
   exact e
theorem dk_spec_l1 {L : Int} {l : List S39} (hp : mPoles L l = true) {n : Nat} (hn : n ≤ 500) (m : Int) (acc : List Int) (ha : acc.length ≤ 1000) (r : List Int × Bool) (d : Nat) : ∀ (i : Nat) (b : Bool), i + d = l.length → Ev (fun k => spec_DarkPlaces.l0 k L l m (if (b || anyF (dkT L l n) d i) = true then acc ++ [(n : Int)] else acc) ((n + 1 : Nat) : Int)) r → Ev (fun k => spec_DarkPlaces.l1 k L l m acc (n : Int) b l (l.length : Int) (i : Int)) r := by
 have hlen := (mPoles_el hp).2.1
 have hw : wrap64 ((n : Int) + 1) = ((n + 1 : Nat) : Int) := by rw [wid zU4_6 zU4_6]; rfl
 induction d with
 | zero =>
  intro i b hi h
  refine Ev.succ ?_
  simp only [spec_DarkPlaces.l1, show ¬ ((i : Int) < (l.length : Int)) by omega, if_false, hw]
  unfold anyF at h
  rw [Bool.or_false] at h
  cases b with
  | true => simp only [if_true, show acc.length < 17592186044416 by omega] at h ⊢; exact h
  | false => simp only [Bool.false_eq_true, if_false] at h ⊢; exact h
 | succ d ih =>
  intro i b hi h
  have hlt : i < l.length := by omega
  obtain ⟨b1, b2, b3⟩ := dk_bd hp hlt hn
  have e0 : (rd_T39 l (i : Int)).f0 = pX l i := rfl
  have e1 : (rd_T39 l (i : Int)).f1 = pH l i := rfl
  refine Ev.succ ?_
  simp only [spec_DarkPlaces.l1, show ((i : Int) < (l.length : Int)) by omega, show (0 : Int) ≤ (i : Int) by omega, if_true, e0, e1, wid (show -9223372036854775808 ≤ (i : Int) + 1 by omega) zU4_6, wid (show -9223372036854775808 ≤ L - pH l i by omega) zU4_6, wid (show -9223372036854775808 ≤ (n : Int) * (L - pH l i) by omega) zU4_6, wid (show -9223372036854775808 ≤ pX l i * L by omega) zU4_6]
  unfold anyF at h
  cases b with
  | true =>
   simp only [if_true]
   refine ih (i + 1) true zU4_6 ?_
   simp only [Bool.true_or] at h ⊢
   exact h
  | false =>
   simp only [Bool.false_eq_true, if_false]
   rw [Bool.false_or] at h
   by_cases c1 : (n : Int) > pX l i
   ·rw [show dkT L l n i = decide ((n : Int) * (L - pH l i) ≤ pX l i * L) by unfold dkT; rw [decide_eq_true c1, Bool.true_and]] at h
    simp only [c1, if_true]
    exact ih (i + 1) _ zU4_6 h
   ·rw [show dkT L l n i = false by unfold dkT; rw [decide_eq_false c1, Bool.false_and]] at h
    simp only [c1, if_false]
    exact ih (i + 1) false zU4_6 h
theorem dk_spec_l0 {L : Int} {l : List S39} (hp : mPoles L l = true) (m : Nat) (hm : m ≤ 500) (d : Nat) : ∀ (n : Nat) (acc : List Int), n + d = m + 1 → acc.length ≤ n → Ev (fun k => spec_DarkPlaces.l0 k L l (m : Int) acc (n : Int)) (acc ++ fltL (dkAt L l) d n, true) := by
 induction d with
 | zero =>
  intro n acc hn ha
  refine Ev.succ ?_
  simp only [spec_DarkPlaces.l0, show ¬ ((n : Int) ≤ (m : Int)) by omega, if_false, fltL, List.append_nil]
  exact Ev.now _
 | succ d ih =>
  intro n acc hn ha
  refine Ev.succ ?_
  simp only [spec_DarkPlaces.l0, show ((n : Int) ≤ (m : Int)) by omega, if_true]
  refine dk_spec_l1 hp zU4_6 _ acc zU4_6 _ l.length 0 false zU4_6 ?_
  unfold fltL
  have e := ih (n + 1) (if dkAt L l n = true then acc ++ [(n : Int)] else acc) zU4_6 zU4_0
  rw [Bool.false_or]
  refine ev_eq e ?_
  by_cases c : dkAt L l n = true
  ·rw [if_pos c, if_pos c, List.append_assoc]; rfl
  ·rw [if_neg c, if_neg c]
theorem spec_DarkPlaces.ev (L : Int) {l : List S39} (hl : l.length ≤ 4611686018427387904) (m : Int) : Ev (fun k => spec_DarkPlaces.f k L l m) (mDark L l m) := by
 unfold spec_DarkPlaces.f mDark
 refine Ev.bind (spec_swGood.ev L hl) ?_
 cases hp : mPoles L l with
 | false =>
  simp only [Bool.false_eq_true, if_false, Bool.false_and]
  refine Ev.succ ?_
  simp only [spec_DarkPlaces.j0, if_true]
  exact Ev.now _
 | true =>
  simp only [if_true, Bool.true_and]
  refine Ev.bindc (spec_l1In.eq m 0 500) ?_
  refine Ev.succ ?_
  cases hm : inr 0 500 m with
  | false => simp only [spec_DarkPlaces.j0, Bool.not_false, if_true, Bool.false_eq_true, if_false]; exact Ev.now _
  | true =>
   have h := inr_iff.1 hm
   simp only [spec_DarkPlaces.j0, Bool.not_true, Bool.false_eq_true, if_false, if_true]
   have e := dk_spec_l0 hp m.toNat zU4_6 (m.toNat + 1) 0 [] zU4_6 zU4_7
   rw [show ((m.toNat : Nat) : Int) = m by omega] at e
   exact e
def sA (l : List S39) (i : Nat) : Int := pX l i * pH l i
def sC (L : Int) (l : List S39) (i : Nat) : Int := L - pH l i
def bLong (L : Int) (l : List S39) : Nat := bestF (crL (sA l) (sC L l)) l.length 0 0
def bFar (L : Int) (l : List S39) : Nat := bestF (crL (pX l) (sC L l)) l.length 0 0
theorem bs_bd {L : Int} {l : List S39} (hp : mPoles L l = true) {i j : Nat} (hi : i < l.length) (hj : j < l.length) : (0 < sC L l i ∧ sC L l i ≤ 200) ∧ (0 ≤ sA l j ∧ sA l j ≤ 100000) ∧ (0 ≤ sA l j * sC L l i ∧ sA l j * sC L l i ≤ 20000000) ∧ (0 ≤ pX l j * sC L l i ∧ pX l j * sC L l i ≤ 100000) := by
 have a := okP_iff.1 (mPoles_ok hp hi)
 have b := okP_iff.1 (mPoles_ok hp hj)
 have c := (okP_bd (mPoles_ok hp hj)).1
 have hc : sC L l i = L - pH l i := rfl
 have ha : sA l j = pX l j * pH l j := rfl
 refine ⟨by omega, by omega, mul_bd (A := 100000) (B := 200) zU4_6 zU4_6 zU4_6 zU4_6, mul_bd (A := 500) (B := 200) zU4_6 zU4_6 zU4_6 zU4_6⟩
theorem lg_impl {L : Int} {l : List S39} (hp : mPoles L l = true) (d : Nat) : ∀ i b : Nat, i + d = l.length → b < l.length → Ev (fun k => impl_LongestShadow.l0 k L l (b : Int) l (l.length : Int) (i : Int)) ((bestF (crL (sA l) (sC L l)) d i b : Nat), true) := by
 have hlen := (mPoles_el hp).2.1
 induction d with
 | zero =>
  intro i b hi hb
  refine Ev.succ ?_
  simp only [impl_LongestShadow.l0, show ¬ ((i : Int) < (l.length : Int)) by omega, if_false, bestF]
  exact Ev.now _
 | succ d ih =>
  intro i b hi hb
  have hlt : i < l.length := by omega
  have x1 := bs_bd hp hlt hb
  have x2 := bs_bd hp hb hlt
  have e0 : (rd_T39 l (i : Int)).f0 * (rd_T39 l (i : Int)).f1 = sA l i := rfl
  have e1 : L - (rd_T39 l (i : Int)).f1 = sC L l i := rfl
  have e2 : (rd_T39 l (b : Int)).f0 * (rd_T39 l (b : Int)).f1 = sA l b := rfl
  have e3 : L - (rd_T39 l (b : Int)).f1 = sC L l b := rfl
  refine Ev.succ ?_
  simp only [impl_LongestShadow.l0, show ((i : Int) < (l.length : Int)) by omega, show (0 : Int) ≤ (i : Int) by omega, show ((b : Int) < (l.length : Int)) by omega, show (0 : Int) ≤ (b : Int) by omega, if_true, e0, e1, e2, e3, wid (show -9223372036854775808 ≤ sA l i by omega) zU4_6, wid (show -9223372036854775808 ≤ sA l b by omega) zU4_6, wid (show -9223372036854775808 ≤ sC L l i by omega) zU4_6, wid (show -9223372036854775808 ≤ sC L l b by omega) zU4_6, wid (show -9223372036854775808 ≤ sA l i * sC L l b by omega) zU4_6, wid (show -9223372036854775808 ≤ sA l b * sC L l i by omega) zU4_6, wid (show -9223372036854775808 ≤ (i : Int) + 1 by omega) zU4_6]
  unfold bestF
  by_cases c : sA l b * sC L l i < sA l i * sC L l b
  ·rw [if_pos (show crL (sA l) (sC L l) b i = true from decide_eq_true c)]
   simp only [show sA l i * sC L l b > sA l b * sC L l i from c, if_true]
   exact ih (i + 1) i zU4_6 hlt
  ·rw [if_neg (show ¬ (crL (sA l) (sC L l) b i = true) from fun q => c (of_decide_eq_true q))]
   simp only [show ¬ (sA l i * sC L l b > sA l b * sC L l i) from c, if_false]
   exact ih (i + 1) b zU4_6 hb
theorem lg_spec {L : Int} {l : List S39} (hp : mPoles L l = true) (d : Nat) : ∀ i b : Nat, i + d = l.length → b < l.length → Ev (fun k => spec_LongestShadow.l0 k L l (b : Int) l (l.length : Int) (i : Int)) ((bestF (crL (sA l) (sC L l)) d i b : Nat), true) := by
 have hlen := (mPoles_el hp).2.1
 induction d with
 | zero =>
  intro i b hi hb
  refine Ev.succ ?_
  simp only [spec_LongestShadow.l0, show ¬ ((i : Int) < (l.length : Int)) by omega, if_false, bestF]
  exact Ev.now _
 | succ d ih =>
  intro i b hi hb
  have hlt : i < l.length := by omega
  have x1 := bs_bd hp hlt hb
  have x2 := bs_bd hp hb hlt
  have e0 : (rd_T39 l (i : Int)).f0 * (rd_T39 l (i : Int)).f1 = sA l i := rfl
  have e1 : L - (rd_T39 l (i : Int)).f1 = sC L l i := rfl
  have e2 : (rd_T39 l (b : Int)).f0 * (rd_T39 l (b : Int)).f1 = sA l b := rfl
  have e3 : L - (rd_T39 l (b : Int)).f1 = sC L l b := rfl
  refine Ev.succ ?_
  simp only [spec_LongestShadow.l0, show ((i : Int) < (l.length : Int)) by omega, show (0 : Int) ≤ (i : Int) by omega, show ((b : Int) < (l.length : Int)) by omega, show (0 : Int) ≤ (b : Int) by omega, if_true, e0, e1, e2, e3, wid (show -9223372036854775808 ≤ sA l i by omega) zU4_6, wid (show -9223372036854775808 ≤ sA l b by omega) zU4_6, wid (show -9223372036854775808 ≤ sC L l i by omega) zU4_6, wid (show -9223372036854775808 ≤ sC L l b by omega) zU4_6, wid (show -9223372036854775808 ≤ sA l i * sC L l b by omega) zU4_6, wid (show -9223372036854775808 ≤ sA l b * sC L l i by omega) zU4_6, wid (show -9223372036854775808 ≤ (i : Int) + 1 by omega) zU4_6]
  unfold bestF
  by_cases c : sA l b * sC L l i < sA l i * sC L l b
  ·rw [if_pos (show crL (sA l) (sC L l) b i = true from decide_eq_true c)]
   simp only [show sA l i * sC L l b > sA l b * sC L l i from c, if_true]
   exact ih (i + 1) i zU4_6 hlt
  ·rw [if_neg (show ¬ (crL (sA l) (sC L l) b i = true) from fun q => c (of_decide_eq_true q))]
   simp only [show ¬ (sA l i * sC L l b > sA l b * sC L l i) from c, if_false]
   exact ih (i + 1) b zU4_6 hb
def mLong (L : Int) (l : List S39) : Int × Bool := if mPoles L l = true then ((bLong L l : Nat), true) else (0, false)
def mFar (L : Int) (l : List S39) : Int × Int × Bool := if mPoles L l = true then dSE L (pX l (bFar L l)) (pH l (bFar L l)) else (0, 0, false)
theorem impl_LongestShadow.ev (L : Int) {l : List S39} (hl : l.length ≤ 4611686018427387904) : Ev (fun k => impl_LongestShadow.f k L l) (mLong L l) := by
 unfold impl_LongestShadow.f mLong
 refine Ev.bind (impl_ArePoles.ev L hl) ?_
 cases hp : mPoles L l with
 | false => simp only [Bool.false_eq_true, if_false]; exact Ev.now _
 | true =>
  simp only [if_true]
  exact lg_impl hp l.length 0 0 zU4_6 zU4_4
theorem spec_LongestShadow.ev (L : Int) {l : List S39} (hl : l.length ≤ 4611686018427387904) : Ev (fun k => spec_LongestShadow.f k L l) (mLong L l) := by
 unfold spec_LongestShadow.f mLong
 refine Ev.bind (spec_swGood.ev L hl) ?_
 cases hp : mPoles L l with
 | false => simp only [Bool.false_eq_true, if_false]; exact Ev.now _
 | true =>
  simp only [if_true]
  exact lg_spec hp l.length 0 0 zU4_6 zU4_4
theorem fr_impl_l {L : Int} {l : List S39} (hp : mPoles L l = true) (d : Nat) : ∀ i b : Nat, i + d = l.length → b < l.length → Ev (fun k => impl_FarthestDark.l0 k L l (l.length : Int) (i : Int) (pX l b) (pH l b)) (dSE L (pX l (bestF (crL (pX l) (sC L l)) d i b)) (pH l (bestF (crL (pX l) (sC L l)) d i b))) := by
 have hlen := (mPoles_el hp).2.1
 induction d with
 | zero =>
  intro i b hi hb
  refine Ev.succ ?_
  simp only [impl_FarthestDark.l0, show ¬ ((i : Int) < (l.length : Int)) by omega, if_false, bestF]
  exact Ev.bind (impl_ShadowEnd.ev2 _ _ _) (Ev.now _)
 | succ d ih =>
  intro i b hi hb
  have hlt : i < l.length := by omega
  have x1 := bs_bd hp hlt hb
  have x2 := bs_bd hp hb hlt
  have e0 : (rd_T39 l (i : Int)).f0 = pX l i := rfl
  have e1 : (rd_T39 l (i : Int)).f1 = pH l i := rfl
  have e2 : L - pH l i = sC L l i := rfl
  have e3 : L - pH l b = sC L l b := rfl
  refine Ev.succ ?_
  simp only [impl_FarthestDark.l0, show ((i : Int) < (l.length : Int)) by omega, show (0 : Int) ≤ (i : Int) by omega, if_true, e0, e1, e2, e3, wid (show -9223372036854775808 ≤ sC L l i by omega) zU4_6, wid (show -9223372036854775808 ≤ sC L l b by omega) zU4_6, wid (show -9223372036854775808 ≤ pX l i * sC L l b by omega) zU4_6, wid (show -9223372036854775808 ≤ pX l b * sC L l i by omega) zU4_6, wid (show -9223372036854775808 ≤ (i : Int) + 1 by omega) zU4_6]
  unfold bestF
  by_cases c : pX l b * sC L l i < pX l i * sC L l b
  ·rw [if_pos (show crL (pX l) (sC L l) b i = true from decide_eq_true c)]
   simp only [show pX l i * sC L l b > pX l b * sC L l i from c, if_true]
   exact ih (i + 1) i zU4_6 hlt
  ·rw [if_neg (show ¬ (crL (pX l) (sC L l) b i = true) from fun q => c (of_decide_eq_true q))]
   simp only [show ¬ (pX l i * sC L l b > pX l b * sC L l i) from c, if_false]
   exact ih (i + 1) b zU4_6 hb
theorem fr_spec_l {L : Int} {l : List S39} (hp : mPoles L l = true) (d : Nat) : ∀ i b : Nat, i + d = l.length → b < l.length → Ev (fun k => spec_FarthestDark.l0 k L l (b : Int) l (l.length : Int) (i : Int)) (dSE L (pX l (bestF (crL (pX l) (sC L l)) d i b)) (pH l (bestF (crL (pX l) (sC L l)) d i b))) := by
 have hlen := (mPoles_el hp).2.1
 induction d with
 | zero =>
  intro i b hi hb
  have e2 : (rd_T39 l (b : Int)).f0 = pX l b := rfl
  have e3 : (rd_T39 l (b : Int)).f1 = pH l b := rfl
  refine Ev.succ ?_
  simp only [spec_FarthestDark.l0, show ¬ ((i : Int) < (l.length : Int)) by omega, show ((b : Int) < (l.length : Int)) by omega, show (0 : Int) ≤ (b : Int) by omega, if_false, if_true, bestF, e2, e3]
  exact Ev.bind (spec_ShadowEnd.ev2 _ _ _) (Ev.now _)
 | succ d ih =>
  intro i b hi hb
  have hlt : i < l.length := by omega
  have x1 := bs_bd hp hlt hb
  have x2 := bs_bd hp hb hlt
  have e0 : (rd_T39 l (i : Int)).f0 = pX l i := rfl
  have e1 : L - (rd_T39 l (i : Int)).f1 = sC L l i := rfl
  have e2 : (rd_T39 l (b : Int)).f0 = pX l b := rfl
  have e3 : L - (rd_T39 l (b : Int)).f1 = sC L l b := rfl
  refine Ev.succ ?_
  simp only [spec_FarthestDark.l0, show ((i : Int) < (l.length : Int)) by omega, show (0 : Int) ≤ (i : Int) by omega, show ((b : Int) < (l.length : Int)) by omega, show (0 : Int) ≤ (b : Int) by omega, if_true, e0, e1, e2, e3, wid (show -9223372036854775808 ≤ sC L l i by omega) zU4_6, wid (show -9223372036854775808 ≤ sC L l b by omega) zU4_6, wid (show -9223372036854775808 ≤ pX l i * sC L l b by omega) zU4_6, wid (show -9223372036854775808 ≤ pX l b * sC L l i by omega) zU4_6, wid (show -9223372036854775808 ≤ (i : Int) + 1 by omega) zU4_6]
  unfold bestF
  by_cases c : pX l b * sC L l i < pX l i * sC L l b
  ·rw [if_pos (show crL (pX l) (sC L l) b i = true from decide_eq_true c)]
   simp only [show pX l i * sC L l b > pX l b * sC L l i from c, if_true]
   exact ih (i + 1) i zU4_6 hlt
  ·rw [if_neg (show ¬ (crL (pX l) (sC L l) b i = true) from fun q => c (of_decide_eq_true q))]
   simp only [show ¬ (pX l i * sC L l b > pX l b * sC L l i) from c, if_false]
   exact ih (i + 1) b zU4_6 hb
theorem impl_FarthestDark.ev (L : Int) {l : List S39} (hl : l.length ≤ 4611686018427387904) : Ev (fun k => impl_FarthestDark.f k L l) (mFar L l) := by
 unfold impl_FarthestDark.f mFar
 refine Ev.bind (impl_ArePoles.ev L hl) ?_
 cases hp : mPoles L l with
 | false => simp only [Bool.false_eq_true, if_false]; exact Ev.now _
 | true =>
  have h := (mPoles_el hp).2.1
  simp only [if_true, show (0 : Int) < (l.length : Int) by omega]
  exact fr_impl_l hp l.length 0 0 zU4_6 zU4_6
theorem spec_FarthestDark.ev (L : Int) {l : List S39} (hl : l.length ≤ 4611686018427387904) : Ev (fun k => spec_FarthestDark.f k L l) (mFar L l) := by
 unfold spec_FarthestDark.f mFar
 refine Ev.bind (spec_swGood.ev L hl) ?_
 cases hp : mPoles L l with
 | false => simp only [Bool.false_eq_true, if_false]; exact Ev.now _
 | true =>
  simp only [if_true]
  exact fr_spec_l hp l.length 0 0 zU4_6 zU4_4
theorem lo_le {x y u v : Int} (hy : 0 < y) (hv : 0 < v) : loA x y * loB u v ≤ loA u v * loB x y ↔ x * v ≤ u * y := by
 have g := gcd_pos (a := x) hy
 have h := gcd_pos (a := u) hv
 have e1 : x * v = (loA x y * loB u v) * ((Int.gcd x y : Int) * (Int.gcd u v : Int)) := by
  conv => lhs; rw [← lo_mulA (a := x) (b := y), ← lo_mulB (a := u) (b := v)]
  grind
 have e2 : u * y = (loA u v * loB x y) * ((Int.gcd x y : Int) * (Int.gcd u v : Int)) := by
  conv => lhs; rw [← lo_mulA (a := u) (b := v), ← lo_mulB (a := x) (b := y)]
  grind
 rw [e1, e2]
 have p := Int.mul_pos g h
 constructor
 ·intro q; exact Int.mul_le_mul_of_nonneg_right q zU4_6
 ·intro q; exact Int.le_of_mul_le_mul_right q p
theorem lo_eq2 {x y u v : Int} (hy : 0 < y) (hv : 0 < v) : loA x y * loB u v = loA u v * loB x y ↔ x * v = u * y := by
 have a := lo_le (x := x) (u := u) hy hv
 have b := lo_le (x := u) (u := x) hv hy
 constructor
 ·intro h; have := a.1 zU4_6; have := b.1 zU4_6; omega
 ·intro h; have := a.2 zU4_6; have := b.2 zU4_6; omega
theorem lo_one {n : Int} : loA n 1 = n ∧ loB n 1 = 1 := by
 unfold loA loB
 rw [Int.gcd_one_right]
 exact ⟨by simp, by simp⟩
theorem lo_at {n x y : Int} (hy : 0 < y) : n * loB x y ≤ loA x y ↔ n * y ≤ x := by
 have h := lo_le (x := n) (y := 1) (u := x) (v := y) zU4_6 hy
 rw [lo_one.1, lo_one.2, Int.mul_one, Int.mul_one] at h
 exact h
theorem lo_den1 {x y : Int} (hy : 0 < y) (h : Int.tmod x y = 0) (hx : 0 ≤ x) : loA x y = Int.tdiv x y ∧ loB x y = 1 := by
 have hd : y ∣ x := Int.dvd_of_tmod_eq_zero h
 have hg : (Int.gcd x y : Int) = y := by
  rw [Int.gcd_comm]
  have := Int.gcd_eq_left (a := y) (b := x) zU4_6 hd
  exact this
 unfold loA loB
 rw [hg]
 exact ⟨(Int.tdiv_eq_ediv_of_nonneg hx).symm, Int.ediv_self zU4_6⟩
theorem lo_den1_iff {x y : Int} (hx : 0 ≤ x) (hy : 0 < y) : loB x y = 1 ↔ Int.tmod x y = 0 := by
 constructor
 ·intro h
  have e1 := lo_mulA (a := x) (b := y)
  have e2 := lo_mulB (a := x) (b := y)
  rw [h, Int.one_mul] at e2
  rw [e2] at e1
  rw [← e1]
  exact Int.mul_tmod_left _ _
 ·intro h; exact (lo_den1 hy h hx).2
def hdT (L p h q g : Int) : Bool := decide (p < q) && decide (g * p ≤ L * p - (L - h) * q)
theorem hd_bd {L p h q g : Int} (h1 : okP L p h = true) (h2 : okP L q g = true) : (0 ≤ g * p ∧ g * p ≤ 100000) ∧ (0 ≤ L * p ∧ L * p ≤ 100000) ∧ (0 ≤ (L - h) * q ∧ (L - h) * q ≤ 100000) ∧ 0 < g * p := by
 have a := okP_iff.1 h1
 have b := okP_iff.1 h2
 exact ⟨mul_bd (A := 200) (B := 500) zU4_6 zU4_6 zU4_6 zU4_6, mul_bd (A := 200) (B := 500) zU4_6 zU4_6 zU4_6 zU4_6, mul_bd (A := 200) (B := 500) zU4_6 zU4_6 zU4_6 zU4_6, Int.mul_pos zU4_6 zU4_6⟩
theorem impl_isHidden.eq {L p h q g : Int} (h1 : okP L p h = true) (h2 : okP L q g = true) : impl_isHidden.f L p h q g = some (hdT L p h q g) := by
 obtain ⟨b1, b2, b3, b4⟩ := hd_bd h1 h2
 have a := okP_iff.1 h1
 unfold impl_isHidden.f hdT
 rw [wid (show -9223372036854775808 ≤ g * p by omega) zU4_6, wid (show -9223372036854775808 ≤ L * p by omega) zU4_6, wid (show -9223372036854775808 ≤ L - h by omega) zU4_6, wid (show -9223372036854775808 ≤ (L - h) * q by omega) zU4_6, wid (show -9223372036854775808 ≤ L * p - (L - h) * q by omega) zU4_6]
 by_cases c : q > p
 ·rw [if_pos c, decide_eq_true (show p < q from c), Bool.true_and]
 ·rw [if_neg c, decide_eq_false (show ¬ p < q from c), Bool.false_and]
theorem spec_swHides.ev {L p h q g : Int} (h1 : okP L p h = true) (h2 : okP L q g = true) : Ev (fun k => spec_swHides.f k L p h q g) (hdT L p h q g) := by
 obtain ⟨b1, b2, b3, b4⟩ := hd_bd h1 h2
 have a := okP_iff.1 h1
 have b := okP_iff.1 h2
 unfold spec_swHides.f spec_swHeight.f hdT
 rw [wid (show -9223372036854775808 ≤ L * p by omega) zU4_6, wid (show -9223372036854775808 ≤ L - h by omega) zU4_6, wid (show -9223372036854775808 ≤ (L - h) * q by omega) zU4_6, wid (show -9223372036854775808 ≤ L * p - (L - h) * q by omega) zU4_6]
 generalize hN : L * p - (L - h) * q = N at *
 by_cases c : N ≤ 0
 ·simp only [if_pos c, Option.bind_some]
  rw [decide_eq_false (show ¬ (g * p ≤ N) by omega), Bool.and_false]
  have e : wrap64 (g * 1) = g := by rw [Int.mul_one]; exact wid zU4_6 zU4_6
  by_cases c2 : q > p
  ·simp only [if_pos c2, e, decide_eq_false (show ¬ (g ≤ 0) by omega)]
   exact Ev.now _
  ·simp only [if_neg c2]
   exact Ev.now _
 ·simp only [if_neg c]
  refine Ev.bind (Ev.bind (spec_clLow.ev (x := N) (y := p) zU4_6 zU4_6 zU4_6 zU4_6) (Ev.now _)) ?_
  have y0 := loB_pos (a := N) (b := p) zU4_6
  have x0 := loA_nonneg (a := N) (b := p) zU4_6 zU4_6
  have hl := lo_at (n := g) (x := N) (y := p) zU4_6
  have b5 := mul_bd (a := g) (b := loB N p) (A := 200) (B := 500) zU4_6 zU4_6 zU4_6 zU4_6
  by_cases c2 : q > p
  ·simp only [if_pos c2, wid (show -9223372036854775808 ≤ g * loB N p by omega) zU4_6, decide_eq_true (show p < q from c2), Bool.true_and]
   rw [show decide (g * loB N p ≤ loA N p) = decide (g * p ≤ N) from decide_eq_decide.2 hl]
   exact Ev.now _
  ·simp only [if_neg c2, decide_eq_false (show ¬ p < q from c2), Bool.false_and]
   exact Ev.now _
def mIsHid (L p h q g : Int) : Bool × Bool := if (okP L p h && okP L q g) = true then (hdT L p h q g, true) else (false, false)
theorem impl_IsHidden.eq (L p h q g : Int) : impl_IsHidden.f L p h q g = some (mIsHid L p h q g) := by
 unfold impl_IsHidden.f mIsHid
 rw [impl_isPoleOf.eq, impl_isPoleOf.eq]
 cases h1 : okP L p h with
 | false => rfl
 | true =>
  cases h2 : okP L q g with
  | false => rfl
  | true => simp only [Option.bind_some, if_true, Bool.and_self, impl_isHidden.eq h1 h2]
theorem spec_IsHidden.ev (L p h q g : Int) : Ev (fun k => spec_IsHidden.f k L p h q g) (mIsHid L p h q g) := by
 unfold spec_IsHidden.f mIsHid
 refine Ev.bindc (spec_swBoth.eq2 L p h) ?_
 cases h1 : okP L p h with
 | false => exact Ev.now _
 | true =>
  simp only [if_true, Bool.true_and]
  refine Ev.bindc (spec_swBoth.eq2 L q g) ?_
  cases h2 : okP L q g with
  | false => exact Ev.now _
  | true =>
   simp only [if_true]
   exact Ev.bind (spec_swHides.ev h1 h2) (Ev.now _)
def hdJ (L : Int) (l : List S39) (i j : Nat) : Bool := hdT L (pX l j) (pH l j) (pX l i) (pH l i)
def hdA (L : Int) (l : List S39) (i : Nat) : Bool := anyF (hdJ L l i) i 0
def mHid (L : Int) (l : List S39) : List Int × Bool := if mPoles L l = true then (fltL (hdA L l) l.length 0, true) else ([], false)
theorem rd_takeP {l : List S39} {i j : Nat} (h : j < i) (hi : i ≤ l.length) : rd_T39 (l.take i) (j : Int) = rd_T39 l (j : Int) := by
 have hj : j < (l.take i).length := by rw [List.length_take]; omega
 rw [rdPole hj, rdPole (show j < l.length by omega), List.getElem_take]
theorem hd_impl_l1 {L : Int} {l : List S39} (hp : mPoles L l = true) {i : Nat} (hi : i < l.length) (acc : List Int) (ha : acc.length ≤ 1000) (r : List Int × Bool) (d : Nat) : ∀ j : Nat, j + d = i → Ev (fun k => impl_HiddenPoles.l0 k L l (if anyF (hdJ L l i) d j = true then acc ++ [(i : Int)] else acc) l (l.length : Int) ((i + 1 : Nat) : Int)) r → Ev (fun k => impl_HiddenPoles.l1 k L l acc (i : Int) l (l.length : Int) (i : Int) (l.take i) (i : Int) (j : Int) (pX l i) (pH l i)) r := by
 have hlen := (mPoles_el hp).2.1
 have hw : wrap64 ((i : Int) + 1) = ((i + 1 : Nat) : Int) := by rw [wid zU4_6 zU4_6]; rfl
 have ht : ((l.take i).length : Int) = (i : Int) := by rw [List.length_take]; omega
 induction d with
 | zero =>
  intro j hj h
  refine Ev.succ ?_
  simp only [impl_HiddenPoles.l1, show ¬ ((j : Int) < (i : Int)) by omega, if_false, hw]
  exact h
 | succ d ih =>
  intro j hj h
  have hlt : j < i := by omega
  have e0 : (rd_T39 l (j : Int)).f0 = pX l j := rfl
  have e1 : (rd_T39 l (j : Int)).f1 = pH l j := rfl
  have hb := impl_isHidden.eq (mPoles_ok hp (show j < l.length by omega)) (mPoles_ok hp hi)
  refine Ev.succ ?_
  simp only [impl_HiddenPoles.l1, ht, show ((j : Int) < (i : Int)) by omega, show (0 : Int) ≤ (j : Int) by omega, if_true, rd_takeP hlt (Nat.le_of_lt hi), e0, e1, hb, Option.bind_some, wid (show -9223372036854775808 ≤ (j : Int) + 1 by omega) zU4_6, hw, show acc.length < 17592186044416 by omega]
  unfold anyF at h
  have e2 : hdJ L l i j = hdT L (pX l j) (pH l j) (pX l i) (pH l i) := rfl
  rw [e2] at h
  cases c : hdT L (pX l j) (pH l j) (pX l i) (pH l i) with
  | true =>
   rw [c, Bool.true_or, if_pos rfl] at h
   simp only [if_true]
   exact h
  | false =>
   rw [c, Bool.false_or] at h
   simp only [Bool.false_eq_true, if_false]
   exact ih (j + 1) zU4_6 h
theorem hd_impl_l0 {L : Int} {l : List S39} (hp : mPoles L l = true) (d : Nat) : ∀ (i : Nat) (acc : List Int), i + d = l.length → acc.length ≤ i → Ev (fun k => impl_HiddenPoles.l0 k L l acc l (l.length : Int) (i : Int)) (acc ++ fltL (hdA L l) d i, true) := by
 have hlen := (mPoles_el hp).2.1
 induction d with
 | zero =>
  intro i acc hn ha
  refine Ev.succ ?_
  simp only [impl_HiddenPoles.l0, show ¬ ((i : Int) < (l.length : Int)) by omega, if_false, fltL, List.append_nil]
  exact Ev.now _
 | succ d ih =>
  intro i acc hn ha
  have hlt : i < l.length := by omega
  have e0 : (rd_T39 l (i : Int)).f0 = pX l i := rfl
  have e1 : (rd_T39 l (i : Int)).f1 = pH l i := rfl
  have ht : ((l.take i).length : Int) = (i : Int) := by rw [List.length_take]; omega
  refine Ev.succ ?_
  simp only [impl_HiddenPoles.l0, show ((i : Int) < (l.length : Int)) by omega, show (0 : Int) ≤ (i : Int) by omega, show ((i : Int) ≤ (l.length : Int)) by omega, if_true, Option.bind_some, Int.toNat_natCast, e0, e1, ht]
  refine hd_impl_l1 hp hlt acc zU4_6 _ i 0 zU4_6 ?_
  unfold fltL
  have e := ih (i + 1) (if hdA L l i = true then acc ++ [(i : Int)] else acc) zU4_6 zU4_0
  refine ev_eq e ?_
  by_cases c : hdA L l i = true
  ·rw [if_pos c, if_pos c, List.append_assoc]; rfl
  ·rw [if_neg c, if_neg c]
theorem impl_HiddenPoles.ev (L : Int) {l : List S39} (hl : l.length ≤ 4611686018427387904) : Ev (fun k => impl_HiddenPoles.f k L l) (mHid L l) := by
 unfold impl_HiddenPoles.f mHid
 refine Ev.bind (impl_ArePoles.ev L hl) ?_
 cases hp : mPoles L l with
 | false => simp only [Bool.false_eq_true, if_false]; exact Ev.now _
 | true =>
  simp only [if_true]
  exact hd_impl_l0 hp l.length 0 [] zU4_6 zU4_7
theorem hd_spec_l1 {L : Int} {l : List S39} (hp : mPoles L l = true) {i : Nat} (hi : i < l.length) (acc : List Int) (ha : acc.length ≤ 1000) (r : List Int × Bool) (d : Nat) : ∀ (j : Nat) (b : Bool), j + d = i → Ev (fun k => spec_HiddenPoles.l0 k L l (if (b || anyF (hdJ L l i) d j) = true then acc ++ [(i : Int)] else acc) l (l.length : Int) ((i + 1 : Nat) : Int)) r → Ev (fun k => spec_HiddenPoles.l1 k L l acc (i : Int) b l (l.length : Int) (i : Int) (l.take i) (i : Int) (j : Int) (pX l i) (pH l i)) r := by
 have hlen := (mPoles_el hp).2.1
 have hw : wrap64 ((i : Int) + 1) = ((i + 1 : Nat) : Int) := by rw [wid zU4_6 zU4_6]; rfl
 have ht : ((l.take i).length : Int) = (i : Int) := by rw [List.length_take]; omega
 induction d with
 | zero =>
  intro j b hj h
  refine Ev.succ ?_
  simp only [spec_HiddenPoles.l1, show ¬ ((j : Int) < (i : Int)) by omega, if_false, hw]
  unfold anyF at h
  rw [Bool.or_false] at h
  cases b with
  | true => simp only [if_true, show acc.length < 17592186044416 by omega] at h ⊢; exact h
  | false => simp only [Bool.false_eq_true, if_false] at h ⊢; exact h
 | succ d ih =>
  intro j b hj h
  have hlt : j < i := by omega
  have e0 : (rd_T39 l (j : Int)).f0 = pX l j := rfl
  have e1 : (rd_T39 l (j : Int)).f1 = pH l j := rfl
  refine Ev.succ ?_
  simp only [spec_HiddenPoles.l1, ht, show ((j : Int) < (i : Int)) by omega, show (0 : Int) ≤ (j : Int) by omega, if_true, rd_takeP hlt (Nat.le_of_lt hi), e0, e1, wid (show -9223372036854775808 ≤ (j : Int) + 1 by omega) zU4_6]
  unfold anyF at h
  cases b with
  | true =>
   simp only [if_true]
   refine ih (j + 1) true zU4_6 ?_
   simp only [Bool.true_or] at h ⊢
   exact h
  | false =>
   simp only [Bool.false_eq_true, if_false]
   rw [Bool.false_or] at h
   refine Ev.bind (spec_swHides.ev (mPoles_ok hp (show j < l.length by omega)) (mPoles_ok hp hi)) ?_
   exact ih (j + 1) _ zU4_6 h
theorem hd_spec_l0 {L : Int} {l : List S39} (hp : mPoles L l = true) (d : Nat) : ∀ (i : Nat) (acc : List Int), i + d = l.length → acc.length ≤ i → Ev (fun k => spec_HiddenPoles.l0 k L l acc l (l.length : Int) (i : Int)) (acc ++ fltL (hdA L l) d i, true) := by
 have hlen := (mPoles_el hp).2.1
 induction d with
 | zero =>
  intro i acc hn ha
  refine Ev.succ ?_
  simp only [spec_HiddenPoles.l0, show ¬ ((i : Int) < (l.length : Int)) by omega, if_false, fltL, List.append_nil]
  exact Ev.now _
 | succ d ih =>
  intro i acc hn ha
  have hlt : i < l.length := by omega
  have e0 : (rd_T39 l (i : Int)).f0 = pX l i := rfl
  have e1 : (rd_T39 l (i : Int)).f1 = pH l i := rfl
  have ht : ((l.take i).length : Int) = (i : Int) := by rw [List.length_take]; omega
  refine Ev.succ ?_
  simp only [spec_HiddenPoles.l0, show ((i : Int) < (l.length : Int)) by omega, show (0 : Int) ≤ (i : Int) by omega, show ((i : Int) ≤ (l.length : Int)) by omega, if_true, Option.bind_some, Int.toNat_natCast, e0, e1, ht]
  refine hd_spec_l1 hp hlt acc zU4_6 _ i 0 false zU4_6 ?_
  unfold fltL
  have e := ih (i + 1) (if hdA L l i = true then acc ++ [(i : Int)] else acc) zU4_6 zU4_0
  rw [Bool.false_or]
  refine ev_eq e ?_
  by_cases c : hdA L l i = true
  ·rw [if_pos c, if_pos c, List.append_assoc]; rfl
  ·rw [if_neg c, if_neg c]
theorem spec_HiddenPoles.ev (L : Int) {l : List S39} (hl : l.length ≤ 4611686018427387904) : Ev (fun k => spec_HiddenPoles.f k L l) (mHid L l) := by
 unfold spec_HiddenPoles.f mHid
 refine Ev.bind (spec_swGood.ev L hl) ?_
 cases hp : mPoles L l with
 | false => simp only [Bool.false_eq_true, if_false]; exact Ev.now _
 | true =>
  simp only [if_true]
  exact hd_spec_l0 hp l.length 0 [] zU4_6 zU4_7
/-- A number's decimal text. -/
def txt (n : Nat) : ByteArray := ⟨(Lib.decDigits n).toArray⟩
theorem dec_step {n : Nat} (h : ¬ n < 10) : Lib.decDigits n = Lib.decDigits (n / 10) ++ [UInt8.ofNat (48 + n % 10)] := by rw [Lib.decDigits, dif_neg h]
theorem txt_size (n : Nat) : (txt n).size ≤ n + 1 := by
 have h : ∀ m : Nat, (Lib.decDigits m).length ≤ m + 1 := by
  intro m
  induction m using Nat.strongRecOn with
  | ind m ih =>
   by_cases c : m < 10
   ·rw [Lib.decDigits_one c]; simp
   ·rw [dec_step c, List.length_append]
    have := ih (m / 10) zU4_6
    simp only [List.length_cons, List.length_nil]
    omega
 have := h n
 simpa [txt, ByteArray.size] using this
theorem ba_ext {a b : ByteArray} (h : a.data.toList = b.data.toList) : a = b := by
 cases a; cases b
 simp only [ByteArray.mk.injEq] at *
 exact Array.ext' h
theorem ba_append (a b : ByteArray) : (a ++ b).data.toList = a.data.toList ++ b.data.toList := by simp
theorem ba_assoc (a b c : ByteArray) : (a ++ b) ++ c = a ++ (b ++ c) := ba_ext (by simp only [ba_append, List.append_assoc])
theorem txt_snoc {n : Nat} (h : ¬ n < 10) : txt n = txt (n / 10) ++ strOfNums [((48 + n % 10 : Nat) : Int)] := by
 refine ba_ext ?_
 rw [ba_append, strOfNums_data]
 show Lib.decDigits n = Lib.decDigits (n / 10) ++ [UInt8.ofNat (48 + n % 10)]
 exact dec_step h
theorem txt_one {n : Nat} (h : n < 10) : strOfNums [((48 + n : Nat) : Int)] = txt n := by
 refine ba_ext ?_
 rw [strOfNums_data]
 show [UInt8.ofNat (48 + n)] = Lib.decDigits n
 rw [Lib.decDigits_one h]
theorem spec_l1Num.ev (n : Nat) (hn : n ≤ 1000000) : Ev (fun k => spec_l1Num.f k (n : Int)) (txt n) := by
 induction n using Nat.strongRecOn with
 | ind n ih =>
  by_cases c : n < 10
  ·refine Ev.succ ?_
   simp only [spec_l1Num.f, show (n : Int) < 10 by omega, if_true]
   refine Ev.const ?_
   rw [wid (show -9223372036854775808 ≤ 48 + (n : Int) by omega) zU4_6, show (48 + (n : Int)) % 256 = ((48 + n : Nat) : Int) by omega, txt_one c]
  ·refine Ev.succ ?_
   have e1 : Int.tdiv (n : Int) 10 = ((n / 10 : Nat) : Int) := by rw [Int.tdiv_eq_ediv_of_nonneg zU4_6]; omega
   have e2 : Int.tmod (n : Int) 10 = ((n % 10 : Nat) : Int) := by rw [Int.tmod_eq_emod_of_nonneg zU4_6]; omega
   simp only [spec_l1Num.f, show ¬ ((n : Int) < 10) by omega, if_false, e1, e2]
   rw [wid (show -9223372036854775808 ≤ ((n / 10 : Nat) : Int) by omega) zU4_6, wid (show -9223372036854775808 ≤ 48 + ((n % 10 : Nat) : Int) by omega) zU4_6, show (48 + ((n % 10 : Nat) : Int)) % 256 = ((48 + n % 10 : Nat) : Int) by omega]
   refine Ev.bind (ih (n / 10) zU4_6 zU4_6) ?_
   have hs := txt_size (n / 10)
   simp only [Option.bind_some, strOfNums_size, List.length_cons, List.length_nil, show (txt (n / 10)).size + (0 + 1) ≤ 9223372036854775807 by omega, if_true]
   rw [← txt_snoc c]
   exact Ev.now _
theorem spec_l1Num.evi {n : Int} (h0 : 0 ≤ n) (h1 : n ≤ 1000000) : Ev (fun k => spec_l1Num.f k n) (txt n.toNat) := by
 have e := spec_l1Num.ev n.toNat zU4_6
 rw [show ((n.toNat : Nat) : Int) = n by omega] at e
 exact e
theorem impl_text.eq {n : Int} (h0 : 0 ≤ n) (h1 : n ≤ 1000000) : impl_text.f n = some (txt n.toNat) := by
 unfold impl_text.f strconv_Itoa_69.f
 rw [if_pos zU4_6]
 obtain ⟨m, rfl⟩ := Int.eq_ofNat_of_zero_le h0
 rw [show Lib.itoa (m : Int) = Lib.decDigits m by unfold Lib.itoa; rw [if_neg zU4_6]; simp]
 rfl
/-- A row of bytes, as a string. -/
def mkS (l : List UInt8) : ByteArray := ⟨l.toArray⟩
theorem mkS_data (l : List UInt8) : (mkS l).data.toList = l := rfl
theorem mkS_of (s : ByteArray) : mkS s.data.toList = s := ba_ext rfl
/-- A row at its first c. -/
def brk (c : UInt8) : List UInt8 → Option (List UInt8 × List UInt8)
 | [] => none
 | b :: l => if b = c then some ([], l) else (brk c l).map fun p => (b :: p.1, p.2)
theorem brk_some {c : UInt8} : ∀ {l x y : List UInt8}, brk c l = some (x, y) → l = x ++ c :: y ∧ c ∉ x
 | [], x, y, h => by simp [brk] at h
 | b :: l, x, y, h => by
  unfold brk at h
  by_cases e : b = c
  ·rw [if_pos e] at h
   simp only [Option.some.injEq, Prod.mk.injEq] at h
   obtain ⟨rfl, rfl⟩ := h
   exact ⟨by rw [e]; rfl, by simp⟩
  ·rw [if_neg e] at h
   cases hq : brk c l with
   | none => rw [hq] at h; simp at h
   | some p =>
    rw [hq] at h
    simp only [Option.map_some, Option.some.injEq, Prod.mk.injEq] at h
    obtain ⟨rfl, rfl⟩ := h
    obtain ⟨h1, h2⟩ := brk_some (x := p.1) (y := p.2) hq
    refine ⟨by rw [List.cons_append, ← h1], ?_⟩
    simp only [List.mem_cons, not_or]
    exact ⟨fun q => e q.symm, h2⟩
theorem brk_mk {c : UInt8} : ∀ {x y : List UInt8}, c ∉ x → brk c (x ++ c :: y) = some (x, y)
 | [], y, _ => by simp [brk]
 | b :: x, y, h => by
  simp only [List.mem_cons, not_or] at h
  rw [List.cons_append, brk, if_neg (fun q => h.1 q.symm), brk_mk h.2]
  rfl
theorem brk_none {c : UInt8} : ∀ {l : List UInt8}, brk c l = none ↔ c ∉ l
 | [] => by simp [brk]
 | b :: l => by
  unfold brk
  by_cases e : b = c
  ·rw [if_pos e]; simp [e]
  ·rw [if_neg e, Option.map_eq_none_iff, brk_none (l := l)]
   simp only [List.mem_cons, not_or]
   exact ⟨fun h => ⟨fun q => e q.symm, h⟩, fun h => h.2⟩
theorem index_brk (c : UInt8) : ∀ l : List UInt8, Lib.index l [c] = match brk c l with | some p => (p.1.length : Int) | none => -1
 | [] => rfl
 | b :: l => by
  unfold Lib.index brk
  by_cases e : b = c
  ·rw [if_pos e, if_pos (by simp [List.isPrefixOf, e])]; rfl
  ·rw [if_neg e, if_neg (by simp [List.isPrefixOf]; exact fun q => e q.symm), index_brk c l]
   cases brk c l with
   | none => rfl
   | some p =>
    simp only [Option.map_some]
    rw [if_neg zU4_7]
    show (p.1.length : Int) + 1 = (((b :: p.1).length : Nat) : Int)
    rw [List.length_cons]
    omega
theorem cut_brk (c : UInt8) (l : List UInt8) : Lib.cut l [c] = match brk c l with | some p => (p.1, p.2, true) | none => (l, [], false) := by
 unfold Lib.cut
 rw [index_brk]
 cases h : brk c l with
 | none => rfl
 | some p =>
  obtain ⟨e, _⟩ := brk_some (x := p.1) (y := p.2) h
  simp only
  rw [if_pos zU4_6, Int.toNat_natCast]
  simp only [Prod.mk.injEq, and_true, List.length_cons, List.length_nil]
  rw [e]
  constructor
  ·simp
  ·rw [List.drop_append, List.drop_eq_nil_of_le zU4_6, List.nil_append, show p.1.length + (0 + 1) - p.1.length = 1 by omega]
   rfl
/-- A row cut at each c. -/
def glue (p : List UInt8) : List (List UInt8) → List (List UInt8)
 | [] => [p]
 | x :: r => (p ++ x) :: r
def spl (c : UInt8) : List UInt8 → List (List UInt8)
 | [] => [[]]
 | b :: l => if b = c then [] :: spl c l else glue [b] (spl c l)
theorem glue_nil : ∀ {l : List (List UInt8)}, l ≠ [] → glue [] l = l
 | [], h => absurd rfl h
 | _ :: _, _ => rfl
theorem glue_glue (p q : List UInt8) : ∀ l : List (List UInt8), l ≠ [] → glue p (glue q l) = glue (p ++ q) l
 | [], h => absurd rfl h
 | x :: r, _ => by simp [glue]
theorem spl_ne (c : UInt8) : ∀ l : List UInt8, spl c l ≠ []
 | [] => by simp [spl]
 | b :: l => by
  unfold spl
  split
  ·simp
  ·cases spl c l <;> simp [glue]
theorem spl_brk (c : UInt8) : ∀ l : List UInt8, spl c l = match brk c l with | none => [l] | some p => p.1 :: spl c p.2
 | [] => rfl
 | b :: l => by
  by_cases e : b = c
  ·simp only [spl, brk, if_pos e]
  ·simp only [spl, brk, if_neg e]
   rw [spl_brk c l]
   rcases brk c l with _ | ⟨x, y⟩ <;> rfl
theorem spl_no {c : UInt8} {l : List UInt8} (h : c ∉ l) : spl c l = [l] := by rw [spl_brk, brk_none.2 h]
theorem spl_mk {c : UInt8} {x y : List UInt8} (h : c ∉ x) : spl c (x ++ c :: y) = x :: spl c y := by rw [spl_brk, brk_mk h]
theorem dec_digits (n : Nat) : ∀ b ∈ Lib.decDigits n, 48 ≤ b.toNat ∧ b.toNat ≤ 57 := by
 have hof : ∀ m : Nat, m < 10 → (UInt8.ofNat (48 + m)).toNat = 48 + m := fun m h => by simp [UInt8.toNat_ofNat']; omega
 induction n using Nat.strongRecOn with
 | ind n ih =>
  intro b hb
  by_cases c : n < 10
  ·rw [Lib.decDigits_one c, List.mem_singleton] at hb
   subst hb
   rw [hof n c]; omega
  ·rw [dec_step c, List.mem_append] at hb
   rcases hb with hb | hb
   ·exact ih (n / 10) zU4_6 b hb
   ·rw [List.mem_singleton] at hb
    subst hb
    rw [hof (n % 10) zU4_6]; omega
theorem dec_ne (n : Nat) : Lib.decDigits n ≠ [] := by
 by_cases c : n < 10
 ·rw [Lib.decDigits_one c]; simp
 ·rw [dec_step c]; simp
theorem dec_len (k : Nat) : ∀ n : Nat, n < 10 ^ (k + 1) → (Lib.decDigits n).length ≤ k + 1 := by
 induction k with
 | zero => intro n h; rw [Lib.decDigits_one (by simpa using h)]; simp
 | succ k ih =>
  intro n h
  by_cases c : n < 10
  ·rw [Lib.decDigits_one c]; simp
  ·rw [dec_step c, List.length_append]
   have := ih (n / 10) (by rw [Nat.pow_succ] at h; omega)
   simp only [List.length_cons, List.length_nil]
   omega
theorem dec_head (n : Nat) (h : 1 ≤ n) : ∃ b r, Lib.decDigits n = b :: r ∧ b.toNat ≠ 48 := by
 induction n using Nat.strongRecOn with
 | ind n ih =>
  by_cases c : n < 10
  ·refine ⟨_, [], Lib.decDigits_one c, ?_⟩
   simp [UInt8.toNat_ofNat']
   omega
  ·obtain ⟨b, r, e, hb⟩ := ih (n / 10) zU4_6 zU4_6
   exact ⟨b, r ++ [UInt8.ofNat (48 + n % 10)], by rw [dec_step c, e]; rfl, hb⟩
theorem digit_of (m : Nat) (h : m < 10) : Lib.digitVal (UInt8.ofNat (48 + m)) = some m := by
 have e : (UInt8.ofNat (48 + m)).toNat = 48 + m := by simp [UInt8.toNat_ofNat']; omega
 unfold Lib.digitVal
 rw [e, if_pos zU4_6]
 congr 1
 omega
theorem decFrom_snoc (l : List UInt8) (b : UInt8) : ∀ acc, Lib.decFrom acc (l ++ [b]) = (Lib.decFrom acc l).bind fun v => (Lib.digitVal b).map fun d => v * 10 + d := by
 induction l with
 | nil =>
  intro acc
  simp only [List.nil_append, Lib.decFrom, Option.bind_some]
  cases Lib.digitVal b <;> rfl
 | cons a t ih =>
  intro acc
  simp only [List.cons_append, Lib.decFrom]
  cases Lib.digitVal a with
  | none => rfl
  | some d => exact ih _
theorem decFrom_dec (n : Nat) : Lib.decFrom 0 (Lib.decDigits n) = some n := by
 induction n using Nat.strongRecOn with
 | ind n ih =>
  by_cases c : n < 10
  ·rw [Lib.decDigits_one c]
   simp only [Lib.decFrom, digit_of n c]
   congr 1
   omega
  ·rw [dec_step c, decFrom_snoc, ih (n / 10) zU4_6, Option.bind_some, digit_of (n % 10) zU4_6]
   simp only [Option.map_some, Option.some.injEq]
   omega
theorem digit_back {b : UInt8} {d : Nat} (h : Lib.digitVal b = some d) : b = UInt8.ofNat (48 + d) ∧ d < 10 := by
 obtain ⟨h1, h2, h3⟩ := Lib.digitVal_eq h
 refine ⟨?_, by omega⟩
 rw [show 48 + d = b.toNat by omega]
 exact (UInt8.ofNat_toNat).symm
/-- A row of digits without a nought ahead is the text of its number. -/
theorem dec_of_decFrom (k : Nat) : ∀ (l : List UInt8) (v : Nat), l.length = k + 1 → (k = 0 ∨ l.head? ≠ some 48) → Lib.decFrom 0 l = some v → Lib.decDigits v = l ∧ (l.head? ≠ some 48 → 1 ≤ v) := by
 induction k with
 | zero =>
  intro l v hl _ h
  match l, hl with
  | [b], _ =>
   simp only [Lib.decFrom] at h
   cases hd : Lib.digitVal b with
   | none => rw [hd] at h; simp at h
   | some d =>
    rw [hd] at h
    simp only [Option.some.injEq] at h
    obtain ⟨e, h10⟩ := digit_back hd
    have hv : v = d := by omega
    subst hv
    refine ⟨by rw [Lib.decDigits_one h10, e], fun hne => ?_⟩
    rcases Nat.eq_zero_or_pos v with z | z
    ·subst z
     rw [e] at hne
     exact absurd rfl hne
    ·exact z
 | succ k ih =>
  intro l v hl hh h
  have hne : l ≠ [] := by intro e; rw [e] at hl; simp at hl
  obtain ⟨t, b, rfl⟩ : ∃ t b, l = t ++ [b] := ⟨l.dropLast, l.getLast hne, (List.dropLast_concat_getLast hne).symm⟩
  have ht : t.length = k + 1 := by simpa using hl
  have htn : t ≠ [] := by intro e; rw [e] at ht; simp at ht
  have hhd : (t ++ [b]).head? = t.head? := by cases t with | nil => exact absurd rfl htn | cons x r => rfl
  have hnz : t.head? ≠ some 48 := by
   rcases hh with h0 | h0
   ·omega
   ·rw [hhd] at h0; exact h0
  rw [decFrom_snoc] at h
  obtain ⟨u, hu, h⟩ := Option.bind_eq_some_iff.1 h
  cases hd : Lib.digitVal b with
  | none => rw [hd] at h; simp at h
  | some d =>
   rw [hd] at h
   simp only [Option.map_some, Option.some.injEq] at h
   obtain ⟨e1, e2⟩ := ih t u ht (.inr hnz) hu
   have hu1 := e2 hnz
   obtain ⟨eb, h10⟩ := digit_back hd
   have hv : ¬ v < 10 := by omega
   refine ⟨?_, fun _ => by omega⟩
   rw [dec_step hv, show v / 10 = u by omega, show v % 10 = d by omega, e1, ← eb]
/-- Rows with c between. -/
def joinL (c : UInt8) : List (List UInt8) → List UInt8
 | [] => []
 | [x] => x
 | x :: y :: r => x ++ c :: joinL c (y :: r)
theorem joinL_cons {c : UInt8} {x : List UInt8} {r : List (List UInt8)} (h : r ≠ []) : joinL c (x :: r) = x ++ c :: joinL c r := by
 cases r with
 | nil => exact absurd rfl h
 | cons y t => rfl
theorem joinL_spl (c : UInt8) : ∀ (n : Nat) (l : List UInt8), l.length ≤ n → joinL c (spl c l) = l := by
 intro n
 induction n with
 | zero => intro l h; cases l with | nil => rfl | cons b t => simp at h
 | succ n ih =>
  intro l h
  rw [spl_brk]
  cases hb : brk c l with
  | none => rfl
  | some p =>
   obtain ⟨e, _⟩ := brk_some (x := p.1) (y := p.2) hb
   have hl := congrArg List.length e
   simp only [List.length_append, List.length_cons] at hl
   simp only
   rw [joinL_cons (spl_ne _ _), ih p.2 zU4_6, ← e]
theorem spl_joinL {c : UInt8} : ∀ (W : List (List UInt8)), W ≠ [] → (∀ x ∈ W, c ∉ x) → spl c (joinL c W) = W
 | [], h, _ => absurd rfl h
 | [x], _, h => spl_no (h x zU4_7)
 | x :: y :: r, _, h => by
  rw [joinL_cons zU4_7, spl_mk (h x zU4_7), spl_joinL (y :: r) zU4_7 (fun z hz => h z (by simp at hz ⊢; exact .inr hz))]
theorem splitK_spl (c : UInt8) : ∀ (n : Nat) (l : List UInt8), l.length ≤ n → Lib.splitK [c] 0 (Lib.count l [c]) l = spl c l := by
 intro n
 induction n with
 | zero =>
  intro l h
  cases l with
  | nil => rfl
  | cons b t => simp at h
 | succ n ih =>
  intro l h
  have hi := index_brk c l
  rw [spl_brk]
  cases hb : brk c l with
  | none =>
   rw [hb] at hi
   rw [Lib.count_miss hi]
   rfl
  | some p =>
   rw [hb] at hi
   obtain ⟨e, _⟩ := brk_some (x := p.1) (y := p.2) hb
   have hl := congrArg List.length e
   simp only [List.length_append, List.length_cons] at hl
   have hd : l.drop (p.1.length + 1) = p.2 := by rw [e, List.drop_append, List.drop_eq_nil_of_le zU4_6, List.nil_append, show p.1.length + 1 - p.1.length = 1 by omega]; rfl
   have ht : l.take p.1.length = p.1 := by rw [e]; simp
   rw [Lib.count_hit zU4_7 hi, Nat.add_comm 1]
   simp only [Lib.splitK, List.length_cons, List.length_nil, hi]
   rw [if_neg zU4_7, Int.toNat_natCast, Nat.add_zero, Nat.zero_add, hd, ht, ih p.2 zU4_6]
theorem bt_data (s : ByteArray) (i : Nat) (h : i < s.size) : bt s (i : Int) = ((s.data.toList[i]'(by simpa using h)).toNat : Int) := by
 unfold bt
 rw [dif_pos (by simpa using h)]
 simp only [Int.toNat_natCast]
 rfl
theorem extract_mkS (s : ByteArray) (a b : Nat) : s.extract a b = mkS ((s.data.toList.drop a).take (b - a)) := ba_ext (by rw [Lib.extract_data]; rfl)
theorem spec_l1Split.ev_l (s : ByteArray) (hs : s.size ≤ 2000000) (c : UInt8) (d : Nat) : ∀ (i from_ : Nat) (out : List ByteArray), i + d = s.size → from_ ≤ i → out.length ≤ i → Ev (fun k => spec_l1Split.l0 k s (c.toNat : Int) out (from_ : Int) (i : Int)) (out ++ (glue ((s.data.toList.drop from_).take (i - from_)) (spl c (s.data.toList.drop i))).map mkS) := by
 induction d with
 | zero =>
  intro i from_ out hi hf ho
  refine Ev.succ ?_
  simp only [spec_l1Split.l0, show ¬ ((i : Int) < (s.size : Int)) by omega, if_false, show (0 : Int) ≤ (from_ : Int) by omega, show (from_ : Int) ≤ (s.size : Int) by omega, show out.length < 8796093022208 by omega, if_true, Int.toNat_natCast]
  refine Ev.const ?_
  have hn : s.data.toList.drop i = [] := List.drop_eq_nil_of_le (by simp; omega)
  rw [hn, extract_mkS, show s.size = i by omega]
  simp [spl, glue]
 | succ d ih =>
  intro i from_ out hi hf ho
  have hlt : i < s.size := by omega
  have hlt' : i < s.data.toList.length := by simpa using hlt
  refine Ev.succ ?_
  simp only [spec_l1Split.l0, show ((i : Int) < (s.size : Int)) by omega, show (0 : Int) ≤ (i : Int) by omega, if_true, bt_data s i hlt]
  rw [wid (show -9223372036854775808 ≤ (i : Int) + 1 by omega) zU4_6]
  rw [List.drop_eq_getElem_cons hlt']
  by_cases e : s.data.toList[i] = c
  ·simp only [e, if_true, show (0 : Int) ≤ (from_ : Int) by omega, show (from_ : Int) ≤ (i : Int) by omega, show (i : Int) ≤ (s.size : Int) by omega, show out.length < 8796093022208 by omega, Int.toNat_natCast]
   have q := ih (i + 1) (i + 1) (out ++ [s.extract from_ i]) zU4_6 (Nat.le_refl _) zU4_2
   refine ev_eq q ?_
   rw [Nat.sub_self, List.take_zero, glue_nil (spl_ne _ _), extract_mkS]
   simp [spl, glue]
  ·have e' : ¬ ((s.data.toList[i].toNat : Int) = (c.toNat : Int)) := fun q => e (UInt8.toNat_inj.1 zU4_6)
   simp only [e', if_false]
   have q := ih (i + 1) from_ out zU4_6 zU4_6 zU4_6
   refine ev_eq q ?_
   congr 2
   rw [spl, if_neg e, glue_glue _ _ _ (spl_ne _ _)]
   congr 1
   rw [show i + 1 - from_ = (i - from_) + 1 by omega, List.take_succ_eq_append_getElem (by simp; omega)]
   congr 1
   simp only [List.getElem_drop, List.cons.injEq, and_true]
   congr 1
   omega
theorem spec_l1Split.ev {s : ByteArray} (hs : s.size ≤ 2000000) (c : UInt8) : Ev (fun k => spec_l1Split.f k s (c.toNat : Int)) ((spl c s.data.toList).map mkS) := by
 unfold spec_l1Split.f
 have q := spec_l1Split.ev_l s hs c s.size 0 0 [] zU4_6 (Nat.le_refl _) zU4_7
 refine ev_eq q ?_
 rw [List.drop_zero, Nat.sub_self, List.take_zero, glue_nil (spl_ne _ _), List.nil_append]
/-- The number that a text of one to six digits without a nought ahead tells, or -1. -/
def rd6 (l : List UInt8) : Int := if 1 ≤ l.length ∧ l.length ≤ 6 ∧ ¬ (l.head? = some 48 ∧ 1 < l.length) then (match Lib.decFrom 0 l with | some v => (v : Int) | none => -1) else -1
theorem spec_l1Read.ev_l (s : ByteArray) (hs : s.size ≤ 6) (d : Nat) : ∀ (i acc : Nat), i + d = s.size → acc + 1 ≤ 10 ^ i → Ev (fun k => spec_l1Read.l0 k s (acc : Int) (i : Int)) (match Lib.decFrom acc (s.data.toList.drop i) with | some v => (v : Int) | none => -1) := by
 induction d with
 | zero =>
  intro i acc hi _
  refine Ev.succ ?_
  simp only [spec_l1Read.l0, show ¬ ((i : Int) < (s.size : Int)) by omega, if_false]
  have hn : s.data.toList.drop i = [] := List.drop_eq_nil_of_le (by simp; omega)
  rw [hn]
  exact Ev.now _
 | succ d ih =>
  intro i acc hi ha
  have hlt : i < s.size := by omega
  have hlt' : i < s.data.toList.length := by simpa using hlt
  have hp : 10 ^ i ≤ 10 ^ 6 := Nat.pow_le_pow_right zU4_6 zU4_6
  refine Ev.succ ?_
  simp only [spec_l1Read.l0, show ((i : Int) < (s.size : Int)) by omega, show (0 : Int) ≤ (i : Int) by omega, if_true, bt_data s i hlt]
  rw [List.drop_eq_getElem_cons hlt']
  simp only [Lib.decFrom, Lib.digitVal]
  by_cases c : 48 ≤ s.data.toList[i].toNat ∧ s.data.toList[i].toNat ≤ 57
  ·simp only [c, and_self, if_true, show ¬ ((s.data.toList[i].toNat : Int) < 48) by omega, show ¬ ((s.data.toList[i].toNat : Int) > 57) by omega, if_false]
   rw [wid (show -9223372036854775808 ≤ 10 * (acc : Int) by omega) zU4_6, show ((s.data.toList[i].toNat : Int) - 48) % 256 = ((s.data.toList[i].toNat - 48 : Nat) : Int) by omega, wid (show -9223372036854775808 ≤ 10 * (acc : Int) + ((s.data.toList[i].toNat - 48 : Nat) : Int) by omega) zU4_6, wid (show -9223372036854775808 ≤ (i : Int) + 1 by omega) zU4_6, show 10 * (acc : Int) + ((s.data.toList[i].toNat - 48 : Nat) : Int) = ((acc * 10 + (s.data.toList[i].toNat - 48) : Nat) : Int) by omega]
   exact ih (i + 1) _ zU4_6 (by rw [Nat.pow_succ]; omega)
  ·simp only [c, if_false]
   by_cases c1 : (s.data.toList[i].toNat : Int) < 48
   ·simp only [c1, if_true]; exact Ev.now _
   ·simp only [c1, if_false, show (s.data.toList[i].toNat : Int) > 57 by omega, if_true]; exact Ev.now _
theorem spec_l1Read.ev {s : ByteArray} (hs : s.size ≤ 2000000) : Ev (fun k => spec_l1Read.f k s) (rd6 s.data.toList) := by
 have hlen : s.data.toList.length = s.size := by simp
 unfold spec_l1Read.f rd6
 refine Ev.bindc (spec_l1In.eq _ 1 6) ?_
 by_cases c : 1 ≤ s.size ∧ s.size ≤ 6
 ·rw [show inr 1 6 (s.size : Int) = true from inr_iff.2 zU4_6]
  have hb := bt_data s 0 zU4_6
  have h0 : (0 : Nat) < s.data.toList.length := by omega
  have hh : s.data.toList.head? = some s.data.toList[0] := by rw [List.head?_eq_getElem?, List.getElem?_eq_getElem h0]
  have loop := spec_l1Read.ev_l s c.2 s.size 0 0 zU4_6 zU4_7
  rw [List.drop_zero] at loop
  simp only [if_true, show (0 : Int) < (s.size : Int) by omega]
  rw [show bt s 0 = ((s.data.toList[0]'h0).toNat : Int) from hb, hh, hlen]
  by_cases z : s.data.toList[0] = 48
  ·have z' : ((s.data.toList[0].toNat : Int) = 48) := by rw [z]; rfl
   simp only [z', if_true]
   by_cases l2 : 1 < s.size
   ·rw [if_neg (by intro q; exact q.2.2 ⟨by rw [z], l2⟩)]
    refine Ev.succ ?_
    simp only [spec_l1Read.j0, show ((s.size : Int) > 1) by omega, decide_true, if_true]
    exact Ev.now _
   ·rw [if_pos ⟨c.1, c.2, fun q => l2 q.2⟩]
    refine Ev.succ ?_
    simp only [spec_l1Read.j0, show ¬ ((s.size : Int) > 1) by omega, decide_false, Bool.false_eq_true, if_false]
    exact loop
  ·have z' : ¬ ((s.data.toList[0].toNat : Int) = 48) := fun q => z (UInt8.toNat_inj.1 (by show s.data.toList[0].toNat = 48; omega))
   simp only [z', if_false]
   rw [if_pos ⟨c.1, c.2, fun q => z (Option.some.inj q.1)⟩]
   refine Ev.succ ?_
   simp only [spec_l1Read.j0, Bool.false_eq_true, if_false]
   exact loop
 ·rw [show inr 1 6 (s.size : Int) = false from Bool.eq_false_iff.2 (fun q => c (by have := inr_iff.1 q; omega)), hlen, if_neg (fun q => c ⟨q.1, q.2.1⟩)]
  simp only [Bool.false_eq_true, if_false]
  refine Ev.succ ?_
  simp only [spec_l1Read.j0, if_true]
  exact Ev.now _
theorem rd6_txt {n : Nat} (h : n < 1000000) : rd6 (Lib.decDigits n) = (n : Int) := by
 have h1 := dec_len 5 n (by simpa using h)
 have h2 := dec_ne n
 have g1 : 1 ≤ (Lib.decDigits n).length := by
  rcases Nat.eq_zero_or_pos (Lib.decDigits n).length with z | z
  ·exact absurd (List.eq_nil_of_length_eq_zero z) h2
  ·exact z
 have g2 : ¬ ((Lib.decDigits n).head? = some 48 ∧ 1 < (Lib.decDigits n).length) := by
  intro q
  rcases Nat.eq_zero_or_pos n with z | z
  ·subst z
   rw [Lib.decDigits_one zU4_6] at q
   simp at q
  ·obtain ⟨b, r, e, hb⟩ := dec_head n z
   rw [e] at q
   simp only [List.head?_cons, Option.some.injEq] at q
   rw [q.1] at hb
   exact hb rfl
 unfold rd6
 rw [if_pos ⟨g1, h1, g2⟩, decFrom_dec]
theorem rd6_back {l : List UInt8} (h : 0 ≤ rd6 l) : l = Lib.decDigits (rd6 l).toNat := by
 unfold rd6 at h ⊢
 by_cases c : 1 ≤ l.length ∧ l.length ≤ 6 ∧ ¬ (l.head? = some 48 ∧ 1 < l.length)
 ·rw [if_pos c] at h ⊢
  cases hd : Lib.decFrom 0 l with
  | none => rw [hd] at h; simp at h
  | some v =>
   simp only [Int.toNat_natCast]
   refine (dec_of_decFrom (l.length - 1) l v zU4_6 ?_ hd).1.symm
   by_cases q : l.head? = some 48
   ·exact .inl (by have := c.2.2; by_cases q2 : 1 < l.length; exact absurd ⟨q, q2⟩ this; omega)
   ·exact .inr q
 ·rw [if_neg c] at h
  omega
theorem numOf_txt {n : Nat} (h : n < 1000000) : numOf (txt n) = ((n : Int), true) := by
 have h1 := dec_len 5 n (by simpa using h)
 have e : Lib.atoiAll (Lib.decDigits n) = .ok (n : Int) := by
  rw [Lib.atoiAll_short _ zU4_6]
  cases hq : Lib.decDigits n with
  | nil => exact absurd hq (dec_ne n)
  | cons b r =>
   have hb := dec_digits n b (by rw [hq]; simp)
   have b1 : ¬ ((b == 45) = true) := by
    intro q
    have : b = 45 := by simpa using q
    rw [this] at hb
    exact absurd hb.1 (by decide)
   have b2 : ¬ ((b == 43) = true) := by
    intro q
    have : b = 43 := by simpa using q
    rw [this] at hb
    exact absurd hb.1 (by decide)
   simp only [Lib.atoi, if_neg b1, if_neg b2]
   rw [show Lib.decNat (b :: r) = some n by rw [← hq]; unfold Lib.decNat; rw [if_neg (by rw [hq]; simp), decFrom_dec]]
   rfl
 have ed : (txt n).data.toList = Lib.decDigits n := rfl
 unfold numOf
 rw [ed, e]
 simp only [Prod.mk.injEq, true_and]
 rw [show Lib.itoa (n : Int) = Lib.decDigits n by unfold Lib.itoa; rw [if_neg zU4_6]; simp]
 exact beq_self_eq_true _
theorem numOf_back {s : ByteArray} (h : (numOf s).2 = true) : s.data.toList = Lib.itoa (numOf s).1 := by
 unfold numOf at h ⊢
 cases e : Lib.atoiAll s.data.toList with
 | ok v =>
  rw [e] at h
  simp only at h ⊢
  have h2 := beq_iff_eq.1 h
  rw [Lib.toList_data, Lib.toList_data] at h2
  exact h2.symm
 | «syntax» => rw [e] at h; simp at h
 | range => rw [e] at h; simp at h
theorem numOf_empty {s : ByteArray} (h : s.data.toList = []) : (numOf s).2 = false := by
 unfold numOf
 rw [h]
 rfl
theorem numOf_pos {s : ByteArray} (h : (numOf s).2 = true) (h0 : 0 ≤ (numOf s).1) : s.data.toList = Lib.decDigits (numOf s).1.toNat := by
 rw [numOf_back h]
 unfold Lib.itoa
 rw [if_neg zU4_6]
theorem bar_sz : (⟨#[124]⟩ : ByteArray).size = 1 := rfl
theorem com_sz : (⟨#[44]⟩ : ByteArray).size = 1 := rfl
/-- A pole's text; texts behind a comma each, texts with commas between. -/
def pt (c : S39) : ByteArray := (txt c.f0.toNat ++ (⟨#[124]⟩ : ByteArray)) ++ txt c.f1.toNat
def pOk (c : S39) : Bool := inr 1 500 c.f0 && inr 1 200 c.f1
theorem pOk_bd {c : S39} (h : pOk c = true) : (1 ≤ c.f0 ∧ c.f0 ≤ 500) ∧ (1 ≤ c.f1 ∧ c.f1 ≤ 200) := by
 unfold pOk at h
 simpa only [Bool.and_eq_true, inr_iff] using h
theorem mRow_parts {l : List S39} (h : mRow l = true) : (1 ≤ l.length ∧ l.length ≤ 6) ∧ l.all pOk = true := by
 obtain ⟨h1, h2⟩ := mRow_el h
 refine ⟨h1, List.all_eq_true.2 (fun c hc => ?_)⟩
 obtain ⟨i, hi, rfl⟩ := List.mem_iff_getElem.1 hc
 have := h2 i hi
 unfold pX pH at this
 rw [rdPole hi] at this
 unfold pOk
 simpa only [Bool.and_eq_true, inr_iff] using this
theorem pt_size {c : S39} (h : pOk c = true) : (pt c).size ≤ 1000 := by
 have hb := pOk_bd h
 unfold pt
 simp only [ByteArray.size_append, bar_sz]
 have h0 := txt_size c.f0.toNat
 have h1 := txt_size c.f1.toNat
 omega
def tailP : List ByteArray → ByteArray
 | [] => ByteArray.empty
 | x :: r => ((⟨#[44]⟩ : ByteArray) ++ x) ++ tailP r
def joinP : List ByteArray → ByteArray
 | [] => ByteArray.empty
 | x :: r => x ++ tailP r
theorem tailP_data : ∀ r : List ByteArray, (tailP r).data.toList = Lib.joinTail [44] (r.map (·.data.toList))
 | [] => rfl
 | x :: r => by
  show (((⟨#[44]⟩ : ByteArray) ++ x) ++ tailP r).data.toList = _
  rw [ba_append, ba_append, tailP_data r]
  simp [Lib.joinTail]
theorem joinOf_P (l : List ByteArray) : joinOf l (⟨#[44]⟩ : ByteArray) = joinP l := by
 refine ba_ext ?_
 show (Lib.join (l.map (·.data.toList)) [44]).toArray.toList = _
 cases l with
 | nil => rfl
 | cons x r =>
  rw [List.map_cons, Lib.join_cons]
  show _ = (x ++ tailP r).data.toList
  rw [ba_append, tailP_data]
theorem tailP_size : ∀ (r : List ByteArray) (h : ∀ x ∈ r, x.size ≤ 1000), (tailP r).size ≤ 1001 * r.length
 | [], _ => by simp [tailP]
 | x :: r, h => by
  have h1 := h x zU4_7
  have h2 := tailP_size r (fun y hy => h y (by simp [hy]))
  show (((⟨#[44]⟩ : ByteArray) ++ x) ++ tailP r).size ≤ _
  simp only [ByteArray.size_append, com_sz, List.length_cons]
  omega
theorem app_empty (a : ByteArray) : a ++ ByteArray.empty = a := ba_ext (by rw [ba_append]; exact List.append_nil _)
theorem empty_app (a : ByteArray) : ByteArray.empty ++ a = a := ba_ext (by rw [ba_append]; exact List.nil_append _)
def plT (l : List S39) : ByteArray := joinP (l.map pt)
def mPlText (l : List S39) : ByteArray × Bool := if mRow l = true then (plT l, true) else (⟨#[]⟩, false)
theorem plT_size {l : List S39} (h : mRow l = true) : (plT l).size ≤ 10000 := by
 obtain ⟨hl, hc⟩ := mRow_parts h
 have hall : ∀ x ∈ l.map pt, x.size ≤ 1000 := by
  intro x hx
  obtain ⟨c, hm, rfl⟩ := List.mem_map.1 hx
  exact pt_size (List.all_eq_true.1 hc _ hm)
 unfold plT
 cases hq : l.map pt with
 | nil => simp [joinP]
 | cons x r =>
  rw [hq] at hall
  have h1 := hall x zU4_7
  have h2 := tailP_size r (fun y hy => hall y (by simp [hy]))
  have h3 : r.length + 1 = l.length := by rw [← List.length_map (f := pt), hq]; simp
  show (x ++ tailP r).size ≤ _
  simp only [ByteArray.size_append]
  omega
theorem splitOf_spl (a : ByteArray) (c : UInt8) (sep : ByteArray) (hs : sep.data.toList = [c]) : splitOf a sep = (spl c a.data.toList).map mkS := by
 have h := Lib.splitB_data sep 0 (Lib.countB a sep) a
 have e : Lib.countB a sep = Lib.count a.data.toList [c] := by unfold Lib.countB; rw [hs]
 rw [hs, e, splitK_spl c _ _ (Nat.le_refl _)] at h
 rw [← h, List.map_map]
 unfold splitOf
 rw [e]
 symm
 refine (List.map_congr_left (fun x _ => ?_)).trans (List.map_id _)
 exact mkS_of x
theorem split_eq {a : ByteArray} (h : a.size ≤ 1048576) (c : UInt8) (sep : ByteArray) (hs : sep.data.toList = [c]) : strings_Split.f a sep = some ((spl c a.data.toList).map mkS) := by
 have h1 : sep.size = 1 := by
  have : sep.data.toList.length = 1 := by rw [hs]; rfl
  simpa using this
 unfold strings_Split.f
 rw [if_pos ⟨by omega, by omega, Lib.splitB_all sep zU4_6 0 _ a rfl⟩, splitOf_spl a c sep hs]
theorem cut_eq2 {a b : ByteArray} (h : a.size ≤ 1048576) : strings_Cut.f a b = some (cutOf a b) := by
 unfold strings_Cut.f
 rw [if_pos zU4_6]
theorem num_eq2 {a : ByteArray} (h : a.size ≤ 1048576) : impl_number.f a = some (numOf a) := by
 unfold impl_number.f
 rw [if_pos zU4_6]
theorem mkS_size (l : List UInt8) : (mkS l).size = l.length := by simp [mkS, ByteArray.size]
theorem cutOf_brk2 (s : ByteArray) (c : UInt8) (sep : ByteArray) (hs : sep.data.toList = [c]) : cutOf s sep = match brk c s.data.toList with | some p => (mkS p.1, mkS p.2, true) | none => (s, mkS [], false) := by
 unfold cutOf
 rw [hs, cut_brk]
 cases brk c s.data.toList with
 | some p => rfl
 | none => simp only; exact congrArg (fun z => (z, mkS [], false)) (mkS_of s)
theorem rdOf_mk2 {l : List (List UInt8)} {i : Nat} (h : i < l.length) : rdOf ByteArray.empty (l.map mkS) (i : Int) = mkS l[i] := by
 simp [rdOf, List.getD_eq_getElem?_getD, List.getElem?_eq_getElem h]
theorem part_len {c : UInt8} : ∀ {l : List UInt8}, (∀ x ∈ spl c l, x.length ≤ l.length) ∧ (spl c l).length ≤ l.length + 1
 | [] => ⟨fun x hx => by simp [spl] at hx; simp [hx], by simp [spl]⟩
 | b :: t => by
  obtain ⟨ih, ih2⟩ := part_len (c := c) (l := t)
  unfold spl
  by_cases e : b = c
  ·rw [if_pos e]
   refine ⟨fun x hx => ?_, by simp only [List.length_cons]; omega⟩
   rcases List.mem_cons.1 hx with rfl | h
   ·simp
   ·have := ih x h; simp only [List.length_cons]; omega
  ·rw [if_neg e]
   cases hs : spl c t with
   | nil => exact absurd hs (spl_ne c t)
   | cons y r =>
    rw [hs] at ih ih2
    simp only [glue, List.length_cons] at ih2 ⊢
    refine ⟨fun x hx => ?_, by omega⟩
    rcases List.mem_cons.1 hx with rfl | h
    ·have := ih y zU4_7; simp only [List.length_append, List.length_cons, List.length_nil]; omega
    ·have := ih x (by simp [h]); omega
theorem no_sep2 {n : Nat} {c : UInt8} (h : c.toNat < 48 ∨ 57 < c.toNat) : c ∉ Lib.decDigits n := fun q => by have := dec_digits n c q; omega
def pD (c : S39) : List UInt8 := Lib.decDigits c.f0.toNat ++ 124 :: Lib.decDigits c.f1.toNat
theorem pt_data (c : S39) : (pt c).data.toList = pD c := by
 unfold pt pD
 simp only [ba_append, List.append_assoc]
 rfl
theorem tail_joinP : ∀ (x : List UInt8) (r : List ByteArray), x ++ (tailP r).data.toList = joinL 44 (x :: r.map (·.data.toList))
 | x, [] => by show x ++ [] = x; simp
 | x, y :: r => by
  show x ++ (((⟨#[44]⟩ : ByteArray) ++ y) ++ tailP r).data.toList = x ++ 44 :: joinL 44 (y.data.toList :: r.map (·.data.toList))
  rw [ba_append, ba_append, List.append_assoc, tail_joinP y.data.toList r]
  rfl
theorem plT_data (l : List S39) : (plT l).data.toList = joinL 44 (l.map pD) := by
 unfold plT
 cases l with
 | nil => rfl
 | cons c r =>
  show (pt c ++ tailP (r.map pt)).data.toList = joinL 44 (pD c :: r.map pD)
  rw [ba_append, tail_joinP, pt_data, List.map_map]
  congr 2
  exact List.map_congr_left (fun x _ => pt_data x)
theorem pD_no {c : S39} {b : UInt8} (h : b.toNat < 48) : b ∉ pD c := by
 unfold pD
 have h46 : b ≠ 124 := by intro q; subst q; exact absurd h (by decide)
 simp only [List.mem_append, List.mem_cons, not_or]
 exact ⟨no_sep2 zU4_6, h46, no_sep2 zU4_6⟩
theorem pD_len {c : S39} (h : pOk c = true) : (pD c).length ≤ 7 := by
 have hb := pOk_bd h
 have h0 := dec_len 2 c.f0.toNat zU4_6
 have h1 := dec_len 2 c.f1.toNat zU4_6
 unfold pD
 simp only [List.length_append, List.length_cons]; omega
theorem joinP_len {c : UInt8} {m : Nat} : ∀ (W : List (List UInt8)), (∀ x ∈ W, x.length ≤ m) → (joinL c W).length ≤ (m + 1) * W.length
 | [], _ => by simp [joinL]
 | [x], h => by have := h x zU4_7; simp only [joinL, List.length_cons, List.length_nil]; omega
 | x :: y :: r, h => by
  rw [joinL_cons zU4_7]
  have h1 := h x zU4_7
  have h2 := joinP_len (c := c) (y :: r) (fun z hz => h z (by simp at hz ⊢; exact .inr hz))
  simp only [List.length_append, List.length_cons] at h2 ⊢
  rw [Nat.mul_succ] at h2 ⊢
  rw [Nat.mul_succ]
  omega
theorem plT_len {l : List S39} (h : mRow l = true) : (plT l).data.toList.length ≤ 48 := by
 obtain ⟨h1, h2⟩ := mRow_parts h
 have hj := joinP_len (c := 44) (m := 7) (l.map pD) (fun x hx => by obtain ⟨c, hc, rfl⟩ := List.mem_map.1 hx; exact pD_len (List.all_eq_true.1 h2 _ hc))
 rw [List.length_map] at hj
 rw [plT_data]
 omega
theorem spl_pD (c : S39) : spl 124 (pD c) = [Lib.decDigits c.f0.toNat, Lib.decDigits c.f1.toNat] := by
 unfold pD
 rw [spl_mk (no_sep2 (by decide)), spl_no (no_sep2 (by decide))]
theorem brk_pD (c : S39) : brk 124 (pD c) = some (Lib.decDigits c.f0.toNat, Lib.decDigits c.f1.toNat) := by
 unfold pD
 rw [brk_mk (no_sep2 (by decide))]
theorem spl_plT {l : List S39} (h : mRow l = true) : spl 44 (plT l).data.toList = l.map pD := by
 have := (mRow_parts h).1.1
 rw [plT_data]
 exact spl_joinL _ (by intro q; rw [List.map_eq_nil_iff] at q; rw [q] at this; simp at this) (fun x hx => by obtain ⟨c, _, rfl⟩ := List.mem_map.1 hx; exact pD_no (by decide))
/-- Poles read, a word after the other. -/
def rdL (f : List UInt8 → Option S39) : List (List UInt8) → Option (List S39)
 | [] => some []
 | x :: r => match f x with
  | some c => (rdL f r).map fun cs => c :: cs
  | none => none
def rdMk (f : List UInt8 → Option S39) : Prop := ∀ c, pOk c = true → f (pD c) = some c
def rdBk (f : List UInt8 → Option S39) : Prop := ∀ x c, f x = some c → pOk c = true → x = pD c
theorem rdL_mk {f} (h : rdMk f) : ∀ (cs : List S39), cs.all pOk = true → rdL f (cs.map pD) = some cs
 | [], _ => rfl
 | c :: cs, hc => by
  simp only [List.all_cons, Bool.and_eq_true] at hc
  simp only [List.map_cons, rdL, h c hc.1, rdL_mk h cs hc.2, Option.map_some]
theorem rdL_back {f} (h : rdBk f) : ∀ (W : List (List UInt8)) (cs : List S39), rdL f W = some cs → cs.all pOk = true → W = cs.map pD
 | [], cs, e, _ => by
  simp only [rdL, Option.some.injEq] at e
  subst e; rfl
 | x :: r, cs, e, hc => by
  unfold rdL at e
  cases hx : f x with
  | none => rw [hx] at e; exact absurd e zU4_7
  | some c =>
   rw [hx] at e
   simp only at e
   cases hr : rdL f r with
   | none => rw [hr] at e; exact absurd e zU4_7
   | some t =>
    rw [hr] at e
    simp only [Option.map_some, Option.some.injEq] at e
    subst e
    simp only [List.all_cons, Bool.and_eq_true] at hc
    rw [List.map_cons, ← h x c hx hc.1, ← rdL_back h r t hr hc.2]
def mPP (f : List UInt8 → Option S39) (s : List UInt8) : List S39 × Bool := match rdL f (spl 44 s) with
 | some cs => if mRow cs = true then (cs, true) else ([], false)
 | none => ([], false)
theorem mPP_mk {f} (hf : rdMk f) {l : List S39} (h : mRow l = true) : mPP f (plT l).data.toList = (l, true) := by
 unfold mPP
 rw [spl_plT h, rdL_mk hf l (mRow_parts h).2]
 simp only [h, if_true]
theorem mPP_back {f} (hf : rdBk f) (s : List UInt8) : mPP f s = ([], false) ∨ ∃ l, mRow l = true ∧ s = (plT l).data.toList := by
 unfold mPP
 cases e : rdL f (spl 44 s) with
 | none => exact .inl rfl
 | some cs =>
  by_cases h : mRow cs = true
  ·have hW := rdL_back hf _ _ e (mRow_parts h).2
   have hj := joinL_spl 44 _ s (Nat.le_refl _)
   rw [hW] at hj
   exact .inr ⟨cs, h, by rw [plT_data, hj]⟩
  ·exact .inl (by simp only [if_neg h])
def rdI (l : List UInt8) : Option S39 := match brk 124 l with
 | some p => if (numOf (mkS p.1)).2 = true ∧ (numOf (mkS p.2)).2 = true then some ⟨(numOf (mkS p.1)).1, (numOf (mkS p.2)).1⟩ else none
 | none => none
def rdS (l : List UInt8) : Option S39 := match spl 124 l with
 | [x, y] => some ⟨rd6 x, rd6 y⟩
 | _ => none
theorem rdI_mk : rdMk rdI := by
 intro c h
 have hb := pOk_bd h
 have e0 := numOf_txt (n := c.f0.toNat) zU4_6
 have e1 := numOf_txt (n := c.f1.toNat) zU4_6
 have m0 : mkS (Lib.decDigits c.f0.toNat) = txt c.f0.toNat := rfl
 have m1 : mkS (Lib.decDigits c.f1.toNat) = txt c.f1.toNat := rfl
 unfold rdI
 rw [brk_pD]
 simp only [m0, m1, e0, e1, and_self, if_true, Option.some.injEq]
 cases c
 simp only [S39.mk.injEq] at *
 omega
theorem rdI_bk : rdBk rdI := by
 intro x c h hc
 unfold rdI at h
 cases hb : brk 124 x with
 | none => rw [hb] at h; exact absurd h zU4_7
 | some p =>
  rw [hb] at h
  simp only at h
  by_cases q : (numOf (mkS p.1)).2 = true ∧ (numOf (mkS p.2)).2 = true
  ·rw [if_pos q, Option.some.injEq] at h
   subst h
   have hb2 := pOk_bd hc
   simp only at hb2
   have p0 := numOf_pos q.1 zU4_6
   have p1 := numOf_pos q.2 zU4_6
   rw [mkS_data] at p0 p1
   unfold pD
   simp only
   rw [← p0, ← p1]
   exact (brk_some (x := p.1) (y := p.2) hb).1
  ·rw [if_neg q] at h; exact absurd h zU4_7
theorem rdS_mk : rdMk rdS := by
 intro c h
 have hb := pOk_bd h
 have v0 := rd6_txt (n := c.f0.toNat) zU4_6
 have v1 := rd6_txt (n := c.f1.toNat) zU4_6
 unfold rdS
 rw [spl_pD]
 simp only [v0, v1, Option.some.injEq]
 cases c
 simp only [S39.mk.injEq] at *
 omega
theorem rdS_bk : rdBk rdS := by
 intro x c h hc
 have hj := joinL_spl 124 _ x (Nat.le_refl _)
 unfold rdS at h
 match hq : spl 124 x with
 | [] => rw [hq] at h; exact absurd h zU4_7
 | [_] => rw [hq] at h; exact absurd h zU4_7
 | _ :: _ :: _ :: _ => rw [hq] at h; exact absurd h zU4_7
 | [a, b] =>
  rw [hq] at h hj
  simp only [Option.some.injEq] at h
  subst h
  have hb := pOk_bd hc
  simp only at hb
  have p0 := rd6_back (l := a) zU4_6
  have p1 := rd6_back (l := b) zU4_6
  unfold pD
  simp only
  rw [← p0, ← p1]
  exact hj.symm
theorem mPP_same (s : List UInt8) : mPP rdI s = mPP rdS s := by
 rcases mPP_back rdI_bk s with h | ⟨l, h, e⟩
 ·rcases mPP_back rdS_bk s with h2 | ⟨l, h2, e2⟩
  ·rw [h, h2]
  ·rw [e2, mPP_mk rdI_mk h2, mPP_mk rdS_mk h2]
 ·rw [e, mPP_mk rdI_mk h, mPP_mk rdS_mk h]
theorem sw_step {l : List S39} {i : Nat} (hlt : i < l.length) (hc : pOk l[i] = true) (x : ByteArray) (hx : x.size ≤ 100000) (r : ByteArray) (h : Ev (fun k => spec_swText.l0 k (if i = 0 then x ++ pt l[i] else (x ++ (⟨#[44]⟩ : ByteArray)) ++ pt l[i]) l (l.length : Int) ((i + 1 : Nat) : Int)) r) (hl : l.length ≤ 6) : Ev (fun k => spec_swText.l0 k x l (l.length : Int) (i : Int)) r := by
 have hb := pOk_bd hc
 have s0 := txt_size l[i].f0.toNat
 have s1 := txt_size l[i].f1.toNat
 have hw : wrap64 ((i : Int) + 1) = ((i + 1 : Nat) : Int) := by rw [wid zU4_6 zU4_6]; rfl
 have hp : pt l[i] = (txt l[i].f0.toNat ++ (⟨#[124]⟩ : ByteArray)) ++ txt l[i].f1.toNat := rfl
 refine Ev.succ ?_
 simp only [spec_swText.l0, show ((i : Int) < (l.length : Int)) by omega, show (0 : Int) ≤ (i : Int) by omega, if_true, rdPole hlt, hw]
 by_cases h0 : i = 0
 ·rw [if_pos h0] at h
  simp only [show ¬ ((i : Int) > 0) by omega, if_false]
  refine Ev.bind (spec_l1Num.evi zU4_6 zU4_6) ?_
  simp only [show (txt l[i].f0.toNat).size + 1 ≤ 9223372036854775807 by omega, if_true]
  refine Ev.bind (spec_l1Num.evi zU4_6 zU4_6) ?_
  simp only [ByteArray.size_append, bar_sz, show (txt l[i].f0.toNat).size + 1 + (txt l[i].f1.toNat).size ≤ 9223372036854775807 by omega, show x.size + ((txt l[i].f0.toNat).size + 1 + (txt l[i].f1.toNat).size) ≤ 9223372036854775807 by omega, if_true]
  rw [← hp]
  exact h
 ·rw [if_neg h0] at h
  simp only [show ((i : Int) > 0) by omega, if_true, show x.size + 1 ≤ 9223372036854775807 by omega]
  refine Ev.bind (spec_l1Num.evi zU4_6 zU4_6) ?_
  simp only [show (txt l[i].f0.toNat).size + 1 ≤ 9223372036854775807 by omega, if_true]
  refine Ev.bind (spec_l1Num.evi zU4_6 zU4_6) ?_
  simp only [ByteArray.size_append, bar_sz, com_sz, show (txt l[i].f0.toNat).size + 1 + (txt l[i].f1.toNat).size ≤ 9223372036854775807 by omega, show x.size + 1 + ((txt l[i].f0.toNat).size + 1 + (txt l[i].f1.toNat).size) ≤ 9223372036854775807 by omega, if_true]
  rw [← hp]
  exact h
theorem sw_loop (l : List S39) (hl : l.length ≤ 6) (hc : l.all pOk = true) (d : Nat) : ∀ (i : Nat) (x : ByteArray), 1 ≤ i → i + d = l.length → x.size ≤ 2000 * i → Ev (fun k => spec_swText.l0 k x l (l.length : Int) (i : Int)) (x ++ tailP ((l.drop i).map pt)) := by
 induction d with
 | zero =>
  intro i x hi he hx
  refine Ev.succ ?_
  simp only [spec_swText.l0, show ¬ ((i : Int) < (l.length : Int)) by omega, if_false]
  rw [show l.drop i = [] from List.drop_eq_nil_of_le zU4_6]
  show Ev _ (x ++ ByteArray.empty)
  rw [app_empty]
  exact Ev.now _
 | succ d ih =>
  intro i x hi he hx
  have hlt : i < l.length := by omega
  have hcl : pOk l[i] = true := List.all_eq_true.1 hc _ (List.getElem_mem hlt)
  have hs := pt_size hcl
  refine sw_step hlt hcl x zU4_6 _ ?_ hl
  rw [if_neg (show ¬ i = 0 by omega)]
  refine ev_eq (ih (i + 1) ((x ++ (⟨#[44]⟩ : ByteArray)) ++ pt l[i]) zU4_6 zU4_6 (by simp only [ByteArray.size_append, com_sz]; omega)) ?_
  rw [List.drop_eq_getElem_cons hlt, List.map_cons]
  show _ = x ++ (((⟨#[44]⟩ : ByteArray) ++ pt l[i]) ++ tailP _)
  simp only [ba_assoc]
theorem spec_swText.ev {l : List S39} (hl : 1 ≤ l.length ∧ l.length ≤ 6) (hc : l.all pOk = true) : Ev (fun k => spec_swText.f k l) (plT l) := by
 unfold spec_swText.f plT
 match l, hl, hc with
 | c :: r, hl, hc =>
  have hcl : pOk c = true := List.all_eq_true.1 hc _ zU4_7
  have hs := pt_size hcl
  refine sw_step (l := c :: r) (i := 0) zU4_7 hcl (⟨#[]⟩ : ByteArray) (by decide) _ ?_ hl.2
  rw [if_pos rfl]
  refine ev_eq (sw_loop (c :: r) hl.2 hc r.length 1 ((⟨#[]⟩ : ByteArray) ++ pt c) zU4_6 (by simp; omega) (by simp only [ByteArray.size_append]; have : (⟨#[]⟩ : ByteArray).size = 0 := rfl; omega)) ?_
  show ((⟨#[]⟩ : ByteArray) ++ pt c) ++ tailP (r.map pt) = pt c ++ tailP (r.map pt)
  rw [show (⟨#[]⟩ : ByteArray) ++ pt c = pt c from empty_app _]
theorem spec_PolesText.ev {l : List S39} (hl : l.length ≤ 4611686018427387904) : Ev (fun k => spec_PolesText.f k l) (mPlText l) := by
 unfold spec_PolesText.f mPlText
 refine Ev.bind (spec_swRow.ev hl) ?_
 cases h : mRow l with
 | false => simp only [Bool.false_eq_true, if_false]; exact Ev.now _
 | true =>
  simp only [if_true]
  exact Ev.bind (spec_swText.ev (mRow_parts h).1 (mRow_parts h).2) (Ev.now _)
theorem pl_impl_l (l : List S39) (h : mRow l = true) (d : Nat) : ∀ (i : Nat), i + d = l.length → Ev (fun k => impl_PolesText.l0 k ((l.take i).map pt) l (l.length : Int) (i : Int)) (plT l, true) := by
 obtain ⟨hl, hc⟩ := mRow_parts h
 induction d with
 | zero =>
  intro i he
  have hj := plT_size h
  refine Ev.succ ?_
  simp only [impl_PolesText.l0, show ¬ ((i : Int) < (l.length : Int)) by omega, if_false]
  rw [show l.take i = l from List.take_of_length_le zU4_6]
  have hJ : (joinOf (l.map pt) (⟨#[44]⟩ : ByteArray)).size = (Lib.join ((l.map pt).map (·.data.toList)) (⟨#[44]⟩ : ByteArray).data.toList).length := by
   simp [joinOf, ByteArray.size]
  rw [joinOf_P] at hJ
  refine Ev.bindc (show strings_Join.f (l.map pt) (⟨#[44]⟩ : ByteArray) = some (joinP (l.map pt)) from ?_) ?_
  ·have hj2 : (joinP (l.map pt)).size ≤ 10000 := hj
   unfold strings_Join.f
   rw [if_pos ⟨by rw [List.length_map]; omega, by rw [← hJ]; omega⟩, joinOf_P]
  ·exact Ev.now _
 | succ d ih =>
  intro i he
  have hlt : i < l.length := by omega
  have hcl : pOk l[i] = true := List.all_eq_true.1 hc _ (List.getElem_mem hlt)
  have hb := pOk_bd hcl
  have s0 := txt_size l[i].f0.toNat
  have s1 := txt_size l[i].f1.toNat
  refine Ev.succ ?_
  simp only [impl_PolesText.l0, show ((i : Int) < (l.length : Int)) by omega, show (0 : Int) ≤ (i : Int) by omega, if_true, rdPole hlt]
  refine Ev.bindc (impl_text.eq zU4_6 zU4_6) ?_
  simp only [show (txt l[i].f0.toNat).size + 1 ≤ 9223372036854775807 by omega, if_true]
  refine Ev.bindc (impl_text.eq zU4_6 zU4_6) ?_
  have hlen : ((l.take i).map pt).length < 8796093022208 := by rw [List.length_map, List.length_take]; omega
  simp only [ByteArray.size_append, bar_sz, show (txt l[i].f0.toNat).size + 1 + (txt l[i].f1.toNat).size ≤ 9223372036854775807 by omega, hlen, if_true]
  rw [wid (show -9223372036854775808 ≤ (i : Int) + 1 by omega) zU4_6]
  have e := ih (i + 1) zU4_6
  rw [List.take_succ_eq_append_getElem hlt, List.map_append] at e
  exact e
theorem impl_PolesText.ev {l : List S39} (hl : l.length ≤ 4611686018427387904) : Ev (fun k => impl_PolesText.f k l) (mPlText l) := by
 unfold impl_PolesText.f mPlText
 refine Ev.bind (impl_areAnyPoles.ev hl) ?_
 cases h : mRow l with
 | false => simp only [Bool.false_eq_true, if_false]; exact Ev.now _
 | true =>
  simp only [if_true]
  exact pl_impl_l l h l.length 0 zU4_6
theorem yHas_l (x : Int) (l : List Int) (hl : l.length ≤ 1000000) (d : Nat) : ∀ i : Nat, i + d = l.length → Ev (fun k => laws_yHas.l0 k x l (l.length : Int) (i : Int)) (decide (x ∈ l.drop i)) := by
 induction d with
 | zero =>
  intro i hi
  refine Ev.succ ?_
  simp only [laws_yHas.l0, show ¬ ((i : Int) < (l.length : Int)) by omega, if_false]
  rw [List.drop_eq_nil_of_le zU4_6]
  exact Ev.now _
 | succ d ih =>
  intro i hi
  have hlt : i < l.length := by omega
  have e : rd l (i : Int) = l[i] := by simp [rd, List.getD_eq_getElem?_getD, List.getElem?_eq_getElem hlt]
  refine Ev.succ ?_
  simp only [laws_yHas.l0, show ((i : Int) < (l.length : Int)) by omega, show (0 : Int) ≤ (i : Int) by omega, if_true, e, wid (show -9223372036854775808 ≤ (i : Int) + 1 by omega) zU4_6]
  rw [List.drop_eq_getElem_cons hlt]
  by_cases c : l[i] = x
  ·simp only [c, if_true]
   rw [decide_eq_true (show x ∈ x :: l.drop (i + 1) from List.mem_cons_self)]
   exact Ev.now _
  ·simp only [c, if_false]
   rw [show decide (x ∈ l[i] :: l.drop (i + 1)) = decide (x ∈ l.drop (i + 1)) from decide_eq_decide.2 ⟨fun h => (List.mem_cons.1 h).resolve_left (fun q => c q.symm), fun h => List.mem_cons_of_mem _ h⟩]
   exact ih (i + 1) zU4_6
theorem laws_yHas.ev (x : Int) {l : List Int} (hl : l.length ≤ 1000000) : Ev (fun k => laws_yHas.f k l x) (decide (x ∈ l)) := yHas_l x l hl l.length 0 zU4_6
theorem yRises_l (l : List Int) (hl : l.length ≤ 1000000) (hp : l.Pairwise (· < ·)) (d : Nat) : ∀ i : Nat, 1 ≤ i → l.length ≤ i + d → Ev (fun k => laws_yRises.l0 k l (i : Int)) true := by
 induction d with
 | zero =>
  intro i h1 hi
  refine Ev.succ ?_
  simp only [laws_yRises.l0, show ¬ ((i : Int) < (l.length : Int)) by omega, if_false]
  exact Ev.now _
 | succ d ih =>
  intro i h1 hi
  refine Ev.succ ?_
  by_cases c : i < l.length
  ·have e : rd l (i : Int) = l[i] := by simp [rd, List.getD_eq_getElem?_getD, List.getElem?_eq_getElem c]
   have e2 : rd l ((i : Int) - 1) = l[i - 1] := by
    rw [show (i : Int) - 1 = ((i - 1 : Nat) : Int) by omega]
    simp [rd, List.getD_eq_getElem?_getD, List.getElem?_eq_getElem (show i - 1 < l.length by omega)]
   have hlt : l[i - 1] < l[i] := List.pairwise_iff_getElem.1 hp (i - 1) i zU4_6 c zU4_6
   simp only [laws_yRises.l0, wid (show -9223372036854775808 ≤ (i : Int) - 1 by omega) zU4_6, show ((i : Int) < (l.length : Int)) by omega, show (0 : Int) ≤ (i : Int) - 1 by omega, show (i : Int) - 1 < (l.length : Int) by omega, show (0 : Int) ≤ (i : Int) by omega, if_true, e, e2, show ¬ (l[i - 1] ≥ l[i]) by omega, if_false, wid (show -9223372036854775808 ≤ (i : Int) + 1 by omega) zU4_6]
   exact ih (i + 1) zU4_6 zU4_6
  ·simp only [laws_yRises.l0, show ¬ ((i : Int) < (l.length : Int)) by omega, if_false]
   exact Ev.now _
theorem laws_yRises.ev {l : List Int} (hl : l.length ≤ 1000000) (hp : l.Pairwise (· < ·)) : Ev (fun k => laws_yRises.f k l) true := yRises_l l hl hp l.length 1 zU4_6 zU4_6
theorem yPoles_l (l : List S39) (hl : l.length ≤ 1000000) (d : Nat) : ∀ i : Nat, i + d = l.length → Ev (fun k => laws_yPoles.l0 k l l (l.length : Int) (i : Int)) true := by
 induction d with
 | zero =>
  intro i hi
  refine Ev.succ ?_
  simp only [laws_yPoles.l0, show ¬ ((i : Int) < (l.length : Int)) by omega, if_false]
  exact Ev.now _
 | succ d ih =>
  intro i hi
  refine Ev.succ ?_
  simp only [laws_yPoles.l0, show ((i : Int) < (l.length : Int)) by omega, show (0 : Int) ≤ (i : Int) by omega, if_true, beq_self_eq_true, Bool.not_true, Bool.or_self, Bool.false_eq_true, if_false, wid (show -9223372036854775808 ≤ (i : Int) + 1 by omega) zU4_6]
  exact ih (i + 1) zU4_6
theorem laws_yPoles.refl {l : List S39} (hl : l.length ≤ 1000000) : Ev (fun k => laws_yPoles.f k l l) true := by
 unfold laws_yPoles.f
 simp only [if_true]
 exact yPoles_l l hl l.length 0 zU4_6
theorem pl_read (s : ByteArray) : mPP rdI s.data.toList = ([], false) ∨ ∃ l, mRow l = true ∧ s = plT l := by
 rcases mPP_back rdI_bk s.data.toList with h | ⟨l, h, e⟩
 ·exact .inl h
 ·exact .inr ⟨l, h, ba_ext e⟩
theorem pl_len (s : ByteArray) : (mPP rdI s.data.toList).1.length ≤ 6 := by
 rcases pl_read s with h | ⟨l, h, e⟩
 ·rw [h]; simp
 ·rw [e, mPP_mk rdI_mk h]; exact (mRow_parts h).1.2
theorem pl_back (s : ByteArray) : Ev (fun k => if (mPP rdI s.data.toList).2 = true then ((impl_PolesText.f k (mPP rdI s.data.toList).1).bind fun t => (if t.2 = true then (some (t.1.toList == s.toList)) else (some false))) else (some true)) true := by
 rcases pl_read s with h | ⟨l, h, e⟩
 ·rw [h]
  simp only [Bool.false_eq_true, if_false]
  exact Ev.now _
 ·rw [e, mPP_mk rdI_mk h]
  simp only [if_true]
  have hl := (mRow_parts h).1
  refine Ev.bind (impl_PolesText.ev zU4_6) ?_
  unfold mPlText
  rw [if_pos h]
  simp only [if_true, beq_self_eq_true]
  exact Ev.now _
theorem mHid_rise (L : Int) (l : List S39) : (mHid L l).1.Pairwise (· < ·) ∧ (mHid L l).1.length ≤ l.length := by
 unfold mHid
 split
 ·exact ⟨fltL_rise _ _ _, fltL_len _ _ _⟩
 ·exact ⟨List.Pairwise.nil, by simp⟩
theorem mDark_rise (L : Int) (l : List S39) (m : Int) : (mDark L l m).1.Pairwise (· < ·) ∧ (mDark L l m).1.length ≤ 501 := by
 unfold mDark
 split
 ·rename_i q
  rw [Bool.and_eq_true] at q
  have := inr_iff.1 q.2
  exact ⟨fltL_rise _ _ _, Nat.le_trans (fltL_len _ _ _) zU4_6⟩
 ·exact ⟨List.Pairwise.nil, by simp⟩
def whG (L p h : Int) : Prop := Int.tmod (p * h) (L - h) = 0 ∧ Int.tdiv (p * h) (L - h) ≤ 12
instance (L p h : Int) : Decidable (whG L p h) := by unfold whG; exact inferInstance
def whR (L p h : Int) (acc : List (List Int)) : List (List Int) := if whG L p h then acc ++ [[p, h, Int.tdiv (p * h) (L - h)]] else acc
def whIn (L p : Int) : Nat → Int → List (List Int) → List (List Int)
 | 0, _, acc => acc
 | n + 1, h, acc => whIn L p n (h + 1) (whR L p h acc)
def whOut (L : Int) : Nat → Int → List (List Int) → List (List Int)
 | 0, _, acc => acc
 | n + 1, p, acc => whOut L n (p + 1) (whIn L p (L - 1).toNat 1 acc)
def whOk (L : Int) (m : Nat) (l : List (List Int)) : Prop := l.length ≤ m ∧ ∀ y ∈ l, ∃ p h : Int, (1 ≤ p ∧ p ≤ 12) ∧ (1 ≤ h ∧ h < L) ∧ whG L p h ∧ y = [p, h, Int.tdiv (p * h) (L - h)]
theorem whR_ok {L p h : Int} {m : Nat} {acc : List (List Int)} (hp : 1 ≤ p ∧ p ≤ 12) (hh : 1 ≤ h ∧ h < L) (a : whOk L m acc) : whOk L (m + 1) (whR L p h acc) := by
 unfold whR
 split
 ·rename_i g
  refine ⟨by rw [List.length_append]; have := a.1; simp only [List.length_cons, List.length_nil]; omega, fun y hy => ?_⟩
  rcases List.mem_append.1 hy with h2 | h2
  ·exact a.2 y h2
  ·exact ⟨p, h, hp, hh, g, List.mem_singleton.1 h2⟩
 ·exact ⟨Nat.le_succ_of_le a.1, a.2⟩
theorem whIn_ok {L p : Int} (hp : 1 ≤ p ∧ p ≤ 12) : ∀ (n : Nat) (h : Int) (m : Nat) (acc : List (List Int)), h + n ≤ L → 1 ≤ h → whOk L m acc → whOk L (m + n) (whIn L p n h acc)
 | 0, _, _, _, _, _, a => a
 | n + 1, h, m, acc, h1, h2, a => by
  have := whIn_ok hp n (h + 1) (m + 1) _ zU4_6 zU4_6 (whR_ok hp (show 1 ≤ h ∧ h < L by omega) a)
  rw [show m + (n + 1) = m + 1 + n by omega]; exact this
theorem whOut_ok {L : Int} (hL : 2 ≤ L ∧ L ≤ 40) : ∀ (n : Nat) (p : Int) (m : Nat) (acc : List (List Int)), p + n ≤ 13 → 1 ≤ p → whOk L m acc → whOk L (m + 40 * n) (whOut L n p acc)
 | 0, _, _, _, _, _, a => a
 | n + 1, p, m, acc, h1, h2, a => by
  have b := whIn_ok (L := L) (p := p) zU4_6 (L - 1).toNat 1 m acc zU4_6 zU4_6 a
  have := whOut_ok hL n (p + 1) (m + (L - 1).toNat) _ zU4_6 zU4_6 b
  exact ⟨Nat.le_trans this.1 zU4_6, this.2⟩
theorem wh_impl_l1 {L p : Int} (hL : 2 ≤ L ∧ L ≤ 40) (hp : 1 ≤ p ∧ p ≤ 12) (r : List (List Int) × Bool) : ∀ (n : Nat) (h : Int) (acc : List (List Int)), h + n = L → 1 ≤ h → acc.length + n ≤ 100000 → Ev (fun k => impl_WholeShadows.l0 k L (whIn L p n h acc) (p + 1)) r → Ev (fun k => impl_WholeShadows.l1 k L acc p h) r := by
 intro n
 induction n with
 | zero =>
  intro h acc h1 h2 _ e
  refine Ev.succ ?_
  simp only [impl_WholeShadows.l1, show ¬ (h < L) by omega, if_false, wid (show -9223372036854775808 ≤ p + 1 by omega) zU4_6]
  exact e
 | succ n ih =>
  intro h acc h1 h2 hl e
  have hE := ih (h + 1) (whR L p h acc) zU4_6 zU4_6 zU4_1 e
  have b := mul_bd (a := p) (b := h) (A := 12) (B := 40) zU4_6 zU4_6 zU4_6 zU4_6
  have q0 : 0 ≤ Int.tdiv (p * h) (L - h) := Int.tdiv_nonneg b.1 zU4_6
  have q1 : Int.tdiv (p * h) (L - h) ≤ p * h := by rw [Int.tdiv_eq_ediv_of_nonneg b.1]; exact Int.ediv_le_self _ b.1
  refine Ev.succ ?_
  simp only [impl_WholeShadows.l1, show h < L by omega, if_true, wid (show -9223372036854775808 ≤ h + 1 by omega) zU4_6, wid (show -9223372036854775808 ≤ L - h by omega) zU4_6, wid (show -9223372036854775808 ≤ p * h by omega) zU4_6, wid (show -9223372036854775808 ≤ Int.tdiv (p * h) (L - h) by omega) zU4_6, show ¬ (L - h = 0) by omega, if_false]
  unfold whR whG at hE
  by_cases g1 : Int.tmod (p * h) (L - h) = 0
  ·by_cases g2 : Int.tdiv (p * h) (L - h) ≤ 12
   ·simp only [g1, g2, and_self, if_true] at hE ⊢
    simp only [show acc.length < 5864062014805 by omega, if_true]
    exact hE
   ·simp only [g1, g2, and_false, if_true, if_false] at hE ⊢
    exact hE
  ·simp only [g1, false_and, if_false] at hE ⊢
   exact hE
theorem wh_impl_l0 {L : Int} (hL : 2 ≤ L ∧ L ≤ 40) : ∀ (n : Nat) (p : Int) (acc : List (List Int)), p + n = 13 → 1 ≤ p → whOk L (40 * (12 - n)) acc → Ev (fun k => impl_WholeShadows.l0 k L acc p) (whOut L n p acc, true) := by
 intro n
 induction n with
 | zero =>
  intro p acc h1 h2 _
  refine Ev.succ ?_
  simp only [impl_WholeShadows.l0, show ¬ (p ≤ 12) by omega, if_false]
  exact Ev.now _
 | succ n ih =>
  intro p acc h1 h2 a
  refine Ev.succ ?_
  simp only [impl_WholeShadows.l0, show p ≤ 12 by omega, if_true]
  have hk := whIn_ok (L := L) (p := p) zU4_6 (L - 1).toNat 1 _ acc zU4_6 zU4_6 a
  exact wh_impl_l1 hL zU4_6 _ (L - 1).toNat 1 acc zU4_6 zU4_6 (by have := a.1; omega) (ih (p + 1) _ zU4_6 zU4_6 ⟨Nat.le_trans hk.1 zU4_6, hk.2⟩)
theorem wh_spec_l1 {L p : Int} (hL : 2 ≤ L ∧ L ≤ 40) (hp : 1 ≤ p ∧ p ≤ 12) (r : List (List Int) × Bool) : ∀ (n : Nat) (h : Int) (acc : List (List Int)), h + n = L → 1 ≤ h → acc.length + n ≤ 100000 → Ev (fun k => spec_WholeShadows.l0 k L (whIn L p n h acc) (p + 1)) r → Ev (fun k => spec_WholeShadows.l1 k L acc p h) r := by
 intro n
 induction n with
 | zero =>
  intro h acc h1 h2 _ e
  refine Ev.succ ?_
  simp only [spec_WholeShadows.l1, show ¬ (h < L) by omega, if_false, wid (show -9223372036854775808 ≤ p + 1 by omega) zU4_6]
  exact e
 | succ n ih =>
  intro h acc h1 h2 hl e
  have hE := ih (h + 1) (whR L p h acc) zU4_6 zU4_6 zU4_1 e
  have b := mul_bd (a := p) (b := h) (A := 12) (B := 40) zU4_6 zU4_6 zU4_6 zU4_6
  refine Ev.succ ?_
  simp only [spec_WholeShadows.l1, show h < L by omega, if_true, wid (show -9223372036854775808 ≤ h + 1 by omega) zU4_6, wid (show -9223372036854775808 ≤ L - h by omega) zU4_6, wid (show -9223372036854775808 ≤ p * h by omega) zU4_6]
  refine Ev.bind (spec_clLow.ev (x := p * h) (y := L - h) zU4_6 zU4_6 zU4_6 zU4_6) ?_
  unfold whR whG at hE
  have i1 := lo_den1_iff (x := p * h) (y := L - h) zU4_6 zU4_6
  by_cases g1 : Int.tmod (p * h) (L - h) = 0
  ·have i2 := (lo_den1 (x := p * h) (y := L - h) zU4_6 g1 zU4_6).1
   simp only [i1.2 g1, if_true, i2]
   by_cases g2 : Int.tdiv (p * h) (L - h) ≤ 12
   ·simp only [g1, g2, and_self, if_true] at hE ⊢
    simp only [show acc.length < 5864062014805 by omega, if_true]
    exact hE
   ·simp only [g1, g2, and_false, if_false] at hE ⊢
    exact hE
  ·simp only [show ¬ (loB (p * h) (L - h) = 1) from fun q => g1 (i1.1 q), if_false]
   simp only [g1, false_and, if_false] at hE
   exact hE
theorem wh_spec_l0 {L : Int} (hL : 2 ≤ L ∧ L ≤ 40) : ∀ (n : Nat) (p : Int) (acc : List (List Int)), p + n = 13 → 1 ≤ p → whOk L (40 * (12 - n)) acc → Ev (fun k => spec_WholeShadows.l0 k L acc p) (whOut L n p acc, true) := by
 intro n
 induction n with
 | zero =>
  intro p acc h1 h2 _
  refine Ev.succ ?_
  simp only [spec_WholeShadows.l0, show ¬ (p ≤ 12) by omega, if_false]
  exact Ev.now _
 | succ n ih =>
  intro p acc h1 h2 a
  refine Ev.succ ?_
  simp only [spec_WholeShadows.l0, show p ≤ 12 by omega, if_true]
  have hk := whIn_ok (L := L) (p := p) zU4_6 (L - 1).toNat 1 _ acc zU4_6 zU4_6 a
  exact wh_spec_l1 hL zU4_6 _ (L - 1).toNat 1 acc zU4_6 zU4_6 (by have := a.1; omega) (ih (p + 1) _ zU4_6 zU4_6 ⟨Nat.le_trans hk.1 zU4_6, hk.2⟩)
def mWhS (L : Int) : List (List Int) × Bool := if inr 2 40 L = true then (whOut L 12 1 [], true) else ([], false)
theorem mWhS_ok (L : Int) : (mWhS L).1.length ≤ 1000 ∧ ∀ y ∈ (mWhS L).1, (2 ≤ L ∧ L ≤ 40) ∧ ∃ p h : Int, (1 ≤ p ∧ p ≤ 12) ∧ (1 ≤ h ∧ h < L) ∧ whG L p h ∧ y = [p, h, Int.tdiv (p * h) (L - h)] := by
 unfold mWhS
 split
 ·rename_i q
  have := whOut_ok (inr_iff.1 q) 12 1 0 [] zU4_6 zU4_6 ⟨by simp, by simp⟩
  exact ⟨Nat.le_trans this.1 zU4_6, fun y hy => ⟨inr_iff.1 q, this.2 y hy⟩⟩
 ·exact ⟨by simp, by simp⟩
theorem impl_WholeShadows.ev (L : Int) : Ev (fun k => impl_WholeShadows.f k L) (mWhS L) := by
 unfold impl_WholeShadows.f mWhS
 refine Ev.bindc (impl_within.eq _ _ _) ?_
 cases h : inr 2 40 L with
 | false => simp only [Bool.false_eq_true, if_false]; exact Ev.now _
 | true =>
  simp only [if_true]
  exact wh_impl_l0 (inr_iff.1 h) 12 1 [] zU4_6 zU4_6 ⟨by simp, by simp⟩
theorem spec_WholeShadows.ev (L : Int) : Ev (fun k => spec_WholeShadows.f k L) (mWhS L) := by
 unfold spec_WholeShadows.f mWhS
 refine Ev.bindc (spec_l1In.eq _ _ _) ?_
 cases h : inr 2 40 L with
 | false => simp only [Bool.false_eq_true, if_false]; exact Ev.now _
 | true =>
  simp only [if_true]
  exact wh_spec_l0 (inr_iff.1 h) 12 1 [] zU4_6 zU4_6 ⟨by simp, by simp⟩
def Bytes (l : List Int) : Prop := ∀ x ∈ l, (Lit.int .u8 x).wf = true
theorem rd_byte {l : List Int} (hb : Bytes l) {p : Int} (h0 : 0 ≤ p) (h1 : p < (l.length : Int)) : 0 ≤ rd l p ∧ rd l p ≤ 255 := by
 have hm : rd l p ∈ l := by
  unfold rd
  rw [List.getD_eq_getElem?_getD, List.getElem?_eq_getElem (show p.toNat < l.length by omega)]
  exact List.getElem_mem _
 have h := hb _ hm
 simp only [Lit.wf, Bool.and_eq_true, decide_eq_true_eq] at h
 exact ⟨h.1, h.2⟩
theorem and255 (x : Int) (h0 : 0 ≤ x) (h1 : x < 18446744073709551616) : Go.bits .and .u64 x 255 = x % 256 := by
 have h := bits_mask .u64 64 (by decide) (fun n h0 h1 => by rw [IntKind.wrap_u64]; omega) 8 (by decide) x h0 zU4_6
 simpa using h
theorem next_ok {l : List Int} (hb : Bytes l) {p s : Int} (h0 : 0 ≤ p) (h1 : p ≤ 1152921504606846976) : ∃ b s', spec_l1Cur_next.f l p s = some (b, p + 1, s') ∧ 0 ≤ b ∧ b ≤ 255 := by
 unfold spec_l1Cur_next.f
 rw [wid (show -9223372036854775808 ≤ p + 1 by omega) zU4_6]
 have hw : ∀ y : Int, 0 ≤ wrap64 (Go.bits .and .u64 (IntKind.u64.wrap y / 1099511627776) 255) ∧ wrap64 (Go.bits .and .u64 (IntKind.u64.wrap y / 1099511627776) 255) ≤ 255 := by
  intro y
  have hy : 0 ≤ IntKind.u64.wrap y ∧ IntKind.u64.wrap y < 18446744073709551616 := by rw [IntKind.wrap_u64]; omega
  rw [and255 _ zU4_6 zU4_6, wid zU4_6 zU4_6]
  omega
 by_cases c1 : p < (l.length : Int)
 ·have hr := rd_byte hb h0 c1
  simp only [c1, h0, if_true, show p + 1 ≤ (l.length : Int) by omega]
  exact ⟨_, _, rfl, by rw [wid zU4_6 zU4_6]; exact hr⟩
 ·simp only [c1, if_false, show ¬ (p + 1 ≤ (l.length : Int)) by omega]
  exact ⟨_, _, rfl, hw _⟩
theorem pick_ok {l : List Int} (hb : Bytes l) {p s : Int} (h0 : 0 ≤ p) (h1 : p ≤ 1152921504606840000) (n : Int) (hn : 0 < n) : ∃ x p' s', spec_l1Cur_pick.f l p s n = some (x, p', s') ∧ (0 ≤ x ∧ x < n) ∧ p ≤ p' ∧ p' ≤ p + 2 := by
 unfold spec_l1Cur_pick.f
 by_cases c : n ≤ 1
 ·simp only [c, if_true]
  exact ⟨_, _, _, rfl, by omega, by omega, by omega⟩
 ·obtain ⟨b, s1, e1, hb0, hb1⟩ := next_ok hb (s := s) h0 zU4_6
  simp only [c, if_false, e1, Option.bind_some, show ¬ n = 0 by omega]
  by_cases c2 : n > 200
  ·obtain ⟨b2, s2, e2, hb2, hb3⟩ := next_ok hb (p := p + 1) (s := s1) zU4_6 zU4_6
   simp only [c2, if_true, e2, Option.bind_some]
   rw [wid (show -9223372036854775808 ≤ b * 256 by omega) zU4_6, wid (show -9223372036854775808 ≤ b * 256 + b2 by omega) zU4_6]
   exact ⟨_, _, _, rfl, ⟨Int.tmod_nonneg _ zU4_6, Int.tmod_lt_of_pos _ hn⟩, by omega, by omega⟩
  ·simp only [c2, if_false]
   exact ⟨_, _, _, rfl, ⟨Int.tmod_nonneg _ zU4_6, Int.tmod_lt_of_pos _ hn⟩, by omega, by omega⟩
theorem one_ok {l : List Int} (hb : Bytes l) {p s : Int} (h0 : 0 ≤ p) (h1 : p ≤ 1152921504606840000) (n : Int) (hn : 0 < n) : ∃ x p' s', spec_l1Cur_one.f l p s n = some (x, p', s') ∧ p ≤ p' ∧ p' ≤ p + 2 := by
 obtain ⟨x, p', s', e, _, h2, h3⟩ := pick_ok hb (s := s) h0 h1 n hn
 unfold spec_l1Cur_one.f
 rw [e]
 exact ⟨_, _, _, rfl, h2, h3⟩
theorem among_ok {l : List Int} (hb : Bytes l) {p s : Int} (h0 : 0 ≤ p) (h1 : p ≤ 1152921504606840000) (L : List Int) (hL : 0 < L.length) : ∃ x p' s', spec_l1Cur_among.f l p s L = some (x, p', s') ∧ p ≤ p' ∧ p' ≤ p + 2 := by
 obtain ⟨x, p', s', e, hx, h2, h3⟩ := pick_ok hb (s := s) h0 h1 (L.length : Int) zU4_6
 unfold spec_l1Cur_among.f
 rw [e]
 simp only [Option.bind_some, hx.1, hx.2, if_true]
 exact ⟨_, _, _, rfl, h2, h3⟩
theorem size_ext (s : ByteArray) (i j : Nat) (hj : j ≤ s.size) : (s.extract i j).size = j - i := by
 rw [ByteArray.size_extract, Nat.min_eq_left hj]
theorem size_one (x : Int) : (strOfNums [x]).size = 1 := by simp [strOfNums, ByteArray.size]
theorem sp_hw {i : Nat} (h : i ≤ 1000000) : wrap64 ((i : Int) + 1) = ((i + 1 : Nat) : Int) := by rw [wid zU4_6 zU4_6]; rfl
theorem sp_hm {n : Nat} (h : n ≤ 1000000) : wrap64 (((n + 1 : Nat) : Int) - 1) = (n : Int) := by rw [wid zU4_6 zU4_6]; omega
theorem spoilt_l0_ok {b : List Int} (hb : Bytes b) (t : ByteArray) (ht : 0 < t.size ∧ t.size ≤ 100) (n : Nat) : ∀ (s : ByteArray) (p q : Int), s.size + n ≤ 100000 → 0 ≤ p → p ≤ 1152921504606000000 - 10 * (n : Int) → ∃ s' p' q', Ev (fun k => spec_l1Cur_spoilt.l0 k s t (n : Int) b p q) (s', p', q') ∧ s'.size ≤ s.size + n := by
 induction n with
 | zero =>
  intro s p q hs h0 h1
  refine ⟨s, p, q, Ev.succ ?_, by omega⟩
  simp only [spec_l1Cur_spoilt.l0, show ¬ (((0 : Nat) : Int) > 0) by omega, if_false]
  refine Ev.succ ?_
  simp only [spec_l1Cur_spoilt.j1, Bool.false_eq_true, if_false]
  exact Ev.now _
 | succ n ih =>
  intro s p q hs h0 h1
  by_cases hz : 0 < s.size
  ·obtain ⟨x, p1, s1, e1, q1, h2, h3⟩ := pick_ok hb (p := p) (s := q) h0 zU4_6 (s.size : Int) zU4_6
   obtain ⟨y, p2, s2, e2, q2, h4, h5⟩ := pick_ok hb (p := p1) (s := s1) zU4_6 zU4_6 (t.size : Int) zU4_6
   obtain ⟨z, p3, s3, e3, q3, h6, h7⟩ := pick_ok hb (p := p2) (s := s2) zU4_6 zU4_6 3 zU4_6
   obtain ⟨i, rfl⟩ : ∃ i : Nat, x = (i : Int) := ⟨x.toNat, by omega⟩
   have z1 := size_ext s 0 i zU4_6
   have z2 := size_ext s i s.size (Nat.le_refl _)
   have z3 := size_ext s (i + 1) s.size (Nat.le_refl _)
   have z4 := size_one (bt t y)
   by_cases c0 : z = 0
   ·have a1 : ((s.extract 0 i ++ strOfNums [bt t y]) ++ s.extract i s.size).size = s.size + 1 := by rw [ByteArray.size_append, ByteArray.size_append, z1, z2, z4]; omega
    obtain ⟨s', p', q', e, hsz⟩ := ih ((s.extract 0 i ++ strOfNums [bt t y]) ++ s.extract i s.size) p3 s3 zU4_6 zU4_6 zU4_6
    refine ⟨s', p', q', Ev.succ ?_, by omega⟩
    simp only [spec_l1Cur_spoilt.l0, show (((n + 1 : Nat) : Int) > 0) by omega, if_true, decide_eq_true (show (s.size : Int) > 0 by omega)]
    refine Ev.succ ?_
    simp only [spec_l1Cur_spoilt.j1, if_true, e1, e2, e3, Option.bind_some, q2.1, q2.2, if_pos c0, Int.toNat_natCast, show (0 : Int) ≤ (i : Int) by omega, show (i : Int) ≤ (s.size : Int) by omega, ByteArray.size_append, z1, z2, z4, sp_hm (show n ≤ 1000000 by omega), show i - 0 + 1 ≤ 9223372036854775807 by omega, show i - 0 + 1 + (s.size - i) ≤ 9223372036854775807 by omega]
    exact e
   ·by_cases c1 : z = 1
    ·have a1 : ((s.extract 0 i ++ strOfNums [bt t y]) ++ s.extract (i + 1) s.size).size = s.size := by rw [ByteArray.size_append, ByteArray.size_append, z1, z3, z4]; omega
     obtain ⟨s', p', q', e, hsz⟩ := ih ((s.extract 0 i ++ strOfNums [bt t y]) ++ s.extract (i + 1) s.size) p3 s3 zU4_6 zU4_6 zU4_6
     refine ⟨s', p', q', Ev.succ ?_, by omega⟩
     simp only [spec_l1Cur_spoilt.l0, show (((n + 1 : Nat) : Int) > 0) by omega, if_true, decide_eq_true (show (s.size : Int) > 0 by omega)]
     refine Ev.succ ?_
     simp only [spec_l1Cur_spoilt.j1, if_true, e1, e2, e3, Option.bind_some, q2.1, q2.2, if_neg c0, if_pos c1, Int.toNat_natCast, sp_hw (show i ≤ 1000000 by omega), show (0 : Int) ≤ (i : Int) by omega, show (i : Int) ≤ (s.size : Int) by omega, show (0 : Int) ≤ ((i + 1 : Nat) : Int) by omega, show ((i + 1 : Nat) : Int) ≤ (s.size : Int) by omega, ByteArray.size_append, z1, z3, z4, sp_hm (show n ≤ 1000000 by omega), show i - 0 + 1 ≤ 9223372036854775807 by omega, show i - 0 + 1 + (s.size - (i + 1)) ≤ 9223372036854775807 by omega]
     exact e
    ·have a1 : (s.extract 0 i ++ s.extract (i + 1) s.size).size = s.size - 1 := by rw [ByteArray.size_append, z1, z3]; omega
     obtain ⟨s', p', q', e, hsz⟩ := ih (s.extract 0 i ++ s.extract (i + 1) s.size) p3 s3 zU4_6 zU4_6 zU4_6
     refine ⟨s', p', q', Ev.succ ?_, by omega⟩
     simp only [spec_l1Cur_spoilt.l0, show (((n + 1 : Nat) : Int) > 0) by omega, if_true, decide_eq_true (show (s.size : Int) > 0 by omega)]
     refine Ev.succ ?_
     simp only [spec_l1Cur_spoilt.j1, if_true, e1, e2, e3, Option.bind_some, q2.1, q2.2, if_neg c0, if_neg c1, Int.toNat_natCast, sp_hw (show i ≤ 1000000 by omega), show (0 : Int) ≤ (i : Int) by omega, show (i : Int) ≤ (s.size : Int) by omega, show (0 : Int) ≤ ((i + 1 : Nat) : Int) by omega, show ((i + 1 : Nat) : Int) ≤ (s.size : Int) by omega, z1, z3, sp_hm (show n ≤ 1000000 by omega), show i - 0 + (s.size - (i + 1)) ≤ 9223372036854775807 by omega]
     exact e
  ·refine ⟨s, p, q, Ev.succ ?_, by omega⟩
   simp only [spec_l1Cur_spoilt.l0, show (((n + 1 : Nat) : Int) > 0) by omega, if_true, decide_eq_false (show ¬ ((s.size : Int) > 0) by omega)]
   refine Ev.succ ?_
   simp only [spec_l1Cur_spoilt.j1, Bool.false_eq_true, if_false]
   exact Ev.now _
theorem spoilt_ok {b : List Int} (hb : Bytes b) {p q : Int} (h0 : 0 ≤ p) (h1 : p ≤ 1152921504605000000) {s t : ByteArray} (hs : s.size ≤ 90000) (ht : 0 < t.size ∧ t.size ≤ 100) : ∃ s' p' q', Ev (fun k => spec_l1Cur_spoilt.f k b p q s t) (s', p', q') ∧ s'.size ≤ 100000 := by
 obtain ⟨x, p1, s1, e1, q1, h2, h3⟩ := pick_ok hb (p := p) (s := q) h0 zU4_6 2 zU4_6
 obtain ⟨i, rfl⟩ : ∃ i : Nat, x = (i : Int) := ⟨x.toNat, by omega⟩
 obtain ⟨s', p', q', e, hz⟩ := spoilt_l0_ok hb t ht (1 + i) s p1 s1 zU4_6 zU4_6 zU4_6
 refine ⟨s', p', q', ?_, by omega⟩
 unfold spec_l1Cur_spoilt.f
 have hw : wrap64 (1 + (i : Int)) = ((1 + i : Nat) : Int) := by rw [wid zU4_6 zU4_6]; omega
 simp only [e1, Option.bind_some, hw]
 exact e
theorem lamp_ok2 {l : List Int} (hb : Bytes l) {p s : Int} (h0 : 0 ≤ p) (h1 : p ≤ 1152921504606830000) : ∃ x p' s', spec_l1Cur_lamp.f l p s = some (x, p', s') ∧ p ≤ p' ∧ p' ≤ p + 4 := by
 obtain ⟨x, p1, s1, e1, h2, h3⟩ := one_ok hb (s := s) h0 zU4_6 14 zU4_6
 unfold spec_l1Cur_lamp.f
 rw [e1]
 simp only [Option.bind_some]
 cases x with
 | true =>
  obtain ⟨y, p2, s2, e2, h4, h5⟩ := among_ok hb (p := p1) (s := s1) zU4_6 zU4_6 [0, 1, -1, 200, 201, 4611686018427387904] zU4_7
  simp only [if_true, e2, Option.bind_some]
  exact ⟨_, _, _, rfl, by omega, by omega⟩
 | false =>
  obtain ⟨y, p2, s2, e2, _, h4, h5⟩ := pick_ok hb (p := p1) (s := s1) zU4_6 zU4_6 9 zU4_6
  simp only [Bool.false_eq_true, if_false, e2, Option.bind_some]
  exact ⟨_, _, _, rfl, by omega, by omega⟩
theorem pole_ok2 {l : List Int} (hb : Bytes l) {p s : Int} (h0 : 0 ≤ p) (h1 : p ≤ 1152921504606830000) : ∃ x y p' s', spec_l1Cur_pole.f l p s = some (x, y, p', s') ∧ p ≤ p' ∧ p' ≤ p + 8 := by
 obtain ⟨x, p1, s1, e1, _, h2, h3⟩ := pick_ok hb (s := s) h0 zU4_6 12 zU4_6
 obtain ⟨y, p2, s2, e2, _, h4, h5⟩ := pick_ok hb (p := p1) (s := s1) zU4_6 zU4_6 3 zU4_6
 obtain ⟨z, p3, s3, e3, _, h6, h7⟩ := pick_ok hb (p := p2) (s := s2) zU4_6 zU4_6 14 zU4_6
 unfold spec_l1Cur_pole.f spec_l1Cur_surePole.f
 simp only [e1, e2, e3, Option.bind_some]
 by_cases c0 : z = 0
 ·obtain ⟨a, p4, s4, e4, h8, h9⟩ := among_ok hb (p := p3) (s := s3) zU4_6 zU4_6 [0, -1, 500, 501, 4611686018427387904] zU4_7
  simp only [c0, if_true, e4, Option.bind_some]
  exact ⟨_, _, _, _, rfl, by omega, by omega⟩
 ·by_cases c1 : z = 1
  ·obtain ⟨a, p4, s4, e4, h8, h9⟩ := among_ok hb (p := p3) (s := s3) zU4_6 zU4_6 [0, -1, 6, 200, 201, 4611686018427387904] zU4_7
   simp only [c1, show ¬ ((1 : Int) = 0) by omega, if_false, if_true, e4, Option.bind_some]
   exact ⟨_, _, _, _, rfl, by omega, by omega⟩
  ·simp only [c0, c1, if_false]
   exact ⟨_, _, _, _, rfl, by omega, by omega⟩
theorem surePoles_l_ok {b : List Int} (hb : Bytes b) (d : Nat) : ∀ (p s : Int) (out : List S39) (place : Int), out.all pOk = true → out.length + d ≤ 5 → 0 ≤ place → place ≤ 4 * (out.length : Int) → 0 ≤ p → p ≤ 1152921504606827000 - 4 * d → ∃ L p' s', Ev (fun k => spec_l1Cur_surePoles.l0 k out place (d : Int) b p s) (L, p', s') ∧ L.length = out.length + d ∧ L.all pOk = true ∧ p ≤ p' ∧ p' ≤ p + 4 * d := by
 induction d with
 | zero =>
  intro p s out place ho hl hp0 hp1 h0 h1
  refine ⟨out, p, s, Ev.succ ?_, by omega, ho, by omega, by omega⟩
  simp only [spec_l1Cur_surePoles.l0, show ¬ (((0 : Nat) : Int) > 0) by omega, if_false]
  exact Ev.now _
 | succ d ih =>
  intro p s out place ho hl hp0 hp1 h0 h1
  obtain ⟨x, p1, s1, e1, q1, h2, h3⟩ := pick_ok hb (s := s) h0 zU4_6 4 zU4_6
  obtain ⟨y, p2, s2, e2, q2, h4, h5⟩ := pick_ok hb (p := p1) (s := s1) zU4_6 zU4_6 3 zU4_6
  have hk : pOk ⟨place + (1 + x), 1 + y⟩ = true := by unfold pOk; simp only [Bool.and_eq_true, inr_iff]; omega
  obtain ⟨L, p', s', e, m1, m2, m3, m4⟩ := ih p2 s2 (out ++ [(⟨place + (1 + x), 1 + y⟩ : S39)]) (place + (1 + x)) (by rw [List.all_append, ho, Bool.true_and]; simp only [List.all_cons, List.all_nil, Bool.and_true, hk]) zU4_3 zU4_6 zU4_3 zU4_6 zU4_6
  refine ⟨L, p', s', Ev.succ ?_, by rw [m1]; simp only [List.length_append, List.length_cons, List.length_nil]; omega, m2, by omega, by omega⟩
  simp only [spec_l1Cur_surePoles.l0, show (((d + 1 : Nat) : Int) > 0) by omega, if_true, e1, e2, Option.bind_some, wid (show -9223372036854775808 ≤ 1 + x by omega) zU4_6, wid (show -9223372036854775808 ≤ 1 + y by omega) zU4_6, wid (show -9223372036854775808 ≤ place + (1 + x) by omega) zU4_6, show out.length < 8796093022208 by omega, show wrap64 (((d + 1 : Nat) : Int) - 1) = (d : Int) by rw [wid zU4_6 zU4_6]; omega]
  exact e
theorem surePoles_ok {b : List Int} (hb : Bytes b) {p s : Int} (h0 : 0 ≤ p) (h1 : p ≤ 1152921504606826000) : ∃ L p' s', Ev (fun k => spec_l1Cur_surePoles.f k b p s) (L, p', s') ∧ (1 ≤ L.length ∧ L.length ≤ 5) ∧ L.all pOk = true ∧ p ≤ p' ∧ p' ≤ p + 30 := by
 obtain ⟨x, p1, s1, e1, q1, h2, h3⟩ := pick_ok hb (s := s) h0 zU4_6 5 zU4_6
 obtain ⟨L, p', s', e, m1, m2, m3, m4⟩ := surePoles_l_ok hb (1 + x).toNat p1 s1 [] 0 (by rfl) (by simp only [List.length_nil]; omega) zU4_6 zU4_7 zU4_6 zU4_6
 rw [show (((1 + x).toNat : Nat) : Int) = 1 + x by omega] at e
 refine ⟨L, p', s', ?_, by rw [m1]; simp only [List.length_nil]; omega, m2, by omega, by omega⟩
 unfold spec_l1Cur_surePoles.f
 simp only [e1, Option.bind_some, wid (show -9223372036854775808 ≤ 1 + x by omega) zU4_6]
 exact e
theorem poles_ok {b : List Int} (hb : Bytes b) {p s : Int} (h0 : 0 ≤ p) (h1 : p ≤ 1152921504606825000) : ∃ L p' s', Ev (fun k => spec_l1Cur_poles.f k b p s) (L, p', s') ∧ L.length ≤ 6 ∧ p ≤ p' ∧ p' ≤ p + 40 := by
 obtain ⟨L, p1, s1, e1, q1, q2, h2, h3⟩ := surePoles_ok hb (s := s) h0 zU4_6
 obtain ⟨x, p2, s2, e2, q3, h4, h5⟩ := pick_ok hb (p := p1) (s := s1) zU4_6 zU4_6 14 zU4_6
 obtain ⟨y, p3, s3, e3, h6, h7⟩ := among_ok hb (p := p2) (s := s2) zU4_6 zU4_6 [0, -1, 9, 201, 4611686018427387904] zU4_7
 unfold spec_l1Cur_poles.f
 by_cases c0 : x = 0
 ·refine ⟨[], p2, s2, Ev.bind e1 ?_, by simp, by omega, by omega⟩
  simp only [e2, Option.bind_some, if_pos c0]
  exact Ev.now _
 ·by_cases c1 : x = 1
  ·refine ⟨L.set (0 : Int).toNat (⟨(rd_T39 L 0).f0, y⟩ : S39), p3, s3, Ev.bind e1 ?_, by rw [List.length_set]; omega, by omega, by omega⟩
   simp only [e2, e3, Option.bind_some, if_neg c0, if_pos c1, show (0 : Int) < (L.length : Int) by omega, if_true]
   exact Ev.now _
  ·by_cases c2 : x = 2
   ·refine ⟨L ++ [(⟨(rd_T39 L 0).f0, (rd_T39 L 0).f1⟩ : S39)], p2, s2, Ev.bind e1 ?_, by simp only [List.length_append, List.length_cons, List.length_nil]; omega, by omega, by omega⟩
    simp only [e2, Option.bind_some, if_neg c0, if_neg c1, if_pos c2, show (0 : Int) < (L.length : Int) by omega, show L.length < 8796093022208 by omega, if_true]
    exact Ev.now _
   ·refine ⟨L, p2, s2, Ev.bind e1 ?_, by omega, by omega, by omega⟩
    simp only [e2, Option.bind_some, if_neg c0, if_neg c1, if_neg c2]
    exact Ev.now _
theorem drawDark_ok {b : List Int} (hb : Bytes b) : ∃ a L m, Ev (fun k => spec_DrawDarkPlaces.f k b) (a, L, m) ∧ L.length ≤ 6 := by
 obtain ⟨x, p1, s1, e1, h2, h3⟩ := lamp_ok2 hb (p := 0) (s := 0) zU4_6 zU4_6
 obtain ⟨L, p2, s2, e2, q2, h4, h5⟩ := poles_ok hb (p := p1) (s := s1) zU4_6 zU4_6
 obtain ⟨y, p3, s3, e3, h6, h7⟩ := among_ok hb (p := p2) (s := s2) zU4_6 zU4_6 [0, 5, 10, 30, 500, 501, -1] zU4_7
 refine ⟨x, L, y, ?_, q2⟩
 unfold spec_DrawDarkPlaces.f
 simp only [e1, Option.bind_some]
 refine Ev.bind e2 ?_
 simp only [e3, Option.bind_some]
 exact Ev.now _
theorem drawIsHid_ok {b : List Int} (hb : Bytes b) : ∃ x y z u v, spec_DrawIsHidden.f b = some (x, y, z, u, v) := by
 obtain ⟨x, p1, s1, e1, h2, h3⟩ := lamp_ok2 hb (p := 0) (s := 0) zU4_6 zU4_6
 obtain ⟨y, z, p2, s2, e2, h4, h5⟩ := pole_ok2 hb (p := p1) (s := s1) zU4_6 zU4_6
 obtain ⟨u, v, p3, s3, e3, h6, h7⟩ := pole_ok2 hb (p := p2) (s := s2) zU4_6 zU4_6
 unfold spec_DrawIsHidden.f
 simp only [e1, e2, e3, Option.bind_some]
 exact ⟨_, _, _, _, _, rfl⟩
theorem drawWh_ok {b : List Int} (hb : Bytes b) : ∃ x, spec_DrawWholeShadows.f b = some x := by
 obtain ⟨y, p3, s3, e3, h6, h7⟩ := among_ok hb (p := 0) (s := 0) zU4_6 zU4_6 [2, 3, 4, 6, 9, 12, 40, 41, 1, -1] zU4_7
 unfold spec_DrawWholeShadows.f
 simp only [e3, Option.bind_some]
 exact ⟨_, rfl⟩
theorem drawPlText_ok {b : List Int} (hb : Bytes b) : ∃ L, Ev (fun k => spec_DrawPolesText.f k b) L ∧ L.length ≤ 6 := by
 obtain ⟨L, p2, s2, e2, q2, h4, h5⟩ := poles_ok hb (p := 0) (s := 0) zU4_6 zU4_6
 unfold spec_DrawPolesText.f
 exact ⟨L, Ev.bind e2 (Ev.now _), q2⟩
theorem plT_small {l : List S39} (hl : l.length ≤ 6) (hc : l.all pOk = true) : (plT l).size ≤ 10000 := by
 have hall : ∀ x ∈ l.map pt, x.size ≤ 1000 := by
  intro x hx
  obtain ⟨c, hm, rfl⟩ := List.mem_map.1 hx
  exact pt_size (List.all_eq_true.1 hc _ hm)
 unfold plT
 cases hq : l.map pt with
 | nil => simp [joinP]
 | cons x r =>
  rw [hq] at hall
  have h1 := hall x zU4_7
  have h2 := tailP_size r (fun y hy => hall y (by simp [hy]))
  have h3 : r.length + 1 = l.length := by rw [← List.length_map (f := pt), hq]; simp
  show (x ++ tailP r).size ≤ _
  simp only [ByteArray.size_append]
  omega
theorem drawParsePl_ok {l : List Int} (hb : Bytes l) : ∃ s, s.size ≤ 1048576 ∧ Ev (fun k => spec_DrawParsePoles.f k l) s := by
 obtain ⟨L, p1, s1, e1, q1, q2, h2, h3⟩ := surePoles_ok hb (p := 0) (s := 0) zU4_6 zU4_6
 obtain ⟨t, p2, s2, e2, h4, h5⟩ := one_ok hb (p := p1) (s := s1) zU4_6 zU4_6 3 zU4_6
 have ht : Ev (fun k => spec_swText.f k L) (plT L) := spec_swText.ev zU4_6 q2
 have hz := plT_small zU4_6 q2
 unfold spec_DrawParsePoles.f
 cases t with
 | true =>
  obtain ⟨s', p', q', e, hz⟩ := spoilt_ok hb (p := p2) (q := s2) zU4_6 zU4_6 (s := plT L) (t := (⟨#[48, 49, 50, 51, 124, 44, 120]⟩ : ByteArray)) zU4_6 ⟨by decide, by decide⟩
  refine ⟨s', by omega, Ev.bind e1 (Ev.bind ht ?_)⟩
  simp only [e2, Option.bind_some, if_true]
  exact Ev.bind e (Ev.now _)
 | false =>
  refine ⟨plT L, by omega, Ev.bind e1 (Ev.bind ht ?_)⟩
  simp only [e2, Option.bind_some, Bool.false_eq_true, if_false]
  exact Ev.now _
theorem laws_ySame.ev_l (l : List Int) (hl : l.length ≤ 4611686018427387904) (d : Nat) : ∀ i : Nat, i + d = l.length → Ev (fun k => laws_ySame.l0 k l l (l.length : Int) (i : Int)) true := by
 induction d with
 | zero =>
  intro i hi
  refine Ev.succ ?_
  simp only [laws_ySame.l0, show ¬ ((i : Int) < (l.length : Int)) by omega, if_false]
  exact Ev.now _
 | succ d ih =>
  intro i hi
  refine Ev.succ ?_
  simp only [laws_ySame.l0, show ((i : Int) < (l.length : Int)) by omega, show (0 : Int) ≤ (i : Int) by omega, if_true, wid (show -9223372036854775808 ≤ (i : Int) + 1 by omega) zU4_6]
  exact ih (i + 1) zU4_6
theorem laws_ySame.refl {l : List Int} (hl : l.length ≤ 4611686018427387904) : Ev (fun k => laws_ySame.f k l l) true := by
 unfold laws_ySame.f
 simp only [if_true]
 exact laws_ySame.ev_l l hl l.length 0 zU4_6
theorem rdLL0 {l : List (List Int)} {i : Nat} (h : i < l.length) : rd_L3 l (i : Int) ∈ l := by
 unfold rd_L3
 rw [Int.toNat_natCast, List.getD_eq_getElem?_getD, List.getElem?_eq_getElem h]
 exact List.getElem_mem h
theorem laws_yRows.ev_l (l : List (List Int)) (hl : l.length ≤ 4611686018427387904) (hy : ∀ y ∈ l, y.length ≤ 4611686018427387904) (d : Nat) : ∀ i : Nat, i + d = l.length → Ev (fun k => laws_yRows.l0 k l l (l.length : Int) (i : Int)) true := by
 induction d with
 | zero =>
  intro i hi
  refine Ev.succ ?_
  simp only [laws_yRows.l0, show ¬ ((i : Int) < (l.length : Int)) by omega, if_false]
  exact Ev.now _
 | succ d ih =>
  intro i hi
  refine Ev.succ ?_
  simp only [laws_yRows.l0, show ((i : Int) < (l.length : Int)) by omega, show (0 : Int) ≤ (i : Int) by omega, if_true]
  refine Ev.bind (laws_ySame.refl (hy _ (rdLL0 zU4_6))) ?_
  simp only [if_true, wid (show -9223372036854775808 ≤ (i : Int) + 1 by omega) zU4_6]
  exact ih (i + 1) zU4_6
theorem laws_yRows.refl {l : List (List Int)} (hl : l.length ≤ 4611686018427387904) (hy : ∀ y ∈ l, y.length ≤ 4611686018427387904) : Ev (fun k => laws_yRows.f k l l) true := by
 unfold laws_yRows.f
 simp only [if_true]
 exact laws_yRows.ev_l l hl hy l.length 0 zU4_6
def toR (o : Option (List S39)) : List S39 × Bool := match o with
 | some cs => if mRow cs = true then (cs, true) else ([], false)
 | none => ([], false)
theorem rdI_ev {l : List UInt8} (hl : l.length ≤ 1048576) : ∃ a b : ByteArray × Bool, strings_Cut.f (mkS l) (⟨#[124]⟩ : ByteArray) = some (a.1, b.1, b.2) ∧ impl_number.f a.1 = some (numOf a.1) ∧ impl_number.f b.1 = some (numOf b.1) ∧ rdI l = (if (numOf a.1).2 = true ∧ (numOf b.1).2 = true then some ⟨(numOf a.1).1, (numOf b.1).1⟩ else none) := by
 have hc := cutOf_brk2 (mkS l) 124 (⟨#[124]⟩ : ByteArray) rfl
 rw [mkS_data] at hc
 have hcut := cut_eq2 (a := mkS l) (b := (⟨#[124]⟩ : ByteArray)) (by rw [mkS_size]; exact hl)
 unfold rdI
 cases hb : brk 124 l with
 | none =>
  rw [hb] at hc
  refine ⟨(mkS l, false), (mkS [], false), by rw [hcut, hc], num_eq2 (by rw [mkS_size]; exact hl), num_eq2 (by rw [mkS_size]; simp), ?_⟩
  have : (numOf (mkS [])).2 = false := numOf_empty (by rw [mkS_data])
  simp only [this, Bool.false_eq_true, and_false, if_false]
 | some p =>
  rw [hb] at hc
  obtain ⟨e, _⟩ := brk_some (x := p.1) (y := p.2) hb
  have hl2 := congrArg List.length e
  simp only [List.length_append, List.length_cons] at hl2
  exact ⟨(mkS p.1, false), (mkS p.2, true), by rw [hcut, hc], num_eq2 zU4_5, num_eq2 zU4_5, rfl⟩
theorem pp_impl_l (W : List (List UInt8)) (hW : ∀ x ∈ W, x.length ≤ 1048576) (hn : W.length ≤ 1048577) (d : Nat) : ∀ (i : Nat) (out : List S39), i + d = W.length → out.length ≤ i → Ev (fun k => impl_ParsePoles.l0 k out (W.map mkS) (W.length : Int) (i : Int)) (toR ((rdL rdI (W.drop i)).map fun cs => out ++ cs)) := by
 induction d with
 | zero =>
  intro i out hi ho
  refine Ev.succ ?_
  simp only [impl_ParsePoles.l0, show ¬ ((i : Int) < (W.length : Int)) by omega, if_false]
  rw [List.drop_eq_nil_of_le zU4_6]
  simp only [rdL, Option.map_some, List.append_nil, toR]
  refine Ev.bind (impl_areAnyPoles.ev zU4_6) ?_
  cases mRow out with
  | true => simp only [if_true]; exact Ev.now _
  | false => simp only [Bool.false_eq_true, if_false]; exact Ev.now _
 | succ d ih =>
  intro i out hi ho
  have hlt : i < W.length := by omega
  have hx := hW _ (List.getElem_mem hlt)
  have hrd := rdOf_mk2 (l := W) hlt
  obtain ⟨a, b, e1, e2, e3, e4⟩ := rdI_ev hx
  refine Ev.succ ?_
  simp only [impl_ParsePoles.l0, List.length_map, show ((i : Int) < (W.length : Int)) by omega, show (0 : Int) ≤ (i : Int) by omega, if_true, hrd, e1, e2, e3, Option.bind_some, show out.length < 8796093022208 by omega]
  rw [wid (show -9223372036854775808 ≤ (i : Int) + 1 by omega) zU4_6, List.drop_eq_getElem_cons hlt]
  simp only [rdL, e4]
  by_cases h1 : (numOf a.1).2 = true
  ·by_cases h2 : (numOf b.1).2 = true
   ·simp only [h1, h2, and_self, if_true]
    refine ev_eq (ih (i + 1) (out ++ [(⟨(numOf a.1).1, (numOf b.1).1⟩ : S39)]) zU4_6 zU4_2) ?_
    cases rdL rdI (W.drop (i + 1)) with
    | none => rfl
    | some cs => simp only [Option.map_some, List.append_assoc, List.cons_append, List.nil_append]
   ·simp only [h1, h2, and_false, if_true, if_false, Bool.false_eq_true]
    exact Ev.now _
  ·simp only [h1, false_and, if_false, Bool.false_eq_true]
   exact Ev.now _
theorem impl_ParsePoles.ev {s : ByteArray} (hs : s.size ≤ 1048576) : Ev (fun k => impl_ParsePoles.f k s) (mPP rdI s.data.toList) := by
 have hlen : s.data.toList.length = s.size := by simp
 have hq := part_len (c := 44) (l := s.data.toList)
 unfold impl_ParsePoles.f
 refine Ev.bindc (split_eq hs 44 (⟨#[44]⟩ : ByteArray) rfl) ?_
 rw [List.length_map]
 have lp := pp_impl_l (spl 44 s.data.toList) (fun z hz => by have := hq.1 z hz; omega) zU4_6 (spl 44 s.data.toList).length 0 [] zU4_6 zU4_7
 rw [List.drop_zero] at lp
 refine ev_eq lp ?_
 unfold mPP
 cases rdL rdI (spl 44 s.data.toList) <;> rfl
theorem pp_spec_l (W : List (List UInt8)) (hW : ∀ x ∈ W, x.length ≤ 1000) (hn : W.length ≤ 1048577) (d : Nat) : ∀ (i : Nat) (out : List S39), i + d = W.length → out.length ≤ i → Ev (fun k => spec_swParse.l0 k out (W.map mkS) (W.length : Int) (i : Int)) (toR ((rdL rdS (W.drop i)).map fun cs => out ++ cs)) := by
 induction d with
 | zero =>
  intro i out hi ho
  refine Ev.succ ?_
  simp only [spec_swParse.l0, show ¬ ((i : Int) < (W.length : Int)) by omega, if_false]
  rw [List.drop_eq_nil_of_le zU4_6]
  simp only [rdL, Option.map_some, List.append_nil, toR]
  refine Ev.bind (spec_swRow.ev zU4_6) ?_
  cases mRow out with
  | true => simp only [if_true]; exact Ev.now _
  | false => simp only [Bool.false_eq_true, if_false]; exact Ev.now _
 | succ d ih =>
  intro i out hi ho
  have hlt : i < W.length := by omega
  have hx := hW _ (List.getElem_mem hlt)
  have hrd := rdOf_mk2 (l := W) hlt
  have hp := part_len (c := 124) (l := W[i])
  have hsp := spec_l1Split.ev (s := mkS W[i]) zU4_5 124
  rw [mkS_data] at hsp
  rw [List.drop_eq_getElem_cons hlt]
  simp only [rdL]
  refine Ev.succ ?_
  simp only [spec_swParse.l0, List.length_map, show ((i : Int) < (W.length : Int)) by omega, show (0 : Int) ≤ (i : Int) by omega, if_true, hrd]
  refine Ev.bind hsp ?_
  match hq : spl 124 W[i] with
  | [] => exact absurd hq (spl_ne _ _)
  | [x] =>
   rw [show rdS W[i] = none by unfold rdS; rw [hq]]
   exact Ev.now _
  | x :: y :: z :: u =>
   rw [show rdS W[i] = none by unfold rdS; rw [hq]]
   simp only [List.map_cons, List.length_cons, show ¬ (((u.map mkS).length + 1 + 1 + 1 : Nat) : Int) = 2 by omega, if_false]
   exact Ev.now _
  | [x, y] =>
   rw [hq] at hp
   have hx1 := hp.1 x zU4_7
   have hy1 := hp.1 y zU4_7
   have r0 : rdOf ByteArray.empty ([x, y].map mkS) 0 = mkS x := rfl
   have r1 : rdOf ByteArray.empty ([x, y].map mkS) 1 = mkS y := rfl
   have hl2 : ((([x, y].map mkS).length : Nat) : Int) = 2 := rfl
   simp only [hl2, r0, r1, if_true, show (0 : Int) < 2 by omega, show (1 : Int) < 2 by omega]
   refine Ev.bind (spec_l1Read.ev (s := mkS x) zU4_5) ?_
   refine Ev.bind (spec_l1Read.ev (s := mkS y) zU4_5) ?_
   simp only [mkS_data, show out.length < 8796093022208 by omega, if_true]
   rw [wid (show -9223372036854775808 ≤ (i : Int) + 1 by omega) zU4_6]
   rw [show rdS W[i] = some ⟨rd6 x, rd6 y⟩ by unfold rdS; rw [hq]]
   refine ev_eq (ih (i + 1) (out ++ [(⟨rd6 x, rd6 y⟩ : S39)]) zU4_6 zU4_2) ?_
   cases rdL rdS (W.drop (i + 1)) with
   | none => rfl
   | some cs => simp only [Option.map_some, List.append_assoc, List.cons_append, List.nil_append]
theorem spec_ParsePoles.ev {s : ByteArray} (hs : s.size ≤ 1048576) : Ev (fun k => spec_ParsePoles.f k s) (mPP rdS s.data.toList) := by
 have hlen : s.data.toList.length = s.size := by simp
 have hq := part_len (c := 44) (l := s.data.toList)
 unfold spec_ParsePoles.f
 refine Ev.bind (a := mPP rdS s.data.toList) ?_ (Ev.now _)
 unfold spec_swParse.f
 by_cases c : (s.size : Int) > 50
 ·simp only [if_pos c]
  rcases mPP_back rdS_bk s.data.toList with h | ⟨l, h, e⟩
  ·rw [h]; exact Ev.now _
  ·have := plT_len h
   rw [← e] at this
   omega
 ·simp only [if_neg c]
  refine Ev.bind (spec_l1Split.ev (s := s) zU4_6 44) ?_
  rw [List.length_map]
  have lp := pp_spec_l (spl 44 s.data.toList) (fun z hz => by have := hq.1 z hz; omega) zU4_6 (spl 44 s.data.toList).length 0 [] zU4_6 zU4_7
  rw [List.drop_zero] at lp
  refine ev_eq lp ?_
  unfold mPP
  cases rdL rdS (spl 44 s.data.toList) <;> rfl
theorem sd_j13 (s : ByteArray) : Ev (fun k => laws_FnShadowsDark.j13 k s (mPP rdI s.data.toList).1 (mPP rdI s.data.toList).2 false) true := by
 refine Ev.succ ?_
 simp only [laws_FnShadowsDark.j13, Bool.false_eq_true, if_false]
 exact pl_back s
theorem sd_j12 (L : List S39) (hL : L.length ≤ 6) (s : ByteArray) (f : Bool) (hf : f = true → mRow L = true) : Ev (fun k => laws_FnShadowsDark.j12 k L (mPlText L).1 s (mPP rdI s.data.toList).1 (mPP rdI s.data.toList).2 f) true := by
 refine Ev.succ ?_
 simp only [laws_FnShadowsDark.j12]
 cases f with
 | false => simp only [Bool.false_eq_true, if_false]; exact pl_back s
 | true =>
  have h := hf rfl
  simp only [if_true]
  unfold mPlText
  rw [if_pos h]
  have hz := plT_size h
  have e := impl_ParsePoles.ev (s := plT L) zU4_6
  rw [mPP_mk rdI_mk h] at e
  refine Ev.bind e ?_
  simp only [if_true]
  refine Ev.bind (laws_yPoles.refl zU4_6) ?_
  exact sd_j13 s
theorem sd_l4 (n : Int) (L : List S39) (hL : L.length ≤ 6) (s : ByteArray) (W : List (List Int)) (hW : W.length ≤ 1000) (hg : ∀ y ∈ W, (2 ≤ n ∧ n ≤ 40) ∧ ∃ p h : Int, (1 ≤ p ∧ p ≤ 12) ∧ (1 ≤ h ∧ h < n) ∧ whG n p h ∧ y = [p, h, Int.tdiv (p * h) (n - h)]) (d : Nat) : ∀ i : Nat, i + d = W.length → Ev (fun k => laws_FnShadowsDark.l4 k n L (mPlText L).1 (mPlText L).2 s (mPP rdI s.data.toList).1 (mPP rdI s.data.toList).2 W (W.length : Int) (i : Int)) true := by
 induction d with
 | zero =>
  intro i hi
  refine Ev.succ ?_
  simp only [laws_FnShadowsDark.l4, show ¬ ((i : Int) < (W.length : Int)) by omega, if_false]
  by_cases h : mRow L = true
  ·rw [show (mPlText L).2 = true by unfold mPlText; rw [if_pos h]]
   simp only [if_true]
   exact sd_j12 L hL s _ (fun _ => h)
  ·rw [show (mPlText L).2 = false by unfold mPlText; rw [if_neg h]]
   simp only [Bool.false_eq_true, if_false]
   exact sd_j12 L hL s false (fun q => absurd q zU4_7)
 | succ d ih =>
  intro i hi
  have hlt : i < W.length := by omega
  obtain ⟨hn, p, h, hp, hh, hG, hy⟩ := hg _ (List.getElem_mem hlt)
  have hr : rd_L3 W (i : Int) = [p, h, Int.tdiv (p * h) (n - h)] := by
   rw [← hy]
   unfold rd_L3
   rw [Int.toNat_natCast, List.getD_eq_getElem?_getD, List.getElem?_eq_getElem hlt]; rfl
  have hb : okP n p h = true := okP_iff.2 zU4_6
  have b := okP_bd hb
  have e := impl_ShadowLength.ev2 n p h
  have l1 := lo_den1 (x := p * h) (y := n - h) zU4_6 hG.1 zU4_6
  rw [show dSL n p h = (Int.tdiv (p * h) (n - h), 1, true) by unfold dSL; rw [if_pos hb, l1.1, l1.2]] at e
  refine Ev.succ ?_
  simp only [laws_FnShadowsDark.l4, show ((i : Int) < (W.length : Int)) by omega, show (0 : Int) ≤ (i : Int) by omega, if_true, hr, List.length_cons, List.length_nil]
  simp only [show ((0 + 1 + 1 + 1 : Nat) : Int) = 3 from rfl, if_true, show (0 : Int) < 3 by omega, show (1 : Int) < 3 by omega, show (2 : Int) < 3 by omega, show rd [p, h, Int.tdiv (p * h) (n - h)] 0 = p from rfl, show rd [p, h, Int.tdiv (p * h) (n - h)] 1 = h from rfl, show rd [p, h, Int.tdiv (p * h) (n - h)] 2 = Int.tdiv (p * h) (n - h) from rfl]
  refine Ev.bind e ?_
  simp only [if_true, wid (show -9223372036854775808 ≤ (i : Int) + 1 by omega) zU4_6]
  exact ih (i + 1) zU4_6
theorem sd_j9 {b : List Int} (hb : Bytes b) : Ev (fun k => laws_FnShadowsDark.j9 k b) true := by
 obtain ⟨x, y, z, u, v, e1⟩ := drawIsHid_ok hb
 obtain ⟨n, e2⟩ := drawWh_ok hb
 obtain ⟨L, e3, hL⟩ := drawPlText_ok hb
 obtain ⟨s, hs, e4⟩ := drawParsePl_ok hb
 have hw := mWhS_ok n
 refine Ev.succ ?_
 simp only [laws_FnShadowsDark.j9]
 refine Ev.bindc e1 ?_
 refine Ev.bindc (impl_IsHidden.eq x y z u v) ?_
 refine Ev.bind (spec_IsHidden.ev x y z u v) ?_
 refine Ev.bindc e2 ?_
 refine Ev.bind (impl_WholeShadows.ev n) ?_
 refine Ev.bind (spec_WholeShadows.ev n) ?_
 refine Ev.bind e3 ?_
 refine Ev.bind (impl_PolesText.ev zU4_6) ?_
 refine Ev.bind (spec_PolesText.ev zU4_6) ?_
 refine Ev.bind e4 ?_
 refine Ev.bind (impl_ParsePoles.ev hs) ?_
 refine Ev.bind (spec_ParsePoles.ev hs) ?_
 rw [← mPP_same]
 simp only [bne_self_eq_false, Bool.false_eq_true, if_false, if_true]
 refine Ev.bind (laws_yRows.refl zU4_6 (fun y hy => by obtain ⟨_, p, h, _, _, _, e⟩ := hw.2 y hy; rw [e]; simp)) ?_
 simp only [if_true]
 have hq := pl_len s
 refine Ev.bind (laws_yPoles.refl zU4_6) ?_
 refine Ev.succ ?_
 simp only [laws_FnShadowsDark.j10, Bool.not_true, Bool.false_eq_true, if_false]
 exact sd_l4 n L hL s _ zU4_6 hw.2 (mWhS n).1.length 0 zU4_6
theorem sd_l3 {b : List Int} {L : Int} {l : List S39} (hp : mPoles L l = true) (m : Int) {n : Nat} (hn : n ≤ 40) (hm : inr 0 500 m = true) (hnm : (n : Int) ≤ m) (h : Ev (fun k => laws_FnShadowsDark.l2 k b L l m (mDark L l m).1 ((n + 1 : Nat) : Int)) true) (d : Nat) : ∀ (i : Nat) (t : Bool), i + d = l.length → (t || anyF (dkT L l n) d i) = dkAt L l n → Ev (fun k => laws_FnShadowsDark.l3 k b L l m (mDark L l m).1 (n : Int) t l (l.length : Int) (i : Int)) true := by
 have hlen := (mPoles_el hp).2.1
 have hM := inr_iff.1 hm
 induction d with
 | zero =>
  intro i t hi ht
  refine Ev.succ ?_
  simp only [laws_FnShadowsDark.l3, show ¬ ((i : Int) < (l.length : Int)) by omega, if_false]
  have hr := mDark_rise L l m
  refine Ev.bind (laws_yHas.ev (n : Int) zU4_6) ?_
  have e : decide ((n : Int) ∈ (mDark L l m).1) = dkAt L l n := by
   unfold mDark
   rw [if_pos (by rw [hp, hm]; rfl)]
   exact fltL_has zU4_6 zU4_6
  unfold anyF at ht
  rw [Bool.or_false] at ht
  rw [e, ht, show wrap64 ((n : Int) + 1) = ((n + 1 : Nat) : Int) by rw [wid zU4_6 zU4_6]; rfl]
  simp only [bne_self_eq_false, Bool.false_eq_true, if_false]
  exact h
 | succ d ih =>
  intro i t hi ht
  have hlt : i < l.length := by omega
  have hb := mPoles_ok hp hlt
  have e0 : (rd_T39 l (i : Int)).f0 = pX l i := rfl
  have e1 : (rd_T39 l (i : Int)).f1 = pH l i := rfl
  have e := impl_ShadowEnd.ev2 L (pX l i) (pH l i)
  rw [show dSE L (pX l i) (pH l i) = (loA (pX l i * L) (L - pH l i), loB (pX l i * L) (L - pH l i), true) by unfold dSE; rw [if_pos hb]] at e
  have ok := okP_iff.1 hb
  have bd := okP_bd hb
  have y0 := loB_pos (a := pX l i * L) (b := L - pH l i) zU4_6
  have hat := lo_at (n := (n : Int)) (x := pX l i * L) (y := L - pH l i) zU4_6
  have b2 := mul_bd (a := (n : Int)) (b := loB (pX l i * L) (L - pH l i)) (A := 40) (B := 200) zU4_6 zU4_6 zU4_6 zU4_6
  unfold anyF at ht
  refine Ev.succ ?_
  simp only [laws_FnShadowsDark.l3, show ((i : Int) < (l.length : Int)) by omega, show (0 : Int) ≤ (i : Int) by omega, if_true, e0, e1, wid (show -9223372036854775808 ≤ (i : Int) + 1 by omega) zU4_6]
  refine Ev.bind e ?_
  simp only [if_true, wid (show -9223372036854775808 ≤ (n : Int) * loB (pX l i * L) (L - pH l i) by omega) zU4_6]
  cases t with
  | true =>
   simp only [if_true]
   refine ih (i + 1) true zU4_6 ?_
   simp only [Bool.true_or] at ht ⊢
   exact ht
  | false =>
   simp only [Bool.false_eq_true, if_false]
   rw [Bool.false_or] at ht
   by_cases c : (n : Int) > pX l i
   ·simp only [c, if_true]
    refine ih (i + 1) _ zU4_6 ?_
    rw [← ht]
    congr 1
    unfold dkT
    rw [decide_eq_true (show pX l i < (n : Int) from c), Bool.true_and]
    exact decide_eq_decide.2 hat
   ·simp only [c, if_false]
    refine ih (i + 1) false zU4_6 ?_
    rw [← ht]
    congr 1
    unfold dkT
    rw [decide_eq_false (show ¬ pX l i < (n : Int) from c), Bool.false_and]
theorem sd_end {b : List Int} (hb : Bytes b) (L : Int) (l : List S39) (m : Int) : Ev (fun k => (laws_yRises.f k (mDark L l m).1).bind fun t => (if t = true then (laws_FnShadowsDark.j9 k b) else (some false))) true := by
 have hr := mDark_rise L l m
 refine Ev.bind (laws_yRises.ev zU4_6 hr.1) ?_
 simp only [if_true]
 exact sd_j9 hb
theorem sd_l2 {b : List Int} (hb : Bytes b) {L : Int} {l : List S39} (hp : mPoles L l = true) (m : Int) (hm : inr 0 500 m = true) (d : Nat) : ∀ n : Nat, n + d = 41 → Ev (fun k => laws_FnShadowsDark.l2 k b L l m (mDark L l m).1 (n : Int)) true := by
 induction d with
 | zero =>
  intro n hn
  refine Ev.succ ?_
  simp only [laws_FnShadowsDark.l2]
  by_cases c : (n : Int) ≤ m
  ·simp only [c, if_true, decide_eq_false (show ¬ ((n : Int) ≤ 40) by omega)]
   refine Ev.succ ?_
   simp only [laws_FnShadowsDark.j7, Bool.false_eq_true, if_false]
   exact sd_end hb L l m
  ·simp only [c, if_false]
   refine Ev.succ ?_
   simp only [laws_FnShadowsDark.j7, Bool.false_eq_true, if_false]
   exact sd_end hb L l m
 | succ d ih =>
  intro n hn
  refine Ev.succ ?_
  simp only [laws_FnShadowsDark.l2]
  by_cases c : (n : Int) ≤ m
  ·simp only [c, if_true, decide_eq_true (show ((n : Int) ≤ 40) by omega)]
   refine Ev.succ ?_
   simp only [laws_FnShadowsDark.j7, if_true]
   exact sd_l3 hp m zU4_6 hm c (ih (n + 1) zU4_6) l.length 0 false zU4_6 (by rw [Bool.false_or]; rfl)
  ·simp only [c, if_false]
   refine Ev.succ ?_
   simp only [laws_FnShadowsDark.j7, Bool.false_eq_true, if_false]
   exact sd_end hb L l m
theorem far_le {L : Int} {l : List S39} (hp : mPoles L l = true) : bFar L l < l.length ∧ ∀ i, i < l.length → loA (pX l i * L) (L - pH l i) * loB (pX l (bFar L l) * L) (L - pH l (bFar L l)) ≤ loA (pX l (bFar L l) * L) (L - pH l (bFar L l)) * loB (pX l i * L) (L - pH l i) := by
 have hlen := (mPoles_el hp).2.1
 have h := bestF_all (a := pX l) (c := sC L l) (n := l.length) (fun i hi => (bs_bd hp hi hi).1.1) zU4_6
 refine ⟨h.1, fun i hi => ?_⟩
 have h1 := okP_iff.1 (mPoles_ok hp hi)
 have h2 := okP_iff.1 (mPoles_ok hp h.1)
 refine (lo_le zU4_6 (by unfold bFar; omega)).2 ?_
 have h3 := h.2.1 i hi
 have e1 : pX l i * L * (L - pH l (bFar L l)) = (pX l i * sC L l (bFar L l)) * L := by unfold sC; grind
 have e2 : pX l (bFar L l) * L * (L - pH l i) = (pX l (bFar L l) * sC L l i) * L := by unfold sC; grind
 rw [e1, e2]
 exact Int.mul_le_mul_of_nonneg_right h3 zU4_6
theorem long_le {L : Int} {l : List S39} (hp : mPoles L l = true) : bLong L l < l.length ∧ (∀ i, i < l.length → loA (pX l i * pH l i) (L - pH l i) * loB (pX l (bLong L l) * pH l (bLong L l)) (L - pH l (bLong L l)) ≤ loA (pX l (bLong L l) * pH l (bLong L l)) (L - pH l (bLong L l)) * loB (pX l i * pH l i) (L - pH l i)) ∧ (∀ i, i < bLong L l → loA (pX l i * pH l i) (L - pH l i) * loB (pX l (bLong L l) * pH l (bLong L l)) (L - pH l (bLong L l)) ≠ loA (pX l (bLong L l) * pH l (bLong L l)) (L - pH l (bLong L l)) * loB (pX l i * pH l i) (L - pH l i)) := by
 have hlen := (mPoles_el hp).2.1
 have h := bestF_all (a := sA l) (c := sC L l) (n := l.length) (fun i hi => (bs_bd hp hi hi).1.1) zU4_6
 have h2 := okP_iff.1 (mPoles_ok hp h.1)
 refine ⟨h.1, fun i hi => ?_, fun i hi q => ?_⟩
 ·have h1 := okP_iff.1 (mPoles_ok hp hi)
  exact (lo_le zU4_6 (by unfold bLong; omega)).2 (h.2.1 i hi)
 ·have h1 := okP_iff.1 (mPoles_ok hp (Nat.lt_trans hi h.1))
  have q2 := (lo_eq2 zU4_6 (by unfold bLong; omega)).1 q
  have h3 := h.2.2 i hi
  have e1 : sA l i * sC L l (bLong L l) = pX l i * pH l i * (L - pH l (bLong L l)) := rfl
  have e2 : sA l (bLong L l) * sC L l i = pX l (bLong L l) * pH l (bLong L l) * (L - pH l i) := rfl
  unfold bLong at e1 e2 q2
  omega
theorem sd_l1 {b : List Int} {L : Int} {l : List S39} (hp : mPoles L l = true) (m : Int) {i : Nat} (hi : i < l.length) (x9 r : Bool) (x16 x20 x21 x27 x28 : Int) (h : Ev (fun k => laws_FnShadowsDark.l0 k b L l m (mDark L l m).1 x9 (mHid L l).1 x16 x20 x21 r x27 x28 l (l.length : Int) ((i + 1 : Nat) : Int)) true) (d : Nat) : ∀ (j : Nat) (t : Bool), j + d = i → (t || anyF (hdJ L l i) d j) = hdA L l i → Ev (fun k => laws_FnShadowsDark.l1 k b L l m (mDark L l m).1 x9 (mHid L l).1 x16 x20 x21 r x27 x28 (i : Int) t l (l.length : Int) (i : Int) (l.take i) (i : Int) (j : Int) (pX l i) (pH l i)) true := by
 have hlen := (mPoles_el hp).2.1
 have ht : ((l.take i).length : Int) = (i : Int) := by rw [List.length_take]; omega
 induction d with
 | zero =>
  intro j t hj hq
  refine Ev.succ ?_
  simp only [laws_FnShadowsDark.l1, show ¬ ((j : Int) < (i : Int)) by omega, if_false]
  have hr := mHid_rise L l
  refine Ev.bind (laws_yHas.ev (i : Int) zU4_6) ?_
  have e : decide ((i : Int) ∈ (mHid L l).1) = hdA L l i := by
   unfold mHid
   rw [if_pos hp]
   exact fltL_has zU4_6 zU4_6
  unfold anyF at hq
  rw [Bool.or_false] at hq
  rw [e, hq, show wrap64 ((i : Int) + 1) = ((i + 1 : Nat) : Int) by rw [wid zU4_6 zU4_6]; rfl]
  simp only [bne_self_eq_false, Bool.false_eq_true, if_false]
  exact h
 | succ d ih =>
  intro j t hj hq
  have hlt : j < i := by omega
  have e0 : (rd_T39 l (j : Int)).f0 = pX l j := rfl
  have e1 : (rd_T39 l (j : Int)).f1 = pH l j := rfl
  have hb : mIsHid L (pX l j) (pH l j) (pX l i) (pH l i) = (hdJ L l i j, true) := by
   unfold mIsHid
   rw [if_pos (by rw [mPoles_ok hp (show j < l.length by omega), mPoles_ok hp hi]; rfl)]
   rfl
  unfold anyF at hq
  refine Ev.succ ?_
  simp only [laws_FnShadowsDark.l1, ht, show ((j : Int) < (i : Int)) by omega, show (0 : Int) ≤ (j : Int) by omega, if_true, rd_takeP hlt (Nat.le_of_lt hi), e0, e1, wid (show -9223372036854775808 ≤ (j : Int) + 1 by omega) zU4_6]
  refine Ev.bindc (impl_IsHidden.eq _ _ _ _ _) ?_
  rw [hb]
  simp only [if_true]
  cases t with
  | true =>
   simp only [if_true]
   refine ih (j + 1) true zU4_6 ?_
   simp only [Bool.true_or] at hq ⊢
   exact hq
  | false =>
   simp only [Bool.false_eq_true, if_false]
   rw [Bool.false_or] at hq
   exact ih (j + 1) _ zU4_6 hq
theorem sd_l0 {b : List Int} (hb : Bytes b) {L : Int} {l : List S39} (hp : mPoles L l = true) (m : Int) (d : Nat) : ∀ (i : Nat) (r : Bool), i + d = l.length → (bFar L l < i → r = true) → Ev (fun k => laws_FnShadowsDark.l0 k b L l m (mDark L l m).1 (mDark L l m).2 (mHid L l).1 (bLong L l : Nat) (loA (pX l (bFar L l) * L) (L - pH l (bFar L l))) (loB (pX l (bFar L l) * L) (L - pH l (bFar L l))) r (loA (pX l (bLong L l) * pH l (bLong L l)) (L - pH l (bLong L l))) (loB (pX l (bLong L l) * pH l (bLong L l)) (L - pH l (bLong L l))) l (l.length : Int) (i : Int)) true := by
 have hlen := (mPoles_el hp).2.1
 obtain ⟨f1, f2⟩ := far_le hp
 obtain ⟨g1, g2, g3⟩ := long_le hp
 induction d with
 | zero =>
  intro i r hi hr
  have hr := hr zU4_6
  refine Ev.succ ?_
  simp only [laws_FnShadowsDark.l0, show ¬ ((i : Int) < (l.length : Int)) by omega, if_false, hr, if_true]
  by_cases hm : inr 0 500 m = true
  ·rw [show (mDark L l m).2 = true by unfold mDark; rw [if_pos (by rw [hp, hm]; rfl)]]
   simp only [if_true]
   exact sd_l2 hb hp m hm 41 0 zU4_6
  ·rw [show (mDark L l m).2 = false by unfold mDark; rw [if_neg (by rw [hp, Bool.true_and]; exact hm)]]
   simp only [Bool.false_eq_true, if_false]
   exact sd_j9 hb
 | succ d ih =>
  intro i r hi hr
  have hlt : i < l.length := by omega
  have e0 : (rd_T39 l (i : Int)).f0 = pX l i := rfl
  have e1 : (rd_T39 l (i : Int)).f1 = pH l i := rfl
  have bd : ∀ j, j < l.length → (0 ≤ loA (pX l j * L) (L - pH l j) ∧ loA (pX l j * L) (L - pH l j) ≤ 100000) ∧ (0 < loB (pX l j * L) (L - pH l j) ∧ loB (pX l j * L) (L - pH l j) ≤ 200) ∧ (0 ≤ loA (pX l j * pH l j) (L - pH l j) ∧ loA (pX l j * pH l j) (L - pH l j) ≤ 100000) ∧ (0 < loB (pX l j * pH l j) (L - pH l j) ∧ loB (pX l j * pH l j) (L - pH l j) ≤ 200) := fun j hj => by
   have a1 := okP_iff.1 (mPoles_ok hp hj)
   have a2 := okP_bd (mPoles_ok hp hj)
   have a3 := loA_nonneg (a := pX l j * L) (b := L - pH l j) zU4_6 zU4_6
   have a4 := loB_pos (a := pX l j * L) (b := L - pH l j) zU4_6
   have a5 := loA_nonneg (a := pX l j * pH l j) (b := L - pH l j) zU4_6 zU4_6
   have a6 := loB_pos (a := pX l j * pH l j) (b := L - pH l j) zU4_6
   omega
  have eE := impl_ShadowEnd.ev2 L (pX l i) (pH l i)
  have eL := impl_ShadowLength.ev2 L (pX l i) (pH l i)
  rw [show dSE L (pX l i) (pH l i) = (loA (pX l i * L) (L - pH l i), loB (pX l i * L) (L - pH l i), true) by unfold dSE; rw [if_pos (mPoles_ok hp hlt)]] at eE
  rw [show dSL L (pX l i) (pH l i) = (loA (pX l i * pH l i) (L - pH l i), loB (pX l i * pH l i) (L - pH l i), true) by unfold dSL; rw [if_pos (mPoles_ok hp hlt)]] at eL
  have x1 := bd i hlt
  have x2 := bd _ f1
  have x3 := bd _ g1
  have f2i := f2 i hlt
  have g2i := g2 i hlt
  have g3i := g3 i
  have j4 : ∀ r2 : Bool, (bFar L l < i + 1 → r2 = true) → Ev (fun k => laws_FnShadowsDark.j4 k b L l m (mDark L l m).1 (mDark L l m).2 (mHid L l).1 (bLong L l : Nat) (loA (pX l (bFar L l) * L) (L - pH l (bFar L l))) (loB (pX l (bFar L l) * L) (L - pH l (bFar L l))) r2 (loA (pX l (bLong L l) * pH l (bLong L l)) (L - pH l (bLong L l))) (loB (pX l (bLong L l) * pH l (bLong L l)) (L - pH l (bLong L l))) (i : Int) l (l.length : Int) (i : Int) (pX l i) (pH l i)) true := fun r2 h2 => by
   refine Ev.succ ?_
   simp only [laws_FnShadowsDark.j4, show (0 : Int) ≤ (i : Int) by omega, show (i : Int) ≤ (l.length : Int) by omega, if_true, Option.bind_some, Int.toNat_natCast, show ((l.take i).length : Int) = (i : Int) by rw [List.length_take]; omega]
   exact sd_l1 hp m hlt _ r2 _ _ _ _ _ (ih (i + 1) r2 zU4_6 h2) i 0 false zU4_6 (by rw [Bool.false_or]; rfl)
  have j3 : Ev (fun k => laws_FnShadowsDark.j3 k b L l m (mDark L l m).1 (mDark L l m).2 (mHid L l).1 (bLong L l : Nat) (loA (pX l (bFar L l) * L) (L - pH l (bFar L l))) (loB (pX l (bFar L l) * L) (L - pH l (bFar L l))) r (loA (pX l (bLong L l) * pH l (bLong L l)) (L - pH l (bLong L l))) (loB (pX l (bLong L l) * pH l (bLong L l)) (L - pH l (bLong L l))) (i : Int) (loA (pX l i * L) (L - pH l i)) (loB (pX l i * L) (L - pH l i)) l (l.length : Int) (i : Int) false (pX l i) (pH l i)) true := by
   refine Ev.succ ?_
   simp only [laws_FnShadowsDark.j3, Bool.false_eq_true, if_false]
   cases r with
   | true =>
    simp only [if_true]
    exact j4 true (fun _ => rfl)
   | false =>
    have hi2 : bFar L l = i ∨ i < bFar L l := by
     rcases Nat.lt_or_ge (bFar L l) i with q | q
     ·exact absurd (hr q) zU4_7
     ·omega
    simp only [Bool.false_eq_true, if_false]
    by_cases c : loA (pX l i * L) (L - pH l i) = loA (pX l (bFar L l) * L) (L - pH l (bFar L l))
    ·simp only [c, if_true]
     refine j4 _ (fun q => ?_)
     have : bFar L l = i := by omega
     rw [this]; exact beq_self_eq_true _
    ·simp only [c, if_false]
     refine j4 false (fun q => ?_)
     have : bFar L l = i := by omega
     rw [this] at c
     exact absurd rfl c
  refine Ev.succ ?_
  simp only [laws_FnShadowsDark.l0, show ((i : Int) < (l.length : Int)) by omega, show (0 : Int) ≤ (i : Int) by omega, if_true, e0, e1]
  refine Ev.bind eE ?_
  refine Ev.bind eL ?_
  generalize loA (pX l i * L) (L - pH l i) = A at *
  generalize loB (pX l i * L) (L - pH l i) = B at *
  generalize loA (pX l i * pH l i) (L - pH l i) = C at *
  generalize loB (pX l i * pH l i) (L - pH l i) = D at *
  generalize loA (pX l (bFar L l) * L) (L - pH l (bFar L l)) = A1 at *
  generalize loB (pX l (bFar L l) * L) (L - pH l (bFar L l)) = B1 at *
  generalize loA (pX l (bLong L l) * pH l (bLong L l)) (L - pH l (bLong L l)) = C1 at *
  generalize loB (pX l (bLong L l) * pH l (bLong L l)) (L - pH l (bLong L l)) = D1 at *
  have w1 := mul_bd (a := A) (b := B1) (A := 100000) (B := 200) zU4_6 zU4_6 zU4_6 zU4_6
  have w2 := mul_bd (a := A1) (b := B) (A := 100000) (B := 200) zU4_6 zU4_6 zU4_6 zU4_6
  have w3 := mul_bd (a := C) (b := D1) (A := 100000) (B := 200) zU4_6 zU4_6 zU4_6 zU4_6
  have w4 := mul_bd (a := C1) (b := D) (A := 100000) (B := 200) zU4_6 zU4_6 zU4_6 zU4_6
  simp only [if_true, wid (show -9223372036854775808 ≤ A * B1 by omega) zU4_6, wid (show -9223372036854775808 ≤ A1 * B by omega) zU4_6, wid (show -9223372036854775808 ≤ C * D1 by omega) zU4_6, wid (show -9223372036854775808 ≤ C1 * D by omega) zU4_6, show ¬ (A * B1 > A1 * B) by omega, show ¬ (C * D1 > C1 * D) by omega, if_false]
  by_cases c : C * D1 = C1 * D
  ·simp only [c, if_true]
   rw [decide_eq_false (show ¬ ((i : Int) < ((bLong L l : Nat) : Int)) from fun q => g3i zU4_6 c)]
   exact j3
  ·simp only [c, if_false]
   exact j3
theorem sd_j0 {b : List Int} (hb : Bytes b) (L : Int) (l : List S39) (m : Int) : Ev (fun k => laws_FnShadowsDark.j0 k b L l m (mDark L l m).1 (mDark L l m).2 (mHid L l).1 (mHid L l).2 (mLong L l).1 (mFar L l).1 (mFar L l).2.1 false) true := by
 refine Ev.succ ?_
 simp only [laws_FnShadowsDark.j0, Bool.false_eq_true, if_false]
 by_cases hp : mPoles L l = true
 ·have hlen := (mPoles_el hp).2.1
  obtain ⟨f1, f2⟩ := far_le hp
  obtain ⟨g1, g2, g3⟩ := long_le hp
  have e0 : (rd_T39 l ((bLong L l : Nat) : Int)).f0 = pX l (bLong L l) := rfl
  have e1 : (rd_T39 l ((bLong L l : Nat) : Int)).f1 = pH l (bLong L l) := rfl
  rw [show mLong L l = (((bLong L l : Nat) : Int), true) from if_pos hp]
  rw [show mFar L l = (loA (pX l (bFar L l) * L) (L - pH l (bFar L l)), loB (pX l (bFar L l) * L) (L - pH l (bFar L l)), true) by unfold mFar dSE; rw [if_pos hp, if_pos (mPoles_ok hp f1)]]
  rw [show (mHid L l).2 = true by unfold mHid; rw [if_pos hp]]
  have hr := mHid_rise L l
  simp only [if_true, e0, e1, show (0 : Int) ≤ ((bLong L l : Nat) : Int) by omega, show ((bLong L l : Nat) : Int) < (l.length : Int) by omega]
  have eL := impl_ShadowLength.ev2 L (pX l (bLong L l)) (pH l (bLong L l))
  rw [show dSL L (pX l (bLong L l)) (pH l (bLong L l)) = (loA (pX l (bLong L l) * pH l (bLong L l)) (L - pH l (bLong L l)), loB (pX l (bLong L l) * pH l (bLong L l)) (L - pH l (bLong L l)), true) by unfold dSL; rw [if_pos (mPoles_ok hp g1)]] at eL
  refine Ev.bind eL ?_
  simp only [if_true]
  refine Ev.bind (laws_yRises.ev zU4_6 hr.1) ?_
  simp only [if_true]
  refine Ev.bind (laws_yHas.ev 0 zU4_6) ?_
  have e : decide ((0 : Int) ∈ (mHid L l).1) = false := by
   unfold mHid
   rw [if_pos hp]
   exact (fltL_has (f := hdA L l) (d := l.length) (i := 0) (j := 0) zU4_6 zU4_6).trans rfl
  rw [e]
  refine Ev.succ ?_
  simp only [laws_FnShadowsDark.j1, Bool.false_eq_true, if_false]
  exact sd_l0 hb hp m l.length 0 false zU4_6 (fun q => absurd q zU4_6)
 ·rw [show (mHid L l).2 = false by unfold mHid; rw [if_neg hp]]
  simp only [Bool.false_eq_true, if_false]
  exact sd_j9 hb
end Go.Proofs.YtknjpbkkbnmfaaaGreatDoor.P

namespace Go.Proofs.YtknjpbkkbnmfaaaGreatDoor.Pure
open Go.RowKit Go.Proofs.YtknjpbkkbnmfaaaGreatDoorW.PrintWords Go.Proofs.YtknjpbkkbnmfaaaGreatDoorW.PrintLast Go.Proofs.YtknjpbkkbnmfaaaGreatDoorW.PrintMore Go.Proofs.YtknjpbkkbnmfaaaGreatDoor.P
set_option linter.unusedVariables false
set_option linter.unusedSimpArgs false
theorem FnShadowsDark : ∀ (l0 : List Int) (l1 : List Int), l0.length ≤ maxLen → (∀ y ∈ l0, (Lit.int .u8 y).wf = true) → l1.length ≤ maxLen → (∀ y ∈ l1, (Lit.int .u8 y).wf = true) → ∃ k, laws_FnShadowsDark.f k l0 l1 = some true := fun l0 l1 h0 b0 h1 b1 => by
 have hb0 : Bytes l0 := b0
 have hb1 : Bytes l1 := b1
 obtain ⟨L, l, m, ed, hl⟩ := drawDark_ok hb0
 have q1 := mHid_rise L l
 have q2 := mDark_rise L l m
 have hl2 : l.length ≤ 4611686018427387904 := by omega
 have n1 : (mDark L l m).1.length ≤ 4611686018427387904 := by omega
 have n2 : (mHid L l).1.length ≤ 4611686018427387904 := by omega
 refine Ev.rounds ?_
 unfold laws_FnShadowsDark.f
 have hbig : ∃ x, laws_big.f l0 l1 = some x := by unfold laws_big.f; split <;> exact ⟨_, rfl⟩
 obtain ⟨x, hx⟩ := hbig
 refine Ev.bindc hx ?_
 cases x with
 | true => simp only [if_true]; exact Ev.now _
 | false =>
  simp only [Bool.false_eq_true, if_false]
  refine Ev.bind ed ?_
  refine Ev.bind (impl_DarkPlaces.ev L hl2 m) ?_
  refine Ev.bind (spec_DarkPlaces.ev L hl2 m) ?_
  refine Ev.bind (impl_HiddenPoles.ev L hl2) ?_
  refine Ev.bind (spec_HiddenPoles.ev L hl2) ?_
  refine Ev.bind (impl_LongestShadow.ev L hl2) ?_
  refine Ev.bind (spec_LongestShadow.ev L hl2) ?_
  refine Ev.bind (impl_FarthestDark.ev L hl2) ?_
  refine Ev.bind (spec_FarthestDark.ev L hl2) ?_
  simp only [bne_self_eq_false, Bool.false_eq_true, if_false, if_true]
  refine Ev.bind (laws_ySame.refl n1) ?_
  simp only [if_true]
  refine Ev.bind (laws_ySame.refl n2) ?_
  simp only [if_true]
  have s1 : (mHid L l).2 = mPoles L l := by unfold mHid; cases mPoles L l <;> rfl
  have s2 : (mLong L l).2 = mPoles L l := by unfold mLong; cases mPoles L l <;> rfl
  have s3 : (mFar L l).2.2 = mPoles L l := by
   unfold mFar
   cases hp : mPoles L l with
   | false => rfl
   | true =>
    rw [if_pos rfl]
    unfold dSE
    rw [if_pos (mPoles_ok hp (far_le hp).1)]
  have s4 : (mDark L l m).2 = true → mPoles L l = true := by
   unfold mDark
   intro h
   by_cases q : (mPoles L l && inr 0 500 m) = true
   ·exact (Bool.and_eq_true_iff.1 q).1
   ·rw [if_neg q] at h; exact absurd h zU4_7
  refine Ev.bind (impl_ArePoles.ev L hl2) ?_
  simp only [s1, s2, s3, bne_self_eq_false, Bool.false_eq_true, if_false]
  refine Ev.bind (impl_ArePoles.ev L hl2) ?_
  unfold spec_ArePoles.f
  refine Ev.bind (Ev.bind (spec_swGood.ev L hl2) (Ev.now _)) ?_
  simp only [bne_self_eq_false, Bool.false_eq_true, if_false]
  have j := sd_j0 hb1 L l m
  rw [s1] at j
  by_cases c : (mDark L l m).2 = true
  ·simp only [c, if_true, s4 c, Bool.not_true] at j ⊢
   exact j
  ·simp only [c, Bool.false_eq_true, if_false] at j ⊢
   exact j
end Go.Proofs.YtknjpbkkbnmfaaaGreatDoor.Pure

namespace Go.Proofs.YtknjpbkkbnmfaaaGreatDoor.fnShadowsDark
open Go.ChangeShapes Go.WideShapes Go.ChangeAt Go.RowKit Go.Deep
open Go.ChangeMaps (open_string shut_string)
open Go.Proofs.YtknjpbkkbnmfaaaGreatDoorW.PrintWords Go.Proofs.YtknjpbkkbnmfaaaGreatDoorW.PrintLast Go.Proofs.YtknjpbkkbnmfaaaGreatDoorW.PrintMore Go.Proofs.YtknjpbkkbnmfaaaGreatDoor.P
set_option linter.unusedVariables false
set_option linter.unusedSimpArgs false
theorem own : ownKnob Tryz.prog.godebug = none := by kernel_rfl
theorem laidOut : laidOutB Tryz.prog = true := by kernel_rfl
theorem cof5 : Tryz.prog.cellsOf 5 = 1 := by kernel_rfl
theorem cof22 : Tryz.prog.cellsOf 22 = 1 := by kernel_rfl
theorem C_each {α : Type} (d : Kd α) (w : World) (a : Addr) (len : Nat) (hl : len ≤ 9223372036854775807) (P : α → Prop) (h : ∀ i, i < len → ∃ (x : α) (c : List Value), P x ∧ c.length = d.sz ∧ d.K w x c ∧ ∀ j u, c[j]? = some u → w.cell? (a.add (i * d.sz + j)) = some u) : ∃ xs : List α, xs.length = len ∧ Kd.C d w (some a) len xs ∧ ∀ x ∈ xs, P x := by
 refine ⟨List.ofFn fun i : Fin len => Classical.choose (h i.1 i.2), by simp, ⟨by simp, hl, fun _ => ⟨a, rfl, fun j p hj => ?_⟩⟩, fun x hx => ?_⟩
 ·have hjl : j < len := by have := (List.getElem?_eq_some_iff.1 hj).1; simpa using this
  have hp : p = Classical.choose (h j hjl) := by rw [List.getElem?_ofFn, dif_pos hjl] at hj; exact (Option.some.inj hj).symm
  obtain ⟨c, hP, hc, hK, hcell⟩ := Classical.choose_spec (h j hjl)
  exact ⟨c, hc, by rw [hp]; exact hK, hcell⟩
 ·obtain ⟨i, rfl⟩ := (List.mem_ofFn).1 hx
  obtain ⟨c, hP, _⟩ := Classical.choose_spec (h i.1 i.2)
  exact hP
set_option maxRecDepth 100000 in
theorem open0 {H : Type} {enc : TypeId × Value → H} {W : World} {base : Nat} {v : Value} {d : DataW H} {p : List MemPlace} (hv : Value.okWide Tryz.prog W .any base 22 v) (h : DataW.Trod enc Tryz.prog W 0 (fun _ => true) true 22 v d p) :
 ∃ (A0 : Option Addr) (c0 : Nat) (l0 : List Int), v = .slice A0 l0.length c0 ∧ (Kd.C (Kd.int .u8) W A0 l0.length l0 ∧ l0.length ≤ c0 ∧ c0 ≤ maxLen ∧ (∀ y ∈ l0, (Lit.int .u8 y).wf = true)) := by
 obtain ⟨a_, len_, cap_, rfl⟩ := okWide_slice Tryz.underlying22 hv
 obtain ⟨fuel, hf⟩ := h
 have hf : DataW.trod enc Tryz.prog W 0 (fun _ => true) true fuel 22 [.slice a_ len_ cap_] = some (d, p) := hf
 generalize Value.slice a_ len_ cap_ = c_0 at hf
 obtain ⟨A0, c0, l0, rfl, w0⟩ : ∃ A c l, c_0 = .slice A l.length c ∧ Kd.C (Kd.int .u8) W A l.length l ∧ l.length ≤ c ∧ c ≤ maxLen ∧ (∀ y ∈ l, (Lit.int .u8 y).wf = true) := by
  rcases open_slice Tryz.underlying22 hf with ⟨hcs, _⟩ | ⟨ad, len, cap, m, n_, D_, Pl_, hcs, _, hlc, hcm, hm, _, hel⟩
  ·exact ⟨none, 0, [], by simpa using hcs, ⟨rfl, by simp, fun hp => absurd hp zU4_7⟩, by simp, by unfold maxLen; omega, by simp⟩
  ·have hlen : len ≤ 9223372036854775807 := by unfold maxLen at hcm; omega
   have each_ : ∀ i, i < len → ∃ (y : Int) (c : List Value), ((Lit.int .u8 y).wf = true) ∧ c.length = ((Kd.int .u8) : Kd _).sz ∧ ((Kd.int .u8) : Kd _).K W y c ∧ ∀ j u, c[j]? = some u → W.cell? (ad.add (i * ((Kd.int .u8) : Kd _).sz + j)) = some u := by
    intro i hi
    obtain ⟨cs_, hc_, ht_⟩ := hel i (by simp only [if_true] at hm; omega)
    rw [cof5] at hc_
    obtain ⟨hb_, hn_, hat_⟩ := World.cells?_some hc_
    obtain ⟨u2, rfl⟩ : ∃ u2, cs_ = [u2] := by match cs_, hn_ with | [u2], _ => exact ⟨u2, rfl⟩
    obtain ⟨a0e0, e3, _, w0e0⟩ := DataW.trod_int Tryz.underlying5 ht_
    obtain rfl : u2 = _ := by simpa using e3
    refine ⟨a0e0, [.int .u8 a0e0], w0e0, rfl, rfl, fun j u hu => ?_⟩
    have hj : j < 1 := by have := (List.getElem?_eq_some_iff.1 hu).1; simpa using this
    have h1_ := hat_ j hj
    have hs_ : ((Kd.int .u8) : Kd _).sz = 1 := rfl
    rw [hs_, ← Go.Deep.add_add, h1_]; exact hu
   obtain ⟨xs_, hx_, hC_, hP_⟩ := C_each (Kd.int .u8) W ad len hlen (fun y => (Lit.int .u8 y).wf = true) each_
   exact ⟨some ad, cap, xs_, by rw [hx_]; simpa using hcs, by rw [hx_]; exact hC_, by omega, hcm, hP_⟩
 exact ⟨_, _, _, rfl, w0⟩
set_option maxRecDepth 100000 in
theorem open1 {H : Type} {enc : TypeId × Value → H} {W : World} {base : Nat} {v : Value} {d : DataW H} {p : List MemPlace} (hv : Value.okWide Tryz.prog W .any base 22 v) (h : DataW.Trod enc Tryz.prog W 0 (fun _ => true) true 22 v d p) :
 ∃ (A1 : Option Addr) (c1 : Nat) (l1 : List Int), v = .slice A1 l1.length c1 ∧ (Kd.C (Kd.int .u8) W A1 l1.length l1 ∧ l1.length ≤ c1 ∧ c1 ≤ maxLen ∧ (∀ y ∈ l1, (Lit.int .u8 y).wf = true)) := by
 obtain ⟨a_, len_, cap_, rfl⟩ := okWide_slice Tryz.underlying22 hv
 obtain ⟨fuel, hf⟩ := h
 have hf : DataW.trod enc Tryz.prog W 0 (fun _ => true) true fuel 22 [.slice a_ len_ cap_] = some (d, p) := hf
 generalize Value.slice a_ len_ cap_ = c_0 at hf
 obtain ⟨A1, c1, l1, rfl, w1⟩ : ∃ A c l, c_0 = .slice A l.length c ∧ Kd.C (Kd.int .u8) W A l.length l ∧ l.length ≤ c ∧ c ≤ maxLen ∧ (∀ y ∈ l, (Lit.int .u8 y).wf = true) := by
  rcases open_slice Tryz.underlying22 hf with ⟨hcs, _⟩ | ⟨ad, len, cap, m, n_, D_, Pl_, hcs, _, hlc, hcm, hm, _, hel⟩
  ·exact ⟨none, 0, [], by simpa using hcs, ⟨rfl, by simp, fun hp => absurd hp zU4_7⟩, by simp, by unfold maxLen; omega, by simp⟩
  ·have hlen : len ≤ 9223372036854775807 := by unfold maxLen at hcm; omega
   have each_ : ∀ i, i < len → ∃ (y : Int) (c : List Value), ((Lit.int .u8 y).wf = true) ∧ c.length = ((Kd.int .u8) : Kd _).sz ∧ ((Kd.int .u8) : Kd _).K W y c ∧ ∀ j u, c[j]? = some u → W.cell? (ad.add (i * ((Kd.int .u8) : Kd _).sz + j)) = some u := by
    intro i hi
    obtain ⟨cs_, hc_, ht_⟩ := hel i (by simp only [if_true] at hm; omega)
    rw [cof5] at hc_
    obtain ⟨hb_, hn_, hat_⟩ := World.cells?_some hc_
    obtain ⟨u5, rfl⟩ : ∃ u5, cs_ = [u5] := by match cs_, hn_ with | [u5], _ => exact ⟨u5, rfl⟩
    obtain ⟨a1e0, e6, _, w1e0⟩ := DataW.trod_int Tryz.underlying5 ht_
    obtain rfl : u5 = _ := by simpa using e6
    refine ⟨a1e0, [.int .u8 a1e0], w1e0, rfl, rfl, fun j u hu => ?_⟩
    have hj : j < 1 := by have := (List.getElem?_eq_some_iff.1 hu).1; simpa using this
    have h1_ := hat_ j hj
    have hs_ : ((Kd.int .u8) : Kd _).sz = 1 := rfl
    rw [hs_, ← Go.Deep.add_add, h1_]; exact hu
   obtain ⟨xs_, hx_, hC_, hP_⟩ := C_each (Kd.int .u8) W ad len hlen (fun y => (Lit.int .u8 y).wf = true) each_
   exact ⟨some ad, cap, xs_, by rw [hx_]; simpa using hcs, by rw [hx_]; exact hC_, by omega, hcm, hP_⟩
 exact ⟨_, _, _, rfl, w1⟩
/-- The builder, with the world's shape. -/
theorem of_change_shaped {H : Type} {enc : TypeId × Value → H} {a : Assume} {C : Checked} {os : Os} {f : FuncId} {fn : Func} {s : ChangeSpec} {conds : List PathCond} {apart fresh handsOn again : Bool} {X : World → Array Value → Prop}
 (hX : ∀ (w w' : World) (args : Array Value), w.heap = w'.heap → X w args → X w' args)
 (own : ownKnob C.prog.godebug = none) (started : os.Started) (noInit : C.prog.inits.idxOf? f = none) (hfn : C.prog.funcs[f]? = some fn)
 (witness : ∃ (w : World) (tape : Tape) (i : Input), w.os = os ∧ (w.forCall tape i).Shaped C.prog ∧ i.vars = [] ∧ Input.okWide C.prog (w.forCall tape i) .any w.heap.size f i ∧
  ((s.pre enc C.prog fn conds apart (w.forCall tape i).memory i.args ∧ X (w.forCall tape i).memory i.args) ∧ sizedMet enc C.prog fn (OpenSpec.ofChange s) apart (w.forCall tape i).memory i.args) ∧ a.holds C.prog (lone (Frame.enter C.prog f i.args .normal) [] (w.forCall tape i)))
 (contract : ∀ (W : World) (base : Nat) (args : Array Value) (ds gs : List (DataW H)) (before : List MemPlace),
  (∀ (j : Nat) t v, fn.params[j]? = some t → args[j]? = some v → Value.okWide C.prog W .any base t v) →
  DataW.Whole enc C.prog fn.params.toList s.vars apart W args.toList ds gs before →
  conds.all (PathCond.test C.prog ⟨fn.params.toList, ds, s.plain.varTypes C.prog, gs⟩) = true →
  (DataW.weightsEach C.prog (fn.params.toList ++ s.plain.varTypes C.prog) (ds ++ gs)).all (· ≤ reachBytes) = true → X W args → W.ShapedOpen C.prog →
  Calls C.prog f args W fun e W' => ∃ v, e = .returned v ∧ s.post enc C.prog fn apart fresh handsOn again W args v W') :
 ReturnsInHanded a C os f .any (fun w args => (s.pre enc C.prog fn conds apart w args ∧ X w args) ∧ sizedMet enc C.prog fn (OpenSpec.ofChange s) apart w args) (s.post enc C.prog fn apart fresh handsOn again) := by
 refine returnsInHanded_of_calls own started noInit witness ?_
 intro w tape i _ hsh _ hok hpre _
 obtain ⟨_, _, _, fn', hfn', _, _, _, _, hval⟩ := hok
 have e : fn' = fn := Option.some.inj (hfn'.symm.trans hfn)
 subst e
 obtain ⟨⟨⟨ds, gs, before, hw, hc⟩, hx⟩, hz⟩ := hpre
 have hw' := DataW.Whole.of_heap (w' := w.forCall tape i) (by rfl) hw
 refine (contract (w.forCall tape i) w.heap.size i.args ds gs before hval hw' hc (hz.weights hw) (hX _ _ _ (by rfl) hx) hsh).mono fun e W' ⟨v, he, hp⟩ => ?_
 subst he
 exact ChangeSpec.post_blind hp
set_option maxRecDepth 100000 in
theorem door_met (os : Os) (args : Array Value) : laidMet Tryz.prog Rows.fnShadowsDarkRow.laid ((World.laidAll Tryz.prog os Rows.fnShadowsDarkRow.laid).forCall (fun _ _ => 0) ⟨#[], args, []⟩).memory :=
 laidMet_laidAll _ (by kernel_rfl) (by kernel_rfl)
theorem laidP {W : World} (h : laidMet Tryz.prog Rows.fnShadowsDarkRow.laid W) : P.LaidP W :=
 Lib.tabIs_of_head (g := 3) (t := 132) (e := 59) (n := 20) (by kernel_rfl) (by kernel_rfl) Tryz.underlying132 Tryz.underlying59 (by kernel_rfl) (by kernel_rfl) (laidMet.tail (laidMet.tail h))
theorem star : "*" ++ "errors.errorString" = "*errors.errorString" := by decide
theorem rowE (u : TypeId) (h : Tryz.prog.typeName? 3 u = some "*errors.errorString") : u = 141 :=
 typeName_ptr_named (nm := "errors.errorString") (by rw [star]; kernel_rfl) (by kernel_rfl) (by decide) u (by rw [star]; exact h)
theorem laidQ {W : World} (h : laidMet Tryz.prog Rows.fnShadowsDarkRow.laid W) (hs : W.ShapedOpen Tryz.prog) : P.LaidQ W := by
 refine ⟨laidP h, ?_, ?_, ?_⟩
 ·have e : Tryz.prog.globalNamed "internal/bytealg.MaxLen" = some 0 := by kernel_rfl
  rw [e]
  exact Go.Proofs.cell_of_shapedOpen_int (zero := #[.int .i64 0]) (t := 3) (g := 0) hs (of_decide_eq_true (by kernel_rfl)) (by kernel_rfl) rfl (by kernel_rfl) (by kernel_rfl) Tryz.underlying3
 ·obtain ⟨a, x, hv, _⟩ := laid_sentinel (g := 1) (ti := 92) (tp := 141) (te := 143) (ts := 9) (laidMet.tail (laidMet.tail (laidMet.tail (laidMet.tail (laidMet.tail h))))) (by kernel_rfl) (by kernel_rfl) Tryz.underlying92 rowE Tryz.underlying141 Tryz.underlying143 rfl rfl Tryz.underlying9 (by kernel_rfl) (by kernel_rfl)
  exact ⟨_, _, hv⟩
 ·obtain ⟨a, x, hv, _⟩ := laid_sentinel (g := 2) (ti := 92) (tp := 141) (te := 143) (ts := 9) (laidMet.tail (laidMet.tail (laidMet.tail (laidMet.tail h)))) (by kernel_rfl) (by kernel_rfl) Tryz.underlying92 rowE Tryz.underlying141 Tryz.underlying143 rfl rfl Tryz.underlying9 (by kernel_rfl) (by kernel_rfl)
  exact ⟨_, _, hv⟩
set_option maxRecDepth 100000 in
theorem lifted (os : Os) (started : os.Started) (H : Type) (enc : TypeId × Value → H) :
 ReturnsInHanded {} Tryz.checked os 3 .any (fun w args => (Rows.fnShadowsDarkSpec.pre enc Tryz.prog Tryz.f3 Rows.fnShadowsDarkRow.domain false w args ∧ laidMet Tryz.prog Rows.fnShadowsDarkRow.laid w) ∧ sizedMet enc Tryz.prog Tryz.f3 (OpenSpec.ofChange Rows.fnShadowsDarkSpec) false w args) (Rows.fnShadowsDarkSpec.post enc Tryz.prog Tryz.f3 false true false false) := by
 refine of_change_shaped (C := Tryz.checked) (X := fun w _ => laidMet Tryz.prog Rows.fnShadowsDarkRow.laid w) (fun _ _ _ hh h => h.of_heap hh) own started (by kernel_rfl) Tryz.func3
  (ChangeSpec.witness_shaped (enc := enc) (C := Tryz.checked) (os := os) (X := fun w _ => laidMet Tryz.prog Rows.fnShadowsDarkRow.laid w) false (World.laidAll Tryz.prog os Rows.fnShadowsDarkRow.laid) #[.slice none 0 0, .slice none 0 0] 8 (World.laidAll_os _ _ _) (World.shaped_of_ZipB (by kernel_rfl) (by kernel_rfl)) (by kernel_rfl) (by kernel_rfl) (by kernel_rfl) (door_met os _)) ?_
 intro W base args ds gs before hval0 hW hcnd hsz0 hL hshaped
 have hLP := laidQ hL hshaped
 have hsz : (DataW.weightsEach Tryz.prog (Tryz.f3.params.toList ++ Rows.fnShadowsDarkSpec.plain.varTypes Tryz.prog) (ds ++ gs)).all (· ≤ reachBytes) = true := hsz0
 have hval : ∀ (j : Nat) t v, Tryz.f3.params[j]? = some t → args[j]? = some v → Value.okWide Tryz.prog W .any base t v := hval0
 have hW' := hW
 obtain ⟨p, q, hA0, hV, rfl, hfz, hnd⟩ := hW
 have hA : DataW.TrodAll enc Tryz.prog W 0 (fun _ => true) true Tryz.f3.params.toList args.toList ds p := hA0
 rw [Tryz.params3] at hA hval hsz
 obtain ⟨v0, vs0, d0, ds0, p0, q0, hargs, rfl, rfl, h0, r0⟩ := trodAll_cons hA
 obtain ⟨v1, vs1, d1, ds1, p1, q1, rfl, rfl, rfl, h1, r1⟩ := trodAll_cons r0
 obtain ⟨rfl, rfl, rfl⟩ := trodAll_nil r1
 obtain rfl : args = #[v0, v1] := by cases args; simp_all
 obtain ⟨rfl, rfl⟩ := trodVars_none hV
 have k0 := h0
 have lt0 : ∀ x ∈ p0, x.block < W.heap.size := by obtain ⟨m, hm⟩ := k0; exact DataW.trod_lt m _ _ _ hm
 obtain ⟨A0, c0, l0, rfl, ⟨hr0, hc0, hm0, w0⟩⟩ := open0 (hval 0 22 v0 rfl rfl) h0
 have k1 := h1
 have lt1 : ∀ x ∈ p1, x.block < W.heap.size := by obtain ⟨m, hm⟩ := k1; exact DataW.trod_lt m _ _ _ hm
 obtain ⟨A1, c1, l1, rfl, ⟨hr1, hc1, hm1, w1⟩⟩ := open1 (hval 1 22 v1 rfl rfl) h1
 clear hA0 hval0 hsz0 hsz
 obtain ⟨kk, hk⟩ := Pure.FnShadowsDark l0 l1 (Nat.le_trans hc0 hm0) w0 (Nat.le_trans hc1 hm1) w1
 refine (P.laws_FnShadowsDark.calls kk _ _ l0 _ _ l1 true W hLP hr0 hc0 hr1 hc1 hk rfl).mono fun e W' ⟨he, bel0⟩ => ?_
 have bel : Below W.heap.size W W' := bel0
 subst he
 exact ⟨_, rfl, _, _, _, [], _, [], hW', trodAll_mk1 (shut_bool Tryz.underlying4 _), (trodAll_cons_mk (Below.trod laidOut (by kernel_rfl) (of_decide_eq_true (by kernel_rfl)) k0 bel lt0) (trodAll_cons_mk (Below.trod laidOut (by kernel_rfl) (of_decide_eq_true (by kernel_rfl)) k1 bel lt1) trodAll_mk0)), rfl, bel.frame _, fun h => by cases h⟩
theorem over : Rows.fnShadowsDarkRow.holds Tryz.pinned (OpenSpec.ofChange Rows.fnShadowsDarkSpec) :=
 OpenClaim.holds_of_wide 3 Tryz.f3 rfl rfl rfl rfl rfl rfl rfl ⟨rfl, rfl, rfl, rfl, rfl⟩ rfl rfl rfl rfl rfl (by kernel_rfl) Tryz.func3 (by kernel_rfl)
  (of_decide_eq_true (by kernel_rfl)) (by unfold Func.isWrapper; first | (rw [if_pos (by decide +kernel)]; kernel_rfl) | (rw [if_neg (by decide +kernel)]; exact ⟨rfl, rfl⟩))
  (fun os started H enc _ => lifted os started H enc)
theorem proved : Rows.FnShadowsDarkSaid := over
theorem card : Rows.FnShadowsDarkCardSaid :=
 Claim7.holds_tied_plain_at .later [] [.data, .data, .data, .data, .sentinel, .sentinel, .pinned] true (true, "76848dcc3497deab470973cc7de6c3968a7a915518f84bafa617e02ec3314d5d") true
  proved (fun _ h => by cases h) (by kernel_rfl) (fun _ h => by cases h) fnShadowsDark_row_tie rfl ⟨rfl, rfl⟩ (by kernel_rfl) rfl
  (fun f fn hf hfn => by
   obtain rfl : f = 3 := Option.some.inj ((show Tryz.prog.funcNamed "loop.example/g01351/laws.FnShadowsDark" = some 3 by kernel_rfl).symm.trans hf) |>.symm
   obtain rfl : fn = Tryz.f3 := (Option.some.inj (Tryz.func3.symm.trans hfn)).symm
   exact ⟨by kernel_rfl, fun j t ht => by
    rw [Tryz.params3] at ht
    have hm : t ∈ [22, 22] := by simpa using Array.mem_of_getElem? ht
    have hall : ([22, 22].all fun u => !Tryz.prog.wantsStandIn u) = true := by kernel_rfl
    exact (show Tryz.prog.wantsStandIn t = false by simpa using List.all_eq_true.1 hall t hm)⟩)
  (by kernel_rfl)
#print axioms card
end Go.Proofs.YtknjpbkkbnmfaaaGreatDoor.fnShadowsDark
namespace Go.Proofs.YtknjpbkkbnmfaaaGreatDoor
/-- The row, under a short name, for the claim. -/
theorem fnShadowsDark_holds : Rows.FnShadowsDarkCardSaid := fnShadowsDark.card
end Go.Proofs.YtknjpbkkbnmfaaaGreatDoor
