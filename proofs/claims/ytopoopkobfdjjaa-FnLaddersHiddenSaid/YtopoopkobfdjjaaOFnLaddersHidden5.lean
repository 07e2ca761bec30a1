/- The law FnLaddersHidden is proved: a call of it returns true and leaves its arguments as they were; and what this needs. Every input that the given rows speak of; nothing else is asked. -/
import Derived.Test.YtopoopkobfdjjaaOFnLaddersHidden0
import Derived.Test.YtopoopkobfdjjaaOFnLaddersHidden1
import Derived.Test.YtopoopkobfdjjaaOFnLaddersHidden2
import Derived.Test.YtopoopkobfdjjaaOFnLaddersHidden3
import Derived.Test.YtopoopkobfdjjaaOFnLaddersHidden4
import Derived.Test.YtopoopkobfdjjaaRows
import Derived.WalkKit
import Derived.ProofKit
import Derived.OpenShut
import Derived.ShutString
import Derived.ChangeOld
import Derived.Below
import Derived.SizedLaws
import Derived.Test.YtopoopkobfdjjaaOW
namespace Go.Proofs.Ytopoopkobfdjjaa.P
open Go.RowKit Go.Proofs.YtopoopkobfdjjaaW.PrintWords Go.Proofs.YtopoopkobfdjjaaW.PrintLast Go.Proofs.YtopoopkobfdjjaaW.PrintMore
set_option linter.unusedVariables false
theorem zO5_0 {p : Prop} (h : p := by rw [List.length_append]; simp only [List.length_cons, List.length_nil]; omega) : p := h
theorem zO5_1 {p : Prop} (h : p := by omega) : p := h
theorem zO5_2 {p : Prop} (h : p := by simp) : p := h
end Go.Proofs.Ytopoopkobfdjjaa.P
namespace Go.Proofs.Ytopoopkobfdjjaa.P
open Go.RowKit Go.Proofs.YtopoopkobfdjjaaW.PrintWords Go.Proofs.YtopoopkobfdjjaaW.PrintLast Go.Proofs.YtopoopkobfdjjaaW.PrintMore
set_option linter.unusedVariables false
set_option linter.unusedSimpArgs false
theorem wid {x : Int} (h0 : -9223372036854775808 ≤ x) (h1 : x ≤ 9223372036854775807) : wrap64 x = x := by unfold wrap64; omega
/-- lo ≤ n ≤ hi, as a Bool. -/
def inr (lo hi n : Int) : Bool := decide (lo ≤ n) && decide (n ≤ hi)
theorem inr_iff {lo hi n : Int} : inr lo hi n = true ↔ lo ≤ n ∧ n ≤ hi := by unfold inr; simp
theorem mul_bd {a b A B : Int} (h0 : 0 ≤ a) (h1 : a ≤ A) (h2 : 0 ≤ b) (h3 : b ≤ B) : 0 ≤ a * b ∧ a * b ≤ A * B :=
 ⟨Int.mul_nonneg h0 h2, Int.mul_le_mul h1 h3 h2 zO5_1⟩
theorem ev_eq {α : Type} {g : Nat → Option α} {r s : α} (h : Ev g r) (e : r = s) : Ev g s := e ▸ h
/-- A row of rounds that doesn't hang on the rounds. -/
theorem Ev.const {α : Type} {g : Option α} {r : α} (h : g = some r) : Ev (fun _ => g) r := ⟨0, fun _ _ => h⟩
theorem all1 {p : Int → Bool} {a : Int} : [a].all p = p a := by simp
theorem rd_cons0 (x : Int) (l : List Int) : rd (x :: l) 0 = x := rfl
def Bytes (l : List Int) : Prop := ∀ x ∈ l, (Lit.int .u8 x).wf = true
theorem rd_byte {l : List Int} (hb : Bytes l) {p : Int} (h0 : 0 ≤ p) (h1 : p < (l.length : Int)) : 0 ≤ rd l p ∧ rd l p ≤ 255 := by
 have hm : rd l p ∈ l := by
  unfold rd
  rw [List.getD_eq_getElem?_getD, List.getElem?_eq_getElem (show p.toNat < l.length by omega)]
  exact List.getElem_mem _
 have h := hb _ hm
 simp only [Lit.wf, Bool.and_eq_true, decide_eq_true_eq] at h
 exact ⟨h.1, h.2⟩
theorem and255 (x : Int) (h0 : 0 ≤ x) (h1 : x < 18446744073709551616) : Go.bits .and .u64 x 255 = x % 256 := by
 have h := bits_mask .u64 64 (by decide) (fun n h0 h1 => by rw [IntKind.wrap_u64]; omega) 8 (by decide) x h0 zO5_1
 simpa using h
theorem next_ok {l : List Int} (hb : Bytes l) {p s : Int} (h0 : 0 ≤ p) (h1 : p ≤ 1152921504606846976) : ∃ b s', spec_l1Cur_next.f l p s = some (b, p + 1, s') ∧ 0 ≤ b ∧ b ≤ 255 := by
 unfold spec_l1Cur_next.f
 rw [wid (show -9223372036854775808 ≤ p + 1 by omega) zO5_1]
 have hw : ∀ y : Int, 0 ≤ wrap64 (Go.bits .and .u64 (IntKind.u64.wrap y / 1099511627776) 255) ∧ wrap64 (Go.bits .and .u64 (IntKind.u64.wrap y / 1099511627776) 255) ≤ 255 := by
  intro y
  have hy : 0 ≤ IntKind.u64.wrap y ∧ IntKind.u64.wrap y < 18446744073709551616 := by rw [IntKind.wrap_u64]; omega
  rw [and255 _ zO5_1 zO5_1, wid zO5_1 zO5_1]
  omega
 by_cases c1 : p < (l.length : Int)
 ·have hr := rd_byte hb h0 c1
  simp only [c1, h0, if_true, show p + 1 ≤ (l.length : Int) by omega]
  exact ⟨_, _, rfl, by rw [wid zO5_1 zO5_1]; exact hr⟩
 ·simp only [c1, if_false, show ¬ (p + 1 ≤ (l.length : Int)) by omega]
  exact ⟨_, _, rfl, hw _⟩
theorem pick_ok {l : List Int} (hb : Bytes l) {p s : Int} (h0 : 0 ≤ p) (h1 : p ≤ 1152921504606840000) (n : Int) (hn : 0 < n) : ∃ x p' s', spec_l1Cur_pick.f l p s n = some (x, p', s') ∧ (0 ≤ x ∧ x < n) ∧ p ≤ p' ∧ p' ≤ p + 2 := by
 unfold spec_l1Cur_pick.f
 by_cases c : n ≤ 1
 ·simp only [c, if_true]
  exact ⟨_, _, _, rfl, by omega, by omega, by omega⟩
 ·obtain ⟨b, s1, e1, hb0, hb1⟩ := next_ok hb (s := s) h0 zO5_1
  simp only [c, if_false, e1, Option.bind_some, show ¬ n = 0 by omega]
  by_cases c2 : n > 200
  ·obtain ⟨b2, s2, e2, hb2, hb3⟩ := next_ok hb (p := p + 1) (s := s1) zO5_1 zO5_1
   simp only [c2, if_true, e2, Option.bind_some]
   rw [wid (show -9223372036854775808 ≤ b * 256 by omega) zO5_1, wid (show -9223372036854775808 ≤ b * 256 + b2 by omega) zO5_1]
   exact ⟨_, _, _, rfl, ⟨Int.tmod_nonneg _ zO5_1, Int.tmod_lt_of_pos _ hn⟩, by omega, by omega⟩
  ·simp only [c2, if_false]
   exact ⟨_, _, _, rfl, ⟨Int.tmod_nonneg _ zO5_1, Int.tmod_lt_of_pos _ hn⟩, by omega, by omega⟩
theorem one_ok {l : List Int} (hb : Bytes l) {p s : Int} (h0 : 0 ≤ p) (h1 : p ≤ 1152921504606840000) (n : Int) (hn : 0 < n) : ∃ x p' s', spec_l1Cur_one.f l p s n = some (x, p', s') ∧ p ≤ p' ∧ p' ≤ p + 2 := by
 obtain ⟨x, p', s', e, _, h2, h3⟩ := pick_ok hb (s := s) h0 h1 n hn
 unfold spec_l1Cur_one.f
 rw [e]
 exact ⟨_, _, _, rfl, h2, h3⟩
theorem among_ok {l : List Int} (hb : Bytes l) {p s : Int} (h0 : 0 ≤ p) (h1 : p ≤ 1152921504606840000) (L : List Int) (hL : 0 < L.length) : ∃ x p' s', spec_l1Cur_among.f l p s L = some (x, p', s') ∧ p ≤ p' ∧ p' ≤ p + 2 := by
 obtain ⟨x, p', s', e, hx, h2, h3⟩ := pick_ok hb (s := s) h0 h1 (L.length : Int) zO5_1
 unfold spec_l1Cur_among.f
 rw [e]
 simp only [Option.bind_some, hx.1, hx.2, if_true]
 exact ⟨_, _, _, rfl, h2, h3⟩
theorem sureLadders_ok {b : List Int} (hb : Bytes b) {p s : Int} (h0 : 0 ≤ p) (h1 : p ≤ 1152921504606830000) : ∃ x y z p' s', spec_l1Cur_sureLadders.f b p s = some (x, y, z, p', s') ∧ p ≤ p' ∧ p' ≤ p + 8 := by
 obtain ⟨x, p1, s1, e1, q1, h2, h3⟩ := pick_ok hb (s := s) h0 zO5_1 6 zO5_1
 unfold spec_l1Cur_sureLadders.f
 simp only [e1, Option.bind_some]
 by_cases c0 : x = 0
 ·simp only [c0, if_true]
  exact ⟨_, _, _, _, _, rfl, by omega, by omega⟩
 ·simp only [c0, if_false]
  by_cases c1 : x = 1
  ·simp only [c1, if_true]
   obtain ⟨y, p2, s2, e2, q2, h4, h5⟩ := pick_ok hb (p := p1) (s := s1) zO5_1 zO5_1 9 zO5_1
   obtain ⟨z, p3, s3, e3, h6, h7⟩ := among_ok hb (p := p2) (s := s2) zO5_1 zO5_1 [5, 9, 16, 35] zO5_2
   obtain ⟨u, p4, s4, e4, h8, h9⟩ := among_ok hb (p := p3) (s := s3) zO5_1 zO5_1 [5, 9, 16, 35] zO5_2
   simp only [e2, e3, e4, Option.bind_some]
   exact ⟨_, _, _, _, _, rfl, by omega, by omega⟩
  ·simp only [c1, if_false]
   obtain ⟨y, p2, s2, e2, q2, h4, h5⟩ := pick_ok hb (p := p1) (s := s1) zO5_1 zO5_1 20 zO5_1
   obtain ⟨z, p3, s3, e3, q3, h6, h7⟩ := pick_ok hb (p := p2) (s := s2) zO5_1 zO5_1 20 zO5_1
   obtain ⟨u, p4, s4, e4, q4, h8, h9⟩ := pick_ok hb (p := p3) (s := s3) zO5_1 zO5_1 20 zO5_1
   simp only [e2, e3, e4, Option.bind_some]
   exact ⟨_, _, _, _, _, rfl, by omega, by omega⟩
theorem ladders_ok {b : List Int} (hb : Bytes b) {p s : Int} (h0 : 0 ≤ p) (h1 : p ≤ 1152921504606830000) : ∃ x y z p' s', spec_l1Cur_ladders.f b p s = some (x, y, z, p', s') ∧ p ≤ p' ∧ p' ≤ p + 12 := by
 obtain ⟨x, y, z, p1, s1, e1, h2, h3⟩ := sureLadders_ok hb (s := s) h0 h1
 obtain ⟨u, p2, s2, e2, q2, h4, h5⟩ := pick_ok hb (p := p1) (s := s1) zO5_1 zO5_1 20 zO5_1
 obtain ⟨v, p3, s3, e3, h6, h7⟩ := among_ok hb (p := p2) (s := s2) zO5_1 zO5_1 [-1, 0, 1, 1000, 1001, 4611686018427387904] zO5_2
 unfold spec_l1Cur_ladders.f
 simp only [e1, e2, e3, Option.bind_some]
 split
 ·exact ⟨_, _, _, _, _, rfl, by omega, by omega⟩
 ·split
  ·exact ⟨_, _, _, _, _, rfl, by omega, by omega⟩
  ·split
   ·exact ⟨_, _, _, _, _, rfl, by omega, by omega⟩
   ·exact ⟨_, _, _, _, _, rfl, by omega, by omega⟩
theorem spec_l1In.eq (a lo hi : Int) : spec_l1In.f a lo hi = some (inr lo hi a) := by
 unfold spec_l1In.f inr
 by_cases h : a ≥ lo
 ·rw [if_pos h]; simp [show lo ≤ a from h]
 ·rw [if_neg h]; simp [show ¬ lo ≤ a from h]
theorem impl_within.eq (a lo hi : Int) : impl_within.f a lo hi = some (inr lo hi a) := by
 unfold impl_within.f inr
 by_cases h : a ≥ lo
 ·rw [if_pos h]; simp [show lo ≤ a from h]
 ·rw [if_neg h]; simp [show ¬ lo ≤ a from h]
def mHidden (a b c : Int) : Bool := inr 1 12 a && (inr 1 12 b && inr 1 12 c)
theorem mHidden_iff {a b c : Int} : mHidden a b c = true ↔ (1 ≤ a ∧ a ≤ 12) ∧ (1 ≤ b ∧ b ≤ 12) ∧ (1 ≤ c ∧ c ≤ 12) := by
 unfold mHidden; simp only [Bool.and_eq_true, inr_iff]
theorem impl_areHidden.eq (a b c : Int) : impl_areHidden.f a b c = some (mHidden a b c) := by
 unfold impl_areHidden.f impl_isSmall.f mHidden
 simp only [impl_within.eq, Option.bind_some]
 cases inr 1 12 a <;> cases inr 1 12 b <;> cases inr 1 12 c <;> simp
theorem spec_pzHidden.eq (a b c : Int) : spec_pzHidden.f a b c = some (mHidden a b c) := by
 unfold spec_pzHidden.f spec_pzWide.f mHidden
 simp only [spec_l1In.eq, Option.bind_some]
 cases inr 1 12 a <;> cases inr 1 12 b <;> cases inr 1 12 c <;> simp
theorem Ev.succ {α : Type} {g : Nat → Option α} {r : α} (h : Ev (fun k => g (k + 1)) r) : Ev g r := Ev.step (fun _ => rfl) h
theorem Ev.ite {α : Type} {c : Prop} [Decidable c] {g f : Nat → Option α} {r s : α} (h1 : c → Ev g r) (h2 : ¬ c → Ev f s) : Ev (fun k => if c then g k else f k) (if c then r else s) := by
 by_cases h : c
 ·simp only [if_pos h]; exact h1 h
 ·simp only [if_neg h]; exact h2 h
theorem Ev.bindc {α β : Type} {g : Option α} {f : Nat → α → Option β} {a : α} {r : β} (h : g = some a) (k : Ev (fun n => f n a) r) : Ev (fun n => g.bind (f n)) r := by
 subst h; exact k
theorem gcd_tmod (a b : Int) : Int.gcd b (Int.tmod a b) = Int.gcd a b := by
 rw [Int.gcd_eq_natAbs_gcd_natAbs, Int.gcd_eq_natAbs_gcd_natAbs, Int.natAbs_tmod, Nat.gcd_comm, Nat.gcd_comm a.natAbs]
 exact (Nat.gcd_rec _ _).symm
theorem impl_gcd.ev_l (n : Nat) : ∀ a b : Int, b.natAbs ≤ n → -9223372036854775807 ≤ a → a ≤ 9223372036854775807 → -9223372036854775807 ≤ b → b ≤ 9223372036854775807 → Ev (fun k => impl_gcd.l0 k a b) (Int.gcd a b : Int) := by
 induction n using Nat.strongRecOn with
 | ind n ih =>
  intro a b hn ha0 ha1 hb0 hb1
  by_cases hb : b = 0
  ·subst hb
   refine Ev.step (f := fun _ => some (mx a (wrap64 (-a)))) (fun k => by simp only [impl_gcd.l0, if_true]) ?_
   refine Ev.const ?_
   rw [wid zO5_1 zO5_1, Int.gcd_zero_right]
   congr 1
   unfold mx; split <;> omega
  ·refine Ev.step (f := fun k => impl_gcd.l0 k b (Int.tmod a b)) (fun k => by simp only [impl_gcd.l0]; rw [if_neg hb]) ?_
   have h1 : (Int.tmod a b).natAbs < b.natAbs := by rw [Int.natAbs_tmod]; exact Nat.mod_lt _ zO5_1
   exact ev_eq (ih (Int.tmod a b).natAbs zO5_1 b (Int.tmod a b) (Nat.le_refl _) hb0 hb1 zO5_1 zO5_1) (by rw [gcd_tmod])
theorem impl_gcd.ev {a b : Int} (ha0 : -9223372036854775807 ≤ a) (ha1 : a ≤ 9223372036854775807) (hb0 : -9223372036854775807 ≤ b) (hb1 : b ≤ 9223372036854775807) : Ev (fun k => impl_gcd.f k a b) (Int.gcd a b : Int) := by
 unfold impl_gcd.f; exact impl_gcd.ev_l _ a b (Nat.le_refl _) ha0 ha1 hb0 hb1
/-- The fraction in lowest terms. -/
def loA (a b : Int) : Int := a / (Int.gcd a b : Int)
def loB (a b : Int) : Int := b / (Int.gcd a b : Int)
theorem gcd_pos {a b : Int} (hb : 0 < b) : (0 : Int) < (Int.gcd a b : Int) := by
 have : 0 < Int.gcd a b := Int.gcd_pos_of_ne_zero_right _ zO5_1
 omega
theorem lo_mulA {a b : Int} : loA a b * (Int.gcd a b : Int) = a := Int.ediv_mul_cancel (Int.gcd_dvd_left ..)
theorem lo_mulB {a b : Int} : loB a b * (Int.gcd a b : Int) = b := Int.ediv_mul_cancel (Int.gcd_dvd_right ..)
theorem loA_bd {a b : Int} (hb : 0 < b) : (loA a b).natAbs ≤ a.natAbs := by
 unfold loA
 rw [Int.natAbs_ediv_of_dvd (Int.gcd_dvd_left ..)]
 exact Nat.div_le_self _ _
theorem loB_pos {a b : Int} (hb : 0 < b) : 0 < loB a b ∧ loB a b ≤ b := by
 have g := gcd_pos (a := a) hb
 have e := lo_mulB (a := a) (b := b)
 have h0 : 0 < loB a b := by
  rcases Int.lt_or_le 0 (loB a b) with h | h
  ·exact h
  ·have := Int.mul_nonneg (show 0 ≤ -(loB a b) by omega) (show 0 ≤ (Int.gcd a b : Int) by omega)
   rw [Int.neg_mul, e] at this
   omega
 refine ⟨h0, ?_⟩
 have : loB a b * 1 ≤ loB a b * (Int.gcd a b : Int) := Int.mul_le_mul_of_nonneg_left zO5_1 zO5_1
 rw [e] at this
 omega
theorem loA_nonneg {a b : Int} (ha : 0 ≤ a) (hb : 0 < b) : 0 ≤ loA a b ∧ loA a b ≤ a := by
 have g := gcd_pos (a := a) hb
 refine ⟨Int.ediv_nonneg ha zO5_1, ?_⟩
 have := loA_bd (a := a) hb
 have h0 : 0 ≤ loA a b := Int.ediv_nonneg ha zO5_1
 omega
theorem tdiv_gcd_l {a b : Int} : Int.tdiv a (Int.gcd a b : Int) = loA a b := Int.tdiv_eq_ediv_of_dvd (Int.gcd_dvd_left ..)
theorem tdiv_gcd_r {a b : Int} : Int.tdiv b (Int.gcd a b : Int) = loB a b := Int.tdiv_eq_ediv_of_dvd (Int.gcd_dvd_right ..)
theorem impl_fraction.ev {a b : Int} (ha0 : -9223372036854775807 ≤ a) (ha1 : a ≤ 9223372036854775807) (hb0 : 0 < b) (hb1 : b ≤ 9223372036854775807) : Ev (fun k => impl_fraction.f k a b) (loA a b, loB a b, true) := by
 unfold impl_fraction.f
 refine Ev.bind (impl_gcd.ev ha0 ha1 zO5_1 hb1) ?_
 have g := gcd_pos (a := a) hb0
 have h1 := loA_bd (a := a) hb0
 have h2 := loB_pos (a := a) hb0
 refine Ev.const ?_
 rw [if_neg zO5_1, tdiv_gcd_l, tdiv_gcd_r, wid zO5_1 zO5_1, wid zO5_1 zO5_1]
theorem spec_clLow.ev_l (x y : Int) (hx0 : 0 ≤ x) (hx1 : x ≤ 9223372036854775807) (hy0 : 0 < y) (hy1 : y ≤ 9223372036854775807) (n : Nat) : ∀ a b : Int, b.natAbs ≤ n → 0 ≤ a → 0 ≤ b → (0 < a ∨ 0 < b) → Int.gcd a b = Int.gcd x y → Ev (fun k => spec_clLow.l0 k x y a b) (loA x y, loB x y) := by
 induction n using Nat.strongRecOn with
 | ind n ih =>
  intro a b hn ha hb hab hg
  by_cases hb' : b = 0
  ·subst hb'
   refine Ev.step (f := fun _ => some (wrap64 (Int.tdiv x a), wrap64 (Int.tdiv y a))) (fun k => by simp only [spec_clLow.l0]; rw [if_neg zO5_1, if_neg zO5_1]) ?_
   refine Ev.const ?_
   have ea : a = (Int.gcd x y : Int) := by rw [← hg, Int.gcd_zero_right]; omega
   have h1 := loA_bd (a := x) hy0
   have h2 := loB_pos (a := x) hy0
   rw [ea, tdiv_gcd_l, tdiv_gcd_r, wid zO5_1 zO5_1, wid zO5_1 zO5_1]
  ·refine Ev.step (f := fun k => spec_clLow.l0 k x y b (Int.tmod a b)) (fun k => by simp only [spec_clLow.l0]; rw [if_pos zO5_1, if_neg hb']) ?_
   have h1 : (Int.tmod a b).natAbs < b.natAbs := by rw [Int.natAbs_tmod]; exact Nat.mod_lt _ zO5_1
   exact ih (Int.tmod a b).natAbs zO5_1 b (Int.tmod a b) (Nat.le_refl _) hb (Int.tmod_nonneg _ ha) (.inl zO5_1) ((gcd_tmod a b).trans hg)
theorem spec_clLow.ev {x y : Int} (hx0 : 0 ≤ x) (hx1 : x ≤ 9223372036854775807) (hy0 : 0 < y) (hy1 : y ≤ 9223372036854775807) : Ev (fun k => spec_clLow.f k x y) (loA x y, loB x y) := by
 unfold spec_clLow.f; exact spec_clLow.ev_l x y hx0 hx1 hy0 hy1 _ x y (Nat.le_refl _) hx0 zO5_1 (.inr hy0) rfl
theorem sq_le {a b : Int} (h0 : 0 ≤ a) (h : a ≤ b) : a * a ≤ b * b := Int.mul_le_mul h h h0 zO5_1
theorem sq_lt {a b : Int} (h0 : 0 ≤ a) (h : a < b) : a * a < b * b := by
 have h1 := Int.mul_le_mul_of_nonneg_right (show a ≤ b by omega) h0
 have h2 := Int.mul_lt_mul_of_pos_left h (show 0 < b by omega)
 omega
/-- The greatest whole number up to n whose square is not greater than x. -/
def flrN : Nat → Int → Int
 | 0, _ => 0
 | n + 1, x => if ((n : Int) + 1) * ((n : Int) + 1) ≤ x then (n : Int) + 1 else flrN n x
def flr (x : Int) : Int := flrN x.toNat x
theorem flrN_spec (x : Int) (hx : 0 ≤ x) : ∀ n : Nat, 0 ≤ flrN n x ∧ flrN n x ≤ n ∧ flrN n x * flrN n x ≤ x ∧ (flrN n x < n → x < (flrN n x + 1) * (flrN n x + 1))
 | 0 => by simp [flrN]; exact hx
 | n + 1 => by
  have ih := flrN_spec x hx n
  unfold flrN
  by_cases h : ((n : Int) + 1) * ((n : Int) + 1) ≤ x
  ·rw [if_pos h]; exact ⟨by omega, by omega, h, fun h => by omega⟩
  ·rw [if_neg h]
   refine ⟨ih.1, by omega, ih.2.2.1, fun _ => ?_⟩
   by_cases h2 : flrN n x < n
   ·exact ih.2.2.2 h2
   ·have h3 : flrN n x = n := by omega
    rw [h3]; omega
theorem flr_spec {x : Int} (hx : 0 ≤ x) : 0 ≤ flr x ∧ flr x * flr x ≤ x ∧ x < (flr x + 1) * (flr x + 1) := by
 have h := flrN_spec x hx x.toNat
 unfold flr
 refine ⟨h.1, h.2.2.1, ?_⟩
 by_cases h2 : flrN x.toNat x < x.toNat
 ·exact h.2.2.2 h2
 ·have h3 : flrN x.toNat x = x := by omega
  rw [h3]
  have : x * 1 ≤ x * (x + 1) := Int.mul_le_mul_of_nonneg_left zO5_1 hx
  have e : (x + 1) * (x + 1) = x * (x + 1) + (x + 1) := by rw [Int.add_mul, Int.one_mul]
  omega
theorem flr_le {x n : Int} (hx : 0 ≤ x) (h0 : 0 ≤ n) (h : n * n ≤ x) : n ≤ flr x := by
 have hs := flr_spec hx
 rcases Int.lt_or_le (flr x) n with h1 | h1
 ·have := sq_le (show 0 ≤ flr x + 1 by omega) (show flr x + 1 ≤ n by omega)
  omega
 ·exact h1
theorem flr_lt {x n : Int} (hx : 0 ≤ x) (h0 : 0 ≤ n) (h : x < n * n) : flr x < n := by
 have hs := flr_spec hx
 rcases Int.lt_or_le (flr x) n with h1 | h1
 ·exact h1
 ·have := sq_le h0 h1
  omega
def mWhole (x : Int) : Bool := flr x * flr x == x
def mCeil (x : Int) : Int := if mWhole x = true then flr x else flr x + 1
theorem mCeil_spec {x : Int} (hx : 0 ≤ x) : 0 ≤ mCeil x ∧ x ≤ mCeil x * mCeil x ∧ (mCeil x * mCeil x == x) = mWhole x := by
 have hs := flr_spec hx
 unfold mCeil
 by_cases h : mWhole x = true
 ·rw [if_pos h]
  have e : flr x * flr x = x := by simpa [mWhole] using h
  exact ⟨hs.1, by omega, by rw [h]; simpa using e⟩
 ·rw [if_neg h]
  refine ⟨by omega, by omega, ?_⟩
  rw [Bool.eq_false_iff.mpr h]
  simp only [beq_eq_false_iff_ne, ne_eq]
  omega
theorem mCeil_le {x n : Int} (hx : 0 ≤ x) (h0 : 0 ≤ n) (h : x ≤ n * n) : mCeil x ≤ n := by
 have hs := flr_spec hx
 unfold mCeil
 by_cases hw : mWhole x = true
 ·rw [if_pos hw]
  have e : flr x * flr x = x := by simpa [mWhole] using hw
  rcases Int.lt_or_le n (flr x) with h1 | h1
  ·have := sq_lt h0 h1; omega
  ·exact h1
 ·rw [if_neg hw]
  have e : flr x * flr x ≠ x := by simpa [mWhole] using hw
  rcases Int.lt_or_le (flr x) n with h1 | h1
  ·omega
  ·have := sq_le h0 h1; omega
theorem mCeil_gt {x n : Int} (hx : 0 ≤ x) (h0 : 0 ≤ n) (h : n * n < x) : n < mCeil x := by
 have hs := mCeil_spec hx
 rcases Int.lt_or_le n (mCeil x) with h1 | h1
 ·exact h1
 ·have := sq_le hs.1 h1; omega
theorem tdiv2 {a : Int} (h : 0 ≤ a) : Int.tdiv a 2 = a / 2 := Int.tdiv_eq_ediv_of_nonneg h
theorem spec_clRoot.ev_l {x : Int} (hx : 0 ≤ x) (n : Nat) : ∀ lo hi : Int, (hi - lo).toNat ≤ n → 0 ≤ lo → lo < hi → hi ≤ 2147483648 → lo ≤ flr x → flr x < hi → Ev (fun k => spec_clRoot.l0 k x lo hi) (flr x) := by
 induction n using Nat.strongRecOn with
 | ind n ih =>
  intro lo hi hn h0 h1 h2 h3 h4
  have hs := flr_spec hx
  refine Ev.succ ?_
  simp only [spec_clRoot.l0]
  rw [wid (show -9223372036854775808 ≤ hi - 1 by omega) zO5_1]
  by_cases hlt : lo < hi - 1
  ·simp only [if_pos hlt]
   rw [wid (show -9223372036854775808 ≤ lo + hi by omega) zO5_1, tdiv2 zO5_1, wid (show -9223372036854775808 ≤ (lo + hi) / 2 by omega) zO5_1]
   have hm0 : 0 ≤ (lo + hi) / 2 := by omega
   have hmb := mul_bd hm0 (show (lo + hi) / 2 ≤ 2147483648 by omega) hm0 (show (lo + hi) / 2 ≤ 2147483648 by omega)
   rw [wid (show -9223372036854775808 ≤ (lo + hi) / 2 * ((lo + hi) / 2) by omega) zO5_1]
   by_cases hc : (lo + hi) / 2 * ((lo + hi) / 2) ≤ x
   ·simp only [if_pos hc]
    have := flr_le hx hm0 hc
    exact ih (hi - (lo + hi) / 2).toNat zO5_1 _ _ (Nat.le_refl _) zO5_1 zO5_1 h2 this h4
   ·simp only [if_neg hc]
    have := flr_lt hx hm0 zO5_1
    exact ih ((lo + hi) / 2 - lo).toNat zO5_1 _ _ (Nat.le_refl _) h0 zO5_1 zO5_1 h3 this
  ·simp only [if_neg hlt]
   exact Ev.const (by congr 1; omega)
theorem spec_clRoot.ev {x : Int} (hx : 0 ≤ x) (hx1 : x < 4611686018427387904) : Ev (fun k => spec_clRoot.f k x) (flr x) := by
 unfold spec_clRoot.f
 exact spec_clRoot.ev_l hx _ 0 2147483648 (Nat.le_refl _) zO5_1 zO5_1 zO5_1 (flr_spec hx).1 (flr_lt hx zO5_1 zO5_1)
def mLadders (a b c : Int) : Bool := inr 1 1000 a && (inr 1 1000 b && inr 1 1000 c)
theorem mLadders_iff {a b c : Int} : mLadders a b c = true ↔ (1 ≤ a ∧ a ≤ 1000) ∧ (1 ≤ b ∧ b ≤ 1000) ∧ (1 ≤ c ∧ c ≤ 1000) := by
 unfold mLadders; simp only [Bool.and_eq_true, inr_iff]
theorem impl_AreLadders.eq (a b c : Int) : impl_AreLadders.f a b c = some (mLadders a b c) := by
 unfold impl_AreLadders.f impl_isWide.f mLadders
 simp only [impl_within.eq, Option.bind_some]
 cases inr 1 1000 a <;> cases inr 1 1000 b <;> cases inr 1 1000 c <;> simp
def mCrossHeight (a b c : Int) : Int × Int × Bool := if mLadders a b c = true then (loA (b * c) (b + c), loB (b * c) (b + c), true) else (0, 0, false)
def mCrossPlace (a b c : Int) : Int × Int × Bool := if mLadders a b c = true then (loA (b * a) (b + c), loB (b * a) (b + c), true) else (0, 0, false)
theorem impl_CrossHeight.ev (a b c : Int) : Ev (fun k => impl_CrossHeight.f k a b c) (mCrossHeight a b c) := by
 unfold impl_CrossHeight.f mCrossHeight
 refine Ev.bindc (impl_AreLadders.eq a b c) ?_
 refine Ev.ite (fun h => ?_) (fun _ => Ev.now _)
 obtain ⟨h0, h1, h2⟩ := mLadders_iff.1 h
 have p := mul_bd (a := b) (b := c) (A := 1000) (B := 1000) zO5_1 zO5_1 zO5_1 zO5_1
 rw [wid (show -9223372036854775808 ≤ b * c by omega) zO5_1, wid (show -9223372036854775808 ≤ b + c by omega) zO5_1]
 exact Ev.bind (impl_fraction.ev zO5_1 zO5_1 zO5_1 zO5_1) (Ev.now _)
theorem impl_CrossPlace.ev (a b c : Int) : Ev (fun k => impl_CrossPlace.f k a b c) (mCrossPlace a b c) := by
 unfold impl_CrossPlace.f mCrossPlace
 refine Ev.bindc (impl_AreLadders.eq a b c) ?_
 refine Ev.ite (fun h => ?_) (fun _ => Ev.now _)
 obtain ⟨h0, h1, h2⟩ := mLadders_iff.1 h
 have p := mul_bd (a := b) (b := a) (A := 1000) (B := 1000) zO5_1 zO5_1 zO5_1 zO5_1
 rw [wid (show -9223372036854775808 ≤ b * a by omega) zO5_1, wid (show -9223372036854775808 ≤ b + c by omega) zO5_1]
 exact Ev.bind (impl_fraction.ev zO5_1 zO5_1 zO5_1 zO5_1) (Ev.now _)
theorem impl_rootOf.ev_b {x : Int} (hx : 0 ≤ x) (hx1 : x ≤ 1152921504606846976) (n : Nat) : ∀ lo hi : Int, (hi - lo).toNat ≤ n → 0 ≤ lo → lo ≤ mCeil x → mCeil x ≤ hi → hi ≤ 2147483648 → Ev (fun k => impl_rootOf.l1 k x lo hi) (mCeil x, mWhole x) := by
 induction n using Nat.strongRecOn with
 | ind n ih =>
  intro lo hi hn h0 h1 h2 h3
  have hs := mCeil_spec hx
  refine Ev.succ ?_
  simp only [impl_rootOf.l1]
  by_cases hlt : lo < hi
  ·simp only [if_pos hlt]
   rw [wid (show -9223372036854775808 ≤ lo + hi by omega) zO5_1, tdiv2 zO5_1, wid (show -9223372036854775808 ≤ (lo + hi) / 2 by omega) zO5_1]
   have hm0 : 0 ≤ (lo + hi) / 2 := by omega
   have hmb := mul_bd hm0 (show (lo + hi) / 2 ≤ 2147483648 by omega) hm0 (show (lo + hi) / 2 ≤ 2147483648 by omega)
   rw [wid (show -9223372036854775808 ≤ (lo + hi) / 2 * ((lo + hi) / 2) by omega) zO5_1]
   by_cases hc : (lo + hi) / 2 * ((lo + hi) / 2) < x
   ·simp only [if_pos hc]
    have := mCeil_gt hx hm0 hc
    rw [wid (show -9223372036854775808 ≤ (lo + hi) / 2 + 1 by omega) zO5_1]
    exact ih (hi - ((lo + hi) / 2 + 1)).toNat zO5_1 _ _ (Nat.le_refl _) zO5_1 zO5_1 h2 h3
   ·simp only [if_neg hc]
    have := mCeil_le hx hm0 zO5_1
    exact ih ((lo + hi) / 2 - lo).toNat zO5_1 _ _ (Nat.le_refl _) h0 h1 this zO5_1
  ·simp only [if_neg hlt]
   have e : lo = mCeil x := by omega
   refine Ev.const ?_
   have hmb := mul_bd h0 (show lo ≤ 2147483648 by omega) h0 (show lo ≤ 2147483648 by omega)
   rw [wid (show -9223372036854775808 ≤ lo * lo by omega) zO5_1, e, hs.2.2]
theorem impl_rootOf.ev_a {x : Int} (hx : 0 ≤ x) (hx1 : x ≤ 1152921504606846976) (n : Nat) : ∀ hi : Int, (2147483648 - hi).toNat ≤ n → 1 ≤ hi → hi ≤ 2147483648 → Ev (fun k => impl_rootOf.l0 k x 0 hi) (mCeil x, mWhole x) := by
 induction n using Nat.strongRecOn with
 | ind n ih =>
  intro hi hn h0 h1
  have hs := mCeil_spec hx
  refine Ev.succ ?_
  simp only [impl_rootOf.l0]
  have hmb := mul_bd (show 0 ≤ hi by omega) h1 (show 0 ≤ hi by omega) h1
  rw [wid (show -9223372036854775808 ≤ hi * hi by omega) zO5_1]
  by_cases hc : hi * hi < x
  ·simp only [if_pos hc]
   have hh : hi ≤ 1073741823 := by
    rcases Int.lt_or_le hi 1073741824 with h | h
    ·omega
    ·have := sq_le (show (0 : Int) ≤ 1073741824 by omega) h; omega
   rw [wid (show -9223372036854775808 ≤ hi * 2 by omega) zO5_1]
   exact ih (2147483648 - hi * 2).toNat zO5_1 _ (Nat.le_refl _) zO5_1 zO5_1
  ·simp only [if_neg hc]
   exact impl_rootOf.ev_b hx hx1 _ 0 hi (Nat.le_refl _) zO5_1 hs.1 (mCeil_le hx zO5_1 zO5_1) h1
theorem impl_rootOf.ev {x : Int} (hx : 0 ≤ x) (hx1 : x ≤ 1152921504606846976) : Ev (fun k => impl_rootOf.f k x) (mCeil x, mWhole x) := by
 unfold impl_rootOf.f
 exact impl_rootOf.ev_a hx hx1 _ 1 (Nat.le_refl _) zO5_1 zO5_1
def mOwn (a b c : Int) : Int := if a = 1 then c else b
/-- What a clue of kind k tells of ladders (w, l, r), with a for the kind 3. -/
def mVal (k a w l r : Int) : Int × Int :=
 if k = 0 then (a, l + r) else if k = 1 then (a, if l > r then 1 else 0) else if k = 2 then (loA (l * r) (l + r), loB (l * r) (l + r))
 else if k = 3 then (a, if mWhole (w * w + mOwn a l r * mOwn a l r) = true then 1 else 0) else if k = 4 then (loA (l * w) (l + r), loB (l * w) (l + r)) else (a, l * r)
theorem mWhole_flr (x : Int) : (flr x * flr x = x) = (mWhole x = true) := by unfold mWhole; simp
theorem spec_pzValue.ev (k a w l r : Int) (h : mHidden w l r = true) : Ev (fun n => spec_pzValue.f n k a w l r) (mVal k a w l r) := by
 obtain ⟨h0, h1, h2⟩ := mHidden_iff.1 h
 have p1 := mul_bd (a := l) (b := r) (A := 12) (B := 12) zO5_1 zO5_1 zO5_1 zO5_1
 have p2 := mul_bd (a := l) (b := w) (A := 12) (B := 12) zO5_1 zO5_1 zO5_1 zO5_1
 have p3 := mul_bd (a := w) (b := w) (A := 12) (B := 12) zO5_1 zO5_1 zO5_1 zO5_1
 have p4 := mul_bd (a := l) (b := l) (A := 12) (B := 12) zO5_1 zO5_1 zO5_1 zO5_1
 have p5 := mul_bd (a := r) (b := r) (A := 12) (B := 12) zO5_1 zO5_1 zO5_1 zO5_1
 unfold spec_pzValue.f mVal
 rw [Int.mul_comm w l, wid (show -9223372036854775808 ≤ l + r by omega) zO5_1, wid (show -9223372036854775808 ≤ l * r by omega) zO5_1, wid (show -9223372036854775808 ≤ l * w by omega) zO5_1]
 refine Ev.ite (fun _ => Ev.now _) (fun _ => ?_)
 refine Ev.ite (fun _ => ?_) (fun _ => ?_)
 ·by_cases hc : l > r
  ·simp only [if_pos hc]; exact Ev.now _
  ·simp only [if_neg hc]; exact Ev.now _
 refine Ev.ite (fun _ => Ev.bind (spec_clLow.ev zO5_1 zO5_1 zO5_1 zO5_1) (Ev.now _)) (fun _ => ?_)
 refine Ev.ite (fun _ => ?_) (fun _ => ?_)
 ·refine Ev.bindc (a := (w * w + l * l, w * w + r * r)) ?_ ?_
  ·unfold spec_clSquares.f
   rw [wid (show -9223372036854775808 ≤ w * w by omega) zO5_1, wid (show -9223372036854775808 ≤ l * l by omega) zO5_1, wid (show -9223372036854775808 ≤ r * r by omega) zO5_1, wid (show -9223372036854775808 ≤ w * w + l * l by omega) zO5_1, wid (show -9223372036854775808 ≤ w * w + r * r by omega) zO5_1]
  ·have hsq : ∀ x : Int, 0 ≤ x → x ≤ 288 → wrap64 (flr x * flr x) = flr x * flr x := fun x hx h => by have := flr_spec hx; have := sq_le (show (0 : Int) ≤ 0 by omega) this.1; exact wid zO5_1 zO5_1
   by_cases hc : a = 1
   ·simp only [if_pos hc, mOwn]
    refine Ev.bind (spec_clRoot.ev (x := w * w + r * r) zO5_1 zO5_1) ?_
    rw [hsq _ zO5_1 zO5_1]
    simp only [mWhole_flr]
    by_cases hw : mWhole (w * w + r * r) = true
    ·simp only [if_pos hw]; exact Ev.now _
    ·simp only [if_neg hw]; exact Ev.now _
   ·simp only [if_neg hc, mOwn]
    refine Ev.bind (spec_clRoot.ev (x := w * w + l * l) zO5_1 zO5_1) ?_
    rw [hsq _ zO5_1 zO5_1]
    simp only [mWhole_flr]
    by_cases hw : mWhole (w * w + l * l) = true
    ·simp only [if_pos hw]; exact Ev.now _
    ·simp only [if_neg hw]; exact Ev.now _
 refine Ev.ite (fun _ => Ev.bind (spec_clLow.ev zO5_1 zO5_1 zO5_1 zO5_1) (Ev.now _)) (fun _ => Ev.now _)
/-- What told answers: side 0 or 1. -/
theorem impl_told.ev (k a w l r : Int) (h : mHidden w l r = true) (hk : 0 ≤ k ∧ k ≤ 5) (ha : a = 0 ∨ a = 1) (ha3 : k ≠ 3 → a = 0) : Ev (fun n => impl_told.f n w l r k a) (k, (mVal k a w l r).1, (mVal k a w l r).2) := by
 obtain ⟨h0, h1, h2⟩ := mHidden_iff.1 h
 have hL : mLadders w l r = true := mLadders_iff.2 zO5_1
 have p1 := mul_bd (a := l) (b := r) (A := 12) (B := 12) zO5_1 zO5_1 zO5_1 zO5_1
 have p2 := mul_bd (a := l) (b := w) (A := 12) (B := 12) zO5_1 zO5_1 zO5_1 zO5_1
 have p3 := mul_bd (a := w) (b := w) (A := 12) (B := 12) zO5_1 zO5_1 zO5_1 zO5_1
 have p4 := mul_bd (a := l) (b := l) (A := 12) (B := 12) zO5_1 zO5_1 zO5_1 zO5_1
 have p5 := mul_bd (a := r) (b := r) (A := 12) (B := 12) zO5_1 zO5_1 zO5_1 zO5_1
 unfold impl_told.f
 rw [wid (show -9223372036854775808 ≤ l + r by omega) zO5_1, wid (show -9223372036854775808 ≤ l * r by omega) zO5_1]
 have hk6 : k = 0 ∨ k = 1 ∨ k = 2 ∨ k = 3 ∨ k = 4 ∨ k = 5 := by omega
 rcases hk6 with rfl | rfl | rfl | rfl | rfl | rfl
 ·obtain rfl := ha3 zO5_1
  simp only [if_true, mVal]; exact Ev.now _
 ·obtain rfl := ha3 zO5_1
  simp only [mVal, show ¬ ((1 : Int) = 0) by omega, if_false, if_true]
  by_cases hc : l > r
  ·simp [impl_asNumber.f, hc]; exact Ev.now _
  ·simp [impl_asNumber.f, hc]; exact Ev.now _
 ·simp only [mVal, show ¬ ((2 : Int) = 0) by omega, show ¬ ((2 : Int) = 1) by omega, if_false, if_true]
  have e := impl_CrossHeight.ev w l r
  rw [mCrossHeight, if_pos hL] at e
  exact Ev.bind e (Ev.now _)
 ·simp only [mVal, show ¬ ((3 : Int) = 0) by omega, show ¬ ((3 : Int) = 1) by omega, show ¬ ((3 : Int) = 2) by omega, if_false, if_true, Option.bind_some]
  have hl : (([l, r] : List Int).length : Int) = 2 := rfl
  rw [hl]
  simp only [show 0 ≤ a by omega, show a < 2 by omega, if_true]
  have hrd : rd [l, r] a = mOwn a l r := by
   rcases ha with rfl | rfl
   ·simp [mOwn, rd]
   ·simp [mOwn, rd]
  rw [hrd]
  have hob : 1 ≤ mOwn a l r ∧ mOwn a l r ≤ 12 := by unfold mOwn; split <;> omega
  have p6 := mul_bd (a := mOwn a l r) (b := mOwn a l r) (A := 12) (B := 12) zO5_1 zO5_1 zO5_1 zO5_1
  refine Ev.bindc (a := w * w + mOwn a l r * mOwn a l r) ?_ ?_
  ·unfold impl_square.f
   rw [wid (show -9223372036854775808 ≤ w * w by omega) zO5_1, wid (show -9223372036854775808 ≤ mOwn a l r * mOwn a l r by omega) zO5_1, wid (show -9223372036854775808 ≤ w * w + mOwn a l r * mOwn a l r by omega) zO5_1]
  ·refine Ev.bind (impl_rootOf.ev zO5_1 zO5_1) ?_
   simp only [impl_asNumber.f]
   by_cases hw : mWhole (w * w + mOwn a l r * mOwn a l r) = true
   ·simp only [if_pos hw, Option.bind_some]; exact Ev.now _
   ·simp only [if_neg hw, Option.bind_some]; exact Ev.now _
 ·simp only [mVal, show ¬ ((4 : Int) = 0) by omega, show ¬ ((4 : Int) = 1) by omega, show ¬ ((4 : Int) = 2) by omega, show ¬ ((4 : Int) = 3) by omega, if_false, if_true]
  have e := impl_CrossPlace.ev w l r
  rw [mCrossPlace, if_pos hL] at e
  exact Ev.bind e (Ev.now _)
 ·obtain rfl := ha3 zO5_1
  simp only [mVal, show ¬ ((5 : Int) = 0) by omega, show ¬ ((5 : Int) = 1) by omega, show ¬ ((5 : Int) = 2) by omega, show ¬ ((5 : Int) = 3) by omega, show ¬ ((5 : Int) = 4) by omega, if_false, if_true]; exact Ev.now _
def mNx (s : Int) : Int := Int.tmod (s * 269 + 1361) 10007
theorem mNx_bd {s : Int} (h : 0 ≤ s ∧ s ≤ 10006) : 0 ≤ mNx s ∧ mNx s ≤ 10006 := by
 unfold mNx
 rw [Int.tmod_eq_emod_of_nonneg zO5_1]
 omega
theorem spec_pzNext.eq {s : Int} (h : 0 ≤ s ∧ s ≤ 10006) : spec_pzNext.f s = some (mNx s) := by
 unfold spec_pzNext.f mNx
 rw [Int.mul_comm 269 s, wid (show -9223372036854775808 ≤ s * 269 by omega) zO5_1, wid (show -9223372036854775808 ≤ s * 269 + 1361 by omega) zO5_1]
/-- The side that a clue of kind k tells of. -/
def mSide (k z : Int) : Int := if k = 3 then Int.tmod z 2 else 0
theorem spec_pzOf.ev {k z w l r : Int} (h : mHidden w l r = true) : Ev (fun n => spec_pzOf.f n k z w l r) (k, (mVal k (mSide k z) w l r).1, (mVal k (mSide k z) w l r).2) := by
 unfold spec_pzOf.f mSide
 by_cases h3 : k = 3
 ·simp only [if_pos h3]; exact Ev.bind (spec_pzValue.ev k (Int.tmod z 2) w l r h) (Ev.now _)
 ·simp only [if_neg h3]; exact Ev.bind (spec_pzValue.ev k 0 w l r h) (Ev.now _)
/-- The clues that are made, n of them, from the seed s on. -/
def mMk (w l r : Int) : Nat → Int → List S39
 | 0, _ => []
 | n + 1, s => ⟨Int.tmod (mNx s) 6, (mVal (Int.tmod (mNx s) 6) (mSide (Int.tmod (mNx s) 6) (mNx (mNx s))) w l r).1, (mVal (Int.tmod (mNx s) 6) (mSide (Int.tmod (mNx s) 6) (mNx (mNx s))) w l r).2⟩ :: mMk w l r n (mNx (mNx s))
theorem mMk_len (w l r : Int) (n : Nat) : ∀ s, (mMk w l r n s).length = n := by
 induction n with
 | zero => intro s; rfl
 | succ n ih => intro s; simp only [mMk, List.length_cons, ih]
def mMake (w l r n s : Int) : Int × List S39 × Bool := if (mHidden w l r && (inr 0 6 n && inr 0 9999 s)) = true then (w, mMk w l r n.toNat s, true) else (0, [], false)
theorem mMake_len (w l r n s : Int) : (mMake w l r n s).2.1.length ≤ 1099511627776 := by
 unfold mMake; split
 ·rename_i h; simp only [Bool.and_eq_true, inr_iff] at h; simp only [mMk_len]; omega
 ·simp
theorem kind_bd {s : Int} (h : 0 ≤ s) : 0 ≤ Int.tmod s 6 ∧ Int.tmod s 6 ≤ 5 := by rw [Int.tmod_eq_emod_of_nonneg h]; omega
theorem spec_MakePuzzle.ev_l (w l r : Int) (h : mHidden w l r = true) (d : Nat) : ∀ (s : Int) (out : List S39), d ≤ 6 → out.length ≤ 6 - d → 0 ≤ s ∧ s ≤ 10006 → Ev (fun k => spec_MakePuzzle.l0 k (d : Int) s w l r w out) (w, out ++ mMk w l r d s, true) := by
 induction d with
 | zero =>
  intro s out hd ho hs
  refine Ev.succ ?_
  simp only [spec_MakePuzzle.l0, show ¬ (((0 : Nat) : Int) > 0) by omega, if_false, mMk, List.append_nil]
  exact Ev.now _
 | succ d ih =>
  intro s out hd ho hs
  have hs1 := mNx_bd hs
  have hs2 := mNx_bd hs1
  refine Ev.succ ?_
  simp only [spec_MakePuzzle.l0, show ((d + 1 : Nat) : Int) > 0 by omega, if_true]
  refine Ev.bindc (spec_pzNext.eq hs) ?_
  refine Ev.bindc (spec_pzNext.eq hs1) ?_
  refine Ev.bind (spec_pzOf.ev h) ?_
  simp only [show out.length < 5864062014805 by omega, if_true]
  rw [wid (show -9223372036854775808 ≤ ((d + 1 : Nat) : Int) - 1 by omega) zO5_1, show ((d + 1 : Nat) : Int) - 1 = (d : Int) by omega]
  refine ev_eq (ih (mNx (mNx s)) _ zO5_1 zO5_0 hs2) ?_
  simp only [mMk, List.append_assoc, List.cons_append, List.nil_append]
theorem spec_MakePuzzle.ev (w l r n s : Int) : Ev (fun k => spec_MakePuzzle.f k w l r n s) (mMake w l r n s) := by
 unfold spec_MakePuzzle.f mMake
 refine Ev.bindc (spec_pzHidden.eq w l r) ?_
 cases h : mHidden w l r with
 | false =>
  simp only [Bool.false_eq_true, if_false, Bool.false_and]
  refine Ev.succ ?_
  simp only [spec_MakePuzzle.j0, if_true]
  exact Ev.now _
 | true =>
  simp only [if_true, Bool.true_and]
  refine Ev.bindc (spec_l1In.eq n 0 6) ?_
  cases hn : inr 0 6 n with
  | false =>
   simp only [Bool.false_eq_true, if_false, Bool.false_and]
   refine Ev.succ ?_
   simp only [spec_MakePuzzle.j0, if_true]
   exact Ev.now _
  | true =>
   simp only [if_true, Bool.true_and]
   refine Ev.bindc (spec_l1In.eq s 0 9999) ?_
   cases hs : inr 0 9999 s with
   | false =>
    simp only [Bool.false_eq_true, if_false, Bool.not_false]
    refine Ev.succ ?_
    simp only [spec_MakePuzzle.j0, if_true]
    exact Ev.now _
   | true =>
    simp only [if_true, Bool.not_true]
    refine Ev.succ ?_
    simp only [spec_MakePuzzle.j0, Bool.false_eq_true, if_false]
    have hn' := inr_iff.1 hn
    have hs' := inr_iff.1 hs
    have hnn : n = (n.toNat : Int) := by omega
    have e := spec_MakePuzzle.ev_l w l r h n.toNat s [] zO5_1 zO5_2 zO5_1
    rw [← hnn] at e
    exact ev_eq e (by rw [List.nil_append])
theorem hidden_ok {b : List Int} (hb : Bytes b) {p s : Int} (h0 : 0 ≤ p) (h1 : p ≤ 1152921504606830000) : ∃ w l r p' s', spec_l1Cur_hidden.f b p s = some (w, l, r, p', s') ∧ mHidden w l r = true ∧ p ≤ p' ∧ p' ≤ p + 6 := by
 obtain ⟨x, p1, s1, e1, q1, h2, h3⟩ := pick_ok hb (s := s) h0 zO5_1 12 zO5_1
 obtain ⟨y, p2, s2, e2, q2, h4, h5⟩ := pick_ok hb (p := p1) (s := s1) zO5_1 zO5_1 12 zO5_1
 obtain ⟨z, p3, s3, e3, q3, h6, h7⟩ := pick_ok hb (p := p2) (s := s2) zO5_1 zO5_1 12 zO5_1
 unfold spec_l1Cur_hidden.f
 simp only [e1, e2, e3, Option.bind_some]
 rw [wid (show -9223372036854775808 ≤ 1 + x by omega) zO5_1, wid (show -9223372036854775808 ≤ 1 + y by omega) zO5_1, wid (show -9223372036854775808 ≤ 1 + z by omega) zO5_1]
 exact ⟨_, _, _, _, _, rfl, mHidden_iff.2 ⟨by omega, by omega, by omega⟩, by omega, by omega⟩
theorem clue_j1_ok {b : List Int} (hb : Bytes b) {p s : Int} (h0 : 0 ≤ p) (h1 : p ≤ 1152921504606830000) (x y z : Int) : ∃ x' y' z' p' s', Ev (fun k => spec_l1Cur_clue.j1 k b p s x y z) (x', y', z', p', s') ∧ p ≤ p' ∧ p' ≤ p + 4 := by
 obtain ⟨t, p1, s1, e1, h2, h3⟩ := one_ok hb (s := s) h0 zO5_1 14 zO5_1
 obtain ⟨u, p2, s2, e2, q2, h4, h5⟩ := pick_ok hb (p := p1) (s := s1) zO5_1 zO5_1 3 zO5_1
 cases t with
 | true =>
  refine ⟨x, wrap64 (u - 1), z, p2, s2, Ev.succ ?_, by omega, by omega⟩
  simp only [spec_l1Cur_clue.j1, e1, e2, Option.bind_some, if_true]
  exact Ev.now _
 | false =>
  refine ⟨x, y, z, p1, s1, Ev.succ ?_, by omega, by omega⟩
  simp only [spec_l1Cur_clue.j1, e1, Option.bind_some, Bool.false_eq_true, if_false]
  exact Ev.now _
theorem clue_j0_ok {b : List Int} (hb : Bytes b) {p s : Int} (h0 : 0 ≤ p) (h1 : p ≤ 1152921504606829000) (i : Int) (t : Bool) (x y z : Int) : ∃ x' y' z' p' s', Ev (fun k => spec_l1Cur_clue.j0 k i t b p s x y z) (x', y', z', p', s') ∧ p ≤ p' ∧ p' ≤ p + 8 := by
 cases t with
 | true =>
  obtain ⟨u, p2, s2, e2, q2, h4, h5⟩ := pick_ok hb (p := p) (s := s) zO5_1 zO5_1 13 zO5_1
  obtain ⟨x', y', z', p', s', e, h6, h7⟩ := clue_j1_ok hb (p := p2) (s := s2) zO5_1 zO5_1 x u z
  refine ⟨x', y', z', p', s', Ev.succ ?_, by omega, by omega⟩
  simp only [spec_l1Cur_clue.j0, e2, Option.bind_some, if_true]
  exact e
 | false =>
  by_cases c : i = 3
  ·obtain ⟨u, p2, s2, e2, q2, h4, h5⟩ := pick_ok hb (p := p) (s := s) zO5_1 zO5_1 3 zO5_1
   obtain ⟨v, p3, s3, e3, q3, h6, h7⟩ := pick_ok hb (p := p2) (s := s2) zO5_1 zO5_1 3 zO5_1
   obtain ⟨x', y', z', p', s', e, h8, h9⟩ := clue_j1_ok hb (p := p3) (s := s3) zO5_1 zO5_1 x u v
   refine ⟨x', y', z', p', s', Ev.succ ?_, by omega, by omega⟩
   simp only [spec_l1Cur_clue.j0, e2, e3, Option.bind_some, Bool.false_eq_true, if_false, if_pos c]
   exact e
  ·obtain ⟨x', y', z', p', s', e, h8, h9⟩ := clue_j1_ok hb (p := p) (s := s) zO5_1 zO5_1 x y z
   refine ⟨x', y', z', p', s', Ev.succ ?_, by omega, by omega⟩
   simp only [spec_l1Cur_clue.j0, Bool.false_eq_true, if_false, if_neg c]
   exact e
theorem clue_ok {b : List Int} (hb : Bytes b) {p s : Int} (h0 : 0 ≤ p) (h1 : p ≤ 1152921504606828000) : ∃ x' y' z' p' s', Ev (fun k => spec_l1Cur_clue.f k b p s) (x', y', z', p', s') ∧ p ≤ p' ∧ p' ≤ p + 20 := by
 obtain ⟨x1, p1, s1, e1, q1, h2, h3⟩ := pick_ok hb (s := s) h0 zO5_1 6 zO5_1
 obtain ⟨x2, p2, s2, e2, q2, h4, h5⟩ := pick_ok hb (p := p1) (s := s1) zO5_1 zO5_1 9 zO5_1
 obtain ⟨x3, p3, s3, e3, q3, h6, h7⟩ := pick_ok hb (p := p2) (s := s2) zO5_1 zO5_1 13 zO5_1
 obtain ⟨x4, p4, s4, e4, q4, h8, h9⟩ := pick_ok hb (p := p3) (s := s3) zO5_1 zO5_1 9 zO5_1
 unfold spec_l1Cur_clue.f
 simp only [e1, e2, e3, e4, Option.bind_some]
 generalize wrap64 (x1 + wrap64 (Int.tdiv x2 8)) = i
 by_cases c1 : i = 1
 ·obtain ⟨x5, p5, s5, e5, q5, ha, hb'⟩ := pick_ok hb (p := p4) (s := s4) zO5_1 zO5_1 3 zO5_1
  obtain ⟨x', y', z', p', s', e, hc, hd⟩ := clue_j1_ok hb (p := p5) (s := s5) zO5_1 zO5_1 i 0 x5
  simp only [if_pos c1, e5, Option.bind_some]
  exact ⟨x', y', z', p', s', e, by omega, by omega⟩
 ·simp only [if_neg c1]
  by_cases c2 : i = 2
  ·obtain ⟨x', y', z', p', s', e, hc, hd⟩ := clue_j0_ok hb (p := p4) (s := s4) zO5_1 zO5_1 i (i == 2) i 0 (wrap64 (x3 - wrap64 (Int.tdiv x4 8)))
   simp only [if_pos c2]
   exact ⟨x', y', z', p', s', e, by omega, by omega⟩
  ·obtain ⟨x', y', z', p', s', e, hc, hd⟩ := clue_j0_ok hb (p := p4) (s := s4) zO5_1 zO5_1 i (i == 4) i 0 (wrap64 (x3 - wrap64 (Int.tdiv x4 8)))
   simp only [if_neg c2]
   exact ⟨x', y', z', p', s', e, by omega, by omega⟩
theorem mMake_le {w l r n s : Int} {m : Nat} (h : n ≤ m) : (mMake w l r n s).2.1.length ≤ m := by
 unfold mMake
 split
 ·simp only [mMk_len]; omega
 ·simp
theorem surePuzzle_ok {b : List Int} (hb : Bytes b) {p s : Int} (h0 : 0 ≤ p) (h1 : p ≤ 1152921504606828000) : ∃ w L p' s', Ev (fun k => spec_l1Cur_surePuzzle.f k b p s 5) (w, L, p', s') ∧ L.length ≤ 5 ∧ p ≤ p' ∧ p' ≤ p + 10 := by
 obtain ⟨w, l, r, p1, s1, e1, q1, h2, h3⟩ := hidden_ok hb (s := s) h0 zO5_1
 obtain ⟨x2, p2, s2, e2, q2, h4, h5⟩ := pick_ok hb (p := p1) (s := s1) zO5_1 zO5_1 6 zO5_1
 obtain ⟨x3, p3, s3, e3, q3, h6, h7⟩ := pick_ok hb (p := p2) (s := s2) zO5_1 zO5_1 10000 zO5_1
 unfold spec_l1Cur_surePuzzle.f
 rw [wid (show -9223372036854775808 ≤ (5 : Int) + 1 by omega) zO5_1]
 simp only [e1, show (5 : Int) + 1 = 6 by rfl, e2, e3, Option.bind_some]
 refine ⟨_, _, p3, s3, Ev.bind (spec_MakePuzzle.ev w l r x2 x3) (Ev.now _), mMake_le zO5_1, by omega, by omega⟩
theorem puzzle_l0_ok {b : List Int} (hb : Bytes b) (w : Int) (d : Nat) : ∀ (p s : Int) (L : List S39), L.length + d = 7 → 0 ≤ p → p ≤ 1152921504606827000 - 2 * d → ∃ M p' s', Ev (fun k => spec_l1Cur_puzzle.l0 k b p s w L) (w, M, p', s') ∧ M.length ≤ 7 ∧ p ≤ p' ∧ p' ≤ p + 2 * d + 2 := by
 induction d with
 | zero =>
  intro p s L hL h0 h1
  obtain ⟨x, p1, s1, e1, q1, h2, h3⟩ := pick_ok hb (s := s) h0 zO5_1 2 zO5_1
  refine ⟨L, p1, s1, Ev.succ ?_, by omega, by omega, by omega⟩
  simp only [spec_l1Cur_puzzle.l0, e1, Option.bind_some, wid (show -9223372036854775808 ≤ 6 + x by omega) zO5_1, show ¬ ((L.length : Int) < 6 + x) by omega, if_false]
  exact Ev.now _
 | succ d ih =>
  intro p s L hL h0 h1
  obtain ⟨x, p1, s1, e1, q1, h2, h3⟩ := pick_ok hb (s := s) h0 zO5_1 2 zO5_1
  by_cases c : (L.length : Int) < 6 + x
  ·obtain ⟨M, p', s', e, m1, m2, m3⟩ := ih p1 s1 (L ++ [(⟨0, 0, 9⟩ : S39)]) (by simp only [List.length_append, List.length_cons, List.length_nil]; omega) zO5_1 zO5_1
   refine ⟨M, p', s', Ev.succ ?_, m1, by omega, by omega⟩
   simp only [spec_l1Cur_puzzle.l0, e1, Option.bind_some, wid (show -9223372036854775808 ≤ 6 + x by omega) zO5_1, if_pos c, show L.length < 5864062014805 by omega, if_true]
   exact e
  ·refine ⟨L, p1, s1, Ev.succ ?_, by omega, by omega, by omega⟩
   simp only [spec_l1Cur_puzzle.l0, e1, Option.bind_some, wid (show -9223372036854775808 ≤ 6 + x by omega) zO5_1, if_neg c]
   exact Ev.now _
theorem puzzle_ok {b : List Int} (hb : Bytes b) {p s : Int} (h0 : 0 ≤ p) (h1 : p ≤ 1152921504606826000) : ∃ w L p' s', Ev (fun k => spec_l1Cur_puzzle.f k b p s) (w, L, p', s') ∧ L.length ≤ 7 ∧ p ≤ p' ∧ p' ≤ p + 40 := by
 obtain ⟨w, L, p1, s1, e1, q1, h2, h3⟩ := surePuzzle_ok hb (s := s) h0 zO5_1
 obtain ⟨x, p2, s2, e2, q2, h4, h5⟩ := pick_ok hb (p := p1) (s := s1) zO5_1 zO5_1 12 zO5_1
 unfold spec_l1Cur_puzzle.f
 by_cases c0 : x = 0
 ·obtain ⟨v, p3, s3, e3, h6, h7⟩ := among_ok hb (p := p2) (s := s2) zO5_1 zO5_1 [-1, 0, 1, 12, 13, 4611686018427387904] zO5_2
  refine ⟨v, L, p3, s3, Ev.bind e1 ?_, by omega, by omega, by omega⟩
  simp only [e2, e3, Option.bind_some, if_pos c0]
  exact Ev.now _
 ·by_cases c1 : x = 1
  ·obtain ⟨a, b', c, p3, s3, e3, h6, h7⟩ := clue_ok hb (p := p2) (s := s2) zO5_1 zO5_1
   refine ⟨w, L ++ [(⟨a, b', c⟩ : S39)], p3, s3, Ev.bind e1 ?_, by simp only [List.length_append, List.length_cons, List.length_nil]; omega, by omega, by omega⟩
   simp only [e2, Option.bind_some, if_neg c0, if_pos c1]
   refine Ev.bind e3 ?_
   simp only [show L.length < 5864062014805 by omega, if_true]
   exact Ev.now _
  ·by_cases c2 : x = 2
   ·obtain ⟨M, p3, s3, e3, m1, h6, h7⟩ := puzzle_l0_ok hb w (7 - L.length) p2 s2 L zO5_1 zO5_1 zO5_1
    refine ⟨w, M, p3, s3, Ev.bind e1 ?_, m1, by omega, by omega⟩
    simp only [e2, Option.bind_some, if_neg c0, if_neg c1, if_pos c2]
    exact e3
   ·refine ⟨w, L, p2, s2, Ev.bind e1 ?_, by omega, by omega, by omega⟩
    simp only [e2, Option.bind_some, if_neg c0, if_neg c1, if_neg c2]
    exact Ev.now _
theorem drawMake_ok {l : List Int} (hb : Bytes l) : ∃ a b c d e, spec_DrawMakePuzzle.f l = some (a, b, c, d, e) := by
 obtain ⟨t, p1, s1, e1, h2, h3⟩ := one_ok hb (p := 0) (s := 0) zO5_1 zO5_1 12 zO5_1
 unfold spec_DrawMakePuzzle.f
 rw [e1]
 simp only [Option.bind_some]
 cases t with
 | true =>
  obtain ⟨x, y, z, p2, s2, e2, h4, h5⟩ := ladders_ok hb (p := p1) (s := s1) zO5_1 zO5_1
  obtain ⟨u, p3, s3, e3, h6, h7⟩ := among_ok hb (p := p2) (s := s2) zO5_1 zO5_1 [-1, 6, 7] zO5_2
  obtain ⟨v, p4, s4, e4, h8, h9⟩ := among_ok hb (p := p3) (s := s3) zO5_1 zO5_1 [-1, 9999, 10000] zO5_2
  simp only [if_true, e2, e3, e4, Option.bind_some]
  exact ⟨_, _, _, _, _, rfl⟩
 | false =>
  obtain ⟨x, y, z, p2, s2, e2, q2, h4, h5⟩ := hidden_ok hb (p := p1) (s := s1) zO5_1 zO5_1
  obtain ⟨u, p3, s3, e3, q3, h6, h7⟩ := pick_ok hb (p := p2) (s := s2) zO5_1 zO5_1 7 zO5_1
  obtain ⟨v, p4, s4, e4, q4, h8, h9⟩ := pick_ok hb (p := p3) (s := s3) zO5_1 zO5_1 10000 zO5_1
  simp only [Bool.false_eq_true, if_false, e2, e3, e4, Option.bind_some]
  exact ⟨_, _, _, _, _, rfl⟩
theorem drawHarder_ok {l : List Int} (hb : Bytes l) : ∃ w L, Ev (fun k => spec_DrawHarderPuzzle.f k l) (w, L) := by
 obtain ⟨t, p1, s1, e1, h2, h3⟩ := one_ok hb (p := 0) (s := 0) zO5_1 zO5_1 4 zO5_1
 unfold spec_DrawHarderPuzzle.f
 rw [e1]
 simp only [Option.bind_some]
 cases t with
 | true =>
  obtain ⟨w, L, p2, s2, e2, q2, h4, h5⟩ := puzzle_ok hb (p := p1) (s := s1) zO5_1 zO5_1
  simp only [if_true]
  exact ⟨w, L, Ev.bind e2 (Ev.now _)⟩
 | false =>
  obtain ⟨x, y, z, p2, s2, e2, q2, h4, h5⟩ := hidden_ok hb (p := p1) (s := s1) zO5_1 zO5_1
  obtain ⟨u, p3, s3, e3, q3, h6, h7⟩ := pick_ok hb (p := p2) (s := s2) zO5_1 zO5_1 3 zO5_1
  obtain ⟨v, p4, s4, e4, q4, h8, h9⟩ := pick_ok hb (p := p3) (s := s3) zO5_1 zO5_1 10000 zO5_1
  simp only [Bool.false_eq_true, if_false, e2, e3, e4, Option.bind_some]
  have hm : (mMake x y z u v).2.1.length ≤ 3 := mMake_le zO5_1
  refine ⟨(mMake x y z u v).1, (mMake x y z u v).2.1 ++ [(⟨0, (mVal 0 (mSide 0 0) x y z).1, (mVal 0 (mSide 0 0) x y z).2⟩ : S39), (⟨5, (mVal 5 (mSide 5 0) x y z).1, (mVal 5 (mSide 5 0) x y z).2⟩ : S39), (⟨4, (mVal 4 (mSide 4 0) x y z).1, (mVal 4 (mSide 4 0) x y z).2⟩ : S39)], ?_⟩
  refine Ev.bind (spec_MakePuzzle.ev x y z u v) ?_
  refine Ev.bind (spec_pzOf.ev q2) ?_
  refine Ev.bind (spec_pzOf.ev q2) ?_
  refine Ev.bind (spec_pzOf.ev q2) ?_
  simp only [Option.bind_some, List.length_cons, List.length_nil, show (mMake x y z u v).2.1.length + (0 + 1 + 1 + 1) < 5864062014805 by omega, if_true]
  exact Ev.now _
theorem drawAdd_ok {l : List Int} (hb : Bytes l) : ∃ w L a b c, Ev (fun k => spec_DrawAddClue.f k l) (w, L, a, b, c) := by
 obtain ⟨w, L, p2, s2, e2, q2, h4, h5⟩ := puzzle_ok hb (p := 0) (s := 0) zO5_1 zO5_1
 obtain ⟨x, y, z, p3, s3, e3, h6, h7⟩ := clue_ok hb (p := p2) (s := s2) zO5_1 zO5_1
 unfold spec_DrawAddClue.f
 exact ⟨w, L, x, y, z, Ev.bind e2 (Ev.bind e3 (Ev.now _))⟩
theorem drawDrop_ok {l : List Int} (hb : Bytes l) : ∃ w L a, Ev (fun k => spec_DrawDropClue.f k l) (w, L, a) := by
 obtain ⟨w, L, p2, s2, e2, q2, h4, h5⟩ := puzzle_ok hb (p := 0) (s := 0) zO5_1 zO5_1
 obtain ⟨u, p3, s3, e3, q3, h6, h7⟩ := pick_ok hb (p := p2) (s := s2) zO5_1 zO5_1 6 zO5_1
 obtain ⟨v, p4, s4, e4, q4, h8, h9⟩ := pick_ok hb (p := p3) (s := s3) zO5_1 zO5_1 9 zO5_1
 unfold spec_DrawDropClue.f
 refine ⟨w, L, wrap64 (u - wrap64 (Int.tdiv v 8)), Ev.bind e2 ?_⟩
 simp only [e3, e4, Option.bind_some]
 exact Ev.now _
theorem drawIs_ok {l : List Int} (hb : Bytes l) : ∃ a b c d, Ev (fun k => spec_DrawIsClue.f k l) (a, b, c, d) := by
 obtain ⟨t, p1, s1, e1, h2, h3⟩ := one_ok hb (p := 0) (s := 0) zO5_1 zO5_1 3 zO5_1
 unfold spec_DrawIsClue.f
 rw [e1]
 simp only [Option.bind_some]
 cases t with
 | true =>
  obtain ⟨u, p2, s2, e2, h4, h5⟩ := among_ok hb (p := p1) (s := s1) zO5_1 zO5_1 [-1, 0, 1, 5, 12, 13, 4611686018427387904] zO5_2
  obtain ⟨v, p3, s3, e3, q3, h6, h7⟩ := pick_ok hb (p := p2) (s := s2) zO5_1 zO5_1 7 zO5_1
  obtain ⟨x, p4, s4, e4, q4, h8, h9⟩ := pick_ok hb (p := p3) (s := s3) zO5_1 zO5_1 9 zO5_1
  obtain ⟨y, p5, s5, e5, ha, hc⟩ := among_ok hb (p := p4) (s := s4) zO5_1 zO5_1 [-1, 0, 0, 1, 2, 200, 201, 4611686018427387904] zO5_2
  obtain ⟨z, p6, s6, e6, hd, he⟩ := among_ok hb (p := p5) (s := s5) zO5_1 zO5_1 [-1, 0, 1, 2, 200, 201, 4611686018427387904] zO5_2
  simp only [if_true, e2, e3, e4, e5, e6, Option.bind_some]
  exact ⟨u, wrap64 (v - wrap64 (Int.tdiv x 8)), y, z, Ev.now _⟩
 | false =>
  obtain ⟨u, p2, s2, e2, q2, h4, h5⟩ := pick_ok hb (p := p1) (s := s1) zO5_1 zO5_1 12 zO5_1
  obtain ⟨x, y, z, p3, s3, e3, h6, h7⟩ := clue_ok hb (p := p2) (s := s2) zO5_1 zO5_1
  simp only [Bool.false_eq_true, if_false, e2, Option.bind_some]
  exact ⟨wrap64 (1 + u), x, y, z, Ev.bind e3 (Ev.now _)⟩
theorem drawFit_j0 {b : List Int} (hb : Bytes b) {p s : Int} (h0 : 0 ≤ p) (h1 : p ≤ 1152921504606820000) (t : Bool) (x y z w : Int) (L : List S39) (hL : t = true → 0 < L.length) : ∃ a b' c d e f, Ev (fun k => spec_DrawDoesFit.j0 k t b p s x y z w L) (a, b', c, d, e, f) := by
 cases t with
 | true =>
  have := hL rfl
  refine ⟨(rd_T39 L 0).f0, (rd_T39 L 0).f1, (rd_T39 L 0).f2, x, y, z, Ev.succ ?_⟩
  simp only [spec_DrawDoesFit.j0, if_true, show (0 : Int) < (L.length : Int) by omega]
  exact Ev.now _
 | false =>
  obtain ⟨u, p1, s1, e1, h2, h3⟩ := one_ok hb (s := s) h0 zO5_1 10 zO5_1
  cases u with
  | true =>
   obtain ⟨a1, a2, a3, p2, s2, e2, h4, h5⟩ := ladders_ok hb (p := p1) (s := s1) zO5_1 zO5_1
   obtain ⟨c1, c2, c3, p3, s3, e3, h6, h7⟩ := clue_ok hb (p := p2) (s := s2) zO5_1 zO5_1
   refine ⟨c1, c2, c3, a1, a2, a3, Ev.succ ?_⟩
   simp only [spec_DrawDoesFit.j0, Bool.false_eq_true, if_false, e1, e2, Option.bind_some, if_true]
   exact Ev.bind e3 (Ev.now _)
  | false =>
   obtain ⟨c1, c2, c3, p3, s3, e3, h6, h7⟩ := clue_ok hb (p := p1) (s := s1) zO5_1 zO5_1
   refine ⟨c1, c2, c3, x, y, z, Ev.succ ?_⟩
   simp only [spec_DrawDoesFit.j0, Bool.false_eq_true, if_false, e1, Option.bind_some]
   exact Ev.bind e3 (Ev.now _)
theorem drawFit_ok {l : List Int} (hb : Bytes l) : ∃ a b c d e f, Ev (fun k => spec_DrawDoesFit.f k l) (a, b, c, d, e, f) := by
 obtain ⟨x, y, z, p1, s1, e1, q1, h2, h3⟩ := hidden_ok hb (p := 0) (s := 0) zO5_1 zO5_1
 obtain ⟨u, p2, s2, e2, q2, h4, h5⟩ := pick_ok hb (p := p1) (s := s1) zO5_1 zO5_1 10000 zO5_1
 have hm : mMake x y z 1 u = (x, mMk x y z 1 u, true) := by
  unfold mMake
  rw [if_pos (by simp only [q1, Bool.true_and, Bool.and_eq_true, inr_iff]; omega)]
  rfl
 have hmk := spec_MakePuzzle.ev x y z 1 u
 rw [hm] at hmk
 obtain ⟨t, p3, s3, e3, h6, h7⟩ := one_ok hb (p := p2) (s := s2) zO5_1 zO5_1 3 zO5_1
 obtain ⟨a, b, c, d, e, f, ef⟩ := drawFit_j0 hb (p := p3) (s := s3) zO5_1 zO5_1 t x y z x (mMk x y z 1 u) (fun _ => by rw [mMk_len]; omega)
 unfold spec_DrawDoesFit.f
 simp only [e1, e2, Option.bind_some]
 refine ⟨a, b, c, d, e, f, Ev.bind hmk ?_⟩
 simp only [if_true, e3, Option.bind_some]
 exact ef
def mClue (k a b : Int) : Bool := inr 0 200 a && (inr 0 200 b && (((k == 0 || k == 5) && a == 0) || ((k == 1) && (a == 0 && decide (b ≤ 1))) || ((k == 2 || k == 4) && decide (1 ≤ b)) || ((k == 3) && (decide (a ≤ 1) && decide (b ≤ 1)))))
theorem spec_pzClue.ev (k a b : Int) : Ev (fun n => spec_pzClue.f n k a b) (mClue k a b) := by
 refine ⟨4, fun n hn => ?_⟩
 obtain ⟨n, rfl⟩ : ∃ m, n = m + 4 := ⟨n - 4, by omega⟩
 dsimp only
 unfold spec_pzClue.f mClue
 rw [spec_l1In.eq, spec_l1In.eq]
 simp only [Option.bind_some]
 cases inr 0 200 a <;> cases inr 0 200 b <;> simp only [spec_pzClue.j0, spec_pzClue.j1, spec_pzClue.j2, if_true, if_false, Bool.false_eq_true, Bool.not_true, Bool.not_false, Bool.false_and, Bool.true_and]
 by_cases h0 : k = 0
 ·subst h0; simp
 by_cases h1 : k = 1
 ·subst h1; simp; by_cases ha : a = 0 <;> simp [ha] <;> omega
 by_cases h2 : k = 2
 ·subst h2; simp; omega
 by_cases h3 : k = 3
 ·subst h3; simp; by_cases ha : a ≤ 1 <;> simp [ha, show (a < 2) = (a ≤ 1) by apply propext; omega] <;> omega
 by_cases h4 : k = 4
 ·subst h4; simp; omega
 by_cases h5 : k = 5
 ·subst h5; simp
 simp [h0, h1, h2, h3, h4, h5]
theorem impl_isClue.ev (k a b : Int) : Ev (fun n => impl_isClue.f n k a b) (mClue k a b) := by
 refine ⟨4, fun n hn => ?_⟩
 obtain ⟨n, rfl⟩ : ∃ m, n = m + 4 := ⟨n - 4, by omega⟩
 dsimp only
 unfold impl_isClue.f mClue
 rw [impl_within.eq, impl_within.eq]
 simp only [Option.bind_some]
 cases inr 0 200 a <;> cases inr 0 200 b <;> simp only [impl_isClue.j0, impl_isClue.j1, impl_isClue.j2, if_true, if_false, Bool.false_eq_true, Bool.not_true, Bool.not_false, Bool.false_and, Bool.true_and]
 by_cases h0 : k = 0
 ·subst h0; simp
 by_cases h1 : k = 1
 ·subst h1; simp; by_cases ha : a = 0 <;> simp [ha]
 by_cases h2 : k = 2
 ·subst h2; simp
 by_cases h3 : k = 3
 ·subst h3; simp; by_cases ha : a ≤ 1 <;> simp [ha]
 by_cases h4 : k = 4
 ·subst h4; simp
 by_cases h5 : k = 5
 ·subst h5; simp
 simp [h0, h1, h2, h3, h4, h5]
def mClueS (c : S39) : Bool := mClue c.f0 c.f1 c.f2
def mPuzzle (w : Int) (l : List S39) : Bool := inr 1 12 w && (decide (l.length ≤ 6) && l.all mClueS)
theorem spec_pzGood.ev_l (l : List S39) (hl : l.length ≤ 6) (d : Nat) : ∀ i : Nat, i + d = l.length → Ev (fun k => spec_pzGood.l0 k l (l.length : Int) (i : Int)) ((l.drop i).all mClueS) := by
 induction d with
 | zero =>
  intro i hi
  refine Ev.succ ?_
  simp only [spec_pzGood.l0, show ¬ ((i : Int) < (l.length : Int)) by omega, if_false]
  exact Ev.const (by rw [show i = l.length by omega, List.drop_length]; rfl)
 | succ d ih =>
  intro i hi
  have hlt : i < l.length := by omega
  have e : rd_T39 l (i : Int) = l[i] := by simp [rd_T39, List.getD_eq_getElem?_getD, List.getElem?_eq_getElem hlt]
  refine Ev.succ ?_
  simp only [spec_pzGood.l0, show ((i : Int) < (l.length : Int)) by omega, show (0 : Int) ≤ (i : Int) by omega, if_true, e]
  rw [wid (show -9223372036854775808 ≤ (i : Int) + 1 by omega) zO5_1, List.drop_eq_getElem_cons hlt, List.all_cons]
  refine Ev.bind (spec_pzClue.ev _ _ _) ?_
  show Ev _ (mClue l[i].f0 l[i].f1 l[i].f2 && _)
  by_cases h : mClue l[i].f0 l[i].f1 l[i].f2 = true
  ·simp only [if_pos h, h, Bool.true_and]; exact ih (i + 1) zO5_1
  ·simp only [if_neg h]; exact Ev.const (by simp [h])
theorem spec_pzGood.ev (w : Int) (l : List S39) : Ev (fun k => spec_pzGood.f k w l) (mPuzzle w l) := by
 unfold spec_pzGood.f spec_pzWide.f mPuzzle
 rw [spec_l1In.eq]
 simp only [Option.bind_some]
 by_cases h : inr 1 12 w = true
 ·simp only [if_pos h, h, Bool.true_and]
  refine Ev.succ ?_
  simp only [spec_pzGood.j0, decide_eq_true_eq]
  by_cases hl : l.length ≤ 6
  ·simp only [show ¬ ((l.length : Int) > 6) by omega, if_false, hl, decide_true, Bool.true_and]
   exact spec_pzGood.ev_l l hl l.length 0 zO5_1
  ·simp only [show ((l.length : Int) > 6) by omega, if_true, hl, decide_false, Bool.false_and]; exact Ev.now _
 ·simp only [if_neg h]
  refine Ev.succ ?_
  simp only [spec_pzGood.j0, if_true]
  exact Ev.const (by simp [h])
theorem cAny_ev {p : Nat → S39 → Option Bool} {q : S39 → Bool} : ∀ (l : List S39), (∀ x ∈ l, Ev (fun k => p k x) (q x)) → Ev (fun k => cAny (p k) l) (l.any q)
 | [], _ => Ev.now _
 | x :: l, h => by
  simp only [cAny, List.any_cons]
  refine Ev.bind (h x List.mem_cons_self) ?_
  by_cases hq : q x = true
  ·simp only [if_pos hq, hq, Bool.true_or]; exact Ev.now _
  ·simp only [if_neg hq, hq, Bool.false_or]; exact cAny_ev l (fun y hy => h y (List.mem_cons_of_mem _ hy))
theorem impl_IsPuzzle.ev (w : Int) (l : List S39) : Ev (fun k => impl_IsPuzzle.f k w l) (mPuzzle w l) := by
 unfold impl_IsPuzzle.f impl_isSmall.f mPuzzle
 rw [impl_within.eq]
 simp only [Option.bind_some]
 by_cases h : inr 1 12 w = true
 ·simp only [if_pos h, h, Bool.true_and]
  by_cases hl : l.length ≤ 6
  ·simp only [show ((l.length : Int) ≤ 6) by omega, if_true, hl, decide_true, Bool.true_and]
   refine Ev.bind (a := l.any fun x => !mClueS x) ?_ ?_
   ·unfold anyIsPuzzle.f
    refine cAny_ev l (fun x _ => ?_)
    unfold impl_IsPuzzle_1.f
    exact Ev.bind (impl_isClue.ev _ _ _) (Ev.now _)
   ·refine Ev.const ?_
    rw [List.not_any_eq_all_not]; simp
  ·simp only [show ¬ ((l.length : Int) ≤ 6) by omega, if_false, hl, decide_false, Bool.false_and]; exact Ev.now _
 ·simp only [if_neg h]; exact Ev.const (by simp [h])
/-- The clue (k, a, b) fits the ladders. -/
def mFits (k a b w l r : Int) : Bool := (mVal k a w l r).1 == a && (mVal k a w l r).2 == b
theorem mClue_kind {k a b : Int} (h : mClue k a b = true) : 0 ≤ k ∧ k ≤ 5 ∧ (k ≠ 3 → k ≠ 2 → k ≠ 4 → a = 0) ∧ (k = 3 → a = 0 ∨ a = 1) := by
 unfold mClue at h
 simp only [Bool.and_eq_true, Bool.or_eq_true, inr_iff, beq_iff_eq, decide_eq_true_eq] at h
 omega
theorem spec_pzFits.ev (k a b w l r : Int) (h : mHidden w l r = true) : Ev (fun n => spec_pzFits.f n k a b w l r) (mFits k a b w l r) := by
 unfold spec_pzFits.f mFits
 refine Ev.bind (spec_pzValue.ev k a w l r h) ?_
 by_cases hc : (mVal k a w l r).1 = a
 ·simp only [if_pos hc, hc, beq_self_eq_true, Bool.true_and]; exact Ev.now _
 ·simp only [if_neg hc]
  exact Ev.const (by simp [hc])
theorem mVal_other (k a a' w l r : Int) (hk : k = 2 ∨ k = 4) : mVal k a w l r = mVal k a' w l r := by
 rcases hk with rfl | rfl <;> simp [mVal]
theorem impl_doesFit.ev (k a b w l r : Int) (h : mHidden w l r = true) (hc : mClue k a b = true) : Ev (fun n => impl_doesFit.f n k a b w l r) (mFits k a b w l r) := by
 obtain ⟨k0, k5, k1, k3⟩ := mClue_kind hc
 unfold impl_doesFit.f
 by_cases h3 : k = 3
 ·simp only [if_pos h3]
  refine Ev.bind (impl_told.ev k a w l r h ⟨k0, k5⟩ (k3 h3) (fun h => absurd h3 h)) ?_
  refine Ev.const ?_
  simp [mFits]
 ·simp only [if_neg h3]
  refine Ev.bind (impl_told.ev k 0 w l r h ⟨k0, k5⟩ (.inl rfl) (fun _ => rfl)) ?_
  refine Ev.const ?_
  by_cases h24 : k = 2 ∨ k = 4
  ·rw [mVal_other k 0 a w l r h24]; simp [mFits]
  ·have ha := k1 h3 zO5_1 zO5_1
   subst ha
   simp [mFits]
def mkL (w : Int) (i j : Nat) : S25 := ⟨w, (i : Int) + 1, (j : Int) + 1⟩
def fitsAll (l : List S39) (x : S25) : Bool := l.all fun c => mFits c.f0 c.f1 c.f2 x.f0 x.f1 x.f2
/-- From place j on in the row of the left height i + 1. -/
def mRow (w : Int) (l : List S39) (i j : Nat) : List S25 := ((List.range' j (12 - j)).map (mkL w i)).filter (fitsAll l)
def mRows (w : Int) (l : List S39) (i : Nat) : List S25 := (List.range' i (12 - i)).flatMap fun i => mRow w l i 0
/-- All hidden ladders that fit the clues, in order. -/
def mSols (w : Int) (l : List S39) : List S25 := mRows w l 0
theorem mRow_step (w : Int) (l : List S39) (i j : Nat) (h : j < 12) : mRow w l i j = (if fitsAll l (mkL w i j) = true then [mkL w i j] else []) ++ mRow w l i (j + 1) := by
 unfold mRow
 rw [show 12 - j = (12 - (j + 1)) + 1 by omega, List.range'_succ, List.map_cons, List.filter_cons]
 split <;> simp
theorem mRow_end (w : Int) (l : List S39) (i j : Nat) (h : 12 ≤ j) : mRow w l i j = [] := by
 unfold mRow; rw [show 12 - j = 0 by omega]; rfl
theorem mRows_step (w : Int) (l : List S39) (i : Nat) (h : i < 12) : mRows w l i = mRow w l i 0 ++ mRows w l (i + 1) := by
 unfold mRows
 rw [show 12 - i = (12 - (i + 1)) + 1 by omega, List.range'_succ, List.flatMap_cons]
theorem mRows_end (w : Int) (l : List S39) (i : Nat) (h : 12 ≤ i) : mRows w l i = [] := by
 unfold mRows; rw [show 12 - i = 0 by omega]; rfl
theorem mRow_len (w : Int) (l : List S39) (i j : Nat) : (mRow w l i j).length ≤ 12 - j := by
 unfold mRow
 exact Nat.le_trans (List.length_filter_le _ _) zO5_2
theorem mRows_len (w : Int) (l : List S39) : ∀ (d i : Nat), i + d = 12 → (mRows w l i).length ≤ 12 * d
 | 0, i, h => by rw [mRows_end w l i zO5_1]; simp
 | d + 1, i, h => by
  rw [mRows_step w l i zO5_1, List.length_append]
  have := mRow_len w l i 0
  have := mRows_len w l d (i + 1) zO5_1
  omega
theorem mSols_len (w : Int) (l : List S39) : (mSols w l).length ≤ 144 := mRows_len w l 12 0 zO5_1
theorem anySolution.ev (w : Int) (l : List S39) (a b : Int) (h : mHidden w a b = true) (hc : l.all mClueS = true) : Ev (fun k => anySolution.f k l w a b) (!(fitsAll l ⟨w, a, b⟩)) := by
 refine ev_eq (r := l.any fun c => !(mFits c.f0 c.f1 c.f2 w a b)) ?_ (by unfold fitsAll; rw [List.not_all_eq_any_not])
 unfold anySolution.f
 refine cAny_ev l (fun x hx => ?_)
 unfold anySolution.p
 exact Ev.bind (impl_doesFit.ev _ _ _ _ _ _ h (List.all_eq_true.1 hc x hx)) (Ev.now _)
theorem hid_mk {w : Int} (hw : inr 1 12 w = true) {i j : Nat} (hi : i < 12) (hj : j < 12) : mHidden w ((i : Int) + 1) ((j : Int) + 1) = true := by
 have := inr_iff.1 hw
 exact mHidden_iff.2 zO5_1
theorem impl_solutions.ev_r (w : Int) (l : List S39) (hw : inr 1 12 w = true) (hc : l.all mClueS = true) (r : List S25) (i : Nat) (hi : i < 12) (d : Nat) : ∀ (j : Nat) (out : List S25), j + d = 12 → out.length ≤ 12 * i + j → Ev (fun k => impl_solutions.l0 k w l (out ++ mRow w l i j) ((i + 1 : Nat) + 1 : Int)) r → Ev (fun k => impl_solutions.l1 k w l out ((i : Int) + 1) ((j : Int) + 1)) r := by
 induction d with
 | zero =>
  intro j out hj ho h
  rw [mRow_end w l i j zO5_1, List.append_nil] at h
  refine Ev.succ ?_
  simp only [impl_solutions.l1, show ¬ ((j : Int) + 1 ≤ 12) by omega, if_false]
  rw [wid (show -9223372036854775808 ≤ (i : Int) + 1 + 1 by omega) zO5_1]
  exact h
 | succ d ih =>
  intro j out hj ho h
  rw [mRow_step w l i j zO5_1] at h
  refine Ev.succ ?_
  simp only [impl_solutions.l1, show ((j : Int) + 1 ≤ 12) by omega, if_true]
  refine Ev.bind (anySolution.ev w l _ _ (hid_mk hw hi zO5_1) hc) ?_
  rw [wid (show -9223372036854775808 ≤ (j : Int) + 1 + 1 by omega) zO5_1]
  by_cases hf : fitsAll l (mkL w i j) = true
  ·rw [if_pos hf] at h
   simp only [show fitsAll l ⟨w, (i : Int) + 1, (j : Int) + 1⟩ = true from hf, Bool.not_true, Bool.false_eq_true, if_false, show out.length < 5864062014805 by omega, if_true]
   exact ih (j + 1) (out ++ [mkL w i j]) zO5_1 (by simp; omega) (by rw [List.append_assoc]; exact h)
  ·rw [if_neg hf, List.nil_append] at h
   simp only [show fitsAll l ⟨w, (i : Int) + 1, (j : Int) + 1⟩ = false from Bool.eq_false_iff.mpr hf, Bool.not_false, if_true]
   exact ih (j + 1) out zO5_1 zO5_1 h
theorem impl_solutions.ev_l (w : Int) (l : List S39) (hw : inr 1 12 w = true) (hc : l.all mClueS = true) (d : Nat) : ∀ (i : Nat) (out : List S25), i + d = 12 → out.length ≤ 12 * i → Ev (fun k => impl_solutions.l0 k w l out ((i : Int) + 1)) (out ++ mRows w l i) := by
 induction d with
 | zero =>
  intro i out hi ho
  rw [mRows_end w l i zO5_1, List.append_nil]
  refine Ev.succ ?_
  simp only [impl_solutions.l0, show ¬ ((i : Int) + 1 ≤ 12) by omega, if_false]
  exact Ev.now _
 | succ d ih =>
  intro i out hi ho
  rw [mRows_step w l i zO5_1]
  refine Ev.succ ?_
  simp only [impl_solutions.l0, show ((i : Int) + 1 ≤ 12) by omega, if_true]
  have hl := mRow_len w l i 0
  have h := ih (i + 1) (out ++ mRow w l i 0) zO5_1 (by rw [List.length_append]; omega)
  rw [List.append_assoc] at h
  exact impl_solutions.ev_r w l hw hc _ i zO5_1 12 0 out zO5_1 zO5_1 h
theorem impl_solutions.ev {w : Int} {l : List S39} (hw : inr 1 12 w = true) (hc : l.all mClueS = true) : Ev (fun k => impl_solutions.f k w l) (mSols w l) := by
 unfold impl_solutions.f
 exact impl_solutions.ev_l w l hw hc 12 0 [] zO5_1 zO5_2
theorem spec_pzAll.ev_c (w : Int) (l : List S39) (hl : l.length ≤ 4611686018427387904) (out : List S25) (a b : Int) (h : mHidden w a b = true) (ho : out.length < 5864062014805) (r : List S25) (d : Nat) : ∀ (t : Nat) (x9 : Bool), t + d = l.length →
  Ev (fun k => spec_pzAll.l1 k w l (if (x9 && (l.drop t).all fun c => mFits c.f0 c.f1 c.f2 w a b) = true then out ++ [⟨w, a, b⟩] else out) a (wrap64 (b + 1))) r → Ev (fun k => spec_pzAll.l2 k w l out a b x9 l (l.length : Int) (t : Int) w a b) r := by
 induction d with
 | zero =>
  intro t x9 ht hr
  rw [show t = l.length by omega, List.drop_length] at hr
  refine Ev.succ ?_
  simp only [spec_pzAll.l2, show ¬ ((t : Int) < (l.length : Int)) by omega, if_false]
  cases x9 with
  | true => simp only [if_true, if_pos ho]; simpa using hr
  | false => simp only [Bool.false_eq_true, if_false]; simpa using hr
 | succ d ih =>
  intro t x9 ht hr
  have hlt : t < l.length := by omega
  have e : rd_T39 l (t : Int) = l[t] := by simp [rd_T39, List.getD_eq_getElem?_getD, List.getElem?_eq_getElem hlt]
  rw [List.drop_eq_getElem_cons hlt, List.all_cons] at hr
  refine Ev.succ ?_
  simp only [spec_pzAll.l2, show ((t : Int) < (l.length : Int)) by omega, show (0 : Int) ≤ (t : Int) by omega, if_true, e]
  rw [wid (show -9223372036854775808 ≤ (t : Int) + 1 by omega) zO5_1]
  cases x9 with
  | true =>
   simp only [if_true]
   refine Ev.bind (spec_pzFits.ev _ _ _ w a b h) ?_
   exact ih (t + 1) _ zO5_1 (by simpa using hr)
  | false =>
   simp only [Bool.false_eq_true, if_false]
   exact ih (t + 1) false zO5_1 (by simpa using hr)
theorem spec_pzAll.ev_r (w : Int) (l : List S39) (hl : l.length ≤ 4611686018427387904) (hw : inr 1 12 w = true) (r : List S25) (i : Nat) (hi : i < 12) (d : Nat) : ∀ (j : Nat) (out : List S25), j + d = 12 → out.length ≤ 12 * i + j → Ev (fun k => spec_pzAll.l0 k w l (out ++ mRow w l i j) ((i + 1 : Nat) + 1 : Int)) r → Ev (fun k => spec_pzAll.l1 k w l out ((i : Int) + 1) ((j : Int) + 1)) r := by
 induction d with
 | zero =>
  intro j out hj ho h
  rw [mRow_end w l i j zO5_1, List.append_nil] at h
  refine Ev.succ ?_
  simp only [spec_pzAll.l1, show ¬ ((j : Int) + 1 ≤ 12) by omega, if_false]
  rw [wid (show -9223372036854775808 ≤ (i : Int) + 1 + 1 by omega) zO5_1]
  exact h
 | succ d ih =>
  intro j out hj ho h
  rw [mRow_step w l i j zO5_1] at h
  refine Ev.succ ?_
  simp only [spec_pzAll.l1, show ((j : Int) + 1 ≤ 12) by omega, if_true]
  refine spec_pzAll.ev_c w l hl out _ _ (hid_mk hw hi zO5_1) zO5_1 r l.length 0 true zO5_1 ?_
  rw [wid (show -9223372036854775808 ≤ (j : Int) + 1 + 1 by omega) zO5_1]
  simp only [List.drop_zero, Bool.true_and]
  by_cases hf : fitsAll l (mkL w i j) = true
  ·rw [if_pos hf] at h
   rw [if_pos (show (l.all fun c => mFits c.f0 c.f1 c.f2 w ((i : Int) + 1) ((j : Int) + 1)) = true from hf)]
   exact ih (j + 1) (out ++ [mkL w i j]) zO5_1 (by simp; omega) (by rw [List.append_assoc]; exact h)
  ·rw [if_neg hf, List.nil_append] at h
   rw [if_neg (show ¬ (l.all fun c => mFits c.f0 c.f1 c.f2 w ((i : Int) + 1) ((j : Int) + 1)) = true from hf)]
   exact ih (j + 1) out zO5_1 zO5_1 h
theorem spec_pzAll.ev_l (w : Int) (l : List S39) (hl : l.length ≤ 4611686018427387904) (hw : inr 1 12 w = true) (d : Nat) : ∀ (i : Nat) (out : List S25), i + d = 12 → out.length ≤ 12 * i → Ev (fun k => spec_pzAll.l0 k w l out ((i : Int) + 1)) (out ++ mRows w l i) := by
 induction d with
 | zero =>
  intro i out hi ho
  rw [mRows_end w l i zO5_1, List.append_nil]
  refine Ev.succ ?_
  simp only [spec_pzAll.l0, show ¬ ((i : Int) + 1 ≤ 12) by omega, if_false]
  exact Ev.now _
 | succ d ih =>
  intro i out hi ho
  rw [mRows_step w l i zO5_1]
  refine Ev.succ ?_
  simp only [spec_pzAll.l0, show ((i : Int) + 1 ≤ 12) by omega, if_true]
  have hl2 := mRow_len w l i 0
  have h := ih (i + 1) (out ++ mRow w l i 0) zO5_1 (by rw [List.length_append]; omega)
  rw [List.append_assoc] at h
  exact spec_pzAll.ev_r w l hl hw _ i zO5_1 12 0 out zO5_1 zO5_1 h
theorem spec_pzAll.ev {w : Int} {l : List S39} (hl : l.length ≤ 4611686018427387904) (hw : inr 1 12 w = true) : Ev (fun k => spec_pzAll.f k w l) (mSols w l) := by
 unfold spec_pzAll.f
 exact spec_pzAll.ev_l w l hl hw 12 0 [] zO5_1 zO5_2
theorem mPuzzle_parts {w : Int} {l : List S39} (h : mPuzzle w l = true) : inr 1 12 w = true ∧ l.length ≤ 6 ∧ l.all mClueS = true := by
 unfold mPuzzle at h
 simp only [Bool.and_eq_true, decide_eq_true_eq] at h
 exact h
def mSolutions (w : Int) (l : List S39) : List S25 × Bool := if mPuzzle w l = true then (mSols w l, true) else ([], false)
theorem impl_Solutions.ev (w : Int) (l : List S39) : Ev (fun k => impl_Solutions.f k w l) (mSolutions w l) := by
 unfold impl_Solutions.f mSolutions
 refine Ev.bind (impl_IsPuzzle.ev w l) ?_
 refine Ev.ite (fun h => ?_) (fun _ => Ev.now _)
 obtain ⟨h1, h2, h3⟩ := mPuzzle_parts h
 exact Ev.bind (impl_solutions.ev h1 h3) (Ev.now _)
def mAdd (w : Int) (l : List S39) (a b c : Int) : Int × List S39 × Bool := if (mPuzzle w l && (mClue a b c && decide (l.length ≠ 6))) = true then (w, l ++ [⟨a, b, c⟩], true) else (0, [], false)
theorem impl_AddClue.ev (w : Int) (l : List S39) (a b c : Int) : Ev (fun k => impl_AddClue.f k w l a b c) (mAdd w l a b c) := by
 unfold impl_AddClue.f mAdd
 refine Ev.bind (impl_IsPuzzle.ev w l) ?_
 cases h : mPuzzle w l with
 | false => exact Ev.now _
 | true =>
  obtain ⟨h1, h2, h3⟩ := mPuzzle_parts h
  simp only [if_true, Bool.true_and]
  refine Ev.bind (impl_isClue.ev a b c) ?_
  cases h4 : mClue a b c with
  | false => exact Ev.now _
  | true =>
   simp only [if_true, Bool.true_and]
   by_cases h6 : l.length = 6
   ·simp only [show (l.length : Int) = 6 by omega, if_true, h6, ne_eq, not_true_eq_false, decide_false, Bool.false_eq_true, if_false]
    exact Ev.now _
   ·simp only [show ¬ ((l.length : Int) = 6) by omega, if_false, h6, ne_eq, not_false_eq_true, decide_true, if_true]
    refine Ev.bindc (show impl_Clue_56.f l = some l from if_pos zO5_1) ?_
    simp only [Option.bind_some, List.length_cons, List.length_nil, show l.length + (0 + 1) < 5864062014805 by omega, if_true]
    exact Ev.now _
theorem spec_AddClue.ev (w : Int) (l : List S39) (a b c : Int) : Ev (fun k => spec_AddClue.f k w l a b c) (mAdd w l a b c) := by
 unfold spec_AddClue.f mAdd
 refine Ev.bind (spec_pzGood.ev w l) ?_
 cases h : mPuzzle w l with
 | false => exact Ev.now _
 | true =>
  obtain ⟨h1, h2, h3⟩ := mPuzzle_parts h
  simp only [if_true, Bool.true_and]
  refine Ev.bind (spec_pzClue.ev a b c) ?_
  cases h4 : mClue a b c with
  | false => exact Ev.now _
  | true =>
   simp only [if_true, Bool.true_and]
   by_cases h6 : l.length = 6
   ·simp only [show (l.length : Int) = 6 by omega, if_true, h6, ne_eq, not_true_eq_false, decide_false, Bool.false_eq_true, if_false]
    exact Ev.now _
   ·simp only [show ¬ ((l.length : Int) = 6) by omega, if_false, h6, ne_eq, not_false_eq_true, decide_true, if_true]
    simp only [Option.bind_some, List.nil_append, List.length_cons, List.length_nil, show 0 + l.length < 5864062014805 by omega, show l.length + (0 + 1) < 5864062014805 by omega, if_true]
    exact Ev.now _
theorem mAdd_len (w : Int) (l : List S39) (a b c : Int) : (mAdd w l a b c).2.1.length ≤ 1099511627776 := by
 unfold mAdd; split
 ·rename_i h; rw [Bool.and_eq_true] at h; have := (mPuzzle_parts h.1).2.1; simp; omega
 ·simp
def mDoesFit (k a b w l r : Int) : Bool × Bool := if (mClue k a b && mHidden w l r) = true then (mFits k a b w l r, true) else (false, false)
theorem spec_DoesFit.ev (k a b w l r : Int) : Ev (fun n => spec_DoesFit.f n k a b w l r) (mDoesFit k a b w l r) := by
 unfold spec_DoesFit.f mDoesFit
 refine Ev.bindc (spec_pzHidden.eq w l r) ?_
 by_cases h : mHidden w l r = true
 ·simp only [if_pos h]
  refine Ev.bind (spec_pzClue.ev k a b) ?_
  rw [h, Bool.and_true]
  exact Ev.ite (fun _ => Ev.bind (spec_pzFits.ev k a b w l r h) (Ev.now _)) (fun _ => Ev.now _)
 ·simp only [if_neg h]
  exact Ev.const (by simp [h])
theorem impl_DoesFit.ev (k a b w l r : Int) : Ev (fun n => impl_DoesFit.f n k a b w l r) (mDoesFit k a b w l r) := by
 unfold impl_DoesFit.f mDoesFit
 refine Ev.bind (impl_isClue.ev k a b) ?_
 by_cases hc : mClue k a b = true
 ·simp only [if_pos hc]
  refine Ev.bindc (impl_areHidden.eq w l r) ?_
  rw [hc, Bool.true_and]
  exact Ev.ite (fun h => Ev.bind (impl_doesFit.ev k a b w l r h hc) (Ev.now _)) (fun _ => Ev.now _)
 ·simp only [if_neg hc]
  exact Ev.const (by simp [hc])
theorem concat2.ev (x y : List S39) (h : x.length + y.length < 1000) : Ev (fun k => impl_Clue_76.f k [x, y]) (x ++ y) := by
 unfold impl_Clue_76.f
 refine Ev.succ ?_
 rw [show (fun k => impl_Clue_76.l0 (k + 1) [x, y] 0 [x, y] (([x, y].length : Nat) : Int) 0) = (fun k => if wrap64 (0 + (x.length : Int)) < 0 then none else impl_Clue_76.l0 k [x, y] (wrap64 (0 + (x.length : Int))) [x, y] 2 1) from funext fun k => by rw [impl_Clue_76.l0, if_pos zO5_2, if_pos zO5_2, if_pos zO5_2, wid (x := 0 + 1) zO5_1 zO5_1]; rfl]
 rw [wid (show -9223372036854775808 ≤ 0 + (x.length : Int) by omega) zO5_1]
 simp only [show ¬ (0 + (x.length : Int) < 0) by omega, if_false]
 refine Ev.succ ?_
 rw [show (fun k => impl_Clue_76.l0 (k + 1) [x, y] (0 + (x.length : Int)) [x, y] 2 1) = (fun k => if wrap64 (0 + (x.length : Int) + (y.length : Int)) < 0 then none else impl_Clue_76.l0 k [x, y] (wrap64 (0 + (x.length : Int) + (y.length : Int))) [x, y] 2 2) from funext fun k => by rw [impl_Clue_76.l0, if_pos zO5_2, if_pos zO5_2, if_pos zO5_2, wid (x := 1 + 1) zO5_1 zO5_1]; rfl]
 rw [wid (show -9223372036854775808 ≤ 0 + (x.length : Int) + (y.length : Int) by omega) zO5_1]
 simp only [show ¬ (0 + (x.length : Int) + (y.length : Int) < 0) by omega, if_false]
 refine Ev.succ ?_
 rw [show (fun k => impl_Clue_76.l0 (k + 1) [x, y] (0 + (x.length : Int) + (y.length : Int)) [x, y] 2 2) = (fun k => (growNil.f (0 + (x.length : Int) + (y.length : Int))).bind fun t => impl_Clue_76.l1 k t [x, y] 2 0) from funext fun k => by rw [impl_Clue_76.l0, if_neg zO5_2]; rfl]
 refine Ev.bindc (show growNil.f (0 + (x.length : Int) + (y.length : Int)) = some [] from if_pos ⟨by omega, by omega⟩) ?_
 refine Ev.succ ?_
 rw [show (fun k => impl_Clue_76.l1 (k + 1) [] [x, y] 2 0) = (fun k => if ([] : List S39).length + x.length < 5864062014805 then impl_Clue_76.l1 k ([] ++ x) [x, y] 2 1 else none) from funext fun k => by rw [impl_Clue_76.l1, if_pos zO5_2, if_pos zO5_2, if_pos zO5_2, wid (x := 0 + 1) zO5_1 zO5_1]; rfl]
 simp only [show ([] : List S39).length + x.length < 5864062014805 by simp only [List.length_nil]; omega, if_true, List.nil_append]
 refine Ev.succ ?_
 rw [show (fun k => impl_Clue_76.l1 (k + 1) x [x, y] 2 1) = (fun k => if x.length + y.length < 5864062014805 then impl_Clue_76.l1 k (x ++ y) [x, y] 2 2 else none) from funext fun k => by rw [impl_Clue_76.l1, if_pos zO5_2, if_pos zO5_2, if_pos zO5_2, wid (x := 1 + 1) zO5_1 zO5_1]; rfl]
 simp only [show x.length + y.length < 5864062014805 by omega, if_true]
 refine Ev.succ ?_
 rw [show (fun k => impl_Clue_76.l1 (k + 1) (x ++ y) [x, y] 2 2) = (fun _ => some (x ++ y)) from funext fun k => by rw [impl_Clue_76.l1, if_neg zO5_2]]
 exact Ev.now _
def mWo (l : List S39) (i : Nat) : List S39 := l.take i ++ l.drop (i + 1)
theorem mWo_len {l : List S39} {i : Nat} (h : i < l.length) : (mWo l i).length + 1 = l.length := by
 unfold mWo; rw [List.length_append, List.length_take, List.length_drop]; omega
theorem mWo_all {p : S39 → Bool} {l : List S39} (h : l.all p = true) (i : Nat) : (mWo l i).all p = true := by
 unfold mWo
 refine List.all_eq_true.2 fun x hx => List.all_eq_true.1 h x ?_
 rcases List.mem_append.1 hx with hx | hx
 ·exact List.mem_of_mem_take hx
 ·exact List.mem_of_mem_drop hx
theorem impl_without.ev {l : List S39} {i : Nat} (hi : i < l.length) (hl : l.length ≤ 100) : Ev (fun k => impl_without.f k l (i : Int)) (mWo l i) := by
 unfold impl_without.f
 rw [wid (show -9223372036854775808 ≤ (i : Int) + 1 by omega) zO5_1]
 simp only [show (0 : Int) ≤ (i : Int) by omega, show (i : Int) ≤ (l.length : Int) by omega, show (0 : Int) ≤ (i : Int) + 1 by omega, show (i : Int) + 1 ≤ (l.length : Int) by omega, if_true, Int.toNat_natCast, show ((i : Int) + 1).toNat = i + 1 by omega]
 refine Ev.bind (concat2.ev _ _ (by rw [List.length_take, List.length_drop]; omega)) ?_
 exact Ev.now _
theorem spec_pzWithout.eq {l : List S39} {i : Nat} (hi : i < l.length) (hl : l.length ≤ 100) : spec_pzWithout.f l (i : Int) = some (mWo l i) := by
 unfold spec_pzWithout.f mWo
 rw [wid (show -9223372036854775808 ≤ (i : Int) + 1 by omega) zO5_1]
 simp only [Option.bind_some, List.nil_append, List.length_nil, List.length_take, List.length_drop, show (0 : Int) ≤ (i : Int) by omega, show (i : Int) ≤ (l.length : Int) by omega, show (0 : Int) ≤ (i : Int) + 1 by omega, show (i : Int) + 1 ≤ (l.length : Int) by omega, if_true, Int.toNat_natCast, show ((i : Int) + 1).toNat = i + 1 by omega, show 0 + min i l.length < 5864062014805 by omega, show min i l.length + (l.length - (i + 1)) < 5864062014805 by omega]
def mDrop (w : Int) (l : List S39) (i : Int) : Int × List S39 × Bool := if (mPuzzle w l && inr 0 ((l.length : Int) - 1) i) = true then (w, mWo l i.toNat, true) else (0, [], false)
theorem impl_DropClue.ev (w : Int) (l : List S39) (i : Int) : Ev (fun k => impl_DropClue.f k w l i) (mDrop w l i) := by
 unfold impl_DropClue.f mDrop
 refine Ev.bind (impl_IsPuzzle.ev w l) ?_
 cases h : mPuzzle w l with
 | false => exact Ev.now _
 | true =>
  obtain ⟨h1, h2, h3⟩ := mPuzzle_parts h
  simp only [if_true, Bool.true_and]
  rw [wid (show -9223372036854775808 ≤ (l.length : Int) - 1 by omega) zO5_1]
  refine Ev.bindc (impl_within.eq _ _ _) ?_
  cases h4 : inr 0 ((l.length : Int) - 1) i with
  | false => exact Ev.now _
  | true =>
   have := inr_iff.1 h4
   simp only [if_true]
   have e : i = ((i.toNat : Nat) : Int) := by omega
   refine Ev.bind (a := mWo l i.toNat) ?_ (Ev.now _)
   rw [e, Int.toNat_natCast]
   exact impl_without.ev zO5_1 zO5_1
theorem spec_DropClue.ev (w : Int) (l : List S39) (i : Int) : Ev (fun k => spec_DropClue.f k w l i) (mDrop w l i) := by
 unfold spec_DropClue.f mDrop
 refine Ev.bind (spec_pzGood.ev w l) ?_
 cases h : mPuzzle w l with
 | false => exact Ev.now _
 | true =>
  obtain ⟨h1, h2, h3⟩ := mPuzzle_parts h
  simp only [if_true, Bool.true_and]
  rw [wid (show -9223372036854775808 ≤ (l.length : Int) - 1 by omega) zO5_1]
  refine Ev.bindc (spec_l1In.eq _ _ _) ?_
  cases h4 : inr 0 ((l.length : Int) - 1) i with
  | false => exact Ev.now _
  | true =>
   have := inr_iff.1 h4
   simp only [if_true]
   have e : i = ((i.toNat : Nat) : Int) := by omega
   refine Ev.bindc (a := mWo l i.toNat) ?_ (Ev.now _)
   rw [e, Int.toNat_natCast]
   exact spec_pzWithout.eq zO5_1 zO5_1
theorem mDrop_len (w : Int) (l : List S39) (i : Int) : (mDrop w l i).2.1.length ≤ 1099511627776 := by
 unfold mDrop; split
 ·rename_i h; rw [Bool.and_eq_true] at h; have := (mPuzzle_parts h.1).2.1; have := inr_iff.1 h.2; have := mWo_len (l := l) (i := i.toNat) zO5_1; simp only; omega
 ·simp
theorem impl_isSolved.ev {w : Int} {l : List S39} (h1 : inr 1 12 w = true) (h3 : l.all mClueS = true) : Ev (fun k => impl_isSolved.f k w l) (((mSols w l).length : Int) == 1) := by
 unfold impl_isSolved.f
 exact Ev.bind (impl_solutions.ev h1 h3) (Ev.now _)
theorem spec_pzSolved.ev {w : Int} {l : List S39} (h1 : inr 1 12 w = true) (hl : l.length ≤ 4611686018427387904) : Ev (fun k => spec_pzSolved.f k w l) (((mSols w l).length : Int) == 1) := by
 unfold spec_pzSolved.f
 exact Ev.bind (spec_pzAll.ev hl h1) (Ev.now _)
def mIsSolved (w : Int) (l : List S39) : Bool × Bool := if mPuzzle w l = true then (((mSols w l).length : Int) == 1, true) else (false, false)
theorem impl_IsSolved.ev (w : Int) (l : List S39) : Ev (fun k => impl_IsSolved.f k w l) (mIsSolved w l) := by
 unfold impl_IsSolved.f mIsSolved
 refine Ev.bind (impl_IsPuzzle.ev w l) ?_
 refine Ev.ite (fun h => ?_) (fun _ => Ev.now _)
 obtain ⟨h1, h2, h3⟩ := mPuzzle_parts h
 exact Ev.bind (impl_isSolved.ev h1 h3) (Ev.now _)
/-- The clues that are left over: those from place i on are tried, one after the other. -/
def hardF (w : Int) : Nat → List S39 → Nat → List S39
 | 0, l, _ => l
 | d + 1, l, i => if (((mSols w (mWo l i)).length : Int) == 1) = true then hardF w d (mWo l i) i else hardF w d l (i + 1)
def mHarder (w : Int) (l : List S39) : Int × List S39 × Bool := if (mPuzzle w l && (((mSols w l).length : Int) == 1)) = true then (w, hardF w l.length l 0, true) else (0, [], false)
theorem hardF_len (w : Int) (d : Nat) : ∀ (l : List S39) (i : Nat), i + d = l.length → (hardF w d l i).length ≤ l.length := by
 induction d with
 | zero => intro l i _; exact Nat.le_refl _
 | succ d ih =>
  intro l i h
  unfold hardF
  have := mWo_len (l := l) (i := i) zO5_1
  split
  ·exact Nat.le_trans (ih _ _ zO5_1) zO5_1
  ·exact ih _ _ zO5_1
theorem mHarder_len (w : Int) (l : List S39) : (mHarder w l).2.1.length ≤ 1099511627776 := by
 unfold mHarder; split
 ·rename_i h; rw [Bool.and_eq_true] at h; have := (mPuzzle_parts h.1).2.1; have := hardF_len w l.length l 0 zO5_1; simp only; omega
 ·simp
theorem impl_HarderPuzzle.ev_l (w : Int) (p : List S39) (h1 : inr 1 12 w = true) (d : Nat) : ∀ (l : List S39) (i : Nat), l.all mClueS = true → l.length ≤ 6 → i + d = l.length → Ev (fun k => impl_HarderPuzzle.l0 k l (i : Int) w p) (w, hardF w d l i, true) := by
 induction d with
 | zero =>
  intro l i h3 h2 hi
  refine Ev.succ ?_
  simp only [impl_HarderPuzzle.l0, show ¬ ((i : Int) < (l.length : Int)) by omega, if_false]
  exact Ev.now _
 | succ d ih =>
  intro l i h3 h2 hi
  have hlen := mWo_len (l := l) (i := i) zO5_1
  refine Ev.succ ?_
  simp only [impl_HarderPuzzle.l0, show ((i : Int) < (l.length : Int)) by omega, if_true]
  rw [wid (show -9223372036854775808 ≤ (i : Int) + 1 by omega) zO5_1]
  refine Ev.bind (impl_without.ev zO5_1 zO5_1) ?_
  refine Ev.bind (impl_isSolved.ev h1 (mWo_all h3 i)) ?_
  unfold hardF
  by_cases h : (((mSols w (mWo l i)).length : Int) == 1) = true
  ·simp only [h, if_true]
   exact ih (mWo l i) i (mWo_all h3 i) zO5_1 zO5_1
  ·simp only [h, if_false, Bool.false_eq_true]
   exact ih l (i + 1) h3 h2 zO5_1
theorem impl_HarderPuzzle.ev (w : Int) (l : List S39) : Ev (fun k => impl_HarderPuzzle.f k w l) (mHarder w l) := by
 unfold impl_HarderPuzzle.f mHarder
 refine Ev.bind (impl_IsPuzzle.ev w l) ?_
 cases h : mPuzzle w l with
 | false =>
  simp only [Bool.false_eq_true, if_false, Bool.false_and]
  refine Ev.succ ?_
  exact Ev.now _
 | true =>
  obtain ⟨h1, h2, h3⟩ := mPuzzle_parts h
  simp only [if_true, Bool.true_and]
  refine Ev.bind (impl_isSolved.ev h1 h3) ?_
  refine Ev.succ ?_
  cases h4 : (((mSols w l).length : Int) == 1) with
  | false => exact Ev.now _
  | true =>
   simp only [impl_HarderPuzzle.j0, Bool.not_true, Bool.false_eq_true, if_false, if_true]
   refine Ev.bindc (show impl_Clue_56.f l = some l from if_pos zO5_1) ?_
   exact impl_HarderPuzzle.ev_l w l h1 l.length l 0 h3 h2 zO5_1
theorem spec_HarderPuzzle.ev_l (w : Int) (p : List S39) (h1 : inr 1 12 w = true) (d : Nat) : ∀ (l : List S39) (i : Nat), l.length ≤ 6 → i + d = l.length → Ev (fun k => spec_HarderPuzzle.l0 k l (i : Int) w p) (w, hardF w d l i, true) := by
 induction d with
 | zero =>
  intro l i h2 hi
  refine Ev.succ ?_
  simp only [spec_HarderPuzzle.l0, show ¬ ((i : Int) < (l.length : Int)) by omega, if_false]
  exact Ev.now _
 | succ d ih =>
  intro l i h2 hi
  have hlen := mWo_len (l := l) (i := i) zO5_1
  refine Ev.succ ?_
  simp only [spec_HarderPuzzle.l0, show ((i : Int) < (l.length : Int)) by omega, if_true]
  rw [wid (show -9223372036854775808 ≤ (i : Int) + 1 by omega) zO5_1]
  refine Ev.bindc (spec_pzWithout.eq zO5_1 zO5_1) ?_
  refine Ev.bind (spec_pzSolved.ev h1 zO5_1) ?_
  unfold hardF
  by_cases h : (((mSols w (mWo l i)).length : Int) == 1) = true
  ·simp only [h, if_true]
   exact ih (mWo l i) i zO5_1 zO5_1
  ·simp only [h, if_false, Bool.false_eq_true]
   exact ih l (i + 1) h2 zO5_1
theorem spec_HarderPuzzle.ev (w : Int) (l : List S39) : Ev (fun k => spec_HarderPuzzle.f k w l) (mHarder w l) := by
 unfold spec_HarderPuzzle.f mHarder
 refine Ev.bind (spec_pzGood.ev w l) ?_
 cases h : mPuzzle w l with
 | false =>
  simp only [Bool.false_eq_true, if_false, Bool.false_and]
  refine Ev.succ ?_
  exact Ev.now _
 | true =>
  obtain ⟨h1, h2, h3⟩ := mPuzzle_parts h
  simp only [if_true, Bool.true_and]
  refine Ev.bind (spec_pzSolved.ev h1 zO5_1) ?_
  refine Ev.succ ?_
  cases h4 : (((mSols w l).length : Int) == 1) with
  | false => exact Ev.now _
  | true =>
   simp only [spec_HarderPuzzle.j0, Bool.not_true, Bool.false_eq_true, if_false, if_true, Option.bind_some, List.nil_append, List.length_nil, show 0 + l.length < 5864062014805 by omega]
   exact spec_HarderPuzzle.ev_l w l h1 l.length l 0 h2 zO5_1
theorem rdC_get {l : List S39} {n : Nat} (h : n < l.length) : rd_T39 l (n : Int) = l[n] := by
 unfold rd_T39
 rw [Int.toNat_natCast, List.getD_eq_getElem?_getD, List.getElem?_eq_getElem h]
 rfl
theorem mWo_last (l : List S39) (c : S39) : mWo (l ++ [c]) l.length = l := by
 unfold mWo
 rw [List.take_append_of_le_length (Nat.le_refl _), List.take_length, List.drop_eq_nil_of_le zO5_2, List.append_nil]
theorem mWo_end {l : List S39} {n : Nat} (h : n + 1 = l.length) : mWo l n ++ [l[n]'zO5_1] = l := by
 unfold mWo
 rw [List.drop_eq_nil_of_le zO5_1, List.append_nil, List.take_append_getElem, h, List.take_length]
theorem mAdd_ok {w : Int} {l : List S39} {a b c : Int} (h : (mAdd w l a b c).2.2 = true) : mPuzzle w l = true ∧ mClue a b c = true ∧ l.length ≠ 6 ∧ mAdd w l a b c = (w, l ++ [⟨a, b, c⟩], true) := by
 unfold mAdd at h ⊢
 by_cases e : (mPuzzle w l && (mClue a b c && decide (l.length ≠ 6))) = true
 ·rw [if_pos e]
  simp only [Bool.and_eq_true, decide_eq_true_eq] at e
  exact ⟨e.1, e.2.1, e.2.2, rfl⟩
 ·rw [if_neg e] at h; exact absurd h zO5_2
theorem mDrop_ok {w : Int} {l : List S39} {i : Int} (h : (mDrop w l i).2.2 = true) : mPuzzle w l = true ∧ (0 ≤ i ∧ i ≤ (l.length : Int) - 1) ∧ mDrop w l i = (w, mWo l i.toNat, true) := by
 unfold mDrop at h ⊢
 by_cases e : (mPuzzle w l && inr 0 ((l.length : Int) - 1) i) = true
 ·rw [if_pos e]
  simp only [Bool.and_eq_true, inr_iff] at e
  exact ⟨e.1, e.2, rfl⟩
 ·rw [if_neg e] at h; exact absurd h zO5_2
theorem mPuzzle_add {w : Int} {l : List S39} {a b c : Int} (h1 : mPuzzle w l = true) (h2 : mClue a b c = true) (h3 : l.length ≠ 6) : mPuzzle w (l ++ [⟨a, b, c⟩]) = true := by
 obtain ⟨q1, q2, q3⟩ := mPuzzle_parts h1
 unfold mPuzzle
 simp only [Bool.and_eq_true, decide_eq_true_eq, List.all_append, List.all_cons, List.all_nil, Bool.and_true, List.length_append, List.length_cons, List.length_nil]
 exact ⟨q1, by omega, q3, h2⟩
theorem mPuzzle_wo {w : Int} {l : List S39} {i : Nat} (h1 : mPuzzle w l = true) (hi : i < l.length) : mPuzzle w (mWo l i) = true := by
 obtain ⟨q1, q2, q3⟩ := mPuzzle_parts h1
 have := mWo_len hi
 unfold mPuzzle
 simp only [Bool.and_eq_true, decide_eq_true_eq]
 exact ⟨q1, by omega, mWo_all q3 i⟩
theorem laws_jPuzzle.ev_l (a b : Int) (l : List S39) (hl : l.length ≤ 4611686018427387904) (d : Nat) : ∀ i : Nat, i + d = l.length → Ev (fun k => laws_jPuzzle.l0 k (l.length : Int) (i : Int) a l b l) true := by
 induction d with
 | zero =>
  intro i hi
  refine Ev.succ ?_
  simp only [laws_jPuzzle.l0, show ¬ ((i : Int) < (l.length : Int)) by omega, if_false]
  exact Ev.now _
 | succ d ih =>
  intro i hi
  refine Ev.succ ?_
  simp only [laws_jPuzzle.l0, show ((i : Int) < (l.length : Int)) by omega, show (0 : Int) ≤ (i : Int) by omega, if_true, beq_self_eq_true, Bool.not_true, Bool.or_self, Bool.false_eq_true, if_false, wid (show -9223372036854775808 ≤ (i : Int) + 1 by omega) zO5_1]
  exact ih (i + 1) zO5_1
theorem laws_jPuzzle.refl {a : Int} {l : List S39} (hl : l.length ≤ 4611686018427387904) : Ev (fun k => laws_jPuzzle.f k a l a l) true := by
 unfold laws_jPuzzle.f
 simp only [if_true, bne_self_eq_false]
 refine Ev.succ ?_
 simp only [laws_jPuzzle.j0, Bool.false_eq_true, if_false]
 exact laws_jPuzzle.ev_l a a l hl l.length 0 zO5_1
theorem laws_jLadders.ev_l (l : List S25) (hl : l.length ≤ 4611686018427387904) (d : Nat) : ∀ i : Nat, i + d = l.length → Ev (fun k => laws_jLadders.l0 k l l (l.length : Int) (i : Int)) true := by
 induction d with
 | zero =>
  intro i hi
  refine Ev.succ ?_
  simp only [laws_jLadders.l0, show ¬ ((i : Int) < (l.length : Int)) by omega, if_false]
  exact Ev.now _
 | succ d ih =>
  intro i hi
  refine Ev.succ ?_
  simp only [laws_jLadders.l0, show ((i : Int) < (l.length : Int)) by omega, show (0 : Int) ≤ (i : Int) by omega, if_true, beq_self_eq_true, Bool.not_true, Bool.or_self, Bool.false_eq_true, if_false, wid (show -9223372036854775808 ≤ (i : Int) + 1 by omega) zO5_1]
  exact ih (i + 1) zO5_1
theorem laws_jLadders.refl {l : List S25} (hl : l.length ≤ 4611686018427387904) : Ev (fun k => laws_jLadders.f k l l) true := by
 unfold laws_jLadders.f
 simp only [if_true]
 exact laws_jLadders.ev_l l hl l.length 0 zO5_1
def mCount (w : Int) (l : List S39) : Int × Bool := if mPuzzle w l = true then (((mSols w l).length : Int), true) else (0, false)
theorem impl_CountSolutions.ev (w : Int) (l : List S39) : Ev (fun k => impl_CountSolutions.f k w l) (mCount w l) := by
 unfold impl_CountSolutions.f mCount
 refine Ev.bind (impl_Solutions.ev w l) ?_
 unfold mSolutions
 refine Ev.const ?_
 split <;> rfl
def needs (w : Int) (l : List S39) (n : Int) (i d : Nat) : List Int := ((List.range' i d).filter fun j => ((mSols w (mWo l j)).length : Int) == n).map fun (j : Nat) => (j : Int)
theorem needs_step (w : Int) (l : List S39) (n : Int) (i d : Nat) : needs w l n i (d + 1) = (if ((mSols w (mWo l i)).length : Int) = n then [(i : Int)] else []) ++ needs w l n (i + 1) d := by
 unfold needs
 rw [List.range'_succ, List.filter_cons]
 by_cases h : ((mSols w (mWo l i)).length : Int) = n <;> simp [h]
theorem needs_len (w : Int) (l : List S39) (n : Int) (i d : Nat) : (needs w l n i d).length ≤ d := by
 unfold needs; rw [List.length_map]; exact Nat.le_trans (List.length_filter_le _ _) zO5_2
def mNeed (w : Int) (l : List S39) : List Int × Bool := if mPuzzle w l = true then (needs w l ((mSols w l).length : Int) 0 l.length, true) else ([], false)
theorem mNeed_len (w : Int) (l : List S39) : (mNeed w l).1.length ≤ 1099511627776 := by
 unfold mNeed; split
 ·rename_i h; have := (mPuzzle_parts h).2.1; have := needs_len w l ((mSols w l).length : Int) 0 l.length; simp only; omega
 ·simp
theorem impl_NeedlessClues.ev_l (w : Int) (l : List S39) (n : Int) (h1 : inr 1 12 w = true) (h2 : l.length ≤ 6) (h3 : l.all mClueS = true) (d : Nat) : ∀ (i : Nat) (out : List Int), i + d = l.length → out.length ≤ i → Ev (fun k => impl_NeedlessClues.l0 k n out (l.length : Int) (i : Int) w l) (out ++ needs w l n i d, true) := by
 induction d with
 | zero =>
  intro i out hi ho
  refine Ev.succ ?_
  simp only [impl_NeedlessClues.l0, show ¬ ((i : Int) < (l.length : Int)) by omega, if_false]
  exact Ev.const (by simp [needs])
 | succ d ih =>
  intro i out hi ho
  refine Ev.succ ?_
  simp only [impl_NeedlessClues.l0, show ((i : Int) < (l.length : Int)) by omega, show out.length < 17592186044416 by omega, if_true]
  rw [wid (show -9223372036854775808 ≤ (i : Int) + 1 by omega) zO5_1]
  refine Ev.bind (impl_without.ev zO5_1 zO5_1) ?_
  refine Ev.bind (impl_solutions.ev h1 (mWo_all h3 i)) ?_
  rw [needs_step]
  by_cases h : ((mSols w (mWo l i)).length : Int) = n
  ·simp only [h, if_true]
   exact ev_eq (ih (i + 1) (out ++ [(i : Int)]) zO5_1 (by simp; omega)) (by rw [List.append_assoc])
  ·simp only [h, if_false, List.nil_append]
   exact ih (i + 1) out zO5_1 zO5_1
theorem impl_NeedlessClues.ev (w : Int) (l : List S39) : Ev (fun k => impl_NeedlessClues.f k w l) (mNeed w l) := by
 unfold impl_NeedlessClues.f mNeed
 refine Ev.bind (impl_CountSolutions.ev w l) ?_
 unfold mCount
 by_cases h : mPuzzle w l = true
 ·obtain ⟨h1, h2, h3⟩ := mPuzzle_parts h
  simp only [h, if_true]
  exact impl_NeedlessClues.ev_l w l _ h1 h2 h3 l.length 0 [] zO5_1 zO5_2
 ·simp only [h, Bool.false_eq_true, if_false]
  exact Ev.now _
theorem mSols_filter (w : Int) (l : List S39) : mSols w l = (mSols w []).filter (fitsAll l) := by
 unfold mSols mRows
 rw [List.filter_flatMap]
 refine congrArg (fun g => List.flatMap g _) (funext fun i => ?_)
 unfold mRow
 rw [List.filter_filter]
 exact congrArg (fun p => List.filter p _) (funext fun x => by simp [fitsAll])
theorem mSols_sub {w : Int} {l m : List S39} (h : ∀ x, fitsAll l x = true → fitsAll m x = true) : (mSols w l).Sublist (mSols w m) := by
 have e : mSols w l = (mSols w m).filter (fitsAll l) := by
  rw [mSols_filter w l, mSols_filter w m, List.filter_filter]
  congr 1
  funext x
  cases hx : fitsAll l x with
  | false => simp
  | true => simp [h x hx]
 rw [e]
 exact List.filter_sublist
theorem fits_wo {l : List S39} (i : Nat) (x : S25) (h : fitsAll l x = true) : fitsAll (mWo l i) x = true := by
 unfold fitsAll at h ⊢
 exact mWo_all h i
theorem fits_wo2 {l : List S39} {i j : Nat} (hji : j < i) (hi : i < l.length) (x : S25) (h : fitsAll (mWo l j) x = true) : fitsAll (mWo (mWo l i) j) x = true := by
 unfold fitsAll at h ⊢
 rw [List.all_eq_true] at h ⊢
 intro c hc
 refine h c ?_
 unfold mWo at hc ⊢
 rw [List.mem_append] at hc ⊢
 rcases hc with hc | hc
 ·left
  rw [List.take_append_of_le_length (by rw [List.length_take]; omega), List.take_take, Nat.min_eq_left zO5_1] at hc
  exact hc
 ·right
  rw [List.drop_append_of_le_length (by rw [List.length_take]; omega), List.mem_append] at hc
  rcases hc with hc | hc
  ·rw [List.drop_take] at hc
   exact List.mem_of_mem_take hc
  ·rw [show i + 1 = (j + 1) + (i - j) by omega, ← List.drop_drop] at hc
   exact List.mem_of_mem_drop hc
theorem hardF_spec (w : Int) (d : Nat) : ∀ (l : List S39) (i : Nat), i + d = l.length → (mSols w l).length = 1 → (∀ j, j < i → (mSols w (mWo l j)).length ≠ 1) → mSols w (hardF w d l i) = mSols w l ∧ ∀ j, j < (hardF w d l i).length → (mSols w (mWo (hardF w d l i) j)).length ≠ 1 := by
 induction d with
 | zero =>
  intro l i hi h1 hn
  exact ⟨rfl, fun j hj => hn j (by have : (hardF w 0 l i) = l := rfl; rw [this] at hj; omega)⟩
 | succ d ih =>
  intro l i hi h1 hn
  unfold hardF
  have hlen := mWo_len (l := l) (i := i) zO5_1
  by_cases hc : (((mSols w (mWo l i)).length : Int) == 1) = true
  ·rw [if_pos hc]
   have hc1 : (mSols w (mWo l i)).length = 1 := by have := beq_iff_eq.1 hc; omega
   have hsub : (mSols w l).Sublist (mSols w (mWo l i)) := mSols_sub (fun x hx => fits_wo i x hx)
   have heq : mSols w l = mSols w (mWo l i) := hsub.eq_of_length zO5_1
   obtain ⟨r1, r2⟩ := ih (mWo l i) i zO5_1 hc1 (fun j hj hbad => by
    have h2 := hn j hj
    have s1 : (mSols w l).Sublist (mSols w (mWo l j)) := mSols_sub (fun x hx => fits_wo j x hx)
    have s2 : (mSols w (mWo l j)).Sublist (mSols w (mWo (mWo l i) j)) := mSols_sub (fun x hx => fits_wo2 hj zO5_1 x hx)
    have := s1.length_le
    have := s2.length_le
    omega)
   exact ⟨r1.trans heq.symm, r2⟩
  ·rw [if_neg hc]
   exact ih l (i + 1) zO5_1 h1 (fun j hj => by
    by_cases e : j = i
    ·subst e; intro hb; exact hc (by simp [hb])
    ·exact hn j zO5_1)
theorem hardF_all (w : Int) (d : Nat) : ∀ (l : List S39) (i : Nat), l.all mClueS = true → (hardF w d l i).all mClueS = true := by
 induction d with
 | zero => intro l i h; exact h
 | succ d ih =>
  intro l i h
  unfold hardF
  split
  ·exact ih _ _ (mWo_all h i)
  ·exact ih _ _ h
theorem needs_nil {w : Int} {l : List S39} (h : ∀ j, j < l.length → (mSols w (mWo l j)).length ≠ 1) : needs w l 1 0 l.length = [] := by
 unfold needs
 rw [List.map_eq_nil_iff, List.filter_eq_nil_iff]
 intro j hj
 rw [List.mem_range'_1] at hj
 have := h j zO5_1
 simp only [beq_iff_eq]
 omega
theorem mHarder_ok {w : Int} {l : List S39} (h : (mHarder w l).2.2 = true) : mPuzzle w l = true ∧ (mSols w l).length = 1 ∧ mHarder w l = (w, hardF w l.length l 0, true) := by
 unfold mHarder at h ⊢
 by_cases e : (mPuzzle w l && (((mSols w l).length : Int) == 1)) = true
 ·rw [if_pos e]
  rw [Bool.and_eq_true, beq_iff_eq] at e
  exact ⟨e.1, by omega, rfl⟩
 ·rw [if_neg e] at h; exact absurd h zO5_2
theorem impl_LengthsOf.ev {w l r : Int} (h : mHidden w l r = true) : ∃ x y : Int, Ev (fun k => impl_LengthsOf.f k w l r) (x, y, mWhole (w * w + l * l) && mWhole (w * w + r * r)) := by
 obtain ⟨h0, h1, h2⟩ := mHidden_iff.1 h
 have hL : mLadders w l r = true := mLadders_iff.2 zO5_1
 have p3 := mul_bd (a := w) (b := w) (A := 12) (B := 12) zO5_1 zO5_1 zO5_1 zO5_1
 have p4 := mul_bd (a := l) (b := l) (A := 12) (B := 12) zO5_1 zO5_1 zO5_1 zO5_1
 have p5 := mul_bd (a := r) (b := r) (A := 12) (B := 12) zO5_1 zO5_1 zO5_1 zO5_1
 by_cases hb : (mWhole (w * w + l * l) && mWhole (w * w + r * r)) = true
 ·refine ⟨mCeil (w * w + l * l), mCeil (w * w + r * r), ?_⟩
  have hb2 := Bool.and_eq_true _ _ ▸ hb
  unfold impl_LengthsOf.f impl_SquaresOf.f
  simp only [impl_AreLadders.eq, Option.bind_some, hL, if_true]
  rw [wid (show -9223372036854775808 ≤ w * w by omega) zO5_1, wid (show -9223372036854775808 ≤ l * l by omega) zO5_1, wid (show -9223372036854775808 ≤ r * r by omega) zO5_1, wid (show -9223372036854775808 ≤ w * w + l * l by omega) zO5_1, wid (show -9223372036854775808 ≤ w * w + r * r by omega) zO5_1]
  refine Ev.bind (impl_rootOf.ev zO5_1 zO5_1) ?_
  refine Ev.bind (impl_rootOf.ev zO5_1 zO5_1) ?_
  simp only [Bool.and_eq_true] at hb
  simp only [hb.1, hb.2, if_true, Bool.and_self]
  exact Ev.now _
 ·refine ⟨0, 0, ?_⟩
  unfold impl_LengthsOf.f impl_SquaresOf.f
  simp only [impl_AreLadders.eq, Option.bind_some, hL, if_true]
  rw [wid (show -9223372036854775808 ≤ w * w by omega) zO5_1, wid (show -9223372036854775808 ≤ l * l by omega) zO5_1, wid (show -9223372036854775808 ≤ r * r by omega) zO5_1, wid (show -9223372036854775808 ≤ w * w + l * l by omega) zO5_1, wid (show -9223372036854775808 ≤ w * w + r * r by omega) zO5_1]
  refine Ev.bind (impl_rootOf.ev zO5_1 zO5_1) ?_
  refine Ev.bind (impl_rootOf.ev zO5_1 zO5_1) ?_
  cases e1 : mWhole (w * w + l * l) with
  | false => simp only [if_true, Bool.false_eq_true, if_false, Bool.false_and]; exact Ev.now _
  | true =>
   cases e2 : mWhole (w * w + r * r) with
   | false => simp only [if_true, Bool.false_eq_true, if_false, Bool.and_false]; exact Ev.now _
   | true => exact absurd (by rw [e1, e2]; rfl) hb
theorem spec_IsClue.ev (n k a b : Int) : Ev (fun m => spec_IsClue.f m n k a b) (inr 1 12 n && mClue k a b) := by
 obtain ⟨K, h⟩ := spec_pzClue.ev k a b
 refine ⟨K, fun m hm => ?_⟩
 have h := h m hm
 dsimp only at *
 unfold spec_IsClue.f spec_pzWide.f
 rw [spec_l1In.eq, h]
 cases inr 1 12 n <;> simp
theorem impl_IsClue.ev (n k a b : Int) : Ev (fun m => impl_IsClue.f m n k a b) (inr 1 12 n && mClue k a b) := by
 obtain ⟨K, h⟩ := impl_isClue.ev k a b
 refine ⟨K, fun m hm => ?_⟩
 have h := h m hm
 dsimp only at *
 unfold impl_IsClue.f impl_isSmall.f
 rw [impl_within.eq, h]
 cases inr 1 12 n <;> simp
theorem mVal_clue {k a w l r : Int} (h : mHidden w l r = true) (hk : 0 ≤ k ∧ k ≤ 5) (ha : a = 0 ∨ a = 1) (ha3 : k ≠ 3 → a = 0) : mClue k (mVal k a w l r).1 (mVal k a w l r).2 = true := by
 obtain ⟨h0, h1, h2⟩ := mHidden_iff.1 h
 have p1 := mul_bd (a := l) (b := r) (A := 12) (B := 12) zO5_1 zO5_1 zO5_1 zO5_1
 have p2 := mul_bd (a := l) (b := w) (A := 12) (B := 12) zO5_1 zO5_1 zO5_1 zO5_1
 have hk6 : k = 0 ∨ k = 1 ∨ k = 2 ∨ k = 3 ∨ k = 4 ∨ k = 5 := by omega
 rcases hk6 with rfl | rfl | rfl | rfl | rfl | rfl
 ·obtain rfl := ha3 zO5_1
  simp only [mVal, mClue, if_true, Bool.and_eq_true, Bool.or_eq_true, inr_iff, beq_iff_eq, decide_eq_true_eq]
  refine ⟨by omega, by omega, ?_⟩
  simp <;> omega
 ·obtain rfl := ha3 zO5_1
  simp only [mVal, mClue, show ¬ ((1 : Int) = 0) by omega, if_false, if_true, Bool.and_eq_true, Bool.or_eq_true, inr_iff, beq_iff_eq, decide_eq_true_eq]
  split <;> (refine ⟨by omega, by omega, ?_⟩; simp <;> omega)
 ·have q1 := loA_nonneg (a := l * r) (b := l + r) zO5_1 zO5_1
  have q2 := loB_pos (a := l * r) (b := l + r) zO5_1
  simp only [mVal, mClue, show ¬ ((2 : Int) = 0) by omega, show ¬ ((2 : Int) = 1) by omega, if_false, if_true, Bool.and_eq_true, Bool.or_eq_true, inr_iff, beq_iff_eq, decide_eq_true_eq]
  refine ⟨by omega, by omega, ?_⟩
  simp <;> omega
 ·simp only [mVal, mClue, show ¬ ((3 : Int) = 0) by omega, show ¬ ((3 : Int) = 1) by omega, show ¬ ((3 : Int) = 2) by omega, if_false, if_true, Bool.and_eq_true, Bool.or_eq_true, inr_iff, beq_iff_eq, decide_eq_true_eq]
  split <;> (refine ⟨by omega, by omega, ?_⟩; simp <;> omega)
 ·have q1 := loA_nonneg (a := l * w) (b := l + r) zO5_1 zO5_1
  have q2 := loB_pos (a := l * w) (b := l + r) zO5_1
  simp only [mVal, mClue, show ¬ ((4 : Int) = 0) by omega, show ¬ ((4 : Int) = 1) by omega, show ¬ ((4 : Int) = 2) by omega, show ¬ ((4 : Int) = 3) by omega, if_false, if_true, Bool.and_eq_true, Bool.or_eq_true, inr_iff, beq_iff_eq, decide_eq_true_eq]
  refine ⟨by omega, by omega, ?_⟩
  simp <;> omega
 ·obtain rfl := ha3 zO5_1
  simp only [mVal, mClue, show ¬ ((5 : Int) = 0) by omega, show ¬ ((5 : Int) = 1) by omega, show ¬ ((5 : Int) = 2) by omega, show ¬ ((5 : Int) = 3) by omega, show ¬ ((5 : Int) = 4) by omega, if_false, if_true, Bool.and_eq_true, Bool.or_eq_true, inr_iff, beq_iff_eq, decide_eq_true_eq]
  refine ⟨by omega, by omega, ?_⟩
  simp <;> omega
theorem mVal_fits (k a w l r : Int) : mFits k (mVal k a w l r).1 (mVal k a w l r).2 w l r = true := by
 by_cases h24 : k = 2 ∨ k = 4
 ·unfold mFits; rw [mVal_other k _ a w l r h24]; simp
 ·have e : (mVal k a w l r).1 = a := by
   unfold mVal
   by_cases h0 : k = 0
   ·simp [h0]
   ·by_cases h1 : k = 1
    ·simp [h1]
    ·by_cases h3 : k = 3
     ·simp [h3]
     ·simp [h0, h1, h3, show ¬ k = 2 by omega, show ¬ k = 4 by omega]
  unfold mFits; rw [e]; simp [e]
theorem mSide_ok {k z : Int} (hz : 0 ≤ z) : (mSide k z = 0 ∨ mSide k z = 1) ∧ (k ≠ 3 → mSide k z = 0) := by
 unfold mSide
 rw [Int.tmod_eq_emod_of_nonneg hz]
 split <;> omega
theorem mMk_all {w l r : Int} (h : mHidden w l r = true) (n : Nat) : ∀ s, 0 ≤ s ∧ s ≤ 10006 → ∀ c ∈ mMk w l r n s, mClueS c = true ∧ mFits c.f0 c.f1 c.f2 w l r = true := by
 induction n with
 | zero => intro s _ c hc; simp [mMk] at hc
 | succ n ih =>
  intro s hs c hc
  have h1 := mNx_bd hs
  have h2 := mNx_bd h1
  rcases List.mem_cons.1 hc with rfl | hc
  ·have hsd := mSide_ok (k := Int.tmod (mNx s) 6) (z := mNx (mNx s)) h2.1
   exact ⟨mVal_clue h (kind_bd h1.1) hsd.1 hsd.2, mVal_fits _ _ _ _ _⟩
  ·exact ih _ h2 c hc
theorem hie8 {i w : Int} {l : List S39} (hs : (mDrop w l i).2.2 = true) (hk : i = (l.length : Int) - 1) : Ev (fun k => laws_FnLaddersHidden.j8 k i true w l (mDrop w l i).1 (mDrop w l i).2.1) true := by
 obtain ⟨hp, ⟨h0, h1⟩, he⟩ := mDrop_ok hs
 obtain ⟨q1, q2, q3⟩ := mPuzzle_parts hp
 obtain ⟨n, rfl⟩ : ∃ n : Nat, i = (n : Int) := ⟨i.toNat, by omega⟩
 have hn : n + 1 = l.length := by omega
 have hlt : n < l.length := by omega
 have hrd := rdC_get hlt
 have hw := mPuzzle_wo hp hlt
 have hlen := mWo_len hlt
 have hc : mClue (l[n]).f0 (l[n]).f1 (l[n]).f2 = true := List.all_eq_true.1 q3 _ (List.getElem_mem hlt)
 have hadd : mAdd w (mWo l n) (l[n]).f0 (l[n]).f1 (l[n]).f2 = (w, l, true) := by
  unfold mAdd
  rw [if_pos (by simp only [hw, hc, Bool.true_and, decide_eq_true_eq]; omega)]
  have e := mWo_end hn
  have e2 : mWo l n ++ [(⟨(l[n]).f0, (l[n]).f1, (l[n]).f2⟩ : S39)] = l := e
  rw [e2]
 have ha := impl_AddClue.ev w (mWo l n) (l[n]).f0 (l[n]).f1 (l[n]).f2
 rw [hadd] at ha
 simp only [he, Int.toNat_natCast]
 refine Ev.succ ?_
 simp only [laws_FnLaddersHidden.j8, if_true, show (0 : Int) ≤ (n : Int) by omega, show (n : Int) < (l.length : Int) by omega, hrd]
 refine Ev.bind ha ?_
 simp only [if_true]
 refine Ev.bind (laws_jPuzzle.refl zO5_1) ?_
 exact Ev.now _
theorem hie7 (i w : Int) (l : List S39) : Ev (fun k => laws_FnLaddersHidden.j7 k i (mDrop w l i).2.2 w l (mDrop w l i).1 (mDrop w l i).2.1) true := by
 refine Ev.succ ?_
 simp only [laws_FnLaddersHidden.j7]
 by_cases hs : (mDrop w l i).2.2 = true
 ·simp only [if_pos hs]
  obtain ⟨hp, ⟨h0, h1⟩, he⟩ := mDrop_ok hs
  obtain ⟨q1, q2, q3⟩ := mPuzzle_parts hp
  rw [wid (show -9223372036854775808 ≤ (l.length : Int) - 1 by omega) zO5_1]
  by_cases hk : i = (l.length : Int) - 1
  ·have hb : (i == (l.length : Int) - 1) = true := by rw [beq_iff_eq]; exact hk
   rw [hb]
   exact hie8 hs hk
  ·have hb : (i == (l.length : Int) - 1) = false := by rw [beq_eq_false_iff_ne]; exact hk
   rw [hb]
   refine Ev.succ ?_
   simp only [laws_FnLaddersHidden.j8, Bool.false_eq_true, if_false]
   exact Ev.now _
 ·simp only [if_neg hs]
  refine Ev.succ ?_
  simp only [laws_FnLaddersHidden.j8, Bool.false_eq_true, if_false]
  exact Ev.now _
theorem hie6 (i w1 a b c w2 : Int) (l1 l2 : List S39) : Ev (fun k => laws_FnLaddersHidden.j6 k (mAdd w1 l1 a b c).2.2 i (mDrop w2 l2 i).2.2 false w1 l1 a b c (mAdd w1 l1 a b c).1 (mAdd w1 l1 a b c).2.1 w2 l2 (mDrop w2 l2 i).1 (mDrop w2 l2 i).2.1) true := by
 refine Ev.succ ?_
 simp only [laws_FnLaddersHidden.j6, Bool.false_eq_true, if_false]
 by_cases hs : (mAdd w1 l1 a b c).2.2 = true
 ·simp only [if_pos hs]
  obtain ⟨hp, hc, hl, he⟩ := mAdd_ok hs
  obtain ⟨q1, q2, q3⟩ := mPuzzle_parts hp
  have hd : mDrop w1 (l1 ++ [⟨a, b, c⟩]) (l1.length : Int) = (w1, l1, true) := by
   unfold mDrop
   rw [if_pos (by simp only [mPuzzle_add hp hc hl, Bool.true_and, inr_iff, List.length_append, List.length_cons, List.length_nil]; omega), Int.toNat_natCast, mWo_last]
  have hdv := impl_DropClue.ev w1 (l1 ++ [⟨a, b, c⟩]) (l1.length : Int)
  rw [hd] at hdv
  have hlt : l1.length < (l1 ++ [(⟨a, b, c⟩ : S39)]).length := by simp
  have hrd := rdC_get hlt
  rw [List.getElem_append_right (Nat.le_refl _)] at hrd
  simp only [Nat.sub_self, List.getElem_cons_zero] at hrd
  simp only [he]
  refine Ev.bind hdv ?_
  simp only [if_true]
  refine Ev.bind (laws_jPuzzle.refl zO5_1) ?_
  simp only [if_true, show (0 : Int) ≤ (l1.length : Int) by omega, show (l1.length : Int) < ((l1 ++ [(⟨a, b, c⟩ : S39)]).length : Int) by omega, hrd, beq_self_eq_true, Bool.not_true, Bool.or_self, Bool.false_eq_true, if_false]
  exact hie7 i w2 l2
 ·simp only [if_neg hs]
  exact hie7 i w2 l2
theorem hie5 {bs : List Int} (hb : Bytes bs) : Ev (fun k => laws_FnLaddersHidden.j5 k bs) true := by
 refine Ev.succ ?_
 simp only [laws_FnLaddersHidden.j5]
 obtain ⟨w1, l1, a, b, c, ea⟩ := drawAdd_ok hb
 obtain ⟨w2, l2, i, ed⟩ := drawDrop_ok hb
 obtain ⟨d0, d1, d2, x0, x1, x2, ef⟩ := drawFit_ok hb
 obtain ⟨n, e0, e1, e2, ei⟩ := drawIs_ok hb
 have n1 := mAdd_len w1 l1 a b c
 have n2 := mDrop_len w2 l2 i
 refine Ev.bind ea ?_
 refine Ev.bind (impl_AddClue.ev w1 l1 a b c) ?_
 refine Ev.bind (spec_AddClue.ev w1 l1 a b c) ?_
 refine Ev.bind ed ?_
 refine Ev.bind (impl_DropClue.ev w2 l2 i) ?_
 refine Ev.bind (spec_DropClue.ev w2 l2 i) ?_
 refine Ev.bind ef ?_
 refine Ev.bind (impl_DoesFit.ev d0 d1 d2 x0 x1 x2) ?_
 refine Ev.bind (spec_DoesFit.ev d0 d1 d2 x0 x1 x2) ?_
 refine Ev.bind ei ?_
 simp only [bne_self_eq_false, Bool.false_eq_true, if_false]
 refine Ev.bind (laws_jPuzzle.refl zO5_1) ?_
 simp only [if_true]
 refine Ev.bind (laws_jPuzzle.refl zO5_1) ?_
 simp only [if_true]
 refine Ev.bind (impl_IsClue.ev n e0 e1 e2) ?_
 refine Ev.bind (spec_IsClue.ev n e0 e1 e2) ?_
 simp only [bne_self_eq_false, Bool.false_eq_true, if_false]
 by_cases hs : (mDoesFit d0 d1 d2 x0 x1 x2).2 = true
 ·simp only [if_pos hs]
  have hok : (inr 1 12 x0 && mClue d0 d1 d2) = true := by
   unfold mDoesFit at hs
   by_cases e : (mClue d0 d1 d2 && mHidden x0 x1 x2) = true
   ·rw [Bool.and_eq_true] at e
    obtain ⟨h0, _, _⟩ := mHidden_iff.1 e.2
    rw [Bool.and_eq_true]
    exact ⟨inr_iff.2 h0, e.1⟩
   ·rw [if_neg e] at hs; exact absurd hs zO5_2
  have hc := impl_IsClue.ev x0 d0 d1 d2
  rw [hok] at hc
  refine Ev.bind hc ?_
  exact hie6 i w1 a b c w2 l1 l2
 ·simp only [if_neg hs]
  exact hie6 i w1 a b c w2 l1 l2
theorem hie4 {bs : List Int} (hb : Bytes bs) (wq : Int) (lq : List S39) : Ev (fun k => laws_FnLaddersHidden.j4 k bs (mHarder wq lq).2.2 false wq lq (mHarder wq lq).1 (mHarder wq lq).2.1) true := by
 refine Ev.succ ?_
 simp only [laws_FnLaddersHidden.j4, Bool.false_eq_true, if_false]
 by_cases hs : (mHarder wq lq).2.2 = true
 ·simp only [if_pos hs]
  obtain ⟨hp, h1, he⟩ := mHarder_ok hs
  obtain ⟨q1, q2, q3⟩ := mPuzzle_parts hp
  have hlen := hardF_len wq lq.length lq 0 zO5_1
  obtain ⟨hsol, hneed⟩ := hardF_spec wq lq.length lq 0 zO5_1 h1 (fun j hj => absurd hj zO5_1)
  have hall := hardF_all wq lq.length lq 0 q3
  simp only [he]
  generalize hardF wq lq.length lq 0 = h at hlen hsol hneed hall ⊢
  have hph : mPuzzle wq h = true := by
   unfold mPuzzle
   simp only [Bool.and_eq_true, decide_eq_true_eq]
   exact ⟨q1, by omega, hall⟩
  have s1 := impl_Solutions.ev wq lq
  rw [mSolutions, if_pos hp] at s1
  have s2 := impl_Solutions.ev wq h
  rw [mSolutions, if_pos hph, hsol] at s2
  have s3 := impl_NeedlessClues.ev wq h
  rw [mNeed, if_pos hph, hsol, h1] at s3
  have s4 : needs wq h ((1 : Nat) : Int) 0 h.length = [] := needs_nil hneed
  rw [s4] at s3
  refine Ev.bind s1 ?_
  refine Ev.bind s2 ?_
  refine Ev.bind s3 ?_
  simp only [if_true]
  refine Ev.bind (laws_jLadders.refl zO5_1) ?_
  simp only [if_true, List.length_nil, show ((0 : Nat) : Int) = 0 from rfl, show ¬ ((h.length : Int) > (lq.length : Int)) by omega, if_false]
  exact hie5 hb
 ·simp only [if_neg hs]
  exact hie5 hb
theorem hie3 {bs : List Int} (hb : Bytes bs) : Ev (fun k => laws_FnLaddersHidden.j3 k bs) true := by
 refine Ev.succ ?_
 simp only [laws_FnLaddersHidden.j3]
 obtain ⟨wq, lq, eq⟩ := drawHarder_ok hb
 refine Ev.bind eq ?_
 have n1 := mHarder_len wq lq
 refine Ev.bind (impl_HarderPuzzle.ev wq lq) ?_
 refine Ev.bind (spec_HarderPuzzle.ev wq lq) ?_
 refine Ev.bind (impl_IsSolved.ev wq lq) ?_
 simp only [bne_self_eq_false, Bool.false_eq_true, if_false]
 refine Ev.bind (laws_jPuzzle.refl zO5_1) ?_
 simp only [if_true]
 have h4 := hie4 hb wq lq
 by_cases hp : mPuzzle wq lq = true
 ·have e2 : mIsSolved wq lq = (((mSols wq lq).length : Int) == 1, true) := by rw [mIsSolved, if_pos hp]
  have e3 : (mHarder wq lq).2.2 = (((mSols wq lq).length : Int) == 1) := by
   unfold mHarder
   rw [hp, Bool.true_and]
   cases hh : (((mSols wq lq).length : Int) == 1) <;> simp
  simp only [e2, if_true]
  rw [show ((mHarder wq lq).2.2 != (((mSols wq lq).length : Int) == 1)) = false by rw [e3]; simp]
  exact h4
 ·have e2 : mIsSolved wq lq = (false, false) := by rw [mIsSolved, if_neg hp]
  have e3 : (mHarder wq lq).2.2 = false := by
   unfold mHarder
   rw [Bool.eq_false_iff.2 hp]; simp
  simp only [e2, Bool.false_eq_true, if_false]
  rw [show ((mHarder wq lq).2.2 != false) = false by rw [e3]; rfl]
  exact h4
theorem hieL {bs : List Int} (hb : Bytes bs) (wl ll lr : Int) (L : List S39) (h : mHidden wl ll lr = true) (hL : L.length ≤ 6) (hf : ∀ y ∈ L, mClueS y = true ∧ mFits y.f0 y.f1 y.f2 wl ll lr = true) (d : Nat) : ∀ j : Nat, j + d = L.length → Ev (fun k => laws_FnLaddersHidden.l0 k bs L (L.length : Int) (j : Int) wl ll lr) true := by
 induction d with
 | zero =>
  intro j hj
  refine Ev.succ ?_
  simp only [laws_FnLaddersHidden.l0, show ¬ ((j : Int) < (L.length : Int)) by omega, if_false]
  exact hie3 hb
 | succ d ih =>
  intro j hj
  have hlt : j < L.length := by omega
  obtain ⟨c1, c2⟩ := hf _ (List.getElem_mem hlt)
  have hfit := impl_DoesFit.ev (L[j]).f0 (L[j]).f1 (L[j]).f2 wl ll lr
  rw [mDoesFit, if_pos (by rw [Bool.and_eq_true]; exact ⟨c1, h⟩), c2] at hfit
  refine Ev.succ ?_
  simp only [laws_FnLaddersHidden.l0, show ((j : Int) < (L.length : Int)) by omega, show (0 : Int) ≤ (j : Int) by omega, if_true, rdC_get hlt]
  refine Ev.bind hfit ?_
  simp only [if_true, wid (show -9223372036854775808 ≤ (j : Int) + 1 by omega) zO5_1]
  exact ih (j + 1) zO5_1
theorem hie0 {bs : List Int} (hb : Bytes bs) (t wl ll lr s : Int) : Ev (fun k => laws_FnLaddersHidden.j0 k bs t (mMake wl ll lr t s).2.2 false wl ll lr (mMake wl ll lr t s).1 (mMake wl ll lr t s).2.1) true := by
 refine Ev.succ ?_
 simp only [laws_FnLaddersHidden.j0, Bool.false_eq_true, if_false]
 by_cases e : (mHidden wl ll lr && (inr 0 6 t && inr 0 9999 s)) = true
 ·have em : mMake wl ll lr t s = (wl, mMk wl ll lr t.toNat s, true) := by unfold mMake; rw [if_pos e]
  simp only [Bool.and_eq_true, inr_iff] at e
  obtain ⟨h, ht, hs⟩ := e
  obtain ⟨h0, h1, h2⟩ := mHidden_iff.1 h
  have hLd : mLadders wl ll lr = true := mLadders_iff.2 zO5_1
  have hf := mMk_all h t.toNat s zO5_1
  have hlen := mMk_len wl ll lr t.toNat s
  simp only [em, if_true]
  generalize mMk wl ll lr t.toNat s = L at hf hlen ⊢
  have c1 := impl_CrossHeight.ev wl ll lr
  rw [mCrossHeight, if_pos hLd] at c1
  have c2 := impl_CrossPlace.ev wl ll lr
  rw [mCrossPlace, if_pos hLd] at c2
  have v2 : mVal 2 0 wl ll lr = (loA (ll * lr) (ll + lr), loB (ll * lr) (ll + lr)) := by simp [mVal]
  have v4 : mVal 4 0 wl ll lr = (loA (ll * wl) (ll + lr), loB (ll * wl) (ll + lr)) := by simp [mVal]
  have f2 := impl_DoesFit.ev 2 (loA (ll * lr) (ll + lr)) (loB (ll * lr) (ll + lr)) wl ll lr
  have k2 := mVal_clue (k := 2) (a := 0) h zO5_1 (.inl rfl) (fun _ => rfl)
  have g2 := mVal_fits 2 0 wl ll lr
  rw [v2] at k2 g2
  rw [mDoesFit, if_pos (by rw [Bool.and_eq_true]; exact ⟨k2, h⟩), g2] at f2
  have f4 := impl_DoesFit.ev 4 (loA (ll * wl) (ll + lr)) (loB (ll * wl) (ll + lr)) wl ll lr
  have k4 := mVal_clue (k := 4) (a := 0) h zO5_1 (.inl rfl) (fun _ => rfl)
  have g4 := mVal_fits 4 0 wl ll lr
  rw [v4] at k4 g4
  rw [mDoesFit, if_pos (by rw [Bool.and_eq_true]; exact ⟨k4, h⟩), g4] at f4
  have f30 := impl_DoesFit.ev 3 0 1 wl ll lr
  rw [mDoesFit, if_pos (by rw [Bool.and_eq_true]; exact ⟨by decide, h⟩)] at f30
  have z30 : mFits 3 0 1 wl ll lr = mWhole (wl * wl + ll * ll) := by
   unfold mFits mVal mOwn
   simp only [show ¬ ((3 : Int) = 0) by omega, show ¬ ((3 : Int) = 1) by omega, show ¬ ((3 : Int) = 2) by omega, show ¬ ((0 : Int) = 1) by omega, if_false, if_true]
   cases mWhole (wl * wl + ll * ll) <;> simp
  have f31 := impl_DoesFit.ev 3 1 1 wl ll lr
  rw [mDoesFit, if_pos (by rw [Bool.and_eq_true]; exact ⟨by decide, h⟩)] at f31
  have z31 : mFits 3 1 1 wl ll lr = mWhole (wl * wl + lr * lr) := by
   unfold mFits mVal mOwn
   simp only [show ¬ ((3 : Int) = 0) by omega, show ¬ ((3 : Int) = 1) by omega, show ¬ ((3 : Int) = 2) by omega, if_false, if_true]
   cases mWhole (wl * wl + lr * lr) <;> simp
  rw [z30] at f30
  rw [z31] at f31
  obtain ⟨y1, y2, hy⟩ := impl_LengthsOf.ev h
  have hp : mPuzzle wl L = true := by
   unfold mPuzzle
   simp only [Bool.and_eq_true, decide_eq_true_eq]
   exact ⟨inr_iff.2 h0, by omega, List.all_eq_true.2 fun y hy => (hf y hy).1⟩
  have hpv := impl_IsPuzzle.ev wl L
  rw [hp] at hpv
  have hfin := hieL hb wl ll lr L h zO5_1 hf L.length 0 zO5_1
  have h1j : Ev (fun k => laws_FnLaddersHidden.j1 k bs false wl ll lr wl L) true := by
   refine Ev.succ ?_
   simp only [laws_FnLaddersHidden.j1, Bool.false_eq_true, if_false]
   exact hfin
  refine Ev.bind c1 ?_
  refine Ev.bind f2 ?_
  refine Ev.bind c2 ?_
  refine Ev.bind f4 ?_
  refine Ev.bind hy ?_
  refine Ev.bind f30 ?_
  refine Ev.bind f31 ?_
  refine Ev.bind hpv ?_
  simp only [if_true, show (L.length : Int) = t by omega]
  cases hA : mWhole (wl * wl + ll * ll) with
  | false => simp only [Bool.false_and, Bool.false_eq_true, if_false, bne_self_eq_false]; exact h1j
  | true => simp only [Bool.true_and, if_true, bne_self_eq_false]; exact h1j
 ·have em : mMake wl ll lr t s = (0, [], false) := by unfold mMake; rw [if_neg e]
  simp only [em, Bool.false_eq_true, if_false]
  exact hie3 hb
theorem mkNext.eq {s : Int} (h : 0 ≤ s ∧ s ≤ 10006) : mkNext.f s = some (mNx s) := by
 unfold mkNext.f mNx
 rw [wid (show -9223372036854775808 ≤ s * 269 by omega) zO5_1, wid (show -9223372036854775808 ≤ s * 269 + 1361 by omega) zO5_1]
theorem impl_told.evz {k z w l r : Int} (h : mHidden w l r = true) (hk : 0 ≤ k ∧ k ≤ 5) (hz : 0 ≤ z) : Ev (fun n => impl_told.f n w l r k (Int.tmod z 2)) (k, (mVal k (mSide k z) w l r).1, (mVal k (mSide k z) w l r).2) := by
 unfold mSide
 have ht : Int.tmod z 2 = 0 ∨ Int.tmod z 2 = 1 := by rw [Int.tmod_eq_emod_of_nonneg hz]; omega
 by_cases h3 : k = 3
 ·rw [if_pos h3]; exact impl_told.ev k (Int.tmod z 2) w l r h hk ht (fun hn => absurd h3 hn)
 ·rw [if_neg h3]
  have e := impl_told.ev k 0 w l r h hk (.inl rfl) (fun _ => rfl)
  have e2 : ∀ n, impl_told.f n w l r k (Int.tmod z 2) = impl_told.f n w l r k 0 := by
   intro n
   simp only [impl_told.f, if_neg h3]
  simp only [e2]
  exact e
theorem impl_MakePuzzle.ev_l (w l r c : Int) (h : mHidden w l r = true) (hc : c ≤ 6) (d : Nat) : ∀ (i s : Int) (out : List S39), 0 ≤ i → i + d = c → out.length ≤ 6 - d → 0 ≤ s ∧ s ≤ 10006 → Ev (fun k => impl_MakePuzzle.l0 k c i w l r s w out) (w, out ++ mMk w l r d s, true) := by
 induction d with
 | zero =>
  intro i s out h0 hi ho hs
  refine Ev.succ ?_
  simp only [impl_MakePuzzle.l0, show ¬ (i < c) by omega, if_false, mMk, List.append_nil]
  exact Ev.now _
 | succ d ih =>
  intro i s out h0 hi ho hs
  have hs1 := mNx_bd hs
  have hs2 := mNx_bd hs1
  refine Ev.succ ?_
  simp only [impl_MakePuzzle.l0, show i < c by omega, if_true]
  refine Ev.bindc (mkNext.eq hs) ?_
  refine Ev.bindc (mkNext.eq hs1) ?_
  refine Ev.bind (impl_told.evz h (kind_bd hs1.1) hs2.1) ?_
  simp only [show out.length < 5864062014805 by omega, if_true]
  rw [wid (show -9223372036854775808 ≤ i + 1 by omega) zO5_1]
  refine ev_eq (ih (i + 1) (mNx (mNx s)) _ zO5_1 zO5_1 zO5_0 hs2) ?_
  simp only [mMk, List.append_assoc, List.cons_append, List.nil_append]
theorem impl_MakePuzzle.ev (w l r n s : Int) : Ev (fun k => impl_MakePuzzle.f k w l r n s) (mMake w l r n s) := by
 unfold impl_MakePuzzle.f mMake
 refine Ev.bindc (impl_areHidden.eq w l r) ?_
 cases h : mHidden w l r with
 | false =>
  simp only [Bool.false_eq_true, if_false, Bool.false_and]
  refine Ev.succ ?_
  simp only [impl_MakePuzzle.j0, if_true]
  exact Ev.now _
 | true =>
  simp only [if_true, Bool.true_and]
  refine Ev.bindc (impl_within.eq n 0 6) ?_
  cases hn : inr 0 6 n with
  | false =>
   simp only [Bool.false_eq_true, if_false, Bool.false_and]
   refine Ev.succ ?_
   simp only [impl_MakePuzzle.j0, if_true]
   exact Ev.now _
  | true =>
   simp only [if_true, Bool.true_and]
   refine Ev.bindc (impl_within.eq s 0 9999) ?_
   cases hs : inr 0 9999 s with
   | false =>
    simp only [Bool.false_eq_true, if_false, Bool.not_false]
    refine Ev.succ ?_
    simp only [impl_MakePuzzle.j0, if_true]
    exact Ev.now _
   | true =>
    simp only [if_true, Bool.not_true]
    refine Ev.succ ?_
    simp only [impl_MakePuzzle.j0, Bool.false_eq_true, if_false]
    have hn' := inr_iff.1 hn
    have hs' := inr_iff.1 hs
    exact ev_eq (impl_MakePuzzle.ev_l w l r n h zO5_1 n.toNat 0 s [] zO5_1 zO5_1 zO5_2 zO5_1) (by rw [List.nil_append])
end Go.Proofs.Ytopoopkobfdjjaa.P

namespace Go.Proofs.Ytopoopkobfdjjaa.Pure
open Go.RowKit Go.Proofs.YtopoopkobfdjjaaW.PrintWords Go.Proofs.YtopoopkobfdjjaaW.PrintLast Go.Proofs.YtopoopkobfdjjaaW.PrintMore Go.Proofs.Ytopoopkobfdjjaa.P
set_option linter.unusedVariables false
set_option linter.unusedSimpArgs false
theorem FnLaddersHidden : laws_FnLaddersHidden.Pure := fun l0 l1 _ _ hb0 _ _ hb1 => by
 refine Ev.rounds ?_
 unfold laws_FnLaddersHidden.f
 obtain ⟨t, ht⟩ : ∃ t, laws_big.f l0 l1 = some t := by unfold laws_big.f; split <;> exact ⟨_, rfl⟩
 refine Ev.bindc ht ?_
 cases t with
 | true => simp only [if_true]; exact Ev.now _
 | false =>
  simp only [Bool.false_eq_true, if_false]
  obtain ⟨a, b, c, d, e, ed⟩ := drawMake_ok hb0
  refine Ev.bindc ed ?_
  have n1 := mMake_len a b c d e
  refine Ev.bind (impl_MakePuzzle.ev a b c d e) ?_
  refine Ev.bind (spec_MakePuzzle.ev a b c d e) ?_
  simp only [bne_self_eq_false, Bool.false_eq_true, if_false]
  refine Ev.bind (laws_jPuzzle.refl zO5_1) ?_
  exact hie0 hb1 d a b c e
end Go.Proofs.Ytopoopkobfdjjaa.Pure

namespace Go.Proofs.Ytopoopkobfdjjaa.fnLaddersHidden
open Go.ChangeShapes Go.WideShapes Go.ChangeAt Go.RowKit
open Go.ChangeMaps (open_string shut_string)
set_option linter.unusedVariables false
theorem own : ownKnob Try.prog.godebug = none := by kernel_rfl
theorem laidOut : laidOutB Try.prog = true := by kernel_rfl
def IsRow (k : IntKind) (w : World) (a : Option Addr) (len cap : Nat) (zs : List Int) : Prop :=
 (a = none ∧ len = 0 ∧ cap = 0 ∧ zs = []) ∨
 ∃ x, a = some x ∧ len ≤ cap ∧ cap ≤ maxLen ∧ zs.length = cap ∧ (∀ i, i < zs.length → w.cell? (x.add i) = some (.int k (zs.getD i 0))) ∧ ∀ n ∈ zs, (Lit.int k n).wf = true
set_option maxRecDepth 100000 in
theorem lifted (os : Os) (started : os.Started) (H : Type) (enc : TypeId × Value → H) :
  ReturnsInHanded {} Try.checked os 3 .any (Rows.fnLaddersHiddenSpec.pre6 enc Try.prog Try.f3 Rows.fnLaddersHiddenRow.domain false) (Rows.fnLaddersHiddenSpec.post enc Try.prog Try.f3 false true false false) := by
 refine returnsInHanded_of_change_sized (C := Try.checked) own started (by kernel_rfl) Try.func3
  (ChangeSpec.witness6 (enc := enc) (C := Try.checked) false ⟨#[], #[.slice none 0 0, .slice none 0 0], []⟩ 8 (by kernel_rfl) (by kernel_rfl) (by kernel_rfl) (by kernel_rfl)) ?_
 intro W base args ds gs before hval0 hW hcnd hsz0 _
 have hsz : (DataW.weightsEach Try.prog (Try.f3.params.toList ++ Rows.fnLaddersHiddenSpec.plain.varTypes Try.prog) (ds ++ gs)).all (· ≤ reachBytes) = true := hsz0
 have hval : ∀ (j : Nat) t v, Try.f3.params[j]? = some t → args[j]? = some v → Value.okWide Try.prog W .any base t v := hval0
 have hW' := hW
 obtain ⟨p, q, hA0, hV, rfl, hfz, hnd⟩ := hW
 have hA : DataW.TrodAll enc Try.prog W 0 (fun _ => true) true Try.f3.params.toList args.toList ds p := hA0
 rw [Try.params3] at hA hval hsz
 obtain ⟨v0, vs0, d0, ds0, p0, q0, hargs, rfl, rfl, h0, r0⟩ := trodAll_cons hA
 obtain ⟨v1, vs1, d1, ds1, p1, q1, rfl, rfl, rfl, h1, r1⟩ := trodAll_cons r0
 obtain ⟨rfl, rfl, rfl⟩ := trodAll_nil r1
 obtain rfl : args = #[v0, v1] := by cases args; simp_all
 obtain ⟨rfl, rfl⟩ := trodVars_none hV
 obtain ⟨a0, len0, cap0, rfl⟩ := okWide_slice Try.underlying22 (hval 0 22 v0 rfl rfl)
 have k0 := h0
 have lt0 : ∀ x ∈ p0, x.block < W.heap.size := by obtain ⟨m, hm⟩ := k0; exact DataW.trod_lt m _ _ _ hm
 obtain ⟨z0, w0⟩ : ∃ zs, IsRow .u8 W a0 len0 cap0 zs := by
  obtain ⟨fuel, hf⟩ := h0
  rcases open_ints Try.underlying22 Try.underlying5 (by kernel_rfl) hf with ⟨hcs, _⟩ | ⟨x, l, c, zs, hcs, _, hl, hm, hz, _, hcell, hwz⟩
  ·simp [Value.cells] at hcs
   obtain ⟨rfl, rfl, rfl⟩ := hcs
   exact ⟨[], .inl ⟨rfl, rfl, rfl, rfl⟩⟩
  ·simp [Value.cells] at hcs
   obtain ⟨rfl, rfl, rfl⟩ := hcs
   exact ⟨zs, .inr ⟨_, rfl, hl, hm, by simpa using hz, hcell, hwz⟩⟩
 have y0 : len0 * 1 ≤ 140737488351232 := Go.Proofs.YtopoopkobfdjjaaW.PrintWords.sized_ints hsz (j := 0) (t := 22) rfl rfl Try.underlying22 Try.underlying5 (by kernel_rfl) (by kernel_rfl) h0
 obtain ⟨a1, len1, cap1, rfl⟩ := okWide_slice Try.underlying22 (hval 1 22 v1 rfl rfl)
 have k1 := h1
 have lt1 : ∀ x ∈ p1, x.block < W.heap.size := by obtain ⟨m, hm⟩ := k1; exact DataW.trod_lt m _ _ _ hm
 obtain ⟨z1, w1⟩ : ∃ zs, IsRow .u8 W a1 len1 cap1 zs := by
  obtain ⟨fuel, hf⟩ := h1
  rcases open_ints Try.underlying22 Try.underlying5 (by kernel_rfl) hf with ⟨hcs, _⟩ | ⟨x, l, c, zs, hcs, _, hl, hm, hz, _, hcell, hwz⟩
  ·simp [Value.cells] at hcs
   obtain ⟨rfl, rfl, rfl⟩ := hcs
   exact ⟨[], .inl ⟨rfl, rfl, rfl, rfl⟩⟩
  ·simp [Value.cells] at hcs
   obtain ⟨rfl, rfl, rfl⟩ := hcs
   exact ⟨zs, .inr ⟨_, rfl, hl, hm, by simpa using hz, hcell, hwz⟩⟩
 have y1 : len1 * 1 ≤ 140737488351232 := Go.Proofs.YtopoopkobfdjjaaW.PrintWords.sized_ints hsz (j := 1) (t := 22) rfl rfl Try.underlying22 Try.underlying5 (by kernel_rfl) (by kernel_rfl) h1
 clear hA0 hval0 hsz0 hsz
 refine (P.laws_FnLaddersHidden.walk Pure.FnLaddersHidden a0 len0 cap0 z0 a1 len1 cap1 z1 W w0 y0 w1 y1).mono fun e W' ⟨he, bel⟩ => ?_
 subst he
 exact ⟨_, rfl, _, _, _, [], _, [], hW', trodAll_mk1 (shut_bool Try.underlying4 _), (trodAll_cons_mk (Below.trod laidOut (by kernel_rfl) (of_decide_eq_true (by kernel_rfl)) k0 bel lt0) (trodAll_cons_mk (Below.trod laidOut (by kernel_rfl) (of_decide_eq_true (by kernel_rfl)) k1 bel lt1) trodAll_mk0)), rfl, bel.frame _, fun h => by cases h⟩
theorem over : Rows.fnLaddersHiddenRow.holds Try.pinned (OpenSpec.ofChange Rows.fnLaddersHiddenSpec) :=
 OpenClaim.holds_of_wide 3 Try.f3 rfl rfl rfl rfl rfl rfl rfl ⟨rfl, rfl, rfl, rfl, rfl⟩ rfl rfl rfl rfl rfl (by kernel_rfl) Try.func3 (by kernel_rfl)
  (of_decide_eq_true (by kernel_rfl)) (by unfold Func.isWrapper; first | (rw [if_pos (by decide +kernel)]; kernel_rfl) | (rw [if_neg (by decide +kernel)]; exact ⟨rfl, rfl⟩))
  (fun os started H enc _ => lifted os started H enc)
theorem proved : Rows.FnLaddersHiddenSaid := over
end Go.Proofs.Ytopoopkobfdjjaa.fnLaddersHidden
namespace Go.Proofs.Ytopoopkobfdjjaa
/-- The row, under a short name, for the claim. -/
theorem fnLaddersHidden_holds : Rows.FnLaddersHiddenSaid := fnLaddersHidden.proved
end Go.Proofs.Ytopoopkobfdjjaa
