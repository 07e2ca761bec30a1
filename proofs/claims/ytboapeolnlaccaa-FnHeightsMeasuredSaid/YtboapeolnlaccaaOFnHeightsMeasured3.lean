/- The law FnHeightsMeasured is proved: a call of it returns true and leaves its arguments as they were; and what this needs. Every input that the given rows speak of; nothing else is asked. -/
import Derived.Test.YtboapeolnlaccaaOFnHeightsMeasured0
import Derived.Test.YtboapeolnlaccaaOFnHeightsMeasured1
import Derived.Test.YtboapeolnlaccaaOFnHeightsMeasured2
import Derived.Test.YtboapeolnlaccaaRows
import Derived.WalkKit
import Derived.ProofKit
import Derived.OpenShut
import Derived.ShutString
import Derived.ChangeOld
import Derived.Below
import Derived.SizedLaws
import Derived.Test.YtboapeolnlaccaaWSized
namespace Go.Proofs.Ytboapeolnlaccaa.P
open Go.RowKit Go.Proofs.YtboapeolnlaccaaW.PrintWords Go.Proofs.YtboapeolnlaccaaW.PrintLast Go.Proofs.YtboapeolnlaccaaW.PrintMore
set_option linter.unusedVariables false
set_option linter.unusedSimpArgs false
theorem wid {x : Int} (h0 : -9223372036854775808 ≤ x) (h1 : x ≤ 9223372036854775807) : wrap64 x = x := by unfold wrap64; omega
/-- lo ≤ n ≤ hi, as a Bool. -/
def inr (lo hi n : Int) : Bool := decide (lo ≤ n) && decide (n ≤ hi)
theorem inr_iff {lo hi n : Int} : inr lo hi n = true ↔ lo ≤ n ∧ n ≤ hi := by unfold inr; simp
theorem mul_bd {a b A B : Int} (h0 : 0 ≤ a) (h1 : a ≤ A) (h2 : 0 ≤ b) (h3 : b ≤ B) : 0 ≤ a * b ∧ a * b ≤ A * B :=
 ⟨Int.mul_nonneg h0 h2, Int.mul_le_mul h1 h3 h2 (by omega)⟩
theorem ev_eq {α : Type} {g : Nat → Option α} {r s : α} (h : Ev g r) (e : r = s) : Ev g s := e ▸ h
/-- A row of rounds that doesn't hang on the rounds. -/
theorem Ev.const {α : Type} {g : Option α} {r : α} (h : g = some r) : Ev (fun _ => g) r := ⟨0, fun _ _ => h⟩
theorem all1 {p : Int → Bool} {a : Int} : [a].all p = p a := by simp
theorem rd_cons0 (x : Int) (l : List Int) : rd (x :: l) 0 = x := rfl
end Go.Proofs.Ytboapeolnlaccaa.P

namespace Go.Proofs.Ytboapeolnlaccaa.P
open Go.RowKit Go.Proofs.YtboapeolnlaccaaW.PrintWords Go.Proofs.YtboapeolnlaccaaW.PrintLast Go.Proofs.YtboapeolnlaccaaW.PrintMore
set_option linter.unusedVariables false
set_option linter.unusedSimpArgs false
def Bytes (l : List Int) : Prop := ∀ x ∈ l, (Lit.int .u8 x).wf = true
theorem rd_byte {l : List Int} (hb : Bytes l) {p : Int} (h0 : 0 ≤ p) (h1 : p < (l.length : Int)) : 0 ≤ rd l p ∧ rd l p ≤ 255 := by
 have hm : rd l p ∈ l := by
  unfold rd
  rw [List.getD_eq_getElem?_getD, List.getElem?_eq_getElem (show p.toNat < l.length by omega)]
  exact List.getElem_mem _
 have h := hb _ hm
 simp only [Lit.wf, Bool.and_eq_true, decide_eq_true_eq] at h
 exact ⟨h.1, h.2⟩
theorem and255 (x : Int) (h0 : 0 ≤ x) (h1 : x < 18446744073709551616) : Go.bits .and .u64 x 255 = x % 256 := by
 have h := bits_mask .u64 64 (by decide) (fun n h0 h1 => by rw [IntKind.wrap_u64]; omega) 8 (by decide) x h0 (by omega)
 simpa using h
theorem next_ok {l : List Int} (hb : Bytes l) {p s : Int} (h0 : 0 ≤ p) (h1 : p ≤ 1152921504606846976) : ∃ b s', spec_l1Cur_next.f l p s = some (b, p + 1, s') ∧ 0 ≤ b ∧ b ≤ 255 := by
 unfold spec_l1Cur_next.f
 rw [wid (show -9223372036854775808 ≤ p + 1 by omega) (by omega)]
 have hw : ∀ y : Int, 0 ≤ wrap64 (Go.bits .and .u64 (IntKind.u64.wrap y / 1099511627776) 255) ∧ wrap64 (Go.bits .and .u64 (IntKind.u64.wrap y / 1099511627776) 255) ≤ 255 := by
  intro y
  have hy : 0 ≤ IntKind.u64.wrap y ∧ IntKind.u64.wrap y < 18446744073709551616 := by rw [IntKind.wrap_u64]; omega
  rw [and255 _ (by omega) (by omega), wid (by omega) (by omega)]
  omega
 by_cases c1 : p < (l.length : Int)
 ·have hr := rd_byte hb h0 c1
  simp only [c1, h0, if_true, show p + 1 ≤ (l.length : Int) by omega]
  exact ⟨_, _, rfl, by rw [wid (by omega) (by omega)]; exact hr⟩
 ·simp only [c1, if_false, show ¬ (p + 1 ≤ (l.length : Int)) by omega]
  exact ⟨_, _, rfl, hw _⟩
theorem pick_ok {l : List Int} (hb : Bytes l) {p s : Int} (h0 : 0 ≤ p) (h1 : p ≤ 1152921504606840000) (n : Int) (hn : 0 < n) : ∃ x p' s', spec_l1Cur_pick.f l p s n = some (x, p', s') ∧ (0 ≤ x ∧ x < n) ∧ p ≤ p' ∧ p' ≤ p + 2 := by
 unfold spec_l1Cur_pick.f
 by_cases c : n ≤ 1
 ·simp only [c, if_true]
  exact ⟨_, _, _, rfl, by omega, by omega, by omega⟩
 ·obtain ⟨b, s1, e1, hb0, hb1⟩ := next_ok hb (s := s) h0 (by omega)
  simp only [c, if_false, e1, Option.bind_some, show ¬ n = 0 by omega]
  by_cases c2 : n > 200
  ·obtain ⟨b2, s2, e2, hb2, hb3⟩ := next_ok hb (p := p + 1) (s := s1) (by omega) (by omega)
   simp only [c2, if_true, e2, Option.bind_some]
   rw [wid (show -9223372036854775808 ≤ b * 256 by omega) (by omega), wid (show -9223372036854775808 ≤ b * 256 + b2 by omega) (by omega)]
   exact ⟨_, _, _, rfl, ⟨Int.tmod_nonneg _ (by omega), Int.tmod_lt_of_pos _ hn⟩, by omega, by omega⟩
  ·simp only [c2, if_false]
   exact ⟨_, _, _, rfl, ⟨Int.tmod_nonneg _ (by omega), Int.tmod_lt_of_pos _ hn⟩, by omega, by omega⟩
theorem one_ok {l : List Int} (hb : Bytes l) {p s : Int} (h0 : 0 ≤ p) (h1 : p ≤ 1152921504606840000) (n : Int) (hn : 0 < n) : ∃ x p' s', spec_l1Cur_one.f l p s n = some (x, p', s') ∧ p ≤ p' ∧ p' ≤ p + 2 := by
 obtain ⟨x, p', s', e, _, h2, h3⟩ := pick_ok hb (s := s) h0 h1 n hn
 unfold spec_l1Cur_one.f
 rw [e]
 exact ⟨_, _, _, rfl, h2, h3⟩
theorem among_ok {l : List Int} (hb : Bytes l) {p s : Int} (h0 : 0 ≤ p) (h1 : p ≤ 1152921504606840000) (L : List Int) (hL : 0 < L.length) : ∃ x p' s', spec_l1Cur_among.f l p s L = some (x, p', s') ∧ p ≤ p' ∧ p' ≤ p + 2 := by
 obtain ⟨x, p', s', e, hx, h2, h3⟩ := pick_ok hb (s := s) h0 h1 (L.length : Int) (by omega)
 unfold spec_l1Cur_among.f
 rw [e]
 simp only [Option.bind_some, hx.1, hx.2, if_true]
 exact ⟨_, _, _, rfl, h2, h3⟩
end Go.Proofs.Ytboapeolnlaccaa.P

namespace Go.Proofs.Ytboapeolnlaccaa.P
open Go.RowKit Go.Proofs.YtboapeolnlaccaaW.PrintWords Go.Proofs.YtboapeolnlaccaaW.PrintLast Go.Proofs.YtboapeolnlaccaaW.PrintMore
set_option linter.unusedVariables false
set_option linter.unusedSimpArgs false
theorem staff_ok {l : List Int} (hb : Bytes l) {p s : Int} (h0 : 0 ≤ p) (h1 : p ≤ 1152921504606830000) : ∃ x p' s', spec_l1Cur_staff.f l p s = some (x, p', s') ∧ p ≤ p' ∧ p' ≤ p + 4 := by
 obtain ⟨x, p1, s1, e1, h2, h3⟩ := one_ok hb (s := s) h0 (by omega) 14 (by omega)
 unfold spec_l1Cur_staff.f
 rw [e1]
 simp only [Option.bind_some]
 cases x with
 | true =>
  obtain ⟨y, p2, s2, e2, h4, h5⟩ := among_ok hb (p := p1) (s := s1) (by omega) (by omega) [0, -1, 100, 101, 4611686018427387904] (by simp)
  simp only [if_true, e2, Option.bind_some]
  exact ⟨_, _, _, rfl, by omega, by omega⟩
 | false =>
  obtain ⟨y, p2, s2, e2, _, h4, h5⟩ := pick_ok hb (p := p1) (s := s1) (by omega) (by omega) 6 (by omega)
  simp only [Bool.false_eq_true, if_false, e2, Option.bind_some]
  exact ⟨_, _, _, rfl, by omega, by omega⟩
theorem long_ok {l : List Int} (hb : Bytes l) {p s : Int} (h0 : 0 ≤ p) (h1 : p ≤ 1152921504606830000) : ∃ x p' s', spec_l1Cur_long.f l p s = some (x, p', s') ∧ p ≤ p' ∧ p' ≤ p + 4 := by
 obtain ⟨x, p1, s1, e1, h2, h3⟩ := one_ok hb (s := s) h0 (by omega) 14 (by omega)
 unfold spec_l1Cur_long.f
 rw [e1]
 simp only [Option.bind_some]
 cases x with
 | true =>
  obtain ⟨y, p2, s2, e2, h4, h5⟩ := among_ok hb (p := p1) (s := s1) (by omega) (by omega) [0, -1, 2000, 2001, 4611686018427387904] (by simp)
  simp only [if_true, e2, Option.bind_some]
  exact ⟨_, _, _, rfl, by omega, by omega⟩
 | false =>
  obtain ⟨y, p2, s2, e2, _, h4, h5⟩ := pick_ok hb (p := p1) (s := s1) (by omega) (by omega) 12 (by omega)
  simp only [Bool.false_eq_true, if_false, e2, Option.bind_some]
  exact ⟨_, _, _, rfl, by omega, by omega⟩
end Go.Proofs.Ytboapeolnlaccaa.P

namespace Go.Proofs.Ytboapeolnlaccaa.P
open Go.RowKit Go.Proofs.YtboapeolnlaccaaW.PrintWords Go.Proofs.YtboapeolnlaccaaW.PrintLast Go.Proofs.YtboapeolnlaccaaW.PrintMore
set_option linter.unusedVariables false
set_option linter.unusedSimpArgs false
theorem drawTree_ok {l : List Int} (hb : Bytes l) : ∃ a b c d, spec_DrawTreeByStaff.f l = some (a, b, c, d) := by
 obtain ⟨x1, p1, s1, e1, _, _⟩ := staff_ok hb (p := 0) (s := 0) (by omega) (by omega)
 obtain ⟨x2, p2, s2, e2, _, _, _⟩ := pick_ok hb (p := p1) (s := s1) (by omega) (by omega) 6 (by omega)
 obtain ⟨x3, p3, s3, e3, _, _, _⟩ := pick_ok hb (p := p2) (s := s2) (by omega) (by omega) 8 (by omega)
 obtain ⟨x4, p4, s4, e4, _, _⟩ := long_ok hb (p := p3) (s := s3) (by omega) (by omega)
 obtain ⟨x5, p5, s5, e5, _, _⟩ := long_ok hb (p := p4) (s := s4) (by omega) (by omega)
 unfold spec_DrawTreeByStaff.f
 simp only [e1, e2, e3, e4, e5, Option.bind_some]
 exact ⟨_, _, _, _, rfl⟩
theorem drawTower_ok {l : List Int} (hb : Bytes l) : ∃ a b c, spec_DrawTowerByShadow.f l = some (a, b, c) := by
 obtain ⟨x1, p1, s1, e1, _, _⟩ := staff_ok hb (p := 0) (s := 0) (by omega) (by omega)
 obtain ⟨x4, p4, s4, e4, _, _⟩ := long_ok hb (p := p1) (s := s1) (by omega) (by omega)
 obtain ⟨x5, p5, s5, e5, _, _⟩ := long_ok hb (p := p4) (s := s4) (by omega) (by omega)
 unfold spec_DrawTowerByShadow.f
 simp only [e1, e4, e5, Option.bind_some]
 exact ⟨_, _, _, rfl⟩
theorem drawStaff_ok {l : List Int} (hb : Bytes l) : ∃ a b c d, spec_DrawStaffForTree.f l = some (a, b, c, d) := by
 obtain ⟨x1, p1, s1, e1, _, _⟩ := staff_ok hb (p := 0) (s := 0) (by omega) (by omega)
 obtain ⟨x4, p4, s4, e4, _, _⟩ := long_ok hb (p := p1) (s := s1) (by omega) (by omega)
 obtain ⟨x5, p5, s5, e5, _, _⟩ := long_ok hb (p := p4) (s := s4) (by omega) (by omega)
 obtain ⟨x6, p6, s6, e6, _, _⟩ := long_ok hb (p := p5) (s := s5) (by omega) (by omega)
 unfold spec_DrawStaffForTree.f
 simp only [e1, e4, e5, e6, Option.bind_some]
 exact ⟨_, _, _, _, rfl⟩
theorem drawWell_ok {l : List Int} (hb : Bytes l) : ∃ a b c, spec_DrawWellDepth.f l = some (a, b, c) := by
 obtain ⟨x1, p1, s1, e1, _, _⟩ := long_ok hb (p := 0) (s := 0) (by omega) (by omega)
 obtain ⟨x4, p4, s4, e4, _, _⟩ := staff_ok hb (p := p1) (s := s1) (by omega) (by omega)
 obtain ⟨x5, p5, s5, e5, _, _⟩ := long_ok hb (p := p4) (s := s4) (by omega) (by omega)
 unfold spec_DrawWellDepth.f
 simp only [e1, e4, e5, Option.bind_some]
 exact ⟨_, _, _, rfl⟩
theorem drawRiver_ok {l : List Int} (hb : Bytes l) : ∃ a b c, spec_DrawRiverWide.f l = some (a, b, c) := by
 obtain ⟨x1, p1, s1, e1, _, _⟩ := long_ok hb (p := 0) (s := 0) (by omega) (by omega)
 obtain ⟨x4, p4, s4, e4, _, _⟩ := long_ok hb (p := p1) (s := s1) (by omega) (by omega)
 obtain ⟨x5, p5, s5, e5, _, _⟩ := long_ok hb (p := p4) (s := s4) (by omega) (by omega)
 unfold spec_DrawRiverWide.f
 simp only [e1, e4, e5, Option.bind_some]
 exact ⟨_, _, _, rfl⟩
end Go.Proofs.Ytboapeolnlaccaa.P

namespace Go.Proofs.Ytboapeolnlaccaa.P
open Go.RowKit Go.Proofs.YtboapeolnlaccaaW.PrintWords Go.Proofs.YtboapeolnlaccaaW.PrintLast Go.Proofs.YtboapeolnlaccaaW.PrintMore
set_option linter.unusedVariables false
set_option linter.unusedSimpArgs false
theorem Ev.succ {α : Type} {g : Nat → Option α} {r : α} (h : Ev (fun k => g (k + 1)) r) : Ev g r := Ev.step (fun _ => rfl) h
theorem Ev.ite {α : Type} {c : Prop} [Decidable c] {g f : Nat → Option α} {r s : α} (h1 : c → Ev g r) (h2 : ¬ c → Ev f s) : Ev (fun k => if c then g k else f k) (if c then r else s) := by
 by_cases h : c
 ·simp only [if_pos h]; exact h1 h
 ·simp only [if_neg h]; exact h2 h
theorem Ev.bindc {α β : Type} {g : Option α} {f : Nat → α → Option β} {a : α} {r : β} (h : g = some a) (k : Ev (fun n => f n a) r) : Ev (fun n => g.bind (f n)) r := by
 subst h; exact k
end Go.Proofs.Ytboapeolnlaccaa.P

namespace Go.Proofs.Ytboapeolnlaccaa.P
open Go.RowKit Go.Proofs.YtboapeolnlaccaaW.PrintWords Go.Proofs.YtboapeolnlaccaaW.PrintLast Go.Proofs.YtboapeolnlaccaaW.PrintMore
set_option linter.unusedVariables false
set_option linter.unusedSimpArgs false
theorem gcd_tmod (a b : Int) : Int.gcd b (Int.tmod a b) = Int.gcd a b := by
 rw [Int.gcd_eq_natAbs_gcd_natAbs, Int.gcd_eq_natAbs_gcd_natAbs, Int.natAbs_tmod, Nat.gcd_comm, Nat.gcd_comm a.natAbs]
 exact (Nat.gcd_rec _ _).symm
theorem impl_gcd.ev_l (n : Nat) : ∀ a b : Int, b.natAbs ≤ n → -9223372036854775807 ≤ a → a ≤ 9223372036854775807 → -9223372036854775807 ≤ b → b ≤ 9223372036854775807 → Ev (fun k => impl_gcd.l0 k a b) (Int.gcd a b : Int) := by
 induction n using Nat.strongRecOn with
 | ind n ih =>
  intro a b hn ha0 ha1 hb0 hb1
  by_cases hb : b = 0
  ·subst hb
   refine Ev.step (f := fun _ => some (mx a (wrap64 (-a)))) (fun k => by simp only [impl_gcd.l0, if_true]) ?_
   refine Ev.const ?_
   rw [wid (by omega) (by omega), Int.gcd_zero_right]
   congr 1
   unfold mx; split <;> omega
  ·refine Ev.step (f := fun k => impl_gcd.l0 k b (Int.tmod a b)) (fun k => by simp only [impl_gcd.l0]; rw [if_neg hb]) ?_
   have h1 : (Int.tmod a b).natAbs < b.natAbs := by rw [Int.natAbs_tmod]; exact Nat.mod_lt _ (by omega)
   exact ev_eq (ih (Int.tmod a b).natAbs (by omega) b (Int.tmod a b) (Nat.le_refl _) hb0 hb1 (by omega) (by omega)) (by rw [gcd_tmod])
theorem impl_gcd.ev {a b : Int} (ha0 : -9223372036854775807 ≤ a) (ha1 : a ≤ 9223372036854775807) (hb0 : -9223372036854775807 ≤ b) (hb1 : b ≤ 9223372036854775807) : Ev (fun k => impl_gcd.f k a b) (Int.gcd a b : Int) := by
 unfold impl_gcd.f; exact impl_gcd.ev_l _ a b (Nat.le_refl _) ha0 ha1 hb0 hb1
/-- The fraction in lowest terms. -/
def loA (a b : Int) : Int := a / (Int.gcd a b : Int)
def loB (a b : Int) : Int := b / (Int.gcd a b : Int)
theorem gcd_pos {a b : Int} (hb : 0 < b) : (0 : Int) < (Int.gcd a b : Int) := by
 have : 0 < Int.gcd a b := Int.gcd_pos_of_ne_zero_right _ (by omega)
 omega
theorem lo_mulA {a b : Int} : loA a b * (Int.gcd a b : Int) = a := Int.ediv_mul_cancel (Int.gcd_dvd_left ..)
theorem lo_mulB {a b : Int} : loB a b * (Int.gcd a b : Int) = b := Int.ediv_mul_cancel (Int.gcd_dvd_right ..)
theorem loA_bd {a b : Int} (hb : 0 < b) : (loA a b).natAbs ≤ a.natAbs := by
 unfold loA
 rw [Int.natAbs_ediv_of_dvd (Int.gcd_dvd_left ..)]
 exact Nat.div_le_self _ _
theorem loB_pos {a b : Int} (hb : 0 < b) : 0 < loB a b ∧ loB a b ≤ b := by
 have g := gcd_pos (a := a) hb
 have e := lo_mulB (a := a) (b := b)
 have h0 : 0 < loB a b := by
  rcases Int.lt_or_le 0 (loB a b) with h | h
  ·exact h
  ·have := Int.mul_nonneg (show 0 ≤ -(loB a b) by omega) (show 0 ≤ (Int.gcd a b : Int) by omega)
   rw [Int.neg_mul, e] at this
   omega
 refine ⟨h0, ?_⟩
 have : loB a b * 1 ≤ loB a b * (Int.gcd a b : Int) := Int.mul_le_mul_of_nonneg_left (by omega) (by omega)
 rw [e] at this
 omega
theorem loA_nonneg {a b : Int} (ha : 0 ≤ a) (hb : 0 < b) : 0 ≤ loA a b ∧ loA a b ≤ a := by
 have g := gcd_pos (a := a) hb
 refine ⟨Int.ediv_nonneg ha (by omega), ?_⟩
 have := loA_bd (a := a) hb
 have h0 : 0 ≤ loA a b := Int.ediv_nonneg ha (by omega)
 omega
theorem tdiv_gcd_l {a b : Int} : Int.tdiv a (Int.gcd a b : Int) = loA a b := Int.tdiv_eq_ediv_of_dvd (Int.gcd_dvd_left ..)
theorem tdiv_gcd_r {a b : Int} : Int.tdiv b (Int.gcd a b : Int) = loB a b := Int.tdiv_eq_ediv_of_dvd (Int.gcd_dvd_right ..)
theorem impl_fraction.ev {a b : Int} (ha0 : -9223372036854775807 ≤ a) (ha1 : a ≤ 9223372036854775807) (hb0 : 0 < b) (hb1 : b ≤ 9223372036854775807) : Ev (fun k => impl_fraction.f k a b) (loA a b, loB a b, true) := by
 unfold impl_fraction.f
 refine Ev.bind (impl_gcd.ev ha0 ha1 (by omega) hb1) ?_
 have g := gcd_pos (a := a) hb0
 have h1 := loA_bd (a := a) hb0
 have h2 := loB_pos (a := a) hb0
 refine Ev.const ?_
 rw [if_neg (by omega), tdiv_gcd_l, tdiv_gcd_r, wid (by omega) (by omega), wid (by omega) (by omega)]
end Go.Proofs.Ytboapeolnlaccaa.P

namespace Go.Proofs.Ytboapeolnlaccaa.P
open Go.RowKit Go.Proofs.YtboapeolnlaccaaW.PrintWords Go.Proofs.YtboapeolnlaccaaW.PrintLast Go.Proofs.YtboapeolnlaccaaW.PrintMore
set_option linter.unusedVariables false
set_option linter.unusedSimpArgs false
theorem spec_clLow.ev_l (x y : Int) (hx0 : 0 ≤ x) (hx1 : x ≤ 9223372036854775807) (hy0 : 0 < y) (hy1 : y ≤ 9223372036854775807) (n : Nat) : ∀ a b : Int, b.natAbs ≤ n → 0 ≤ a → 0 ≤ b → (0 < a ∨ 0 < b) → Int.gcd a b = Int.gcd x y → Ev (fun k => spec_clLow.l0 k x y a b) (loA x y, loB x y) := by
 induction n using Nat.strongRecOn with
 | ind n ih =>
  intro a b hn ha hb hab hg
  by_cases hb' : b = 0
  ·subst hb'
   refine Ev.step (f := fun _ => some (wrap64 (Int.tdiv x a), wrap64 (Int.tdiv y a))) (fun k => by simp only [spec_clLow.l0]; rw [if_neg (by omega), if_neg (by omega)]) ?_
   refine Ev.const ?_
   have ea : a = (Int.gcd x y : Int) := by rw [← hg, Int.gcd_zero_right]; omega
   have h1 := loA_bd (a := x) hy0
   have h2 := loB_pos (a := x) hy0
   rw [ea, tdiv_gcd_l, tdiv_gcd_r, wid (by omega) (by omega), wid (by omega) (by omega)]
  ·refine Ev.step (f := fun k => spec_clLow.l0 k x y b (Int.tmod a b)) (fun k => by simp only [spec_clLow.l0]; rw [if_pos (by omega), if_neg hb']) ?_
   have h1 : (Int.tmod a b).natAbs < b.natAbs := by rw [Int.natAbs_tmod]; exact Nat.mod_lt _ (by omega)
   exact ih (Int.tmod a b).natAbs (by omega) b (Int.tmod a b) (Nat.le_refl _) hb (Int.tmod_nonneg _ ha) (.inl (by omega)) ((gcd_tmod a b).trans hg)
theorem spec_clLow.ev {x y : Int} (hx0 : 0 ≤ x) (hx1 : x ≤ 9223372036854775807) (hy0 : 0 < y) (hy1 : y ≤ 9223372036854775807) : Ev (fun k => spec_clLow.f k x y) (loA x y, loB x y) := by
 unfold spec_clLow.f; exact spec_clLow.ev_l x y hx0 hx1 hy0 hy1 _ x y (Nat.le_refl _) hx0 (by omega) (.inr hy0) rfl
end Go.Proofs.Ytboapeolnlaccaa.P

namespace Go.Proofs.Ytboapeolnlaccaa.P
open Go.RowKit Go.Proofs.YtboapeolnlaccaaW.PrintWords Go.Proofs.YtboapeolnlaccaaW.PrintLast Go.Proofs.YtboapeolnlaccaaW.PrintMore
set_option linter.unusedVariables false
set_option linter.unusedSimpArgs false
theorem spec_l1In.eq (a lo hi : Int) : spec_l1In.f a lo hi = some (inr lo hi a) := by
 unfold spec_l1In.f inr
 by_cases h : a ≥ lo
 ·rw [if_pos h]; simp [show lo ≤ a from h]
 ·rw [if_neg h]; simp [show ¬ lo ≤ a from h]
end Go.Proofs.Ytboapeolnlaccaa.P

namespace Go.Proofs.Ytboapeolnlaccaa.P
open Go.RowKit Go.Proofs.YtboapeolnlaccaaW.PrintWords Go.Proofs.YtboapeolnlaccaaW.PrintLast Go.Proofs.YtboapeolnlaccaaW.PrintMore
set_option linter.unusedVariables false
set_option linter.unusedSimpArgs false
theorem spec_l1All.ev_l (l : List Int) (lo hi : Int) (hm : l.length ≤ 9223372036854775807) (d : Nat) : ∀ i : Nat, i + d = l.length → Ev (fun k => spec_l1All.l0 k lo hi l (l.length : Int) (i : Int)) ((l.drop i).all (inr lo hi)) := by
 induction d with
 | zero =>
  intro i he
  refine Ev.step (f := fun _ => some true) (fun k => by simp only [spec_l1All.l0]; rw [if_neg (by omega)]) ?_
  exact Ev.const (by rw [show i = l.length by omega, List.drop_length]; rfl)
 | succ d ih =>
  intro i he
  have hlt : i < l.length := by omega
  have hx : rd l (i : Int) = l[i] := by simp [rd, List.getD_eq_getElem?_getD, List.getElem?_eq_getElem hlt]
  have hd : (l.drop i).all (inr lo hi) = (inr lo hi l[i] && (l.drop (i + 1)).all (inr lo hi)) := by rw [List.drop_eq_getElem_cons hlt, List.all_cons]
  refine Ev.step (f := fun k => if inr lo hi l[i] = true then spec_l1All.l0 k lo hi l (l.length : Int) (((i + 1 : Nat)) : Int) else some false) (fun k => ?_) ?_
  ·simp only [spec_l1All.l0]
   rw [if_pos (by omega), if_pos (by omega), if_pos (by omega), hx, spec_l1In.eq, Option.bind_some, wid (by omega) (by omega)]
   rfl
  ·rw [hd]
   cases hp : inr lo hi l[i] with
   | true => simp only [Bool.true_and, if_true]; exact ih (i + 1) (by omega)
   | false => exact Ev.const (by simp)
theorem spec_l1All.ev {l : List Int} {lo hi : Int} (hm : l.length ≤ 9223372036854775807) : Ev (fun k => spec_l1All.f k l lo hi) (l.all (inr lo hi)) := by
 unfold spec_l1All.f
 exact ev_eq (spec_l1All.ev_l l lo hi hm l.length 0 (by omega)) (by simp)
end Go.Proofs.Ytboapeolnlaccaa.P

namespace Go.Proofs.Ytboapeolnlaccaa.P
open Go.RowKit Go.Proofs.YtboapeolnlaccaaW.PrintWords Go.Proofs.YtboapeolnlaccaaW.PrintLast Go.Proofs.YtboapeolnlaccaaW.PrintMore
set_option linter.unusedVariables false
set_option linter.unusedSimpArgs false
theorem spec_htLong.ev {l : List Int} (hm : l.length ≤ 9223372036854775807) : Ev (fun k => spec_htLong.f k l) (l.all (inr 1 2000)) := by
 unfold spec_htLong.f
 exact Ev.bind (spec_l1All.ev hm) (Ev.now _)
end Go.Proofs.Ytboapeolnlaccaa.P

namespace Go.Proofs.Ytboapeolnlaccaa.P
open Go.RowKit Go.Proofs.YtboapeolnlaccaaW.PrintWords Go.Proofs.YtboapeolnlaccaaW.PrintLast Go.Proofs.YtboapeolnlaccaaW.PrintMore
set_option linter.unusedVariables false
set_option linter.unusedSimpArgs false
theorem spec_htStaff.eq (a : Int) : spec_htStaff.f a = some (inr 1 100 a) := by
 unfold spec_htStaff.f; rw [spec_l1In.eq]; rfl
end Go.Proofs.Ytboapeolnlaccaa.P

namespace Go.Proofs.Ytboapeolnlaccaa.P
open Go.RowKit Go.Proofs.YtboapeolnlaccaaW.PrintWords Go.Proofs.YtboapeolnlaccaaW.PrintLast Go.Proofs.YtboapeolnlaccaaW.PrintMore
set_option linter.unusedVariables false
set_option linter.unusedSimpArgs false
theorem impl_areStaffs.eq (l : List Int) : impl_areStaffs.f l = some (l.all (inr 1 100)) := by
 unfold impl_areStaffs.f
 rw [List.not_any_eq_all_not]; congr 1; congr 1; funext n; simp [inr]
end Go.Proofs.Ytboapeolnlaccaa.P

namespace Go.Proofs.Ytboapeolnlaccaa.P
open Go.RowKit Go.Proofs.YtboapeolnlaccaaW.PrintWords Go.Proofs.YtboapeolnlaccaaW.PrintLast Go.Proofs.YtboapeolnlaccaaW.PrintMore
set_option linter.unusedVariables false
set_option linter.unusedSimpArgs false
theorem impl_areSteps.eq (l : List Int) : impl_areSteps.f l = some (l.all (inr 1 2000)) := by
 unfold impl_areSteps.f
 rw [List.not_any_eq_all_not]; congr 1; congr 1; funext n; simp [inr]
end Go.Proofs.Ytboapeolnlaccaa.P

namespace Go.Proofs.Ytboapeolnlaccaa.P
open Go.RowKit Go.Proofs.YtboapeolnlaccaaW.PrintWords Go.Proofs.YtboapeolnlaccaaW.PrintLast Go.Proofs.YtboapeolnlaccaaW.PrintMore
set_option linter.unusedVariables false
set_option linter.unusedSimpArgs false
def mTower (a b c : Int) : Int × Int × Bool := if (inr 1 100 a && (inr 1 2000 b && inr 1 2000 c)) = true then (loA (a * c) b, loB (a * c) b, true) else (0, 0, false)
theorem spec_TowerByShadow.ev (a b c : Int) : Ev (fun k => spec_TowerByShadow.f k a b c) (mTower a b c) := by
 obtain ⟨K1, h1⟩ := spec_htLong.ev (l := [b, c]) (by simp)
 simp only [List.all_cons, List.all_nil, Bool.and_true] at h1
 cases e0 : inr 1 100 a <;> cases e1 : inr 1 2000 b <;> cases e2 : inr 1 2000 c
 case true.true.true =>
  have b0 := inr_iff.1 e0; have b1 := inr_iff.1 e1; have b2 := inr_iff.1 e2
  have p := mul_bd (a := a) (b := c) (A := 100) (B := 2000) (by omega) (by omega) (by omega) (by omega)
  obtain ⟨K2, h2⟩ := spec_clLow.ev (x := a * c) (y := b) (by omega) (by omega) (by omega) (by omega)
  refine ⟨max K1 K2, fun k hk => ?_⟩
  have h1 := h1 k (by omega); have h2 := h2 k (by omega)
  unfold spec_TowerByShadow.f mTower
  simp only [e1, e2] at h1
  simp [spec_htStaff.eq, h1, e0, e1, e2, wid (show -9223372036854775808 ≤ a * c by omega) (by omega), h2]
 all_goals
  refine ⟨K1, fun k hk => ?_⟩
  have h1 := h1 k hk
  unfold spec_TowerByShadow.f mTower
  simp only [e1, e2] at h1
  simp [spec_htStaff.eq, h1, e0, e1, e2]
theorem impl_TowerByShadow.ev (a b c : Int) : Ev (fun k => impl_TowerByShadow.f k a b c) (mTower a b c) := by
 cases e0 : inr 1 100 a <;> cases e1 : inr 1 2000 b <;> cases e2 : inr 1 2000 c
 case true.true.true =>
  have b0 := inr_iff.1 e0; have b1 := inr_iff.1 e1; have b2 := inr_iff.1 e2
  have p := mul_bd (a := a) (b := c) (A := 100) (B := 2000) (by omega) (by omega) (by omega) (by omega)
  obtain ⟨K2, h2⟩ := impl_fraction.ev (a := a * c) (b := b) (by omega) (by omega) (by omega) (by omega)
  refine ⟨K2, fun k hk => ?_⟩
  have h2 := h2 k (by omega)
  unfold impl_TowerByShadow.f mTower
  simp [impl_areStaffs.eq, impl_areSteps.eq, e0, e1, e2, wid (show -9223372036854775808 ≤ a * c by omega) (by omega), h2]
 all_goals
  refine ⟨0, fun k hk => ?_⟩
  unfold impl_TowerByShadow.f mTower
  simp [impl_areStaffs.eq, impl_areSteps.eq, e0, e1, e2]
end Go.Proofs.Ytboapeolnlaccaa.P

namespace Go.Proofs.Ytboapeolnlaccaa.P
open Go.RowKit Go.Proofs.YtboapeolnlaccaaW.PrintWords Go.Proofs.YtboapeolnlaccaaW.PrintLast Go.Proofs.YtboapeolnlaccaaW.PrintMore
set_option linter.unusedVariables false
set_option linter.unusedSimpArgs false
theorem spec_TowerByMirror.ev (a b c : Int) : Ev (fun k => spec_TowerByMirror.f k a b c) (mTower a b c) := by
 obtain ⟨K1, h1⟩ := spec_htLong.ev (l := [b, c]) (by simp)
 simp only [List.all_cons, List.all_nil, Bool.and_true] at h1
 cases e0 : inr 1 100 a <;> cases e1 : inr 1 2000 b <;> cases e2 : inr 1 2000 c
 case true.true.true =>
  have b0 := inr_iff.1 e0; have b1 := inr_iff.1 e1; have b2 := inr_iff.1 e2
  have p := mul_bd (a := a) (b := c) (A := 100) (B := 2000) (by omega) (by omega) (by omega) (by omega)
  obtain ⟨K2, h2⟩ := spec_clLow.ev (x := a * c) (y := b) (by omega) (by omega) (by omega) (by omega)
  refine ⟨max K1 K2, fun k hk => ?_⟩
  have h1 := h1 k (by omega); have h2 := h2 k (by omega)
  unfold spec_TowerByMirror.f mTower
  simp only [e1, e2] at h1
  simp [spec_htStaff.eq, h1, e0, e1, e2, wid (show -9223372036854775808 ≤ a * c by omega) (by omega), h2]
 all_goals
  refine ⟨K1, fun k hk => ?_⟩
  have h1 := h1 k hk
  unfold spec_TowerByMirror.f mTower
  simp only [e1, e2] at h1
  simp [spec_htStaff.eq, h1, e0, e1, e2]
theorem impl_TowerByMirror.ev (a b c : Int) : Ev (fun k => impl_TowerByMirror.f k a b c) (mTower a b c) := by
 unfold impl_TowerByMirror.f
 exact Ev.bind (impl_TowerByShadow.ev a b c) (Ev.now _)
end Go.Proofs.Ytboapeolnlaccaa.P

namespace Go.Proofs.Ytboapeolnlaccaa.P
open Go.RowKit Go.Proofs.YtboapeolnlaccaaW.PrintWords Go.Proofs.YtboapeolnlaccaaW.PrintLast Go.Proofs.YtboapeolnlaccaaW.PrintMore
set_option linter.unusedVariables false
set_option linter.unusedSimpArgs false
def mRiver (a b c : Int) : Int × Int × Bool := if (inr 1 2000 a && (inr 1 2000 b && inr 1 2000 c)) = true then (loA (a * c) b, loB (a * c) b, true) else (0, 0, false)
theorem spec_RiverWide.ev (a b c : Int) : Ev (fun k => spec_RiverWide.f k a b c) (mRiver a b c) := by
 obtain ⟨K1, h1⟩ := spec_htLong.ev (l := [a, b, c]) (by simp)
 simp only [List.all_cons, List.all_nil, Bool.and_true] at h1
 cases e0 : inr 1 2000 a <;> cases e1 : inr 1 2000 b <;> cases e2 : inr 1 2000 c
 case true.true.true =>
  have b0 := inr_iff.1 e0; have b1 := inr_iff.1 e1; have b2 := inr_iff.1 e2
  have p := mul_bd (a := a) (b := c) (A := 2000) (B := 2000) (by omega) (by omega) (by omega) (by omega)
  obtain ⟨K2, h2⟩ := spec_clLow.ev (x := a * c) (y := b) (by omega) (by omega) (by omega) (by omega)
  refine ⟨max K1 K2, fun k hk => ?_⟩
  have h1 := h1 k (by omega); have h2 := h2 k (by omega)
  unfold spec_RiverWide.f mRiver
  simp only [e0, e1, e2] at h1
  simp [h1, e0, e1, e2, wid (show -9223372036854775808 ≤ a * c by omega) (by omega), h2]
 all_goals
  refine ⟨K1, fun k hk => ?_⟩
  have h1 := h1 k hk
  unfold spec_RiverWide.f mRiver
  simp only [e0, e1, e2] at h1
  simp [h1, e0, e1, e2]
theorem impl_RiverWide.ev (a b c : Int) : Ev (fun k => impl_RiverWide.f k a b c) (mRiver a b c) := by
 cases e0 : inr 1 2000 a <;> cases e1 : inr 1 2000 b <;> cases e2 : inr 1 2000 c
 case true.true.true =>
  have b0 := inr_iff.1 e0; have b1 := inr_iff.1 e1; have b2 := inr_iff.1 e2
  have p := mul_bd (a := a) (b := c) (A := 2000) (B := 2000) (by omega) (by omega) (by omega) (by omega)
  obtain ⟨K2, h2⟩ := impl_fraction.ev (a := a * c) (b := b) (by omega) (by omega) (by omega) (by omega)
  refine ⟨K2, fun k hk => ?_⟩
  have h2 := h2 k (by omega)
  unfold impl_RiverWide.f mRiver
  simp [impl_areSteps.eq, e0, e1, e2, wid (show -9223372036854775808 ≤ a * c by omega) (by omega), h2]
 all_goals
  refine ⟨0, fun k hk => ?_⟩
  unfold impl_RiverWide.f mRiver
  simp [impl_areSteps.eq, e0, e1, e2]
end Go.Proofs.Ytboapeolnlaccaa.P

namespace Go.Proofs.Ytboapeolnlaccaa.P
open Go.RowKit Go.Proofs.YtboapeolnlaccaaW.PrintWords Go.Proofs.YtboapeolnlaccaaW.PrintLast Go.Proofs.YtboapeolnlaccaaW.PrintMore
set_option linter.unusedVariables false
set_option linter.unusedSimpArgs false
def mSights (a b c : Int) : Bool := inr 1 2000 a && (inr 1 2000 b && (inr 1 2000 c && decide (a < b)))
theorem spec_htSights.ev (a b c : Int) : Ev (fun k => spec_htSights.f k a b c) (mSights a b c) := by
 obtain ⟨K1, h1⟩ := spec_htLong.ev (l := [a, b, c]) (by simp)
 refine ⟨K1, fun k hk => ?_⟩
 have h1 := h1 k hk
 simp only [List.all_cons, List.all_nil, Bool.and_true] at h1
 unfold spec_htSights.f mSights
 dsimp only at *
 rw [h1]
 simp only [Option.bind_some]
 cases inr 1 2000 a <;> cases inr 1 2000 b <;> cases inr 1 2000 c <;> simp
theorem mSights_iff {a b c : Int} : mSights a b c = true ↔ (1 ≤ a ∧ a ≤ 2000) ∧ (1 ≤ b ∧ b ≤ 2000) ∧ (1 ≤ c ∧ c ≤ 2000) ∧ a < b := by
 unfold mSights; simp only [Bool.and_eq_true, inr_iff, decide_eq_true_eq]
end Go.Proofs.Ytboapeolnlaccaa.P

namespace Go.Proofs.Ytboapeolnlaccaa.P
open Go.RowKit Go.Proofs.YtboapeolnlaccaaW.PrintWords Go.Proofs.YtboapeolnlaccaaW.PrintLast Go.Proofs.YtboapeolnlaccaaW.PrintMore
set_option linter.unusedVariables false
set_option linter.unusedSimpArgs false
def mStaffOk (a b c d : Int) : Bool := inr 1 100 a && (inr 1 2000 b && (inr 1 2000 c && (inr 1 2000 d && decide (a < b))))
theorem mStaffOk_iff {a b c d : Int} : mStaffOk a b c d = true ↔ (1 ≤ a ∧ a ≤ 100) ∧ (1 ≤ b ∧ b ≤ 2000) ∧ (1 ≤ c ∧ c ≤ 2000) ∧ (1 ≤ d ∧ d ≤ 2000) ∧ a < b := by
 unfold mStaffOk; simp only [Bool.and_eq_true, inr_iff, decide_eq_true_eq]
def mStaff (a b c d : Int) : Int × Int × Bool := if mStaffOk a b c d = true then (loA (a * (c + d) + (b - a) * c) (c + d), loB (a * (c + d) + (b - a) * c) (c + d), true) else (0, 0, false)
theorem spec_StaffForTree.ev (a b c d : Int) : Ev (fun k => spec_StaffForTree.f k a b c d) (mStaff a b c d) := by
 obtain ⟨K1, h1⟩ := spec_htLong.ev (l := [b, c, d]) (by simp)
 simp only [List.all_cons, List.all_nil, Bool.and_true] at h1
 unfold mStaff spec_StaffForTree.f
 by_cases e : mStaffOk a b c d = true
 ·obtain ⟨b0, b1, b2, b3, b4⟩ := mStaffOk_iff.1 e
  have p := mul_bd (a := a) (b := c + d) (A := 100) (B := 4000) (by omega) (by omega) (by omega) (by omega)
  have q := mul_bd (a := b - a) (b := c) (A := 2000) (B := 2000) (by omega) (by omega) (by omega) (by omega)
  obtain ⟨K2, h2⟩ := spec_clLow.ev (x := a * (c + d) + (b - a) * c) (y := c + d) (by omega) (by omega) (by omega) (by omega)
  refine ⟨max K1 K2, fun k hk => ?_⟩
  have h1 := h1 k (by omega); have h2 := h2 k (by omega)
  dsimp only at *
  rw [inr_iff.2 b1, inr_iff.2 b2, inr_iff.2 b3] at h1
  rw [spec_htStaff.eq, inr_iff.2 b0, h1, wid (show -9223372036854775808 ≤ c + d by omega) (by omega), wid (show -9223372036854775808 ≤ a * (c + d) by omega) (by omega), wid (show -9223372036854775808 ≤ b - a by omega) (by omega), wid (show -9223372036854775808 ≤ (b - a) * c by omega) (by omega), wid (show -9223372036854775808 ≤ a * (c + d) + (b - a) * c by omega) (by omega), h2]
  simp [e, show ¬ b ≤ a by omega]
 ·refine ⟨K1, fun k hk => ?_⟩
  have h1 := h1 k hk
  dsimp only at *
  rw [if_neg e, spec_htStaff.eq, h1]
  simp only [mStaffOk] at e
  cases e0 : inr 1 100 a <;> cases e1 : inr 1 2000 b <;> cases e2 : inr 1 2000 c <;> cases e3 : inr 1 2000 d <;> simp [e0, e1, e2, e3] at e ⊢
  intro h; omega
theorem impl_StaffForTree.ev (a b c d : Int) : Ev (fun k => impl_StaffForTree.f k a b c d) (mStaff a b c d) := by
 unfold mStaff impl_StaffForTree.f
 by_cases e : mStaffOk a b c d = true
 ·obtain ⟨b0, b1, b2, b3, b4⟩ := mStaffOk_iff.1 e
  have p := mul_bd (a := a) (b := c + d) (A := 100) (B := 4000) (by omega) (by omega) (by omega) (by omega)
  have q := mul_bd (a := b - a) (b := c) (A := 2000) (B := 2000) (by omega) (by omega) (by omega) (by omega)
  obtain ⟨K2, h2⟩ := impl_fraction.ev (a := a * (c + d) + (b - a) * c) (b := c + d) (by omega) (by omega) (by omega) (by omega)
  refine ⟨K2, fun k hk => ?_⟩
  have h2 := h2 k (by omega)
  dsimp only at *
  rw [impl_areStaffs.eq, impl_areSteps.eq, wid (show -9223372036854775808 ≤ c + d by omega) (by omega), wid (show -9223372036854775808 ≤ a * (c + d) by omega) (by omega), wid (show -9223372036854775808 ≤ b - a by omega) (by omega), wid (show -9223372036854775808 ≤ (b - a) * c by omega) (by omega), wid (show -9223372036854775808 ≤ a * (c + d) + (b - a) * c by omega) (by omega), h2]
  simp [e, show ¬ b ≤ a by omega, inr_iff.2 b0, inr_iff.2 b1, inr_iff.2 b2, inr_iff.2 b3]
 ·refine ⟨0, fun k hk => ?_⟩
  dsimp only at *
  rw [if_neg e, impl_areStaffs.eq, impl_areSteps.eq]
  simp only [mStaffOk] at e
  cases e0 : inr 1 100 a <;> cases e1 : inr 1 2000 b <;> cases e2 : inr 1 2000 c <;> cases e3 : inr 1 2000 d <;> simp [e0, e1, e2, e3] at e ⊢
  intro h; omega
end Go.Proofs.Ytboapeolnlaccaa.P

namespace Go.Proofs.Ytboapeolnlaccaa.P
open Go.RowKit Go.Proofs.YtboapeolnlaccaaW.PrintWords Go.Proofs.YtboapeolnlaccaaW.PrintLast Go.Proofs.YtboapeolnlaccaaW.PrintMore
set_option linter.unusedVariables false
set_option linter.unusedSimpArgs false
def mTreeOk (a b c d : Int) : Bool := inr 1 100 a && (inr 1 100 b && (inr 1 2000 c && (inr 1 2000 d && decide (a < b))))
theorem mTreeOk_iff {a b c d : Int} : mTreeOk a b c d = true ↔ (1 ≤ a ∧ a ≤ 100) ∧ (1 ≤ b ∧ b ≤ 100) ∧ (1 ≤ c ∧ c ≤ 2000) ∧ (1 ≤ d ∧ d ≤ 2000) ∧ a < b := by
 unfold mTreeOk; simp only [Bool.and_eq_true, inr_iff, decide_eq_true_eq]
def mTree (a b c d : Int) : Int × Int × Bool := if mTreeOk a b c d = true then (loA (a * c + (b - a) * (c + d)) c, loB (a * c + (b - a) * (c + d)) c, true) else (0, 0, false)
theorem spec_TreeByStaff.ev (a b c d : Int) : Ev (fun k => spec_TreeByStaff.f k a b c d) (mTree a b c d) := by
 obtain ⟨K1, h1⟩ := spec_htLong.ev (l := [c, d]) (by simp)
 simp only [List.all_cons, List.all_nil, Bool.and_true] at h1
 unfold mTree spec_TreeByStaff.f
 by_cases e : mTreeOk a b c d = true
 ·obtain ⟨b0, b1, b2, b3, b4⟩ := mTreeOk_iff.1 e
  have p := mul_bd (a := a) (b := c) (A := 100) (B := 2000) (by omega) (by omega) (by omega) (by omega)
  have q := mul_bd (a := b - a) (b := c + d) (A := 100) (B := 4000) (by omega) (by omega) (by omega) (by omega)
  obtain ⟨K2, h2⟩ := spec_clLow.ev (x := a * c + (b - a) * (c + d)) (y := c) (by omega) (by omega) (by omega) (by omega)
  refine ⟨max K1 K2, fun k hk => ?_⟩
  have h1 := h1 k (by omega); have h2 := h2 k (by omega)
  dsimp only at *
  rw [inr_iff.2 b2, inr_iff.2 b3] at h1
  rw [spec_htStaff.eq, spec_htStaff.eq, inr_iff.2 b0, inr_iff.2 b1, h1, wid (show -9223372036854775808 ≤ a * c by omega) (by omega), wid (show -9223372036854775808 ≤ b - a by omega) (by omega), wid (show -9223372036854775808 ≤ c + d by omega) (by omega), wid (show -9223372036854775808 ≤ (b - a) * (c + d) by omega) (by omega), wid (show -9223372036854775808 ≤ a * c + (b - a) * (c + d) by omega) (by omega), h2]
  simp [e, show ¬ b ≤ a by omega]
 ·refine ⟨K1, fun k hk => ?_⟩
  have h1 := h1 k hk
  dsimp only at *
  rw [if_neg e, spec_htStaff.eq, spec_htStaff.eq, h1]
  simp only [mTreeOk] at e
  cases e0 : inr 1 100 a <;> cases e1 : inr 1 100 b <;> cases e2 : inr 1 2000 c <;> cases e3 : inr 1 2000 d <;> simp [e0, e1, e2, e3] at e ⊢
  intro h; omega
theorem impl_TreeByStaff.ev (a b c d : Int) : Ev (fun k => impl_TreeByStaff.f k a b c d) (mTree a b c d) := by
 unfold mTree impl_TreeByStaff.f
 by_cases e : mTreeOk a b c d = true
 ·obtain ⟨b0, b1, b2, b3, b4⟩ := mTreeOk_iff.1 e
  have p := mul_bd (a := a) (b := c) (A := 100) (B := 2000) (by omega) (by omega) (by omega) (by omega)
  have q := mul_bd (a := b - a) (b := c + d) (A := 100) (B := 4000) (by omega) (by omega) (by omega) (by omega)
  obtain ⟨K2, h2⟩ := impl_fraction.ev (a := a * c + (b - a) * (c + d)) (b := c) (by omega) (by omega) (by omega) (by omega)
  refine ⟨K2, fun k hk => ?_⟩
  have h2 := h2 k (by omega)
  dsimp only at *
  rw [impl_areStaffs.eq, impl_areSteps.eq, wid (show -9223372036854775808 ≤ a * c by omega) (by omega), wid (show -9223372036854775808 ≤ b - a by omega) (by omega), wid (show -9223372036854775808 ≤ c + d by omega) (by omega), wid (show -9223372036854775808 ≤ (b - a) * (c + d) by omega) (by omega), wid (show -9223372036854775808 ≤ a * c + (b - a) * (c + d) by omega) (by omega), h2]
  simp [e, show ¬ b ≤ a by omega, inr_iff.2 b0, inr_iff.2 b1, inr_iff.2 b2, inr_iff.2 b3]
 ·refine ⟨0, fun k hk => ?_⟩
  dsimp only at *
  rw [if_neg e, impl_areStaffs.eq, impl_areSteps.eq]
  simp only [mTreeOk] at e
  cases e0 : inr 1 100 a <;> cases e1 : inr 1 100 b <;> cases e2 : inr 1 2000 c <;> cases e3 : inr 1 2000 d <;> simp [e0, e1, e2, e3] at e ⊢
  intro h; omega
end Go.Proofs.Ytboapeolnlaccaa.P

namespace Go.Proofs.Ytboapeolnlaccaa.P
open Go.RowKit Go.Proofs.YtboapeolnlaccaaW.PrintWords Go.Proofs.YtboapeolnlaccaaW.PrintLast Go.Proofs.YtboapeolnlaccaaW.PrintMore
set_option linter.unusedVariables false
set_option linter.unusedSimpArgs false
def mTwoDist (a b c : Int) : Int × Int × Bool := if mSights a b c = true then (loA (a * c) (b - a), loB (a * c) (b - a), true) else (0, 0, false)
theorem spec_DistanceByTwoSights.ev (a b c : Int) : Ev (fun k => spec_DistanceByTwoSights.f k a b c) (mTwoDist a b c) := by
 obtain ⟨K1, h1⟩ := spec_htSights.ev a b c
 unfold mTwoDist spec_DistanceByTwoSights.f
 by_cases e : mSights a b c = true
 ·obtain ⟨b0, b1, b2, b3⟩ := mSights_iff.1 e
  have p := mul_bd (a := a) (b := c) (A := 2000) (B := 2000) (by omega) (by omega) (by omega) (by omega)
  obtain ⟨K2, h2⟩ := spec_clLow.ev (x := a * c) (y := b - a) (by omega) (by omega) (by omega) (by omega)
  refine ⟨max K1 K2, fun k hk => ?_⟩
  have h1 := h1 k (by omega); have h2 := h2 k (by omega)
  rw [Int.mul_comm c a]
  simp [h1, e, wid (show -9223372036854775808 ≤ a * c by omega) (by omega), wid (show -9223372036854775808 ≤ b - a by omega) (by omega), h2]
 ·refine ⟨K1, fun k hk => ?_⟩
  have h1 := h1 k hk
  simp [h1, e]
theorem impl_DistanceByTwoSights.ev (a b c : Int) : Ev (fun k => impl_DistanceByTwoSights.f k a b c) (mTwoDist a b c) := by
 unfold mTwoDist impl_DistanceByTwoSights.f
 by_cases e : mSights a b c = true
 ·obtain ⟨b0, b1, b2, b3⟩ := mSights_iff.1 e
  have p := mul_bd (a := a) (b := c) (A := 2000) (B := 2000) (by omega) (by omega) (by omega) (by omega)
  obtain ⟨K2, h2⟩ := impl_fraction.ev (a := a * c) (b := b - a) (by omega) (by omega) (by omega) (by omega)
  refine ⟨K2, fun k hk => ?_⟩
  have h2 := h2 k (by omega)
  simp [impl_areSteps.eq, inr_iff.2 b0, inr_iff.2 b1, inr_iff.2 b2, e, show ¬ b ≤ a by omega, wid (show -9223372036854775808 ≤ a * c by omega) (by omega), wid (show -9223372036854775808 ≤ b - a by omega) (by omega), h2]
 ·refine ⟨0, fun k hk => ?_⟩
  dsimp only at *
  rw [if_neg e, impl_areSteps.eq]
  simp only [mSights] at e
  cases e0 : inr 1 2000 a <;> cases e1 : inr 1 2000 b <;> cases e2 : inr 1 2000 c <;> simp [e0, e1, e2] at e ⊢
  intro h; omega
end Go.Proofs.Ytboapeolnlaccaa.P

namespace Go.Proofs.Ytboapeolnlaccaa.P
open Go.RowKit Go.Proofs.YtboapeolnlaccaaW.PrintWords Go.Proofs.YtboapeolnlaccaaW.PrintLast Go.Proofs.YtboapeolnlaccaaW.PrintMore
set_option linter.unusedVariables false
set_option linter.unusedSimpArgs false
def mTwoTower (a b c : Int) : Int × Int × Bool := if mSights a b c = true then (loA c (b - a), loB c (b - a), true) else (0, 0, false)
theorem spec_TowerByTwoSights.ev (a b c : Int) : Ev (fun k => spec_TowerByTwoSights.f k a b c) (mTwoTower a b c) := by
 obtain ⟨K1, h1⟩ := spec_htSights.ev a b c
 unfold mTwoTower spec_TowerByTwoSights.f
 by_cases e : mSights a b c = true
 ·obtain ⟨b0, b1, b2, b3⟩ := mSights_iff.1 e
  obtain ⟨K2, h2⟩ := spec_clLow.ev (x := c) (y := b - a) (by omega) (by omega) (by omega) (by omega)
  refine ⟨max K1 K2, fun k hk => ?_⟩
  have h1 := h1 k (by omega); have h2 := h2 k (by omega)
  simp [h1, e, wid (show -9223372036854775808 ≤ b - a by omega) (by omega), h2]
 ·refine ⟨K1, fun k hk => ?_⟩
  have h1 := h1 k hk
  simp [h1, e]
theorem impl_TowerByTwoSights.ev (a b c : Int) : Ev (fun k => impl_TowerByTwoSights.f k a b c) (mTwoTower a b c) := by
 unfold mTwoTower impl_TowerByTwoSights.f
 by_cases e : mSights a b c = true
 ·obtain ⟨b0, b1, b2, b3⟩ := mSights_iff.1 e
  obtain ⟨K2, h2⟩ := impl_fraction.ev (a := c) (b := b - a) (by omega) (by omega) (by omega) (by omega)
  refine ⟨K2, fun k hk => ?_⟩
  have h2 := h2 k (by omega)
  simp [impl_areSteps.eq, inr_iff.2 b0, inr_iff.2 b1, inr_iff.2 b2, e, show ¬ b ≤ a by omega, wid (show -9223372036854775808 ≤ b - a by omega) (by omega), h2]
 ·refine ⟨0, fun k hk => ?_⟩
  dsimp only at *
  rw [if_neg e, impl_areSteps.eq]
  simp only [mSights] at e
  cases e0 : inr 1 2000 a <;> cases e1 : inr 1 2000 b <;> cases e2 : inr 1 2000 c <;> simp [e0, e1, e2] at e ⊢
  intro h; omega
end Go.Proofs.Ytboapeolnlaccaa.P

namespace Go.Proofs.Ytboapeolnlaccaa.P
open Go.RowKit Go.Proofs.YtboapeolnlaccaaW.PrintWords Go.Proofs.YtboapeolnlaccaaW.PrintLast Go.Proofs.YtboapeolnlaccaaW.PrintMore
set_option linter.unusedVariables false
set_option linter.unusedSimpArgs false
theorem spec_WellDepth.ev (w e i : Int) : Ev (fun k => spec_WellDepth.f k w e i) (mTower e i w) := by
 obtain ⟨K1, h1⟩ := spec_htLong.ev (l := [w, i]) (by simp)
 simp only [List.all_cons, List.all_nil, Bool.and_true] at h1
 cases e0 : inr 1 100 e <;> cases e1 : inr 1 2000 i <;> cases e2 : inr 1 2000 w
 case true.true.true =>
  have b0 := inr_iff.1 e0; have b1 := inr_iff.1 e1; have b2 := inr_iff.1 e2
  have p := mul_bd (a := e) (b := w) (A := 100) (B := 2000) (by omega) (by omega) (by omega) (by omega)
  obtain ⟨K2, h2⟩ := spec_clLow.ev (x := e * w) (y := i) (by omega) (by omega) (by omega) (by omega)
  refine ⟨max K1 K2, fun k hk => ?_⟩
  have h1 := h1 k (by omega); have h2 := h2 k (by omega)
  unfold spec_WellDepth.f mTower
  simp only [e1, e2] at h1
  simp [spec_htStaff.eq, h1, e0, e1, e2, wid (show -9223372036854775808 ≤ e * w by omega) (by omega), h2]
 all_goals
  refine ⟨K1, fun k hk => ?_⟩
  have h1 := h1 k hk
  unfold spec_WellDepth.f mTower
  simp only [e1, e2] at h1
  simp [spec_htStaff.eq, h1, e0, e1, e2]
theorem impl_WellDepth.ev (w e i : Int) : Ev (fun k => impl_WellDepth.f k w e i) (mTower e i w) := by
 unfold impl_WellDepth.f
 exact Ev.bind (impl_TowerByShadow.ev e i w) (Ev.now _)
end Go.Proofs.Ytboapeolnlaccaa.P

namespace Go.Proofs.Ytboapeolnlaccaa.P
open Go.RowKit Go.Proofs.YtboapeolnlaccaaW.PrintWords Go.Proofs.YtboapeolnlaccaaW.PrintLast Go.Proofs.YtboapeolnlaccaaW.PrintMore
set_option linter.unusedVariables false
set_option linter.unusedSimpArgs false
theorem laws_yLow.ev_l (n : Nat) : ∀ a b : Int, b.natAbs ≤ n → 0 ≤ a → 0 ≤ b → Ev (fun k => laws_yLow.l0 k a b) (decide (Int.gcd a b = 1)) := by
 induction n with
 | zero =>
  intro a b hn ha hb
  obtain rfl : b = 0 := by omega
  refine Ev.succ ?_
  simp only [laws_yLow.l0, show ¬ ((0 : Int) > 0) by omega, if_false]
  refine Ev.const ?_
  rw [Int.gcd_zero_right]
  by_cases h : a = 1
  ·subst h; rfl
  ·rw [beq_eq_false_iff_ne.2 h, decide_eq_false (by omega)]
 | succ n ih =>
  intro a b hn ha hb
  by_cases h0 : b = 0
  ·exact ih a b (by omega) ha hb
  ·refine Ev.succ ?_
   simp only [laws_yLow.l0, show b > 0 by omega, h0, if_true, if_false]
   have h1 := Int.tmod_lt_of_pos a (show 0 < b by omega)
   have h2 := Int.tmod_nonneg b ha
   refine ev_eq (ih b (Int.tmod a b) (by omega) hb h2) ?_
   rw [gcd_tmod]
theorem lo_gcd {x y : Int} (hy : 0 < y) : Int.gcd (loA x y) (loB x y) = 1 := by
 have g := gcd_pos (a := x) hy
 have h : Int.gcd (loA x y * (Int.gcd x y : Int)) (loB x y * (Int.gcd x y : Int)) = Int.gcd x y := by rw [lo_mulA, lo_mulB]
 rw [Int.gcd_mul_right] at h
 simp only [Int.natAbs_natCast] at h
 have hp : 0 < Int.gcd x y := by omega
 exact Nat.eq_of_mul_eq_mul_right hp (by rw [h, Nat.one_mul])
theorem laws_yLow.ev {x y : Int} (hx : 0 ≤ x) (hy : 0 < y) : Ev (fun k => laws_yLow.f k (loA x y) (loB x y)) true := by
 have hb := loB_pos (a := x) hy
 have ha := loA_nonneg hx hy
 unfold laws_yLow.f
 simp only [show ¬ (loB x y < 1) by omega, show ¬ (loA x y < 0) by omega, if_false]
 refine Ev.succ ?_
 simp only [laws_yLow.j0]
 exact ev_eq (laws_yLow.ev_l _ _ _ (Nat.le_refl _) ha.1 (by omega)) (decide_eq_true (lo_gcd hy))
theorem lo_cross (x y : Int) : loA x y * y = x * loB x y := by
 have h1 := lo_mulA (a := x) (b := y)
 have h2 := lo_mulB (a := x) (b := y)
 calc loA x y * y = loA x y * (loB x y * (Int.gcd x y : Int)) := by rw [h2]
  _ = loA x y * (Int.gcd x y : Int) * loB x y := by rw [Int.mul_comm (loB x y), Int.mul_assoc]
  _ = x * loB x y := by rw [h1]
theorem laws_yIs.ev {x y u v : Int} (hx : 0 ≤ x) (hx1 : x ≤ 1000000000) (hy : 0 < y) (hy1 : y ≤ 1000000000) (hu : 0 ≤ u ∧ u ≤ 1000000000) (hv : 0 ≤ v ∧ v ≤ 1000000000) (h : loA x y * v = u * loB x y) : Ev (fun k => laws_yIs.f k (loA x y) (loB x y) u v) true := by
 have hb := loB_pos (a := x) hy
 have ha := loA_nonneg hx hy
 unfold laws_yIs.f
 refine Ev.bind (laws_yLow.ev hx hy) ?_
 have p1 := mul_bd (a := loA x y) (b := v) (A := 1000000000) (B := 1000000000) (by omega) (by omega) (by omega) (by omega)
 have p2 := mul_bd (a := u) (b := loB x y) (A := 1000000000) (B := 1000000000) (by omega) (by omega) (by omega) (by omega)
 simp only [if_true]
 rw [wid (show -9223372036854775808 ≤ loA x y * v by omega) (by omega), wid (show -9223372036854775808 ≤ u * loB x y by omega) (by omega), h, beq_self_eq_true]
 exact Ev.now _
end Go.Proofs.Ytboapeolnlaccaa.P

namespace Go.Proofs.Ytboapeolnlaccaa.P
open Go.RowKit Go.Proofs.YtboapeolnlaccaaW.PrintWords Go.Proofs.YtboapeolnlaccaaW.PrintLast Go.Proofs.YtboapeolnlaccaaW.PrintMore
set_option linter.unusedVariables false
set_option linter.unusedSimpArgs false
theorem big_no {l m : List Int} {b : Bool} (h : laws_big.f l m = some b) : True := trivial
theorem mT_iff {a b c : Int} : (inr 1 100 a && (inr 1 2000 b && inr 1 2000 c)) = true ↔ (1 ≤ a ∧ a ≤ 100) ∧ (1 ≤ b ∧ b ≤ 2000) ∧ (1 ≤ c ∧ c ≤ 2000) := by
 simp only [Bool.and_eq_true, inr_iff]
theorem mR_iff {a b c : Int} : (inr 1 2000 a && (inr 1 2000 b && inr 1 2000 c)) = true ↔ (1 ≤ a ∧ a ≤ 2000) ∧ (1 ≤ b ∧ b ≤ 2000) ∧ (1 ≤ c ∧ c ≤ 2000) := by
 simp only [Bool.and_eq_true, inr_iff]
theorem hm_j8 (a b c : Int) : Ev (fun k => laws_FnHeightsMeasured.j8 k a b c (mTwoTower a b c).1 (mTwoTower a b c).2.1 (mTwoTower a b c).2.2 (mTwoDist a b c).1 (mTwoDist a b c).2.1 false) true := by
 refine Ev.succ ?_
 simp only [laws_FnHeightsMeasured.j8, Bool.false_eq_true, if_false]
 unfold mTwoTower mTwoDist
 by_cases h : mSights a b c = true
 ·obtain ⟨h1, h2, h3, h4⟩ := mSights_iff.1 h
  simp only [h, if_true]
  obtain ⟨D, hD⟩ : ∃ D, D = b - a := ⟨_, rfl⟩
  rw [← hD]
  have pac := mul_bd (a := a) (b := c) (A := 2000) (B := 2000) (by omega) (by omega) (by omega) (by omega)
  have v0 := loB_pos (a := c) (b := D) (by omega)
  have u0 := loA_nonneg (a := c) (b := D) (by omega) (by omega)
  have z0 := loB_pos (a := a * c) (b := D) (by omega)
  have y0 := loA_nonneg (a := a * c) (b := D) (by omega) (by omega)
  have cu := lo_cross c D
  have cy := lo_cross (a * c) D
  refine Ev.bind (laws_yLow.ev (by omega) (by omega)) ?_
  have hi := fun q (hq : 0 ≤ q ∧ q ≤ 1000000000) (hh : loA (a * c) D * loB c D = q * loB (a * c) D) => laws_yIs.ev (x := a * c) (y := D) (u := q) (v := loB c D) (by omega) (by omega) (by omega) (by omega) hq (by omega) hh
  generalize hu : loA c D = u at *
  generalize hv : loB c D = v at *
  generalize hy : loA (a * c) D = y at *
  generalize hz : loB (a * c) D = z at *
  have pcv : 0 < c * v := Int.mul_pos (by omega) (by omega)
  have hu1 : ¬ u < 1 := by
   intro hlt
   have e : u = 0 := by omega
   rw [e, Int.zero_mul] at cu
   omega
  simp only [if_true, hu1, if_false]
  have pua := mul_bd (a := u) (b := a) (A := 2000) (B := 2000) (by omega) (by omega) (by omega) (by omega)
  have pub := mul_bd (a := u) (b := b) (A := 2000) (B := 2000) (by omega) (by omega) (by omega) (by omega)
  have pcz := mul_bd (a := c) (b := z) (A := 2000) (B := 2000) (by omega) (by omega) (by omega) (by omega)
  have pyz := mul_bd (a := y + c * z) (b := v) (A := 8000000) (B := 2000) (by omega) (by omega) (by omega) (by omega)
  have pubz := mul_bd (a := u * b) (b := z) (A := 4000000) (B := 2000) (by omega) (by omega) (by omega) (by omega)
  rw [wid (show -9223372036854775808 ≤ u * a by omega) (by omega), wid (show -9223372036854775808 ≤ u * b by omega) (by omega), wid (show -9223372036854775808 ≤ c * z by omega) (by omega), wid (show -9223372036854775808 ≤ y + c * z by omega) (by omega), wid (show -9223372036854775808 ≤ (y + c * z) * v by omega) (by omega), wid (show -9223372036854775808 ≤ u * b * z by omega) (by omega)]
  have hDn : D ≠ 0 := by omega
  refine Ev.bind (hi (u * a) (by omega) (Int.eq_of_mul_eq_mul_right hDn (by grind))) ?_
  have e2 : (y + c * z) * v = u * b * z := by
   refine Int.eq_of_mul_eq_mul_right hDn ?_
   obtain rfl : b = a + D := by omega
   grind
  simp only [if_true, e2]
  exact Ev.now _
 ·simp only [h, Bool.false_eq_true, if_false]
  exact Ev.now _
theorem hm_j7 (a b c : Int) : Ev (fun k => laws_FnHeightsMeasured.j7 k a b c (mRiver a b c).1 (mRiver a b c).2.1 (mRiver a b c).2.2 (mTwoTower a b c).1 (mTwoTower a b c).2.1 (mTwoTower a b c).2.2 (mTwoDist a b c).1 (mTwoDist a b c).2.1 false) true := by
 refine Ev.succ ?_
 simp only [laws_FnHeightsMeasured.j7, Bool.false_eq_true, if_false]
 by_cases h : (inr 1 2000 a && (inr 1 2000 b && inr 1 2000 c)) = true
 ·obtain ⟨h1, h2, h3⟩ := mR_iff.1 h
  have pac := mul_bd (a := a) (b := c) (A := 2000) (B := 2000) (by omega) (by omega) (by omega) (by omega)
  rw [wid (show -9223372036854775808 ≤ a * c by omega) (by omega)]
  rw [show mRiver a b c = (loA (a * c) b, loB (a * c) b, true) from if_pos h]
  simp only [if_true]
  refine Ev.bind (laws_yIs.ev (by omega) (by omega) (by omega) (by omega) (by omega) (by omega) (lo_cross _ _)) ?_
  exact hm_j8 a b c
 ·rw [show mRiver a b c = (0, 0, false) from if_neg h]
  simp only [Bool.false_eq_true, if_false]
  exact hm_j8 a b c
theorem hm_j6 (e f g a b c : Int) : Ev (fun k => laws_FnHeightsMeasured.j6 k e f g (mTower f g e).1 (mTower f g e).2.1 (mTower f g e).2.2 a b c (mRiver a b c).1 (mRiver a b c).2.1 (mRiver a b c).2.2 (mTwoTower a b c).1 (mTwoTower a b c).2.1 (mTwoTower a b c).2.2 (mTwoDist a b c).1 (mTwoDist a b c).2.1 false) true := by
 refine Ev.succ ?_
 simp only [laws_FnHeightsMeasured.j6, Bool.false_eq_true, if_false]
 by_cases h : (inr 1 100 f && (inr 1 2000 g && inr 1 2000 e)) = true
 ·obtain ⟨h1, h2, h3⟩ := mT_iff.1 h
  have pac := mul_bd (a := f) (b := e) (A := 100) (B := 2000) (by omega) (by omega) (by omega) (by omega)
  rw [wid (show -9223372036854775808 ≤ f * e by omega) (by omega)]
  rw [show mTower f g e = (loA (f * e) g, loB (f * e) g, true) from if_pos h]
  simp only [if_true]
  refine Ev.bind (laws_yIs.ev (by omega) (by omega) (by omega) (by omega) (by omega) (by omega) (lo_cross _ _)) ?_
  exact hm_j7 a b c
 ·rw [show mTower f g e = (0, 0, false) from if_neg h]
  simp only [Bool.false_eq_true, if_false]
  exact hm_j7 a b c
theorem hm_j5 (p q r s e f g a b c : Int) : Ev (fun k => laws_FnHeightsMeasured.j5 k p q r s (mStaff p q r s).1 (mStaff p q r s).2.1 (mStaff p q r s).2.2 e f g (mTower f g e).1 (mTower f g e).2.1 (mTower f g e).2.2 a b c (mRiver a b c).1 (mRiver a b c).2.1 (mRiver a b c).2.2 (mTwoTower a b c).1 (mTwoTower a b c).2.1 (mTwoTower a b c).2.2 (mTwoDist a b c).1 (mTwoDist a b c).2.1 false) true := by
 refine Ev.succ ?_
 simp only [laws_FnHeightsMeasured.j5, Bool.false_eq_true, if_false]
 by_cases h : mStaffOk p q r s = true
 ·obtain ⟨h1, h2, h3, h4, h5⟩ := mStaffOk_iff.1 h
  rw [show mStaff p q r s = (loA (p * (r + s) + (q - p) * r) (r + s), loB (p * (r + s) + (q - p) * r) (r + s), true) from if_pos h]
  have p1 := mul_bd (a := p) (b := r + s) (A := 100) (B := 4000) (by omega) (by omega) (by omega) (by omega)
  have p2 := mul_bd (a := q - p) (b := r) (A := 2000) (B := 2000) (by omega) (by omega) (by omega) (by omega)
  have p3 := Int.mul_pos (show 0 < q - p by omega) (show 0 < r by omega)
  have p4 := Int.mul_pos (show 0 < q - p by omega) (show 0 < s by omega)
  simp only [if_true]
  refine Ev.bind (laws_yLow.ev (by omega) (by omega)) ?_
  have j0 := loB_pos (a := p * (r + s) + (q - p) * r) (b := r + s) (by omega)
  have i0 := loA_nonneg (a := p * (r + s) + (q - p) * r) (b := r + s) (by omega) (by omega)
  have cr := lo_cross (p * (r + s) + (q - p) * r) (r + s)
  generalize loA (p * (r + s) + (q - p) * r) (r + s) = i at *
  generalize loB (p * (r + s) + (q - p) * r) (r + s) = j at *
  have ppj := mul_bd (a := p) (b := j) (A := 100) (B := 4000) (by omega) (by omega) (by omega) (by omega)
  have pqj := mul_bd (a := q) (b := j) (A := 2000) (B := 4000) (by omega) (by omega) (by omega) (by omega)
  have k1 : p * j < i := by
   refine Int.lt_of_mul_lt_mul_right (a := r + s) ?_ (by omega)
   have := Int.mul_pos p3 (show 0 < j by omega)
   have e : i * (r + s) = p * j * (r + s) + (q - p) * r * j := by grind
   omega
  have k2 : i < q * j := by
   refine Int.lt_of_mul_lt_mul_right (a := r + s) ?_ (by omega)
   have := Int.mul_pos p4 (show 0 < j by omega)
   have e : q * j * (r + s) = i * (r + s) + (q - p) * s * j := by grind
   omega
  have p5 := mul_bd (a := i - p * j) (b := r + s) (A := 4800000) (B := 4000) (by omega) (by omega) (by omega) (by omega)
  have p6 := mul_bd (a := (q - p) * r) (b := j) (A := 4000000) (B := 4000) (by omega) (by omega) (by omega) (by omega)
  rw [wid (show -9223372036854775808 ≤ p * j by omega) (by omega), wid (show -9223372036854775808 ≤ q * j by omega) (by omega), wid (show -9223372036854775808 ≤ i - p * j by omega) (by omega), wid (show -9223372036854775808 ≤ r + s by omega) (by omega), wid (show -9223372036854775808 ≤ (i - p * j) * (r + s) by omega) (by omega), wid (show -9223372036854775808 ≤ q - p by omega) (by omega), wid (show -9223372036854775808 ≤ (q - p) * r by omega) (by omega), wid (show -9223372036854775808 ≤ (q - p) * r * j by omega) (by omega)]
  rw [show (i - p * j) * (r + s) = (q - p) * r * j by grind]
  simp only [if_true, show ¬ (i ≤ p * j) by omega, show ¬ (i ≥ q * j) by omega, if_false, bne_self_eq_false]
  exact hm_j6 e f g a b c
 ·rw [show mStaff p q r s = (0, 0, false) from if_neg h]
  simp only [Bool.false_eq_true, if_false]
  exact hm_j6 e f g a b c
theorem hm_j4 (x y z p q r s e f g a b c : Int) : Ev (fun k => laws_FnHeightsMeasured.j4 k x y z (mTower x y z).1 (mTower x y z).2.1 (mTower x y z).2.2 p q r s (mStaff p q r s).1 (mStaff p q r s).2.1 (mStaff p q r s).2.2 e f g (mTower f g e).1 (mTower f g e).2.1 (mTower f g e).2.2 a b c (mRiver a b c).1 (mRiver a b c).2.1 (mRiver a b c).2.2 (mTwoTower a b c).1 (mTwoTower a b c).2.1 (mTwoTower a b c).2.2 (mTwoDist a b c).1 (mTwoDist a b c).2.1 false) true := by
 refine Ev.succ ?_
 simp only [laws_FnHeightsMeasured.j4, Bool.false_eq_true, if_false]
 by_cases h : (inr 1 100 x && (inr 1 2000 y && inr 1 2000 z)) = true
 ·obtain ⟨h1, h2, h3⟩ := mT_iff.1 h
  have pac := mul_bd (a := x) (b := z) (A := 100) (B := 2000) (by omega) (by omega) (by omega) (by omega)
  rw [wid (show -9223372036854775808 ≤ x * z by omega) (by omega)]
  rw [show mTower x y z = (loA (x * z) y, loB (x * z) y, true) from if_pos h]
  simp only [if_true]
  refine Ev.bind (laws_yIs.ev (by omega) (by omega) (by omega) (by omega) (by omega) (by omega) (lo_cross _ _)) ?_
  exact hm_j5 p q r s e f g a b c
 ·rw [show mTower x y z = (0, 0, false) from if_neg h]
  simp only [Bool.false_eq_true, if_false]
  exact hm_j5 p q r s e f g a b c
theorem hm_j3 {l : List Int} (hb : Bytes l) : Ev (fun k => laws_FnHeightsMeasured.j3 k l) true := by
 obtain ⟨x, y, z, d1⟩ := drawTower_ok hb
 obtain ⟨p, q, r, s, d2⟩ := drawStaff_ok hb
 obtain ⟨e, f, g, d3⟩ := drawWell_ok hb
 obtain ⟨a, b, c, d4⟩ := drawRiver_ok hb
 refine Ev.succ ?_
 simp only [laws_FnHeightsMeasured.j3]
 refine Ev.bindc d1 ?_
 refine Ev.bind (impl_TowerByShadow.ev x y z) ?_
 refine Ev.bind (spec_TowerByShadow.ev x y z) ?_
 refine Ev.bind (impl_TowerByMirror.ev x y z) ?_
 refine Ev.bind (spec_TowerByMirror.ev x y z) ?_
 refine Ev.bindc d2 ?_
 refine Ev.bind (impl_StaffForTree.ev p q r s) ?_
 refine Ev.bind (spec_StaffForTree.ev p q r s) ?_
 refine Ev.bindc d3 ?_
 refine Ev.bind (impl_WellDepth.ev e f g) ?_
 refine Ev.bind (spec_WellDepth.ev e f g) ?_
 refine Ev.bindc d4 ?_
 refine Ev.bind (impl_RiverWide.ev a b c) ?_
 refine Ev.bind (spec_RiverWide.ev a b c) ?_
 refine Ev.bind (impl_TowerByTwoSights.ev a b c) ?_
 refine Ev.bind (spec_TowerByTwoSights.ev a b c) ?_
 refine Ev.bind (impl_DistanceByTwoSights.ev a b c) ?_
 refine Ev.bind (spec_DistanceByTwoSights.ev a b c) ?_
 have hs : (mTwoDist a b c).2.2 = (mTwoTower a b c).2.2 := by
  unfold mTwoDist mTwoTower
  by_cases h : mSights a b c = true
  ·rw [if_pos h, if_pos h]
  ·rw [if_neg h, if_neg h]
 simp only [bne_self_eq_false, Bool.false_eq_true, if_false, if_true, hs]
 exact hm_j4 x y z p q r s e f g a b c
theorem hm_j0 {l : List Int} (hb : Bytes l) (a b c d : Int) : Ev (fun k => laws_FnHeightsMeasured.j0 k l a b c d (mTree a b c d).1 (mTree a b c d).2.1 (mTree a b c d).2.2 false) true := by
 refine Ev.succ ?_
 simp only [laws_FnHeightsMeasured.j0, Bool.false_eq_true, if_false]
 by_cases h : mTreeOk a b c d = true
 ·obtain ⟨h1, h2, h3, h4, h5⟩ := mTreeOk_iff.1 h
  rw [show mTree a b c d = (loA (a * c + (b - a) * (c + d)) c, loB (a * c + (b - a) * (c + d)) c, true) from if_pos h]
  have p1 := mul_bd (a := a) (b := c) (A := 100) (B := 2000) (by omega) (by omega) (by omega) (by omega)
  have p2 := mul_bd (a := b - a) (b := c + d) (A := 100) (B := 4000) (by omega) (by omega) (by omega) (by omega)
  have p3 := Int.mul_pos (show 0 < b - a by omega) (show 0 < c + d by omega)
  have p4 := Int.mul_pos (show 0 < b - a by omega) (show 0 < d by omega)
  simp only [if_true]
  refine Ev.bind (laws_yLow.ev (by omega) (by omega)) ?_
  have j0 := loB_pos (a := a * c + (b - a) * (c + d)) (b := c) (by omega)
  have i0 := loA_nonneg (a := a * c + (b - a) * (c + d)) (b := c) (by omega) (by omega)
  have cr := lo_cross (a * c + (b - a) * (c + d)) c
  generalize loA (a * c + (b - a) * (c + d)) c = i at *
  generalize loB (a * c + (b - a) * (c + d)) c = j at *
  have pbj := mul_bd (a := b) (b := j) (A := 100) (B := 2000) (by omega) (by omega) (by omega) (by omega)
  have paj := mul_bd (a := a) (b := j) (A := 100) (B := 2000) (by omega) (by omega) (by omega) (by omega)
  have k1 : b * j < i := by
   refine Int.lt_of_mul_lt_mul_right (a := c) ?_ (by omega)
   have := Int.mul_pos p4 (show 0 < j by omega)
   have e : i * c = b * j * c + (b - a) * d * j := by grind
   omega
  have k2 : a * j ≤ b * j := Int.mul_le_mul_of_nonneg_right (by omega) (by omega)
  have p5 := mul_bd (a := i - a * j) (b := c) (A := 600000) (B := 2000) (by omega) (by omega) (by omega) (by omega)
  have p6 := mul_bd (a := (b - a) * (c + d)) (b := j) (A := 400000) (B := 2000) (by omega) (by omega) (by omega) (by omega)
  rw [wid (show -9223372036854775808 ≤ b * j by omega) (by omega), wid (show -9223372036854775808 ≤ a * j by omega) (by omega), wid (show -9223372036854775808 ≤ i - a * j by omega) (by omega), wid (show -9223372036854775808 ≤ c + d by omega) (by omega), wid (show -9223372036854775808 ≤ (i - a * j) * c by omega) (by omega), wid (show -9223372036854775808 ≤ b - a by omega) (by omega), wid (show -9223372036854775808 ≤ (b - a) * (c + d) by omega) (by omega), wid (show -9223372036854775808 ≤ (b - a) * (c + d) * j by omega) (by omega)]
  rw [show (i - a * j) * c = (b - a) * (c + d) * j by grind]
  simp only [if_true, show ¬ (i ≤ b * j) by omega, if_false, bne_self_eq_false]
  refine Ev.succ ?_
  simp only [laws_FnHeightsMeasured.j1, Bool.false_eq_true, if_false]
  by_cases hj : j = 1
  ·simp only [hj, if_true]
   refine Ev.succ ?_
   simp only [laws_FnHeightsMeasured.j2]
   by_cases hi : i ≤ 2000
   ·simp only [hi, decide_true, if_true]
    refine Ev.bind (impl_StaffForTree.ev a i c d) ?_
    have hai : a < i := by rw [hj] at k1; omega
    rw [show mStaff a i c d = (loA (a * (c + d) + (i - a) * c) (c + d), loB (a * (c + d) + (i - a) * c) (c + d), true) from if_pos (mStaffOk_iff.2 ⟨by omega, by omega, by omega, by omega, hai⟩)]
    simp only [if_true]
    have p7 := mul_bd (a := b) (b := c + d) (A := 100) (B := 4000) (by omega) (by omega) (by omega) (by omega)
    have e : a * (c + d) + (i - a) * c = b * (c + d) := by rw [hj] at cr; grind
    rw [e]
    have cx := lo_cross (b * (c + d)) (c + d)
    refine Ev.bind (laws_yIs.ev (by omega) (by omega) (by omega) (by omega) (by omega) (by omega) (Int.eq_of_mul_eq_mul_right (show c + d ≠ 0 by omega) (by grind))) ?_
    simp only [if_true]
    exact hm_j3 hb
   ·simp only [hi, decide_false, Bool.false_eq_true, if_false]
    exact hm_j3 hb
  ·simp only [hj, if_false]
   refine Ev.succ ?_
   simp only [laws_FnHeightsMeasured.j2, Bool.false_eq_true, if_false]
   exact hm_j3 hb
 ·rw [show mTree a b c d = (0, 0, false) from if_neg h]
  simp only [Bool.false_eq_true, if_false]
  exact hm_j3 hb
end Go.Proofs.Ytboapeolnlaccaa.P

namespace Go.Proofs.Ytboapeolnlaccaa.Pure
open Go.RowKit Go.Proofs.YtboapeolnlaccaaW.PrintWords Go.Proofs.YtboapeolnlaccaaW.PrintLast Go.Proofs.YtboapeolnlaccaaW.PrintMore Go.Proofs.Ytboapeolnlaccaa.P
set_option linter.unusedVariables false
set_option linter.unusedSimpArgs false
theorem FnHeightsMeasured : laws_FnHeightsMeasured.Pure := fun l0 l1 _ _ hb0 _ _ hb1 => by
 refine Ev.rounds ?_
 unfold laws_FnHeightsMeasured.f
 obtain ⟨t, ht⟩ : ∃ t, laws_big.f l0 l1 = some t := by unfold laws_big.f; split <;> exact ⟨_, rfl⟩
 refine Ev.bindc ht ?_
 cases t with
 | true => simp only [if_true]; exact Ev.now _
 | false =>
  simp only [Bool.false_eq_true, if_false]
  obtain ⟨a, b, c, d, e⟩ := drawTree_ok hb0
  refine Ev.bindc e ?_
  refine Ev.bind (impl_TreeByStaff.ev a b c d) ?_
  refine Ev.bind (spec_TreeByStaff.ev a b c d) ?_
  simp only [bne_self_eq_false, Bool.false_eq_true, if_false, if_true]
  exact hm_j0 hb1 a b c d
end Go.Proofs.Ytboapeolnlaccaa.Pure

namespace Go.Proofs.Ytboapeolnlaccaa.fnHeightsMeasured
open Go.ChangeShapes Go.WideShapes Go.ChangeAt Go.RowKit
open Go.ChangeMaps (open_string shut_string)
set_option linter.unusedVariables false
theorem own : ownKnob Try.prog.godebug = none := by kernel_rfl
theorem laidOut : laidOutB Try.prog = true := by kernel_rfl
def IsRow (k : IntKind) (w : World) (a : Option Addr) (len cap : Nat) (zs : List Int) : Prop :=
 (a = none ∧ len = 0 ∧ cap = 0 ∧ zs = []) ∨
 ∃ x, a = some x ∧ len ≤ cap ∧ cap ≤ maxLen ∧ zs.length = cap ∧ (∀ i, i < zs.length → w.cell? (x.add i) = some (.int k (zs.getD i 0))) ∧ ∀ n ∈ zs, (Lit.int k n).wf = true
set_option maxRecDepth 100000 in
theorem lifted (os : Os) (started : os.Started) (H : Type) (enc : TypeId × Value → H) :
  ReturnsInHanded {} Try.checked os 3 .any (Rows.fnHeightsMeasuredSpec.pre6 enc Try.prog Try.f3 Rows.fnHeightsMeasuredRow.domain false) (Rows.fnHeightsMeasuredSpec.post enc Try.prog Try.f3 false true false false) := by
 refine returnsInHanded_of_change_sized (C := Try.checked) own started (by kernel_rfl) Try.func3
  (ChangeSpec.witness6 (enc := enc) (C := Try.checked) false ⟨#[], #[.slice none 0 0, .slice none 0 0], []⟩ 8 (by kernel_rfl) (by kernel_rfl) (by kernel_rfl) (by kernel_rfl)) ?_
 intro W base args ds gs before hval0 hW hcnd hsz0 _
 have hsz : (DataW.weightsEach Try.prog (Try.f3.params.toList ++ Rows.fnHeightsMeasuredSpec.plain.varTypes Try.prog) (ds ++ gs)).all (· ≤ reachBytes) = true := hsz0
 have hval : ∀ (j : Nat) t v, Try.f3.params[j]? = some t → args[j]? = some v → Value.okWide Try.prog W .any base t v := hval0
 have hW' := hW
 obtain ⟨p, q, hA0, hV, rfl, hfz, hnd⟩ := hW
 have hA : DataW.TrodAll enc Try.prog W 0 (fun _ => true) true Try.f3.params.toList args.toList ds p := hA0
 rw [Try.params3] at hA hval hsz
 obtain ⟨v0, vs0, d0, ds0, p0, q0, hargs, rfl, rfl, h0, r0⟩ := trodAll_cons hA
 obtain ⟨v1, vs1, d1, ds1, p1, q1, rfl, rfl, rfl, h1, r1⟩ := trodAll_cons r0
 obtain ⟨rfl, rfl, rfl⟩ := trodAll_nil r1
 obtain rfl : args = #[v0, v1] := by cases args; simp_all
 obtain ⟨rfl, rfl⟩ := trodVars_none hV
 obtain ⟨a0, len0, cap0, rfl⟩ := okWide_slice Try.underlying22 (hval 0 22 v0 rfl rfl)
 have k0 := h0
 have lt0 : ∀ x ∈ p0, x.block < W.heap.size := by obtain ⟨m, hm⟩ := k0; exact DataW.trod_lt m _ _ _ hm
 obtain ⟨z0, w0⟩ : ∃ zs, IsRow .u8 W a0 len0 cap0 zs := by
  obtain ⟨fuel, hf⟩ := h0
  rcases open_ints Try.underlying22 Try.underlying5 (by kernel_rfl) hf with ⟨hcs, _⟩ | ⟨x, l, c, zs, hcs, _, hl, hm, hz, _, hcell, hwz⟩
  ·simp [Value.cells] at hcs
   obtain ⟨rfl, rfl, rfl⟩ := hcs
   exact ⟨[], .inl ⟨rfl, rfl, rfl, rfl⟩⟩
  ·simp [Value.cells] at hcs
   obtain ⟨rfl, rfl, rfl⟩ := hcs
   exact ⟨zs, .inr ⟨_, rfl, hl, hm, by simpa using hz, hcell, hwz⟩⟩
 have y0 : len0 * 1 ≤ 140737488351232 := Go.Proofs.YtboapeolnlaccaaW.PrintWords.sized_ints hsz (j := 0) (t := 22) rfl rfl Try.underlying22 Try.underlying5 (by kernel_rfl) (by kernel_rfl) h0
 obtain ⟨a1, len1, cap1, rfl⟩ := okWide_slice Try.underlying22 (hval 1 22 v1 rfl rfl)
 have k1 := h1
 have lt1 : ∀ x ∈ p1, x.block < W.heap.size := by obtain ⟨m, hm⟩ := k1; exact DataW.trod_lt m _ _ _ hm
 obtain ⟨z1, w1⟩ : ∃ zs, IsRow .u8 W a1 len1 cap1 zs := by
  obtain ⟨fuel, hf⟩ := h1
  rcases open_ints Try.underlying22 Try.underlying5 (by kernel_rfl) hf with ⟨hcs, _⟩ | ⟨x, l, c, zs, hcs, _, hl, hm, hz, _, hcell, hwz⟩
  ·simp [Value.cells] at hcs
   obtain ⟨rfl, rfl, rfl⟩ := hcs
   exact ⟨[], .inl ⟨rfl, rfl, rfl, rfl⟩⟩
  ·simp [Value.cells] at hcs
   obtain ⟨rfl, rfl, rfl⟩ := hcs
   exact ⟨zs, .inr ⟨_, rfl, hl, hm, by simpa using hz, hcell, hwz⟩⟩
 have y1 : len1 * 1 ≤ 140737488351232 := Go.Proofs.YtboapeolnlaccaaW.PrintWords.sized_ints hsz (j := 1) (t := 22) rfl rfl Try.underlying22 Try.underlying5 (by kernel_rfl) (by kernel_rfl) h1
 clear hA0 hval0 hsz0 hsz
 refine (P.laws_FnHeightsMeasured.walk Pure.FnHeightsMeasured a0 len0 cap0 z0 a1 len1 cap1 z1 W w0 y0 w1 y1).mono fun e W' ⟨he, bel⟩ => ?_
 subst he
 exact ⟨_, rfl, _, _, _, [], _, [], hW', trodAll_mk1 (shut_bool Try.underlying4 _), (trodAll_cons_mk (Below.trod laidOut (by kernel_rfl) (of_decide_eq_true (by kernel_rfl)) k0 bel lt0) (trodAll_cons_mk (Below.trod laidOut (by kernel_rfl) (of_decide_eq_true (by kernel_rfl)) k1 bel lt1) trodAll_mk0)), rfl, bel.frame _, fun h => by cases h⟩
theorem over : Rows.fnHeightsMeasuredRow.holds Try.pinned (OpenSpec.ofChange Rows.fnHeightsMeasuredSpec) :=
 OpenClaim.holds_of_wide 3 Try.f3 rfl rfl rfl rfl rfl rfl rfl ⟨rfl, rfl, rfl, rfl, rfl⟩ rfl rfl rfl rfl rfl (by kernel_rfl) Try.func3 (by kernel_rfl)
  (of_decide_eq_true (by kernel_rfl)) (by unfold Func.isWrapper; first | (rw [if_pos (by decide +kernel)]; kernel_rfl) | (rw [if_neg (by decide +kernel)]; exact ⟨rfl, rfl⟩))
  (fun os started H enc _ => lifted os started H enc)
theorem proved : Rows.FnHeightsMeasuredSaid := over
end Go.Proofs.Ytboapeolnlaccaa.fnHeightsMeasured
namespace Go.Proofs.Ytboapeolnlaccaa
/-- The row, under a short name, for the claim. -/
theorem fnHeightsMeasured_holds : Rows.FnHeightsMeasuredSaid := fnHeightsMeasured.proved
end Go.Proofs.Ytboapeolnlaccaa
