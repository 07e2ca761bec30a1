/- The law FnShadowsCast is proved: a call of it returns true and leaves its arguments as they were; and what this needs. Every input that the given rows speak of; nothing else is asked. -/
import Derived.Test.YtdlcefclefbdjaaOFnShadowsCast0
import Derived.Test.YtdlcefclefbdjaaOFnShadowsCast1
import Derived.Test.YtdlcefclefbdjaaOFnShadowsCast2
import Derived.Test.YtdlcefclefbdjaaRows
import Derived.WalkKit
import Derived.ProofKit
import Derived.OpenShut
import Derived.ShutString
import Derived.ChangeOld
import Derived.Below
import Derived.SizedLaws
import Derived.Test.YtdlcefclefbdjaaWSized
namespace Go.Proofs.Ytdlcefclefbdjaa.P
open Go.RowKit Go.Proofs.YtdlcefclefbdjaaW.PrintWords Go.Proofs.YtdlcefclefbdjaaW.PrintLast Go.Proofs.YtdlcefclefbdjaaW.PrintMore
set_option linter.unusedVariables false
set_option linter.unusedSimpArgs false
theorem wid {x : Int} (h0 : -9223372036854775808 ≤ x) (h1 : x ≤ 9223372036854775807) : wrap64 x = x := by unfold wrap64; omega
/-- lo ≤ n ≤ hi, as a Bool. -/
def inr (lo hi n : Int) : Bool := decide (lo ≤ n) && decide (n ≤ hi)
theorem inr_iff {lo hi n : Int} : inr lo hi n = true ↔ lo ≤ n ∧ n ≤ hi := by unfold inr; simp
theorem mul_bd {a b A B : Int} (h0 : 0 ≤ a) (h1 : a ≤ A) (h2 : 0 ≤ b) (h3 : b ≤ B) : 0 ≤ a * b ∧ a * b ≤ A * B :=
 ⟨Int.mul_nonneg h0 h2, Int.mul_le_mul h1 h3 h2 (by omega)⟩
theorem ev_eq {α : Type} {g : Nat → Option α} {r s : α} (h : Ev g r) (e : r = s) : Ev g s := e ▸ h
/-- A row of rounds that doesn't hang on the rounds. -/
theorem Ev.const {α : Type} {g : Option α} {r : α} (h : g = some r) : Ev (fun _ => g) r := ⟨0, fun _ _ => h⟩
theorem all1 {p : Int → Bool} {a : Int} : [a].all p = p a := by simp
theorem rd_cons0 (x : Int) (l : List Int) : rd (x :: l) 0 = x := rfl
end Go.Proofs.Ytdlcefclefbdjaa.P

namespace Go.Proofs.Ytdlcefclefbdjaa.P
open Go.RowKit Go.Proofs.YtdlcefclefbdjaaW.PrintWords Go.Proofs.YtdlcefclefbdjaaW.PrintLast Go.Proofs.YtdlcefclefbdjaaW.PrintMore
set_option linter.unusedVariables false
set_option linter.unusedSimpArgs false
def Bytes (l : List Int) : Prop := ∀ x ∈ l, (Lit.int .u8 x).wf = true
theorem rd_byte {l : List Int} (hb : Bytes l) {p : Int} (h0 : 0 ≤ p) (h1 : p < (l.length : Int)) : 0 ≤ rd l p ∧ rd l p ≤ 255 := by
 have hm : rd l p ∈ l := by
  unfold rd
  rw [List.getD_eq_getElem?_getD, List.getElem?_eq_getElem (show p.toNat < l.length by omega)]
  exact List.getElem_mem _
 have h := hb _ hm
 simp only [Lit.wf, Bool.and_eq_true, decide_eq_true_eq] at h
 exact ⟨h.1, h.2⟩
theorem and255 (x : Int) (h0 : 0 ≤ x) (h1 : x < 18446744073709551616) : Go.bits .and .u64 x 255 = x % 256 := by
 have h := bits_mask .u64 64 (by decide) (fun n h0 h1 => by rw [IntKind.wrap_u64]; omega) 8 (by decide) x h0 (by omega)
 simpa using h
theorem next_ok {l : List Int} (hb : Bytes l) {p s : Int} (h0 : 0 ≤ p) (h1 : p ≤ 1152921504606846976) : ∃ b s', spec_l1Cur_next.f l p s = some (b, p + 1, s') ∧ 0 ≤ b ∧ b ≤ 255 := by
 unfold spec_l1Cur_next.f
 rw [wid (show -9223372036854775808 ≤ p + 1 by omega) (by omega)]
 have hw : ∀ y : Int, 0 ≤ wrap64 (Go.bits .and .u64 (IntKind.u64.wrap y / 1099511627776) 255) ∧ wrap64 (Go.bits .and .u64 (IntKind.u64.wrap y / 1099511627776) 255) ≤ 255 := by
  intro y
  have hy : 0 ≤ IntKind.u64.wrap y ∧ IntKind.u64.wrap y < 18446744073709551616 := by rw [IntKind.wrap_u64]; omega
  rw [and255 _ (by omega) (by omega), wid (by omega) (by omega)]
  omega
 by_cases c1 : p < (l.length : Int)
 ·have hr := rd_byte hb h0 c1
  simp only [c1, h0, if_true, show p + 1 ≤ (l.length : Int) by omega]
  exact ⟨_, _, rfl, by rw [wid (by omega) (by omega)]; exact hr⟩
 ·simp only [c1, if_false, show ¬ (p + 1 ≤ (l.length : Int)) by omega]
  exact ⟨_, _, rfl, hw _⟩
theorem pick_ok {l : List Int} (hb : Bytes l) {p s : Int} (h0 : 0 ≤ p) (h1 : p ≤ 1152921504606840000) (n : Int) (hn : 0 < n) : ∃ x p' s', spec_l1Cur_pick.f l p s n = some (x, p', s') ∧ (0 ≤ x ∧ x < n) ∧ p ≤ p' ∧ p' ≤ p + 2 := by
 unfold spec_l1Cur_pick.f
 by_cases c : n ≤ 1
 ·simp only [c, if_true]
  exact ⟨_, _, _, rfl, by omega, by omega, by omega⟩
 ·obtain ⟨b, s1, e1, hb0, hb1⟩ := next_ok hb (s := s) h0 (by omega)
  simp only [c, if_false, e1, Option.bind_some, show ¬ n = 0 by omega]
  by_cases c2 : n > 200
  ·obtain ⟨b2, s2, e2, hb2, hb3⟩ := next_ok hb (p := p + 1) (s := s1) (by omega) (by omega)
   simp only [c2, if_true, e2, Option.bind_some]
   rw [wid (show -9223372036854775808 ≤ b * 256 by omega) (by omega), wid (show -9223372036854775808 ≤ b * 256 + b2 by omega) (by omega)]
   exact ⟨_, _, _, rfl, ⟨Int.tmod_nonneg _ (by omega), Int.tmod_lt_of_pos _ hn⟩, by omega, by omega⟩
  ·simp only [c2, if_false]
   exact ⟨_, _, _, rfl, ⟨Int.tmod_nonneg _ (by omega), Int.tmod_lt_of_pos _ hn⟩, by omega, by omega⟩
theorem one_ok {l : List Int} (hb : Bytes l) {p s : Int} (h0 : 0 ≤ p) (h1 : p ≤ 1152921504606840000) (n : Int) (hn : 0 < n) : ∃ x p' s', spec_l1Cur_one.f l p s n = some (x, p', s') ∧ p ≤ p' ∧ p' ≤ p + 2 := by
 obtain ⟨x, p', s', e, _, h2, h3⟩ := pick_ok hb (s := s) h0 h1 n hn
 unfold spec_l1Cur_one.f
 rw [e]
 exact ⟨_, _, _, rfl, h2, h3⟩
theorem among_ok {l : List Int} (hb : Bytes l) {p s : Int} (h0 : 0 ≤ p) (h1 : p ≤ 1152921504606840000) (L : List Int) (hL : 0 < L.length) : ∃ x p' s', spec_l1Cur_among.f l p s L = some (x, p', s') ∧ p ≤ p' ∧ p' ≤ p + 2 := by
 obtain ⟨x, p', s', e, hx, h2, h3⟩ := pick_ok hb (s := s) h0 h1 (L.length : Int) (by omega)
 unfold spec_l1Cur_among.f
 rw [e]
 simp only [Option.bind_some, hx.1, hx.2, if_true]
 exact ⟨_, _, _, rfl, h2, h3⟩
end Go.Proofs.Ytdlcefclefbdjaa.P

namespace Go.Proofs.Ytdlcefclefbdjaa.P
open Go.RowKit Go.Proofs.YtdlcefclefbdjaaW.PrintWords Go.Proofs.YtdlcefclefbdjaaW.PrintLast Go.Proofs.YtdlcefclefbdjaaW.PrintMore
set_option linter.unusedVariables false
set_option linter.unusedSimpArgs false
theorem lamp_ok {l : List Int} (hb : Bytes l) {p s : Int} (h0 : 0 ≤ p) (h1 : p ≤ 1152921504606830000) : ∃ x p' s', spec_l1Cur_lamp.f l p s = some (x, p', s') ∧ p ≤ p' ∧ p' ≤ p + 4 := by
 obtain ⟨x, p1, s1, e1, h2, h3⟩ := one_ok hb (s := s) h0 (by omega) 14 (by omega)
 unfold spec_l1Cur_lamp.f
 rw [e1]
 simp only [Option.bind_some]
 cases x with
 | true =>
  obtain ⟨y, p2, s2, e2, h4, h5⟩ := among_ok hb (p := p1) (s := s1) (by omega) (by omega) [0, 1, -1, 200, 201, 4611686018427387904] (by simp)
  simp only [if_true, e2, Option.bind_some]
  exact ⟨_, _, _, rfl, by omega, by omega⟩
 | false =>
  obtain ⟨y, p2, s2, e2, _, h4, h5⟩ := pick_ok hb (p := p1) (s := s1) (by omega) (by omega) 9 (by omega)
  simp only [Bool.false_eq_true, if_false, e2, Option.bind_some]
  exact ⟨_, _, _, rfl, by omega, by omega⟩
theorem shadow_ok {l : List Int} (hb : Bytes l) {p s : Int} (h0 : 0 ≤ p) (h1 : p ≤ 1152921504606830000) : ∃ x p' s', spec_l1Cur_shadow.f l p s = some (x, p', s') ∧ p ≤ p' ∧ p' ≤ p + 4 := by
 obtain ⟨x, p1, s1, e1, h2, h3⟩ := one_ok hb (s := s) h0 (by omega) 12 (by omega)
 unfold spec_l1Cur_shadow.f
 rw [e1]
 simp only [Option.bind_some]
 cases x with
 | true =>
  obtain ⟨y, p2, s2, e2, h4, h5⟩ := among_ok hb (p := p1) (s := s1) (by omega) (by omega) [0, -1, 500, 501, 4611686018427387904] (by simp)
  simp only [if_true, e2, Option.bind_some]
  exact ⟨_, _, _, rfl, by omega, by omega⟩
 | false =>
  obtain ⟨y, p2, s2, e2, _, h4, h5⟩ := pick_ok hb (p := p1) (s := s1) (by omega) (by omega) 12 (by omega)
  simp only [Bool.false_eq_true, if_false, e2, Option.bind_some]
  exact ⟨_, _, _, rfl, by omega, by omega⟩
theorem pole_ok {l : List Int} (hb : Bytes l) {p s : Int} (h0 : 0 ≤ p) (h1 : p ≤ 1152921504606830000) : ∃ x y p' s', spec_l1Cur_pole.f l p s = some (x, y, p', s') ∧ p ≤ p' ∧ p' ≤ p + 8 := by
 obtain ⟨x, p1, s1, e1, _, h2, h3⟩ := pick_ok hb (s := s) h0 (by omega) 12 (by omega)
 obtain ⟨y, p2, s2, e2, _, h4, h5⟩ := pick_ok hb (p := p1) (s := s1) (by omega) (by omega) 3 (by omega)
 obtain ⟨z, p3, s3, e3, _, h6, h7⟩ := pick_ok hb (p := p2) (s := s2) (by omega) (by omega) 14 (by omega)
 unfold spec_l1Cur_pole.f spec_l1Cur_surePole.f
 simp only [e1, e2, e3, Option.bind_some]
 by_cases c0 : z = 0
 ·obtain ⟨a, p4, s4, e4, h8, h9⟩ := among_ok hb (p := p3) (s := s3) (by omega) (by omega) [0, -1, 500, 501, 4611686018427387904] (by simp)
  simp only [c0, if_true, e4, Option.bind_some]
  exact ⟨_, _, _, _, rfl, by omega, by omega⟩
 ·by_cases c1 : z = 1
  ·obtain ⟨a, p4, s4, e4, h8, h9⟩ := among_ok hb (p := p3) (s := s3) (by omega) (by omega) [0, -1, 6, 200, 201, 4611686018427387904] (by simp)
   simp only [c1, show ¬ ((1 : Int) = 0) by omega, if_false, if_true, e4, Option.bind_some]
   exact ⟨_, _, _, _, rfl, by omega, by omega⟩
  ·simp only [c0, c1, if_false]
   exact ⟨_, _, _, _, rfl, by omega, by omega⟩
end Go.Proofs.Ytdlcefclefbdjaa.P

namespace Go.Proofs.Ytdlcefclefbdjaa.P
open Go.RowKit Go.Proofs.YtdlcefclefbdjaaW.PrintWords Go.Proofs.YtdlcefclefbdjaaW.PrintLast Go.Proofs.YtdlcefclefbdjaaW.PrintMore
set_option linter.unusedVariables false
set_option linter.unusedSimpArgs false
theorem drawWall_ok {l : List Int} (hb : Bytes l) : ∃ a b c d, spec_DrawShadowOnWall.f l = some (a, b, c, d) := by
 obtain ⟨x1, p1, s1, e1, _, _⟩ := lamp_ok hb (p := 0) (s := 0) (by omega) (by omega)
 obtain ⟨x2, y2, p2, s2, e2, _, _⟩ := pole_ok hb (p := p1) (s := s1) (by omega) (by omega)
 obtain ⟨x3, p3, s3, e3, _, _, _⟩ := pick_ok hb (p := p2) (s := s2) (by omega) (by omega) 9 (by omega)
 have e4 : ∃ z, spec_l1Least.f x2 500 = some z := by unfold spec_l1Least.f; split <;> exact ⟨_, rfl⟩
 obtain ⟨z, e4⟩ := e4
 unfold spec_DrawShadowOnWall.f
 simp only [e1, e2, e3, e4, Option.bind_some]
 exact ⟨_, _, _, _, rfl⟩
theorem drawSun_ok {l : List Int} (hb : Bytes l) : ∃ a b c, spec_DrawSunShadow.f l = some (a, b, c) := by
 obtain ⟨x1, p1, s1, e1, _, _⟩ := lamp_ok hb (p := 0) (s := 0) (by omega) (by omega)
 obtain ⟨x2, p2, s2, e2, _, _⟩ := shadow_ok hb (p := p1) (s := s1) (by omega) (by omega)
 obtain ⟨x3, p3, s3, e3, _, _⟩ := shadow_ok hb (p := p2) (s := s2) (by omega) (by omega)
 unfold spec_DrawSunShadow.f
 simp only [e1, e2, e3, Option.bind_some]
 exact ⟨_, _, _, rfl⟩
theorem drawLampOf_ok {l : List Int} (hb : Bytes l) : ∃ a b c, spec_DrawLampOfShadow.f l = some (a, b, c) := by
 obtain ⟨x2, y2, p2, s2, e2, _, _⟩ := pole_ok hb (p := 0) (s := 0) (by omega) (by omega)
 obtain ⟨x3, p3, s3, e3, _, _⟩ := shadow_ok hb (p := p2) (s := s2) (by omega) (by omega)
 unfold spec_DrawLampOfShadow.f
 simp only [e2, e3, Option.bind_some]
 exact ⟨_, _, _, rfl⟩
theorem drawPoleOf_ok {l : List Int} (hb : Bytes l) : ∃ a b c, spec_DrawPoleOfShadow.f l = some (a, b, c) := by
 obtain ⟨x1, p1, s1, e1, _, _⟩ := lamp_ok hb (p := 0) (s := 0) (by omega) (by omega)
 obtain ⟨x2, p2, s2, e2, _, _⟩ := shadow_ok hb (p := p1) (s := s1) (by omega) (by omega)
 obtain ⟨x3, p3, s3, e3, _, _⟩ := shadow_ok hb (p := p2) (s := s2) (by omega) (by omega)
 unfold spec_DrawPoleOfShadow.f
 simp only [e1, e2, e3, Option.bind_some]
 exact ⟨_, _, _, rfl⟩
theorem drawPlaceOf_ok {l : List Int} (hb : Bytes l) : ∃ a b c, spec_DrawPlaceOfShadow.f l = some (a, b, c) := by
 obtain ⟨x1, p1, s1, e1, _, _⟩ := lamp_ok hb (p := 0) (s := 0) (by omega) (by omega)
 obtain ⟨x2, p2, s2, e2, _, _⟩ := among_ok hb (p := p1) (s := s1) (by omega) (by omega) [1, 2, 3, 5, 12, 0, -1] (by simp)
 obtain ⟨x3, p3, s3, e3, _, _⟩ := shadow_ok hb (p := p2) (s := s2) (by omega) (by omega)
 unfold spec_DrawPlaceOfShadow.f
 simp only [e1, e2, e3, Option.bind_some]
 exact ⟨_, _, _, rfl⟩
theorem drawSlope_ok {l : List Int} (hb : Bytes l) : ∃ a b, spec_DrawSunSlope.f l = some (a, b) := by
 obtain ⟨x1, p1, s1, e1, _, _⟩ := lamp_ok hb (p := 0) (s := 0) (by omega) (by omega)
 obtain ⟨x2, p2, s2, e2, _, _⟩ := shadow_ok hb (p := p1) (s := s1) (by omega) (by omega)
 unfold spec_DrawSunSlope.f
 simp only [e1, e2, Option.bind_some]
 exact ⟨_, _, rfl⟩
end Go.Proofs.Ytdlcefclefbdjaa.P

namespace Go.Proofs.Ytdlcefclefbdjaa.P
open Go.RowKit Go.Proofs.YtdlcefclefbdjaaW.PrintWords Go.Proofs.YtdlcefclefbdjaaW.PrintLast Go.Proofs.YtdlcefclefbdjaaW.PrintMore
set_option linter.unusedVariables false
set_option linter.unusedSimpArgs false
theorem Ev.succ {α : Type} {g : Nat → Option α} {r : α} (h : Ev (fun k => g (k + 1)) r) : Ev g r := Ev.step (fun _ => rfl) h
theorem Ev.ite {α : Type} {c : Prop} [Decidable c] {g f : Nat → Option α} {r s : α} (h1 : c → Ev g r) (h2 : ¬ c → Ev f s) : Ev (fun k => if c then g k else f k) (if c then r else s) := by
 by_cases h : c
 ·simp only [if_pos h]; exact h1 h
 ·simp only [if_neg h]; exact h2 h
theorem Ev.bindc {α β : Type} {g : Option α} {f : Nat → α → Option β} {a : α} {r : β} (h : g = some a) (k : Ev (fun n => f n a) r) : Ev (fun n => g.bind (f n)) r := by
 subst h; exact k
end Go.Proofs.Ytdlcefclefbdjaa.P

namespace Go.Proofs.Ytdlcefclefbdjaa.P
open Go.RowKit Go.Proofs.YtdlcefclefbdjaaW.PrintWords Go.Proofs.YtdlcefclefbdjaaW.PrintLast Go.Proofs.YtdlcefclefbdjaaW.PrintMore
set_option linter.unusedVariables false
set_option linter.unusedSimpArgs false
theorem gcd_tmod (a b : Int) : Int.gcd b (Int.tmod a b) = Int.gcd a b := by
 rw [Int.gcd_eq_natAbs_gcd_natAbs, Int.gcd_eq_natAbs_gcd_natAbs, Int.natAbs_tmod, Nat.gcd_comm, Nat.gcd_comm a.natAbs]
 exact (Nat.gcd_rec _ _).symm
theorem impl_gcd.ev_l (n : Nat) : ∀ a b : Int, b.natAbs ≤ n → -9223372036854775807 ≤ a → a ≤ 9223372036854775807 → -9223372036854775807 ≤ b → b ≤ 9223372036854775807 → Ev (fun k => impl_gcd.l0 k a b) (Int.gcd a b : Int) := by
 induction n using Nat.strongRecOn with
 | ind n ih =>
  intro a b hn ha0 ha1 hb0 hb1
  by_cases hb : b = 0
  ·subst hb
   refine Ev.step (f := fun _ => some (mx a (wrap64 (-a)))) (fun k => by simp only [impl_gcd.l0, if_true]) ?_
   refine Ev.const ?_
   rw [wid (by omega) (by omega), Int.gcd_zero_right]
   congr 1
   unfold mx; split <;> omega
  ·refine Ev.step (f := fun k => impl_gcd.l0 k b (Int.tmod a b)) (fun k => by simp only [impl_gcd.l0]; rw [if_neg hb]) ?_
   have h1 : (Int.tmod a b).natAbs < b.natAbs := by rw [Int.natAbs_tmod]; exact Nat.mod_lt _ (by omega)
   exact ev_eq (ih (Int.tmod a b).natAbs (by omega) b (Int.tmod a b) (Nat.le_refl _) hb0 hb1 (by omega) (by omega)) (by rw [gcd_tmod])
theorem impl_gcd.ev {a b : Int} (ha0 : -9223372036854775807 ≤ a) (ha1 : a ≤ 9223372036854775807) (hb0 : -9223372036854775807 ≤ b) (hb1 : b ≤ 9223372036854775807) : Ev (fun k => impl_gcd.f k a b) (Int.gcd a b : Int) := by
 unfold impl_gcd.f; exact impl_gcd.ev_l _ a b (Nat.le_refl _) ha0 ha1 hb0 hb1
/-- The fraction in lowest terms. -/
def loA (a b : Int) : Int := a / (Int.gcd a b : Int)
def loB (a b : Int) : Int := b / (Int.gcd a b : Int)
theorem gcd_pos {a b : Int} (hb : 0 < b) : (0 : Int) < (Int.gcd a b : Int) := by
 have : 0 < Int.gcd a b := Int.gcd_pos_of_ne_zero_right _ (by omega)
 omega
theorem lo_mulA {a b : Int} : loA a b * (Int.gcd a b : Int) = a := Int.ediv_mul_cancel (Int.gcd_dvd_left ..)
theorem lo_mulB {a b : Int} : loB a b * (Int.gcd a b : Int) = b := Int.ediv_mul_cancel (Int.gcd_dvd_right ..)
theorem loA_bd {a b : Int} (hb : 0 < b) : (loA a b).natAbs ≤ a.natAbs := by
 unfold loA
 rw [Int.natAbs_ediv_of_dvd (Int.gcd_dvd_left ..)]
 exact Nat.div_le_self _ _
theorem loB_pos {a b : Int} (hb : 0 < b) : 0 < loB a b ∧ loB a b ≤ b := by
 have g := gcd_pos (a := a) hb
 have e := lo_mulB (a := a) (b := b)
 have h0 : 0 < loB a b := by
  rcases Int.lt_or_le 0 (loB a b) with h | h
  ·exact h
  ·have := Int.mul_nonneg (show 0 ≤ -(loB a b) by omega) (show 0 ≤ (Int.gcd a b : Int) by omega)
   rw [Int.neg_mul, e] at this
   omega
 refine ⟨h0, ?_⟩
 have : loB a b * 1 ≤ loB a b * (Int.gcd a b : Int) := Int.mul_le_mul_of_nonneg_left (by omega) (by omega)
 rw [e] at this
 omega
theorem loA_nonneg {a b : Int} (ha : 0 ≤ a) (hb : 0 < b) : 0 ≤ loA a b ∧ loA a b ≤ a := by
 have g := gcd_pos (a := a) hb
 refine ⟨Int.ediv_nonneg ha (by omega), ?_⟩
 have := loA_bd (a := a) hb
 have h0 : 0 ≤ loA a b := Int.ediv_nonneg ha (by omega)
 omega
theorem tdiv_gcd_l {a b : Int} : Int.tdiv a (Int.gcd a b : Int) = loA a b := Int.tdiv_eq_ediv_of_dvd (Int.gcd_dvd_left ..)
theorem tdiv_gcd_r {a b : Int} : Int.tdiv b (Int.gcd a b : Int) = loB a b := Int.tdiv_eq_ediv_of_dvd (Int.gcd_dvd_right ..)
theorem impl_fraction.ev {a b : Int} (ha0 : -9223372036854775807 ≤ a) (ha1 : a ≤ 9223372036854775807) (hb0 : 0 < b) (hb1 : b ≤ 9223372036854775807) : Ev (fun k => impl_fraction.f k a b) (loA a b, loB a b, true) := by
 unfold impl_fraction.f
 refine Ev.bind (impl_gcd.ev ha0 ha1 (by omega) hb1) ?_
 have g := gcd_pos (a := a) hb0
 have h1 := loA_bd (a := a) hb0
 have h2 := loB_pos (a := a) hb0
 refine Ev.const ?_
 rw [if_neg (by omega), tdiv_gcd_l, tdiv_gcd_r, wid (by omega) (by omega), wid (by omega) (by omega)]
end Go.Proofs.Ytdlcefclefbdjaa.P

namespace Go.Proofs.Ytdlcefclefbdjaa.P
open Go.RowKit Go.Proofs.YtdlcefclefbdjaaW.PrintWords Go.Proofs.YtdlcefclefbdjaaW.PrintLast Go.Proofs.YtdlcefclefbdjaaW.PrintMore
set_option linter.unusedVariables false
set_option linter.unusedSimpArgs false
theorem spec_clLow.ev_l (x y : Int) (hx0 : 0 ≤ x) (hx1 : x ≤ 9223372036854775807) (hy0 : 0 < y) (hy1 : y ≤ 9223372036854775807) (n : Nat) : ∀ a b : Int, b.natAbs ≤ n → 0 ≤ a → 0 ≤ b → (0 < a ∨ 0 < b) → Int.gcd a b = Int.gcd x y → Ev (fun k => spec_clLow.l0 k x y a b) (loA x y, loB x y) := by
 induction n using Nat.strongRecOn with
 | ind n ih =>
  intro a b hn ha hb hab hg
  by_cases hb' : b = 0
  ·subst hb'
   refine Ev.step (f := fun _ => some (wrap64 (Int.tdiv x a), wrap64 (Int.tdiv y a))) (fun k => by simp only [spec_clLow.l0]; rw [if_neg (by omega), if_neg (by omega)]) ?_
   refine Ev.const ?_
   have ea : a = (Int.gcd x y : Int) := by rw [← hg, Int.gcd_zero_right]; omega
   have h1 := loA_bd (a := x) hy0
   have h2 := loB_pos (a := x) hy0
   rw [ea, tdiv_gcd_l, tdiv_gcd_r, wid (by omega) (by omega), wid (by omega) (by omega)]
  ·refine Ev.step (f := fun k => spec_clLow.l0 k x y b (Int.tmod a b)) (fun k => by simp only [spec_clLow.l0]; rw [if_pos (by omega), if_neg hb']) ?_
   have h1 : (Int.tmod a b).natAbs < b.natAbs := by rw [Int.natAbs_tmod]; exact Nat.mod_lt _ (by omega)
   exact ih (Int.tmod a b).natAbs (by omega) b (Int.tmod a b) (Nat.le_refl _) hb (Int.tmod_nonneg _ ha) (.inl (by omega)) ((gcd_tmod a b).trans hg)
theorem spec_clLow.ev {x y : Int} (hx0 : 0 ≤ x) (hx1 : x ≤ 9223372036854775807) (hy0 : 0 < y) (hy1 : y ≤ 9223372036854775807) : Ev (fun k => spec_clLow.f k x y) (loA x y, loB x y) := by
 unfold spec_clLow.f; exact spec_clLow.ev_l x y hx0 hx1 hy0 hy1 _ x y (Nat.le_refl _) hx0 (by omega) (.inr hy0) rfl
end Go.Proofs.Ytdlcefclefbdjaa.P

namespace Go.Proofs.Ytdlcefclefbdjaa.P
open Go.RowKit Go.Proofs.YtdlcefclefbdjaaW.PrintWords Go.Proofs.YtdlcefclefbdjaaW.PrintLast Go.Proofs.YtdlcefclefbdjaaW.PrintMore
set_option linter.unusedVariables false
set_option linter.unusedSimpArgs false
theorem spec_l1In.eq (a lo hi : Int) : spec_l1In.f a lo hi = some (inr lo hi a) := by
 unfold spec_l1In.f inr
 by_cases h : a ≥ lo
 ·rw [if_pos h]; simp [show lo ≤ a from h]
 ·rw [if_neg h]; simp [show ¬ lo ≤ a from h]
end Go.Proofs.Ytdlcefclefbdjaa.P

namespace Go.Proofs.Ytdlcefclefbdjaa.P
open Go.RowKit Go.Proofs.YtdlcefclefbdjaaW.PrintWords Go.Proofs.YtdlcefclefbdjaaW.PrintLast Go.Proofs.YtdlcefclefbdjaaW.PrintMore
set_option linter.unusedVariables false
set_option linter.unusedSimpArgs false
theorem impl_within.eq (a lo hi : Int) : impl_within.f a lo hi = some (inr lo hi a) := by
 unfold impl_within.f inr
 by_cases h : a ≥ lo
 ·rw [if_pos h]; simp [show lo ≤ a from h]
 ·rw [if_neg h]; simp [show ¬ lo ≤ a from h]
end Go.Proofs.Ytdlcefclefbdjaa.P

namespace Go.Proofs.Ytdlcefclefbdjaa.P
open Go.RowKit Go.Proofs.YtdlcefclefbdjaaW.PrintWords Go.Proofs.YtdlcefclefbdjaaW.PrintLast Go.Proofs.YtdlcefclefbdjaaW.PrintMore
set_option linter.unusedVariables false
set_option linter.unusedSimpArgs false
/-- A fraction in lowest terms, if it is asked rightly. -/
def fr (b : Bool) (x y : Int) : Int × Int × Bool := if b = true then (loA x y, loB x y, true) else (0, 0, false)
theorem fr_ok (b : Bool) (x y : Int) : (fr b x y).2.2 = b := by cases b <;> rfl
theorem fr_t (x y : Int) : fr true x y = (loA x y, loB x y, true) := rfl
theorem fr_f (x y : Int) : fr false x y = (0, 0, false) := rfl
theorem fr_impl {b : Bool} {x y : Int} (h : b = true → 0 ≤ x ∧ x ≤ 1000000000 ∧ 0 < y ∧ y ≤ 1000000000) : Ev (fun k => if b = true then (impl_fraction.f k x y).bind fun t => some (t.1, t.2.1, t.2.2) else some (0, 0, false)) (fr b x y) := by
 cases b with
 | true => have h := h rfl; simp only [if_true]; exact Ev.bind (impl_fraction.ev (by omega) (by omega) (by omega) (by omega)) (Ev.now _)
 | false => simp only [Bool.false_eq_true, if_false]; exact Ev.now _
theorem fr_spec {b : Bool} {x y : Int} (h : b = true → 0 ≤ x ∧ x ≤ 1000000000 ∧ 0 < y ∧ y ≤ 1000000000) : Ev (fun k => if b = true then (spec_clLow.f k x y).bind fun t => some (t.1, t.2, true) else some (0, 0, false)) (fr b x y) := by
 cases b with
 | true => have h := h rfl; simp only [if_true]; exact Ev.bind (spec_clLow.ev (by omega) (by omega) (by omega) (by omega)) (Ev.now _)
 | false => simp only [Bool.false_eq_true, if_false]; exact Ev.now _
def mPoleOk (p h : Int) : Bool := inr 1 500 p && inr 1 200 h
def mBoth (L p h : Int) : Bool := inr 2 200 L && (mPoleOk p h && decide (h < L))
theorem mPoleOk_iff {p h : Int} : mPoleOk p h = true ↔ (1 ≤ p ∧ p ≤ 500) ∧ (1 ≤ h ∧ h ≤ 200) := by unfold mPoleOk; simp only [Bool.and_eq_true, inr_iff]
theorem mBoth_iff {L p h : Int} : mBoth L p h = true ↔ (2 ≤ L ∧ L ≤ 200) ∧ ((1 ≤ p ∧ p ≤ 500) ∧ (1 ≤ h ∧ h ≤ 200)) ∧ h < L := by unfold mBoth; simp only [Bool.and_eq_true, inr_iff, mPoleOk_iff, decide_eq_true_eq]
theorem impl_isPlace.eq (a : Int) : impl_isPlace.f a = some (inr 1 500 a) := by unfold impl_isPlace.f; rw [impl_within.eq]; rfl
theorem impl_isHigh.eq (a : Int) : impl_isHigh.f a = some (inr 1 200 a) := by unfold impl_isHigh.f; rw [impl_within.eq]; rfl
theorem impl_isLamp.eq (a : Int) : impl_isLamp.f a = some (inr 2 200 a) := by unfold impl_isLamp.f; rw [impl_within.eq]; rfl
theorem spec_swLamp.eq (a : Int) : spec_swLamp.f a = some (inr 2 200 a) := by unfold spec_swLamp.f; rw [spec_l1In.eq]; rfl
theorem impl_isPole.eq (p h : Int) : impl_isPole.f p h = some (mPoleOk p h) := by
 unfold impl_isPole.f mPoleOk
 rw [impl_isPlace.eq, impl_isHigh.eq]
 cases inr 1 500 p <;> rfl
theorem spec_swPole.eq (p h : Int) : spec_swPole.f p h = some (mPoleOk p h) := by
 unfold spec_swPole.f mPoleOk
 rw [spec_l1In.eq, spec_l1In.eq]
 cases inr 1 500 p <;> rfl
theorem impl_isPoleOf.eq (L p h : Int) : impl_isPoleOf.f L p h = some (mBoth L p h) := by
 unfold impl_isPoleOf.f mBoth
 rw [impl_isLamp.eq, impl_isPole.eq]
 cases inr 2 200 L <;> cases mPoleOk p h <;> rfl
theorem spec_swBoth.eq (L p h : Int) : spec_swBoth.f L p h = some (mBoth L p h) := by
 unfold spec_swBoth.f mBoth
 rw [spec_swLamp.eq, spec_swPole.eq]
 cases inr 2 200 L <;> cases mPoleOk p h <;> rfl
theorem bd2 {L p h : Int} (hb : mBoth L p h = true) : (0 ≤ p * h ∧ p * h ≤ 100000) ∧ (0 ≤ p * L ∧ p * L ≤ 100000) := by
 obtain ⟨h1, h2, h3⟩ := mBoth_iff.1 hb
 exact ⟨mul_bd (A := 500) (B := 200) (by omega) (by omega) (by omega) (by omega), mul_bd (A := 500) (B := 200) (by omega) (by omega) (by omega) (by omega)⟩
/-- A shadow's length, and where it ends. -/
def mSL (L p h : Int) := fr (mBoth L p h) (p * h) (L - h)
def mSE (L p h : Int) := fr (mBoth L p h) (p * L) (L - h)
theorem impl_ShadowLength.ev (L p h : Int) : Ev (fun k => impl_ShadowLength.f k L p h) (mSL L p h) := by
 unfold impl_ShadowLength.f mSL
 refine Ev.bindc (impl_isPoleOf.eq L p h) ?_
 cases hb : mBoth L p h with
 | false => exact Ev.now _
 | true =>
  have := bd2 hb; have := mBoth_iff.1 hb
  rw [wid (show -9223372036854775808 ≤ p * h by omega) (by omega), wid (show -9223372036854775808 ≤ L - h by omega) (by omega)]
  exact fr_impl (b := true) (fun _ => by omega)
theorem spec_ShadowLength.ev (L p h : Int) : Ev (fun k => spec_ShadowLength.f k L p h) (mSL L p h) := by
 unfold spec_ShadowLength.f mSL
 refine Ev.bindc (spec_swBoth.eq L p h) ?_
 cases hb : mBoth L p h with
 | false => exact Ev.now _
 | true =>
  have := bd2 hb; have := mBoth_iff.1 hb
  rw [wid (show -9223372036854775808 ≤ p * h by omega) (by omega), wid (show -9223372036854775808 ≤ L - h by omega) (by omega)]
  exact fr_spec (b := true) (fun _ => by omega)
theorem impl_ShadowEnd.ev (L p h : Int) : Ev (fun k => impl_ShadowEnd.f k L p h) (mSE L p h) := by
 unfold impl_ShadowEnd.f mSE
 refine Ev.bindc (impl_isPoleOf.eq L p h) ?_
 cases hb : mBoth L p h with
 | false => exact Ev.now _
 | true =>
  have := bd2 hb; have := mBoth_iff.1 hb
  rw [wid (show -9223372036854775808 ≤ p * L by omega) (by omega), wid (show -9223372036854775808 ≤ L - h by omega) (by omega)]
  exact fr_impl (b := true) (fun _ => by omega)
theorem spec_ShadowEnd.ev (L p h : Int) : Ev (fun k => spec_ShadowEnd.f k L p h) (mSE L p h) := by
 unfold spec_ShadowEnd.f mSE
 refine Ev.bindc (spec_swBoth.eq L p h) ?_
 cases hb : mBoth L p h with
 | false => exact Ev.now _
 | true =>
  have := bd2 hb; have := mBoth_iff.1 hb
  rw [wid (show -9223372036854775808 ≤ p * L by omega) (by omega), wid (show -9223372036854775808 ≤ L - h by omega) (by omega)]
  exact fr_spec (b := true) (fun _ => by omega)
/-- How high a shadow comes at a wall. -/
def wallX (L p h w : Int) : Int := if L * p - (L - h) * w ≤ 0 then 0 else L * p - (L - h) * w
def mSW (L p h w : Int) := fr (mBoth L p h && inr (p + 1) 500 w) (wallX L p h w) p
theorem wall_bd {L p h w : Int} (hb : mBoth L p h = true) (hw : inr (p + 1) 500 w = true) : (0 ≤ L * p ∧ L * p ≤ 100000) ∧ (0 ≤ (L - h) * w ∧ (L - h) * w ≤ 100000) ∧ 0 ≤ wallX L p h w ∧ wallX L p h w ≤ 100000 := by
 obtain ⟨h1, h2, h3⟩ := mBoth_iff.1 hb
 have h4 := inr_iff.1 hw
 have p1 := mul_bd (a := L) (b := p) (A := 200) (B := 500) (by omega) (by omega) (by omega) (by omega)
 have p2 := mul_bd (a := L - h) (b := w) (A := 200) (B := 500) (by omega) (by omega) (by omega) (by omega)
 unfold wallX
 refine ⟨by omega, by omega, ?_⟩
 split <;> omega
theorem lo0 {p : Int} (hp : 0 < p) : loA 0 p = 0 ∧ loB 0 p = 1 := by
 unfold loA loB
 rw [Int.gcd_zero_left, Int.zero_ediv]
 refine ⟨rfl, ?_⟩
 rw [show (p.natAbs : Int) = p by omega]
 exact Int.ediv_self (by omega)
theorem impl_ShadowOnWall.ev (L p h w : Int) : Ev (fun k => impl_ShadowOnWall.f k L p h w) (mSW L p h w) := by
 unfold impl_ShadowOnWall.f mSW
 refine Ev.bindc (impl_isPoleOf.eq L p h) ?_
 cases hb : mBoth L p h with
 | false => exact Ev.now _
 | true =>
  have hB := mBoth_iff.1 hb
  simp only [if_true, Bool.true_and]
  rw [wid (show -9223372036854775808 ≤ p + 1 by omega) (by omega)]
  refine Ev.bindc (impl_within.eq w (p + 1) 500) ?_
  cases hw : inr (p + 1) 500 w with
  | false => exact Ev.now _
  | true =>
   have hW := wall_bd hb hw
   rw [wid (show -9223372036854775808 ≤ L * p by omega) (by omega), wid (show -9223372036854775808 ≤ L - h by omega) (by omega), wid (show -9223372036854775808 ≤ (L - h) * w by omega) (by omega), wid (show -9223372036854775808 ≤ L * p - (L - h) * w by omega) (by omega)]
   rw [show mx 0 (L * p - (L - h) * w) = wallX L p h w by unfold mx wallX; split <;> split <;> omega]
   exact fr_impl (b := true) (fun _ => by omega)
theorem swHeight.ev {L p h w : Int} (hb : mBoth L p h = true) (hw : inr (p + 1) 500 w = true) : Ev (fun k => spec_swHeight.f k L p h w) (loA (wallX L p h w) p, loB (wallX L p h w) p) := by
 have hB := mBoth_iff.1 hb
 have hW := wall_bd hb hw
 unfold spec_swHeight.f
 rw [wid (show -9223372036854775808 ≤ L * p by omega) (by omega), wid (show -9223372036854775808 ≤ L - h by omega) (by omega), wid (show -9223372036854775808 ≤ (L - h) * w by omega) (by omega), wid (show -9223372036854775808 ≤ L * p - (L - h) * w by omega) (by omega)]
 by_cases c : L * p - (L - h) * w ≤ 0
 ·simp only [c, if_true]
  rw [show wallX L p h w = 0 from if_pos c, (lo0 (p := p) (by omega)).1, (lo0 (p := p) (by omega)).2]
  exact Ev.now _
 ·simp only [c, if_false]
  rw [show wallX L p h w = L * p - (L - h) * w from if_neg c]
  exact Ev.bind (spec_clLow.ev (by omega) (by omega) (by omega) (by omega)) (Ev.now _)
theorem spec_ShadowOnWall.ev (L p h w : Int) : Ev (fun k => spec_ShadowOnWall.f k L p h w) (mSW L p h w) := by
 unfold spec_ShadowOnWall.f mSW
 refine Ev.bindc (spec_swBoth.eq L p h) ?_
 cases hb : mBoth L p h with
 | false => exact Ev.now _
 | true =>
  have hB := mBoth_iff.1 hb
  simp only [if_true, Bool.true_and]
  rw [wid (show -9223372036854775808 ≤ p + 1 by omega) (by omega)]
  refine Ev.bindc (spec_l1In.eq w (p + 1) 500) ?_
  cases hw : inr (p + 1) 500 w with
  | false => exact Ev.now _
  | true => simp only [if_true]; exact Ev.bind (swHeight.ev hb hw) (Ev.now _)
theorem impl_HiddenHeight.ev (L p h w : Int) : Ev (fun k => impl_HiddenHeight.f k L p h w) (mSW L p h w) := by
 unfold impl_HiddenHeight.f
 exact Ev.bind (impl_ShadowOnWall.ev L p h w) (Ev.now _)
theorem spec_HiddenHeight.ev (L p h w : Int) : Ev (fun k => spec_HiddenHeight.f k L p h w) (mSW L p h w) := spec_ShadowOnWall.ev L p h w
/-- What is told back. -/
def mLS (p h s : Int) := fr (mPoleOk p h && inr 1 500 s) (h * (p + s)) s
def mPS (L p s : Int) := fr (inr 2 200 L && (inr 1 500 p && inr 1 500 s)) (L * s) (p + s)
def mPl (L h s : Int) := fr (inr 2 200 L && (inr 1 (L - 1) h && inr 1 500 s)) (s * (L - h)) h
def mSS (t r u : Int) := fr (inr 1 200 t && (inr 1 500 r && inr 1 500 u)) (t * u) r
def mSo (s c : Int) := fr (inr 1 200 s && inr 1 500 c) s c
theorem impl_LampOfShadow.ev (p h s : Int) : Ev (fun k => impl_LampOfShadow.f k p h s) (mLS p h s) := by
 unfold impl_LampOfShadow.f mLS
 refine Ev.bindc (impl_isPole.eq p h) ?_
 cases hb : mPoleOk p h with
 | false => exact Ev.now _
 | true =>
  have hB := mPoleOk_iff.1 hb
  simp only [if_true, Bool.true_and]
  refine Ev.bindc (impl_isPlace.eq s) ?_
  cases hw : inr 1 500 s with
  | false => exact Ev.now _
  | true =>
   have hW := inr_iff.1 hw
   have p1 := mul_bd (a := h) (b := p + s) (A := 200) (B := 1000) (by omega) (by omega) (by omega) (by omega)
   rw [wid (show -9223372036854775808 ≤ p + s by omega) (by omega), wid (show -9223372036854775808 ≤ h * (p + s) by omega) (by omega)]
   exact fr_impl (b := true) (fun _ => by omega)
theorem spec_LampOfShadow.ev (p h s : Int) : Ev (fun k => spec_LampOfShadow.f k p h s) (mLS p h s) := by
 unfold spec_LampOfShadow.f mLS
 refine Ev.bindc (spec_swPole.eq p h) ?_
 cases hb : mPoleOk p h with
 | false => exact Ev.now _
 | true =>
  have hB := mPoleOk_iff.1 hb
  simp only [if_true, Bool.true_and]
  refine Ev.bindc (spec_l1In.eq s 1 500) ?_
  cases hw : inr 1 500 s with
  | false => exact Ev.now _
  | true =>
   have hW := inr_iff.1 hw
   have p1 := mul_bd (a := h) (b := p + s) (A := 200) (B := 1000) (by omega) (by omega) (by omega) (by omega)
   rw [wid (show -9223372036854775808 ≤ p + s by omega) (by omega), wid (show -9223372036854775808 ≤ h * (p + s) by omega) (by omega)]
   exact fr_spec (b := true) (fun _ => by omega)
theorem impl_PoleOfShadow.ev (L p s : Int) : Ev (fun k => impl_PoleOfShadow.f k L p s) (mPS L p s) := by
 unfold impl_PoleOfShadow.f mPS
 refine Ev.bindc (impl_isLamp.eq L) ?_
 cases hL : inr 2 200 L with
 | false => exact Ev.now _
 | true =>
  simp only [if_true, Bool.true_and]
  refine Ev.bindc (impl_isPlace.eq p) ?_
  cases hp : inr 1 500 p with
  | false => exact Ev.now _
  | true =>
   simp only [if_true, Bool.true_and]
   refine Ev.bindc (impl_isPlace.eq s) ?_
   cases hs : inr 1 500 s with
   | false => exact Ev.now _
   | true =>
    have h1 := inr_iff.1 hL; have h2 := inr_iff.1 hp; have h3 := inr_iff.1 hs
    have p1 := mul_bd (a := L) (b := s) (A := 200) (B := 500) (by omega) (by omega) (by omega) (by omega)
    rw [wid (show -9223372036854775808 ≤ p + s by omega) (by omega), wid (show -9223372036854775808 ≤ L * s by omega) (by omega)]
    exact fr_impl (b := true) (fun _ => by omega)
theorem spec_PoleOfShadow.ev (L p s : Int) : Ev (fun k => spec_PoleOfShadow.f k L p s) (mPS L p s) := by
 unfold spec_PoleOfShadow.f mPS
 refine Ev.bindc (spec_swLamp.eq L) ?_
 cases hL : inr 2 200 L with
 | false => exact Ev.now _
 | true =>
  simp only [if_true, Bool.true_and]
  refine Ev.bindc (spec_l1In.eq p 1 500) ?_
  cases hp : inr 1 500 p with
  | false => exact Ev.now _
  | true =>
   simp only [if_true, Bool.true_and]
   refine Ev.bindc (spec_l1In.eq s 1 500) ?_
   cases hs : inr 1 500 s with
   | false => exact Ev.now _
   | true =>
    have h1 := inr_iff.1 hL; have h2 := inr_iff.1 hp; have h3 := inr_iff.1 hs
    have p1 := mul_bd (a := L) (b := s) (A := 200) (B := 500) (by omega) (by omega) (by omega) (by omega)
    rw [wid (show -9223372036854775808 ≤ p + s by omega) (by omega), wid (show -9223372036854775808 ≤ L * s by omega) (by omega)]
    exact fr_spec (b := true) (fun _ => by omega)
theorem impl_PlaceOfShadow.ev (L h s : Int) : Ev (fun k => impl_PlaceOfShadow.f k L h s) (mPl L h s) := by
 unfold impl_PlaceOfShadow.f mPl
 refine Ev.bindc (impl_isLamp.eq L) ?_
 cases hL : inr 2 200 L with
 | false => exact Ev.now _
 | true =>
  have h1 := inr_iff.1 hL
  simp only [if_true, Bool.true_and]
  refine Ev.bindc (impl_isHigh.eq h) ?_
  by_cases c : 1 ≤ h ∧ h ≤ L - 1
  ·rw [show inr 1 200 h = true from inr_iff.2 (by omega), show inr 1 (L - 1) h = true from inr_iff.2 c]
   simp only [if_true, Bool.true_and, show ¬ (h ≥ L) by omega, if_false]
   refine Ev.bindc (impl_isPlace.eq s) ?_
   cases hs : inr 1 500 s with
   | false => exact Ev.now _
   | true =>
    have h3 := inr_iff.1 hs
    have p1 := mul_bd (a := s) (b := L - h) (A := 500) (B := 200) (by omega) (by omega) (by omega) (by omega)
    rw [wid (show -9223372036854775808 ≤ L - h by omega) (by omega), wid (show -9223372036854775808 ≤ s * (L - h) by omega) (by omega)]
    exact fr_impl (b := true) (fun _ => by omega)
  ·rw [show inr 1 (L - 1) h = false from Bool.eq_false_iff.2 (fun q => c (inr_iff.1 q)), Bool.false_and, fr_f]
   cases hh : inr 1 200 h with
   | false => exact Ev.now _
   | true =>
    have := inr_iff.1 hh
    simp only [if_true, show h ≥ L by omega]
    exact Ev.now _
theorem spec_PlaceOfShadow.ev (L h s : Int) : Ev (fun k => spec_PlaceOfShadow.f k L h s) (mPl L h s) := by
 unfold spec_PlaceOfShadow.f mPl
 refine Ev.bindc (spec_swLamp.eq L) ?_
 cases hL : inr 2 200 L with
 | false => exact Ev.now _
 | true =>
  have h1 := inr_iff.1 hL
  simp only [if_true, Bool.true_and]
  rw [wid (show -9223372036854775808 ≤ L - 1 by omega) (by omega)]
  refine Ev.bindc (spec_l1In.eq h 1 (L - 1)) ?_
  cases hp : inr 1 (L - 1) h with
  | false => exact Ev.now _
  | true =>
   simp only [if_true, Bool.true_and]
   refine Ev.bindc (spec_l1In.eq s 1 500) ?_
   cases hs : inr 1 500 s with
   | false => exact Ev.now _
   | true =>
    have h2 := inr_iff.1 hp; have h3 := inr_iff.1 hs
    have p1 := mul_bd (a := s) (b := L - h) (A := 500) (B := 200) (by omega) (by omega) (by omega) (by omega)
    rw [wid (show -9223372036854775808 ≤ L - h by omega) (by omega), wid (show -9223372036854775808 ≤ s * (L - h) by omega) (by omega)]
    exact fr_spec (b := true) (fun _ => by omega)
theorem impl_SunShadow.ev (t r u : Int) : Ev (fun k => impl_SunShadow.f k t r u) (mSS t r u) := by
 unfold impl_SunShadow.f mSS
 refine Ev.bindc (impl_isHigh.eq t) ?_
 cases hL : inr 1 200 t with
 | false => exact Ev.now _
 | true =>
  simp only [if_true, Bool.true_and]
  refine Ev.bindc (impl_isPlace.eq r) ?_
  cases hp : inr 1 500 r with
  | false => exact Ev.now _
  | true =>
   simp only [if_true, Bool.true_and]
   refine Ev.bindc (impl_isPlace.eq u) ?_
   cases hs : inr 1 500 u with
   | false => exact Ev.now _
   | true =>
    have h1 := inr_iff.1 hL; have h2 := inr_iff.1 hp; have h3 := inr_iff.1 hs
    have p1 := mul_bd (a := t) (b := u) (A := 200) (B := 500) (by omega) (by omega) (by omega) (by omega)
    rw [wid (show -9223372036854775808 ≤ t * u by omega) (by omega)]
    exact fr_impl (b := true) (fun _ => by omega)
theorem spec_SunShadow.ev (t r u : Int) : Ev (fun k => spec_SunShadow.f k t r u) (mSS t r u) := by
 unfold spec_SunShadow.f mSS
 refine Ev.bindc (spec_l1In.eq t 1 200) ?_
 cases hL : inr 1 200 t with
 | false => exact Ev.now _
 | true =>
  simp only [if_true, Bool.true_and]
  refine Ev.bindc (spec_l1In.eq r 1 500) ?_
  cases hp : inr 1 500 r with
  | false => exact Ev.now _
  | true =>
   simp only [if_true, Bool.true_and]
   refine Ev.bindc (spec_l1In.eq u 1 500) ?_
   cases hs : inr 1 500 u with
   | false => exact Ev.now _
   | true =>
    have h1 := inr_iff.1 hL; have h2 := inr_iff.1 hp; have h3 := inr_iff.1 hs
    have p1 := mul_bd (a := t) (b := u) (A := 200) (B := 500) (by omega) (by omega) (by omega) (by omega)
    rw [wid (show -9223372036854775808 ≤ t * u by omega) (by omega)]
    exact fr_spec (b := true) (fun _ => by omega)
theorem impl_SunSlope.ev (s c : Int) : Ev (fun k => impl_SunSlope.f k s c) (mSo s c) := by
 unfold impl_SunSlope.f mSo
 refine Ev.bindc (impl_isHigh.eq s) ?_
 cases hL : inr 1 200 s with
 | false => exact Ev.now _
 | true =>
  simp only [if_true, Bool.true_and]
  refine Ev.bindc (impl_isPlace.eq c) ?_
  cases hp : inr 1 500 c with
  | false => exact Ev.now _
  | true =>
   have h1 := inr_iff.1 hL; have h2 := inr_iff.1 hp
   exact fr_impl (b := true) (fun _ => by omega)
theorem spec_SunSlope.ev (s c : Int) : Ev (fun k => spec_SunSlope.f k s c) (mSo s c) := by
 unfold spec_SunSlope.f mSo
 refine Ev.bindc (spec_l1In.eq s 1 200) ?_
 cases hL : inr 1 200 s with
 | false => exact Ev.now _
 | true =>
  simp only [if_true, Bool.true_and]
  refine Ev.bindc (spec_l1In.eq c 1 500) ?_
  cases hp : inr 1 500 c with
  | false => exact Ev.now _
  | true =>
   have h1 := inr_iff.1 hL; have h2 := inr_iff.1 hp
   exact fr_spec (b := true) (fun _ => by omega)
end Go.Proofs.Ytdlcefclefbdjaa.P

namespace Go.Proofs.Ytdlcefclefbdjaa.P
open Go.RowKit Go.Proofs.YtdlcefclefbdjaaW.PrintWords Go.Proofs.YtdlcefclefbdjaaW.PrintLast Go.Proofs.YtdlcefclefbdjaaW.PrintMore
set_option linter.unusedVariables false
set_option linter.unusedSimpArgs false
theorem laws_yLow.ev_l (n : Nat) : ∀ a b : Int, b.natAbs ≤ n → 0 ≤ a → 0 ≤ b → Ev (fun k => laws_yLow.l0 k a b) (decide (Int.gcd a b = 1)) := by
 induction n with
 | zero =>
  intro a b hn ha hb
  obtain rfl : b = 0 := by omega
  refine Ev.succ ?_
  simp only [laws_yLow.l0, show ¬ ((0 : Int) > 0) by omega, if_false]
  refine Ev.const ?_
  rw [Int.gcd_zero_right]
  by_cases h : a = 1
  ·subst h; rfl
  ·rw [beq_eq_false_iff_ne.2 h, decide_eq_false (by omega)]
 | succ n ih =>
  intro a b hn ha hb
  by_cases h0 : b = 0
  ·exact ih a b (by omega) ha hb
  ·refine Ev.succ ?_
   simp only [laws_yLow.l0, show b > 0 by omega, h0, if_true, if_false]
   have h1 := Int.tmod_lt_of_pos a (show 0 < b by omega)
   have h2 := Int.tmod_nonneg b ha
   refine ev_eq (ih b (Int.tmod a b) (by omega) hb h2) ?_
   rw [gcd_tmod]
theorem lo_gcd {x y : Int} (hy : 0 < y) : Int.gcd (loA x y) (loB x y) = 1 := by
 have g := gcd_pos (a := x) hy
 have h : Int.gcd (loA x y * (Int.gcd x y : Int)) (loB x y * (Int.gcd x y : Int)) = Int.gcd x y := by rw [lo_mulA, lo_mulB]
 rw [Int.gcd_mul_right] at h
 simp only [Int.natAbs_natCast] at h
 have hp : 0 < Int.gcd x y := by omega
 exact Nat.eq_of_mul_eq_mul_right hp (by rw [h, Nat.one_mul])
theorem laws_yLow.ev {x y : Int} (hx : 0 ≤ x) (hy : 0 < y) : Ev (fun k => laws_yLow.f k (loA x y) (loB x y)) true := by
 have hb := loB_pos (a := x) hy
 have ha := loA_nonneg hx hy
 unfold laws_yLow.f
 simp only [show ¬ (loB x y < 1) by omega, show ¬ (loA x y < 0) by omega, if_false]
 refine Ev.succ ?_
 simp only [laws_yLow.j0]
 exact ev_eq (laws_yLow.ev_l _ _ _ (Nat.le_refl _) ha.1 (by omega)) (decide_eq_true (lo_gcd hy))
theorem lo_cross (x y : Int) : loA x y * y = x * loB x y := by
 have h1 := lo_mulA (a := x) (b := y)
 have h2 := lo_mulB (a := x) (b := y)
 calc loA x y * y = loA x y * (loB x y * (Int.gcd x y : Int)) := by rw [h2]
  _ = loA x y * (Int.gcd x y : Int) * loB x y := by rw [Int.mul_comm (loB x y), Int.mul_assoc]
  _ = x * loB x y := by rw [h1]
theorem laws_yIs.ev {x y u v : Int} (hx : 0 ≤ x) (hx1 : x ≤ 1000000000) (hy : 0 < y) (hy1 : y ≤ 1000000000) (hu : 0 ≤ u ∧ u ≤ 1000000000) (hv : 0 ≤ v ∧ v ≤ 1000000000) (h : loA x y * v = u * loB x y) : Ev (fun k => laws_yIs.f k (loA x y) (loB x y) u v) true := by
 have hb := loB_pos (a := x) hy
 have ha := loA_nonneg hx hy
 unfold laws_yIs.f
 refine Ev.bind (laws_yLow.ev hx hy) ?_
 have p1 := mul_bd (a := loA x y) (b := v) (A := 1000000000) (B := 1000000000) (by omega) (by omega) (by omega) (by omega)
 have p2 := mul_bd (a := u) (b := loB x y) (A := 1000000000) (B := 1000000000) (by omega) (by omega) (by omega) (by omega)
 simp only [if_true]
 rw [wid (show -9223372036854775808 ≤ loA x y * v by omega) (by omega), wid (show -9223372036854775808 ≤ u * loB x y by omega) (by omega), h, beq_self_eq_true]
 exact Ev.now _
end Go.Proofs.Ytdlcefclefbdjaa.P

namespace Go.Proofs.Ytdlcefclefbdjaa.P
open Go.RowKit Go.Proofs.YtdlcefclefbdjaaW.PrintWords Go.Proofs.YtdlcefclefbdjaaW.PrintLast Go.Proofs.YtdlcefclefbdjaaW.PrintMore
set_option linter.unusedVariables false
set_option linter.unusedSimpArgs false
theorem yIs_fr {x y u v : Int} (hx : 0 ≤ x ∧ x ≤ 1000000000) (hy : 0 < y ∧ y ≤ 1000000000) (hu : 0 ≤ u ∧ u ≤ 1000000000) (hv : 0 ≤ v ∧ v ≤ 1000000000) (e : x * v = u * y) : Ev (fun k => laws_yIs.f k (loA x y) (loB x y) u v) true := by
 have c := lo_cross x y
 refine laws_yIs.ev hx.1 hx.2 hy.1 hy.2 hu hv (Int.eq_of_mul_eq_mul_right (show y ≠ 0 by omega) ?_)
 grind
theorem sc_j8 (s c : Int) : Ev (fun k => laws_FnShadowsCast.j8 k s c (mSo s c).1 (mSo s c).2.1 (mSo s c).2.2) true := by
 refine Ev.succ ?_
 simp only [laws_FnShadowsCast.j8]
 unfold mSo
 cases hb : inr 1 200 s && inr 1 500 c with
 | false => simp only [fr_f, Bool.false_eq_true, if_false]; exact Ev.now _
 | true =>
  simp only [Bool.and_eq_true, inr_iff] at hb
  simp only [fr_t, if_true]
  have cr := lo_cross s c
  have u0 := loA_nonneg (a := s) (b := c) (by omega) (by omega)
  have v0 := loB_pos (a := s) (b := c) (by omega)
  generalize loA s c = u at *
  generalize loB s c = v at *
  have psv := Int.mul_pos (show 0 < s by omega) (show 0 < v by omega)
  have psv2 := mul_bd (a := s) (b := v) (A := 200) (B := 500) (by omega) (by omega) (by omega) (by omega)
  have hu : 1 ≤ u := by
   rcases Int.lt_or_le u 1 with h | h
   ·have e : u = 0 := by omega
    rw [e, Int.zero_mul] at cr; omega
   ·exact h
  refine Ev.bind (impl_SunShadow.ev s u v) ?_
  unfold mSS
  rw [show (inr 1 200 s && (inr 1 500 u && inr 1 500 v)) = true by simp only [Bool.and_eq_true, inr_iff]; omega]
  simp only [fr_t, if_true]
  refine Ev.bind (yIs_fr (by omega) (by omega) (by omega) (by omega) (by grind)) ?_
  exact Ev.now _
theorem sc_j7 (t r u s c : Int) (f : Bool) (hf : f = true → (inr 1 200 t && (inr 1 500 r && inr 1 500 u)) = true ∧ loB (t * u) r = 1 ∧ (mSS t r u).1 ≤ 500) : Ev (fun k => laws_FnShadowsCast.j7 k t r u (mSS t r u).1 s c (mSo s c).1 (mSo s c).2.1 (mSo s c).2.2 f) true := by
 refine Ev.succ ?_
 simp only [laws_FnShadowsCast.j7]
 cases f with
 | false => simp only [Bool.false_eq_true, if_false]; exact sc_j8 s c
 | true =>
  obtain ⟨hb, hB, hx⟩ := hf rfl
  revert hx
  unfold mSS
  rw [hb]
  simp only [fr_t, if_true]
  intro hx
  simp only [Bool.and_eq_true, inr_iff] at hb
  have cr := lo_cross (t * u) r
  have ptu := Int.mul_pos (show 0 < t by omega) (show 0 < u by omega)
  have u0 := loA_nonneg (a := t * u) (b := r) (by omega) (by omega)
  rw [hB] at cr
  generalize loA (t * u) r = x at *
  have h1 : 1 ≤ x := by
   rcases Int.lt_or_le x 1 with h | h
   ·have e : x = 0 := by omega
    rw [e, Int.zero_mul] at cr; omega
   ·exact h
  refine Ev.bind (impl_SunSlope.ev t x) ?_
  rw [show mSo t x = (loA t x, loB t x, true) by unfold mSo; rw [show (inr 1 200 t && inr 1 500 x) = true by simp only [Bool.and_eq_true, inr_iff]; omega]; rfl]
  simp only [if_true]
  refine Ev.bind (yIs_fr (by omega) (by omega) (by omega) (by omega) (by grind)) ?_
  simp only [if_true]
  exact sc_j8 s c
theorem sc_j6 (t r u s c : Int) : Ev (fun k => laws_FnShadowsCast.j6 k t r u (mSS t r u).1 (mSS t r u).2.1 (mSS t r u).2.2 s c (mSo s c).1 (mSo s c).2.1 (mSo s c).2.2 false) true := by
 refine Ev.succ ?_
 simp only [laws_FnShadowsCast.j6, Bool.false_eq_true, if_false]
 by_cases h1 : (mSS t r u).2.2 = true
 ·simp only [h1, if_true]
  by_cases h2 : (mSS t r u).2.1 = 1
  ·simp only [h2, if_true]
   refine sc_j7 t r u s c _ (fun q => ?_)
   have hb : (inr 1 200 t && (inr 1 500 r && inr 1 500 u)) = true := by unfold mSS at h1; rw [fr_ok] at h1; exact h1
   refine ⟨hb, ?_, by simpa using q⟩
   unfold mSS at h2
   rw [hb] at h2
   exact h2
  ·simp only [h2, if_false]
   exact sc_j7 t r u s c false (fun q => by simp at q)
 ·simp only [h1, Bool.false_eq_true, if_false]
  exact sc_j7 t r u s c false (fun q => by simp at q)
theorem sc_j5 {l : List Int} (hb : Bytes l) : Ev (fun k => laws_FnShadowsCast.j5 k l) true := by
 obtain ⟨t, r, u, e1⟩ := drawSun_ok hb
 obtain ⟨q1, q2, sh, e2⟩ := drawLampOf_ok hb
 obtain ⟨l2, pl, fa, e3⟩ := drawPoleOf_ok hb
 obtain ⟨l3, po, mu, e4⟩ := drawPlaceOf_ok hb
 obtain ⟨s, c, e5⟩ := drawSlope_ok hb
 refine Ev.succ ?_
 simp only [laws_FnShadowsCast.j5, e1, e2, e3, e4, e5, Option.bind_some]
 refine Ev.bind (impl_SunShadow.ev t r u) ?_
 refine Ev.bind (spec_SunShadow.ev t r u) ?_
 refine Ev.bind (impl_LampOfShadow.ev q1 q2 sh) ?_
 refine Ev.bind (spec_LampOfShadow.ev q1 q2 sh) ?_
 refine Ev.bind (impl_PoleOfShadow.ev l2 pl fa) ?_
 refine Ev.bind (spec_PoleOfShadow.ev l2 pl fa) ?_
 refine Ev.bind (impl_PlaceOfShadow.ev l3 po mu) ?_
 refine Ev.bind (spec_PlaceOfShadow.ev l3 po mu) ?_
 refine Ev.bind (impl_SunSlope.ev s c) ?_
 refine Ev.bind (spec_SunSlope.ev s c) ?_
 simp only [bne_self_eq_false, Bool.false_eq_true, if_false, if_true]
 exact sc_j6 t r u s c
theorem sc_j4 {l : List Int} (hb : Bytes l) (L p h w : Int) (hB : mBoth L p h = true) (hw : inr (p + 1) 500 w = true) : Ev (fun k => laws_FnShadowsCast.j4 k l L w (loA (wallX L p h w) p) (loB (wallX L p h w) p) false p h) true := by
 refine Ev.succ ?_
 simp only [laws_FnShadowsCast.j4, Bool.false_eq_true, if_false]
 have hb2 := mBoth_iff.1 hB
 have hW := wall_bd hB hw
 have cr := lo_cross (wallX L p h w) p
 have u0 := loA_nonneg (a := wallX L p h w) (b := p) (by omega) (by omega)
 have v0 := loB_pos (a := wallX L p h w) (b := p) (by omega)
 by_cases c : loA (wallX L p h w) p > 0
 ·have hx : wallX L p h w = L * p - (L - h) * w := by
   unfold wallX
   by_cases c2 : L * p - (L - h) * w ≤ 0
   ·have : wallX L p h w = 0 := if_pos c2
    rw [this, (lo0 (p := p) (by omega)).1] at c
    omega
   ·exact if_neg c2
  simp only [c, if_true]
  generalize loA (wallX L p h w) p = u at *
  generalize loB (wallX L p h w) p = v at *
  rw [hx] at cr hW u0
  have p1 := mul_bd (a := u) (b := p) (A := 100000) (B := 500) (by omega) (by omega) (by omega) (by omega)
  have p2 := mul_bd (a := v) (b := L * p - (L - h) * w) (A := 500) (B := 100000) (by omega) (by omega) (by omega) (by omega)
  rw [wid (show -9223372036854775808 ≤ u * p by omega) (by omega), wid (show -9223372036854775808 ≤ L * p by omega) (by omega), wid (show -9223372036854775808 ≤ L - h by omega) (by omega), wid (show -9223372036854775808 ≤ (L - h) * w by omega) (by omega), wid (show -9223372036854775808 ≤ L * p - (L - h) * w by omega) (by omega), wid (show -9223372036854775808 ≤ v * (L * p - (L - h) * w) by omega) (by omega)]
  have e3 : u * p = v * (L * p - (L - h) * w) := by rw [cr, Int.mul_comm]
  simp only [e3, if_true]
  exact sc_j5 hb
 ·simp only [c, if_false]
  exact sc_j5 hb
theorem sc_j3 {l : List Int} (hb : Bytes l) (L p h w : Int) : Ev (fun k => laws_FnShadowsCast.j3 k l L w (mSE L p h).1 (mSE L p h).2.1 (mSW L p h w).1 (mSW L p h w).2.1 (mSW L p h w).2.2 p h) true := by
 refine Ev.succ ?_
 simp only [laws_FnShadowsCast.j3]
 cases hc : mBoth L p h && inr (p + 1) 500 w with
 | false =>
  rw [show mSW L p h w = (0, 0, false) by unfold mSW; rw [hc]; rfl]
  simp only [Bool.false_eq_true, if_false]
  exact sc_j5 hb
 | true =>
  obtain ⟨hB, hw⟩ := Bool.and_eq_true_iff.1 hc
  rw [show mSW L p h w = (loA (wallX L p h w) p, loB (wallX L p h w) p, true) by unfold mSW; rw [hc]; rfl]
  rw [show mSE L p h = (loA (p * L) (L - h), loB (p * L) (L - h), true) by unfold mSE; rw [hB]; rfl]
  simp only [if_true]
  have hb2 := mBoth_iff.1 hB
  have hw2 := inr_iff.1 hw
  have hW := wall_bd hB hw
  have hp2 := bd2 hB
  refine Ev.bind (laws_yLow.ev (by omega) (by omega)) ?_
  have j4 := sc_j4 hb L p h w hB hw
  have cr := lo_cross (wallX L p h w) p
  have u0 := loA_nonneg (a := wallX L p h w) (b := p) (by omega) (by omega)
  have v0 := loB_pos (a := wallX L p h w) (b := p) (by omega)
  have cre := lo_cross (p * L) (L - h)
  have ue := loA_nonneg (a := p * L) (b := L - h) (by omega) (by omega)
  have ve := loB_pos (a := p * L) (b := L - h) (by omega)
  have hD : 0 < L - h := by omega
  have hx0 : wallX L p h w = 0 ∨ wallX L p h w = L * p - (L - h) * w ∧ 0 < L * p - (L - h) * w := by unfold wallX; split <;> omega
  have hx1 : wallX L p h w ≤ 0 ↔ L * p ≤ (L - h) * w := by unfold wallX; split <;> omega
  have pwp : 0 < (L - h) * (w - p) := Int.mul_pos hD (by omega)
  have php : 0 < h * p := Int.mul_pos (by omega) (by omega)
  have hxl : wallX L p h w < h * p := by
   rcases hx0 with e | ⟨e, _⟩
   ·omega
   ·rw [e]
    have : L * p - (L - h) * w = h * p - (L - h) * (w - p) := by grind
    omega
  generalize loA (wallX L p h w) p = u at *
  generalize loB (wallX L p h w) p = v at *
  generalize loA (p * L) (L - h) = a at *
  generalize loB (p * L) (L - h) = b at *
  generalize hX : wallX L p h w = X at *
  have phv := mul_bd (a := h) (b := v) (A := 200) (B := 500) (by omega) (by omega) (by omega) (by omega)
  have pwb := mul_bd (a := w) (b := b) (A := 500) (B := 200) (by omega) (by omega) (by omega) (by omega)
  rw [wid (show -9223372036854775808 ≤ h * v by omega) (by omega), wid (show -9223372036854775808 ≤ w * b by omega) (by omega)]
  have k1 : u < h * v := by
   refine Int.lt_of_mul_lt_mul_right (a := p) ?_ (by omega)
   have := Int.mul_pos (show 0 < h * p - X by omega) (show 0 < v by omega)
   have e : h * v * p = u * p + (h * p - X) * v := by grind
   omega
  have k2 : (u == 0) = decide (w * b ≥ a) := by
   have z1 : u = 0 ↔ X = 0 := by
    constructor
    ·intro e
     rw [e, Int.zero_mul] at cr
     rcases Int.mul_eq_zero.1 cr.symm with h | h
     ·exact h
     ·omega
    ·intro e
     rw [e, Int.zero_mul] at cr
     rcases Int.mul_eq_zero.1 cr with h | h
     ·exact h
     ·omega
   have z2 : w * b ≥ a ↔ X = 0 := by
    have e1 : (w * b - a) * (L - h) = ((L - h) * w - L * p) * b := by grind
    constructor
    ·intro q
     have := Int.mul_nonneg (show 0 ≤ w * b - a by omega) (show 0 ≤ L - h by omega)
     have q2 : 0 ≤ (L - h) * w - L * p := by
      rcases Int.lt_or_le ((L - h) * w - L * p) 0 with n | n
      ·have := Int.mul_pos (show 0 < -((L - h) * w - L * p) by omega) (show 0 < b by omega)
       rw [Int.neg_mul] at this
       omega
      ·exact n
     have := hx1.2 (by omega)
     omega
    ·intro q
     have q2 := hx1.1 (by omega)
     have := Int.mul_nonneg (show 0 ≤ (L - h) * w - L * p by omega) (show 0 ≤ b by omega)
     rcases Int.lt_or_le (w * b) a with n | n
     ·have := Int.mul_pos (show 0 < a - w * b by omega) hD
      have e2 : (a - w * b) * (L - h) = -((w * b - a) * (L - h)) := by grind
      omega
     ·exact n
   rw [Bool.eq_iff_iff, beq_iff_eq, decide_eq_true_eq, z1, z2]
  simp only [if_true, show ¬ (u < 0) by omega, show ¬ (u ≥ h * v) by omega, if_false, k2, bne_self_eq_false]
  exact j4
theorem sc_j2 {l : List Int} (hb : Bytes l) (L p h w : Int) (f : Bool) (hB : mBoth L p h = true) (hf : f = true → loB (p * h) (L - h) = 1 ∧ (mSL L p h).1 ≤ 500) : Ev (fun k => laws_FnShadowsCast.j2 k l L w (mSL L p h).1 (mSE L p h).1 (mSE L p h).2.1 (mSW L p h w).1 (mSW L p h w).2.1 (mSW L p h w).2.2 f p h) true := by
 refine Ev.succ ?_
 simp only [laws_FnShadowsCast.j2]
 have j3 := sc_j3 hb L p h w
 cases f with
 | false => simp only [Bool.false_eq_true, if_false]; exact j3
 | true =>
  obtain ⟨h1, h2⟩ := hf rfl
  have hb2 := mBoth_iff.1 hB
  have hp2 := bd2 hB
  simp only [if_true]
  revert h2
  rw [show mSL L p h = (loA (p * h) (L - h), loB (p * h) (L - h), true) by unfold mSL; rw [hB]; rfl]
  simp only
  intro h2
  have cr := lo_cross (p * h) (L - h)
  rw [h1] at cr
  have u0 := loA_nonneg (a := p * h) (b := L - h) (by omega) (by omega)
  generalize loA (p * h) (L - h) = s at *
  have php : 0 < p * h := Int.mul_pos (by omega) (by omega)
  have hs : 1 ≤ s := by
   rcases Int.lt_or_le s 1 with q | q
   ·have e : s = 0 := by omega
    rw [e, Int.zero_mul] at cr; omega
   ·exact q
  have b1 := mul_bd (a := h) (b := p + s) (A := 200) (B := 1000) (by omega) (by omega) (by omega) (by omega)
  have b2 := mul_bd (a := L) (b := s) (A := 200) (B := 500) (by omega) (by omega) (by omega) (by omega)
  have b3 := mul_bd (a := s) (b := L - h) (A := 500) (B := 200) (by omega) (by omega) (by omega) (by omega)
  refine Ev.bind (impl_LampOfShadow.ev p h s) ?_
  refine Ev.bind (impl_PoleOfShadow.ev L p s) ?_
  refine Ev.bind (impl_PlaceOfShadow.ev L h s) ?_
  rw [show mLS p h s = (loA (h * (p + s)) s, loB (h * (p + s)) s, true) by unfold mLS; rw [show (mPoleOk p h && inr 1 500 s) = true by simp only [Bool.and_eq_true, inr_iff, mPoleOk_iff]; omega]; rfl]
  rw [show mPS L p s = (loA (L * s) (p + s), loB (L * s) (p + s), true) by unfold mPS; rw [show (inr 2 200 L && (inr 1 500 p && inr 1 500 s)) = true by simp only [Bool.and_eq_true, inr_iff]; omega]; rfl]
  rw [show mPl L h s = (loA (s * (L - h)) h, loB (s * (L - h)) h, true) by unfold mPl; rw [show (inr 2 200 L && (inr 1 (L - 1) h && inr 1 500 s)) = true by simp only [Bool.and_eq_true, inr_iff]; omega]; rfl]
  simp only [if_true]
  refine Ev.bind (yIs_fr (by omega) (by omega) (by omega) (by omega) (by grind)) ?_
  simp only [if_true]
  refine Ev.bind (yIs_fr (by omega) (by omega) (by omega) (by omega) (by grind)) ?_
  simp only [if_true]
  refine Ev.bind (yIs_fr (by omega) (by omega) (by omega) (by omega) (by grind)) ?_
  simp only [if_true]
  exact j3
theorem sc_j1 {l : List Int} (hb : Bytes l) (L p h w : Int) (hB : mBoth L p h = true) : Ev (fun k => laws_FnShadowsCast.j1 k l L w (mSL L p h).1 (mSL L p h).2.1 (mSE L p h).1 (mSE L p h).2.1 (mSW L p h w).1 (mSW L p h w).2.1 (mSW L p h w).2.2 false p h) true := by
 refine Ev.succ ?_
 simp only [laws_FnShadowsCast.j1, Bool.false_eq_true, if_false]
 by_cases h2 : (mSL L p h).2.1 = 1
 ·simp only [h2, if_true]
  refine sc_j2 hb L p h w _ hB (fun q => ⟨?_, by simpa using q⟩)
  unfold mSL at h2
  rw [hB] at h2
  exact h2
 ·simp only [h2, if_false]
  exact sc_j2 hb L p h w false hB (fun q => by simp at q)
theorem sc_j0 {l : List Int} (hb : Bytes l) (L p h w : Int) : Ev (fun k => laws_FnShadowsCast.j0 k l L w (mSL L p h).1 (mSL L p h).2.1 (mSL L p h).2.2 (mSE L p h).1 (mSE L p h).2.1 (mSW L p h w).1 (mSW L p h w).2.1 (mSW L p h w).2.2 false p h) true := by
 refine Ev.succ ?_
 simp only [laws_FnShadowsCast.j0, Bool.false_eq_true, if_false]
 cases hB : mBoth L p h with
 | false =>
  rw [show (mSL L p h).2.2 = false by unfold mSL; rw [fr_ok]; exact hB]
  simp only [Bool.false_eq_true, if_false]
  exact sc_j3 hb L p h w
 | true =>
  rw [show (mSL L p h).2.2 = true by unfold mSL; rw [fr_ok]; exact hB]
  simp only [if_true]
  have hb2 := mBoth_iff.1 hB
  have hp2 := bd2 hB
  have j1 := sc_j1 hb L p h w hB
  revert j1
  rw [show mSL L p h = (loA (p * h) (L - h), loB (p * h) (L - h), true) by unfold mSL; rw [hB]; rfl]
  rw [show mSE L p h = (loA (p * L) (L - h), loB (p * L) (L - h), true) by unfold mSE; rw [hB]; rfl]
  simp only
  intro j1
  rw [wid (show -9223372036854775808 ≤ p * h by omega) (by omega), wid (show -9223372036854775808 ≤ L - h by omega) (by omega)]
  refine Ev.bind (yIs_fr (by omega) (by omega) (by omega) (by omega) rfl) ?_
  simp only [if_true]
  have cr := lo_cross (p * h) (L - h)
  have u0 := loA_nonneg (a := p * h) (b := L - h) (by omega) (by omega)
  have v0 := loB_pos (a := p * h) (b := L - h) (by omega)
  have b1 := mul_bd (a := p) (b := loB (p * h) (L - h)) (A := 500) (B := 200) (by omega) (by omega) (by omega) (by omega)
  rw [wid (show -9223372036854775808 ≤ p * loB (p * h) (L - h) by omega) (by omega), wid (show -9223372036854775808 ≤ p * loB (p * h) (L - h) + loA (p * h) (L - h) by omega) (by omega)]
  refine Ev.bind (yIs_fr (x := p * L) (y := L - h) (u := p * loB (p * h) (L - h) + loA (p * h) (L - h)) (v := loB (p * h) (L - h)) (by omega) (by omega) (by omega) (by omega) (by grind)) ?_
  simp only [Bool.not_true]
  exact j1
theorem sc_f {l0 l1 : List Int} (hb0 : Bytes l0) (hb1 : Bytes l1) (hl0 : l0.length ≤ maxLen) (hl1 : l1.length ≤ maxLen) : Ev (fun k => laws_FnShadowsCast.f k l0 l1) true := by
 obtain ⟨L, p, h, w, e⟩ := drawWall_ok hb0
 have hbig : ∃ b, laws_big.f l0 l1 = some b := by unfold laws_big.f; split <;> exact ⟨_, rfl⟩
 obtain ⟨b, hbig⟩ := hbig
 unfold laws_FnShadowsCast.f
 refine Ev.bindc hbig ?_
 cases b with
 | true => simp only [if_true]; exact Ev.now _
 | false =>
  simp only [Bool.false_eq_true, if_false, e, Option.bind_some]
  refine Ev.bind (impl_ShadowLength.ev L p h) ?_
  refine Ev.bind (spec_ShadowLength.ev L p h) ?_
  refine Ev.bind (impl_ShadowEnd.ev L p h) ?_
  refine Ev.bind (spec_ShadowEnd.ev L p h) ?_
  refine Ev.bind (impl_ShadowOnWall.ev L p h w) ?_
  refine Ev.bind (spec_ShadowOnWall.ev L p h w) ?_
  refine Ev.bind (impl_HiddenHeight.ev L p h w) ?_
  refine Ev.bind (spec_HiddenHeight.ev L p h w) ?_
  have j0 := sc_j0 hb1 L p h w
  have e1 : (mSE L p h).2.2 = (mSL L p h).2.2 := by unfold mSE mSL; rw [fr_ok, fr_ok]
  simp only [bne_self_eq_false, e1, Bool.false_eq_true, if_false, if_true]
  cases ht : (mSW L p h w).2.2 with
  | false =>
   simp only [Bool.false_eq_true, if_false]
   rw [ht] at j0
   exact j0
  | true =>
   have hB : (mSL L p h).2.2 = true := by
    unfold mSW at ht
    rw [fr_ok] at ht
    unfold mSL
    rw [fr_ok]
    exact (Bool.and_eq_true_iff.1 ht).1
   simp only [if_true, hB, Bool.not_true]
   rw [ht, hB] at j0
   exact j0
end Go.Proofs.Ytdlcefclefbdjaa.P

namespace Go.Proofs.Ytdlcefclefbdjaa.Pure
open Go.RowKit Go.Proofs.YtdlcefclefbdjaaW.PrintWords Go.Proofs.YtdlcefclefbdjaaW.PrintLast Go.Proofs.YtdlcefclefbdjaaW.PrintMore Go.Proofs.Ytdlcefclefbdjaa.P
set_option linter.unusedVariables false
set_option linter.unusedSimpArgs false
theorem FnShadowsCast : laws_FnShadowsCast.Pure := by
 intro l0 l1 h1 _ hb0 h2 _ hb1
 exact Ev.rounds (sc_f hb0 hb1 h1 h2)
end Go.Proofs.Ytdlcefclefbdjaa.Pure

namespace Go.Proofs.Ytdlcefclefbdjaa.fnShadowsCast
open Go.ChangeShapes Go.WideShapes Go.ChangeAt Go.RowKit
open Go.ChangeMaps (open_string shut_string)
set_option linter.unusedVariables false
theorem own : ownKnob Try.prog.godebug = none := by kernel_rfl
theorem laidOut : laidOutB Try.prog = true := by kernel_rfl
def IsRow (k : IntKind) (w : World) (a : Option Addr) (len cap : Nat) (zs : List Int) : Prop :=
 (a = none ∧ len = 0 ∧ cap = 0 ∧ zs = []) ∨
 ∃ x, a = some x ∧ len ≤ cap ∧ cap ≤ maxLen ∧ zs.length = cap ∧ (∀ i, i < zs.length → w.cell? (x.add i) = some (.int k (zs.getD i 0))) ∧ ∀ n ∈ zs, (Lit.int k n).wf = true
set_option maxRecDepth 100000 in
theorem lifted (os : Os) (started : os.Started) (H : Type) (enc : TypeId × Value → H) :
  ReturnsInHanded {} Try.checked os 5 .any (Rows.fnShadowsCastSpec.pre6 enc Try.prog Try.f5 Rows.fnShadowsCastRow.domain false) (Rows.fnShadowsCastSpec.post enc Try.prog Try.f5 false true false false) := by
 refine returnsInHanded_of_change_sized (C := Try.checked) own started (by kernel_rfl) Try.func5
  (ChangeSpec.witness6 (enc := enc) (C := Try.checked) false ⟨#[], #[.slice none 0 0, .slice none 0 0], []⟩ 8 (by kernel_rfl) (by kernel_rfl) (by kernel_rfl) (by kernel_rfl)) ?_
 intro W base args ds gs before hval0 hW hcnd hsz0 _
 have hsz : (DataW.weightsEach Try.prog (Try.f5.params.toList ++ Rows.fnShadowsCastSpec.plain.varTypes Try.prog) (ds ++ gs)).all (· ≤ reachBytes) = true := hsz0
 have hval : ∀ (j : Nat) t v, Try.f5.params[j]? = some t → args[j]? = some v → Value.okWide Try.prog W .any base t v := hval0
 have hW' := hW
 obtain ⟨p, q, hA0, hV, rfl, hfz, hnd⟩ := hW
 have hA : DataW.TrodAll enc Try.prog W 0 (fun _ => true) true Try.f5.params.toList args.toList ds p := hA0
 rw [Try.params5] at hA hval hsz
 obtain ⟨v0, vs0, d0, ds0, p0, q0, hargs, rfl, rfl, h0, r0⟩ := trodAll_cons hA
 obtain ⟨v1, vs1, d1, ds1, p1, q1, rfl, rfl, rfl, h1, r1⟩ := trodAll_cons r0
 obtain ⟨rfl, rfl, rfl⟩ := trodAll_nil r1
 obtain rfl : args = #[v0, v1] := by cases args; simp_all
 obtain ⟨rfl, rfl⟩ := trodVars_none hV
 obtain ⟨a0, len0, cap0, rfl⟩ := okWide_slice Try.underlying45 (hval 0 45 v0 rfl rfl)
 have k0 := h0
 have lt0 : ∀ x ∈ p0, x.block < W.heap.size := by obtain ⟨m, hm⟩ := k0; exact DataW.trod_lt m _ _ _ hm
 obtain ⟨z0, w0⟩ : ∃ zs, IsRow .u8 W a0 len0 cap0 zs := by
  obtain ⟨fuel, hf⟩ := h0
  rcases open_ints Try.underlying45 Try.underlying5 (by kernel_rfl) hf with ⟨hcs, _⟩ | ⟨x, l, c, zs, hcs, _, hl, hm, hz, _, hcell, hwz⟩
  ·simp [Value.cells] at hcs
   obtain ⟨rfl, rfl, rfl⟩ := hcs
   exact ⟨[], .inl ⟨rfl, rfl, rfl, rfl⟩⟩
  ·simp [Value.cells] at hcs
   obtain ⟨rfl, rfl, rfl⟩ := hcs
   exact ⟨zs, .inr ⟨_, rfl, hl, hm, by simpa using hz, hcell, hwz⟩⟩
 have y0 : len0 * 1 ≤ 140737488351232 := Go.Proofs.YtdlcefclefbdjaaW.PrintWords.sized_ints hsz (j := 0) (t := 45) rfl rfl Try.underlying45 Try.underlying5 (by kernel_rfl) (by kernel_rfl) h0
 obtain ⟨a1, len1, cap1, rfl⟩ := okWide_slice Try.underlying45 (hval 1 45 v1 rfl rfl)
 have k1 := h1
 have lt1 : ∀ x ∈ p1, x.block < W.heap.size := by obtain ⟨m, hm⟩ := k1; exact DataW.trod_lt m _ _ _ hm
 obtain ⟨z1, w1⟩ : ∃ zs, IsRow .u8 W a1 len1 cap1 zs := by
  obtain ⟨fuel, hf⟩ := h1
  rcases open_ints Try.underlying45 Try.underlying5 (by kernel_rfl) hf with ⟨hcs, _⟩ | ⟨x, l, c, zs, hcs, _, hl, hm, hz, _, hcell, hwz⟩
  ·simp [Value.cells] at hcs
   obtain ⟨rfl, rfl, rfl⟩ := hcs
   exact ⟨[], .inl ⟨rfl, rfl, rfl, rfl⟩⟩
  ·simp [Value.cells] at hcs
   obtain ⟨rfl, rfl, rfl⟩ := hcs
   exact ⟨zs, .inr ⟨_, rfl, hl, hm, by simpa using hz, hcell, hwz⟩⟩
 have y1 : len1 * 1 ≤ 140737488351232 := Go.Proofs.YtdlcefclefbdjaaW.PrintWords.sized_ints hsz (j := 1) (t := 45) rfl rfl Try.underlying45 Try.underlying5 (by kernel_rfl) (by kernel_rfl) h1
 clear hA0 hval0 hsz0 hsz
 refine (P.laws_FnShadowsCast.walk Pure.FnShadowsCast a0 len0 cap0 z0 a1 len1 cap1 z1 W w0 y0 w1 y1).mono fun e W' ⟨he, bel⟩ => ?_
 subst he
 exact ⟨_, rfl, _, _, _, [], _, [], hW', trodAll_mk1 (shut_bool Try.underlying4 _), (trodAll_cons_mk (Below.trod laidOut (by kernel_rfl) (of_decide_eq_true (by kernel_rfl)) k0 bel lt0) (trodAll_cons_mk (Below.trod laidOut (by kernel_rfl) (of_decide_eq_true (by kernel_rfl)) k1 bel lt1) trodAll_mk0)), rfl, bel.frame _, fun h => by cases h⟩
theorem over : Rows.fnShadowsCastRow.holds Try.pinned (OpenSpec.ofChange Rows.fnShadowsCastSpec) :=
 OpenClaim.holds_of_wide 5 Try.f5 rfl rfl rfl rfl rfl rfl rfl ⟨rfl, rfl, rfl, rfl, rfl⟩ rfl rfl rfl rfl rfl (by kernel_rfl) Try.func5 (by kernel_rfl)
  (of_decide_eq_true (by kernel_rfl)) (by unfold Func.isWrapper; first | (rw [if_pos (by decide +kernel)]; kernel_rfl) | (rw [if_neg (by decide +kernel)]; exact ⟨rfl, rfl⟩))
  (fun os started H enc _ => lifted os started H enc)
theorem proved : Rows.FnShadowsCastSaid := over
end Go.Proofs.Ytdlcefclefbdjaa.fnShadowsCast
namespace Go.Proofs.Ytdlcefclefbdjaa
/-- The row, under a short name, for the claim. -/
theorem fnShadowsCast_holds : Rows.FnShadowsCastSaid := fnShadowsCast.proved
end Go.Proofs.Ytdlcefclefbdjaa
