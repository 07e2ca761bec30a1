/- The law FnIslandsMeasured is proved: a call of it returns true and leaves its arguments as they were; and what this needs. Every input that the given rows speak of; nothing else is asked. -/
import Derived.Test.YtakodhlaphloeaaGreatDoorOFnIslandsMeasured0
import Derived.Test.YtakodhlaphloeaaGreatDoorOFnIslandsMeasured1
import Derived.Test.YtakodhlaphloeaaGreatDoorOFnIslandsMeasured2
import Derived.Lib.AtoiTie
import Derived.Test.YtakodhlaphloeaaGreatDoorOFnIslandsMeasured4
import Derived.Test.YtakodhlaphloeaaGreatDoorOFnIslandsMeasured3
import Derived.Test.YtakodhlaphloeaaGreatDoorRows
import Derived.Test.YtakodhlaphloeaaGreatDoorCards
import Derived.Test.YtakodhlaphloeaaGreatDoorTie
import Derived.WalkKit
import Derived.ProofKit
import Derived.OpenShut
import Derived.ShutString
import Derived.ChangeOld
import Derived.Below
import Derived.SizedLaws
import Derived.Deep.Slices
import Derived.Deep.Fields
import Derived.ChangeSame
import Derived.Lib.SmallJoins
import Derived.Handed
import Derived.LaidLaws
import Derived.LaidMore
import Derived.Stop.LaidErr
import Derived.Lib.LaidTab
import Derived.SevenTiedAt
import Derived.ShapedOpen
import Derived.Lay
import Derived.Test.YtakodhlaphloeaaGreatDoorOW
namespace Go.Proofs.YtakodhlaphloeaaGreatDoor.P
open Go.RowKit Go.Proofs.YtakodhlaphloeaaGreatDoorW.PrintWords Go.Proofs.YtakodhlaphloeaaGreatDoorW.PrintLast Go.Proofs.YtakodhlaphloeaaGreatDoorW.PrintMore
set_option linter.unusedVariables false
theorem zO5_0 {p : Prop} (h : p := by unfold wRow; split <;> (try simp only [List.length_append, List.length_cons, List.length_nil]) <;> omega) : p := h
theorem zO5_1 {p : Prop} (h : p := by rw [msz]; omega) : p := h
theorem zO5_2 {p : Prop} (h : p := by omega) : p := h
theorem zO5_3 {p : Prop} (h : p := by simp) : p := h
end Go.Proofs.YtakodhlaphloeaaGreatDoor.P
namespace Go.Proofs.YtakodhlaphloeaaGreatDoor.P
open Go.RowKit Go.Proofs.YtakodhlaphloeaaGreatDoorW.PrintWords Go.Proofs.YtakodhlaphloeaaGreatDoorW.PrintLast Go.Proofs.YtakodhlaphloeaaGreatDoorW.PrintMore
set_option linter.unusedVariables false
set_option linter.unusedSimpArgs false
theorem wid {x : Int} (h0 : -9223372036854775808 ≤ x) (h1 : x ≤ 9223372036854775807) : wrap64 x = x := by unfold wrap64; omega
/-- lo ≤ n ≤ hi, as a Bool. -/
def inr (lo hi n : Int) : Bool := decide (lo ≤ n) && decide (n ≤ hi)
theorem inr_iff {lo hi n : Int} : inr lo hi n = true ↔ lo ≤ n ∧ n ≤ hi := by unfold inr; simp
theorem mul_bd {a b A B : Int} (h0 : 0 ≤ a) (h1 : a ≤ A) (h2 : 0 ≤ b) (h3 : b ≤ B) : 0 ≤ a * b ∧ a * b ≤ A * B :=
 ⟨Int.mul_nonneg h0 h2, Int.mul_le_mul h1 h3 h2 zO5_2⟩
theorem ev_eq {α : Type} {g : Nat → Option α} {r s : α} (h : Ev g r) (e : r = s) : Ev g s := e ▸ h
/-- A row of rounds that doesn't hang on the rounds. -/
theorem Ev.const {α : Type} {g : Option α} {r : α} (h : g = some r) : Ev (fun _ => g) r := ⟨0, fun _ _ => h⟩
theorem all1 {p : Int → Bool} {a : Int} : [a].all p = p a := by simp
theorem rd_cons0 (x : Int) (l : List Int) : rd (x :: l) 0 = x := rfl
def Bytes (l : List Int) : Prop := ∀ x ∈ l, (Lit.int .u8 x).wf = true
theorem rd_byte {l : List Int} (hb : Bytes l) {p : Int} (h0 : 0 ≤ p) (h1 : p < (l.length : Int)) : 0 ≤ rd l p ∧ rd l p ≤ 255 := by
 have hm : rd l p ∈ l := by
  unfold rd
  rw [List.getD_eq_getElem?_getD, List.getElem?_eq_getElem (show p.toNat < l.length by omega)]
  exact List.getElem_mem _
 have h := hb _ hm
 simp only [Lit.wf, Bool.and_eq_true, decide_eq_true_eq] at h
 exact ⟨h.1, h.2⟩
theorem and255 (x : Int) (h0 : 0 ≤ x) (h1 : x < 18446744073709551616) : Go.bits .and .u64 x 255 = x % 256 := by
 have h := bits_mask .u64 64 (by decide) (fun n h0 h1 => by rw [IntKind.wrap_u64]; omega) 8 (by decide) x h0 zO5_2
 simpa using h
theorem next_ok {l : List Int} (hb : Bytes l) {p s : Int} (h0 : 0 ≤ p) (h1 : p ≤ 1152921504606846976) : ∃ b s', spec_l1Cur_next.f l p s = some (b, p + 1, s') ∧ 0 ≤ b ∧ b ≤ 255 := by
 unfold spec_l1Cur_next.f
 rw [wid (show -9223372036854775808 ≤ p + 1 by omega) zO5_2]
 have hw : ∀ y : Int, 0 ≤ wrap64 (Go.bits .and .u64 (IntKind.u64.wrap y / 1099511627776) 255) ∧ wrap64 (Go.bits .and .u64 (IntKind.u64.wrap y / 1099511627776) 255) ≤ 255 := by
  intro y
  have hy : 0 ≤ IntKind.u64.wrap y ∧ IntKind.u64.wrap y < 18446744073709551616 := by rw [IntKind.wrap_u64]; omega
  rw [and255 _ zO5_2 zO5_2, wid zO5_2 zO5_2]
  omega
 by_cases c1 : p < (l.length : Int)
 ·have hr := rd_byte hb h0 c1
  simp only [c1, h0, if_true, show p + 1 ≤ (l.length : Int) by omega]
  exact ⟨_, _, rfl, by rw [wid zO5_2 zO5_2]; exact hr⟩
 ·simp only [c1, if_false, show ¬ (p + 1 ≤ (l.length : Int)) by omega]
  exact ⟨_, _, rfl, hw _⟩
theorem pick_ok {l : List Int} (hb : Bytes l) {p s : Int} (h0 : 0 ≤ p) (h1 : p ≤ 1152921504606840000) (n : Int) (hn : 0 < n) : ∃ x p' s', spec_l1Cur_pick.f l p s n = some (x, p', s') ∧ (0 ≤ x ∧ x < n) ∧ p ≤ p' ∧ p' ≤ p + 2 := by
 unfold spec_l1Cur_pick.f
 by_cases c : n ≤ 1
 ·simp only [c, if_true]
  exact ⟨_, _, _, rfl, by omega, by omega, by omega⟩
 ·obtain ⟨b, s1, e1, hb0, hb1⟩ := next_ok hb (s := s) h0 zO5_2
  simp only [c, if_false, e1, Option.bind_some, show ¬ n = 0 by omega]
  by_cases c2 : n > 200
  ·obtain ⟨b2, s2, e2, hb2, hb3⟩ := next_ok hb (p := p + 1) (s := s1) zO5_2 zO5_2
   simp only [c2, if_true, e2, Option.bind_some]
   rw [wid (show -9223372036854775808 ≤ b * 256 by omega) zO5_2, wid (show -9223372036854775808 ≤ b * 256 + b2 by omega) zO5_2]
   exact ⟨_, _, _, rfl, ⟨Int.tmod_nonneg _ zO5_2, Int.tmod_lt_of_pos _ hn⟩, by omega, by omega⟩
  ·simp only [c2, if_false]
   exact ⟨_, _, _, rfl, ⟨Int.tmod_nonneg _ zO5_2, Int.tmod_lt_of_pos _ hn⟩, by omega, by omega⟩
theorem one_ok {l : List Int} (hb : Bytes l) {p s : Int} (h0 : 0 ≤ p) (h1 : p ≤ 1152921504606840000) (n : Int) (hn : 0 < n) : ∃ x p' s', spec_l1Cur_one.f l p s n = some (x, p', s') ∧ p ≤ p' ∧ p' ≤ p + 2 := by
 obtain ⟨x, p', s', e, _, h2, h3⟩ := pick_ok hb (s := s) h0 h1 n hn
 unfold spec_l1Cur_one.f
 rw [e]
 exact ⟨_, _, _, rfl, h2, h3⟩
theorem among_ok {l : List Int} (hb : Bytes l) {p s : Int} (h0 : 0 ≤ p) (h1 : p ≤ 1152921504606840000) (L : List Int) (hL : 0 < L.length) : ∃ x p' s', spec_l1Cur_among.f l p s L = some (x, p', s') ∧ p ≤ p' ∧ p' ≤ p + 2 := by
 obtain ⟨x, p', s', e, hx, h2, h3⟩ := pick_ok hb (s := s) h0 h1 (L.length : Int) zO5_2
 unfold spec_l1Cur_among.f
 rw [e]
 simp only [Option.bind_some, hx.1, hx.2, if_true]
 exact ⟨_, _, _, rfl, h2, h3⟩
theorem staff_ok {l : List Int} (hb : Bytes l) {p s : Int} (h0 : 0 ≤ p) (h1 : p ≤ 1152921504606830000) : ∃ x p' s', spec_l1Cur_staff.f l p s = some (x, p', s') ∧ p ≤ p' ∧ p' ≤ p + 4 := by
 obtain ⟨x, p1, s1, e1, h2, h3⟩ := one_ok hb (s := s) h0 zO5_2 14 zO5_2
 unfold spec_l1Cur_staff.f
 rw [e1]
 simp only [Option.bind_some]
 cases x with
 | true =>
  obtain ⟨y, p2, s2, e2, h4, h5⟩ := among_ok hb (p := p1) (s := s1) zO5_2 zO5_2 [0, -1, 100, 101, 4611686018427387904] zO5_3
  simp only [if_true, e2, Option.bind_some]
  exact ⟨_, _, _, rfl, by omega, by omega⟩
 | false =>
  obtain ⟨y, p2, s2, e2, _, h4, h5⟩ := pick_ok hb (p := p1) (s := s1) zO5_2 zO5_2 6 zO5_2
  simp only [Bool.false_eq_true, if_false, e2, Option.bind_some]
  exact ⟨_, _, _, rfl, by omega, by omega⟩
theorem long_ok {l : List Int} (hb : Bytes l) {p s : Int} (h0 : 0 ≤ p) (h1 : p ≤ 1152921504606830000) : ∃ x p' s', spec_l1Cur_long.f l p s = some (x, p', s') ∧ p ≤ p' ∧ p' ≤ p + 4 := by
 obtain ⟨x, p1, s1, e1, h2, h3⟩ := one_ok hb (s := s) h0 zO5_2 14 zO5_2
 unfold spec_l1Cur_long.f
 rw [e1]
 simp only [Option.bind_some]
 cases x with
 | true =>
  obtain ⟨y, p2, s2, e2, h4, h5⟩ := among_ok hb (p := p1) (s := s1) zO5_2 zO5_2 [0, -1, 2000, 2001, 4611686018427387904] zO5_3
  simp only [if_true, e2, Option.bind_some]
  exact ⟨_, _, _, rfl, by omega, by omega⟩
 | false =>
  obtain ⟨y, p2, s2, e2, _, h4, h5⟩ := pick_ok hb (p := p1) (s := s1) zO5_2 zO5_2 12 zO5_2
  simp only [Bool.false_eq_true, if_false, e2, Option.bind_some]
  exact ⟨_, _, _, rfl, by omega, by omega⟩
theorem Ev.succ {α : Type} {g : Nat → Option α} {r : α} (h : Ev (fun k => g (k + 1)) r) : Ev g r := Ev.step (fun _ => rfl) h
theorem Ev.ite {α : Type} {c : Prop} [Decidable c] {g f : Nat → Option α} {r s : α} (h1 : c → Ev g r) (h2 : ¬ c → Ev f s) : Ev (fun k => if c then g k else f k) (if c then r else s) := by
 by_cases h : c
 ·simp only [if_pos h]; exact h1 h
 ·simp only [if_neg h]; exact h2 h
theorem Ev.bindc {α β : Type} {g : Option α} {f : Nat → α → Option β} {a : α} {r : β} (h : g = some a) (k : Ev (fun n => f n a) r) : Ev (fun n => g.bind (f n)) r := by
 subst h; exact k
theorem size_ext (s : ByteArray) (i j : Nat) (hj : j ≤ s.size) : (s.extract i j).size = j - i := by
 rw [ByteArray.size_extract, Nat.min_eq_left hj]
theorem size_one (x : Int) : (strOfNums [x]).size = 1 := by simp [strOfNums, ByteArray.size]
theorem sp_hw {i : Nat} (h : i ≤ 1000000) : wrap64 ((i : Int) + 1) = ((i + 1 : Nat) : Int) := by rw [wid zO5_2 zO5_2]; rfl
theorem sp_hm {n : Nat} (h : n ≤ 1000000) : wrap64 (((n + 1 : Nat) : Int) - 1) = (n : Int) := by rw [wid zO5_2 zO5_2]; omega
theorem spoilt_l0_ok {b : List Int} (hb : Bytes b) (t : ByteArray) (ht : 0 < t.size ∧ t.size ≤ 100) (n : Nat) : ∀ (s : ByteArray) (p q : Int), s.size + n ≤ 100000 → 0 ≤ p → p ≤ 1152921504606000000 - 10 * (n : Int) → ∃ s' p' q', Ev (fun k => spec_l1Cur_spoilt.l0 k s t (n : Int) b p q) (s', p', q') ∧ s'.size ≤ s.size + n := by
 induction n with
 | zero =>
  intro s p q hs h0 h1
  refine ⟨s, p, q, Ev.succ ?_, by omega⟩
  simp only [spec_l1Cur_spoilt.l0, show ¬ (((0 : Nat) : Int) > 0) by omega, if_false]
  refine Ev.succ ?_
  simp only [spec_l1Cur_spoilt.j1, Bool.false_eq_true, if_false]
  exact Ev.now _
 | succ n ih =>
  intro s p q hs h0 h1
  by_cases hz : 0 < s.size
  ·obtain ⟨x, p1, s1, e1, q1, h2, h3⟩ := pick_ok hb (p := p) (s := q) h0 zO5_2 (s.size : Int) zO5_2
   obtain ⟨y, p2, s2, e2, q2, h4, h5⟩ := pick_ok hb (p := p1) (s := s1) zO5_2 zO5_2 (t.size : Int) zO5_2
   obtain ⟨z, p3, s3, e3, q3, h6, h7⟩ := pick_ok hb (p := p2) (s := s2) zO5_2 zO5_2 3 zO5_2
   obtain ⟨i, rfl⟩ : ∃ i : Nat, x = (i : Int) := ⟨x.toNat, by omega⟩
   have z1 := size_ext s 0 i zO5_2
   have z2 := size_ext s i s.size (Nat.le_refl _)
   have z3 := size_ext s (i + 1) s.size (Nat.le_refl _)
   have z4 := size_one (bt t y)
   by_cases c0 : z = 0
   ·have a1 : ((s.extract 0 i ++ strOfNums [bt t y]) ++ s.extract i s.size).size = s.size + 1 := by rw [ByteArray.size_append, ByteArray.size_append, z1, z2, z4]; omega
    obtain ⟨s', p', q', e, hsz⟩ := ih ((s.extract 0 i ++ strOfNums [bt t y]) ++ s.extract i s.size) p3 s3 zO5_2 zO5_2 zO5_2
    refine ⟨s', p', q', Ev.succ ?_, by omega⟩
    simp only [spec_l1Cur_spoilt.l0, show (((n + 1 : Nat) : Int) > 0) by omega, if_true, decide_eq_true (show (s.size : Int) > 0 by omega)]
    refine Ev.succ ?_
    simp only [spec_l1Cur_spoilt.j1, if_true, e1, e2, e3, Option.bind_some, q2.1, q2.2, if_pos c0, Int.toNat_natCast, show (0 : Int) ≤ (i : Int) by omega, show (i : Int) ≤ (s.size : Int) by omega, ByteArray.size_append, z1, z2, z4, sp_hm (show n ≤ 1000000 by omega), show i - 0 + 1 ≤ 9223372036854775807 by omega, show i - 0 + 1 + (s.size - i) ≤ 9223372036854775807 by omega]
    exact e
   ·by_cases c1 : z = 1
    ·have a1 : ((s.extract 0 i ++ strOfNums [bt t y]) ++ s.extract (i + 1) s.size).size = s.size := by rw [ByteArray.size_append, ByteArray.size_append, z1, z3, z4]; omega
     obtain ⟨s', p', q', e, hsz⟩ := ih ((s.extract 0 i ++ strOfNums [bt t y]) ++ s.extract (i + 1) s.size) p3 s3 zO5_2 zO5_2 zO5_2
     refine ⟨s', p', q', Ev.succ ?_, by omega⟩
     simp only [spec_l1Cur_spoilt.l0, show (((n + 1 : Nat) : Int) > 0) by omega, if_true, decide_eq_true (show (s.size : Int) > 0 by omega)]
     refine Ev.succ ?_
     simp only [spec_l1Cur_spoilt.j1, if_true, e1, e2, e3, Option.bind_some, q2.1, q2.2, if_neg c0, if_pos c1, Int.toNat_natCast, sp_hw (show i ≤ 1000000 by omega), show (0 : Int) ≤ (i : Int) by omega, show (i : Int) ≤ (s.size : Int) by omega, show (0 : Int) ≤ ((i + 1 : Nat) : Int) by omega, show ((i + 1 : Nat) : Int) ≤ (s.size : Int) by omega, ByteArray.size_append, z1, z3, z4, sp_hm (show n ≤ 1000000 by omega), show i - 0 + 1 ≤ 9223372036854775807 by omega, show i - 0 + 1 + (s.size - (i + 1)) ≤ 9223372036854775807 by omega]
     exact e
    ·have a1 : (s.extract 0 i ++ s.extract (i + 1) s.size).size = s.size - 1 := by rw [ByteArray.size_append, z1, z3]; omega
     obtain ⟨s', p', q', e, hsz⟩ := ih (s.extract 0 i ++ s.extract (i + 1) s.size) p3 s3 zO5_2 zO5_2 zO5_2
     refine ⟨s', p', q', Ev.succ ?_, by omega⟩
     simp only [spec_l1Cur_spoilt.l0, show (((n + 1 : Nat) : Int) > 0) by omega, if_true, decide_eq_true (show (s.size : Int) > 0 by omega)]
     refine Ev.succ ?_
     simp only [spec_l1Cur_spoilt.j1, if_true, e1, e2, e3, Option.bind_some, q2.1, q2.2, if_neg c0, if_neg c1, Int.toNat_natCast, sp_hw (show i ≤ 1000000 by omega), show (0 : Int) ≤ (i : Int) by omega, show (i : Int) ≤ (s.size : Int) by omega, show (0 : Int) ≤ ((i + 1 : Nat) : Int) by omega, show ((i + 1 : Nat) : Int) ≤ (s.size : Int) by omega, z1, z3, sp_hm (show n ≤ 1000000 by omega), show i - 0 + (s.size - (i + 1)) ≤ 9223372036854775807 by omega]
     exact e
  ·refine ⟨s, p, q, Ev.succ ?_, by omega⟩
   simp only [spec_l1Cur_spoilt.l0, show (((n + 1 : Nat) : Int) > 0) by omega, if_true, decide_eq_false (show ¬ ((s.size : Int) > 0) by omega)]
   refine Ev.succ ?_
   simp only [spec_l1Cur_spoilt.j1, Bool.false_eq_true, if_false]
   exact Ev.now _
theorem spoilt_ok {b : List Int} (hb : Bytes b) {p q : Int} (h0 : 0 ≤ p) (h1 : p ≤ 1152921504605000000) {s t : ByteArray} (hs : s.size ≤ 90000) (ht : 0 < t.size ∧ t.size ≤ 100) : ∃ s' p' q', Ev (fun k => spec_l1Cur_spoilt.f k b p q s t) (s', p', q') ∧ s'.size ≤ 100000 := by
 obtain ⟨x, p1, s1, e1, q1, h2, h3⟩ := pick_ok hb (p := p) (s := q) h0 zO5_2 2 zO5_2
 obtain ⟨i, rfl⟩ : ∃ i : Nat, x = (i : Int) := ⟨x.toNat, by omega⟩
 obtain ⟨s', p', q', e, hz⟩ := spoilt_l0_ok hb t ht (1 + i) s p1 s1 zO5_2 zO5_2 zO5_2
 refine ⟨s', p', q', ?_, by omega⟩
 unfold spec_l1Cur_spoilt.f
 have hw : wrap64 (1 + (i : Int)) = ((1 + i : Nat) : Int) := by rw [wid zO5_2 zO5_2]; omega
 simp only [e1, Option.bind_some, hw]
 exact e
theorem spec_l1In.eq (a lo hi : Int) : spec_l1In.f a lo hi = some (inr lo hi a) := by
 unfold spec_l1In.f inr
 by_cases h : a ≥ lo
 ·rw [if_pos h]; simp [show lo ≤ a from h]
 ·rw [if_neg h]; simp [show ¬ lo ≤ a from h]
theorem spec_l1All.ev_l (l : List Int) (lo hi : Int) (hm : l.length ≤ 9223372036854775807) (d : Nat) : ∀ i : Nat, i + d = l.length → Ev (fun k => spec_l1All.l0 k lo hi l (l.length : Int) (i : Int)) ((l.drop i).all (inr lo hi)) := by
 induction d with
 | zero =>
  intro i he
  refine Ev.step (f := fun _ => some true) (fun k => by simp only [spec_l1All.l0]; rw [if_neg zO5_2]) ?_
  exact Ev.const (by rw [show i = l.length by omega, List.drop_length]; rfl)
 | succ d ih =>
  intro i he
  have hlt : i < l.length := by omega
  have hx : rd l (i : Int) = l[i] := by simp [rd, List.getD_eq_getElem?_getD, List.getElem?_eq_getElem hlt]
  have hd : (l.drop i).all (inr lo hi) = (inr lo hi l[i] && (l.drop (i + 1)).all (inr lo hi)) := by rw [List.drop_eq_getElem_cons hlt, List.all_cons]
  refine Ev.step (f := fun k => if inr lo hi l[i] = true then spec_l1All.l0 k lo hi l (l.length : Int) (((i + 1 : Nat)) : Int) else some false) (fun k => ?_) ?_
  ·simp only [spec_l1All.l0]
   rw [if_pos zO5_2, if_pos zO5_2, if_pos zO5_2, hx, spec_l1In.eq, Option.bind_some, wid zO5_2 zO5_2]
   rfl
  ·rw [hd]
   cases hp : inr lo hi l[i] with
   | true => simp only [Bool.true_and, if_true]; exact ih (i + 1) zO5_2
   | false => exact Ev.const zO5_3
theorem spec_l1All.ev {l : List Int} {lo hi : Int} (hm : l.length ≤ 9223372036854775807) : Ev (fun k => spec_l1All.f k l lo hi) (l.all (inr lo hi)) := by
 unfold spec_l1All.f
 exact ev_eq (spec_l1All.ev_l l lo hi hm l.length 0 zO5_2) zO5_3
theorem spec_htLong.ev {l : List Int} (hm : l.length ≤ 9223372036854775807) : Ev (fun k => spec_htLong.f k l) (l.all (inr 1 2000)) := by
 unfold spec_htLong.f
 exact Ev.bind (spec_l1All.ev hm) (Ev.now _)
theorem spec_htStaff.eq (a : Int) : spec_htStaff.f a = some (inr 1 100 a) := by
 unfold spec_htStaff.f; rw [spec_l1In.eq]; rfl
def mIsland (a b c d : Int) : Bool := inr 1 100 a && (inr 1 2000 b && (inr 1 2000 c && (inr 1 2000 d && decide (c < d))))
theorem spec_htGood.ev (a b c d : Int) : Ev (fun k => spec_htGood.f k a b c d) (mIsland a b c d) := by
 obtain ⟨K1, h1⟩ := spec_htLong.ev (l := [b, c, d]) zO5_3
 refine ⟨K1, fun k hk => ?_⟩
 have h1 := h1 k hk
 simp only [List.all_cons, List.all_nil, Bool.and_true] at h1
 unfold spec_htGood.f mIsland
 dsimp only at *
 rw [spec_htStaff.eq, h1]
 simp only [Option.bind_some]
 cases inr 1 100 a <;> cases inr 1 2000 b <;> cases inr 1 2000 c <;> cases inr 1 2000 d <;> simp
theorem gcd_tmod (a b : Int) : Int.gcd b (Int.tmod a b) = Int.gcd a b := by
 rw [Int.gcd_eq_natAbs_gcd_natAbs, Int.gcd_eq_natAbs_gcd_natAbs, Int.natAbs_tmod, Nat.gcd_comm, Nat.gcd_comm a.natAbs]
 exact (Nat.gcd_rec _ _).symm
theorem impl_gcd.ev_l (n : Nat) : ∀ a b : Int, b.natAbs ≤ n → -9223372036854775807 ≤ a → a ≤ 9223372036854775807 → -9223372036854775807 ≤ b → b ≤ 9223372036854775807 → Ev (fun k => impl_gcd.l0 k a b) (Int.gcd a b : Int) := by
 induction n using Nat.strongRecOn with
 | ind n ih =>
  intro a b hn ha0 ha1 hb0 hb1
  by_cases hb : b = 0
  ·subst hb
   refine Ev.step (f := fun _ => some (mx a (wrap64 (-a)))) (fun k => by simp only [impl_gcd.l0, if_true]) ?_
   refine Ev.const ?_
   rw [wid zO5_2 zO5_2, Int.gcd_zero_right]
   congr 1
   unfold mx; split <;> omega
  ·refine Ev.step (f := fun k => impl_gcd.l0 k b (Int.tmod a b)) (fun k => by simp only [impl_gcd.l0]; rw [if_neg hb]) ?_
   have h1 : (Int.tmod a b).natAbs < b.natAbs := by rw [Int.natAbs_tmod]; exact Nat.mod_lt _ zO5_2
   exact ev_eq (ih (Int.tmod a b).natAbs zO5_2 b (Int.tmod a b) (Nat.le_refl _) hb0 hb1 zO5_2 zO5_2) (by rw [gcd_tmod])
theorem impl_gcd.ev {a b : Int} (ha0 : -9223372036854775807 ≤ a) (ha1 : a ≤ 9223372036854775807) (hb0 : -9223372036854775807 ≤ b) (hb1 : b ≤ 9223372036854775807) : Ev (fun k => impl_gcd.f k a b) (Int.gcd a b : Int) := by
 unfold impl_gcd.f; exact impl_gcd.ev_l _ a b (Nat.le_refl _) ha0 ha1 hb0 hb1
/-- The fraction in lowest terms. -/
def loA (a b : Int) : Int := a / (Int.gcd a b : Int)
def loB (a b : Int) : Int := b / (Int.gcd a b : Int)
theorem gcd_pos {a b : Int} (hb : 0 < b) : (0 : Int) < (Int.gcd a b : Int) := by
 have : 0 < Int.gcd a b := Int.gcd_pos_of_ne_zero_right _ zO5_2
 omega
theorem lo_mulA {a b : Int} : loA a b * (Int.gcd a b : Int) = a := Int.ediv_mul_cancel (Int.gcd_dvd_left ..)
theorem lo_mulB {a b : Int} : loB a b * (Int.gcd a b : Int) = b := Int.ediv_mul_cancel (Int.gcd_dvd_right ..)
theorem loA_bd {a b : Int} (hb : 0 < b) : (loA a b).natAbs ≤ a.natAbs := by
 unfold loA
 rw [Int.natAbs_ediv_of_dvd (Int.gcd_dvd_left ..)]
 exact Nat.div_le_self _ _
theorem loB_pos {a b : Int} (hb : 0 < b) : 0 < loB a b ∧ loB a b ≤ b := by
 have g := gcd_pos (a := a) hb
 have e := lo_mulB (a := a) (b := b)
 have h0 : 0 < loB a b := by
  rcases Int.lt_or_le 0 (loB a b) with h | h
  ·exact h
  ·have := Int.mul_nonneg (show 0 ≤ -(loB a b) by omega) (show 0 ≤ (Int.gcd a b : Int) by omega)
   rw [Int.neg_mul, e] at this
   omega
 refine ⟨h0, ?_⟩
 have : loB a b * 1 ≤ loB a b * (Int.gcd a b : Int) := Int.mul_le_mul_of_nonneg_left zO5_2 zO5_2
 rw [e] at this
 omega
theorem loA_nonneg {a b : Int} (ha : 0 ≤ a) (hb : 0 < b) : 0 ≤ loA a b ∧ loA a b ≤ a := by
 have g := gcd_pos (a := a) hb
 refine ⟨Int.ediv_nonneg ha zO5_2, ?_⟩
 have := loA_bd (a := a) hb
 have h0 : 0 ≤ loA a b := Int.ediv_nonneg ha zO5_2
 omega
theorem tdiv_gcd_l {a b : Int} : Int.tdiv a (Int.gcd a b : Int) = loA a b := Int.tdiv_eq_ediv_of_dvd (Int.gcd_dvd_left ..)
theorem tdiv_gcd_r {a b : Int} : Int.tdiv b (Int.gcd a b : Int) = loB a b := Int.tdiv_eq_ediv_of_dvd (Int.gcd_dvd_right ..)
theorem impl_fraction.ev {a b : Int} (ha0 : -9223372036854775807 ≤ a) (ha1 : a ≤ 9223372036854775807) (hb0 : 0 < b) (hb1 : b ≤ 9223372036854775807) : Ev (fun k => impl_fraction.f k a b) (loA a b, loB a b, true) := by
 unfold impl_fraction.f
 refine Ev.bind (impl_gcd.ev ha0 ha1 zO5_2 hb1) ?_
 have g := gcd_pos (a := a) hb0
 have h1 := loA_bd (a := a) hb0
 have h2 := loB_pos (a := a) hb0
 refine Ev.const ?_
 rw [if_neg zO5_2, tdiv_gcd_l, tdiv_gcd_r, wid zO5_2 zO5_2, wid zO5_2 zO5_2]
theorem mIsland_iff {a b c d : Int} : mIsland a b c d = true ↔ (1 ≤ a ∧ a ≤ 100) ∧ (1 ≤ b ∧ b ≤ 2000) ∧ (1 ≤ c ∧ c ≤ 2000) ∧ (1 ≤ d ∧ d ≤ 2000) ∧ c < d := by
 unfold mIsland; simp only [Bool.and_eq_true, inr_iff, decide_eq_true_eq]
def mHt (a b c d : Int) : Int × Int := (loA (a * (b + (d - c))) (d - c), loB (a * (b + (d - c))) (d - c))
def mAw (_a b c d : Int) : Int × Int := (loA (c * b) (d - c), loB (c * b) (d - c))
theorem impl_areStaffs.eq (l : List Int) : impl_areStaffs.f l = some (l.all (inr 1 100)) := by
 unfold impl_areStaffs.f
 rw [List.not_any_eq_all_not]; congr 1; congr 1; funext n; simp [inr]
theorem impl_areSteps.eq (l : List Int) : impl_areSteps.f l = some (l.all (inr 1 2000)) := by
 unfold impl_areSteps.f
 rw [List.not_any_eq_all_not]; congr 1; congr 1; funext n; simp [inr]
theorem impl_IsIsland.eq (a b c d : Int) : impl_IsIsland.f a b c d = some (mIsland a b c d) := by
 unfold impl_IsIsland.f mIsland
 rw [impl_areStaffs.eq, impl_areSteps.eq]
 simp only [Option.bind_some, List.all_cons, List.all_nil, Bool.and_true]
 cases inr 1 100 a <;> cases inr 1 2000 b <;> cases inr 1 2000 c <;> cases inr 1 2000 d <;> simp
/-- A number's decimal text. -/
def txt (n : Nat) : ByteArray := ⟨(Lib.decDigits n).toArray⟩
theorem dec_step {n : Nat} (h : ¬ n < 10) : Lib.decDigits n = Lib.decDigits (n / 10) ++ [UInt8.ofNat (48 + n % 10)] := by rw [Lib.decDigits, dif_neg h]
theorem txt_size (n : Nat) : (txt n).size ≤ n + 1 := by
 have h : ∀ m : Nat, (Lib.decDigits m).length ≤ m + 1 := by
  intro m
  induction m using Nat.strongRecOn with
  | ind m ih =>
   by_cases c : m < 10
   ·rw [Lib.decDigits_one c]; simp
   ·rw [dec_step c, List.length_append]
    have := ih (m / 10) zO5_2
    simp only [List.length_cons, List.length_nil]
    omega
 have := h n
 simpa [txt, ByteArray.size] using this
theorem ba_ext {a b : ByteArray} (h : a.data.toList = b.data.toList) : a = b := by
 cases a; cases b
 simp only [ByteArray.mk.injEq] at *
 exact Array.ext' h
theorem ba_append (a b : ByteArray) : (a ++ b).data.toList = a.data.toList ++ b.data.toList := by simp
theorem ba_assoc (a b c : ByteArray) : (a ++ b) ++ c = a ++ (b ++ c) := ba_ext (by simp only [ba_append, List.append_assoc])
theorem txt_snoc {n : Nat} (h : ¬ n < 10) : txt n = txt (n / 10) ++ strOfNums [((48 + n % 10 : Nat) : Int)] := by
 refine ba_ext ?_
 rw [ba_append, strOfNums_data]
 show Lib.decDigits n = Lib.decDigits (n / 10) ++ [UInt8.ofNat (48 + n % 10)]
 exact dec_step h
theorem txt_one {n : Nat} (h : n < 10) : strOfNums [((48 + n : Nat) : Int)] = txt n := by
 refine ba_ext ?_
 rw [strOfNums_data]
 show [UInt8.ofNat (48 + n)] = Lib.decDigits n
 rw [Lib.decDigits_one h]
theorem spec_l1Num.ev (n : Nat) (hn : n ≤ 1000000) : Ev (fun k => spec_l1Num.f k (n : Int)) (txt n) := by
 induction n using Nat.strongRecOn with
 | ind n ih =>
  by_cases c : n < 10
  ·refine Ev.succ ?_
   simp only [spec_l1Num.f, show (n : Int) < 10 by omega, if_true]
   refine Ev.const ?_
   rw [wid (show -9223372036854775808 ≤ 48 + (n : Int) by omega) zO5_2, show (48 + (n : Int)) % 256 = ((48 + n : Nat) : Int) by omega, txt_one c]
  ·refine Ev.succ ?_
   have e1 : Int.tdiv (n : Int) 10 = ((n / 10 : Nat) : Int) := by rw [Int.tdiv_eq_ediv_of_nonneg zO5_2]; omega
   have e2 : Int.tmod (n : Int) 10 = ((n % 10 : Nat) : Int) := by rw [Int.tmod_eq_emod_of_nonneg zO5_2]; omega
   simp only [spec_l1Num.f, show ¬ ((n : Int) < 10) by omega, if_false, e1, e2]
   rw [wid (show -9223372036854775808 ≤ ((n / 10 : Nat) : Int) by omega) zO5_2, wid (show -9223372036854775808 ≤ 48 + ((n % 10 : Nat) : Int) by omega) zO5_2, show (48 + ((n % 10 : Nat) : Int)) % 256 = ((48 + n % 10 : Nat) : Int) by omega]
   refine Ev.bind (ih (n / 10) zO5_2 zO5_2) ?_
   have hs := txt_size (n / 10)
   simp only [Option.bind_some, strOfNums_size, List.length_cons, List.length_nil, show (txt (n / 10)).size + (0 + 1) ≤ 9223372036854775807 by omega, if_true]
   rw [← txt_snoc c]
   exact Ev.now _
theorem spec_l1Num.evi {n : Int} (h0 : 0 ≤ n) (h1 : n ≤ 1000000) : Ev (fun k => spec_l1Num.f k n) (txt n.toNat) := by
 have e := spec_l1Num.ev n.toNat zO5_2
 rw [show ((n.toNat : Nat) : Int) = n by omega] at e
 exact e
theorem impl_text.eq {n : Int} (h0 : 0 ≤ n) (h1 : n ≤ 1000000) : impl_text.f n = some (txt n.toNat) := by
 unfold impl_text.f strconv_Itoa_58.f
 rw [if_pos zO5_2]
 obtain ⟨m, rfl⟩ := Int.eq_ofNat_of_zero_le h0
 rw [show Lib.itoa (m : Int) = Lib.decDigits m by unfold Lib.itoa; rw [if_neg zO5_2]; simp]
 rfl
theorem bar_size : (⟨#[124]⟩ : ByteArray).size = 1 := rfl
theorem col_size : (⟨#[58]⟩ : ByteArray).size = 1 := rfl
theorem sla_size : (⟨#[47]⟩ : ByteArray).size = 1 := rfl
def isText (a b c d : Int) : ByteArray := (((((txt a.toNat ++ (⟨#[124]⟩ : ByteArray)) ++ txt b.toNat) ++ (⟨#[58]⟩ : ByteArray)) ++ txt c.toNat) ++ (⟨#[47]⟩ : ByteArray)) ++ txt d.toNat
def mIsText (a b c d : Int) : ByteArray × Bool := if mIsland a b c d = true then (isText a b c d, true) else (⟨#[]⟩, false)
theorem isl_bd {a b c d : Int} (h : mIsland a b c d = true) : (1 ≤ a ∧ a ≤ 100) ∧ (1 ≤ b ∧ b ≤ 2000) ∧ (1 ≤ c ∧ c ≤ 2000) ∧ (1 ≤ d ∧ d ≤ 2000) ∧ c < d := by
 unfold mIsland at h
 simpa only [Bool.and_eq_true, inr_iff, decide_eq_true_eq] using h
theorem spec_IslandText.ev (a b c d : Int) : Ev (fun k => spec_IslandText.f k a b c d) (mIsText a b c d) := by
 unfold spec_IslandText.f mIsText
 refine Ev.bind (spec_htGood.ev a b c d) ?_
 cases h : mIsland a b c d with
 | false => simp only [Bool.false_eq_true, if_false]; exact Ev.now _
 | true =>
  have hb := isl_bd h
  have s0 := txt_size a.toNat
  have s1 := txt_size b.toNat
  have s2 := txt_size c.toNat
  have s3 := txt_size d.toNat
  simp only [if_true]
  refine Ev.bind (a := isText a b c d) ?_ (Ev.now _)
  unfold spec_htText.f
  refine Ev.bind (spec_l1Num.evi zO5_2 zO5_2) ?_
  simp only [show (txt a.toNat).size + 1 ≤ 9223372036854775807 by omega, if_true]
  refine Ev.bind (spec_l1Num.evi zO5_2 zO5_2) ?_
  simp only [ByteArray.size_append, bar_size, col_size, sla_size, show (txt a.toNat).size + 1 + (txt b.toNat).size ≤ 9223372036854775807 by omega, show (txt a.toNat).size + 1 + (txt b.toNat).size + 1 ≤ 9223372036854775807 by omega, if_true]
  refine Ev.bind (spec_l1Num.evi zO5_2 zO5_2) ?_
  simp only [show (txt a.toNat).size + 1 + (txt b.toNat).size + 1 + (txt c.toNat).size ≤ 9223372036854775807 by omega, show (txt a.toNat).size + 1 + (txt b.toNat).size + 1 + (txt c.toNat).size + 1 ≤ 9223372036854775807 by omega, if_true]
  refine Ev.bind (spec_l1Num.evi zO5_2 zO5_2) ?_
  simp only [show (txt a.toNat).size + 1 + (txt b.toNat).size + 1 + (txt c.toNat).size + 1 + (txt d.toNat).size ≤ 9223372036854775807 by omega, if_true]
  exact Ev.now _
theorem impl_IslandText.eq (a b c d : Int) : impl_IslandText.f a b c d = some (mIsText a b c d) := by
 unfold impl_IslandText.f mIsText
 rw [impl_IsIsland.eq, Option.bind_some]
 cases h : mIsland a b c d with
 | false => simp only [Bool.false_eq_true, if_false]
 | true =>
  have hb := isl_bd h
  have s0 := txt_size a.toNat
  have s1 := txt_size b.toNat
  have s2 := txt_size c.toNat
  have s3 := txt_size d.toNat
  simp only [if_true, impl_text.eq (show 0 ≤ a by omega) zO5_2, impl_text.eq (show 0 ≤ b by omega) zO5_2, impl_text.eq (show 0 ≤ c by omega) zO5_2, impl_text.eq (show 0 ≤ d by omega) zO5_2, Option.bind_some, ByteArray.size_append, bar_size, col_size, sla_size, show (txt a.toNat).size + 1 ≤ 9223372036854775807 by omega, show (txt a.toNat).size + 1 + (txt b.toNat).size ≤ 9223372036854775807 by omega, show (txt a.toNat).size + 1 + (txt b.toNat).size + 1 ≤ 9223372036854775807 by omega, show (txt a.toNat).size + 1 + (txt b.toNat).size + 1 + (txt c.toNat).size ≤ 9223372036854775807 by omega, show (txt a.toNat).size + 1 + (txt b.toNat).size + 1 + (txt c.toNat).size + 1 ≤ 9223372036854775807 by omega, show (txt a.toNat).size + 1 + (txt b.toNat).size + 1 + (txt c.toNat).size + 1 + (txt d.toNat).size ≤ 9223372036854775807 by omega]
  rfl
/-- A row of bytes, as a string. -/
def mkS (l : List UInt8) : ByteArray := ⟨l.toArray⟩
theorem mkS_data (l : List UInt8) : (mkS l).data.toList = l := rfl
theorem mkS_of (s : ByteArray) : mkS s.data.toList = s := ba_ext rfl
/-- A row at its first c. -/
def brk (c : UInt8) : List UInt8 → Option (List UInt8 × List UInt8)
 | [] => none
 | b :: l => if b = c then some ([], l) else (brk c l).map fun p => (b :: p.1, p.2)
theorem brk_some {c : UInt8} : ∀ {l x y : List UInt8}, brk c l = some (x, y) → l = x ++ c :: y ∧ c ∉ x
 | [], x, y, h => by simp [brk] at h
 | b :: l, x, y, h => by
  unfold brk at h
  by_cases e : b = c
  ·rw [if_pos e] at h
   simp only [Option.some.injEq, Prod.mk.injEq] at h
   obtain ⟨rfl, rfl⟩ := h
   exact ⟨by rw [e]; rfl, by simp⟩
  ·rw [if_neg e] at h
   cases hq : brk c l with
   | none => rw [hq] at h; simp at h
   | some p =>
    rw [hq] at h
    simp only [Option.map_some, Option.some.injEq, Prod.mk.injEq] at h
    obtain ⟨rfl, rfl⟩ := h
    obtain ⟨h1, h2⟩ := brk_some (x := p.1) (y := p.2) hq
    refine ⟨by rw [List.cons_append, ← h1], ?_⟩
    simp only [List.mem_cons, not_or]
    exact ⟨fun q => e q.symm, h2⟩
theorem brk_mk {c : UInt8} : ∀ {x y : List UInt8}, c ∉ x → brk c (x ++ c :: y) = some (x, y)
 | [], y, _ => by simp [brk]
 | b :: x, y, h => by
  simp only [List.mem_cons, not_or] at h
  rw [List.cons_append, brk, if_neg (fun q => h.1 q.symm), brk_mk h.2]
  rfl
theorem brk_none {c : UInt8} : ∀ {l : List UInt8}, brk c l = none ↔ c ∉ l
 | [] => by simp [brk]
 | b :: l => by
  unfold brk
  by_cases e : b = c
  ·rw [if_pos e]; simp [e]
  ·rw [if_neg e, Option.map_eq_none_iff, brk_none (l := l)]
   simp only [List.mem_cons, not_or]
   exact ⟨fun h => ⟨fun q => e q.symm, h⟩, fun h => h.2⟩
theorem index_brk (c : UInt8) : ∀ l : List UInt8, Lib.index l [c] = match brk c l with | some p => (p.1.length : Int) | none => -1
 | [] => rfl
 | b :: l => by
  unfold Lib.index brk
  by_cases e : b = c
  ·rw [if_pos e, if_pos (by simp [List.isPrefixOf, e])]; rfl
  ·rw [if_neg e, if_neg (by simp [List.isPrefixOf]; exact fun q => e q.symm), index_brk c l]
   cases brk c l with
   | none => rfl
   | some p =>
    simp only [Option.map_some]
    rw [if_neg zO5_3]
    show (p.1.length : Int) + 1 = (((b :: p.1).length : Nat) : Int)
    rw [List.length_cons]
    omega
theorem cut_brk (c : UInt8) (l : List UInt8) : Lib.cut l [c] = match brk c l with | some p => (p.1, p.2, true) | none => (l, [], false) := by
 unfold Lib.cut
 rw [index_brk]
 cases h : brk c l with
 | none => rfl
 | some p =>
  obtain ⟨e, _⟩ := brk_some (x := p.1) (y := p.2) h
  simp only
  rw [if_pos zO5_2, Int.toNat_natCast]
  simp only [Prod.mk.injEq, and_true, List.length_cons, List.length_nil]
  rw [e]
  constructor
  ·simp
  ·rw [List.drop_append, List.drop_eq_nil_of_le zO5_2, List.nil_append, show p.1.length + (0 + 1) - p.1.length = 1 by omega]
   rfl
/-- A row cut at each c. -/
def glue (p : List UInt8) : List (List UInt8) → List (List UInt8)
 | [] => [p]
 | x :: r => (p ++ x) :: r
def spl (c : UInt8) : List UInt8 → List (List UInt8)
 | [] => [[]]
 | b :: l => if b = c then [] :: spl c l else glue [b] (spl c l)
theorem glue_nil : ∀ {l : List (List UInt8)}, l ≠ [] → glue [] l = l
 | [], h => absurd rfl h
 | _ :: _, _ => rfl
theorem glue_glue (p q : List UInt8) : ∀ l : List (List UInt8), l ≠ [] → glue p (glue q l) = glue (p ++ q) l
 | [], h => absurd rfl h
 | x :: r, _ => by simp [glue]
theorem spl_ne (c : UInt8) : ∀ l : List UInt8, spl c l ≠ []
 | [] => by simp [spl]
 | b :: l => by
  unfold spl
  split
  ·simp
  ·cases spl c l <;> simp [glue]
theorem spl_brk (c : UInt8) : ∀ l : List UInt8, spl c l = match brk c l with | none => [l] | some p => p.1 :: spl c p.2
 | [] => rfl
 | b :: l => by
  by_cases e : b = c
  ·simp only [spl, brk, if_pos e]
  ·simp only [spl, brk, if_neg e]
   rw [spl_brk c l]
   rcases brk c l with _ | ⟨x, y⟩ <;> rfl
theorem spl_no {c : UInt8} {l : List UInt8} (h : c ∉ l) : spl c l = [l] := by rw [spl_brk, brk_none.2 h]
theorem spl_mk {c : UInt8} {x y : List UInt8} (h : c ∉ x) : spl c (x ++ c :: y) = x :: spl c y := by rw [spl_brk, brk_mk h]
/-- Cut in two: at one c alone. -/
theorem spl_two {c : UInt8} {l : List UInt8} (h : (spl c l).length = 2) : ∃ x y, l = x ++ c :: y ∧ spl c l = [x, y] := by
 rw [spl_brk] at h ⊢
 cases hb : brk c l with
 | none => rw [hb] at h; simp at h
 | some p =>
  rw [hb] at h
  simp only [List.length_cons] at h
  obtain ⟨e, _⟩ := brk_some (x := p.1) (y := p.2) hb
  have h2 : spl c p.2 = [p.2] := by
   rw [spl_brk] at h ⊢
   cases hc : brk c p.2 with
   | none => rfl
   | some q =>
    rw [hc] at h
    have := spl_ne c q.2
    simp only [List.length_cons] at h
    have : (spl c q.2).length = 0 := by omega
    exact absurd (List.eq_nil_of_length_eq_zero this) (spl_ne c q.2)
  exact ⟨p.1, p.2, e, by simp only [h2]⟩
theorem dec_digits (n : Nat) : ∀ b ∈ Lib.decDigits n, 48 ≤ b.toNat ∧ b.toNat ≤ 57 := by
 have hof : ∀ m : Nat, m < 10 → (UInt8.ofNat (48 + m)).toNat = 48 + m := fun m h => by simp [UInt8.toNat_ofNat']; omega
 induction n using Nat.strongRecOn with
 | ind n ih =>
  intro b hb
  by_cases c : n < 10
  ·rw [Lib.decDigits_one c, List.mem_singleton] at hb
   subst hb
   rw [hof n c]; omega
  ·rw [dec_step c, List.mem_append] at hb
   rcases hb with hb | hb
   ·exact ih (n / 10) zO5_2 b hb
   ·rw [List.mem_singleton] at hb
    subst hb
    rw [hof (n % 10) zO5_2]; omega
theorem dec_ne (n : Nat) : Lib.decDigits n ≠ [] := by
 by_cases c : n < 10
 ·rw [Lib.decDigits_one c]; simp
 ·rw [dec_step c]; simp
theorem dec_len (k : Nat) : ∀ n : Nat, n < 10 ^ (k + 1) → (Lib.decDigits n).length ≤ k + 1 := by
 induction k with
 | zero => intro n h; rw [Lib.decDigits_one (by simpa using h)]; simp
 | succ k ih =>
  intro n h
  by_cases c : n < 10
  ·rw [Lib.decDigits_one c]; simp
  ·rw [dec_step c, List.length_append]
   have := ih (n / 10) (by rw [Nat.pow_succ] at h; omega)
   simp only [List.length_cons, List.length_nil]
   omega
theorem dec_head (n : Nat) (h : 1 ≤ n) : ∃ b r, Lib.decDigits n = b :: r ∧ b.toNat ≠ 48 := by
 induction n using Nat.strongRecOn with
 | ind n ih =>
  by_cases c : n < 10
  ·refine ⟨_, [], Lib.decDigits_one c, ?_⟩
   simp [UInt8.toNat_ofNat']
   omega
  ·obtain ⟨b, r, e, hb⟩ := ih (n / 10) zO5_2 zO5_2
   exact ⟨b, r ++ [UInt8.ofNat (48 + n % 10)], by rw [dec_step c, e]; rfl, hb⟩
theorem digit_of (m : Nat) (h : m < 10) : Lib.digitVal (UInt8.ofNat (48 + m)) = some m := by
 have e : (UInt8.ofNat (48 + m)).toNat = 48 + m := by simp [UInt8.toNat_ofNat']; omega
 unfold Lib.digitVal
 rw [e, if_pos zO5_2]
 congr 1
 omega
theorem decFrom_snoc (l : List UInt8) (b : UInt8) : ∀ acc, Lib.decFrom acc (l ++ [b]) = (Lib.decFrom acc l).bind fun v => (Lib.digitVal b).map fun d => v * 10 + d := by
 induction l with
 | nil =>
  intro acc
  simp only [List.nil_append, Lib.decFrom, Option.bind_some]
  cases Lib.digitVal b <;> rfl
 | cons a t ih =>
  intro acc
  simp only [List.cons_append, Lib.decFrom]
  cases Lib.digitVal a with
  | none => rfl
  | some d => exact ih _
theorem decFrom_dec (n : Nat) : Lib.decFrom 0 (Lib.decDigits n) = some n := by
 induction n using Nat.strongRecOn with
 | ind n ih =>
  by_cases c : n < 10
  ·rw [Lib.decDigits_one c]
   simp only [Lib.decFrom, digit_of n c]
   congr 1
   omega
  ·rw [dec_step c, decFrom_snoc, ih (n / 10) zO5_2, Option.bind_some, digit_of (n % 10) zO5_2]
   simp only [Option.map_some, Option.some.injEq]
   omega
theorem digit_back {b : UInt8} {d : Nat} (h : Lib.digitVal b = some d) : b = UInt8.ofNat (48 + d) ∧ d < 10 := by
 obtain ⟨h1, h2, h3⟩ := Lib.digitVal_eq h
 refine ⟨?_, by omega⟩
 rw [show 48 + d = b.toNat by omega]
 exact (UInt8.ofNat_toNat).symm
/-- A row of digits without a nought ahead is the text of its number. -/
theorem dec_of_decFrom (k : Nat) : ∀ (l : List UInt8) (v : Nat), l.length = k + 1 → (k = 0 ∨ l.head? ≠ some 48) → Lib.decFrom 0 l = some v → Lib.decDigits v = l ∧ (l.head? ≠ some 48 → 1 ≤ v) := by
 induction k with
 | zero =>
  intro l v hl _ h
  match l, hl with
  | [b], _ =>
   simp only [Lib.decFrom] at h
   cases hd : Lib.digitVal b with
   | none => rw [hd] at h; simp at h
   | some d =>
    rw [hd] at h
    simp only [Option.some.injEq] at h
    obtain ⟨e, h10⟩ := digit_back hd
    have hv : v = d := by omega
    subst hv
    refine ⟨by rw [Lib.decDigits_one h10, e], fun hne => ?_⟩
    rcases Nat.eq_zero_or_pos v with z | z
    ·subst z
     rw [e] at hne
     exact absurd rfl hne
    ·exact z
 | succ k ih =>
  intro l v hl hh h
  have hne : l ≠ [] := by intro e; rw [e] at hl; simp at hl
  obtain ⟨t, b, rfl⟩ : ∃ t b, l = t ++ [b] := ⟨l.dropLast, l.getLast hne, (List.dropLast_concat_getLast hne).symm⟩
  have ht : t.length = k + 1 := by simpa using hl
  have htn : t ≠ [] := by intro e; rw [e] at ht; simp at ht
  have hhd : (t ++ [b]).head? = t.head? := by cases t with | nil => exact absurd rfl htn | cons x r => rfl
  have hnz : t.head? ≠ some 48 := by
   rcases hh with h0 | h0
   ·omega
   ·rw [hhd] at h0; exact h0
  rw [decFrom_snoc] at h
  obtain ⟨u, hu, h⟩ := Option.bind_eq_some_iff.1 h
  cases hd : Lib.digitVal b with
  | none => rw [hd] at h; simp at h
  | some d =>
   rw [hd] at h
   simp only [Option.map_some, Option.some.injEq] at h
   obtain ⟨e1, e2⟩ := ih t u ht (.inr hnz) hu
   have hu1 := e2 hnz
   obtain ⟨eb, h10⟩ := digit_back hd
   have hv : ¬ v < 10 := by omega
   refine ⟨?_, fun _ => by omega⟩
   rw [dec_step hv, show v / 10 = u by omega, show v % 10 = d by omega, e1, ← eb]
theorem bt_data (s : ByteArray) (i : Nat) (h : i < s.size) : bt s (i : Int) = ((s.data.toList[i]'(by simpa using h)).toNat : Int) := by
 unfold bt
 rw [dif_pos (by simpa using h)]
 simp only [Int.toNat_natCast]
 rfl
theorem extract_mkS (s : ByteArray) (a b : Nat) : s.extract a b = mkS ((s.data.toList.drop a).take (b - a)) := ba_ext (by rw [Lib.extract_data]; rfl)
theorem spec_l1Split.ev_l (s : ByteArray) (hs : s.size ≤ 2000000) (c : UInt8) (d : Nat) : ∀ (i from_ : Nat) (out : List ByteArray), i + d = s.size → from_ ≤ i → out.length ≤ i → Ev (fun k => spec_l1Split.l0 k s (c.toNat : Int) out (from_ : Int) (i : Int)) (out ++ (glue ((s.data.toList.drop from_).take (i - from_)) (spl c (s.data.toList.drop i))).map mkS) := by
 induction d with
 | zero =>
  intro i from_ out hi hf ho
  refine Ev.succ ?_
  simp only [spec_l1Split.l0, show ¬ ((i : Int) < (s.size : Int)) by omega, if_false, show (0 : Int) ≤ (from_ : Int) by omega, show (from_ : Int) ≤ (s.size : Int) by omega, show out.length < 8796093022208 by omega, if_true, Int.toNat_natCast]
  refine Ev.const ?_
  have hn : s.data.toList.drop i = [] := List.drop_eq_nil_of_le (by simp; omega)
  rw [hn, extract_mkS, show s.size = i by omega]
  simp [spl, glue]
 | succ d ih =>
  intro i from_ out hi hf ho
  have hlt : i < s.size := by omega
  have hlt' : i < s.data.toList.length := by simpa using hlt
  refine Ev.succ ?_
  simp only [spec_l1Split.l0, show ((i : Int) < (s.size : Int)) by omega, show (0 : Int) ≤ (i : Int) by omega, if_true, bt_data s i hlt]
  rw [wid (show -9223372036854775808 ≤ (i : Int) + 1 by omega) zO5_2]
  rw [List.drop_eq_getElem_cons hlt']
  by_cases e : s.data.toList[i] = c
  ·simp only [e, if_true, show (0 : Int) ≤ (from_ : Int) by omega, show (from_ : Int) ≤ (i : Int) by omega, show (i : Int) ≤ (s.size : Int) by omega, show out.length < 8796093022208 by omega, Int.toNat_natCast]
   have q := ih (i + 1) (i + 1) (out ++ [s.extract from_ i]) zO5_2 (Nat.le_refl _) (by rw [List.length_append]; simp only [List.length_cons, List.length_nil]; omega)
   refine ev_eq q ?_
   rw [Nat.sub_self, List.take_zero, glue_nil (spl_ne _ _), extract_mkS]
   simp [spl, glue]
  ·have e' : ¬ ((s.data.toList[i].toNat : Int) = (c.toNat : Int)) := fun q => e (UInt8.toNat_inj.1 zO5_2)
   simp only [e', if_false]
   have q := ih (i + 1) from_ out zO5_2 zO5_2 zO5_2
   refine ev_eq q ?_
   congr 2
   rw [spl, if_neg e, glue_glue _ _ _ (spl_ne _ _)]
   congr 1
   rw [show i + 1 - from_ = (i - from_) + 1 by omega, List.take_succ_eq_append_getElem (by simp; omega)]
   congr 1
   simp only [List.getElem_drop, List.cons.injEq, and_true]
   congr 1
   omega
theorem spec_l1Split.ev {s : ByteArray} (hs : s.size ≤ 2000000) (c : UInt8) : Ev (fun k => spec_l1Split.f k s (c.toNat : Int)) ((spl c s.data.toList).map mkS) := by
 unfold spec_l1Split.f
 have q := spec_l1Split.ev_l s hs c s.size 0 0 [] zO5_2 (Nat.le_refl _) zO5_3
 refine ev_eq q ?_
 rw [List.drop_zero, Nat.sub_self, List.take_zero, glue_nil (spl_ne _ _), List.nil_append]
/-- The number that a text of one to six digits without a nought ahead tells, or -1. -/
def rd6 (l : List UInt8) : Int := if 1 ≤ l.length ∧ l.length ≤ 6 ∧ ¬ (l.head? = some 48 ∧ 1 < l.length) then (match Lib.decFrom 0 l with | some v => (v : Int) | none => -1) else -1
theorem spec_l1Read.ev_l (s : ByteArray) (hs : s.size ≤ 6) (d : Nat) : ∀ (i acc : Nat), i + d = s.size → acc + 1 ≤ 10 ^ i → Ev (fun k => spec_l1Read.l0 k s (acc : Int) (i : Int)) (match Lib.decFrom acc (s.data.toList.drop i) with | some v => (v : Int) | none => -1) := by
 induction d with
 | zero =>
  intro i acc hi _
  refine Ev.succ ?_
  simp only [spec_l1Read.l0, show ¬ ((i : Int) < (s.size : Int)) by omega, if_false]
  have hn : s.data.toList.drop i = [] := List.drop_eq_nil_of_le (by simp; omega)
  rw [hn]
  exact Ev.now _
 | succ d ih =>
  intro i acc hi ha
  have hlt : i < s.size := by omega
  have hlt' : i < s.data.toList.length := by simpa using hlt
  have hp : 10 ^ i ≤ 10 ^ 6 := Nat.pow_le_pow_right zO5_2 zO5_2
  refine Ev.succ ?_
  simp only [spec_l1Read.l0, show ((i : Int) < (s.size : Int)) by omega, show (0 : Int) ≤ (i : Int) by omega, if_true, bt_data s i hlt]
  rw [List.drop_eq_getElem_cons hlt']
  simp only [Lib.decFrom, Lib.digitVal]
  by_cases c : 48 ≤ s.data.toList[i].toNat ∧ s.data.toList[i].toNat ≤ 57
  ·simp only [c, and_self, if_true, show ¬ ((s.data.toList[i].toNat : Int) < 48) by omega, show ¬ ((s.data.toList[i].toNat : Int) > 57) by omega, if_false]
   rw [wid (show -9223372036854775808 ≤ 10 * (acc : Int) by omega) zO5_2, show ((s.data.toList[i].toNat : Int) - 48) % 256 = ((s.data.toList[i].toNat - 48 : Nat) : Int) by omega, wid (show -9223372036854775808 ≤ 10 * (acc : Int) + ((s.data.toList[i].toNat - 48 : Nat) : Int) by omega) zO5_2, wid (show -9223372036854775808 ≤ (i : Int) + 1 by omega) zO5_2, show 10 * (acc : Int) + ((s.data.toList[i].toNat - 48 : Nat) : Int) = ((acc * 10 + (s.data.toList[i].toNat - 48) : Nat) : Int) by omega]
   exact ih (i + 1) _ zO5_2 (by rw [Nat.pow_succ]; omega)
  ·simp only [c, if_false]
   by_cases c1 : (s.data.toList[i].toNat : Int) < 48
   ·simp only [c1, if_true]; exact Ev.now _
   ·simp only [c1, if_false, show (s.data.toList[i].toNat : Int) > 57 by omega, if_true]; exact Ev.now _
theorem spec_l1Read.ev {s : ByteArray} (hs : s.size ≤ 2000000) : Ev (fun k => spec_l1Read.f k s) (rd6 s.data.toList) := by
 have hlen : s.data.toList.length = s.size := by simp
 unfold spec_l1Read.f rd6
 refine Ev.bindc (spec_l1In.eq _ 1 6) ?_
 by_cases c : 1 ≤ s.size ∧ s.size ≤ 6
 ·rw [show inr 1 6 (s.size : Int) = true from inr_iff.2 zO5_2]
  have hb := bt_data s 0 zO5_2
  have h0 : (0 : Nat) < s.data.toList.length := by omega
  have hh : s.data.toList.head? = some s.data.toList[0] := by rw [List.head?_eq_getElem?, List.getElem?_eq_getElem h0]
  have loop := spec_l1Read.ev_l s c.2 s.size 0 0 zO5_2 zO5_3
  rw [List.drop_zero] at loop
  simp only [if_true, show (0 : Int) < (s.size : Int) by omega]
  rw [show bt s 0 = ((s.data.toList[0]'h0).toNat : Int) from hb, hh, hlen]
  by_cases z : s.data.toList[0] = 48
  ·have z' : ((s.data.toList[0].toNat : Int) = 48) := by rw [z]; rfl
   simp only [z', if_true]
   by_cases l2 : 1 < s.size
   ·rw [if_neg (by intro q; exact q.2.2 ⟨by rw [z], l2⟩)]
    refine Ev.succ ?_
    simp only [spec_l1Read.j0, show ((s.size : Int) > 1) by omega, decide_true, if_true]
    exact Ev.now _
   ·rw [if_pos ⟨c.1, c.2, fun q => l2 q.2⟩]
    refine Ev.succ ?_
    simp only [spec_l1Read.j0, show ¬ ((s.size : Int) > 1) by omega, decide_false, Bool.false_eq_true, if_false]
    exact loop
  ·have z' : ¬ ((s.data.toList[0].toNat : Int) = 48) := fun q => z (UInt8.toNat_inj.1 (by show s.data.toList[0].toNat = 48; omega))
   simp only [z', if_false]
   rw [if_pos ⟨c.1, c.2, fun q => z (Option.some.inj q.1)⟩]
   refine Ev.succ ?_
   simp only [spec_l1Read.j0, Bool.false_eq_true, if_false]
   exact loop
 ·rw [show inr 1 6 (s.size : Int) = false from Bool.eq_false_iff.2 (fun q => c (by have := inr_iff.1 q; omega)), hlen, if_neg (fun q => c ⟨q.1, q.2.1⟩)]
  simp only [Bool.false_eq_true, if_false]
  refine Ev.succ ?_
  simp only [spec_l1Read.j0, if_true]
  exact Ev.now _
theorem rd6_txt {n : Nat} (h : n < 1000000) : rd6 (Lib.decDigits n) = (n : Int) := by
 have h1 := dec_len 5 n (by simpa using h)
 have h2 := dec_ne n
 have g1 : 1 ≤ (Lib.decDigits n).length := by
  rcases Nat.eq_zero_or_pos (Lib.decDigits n).length with z | z
  ·exact absurd (List.eq_nil_of_length_eq_zero z) h2
  ·exact z
 have g2 : ¬ ((Lib.decDigits n).head? = some 48 ∧ 1 < (Lib.decDigits n).length) := by
  intro q
  rcases Nat.eq_zero_or_pos n with z | z
  ·subst z
   rw [Lib.decDigits_one zO5_2] at q
   simp at q
  ·obtain ⟨b, r, e, hb⟩ := dec_head n z
   rw [e] at q
   simp only [List.head?_cons, Option.some.injEq] at q
   rw [q.1] at hb
   exact hb rfl
 unfold rd6
 rw [if_pos ⟨g1, h1, g2⟩, decFrom_dec]
theorem rd6_back {l : List UInt8} (h : 0 ≤ rd6 l) : l = Lib.decDigits (rd6 l).toNat := by
 unfold rd6 at h ⊢
 by_cases c : 1 ≤ l.length ∧ l.length ≤ 6 ∧ ¬ (l.head? = some 48 ∧ 1 < l.length)
 ·rw [if_pos c] at h ⊢
  cases hd : Lib.decFrom 0 l with
  | none => rw [hd] at h; simp at h
  | some v =>
   simp only [Int.toNat_natCast]
   refine (dec_of_decFrom (l.length - 1) l v zO5_2 ?_ hd).1.symm
   by_cases q : l.head? = some 48
   ·exact .inl (by have := c.2.2; by_cases q2 : 1 < l.length; exact absurd ⟨q, q2⟩ this; omega)
   ·exact .inr q
 ·rw [if_neg c] at h
  omega
theorem numOf_txt {n : Nat} (h : n < 1000000) : numOf (txt n) = ((n : Int), true) := by
 have h1 := dec_len 5 n (by simpa using h)
 have e : Lib.atoiAll (Lib.decDigits n) = .ok (n : Int) := by
  rw [Lib.atoiAll_short _ zO5_2]
  cases hq : Lib.decDigits n with
  | nil => exact absurd hq (dec_ne n)
  | cons b r =>
   have hb := dec_digits n b (by rw [hq]; simp)
   have b1 : ¬ ((b == 45) = true) := by
    intro q
    have : b = 45 := by simpa using q
    rw [this] at hb
    exact absurd hb.1 (by decide)
   have b2 : ¬ ((b == 43) = true) := by
    intro q
    have : b = 43 := by simpa using q
    rw [this] at hb
    exact absurd hb.1 (by decide)
   simp only [Lib.atoi, if_neg b1, if_neg b2]
   rw [show Lib.decNat (b :: r) = some n by rw [← hq]; unfold Lib.decNat; rw [if_neg (by rw [hq]; simp), decFrom_dec]]
   rfl
 have ed : (txt n).data.toList = Lib.decDigits n := rfl
 unfold numOf
 rw [ed, e]
 simp only [Prod.mk.injEq, true_and]
 rw [show Lib.itoa (n : Int) = Lib.decDigits n by unfold Lib.itoa; rw [if_neg zO5_2]; simp]
 exact beq_self_eq_true _
theorem numOf_back {s : ByteArray} (h : (numOf s).2 = true) : s.data.toList = Lib.itoa (numOf s).1 := by
 unfold numOf at h ⊢
 cases e : Lib.atoiAll s.data.toList with
 | ok v =>
  rw [e] at h
  simp only at h ⊢
  have h2 := beq_iff_eq.1 h
  rw [Lib.toList_data, Lib.toList_data] at h2
  exact h2.symm
 | «syntax» => rw [e] at h; simp at h
 | range => rw [e] at h; simp at h
theorem numOf_empty {s : ByteArray} (h : s.data.toList = []) : (numOf s).2 = false := by
 unfold numOf
 rw [h]
 rfl
theorem numOf_pos {s : ByteArray} (h : (numOf s).2 = true) (h0 : 0 ≤ (numOf s).1) : s.data.toList = Lib.decDigits (numOf s).1.toNat := by
 rw [numOf_back h]
 unfold Lib.itoa
 rw [if_neg zO5_2]
theorem no_sep {n : Nat} {c : UInt8} (h : c.toNat < 48 ∨ 57 < c.toNat) : c ∉ Lib.decDigits n := fun q => by have := dec_digits n c q; omega
theorem isText_data (a b c d : Int) : (isText a b c d).data.toList = Lib.decDigits a.toNat ++ 124 :: (Lib.decDigits b.toNat ++ 58 :: (Lib.decDigits c.toNat ++ 47 :: Lib.decDigits d.toNat)) := by
 unfold isText
 simp only [ba_append, List.append_assoc]
 rfl
theorem isText_len {a b c d : Int} (h : mIsland a b c d = true) : (isText a b c d).data.toList.length ≤ 18 := by
 have hb := isl_bd h
 have h0 := dec_len 2 a.toNat zO5_2
 have h1 := dec_len 3 b.toNat zO5_2
 have h2 := dec_len 3 c.toNat zO5_2
 have h3 := dec_len 3 d.toNat zO5_2
 rw [isText_data]
 simp only [List.length_append, List.length_cons]
 omega
/-- What the reference's parse answers. -/
def mSpecIs (l : List UInt8) : Int × Int × Int × Int × Bool :=
 if l.length ≤ 18 ∧ (spl 124 l).length = 2 then
  if (spl 58 ((spl 124 l).getD 1 [])).length = 2 then
   if (spl 47 ((spl 58 ((spl 124 l).getD 1 [])).getD 1 [])).length = 2 then
    if mIsland (rd6 ((spl 124 l).getD 0 [])) (rd6 ((spl 58 ((spl 124 l).getD 1 [])).getD 0 [])) (rd6 ((spl 47 ((spl 58 ((spl 124 l).getD 1 [])).getD 1 [])).getD 0 [])) (rd6 ((spl 47 ((spl 58 ((spl 124 l).getD 1 [])).getD 1 [])).getD 1 [])) = true then
     (rd6 ((spl 124 l).getD 0 []), rd6 ((spl 58 ((spl 124 l).getD 1 [])).getD 0 []), rd6 ((spl 47 ((spl 58 ((spl 124 l).getD 1 [])).getD 1 [])).getD 0 []), rd6 ((spl 47 ((spl 58 ((spl 124 l).getD 1 [])).getD 1 [])).getD 1 []), true)
    else (0, 0, 0, 0, false)
   else (0, 0, 0, 0, false)
  else (0, 0, 0, 0, false)
 else (0, 0, 0, 0, false)
theorem rdOf_mk {l : List (List UInt8)} {i : Nat} (h : i < l.length) : rdOf ByteArray.empty (l.map mkS) (i : Int) = mkS (l.getD i []) := by
 simp [rdOf, List.getD_eq_getElem?_getD, List.getElem?_eq_getElem h]
theorem part_size {c : UInt8} {l : List UInt8} {i : Nat} : ((spl c l).getD i []).length ≤ l.length := by
 have hall : ∀ (l : List UInt8), ∀ x ∈ spl c l, x.length ≤ l.length := by
  intro l
  induction l with
  | nil => intro x hx; simp [spl] at hx; simp [hx]
  | cons b t ih =>
   intro x hx
   unfold spl at hx
   split at hx
   ·rcases List.mem_cons.1 hx with rfl | h
    ·simp
    ·have := ih x h; simp only [List.length_cons]; omega
   ·cases hs : spl c t with
    | nil => exact absurd hs (spl_ne c t)
    | cons y r =>
     rw [hs] at hx ih
     simp only [glue] at hx
     rcases List.mem_cons.1 hx with rfl | h
     ·have := ih y zO5_3; simp only [List.length_append, List.length_cons, List.length_nil]; omega
     ·have := ih x (by simp [h]); simp only [List.length_cons]; omega
 by_cases h : i < (spl c l).length
 ·rw [List.getD_eq_getElem?_getD, List.getElem?_eq_getElem h, Option.getD_some]
  exact hall l _ (List.getElem_mem h)
 ·rw [List.getD_eq_getElem?_getD, List.getElem?_eq_none zO5_2, Option.getD_none]
  simp
theorem spec_ParseIsland.ev {s : ByteArray} (hs : s.size ≤ 1048576) : Ev (fun k => spec_ParseIsland.f k s) (mSpecIs s.data.toList) := by
 have hlen : s.data.toList.length = s.size := by simp
 have msz : ∀ l : List UInt8, (mkS l).size = l.length := fun l => by simp [mkS, ByteArray.size]
 unfold spec_ParseIsland.f
 refine Ev.bind (a := mSpecIs s.data.toList) ?_ (Ev.now _)
 unfold spec_htParse.f mSpecIs
 refine Ev.bind (spec_l1Split.ev (s := s) zO5_2 124) ?_
 by_cases c1 : s.size ≤ 18 ∧ (spl 124 s.data.toList).length = 2
 ·rw [if_pos (by rw [hlen]; exact c1)]
  simp only [show ¬ ((s.size : Int) > 18) by omega, if_false, List.length_map]
  refine Ev.succ ?_
  have e2 : (((spl 124 s.data.toList).length : Int) != 2) = false := by rw [c1.2]; rfl
  have r1 := rdOf_mk (l := spl 124 s.data.toList) (i := 1) zO5_2
  have r0 := rdOf_mk (l := spl 124 s.data.toList) (i := 0) zO5_2
  have p1 := part_size (c := 124) (l := s.data.toList) (i := 1)
  have p0 := part_size (c := 124) (l := s.data.toList) (i := 0)
  simp only [spec_htParse.j0, e2, Bool.false_eq_true, if_false, List.length_map, show (1 : Int) < ((spl 124 s.data.toList).length : Int) by omega, show (0 : Int) < ((spl 124 s.data.toList).length : Int) by omega, if_true, show rdOf ByteArray.empty ((spl 124 s.data.toList).map mkS) 1 = mkS ((spl 124 s.data.toList).getD 1 []) from r1, show rdOf ByteArray.empty ((spl 124 s.data.toList).map mkS) 0 = mkS ((spl 124 s.data.toList).getD 0 []) from r0]
  generalize (spl 124 s.data.toList).getD 1 [] = y at *
  generalize (spl 124 s.data.toList).getD 0 [] = x at *
  refine Ev.bind (spec_l1Split.ev (s := mkS y) zO5_1 58) ?_
  rw [mkS_data]
  by_cases c2 : (spl 58 y).length = 2
  ·have q1 := rdOf_mk (l := spl 58 y) (i := 1) zO5_2
   have q0 := rdOf_mk (l := spl 58 y) (i := 0) zO5_2
   have t1 := part_size (c := 58) (l := y) (i := 1)
   have t0 := part_size (c := 58) (l := y) (i := 0)
   simp only [List.length_map, c2, show ((2 : Nat) : Int) = 2 from rfl, if_true, show (1 : Int) < 2 by omega, show (0 : Int) < 2 by omega, show rdOf ByteArray.empty ((spl 58 y).map mkS) 1 = mkS ((spl 58 y).getD 1 []) from q1, show rdOf ByteArray.empty ((spl 58 y).map mkS) 0 = mkS ((spl 58 y).getD 0 []) from q0]
   generalize (spl 58 y).getD 1 [] = v at *
   generalize (spl 58 y).getD 0 [] = u at *
   refine Ev.bind (spec_l1Split.ev (s := mkS v) zO5_1 47) ?_
   rw [mkS_data]
   by_cases c3 : (spl 47 v).length = 2
   ·have w1 := rdOf_mk (l := spl 47 v) (i := 1) zO5_2
    have w0 := rdOf_mk (l := spl 47 v) (i := 0) zO5_2
    have z1 := part_size (c := 47) (l := v) (i := 1)
    have z0 := part_size (c := 47) (l := v) (i := 0)
    simp only [List.length_map, c3, show ((2 : Nat) : Int) = 2 from rfl, if_true, show (1 : Int) < 2 by omega, show (0 : Int) < 2 by omega, show rdOf ByteArray.empty ((spl 47 v).map mkS) 1 = mkS ((spl 47 v).getD 1 []) from w1, show rdOf ByteArray.empty ((spl 47 v).map mkS) 0 = mkS ((spl 47 v).getD 0 []) from w0]
    generalize (spl 47 v).getD 1 [] = q at *
    generalize (spl 47 v).getD 0 [] = p at *
    refine Ev.bind (spec_l1Read.ev (s := mkS x) zO5_1) ?_
    refine Ev.bind (spec_l1Read.ev (s := mkS u) zO5_1) ?_
    refine Ev.bind (spec_l1Read.ev (s := mkS p) zO5_1) ?_
    refine Ev.bind (spec_l1Read.ev (s := mkS q) zO5_1) ?_
    simp only [mkS_data]
    refine Ev.bind (spec_htGood.ev _ _ _ _) ?_
    cases mIsland (rd6 x) (rd6 u) (rd6 p) (rd6 q) with
    | true => simp only [if_true]; exact Ev.now _
    | false => simp only [Bool.false_eq_true, if_false]; exact Ev.now _
   ·simp only [List.length_map, show ¬ (((spl 47 v).length : Int) = 2) by omega, c3, if_false]
    exact Ev.now _
  ·simp only [List.length_map, show ¬ (((spl 58 y).length : Int) = 2) by omega, c2, if_false]
   exact Ev.now _
 ·rw [if_neg (by rw [hlen]; exact c1)]
  by_cases c0 : (s.size : Int) > 18
  ·simp only [c0, if_true]
   refine Ev.succ ?_
   simp only [spec_htParse.j0, if_true]
   exact Ev.now _
  ·simp only [c0, if_false, List.length_map]
   refine Ev.succ ?_
   have e2 : (((spl 124 s.data.toList).length : Int) != 2) = true := bne_iff_ne.2 zO5_2
   simp only [spec_htParse.j0, e2, if_true]
   exact Ev.now _
theorem mSpecIs_mk {a b c d : Int} (h : mIsland a b c d = true) : mSpecIs (isText a b c d).data.toList = (a, b, c, d, true) := by
 have hb := isl_bd h
 have hl := isText_len h
 have e0 := rd6_txt (n := a.toNat) zO5_2
 have e1 := rd6_txt (n := b.toNat) zO5_2
 have e2 := rd6_txt (n := c.toNat) zO5_2
 have e3 := rd6_txt (n := d.toNat) zO5_2
 rw [show ((a.toNat : Nat) : Int) = a by omega] at e0
 rw [show ((b.toNat : Nat) : Int) = b by omega] at e1
 rw [show ((c.toNat : Nat) : Int) = c by omega] at e2
 rw [show ((d.toNat : Nat) : Int) = d by omega] at e3
 have n1 : (124 : UInt8) ∉ Lib.decDigits b.toNat ++ 58 :: (Lib.decDigits c.toNat ++ 47 :: Lib.decDigits d.toNat) := by
  simp only [List.mem_append, List.mem_cons, not_or]
  exact ⟨no_sep (by decide), by decide, no_sep (by decide), by decide, no_sep (by decide)⟩
 have n2 : (58 : UInt8) ∉ Lib.decDigits c.toNat ++ 47 :: Lib.decDigits d.toNat := by
  simp only [List.mem_append, List.mem_cons, not_or]
  exact ⟨no_sep (by decide), by decide, no_sep (by decide)⟩
 have n3 : (47 : UInt8) ∉ Lib.decDigits d.toNat := no_sep (by decide)
 have s1 : spl 124 (isText a b c d).data.toList = [Lib.decDigits a.toNat, Lib.decDigits b.toNat ++ 58 :: (Lib.decDigits c.toNat ++ 47 :: Lib.decDigits d.toNat)] := by
  rw [isText_data, spl_mk (no_sep (by decide)), spl_no n1]
 have s2 : spl 58 (Lib.decDigits b.toNat ++ 58 :: (Lib.decDigits c.toNat ++ 47 :: Lib.decDigits d.toNat)) = [Lib.decDigits b.toNat, Lib.decDigits c.toNat ++ 47 :: Lib.decDigits d.toNat] := by
  rw [spl_mk (no_sep (by decide)), spl_no n2]
 have s3 : spl 47 (Lib.decDigits c.toNat ++ 47 :: Lib.decDigits d.toNat) = [Lib.decDigits c.toNat, Lib.decDigits d.toNat] := by
  rw [spl_mk (no_sep (by decide)), spl_no n3]
 unfold mSpecIs
 rw [s1, if_pos ⟨hl, rfl⟩]
 simp only [List.getD_cons_succ, List.getD_cons_zero]
 rw [s2, if_pos (show ([Lib.decDigits b.toNat, Lib.decDigits c.toNat ++ 47 :: Lib.decDigits d.toNat] : List (List UInt8)).length = 2 from rfl)]
 simp only [List.getD_cons_succ, List.getD_cons_zero]
 rw [s3, if_pos (show ([Lib.decDigits c.toNat, Lib.decDigits d.toNat] : List (List UInt8)).length = 2 from rfl)]
 simp only [List.getD_cons_succ, List.getD_cons_zero]
 rw [e0, e1, e2, e3, if_pos h]
theorem mSpecIs_back {l : List UInt8} : mSpecIs l = (0, 0, 0, 0, false) ∨ ∃ a b c d, mIsland a b c d = true ∧ l = (isText a b c d).data.toList := by
 unfold mSpecIs
 split
 ·rename_i h1
  split
  ·rename_i h2
   split
   ·rename_i h3
    split
    ·rename_i h4
     right
     obtain ⟨x, y, e1, f1⟩ := spl_two h1.2
     rw [f1] at h2 h3 h4
     simp only [List.getD_cons_succ, List.getD_cons_zero] at h2 h3 h4
     obtain ⟨u, v, e2, f2⟩ := spl_two h2
     rw [f2] at h3 h4
     simp only [List.getD_cons_succ, List.getD_cons_zero] at h3 h4
     obtain ⟨p, q, e3, f3⟩ := spl_two h3
     rw [f3] at h4
     simp only [List.getD_cons_succ, List.getD_cons_zero] at h4
     have hb := isl_bd h4
     refine ⟨_, _, _, _, h4, ?_⟩
     rw [isText_data, ← rd6_back zO5_2, ← rd6_back zO5_2, ← rd6_back zO5_2, ← rd6_back zO5_2, e1, e2, e3]
    ·exact .inl rfl
   ·exact .inl rfl
  ·exact .inl rfl
 ·exact .inl rfl
/-- What the program's parse answers. -/
def mImplIs (s : ByteArray) : Int × Int × Int × Int × Bool :=
 if ((numOf (cutOf s (⟨#[124]⟩ : ByteArray)).1).2 && ((numOf (cutOf (cutOf s (⟨#[124]⟩ : ByteArray)).2.1 (⟨#[58]⟩ : ByteArray)).1).2 && ((numOf (cutOf (cutOf (cutOf s (⟨#[124]⟩ : ByteArray)).2.1 (⟨#[58]⟩ : ByteArray)).2.1 (⟨#[47]⟩ : ByteArray)).1).2 && ((numOf (cutOf (cutOf (cutOf s (⟨#[124]⟩ : ByteArray)).2.1 (⟨#[58]⟩ : ByteArray)).2.1 (⟨#[47]⟩ : ByteArray)).2.1).2 && mIsland (numOf (cutOf s (⟨#[124]⟩ : ByteArray)).1).1 (numOf (cutOf (cutOf s (⟨#[124]⟩ : ByteArray)).2.1 (⟨#[58]⟩ : ByteArray)).1).1 (numOf (cutOf (cutOf (cutOf s (⟨#[124]⟩ : ByteArray)).2.1 (⟨#[58]⟩ : ByteArray)).2.1 (⟨#[47]⟩ : ByteArray)).1).1 (numOf (cutOf (cutOf (cutOf s (⟨#[124]⟩ : ByteArray)).2.1 (⟨#[58]⟩ : ByteArray)).2.1 (⟨#[47]⟩ : ByteArray)).2.1).1)))) = true then
  ((numOf (cutOf s (⟨#[124]⟩ : ByteArray)).1).1, (numOf (cutOf (cutOf s (⟨#[124]⟩ : ByteArray)).2.1 (⟨#[58]⟩ : ByteArray)).1).1, (numOf (cutOf (cutOf (cutOf s (⟨#[124]⟩ : ByteArray)).2.1 (⟨#[58]⟩ : ByteArray)).2.1 (⟨#[47]⟩ : ByteArray)).1).1, (numOf (cutOf (cutOf (cutOf s (⟨#[124]⟩ : ByteArray)).2.1 (⟨#[58]⟩ : ByteArray)).2.1 (⟨#[47]⟩ : ByteArray)).2.1).1, true)
 else (0, 0, 0, 0, false)
theorem cutOf_brk (s : ByteArray) (c : UInt8) (sep : ByteArray) (hs : sep.data.toList = [c]) : cutOf s sep = match brk c s.data.toList with | some p => (mkS p.1, mkS p.2, true) | none => (s, mkS [], false) := by
 unfold cutOf
 rw [hs, cut_brk]
 cases brk c s.data.toList with
 | some p => rfl
 | none => simp only; exact congrArg (fun z => (z, mkS [], false)) (mkS_of s)
theorem cutOf_size (s : ByteArray) (c : UInt8) (sep : ByteArray) (hs : sep.data.toList = [c]) : (cutOf s sep).1.size ≤ s.size ∧ (cutOf s sep).2.1.size ≤ s.size := by
 have hlen : s.data.toList.length = s.size := by simp
 have msz : ∀ l : List UInt8, (mkS l).size = l.length := fun l => by simp [mkS, ByteArray.size]
 rw [cutOf_brk s c sep hs]
 cases h : brk c s.data.toList with
 | none => simp only [msz]; simp
 | some p =>
  obtain ⟨e, _⟩ := brk_some (x := p.1) (y := p.2) h
  have := congrArg List.length e
  simp only [List.length_append, List.length_cons] at this
  simp only [msz]
  omega
theorem cut_eq {a b : ByteArray} (h : a.size ≤ 1048576) : strings_Cut.f a b = some (cutOf a b) := by
 unfold strings_Cut.f
 rw [if_pos zO5_2]
theorem num_eq {a : ByteArray} (h : a.size ≤ 1048576) : impl_number.f a = some (numOf a) := by
 unfold impl_number.f
 rw [if_pos zO5_2]
theorem impl_ParseIsland.eq {s : ByteArray} (hs : s.size ≤ 1048576) : impl_ParseIsland.f s = some (mImplIs s) := by
 unfold impl_ParseIsland.f mImplIs
 have z1 := cutOf_size s 124 (⟨#[124]⟩ : ByteArray) rfl
 simp only [cut_eq hs, Option.bind_some]
 generalize cutOf s (⟨#[124]⟩ : ByteArray) = t1 at *
 have z2 := cutOf_size t1.2.1 58 (⟨#[58]⟩ : ByteArray) rfl
 simp only [cut_eq (show t1.2.1.size ≤ 1048576 by omega), Option.bind_some]
 generalize cutOf t1.2.1 (⟨#[58]⟩ : ByteArray) = t2 at *
 have z3 := cutOf_size t2.2.1 47 (⟨#[47]⟩ : ByteArray) rfl
 simp only [cut_eq (show t2.2.1.size ≤ 1048576 by omega), Option.bind_some]
 generalize cutOf t2.2.1 (⟨#[47]⟩ : ByteArray) = t3 at *
 simp only [num_eq (show t1.1.size ≤ 1048576 by omega), num_eq (show t2.1.size ≤ 1048576 by omega), num_eq (show t3.1.size ≤ 1048576 by omega), num_eq (show t3.2.1.size ≤ 1048576 by omega), Option.bind_some, impl_checkedIsland.f, impl_IsIsland.eq]
 generalize numOf t1.1 = n1
 generalize numOf t2.1 = n2
 generalize numOf t3.1 = n3
 generalize numOf t3.2.1 = n4
 obtain ⟨a, oa⟩ := n1
 obtain ⟨b, ob⟩ := n2
 obtain ⟨c, oc⟩ := n3
 obtain ⟨d, od⟩ := n4
 cases oa with
 | false => simp
 | true =>
  cases ob with
  | false => simp
  | true =>
   cases oc with
   | false => simp
   | true =>
    cases od with
    | false => simp
    | true =>
     simp only [if_true, Bool.true_and]
     cases mIsland a b c d with
     | true => simp
     | false => simp
theorem mImplIs_mk {a b c d : Int} (h : mIsland a b c d = true) : mImplIs (isText a b c d) = (a, b, c, d, true) := by
 have hb := isl_bd h
 have e0 := numOf_txt (n := a.toNat) zO5_2
 have e1 := numOf_txt (n := b.toNat) zO5_2
 have e2 := numOf_txt (n := c.toNat) zO5_2
 have e3 := numOf_txt (n := d.toNat) zO5_2
 rw [show ((a.toNat : Nat) : Int) = a by omega] at e0
 rw [show ((b.toNat : Nat) : Int) = b by omega] at e1
 rw [show ((c.toNat : Nat) : Int) = c by omega] at e2
 rw [show ((d.toNat : Nat) : Int) = d by omega] at e3
 have c1 : cutOf (isText a b c d) (⟨#[124]⟩ : ByteArray) = (txt a.toNat, mkS (Lib.decDigits b.toNat ++ 58 :: (Lib.decDigits c.toNat ++ 47 :: Lib.decDigits d.toNat)), true) := by
  rw [cutOf_brk _ 124 _ rfl, isText_data, brk_mk (no_sep (by decide))]; rfl
 have c2 : cutOf (mkS (Lib.decDigits b.toNat ++ 58 :: (Lib.decDigits c.toNat ++ 47 :: Lib.decDigits d.toNat))) (⟨#[58]⟩ : ByteArray) = (txt b.toNat, mkS (Lib.decDigits c.toNat ++ 47 :: Lib.decDigits d.toNat), true) := by
  rw [cutOf_brk _ 58 _ rfl, mkS_data, brk_mk (no_sep (by decide))]; rfl
 have c3 : cutOf (mkS (Lib.decDigits c.toNat ++ 47 :: Lib.decDigits d.toNat)) (⟨#[47]⟩ : ByteArray) = (txt c.toNat, txt d.toNat, true) := by
  rw [cutOf_brk _ 47 _ rfl, mkS_data, brk_mk (no_sep (by decide))]; rfl
 unfold mImplIs
 simp only [c1, c2, c3, e0, e1, e2, e3, h, Bool.and_self, if_true]
theorem mImplIs_back (s : ByteArray) : mImplIs s = (0, 0, 0, 0, false) ∨ ∃ a b c d, mIsland a b c d = true ∧ s.data.toList = (isText a b c d).data.toList := by
 unfold mImplIs
 split
 ·rename_i hq
  right
  simp only [Bool.and_eq_true] at hq
  obtain ⟨h1, h2, h3, h4, h5⟩ := hq
  have hb := isl_bd h5
  have k1 := cutOf_brk s 124 (⟨#[124]⟩ : ByteArray) rfl
  have k2 := cutOf_brk (cutOf s (⟨#[124]⟩ : ByteArray)).2.1 58 (⟨#[58]⟩ : ByteArray) rfl
  have k3 := cutOf_brk (cutOf (cutOf s (⟨#[124]⟩ : ByteArray)).2.1 (⟨#[58]⟩ : ByteArray)).2.1 47 (⟨#[47]⟩ : ByteArray) rfl
  have p1 := numOf_pos h1 zO5_2
  have p2 := numOf_pos h2 zO5_2
  have p3 := numOf_pos h3 zO5_2
  have p4 := numOf_pos h4 zO5_2
  refine ⟨_, _, _, _, h5, ?_⟩
  rw [isText_data, ← p1, ← p2, ← p3, ← p4]
  cases b1 : brk 124 s.data.toList with
  | none =>
   rw [b1] at k1
   rw [k1] at k2 h2
   have : brk 58 (mkS []).data.toList = none := rfl
   rw [this] at k2
   rw [k2] at h2
   rw [numOf_empty rfl] at h2
   cases h2
  | some x =>
   rw [b1] at k1
   obtain ⟨f1, _⟩ := brk_some (x := x.1) (y := x.2) b1
   rw [k1] at k2 k3 h3 h4 ⊢
   simp only [mkS_data] at k2 ⊢
   cases b2 : brk 58 x.2 with
   | none =>
    rw [b2] at k2
    rw [k2] at k3 h3
    have : brk 47 (mkS []).data.toList = none := rfl
    simp only [this] at k3
    rw [k3] at h3
    rw [numOf_empty rfl] at h3
    cases h3
   | some y =>
    rw [b2] at k2
    obtain ⟨f2, _⟩ := brk_some (x := y.1) (y := y.2) b2
    rw [k2] at k3 h4 ⊢
    simp only [mkS_data] at k3 ⊢
    cases b3 : brk 47 y.2 with
    | none =>
     rw [b3] at k3
     rw [k3] at h4
     rw [numOf_empty rfl] at h4
     cases h4
    | some z =>
     rw [b3] at k3
     obtain ⟨f3, _⟩ := brk_some (x := z.1) (y := z.2) b3
     rw [k3]
     simp only [mkS_data]
     rw [f1, f2, f3]
 ·exact .inl rfl
theorem isl_same (s : ByteArray) : mImplIs s = mSpecIs s.data.toList := by
 rcases mSpecIs_back (l := s.data.toList) with h | ⟨a, b, c, d, hg, e⟩
 ·rcases mImplIs_back s with h' | ⟨a, b, c, d, hg, e⟩
  ·rw [h, h']
  ·rw [e, mSpecIs_mk hg] at h
   simp at h
 ·obtain rfl : s = isText a b c d := ba_ext e
  rw [mSpecIs_mk hg, mImplIs_mk hg]
theorem spec_htText.ev {a b c d : Int} (h : mIsland a b c d = true) : Ev (fun k => spec_htText.f k a b c d) (isText a b c d) := by
 have hb := isl_bd h
 have s0 := txt_size a.toNat
 have s1 := txt_size b.toNat
 have s2 := txt_size c.toNat
 have s3 := txt_size d.toNat
 unfold spec_htText.f
 refine Ev.bind (spec_l1Num.evi zO5_2 zO5_2) ?_
 simp only [show (txt a.toNat).size + 1 ≤ 9223372036854775807 by omega, if_true]
 refine Ev.bind (spec_l1Num.evi zO5_2 zO5_2) ?_
 simp only [ByteArray.size_append, bar_size, col_size, sla_size, show (txt a.toNat).size + 1 + (txt b.toNat).size ≤ 9223372036854775807 by omega, show (txt a.toNat).size + 1 + (txt b.toNat).size + 1 ≤ 9223372036854775807 by omega, if_true]
 refine Ev.bind (spec_l1Num.evi zO5_2 zO5_2) ?_
 simp only [show (txt a.toNat).size + 1 + (txt b.toNat).size + 1 + (txt c.toNat).size ≤ 9223372036854775807 by omega, show (txt a.toNat).size + 1 + (txt b.toNat).size + 1 + (txt c.toNat).size + 1 ≤ 9223372036854775807 by omega, if_true]
 refine Ev.bind (spec_l1Num.evi zO5_2 zO5_2) ?_
 simp only [show (txt a.toNat).size + 1 + (txt b.toNat).size + 1 + (txt c.toNat).size + 1 + (txt d.toNat).size ≤ 9223372036854775807 by omega, if_true]
 exact Ev.now _
theorem sureIsland_ok {l : List Int} (hb : Bytes l) {p s : Int} (h0 : 0 ≤ p) (h1 : p ≤ 1152921504606830000) : ∃ a b c d p' s', spec_l1Cur_sureIsland.f l p s = some (a, b, c, d, p', s') ∧ mIsland a b c d = true ∧ p ≤ p' ∧ p' ≤ p + 8 := by
 obtain ⟨x, p1, s1, e1, q1, h2, h3⟩ := pick_ok hb (s := s) h0 zO5_2 6 zO5_2
 obtain ⟨y, p2, s2, e2, q2, h4, h5⟩ := pick_ok hb (p := p1) (s := s1) zO5_2 zO5_2 12 zO5_2
 obtain ⟨z, p3, s3, e3, q3, h6, h7⟩ := pick_ok hb (p := p2) (s := s2) zO5_2 zO5_2 8 zO5_2
 obtain ⟨u, p4, s4, e4, q4, h8, h9⟩ := pick_ok hb (p := p3) (s := s3) zO5_2 zO5_2 6 zO5_2
 unfold spec_l1Cur_sureIsland.f
 simp only [e1, e2, e3, e4, Option.bind_some]
 rw [wid (show -9223372036854775808 ≤ 1 + x by omega) zO5_2, wid (show -9223372036854775808 ≤ 1 + y by omega) zO5_2, wid (show -9223372036854775808 ≤ 1 + z by omega) zO5_2, wid (show -9223372036854775808 ≤ 1 + z + 1 by omega) zO5_2, wid (show -9223372036854775808 ≤ 1 + z + 1 + u by omega) zO5_2]
 exact ⟨_, _, _, _, _, _, rfl, mIsland_iff.2 ⟨by omega, by omega, by omega, by omega, by omega⟩, by omega, by omega⟩
theorem island_ok {l : List Int} (hb : Bytes l) {p s : Int} (h0 : 0 ≤ p) (h1 : p ≤ 1152921504606830000) : ∃ a b c d p' s', spec_l1Cur_island.f l p s = some (a, b, c, d, p', s') ∧ p ≤ p' ∧ p' ≤ p + 12 := by
 obtain ⟨x, y, z, u, p1, s1, e1, _, h2, h3⟩ := sureIsland_ok hb (s := s) h0 h1
 obtain ⟨v, p2, s2, e2, q2, h4, h5⟩ := pick_ok hb (p := p1) (s := s1) zO5_2 zO5_2 16 zO5_2
 obtain ⟨w1, p3, s3, e3, h6, h7⟩ := among_ok hb (p := p2) (s := s2) zO5_2 zO5_2 [0, -1, 101, 4611686018427387904] zO5_3
 obtain ⟨w2, p4, s4, e4, h8, h9⟩ := among_ok hb (p := p2) (s := s2) zO5_2 zO5_2 [z, 0, 2000, 2001, 4611686018427387904] zO5_3
 obtain ⟨w3, p5, s5, e5, ha, hc⟩ := among_ok hb (p := p2) (s := s2) zO5_2 zO5_2 [0, 2000, 2001, 4611686018427387904] zO5_3
 unfold spec_l1Cur_island.f
 simp only [e1, e2, e3, e4, e5, Option.bind_some]
 split
 ·exact ⟨_, _, _, _, _, _, rfl, by omega, by omega⟩
 ·split
  ·exact ⟨_, _, _, _, _, _, rfl, by omega, by omega⟩
  ·split
   ·exact ⟨_, _, _, _, _, _, rfl, by omega, by omega⟩
   ·exact ⟨_, _, _, _, _, _, rfl, by omega, by omega⟩
theorem drawIsland_ok {l : List Int} (hb : Bytes l) : ∃ a b c d, spec_DrawIslandHeight.f l = some (a, b, c, d) := by
 obtain ⟨x, y, z, u, p1, s1, e1, h2, h3⟩ := island_ok hb (p := 0) (s := 0) zO5_2 zO5_2
 unfold spec_DrawIslandHeight.f spec_DrawIsIsland.f
 simp only [e1, Option.bind_some]
 exact ⟨_, _, _, _, rfl⟩
theorem drawSecond_ok {l : List Int} (hb : Bytes l) : ∃ a b c d, spec_DrawSecondStep.f l = some (a, b, c, d) := by
 obtain ⟨x, p1, s1, e1, h2, h3⟩ := staff_ok hb (p := 0) (s := 0) zO5_2 zO5_2
 obtain ⟨y, p2, s2, e2, h4, h5⟩ := long_ok hb (p := p1) (s := s1) zO5_2 zO5_2
 obtain ⟨z, p3, s3, e3, h6, h7⟩ := long_ok hb (p := p2) (s := s2) zO5_2 zO5_2
 obtain ⟨u, p4, s4, e4, h8, h9⟩ := long_ok hb (p := p3) (s := s3) zO5_2 zO5_2
 unfold spec_DrawSecondStep.f
 simp only [e1, e2, e3, e4, Option.bind_some]
 exact ⟨_, _, _, _, rfl⟩
theorem drawWhole_ok {l : List Int} (hb : Bytes l) : ∃ a b, spec_DrawWholeIslands.f l = some (a, b) := by
 obtain ⟨x, p1, s1, e1, h2, h3⟩ := staff_ok hb (p := 0) (s := 0) zO5_2 zO5_2
 obtain ⟨y, p2, s2, e2, h4, h5⟩ := long_ok hb (p := p1) (s := s1) zO5_2 zO5_2
 unfold spec_DrawWholeIslands.f
 simp only [e1, e2, Option.bind_some]
 exact ⟨_, _, rfl⟩
theorem drawTimes_ok {l : List Int} (hb : Bytes l) : ∃ a b c d e, spec_DrawTimesIsland.f l = some (a, b, c, d, e) := by
 obtain ⟨x, y, z, u, p1, s1, e1, h2, h3⟩ := island_ok hb (p := 0) (s := 0) zO5_2 zO5_2
 obtain ⟨v, p2, s2, e2, h4, h5⟩ := among_ok hb (p := p1) (s := s1) zO5_2 zO5_2 [1, 2, 3, 10, 2000, 2001, 0, -1] zO5_3
 unfold spec_DrawTimesIsland.f
 simp only [e1, e2, Option.bind_some]
 exact ⟨_, _, _, _, _, rfl⟩
theorem drawParseIs_ok {l : List Int} (hb : Bytes l) : ∃ s, Ev (fun k => spec_DrawParseIsland.f k l) s ∧ s.size ≤ 1048576 := by
 obtain ⟨x, y, z, u, p1, s1, e1, g, h2, h3⟩ := sureIsland_ok hb (p := 0) (s := 0) zO5_2 zO5_2
 obtain ⟨t, p2, s2, e2, h4, h5⟩ := one_ok hb (p := p1) (s := s1) zO5_2 zO5_2 3 zO5_2
 have n1 := isText_len g
 have n2 : (isText x y z u).data.toList.length = (isText x y z u).size := Array.length_toList
 unfold spec_DrawParseIsland.f
 simp only [e1, Option.bind_some]
 cases t with
 | true =>
  obtain ⟨s', p', q', e, hz⟩ := spoilt_ok hb (p := p2) (q := s2) zO5_2 zO5_2 (s := isText x y z u) (t := (⟨#[48, 49, 50, 51, 124, 58, 47, 120]⟩ : ByteArray)) zO5_2 ⟨by decide, by decide⟩
  refine ⟨s', Ev.bind (spec_htText.ev g) ?_, by omega⟩
  simp only [e2, Option.bind_some, if_true]
  exact Ev.bind e (Ev.now _)
 | false =>
  refine ⟨isText x y z u, Ev.bind (spec_htText.ev g) ?_, by omega⟩
  simp only [e2, Option.bind_some, Bool.false_eq_true, if_false]
  exact Ev.now _
theorem spec_clLow.ev_l (x y : Int) (hx0 : 0 ≤ x) (hx1 : x ≤ 9223372036854775807) (hy0 : 0 < y) (hy1 : y ≤ 9223372036854775807) (n : Nat) : ∀ a b : Int, b.natAbs ≤ n → 0 ≤ a → 0 ≤ b → (0 < a ∨ 0 < b) → Int.gcd a b = Int.gcd x y → Ev (fun k => spec_clLow.l0 k x y a b) (loA x y, loB x y) := by
 induction n using Nat.strongRecOn with
 | ind n ih =>
  intro a b hn ha hb hab hg
  by_cases hb' : b = 0
  ·subst hb'
   refine Ev.step (f := fun _ => some (wrap64 (Int.tdiv x a), wrap64 (Int.tdiv y a))) (fun k => by simp only [spec_clLow.l0]; rw [if_neg zO5_2, if_neg zO5_2]) ?_
   refine Ev.const ?_
   have ea : a = (Int.gcd x y : Int) := by rw [← hg, Int.gcd_zero_right]; omega
   have h1 := loA_bd (a := x) hy0
   have h2 := loB_pos (a := x) hy0
   rw [ea, tdiv_gcd_l, tdiv_gcd_r, wid zO5_2 zO5_2, wid zO5_2 zO5_2]
  ·refine Ev.step (f := fun k => spec_clLow.l0 k x y b (Int.tmod a b)) (fun k => by simp only [spec_clLow.l0]; rw [if_pos zO5_2, if_neg hb']) ?_
   have h1 : (Int.tmod a b).natAbs < b.natAbs := by rw [Int.natAbs_tmod]; exact Nat.mod_lt _ zO5_2
   exact ih (Int.tmod a b).natAbs zO5_2 b (Int.tmod a b) (Nat.le_refl _) hb (Int.tmod_nonneg _ ha) (.inl zO5_2) ((gcd_tmod a b).trans hg)
theorem spec_clLow.ev {x y : Int} (hx0 : 0 ≤ x) (hx1 : x ≤ 9223372036854775807) (hy0 : 0 < y) (hy1 : y ≤ 9223372036854775807) : Ev (fun k => spec_clLow.f k x y) (loA x y, loB x y) := by
 unfold spec_clLow.f; exact spec_clLow.ev_l x y hx0 hx1 hy0 hy1 _ x y (Nat.le_refl _) hx0 zO5_2 (.inr hy0) rfl
def mHig (a b c d : Int) : Int × Int × Bool := if mIsland a b c d = true ∧ d - c ≠ 1 then (loA (a * b) ((d - c) * (d - c - 1)), loB (a * b) ((d - c) * (d - c - 1)), true) else (0, 0, false)
theorem spec_HigherByStep.ev (a b c d : Int) : Ev (fun k => spec_HigherByStep.f k a b c d) (mHig a b c d) := by
 obtain ⟨K1, h1⟩ := spec_htGood.ev a b c d
 by_cases e : mIsland a b c d = true
 ·obtain ⟨b0, b1, b2, b3, b4⟩ := mIsland_iff.1 e
  by_cases e1 : d - c = 1
  ·refine ⟨K1, fun k hk => ?_⟩
   have h1 := h1 k zO5_2
   dsimp only at *
   unfold spec_HigherByStep.f mHig
   rw [h1, e, wid (show -9223372036854775808 ≤ d - c by omega) zO5_2, e1]
   simp
  ·have p := mul_bd (a := a) (b := b) (A := 100) (B := 2000) zO5_2 zO5_2 zO5_2 zO5_2
   have q := mul_bd (a := d - c) (b := d - c - 1) (A := 2000) (B := 2000) zO5_2 zO5_2 zO5_2 zO5_2
   have q0 : 0 < (d - c) * (d - c - 1) := Int.mul_pos zO5_2 zO5_2
   obtain ⟨K2, h2⟩ := spec_clLow.ev (x := a * b) (y := (d - c) * (d - c - 1)) zO5_2 zO5_2 zO5_2 zO5_2
   refine ⟨max K1 K2, fun k hk => ?_⟩
   have h1 := h1 k zO5_2; have h2 := h2 k zO5_2
   dsimp only at *
   unfold spec_HigherByStep.f mHig
   rw [h1, e, wid (show -9223372036854775808 ≤ d - c by omega) zO5_2, wid (show -9223372036854775808 ≤ d - c - 1 by omega) zO5_2, wid (show -9223372036854775808 ≤ a * b by omega) zO5_2, wid (show -9223372036854775808 ≤ (d - c) * (d - c - 1) by omega) zO5_2, Option.bind_some, if_pos rfl, if_neg e1, h2, if_pos (show true = true ∧ d - c ≠ 1 from ⟨rfl, e1⟩)]
   rfl
 ·refine ⟨K1, fun k hk => ?_⟩
  have h1 := h1 k zO5_2
  dsimp only at *
  unfold spec_HigherByStep.f mHig
  rw [h1, if_neg (show ¬ (mIsland a b c d = true ∧ d - c ≠ 1) from fun h => e h.1), Bool.eq_false_iff.2 e]
  rfl
theorem impl_HigherByStep.ev (a b c d : Int) : Ev (fun k => impl_HigherByStep.f k a b c d) (mHig a b c d) := by
 by_cases e : mIsland a b c d = true
 ·obtain ⟨b0, b1, b2, b3, b4⟩ := mIsland_iff.1 e
  by_cases e1 : d - c = 1
  ·refine ⟨0, fun k hk => ?_⟩
   dsimp only at *
   unfold impl_HigherByStep.f mHig
   rw [impl_IsIsland.eq, e, wid (show -9223372036854775808 ≤ d - c by omega) zO5_2, e1]
   simp
  ·have p := mul_bd (a := a) (b := b) (A := 100) (B := 2000) zO5_2 zO5_2 zO5_2 zO5_2
   have q := mul_bd (a := d - c) (b := d - c - 1) (A := 2000) (B := 2000) zO5_2 zO5_2 zO5_2 zO5_2
   have q0 : 0 < (d - c) * (d - c - 1) := Int.mul_pos zO5_2 zO5_2
   obtain ⟨K2, h2⟩ := impl_fraction.ev (a := a * b) (b := (d - c) * (d - c - 1)) zO5_2 zO5_2 zO5_2 zO5_2
   refine ⟨K2, fun k hk => ?_⟩
   have h2 := h2 k zO5_2
   dsimp only at *
   unfold impl_HigherByStep.f mHig
   rw [impl_IsIsland.eq, e, wid (show -9223372036854775808 ≤ d - c by omega) zO5_2, wid (show -9223372036854775808 ≤ d - c - 1 by omega) zO5_2, wid (show -9223372036854775808 ≤ a * b by omega) zO5_2, wid (show -9223372036854775808 ≤ (d - c) * (d - c - 1) by omega) zO5_2, Option.bind_some, if_pos rfl, if_neg e1, h2, if_pos (show true = true ∧ d - c ≠ 1 from ⟨rfl, e1⟩)]
   rfl
 ·refine ⟨0, fun k hk => ?_⟩
  dsimp only at *
  unfold impl_HigherByStep.f mHig
  rw [impl_IsIsland.eq, if_neg (show ¬ (mIsland a b c d = true ∧ d - c ≠ 1) from fun h => e h.1), Bool.eq_false_iff.2 e]
  rfl
theorem impl_IslandAway.ev (a b c d : Int) : Ev (fun k => impl_IslandAway.f k a b c d) (if mIsland a b c d = true then ((mAw a b c d).1, (mAw a b c d).2, true) else (0, 0, false)) := by
 by_cases e : mIsland a b c d = true
 ·obtain ⟨b0, b1, b2, b3, b4⟩ := mIsland_iff.1 e
  have p := mul_bd (a := c) (b := b) (A := 2000) (B := 2000) zO5_2 zO5_2 zO5_2 zO5_2
  obtain ⟨K2, h2⟩ := impl_fraction.ev (a := c * b) (b := d - c) zO5_2 zO5_2 zO5_2 zO5_2
  refine ⟨K2, fun k hk => ?_⟩
  have h2 := h2 k zO5_2
  dsimp only at *
  unfold impl_IslandAway.f
  rw [impl_IsIsland.eq, if_pos e, e, wid (show -9223372036854775808 ≤ d - c by omega) zO5_2, wid (show -9223372036854775808 ≤ c * b by omega) zO5_2, h2]
  rfl
 ·refine ⟨0, fun k hk => ?_⟩
  dsimp only
  unfold impl_IslandAway.f
  rw [impl_IsIsland.eq, if_neg e, Bool.eq_false_iff.2 e]
  rfl
theorem impl_IslandHeight.ev (a b c d : Int) : Ev (fun k => impl_IslandHeight.f k a b c d) (if mIsland a b c d = true then ((mHt a b c d).1, (mHt a b c d).2, true) else (0, 0, false)) := by
 by_cases e : mIsland a b c d = true
 ·obtain ⟨b0, b1, b2, b3, b4⟩ := mIsland_iff.1 e
  have p := mul_bd (a := a) (b := b + (d - c)) (A := 100) (B := 4000) zO5_2 zO5_2 zO5_2 zO5_2
  have p1 := mul_bd (a := a) (b := b) (A := 100) (B := 2000) zO5_2 zO5_2 zO5_2 zO5_2
  have p2 := mul_bd (a := a) (b := d - c) (A := 100) (B := 2000) zO5_2 zO5_2 zO5_2 zO5_2
  obtain ⟨K2, h2⟩ := impl_fraction.ev (a := a * (b + (d - c))) (b := d - c) zO5_2 zO5_2 zO5_2 zO5_2
  refine ⟨K2, fun k hk => ?_⟩
  have h2 := h2 k zO5_2
  dsimp only at *
  unfold impl_IslandHeight.f
  rw [impl_IsIsland.eq, if_pos e, e, wid (show -9223372036854775808 ≤ d - c by omega) zO5_2, wid (show -9223372036854775808 ≤ a * b by omega) zO5_2, wid (show -9223372036854775808 ≤ a * (d - c) by omega) zO5_2, wid (show -9223372036854775808 ≤ a * b + a * (d - c) by omega) zO5_2, ← Int.mul_add, h2]
  rfl
 ·refine ⟨0, fun k hk => ?_⟩
  dsimp only
  unfold impl_IslandHeight.f
  rw [impl_IsIsland.eq, if_neg e, Bool.eq_false_iff.2 e]
  rfl
def mTim (a b c d e : Int) : Int × Int × Int × Int × Bool := if (mIsland a b c d && (inr 1 2000 e && mIsland (a * e) (b * e) (c * e) (d * e))) = true then (a * e, b * e, c * e, d * e, true) else (0, 0, 0, 0, false)
theorem spec_TimesIsland.ev (a b c d e : Int) : Ev (fun k => spec_TimesIsland.f k a b c d e) (mTim a b c d e) := by
 obtain ⟨K1, h1⟩ := spec_htGood.ev a b c d
 obtain ⟨K2, h2⟩ := spec_htLong.ev (l := [e]) zO5_3
 simp only [List.all_cons, List.all_nil, Bool.and_true] at h2
 cases g : mIsland a b c d with
 | false =>
  refine ⟨K1 + 1, fun k hk => ?_⟩
  have h1 := h1 k zO5_2
  obtain ⟨k, rfl⟩ : ∃ j, k = j + 1 := ⟨k - 1, by omega⟩
  dsimp only at *
  unfold spec_TimesIsland.f mTim
  rw [h1, g]
  rfl
 | true =>
  cases g2 : inr 1 2000 e with
  | false =>
   refine ⟨max K1 K2 + 1, fun k hk => ?_⟩
   have h1 := h1 k zO5_2; have h2 := h2 k zO5_2
   obtain ⟨k, rfl⟩ : ∃ j, k = j + 1 := ⟨k - 1, by omega⟩
   dsimp only at *
   unfold spec_TimesIsland.f mTim
   rw [h1, g, g2]
   simp [h2, g2, spec_TimesIsland.j0]
  | true =>
   obtain ⟨b0, b1, b2, b3, b4⟩ := mIsland_iff.1 g
   have be := inr_iff.1 g2
   have p0 := mul_bd (a := a) (b := e) (A := 100) (B := 2000) zO5_2 zO5_2 zO5_2 zO5_2
   have p1 := mul_bd (a := b) (b := e) (A := 2000) (B := 2000) zO5_2 zO5_2 zO5_2 zO5_2
   have p2 := mul_bd (a := c) (b := e) (A := 2000) (B := 2000) zO5_2 zO5_2 zO5_2 zO5_2
   have p3 := mul_bd (a := d) (b := e) (A := 2000) (B := 2000) zO5_2 zO5_2 zO5_2 zO5_2
   obtain ⟨K3, h3⟩ := spec_htGood.ev (a * e) (b * e) (c * e) (d * e)
   refine ⟨max K1 (max K2 K3) + 1, fun k hk => ?_⟩
   have h1 := h1 k zO5_2; have h2 := h2 k zO5_2
   obtain ⟨k, rfl⟩ : ∃ j, k = j + 1 := ⟨k - 1, by omega⟩
   have h3 := h3 k zO5_2
   dsimp only at *
   unfold spec_TimesIsland.f mTim
   rw [h1, g, Option.bind_some, if_pos rfl, h2, g2, Option.bind_some]
   simp only [Bool.not_true, spec_TimesIsland.j0, Bool.false_eq_true, if_false]
   rw [wid (show -9223372036854775808 ≤ a * e by omega) zO5_2, wid (show -9223372036854775808 ≤ b * e by omega) zO5_2, wid (show -9223372036854775808 ≤ c * e by omega) zO5_2, wid (show -9223372036854775808 ≤ d * e by omega) zO5_2, h3]
   cases g3 : mIsland (a * e) (b * e) (c * e) (d * e) <;> simp
theorem impl_TimesIsland.eq (a b c d e : Int) : impl_TimesIsland.f a b c d e = some (mTim a b c d e) := by
 unfold impl_TimesIsland.f mTim impl_checkedIsland.f
 rw [impl_IsIsland.eq, impl_areSteps.eq]
 cases g : mIsland a b c d with
 | false => rfl
 | true =>
  cases g2 : inr 1 2000 e with
  | false => simp [g2]
  | true =>
   obtain ⟨b0, b1, b2, b3, b4⟩ := mIsland_iff.1 g
   have be := inr_iff.1 g2
   have p0 := mul_bd (a := a) (b := e) (A := 100) (B := 2000) zO5_2 zO5_2 zO5_2 zO5_2
   have p1 := mul_bd (a := b) (b := e) (A := 2000) (B := 2000) zO5_2 zO5_2 zO5_2 zO5_2
   have p2 := mul_bd (a := c) (b := e) (A := 2000) (B := 2000) zO5_2 zO5_2 zO5_2 zO5_2
   have p3 := mul_bd (a := d) (b := e) (A := 2000) (B := 2000) zO5_2 zO5_2 zO5_2 zO5_2
   rw [Int.mul_comm e a, Int.mul_comm e b, Int.mul_comm e c, Int.mul_comm e d, wid (show -9223372036854775808 ≤ a * e by omega) zO5_2, wid (show -9223372036854775808 ≤ b * e by omega) zO5_2, wid (show -9223372036854775808 ≤ c * e by omega) zO5_2, wid (show -9223372036854775808 ≤ d * e by omega) zO5_2, impl_IsIsland.eq]
   cases g3 : mIsland (a * e) (b * e) (c * e) (d * e) <;> simp [g2]
theorem laws_yLow.ev_l (n : Nat) : ∀ a b : Int, b.natAbs ≤ n → 0 ≤ a → 0 ≤ b → Ev (fun k => laws_yLow.l0 k a b) (decide (Int.gcd a b = 1)) := by
 induction n with
 | zero =>
  intro a b hn ha hb
  obtain rfl : b = 0 := by omega
  refine Ev.succ ?_
  simp only [laws_yLow.l0, show ¬ ((0 : Int) > 0) by omega, if_false]
  refine Ev.const ?_
  rw [Int.gcd_zero_right]
  by_cases h : a = 1
  ·subst h; rfl
  ·rw [beq_eq_false_iff_ne.2 h, decide_eq_false zO5_2]
 | succ n ih =>
  intro a b hn ha hb
  by_cases h0 : b = 0
  ·exact ih a b zO5_2 ha hb
  ·refine Ev.succ ?_
   simp only [laws_yLow.l0, show b > 0 by omega, h0, if_true, if_false]
   have h1 := Int.tmod_lt_of_pos a (show 0 < b by omega)
   have h2 := Int.tmod_nonneg b ha
   refine ev_eq (ih b (Int.tmod a b) zO5_2 hb h2) ?_
   rw [gcd_tmod]
theorem lo_gcd {x y : Int} (hy : 0 < y) : Int.gcd (loA x y) (loB x y) = 1 := by
 have g := gcd_pos (a := x) hy
 have h : Int.gcd (loA x y * (Int.gcd x y : Int)) (loB x y * (Int.gcd x y : Int)) = Int.gcd x y := by rw [lo_mulA, lo_mulB]
 rw [Int.gcd_mul_right] at h
 simp only [Int.natAbs_natCast] at h
 have hp : 0 < Int.gcd x y := by omega
 exact Nat.eq_of_mul_eq_mul_right hp (by rw [h, Nat.one_mul])
theorem laws_yLow.ev {x y : Int} (hx : 0 ≤ x) (hy : 0 < y) : Ev (fun k => laws_yLow.f k (loA x y) (loB x y)) true := by
 have hb := loB_pos (a := x) hy
 have ha := loA_nonneg hx hy
 unfold laws_yLow.f
 simp only [show ¬ (loB x y < 1) by omega, show ¬ (loA x y < 0) by omega, if_false]
 refine Ev.succ ?_
 simp only [laws_yLow.j0]
 exact ev_eq (laws_yLow.ev_l _ _ _ (Nat.le_refl _) ha.1 zO5_2) (decide_eq_true (lo_gcd hy))
theorem lo_cross (x y : Int) : loA x y * y = x * loB x y := by
 have h1 := lo_mulA (a := x) (b := y)
 have h2 := lo_mulB (a := x) (b := y)
 calc loA x y * y = loA x y * (loB x y * (Int.gcd x y : Int)) := by rw [h2]
  _ = loA x y * (Int.gcd x y : Int) * loB x y := by rw [Int.mul_comm (loB x y), Int.mul_assoc]
  _ = x * loB x y := by rw [h1]
theorem laws_yIs.ev {x y u v : Int} (hx : 0 ≤ x) (hx1 : x ≤ 1000000000) (hy : 0 < y) (hy1 : y ≤ 1000000000) (hu : 0 ≤ u ∧ u ≤ 1000000000) (hv : 0 ≤ v ∧ v ≤ 1000000000) (h : loA x y * v = u * loB x y) : Ev (fun k => laws_yIs.f k (loA x y) (loB x y) u v) true := by
 have hb := loB_pos (a := x) hy
 have ha := loA_nonneg hx hy
 unfold laws_yIs.f
 refine Ev.bind (laws_yLow.ev hx hy) ?_
 have p1 := mul_bd (a := loA x y) (b := v) (A := 1000000000) (B := 1000000000) zO5_2 zO5_2 zO5_2 zO5_2
 have p2 := mul_bd (a := u) (b := loB x y) (A := 1000000000) (B := 1000000000) zO5_2 zO5_2 zO5_2 zO5_2
 simp only [if_true]
 rw [wid (show -9223372036854775808 ≤ loA x y * v by omega) zO5_2, wid (show -9223372036854775808 ≤ u * loB x y by omega) zO5_2, h, beq_self_eq_true]
 exact Ev.now _
theorem isText_same {s : ByteArray} {a b c d : Int} (e : s.data.toList = (isText a b c d).data.toList) : s = isText a b c d := ba_ext e
theorem isl_of_wh {a b c d : Int} (h : mIsland a b c d = true) : (1 ≤ a ∧ a ≤ 100) ∧ (1 ≤ b ∧ b ≤ 2000) ∧ (1 ≤ c ∧ c ≤ 2000) ∧ (1 ≤ d ∧ d ≤ 2000) ∧ c < d := isl_bd h
theorem isl_back (s : ByteArray) : Ev (fun k : Nat => if (mImplIs s).2.2.2.2 = true then ((impl_IslandText.f (mImplIs s).1 (mImplIs s).2.1 (mImplIs s).2.2.1 (mImplIs s).2.2.2.1).bind fun t => (if t.2 = true then (some (t.1.toList == s.toList)) else (some false))) else (some true)) true := by
 rcases mImplIs_back s with h | ⟨a, b, c, d, h, e⟩
 ·rw [h]
  simp only [Bool.false_eq_true, if_false]
  exact Ev.now _
 ·have e2 := isText_same e
  subst e2
  rw [mImplIs_mk h]
  simp only [if_true]
  refine Ev.bindc (impl_IslandText.eq a b c d) ?_
  unfold mIsText
  rw [if_pos h]
  simp only [if_true, beq_self_eq_true]
  exact Ev.now _
theorem isl_ht_ev {a b c d : Int} (h : mIsland a b c d = true) : Ev (fun k => impl_IslandHeight.f k a b c d) ((mHt a b c d).1, (mHt a b c d).2, true) := by
 have := impl_IslandHeight.ev a b c d
 rw [if_pos h] at this
 exact this
/-- what is known of an island's height: a fraction over d - c -/
theorem isl_ht {a b c d : Int} (h : mIsland a b c d = true) : (mHt a b c d).1 * (d - c) = a * (b + (d - c)) * (mHt a b c d).2 ∧ (0 ≤ (mHt a b c d).1 ∧ (mHt a b c d).1 ≤ 400000) ∧ (1 ≤ (mHt a b c d).2 ∧ (mHt a b c d).2 ≤ d - c) := by
 obtain ⟨ha, hb, hc, hd, hcd⟩ := isl_bd h
 have p := mul_bd (a := a) (b := b + (d - c)) (A := 100) (B := 4000) zO5_2 zO5_2 zO5_2 zO5_2
 have x1 := loA_nonneg (a := a * (b + (d - c))) (b := d - c) zO5_2 zO5_2
 have x2 := loB_pos (a := a * (b + (d - c))) (b := d - c) zO5_2
 exact ⟨lo_cross _ _, by unfold mHt; simp only []; omega, by unfold mHt; simp only []; omega⟩
theorem isl_aw {a b c d : Int} (h : mIsland a b c d = true) : (mAw a b c d).1 * (d - c) = c * b * (mAw a b c d).2 ∧ (0 ≤ (mAw a b c d).1 ∧ (mAw a b c d).1 ≤ 4000000) ∧ (1 ≤ (mAw a b c d).2 ∧ (mAw a b c d).2 ≤ d - c) := by
 obtain ⟨ha, hb, hc, hd, hcd⟩ := isl_bd h
 have p := mul_bd (a := c) (b := b) (A := 2000) (B := 2000) zO5_2 zO5_2 zO5_2 zO5_2
 have x1 := loA_nonneg (a := c * b) (b := d - c) zO5_2 zO5_2
 have x2 := loB_pos (a := c * b) (b := d - c) zO5_2
 exact ⟨lo_cross _ _, by unfold mAw; simp only []; omega, by unfold mAw; simp only []; omega⟩
theorem mTim_ok {a b c d e : Int} (h : (mTim a b c d e).2.2.2.2 = true) : mIsland a b c d = true ∧ (1 ≤ e ∧ e ≤ 2000) ∧ mIsland (a * e) (b * e) (c * e) (d * e) = true ∧ mTim a b c d e = (a * e, b * e, c * e, d * e, true) := by
 unfold mTim at h ⊢
 by_cases q : (mIsland a b c d && (inr 1 2000 e && mIsland (a * e) (b * e) (c * e) (d * e))) = true
 ·rw [if_pos q]
  simp only [Bool.and_eq_true, inr_iff] at q
  exact ⟨q.1, q.2.1, q.2.2, rfl⟩
 ·rw [if_neg q] at h; exact absurd h zO5_3
theorem rdLL {l : List (List Int)} {i : Nat} (h : i < l.length) : rd_L2 l (i : Int) = l[i] := by
 unfold rd_L2
 rw [Int.toNat_natCast, List.getD_eq_getElem?_getD, List.getElem?_eq_getElem h]; rfl
theorem isl_yis {X Y u : Int} (hY : 0 < Y) (hX : X = u * Y) : loA X Y * 1 = u * loB X Y := by
 refine Int.eq_of_mul_eq_mul_right (show Y ≠ 0 by omega) ?_
 have := lo_cross X Y
 subst hX
 grind
theorem isText_size {a b c d : Int} (h : mIsland a b c d = true) : (isText a b c d).size ≤ 1048576 := by
 have h1 := isText_len h
 have h2 : (isText a b c d).data.toList.length = (isText a b c d).size := Array.length_toList
 omega
theorem isl_pos {a b D H den : Int} (hD : 0 < D) (ha : 0 < a) (hb : 0 < b) (hd : 0 < den) (hH : H * D = a * (b + D) * den) : a * den < H := by
 refine Int.lt_of_mul_lt_mul_right (a := D) ?_ zO5_2
 have e : H * D = a * den * D + a * b * den := by grind
 have := Int.mul_pos (Int.mul_pos ha hb) hd
 omega
theorem isl_e1 {a b c D H den A part : Int} (hD : 0 < D) (hH : H * D = a * (b + D) * den) (hA : A * D = c * b * part) : (H - a * den) * c * part = a * A * den := by
 refine Int.eq_of_mul_eq_mul_right (show D ≠ 0 by omega) ?_
 grind
theorem isl_e2 {a b c D H den A part : Int} (hD : 0 < D) (hH : H * D = a * (b + D) * den) (hA : A * D = c * b * part) : (H - a * den) * (c + D) * part = a * den * (A + b * part) := by
 refine Int.eq_of_mul_eq_mul_right (show D ≠ 0 by omega) ?_
 grind
/-- the second step is told back -/
theorem isl_sec {a b c D H : Int} (hH : H * D = a * (b + D) * 1) : c * (H - a) + a * b = (c + D) * (H - a) := by grind
/-- both steps are told back -/
theorem isl_st1 {a b c D H A : Int} (hD : 0 < D) (hH : H * D = a * (b + D) * 1) (hA : A * D = c * b * 1) : a * A = c * (H - a) := by
 refine Int.eq_of_mul_eq_mul_right (show D ≠ 0 by omega) ?_
 grind
theorem isl_st2 {a b c D H A : Int} (hD : 0 < D) (hH : H * D = a * (b + D) * 1) (hA : A * D = c * b * 1) : a * (A + b) = (c + D) * (H - a) := by
 refine Int.eq_of_mul_eq_mul_right (show D ≠ 0 by omega) ?_
 grind
theorem isl_apos {D A x part : Int} (hD : 0 < D) (hx : 0 < x) (hp : 0 < part) (hA : A * D = x * part) : 1 ≤ A := by
 rcases Int.lt_or_le 0 A with h | h
 ·omega
 ·have h1 := Int.mul_pos hx hp
  have h2 := Int.mul_nonneg (show 0 ≤ -A by omega) (show 0 ≤ D by omega)
  rw [Int.neg_mul] at h2
  omega
/-- with a lesser second step it is higher, by what is told -/
theorem isl_more {a b D H den T e M low : Int} (hD : 1 < D) (hH : H * D = a * (b + D) * den) (hT : T * (D - 1) = a * (b + (D - 1)) * e) (hM : M * (D * (D - 1)) = a * b * low) : (T * den - H * e) * low = M * e * den := by
 have hne : D * (D - 1) ≠ 0 := by
  have := Int.mul_pos (show 0 < D by omega) (show 0 < D - 1 by omega)
  omega
 refine Int.eq_of_mul_eq_mul_right hne ?_
 grind
theorem isl_tim {a b D H den T low t : Int} (hD : 0 < D) (ht : 0 < t) (hH : H * D = a * (b + D) * den) (hT : T * (D * t) = a * t * (b * t + D * t) * low) : T * den = t * H * low := by
 have hne : D * t ≠ 0 := by
  have := Int.mul_pos hD ht
  omega
 refine Int.eq_of_mul_eq_mul_right hne ?_
 grind
theorem isl_over {a b c q S e : Int} (hq : 0 < q) (ha : 0 < a) (hb : 0 < b) (he : 0 < e) (hS : S * q = (c * q + a * b) * e) : c * e < S := by
 refine Int.lt_of_mul_lt_mul_right (a := q) ?_ zO5_2
 have h : S * q = c * e * q + a * b * e := by grind
 have := Int.mul_pos (Int.mul_pos ha hb) he
 omega
theorem isl_two {a b d q X y U v : Int} (hq : 0 < q) (ha : 0 < a) (hb : 0 < b) (hy : 0 < y) (hv : 0 < v) (hX : X * q = a * d * y) (hU : U * q = a * (d + b) * v) : X * v < U * y := by
 refine Int.lt_of_mul_lt_mul_right (a := q) ?_ zO5_2
 have h : U * y * q = X * v * q + a * b * v * y := by grind
 have := Int.mul_pos (Int.mul_pos (Int.mul_pos ha hb) hv) hy
 omega
def wIs (a b c d : Int) : Bool := inr 1 100 a && (inr 1 2000 b && (inr 1 2000 c && (inr 1 2000 d && decide (c < d))))
theorem wIs_of {a b c d : Int} (ha : 1 ≤ a ∧ a ≤ 100) (hb : 1 ≤ b ∧ b ≤ 2000) (hc : 1 ≤ c) (hcd : c < d) (hd : d ≤ 30) : wIs a b c d = true := by
 unfold wIs; simp only [Bool.and_eq_true, inr_iff, decide_eq_true_eq]; omega
theorem w_impl_IsIsland.eq (a b c d : Int) : impl_IsIsland.f a b c d = some (wIs a b c d) := by
 unfold impl_IsIsland.f wIs
 rw [impl_areStaffs.eq, impl_areSteps.eq]
 simp only [Option.bind_some, List.all_cons, List.all_nil, Bool.and_true]
 cases inr 1 100 a <;> cases inr 1 2000 b <;> cases inr 1 2000 c <;> cases inr 1 2000 d <;> simp
def wHt (a b c d : Int) : Int × Int := (loA (a * (b + (d - c))) (d - c), loB (a * (b + (d - c))) (d - c))
def wAw (b c d : Int) : Int × Int := (loA (c * b) (d - c), loB (c * b) (d - c))
theorem w_impl_IslandHeight.ev {a b c d : Int} (ha : 1 ≤ a ∧ a ≤ 100) (hb : 1 ≤ b ∧ b ≤ 2000) (hc : 1 ≤ c) (hcd : c < d) (hd : d ≤ 30) : Ev (fun k => impl_IslandHeight.f k a b c d) ((wHt a b c d).1, (wHt a b c d).2, true) := by
 have p := mul_bd (a := a) (b := b + (d - c)) (A := 100) (B := 4000) zO5_2 zO5_2 zO5_2 zO5_2
 have p1 := mul_bd (a := a) (b := b) (A := 100) (B := 2000) zO5_2 zO5_2 zO5_2 zO5_2
 have p2 := mul_bd (a := a) (b := d - c) (A := 100) (B := 2000) zO5_2 zO5_2 zO5_2 zO5_2
 obtain ⟨K2, h2⟩ := impl_fraction.ev (a := a * (b + (d - c))) (b := d - c) zO5_2 zO5_2 zO5_2 zO5_2
 refine ⟨K2, fun k hk => ?_⟩
 have h2 := h2 k zO5_2
 dsimp only at *
 unfold impl_IslandHeight.f
 rw [w_impl_IsIsland.eq, wIs_of ha hb hc hcd hd, wid (show -9223372036854775808 ≤ d - c by omega) zO5_2, wid (show -9223372036854775808 ≤ a * b by omega) zO5_2, wid (show -9223372036854775808 ≤ a * (d - c) by omega) zO5_2, wid (show -9223372036854775808 ≤ a * b + a * (d - c) by omega) zO5_2, ← Int.mul_add, h2]
 rfl
theorem w_impl_IslandAway.ev {a b c d : Int} (ha : 1 ≤ a ∧ a ≤ 100) (hb : 1 ≤ b ∧ b ≤ 2000) (hc : 1 ≤ c) (hcd : c < d) (hd : d ≤ 30) : Ev (fun k => impl_IslandAway.f k a b c d) ((wAw b c d).1, (wAw b c d).2, true) := by
 have p := mul_bd (a := c) (b := b) (A := 2000) (B := 2000) zO5_2 zO5_2 zO5_2 zO5_2
 obtain ⟨K2, h2⟩ := impl_fraction.ev (a := c * b) (b := d - c) zO5_2 zO5_2 zO5_2 zO5_2
 refine ⟨K2, fun k hk => ?_⟩
 have h2 := h2 k zO5_2
 dsimp only at *
 unfold impl_IslandAway.f
 rw [w_impl_IsIsland.eq, wIs_of ha hb hc hcd hd, wid (show -9223372036854775808 ≤ d - c by omega) zO5_2, wid (show -9223372036854775808 ≤ c * b by omega) zO5_2, h2]
 rfl
theorem w_spec_htHeight.ev {a b c d : Int} (ha : 1 ≤ a ∧ a ≤ 100) (hb : 1 ≤ b ∧ b ≤ 2000) (hc : 1 ≤ c) (hcd : c < d) (hd : d ≤ 30) : Ev (fun k => spec_htHeight.f k a b c d) (wHt a b c d) := by
 have p := mul_bd (a := a) (b := b + (d - c)) (A := 100) (B := 4000) zO5_2 zO5_2 zO5_2 zO5_2
 obtain ⟨K2, h2⟩ := spec_clLow.ev (x := a * (b + (d - c))) (y := d - c) zO5_2 zO5_2 zO5_2 zO5_2
 refine ⟨K2, fun k hk => ?_⟩
 have h2 := h2 k zO5_2
 dsimp only at *
 unfold spec_htHeight.f wHt
 rw [wid (show -9223372036854775808 ≤ d - c by omega) zO5_2, wid (show -9223372036854775808 ≤ b + (d - c) by omega) zO5_2, wid (show -9223372036854775808 ≤ a * (b + (d - c)) by omega) zO5_2, h2]
 rfl
theorem w_spec_htAway.ev {a b c d : Int} (ha : 1 ≤ a ∧ a ≤ 100) (hb : 1 ≤ b ∧ b ≤ 2000) (hc : 1 ≤ c) (hcd : c < d) (hd : d ≤ 30) : Ev (fun k => spec_htAway.f k a b c d) (wAw b c d) := by
 have p := mul_bd (a := c) (b := b) (A := 2000) (B := 2000) zO5_2 zO5_2 zO5_2 zO5_2
 obtain ⟨K2, h2⟩ := spec_clLow.ev (x := c * b) (y := d - c) zO5_2 zO5_2 zO5_2 zO5_2
 refine ⟨K2, fun k hk => ?_⟩
 have h2 := h2 k zO5_2
 dsimp only at *
 unfold spec_htAway.f wAw
 rw [wid (show -9223372036854775808 ≤ d - c by omega) zO5_2, wid (show -9223372036854775808 ≤ c * b by omega) zO5_2, h2]
 rfl
def wRow (a b c d : Int) (acc : List (List Int)) : List (List Int) := if (wHt a b c d).2 = 1 ∧ (wAw b c d).2 = 1 then acc ++ [[c, d, (wHt a b c d).1, (wAw b c d).1]] else acc
def wIn (a b c : Int) : Nat → Int → List (List Int) → List (List Int)
 | 0, _, acc => acc
 | n + 1, d, acc => wIn a b c n (d + 1) (wRow a b c d acc)
def wOut (a b : Int) : Nat → Int → List (List Int) → List (List Int)
 | 0, _, acc => acc
 | n + 1, c, acc => wOut a b n (c + 1) (wIn a b c (n + 1) (c + 1) acc)
def wOk (m : Nat) (l : List (List Int)) : Prop := l.length ≤ m ∧ ∀ y ∈ l, y.length ≤ 4
theorem wRow_ok {m : Nat} {a b c d : Int} {acc : List (List Int)} (h : wOk m acc) : wOk (m + 1) (wRow a b c d acc) := by
 unfold wRow
 split
 ·refine ⟨by rw [List.length_append]; have := h.1; simp only [List.length_cons, List.length_nil]; omega, fun y hy => ?_⟩
  rcases List.mem_append.1 hy with h2 | h2
  ·exact h.2 y h2
  ·rw [List.mem_singleton.1 h2]; simp
 ·exact ⟨Nat.le_succ_of_le h.1, h.2⟩
theorem wIn_ok (a b c : Int) : ∀ (n : Nat) (d : Int) (m : Nat) (acc : List (List Int)), wOk m acc → wOk (m + n) (wIn a b c n d acc)
 | 0, _, _, _, h => h
 | n + 1, d, m, acc, h => by
  have := wIn_ok a b c n (d + 1) (m + 1) _ (wRow_ok (a := a) (b := b) (c := c) (d := d) h)
  rw [show m + (n + 1) = m + 1 + n by omega]; exact this
theorem wOut_ok (a b : Int) : ∀ (n : Nat) (c : Int) (m : Nat) (acc : List (List Int)), n ≤ 29 → wOk m acc → wOk (m + 30 * n) (wOut a b n c acc)
 | 0, _, _, _, _, h => h
 | n + 1, c, m, acc, hn, h => by
  have h1 := wIn_ok a b c (n + 1) (c + 1) m acc h
  have := wOut_ok a b n (c + 1) (m + (n + 1)) _ zO5_2 h1
  exact ⟨Nat.le_trans this.1 zO5_2, this.2⟩
theorem w_impl_l1 {a b c : Int} (ha : 1 ≤ a ∧ a ≤ 100) (hb : 1 ≤ b ∧ b ≤ 2000) (hc : 1 ≤ c) (r : List (List Int) × Bool) : ∀ (n : Nat) (d : Int) (acc : List (List Int)), d + n = 31 → c < d → acc.length + n ≤ 100000 → Ev (fun k => impl_WholeIslands.l0 k a b (wIn a b c n d acc) (c + 1)) r → Ev (fun k => impl_WholeIslands.l1 k a b acc c d) r := by
 intro n
 induction n with
 | zero =>
  intro d acc hd hcd _ h
  refine Ev.succ ?_
  simp only [impl_WholeIslands.l1, show ¬ (d ≤ 30) by omega, if_false, wid (show -9223372036854775808 ≤ c + 1 by omega) zO5_2]
  exact h
 | succ n ih =>
  intro d acc hd hcd hl h
  have hE := ih (d + 1) (wRow a b c d acc) zO5_2 zO5_2 zO5_0 h
  refine Ev.succ ?_
  simp only [impl_WholeIslands.l1, show d ≤ 30 by omega, if_true, wid (show -9223372036854775808 ≤ d + 1 by omega) zO5_2]
  refine Ev.bind (w_impl_IslandHeight.ev ha hb hc hcd zO5_2) ?_
  refine Ev.bind (w_impl_IslandAway.ev ha hb hc hcd zO5_2) ?_
  unfold wRow at hE
  by_cases h1 : (wHt a b c d).2 = 1
  ·by_cases h2 : (wAw b c d).2 = 1
   ·simp only [h1, h2, and_self, if_true] at hE ⊢
    simp only [show acc.length < 5864062014805 by omega, if_true]
    exact hE
   ·simp only [h1, h2, and_false, if_true, if_false] at hE ⊢
    exact hE
  ·simp only [h1, false_and, if_false] at hE ⊢
   exact hE
theorem w_impl_l0 {a b : Int} (ha : 1 ≤ a ∧ a ≤ 100) (hb : 1 ≤ b ∧ b ≤ 2000) : ∀ (n : Nat) (c : Int) (acc : List (List Int)), c + n = 30 → 1 ≤ c → wOk (30 * (30 - n)) acc → n ≤ 29 → Ev (fun k => impl_WholeIslands.l0 k a b acc c) (wOut a b n c acc, true) := by
 intro n
 induction n with
 | zero =>
  intro c acc hc0 hc hl _
  refine Ev.succ ?_
  simp only [impl_WholeIslands.l0, show ¬ (c < 30) by omega, if_false]
  exact Ev.now _
 | succ n ih =>
  intro c acc hc0 hc hl hn
  refine Ev.succ ?_
  simp only [impl_WholeIslands.l0, show c < 30 by omega, if_true, wid (show -9223372036854775808 ≤ c + 1 by omega) zO5_2]
  have hk := wIn_ok a b c (n + 1) (c + 1) _ acc hl
  exact w_impl_l1 ha hb hc _ (n + 1) (c + 1) acc zO5_2 zO5_2 (by have := hl.1; omega) (ih (c + 1) _ zO5_2 zO5_2 ⟨Nat.le_trans hk.1 zO5_2, hk.2⟩ zO5_2)
theorem w_spec_l1 {a b c : Int} (ha : 1 ≤ a ∧ a ≤ 100) (hb : 1 ≤ b ∧ b ≤ 2000) (hc : 1 ≤ c) (r : List (List Int) × Bool) : ∀ (n : Nat) (d : Int) (acc : List (List Int)), d + n = 31 → c < d → acc.length + n ≤ 100000 → Ev (fun k => spec_WholeIslands.l0 k a b (wIn a b c n d acc) (c + 1)) r → Ev (fun k => spec_WholeIslands.l1 k a b acc c d) r := by
 intro n
 induction n with
 | zero =>
  intro d acc hd hcd _ h
  refine Ev.succ ?_
  simp only [spec_WholeIslands.l1, show ¬ (d ≤ 30) by omega, if_false, wid (show -9223372036854775808 ≤ c + 1 by omega) zO5_2]
  exact h
 | succ n ih =>
  intro d acc hd hcd hl h
  have hE := ih (d + 1) (wRow a b c d acc) zO5_2 zO5_2 zO5_0 h
  refine Ev.succ ?_
  simp only [spec_WholeIslands.l1, show d ≤ 30 by omega, if_true, wid (show -9223372036854775808 ≤ d + 1 by omega) zO5_2]
  refine Ev.bind (w_spec_htHeight.ev ha hb hc hcd zO5_2) ?_
  refine Ev.bind (w_spec_htAway.ev ha hb hc hcd zO5_2) ?_
  unfold wRow at hE
  by_cases h1 : (wHt a b c d).2 = 1
  ·by_cases h2 : (wAw b c d).2 = 1
   ·simp only [h1, h2, and_self, if_true] at hE ⊢
    simp only [show acc.length < 5864062014805 by omega, if_true]
    exact hE
   ·simp only [h1, h2, and_false, if_true, if_false] at hE ⊢
    exact hE
  ·simp only [h1, false_and, if_false] at hE ⊢
   exact hE
theorem w_spec_l0 {a b : Int} (ha : 1 ≤ a ∧ a ≤ 100) (hb : 1 ≤ b ∧ b ≤ 2000) : ∀ (n : Nat) (c : Int) (acc : List (List Int)), c + n = 30 → 1 ≤ c → wOk (30 * (30 - n)) acc → n ≤ 29 → Ev (fun k => spec_WholeIslands.l0 k a b acc c) (wOut a b n c acc, true) := by
 intro n
 induction n with
 | zero =>
  intro c acc hc0 hc hl _
  refine Ev.succ ?_
  simp only [spec_WholeIslands.l0, show ¬ (c < 30) by omega, if_false]
  exact Ev.now _
 | succ n ih =>
  intro c acc hc0 hc hl hn
  refine Ev.succ ?_
  simp only [spec_WholeIslands.l0, show c < 30 by omega, if_true, wid (show -9223372036854775808 ≤ c + 1 by omega) zO5_2]
  have hk := wIn_ok a b c (n + 1) (c + 1) _ acc hl
  exact w_spec_l1 ha hb hc _ (n + 1) (c + 1) acc zO5_2 zO5_2 (by have := hl.1; omega) (ih (c + 1) _ zO5_2 zO5_2 ⟨Nat.le_trans hk.1 zO5_2, hk.2⟩ zO5_2)
def wWhole (a b : Int) : List (List Int) × Bool := if (inr 1 100 a && inr 1 2000 b) = true then (wOut a b 29 1 [], true) else ([], false)
theorem wWhole_ok (a b : Int) : wOk 10000 (wWhole a b).1 := by
 unfold wWhole
 split
 ·have := wOut_ok a b 29 1 0 [] zO5_2 ⟨by simp, by simp⟩
  exact ⟨Nat.le_trans this.1 zO5_2, this.2⟩
 ·exact ⟨by simp, by simp⟩
theorem impl_WholeIslands.ev (a b : Int) : Ev (fun k => impl_WholeIslands.f k a b) (wWhole a b) := by
 unfold impl_WholeIslands.f wWhole
 refine Ev.bindc (impl_areStaffs.eq _) ?_
 simp only [List.all_cons, List.all_nil, Bool.and_true]
 cases h0 : inr 1 100 a with
 | false =>
  simp only [Bool.false_and, Bool.false_eq_true, if_false]
  refine Ev.succ ?_
  simp only [impl_WholeIslands.j0, if_true]
  exact Ev.now _
 | true =>
  simp only [if_true, Bool.true_and]
  refine Ev.bindc (impl_areSteps.eq _) ?_
  simp only [List.all_cons, List.all_nil, Bool.and_true]
  refine Ev.succ ?_
  cases h1 : inr 1 2000 b with
  | false =>
   simp only [impl_WholeIslands.j0, Bool.not_false, Bool.false_eq_true, if_true, if_false]
   exact Ev.now _
  | true =>
   simp only [impl_WholeIslands.j0, Bool.not_true, Bool.false_eq_true, if_true, if_false]
   exact w_impl_l0 (inr_iff.1 h0) (inr_iff.1 h1) 29 1 [] zO5_2 zO5_2 ⟨by simp, by simp⟩ zO5_2
theorem spec_WholeIslands.ev (a b : Int) : Ev (fun k => spec_WholeIslands.f k a b) (wWhole a b) := by
 unfold spec_WholeIslands.f wWhole
 refine Ev.bindc (spec_htStaff.eq _) ?_
 cases h0 : inr 1 100 a with
 | false =>
  simp only [Bool.false_and, Bool.false_eq_true, if_false]
  refine Ev.succ ?_
  simp only [spec_WholeIslands.j0, if_true]
  exact Ev.now _
 | true =>
  simp only [if_true, Bool.true_and]
  refine Ev.bind (spec_htLong.ev (l := [b]) zO5_3) ?_
  simp only [List.all_cons, List.all_nil, Bool.and_true]
  refine Ev.succ ?_
  cases h1 : inr 1 2000 b with
  | false =>
   simp only [spec_WholeIslands.j0, Bool.not_false, Bool.false_eq_true, if_true, if_false]
   exact Ev.now _
  | true =>
   simp only [spec_WholeIslands.j0, Bool.not_true, Bool.false_eq_true, if_true, if_false]
   exact w_spec_l0 (inr_iff.1 h0) (inr_iff.1 h1) 29 1 [] zO5_2 zO5_2 ⟨by simp, by simp⟩ zO5_2
def wGood (a b : Int) (y : List Int) : Prop := ∃ c d : Int, 1 ≤ c ∧ c < d ∧ d ≤ 30 ∧ (wHt a b c d).2 = 1 ∧ y = [c, d, (wHt a b c d).1, (wAw b c d).1]
theorem wRow_good {a b c d : Int} {acc : List (List Int)} (hc : 1 ≤ c) (hcd : c < d) (hd : d ≤ 30) (h : ∀ y ∈ acc, wGood a b y) : ∀ y ∈ wRow a b c d acc, wGood a b y := by
 unfold wRow
 split
 ·rename_i e
  intro y hy
  rcases List.mem_append.1 hy with h2 | h2
  ·exact h y h2
  ·rw [List.mem_singleton.1 h2]
   exact ⟨c, d, hc, hcd, hd, e.1, rfl⟩
 ·exact h
theorem wIn_good (a b c : Int) (hc : 1 ≤ c) : ∀ (n : Nat) (d : Int) (acc : List (List Int)), d + n ≤ 31 → c < d → (∀ y ∈ acc, wGood a b y) → ∀ y ∈ wIn a b c n d acc, wGood a b y
 | 0, _, _, _, _, h => h
 | n + 1, d, acc, hn, hcd, h => wIn_good a b c hc n (d + 1) _ zO5_2 zO5_2 (wRow_good hc hcd zO5_2 h)
theorem wOut_good (a b : Int) : ∀ (n : Nat) (c : Int) (acc : List (List Int)), c + n ≤ 30 → 1 ≤ c → (∀ y ∈ acc, wGood a b y) → ∀ y ∈ wOut a b n c acc, wGood a b y
 | 0, _, _, _, _, h => h
 | n + 1, c, acc, hn, hc, h => wOut_good a b n (c + 1) _ zO5_2 zO5_2 (wIn_good a b c hc (n + 1) (c + 1) acc zO5_2 zO5_2 h)
theorem wWhole_good {a b : Int} : ∀ y ∈ (wWhole a b).1, wGood a b y := by
 unfold wWhole
 split
 ·exact wOut_good a b 29 1 [] zO5_2 zO5_2 zO5_3
 ·simp
theorem wWhole_par {a b : Int} (h : (wWhole a b).2 = true) : (1 ≤ a ∧ a ≤ 100) ∧ (1 ≤ b ∧ b ≤ 2000) := by
 unfold wWhole at h
 by_cases e : (inr 1 100 a && inr 1 2000 b) = true
 ·rw [Bool.and_eq_true] at e
  exact ⟨inr_iff.1 e.1, inr_iff.1 e.2⟩
 ·rw [if_neg e] at h; exact absurd h zO5_3
theorem isn13 (s : ByteArray) : Ev (fun k => laws_FnIslandsMeasured.j13 k s (mImplIs s).2.2.2.2 false (mImplIs s).1 (mImplIs s).2.1 (mImplIs s).2.2.1 (mImplIs s).2.2.2.1) true := by
 refine Ev.succ ?_
 simp only [laws_FnIslandsMeasured.j13, Bool.false_eq_true, if_false]
 exact isl_back s
theorem isn12 (a b c d e : Int) (s : ByteArray) : Ev (fun k => laws_FnIslandsMeasured.j12 k e (mTim a b c d e).2.2.2.2 s (mImplIs s).2.2.2.2 a b c d (mTim a b c d e).1 (mTim a b c d e).2.1 (mTim a b c d e).2.2.1 (mTim a b c d e).2.2.2.1 (mImplIs s).1 (mImplIs s).2.1 (mImplIs s).2.2.1 (mImplIs s).2.2.2.1) true := by
 refine Ev.succ ?_
 simp only [laws_FnIslandsMeasured.j12]
 by_cases ht : (mTim a b c d e).2.2.2.2 = true
 ·obtain ⟨h1, he, h2, e1⟩ := mTim_ok ht
  obtain ⟨ha, hb, hc, hd, hcd⟩ := isl_bd h1
  simp only [if_pos ht]
  rw [e1]
  refine Ev.bind (isl_ht_ev h1) ?_
  refine Ev.bind (isl_ht_ev h2) ?_
  obtain ⟨q1, q2, q3⟩ := isl_ht h1
  obtain ⟨r1, r2, r3⟩ := isl_ht h2
  have hD : d * e - c * e = (d - c) * e := by grind
  rw [hD] at r1 r3
  have key : (mHt (a * e) (b * e) (c * e) (d * e)).1 * (mHt a b c d).2 = e * (mHt a b c d).1 * (mHt (a * e) (b * e) (c * e) (d * e)).2 := isl_tim (D := d - c) zO5_2 zO5_2 q1 r1
  have h2b := isl_bd h2
  generalize (mHt (a * e) (b * e) (c * e) (d * e)).1 = T at *
  generalize (mHt (a * e) (b * e) (c * e) (d * e)).2 = lo at *
  generalize (mHt a b c d).1 = H at *
  generalize (mHt a b c d).2 = de at *
  have b0 := mul_bd (a := d - c) (b := e) (A := 2000) (B := 2000) zO5_2 zO5_2 zO5_2 zO5_2
  have b1 := mul_bd (a := T) (b := de) (A := 400000) (B := 2000) zO5_2 zO5_2 zO5_2 zO5_2
  have b2 := mul_bd (a := e) (b := H) (A := 2000) (B := 400000) zO5_2 zO5_2 zO5_2 zO5_2
  have b3 := mul_bd (a := e * H) (b := lo) (A := 800000000) (B := 4000000) zO5_2 zO5_2 zO5_2 zO5_2
  rw [wid (show -9223372036854775808 ≤ T * de by omega) zO5_2, wid (show -9223372036854775808 ≤ e * H by omega) zO5_2, wid (show -9223372036854775808 ≤ e * H * lo by omega) zO5_2, key]
  simp only [if_true, bne_self_eq_false]
  exact isn13 s
 ·simp only [if_neg ht]
  exact isl_back s
theorem isnL (p q a b c d e : Int) (s : ByteArray) (hp : (1 ≤ p ∧ p ≤ 100) ∧ (1 ≤ q ∧ q ≤ 2000)) (L : List (List Int)) (hL : L.length ≤ 10000) (hg : ∀ y ∈ L, wGood p q y) (m : Nat) : ∀ i : Nat, i + m = L.length → Ev (fun k => laws_FnIslandsMeasured.l0 k p q e (mTim a b c d e).2.2.2.2 s (mImplIs s).2.2.2.2 L (L.length : Int) (i : Int) a b c d (mTim a b c d e).1 (mTim a b c d e).2.1 (mTim a b c d e).2.2.1 (mTim a b c d e).2.2.2.1 (mImplIs s).1 (mImplIs s).2.1 (mImplIs s).2.2.1 (mImplIs s).2.2.2.1) true := by
 induction m with
 | zero =>
  intro i hi
  refine Ev.succ ?_
  simp only [laws_FnIslandsMeasured.l0, show ¬ ((i : Int) < (L.length : Int)) by omega, if_false]
  exact isn12 a b c d e s
 | succ m ih =>
  intro i hi
  have hlt : i < L.length := by omega
  obtain ⟨u, v, hu, huv, hv, h1, hy⟩ := hg _ (List.getElem_mem hlt)
  refine Ev.succ ?_
  simp only [laws_FnIslandsMeasured.l0, show ((i : Int) < (L.length : Int)) by omega, show (0 : Int) ≤ (i : Int) by omega, if_true, rdLL hlt, hy, List.length_cons, List.length_nil]
  simp only [show ((0 + 1 + 1 + 1 + 1 : Nat) : Int) = 4 from rfl, if_true, show (0 : Int) < 4 by omega, show (1 : Int) < 4 by omega, show (2 : Int) < 4 by omega, show rd [u, v, (wHt p q u v).1, (wAw q u v).1] 0 = u from rfl, show rd [u, v, (wHt p q u v).1, (wAw q u v).1] 1 = v from rfl, show rd [u, v, (wHt p q u v).1, (wAw q u v).1] 2 = (wHt p q u v).1 from rfl]
  refine Ev.bind (w_impl_IslandHeight.ev hp.1 hp.2 hu huv hv) ?_
  simp only [if_true, h1, wid (show -9223372036854775808 ≤ (i : Int) + 1 by omega) zO5_2]
  exact ih (i + 1) zO5_2
theorem laws_ySame.ev_l (l : List Int) (hl : l.length ≤ 4611686018427387904) (d : Nat) : ∀ i : Nat, i + d = l.length → Ev (fun k => laws_ySame.l0 k l l (l.length : Int) (i : Int)) true := by
 induction d with
 | zero =>
  intro i hi
  refine Ev.succ ?_
  simp only [laws_ySame.l0, show ¬ ((i : Int) < (l.length : Int)) by omega, if_false]
  exact Ev.now _
 | succ d ih =>
  intro i hi
  refine Ev.succ ?_
  simp only [laws_ySame.l0, show ((i : Int) < (l.length : Int)) by omega, show (0 : Int) ≤ (i : Int) by omega, if_true, wid (show -9223372036854775808 ≤ (i : Int) + 1 by omega) zO5_2]
  exact ih (i + 1) zO5_2
theorem laws_ySame.refl {l : List Int} (hl : l.length ≤ 4611686018427387904) : Ev (fun k => laws_ySame.f k l l) true := by
 unfold laws_ySame.f
 simp only [if_true]
 exact laws_ySame.ev_l l hl l.length 0 zO5_2
theorem rdLL0 {l : List (List Int)} {i : Nat} (h : i < l.length) : rd_L2 l (i : Int) ∈ l := by
 unfold rd_L2
 rw [Int.toNat_natCast, List.getD_eq_getElem?_getD, List.getElem?_eq_getElem h]
 exact List.getElem_mem h
theorem laws_yRows.ev_l (l : List (List Int)) (hl : l.length ≤ 4611686018427387904) (hy : ∀ y ∈ l, y.length ≤ 4611686018427387904) (d : Nat) : ∀ i : Nat, i + d = l.length → Ev (fun k => laws_yRows.l0 k l l (l.length : Int) (i : Int)) true := by
 induction d with
 | zero =>
  intro i hi
  refine Ev.succ ?_
  simp only [laws_yRows.l0, show ¬ ((i : Int) < (l.length : Int)) by omega, if_false]
  exact Ev.now _
 | succ d ih =>
  intro i hi
  refine Ev.succ ?_
  simp only [laws_yRows.l0, show ((i : Int) < (l.length : Int)) by omega, show (0 : Int) ≤ (i : Int) by omega, if_true]
  refine Ev.bind (laws_ySame.refl (hy _ (rdLL0 zO5_2))) ?_
  simp only [if_true, wid (show -9223372036854775808 ≤ (i : Int) + 1 by omega) zO5_2]
  exact ih (i + 1) zO5_2
theorem laws_yRows.refl {l : List (List Int)} (hl : l.length ≤ 4611686018427387904) (hy : ∀ y ∈ l, y.length ≤ 4611686018427387904) : Ev (fun k => laws_yRows.f k l l) true := by
 unfold laws_yRows.f
 simp only [if_true]
 exact laws_yRows.ev_l l hl hy l.length 0 zO5_2
def mSecOk (a b c d : Int) : Bool := inr 1 100 a && (inr 1 2000 b && (inr 1 2000 c && (inr 1 2000 d && decide (a < d))))
theorem mSecOk_iff {a b c d : Int} : mSecOk a b c d = true ↔ (1 ≤ a ∧ a ≤ 100) ∧ (1 ≤ b ∧ b ≤ 2000) ∧ (1 ≤ c ∧ c ≤ 2000) ∧ (1 ≤ d ∧ d ≤ 2000) ∧ a < d := by
 unfold mSecOk; simp only [Bool.and_eq_true, inr_iff, decide_eq_true_eq]
def mSecond (a b c d : Int) : Int × Int × Bool := if mSecOk a b c d = true then (loA (c * (d - a) + a * b) (d - a), loB (c * (d - a) + a * b) (d - a), true) else (0, 0, false)
theorem spec_SecondStep.ev (a b c d : Int) : Ev (fun k => spec_SecondStep.f k a b c d) (mSecond a b c d) := by
 obtain ⟨K1, h1⟩ := spec_htLong.ev (l := [b, c, d]) zO5_3
 simp only [List.all_cons, List.all_nil, Bool.and_true] at h1
 unfold mSecond spec_SecondStep.f
 by_cases e : mSecOk a b c d = true
 ·obtain ⟨b0, b1, b2, b3, b4⟩ := mSecOk_iff.1 e
  have p := mul_bd (a := a) (b := b) (A := 100) (B := 2000) zO5_2 zO5_2 zO5_2 zO5_2
  have q := mul_bd (a := c) (b := d - a) (A := 2000) (B := 2000) zO5_2 zO5_2 zO5_2 zO5_2
  obtain ⟨K2, h2⟩ := spec_clLow.ev (x := c * (d - a) + a * b) (y := d - a) zO5_2 zO5_2 zO5_2 zO5_2
  refine ⟨max K1 K2, fun k hk => ?_⟩
  have h1 := h1 k zO5_2; have h2 := h2 k zO5_2
  dsimp only at *
  rw [inr_iff.2 b1, inr_iff.2 b2, inr_iff.2 b3] at h1
  rw [spec_htStaff.eq, inr_iff.2 b0, h1, wid (show -9223372036854775808 ≤ d - a by omega) zO5_2, wid (show -9223372036854775808 ≤ c * (d - a) by omega) zO5_2, wid (show -9223372036854775808 ≤ a * b by omega) zO5_2, wid (show -9223372036854775808 ≤ c * (d - a) + a * b by omega) zO5_2, h2]
  simp [e, show ¬ d ≤ a by omega]
 ·refine ⟨K1, fun k hk => ?_⟩
  have h1 := h1 k hk
  dsimp only at *
  rw [if_neg e, spec_htStaff.eq, h1]
  simp only [mSecOk] at e
  cases e0 : inr 1 100 a <;> cases e1 : inr 1 2000 b <;> cases e2 : inr 1 2000 c <;> cases e3 : inr 1 2000 d <;> simp [e0, e1, e2, e3] at e ⊢
  intro h; omega
theorem impl_SecondStep.ev (a b c d : Int) : Ev (fun k => impl_SecondStep.f k a b c d) (mSecond a b c d) := by
 unfold mSecond impl_SecondStep.f
 by_cases e : mSecOk a b c d = true
 ·obtain ⟨b0, b1, b2, b3, b4⟩ := mSecOk_iff.1 e
  have p := mul_bd (a := a) (b := b) (A := 100) (B := 2000) zO5_2 zO5_2 zO5_2 zO5_2
  have q := mul_bd (a := c) (b := d - a) (A := 2000) (B := 2000) zO5_2 zO5_2 zO5_2 zO5_2
  obtain ⟨K2, h2⟩ := impl_fraction.ev (a := c * (d - a) + a * b) (b := d - a) zO5_2 zO5_2 zO5_2 zO5_2
  refine ⟨K2, fun k hk => ?_⟩
  have h2 := h2 k zO5_2
  dsimp only at *
  rw [impl_areStaffs.eq, impl_areSteps.eq, wid (show -9223372036854775808 ≤ d - a by omega) zO5_2, wid (show -9223372036854775808 ≤ c * (d - a) by omega) zO5_2, wid (show -9223372036854775808 ≤ a * b by omega) zO5_2, wid (show -9223372036854775808 ≤ c * (d - a) + a * b by omega) zO5_2, h2]
  simp [e, show ¬ d ≤ a by omega, inr_iff.2 b0, inr_iff.2 b1, inr_iff.2 b2, inr_iff.2 b3]
 ·refine ⟨0, fun k hk => ?_⟩
  dsimp only at *
  rw [if_neg e, impl_areStaffs.eq, impl_areSteps.eq]
  simp only [mSecOk] at e
  cases e0 : inr 1 100 a <;> cases e1 : inr 1 2000 b <;> cases e2 : inr 1 2000 c <;> cases e3 : inr 1 2000 d <;> simp [e0, e1, e2, e3] at e ⊢
  intro h; omega
theorem spec_IsIsland.ev (a b c d : Int) : Ev (fun k => spec_IsIsland.f k a b c d) (mIsland a b c d) := by
 unfold spec_IsIsland.f
 exact Ev.bind (spec_htGood.ev a b c d) (Ev.now _)
theorem spec_htAway.ev {a b c d : Int} (e : mIsland a b c d = true) : Ev (fun k => spec_htAway.f k a b c d) (mAw a b c d) := by
 obtain ⟨b0, b1, b2, b3, b4⟩ := mIsland_iff.1 e
 have p := mul_bd (a := c) (b := b) (A := 2000) (B := 2000) zO5_2 zO5_2 zO5_2 zO5_2
 obtain ⟨K2, h2⟩ := spec_clLow.ev (x := c * b) (y := d - c) zO5_2 zO5_2 zO5_2 zO5_2
 refine ⟨K2, fun k hk => ?_⟩
 have h2 := h2 k zO5_2
 dsimp only at *
 unfold spec_htAway.f mAw
 rw [wid (show -9223372036854775808 ≤ d - c by omega) zO5_2, wid (show -9223372036854775808 ≤ c * b by omega) zO5_2, h2]
 rfl
theorem spec_IslandAway.ev (a b c d : Int) : Ev (fun k => spec_IslandAway.f k a b c d) (if mIsland a b c d = true then ((mAw a b c d).1, (mAw a b c d).2, true) else (0, 0, false)) := by
 obtain ⟨K1, h1⟩ := spec_htGood.ev a b c d
 by_cases e : mIsland a b c d = true
 ·obtain ⟨K2, h2⟩ := spec_htAway.ev e
  refine ⟨max K1 K2, fun k hk => ?_⟩
  have h1 := h1 k zO5_2; have h2 := h2 k zO5_2
  dsimp only at *
  unfold spec_IslandAway.f
  rw [h1, if_pos e, e, h2]
  rfl
 ·refine ⟨K1, fun k hk => ?_⟩
  have h1 := h1 k zO5_2
  dsimp only at *
  unfold spec_IslandAway.f
  rw [h1, if_neg e, Bool.eq_false_iff.2 e]
  rfl
theorem spec_htHeight.ev {a b c d : Int} (e : mIsland a b c d = true) : Ev (fun k => spec_htHeight.f k a b c d) (mHt a b c d) := by
 obtain ⟨b0, b1, b2, b3, b4⟩ := mIsland_iff.1 e
 have p := mul_bd (a := a) (b := b + (d - c)) (A := 100) (B := 4000) zO5_2 zO5_2 zO5_2 zO5_2
 obtain ⟨K2, h2⟩ := spec_clLow.ev (x := a * (b + (d - c))) (y := d - c) zO5_2 zO5_2 zO5_2 zO5_2
 refine ⟨K2, fun k hk => ?_⟩
 have h2 := h2 k zO5_2
 dsimp only at *
 unfold spec_htHeight.f mHt
 rw [wid (show -9223372036854775808 ≤ d - c by omega) zO5_2, wid (show -9223372036854775808 ≤ b + (d - c) by omega) zO5_2, wid (show -9223372036854775808 ≤ a * (b + (d - c)) by omega) zO5_2, h2]
 rfl
theorem spec_IslandHeight.ev (a b c d : Int) : Ev (fun k => spec_IslandHeight.f k a b c d) (if mIsland a b c d = true then ((mHt a b c d).1, (mHt a b c d).2, true) else (0, 0, false)) := by
 obtain ⟨K1, h1⟩ := spec_htGood.ev a b c d
 by_cases e : mIsland a b c d = true
 ·obtain ⟨K2, h2⟩ := spec_htHeight.ev e
  refine ⟨max K1 K2, fun k hk => ?_⟩
  have h1 := h1 k zO5_2; have h2 := h2 k zO5_2
  dsimp only at *
  unfold spec_IslandHeight.f
  rw [h1, if_pos e, e, h2]
  rfl
 ·refine ⟨K1, fun k hk => ?_⟩
  have h1 := h1 k zO5_2
  dsimp only at *
  unfold spec_IslandHeight.f
  rw [h1, if_neg e, Bool.eq_false_iff.2 e]
  rfl
def mStepsOk (a b c d : Int) : Bool := inr 1 100 a && (inr 1 2000 b && (inr 1 2000 c && (inr 1 2000 d && decide (a < c))))
theorem mStepsOk_iff {a b c d : Int} : mStepsOk a b c d = true ↔ (1 ≤ a ∧ a ≤ 100) ∧ (1 ≤ b ∧ b ≤ 2000) ∧ (1 ≤ c ∧ c ≤ 2000) ∧ (1 ≤ d ∧ d ≤ 2000) ∧ a < c := by
 unfold mStepsOk; simp only [Bool.and_eq_true, inr_iff, decide_eq_true_eq]
def mSteps (a b c d : Int) : Int × Int × Int × Int × Bool := if mStepsOk a b c d = true then (loA (a * d) (c - a), loB (a * d) (c - a), loA (a * (d + b)) (c - a), loB (a * (d + b)) (c - a), true) else (0, 0, 0, 0, false)
theorem spec_StepsForIsland.ev (a b c d : Int) : Ev (fun k => spec_StepsForIsland.f k a b c d) (mSteps a b c d) := by
 obtain ⟨K1, h1⟩ := spec_htLong.ev (l := [b, c, d]) zO5_3
 simp only [List.all_cons, List.all_nil, Bool.and_true] at h1
 unfold mSteps spec_StepsForIsland.f
 by_cases e : mStepsOk a b c d = true
 ·obtain ⟨b0, b1, b2, b3, b4⟩ := mStepsOk_iff.1 e
  have p := mul_bd (a := a) (b := d) (A := 100) (B := 2000) zO5_2 zO5_2 zO5_2 zO5_2
  have q := mul_bd (a := a) (b := d + b) (A := 100) (B := 4000) zO5_2 zO5_2 zO5_2 zO5_2
  obtain ⟨K2, h2⟩ := spec_clLow.ev (x := a * d) (y := c - a) zO5_2 zO5_2 zO5_2 zO5_2
  obtain ⟨K3, h3⟩ := spec_clLow.ev (x := a * (d + b)) (y := c - a) zO5_2 zO5_2 zO5_2 zO5_2
  refine ⟨max K1 (max K2 K3) + 1, fun k hk => ?_⟩
  obtain ⟨k, rfl⟩ : ∃ m, k = m + 1 := ⟨k - 1, by omega⟩
  have h1 := h1 (k + 1) zO5_2; have h2 := h2 k zO5_2; have h3 := h3 k zO5_2
  dsimp only at *
  rw [inr_iff.2 b1, inr_iff.2 b2, inr_iff.2 b3] at h1
  rw [spec_htStaff.eq, inr_iff.2 b0, h1]
  simp only [Option.bind_some, Bool.and_self, if_true, spec_StepsForIsland.j0]
  rw [wid (show -9223372036854775808 ≤ c - a by omega) zO5_2, wid (show -9223372036854775808 ≤ d + b by omega) zO5_2, wid (show -9223372036854775808 ≤ a * d by omega) zO5_2, wid (show -9223372036854775808 ≤ a * (d + b) by omega) zO5_2, h2, h3]
  simp [e, show ¬ c ≤ a by omega]
 ·refine ⟨K1 + 1, fun k hk => ?_⟩
  obtain ⟨k, rfl⟩ : ∃ m, k = m + 1 := ⟨k - 1, by omega⟩
  have h1 := h1 (k + 1) zO5_2
  dsimp only at *
  rw [if_neg e, spec_htStaff.eq, h1]
  simp only [mStepsOk] at e
  cases e0 : inr 1 100 a <;> cases e1 : inr 1 2000 b <;> cases e2 : inr 1 2000 c <;> cases e3 : inr 1 2000 d <;> simp [e0, e1, e2, e3, spec_StepsForIsland.j0] at e ⊢
  intro h; omega
theorem impl_StepsForIsland.ev (a b c d : Int) : Ev (fun k => impl_StepsForIsland.f k a b c d) (mSteps a b c d) := by
 unfold mSteps impl_StepsForIsland.f
 by_cases e : mStepsOk a b c d = true
 ·obtain ⟨b0, b1, b2, b3, b4⟩ := mStepsOk_iff.1 e
  have p := mul_bd (a := a) (b := d) (A := 100) (B := 2000) zO5_2 zO5_2 zO5_2 zO5_2
  have q := mul_bd (a := a) (b := d + b) (A := 100) (B := 4000) zO5_2 zO5_2 zO5_2 zO5_2
  obtain ⟨K2, h2⟩ := impl_fraction.ev (a := a * d) (b := c - a) zO5_2 zO5_2 zO5_2 zO5_2
  obtain ⟨K3, h3⟩ := impl_fraction.ev (a := a * (d + b)) (b := c - a) zO5_2 zO5_2 zO5_2 zO5_2
  refine ⟨max K2 K3 + 1, fun k hk => ?_⟩
  obtain ⟨k, rfl⟩ : ∃ m, k = m + 1 := ⟨k - 1, by omega⟩
  have h2 := h2 k zO5_2; have h3 := h3 k zO5_2
  dsimp only at *
  rw [impl_areStaffs.eq, impl_areSteps.eq]
  simp only [Option.bind_some, List.all_cons, List.all_nil, Bool.and_true, inr_iff.2 b0, inr_iff.2 b1, inr_iff.2 b2, inr_iff.2 b3, if_true, impl_StepsForIsland.j0]
  rw [wid (show -9223372036854775808 ≤ c - a by omega) zO5_2, wid (show -9223372036854775808 ≤ d + b by omega) zO5_2, wid (show -9223372036854775808 ≤ a * d by omega) zO5_2, wid (show -9223372036854775808 ≤ a * (d + b) by omega) zO5_2, h2, h3]
  simp [e, show ¬ c ≤ a by omega]
 ·refine ⟨1, fun k hk => ?_⟩
  obtain ⟨k, rfl⟩ : ∃ m, k = m + 1 := ⟨k - 1, by omega⟩
  dsimp only at *
  rw [if_neg e, impl_areStaffs.eq, impl_areSteps.eq]
  simp only [mStepsOk] at e
  cases e0 : inr 1 100 a <;> cases e1 : inr 1 2000 b <;> cases e2 : inr 1 2000 c <;> cases e3 : inr 1 2000 d <;> simp [e0, e1, e2, e3, impl_StepsForIsland.j0] at e ⊢
  intro h; omega
theorem isn10 (p q a b c d e : Int) (s : ByteArray) : Ev (fun k => laws_FnIslandsMeasured.j10 k p q (wWhole p q).1 (wWhole p q).2 e (mTim a b c d e).2.2.2.2 s (mImplIs s).2.2.2.2 false a b c d (mTim a b c d e).1 (mTim a b c d e).2.1 (mTim a b c d e).2.2.1 (mTim a b c d e).2.2.2.1 (mImplIs s).1 (mImplIs s).2.1 (mImplIs s).2.2.1 (mImplIs s).2.2.2.1) true := by
 refine Ev.succ ?_
 simp only [laws_FnIslandsMeasured.j10, Bool.false_eq_true, if_false]
 by_cases h : (wWhole p q).2 = true
 ·simp only [if_pos h]
  exact isnL p q a b c d e s (wWhole_par h) _ (wWhole_ok p q).1 wWhole_good (wWhole p q).1.length 0 zO5_2
 ·simp only [if_neg h]
  exact isn12 a b c d e s
theorem isn9 (st ap fi ta p q a b c d e : Int) (s : ByteArray) : Ev (fun k => laws_FnIslandsMeasured.j9 k (mSteps st ap fi ta).1 (mSteps st ap fi ta).2.1 (mSteps st ap fi ta).2.2.1 (mSteps st ap fi ta).2.2.2.1 (mSteps st ap fi ta).2.2.2.2 p q (wWhole p q).1 (wWhole p q).2 e (mTim a b c d e).2.2.2.2 s (mImplIs s).2.2.2.2 false a b c d (mTim a b c d e).1 (mTim a b c d e).2.1 (mTim a b c d e).2.2.1 (mTim a b c d e).2.2.2.1 (mImplIs s).1 (mImplIs s).2.1 (mImplIs s).2.2.1 (mImplIs s).2.2.2.1) true := by
 refine Ev.succ ?_
 simp only [laws_FnIslandsMeasured.j9, Bool.false_eq_true, if_false]
 by_cases h : mStepsOk st ap fi ta = true
 ·obtain ⟨h1, h2, h3, h4, h5⟩ := mStepsOk_iff.1 h
  rw [show mSteps st ap fi ta = (loA (st * ta) (fi - st), loB (st * ta) (fi - st), loA (st * (ta + ap)) (fi - st), loB (st * (ta + ap)) (fi - st), true) from if_pos h]
  simp only [if_true]
  have p1 := mul_bd (a := st) (b := ta) (A := 100) (B := 2000) zO5_2 zO5_2 zO5_2 zO5_2
  have p2 := mul_bd (a := st) (b := ta + ap) (A := 100) (B := 4000) zO5_2 zO5_2 zO5_2 zO5_2
  have n1 := Int.mul_pos (show 0 < st by omega) (show 0 < ta by omega)
  refine Ev.bind (laws_yLow.ev zO5_2 zO5_2) ?_
  simp only [if_true]
  refine Ev.bind (laws_yLow.ev zO5_2 zO5_2) ?_
  have x0 := loA_nonneg (a := st * ta) (b := fi - st) zO5_2 zO5_2
  have y0 := loB_pos (a := st * ta) (b := fi - st) zO5_2
  have u0 := loA_nonneg (a := st * (ta + ap)) (b := fi - st) zO5_2 zO5_2
  have v0 := loB_pos (a := st * (ta + ap)) (b := fi - st) zO5_2
  have e1 := lo_cross (st * ta) (fi - st)
  have e2 := lo_cross (st * (ta + ap)) (fi - st)
  generalize loA (st * ta) (fi - st) = x at *
  generalize loB (st * ta) (fi - st) = y at *
  generalize loA (st * (ta + ap)) (fi - st) = u at *
  generalize loB (st * (ta + ap)) (fi - st) = v at *
  have k1 := isl_apos (show 0 < fi - st by omega) n1 (show 0 < y by omega) e1
  have k2 := isl_two (show 0 < fi - st by omega) (show 0 < st by omega) (show 0 < ap by omega) (show 0 < y by omega) (show 0 < v by omega) e1 e2
  have b1 := mul_bd (a := u) (b := y) (A := 400000) (B := 2000) zO5_2 zO5_2 zO5_2 zO5_2
  have b2 := mul_bd (a := x) (b := v) (A := 400000) (B := 2000) zO5_2 zO5_2 zO5_2 zO5_2
  simp only [if_true, show ¬ (x < 1) by omega, if_false]
  rw [wid (show -9223372036854775808 ≤ u * y by omega) zO5_2, wid (show -9223372036854775808 ≤ x * v by omega) zO5_2, decide_eq_false (show ¬ (u * y ≤ x * v) by omega)]
  exact isn10 p q a b c d e s
 ·rw [show mSteps st ap fi ta = (0, 0, 0, 0, false) from if_neg h]
  simp only [Bool.false_eq_true, if_false]
  exact isn10 p q a b c d e s
theorem isn8 (st ap fi ta p q a b c d e : Int) (s : ByteArray) : Ev (fun k => laws_FnIslandsMeasured.j8 k fi (mSecond st ap fi ta).1 (mSecond st ap fi ta).2.1 (mSecond st ap fi ta).2.2 (mSteps st ap fi ta).1 (mSteps st ap fi ta).2.1 (mSteps st ap fi ta).2.2.1 (mSteps st ap fi ta).2.2.2.1 (mSteps st ap fi ta).2.2.2.2 p q (wWhole p q).1 (wWhole p q).2 e (mTim a b c d e).2.2.2.2 s (mImplIs s).2.2.2.2 false a b c d (mTim a b c d e).1 (mTim a b c d e).2.1 (mTim a b c d e).2.2.1 (mTim a b c d e).2.2.2.1 (mImplIs s).1 (mImplIs s).2.1 (mImplIs s).2.2.1 (mImplIs s).2.2.2.1) true := by
 refine Ev.succ ?_
 simp only [laws_FnIslandsMeasured.j8, Bool.false_eq_true, if_false]
 by_cases h : mSecOk st ap fi ta = true
 ·obtain ⟨h1, h2, h3, h4, h5⟩ := mSecOk_iff.1 h
  rw [show mSecond st ap fi ta = (loA (fi * (ta - st) + st * ap) (ta - st), loB (fi * (ta - st) + st * ap) (ta - st), true) from if_pos h]
  simp only [if_true]
  have p1 := mul_bd (a := fi) (b := ta - st) (A := 2000) (B := 2000) zO5_2 zO5_2 zO5_2 zO5_2
  have p2 := mul_bd (a := st) (b := ap) (A := 100) (B := 2000) zO5_2 zO5_2 zO5_2 zO5_2
  refine Ev.bind (laws_yLow.ev zO5_2 zO5_2) ?_
  have u0 := loA_nonneg (a := fi * (ta - st) + st * ap) (b := ta - st) zO5_2 zO5_2
  have v0 := loB_pos (a := fi * (ta - st) + st * ap) (b := ta - st) zO5_2
  have e1 := lo_cross (fi * (ta - st) + st * ap) (ta - st)
  generalize loA (fi * (ta - st) + st * ap) (ta - st) = S at *
  generalize loB (fi * (ta - st) + st * ap) (ta - st) = z at *
  have k1 := isl_over (show 0 < ta - st by omega) (show 0 < st by omega) (show 0 < ap by omega) (show 0 < z by omega) e1
  have b1 := mul_bd (a := fi) (b := z) (A := 2000) (B := 2000) zO5_2 zO5_2 zO5_2 zO5_2
  simp only [if_true]
  rw [wid (show -9223372036854775808 ≤ fi * z by omega) zO5_2, decide_eq_false (show ¬ (S ≤ fi * z) by omega)]
  exact isn9 st ap fi ta p q a b c d e s
 ·rw [show mSecond st ap fi ta = (0, 0, false) from if_neg h]
  simp only [Bool.false_eq_true, if_false]
  exact isn9 st ap fi ta p q a b c d e s
theorem isn7 {bs : List Int} (hb : Bytes bs) : Ev (fun k => laws_FnIslandsMeasured.j7 k bs) true := by
 refine Ev.succ ?_
 simp only [laws_FnIslandsMeasured.j7]
 obtain ⟨st, ap, fi, ta, ed⟩ := drawSecond_ok hb
 obtain ⟨p, q, ew⟩ := drawWhole_ok hb
 obtain ⟨a, b, c, d, e, et⟩ := drawTimes_ok hb
 obtain ⟨s, es, hs⟩ := drawParseIs_ok hb
 have hw := wWhole_ok p q
 have hw1 := hw.1
 refine Ev.bindc ed ?_
 refine Ev.bind (impl_SecondStep.ev st ap fi ta) ?_
 refine Ev.bind (spec_SecondStep.ev st ap fi ta) ?_
 refine Ev.bind (impl_StepsForIsland.ev st ap fi ta) ?_
 refine Ev.bind (spec_StepsForIsland.ev st ap fi ta) ?_
 refine Ev.bindc ew ?_
 refine Ev.bind (impl_WholeIslands.ev p q) ?_
 refine Ev.bind (spec_WholeIslands.ev p q) ?_
 refine Ev.bindc et ?_
 refine Ev.bindc (impl_TimesIsland.eq a b c d e) ?_
 refine Ev.bind (spec_TimesIsland.ev a b c d e) ?_
 refine Ev.bind es ?_
 refine Ev.bindc (impl_ParseIsland.eq hs) ?_
 refine Ev.bind (spec_ParseIsland.ev hs) ?_
 rw [← isl_same s]
 simp only [bne_self_eq_false, Bool.false_eq_true, if_false, if_true, beq_self_eq_true, Bool.not_true, Bool.or_self]
 refine Ev.bind (laws_yRows.refl zO5_2 (fun y hy => by have := hw.2 y hy; omega)) ?_
 simp only [if_true]
 exact isn8 st ap fi ta p q a b c d e s
theorem isn6 {bs : List Int} (hb0 : Bytes bs) (i0 i1 i2 i3 x21 x22 : Int) (hx : mIsland i0 i1 i2 i3 = true → x21 = (mHt i0 i1 i2 i3).1 ∧ x22 = (mHt i0 i1 i2 i3).2) : Ev (fun k => laws_FnIslandsMeasured.j6 k bs x21 x22 (mHig i0 i1 i2 i3).1 (mHig i0 i1 i2 i3).2.1 (mHig i0 i1 i2 i3).2.2 i0 i1 i2 i3) true := by
 refine Ev.succ ?_
 simp only [laws_FnIslandsMeasured.j6]
 by_cases hm : mIsland i0 i1 i2 i3 = true ∧ i3 - i2 ≠ 1
 ·obtain ⟨g1, g2⟩ := hm
  obtain ⟨rfl, rfl⟩ := hx g1
  obtain ⟨ha, hb, hc, hd, hcd⟩ := isl_bd g1
  have hD : 2 ≤ i3 - i2 := by omega
  have g3 : mIsland i0 i1 i2 (i3 - 1) = true := mIsland_iff.2 ⟨ha, hb, hc, by omega, by omega⟩
  rw [show mHig i0 i1 i2 i3 = (loA (i0 * i1) ((i3 - i2) * (i3 - i2 - 1)), loB (i0 * i1) ((i3 - i2) * (i3 - i2 - 1)), true) from if_pos ⟨g1, g2⟩]
  simp only [if_true, wid (show -9223372036854775808 ≤ i3 - 1 by omega) zO5_2]
  refine Ev.bind (isl_ht_ev g3) ?_
  have b0 := mul_bd (a := i0) (b := i1) (A := 100) (B := 2000) zO5_2 zO5_2 zO5_2 zO5_2
  have n0 := Int.mul_pos (show 0 < i0 by omega) (show 0 < i1 by omega)
  have b1 := mul_bd (a := i3 - i2) (b := i3 - i2 - 1) (A := 2000) (B := 2000) zO5_2 zO5_2 zO5_2 zO5_2
  have n1 := Int.mul_pos (show 0 < i3 - i2 by omega) (show 0 < i3 - i2 - 1 by omega)
  simp only [if_true]
  refine Ev.bind (laws_yLow.ev zO5_2 zO5_2) ?_
  obtain ⟨q1, q2, q3⟩ := isl_ht g1
  obtain ⟨r1, r2, r3⟩ := isl_ht g3
  have hD1 : i3 - 1 - i2 = i3 - i2 - 1 := by omega
  rw [hD1] at r1 r3
  have x0 := loA_nonneg (a := i0 * i1) (b := (i3 - i2) * (i3 - i2 - 1)) zO5_2 zO5_2
  have y0 := loB_pos (a := i0 * i1) (b := (i3 - i2) * (i3 - i2 - 1)) zO5_2
  have e1 := lo_cross (i0 * i1) ((i3 - i2) * (i3 - i2 - 1))
  have k1 := isl_apos n1 n0 y0.1 e1
  have key := isl_more (b := i1) (show 1 < i3 - i2 by omega) q1 r1 e1
  generalize loA (i0 * i1) ((i3 - i2) * (i3 - i2 - 1)) = M at *
  generalize loB (i0 * i1) ((i3 - i2) * (i3 - i2 - 1)) = lo at *
  generalize (mHt i0 i1 i2 (i3 - 1)).1 = T at *
  generalize (mHt i0 i1 i2 (i3 - 1)).2 = t at *
  generalize (mHt i0 i1 i2 i3).1 = H at *
  generalize (mHt i0 i1 i2 i3).2 = de at *
  have c1 := mul_bd (a := T) (b := de) (A := 400000) (B := 2000) zO5_2 zO5_2 zO5_2 zO5_2
  have c2 := mul_bd (a := H) (b := t) (A := 400000) (B := 2000) zO5_2 zO5_2 zO5_2 zO5_2
  have c3 := mul_bd (a := M) (b := t) (A := 200000) (B := 2000) zO5_2 zO5_2 zO5_2 zO5_2
  have c4 := mul_bd (a := M * t) (b := de) (A := 400000000) (B := 2000) zO5_2 zO5_2 zO5_2 zO5_2
  simp only [if_true, show ¬ (M < 1) by omega, if_false]
  rw [wid (show -9223372036854775808 ≤ T * de by omega) zO5_2, wid (show -9223372036854775808 ≤ H * t by omega) zO5_2, wid (show -9223372036854775808 ≤ T * de - H * t by omega) zO5_2, wid (show -9223372036854775808 ≤ M * t by omega) zO5_2, wid (show -9223372036854775808 ≤ M * t * de by omega) zO5_2, key, wid (show -9223372036854775808 ≤ M * t * de by omega) zO5_2]
  simp only [if_true]
  exact isn7 hb0
 ·rw [show mHig i0 i1 i2 i3 = (0, 0, false) from if_neg hm]
  simp only [Bool.false_eq_true, if_false]
  exact isn7 hb0
theorem isnP {bs : List Int} (hb0 : Bytes bs) (i0 i1 i2 i3 : Int) (g : mIsland i0 i1 i2 i3 = true) : Ev (fun k => (impl_ParseIsland.f (isText i0 i1 i2 i3)).bind fun bt => (if bt.2.2.2.2 = true then (if (!(bt.1 == i0) || (!(bt.2.1 == i1) || (!(bt.2.2.1 == i2) || (!(bt.2.2.2.1 == i3))))) = true then (some false) else (laws_FnIslandsMeasured.j6 k bs (mHt i0 i1 i2 i3).1 (mHt i0 i1 i2 i3).2 (mHig i0 i1 i2 i3).1 (mHig i0 i1 i2 i3).2.1 (mHig i0 i1 i2 i3).2.2 i0 i1 i2 i3)) else (some false))) true := by
 refine Ev.bindc (impl_ParseIsland.eq (isText_size g)) ?_
 rw [mImplIs_mk g]
 simp only [if_true, beq_self_eq_true, Bool.not_true, Bool.or_self, Bool.false_eq_true, if_false]
 exact isn6 hb0 i0 i1 i2 i3 _ _ (fun _ => ⟨rfl, rfl⟩)
theorem isn5 {bs : List Int} (hb0 : Bytes bs) (i0 i1 i2 i3 : Int) (g : mIsland i0 i1 i2 i3 = true) : Ev (fun k => laws_FnIslandsMeasured.j5 k bs (mHt i0 i1 i2 i3).1 (mHt i0 i1 i2 i3).2 (mHig i0 i1 i2 i3).1 (mHig i0 i1 i2 i3).2.1 (mHig i0 i1 i2 i3).2.2 (isText i0 i1 i2 i3) false i0 i1 i2 i3) true := by
 refine Ev.succ ?_
 simp only [laws_FnIslandsMeasured.j5, Bool.false_eq_true, if_false]
 exact isnP hb0 i0 i1 i2 i3 g
theorem isn4 {bs : List Int} (hb0 : Bytes bs) (i0 i1 i2 i3 : Int) (g : mIsland i0 i1 i2 i3 = true) (t : Bool) (ht : t = true → (mHt i0 i1 i2 i3).2 = 1 ∧ (mHt i0 i1 i2 i3).1 ≤ 2000 ∧ (mAw i0 i1 i2 i3).2 = 1 ∧ (mAw i0 i1 i2 i3).1 ≤ 2000) : Ev (fun k => laws_FnIslandsMeasured.j4 k bs (mHt i0 i1 i2 i3).1 (mHt i0 i1 i2 i3).2 (mAw i0 i1 i2 i3).1 (mHig i0 i1 i2 i3).1 (mHig i0 i1 i2 i3).2.1 (mHig i0 i1 i2 i3).2.2 (isText i0 i1 i2 i3) t i0 i1 i2 i3) true := by
 refine Ev.succ ?_
 simp only [laws_FnIslandsMeasured.j4]
 cases t with
 | true =>
  obtain ⟨t1, t2, t3, t4⟩ := ht rfl
  simp only [if_true]
  obtain ⟨ha, hb, hc, hd, hcd⟩ := isl_bd g
  obtain ⟨q1, q2, q3⟩ := isl_ht g
  obtain ⟨r1, r2, r3⟩ := isl_aw g
  have h5 := isn5 hb0 i0 i1 i2 i3 g
  have w1 := isl_pos (show 0 < i3 - i2 by omega) (show 0 < i0 by omega) (show 0 < i1 by omega) (show 0 < (mHt i0 i1 i2 i3).2 by omega) q1
  rw [t1] at q1 w1
  rw [t3] at r1
  have n0 := Int.mul_pos (show 0 < i2 by omega) (show 0 < i1 by omega)
  have w2 := isl_apos (show 0 < i3 - i2 by omega) n0 (show (0 : Int) < 1 by omega) r1
  have s1 := isl_st1 (show 0 < i3 - i2 by omega) q1 r1
  have s2 := isl_st2 (show 0 < i3 - i2 by omega) q1 r1
  rw [show i2 + (i3 - i2) = i3 by omega] at s2
  generalize (mHt i0 i1 i2 i3).1 = H at *
  generalize (mAw i0 i1 i2 i3).1 = A at *
  have ok : mStepsOk i0 i1 H A = true := mStepsOk_iff.2 ⟨ha, hb, by omega, by omega, by omega⟩
  have hst := impl_StepsForIsland.ev i0 i1 H A
  rw [show mSteps i0 i1 H A = (loA (i0 * A) (H - i0), loB (i0 * A) (H - i0), loA (i0 * (A + i1)) (H - i0), loB (i0 * (A + i1)) (H - i0), true) from if_pos ok] at hst
  refine Ev.bind hst ?_
  have b1 := mul_bd (a := i0) (b := A) (A := 100) (B := 2000) zO5_2 zO5_2 zO5_2 zO5_2
  have b2 := mul_bd (a := i0) (b := A + i1) (A := 100) (B := 4000) zO5_2 zO5_2 zO5_2 zO5_2
  simp only [if_true]
  refine Ev.bind (laws_yIs.ev zO5_2 zO5_2 zO5_2 zO5_2 zO5_2 zO5_2 (isl_yis zO5_2 s1)) ?_
  simp only [if_true]
  refine Ev.bind (laws_yIs.ev zO5_2 zO5_2 zO5_2 zO5_2 zO5_2 zO5_2 (isl_yis zO5_2 s2)) ?_
  exact h5
 | false =>
  simp only [Bool.false_eq_true, if_false]
  exact isnP hb0 i0 i1 i2 i3 g
theorem isn3 {bs : List Int} (hb0 : Bytes bs) (i0 i1 i2 i3 : Int) (g : mIsland i0 i1 i2 i3 = true) (h1 : (mHt i0 i1 i2 i3).2 = 1) (h2 : (mHt i0 i1 i2 i3).1 ≤ 2000) : Ev (fun k => laws_FnIslandsMeasured.j3 k bs (mHt i0 i1 i2 i3).1 (mHt i0 i1 i2 i3).2 (mAw i0 i1 i2 i3).1 (mAw i0 i1 i2 i3).2 (mHig i0 i1 i2 i3).1 (mHig i0 i1 i2 i3).2.1 (mHig i0 i1 i2 i3).2.2 (isText i0 i1 i2 i3) false i0 i1 i2 i3) true := by
 refine Ev.succ ?_
 simp only [laws_FnIslandsMeasured.j3, Bool.false_eq_true, if_false]
 by_cases h3 : (mAw i0 i1 i2 i3).2 = 1
 ·simp only [if_pos h3]
  exact isn4 hb0 i0 i1 i2 i3 g _ (fun h => ⟨h1, h2, h3, of_decide_eq_true h⟩)
 ·simp only [if_neg h3]
  exact isn4 hb0 i0 i1 i2 i3 g _ (fun h => absurd h zO5_3)
theorem isn2 {bs : List Int} (hb0 : Bytes bs) (i0 i1 i2 i3 : Int) (g : mIsland i0 i1 i2 i3 = true) (t : Bool) (ht : t = true → (mHt i0 i1 i2 i3).2 = 1 ∧ (mHt i0 i1 i2 i3).1 ≤ 2000) : Ev (fun k => laws_FnIslandsMeasured.j2 k bs (mHt i0 i1 i2 i3).1 (mHt i0 i1 i2 i3).2 (mAw i0 i1 i2 i3).1 (mAw i0 i1 i2 i3).2 (mHig i0 i1 i2 i3).1 (mHig i0 i1 i2 i3).2.1 (mHig i0 i1 i2 i3).2.2 (isText i0 i1 i2 i3) t i0 i1 i2 i3) true := by
 refine Ev.succ ?_
 simp only [laws_FnIslandsMeasured.j2]
 cases t with
 | true =>
  obtain ⟨t1, t2⟩ := ht rfl
  simp only [if_true]
  obtain ⟨ha, hb, hc, hd, hcd⟩ := isl_bd g
  obtain ⟨q1, q2, q3⟩ := isl_ht g
  have h3 := isn3 hb0 i0 i1 i2 i3 g t1 t2
  have w1 := isl_pos (show 0 < i3 - i2 by omega) (show 0 < i0 by omega) (show 0 < i1 by omega) (show 0 < (mHt i0 i1 i2 i3).2 by omega) q1
  rw [t1] at q1 w1
  have s1 := isl_sec (c := i2) q1
  rw [show i2 + (i3 - i2) = i3 by omega] at s1
  generalize (mHt i0 i1 i2 i3).1 = H at *
  have ok : mSecOk i0 i1 i2 H = true := mSecOk_iff.2 ⟨ha, hb, hc, by omega, by omega⟩
  have hst := impl_SecondStep.ev i0 i1 i2 H
  rw [show mSecond i0 i1 i2 H = (loA (i2 * (H - i0) + i0 * i1) (H - i0), loB (i2 * (H - i0) + i0 * i1) (H - i0), true) from if_pos ok] at hst
  refine Ev.bind hst ?_
  have b1 := mul_bd (a := i2) (b := H - i0) (A := 2000) (B := 2000) zO5_2 zO5_2 zO5_2 zO5_2
  have b2 := mul_bd (a := i0) (b := i1) (A := 100) (B := 2000) zO5_2 zO5_2 zO5_2 zO5_2
  simp only [if_true]
  refine Ev.bind (laws_yIs.ev zO5_2 zO5_2 zO5_2 zO5_2 zO5_2 zO5_2 (isl_yis zO5_2 s1)) ?_
  exact h3
 | false =>
  simp only [Bool.false_eq_true, if_false]
  exact isnP hb0 i0 i1 i2 i3 g
theorem isn1 {bs : List Int} (hb0 : Bytes bs) (i0 i1 i2 i3 : Int) (g : mIsland i0 i1 i2 i3 = true) : Ev (fun k => laws_FnIslandsMeasured.j1 k bs (mHt i0 i1 i2 i3).1 (mHt i0 i1 i2 i3).2 (mAw i0 i1 i2 i3).1 (mAw i0 i1 i2 i3).2 (mHig i0 i1 i2 i3).1 (mHig i0 i1 i2 i3).2.1 (mHig i0 i1 i2 i3).2.2 (isText i0 i1 i2 i3) false i0 i1 i2 i3) true := by
 refine Ev.succ ?_
 simp only [laws_FnIslandsMeasured.j1, Bool.false_eq_true, if_false]
 by_cases h3 : (mHt i0 i1 i2 i3).2 = 1
 ·simp only [if_pos h3]
  exact isn2 hb0 i0 i1 i2 i3 g _ (fun h => ⟨h3, of_decide_eq_true h⟩)
 ·simp only [if_neg h3]
  exact isn2 hb0 i0 i1 i2 i3 g _ (fun h => absurd h zO5_3)
theorem isn0 {bs : List Int} (hb0 : Bytes bs) (i0 i1 i2 i3 : Int) (g : mIsland i0 i1 i2 i3 = true) : Ev (fun k => laws_FnIslandsMeasured.j0 k bs (mHt i0 i1 i2 i3).1 (mHt i0 i1 i2 i3).2 true (mAw i0 i1 i2 i3).1 (mAw i0 i1 i2 i3).2 (mHig i0 i1 i2 i3).1 (mHig i0 i1 i2 i3).2.1 (mHig i0 i1 i2 i3).2.2 (isText i0 i1 i2 i3) false i0 i1 i2 i3) true := by
 refine Ev.succ ?_
 simp only [laws_FnIslandsMeasured.j0, Bool.false_eq_true, if_false, if_true]
 have h1 := isn1 hb0 i0 i1 i2 i3 g
 obtain ⟨ha, hb, hc, hd, hcd⟩ := isl_bd g
 obtain ⟨q1, q2, q3⟩ := isl_ht g
 obtain ⟨r1, r2, r3⟩ := isl_aw g
 have w1 := isl_pos (show 0 < i3 - i2 by omega) (show 0 < i0 by omega) (show 0 < i1 by omega) (show 0 < (mHt i0 i1 i2 i3).2 by omega) q1
 have e1 := isl_e1 (show 0 < i3 - i2 by omega) q1 r1
 have e2 := isl_e2 (show 0 < i3 - i2 by omega) q1 r1
 rw [show i2 + (i3 - i2) = i3 by omega] at e2
 have b0 := mul_bd (a := i0) (b := i1 + (i3 - i2)) (A := 100) (B := 4000) zO5_2 zO5_2 zO5_2 zO5_2
 have b1 := mul_bd (a := i2) (b := i1) (A := 2000) (B := 2000) zO5_2 zO5_2 zO5_2 zO5_2
 refine Ev.bind (laws_yLow.ev zO5_2 zO5_2) ?_
 simp only [if_true]
 refine Ev.bind (laws_yLow.ev zO5_2 zO5_2) ?_
 simp only [if_true]
 generalize (mHt i0 i1 i2 i3).1 = H at *
 generalize (mHt i0 i1 i2 i3).2 = de at *
 generalize (mAw i0 i1 i2 i3).1 = A at *
 generalize (mAw i0 i1 i2 i3).2 = pa at *
 have c0 := mul_bd (a := i0) (b := de) (A := 100) (B := 2000) zO5_2 zO5_2 zO5_2 zO5_2
 have c1 := mul_bd (a := H - i0 * de) (b := i2) (A := 400000) (B := 2000) zO5_2 zO5_2 zO5_2 zO5_2
 have c2 := mul_bd (a := (H - i0 * de) * i2) (b := pa) (A := 800000000) (B := 2000) zO5_2 zO5_2 zO5_2 zO5_2
 have c3 := mul_bd (a := i0) (b := A) (A := 100) (B := 4000000) zO5_2 zO5_2 zO5_2 zO5_2
 have c4 := mul_bd (a := i0 * A) (b := de) (A := 400000000) (B := 2000) zO5_2 zO5_2 zO5_2 zO5_2
 have c5 := mul_bd (a := H - i0 * de) (b := i3) (A := 400000) (B := 2000) zO5_2 zO5_2 zO5_2 zO5_2
 have c6 := mul_bd (a := (H - i0 * de) * i3) (b := pa) (A := 800000000) (B := 2000) zO5_2 zO5_2 zO5_2 zO5_2
 have c7 := mul_bd (a := i1) (b := pa) (A := 2000) (B := 2000) zO5_2 zO5_2 zO5_2 zO5_2
 have c8 := mul_bd (a := i0 * de) (b := A + i1 * pa) (A := 200000) (B := 8000000) zO5_2 zO5_2 zO5_2 zO5_2
 rw [wid (show -9223372036854775808 ≤ i0 * de by omega) zO5_2, wid (show -9223372036854775808 ≤ H - i0 * de by omega) zO5_2, wid (show -9223372036854775808 ≤ (H - i0 * de) * i2 by omega) zO5_2, wid (show -9223372036854775808 ≤ (H - i0 * de) * i2 * pa by omega) zO5_2, wid (show -9223372036854775808 ≤ i0 * A by omega) zO5_2, wid (show -9223372036854775808 ≤ i0 * A * de by omega) zO5_2, wid (show -9223372036854775808 ≤ (H - i0 * de) * i3 by omega) zO5_2, wid (show -9223372036854775808 ≤ (H - i0 * de) * i3 * pa by omega) zO5_2, wid (show -9223372036854775808 ≤ i1 * pa by omega) zO5_2, wid (show -9223372036854775808 ≤ A + i1 * pa by omega) zO5_2, wid (show -9223372036854775808 ≤ i0 * de * (A + i1 * pa) by omega) zO5_2, e1, e2]
 simp only [if_true, bne_self_eq_false]
 exact h1
theorem isn_f {l0 bs : List Int} (hl0 : Bytes l0) (hb0 : Bytes bs) : Ev (fun k => laws_FnIslandsMeasured.f k l0 bs) true := by
 unfold laws_FnIslandsMeasured.f
 obtain ⟨t, ht0⟩ : ∃ t, laws_big.f l0 bs = some t := by unfold laws_big.f; split <;> exact ⟨_, rfl⟩
 refine Ev.bindc ht0 ?_
 cases t with
 | true => simp only [if_true]; exact Ev.now _
 | false =>
 simp only [Bool.false_eq_true, if_false]
 obtain ⟨i0, i1, i2, i3, e0⟩ := drawIsland_ok hl0
 refine Ev.bindc e0 ?_
 refine Ev.bind (impl_IslandHeight.ev i0 i1 i2 i3) ?_
 refine Ev.bind (spec_IslandHeight.ev i0 i1 i2 i3) ?_
 refine Ev.bind (impl_IslandAway.ev i0 i1 i2 i3) ?_
 refine Ev.bind (spec_IslandAway.ev i0 i1 i2 i3) ?_
 refine Ev.bind (impl_HigherByStep.ev i0 i1 i2 i3) ?_
 refine Ev.bind (spec_HigherByStep.ev i0 i1 i2 i3) ?_
 refine Ev.bindc (impl_IslandText.eq i0 i1 i2 i3) ?_
 refine Ev.bind (spec_IslandText.ev i0 i1 i2 i3) ?_
 simp only [bne_self_eq_false, Bool.false_eq_true, if_false, if_true]
 refine Ev.bindc (impl_IsIsland.eq i0 i1 i2 i3) ?_
 by_cases g : mIsland i0 i1 i2 i3 = true
 ·simp only [if_pos g, g, bne_self_eq_false, Bool.false_eq_true, if_false]
  refine Ev.bindc (impl_IsIsland.eq i0 i1 i2 i3) ?_
  refine Ev.bind (spec_IsIsland.ev i0 i1 i2 i3) ?_
  have ht : mIsText i0 i1 i2 i3 = (isText i0 i1 i2 i3, true) := if_pos g
  obtain ⟨ha, hb, hc, hd, hcd⟩ := isl_bd g
  have hg : ((mHig i0 i1 i2 i3).2.2 != decide (wrap64 (i3 - i2) > 1)) = false := by
   rw [wid (show -9223372036854775808 ≤ i3 - i2 by omega) zO5_2]
   unfold mHig
   by_cases h2 : i3 - i2 ≠ 1
   ·rw [if_pos ⟨g, h2⟩, decide_eq_true (show i3 - i2 > 1 by omega)]; rfl
   ·rw [if_neg (fun h => h2 h.2), decide_eq_false (show ¬ i3 - i2 > 1 by omega)]; rfl
  simp only [bne_self_eq_false, Bool.false_eq_true, if_false, if_true, ht, hg]
  exact isn0 hb0 i0 i1 i2 i3 g
 ·have g2 := Bool.eq_false_iff.2 g
  simp only [if_neg g, g2, bne_self_eq_false, Bool.false_eq_true, if_false]
  refine Ev.bindc (impl_IsIsland.eq i0 i1 i2 i3) ?_
  refine Ev.bind (spec_IsIsland.ev i0 i1 i2 i3) ?_
  have ht : mIsText i0 i1 i2 i3 = (⟨#[]⟩, false) := if_neg g
  have hg : mHig i0 i1 i2 i3 = (0, 0, false) := if_neg (fun h => g h.1)
  have h6 := isn6 hb0 i0 i1 i2 i3 0 0 (fun h => absurd h g)
  rw [hg] at h6
  simp only [bne_self_eq_false, Bool.false_eq_true, if_false, if_true, ht, hg]
  refine Ev.succ ?_
  simp only [laws_FnIslandsMeasured.j0, Bool.false_eq_true, if_false]
  exact h6
end Go.Proofs.YtakodhlaphloeaaGreatDoor.P

namespace Go.Proofs.YtakodhlaphloeaaGreatDoor.Pure
open Go.RowKit Go.Proofs.YtakodhlaphloeaaGreatDoorW.PrintWords Go.Proofs.YtakodhlaphloeaaGreatDoorW.PrintLast Go.Proofs.YtakodhlaphloeaaGreatDoorW.PrintMore Go.Proofs.YtakodhlaphloeaaGreatDoor.P
set_option linter.unusedVariables false
set_option linter.unusedSimpArgs false
theorem FnIslandsMeasured : ∀ (l0 : List Int) (l1 : List Int), l0.length ≤ maxLen → (∀ y ∈ l0, (Lit.int .u8 y).wf = true) → l1.length ≤ maxLen → (∀ y ∈ l1, (Lit.int .u8 y).wf = true) → ∃ k, laws_FnIslandsMeasured.f k l0 l1 = some true := fun l0 l1 _ hb0 _ hb1 => Ev.rounds (isn_f hb0 hb1)
end Go.Proofs.YtakodhlaphloeaaGreatDoor.Pure

namespace Go.Proofs.YtakodhlaphloeaaGreatDoor.fnIslandsMeasured
open Go.ChangeShapes Go.WideShapes Go.ChangeAt Go.RowKit Go.Deep
open Go.ChangeMaps (open_string shut_string)
open Go.Proofs.YtakodhlaphloeaaGreatDoorW.PrintWords Go.Proofs.YtakodhlaphloeaaGreatDoorW.PrintLast Go.Proofs.YtakodhlaphloeaaGreatDoorW.PrintMore Go.Proofs.YtakodhlaphloeaaGreatDoor.P
set_option linter.unusedVariables false
set_option linter.unusedSimpArgs false
theorem own : ownKnob Tryz.prog.godebug = none := by kernel_rfl
theorem laidOut : laidOutB Tryz.prog = true := by kernel_rfl
theorem cof5 : Tryz.prog.cellsOf 5 = 1 := by kernel_rfl
theorem cof22 : Tryz.prog.cellsOf 22 = 1 := by kernel_rfl
theorem C_each {α : Type} (d : Kd α) (w : World) (a : Addr) (len : Nat) (hl : len ≤ 9223372036854775807) (P : α → Prop) (h : ∀ i, i < len → ∃ (x : α) (c : List Value), P x ∧ c.length = d.sz ∧ d.K w x c ∧ ∀ j u, c[j]? = some u → w.cell? (a.add (i * d.sz + j)) = some u) : ∃ xs : List α, xs.length = len ∧ Kd.C d w (some a) len xs ∧ ∀ x ∈ xs, P x := by
 refine ⟨List.ofFn fun i : Fin len => Classical.choose (h i.1 i.2), by simp, ⟨by simp, hl, fun _ => ⟨a, rfl, fun j p hj => ?_⟩⟩, fun x hx => ?_⟩
 ·have hjl : j < len := by have := (List.getElem?_eq_some_iff.1 hj).1; simpa using this
  have hp : p = Classical.choose (h j hjl) := by rw [List.getElem?_ofFn, dif_pos hjl] at hj; exact (Option.some.inj hj).symm
  obtain ⟨c, hP, hc, hK, hcell⟩ := Classical.choose_spec (h j hjl)
  exact ⟨c, hc, by rw [hp]; exact hK, hcell⟩
 ·obtain ⟨i, rfl⟩ := (List.mem_ofFn).1 hx
  obtain ⟨c, hP, _⟩ := Classical.choose_spec (h i.1 i.2)
  exact hP
set_option maxRecDepth 100000 in
theorem open0 {H : Type} {enc : TypeId × Value → H} {W : World} {base : Nat} {v : Value} {d : DataW H} {p : List MemPlace} (hv : Value.okWide Tryz.prog W .any base 22 v) (h : DataW.Trod enc Tryz.prog W 0 (fun _ => true) true 22 v d p) :
  ∃ (A0 : Option Addr) (c0 : Nat) (l0 : List Int), v = .slice A0 l0.length c0 ∧ (Kd.C (Kd.int .u8) W A0 l0.length l0 ∧ l0.length ≤ c0 ∧ c0 ≤ maxLen ∧ (∀ y ∈ l0, (Lit.int .u8 y).wf = true)) := by
 obtain ⟨a_, len_, cap_, rfl⟩ := okWide_slice Tryz.underlying22 hv
 obtain ⟨fuel, hf⟩ := h
 have hf : DataW.trod enc Tryz.prog W 0 (fun _ => true) true fuel 22 [.slice a_ len_ cap_] = some (d, p) := hf
 generalize Value.slice a_ len_ cap_ = c_0 at hf
 obtain ⟨A0, c0, l0, rfl, w0⟩ : ∃ A c l, c_0 = .slice A l.length c ∧ Kd.C (Kd.int .u8) W A l.length l ∧ l.length ≤ c ∧ c ≤ maxLen ∧ (∀ y ∈ l, (Lit.int .u8 y).wf = true) := by
  rcases open_slice Tryz.underlying22 hf with ⟨hcs, _⟩ | ⟨ad, len, cap, m, n_, D_, Pl_, hcs, _, hlc, hcm, hm, _, hel⟩
  ·exact ⟨none, 0, [], by simpa using hcs, ⟨rfl, by simp, fun hp => absurd hp zO5_3⟩, by simp, by unfold maxLen; omega, by simp⟩
  ·have hlen : len ≤ 9223372036854775807 := by unfold maxLen at hcm; omega
   have each_ : ∀ i, i < len → ∃ (y : Int) (c : List Value), ((Lit.int .u8 y).wf = true) ∧ c.length = ((Kd.int .u8) : Kd _).sz ∧ ((Kd.int .u8) : Kd _).K W y c ∧ ∀ j u, c[j]? = some u → W.cell? (ad.add (i * ((Kd.int .u8) : Kd _).sz + j)) = some u := by
    intro i hi
    obtain ⟨cs_, hc_, ht_⟩ := hel i (by simp only [if_true] at hm; omega)
    rw [cof5] at hc_
    obtain ⟨hb_, hn_, hat_⟩ := World.cells?_some hc_
    obtain ⟨u2, rfl⟩ : ∃ u2, cs_ = [u2] := by match cs_, hn_ with | [u2], _ => exact ⟨u2, rfl⟩
    obtain ⟨a0e0, e3, _, w0e0⟩ := DataW.trod_int Tryz.underlying5 ht_
    obtain rfl : u2 = _ := by simpa using e3
    refine ⟨a0e0, [.int .u8 a0e0], w0e0, rfl, rfl, fun j u hu => ?_⟩
    have hj : j < 1 := by have := (List.getElem?_eq_some_iff.1 hu).1; simpa using this
    have h1_ := hat_ j hj
    have hs_ : ((Kd.int .u8) : Kd _).sz = 1 := rfl
    rw [hs_, ← Go.Deep.add_add, h1_]; exact hu
   obtain ⟨xs_, hx_, hC_, hP_⟩ := C_each (Kd.int .u8) W ad len hlen (fun y => (Lit.int .u8 y).wf = true) each_
   exact ⟨some ad, cap, xs_, by rw [hx_]; simpa using hcs, by rw [hx_]; exact hC_, by omega, hcm, hP_⟩
 exact ⟨_, _, _, rfl, w0⟩
set_option maxRecDepth 100000 in
theorem open1 {H : Type} {enc : TypeId × Value → H} {W : World} {base : Nat} {v : Value} {d : DataW H} {p : List MemPlace} (hv : Value.okWide Tryz.prog W .any base 22 v) (h : DataW.Trod enc Tryz.prog W 0 (fun _ => true) true 22 v d p) :
  ∃ (A1 : Option Addr) (c1 : Nat) (l1 : List Int), v = .slice A1 l1.length c1 ∧ (Kd.C (Kd.int .u8) W A1 l1.length l1 ∧ l1.length ≤ c1 ∧ c1 ≤ maxLen ∧ (∀ y ∈ l1, (Lit.int .u8 y).wf = true)) := by
 obtain ⟨a_, len_, cap_, rfl⟩ := okWide_slice Tryz.underlying22 hv
 obtain ⟨fuel, hf⟩ := h
 have hf : DataW.trod enc Tryz.prog W 0 (fun _ => true) true fuel 22 [.slice a_ len_ cap_] = some (d, p) := hf
 generalize Value.slice a_ len_ cap_ = c_0 at hf
 obtain ⟨A1, c1, l1, rfl, w1⟩ : ∃ A c l, c_0 = .slice A l.length c ∧ Kd.C (Kd.int .u8) W A l.length l ∧ l.length ≤ c ∧ c ≤ maxLen ∧ (∀ y ∈ l, (Lit.int .u8 y).wf = true) := by
  rcases open_slice Tryz.underlying22 hf with ⟨hcs, _⟩ | ⟨ad, len, cap, m, n_, D_, Pl_, hcs, _, hlc, hcm, hm, _, hel⟩
  ·exact ⟨none, 0, [], by simpa using hcs, ⟨rfl, by simp, fun hp => absurd hp zO5_3⟩, by simp, by unfold maxLen; omega, by simp⟩
  ·have hlen : len ≤ 9223372036854775807 := by unfold maxLen at hcm; omega
   have each_ : ∀ i, i < len → ∃ (y : Int) (c : List Value), ((Lit.int .u8 y).wf = true) ∧ c.length = ((Kd.int .u8) : Kd _).sz ∧ ((Kd.int .u8) : Kd _).K W y c ∧ ∀ j u, c[j]? = some u → W.cell? (ad.add (i * ((Kd.int .u8) : Kd _).sz + j)) = some u := by
    intro i hi
    obtain ⟨cs_, hc_, ht_⟩ := hel i (by simp only [if_true] at hm; omega)
    rw [cof5] at hc_
    obtain ⟨hb_, hn_, hat_⟩ := World.cells?_some hc_
    obtain ⟨u5, rfl⟩ : ∃ u5, cs_ = [u5] := by match cs_, hn_ with | [u5], _ => exact ⟨u5, rfl⟩
    obtain ⟨a1e0, e6, _, w1e0⟩ := DataW.trod_int Tryz.underlying5 ht_
    obtain rfl : u5 = _ := by simpa using e6
    refine ⟨a1e0, [.int .u8 a1e0], w1e0, rfl, rfl, fun j u hu => ?_⟩
    have hj : j < 1 := by have := (List.getElem?_eq_some_iff.1 hu).1; simpa using this
    have h1_ := hat_ j hj
    have hs_ : ((Kd.int .u8) : Kd _).sz = 1 := rfl
    rw [hs_, ← Go.Deep.add_add, h1_]; exact hu
   obtain ⟨xs_, hx_, hC_, hP_⟩ := C_each (Kd.int .u8) W ad len hlen (fun y => (Lit.int .u8 y).wf = true) each_
   exact ⟨some ad, cap, xs_, by rw [hx_]; simpa using hcs, by rw [hx_]; exact hC_, by omega, hcm, hP_⟩
 exact ⟨_, _, _, rfl, w1⟩
/-- The builder, with the world's shape. -/
theorem of_change_shaped {H : Type} {enc : TypeId × Value → H} {a : Assume} {C : Checked} {os : Os} {f : FuncId} {fn : Func} {s : ChangeSpec} {conds : List PathCond} {apart fresh handsOn again : Bool} {X : World → Array Value → Prop}
  (hX : ∀ (w w' : World) (args : Array Value), w.heap = w'.heap → X w args → X w' args)
  (own : ownKnob C.prog.godebug = none) (started : os.Started) (noInit : C.prog.inits.idxOf? f = none) (hfn : C.prog.funcs[f]? = some fn)
  (witness : ∃ (w : World) (tape : Tape) (i : Input), w.os = os ∧ (w.forCall tape i).Shaped C.prog ∧ i.vars = [] ∧ Input.okWide C.prog (w.forCall tape i) .any w.heap.size f i ∧
   ((s.pre enc C.prog fn conds apart (w.forCall tape i).memory i.args ∧ X (w.forCall tape i).memory i.args) ∧ sizedMet enc C.prog fn (OpenSpec.ofChange s) apart (w.forCall tape i).memory i.args) ∧ a.holds C.prog (lone (Frame.enter C.prog f i.args .normal) [] (w.forCall tape i)))
  (contract : ∀ (W : World) (base : Nat) (args : Array Value) (ds gs : List (DataW H)) (before : List MemPlace),
   (∀ (j : Nat) t v, fn.params[j]? = some t → args[j]? = some v → Value.okWide C.prog W .any base t v) →
   DataW.Whole enc C.prog fn.params.toList s.vars apart W args.toList ds gs before →
   conds.all (PathCond.test C.prog ⟨fn.params.toList, ds, s.plain.varTypes C.prog, gs⟩) = true →
   (DataW.weightsEach C.prog (fn.params.toList ++ s.plain.varTypes C.prog) (ds ++ gs)).all (· ≤ reachBytes) = true → X W args → W.ShapedOpen C.prog →
   Calls C.prog f args W fun e W' => ∃ v, e = .returned v ∧ s.post enc C.prog fn apart fresh handsOn again W args v W') :
  ReturnsInHanded a C os f .any (fun w args => (s.pre enc C.prog fn conds apart w args ∧ X w args) ∧ sizedMet enc C.prog fn (OpenSpec.ofChange s) apart w args) (s.post enc C.prog fn apart fresh handsOn again) := by
 refine returnsInHanded_of_calls own started noInit witness ?_
 intro w tape i _ hsh _ hok hpre _
 obtain ⟨_, _, _, fn', hfn', _, _, _, _, hval⟩ := hok
 have e : fn' = fn := Option.some.inj (hfn'.symm.trans hfn)
 subst e
 obtain ⟨⟨⟨ds, gs, before, hw, hc⟩, hx⟩, hz⟩ := hpre
 have hw' := DataW.Whole.of_heap (w' := w.forCall tape i) (by rfl) hw
 refine (contract (w.forCall tape i) w.heap.size i.args ds gs before hval hw' hc (hz.weights hw) (hX _ _ _ (by rfl) hx) hsh).mono fun e W' ⟨v, he, hp⟩ => ?_
 subst he
 exact ChangeSpec.post_blind hp
set_option maxRecDepth 100000 in
theorem door_met (os : Os) (args : Array Value) : laidMet Tryz.prog Rows.fnIslandsMeasuredRow.laid ((World.doorLaid Tryz.prog 400 os).forCall (fun _ _ => 0) ⟨#[], args, []⟩).memory :=
 laidMet_of_run' 8 (by kernel_rfl) (by kernel_rfl)
theorem laidP {W : World} (h : laidMet Tryz.prog Rows.fnIslandsMeasuredRow.laid W) : P.LaidP W :=
 Lib.tabIs_of_head (g := 3) (t := 112) (e := 64) (n := 20) (by kernel_rfl) (by kernel_rfl) Tryz.underlying112 Tryz.underlying64 (by kernel_rfl) (by kernel_rfl) (laidMet.tail (laidMet.tail h))
theorem star : "*" ++ "errors.errorString" = "*errors.errorString" := by decide
theorem rowE (u : TypeId) (h : Tryz.prog.typeName? 3 u = some "*errors.errorString") : u = 118 :=
 typeName_ptr_named (nm := "errors.errorString") (by rw [star]; kernel_rfl) (by kernel_rfl) (by decide) u (by rw [star]; exact h)
theorem laidQ {W : World} (h : laidMet Tryz.prog Rows.fnIslandsMeasuredRow.laid W) (hs : W.ShapedOpen Tryz.prog) : P.LaidQ W := by
 refine ⟨laidP h, ?_, ?_, ?_⟩
 ·have e : Tryz.prog.globalNamed "internal/bytealg.MaxLen" = some 0 := by kernel_rfl
  rw [e]
  exact Go.Proofs.cell_of_shapedOpen_int (zero := #[.int .i64 0]) (t := 3) (g := 0) hs (of_decide_eq_true (by kernel_rfl)) (by kernel_rfl) rfl (by kernel_rfl) (by kernel_rfl) Tryz.underlying3
 ·obtain ⟨a, x, hv, _⟩ := laid_sentinel (g := 1) (ti := 77) (tp := 118) (te := 120) (ts := 9) (laidMet.tail (laidMet.tail (laidMet.tail (laidMet.tail h)))) (by kernel_rfl) (by kernel_rfl) Tryz.underlying77 rowE Tryz.underlying118 Tryz.underlying120 rfl rfl Tryz.underlying9 (by kernel_rfl) (by kernel_rfl)
  exact ⟨_, _, hv⟩
 ·obtain ⟨a, x, hv, _⟩ := laid_sentinel (g := 2) (ti := 77) (tp := 118) (te := 120) (ts := 9) (laidMet.tail (laidMet.tail (laidMet.tail h))) (by kernel_rfl) (by kernel_rfl) Tryz.underlying77 rowE Tryz.underlying118 Tryz.underlying120 rfl rfl Tryz.underlying9 (by kernel_rfl) (by kernel_rfl)
  exact ⟨_, _, hv⟩
set_option maxRecDepth 100000 in
theorem lifted (os : Os) (started : os.Started) (H : Type) (enc : TypeId × Value → H) :
  ReturnsInHanded {} Tryz.checked os 3 .any (fun w args => (Rows.fnIslandsMeasuredSpec.pre enc Tryz.prog Tryz.f3 Rows.fnIslandsMeasuredRow.domain false w args ∧ laidMet Tryz.prog Rows.fnIslandsMeasuredRow.laid w) ∧ sizedMet enc Tryz.prog Tryz.f3 (OpenSpec.ofChange Rows.fnIslandsMeasuredSpec) false w args) (Rows.fnIslandsMeasuredSpec.post enc Tryz.prog Tryz.f3 false true false false) := by
 refine of_change_shaped (C := Tryz.checked) (X := fun w _ => laidMet Tryz.prog Rows.fnIslandsMeasuredRow.laid w) (fun _ _ _ hh h => h.of_heap hh) own started (by kernel_rfl) Tryz.func3
  (ChangeSpec.witness_shaped (enc := enc) (C := Tryz.checked) (os := os) (X := fun w _ => laidMet Tryz.prog Rows.fnIslandsMeasuredRow.laid w) false (World.doorLaid Tryz.prog 400 os) #[.slice none 0 0, .slice none 0 0] 8 rfl (World.shaped_of_RefB (by kernel_rfl) (by kernel_rfl)) (by kernel_rfl) (by kernel_rfl) (by kernel_rfl) (door_met os _)) ?_
 intro W base args ds gs before hval0 hW hcnd hsz0 hL hshaped
 have hLP := laidQ hL hshaped
 have hsz : (DataW.weightsEach Tryz.prog (Tryz.f3.params.toList ++ Rows.fnIslandsMeasuredSpec.plain.varTypes Tryz.prog) (ds ++ gs)).all (· ≤ reachBytes) = true := hsz0
 have hval : ∀ (j : Nat) t v, Tryz.f3.params[j]? = some t → args[j]? = some v → Value.okWide Tryz.prog W .any base t v := hval0
 have hW' := hW
 obtain ⟨p, q, hA0, hV, rfl, hfz, hnd⟩ := hW
 have hA : DataW.TrodAll enc Tryz.prog W 0 (fun _ => true) true Tryz.f3.params.toList args.toList ds p := hA0
 rw [Tryz.params3] at hA hval hsz
 obtain ⟨v0, vs0, d0, ds0, p0, q0, hargs, rfl, rfl, h0, r0⟩ := trodAll_cons hA
 obtain ⟨v1, vs1, d1, ds1, p1, q1, rfl, rfl, rfl, h1, r1⟩ := trodAll_cons r0
 obtain ⟨rfl, rfl, rfl⟩ := trodAll_nil r1
 obtain rfl : args = #[v0, v1] := by cases args; simp_all
 obtain ⟨rfl, rfl⟩ := trodVars_none hV
 have k0 := h0
 have lt0 : ∀ x ∈ p0, x.block < W.heap.size := by obtain ⟨m, hm⟩ := k0; exact DataW.trod_lt m _ _ _ hm
 obtain ⟨A0, c0, l0, rfl, ⟨hr0, hc0, hm0, w0⟩⟩ := open0 (hval 0 22 v0 rfl rfl) h0
 have k1 := h1
 have lt1 : ∀ x ∈ p1, x.block < W.heap.size := by obtain ⟨m, hm⟩ := k1; exact DataW.trod_lt m _ _ _ hm
 obtain ⟨A1, c1, l1, rfl, ⟨hr1, hc1, hm1, w1⟩⟩ := open1 (hval 1 22 v1 rfl rfl) h1
 clear hA0 hval0 hsz0 hsz
 obtain ⟨kk, hk⟩ := Pure.FnIslandsMeasured l0 l1 (Nat.le_trans hc0 hm0) w0 (Nat.le_trans hc1 hm1) w1
 refine (P.laws_FnIslandsMeasured.calls kk _ _ l0 _ _ l1 true W hLP hr0 hc0 hr1 hc1 hk rfl).mono fun e W' ⟨he, bel0⟩ => ?_
 have bel : Below W.heap.size W W' := bel0
 subst he
 exact ⟨_, rfl, _, _, _, [], _, [], hW', trodAll_mk1 (shut_bool Tryz.underlying4 _), (trodAll_cons_mk (Below.trod laidOut (by kernel_rfl) (of_decide_eq_true (by kernel_rfl)) k0 bel lt0) (trodAll_cons_mk (Below.trod laidOut (by kernel_rfl) (of_decide_eq_true (by kernel_rfl)) k1 bel lt1) trodAll_mk0)), rfl, bel.frame _, fun h => by cases h⟩
theorem over : Rows.fnIslandsMeasuredRow.holds Tryz.pinned (OpenSpec.ofChange Rows.fnIslandsMeasuredSpec) :=
 OpenClaim.holds_of_wide 3 Tryz.f3 rfl rfl rfl rfl rfl rfl rfl ⟨rfl, rfl, rfl, rfl, rfl⟩ rfl rfl rfl rfl rfl (by kernel_rfl) Tryz.func3 (by kernel_rfl)
  (of_decide_eq_true (by kernel_rfl)) (by unfold Func.isWrapper; first | (rw [if_pos (by decide +kernel)]; kernel_rfl) | (rw [if_neg (by decide +kernel)]; exact ⟨rfl, rfl⟩))
  (fun os started H enc _ => lifted os started H enc)
theorem proved : Rows.FnIslandsMeasuredSaid := over
theorem card : Rows.FnIslandsMeasuredCardSaid :=
 Claim7.holds_tied_plain_at .later [] [.data, .data, .data, .sentinel, .sentinel] true (true, "27620de9e49c5fc177c2ced5c496be697cbfa95f2629b649105afdc75dc18588") true
  proved (fun _ h => by cases h) (by kernel_rfl) (fun _ h => by cases h) fnIslandsMeasured_row_tie rfl ⟨rfl, rfl⟩ (by kernel_rfl) rfl
  (fun f fn hf hfn => by
   obtain rfl : f = 3 := Option.some.inj ((show Tryz.prog.funcNamed "loop.example/g01351/laws.FnIslandsMeasured" = some 3 by kernel_rfl).symm.trans hf) |>.symm
   obtain rfl : fn = Tryz.f3 := (Option.some.inj (Tryz.func3.symm.trans hfn)).symm
   exact ⟨by kernel_rfl, fun j t ht => by
    rw [Tryz.params3] at ht
    have hm : t ∈ [22, 22] := by simpa using Array.mem_of_getElem? ht
    have hall : ([22, 22].all fun u => !Tryz.prog.wantsStandIn u) = true := by kernel_rfl
    exact (show Tryz.prog.wantsStandIn t = false by simpa using List.all_eq_true.1 hall t hm)⟩)
  (by kernel_rfl)
#print axioms card
end Go.Proofs.YtakodhlaphloeaaGreatDoor.fnIslandsMeasured
namespace Go.Proofs.YtakodhlaphloeaaGreatDoor
/-- The row, under a short name, for the claim. -/
theorem fnIslandsMeasured_holds : Rows.FnIslandsMeasuredCardSaid := fnIslandsMeasured.card
end Go.Proofs.YtakodhlaphloeaaGreatDoor
