/- The law FnLaddersHiddenOfAll is proved: a call of it returns true and leaves its arguments as they were; and what this needs. Every input that the given rows speak of; nothing else is asked. -/
import Derived.Test.YthioojdannlhiaaOFnLaddersHiddenOfAll0
import Derived.Test.YthioojdannlhiaaOFnLaddersHiddenOfAll1
import Derived.Test.YthioojdannlhiaaOFnLaddersHiddenOfAll2
import Derived.Test.YthioojdannlhiaaOFnLaddersHiddenOfAll3
import Derived.Test.YthioojdannlhiaaRows
import Derived.WalkKit
import Derived.ProofKit
import Derived.OpenShut
import Derived.ShutString
import Derived.ChangeOld
import Derived.Below
import Derived.SizedLaws
import Derived.Deep.Slices
import Derived.Deep.Fields
import Derived.ChangeSame
import Derived.Lib.SmallJoins
import Derived.Test.YthioojdannlhiaaOW
namespace Go.Proofs.Ythioojdannlhiaa.P
open Go.RowKit Go.Proofs.YthioojdannlhiaaW.PrintWords Go.Proofs.YthioojdannlhiaaW.PrintLast Go.Proofs.YthioojdannlhiaaW.PrintMore
set_option linter.unusedVariables false
theorem zO4_0 {p : Prop} (h : p := by (try simp only [List.map_toArray, List.map_cons, List.map_nil]); first | done | rfl | (simp only [List.length_drop, List.length_take]; rfl)) : p := h
theorem zO4_1 {p : Prop} (h : p := by rw [List.length_append]; simp only [List.length_cons, List.length_nil]; omega) : p := h
theorem zO4_2 {p : Prop} (h : p := by omega) : p := h
theorem zO4_3 {p : Prop} (h : p := by simp) : p := h
end Go.Proofs.Ythioojdannlhiaa.P
namespace Go.Proofs.Ythioojdannlhiaa.P
open Go.RowKit Go.Proofs.YthioojdannlhiaaW.PrintWords Go.Proofs.YthioojdannlhiaaW.PrintLast Go.Proofs.YthioojdannlhiaaW.PrintMore
set_option linter.unusedVariables false
set_option linter.unusedSimpArgs false
theorem wid {x : Int} (h0 : -9223372036854775808 ≤ x) (h1 : x ≤ 9223372036854775807) : wrap64 x = x := by unfold wrap64; omega
/-- lo ≤ n ≤ hi, as a Bool. -/
def inr (lo hi n : Int) : Bool := decide (lo ≤ n) && decide (n ≤ hi)
theorem inr_iff {lo hi n : Int} : inr lo hi n = true ↔ lo ≤ n ∧ n ≤ hi := by unfold inr; simp
theorem mul_bd {a b A B : Int} (h0 : 0 ≤ a) (h1 : a ≤ A) (h2 : 0 ≤ b) (h3 : b ≤ B) : 0 ≤ a * b ∧ a * b ≤ A * B :=
 ⟨Int.mul_nonneg h0 h2, Int.mul_le_mul h1 h3 h2 zO4_2⟩
theorem ev_eq {α : Type} {g : Nat → Option α} {r s : α} (h : Ev g r) (e : r = s) : Ev g s := e ▸ h
/-- A row of rounds that doesn't hang on the rounds. -/
theorem Ev.const {α : Type} {g : Option α} {r : α} (h : g = some r) : Ev (fun _ => g) r := ⟨0, fun _ _ => h⟩
theorem all1 {p : Int → Bool} {a : Int} : [a].all p = p a := by simp
theorem rd_cons0 (x : Int) (l : List Int) : rd (x :: l) 0 = x := rfl
theorem Ev.succ {α : Type} {g : Nat → Option α} {r : α} (h : Ev (fun k => g (k + 1)) r) : Ev g r := Ev.step (fun _ => rfl) h
theorem Ev.ite {α : Type} {c : Prop} [Decidable c] {g f : Nat → Option α} {r s : α} (h1 : c → Ev g r) (h2 : ¬ c → Ev f s) : Ev (fun k => if c then g k else f k) (if c then r else s) := by
 by_cases h : c
 ·simp only [if_pos h]; exact h1 h
 ·simp only [if_neg h]; exact h2 h
theorem Ev.bindc {α β : Type} {g : Option α} {f : Nat → α → Option β} {a : α} {r : β} (h : g = some a) (k : Ev (fun n => f n a) r) : Ev (fun n => g.bind (f n)) r := by
 subst h; exact k
theorem laws_jPuzzle.ev_l (a b : Int) (l : List S43) (hl : l.length ≤ 4611686018427387904) (d : Nat) : ∀ i : Nat, i + d = l.length → Ev (fun k => laws_jPuzzle.l0 k (l.length : Int) (i : Int) a l b l) true := by
 induction d with
 | zero =>
  intro i hi
  refine Ev.succ ?_
  simp only [laws_jPuzzle.l0, show ¬ ((i : Int) < (l.length : Int)) by omega, if_false]
  exact Ev.now _
 | succ d ih =>
  intro i hi
  refine Ev.succ ?_
  simp only [laws_jPuzzle.l0, show ((i : Int) < (l.length : Int)) by omega, show (0 : Int) ≤ (i : Int) by omega, if_true, beq_self_eq_true, Bool.not_true, Bool.or_self, Bool.false_eq_true, if_false, wid (show -9223372036854775808 ≤ (i : Int) + 1 by omega) zO4_2]
  exact ih (i + 1) zO4_2
theorem laws_jPuzzle.refl {a : Int} {l : List S43} (hl : l.length ≤ 4611686018427387904) : Ev (fun k => laws_jPuzzle.f k a l a l) true := by
 unfold laws_jPuzzle.f
 simp only [if_true, bne_self_eq_false]
 refine Ev.succ ?_
 simp only [laws_jPuzzle.j0, Bool.false_eq_true, if_false]
 exact laws_jPuzzle.ev_l a a l hl l.length 0 zO4_2
theorem laws_jLadders.ev_l (l : List S41) (hl : l.length ≤ 4611686018427387904) (d : Nat) : ∀ i : Nat, i + d = l.length → Ev (fun k => laws_jLadders.l0 k l l (l.length : Int) (i : Int)) true := by
 induction d with
 | zero =>
  intro i hi
  refine Ev.succ ?_
  simp only [laws_jLadders.l0, show ¬ ((i : Int) < (l.length : Int)) by omega, if_false]
  exact Ev.now _
 | succ d ih =>
  intro i hi
  refine Ev.succ ?_
  simp only [laws_jLadders.l0, show ((i : Int) < (l.length : Int)) by omega, show (0 : Int) ≤ (i : Int) by omega, if_true, beq_self_eq_true, Bool.not_true, Bool.or_self, Bool.false_eq_true, if_false, wid (show -9223372036854775808 ≤ (i : Int) + 1 by omega) zO4_2]
  exact ih (i + 1) zO4_2
theorem laws_jLadders.refl {l : List S41} (hl : l.length ≤ 4611686018427387904) : Ev (fun k => laws_jLadders.f k l l) true := by
 unfold laws_jLadders.f
 simp only [if_true]
 exact laws_jLadders.ev_l l hl l.length 0 zO4_2
theorem spec_l1In.eq (a lo hi : Int) : spec_l1In.f a lo hi = some (inr lo hi a) := by
 unfold spec_l1In.f inr
 by_cases h : a ≥ lo
 ·rw [if_pos h]; simp [show lo ≤ a from h]
 ·rw [if_neg h]; simp [show ¬ lo ≤ a from h]
theorem impl_within.eq (a lo hi : Int) : impl_within.f a lo hi = some (inr lo hi a) := by
 unfold impl_within.f inr
 by_cases h : a ≥ lo
 ·rw [if_pos h]; simp [show lo ≤ a from h]
 ·rw [if_neg h]; simp [show ¬ lo ≤ a from h]
def mClue (k a b : Int) : Bool := inr 0 200 a && (inr 0 200 b && (((k == 0 || k == 5) && a == 0) || ((k == 1) && (a == 0 && decide (b ≤ 1))) || ((k == 2 || k == 4) && decide (1 ≤ b)) || ((k == 3) && (decide (a ≤ 1) && decide (b ≤ 1)))))
theorem spec_pzClue.ev (k a b : Int) : Ev (fun n => spec_pzClue.f n k a b) (mClue k a b) := by
 refine ⟨4, fun n hn => ?_⟩
 obtain ⟨n, rfl⟩ : ∃ m, n = m + 4 := ⟨n - 4, by omega⟩
 dsimp only
 unfold spec_pzClue.f mClue
 rw [spec_l1In.eq, spec_l1In.eq]
 simp only [Option.bind_some]
 cases inr 0 200 a <;> cases inr 0 200 b <;> simp only [spec_pzClue.j0, spec_pzClue.j1, spec_pzClue.j2, if_true, if_false, Bool.false_eq_true, Bool.not_true, Bool.not_false, Bool.false_and, Bool.true_and]
 by_cases h0 : k = 0
 ·subst h0; simp
 by_cases h1 : k = 1
 ·subst h1; simp; by_cases ha : a = 0 <;> simp [ha] <;> omega
 by_cases h2 : k = 2
 ·subst h2; simp; omega
 by_cases h3 : k = 3
 ·subst h3; simp; by_cases ha : a ≤ 1 <;> simp [ha, show (a < 2) = (a ≤ 1) by apply propext; omega] <;> omega
 by_cases h4 : k = 4
 ·subst h4; simp; omega
 by_cases h5 : k = 5
 ·subst h5; simp
 simp [h0, h1, h2, h3, h4, h5]
theorem impl_isClue.ev (k a b : Int) : Ev (fun n => impl_isClue.f n k a b) (mClue k a b) := by
 refine ⟨4, fun n hn => ?_⟩
 obtain ⟨n, rfl⟩ : ∃ m, n = m + 4 := ⟨n - 4, by omega⟩
 dsimp only
 unfold impl_isClue.f mClue
 rw [impl_within.eq, impl_within.eq]
 simp only [Option.bind_some]
 cases inr 0 200 a <;> cases inr 0 200 b <;> simp only [impl_isClue.j0, impl_isClue.j1, impl_isClue.j2, if_true, if_false, Bool.false_eq_true, Bool.not_true, Bool.not_false, Bool.false_and, Bool.true_and]
 by_cases h0 : k = 0
 ·subst h0; simp
 by_cases h1 : k = 1
 ·subst h1; simp; by_cases ha : a = 0 <;> simp [ha]
 by_cases h2 : k = 2
 ·subst h2; simp
 by_cases h3 : k = 3
 ·subst h3; simp; by_cases ha : a ≤ 1 <;> simp [ha]
 by_cases h4 : k = 4
 ·subst h4; simp
 by_cases h5 : k = 5
 ·subst h5; simp
 simp [h0, h1, h2, h3, h4, h5]
def mClueS (c : S43) : Bool := mClue c.f0 c.f1 c.f2
def mPuzzle (w : Int) (l : List S43) : Bool := inr 1 12 w && (decide (l.length ≤ 6) && l.all mClueS)
theorem spec_pzGood.ev_l (l : List S43) (hl : l.length ≤ 6) (d : Nat) : ∀ i : Nat, i + d = l.length → Ev (fun k => spec_pzGood.l0 k l (l.length : Int) (i : Int)) ((l.drop i).all mClueS) := by
 induction d with
 | zero =>
  intro i hi
  refine Ev.succ ?_
  simp only [spec_pzGood.l0, show ¬ ((i : Int) < (l.length : Int)) by omega, if_false]
  exact Ev.const (by rw [show i = l.length by omega, List.drop_length]; rfl)
 | succ d ih =>
  intro i hi
  have hlt : i < l.length := by omega
  have e : rd_T43 l (i : Int) = l[i] := by simp [rd_T43, List.getD_eq_getElem?_getD, List.getElem?_eq_getElem hlt]
  refine Ev.succ ?_
  simp only [spec_pzGood.l0, show ((i : Int) < (l.length : Int)) by omega, show (0 : Int) ≤ (i : Int) by omega, if_true, e]
  rw [wid (show -9223372036854775808 ≤ (i : Int) + 1 by omega) zO4_2, List.drop_eq_getElem_cons hlt, List.all_cons]
  refine Ev.bind (spec_pzClue.ev _ _ _) ?_
  show Ev _ (mClue l[i].f0 l[i].f1 l[i].f2 && _)
  by_cases h : mClue l[i].f0 l[i].f1 l[i].f2 = true
  ·simp only [if_pos h, h, Bool.true_and]; exact ih (i + 1) zO4_2
  ·simp only [if_neg h]; exact Ev.const (by simp [h])
theorem spec_pzGood.ev (w : Int) (l : List S43) : Ev (fun k => spec_pzGood.f k w l) (mPuzzle w l) := by
 unfold spec_pzGood.f spec_pzWide.f mPuzzle
 rw [spec_l1In.eq]
 simp only [Option.bind_some]
 by_cases h : inr 1 12 w = true
 ·simp only [if_pos h, h, Bool.true_and]
  refine Ev.succ ?_
  simp only [spec_pzGood.j0, decide_eq_true_eq]
  by_cases hl : l.length ≤ 6
  ·simp only [show ¬ ((l.length : Int) > 6) by omega, if_false, hl, decide_true, Bool.true_and]
   exact spec_pzGood.ev_l l hl l.length 0 zO4_2
  ·simp only [show ((l.length : Int) > 6) by omega, if_true, hl, decide_false, Bool.false_and]; exact Ev.now _
 ·simp only [if_neg h]
  refine Ev.succ ?_
  simp only [spec_pzGood.j0, if_true]
  exact Ev.const (by simp [h])
theorem cAny_ev {p : Nat → S43 → Option Bool} {q : S43 → Bool} : ∀ (l : List S43), (∀ x ∈ l, Ev (fun k => p k x) (q x)) → Ev (fun k => cAny (p k) l) (l.any q)
 | [], _ => Ev.now _
 | x :: l, h => by
  simp only [cAny, List.any_cons]
  refine Ev.bind (h x List.mem_cons_self) ?_
  by_cases hq : q x = true
  ·simp only [if_pos hq, hq, Bool.true_or]; exact Ev.now _
  ·simp only [if_neg hq, hq, Bool.false_or]; exact cAny_ev l (fun y hy => h y (List.mem_cons_of_mem _ hy))
theorem impl_IsPuzzle.ev (w : Int) (l : List S43) : Ev (fun k => impl_IsPuzzle.f k w l) (mPuzzle w l) := by
 unfold impl_IsPuzzle.f impl_isSmall.f mPuzzle
 rw [impl_within.eq]
 simp only [Option.bind_some]
 by_cases h : inr 1 12 w = true
 ·simp only [if_pos h, h, Bool.true_and]
  by_cases hl : l.length ≤ 6
  ·simp only [show ((l.length : Int) ≤ 6) by omega, if_true, hl, decide_true, Bool.true_and]
   refine Ev.bind (a := l.any fun x => !mClueS x) ?_ ?_
   ·unfold anyIsPuzzle.f
    refine cAny_ev l (fun x _ => ?_)
    unfold impl_IsPuzzle_1.f
    exact Ev.bind (impl_isClue.ev _ _ _) (Ev.now _)
   ·refine Ev.const ?_
    rw [List.not_any_eq_all_not]; simp
  ·simp only [show ¬ ((l.length : Int) ≤ 6) by omega, if_false, hl, decide_false, Bool.false_and]; exact Ev.now _
 ·simp only [if_neg h]; exact Ev.const (by simp [h])
def mHidden (a b c : Int) : Bool := inr 1 12 a && (inr 1 12 b && inr 1 12 c)
theorem mHidden_iff {a b c : Int} : mHidden a b c = true ↔ (1 ≤ a ∧ a ≤ 12) ∧ (1 ≤ b ∧ b ≤ 12) ∧ (1 ≤ c ∧ c ≤ 12) := by
 unfold mHidden; simp only [Bool.and_eq_true, inr_iff]
theorem impl_areHidden.eq (a b c : Int) : impl_areHidden.f a b c = some (mHidden a b c) := by
 unfold impl_areHidden.f impl_isSmall.f mHidden
 simp only [impl_within.eq, Option.bind_some]
 cases inr 1 12 a <;> cases inr 1 12 b <;> cases inr 1 12 c <;> simp
theorem spec_pzHidden.eq (a b c : Int) : spec_pzHidden.f a b c = some (mHidden a b c) := by
 unfold spec_pzHidden.f spec_pzWide.f mHidden
 simp only [spec_l1In.eq, Option.bind_some]
 cases inr 1 12 a <;> cases inr 1 12 b <;> cases inr 1 12 c <;> simp
theorem gcd_tmod (a b : Int) : Int.gcd b (Int.tmod a b) = Int.gcd a b := by
 rw [Int.gcd_eq_natAbs_gcd_natAbs, Int.gcd_eq_natAbs_gcd_natAbs, Int.natAbs_tmod, Nat.gcd_comm, Nat.gcd_comm a.natAbs]
 exact (Nat.gcd_rec _ _).symm
theorem impl_gcd.ev_l (n : Nat) : ∀ a b : Int, b.natAbs ≤ n → -9223372036854775807 ≤ a → a ≤ 9223372036854775807 → -9223372036854775807 ≤ b → b ≤ 9223372036854775807 → Ev (fun k => impl_gcd.l0 k a b) (Int.gcd a b : Int) := by
 induction n using Nat.strongRecOn with
 | ind n ih =>
  intro a b hn ha0 ha1 hb0 hb1
  by_cases hb : b = 0
  ·subst hb
   refine Ev.step (f := fun _ => some (mx a (wrap64 (-a)))) (fun k => by simp only [impl_gcd.l0, if_true]) ?_
   refine Ev.const ?_
   rw [wid zO4_2 zO4_2, Int.gcd_zero_right]
   congr 1
   unfold mx; split <;> omega
  ·refine Ev.step (f := fun k => impl_gcd.l0 k b (Int.tmod a b)) (fun k => by simp only [impl_gcd.l0]; rw [if_neg hb]) ?_
   have h1 : (Int.tmod a b).natAbs < b.natAbs := by rw [Int.natAbs_tmod]; exact Nat.mod_lt _ zO4_2
   exact ev_eq (ih (Int.tmod a b).natAbs zO4_2 b (Int.tmod a b) (Nat.le_refl _) hb0 hb1 zO4_2 zO4_2) (by rw [gcd_tmod])
theorem impl_gcd.ev {a b : Int} (ha0 : -9223372036854775807 ≤ a) (ha1 : a ≤ 9223372036854775807) (hb0 : -9223372036854775807 ≤ b) (hb1 : b ≤ 9223372036854775807) : Ev (fun k => impl_gcd.f k a b) (Int.gcd a b : Int) := by
 unfold impl_gcd.f; exact impl_gcd.ev_l _ a b (Nat.le_refl _) ha0 ha1 hb0 hb1
/-- The fraction in lowest terms. -/
def loA (a b : Int) : Int := a / (Int.gcd a b : Int)
def loB (a b : Int) : Int := b / (Int.gcd a b : Int)
theorem gcd_pos {a b : Int} (hb : 0 < b) : (0 : Int) < (Int.gcd a b : Int) := by
 have : 0 < Int.gcd a b := Int.gcd_pos_of_ne_zero_right _ zO4_2
 omega
theorem lo_mulA {a b : Int} : loA a b * (Int.gcd a b : Int) = a := Int.ediv_mul_cancel (Int.gcd_dvd_left ..)
theorem lo_mulB {a b : Int} : loB a b * (Int.gcd a b : Int) = b := Int.ediv_mul_cancel (Int.gcd_dvd_right ..)
theorem loA_bd {a b : Int} (hb : 0 < b) : (loA a b).natAbs ≤ a.natAbs := by
 unfold loA
 rw [Int.natAbs_ediv_of_dvd (Int.gcd_dvd_left ..)]
 exact Nat.div_le_self _ _
theorem loB_pos {a b : Int} (hb : 0 < b) : 0 < loB a b ∧ loB a b ≤ b := by
 have g := gcd_pos (a := a) hb
 have e := lo_mulB (a := a) (b := b)
 have h0 : 0 < loB a b := by
  rcases Int.lt_or_le 0 (loB a b) with h | h
  ·exact h
  ·have := Int.mul_nonneg (show 0 ≤ -(loB a b) by omega) (show 0 ≤ (Int.gcd a b : Int) by omega)
   rw [Int.neg_mul, e] at this
   omega
 refine ⟨h0, ?_⟩
 have : loB a b * 1 ≤ loB a b * (Int.gcd a b : Int) := Int.mul_le_mul_of_nonneg_left zO4_2 zO4_2
 rw [e] at this
 omega
theorem loA_nonneg {a b : Int} (ha : 0 ≤ a) (hb : 0 < b) : 0 ≤ loA a b ∧ loA a b ≤ a := by
 have g := gcd_pos (a := a) hb
 refine ⟨Int.ediv_nonneg ha zO4_2, ?_⟩
 have := loA_bd (a := a) hb
 have h0 : 0 ≤ loA a b := Int.ediv_nonneg ha zO4_2
 omega
theorem tdiv_gcd_l {a b : Int} : Int.tdiv a (Int.gcd a b : Int) = loA a b := Int.tdiv_eq_ediv_of_dvd (Int.gcd_dvd_left ..)
theorem tdiv_gcd_r {a b : Int} : Int.tdiv b (Int.gcd a b : Int) = loB a b := Int.tdiv_eq_ediv_of_dvd (Int.gcd_dvd_right ..)
theorem impl_fraction.ev {a b : Int} (ha0 : -9223372036854775807 ≤ a) (ha1 : a ≤ 9223372036854775807) (hb0 : 0 < b) (hb1 : b ≤ 9223372036854775807) : Ev (fun k => impl_fraction.f k a b) (loA a b, loB a b, true) := by
 unfold impl_fraction.f
 refine Ev.bind (impl_gcd.ev ha0 ha1 zO4_2 hb1) ?_
 have g := gcd_pos (a := a) hb0
 have h1 := loA_bd (a := a) hb0
 have h2 := loB_pos (a := a) hb0
 refine Ev.const ?_
 rw [if_neg zO4_2, tdiv_gcd_l, tdiv_gcd_r, wid zO4_2 zO4_2, wid zO4_2 zO4_2]
theorem spec_clLow.ev_l (x y : Int) (hx0 : 0 ≤ x) (hx1 : x ≤ 9223372036854775807) (hy0 : 0 < y) (hy1 : y ≤ 9223372036854775807) (n : Nat) : ∀ a b : Int, b.natAbs ≤ n → 0 ≤ a → 0 ≤ b → (0 < a ∨ 0 < b) → Int.gcd a b = Int.gcd x y → Ev (fun k => spec_clLow.l0 k x y a b) (loA x y, loB x y) := by
 induction n using Nat.strongRecOn with
 | ind n ih =>
  intro a b hn ha hb hab hg
  by_cases hb' : b = 0
  ·subst hb'
   refine Ev.step (f := fun _ => some (wrap64 (Int.tdiv x a), wrap64 (Int.tdiv y a))) (fun k => by simp only [spec_clLow.l0]; rw [if_neg zO4_2, if_neg zO4_2]) ?_
   refine Ev.const ?_
   have ea : a = (Int.gcd x y : Int) := by rw [← hg, Int.gcd_zero_right]; omega
   have h1 := loA_bd (a := x) hy0
   have h2 := loB_pos (a := x) hy0
   rw [ea, tdiv_gcd_l, tdiv_gcd_r, wid zO4_2 zO4_2, wid zO4_2 zO4_2]
  ·refine Ev.step (f := fun k => spec_clLow.l0 k x y b (Int.tmod a b)) (fun k => by simp only [spec_clLow.l0]; rw [if_pos zO4_2, if_neg hb']) ?_
   have h1 : (Int.tmod a b).natAbs < b.natAbs := by rw [Int.natAbs_tmod]; exact Nat.mod_lt _ zO4_2
   exact ih (Int.tmod a b).natAbs zO4_2 b (Int.tmod a b) (Nat.le_refl _) hb (Int.tmod_nonneg _ ha) (.inl zO4_2) ((gcd_tmod a b).trans hg)
theorem spec_clLow.ev {x y : Int} (hx0 : 0 ≤ x) (hx1 : x ≤ 9223372036854775807) (hy0 : 0 < y) (hy1 : y ≤ 9223372036854775807) : Ev (fun k => spec_clLow.f k x y) (loA x y, loB x y) := by
 unfold spec_clLow.f; exact spec_clLow.ev_l x y hx0 hx1 hy0 hy1 _ x y (Nat.le_refl _) hx0 zO4_2 (.inr hy0) rfl
theorem sq_le {a b : Int} (h0 : 0 ≤ a) (h : a ≤ b) : a * a ≤ b * b := Int.mul_le_mul h h h0 zO4_2
theorem sq_lt {a b : Int} (h0 : 0 ≤ a) (h : a < b) : a * a < b * b := by
 have h1 := Int.mul_le_mul_of_nonneg_right (show a ≤ b by omega) h0
 have h2 := Int.mul_lt_mul_of_pos_left h (show 0 < b by omega)
 omega
/-- The greatest whole number up to n whose square is not greater than x. -/
def flrN : Nat → Int → Int
 | 0, _ => 0
 | n + 1, x => if ((n : Int) + 1) * ((n : Int) + 1) ≤ x then (n : Int) + 1 else flrN n x
def flr (x : Int) : Int := flrN x.toNat x
theorem flrN_spec (x : Int) (hx : 0 ≤ x) : ∀ n : Nat, 0 ≤ flrN n x ∧ flrN n x ≤ n ∧ flrN n x * flrN n x ≤ x ∧ (flrN n x < n → x < (flrN n x + 1) * (flrN n x + 1))
 | 0 => by simp [flrN]; exact hx
 | n + 1 => by
  have ih := flrN_spec x hx n
  unfold flrN
  by_cases h : ((n : Int) + 1) * ((n : Int) + 1) ≤ x
  ·rw [if_pos h]; exact ⟨by omega, by omega, h, fun h => by omega⟩
  ·rw [if_neg h]
   refine ⟨ih.1, by omega, ih.2.2.1, fun _ => ?_⟩
   by_cases h2 : flrN n x < n
   ·exact ih.2.2.2 h2
   ·have h3 : flrN n x = n := by omega
    rw [h3]; omega
theorem flr_spec {x : Int} (hx : 0 ≤ x) : 0 ≤ flr x ∧ flr x * flr x ≤ x ∧ x < (flr x + 1) * (flr x + 1) := by
 have h := flrN_spec x hx x.toNat
 unfold flr
 refine ⟨h.1, h.2.2.1, ?_⟩
 by_cases h2 : flrN x.toNat x < x.toNat
 ·exact h.2.2.2 h2
 ·have h3 : flrN x.toNat x = x := by omega
  rw [h3]
  have : x * 1 ≤ x * (x + 1) := Int.mul_le_mul_of_nonneg_left zO4_2 hx
  have e : (x + 1) * (x + 1) = x * (x + 1) + (x + 1) := by rw [Int.add_mul, Int.one_mul]
  omega
theorem flr_le {x n : Int} (hx : 0 ≤ x) (h0 : 0 ≤ n) (h : n * n ≤ x) : n ≤ flr x := by
 have hs := flr_spec hx
 rcases Int.lt_or_le (flr x) n with h1 | h1
 ·have := sq_le (show 0 ≤ flr x + 1 by omega) (show flr x + 1 ≤ n by omega)
  omega
 ·exact h1
theorem flr_lt {x n : Int} (hx : 0 ≤ x) (h0 : 0 ≤ n) (h : x < n * n) : flr x < n := by
 have hs := flr_spec hx
 rcases Int.lt_or_le (flr x) n with h1 | h1
 ·exact h1
 ·have := sq_le h0 h1
  omega
def mWhole (x : Int) : Bool := flr x * flr x == x
def mCeil (x : Int) : Int := if mWhole x = true then flr x else flr x + 1
theorem mCeil_spec {x : Int} (hx : 0 ≤ x) : 0 ≤ mCeil x ∧ x ≤ mCeil x * mCeil x ∧ (mCeil x * mCeil x == x) = mWhole x := by
 have hs := flr_spec hx
 unfold mCeil
 by_cases h : mWhole x = true
 ·rw [if_pos h]
  have e : flr x * flr x = x := by simpa [mWhole] using h
  exact ⟨hs.1, by omega, by rw [h]; simpa using e⟩
 ·rw [if_neg h]
  refine ⟨by omega, by omega, ?_⟩
  rw [Bool.eq_false_iff.mpr h]
  simp only [beq_eq_false_iff_ne, ne_eq]
  omega
theorem mCeil_le {x n : Int} (hx : 0 ≤ x) (h0 : 0 ≤ n) (h : x ≤ n * n) : mCeil x ≤ n := by
 have hs := flr_spec hx
 unfold mCeil
 by_cases hw : mWhole x = true
 ·rw [if_pos hw]
  have e : flr x * flr x = x := by simpa [mWhole] using hw
  rcases Int.lt_or_le n (flr x) with h1 | h1
  ·have := sq_lt h0 h1; omega
  ·exact h1
 ·rw [if_neg hw]
  have e : flr x * flr x ≠ x := by simpa [mWhole] using hw
  rcases Int.lt_or_le (flr x) n with h1 | h1
  ·omega
  ·have := sq_le h0 h1; omega
theorem mCeil_gt {x n : Int} (hx : 0 ≤ x) (h0 : 0 ≤ n) (h : n * n < x) : n < mCeil x := by
 have hs := mCeil_spec hx
 rcases Int.lt_or_le n (mCeil x) with h1 | h1
 ·exact h1
 ·have := sq_le hs.1 h1; omega
theorem tdiv2 {a : Int} (h : 0 ≤ a) : Int.tdiv a 2 = a / 2 := Int.tdiv_eq_ediv_of_nonneg h
theorem spec_clRoot.ev_l {x : Int} (hx : 0 ≤ x) (n : Nat) : ∀ lo hi : Int, (hi - lo).toNat ≤ n → 0 ≤ lo → lo < hi → hi ≤ 2147483648 → lo ≤ flr x → flr x < hi → Ev (fun k => spec_clRoot.l0 k x lo hi) (flr x) := by
 induction n using Nat.strongRecOn with
 | ind n ih =>
  intro lo hi hn h0 h1 h2 h3 h4
  have hs := flr_spec hx
  refine Ev.succ ?_
  simp only [spec_clRoot.l0]
  rw [wid (show -9223372036854775808 ≤ hi - 1 by omega) zO4_2]
  by_cases hlt : lo < hi - 1
  ·simp only [if_pos hlt]
   rw [wid (show -9223372036854775808 ≤ lo + hi by omega) zO4_2, tdiv2 zO4_2, wid (show -9223372036854775808 ≤ (lo + hi) / 2 by omega) zO4_2]
   have hm0 : 0 ≤ (lo + hi) / 2 := by omega
   have hmb := mul_bd hm0 (show (lo + hi) / 2 ≤ 2147483648 by omega) hm0 (show (lo + hi) / 2 ≤ 2147483648 by omega)
   rw [wid (show -9223372036854775808 ≤ (lo + hi) / 2 * ((lo + hi) / 2) by omega) zO4_2]
   by_cases hc : (lo + hi) / 2 * ((lo + hi) / 2) ≤ x
   ·simp only [if_pos hc]
    have := flr_le hx hm0 hc
    exact ih (hi - (lo + hi) / 2).toNat zO4_2 _ _ (Nat.le_refl _) zO4_2 zO4_2 h2 this h4
   ·simp only [if_neg hc]
    have := flr_lt hx hm0 zO4_2
    exact ih ((lo + hi) / 2 - lo).toNat zO4_2 _ _ (Nat.le_refl _) h0 zO4_2 zO4_2 h3 this
  ·simp only [if_neg hlt]
   exact Ev.const (by congr 1; omega)
theorem spec_clRoot.ev {x : Int} (hx : 0 ≤ x) (hx1 : x < 4611686018427387904) : Ev (fun k => spec_clRoot.f k x) (flr x) := by
 unfold spec_clRoot.f
 exact spec_clRoot.ev_l hx _ 0 2147483648 (Nat.le_refl _) zO4_2 zO4_2 zO4_2 (flr_spec hx).1 (flr_lt hx zO4_2 zO4_2)
def mLadders (a b c : Int) : Bool := inr 1 1000 a && (inr 1 1000 b && inr 1 1000 c)
theorem mLadders_iff {a b c : Int} : mLadders a b c = true ↔ (1 ≤ a ∧ a ≤ 1000) ∧ (1 ≤ b ∧ b ≤ 1000) ∧ (1 ≤ c ∧ c ≤ 1000) := by
 unfold mLadders; simp only [Bool.and_eq_true, inr_iff]
theorem impl_AreLadders.eq (a b c : Int) : impl_AreLadders.f a b c = some (mLadders a b c) := by
 unfold impl_AreLadders.f impl_isWide.f mLadders
 simp only [impl_within.eq, Option.bind_some]
 cases inr 1 1000 a <;> cases inr 1 1000 b <;> cases inr 1 1000 c <;> simp
def mCrossHeight (a b c : Int) : Int × Int × Bool := if mLadders a b c = true then (loA (b * c) (b + c), loB (b * c) (b + c), true) else (0, 0, false)
def mCrossPlace (a b c : Int) : Int × Int × Bool := if mLadders a b c = true then (loA (b * a) (b + c), loB (b * a) (b + c), true) else (0, 0, false)
theorem impl_CrossHeight.ev (a b c : Int) : Ev (fun k => impl_CrossHeight.f k a b c) (mCrossHeight a b c) := by
 unfold impl_CrossHeight.f mCrossHeight
 refine Ev.bindc (impl_AreLadders.eq a b c) ?_
 refine Ev.ite (fun h => ?_) (fun _ => Ev.now _)
 obtain ⟨h0, h1, h2⟩ := mLadders_iff.1 h
 have p := mul_bd (a := b) (b := c) (A := 1000) (B := 1000) zO4_2 zO4_2 zO4_2 zO4_2
 rw [wid (show -9223372036854775808 ≤ b * c by omega) zO4_2, wid (show -9223372036854775808 ≤ b + c by omega) zO4_2]
 exact Ev.bind (impl_fraction.ev zO4_2 zO4_2 zO4_2 zO4_2) (Ev.now _)
theorem impl_CrossPlace.ev (a b c : Int) : Ev (fun k => impl_CrossPlace.f k a b c) (mCrossPlace a b c) := by
 unfold impl_CrossPlace.f mCrossPlace
 refine Ev.bindc (impl_AreLadders.eq a b c) ?_
 refine Ev.ite (fun h => ?_) (fun _ => Ev.now _)
 obtain ⟨h0, h1, h2⟩ := mLadders_iff.1 h
 have p := mul_bd (a := b) (b := a) (A := 1000) (B := 1000) zO4_2 zO4_2 zO4_2 zO4_2
 rw [wid (show -9223372036854775808 ≤ b * a by omega) zO4_2, wid (show -9223372036854775808 ≤ b + c by omega) zO4_2]
 exact Ev.bind (impl_fraction.ev zO4_2 zO4_2 zO4_2 zO4_2) (Ev.now _)
theorem impl_rootOf.ev_b {x : Int} (hx : 0 ≤ x) (hx1 : x ≤ 1152921504606846976) (n : Nat) : ∀ lo hi : Int, (hi - lo).toNat ≤ n → 0 ≤ lo → lo ≤ mCeil x → mCeil x ≤ hi → hi ≤ 2147483648 → Ev (fun k => impl_rootOf.l1 k x lo hi) (mCeil x, mWhole x) := by
 induction n using Nat.strongRecOn with
 | ind n ih =>
  intro lo hi hn h0 h1 h2 h3
  have hs := mCeil_spec hx
  refine Ev.succ ?_
  simp only [impl_rootOf.l1]
  by_cases hlt : lo < hi
  ·simp only [if_pos hlt]
   rw [wid (show -9223372036854775808 ≤ lo + hi by omega) zO4_2, tdiv2 zO4_2, wid (show -9223372036854775808 ≤ (lo + hi) / 2 by omega) zO4_2]
   have hm0 : 0 ≤ (lo + hi) / 2 := by omega
   have hmb := mul_bd hm0 (show (lo + hi) / 2 ≤ 2147483648 by omega) hm0 (show (lo + hi) / 2 ≤ 2147483648 by omega)
   rw [wid (show -9223372036854775808 ≤ (lo + hi) / 2 * ((lo + hi) / 2) by omega) zO4_2]
   by_cases hc : (lo + hi) / 2 * ((lo + hi) / 2) < x
   ·simp only [if_pos hc]
    have := mCeil_gt hx hm0 hc
    rw [wid (show -9223372036854775808 ≤ (lo + hi) / 2 + 1 by omega) zO4_2]
    exact ih (hi - ((lo + hi) / 2 + 1)).toNat zO4_2 _ _ (Nat.le_refl _) zO4_2 zO4_2 h2 h3
   ·simp only [if_neg hc]
    have := mCeil_le hx hm0 zO4_2
    exact ih ((lo + hi) / 2 - lo).toNat zO4_2 _ _ (Nat.le_refl _) h0 h1 this zO4_2
  ·simp only [if_neg hlt]
   have e : lo = mCeil x := by omega
   refine Ev.const ?_
   have hmb := mul_bd h0 (show lo ≤ 2147483648 by omega) h0 (show lo ≤ 2147483648 by omega)
   rw [wid (show -9223372036854775808 ≤ lo * lo by omega) zO4_2, e, hs.2.2]
theorem impl_rootOf.ev_a {x : Int} (hx : 0 ≤ x) (hx1 : x ≤ 1152921504606846976) (n : Nat) : ∀ hi : Int, (2147483648 - hi).toNat ≤ n → 1 ≤ hi → hi ≤ 2147483648 → Ev (fun k => impl_rootOf.l0 k x 0 hi) (mCeil x, mWhole x) := by
 induction n using Nat.strongRecOn with
 | ind n ih =>
  intro hi hn h0 h1
  have hs := mCeil_spec hx
  refine Ev.succ ?_
  simp only [impl_rootOf.l0]
  have hmb := mul_bd (show 0 ≤ hi by omega) h1 (show 0 ≤ hi by omega) h1
  rw [wid (show -9223372036854775808 ≤ hi * hi by omega) zO4_2]
  by_cases hc : hi * hi < x
  ·simp only [if_pos hc]
   have hh : hi ≤ 1073741823 := by
    rcases Int.lt_or_le hi 1073741824 with h | h
    ·omega
    ·have := sq_le (show (0 : Int) ≤ 1073741824 by omega) h; omega
   rw [wid (show -9223372036854775808 ≤ hi * 2 by omega) zO4_2]
   exact ih (2147483648 - hi * 2).toNat zO4_2 _ (Nat.le_refl _) zO4_2 zO4_2
  ·simp only [if_neg hc]
   exact impl_rootOf.ev_b hx hx1 _ 0 hi (Nat.le_refl _) zO4_2 hs.1 (mCeil_le hx zO4_2 zO4_2) h1
theorem impl_rootOf.ev {x : Int} (hx : 0 ≤ x) (hx1 : x ≤ 1152921504606846976) : Ev (fun k => impl_rootOf.f k x) (mCeil x, mWhole x) := by
 unfold impl_rootOf.f
 exact impl_rootOf.ev_a hx hx1 _ 1 (Nat.le_refl _) zO4_2 zO4_2
def mOwn (a b c : Int) : Int := if a = 1 then c else b
/-- What a clue of kind k tells of ladders (w, l, r), with a for the kind 3. -/
def mVal (k a w l r : Int) : Int × Int :=
 if k = 0 then (a, l + r) else if k = 1 then (a, if l > r then 1 else 0) else if k = 2 then (loA (l * r) (l + r), loB (l * r) (l + r))
 else if k = 3 then (a, if mWhole (w * w + mOwn a l r * mOwn a l r) = true then 1 else 0) else if k = 4 then (loA (l * w) (l + r), loB (l * w) (l + r)) else (a, l * r)
theorem mWhole_flr (x : Int) : (flr x * flr x = x) = (mWhole x = true) := by unfold mWhole; simp
theorem spec_pzValue.ev (k a w l r : Int) (h : mHidden w l r = true) : Ev (fun n => spec_pzValue.f n k a w l r) (mVal k a w l r) := by
 obtain ⟨h0, h1, h2⟩ := mHidden_iff.1 h
 have p1 := mul_bd (a := l) (b := r) (A := 12) (B := 12) zO4_2 zO4_2 zO4_2 zO4_2
 have p2 := mul_bd (a := l) (b := w) (A := 12) (B := 12) zO4_2 zO4_2 zO4_2 zO4_2
 have p3 := mul_bd (a := w) (b := w) (A := 12) (B := 12) zO4_2 zO4_2 zO4_2 zO4_2
 have p4 := mul_bd (a := l) (b := l) (A := 12) (B := 12) zO4_2 zO4_2 zO4_2 zO4_2
 have p5 := mul_bd (a := r) (b := r) (A := 12) (B := 12) zO4_2 zO4_2 zO4_2 zO4_2
 unfold spec_pzValue.f mVal
 rw [Int.mul_comm w l, wid (show -9223372036854775808 ≤ l + r by omega) zO4_2, wid (show -9223372036854775808 ≤ l * r by omega) zO4_2, wid (show -9223372036854775808 ≤ l * w by omega) zO4_2]
 refine Ev.ite (fun _ => Ev.now _) (fun _ => ?_)
 refine Ev.ite (fun _ => ?_) (fun _ => ?_)
 ·by_cases hc : l > r
  ·simp only [if_pos hc]; exact Ev.now _
  ·simp only [if_neg hc]; exact Ev.now _
 refine Ev.ite (fun _ => Ev.bind (spec_clLow.ev zO4_2 zO4_2 zO4_2 zO4_2) (Ev.now _)) (fun _ => ?_)
 refine Ev.ite (fun _ => ?_) (fun _ => ?_)
 ·refine Ev.bindc (a := (w * w + l * l, w * w + r * r)) ?_ ?_
  ·unfold spec_clSquares.f
   rw [wid (show -9223372036854775808 ≤ w * w by omega) zO4_2, wid (show -9223372036854775808 ≤ l * l by omega) zO4_2, wid (show -9223372036854775808 ≤ r * r by omega) zO4_2, wid (show -9223372036854775808 ≤ w * w + l * l by omega) zO4_2, wid (show -9223372036854775808 ≤ w * w + r * r by omega) zO4_2]
  ·have hsq : ∀ x : Int, 0 ≤ x → x ≤ 288 → wrap64 (flr x * flr x) = flr x * flr x := fun x hx h => by have := flr_spec hx; have := sq_le (show (0 : Int) ≤ 0 by omega) this.1; exact wid zO4_2 zO4_2
   by_cases hc : a = 1
   ·simp only [if_pos hc, mOwn]
    refine Ev.bind (spec_clRoot.ev (x := w * w + r * r) zO4_2 zO4_2) ?_
    rw [hsq _ zO4_2 zO4_2]
    simp only [mWhole_flr]
    by_cases hw : mWhole (w * w + r * r) = true
    ·simp only [if_pos hw]; exact Ev.now _
    ·simp only [if_neg hw]; exact Ev.now _
   ·simp only [if_neg hc, mOwn]
    refine Ev.bind (spec_clRoot.ev (x := w * w + l * l) zO4_2 zO4_2) ?_
    rw [hsq _ zO4_2 zO4_2]
    simp only [mWhole_flr]
    by_cases hw : mWhole (w * w + l * l) = true
    ·simp only [if_pos hw]; exact Ev.now _
    ·simp only [if_neg hw]; exact Ev.now _
 refine Ev.ite (fun _ => Ev.bind (spec_clLow.ev zO4_2 zO4_2 zO4_2 zO4_2) (Ev.now _)) (fun _ => Ev.now _)
/-- What told answers: side 0 or 1. -/
theorem impl_told.ev (k a w l r : Int) (h : mHidden w l r = true) (hk : 0 ≤ k ∧ k ≤ 5) (ha : a = 0 ∨ a = 1) (ha3 : k ≠ 3 → a = 0) : Ev (fun n => impl_told.f n w l r k a) (k, (mVal k a w l r).1, (mVal k a w l r).2) := by
 obtain ⟨h0, h1, h2⟩ := mHidden_iff.1 h
 have hL : mLadders w l r = true := mLadders_iff.2 zO4_2
 have p1 := mul_bd (a := l) (b := r) (A := 12) (B := 12) zO4_2 zO4_2 zO4_2 zO4_2
 have p2 := mul_bd (a := l) (b := w) (A := 12) (B := 12) zO4_2 zO4_2 zO4_2 zO4_2
 have p3 := mul_bd (a := w) (b := w) (A := 12) (B := 12) zO4_2 zO4_2 zO4_2 zO4_2
 have p4 := mul_bd (a := l) (b := l) (A := 12) (B := 12) zO4_2 zO4_2 zO4_2 zO4_2
 have p5 := mul_bd (a := r) (b := r) (A := 12) (B := 12) zO4_2 zO4_2 zO4_2 zO4_2
 unfold impl_told.f
 rw [wid (show -9223372036854775808 ≤ l + r by omega) zO4_2, wid (show -9223372036854775808 ≤ l * r by omega) zO4_2]
 have hk6 : k = 0 ∨ k = 1 ∨ k = 2 ∨ k = 3 ∨ k = 4 ∨ k = 5 := by omega
 rcases hk6 with rfl | rfl | rfl | rfl | rfl | rfl
 ·obtain rfl := ha3 zO4_2
  simp only [if_true, mVal]; exact Ev.now _
 ·obtain rfl := ha3 zO4_2
  simp only [mVal, show ¬ ((1 : Int) = 0) by omega, if_false, if_true]
  by_cases hc : l > r
  ·simp [impl_asNumber.f, hc]; exact Ev.now _
  ·simp [impl_asNumber.f, hc]; exact Ev.now _
 ·simp only [mVal, show ¬ ((2 : Int) = 0) by omega, show ¬ ((2 : Int) = 1) by omega, if_false, if_true]
  have e := impl_CrossHeight.ev w l r
  rw [mCrossHeight, if_pos hL] at e
  exact Ev.bind e (Ev.now _)
 ·simp only [mVal, show ¬ ((3 : Int) = 0) by omega, show ¬ ((3 : Int) = 1) by omega, show ¬ ((3 : Int) = 2) by omega, if_false, if_true, Option.bind_some]
  have hl : (([l, r] : List Int).length : Int) = 2 := rfl
  rw [hl]
  simp only [show 0 ≤ a by omega, show a < 2 by omega, if_true]
  have hrd : rd [l, r] a = mOwn a l r := by
   rcases ha with rfl | rfl
   ·simp [mOwn, rd]
   ·simp [mOwn, rd]
  rw [hrd]
  have hob : 1 ≤ mOwn a l r ∧ mOwn a l r ≤ 12 := by unfold mOwn; split <;> omega
  have p6 := mul_bd (a := mOwn a l r) (b := mOwn a l r) (A := 12) (B := 12) zO4_2 zO4_2 zO4_2 zO4_2
  refine Ev.bindc (a := w * w + mOwn a l r * mOwn a l r) ?_ ?_
  ·unfold impl_square.f
   rw [wid (show -9223372036854775808 ≤ w * w by omega) zO4_2, wid (show -9223372036854775808 ≤ mOwn a l r * mOwn a l r by omega) zO4_2, wid (show -9223372036854775808 ≤ w * w + mOwn a l r * mOwn a l r by omega) zO4_2]
  ·refine Ev.bind (impl_rootOf.ev zO4_2 zO4_2) ?_
   simp only [impl_asNumber.f]
   by_cases hw : mWhole (w * w + mOwn a l r * mOwn a l r) = true
   ·simp only [if_pos hw, Option.bind_some]; exact Ev.now _
   ·simp only [if_neg hw, Option.bind_some]; exact Ev.now _
 ·simp only [mVal, show ¬ ((4 : Int) = 0) by omega, show ¬ ((4 : Int) = 1) by omega, show ¬ ((4 : Int) = 2) by omega, show ¬ ((4 : Int) = 3) by omega, if_false, if_true]
  have e := impl_CrossPlace.ev w l r
  rw [mCrossPlace, if_pos hL] at e
  exact Ev.bind e (Ev.now _)
 ·obtain rfl := ha3 zO4_2
  simp only [mVal, show ¬ ((5 : Int) = 0) by omega, show ¬ ((5 : Int) = 1) by omega, show ¬ ((5 : Int) = 2) by omega, show ¬ ((5 : Int) = 3) by omega, show ¬ ((5 : Int) = 4) by omega, if_false, if_true]; exact Ev.now _
/-- The clue (k, a, b) fits the ladders. -/
def mFits (k a b w l r : Int) : Bool := (mVal k a w l r).1 == a && (mVal k a w l r).2 == b
theorem mClue_kind {k a b : Int} (h : mClue k a b = true) : 0 ≤ k ∧ k ≤ 5 ∧ (k ≠ 3 → k ≠ 2 → k ≠ 4 → a = 0) ∧ (k = 3 → a = 0 ∨ a = 1) := by
 unfold mClue at h
 simp only [Bool.and_eq_true, Bool.or_eq_true, inr_iff, beq_iff_eq, decide_eq_true_eq] at h
 omega
theorem spec_pzFits.ev (k a b w l r : Int) (h : mHidden w l r = true) : Ev (fun n => spec_pzFits.f n k a b w l r) (mFits k a b w l r) := by
 unfold spec_pzFits.f mFits
 refine Ev.bind (spec_pzValue.ev k a w l r h) ?_
 by_cases hc : (mVal k a w l r).1 = a
 ·simp only [if_pos hc, hc, beq_self_eq_true, Bool.true_and]; exact Ev.now _
 ·simp only [if_neg hc]
  exact Ev.const (by simp [hc])
theorem mVal_other (k a a' w l r : Int) (hk : k = 2 ∨ k = 4) : mVal k a w l r = mVal k a' w l r := by
 rcases hk with rfl | rfl <;> simp [mVal]
theorem impl_doesFit.ev (k a b w l r : Int) (h : mHidden w l r = true) (hc : mClue k a b = true) : Ev (fun n => impl_doesFit.f n k a b w l r) (mFits k a b w l r) := by
 obtain ⟨k0, k5, k1, k3⟩ := mClue_kind hc
 unfold impl_doesFit.f
 by_cases h3 : k = 3
 ·simp only [if_pos h3]
  refine Ev.bind (impl_told.ev k a w l r h ⟨k0, k5⟩ (k3 h3) (fun h => absurd h3 h)) ?_
  refine Ev.const ?_
  simp [mFits]
 ·simp only [if_neg h3]
  refine Ev.bind (impl_told.ev k 0 w l r h ⟨k0, k5⟩ (.inl rfl) (fun _ => rfl)) ?_
  refine Ev.const ?_
  by_cases h24 : k = 2 ∨ k = 4
  ·rw [mVal_other k 0 a w l r h24]; simp [mFits]
  ·have ha := k1 h3 zO4_2 zO4_2
   subst ha
   simp [mFits]
def mkL (w : Int) (i j : Nat) : S41 := ⟨w, (i : Int) + 1, (j : Int) + 1⟩
def fitsAll (l : List S43) (x : S41) : Bool := l.all fun c => mFits c.f0 c.f1 c.f2 x.f0 x.f1 x.f2
/-- From place j on in the row of the left height i + 1. -/
def mRow (w : Int) (l : List S43) (i j : Nat) : List S41 := ((List.range' j (12 - j)).map (mkL w i)).filter (fitsAll l)
def mRows (w : Int) (l : List S43) (i : Nat) : List S41 := (List.range' i (12 - i)).flatMap fun i => mRow w l i 0
/-- All hidden ladders that fit the clues, in order. -/
def mSols (w : Int) (l : List S43) : List S41 := mRows w l 0
theorem mRow_step (w : Int) (l : List S43) (i j : Nat) (h : j < 12) : mRow w l i j = (if fitsAll l (mkL w i j) = true then [mkL w i j] else []) ++ mRow w l i (j + 1) := by
 unfold mRow
 rw [show 12 - j = (12 - (j + 1)) + 1 by omega, List.range'_succ, List.map_cons, List.filter_cons]
 split <;> simp
theorem mRow_end (w : Int) (l : List S43) (i j : Nat) (h : 12 ≤ j) : mRow w l i j = [] := by
 unfold mRow; rw [show 12 - j = 0 by omega]; rfl
theorem mRows_step (w : Int) (l : List S43) (i : Nat) (h : i < 12) : mRows w l i = mRow w l i 0 ++ mRows w l (i + 1) := by
 unfold mRows
 rw [show 12 - i = (12 - (i + 1)) + 1 by omega, List.range'_succ, List.flatMap_cons]
theorem mRows_end (w : Int) (l : List S43) (i : Nat) (h : 12 ≤ i) : mRows w l i = [] := by
 unfold mRows; rw [show 12 - i = 0 by omega]; rfl
theorem mRow_len (w : Int) (l : List S43) (i j : Nat) : (mRow w l i j).length ≤ 12 - j := by
 unfold mRow
 exact Nat.le_trans (List.length_filter_le _ _) zO4_3
theorem mRows_len (w : Int) (l : List S43) : ∀ (d i : Nat), i + d = 12 → (mRows w l i).length ≤ 12 * d
 | 0, i, h => by rw [mRows_end w l i zO4_2]; simp
 | d + 1, i, h => by
  rw [mRows_step w l i zO4_2, List.length_append]
  have := mRow_len w l i 0
  have := mRows_len w l d (i + 1) zO4_2
  omega
theorem mSols_len (w : Int) (l : List S43) : (mSols w l).length ≤ 144 := mRows_len w l 12 0 zO4_2
theorem anySolution.ev (w : Int) (l : List S43) (a b : Int) (h : mHidden w a b = true) (hc : l.all mClueS = true) : Ev (fun k => anySolution.f k l w a b) (!(fitsAll l ⟨w, a, b⟩)) := by
 refine ev_eq (r := l.any fun c => !(mFits c.f0 c.f1 c.f2 w a b)) ?_ (by unfold fitsAll; rw [List.not_all_eq_any_not])
 unfold anySolution.f
 refine cAny_ev l (fun x hx => ?_)
 unfold anySolution.p
 exact Ev.bind (impl_doesFit.ev _ _ _ _ _ _ h (List.all_eq_true.1 hc x hx)) (Ev.now _)
theorem hid_mk {w : Int} (hw : inr 1 12 w = true) {i j : Nat} (hi : i < 12) (hj : j < 12) : mHidden w ((i : Int) + 1) ((j : Int) + 1) = true := by
 have := inr_iff.1 hw
 exact mHidden_iff.2 zO4_2
theorem impl_solutions.ev_r (w : Int) (l : List S43) (hw : inr 1 12 w = true) (hc : l.all mClueS = true) (r : List S41) (i : Nat) (hi : i < 12) (d : Nat) : ∀ (j : Nat) (out : List S41), j + d = 12 → out.length ≤ 12 * i + j → Ev (fun k => impl_solutions.l0 k w l (out ++ mRow w l i j) ((i + 1 : Nat) + 1 : Int)) r → Ev (fun k => impl_solutions.l1 k w l out ((i : Int) + 1) ((j : Int) + 1)) r := by
 induction d with
 | zero =>
  intro j out hj ho h
  rw [mRow_end w l i j zO4_2, List.append_nil] at h
  refine Ev.succ ?_
  simp only [impl_solutions.l1, show ¬ ((j : Int) + 1 ≤ 12) by omega, if_false]
  rw [wid (show -9223372036854775808 ≤ (i : Int) + 1 + 1 by omega) zO4_2]
  exact h
 | succ d ih =>
  intro j out hj ho h
  rw [mRow_step w l i j zO4_2] at h
  refine Ev.succ ?_
  simp only [impl_solutions.l1, show ((j : Int) + 1 ≤ 12) by omega, if_true]
  refine Ev.bind (anySolution.ev w l _ _ (hid_mk hw hi zO4_2) hc) ?_
  rw [wid (show -9223372036854775808 ≤ (j : Int) + 1 + 1 by omega) zO4_2]
  by_cases hf : fitsAll l (mkL w i j) = true
  ·rw [if_pos hf] at h
   simp only [show fitsAll l ⟨w, (i : Int) + 1, (j : Int) + 1⟩ = true from hf, Bool.not_true, Bool.false_eq_true, if_false, show out.length < 5864062014805 by omega, if_true]
   exact ih (j + 1) (out ++ [mkL w i j]) zO4_2 (by simp; omega) (by rw [List.append_assoc]; exact h)
  ·rw [if_neg hf, List.nil_append] at h
   simp only [show fitsAll l ⟨w, (i : Int) + 1, (j : Int) + 1⟩ = false from Bool.eq_false_iff.mpr hf, Bool.not_false, if_true]
   exact ih (j + 1) out zO4_2 zO4_2 h
theorem impl_solutions.ev_l (w : Int) (l : List S43) (hw : inr 1 12 w = true) (hc : l.all mClueS = true) (d : Nat) : ∀ (i : Nat) (out : List S41), i + d = 12 → out.length ≤ 12 * i → Ev (fun k => impl_solutions.l0 k w l out ((i : Int) + 1)) (out ++ mRows w l i) := by
 induction d with
 | zero =>
  intro i out hi ho
  rw [mRows_end w l i zO4_2, List.append_nil]
  refine Ev.succ ?_
  simp only [impl_solutions.l0, show ¬ ((i : Int) + 1 ≤ 12) by omega, if_false]
  exact Ev.now _
 | succ d ih =>
  intro i out hi ho
  rw [mRows_step w l i zO4_2]
  refine Ev.succ ?_
  simp only [impl_solutions.l0, show ((i : Int) + 1 ≤ 12) by omega, if_true]
  have hl := mRow_len w l i 0
  have h := ih (i + 1) (out ++ mRow w l i 0) zO4_2 (by rw [List.length_append]; omega)
  rw [List.append_assoc] at h
  exact impl_solutions.ev_r w l hw hc _ i zO4_2 12 0 out zO4_2 zO4_2 h
theorem impl_solutions.ev {w : Int} {l : List S43} (hw : inr 1 12 w = true) (hc : l.all mClueS = true) : Ev (fun k => impl_solutions.f k w l) (mSols w l) := by
 unfold impl_solutions.f
 exact impl_solutions.ev_l w l hw hc 12 0 [] zO4_2 zO4_3
theorem spec_pzAll.ev_c (w : Int) (l : List S43) (hl : l.length ≤ 4611686018427387904) (out : List S41) (a b : Int) (h : mHidden w a b = true) (ho : out.length < 5864062014805) (r : List S41) (d : Nat) : ∀ (t : Nat) (x9 : Bool), t + d = l.length →
  Ev (fun k => spec_pzAll.l1 k w l (if (x9 && (l.drop t).all fun c => mFits c.f0 c.f1 c.f2 w a b) = true then out ++ [⟨w, a, b⟩] else out) a (wrap64 (b + 1))) r → Ev (fun k => spec_pzAll.l2 k w l out a b x9 l (l.length : Int) (t : Int) w a b) r := by
 induction d with
 | zero =>
  intro t x9 ht hr
  rw [show t = l.length by omega, List.drop_length] at hr
  refine Ev.succ ?_
  simp only [spec_pzAll.l2, show ¬ ((t : Int) < (l.length : Int)) by omega, if_false]
  cases x9 with
  | true => simp only [if_true, if_pos ho]; simpa using hr
  | false => simp only [Bool.false_eq_true, if_false]; simpa using hr
 | succ d ih =>
  intro t x9 ht hr
  have hlt : t < l.length := by omega
  have e : rd_T43 l (t : Int) = l[t] := by simp [rd_T43, List.getD_eq_getElem?_getD, List.getElem?_eq_getElem hlt]
  rw [List.drop_eq_getElem_cons hlt, List.all_cons] at hr
  refine Ev.succ ?_
  simp only [spec_pzAll.l2, show ((t : Int) < (l.length : Int)) by omega, show (0 : Int) ≤ (t : Int) by omega, if_true, e]
  rw [wid (show -9223372036854775808 ≤ (t : Int) + 1 by omega) zO4_2]
  cases x9 with
  | true =>
   simp only [if_true]
   refine Ev.bind (spec_pzFits.ev _ _ _ w a b h) ?_
   exact ih (t + 1) _ zO4_2 (by simpa using hr)
  | false =>
   simp only [Bool.false_eq_true, if_false]
   exact ih (t + 1) false zO4_2 (by simpa using hr)
theorem spec_pzAll.ev_r (w : Int) (l : List S43) (hl : l.length ≤ 4611686018427387904) (hw : inr 1 12 w = true) (r : List S41) (i : Nat) (hi : i < 12) (d : Nat) : ∀ (j : Nat) (out : List S41), j + d = 12 → out.length ≤ 12 * i + j → Ev (fun k => spec_pzAll.l0 k w l (out ++ mRow w l i j) ((i + 1 : Nat) + 1 : Int)) r → Ev (fun k => spec_pzAll.l1 k w l out ((i : Int) + 1) ((j : Int) + 1)) r := by
 induction d with
 | zero =>
  intro j out hj ho h
  rw [mRow_end w l i j zO4_2, List.append_nil] at h
  refine Ev.succ ?_
  simp only [spec_pzAll.l1, show ¬ ((j : Int) + 1 ≤ 12) by omega, if_false]
  rw [wid (show -9223372036854775808 ≤ (i : Int) + 1 + 1 by omega) zO4_2]
  exact h
 | succ d ih =>
  intro j out hj ho h
  rw [mRow_step w l i j zO4_2] at h
  refine Ev.succ ?_
  simp only [spec_pzAll.l1, show ((j : Int) + 1 ≤ 12) by omega, if_true]
  refine spec_pzAll.ev_c w l hl out _ _ (hid_mk hw hi zO4_2) zO4_2 r l.length 0 true zO4_2 ?_
  rw [wid (show -9223372036854775808 ≤ (j : Int) + 1 + 1 by omega) zO4_2]
  simp only [List.drop_zero, Bool.true_and]
  by_cases hf : fitsAll l (mkL w i j) = true
  ·rw [if_pos hf] at h
   rw [if_pos (show (l.all fun c => mFits c.f0 c.f1 c.f2 w ((i : Int) + 1) ((j : Int) + 1)) = true from hf)]
   exact ih (j + 1) (out ++ [mkL w i j]) zO4_2 (by simp; omega) (by rw [List.append_assoc]; exact h)
  ·rw [if_neg hf, List.nil_append] at h
   rw [if_neg (show ¬ (l.all fun c => mFits c.f0 c.f1 c.f2 w ((i : Int) + 1) ((j : Int) + 1)) = true from hf)]
   exact ih (j + 1) out zO4_2 zO4_2 h
theorem spec_pzAll.ev_l (w : Int) (l : List S43) (hl : l.length ≤ 4611686018427387904) (hw : inr 1 12 w = true) (d : Nat) : ∀ (i : Nat) (out : List S41), i + d = 12 → out.length ≤ 12 * i → Ev (fun k => spec_pzAll.l0 k w l out ((i : Int) + 1)) (out ++ mRows w l i) := by
 induction d with
 | zero =>
  intro i out hi ho
  rw [mRows_end w l i zO4_2, List.append_nil]
  refine Ev.succ ?_
  simp only [spec_pzAll.l0, show ¬ ((i : Int) + 1 ≤ 12) by omega, if_false]
  exact Ev.now _
 | succ d ih =>
  intro i out hi ho
  rw [mRows_step w l i zO4_2]
  refine Ev.succ ?_
  simp only [spec_pzAll.l0, show ((i : Int) + 1 ≤ 12) by omega, if_true]
  have hl2 := mRow_len w l i 0
  have h := ih (i + 1) (out ++ mRow w l i 0) zO4_2 (by rw [List.length_append]; omega)
  rw [List.append_assoc] at h
  exact spec_pzAll.ev_r w l hl hw _ i zO4_2 12 0 out zO4_2 zO4_2 h
theorem spec_pzAll.ev {w : Int} {l : List S43} (hl : l.length ≤ 4611686018427387904) (hw : inr 1 12 w = true) : Ev (fun k => spec_pzAll.f k w l) (mSols w l) := by
 unfold spec_pzAll.f
 exact spec_pzAll.ev_l w l hl hw 12 0 [] zO4_2 zO4_3
theorem mPuzzle_parts {w : Int} {l : List S43} (h : mPuzzle w l = true) : inr 1 12 w = true ∧ l.length ≤ 6 ∧ l.all mClueS = true := by
 unfold mPuzzle at h
 simp only [Bool.and_eq_true, decide_eq_true_eq] at h
 exact h
def mSolutions (w : Int) (l : List S43) : List S41 × Bool := if mPuzzle w l = true then (mSols w l, true) else ([], false)
theorem impl_Solutions.ev (w : Int) (l : List S43) : Ev (fun k => impl_Solutions.f k w l) (mSolutions w l) := by
 unfold impl_Solutions.f mSolutions
 refine Ev.bind (impl_IsPuzzle.ev w l) ?_
 refine Ev.ite (fun h => ?_) (fun _ => Ev.now _)
 obtain ⟨h1, h2, h3⟩ := mPuzzle_parts h
 exact Ev.bind (impl_solutions.ev h1 h3) (Ev.now _)
def mAdd (w : Int) (l : List S43) (a b c : Int) : Int × List S43 × Bool := if (mPuzzle w l && (mClue a b c && decide (l.length ≠ 6))) = true then (w, l ++ [⟨a, b, c⟩], true) else (0, [], false)
theorem impl_AddClue.ev (w : Int) (l : List S43) (a b c : Int) : Ev (fun k => impl_AddClue.f k w l a b c) (mAdd w l a b c) := by
 unfold impl_AddClue.f mAdd
 refine Ev.bind (impl_IsPuzzle.ev w l) ?_
 cases h : mPuzzle w l with
 | false => exact Ev.now _
 | true =>
  obtain ⟨h1, h2, h3⟩ := mPuzzle_parts h
  simp only [if_true, Bool.true_and]
  refine Ev.bind (impl_isClue.ev a b c) ?_
  cases h4 : mClue a b c with
  | false => exact Ev.now _
  | true =>
   simp only [if_true, Bool.true_and]
   by_cases h6 : l.length = 6
   ·simp only [show (l.length : Int) = 6 by omega, if_true, h6, ne_eq, not_true_eq_false, decide_false, Bool.false_eq_true, if_false]
    exact Ev.now _
   ·simp only [show ¬ ((l.length : Int) = 6) by omega, if_false, h6, ne_eq, not_false_eq_true, decide_true, if_true]
    refine Ev.bindc (show impl_Clue_50.f l = some l from if_pos zO4_2) ?_
    simp only [Option.bind_some, List.length_cons, List.length_nil, show l.length + (0 + 1) < 5864062014805 by omega, if_true]
    exact Ev.now _
theorem spec_AddClue.ev (w : Int) (l : List S43) (a b c : Int) : Ev (fun k => spec_AddClue.f k w l a b c) (mAdd w l a b c) := by
 unfold spec_AddClue.f mAdd
 refine Ev.bind (spec_pzGood.ev w l) ?_
 cases h : mPuzzle w l with
 | false => exact Ev.now _
 | true =>
  obtain ⟨h1, h2, h3⟩ := mPuzzle_parts h
  simp only [if_true, Bool.true_and]
  refine Ev.bind (spec_pzClue.ev a b c) ?_
  cases h4 : mClue a b c with
  | false => exact Ev.now _
  | true =>
   simp only [if_true, Bool.true_and]
   by_cases h6 : l.length = 6
   ·simp only [show (l.length : Int) = 6 by omega, if_true, h6, ne_eq, not_true_eq_false, decide_false, Bool.false_eq_true, if_false]
    exact Ev.now _
   ·simp only [show ¬ ((l.length : Int) = 6) by omega, if_false, h6, ne_eq, not_false_eq_true, decide_true, if_true]
    simp only [Option.bind_some, List.nil_append, List.length_cons, List.length_nil, show 0 + l.length < 5864062014805 by omega, show l.length + (0 + 1) < 5864062014805 by omega, if_true]
    exact Ev.now _
theorem mAdd_len (w : Int) (l : List S43) (a b c : Int) : (mAdd w l a b c).2.1.length ≤ 1099511627776 := by
 unfold mAdd; split
 ·rename_i h; rw [Bool.and_eq_true] at h; have := (mPuzzle_parts h.1).2.1; simp; omega
 ·simp
def mDoesFit (k a b w l r : Int) : Bool × Bool := if (mClue k a b && mHidden w l r) = true then (mFits k a b w l r, true) else (false, false)
theorem spec_DoesFit.ev (k a b w l r : Int) : Ev (fun n => spec_DoesFit.f n k a b w l r) (mDoesFit k a b w l r) := by
 unfold spec_DoesFit.f mDoesFit
 refine Ev.bindc (spec_pzHidden.eq w l r) ?_
 by_cases h : mHidden w l r = true
 ·simp only [if_pos h]
  refine Ev.bind (spec_pzClue.ev k a b) ?_
  rw [h, Bool.and_true]
  exact Ev.ite (fun _ => Ev.bind (spec_pzFits.ev k a b w l r h) (Ev.now _)) (fun _ => Ev.now _)
 ·simp only [if_neg h]
  exact Ev.const (by simp [h])
theorem impl_DoesFit.ev (k a b w l r : Int) : Ev (fun n => impl_DoesFit.f n k a b w l r) (mDoesFit k a b w l r) := by
 unfold impl_DoesFit.f mDoesFit
 refine Ev.bind (impl_isClue.ev k a b) ?_
 by_cases hc : mClue k a b = true
 ·simp only [if_pos hc]
  refine Ev.bindc (impl_areHidden.eq w l r) ?_
  rw [hc, Bool.true_and]
  exact Ev.ite (fun h => Ev.bind (impl_doesFit.ev k a b w l r h hc) (Ev.now _)) (fun _ => Ev.now _)
 ·simp only [if_neg hc]
  exact Ev.const (by simp [hc])
theorem concat2.ev (x y : List S43) (h : x.length + y.length < 1000) : Ev (fun k => impl_Clue_86.f k [x, y]) (x ++ y) := by
 unfold impl_Clue_86.f
 refine Ev.succ ?_
 rw [show (fun k => impl_Clue_86.l0 (k + 1) [x, y] 0 [x, y] (([x, y].length : Nat) : Int) 0) = (fun k => if wrap64 (0 + (x.length : Int)) < 0 then none else impl_Clue_86.l0 k [x, y] (wrap64 (0 + (x.length : Int))) [x, y] 2 1) from funext fun k => by rw [impl_Clue_86.l0, if_pos zO4_3, if_pos zO4_3, if_pos zO4_3, wid (x := 0 + 1) zO4_2 zO4_2]; rfl]
 rw [wid (show -9223372036854775808 ≤ 0 + (x.length : Int) by omega) zO4_2]
 simp only [show ¬ (0 + (x.length : Int) < 0) by omega, if_false]
 refine Ev.succ ?_
 rw [show (fun k => impl_Clue_86.l0 (k + 1) [x, y] (0 + (x.length : Int)) [x, y] 2 1) = (fun k => if wrap64 (0 + (x.length : Int) + (y.length : Int)) < 0 then none else impl_Clue_86.l0 k [x, y] (wrap64 (0 + (x.length : Int) + (y.length : Int))) [x, y] 2 2) from funext fun k => by rw [impl_Clue_86.l0, if_pos zO4_3, if_pos zO4_3, if_pos zO4_3, wid (x := 1 + 1) zO4_2 zO4_2]; rfl]
 rw [wid (show -9223372036854775808 ≤ 0 + (x.length : Int) + (y.length : Int) by omega) zO4_2]
 simp only [show ¬ (0 + (x.length : Int) + (y.length : Int) < 0) by omega, if_false]
 refine Ev.succ ?_
 rw [show (fun k => impl_Clue_86.l0 (k + 1) [x, y] (0 + (x.length : Int) + (y.length : Int)) [x, y] 2 2) = (fun k => (growNil.f (0 + (x.length : Int) + (y.length : Int))).bind fun t => impl_Clue_86.l1 k t [x, y] 2 0) from funext fun k => by rw [impl_Clue_86.l0, if_neg zO4_3]; rfl]
 refine Ev.bindc (show growNil.f (0 + (x.length : Int) + (y.length : Int)) = some [] from if_pos ⟨by omega, by omega⟩) ?_
 refine Ev.succ ?_
 rw [show (fun k => impl_Clue_86.l1 (k + 1) [] [x, y] 2 0) = (fun k => if ([] : List S43).length + x.length < 5864062014805 then impl_Clue_86.l1 k ([] ++ x) [x, y] 2 1 else none) from funext fun k => by rw [impl_Clue_86.l1, if_pos zO4_3, if_pos zO4_3, if_pos zO4_3, wid (x := 0 + 1) zO4_2 zO4_2]; rfl]
 simp only [show ([] : List S43).length + x.length < 5864062014805 by simp only [List.length_nil]; omega, if_true, List.nil_append]
 refine Ev.succ ?_
 rw [show (fun k => impl_Clue_86.l1 (k + 1) x [x, y] 2 1) = (fun k => if x.length + y.length < 5864062014805 then impl_Clue_86.l1 k (x ++ y) [x, y] 2 2 else none) from funext fun k => by rw [impl_Clue_86.l1, if_pos zO4_3, if_pos zO4_3, if_pos zO4_3, wid (x := 1 + 1) zO4_2 zO4_2]; rfl]
 simp only [show x.length + y.length < 5864062014805 by omega, if_true]
 refine Ev.succ ?_
 rw [show (fun k => impl_Clue_86.l1 (k + 1) (x ++ y) [x, y] 2 2) = (fun _ => some (x ++ y)) from funext fun k => by rw [impl_Clue_86.l1, if_neg zO4_3]]
 exact Ev.now _
def mWo (l : List S43) (i : Nat) : List S43 := l.take i ++ l.drop (i + 1)
theorem mWo_len {l : List S43} {i : Nat} (h : i < l.length) : (mWo l i).length + 1 = l.length := by
 unfold mWo; rw [List.length_append, List.length_take, List.length_drop]; omega
theorem mWo_all {p : S43 → Bool} {l : List S43} (h : l.all p = true) (i : Nat) : (mWo l i).all p = true := by
 unfold mWo
 refine List.all_eq_true.2 fun x hx => List.all_eq_true.1 h x ?_
 rcases List.mem_append.1 hx with hx | hx
 ·exact List.mem_of_mem_take hx
 ·exact List.mem_of_mem_drop hx
theorem impl_without.ev {l : List S43} {i : Nat} (hi : i < l.length) (hl : l.length ≤ 100) : Ev (fun k => impl_without.f k l (i : Int)) (mWo l i) := by
 unfold impl_without.f
 rw [wid (show -9223372036854775808 ≤ (i : Int) + 1 by omega) zO4_2]
 simp only [show (0 : Int) ≤ (i : Int) by omega, show (i : Int) ≤ (l.length : Int) by omega, show (0 : Int) ≤ (i : Int) + 1 by omega, show (i : Int) + 1 ≤ (l.length : Int) by omega, if_true, Int.toNat_natCast, show ((i : Int) + 1).toNat = i + 1 by omega]
 refine Ev.bind (concat2.ev _ _ (by rw [List.length_take, List.length_drop]; omega)) ?_
 exact Ev.now _
theorem spec_pzWithout.eq {l : List S43} {i : Nat} (hi : i < l.length) (hl : l.length ≤ 100) : spec_pzWithout.f l (i : Int) = some (mWo l i) := by
 unfold spec_pzWithout.f mWo
 rw [wid (show -9223372036854775808 ≤ (i : Int) + 1 by omega) zO4_2]
 simp only [Option.bind_some, List.nil_append, List.length_nil, List.length_take, List.length_drop, show (0 : Int) ≤ (i : Int) by omega, show (i : Int) ≤ (l.length : Int) by omega, show (0 : Int) ≤ (i : Int) + 1 by omega, show (i : Int) + 1 ≤ (l.length : Int) by omega, if_true, Int.toNat_natCast, show ((i : Int) + 1).toNat = i + 1 by omega, show 0 + min i l.length < 5864062014805 by omega, show min i l.length + (l.length - (i + 1)) < 5864062014805 by omega]
def mDrop (w : Int) (l : List S43) (i : Int) : Int × List S43 × Bool := if (mPuzzle w l && inr 0 ((l.length : Int) - 1) i) = true then (w, mWo l i.toNat, true) else (0, [], false)
theorem impl_DropClue.ev (w : Int) (l : List S43) (i : Int) : Ev (fun k => impl_DropClue.f k w l i) (mDrop w l i) := by
 unfold impl_DropClue.f mDrop
 refine Ev.bind (impl_IsPuzzle.ev w l) ?_
 cases h : mPuzzle w l with
 | false => exact Ev.now _
 | true =>
  obtain ⟨h1, h2, h3⟩ := mPuzzle_parts h
  simp only [if_true, Bool.true_and]
  rw [wid (show -9223372036854775808 ≤ (l.length : Int) - 1 by omega) zO4_2]
  refine Ev.bindc (impl_within.eq _ _ _) ?_
  cases h4 : inr 0 ((l.length : Int) - 1) i with
  | false => exact Ev.now _
  | true =>
   have := inr_iff.1 h4
   simp only [if_true]
   have e : i = ((i.toNat : Nat) : Int) := by omega
   refine Ev.bind (a := mWo l i.toNat) ?_ (Ev.now _)
   rw [e, Int.toNat_natCast]
   exact impl_without.ev zO4_2 zO4_2
theorem spec_DropClue.ev (w : Int) (l : List S43) (i : Int) : Ev (fun k => spec_DropClue.f k w l i) (mDrop w l i) := by
 unfold spec_DropClue.f mDrop
 refine Ev.bind (spec_pzGood.ev w l) ?_
 cases h : mPuzzle w l with
 | false => exact Ev.now _
 | true =>
  obtain ⟨h1, h2, h3⟩ := mPuzzle_parts h
  simp only [if_true, Bool.true_and]
  rw [wid (show -9223372036854775808 ≤ (l.length : Int) - 1 by omega) zO4_2]
  refine Ev.bindc (spec_l1In.eq _ _ _) ?_
  cases h4 : inr 0 ((l.length : Int) - 1) i with
  | false => exact Ev.now _
  | true =>
   have := inr_iff.1 h4
   simp only [if_true]
   have e : i = ((i.toNat : Nat) : Int) := by omega
   refine Ev.bindc (a := mWo l i.toNat) ?_ (Ev.now _)
   rw [e, Int.toNat_natCast]
   exact spec_pzWithout.eq zO4_2 zO4_2
theorem mDrop_len (w : Int) (l : List S43) (i : Int) : (mDrop w l i).2.1.length ≤ 1099511627776 := by
 unfold mDrop; split
 ·rename_i h; rw [Bool.and_eq_true] at h; have := (mPuzzle_parts h.1).2.1; have := inr_iff.1 h.2; have := mWo_len (l := l) (i := i.toNat) zO4_2; simp only; omega
 ·simp
theorem impl_isSolved.ev {w : Int} {l : List S43} (h1 : inr 1 12 w = true) (h3 : l.all mClueS = true) : Ev (fun k => impl_isSolved.f k w l) (((mSols w l).length : Int) == 1) := by
 unfold impl_isSolved.f
 exact Ev.bind (impl_solutions.ev h1 h3) (Ev.now _)
theorem spec_pzSolved.ev {w : Int} {l : List S43} (h1 : inr 1 12 w = true) (hl : l.length ≤ 4611686018427387904) : Ev (fun k => spec_pzSolved.f k w l) (((mSols w l).length : Int) == 1) := by
 unfold spec_pzSolved.f
 exact Ev.bind (spec_pzAll.ev hl h1) (Ev.now _)
def mIsSolved (w : Int) (l : List S43) : Bool × Bool := if mPuzzle w l = true then (((mSols w l).length : Int) == 1, true) else (false, false)
theorem impl_IsSolved.ev (w : Int) (l : List S43) : Ev (fun k => impl_IsSolved.f k w l) (mIsSolved w l) := by
 unfold impl_IsSolved.f mIsSolved
 refine Ev.bind (impl_IsPuzzle.ev w l) ?_
 refine Ev.ite (fun h => ?_) (fun _ => Ev.now _)
 obtain ⟨h1, h2, h3⟩ := mPuzzle_parts h
 exact Ev.bind (impl_isSolved.ev h1 h3) (Ev.now _)
/-- The clues that are left over: those from place i on are tried, one after the other. -/
def hardF (w : Int) : Nat → List S43 → Nat → List S43
 | 0, l, _ => l
 | d + 1, l, i => if (((mSols w (mWo l i)).length : Int) == 1) = true then hardF w d (mWo l i) i else hardF w d l (i + 1)
def mHarder (w : Int) (l : List S43) : Int × List S43 × Bool := if (mPuzzle w l && (((mSols w l).length : Int) == 1)) = true then (w, hardF w l.length l 0, true) else (0, [], false)
theorem hardF_len (w : Int) (d : Nat) : ∀ (l : List S43) (i : Nat), i + d = l.length → (hardF w d l i).length ≤ l.length := by
 induction d with
 | zero => intro l i _; exact Nat.le_refl _
 | succ d ih =>
  intro l i h
  unfold hardF
  have := mWo_len (l := l) (i := i) zO4_2
  split
  ·exact Nat.le_trans (ih _ _ zO4_2) zO4_2
  ·exact ih _ _ zO4_2
theorem mHarder_len (w : Int) (l : List S43) : (mHarder w l).2.1.length ≤ 1099511627776 := by
 unfold mHarder; split
 ·rename_i h; rw [Bool.and_eq_true] at h; have := (mPuzzle_parts h.1).2.1; have := hardF_len w l.length l 0 zO4_2; simp only; omega
 ·simp
theorem impl_HarderPuzzle.ev_l (w : Int) (p : List S43) (h1 : inr 1 12 w = true) (d : Nat) : ∀ (l : List S43) (i : Nat), l.all mClueS = true → l.length ≤ 6 → i + d = l.length → Ev (fun k => impl_HarderPuzzle.l0 k l (i : Int) w p) (w, hardF w d l i, true) := by
 induction d with
 | zero =>
  intro l i h3 h2 hi
  refine Ev.succ ?_
  simp only [impl_HarderPuzzle.l0, show ¬ ((i : Int) < (l.length : Int)) by omega, if_false]
  exact Ev.now _
 | succ d ih =>
  intro l i h3 h2 hi
  have hlen := mWo_len (l := l) (i := i) zO4_2
  refine Ev.succ ?_
  simp only [impl_HarderPuzzle.l0, show ((i : Int) < (l.length : Int)) by omega, if_true]
  rw [wid (show -9223372036854775808 ≤ (i : Int) + 1 by omega) zO4_2]
  refine Ev.bind (impl_without.ev zO4_2 zO4_2) ?_
  refine Ev.bind (impl_isSolved.ev h1 (mWo_all h3 i)) ?_
  unfold hardF
  by_cases h : (((mSols w (mWo l i)).length : Int) == 1) = true
  ·simp only [h, if_true]
   exact ih (mWo l i) i (mWo_all h3 i) zO4_2 zO4_2
  ·simp only [h, if_false, Bool.false_eq_true]
   exact ih l (i + 1) h3 h2 zO4_2
theorem impl_HarderPuzzle.ev (w : Int) (l : List S43) : Ev (fun k => impl_HarderPuzzle.f k w l) (mHarder w l) := by
 unfold impl_HarderPuzzle.f mHarder
 refine Ev.bind (impl_IsPuzzle.ev w l) ?_
 cases h : mPuzzle w l with
 | false =>
  simp only [Bool.false_eq_true, if_false, Bool.false_and]
  refine Ev.succ ?_
  exact Ev.now _
 | true =>
  obtain ⟨h1, h2, h3⟩ := mPuzzle_parts h
  simp only [if_true, Bool.true_and]
  refine Ev.bind (impl_isSolved.ev h1 h3) ?_
  refine Ev.succ ?_
  cases h4 : (((mSols w l).length : Int) == 1) with
  | false => exact Ev.now _
  | true =>
   simp only [impl_HarderPuzzle.j0, Bool.not_true, Bool.false_eq_true, if_false, if_true]
   refine Ev.bindc (show impl_Clue_50.f l = some l from if_pos zO4_2) ?_
   exact impl_HarderPuzzle.ev_l w l h1 l.length l 0 h3 h2 zO4_2
theorem spec_HarderPuzzle.ev_l (w : Int) (p : List S43) (h1 : inr 1 12 w = true) (d : Nat) : ∀ (l : List S43) (i : Nat), l.length ≤ 6 → i + d = l.length → Ev (fun k => spec_HarderPuzzle.l0 k l (i : Int) w p) (w, hardF w d l i, true) := by
 induction d with
 | zero =>
  intro l i h2 hi
  refine Ev.succ ?_
  simp only [spec_HarderPuzzle.l0, show ¬ ((i : Int) < (l.length : Int)) by omega, if_false]
  exact Ev.now _
 | succ d ih =>
  intro l i h2 hi
  have hlen := mWo_len (l := l) (i := i) zO4_2
  refine Ev.succ ?_
  simp only [spec_HarderPuzzle.l0, show ((i : Int) < (l.length : Int)) by omega, if_true]
  rw [wid (show -9223372036854775808 ≤ (i : Int) + 1 by omega) zO4_2]
  refine Ev.bindc (spec_pzWithout.eq zO4_2 zO4_2) ?_
  refine Ev.bind (spec_pzSolved.ev h1 zO4_2) ?_
  unfold hardF
  by_cases h : (((mSols w (mWo l i)).length : Int) == 1) = true
  ·simp only [h, if_true]
   exact ih (mWo l i) i zO4_2 zO4_2
  ·simp only [h, if_false, Bool.false_eq_true]
   exact ih l (i + 1) h2 zO4_2
theorem spec_HarderPuzzle.ev (w : Int) (l : List S43) : Ev (fun k => spec_HarderPuzzle.f k w l) (mHarder w l) := by
 unfold spec_HarderPuzzle.f mHarder
 refine Ev.bind (spec_pzGood.ev w l) ?_
 cases h : mPuzzle w l with
 | false =>
  simp only [Bool.false_eq_true, if_false, Bool.false_and]
  refine Ev.succ ?_
  exact Ev.now _
 | true =>
  obtain ⟨h1, h2, h3⟩ := mPuzzle_parts h
  simp only [if_true, Bool.true_and]
  refine Ev.bind (spec_pzSolved.ev h1 zO4_2) ?_
  refine Ev.succ ?_
  cases h4 : (((mSols w l).length : Int) == 1) with
  | false => exact Ev.now _
  | true =>
   simp only [spec_HarderPuzzle.j0, Bool.not_true, Bool.false_eq_true, if_false, if_true, Option.bind_some, List.nil_append, List.length_nil, show 0 + l.length < 5864062014805 by omega]
   exact spec_HarderPuzzle.ev_l w l h1 l.length l 0 h2 zO4_2
theorem rdC_get {l : List S43} {n : Nat} (h : n < l.length) : rd_T43 l (n : Int) = l[n] := by
 unfold rd_T43
 rw [Int.toNat_natCast, List.getD_eq_getElem?_getD, List.getElem?_eq_getElem h]
 rfl
theorem mWo_last (l : List S43) (c : S43) : mWo (l ++ [c]) l.length = l := by
 unfold mWo
 rw [List.take_append_of_le_length (Nat.le_refl _), List.take_length, List.drop_eq_nil_of_le zO4_3, List.append_nil]
theorem mWo_end {l : List S43} {n : Nat} (h : n + 1 = l.length) : mWo l n ++ [l[n]'zO4_2] = l := by
 unfold mWo
 rw [List.drop_eq_nil_of_le zO4_2, List.append_nil, List.take_append_getElem, h, List.take_length]
theorem mAdd_ok {w : Int} {l : List S43} {a b c : Int} (h : (mAdd w l a b c).2.2 = true) : mPuzzle w l = true ∧ mClue a b c = true ∧ l.length ≠ 6 ∧ mAdd w l a b c = (w, l ++ [⟨a, b, c⟩], true) := by
 unfold mAdd at h ⊢
 by_cases e : (mPuzzle w l && (mClue a b c && decide (l.length ≠ 6))) = true
 ·rw [if_pos e]
  simp only [Bool.and_eq_true, decide_eq_true_eq] at e
  exact ⟨e.1, e.2.1, e.2.2, rfl⟩
 ·rw [if_neg e] at h; exact absurd h zO4_3
theorem mDrop_ok {w : Int} {l : List S43} {i : Int} (h : (mDrop w l i).2.2 = true) : mPuzzle w l = true ∧ (0 ≤ i ∧ i ≤ (l.length : Int) - 1) ∧ mDrop w l i = (w, mWo l i.toNat, true) := by
 unfold mDrop at h ⊢
 by_cases e : (mPuzzle w l && inr 0 ((l.length : Int) - 1) i) = true
 ·rw [if_pos e]
  simp only [Bool.and_eq_true, inr_iff] at e
  exact ⟨e.1, e.2, rfl⟩
 ·rw [if_neg e] at h; exact absurd h zO4_3
theorem mPuzzle_add {w : Int} {l : List S43} {a b c : Int} (h1 : mPuzzle w l = true) (h2 : mClue a b c = true) (h3 : l.length ≠ 6) : mPuzzle w (l ++ [⟨a, b, c⟩]) = true := by
 obtain ⟨q1, q2, q3⟩ := mPuzzle_parts h1
 unfold mPuzzle
 simp only [Bool.and_eq_true, decide_eq_true_eq, List.all_append, List.all_cons, List.all_nil, Bool.and_true, List.length_append, List.length_cons, List.length_nil]
 exact ⟨q1, by omega, q3, h2⟩
theorem mPuzzle_wo {w : Int} {l : List S43} {i : Nat} (h1 : mPuzzle w l = true) (hi : i < l.length) : mPuzzle w (mWo l i) = true := by
 obtain ⟨q1, q2, q3⟩ := mPuzzle_parts h1
 have := mWo_len hi
 unfold mPuzzle
 simp only [Bool.and_eq_true, decide_eq_true_eq]
 exact ⟨q1, by omega, mWo_all q3 i⟩
end Go.Proofs.Ythioojdannlhiaa.P

namespace Go.Proofs.Ythioojdannlhiaa.P
open Go.RowKit Go.Proofs.YthioojdannlhiaaW.PrintWords Go.Proofs.YthioojdannlhiaaW.PrintLast Go.Proofs.YthioojdannlhiaaW.PrintMore
attribute [local go_sem] max2_int min2_int max_two min_two max_three min_three max_four min_four   -- for this text's walks alone
set_option linter.unusedVariables false
set_option linter.unusedSimpArgs false

/-! ### spec_NeedlessClues: function 14 -/
def spec_NeedlessClues.l0 : Nat → List Int → Int → Int → Int → Int → List (S43) → Option (List Int × Bool)
 | 0, _, _, _, _, _, _ => none
 | k + 1, x4, x5, x18, x19, x349000, x349001 => if x19 < x18 then ((spec_pzWithout.f x349001 x19).bind fun t353 => ((spec_pzAll.f k x349000 t353).bind fun t356 => (if (t356.length : Int) = x5 then (if x4.length < 17592186044416 then (spec_NeedlessClues.l0 k (x4 ++ [x19]) x5 x18 (wrap64 (x19 + 1)) x349000 x349001) else (none)) else (spec_NeedlessClues.l0 k x4 x5 x18 (wrap64 (x19 + 1)) x349000 x349001)))) else (some (x4, true))
def spec_NeedlessClues.f (k : Nat) (a0_0 : Int) (l0_1 : List (S43)) : Option (List Int × Bool) := (spec_pzGood.f k a0_0 l0_1).bind fun t349 => (if t349 = true then ((spec_pzAll.f k a0_0 l0_1).bind fun t350 => (spec_NeedlessClues.l0 k ([] : List Int) (t350.length : Int) (l0_1.length : Int) 0 a0_0 l0_1)) else (some (([] : List Int), false)))
def spec_NeedlessClues.T8 : Bool × List (List Nat × List Nat) := (true, [([], []), ([0], [0]), ([], []), ([2], [2]), ([], []), ([3, 4], [3, 4]), ([1, 5, 5], [1, 5]), ([6], [6]), ([], []), ([7, 8], [7, 8])])
def spec_NeedlessClues.B8 : List Nat := [0, 1, 0, 4, 0, 28, 63, 127, 0, 511]
theorem spec_NeedlessClues.tab8 : rtab .any (opsOf Try.f14 8) = spec_NeedlessClues.T8 := by kernel_rfl
theorem spec_NeedlessClues.bits8 : waitsOk spec_NeedlessClues.T8.2 spec_NeedlessClues.B8 = true := by kernel_rfl
set_option maxHeartbeats 8000000 in
set_option maxRecDepth 100000 in
theorem spec_NeedlessClues.calls (k : Nat) (a0_0 : Int) (A0_1 : Option Addr) (c0_1 : Nat) (l0_1 : List (S43)) (r1 : List Int) (r2 : Bool) (w : World) (hr0_1 : Kd.C k43 w A0_1 l0_1.length l0_1) (hc0_1 : l0_1.length ≤ c0_1) (h : spec_NeedlessClues.f k a0_0 l0_1 = some (r1, r2)) :
  Calls Try.prog 14 #[.agg #[.int .i64 a0_0, .slice A0_1 l0_1.length c0_1]] w fun e w' => ∃ v0_ : Value, e = .returned (.tuple #[v0_, .bool r2]) ∧ Kd.R (Kd.int .i64) 3 w' w.heap.size (fun _ => True) v0_ r1 ∧ Below w.heap.size w w' := by
 have hu28 := Try.underlying28; have HR0_1 := Aside0.mk hr0_1; have HC0_1 := Aside0.mk hc0_1; clear hr0_1 hc0_1
 have HB := Aside0.mk (Below.refl w.heap.size w)
 have H : ((spec_pzGood.f k a0_0 l0_1).bind fun t349 => (if t349 = true then ((spec_pzAll.f k a0_0 l0_1).bind fun t350 => (spec_NeedlessClues.l0 k ([] : List Int) (t350.length : Int) (l0_1.length : Int) 0 a0_0 l0_1)) else (some (([] : List Int), false)))) = some (r1, r2) := h
 clear h; replace H := Option.bind_eq_some_iff.mp H; obtain ⟨t349, A20, H⟩ := H; (try dsimp only at H); have A2 := Aside0.mk A20; clear A20
 by_cases c3 : t349 = true
 ·subst c3
  rw [if_pos rfl] at H; replace H := Option.bind_eq_some_iff.mp H; obtain ⟨t350, A40, H⟩ := H
  replace H : (spec_NeedlessClues.l0 k ([] : List Int) (t350.length : Int) (l0_1.length : Int) 0 a0_0 l0_1) = some (r1, r2) := H
  have A4 := Aside0.mk A40; clear A40; have H' := Aside0.mk H; clear H
  go_enter Try.func14, Try.ntmps14
  go_wp2_with (first | ((with_reducible refine gate_dst (N := 1) rfl ?_); refine zE 1 #[.int .i64 a0_0, .slice A0_1 l0_1.length c0_1] 28 ?_; intro gb348 hg w5 hbox hb; have BK348 := Aside0.mk (hbox); have GW348 := zg HB hg; have GE348 := GW348; replace HB := zh HB hb; clear hb hbox hg; obtain ⟨_, _, _, _⟩ := zc2 BK348) | ((with_reducible refine gate_callee (f := 45) rfl ?_); refine zG (some 8) Try.func45 #[.agg #[.int .i64 a0_0, .slice A0_1 l0_1.length c0_1]] ?_; (with_reducible refine (spec_pzGood.calls k a0_0 _ _ l0_1 true _ ?side1 ?side2 A2.out).mono ?_); (case side1 => repeat (first | exact (Kd.C_below HR0_1.out HB.out) | (with_reducible refine Kd.C_alloc ?_ _) | (with_reducible refine Kd.C_drewN ?_ _) | (with_reducible refine Kd.C_drew ?_))); (case side2 => exact HC0_1.out); rintro e w7 ⟨rfl, hb⟩; refine ⟨_, rfl, ?_⟩; replace BK348 := zb BK348 hb; replace HB := zh HB hb; clear hb; obtain ⟨_, _, _, _⟩ := zc2 BK348) | ((with_reducible refine gate_callee (f := 55) rfl ?_); refine zG (some 14) Try.func55 #[.int .i64 a0_0, .slice A0_1 l0_1.length c0_1] ?_; (with_reducible refine (spec_pzAll.calls k a0_0 _ _ l0_1 t350 _ ?side1 ?side2 A4.out).mono ?_); (case side1 => repeat (first | exact (Kd.C_below HR0_1.out HB.out) | (with_reducible refine Kd.C_alloc ?_ _) | (with_reducible refine Kd.C_drewN ?_ _) | (with_reducible refine Kd.C_drew ?_))); (case side2 => exact HC0_1.out); rintro e w9 ⟨v351, rfl, ho0, hb⟩; refine ⟨_, rfl, ?_⟩; have HO352 := Aside0.mk (Kd.R_lower ho0 (below_size (zy HB))); replace BK348 := zb BK348 hb; replace HB := zh HB hb; clear hb ho0; obtain ⟨Ao10, co10, eo10⟩ := Kd.R_slice HO352.out; subst eo10; obtain ⟨_, _, _, _⟩ := zc2 BK348))
  go_loopg [4, 19] k (fun kq v4 v19 w' => ∃ (x4_1 : List Int) (x19_1 : Int), v19 = .int .i64 x19_1 ∧ Aside0 (spec_NeedlessClues.l0 kq x4_1 (t350.length : Int) (l0_1.length : Int) x19_1 a0_0 l0_1 = some (r1, r2)) ∧ Aside0 (kq ≤ k) ∧ Aside0 (Kd.R (Kd.int .i64) 3 w' w.heap.size (fun _ => True) v4 x4_1) ∧ Aside0 (w'.heap[gb348]? = some (.cells #[.int .i64 a0_0, (.slice A0_1 l0_1.length c0_1)] 28 (0, 0))) ∧ Aside0 (Below w.heap.size w w'))
  case atStart => exact ⟨(([] : List Int)), (0), zu, H', ⟨Nat.le_refl _⟩, ⟨by first | exact Kd.R_nil _ _ _ _ _ | exact Kd.N_nil _ _ _ _ _ | exact Kd.V_nil _ _ _ _ _ | exact Kd.Q_nil _ _ _ _ _ | exact Kd.S_nil _ _ _ _ _⟩, zk BK348, ⟨zy HB⟩⟩
  case round =>
   clear H'
   obtain ⟨x4_1, x19_1, rfl, HA, HK1, HO_4, BK348, HB⟩ := hrel
   cases gk with
   | zero => exact absurd HA.out (by simp [spec_NeedlessClues.l0])
   | succ k1 =>
    have H := HA.out; clear HA; simp only [spec_NeedlessClues.l0] at H
    by_cases c12 : x19_1 < (l0_1.length : Int)
    ·rw [if_pos c12] at H
     have c12b0 : decide (x19_1 < (l0_1.length : Int)) = true := decide_eq_true c12; clear c12; replace H := Option.bind_eq_some_iff.mp H; obtain ⟨t353, A130, H⟩ := H; (try dsimp only at H); have A13 := Aside0.mk A130; clear A130; replace H := Option.bind_eq_some_iff.mp H; obtain ⟨t356, A140, H⟩ := H; (try dsimp only at H); have A14 := Aside0.mk A140; clear A140
     by_cases c15 : (t356.length : Int) = (t350.length : Int)
     ·rw [if_pos c15] at H
      have c15b0 : ((t356.length : Int) == (t350.length : Int)) = true := beq_iff_eq.mpr c15
      have c15b1 : ((t356.length : Int) != (t350.length : Int)) = false := bne_eq_false_iff_eq.mpr c15
      have c15b2 : (t356.length == t350.length) = true := by first | simpa using c15 | (simp at c15 ⊢; omega)
      clear c15
      by_cases c16 : x4_1.length < 17592186044416
      ·rw [if_pos c16] at H
       have LMc16 := Aside0.mk c16; clear c16
       obtain ⟨y359, hy359⟩ : ∃ y_ : List Int, y_ = (x4_1 ++ [x19_1]) := ⟨_, rfl⟩
       replace H : (spec_NeedlessClues.l0 k1 y359 (t350.length : Int) (l0_1.length : Int) (wrap64 (x19_1 + 1)) a0_0 l0_1) = some (r1, r2) := by first | (rw [hy359]; with_reducible exact H) | (have H2_ := (Option.bind_some _ _).symm.trans H; rw [hy359]; with_reducible exact H2_) | (have H2_ := (Option.bind_some _ _).symm.trans H; with_reducible exact H2_) | with_reducible exact H | (rw [hy359]; exact H) | exact H
       have Ny359 := Aside0.mk hy359; clear hy359; have H' := Aside0.mk H; clear H
       try go_wp2
       replace HO_4 := Aside0.mk (Kd.R_drew HO_4.out); replace BK348 := Aside0.mk (blk_drew BK348.out); replace HB := Aside0.mk (below_drew1 HB.out)
       refine start_ (n := 10) (S := fun w' => w'.cell? ⟨gb348, 0, none⟩ = some (.int .i64 a0_0) ∧ w'.cell? ⟨gb348, 1, none⟩ = some (.slice A0_1 l0_1.length c0_1)) (ds := []) #[false, false, false, false, false, false, false, false, false, false] (by kernel_rfl) rfl rfl ⟨(blk_cell BK348.out 0).trans rfl, (blk_cell BK348.out 1).trans rfl⟩ (fun hHeld => ?_); refine with_tabW spec_NeedlessClues.tab8 spec_NeedlessClues.bits8 (fun HT_ HW_ => ?_)
       generalize wr.drew = w17 at HO_4 BK348 HB hHeld ⊢
       refine zA 0 22 HT_ ?_
       refine zA 2 24 HT_ ?_
       refine zA 4 26 HT_ ?_
       refine zA 8 30 HT_ ?_
       refine zT 1 23 HT_ HW_ hHeld ?_
       refine zT 3 25 HT_ HW_ hHeld ?_
       refine zO 5 (some 27) HT_ (fun K hK => ?_)
       refine goes_ Try.func47 (by kernel_rfl) rfl #[.slice A0_1 l0_1.length c0_1, .int .i64 x19_1] (by rfl) rfl rfl zO4_0 ?_
       with_reducible refine (spec_pzWithout.calls _ _ l0_1 x19_1 t353 _ ?side1 ?side2 A13.out).mono ?_
       (case side1 => repeat (first | exact (Kd.C_below HR0_1.out HB.out) | (with_reducible refine Kd.C_alloc ?_ _) | (with_reducible refine Kd.C_drewN ?_ _) | (with_reducible refine Kd.C_drew ?_)))
       (case side2 => exact HC0_1.out)
       rintro e w18 ⟨v354, rfl, ho0, hb⟩
       refine ⟨_, rfl, ?_⟩
       have HO355 := Aside0.mk (Kd.R_lower ho0 (below_size (zy HB)))
       replace HO_4 := zo HO_4 hb; replace BK348 := zb BK348 hb; replace HB := zh HB hb
       (try clear hb)
       (try clear hb2)
       (try clear hk)
       (try clear hi)
       (try clear ho0)
       obtain ⟨Ao19, co19, eo19⟩ := Kd.R_slice HO355.out
       (first | subst eo19 | (injection eo19 with f1_ f2_ f3_; have f4_ := f1_.symm; have f5_ := f3_.symm; clear f1_ f2_ f3_; subst f4_; subst f5_))
       refine hK.out _ _ ⟨(blk_cell BK348.out 0).trans rfl, (blk_cell BK348.out 1).trans rfl⟩ (fun hHeld => ?_)
       clear hK K
       refine zN 27 ?_
       refine zO 6 (some 28) HT_ (fun K hK => ?_)
       refine goes_ Try.func55 (by kernel_rfl) rfl #[.int .i64 a0_0, .slice Ao19 t353.length co19] (by rfl) rfl rfl zO4_0 ?_
       with_reducible refine (spec_pzAll.calls k1 a0_0 _ _ t353 t356 _ ?side1 ?side2 A14.out).mono ?_
       (case side1 => repeat (first | exact (Kd.R_reads' HO355.out).2.2 | (with_reducible refine Kd.C_alloc ?_ _) | (with_reducible refine Kd.C_drewN ?_ _) | (with_reducible refine Kd.C_drew ?_)))
       (case side2 => exact (Kd.R_reads' HO355.out).2.1)
       rintro e w20 ⟨v357, rfl, ho0, hb⟩
       refine ⟨_, rfl, ?_⟩
       have HO358 := Aside0.mk (Kd.R_lower ho0 (below_size (zy HB)))
       replace HO_4 := zo HO_4 hb; replace HO355 := zo HO355 hb; replace BK348 := zb BK348 hb; replace HB := zh HB hb
       (try clear hb)
       (try clear hb2)
       (try clear hk)
       (try clear hi)
       (try clear ho0)
       obtain ⟨Ao21, co21, eo21⟩ := Kd.R_slice HO358.out
       (first | subst eo21 | (injection eo21 with f1_ f2_ f3_; have f4_ := f1_.symm; have f5_ := f3_.symm; clear f1_ f2_ f3_; subst f4_; subst f5_))
       refine hK.out _ _ ⟨(blk_cell BK348.out 0).trans rfl, (blk_cell BK348.out 1).trans rfl⟩ (fun hHeld => ?_)
       clear hK K
       refine zN 28 ?_
       refine zA 7 29 HT_ ?_
       refine zA 9 31 HT_ ?_
       refine done_ (done_of HT_.out (by kernel_rfl)) ?_
       try go_wp2_with (first | ((with_reducible refine gate_builtin (b := .append) (xs := #[.tmp 32, .tmp 34]) rfl ?_); at_builtin; refine Kd.R_append (Kd.int .i64) (w0 := w) w.heap.size rfl (.tmp 32) (.tmp 34) 35 3 (.int .i64 0) 8 rfl Try.underlying35 info3 rfl (by decide) zO4_2 u4 x4_1 x19_1 [.int .i64 x19_1] (fun _ => True) (fun _ => False) rfl rfl ?aP (fun _ hk => hk.elim) ?aF ?aO ?aB ?aS ?aL ?_; (case aP => exact rfl); (case aB => exact (zy HB)); (case aF => exact (fun _ _ => trivial)); (case aO => exact (zs HO_4)); (case aS => exact (below_size (zy HB))); (case aL => have := LMc16.out; omega); intro v360 w22 ho hb hg hat; rw [← Ny359.out] at ho; have n0_ := Aside0.mk (blk_grown (zq BK348) hg (Kd.R_ne HO_4.out BK348.out (by decide))); have n1_ := Aside0.mk (Kd.R_over' (zs HO355) (Kd.R_typed (zs HO_4)) (by decide) hg); have n2_ := Aside0.mk (Kd.R_over' (zs HO358) (Kd.R_typed (zs HO_4)) (by decide) hg); have HO361 := Aside0.mk (ho); replace HB := Aside0.mk hb; clear HO_4; clear BK348; have BK348 := n0_; clear n0_; clear HO355; have HO355 := n1_; clear n1_; clear HO358; have HO358 := n2_; clear n2_; clear ho hb hg hat))
       go_roundg k1
       case measure => have := HK1.out; omega
       case rel => exact ⟨(y359), (wrap64 (x19_1 + 1)), zu, H', ⟨by have := HK1.out; omega⟩, zp HO361, zk BK348, ⟨zy HB⟩⟩
      ·rw [if_neg c16] at H
       exact absurd H zO4_3
     ·rw [if_neg c15] at H
      have c15b0 : ((t356.length : Int) == (t350.length : Int)) = false := beq_eq_false_iff_ne.mpr c15
      have c15b1 : ((t356.length : Int) != (t350.length : Int)) = true := bne_iff_ne.mpr c15
      have c15b2 : (t356.length == t350.length) = false := by first | simpa using c15 | (simp at c15 ⊢; omega)
      have H' := Aside0.mk H; clear H
      try go_wp2
      replace HO_4 := Aside0.mk (Kd.R_drew HO_4.out); replace BK348 := Aside0.mk (blk_drew BK348.out); replace HB := Aside0.mk (below_drew1 HB.out)
      refine start_ (n := 10) (S := fun w' => w'.cell? ⟨gb348, 0, none⟩ = some (.int .i64 a0_0) ∧ w'.cell? ⟨gb348, 1, none⟩ = some (.slice A0_1 l0_1.length c0_1)) (ds := []) #[false, false, false, false, false, false, false, false, false, false] (by kernel_rfl) rfl rfl ⟨(blk_cell BK348.out 0).trans rfl, (blk_cell BK348.out 1).trans rfl⟩ (fun hHeld => ?_); refine with_tabW spec_NeedlessClues.tab8 spec_NeedlessClues.bits8 (fun HT_ HW_ => ?_)
      generalize wr.drew = w23 at HO_4 BK348 HB hHeld ⊢
      refine zA 0 22 HT_ ?_
      refine zA 2 24 HT_ ?_
      refine zA 4 26 HT_ ?_
      refine zA 8 30 HT_ ?_
      refine zT 1 23 HT_ HW_ hHeld ?_
      refine zT 3 25 HT_ HW_ hHeld ?_
      refine zO 5 (some 27) HT_ (fun K hK => ?_)
      refine goes_ Try.func47 (by kernel_rfl) rfl #[.slice A0_1 l0_1.length c0_1, .int .i64 x19_1] (by rfl) rfl rfl zO4_0 ?_
      with_reducible refine (spec_pzWithout.calls _ _ l0_1 x19_1 t353 _ ?side1 ?side2 A13.out).mono ?_
      (case side1 => repeat (first | exact (Kd.C_below HR0_1.out HB.out) | (with_reducible refine Kd.C_alloc ?_ _) | (with_reducible refine Kd.C_drewN ?_ _) | (with_reducible refine Kd.C_drew ?_)))
      (case side2 => exact HC0_1.out)
      rintro e w24 ⟨v354, rfl, ho0, hb⟩
      refine ⟨_, rfl, ?_⟩
      have HO355 := Aside0.mk (Kd.R_lower ho0 (below_size (zy HB)))
      replace HO_4 := zo HO_4 hb; replace BK348 := zb BK348 hb; replace HB := zh HB hb
      (try clear hb)
      (try clear hb2)
      (try clear hk)
      (try clear hi)
      (try clear ho0)
      obtain ⟨Ao25, co25, eo25⟩ := Kd.R_slice HO355.out
      (first | subst eo25 | (injection eo25 with f1_ f2_ f3_; have f4_ := f1_.symm; have f5_ := f3_.symm; clear f1_ f2_ f3_; subst f4_; subst f5_))
      refine hK.out _ _ ⟨(blk_cell BK348.out 0).trans rfl, (blk_cell BK348.out 1).trans rfl⟩ (fun hHeld => ?_)
      clear hK K
      refine zN 27 ?_
      refine zO 6 (some 28) HT_ (fun K hK => ?_)
      refine goes_ Try.func55 (by kernel_rfl) rfl #[.int .i64 a0_0, .slice Ao25 t353.length co25] (by rfl) rfl rfl zO4_0 ?_
      with_reducible refine (spec_pzAll.calls k1 a0_0 _ _ t353 t356 _ ?side1 ?side2 A14.out).mono ?_
      (case side1 => repeat (first | exact (Kd.R_reads' HO355.out).2.2 | (with_reducible refine Kd.C_alloc ?_ _) | (with_reducible refine Kd.C_drewN ?_ _) | (with_reducible refine Kd.C_drew ?_)))
      (case side2 => exact (Kd.R_reads' HO355.out).2.1)
      rintro e w26 ⟨v357, rfl, ho0, hb⟩
      refine ⟨_, rfl, ?_⟩
      have HO358 := Aside0.mk (Kd.R_lower ho0 (below_size (zy HB)))
      replace HO_4 := zo HO_4 hb; replace HO355 := zo HO355 hb; replace BK348 := zb BK348 hb; replace HB := zh HB hb
      (try clear hb)
      (try clear hb2)
      (try clear hk)
      (try clear hi)
      (try clear ho0)
      obtain ⟨Ao27, co27, eo27⟩ := Kd.R_slice HO358.out
      (first | subst eo27 | (injection eo27 with f1_ f2_ f3_; have f4_ := f1_.symm; have f5_ := f3_.symm; clear f1_ f2_ f3_; subst f4_; subst f5_))
      refine hK.out _ _ ⟨(blk_cell BK348.out 0).trans rfl, (blk_cell BK348.out 1).trans rfl⟩ (fun hHeld => ?_)
      clear hK K
      refine zN 28 ?_
      refine zA 7 29 HT_ ?_
      refine zA 9 31 HT_ ?_
      refine done_ (done_of HT_.out (by kernel_rfl)) ?_
      try go_wp2
      go_roundg k1
      case measure => have := HK1.out; omega
      case rel => exact ⟨(x4_1), (wrap64 (x19_1 + 1)), zu, H', ⟨by have := HK1.out; omega⟩, zp HO_4, zk BK348, ⟨zy HB⟩⟩
    ·rw [if_neg c12] at H
     have c12b0 : decide (x19_1 < (l0_1.length : Int)) = false := decide_eq_false c12; clear c12; simp only [Option.some.injEq, Prod.mk.injEq] at H; obtain ⟨rfl, rfl⟩ := H
     go_wp2
     go_ret2
     exact ⟨_, zt, by (with_reducible repeat (first | apply Kd.R_alloc | apply Kd.R_drewN | apply Kd.R_drew)); exact HO_4.out, zy HB⟩
 ·replace c3 := Bool.eq_false_iff.mpr c3
  subst c3; rw [if_neg (show ¬ (false = true) by decide)] at H; simp only [Option.some.injEq, Prod.mk.injEq] at H; obtain ⟨rfl, rfl⟩ := H
  go_enter Try.func14, Try.ntmps14
  go_wp2_with (first | ((with_reducible refine gate_dst (N := 1) rfl ?_); refine zE 1 #[.int .i64 a0_0, .slice A0_1 l0_1.length c0_1] 28 ?_; intro gb348 hg w28 hbox hb; have BK348 := Aside0.mk (hbox); have GW348 := zg HB hg; have GE348 := GW348; replace HB := zh HB hb; clear hb hbox hg; obtain ⟨_, _, _, _⟩ := zc2 BK348) | ((with_reducible refine gate_callee (f := 45) rfl ?_); refine zG (some 8) Try.func45 #[.agg #[.int .i64 a0_0, .slice A0_1 l0_1.length c0_1]] ?_; (with_reducible refine (spec_pzGood.calls k a0_0 _ _ l0_1 false _ ?side1 ?side2 A2.out).mono ?_); (case side1 => repeat (first | exact (Kd.C_below HR0_1.out HB.out) | (with_reducible refine Kd.C_alloc ?_ _) | (with_reducible refine Kd.C_drewN ?_ _) | (with_reducible refine Kd.C_drew ?_))); (case side2 => exact HC0_1.out); rintro e w30 ⟨rfl, hb⟩; refine ⟨_, rfl, ?_⟩; replace BK348 := zb BK348 hb; replace HB := zh HB hb; clear hb))
  go_ret2
  exact ⟨_, zt, by first | exact Kd.R_nil _ _ _ _ _ | exact Kd.N_nil _ _ _ _ _ | exact Kd.V_nil _ _ _ _ _ | exact Kd.Q_nil _ _ _ _ _ | exact Kd.S_nil _ _ _ _ _, zy HB⟩

end Go.Proofs.Ythioojdannlhiaa.P

namespace Go.Proofs.Ythioojdannlhiaa.P
open Go.RowKit Go.Proofs.YthioojdannlhiaaW.PrintWords Go.Proofs.YthioojdannlhiaaW.PrintLast Go.Proofs.YthioojdannlhiaaW.PrintMore
set_option linter.unusedVariables false
set_option linter.unusedSimpArgs false
def mCount (w : Int) (l : List S43) : Int × Bool := if mPuzzle w l = true then (((mSols w l).length : Int), true) else (0, false)
theorem impl_CountSolutions.ev (w : Int) (l : List S43) : Ev (fun k => impl_CountSolutions.f k w l) (mCount w l) := by
 unfold impl_CountSolutions.f mCount
 refine Ev.bind (impl_Solutions.ev w l) ?_
 unfold mSolutions
 refine Ev.const ?_
 split <;> rfl
def needs (w : Int) (l : List S43) (n : Int) (i d : Nat) : List Int := ((List.range' i d).filter fun j => ((mSols w (mWo l j)).length : Int) == n).map fun (j : Nat) => (j : Int)
theorem needs_step (w : Int) (l : List S43) (n : Int) (i d : Nat) : needs w l n i (d + 1) = (if ((mSols w (mWo l i)).length : Int) = n then [(i : Int)] else []) ++ needs w l n (i + 1) d := by
 unfold needs
 rw [List.range'_succ, List.filter_cons]
 by_cases h : ((mSols w (mWo l i)).length : Int) = n <;> simp [h]
theorem needs_len (w : Int) (l : List S43) (n : Int) (i d : Nat) : (needs w l n i d).length ≤ d := by
 unfold needs; rw [List.length_map]; exact Nat.le_trans (List.length_filter_le _ _) zO4_3
def mNeed (w : Int) (l : List S43) : List Int × Bool := if mPuzzle w l = true then (needs w l ((mSols w l).length : Int) 0 l.length, true) else ([], false)
theorem mNeed_len (w : Int) (l : List S43) : (mNeed w l).1.length ≤ 1099511627776 := by
 unfold mNeed; split
 ·rename_i h; have := (mPuzzle_parts h).2.1; have := needs_len w l ((mSols w l).length : Int) 0 l.length; simp only; omega
 ·simp
theorem impl_NeedlessClues.ev_l (w : Int) (l : List S43) (n : Int) (h1 : inr 1 12 w = true) (h2 : l.length ≤ 6) (h3 : l.all mClueS = true) (d : Nat) : ∀ (i : Nat) (out : List Int), i + d = l.length → out.length ≤ i → Ev (fun k => impl_NeedlessClues.l0 k n out (l.length : Int) (i : Int) w l) (out ++ needs w l n i d, true) := by
 induction d with
 | zero =>
  intro i out hi ho
  refine Ev.succ ?_
  simp only [impl_NeedlessClues.l0, show ¬ ((i : Int) < (l.length : Int)) by omega, if_false]
  exact Ev.const (by simp [needs])
 | succ d ih =>
  intro i out hi ho
  refine Ev.succ ?_
  simp only [impl_NeedlessClues.l0, show ((i : Int) < (l.length : Int)) by omega, show out.length < 17592186044416 by omega, if_true]
  rw [wid (show -9223372036854775808 ≤ (i : Int) + 1 by omega) zO4_2]
  refine Ev.bind (impl_without.ev zO4_2 zO4_2) ?_
  refine Ev.bind (impl_solutions.ev h1 (mWo_all h3 i)) ?_
  rw [needs_step]
  by_cases h : ((mSols w (mWo l i)).length : Int) = n
  ·simp only [h, if_true]
   exact ev_eq (ih (i + 1) (out ++ [(i : Int)]) zO4_2 (by simp; omega)) (by rw [List.append_assoc])
  ·simp only [h, if_false, List.nil_append]
   exact ih (i + 1) out zO4_2 zO4_2
theorem impl_NeedlessClues.ev (w : Int) (l : List S43) : Ev (fun k => impl_NeedlessClues.f k w l) (mNeed w l) := by
 unfold impl_NeedlessClues.f mNeed
 refine Ev.bind (impl_CountSolutions.ev w l) ?_
 unfold mCount
 by_cases h : mPuzzle w l = true
 ·obtain ⟨h1, h2, h3⟩ := mPuzzle_parts h
  simp only [h, if_true]
  exact impl_NeedlessClues.ev_l w l _ h1 h2 h3 l.length 0 [] zO4_2 zO4_3
 ·simp only [h, Bool.false_eq_true, if_false]
  exact Ev.now _
theorem spec_NeedlessClues.ev_l (w : Int) (l : List S43) (n : Int) (h1 : inr 1 12 w = true) (h2 : l.length ≤ 6) (d : Nat) : ∀ (i : Nat) (out : List Int), i + d = l.length → out.length ≤ i → Ev (fun k => spec_NeedlessClues.l0 k out n (l.length : Int) (i : Int) w l) (out ++ needs w l n i d, true) := by
 induction d with
 | zero =>
  intro i out hi ho
  refine Ev.succ ?_
  simp only [spec_NeedlessClues.l0, show ¬ ((i : Int) < (l.length : Int)) by omega, if_false]
  exact Ev.const (by simp [needs])
 | succ d ih =>
  intro i out hi ho
  refine Ev.succ ?_
  simp only [spec_NeedlessClues.l0, show ((i : Int) < (l.length : Int)) by omega, show out.length < 17592186044416 by omega, if_true]
  rw [wid (show -9223372036854775808 ≤ (i : Int) + 1 by omega) zO4_2]
  refine Ev.bindc (spec_pzWithout.eq zO4_2 zO4_2) ?_
  refine Ev.bind (spec_pzAll.ev (by have := mWo_len (l := l) (i := i) zO4_2; omega) h1) ?_
  rw [needs_step]
  by_cases h : ((mSols w (mWo l i)).length : Int) = n
  ·simp only [h, if_true]
   exact ev_eq (ih (i + 1) (out ++ [(i : Int)]) zO4_2 (by simp; omega)) (by rw [List.append_assoc])
  ·simp only [h, if_false, List.nil_append]
   exact ih (i + 1) out zO4_2 zO4_2
theorem spec_NeedlessClues.ev (w : Int) (l : List S43) : Ev (fun k => spec_NeedlessClues.f k w l) (mNeed w l) := by
 unfold spec_NeedlessClues.f mNeed
 refine Ev.bind (spec_pzGood.ev w l) ?_
 by_cases h : mPuzzle w l = true
 ·obtain ⟨h1, h2, h3⟩ := mPuzzle_parts h
  simp only [h, if_true]
  refine Ev.bind (spec_pzAll.ev zO4_2 h1) ?_
  exact spec_NeedlessClues.ev_l w l _ h1 h2 l.length 0 [] zO4_2 zO4_3
 ·simp only [h, Bool.false_eq_true, if_false]
  exact Ev.now _
theorem mSols_filter (w : Int) (l : List S43) : mSols w l = (mSols w []).filter (fitsAll l) := by
 unfold mSols mRows
 rw [List.filter_flatMap]
 refine congrArg (fun g => List.flatMap g _) (funext fun i => ?_)
 unfold mRow
 rw [List.filter_filter]
 exact congrArg (fun p => List.filter p _) (funext fun x => by simp [fitsAll])
theorem mSols_sub {w : Int} {l m : List S43} (h : ∀ x, fitsAll l x = true → fitsAll m x = true) : (mSols w l).Sublist (mSols w m) := by
 have e : mSols w l = (mSols w m).filter (fitsAll l) := by
  rw [mSols_filter w l, mSols_filter w m, List.filter_filter]
  congr 1
  funext x
  cases hx : fitsAll l x with
  | false => simp
  | true => simp [h x hx]
 rw [e]
 exact List.filter_sublist
theorem fits_wo {l : List S43} (i : Nat) (x : S41) (h : fitsAll l x = true) : fitsAll (mWo l i) x = true := by
 unfold fitsAll at h ⊢
 exact mWo_all h i
theorem fits_wo2 {l : List S43} {i j : Nat} (hji : j < i) (hi : i < l.length) (x : S41) (h : fitsAll (mWo l j) x = true) : fitsAll (mWo (mWo l i) j) x = true := by
 unfold fitsAll at h ⊢
 rw [List.all_eq_true] at h ⊢
 intro c hc
 refine h c ?_
 unfold mWo at hc ⊢
 rw [List.mem_append] at hc ⊢
 rcases hc with hc | hc
 ·left
  rw [List.take_append_of_le_length (by rw [List.length_take]; omega), List.take_take, Nat.min_eq_left zO4_2] at hc
  exact hc
 ·right
  rw [List.drop_append_of_le_length (by rw [List.length_take]; omega), List.mem_append] at hc
  rcases hc with hc | hc
  ·rw [List.drop_take] at hc
   exact List.mem_of_mem_take hc
  ·rw [show i + 1 = (j + 1) + (i - j) by omega, ← List.drop_drop] at hc
   exact List.mem_of_mem_drop hc
theorem hardF_spec (w : Int) (d : Nat) : ∀ (l : List S43) (i : Nat), i + d = l.length → (mSols w l).length = 1 → (∀ j, j < i → (mSols w (mWo l j)).length ≠ 1) → mSols w (hardF w d l i) = mSols w l ∧ ∀ j, j < (hardF w d l i).length → (mSols w (mWo (hardF w d l i) j)).length ≠ 1 := by
 induction d with
 | zero =>
  intro l i hi h1 hn
  exact ⟨rfl, fun j hj => hn j (by have : (hardF w 0 l i) = l := rfl; rw [this] at hj; omega)⟩
 | succ d ih =>
  intro l i hi h1 hn
  unfold hardF
  have hlen := mWo_len (l := l) (i := i) zO4_2
  by_cases hc : (((mSols w (mWo l i)).length : Int) == 1) = true
  ·rw [if_pos hc]
   have hc1 : (mSols w (mWo l i)).length = 1 := by have := beq_iff_eq.1 hc; omega
   have hsub : (mSols w l).Sublist (mSols w (mWo l i)) := mSols_sub (fun x hx => fits_wo i x hx)
   have heq : mSols w l = mSols w (mWo l i) := hsub.eq_of_length zO4_2
   obtain ⟨r1, r2⟩ := ih (mWo l i) i zO4_2 hc1 (fun j hj hbad => by
    have h2 := hn j hj
    have s1 : (mSols w l).Sublist (mSols w (mWo l j)) := mSols_sub (fun x hx => fits_wo j x hx)
    have s2 : (mSols w (mWo l j)).Sublist (mSols w (mWo (mWo l i) j)) := mSols_sub (fun x hx => fits_wo2 hj zO4_2 x hx)
    have := s1.length_le
    have := s2.length_le
    omega)
   exact ⟨r1.trans heq.symm, r2⟩
  ·rw [if_neg hc]
   exact ih l (i + 1) zO4_2 h1 (fun j hj => by
    by_cases e : j = i
    ·subst e; intro hb; exact hc (by simp [hb])
    ·exact hn j zO4_2)
theorem hardF_all (w : Int) (d : Nat) : ∀ (l : List S43) (i : Nat), l.all mClueS = true → (hardF w d l i).all mClueS = true := by
 induction d with
 | zero => intro l i h; exact h
 | succ d ih =>
  intro l i h
  unfold hardF
  split
  ·exact ih _ _ (mWo_all h i)
  ·exact ih _ _ h
theorem needs_nil {w : Int} {l : List S43} (h : ∀ j, j < l.length → (mSols w (mWo l j)).length ≠ 1) : needs w l 1 0 l.length = [] := by
 unfold needs
 rw [List.map_eq_nil_iff, List.filter_eq_nil_iff]
 intro j hj
 rw [List.mem_range'_1] at hj
 have := h j zO4_2
 simp only [beq_iff_eq]
 omega
theorem mHarder_ok {w : Int} {l : List S43} (h : (mHarder w l).2.2 = true) : mPuzzle w l = true ∧ (mSols w l).length = 1 ∧ mHarder w l = (w, hardF w l.length l 0, true) := by
 unfold mHarder at h ⊢
 by_cases e : (mPuzzle w l && (((mSols w l).length : Int) == 1)) = true
 ·rw [if_pos e]
  rw [Bool.and_eq_true, beq_iff_eq] at e
  exact ⟨e.1, by omega, rfl⟩
 ·rw [if_neg e] at h; exact absurd h zO4_3
def mNx (s : Int) : Int := Int.tmod (s * 269 + 1361) 10007
theorem mNx_bd {s : Int} (h : 0 ≤ s ∧ s ≤ 10006) : 0 ≤ mNx s ∧ mNx s ≤ 10006 := by
 unfold mNx
 rw [Int.tmod_eq_emod_of_nonneg zO4_2]
 omega
theorem mkNext.eq {s : Int} (h : 0 ≤ s ∧ s ≤ 10006) : mkNext.f s = some (mNx s) := by
 unfold mkNext.f mNx
 rw [wid (show -9223372036854775808 ≤ s * 269 by omega) zO4_2, wid (show -9223372036854775808 ≤ s * 269 + 1361 by omega) zO4_2]
theorem spec_pzNext.eq {s : Int} (h : 0 ≤ s ∧ s ≤ 10006) : spec_pzNext.f s = some (mNx s) := by
 unfold spec_pzNext.f mNx
 rw [Int.mul_comm 269 s, wid (show -9223372036854775808 ≤ s * 269 by omega) zO4_2, wid (show -9223372036854775808 ≤ s * 269 + 1361 by omega) zO4_2]
/-- The side that a clue of kind k tells of. -/
def mSide (k z : Int) : Int := if k = 3 then Int.tmod z 2 else 0
theorem spec_pzOf.ev {k z w l r : Int} (h : mHidden w l r = true) : Ev (fun n => spec_pzOf.f n k z w l r) (k, (mVal k (mSide k z) w l r).1, (mVal k (mSide k z) w l r).2) := by
 unfold spec_pzOf.f mSide
 by_cases h3 : k = 3
 ·simp only [if_pos h3]; exact Ev.bind (spec_pzValue.ev k (Int.tmod z 2) w l r h) (Ev.now _)
 ·simp only [if_neg h3]; exact Ev.bind (spec_pzValue.ev k 0 w l r h) (Ev.now _)
theorem impl_told.evz {k z w l r : Int} (h : mHidden w l r = true) (hk : 0 ≤ k ∧ k ≤ 5) (hz : 0 ≤ z) : Ev (fun n => impl_told.f n w l r k (Int.tmod z 2)) (k, (mVal k (mSide k z) w l r).1, (mVal k (mSide k z) w l r).2) := by
 unfold mSide
 have ht : Int.tmod z 2 = 0 ∨ Int.tmod z 2 = 1 := by rw [Int.tmod_eq_emod_of_nonneg hz]; omega
 by_cases h3 : k = 3
 ·rw [if_pos h3]; exact impl_told.ev k (Int.tmod z 2) w l r h hk ht (fun hn => absurd h3 hn)
 ·rw [if_neg h3]
  have e := impl_told.ev k 0 w l r h hk (.inl rfl) (fun _ => rfl)
  have e2 : ∀ n, impl_told.f n w l r k (Int.tmod z 2) = impl_told.f n w l r k 0 := by
   intro n
   simp only [impl_told.f, if_neg h3]
  simp only [e2]
  exact e
/-- The clues that are made, n of them, from the seed s on. -/
def mMk (w l r : Int) : Nat → Int → List S43
 | 0, _ => []
 | n + 1, s => ⟨Int.tmod (mNx s) 6, (mVal (Int.tmod (mNx s) 6) (mSide (Int.tmod (mNx s) 6) (mNx (mNx s))) w l r).1, (mVal (Int.tmod (mNx s) 6) (mSide (Int.tmod (mNx s) 6) (mNx (mNx s))) w l r).2⟩ :: mMk w l r n (mNx (mNx s))
theorem mMk_len (w l r : Int) (n : Nat) : ∀ s, (mMk w l r n s).length = n := by
 induction n with
 | zero => intro s; rfl
 | succ n ih => intro s; simp only [mMk, List.length_cons, ih]
def mMake (w l r n s : Int) : Int × List S43 × Bool := if (mHidden w l r && (inr 0 6 n && inr 0 9999 s)) = true then (w, mMk w l r n.toNat s, true) else (0, [], false)
theorem mMake_len (w l r n s : Int) : (mMake w l r n s).2.1.length ≤ 1099511627776 := by
 unfold mMake; split
 ·rename_i h; simp only [Bool.and_eq_true, inr_iff] at h; simp only [mMk_len]; omega
 ·simp
theorem kind_bd {s : Int} (h : 0 ≤ s) : 0 ≤ Int.tmod s 6 ∧ Int.tmod s 6 ≤ 5 := by rw [Int.tmod_eq_emod_of_nonneg h]; omega
theorem impl_MakePuzzle.ev_l (w l r c : Int) (h : mHidden w l r = true) (hc : c ≤ 6) (d : Nat) : ∀ (i s : Int) (out : List S43), 0 ≤ i → i + d = c → out.length ≤ 6 - d → 0 ≤ s ∧ s ≤ 10006 → Ev (fun k => impl_MakePuzzle.l0 k c i w l r s w out) (w, out ++ mMk w l r d s, true) := by
 induction d with
 | zero =>
  intro i s out h0 hi ho hs
  refine Ev.succ ?_
  simp only [impl_MakePuzzle.l0, show ¬ (i < c) by omega, if_false, mMk, List.append_nil]
  exact Ev.now _
 | succ d ih =>
  intro i s out h0 hi ho hs
  have hs1 := mNx_bd hs
  have hs2 := mNx_bd hs1
  refine Ev.succ ?_
  simp only [impl_MakePuzzle.l0, show i < c by omega, if_true]
  refine Ev.bindc (mkNext.eq hs) ?_
  refine Ev.bindc (mkNext.eq hs1) ?_
  refine Ev.bind (impl_told.evz h (kind_bd hs1.1) hs2.1) ?_
  simp only [show out.length < 5864062014805 by omega, if_true]
  rw [wid (show -9223372036854775808 ≤ i + 1 by omega) zO4_2]
  refine ev_eq (ih (i + 1) (mNx (mNx s)) _ zO4_2 zO4_2 zO4_1 hs2) ?_
  simp only [mMk, List.append_assoc, List.cons_append, List.nil_append]
theorem impl_MakePuzzle.ev (w l r n s : Int) : Ev (fun k => impl_MakePuzzle.f k w l r n s) (mMake w l r n s) := by
 unfold impl_MakePuzzle.f mMake
 refine Ev.bindc (impl_areHidden.eq w l r) ?_
 cases h : mHidden w l r with
 | false =>
  simp only [Bool.false_eq_true, if_false, Bool.false_and]
  refine Ev.succ ?_
  simp only [impl_MakePuzzle.j0, if_true]
  exact Ev.now _
 | true =>
  simp only [if_true, Bool.true_and]
  refine Ev.bindc (impl_within.eq n 0 6) ?_
  cases hn : inr 0 6 n with
  | false =>
   simp only [Bool.false_eq_true, if_false, Bool.false_and]
   refine Ev.succ ?_
   simp only [impl_MakePuzzle.j0, if_true]
   exact Ev.now _
  | true =>
   simp only [if_true, Bool.true_and]
   refine Ev.bindc (impl_within.eq s 0 9999) ?_
   cases hs : inr 0 9999 s with
   | false =>
    simp only [Bool.false_eq_true, if_false, Bool.not_false]
    refine Ev.succ ?_
    simp only [impl_MakePuzzle.j0, if_true]
    exact Ev.now _
   | true =>
    simp only [if_true, Bool.not_true]
    refine Ev.succ ?_
    simp only [impl_MakePuzzle.j0, Bool.false_eq_true, if_false]
    have hn' := inr_iff.1 hn
    have hs' := inr_iff.1 hs
    exact ev_eq (impl_MakePuzzle.ev_l w l r n h zO4_2 n.toNat 0 s [] zO4_2 zO4_2 zO4_3 zO4_2) (by rw [List.nil_append])
theorem spec_MakePuzzle.ev_l (w l r : Int) (h : mHidden w l r = true) (d : Nat) : ∀ (s : Int) (out : List S43), d ≤ 6 → out.length ≤ 6 - d → 0 ≤ s ∧ s ≤ 10006 → Ev (fun k => spec_MakePuzzle.l0 k (d : Int) s w l r w out) (w, out ++ mMk w l r d s, true) := by
 induction d with
 | zero =>
  intro s out hd ho hs
  refine Ev.succ ?_
  simp only [spec_MakePuzzle.l0, show ¬ (((0 : Nat) : Int) > 0) by omega, if_false, mMk, List.append_nil]
  exact Ev.now _
 | succ d ih =>
  intro s out hd ho hs
  have hs1 := mNx_bd hs
  have hs2 := mNx_bd hs1
  refine Ev.succ ?_
  simp only [spec_MakePuzzle.l0, show ((d + 1 : Nat) : Int) > 0 by omega, if_true]
  refine Ev.bindc (spec_pzNext.eq hs) ?_
  refine Ev.bindc (spec_pzNext.eq hs1) ?_
  refine Ev.bind (spec_pzOf.ev h) ?_
  simp only [show out.length < 5864062014805 by omega, if_true]
  rw [wid (show -9223372036854775808 ≤ ((d + 1 : Nat) : Int) - 1 by omega) zO4_2, show ((d + 1 : Nat) : Int) - 1 = (d : Int) by omega]
  refine ev_eq (ih (mNx (mNx s)) _ zO4_2 zO4_1 hs2) ?_
  simp only [mMk, List.append_assoc, List.cons_append, List.nil_append]
theorem spec_MakePuzzle.ev (w l r n s : Int) : Ev (fun k => spec_MakePuzzle.f k w l r n s) (mMake w l r n s) := by
 unfold spec_MakePuzzle.f mMake
 refine Ev.bindc (spec_pzHidden.eq w l r) ?_
 cases h : mHidden w l r with
 | false =>
  simp only [Bool.false_eq_true, if_false, Bool.false_and]
  refine Ev.succ ?_
  simp only [spec_MakePuzzle.j0, if_true]
  exact Ev.now _
 | true =>
  simp only [if_true, Bool.true_and]
  refine Ev.bindc (spec_l1In.eq n 0 6) ?_
  cases hn : inr 0 6 n with
  | false =>
   simp only [Bool.false_eq_true, if_false, Bool.false_and]
   refine Ev.succ ?_
   simp only [spec_MakePuzzle.j0, if_true]
   exact Ev.now _
  | true =>
   simp only [if_true, Bool.true_and]
   refine Ev.bindc (spec_l1In.eq s 0 9999) ?_
   cases hs : inr 0 9999 s with
   | false =>
    simp only [Bool.false_eq_true, if_false, Bool.not_false]
    refine Ev.succ ?_
    simp only [spec_MakePuzzle.j0, if_true]
    exact Ev.now _
   | true =>
    simp only [if_true, Bool.not_true]
    refine Ev.succ ?_
    simp only [spec_MakePuzzle.j0, Bool.false_eq_true, if_false]
    have hn' := inr_iff.1 hn
    have hs' := inr_iff.1 hs
    have hnn : n = (n.toNat : Int) := by omega
    have e := spec_MakePuzzle.ev_l w l r h n.toNat s [] zO4_2 zO4_3 zO4_2
    rw [← hnn] at e
    exact ev_eq e (by rw [List.nil_append])
theorem mVal_clue {k a w l r : Int} (h : mHidden w l r = true) (hk : 0 ≤ k ∧ k ≤ 5) (ha : a = 0 ∨ a = 1) (ha3 : k ≠ 3 → a = 0) : mClue k (mVal k a w l r).1 (mVal k a w l r).2 = true := by
 obtain ⟨h0, h1, h2⟩ := mHidden_iff.1 h
 have p1 := mul_bd (a := l) (b := r) (A := 12) (B := 12) zO4_2 zO4_2 zO4_2 zO4_2
 have p2 := mul_bd (a := l) (b := w) (A := 12) (B := 12) zO4_2 zO4_2 zO4_2 zO4_2
 have hk6 : k = 0 ∨ k = 1 ∨ k = 2 ∨ k = 3 ∨ k = 4 ∨ k = 5 := by omega
 rcases hk6 with rfl | rfl | rfl | rfl | rfl | rfl
 ·obtain rfl := ha3 zO4_2
  simp only [mVal, mClue, if_true, Bool.and_eq_true, Bool.or_eq_true, inr_iff, beq_iff_eq, decide_eq_true_eq]
  refine ⟨by omega, by omega, ?_⟩
  simp <;> omega
 ·obtain rfl := ha3 zO4_2
  simp only [mVal, mClue, show ¬ ((1 : Int) = 0) by omega, if_false, if_true, Bool.and_eq_true, Bool.or_eq_true, inr_iff, beq_iff_eq, decide_eq_true_eq]
  split <;> (refine ⟨by omega, by omega, ?_⟩; simp <;> omega)
 ·have q1 := loA_nonneg (a := l * r) (b := l + r) zO4_2 zO4_2
  have q2 := loB_pos (a := l * r) (b := l + r) zO4_2
  simp only [mVal, mClue, show ¬ ((2 : Int) = 0) by omega, show ¬ ((2 : Int) = 1) by omega, if_false, if_true, Bool.and_eq_true, Bool.or_eq_true, inr_iff, beq_iff_eq, decide_eq_true_eq]
  refine ⟨by omega, by omega, ?_⟩
  simp <;> omega
 ·simp only [mVal, mClue, show ¬ ((3 : Int) = 0) by omega, show ¬ ((3 : Int) = 1) by omega, show ¬ ((3 : Int) = 2) by omega, if_false, if_true, Bool.and_eq_true, Bool.or_eq_true, inr_iff, beq_iff_eq, decide_eq_true_eq]
  split <;> (refine ⟨by omega, by omega, ?_⟩; simp <;> omega)
 ·have q1 := loA_nonneg (a := l * w) (b := l + r) zO4_2 zO4_2
  have q2 := loB_pos (a := l * w) (b := l + r) zO4_2
  simp only [mVal, mClue, show ¬ ((4 : Int) = 0) by omega, show ¬ ((4 : Int) = 1) by omega, show ¬ ((4 : Int) = 2) by omega, show ¬ ((4 : Int) = 3) by omega, if_false, if_true, Bool.and_eq_true, Bool.or_eq_true, inr_iff, beq_iff_eq, decide_eq_true_eq]
  refine ⟨by omega, by omega, ?_⟩
  simp <;> omega
 ·obtain rfl := ha3 zO4_2
  simp only [mVal, mClue, show ¬ ((5 : Int) = 0) by omega, show ¬ ((5 : Int) = 1) by omega, show ¬ ((5 : Int) = 2) by omega, show ¬ ((5 : Int) = 3) by omega, show ¬ ((5 : Int) = 4) by omega, if_false, if_true, Bool.and_eq_true, Bool.or_eq_true, inr_iff, beq_iff_eq, decide_eq_true_eq]
  refine ⟨by omega, by omega, ?_⟩
  simp <;> omega
theorem mVal_fits (k a w l r : Int) : mFits k (mVal k a w l r).1 (mVal k a w l r).2 w l r = true := by
 by_cases h24 : k = 2 ∨ k = 4
 ·unfold mFits; rw [mVal_other k _ a w l r h24]; simp
 ·have e : (mVal k a w l r).1 = a := by
   unfold mVal
   by_cases h0 : k = 0
   ·simp [h0]
   ·by_cases h1 : k = 1
    ·simp [h1]
    ·by_cases h3 : k = 3
     ·simp [h3]
     ·simp [h0, h1, h3, show ¬ k = 2 by omega, show ¬ k = 4 by omega]
  unfold mFits; rw [e]; simp [e]
theorem mSide_ok {k z : Int} (hz : 0 ≤ z) : (mSide k z = 0 ∨ mSide k z = 1) ∧ (k ≠ 3 → mSide k z = 0) := by
 unfold mSide
 rw [Int.tmod_eq_emod_of_nonneg hz]
 split <;> omega
theorem mMk_all {w l r : Int} (h : mHidden w l r = true) (n : Nat) : ∀ s, 0 ≤ s ∧ s ≤ 10006 → ∀ c ∈ mMk w l r n s, mClueS c = true ∧ mFits c.f0 c.f1 c.f2 w l r = true := by
 induction n with
 | zero => intro s _ c hc; simp [mMk] at hc
 | succ n ih =>
  intro s hs c hc
  have h1 := mNx_bd hs
  have h2 := mNx_bd h1
  rcases List.mem_cons.1 hc with rfl | hc
  ·have hsd := mSide_ok (k := Int.tmod (mNx s) 6) (z := mNx (mNx s)) h2.1
   exact ⟨mVal_clue h (kind_bd h1.1) hsd.1 hsd.2, mVal_fits _ _ _ _ _⟩
  ·exact ih _ h2 c hc
theorem impl_LengthsOf.ev {w l r : Int} (h : mHidden w l r = true) : ∃ x y : Int, Ev (fun k => impl_LengthsOf.f k w l r) (x, y, mWhole (w * w + l * l) && mWhole (w * w + r * r)) := by
 obtain ⟨h0, h1, h2⟩ := mHidden_iff.1 h
 have hL : mLadders w l r = true := mLadders_iff.2 zO4_2
 have p3 := mul_bd (a := w) (b := w) (A := 12) (B := 12) zO4_2 zO4_2 zO4_2 zO4_2
 have p4 := mul_bd (a := l) (b := l) (A := 12) (B := 12) zO4_2 zO4_2 zO4_2 zO4_2
 have p5 := mul_bd (a := r) (b := r) (A := 12) (B := 12) zO4_2 zO4_2 zO4_2 zO4_2
 by_cases hb : (mWhole (w * w + l * l) && mWhole (w * w + r * r)) = true
 ·refine ⟨mCeil (w * w + l * l), mCeil (w * w + r * r), ?_⟩
  have hb2 := Bool.and_eq_true _ _ ▸ hb
  unfold impl_LengthsOf.f impl_SquaresOf.f
  simp only [impl_AreLadders.eq, Option.bind_some, hL, if_true]
  rw [wid (show -9223372036854775808 ≤ w * w by omega) zO4_2, wid (show -9223372036854775808 ≤ l * l by omega) zO4_2, wid (show -9223372036854775808 ≤ r * r by omega) zO4_2, wid (show -9223372036854775808 ≤ w * w + l * l by omega) zO4_2, wid (show -9223372036854775808 ≤ w * w + r * r by omega) zO4_2]
  refine Ev.bind (impl_rootOf.ev zO4_2 zO4_2) ?_
  refine Ev.bind (impl_rootOf.ev zO4_2 zO4_2) ?_
  simp only [Bool.and_eq_true] at hb
  simp only [hb.1, hb.2, if_true, Bool.and_self]
  exact Ev.now _
 ·refine ⟨0, 0, ?_⟩
  unfold impl_LengthsOf.f impl_SquaresOf.f
  simp only [impl_AreLadders.eq, Option.bind_some, hL, if_true]
  rw [wid (show -9223372036854775808 ≤ w * w by omega) zO4_2, wid (show -9223372036854775808 ≤ l * l by omega) zO4_2, wid (show -9223372036854775808 ≤ r * r by omega) zO4_2, wid (show -9223372036854775808 ≤ w * w + l * l by omega) zO4_2, wid (show -9223372036854775808 ≤ w * w + r * r by omega) zO4_2]
  refine Ev.bind (impl_rootOf.ev zO4_2 zO4_2) ?_
  refine Ev.bind (impl_rootOf.ev zO4_2 zO4_2) ?_
  cases e1 : mWhole (w * w + l * l) with
  | false => simp only [if_true, Bool.false_eq_true, if_false, Bool.false_and]; exact Ev.now _
  | true =>
   cases e2 : mWhole (w * w + r * r) with
   | false => simp only [if_true, Bool.false_eq_true, if_false, Bool.and_false]; exact Ev.now _
   | true => exact absurd (by rw [e1, e2]; rfl) hb
theorem spec_IsClue.ev (n k a b : Int) : Ev (fun m => spec_IsClue.f m n k a b) (inr 1 12 n && mClue k a b) := by
 obtain ⟨K, h⟩ := spec_pzClue.ev k a b
 refine ⟨K, fun m hm => ?_⟩
 have h := h m hm
 dsimp only at *
 unfold spec_IsClue.f spec_pzWide.f
 rw [spec_l1In.eq, h]
 cases inr 1 12 n <;> simp
theorem impl_IsClue.ev (n k a b : Int) : Ev (fun m => impl_IsClue.f m n k a b) (inr 1 12 n && mClue k a b) := by
 obtain ⟨K, h⟩ := impl_isClue.ev k a b
 refine ⟨K, fun m hm => ?_⟩
 have h := h m hm
 dsimp only at *
 unfold impl_IsClue.f impl_isSmall.f
 rw [impl_within.eq, h]
 cases inr 1 12 n <;> simp
theorem hid8 {i w : Int} {l : List S43} (hs : (mDrop w l i).2.2 = true) (hk : i = (l.length : Int) - 1) : Ev (fun k => laws_FnLaddersHiddenOfAll.j8 k i true w l (mDrop w l i).1 (mDrop w l i).2.1) true := by
 obtain ⟨hp, ⟨h0, h1⟩, he⟩ := mDrop_ok hs
 obtain ⟨q1, q2, q3⟩ := mPuzzle_parts hp
 obtain ⟨n, rfl⟩ : ∃ n : Nat, i = (n : Int) := ⟨i.toNat, by omega⟩
 have hn : n + 1 = l.length := by omega
 have hlt : n < l.length := by omega
 have hrd := rdC_get hlt
 have hw := mPuzzle_wo hp hlt
 have hlen := mWo_len hlt
 have hc : mClue (l[n]).f0 (l[n]).f1 (l[n]).f2 = true := List.all_eq_true.1 q3 _ (List.getElem_mem hlt)
 have hadd : mAdd w (mWo l n) (l[n]).f0 (l[n]).f1 (l[n]).f2 = (w, l, true) := by
  unfold mAdd
  rw [if_pos (by simp only [hw, hc, Bool.true_and, decide_eq_true_eq]; omega)]
  have e := mWo_end hn
  have e2 : mWo l n ++ [(⟨(l[n]).f0, (l[n]).f1, (l[n]).f2⟩ : S43)] = l := e
  rw [e2]
 have ha := impl_AddClue.ev w (mWo l n) (l[n]).f0 (l[n]).f1 (l[n]).f2
 rw [hadd] at ha
 simp only [he, Int.toNat_natCast]
 refine Ev.succ ?_
 simp only [laws_FnLaddersHiddenOfAll.j8, if_true, show (0 : Int) ≤ (n : Int) by omega, show (n : Int) < (l.length : Int) by omega, hrd]
 refine Ev.bind ha ?_
 simp only [if_true]
 refine Ev.bind (laws_jPuzzle.refl zO4_2) ?_
 exact Ev.now _
theorem hid7 (i w : Int) (l : List S43) : Ev (fun k => laws_FnLaddersHiddenOfAll.j7 k i (mDrop w l i).2.2 w l (mDrop w l i).1 (mDrop w l i).2.1) true := by
 refine Ev.succ ?_
 simp only [laws_FnLaddersHiddenOfAll.j7]
 by_cases hs : (mDrop w l i).2.2 = true
 ·simp only [if_pos hs]
  obtain ⟨hp, ⟨h0, h1⟩, he⟩ := mDrop_ok hs
  obtain ⟨q1, q2, q3⟩ := mPuzzle_parts hp
  rw [wid (show -9223372036854775808 ≤ (l.length : Int) - 1 by omega) zO4_2]
  by_cases hk : i = (l.length : Int) - 1
  ·have hb : (i == (l.length : Int) - 1) = true := by rw [beq_iff_eq]; exact hk
   rw [hb]
   exact hid8 hs hk
  ·have hb : (i == (l.length : Int) - 1) = false := by rw [beq_eq_false_iff_ne]; exact hk
   rw [hb]
   refine Ev.succ ?_
   simp only [laws_FnLaddersHiddenOfAll.j8, Bool.false_eq_true, if_false]
   exact Ev.now _
 ·simp only [if_neg hs]
  refine Ev.succ ?_
  simp only [laws_FnLaddersHiddenOfAll.j8, Bool.false_eq_true, if_false]
  exact Ev.now _
theorem hid6 (i w1 a b c w2 : Int) (l1 l2 : List S43) : Ev (fun k => laws_FnLaddersHiddenOfAll.j6 k i (mAdd w1 l1 a b c).2.2 (mDrop w2 l2 i).2.2 false w1 l1 a b c w2 l2 (mAdd w1 l1 a b c).1 (mAdd w1 l1 a b c).2.1 (mDrop w2 l2 i).1 (mDrop w2 l2 i).2.1) true := by
 refine Ev.succ ?_
 simp only [laws_FnLaddersHiddenOfAll.j6, Bool.false_eq_true, if_false]
 by_cases hs : (mAdd w1 l1 a b c).2.2 = true
 ·simp only [if_pos hs]
  obtain ⟨hp, hc, hl, he⟩ := mAdd_ok hs
  obtain ⟨q1, q2, q3⟩ := mPuzzle_parts hp
  have hd : mDrop w1 (l1 ++ [⟨a, b, c⟩]) (l1.length : Int) = (w1, l1, true) := by
   unfold mDrop
   rw [if_pos (by simp only [mPuzzle_add hp hc hl, Bool.true_and, inr_iff, List.length_append, List.length_cons, List.length_nil]; omega), Int.toNat_natCast, mWo_last]
  have hdv := impl_DropClue.ev w1 (l1 ++ [⟨a, b, c⟩]) (l1.length : Int)
  rw [hd] at hdv
  have hlt : l1.length < (l1 ++ [(⟨a, b, c⟩ : S43)]).length := by simp
  have hrd := rdC_get hlt
  rw [List.getElem_append_right (Nat.le_refl _)] at hrd
  simp only [Nat.sub_self, List.getElem_cons_zero] at hrd
  simp only [he]
  refine Ev.bind hdv ?_
  simp only [if_true]
  refine Ev.bind (laws_jPuzzle.refl zO4_2) ?_
  simp only [if_true, show (0 : Int) ≤ (l1.length : Int) by omega, show (l1.length : Int) < ((l1 ++ [(⟨a, b, c⟩ : S43)]).length : Int) by omega, hrd, beq_self_eq_true, Bool.not_true, Bool.or_self, Bool.false_eq_true, if_false]
  exact hid7 i w2 l2
 ·simp only [if_neg hs]
  exact hid7 i w2 l2
theorem hid5 (i n w1 a b c w2 d0 d1 d2 x0 x1 x2 e0 e1 e2 : Int) (l1 l2 : List S43) : Ev (fun k => laws_FnLaddersHiddenOfAll.j5 k i n w1 l1 a b c w2 l2 d0 d1 d2 x0 x1 x2 e0 e1 e2) true := by
 refine Ev.succ ?_
 simp only [laws_FnLaddersHiddenOfAll.j5]
 have n1 := mAdd_len w1 l1 a b c
 have n2 := mDrop_len w2 l2 i
 refine Ev.bind (impl_AddClue.ev w1 l1 a b c) ?_
 refine Ev.bind (spec_AddClue.ev w1 l1 a b c) ?_
 refine Ev.bind (impl_DropClue.ev w2 l2 i) ?_
 refine Ev.bind (spec_DropClue.ev w2 l2 i) ?_
 refine Ev.bind (impl_DoesFit.ev d0 d1 d2 x0 x1 x2) ?_
 refine Ev.bind (spec_DoesFit.ev d0 d1 d2 x0 x1 x2) ?_
 simp only [bne_self_eq_false, Bool.false_eq_true, if_false]
 refine Ev.bind (laws_jPuzzle.refl zO4_2) ?_
 simp only [if_true]
 refine Ev.bind (laws_jPuzzle.refl zO4_2) ?_
 simp only [if_true]
 refine Ev.bind (impl_IsClue.ev n e0 e1 e2) ?_
 refine Ev.bind (spec_IsClue.ev n e0 e1 e2) ?_
 simp only [bne_self_eq_false, Bool.false_eq_true, if_false]
 by_cases hs : (mDoesFit d0 d1 d2 x0 x1 x2).2 = true
 ·simp only [if_pos hs]
  have hok : (inr 1 12 x0 && mClue d0 d1 d2) = true := by
   unfold mDoesFit at hs
   by_cases e : (mClue d0 d1 d2 && mHidden x0 x1 x2) = true
   ·rw [Bool.and_eq_true] at e
    obtain ⟨h0, _, _⟩ := mHidden_iff.1 e.2
    rw [Bool.and_eq_true]
    exact ⟨inr_iff.2 h0, e.1⟩
   ·rw [if_neg e] at hs; exact absurd hs zO4_3
  have hc := impl_IsClue.ev x0 d0 d1 d2
  rw [hok] at hc
  refine Ev.bind hc ?_
  exact hid6 i w1 a b c w2 l1 l2
 ·simp only [if_neg hs]
  exact hid6 i w1 a b c w2 l1 l2
theorem hid4 (i n wq w1 a b c w2 d0 d1 d2 x0 x1 x2 e0 e1 e2 : Int) (lq l1 l2 : List S43) : Ev (fun k => laws_FnLaddersHiddenOfAll.j4 k i n (mHarder wq lq).2.2 false wq lq w1 l1 a b c w2 l2 d0 d1 d2 x0 x1 x2 e0 e1 e2 (mHarder wq lq).1 (mHarder wq lq).2.1) true := by
 refine Ev.succ ?_
 simp only [laws_FnLaddersHiddenOfAll.j4, Bool.false_eq_true, if_false]
 by_cases hs : (mHarder wq lq).2.2 = true
 ·simp only [if_pos hs]
  obtain ⟨hp, h1, he⟩ := mHarder_ok hs
  obtain ⟨q1, q2, q3⟩ := mPuzzle_parts hp
  have hlen := hardF_len wq lq.length lq 0 zO4_2
  obtain ⟨hsol, hneed⟩ := hardF_spec wq lq.length lq 0 zO4_2 h1 (fun j hj => absurd hj zO4_2)
  have hall := hardF_all wq lq.length lq 0 q3
  simp only [he]
  generalize hardF wq lq.length lq 0 = h at hlen hsol hneed hall ⊢
  have hph : mPuzzle wq h = true := by
   unfold mPuzzle
   simp only [Bool.and_eq_true, decide_eq_true_eq]
   exact ⟨q1, by omega, hall⟩
  have s1 := impl_Solutions.ev wq lq
  rw [mSolutions, if_pos hp] at s1
  have s2 := impl_Solutions.ev wq h
  rw [mSolutions, if_pos hph, hsol] at s2
  have s3 := impl_NeedlessClues.ev wq h
  rw [mNeed, if_pos hph, hsol, h1] at s3
  have s4 : needs wq h ((1 : Nat) : Int) 0 h.length = [] := needs_nil hneed
  rw [s4] at s3
  refine Ev.bind s1 ?_
  refine Ev.bind s2 ?_
  refine Ev.bind s3 ?_
  simp only [if_true]
  refine Ev.bind (laws_jLadders.refl zO4_2) ?_
  simp only [if_true, List.length_nil, show ((0 : Nat) : Int) = 0 from rfl, show ¬ ((h.length : Int) > (lq.length : Int)) by omega, if_false]
  exact hid5 i n w1 a b c w2 d0 d1 d2 x0 x1 x2 e0 e1 e2 l1 l2
 ·simp only [if_neg hs]
  exact hid5 i n w1 a b c w2 d0 d1 d2 x0 x1 x2 e0 e1 e2 l1 l2
theorem hid3 (i n wq w1 a b c w2 d0 d1 d2 x0 x1 x2 e0 e1 e2 : Int) (lq l1 l2 : List S43) : Ev (fun k => laws_FnLaddersHiddenOfAll.j3 k i n wq lq w1 l1 a b c w2 l2 d0 d1 d2 x0 x1 x2 e0 e1 e2) true := by
 refine Ev.succ ?_
 simp only [laws_FnLaddersHiddenOfAll.j3]
 have n1 := mHarder_len wq lq
 refine Ev.bind (impl_HarderPuzzle.ev wq lq) ?_
 refine Ev.bind (spec_HarderPuzzle.ev wq lq) ?_
 refine Ev.bind (impl_IsSolved.ev wq lq) ?_
 simp only [bne_self_eq_false, Bool.false_eq_true, if_false]
 refine Ev.bind (laws_jPuzzle.refl zO4_2) ?_
 simp only [if_true]
 have h4 := hid4 i n wq w1 a b c w2 d0 d1 d2 x0 x1 x2 e0 e1 e2 lq l1 l2
 by_cases hp : mPuzzle wq lq = true
 ·have e2 : mIsSolved wq lq = (((mSols wq lq).length : Int) == 1, true) := by rw [mIsSolved, if_pos hp]
  have e3 : (mHarder wq lq).2.2 = (((mSols wq lq).length : Int) == 1) := by
   unfold mHarder
   rw [hp, Bool.true_and]
   cases hh : (((mSols wq lq).length : Int) == 1) <;> simp
  simp only [e2, if_true]
  rw [show ((mHarder wq lq).2.2 != (((mSols wq lq).length : Int) == 1)) = false by rw [e3]; simp]
  exact h4
 ·have e2 : mIsSolved wq lq = (false, false) := by rw [mIsSolved, if_neg hp]
  have e3 : (mHarder wq lq).2.2 = false := by
   unfold mHarder
   rw [Bool.eq_false_iff.2 hp]; simp
  simp only [e2, Bool.false_eq_true, if_false]
  rw [show ((mHarder wq lq).2.2 != false) = false by rw [e3]; rfl]
  exact h4
theorem hidL (i n wl ll lr wq w1 a b c w2 d0 d1 d2 x0 x1 x2 e0 e1 e2 : Int) (L lq l1 l2 : List S43) (h : mHidden wl ll lr = true) (hL : L.length ≤ 6) (hf : ∀ y ∈ L, mClueS y = true ∧ mFits y.f0 y.f1 y.f2 wl ll lr = true) (d : Nat) : ∀ j : Nat, j + d = L.length → Ev (fun k => laws_FnLaddersHiddenOfAll.l0 k i n L (L.length : Int) (j : Int) wl ll lr wq lq w1 l1 a b c w2 l2 d0 d1 d2 x0 x1 x2 e0 e1 e2) true := by
 induction d with
 | zero =>
  intro j hj
  refine Ev.succ ?_
  simp only [laws_FnLaddersHiddenOfAll.l0, show ¬ ((j : Int) < (L.length : Int)) by omega, if_false]
  exact hid3 i n wq w1 a b c w2 d0 d1 d2 x0 x1 x2 e0 e1 e2 lq l1 l2
 | succ d ih =>
  intro j hj
  have hlt : j < L.length := by omega
  obtain ⟨c1, c2⟩ := hf _ (List.getElem_mem hlt)
  have hfit := impl_DoesFit.ev (L[j]).f0 (L[j]).f1 (L[j]).f2 wl ll lr
  rw [mDoesFit, if_pos (by rw [Bool.and_eq_true]; exact ⟨c1, h⟩), c2] at hfit
  refine Ev.succ ?_
  simp only [laws_FnLaddersHiddenOfAll.l0, show ((j : Int) < (L.length : Int)) by omega, show (0 : Int) ≤ (j : Int) by omega, if_true, rdC_get hlt]
  refine Ev.bind hfit ?_
  simp only [if_true, wid (show -9223372036854775808 ≤ (j : Int) + 1 by omega) zO4_2]
  exact ih (j + 1) zO4_2
theorem hid0 (t i n wl ll lr s wq w1 a b c w2 d0 d1 d2 x0 x1 x2 e0 e1 e2 : Int) (lq l1 l2 : List S43) : Ev (fun k => laws_FnLaddersHiddenOfAll.j0 k t i n (mMake wl ll lr t s).2.2 false wl ll lr wq lq w1 l1 a b c w2 l2 d0 d1 d2 x0 x1 x2 e0 e1 e2 (mMake wl ll lr t s).1 (mMake wl ll lr t s).2.1) true := by
 refine Ev.succ ?_
 simp only [laws_FnLaddersHiddenOfAll.j0, Bool.false_eq_true, if_false]
 by_cases e : (mHidden wl ll lr && (inr 0 6 t && inr 0 9999 s)) = true
 ·have em : mMake wl ll lr t s = (wl, mMk wl ll lr t.toNat s, true) := by unfold mMake; rw [if_pos e]
  simp only [Bool.and_eq_true, inr_iff] at e
  obtain ⟨h, ht, hs⟩ := e
  obtain ⟨h0, h1, h2⟩ := mHidden_iff.1 h
  have hLd : mLadders wl ll lr = true := mLadders_iff.2 zO4_2
  have hf := mMk_all h t.toNat s zO4_2
  have hlen := mMk_len wl ll lr t.toNat s
  simp only [em, if_true]
  generalize mMk wl ll lr t.toNat s = L at hf hlen ⊢
  have c1 := impl_CrossHeight.ev wl ll lr
  rw [mCrossHeight, if_pos hLd] at c1
  have c2 := impl_CrossPlace.ev wl ll lr
  rw [mCrossPlace, if_pos hLd] at c2
  have v2 : mVal 2 0 wl ll lr = (loA (ll * lr) (ll + lr), loB (ll * lr) (ll + lr)) := by simp [mVal]
  have v4 : mVal 4 0 wl ll lr = (loA (ll * wl) (ll + lr), loB (ll * wl) (ll + lr)) := by simp [mVal]
  have f2 := impl_DoesFit.ev 2 (loA (ll * lr) (ll + lr)) (loB (ll * lr) (ll + lr)) wl ll lr
  have k2 := mVal_clue (k := 2) (a := 0) h zO4_2 (.inl rfl) (fun _ => rfl)
  have g2 := mVal_fits 2 0 wl ll lr
  rw [v2] at k2 g2
  rw [mDoesFit, if_pos (by rw [Bool.and_eq_true]; exact ⟨k2, h⟩), g2] at f2
  have f4 := impl_DoesFit.ev 4 (loA (ll * wl) (ll + lr)) (loB (ll * wl) (ll + lr)) wl ll lr
  have k4 := mVal_clue (k := 4) (a := 0) h zO4_2 (.inl rfl) (fun _ => rfl)
  have g4 := mVal_fits 4 0 wl ll lr
  rw [v4] at k4 g4
  rw [mDoesFit, if_pos (by rw [Bool.and_eq_true]; exact ⟨k4, h⟩), g4] at f4
  have f30 := impl_DoesFit.ev 3 0 1 wl ll lr
  rw [mDoesFit, if_pos (by rw [Bool.and_eq_true]; exact ⟨by decide, h⟩)] at f30
  have z30 : mFits 3 0 1 wl ll lr = mWhole (wl * wl + ll * ll) := by
   unfold mFits mVal mOwn
   simp only [show ¬ ((3 : Int) = 0) by omega, show ¬ ((3 : Int) = 1) by omega, show ¬ ((3 : Int) = 2) by omega, show ¬ ((0 : Int) = 1) by omega, if_false, if_true]
   cases mWhole (wl * wl + ll * ll) <;> simp
  have f31 := impl_DoesFit.ev 3 1 1 wl ll lr
  rw [mDoesFit, if_pos (by rw [Bool.and_eq_true]; exact ⟨by decide, h⟩)] at f31
  have z31 : mFits 3 1 1 wl ll lr = mWhole (wl * wl + lr * lr) := by
   unfold mFits mVal mOwn
   simp only [show ¬ ((3 : Int) = 0) by omega, show ¬ ((3 : Int) = 1) by omega, show ¬ ((3 : Int) = 2) by omega, if_false, if_true]
   cases mWhole (wl * wl + lr * lr) <;> simp
  rw [z30] at f30
  rw [z31] at f31
  obtain ⟨y1, y2, hy⟩ := impl_LengthsOf.ev h
  have hp : mPuzzle wl L = true := by
   unfold mPuzzle
   simp only [Bool.and_eq_true, decide_eq_true_eq]
   exact ⟨inr_iff.2 h0, by omega, List.all_eq_true.2 fun y hy => (hf y hy).1⟩
  have hpv := impl_IsPuzzle.ev wl L
  rw [hp] at hpv
  have hfin := hidL i n wl ll lr wq w1 a b c w2 d0 d1 d2 x0 x1 x2 e0 e1 e2 L lq l1 l2 h zO4_2 hf L.length 0 zO4_2
  have h1j : Ev (fun k => laws_FnLaddersHiddenOfAll.j1 k i n false wl ll lr wq lq w1 l1 a b c w2 l2 d0 d1 d2 x0 x1 x2 e0 e1 e2 wl L) true := by
   refine Ev.succ ?_
   simp only [laws_FnLaddersHiddenOfAll.j1, Bool.false_eq_true, if_false]
   exact hfin
  refine Ev.bind c1 ?_
  refine Ev.bind f2 ?_
  refine Ev.bind c2 ?_
  refine Ev.bind f4 ?_
  refine Ev.bind hy ?_
  refine Ev.bind f30 ?_
  refine Ev.bind f31 ?_
  refine Ev.bind hpv ?_
  simp only [if_true, show (L.length : Int) = t by omega]
  cases hA : mWhole (wl * wl + ll * ll) with
  | false => simp only [Bool.false_and, Bool.false_eq_true, if_false, bne_self_eq_false]; exact h1j
  | true => simp only [Bool.true_and, if_true, bne_self_eq_false]; exact h1j
 ·have em : mMake wl ll lr t s = (0, [], false) := by unfold mMake; rw [if_neg e]
  simp only [em, Bool.false_eq_true, if_false]
  exact hid3 i n wq w1 a b c w2 d0 d1 d2 x0 x1 x2 e0 e1 e2 lq l1 l2
end Go.Proofs.Ythioojdannlhiaa.P

namespace Go.Proofs.Ythioojdannlhiaa.Pure
open Go.RowKit Go.Proofs.YthioojdannlhiaaW.PrintWords Go.Proofs.YthioojdannlhiaaW.PrintLast Go.Proofs.YthioojdannlhiaaW.PrintMore Go.Proofs.Ythioojdannlhiaa.P
set_option linter.unusedVariables false
set_option linter.unusedSimpArgs false
theorem FnLaddersHiddenOfAll : ∀ (a0_0 a0_1 a0_2 a1 a2 a3_0 : Int) (l3_1 : List S43) (a4_0 : Int) (l4_1 : List S43) (a5_0 a5_1 a5_2 a6_0 : Int) (l6_1 : List S43) (a7 a8_0 a8_1 a8_2 a9_0 a9_1 a9_2 a10 a11_0 a11_1 a11_2 : Int), (Lit.int .i64 a0_0).wf = true → (Lit.int .i64 a0_1).wf = true → (Lit.int .i64 a0_2).wf = true → (Lit.int .i64 a1).wf = true → (Lit.int .i64 a2).wf = true → (Lit.int .i64 a3_0).wf = true → l3_1.length ≤ maxLen → (∀ y ∈ l3_1, (Lit.int .i64 y.f0).wf = true ∧ (Lit.int .i64 y.f1).wf = true ∧ (Lit.int .i64 y.f2).wf = true) → (Lit.int .i64 a4_0).wf = true → l4_1.length ≤ maxLen → (∀ y ∈ l4_1, (Lit.int .i64 y.f0).wf = true ∧ (Lit.int .i64 y.f1).wf = true ∧ (Lit.int .i64 y.f2).wf = true) → (Lit.int .i64 a5_0).wf = true → (Lit.int .i64 a5_1).wf = true → (Lit.int .i64 a5_2).wf = true → (Lit.int .i64 a6_0).wf = true → l6_1.length ≤ maxLen → (∀ y ∈ l6_1, (Lit.int .i64 y.f0).wf = true ∧ (Lit.int .i64 y.f1).wf = true ∧ (Lit.int .i64 y.f2).wf = true) → (Lit.int .i64 a7).wf = true → (Lit.int .i64 a8_0).wf = true → (Lit.int .i64 a8_1).wf = true → (Lit.int .i64 a8_2).wf = true → (Lit.int .i64 a9_0).wf = true → (Lit.int .i64 a9_1).wf = true → (Lit.int .i64 a9_2).wf = true → (Lit.int .i64 a10).wf = true → (Lit.int .i64 a11_0).wf = true → (Lit.int .i64 a11_1).wf = true → (Lit.int .i64 a11_2).wf = true → ∃ k, laws_FnLaddersHiddenOfAll.f k a0_0 a0_1 a0_2 a1 a2 a3_0 l3_1 a4_0 l4_1 a5_0 a5_1 a5_2 a6_0 l6_1 a7 a8_0 a8_1 a8_2 a9_0 a9_1 a9_2 a10 a11_0 a11_1 a11_2 = some true := by
 intro a0_0 a0_1 a0_2 a1 a2 a3_0 l3_1 a4_0 l4_1 a5_0 a5_1 a5_2 a6_0 l6_1 a7 a8_0 a8_1 a8_2 a9_0 a9_1 a9_2 a10 a11_0 a11_1 a11_2
 intros
 refine Ev.rounds ?_
 unfold laws_FnLaddersHiddenOfAll.f
 have n1 := mMake_len a0_0 a0_1 a0_2 a1 a2
 refine Ev.bind (impl_MakePuzzle.ev a0_0 a0_1 a0_2 a1 a2) ?_
 refine Ev.bind (spec_MakePuzzle.ev a0_0 a0_1 a0_2 a1 a2) ?_
 simp only [bne_self_eq_false, Bool.false_eq_true, if_false]
 refine Ev.bind (laws_jPuzzle.refl zO4_2) ?_
 exact hid0 a1 a7 a10 a0_0 a0_1 a0_2 a2 a3_0 a4_0 a5_0 a5_1 a5_2 a6_0 a8_0 a8_1 a8_2 a9_0 a9_1 a9_2 a11_0 a11_1 a11_2 l3_1 l4_1 l6_1
end Go.Proofs.Ythioojdannlhiaa.Pure

namespace Go.Proofs.Ythioojdannlhiaa.fnLaddersHiddenOfAll
open Go.ChangeShapes Go.WideShapes Go.ChangeAt Go.RowKit Go.Deep
open Go.ChangeMaps (open_string shut_string)
open Go.Proofs.YthioojdannlhiaaW.PrintWords Go.Proofs.YthioojdannlhiaaW.PrintLast Go.Proofs.YthioojdannlhiaaW.PrintMore Go.Proofs.Ythioojdannlhiaa.P
set_option linter.unusedVariables false
set_option linter.unusedSimpArgs false
theorem own : ownKnob Try.prog.godebug = none := by kernel_rfl
theorem laidOut : laidOutB Try.prog = true := by kernel_rfl
theorem cof3 : Try.prog.cellsOf 3 = 1 := by kernel_rfl
theorem cof26 : Try.prog.cellsOf 26 = 1 := by kernel_rfl
theorem cof28 : Try.prog.cellsOf 28 = 2 := by kernel_rfl
theorem cof41 : Try.prog.cellsOf 41 = 3 := by kernel_rfl
theorem cof43 : Try.prog.cellsOf 43 = 3 := by kernel_rfl
theorem C_each {α : Type} (d : Kd α) (w : World) (a : Addr) (len : Nat) (hl : len ≤ 9223372036854775807) (P : α → Prop) (h : ∀ i, i < len → ∃ (x : α) (c : List Value), P x ∧ c.length = d.sz ∧ d.K w x c ∧ ∀ j u, c[j]? = some u → w.cell? (a.add (i * d.sz + j)) = some u) : ∃ xs : List α, xs.length = len ∧ Kd.C d w (some a) len xs ∧ ∀ x ∈ xs, P x := by
 refine ⟨List.ofFn fun i : Fin len => Classical.choose (h i.1 i.2), by simp, ⟨by simp, hl, fun _ => ⟨a, rfl, fun j p hj => ?_⟩⟩, fun x hx => ?_⟩
 ·have hjl : j < len := by have := (List.getElem?_eq_some_iff.1 hj).1; simpa using this
  have hp : p = Classical.choose (h j hjl) := by rw [List.getElem?_ofFn, dif_pos hjl] at hj; exact (Option.some.inj hj).symm
  obtain ⟨c, hP, hc, hK, hcell⟩ := Classical.choose_spec (h j hjl)
  exact ⟨c, hc, by rw [hp]; exact hK, hcell⟩
 ·obtain ⟨i, rfl⟩ := (List.mem_ofFn).1 hx
  obtain ⟨c, hP, _⟩ := Classical.choose_spec (h i.1 i.2)
  exact hP
set_option maxRecDepth 100000 in
theorem open0 {H : Type} {enc : TypeId × Value → H} {W : World} {base : Nat} {v : Value} {d : DataW H} {p : List MemPlace} (hv : Value.okWide Try.prog W .any base 41 v) (h : DataW.Trod enc Try.prog W 0 (fun _ => true) true 41 v d p) :
  ∃ (a0_0 : Int) (a0_1 : Int) (a0_2 : Int), v = .agg #[.int .i64 a0_0, .int .i64 a0_1, .int .i64 a0_2] ∧ ((Lit.int .i64 a0_0).wf = true) ∧ ((Lit.int .i64 a0_1).wf = true) ∧ ((Lit.int .i64 a0_2).wf = true) := by
 obtain ⟨cs, rfl, hsz⟩ := okWide_struct Try.underlying41 hv
 rw [cof41] at hsz
 obtain ⟨l⟩ := cs
 match l, hsz with
 | [c_0, c_1, c_2], _ =>
  obtain ⟨fuel, hf⟩ := h
  have hf : DataW.trod enc Try.prog W 0 (fun _ => true) true fuel 41 [c_0, c_1, c_2] = some (d, p) := hf
  obtain ⟨xs1, n2, _, _, _, hl3, hg4⟩ := DataW.trod_struct Try.underlying41 hf
  obtain ⟨y5, y6, y7, rfl⟩ : ∃ y5 y6 y7, xs1 = [y5, y6, y7] := by match xs1, hl3 with | [y5, y6, y7], _ => exact ⟨y5, y6, y7, rfl⟩
  have g8 : DataW.trod enc Try.prog W 0 (fun _ => true) true n2 3 [c_0] = some y5 := by have z_ : DataW.trod enc Try.prog W 0 (fun _ => true) true n2 3 (([c_0, c_1, c_2].drop 0).take (Try.prog.cellsOf 3)) = [y5, y6, y7][0]? := hg4 0 _ rfl; rw [cof3] at z_; exact z_
  have g9 : DataW.trod enc Try.prog W 0 (fun _ => true) true n2 3 [c_1] = some y6 := by have z_ : DataW.trod enc Try.prog W 0 (fun _ => true) true n2 3 (([c_0, c_1, c_2].drop 1).take (Try.prog.cellsOf 3)) = [y5, y6, y7][1]? := hg4 1 _ rfl; rw [cof3] at z_; exact z_
  have g10 : DataW.trod enc Try.prog W 0 (fun _ => true) true n2 3 [c_2] = some y7 := by have z_ : DataW.trod enc Try.prog W 0 (fun _ => true) true n2 3 (([c_0, c_1, c_2].drop 2).take (Try.prog.cellsOf 3)) = [y5, y6, y7][2]? := hg4 2 _ rfl; rw [cof3] at z_; exact z_
  obtain ⟨a0_0, e11, _, w0_0⟩ := DataW.trod_int Try.underlying3 g8
  obtain rfl : c_0 = _ := by simpa using e11
  obtain ⟨a0_1, e12, _, w0_1⟩ := DataW.trod_int Try.underlying3 g9
  obtain rfl : c_1 = _ := by simpa using e12
  obtain ⟨a0_2, e13, _, w0_2⟩ := DataW.trod_int Try.underlying3 g10
  obtain rfl : c_2 = _ := by simpa using e13
  exact ⟨_, _, _, rfl, w0_0, w0_1, w0_2⟩
set_option maxRecDepth 100000 in
theorem open3 {H : Type} {enc : TypeId × Value → H} {W : World} {base : Nat} {v : Value} {d : DataW H} {p : List MemPlace} (hv : Value.okWide Try.prog W .any base 28 v) (h : DataW.Trod enc Try.prog W 0 (fun _ => true) true 28 v d p) :
  ∃ (a3_0 : Int) (A3_1 : Option Addr) (c3_1 : Nat) (l3_1 : List S43), v = .agg #[.int .i64 a3_0, .slice A3_1 l3_1.length c3_1] ∧ ((Lit.int .i64 a3_0).wf = true) ∧ (Kd.C k43 W A3_1 l3_1.length l3_1 ∧ l3_1.length ≤ c3_1 ∧ c3_1 ≤ maxLen ∧ (∀ y ∈ l3_1, (Lit.int .i64 y.f0).wf = true ∧ (Lit.int .i64 y.f1).wf = true ∧ (Lit.int .i64 y.f2).wf = true)) := by
 obtain ⟨cs, rfl, hsz⟩ := okWide_struct Try.underlying28 hv
 rw [cof28] at hsz
 obtain ⟨l⟩ := cs
 match l, hsz with
 | [c_0, c_1], _ =>
  obtain ⟨fuel, hf⟩ := h
  have hf : DataW.trod enc Try.prog W 0 (fun _ => true) true fuel 28 [c_0, c_1] = some (d, p) := hf
  obtain ⟨xs14, n15, _, _, _, hl16, hg17⟩ := DataW.trod_struct Try.underlying28 hf
  obtain ⟨y18, y19, rfl⟩ : ∃ y18 y19, xs14 = [y18, y19] := by match xs14, hl16 with | [y18, y19], _ => exact ⟨y18, y19, rfl⟩
  have g20 : DataW.trod enc Try.prog W 0 (fun _ => true) true n15 3 [c_0] = some y18 := by have z_ : DataW.trod enc Try.prog W 0 (fun _ => true) true n15 3 (([c_0, c_1].drop 0).take (Try.prog.cellsOf 3)) = [y18, y19][0]? := hg17 0 _ rfl; rw [cof3] at z_; exact z_
  have g21 : DataW.trod enc Try.prog W 0 (fun _ => true) true n15 26 [c_1] = some y19 := by have z_ : DataW.trod enc Try.prog W 0 (fun _ => true) true n15 26 (([c_0, c_1].drop 1).take (Try.prog.cellsOf 26)) = [y18, y19][1]? := hg17 1 _ rfl; rw [cof26] at z_; exact z_
  obtain ⟨a3_0, e22, _, w3_0⟩ := DataW.trod_int Try.underlying3 g20
  obtain rfl : c_0 = _ := by simpa using e22
  obtain ⟨A3_1, c3_1, l3_1, rfl, w3_1⟩ : ∃ A c l, c_1 = .slice A l.length c ∧ Kd.C k43 W A l.length l ∧ l.length ≤ c ∧ c ≤ maxLen ∧ (∀ y ∈ l, (Lit.int .i64 y.f0).wf = true ∧ (Lit.int .i64 y.f1).wf = true ∧ (Lit.int .i64 y.f2).wf = true) := by
   rcases open_slice Try.underlying26 g21 with ⟨hcs, _⟩ | ⟨ad, len, cap, m, n_, D_, Pl_, hcs, _, hlc, hcm, hm, _, hel⟩
   ·exact ⟨none, 0, [], by simpa using hcs, ⟨rfl, by simp, fun hp => absurd hp zO4_3⟩, by simp, by unfold maxLen; omega, by simp⟩
   ·have hlen : len ≤ 9223372036854775807 := by unfold maxLen at hcm; omega
    have each_ : ∀ i, i < len → ∃ (y : S43) (c : List Value), ((Lit.int .i64 y.f0).wf = true ∧ (Lit.int .i64 y.f1).wf = true ∧ (Lit.int .i64 y.f2).wf = true) ∧ c.length = (k43 : Kd _).sz ∧ (k43 : Kd _).K W y c ∧ ∀ j u, c[j]? = some u → W.cell? (ad.add (i * (k43 : Kd _).sz + j)) = some u := by
     intro i hi
     obtain ⟨cs_, hc_, ht_⟩ := hel i (by simp only [if_true] at hm; omega)
     rw [cof43] at hc_
     obtain ⟨hb_, hn_, hat_⟩ := World.cells?_some hc_
     obtain ⟨u24, u25, u26, rfl⟩ : ∃ u24 u25 u26, cs_ = [u24, u25, u26] := by match cs_, hn_ with | [u24, u25, u26], _ => exact ⟨u24, u25, u26, rfl⟩
     obtain ⟨xs27, n28, _, _, _, hl29, hg30⟩ := DataW.trod_struct Try.underlying43 ht_
     obtain ⟨y31, y32, y33, rfl⟩ : ∃ y31 y32 y33, xs27 = [y31, y32, y33] := by match xs27, hl29 with | [y31, y32, y33], _ => exact ⟨y31, y32, y33, rfl⟩
     have g34 : DataW.trod enc Try.prog W 0 (fun _ => true) true n28 3 [u24] = some y31 := by have z_ : DataW.trod enc Try.prog W 0 (fun _ => true) true n28 3 (([u24, u25, u26].drop 0).take (Try.prog.cellsOf 3)) = [y31, y32, y33][0]? := hg30 0 _ rfl; rw [cof3] at z_; exact z_
     have g35 : DataW.trod enc Try.prog W 0 (fun _ => true) true n28 3 [u25] = some y32 := by have z_ : DataW.trod enc Try.prog W 0 (fun _ => true) true n28 3 (([u24, u25, u26].drop 1).take (Try.prog.cellsOf 3)) = [y31, y32, y33][1]? := hg30 1 _ rfl; rw [cof3] at z_; exact z_
     have g36 : DataW.trod enc Try.prog W 0 (fun _ => true) true n28 3 [u26] = some y33 := by have z_ : DataW.trod enc Try.prog W 0 (fun _ => true) true n28 3 (([u24, u25, u26].drop 2).take (Try.prog.cellsOf 3)) = [y31, y32, y33][2]? := hg30 2 _ rfl; rw [cof3] at z_; exact z_
     obtain ⟨a3_1e0, e37, _, w3_1e0⟩ := DataW.trod_int Try.underlying3 g34
     obtain rfl : u24 = _ := by simpa using e37
     obtain ⟨a3_1e1, e38, _, w3_1e1⟩ := DataW.trod_int Try.underlying3 g35
     obtain rfl : u25 = _ := by simpa using e38
     obtain ⟨a3_1e2, e39, _, w3_1e2⟩ := DataW.trod_int Try.underlying3 g36
     obtain rfl : u26 = _ := by simpa using e39
     refine ⟨(⟨a3_1e0, a3_1e1, a3_1e2⟩ : S43), [.int .i64 a3_1e0, .int .i64 a3_1e1, .int .i64 a3_1e2], ⟨w3_1e0, w3_1e1, w3_1e2⟩, rfl, (k43_mk W _), fun j u hu => ?_⟩
     have hj : j < 3 := by have := (List.getElem?_eq_some_iff.1 hu).1; simpa using this
     have h1_ := hat_ j hj
     have hs_ : (k43 : Kd _).sz = 3 := rfl
     rw [hs_, ← Go.Deep.add_add, h1_]; exact hu
    obtain ⟨xs_, hx_, hC_, hP_⟩ := C_each k43 W ad len hlen (fun y => (Lit.int .i64 y.f0).wf = true ∧ (Lit.int .i64 y.f1).wf = true ∧ (Lit.int .i64 y.f2).wf = true) each_
    exact ⟨some ad, cap, xs_, by rw [hx_]; simpa using hcs, by rw [hx_]; exact hC_, by omega, hcm, hP_⟩
  exact ⟨_, _, _, _, rfl, w3_0, w3_1⟩
set_option maxRecDepth 100000 in
theorem open4 {H : Type} {enc : TypeId × Value → H} {W : World} {base : Nat} {v : Value} {d : DataW H} {p : List MemPlace} (hv : Value.okWide Try.prog W .any base 28 v) (h : DataW.Trod enc Try.prog W 0 (fun _ => true) true 28 v d p) :
  ∃ (a4_0 : Int) (A4_1 : Option Addr) (c4_1 : Nat) (l4_1 : List S43), v = .agg #[.int .i64 a4_0, .slice A4_1 l4_1.length c4_1] ∧ ((Lit.int .i64 a4_0).wf = true) ∧ (Kd.C k43 W A4_1 l4_1.length l4_1 ∧ l4_1.length ≤ c4_1 ∧ c4_1 ≤ maxLen ∧ (∀ y ∈ l4_1, (Lit.int .i64 y.f0).wf = true ∧ (Lit.int .i64 y.f1).wf = true ∧ (Lit.int .i64 y.f2).wf = true)) := by
 obtain ⟨cs, rfl, hsz⟩ := okWide_struct Try.underlying28 hv
 rw [cof28] at hsz
 obtain ⟨l⟩ := cs
 match l, hsz with
 | [c_0, c_1], _ =>
  obtain ⟨fuel, hf⟩ := h
  have hf : DataW.trod enc Try.prog W 0 (fun _ => true) true fuel 28 [c_0, c_1] = some (d, p) := hf
  obtain ⟨xs40, n41, _, _, _, hl42, hg43⟩ := DataW.trod_struct Try.underlying28 hf
  obtain ⟨y44, y45, rfl⟩ : ∃ y44 y45, xs40 = [y44, y45] := by match xs40, hl42 with | [y44, y45], _ => exact ⟨y44, y45, rfl⟩
  have g46 : DataW.trod enc Try.prog W 0 (fun _ => true) true n41 3 [c_0] = some y44 := by have z_ : DataW.trod enc Try.prog W 0 (fun _ => true) true n41 3 (([c_0, c_1].drop 0).take (Try.prog.cellsOf 3)) = [y44, y45][0]? := hg43 0 _ rfl; rw [cof3] at z_; exact z_
  have g47 : DataW.trod enc Try.prog W 0 (fun _ => true) true n41 26 [c_1] = some y45 := by have z_ : DataW.trod enc Try.prog W 0 (fun _ => true) true n41 26 (([c_0, c_1].drop 1).take (Try.prog.cellsOf 26)) = [y44, y45][1]? := hg43 1 _ rfl; rw [cof26] at z_; exact z_
  obtain ⟨a4_0, e48, _, w4_0⟩ := DataW.trod_int Try.underlying3 g46
  obtain rfl : c_0 = _ := by simpa using e48
  obtain ⟨A4_1, c4_1, l4_1, rfl, w4_1⟩ : ∃ A c l, c_1 = .slice A l.length c ∧ Kd.C k43 W A l.length l ∧ l.length ≤ c ∧ c ≤ maxLen ∧ (∀ y ∈ l, (Lit.int .i64 y.f0).wf = true ∧ (Lit.int .i64 y.f1).wf = true ∧ (Lit.int .i64 y.f2).wf = true) := by
   rcases open_slice Try.underlying26 g47 with ⟨hcs, _⟩ | ⟨ad, len, cap, m, n_, D_, Pl_, hcs, _, hlc, hcm, hm, _, hel⟩
   ·exact ⟨none, 0, [], by simpa using hcs, ⟨rfl, by simp, fun hp => absurd hp zO4_3⟩, by simp, by unfold maxLen; omega, by simp⟩
   ·have hlen : len ≤ 9223372036854775807 := by unfold maxLen at hcm; omega
    have each_ : ∀ i, i < len → ∃ (y : S43) (c : List Value), ((Lit.int .i64 y.f0).wf = true ∧ (Lit.int .i64 y.f1).wf = true ∧ (Lit.int .i64 y.f2).wf = true) ∧ c.length = (k43 : Kd _).sz ∧ (k43 : Kd _).K W y c ∧ ∀ j u, c[j]? = some u → W.cell? (ad.add (i * (k43 : Kd _).sz + j)) = some u := by
     intro i hi
     obtain ⟨cs_, hc_, ht_⟩ := hel i (by simp only [if_true] at hm; omega)
     rw [cof43] at hc_
     obtain ⟨hb_, hn_, hat_⟩ := World.cells?_some hc_
     obtain ⟨u50, u51, u52, rfl⟩ : ∃ u50 u51 u52, cs_ = [u50, u51, u52] := by match cs_, hn_ with | [u50, u51, u52], _ => exact ⟨u50, u51, u52, rfl⟩
     obtain ⟨xs53, n54, _, _, _, hl55, hg56⟩ := DataW.trod_struct Try.underlying43 ht_
     obtain ⟨y57, y58, y59, rfl⟩ : ∃ y57 y58 y59, xs53 = [y57, y58, y59] := by match xs53, hl55 with | [y57, y58, y59], _ => exact ⟨y57, y58, y59, rfl⟩
     have g60 : DataW.trod enc Try.prog W 0 (fun _ => true) true n54 3 [u50] = some y57 := by have z_ : DataW.trod enc Try.prog W 0 (fun _ => true) true n54 3 (([u50, u51, u52].drop 0).take (Try.prog.cellsOf 3)) = [y57, y58, y59][0]? := hg56 0 _ rfl; rw [cof3] at z_; exact z_
     have g61 : DataW.trod enc Try.prog W 0 (fun _ => true) true n54 3 [u51] = some y58 := by have z_ : DataW.trod enc Try.prog W 0 (fun _ => true) true n54 3 (([u50, u51, u52].drop 1).take (Try.prog.cellsOf 3)) = [y57, y58, y59][1]? := hg56 1 _ rfl; rw [cof3] at z_; exact z_
     have g62 : DataW.trod enc Try.prog W 0 (fun _ => true) true n54 3 [u52] = some y59 := by have z_ : DataW.trod enc Try.prog W 0 (fun _ => true) true n54 3 (([u50, u51, u52].drop 2).take (Try.prog.cellsOf 3)) = [y57, y58, y59][2]? := hg56 2 _ rfl; rw [cof3] at z_; exact z_
     obtain ⟨a4_1e0, e63, _, w4_1e0⟩ := DataW.trod_int Try.underlying3 g60
     obtain rfl : u50 = _ := by simpa using e63
     obtain ⟨a4_1e1, e64, _, w4_1e1⟩ := DataW.trod_int Try.underlying3 g61
     obtain rfl : u51 = _ := by simpa using e64
     obtain ⟨a4_1e2, e65, _, w4_1e2⟩ := DataW.trod_int Try.underlying3 g62
     obtain rfl : u52 = _ := by simpa using e65
     refine ⟨(⟨a4_1e0, a4_1e1, a4_1e2⟩ : S43), [.int .i64 a4_1e0, .int .i64 a4_1e1, .int .i64 a4_1e2], ⟨w4_1e0, w4_1e1, w4_1e2⟩, rfl, (k43_mk W _), fun j u hu => ?_⟩
     have hj : j < 3 := by have := (List.getElem?_eq_some_iff.1 hu).1; simpa using this
     have h1_ := hat_ j hj
     have hs_ : (k43 : Kd _).sz = 3 := rfl
     rw [hs_, ← Go.Deep.add_add, h1_]; exact hu
    obtain ⟨xs_, hx_, hC_, hP_⟩ := C_each k43 W ad len hlen (fun y => (Lit.int .i64 y.f0).wf = true ∧ (Lit.int .i64 y.f1).wf = true ∧ (Lit.int .i64 y.f2).wf = true) each_
    exact ⟨some ad, cap, xs_, by rw [hx_]; simpa using hcs, by rw [hx_]; exact hC_, by omega, hcm, hP_⟩
  exact ⟨_, _, _, _, rfl, w4_0, w4_1⟩
set_option maxRecDepth 100000 in
theorem open5 {H : Type} {enc : TypeId × Value → H} {W : World} {base : Nat} {v : Value} {d : DataW H} {p : List MemPlace} (hv : Value.okWide Try.prog W .any base 43 v) (h : DataW.Trod enc Try.prog W 0 (fun _ => true) true 43 v d p) :
  ∃ (a5_0 : Int) (a5_1 : Int) (a5_2 : Int), v = .agg #[.int .i64 a5_0, .int .i64 a5_1, .int .i64 a5_2] ∧ ((Lit.int .i64 a5_0).wf = true) ∧ ((Lit.int .i64 a5_1).wf = true) ∧ ((Lit.int .i64 a5_2).wf = true) := by
 obtain ⟨cs, rfl, hsz⟩ := okWide_struct Try.underlying43 hv
 rw [cof43] at hsz
 obtain ⟨l⟩ := cs
 match l, hsz with
 | [c_0, c_1, c_2], _ =>
  obtain ⟨fuel, hf⟩ := h
  have hf : DataW.trod enc Try.prog W 0 (fun _ => true) true fuel 43 [c_0, c_1, c_2] = some (d, p) := hf
  obtain ⟨xs66, n67, _, _, _, hl68, hg69⟩ := DataW.trod_struct Try.underlying43 hf
  obtain ⟨y70, y71, y72, rfl⟩ : ∃ y70 y71 y72, xs66 = [y70, y71, y72] := by match xs66, hl68 with | [y70, y71, y72], _ => exact ⟨y70, y71, y72, rfl⟩
  have g73 : DataW.trod enc Try.prog W 0 (fun _ => true) true n67 3 [c_0] = some y70 := by have z_ : DataW.trod enc Try.prog W 0 (fun _ => true) true n67 3 (([c_0, c_1, c_2].drop 0).take (Try.prog.cellsOf 3)) = [y70, y71, y72][0]? := hg69 0 _ rfl; rw [cof3] at z_; exact z_
  have g74 : DataW.trod enc Try.prog W 0 (fun _ => true) true n67 3 [c_1] = some y71 := by have z_ : DataW.trod enc Try.prog W 0 (fun _ => true) true n67 3 (([c_0, c_1, c_2].drop 1).take (Try.prog.cellsOf 3)) = [y70, y71, y72][1]? := hg69 1 _ rfl; rw [cof3] at z_; exact z_
  have g75 : DataW.trod enc Try.prog W 0 (fun _ => true) true n67 3 [c_2] = some y72 := by have z_ : DataW.trod enc Try.prog W 0 (fun _ => true) true n67 3 (([c_0, c_1, c_2].drop 2).take (Try.prog.cellsOf 3)) = [y70, y71, y72][2]? := hg69 2 _ rfl; rw [cof3] at z_; exact z_
  obtain ⟨a5_0, e76, _, w5_0⟩ := DataW.trod_int Try.underlying3 g73
  obtain rfl : c_0 = _ := by simpa using e76
  obtain ⟨a5_1, e77, _, w5_1⟩ := DataW.trod_int Try.underlying3 g74
  obtain rfl : c_1 = _ := by simpa using e77
  obtain ⟨a5_2, e78, _, w5_2⟩ := DataW.trod_int Try.underlying3 g75
  obtain rfl : c_2 = _ := by simpa using e78
  exact ⟨_, _, _, rfl, w5_0, w5_1, w5_2⟩
set_option maxRecDepth 100000 in
theorem open6 {H : Type} {enc : TypeId × Value → H} {W : World} {base : Nat} {v : Value} {d : DataW H} {p : List MemPlace} (hv : Value.okWide Try.prog W .any base 28 v) (h : DataW.Trod enc Try.prog W 0 (fun _ => true) true 28 v d p) :
  ∃ (a6_0 : Int) (A6_1 : Option Addr) (c6_1 : Nat) (l6_1 : List S43), v = .agg #[.int .i64 a6_0, .slice A6_1 l6_1.length c6_1] ∧ ((Lit.int .i64 a6_0).wf = true) ∧ (Kd.C k43 W A6_1 l6_1.length l6_1 ∧ l6_1.length ≤ c6_1 ∧ c6_1 ≤ maxLen ∧ (∀ y ∈ l6_1, (Lit.int .i64 y.f0).wf = true ∧ (Lit.int .i64 y.f1).wf = true ∧ (Lit.int .i64 y.f2).wf = true)) := by
 obtain ⟨cs, rfl, hsz⟩ := okWide_struct Try.underlying28 hv
 rw [cof28] at hsz
 obtain ⟨l⟩ := cs
 match l, hsz with
 | [c_0, c_1], _ =>
  obtain ⟨fuel, hf⟩ := h
  have hf : DataW.trod enc Try.prog W 0 (fun _ => true) true fuel 28 [c_0, c_1] = some (d, p) := hf
  obtain ⟨xs79, n80, _, _, _, hl81, hg82⟩ := DataW.trod_struct Try.underlying28 hf
  obtain ⟨y83, y84, rfl⟩ : ∃ y83 y84, xs79 = [y83, y84] := by match xs79, hl81 with | [y83, y84], _ => exact ⟨y83, y84, rfl⟩
  have g85 : DataW.trod enc Try.prog W 0 (fun _ => true) true n80 3 [c_0] = some y83 := by have z_ : DataW.trod enc Try.prog W 0 (fun _ => true) true n80 3 (([c_0, c_1].drop 0).take (Try.prog.cellsOf 3)) = [y83, y84][0]? := hg82 0 _ rfl; rw [cof3] at z_; exact z_
  have g86 : DataW.trod enc Try.prog W 0 (fun _ => true) true n80 26 [c_1] = some y84 := by have z_ : DataW.trod enc Try.prog W 0 (fun _ => true) true n80 26 (([c_0, c_1].drop 1).take (Try.prog.cellsOf 26)) = [y83, y84][1]? := hg82 1 _ rfl; rw [cof26] at z_; exact z_
  obtain ⟨a6_0, e87, _, w6_0⟩ := DataW.trod_int Try.underlying3 g85
  obtain rfl : c_0 = _ := by simpa using e87
  obtain ⟨A6_1, c6_1, l6_1, rfl, w6_1⟩ : ∃ A c l, c_1 = .slice A l.length c ∧ Kd.C k43 W A l.length l ∧ l.length ≤ c ∧ c ≤ maxLen ∧ (∀ y ∈ l, (Lit.int .i64 y.f0).wf = true ∧ (Lit.int .i64 y.f1).wf = true ∧ (Lit.int .i64 y.f2).wf = true) := by
   rcases open_slice Try.underlying26 g86 with ⟨hcs, _⟩ | ⟨ad, len, cap, m, n_, D_, Pl_, hcs, _, hlc, hcm, hm, _, hel⟩
   ·exact ⟨none, 0, [], by simpa using hcs, ⟨rfl, by simp, fun hp => absurd hp zO4_3⟩, by simp, by unfold maxLen; omega, by simp⟩
   ·have hlen : len ≤ 9223372036854775807 := by unfold maxLen at hcm; omega
    have each_ : ∀ i, i < len → ∃ (y : S43) (c : List Value), ((Lit.int .i64 y.f0).wf = true ∧ (Lit.int .i64 y.f1).wf = true ∧ (Lit.int .i64 y.f2).wf = true) ∧ c.length = (k43 : Kd _).sz ∧ (k43 : Kd _).K W y c ∧ ∀ j u, c[j]? = some u → W.cell? (ad.add (i * (k43 : Kd _).sz + j)) = some u := by
     intro i hi
     obtain ⟨cs_, hc_, ht_⟩ := hel i (by simp only [if_true] at hm; omega)
     rw [cof43] at hc_
     obtain ⟨hb_, hn_, hat_⟩ := World.cells?_some hc_
     obtain ⟨u89, u90, u91, rfl⟩ : ∃ u89 u90 u91, cs_ = [u89, u90, u91] := by match cs_, hn_ with | [u89, u90, u91], _ => exact ⟨u89, u90, u91, rfl⟩
     obtain ⟨xs92, n93, _, _, _, hl94, hg95⟩ := DataW.trod_struct Try.underlying43 ht_
     obtain ⟨y96, y97, y98, rfl⟩ : ∃ y96 y97 y98, xs92 = [y96, y97, y98] := by match xs92, hl94 with | [y96, y97, y98], _ => exact ⟨y96, y97, y98, rfl⟩
     have g99 : DataW.trod enc Try.prog W 0 (fun _ => true) true n93 3 [u89] = some y96 := by have z_ : DataW.trod enc Try.prog W 0 (fun _ => true) true n93 3 (([u89, u90, u91].drop 0).take (Try.prog.cellsOf 3)) = [y96, y97, y98][0]? := hg95 0 _ rfl; rw [cof3] at z_; exact z_
     have g100 : DataW.trod enc Try.prog W 0 (fun _ => true) true n93 3 [u90] = some y97 := by have z_ : DataW.trod enc Try.prog W 0 (fun _ => true) true n93 3 (([u89, u90, u91].drop 1).take (Try.prog.cellsOf 3)) = [y96, y97, y98][1]? := hg95 1 _ rfl; rw [cof3] at z_; exact z_
     have g101 : DataW.trod enc Try.prog W 0 (fun _ => true) true n93 3 [u91] = some y98 := by have z_ : DataW.trod enc Try.prog W 0 (fun _ => true) true n93 3 (([u89, u90, u91].drop 2).take (Try.prog.cellsOf 3)) = [y96, y97, y98][2]? := hg95 2 _ rfl; rw [cof3] at z_; exact z_
     obtain ⟨a6_1e0, e102, _, w6_1e0⟩ := DataW.trod_int Try.underlying3 g99
     obtain rfl : u89 = _ := by simpa using e102
     obtain ⟨a6_1e1, e103, _, w6_1e1⟩ := DataW.trod_int Try.underlying3 g100
     obtain rfl : u90 = _ := by simpa using e103
     obtain ⟨a6_1e2, e104, _, w6_1e2⟩ := DataW.trod_int Try.underlying3 g101
     obtain rfl : u91 = _ := by simpa using e104
     refine ⟨(⟨a6_1e0, a6_1e1, a6_1e2⟩ : S43), [.int .i64 a6_1e0, .int .i64 a6_1e1, .int .i64 a6_1e2], ⟨w6_1e0, w6_1e1, w6_1e2⟩, rfl, (k43_mk W _), fun j u hu => ?_⟩
     have hj : j < 3 := by have := (List.getElem?_eq_some_iff.1 hu).1; simpa using this
     have h1_ := hat_ j hj
     have hs_ : (k43 : Kd _).sz = 3 := rfl
     rw [hs_, ← Go.Deep.add_add, h1_]; exact hu
    obtain ⟨xs_, hx_, hC_, hP_⟩ := C_each k43 W ad len hlen (fun y => (Lit.int .i64 y.f0).wf = true ∧ (Lit.int .i64 y.f1).wf = true ∧ (Lit.int .i64 y.f2).wf = true) each_
    exact ⟨some ad, cap, xs_, by rw [hx_]; simpa using hcs, by rw [hx_]; exact hC_, by omega, hcm, hP_⟩
  exact ⟨_, _, _, _, rfl, w6_0, w6_1⟩
set_option maxRecDepth 100000 in
theorem open8 {H : Type} {enc : TypeId × Value → H} {W : World} {base : Nat} {v : Value} {d : DataW H} {p : List MemPlace} (hv : Value.okWide Try.prog W .any base 43 v) (h : DataW.Trod enc Try.prog W 0 (fun _ => true) true 43 v d p) :
  ∃ (a8_0 : Int) (a8_1 : Int) (a8_2 : Int), v = .agg #[.int .i64 a8_0, .int .i64 a8_1, .int .i64 a8_2] ∧ ((Lit.int .i64 a8_0).wf = true) ∧ ((Lit.int .i64 a8_1).wf = true) ∧ ((Lit.int .i64 a8_2).wf = true) := by
 obtain ⟨cs, rfl, hsz⟩ := okWide_struct Try.underlying43 hv
 rw [cof43] at hsz
 obtain ⟨l⟩ := cs
 match l, hsz with
 | [c_0, c_1, c_2], _ =>
  obtain ⟨fuel, hf⟩ := h
  have hf : DataW.trod enc Try.prog W 0 (fun _ => true) true fuel 43 [c_0, c_1, c_2] = some (d, p) := hf
  obtain ⟨xs105, n106, _, _, _, hl107, hg108⟩ := DataW.trod_struct Try.underlying43 hf
  obtain ⟨y109, y110, y111, rfl⟩ : ∃ y109 y110 y111, xs105 = [y109, y110, y111] := by match xs105, hl107 with | [y109, y110, y111], _ => exact ⟨y109, y110, y111, rfl⟩
  have g112 : DataW.trod enc Try.prog W 0 (fun _ => true) true n106 3 [c_0] = some y109 := by have z_ : DataW.trod enc Try.prog W 0 (fun _ => true) true n106 3 (([c_0, c_1, c_2].drop 0).take (Try.prog.cellsOf 3)) = [y109, y110, y111][0]? := hg108 0 _ rfl; rw [cof3] at z_; exact z_
  have g113 : DataW.trod enc Try.prog W 0 (fun _ => true) true n106 3 [c_1] = some y110 := by have z_ : DataW.trod enc Try.prog W 0 (fun _ => true) true n106 3 (([c_0, c_1, c_2].drop 1).take (Try.prog.cellsOf 3)) = [y109, y110, y111][1]? := hg108 1 _ rfl; rw [cof3] at z_; exact z_
  have g114 : DataW.trod enc Try.prog W 0 (fun _ => true) true n106 3 [c_2] = some y111 := by have z_ : DataW.trod enc Try.prog W 0 (fun _ => true) true n106 3 (([c_0, c_1, c_2].drop 2).take (Try.prog.cellsOf 3)) = [y109, y110, y111][2]? := hg108 2 _ rfl; rw [cof3] at z_; exact z_
  obtain ⟨a8_0, e115, _, w8_0⟩ := DataW.trod_int Try.underlying3 g112
  obtain rfl : c_0 = _ := by simpa using e115
  obtain ⟨a8_1, e116, _, w8_1⟩ := DataW.trod_int Try.underlying3 g113
  obtain rfl : c_1 = _ := by simpa using e116
  obtain ⟨a8_2, e117, _, w8_2⟩ := DataW.trod_int Try.underlying3 g114
  obtain rfl : c_2 = _ := by simpa using e117
  exact ⟨_, _, _, rfl, w8_0, w8_1, w8_2⟩
set_option maxRecDepth 100000 in
theorem open9 {H : Type} {enc : TypeId × Value → H} {W : World} {base : Nat} {v : Value} {d : DataW H} {p : List MemPlace} (hv : Value.okWide Try.prog W .any base 41 v) (h : DataW.Trod enc Try.prog W 0 (fun _ => true) true 41 v d p) :
  ∃ (a9_0 : Int) (a9_1 : Int) (a9_2 : Int), v = .agg #[.int .i64 a9_0, .int .i64 a9_1, .int .i64 a9_2] ∧ ((Lit.int .i64 a9_0).wf = true) ∧ ((Lit.int .i64 a9_1).wf = true) ∧ ((Lit.int .i64 a9_2).wf = true) := by
 obtain ⟨cs, rfl, hsz⟩ := okWide_struct Try.underlying41 hv
 rw [cof41] at hsz
 obtain ⟨l⟩ := cs
 match l, hsz with
 | [c_0, c_1, c_2], _ =>
  obtain ⟨fuel, hf⟩ := h
  have hf : DataW.trod enc Try.prog W 0 (fun _ => true) true fuel 41 [c_0, c_1, c_2] = some (d, p) := hf
  obtain ⟨xs118, n119, _, _, _, hl120, hg121⟩ := DataW.trod_struct Try.underlying41 hf
  obtain ⟨y122, y123, y124, rfl⟩ : ∃ y122 y123 y124, xs118 = [y122, y123, y124] := by match xs118, hl120 with | [y122, y123, y124], _ => exact ⟨y122, y123, y124, rfl⟩
  have g125 : DataW.trod enc Try.prog W 0 (fun _ => true) true n119 3 [c_0] = some y122 := by have z_ : DataW.trod enc Try.prog W 0 (fun _ => true) true n119 3 (([c_0, c_1, c_2].drop 0).take (Try.prog.cellsOf 3)) = [y122, y123, y124][0]? := hg121 0 _ rfl; rw [cof3] at z_; exact z_
  have g126 : DataW.trod enc Try.prog W 0 (fun _ => true) true n119 3 [c_1] = some y123 := by have z_ : DataW.trod enc Try.prog W 0 (fun _ => true) true n119 3 (([c_0, c_1, c_2].drop 1).take (Try.prog.cellsOf 3)) = [y122, y123, y124][1]? := hg121 1 _ rfl; rw [cof3] at z_; exact z_
  have g127 : DataW.trod enc Try.prog W 0 (fun _ => true) true n119 3 [c_2] = some y124 := by have z_ : DataW.trod enc Try.prog W 0 (fun _ => true) true n119 3 (([c_0, c_1, c_2].drop 2).take (Try.prog.cellsOf 3)) = [y122, y123, y124][2]? := hg121 2 _ rfl; rw [cof3] at z_; exact z_
  obtain ⟨a9_0, e128, _, w9_0⟩ := DataW.trod_int Try.underlying3 g125
  obtain rfl : c_0 = _ := by simpa using e128
  obtain ⟨a9_1, e129, _, w9_1⟩ := DataW.trod_int Try.underlying3 g126
  obtain rfl : c_1 = _ := by simpa using e129
  obtain ⟨a9_2, e130, _, w9_2⟩ := DataW.trod_int Try.underlying3 g127
  obtain rfl : c_2 = _ := by simpa using e130
  exact ⟨_, _, _, rfl, w9_0, w9_1, w9_2⟩
set_option maxRecDepth 100000 in
theorem open11 {H : Type} {enc : TypeId × Value → H} {W : World} {base : Nat} {v : Value} {d : DataW H} {p : List MemPlace} (hv : Value.okWide Try.prog W .any base 43 v) (h : DataW.Trod enc Try.prog W 0 (fun _ => true) true 43 v d p) :
  ∃ (a11_0 : Int) (a11_1 : Int) (a11_2 : Int), v = .agg #[.int .i64 a11_0, .int .i64 a11_1, .int .i64 a11_2] ∧ ((Lit.int .i64 a11_0).wf = true) ∧ ((Lit.int .i64 a11_1).wf = true) ∧ ((Lit.int .i64 a11_2).wf = true) := by
 obtain ⟨cs, rfl, hsz⟩ := okWide_struct Try.underlying43 hv
 rw [cof43] at hsz
 obtain ⟨l⟩ := cs
 match l, hsz with
 | [c_0, c_1, c_2], _ =>
  obtain ⟨fuel, hf⟩ := h
  have hf : DataW.trod enc Try.prog W 0 (fun _ => true) true fuel 43 [c_0, c_1, c_2] = some (d, p) := hf
  obtain ⟨xs131, n132, _, _, _, hl133, hg134⟩ := DataW.trod_struct Try.underlying43 hf
  obtain ⟨y135, y136, y137, rfl⟩ : ∃ y135 y136 y137, xs131 = [y135, y136, y137] := by match xs131, hl133 with | [y135, y136, y137], _ => exact ⟨y135, y136, y137, rfl⟩
  have g138 : DataW.trod enc Try.prog W 0 (fun _ => true) true n132 3 [c_0] = some y135 := by have z_ : DataW.trod enc Try.prog W 0 (fun _ => true) true n132 3 (([c_0, c_1, c_2].drop 0).take (Try.prog.cellsOf 3)) = [y135, y136, y137][0]? := hg134 0 _ rfl; rw [cof3] at z_; exact z_
  have g139 : DataW.trod enc Try.prog W 0 (fun _ => true) true n132 3 [c_1] = some y136 := by have z_ : DataW.trod enc Try.prog W 0 (fun _ => true) true n132 3 (([c_0, c_1, c_2].drop 1).take (Try.prog.cellsOf 3)) = [y135, y136, y137][1]? := hg134 1 _ rfl; rw [cof3] at z_; exact z_
  have g140 : DataW.trod enc Try.prog W 0 (fun _ => true) true n132 3 [c_2] = some y137 := by have z_ : DataW.trod enc Try.prog W 0 (fun _ => true) true n132 3 (([c_0, c_1, c_2].drop 2).take (Try.prog.cellsOf 3)) = [y135, y136, y137][2]? := hg134 2 _ rfl; rw [cof3] at z_; exact z_
  obtain ⟨a11_0, e141, _, w11_0⟩ := DataW.trod_int Try.underlying3 g138
  obtain rfl : c_0 = _ := by simpa using e141
  obtain ⟨a11_1, e142, _, w11_1⟩ := DataW.trod_int Try.underlying3 g139
  obtain rfl : c_1 = _ := by simpa using e142
  obtain ⟨a11_2, e143, _, w11_2⟩ := DataW.trod_int Try.underlying3 g140
  obtain rfl : c_2 = _ := by simpa using e143
  exact ⟨_, _, _, rfl, w11_0, w11_1, w11_2⟩
set_option maxRecDepth 100000 in
theorem lifted (os : Os) (started : os.Started) (H : Type) (enc : TypeId × Value → H) :
  ReturnsInHanded {} Try.checked os 5 .any (Rows.fnLaddersHiddenOfAllSpec.pre6 enc Try.prog Try.f5 Rows.fnLaddersHiddenOfAllRow.domain false) (Rows.fnLaddersHiddenOfAllSpec.post enc Try.prog Try.f5 false true false false) := by
 refine returnsInHanded_of_change_sized (C := Try.checked) own started (by kernel_rfl) Try.func5
  (ChangeSpec.witness6 (enc := enc) (C := Try.checked) false ⟨#[], #[.agg #[.int .i64 0, .int .i64 0, .int .i64 0], .int .i64 0, .int .i64 0, .agg #[.int .i64 0, .slice none 0 0], .agg #[.int .i64 0, .slice none 0 0], .agg #[.int .i64 0, .int .i64 0, .int .i64 0], .agg #[.int .i64 0, .slice none 0 0], .int .i64 0, .agg #[.int .i64 0, .int .i64 0, .int .i64 0], .agg #[.int .i64 0, .int .i64 0, .int .i64 0], .int .i64 0, .agg #[.int .i64 0, .int .i64 0, .int .i64 0]], []⟩ 8 (by kernel_rfl) (by kernel_rfl) (by kernel_rfl) (by kernel_rfl)) ?_
 intro W base args ds gs before hval0 hW hcnd hsz0 _
 have hsz : (DataW.weightsEach Try.prog (Try.f5.params.toList ++ Rows.fnLaddersHiddenOfAllSpec.plain.varTypes Try.prog) (ds ++ gs)).all (· ≤ reachBytes) = true := hsz0
 have hval : ∀ (j : Nat) t v, Try.f5.params[j]? = some t → args[j]? = some v → Value.okWide Try.prog W .any base t v := hval0
 have hW' := hW
 obtain ⟨p, q, hA0, hV, rfl, hfz, hnd⟩ := hW
 have hA : DataW.TrodAll enc Try.prog W 0 (fun _ => true) true Try.f5.params.toList args.toList ds p := hA0
 rw [Try.params5] at hA hval hsz
 obtain ⟨v0, vs0, d0, ds0, p0, q0, hargs, rfl, rfl, h0, r0⟩ := trodAll_cons hA
 obtain ⟨v1, vs1, d1, ds1, p1, q1, rfl, rfl, rfl, h1, r1⟩ := trodAll_cons r0
 obtain ⟨v2, vs2, d2, ds2, p2, q2, rfl, rfl, rfl, h2, r2⟩ := trodAll_cons r1
 obtain ⟨v3, vs3, d3, ds3, p3, q3, rfl, rfl, rfl, h3, r3⟩ := trodAll_cons r2
 obtain ⟨v4, vs4, d4, ds4, p4, q4, rfl, rfl, rfl, h4, r4⟩ := trodAll_cons r3
 obtain ⟨v5, vs5, d5, ds5, p5, q5, rfl, rfl, rfl, h5, r5⟩ := trodAll_cons r4
 obtain ⟨v6, vs6, d6, ds6, p6, q6, rfl, rfl, rfl, h6, r6⟩ := trodAll_cons r5
 obtain ⟨v7, vs7, d7, ds7, p7, q7, rfl, rfl, rfl, h7, r7⟩ := trodAll_cons r6
 obtain ⟨v8, vs8, d8, ds8, p8, q8, rfl, rfl, rfl, h8, r8⟩ := trodAll_cons r7
 obtain ⟨v9, vs9, d9, ds9, p9, q9, rfl, rfl, rfl, h9, r9⟩ := trodAll_cons r8
 obtain ⟨v10, vs10, d10, ds10, p10, q10, rfl, rfl, rfl, h10, r10⟩ := trodAll_cons r9
 obtain ⟨v11, vs11, d11, ds11, p11, q11, rfl, rfl, rfl, h11, r11⟩ := trodAll_cons r10
 obtain ⟨rfl, rfl, rfl⟩ := trodAll_nil r11
 obtain rfl : args = #[v0, v1, v2, v3, v4, v5, v6, v7, v8, v9, v10, v11] := by cases args; simp_all
 obtain ⟨rfl, rfl⟩ := trodVars_none hV
 have k0 := h0
 have lt0 : ∀ x ∈ p0, x.block < W.heap.size := by obtain ⟨m, hm⟩ := k0; exact DataW.trod_lt m _ _ _ hm
 obtain ⟨a0_0, a0_1, a0_2, rfl, w0_0, w0_1, w0_2⟩ := open0 (hval 0 41 v0 rfl rfl) h0
 obtain ⟨a1, rfl, rfl, rfl, w1⟩ := open_int Try.underlying3 (hval 1 3 v1 rfl rfl) h1
 obtain ⟨a2, rfl, rfl, rfl, w2⟩ := open_int Try.underlying3 (hval 2 3 v2 rfl rfl) h2
 have k3 := h3
 have lt3 : ∀ x ∈ p3, x.block < W.heap.size := by obtain ⟨m, hm⟩ := k3; exact DataW.trod_lt m _ _ _ hm
 obtain ⟨a3_0, A3_1, c3_1, l3_1, rfl, w3_0, ⟨hr3_1, hc3_1, hm3_1, w3_1⟩⟩ := open3 (hval 3 28 v3 rfl rfl) h3
 have k4 := h4
 have lt4 : ∀ x ∈ p4, x.block < W.heap.size := by obtain ⟨m, hm⟩ := k4; exact DataW.trod_lt m _ _ _ hm
 obtain ⟨a4_0, A4_1, c4_1, l4_1, rfl, w4_0, ⟨hr4_1, hc4_1, hm4_1, w4_1⟩⟩ := open4 (hval 4 28 v4 rfl rfl) h4
 have k5 := h5
 have lt5 : ∀ x ∈ p5, x.block < W.heap.size := by obtain ⟨m, hm⟩ := k5; exact DataW.trod_lt m _ _ _ hm
 obtain ⟨a5_0, a5_1, a5_2, rfl, w5_0, w5_1, w5_2⟩ := open5 (hval 5 43 v5 rfl rfl) h5
 have k6 := h6
 have lt6 : ∀ x ∈ p6, x.block < W.heap.size := by obtain ⟨m, hm⟩ := k6; exact DataW.trod_lt m _ _ _ hm
 obtain ⟨a6_0, A6_1, c6_1, l6_1, rfl, w6_0, ⟨hr6_1, hc6_1, hm6_1, w6_1⟩⟩ := open6 (hval 6 28 v6 rfl rfl) h6
 obtain ⟨a7, rfl, rfl, rfl, w7⟩ := open_int Try.underlying3 (hval 7 3 v7 rfl rfl) h7
 have k8 := h8
 have lt8 : ∀ x ∈ p8, x.block < W.heap.size := by obtain ⟨m, hm⟩ := k8; exact DataW.trod_lt m _ _ _ hm
 obtain ⟨a8_0, a8_1, a8_2, rfl, w8_0, w8_1, w8_2⟩ := open8 (hval 8 43 v8 rfl rfl) h8
 have k9 := h9
 have lt9 : ∀ x ∈ p9, x.block < W.heap.size := by obtain ⟨m, hm⟩ := k9; exact DataW.trod_lt m _ _ _ hm
 obtain ⟨a9_0, a9_1, a9_2, rfl, w9_0, w9_1, w9_2⟩ := open9 (hval 9 41 v9 rfl rfl) h9
 obtain ⟨a10, rfl, rfl, rfl, w10⟩ := open_int Try.underlying3 (hval 10 3 v10 rfl rfl) h10
 have k11 := h11
 have lt11 : ∀ x ∈ p11, x.block < W.heap.size := by obtain ⟨m, hm⟩ := k11; exact DataW.trod_lt m _ _ _ hm
 obtain ⟨a11_0, a11_1, a11_2, rfl, w11_0, w11_1, w11_2⟩ := open11 (hval 11 43 v11 rfl rfl) h11
 clear hA0 hval0 hsz0 hsz
 obtain ⟨kk, hk⟩ := Pure.FnLaddersHiddenOfAll a0_0 a0_1 a0_2 a1 a2 a3_0 l3_1 a4_0 l4_1 a5_0 a5_1 a5_2 a6_0 l6_1 a7 a8_0 a8_1 a8_2 a9_0 a9_1 a9_2 a10 a11_0 a11_1 a11_2 w0_0 w0_1 w0_2 w1 w2 w3_0 (Nat.le_trans hc3_1 hm3_1) w3_1 w4_0 (Nat.le_trans hc4_1 hm4_1) w4_1 w5_0 w5_1 w5_2 w6_0 (Nat.le_trans hc6_1 hm6_1) w6_1 w7 w8_0 w8_1 w8_2 w9_0 w9_1 w9_2 w10 w11_0 w11_1 w11_2
 refine (P.laws_FnLaddersHiddenOfAll.calls kk a0_0 a0_1 a0_2 a1 a2 a3_0 _ _ l3_1 a4_0 _ _ l4_1 a5_0 a5_1 a5_2 a6_0 _ _ l6_1 a7 a8_0 a8_1 a8_2 a9_0 a9_1 a9_2 a10 a11_0 a11_1 a11_2 true W hr3_1 hc3_1 hr4_1 hc4_1 hr6_1 hc6_1 hk rfl).mono fun e W' ⟨he, bel0⟩ => ?_
 have bel : Below W.heap.size W W' := bel0
 subst he
 exact ⟨_, rfl, _, _, _, [], _, [], hW', trodAll_mk1 (shut_bool Try.underlying4 _), (trodAll_cons_mk (Below.trod laidOut (by kernel_rfl) (of_decide_eq_true (by kernel_rfl)) k0 bel lt0) (trodAll_cons_mk (shut_int Try.underlying3 w1) (trodAll_cons_mk (shut_int Try.underlying3 w2) (trodAll_cons_mk (Below.trod laidOut (by kernel_rfl) (of_decide_eq_true (by kernel_rfl)) k3 bel lt3) (trodAll_cons_mk (Below.trod laidOut (by kernel_rfl) (of_decide_eq_true (by kernel_rfl)) k4 bel lt4) (trodAll_cons_mk (Below.trod laidOut (by kernel_rfl) (of_decide_eq_true (by kernel_rfl)) k5 bel lt5) (trodAll_cons_mk (Below.trod laidOut (by kernel_rfl) (of_decide_eq_true (by kernel_rfl)) k6 bel lt6) (trodAll_cons_mk (shut_int Try.underlying3 w7) (trodAll_cons_mk (Below.trod laidOut (by kernel_rfl) (of_decide_eq_true (by kernel_rfl)) k8 bel lt8) (trodAll_cons_mk (Below.trod laidOut (by kernel_rfl) (of_decide_eq_true (by kernel_rfl)) k9 bel lt9) (trodAll_cons_mk (shut_int Try.underlying3 w10) (trodAll_cons_mk (Below.trod laidOut (by kernel_rfl) (of_decide_eq_true (by kernel_rfl)) k11 bel lt11) trodAll_mk0)))))))))))), rfl, bel.frame _, fun h => by cases h⟩
theorem over : Rows.fnLaddersHiddenOfAllRow.holds Try.pinned (OpenSpec.ofChange Rows.fnLaddersHiddenOfAllSpec) :=
 OpenClaim.holds_of_wide 5 Try.f5 rfl rfl rfl rfl rfl rfl rfl ⟨rfl, rfl, rfl, rfl, rfl⟩ rfl rfl rfl rfl rfl (by kernel_rfl) Try.func5 (by kernel_rfl)
  (of_decide_eq_true (by kernel_rfl)) (by unfold Func.isWrapper; first | (rw [if_pos (by decide +kernel)]; kernel_rfl) | (rw [if_neg (by decide +kernel)]; exact ⟨rfl, rfl⟩))
  (fun os started H enc _ => lifted os started H enc)
theorem proved : Rows.FnLaddersHiddenOfAllSaid := over
end Go.Proofs.Ythioojdannlhiaa.fnLaddersHiddenOfAll
namespace Go.Proofs.Ythioojdannlhiaa
/-- The row, under a short name, for the claim. -/
theorem fnLaddersHiddenOfAll_holds : Rows.FnLaddersHiddenOfAllSaid := fnLaddersHiddenOfAll.proved
end Go.Proofs.Ythioojdannlhiaa
