/- The law FnExactDropClue is proved: a call of it returns true and leaves its arguments as they were; and what this needs. Every input that the given rows speak of; nothing else is asked. -/
import Derived.Test.YtbdjidjcmmeanaaNFnExactDropClue0
import Derived.Test.YtbdjidjcmmeanaaNFnExactDropClue3
import Derived.Test.YtbdjidjcmmeanaaNFnExactDropClue1
import Derived.Test.YtbdjidjcmmeanaaNFnExactDropClue2
import Derived.Test.YtbdjidjcmmeanaaRows
import Derived.WalkKit
import Derived.ProofKit
import Derived.OpenShut
import Derived.ShutString
import Derived.ChangeOld
import Derived.Below
import Derived.SizedLaws
import Derived.Deep.Slices
import Derived.Deep.Fields
import Derived.ChangeSame
import Derived.Lib.SmallJoins
import Derived.Test.YtbdjidjcmmeanaaWSized
namespace Go.Proofs.Ytbdjidjcmmeanaa.P
open Go.RowKit Go.Proofs.YtbdjidjcmmeanaaW.PrintWords Go.Proofs.YtbdjidjcmmeanaaW.PrintLast Go.Proofs.YtbdjidjcmmeanaaW.PrintMore
attribute [local go_sem] max2_int min2_int max_two min_two max_three min_three max_four min_four   -- for this text's walks alone
set_option linter.unusedVariables false
set_option linter.unusedSimpArgs false

/-! ### spec_pzHidden: function 65 -/
def spec_pzHidden.f (a0_0 : Int) (a0_1 : Int) (a0_2 : Int) : Option (Bool) := (spec_pzWide.f a0_0).bind fun t266 => (if t266 = true then ((spec_pzWide.f a0_1).bind fun t267 => (if t267 = true then ((spec_pzWide.f a0_2).bind fun t268 => (some t268)) else (some false))) else (some false))
set_option maxHeartbeats 8000000 in
set_option maxRecDepth 100000 in
theorem spec_pzHidden.calls (a0_0 : Int) (a0_1 : Int) (a0_2 : Int) (r : Bool) (w : World) (h : spec_pzHidden.f a0_0 a0_1 a0_2 = some r) :
  Calls Try.prog 65 #[.agg #[.int .i64 a0_0, .int .i64 a0_1, .int .i64 a0_2]] w fun e w' => e = .returned (.bool r) ∧ Below w.heap.size w w' := by
 have hu45 := Try.underlying45
 have HB := Aside0.mk (Below.refl w.heap.size w)
 have H : ((spec_pzWide.f a0_0).bind fun t266 => (if t266 = true then ((spec_pzWide.f a0_1).bind fun t267 => (if t267 = true then ((spec_pzWide.f a0_2).bind fun t268 => (some t268)) else (some false))) else (some false))) = some r := h
 clear h; replace H := Option.bind_eq_some_iff.mp H
 obtain ⟨t266, A20, H⟩ := H
 replace H : (if t266 = true then ((spec_pzWide.f a0_1).bind fun t267 => (if t267 = true then ((spec_pzWide.f a0_2).bind fun t268 => (some t268)) else (some false))) else (some false)) = some r := H
 have A2 := Aside0.mk A20
 clear A20
 by_cases c3 : t266 = true
 ·subst c3
  have H1 : ((spec_pzWide.f a0_1).bind fun t267 => (if t267 = true then ((spec_pzWide.f a0_2).bind fun t268 => (some t268)) else (some false))) = some r := by rw [if_pos rfl] at H; exact H
  clear H; have H := H1; clear H1; replace H := Option.bind_eq_some_iff.mp H
  obtain ⟨t267, A40, H⟩ := H
  replace H : (if t267 = true then ((spec_pzWide.f a0_2).bind fun t268 => (some t268)) else (some false)) = some r := H
  have A4 := Aside0.mk A40
  clear A40
  by_cases c5 : t267 = true
  ·subst c5
   have H1 : ((spec_pzWide.f a0_2).bind fun t268 => (some t268)) = some r := by rw [if_pos rfl] at H; exact H
   clear H; have H := H1; clear H1; replace H := Option.bind_eq_some_iff.mp H
   obtain ⟨t268, A60, H⟩ := H
   replace H : (some t268) = some r := H
   have A6 := Aside0.mk A60
   clear A60
   obtain rfl := Option.some.inj H
   go_enter Try.func65, Try.ntmps65
   go_wp2_with (first | ((with_reducible refine gate_dst (N := 1) rfl ?_); refine box_event ?hg (N := 1) ?hd (cs := #[.int .i64 a0_0, .int .i64 a0_1, .int .i64 a0_2]) (t := 45) ?hr ?_; (case hd => rfl); (case hg => rfl); (case hr => first | (go_simp; done) | (go_simp; rfl)); intro gb265 hg w7 hbox hb; have n0_ := Aside0.mk (below_step (by repeat (first | (with_reducible first | exact HB.out | apply below_alloc | apply pw_below_drewN | apply below_drew1) | exact HB.out)) hb); have n1_ := Aside0.mk (hbox); have n2_ := Aside0.mk ((by rw [hg]; exact (below_size (by repeat (first | (with_reducible first | exact HB.out | apply below_alloc | apply pw_below_drewN | apply below_drew1) | exact HB.out))) : w.heap.size ≤ gb265)); have n3_ := Aside0.mk ((by rw [hg]; exact (below_size (by repeat (first | (with_reducible first | exact HB.out | apply below_alloc | apply pw_below_drewN | apply below_drew1) | exact HB.out))) : w.heap.size ≤ gb265)); clear HB; have HB := n0_; have BK265 := n1_; have GW265 := n2_; have GE265 := n3_; clear n0_ n1_ n2_ n3_; clear hb hbox hg; have hcz8_0 : w7.cell? ⟨gb265, 0, none⟩ = some (.int .i64 a0_0) := (blk_cell BK265.out 0).trans rfl; have hcz8_1 : w7.cell? ⟨gb265, 1, none⟩ = some (.int .i64 a0_1) := (blk_cell BK265.out 1).trans rfl; have hcz8_2 : w7.cell? ⟨gb265, 2, none⟩ = some (.int .i64 a0_2) := (blk_cell BK265.out 2).trans rfl; have hfz8_0 := blk_frozen BK265.out 0; have hfz8_1 := blk_frozen BK265.out 1; have hfz8_2 := blk_frozen BK265.out 2) | ((with_reducible refine gate_callee (f := 81) rfl ?_); refine goesL_ (some 5) rfl rfl Try.func81 (by kernel_rfl) rfl #[.int .i64 a0_0] rfl (by (try simp only [List.map_toArray, List.map_cons, List.map_nil]); first | done | rfl | (simp only [List.length_drop, List.length_take]; rfl)) ?_; (with_reducible refine (spec_pzWide.calls a0_0 true _ A2.out).mono ?_); rintro e w' ⟨rfl, ⟨nd, rfl⟩⟩; refine ⟨_, rfl, ?_⟩) | (go_at_call 81; (with_reducible refine (spec_pzWide.calls a0_1 true _ A4.out).mono ?_); rintro e w' ⟨rfl, ⟨nd, rfl⟩⟩) | (go_at_call 81; (with_reducible refine (spec_pzWide.calls a0_2 t268 _ A6.out).mono ?_); rintro e w' ⟨rfl, ⟨nd, rfl⟩⟩))
   go_ret
   exact ⟨by first | rfl | (simp [errW_none, errW_some] <;> rfl) | (simp [*, errW_none, errW_some] <;> rfl), by repeat (first | (with_reducible first | exact HB.out | apply below_alloc | apply pw_below_drewN | apply below_drew1 | refine below_set ?_ GE265.out) | exact HB.out)⟩
  ·replace c5 := Bool.eq_false_iff.mpr c5
   subst c5
   have H1 : (some false) = some r := by rw [if_neg (show ¬ (false = true) by decide)] at H; exact H
   clear H; have H := H1; clear H1
   obtain rfl := Option.some.inj H
   go_enter Try.func65, Try.ntmps65
   go_wp2_with (first | ((with_reducible refine gate_dst (N := 1) rfl ?_); refine box_event ?hg (N := 1) ?hd (cs := #[.int .i64 a0_0, .int .i64 a0_1, .int .i64 a0_2]) (t := 45) ?hr ?_; (case hd => rfl); (case hg => rfl); (case hr => first | (go_simp; done) | (go_simp; rfl)); intro gb265 hg w9 hbox hb; have n0_ := Aside0.mk (below_step (by repeat (first | (with_reducible first | exact HB.out | apply below_alloc | apply pw_below_drewN | apply below_drew1) | exact HB.out)) hb); have n1_ := Aside0.mk (hbox); have n2_ := Aside0.mk ((by rw [hg]; exact (below_size (by repeat (first | (with_reducible first | exact HB.out | apply below_alloc | apply pw_below_drewN | apply below_drew1) | exact HB.out))) : w.heap.size ≤ gb265)); have n3_ := Aside0.mk ((by rw [hg]; exact (below_size (by repeat (first | (with_reducible first | exact HB.out | apply below_alloc | apply pw_below_drewN | apply below_drew1) | exact HB.out))) : w.heap.size ≤ gb265)); clear HB; have HB := n0_; have BK265 := n1_; have GW265 := n2_; have GE265 := n3_; clear n0_ n1_ n2_ n3_; clear hb hbox hg; have hcz10_0 : w9.cell? ⟨gb265, 0, none⟩ = some (.int .i64 a0_0) := (blk_cell BK265.out 0).trans rfl; have hcz10_1 : w9.cell? ⟨gb265, 1, none⟩ = some (.int .i64 a0_1) := (blk_cell BK265.out 1).trans rfl; have hcz10_2 : w9.cell? ⟨gb265, 2, none⟩ = some (.int .i64 a0_2) := (blk_cell BK265.out 2).trans rfl; have hfz10_0 := blk_frozen BK265.out 0; have hfz10_1 := blk_frozen BK265.out 1; have hfz10_2 := blk_frozen BK265.out 2) | ((with_reducible refine gate_callee (f := 81) rfl ?_); refine goesL_ (some 5) rfl rfl Try.func81 (by kernel_rfl) rfl #[.int .i64 a0_0] rfl (by (try simp only [List.map_toArray, List.map_cons, List.map_nil]); first | done | rfl | (simp only [List.length_drop, List.length_take]; rfl)) ?_; (with_reducible refine (spec_pzWide.calls a0_0 true _ A2.out).mono ?_); rintro e w' ⟨rfl, ⟨nd, rfl⟩⟩; refine ⟨_, rfl, ?_⟩) | (go_at_call 81; (with_reducible refine (spec_pzWide.calls a0_1 false _ A4.out).mono ?_); rintro e w' ⟨rfl, ⟨nd, rfl⟩⟩))
   go_ret
   exact ⟨by first | rfl | (simp [errW_none, errW_some] <;> rfl) | (simp [*, errW_none, errW_some] <;> rfl), by repeat (first | (with_reducible first | exact HB.out | apply below_alloc | apply pw_below_drewN | apply below_drew1 | refine below_set ?_ GE265.out) | exact HB.out)⟩
 ·replace c3 := Bool.eq_false_iff.mpr c3
  subst c3
  have H1 : (some false) = some r := by rw [if_neg (show ¬ (false = true) by decide)] at H; exact H
  clear H; have H := H1; clear H1
  obtain rfl := Option.some.inj H
  go_enter Try.func65, Try.ntmps65
  go_wp2_with (first | ((with_reducible refine gate_dst (N := 1) rfl ?_); refine box_event ?hg (N := 1) ?hd (cs := #[.int .i64 a0_0, .int .i64 a0_1, .int .i64 a0_2]) (t := 45) ?hr ?_; (case hd => rfl); (case hg => rfl); (case hr => first | (go_simp; done) | (go_simp; rfl)); intro gb265 hg w11 hbox hb; have n0_ := Aside0.mk (below_step (by repeat (first | (with_reducible first | exact HB.out | apply below_alloc | apply pw_below_drewN | apply below_drew1) | exact HB.out)) hb); have n1_ := Aside0.mk (hbox); have n2_ := Aside0.mk ((by rw [hg]; exact (below_size (by repeat (first | (with_reducible first | exact HB.out | apply below_alloc | apply pw_below_drewN | apply below_drew1) | exact HB.out))) : w.heap.size ≤ gb265)); have n3_ := Aside0.mk ((by rw [hg]; exact (below_size (by repeat (first | (with_reducible first | exact HB.out | apply below_alloc | apply pw_below_drewN | apply below_drew1) | exact HB.out))) : w.heap.size ≤ gb265)); clear HB; have HB := n0_; have BK265 := n1_; have GW265 := n2_; have GE265 := n3_; clear n0_ n1_ n2_ n3_; clear hb hbox hg; have hcz12_0 : w11.cell? ⟨gb265, 0, none⟩ = some (.int .i64 a0_0) := (blk_cell BK265.out 0).trans rfl; have hcz12_1 : w11.cell? ⟨gb265, 1, none⟩ = some (.int .i64 a0_1) := (blk_cell BK265.out 1).trans rfl; have hcz12_2 : w11.cell? ⟨gb265, 2, none⟩ = some (.int .i64 a0_2) := (blk_cell BK265.out 2).trans rfl; have hfz12_0 := blk_frozen BK265.out 0; have hfz12_1 := blk_frozen BK265.out 1; have hfz12_2 := blk_frozen BK265.out 2) | ((with_reducible refine gate_callee (f := 81) rfl ?_); refine goesL_ (some 5) rfl rfl Try.func81 (by kernel_rfl) rfl #[.int .i64 a0_0] rfl (by (try simp only [List.map_toArray, List.map_cons, List.map_nil]); first | done | rfl | (simp only [List.length_drop, List.length_take]; rfl)) ?_; (with_reducible refine (spec_pzWide.calls a0_0 false _ A2.out).mono ?_); rintro e w' ⟨rfl, ⟨nd, rfl⟩⟩; refine ⟨_, rfl, ?_⟩))
  go_ret
  exact ⟨by first | rfl | (simp [errW_none, errW_some] <;> rfl) | (simp [*, errW_none, errW_some] <;> rfl), by repeat (first | (with_reducible first | exact HB.out | apply below_alloc | apply pw_below_drewN | apply below_drew1 | refine below_set ?_ GE265.out) | exact HB.out)⟩

end Go.Proofs.Ytbdjidjcmmeanaa.P

namespace Go.Proofs.Ytbdjidjcmmeanaa.P
open Go.RowKit Go.Proofs.YtbdjidjcmmeanaaW.PrintWords Go.Proofs.YtbdjidjcmmeanaaW.PrintLast Go.Proofs.YtbdjidjcmmeanaaW.PrintMore
set_option linter.unusedVariables false
set_option linter.unusedSimpArgs false
def mHidden (a b c : Int) : Bool := inr 1 12 a && (inr 1 12 b && inr 1 12 c)
theorem mHidden_iff {a b c : Int} : mHidden a b c = true ↔ (1 ≤ a ∧ a ≤ 12) ∧ (1 ≤ b ∧ b ≤ 12) ∧ (1 ≤ c ∧ c ≤ 12) := by
 unfold mHidden; simp only [Bool.and_eq_true, inr_iff]
theorem impl_areHidden.eq (a b c : Int) : impl_areHidden.f a b c = some (mHidden a b c) := by
 unfold impl_areHidden.f impl_isSmall.f mHidden
 simp only [impl_within.eq, Option.bind_some]
 cases inr 1 12 a <;> cases inr 1 12 b <;> cases inr 1 12 c <;> simp
theorem spec_pzHidden.eq (a b c : Int) : spec_pzHidden.f a b c = some (mHidden a b c) := by
 unfold spec_pzHidden.f spec_pzWide.f mHidden
 simp only [spec_l1In.eq, Option.bind_some]
 cases inr 1 12 a <;> cases inr 1 12 b <;> cases inr 1 12 c <;> simp
end Go.Proofs.Ytbdjidjcmmeanaa.P

namespace Go.Proofs.Ytbdjidjcmmeanaa.P
open Go.RowKit Go.Proofs.YtbdjidjcmmeanaaW.PrintWords Go.Proofs.YtbdjidjcmmeanaaW.PrintLast Go.Proofs.YtbdjidjcmmeanaaW.PrintMore
set_option linter.unusedVariables false
set_option linter.unusedSimpArgs false
theorem gcd_tmod (a b : Int) : Int.gcd b (Int.tmod a b) = Int.gcd a b := by
 rw [Int.gcd_eq_natAbs_gcd_natAbs, Int.gcd_eq_natAbs_gcd_natAbs, Int.natAbs_tmod, Nat.gcd_comm, Nat.gcd_comm a.natAbs]
 exact (Nat.gcd_rec _ _).symm
theorem impl_gcd.ev_l (n : Nat) : ∀ a b : Int, b.natAbs ≤ n → -9223372036854775807 ≤ a → a ≤ 9223372036854775807 → -9223372036854775807 ≤ b → b ≤ 9223372036854775807 → Ev (fun k => impl_gcd.l0 k a b) (Int.gcd a b : Int) := by
 induction n using Nat.strongRecOn with
 | ind n ih =>
  intro a b hn ha0 ha1 hb0 hb1
  by_cases hb : b = 0
  ·subst hb
   refine Ev.step (f := fun _ => some (mx a (wrap64 (-a)))) (fun k => by simp only [impl_gcd.l0, if_true]) ?_
   refine Ev.const ?_
   rw [wid (by omega) (by omega), Int.gcd_zero_right]
   congr 1
   unfold mx; split <;> omega
  ·refine Ev.step (f := fun k => impl_gcd.l0 k b (Int.tmod a b)) (fun k => by simp only [impl_gcd.l0]; rw [if_neg hb]) ?_
   have h1 : (Int.tmod a b).natAbs < b.natAbs := by rw [Int.natAbs_tmod]; exact Nat.mod_lt _ (by omega)
   exact ev_eq (ih (Int.tmod a b).natAbs (by omega) b (Int.tmod a b) (Nat.le_refl _) hb0 hb1 (by omega) (by omega)) (by rw [gcd_tmod])
theorem impl_gcd.ev {a b : Int} (ha0 : -9223372036854775807 ≤ a) (ha1 : a ≤ 9223372036854775807) (hb0 : -9223372036854775807 ≤ b) (hb1 : b ≤ 9223372036854775807) : Ev (fun k => impl_gcd.f k a b) (Int.gcd a b : Int) := by
 unfold impl_gcd.f; exact impl_gcd.ev_l _ a b (Nat.le_refl _) ha0 ha1 hb0 hb1
/-- The fraction in lowest terms. -/
def loA (a b : Int) : Int := a / (Int.gcd a b : Int)
def loB (a b : Int) : Int := b / (Int.gcd a b : Int)
theorem gcd_pos {a b : Int} (hb : 0 < b) : (0 : Int) < (Int.gcd a b : Int) := by
 have : 0 < Int.gcd a b := Int.gcd_pos_of_ne_zero_right _ (by omega)
 omega
theorem lo_mulA {a b : Int} : loA a b * (Int.gcd a b : Int) = a := Int.ediv_mul_cancel (Int.gcd_dvd_left ..)
theorem lo_mulB {a b : Int} : loB a b * (Int.gcd a b : Int) = b := Int.ediv_mul_cancel (Int.gcd_dvd_right ..)
theorem loA_bd {a b : Int} (hb : 0 < b) : (loA a b).natAbs ≤ a.natAbs := by
 unfold loA
 rw [Int.natAbs_ediv_of_dvd (Int.gcd_dvd_left ..)]
 exact Nat.div_le_self _ _
theorem loB_pos {a b : Int} (hb : 0 < b) : 0 < loB a b ∧ loB a b ≤ b := by
 have g := gcd_pos (a := a) hb
 have e := lo_mulB (a := a) (b := b)
 have h0 : 0 < loB a b := by
  rcases Int.lt_or_le 0 (loB a b) with h | h
  ·exact h
  ·have := Int.mul_nonneg (show 0 ≤ -(loB a b) by omega) (show 0 ≤ (Int.gcd a b : Int) by omega)
   rw [Int.neg_mul, e] at this
   omega
 refine ⟨h0, ?_⟩
 have : loB a b * 1 ≤ loB a b * (Int.gcd a b : Int) := Int.mul_le_mul_of_nonneg_left (by omega) (by omega)
 rw [e] at this
 omega
theorem loA_nonneg {a b : Int} (ha : 0 ≤ a) (hb : 0 < b) : 0 ≤ loA a b ∧ loA a b ≤ a := by
 have g := gcd_pos (a := a) hb
 refine ⟨Int.ediv_nonneg ha (by omega), ?_⟩
 have := loA_bd (a := a) hb
 have h0 : 0 ≤ loA a b := Int.ediv_nonneg ha (by omega)
 omega
theorem tdiv_gcd_l {a b : Int} : Int.tdiv a (Int.gcd a b : Int) = loA a b := Int.tdiv_eq_ediv_of_dvd (Int.gcd_dvd_left ..)
theorem tdiv_gcd_r {a b : Int} : Int.tdiv b (Int.gcd a b : Int) = loB a b := Int.tdiv_eq_ediv_of_dvd (Int.gcd_dvd_right ..)
theorem impl_fraction.ev {a b : Int} (ha0 : -9223372036854775807 ≤ a) (ha1 : a ≤ 9223372036854775807) (hb0 : 0 < b) (hb1 : b ≤ 9223372036854775807) : Ev (fun k => impl_fraction.f k a b) (loA a b, loB a b, true) := by
 unfold impl_fraction.f
 refine Ev.bind (impl_gcd.ev ha0 ha1 (by omega) hb1) ?_
 have g := gcd_pos (a := a) hb0
 have h1 := loA_bd (a := a) hb0
 have h2 := loB_pos (a := a) hb0
 refine Ev.const ?_
 rw [if_neg (by omega), tdiv_gcd_l, tdiv_gcd_r, wid (by omega) (by omega), wid (by omega) (by omega)]
end Go.Proofs.Ytbdjidjcmmeanaa.P

namespace Go.Proofs.Ytbdjidjcmmeanaa.P
open Go.RowKit Go.Proofs.YtbdjidjcmmeanaaW.PrintWords Go.Proofs.YtbdjidjcmmeanaaW.PrintLast Go.Proofs.YtbdjidjcmmeanaaW.PrintMore
set_option linter.unusedVariables false
set_option linter.unusedSimpArgs false
theorem spec_clLow.ev_l (x y : Int) (hx0 : 0 ≤ x) (hx1 : x ≤ 9223372036854775807) (hy0 : 0 < y) (hy1 : y ≤ 9223372036854775807) (n : Nat) : ∀ a b : Int, b.natAbs ≤ n → 0 ≤ a → 0 ≤ b → (0 < a ∨ 0 < b) → Int.gcd a b = Int.gcd x y → Ev (fun k => spec_clLow.l0 k x y a b) (loA x y, loB x y) := by
 induction n using Nat.strongRecOn with
 | ind n ih =>
  intro a b hn ha hb hab hg
  by_cases hb' : b = 0
  ·subst hb'
   refine Ev.step (f := fun _ => some (wrap64 (Int.tdiv x a), wrap64 (Int.tdiv y a))) (fun k => by simp only [spec_clLow.l0]; rw [if_neg (by omega), if_neg (by omega)]) ?_
   refine Ev.const ?_
   have ea : a = (Int.gcd x y : Int) := by rw [← hg, Int.gcd_zero_right]; omega
   have h1 := loA_bd (a := x) hy0
   have h2 := loB_pos (a := x) hy0
   rw [ea, tdiv_gcd_l, tdiv_gcd_r, wid (by omega) (by omega), wid (by omega) (by omega)]
  ·refine Ev.step (f := fun k => spec_clLow.l0 k x y b (Int.tmod a b)) (fun k => by simp only [spec_clLow.l0]; rw [if_pos (by omega), if_neg hb']) ?_
   have h1 : (Int.tmod a b).natAbs < b.natAbs := by rw [Int.natAbs_tmod]; exact Nat.mod_lt _ (by omega)
   exact ih (Int.tmod a b).natAbs (by omega) b (Int.tmod a b) (Nat.le_refl _) hb (Int.tmod_nonneg _ ha) (.inl (by omega)) ((gcd_tmod a b).trans hg)
theorem spec_clLow.ev {x y : Int} (hx0 : 0 ≤ x) (hx1 : x ≤ 9223372036854775807) (hy0 : 0 < y) (hy1 : y ≤ 9223372036854775807) : Ev (fun k => spec_clLow.f k x y) (loA x y, loB x y) := by
 unfold spec_clLow.f; exact spec_clLow.ev_l x y hx0 hx1 hy0 hy1 _ x y (Nat.le_refl _) hx0 (by omega) (.inr hy0) rfl
end Go.Proofs.Ytbdjidjcmmeanaa.P

namespace Go.Proofs.Ytbdjidjcmmeanaa.P
open Go.RowKit Go.Proofs.YtbdjidjcmmeanaaW.PrintWords Go.Proofs.YtbdjidjcmmeanaaW.PrintLast Go.Proofs.YtbdjidjcmmeanaaW.PrintMore
set_option linter.unusedVariables false
set_option linter.unusedSimpArgs false
theorem sq_le {a b : Int} (h0 : 0 ≤ a) (h : a ≤ b) : a * a ≤ b * b := Int.mul_le_mul h h h0 (by omega)
theorem sq_lt {a b : Int} (h0 : 0 ≤ a) (h : a < b) : a * a < b * b := by
 have h1 := Int.mul_le_mul_of_nonneg_right (show a ≤ b by omega) h0
 have h2 := Int.mul_lt_mul_of_pos_left h (show 0 < b by omega)
 omega
/-- The greatest whole number up to n whose square is not greater than x. -/
def flrN : Nat → Int → Int
 | 0, _ => 0
 | n + 1, x => if ((n : Int) + 1) * ((n : Int) + 1) ≤ x then (n : Int) + 1 else flrN n x
def flr (x : Int) : Int := flrN x.toNat x
theorem flrN_spec (x : Int) (hx : 0 ≤ x) : ∀ n : Nat, 0 ≤ flrN n x ∧ flrN n x ≤ n ∧ flrN n x * flrN n x ≤ x ∧ (flrN n x < n → x < (flrN n x + 1) * (flrN n x + 1))
 | 0 => by simp [flrN]; exact hx
 | n + 1 => by
  have ih := flrN_spec x hx n
  unfold flrN
  by_cases h : ((n : Int) + 1) * ((n : Int) + 1) ≤ x
  ·rw [if_pos h]; exact ⟨by omega, by omega, h, fun h => by omega⟩
  ·rw [if_neg h]
   refine ⟨ih.1, by omega, ih.2.2.1, fun _ => ?_⟩
   by_cases h2 : flrN n x < n
   ·exact ih.2.2.2 h2
   ·have h3 : flrN n x = n := by omega
    rw [h3]; omega
theorem flr_spec {x : Int} (hx : 0 ≤ x) : 0 ≤ flr x ∧ flr x * flr x ≤ x ∧ x < (flr x + 1) * (flr x + 1) := by
 have h := flrN_spec x hx x.toNat
 unfold flr
 refine ⟨h.1, h.2.2.1, ?_⟩
 by_cases h2 : flrN x.toNat x < x.toNat
 ·exact h.2.2.2 h2
 ·have h3 : flrN x.toNat x = x := by omega
  rw [h3]
  have : x * 1 ≤ x * (x + 1) := Int.mul_le_mul_of_nonneg_left (by omega) hx
  have e : (x + 1) * (x + 1) = x * (x + 1) + (x + 1) := by rw [Int.add_mul, Int.one_mul]
  omega
theorem flr_le {x n : Int} (hx : 0 ≤ x) (h0 : 0 ≤ n) (h : n * n ≤ x) : n ≤ flr x := by
 have hs := flr_spec hx
 rcases Int.lt_or_le (flr x) n with h1 | h1
 ·have := sq_le (show 0 ≤ flr x + 1 by omega) (show flr x + 1 ≤ n by omega)
  omega
 ·exact h1
theorem flr_lt {x n : Int} (hx : 0 ≤ x) (h0 : 0 ≤ n) (h : x < n * n) : flr x < n := by
 have hs := flr_spec hx
 rcases Int.lt_or_le (flr x) n with h1 | h1
 ·exact h1
 ·have := sq_le h0 h1
  omega
def mWhole (x : Int) : Bool := flr x * flr x == x
def mCeil (x : Int) : Int := if mWhole x = true then flr x else flr x + 1
theorem mCeil_spec {x : Int} (hx : 0 ≤ x) : 0 ≤ mCeil x ∧ x ≤ mCeil x * mCeil x ∧ (mCeil x * mCeil x == x) = mWhole x := by
 have hs := flr_spec hx
 unfold mCeil
 by_cases h : mWhole x = true
 ·rw [if_pos h]
  have e : flr x * flr x = x := by simpa [mWhole] using h
  exact ⟨hs.1, by omega, by rw [h]; simpa using e⟩
 ·rw [if_neg h]
  refine ⟨by omega, by omega, ?_⟩
  rw [Bool.eq_false_iff.mpr h]
  simp only [beq_eq_false_iff_ne, ne_eq]
  omega
theorem mCeil_le {x n : Int} (hx : 0 ≤ x) (h0 : 0 ≤ n) (h : x ≤ n * n) : mCeil x ≤ n := by
 have hs := flr_spec hx
 unfold mCeil
 by_cases hw : mWhole x = true
 ·rw [if_pos hw]
  have e : flr x * flr x = x := by simpa [mWhole] using hw
  rcases Int.lt_or_le n (flr x) with h1 | h1
  ·have := sq_lt h0 h1; omega
  ·exact h1
 ·rw [if_neg hw]
  have e : flr x * flr x ≠ x := by simpa [mWhole] using hw
  rcases Int.lt_or_le (flr x) n with h1 | h1
  ·omega
  ·have := sq_le h0 h1; omega
theorem mCeil_gt {x n : Int} (hx : 0 ≤ x) (h0 : 0 ≤ n) (h : n * n < x) : n < mCeil x := by
 have hs := mCeil_spec hx
 rcases Int.lt_or_le n (mCeil x) with h1 | h1
 ·exact h1
 ·have := sq_le hs.1 h1; omega
theorem tdiv2 {a : Int} (h : 0 ≤ a) : Int.tdiv a 2 = a / 2 := Int.tdiv_eq_ediv_of_nonneg h
end Go.Proofs.Ytbdjidjcmmeanaa.P

namespace Go.Proofs.Ytbdjidjcmmeanaa.P
open Go.RowKit Go.Proofs.YtbdjidjcmmeanaaW.PrintWords Go.Proofs.YtbdjidjcmmeanaaW.PrintLast Go.Proofs.YtbdjidjcmmeanaaW.PrintMore
set_option linter.unusedVariables false
set_option linter.unusedSimpArgs false
theorem spec_clRoot.ev_l {x : Int} (hx : 0 ≤ x) (n : Nat) : ∀ lo hi : Int, (hi - lo).toNat ≤ n → 0 ≤ lo → lo < hi → hi ≤ 2147483648 → lo ≤ flr x → flr x < hi → Ev (fun k => spec_clRoot.l0 k x lo hi) (flr x) := by
 induction n using Nat.strongRecOn with
 | ind n ih =>
  intro lo hi hn h0 h1 h2 h3 h4
  have hs := flr_spec hx
  refine Ev.succ ?_
  simp only [spec_clRoot.l0]
  rw [wid (show -9223372036854775808 ≤ hi - 1 by omega) (by omega)]
  by_cases hlt : lo < hi - 1
  ·simp only [if_pos hlt]
   rw [wid (show -9223372036854775808 ≤ lo + hi by omega) (by omega), tdiv2 (by omega), wid (show -9223372036854775808 ≤ (lo + hi) / 2 by omega) (by omega)]
   have hm0 : 0 ≤ (lo + hi) / 2 := by omega
   have hmb := mul_bd hm0 (show (lo + hi) / 2 ≤ 2147483648 by omega) hm0 (show (lo + hi) / 2 ≤ 2147483648 by omega)
   rw [wid (show -9223372036854775808 ≤ (lo + hi) / 2 * ((lo + hi) / 2) by omega) (by omega)]
   by_cases hc : (lo + hi) / 2 * ((lo + hi) / 2) ≤ x
   ·simp only [if_pos hc]
    have := flr_le hx hm0 hc
    exact ih (hi - (lo + hi) / 2).toNat (by omega) _ _ (Nat.le_refl _) (by omega) (by omega) h2 this h4
   ·simp only [if_neg hc]
    have := flr_lt hx hm0 (by omega)
    exact ih ((lo + hi) / 2 - lo).toNat (by omega) _ _ (Nat.le_refl _) h0 (by omega) (by omega) h3 this
  ·simp only [if_neg hlt]
   exact Ev.const (by congr 1; omega)
theorem spec_clRoot.ev {x : Int} (hx : 0 ≤ x) (hx1 : x < 4611686018427387904) : Ev (fun k => spec_clRoot.f k x) (flr x) := by
 unfold spec_clRoot.f
 exact spec_clRoot.ev_l hx _ 0 2147483648 (Nat.le_refl _) (by omega) (by omega) (by omega) (flr_spec hx).1 (flr_lt hx (by omega) (by omega))
end Go.Proofs.Ytbdjidjcmmeanaa.P

namespace Go.Proofs.Ytbdjidjcmmeanaa.P
open Go.RowKit Go.Proofs.YtbdjidjcmmeanaaW.PrintWords Go.Proofs.YtbdjidjcmmeanaaW.PrintLast Go.Proofs.YtbdjidjcmmeanaaW.PrintMore
set_option linter.unusedVariables false
set_option linter.unusedSimpArgs false
def mLadders (a b c : Int) : Bool := inr 1 1000 a && (inr 1 1000 b && inr 1 1000 c)
theorem mLadders_iff {a b c : Int} : mLadders a b c = true ↔ (1 ≤ a ∧ a ≤ 1000) ∧ (1 ≤ b ∧ b ≤ 1000) ∧ (1 ≤ c ∧ c ≤ 1000) := by
 unfold mLadders; simp only [Bool.and_eq_true, inr_iff]
theorem impl_AreLadders.eq (a b c : Int) : impl_AreLadders.f a b c = some (mLadders a b c) := by
 unfold impl_AreLadders.f impl_isWide.f mLadders
 simp only [impl_within.eq, Option.bind_some]
 cases inr 1 1000 a <;> cases inr 1 1000 b <;> cases inr 1 1000 c <;> simp
def mCrossHeight (a b c : Int) : Int × Int × Bool := if mLadders a b c = true then (loA (b * c) (b + c), loB (b * c) (b + c), true) else (0, 0, false)
def mCrossPlace (a b c : Int) : Int × Int × Bool := if mLadders a b c = true then (loA (b * a) (b + c), loB (b * a) (b + c), true) else (0, 0, false)
theorem impl_CrossHeight.ev (a b c : Int) : Ev (fun k => impl_CrossHeight.f k a b c) (mCrossHeight a b c) := by
 unfold impl_CrossHeight.f mCrossHeight
 refine Ev.bindc (impl_AreLadders.eq a b c) ?_
 refine Ev.ite (fun h => ?_) (fun _ => Ev.now _)
 obtain ⟨h0, h1, h2⟩ := mLadders_iff.1 h
 have p := mul_bd (a := b) (b := c) (A := 1000) (B := 1000) (by omega) (by omega) (by omega) (by omega)
 rw [wid (show -9223372036854775808 ≤ b * c by omega) (by omega), wid (show -9223372036854775808 ≤ b + c by omega) (by omega)]
 exact Ev.bind (impl_fraction.ev (by omega) (by omega) (by omega) (by omega)) (Ev.now _)
theorem impl_CrossPlace.ev (a b c : Int) : Ev (fun k => impl_CrossPlace.f k a b c) (mCrossPlace a b c) := by
 unfold impl_CrossPlace.f mCrossPlace
 refine Ev.bindc (impl_AreLadders.eq a b c) ?_
 refine Ev.ite (fun h => ?_) (fun _ => Ev.now _)
 obtain ⟨h0, h1, h2⟩ := mLadders_iff.1 h
 have p := mul_bd (a := b) (b := a) (A := 1000) (B := 1000) (by omega) (by omega) (by omega) (by omega)
 rw [wid (show -9223372036854775808 ≤ b * a by omega) (by omega), wid (show -9223372036854775808 ≤ b + c by omega) (by omega)]
 exact Ev.bind (impl_fraction.ev (by omega) (by omega) (by omega) (by omega)) (Ev.now _)
end Go.Proofs.Ytbdjidjcmmeanaa.P

namespace Go.Proofs.Ytbdjidjcmmeanaa.P
open Go.RowKit Go.Proofs.YtbdjidjcmmeanaaW.PrintWords Go.Proofs.YtbdjidjcmmeanaaW.PrintLast Go.Proofs.YtbdjidjcmmeanaaW.PrintMore
set_option linter.unusedVariables false
set_option linter.unusedSimpArgs false
theorem impl_rootOf.ev_b {x : Int} (hx : 0 ≤ x) (hx1 : x ≤ 1152921504606846976) (n : Nat) : ∀ lo hi : Int, (hi - lo).toNat ≤ n → 0 ≤ lo → lo ≤ mCeil x → mCeil x ≤ hi → hi ≤ 2147483648 → Ev (fun k => impl_rootOf.l1 k x lo hi) (mCeil x, mWhole x) := by
 induction n using Nat.strongRecOn with
 | ind n ih =>
  intro lo hi hn h0 h1 h2 h3
  have hs := mCeil_spec hx
  refine Ev.succ ?_
  simp only [impl_rootOf.l1]
  by_cases hlt : lo < hi
  ·simp only [if_pos hlt]
   rw [wid (show -9223372036854775808 ≤ lo + hi by omega) (by omega), tdiv2 (by omega), wid (show -9223372036854775808 ≤ (lo + hi) / 2 by omega) (by omega)]
   have hm0 : 0 ≤ (lo + hi) / 2 := by omega
   have hmb := mul_bd hm0 (show (lo + hi) / 2 ≤ 2147483648 by omega) hm0 (show (lo + hi) / 2 ≤ 2147483648 by omega)
   rw [wid (show -9223372036854775808 ≤ (lo + hi) / 2 * ((lo + hi) / 2) by omega) (by omega)]
   by_cases hc : (lo + hi) / 2 * ((lo + hi) / 2) < x
   ·simp only [if_pos hc]
    have := mCeil_gt hx hm0 hc
    rw [wid (show -9223372036854775808 ≤ (lo + hi) / 2 + 1 by omega) (by omega)]
    exact ih (hi - ((lo + hi) / 2 + 1)).toNat (by omega) _ _ (Nat.le_refl _) (by omega) (by omega) h2 h3
   ·simp only [if_neg hc]
    have := mCeil_le hx hm0 (by omega)
    exact ih ((lo + hi) / 2 - lo).toNat (by omega) _ _ (Nat.le_refl _) h0 h1 this (by omega)
  ·simp only [if_neg hlt]
   have e : lo = mCeil x := by omega
   refine Ev.const ?_
   have hmb := mul_bd h0 (show lo ≤ 2147483648 by omega) h0 (show lo ≤ 2147483648 by omega)
   rw [wid (show -9223372036854775808 ≤ lo * lo by omega) (by omega), e, hs.2.2]
theorem impl_rootOf.ev_a {x : Int} (hx : 0 ≤ x) (hx1 : x ≤ 1152921504606846976) (n : Nat) : ∀ hi : Int, (2147483648 - hi).toNat ≤ n → 1 ≤ hi → hi ≤ 2147483648 → Ev (fun k => impl_rootOf.l0 k x 0 hi) (mCeil x, mWhole x) := by
 induction n using Nat.strongRecOn with
 | ind n ih =>
  intro hi hn h0 h1
  have hs := mCeil_spec hx
  refine Ev.succ ?_
  simp only [impl_rootOf.l0]
  have hmb := mul_bd (show 0 ≤ hi by omega) h1 (show 0 ≤ hi by omega) h1
  rw [wid (show -9223372036854775808 ≤ hi * hi by omega) (by omega)]
  by_cases hc : hi * hi < x
  ·simp only [if_pos hc]
   have hh : hi ≤ 1073741823 := by
    rcases Int.lt_or_le hi 1073741824 with h | h
    ·omega
    ·have := sq_le (show (0 : Int) ≤ 1073741824 by omega) h; omega
   rw [wid (show -9223372036854775808 ≤ hi * 2 by omega) (by omega)]
   exact ih (2147483648 - hi * 2).toNat (by omega) _ (Nat.le_refl _) (by omega) (by omega)
  ·simp only [if_neg hc]
   exact impl_rootOf.ev_b hx hx1 _ 0 hi (Nat.le_refl _) (by omega) hs.1 (mCeil_le hx (by omega) (by omega)) h1
theorem impl_rootOf.ev {x : Int} (hx : 0 ≤ x) (hx1 : x ≤ 1152921504606846976) : Ev (fun k => impl_rootOf.f k x) (mCeil x, mWhole x) := by
 unfold impl_rootOf.f
 exact impl_rootOf.ev_a hx hx1 _ 1 (Nat.le_refl _) (by omega) (by omega)
end Go.Proofs.Ytbdjidjcmmeanaa.P

namespace Go.Proofs.Ytbdjidjcmmeanaa.P
open Go.RowKit Go.Proofs.YtbdjidjcmmeanaaW.PrintWords Go.Proofs.YtbdjidjcmmeanaaW.PrintLast Go.Proofs.YtbdjidjcmmeanaaW.PrintMore
set_option linter.unusedVariables false
set_option linter.unusedSimpArgs false
def mOwn (a b c : Int) : Int := if a = 1 then c else b
/-- What a clue of kind k tells of ladders (w, l, r), with a for the kind 3. -/
def mVal (k a w l r : Int) : Int × Int :=
 if k = 0 then (a, l + r) else if k = 1 then (a, if l > r then 1 else 0) else if k = 2 then (loA (l * r) (l + r), loB (l * r) (l + r))
 else if k = 3 then (a, if mWhole (w * w + mOwn a l r * mOwn a l r) = true then 1 else 0) else if k = 4 then (loA (l * w) (l + r), loB (l * w) (l + r)) else (a, l * r)
theorem mWhole_flr (x : Int) : (flr x * flr x = x) = (mWhole x = true) := by unfold mWhole; simp
theorem spec_pzValue.ev (k a w l r : Int) (h : mHidden w l r = true) : Ev (fun n => spec_pzValue.f n k a w l r) (mVal k a w l r) := by
 obtain ⟨h0, h1, h2⟩ := mHidden_iff.1 h
 have p1 := mul_bd (a := l) (b := r) (A := 12) (B := 12) (by omega) (by omega) (by omega) (by omega)
 have p2 := mul_bd (a := l) (b := w) (A := 12) (B := 12) (by omega) (by omega) (by omega) (by omega)
 have p3 := mul_bd (a := w) (b := w) (A := 12) (B := 12) (by omega) (by omega) (by omega) (by omega)
 have p4 := mul_bd (a := l) (b := l) (A := 12) (B := 12) (by omega) (by omega) (by omega) (by omega)
 have p5 := mul_bd (a := r) (b := r) (A := 12) (B := 12) (by omega) (by omega) (by omega) (by omega)
 unfold spec_pzValue.f mVal
 rw [Int.mul_comm w l, wid (show -9223372036854775808 ≤ l + r by omega) (by omega), wid (show -9223372036854775808 ≤ l * r by omega) (by omega), wid (show -9223372036854775808 ≤ l * w by omega) (by omega)]
 refine Ev.ite (fun _ => Ev.now _) (fun _ => ?_)
 refine Ev.ite (fun _ => ?_) (fun _ => ?_)
 ·by_cases hc : l > r
  ·simp only [if_pos hc]; exact Ev.now _
  ·simp only [if_neg hc]; exact Ev.now _
 refine Ev.ite (fun _ => Ev.bind (spec_clLow.ev (by omega) (by omega) (by omega) (by omega)) (Ev.now _)) (fun _ => ?_)
 refine Ev.ite (fun _ => ?_) (fun _ => ?_)
 ·refine Ev.bindc (a := (w * w + l * l, w * w + r * r)) ?_ ?_
  ·unfold spec_clSquares.f
   rw [wid (show -9223372036854775808 ≤ w * w by omega) (by omega), wid (show -9223372036854775808 ≤ l * l by omega) (by omega), wid (show -9223372036854775808 ≤ r * r by omega) (by omega), wid (show -9223372036854775808 ≤ w * w + l * l by omega) (by omega), wid (show -9223372036854775808 ≤ w * w + r * r by omega) (by omega)]
  ·have hsq : ∀ x : Int, 0 ≤ x → x ≤ 288 → wrap64 (flr x * flr x) = flr x * flr x := fun x hx h => by have := flr_spec hx; have := sq_le (show (0 : Int) ≤ 0 by omega) this.1; exact wid (by omega) (by omega)
   by_cases hc : a = 1
   ·simp only [if_pos hc, mOwn]
    refine Ev.bind (spec_clRoot.ev (x := w * w + r * r) (by omega) (by omega)) ?_
    rw [hsq _ (by omega) (by omega)]
    simp only [mWhole_flr]
    by_cases hw : mWhole (w * w + r * r) = true
    ·simp only [if_pos hw]; exact Ev.now _
    ·simp only [if_neg hw]; exact Ev.now _
   ·simp only [if_neg hc, mOwn]
    refine Ev.bind (spec_clRoot.ev (x := w * w + l * l) (by omega) (by omega)) ?_
    rw [hsq _ (by omega) (by omega)]
    simp only [mWhole_flr]
    by_cases hw : mWhole (w * w + l * l) = true
    ·simp only [if_pos hw]; exact Ev.now _
    ·simp only [if_neg hw]; exact Ev.now _
 refine Ev.ite (fun _ => Ev.bind (spec_clLow.ev (by omega) (by omega) (by omega) (by omega)) (Ev.now _)) (fun _ => Ev.now _)
/-- What told answers: side 0 or 1. -/
theorem impl_told.ev (k a w l r : Int) (h : mHidden w l r = true) (hk : 0 ≤ k ∧ k ≤ 5) (ha : a = 0 ∨ a = 1) (ha3 : k ≠ 3 → a = 0) : Ev (fun n => impl_told.f n w l r k a) (k, (mVal k a w l r).1, (mVal k a w l r).2) := by
 obtain ⟨h0, h1, h2⟩ := mHidden_iff.1 h
 have hL : mLadders w l r = true := mLadders_iff.2 (by omega)
 have p1 := mul_bd (a := l) (b := r) (A := 12) (B := 12) (by omega) (by omega) (by omega) (by omega)
 have p2 := mul_bd (a := l) (b := w) (A := 12) (B := 12) (by omega) (by omega) (by omega) (by omega)
 have p3 := mul_bd (a := w) (b := w) (A := 12) (B := 12) (by omega) (by omega) (by omega) (by omega)
 have p4 := mul_bd (a := l) (b := l) (A := 12) (B := 12) (by omega) (by omega) (by omega) (by omega)
 have p5 := mul_bd (a := r) (b := r) (A := 12) (B := 12) (by omega) (by omega) (by omega) (by omega)
 unfold impl_told.f
 rw [wid (show -9223372036854775808 ≤ l + r by omega) (by omega), wid (show -9223372036854775808 ≤ l * r by omega) (by omega)]
 have hk6 : k = 0 ∨ k = 1 ∨ k = 2 ∨ k = 3 ∨ k = 4 ∨ k = 5 := by omega
 rcases hk6 with rfl | rfl | rfl | rfl | rfl | rfl
 ·obtain rfl := ha3 (by omega)
  simp only [if_true, mVal]; exact Ev.now _
 ·obtain rfl := ha3 (by omega)
  simp only [mVal, show ¬ ((1 : Int) = 0) by omega, if_false, if_true]
  by_cases hc : l > r
  ·simp [impl_asNumber.f, hc]; exact Ev.now _
  ·simp [impl_asNumber.f, hc]; exact Ev.now _
 ·simp only [mVal, show ¬ ((2 : Int) = 0) by omega, show ¬ ((2 : Int) = 1) by omega, if_false, if_true]
  have e := impl_CrossHeight.ev w l r
  rw [mCrossHeight, if_pos hL] at e
  exact Ev.bind e (Ev.now _)
 ·simp only [mVal, show ¬ ((3 : Int) = 0) by omega, show ¬ ((3 : Int) = 1) by omega, show ¬ ((3 : Int) = 2) by omega, if_false, if_true, Option.bind_some]
  have hl : (([l, r] : List Int).length : Int) = 2 := rfl
  rw [hl]
  simp only [show 0 ≤ a by omega, show a < 2 by omega, if_true]
  have hrd : rd [l, r] a = mOwn a l r := by
   rcases ha with rfl | rfl
   ·simp [mOwn, rd]
   ·simp [mOwn, rd]
  rw [hrd]
  have hob : 1 ≤ mOwn a l r ∧ mOwn a l r ≤ 12 := by unfold mOwn; split <;> omega
  have p6 := mul_bd (a := mOwn a l r) (b := mOwn a l r) (A := 12) (B := 12) (by omega) (by omega) (by omega) (by omega)
  refine Ev.bindc (a := w * w + mOwn a l r * mOwn a l r) ?_ ?_
  ·unfold impl_square.f
   rw [wid (show -9223372036854775808 ≤ w * w by omega) (by omega), wid (show -9223372036854775808 ≤ mOwn a l r * mOwn a l r by omega) (by omega), wid (show -9223372036854775808 ≤ w * w + mOwn a l r * mOwn a l r by omega) (by omega)]
  ·refine Ev.bind (impl_rootOf.ev (by omega) (by omega)) ?_
   simp only [impl_asNumber.f]
   by_cases hw : mWhole (w * w + mOwn a l r * mOwn a l r) = true
   ·simp only [if_pos hw, Option.bind_some]; exact Ev.now _
   ·simp only [if_neg hw, Option.bind_some]; exact Ev.now _
 ·simp only [mVal, show ¬ ((4 : Int) = 0) by omega, show ¬ ((4 : Int) = 1) by omega, show ¬ ((4 : Int) = 2) by omega, show ¬ ((4 : Int) = 3) by omega, if_false, if_true]
  have e := impl_CrossPlace.ev w l r
  rw [mCrossPlace, if_pos hL] at e
  exact Ev.bind e (Ev.now _)
 ·obtain rfl := ha3 (by omega)
  simp only [mVal, show ¬ ((5 : Int) = 0) by omega, show ¬ ((5 : Int) = 1) by omega, show ¬ ((5 : Int) = 2) by omega, show ¬ ((5 : Int) = 3) by omega, show ¬ ((5 : Int) = 4) by omega, if_false, if_true]; exact Ev.now _
end Go.Proofs.Ytbdjidjcmmeanaa.P

namespace Go.Proofs.Ytbdjidjcmmeanaa.P
open Go.RowKit Go.Proofs.YtbdjidjcmmeanaaW.PrintWords Go.Proofs.YtbdjidjcmmeanaaW.PrintLast Go.Proofs.YtbdjidjcmmeanaaW.PrintMore
set_option linter.unusedVariables false
set_option linter.unusedSimpArgs false
/-- The clue (k, a, b) fits the ladders. -/
def mFits (k a b w l r : Int) : Bool := (mVal k a w l r).1 == a && (mVal k a w l r).2 == b
theorem mClue_kind {k a b : Int} (h : mClue k a b = true) : 0 ≤ k ∧ k ≤ 5 ∧ (k ≠ 3 → k ≠ 2 → k ≠ 4 → a = 0) ∧ (k = 3 → a = 0 ∨ a = 1) := by
 unfold mClue at h
 simp only [Bool.and_eq_true, Bool.or_eq_true, inr_iff, beq_iff_eq, decide_eq_true_eq] at h
 omega
theorem spec_pzFits.ev (k a b w l r : Int) (h : mHidden w l r = true) : Ev (fun n => spec_pzFits.f n k a b w l r) (mFits k a b w l r) := by
 unfold spec_pzFits.f mFits
 refine Ev.bind (spec_pzValue.ev k a w l r h) ?_
 by_cases hc : (mVal k a w l r).1 = a
 ·simp only [if_pos hc, hc, beq_self_eq_true, Bool.true_and]; exact Ev.now _
 ·simp only [if_neg hc]
  exact Ev.const (by simp [hc])
theorem mVal_other (k a a' w l r : Int) (hk : k = 2 ∨ k = 4) : mVal k a w l r = mVal k a' w l r := by
 rcases hk with rfl | rfl <;> simp [mVal]
theorem impl_doesFit.ev (k a b w l r : Int) (h : mHidden w l r = true) (hc : mClue k a b = true) : Ev (fun n => impl_doesFit.f n k a b w l r) (mFits k a b w l r) := by
 obtain ⟨k0, k5, k1, k3⟩ := mClue_kind hc
 unfold impl_doesFit.f
 by_cases h3 : k = 3
 ·simp only [if_pos h3]
  refine Ev.bind (impl_told.ev k a w l r h ⟨k0, k5⟩ (k3 h3) (fun h => absurd h3 h)) ?_
  refine Ev.const ?_
  simp [mFits]
 ·simp only [if_neg h3]
  refine Ev.bind (impl_told.ev k 0 w l r h ⟨k0, k5⟩ (.inl rfl) (fun _ => rfl)) ?_
  refine Ev.const ?_
  by_cases h24 : k = 2 ∨ k = 4
  ·rw [mVal_other k 0 a w l r h24]; simp [mFits]
  ·have ha := k1 h3 (by omega) (by omega)
   subst ha
   simp [mFits]
end Go.Proofs.Ytbdjidjcmmeanaa.P

namespace Go.Proofs.Ytbdjidjcmmeanaa.P
open Go.RowKit Go.Proofs.YtbdjidjcmmeanaaW.PrintWords Go.Proofs.YtbdjidjcmmeanaaW.PrintLast Go.Proofs.YtbdjidjcmmeanaaW.PrintMore
set_option linter.unusedVariables false
set_option linter.unusedSimpArgs false
def mkL (w : Int) (i j : Nat) : S45 := ⟨w, (i : Int) + 1, (j : Int) + 1⟩
def fitsAll (l : List S37) (x : S45) : Bool := l.all fun c => mFits c.f0 c.f1 c.f2 x.f0 x.f1 x.f2
/-- From place j on in the row of the left height i + 1. -/
def mRow (w : Int) (l : List S37) (i j : Nat) : List S45 := ((List.range' j (12 - j)).map (mkL w i)).filter (fitsAll l)
def mRows (w : Int) (l : List S37) (i : Nat) : List S45 := (List.range' i (12 - i)).flatMap fun i => mRow w l i 0
/-- All hidden ladders that fit the clues, in order. -/
def mSols (w : Int) (l : List S37) : List S45 := mRows w l 0
theorem mRow_step (w : Int) (l : List S37) (i j : Nat) (h : j < 12) : mRow w l i j = (if fitsAll l (mkL w i j) = true then [mkL w i j] else []) ++ mRow w l i (j + 1) := by
 unfold mRow
 rw [show 12 - j = (12 - (j + 1)) + 1 by omega, List.range'_succ, List.map_cons, List.filter_cons]
 split <;> simp
theorem mRow_end (w : Int) (l : List S37) (i j : Nat) (h : 12 ≤ j) : mRow w l i j = [] := by
 unfold mRow; rw [show 12 - j = 0 by omega]; rfl
theorem mRows_step (w : Int) (l : List S37) (i : Nat) (h : i < 12) : mRows w l i = mRow w l i 0 ++ mRows w l (i + 1) := by
 unfold mRows
 rw [show 12 - i = (12 - (i + 1)) + 1 by omega, List.range'_succ, List.flatMap_cons]
theorem mRows_end (w : Int) (l : List S37) (i : Nat) (h : 12 ≤ i) : mRows w l i = [] := by
 unfold mRows; rw [show 12 - i = 0 by omega]; rfl
theorem mRow_len (w : Int) (l : List S37) (i j : Nat) : (mRow w l i j).length ≤ 12 - j := by
 unfold mRow
 exact Nat.le_trans (List.length_filter_le _ _) (by simp)
theorem mRows_len (w : Int) (l : List S37) : ∀ (d i : Nat), i + d = 12 → (mRows w l i).length ≤ 12 * d
 | 0, i, h => by rw [mRows_end w l i (by omega)]; simp
 | d + 1, i, h => by
  rw [mRows_step w l i (by omega), List.length_append]
  have := mRow_len w l i 0
  have := mRows_len w l d (i + 1) (by omega)
  omega
theorem mSols_len (w : Int) (l : List S37) : (mSols w l).length ≤ 144 := mRows_len w l 12 0 (by omega)
theorem anySolution.ev (w : Int) (l : List S37) (a b : Int) (h : mHidden w a b = true) (hc : l.all mClueS = true) : Ev (fun k => anySolution.f k l w a b) (!(fitsAll l ⟨w, a, b⟩)) := by
 refine ev_eq (r := l.any fun c => !(mFits c.f0 c.f1 c.f2 w a b)) ?_ (by unfold fitsAll; rw [List.not_all_eq_any_not])
 unfold anySolution.f
 refine cAny_ev l (fun x hx => ?_)
 unfold anySolution.p
 exact Ev.bind (impl_doesFit.ev _ _ _ _ _ _ h (List.all_eq_true.1 hc x hx)) (Ev.now _)
theorem hid_mk {w : Int} (hw : inr 1 12 w = true) {i j : Nat} (hi : i < 12) (hj : j < 12) : mHidden w ((i : Int) + 1) ((j : Int) + 1) = true := by
 have := inr_iff.1 hw
 exact mHidden_iff.2 (by omega)
theorem impl_solutions.ev_r (w : Int) (l : List S37) (hw : inr 1 12 w = true) (hc : l.all mClueS = true) (r : List S45) (i : Nat) (hi : i < 12) (d : Nat) : ∀ (j : Nat) (out : List S45), j + d = 12 → out.length ≤ 12 * i + j → Ev (fun k => impl_solutions.l0 k w l (out ++ mRow w l i j) ((i + 1 : Nat) + 1 : Int)) r → Ev (fun k => impl_solutions.l1 k w l out ((i : Int) + 1) ((j : Int) + 1)) r := by
 induction d with
 | zero =>
  intro j out hj ho h
  rw [mRow_end w l i j (by omega), List.append_nil] at h
  refine Ev.succ ?_
  simp only [impl_solutions.l1, show ¬ ((j : Int) + 1 ≤ 12) by omega, if_false]
  rw [wid (show -9223372036854775808 ≤ (i : Int) + 1 + 1 by omega) (by omega)]
  exact h
 | succ d ih =>
  intro j out hj ho h
  rw [mRow_step w l i j (by omega)] at h
  refine Ev.succ ?_
  simp only [impl_solutions.l1, show ((j : Int) + 1 ≤ 12) by omega, if_true]
  refine Ev.bind (anySolution.ev w l _ _ (hid_mk hw hi (by omega)) hc) ?_
  rw [wid (show -9223372036854775808 ≤ (j : Int) + 1 + 1 by omega) (by omega)]
  by_cases hf : fitsAll l (mkL w i j) = true
  ·rw [if_pos hf] at h
   simp only [show fitsAll l ⟨w, (i : Int) + 1, (j : Int) + 1⟩ = true from hf, Bool.not_true, Bool.false_eq_true, if_false, show out.length < 5864062014805 by omega, if_true]
   exact ih (j + 1) (out ++ [mkL w i j]) (by omega) (by simp; omega) (by rw [List.append_assoc]; exact h)
  ·rw [if_neg hf, List.nil_append] at h
   simp only [show fitsAll l ⟨w, (i : Int) + 1, (j : Int) + 1⟩ = false from Bool.eq_false_iff.mpr hf, Bool.not_false, if_true]
   exact ih (j + 1) out (by omega) (by omega) h
theorem impl_solutions.ev_l (w : Int) (l : List S37) (hw : inr 1 12 w = true) (hc : l.all mClueS = true) (d : Nat) : ∀ (i : Nat) (out : List S45), i + d = 12 → out.length ≤ 12 * i → Ev (fun k => impl_solutions.l0 k w l out ((i : Int) + 1)) (out ++ mRows w l i) := by
 induction d with
 | zero =>
  intro i out hi ho
  rw [mRows_end w l i (by omega), List.append_nil]
  refine Ev.succ ?_
  simp only [impl_solutions.l0, show ¬ ((i : Int) + 1 ≤ 12) by omega, if_false]
  exact Ev.now _
 | succ d ih =>
  intro i out hi ho
  rw [mRows_step w l i (by omega)]
  refine Ev.succ ?_
  simp only [impl_solutions.l0, show ((i : Int) + 1 ≤ 12) by omega, if_true]
  have hl := mRow_len w l i 0
  have h := ih (i + 1) (out ++ mRow w l i 0) (by omega) (by rw [List.length_append]; omega)
  rw [List.append_assoc] at h
  exact impl_solutions.ev_r w l hw hc _ i (by omega) 12 0 out (by omega) (by omega) h
theorem impl_solutions.ev {w : Int} {l : List S37} (hw : inr 1 12 w = true) (hc : l.all mClueS = true) : Ev (fun k => impl_solutions.f k w l) (mSols w l) := by
 unfold impl_solutions.f
 exact impl_solutions.ev_l w l hw hc 12 0 [] (by omega) (by simp)
theorem spec_pzAll.ev_c (w : Int) (l : List S37) (hl : l.length ≤ 4611686018427387904) (out : List S45) (a b : Int) (h : mHidden w a b = true) (ho : out.length < 5864062014805) (r : List S45) (d : Nat) : ∀ (t : Nat) (x9 : Bool), t + d = l.length →
  Ev (fun k => spec_pzAll.l1 k w l (if (x9 && (l.drop t).all fun c => mFits c.f0 c.f1 c.f2 w a b) = true then out ++ [⟨w, a, b⟩] else out) a (wrap64 (b + 1))) r → Ev (fun k => spec_pzAll.l2 k w l out a b x9 l (l.length : Int) (t : Int) w a b) r := by
 induction d with
 | zero =>
  intro t x9 ht hr
  rw [show t = l.length by omega, List.drop_length] at hr
  refine Ev.succ ?_
  simp only [spec_pzAll.l2, show ¬ ((t : Int) < (l.length : Int)) by omega, if_false]
  cases x9 with
  | true => simp only [if_true, if_pos ho]; simpa using hr
  | false => simp only [Bool.false_eq_true, if_false]; simpa using hr
 | succ d ih =>
  intro t x9 ht hr
  have hlt : t < l.length := by omega
  have e : rd_T37 l (t : Int) = l[t] := by simp [rd_T37, List.getD_eq_getElem?_getD, List.getElem?_eq_getElem hlt]
  rw [List.drop_eq_getElem_cons hlt, List.all_cons] at hr
  refine Ev.succ ?_
  simp only [spec_pzAll.l2, show ((t : Int) < (l.length : Int)) by omega, show (0 : Int) ≤ (t : Int) by omega, if_true, e]
  rw [wid (show -9223372036854775808 ≤ (t : Int) + 1 by omega) (by omega)]
  cases x9 with
  | true =>
   simp only [if_true]
   refine Ev.bind (spec_pzFits.ev _ _ _ w a b h) ?_
   exact ih (t + 1) _ (by omega) (by simpa using hr)
  | false =>
   simp only [Bool.false_eq_true, if_false]
   exact ih (t + 1) false (by omega) (by simpa using hr)
theorem spec_pzAll.ev_r (w : Int) (l : List S37) (hl : l.length ≤ 4611686018427387904) (hw : inr 1 12 w = true) (r : List S45) (i : Nat) (hi : i < 12) (d : Nat) : ∀ (j : Nat) (out : List S45), j + d = 12 → out.length ≤ 12 * i + j → Ev (fun k => spec_pzAll.l0 k w l (out ++ mRow w l i j) ((i + 1 : Nat) + 1 : Int)) r → Ev (fun k => spec_pzAll.l1 k w l out ((i : Int) + 1) ((j : Int) + 1)) r := by
 induction d with
 | zero =>
  intro j out hj ho h
  rw [mRow_end w l i j (by omega), List.append_nil] at h
  refine Ev.succ ?_
  simp only [spec_pzAll.l1, show ¬ ((j : Int) + 1 ≤ 12) by omega, if_false]
  rw [wid (show -9223372036854775808 ≤ (i : Int) + 1 + 1 by omega) (by omega)]
  exact h
 | succ d ih =>
  intro j out hj ho h
  rw [mRow_step w l i j (by omega)] at h
  refine Ev.succ ?_
  simp only [spec_pzAll.l1, show ((j : Int) + 1 ≤ 12) by omega, if_true]
  refine spec_pzAll.ev_c w l hl out _ _ (hid_mk hw hi (by omega)) (by omega) r l.length 0 true (by omega) ?_
  rw [wid (show -9223372036854775808 ≤ (j : Int) + 1 + 1 by omega) (by omega)]
  simp only [List.drop_zero, Bool.true_and]
  by_cases hf : fitsAll l (mkL w i j) = true
  ·rw [if_pos hf] at h
   rw [if_pos (show (l.all fun c => mFits c.f0 c.f1 c.f2 w ((i : Int) + 1) ((j : Int) + 1)) = true from hf)]
   exact ih (j + 1) (out ++ [mkL w i j]) (by omega) (by simp; omega) (by rw [List.append_assoc]; exact h)
  ·rw [if_neg hf, List.nil_append] at h
   rw [if_neg (show ¬ (l.all fun c => mFits c.f0 c.f1 c.f2 w ((i : Int) + 1) ((j : Int) + 1)) = true from hf)]
   exact ih (j + 1) out (by omega) (by omega) h
theorem spec_pzAll.ev_l (w : Int) (l : List S37) (hl : l.length ≤ 4611686018427387904) (hw : inr 1 12 w = true) (d : Nat) : ∀ (i : Nat) (out : List S45), i + d = 12 → out.length ≤ 12 * i → Ev (fun k => spec_pzAll.l0 k w l out ((i : Int) + 1)) (out ++ mRows w l i) := by
 induction d with
 | zero =>
  intro i out hi ho
  rw [mRows_end w l i (by omega), List.append_nil]
  refine Ev.succ ?_
  simp only [spec_pzAll.l0, show ¬ ((i : Int) + 1 ≤ 12) by omega, if_false]
  exact Ev.now _
 | succ d ih =>
  intro i out hi ho
  rw [mRows_step w l i (by omega)]
  refine Ev.succ ?_
  simp only [spec_pzAll.l0, show ((i : Int) + 1 ≤ 12) by omega, if_true]
  have hl2 := mRow_len w l i 0
  have h := ih (i + 1) (out ++ mRow w l i 0) (by omega) (by rw [List.length_append]; omega)
  rw [List.append_assoc] at h
  exact spec_pzAll.ev_r w l hl hw _ i (by omega) 12 0 out (by omega) (by omega) h
theorem spec_pzAll.ev {w : Int} {l : List S37} (hl : l.length ≤ 4611686018427387904) (hw : inr 1 12 w = true) : Ev (fun k => spec_pzAll.f k w l) (mSols w l) := by
 unfold spec_pzAll.f
 exact spec_pzAll.ev_l w l hl hw 12 0 [] (by omega) (by simp)
end Go.Proofs.Ytbdjidjcmmeanaa.P

namespace Go.Proofs.Ytbdjidjcmmeanaa.P
open Go.RowKit Go.Proofs.YtbdjidjcmmeanaaW.PrintWords Go.Proofs.YtbdjidjcmmeanaaW.PrintLast Go.Proofs.YtbdjidjcmmeanaaW.PrintMore
set_option linter.unusedVariables false
set_option linter.unusedSimpArgs false
theorem mPuzzle_parts {w : Int} {l : List S37} (h : mPuzzle w l = true) : inr 1 12 w = true ∧ l.length ≤ 6 ∧ l.all mClueS = true := by
 unfold mPuzzle at h
 simp only [Bool.and_eq_true, decide_eq_true_eq] at h
 exact h
def mSolutions (w : Int) (l : List S37) : List S45 × Bool := if mPuzzle w l = true then (mSols w l, true) else ([], false)
theorem impl_Solutions.ev (w : Int) (l : List S37) : Ev (fun k => impl_Solutions.f k w l) (mSolutions w l) := by
 unfold impl_Solutions.f mSolutions
 refine Ev.bind (impl_IsPuzzle.ev w l) ?_
 refine Ev.ite (fun h => ?_) (fun _ => Ev.now _)
 obtain ⟨h1, h2, h3⟩ := mPuzzle_parts h
 exact Ev.bind (impl_solutions.ev h1 h3) (Ev.now _)
end Go.Proofs.Ytbdjidjcmmeanaa.P

namespace Go.Proofs.Ytbdjidjcmmeanaa.P
open Go.RowKit Go.Proofs.YtbdjidjcmmeanaaW.PrintWords Go.Proofs.YtbdjidjcmmeanaaW.PrintLast Go.Proofs.YtbdjidjcmmeanaaW.PrintMore
set_option linter.unusedVariables false
set_option linter.unusedSimpArgs false
theorem concat2.ev (x y : List S37) (h : x.length + y.length < 1000) : Ev (fun k => impl_Clue_85.f k [x, y]) (x ++ y) := by
 unfold impl_Clue_85.f
 refine Ev.succ ?_
 rw [show (fun k => impl_Clue_85.l0 (k + 1) [x, y] 0 [x, y] (([x, y].length : Nat) : Int) 0) = (fun k => if wrap64 (0 + (x.length : Int)) < 0 then none else impl_Clue_85.l0 k [x, y] (wrap64 (0 + (x.length : Int))) [x, y] 2 1) from funext fun k => by rw [impl_Clue_85.l0, if_pos (by simp), if_pos (by simp), if_pos (by simp), wid (x := 0 + 1) (by omega) (by omega)]; rfl]
 rw [wid (show -9223372036854775808 ≤ 0 + (x.length : Int) by omega) (by omega)]
 simp only [show ¬ (0 + (x.length : Int) < 0) by omega, if_false]
 refine Ev.succ ?_
 rw [show (fun k => impl_Clue_85.l0 (k + 1) [x, y] (0 + (x.length : Int)) [x, y] 2 1) = (fun k => if wrap64 (0 + (x.length : Int) + (y.length : Int)) < 0 then none else impl_Clue_85.l0 k [x, y] (wrap64 (0 + (x.length : Int) + (y.length : Int))) [x, y] 2 2) from funext fun k => by rw [impl_Clue_85.l0, if_pos (by simp), if_pos (by simp), if_pos (by simp), wid (x := 1 + 1) (by omega) (by omega)]; rfl]
 rw [wid (show -9223372036854775808 ≤ 0 + (x.length : Int) + (y.length : Int) by omega) (by omega)]
 simp only [show ¬ (0 + (x.length : Int) + (y.length : Int) < 0) by omega, if_false]
 refine Ev.succ ?_
 rw [show (fun k => impl_Clue_85.l0 (k + 1) [x, y] (0 + (x.length : Int) + (y.length : Int)) [x, y] 2 2) = (fun k => (growNil.f (0 + (x.length : Int) + (y.length : Int))).bind fun t => impl_Clue_85.l1 k t [x, y] 2 0) from funext fun k => by rw [impl_Clue_85.l0, if_neg (by simp)]; rfl]
 refine Ev.bindc (show growNil.f (0 + (x.length : Int) + (y.length : Int)) = some [] from if_pos ⟨by omega, by omega⟩) ?_
 refine Ev.succ ?_
 rw [show (fun k => impl_Clue_85.l1 (k + 1) [] [x, y] 2 0) = (fun k => if ([] : List S37).length + x.length < 5864062014805 then impl_Clue_85.l1 k ([] ++ x) [x, y] 2 1 else none) from funext fun k => by rw [impl_Clue_85.l1, if_pos (by simp), if_pos (by simp), if_pos (by simp), wid (x := 0 + 1) (by omega) (by omega)]; rfl]
 simp only [show ([] : List S37).length + x.length < 5864062014805 by simp only [List.length_nil]; omega, if_true, List.nil_append]
 refine Ev.succ ?_
 rw [show (fun k => impl_Clue_85.l1 (k + 1) x [x, y] 2 1) = (fun k => if x.length + y.length < 5864062014805 then impl_Clue_85.l1 k (x ++ y) [x, y] 2 2 else none) from funext fun k => by rw [impl_Clue_85.l1, if_pos (by simp), if_pos (by simp), if_pos (by simp), wid (x := 1 + 1) (by omega) (by omega)]; rfl]
 simp only [show x.length + y.length < 5864062014805 by omega, if_true]
 refine Ev.succ ?_
 rw [show (fun k => impl_Clue_85.l1 (k + 1) (x ++ y) [x, y] 2 2) = (fun _ => some (x ++ y)) from funext fun k => by rw [impl_Clue_85.l1, if_neg (by simp)]]
 exact Ev.now _
end Go.Proofs.Ytbdjidjcmmeanaa.P

namespace Go.Proofs.Ytbdjidjcmmeanaa.P
open Go.RowKit Go.Proofs.YtbdjidjcmmeanaaW.PrintWords Go.Proofs.YtbdjidjcmmeanaaW.PrintLast Go.Proofs.YtbdjidjcmmeanaaW.PrintMore
set_option linter.unusedVariables false
set_option linter.unusedSimpArgs false
def mWo (l : List S37) (i : Nat) : List S37 := l.take i ++ l.drop (i + 1)
theorem mWo_len {l : List S37} {i : Nat} (h : i < l.length) : (mWo l i).length + 1 = l.length := by
 unfold mWo; rw [List.length_append, List.length_take, List.length_drop]; omega
theorem mWo_all {p : S37 → Bool} {l : List S37} (h : l.all p = true) (i : Nat) : (mWo l i).all p = true := by
 unfold mWo
 refine List.all_eq_true.2 fun x hx => List.all_eq_true.1 h x ?_
 rcases List.mem_append.1 hx with hx | hx
 ·exact List.mem_of_mem_take hx
 ·exact List.mem_of_mem_drop hx
theorem impl_without.ev {l : List S37} {i : Nat} (hi : i < l.length) (hl : l.length ≤ 100) : Ev (fun k => impl_without.f k l (i : Int)) (mWo l i) := by
 unfold impl_without.f
 rw [wid (show -9223372036854775808 ≤ (i : Int) + 1 by omega) (by omega)]
 simp only [show (0 : Int) ≤ (i : Int) by omega, show (i : Int) ≤ (l.length : Int) by omega, show (0 : Int) ≤ (i : Int) + 1 by omega, show (i : Int) + 1 ≤ (l.length : Int) by omega, if_true, Int.toNat_natCast, show ((i : Int) + 1).toNat = i + 1 by omega]
 refine Ev.bind (concat2.ev _ _ (by rw [List.length_take, List.length_drop]; omega)) ?_
 exact Ev.now _
theorem spec_pzWithout.eq {l : List S37} {i : Nat} (hi : i < l.length) (hl : l.length ≤ 100) : spec_pzWithout.f l (i : Int) = some (mWo l i) := by
 unfold spec_pzWithout.f mWo
 rw [wid (show -9223372036854775808 ≤ (i : Int) + 1 by omega) (by omega)]
 simp only [Option.bind_some, List.nil_append, List.length_nil, List.length_take, List.length_drop, show (0 : Int) ≤ (i : Int) by omega, show (i : Int) ≤ (l.length : Int) by omega, show (0 : Int) ≤ (i : Int) + 1 by omega, show (i : Int) + 1 ≤ (l.length : Int) by omega, if_true, Int.toNat_natCast, show ((i : Int) + 1).toNat = i + 1 by omega, show 0 + min i l.length < 5864062014805 by omega, show min i l.length + (l.length - (i + 1)) < 5864062014805 by omega]
end Go.Proofs.Ytbdjidjcmmeanaa.P

namespace Go.Proofs.Ytbdjidjcmmeanaa.P
open Go.RowKit Go.Proofs.YtbdjidjcmmeanaaW.PrintWords Go.Proofs.YtbdjidjcmmeanaaW.PrintLast Go.Proofs.YtbdjidjcmmeanaaW.PrintMore
set_option linter.unusedVariables false
set_option linter.unusedSimpArgs false
def mDrop (w : Int) (l : List S37) (i : Int) : Int × List S37 × Bool := if (mPuzzle w l && inr 0 ((l.length : Int) - 1) i) = true then (w, mWo l i.toNat, true) else (0, [], false)
theorem impl_DropClue.ev (w : Int) (l : List S37) (i : Int) : Ev (fun k => impl_DropClue.f k w l i) (mDrop w l i) := by
 unfold impl_DropClue.f mDrop
 refine Ev.bind (impl_IsPuzzle.ev w l) ?_
 cases h : mPuzzle w l with
 | false => exact Ev.now _
 | true =>
  obtain ⟨h1, h2, h3⟩ := mPuzzle_parts h
  simp only [if_true, Bool.true_and]
  rw [wid (show -9223372036854775808 ≤ (l.length : Int) - 1 by omega) (by omega)]
  refine Ev.bindc (impl_within.eq _ _ _) ?_
  cases h4 : inr 0 ((l.length : Int) - 1) i with
  | false => exact Ev.now _
  | true =>
   have := inr_iff.1 h4
   simp only [if_true]
   have e : i = ((i.toNat : Nat) : Int) := by omega
   refine Ev.bind (a := mWo l i.toNat) ?_ (Ev.now _)
   rw [e, Int.toNat_natCast]
   exact impl_without.ev (by omega) (by omega)
theorem spec_DropClue.ev (w : Int) (l : List S37) (i : Int) : Ev (fun k => spec_DropClue.f k w l i) (mDrop w l i) := by
 unfold spec_DropClue.f mDrop
 refine Ev.bind (spec_pzGood.ev w l) ?_
 cases h : mPuzzle w l with
 | false => exact Ev.now _
 | true =>
  obtain ⟨h1, h2, h3⟩ := mPuzzle_parts h
  simp only [if_true, Bool.true_and]
  rw [wid (show -9223372036854775808 ≤ (l.length : Int) - 1 by omega) (by omega)]
  refine Ev.bindc (spec_l1In.eq _ _ _) ?_
  cases h4 : inr 0 ((l.length : Int) - 1) i with
  | false => exact Ev.now _
  | true =>
   have := inr_iff.1 h4
   simp only [if_true]
   have e : i = ((i.toNat : Nat) : Int) := by omega
   refine Ev.bindc (a := mWo l i.toNat) ?_ (Ev.now _)
   rw [e, Int.toNat_natCast]
   exact spec_pzWithout.eq (by omega) (by omega)
theorem mDrop_len (w : Int) (l : List S37) (i : Int) : (mDrop w l i).2.1.length ≤ 1099511627776 := by
 unfold mDrop; split
 ·rename_i h; rw [Bool.and_eq_true] at h; have := (mPuzzle_parts h.1).2.1; have := inr_iff.1 h.2; have := mWo_len (l := l) (i := i.toNat) (by omega); simp only; omega
 ·simp
end Go.Proofs.Ytbdjidjcmmeanaa.P

namespace Go.Proofs.Ytbdjidjcmmeanaa.P
open Go.RowKit Go.Proofs.YtbdjidjcmmeanaaW.PrintWords Go.Proofs.YtbdjidjcmmeanaaW.PrintLast Go.Proofs.YtbdjidjcmmeanaaW.PrintMore
set_option linter.unusedVariables false
set_option linter.unusedSimpArgs false
theorem laws_eqClueS.ev_l (l : List S37) (hl : l.length ≤ 4611686018427387904) (d : Nat) : ∀ i : Nat, i + d = l.length → Ev (fun k => laws_eqClueS.l0 k l l (i : Int)) true := by
 induction d with
 | zero =>
  intro i hi
  refine Ev.succ ?_
  simp only [laws_eqClueS.l0, show ¬ ((i : Int) < (l.length : Int)) by omega, if_false]
  exact Ev.now _
 | succ d ih =>
  intro i hi
  refine Ev.succ ?_
  simp only [laws_eqClueS.l0, show ((i : Int) < (l.length : Int)) by omega, show (0 : Int) ≤ (i : Int) by omega, if_true, laws_eqClue.f, Option.bind_some]
  rw [wid (show -9223372036854775808 ≤ (i : Int) + 1 by omega) (by omega)]
  exact ih (i + 1) (by omega)
theorem laws_eqClueS.refl {l : List S37} (hl : l.length ≤ 4611686018427387904) : Ev (fun k => laws_eqClueS.f k l l) true := by
 unfold laws_eqClueS.f
 simp only [if_true]
 exact laws_eqClueS.ev_l l hl l.length 0 (by omega)
theorem laws_eqPuzzle.refl {a : Int} {l : List S37} (hl : l.length ≤ 4611686018427387904) : Ev (fun k => laws_eqPuzzle.f k a l a l) true := by
 unfold laws_eqPuzzle.f
 simp only [if_true]
 exact Ev.bind (laws_eqClueS.refl hl) (by simp only [if_true]; exact Ev.now _)
end Go.Proofs.Ytbdjidjcmmeanaa.P

namespace Go.Proofs.Ytbdjidjcmmeanaa.P
open Go.RowKit Go.Proofs.YtbdjidjcmmeanaaW.PrintWords Go.Proofs.YtbdjidjcmmeanaaW.PrintLast Go.Proofs.YtbdjidjcmmeanaaW.PrintMore
set_option linter.unusedVariables false
set_option linter.unusedSimpArgs false
def mkClueS (c : Int) (i : Nat) : S37 := ⟨c + 3 * (i : Int), c + 3 * (i : Int) + 1, c + 3 * (i : Int) + 2⟩
def MarkedClueS (c : Int) (l : List S37) (i : Nat) : Prop := ∀ j, j < i → rd_T37 l (j : Int) = mkClueS c j
theorem rd_setClueS (l : List S37) (i j : Nat) (x : S37) (h : i < l.length) : rd_T37 (l.set i x) (j : Int) = if j = i then x else rd_T37 l (j : Int) := by
 unfold rd_T37
 rw [Int.toNat_natCast, List.getD_eq_getElem?_getD, List.getD_eq_getElem?_getD]
 by_cases e : j = i
 ·subst e; rw [if_pos rfl, List.getElem?_set_self h]; rfl
 ·rw [if_neg e, List.getElem?_set_ne (by omega)]
theorem laws_markClueS.ev_l (c : Int) (hc : 0 ≤ c ∧ c ≤ 1000000) (n : Nat) (hn : n ≤ 1099511627776) (d : Nat) : ∀ (i : Nat) (l : List S37), l.length = n → i + d = n → MarkedClueS c l i → ∃ r : List S37, r.length = n ∧ MarkedClueS c r n ∧ Ev (fun k => laws_markClueS.l0 k l (c + 3 * (i : Int)) (i : Int)) (c + 3 * (n : Int), r) := by
 induction d with
 | zero =>
  intro i l hl hi hm
  obtain rfl : i = n := by omega
  refine ⟨l, hl, hm, ?_⟩
  refine Ev.succ ?_
  simp only [laws_markClueS.l0, show ¬ ((i : Int) < (l.length : Int)) by omega, if_false]
  exact Ev.now _
 | succ d ih =>
  intro i l hl hi hm
  have hlt : i < l.length := by omega
  obtain ⟨r, hr, hmr, hE⟩ := ih (i + 1) (l.set i (mkClueS c i)) (by simpa using hl) (by omega) (fun j hj => by
   rw [rd_setClueS l i j _ hlt]
   by_cases e : j = i
   ·rw [if_pos e, e]
   ·rw [if_neg e]; exact hm j (by omega))
  refine ⟨r, hr, hmr, ?_⟩
  refine Ev.succ ?_
  simp only [laws_markClueS.l0, show ((i : Int) < (l.length : Int)) by omega, show (0 : Int) ≤ (i : Int) by omega, if_true, Option.bind_some, Int.toNat_natCast]
  rw [wid (show -9223372036854775808 ≤ (c + 3 * (i : Int)) + 1 by omega) (by omega), wid (show -9223372036854775808 ≤ (c + 3 * (i : Int) + 1) + 1 by omega) (by omega), wid (show -9223372036854775808 ≤ (c + 3 * (i : Int) + 1 + 1) + 1 by omega) (by omega), wid (show -9223372036854775808 ≤ (i : Int) + 1 by omega) (by omega)]
  have e1 : c + 3 * (i : Int) + 1 + 1 + 1 = c + 3 * ((i + 1 : Nat) : Int) := by omega
  rw [e1]
  have e2 : ∀ (x : S37) (y : S37), (l.set i x).set i y = l.set i y := fun x y => List.set_set ..
  have e3 : ∀ x : S37, rd_T37 (l.set i x) (i : Int) = x := fun x => by rw [rd_setClueS l i i x hlt, if_pos rfl]
  simp only [e2, e3]
  have e4 : (⟨c + 3 * (i : Int), c + 3 * (i : Int) + 1, c + 3 * (i : Int) + 1 + 1⟩ : S37) = mkClueS c i := by unfold mkClueS; congr 1 <;> omega
  rw [e4]
  exact hE
theorem laws_markClueS.ev (l : List S37) (c : Int) (hc : 0 ≤ c ∧ c ≤ 1000000) (hl : l.length ≤ 1099511627776) : ∃ r : List S37, r.length = l.length ∧ MarkedClueS c r r.length ∧ Ev (fun k => laws_markClueS.f k l c) (c + 3 * (l.length : Int), r) := by
 obtain ⟨r, h1, h2, h3⟩ := laws_markClueS.ev_l c hc l.length hl l.length 0 l rfl (by omega) (fun j h => absurd h (by omega))
 refine ⟨r, h1, by rw [h1]; exact h2, ?_⟩
 unfold laws_markClueS.f
 simpa using h3
theorem laws_heldClueS.ev_l (c : Int) (hc : 0 ≤ c ∧ c ≤ 1000000) (l : List S37) (hn : l.length ≤ 1099511627776) (hm : MarkedClueS c l l.length) (d : Nat) : ∀ i : Nat, i + d = l.length → Ev (fun k => laws_heldClueS.l0 k l (c + 3 * (i : Int)) (i : Int)) (c + 3 * (l.length : Int)) := by
 induction d with
 | zero =>
  intro i hi
  obtain rfl : i = l.length := by omega
  refine Ev.succ ?_
  simp only [laws_heldClueS.l0, show ¬ ((l.length : Int) < (l.length : Int)) by omega, if_false]
  exact Ev.now _
 | succ d ih =>
  intro i hi
  refine Ev.succ ?_
  simp only [laws_heldClueS.l0, show ((i : Int) < (l.length : Int)) by omega, show (0 : Int) ≤ (i : Int) by omega, if_true, hm i (by omega), mkClueS]
  rw [wid (show -9223372036854775808 ≤ (c + 3 * (i : Int)) + 1 by omega) (by omega), wid (show -9223372036854775808 ≤ (c + 3 * (i : Int) + 1) + 1 by omega) (by omega), wid (show -9223372036854775808 ≤ (c + 3 * (i : Int) + 1 + 1) + 1 by omega) (by omega), wid (show -9223372036854775808 ≤ (i : Int) + 1 by omega) (by omega)]
  simp only [show (c + 3 * (i : Int) + 2 = c + 3 * (i : Int) + 1 + 1) by omega, if_true]
  have e1 : c + 3 * (i : Int) + 1 + 1 + 1 = c + 3 * ((i + 1 : Nat) : Int) := by omega
  rw [e1]
  exact ih (i + 1) (by omega)
theorem laws_heldClueS.ev (l : List S37) (c : Int) (hc : 0 ≤ c ∧ c ≤ 1000000) (hn : l.length ≤ 1099511627776) (hm : MarkedClueS c l l.length) : Ev (fun k => laws_heldClueS.f k l c) (c + 3 * (l.length : Int)) := by
 unfold laws_heldClueS.f
 simpa using laws_heldClueS.ev_l c hc l hn hm l.length 0 (by omega)
end Go.Proofs.Ytbdjidjcmmeanaa.P

namespace Go.Proofs.Ytbdjidjcmmeanaa.P
open Go.RowKit Go.Proofs.YtbdjidjcmmeanaaW.PrintWords Go.Proofs.YtbdjidjcmmeanaaW.PrintLast Go.Proofs.YtbdjidjcmmeanaaW.PrintMore
set_option linter.unusedVariables false
set_option linter.unusedSimpArgs false
def cvClue (c : S34) : S37 := ⟨c.f0, c.f1, c.f2⟩
theorem laws_toClueS.ev_l (l : List S34) (hl : l.length ≤ 11728124029610) (d : Nat) : ∀ (i : Nat) (out : List S37), i + d = l.length → out.length = l.length → (∀ j, j < i → out[j]? = (l[j]?).map cvClue) → Ev (fun k => laws_toClueS.l0 k l out (i : Int)) (l.map cvClue) := by
 induction d with
 | zero =>
  intro i out hi ho hj
  refine Ev.succ ?_
  simp only [laws_toClueS.l0, show ¬ ((i : Int) < (l.length : Int)) by omega, if_false]
  refine Ev.const ?_
  congr 1
  refine List.ext_getElem? fun j => ?_
  rw [List.getElem?_map]
  by_cases h : j < i
  ·exact hj j h
  ·rw [List.getElem?_eq_none (by omega), List.getElem?_eq_none (by omega)]; rfl
 | succ d ih =>
  intro i out hi ho hj
  have hlt : i < l.length := by omega
  refine Ev.succ ?_
  simp only [laws_toClueS.l0, show ((i : Int) < (l.length : Int)) by omega, show (0 : Int) ≤ (i : Int) by omega, show ((i : Int) < (out.length : Int)) by omega, if_true, laws_toClue.f, Option.bind_some, Int.toNat_natCast]
  rw [wid (show -9223372036854775808 ≤ (i : Int) + 1 by omega) (by omega)]
  have := ih (i + 1) (out.set i (cvClue l[i])) (by omega) (by simpa using ho) (fun j hj2 => ?_)
  ·refine ev_eq ?_ rfl
   have e : rd_T34 l (i : Int) = l[i] := by simp [rd_T34, List.getD_eq_getElem?_getD, List.getElem?_eq_getElem hlt]
   rw [e]
   exact this
  ·by_cases h : j = i
   ·subst h
    rw [List.getElem?_set_self (by omega), List.getElem?_eq_getElem hlt]; rfl
   ·rw [List.getElem?_set_ne (by omega)]
    exact hj j (by omega)
theorem laws_toClueS.ev {l : List S34} (hl : l.length ≤ 11728124029610) : Ev (fun k => laws_toClueS.f k l) (l.map cvClue) := by
 unfold laws_toClueS.f
 simp only [show (0 : Int) ≤ (l.length : Int) by omega, if_true, Int.toNat_natCast, if_pos hl]
 exact laws_toClueS.ev_l l hl l.length 0 _ (by omega) (by simp) (fun j h => absurd h (by omega))
end Go.Proofs.Ytbdjidjcmmeanaa.P

namespace Go.Proofs.Ytbdjidjcmmeanaa.P
open Go.RowKit Go.Proofs.YtbdjidjcmmeanaaW.PrintWords Go.Proofs.YtbdjidjcmmeanaaW.PrintLast Go.Proofs.YtbdjidjcmmeanaaW.PrintMore
set_option linter.unusedVariables false
set_option linter.unusedSimpArgs false
theorem laws_toPuzzle.ev {a : Int} {l : List S34} (hl : l.length ≤ 11728124029610) : Ev (fun k => laws_toPuzzle.f k a l) (a, l.map cvClue) := by
 unfold laws_toPuzzle.f
 exact Ev.bind (laws_toClueS.ev hl) (Ev.now _)
theorem laws_szPuzzle.eq {a : Int} {l : List S34} (hl : l.length ≤ maxLen) : laws_szPuzzle.f a l 1048576 = some (if (l.length : Int) ≤ 1048576 then 1048576 - (l.length : Int) else -1) := by
 unfold maxLen at hl
 unfold laws_szPuzzle.f laws_szClueS.f
 rw [wid (show -9223372036854775808 ≤ (1048576 : Int) - (l.length : Int) by omega) (by omega)]
 by_cases h : (l.length : Int) ≤ 1048576
 ·rw [if_neg (by omega), if_pos h, Option.bind_some, if_neg (by omega)]
 ·rw [if_pos (by omega), if_neg h, Option.bind_some, if_pos (by omega)]
end Go.Proofs.Ytbdjidjcmmeanaa.P

namespace Go.Proofs.Ytbdjidjcmmeanaa.Pure
open Go.RowKit Go.Proofs.YtbdjidjcmmeanaaW.PrintWords Go.Proofs.YtbdjidjcmmeanaaW.PrintLast Go.Proofs.YtbdjidjcmmeanaaW.PrintMore Go.Proofs.Ytbdjidjcmmeanaa.P
set_option linter.unusedVariables false
set_option linter.unusedSimpArgs false
theorem FnExactDropClue : ∀ (a : Int) (l : List S34) (b : Int), (Lit.int .i64 a).wf = true → l.length ≤ maxLen → (∀ y ∈ l, (Lit.int .i64 y.f0).wf = true ∧ (Lit.int .i64 y.f1).wf = true ∧ (Lit.int .i64 y.f2).wf = true) → (Lit.int .i64 b).wf = true → ∃ k, laws_FnExactDropClue.f k a l b = some true := fun a l b _ hl _ _ => by
 by_cases big : (l.length : Int) ≤ 1048576
 ·have hl2 : l.length ≤ 11728124029610 := by omega
  have hm : (l.map cvClue).length ≤ 4611686018427387904 := by rw [List.length_map]; omega
  refine Ev.rounds ?_
  unfold laws_FnExactDropClue.f
  refine Ev.bindc (laws_szPuzzle.eq hl) ?_
  simp only [if_pos big, show ¬ ((1048576 : Int) - (l.length : Int) < 0) by omega, if_false]
  refine Ev.bind (laws_toPuzzle.ev hl2) ?_
  refine Ev.bind (spec_DropClue.ev _ _ _) ?_
  refine Ev.bind (laws_toPuzzle.ev hl2) ?_
  refine Ev.bind (impl_DropClue.ev _ _ _) ?_
  have hn : (mDrop a (l.map cvClue) b).2.1.length ≤ 1099511627776 := mDrop_len _ _ _
  refine Ev.bind (laws_eqPuzzle.refl (a := (mDrop a (l.map cvClue) b).1) (l := (mDrop a (l.map cvClue) b).2.1) (by omega)) ?_
  simp only [eq_self_iff_true, if_true, bne_self_eq_false, Bool.false_eq_true, if_false]
  refine Ev.succ ?_
  simp only [laws_FnExactDropClue.j0, Bool.false_eq_true, if_false]
  refine Ev.bind (laws_toPuzzle.ev hl2) ?_
  refine Ev.bind (laws_eqPuzzle.refl hm) ?_
  simp only [if_true]
  obtain ⟨r1, _, _, hr1⟩ := laws_markClueS.ev (l.map cvClue) 1 (by omega) (by rw [List.length_map]; omega)
  refine Ev.bind (a := (1 + 3 * ((l.map cvClue).length : Int), r1)) (by unfold laws_markPuzzle.f; exact Ev.bind hr1 (Ev.now _)) ?_
  simp only [show ¬ (1 + 3 * ((l.map cvClue).length : Int) < 0) by omega, if_false]
  refine Ev.bind (laws_eqPuzzle.refl (a := (mDrop a (l.map cvClue) b).1) (l := (mDrop a (l.map cvClue) b).2.1) (by omega)) ?_
  simp only [eq_self_iff_true, if_true, bne_self_eq_false, Bool.false_eq_true, if_false]
  refine Ev.succ ?_
  simp only [laws_FnExactDropClue.j1, Bool.false_eq_true, if_false]
  obtain ⟨r2, hr2, hm2, he2⟩ := laws_markClueS.ev (mDrop a (l.map cvClue) b).2.1 1 (by omega) hn
  refine Ev.bind (a := (1 + 3 * ((mDrop a (l.map cvClue) b).2.1.length : Int), r2)) (by unfold laws_markPuzzle.f; exact Ev.bind he2 (Ev.now _)) ?_
  have hh := laws_heldClueS.ev r2 1 (by omega) (by omega) hm2
  rw [hr2] at hh
  have hh2 : Ev (fun k => laws_heldPuzzle.f k (mDrop a (l.map cvClue) b).1 r2 1) (1 + 3 * ((mDrop a (l.map cvClue) b).2.1.length : Int)) := by
   unfold laws_heldPuzzle.f
   refine Ev.bind hh ?_
   simp only [show ¬ (1 + 3 * ((mDrop a (l.map cvClue) b).2.1.length : Int) < 0) by omega, if_false]
   exact Ev.now _
  refine Ev.bind hh2 ?_
  simp only [show ¬ (1 + 3 * ((mDrop a (l.map cvClue) b).2.1.length : Int) < 0) by omega, if_false, if_true]
  refine Ev.bind (laws_toPuzzle.ev hl2) ?_
  refine Ev.bind (impl_DropClue.ev _ _ _) ?_
  refine Ev.bind (laws_eqPuzzle.refl (a := (mDrop a (l.map cvClue) b).1) (l := (mDrop a (l.map cvClue) b).2.1) (by omega)) ?_
  simp only [eq_self_iff_true, if_true, bne_self_eq_false, Bool.false_eq_true, if_false]
  refine Ev.succ ?_
  simp only [laws_FnExactDropClue.j2, Bool.false_eq_true, if_false]
  refine Ev.bind hh2 ?_
  simp only [show ¬ (1 + 3 * ((mDrop a (l.map cvClue) b).2.1.length : Int) < 0) by omega, if_false, if_true]
  exact Ev.now _
 ·refine ⟨0, ?_⟩
  unfold laws_FnExactDropClue.f
  rw [laws_szPuzzle.eq hl, if_neg big]
  rfl
end Go.Proofs.Ytbdjidjcmmeanaa.Pure

namespace Go.Proofs.Ytbdjidjcmmeanaa.fnExactDropClue
open Go.ChangeShapes Go.WideShapes Go.ChangeAt Go.RowKit Go.Deep
open Go.ChangeMaps (open_string shut_string)
open Go.Proofs.YtbdjidjcmmeanaaW.PrintWords Go.Proofs.YtbdjidjcmmeanaaW.PrintLast Go.Proofs.YtbdjidjcmmeanaaW.PrintMore Go.Proofs.Ytbdjidjcmmeanaa.P
set_option linter.unusedVariables false
set_option linter.unusedSimpArgs false
theorem own : ownKnob Try.prog.godebug = none := by kernel_rfl
theorem laidOut : laidOutB Try.prog = true := by kernel_rfl
theorem cof3 : Try.prog.cellsOf 3 = 1 := by kernel_rfl
theorem cof22 : Try.prog.cellsOf 22 = 1 := by kernel_rfl
theorem cof24 : Try.prog.cellsOf 24 = 2 := by kernel_rfl
theorem cof34 : Try.prog.cellsOf 34 = 3 := by kernel_rfl
theorem C_each {α : Type} (d : Kd α) (w : World) (a : Addr) (len : Nat) (hl : len ≤ 9223372036854775807) (P : α → Prop) (h : ∀ i, i < len → ∃ (x : α) (c : List Value), P x ∧ c.length = d.sz ∧ d.K w x c ∧ ∀ j u, c[j]? = some u → w.cell? (a.add (i * d.sz + j)) = some u) : ∃ xs : List α, xs.length = len ∧ Kd.C d w (some a) len xs ∧ ∀ x ∈ xs, P x := by
 refine ⟨List.ofFn fun i : Fin len => Classical.choose (h i.1 i.2), by simp, ⟨by simp, hl, fun _ => ⟨a, rfl, fun j p hj => ?_⟩⟩, fun x hx => ?_⟩
 ·have hjl : j < len := by have := (List.getElem?_eq_some_iff.1 hj).1; simpa using this
  have hp : p = Classical.choose (h j hjl) := by rw [List.getElem?_ofFn, dif_pos hjl] at hj; exact (Option.some.inj hj).symm
  obtain ⟨c, hP, hc, hK, hcell⟩ := Classical.choose_spec (h j hjl)
  exact ⟨c, hc, by rw [hp]; exact hK, hcell⟩
 ·obtain ⟨i, rfl⟩ := (List.mem_ofFn).1 hx
  obtain ⟨c, hP, _⟩ := Classical.choose_spec (h i.1 i.2)
  exact hP
set_option maxRecDepth 100000 in
theorem open0 {H : Type} {enc : TypeId × Value → H} {W : World} {base : Nat} {v : Value} {d : DataW H} {p : List MemPlace} (hv : Value.okWide Try.prog W .any base 24 v) (h : DataW.Trod enc Try.prog W 0 (fun _ => true) true 24 v d p) :
  ∃ (a0_0 : Int) (A0_1 : Option Addr) (c0_1 : Nat) (l0_1 : List S34), v = .agg #[.int .i64 a0_0, .slice A0_1 l0_1.length c0_1] ∧ ((Lit.int .i64 a0_0).wf = true) ∧ (Kd.C k34 W A0_1 l0_1.length l0_1 ∧ l0_1.length ≤ c0_1 ∧ c0_1 ≤ maxLen ∧ (∀ y ∈ l0_1, (Lit.int .i64 y.f0).wf = true ∧ (Lit.int .i64 y.f1).wf = true ∧ (Lit.int .i64 y.f2).wf = true)) := by
 obtain ⟨cs, rfl, hsz⟩ := okWide_struct Try.underlying24 hv
 rw [cof24] at hsz
 obtain ⟨l⟩ := cs
 match l, hsz with
 | [c_0, c_1], _ =>
  obtain ⟨fuel, hf⟩ := h
  have hf : DataW.trod enc Try.prog W 0 (fun _ => true) true fuel 24 [c_0, c_1] = some (d, p) := hf
  obtain ⟨xs1, n2, _, _, _, hl3, hg4⟩ := DataW.trod_struct Try.underlying24 hf
  obtain ⟨y5, y6, rfl⟩ : ∃ y5 y6, xs1 = [y5, y6] := by match xs1, hl3 with | [y5, y6], _ => exact ⟨y5, y6, rfl⟩
  have g7 : DataW.trod enc Try.prog W 0 (fun _ => true) true n2 3 [c_0] = some y5 := by have z_ : DataW.trod enc Try.prog W 0 (fun _ => true) true n2 3 (([c_0, c_1].drop 0).take (Try.prog.cellsOf 3)) = [y5, y6][0]? := hg4 0 _ rfl; rw [cof3] at z_; exact z_
  have g8 : DataW.trod enc Try.prog W 0 (fun _ => true) true n2 22 [c_1] = some y6 := by have z_ : DataW.trod enc Try.prog W 0 (fun _ => true) true n2 22 (([c_0, c_1].drop 1).take (Try.prog.cellsOf 22)) = [y5, y6][1]? := hg4 1 _ rfl; rw [cof22] at z_; exact z_
  obtain ⟨a0_0, e9, _, w0_0⟩ := DataW.trod_int Try.underlying3 g7
  obtain rfl : c_0 = _ := by simpa using e9
  obtain ⟨A0_1, c0_1, l0_1, rfl, w0_1⟩ : ∃ A c l, c_1 = .slice A l.length c ∧ Kd.C k34 W A l.length l ∧ l.length ≤ c ∧ c ≤ maxLen ∧ (∀ y ∈ l, (Lit.int .i64 y.f0).wf = true ∧ (Lit.int .i64 y.f1).wf = true ∧ (Lit.int .i64 y.f2).wf = true) := by
   rcases open_slice Try.underlying22 g8 with ⟨hcs, _⟩ | ⟨ad, len, cap, m, n_, D_, Pl_, hcs, _, hlc, hcm, hm, _, hel⟩
   ·exact ⟨none, 0, [], by simpa using hcs, ⟨rfl, by simp, fun hp => absurd hp (by simp)⟩, by simp, by unfold maxLen; omega, by simp⟩
   ·have hlen : len ≤ 9223372036854775807 := by unfold maxLen at hcm; omega
    have each_ : ∀ i, i < len → ∃ (y : S34) (c : List Value), ((Lit.int .i64 y.f0).wf = true ∧ (Lit.int .i64 y.f1).wf = true ∧ (Lit.int .i64 y.f2).wf = true) ∧ c.length = (k34 : Kd _).sz ∧ (k34 : Kd _).K W y c ∧ ∀ j u, c[j]? = some u → W.cell? (ad.add (i * (k34 : Kd _).sz + j)) = some u := by
     intro i hi
     obtain ⟨cs_, hc_, ht_⟩ := hel i (by simp only [if_true] at hm; omega)
     rw [cof34] at hc_
     obtain ⟨hb_, hn_, hat_⟩ := World.cells?_some hc_
     obtain ⟨u11, u12, u13, rfl⟩ : ∃ u11 u12 u13, cs_ = [u11, u12, u13] := by match cs_, hn_ with | [u11, u12, u13], _ => exact ⟨u11, u12, u13, rfl⟩
     obtain ⟨xs14, n15, _, _, _, hl16, hg17⟩ := DataW.trod_struct Try.underlying34 ht_
     obtain ⟨y18, y19, y20, rfl⟩ : ∃ y18 y19 y20, xs14 = [y18, y19, y20] := by match xs14, hl16 with | [y18, y19, y20], _ => exact ⟨y18, y19, y20, rfl⟩
     have g21 : DataW.trod enc Try.prog W 0 (fun _ => true) true n15 3 [u11] = some y18 := by have z_ : DataW.trod enc Try.prog W 0 (fun _ => true) true n15 3 (([u11, u12, u13].drop 0).take (Try.prog.cellsOf 3)) = [y18, y19, y20][0]? := hg17 0 _ rfl; rw [cof3] at z_; exact z_
     have g22 : DataW.trod enc Try.prog W 0 (fun _ => true) true n15 3 [u12] = some y19 := by have z_ : DataW.trod enc Try.prog W 0 (fun _ => true) true n15 3 (([u11, u12, u13].drop 1).take (Try.prog.cellsOf 3)) = [y18, y19, y20][1]? := hg17 1 _ rfl; rw [cof3] at z_; exact z_
     have g23 : DataW.trod enc Try.prog W 0 (fun _ => true) true n15 3 [u13] = some y20 := by have z_ : DataW.trod enc Try.prog W 0 (fun _ => true) true n15 3 (([u11, u12, u13].drop 2).take (Try.prog.cellsOf 3)) = [y18, y19, y20][2]? := hg17 2 _ rfl; rw [cof3] at z_; exact z_
     obtain ⟨a0_1e0, e24, _, w0_1e0⟩ := DataW.trod_int Try.underlying3 g21
     obtain rfl : u11 = _ := by simpa using e24
     obtain ⟨a0_1e1, e25, _, w0_1e1⟩ := DataW.trod_int Try.underlying3 g22
     obtain rfl : u12 = _ := by simpa using e25
     obtain ⟨a0_1e2, e26, _, w0_1e2⟩ := DataW.trod_int Try.underlying3 g23
     obtain rfl : u13 = _ := by simpa using e26
     refine ⟨(⟨a0_1e0, a0_1e1, a0_1e2⟩ : S34), [.int .i64 a0_1e0, .int .i64 a0_1e1, .int .i64 a0_1e2], ⟨w0_1e0, w0_1e1, w0_1e2⟩, rfl, (k34_mk W _), fun j u hu => ?_⟩
     have hj : j < 3 := by have := (List.getElem?_eq_some_iff.1 hu).1; simpa using this
     have h1_ := hat_ j hj
     have hs_ : (k34 : Kd _).sz = 3 := rfl
     rw [hs_, ← Go.Deep.add_add, h1_]; exact hu
    obtain ⟨xs_, hx_, hC_, hP_⟩ := C_each k34 W ad len hlen (fun y => (Lit.int .i64 y.f0).wf = true ∧ (Lit.int .i64 y.f1).wf = true ∧ (Lit.int .i64 y.f2).wf = true) each_
    exact ⟨some ad, cap, xs_, by rw [hx_]; simpa using hcs, by rw [hx_]; exact hC_, by omega, hcm, hP_⟩
  exact ⟨_, _, _, _, rfl, w0_0, w0_1⟩
set_option maxRecDepth 100000 in
theorem lifted (os : Os) (started : os.Started) (H : Type) (enc : TypeId × Value → H) :
  ReturnsInHanded {} Try.checked os 6 .any (Rows.fnExactDropClueSpec.pre6 enc Try.prog Try.f6 Rows.fnExactDropClueRow.domain false) (Rows.fnExactDropClueSpec.post enc Try.prog Try.f6 false true false false) := by
 refine returnsInHanded_of_change_sized (C := Try.checked) own started (by kernel_rfl) Try.func6
  (ChangeSpec.witness6 (enc := enc) (C := Try.checked) false ⟨#[], #[.agg #[.int .i64 0, .slice none 0 0], .int .i64 0], []⟩ 8 (by kernel_rfl) (by kernel_rfl) (by kernel_rfl) (by kernel_rfl)) ?_
 intro W base args ds gs before hval0 hW hcnd hsz0 _
 have hsz : (DataW.weightsEach Try.prog (Try.f6.params.toList ++ Rows.fnExactDropClueSpec.plain.varTypes Try.prog) (ds ++ gs)).all (· ≤ reachBytes) = true := hsz0
 have hval : ∀ (j : Nat) t v, Try.f6.params[j]? = some t → args[j]? = some v → Value.okWide Try.prog W .any base t v := hval0
 have hW' := hW
 obtain ⟨p, q, hA0, hV, rfl, hfz, hnd⟩ := hW
 have hA : DataW.TrodAll enc Try.prog W 0 (fun _ => true) true Try.f6.params.toList args.toList ds p := hA0
 rw [Try.params6] at hA hval hsz
 obtain ⟨v0, vs0, d0, ds0, p0, q0, hargs, rfl, rfl, h0, r0⟩ := trodAll_cons hA
 obtain ⟨v1, vs1, d1, ds1, p1, q1, rfl, rfl, rfl, h1, r1⟩ := trodAll_cons r0
 obtain ⟨rfl, rfl, rfl⟩ := trodAll_nil r1
 obtain rfl : args = #[v0, v1] := by cases args; simp_all
 obtain ⟨rfl, rfl⟩ := trodVars_none hV
 have k0 := h0
 have lt0 : ∀ x ∈ p0, x.block < W.heap.size := by obtain ⟨m, hm⟩ := k0; exact DataW.trod_lt m _ _ _ hm
 obtain ⟨a0_0, A0_1, c0_1, l0_1, rfl, w0_0, ⟨hr0_1, hc0_1, hm0_1, w0_1⟩⟩ := open0 (hval 0 24 v0 rfl rfl) h0
 obtain ⟨a1, rfl, rfl, rfl, w1⟩ := open_int Try.underlying3 (hval 1 3 v1 rfl rfl) h1
 clear hA0 hval0 hsz0 hsz
 obtain ⟨kk, hk⟩ := Pure.FnExactDropClue a0_0 l0_1 a1 w0_0 (Nat.le_trans hc0_1 hm0_1) w0_1 w1
 refine (P.laws_FnExactDropClue.calls kk a0_0 _ _ l0_1 a1 true W hr0_1 hc0_1 hk rfl).mono fun e W' ⟨he, bel0⟩ => ?_
 have bel : Below W.heap.size W W' := bel0
 subst he
 exact ⟨_, rfl, _, _, _, [], _, [], hW', trodAll_mk1 (shut_bool Try.underlying4 _), (trodAll_cons_mk (Below.trod laidOut (by kernel_rfl) (of_decide_eq_true (by kernel_rfl)) k0 bel lt0) (trodAll_cons_mk (shut_int Try.underlying3 w1) trodAll_mk0)), rfl, bel.frame _, fun h => by cases h⟩
theorem over : Rows.fnExactDropClueRow.holds Try.pinned (OpenSpec.ofChange Rows.fnExactDropClueSpec) :=
 OpenClaim.holds_of_wide 6 Try.f6 rfl rfl rfl rfl rfl rfl rfl ⟨rfl, rfl, rfl, rfl, rfl⟩ rfl rfl rfl rfl rfl (by kernel_rfl) Try.func6 (by kernel_rfl)
  (of_decide_eq_true (by kernel_rfl)) (by unfold Func.isWrapper; first | (rw [if_pos (by decide +kernel)]; kernel_rfl) | (rw [if_neg (by decide +kernel)]; exact ⟨rfl, rfl⟩))
  (fun os started H enc _ => lifted os started H enc)
theorem proved : Rows.FnExactDropClueSaid := over
end Go.Proofs.Ytbdjidjcmmeanaa.fnExactDropClue
namespace Go.Proofs.Ytbdjidjcmmeanaa
/-- The row, under a short name, for the claim. -/
theorem fnExactDropClue_holds : Rows.FnExactDropClueSaid := fnExactDropClue.proved
end Go.Proofs.Ytbdjidjcmmeanaa
