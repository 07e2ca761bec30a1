/- The law FnExactFirstSolution is proved: a call of it returns true and leaves its arguments as they were; and what this needs. Every input that the given rows speak of; nothing else is asked. -/
import Derived.Test.YtbdjidjcmmeanaaM0
import Derived.Test.YtbdjidjcmmeanaaM1
import Derived.Test.YtbdjidjcmmeanaaM6
import Derived.Test.YtbdjidjcmmeanaaM11
import Derived.Test.YtbdjidjcmmeanaaM15
import Derived.Test.YtbdjidjcmmeanaaRows
import Derived.WalkKit
import Derived.ProofKit
import Derived.OpenShut
import Derived.ShutString
import Derived.ChangeOld
import Derived.Below
import Derived.SizedLaws
import Derived.Deep.Slices
import Derived.Deep.Fields
import Derived.ChangeSame
import Derived.Lib.SmallJoins
import Derived.Test.YtbdjidjcmmeanaaWSized
namespace Go.Proofs.Ytbdjidjcmmeanaa.P
open Go.RowKit Go.Proofs.YtbdjidjcmmeanaaW.PrintWords Go.Proofs.YtbdjidjcmmeanaaW.PrintLast Go.Proofs.YtbdjidjcmmeanaaW.PrintMore
attribute [local go_sem] max2_int min2_int max_two min_two max_three min_three max_four min_four   -- for this text's walks alone
set_option linter.unusedVariables false
set_option linter.unusedSimpArgs false

/-! ### spec_FirstSolution: function 38 -/
def spec_FirstSolution.f (k : Nat) (a0_0 : Int) (l0_1 : List (S37)) : Option (Int × Int × Int × Bool) := (spec_pzGood.f k a0_0 l0_1).bind fun t576 => (if t576 = true then ((spec_pzAll.f k a0_0 l0_1).bind fun t577 => (if (t577.length : Int) = 0 then (some (0, 0, 0, false)) else (if 0 < (t577.length : Int) then (some ((rd_T45 t577 0).f0, (rd_T45 t577 0).f1, (rd_T45 t577 0).f2, true)) else (none)))) else (some (0, 0, 0, false)))
set_option maxHeartbeats 8000000 in
set_option maxRecDepth 100000 in
theorem spec_FirstSolution.calls (k : Nat) (a0_0 : Int) (A0_1 : Option Addr) (c0_1 : Nat) (l0_1 : List (S37)) (r1 : Int) (r2 : Int) (r3 : Int) (r4 : Bool) (w : World) (hr0_1 : Kd.C k37 w A0_1 l0_1.length l0_1) (hc0_1 : l0_1.length ≤ c0_1) (h : spec_FirstSolution.f k a0_0 l0_1 = some (r1, r2, r3, r4)) :
    Calls Try.prog 38 #[.agg #[.int .i64 a0_0, .slice A0_1 l0_1.length c0_1]] w fun e w' => e = .returned (.tuple #[.agg #[.int .i64 r1, .int .i64 r2, .int .i64 r3], .bool r4]) ∧ Below w.heap.size w w' := by
  have hu29 := Try.underlying29
  have hu45 := Try.underlying45
  have HR0_1 := Aside0.mk hr0_1
  have HC0_1 := Aside0.mk hc0_1
  clear hr0_1 hc0_1
  have HB := Aside0.mk (Below.refl w.heap.size w)
  have H : ((spec_pzGood.f k a0_0 l0_1).bind fun t576 => (if t576 = true then ((spec_pzAll.f k a0_0 l0_1).bind fun t577 => (if (t577.length : Int) = 0 then (some (0, 0, 0, false)) else (if 0 < (t577.length : Int) then (some ((rd_T45 t577 0).f0, (rd_T45 t577 0).f1, (rd_T45 t577 0).f2, true)) else (none)))) else (some (0, 0, 0, false)))) = some (r1, r2, r3, r4) := h
  clear h
  replace H := Option.bind_eq_some_iff.mp H
  obtain ⟨t576, A20, H⟩ := H
  replace H : (if t576 = true then ((spec_pzAll.f k a0_0 l0_1).bind fun t577 => (if (t577.length : Int) = 0 then (some (0, 0, 0, false)) else (if 0 < (t577.length : Int) then (some ((rd_T45 t577 0).f0, (rd_T45 t577 0).f1, (rd_T45 t577 0).f2, true)) else (none)))) else (some (0, 0, 0, false))) = some (r1, r2, r3, r4) := H
  have A2 := Aside0.mk A20
  clear A20
  by_cases c3 : t576 = true
  · subst c3
    have H1 : ((spec_pzAll.f k a0_0 l0_1).bind fun t577 => (if (t577.length : Int) = 0 then (some (0, 0, 0, false)) else (if 0 < (t577.length : Int) then (some ((rd_T45 t577 0).f0, (rd_T45 t577 0).f1, (rd_T45 t577 0).f2, true)) else (none)))) = some (r1, r2, r3, r4) := by rw [if_pos rfl] at H; exact H
    clear H
    have H := H1
    clear H1
    replace H := Option.bind_eq_some_iff.mp H
    obtain ⟨t577, A40, H⟩ := H
    replace H : (if (t577.length : Int) = 0 then (some (0, 0, 0, false)) else (if 0 < (t577.length : Int) then (some ((rd_T45 t577 0).f0, (rd_T45 t577 0).f1, (rd_T45 t577 0).f2, true)) else (none))) = some (r1, r2, r3, r4) := H
    have A4 := Aside0.mk A40
    clear A40
    by_cases c5 : (t577.length : Int) = 0
    · rw [if_pos c5] at H
      have c5b0 : ((t577.length : Int) == 0) = true := beq_iff_eq.mpr c5
      have c5b1 : ((t577.length : Int) != 0) = false := bne_eq_false_iff_eq.mpr c5
      clear c5
      simp only [Option.some.injEq, Prod.mk.injEq] at H
      obtain ⟨rfl, rfl, rfl, rfl⟩ := H
      go_enter Try.func38, Try.ntmps38
      go_wp2_with (first | ((with_reducible refine gate_dst (N := 1) rfl ?_); refine box_event ?hg (N := 1) ?hd (cs := #[.int .i64 a0_0, .slice A0_1 l0_1.length c0_1]) (t := 29) ?hr ?_; (case hd => rfl); (case hg => rfl); (case hr => first | (go_simp; done) | (go_simp; rfl)); intro gb574 hg w6 hbox hb; have n0_ := Aside0.mk (below_step (by repeat (first | (with_reducible first | exact HB.out | apply below_alloc | apply pw_below_drewN | apply below_drew1) | exact HB.out)) hb); have n1_ := Aside0.mk (hbox); have n2_ := Aside0.mk ((by rw [hg]; exact (below_size (by repeat (first | (with_reducible first | exact HB.out | apply below_alloc | apply pw_below_drewN | apply below_drew1) | exact HB.out))) : w.heap.size ≤ gb574)); have n3_ := Aside0.mk ((by rw [hg]; exact (below_size (by repeat (first | (with_reducible first | exact HB.out | apply below_alloc | apply pw_below_drewN | apply below_drew1) | exact HB.out))) : w.heap.size ≤ gb574)); clear HB; have HB := n0_; have BK574 := n1_; have GW574 := n2_; have GE574 := n3_; clear n0_ n1_ n2_ n3_; clear hb hbox hg) | ((with_reducible refine gate_dst (N := 2) rfl ?_); refine box_event ?hg (N := 2) ?hd (cs := #[.int .i64 0, .int .i64 0, .int .i64 0]) (t := 45) ?hr ?_; (case hd => rfl); (case hg => rfl); (case hr => first | (go_simp; done) | (go_simp; rfl)); intro gb575 hg w7 hbox hb; have n0_ := Aside0.mk (blk_below (g := gb574) (o := .cells #[.int .i64 a0_0, .slice A0_1 l0_1.length c0_1] 29 (0, 0)) (by (with_reducible repeat (first | refine blk_drewN ?_ _ | refine blk_drew ?_ | refine blk_alloc ?_ _)); exact BK574.out) hb); have n1_ := Aside0.mk (below_step (by repeat (first | (with_reducible first | exact HB.out | apply below_alloc | apply pw_below_drewN | apply below_drew1 | refine below_set ?_ GE574.out) | exact HB.out)) hb); have n2_ := Aside0.mk (hbox); have n3_ := Aside0.mk ((by rw [hg]; exact (below_size (by repeat (first | (with_reducible first | exact HB.out | apply below_alloc | apply pw_below_drewN | apply below_drew1 | refine below_set ?_ GE574.out) | exact HB.out))) : w.heap.size ≤ gb575)); have n4_ := Aside0.mk ((by rw [hg]; exact (below_size (by repeat (first | (with_reducible first | exact HB.out | apply below_alloc | apply pw_below_drewN | apply below_drew1 | refine below_set ?_ GE574.out) | exact HB.out))) : w.heap.size ≤ gb575)); have n5_ := Aside0.mk ((by rw [hg]; exact Nat.ne_of_lt (blk_lt (g := gb574) (o := .cells #[.int .i64 a0_0, .slice A0_1 l0_1.length c0_1] 29 (0, 0)) (by (with_reducible repeat (first | refine blk_drewN ?_ _ | refine blk_drew ?_ | refine blk_alloc ?_ _)); exact BK574.out)) : gb574 ≠ gb575)); have n6_ := Aside0.mk ((by rw [hg]; exact Nat.ne_of_gt (blk_lt (g := gb574) (o := .cells #[.int .i64 a0_0, .slice A0_1 l0_1.length c0_1] 29 (0, 0)) (by (with_reducible repeat (first | refine blk_drewN ?_ _ | refine blk_drew ?_ | refine blk_alloc ?_ _)); exact BK574.out)) : gb575 ≠ gb574)); clear BK574; clear HB; have BK574 := n0_; have HB := n1_; have BK575 := n2_; have GW575 := n3_; have GE575 := n4_; have NB574_575 := n5_; have NB575_574 := n6_; clear n0_ n1_ n2_ n3_ n4_ n5_ n6_; clear hb hbox hg; have hnb8 := NB574_575.out; have hnc8 := NB575_574.out; have hcz9_0 : w7.cell? ⟨gb574, 0, none⟩ = some (.int .i64 a0_0) := (blk_cell BK574.out 0).trans rfl; have hcz9_1 : w7.cell? ⟨gb574, 1, none⟩ = some (.slice A0_1 l0_1.length c0_1) := (blk_cell BK574.out 1).trans rfl; have hfz9_0 := blk_frozen BK574.out 0; have hfz9_1 := blk_frozen BK574.out 1) | ((with_reducible refine gate_callee (f := 54) rfl ?_); refine goesL_ (some 6) rfl rfl Try.func54 (by kernel_rfl) rfl #[.agg #[.int .i64 a0_0, .slice A0_1 l0_1.length c0_1]] rfl (by (try simp only [List.map_toArray, List.map_cons, List.map_nil]); first | done | rfl | (simp only [List.length_drop, List.length_take]; rfl)) ?_; (with_reducible refine (spec_pzGood.calls k a0_0 _ _ l0_1 true _ ?side1 ?side2 A2.out).mono ?_); (case side1 => repeat (first | exact (Kd.C_below HR0_1.out HB.out) | (with_reducible refine Kd.C_alloc ?_ _) | (with_reducible refine Kd.C_drewN ?_ _) | (with_reducible refine Kd.C_drew ?_))); (case side2 => exact HC0_1.out); rintro e w10 ⟨rfl, hb⟩; refine ⟨_, rfl, ?_⟩; have n0_ := Aside0.mk (blk_below (g := gb574) (o := .cells #[.int .i64 a0_0, .slice A0_1 l0_1.length c0_1] 29 (0, 0)) (by (with_reducible repeat (first | refine blk_drewN ?_ _ | refine blk_drew ?_ | refine blk_alloc ?_ _)); exact BK574.out) hb); have n1_ := Aside0.mk (blk_below (g := gb575) (o := .cells #[.int .i64 0, .int .i64 0, .int .i64 0] 45 (0, 0)) (by (with_reducible repeat (first | refine blk_drewN ?_ _ | refine blk_drew ?_ | refine blk_alloc ?_ _)); exact BK575.out) hb); have n2_ := Aside0.mk (below_step (by repeat (first | (with_reducible first | exact HB.out | apply below_alloc | apply pw_below_drewN | apply below_drew1 | refine below_set ?_ GE574.out | refine below_set ?_ GE575.out) | exact HB.out)) hb); clear BK574; clear BK575; clear HB; have BK574 := n0_; have BK575 := n1_; have HB := n2_; clear n0_ n1_ n2_; (try clear hb); (try clear hb2); (try clear hk); (try clear hi); have hcz11_0 : w10.cell? ⟨gb574, 0, none⟩ = some (.int .i64 a0_0) := (blk_cell BK574.out 0).trans rfl; have hcz11_1 : w10.cell? ⟨gb574, 1, none⟩ = some (.slice A0_1 l0_1.length c0_1) := (blk_cell BK574.out 1).trans rfl; have hfz11_0 := blk_frozen BK574.out 0; have hfz11_1 := blk_frozen BK574.out 1) | ((with_reducible refine gate_callee (f := 79) rfl ?_); refine goesL_ (some 13) rfl rfl Try.func79 (by kernel_rfl) rfl #[.int .i64 a0_0, .slice A0_1 l0_1.length c0_1] rfl (by (try simp only [List.map_toArray, List.map_cons, List.map_nil]); first | done | rfl | (simp only [List.length_drop, List.length_take]; rfl)) ?_; (with_reducible refine (spec_pzAll.calls k a0_0 _ _ l0_1 t577 _ ?side1 ?side2 A4.out).mono ?_); (case side1 => repeat (first | exact (Kd.C_below HR0_1.out HB.out) | (with_reducible refine Kd.C_alloc ?_ _) | (with_reducible refine Kd.C_drewN ?_ _) | (with_reducible refine Kd.C_drew ?_))); (case side2 => exact HC0_1.out); rintro e w12 ⟨v578, rfl, ho0, hb⟩; refine ⟨_, rfl, ?_⟩; have n0_ := Aside0.mk (Kd.R_lower (Kd.R_newB ho0 (g := gb575) (o := .cells #[.int .i64 0, .int .i64 0, .int .i64 0] 45 (0, 0)) (by (with_reducible repeat (first | refine blk_drewN ?_ _ | refine blk_drew ?_ | refine blk_alloc ?_ _)); exact BK575.out)) (below_size (by repeat (first | (with_reducible first | exact HB.out | apply below_alloc | apply pw_below_drewN | apply below_drew1 | refine below_set ?_ GE574.out | refine below_set ?_ GE575.out) | exact HB.out)))); have n1_ := Aside0.mk (blk_below (g := gb574) (o := .cells #[.int .i64 a0_0, .slice A0_1 l0_1.length c0_1] 29 (0, 0)) (by (with_reducible repeat (first | refine blk_drewN ?_ _ | refine blk_drew ?_ | refine blk_alloc ?_ _)); exact BK574.out) hb); have n2_ := Aside0.mk (blk_below (g := gb575) (o := .cells #[.int .i64 0, .int .i64 0, .int .i64 0] 45 (0, 0)) (by (with_reducible repeat (first | refine blk_drewN ?_ _ | refine blk_drew ?_ | refine blk_alloc ?_ _)); exact BK575.out) hb); have n3_ := Aside0.mk (below_step (by repeat (first | (with_reducible first | exact HB.out | apply below_alloc | apply pw_below_drewN | apply below_drew1 | refine below_set ?_ GE574.out | refine below_set ?_ GE575.out) | exact HB.out)) hb); clear BK574; clear BK575; clear HB; have HO579 := n0_; have BK574 := n1_; have BK575 := n2_; have HB := n3_; clear n0_ n1_ n2_ n3_; (try clear hb); (try clear hb2); (try clear hk); (try clear hi); (try clear ho0); obtain ⟨Ao13, co13, eo13⟩ := Kd.R_slice HO579.out; subst eo13; have hcz14_0 : w12.cell? ⟨gb575, 0, none⟩ = some (.int .i64 0) := (blk_cell BK575.out 0).trans rfl; have hcz14_1 : w12.cell? ⟨gb575, 1, none⟩ = some (.int .i64 0) := (blk_cell BK575.out 1).trans rfl; have hcz14_2 : w12.cell? ⟨gb575, 2, none⟩ = some (.int .i64 0) := (blk_cell BK575.out 2).trans rfl; have hfz14_0 := blk_frozen BK575.out 0; have hfz14_1 := blk_frozen BK575.out 1; have hfz14_2 := blk_frozen BK575.out 2))
      refine bodyPost_ret (results_ct rfl _ _ gb575 45 #[.int .i64 0, .int .i64 0, .int .i64 0] (0, 0) _ rfl (by (with_reducible repeat (first | refine blk_drewN ?_ _ | refine blk_drew ?_ | refine blk_alloc ?_ _)); refine blk_put (cs := #[.int .i64 0, .int .i64 0, .int .i64 0]) ?_ 2 _ rfl; (with_reducible repeat (first | refine blk_drewN ?_ _ | refine blk_drew ?_ | refine blk_alloc ?_ _)); refine blk_put (cs := #[.int .i64 0, .int .i64 0, .int .i64 0]) ?_ 1 _ rfl; (with_reducible repeat (first | refine blk_drewN ?_ _ | refine blk_drew ?_ | refine blk_alloc ?_ _)); refine blk_put (cs := #[.int .i64 0, .int .i64 0, .int .i64 0]) ?_ 0 _ rfl; (with_reducible repeat (first | refine blk_drewN ?_ _ | refine blk_drew ?_ | refine blk_alloc ?_ _)); exact BK575.out) Try.underlying45 rfl (by kernel_rfl)) rfl ?_
      exact ⟨by first | rfl | (simp [errW_none, errW_some] <;> rfl) | (simp [*, errW_none, errW_some] <;> rfl), by repeat (first | (with_reducible first | exact HB.out | apply below_alloc | apply pw_below_drewN | apply below_drew1 | refine below_set ?_ GE574.out | refine below_set ?_ GE575.out) | exact HB.out)⟩
    · rw [if_neg c5] at H
      have c5b0 : ((t577.length : Int) == 0) = false := beq_eq_false_iff_ne.mpr c5
      have c5b1 : ((t577.length : Int) != 0) = true := bne_iff_ne.mpr c5
      have c5b2 : ¬ (t577 = []) := fun h_ => c5 (by rw [h_]; rfl)
      by_cases c15 : 0 < (t577.length : Int)
      · rw [if_pos c15] at H
        have c15b0 : decide (0 < (t577.length : Int)) = true := decide_eq_true c15
        have c15b1 : decide (0 < t577.length) = true := decide_eq_true (by omega)
        clear c15
        simp only [Option.some.injEq, Prod.mk.injEq] at H
        obtain ⟨rfl, rfl, rfl, rfl⟩ := H
        go_enter Try.func38, Try.ntmps38
        go_wp2_with (first | ((with_reducible refine gate_dst (N := 1) rfl ?_); refine box_event ?hg (N := 1) ?hd (cs := #[.int .i64 a0_0, .slice A0_1 l0_1.length c0_1]) (t := 29) ?hr ?_; (case hd => rfl); (case hg => rfl); (case hr => first | (go_simp; done) | (go_simp; rfl)); intro gb574 hg w16 hbox hb; have n0_ := Aside0.mk (below_step (by repeat (first | (with_reducible first | exact HB.out | apply below_alloc | apply pw_below_drewN | apply below_drew1) | exact HB.out)) hb); have n1_ := Aside0.mk (hbox); have n2_ := Aside0.mk ((by rw [hg]; exact (below_size (by repeat (first | (with_reducible first | exact HB.out | apply below_alloc | apply pw_below_drewN | apply below_drew1) | exact HB.out))) : w.heap.size ≤ gb574)); have n3_ := Aside0.mk ((by rw [hg]; exact (below_size (by repeat (first | (with_reducible first | exact HB.out | apply below_alloc | apply pw_below_drewN | apply below_drew1) | exact HB.out))) : w.heap.size ≤ gb574)); clear HB; have HB := n0_; have BK574 := n1_; have GW574 := n2_; have GE574 := n3_; clear n0_ n1_ n2_ n3_; clear hb hbox hg) | ((with_reducible refine gate_dst (N := 2) rfl ?_); refine box_event ?hg (N := 2) ?hd (cs := #[.int .i64 0, .int .i64 0, .int .i64 0]) (t := 45) ?hr ?_; (case hd => rfl); (case hg => rfl); (case hr => first | (go_simp; done) | (go_simp; rfl)); intro gb575 hg w17 hbox hb; have n0_ := Aside0.mk (blk_below (g := gb574) (o := .cells #[.int .i64 a0_0, .slice A0_1 l0_1.length c0_1] 29 (0, 0)) (by (with_reducible repeat (first | refine blk_drewN ?_ _ | refine blk_drew ?_ | refine blk_alloc ?_ _)); exact BK574.out) hb); have n1_ := Aside0.mk (below_step (by repeat (first | (with_reducible first | exact HB.out | apply below_alloc | apply pw_below_drewN | apply below_drew1 | refine below_set ?_ GE574.out) | exact HB.out)) hb); have n2_ := Aside0.mk (hbox); have n3_ := Aside0.mk ((by rw [hg]; exact (below_size (by repeat (first | (with_reducible first | exact HB.out | apply below_alloc | apply pw_below_drewN | apply below_drew1 | refine below_set ?_ GE574.out) | exact HB.out))) : w.heap.size ≤ gb575)); have n4_ := Aside0.mk ((by rw [hg]; exact (below_size (by repeat (first | (with_reducible first | exact HB.out | apply below_alloc | apply pw_below_drewN | apply below_drew1 | refine below_set ?_ GE574.out) | exact HB.out))) : w.heap.size ≤ gb575)); have n5_ := Aside0.mk ((by rw [hg]; exact Nat.ne_of_lt (blk_lt (g := gb574) (o := .cells #[.int .i64 a0_0, .slice A0_1 l0_1.length c0_1] 29 (0, 0)) (by (with_reducible repeat (first | refine blk_drewN ?_ _ | refine blk_drew ?_ | refine blk_alloc ?_ _)); exact BK574.out)) : gb574 ≠ gb575)); have n6_ := Aside0.mk ((by rw [hg]; exact Nat.ne_of_gt (blk_lt (g := gb574) (o := .cells #[.int .i64 a0_0, .slice A0_1 l0_1.length c0_1] 29 (0, 0)) (by (with_reducible repeat (first | refine blk_drewN ?_ _ | refine blk_drew ?_ | refine blk_alloc ?_ _)); exact BK574.out)) : gb575 ≠ gb574)); clear BK574; clear HB; have BK574 := n0_; have HB := n1_; have BK575 := n2_; have GW575 := n3_; have GE575 := n4_; have NB574_575 := n5_; have NB575_574 := n6_; clear n0_ n1_ n2_ n3_ n4_ n5_ n6_; clear hb hbox hg; have hnb18 := NB574_575.out; have hnc18 := NB575_574.out; have hcz19_0 : w17.cell? ⟨gb574, 0, none⟩ = some (.int .i64 a0_0) := (blk_cell BK574.out 0).trans rfl; have hcz19_1 : w17.cell? ⟨gb574, 1, none⟩ = some (.slice A0_1 l0_1.length c0_1) := (blk_cell BK574.out 1).trans rfl; have hfz19_0 := blk_frozen BK574.out 0; have hfz19_1 := blk_frozen BK574.out 1) | ((with_reducible refine gate_callee (f := 54) rfl ?_); refine goesL_ (some 6) rfl rfl Try.func54 (by kernel_rfl) rfl #[.agg #[.int .i64 a0_0, .slice A0_1 l0_1.length c0_1]] rfl (by (try simp only [List.map_toArray, List.map_cons, List.map_nil]); first | done | rfl | (simp only [List.length_drop, List.length_take]; rfl)) ?_; (with_reducible refine (spec_pzGood.calls k a0_0 _ _ l0_1 true _ ?side1 ?side2 A2.out).mono ?_); (case side1 => repeat (first | exact (Kd.C_below HR0_1.out HB.out) | (with_reducible refine Kd.C_alloc ?_ _) | (with_reducible refine Kd.C_drewN ?_ _) | (with_reducible refine Kd.C_drew ?_))); (case side2 => exact HC0_1.out); rintro e w20 ⟨rfl, hb⟩; refine ⟨_, rfl, ?_⟩; have n0_ := Aside0.mk (blk_below (g := gb574) (o := .cells #[.int .i64 a0_0, .slice A0_1 l0_1.length c0_1] 29 (0, 0)) (by (with_reducible repeat (first | refine blk_drewN ?_ _ | refine blk_drew ?_ | refine blk_alloc ?_ _)); exact BK574.out) hb); have n1_ := Aside0.mk (blk_below (g := gb575) (o := .cells #[.int .i64 0, .int .i64 0, .int .i64 0] 45 (0, 0)) (by (with_reducible repeat (first | refine blk_drewN ?_ _ | refine blk_drew ?_ | refine blk_alloc ?_ _)); exact BK575.out) hb); have n2_ := Aside0.mk (below_step (by repeat (first | (with_reducible first | exact HB.out | apply below_alloc | apply pw_below_drewN | apply below_drew1 | refine below_set ?_ GE574.out | refine below_set ?_ GE575.out) | exact HB.out)) hb); clear BK574; clear BK575; clear HB; have BK574 := n0_; have BK575 := n1_; have HB := n2_; clear n0_ n1_ n2_; (try clear hb); (try clear hb2); (try clear hk); (try clear hi); have hcz21_0 : w20.cell? ⟨gb574, 0, none⟩ = some (.int .i64 a0_0) := (blk_cell BK574.out 0).trans rfl; have hcz21_1 : w20.cell? ⟨gb574, 1, none⟩ = some (.slice A0_1 l0_1.length c0_1) := (blk_cell BK574.out 1).trans rfl; have hfz21_0 := blk_frozen BK574.out 0; have hfz21_1 := blk_frozen BK574.out 1) | ((with_reducible refine gate_callee (f := 79) rfl ?_); refine goesL_ (some 13) rfl rfl Try.func79 (by kernel_rfl) rfl #[.int .i64 a0_0, .slice A0_1 l0_1.length c0_1] rfl (by (try simp only [List.map_toArray, List.map_cons, List.map_nil]); first | done | rfl | (simp only [List.length_drop, List.length_take]; rfl)) ?_; (with_reducible refine (spec_pzAll.calls k a0_0 _ _ l0_1 t577 _ ?side1 ?side2 A4.out).mono ?_); (case side1 => repeat (first | exact (Kd.C_below HR0_1.out HB.out) | (with_reducible refine Kd.C_alloc ?_ _) | (with_reducible refine Kd.C_drewN ?_ _) | (with_reducible refine Kd.C_drew ?_))); (case side2 => exact HC0_1.out); rintro e w22 ⟨v578, rfl, ho0, hb⟩; refine ⟨_, rfl, ?_⟩; have n0_ := Aside0.mk (Kd.R_lower (Kd.R_newB ho0 (g := gb575) (o := .cells #[.int .i64 0, .int .i64 0, .int .i64 0] 45 (0, 0)) (by (with_reducible repeat (first | refine blk_drewN ?_ _ | refine blk_drew ?_ | refine blk_alloc ?_ _)); exact BK575.out)) (below_size (by repeat (first | (with_reducible first | exact HB.out | apply below_alloc | apply pw_below_drewN | apply below_drew1 | refine below_set ?_ GE574.out | refine below_set ?_ GE575.out) | exact HB.out)))); have n1_ := Aside0.mk (blk_below (g := gb574) (o := .cells #[.int .i64 a0_0, .slice A0_1 l0_1.length c0_1] 29 (0, 0)) (by (with_reducible repeat (first | refine blk_drewN ?_ _ | refine blk_drew ?_ | refine blk_alloc ?_ _)); exact BK574.out) hb); have n2_ := Aside0.mk (blk_below (g := gb575) (o := .cells #[.int .i64 0, .int .i64 0, .int .i64 0] 45 (0, 0)) (by (with_reducible repeat (first | refine blk_drewN ?_ _ | refine blk_drew ?_ | refine blk_alloc ?_ _)); exact BK575.out) hb); have n3_ := Aside0.mk (below_step (by repeat (first | (with_reducible first | exact HB.out | apply below_alloc | apply pw_below_drewN | apply below_drew1 | refine below_set ?_ GE574.out | refine below_set ?_ GE575.out) | exact HB.out)) hb); clear BK574; clear BK575; clear HB; have HO579 := n0_; have BK574 := n1_; have BK575 := n2_; have HB := n3_; clear n0_ n1_ n2_ n3_; (try clear hb); (try clear hb2); (try clear hk); (try clear hi); (try clear ho0); obtain ⟨Ao23, co23, eo23⟩ := Kd.R_slice HO579.out; subst eo23; have p580 : 0 ≤ (0 : Int) := (by omega); have q580 : 0 < (t577.length : Int) := of_decide_eq_true (by first | (with_reducible assumption) | assumption); obtain ⟨ad580, e580, hx580_0, hx580_1, hx580_2⟩ := at_T45 (Kd.R_reads' HO579.out).2.2 0 p580 q580; cases e580; have qi580 : (0 < t577.length) = True := eq_true (by omega); (try rw [show ((0 : Int)).toNat = 0 from rfl] at hx580_0); (try rw [show 0 * 3 = 0 from rfl] at hx580_0); (try rw [Addr.add_zero'] at hx580_0); (try rw [show ((0 : Int)).toNat = 0 from rfl] at hx580_1); (try rw [show 0 * 3 = 0 from rfl] at hx580_1); (try rw [Addr.add_zero'] at hx580_1); (try rw [show ((0 : Int)).toNat = 0 from rfl] at hx580_2); (try rw [show 0 * 3 = 0 from rfl] at hx580_2); (try rw [Addr.add_zero'] at hx580_2); replace p580 := eq_true p580; replace q580 := eq_true q580; have hcz24_0 : w22.cell? ⟨gb575, 0, none⟩ = some (.int .i64 0) := (blk_cell BK575.out 0).trans rfl; have hcz24_1 : w22.cell? ⟨gb575, 1, none⟩ = some (.int .i64 0) := (blk_cell BK575.out 1).trans rfl; have hcz24_2 : w22.cell? ⟨gb575, 2, none⟩ = some (.int .i64 0) := (blk_cell BK575.out 2).trans rfl; have hfz24_0 := blk_frozen BK575.out 0; have hfz24_1 := blk_frozen BK575.out 1; have hfz24_2 := blk_frozen BK575.out 2))
        refine bodyPost_ret (results_ct rfl _ _ gb575 45 #[.int .i64 ((rd_T45 t577 0).f0), .int .i64 ((rd_T45 t577 0).f1), .int .i64 ((rd_T45 t577 0).f2)] (0, 0) _ rfl (by (with_reducible repeat (first | refine blk_drewN ?_ _ | refine blk_drew ?_ | refine blk_alloc ?_ _)); refine blk_put (cs := #[.int .i64 ((rd_T45 t577 0).f0), .int .i64 ((rd_T45 t577 0).f1), .int .i64 0]) ?_ 2 _ rfl; (with_reducible repeat (first | refine blk_drewN ?_ _ | refine blk_drew ?_ | refine blk_alloc ?_ _)); refine blk_put (cs := #[.int .i64 ((rd_T45 t577 0).f0), .int .i64 0, .int .i64 0]) ?_ 1 _ rfl; (with_reducible repeat (first | refine blk_drewN ?_ _ | refine blk_drew ?_ | refine blk_alloc ?_ _)); refine blk_put (cs := #[.int .i64 0, .int .i64 0, .int .i64 0]) ?_ 0 _ rfl; (with_reducible repeat (first | refine blk_drewN ?_ _ | refine blk_drew ?_ | refine blk_alloc ?_ _)); exact BK575.out) Try.underlying45 rfl (by kernel_rfl)) rfl ?_
        exact ⟨by first | rfl | (simp [errW_none, errW_some] <;> rfl) | (simp [*, errW_none, errW_some] <;> rfl), by repeat (first | (with_reducible first | exact HB.out | apply below_alloc | apply pw_below_drewN | apply below_drew1 | refine below_set ?_ GE574.out | refine below_set ?_ GE575.out) | exact HB.out)⟩
      · rw [if_neg c15] at H
        exact absurd H (by simp)
  · replace c3 := Bool.eq_false_iff.mpr c3
    subst c3
    have H1 : (some (0, 0, 0, false)) = some (r1, r2, r3, r4) := by rw [if_neg (show ¬ (false = true) by decide)] at H; exact H
    clear H
    have H := H1
    clear H1
    simp only [Option.some.injEq, Prod.mk.injEq] at H
    obtain ⟨rfl, rfl, rfl, rfl⟩ := H
    go_enter Try.func38, Try.ntmps38
    go_wp2_with (first | ((with_reducible refine gate_dst (N := 1) rfl ?_); refine box_event ?hg (N := 1) ?hd (cs := #[.int .i64 a0_0, .slice A0_1 l0_1.length c0_1]) (t := 29) ?hr ?_; (case hd => rfl); (case hg => rfl); (case hr => first | (go_simp; done) | (go_simp; rfl)); intro gb574 hg w25 hbox hb; have n0_ := Aside0.mk (below_step (by repeat (first | (with_reducible first | exact HB.out | apply below_alloc | apply pw_below_drewN | apply below_drew1) | exact HB.out)) hb); have n1_ := Aside0.mk (hbox); have n2_ := Aside0.mk ((by rw [hg]; exact (below_size (by repeat (first | (with_reducible first | exact HB.out | apply below_alloc | apply pw_below_drewN | apply below_drew1) | exact HB.out))) : w.heap.size ≤ gb574)); have n3_ := Aside0.mk ((by rw [hg]; exact (below_size (by repeat (first | (with_reducible first | exact HB.out | apply below_alloc | apply pw_below_drewN | apply below_drew1) | exact HB.out))) : w.heap.size ≤ gb574)); clear HB; have HB := n0_; have BK574 := n1_; have GW574 := n2_; have GE574 := n3_; clear n0_ n1_ n2_ n3_; clear hb hbox hg) | ((with_reducible refine gate_dst (N := 2) rfl ?_); refine box_event ?hg (N := 2) ?hd (cs := #[.int .i64 0, .int .i64 0, .int .i64 0]) (t := 45) ?hr ?_; (case hd => rfl); (case hg => rfl); (case hr => first | (go_simp; done) | (go_simp; rfl)); intro gb575 hg w26 hbox hb; have n0_ := Aside0.mk (blk_below (g := gb574) (o := .cells #[.int .i64 a0_0, .slice A0_1 l0_1.length c0_1] 29 (0, 0)) (by (with_reducible repeat (first | refine blk_drewN ?_ _ | refine blk_drew ?_ | refine blk_alloc ?_ _)); exact BK574.out) hb); have n1_ := Aside0.mk (below_step (by repeat (first | (with_reducible first | exact HB.out | apply below_alloc | apply pw_below_drewN | apply below_drew1 | refine below_set ?_ GE574.out) | exact HB.out)) hb); have n2_ := Aside0.mk (hbox); have n3_ := Aside0.mk ((by rw [hg]; exact (below_size (by repeat (first | (with_reducible first | exact HB.out | apply below_alloc | apply pw_below_drewN | apply below_drew1 | refine below_set ?_ GE574.out) | exact HB.out))) : w.heap.size ≤ gb575)); have n4_ := Aside0.mk ((by rw [hg]; exact (below_size (by repeat (first | (with_reducible first | exact HB.out | apply below_alloc | apply pw_below_drewN | apply below_drew1 | refine below_set ?_ GE574.out) | exact HB.out))) : w.heap.size ≤ gb575)); have n5_ := Aside0.mk ((by rw [hg]; exact Nat.ne_of_lt (blk_lt (g := gb574) (o := .cells #[.int .i64 a0_0, .slice A0_1 l0_1.length c0_1] 29 (0, 0)) (by (with_reducible repeat (first | refine blk_drewN ?_ _ | refine blk_drew ?_ | refine blk_alloc ?_ _)); exact BK574.out)) : gb574 ≠ gb575)); have n6_ := Aside0.mk ((by rw [hg]; exact Nat.ne_of_gt (blk_lt (g := gb574) (o := .cells #[.int .i64 a0_0, .slice A0_1 l0_1.length c0_1] 29 (0, 0)) (by (with_reducible repeat (first | refine blk_drewN ?_ _ | refine blk_drew ?_ | refine blk_alloc ?_ _)); exact BK574.out)) : gb575 ≠ gb574)); clear BK574; clear HB; have BK574 := n0_; have HB := n1_; have BK575 := n2_; have GW575 := n3_; have GE575 := n4_; have NB574_575 := n5_; have NB575_574 := n6_; clear n0_ n1_ n2_ n3_ n4_ n5_ n6_; clear hb hbox hg; have hnb27 := NB574_575.out; have hnc27 := NB575_574.out; have hcz28_0 : w26.cell? ⟨gb574, 0, none⟩ = some (.int .i64 a0_0) := (blk_cell BK574.out 0).trans rfl; have hcz28_1 : w26.cell? ⟨gb574, 1, none⟩ = some (.slice A0_1 l0_1.length c0_1) := (blk_cell BK574.out 1).trans rfl; have hfz28_0 := blk_frozen BK574.out 0; have hfz28_1 := blk_frozen BK574.out 1) | ((with_reducible refine gate_callee (f := 54) rfl ?_); refine goesL_ (some 6) rfl rfl Try.func54 (by kernel_rfl) rfl #[.agg #[.int .i64 a0_0, .slice A0_1 l0_1.length c0_1]] rfl (by (try simp only [List.map_toArray, List.map_cons, List.map_nil]); first | done | rfl | (simp only [List.length_drop, List.length_take]; rfl)) ?_; (with_reducible refine (spec_pzGood.calls k a0_0 _ _ l0_1 false _ ?side1 ?side2 A2.out).mono ?_); (case side1 => repeat (first | exact (Kd.C_below HR0_1.out HB.out) | (with_reducible refine Kd.C_alloc ?_ _) | (with_reducible refine Kd.C_drewN ?_ _) | (with_reducible refine Kd.C_drew ?_))); (case side2 => exact HC0_1.out); rintro e w29 ⟨rfl, hb⟩; refine ⟨_, rfl, ?_⟩; have n0_ := Aside0.mk (blk_below (g := gb574) (o := .cells #[.int .i64 a0_0, .slice A0_1 l0_1.length c0_1] 29 (0, 0)) (by (with_reducible repeat (first | refine blk_drewN ?_ _ | refine blk_drew ?_ | refine blk_alloc ?_ _)); exact BK574.out) hb); have n1_ := Aside0.mk (blk_below (g := gb575) (o := .cells #[.int .i64 0, .int .i64 0, .int .i64 0] 45 (0, 0)) (by (with_reducible repeat (first | refine blk_drewN ?_ _ | refine blk_drew ?_ | refine blk_alloc ?_ _)); exact BK575.out) hb); have n2_ := Aside0.mk (below_step (by repeat (first | (with_reducible first | exact HB.out | apply below_alloc | apply pw_below_drewN | apply below_drew1 | refine below_set ?_ GE574.out | refine below_set ?_ GE575.out) | exact HB.out)) hb); clear BK574; clear BK575; clear HB; have BK574 := n0_; have BK575 := n1_; have HB := n2_; clear n0_ n1_ n2_; (try clear hb); (try clear hb2); (try clear hk); (try clear hi); have hcz30_0 : w29.cell? ⟨gb575, 0, none⟩ = some (.int .i64 0) := (blk_cell BK575.out 0).trans rfl; have hcz30_1 : w29.cell? ⟨gb575, 1, none⟩ = some (.int .i64 0) := (blk_cell BK575.out 1).trans rfl; have hcz30_2 : w29.cell? ⟨gb575, 2, none⟩ = some (.int .i64 0) := (blk_cell BK575.out 2).trans rfl; have hfz30_0 := blk_frozen BK575.out 0; have hfz30_1 := blk_frozen BK575.out 1; have hfz30_2 := blk_frozen BK575.out 2))
    refine bodyPost_ret (results_ct rfl _ _ gb575 45 #[.int .i64 0, .int .i64 0, .int .i64 0] (0, 0) _ rfl (by (with_reducible repeat (first | refine blk_drewN ?_ _ | refine blk_drew ?_ | refine blk_alloc ?_ _)); refine blk_put (cs := #[.int .i64 0, .int .i64 0, .int .i64 0]) ?_ 2 _ rfl; (with_reducible repeat (first | refine blk_drewN ?_ _ | refine blk_drew ?_ | refine blk_alloc ?_ _)); refine blk_put (cs := #[.int .i64 0, .int .i64 0, .int .i64 0]) ?_ 1 _ rfl; (with_reducible repeat (first | refine blk_drewN ?_ _ | refine blk_drew ?_ | refine blk_alloc ?_ _)); refine blk_put (cs := #[.int .i64 0, .int .i64 0, .int .i64 0]) ?_ 0 _ rfl; (with_reducible repeat (first | refine blk_drewN ?_ _ | refine blk_drew ?_ | refine blk_alloc ?_ _)); exact BK575.out) Try.underlying45 rfl (by kernel_rfl)) rfl ?_
    exact ⟨by first | rfl | (simp [errW_none, errW_some] <;> rfl) | (simp [*, errW_none, errW_some] <;> rfl), by repeat (first | (with_reducible first | exact HB.out | apply below_alloc | apply pw_below_drewN | apply below_drew1 | refine below_set ?_ GE574.out | refine below_set ?_ GE575.out) | exact HB.out)⟩

end Go.Proofs.Ytbdjidjcmmeanaa.P

namespace Go.Proofs.Ytbdjidjcmmeanaa.P
open Go.RowKit Go.Proofs.YtbdjidjcmmeanaaW.PrintWords Go.Proofs.YtbdjidjcmmeanaaW.PrintLast Go.Proofs.YtbdjidjcmmeanaaW.PrintMore
attribute [local go_sem] max2_int min2_int max_two min_two max_three min_three max_four min_four   -- for this text's walks alone
set_option linter.unusedVariables false
set_option linter.unusedSimpArgs false

/-! ### laws_FnExactFirstSolution: function 11 -/
def laws_FnExactFirstSolution.j0 : Nat → Bool → Int → List (S34) → Int → List (S37) → Option (Bool)
  | 0, _, _, _, _, _ => none
  | k + 1, x35, x591000, x591001, x606000, x606001 => if x35 = true then (some false) else ((laws_toPuzzle.f k x591000 x591001).bind fun bt612 => ((laws_eqPuzzle.f k x606000 x606001 bt612.1 bt612.2).bind fun t616 => (if t616 = true then (some true) else (some false))))
def laws_FnExactFirstSolution.f (k : Nat) (a0_0 : Int) (l0_1 : List (S34)) : Option (Bool) := (laws_szPuzzle.f a0_0 l0_1 1048576).bind fun t591 => (if t591 < 0 then (some true) else ((laws_toPuzzle.f k a0_0 l0_1).bind fun bt592 => ((spec_FirstSolution.f k bt592.1 bt592.2).bind fun bt596 => ((laws_toPuzzle.f k a0_0 l0_1).bind fun bt601 => ((impl_FirstSolution.f k bt601.1 bt601.2).bind fun bt606 => ((laws_eqLadders.f bt606.1 bt606.2.1 bt606.2.2.1 bt596.1 bt596.2.1 bt596.2.2.1).bind fun t611 => (if t611 = true then (laws_FnExactFirstSolution.j0 k (bt606.2.2.2 != bt596.2.2.2) a0_0 l0_1 bt601.1 bt601.2) else (laws_FnExactFirstSolution.j0 k true a0_0 l0_1 bt601.1 bt601.2))))))))
set_option maxHeartbeats 8000000 in
set_option maxRecDepth 100000 in
theorem laws_FnExactFirstSolution.calls (k : Nat) (a0_0 : Int) (A0_1 : Option Addr) (c0_1 : Nat) (l0_1 : List (S34)) (r : Bool) (w : World) (hr0_1 : Kd.C k34 w A0_1 l0_1.length l0_1) (hc0_1 : l0_1.length ≤ c0_1) (h : laws_FnExactFirstSolution.f k a0_0 l0_1 = some r) :
    Calls Try.prog 11 #[.agg #[.int .i64 a0_0, .slice A0_1 l0_1.length c0_1]] w fun e w' => e = .returned (.bool r) ∧ Below w.heap.size w w' := by
  have hu24 := Try.underlying24
  have hu45 := Try.underlying45
  have hu29 := Try.underlying29
  have HR0_1 := Aside0.mk hr0_1
  have HC0_1 := Aside0.mk hc0_1
  clear hr0_1 hc0_1
  have HB := Aside0.mk (Below.refl w.heap.size w)
  have H : ((laws_szPuzzle.f a0_0 l0_1 1048576).bind fun t591 => (if t591 < 0 then (some true) else ((laws_toPuzzle.f k a0_0 l0_1).bind fun bt592 => ((spec_FirstSolution.f k bt592.1 bt592.2).bind fun bt596 => ((laws_toPuzzle.f k a0_0 l0_1).bind fun bt601 => ((impl_FirstSolution.f k bt601.1 bt601.2).bind fun bt606 => ((laws_eqLadders.f bt606.1 bt606.2.1 bt606.2.2.1 bt596.1 bt596.2.1 bt596.2.2.1).bind fun t611 => (if t611 = true then (laws_FnExactFirstSolution.j0 k (bt606.2.2.2 != bt596.2.2.2) a0_0 l0_1 bt601.1 bt601.2) else (laws_FnExactFirstSolution.j0 k true a0_0 l0_1 bt601.1 bt601.2))))))))) = some r := h
  clear h
  replace H := Option.bind_eq_some_iff.mp H
  obtain ⟨t591, A20, H⟩ := H
  replace H : (if t591 < 0 then (some true) else ((laws_toPuzzle.f k a0_0 l0_1).bind fun bt592 => ((spec_FirstSolution.f k bt592.1 bt592.2).bind fun bt596 => ((laws_toPuzzle.f k a0_0 l0_1).bind fun bt601 => ((impl_FirstSolution.f k bt601.1 bt601.2).bind fun bt606 => ((laws_eqLadders.f bt606.1 bt606.2.1 bt606.2.2.1 bt596.1 bt596.2.1 bt596.2.2.1).bind fun t611 => (if t611 = true then (laws_FnExactFirstSolution.j0 k (bt606.2.2.2 != bt596.2.2.2) a0_0 l0_1 bt601.1 bt601.2) else (laws_FnExactFirstSolution.j0 k true a0_0 l0_1 bt601.1 bt601.2)))))))) = some r := H
  have A2 := Aside0.mk A20
  clear A20
  by_cases c3 : t591 < 0
  · rw [if_pos c3] at H
    have c3b0 : decide (t591 < 0) = true := decide_eq_true c3
    clear c3
    obtain rfl := Option.some.inj H
    go_enter Try.func11, Try.ntmps11
    go_wp2_with (first | ((with_reducible refine gate_dst (N := 1) rfl ?_); refine box_event ?hg (N := 1) ?hd (cs := #[.int .i64 a0_0, .slice A0_1 l0_1.length c0_1]) (t := 24) ?hr ?_; (case hd => rfl); (case hg => rfl); (case hr => first | (go_simp; done) | (go_simp; rfl)); intro gb590 hg w4 hbox hb; have n0_ := Aside0.mk (below_step (by repeat (first | (with_reducible first | exact HB.out | apply below_alloc | apply pw_below_drewN | apply below_drew1) | exact HB.out)) hb); have n1_ := Aside0.mk (hbox); have n2_ := Aside0.mk ((by rw [hg]; exact (below_size (by repeat (first | (with_reducible first | exact HB.out | apply below_alloc | apply pw_below_drewN | apply below_drew1) | exact HB.out))) : w.heap.size ≤ gb590)); have n3_ := Aside0.mk ((by rw [hg]; exact (below_size (by repeat (first | (with_reducible first | exact HB.out | apply below_alloc | apply pw_below_drewN | apply below_drew1) | exact HB.out))) : w.heap.size ≤ gb590)); clear HB; have HB := n0_; have BK590 := n1_; have GW590 := n2_; have GE590 := n3_; clear n0_ n1_ n2_ n3_; clear hb hbox hg; have hcz5_0 : w4.cell? ⟨gb590, 0, none⟩ = some (.int .i64 a0_0) := (blk_cell BK590.out 0).trans rfl; have hcz5_1 : w4.cell? ⟨gb590, 1, none⟩ = some (.slice A0_1 l0_1.length c0_1) := (blk_cell BK590.out 1).trans rfl; have hfz5_0 := blk_frozen BK590.out 0; have hfz5_1 := blk_frozen BK590.out 1) | ((with_reducible refine gate_callee (f := 15) rfl ?_); refine goesL_ (some 11) rfl rfl Try.func15 (by kernel_rfl) rfl #[.agg #[.int .i64 a0_0, .slice A0_1 l0_1.length c0_1], .int .i64 1048576] rfl (by (try simp only [List.map_toArray, List.map_cons, List.map_nil]); first | done | rfl | (simp only [List.length_drop, List.length_take]; rfl)) ?_; (with_reducible refine (laws_szPuzzle.calls a0_0 _ _ l0_1 1048576 t591 _ ?side1 ?side2 A2.out).mono ?_); (case side1 => repeat (first | exact (Kd.C_below HR0_1.out HB.out) | (with_reducible refine Kd.C_alloc ?_ _) | (with_reducible refine Kd.C_drewN ?_ _) | (with_reducible refine Kd.C_drew ?_))); (case side2 => exact HC0_1.out); rintro e w6 ⟨rfl, hb⟩; refine ⟨_, rfl, ?_⟩; have n0_ := Aside0.mk (blk_below (g := gb590) (o := .cells #[.int .i64 a0_0, .slice A0_1 l0_1.length c0_1] 24 (0, 0)) (by (with_reducible repeat (first | refine blk_drewN ?_ _ | refine blk_drew ?_ | refine blk_alloc ?_ _)); exact BK590.out) hb); have n1_ := Aside0.mk (below_step (by repeat (first | (with_reducible first | exact HB.out | apply below_alloc | apply pw_below_drewN | apply below_drew1 | refine below_set ?_ GE590.out) | exact HB.out)) hb); clear BK590; clear HB; have BK590 := n0_; have HB := n1_; clear n0_ n1_; (try clear hb); (try clear hb2); (try clear hk); (try clear hi)))
    go_ret
    exact ⟨by first | rfl | (simp [errW_none, errW_some] <;> rfl) | (simp [*, errW_none, errW_some] <;> rfl), by repeat (first | (with_reducible first | exact HB.out | apply below_alloc | apply pw_below_drewN | apply below_drew1 | refine below_set ?_ GE590.out) | exact HB.out)⟩
  · rw [if_neg c3] at H
    have c3b0 : decide (t591 < 0) = false := decide_eq_false c3
    clear c3
    replace H := Option.bind_eq_some_iff.mp H
    obtain ⟨⟨t592, t593⟩, A70, H⟩ := H
    replace H : ((spec_FirstSolution.f k t592 t593).bind fun bt596 => ((laws_toPuzzle.f k a0_0 l0_1).bind fun bt601 => ((impl_FirstSolution.f k bt601.1 bt601.2).bind fun bt606 => ((laws_eqLadders.f bt606.1 bt606.2.1 bt606.2.2.1 bt596.1 bt596.2.1 bt596.2.2.1).bind fun t611 => (if t611 = true then (laws_FnExactFirstSolution.j0 k (bt606.2.2.2 != bt596.2.2.2) a0_0 l0_1 bt601.1 bt601.2) else (laws_FnExactFirstSolution.j0 k true a0_0 l0_1 bt601.1 bt601.2)))))) = some r := H
    have A7 := Aside0.mk A70
    clear A70
    replace H := Option.bind_eq_some_iff.mp H
    obtain ⟨⟨t596, t597, t598, t599⟩, A80, H⟩ := H
    replace H : ((laws_toPuzzle.f k a0_0 l0_1).bind fun bt601 => ((impl_FirstSolution.f k bt601.1 bt601.2).bind fun bt606 => ((laws_eqLadders.f bt606.1 bt606.2.1 bt606.2.2.1 t596 t597 t598).bind fun t611 => (if t611 = true then (laws_FnExactFirstSolution.j0 k (bt606.2.2.2 != t599) a0_0 l0_1 bt601.1 bt601.2) else (laws_FnExactFirstSolution.j0 k true a0_0 l0_1 bt601.1 bt601.2))))) = some r := H
    have A8 := Aside0.mk A80
    clear A80
    replace H := Option.bind_eq_some_iff.mp H
    obtain ⟨⟨t601, t602⟩, A90, H⟩ := H
    replace H : ((impl_FirstSolution.f k t601 t602).bind fun bt606 => ((laws_eqLadders.f bt606.1 bt606.2.1 bt606.2.2.1 t596 t597 t598).bind fun t611 => (if t611 = true then (laws_FnExactFirstSolution.j0 k (bt606.2.2.2 != t599) a0_0 l0_1 t601 t602) else (laws_FnExactFirstSolution.j0 k true a0_0 l0_1 t601 t602)))) = some r := H
    have A9 := Aside0.mk A90
    clear A90
    replace H := Option.bind_eq_some_iff.mp H
    obtain ⟨⟨t606, t607, t608, t609⟩, A100, H⟩ := H
    replace H : ((laws_eqLadders.f t606 t607 t608 t596 t597 t598).bind fun t611 => (if t611 = true then (laws_FnExactFirstSolution.j0 k (t609 != t599) a0_0 l0_1 t601 t602) else (laws_FnExactFirstSolution.j0 k true a0_0 l0_1 t601 t602))) = some r := H
    have A10 := Aside0.mk A100
    clear A100
    have HC11 := Aside0.mk H
    clear H
    go_enter Try.func11, Try.ntmps11
    go_upto_region 8 with (first | ((with_reducible refine gate_dst (N := 1) rfl ?_); refine box_event ?hg (N := 1) ?hd (cs := #[.int .i64 a0_0, .slice A0_1 l0_1.length c0_1]) (t := 24) ?hr ?_; (case hd => rfl); (case hg => rfl); (case hr => first | (go_simp; done) | (go_simp; rfl)); intro gb590 hg w12 hbox hb; have n0_ := Aside0.mk (below_step (by repeat (first | (with_reducible first | exact HB.out | apply below_alloc | apply pw_below_drewN | apply below_drew1) | exact HB.out)) hb); have n1_ := Aside0.mk (hbox); have n2_ := Aside0.mk ((by rw [hg]; exact (below_size (by repeat (first | (with_reducible first | exact HB.out | apply below_alloc | apply pw_below_drewN | apply below_drew1) | exact HB.out))) : w.heap.size ≤ gb590)); have n3_ := Aside0.mk ((by rw [hg]; exact (below_size (by repeat (first | (with_reducible first | exact HB.out | apply below_alloc | apply pw_below_drewN | apply below_drew1) | exact HB.out))) : w.heap.size ≤ gb590)); clear HB; have HB := n0_; have BK590 := n1_; have GW590 := n2_; have GE590 := n3_; clear n0_ n1_ n2_ n3_; clear hb hbox hg; have hcz13_0 : w12.cell? ⟨gb590, 0, none⟩ = some (.int .i64 a0_0) := (blk_cell BK590.out 0).trans rfl; have hcz13_1 : w12.cell? ⟨gb590, 1, none⟩ = some (.slice A0_1 l0_1.length c0_1) := (blk_cell BK590.out 1).trans rfl; have hfz13_0 := blk_frozen BK590.out 0; have hfz13_1 := blk_frozen BK590.out 1) | ((with_reducible refine gate_callee (f := 15) rfl ?_); refine goesL_ (some 11) rfl rfl Try.func15 (by kernel_rfl) rfl #[.agg #[.int .i64 a0_0, .slice A0_1 l0_1.length c0_1], .int .i64 1048576] rfl (by (try simp only [List.map_toArray, List.map_cons, List.map_nil]); first | done | rfl | (simp only [List.length_drop, List.length_take]; rfl)) ?_; (with_reducible refine (laws_szPuzzle.calls a0_0 _ _ l0_1 1048576 t591 _ ?side1 ?side2 A2.out).mono ?_); (case side1 => repeat (first | exact (Kd.C_below HR0_1.out HB.out) | (with_reducible refine Kd.C_alloc ?_ _) | (with_reducible refine Kd.C_drewN ?_ _) | (with_reducible refine Kd.C_drew ?_))); (case side2 => exact HC0_1.out); rintro e w14 ⟨rfl, hb⟩; refine ⟨_, rfl, ?_⟩; have n0_ := Aside0.mk (blk_below (g := gb590) (o := .cells #[.int .i64 a0_0, .slice A0_1 l0_1.length c0_1] 24 (0, 0)) (by (with_reducible repeat (first | refine blk_drewN ?_ _ | refine blk_drew ?_ | refine blk_alloc ?_ _)); exact BK590.out) hb); have n1_ := Aside0.mk (below_step (by repeat (first | (with_reducible first | exact HB.out | apply below_alloc | apply pw_below_drewN | apply below_drew1 | refine below_set ?_ GE590.out) | exact HB.out)) hb); clear BK590; clear HB; have BK590 := n0_; have HB := n1_; clear n0_ n1_; (try clear hb); (try clear hb2); (try clear hk); (try clear hi); have hcz15_0 : w14.cell? ⟨gb590, 0, none⟩ = some (.int .i64 a0_0) := (blk_cell BK590.out 0).trans rfl; have hcz15_1 : w14.cell? ⟨gb590, 1, none⟩ = some (.slice A0_1 l0_1.length c0_1) := (blk_cell BK590.out 1).trans rfl; have hfz15_0 := blk_frozen BK590.out 0; have hfz15_1 := blk_frozen BK590.out 1) | ((with_reducible refine gate_callee (f := 17) rfl ?_); refine goesL_ (some 16) rfl rfl Try.func17 (by kernel_rfl) rfl #[.agg #[.int .i64 a0_0, .slice A0_1 l0_1.length c0_1]] rfl (by (try simp only [List.map_toArray, List.map_cons, List.map_nil]); first | done | rfl | (simp only [List.length_drop, List.length_take]; rfl)) ?_; (with_reducible refine (laws_toPuzzle.calls k a0_0 _ _ l0_1 t592 t593 _ ?side1 ?side2 A7.out).mono ?_); (case side1 => repeat (first | exact (Kd.C_below HR0_1.out HB.out) | (with_reducible refine Kd.C_alloc ?_ _) | (with_reducible refine Kd.C_drewN ?_ _) | (with_reducible refine Kd.C_drew ?_))); (case side2 => exact HC0_1.out); rintro e w16 ⟨v594, rfl, ho0, hb⟩; refine ⟨_, rfl, ?_⟩; have n0_ := Aside0.mk (Kd.R_lower ho0 (below_size (by repeat (first | (with_reducible first | exact HB.out | apply below_alloc | apply pw_below_drewN | apply below_drew1 | refine below_set ?_ GE590.out) | exact HB.out)))); have n1_ := Aside0.mk (blk_below (g := gb590) (o := .cells #[.int .i64 a0_0, .slice A0_1 l0_1.length c0_1] 24 (0, 0)) (by (with_reducible repeat (first | refine blk_drewN ?_ _ | refine blk_drew ?_ | refine blk_alloc ?_ _)); exact BK590.out) hb); have n2_ := Aside0.mk (below_step (by repeat (first | (with_reducible first | exact HB.out | apply below_alloc | apply pw_below_drewN | apply below_drew1 | refine below_set ?_ GE590.out) | exact HB.out)) hb); clear BK590; clear HB; have HO595 := n0_; have BK590 := n1_; have HB := n2_; clear n0_ n1_ n2_; (try clear hb); (try clear hb2); (try clear hk); (try clear hi); (try clear ho0); obtain ⟨Ao17, co17, eo17⟩ := Kd.R_slice HO595.out; subst eo17) | ((with_reducible refine gate_callee (f := 38) rfl ?_); refine goesL_ (some 17) rfl rfl Try.func38 (by kernel_rfl) rfl #[.agg #[.int .i64 t592, .slice Ao17 t593.length co17]] rfl (by (try simp only [List.map_toArray, List.map_cons, List.map_nil]); first | done | rfl | (simp only [List.length_drop, List.length_take]; rfl)) ?_; (with_reducible refine (spec_FirstSolution.calls k t592 _ _ t593 t596 t597 t598 t599 _ ?side1 ?side2 A8.out).mono ?_); (case side1 => repeat (first | exact (Kd.R_reads' HO595.out).2.2 | (with_reducible refine Kd.C_alloc ?_ _) | (with_reducible refine Kd.C_drewN ?_ _) | (with_reducible refine Kd.C_drew ?_))); (case side2 => exact (Kd.R_reads' HO595.out).2.1); rintro e w18 ⟨rfl, hb⟩; refine ⟨_, rfl, ?_⟩; have n0_ := Aside0.mk (Kd.R_below (by (with_reducible repeat (first | apply Kd.R_alloc | apply Kd.R_drewN | apply Kd.R_drew)); exact HO595.out) hb); have n1_ := Aside0.mk (blk_below (g := gb590) (o := .cells #[.int .i64 a0_0, .slice A0_1 l0_1.length c0_1] 24 (0, 0)) (by (with_reducible repeat (first | refine blk_drewN ?_ _ | refine blk_drew ?_ | refine blk_alloc ?_ _)); exact BK590.out) hb); have n2_ := Aside0.mk (below_step (by repeat (first | (with_reducible first | exact HB.out | apply below_alloc | apply pw_below_drewN | apply below_drew1 | refine below_set ?_ GE590.out) | exact HB.out)) hb); clear HO595; clear BK590; clear HB; have HO595 := n0_; have BK590 := n1_; have HB := n2_; clear n0_ n1_ n2_; (try clear hb); (try clear hb2); (try clear hk); (try clear hi)) | ((with_reducible refine gate_dst (N := 4) rfl ?_); refine box_event ?hg (N := 4) ?hd (cs := #[.int .i64 0, .int .i64 0, .int .i64 0]) (t := 45) ?hr ?_; (case hd => rfl); (case hg => rfl); (case hr => first | (go_simp; done) | (go_simp; rfl)); intro gb600 hg w19 hbox hb; have n0_ := Aside0.mk (Kd.R_below (by (with_reducible repeat (first | apply Kd.R_alloc | apply Kd.R_drewN | apply Kd.R_drew)); exact HO595.out) hb); have n1_ := Aside0.mk (blk_below (g := gb590) (o := .cells #[.int .i64 a0_0, .slice A0_1 l0_1.length c0_1] 24 (0, 0)) (by (with_reducible repeat (first | refine blk_drewN ?_ _ | refine blk_drew ?_ | refine blk_alloc ?_ _)); exact BK590.out) hb); have n2_ := Aside0.mk (below_step (by repeat (first | (with_reducible first | exact HB.out | apply below_alloc | apply pw_below_drewN | apply below_drew1 | refine below_set ?_ GE590.out) | exact HB.out)) hb); have n3_ := Aside0.mk (hbox); have n4_ := Aside0.mk ((by rw [hg]; exact (below_size (by repeat (first | (with_reducible first | exact HB.out | apply below_alloc | apply pw_below_drewN | apply below_drew1 | refine below_set ?_ GE590.out) | exact HB.out))) : w.heap.size ≤ gb600)); have n5_ := Aside0.mk ((by rw [hg]; exact (below_size (by repeat (first | (with_reducible first | exact HB.out | apply below_alloc | apply pw_below_drewN | apply below_drew1 | refine below_set ?_ GE590.out) | exact HB.out))) : w.heap.size ≤ gb600)); have n6_ := Aside0.mk ((by rw [hg]; exact Nat.ne_of_lt (blk_lt (g := gb590) (o := .cells #[.int .i64 a0_0, .slice A0_1 l0_1.length c0_1] 24 (0, 0)) (by (with_reducible repeat (first | refine blk_drewN ?_ _ | refine blk_drew ?_ | refine blk_alloc ?_ _)); exact BK590.out)) : gb590 ≠ gb600)); have n7_ := Aside0.mk ((by rw [hg]; exact Nat.ne_of_gt (blk_lt (g := gb590) (o := .cells #[.int .i64 a0_0, .slice A0_1 l0_1.length c0_1] 24 (0, 0)) (by (with_reducible repeat (first | refine blk_drewN ?_ _ | refine blk_drew ?_ | refine blk_alloc ?_ _)); exact BK590.out)) : gb600 ≠ gb590)); clear HO595; clear BK590; clear HB; have HO595 := n0_; have BK590 := n1_; have HB := n2_; have BK600 := n3_; have GW600 := n4_; have GE600 := n5_; have NB590_600 := n6_; have NB600_590 := n7_; clear n0_ n1_ n2_ n3_ n4_ n5_ n6_ n7_; clear hb hbox hg; have hnb20 := NB600_590.out; have hnc20 := NB590_600.out; have hcz21_0 : w19.cell? ⟨gb600, 0, none⟩ = some (.int .i64 0) := (blk_cell BK600.out 0).trans rfl; have hcz21_1 : w19.cell? ⟨gb600, 1, none⟩ = some (.int .i64 0) := (blk_cell BK600.out 1).trans rfl; have hcz21_2 : w19.cell? ⟨gb600, 2, none⟩ = some (.int .i64 0) := (blk_cell BK600.out 2).trans rfl; have hfz21_0 := blk_frozen BK600.out 0; have hfz21_1 := blk_frozen BK600.out 1; have hfz21_2 := blk_frozen BK600.out 2; have hcz22_0 : w19.cell? ⟨gb590, 0, none⟩ = some (.int .i64 a0_0) := (blk_cell BK590.out 0).trans rfl; have hcz22_1 : w19.cell? ⟨gb590, 1, none⟩ = some (.slice A0_1 l0_1.length c0_1) := (blk_cell BK590.out 1).trans rfl; have hfz22_0 := blk_frozen BK590.out 0; have hfz22_1 := blk_frozen BK590.out 1) | ((with_reducible refine gate_callee (f := 17) rfl ?_); refine goesL_ (some 21) rfl rfl Try.func17 (by kernel_rfl) rfl #[.agg #[.int .i64 a0_0, .slice A0_1 l0_1.length c0_1]] rfl (by (try simp only [List.map_toArray, List.map_cons, List.map_nil]); first | done | rfl | (simp only [List.length_drop, List.length_take]; rfl)) ?_; (with_reducible refine (laws_toPuzzle.calls k a0_0 _ _ l0_1 t601 t602 _ ?side1 ?side2 A9.out).mono ?_); (case side1 => exact Kd.C_below HR0_1.out (by repeat (first | (with_reducible first | exact HB.out | apply below_alloc | apply pw_below_drewN | apply below_drew1 | refine below_set ?_ GE590.out | refine below_set ?_ GE600.out) | exact HB.out))); (case side2 => exact HC0_1.out); rintro e w23 ⟨v603, rfl, ho0, hb⟩; refine ⟨_, rfl, ?_⟩; have n0_ := Aside0.mk (Kd.R_elder' (by (with_reducible repeat (first | apply Kd.R_alloc | apply Kd.R_drewN | apply Kd.R_drew)); exact (Kd.R_mono (Kd.R_far (p := ⟨gb600, 2, none⟩) (Kd.R_far (p := ⟨gb600, 1, none⟩) (Kd.R_far (p := ⟨gb600, 0, none⟩) (Kd.R_types HO595.out BK600.out (by decide)) (fun _ hk => hk.2) (.int .i64 t596)) (fun _ hk => hk.2) (.int .i64 t597)) (fun _ hk => hk.2) (.int .i64 t598)) (fun _ h_ => h_.1))) (Kd.R_base ho0) hb); have n1_ := Aside0.mk (Kd.R_lower (Kd.R_new' ho0 (Kd.R_lt (by (with_reducible repeat (first | apply Kd.R_alloc | apply Kd.R_drewN | apply Kd.R_drew)); exact (Kd.R_mono (Kd.R_far (p := ⟨gb600, 2, none⟩) (Kd.R_far (p := ⟨gb600, 1, none⟩) (Kd.R_far (p := ⟨gb600, 0, none⟩) (Kd.R_types HO595.out BK600.out (by decide)) (fun _ hk => hk.2) (.int .i64 t596)) (fun _ hk => hk.2) (.int .i64 t597)) (fun _ hk => hk.2) (.int .i64 t598)) (fun _ h_ => h_.1))))) (below_size (by repeat (first | (with_reducible first | exact HB.out | apply below_alloc | apply pw_below_drewN | apply below_drew1 | refine below_set ?_ GE590.out | refine below_set ?_ GE600.out) | exact HB.out)))); have n2_ := Aside0.mk (blk_below (g := gb590) (o := .cells #[.int .i64 a0_0, .slice A0_1 l0_1.length c0_1] 24 (0, 0)) (by (with_reducible repeat (first | refine blk_drewN ?_ _ | refine blk_drew ?_ | refine blk_alloc ?_ _)); refine blk_far ?_ NB590_600.out _; (with_reducible repeat (first | refine blk_drewN ?_ _ | refine blk_drew ?_ | refine blk_alloc ?_ _)); refine blk_far ?_ NB590_600.out _; (with_reducible repeat (first | refine blk_drewN ?_ _ | refine blk_drew ?_ | refine blk_alloc ?_ _)); refine blk_far ?_ NB590_600.out _; (with_reducible repeat (first | refine blk_drewN ?_ _ | refine blk_drew ?_ | refine blk_alloc ?_ _)); exact BK590.out) hb); have n3_ := Aside0.mk (blk_below (g := gb600) (o := .cells #[.int .i64 t596, .int .i64 t597, .int .i64 t598] 45 (0, 0)) (by (with_reducible repeat (first | refine blk_drewN ?_ _ | refine blk_drew ?_ | refine blk_alloc ?_ _)); refine blk_put (cs := #[.int .i64 t596, .int .i64 t597, .int .i64 0]) ?_ 2 _ rfl; (with_reducible repeat (first | refine blk_drewN ?_ _ | refine blk_drew ?_ | refine blk_alloc ?_ _)); refine blk_put (cs := #[.int .i64 t596, .int .i64 0, .int .i64 0]) ?_ 1 _ rfl; (with_reducible repeat (first | refine blk_drewN ?_ _ | refine blk_drew ?_ | refine blk_alloc ?_ _)); refine blk_put (cs := #[.int .i64 0, .int .i64 0, .int .i64 0]) ?_ 0 _ rfl; (with_reducible repeat (first | refine blk_drewN ?_ _ | refine blk_drew ?_ | refine blk_alloc ?_ _)); exact BK600.out) hb); have n4_ := Aside0.mk (below_step (by repeat (first | (with_reducible first | exact HB.out | apply below_alloc | apply pw_below_drewN | apply below_drew1 | refine below_set ?_ GE590.out | refine below_set ?_ GE600.out) | exact HB.out)) hb); clear HO595; clear BK590; clear BK600; clear HB; have HO595 := n0_; have HO604 := n1_; have BK590 := n2_; have BK600 := n3_; have HB := n4_; clear n0_ n1_ n2_ n3_ n4_; (try clear hb); (try clear hb2); (try clear hk); (try clear hi); (try clear ho0)) | ((with_reducible refine gate_dst (N := 6) rfl ?_); refine box_event ?hg (N := 6) ?hd (cs := #[.int .i64 0, .slice none 0 0]) (t := 29) ?hr ?_; (case hd => rfl); (case hg => rfl); (case hr => first | (go_simp; done) | (go_simp; rfl)); intro gb605 hg w24 hbox hb; have n0_ := Aside0.mk (Kd.R_below (by (with_reducible repeat (first | apply Kd.R_alloc | apply Kd.R_drewN | apply Kd.R_drew)); exact HO595.out) hb); have n1_ := Aside0.mk (Kd.R_below (by (with_reducible repeat (first | apply Kd.R_alloc | apply Kd.R_drewN | apply Kd.R_drew)); exact HO604.out) hb); have n2_ := Aside0.mk (blk_below (g := gb590) (o := .cells #[.int .i64 a0_0, .slice A0_1 l0_1.length c0_1] 24 (0, 0)) (by (with_reducible repeat (first | refine blk_drewN ?_ _ | refine blk_drew ?_ | refine blk_alloc ?_ _)); exact BK590.out) hb); have n3_ := Aside0.mk (blk_below (g := gb600) (o := .cells #[.int .i64 t596, .int .i64 t597, .int .i64 t598] 45 (0, 0)) (by (with_reducible repeat (first | refine blk_drewN ?_ _ | refine blk_drew ?_ | refine blk_alloc ?_ _)); exact BK600.out) hb); have n4_ := Aside0.mk (below_step (by repeat (first | (with_reducible first | exact HB.out | apply below_alloc | apply pw_below_drewN | apply below_drew1 | refine below_set ?_ GE590.out | refine below_set ?_ GE600.out) | exact HB.out)) hb); have n5_ := Aside0.mk (hbox); have n6_ := Aside0.mk ((by rw [hg]; exact (below_size (by repeat (first | (with_reducible first | exact HB.out | apply below_alloc | apply pw_below_drewN | apply below_drew1 | refine below_set ?_ GE590.out | refine below_set ?_ GE600.out) | exact HB.out))) : w.heap.size ≤ gb605)); have n7_ := Aside0.mk ((by rw [hg]; exact (below_size (by repeat (first | (with_reducible first | exact HB.out | apply below_alloc | apply pw_below_drewN | apply below_drew1 | refine below_set ?_ GE590.out | refine below_set ?_ GE600.out) | exact HB.out))) : w.heap.size ≤ gb605)); have n8_ := Aside0.mk ((by rw [hg]; exact Nat.ne_of_lt (blk_lt (g := gb590) (o := .cells #[.int .i64 a0_0, .slice A0_1 l0_1.length c0_1] 24 (0, 0)) (by (with_reducible repeat (first | refine blk_drewN ?_ _ | refine blk_drew ?_ | refine blk_alloc ?_ _)); exact BK590.out)) : gb590 ≠ gb605)); have n9_ := Aside0.mk ((by rw [hg]; exact Nat.ne_of_gt (blk_lt (g := gb590) (o := .cells #[.int .i64 a0_0, .slice A0_1 l0_1.length c0_1] 24 (0, 0)) (by (with_reducible repeat (first | refine blk_drewN ?_ _ | refine blk_drew ?_ | refine blk_alloc ?_ _)); exact BK590.out)) : gb605 ≠ gb590)); have n10_ := Aside0.mk ((by rw [hg]; exact Nat.ne_of_lt (blk_lt (g := gb600) (o := .cells #[.int .i64 t596, .int .i64 t597, .int .i64 t598] 45 (0, 0)) (by (with_reducible repeat (first | refine blk_drewN ?_ _ | refine blk_drew ?_ | refine blk_alloc ?_ _)); exact BK600.out)) : gb600 ≠ gb605)); have n11_ := Aside0.mk ((by rw [hg]; exact Nat.ne_of_gt (blk_lt (g := gb600) (o := .cells #[.int .i64 t596, .int .i64 t597, .int .i64 t598] 45 (0, 0)) (by (with_reducible repeat (first | refine blk_drewN ?_ _ | refine blk_drew ?_ | refine blk_alloc ?_ _)); exact BK600.out)) : gb605 ≠ gb600)); clear HO595; clear HO604; clear BK590; clear BK600; clear HB; have HO595 := n0_; have HO604 := n1_; have BK590 := n2_; have BK600 := n3_; have HB := n4_; have BK605 := n5_; have GW605 := n6_; have GE605 := n7_; have NB590_605 := n8_; have NB605_590 := n9_; have NB600_605 := n10_; have NB605_600 := n11_; clear n0_ n1_ n2_ n3_ n4_ n5_ n6_ n7_ n8_ n9_ n10_ n11_; clear hb hbox hg; have hnb25 := NB605_590.out; have hnc25 := NB590_605.out; have hnb26 := NB605_600.out; have hnc26 := NB600_605.out; have hcz27_0 : w24.cell? ⟨gb605, 0, none⟩ = some (.int .i64 0) := (blk_cell BK605.out 0).trans rfl; have hcz27_1 : w24.cell? ⟨gb605, 1, none⟩ = some (.slice none 0 0) := (blk_cell BK605.out 1).trans rfl; have hfz27_0 := blk_frozen BK605.out 0; have hfz27_1 := blk_frozen BK605.out 1; obtain ⟨Ao28, co28, eo28⟩ := Kd.R_slice HO604.out; subst eo28) | ((with_reducible refine gate_callee (f := 39) rfl ?_); refine goesL_ (some 24) rfl rfl Try.func39 (by kernel_rfl) rfl #[.agg #[.int .i64 t601, .slice Ao28 t602.length co28]] rfl (by (try simp only [List.map_toArray, List.map_cons, List.map_nil]); first | done | rfl | (simp only [List.length_drop, List.length_take]; rfl)) ?_; (with_reducible refine (impl_FirstSolution.calls k t601 _ _ t602 t606 t607 t608 t609 _ ?side1 ?side2 A10.out).mono ?_); (case side1 => refine (Kd.R_reads' (e := 37) (base := w.heap.size) (ok := fun k_ => (True ∧ some k_ ≠ (.slice Ao17 t593.length co17 : Value).ownBlock)) (n := t602.length) (c := co28) ?_).2.2; exact (by (with_reducible repeat (first | apply Kd.R_alloc | apply Kd.R_drewN | apply Kd.R_drew)); exact (Kd.R_mono (Kd.R_far (p := ⟨gb605, 1, none⟩) (Kd.R_far (p := ⟨gb605, 0, none⟩) (Kd.R_types HO604.out BK605.out (by decide)) (fun _ hk => hk.2) (.int .i64 t601)) (fun _ hk => hk.2) (.slice Ao28 t602.length co28)) (fun _ h_ => h_.1)))); (case side2 => exact (Kd.R_reads' HO604.out).2.1); rintro e w29 ⟨rfl, hb⟩; refine ⟨_, rfl, ?_⟩; have n0_ := Aside0.mk (Kd.R_below (by (with_reducible repeat (first | apply Kd.R_alloc | apply Kd.R_drewN | apply Kd.R_drew)); exact (Kd.R_mono (Kd.R_far (p := ⟨gb605, 1, none⟩) (Kd.R_far (p := ⟨gb605, 0, none⟩) (Kd.R_types HO595.out BK605.out (by decide)) (fun _ hk => hk.2) (.int .i64 t601)) (fun _ hk => hk.2) (.slice Ao28 t602.length co28)) (fun _ h_ => h_.1))) hb); have n1_ := Aside0.mk (Kd.R_below (by (with_reducible repeat (first | apply Kd.R_alloc | apply Kd.R_drewN | apply Kd.R_drew)); exact (Kd.R_mono (Kd.R_far (p := ⟨gb605, 1, none⟩) (Kd.R_far (p := ⟨gb605, 0, none⟩) (Kd.R_types HO604.out BK605.out (by decide)) (fun _ hk => hk.2) (.int .i64 t601)) (fun _ hk => hk.2) (.slice Ao28 t602.length co28)) (fun _ h_ => h_.1))) hb); have n2_ := Aside0.mk (blk_below (g := gb590) (o := .cells #[.int .i64 a0_0, .slice A0_1 l0_1.length c0_1] 24 (0, 0)) (by (with_reducible repeat (first | refine blk_drewN ?_ _ | refine blk_drew ?_ | refine blk_alloc ?_ _)); refine blk_far ?_ NB590_605.out _; (with_reducible repeat (first | refine blk_drewN ?_ _ | refine blk_drew ?_ | refine blk_alloc ?_ _)); refine blk_far ?_ NB590_605.out _; (with_reducible repeat (first | refine blk_drewN ?_ _ | refine blk_drew ?_ | refine blk_alloc ?_ _)); exact BK590.out) hb); have n3_ := Aside0.mk (blk_below (g := gb600) (o := .cells #[.int .i64 t596, .int .i64 t597, .int .i64 t598] 45 (0, 0)) (by (with_reducible repeat (first | refine blk_drewN ?_ _ | refine blk_drew ?_ | refine blk_alloc ?_ _)); refine blk_far ?_ NB600_605.out _; (with_reducible repeat (first | refine blk_drewN ?_ _ | refine blk_drew ?_ | refine blk_alloc ?_ _)); refine blk_far ?_ NB600_605.out _; (with_reducible repeat (first | refine blk_drewN ?_ _ | refine blk_drew ?_ | refine blk_alloc ?_ _)); exact BK600.out) hb); have n4_ := Aside0.mk (blk_below (g := gb605) (o := .cells #[.int .i64 t601, .slice Ao28 t602.length co28] 29 (0, 0)) (by (with_reducible repeat (first | refine blk_drewN ?_ _ | refine blk_drew ?_ | refine blk_alloc ?_ _)); refine blk_put (cs := #[.int .i64 t601, .slice none 0 0]) ?_ 1 _ rfl; (with_reducible repeat (first | refine blk_drewN ?_ _ | refine blk_drew ?_ | refine blk_alloc ?_ _)); refine blk_put (cs := #[.int .i64 0, .slice none 0 0]) ?_ 0 _ rfl; (with_reducible repeat (first | refine blk_drewN ?_ _ | refine blk_drew ?_ | refine blk_alloc ?_ _)); exact BK605.out) hb); have n5_ := Aside0.mk (below_step (by repeat (first | (with_reducible first | exact HB.out | apply below_alloc | apply pw_below_drewN | apply below_drew1 | refine below_set ?_ GE590.out | refine below_set ?_ GE600.out | refine below_set ?_ GE605.out) | exact HB.out)) hb); clear HO595; clear HO604; clear BK590; clear BK600; clear BK605; clear HB; have HO595 := n0_; have HO604 := n1_; have BK590 := n2_; have BK600 := n3_; have BK605 := n4_; have HB := n5_; clear n0_ n1_ n2_ n3_ n4_ n5_; (try clear hb); (try clear hb2); (try clear hk); (try clear hi)) | ((with_reducible refine gate_dst (N := 7) rfl ?_); refine box_event ?hg (N := 7) ?hd (cs := #[.int .i64 0, .int .i64 0, .int .i64 0]) (t := 45) ?hr ?_; (case hd => rfl); (case hg => rfl); (case hr => first | (go_simp; done) | (go_simp; rfl)); intro gb610 hg w30 hbox hb; have n0_ := Aside0.mk (Kd.R_below (by (with_reducible repeat (first | apply Kd.R_alloc | apply Kd.R_drewN | apply Kd.R_drew)); exact HO595.out) hb); have n1_ := Aside0.mk (Kd.R_below (by (with_reducible repeat (first | apply Kd.R_alloc | apply Kd.R_drewN | apply Kd.R_drew)); exact HO604.out) hb); have n2_ := Aside0.mk (blk_below (g := gb590) (o := .cells #[.int .i64 a0_0, .slice A0_1 l0_1.length c0_1] 24 (0, 0)) (by (with_reducible repeat (first | refine blk_drewN ?_ _ | refine blk_drew ?_ | refine blk_alloc ?_ _)); exact BK590.out) hb); have n3_ := Aside0.mk (blk_below (g := gb600) (o := .cells #[.int .i64 t596, .int .i64 t597, .int .i64 t598] 45 (0, 0)) (by (with_reducible repeat (first | refine blk_drewN ?_ _ | refine blk_drew ?_ | refine blk_alloc ?_ _)); exact BK600.out) hb); have n4_ := Aside0.mk (blk_below (g := gb605) (o := .cells #[.int .i64 t601, .slice Ao28 t602.length co28] 29 (0, 0)) (by (with_reducible repeat (first | refine blk_drewN ?_ _ | refine blk_drew ?_ | refine blk_alloc ?_ _)); exact BK605.out) hb); have n5_ := Aside0.mk (below_step (by repeat (first | (with_reducible first | exact HB.out | apply below_alloc | apply pw_below_drewN | apply below_drew1 | refine below_set ?_ GE590.out | refine below_set ?_ GE600.out | refine below_set ?_ GE605.out) | exact HB.out)) hb); have n6_ := Aside0.mk (hbox); have n7_ := Aside0.mk ((by rw [hg]; exact (below_size (by repeat (first | (with_reducible first | exact HB.out | apply below_alloc | apply pw_below_drewN | apply below_drew1 | refine below_set ?_ GE590.out | refine below_set ?_ GE600.out | refine below_set ?_ GE605.out) | exact HB.out))) : w.heap.size ≤ gb610)); have n8_ := Aside0.mk ((by rw [hg]; exact (below_size (by repeat (first | (with_reducible first | exact HB.out | apply below_alloc | apply pw_below_drewN | apply below_drew1 | refine below_set ?_ GE590.out | refine below_set ?_ GE600.out | refine below_set ?_ GE605.out) | exact HB.out))) : w.heap.size ≤ gb610)); have n9_ := Aside0.mk ((by rw [hg]; exact Nat.ne_of_lt (blk_lt (g := gb590) (o := .cells #[.int .i64 a0_0, .slice A0_1 l0_1.length c0_1] 24 (0, 0)) (by (with_reducible repeat (first | refine blk_drewN ?_ _ | refine blk_drew ?_ | refine blk_alloc ?_ _)); exact BK590.out)) : gb590 ≠ gb610)); have n10_ := Aside0.mk ((by rw [hg]; exact Nat.ne_of_gt (blk_lt (g := gb590) (o := .cells #[.int .i64 a0_0, .slice A0_1 l0_1.length c0_1] 24 (0, 0)) (by (with_reducible repeat (first | refine blk_drewN ?_ _ | refine blk_drew ?_ | refine blk_alloc ?_ _)); exact BK590.out)) : gb610 ≠ gb590)); have n11_ := Aside0.mk ((by rw [hg]; exact Nat.ne_of_lt (blk_lt (g := gb600) (o := .cells #[.int .i64 t596, .int .i64 t597, .int .i64 t598] 45 (0, 0)) (by (with_reducible repeat (first | refine blk_drewN ?_ _ | refine blk_drew ?_ | refine blk_alloc ?_ _)); exact BK600.out)) : gb600 ≠ gb610)); have n12_ := Aside0.mk ((by rw [hg]; exact Nat.ne_of_gt (blk_lt (g := gb600) (o := .cells #[.int .i64 t596, .int .i64 t597, .int .i64 t598] 45 (0, 0)) (by (with_reducible repeat (first | refine blk_drewN ?_ _ | refine blk_drew ?_ | refine blk_alloc ?_ _)); exact BK600.out)) : gb610 ≠ gb600)); have n13_ := Aside0.mk ((by rw [hg]; exact Nat.ne_of_lt (blk_lt (g := gb605) (o := .cells #[.int .i64 t601, .slice Ao28 t602.length co28] 29 (0, 0)) (by (with_reducible repeat (first | refine blk_drewN ?_ _ | refine blk_drew ?_ | refine blk_alloc ?_ _)); exact BK605.out)) : gb605 ≠ gb610)); have n14_ := Aside0.mk ((by rw [hg]; exact Nat.ne_of_gt (blk_lt (g := gb605) (o := .cells #[.int .i64 t601, .slice Ao28 t602.length co28] 29 (0, 0)) (by (with_reducible repeat (first | refine blk_drewN ?_ _ | refine blk_drew ?_ | refine blk_alloc ?_ _)); exact BK605.out)) : gb610 ≠ gb605)); clear HO595; clear HO604; clear BK590; clear BK600; clear BK605; clear HB; have HO595 := n0_; have HO604 := n1_; have BK590 := n2_; have BK600 := n3_; have BK605 := n4_; have HB := n5_; have BK610 := n6_; have GW610 := n7_; have GE610 := n8_; have NB590_610 := n9_; have NB610_590 := n10_; have NB600_610 := n11_; have NB610_600 := n12_; have NB605_610 := n13_; have NB610_605 := n14_; clear n0_ n1_ n2_ n3_ n4_ n5_ n6_ n7_ n8_ n9_ n10_ n11_ n12_ n13_ n14_; clear hb hbox hg; have hnb31 := NB610_590.out; have hnc31 := NB590_610.out; have hnb32 := NB610_600.out; have hnc32 := NB600_610.out; have hnb33 := NB610_605.out; have hnc33 := NB605_610.out; have hcz34_0 : w30.cell? ⟨gb610, 0, none⟩ = some (.int .i64 0) := (blk_cell BK610.out 0).trans rfl; have hcz34_1 : w30.cell? ⟨gb610, 1, none⟩ = some (.int .i64 0) := (blk_cell BK610.out 1).trans rfl; have hcz34_2 : w30.cell? ⟨gb610, 2, none⟩ = some (.int .i64 0) := (blk_cell BK610.out 2).trans rfl; have hfz34_0 := blk_frozen BK610.out 0; have hfz34_1 := blk_frozen BK610.out 1; have hfz34_2 := blk_frozen BK610.out 2))
    (try simp only [Act.put, List.setIfInBounds_toArray, List.set_cons_zero, List.set_cons_succ])
    go_cut [35] (fun v35 wc => ∃ (kq : Nat) (x35_10 : Bool), v35 = .bool x35_10 ∧ Aside0 (laws_FnExactFirstSolution.j0 kq x35_10 a0_0 l0_1 t601 t602 = some r) ∧ Aside0 (kq ≤ k) ∧ Aside0 (Kd.R k37 37 wc w.heap.size (fun _ => True) (.slice Ao28 t602.length co28) t602) ∧ Aside0 (wc.heap[gb590]? = some (.cells #[.int .i64 a0_0, (.slice A0_1 l0_1.length c0_1)] 24 (0, 0))) ∧ Aside0 (wc.heap[gb600]? = some (.cells #[.int .i64 t596, .int .i64 t597, .int .i64 t598] 45 (0, 0))) ∧ Aside0 (wc.heap[gb605]? = some (.cells #[.int .i64 t601, (.slice Ao28 t602.length co28)] 29 (0, 0))) ∧ Aside0 (wc.heap[gb610]? = some (.cells #[.int .i64 t606, .int .i64 t607, .int .i64 t608] 45 (0, 0))) ∧ Aside0 (Below w.heap.size w wc))
    case first =>
      have H := HC11.out
      clear HC11
      replace H := Option.bind_eq_some_iff.mp H
      obtain ⟨t611, A350, H⟩ := H
      replace H : (if t611 = true then (laws_FnExactFirstSolution.j0 k (t609 != t599) a0_0 l0_1 t601 t602) else (laws_FnExactFirstSolution.j0 k true a0_0 l0_1 t601 t602)) = some r := H
      have A35 := Aside0.mk A350
      clear A350
      by_cases c36 : t611 = true
      · subst c36
        have H1 : (laws_FnExactFirstSolution.j0 k (t609 != t599) a0_0 l0_1 t601 t602) = some r := by rw [if_pos rfl] at H; exact H
        clear H
        have H := H1
        clear H1
        have H' := Aside0.mk H
        clear H
        have hnb37 := NB610_590.out
        have hnc37 := NB590_610.out
        have hnb38 := NB610_600.out
        have hnc38 := NB600_610.out
        have hnb39 := NB610_605.out
        have hnc39 := NB605_610.out
        have hcz40_0 : w30.cell? ⟨gb610, 0, none⟩ = some (.int .i64 0) := (blk_cell BK610.out 0).trans rfl
        have hcz40_1 : w30.cell? ⟨gb610, 1, none⟩ = some (.int .i64 0) := (blk_cell BK610.out 1).trans rfl
        have hcz40_2 : w30.cell? ⟨gb610, 2, none⟩ = some (.int .i64 0) := (blk_cell BK610.out 2).trans rfl
        have hfz40_0 := blk_frozen BK610.out 0
        have hfz40_1 := blk_frozen BK610.out 1
        have hfz40_2 := blk_frozen BK610.out 2
        have hnb41 := NB600_590.out
        have hnc41 := NB590_600.out
        have hnb42 := NB600_605.out
        have hnc42 := NB605_600.out
        have hcz43_0 : w30.cell? ⟨gb600, 0, none⟩ = some (.int .i64 t596) := (blk_cell BK600.out 0).trans rfl
        have hcz43_1 : w30.cell? ⟨gb600, 1, none⟩ = some (.int .i64 t597) := (blk_cell BK600.out 1).trans rfl
        have hcz43_2 : w30.cell? ⟨gb600, 2, none⟩ = some (.int .i64 t598) := (blk_cell BK600.out 2).trans rfl
        have hfz43_0 := blk_frozen BK600.out 0
        have hfz43_1 := blk_frozen BK600.out 1
        have hfz43_2 := blk_frozen BK600.out 2
        go_wp2_with (first | ((with_reducible refine gate_callee (f := 40) rfl ?_); refine goesL_ (some 29) rfl rfl Try.func40 (by kernel_rfl) rfl #[.agg #[.int .i64 t606, .int .i64 t607, .int .i64 t608], .agg #[.int .i64 t596, .int .i64 t597, .int .i64 t598]] rfl (by (try simp only [List.map_toArray, List.map_cons, List.map_nil]); first | done | rfl | (simp only [List.length_drop, List.length_take]; rfl)) ?_; (with_reducible refine (laws_eqLadders.calls t606 t607 t608 t596 t597 t598 true _ A35.out).mono ?_); rintro e w44 ⟨rfl, hb⟩; refine ⟨_, rfl, ?_⟩; have n0_ := Aside0.mk (Kd.R_below (by (with_reducible repeat (first | apply Kd.R_alloc | apply Kd.R_drewN | apply Kd.R_drew)); exact (Kd.R_mono (Kd.R_far (p := ⟨gb610, 2, none⟩) (Kd.R_far (p := ⟨gb610, 1, none⟩) (Kd.R_far (p := ⟨gb610, 0, none⟩) (Kd.R_types HO595.out BK610.out (by decide)) (fun _ hk => hk.2) (.int .i64 t606)) (fun _ hk => hk.2) (.int .i64 t607)) (fun _ hk => hk.2) (.int .i64 t608)) (fun _ h_ => h_.1))) hb); have n1_ := Aside0.mk (Kd.R_below (by (with_reducible repeat (first | apply Kd.R_alloc | apply Kd.R_drewN | apply Kd.R_drew)); exact (Kd.R_mono (Kd.R_far (p := ⟨gb610, 2, none⟩) (Kd.R_far (p := ⟨gb610, 1, none⟩) (Kd.R_far (p := ⟨gb610, 0, none⟩) (Kd.R_types HO604.out BK610.out (by decide)) (fun _ hk => hk.2) (.int .i64 t606)) (fun _ hk => hk.2) (.int .i64 t607)) (fun _ hk => hk.2) (.int .i64 t608)) (fun _ h_ => h_.1))) hb); have n2_ := Aside0.mk (blk_below (g := gb590) (o := .cells #[.int .i64 a0_0, .slice A0_1 l0_1.length c0_1] 24 (0, 0)) (by (with_reducible repeat (first | refine blk_drewN ?_ _ | refine blk_drew ?_ | refine blk_alloc ?_ _)); refine blk_far ?_ NB590_610.out _; (with_reducible repeat (first | refine blk_drewN ?_ _ | refine blk_drew ?_ | refine blk_alloc ?_ _)); refine blk_far ?_ NB590_610.out _; (with_reducible repeat (first | refine blk_drewN ?_ _ | refine blk_drew ?_ | refine blk_alloc ?_ _)); refine blk_far ?_ NB590_610.out _; (with_reducible repeat (first | refine blk_drewN ?_ _ | refine blk_drew ?_ | refine blk_alloc ?_ _)); exact BK590.out) hb); have n3_ := Aside0.mk (blk_below (g := gb600) (o := .cells #[.int .i64 t596, .int .i64 t597, .int .i64 t598] 45 (0, 0)) (by (with_reducible repeat (first | refine blk_drewN ?_ _ | refine blk_drew ?_ | refine blk_alloc ?_ _)); refine blk_far ?_ NB600_610.out _; (with_reducible repeat (first | refine blk_drewN ?_ _ | refine blk_drew ?_ | refine blk_alloc ?_ _)); refine blk_far ?_ NB600_610.out _; (with_reducible repeat (first | refine blk_drewN ?_ _ | refine blk_drew ?_ | refine blk_alloc ?_ _)); refine blk_far ?_ NB600_610.out _; (with_reducible repeat (first | refine blk_drewN ?_ _ | refine blk_drew ?_ | refine blk_alloc ?_ _)); exact BK600.out) hb); have n4_ := Aside0.mk (blk_below (g := gb605) (o := .cells #[.int .i64 t601, .slice Ao28 t602.length co28] 29 (0, 0)) (by (with_reducible repeat (first | refine blk_drewN ?_ _ | refine blk_drew ?_ | refine blk_alloc ?_ _)); refine blk_far ?_ NB605_610.out _; (with_reducible repeat (first | refine blk_drewN ?_ _ | refine blk_drew ?_ | refine blk_alloc ?_ _)); refine blk_far ?_ NB605_610.out _; (with_reducible repeat (first | refine blk_drewN ?_ _ | refine blk_drew ?_ | refine blk_alloc ?_ _)); refine blk_far ?_ NB605_610.out _; (with_reducible repeat (first | refine blk_drewN ?_ _ | refine blk_drew ?_ | refine blk_alloc ?_ _)); exact BK605.out) hb); have n5_ := Aside0.mk (blk_below (g := gb610) (o := .cells #[.int .i64 t606, .int .i64 t607, .int .i64 t608] 45 (0, 0)) (by (with_reducible repeat (first | refine blk_drewN ?_ _ | refine blk_drew ?_ | refine blk_alloc ?_ _)); refine blk_put (cs := #[.int .i64 t606, .int .i64 t607, .int .i64 0]) ?_ 2 _ rfl; (with_reducible repeat (first | refine blk_drewN ?_ _ | refine blk_drew ?_ | refine blk_alloc ?_ _)); refine blk_put (cs := #[.int .i64 t606, .int .i64 0, .int .i64 0]) ?_ 1 _ rfl; (with_reducible repeat (first | refine blk_drewN ?_ _ | refine blk_drew ?_ | refine blk_alloc ?_ _)); refine blk_put (cs := #[.int .i64 0, .int .i64 0, .int .i64 0]) ?_ 0 _ rfl; (with_reducible repeat (first | refine blk_drewN ?_ _ | refine blk_drew ?_ | refine blk_alloc ?_ _)); exact BK610.out) hb); have n6_ := Aside0.mk (below_step (by repeat (first | (with_reducible first | exact HB.out | apply below_alloc | apply pw_below_drewN | apply below_drew1 | refine below_set ?_ GE590.out | refine below_set ?_ GE600.out | refine below_set ?_ GE605.out | refine below_set ?_ GE610.out) | exact HB.out)) hb); clear HO595; clear HO604; clear BK590; clear BK600; clear BK605; clear BK610; clear HB; have HO595 := n0_; have HO604 := n1_; have BK590 := n2_; have BK600 := n3_; have BK605 := n4_; have BK610 := n5_; have HB := n6_; clear n0_ n1_ n2_ n3_ n4_ n5_ n6_; (try clear hb); (try clear hb2); (try clear hk); (try clear hi)))
        go_meet
        case rel => exact ⟨_, ((t609 != t599)), (by first | rfl | (simp; done) | (simp [*]; done)), H', ⟨by first | omega | exact Nat.le_refl _⟩, ⟨by (with_reducible repeat (first | apply Kd.R_alloc | apply Kd.R_drewN | apply Kd.R_drew)); exact Kd.R_mono HO604.out (fun _ hk => trivial)⟩, ⟨by (with_reducible repeat (first | refine blk_drewN ?_ _ | refine blk_drew ?_ | refine blk_alloc ?_ _)); exact BK590.out⟩, ⟨by (with_reducible repeat (first | refine blk_drewN ?_ _ | refine blk_drew ?_ | refine blk_alloc ?_ _)); exact BK600.out⟩, ⟨by (with_reducible repeat (first | refine blk_drewN ?_ _ | refine blk_drew ?_ | refine blk_alloc ?_ _)); exact BK605.out⟩, ⟨by (with_reducible repeat (first | refine blk_drewN ?_ _ | refine blk_drew ?_ | refine blk_alloc ?_ _)); exact BK610.out⟩, ⟨by repeat (first | (with_reducible first | exact HB.out | apply below_alloc | apply pw_below_drewN | apply below_drew1 | refine below_set ?_ GE590.out | refine below_set ?_ GE600.out | refine below_set ?_ GE605.out | refine below_set ?_ GE610.out) | exact HB.out)⟩⟩
      · replace c36 := Bool.eq_false_iff.mpr c36
        subst c36
        have H1 : (laws_FnExactFirstSolution.j0 k true a0_0 l0_1 t601 t602) = some r := by rw [if_neg (show ¬ (false = true) by decide)] at H; exact H
        clear H
        have H := H1
        clear H1
        have H' := Aside0.mk H
        clear H
        have hnb45 := NB610_590.out
        have hnc45 := NB590_610.out
        have hnb46 := NB610_600.out
        have hnc46 := NB600_610.out
        have hnb47 := NB610_605.out
        have hnc47 := NB605_610.out
        have hcz48_0 : w30.cell? ⟨gb610, 0, none⟩ = some (.int .i64 0) := (blk_cell BK610.out 0).trans rfl
        have hcz48_1 : w30.cell? ⟨gb610, 1, none⟩ = some (.int .i64 0) := (blk_cell BK610.out 1).trans rfl
        have hcz48_2 : w30.cell? ⟨gb610, 2, none⟩ = some (.int .i64 0) := (blk_cell BK610.out 2).trans rfl
        have hfz48_0 := blk_frozen BK610.out 0
        have hfz48_1 := blk_frozen BK610.out 1
        have hfz48_2 := blk_frozen BK610.out 2
        have hnb49 := NB600_590.out
        have hnc49 := NB590_600.out
        have hnb50 := NB600_605.out
        have hnc50 := NB605_600.out
        have hcz51_0 : w30.cell? ⟨gb600, 0, none⟩ = some (.int .i64 t596) := (blk_cell BK600.out 0).trans rfl
        have hcz51_1 : w30.cell? ⟨gb600, 1, none⟩ = some (.int .i64 t597) := (blk_cell BK600.out 1).trans rfl
        have hcz51_2 : w30.cell? ⟨gb600, 2, none⟩ = some (.int .i64 t598) := (blk_cell BK600.out 2).trans rfl
        have hfz51_0 := blk_frozen BK600.out 0
        have hfz51_1 := blk_frozen BK600.out 1
        have hfz51_2 := blk_frozen BK600.out 2
        go_wp2_with (first | ((with_reducible refine gate_callee (f := 40) rfl ?_); refine goesL_ (some 29) rfl rfl Try.func40 (by kernel_rfl) rfl #[.agg #[.int .i64 t606, .int .i64 t607, .int .i64 t608], .agg #[.int .i64 t596, .int .i64 t597, .int .i64 t598]] rfl (by (try simp only [List.map_toArray, List.map_cons, List.map_nil]); first | done | rfl | (simp only [List.length_drop, List.length_take]; rfl)) ?_; (with_reducible refine (laws_eqLadders.calls t606 t607 t608 t596 t597 t598 false _ A35.out).mono ?_); rintro e w52 ⟨rfl, hb⟩; refine ⟨_, rfl, ?_⟩; have n0_ := Aside0.mk (Kd.R_below (by (with_reducible repeat (first | apply Kd.R_alloc | apply Kd.R_drewN | apply Kd.R_drew)); exact (Kd.R_mono (Kd.R_far (p := ⟨gb610, 2, none⟩) (Kd.R_far (p := ⟨gb610, 1, none⟩) (Kd.R_far (p := ⟨gb610, 0, none⟩) (Kd.R_types HO595.out BK610.out (by decide)) (fun _ hk => hk.2) (.int .i64 t606)) (fun _ hk => hk.2) (.int .i64 t607)) (fun _ hk => hk.2) (.int .i64 t608)) (fun _ h_ => h_.1))) hb); have n1_ := Aside0.mk (Kd.R_below (by (with_reducible repeat (first | apply Kd.R_alloc | apply Kd.R_drewN | apply Kd.R_drew)); exact (Kd.R_mono (Kd.R_far (p := ⟨gb610, 2, none⟩) (Kd.R_far (p := ⟨gb610, 1, none⟩) (Kd.R_far (p := ⟨gb610, 0, none⟩) (Kd.R_types HO604.out BK610.out (by decide)) (fun _ hk => hk.2) (.int .i64 t606)) (fun _ hk => hk.2) (.int .i64 t607)) (fun _ hk => hk.2) (.int .i64 t608)) (fun _ h_ => h_.1))) hb); have n2_ := Aside0.mk (blk_below (g := gb590) (o := .cells #[.int .i64 a0_0, .slice A0_1 l0_1.length c0_1] 24 (0, 0)) (by (with_reducible repeat (first | refine blk_drewN ?_ _ | refine blk_drew ?_ | refine blk_alloc ?_ _)); refine blk_far ?_ NB590_610.out _; (with_reducible repeat (first | refine blk_drewN ?_ _ | refine blk_drew ?_ | refine blk_alloc ?_ _)); refine blk_far ?_ NB590_610.out _; (with_reducible repeat (first | refine blk_drewN ?_ _ | refine blk_drew ?_ | refine blk_alloc ?_ _)); refine blk_far ?_ NB590_610.out _; (with_reducible repeat (first | refine blk_drewN ?_ _ | refine blk_drew ?_ | refine blk_alloc ?_ _)); exact BK590.out) hb); have n3_ := Aside0.mk (blk_below (g := gb600) (o := .cells #[.int .i64 t596, .int .i64 t597, .int .i64 t598] 45 (0, 0)) (by (with_reducible repeat (first | refine blk_drewN ?_ _ | refine blk_drew ?_ | refine blk_alloc ?_ _)); refine blk_far ?_ NB600_610.out _; (with_reducible repeat (first | refine blk_drewN ?_ _ | refine blk_drew ?_ | refine blk_alloc ?_ _)); refine blk_far ?_ NB600_610.out _; (with_reducible repeat (first | refine blk_drewN ?_ _ | refine blk_drew ?_ | refine blk_alloc ?_ _)); refine blk_far ?_ NB600_610.out _; (with_reducible repeat (first | refine blk_drewN ?_ _ | refine blk_drew ?_ | refine blk_alloc ?_ _)); exact BK600.out) hb); have n4_ := Aside0.mk (blk_below (g := gb605) (o := .cells #[.int .i64 t601, .slice Ao28 t602.length co28] 29 (0, 0)) (by (with_reducible repeat (first | refine blk_drewN ?_ _ | refine blk_drew ?_ | refine blk_alloc ?_ _)); refine blk_far ?_ NB605_610.out _; (with_reducible repeat (first | refine blk_drewN ?_ _ | refine blk_drew ?_ | refine blk_alloc ?_ _)); refine blk_far ?_ NB605_610.out _; (with_reducible repeat (first | refine blk_drewN ?_ _ | refine blk_drew ?_ | refine blk_alloc ?_ _)); refine blk_far ?_ NB605_610.out _; (with_reducible repeat (first | refine blk_drewN ?_ _ | refine blk_drew ?_ | refine blk_alloc ?_ _)); exact BK605.out) hb); have n5_ := Aside0.mk (blk_below (g := gb610) (o := .cells #[.int .i64 t606, .int .i64 t607, .int .i64 t608] 45 (0, 0)) (by (with_reducible repeat (first | refine blk_drewN ?_ _ | refine blk_drew ?_ | refine blk_alloc ?_ _)); refine blk_put (cs := #[.int .i64 t606, .int .i64 t607, .int .i64 0]) ?_ 2 _ rfl; (with_reducible repeat (first | refine blk_drewN ?_ _ | refine blk_drew ?_ | refine blk_alloc ?_ _)); refine blk_put (cs := #[.int .i64 t606, .int .i64 0, .int .i64 0]) ?_ 1 _ rfl; (with_reducible repeat (first | refine blk_drewN ?_ _ | refine blk_drew ?_ | refine blk_alloc ?_ _)); refine blk_put (cs := #[.int .i64 0, .int .i64 0, .int .i64 0]) ?_ 0 _ rfl; (with_reducible repeat (first | refine blk_drewN ?_ _ | refine blk_drew ?_ | refine blk_alloc ?_ _)); exact BK610.out) hb); have n6_ := Aside0.mk (below_step (by repeat (first | (with_reducible first | exact HB.out | apply below_alloc | apply pw_below_drewN | apply below_drew1 | refine below_set ?_ GE590.out | refine below_set ?_ GE600.out | refine below_set ?_ GE605.out | refine below_set ?_ GE610.out) | exact HB.out)) hb); clear HO595; clear HO604; clear BK590; clear BK600; clear BK605; clear BK610; clear HB; have HO595 := n0_; have HO604 := n1_; have BK590 := n2_; have BK600 := n3_; have BK605 := n4_; have BK610 := n5_; have HB := n6_; clear n0_ n1_ n2_ n3_ n4_ n5_ n6_; (try clear hb); (try clear hb2); (try clear hk); (try clear hi)))
        go_meet
        case rel => exact ⟨_, (true), (by first | rfl | (simp; done) | (simp [*]; done)), H', ⟨by first | omega | exact Nat.le_refl _⟩, ⟨by (with_reducible repeat (first | apply Kd.R_alloc | apply Kd.R_drewN | apply Kd.R_drew)); exact Kd.R_mono HO604.out (fun _ hk => trivial)⟩, ⟨by (with_reducible repeat (first | refine blk_drewN ?_ _ | refine blk_drew ?_ | refine blk_alloc ?_ _)); exact BK590.out⟩, ⟨by (with_reducible repeat (first | refine blk_drewN ?_ _ | refine blk_drew ?_ | refine blk_alloc ?_ _)); exact BK600.out⟩, ⟨by (with_reducible repeat (first | refine blk_drewN ?_ _ | refine blk_drew ?_ | refine blk_alloc ?_ _)); exact BK605.out⟩, ⟨by (with_reducible repeat (first | refine blk_drewN ?_ _ | refine blk_drew ?_ | refine blk_alloc ?_ _)); exact BK610.out⟩, ⟨by repeat (first | (with_reducible first | exact HB.out | apply below_alloc | apply pw_below_drewN | apply below_drew1 | refine below_set ?_ GE590.out | refine below_set ?_ GE600.out | refine below_set ?_ GE605.out | refine below_set ?_ GE610.out) | exact HB.out)⟩⟩
    case rest =>
      clear HC11
      try clear c1
      try clear c2
      try clear p2
      try clear c3
      try clear c3b0
      try clear c4
      try clear c5
      try clear c11
      try clear c15
      try clear c17
      try clear c20
      try clear c25
      try clear c26
      try clear c31
      try clear c32
      try clear c33
      try clear c36
      try clear c37
      try clear c38
      try clear c39
      try clear c40
      try clear c41
      try clear c42
      try clear c45
      try clear c46
      try clear c47
      try clear c49
      try clear c50
      try clear hcz13_0
      try clear hcz13_1
      try clear hcz15_0
      try clear hcz15_1
      try clear hcz21_0
      try clear hcz21_1
      try clear hcz21_2
      try clear hcz22_0
      try clear hcz22_1
      try clear hcz27_0
      try clear hcz27_1
      try clear hcz34_0
      try clear hcz34_1
      try clear hcz34_2
      try clear hcz40_0
      try clear hcz40_1
      try clear hcz40_2
      try clear hcz43_0
      try clear hcz43_1
      try clear hcz43_2
      try clear hcz48_0
      try clear hcz48_1
      try clear hcz48_2
      try clear hcz51_0
      try clear hcz51_1
      try clear hcz51_2
      try clear hcz5_0
      try clear hcz5_1
      try clear hfz13_0
      try clear hfz13_1
      try clear hfz15_0
      try clear hfz15_1
      try clear hfz21_0
      try clear hfz21_1
      try clear hfz21_2
      try clear hfz22_0
      try clear hfz22_1
      try clear hfz27_0
      try clear hfz27_1
      try clear hfz34_0
      try clear hfz34_1
      try clear hfz34_2
      try clear hfz40_0
      try clear hfz40_1
      try clear hfz40_2
      try clear hfz43_0
      try clear hfz43_1
      try clear hfz43_2
      try clear hfz48_0
      try clear hfz48_1
      try clear hfz48_2
      try clear hfz51_0
      try clear hfz51_1
      try clear hfz51_2
      try clear hfz5_0
      try clear hfz5_1
      obtain ⟨kq, x35_10, rfl, HA, HJ10, HO_606001, BK590, BK600, BK605, BK610, HB⟩ := hcut
      cases kq with
      | zero => exact absurd HA.out (by simp [laws_FnExactFirstSolution.j0])
      | succ kj10 =>
        have H := HA.out
        clear HA
        simp only [laws_FnExactFirstSolution.j0] at H
        by_cases c53 : x35_10 = true
        · subst c53
          have H1 : (some false) = some r := by rw [if_pos rfl] at H; exact H
          clear H
          have H := H1
          clear H1
          obtain rfl := Option.some.inj H
          go_wp2
          go_ret
          exact ⟨by first | rfl | (simp [errW_none, errW_some] <;> rfl) | (simp [*, errW_none, errW_some] <;> rfl), by repeat (first | (with_reducible first | exact HB.out | apply below_alloc | apply pw_below_drewN | apply below_drew1 | refine below_set ?_ GE590.out | refine below_set ?_ GE600.out | refine below_set ?_ GE605.out | refine below_set ?_ GE610.out) | exact HB.out)⟩
        · replace c53 := Bool.eq_false_iff.mpr c53
          subst c53
          have H1 : ((laws_toPuzzle.f kj10 a0_0 l0_1).bind fun bt612 => ((laws_eqPuzzle.f kj10 t601 t602 bt612.1 bt612.2).bind fun t616 => (if t616 = true then (some true) else (some false)))) = some r := by rw [if_neg (show ¬ (false = true) by decide)] at H; exact H
          clear H
          have H := H1
          clear H1
          replace H := Option.bind_eq_some_iff.mp H
          obtain ⟨⟨t612, t613⟩, A540, H⟩ := H
          replace H : ((laws_eqPuzzle.f kj10 t601 t602 t612 t613).bind fun t616 => (if t616 = true then (some true) else (some false))) = some r := H
          have A54 := Aside0.mk A540
          clear A540
          replace H := Option.bind_eq_some_iff.mp H
          obtain ⟨t616, A550, H⟩ := H
          replace H : (if t616 = true then (some true) else (some false)) = some r := H
          have A55 := Aside0.mk A550
          clear A550
          by_cases c56 : t616 = true
          · subst c56
            have H1 : (some true) = some r := by rw [if_pos rfl] at H; exact H
            clear H
            have H := H1
            clear H1
            obtain rfl := Option.some.inj H
            try go_wp2
            have n0_ := Aside0.mk (Kd.R_drew HO_606001.out)
            have n1_ := Aside0.mk (blk_drew BK590.out)
            have n2_ := Aside0.mk (blk_drew BK600.out)
            have n3_ := Aside0.mk (blk_drew BK605.out)
            have n4_ := Aside0.mk (blk_drew BK610.out)
            have n5_ := Aside0.mk (below_drew1 HB.out)
            clear HO_606001
            clear BK590
            clear BK600
            clear BK605
            clear BK610
            clear HB
            have HO_606001 := n0_
            have BK590 := n1_
            have BK600 := n2_
            have BK605 := n3_
            have BK610 := n4_
            have HB := n5_
            clear n0_ n1_ n2_ n3_ n4_ n5_
            refine start_ (n := 5) (S := fun w' => w'.cell? ⟨gb605, 0, none⟩ = some (.int .i64 t601) ∧ w'.cell? ⟨gb605, 1, none⟩ = some (.slice Ao28 t602.length co28) ∧ w'.cell? ⟨gb590, 0, none⟩ = some (.int .i64 a0_0) ∧ w'.cell? ⟨gb590, 1, none⟩ = some (.slice A0_1 l0_1.length c0_1)) (ds := []) #[false, false, false, false, false] (by kernel_rfl) rfl rfl ⟨(blk_cell BK605.out 0).trans rfl, (blk_cell BK605.out 1).trans rfl, (blk_cell BK590.out 0).trans rfl, (blk_cell BK590.out 1).trans rfl⟩ (fun hHeld => ?_)
            generalize wc.drew = w57 at HO_606001 BK590 BK600 BK605 BK610 HB hHeld ⊢
            refine take_ (i := 0) (N := some 36) (v := ?_) (a' := ?_) #[true, false, false, false, false] rfl rfl (by kernel_rfl) (fun _ _ _ h => h) (Or.inl ⟨by rfl, ?_⟩) hHeld ?_ ?_
            rotate_left
            · rintro w' ⟨s0, s1, s2, s3⟩
              go_simp
              with_reducible rfl
            rotate_left
            · simp only [Act.put, List.setIfInBounds_toArray, List.set_cons_zero, List.set_cons_succ, i64_w, i32_w]
              rfl
            refine take_ (i := 1) (N := some 37) (v := ?_) (a' := ?_) #[true, true, false, false, false] rfl rfl (by kernel_rfl) (fun _ _ _ h => h) (Or.inl ⟨by rfl, ?_⟩) hHeld ?_ ?_
            rotate_left
            · rintro w' ⟨s0, s1, s2, s3⟩
              go_simp
              with_reducible rfl
            rotate_left
            · simp only [Act.put, List.setIfInBounds_toArray, List.set_cons_zero, List.set_cons_succ, i64_w, i32_w]
              rfl
            refine one_ (i := 2) (N := some 38) #[true, true, true, false, false] rfl rfl (by kernel_rfl) (by decide) (fun K hK => ?_)
            refine goes_ Try.func17 (by kernel_rfl) rfl #[.agg #[.int .i64 a0_0, .slice A0_1 l0_1.length c0_1]] (by rfl) rfl rfl (by (try simp only [List.map_toArray, List.map_cons, List.map_nil]); first | done | rfl | (simp only [List.length_drop, List.length_take]; rfl)) ?_
            with_reducible refine (laws_toPuzzle.calls kj10 a0_0 _ _ l0_1 t612 t613 _ ?side1 ?side2 A54.out).mono ?_
            (case side1 => repeat (first | exact (Kd.C_below HR0_1.out HB.out) | (with_reducible refine Kd.C_alloc ?_ _) | (with_reducible refine Kd.C_drewN ?_ _) | (with_reducible refine Kd.C_drew ?_)))
            (case side2 => exact HC0_1.out)
            rintro e w58 ⟨v614, rfl, ho0, hb⟩
            refine ⟨_, rfl, ?_⟩
            have n0_ := Aside0.mk (Kd.R_elder' (by (with_reducible repeat (first | apply Kd.R_alloc | apply Kd.R_drewN | apply Kd.R_drew)); exact HO_606001.out) (Kd.R_base ho0) hb)
            have n1_ := Aside0.mk (Kd.R_lower (Kd.R_new' ho0 (Kd.R_lt (by (with_reducible repeat (first | apply Kd.R_alloc | apply Kd.R_drewN | apply Kd.R_drew)); exact HO_606001.out))) (below_size (by repeat (first | (with_reducible first | exact HB.out | apply below_alloc | apply pw_below_drewN | apply below_drew1 | refine below_set ?_ GE590.out | refine below_set ?_ GE600.out | refine below_set ?_ GE605.out | refine below_set ?_ GE610.out) | exact HB.out))))
            have n2_ := Aside0.mk (blk_below (g := gb590) (o := .cells #[.int .i64 a0_0, .slice A0_1 l0_1.length c0_1] 24 (0, 0)) (by (with_reducible repeat (first | refine blk_drewN ?_ _ | refine blk_drew ?_ | refine blk_alloc ?_ _)); exact BK590.out) hb)
            have n3_ := Aside0.mk (blk_below (g := gb600) (o := .cells #[.int .i64 t596, .int .i64 t597, .int .i64 t598] 45 (0, 0)) (by (with_reducible repeat (first | refine blk_drewN ?_ _ | refine blk_drew ?_ | refine blk_alloc ?_ _)); exact BK600.out) hb)
            have n4_ := Aside0.mk (blk_below (g := gb605) (o := .cells #[.int .i64 t601, .slice Ao28 t602.length co28] 29 (0, 0)) (by (with_reducible repeat (first | refine blk_drewN ?_ _ | refine blk_drew ?_ | refine blk_alloc ?_ _)); exact BK605.out) hb)
            have n5_ := Aside0.mk (blk_below (g := gb610) (o := .cells #[.int .i64 t606, .int .i64 t607, .int .i64 t608] 45 (0, 0)) (by (with_reducible repeat (first | refine blk_drewN ?_ _ | refine blk_drew ?_ | refine blk_alloc ?_ _)); exact BK610.out) hb)
            have n6_ := Aside0.mk (below_step (by repeat (first | (with_reducible first | exact HB.out | apply below_alloc | apply pw_below_drewN | apply below_drew1 | refine below_set ?_ GE590.out | refine below_set ?_ GE600.out | refine below_set ?_ GE605.out | refine below_set ?_ GE610.out) | exact HB.out)) hb)
            clear HO_606001
            clear BK590
            clear BK600
            clear BK605
            clear BK610
            clear HB
            have HO_606001 := n0_
            have HO615 := n1_
            have BK590 := n2_
            have BK600 := n3_
            have BK605 := n4_
            have BK610 := n5_
            have HB := n6_
            clear n0_ n1_ n2_ n3_ n4_ n5_ n6_
            (try clear hb)
            (try clear hb2)
            (try clear hk)
            (try clear hi)
            (try clear ho0)
            obtain ⟨Ao59, co59, eo59⟩ := Kd.R_slice HO615.out
            (first | subst eo59 | (injection eo59 with f1_ f2_ f3_; have f4_ := f1_.symm; have f5_ := f3_.symm; clear f1_ f2_ f3_; subst f4_; subst f5_))
            refine hK.out _ _ ⟨(blk_cell BK605.out 0).trans rfl, (blk_cell BK605.out 1).trans rfl, (blk_cell BK590.out 0).trans rfl, (blk_cell BK590.out 1).trans rfl⟩ (fun hHeld => ?_)
            clear hK K
            refine norm_ (a' := ?_) ?_ ?_
            rotate_left
            · show Act.put _ (some 38) _ = _
              simp only [Act.put, List.setIfInBounds_toArray, List.set_cons_zero, List.set_cons_succ, i64_w, i32_w]
              rfl
            refine one_ (i := 3) (N := some 39) #[true, true, true, true, false] rfl rfl (by kernel_rfl) (by decide) (fun K hK => ?_)
            refine goes_ Try.func19 (by kernel_rfl) rfl #[.agg #[.int .i64 t601, .slice Ao28 t602.length co28], .agg #[.int .i64 t612, .slice Ao59 t613.length co59]] (by rfl) rfl rfl (by (try simp only [List.map_toArray, List.map_cons, List.map_nil]); first | done | rfl | (simp only [List.length_drop, List.length_take]; rfl)) ?_
            with_reducible refine (laws_eqPuzzle.calls kj10 t601 _ _ t602 t612 _ _ t613 true _ ?side1 ?side2 ?side3 ?side4 A55.out).mono ?_
            (case side1 => repeat (first | exact (Kd.R_reads' HO_606001.out).2.2 | (with_reducible refine Kd.C_alloc ?_ _) | (with_reducible refine Kd.C_drewN ?_ _) | (with_reducible refine Kd.C_drew ?_)))
            (case side2 => exact (Kd.R_reads' HO_606001.out).2.1)
            (case side3 => repeat (first | exact (Kd.R_reads' HO615.out).2.2 | (with_reducible refine Kd.C_alloc ?_ _) | (with_reducible refine Kd.C_drewN ?_ _) | (with_reducible refine Kd.C_drew ?_)))
            (case side4 => exact (Kd.R_reads' HO615.out).2.1)
            rintro e w60 ⟨rfl, hb⟩
            refine ⟨_, rfl, ?_⟩
            have n0_ := Aside0.mk (Kd.R_below (by (with_reducible repeat (first | apply Kd.R_alloc | apply Kd.R_drewN | apply Kd.R_drew)); exact HO_606001.out) hb)
            have n1_ := Aside0.mk (Kd.R_below (by (with_reducible repeat (first | apply Kd.R_alloc | apply Kd.R_drewN | apply Kd.R_drew)); exact HO615.out) hb)
            have n2_ := Aside0.mk (blk_below (g := gb590) (o := .cells #[.int .i64 a0_0, .slice A0_1 l0_1.length c0_1] 24 (0, 0)) (by (with_reducible repeat (first | refine blk_drewN ?_ _ | refine blk_drew ?_ | refine blk_alloc ?_ _)); exact BK590.out) hb)
            have n3_ := Aside0.mk (blk_below (g := gb600) (o := .cells #[.int .i64 t596, .int .i64 t597, .int .i64 t598] 45 (0, 0)) (by (with_reducible repeat (first | refine blk_drewN ?_ _ | refine blk_drew ?_ | refine blk_alloc ?_ _)); exact BK600.out) hb)
            have n4_ := Aside0.mk (blk_below (g := gb605) (o := .cells #[.int .i64 t601, .slice Ao28 t602.length co28] 29 (0, 0)) (by (with_reducible repeat (first | refine blk_drewN ?_ _ | refine blk_drew ?_ | refine blk_alloc ?_ _)); exact BK605.out) hb)
            have n5_ := Aside0.mk (blk_below (g := gb610) (o := .cells #[.int .i64 t606, .int .i64 t607, .int .i64 t608] 45 (0, 0)) (by (with_reducible repeat (first | refine blk_drewN ?_ _ | refine blk_drew ?_ | refine blk_alloc ?_ _)); exact BK610.out) hb)
            have n6_ := Aside0.mk (below_step (by repeat (first | (with_reducible first | exact HB.out | apply below_alloc | apply pw_below_drewN | apply below_drew1 | refine below_set ?_ GE590.out | refine below_set ?_ GE600.out | refine below_set ?_ GE605.out | refine below_set ?_ GE610.out) | exact HB.out)) hb)
            clear HO_606001
            clear HO615
            clear BK590
            clear BK600
            clear BK605
            clear BK610
            clear HB
            have HO_606001 := n0_
            have HO615 := n1_
            have BK590 := n2_
            have BK600 := n3_
            have BK605 := n4_
            have BK610 := n5_
            have HB := n6_
            clear n0_ n1_ n2_ n3_ n4_ n5_ n6_
            (try clear hb)
            (try clear hb2)
            (try clear hk)
            (try clear hi)
            refine hK.out _ _ ⟨(blk_cell BK605.out 0).trans rfl, (blk_cell BK605.out 1).trans rfl, (blk_cell BK590.out 0).trans rfl, (blk_cell BK590.out 1).trans rfl⟩ (fun hHeld => ?_)
            clear hK K
            refine norm_ (a' := ?_) ?_ ?_
            rotate_left
            · show Act.put _ (some 39) _ = _
              simp only [Act.put, List.setIfInBounds_toArray, List.set_cons_zero, List.set_cons_succ, i64_w, i32_w]
              rfl
            refine pure_ (i := 4) (N := some 40) (v := ?_) (a' := ?_) #[true, true, true, true, true] rfl rfl (by kernel_rfl) (fun _ _ _ h => h) (Or.inl ⟨by rfl, ?_⟩) ?_ ?_
            rotate_left
            · intro w'
              go_simp
              with_reducible rfl
            rotate_left
            · simp only [Act.put, List.setIfInBounds_toArray, List.set_cons_zero, List.set_cons_succ, i64_w, i32_w]
              rfl
            refine done_ (by kernel_rfl) ?_
            try go_wp2
            go_ret
            exact ⟨by first | rfl | (simp [errW_none, errW_some] <;> rfl) | (simp [*, errW_none, errW_some] <;> rfl), by repeat (first | (with_reducible first | exact HB.out | apply below_alloc | apply pw_below_drewN | apply below_drew1 | refine below_set ?_ GE590.out | refine below_set ?_ GE600.out | refine below_set ?_ GE605.out | refine below_set ?_ GE610.out) | exact HB.out)⟩
          · replace c56 := Bool.eq_false_iff.mpr c56
            subst c56
            have H1 : (some false) = some r := by rw [if_neg (show ¬ (false = true) by decide)] at H; exact H
            clear H
            have H := H1
            clear H1
            obtain rfl := Option.some.inj H
            try go_wp2
            have n0_ := Aside0.mk (Kd.R_drew HO_606001.out)
            have n1_ := Aside0.mk (blk_drew BK590.out)
            have n2_ := Aside0.mk (blk_drew BK600.out)
            have n3_ := Aside0.mk (blk_drew BK605.out)
            have n4_ := Aside0.mk (blk_drew BK610.out)
            have n5_ := Aside0.mk (below_drew1 HB.out)
            clear HO_606001
            clear BK590
            clear BK600
            clear BK605
            clear BK610
            clear HB
            have HO_606001 := n0_
            have BK590 := n1_
            have BK600 := n2_
            have BK605 := n3_
            have BK610 := n4_
            have HB := n5_
            clear n0_ n1_ n2_ n3_ n4_ n5_
            refine start_ (n := 5) (S := fun w' => w'.cell? ⟨gb605, 0, none⟩ = some (.int .i64 t601) ∧ w'.cell? ⟨gb605, 1, none⟩ = some (.slice Ao28 t602.length co28) ∧ w'.cell? ⟨gb590, 0, none⟩ = some (.int .i64 a0_0) ∧ w'.cell? ⟨gb590, 1, none⟩ = some (.slice A0_1 l0_1.length c0_1)) (ds := []) #[false, false, false, false, false] (by kernel_rfl) rfl rfl ⟨(blk_cell BK605.out 0).trans rfl, (blk_cell BK605.out 1).trans rfl, (blk_cell BK590.out 0).trans rfl, (blk_cell BK590.out 1).trans rfl⟩ (fun hHeld => ?_)
            generalize wc.drew = w61 at HO_606001 BK590 BK600 BK605 BK610 HB hHeld ⊢
            refine take_ (i := 0) (N := some 36) (v := ?_) (a' := ?_) #[true, false, false, false, false] rfl rfl (by kernel_rfl) (fun _ _ _ h => h) (Or.inl ⟨by rfl, ?_⟩) hHeld ?_ ?_
            rotate_left
            · rintro w' ⟨s0, s1, s2, s3⟩
              go_simp
              with_reducible rfl
            rotate_left
            · simp only [Act.put, List.setIfInBounds_toArray, List.set_cons_zero, List.set_cons_succ, i64_w, i32_w]
              rfl
            refine take_ (i := 1) (N := some 37) (v := ?_) (a' := ?_) #[true, true, false, false, false] rfl rfl (by kernel_rfl) (fun _ _ _ h => h) (Or.inl ⟨by rfl, ?_⟩) hHeld ?_ ?_
            rotate_left
            · rintro w' ⟨s0, s1, s2, s3⟩
              go_simp
              with_reducible rfl
            rotate_left
            · simp only [Act.put, List.setIfInBounds_toArray, List.set_cons_zero, List.set_cons_succ, i64_w, i32_w]
              rfl
            refine one_ (i := 2) (N := some 38) #[true, true, true, false, false] rfl rfl (by kernel_rfl) (by decide) (fun K hK => ?_)
            refine goes_ Try.func17 (by kernel_rfl) rfl #[.agg #[.int .i64 a0_0, .slice A0_1 l0_1.length c0_1]] (by rfl) rfl rfl (by (try simp only [List.map_toArray, List.map_cons, List.map_nil]); first | done | rfl | (simp only [List.length_drop, List.length_take]; rfl)) ?_
            with_reducible refine (laws_toPuzzle.calls kj10 a0_0 _ _ l0_1 t612 t613 _ ?side1 ?side2 A54.out).mono ?_
            (case side1 => repeat (first | exact (Kd.C_below HR0_1.out HB.out) | (with_reducible refine Kd.C_alloc ?_ _) | (with_reducible refine Kd.C_drewN ?_ _) | (with_reducible refine Kd.C_drew ?_)))
            (case side2 => exact HC0_1.out)
            rintro e w62 ⟨v614, rfl, ho0, hb⟩
            refine ⟨_, rfl, ?_⟩
            have n0_ := Aside0.mk (Kd.R_elder' (by (with_reducible repeat (first | apply Kd.R_alloc | apply Kd.R_drewN | apply Kd.R_drew)); exact HO_606001.out) (Kd.R_base ho0) hb)
            have n1_ := Aside0.mk (Kd.R_lower (Kd.R_new' ho0 (Kd.R_lt (by (with_reducible repeat (first | apply Kd.R_alloc | apply Kd.R_drewN | apply Kd.R_drew)); exact HO_606001.out))) (below_size (by repeat (first | (with_reducible first | exact HB.out | apply below_alloc | apply pw_below_drewN | apply below_drew1 | refine below_set ?_ GE590.out | refine below_set ?_ GE600.out | refine below_set ?_ GE605.out | refine below_set ?_ GE610.out) | exact HB.out))))
            have n2_ := Aside0.mk (blk_below (g := gb590) (o := .cells #[.int .i64 a0_0, .slice A0_1 l0_1.length c0_1] 24 (0, 0)) (by (with_reducible repeat (first | refine blk_drewN ?_ _ | refine blk_drew ?_ | refine blk_alloc ?_ _)); exact BK590.out) hb)
            have n3_ := Aside0.mk (blk_below (g := gb600) (o := .cells #[.int .i64 t596, .int .i64 t597, .int .i64 t598] 45 (0, 0)) (by (with_reducible repeat (first | refine blk_drewN ?_ _ | refine blk_drew ?_ | refine blk_alloc ?_ _)); exact BK600.out) hb)
            have n4_ := Aside0.mk (blk_below (g := gb605) (o := .cells #[.int .i64 t601, .slice Ao28 t602.length co28] 29 (0, 0)) (by (with_reducible repeat (first | refine blk_drewN ?_ _ | refine blk_drew ?_ | refine blk_alloc ?_ _)); exact BK605.out) hb)
            have n5_ := Aside0.mk (blk_below (g := gb610) (o := .cells #[.int .i64 t606, .int .i64 t607, .int .i64 t608] 45 (0, 0)) (by (with_reducible repeat (first | refine blk_drewN ?_ _ | refine blk_drew ?_ | refine blk_alloc ?_ _)); exact BK610.out) hb)
            have n6_ := Aside0.mk (below_step (by repeat (first | (with_reducible first | exact HB.out | apply below_alloc | apply pw_below_drewN | apply below_drew1 | refine below_set ?_ GE590.out | refine below_set ?_ GE600.out | refine below_set ?_ GE605.out | refine below_set ?_ GE610.out) | exact HB.out)) hb)
            clear HO_606001
            clear BK590
            clear BK600
            clear BK605
            clear BK610
            clear HB
            have HO_606001 := n0_
            have HO615 := n1_
            have BK590 := n2_
            have BK600 := n3_
            have BK605 := n4_
            have BK610 := n5_
            have HB := n6_
            clear n0_ n1_ n2_ n3_ n4_ n5_ n6_
            (try clear hb)
            (try clear hb2)
            (try clear hk)
            (try clear hi)
            (try clear ho0)
            obtain ⟨Ao63, co63, eo63⟩ := Kd.R_slice HO615.out
            (first | subst eo63 | (injection eo63 with f1_ f2_ f3_; have f4_ := f1_.symm; have f5_ := f3_.symm; clear f1_ f2_ f3_; subst f4_; subst f5_))
            refine hK.out _ _ ⟨(blk_cell BK605.out 0).trans rfl, (blk_cell BK605.out 1).trans rfl, (blk_cell BK590.out 0).trans rfl, (blk_cell BK590.out 1).trans rfl⟩ (fun hHeld => ?_)
            clear hK K
            refine norm_ (a' := ?_) ?_ ?_
            rotate_left
            · show Act.put _ (some 38) _ = _
              simp only [Act.put, List.setIfInBounds_toArray, List.set_cons_zero, List.set_cons_succ, i64_w, i32_w]
              rfl
            refine one_ (i := 3) (N := some 39) #[true, true, true, true, false] rfl rfl (by kernel_rfl) (by decide) (fun K hK => ?_)
            refine goes_ Try.func19 (by kernel_rfl) rfl #[.agg #[.int .i64 t601, .slice Ao28 t602.length co28], .agg #[.int .i64 t612, .slice Ao63 t613.length co63]] (by rfl) rfl rfl (by (try simp only [List.map_toArray, List.map_cons, List.map_nil]); first | done | rfl | (simp only [List.length_drop, List.length_take]; rfl)) ?_
            with_reducible refine (laws_eqPuzzle.calls kj10 t601 _ _ t602 t612 _ _ t613 false _ ?side1 ?side2 ?side3 ?side4 A55.out).mono ?_
            (case side1 => repeat (first | exact (Kd.R_reads' HO_606001.out).2.2 | (with_reducible refine Kd.C_alloc ?_ _) | (with_reducible refine Kd.C_drewN ?_ _) | (with_reducible refine Kd.C_drew ?_)))
            (case side2 => exact (Kd.R_reads' HO_606001.out).2.1)
            (case side3 => repeat (first | exact (Kd.R_reads' HO615.out).2.2 | (with_reducible refine Kd.C_alloc ?_ _) | (with_reducible refine Kd.C_drewN ?_ _) | (with_reducible refine Kd.C_drew ?_)))
            (case side4 => exact (Kd.R_reads' HO615.out).2.1)
            rintro e w64 ⟨rfl, hb⟩
            refine ⟨_, rfl, ?_⟩
            have n0_ := Aside0.mk (Kd.R_below (by (with_reducible repeat (first | apply Kd.R_alloc | apply Kd.R_drewN | apply Kd.R_drew)); exact HO_606001.out) hb)
            have n1_ := Aside0.mk (Kd.R_below (by (with_reducible repeat (first | apply Kd.R_alloc | apply Kd.R_drewN | apply Kd.R_drew)); exact HO615.out) hb)
            have n2_ := Aside0.mk (blk_below (g := gb590) (o := .cells #[.int .i64 a0_0, .slice A0_1 l0_1.length c0_1] 24 (0, 0)) (by (with_reducible repeat (first | refine blk_drewN ?_ _ | refine blk_drew ?_ | refine blk_alloc ?_ _)); exact BK590.out) hb)
            have n3_ := Aside0.mk (blk_below (g := gb600) (o := .cells #[.int .i64 t596, .int .i64 t597, .int .i64 t598] 45 (0, 0)) (by (with_reducible repeat (first | refine blk_drewN ?_ _ | refine blk_drew ?_ | refine blk_alloc ?_ _)); exact BK600.out) hb)
            have n4_ := Aside0.mk (blk_below (g := gb605) (o := .cells #[.int .i64 t601, .slice Ao28 t602.length co28] 29 (0, 0)) (by (with_reducible repeat (first | refine blk_drewN ?_ _ | refine blk_drew ?_ | refine blk_alloc ?_ _)); exact BK605.out) hb)
            have n5_ := Aside0.mk (blk_below (g := gb610) (o := .cells #[.int .i64 t606, .int .i64 t607, .int .i64 t608] 45 (0, 0)) (by (with_reducible repeat (first | refine blk_drewN ?_ _ | refine blk_drew ?_ | refine blk_alloc ?_ _)); exact BK610.out) hb)
            have n6_ := Aside0.mk (below_step (by repeat (first | (with_reducible first | exact HB.out | apply below_alloc | apply pw_below_drewN | apply below_drew1 | refine below_set ?_ GE590.out | refine below_set ?_ GE600.out | refine below_set ?_ GE605.out | refine below_set ?_ GE610.out) | exact HB.out)) hb)
            clear HO_606001
            clear HO615
            clear BK590
            clear BK600
            clear BK605
            clear BK610
            clear HB
            have HO_606001 := n0_
            have HO615 := n1_
            have BK590 := n2_
            have BK600 := n3_
            have BK605 := n4_
            have BK610 := n5_
            have HB := n6_
            clear n0_ n1_ n2_ n3_ n4_ n5_ n6_
            (try clear hb)
            (try clear hb2)
            (try clear hk)
            (try clear hi)
            refine hK.out _ _ ⟨(blk_cell BK605.out 0).trans rfl, (blk_cell BK605.out 1).trans rfl, (blk_cell BK590.out 0).trans rfl, (blk_cell BK590.out 1).trans rfl⟩ (fun hHeld => ?_)
            clear hK K
            refine norm_ (a' := ?_) ?_ ?_
            rotate_left
            · show Act.put _ (some 39) _ = _
              simp only [Act.put, List.setIfInBounds_toArray, List.set_cons_zero, List.set_cons_succ, i64_w, i32_w]
              rfl
            refine pure_ (i := 4) (N := some 40) (v := ?_) (a' := ?_) #[true, true, true, true, true] rfl rfl (by kernel_rfl) (fun _ _ _ h => h) (Or.inl ⟨by rfl, ?_⟩) ?_ ?_
            rotate_left
            · intro w'
              go_simp
              with_reducible rfl
            rotate_left
            · simp only [Act.put, List.setIfInBounds_toArray, List.set_cons_zero, List.set_cons_succ, i64_w, i32_w]
              rfl
            refine done_ (by kernel_rfl) ?_
            try go_wp2
            go_ret
            exact ⟨by first | rfl | (simp [errW_none, errW_some] <;> rfl) | (simp [*, errW_none, errW_some] <;> rfl), by repeat (first | (with_reducible first | exact HB.out | apply below_alloc | apply pw_below_drewN | apply below_drew1 | refine below_set ?_ GE590.out | refine below_set ?_ GE600.out | refine below_set ?_ GE605.out | refine below_set ?_ GE610.out) | exact HB.out)⟩

end Go.Proofs.Ytbdjidjcmmeanaa.P

namespace Go.Proofs.Ytbdjidjcmmeanaa.P
open Go.RowKit Go.Proofs.YtbdjidjcmmeanaaW.PrintWords Go.Proofs.YtbdjidjcmmeanaaW.PrintLast Go.Proofs.YtbdjidjcmmeanaaW.PrintMore
set_option linter.unusedVariables false
set_option linter.unusedSimpArgs false
theorem spec_FirstSolution.ev (w : Int) (l : List S37) : Ev (fun k => spec_FirstSolution.f k w l) (mFirst w l) := by
  unfold spec_FirstSolution.f mFirst
  refine Ev.bind (spec_pzGood.ev w l) ?_
  refine Ev.ite (fun h => ?_) (fun _ => Ev.now _)
  obtain ⟨h1, h2, h3⟩ := mPuzzle_parts h
  refine Ev.bind (spec_pzAll.ev (by omega) h1) ?_
  refine Ev.const ?_
  cases mSols w l with
  | nil => rfl
  | cons x xs => simp only [List.length_cons]; rw [if_neg (by omega), if_pos (by omega)]; rfl
end Go.Proofs.Ytbdjidjcmmeanaa.P

namespace Go.Proofs.Ytbdjidjcmmeanaa.Pure
open Go.RowKit Go.Proofs.YtbdjidjcmmeanaaW.PrintWords Go.Proofs.YtbdjidjcmmeanaaW.PrintLast Go.Proofs.YtbdjidjcmmeanaaW.PrintMore Go.Proofs.Ytbdjidjcmmeanaa.P
set_option linter.unusedVariables false
set_option linter.unusedSimpArgs false
theorem FnExactFirstSolution : ∀ (a : Int) (l : List S34), (Lit.int .i64 a).wf = true → l.length ≤ maxLen → (∀ y ∈ l, (Lit.int .i64 y.f0).wf = true ∧ (Lit.int .i64 y.f1).wf = true ∧ (Lit.int .i64 y.f2).wf = true) → ∃ k, laws_FnExactFirstSolution.f k a l = some true := fun a l _ hl _ => by
  by_cases big : (l.length : Int) ≤ 1048576
  · have hl2 : l.length ≤ 11728124029610 := by omega
    have hm : (l.map cvClue).length ≤ 4611686018427387904 := by rw [List.length_map]; omega
    refine Ev.rounds ?_
    unfold laws_FnExactFirstSolution.f
    refine Ev.bindc (laws_szPuzzle.eq hl) ?_
    simp only [if_pos big, show ¬ ((1048576 : Int) - (l.length : Int) < 0) by omega, if_false]
    refine Ev.bind (laws_toPuzzle.ev hl2) ?_
    refine Ev.bind (spec_FirstSolution.ev _ _) ?_
    refine Ev.bind (laws_toPuzzle.ev hl2) ?_
    refine Ev.bind (impl_FirstSolution.ev _ _) ?_
    refine Ev.bindc (a := true) (by unfold laws_eqLadders.f; simp) ?_
    simp only [eq_self_iff_true, if_true, bne_self_eq_false, Bool.false_eq_true, if_false]
    refine Ev.succ ?_
    simp only [laws_FnExactFirstSolution.j0, Bool.false_eq_true, if_false]
    refine Ev.bind (laws_toPuzzle.ev hl2) ?_
    refine Ev.bind (laws_eqPuzzle.refl hm) ?_
    simp only [if_true]
    exact Ev.now _
  · refine ⟨0, ?_⟩
    unfold laws_FnExactFirstSolution.f
    rw [laws_szPuzzle.eq hl, if_neg big]
    rfl
end Go.Proofs.Ytbdjidjcmmeanaa.Pure

namespace Go.Proofs.Ytbdjidjcmmeanaa.fnExactFirstSolution
open Go.ChangeShapes Go.WideShapes Go.ChangeAt Go.RowKit Go.Deep
open Go.ChangeMaps (open_string shut_string)
open Go.Proofs.YtbdjidjcmmeanaaW.PrintWords Go.Proofs.YtbdjidjcmmeanaaW.PrintLast Go.Proofs.YtbdjidjcmmeanaaW.PrintMore Go.Proofs.Ytbdjidjcmmeanaa.P
set_option linter.unusedVariables false
set_option linter.unusedSimpArgs false
theorem own : ownKnob Try.prog.godebug = none := by kernel_rfl
theorem laidOut : laidOutB Try.prog = true := by kernel_rfl
theorem cof3 : Try.prog.cellsOf 3 = 1 := by kernel_rfl
theorem cof22 : Try.prog.cellsOf 22 = 1 := by kernel_rfl
theorem cof24 : Try.prog.cellsOf 24 = 2 := by kernel_rfl
theorem cof34 : Try.prog.cellsOf 34 = 3 := by kernel_rfl
theorem C_each {α : Type} (d : Kd α) (w : World) (a : Addr) (len : Nat) (hl : len ≤ 9223372036854775807) (P : α → Prop) (h : ∀ i, i < len → ∃ (x : α) (c : List Value), P x ∧ c.length = d.sz ∧ d.K w x c ∧ ∀ j u, c[j]? = some u → w.cell? (a.add (i * d.sz + j)) = some u) : ∃ xs : List α, xs.length = len ∧ Kd.C d w (some a) len xs ∧ ∀ x ∈ xs, P x := by
  refine ⟨List.ofFn fun i : Fin len => Classical.choose (h i.1 i.2), by simp, ⟨by simp, hl, fun _ => ⟨a, rfl, fun j p hj => ?_⟩⟩, fun x hx => ?_⟩
  · have hjl : j < len := by have := (List.getElem?_eq_some_iff.1 hj).1; simpa using this
    have hp : p = Classical.choose (h j hjl) := by rw [List.getElem?_ofFn, dif_pos hjl] at hj; exact (Option.some.inj hj).symm
    obtain ⟨c, hP, hc, hK, hcell⟩ := Classical.choose_spec (h j hjl)
    exact ⟨c, hc, by rw [hp]; exact hK, hcell⟩
  · obtain ⟨i, rfl⟩ := (List.mem_ofFn).1 hx
    obtain ⟨c, hP, _⟩ := Classical.choose_spec (h i.1 i.2)
    exact hP
set_option maxRecDepth 100000 in
theorem open0 {H : Type} {enc : TypeId × Value → H} {W : World} {base : Nat} {v : Value} {d : DataW H} {p : List MemPlace} (hv : Value.okWide Try.prog W .any base 24 v) (h : DataW.Trod enc Try.prog W 0 (fun _ => true) true 24 v d p) :
    ∃ (a0_0 : Int) (A0_1 : Option Addr) (c0_1 : Nat) (l0_1 : List S34), v = .agg #[.int .i64 a0_0, .slice A0_1 l0_1.length c0_1] ∧ ((Lit.int .i64 a0_0).wf = true) ∧ (Kd.C k34 W A0_1 l0_1.length l0_1 ∧ l0_1.length ≤ c0_1 ∧ c0_1 ≤ maxLen ∧ (∀ y ∈ l0_1, (Lit.int .i64 y.f0).wf = true ∧ (Lit.int .i64 y.f1).wf = true ∧ (Lit.int .i64 y.f2).wf = true)) := by
  obtain ⟨cs, rfl, hsz⟩ := okWide_struct Try.underlying24 hv
  rw [cof24] at hsz
  obtain ⟨l⟩ := cs
  match l, hsz with
  | [c_0, c_1], _ =>
    obtain ⟨fuel, hf⟩ := h
    have hf : DataW.trod enc Try.prog W 0 (fun _ => true) true fuel 24 [c_0, c_1] = some (d, p) := hf
    obtain ⟨xs1, n2, _, _, _, hl3, hg4⟩ := DataW.trod_struct Try.underlying24 hf
    obtain ⟨y5, y6, rfl⟩ : ∃ y5 y6, xs1 = [y5, y6] := by match xs1, hl3 with | [y5, y6], _ => exact ⟨y5, y6, rfl⟩
    have g7 : DataW.trod enc Try.prog W 0 (fun _ => true) true n2 3 [c_0] = some y5 := by have z_ : DataW.trod enc Try.prog W 0 (fun _ => true) true n2 3 (([c_0, c_1].drop 0).take (Try.prog.cellsOf 3)) = [y5, y6][0]? := hg4 0 _ rfl; rw [cof3] at z_; exact z_
    have g8 : DataW.trod enc Try.prog W 0 (fun _ => true) true n2 22 [c_1] = some y6 := by have z_ : DataW.trod enc Try.prog W 0 (fun _ => true) true n2 22 (([c_0, c_1].drop 1).take (Try.prog.cellsOf 22)) = [y5, y6][1]? := hg4 1 _ rfl; rw [cof22] at z_; exact z_
    obtain ⟨a0_0, e9, _, w0_0⟩ := DataW.trod_int Try.underlying3 g7
    obtain rfl : c_0 = _ := by simpa using e9
    obtain ⟨A0_1, c0_1, l0_1, rfl, w0_1⟩ : ∃ A c l, c_1 = .slice A l.length c ∧ Kd.C k34 W A l.length l ∧ l.length ≤ c ∧ c ≤ maxLen ∧ (∀ y ∈ l, (Lit.int .i64 y.f0).wf = true ∧ (Lit.int .i64 y.f1).wf = true ∧ (Lit.int .i64 y.f2).wf = true) := by
      rcases open_slice Try.underlying22 g8 with ⟨hcs, _⟩ | ⟨ad, len, cap, m, n_, D_, Pl_, hcs, _, hlc, hcm, hm, _, hel⟩
      · exact ⟨none, 0, [], by simpa using hcs, ⟨rfl, by simp, fun hp => absurd hp (by simp)⟩, by simp, by unfold maxLen; omega, by simp⟩
      · have hlen : len ≤ 9223372036854775807 := by unfold maxLen at hcm; omega
        have each_ : ∀ i, i < len → ∃ (y : S34) (c : List Value), ((Lit.int .i64 y.f0).wf = true ∧ (Lit.int .i64 y.f1).wf = true ∧ (Lit.int .i64 y.f2).wf = true) ∧ c.length = (k34 : Kd _).sz ∧ (k34 : Kd _).K W y c ∧ ∀ j u, c[j]? = some u → W.cell? (ad.add (i * (k34 : Kd _).sz + j)) = some u := by
          intro i hi
          obtain ⟨cs_, hc_, ht_⟩ := hel i (by simp only [if_true] at hm; omega)
          rw [cof34] at hc_
          obtain ⟨hb_, hn_, hat_⟩ := World.cells?_some hc_
          obtain ⟨u11, u12, u13, rfl⟩ : ∃ u11 u12 u13, cs_ = [u11, u12, u13] := by match cs_, hn_ with | [u11, u12, u13], _ => exact ⟨u11, u12, u13, rfl⟩
          obtain ⟨xs14, n15, _, _, _, hl16, hg17⟩ := DataW.trod_struct Try.underlying34 ht_
          obtain ⟨y18, y19, y20, rfl⟩ : ∃ y18 y19 y20, xs14 = [y18, y19, y20] := by match xs14, hl16 with | [y18, y19, y20], _ => exact ⟨y18, y19, y20, rfl⟩
          have g21 : DataW.trod enc Try.prog W 0 (fun _ => true) true n15 3 [u11] = some y18 := by have z_ : DataW.trod enc Try.prog W 0 (fun _ => true) true n15 3 (([u11, u12, u13].drop 0).take (Try.prog.cellsOf 3)) = [y18, y19, y20][0]? := hg17 0 _ rfl; rw [cof3] at z_; exact z_
          have g22 : DataW.trod enc Try.prog W 0 (fun _ => true) true n15 3 [u12] = some y19 := by have z_ : DataW.trod enc Try.prog W 0 (fun _ => true) true n15 3 (([u11, u12, u13].drop 1).take (Try.prog.cellsOf 3)) = [y18, y19, y20][1]? := hg17 1 _ rfl; rw [cof3] at z_; exact z_
          have g23 : DataW.trod enc Try.prog W 0 (fun _ => true) true n15 3 [u13] = some y20 := by have z_ : DataW.trod enc Try.prog W 0 (fun _ => true) true n15 3 (([u11, u12, u13].drop 2).take (Try.prog.cellsOf 3)) = [y18, y19, y20][2]? := hg17 2 _ rfl; rw [cof3] at z_; exact z_
          obtain ⟨a0_1e0, e24, _, w0_1e0⟩ := DataW.trod_int Try.underlying3 g21
          obtain rfl : u11 = _ := by simpa using e24
          obtain ⟨a0_1e1, e25, _, w0_1e1⟩ := DataW.trod_int Try.underlying3 g22
          obtain rfl : u12 = _ := by simpa using e25
          obtain ⟨a0_1e2, e26, _, w0_1e2⟩ := DataW.trod_int Try.underlying3 g23
          obtain rfl : u13 = _ := by simpa using e26
          refine ⟨(⟨a0_1e0, a0_1e1, a0_1e2⟩ : S34), [.int .i64 a0_1e0, .int .i64 a0_1e1, .int .i64 a0_1e2], ⟨w0_1e0, w0_1e1, w0_1e2⟩, rfl, (k34_mk W _), fun j u hu => ?_⟩
          have hj : j < 3 := by have := (List.getElem?_eq_some_iff.1 hu).1; simpa using this
          have h1_ := hat_ j hj
          have hs_ : (k34 : Kd _).sz = 3 := rfl
          rw [hs_, ← Go.Deep.add_add, h1_]; exact hu
        obtain ⟨xs_, hx_, hC_, hP_⟩ := C_each k34 W ad len hlen (fun y => (Lit.int .i64 y.f0).wf = true ∧ (Lit.int .i64 y.f1).wf = true ∧ (Lit.int .i64 y.f2).wf = true) each_
        exact ⟨some ad, cap, xs_, by rw [hx_]; simpa using hcs, by rw [hx_]; exact hC_, by omega, hcm, hP_⟩
    exact ⟨_, _, _, _, rfl, w0_0, w0_1⟩
set_option maxRecDepth 100000 in
theorem lifted (os : Os) (started : os.Started) (H : Type) (enc : TypeId × Value → H) :
    ReturnsInHanded {} Try.checked os 11 .any (Rows.fnExactFirstSolutionSpec.pre6 enc Try.prog Try.f11 Rows.fnExactFirstSolutionRow.domain false) (Rows.fnExactFirstSolutionSpec.post enc Try.prog Try.f11 false true false false) := by
  refine returnsInHanded_of_change_sized (C := Try.checked) own started (by kernel_rfl) Try.func11
    (ChangeSpec.witness6 (enc := enc) (C := Try.checked) false ⟨#[], #[.agg #[.int .i64 0, .slice none 0 0]], []⟩ 8 (by kernel_rfl) (by kernel_rfl) (by kernel_rfl) (by kernel_rfl)) ?_
  intro W base args ds gs before hval0 hW hcnd hsz0 _
  have hsz : (DataW.weightsEach Try.prog (Try.f11.params.toList ++ Rows.fnExactFirstSolutionSpec.plain.varTypes Try.prog) (ds ++ gs)).all (· ≤ reachBytes) = true := hsz0
  have hval : ∀ (j : Nat) t v, Try.f11.params[j]? = some t → args[j]? = some v → Value.okWide Try.prog W .any base t v := hval0
  have hW' := hW
  obtain ⟨p, q, hA0, hV, rfl, hfz, hnd⟩ := hW
  have hA : DataW.TrodAll enc Try.prog W 0 (fun _ => true) true Try.f11.params.toList args.toList ds p := hA0
  rw [Try.params11] at hA hval hsz
  obtain ⟨v0, vs0, d0, ds0, p0, q0, hargs, rfl, rfl, h0, r0⟩ := trodAll_cons hA
  obtain ⟨rfl, rfl, rfl⟩ := trodAll_nil r0
  obtain rfl : args = #[v0] := by cases args; simp_all
  obtain ⟨rfl, rfl⟩ := trodVars_none hV
  have k0 := h0
  have lt0 : ∀ x ∈ p0, x.block < W.heap.size := by obtain ⟨m, hm⟩ := k0; exact DataW.trod_lt m _ _ _ hm
  obtain ⟨a0_0, A0_1, c0_1, l0_1, rfl, w0_0, ⟨hr0_1, hc0_1, hm0_1, w0_1⟩⟩ := open0 (hval 0 24 v0 rfl rfl) h0
  clear hA0 hval0 hsz0 hsz
  obtain ⟨kk, hk⟩ := Pure.FnExactFirstSolution a0_0 l0_1 w0_0 (Nat.le_trans hc0_1 hm0_1) w0_1
  refine (P.laws_FnExactFirstSolution.calls kk a0_0 _ _ l0_1 true W hr0_1 hc0_1 hk).mono fun e W' ⟨he, bel0⟩ => ?_
  have bel : Below W.heap.size W W' := bel0
  subst he
  exact ⟨_, rfl, _, _, _, [], _, [], hW', trodAll_mk1 (shut_bool Try.underlying4 _), (trodAll_cons_mk (Below.trod laidOut (by kernel_rfl) (of_decide_eq_true (by kernel_rfl)) k0 bel lt0) trodAll_mk0), rfl, bel.frame _, fun h => by cases h⟩
theorem over : Rows.fnExactFirstSolutionRow.holds Try.pinned (OpenSpec.ofChange Rows.fnExactFirstSolutionSpec) :=
  OpenClaim.holds_of_wide 11 Try.f11 rfl rfl rfl rfl rfl rfl rfl ⟨rfl, rfl, rfl, rfl, rfl⟩ rfl rfl rfl rfl rfl (by kernel_rfl) Try.func11 (by kernel_rfl)
    (of_decide_eq_true (by kernel_rfl)) (by unfold Func.isWrapper; first | (rw [if_pos (by decide +kernel)]; kernel_rfl) | (rw [if_neg (by decide +kernel)]; exact ⟨rfl, rfl⟩))
    (fun os started H enc _ => lifted os started H enc)
theorem proved : Rows.FnExactFirstSolutionSaid := over
end Go.Proofs.Ytbdjidjcmmeanaa.fnExactFirstSolution
namespace Go.Proofs.Ytbdjidjcmmeanaa
/-- The row, under a short name, for the claim. -/
theorem fnExactFirstSolution_holds : Rows.FnExactFirstSolutionSaid := fnExactFirstSolution.proved
end Go.Proofs.Ytbdjidjcmmeanaa
