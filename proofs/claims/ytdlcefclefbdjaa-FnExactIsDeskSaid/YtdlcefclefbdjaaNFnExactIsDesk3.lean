/- The law FnExactIsDesk is proved: a call of it returns true and leaves its arguments as they were; and what this needs. Every input that the given rows speak of; nothing else is asked. -/
import Derived.Test.YtdlcefclefbdjaaNFnExactIsDesk0
import Derived.Test.YtdlcefclefbdjaaNFnExactIsDesk1
import Derived.Test.YtdlcefclefbdjaaNFnExactIsDesk2
import Derived.Test.YtdlcefclefbdjaaRows
import Derived.WalkKit
import Derived.ProofKit
import Derived.OpenShut
import Derived.ShutString
import Derived.ChangeOld
import Derived.Below
import Derived.SizedLaws
import Derived.Deep.Slices
import Derived.Deep.Fields
import Derived.ChangeSame
import Derived.Lib.SmallJoins
import Derived.Test.YtdlcefclefbdjaaWSized
namespace Go.Proofs.Ytdlcefclefbdjaa.P
open Go.RowKit Go.Proofs.YtdlcefclefbdjaaW.PrintWords Go.Proofs.YtdlcefclefbdjaaW.PrintLast Go.Proofs.YtdlcefclefbdjaaW.PrintMore
attribute [local go_sem] max2_int min2_int max_two min_two max_three min_three max_four min_four   -- for this text's walks alone
set_option linter.unusedVariables false
set_option linter.unusedSimpArgs false

/-! ### laws_FnExactIsDesk: function 4 -/
def laws_FnExactIsDesk.f (k : Nat) (a0_0 : Int) (a0_1 : Int) (a0_2 : Int) (a0_3 : Int) (l0_4 : List (S97)) (a0_5 : Int) (a0_6 : Int) (a0_7 : Int) (a0_8 : Int) (a0_9 : Int) (a0_10 : Int) (a0_11 : Int) : Option (Bool) := (laws_szDesk.f a0_0 a0_1 a0_2 a0_3 l0_4 a0_5 a0_6 a0_7 a0_8 a0_9 a0_10 a0_11 1048576).bind fun t303 => (if t303 < 0 then (some true) else ((laws_toDesk.f k a0_0 a0_1 a0_2 a0_3 l0_4 a0_5 a0_6 a0_7 a0_8 a0_9 a0_10 a0_11).bind fun bt304 => ((spec_IsDesk.f k bt304.1 bt304.2.1 bt304.2.2.1 bt304.2.2.2.1 bt304.2.2.2.2.1 bt304.2.2.2.2.2.1 bt304.2.2.2.2.2.2.1 bt304.2.2.2.2.2.2.2.1 bt304.2.2.2.2.2.2.2.2.1 bt304.2.2.2.2.2.2.2.2.2.1 bt304.2.2.2.2.2.2.2.2.2.2.1 bt304.2.2.2.2.2.2.2.2.2.2.2).bind fun t318 => ((laws_toDesk.f k a0_0 a0_1 a0_2 a0_3 l0_4 a0_5 a0_6 a0_7 a0_8 a0_9 a0_10 a0_11).bind fun bt319 => ((impl_IsDesk.f k bt319.1 bt319.2.1 bt319.2.2.1 bt319.2.2.2.1 bt319.2.2.2.2.1 bt319.2.2.2.2.2.1 bt319.2.2.2.2.2.2.1 bt319.2.2.2.2.2.2.2.1 bt319.2.2.2.2.2.2.2.2.1 bt319.2.2.2.2.2.2.2.2.2.1 bt319.2.2.2.2.2.2.2.2.2.2.1 bt319.2.2.2.2.2.2.2.2.2.2.2).bind fun t334 => (if (t334 != t318) = true then (some false) else ((laws_toDesk.f k a0_0 a0_1 a0_2 a0_3 l0_4 a0_5 a0_6 a0_7 a0_8 a0_9 a0_10 a0_11).bind fun bt335 => ((laws_eqDesk.f k bt319.1 bt319.2.1 bt319.2.2.1 bt319.2.2.2.1 bt319.2.2.2.2.1 bt319.2.2.2.2.2.1 bt319.2.2.2.2.2.2.1 bt319.2.2.2.2.2.2.2.1 bt319.2.2.2.2.2.2.2.2.1 bt319.2.2.2.2.2.2.2.2.2.1 bt319.2.2.2.2.2.2.2.2.2.2.1 bt319.2.2.2.2.2.2.2.2.2.2.2 bt335.1 bt335.2.1 bt335.2.2.1 bt335.2.2.2.1 bt335.2.2.2.2.1 bt335.2.2.2.2.2.1 bt335.2.2.2.2.2.2.1 bt335.2.2.2.2.2.2.2.1 bt335.2.2.2.2.2.2.2.2.1 bt335.2.2.2.2.2.2.2.2.2.1 bt335.2.2.2.2.2.2.2.2.2.2.1 bt335.2.2.2.2.2.2.2.2.2.2.2).bind fun t349 => (if t349 = true then (some true) else (some false))))))))))
set_option maxHeartbeats 8000000 in
set_option maxRecDepth 100000 in
theorem laws_FnExactIsDesk.calls (k : Nat) (a0_0 : Int) (a0_1 : Int) (a0_2 : Int) (a0_3 : Int) (A0_4 : Option Addr) (c0_4 : Nat) (l0_4 : List (S97)) (a0_5 : Int) (a0_6 : Int) (a0_7 : Int) (a0_8 : Int) (a0_9 : Int) (a0_10 : Int) (a0_11 : Int) (r : Bool) (w : World) (hr0_4 : Kd.C k97 w A0_4 l0_4.length l0_4) (hc0_4 : l0_4.length ≤ c0_4) (h : laws_FnExactIsDesk.f k a0_0 a0_1 a0_2 a0_3 l0_4 a0_5 a0_6 a0_7 a0_8 a0_9 a0_10 a0_11 = some r) (hr_ : r = true) :
  Calls Try.prog 4 #[.agg #[.int .i64 a0_0, .int .i64 a0_1, .int .i64 a0_2, .int .i64 a0_3, .slice A0_4 l0_4.length c0_4, .int .i64 a0_5, .int .i64 a0_6, .int .i64 a0_7, .int .i64 a0_8, .int .i64 a0_9, .int .i64 a0_10, .int .i64 a0_11]] w fun e w' => e = .returned (.bool r) ∧ Below w.heap.size w w' := by
 have HR_ := Aside0.mk hr_
 clear hr_; have hu40 := Try.underlying40; have hu30 := Try.underlying30
 have HR0_4 := Aside0.mk hr0_4
 have HC0_4 := Aside0.mk hc0_4
 clear hr0_4 hc0_4
 have HB := Aside0.mk (Below.refl w.heap.size w)
 have H : ((laws_szDesk.f a0_0 a0_1 a0_2 a0_3 l0_4 a0_5 a0_6 a0_7 a0_8 a0_9 a0_10 a0_11 1048576).bind fun t303 => (if t303 < 0 then (some true) else ((laws_toDesk.f k a0_0 a0_1 a0_2 a0_3 l0_4 a0_5 a0_6 a0_7 a0_8 a0_9 a0_10 a0_11).bind fun bt304 => ((spec_IsDesk.f k bt304.1 bt304.2.1 bt304.2.2.1 bt304.2.2.2.1 bt304.2.2.2.2.1 bt304.2.2.2.2.2.1 bt304.2.2.2.2.2.2.1 bt304.2.2.2.2.2.2.2.1 bt304.2.2.2.2.2.2.2.2.1 bt304.2.2.2.2.2.2.2.2.2.1 bt304.2.2.2.2.2.2.2.2.2.2.1 bt304.2.2.2.2.2.2.2.2.2.2.2).bind fun t318 => ((laws_toDesk.f k a0_0 a0_1 a0_2 a0_3 l0_4 a0_5 a0_6 a0_7 a0_8 a0_9 a0_10 a0_11).bind fun bt319 => ((impl_IsDesk.f k bt319.1 bt319.2.1 bt319.2.2.1 bt319.2.2.2.1 bt319.2.2.2.2.1 bt319.2.2.2.2.2.1 bt319.2.2.2.2.2.2.1 bt319.2.2.2.2.2.2.2.1 bt319.2.2.2.2.2.2.2.2.1 bt319.2.2.2.2.2.2.2.2.2.1 bt319.2.2.2.2.2.2.2.2.2.2.1 bt319.2.2.2.2.2.2.2.2.2.2.2).bind fun t334 => (if (t334 != t318) = true then (some false) else ((laws_toDesk.f k a0_0 a0_1 a0_2 a0_3 l0_4 a0_5 a0_6 a0_7 a0_8 a0_9 a0_10 a0_11).bind fun bt335 => ((laws_eqDesk.f k bt319.1 bt319.2.1 bt319.2.2.1 bt319.2.2.2.1 bt319.2.2.2.2.1 bt319.2.2.2.2.2.1 bt319.2.2.2.2.2.2.1 bt319.2.2.2.2.2.2.2.1 bt319.2.2.2.2.2.2.2.2.1 bt319.2.2.2.2.2.2.2.2.2.1 bt319.2.2.2.2.2.2.2.2.2.2.1 bt319.2.2.2.2.2.2.2.2.2.2.2 bt335.1 bt335.2.1 bt335.2.2.1 bt335.2.2.2.1 bt335.2.2.2.2.1 bt335.2.2.2.2.2.1 bt335.2.2.2.2.2.2.1 bt335.2.2.2.2.2.2.2.1 bt335.2.2.2.2.2.2.2.2.1 bt335.2.2.2.2.2.2.2.2.2.1 bt335.2.2.2.2.2.2.2.2.2.2.1 bt335.2.2.2.2.2.2.2.2.2.2.2).bind fun t349 => (if t349 = true then (some true) else (some false))))))))))) = some r := h
 clear h; replace H := Option.bind_eq_some_iff.mp H
 obtain ⟨t303, A20, H⟩ := H
 replace H : (if t303 < 0 then (some true) else ((laws_toDesk.f k a0_0 a0_1 a0_2 a0_3 l0_4 a0_5 a0_6 a0_7 a0_8 a0_9 a0_10 a0_11).bind fun bt304 => ((spec_IsDesk.f k bt304.1 bt304.2.1 bt304.2.2.1 bt304.2.2.2.1 bt304.2.2.2.2.1 bt304.2.2.2.2.2.1 bt304.2.2.2.2.2.2.1 bt304.2.2.2.2.2.2.2.1 bt304.2.2.2.2.2.2.2.2.1 bt304.2.2.2.2.2.2.2.2.2.1 bt304.2.2.2.2.2.2.2.2.2.2.1 bt304.2.2.2.2.2.2.2.2.2.2.2).bind fun t318 => ((laws_toDesk.f k a0_0 a0_1 a0_2 a0_3 l0_4 a0_5 a0_6 a0_7 a0_8 a0_9 a0_10 a0_11).bind fun bt319 => ((impl_IsDesk.f k bt319.1 bt319.2.1 bt319.2.2.1 bt319.2.2.2.1 bt319.2.2.2.2.1 bt319.2.2.2.2.2.1 bt319.2.2.2.2.2.2.1 bt319.2.2.2.2.2.2.2.1 bt319.2.2.2.2.2.2.2.2.1 bt319.2.2.2.2.2.2.2.2.2.1 bt319.2.2.2.2.2.2.2.2.2.2.1 bt319.2.2.2.2.2.2.2.2.2.2.2).bind fun t334 => (if (t334 != t318) = true then (some false) else ((laws_toDesk.f k a0_0 a0_1 a0_2 a0_3 l0_4 a0_5 a0_6 a0_7 a0_8 a0_9 a0_10 a0_11).bind fun bt335 => ((laws_eqDesk.f k bt319.1 bt319.2.1 bt319.2.2.1 bt319.2.2.2.1 bt319.2.2.2.2.1 bt319.2.2.2.2.2.1 bt319.2.2.2.2.2.2.1 bt319.2.2.2.2.2.2.2.1 bt319.2.2.2.2.2.2.2.2.1 bt319.2.2.2.2.2.2.2.2.2.1 bt319.2.2.2.2.2.2.2.2.2.2.1 bt319.2.2.2.2.2.2.2.2.2.2.2 bt335.1 bt335.2.1 bt335.2.2.1 bt335.2.2.2.1 bt335.2.2.2.2.1 bt335.2.2.2.2.2.1 bt335.2.2.2.2.2.2.1 bt335.2.2.2.2.2.2.2.1 bt335.2.2.2.2.2.2.2.2.1 bt335.2.2.2.2.2.2.2.2.2.1 bt335.2.2.2.2.2.2.2.2.2.2.1 bt335.2.2.2.2.2.2.2.2.2.2.2).bind fun t349 => (if t349 = true then (some true) else (some false)))))))))) = some r := H
 have A2 := Aside0.mk A20
 clear A20
 by_cases c3 : t303 < 0
 ·rw [if_pos c3] at H
  have c3b0 : decide (t303 < 0) = true := decide_eq_true c3; clear c3
  obtain rfl := Option.some.inj H
  go_enter Try.func4, Try.ntmps4
  go_wp2_with (first | ((with_reducible refine gate_dst (N := 1) rfl ?_); refine box_event ?hg (N := 1) ?hd (cs := #[.int .i64 a0_0, .int .i64 a0_1, .int .i64 a0_2, .int .i64 a0_3, .slice A0_4 l0_4.length c0_4, .int .i64 a0_5, .int .i64 a0_6, .int .i64 a0_7, .int .i64 a0_8, .int .i64 a0_9, .int .i64 a0_10, .int .i64 a0_11]) (t := 40) ?hr ?_; (case hd => rfl); (case hg => rfl); (case hr => first | (go_simp; done) | (go_simp; rfl)); intro gb302 hg w4 hbox hb; have n0_ := Aside0.mk (below_step (by repeat (first | (with_reducible first | exact HB.out | apply below_alloc | apply pw_below_drewN | apply below_drew1) | exact HB.out)) hb); have n1_ := Aside0.mk (hbox); have n2_ := Aside0.mk ((by rw [hg]; exact (below_size (by repeat (first | (with_reducible first | exact HB.out | apply below_alloc | apply pw_below_drewN | apply below_drew1) | exact HB.out))) : w.heap.size ≤ gb302)); have n3_ := Aside0.mk ((by rw [hg]; exact (below_size (by repeat (first | (with_reducible first | exact HB.out | apply below_alloc | apply pw_below_drewN | apply below_drew1) | exact HB.out))) : w.heap.size ≤ gb302)); clear HB; have HB := n0_; have BK302 := n1_; have GW302 := n2_; have GE302 := n3_; clear n0_ n1_ n2_ n3_; clear hb hbox hg; have hcz5_0 : w4.cell? ⟨gb302, 0, none⟩ = some (.int .i64 a0_0) := (blk_cell BK302.out 0).trans rfl; have hcz5_1 : w4.cell? ⟨gb302, 1, none⟩ = some (.int .i64 a0_1) := (blk_cell BK302.out 1).trans rfl; have hcz5_2 : w4.cell? ⟨gb302, 2, none⟩ = some (.int .i64 a0_2) := (blk_cell BK302.out 2).trans rfl; have hcz5_3 : w4.cell? ⟨gb302, 3, none⟩ = some (.int .i64 a0_3) := (blk_cell BK302.out 3).trans rfl; have hcz5_4 : w4.cell? ⟨gb302, 4, none⟩ = some (.slice A0_4 l0_4.length c0_4) := (blk_cell BK302.out 4).trans rfl; have hcz5_5 : w4.cell? ⟨gb302, 5, none⟩ = some (.int .i64 a0_5) := (blk_cell BK302.out 5).trans rfl; have hcz5_6 : w4.cell? ⟨gb302, 6, none⟩ = some (.int .i64 a0_6) := (blk_cell BK302.out 6).trans rfl; have hcz5_7 : w4.cell? ⟨gb302, 7, none⟩ = some (.int .i64 a0_7) := (blk_cell BK302.out 7).trans rfl; have hcz5_8 : w4.cell? ⟨gb302, 8, none⟩ = some (.int .i64 a0_8) := (blk_cell BK302.out 8).trans rfl; have hcz5_9 : w4.cell? ⟨gb302, 9, none⟩ = some (.int .i64 a0_9) := (blk_cell BK302.out 9).trans rfl; have hcz5_10 : w4.cell? ⟨gb302, 10, none⟩ = some (.int .i64 a0_10) := (blk_cell BK302.out 10).trans rfl; have hcz5_11 : w4.cell? ⟨gb302, 11, none⟩ = some (.int .i64 a0_11) := (blk_cell BK302.out 11).trans rfl; have hfz5_0 := blk_frozen BK302.out 0; have hfz5_1 := blk_frozen BK302.out 1; have hfz5_2 := blk_frozen BK302.out 2; have hfz5_3 := blk_frozen BK302.out 3; have hfz5_4 := blk_frozen BK302.out 4; have hfz5_5 := blk_frozen BK302.out 5; have hfz5_6 := blk_frozen BK302.out 6; have hfz5_7 := blk_frozen BK302.out 7; have hfz5_8 := blk_frozen BK302.out 8; have hfz5_9 := blk_frozen BK302.out 9; have hfz5_10 := blk_frozen BK302.out 10; have hfz5_11 := blk_frozen BK302.out 11) | ((with_reducible refine gate_callee (f := 11) rfl ?_); refine goesL_ (some 9) rfl rfl Try.func11 (by kernel_rfl) rfl #[.agg #[.int .i64 a0_0, .int .i64 a0_1, .int .i64 a0_2, .int .i64 a0_3, .slice A0_4 l0_4.length c0_4, .int .i64 a0_5, .int .i64 a0_6, .int .i64 a0_7, .int .i64 a0_8, .int .i64 a0_9, .int .i64 a0_10, .int .i64 a0_11], .int .i64 1048576] rfl (by (try simp only [List.map_toArray, List.map_cons, List.map_nil]); first | done | rfl | (simp only [List.length_drop, List.length_take]; rfl)) ?_; (with_reducible refine (laws_szDesk.calls a0_0 a0_1 a0_2 a0_3 _ _ l0_4 a0_5 a0_6 a0_7 a0_8 a0_9 a0_10 a0_11 1048576 t303 _ ?side1 ?side2 A2.out).mono ?_); (case side1 => repeat (first | exact (Kd.C_below HR0_4.out HB.out) | (with_reducible refine Kd.C_alloc ?_ _) | (with_reducible refine Kd.C_drewN ?_ _) | (with_reducible refine Kd.C_drew ?_))); (case side2 => exact HC0_4.out); rintro e w6 ⟨rfl, hb⟩; refine ⟨_, rfl, ?_⟩; have n0_ := Aside0.mk (blk_below (g := gb302) (o := .cells #[.int .i64 a0_0, .int .i64 a0_1, .int .i64 a0_2, .int .i64 a0_3, .slice A0_4 l0_4.length c0_4, .int .i64 a0_5, .int .i64 a0_6, .int .i64 a0_7, .int .i64 a0_8, .int .i64 a0_9, .int .i64 a0_10, .int .i64 a0_11] 40 (0, 0)) (by (with_reducible repeat (first | refine blk_drewN ?_ _ | refine blk_drew ?_ | refine blk_alloc ?_ _)); exact BK302.out) hb); have n1_ := Aside0.mk (below_step (by repeat (first | (with_reducible first | exact HB.out | apply below_alloc | apply pw_below_drewN | apply below_drew1 | refine below_set ?_ GE302.out) | exact HB.out)) hb); clear BK302; clear HB; have BK302 := n0_; have HB := n1_; clear n0_ n1_; (try clear hb); (try clear hb2); (try clear hk); (try clear hi)))
  go_ret
  exact ⟨by first | rfl | (simp [errW_none, errW_some] <;> rfl) | (simp [*, errW_none, errW_some] <;> rfl), by repeat (first | (with_reducible first | exact HB.out | apply below_alloc | apply pw_below_drewN | apply below_drew1 | refine below_set ?_ GE302.out) | exact HB.out)⟩
 ·rw [if_neg c3] at H
  have c3b0 : decide (t303 < 0) = false := decide_eq_false c3; clear c3; replace H := Option.bind_eq_some_iff.mp H
  obtain ⟨⟨t304, t305, t306, t307, t308, t311, t312, t313, t314, t315, t316, t317⟩, A70, H⟩ := H
  replace H : ((spec_IsDesk.f k t304 t305 t306 t307 t308 t311 t312 t313 t314 t315 t316 t317).bind fun t318 => ((laws_toDesk.f k a0_0 a0_1 a0_2 a0_3 l0_4 a0_5 a0_6 a0_7 a0_8 a0_9 a0_10 a0_11).bind fun bt319 => ((impl_IsDesk.f k bt319.1 bt319.2.1 bt319.2.2.1 bt319.2.2.2.1 bt319.2.2.2.2.1 bt319.2.2.2.2.2.1 bt319.2.2.2.2.2.2.1 bt319.2.2.2.2.2.2.2.1 bt319.2.2.2.2.2.2.2.2.1 bt319.2.2.2.2.2.2.2.2.2.1 bt319.2.2.2.2.2.2.2.2.2.2.1 bt319.2.2.2.2.2.2.2.2.2.2.2).bind fun t334 => (if (t334 != t318) = true then (some false) else ((laws_toDesk.f k a0_0 a0_1 a0_2 a0_3 l0_4 a0_5 a0_6 a0_7 a0_8 a0_9 a0_10 a0_11).bind fun bt335 => ((laws_eqDesk.f k bt319.1 bt319.2.1 bt319.2.2.1 bt319.2.2.2.1 bt319.2.2.2.2.1 bt319.2.2.2.2.2.1 bt319.2.2.2.2.2.2.1 bt319.2.2.2.2.2.2.2.1 bt319.2.2.2.2.2.2.2.2.1 bt319.2.2.2.2.2.2.2.2.2.1 bt319.2.2.2.2.2.2.2.2.2.2.1 bt319.2.2.2.2.2.2.2.2.2.2.2 bt335.1 bt335.2.1 bt335.2.2.1 bt335.2.2.2.1 bt335.2.2.2.2.1 bt335.2.2.2.2.2.1 bt335.2.2.2.2.2.2.1 bt335.2.2.2.2.2.2.2.1 bt335.2.2.2.2.2.2.2.2.1 bt335.2.2.2.2.2.2.2.2.2.1 bt335.2.2.2.2.2.2.2.2.2.2.1 bt335.2.2.2.2.2.2.2.2.2.2.2).bind fun t349 => (if t349 = true then (some true) else (some false)))))))) = some r := H
  have A7 := Aside0.mk A70
  clear A70; replace H := Option.bind_eq_some_iff.mp H
  obtain ⟨t318, A80, H⟩ := H
  replace H : ((laws_toDesk.f k a0_0 a0_1 a0_2 a0_3 l0_4 a0_5 a0_6 a0_7 a0_8 a0_9 a0_10 a0_11).bind fun bt319 => ((impl_IsDesk.f k bt319.1 bt319.2.1 bt319.2.2.1 bt319.2.2.2.1 bt319.2.2.2.2.1 bt319.2.2.2.2.2.1 bt319.2.2.2.2.2.2.1 bt319.2.2.2.2.2.2.2.1 bt319.2.2.2.2.2.2.2.2.1 bt319.2.2.2.2.2.2.2.2.2.1 bt319.2.2.2.2.2.2.2.2.2.2.1 bt319.2.2.2.2.2.2.2.2.2.2.2).bind fun t334 => (if (t334 != t318) = true then (some false) else ((laws_toDesk.f k a0_0 a0_1 a0_2 a0_3 l0_4 a0_5 a0_6 a0_7 a0_8 a0_9 a0_10 a0_11).bind fun bt335 => ((laws_eqDesk.f k bt319.1 bt319.2.1 bt319.2.2.1 bt319.2.2.2.1 bt319.2.2.2.2.1 bt319.2.2.2.2.2.1 bt319.2.2.2.2.2.2.1 bt319.2.2.2.2.2.2.2.1 bt319.2.2.2.2.2.2.2.2.1 bt319.2.2.2.2.2.2.2.2.2.1 bt319.2.2.2.2.2.2.2.2.2.2.1 bt319.2.2.2.2.2.2.2.2.2.2.2 bt335.1 bt335.2.1 bt335.2.2.1 bt335.2.2.2.1 bt335.2.2.2.2.1 bt335.2.2.2.2.2.1 bt335.2.2.2.2.2.2.1 bt335.2.2.2.2.2.2.2.1 bt335.2.2.2.2.2.2.2.2.1 bt335.2.2.2.2.2.2.2.2.2.1 bt335.2.2.2.2.2.2.2.2.2.2.1 bt335.2.2.2.2.2.2.2.2.2.2.2).bind fun t349 => (if t349 = true then (some true) else (some false))))))) = some r := H
  have A8 := Aside0.mk A80
  clear A80; replace H := Option.bind_eq_some_iff.mp H
  obtain ⟨⟨t319, t320, t321, t322, t323, t326, t327, t328, t329, t330, t331, t332⟩, A90, H⟩ := H
  replace H : ((impl_IsDesk.f k t319 t320 t321 t322 t323 t326 t327 t328 t329 t330 t331 t332).bind fun t334 => (if (t334 != t318) = true then (some false) else ((laws_toDesk.f k a0_0 a0_1 a0_2 a0_3 l0_4 a0_5 a0_6 a0_7 a0_8 a0_9 a0_10 a0_11).bind fun bt335 => ((laws_eqDesk.f k t319 t320 t321 t322 t323 t326 t327 t328 t329 t330 t331 t332 bt335.1 bt335.2.1 bt335.2.2.1 bt335.2.2.2.1 bt335.2.2.2.2.1 bt335.2.2.2.2.2.1 bt335.2.2.2.2.2.2.1 bt335.2.2.2.2.2.2.2.1 bt335.2.2.2.2.2.2.2.2.1 bt335.2.2.2.2.2.2.2.2.2.1 bt335.2.2.2.2.2.2.2.2.2.2.1 bt335.2.2.2.2.2.2.2.2.2.2.2).bind fun t349 => (if t349 = true then (some true) else (some false)))))) = some r := H
  have A9 := Aside0.mk A90
  clear A90; replace H := Option.bind_eq_some_iff.mp H
  obtain ⟨t334, A100, H⟩ := H
  replace H : (if (t334 != t318) = true then (some false) else ((laws_toDesk.f k a0_0 a0_1 a0_2 a0_3 l0_4 a0_5 a0_6 a0_7 a0_8 a0_9 a0_10 a0_11).bind fun bt335 => ((laws_eqDesk.f k t319 t320 t321 t322 t323 t326 t327 t328 t329 t330 t331 t332 bt335.1 bt335.2.1 bt335.2.2.1 bt335.2.2.2.1 bt335.2.2.2.2.1 bt335.2.2.2.2.2.1 bt335.2.2.2.2.2.2.1 bt335.2.2.2.2.2.2.2.1 bt335.2.2.2.2.2.2.2.2.1 bt335.2.2.2.2.2.2.2.2.2.1 bt335.2.2.2.2.2.2.2.2.2.2.1 bt335.2.2.2.2.2.2.2.2.2.2.2).bind fun t349 => (if t349 = true then (some true) else (some false))))) = some r := H
  have A10 := Aside0.mk A100
  clear A100
  by_cases c11 : (t334 != t318) = true
  ·rw [if_pos c11] at H
   have c11b0 : (t334 != t318) = true := c11
   (try (have c11b1 : decide (t334 = t318) = false := by simpa using c11))
   (try (have c11b2 : (t334 == t318) = false := by simpa using c11))
   (try (have c11b3 : ¬ (t334 = t318) := by simpa using c11))
   clear c11
   obtain rfl := Option.some.inj H
   exact absurd HR_.out (by decide)
  ·rw [if_neg c11] at H
   have c11b0 : (t334 != t318) = false := by simpa using c11
   (try (have c11b1 : decide (t334 = t318) = true := by simpa using c11))
   (try (have c11b2 : (t334 == t318) = true := by simpa using c11))
   clear c11; replace H := Option.bind_eq_some_iff.mp H
   obtain ⟨⟨t335, t336, t337, t338, t339, t342, t343, t344, t345, t346, t347, t348⟩, A120, H⟩ := H
   replace H : ((laws_eqDesk.f k t319 t320 t321 t322 t323 t326 t327 t328 t329 t330 t331 t332 t335 t336 t337 t338 t339 t342 t343 t344 t345 t346 t347 t348).bind fun t349 => (if t349 = true then (some true) else (some false))) = some r := H
   have A12 := Aside0.mk A120
   clear A120; replace H := Option.bind_eq_some_iff.mp H
   obtain ⟨t349, A130, H⟩ := H
   replace H : (if t349 = true then (some true) else (some false)) = some r := H
   have A13 := Aside0.mk A130
   clear A130
   by_cases c14 : t349 = true
   ·subst c14
    have H1 : (some true) = some r := by rw [if_pos rfl] at H; exact H
    clear H; have H := H1; clear H1
    obtain rfl := Option.some.inj H
    go_enter Try.func4, Try.ntmps4
    try go_wp2_with (first | ((with_reducible refine gate_dst (N := 1) rfl ?_); refine box_event ?hg (N := 1) ?hd (cs := #[.int .i64 a0_0, .int .i64 a0_1, .int .i64 a0_2, .int .i64 a0_3, .slice A0_4 l0_4.length c0_4, .int .i64 a0_5, .int .i64 a0_6, .int .i64 a0_7, .int .i64 a0_8, .int .i64 a0_9, .int .i64 a0_10, .int .i64 a0_11]) (t := 40) ?hr ?_; (case hd => rfl); (case hg => rfl); (case hr => first | (go_simp; done) | (go_simp; rfl)); intro gb302 hg w15 hbox hb; have n0_ := Aside0.mk (below_step (by repeat (first | (with_reducible first | exact HB.out | apply below_alloc | apply pw_below_drewN | apply below_drew1) | exact HB.out)) hb); have n1_ := Aside0.mk (hbox); have n2_ := Aside0.mk ((by rw [hg]; exact (below_size (by repeat (first | (with_reducible first | exact HB.out | apply below_alloc | apply pw_below_drewN | apply below_drew1) | exact HB.out))) : w.heap.size ≤ gb302)); have n3_ := Aside0.mk ((by rw [hg]; exact (below_size (by repeat (first | (with_reducible first | exact HB.out | apply below_alloc | apply pw_below_drewN | apply below_drew1) | exact HB.out))) : w.heap.size ≤ gb302)); clear HB; have HB := n0_; have BK302 := n1_; have GW302 := n2_; have GE302 := n3_; clear n0_ n1_ n2_ n3_; clear hb hbox hg; have hcz16_0 : w15.cell? ⟨gb302, 0, none⟩ = some (.int .i64 a0_0) := (blk_cell BK302.out 0).trans rfl; have hcz16_1 : w15.cell? ⟨gb302, 1, none⟩ = some (.int .i64 a0_1) := (blk_cell BK302.out 1).trans rfl; have hcz16_2 : w15.cell? ⟨gb302, 2, none⟩ = some (.int .i64 a0_2) := (blk_cell BK302.out 2).trans rfl; have hcz16_3 : w15.cell? ⟨gb302, 3, none⟩ = some (.int .i64 a0_3) := (blk_cell BK302.out 3).trans rfl; have hcz16_4 : w15.cell? ⟨gb302, 4, none⟩ = some (.slice A0_4 l0_4.length c0_4) := (blk_cell BK302.out 4).trans rfl; have hcz16_5 : w15.cell? ⟨gb302, 5, none⟩ = some (.int .i64 a0_5) := (blk_cell BK302.out 5).trans rfl; have hcz16_6 : w15.cell? ⟨gb302, 6, none⟩ = some (.int .i64 a0_6) := (blk_cell BK302.out 6).trans rfl; have hcz16_7 : w15.cell? ⟨gb302, 7, none⟩ = some (.int .i64 a0_7) := (blk_cell BK302.out 7).trans rfl; have hcz16_8 : w15.cell? ⟨gb302, 8, none⟩ = some (.int .i64 a0_8) := (blk_cell BK302.out 8).trans rfl; have hcz16_9 : w15.cell? ⟨gb302, 9, none⟩ = some (.int .i64 a0_9) := (blk_cell BK302.out 9).trans rfl; have hcz16_10 : w15.cell? ⟨gb302, 10, none⟩ = some (.int .i64 a0_10) := (blk_cell BK302.out 10).trans rfl; have hcz16_11 : w15.cell? ⟨gb302, 11, none⟩ = some (.int .i64 a0_11) := (blk_cell BK302.out 11).trans rfl; have hfz16_0 := blk_frozen BK302.out 0; have hfz16_1 := blk_frozen BK302.out 1; have hfz16_2 := blk_frozen BK302.out 2; have hfz16_3 := blk_frozen BK302.out 3; have hfz16_4 := blk_frozen BK302.out 4; have hfz16_5 := blk_frozen BK302.out 5; have hfz16_6 := blk_frozen BK302.out 6; have hfz16_7 := blk_frozen BK302.out 7; have hfz16_8 := blk_frozen BK302.out 8; have hfz16_9 := blk_frozen BK302.out 9; have hfz16_10 := blk_frozen BK302.out 10; have hfz16_11 := blk_frozen BK302.out 11) | ((with_reducible refine gate_callee (f := 11) rfl ?_); refine goesL_ (some 9) rfl rfl Try.func11 (by kernel_rfl) rfl #[.agg #[.int .i64 a0_0, .int .i64 a0_1, .int .i64 a0_2, .int .i64 a0_3, .slice A0_4 l0_4.length c0_4, .int .i64 a0_5, .int .i64 a0_6, .int .i64 a0_7, .int .i64 a0_8, .int .i64 a0_9, .int .i64 a0_10, .int .i64 a0_11], .int .i64 1048576] rfl (by (try simp only [List.map_toArray, List.map_cons, List.map_nil]); first | done | rfl | (simp only [List.length_drop, List.length_take]; rfl)) ?_; (with_reducible refine (laws_szDesk.calls a0_0 a0_1 a0_2 a0_3 _ _ l0_4 a0_5 a0_6 a0_7 a0_8 a0_9 a0_10 a0_11 1048576 t303 _ ?side1 ?side2 A2.out).mono ?_); (case side1 => repeat (first | exact (Kd.C_below HR0_4.out HB.out) | (with_reducible refine Kd.C_alloc ?_ _) | (with_reducible refine Kd.C_drewN ?_ _) | (with_reducible refine Kd.C_drew ?_))); (case side2 => exact HC0_4.out); rintro e w17 ⟨rfl, hb⟩; refine ⟨_, rfl, ?_⟩; have n0_ := Aside0.mk (blk_below (g := gb302) (o := .cells #[.int .i64 a0_0, .int .i64 a0_1, .int .i64 a0_2, .int .i64 a0_3, .slice A0_4 l0_4.length c0_4, .int .i64 a0_5, .int .i64 a0_6, .int .i64 a0_7, .int .i64 a0_8, .int .i64 a0_9, .int .i64 a0_10, .int .i64 a0_11] 40 (0, 0)) (by (with_reducible repeat (first | refine blk_drewN ?_ _ | refine blk_drew ?_ | refine blk_alloc ?_ _)); exact BK302.out) hb); have n1_ := Aside0.mk (below_step (by repeat (first | (with_reducible first | exact HB.out | apply below_alloc | apply pw_below_drewN | apply below_drew1 | refine below_set ?_ GE302.out) | exact HB.out)) hb); clear BK302; clear HB; have BK302 := n0_; have HB := n1_; clear n0_ n1_; (try clear hb); (try clear hb2); (try clear hk); (try clear hi); have hcz18_0 : w17.cell? ⟨gb302, 0, none⟩ = some (.int .i64 a0_0) := (blk_cell BK302.out 0).trans rfl; have hcz18_1 : w17.cell? ⟨gb302, 1, none⟩ = some (.int .i64 a0_1) := (blk_cell BK302.out 1).trans rfl; have hcz18_2 : w17.cell? ⟨gb302, 2, none⟩ = some (.int .i64 a0_2) := (blk_cell BK302.out 2).trans rfl; have hcz18_3 : w17.cell? ⟨gb302, 3, none⟩ = some (.int .i64 a0_3) := (blk_cell BK302.out 3).trans rfl; have hcz18_4 : w17.cell? ⟨gb302, 4, none⟩ = some (.slice A0_4 l0_4.length c0_4) := (blk_cell BK302.out 4).trans rfl; have hcz18_5 : w17.cell? ⟨gb302, 5, none⟩ = some (.int .i64 a0_5) := (blk_cell BK302.out 5).trans rfl; have hcz18_6 : w17.cell? ⟨gb302, 6, none⟩ = some (.int .i64 a0_6) := (blk_cell BK302.out 6).trans rfl; have hcz18_7 : w17.cell? ⟨gb302, 7, none⟩ = some (.int .i64 a0_7) := (blk_cell BK302.out 7).trans rfl; have hcz18_8 : w17.cell? ⟨gb302, 8, none⟩ = some (.int .i64 a0_8) := (blk_cell BK302.out 8).trans rfl; have hcz18_9 : w17.cell? ⟨gb302, 9, none⟩ = some (.int .i64 a0_9) := (blk_cell BK302.out 9).trans rfl; have hcz18_10 : w17.cell? ⟨gb302, 10, none⟩ = some (.int .i64 a0_10) := (blk_cell BK302.out 10).trans rfl; have hcz18_11 : w17.cell? ⟨gb302, 11, none⟩ = some (.int .i64 a0_11) := (blk_cell BK302.out 11).trans rfl; have hfz18_0 := blk_frozen BK302.out 0; have hfz18_1 := blk_frozen BK302.out 1; have hfz18_2 := blk_frozen BK302.out 2; have hfz18_3 := blk_frozen BK302.out 3; have hfz18_4 := blk_frozen BK302.out 4; have hfz18_5 := blk_frozen BK302.out 5; have hfz18_6 := blk_frozen BK302.out 6; have hfz18_7 := blk_frozen BK302.out 7; have hfz18_8 := blk_frozen BK302.out 8; have hfz18_9 := blk_frozen BK302.out 9; have hfz18_10 := blk_frozen BK302.out 10; have hfz18_11 := blk_frozen BK302.out 11) | ((with_reducible refine gate_callee (f := 13) rfl ?_); refine goesL_ (some 13) rfl rfl Try.func13 (by kernel_rfl) rfl #[.agg #[.int .i64 a0_0, .int .i64 a0_1, .int .i64 a0_2, .int .i64 a0_3, .slice A0_4 l0_4.length c0_4, .int .i64 a0_5, .int .i64 a0_6, .int .i64 a0_7, .int .i64 a0_8, .int .i64 a0_9, .int .i64 a0_10, .int .i64 a0_11]] rfl (by (try simp only [List.map_toArray, List.map_cons, List.map_nil]); first | done | rfl | (simp only [List.length_drop, List.length_take]; rfl)) ?_; (with_reducible refine (laws_toDesk.calls k a0_0 a0_1 a0_2 a0_3 _ _ l0_4 a0_5 a0_6 a0_7 a0_8 a0_9 a0_10 a0_11 t304 t305 t306 t307 t308 t311 t312 t313 t314 t315 t316 t317 _ ?side1 ?side2 A7.out).mono ?_); (case side1 => repeat (first | exact (Kd.C_below HR0_4.out HB.out) | (with_reducible refine Kd.C_alloc ?_ _) | (with_reducible refine Kd.C_drewN ?_ _) | (with_reducible refine Kd.C_drew ?_))); (case side2 => exact HC0_4.out); rintro e w19 ⟨v309, rfl, ho0, hb⟩; refine ⟨_, rfl, ?_⟩; have n0_ := Aside0.mk (Kd.R_lower ho0 (below_size (by repeat (first | (with_reducible first | exact HB.out | apply below_alloc | apply pw_below_drewN | apply below_drew1 | refine below_set ?_ GE302.out) | exact HB.out)))); have n1_ := Aside0.mk (blk_below (g := gb302) (o := .cells #[.int .i64 a0_0, .int .i64 a0_1, .int .i64 a0_2, .int .i64 a0_3, .slice A0_4 l0_4.length c0_4, .int .i64 a0_5, .int .i64 a0_6, .int .i64 a0_7, .int .i64 a0_8, .int .i64 a0_9, .int .i64 a0_10, .int .i64 a0_11] 40 (0, 0)) (by (with_reducible repeat (first | refine blk_drewN ?_ _ | refine blk_drew ?_ | refine blk_alloc ?_ _)); exact BK302.out) hb); have n2_ := Aside0.mk (below_step (by repeat (first | (with_reducible first | exact HB.out | apply below_alloc | apply pw_below_drewN | apply below_drew1 | refine below_set ?_ GE302.out) | exact HB.out)) hb); clear BK302; clear HB; have HO310 := n0_; have BK302 := n1_; have HB := n2_; clear n0_ n1_ n2_; (try clear hb); (try clear hb2); (try clear hk); (try clear hi); (try clear ho0); obtain ⟨Ao20, co20, eo20⟩ := Kd.R_slice HO310.out; subst eo20) | ((with_reducible refine gate_callee (f := 12) rfl ?_); refine goesL_ (some 14) rfl rfl Try.func12 (by kernel_rfl) rfl #[.agg #[.int .i64 t304, .int .i64 t305, .int .i64 t306, .int .i64 t307, .slice Ao20 t308.length co20, .int .i64 t311, .int .i64 t312, .int .i64 t313, .int .i64 t314, .int .i64 t315, .int .i64 t316, .int .i64 t317]] rfl (by (try simp only [List.map_toArray, List.map_cons, List.map_nil]); first | done | rfl | (simp only [List.length_drop, List.length_take]; rfl)) ?_; (with_reducible refine (spec_IsDesk.calls k t304 t305 t306 t307 _ _ t308 t311 t312 t313 t314 t315 t316 t317 t318 _ ?side1 ?side2 A8.out).mono ?_); (case side1 => repeat (first | exact (Kd.R_reads' HO310.out).2.2 | (with_reducible refine Kd.C_alloc ?_ _) | (with_reducible refine Kd.C_drewN ?_ _) | (with_reducible refine Kd.C_drew ?_))); (case side2 => exact (Kd.R_reads' HO310.out).2.1); rintro e w21 ⟨rfl, hb⟩; refine ⟨_, rfl, ?_⟩; have n0_ := Aside0.mk (Kd.R_below (by (with_reducible repeat (first | apply Kd.R_alloc | apply Kd.R_drewN | apply Kd.R_drew)); exact HO310.out) hb); have n1_ := Aside0.mk (blk_below (g := gb302) (o := .cells #[.int .i64 a0_0, .int .i64 a0_1, .int .i64 a0_2, .int .i64 a0_3, .slice A0_4 l0_4.length c0_4, .int .i64 a0_5, .int .i64 a0_6, .int .i64 a0_7, .int .i64 a0_8, .int .i64 a0_9, .int .i64 a0_10, .int .i64 a0_11] 40 (0, 0)) (by (with_reducible repeat (first | refine blk_drewN ?_ _ | refine blk_drew ?_ | refine blk_alloc ?_ _)); exact BK302.out) hb); have n2_ := Aside0.mk (below_step (by repeat (first | (with_reducible first | exact HB.out | apply below_alloc | apply pw_below_drewN | apply below_drew1 | refine below_set ?_ GE302.out) | exact HB.out)) hb); clear HO310; clear BK302; clear HB; have HO310 := n0_; have BK302 := n1_; have HB := n2_; clear n0_ n1_ n2_; (try clear hb); (try clear hb2); (try clear hk); (try clear hi); have hcz22_0 : w21.cell? ⟨gb302, 0, none⟩ = some (.int .i64 a0_0) := (blk_cell BK302.out 0).trans rfl; have hcz22_1 : w21.cell? ⟨gb302, 1, none⟩ = some (.int .i64 a0_1) := (blk_cell BK302.out 1).trans rfl; have hcz22_2 : w21.cell? ⟨gb302, 2, none⟩ = some (.int .i64 a0_2) := (blk_cell BK302.out 2).trans rfl; have hcz22_3 : w21.cell? ⟨gb302, 3, none⟩ = some (.int .i64 a0_3) := (blk_cell BK302.out 3).trans rfl; have hcz22_4 : w21.cell? ⟨gb302, 4, none⟩ = some (.slice A0_4 l0_4.length c0_4) := (blk_cell BK302.out 4).trans rfl; have hcz22_5 : w21.cell? ⟨gb302, 5, none⟩ = some (.int .i64 a0_5) := (blk_cell BK302.out 5).trans rfl; have hcz22_6 : w21.cell? ⟨gb302, 6, none⟩ = some (.int .i64 a0_6) := (blk_cell BK302.out 6).trans rfl; have hcz22_7 : w21.cell? ⟨gb302, 7, none⟩ = some (.int .i64 a0_7) := (blk_cell BK302.out 7).trans rfl; have hcz22_8 : w21.cell? ⟨gb302, 8, none⟩ = some (.int .i64 a0_8) := (blk_cell BK302.out 8).trans rfl; have hcz22_9 : w21.cell? ⟨gb302, 9, none⟩ = some (.int .i64 a0_9) := (blk_cell BK302.out 9).trans rfl; have hcz22_10 : w21.cell? ⟨gb302, 10, none⟩ = some (.int .i64 a0_10) := (blk_cell BK302.out 10).trans rfl; have hcz22_11 : w21.cell? ⟨gb302, 11, none⟩ = some (.int .i64 a0_11) := (blk_cell BK302.out 11).trans rfl; have hfz22_0 := blk_frozen BK302.out 0; have hfz22_1 := blk_frozen BK302.out 1; have hfz22_2 := blk_frozen BK302.out 2; have hfz22_3 := blk_frozen BK302.out 3; have hfz22_4 := blk_frozen BK302.out 4; have hfz22_5 := blk_frozen BK302.out 5; have hfz22_6 := blk_frozen BK302.out 6; have hfz22_7 := blk_frozen BK302.out 7; have hfz22_8 := blk_frozen BK302.out 8; have hfz22_9 := blk_frozen BK302.out 9; have hfz22_10 := blk_frozen BK302.out 10; have hfz22_11 := blk_frozen BK302.out 11) | ((with_reducible refine gate_callee (f := 13) rfl ?_); refine goesL_ (some 16) rfl rfl Try.func13 (by kernel_rfl) rfl #[.agg #[.int .i64 a0_0, .int .i64 a0_1, .int .i64 a0_2, .int .i64 a0_3, .slice A0_4 l0_4.length c0_4, .int .i64 a0_5, .int .i64 a0_6, .int .i64 a0_7, .int .i64 a0_8, .int .i64 a0_9, .int .i64 a0_10, .int .i64 a0_11]] rfl (by (try simp only [List.map_toArray, List.map_cons, List.map_nil]); first | done | rfl | (simp only [List.length_drop, List.length_take]; rfl)) ?_; (with_reducible refine (laws_toDesk.calls k a0_0 a0_1 a0_2 a0_3 _ _ l0_4 a0_5 a0_6 a0_7 a0_8 a0_9 a0_10 a0_11 t319 t320 t321 t322 t323 t326 t327 t328 t329 t330 t331 t332 _ ?side1 ?side2 A9.out).mono ?_); (case side1 => repeat (first | exact (Kd.C_below HR0_4.out HB.out) | (with_reducible refine Kd.C_alloc ?_ _) | (with_reducible refine Kd.C_drewN ?_ _) | (with_reducible refine Kd.C_drew ?_))); (case side2 => exact HC0_4.out); rintro e w23 ⟨v324, rfl, ho0, hb⟩; refine ⟨_, rfl, ?_⟩; have n0_ := Aside0.mk (Kd.R_elder' (by (with_reducible repeat (first | apply Kd.R_alloc | apply Kd.R_drewN | apply Kd.R_drew)); exact HO310.out) (Kd.R_base ho0) hb); have n1_ := Aside0.mk (Kd.R_lower (Kd.R_new' ho0 (Kd.R_lt (by (with_reducible repeat (first | apply Kd.R_alloc | apply Kd.R_drewN | apply Kd.R_drew)); exact HO310.out))) (below_size (by repeat (first | (with_reducible first | exact HB.out | apply below_alloc | apply pw_below_drewN | apply below_drew1 | refine below_set ?_ GE302.out) | exact HB.out)))); have n2_ := Aside0.mk (blk_below (g := gb302) (o := .cells #[.int .i64 a0_0, .int .i64 a0_1, .int .i64 a0_2, .int .i64 a0_3, .slice A0_4 l0_4.length c0_4, .int .i64 a0_5, .int .i64 a0_6, .int .i64 a0_7, .int .i64 a0_8, .int .i64 a0_9, .int .i64 a0_10, .int .i64 a0_11] 40 (0, 0)) (by (with_reducible repeat (first | refine blk_drewN ?_ _ | refine blk_drew ?_ | refine blk_alloc ?_ _)); exact BK302.out) hb); have n3_ := Aside0.mk (below_step (by repeat (first | (with_reducible first | exact HB.out | apply below_alloc | apply pw_below_drewN | apply below_drew1 | refine below_set ?_ GE302.out) | exact HB.out)) hb); clear HO310; clear BK302; clear HB; have HO310 := n0_; have HO325 := n1_; have BK302 := n2_; have HB := n3_; clear n0_ n1_ n2_ n3_; (try clear hb); (try clear hb2); (try clear hk); (try clear hi); (try clear ho0)) | ((with_reducible refine gate_dst (N := 5) rfl ?_); refine box_event ?hg (N := 5) ?hd (cs := #[.int .i64 0, .int .i64 0, .int .i64 0, .int .i64 0, .slice none 0 0, .int .i64 0, .int .i64 0, .int .i64 0, .int .i64 0, .int .i64 0, .int .i64 0, .int .i64 0]) (t := 30) ?hr ?_; (case hd => rfl); (case hg => rfl); (case hr => first | (go_simp; done) | (go_simp; rfl)); intro gb333 hg w24 hbox hb; have n0_ := Aside0.mk (Kd.R_below (by (with_reducible repeat (first | apply Kd.R_alloc | apply Kd.R_drewN | apply Kd.R_drew)); exact HO310.out) hb); have n1_ := Aside0.mk (Kd.R_below (by (with_reducible repeat (first | apply Kd.R_alloc | apply Kd.R_drewN | apply Kd.R_drew)); exact HO325.out) hb); have n2_ := Aside0.mk (blk_below (g := gb302) (o := .cells #[.int .i64 a0_0, .int .i64 a0_1, .int .i64 a0_2, .int .i64 a0_3, .slice A0_4 l0_4.length c0_4, .int .i64 a0_5, .int .i64 a0_6, .int .i64 a0_7, .int .i64 a0_8, .int .i64 a0_9, .int .i64 a0_10, .int .i64 a0_11] 40 (0, 0)) (by (with_reducible repeat (first | refine blk_drewN ?_ _ | refine blk_drew ?_ | refine blk_alloc ?_ _)); exact BK302.out) hb); have n3_ := Aside0.mk (below_step (by repeat (first | (with_reducible first | exact HB.out | apply below_alloc | apply pw_below_drewN | apply below_drew1 | refine below_set ?_ GE302.out) | exact HB.out)) hb); have n4_ := Aside0.mk (hbox); have n5_ := Aside0.mk ((by rw [hg]; exact (below_size (by repeat (first | (with_reducible first | exact HB.out | apply below_alloc | apply pw_below_drewN | apply below_drew1 | refine below_set ?_ GE302.out) | exact HB.out))) : w.heap.size ≤ gb333)); have n6_ := Aside0.mk ((by rw [hg]; exact (below_size (by repeat (first | (with_reducible first | exact HB.out | apply below_alloc | apply pw_below_drewN | apply below_drew1 | refine below_set ?_ GE302.out) | exact HB.out))) : w.heap.size ≤ gb333)); have n7_ := Aside0.mk ((by rw [hg]; exact Nat.ne_of_lt (blk_lt (g := gb302) (o := .cells #[.int .i64 a0_0, .int .i64 a0_1, .int .i64 a0_2, .int .i64 a0_3, .slice A0_4 l0_4.length c0_4, .int .i64 a0_5, .int .i64 a0_6, .int .i64 a0_7, .int .i64 a0_8, .int .i64 a0_9, .int .i64 a0_10, .int .i64 a0_11] 40 (0, 0)) (by (with_reducible repeat (first | refine blk_drewN ?_ _ | refine blk_drew ?_ | refine blk_alloc ?_ _)); exact BK302.out)) : gb302 ≠ gb333)); have n8_ := Aside0.mk ((by rw [hg]; exact Nat.ne_of_gt (blk_lt (g := gb302) (o := .cells #[.int .i64 a0_0, .int .i64 a0_1, .int .i64 a0_2, .int .i64 a0_3, .slice A0_4 l0_4.length c0_4, .int .i64 a0_5, .int .i64 a0_6, .int .i64 a0_7, .int .i64 a0_8, .int .i64 a0_9, .int .i64 a0_10, .int .i64 a0_11] 40 (0, 0)) (by (with_reducible repeat (first | refine blk_drewN ?_ _ | refine blk_drew ?_ | refine blk_alloc ?_ _)); exact BK302.out)) : gb333 ≠ gb302)); clear HO310; clear HO325; clear BK302; clear HB; have HO310 := n0_; have HO325 := n1_; have BK302 := n2_; have HB := n3_; have BK333 := n4_; have GW333 := n5_; have GE333 := n6_; have NB302_333 := n7_; have NB333_302 := n8_; clear n0_ n1_ n2_ n3_ n4_ n5_ n6_ n7_ n8_; clear hb hbox hg; have hnb25 := NB333_302.out; have hnc25 := NB302_333.out; have hcz26_0 : w24.cell? ⟨gb333, 0, none⟩ = some (.int .i64 0) := (blk_cell BK333.out 0).trans rfl; have hcz26_1 : w24.cell? ⟨gb333, 1, none⟩ = some (.int .i64 0) := (blk_cell BK333.out 1).trans rfl; have hcz26_2 : w24.cell? ⟨gb333, 2, none⟩ = some (.int .i64 0) := (blk_cell BK333.out 2).trans rfl; have hcz26_3 : w24.cell? ⟨gb333, 3, none⟩ = some (.int .i64 0) := (blk_cell BK333.out 3).trans rfl; have hcz26_4 : w24.cell? ⟨gb333, 4, none⟩ = some (.slice none 0 0) := (blk_cell BK333.out 4).trans rfl; have hcz26_5 : w24.cell? ⟨gb333, 5, none⟩ = some (.int .i64 0) := (blk_cell BK333.out 5).trans rfl; have hcz26_6 : w24.cell? ⟨gb333, 6, none⟩ = some (.int .i64 0) := (blk_cell BK333.out 6).trans rfl; have hcz26_7 : w24.cell? ⟨gb333, 7, none⟩ = some (.int .i64 0) := (blk_cell BK333.out 7).trans rfl; have hcz26_8 : w24.cell? ⟨gb333, 8, none⟩ = some (.int .i64 0) := (blk_cell BK333.out 8).trans rfl; have hcz26_9 : w24.cell? ⟨gb333, 9, none⟩ = some (.int .i64 0) := (blk_cell BK333.out 9).trans rfl; have hcz26_10 : w24.cell? ⟨gb333, 10, none⟩ = some (.int .i64 0) := (blk_cell BK333.out 10).trans rfl; have hcz26_11 : w24.cell? ⟨gb333, 11, none⟩ = some (.int .i64 0) := (blk_cell BK333.out 11).trans rfl; have hfz26_0 := blk_frozen BK333.out 0; have hfz26_1 := blk_frozen BK333.out 1; have hfz26_2 := blk_frozen BK333.out 2; have hfz26_3 := blk_frozen BK333.out 3; have hfz26_4 := blk_frozen BK333.out 4; have hfz26_5 := blk_frozen BK333.out 5; have hfz26_6 := blk_frozen BK333.out 6; have hfz26_7 := blk_frozen BK333.out 7; have hfz26_8 := blk_frozen BK333.out 8; have hfz26_9 := blk_frozen BK333.out 9; have hfz26_10 := blk_frozen BK333.out 10; have hfz26_11 := blk_frozen BK333.out 11; obtain ⟨Ao27, co27, eo27⟩ := Kd.R_slice HO325.out; subst eo27) | ((with_reducible refine gate_callee (f := 14) rfl ?_); refine goesL_ (some 18) rfl rfl Try.func14 (by kernel_rfl) rfl #[.agg #[.int .i64 t319, .int .i64 t320, .int .i64 t321, .int .i64 t322, .slice Ao27 t323.length co27, .int .i64 t326, .int .i64 t327, .int .i64 t328, .int .i64 t329, .int .i64 t330, .int .i64 t331, .int .i64 t332]] rfl (by (try simp only [List.map_toArray, List.map_cons, List.map_nil]); first | done | rfl | (simp only [List.length_drop, List.length_take]; rfl)) ?_; (with_reducible refine (impl_IsDesk.calls k t319 t320 t321 t322 _ _ t323 t326 t327 t328 t329 t330 t331 t332 t334 _ ?side1 ?side2 A10.out).mono ?_); (case side1 => refine (Kd.R_reads' (e := 48) (base := w.heap.size) (ok := fun k_ => (True ∧ some k_ ≠ (.slice Ao20 t308.length co20 : Value).ownBlock)) (n := t323.length) (c := co27) ?_).2.2; exact (by (with_reducible repeat (first | apply Kd.R_alloc | apply Kd.R_drewN | apply Kd.R_drew)); exact (Kd.R_mono (Kd.R_far (p := ⟨gb333, 11, none⟩) (Kd.R_far (p := ⟨gb333, 10, none⟩) (Kd.R_far (p := ⟨gb333, 9, none⟩) (Kd.R_far (p := ⟨gb333, 8, none⟩) (Kd.R_far (p := ⟨gb333, 7, none⟩) (Kd.R_far (p := ⟨gb333, 6, none⟩) (Kd.R_far (p := ⟨gb333, 5, none⟩) (Kd.R_far (p := ⟨gb333, 4, none⟩) (Kd.R_far (p := ⟨gb333, 3, none⟩) (Kd.R_far (p := ⟨gb333, 2, none⟩) (Kd.R_far (p := ⟨gb333, 1, none⟩) (Kd.R_far (p := ⟨gb333, 0, none⟩) (Kd.R_types HO325.out BK333.out (by decide)) (fun _ hk => hk.2) (.int .i64 t319)) (fun _ hk => hk.2) (.int .i64 t320)) (fun _ hk => hk.2) (.int .i64 t321)) (fun _ hk => hk.2) (.int .i64 t322)) (fun _ hk => hk.2) (.slice Ao27 t323.length co27)) (fun _ hk => hk.2) (.int .i64 t326)) (fun _ hk => hk.2) (.int .i64 t327)) (fun _ hk => hk.2) (.int .i64 t328)) (fun _ hk => hk.2) (.int .i64 t329)) (fun _ hk => hk.2) (.int .i64 t330)) (fun _ hk => hk.2) (.int .i64 t331)) (fun _ hk => hk.2) (.int .i64 t332)) (fun _ h_ => h_.1)))); (case side2 => exact (Kd.R_reads' HO325.out).2.1); rintro e w28 ⟨rfl, hb⟩; refine ⟨_, rfl, ?_⟩; have n0_ := Aside0.mk (Kd.R_below (by (with_reducible repeat (first | apply Kd.R_alloc | apply Kd.R_drewN | apply Kd.R_drew)); exact (Kd.R_mono (Kd.R_far (p := ⟨gb333, 11, none⟩) (Kd.R_far (p := ⟨gb333, 10, none⟩) (Kd.R_far (p := ⟨gb333, 9, none⟩) (Kd.R_far (p := ⟨gb333, 8, none⟩) (Kd.R_far (p := ⟨gb333, 7, none⟩) (Kd.R_far (p := ⟨gb333, 6, none⟩) (Kd.R_far (p := ⟨gb333, 5, none⟩) (Kd.R_far (p := ⟨gb333, 4, none⟩) (Kd.R_far (p := ⟨gb333, 3, none⟩) (Kd.R_far (p := ⟨gb333, 2, none⟩) (Kd.R_far (p := ⟨gb333, 1, none⟩) (Kd.R_far (p := ⟨gb333, 0, none⟩) (Kd.R_types HO310.out BK333.out (by decide)) (fun _ hk => hk.2) (.int .i64 t319)) (fun _ hk => hk.2) (.int .i64 t320)) (fun _ hk => hk.2) (.int .i64 t321)) (fun _ hk => hk.2) (.int .i64 t322)) (fun _ hk => hk.2) (.slice Ao27 t323.length co27)) (fun _ hk => hk.2) (.int .i64 t326)) (fun _ hk => hk.2) (.int .i64 t327)) (fun _ hk => hk.2) (.int .i64 t328)) (fun _ hk => hk.2) (.int .i64 t329)) (fun _ hk => hk.2) (.int .i64 t330)) (fun _ hk => hk.2) (.int .i64 t331)) (fun _ hk => hk.2) (.int .i64 t332)) (fun _ h_ => h_.1))) hb); have n1_ := Aside0.mk (Kd.R_below (by (with_reducible repeat (first | apply Kd.R_alloc | apply Kd.R_drewN | apply Kd.R_drew)); exact (Kd.R_mono (Kd.R_far (p := ⟨gb333, 11, none⟩) (Kd.R_far (p := ⟨gb333, 10, none⟩) (Kd.R_far (p := ⟨gb333, 9, none⟩) (Kd.R_far (p := ⟨gb333, 8, none⟩) (Kd.R_far (p := ⟨gb333, 7, none⟩) (Kd.R_far (p := ⟨gb333, 6, none⟩) (Kd.R_far (p := ⟨gb333, 5, none⟩) (Kd.R_far (p := ⟨gb333, 4, none⟩) (Kd.R_far (p := ⟨gb333, 3, none⟩) (Kd.R_far (p := ⟨gb333, 2, none⟩) (Kd.R_far (p := ⟨gb333, 1, none⟩) (Kd.R_far (p := ⟨gb333, 0, none⟩) (Kd.R_types HO325.out BK333.out (by decide)) (fun _ hk => hk.2) (.int .i64 t319)) (fun _ hk => hk.2) (.int .i64 t320)) (fun _ hk => hk.2) (.int .i64 t321)) (fun _ hk => hk.2) (.int .i64 t322)) (fun _ hk => hk.2) (.slice Ao27 t323.length co27)) (fun _ hk => hk.2) (.int .i64 t326)) (fun _ hk => hk.2) (.int .i64 t327)) (fun _ hk => hk.2) (.int .i64 t328)) (fun _ hk => hk.2) (.int .i64 t329)) (fun _ hk => hk.2) (.int .i64 t330)) (fun _ hk => hk.2) (.int .i64 t331)) (fun _ hk => hk.2) (.int .i64 t332)) (fun _ h_ => h_.1))) hb); have n2_ := Aside0.mk (blk_below (g := gb302) (o := .cells #[.int .i64 a0_0, .int .i64 a0_1, .int .i64 a0_2, .int .i64 a0_3, .slice A0_4 l0_4.length c0_4, .int .i64 a0_5, .int .i64 a0_6, .int .i64 a0_7, .int .i64 a0_8, .int .i64 a0_9, .int .i64 a0_10, .int .i64 a0_11] 40 (0, 0)) (by (with_reducible repeat (first | refine blk_drewN ?_ _ | refine blk_drew ?_ | refine blk_alloc ?_ _)); refine blk_far ?_ NB302_333.out _; (with_reducible repeat (first | refine blk_drewN ?_ _ | refine blk_drew ?_ | refine blk_alloc ?_ _)); refine blk_far ?_ NB302_333.out _; (with_reducible repeat (first | refine blk_drewN ?_ _ | refine blk_drew ?_ | refine blk_alloc ?_ _)); refine blk_far ?_ NB302_333.out _; (with_reducible repeat (first | refine blk_drewN ?_ _ | refine blk_drew ?_ | refine blk_alloc ?_ _)); refine blk_far ?_ NB302_333.out _; (with_reducible repeat (first | refine blk_drewN ?_ _ | refine blk_drew ?_ | refine blk_alloc ?_ _)); refine blk_far ?_ NB302_333.out _; (with_reducible repeat (first | refine blk_drewN ?_ _ | refine blk_drew ?_ | refine blk_alloc ?_ _)); refine blk_far ?_ NB302_333.out _; (with_reducible repeat (first | refine blk_drewN ?_ _ | refine blk_drew ?_ | refine blk_alloc ?_ _)); refine blk_far ?_ NB302_333.out _; (with_reducible repeat (first | refine blk_drewN ?_ _ | refine blk_drew ?_ | refine blk_alloc ?_ _)); refine blk_far ?_ NB302_333.out _; (with_reducible repeat (first | refine blk_drewN ?_ _ | refine blk_drew ?_ | refine blk_alloc ?_ _)); refine blk_far ?_ NB302_333.out _; (with_reducible repeat (first | refine blk_drewN ?_ _ | refine blk_drew ?_ | refine blk_alloc ?_ _)); refine blk_far ?_ NB302_333.out _; (with_reducible repeat (first | refine blk_drewN ?_ _ | refine blk_drew ?_ | refine blk_alloc ?_ _)); refine blk_far ?_ NB302_333.out _; (with_reducible repeat (first | refine blk_drewN ?_ _ | refine blk_drew ?_ | refine blk_alloc ?_ _)); refine blk_far ?_ NB302_333.out _; (with_reducible repeat (first | refine blk_drewN ?_ _ | refine blk_drew ?_ | refine blk_alloc ?_ _)); exact BK302.out) hb); have n3_ := Aside0.mk (blk_below (g := gb333) (o := .cells #[.int .i64 t319, .int .i64 t320, .int .i64 t321, .int .i64 t322, .slice Ao27 t323.length co27, .int .i64 t326, .int .i64 t327, .int .i64 t328, .int .i64 t329, .int .i64 t330, .int .i64 t331, .int .i64 t332] 30 (0, 0)) (by (with_reducible repeat (first | refine blk_drewN ?_ _ | refine blk_drew ?_ | refine blk_alloc ?_ _)); refine blk_put (cs := #[.int .i64 t319, .int .i64 t320, .int .i64 t321, .int .i64 t322, .slice Ao27 t323.length co27, .int .i64 t326, .int .i64 t327, .int .i64 t328, .int .i64 t329, .int .i64 t330, .int .i64 t331, .int .i64 0]) ?_ 11 _ rfl; (with_reducible repeat (first | refine blk_drewN ?_ _ | refine blk_drew ?_ | refine blk_alloc ?_ _)); refine blk_put (cs := #[.int .i64 t319, .int .i64 t320, .int .i64 t321, .int .i64 t322, .slice Ao27 t323.length co27, .int .i64 t326, .int .i64 t327, .int .i64 t328, .int .i64 t329, .int .i64 t330, .int .i64 0, .int .i64 0]) ?_ 10 _ rfl; (with_reducible repeat (first | refine blk_drewN ?_ _ | refine blk_drew ?_ | refine blk_alloc ?_ _)); refine blk_put (cs := #[.int .i64 t319, .int .i64 t320, .int .i64 t321, .int .i64 t322, .slice Ao27 t323.length co27, .int .i64 t326, .int .i64 t327, .int .i64 t328, .int .i64 t329, .int .i64 0, .int .i64 0, .int .i64 0]) ?_ 9 _ rfl; (with_reducible repeat (first | refine blk_drewN ?_ _ | refine blk_drew ?_ | refine blk_alloc ?_ _)); refine blk_put (cs := #[.int .i64 t319, .int .i64 t320, .int .i64 t321, .int .i64 t322, .slice Ao27 t323.length co27, .int .i64 t326, .int .i64 t327, .int .i64 t328, .int .i64 0, .int .i64 0, .int .i64 0, .int .i64 0]) ?_ 8 _ rfl; (with_reducible repeat (first | refine blk_drewN ?_ _ | refine blk_drew ?_ | refine blk_alloc ?_ _)); refine blk_put (cs := #[.int .i64 t319, .int .i64 t320, .int .i64 t321, .int .i64 t322, .slice Ao27 t323.length co27, .int .i64 t326, .int .i64 t327, .int .i64 0, .int .i64 0, .int .i64 0, .int .i64 0, .int .i64 0]) ?_ 7 _ rfl; (with_reducible repeat (first | refine blk_drewN ?_ _ | refine blk_drew ?_ | refine blk_alloc ?_ _)); refine blk_put (cs := #[.int .i64 t319, .int .i64 t320, .int .i64 t321, .int .i64 t322, .slice Ao27 t323.length co27, .int .i64 t326, .int .i64 0, .int .i64 0, .int .i64 0, .int .i64 0, .int .i64 0, .int .i64 0]) ?_ 6 _ rfl; (with_reducible repeat (first | refine blk_drewN ?_ _ | refine blk_drew ?_ | refine blk_alloc ?_ _)); refine blk_put (cs := #[.int .i64 t319, .int .i64 t320, .int .i64 t321, .int .i64 t322, .slice Ao27 t323.length co27, .int .i64 0, .int .i64 0, .int .i64 0, .int .i64 0, .int .i64 0, .int .i64 0, .int .i64 0]) ?_ 5 _ rfl; (with_reducible repeat (first | refine blk_drewN ?_ _ | refine blk_drew ?_ | refine blk_alloc ?_ _)); refine blk_put (cs := #[.int .i64 t319, .int .i64 t320, .int .i64 t321, .int .i64 t322, .slice none 0 0, .int .i64 0, .int .i64 0, .int .i64 0, .int .i64 0, .int .i64 0, .int .i64 0, .int .i64 0]) ?_ 4 _ rfl; (with_reducible repeat (first | refine blk_drewN ?_ _ | refine blk_drew ?_ | refine blk_alloc ?_ _)); refine blk_put (cs := #[.int .i64 t319, .int .i64 t320, .int .i64 t321, .int .i64 0, .slice none 0 0, .int .i64 0, .int .i64 0, .int .i64 0, .int .i64 0, .int .i64 0, .int .i64 0, .int .i64 0]) ?_ 3 _ rfl; (with_reducible repeat (first | refine blk_drewN ?_ _ | refine blk_drew ?_ | refine blk_alloc ?_ _)); refine blk_put (cs := #[.int .i64 t319, .int .i64 t320, .int .i64 0, .int .i64 0, .slice none 0 0, .int .i64 0, .int .i64 0, .int .i64 0, .int .i64 0, .int .i64 0, .int .i64 0, .int .i64 0]) ?_ 2 _ rfl; (with_reducible repeat (first | refine blk_drewN ?_ _ | refine blk_drew ?_ | refine blk_alloc ?_ _)); refine blk_put (cs := #[.int .i64 t319, .int .i64 0, .int .i64 0, .int .i64 0, .slice none 0 0, .int .i64 0, .int .i64 0, .int .i64 0, .int .i64 0, .int .i64 0, .int .i64 0, .int .i64 0]) ?_ 1 _ rfl; (with_reducible repeat (first | refine blk_drewN ?_ _ | refine blk_drew ?_ | refine blk_alloc ?_ _)); refine blk_put (cs := #[.int .i64 0, .int .i64 0, .int .i64 0, .int .i64 0, .slice none 0 0, .int .i64 0, .int .i64 0, .int .i64 0, .int .i64 0, .int .i64 0, .int .i64 0, .int .i64 0]) ?_ 0 _ rfl; (with_reducible repeat (first | refine blk_drewN ?_ _ | refine blk_drew ?_ | refine blk_alloc ?_ _)); exact BK333.out) hb); have n4_ := Aside0.mk (below_step (by repeat (first | (with_reducible first | exact HB.out | apply below_alloc | apply pw_below_drewN | apply below_drew1 | refine below_set ?_ GE302.out | refine below_set ?_ GE333.out) | exact HB.out)) hb); clear HO310; clear HO325; clear BK302; clear BK333; clear HB; have HO310 := n0_; have HO325 := n1_; have BK302 := n2_; have BK333 := n3_; have HB := n4_; clear n0_ n1_ n2_ n3_ n4_; (try clear hb); (try clear hb2); (try clear hk); (try clear hi)))
    have n0_ := Aside0.mk (Kd.R_drew HO310.out)
    have n1_ := Aside0.mk (Kd.R_drew HO325.out)
    have n2_ := Aside0.mk (blk_drew BK302.out)
    have n3_ := Aside0.mk (blk_drew BK333.out)
    have n4_ := Aside0.mk (below_drew1 HB.out)
    clear HO310; clear HO325; clear BK302; clear BK333; clear HB; have HO310 := n0_; have HO325 := n1_; have BK302 := n2_; have BK333 := n3_; have HB := n4_; clear n0_ n1_ n2_ n3_ n4_
    refine start_ (n := 5) (S := fun w' => w'.cell? ⟨gb333, 0, none⟩ = some (.int .i64 t319) ∧ w'.cell? ⟨gb333, 1, none⟩ = some (.int .i64 t320) ∧ w'.cell? ⟨gb333, 2, none⟩ = some (.int .i64 t321) ∧ w'.cell? ⟨gb333, 3, none⟩ = some (.int .i64 t322) ∧ w'.cell? ⟨gb333, 4, none⟩ = some (.slice Ao27 t323.length co27) ∧ w'.cell? ⟨gb333, 5, none⟩ = some (.int .i64 t326) ∧ w'.cell? ⟨gb333, 6, none⟩ = some (.int .i64 t327) ∧ w'.cell? ⟨gb333, 7, none⟩ = some (.int .i64 t328) ∧ w'.cell? ⟨gb333, 8, none⟩ = some (.int .i64 t329) ∧ w'.cell? ⟨gb333, 9, none⟩ = some (.int .i64 t330) ∧ w'.cell? ⟨gb333, 10, none⟩ = some (.int .i64 t331) ∧ w'.cell? ⟨gb333, 11, none⟩ = some (.int .i64 t332) ∧ w'.cell? ⟨gb302, 0, none⟩ = some (.int .i64 a0_0) ∧ w'.cell? ⟨gb302, 1, none⟩ = some (.int .i64 a0_1) ∧ w'.cell? ⟨gb302, 2, none⟩ = some (.int .i64 a0_2) ∧ w'.cell? ⟨gb302, 3, none⟩ = some (.int .i64 a0_3) ∧ w'.cell? ⟨gb302, 4, none⟩ = some (.slice A0_4 l0_4.length c0_4) ∧ w'.cell? ⟨gb302, 5, none⟩ = some (.int .i64 a0_5) ∧ w'.cell? ⟨gb302, 6, none⟩ = some (.int .i64 a0_6) ∧ w'.cell? ⟨gb302, 7, none⟩ = some (.int .i64 a0_7) ∧ w'.cell? ⟨gb302, 8, none⟩ = some (.int .i64 a0_8) ∧ w'.cell? ⟨gb302, 9, none⟩ = some (.int .i64 a0_9) ∧ w'.cell? ⟨gb302, 10, none⟩ = some (.int .i64 a0_10) ∧ w'.cell? ⟨gb302, 11, none⟩ = some (.int .i64 a0_11)) (ds := []) #[false, false, false, false, false] (by kernel_rfl) rfl rfl ⟨(blk_cell BK333.out 0).trans rfl, (blk_cell BK333.out 1).trans rfl, (blk_cell BK333.out 2).trans rfl, (blk_cell BK333.out 3).trans rfl, (blk_cell BK333.out 4).trans rfl, (blk_cell BK333.out 5).trans rfl, (blk_cell BK333.out 6).trans rfl, (blk_cell BK333.out 7).trans rfl, (blk_cell BK333.out 8).trans rfl, (blk_cell BK333.out 9).trans rfl, (blk_cell BK333.out 10).trans rfl, (blk_cell BK333.out 11).trans rfl, (blk_cell BK302.out 0).trans rfl, (blk_cell BK302.out 1).trans rfl, (blk_cell BK302.out 2).trans rfl, (blk_cell BK302.out 3).trans rfl, (blk_cell BK302.out 4).trans rfl, (blk_cell BK302.out 5).trans rfl, (blk_cell BK302.out 6).trans rfl, (blk_cell BK302.out 7).trans rfl, (blk_cell BK302.out 8).trans rfl, (blk_cell BK302.out 9).trans rfl, (blk_cell BK302.out 10).trans rfl, (blk_cell BK302.out 11).trans rfl⟩ (fun hHeld => ?_)
    generalize w28.drew = w29 at HO310 HO325 BK302 BK333 HB hHeld ⊢
    refine take_ (i := 0) (N := some 22) (v := ?_) (a' := ?_) #[true, false, false, false, false] rfl rfl (by kernel_rfl) (fun _ _ _ h => h) (Or.inl ⟨by rfl, ?_⟩) hHeld ?_ ?_
    rotate_left
    ·rintro w' ⟨s0, s1, s2, s3, s4, s5, s6, s7, s8, s9, s10, s11, s12, s13, s14, s15, s16, s17, s18, s19, s20, s21, s22, s23⟩
     go_simp
     with_reducible rfl
    rotate_left
    ·simp only [Act.put, List.setIfInBounds_toArray, List.set_cons_zero, List.set_cons_succ, i64_w, i32_w]
     rfl
    refine take_ (i := 1) (N := some 23) (v := ?_) (a' := ?_) #[true, true, false, false, false] rfl rfl (by kernel_rfl) (fun _ _ _ h => h) (Or.inl ⟨by rfl, ?_⟩) hHeld ?_ ?_
    rotate_left
    ·rintro w' ⟨s0, s1, s2, s3, s4, s5, s6, s7, s8, s9, s10, s11, s12, s13, s14, s15, s16, s17, s18, s19, s20, s21, s22, s23⟩
     go_simp
     with_reducible rfl
    rotate_left
    ·simp only [Act.put, List.setIfInBounds_toArray, List.set_cons_zero, List.set_cons_succ, i64_w, i32_w]
     rfl
    refine one_ (i := 2) (N := some 24) #[true, true, true, false, false] rfl rfl (by kernel_rfl) (by decide) (fun K hK => ?_)
    refine goes_ Try.func13 (by kernel_rfl) rfl #[.agg #[.int .i64 a0_0, .int .i64 a0_1, .int .i64 a0_2, .int .i64 a0_3, .slice A0_4 l0_4.length c0_4, .int .i64 a0_5, .int .i64 a0_6, .int .i64 a0_7, .int .i64 a0_8, .int .i64 a0_9, .int .i64 a0_10, .int .i64 a0_11]] (by rfl) rfl rfl (by (try simp only [List.map_toArray, List.map_cons, List.map_nil]); first | done | rfl | (simp only [List.length_drop, List.length_take]; rfl)) ?_
    with_reducible refine (laws_toDesk.calls k a0_0 a0_1 a0_2 a0_3 _ _ l0_4 a0_5 a0_6 a0_7 a0_8 a0_9 a0_10 a0_11 t335 t336 t337 t338 t339 t342 t343 t344 t345 t346 t347 t348 _ ?side1 ?side2 A12.out).mono ?_
    (case side1 => repeat (first | exact (Kd.C_below HR0_4.out HB.out) | (with_reducible refine Kd.C_alloc ?_ _) | (with_reducible refine Kd.C_drewN ?_ _) | (with_reducible refine Kd.C_drew ?_)))
    (case side2 => exact HC0_4.out)
    rintro e w30 ⟨v340, rfl, ho0, hb⟩
    refine ⟨_, rfl, ?_⟩
    have n0_ := Aside0.mk (Kd.R_elder' (by (with_reducible repeat (first | apply Kd.R_alloc | apply Kd.R_drewN | apply Kd.R_drew)); exact HO310.out) (Kd.R_base ho0) hb)
    have n1_ := Aside0.mk (Kd.R_elder' (by (with_reducible repeat (first | apply Kd.R_alloc | apply Kd.R_drewN | apply Kd.R_drew)); exact HO325.out) (Kd.R_base ho0) hb)
    have n2_ := Aside0.mk (Kd.R_lower (Kd.R_new' (Kd.R_new' ho0 (Kd.R_lt (by (with_reducible repeat (first | apply Kd.R_alloc | apply Kd.R_drewN | apply Kd.R_drew)); exact HO310.out))) (Kd.R_lt (by (with_reducible repeat (first | apply Kd.R_alloc | apply Kd.R_drewN | apply Kd.R_drew)); exact HO325.out))) (below_size (by repeat (first | (with_reducible first | exact HB.out | apply below_alloc | apply pw_below_drewN | apply below_drew1 | refine below_set ?_ GE302.out | refine below_set ?_ GE333.out) | exact HB.out))))
    have n3_ := Aside0.mk (blk_below (g := gb302) (o := .cells #[.int .i64 a0_0, .int .i64 a0_1, .int .i64 a0_2, .int .i64 a0_3, .slice A0_4 l0_4.length c0_4, .int .i64 a0_5, .int .i64 a0_6, .int .i64 a0_7, .int .i64 a0_8, .int .i64 a0_9, .int .i64 a0_10, .int .i64 a0_11] 40 (0, 0)) (by (with_reducible repeat (first | refine blk_drewN ?_ _ | refine blk_drew ?_ | refine blk_alloc ?_ _)); exact BK302.out) hb)
    have n4_ := Aside0.mk (blk_below (g := gb333) (o := .cells #[.int .i64 t319, .int .i64 t320, .int .i64 t321, .int .i64 t322, .slice Ao27 t323.length co27, .int .i64 t326, .int .i64 t327, .int .i64 t328, .int .i64 t329, .int .i64 t330, .int .i64 t331, .int .i64 t332] 30 (0, 0)) (by (with_reducible repeat (first | refine blk_drewN ?_ _ | refine blk_drew ?_ | refine blk_alloc ?_ _)); exact BK333.out) hb)
    have n5_ := Aside0.mk (below_step (by repeat (first | (with_reducible first | exact HB.out | apply below_alloc | apply pw_below_drewN | apply below_drew1 | refine below_set ?_ GE302.out | refine below_set ?_ GE333.out) | exact HB.out)) hb)
    clear HO310; clear HO325; clear BK302; clear BK333; clear HB; have HO310 := n0_; have HO325 := n1_; have HO341 := n2_; have BK302 := n3_; have BK333 := n4_; have HB := n5_; clear n0_ n1_ n2_ n3_ n4_ n5_
    (try clear hb)
    (try clear hb2)
    (try clear hk)
    (try clear hi)
    (try clear ho0)
    obtain ⟨Ao31, co31, eo31⟩ := Kd.R_slice HO341.out
    (first | subst eo31 | (injection eo31 with f1_ f2_ f3_; have f4_ := f1_.symm; have f5_ := f3_.symm; clear f1_ f2_ f3_; subst f4_; subst f5_))
    refine hK.out _ _ ⟨(blk_cell BK333.out 0).trans rfl, (blk_cell BK333.out 1).trans rfl, (blk_cell BK333.out 2).trans rfl, (blk_cell BK333.out 3).trans rfl, (blk_cell BK333.out 4).trans rfl, (blk_cell BK333.out 5).trans rfl, (blk_cell BK333.out 6).trans rfl, (blk_cell BK333.out 7).trans rfl, (blk_cell BK333.out 8).trans rfl, (blk_cell BK333.out 9).trans rfl, (blk_cell BK333.out 10).trans rfl, (blk_cell BK333.out 11).trans rfl, (blk_cell BK302.out 0).trans rfl, (blk_cell BK302.out 1).trans rfl, (blk_cell BK302.out 2).trans rfl, (blk_cell BK302.out 3).trans rfl, (blk_cell BK302.out 4).trans rfl, (blk_cell BK302.out 5).trans rfl, (blk_cell BK302.out 6).trans rfl, (blk_cell BK302.out 7).trans rfl, (blk_cell BK302.out 8).trans rfl, (blk_cell BK302.out 9).trans rfl, (blk_cell BK302.out 10).trans rfl, (blk_cell BK302.out 11).trans rfl⟩ (fun hHeld => ?_)
    clear hK K
    refine norm_ (a' := ?_) ?_ ?_
    rotate_left
    ·show Act.put _ (some 24) _ = _
     simp only [Act.put, List.setIfInBounds_toArray, List.set_cons_zero, List.set_cons_succ, i64_w, i32_w]
     rfl
    refine one_ (i := 3) (N := some 25) #[true, true, true, true, false] rfl rfl (by kernel_rfl) (by decide) (fun K hK => ?_)
    refine goes_ Try.func8 (by kernel_rfl) rfl #[.agg #[.int .i64 t319, .int .i64 t320, .int .i64 t321, .int .i64 t322, .slice Ao27 t323.length co27, .int .i64 t326, .int .i64 t327, .int .i64 t328, .int .i64 t329, .int .i64 t330, .int .i64 t331, .int .i64 t332], .agg #[.int .i64 t335, .int .i64 t336, .int .i64 t337, .int .i64 t338, .slice Ao31 t339.length co31, .int .i64 t342, .int .i64 t343, .int .i64 t344, .int .i64 t345, .int .i64 t346, .int .i64 t347, .int .i64 t348]] (by rfl) rfl rfl (by (try simp only [List.map_toArray, List.map_cons, List.map_nil]); first | done | rfl | (simp only [List.length_drop, List.length_take]; rfl)) ?_
    with_reducible refine (laws_eqDesk.calls k t319 t320 t321 t322 _ _ t323 t326 t327 t328 t329 t330 t331 t332 t335 t336 t337 t338 _ _ t339 t342 t343 t344 t345 t346 t347 t348 true _ ?side1 ?side2 ?side3 ?side4 A13.out).mono ?_
    (case side1 => repeat (first | exact (Kd.R_reads' HO325.out).2.2 | (with_reducible refine Kd.C_alloc ?_ _) | (with_reducible refine Kd.C_drewN ?_ _) | (with_reducible refine Kd.C_drew ?_)))
    (case side2 => exact (Kd.R_reads' HO325.out).2.1)
    (case side3 => repeat (first | exact (Kd.R_reads' HO341.out).2.2 | (with_reducible refine Kd.C_alloc ?_ _) | (with_reducible refine Kd.C_drewN ?_ _) | (with_reducible refine Kd.C_drew ?_)))
    (case side4 => exact (Kd.R_reads' HO341.out).2.1)
    rintro e w32 ⟨rfl, hb⟩
    refine ⟨_, rfl, ?_⟩
    have n0_ := Aside0.mk (Kd.R_below (by (with_reducible repeat (first | apply Kd.R_alloc | apply Kd.R_drewN | apply Kd.R_drew)); exact HO310.out) hb)
    have n1_ := Aside0.mk (Kd.R_below (by (with_reducible repeat (first | apply Kd.R_alloc | apply Kd.R_drewN | apply Kd.R_drew)); exact HO325.out) hb)
    have n2_ := Aside0.mk (Kd.R_below (by (with_reducible repeat (first | apply Kd.R_alloc | apply Kd.R_drewN | apply Kd.R_drew)); exact HO341.out) hb)
    have n3_ := Aside0.mk (blk_below (g := gb302) (o := .cells #[.int .i64 a0_0, .int .i64 a0_1, .int .i64 a0_2, .int .i64 a0_3, .slice A0_4 l0_4.length c0_4, .int .i64 a0_5, .int .i64 a0_6, .int .i64 a0_7, .int .i64 a0_8, .int .i64 a0_9, .int .i64 a0_10, .int .i64 a0_11] 40 (0, 0)) (by (with_reducible repeat (first | refine blk_drewN ?_ _ | refine blk_drew ?_ | refine blk_alloc ?_ _)); exact BK302.out) hb)
    have n4_ := Aside0.mk (blk_below (g := gb333) (o := .cells #[.int .i64 t319, .int .i64 t320, .int .i64 t321, .int .i64 t322, .slice Ao27 t323.length co27, .int .i64 t326, .int .i64 t327, .int .i64 t328, .int .i64 t329, .int .i64 t330, .int .i64 t331, .int .i64 t332] 30 (0, 0)) (by (with_reducible repeat (first | refine blk_drewN ?_ _ | refine blk_drew ?_ | refine blk_alloc ?_ _)); exact BK333.out) hb)
    have n5_ := Aside0.mk (below_step (by repeat (first | (with_reducible first | exact HB.out | apply below_alloc | apply pw_below_drewN | apply below_drew1 | refine below_set ?_ GE302.out | refine below_set ?_ GE333.out) | exact HB.out)) hb)
    clear HO310; clear HO325; clear HO341; clear BK302; clear BK333; clear HB; have HO310 := n0_; have HO325 := n1_; have HO341 := n2_; have BK302 := n3_; have BK333 := n4_; have HB := n5_; clear n0_ n1_ n2_ n3_ n4_ n5_
    (try clear hb)
    (try clear hb2)
    (try clear hk)
    (try clear hi)
    refine hK.out _ _ ⟨(blk_cell BK333.out 0).trans rfl, (blk_cell BK333.out 1).trans rfl, (blk_cell BK333.out 2).trans rfl, (blk_cell BK333.out 3).trans rfl, (blk_cell BK333.out 4).trans rfl, (blk_cell BK333.out 5).trans rfl, (blk_cell BK333.out 6).trans rfl, (blk_cell BK333.out 7).trans rfl, (blk_cell BK333.out 8).trans rfl, (blk_cell BK333.out 9).trans rfl, (blk_cell BK333.out 10).trans rfl, (blk_cell BK333.out 11).trans rfl, (blk_cell BK302.out 0).trans rfl, (blk_cell BK302.out 1).trans rfl, (blk_cell BK302.out 2).trans rfl, (blk_cell BK302.out 3).trans rfl, (blk_cell BK302.out 4).trans rfl, (blk_cell BK302.out 5).trans rfl, (blk_cell BK302.out 6).trans rfl, (blk_cell BK302.out 7).trans rfl, (blk_cell BK302.out 8).trans rfl, (blk_cell BK302.out 9).trans rfl, (blk_cell BK302.out 10).trans rfl, (blk_cell BK302.out 11).trans rfl⟩ (fun hHeld => ?_)
    clear hK K
    refine norm_ (a' := ?_) ?_ ?_
    rotate_left
    ·show Act.put _ (some 25) _ = _
     simp only [Act.put, List.setIfInBounds_toArray, List.set_cons_zero, List.set_cons_succ, i64_w, i32_w]
     rfl
    refine pure_ (i := 4) (N := some 26) (v := ?_) (a' := ?_) #[true, true, true, true, true] rfl rfl (by kernel_rfl) (fun _ _ _ h => h) (Or.inl ⟨by rfl, ?_⟩) ?_ ?_
    rotate_left
    ·intro w'
     go_simp
     with_reducible rfl
    rotate_left
    ·simp only [Act.put, List.setIfInBounds_toArray, List.set_cons_zero, List.set_cons_succ, i64_w, i32_w]
     rfl
    refine done_ (by kernel_rfl) ?_
    try go_wp2
    go_ret
    exact ⟨by first | rfl | (simp [errW_none, errW_some] <;> rfl) | (simp [*, errW_none, errW_some] <;> rfl), by repeat (first | (with_reducible first | exact HB.out | apply below_alloc | apply pw_below_drewN | apply below_drew1 | refine below_set ?_ GE302.out | refine below_set ?_ GE333.out) | exact HB.out)⟩
   ·replace c14 := Bool.eq_false_iff.mpr c14
    subst c14
    have H1 : (some false) = some r := by rw [if_neg (show ¬ (false = true) by decide)] at H; exact H
    clear H; have H := H1; clear H1
    obtain rfl := Option.some.inj H
    exact absurd HR_.out (by decide)

end Go.Proofs.Ytdlcefclefbdjaa.P

namespace Go.Proofs.Ytdlcefclefbdjaa.P
open Go.RowKit Go.Proofs.YtdlcefclefbdjaaW.PrintWords Go.Proofs.YtdlcefclefbdjaaW.PrintLast Go.Proofs.YtdlcefclefbdjaaW.PrintMore
set_option linter.unusedVariables false
set_option linter.unusedSimpArgs false
theorem wid {x : Int} (h0 : -9223372036854775808 ≤ x) (h1 : x ≤ 9223372036854775807) : wrap64 x = x := by unfold wrap64; omega
/-- lo ≤ n ≤ hi, as a Bool. -/
def inr (lo hi n : Int) : Bool := decide (lo ≤ n) && decide (n ≤ hi)
theorem inr_iff {lo hi n : Int} : inr lo hi n = true ↔ lo ≤ n ∧ n ≤ hi := by unfold inr; simp
theorem mul_bd {a b A B : Int} (h0 : 0 ≤ a) (h1 : a ≤ A) (h2 : 0 ≤ b) (h3 : b ≤ B) : 0 ≤ a * b ∧ a * b ≤ A * B :=
 ⟨Int.mul_nonneg h0 h2, Int.mul_le_mul h1 h3 h2 (by omega)⟩
theorem ev_eq {α : Type} {g : Nat → Option α} {r s : α} (h : Ev g r) (e : r = s) : Ev g s := e ▸ h
/-- A row of rounds that doesn't hang on the rounds. -/
theorem Ev.const {α : Type} {g : Option α} {r : α} (h : g = some r) : Ev (fun _ => g) r := ⟨0, fun _ _ => h⟩
theorem all1 {p : Int → Bool} {a : Int} : [a].all p = p a := by simp
theorem rd_cons0 (x : Int) (l : List Int) : rd (x :: l) 0 = x := rfl
end Go.Proofs.Ytdlcefclefbdjaa.P

namespace Go.Proofs.Ytdlcefclefbdjaa.P
open Go.RowKit Go.Proofs.YtdlcefclefbdjaaW.PrintWords Go.Proofs.YtdlcefclefbdjaaW.PrintLast Go.Proofs.YtdlcefclefbdjaaW.PrintMore
set_option linter.unusedVariables false
set_option linter.unusedSimpArgs false
theorem Ev.succ {α : Type} {g : Nat → Option α} {r : α} (h : Ev (fun k => g (k + 1)) r) : Ev g r := Ev.step (fun _ => rfl) h
theorem Ev.ite {α : Type} {c : Prop} [Decidable c] {g f : Nat → Option α} {r s : α} (h1 : c → Ev g r) (h2 : ¬ c → Ev f s) : Ev (fun k => if c then g k else f k) (if c then r else s) := by
 by_cases h : c
 ·simp only [if_pos h]; exact h1 h
 ·simp only [if_neg h]; exact h2 h
theorem Ev.bindc {α β : Type} {g : Option α} {f : Nat → α → Option β} {a : α} {r : β} (h : g = some a) (k : Ev (fun n => f n a) r) : Ev (fun n => g.bind (f n)) r := by
 subst h; exact k
end Go.Proofs.Ytdlcefclefbdjaa.P

namespace Go.Proofs.Ytdlcefclefbdjaa.P
open Go.RowKit Go.Proofs.YtdlcefclefbdjaaW.PrintWords Go.Proofs.YtdlcefclefbdjaaW.PrintLast Go.Proofs.YtdlcefclefbdjaaW.PrintMore
set_option linter.unusedVariables false
set_option linter.unusedSimpArgs false
theorem laws_eqPoleS.ev_l (l : List S48) (hl : l.length ≤ 4611686018427387904) (d : Nat) : ∀ i : Nat, i + d = l.length → Ev (fun k => laws_eqPoleS.l0 k l l (i : Int)) true := by
 induction d with
 | zero =>
  intro i hi
  refine Ev.succ ?_
  simp only [laws_eqPoleS.l0, show ¬ ((i : Int) < (l.length : Int)) by omega, if_false]
  exact Ev.now _
 | succ d ih =>
  intro i hi
  refine Ev.succ ?_
  simp only [laws_eqPoleS.l0, show ((i : Int) < (l.length : Int)) by omega, show (0 : Int) ≤ (i : Int) by omega, if_true, laws_eqPole.f, Option.bind_some]
  rw [wid (show -9223372036854775808 ≤ (i : Int) + 1 by omega) (by omega)]
  exact ih (i + 1) (by omega)
theorem laws_eqPoleS.refl {l : List S48} (hl : l.length ≤ 4611686018427387904) : Ev (fun k => laws_eqPoleS.f k l l) true := by
 unfold laws_eqPoleS.f
 simp only [if_true]
 exact laws_eqPoleS.ev_l l hl l.length 0 (by omega)
end Go.Proofs.Ytdlcefclefbdjaa.P

namespace Go.Proofs.Ytdlcefclefbdjaa.P
open Go.RowKit Go.Proofs.YtdlcefclefbdjaaW.PrintWords Go.Proofs.YtdlcefclefbdjaaW.PrintLast Go.Proofs.YtdlcefclefbdjaaW.PrintMore
set_option linter.unusedVariables false
set_option linter.unusedSimpArgs false
def cvPole (c : S97) : S48 := ⟨c.f0, c.f1⟩
theorem laws_toPoleS.ev_l (l : List S97) (hl : l.length ≤ 11728124029610) (d : Nat) : ∀ (i : Nat) (out : List S48), i + d = l.length → out.length = l.length → (∀ j, j < i → out[j]? = (l[j]?).map cvPole) → Ev (fun k => laws_toPoleS.l0 k l out (i : Int)) (l.map cvPole) := by
 induction d with
 | zero =>
  intro i out hi ho hj
  refine Ev.succ ?_
  simp only [laws_toPoleS.l0, show ¬ ((i : Int) < (l.length : Int)) by omega, if_false]
  refine Ev.const ?_
  congr 1
  refine List.ext_getElem? fun j => ?_
  rw [List.getElem?_map]
  by_cases h : j < i
  ·exact hj j h
  ·rw [List.getElem?_eq_none (by omega), List.getElem?_eq_none (by omega)]; rfl
 | succ d ih =>
  intro i out hi ho hj
  have hlt : i < l.length := by omega
  refine Ev.succ ?_
  simp only [laws_toPoleS.l0, show ((i : Int) < (l.length : Int)) by omega, show (0 : Int) ≤ (i : Int) by omega, show ((i : Int) < (out.length : Int)) by omega, if_true, laws_toPole.f, Option.bind_some, Int.toNat_natCast]
  rw [wid (show -9223372036854775808 ≤ (i : Int) + 1 by omega) (by omega)]
  have := ih (i + 1) (out.set i (cvPole l[i])) (by omega) (by simpa using ho) (fun j hj2 => ?_)
  ·refine ev_eq ?_ rfl
   have e : rd_T97 l (i : Int) = l[i] := by simp [rd_T97, List.getD_eq_getElem?_getD, List.getElem?_eq_getElem hlt]
   rw [e]
   exact this
  ·by_cases h : j = i
   ·subst h
    rw [List.getElem?_set_self (by omega), List.getElem?_eq_getElem hlt]; rfl
   ·rw [List.getElem?_set_ne (by omega)]
    exact hj j (by omega)
theorem laws_toPoleS.ev {l : List S97} (hl : l.length ≤ 11728124029610) : Ev (fun k => laws_toPoleS.f k l) (l.map cvPole) := by
 unfold laws_toPoleS.f
 simp only [show (0 : Int) ≤ (l.length : Int) by omega, if_true, Int.toNat_natCast, if_pos (show l.length ≤ 17592186044416 by omega)]
 exact laws_toPoleS.ev_l l hl l.length 0 _ (by omega) (by simp) (fun j h => absurd h (by omega))
end Go.Proofs.Ytdlcefclefbdjaa.P

namespace Go.Proofs.Ytdlcefclefbdjaa.P
open Go.RowKit Go.Proofs.YtdlcefclefbdjaaW.PrintWords Go.Proofs.YtdlcefclefbdjaaW.PrintLast Go.Proofs.YtdlcefclefbdjaaW.PrintMore
set_option linter.unusedVariables false
set_option linter.unusedSimpArgs false
theorem laws_toDesk.ev (a b c lamp : Int) {l : List S97} (hl : l.length ≤ 11728124029610) (w0 w1 w2 i0 i1 i2 i3 : Int) : Ev (fun k => laws_toDesk.f k a b c lamp l w0 w1 w2 i0 i1 i2 i3) (a, b, c, lamp, l.map cvPole, w0, w1, w2, i0, i1, i2, i3) := by
 unfold laws_toDesk.f
 refine Ev.bindc (show laws_toLadders.f a b c = some (a, b, c) from rfl) ?_
 refine Ev.bind (laws_toPoleS.ev hl) ?_
 exact Ev.const rfl
theorem laws_szDesk.eq (a b c lamp : Int) {l : List S97} (hl : l.length ≤ maxLen) (w0 w1 w2 i0 i1 i2 i3 : Int) : laws_szDesk.f a b c lamp l w0 w1 w2 i0 i1 i2 i3 1048576 = some (if (l.length : Int) ≤ 1048576 then 1048576 - (l.length : Int) else -1) := by
 unfold maxLen at hl
 unfold laws_szDesk.f laws_szPoleS.f
 rw [wid (show -9223372036854775808 ≤ (1048576 : Int) - (l.length : Int) by omega) (by omega)]
 by_cases h : (l.length : Int) ≤ 1048576
 ·rw [if_neg (by omega), if_pos h, Option.bind_some, if_neg (by omega)]
 ·rw [if_pos (by omega), if_neg h, Option.bind_some, if_pos (by omega)]
theorem laws_eqDesk.refl (a b c lamp : Int) {l : List S48} (hl : l.length ≤ 4611686018427387904) (w0 w1 w2 i0 i1 i2 i3 : Int) : Ev (fun k => laws_eqDesk.f k a b c lamp l w0 w1 w2 i0 i1 i2 i3 a b c lamp l w0 w1 w2 i0 i1 i2 i3) true := by
 unfold laws_eqDesk.f
 refine Ev.bindc (show laws_eqLadders.f a b c a b c = some true by simp [laws_eqLadders.f]) ?_
 simp only [if_true]
 refine Ev.bind (laws_eqPoleS.refl hl) ?_
 exact Ev.const (by simp [laws_eqWalker.f, laws_eqIsland.f])
end Go.Proofs.Ytdlcefclefbdjaa.P

namespace Go.Proofs.Ytdlcefclefbdjaa.P
open Go.RowKit Go.Proofs.YtdlcefclefbdjaaW.PrintWords Go.Proofs.YtdlcefclefbdjaaW.PrintLast Go.Proofs.YtdlcefclefbdjaaW.PrintMore
set_option linter.unusedVariables false
set_option linter.unusedSimpArgs false
theorem spec_l1In.eq (a lo hi : Int) : spec_l1In.f a lo hi = some (inr lo hi a) := by
 unfold spec_l1In.f inr
 by_cases h : a ≥ lo
 ·rw [if_pos h]; simp [show lo ≤ a from h]
 ·rw [if_neg h]; simp [show ¬ lo ≤ a from h]
end Go.Proofs.Ytdlcefclefbdjaa.P

namespace Go.Proofs.Ytdlcefclefbdjaa.P
open Go.RowKit Go.Proofs.YtdlcefclefbdjaaW.PrintWords Go.Proofs.YtdlcefclefbdjaaW.PrintLast Go.Proofs.YtdlcefclefbdjaaW.PrintMore
set_option linter.unusedVariables false
set_option linter.unusedSimpArgs false
theorem spec_l1All.ev_l (l : List Int) (lo hi : Int) (hm : l.length ≤ 9223372036854775807) (d : Nat) : ∀ i : Nat, i + d = l.length → Ev (fun k => spec_l1All.l0 k lo hi l (l.length : Int) (i : Int)) ((l.drop i).all (inr lo hi)) := by
 induction d with
 | zero =>
  intro i he
  refine Ev.step (f := fun _ => some true) (fun k => by simp only [spec_l1All.l0]; rw [if_neg (by omega)]) ?_
  exact Ev.const (by rw [show i = l.length by omega, List.drop_length]; rfl)
 | succ d ih =>
  intro i he
  have hlt : i < l.length := by omega
  have hx : rd l (i : Int) = l[i] := by simp [rd, List.getD_eq_getElem?_getD, List.getElem?_eq_getElem hlt]
  have hd : (l.drop i).all (inr lo hi) = (inr lo hi l[i] && (l.drop (i + 1)).all (inr lo hi)) := by rw [List.drop_eq_getElem_cons hlt, List.all_cons]
  refine Ev.step (f := fun k => if inr lo hi l[i] = true then spec_l1All.l0 k lo hi l (l.length : Int) (((i + 1 : Nat)) : Int) else some false) (fun k => ?_) ?_
  ·simp only [spec_l1All.l0]
   rw [if_pos (by omega), if_pos (by omega), if_pos (by omega), hx, spec_l1In.eq, Option.bind_some, wid (by omega) (by omega)]
   rfl
  ·rw [hd]
   cases hp : inr lo hi l[i] with
   | true => simp only [Bool.true_and, if_true]; exact ih (i + 1) (by omega)
   | false => exact Ev.const (by simp)
theorem spec_l1All.ev {l : List Int} {lo hi : Int} (hm : l.length ≤ 9223372036854775807) : Ev (fun k => spec_l1All.f k l lo hi) (l.all (inr lo hi)) := by
 unfold spec_l1All.f
 exact ev_eq (spec_l1All.ev_l l lo hi hm l.length 0 (by omega)) (by simp)
end Go.Proofs.Ytdlcefclefbdjaa.P

namespace Go.Proofs.Ytdlcefclefbdjaa.P
open Go.RowKit Go.Proofs.YtdlcefclefbdjaaW.PrintWords Go.Proofs.YtdlcefclefbdjaaW.PrintLast Go.Proofs.YtdlcefclefbdjaaW.PrintMore
set_option linter.unusedVariables false
set_option linter.unusedSimpArgs false
theorem spec_htLong.ev {l : List Int} (hm : l.length ≤ 9223372036854775807) : Ev (fun k => spec_htLong.f k l) (l.all (inr 1 2000)) := by
 unfold spec_htLong.f
 exact Ev.bind (spec_l1All.ev hm) (Ev.now _)
end Go.Proofs.Ytdlcefclefbdjaa.P

namespace Go.Proofs.Ytdlcefclefbdjaa.P
open Go.RowKit Go.Proofs.YtdlcefclefbdjaaW.PrintWords Go.Proofs.YtdlcefclefbdjaaW.PrintLast Go.Proofs.YtdlcefclefbdjaaW.PrintMore
set_option linter.unusedVariables false
set_option linter.unusedSimpArgs false
theorem spec_htStaff.eq (a : Int) : spec_htStaff.f a = some (inr 1 100 a) := by
 unfold spec_htStaff.f; rw [spec_l1In.eq]; rfl
end Go.Proofs.Ytdlcefclefbdjaa.P

namespace Go.Proofs.Ytdlcefclefbdjaa.P
open Go.RowKit Go.Proofs.YtdlcefclefbdjaaW.PrintWords Go.Proofs.YtdlcefclefbdjaaW.PrintLast Go.Proofs.YtdlcefclefbdjaaW.PrintMore
set_option linter.unusedVariables false
set_option linter.unusedSimpArgs false
def mIsland (a b c d : Int) : Bool := inr 1 100 a && (inr 1 2000 b && (inr 1 2000 c && (inr 1 2000 d && decide (c < d))))
theorem spec_htGood.ev (a b c d : Int) : Ev (fun k => spec_htGood.f k a b c d) (mIsland a b c d) := by
 obtain ⟨K1, h1⟩ := spec_htLong.ev (l := [b, c, d]) (by simp)
 refine ⟨K1, fun k hk => ?_⟩
 have h1 := h1 k hk
 simp only [List.all_cons, List.all_nil, Bool.and_true] at h1
 unfold spec_htGood.f mIsland
 dsimp only at *
 rw [spec_htStaff.eq, h1]
 simp only [Option.bind_some]
 cases inr 1 100 a <;> cases inr 1 2000 b <;> cases inr 1 2000 c <;> cases inr 1 2000 d <;> simp
end Go.Proofs.Ytdlcefclefbdjaa.P

namespace Go.Proofs.Ytdlcefclefbdjaa.P
open Go.RowKit Go.Proofs.YtdlcefclefbdjaaW.PrintWords Go.Proofs.YtdlcefclefbdjaaW.PrintLast Go.Proofs.YtdlcefclefbdjaaW.PrintMore
set_option linter.unusedVariables false
set_option linter.unusedSimpArgs false
theorem impl_areStaffs.eq (l : List Int) : impl_areStaffs.f l = some (l.all (inr 1 100)) := by
 unfold impl_areStaffs.f
 rw [List.not_any_eq_all_not]; congr 1; congr 1; funext n; simp [inr]
end Go.Proofs.Ytdlcefclefbdjaa.P

namespace Go.Proofs.Ytdlcefclefbdjaa.P
open Go.RowKit Go.Proofs.YtdlcefclefbdjaaW.PrintWords Go.Proofs.YtdlcefclefbdjaaW.PrintLast Go.Proofs.YtdlcefclefbdjaaW.PrintMore
set_option linter.unusedVariables false
set_option linter.unusedSimpArgs false
theorem impl_areSteps.eq (l : List Int) : impl_areSteps.f l = some (l.all (inr 1 2000)) := by
 unfold impl_areSteps.f
 rw [List.not_any_eq_all_not]; congr 1; congr 1; funext n; simp [inr]
end Go.Proofs.Ytdlcefclefbdjaa.P

namespace Go.Proofs.Ytdlcefclefbdjaa.P
open Go.RowKit Go.Proofs.YtdlcefclefbdjaaW.PrintWords Go.Proofs.YtdlcefclefbdjaaW.PrintLast Go.Proofs.YtdlcefclefbdjaaW.PrintMore
set_option linter.unusedVariables false
set_option linter.unusedSimpArgs false
theorem impl_IsIsland.eq (a b c d : Int) : impl_IsIsland.f a b c d = some (mIsland a b c d) := by
 unfold impl_IsIsland.f mIsland
 rw [impl_areStaffs.eq, impl_areSteps.eq]
 simp only [Option.bind_some, List.all_cons, List.all_nil, Bool.and_true]
 cases inr 1 100 a <;> cases inr 1 2000 b <;> cases inr 1 2000 c <;> cases inr 1 2000 d <;> simp
end Go.Proofs.Ytdlcefclefbdjaa.P

namespace Go.Proofs.Ytdlcefclefbdjaa.P
open Go.RowKit Go.Proofs.YtdlcefclefbdjaaW.PrintWords Go.Proofs.YtdlcefclefbdjaaW.PrintLast Go.Proofs.YtdlcefclefbdjaaW.PrintMore
set_option linter.unusedVariables false
set_option linter.unusedSimpArgs false
theorem impl_within.eq (a lo hi : Int) : impl_within.f a lo hi = some (inr lo hi a) := by
 unfold impl_within.f inr
 by_cases h : a ≥ lo
 ·rw [if_pos h]; simp [show lo ≤ a from h]
 ·rw [if_neg h]; simp [show ¬ lo ≤ a from h]
end Go.Proofs.Ytdlcefclefbdjaa.P

namespace Go.Proofs.Ytdlcefclefbdjaa.P
open Go.RowKit Go.Proofs.YtdlcefclefbdjaaW.PrintWords Go.Proofs.YtdlcefclefbdjaaW.PrintLast Go.Proofs.YtdlcefclefbdjaaW.PrintMore
set_option linter.unusedVariables false
set_option linter.unusedSimpArgs false
def mLad (a b c : Int) : Bool := inr 1 1000 a && (inr 1 1000 b && inr 1 1000 c)
theorem impl_AreLadders.eqd (a b c : Int) : impl_AreLadders.f a b c = some (mLad a b c) := by
 unfold impl_AreLadders.f impl_isWide.f mLad
 simp only [impl_within.eq, Option.bind_some]
 cases inr 1 1000 a <;> cases inr 1 1000 b <;> cases inr 1 1000 c <;> rfl
theorem spec_clGood.eqd (a b c : Int) : spec_clGood.f a b c = some (mLad a b c) := by
 unfold spec_clGood.f mLad
 simp only [spec_l1In.eq, Option.bind_some]
 cases inr 1 1000 a <;> cases inr 1 1000 b <;> cases inr 1 1000 c <;> rfl
end Go.Proofs.Ytdlcefclefbdjaa.P

namespace Go.Proofs.Ytdlcefclefbdjaa.P
open Go.RowKit Go.Proofs.YtdlcefclefbdjaaW.PrintWords Go.Proofs.YtdlcefclefbdjaaW.PrintLast Go.Proofs.YtdlcefclefbdjaaW.PrintMore
set_option linter.unusedVariables false
set_option linter.unusedSimpArgs false
def okP (lamp a b : Int) : Bool := inr 2 200 lamp && ((inr 1 500 a && inr 1 200 b) && decide (b < lamp))
theorem impl_isPoleOf.eq (lamp a b : Int) : impl_isPoleOf.f lamp a b = some (okP lamp a b) := by
 unfold impl_isPoleOf.f impl_isLamp.f impl_isPole.f impl_isPlace.f impl_isHigh.f okP
 simp only [impl_within.eq, Option.bind_some]
 cases inr 2 200 lamp <;> cases inr 1 500 a <;> cases inr 1 200 b <;> rfl
theorem spec_swPole.eq (a b : Int) : spec_swPole.f a b = some (inr 1 500 a && inr 1 200 b) := by
 unfold spec_swPole.f
 simp only [spec_l1In.eq, Option.bind_some]
 cases inr 1 500 a <;> cases inr 1 200 b <;> rfl
theorem spec_swLamp.eq (a : Int) : spec_swLamp.f a = some (inr 2 200 a) := by
 unfold spec_swLamp.f; rw [spec_l1In.eq]; rfl
def ordP (l : List S48) (i : Nat) : Bool := decide (i = 0) || decide ((rd_T48 l ((i : Int) - 1)).f0 < (rd_T48 l (i : Int)).f0)
/-- The poles from place i on are poles under the lamp, and in order. -/
def polF (lamp : Int) (l : List S48) : Nat → Nat → Bool
 | 0, _ => true
 | d + 1, i => okP lamp (rd_T48 l (i : Int)).f0 (rd_T48 l (i : Int)).f1 && (ordP l i && polF lamp l d (i + 1))
def rowF (l : List S48) : Nat → Nat → Bool
 | 0, _ => true
 | d + 1, i => (inr 1 500 (rd_T48 l (i : Int)).f0 && inr 1 200 (rd_T48 l (i : Int)).f1) && (ordP l i && rowF l d (i + 1))
def lowF (lamp : Int) (l : List S48) : Nat → Nat → Bool
 | 0, _ => true
 | d + 1, i => decide ((rd_T48 l (i : Int)).f1 < lamp) && lowF lamp l d (i + 1)
theorem polF_parts (lamp : Int) (l : List S48) (d : Nat) : ∀ i : Nat, polF lamp l d i = ((decide (d = 0) || inr 2 200 lamp) && (rowF l d i && lowF lamp l d i)) := by
 induction d with
 | zero => intro i; rfl
 | succ d ih =>
  intro i
  simp only [polF, rowF, lowF, ih, okP]
  cases inr 2 200 lamp <;> cases inr 1 500 (rd_T48 l (i : Int)).f0 <;> cases inr 1 200 (rd_T48 l (i : Int)).f1 <;> cases decide ((rd_T48 l (i : Int)).f1 < lamp) <;> cases ordP l i <;> cases rowF l d (i + 1) <;> cases lowF lamp l d (i + 1) <;> simp
theorem impl_ArePoles.ev_l (lamp : Int) (l : List S48) (hl : l.length ≤ 4611686018427387904) (d : Nat) : ∀ i : Nat, i + d = l.length → Ev (fun k => impl_ArePoles.l0 k lamp l l (l.length : Int) (i : Int)) (polF lamp l d i && inr 1 6 (l.length : Int)) := by
 induction d with
 | zero =>
  intro i hi
  refine Ev.succ ?_
  simp only [impl_ArePoles.l0, show ¬ ((i : Int) < (l.length : Int)) by omega, if_false]
  exact Ev.const (by rw [impl_within.eq]; rfl)
 | succ d ih =>
  intro i hi
  refine Ev.succ ?_
  simp only [impl_ArePoles.l0, show ((i : Int) < (l.length : Int)) by omega, show (0 : Int) ≤ (i : Int) by omega, if_true]
  rw [wid (show -9223372036854775808 ≤ (i : Int) + 1 by omega) (by omega)]
  refine Ev.bindc (impl_isPoleOf.eq _ _ _) ?_
  unfold polF
  have ih := ih (i + 1) (by omega)
  cases h : okP lamp (rd_T48 l (i : Int)).f0 (rd_T48 l (i : Int)).f1 with
  | false => simp only [Bool.false_eq_true, if_false, Bool.false_and]; exact Ev.now _
  | true =>
   simp only [if_true, Bool.true_and]
   by_cases h0 : i = 0
   ·simp only [show ¬ ((i : Int) > 0) by omega, if_false]
    rw [show ordP l i = true by unfold ordP; simp [h0], Bool.true_and]
    exact ih
   ·rw [wid (show -9223372036854775808 ≤ (i : Int) - 1 by omega) (by omega)]
    simp only [show ((i : Int) > 0) by omega, show (0 : Int) ≤ (i : Int) - 1 by omega, show (i : Int) - 1 < (l.length : Int) by omega, if_true]
    by_cases hc : (rd_T48 l ((i : Int) - 1)).f0 < (rd_T48 l (i : Int)).f0
    ·simp only [show ¬ ((rd_T48 l ((i : Int) - 1)).f0 ≥ (rd_T48 l (i : Int)).f0) by omega, if_false]
     rw [show ordP l i = true by unfold ordP; simp [hc], Bool.true_and]
     exact ih
    ·simp only [show ((rd_T48 l ((i : Int) - 1)).f0 ≥ (rd_T48 l (i : Int)).f0) by omega, if_true]
     rw [show ordP l i = false by unfold ordP; simp [hc, h0], Bool.false_and, Bool.false_and]
     exact Ev.now _
theorem spec_swRow.ev_l (l : List S48) (hl : l.length ≤ 4611686018427387904) (d : Nat) : ∀ i : Nat, i + d = l.length → Ev (fun k => spec_swRow.l0 k l l (l.length : Int) (i : Int)) (rowF l d i) := by
 induction d with
 | zero =>
  intro i hi
  refine Ev.succ ?_
  simp only [spec_swRow.l0, show ¬ ((i : Int) < (l.length : Int)) by omega, if_false]
  exact Ev.now _
 | succ d ih =>
  intro i hi
  refine Ev.succ ?_
  simp only [spec_swRow.l0, show ((i : Int) < (l.length : Int)) by omega, show (0 : Int) ≤ (i : Int) by omega, if_true]
  rw [wid (show -9223372036854775808 ≤ (i : Int) + 1 by omega) (by omega)]
  refine Ev.bindc (spec_swPole.eq _ _) ?_
  unfold rowF
  have ih := ih (i + 1) (by omega)
  cases h : (inr 1 500 (rd_T48 l (i : Int)).f0 && inr 1 200 (rd_T48 l (i : Int)).f1) with
  | false => simp only [Bool.false_eq_true, if_false, Bool.false_and]; exact Ev.now _
  | true =>
   simp only [if_true, Bool.true_and]
   by_cases h0 : i = 0
   ·simp only [show ¬ ((i : Int) > 0) by omega, if_false]
    rw [show ordP l i = true by unfold ordP; simp [h0], Bool.true_and]
    exact ih
   ·rw [wid (show -9223372036854775808 ≤ (i : Int) - 1 by omega) (by omega)]
    simp only [show ((i : Int) > 0) by omega, show (0 : Int) ≤ (i : Int) - 1 by omega, show (i : Int) - 1 < (l.length : Int) by omega, if_true]
    by_cases hc : (rd_T48 l ((i : Int) - 1)).f0 < (rd_T48 l (i : Int)).f0
    ·simp only [show ¬ ((rd_T48 l (i : Int)).f0 ≤ (rd_T48 l ((i : Int) - 1)).f0) by omega, if_false]
     rw [show ordP l i = true by unfold ordP; simp [hc], Bool.true_and]
     exact ih
    ·simp only [show ((rd_T48 l (i : Int)).f0 ≤ (rd_T48 l ((i : Int) - 1)).f0) by omega, if_true]
     rw [show ordP l i = false by unfold ordP; simp [hc, h0], Bool.false_and]
     exact Ev.now _
theorem spec_swGood.ev_l (lamp : Int) (l : List S48) (hl : l.length ≤ 4611686018427387904) (d : Nat) : ∀ i : Nat, i + d = l.length → Ev (fun k => spec_swGood.l0 k lamp l (l.length : Int) (i : Int)) (lowF lamp l d i) := by
 induction d with
 | zero =>
  intro i hi
  refine Ev.succ ?_
  simp only [spec_swGood.l0, show ¬ ((i : Int) < (l.length : Int)) by omega, if_false]
  exact Ev.now _
 | succ d ih =>
  intro i hi
  refine Ev.succ ?_
  simp only [spec_swGood.l0, show ((i : Int) < (l.length : Int)) by omega, show (0 : Int) ≤ (i : Int) by omega, if_true]
  rw [wid (show -9223372036854775808 ≤ (i : Int) + 1 by omega) (by omega)]
  unfold lowF
  have ih := ih (i + 1) (by omega)
  by_cases hc : (rd_T48 l (i : Int)).f1 < lamp
  ·simp only [show ¬ ((rd_T48 l (i : Int)).f1 ≥ lamp) by omega, if_false, decide_eq_true hc, Bool.true_and]
   exact ih
  ·simp only [show ((rd_T48 l (i : Int)).f1 ≥ lamp) by omega, if_true, decide_eq_false hc, Bool.false_and]
   exact Ev.now _
def mPoles (lamp : Int) (l : List S48) : Bool := inr 2 200 lamp && (inr 1 6 (l.length : Int) && (rowF l l.length 0 && lowF lamp l l.length 0))
theorem impl_ArePoles.ev (lamp : Int) {l : List S48} (hl : l.length ≤ 4611686018427387904) : Ev (fun k => impl_ArePoles.f k lamp l) (mPoles lamp l) := by
 unfold impl_ArePoles.f mPoles
 refine ev_eq (impl_ArePoles.ev_l lamp l hl l.length 0 (by omega)) ?_
 rw [polF_parts]
 cases h : inr 1 6 (l.length : Int) with
 | false => simp
 | true =>
  have := inr_iff.1 h
  rw [decide_eq_false (show ¬ l.length = 0 by omega)]
  simp
theorem spec_swGood.ev (lamp : Int) {l : List S48} (hl : l.length ≤ 4611686018427387904) : Ev (fun k => spec_swGood.f k lamp l) (mPoles lamp l) := by
 unfold spec_swGood.f mPoles
 refine Ev.bindc (spec_swLamp.eq _) ?_
 cases h : inr 2 200 lamp with
 | false =>
  simp only [Bool.false_eq_true, if_false, Bool.false_and]
  refine Ev.succ ?_
  exact Ev.now _
 | true =>
  simp only [if_true, Bool.true_and]
  refine Ev.bind (a := (inr 1 6 (l.length : Int) && rowF l l.length 0)) ?_ ?_
  ·unfold spec_swRow.f
   refine Ev.bindc (spec_l1In.eq _ _ _) ?_
   cases inr 1 6 (l.length : Int) with
   | false => exact Ev.now _
   | true =>
    simp only [if_true, Bool.true_and]
    exact spec_swRow.ev_l l hl l.length 0 (by omega)
  ·refine Ev.succ ?_
   rw [← Bool.and_assoc]
   cases inr 1 6 (l.length : Int) && rowF l l.length 0 with
   | false => exact Ev.now _
   | true =>
    simp only [spec_swGood.j0, Bool.not_true, Bool.false_eq_true, if_false, Bool.true_and]
    exact spec_swGood.ev_l lamp l hl l.length 0 (by omega)
end Go.Proofs.Ytdlcefclefbdjaa.P

namespace Go.Proofs.Ytdlcefclefbdjaa.P
open Go.RowKit Go.Proofs.YtdlcefclefbdjaaW.PrintWords Go.Proofs.YtdlcefclefbdjaaW.PrintLast Go.Proofs.YtdlcefclefbdjaaW.PrintMore
set_option linter.unusedVariables false
set_option linter.unusedSimpArgs false
def mWalker (lamp a b c : Int) : Bool := inr 2 200 lamp && (inr 1 (wrap64 (lamp - 1)) a && (inr 0 500 b && inr (-50) 50 c))
theorem impl_IsWalker.eq (lamp a b c : Int) : impl_IsWalker.f lamp a b c = some (mWalker lamp a b c) := by
 unfold impl_IsWalker.f impl_isLamp.f mWalker
 simp only [impl_within.eq, Option.bind_some]
 cases inr 2 200 lamp <;> cases inr 1 (wrap64 (lamp - 1)) a <;> cases inr 0 500 b <;> cases inr (-50) 50 c <;> rfl
theorem spec_wkGood.eq (lamp a b c : Int) : spec_wkGood.f lamp a b c = some (mWalker lamp a b c) := by
 unfold spec_wkGood.f mWalker
 simp only [spec_l1In.eq, spec_swLamp.eq, Option.bind_some]
 cases inr 2 200 lamp <;> cases inr 1 (wrap64 (lamp - 1)) a <;> cases inr 0 500 b <;> cases inr (-50) 50 c <;> rfl
end Go.Proofs.Ytdlcefclefbdjaa.P

namespace Go.Proofs.Ytdlcefclefbdjaa.P
open Go.RowKit Go.Proofs.YtdlcefclefbdjaaW.PrintWords Go.Proofs.YtdlcefclefbdjaaW.PrintLast Go.Proofs.YtdlcefclefbdjaaW.PrintMore
set_option linter.unusedVariables false
set_option linter.unusedSimpArgs false
def mDesk (a b c lamp : Int) (l : List S48) (w0 w1 w2 i0 i1 i2 i3 : Int) : Bool := mLad a b c && (mPoles lamp l && (mWalker lamp w0 w1 w2 && mIsland i0 i1 i2 i3))
theorem impl_IsDesk.ev (a b c lamp : Int) {l : List S48} (hl : l.length ≤ 4611686018427387904) (w0 w1 w2 i0 i1 i2 i3 : Int) : Ev (fun k => impl_IsDesk.f k a b c lamp l w0 w1 w2 i0 i1 i2 i3) (mDesk a b c lamp l w0 w1 w2 i0 i1 i2 i3) := by
 unfold impl_IsDesk.f mDesk
 refine Ev.bindc (impl_AreLadders.eqd _ _ _) ?_
 cases mLad a b c with
 | false => exact Ev.now _
 | true =>
  refine Ev.bind (impl_ArePoles.ev lamp hl) ?_
  cases mPoles lamp l with
  | false => exact Ev.now _
  | true =>
   refine Ev.bindc (impl_IsWalker.eq _ _ _ _) ?_
   cases mWalker lamp w0 w1 w2 with
   | false => exact Ev.now _
   | true => exact Ev.const (by rw [impl_IsIsland.eq]; rfl)
theorem spec_IsDesk.ev (a b c lamp : Int) {l : List S48} (hl : l.length ≤ 4611686018427387904) (w0 w1 w2 i0 i1 i2 i3 : Int) : Ev (fun k => spec_IsDesk.f k a b c lamp l w0 w1 w2 i0 i1 i2 i3) (mDesk a b c lamp l w0 w1 w2 i0 i1 i2 i3) := by
 unfold spec_IsDesk.f spec_coGood.f mDesk
 refine Ev.bind ?_ (Ev.now _)
 refine Ev.bindc (spec_clGood.eqd _ _ _) ?_
 cases mLad a b c with
 | false => exact Ev.now _
 | true =>
  refine Ev.bind (spec_swGood.ev lamp hl) ?_
  cases mPoles lamp l with
  | false => exact Ev.now _
  | true =>
   refine Ev.bindc (spec_wkGood.eq _ _ _ _) ?_
   cases mWalker lamp w0 w1 w2 with
   | false => exact Ev.now _
   | true => exact ev_eq (Ev.bind (spec_htGood.ev i0 i1 i2 i3) (Ev.now _)) (by simp)
end Go.Proofs.Ytdlcefclefbdjaa.P

namespace Go.Proofs.Ytdlcefclefbdjaa.Pure
open Go.RowKit Go.Proofs.YtdlcefclefbdjaaW.PrintWords Go.Proofs.YtdlcefclefbdjaaW.PrintLast Go.Proofs.YtdlcefclefbdjaaW.PrintMore Go.Proofs.Ytdlcefclefbdjaa.P
set_option linter.unusedVariables false
set_option linter.unusedSimpArgs false
theorem FnExactIsDesk : ∀ (a0_0 : Int) (a0_1 : Int) (a0_2 : Int) (a0_3 : Int) (l0_4 : List S97) (a0_5 : Int) (a0_6 : Int) (a0_7 : Int) (a0_8 : Int) (a0_9 : Int) (a0_10 : Int) (a0_11 : Int), (Lit.int .i64 a0_0).wf = true → (Lit.int .i64 a0_1).wf = true → (Lit.int .i64 a0_2).wf = true → (Lit.int .i64 a0_3).wf = true → l0_4.length ≤ maxLen → (∀ y ∈ l0_4, (Lit.int .i64 y.f0).wf = true ∧ (Lit.int .i64 y.f1).wf = true) → (Lit.int .i64 a0_5).wf = true → (Lit.int .i64 a0_6).wf = true → (Lit.int .i64 a0_7).wf = true → (Lit.int .i64 a0_8).wf = true → (Lit.int .i64 a0_9).wf = true → (Lit.int .i64 a0_10).wf = true → (Lit.int .i64 a0_11).wf = true → ∃ k, laws_FnExactIsDesk.f k a0_0 a0_1 a0_2 a0_3 l0_4 a0_5 a0_6 a0_7 a0_8 a0_9 a0_10 a0_11 = some true := fun a b c lamp l w0 w1 w2 i0 i1 i2 i3 _ _ _ _ hl _ _ _ _ _ _ _ _ => by
 by_cases big : (l.length : Int) ≤ 1048576
 ·have hl2 : l.length ≤ 11728124029610 := by omega
  have hm : (l.map cvPole).length ≤ 4611686018427387904 := by rw [List.length_map]; omega
  refine Ev.rounds ?_
  unfold laws_FnExactIsDesk.f
  refine Ev.bindc (laws_szDesk.eq a b c lamp hl w0 w1 w2 i0 i1 i2 i3) ?_
  simp only [if_pos big, show ¬ ((1048576 : Int) - (l.length : Int) < 0) by omega, if_false]
  refine Ev.bind (laws_toDesk.ev a b c lamp hl2 w0 w1 w2 i0 i1 i2 i3) ?_
  refine Ev.bind (spec_IsDesk.ev a b c lamp hm w0 w1 w2 i0 i1 i2 i3) ?_
  refine Ev.bind (laws_toDesk.ev a b c lamp hl2 w0 w1 w2 i0 i1 i2 i3) ?_
  refine Ev.bind (impl_IsDesk.ev a b c lamp hm w0 w1 w2 i0 i1 i2 i3) ?_
  simp only [bne_self_eq_false, Bool.false_eq_true, if_false]
  refine Ev.bind (laws_toDesk.ev a b c lamp hl2 w0 w1 w2 i0 i1 i2 i3) ?_
  refine Ev.bind (laws_eqDesk.refl a b c lamp hm w0 w1 w2 i0 i1 i2 i3) ?_
  simp only [if_true]
  exact Ev.now _
 ·refine ⟨0, ?_⟩
  unfold laws_FnExactIsDesk.f
  rw [laws_szDesk.eq a b c lamp hl w0 w1 w2 i0 i1 i2 i3, if_neg big]
  rfl
end Go.Proofs.Ytdlcefclefbdjaa.Pure

namespace Go.Proofs.Ytdlcefclefbdjaa.fnExactIsDesk
open Go.ChangeShapes Go.WideShapes Go.ChangeAt Go.RowKit Go.Deep
open Go.ChangeMaps (open_string shut_string)
open Go.Proofs.YtdlcefclefbdjaaW.PrintWords Go.Proofs.YtdlcefclefbdjaaW.PrintLast Go.Proofs.YtdlcefclefbdjaaW.PrintMore Go.Proofs.Ytdlcefclefbdjaa.P
set_option linter.unusedVariables false
set_option linter.unusedSimpArgs false
theorem own : ownKnob Try.prog.godebug = none := by kernel_rfl
theorem laidOut : laidOutB Try.prog = true := by kernel_rfl
theorem cof3 : Try.prog.cellsOf 3 = 1 := by kernel_rfl
theorem cof35 : Try.prog.cellsOf 35 = 3 := by kernel_rfl
theorem cof36 : Try.prog.cellsOf 36 = 1 := by kernel_rfl
theorem cof37 : Try.prog.cellsOf 37 = 3 := by kernel_rfl
theorem cof38 : Try.prog.cellsOf 38 = 4 := by kernel_rfl
theorem cof40 : Try.prog.cellsOf 40 = 12 := by kernel_rfl
theorem cof97 : Try.prog.cellsOf 97 = 2 := by kernel_rfl
theorem C_each {α : Type} (d : Kd α) (w : World) (a : Addr) (len : Nat) (hl : len ≤ 9223372036854775807) (P : α → Prop) (h : ∀ i, i < len → ∃ (x : α) (c : List Value), P x ∧ c.length = d.sz ∧ d.K w x c ∧ ∀ j u, c[j]? = some u → w.cell? (a.add (i * d.sz + j)) = some u) : ∃ xs : List α, xs.length = len ∧ Kd.C d w (some a) len xs ∧ ∀ x ∈ xs, P x := by
 refine ⟨List.ofFn fun i : Fin len => Classical.choose (h i.1 i.2), by simp, ⟨by simp, hl, fun _ => ⟨a, rfl, fun j p hj => ?_⟩⟩, fun x hx => ?_⟩
 ·have hjl : j < len := by have := (List.getElem?_eq_some_iff.1 hj).1; simpa using this
  have hp : p = Classical.choose (h j hjl) := by rw [List.getElem?_ofFn, dif_pos hjl] at hj; exact (Option.some.inj hj).symm
  obtain ⟨c, hP, hc, hK, hcell⟩ := Classical.choose_spec (h j hjl)
  exact ⟨c, hc, by rw [hp]; exact hK, hcell⟩
 ·obtain ⟨i, rfl⟩ := (List.mem_ofFn).1 hx
  obtain ⟨c, hP, _⟩ := Classical.choose_spec (h i.1 i.2)
  exact hP
set_option maxRecDepth 100000 in
theorem open0 {H : Type} {enc : TypeId × Value → H} {W : World} {base : Nat} {v : Value} {d : DataW H} {p : List MemPlace} (hv : Value.okWide Try.prog W .any base 40 v) (h : DataW.Trod enc Try.prog W 0 (fun _ => true) true 40 v d p) :
  ∃ (a0_0 : Int) (a0_1 : Int) (a0_2 : Int) (a0_3 : Int) (A0_4 : Option Addr) (c0_4 : Nat) (l0_4 : List S97) (a0_5 : Int) (a0_6 : Int) (a0_7 : Int) (a0_8 : Int) (a0_9 : Int) (a0_10 : Int) (a0_11 : Int), v = .agg #[.int .i64 a0_0, .int .i64 a0_1, .int .i64 a0_2, .int .i64 a0_3, .slice A0_4 l0_4.length c0_4, .int .i64 a0_5, .int .i64 a0_6, .int .i64 a0_7, .int .i64 a0_8, .int .i64 a0_9, .int .i64 a0_10, .int .i64 a0_11] ∧ ((Lit.int .i64 a0_0).wf = true) ∧ ((Lit.int .i64 a0_1).wf = true) ∧ ((Lit.int .i64 a0_2).wf = true) ∧ ((Lit.int .i64 a0_3).wf = true) ∧ (Kd.C k97 W A0_4 l0_4.length l0_4 ∧ l0_4.length ≤ c0_4 ∧ c0_4 ≤ maxLen ∧ (∀ y ∈ l0_4, (Lit.int .i64 y.f0).wf = true ∧ (Lit.int .i64 y.f1).wf = true)) ∧ ((Lit.int .i64 a0_5).wf = true) ∧ ((Lit.int .i64 a0_6).wf = true) ∧ ((Lit.int .i64 a0_7).wf = true) ∧ ((Lit.int .i64 a0_8).wf = true) ∧ ((Lit.int .i64 a0_9).wf = true) ∧ ((Lit.int .i64 a0_10).wf = true) ∧ ((Lit.int .i64 a0_11).wf = true) := by
 obtain ⟨cs, rfl, hsz⟩ := okWide_struct Try.underlying40 hv
 rw [cof40] at hsz
 obtain ⟨l⟩ := cs
 match l, hsz with
 | [c_0, c_1, c_2, c_3, c_4, c_5, c_6, c_7, c_8, c_9, c_10, c_11], _ =>
  obtain ⟨fuel, hf⟩ := h
  have hf : DataW.trod enc Try.prog W 0 (fun _ => true) true fuel 40 [c_0, c_1, c_2, c_3, c_4, c_5, c_6, c_7, c_8, c_9, c_10, c_11] = some (d, p) := hf
  obtain ⟨xs1, n2, _, _, _, hl3, hg4⟩ := DataW.trod_struct Try.underlying40 hf
  obtain ⟨y5, y6, y7, y8, y9, rfl⟩ : ∃ y5 y6 y7 y8 y9, xs1 = [y5, y6, y7, y8, y9] := by match xs1, hl3 with | [y5, y6, y7, y8, y9], _ => exact ⟨y5, y6, y7, y8, y9, rfl⟩
  have g10 : DataW.trod enc Try.prog W 0 (fun _ => true) true n2 35 [c_0, c_1, c_2] = some y5 := by have z_ : DataW.trod enc Try.prog W 0 (fun _ => true) true n2 35 (([c_0, c_1, c_2, c_3, c_4, c_5, c_6, c_7, c_8, c_9, c_10, c_11].drop 0).take (Try.prog.cellsOf 35)) = [y5, y6, y7, y8, y9][0]? := hg4 0 _ rfl; rw [cof35] at z_; exact z_
  have g11 : DataW.trod enc Try.prog W 0 (fun _ => true) true n2 3 [c_3] = some y6 := by have z_ : DataW.trod enc Try.prog W 0 (fun _ => true) true n2 3 (([c_0, c_1, c_2, c_3, c_4, c_5, c_6, c_7, c_8, c_9, c_10, c_11].drop 3).take (Try.prog.cellsOf 3)) = [y5, y6, y7, y8, y9][1]? := hg4 1 _ rfl; rw [cof3] at z_; exact z_
  have g12 : DataW.trod enc Try.prog W 0 (fun _ => true) true n2 36 [c_4] = some y7 := by have z_ : DataW.trod enc Try.prog W 0 (fun _ => true) true n2 36 (([c_0, c_1, c_2, c_3, c_4, c_5, c_6, c_7, c_8, c_9, c_10, c_11].drop 4).take (Try.prog.cellsOf 36)) = [y5, y6, y7, y8, y9][2]? := hg4 2 _ rfl; rw [cof36] at z_; exact z_
  have g13 : DataW.trod enc Try.prog W 0 (fun _ => true) true n2 37 [c_5, c_6, c_7] = some y8 := by have z_ : DataW.trod enc Try.prog W 0 (fun _ => true) true n2 37 (([c_0, c_1, c_2, c_3, c_4, c_5, c_6, c_7, c_8, c_9, c_10, c_11].drop 5).take (Try.prog.cellsOf 37)) = [y5, y6, y7, y8, y9][3]? := hg4 3 _ rfl; rw [cof37] at z_; exact z_
  have g14 : DataW.trod enc Try.prog W 0 (fun _ => true) true n2 38 [c_8, c_9, c_10, c_11] = some y9 := by have z_ : DataW.trod enc Try.prog W 0 (fun _ => true) true n2 38 (([c_0, c_1, c_2, c_3, c_4, c_5, c_6, c_7, c_8, c_9, c_10, c_11].drop 8).take (Try.prog.cellsOf 38)) = [y5, y6, y7, y8, y9][4]? := hg4 4 _ rfl; rw [cof38] at z_; exact z_
  obtain ⟨xs15, n16, _, _, _, hl17, hg18⟩ := DataW.trod_struct Try.underlying35 g10
  obtain ⟨y19, y20, y21, rfl⟩ : ∃ y19 y20 y21, xs15 = [y19, y20, y21] := by match xs15, hl17 with | [y19, y20, y21], _ => exact ⟨y19, y20, y21, rfl⟩
  have g22 : DataW.trod enc Try.prog W 0 (fun _ => true) true n16 3 [c_0] = some y19 := by have z_ : DataW.trod enc Try.prog W 0 (fun _ => true) true n16 3 (([c_0, c_1, c_2].drop 0).take (Try.prog.cellsOf 3)) = [y19, y20, y21][0]? := hg18 0 _ rfl; rw [cof3] at z_; exact z_
  have g23 : DataW.trod enc Try.prog W 0 (fun _ => true) true n16 3 [c_1] = some y20 := by have z_ : DataW.trod enc Try.prog W 0 (fun _ => true) true n16 3 (([c_0, c_1, c_2].drop 1).take (Try.prog.cellsOf 3)) = [y19, y20, y21][1]? := hg18 1 _ rfl; rw [cof3] at z_; exact z_
  have g24 : DataW.trod enc Try.prog W 0 (fun _ => true) true n16 3 [c_2] = some y21 := by have z_ : DataW.trod enc Try.prog W 0 (fun _ => true) true n16 3 (([c_0, c_1, c_2].drop 2).take (Try.prog.cellsOf 3)) = [y19, y20, y21][2]? := hg18 2 _ rfl; rw [cof3] at z_; exact z_
  obtain ⟨a0_0, e25, _, w0_0⟩ := DataW.trod_int Try.underlying3 g22
  obtain rfl : c_0 = _ := by simpa using e25
  obtain ⟨a0_1, e26, _, w0_1⟩ := DataW.trod_int Try.underlying3 g23
  obtain rfl : c_1 = _ := by simpa using e26
  obtain ⟨a0_2, e27, _, w0_2⟩ := DataW.trod_int Try.underlying3 g24
  obtain rfl : c_2 = _ := by simpa using e27
  obtain ⟨a0_3, e28, _, w0_3⟩ := DataW.trod_int Try.underlying3 g11
  obtain rfl : c_3 = _ := by simpa using e28
  obtain ⟨A0_4, c0_4, l0_4, rfl, w0_4⟩ : ∃ A c l, c_4 = .slice A l.length c ∧ Kd.C k97 W A l.length l ∧ l.length ≤ c ∧ c ≤ maxLen ∧ (∀ y ∈ l, (Lit.int .i64 y.f0).wf = true ∧ (Lit.int .i64 y.f1).wf = true) := by
   rcases open_slice Try.underlying36 g12 with ⟨hcs, _⟩ | ⟨ad, len, cap, m, n_, D_, Pl_, hcs, _, hlc, hcm, hm, _, hel⟩
   ·exact ⟨none, 0, [], by simpa using hcs, ⟨rfl, by simp, fun hp => absurd hp (by simp)⟩, by simp, by unfold maxLen; omega, by simp⟩
   ·have hlen : len ≤ 9223372036854775807 := by unfold maxLen at hcm; omega
    have each_ : ∀ i, i < len → ∃ (y : S97) (c : List Value), ((Lit.int .i64 y.f0).wf = true ∧ (Lit.int .i64 y.f1).wf = true) ∧ c.length = (k97 : Kd _).sz ∧ (k97 : Kd _).K W y c ∧ ∀ j u, c[j]? = some u → W.cell? (ad.add (i * (k97 : Kd _).sz + j)) = some u := by
     intro i hi
     obtain ⟨cs_, hc_, ht_⟩ := hel i (by simp only [if_true] at hm; omega)
     rw [cof97] at hc_
     obtain ⟨hb_, hn_, hat_⟩ := World.cells?_some hc_
     obtain ⟨u30, u31, rfl⟩ : ∃ u30 u31, cs_ = [u30, u31] := by match cs_, hn_ with | [u30, u31], _ => exact ⟨u30, u31, rfl⟩
     obtain ⟨xs32, n33, _, _, _, hl34, hg35⟩ := DataW.trod_struct Try.underlying97 ht_
     obtain ⟨y36, y37, rfl⟩ : ∃ y36 y37, xs32 = [y36, y37] := by match xs32, hl34 with | [y36, y37], _ => exact ⟨y36, y37, rfl⟩
     have g38 : DataW.trod enc Try.prog W 0 (fun _ => true) true n33 3 [u30] = some y36 := by have z_ : DataW.trod enc Try.prog W 0 (fun _ => true) true n33 3 (([u30, u31].drop 0).take (Try.prog.cellsOf 3)) = [y36, y37][0]? := hg35 0 _ rfl; rw [cof3] at z_; exact z_
     have g39 : DataW.trod enc Try.prog W 0 (fun _ => true) true n33 3 [u31] = some y37 := by have z_ : DataW.trod enc Try.prog W 0 (fun _ => true) true n33 3 (([u30, u31].drop 1).take (Try.prog.cellsOf 3)) = [y36, y37][1]? := hg35 1 _ rfl; rw [cof3] at z_; exact z_
     obtain ⟨a0_4e0, e40, _, w0_4e0⟩ := DataW.trod_int Try.underlying3 g38
     obtain rfl : u30 = _ := by simpa using e40
     obtain ⟨a0_4e1, e41, _, w0_4e1⟩ := DataW.trod_int Try.underlying3 g39
     obtain rfl : u31 = _ := by simpa using e41
     refine ⟨(⟨a0_4e0, a0_4e1⟩ : S97), [.int .i64 a0_4e0, .int .i64 a0_4e1], ⟨w0_4e0, w0_4e1⟩, rfl, (k97_mk W _), fun j u hu => ?_⟩
     have hj : j < 2 := by have := (List.getElem?_eq_some_iff.1 hu).1; simpa using this
     have h1_ := hat_ j hj
     have hs_ : (k97 : Kd _).sz = 2 := rfl
     rw [hs_, ← Go.Deep.add_add, h1_]; exact hu
    obtain ⟨xs_, hx_, hC_, hP_⟩ := C_each k97 W ad len hlen (fun y => (Lit.int .i64 y.f0).wf = true ∧ (Lit.int .i64 y.f1).wf = true) each_
    exact ⟨some ad, cap, xs_, by rw [hx_]; simpa using hcs, by rw [hx_]; exact hC_, by omega, hcm, hP_⟩
  obtain ⟨xs42, n43, _, _, _, hl44, hg45⟩ := DataW.trod_struct Try.underlying37 g13
  obtain ⟨y46, y47, y48, rfl⟩ : ∃ y46 y47 y48, xs42 = [y46, y47, y48] := by match xs42, hl44 with | [y46, y47, y48], _ => exact ⟨y46, y47, y48, rfl⟩
  have g49 : DataW.trod enc Try.prog W 0 (fun _ => true) true n43 3 [c_5] = some y46 := by have z_ : DataW.trod enc Try.prog W 0 (fun _ => true) true n43 3 (([c_5, c_6, c_7].drop 0).take (Try.prog.cellsOf 3)) = [y46, y47, y48][0]? := hg45 0 _ rfl; rw [cof3] at z_; exact z_
  have g50 : DataW.trod enc Try.prog W 0 (fun _ => true) true n43 3 [c_6] = some y47 := by have z_ : DataW.trod enc Try.prog W 0 (fun _ => true) true n43 3 (([c_5, c_6, c_7].drop 1).take (Try.prog.cellsOf 3)) = [y46, y47, y48][1]? := hg45 1 _ rfl; rw [cof3] at z_; exact z_
  have g51 : DataW.trod enc Try.prog W 0 (fun _ => true) true n43 3 [c_7] = some y48 := by have z_ : DataW.trod enc Try.prog W 0 (fun _ => true) true n43 3 (([c_5, c_6, c_7].drop 2).take (Try.prog.cellsOf 3)) = [y46, y47, y48][2]? := hg45 2 _ rfl; rw [cof3] at z_; exact z_
  obtain ⟨a0_5, e52, _, w0_5⟩ := DataW.trod_int Try.underlying3 g49
  obtain rfl : c_5 = _ := by simpa using e52
  obtain ⟨a0_6, e53, _, w0_6⟩ := DataW.trod_int Try.underlying3 g50
  obtain rfl : c_6 = _ := by simpa using e53
  obtain ⟨a0_7, e54, _, w0_7⟩ := DataW.trod_int Try.underlying3 g51
  obtain rfl : c_7 = _ := by simpa using e54
  obtain ⟨xs55, n56, _, _, _, hl57, hg58⟩ := DataW.trod_struct Try.underlying38 g14
  obtain ⟨y59, y60, y61, y62, rfl⟩ : ∃ y59 y60 y61 y62, xs55 = [y59, y60, y61, y62] := by match xs55, hl57 with | [y59, y60, y61, y62], _ => exact ⟨y59, y60, y61, y62, rfl⟩
  have g63 : DataW.trod enc Try.prog W 0 (fun _ => true) true n56 3 [c_8] = some y59 := by have z_ : DataW.trod enc Try.prog W 0 (fun _ => true) true n56 3 (([c_8, c_9, c_10, c_11].drop 0).take (Try.prog.cellsOf 3)) = [y59, y60, y61, y62][0]? := hg58 0 _ rfl; rw [cof3] at z_; exact z_
  have g64 : DataW.trod enc Try.prog W 0 (fun _ => true) true n56 3 [c_9] = some y60 := by have z_ : DataW.trod enc Try.prog W 0 (fun _ => true) true n56 3 (([c_8, c_9, c_10, c_11].drop 1).take (Try.prog.cellsOf 3)) = [y59, y60, y61, y62][1]? := hg58 1 _ rfl; rw [cof3] at z_; exact z_
  have g65 : DataW.trod enc Try.prog W 0 (fun _ => true) true n56 3 [c_10] = some y61 := by have z_ : DataW.trod enc Try.prog W 0 (fun _ => true) true n56 3 (([c_8, c_9, c_10, c_11].drop 2).take (Try.prog.cellsOf 3)) = [y59, y60, y61, y62][2]? := hg58 2 _ rfl; rw [cof3] at z_; exact z_
  have g66 : DataW.trod enc Try.prog W 0 (fun _ => true) true n56 3 [c_11] = some y62 := by have z_ : DataW.trod enc Try.prog W 0 (fun _ => true) true n56 3 (([c_8, c_9, c_10, c_11].drop 3).take (Try.prog.cellsOf 3)) = [y59, y60, y61, y62][3]? := hg58 3 _ rfl; rw [cof3] at z_; exact z_
  obtain ⟨a0_8, e67, _, w0_8⟩ := DataW.trod_int Try.underlying3 g63
  obtain rfl : c_8 = _ := by simpa using e67
  obtain ⟨a0_9, e68, _, w0_9⟩ := DataW.trod_int Try.underlying3 g64
  obtain rfl : c_9 = _ := by simpa using e68
  obtain ⟨a0_10, e69, _, w0_10⟩ := DataW.trod_int Try.underlying3 g65
  obtain rfl : c_10 = _ := by simpa using e69
  obtain ⟨a0_11, e70, _, w0_11⟩ := DataW.trod_int Try.underlying3 g66
  obtain rfl : c_11 = _ := by simpa using e70
  exact ⟨_, _, _, _, _, _, _, _, _, _, _, _, _, _, rfl, w0_0, w0_1, w0_2, w0_3, w0_4, w0_5, w0_6, w0_7, w0_8, w0_9, w0_10, w0_11⟩
set_option maxRecDepth 100000 in
theorem lifted (os : Os) (started : os.Started) (H : Type) (enc : TypeId × Value → H) :
  ReturnsInHanded {} Try.checked os 4 .any (Rows.fnExactIsDeskSpec.pre6 enc Try.prog Try.f4 Rows.fnExactIsDeskRow.domain false) (Rows.fnExactIsDeskSpec.post enc Try.prog Try.f4 false true false false) := by
 refine returnsInHanded_of_change_sized (C := Try.checked) own started (by kernel_rfl) Try.func4
  (ChangeSpec.witness6 (enc := enc) (C := Try.checked) false ⟨#[], #[.agg #[.int .i64 0, .int .i64 0, .int .i64 0, .int .i64 0, .slice none 0 0, .int .i64 0, .int .i64 0, .int .i64 0, .int .i64 0, .int .i64 0, .int .i64 0, .int .i64 0]], []⟩ 8 (by kernel_rfl) (by kernel_rfl) (by kernel_rfl) (by kernel_rfl)) ?_
 intro W base args ds gs before hval0 hW hcnd hsz0 _
 have hsz : (DataW.weightsEach Try.prog (Try.f4.params.toList ++ Rows.fnExactIsDeskSpec.plain.varTypes Try.prog) (ds ++ gs)).all (· ≤ reachBytes) = true := hsz0
 have hval : ∀ (j : Nat) t v, Try.f4.params[j]? = some t → args[j]? = some v → Value.okWide Try.prog W .any base t v := hval0
 have hW' := hW
 obtain ⟨p, q, hA0, hV, rfl, hfz, hnd⟩ := hW
 have hA : DataW.TrodAll enc Try.prog W 0 (fun _ => true) true Try.f4.params.toList args.toList ds p := hA0
 rw [Try.params4] at hA hval hsz
 obtain ⟨v0, vs0, d0, ds0, p0, q0, hargs, rfl, rfl, h0, r0⟩ := trodAll_cons hA
 obtain ⟨rfl, rfl, rfl⟩ := trodAll_nil r0
 obtain rfl : args = #[v0] := by cases args; simp_all
 obtain ⟨rfl, rfl⟩ := trodVars_none hV
 have k0 := h0
 have lt0 : ∀ x ∈ p0, x.block < W.heap.size := by obtain ⟨m, hm⟩ := k0; exact DataW.trod_lt m _ _ _ hm
 obtain ⟨a0_0, a0_1, a0_2, a0_3, A0_4, c0_4, l0_4, a0_5, a0_6, a0_7, a0_8, a0_9, a0_10, a0_11, rfl, w0_0, w0_1, w0_2, w0_3, ⟨hr0_4, hc0_4, hm0_4, w0_4⟩, w0_5, w0_6, w0_7, w0_8, w0_9, w0_10, w0_11⟩ := open0 (hval 0 40 v0 rfl rfl) h0
 clear hA0 hval0 hsz0 hsz
 obtain ⟨kk, hk⟩ := Pure.FnExactIsDesk a0_0 a0_1 a0_2 a0_3 l0_4 a0_5 a0_6 a0_7 a0_8 a0_9 a0_10 a0_11 w0_0 w0_1 w0_2 w0_3 (Nat.le_trans hc0_4 hm0_4) w0_4 w0_5 w0_6 w0_7 w0_8 w0_9 w0_10 w0_11
 refine (P.laws_FnExactIsDesk.calls kk a0_0 a0_1 a0_2 a0_3 _ _ l0_4 a0_5 a0_6 a0_7 a0_8 a0_9 a0_10 a0_11 true W hr0_4 hc0_4 hk rfl).mono fun e W' ⟨he, bel0⟩ => ?_
 have bel : Below W.heap.size W W' := bel0
 subst he
 exact ⟨_, rfl, _, _, _, [], _, [], hW', trodAll_mk1 (shut_bool Try.underlying4 _), (trodAll_cons_mk (Below.trod laidOut (by kernel_rfl) (of_decide_eq_true (by kernel_rfl)) k0 bel lt0) trodAll_mk0), rfl, bel.frame _, fun h => by cases h⟩
theorem over : Rows.fnExactIsDeskRow.holds Try.pinned (OpenSpec.ofChange Rows.fnExactIsDeskSpec) :=
 OpenClaim.holds_of_wide 4 Try.f4 rfl rfl rfl rfl rfl rfl rfl ⟨rfl, rfl, rfl, rfl, rfl⟩ rfl rfl rfl rfl rfl (by kernel_rfl) Try.func4 (by kernel_rfl)
  (of_decide_eq_true (by kernel_rfl)) (by unfold Func.isWrapper; first | (rw [if_pos (by decide +kernel)]; kernel_rfl) | (rw [if_neg (by decide +kernel)]; exact ⟨rfl, rfl⟩))
  (fun os started H enc _ => lifted os started H enc)
theorem proved : Rows.FnExactIsDeskSaid := over
end Go.Proofs.Ytdlcefclefbdjaa.fnExactIsDesk
namespace Go.Proofs.Ytdlcefclefbdjaa
/-- The row, under a short name, for the claim. -/
theorem fnExactIsDesk_holds : Rows.FnExactIsDeskSaid := fnExactIsDesk.proved
end Go.Proofs.Ytdlcefclefbdjaa
