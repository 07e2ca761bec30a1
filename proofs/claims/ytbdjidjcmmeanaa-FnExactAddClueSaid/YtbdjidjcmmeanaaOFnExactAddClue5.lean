/- The law FnExactAddClue is proved: a call of it returns true and leaves its arguments as they were; and what this needs. Every input that the given rows speak of; nothing else is asked. -/
import Derived.Test.YtbdjidjcmmeanaaOFnExactAddClue0
import Derived.Test.YtbdjidjcmmeanaaOFnExactAddClue4
import Derived.Test.YtbdjidjcmmeanaaOFnExactAddClue1
import Derived.Test.YtbdjidjcmmeanaaOFnExactAddClue2
import Derived.Test.YtbdjidjcmmeanaaOFnExactAddClue3
import Derived.Test.YtbdjidjcmmeanaaRows
import Derived.WalkKit
import Derived.ProofKit
import Derived.OpenShut
import Derived.ShutString
import Derived.ChangeOld
import Derived.Below
import Derived.SizedLaws
import Derived.Deep.Slices
import Derived.Deep.Fields
import Derived.ChangeSame
import Derived.Lib.SmallJoins
import Derived.Test.YtbdjidjcmmeanaaWSized
namespace Go.Proofs.Ytbdjidjcmmeanaa.P
open Go.RowKit Go.Proofs.YtbdjidjcmmeanaaW.PrintWords Go.Proofs.YtbdjidjcmmeanaaW.PrintLast Go.Proofs.YtbdjidjcmmeanaaW.PrintMore
set_option linter.unusedVariables false
theorem zO5_0 {p : Prop} (h : p := by repeat (first | (with_reducible first | exact HB.out | apply below_alloc | apply pw_below_drewN | apply below_drew1 | refine below_set ?_ GE279.out | refine below_set ?_ GE280.out) | exact HB.out)) : p := h
theorem zO5_1 {p : Prop} (h : p := by repeat (first | (with_reducible first | exact HB.out | apply below_alloc | apply pw_below_drewN | apply below_drew1 | refine below_set ?_ GE270.out) | exact HB.out)) : p := h
theorem zO5_2 {p : Prop} (h : p := by repeat (first | (with_reducible first | exact HB.out | apply below_alloc | apply pw_below_drewN | apply below_drew1 | refine below_set ?_ GE279.out) | exact HB.out)) : p := h
theorem zO5_3 {p : Prop} (h : p := by repeat (first | (with_reducible first | exact HB.out | apply below_alloc | apply pw_below_drewN | apply below_drew1 | refine below_set ?_ GE531.out) | exact HB.out)) : p := h
theorem zO5_4 {p : Prop} (h : p := by (try simp only [List.map_toArray, List.map_cons, List.map_nil]); first | done | rfl | (simp only [List.length_drop, List.length_take]; rfl)) : p := h
theorem zO5_5 {p : Prop} (h : p := by repeat (first | (with_reducible first | exact HB.out | apply below_alloc | apply pw_below_drewN | apply below_drew1) | exact HB.out)) : p := h
theorem zO5_6 {p : Prop} (h : p := by (with_reducible repeat (first | refine blk_drewN ?_ _ | refine blk_drew ?_ | refine blk_alloc ?_ _)); exact BK270.out) : p := h
theorem zO5_7 {p : Prop} (h : p := by (with_reducible repeat (first | refine blk_drewN ?_ _ | refine blk_drew ?_ | refine blk_alloc ?_ _)); exact BK279.out) : p := h
theorem zO5_8 {p : Prop} (h : p := by (with_reducible repeat (first | refine blk_drewN ?_ _ | refine blk_drew ?_ | refine blk_alloc ?_ _)); exact BK280.out) : p := h
theorem zO5_9 {p : Prop} (h : p := by (with_reducible repeat (first | refine blk_drewN ?_ _ | refine blk_drew ?_ | refine blk_alloc ?_ _)); exact BK531.out) : p := h
theorem zO5_10 {p : Prop} (h : p := by (with_reducible repeat (first | apply Kd.R_alloc | apply Kd.R_drewN | apply Kd.R_drew)); exact HO_5.out) : p := h
theorem zO5_11 {p : Prop} (h : p := by first | (with_reducible assumption) | assumption) : p := h
theorem zO5_12 {p : Prop} (h : p := by first | rfl | (simp; done) | (simp [*]; done)) : p := h
theorem zO5_13 {p : Prop} (h : p := by omega) : p := h
end Go.Proofs.Ytbdjidjcmmeanaa.P
namespace Go.Proofs.Ytbdjidjcmmeanaa.P
open Go.RowKit Go.Proofs.YtbdjidjcmmeanaaW.PrintWords Go.Proofs.YtbdjidjcmmeanaaW.PrintLast Go.Proofs.YtbdjidjcmmeanaaW.PrintMore
attribute [local go_sem] max2_int min2_int max_two min_two max_three min_three max_four min_four   -- for this text's walks alone
set_option linter.unusedVariables false
set_option linter.unusedSimpArgs false

/-! ### spec_pzValue: function 84 -/
def spec_pzValue.f (k : Nat) (a0 : Int) (a1 : Int) (a2_0 : Int) (a2_1 : Int) (a2_2 : Int) : Option (Int × Int) := if a0 = 0 then (some (a1, wrap64 (a2_1 + a2_2))) else (if a0 = 1 then (if a2_1 > a2_2 then (some (a1, 1)) else (some (a1, 0))) else (if a0 = 2 then ((spec_clLow.f k (wrap64 (a2_1 * a2_2)) (wrap64 (a2_1 + a2_2))).bind fun bt271 => (some (bt271.1, bt271.2))) else (if a0 = 3 then ((spec_clSquares.f a2_0 a2_1 a2_2).bind fun bt273 => (if a1 = 1 then ((spec_clRoot.f k bt273.2).bind fun t275 => (if (wrap64 (t275 * t275)) = bt273.2 then (some (a1, 1)) else (some (a1, 0)))) else ((spec_clRoot.f k bt273.1).bind fun t276 => (if (wrap64 (t276 * t276)) = bt273.1 then (some (a1, 1)) else (some (a1, 0)))))) else (if a0 = 4 then ((spec_clLow.f k (wrap64 (a2_0 * a2_1)) (wrap64 (a2_1 + a2_2))).bind fun bt277 => (some (bt277.1, bt277.2))) else (some (a1, wrap64 (a2_1 * a2_2)))))))
set_option maxHeartbeats 8000000 in
set_option maxRecDepth 100000 in
theorem spec_pzValue.calls (k : Nat) (a0 : Int) (a1 : Int) (a2_0 : Int) (a2_1 : Int) (a2_2 : Int) (r1 : Int) (r2 : Int) (w : World) (h : spec_pzValue.f k a0 a1 a2_0 a2_1 a2_2 = some (r1, r2)) :
  Calls Try.prog 84 #[.int .i64 a0, .int .i64 a1, .agg #[.int .i64 a2_0, .int .i64 a2_1, .int .i64 a2_2]] w fun e w' => e = .returned (.tuple #[.int .i64 r1, .int .i64 r2]) ∧ Below w.heap.size w w' := by
 have hu45 := Try.underlying45
 have HB := Aside0.mk (Below.refl w.heap.size w)
 have H : (if a0 = 0 then (some (a1, wrap64 (a2_1 + a2_2))) else (if a0 = 1 then (if a2_1 > a2_2 then (some (a1, 1)) else (some (a1, 0))) else (if a0 = 2 then ((spec_clLow.f k (wrap64 (a2_1 * a2_2)) (wrap64 (a2_1 + a2_2))).bind fun bt271 => (some (bt271.1, bt271.2))) else (if a0 = 3 then ((spec_clSquares.f a2_0 a2_1 a2_2).bind fun bt273 => (if a1 = 1 then ((spec_clRoot.f k bt273.2).bind fun t275 => (if (wrap64 (t275 * t275)) = bt273.2 then (some (a1, 1)) else (some (a1, 0)))) else ((spec_clRoot.f k bt273.1).bind fun t276 => (if (wrap64 (t276 * t276)) = bt273.1 then (some (a1, 1)) else (some (a1, 0)))))) else (if a0 = 4 then ((spec_clLow.f k (wrap64 (a2_0 * a2_1)) (wrap64 (a2_1 + a2_2))).bind fun bt277 => (some (bt277.1, bt277.2))) else (some (a1, wrap64 (a2_1 * a2_2)))))))) = some (r1, r2) := h
 clear h
 by_cases c4 : a0 = 0
 ·rw [if_pos c4] at H
  have c4b0 : (a0 == 0) = true := beq_iff_eq.mpr c4
  have c4b1 : (a0 != 0) = false := bne_eq_false_iff_eq.mpr c4
  clear c4
  simp only [Option.some.injEq, Prod.mk.injEq] at H
  obtain ⟨rfl, rfl⟩ := H
  go_enter Try.func84, Try.ntmps84
  go_wp2_with (first | ((with_reducible refine gate_dst (N := 5) rfl ?_); refine box_event ?hg (N := 5) ?hd (cs := #[.int .i64 a2_0, .int .i64 a2_1, .int .i64 a2_2]) (t := 45) ?hr ?_; (case hd => rfl); (case hg => rfl); (case hr => first | (go_simp; done) | (go_simp; rfl)); intro gb270 hg w5 hbox hb; have n0_ := Aside0.mk (below_step zO5_5 hb); have n1_ := Aside0.mk (hbox); have n2_ := Aside0.mk ((by rw [hg]; exact (below_size zO5_5) : w.heap.size ≤ gb270)); have n3_ := Aside0.mk ((by rw [hg]; exact (below_size zO5_5) : w.heap.size ≤ gb270)); clear HB; have HB := n0_; have BK270 := n1_; have GW270 := n2_; have GE270 := n3_; clear n0_ n1_ n2_ n3_; clear hb hbox hg; have hcz6_0 : w5.cell? ⟨gb270, 0, none⟩ = some (.int .i64 a2_0) := (blk_cell BK270.out 0).trans rfl; have hcz6_1 : w5.cell? ⟨gb270, 1, none⟩ = some (.int .i64 a2_1) := (blk_cell BK270.out 1).trans rfl; have hcz6_2 : w5.cell? ⟨gb270, 2, none⟩ = some (.int .i64 a2_2) := (blk_cell BK270.out 2).trans rfl; have hfz6_0 := blk_frozen BK270.out 0; have hfz6_1 := blk_frozen BK270.out 1; have hfz6_2 := blk_frozen BK270.out 2))
  go_ret2
  exact ⟨by first | rfl | (simp [errW_none, errW_some] <;> rfl) | (simp [*, errW_none, errW_some] <;> rfl), by repeat (first | (with_reducible first | exact HB.out | apply below_alloc | apply pw_below_drewN | apply below_drew1 | refine below_set ?_ GE270.out) | exact HB.out)⟩
 ·rw [if_neg c4] at H
  have c4b0 : (a0 == 0) = false := beq_eq_false_iff_ne.mpr c4
  have c4b1 : (a0 != 0) = true := bne_iff_ne.mpr c4
  by_cases c7 : a0 = 1
  ·rw [if_pos c7] at H
   have c7b0 : (a0 == 1) = true := beq_iff_eq.mpr c7
   have c7b1 : (a0 != 1) = false := bne_eq_false_iff_eq.mpr c7
   clear c7
   by_cases c8 : a2_1 > a2_2
   ·rw [if_pos c8] at H
    have c8b0 : decide (a2_2 < a2_1) = true := decide_eq_true c8; clear c8
    simp only [Option.some.injEq, Prod.mk.injEq] at H
    obtain ⟨rfl, rfl⟩ := H
    go_enter Try.func84, Try.ntmps84
    go_wp2_with (first | ((with_reducible refine gate_dst (N := 5) rfl ?_); refine box_event ?hg (N := 5) ?hd (cs := #[.int .i64 a2_0, .int .i64 a2_1, .int .i64 a2_2]) (t := 45) ?hr ?_; (case hd => rfl); (case hg => rfl); (case hr => first | (go_simp; done) | (go_simp; rfl)); intro gb270 hg w9 hbox hb; have n0_ := Aside0.mk (below_step zO5_5 hb); have n1_ := Aside0.mk (hbox); have n2_ := Aside0.mk ((by rw [hg]; exact (below_size zO5_5) : w.heap.size ≤ gb270)); have n3_ := Aside0.mk ((by rw [hg]; exact (below_size zO5_5) : w.heap.size ≤ gb270)); clear HB; have HB := n0_; have BK270 := n1_; have GW270 := n2_; have GE270 := n3_; clear n0_ n1_ n2_ n3_; clear hb hbox hg; have hcz10_0 : w9.cell? ⟨gb270, 0, none⟩ = some (.int .i64 a2_0) := (blk_cell BK270.out 0).trans rfl; have hcz10_1 : w9.cell? ⟨gb270, 1, none⟩ = some (.int .i64 a2_1) := (blk_cell BK270.out 1).trans rfl; have hcz10_2 : w9.cell? ⟨gb270, 2, none⟩ = some (.int .i64 a2_2) := (blk_cell BK270.out 2).trans rfl; have hfz10_0 := blk_frozen BK270.out 0; have hfz10_1 := blk_frozen BK270.out 1; have hfz10_2 := blk_frozen BK270.out 2))
    go_ret2
    exact ⟨by first | rfl | (simp [errW_none, errW_some] <;> rfl) | (simp [*, errW_none, errW_some] <;> rfl), by repeat (first | (with_reducible first | exact HB.out | apply below_alloc | apply pw_below_drewN | apply below_drew1 | refine below_set ?_ GE270.out) | exact HB.out)⟩
   ·rw [if_neg c8] at H
    have c8b0 : decide (a2_2 < a2_1) = false := decide_eq_false c8; clear c8
    simp only [Option.some.injEq, Prod.mk.injEq] at H
    obtain ⟨rfl, rfl⟩ := H
    go_enter Try.func84, Try.ntmps84
    go_wp2_with (first | ((with_reducible refine gate_dst (N := 5) rfl ?_); refine box_event ?hg (N := 5) ?hd (cs := #[.int .i64 a2_0, .int .i64 a2_1, .int .i64 a2_2]) (t := 45) ?hr ?_; (case hd => rfl); (case hg => rfl); (case hr => first | (go_simp; done) | (go_simp; rfl)); intro gb270 hg w11 hbox hb; have n0_ := Aside0.mk (below_step zO5_5 hb); have n1_ := Aside0.mk (hbox); have n2_ := Aside0.mk ((by rw [hg]; exact (below_size zO5_5) : w.heap.size ≤ gb270)); have n3_ := Aside0.mk ((by rw [hg]; exact (below_size zO5_5) : w.heap.size ≤ gb270)); clear HB; have HB := n0_; have BK270 := n1_; have GW270 := n2_; have GE270 := n3_; clear n0_ n1_ n2_ n3_; clear hb hbox hg; have hcz12_0 : w11.cell? ⟨gb270, 0, none⟩ = some (.int .i64 a2_0) := (blk_cell BK270.out 0).trans rfl; have hcz12_1 : w11.cell? ⟨gb270, 1, none⟩ = some (.int .i64 a2_1) := (blk_cell BK270.out 1).trans rfl; have hcz12_2 : w11.cell? ⟨gb270, 2, none⟩ = some (.int .i64 a2_2) := (blk_cell BK270.out 2).trans rfl; have hfz12_0 := blk_frozen BK270.out 0; have hfz12_1 := blk_frozen BK270.out 1; have hfz12_2 := blk_frozen BK270.out 2))
    go_ret2
    exact ⟨by first | rfl | (simp [errW_none, errW_some] <;> rfl) | (simp [*, errW_none, errW_some] <;> rfl), by repeat (first | (with_reducible first | exact HB.out | apply below_alloc | apply pw_below_drewN | apply below_drew1 | refine below_set ?_ GE270.out) | exact HB.out)⟩
  ·rw [if_neg c7] at H
   have c7b0 : (a0 == 1) = false := beq_eq_false_iff_ne.mpr c7
   have c7b1 : (a0 != 1) = true := bne_iff_ne.mpr c7
   by_cases c13 : a0 = 2
   ·rw [if_pos c13] at H
    have c13b0 : (a0 == 2) = true := beq_iff_eq.mpr c13
    have c13b1 : (a0 != 2) = false := bne_eq_false_iff_eq.mpr c13
    clear c13; replace H := Option.bind_eq_some_iff.mp H
    obtain ⟨⟨t271, t272⟩, A140, H⟩ := H
    replace H : (some (t271, t272)) = some (r1, r2) := H
    have A14 := Aside0.mk A140
    clear A140
    simp only [Option.some.injEq, Prod.mk.injEq] at H
    obtain ⟨rfl, rfl⟩ := H
    go_enter Try.func84, Try.ntmps84
    go_wp2_with (first | ((with_reducible refine gate_dst (N := 5) rfl ?_); refine box_event ?hg (N := 5) ?hd (cs := #[.int .i64 a2_0, .int .i64 a2_1, .int .i64 a2_2]) (t := 45) ?hr ?_; (case hd => rfl); (case hg => rfl); (case hr => first | (go_simp; done) | (go_simp; rfl)); intro gb270 hg w15 hbox hb; have n0_ := Aside0.mk (below_step zO5_5 hb); have n1_ := Aside0.mk (hbox); have n2_ := Aside0.mk ((by rw [hg]; exact (below_size zO5_5) : w.heap.size ≤ gb270)); have n3_ := Aside0.mk ((by rw [hg]; exact (below_size zO5_5) : w.heap.size ≤ gb270)); clear HB; have HB := n0_; have BK270 := n1_; have GW270 := n2_; have GE270 := n3_; clear n0_ n1_ n2_ n3_; clear hb hbox hg; have hcz16_0 : w15.cell? ⟨gb270, 0, none⟩ = some (.int .i64 a2_0) := (blk_cell BK270.out 0).trans rfl; have hcz16_1 : w15.cell? ⟨gb270, 1, none⟩ = some (.int .i64 a2_1) := (blk_cell BK270.out 1).trans rfl; have hcz16_2 : w15.cell? ⟨gb270, 2, none⟩ = some (.int .i64 a2_2) := (blk_cell BK270.out 2).trans rfl; have hfz16_0 := blk_frozen BK270.out 0; have hfz16_1 := blk_frozen BK270.out 1; have hfz16_2 := blk_frozen BK270.out 2) | ((with_reducible refine gate_callee (f := 92) rfl ?_); refine goesL_ (some 45) rfl rfl Try.func92 (by kernel_rfl) rfl #[.int .i64 (wrap64 (a2_1 * a2_2)), .int .i64 (wrap64 (a2_1 + a2_2))] rfl zO5_4 ?_; (with_reducible refine (spec_clLow.calls k (wrap64 (a2_1 * a2_2)) (wrap64 (a2_1 + a2_2)) t271 t272 _ A14.out).mono ?_); rintro e w' ⟨rfl, ⟨nd, rfl⟩⟩; refine ⟨_, rfl, ?_⟩))
    go_ret2
    exact ⟨by first | rfl | (simp [errW_none, errW_some] <;> rfl) | (simp [*, errW_none, errW_some] <;> rfl), by repeat (first | (with_reducible first | exact HB.out | apply below_alloc | apply pw_below_drewN | apply below_drew1 | refine below_set ?_ GE270.out) | exact HB.out)⟩
   ·rw [if_neg c13] at H
    have c13b0 : (a0 == 2) = false := beq_eq_false_iff_ne.mpr c13
    have c13b1 : (a0 != 2) = true := bne_iff_ne.mpr c13
    by_cases c17 : a0 = 3
    ·rw [if_pos c17] at H
     have c17b0 : (a0 == 3) = true := beq_iff_eq.mpr c17
     have c17b1 : (a0 != 3) = false := bne_eq_false_iff_eq.mpr c17
     clear c17; replace H := Option.bind_eq_some_iff.mp H
     obtain ⟨⟨t273, t274⟩, A180, H⟩ := H
     replace H : (if a1 = 1 then ((spec_clRoot.f k t274).bind fun t275 => (if (wrap64 (t275 * t275)) = t274 then (some (a1, 1)) else (some (a1, 0)))) else ((spec_clRoot.f k t273).bind fun t276 => (if (wrap64 (t276 * t276)) = t273 then (some (a1, 1)) else (some (a1, 0))))) = some (r1, r2) := H
     have A18 := Aside0.mk A180
     clear A180
     by_cases c19 : a1 = 1
     ·rw [if_pos c19] at H
      have c19b0 : (a1 == 1) = true := beq_iff_eq.mpr c19
      have c19b1 : (a1 != 1) = false := bne_eq_false_iff_eq.mpr c19
      clear c19; replace H := Option.bind_eq_some_iff.mp H
      obtain ⟨t275, A200, H⟩ := H
      replace H : (if (wrap64 (t275 * t275)) = t274 then (some (a1, 1)) else (some (a1, 0))) = some (r1, r2) := H
      have A20 := Aside0.mk A200
      clear A200
      by_cases c21 : (wrap64 (t275 * t275)) = t274
      ·rw [if_pos c21] at H
       have c21b0 : ((wrap64 (t275 * t275)) == t274) = true := beq_iff_eq.mpr c21
       have c21b1 : ((wrap64 (t275 * t275)) != t274) = false := bne_eq_false_iff_eq.mpr c21
       clear c21
       simp only [Option.some.injEq, Prod.mk.injEq] at H
       obtain ⟨rfl, rfl⟩ := H
       go_enter Try.func84, Try.ntmps84
       go_wp2_with (first | ((with_reducible refine gate_dst (N := 5) rfl ?_); refine box_event ?hg (N := 5) ?hd (cs := #[.int .i64 a2_0, .int .i64 a2_1, .int .i64 a2_2]) (t := 45) ?hr ?_; (case hd => rfl); (case hg => rfl); (case hr => first | (go_simp; done) | (go_simp; rfl)); intro gb270 hg w22 hbox hb; have n0_ := Aside0.mk (below_step zO5_5 hb); have n1_ := Aside0.mk (hbox); have n2_ := Aside0.mk ((by rw [hg]; exact (below_size zO5_5) : w.heap.size ≤ gb270)); have n3_ := Aside0.mk ((by rw [hg]; exact (below_size zO5_5) : w.heap.size ≤ gb270)); clear HB; have HB := n0_; have BK270 := n1_; have GW270 := n2_; have GE270 := n3_; clear n0_ n1_ n2_ n3_; clear hb hbox hg; have hcz23_0 : w22.cell? ⟨gb270, 0, none⟩ = some (.int .i64 a2_0) := (blk_cell BK270.out 0).trans rfl; have hcz23_1 : w22.cell? ⟨gb270, 1, none⟩ = some (.int .i64 a2_1) := (blk_cell BK270.out 1).trans rfl; have hcz23_2 : w22.cell? ⟨gb270, 2, none⟩ = some (.int .i64 a2_2) := (blk_cell BK270.out 2).trans rfl; have hfz23_0 := blk_frozen BK270.out 0; have hfz23_1 := blk_frozen BK270.out 1; have hfz23_2 := blk_frozen BK270.out 2) | ((with_reducible refine gate_callee (f := 93) rfl ?_); refine goesL_ (some 52) rfl rfl Try.func93 (by kernel_rfl) rfl #[.agg #[.int .i64 a2_0, .int .i64 a2_1, .int .i64 a2_2]] rfl zO5_4 ?_; (with_reducible refine (spec_clSquares.calls a2_0 a2_1 a2_2 t273 t274 _ A18.out).mono ?_); rintro e w24 ⟨rfl, hb⟩; refine ⟨_, rfl, ?_⟩; have n0_ := Aside0.mk (blk_below (g := gb270) (o := .cells #[.int .i64 a2_0, .int .i64 a2_1, .int .i64 a2_2] 45 (0, 0)) zO5_6 hb); have n1_ := Aside0.mk (below_step zO5_1 hb); clear BK270; clear HB; have BK270 := n0_; have HB := n1_; clear n0_ n1_; (try clear hb); (try clear hb2); (try clear hk); (try clear hi)) | ((with_reducible refine gate_callee (f := 94) rfl ?_); refine goesL_ (some 59) rfl rfl Try.func94 (by kernel_rfl) rfl #[.int .i64 t274] rfl zO5_4 ?_; (with_reducible refine (spec_clRoot.calls k t274 t275 _ A20.out).mono ?_); rintro e w' ⟨rfl, ⟨nd, rfl⟩⟩; refine ⟨_, rfl, ?_⟩))
       go_ret2
       exact ⟨by first | rfl | (simp [errW_none, errW_some] <;> rfl) | (simp [*, errW_none, errW_some] <;> rfl), by repeat (first | (with_reducible first | exact HB.out | apply below_alloc | apply pw_below_drewN | apply below_drew1 | refine below_set ?_ GE270.out) | exact HB.out)⟩
      ·rw [if_neg c21] at H
       have c21b0 : ((wrap64 (t275 * t275)) == t274) = false := beq_eq_false_iff_ne.mpr c21
       have c21b1 : ((wrap64 (t275 * t275)) != t274) = true := bne_iff_ne.mpr c21
       simp only [Option.some.injEq, Prod.mk.injEq] at H
       obtain ⟨rfl, rfl⟩ := H
       go_enter Try.func84, Try.ntmps84
       go_wp2_with (first | ((with_reducible refine gate_dst (N := 5) rfl ?_); refine box_event ?hg (N := 5) ?hd (cs := #[.int .i64 a2_0, .int .i64 a2_1, .int .i64 a2_2]) (t := 45) ?hr ?_; (case hd => rfl); (case hg => rfl); (case hr => first | (go_simp; done) | (go_simp; rfl)); intro gb270 hg w25 hbox hb; have n0_ := Aside0.mk (below_step zO5_5 hb); have n1_ := Aside0.mk (hbox); have n2_ := Aside0.mk ((by rw [hg]; exact (below_size zO5_5) : w.heap.size ≤ gb270)); have n3_ := Aside0.mk ((by rw [hg]; exact (below_size zO5_5) : w.heap.size ≤ gb270)); clear HB; have HB := n0_; have BK270 := n1_; have GW270 := n2_; have GE270 := n3_; clear n0_ n1_ n2_ n3_; clear hb hbox hg; have hcz26_0 : w25.cell? ⟨gb270, 0, none⟩ = some (.int .i64 a2_0) := (blk_cell BK270.out 0).trans rfl; have hcz26_1 : w25.cell? ⟨gb270, 1, none⟩ = some (.int .i64 a2_1) := (blk_cell BK270.out 1).trans rfl; have hcz26_2 : w25.cell? ⟨gb270, 2, none⟩ = some (.int .i64 a2_2) := (blk_cell BK270.out 2).trans rfl; have hfz26_0 := blk_frozen BK270.out 0; have hfz26_1 := blk_frozen BK270.out 1; have hfz26_2 := blk_frozen BK270.out 2) | ((with_reducible refine gate_callee (f := 93) rfl ?_); refine goesL_ (some 52) rfl rfl Try.func93 (by kernel_rfl) rfl #[.agg #[.int .i64 a2_0, .int .i64 a2_1, .int .i64 a2_2]] rfl zO5_4 ?_; (with_reducible refine (spec_clSquares.calls a2_0 a2_1 a2_2 t273 t274 _ A18.out).mono ?_); rintro e w27 ⟨rfl, hb⟩; refine ⟨_, rfl, ?_⟩; have n0_ := Aside0.mk (blk_below (g := gb270) (o := .cells #[.int .i64 a2_0, .int .i64 a2_1, .int .i64 a2_2] 45 (0, 0)) zO5_6 hb); have n1_ := Aside0.mk (below_step zO5_1 hb); clear BK270; clear HB; have BK270 := n0_; have HB := n1_; clear n0_ n1_; (try clear hb); (try clear hb2); (try clear hk); (try clear hi)) | ((with_reducible refine gate_callee (f := 94) rfl ?_); refine goesL_ (some 59) rfl rfl Try.func94 (by kernel_rfl) rfl #[.int .i64 t274] rfl zO5_4 ?_; (with_reducible refine (spec_clRoot.calls k t274 t275 _ A20.out).mono ?_); rintro e w' ⟨rfl, ⟨nd, rfl⟩⟩; refine ⟨_, rfl, ?_⟩))
       go_ret2
       exact ⟨by first | rfl | (simp [errW_none, errW_some] <;> rfl) | (simp [*, errW_none, errW_some] <;> rfl), by repeat (first | (with_reducible first | exact HB.out | apply below_alloc | apply pw_below_drewN | apply below_drew1 | refine below_set ?_ GE270.out) | exact HB.out)⟩
     ·rw [if_neg c19] at H
      have c19b0 : (a1 == 1) = false := beq_eq_false_iff_ne.mpr c19
      have c19b1 : (a1 != 1) = true := bne_iff_ne.mpr c19
      replace H := Option.bind_eq_some_iff.mp H
      obtain ⟨t276, A280, H⟩ := H
      replace H : (if (wrap64 (t276 * t276)) = t273 then (some (a1, 1)) else (some (a1, 0))) = some (r1, r2) := H
      have A28 := Aside0.mk A280
      clear A280
      by_cases c29 : (wrap64 (t276 * t276)) = t273
      ·rw [if_pos c29] at H
       have c29b0 : ((wrap64 (t276 * t276)) == t273) = true := beq_iff_eq.mpr c29
       have c29b1 : ((wrap64 (t276 * t276)) != t273) = false := bne_eq_false_iff_eq.mpr c29
       clear c29
       simp only [Option.some.injEq, Prod.mk.injEq] at H
       obtain ⟨rfl, rfl⟩ := H
       go_enter Try.func84, Try.ntmps84
       go_wp2_with (first | ((with_reducible refine gate_dst (N := 5) rfl ?_); refine box_event ?hg (N := 5) ?hd (cs := #[.int .i64 a2_0, .int .i64 a2_1, .int .i64 a2_2]) (t := 45) ?hr ?_; (case hd => rfl); (case hg => rfl); (case hr => first | (go_simp; done) | (go_simp; rfl)); intro gb270 hg w30 hbox hb; have n0_ := Aside0.mk (below_step zO5_5 hb); have n1_ := Aside0.mk (hbox); have n2_ := Aside0.mk ((by rw [hg]; exact (below_size zO5_5) : w.heap.size ≤ gb270)); have n3_ := Aside0.mk ((by rw [hg]; exact (below_size zO5_5) : w.heap.size ≤ gb270)); clear HB; have HB := n0_; have BK270 := n1_; have GW270 := n2_; have GE270 := n3_; clear n0_ n1_ n2_ n3_; clear hb hbox hg; have hcz31_0 : w30.cell? ⟨gb270, 0, none⟩ = some (.int .i64 a2_0) := (blk_cell BK270.out 0).trans rfl; have hcz31_1 : w30.cell? ⟨gb270, 1, none⟩ = some (.int .i64 a2_1) := (blk_cell BK270.out 1).trans rfl; have hcz31_2 : w30.cell? ⟨gb270, 2, none⟩ = some (.int .i64 a2_2) := (blk_cell BK270.out 2).trans rfl; have hfz31_0 := blk_frozen BK270.out 0; have hfz31_1 := blk_frozen BK270.out 1; have hfz31_2 := blk_frozen BK270.out 2) | ((with_reducible refine gate_callee (f := 93) rfl ?_); refine goesL_ (some 52) rfl rfl Try.func93 (by kernel_rfl) rfl #[.agg #[.int .i64 a2_0, .int .i64 a2_1, .int .i64 a2_2]] rfl zO5_4 ?_; (with_reducible refine (spec_clSquares.calls a2_0 a2_1 a2_2 t273 t274 _ A18.out).mono ?_); rintro e w32 ⟨rfl, hb⟩; refine ⟨_, rfl, ?_⟩; have n0_ := Aside0.mk (blk_below (g := gb270) (o := .cells #[.int .i64 a2_0, .int .i64 a2_1, .int .i64 a2_2] 45 (0, 0)) zO5_6 hb); have n1_ := Aside0.mk (below_step zO5_1 hb); clear BK270; clear HB; have BK270 := n0_; have HB := n1_; clear n0_ n1_; (try clear hb); (try clear hb2); (try clear hk); (try clear hi)) | ((with_reducible refine gate_callee (f := 94) rfl ?_); refine goesL_ (some 59) rfl rfl Try.func94 (by kernel_rfl) rfl #[.int .i64 t273] rfl zO5_4 ?_; (with_reducible refine (spec_clRoot.calls k t273 t276 _ A28.out).mono ?_); rintro e w' ⟨rfl, ⟨nd, rfl⟩⟩; refine ⟨_, rfl, ?_⟩))
       go_ret2
       exact ⟨by first | rfl | (simp [errW_none, errW_some] <;> rfl) | (simp [*, errW_none, errW_some] <;> rfl), by repeat (first | (with_reducible first | exact HB.out | apply below_alloc | apply pw_below_drewN | apply below_drew1 | refine below_set ?_ GE270.out) | exact HB.out)⟩
      ·rw [if_neg c29] at H
       have c29b0 : ((wrap64 (t276 * t276)) == t273) = false := beq_eq_false_iff_ne.mpr c29
       have c29b1 : ((wrap64 (t276 * t276)) != t273) = true := bne_iff_ne.mpr c29
       simp only [Option.some.injEq, Prod.mk.injEq] at H
       obtain ⟨rfl, rfl⟩ := H
       go_enter Try.func84, Try.ntmps84
       go_wp2_with (first | ((with_reducible refine gate_dst (N := 5) rfl ?_); refine box_event ?hg (N := 5) ?hd (cs := #[.int .i64 a2_0, .int .i64 a2_1, .int .i64 a2_2]) (t := 45) ?hr ?_; (case hd => rfl); (case hg => rfl); (case hr => first | (go_simp; done) | (go_simp; rfl)); intro gb270 hg w33 hbox hb; have n0_ := Aside0.mk (below_step zO5_5 hb); have n1_ := Aside0.mk (hbox); have n2_ := Aside0.mk ((by rw [hg]; exact (below_size zO5_5) : w.heap.size ≤ gb270)); have n3_ := Aside0.mk ((by rw [hg]; exact (below_size zO5_5) : w.heap.size ≤ gb270)); clear HB; have HB := n0_; have BK270 := n1_; have GW270 := n2_; have GE270 := n3_; clear n0_ n1_ n2_ n3_; clear hb hbox hg; have hcz34_0 : w33.cell? ⟨gb270, 0, none⟩ = some (.int .i64 a2_0) := (blk_cell BK270.out 0).trans rfl; have hcz34_1 : w33.cell? ⟨gb270, 1, none⟩ = some (.int .i64 a2_1) := (blk_cell BK270.out 1).trans rfl; have hcz34_2 : w33.cell? ⟨gb270, 2, none⟩ = some (.int .i64 a2_2) := (blk_cell BK270.out 2).trans rfl; have hfz34_0 := blk_frozen BK270.out 0; have hfz34_1 := blk_frozen BK270.out 1; have hfz34_2 := blk_frozen BK270.out 2) | ((with_reducible refine gate_callee (f := 93) rfl ?_); refine goesL_ (some 52) rfl rfl Try.func93 (by kernel_rfl) rfl #[.agg #[.int .i64 a2_0, .int .i64 a2_1, .int .i64 a2_2]] rfl zO5_4 ?_; (with_reducible refine (spec_clSquares.calls a2_0 a2_1 a2_2 t273 t274 _ A18.out).mono ?_); rintro e w35 ⟨rfl, hb⟩; refine ⟨_, rfl, ?_⟩; have n0_ := Aside0.mk (blk_below (g := gb270) (o := .cells #[.int .i64 a2_0, .int .i64 a2_1, .int .i64 a2_2] 45 (0, 0)) zO5_6 hb); have n1_ := Aside0.mk (below_step zO5_1 hb); clear BK270; clear HB; have BK270 := n0_; have HB := n1_; clear n0_ n1_; (try clear hb); (try clear hb2); (try clear hk); (try clear hi)) | ((with_reducible refine gate_callee (f := 94) rfl ?_); refine goesL_ (some 59) rfl rfl Try.func94 (by kernel_rfl) rfl #[.int .i64 t273] rfl zO5_4 ?_; (with_reducible refine (spec_clRoot.calls k t273 t276 _ A28.out).mono ?_); rintro e w' ⟨rfl, ⟨nd, rfl⟩⟩; refine ⟨_, rfl, ?_⟩))
       go_ret2
       exact ⟨by first | rfl | (simp [errW_none, errW_some] <;> rfl) | (simp [*, errW_none, errW_some] <;> rfl), by repeat (first | (with_reducible first | exact HB.out | apply below_alloc | apply pw_below_drewN | apply below_drew1 | refine below_set ?_ GE270.out) | exact HB.out)⟩
    ·rw [if_neg c17] at H
     have c17b0 : (a0 == 3) = false := beq_eq_false_iff_ne.mpr c17
     have c17b1 : (a0 != 3) = true := bne_iff_ne.mpr c17
     by_cases c36 : a0 = 4
     ·rw [if_pos c36] at H
      have c36b0 : (a0 == 4) = true := beq_iff_eq.mpr c36
      have c36b1 : (a0 != 4) = false := bne_eq_false_iff_eq.mpr c36
      clear c36; replace H := Option.bind_eq_some_iff.mp H
      obtain ⟨⟨t277, t278⟩, A370, H⟩ := H
      replace H : (some (t277, t278)) = some (r1, r2) := H
      have A37 := Aside0.mk A370
      clear A370
      simp only [Option.some.injEq, Prod.mk.injEq] at H
      obtain ⟨rfl, rfl⟩ := H
      go_enter Try.func84, Try.ntmps84
      go_wp2_with (first | ((with_reducible refine gate_dst (N := 5) rfl ?_); refine box_event ?hg (N := 5) ?hd (cs := #[.int .i64 a2_0, .int .i64 a2_1, .int .i64 a2_2]) (t := 45) ?hr ?_; (case hd => rfl); (case hg => rfl); (case hr => first | (go_simp; done) | (go_simp; rfl)); intro gb270 hg w38 hbox hb; have n0_ := Aside0.mk (below_step zO5_5 hb); have n1_ := Aside0.mk (hbox); have n2_ := Aside0.mk ((by rw [hg]; exact (below_size zO5_5) : w.heap.size ≤ gb270)); have n3_ := Aside0.mk ((by rw [hg]; exact (below_size zO5_5) : w.heap.size ≤ gb270)); clear HB; have HB := n0_; have BK270 := n1_; have GW270 := n2_; have GE270 := n3_; clear n0_ n1_ n2_ n3_; clear hb hbox hg; have hcz39_0 : w38.cell? ⟨gb270, 0, none⟩ = some (.int .i64 a2_0) := (blk_cell BK270.out 0).trans rfl; have hcz39_1 : w38.cell? ⟨gb270, 1, none⟩ = some (.int .i64 a2_1) := (blk_cell BK270.out 1).trans rfl; have hcz39_2 : w38.cell? ⟨gb270, 2, none⟩ = some (.int .i64 a2_2) := (blk_cell BK270.out 2).trans rfl; have hfz39_0 := blk_frozen BK270.out 0; have hfz39_1 := blk_frozen BK270.out 1; have hfz39_2 := blk_frozen BK270.out 2) | ((with_reducible refine gate_callee (f := 92) rfl ?_); refine goesL_ (some 78) rfl rfl Try.func92 (by kernel_rfl) rfl #[.int .i64 (wrap64 (a2_0 * a2_1)), .int .i64 (wrap64 (a2_1 + a2_2))] rfl zO5_4 ?_; (with_reducible refine (spec_clLow.calls k (wrap64 (a2_0 * a2_1)) (wrap64 (a2_1 + a2_2)) t277 t278 _ A37.out).mono ?_); rintro e w' ⟨rfl, ⟨nd, rfl⟩⟩; refine ⟨_, rfl, ?_⟩))
      go_ret2
      exact ⟨by first | rfl | (simp [errW_none, errW_some] <;> rfl) | (simp [*, errW_none, errW_some] <;> rfl), by repeat (first | (with_reducible first | exact HB.out | apply below_alloc | apply pw_below_drewN | apply below_drew1 | refine below_set ?_ GE270.out) | exact HB.out)⟩
     ·rw [if_neg c36] at H
      have c36b0 : (a0 == 4) = false := beq_eq_false_iff_ne.mpr c36
      have c36b1 : (a0 != 4) = true := bne_iff_ne.mpr c36
      simp only [Option.some.injEq, Prod.mk.injEq] at H
      obtain ⟨rfl, rfl⟩ := H
      go_enter Try.func84, Try.ntmps84
      go_wp2_with (first | ((with_reducible refine gate_dst (N := 5) rfl ?_); refine box_event ?hg (N := 5) ?hd (cs := #[.int .i64 a2_0, .int .i64 a2_1, .int .i64 a2_2]) (t := 45) ?hr ?_; (case hd => rfl); (case hg => rfl); (case hr => first | (go_simp; done) | (go_simp; rfl)); intro gb270 hg w40 hbox hb; have n0_ := Aside0.mk (below_step zO5_5 hb); have n1_ := Aside0.mk (hbox); have n2_ := Aside0.mk ((by rw [hg]; exact (below_size zO5_5) : w.heap.size ≤ gb270)); have n3_ := Aside0.mk ((by rw [hg]; exact (below_size zO5_5) : w.heap.size ≤ gb270)); clear HB; have HB := n0_; have BK270 := n1_; have GW270 := n2_; have GE270 := n3_; clear n0_ n1_ n2_ n3_; clear hb hbox hg; have hcz41_0 : w40.cell? ⟨gb270, 0, none⟩ = some (.int .i64 a2_0) := (blk_cell BK270.out 0).trans rfl; have hcz41_1 : w40.cell? ⟨gb270, 1, none⟩ = some (.int .i64 a2_1) := (blk_cell BK270.out 1).trans rfl; have hcz41_2 : w40.cell? ⟨gb270, 2, none⟩ = some (.int .i64 a2_2) := (blk_cell BK270.out 2).trans rfl; have hfz41_0 := blk_frozen BK270.out 0; have hfz41_1 := blk_frozen BK270.out 1; have hfz41_2 := blk_frozen BK270.out 2))
      go_ret2
      exact ⟨by first | rfl | (simp [errW_none, errW_some] <;> rfl) | (simp [*, errW_none, errW_some] <;> rfl), by repeat (first | (with_reducible first | exact HB.out | apply below_alloc | apply pw_below_drewN | apply below_drew1 | refine below_set ?_ GE270.out) | exact HB.out)⟩


/-! ### spec_pzFits: function 66 -/
def spec_pzFits.f (k : Nat) (a0_0 : Int) (a0_1 : Int) (a0_2 : Int) (a1_0 : Int) (a1_1 : Int) (a1_2 : Int) : Option (Bool) := (spec_pzValue.f k a0_0 a0_1 a1_0 a1_1 a1_2).bind fun bt281 => (if bt281.1 = a0_1 then (some (bt281.2 == a0_2)) else (some false))
set_option maxHeartbeats 8000000 in
set_option maxRecDepth 100000 in
theorem spec_pzFits.calls (k : Nat) (a0_0 : Int) (a0_1 : Int) (a0_2 : Int) (a1_0 : Int) (a1_1 : Int) (a1_2 : Int) (r : Bool) (w : World) (h : spec_pzFits.f k a0_0 a0_1 a0_2 a1_0 a1_1 a1_2 = some r) :
  Calls Try.prog 66 #[.agg #[.int .i64 a0_0, .int .i64 a0_1, .int .i64 a0_2], .agg #[.int .i64 a1_0, .int .i64 a1_1, .int .i64 a1_2]] w fun e w' => e = .returned (.bool r) ∧ Below w.heap.size w w' := by
 have hu37 := Try.underlying37; have hu45 := Try.underlying45
 have HB := Aside0.mk (Below.refl w.heap.size w)
 have H : ((spec_pzValue.f k a0_0 a0_1 a1_0 a1_1 a1_2).bind fun bt281 => (if bt281.1 = a0_1 then (some (bt281.2 == a0_2)) else (some false))) = some r := h
 clear h; replace H := Option.bind_eq_some_iff.mp H
 obtain ⟨⟨t281, t282⟩, A30, H⟩ := H
 replace H : (if t281 = a0_1 then (some (t282 == a0_2)) else (some false)) = some r := H
 have A3 := Aside0.mk A30
 clear A30
 by_cases c4 : t281 = a0_1
 ·rw [if_pos c4] at H
  have c4b0 : (t281 == a0_1) = true := beq_iff_eq.mpr c4
  have c4b1 : (t281 != a0_1) = false := bne_eq_false_iff_eq.mpr c4
  clear c4
  obtain rfl := Option.some.inj H
  go_enter Try.func66, Try.ntmps66
  go_wp2_with (first | ((with_reducible refine gate_dst (N := 2) rfl ?_); refine box_event ?hg (N := 2) ?hd (cs := #[.int .i64 a0_0, .int .i64 a0_1, .int .i64 a0_2]) (t := 37) ?hr ?_; (case hd => rfl); (case hg => rfl); (case hr => first | (go_simp; done) | (go_simp; rfl)); intro gb279 hg w5 hbox hb; have n0_ := Aside0.mk (below_step zO5_5 hb); have n1_ := Aside0.mk (hbox); have n2_ := Aside0.mk ((by rw [hg]; exact (below_size zO5_5) : w.heap.size ≤ gb279)); have n3_ := Aside0.mk ((by rw [hg]; exact (below_size zO5_5) : w.heap.size ≤ gb279)); clear HB; have HB := n0_; have BK279 := n1_; have GW279 := n2_; have GE279 := n3_; clear n0_ n1_ n2_ n3_; clear hb hbox hg) | ((with_reducible refine gate_dst (N := 3) rfl ?_); refine box_event ?hg (N := 3) ?hd (cs := #[.int .i64 a1_0, .int .i64 a1_1, .int .i64 a1_2]) (t := 45) ?hr ?_; (case hd => rfl); (case hg => rfl); (case hr => first | (go_simp; done) | (go_simp; rfl)); intro gb280 hg w6 hbox hb; have n0_ := Aside0.mk (blk_below (g := gb279) (o := .cells #[.int .i64 a0_0, .int .i64 a0_1, .int .i64 a0_2] 37 (0, 0)) zO5_7 hb); have n1_ := Aside0.mk (below_step zO5_2 hb); have n2_ := Aside0.mk (hbox); have n3_ := Aside0.mk ((by rw [hg]; exact (below_size zO5_2) : w.heap.size ≤ gb280)); have n4_ := Aside0.mk ((by rw [hg]; exact (below_size zO5_2) : w.heap.size ≤ gb280)); have n5_ := Aside0.mk ((by rw [hg]; exact Nat.ne_of_lt (blk_lt (g := gb279) (o := .cells #[.int .i64 a0_0, .int .i64 a0_1, .int .i64 a0_2] 37 (0, 0)) zO5_7) : gb279 ≠ gb280)); have n6_ := Aside0.mk ((by rw [hg]; exact Nat.ne_of_gt (blk_lt (g := gb279) (o := .cells #[.int .i64 a0_0, .int .i64 a0_1, .int .i64 a0_2] 37 (0, 0)) zO5_7) : gb280 ≠ gb279)); clear BK279; clear HB; have BK279 := n0_; have HB := n1_; have BK280 := n2_; have GW280 := n3_; have GE280 := n4_; have NB279_280 := n5_; have NB280_279 := n6_; clear n0_ n1_ n2_ n3_ n4_ n5_ n6_; clear hb hbox hg; have hnb7 := NB279_280.out; have hnc7 := NB280_279.out; have hcz8_0 : w6.cell? ⟨gb279, 0, none⟩ = some (.int .i64 a0_0) := (blk_cell BK279.out 0).trans rfl; have hcz8_1 : w6.cell? ⟨gb279, 1, none⟩ = some (.int .i64 a0_1) := (blk_cell BK279.out 1).trans rfl; have hcz8_2 : w6.cell? ⟨gb279, 2, none⟩ = some (.int .i64 a0_2) := (blk_cell BK279.out 2).trans rfl; have hfz8_0 := blk_frozen BK279.out 0; have hfz8_1 := blk_frozen BK279.out 1; have hfz8_2 := blk_frozen BK279.out 2; have hcz9_0 : w6.cell? ⟨gb280, 0, none⟩ = some (.int .i64 a1_0) := (blk_cell BK280.out 0).trans rfl; have hcz9_1 : w6.cell? ⟨gb280, 1, none⟩ = some (.int .i64 a1_1) := (blk_cell BK280.out 1).trans rfl; have hcz9_2 : w6.cell? ⟨gb280, 2, none⟩ = some (.int .i64 a1_2) := (blk_cell BK280.out 2).trans rfl; have hfz9_0 := blk_frozen BK280.out 0; have hfz9_1 := blk_frozen BK280.out 1; have hfz9_2 := blk_frozen BK280.out 2) | ((with_reducible refine gate_callee (f := 84) rfl ?_); refine goesL_ (some 13) rfl rfl Try.func84 (by kernel_rfl) rfl #[.int .i64 a0_0, .int .i64 a0_1, .agg #[.int .i64 a1_0, .int .i64 a1_1, .int .i64 a1_2]] rfl zO5_4 ?_; (with_reducible refine (spec_pzValue.calls k a0_0 a0_1 a1_0 a1_1 a1_2 t281 t282 _ A3.out).mono ?_); rintro e w10 ⟨rfl, hb⟩; refine ⟨_, rfl, ?_⟩; have n0_ := Aside0.mk (blk_below (g := gb279) (o := .cells #[.int .i64 a0_0, .int .i64 a0_1, .int .i64 a0_2] 37 (0, 0)) zO5_7 hb); have n1_ := Aside0.mk (blk_below (g := gb280) (o := .cells #[.int .i64 a1_0, .int .i64 a1_1, .int .i64 a1_2] 45 (0, 0)) zO5_8 hb); have n2_ := Aside0.mk (below_step zO5_0 hb); clear BK279; clear BK280; clear HB; have BK279 := n0_; have BK280 := n1_; have HB := n2_; clear n0_ n1_ n2_; (try clear hb); (try clear hb2); (try clear hk); (try clear hi); have hcz11_0 : w10.cell? ⟨gb279, 0, none⟩ = some (.int .i64 a0_0) := (blk_cell BK279.out 0).trans rfl; have hcz11_1 : w10.cell? ⟨gb279, 1, none⟩ = some (.int .i64 a0_1) := (blk_cell BK279.out 1).trans rfl; have hcz11_2 : w10.cell? ⟨gb279, 2, none⟩ = some (.int .i64 a0_2) := (blk_cell BK279.out 2).trans rfl; have hfz11_0 := blk_frozen BK279.out 0; have hfz11_1 := blk_frozen BK279.out 1; have hfz11_2 := blk_frozen BK279.out 2))
  go_ret
  exact ⟨by first | rfl | (simp [errW_none, errW_some] <;> rfl) | (simp [*, errW_none, errW_some] <;> rfl), by repeat (first | (with_reducible first | exact HB.out | apply below_alloc | apply pw_below_drewN | apply below_drew1 | refine below_set ?_ GE279.out | refine below_set ?_ GE280.out) | exact HB.out)⟩
 ·rw [if_neg c4] at H
  have c4b0 : (t281 == a0_1) = false := beq_eq_false_iff_ne.mpr c4
  have c4b1 : (t281 != a0_1) = true := bne_iff_ne.mpr c4
  obtain rfl := Option.some.inj H
  go_enter Try.func66, Try.ntmps66
  go_wp2_with (first | ((with_reducible refine gate_dst (N := 2) rfl ?_); refine box_event ?hg (N := 2) ?hd (cs := #[.int .i64 a0_0, .int .i64 a0_1, .int .i64 a0_2]) (t := 37) ?hr ?_; (case hd => rfl); (case hg => rfl); (case hr => first | (go_simp; done) | (go_simp; rfl)); intro gb279 hg w12 hbox hb; have n0_ := Aside0.mk (below_step zO5_5 hb); have n1_ := Aside0.mk (hbox); have n2_ := Aside0.mk ((by rw [hg]; exact (below_size zO5_5) : w.heap.size ≤ gb279)); have n3_ := Aside0.mk ((by rw [hg]; exact (below_size zO5_5) : w.heap.size ≤ gb279)); clear HB; have HB := n0_; have BK279 := n1_; have GW279 := n2_; have GE279 := n3_; clear n0_ n1_ n2_ n3_; clear hb hbox hg) | ((with_reducible refine gate_dst (N := 3) rfl ?_); refine box_event ?hg (N := 3) ?hd (cs := #[.int .i64 a1_0, .int .i64 a1_1, .int .i64 a1_2]) (t := 45) ?hr ?_; (case hd => rfl); (case hg => rfl); (case hr => first | (go_simp; done) | (go_simp; rfl)); intro gb280 hg w13 hbox hb; have n0_ := Aside0.mk (blk_below (g := gb279) (o := .cells #[.int .i64 a0_0, .int .i64 a0_1, .int .i64 a0_2] 37 (0, 0)) zO5_7 hb); have n1_ := Aside0.mk (below_step zO5_2 hb); have n2_ := Aside0.mk (hbox); have n3_ := Aside0.mk ((by rw [hg]; exact (below_size zO5_2) : w.heap.size ≤ gb280)); have n4_ := Aside0.mk ((by rw [hg]; exact (below_size zO5_2) : w.heap.size ≤ gb280)); have n5_ := Aside0.mk ((by rw [hg]; exact Nat.ne_of_lt (blk_lt (g := gb279) (o := .cells #[.int .i64 a0_0, .int .i64 a0_1, .int .i64 a0_2] 37 (0, 0)) zO5_7) : gb279 ≠ gb280)); have n6_ := Aside0.mk ((by rw [hg]; exact Nat.ne_of_gt (blk_lt (g := gb279) (o := .cells #[.int .i64 a0_0, .int .i64 a0_1, .int .i64 a0_2] 37 (0, 0)) zO5_7) : gb280 ≠ gb279)); clear BK279; clear HB; have BK279 := n0_; have HB := n1_; have BK280 := n2_; have GW280 := n3_; have GE280 := n4_; have NB279_280 := n5_; have NB280_279 := n6_; clear n0_ n1_ n2_ n3_ n4_ n5_ n6_; clear hb hbox hg; have hnb14 := NB279_280.out; have hnc14 := NB280_279.out; have hcz15_0 : w13.cell? ⟨gb279, 0, none⟩ = some (.int .i64 a0_0) := (blk_cell BK279.out 0).trans rfl; have hcz15_1 : w13.cell? ⟨gb279, 1, none⟩ = some (.int .i64 a0_1) := (blk_cell BK279.out 1).trans rfl; have hcz15_2 : w13.cell? ⟨gb279, 2, none⟩ = some (.int .i64 a0_2) := (blk_cell BK279.out 2).trans rfl; have hfz15_0 := blk_frozen BK279.out 0; have hfz15_1 := blk_frozen BK279.out 1; have hfz15_2 := blk_frozen BK279.out 2; have hcz16_0 : w13.cell? ⟨gb280, 0, none⟩ = some (.int .i64 a1_0) := (blk_cell BK280.out 0).trans rfl; have hcz16_1 : w13.cell? ⟨gb280, 1, none⟩ = some (.int .i64 a1_1) := (blk_cell BK280.out 1).trans rfl; have hcz16_2 : w13.cell? ⟨gb280, 2, none⟩ = some (.int .i64 a1_2) := (blk_cell BK280.out 2).trans rfl; have hfz16_0 := blk_frozen BK280.out 0; have hfz16_1 := blk_frozen BK280.out 1; have hfz16_2 := blk_frozen BK280.out 2) | ((with_reducible refine gate_callee (f := 84) rfl ?_); refine goesL_ (some 13) rfl rfl Try.func84 (by kernel_rfl) rfl #[.int .i64 a0_0, .int .i64 a0_1, .agg #[.int .i64 a1_0, .int .i64 a1_1, .int .i64 a1_2]] rfl zO5_4 ?_; (with_reducible refine (spec_pzValue.calls k a0_0 a0_1 a1_0 a1_1 a1_2 t281 t282 _ A3.out).mono ?_); rintro e w17 ⟨rfl, hb⟩; refine ⟨_, rfl, ?_⟩; have n0_ := Aside0.mk (blk_below (g := gb279) (o := .cells #[.int .i64 a0_0, .int .i64 a0_1, .int .i64 a0_2] 37 (0, 0)) zO5_7 hb); have n1_ := Aside0.mk (blk_below (g := gb280) (o := .cells #[.int .i64 a1_0, .int .i64 a1_1, .int .i64 a1_2] 45 (0, 0)) zO5_8 hb); have n2_ := Aside0.mk (below_step zO5_0 hb); clear BK279; clear BK280; clear HB; have BK279 := n0_; have BK280 := n1_; have HB := n2_; clear n0_ n1_ n2_; (try clear hb); (try clear hb2); (try clear hk); (try clear hi); have hcz18_0 : w17.cell? ⟨gb279, 0, none⟩ = some (.int .i64 a0_0) := (blk_cell BK279.out 0).trans rfl; have hcz18_1 : w17.cell? ⟨gb279, 1, none⟩ = some (.int .i64 a0_1) := (blk_cell BK279.out 1).trans rfl; have hcz18_2 : w17.cell? ⟨gb279, 2, none⟩ = some (.int .i64 a0_2) := (blk_cell BK279.out 2).trans rfl; have hfz18_0 := blk_frozen BK279.out 0; have hfz18_1 := blk_frozen BK279.out 1; have hfz18_2 := blk_frozen BK279.out 2))
  go_ret
  exact ⟨by first | rfl | (simp [errW_none, errW_some] <;> rfl) | (simp [*, errW_none, errW_some] <;> rfl), by repeat (first | (with_reducible first | exact HB.out | apply below_alloc | apply pw_below_drewN | apply below_drew1 | refine below_set ?_ GE279.out | refine below_set ?_ GE280.out) | exact HB.out)⟩


/-! ### spec_pzAll: function 79 -/
mutual
def spec_pzAll.l0 : Nat → Int → List (S37) → List (S45) → Int → Option ((List (S45)))
 | 0, _, _, _, _ => none
 | k + 1, x0, x1, x5, x6 => if x6 ≤ 12 then (spec_pzAll.l1 k x0 x1 x5 x6 1) else (some x5)
def spec_pzAll.l1 : Nat → Int → List (S37) → List (S45) → Int → Int → Option ((List (S45)))
 | 0, _, _, _, _, _ => none
 | k + 1, x0, x1, x5, x6, x7 => if x7 ≤ 12 then (spec_pzAll.l2 k x0 x1 x5 x6 x7 true x1 (x1.length : Int) 0 x0 x6 x7) else (spec_pzAll.l0 k x0 x1 x5 (wrap64 (x6 + 1)))
def spec_pzAll.l2 : Nat → Int → List (S37) → List (S45) → Int → Int → Bool → List (S37) → Int → Int → Int → Int → Int → Option ((List (S45)))
 | 0, _, _, _, _, _, _, _, _, _, _, _, _ => none
 | k + 1, x0, x1, x5, x6, x7, x9, x24, x25, x26, x532000, x532001, x532002 => if x26 < x25 then (if 0 ≤ x26 then (if x26 < (x24.length : Int) then (if x9 = true then ((spec_pzFits.f k ((rd_T37 x24 x26).f0) ((rd_T37 x24 x26).f1) ((rd_T37 x24 x26).f2) x532000 x532001 x532002).bind fun t534 => (spec_pzAll.l2 k x0 x1 x5 x6 x7 t534 x24 x25 (wrap64 (x26 + 1)) x532000 x532001 x532002)) else (spec_pzAll.l2 k x0 x1 x5 x6 x7 false x24 x25 (wrap64 (x26 + 1)) x532000 x532001 x532002)) else (none)) else (none)) else (if x9 = true then (if x5.length < 5864062014805 then (spec_pzAll.l1 k x0 x1 (x5 ++ [(⟨x532000, x532001, x532002⟩ : S45)]) x6 (wrap64 (x7 + 1))) else (none)) else (spec_pzAll.l1 k x0 x1 x5 x6 (wrap64 (x7 + 1))))
end
def spec_pzAll.f (k : Nat) (a0 : Int) (l1 : List (S37)) : Option ((List (S45))) := spec_pzAll.l0 k a0 l1 ([] : List (S45)) 1
set_option maxHeartbeats 8000000 in
set_option maxRecDepth 100000 in
theorem spec_pzAll.calls (k : Nat) (a0 : Int) (A1 : Option Addr) (c1 : Nat) (l1 : List (S37)) (r : List (S45)) (w : World) (hr1 : Kd.C k37 w A1 l1.length l1) (hc1 : l1.length ≤ c1) (h : spec_pzAll.f k a0 l1 = some r) :
  Calls Try.prog 79 #[.int .i64 a0, .slice A1 l1.length c1] w fun e w' => ∃ v0_ : Value, e = .returned (v0_) ∧ Kd.R k45 45 w' w.heap.size (fun _ => True) v0_ r ∧ Below w.heap.size w w' := by
 have hu45 := Try.underlying45; have hu37 := Try.underlying37
 have HR1 := Aside0.mk hr1
 have HC1 := Aside0.mk hc1
 clear hr1 hc1
 have HB := Aside0.mk (Below.refl w.heap.size w)
 have H : (spec_pzAll.l0 k a0 l1 ([] : List (S45)) 1) = some r := h
 clear h; have H' := Aside0.mk H; clear H
 go_enter Try.func79, Try.ntmps79
 go_wp2
 go_loopg [5, 6] k (fun kq v5 v6 w' => ∃ (x5_1 : List (S45)) (x6_1 : Int), v6 = .int .i64 x6_1 ∧ Aside0 (spec_pzAll.l0 kq a0 l1 x5_1 x6_1 = some r) ∧ Aside0 (kq ≤ k) ∧ Aside0 (Kd.R k45 45 w' w.heap.size (fun _ => True) v5 x5_1) ∧ Aside0 (Below w.heap.size w w'))
 case atStart => exact ⟨(([] : List (S45))), (1), zO5_12, H', ⟨Nat.le_refl _⟩, ⟨by first | exact Kd.R_nil _ _ _ _ _ | exact Kd.N_nil _ _ _ _ _ | exact Kd.V_nil _ _ _ _ _ | exact Kd.Q_nil _ _ _ _ _ | exact Kd.S_nil _ _ _ _ _⟩, ⟨by repeat (first | (with_reducible first | exact HB.out | apply below_alloc | apply pw_below_drewN | apply below_drew1) | exact HB.out)⟩⟩
 case round =>
  clear H'; (try clear c1); (try clear p2)
  obtain ⟨x5_1, x6_1, rfl, HA, HK1, HO_5, HB⟩ := hrel
  cases gk with
  | zero => exact absurd HA.out (by simp [spec_pzAll.l0])
  | succ k1 =>
   have H := HA.out; clear HA
   simp only [spec_pzAll.l0] at H
   by_cases c3 : x6_1 ≤ 12
   ·rw [if_pos c3] at H
    have c3b0 : decide (x6_1 ≤ 12) = true := decide_eq_true c3; clear c3; have H' := Aside0.mk H; clear H
    go_wp2
    go_loopg [5, 7] k1 (fun kq v5 v7 w' => ∃ (x5_2 : List (S45)) (x7_2 : Int), v7 = .int .i64 x7_2 ∧ Aside0 (spec_pzAll.l1 kq a0 l1 x5_2 x6_1 x7_2 = some r) ∧ Aside0 (kq ≤ k1) ∧ Aside0 (Kd.R k45 45 w' w.heap.size (fun _ => True) v5 x5_2) ∧ Aside0 (Below w.heap.size w w'))
    case atStart => exact ⟨(x5_1), (1), zO5_12, H', ⟨Nat.le_refl _⟩, ⟨by (with_reducible repeat (first | apply Kd.R_alloc | apply Kd.R_drewN | apply Kd.R_drew)); exact HO_5.out⟩, ⟨by repeat (first | (with_reducible first | exact HB.out | apply below_alloc | apply pw_below_drewN | apply below_drew1) | exact HB.out)⟩⟩
    case round =>
     clear H'; (try clear c1); (try clear p2); (try clear c3); (try clear c3b0); (try clear p2)
     obtain ⟨x5_2, x7_2, rfl, HA, HK2, HO_5, HB⟩ := hrel
     cases gk with
     | zero => exact absurd HA.out (by simp [spec_pzAll.l1])
     | succ k2 =>
      have H := HA.out; clear HA
      simp only [spec_pzAll.l1] at H
      by_cases c4 : x7_2 ≤ 12
      ·rw [if_pos c4] at H
       have c4b0 : decide (x7_2 ≤ 12) = true := decide_eq_true c4; clear c4; have H' := Aside0.mk H; clear H
       go_wp2_with (first | ((with_reducible refine gate_dst (N := 8) rfl ?_); refine box_event ?hg (N := 8) ?hd (cs := #[.int .i64 0, .int .i64 0, .int .i64 0]) (t := 45) ?hr ?_; (case hd => rfl); (case hg => rfl); (case hr => first | (go_simp; done) | (go_simp; rfl)); intro gb531 hg w5 hbox hb; have n0_ := Aside0.mk (Kd.R_below (Kd.R_elderB zO5_10 gb531 (Nat.le_of_eq hg.symm)) hb); have n1_ := Aside0.mk (below_step zO5_5 hb); have n2_ := Aside0.mk (hbox); have n3_ := Aside0.mk ((by rw [hg]; exact (below_size zO5_5) : w.heap.size ≤ gb531)); have n4_ := Aside0.mk ((by rw [hg]; exact (below_size zO5_5) : w.heap.size ≤ gb531)); clear HO_5; clear HB; have HO_5 := n0_; have HB := n1_; have BK531 := n2_; have GW531 := n3_; have GE531 := n4_; clear n0_ n1_ n2_ n3_ n4_; clear hb hbox hg; have hcz6_0 : w5.cell? ⟨gb531, 0, none⟩ = some (.int .i64 0) := (blk_cell BK531.out 0).trans rfl; have hcz6_1 : w5.cell? ⟨gb531, 1, none⟩ = some (.int .i64 0) := (blk_cell BK531.out 1).trans rfl; have hcz6_2 : w5.cell? ⟨gb531, 2, none⟩ = some (.int .i64 0) := (blk_cell BK531.out 2).trans rfl; have hfz6_0 := blk_frozen BK531.out 0; have hfz6_1 := blk_frozen BK531.out 1; have hfz6_2 := blk_frozen BK531.out 2))
       go_loopg [9, 26] k2 (fun kq v9 v26 w' => ∃ (x9_3 : Bool) (x26_3 : Int), v9 = .bool x9_3 ∧ v26 = .int .i64 x26_3 ∧ Aside0 (spec_pzAll.l2 kq a0 l1 x5_2 x6_1 x7_2 x9_3 l1 (l1.length : Int) x26_3 a0 x6_1 x7_2 = some r) ∧ Aside0 (kq ≤ k2) ∧ Aside0 (Kd.R k45 45 w' w.heap.size (fun k_ => k_ ≠ gb531) u5 x5_2) ∧ Aside0 (w'.heap[gb531]? = some (.cells #[.int .i64 a0, .int .i64 x6_1, .int .i64 x7_2] 45 (0, 0))) ∧ Aside0 (Below w.heap.size w w'))
       case atStart => exact ⟨(true), (0), zO5_12, zO5_12, H', ⟨Nat.le_refl _⟩, ⟨by (with_reducible repeat (first | apply Kd.R_alloc | apply Kd.R_drewN | apply Kd.R_drew)); exact Kd.R_mono (Kd.R_far (p := ⟨gb531, 2, none⟩) (Kd.R_far (p := ⟨gb531, 1, none⟩) (Kd.R_far (p := ⟨gb531, 0, none⟩) (Kd.R_mono HO_5.out (fun k_ hk => (⟨hk, hk.2⟩ : _ ∧ k_ ≠ gb531))) (fun _ hk => hk.2) (.int .i64 a0)) (fun _ hk => hk.2) (.int .i64 x6_1)) (fun _ hk => hk.2) (.int .i64 x7_2)) (fun _ hk => hk.1.2)⟩, ⟨by (with_reducible repeat (first | refine blk_drewN ?_ _ | refine blk_drew ?_ | refine blk_alloc ?_ _)); refine blk_put (cs := #[.int .i64 a0, .int .i64 x6_1, .int .i64 0]) ?_ 2 _ rfl; (with_reducible repeat (first | refine blk_drewN ?_ _ | refine blk_drew ?_ | refine blk_alloc ?_ _)); refine blk_put (cs := #[.int .i64 a0, .int .i64 0, .int .i64 0]) ?_ 1 _ rfl; (with_reducible repeat (first | refine blk_drewN ?_ _ | refine blk_drew ?_ | refine blk_alloc ?_ _)); refine blk_put (cs := #[.int .i64 0, .int .i64 0, .int .i64 0]) ?_ 0 _ rfl; (with_reducible repeat (first | refine blk_drewN ?_ _ | refine blk_drew ?_ | refine blk_alloc ?_ _)); exact BK531.out⟩, ⟨by repeat (first | (with_reducible first | exact HB.out | apply below_alloc | apply pw_below_drewN | apply below_drew1 | refine below_set ?_ GE531.out) | exact HB.out)⟩⟩
       case round =>
        clear H'; (try clear c1); (try clear p2); (try clear c3); (try clear c3b0); (try clear c4); (try clear c4b0); (try clear hcz6_0); (try clear hcz6_1); (try clear hcz6_2); (try clear hfz6_0); (try clear hfz6_1); (try clear hfz6_2); (try clear p2)
        obtain ⟨x9_3, x26_3, rfl, rfl, HA, HK3, HO_5, BK531, HB⟩ := hrel
        cases gk with
        | zero => exact absurd HA.out (by simp [spec_pzAll.l2])
        | succ k3 =>
         have H := HA.out; clear HA
         simp only [spec_pzAll.l2] at H
         by_cases c7 : x26_3 < (l1.length : Int)
         ·rw [if_pos c7] at H
          have c7b0 : decide (x26_3 < (l1.length : Int)) = true := decide_eq_true c7; clear c7
          by_cases c8 : 0 ≤ x26_3
          ·rw [if_pos c8] at H
           have c8b0 : decide (0 ≤ x26_3) = true := decide_eq_true c8; clear c8
           by_cases c9 : x26_3 < (l1.length : Int)
           ·rw [if_pos c9] at H
            have c9b0 : decide (x26_3 < (l1.length : Int)) = true := decide_eq_true c9; clear c9
            by_cases c10 : x9_3 = true
            ·subst c10
             have H1 : ((spec_pzFits.f k3 ((rd_T37 l1 x26_3).f0) ((rd_T37 l1 x26_3).f1) ((rd_T37 l1 x26_3).f2) a0 x6_1 x7_2).bind fun t534 => (spec_pzAll.l2 k3 a0 l1 x5_2 x6_1 x7_2 t534 l1 (l1.length : Int) (wrap64 (x26_3 + 1)) a0 x6_1 x7_2)) = some r := by rw [if_pos rfl] at H; exact H
             clear H; have H := H1; clear H1; replace H := Option.bind_eq_some_iff.mp H
             obtain ⟨t534, A110, H⟩ := H
             replace H : (spec_pzAll.l2 k3 a0 l1 x5_2 x6_1 x7_2 t534 l1 (l1.length : Int) (wrap64 (x26_3 + 1)) a0 x6_1 x7_2) = some r := H
             have A11 := Aside0.mk A110
             clear A110; have H' := Aside0.mk H; clear H
             have p532 : 0 ≤ (x26_3 : Int) := of_decide_eq_true zO5_11
             have q532 : x26_3 < (l1.length : Int) := of_decide_eq_true zO5_11
             obtain ⟨ad532, e532, hx532_0, hx532_1, hx532_2⟩ := at_T37 HR1.out x26_3 p532 q532
             cases e532
             replace hx532_0 := (HB.out.cell (World.block_lt_of_cell? w _ hx532_0)).trans hx532_0
             replace hx532_1 := (HB.out.cell (World.block_lt_of_cell? w _ hx532_1)).trans hx532_1
             replace hx532_2 := (HB.out.cell (World.block_lt_of_cell? w _ hx532_2)).trans hx532_2
             replace p532 := eq_true p532
             replace q532 := eq_true q532
             go_wp2_with (first | ((with_reducible refine gate_dst (N := 11) rfl ?_); refine box_event ?hg (N := 11) ?hd (cs := #[.int .i64 0, .int .i64 0, .int .i64 0]) (t := 37) ?hr ?_; (case hd => rfl); (case hg => rfl); (case hr => first | (go_simp; done) | (go_simp; rfl)); intro gb533 hg w12 hbox hb; have n0_ := Aside0.mk (Kd.R_below zO5_10 hb); have n1_ := Aside0.mk (blk_below (g := gb531) (o := .cells #[.int .i64 a0, .int .i64 x6_1, .int .i64 x7_2] 45 (0, 0)) zO5_9 hb); have n2_ := Aside0.mk (below_step zO5_3 hb); have n3_ := Aside0.mk (hbox); have n4_ := Aside0.mk ((by rw [hg]; exact (below_size zO5_3) : w.heap.size ≤ gb533)); have n5_ := Aside0.mk ((by rw [hg]; exact (below_size zO5_3) : w.heap.size ≤ gb533)); have n6_ := Aside0.mk ((by rw [hg]; exact Nat.ne_of_lt (blk_lt (g := gb531) (o := .cells #[.int .i64 a0, .int .i64 x6_1, .int .i64 x7_2] 45 (0, 0)) zO5_9) : gb531 ≠ gb533)); have n7_ := Aside0.mk ((by rw [hg]; exact Nat.ne_of_gt (blk_lt (g := gb531) (o := .cells #[.int .i64 a0, .int .i64 x6_1, .int .i64 x7_2] 45 (0, 0)) zO5_9) : gb533 ≠ gb531)); clear HO_5; clear BK531; clear HB; have HO_5 := n0_; have BK531 := n1_; have HB := n2_; have BK533 := n3_; have GW533 := n4_; have GE533 := n5_; have NB531_533 := n6_; have NB533_531 := n7_; clear n0_ n1_ n2_ n3_ n4_ n5_ n6_ n7_; clear hb hbox hg; have hnb13 := NB533_531.out; have hnc13 := NB531_533.out; have hcz14_0 : w12.cell? ⟨gb533, 0, none⟩ = some (.int .i64 0) := (blk_cell BK533.out 0).trans rfl; have hcz14_1 : w12.cell? ⟨gb533, 1, none⟩ = some (.int .i64 0) := (blk_cell BK533.out 1).trans rfl; have hcz14_2 : w12.cell? ⟨gb533, 2, none⟩ = some (.int .i64 0) := (blk_cell BK533.out 2).trans rfl; have hfz14_0 := blk_frozen BK533.out 0; have hfz14_1 := blk_frozen BK533.out 1; have hfz14_2 := blk_frozen BK533.out 2; have hcz15_0 : w12.cell? ⟨gb531, 0, none⟩ = some (.int .i64 a0) := (blk_cell BK531.out 0).trans rfl; have hcz15_1 : w12.cell? ⟨gb531, 1, none⟩ = some (.int .i64 x6_1) := (blk_cell BK531.out 1).trans rfl; have hcz15_2 : w12.cell? ⟨gb531, 2, none⟩ = some (.int .i64 x7_2) := (blk_cell BK531.out 2).trans rfl; have hfz15_0 := blk_frozen BK531.out 0; have hfz15_1 := blk_frozen BK531.out 1; have hfz15_2 := blk_frozen BK531.out 2) | (go_at_call 66; (with_reducible refine (spec_pzFits.calls k3 ((rd_T37 l1 x26_3).f0) ((rd_T37 l1 x26_3).f1) ((rd_T37 l1 x26_3).f2) a0 x6_1 x7_2 t534 _ A11.out).mono ?_); rintro e w16 ⟨rfl, hb⟩; have n0_ := Aside0.mk (Kd.R_below (by (with_reducible repeat (first | apply Kd.R_alloc | apply Kd.R_drewN | apply Kd.R_drew)); exact (Kd.R_mono (Kd.R_far (p := ⟨gb533, 2, none⟩) (Kd.R_far (p := ⟨gb533, 1, none⟩) (Kd.R_far (p := ⟨gb533, 0, none⟩) (Kd.R_types HO_5.out BK533.out (by decide)) (fun _ hk => hk.2) (.int .i64 ((rd_T37 l1 x26_3).f0))) (fun _ hk => hk.2) (.int .i64 ((rd_T37 l1 x26_3).f1))) (fun _ hk => hk.2) (.int .i64 ((rd_T37 l1 x26_3).f2))) (fun _ h_ => h_.1))) hb); have n1_ := Aside0.mk (blk_below (g := gb531) (o := .cells #[.int .i64 a0, .int .i64 x6_1, .int .i64 x7_2] 45 (0, 0)) (by (with_reducible repeat (first | refine blk_drewN ?_ _ | refine blk_drew ?_ | refine blk_alloc ?_ _)); refine blk_far ?_ NB531_533.out _; (with_reducible repeat (first | refine blk_drewN ?_ _ | refine blk_drew ?_ | refine blk_alloc ?_ _)); refine blk_far ?_ NB531_533.out _; (with_reducible repeat (first | refine blk_drewN ?_ _ | refine blk_drew ?_ | refine blk_alloc ?_ _)); refine blk_far ?_ NB531_533.out _; (with_reducible repeat (first | refine blk_drewN ?_ _ | refine blk_drew ?_ | refine blk_alloc ?_ _)); exact BK531.out) hb); have n2_ := Aside0.mk (blk_below (g := gb533) (o := .cells #[.int .i64 ((rd_T37 l1 x26_3).f0), .int .i64 ((rd_T37 l1 x26_3).f1), .int .i64 ((rd_T37 l1 x26_3).f2)] 37 (0, 0)) (by (with_reducible repeat (first | refine blk_drewN ?_ _ | refine blk_drew ?_ | refine blk_alloc ?_ _)); refine blk_put (cs := #[.int .i64 ((rd_T37 l1 x26_3).f0), .int .i64 ((rd_T37 l1 x26_3).f1), .int .i64 0]) ?_ 2 _ rfl; (with_reducible repeat (first | refine blk_drewN ?_ _ | refine blk_drew ?_ | refine blk_alloc ?_ _)); refine blk_put (cs := #[.int .i64 ((rd_T37 l1 x26_3).f0), .int .i64 0, .int .i64 0]) ?_ 1 _ rfl; (with_reducible repeat (first | refine blk_drewN ?_ _ | refine blk_drew ?_ | refine blk_alloc ?_ _)); refine blk_put (cs := #[.int .i64 0, .int .i64 0, .int .i64 0]) ?_ 0 _ rfl; (with_reducible repeat (first | refine blk_drewN ?_ _ | refine blk_drew ?_ | refine blk_alloc ?_ _)); exact BK533.out) hb); have n3_ := Aside0.mk (below_step (by repeat (first | (with_reducible first | exact HB.out | apply below_alloc | apply pw_below_drewN | apply below_drew1 | refine below_set ?_ GE531.out | refine below_set ?_ GE533.out) | exact HB.out)) hb); clear HO_5; clear BK531; clear BK533; clear HB; have HO_5 := n0_; have BK531 := n1_; have BK533 := n2_; have HB := n3_; clear n0_ n1_ n2_ n3_; (try clear hb); (try clear hb2); (try clear hk); (try clear hi)))
             go_roundg k3
             case measure => have := HK1.out; have := HK2.out; have := HK3.out; omega
             case rel => exact ⟨(t534), (wrap64 (x26_3 + 1)), zO5_12, zO5_12, H', ⟨by have := HK1.out; have := HK2.out; have := HK3.out; omega⟩, ⟨by (with_reducible repeat (first | apply Kd.R_alloc | apply Kd.R_drewN | apply Kd.R_drew)); exact HO_5.out⟩, ⟨by (with_reducible repeat (first | refine blk_drewN ?_ _ | refine blk_drew ?_ | refine blk_alloc ?_ _)); exact BK531.out⟩, ⟨by repeat (first | (with_reducible first | exact HB.out | apply below_alloc | apply pw_below_drewN | apply below_drew1 | refine below_set ?_ GE531.out | refine below_set ?_ GE533.out) | exact HB.out)⟩⟩
            ·replace c10 := Bool.eq_false_iff.mpr c10
             subst c10
             have H1 : (spec_pzAll.l2 k3 a0 l1 x5_2 x6_1 x7_2 false l1 (l1.length : Int) (wrap64 (x26_3 + 1)) a0 x6_1 x7_2) = some r := by rw [if_neg (show ¬ (false = true) by decide)] at H; exact H
             clear H; have H := H1; clear H1; have H' := Aside0.mk H; clear H
             have p532 : 0 ≤ (x26_3 : Int) := of_decide_eq_true zO5_11
             have q532 : x26_3 < (l1.length : Int) := of_decide_eq_true zO5_11
             obtain ⟨ad532, e532, hx532_0, hx532_1, hx532_2⟩ := at_T37 HR1.out x26_3 p532 q532
             cases e532
             replace hx532_0 := (HB.out.cell (World.block_lt_of_cell? w _ hx532_0)).trans hx532_0
             replace hx532_1 := (HB.out.cell (World.block_lt_of_cell? w _ hx532_1)).trans hx532_1
             replace hx532_2 := (HB.out.cell (World.block_lt_of_cell? w _ hx532_2)).trans hx532_2
             replace p532 := eq_true p532
             replace q532 := eq_true q532
             go_wp2_with (first | ((with_reducible refine gate_dst (N := 11) rfl ?_); refine box_event ?hg (N := 11) ?hd (cs := #[.int .i64 0, .int .i64 0, .int .i64 0]) (t := 37) ?hr ?_; (case hd => rfl); (case hg => rfl); (case hr => first | (go_simp; done) | (go_simp; rfl)); intro gb533 hg w17 hbox hb; have n0_ := Aside0.mk (Kd.R_below zO5_10 hb); have n1_ := Aside0.mk (blk_below (g := gb531) (o := .cells #[.int .i64 a0, .int .i64 x6_1, .int .i64 x7_2] 45 (0, 0)) zO5_9 hb); have n2_ := Aside0.mk (below_step zO5_3 hb); have n3_ := Aside0.mk (hbox); have n4_ := Aside0.mk ((by rw [hg]; exact (below_size zO5_3) : w.heap.size ≤ gb533)); have n5_ := Aside0.mk ((by rw [hg]; exact (below_size zO5_3) : w.heap.size ≤ gb533)); have n6_ := Aside0.mk ((by rw [hg]; exact Nat.ne_of_lt (blk_lt (g := gb531) (o := .cells #[.int .i64 a0, .int .i64 x6_1, .int .i64 x7_2] 45 (0, 0)) zO5_9) : gb531 ≠ gb533)); have n7_ := Aside0.mk ((by rw [hg]; exact Nat.ne_of_gt (blk_lt (g := gb531) (o := .cells #[.int .i64 a0, .int .i64 x6_1, .int .i64 x7_2] 45 (0, 0)) zO5_9) : gb533 ≠ gb531)); clear HO_5; clear BK531; clear HB; have HO_5 := n0_; have BK531 := n1_; have HB := n2_; have BK533 := n3_; have GW533 := n4_; have GE533 := n5_; have NB531_533 := n6_; have NB533_531 := n7_; clear n0_ n1_ n2_ n3_ n4_ n5_ n6_ n7_; clear hb hbox hg; have hnb18 := NB533_531.out; have hnc18 := NB531_533.out; have hcz19_0 : w17.cell? ⟨gb533, 0, none⟩ = some (.int .i64 0) := (blk_cell BK533.out 0).trans rfl; have hcz19_1 : w17.cell? ⟨gb533, 1, none⟩ = some (.int .i64 0) := (blk_cell BK533.out 1).trans rfl; have hcz19_2 : w17.cell? ⟨gb533, 2, none⟩ = some (.int .i64 0) := (blk_cell BK533.out 2).trans rfl; have hfz19_0 := blk_frozen BK533.out 0; have hfz19_1 := blk_frozen BK533.out 1; have hfz19_2 := blk_frozen BK533.out 2))
             go_roundg k3
             case measure => have := HK1.out; have := HK2.out; have := HK3.out; omega
             case rel => exact ⟨(false), (wrap64 (x26_3 + 1)), zO5_12, zO5_12, H', ⟨by have := HK1.out; have := HK2.out; have := HK3.out; omega⟩, ⟨by (with_reducible repeat (first | apply Kd.R_alloc | apply Kd.R_drewN | apply Kd.R_drew)); exact Kd.R_mono (Kd.R_far (p := ⟨gb533, 2, none⟩) (Kd.R_far (p := ⟨gb533, 1, none⟩) (Kd.R_far (p := ⟨gb533, 0, none⟩) (Kd.R_types HO_5.out BK533.out (by decide)) (fun _ hk => hk.2) (.int .i64 ((rd_T37 l1 x26_3).f0))) (fun _ hk => hk.2) (.int .i64 ((rd_T37 l1 x26_3).f1))) (fun _ hk => hk.2) (.int .i64 ((rd_T37 l1 x26_3).f2))) (fun _ hk => hk.1)⟩, ⟨by (with_reducible repeat (first | refine blk_drewN ?_ _ | refine blk_drew ?_ | refine blk_alloc ?_ _)); refine blk_far ?_ NB531_533.out _; (with_reducible repeat (first | refine blk_drewN ?_ _ | refine blk_drew ?_ | refine blk_alloc ?_ _)); refine blk_far ?_ NB531_533.out _; (with_reducible repeat (first | refine blk_drewN ?_ _ | refine blk_drew ?_ | refine blk_alloc ?_ _)); refine blk_far ?_ NB531_533.out _; (with_reducible repeat (first | refine blk_drewN ?_ _ | refine blk_drew ?_ | refine blk_alloc ?_ _)); exact BK531.out⟩, ⟨by repeat (first | (with_reducible first | exact HB.out | apply below_alloc | apply pw_below_drewN | apply below_drew1 | refine below_set ?_ GE531.out | refine below_set ?_ GE533.out) | exact HB.out)⟩⟩
           ·rw [if_neg c9] at H
            exact absurd H (by simp)
          ·rw [if_neg c8] at H
           exact absurd H (by simp)
         ·rw [if_neg c7] at H
          have c7b0 : decide (x26_3 < (l1.length : Int)) = false := decide_eq_false c7; clear c7
          by_cases c20 : x9_3 = true
          ·subst c20
           have H1 : (if x5_2.length < 5864062014805 then (spec_pzAll.l1 k3 a0 l1 (x5_2 ++ [(⟨a0, x6_1, x7_2⟩ : S45)]) x6_1 (wrap64 (x7_2 + 1))) else (none)) = some r := by rw [if_pos rfl] at H; exact H
           clear H; have H := H1; clear H1
           by_cases c21 : x5_2.length < 5864062014805
           ·rw [if_pos c21] at H
            have LMc21 := Aside0.mk c21
            clear c21
            obtain ⟨y535, hy535⟩ : ∃ y_ : List (S45), y_ = (x5_2 ++ [(⟨a0, x6_1, x7_2⟩ : S45)]) := ⟨_, rfl⟩
            replace H : (spec_pzAll.l1 k3 a0 l1 y535 x6_1 (wrap64 (x7_2 + 1))) = some r := by first | (rw [hy535]; with_reducible exact H) | (have H2_ := (Option.bind_some _ _).symm.trans H; rw [hy535]; with_reducible exact H2_) | (have H2_ := (Option.bind_some _ _).symm.trans H; with_reducible exact H2_) | with_reducible exact H | (rw [hy535]; exact H) | exact H
            have Ny535 := Aside0.mk hy535
            clear hy535; have H' := Aside0.mk H; clear H
            have hcz22_0 : wr.cell? ⟨gb531, 0, none⟩ = some (.int .i64 a0) := (blk_cell BK531.out 0).trans rfl
            have hcz22_1 : wr.cell? ⟨gb531, 1, none⟩ = some (.int .i64 x6_1) := (blk_cell BK531.out 1).trans rfl
            have hcz22_2 : wr.cell? ⟨gb531, 2, none⟩ = some (.int .i64 x7_2) := (blk_cell BK531.out 2).trans rfl
            have hfz22_0 := blk_frozen BK531.out 0
            have hfz22_1 := blk_frozen BK531.out 1
            have hfz22_2 := blk_frozen BK531.out 2
            go_wp2_with (first | ((with_reducible refine gate_builtin (b := .append) (xs := #[.tmp 38, .tmp 40]) rfl ?_); at_builtin; refine Kd.R_append k45 (w0 := w) w.heap.size rfl (.tmp 38) (.tmp 40) 65 45 (.agg #[(.int .i64 0), (.int .i64 0), (.int .i64 0)]) 24 rfl Try.underlying65 info45 rfl (by decide) zO5_13 u5 x5_2 (⟨a0, x6_1, x7_2⟩ : S45) [.int .i64 a0, .int .i64 x6_1, .int .i64 x7_2] (fun k_ => k_ ≠ gb531) (fun _ => False) rfl rfl ?aP (fun _ hk => hk.elim) ?aF ?aO ?aB ?aS ?aL ?_; (case aP => exact k45_mkM _ _ _ (⟨a0, x6_1, x7_2⟩ : S45)); (case aB => exact zO5_3); (case aF => exact (fun k_ hk => Kd.freshB (g := gb531) (o := .cells #[.int .i64 a0, .int .i64 x6_1, .int .i64 x7_2] 45 (0, 0)) zO5_9 k_ hk)); (case aO => exact zO5_10); (case aS => exact (below_size zO5_3)); (case aL => have := LMc21.out; omega); intro v536 w23 ho hb hg hat; rw [← Ny535.out] at ho; have n0_ := Aside0.mk (blk_grown (g := gb531) (o := .cells #[.int .i64 a0, .int .i64 x6_1, .int .i64 x7_2] 45 (0, 0)) zO5_9 hg (Kd.R_away HO_5.out (fun _ hk => hk))); have n1_ := Aside0.mk (hb); have n2_ := Aside0.mk (ho); clear BK531; clear HB; clear HO_5; have BK531 := n0_; have HB := n1_; have HO537 := n2_; clear n0_ n1_ n2_; clear ho hb hg hat))
            go_roundg k3
            case measure => have := HK1.out; have := HK2.out; have := HK3.out; omega
            case rel => exact ⟨(y535), (wrap64 (x7_2 + 1)), zO5_12, H', ⟨by have := HK1.out; have := HK2.out; have := HK3.out; omega⟩, ⟨by (with_reducible repeat (first | apply Kd.R_alloc | apply Kd.R_drewN | apply Kd.R_drew)); exact Kd.R_mono HO537.out (fun _ hk => trivial)⟩, ⟨by repeat (first | (with_reducible first | exact HB.out | apply below_alloc | apply pw_below_drewN | apply below_drew1 | refine below_set ?_ GE531.out) | exact HB.out)⟩⟩
           ·rw [if_neg c21] at H
            exact absurd H (by simp)
          ·replace c20 := Bool.eq_false_iff.mpr c20
           subst c20
           have H1 : (spec_pzAll.l1 k3 a0 l1 x5_2 x6_1 (wrap64 (x7_2 + 1))) = some r := by rw [if_neg (show ¬ (false = true) by decide)] at H; exact H
           clear H; have H := H1; clear H1; have H' := Aside0.mk H; clear H
           go_wp2
           go_roundg k3
           case measure => have := HK1.out; have := HK2.out; have := HK3.out; omega
           case rel => exact ⟨(x5_2), (wrap64 (x7_2 + 1)), zO5_12, H', ⟨by have := HK1.out; have := HK2.out; have := HK3.out; omega⟩, ⟨by (with_reducible repeat (first | apply Kd.R_alloc | apply Kd.R_drewN | apply Kd.R_drew)); exact Kd.R_mono HO_5.out (fun _ hk => trivial)⟩, ⟨by repeat (first | (with_reducible first | exact HB.out | apply below_alloc | apply pw_below_drewN | apply below_drew1 | refine below_set ?_ GE531.out) | exact HB.out)⟩⟩
      ·rw [if_neg c4] at H
       have c4b0 : decide (x7_2 ≤ 12) = false := decide_eq_false c4; clear c4; have H' := Aside0.mk H; clear H
       go_wp2
       go_roundg k2
       case measure => have := HK1.out; have := HK2.out; omega
       case rel => exact ⟨(x5_2), (wrap64 (x6_1 + 1)), zO5_12, H', ⟨by have := HK1.out; have := HK2.out; omega⟩, ⟨by (with_reducible repeat (first | apply Kd.R_alloc | apply Kd.R_drewN | apply Kd.R_drew)); exact HO_5.out⟩, ⟨by repeat (first | (with_reducible first | exact HB.out | apply below_alloc | apply pw_below_drewN | apply below_drew1) | exact HB.out)⟩⟩
   ·rw [if_neg c3] at H
    have c3b0 : decide (x6_1 ≤ 12) = false := decide_eq_false c3; clear c3
    obtain rfl := Option.some.inj H
    go_wp2
    go_ret
    exact ⟨_, by first | rfl | (simp [errW_none, errW_some] <;> rfl) | (simp [*, errW_none, errW_some] <;> rfl), by (with_reducible repeat (first | apply Kd.R_alloc | apply Kd.R_drewN | apply Kd.R_drew)); exact HO_5.out, by repeat (first | (with_reducible first | exact HB.out | apply below_alloc | apply pw_below_drewN | apply below_drew1) | exact HB.out)⟩


/-! ### impl_areHidden: function 67 -/
def impl_areHidden.f (a0_0 : Int) (a0_1 : Int) (a0_2 : Int) : Option (Bool) := (impl_isSmall.f a0_0).bind fun t292 => (if t292 = true then ((impl_isSmall.f a0_1).bind fun t293 => (if t293 = true then ((impl_isSmall.f a0_2).bind fun t294 => (some t294)) else (some false))) else (some false))
set_option maxHeartbeats 8000000 in
set_option maxRecDepth 100000 in
theorem impl_areHidden.calls (a0_0 : Int) (a0_1 : Int) (a0_2 : Int) (r : Bool) (w : World) (h : impl_areHidden.f a0_0 a0_1 a0_2 = some r) :
  Calls Try.prog 67 #[.agg #[.int .i64 a0_0, .int .i64 a0_1, .int .i64 a0_2]] w fun e w' => e = .returned (.bool r) ∧ Below w.heap.size w w' := by
 have hu45 := Try.underlying45
 have HB := Aside0.mk (Below.refl w.heap.size w)
 have H : ((impl_isSmall.f a0_0).bind fun t292 => (if t292 = true then ((impl_isSmall.f a0_1).bind fun t293 => (if t293 = true then ((impl_isSmall.f a0_2).bind fun t294 => (some t294)) else (some false))) else (some false))) = some r := h
 clear h; replace H := Option.bind_eq_some_iff.mp H
 obtain ⟨t292, A20, H⟩ := H
 replace H : (if t292 = true then ((impl_isSmall.f a0_1).bind fun t293 => (if t293 = true then ((impl_isSmall.f a0_2).bind fun t294 => (some t294)) else (some false))) else (some false)) = some r := H
 have A2 := Aside0.mk A20
 clear A20
 by_cases c3 : t292 = true
 ·subst c3
  have H1 : ((impl_isSmall.f a0_1).bind fun t293 => (if t293 = true then ((impl_isSmall.f a0_2).bind fun t294 => (some t294)) else (some false))) = some r := by rw [if_pos rfl] at H; exact H
  clear H; have H := H1; clear H1; replace H := Option.bind_eq_some_iff.mp H
  obtain ⟨t293, A40, H⟩ := H
  replace H : (if t293 = true then ((impl_isSmall.f a0_2).bind fun t294 => (some t294)) else (some false)) = some r := H
  have A4 := Aside0.mk A40
  clear A40
  by_cases c5 : t293 = true
  ·subst c5
   have H1 : ((impl_isSmall.f a0_2).bind fun t294 => (some t294)) = some r := by rw [if_pos rfl] at H; exact H
   clear H; have H := H1; clear H1; replace H := Option.bind_eq_some_iff.mp H
   obtain ⟨t294, A60, H⟩ := H
   replace H : (some t294) = some r := H
   have A6 := Aside0.mk A60
   clear A60
   obtain rfl := Option.some.inj H
   go_enter Try.func67, Try.ntmps67
   go_wp2_with (first | ((with_reducible refine gate_dst (N := 1) rfl ?_); refine box_event ?hg (N := 1) ?hd (cs := #[.int .i64 a0_0, .int .i64 a0_1, .int .i64 a0_2]) (t := 45) ?hr ?_; (case hd => rfl); (case hg => rfl); (case hr => first | (go_simp; done) | (go_simp; rfl)); intro gb291 hg w7 hbox hb; have n0_ := Aside0.mk (below_step zO5_5 hb); have n1_ := Aside0.mk (hbox); have n2_ := Aside0.mk ((by rw [hg]; exact (below_size zO5_5) : w.heap.size ≤ gb291)); have n3_ := Aside0.mk ((by rw [hg]; exact (below_size zO5_5) : w.heap.size ≤ gb291)); clear HB; have HB := n0_; have BK291 := n1_; have GW291 := n2_; have GE291 := n3_; clear n0_ n1_ n2_ n3_; clear hb hbox hg; have hcz8_0 : w7.cell? ⟨gb291, 0, none⟩ = some (.int .i64 a0_0) := (blk_cell BK291.out 0).trans rfl; have hcz8_1 : w7.cell? ⟨gb291, 1, none⟩ = some (.int .i64 a0_1) := (blk_cell BK291.out 1).trans rfl; have hcz8_2 : w7.cell? ⟨gb291, 2, none⟩ = some (.int .i64 a0_2) := (blk_cell BK291.out 2).trans rfl; have hfz8_0 := blk_frozen BK291.out 0; have hfz8_1 := blk_frozen BK291.out 1; have hfz8_2 := blk_frozen BK291.out 2) | ((with_reducible refine gate_callee (f := 56) rfl ?_); refine goesL_ (some 5) rfl rfl Try.func56 (by kernel_rfl) rfl #[.int .i64 a0_0] rfl zO5_4 ?_; (with_reducible refine (impl_isSmall.calls a0_0 true _ A2.out).mono ?_); rintro e w' ⟨rfl, ⟨nd, rfl⟩⟩; refine ⟨_, rfl, ?_⟩) | (go_at_call 56; (with_reducible refine (impl_isSmall.calls a0_1 true _ A4.out).mono ?_); rintro e w' ⟨rfl, ⟨nd, rfl⟩⟩) | (go_at_call 56; (with_reducible refine (impl_isSmall.calls a0_2 t294 _ A6.out).mono ?_); rintro e w' ⟨rfl, ⟨nd, rfl⟩⟩))
   go_ret
   exact ⟨by first | rfl | (simp [errW_none, errW_some] <;> rfl) | (simp [*, errW_none, errW_some] <;> rfl), by repeat (first | (with_reducible first | exact HB.out | apply below_alloc | apply pw_below_drewN | apply below_drew1 | refine below_set ?_ GE291.out) | exact HB.out)⟩
  ·replace c5 := Bool.eq_false_iff.mpr c5
   subst c5
   have H1 : (some false) = some r := by rw [if_neg (show ¬ (false = true) by decide)] at H; exact H
   clear H; have H := H1; clear H1
   obtain rfl := Option.some.inj H
   go_enter Try.func67, Try.ntmps67
   go_wp2_with (first | ((with_reducible refine gate_dst (N := 1) rfl ?_); refine box_event ?hg (N := 1) ?hd (cs := #[.int .i64 a0_0, .int .i64 a0_1, .int .i64 a0_2]) (t := 45) ?hr ?_; (case hd => rfl); (case hg => rfl); (case hr => first | (go_simp; done) | (go_simp; rfl)); intro gb291 hg w9 hbox hb; have n0_ := Aside0.mk (below_step zO5_5 hb); have n1_ := Aside0.mk (hbox); have n2_ := Aside0.mk ((by rw [hg]; exact (below_size zO5_5) : w.heap.size ≤ gb291)); have n3_ := Aside0.mk ((by rw [hg]; exact (below_size zO5_5) : w.heap.size ≤ gb291)); clear HB; have HB := n0_; have BK291 := n1_; have GW291 := n2_; have GE291 := n3_; clear n0_ n1_ n2_ n3_; clear hb hbox hg; have hcz10_0 : w9.cell? ⟨gb291, 0, none⟩ = some (.int .i64 a0_0) := (blk_cell BK291.out 0).trans rfl; have hcz10_1 : w9.cell? ⟨gb291, 1, none⟩ = some (.int .i64 a0_1) := (blk_cell BK291.out 1).trans rfl; have hcz10_2 : w9.cell? ⟨gb291, 2, none⟩ = some (.int .i64 a0_2) := (blk_cell BK291.out 2).trans rfl; have hfz10_0 := blk_frozen BK291.out 0; have hfz10_1 := blk_frozen BK291.out 1; have hfz10_2 := blk_frozen BK291.out 2) | ((with_reducible refine gate_callee (f := 56) rfl ?_); refine goesL_ (some 5) rfl rfl Try.func56 (by kernel_rfl) rfl #[.int .i64 a0_0] rfl zO5_4 ?_; (with_reducible refine (impl_isSmall.calls a0_0 true _ A2.out).mono ?_); rintro e w' ⟨rfl, ⟨nd, rfl⟩⟩; refine ⟨_, rfl, ?_⟩) | (go_at_call 56; (with_reducible refine (impl_isSmall.calls a0_1 false _ A4.out).mono ?_); rintro e w' ⟨rfl, ⟨nd, rfl⟩⟩))
   go_ret
   exact ⟨by first | rfl | (simp [errW_none, errW_some] <;> rfl) | (simp [*, errW_none, errW_some] <;> rfl), by repeat (first | (with_reducible first | exact HB.out | apply below_alloc | apply pw_below_drewN | apply below_drew1 | refine below_set ?_ GE291.out) | exact HB.out)⟩
 ·replace c3 := Bool.eq_false_iff.mpr c3
  subst c3
  have H1 : (some false) = some r := by rw [if_neg (show ¬ (false = true) by decide)] at H; exact H
  clear H; have H := H1; clear H1
  obtain rfl := Option.some.inj H
  go_enter Try.func67, Try.ntmps67
  go_wp2_with (first | ((with_reducible refine gate_dst (N := 1) rfl ?_); refine box_event ?hg (N := 1) ?hd (cs := #[.int .i64 a0_0, .int .i64 a0_1, .int .i64 a0_2]) (t := 45) ?hr ?_; (case hd => rfl); (case hg => rfl); (case hr => first | (go_simp; done) | (go_simp; rfl)); intro gb291 hg w11 hbox hb; have n0_ := Aside0.mk (below_step zO5_5 hb); have n1_ := Aside0.mk (hbox); have n2_ := Aside0.mk ((by rw [hg]; exact (below_size zO5_5) : w.heap.size ≤ gb291)); have n3_ := Aside0.mk ((by rw [hg]; exact (below_size zO5_5) : w.heap.size ≤ gb291)); clear HB; have HB := n0_; have BK291 := n1_; have GW291 := n2_; have GE291 := n3_; clear n0_ n1_ n2_ n3_; clear hb hbox hg; have hcz12_0 : w11.cell? ⟨gb291, 0, none⟩ = some (.int .i64 a0_0) := (blk_cell BK291.out 0).trans rfl; have hcz12_1 : w11.cell? ⟨gb291, 1, none⟩ = some (.int .i64 a0_1) := (blk_cell BK291.out 1).trans rfl; have hcz12_2 : w11.cell? ⟨gb291, 2, none⟩ = some (.int .i64 a0_2) := (blk_cell BK291.out 2).trans rfl; have hfz12_0 := blk_frozen BK291.out 0; have hfz12_1 := blk_frozen BK291.out 1; have hfz12_2 := blk_frozen BK291.out 2) | ((with_reducible refine gate_callee (f := 56) rfl ?_); refine goesL_ (some 5) rfl rfl Try.func56 (by kernel_rfl) rfl #[.int .i64 a0_0] rfl zO5_4 ?_; (with_reducible refine (impl_isSmall.calls a0_0 false _ A2.out).mono ?_); rintro e w' ⟨rfl, ⟨nd, rfl⟩⟩; refine ⟨_, rfl, ?_⟩))
  go_ret
  exact ⟨by first | rfl | (simp [errW_none, errW_some] <;> rfl) | (simp [*, errW_none, errW_some] <;> rfl), by repeat (first | (with_reducible first | exact HB.out | apply below_alloc | apply pw_below_drewN | apply below_drew1 | refine below_set ?_ GE291.out) | exact HB.out)⟩


/-! ### spec_pzHidden: function 65 -/
def spec_pzHidden.f (a0_0 : Int) (a0_1 : Int) (a0_2 : Int) : Option (Bool) := (spec_pzWide.f a0_0).bind fun t266 => (if t266 = true then ((spec_pzWide.f a0_1).bind fun t267 => (if t267 = true then ((spec_pzWide.f a0_2).bind fun t268 => (some t268)) else (some false))) else (some false))
set_option maxHeartbeats 8000000 in
set_option maxRecDepth 100000 in
theorem spec_pzHidden.calls (a0_0 : Int) (a0_1 : Int) (a0_2 : Int) (r : Bool) (w : World) (h : spec_pzHidden.f a0_0 a0_1 a0_2 = some r) :
  Calls Try.prog 65 #[.agg #[.int .i64 a0_0, .int .i64 a0_1, .int .i64 a0_2]] w fun e w' => e = .returned (.bool r) ∧ Below w.heap.size w w' := by
 have hu45 := Try.underlying45
 have HB := Aside0.mk (Below.refl w.heap.size w)
 have H : ((spec_pzWide.f a0_0).bind fun t266 => (if t266 = true then ((spec_pzWide.f a0_1).bind fun t267 => (if t267 = true then ((spec_pzWide.f a0_2).bind fun t268 => (some t268)) else (some false))) else (some false))) = some r := h
 clear h; replace H := Option.bind_eq_some_iff.mp H
 obtain ⟨t266, A20, H⟩ := H
 replace H : (if t266 = true then ((spec_pzWide.f a0_1).bind fun t267 => (if t267 = true then ((spec_pzWide.f a0_2).bind fun t268 => (some t268)) else (some false))) else (some false)) = some r := H
 have A2 := Aside0.mk A20
 clear A20
 by_cases c3 : t266 = true
 ·subst c3
  have H1 : ((spec_pzWide.f a0_1).bind fun t267 => (if t267 = true then ((spec_pzWide.f a0_2).bind fun t268 => (some t268)) else (some false))) = some r := by rw [if_pos rfl] at H; exact H
  clear H; have H := H1; clear H1; replace H := Option.bind_eq_some_iff.mp H
  obtain ⟨t267, A40, H⟩ := H
  replace H : (if t267 = true then ((spec_pzWide.f a0_2).bind fun t268 => (some t268)) else (some false)) = some r := H
  have A4 := Aside0.mk A40
  clear A40
  by_cases c5 : t267 = true
  ·subst c5
   have H1 : ((spec_pzWide.f a0_2).bind fun t268 => (some t268)) = some r := by rw [if_pos rfl] at H; exact H
   clear H; have H := H1; clear H1; replace H := Option.bind_eq_some_iff.mp H
   obtain ⟨t268, A60, H⟩ := H
   replace H : (some t268) = some r := H
   have A6 := Aside0.mk A60
   clear A60
   obtain rfl := Option.some.inj H
   go_enter Try.func65, Try.ntmps65
   go_wp2_with (first | ((with_reducible refine gate_dst (N := 1) rfl ?_); refine box_event ?hg (N := 1) ?hd (cs := #[.int .i64 a0_0, .int .i64 a0_1, .int .i64 a0_2]) (t := 45) ?hr ?_; (case hd => rfl); (case hg => rfl); (case hr => first | (go_simp; done) | (go_simp; rfl)); intro gb265 hg w7 hbox hb; have n0_ := Aside0.mk (below_step zO5_5 hb); have n1_ := Aside0.mk (hbox); have n2_ := Aside0.mk ((by rw [hg]; exact (below_size zO5_5) : w.heap.size ≤ gb265)); have n3_ := Aside0.mk ((by rw [hg]; exact (below_size zO5_5) : w.heap.size ≤ gb265)); clear HB; have HB := n0_; have BK265 := n1_; have GW265 := n2_; have GE265 := n3_; clear n0_ n1_ n2_ n3_; clear hb hbox hg; have hcz8_0 : w7.cell? ⟨gb265, 0, none⟩ = some (.int .i64 a0_0) := (blk_cell BK265.out 0).trans rfl; have hcz8_1 : w7.cell? ⟨gb265, 1, none⟩ = some (.int .i64 a0_1) := (blk_cell BK265.out 1).trans rfl; have hcz8_2 : w7.cell? ⟨gb265, 2, none⟩ = some (.int .i64 a0_2) := (blk_cell BK265.out 2).trans rfl; have hfz8_0 := blk_frozen BK265.out 0; have hfz8_1 := blk_frozen BK265.out 1; have hfz8_2 := blk_frozen BK265.out 2) | ((with_reducible refine gate_callee (f := 81) rfl ?_); refine goesL_ (some 5) rfl rfl Try.func81 (by kernel_rfl) rfl #[.int .i64 a0_0] rfl zO5_4 ?_; (with_reducible refine (spec_pzWide.calls a0_0 true _ A2.out).mono ?_); rintro e w' ⟨rfl, ⟨nd, rfl⟩⟩; refine ⟨_, rfl, ?_⟩) | (go_at_call 81; (with_reducible refine (spec_pzWide.calls a0_1 true _ A4.out).mono ?_); rintro e w' ⟨rfl, ⟨nd, rfl⟩⟩) | (go_at_call 81; (with_reducible refine (spec_pzWide.calls a0_2 t268 _ A6.out).mono ?_); rintro e w' ⟨rfl, ⟨nd, rfl⟩⟩))
   go_ret
   exact ⟨by first | rfl | (simp [errW_none, errW_some] <;> rfl) | (simp [*, errW_none, errW_some] <;> rfl), by repeat (first | (with_reducible first | exact HB.out | apply below_alloc | apply pw_below_drewN | apply below_drew1 | refine below_set ?_ GE265.out) | exact HB.out)⟩
  ·replace c5 := Bool.eq_false_iff.mpr c5
   subst c5
   have H1 : (some false) = some r := by rw [if_neg (show ¬ (false = true) by decide)] at H; exact H
   clear H; have H := H1; clear H1
   obtain rfl := Option.some.inj H
   go_enter Try.func65, Try.ntmps65
   go_wp2_with (first | ((with_reducible refine gate_dst (N := 1) rfl ?_); refine box_event ?hg (N := 1) ?hd (cs := #[.int .i64 a0_0, .int .i64 a0_1, .int .i64 a0_2]) (t := 45) ?hr ?_; (case hd => rfl); (case hg => rfl); (case hr => first | (go_simp; done) | (go_simp; rfl)); intro gb265 hg w9 hbox hb; have n0_ := Aside0.mk (below_step zO5_5 hb); have n1_ := Aside0.mk (hbox); have n2_ := Aside0.mk ((by rw [hg]; exact (below_size zO5_5) : w.heap.size ≤ gb265)); have n3_ := Aside0.mk ((by rw [hg]; exact (below_size zO5_5) : w.heap.size ≤ gb265)); clear HB; have HB := n0_; have BK265 := n1_; have GW265 := n2_; have GE265 := n3_; clear n0_ n1_ n2_ n3_; clear hb hbox hg; have hcz10_0 : w9.cell? ⟨gb265, 0, none⟩ = some (.int .i64 a0_0) := (blk_cell BK265.out 0).trans rfl; have hcz10_1 : w9.cell? ⟨gb265, 1, none⟩ = some (.int .i64 a0_1) := (blk_cell BK265.out 1).trans rfl; have hcz10_2 : w9.cell? ⟨gb265, 2, none⟩ = some (.int .i64 a0_2) := (blk_cell BK265.out 2).trans rfl; have hfz10_0 := blk_frozen BK265.out 0; have hfz10_1 := blk_frozen BK265.out 1; have hfz10_2 := blk_frozen BK265.out 2) | ((with_reducible refine gate_callee (f := 81) rfl ?_); refine goesL_ (some 5) rfl rfl Try.func81 (by kernel_rfl) rfl #[.int .i64 a0_0] rfl zO5_4 ?_; (with_reducible refine (spec_pzWide.calls a0_0 true _ A2.out).mono ?_); rintro e w' ⟨rfl, ⟨nd, rfl⟩⟩; refine ⟨_, rfl, ?_⟩) | (go_at_call 81; (with_reducible refine (spec_pzWide.calls a0_1 false _ A4.out).mono ?_); rintro e w' ⟨rfl, ⟨nd, rfl⟩⟩))
   go_ret
   exact ⟨by first | rfl | (simp [errW_none, errW_some] <;> rfl) | (simp [*, errW_none, errW_some] <;> rfl), by repeat (first | (with_reducible first | exact HB.out | apply below_alloc | apply pw_below_drewN | apply below_drew1 | refine below_set ?_ GE265.out) | exact HB.out)⟩
 ·replace c3 := Bool.eq_false_iff.mpr c3
  subst c3
  have H1 : (some false) = some r := by rw [if_neg (show ¬ (false = true) by decide)] at H; exact H
  clear H; have H := H1; clear H1
  obtain rfl := Option.some.inj H
  go_enter Try.func65, Try.ntmps65
  go_wp2_with (first | ((with_reducible refine gate_dst (N := 1) rfl ?_); refine box_event ?hg (N := 1) ?hd (cs := #[.int .i64 a0_0, .int .i64 a0_1, .int .i64 a0_2]) (t := 45) ?hr ?_; (case hd => rfl); (case hg => rfl); (case hr => first | (go_simp; done) | (go_simp; rfl)); intro gb265 hg w11 hbox hb; have n0_ := Aside0.mk (below_step zO5_5 hb); have n1_ := Aside0.mk (hbox); have n2_ := Aside0.mk ((by rw [hg]; exact (below_size zO5_5) : w.heap.size ≤ gb265)); have n3_ := Aside0.mk ((by rw [hg]; exact (below_size zO5_5) : w.heap.size ≤ gb265)); clear HB; have HB := n0_; have BK265 := n1_; have GW265 := n2_; have GE265 := n3_; clear n0_ n1_ n2_ n3_; clear hb hbox hg; have hcz12_0 : w11.cell? ⟨gb265, 0, none⟩ = some (.int .i64 a0_0) := (blk_cell BK265.out 0).trans rfl; have hcz12_1 : w11.cell? ⟨gb265, 1, none⟩ = some (.int .i64 a0_1) := (blk_cell BK265.out 1).trans rfl; have hcz12_2 : w11.cell? ⟨gb265, 2, none⟩ = some (.int .i64 a0_2) := (blk_cell BK265.out 2).trans rfl; have hfz12_0 := blk_frozen BK265.out 0; have hfz12_1 := blk_frozen BK265.out 1; have hfz12_2 := blk_frozen BK265.out 2) | ((with_reducible refine gate_callee (f := 81) rfl ?_); refine goesL_ (some 5) rfl rfl Try.func81 (by kernel_rfl) rfl #[.int .i64 a0_0] rfl zO5_4 ?_; (with_reducible refine (spec_pzWide.calls a0_0 false _ A2.out).mono ?_); rintro e w' ⟨rfl, ⟨nd, rfl⟩⟩; refine ⟨_, rfl, ?_⟩))
  go_ret
  exact ⟨by first | rfl | (simp [errW_none, errW_some] <;> rfl) | (simp [*, errW_none, errW_some] <;> rfl), by repeat (first | (with_reducible first | exact HB.out | apply below_alloc | apply pw_below_drewN | apply below_drew1 | refine below_set ?_ GE265.out) | exact HB.out)⟩

end Go.Proofs.Ytbdjidjcmmeanaa.P

namespace Go.Proofs.Ytbdjidjcmmeanaa.P
open Go.RowKit Go.Proofs.YtbdjidjcmmeanaaW.PrintWords Go.Proofs.YtbdjidjcmmeanaaW.PrintLast Go.Proofs.YtbdjidjcmmeanaaW.PrintMore
set_option linter.unusedVariables false
set_option linter.unusedSimpArgs false
def mHidden (a b c : Int) : Bool := inr 1 12 a && (inr 1 12 b && inr 1 12 c)
theorem mHidden_iff {a b c : Int} : mHidden a b c = true ↔ (1 ≤ a ∧ a ≤ 12) ∧ (1 ≤ b ∧ b ≤ 12) ∧ (1 ≤ c ∧ c ≤ 12) := by
 unfold mHidden; simp only [Bool.and_eq_true, inr_iff]
theorem impl_areHidden.eq (a b c : Int) : impl_areHidden.f a b c = some (mHidden a b c) := by
 unfold impl_areHidden.f impl_isSmall.f mHidden
 simp only [impl_within.eq, Option.bind_some]
 cases inr 1 12 a <;> cases inr 1 12 b <;> cases inr 1 12 c <;> simp
theorem spec_pzHidden.eq (a b c : Int) : spec_pzHidden.f a b c = some (mHidden a b c) := by
 unfold spec_pzHidden.f spec_pzWide.f mHidden
 simp only [spec_l1In.eq, Option.bind_some]
 cases inr 1 12 a <;> cases inr 1 12 b <;> cases inr 1 12 c <;> simp
theorem gcd_tmod (a b : Int) : Int.gcd b (Int.tmod a b) = Int.gcd a b := by
 rw [Int.gcd_eq_natAbs_gcd_natAbs, Int.gcd_eq_natAbs_gcd_natAbs, Int.natAbs_tmod, Nat.gcd_comm, Nat.gcd_comm a.natAbs]
 exact (Nat.gcd_rec _ _).symm
theorem impl_gcd.ev_l (n : Nat) : ∀ a b : Int, b.natAbs ≤ n → -9223372036854775807 ≤ a → a ≤ 9223372036854775807 → -9223372036854775807 ≤ b → b ≤ 9223372036854775807 → Ev (fun k => impl_gcd.l0 k a b) (Int.gcd a b : Int) := by
 induction n using Nat.strongRecOn with
 | ind n ih =>
  intro a b hn ha0 ha1 hb0 hb1
  by_cases hb : b = 0
  ·subst hb
   refine Ev.step (f := fun _ => some (mx a (wrap64 (-a)))) (fun k => by simp only [impl_gcd.l0, if_true]) ?_
   refine Ev.const ?_
   rw [wid zO5_13 zO5_13, Int.gcd_zero_right]
   congr 1
   unfold mx; split <;> omega
  ·refine Ev.step (f := fun k => impl_gcd.l0 k b (Int.tmod a b)) (fun k => by simp only [impl_gcd.l0]; rw [if_neg hb]) ?_
   have h1 : (Int.tmod a b).natAbs < b.natAbs := by rw [Int.natAbs_tmod]; exact Nat.mod_lt _ zO5_13
   exact ev_eq (ih (Int.tmod a b).natAbs zO5_13 b (Int.tmod a b) (Nat.le_refl _) hb0 hb1 zO5_13 zO5_13) (by rw [gcd_tmod])
theorem impl_gcd.ev {a b : Int} (ha0 : -9223372036854775807 ≤ a) (ha1 : a ≤ 9223372036854775807) (hb0 : -9223372036854775807 ≤ b) (hb1 : b ≤ 9223372036854775807) : Ev (fun k => impl_gcd.f k a b) (Int.gcd a b : Int) := by
 unfold impl_gcd.f; exact impl_gcd.ev_l _ a b (Nat.le_refl _) ha0 ha1 hb0 hb1
/-- The fraction in lowest terms. -/
def loA (a b : Int) : Int := a / (Int.gcd a b : Int)
def loB (a b : Int) : Int := b / (Int.gcd a b : Int)
theorem gcd_pos {a b : Int} (hb : 0 < b) : (0 : Int) < (Int.gcd a b : Int) := by
 have : 0 < Int.gcd a b := Int.gcd_pos_of_ne_zero_right _ zO5_13
 omega
theorem lo_mulA {a b : Int} : loA a b * (Int.gcd a b : Int) = a := Int.ediv_mul_cancel (Int.gcd_dvd_left ..)
theorem lo_mulB {a b : Int} : loB a b * (Int.gcd a b : Int) = b := Int.ediv_mul_cancel (Int.gcd_dvd_right ..)
theorem loA_bd {a b : Int} (hb : 0 < b) : (loA a b).natAbs ≤ a.natAbs := by
 unfold loA
 rw [Int.natAbs_ediv_of_dvd (Int.gcd_dvd_left ..)]
 exact Nat.div_le_self _ _
theorem loB_pos {a b : Int} (hb : 0 < b) : 0 < loB a b ∧ loB a b ≤ b := by
 have g := gcd_pos (a := a) hb
 have e := lo_mulB (a := a) (b := b)
 have h0 : 0 < loB a b := by
  rcases Int.lt_or_le 0 (loB a b) with h | h
  ·exact h
  ·have := Int.mul_nonneg (show 0 ≤ -(loB a b) by omega) (show 0 ≤ (Int.gcd a b : Int) by omega)
   rw [Int.neg_mul, e] at this
   omega
 refine ⟨h0, ?_⟩
 have : loB a b * 1 ≤ loB a b * (Int.gcd a b : Int) := Int.mul_le_mul_of_nonneg_left zO5_13 zO5_13
 rw [e] at this
 omega
theorem loA_nonneg {a b : Int} (ha : 0 ≤ a) (hb : 0 < b) : 0 ≤ loA a b ∧ loA a b ≤ a := by
 have g := gcd_pos (a := a) hb
 refine ⟨Int.ediv_nonneg ha zO5_13, ?_⟩
 have := loA_bd (a := a) hb
 have h0 : 0 ≤ loA a b := Int.ediv_nonneg ha zO5_13
 omega
theorem tdiv_gcd_l {a b : Int} : Int.tdiv a (Int.gcd a b : Int) = loA a b := Int.tdiv_eq_ediv_of_dvd (Int.gcd_dvd_left ..)
theorem tdiv_gcd_r {a b : Int} : Int.tdiv b (Int.gcd a b : Int) = loB a b := Int.tdiv_eq_ediv_of_dvd (Int.gcd_dvd_right ..)
theorem impl_fraction.ev {a b : Int} (ha0 : -9223372036854775807 ≤ a) (ha1 : a ≤ 9223372036854775807) (hb0 : 0 < b) (hb1 : b ≤ 9223372036854775807) : Ev (fun k => impl_fraction.f k a b) (loA a b, loB a b, true) := by
 unfold impl_fraction.f
 refine Ev.bind (impl_gcd.ev ha0 ha1 zO5_13 hb1) ?_
 have g := gcd_pos (a := a) hb0
 have h1 := loA_bd (a := a) hb0
 have h2 := loB_pos (a := a) hb0
 refine Ev.const ?_
 rw [if_neg zO5_13, tdiv_gcd_l, tdiv_gcd_r, wid zO5_13 zO5_13, wid zO5_13 zO5_13]
theorem spec_clLow.ev_l (x y : Int) (hx0 : 0 ≤ x) (hx1 : x ≤ 9223372036854775807) (hy0 : 0 < y) (hy1 : y ≤ 9223372036854775807) (n : Nat) : ∀ a b : Int, b.natAbs ≤ n → 0 ≤ a → 0 ≤ b → (0 < a ∨ 0 < b) → Int.gcd a b = Int.gcd x y → Ev (fun k => spec_clLow.l0 k x y a b) (loA x y, loB x y) := by
 induction n using Nat.strongRecOn with
 | ind n ih =>
  intro a b hn ha hb hab hg
  by_cases hb' : b = 0
  ·subst hb'
   refine Ev.step (f := fun _ => some (wrap64 (Int.tdiv x a), wrap64 (Int.tdiv y a))) (fun k => by simp only [spec_clLow.l0]; rw [if_neg zO5_13, if_neg zO5_13]) ?_
   refine Ev.const ?_
   have ea : a = (Int.gcd x y : Int) := by rw [← hg, Int.gcd_zero_right]; omega
   have h1 := loA_bd (a := x) hy0
   have h2 := loB_pos (a := x) hy0
   rw [ea, tdiv_gcd_l, tdiv_gcd_r, wid zO5_13 zO5_13, wid zO5_13 zO5_13]
  ·refine Ev.step (f := fun k => spec_clLow.l0 k x y b (Int.tmod a b)) (fun k => by simp only [spec_clLow.l0]; rw [if_pos zO5_13, if_neg hb']) ?_
   have h1 : (Int.tmod a b).natAbs < b.natAbs := by rw [Int.natAbs_tmod]; exact Nat.mod_lt _ zO5_13
   exact ih (Int.tmod a b).natAbs zO5_13 b (Int.tmod a b) (Nat.le_refl _) hb (Int.tmod_nonneg _ ha) (.inl zO5_13) ((gcd_tmod a b).trans hg)
theorem spec_clLow.ev {x y : Int} (hx0 : 0 ≤ x) (hx1 : x ≤ 9223372036854775807) (hy0 : 0 < y) (hy1 : y ≤ 9223372036854775807) : Ev (fun k => spec_clLow.f k x y) (loA x y, loB x y) := by
 unfold spec_clLow.f; exact spec_clLow.ev_l x y hx0 hx1 hy0 hy1 _ x y (Nat.le_refl _) hx0 zO5_13 (.inr hy0) rfl
theorem sq_le {a b : Int} (h0 : 0 ≤ a) (h : a ≤ b) : a * a ≤ b * b := Int.mul_le_mul h h h0 zO5_13
theorem sq_lt {a b : Int} (h0 : 0 ≤ a) (h : a < b) : a * a < b * b := by
 have h1 := Int.mul_le_mul_of_nonneg_right (show a ≤ b by omega) h0
 have h2 := Int.mul_lt_mul_of_pos_left h (show 0 < b by omega)
 omega
/-- The greatest whole number up to n whose square is not greater than x. -/
def flrN : Nat → Int → Int
 | 0, _ => 0
 | n + 1, x => if ((n : Int) + 1) * ((n : Int) + 1) ≤ x then (n : Int) + 1 else flrN n x
def flr (x : Int) : Int := flrN x.toNat x
theorem flrN_spec (x : Int) (hx : 0 ≤ x) : ∀ n : Nat, 0 ≤ flrN n x ∧ flrN n x ≤ n ∧ flrN n x * flrN n x ≤ x ∧ (flrN n x < n → x < (flrN n x + 1) * (flrN n x + 1))
 | 0 => by simp [flrN]; exact hx
 | n + 1 => by
  have ih := flrN_spec x hx n
  unfold flrN
  by_cases h : ((n : Int) + 1) * ((n : Int) + 1) ≤ x
  ·rw [if_pos h]; exact ⟨by omega, by omega, h, fun h => by omega⟩
  ·rw [if_neg h]
   refine ⟨ih.1, by omega, ih.2.2.1, fun _ => ?_⟩
   by_cases h2 : flrN n x < n
   ·exact ih.2.2.2 h2
   ·have h3 : flrN n x = n := by omega
    rw [h3]; omega
theorem flr_spec {x : Int} (hx : 0 ≤ x) : 0 ≤ flr x ∧ flr x * flr x ≤ x ∧ x < (flr x + 1) * (flr x + 1) := by
 have h := flrN_spec x hx x.toNat
 unfold flr
 refine ⟨h.1, h.2.2.1, ?_⟩
 by_cases h2 : flrN x.toNat x < x.toNat
 ·exact h.2.2.2 h2
 ·have h3 : flrN x.toNat x = x := by omega
  rw [h3]
  have : x * 1 ≤ x * (x + 1) := Int.mul_le_mul_of_nonneg_left zO5_13 hx
  have e : (x + 1) * (x + 1) = x * (x + 1) + (x + 1) := by rw [Int.add_mul, Int.one_mul]
  omega
theorem flr_le {x n : Int} (hx : 0 ≤ x) (h0 : 0 ≤ n) (h : n * n ≤ x) : n ≤ flr x := by
 have hs := flr_spec hx
 rcases Int.lt_or_le (flr x) n with h1 | h1
 ·have := sq_le (show 0 ≤ flr x + 1 by omega) (show flr x + 1 ≤ n by omega)
  omega
 ·exact h1
theorem flr_lt {x n : Int} (hx : 0 ≤ x) (h0 : 0 ≤ n) (h : x < n * n) : flr x < n := by
 have hs := flr_spec hx
 rcases Int.lt_or_le (flr x) n with h1 | h1
 ·exact h1
 ·have := sq_le h0 h1
  omega
def mWhole (x : Int) : Bool := flr x * flr x == x
def mCeil (x : Int) : Int := if mWhole x = true then flr x else flr x + 1
theorem mCeil_spec {x : Int} (hx : 0 ≤ x) : 0 ≤ mCeil x ∧ x ≤ mCeil x * mCeil x ∧ (mCeil x * mCeil x == x) = mWhole x := by
 have hs := flr_spec hx
 unfold mCeil
 by_cases h : mWhole x = true
 ·rw [if_pos h]
  have e : flr x * flr x = x := by simpa [mWhole] using h
  exact ⟨hs.1, by omega, by rw [h]; simpa using e⟩
 ·rw [if_neg h]
  refine ⟨by omega, by omega, ?_⟩
  rw [Bool.eq_false_iff.mpr h]
  simp only [beq_eq_false_iff_ne, ne_eq]
  omega
theorem mCeil_le {x n : Int} (hx : 0 ≤ x) (h0 : 0 ≤ n) (h : x ≤ n * n) : mCeil x ≤ n := by
 have hs := flr_spec hx
 unfold mCeil
 by_cases hw : mWhole x = true
 ·rw [if_pos hw]
  have e : flr x * flr x = x := by simpa [mWhole] using hw
  rcases Int.lt_or_le n (flr x) with h1 | h1
  ·have := sq_lt h0 h1; omega
  ·exact h1
 ·rw [if_neg hw]
  have e : flr x * flr x ≠ x := by simpa [mWhole] using hw
  rcases Int.lt_or_le (flr x) n with h1 | h1
  ·omega
  ·have := sq_le h0 h1; omega
theorem mCeil_gt {x n : Int} (hx : 0 ≤ x) (h0 : 0 ≤ n) (h : n * n < x) : n < mCeil x := by
 have hs := mCeil_spec hx
 rcases Int.lt_or_le n (mCeil x) with h1 | h1
 ·exact h1
 ·have := sq_le hs.1 h1; omega
theorem tdiv2 {a : Int} (h : 0 ≤ a) : Int.tdiv a 2 = a / 2 := Int.tdiv_eq_ediv_of_nonneg h
theorem spec_clRoot.ev_l {x : Int} (hx : 0 ≤ x) (n : Nat) : ∀ lo hi : Int, (hi - lo).toNat ≤ n → 0 ≤ lo → lo < hi → hi ≤ 2147483648 → lo ≤ flr x → flr x < hi → Ev (fun k => spec_clRoot.l0 k x lo hi) (flr x) := by
 induction n using Nat.strongRecOn with
 | ind n ih =>
  intro lo hi hn h0 h1 h2 h3 h4
  have hs := flr_spec hx
  refine Ev.succ ?_
  simp only [spec_clRoot.l0]
  rw [wid (show -9223372036854775808 ≤ hi - 1 by omega) zO5_13]
  by_cases hlt : lo < hi - 1
  ·simp only [if_pos hlt]
   rw [wid (show -9223372036854775808 ≤ lo + hi by omega) zO5_13, tdiv2 zO5_13, wid (show -9223372036854775808 ≤ (lo + hi) / 2 by omega) zO5_13]
   have hm0 : 0 ≤ (lo + hi) / 2 := by omega
   have hmb := mul_bd hm0 (show (lo + hi) / 2 ≤ 2147483648 by omega) hm0 (show (lo + hi) / 2 ≤ 2147483648 by omega)
   rw [wid (show -9223372036854775808 ≤ (lo + hi) / 2 * ((lo + hi) / 2) by omega) zO5_13]
   by_cases hc : (lo + hi) / 2 * ((lo + hi) / 2) ≤ x
   ·simp only [if_pos hc]
    have := flr_le hx hm0 hc
    exact ih (hi - (lo + hi) / 2).toNat zO5_13 _ _ (Nat.le_refl _) zO5_13 zO5_13 h2 this h4
   ·simp only [if_neg hc]
    have := flr_lt hx hm0 zO5_13
    exact ih ((lo + hi) / 2 - lo).toNat zO5_13 _ _ (Nat.le_refl _) h0 zO5_13 zO5_13 h3 this
  ·simp only [if_neg hlt]
   exact Ev.const (by congr 1; omega)
theorem spec_clRoot.ev {x : Int} (hx : 0 ≤ x) (hx1 : x < 4611686018427387904) : Ev (fun k => spec_clRoot.f k x) (flr x) := by
 unfold spec_clRoot.f
 exact spec_clRoot.ev_l hx _ 0 2147483648 (Nat.le_refl _) zO5_13 zO5_13 zO5_13 (flr_spec hx).1 (flr_lt hx zO5_13 zO5_13)
def mLadders (a b c : Int) : Bool := inr 1 1000 a && (inr 1 1000 b && inr 1 1000 c)
theorem mLadders_iff {a b c : Int} : mLadders a b c = true ↔ (1 ≤ a ∧ a ≤ 1000) ∧ (1 ≤ b ∧ b ≤ 1000) ∧ (1 ≤ c ∧ c ≤ 1000) := by
 unfold mLadders; simp only [Bool.and_eq_true, inr_iff]
theorem impl_AreLadders.eq (a b c : Int) : impl_AreLadders.f a b c = some (mLadders a b c) := by
 unfold impl_AreLadders.f impl_isWide.f mLadders
 simp only [impl_within.eq, Option.bind_some]
 cases inr 1 1000 a <;> cases inr 1 1000 b <;> cases inr 1 1000 c <;> simp
def mCrossHeight (a b c : Int) : Int × Int × Bool := if mLadders a b c = true then (loA (b * c) (b + c), loB (b * c) (b + c), true) else (0, 0, false)
def mCrossPlace (a b c : Int) : Int × Int × Bool := if mLadders a b c = true then (loA (b * a) (b + c), loB (b * a) (b + c), true) else (0, 0, false)
theorem impl_CrossHeight.ev (a b c : Int) : Ev (fun k => impl_CrossHeight.f k a b c) (mCrossHeight a b c) := by
 unfold impl_CrossHeight.f mCrossHeight
 refine Ev.bindc (impl_AreLadders.eq a b c) ?_
 refine Ev.ite (fun h => ?_) (fun _ => Ev.now _)
 obtain ⟨h0, h1, h2⟩ := mLadders_iff.1 h
 have p := mul_bd (a := b) (b := c) (A := 1000) (B := 1000) zO5_13 zO5_13 zO5_13 zO5_13
 rw [wid (show -9223372036854775808 ≤ b * c by omega) zO5_13, wid (show -9223372036854775808 ≤ b + c by omega) zO5_13]
 exact Ev.bind (impl_fraction.ev zO5_13 zO5_13 zO5_13 zO5_13) (Ev.now _)
theorem impl_CrossPlace.ev (a b c : Int) : Ev (fun k => impl_CrossPlace.f k a b c) (mCrossPlace a b c) := by
 unfold impl_CrossPlace.f mCrossPlace
 refine Ev.bindc (impl_AreLadders.eq a b c) ?_
 refine Ev.ite (fun h => ?_) (fun _ => Ev.now _)
 obtain ⟨h0, h1, h2⟩ := mLadders_iff.1 h
 have p := mul_bd (a := b) (b := a) (A := 1000) (B := 1000) zO5_13 zO5_13 zO5_13 zO5_13
 rw [wid (show -9223372036854775808 ≤ b * a by omega) zO5_13, wid (show -9223372036854775808 ≤ b + c by omega) zO5_13]
 exact Ev.bind (impl_fraction.ev zO5_13 zO5_13 zO5_13 zO5_13) (Ev.now _)
theorem impl_rootOf.ev_b {x : Int} (hx : 0 ≤ x) (hx1 : x ≤ 1152921504606846976) (n : Nat) : ∀ lo hi : Int, (hi - lo).toNat ≤ n → 0 ≤ lo → lo ≤ mCeil x → mCeil x ≤ hi → hi ≤ 2147483648 → Ev (fun k => impl_rootOf.l1 k x lo hi) (mCeil x, mWhole x) := by
 induction n using Nat.strongRecOn with
 | ind n ih =>
  intro lo hi hn h0 h1 h2 h3
  have hs := mCeil_spec hx
  refine Ev.succ ?_
  simp only [impl_rootOf.l1]
  by_cases hlt : lo < hi
  ·simp only [if_pos hlt]
   rw [wid (show -9223372036854775808 ≤ lo + hi by omega) zO5_13, tdiv2 zO5_13, wid (show -9223372036854775808 ≤ (lo + hi) / 2 by omega) zO5_13]
   have hm0 : 0 ≤ (lo + hi) / 2 := by omega
   have hmb := mul_bd hm0 (show (lo + hi) / 2 ≤ 2147483648 by omega) hm0 (show (lo + hi) / 2 ≤ 2147483648 by omega)
   rw [wid (show -9223372036854775808 ≤ (lo + hi) / 2 * ((lo + hi) / 2) by omega) zO5_13]
   by_cases hc : (lo + hi) / 2 * ((lo + hi) / 2) < x
   ·simp only [if_pos hc]
    have := mCeil_gt hx hm0 hc
    rw [wid (show -9223372036854775808 ≤ (lo + hi) / 2 + 1 by omega) zO5_13]
    exact ih (hi - ((lo + hi) / 2 + 1)).toNat zO5_13 _ _ (Nat.le_refl _) zO5_13 zO5_13 h2 h3
   ·simp only [if_neg hc]
    have := mCeil_le hx hm0 zO5_13
    exact ih ((lo + hi) / 2 - lo).toNat zO5_13 _ _ (Nat.le_refl _) h0 h1 this zO5_13
  ·simp only [if_neg hlt]
   have e : lo = mCeil x := by omega
   refine Ev.const ?_
   have hmb := mul_bd h0 (show lo ≤ 2147483648 by omega) h0 (show lo ≤ 2147483648 by omega)
   rw [wid (show -9223372036854775808 ≤ lo * lo by omega) zO5_13, e, hs.2.2]
theorem impl_rootOf.ev_a {x : Int} (hx : 0 ≤ x) (hx1 : x ≤ 1152921504606846976) (n : Nat) : ∀ hi : Int, (2147483648 - hi).toNat ≤ n → 1 ≤ hi → hi ≤ 2147483648 → Ev (fun k => impl_rootOf.l0 k x 0 hi) (mCeil x, mWhole x) := by
 induction n using Nat.strongRecOn with
 | ind n ih =>
  intro hi hn h0 h1
  have hs := mCeil_spec hx
  refine Ev.succ ?_
  simp only [impl_rootOf.l0]
  have hmb := mul_bd (show 0 ≤ hi by omega) h1 (show 0 ≤ hi by omega) h1
  rw [wid (show -9223372036854775808 ≤ hi * hi by omega) zO5_13]
  by_cases hc : hi * hi < x
  ·simp only [if_pos hc]
   have hh : hi ≤ 1073741823 := by
    rcases Int.lt_or_le hi 1073741824 with h | h
    ·omega
    ·have := sq_le (show (0 : Int) ≤ 1073741824 by omega) h; omega
   rw [wid (show -9223372036854775808 ≤ hi * 2 by omega) zO5_13]
   exact ih (2147483648 - hi * 2).toNat zO5_13 _ (Nat.le_refl _) zO5_13 zO5_13
  ·simp only [if_neg hc]
   exact impl_rootOf.ev_b hx hx1 _ 0 hi (Nat.le_refl _) zO5_13 hs.1 (mCeil_le hx zO5_13 zO5_13) h1
theorem impl_rootOf.ev {x : Int} (hx : 0 ≤ x) (hx1 : x ≤ 1152921504606846976) : Ev (fun k => impl_rootOf.f k x) (mCeil x, mWhole x) := by
 unfold impl_rootOf.f
 exact impl_rootOf.ev_a hx hx1 _ 1 (Nat.le_refl _) zO5_13 zO5_13
def mOwn (a b c : Int) : Int := if a = 1 then c else b
/-- What a clue of kind k tells of ladders (w, l, r), with a for the kind 3. -/
def mVal (k a w l r : Int) : Int × Int :=
 if k = 0 then (a, l + r) else if k = 1 then (a, if l > r then 1 else 0) else if k = 2 then (loA (l * r) (l + r), loB (l * r) (l + r))
 else if k = 3 then (a, if mWhole (w * w + mOwn a l r * mOwn a l r) = true then 1 else 0) else if k = 4 then (loA (l * w) (l + r), loB (l * w) (l + r)) else (a, l * r)
theorem mWhole_flr (x : Int) : (flr x * flr x = x) = (mWhole x = true) := by unfold mWhole; simp
theorem spec_pzValue.ev (k a w l r : Int) (h : mHidden w l r = true) : Ev (fun n => spec_pzValue.f n k a w l r) (mVal k a w l r) := by
 obtain ⟨h0, h1, h2⟩ := mHidden_iff.1 h
 have p1 := mul_bd (a := l) (b := r) (A := 12) (B := 12) zO5_13 zO5_13 zO5_13 zO5_13
 have p2 := mul_bd (a := l) (b := w) (A := 12) (B := 12) zO5_13 zO5_13 zO5_13 zO5_13
 have p3 := mul_bd (a := w) (b := w) (A := 12) (B := 12) zO5_13 zO5_13 zO5_13 zO5_13
 have p4 := mul_bd (a := l) (b := l) (A := 12) (B := 12) zO5_13 zO5_13 zO5_13 zO5_13
 have p5 := mul_bd (a := r) (b := r) (A := 12) (B := 12) zO5_13 zO5_13 zO5_13 zO5_13
 unfold spec_pzValue.f mVal
 rw [Int.mul_comm w l, wid (show -9223372036854775808 ≤ l + r by omega) zO5_13, wid (show -9223372036854775808 ≤ l * r by omega) zO5_13, wid (show -9223372036854775808 ≤ l * w by omega) zO5_13]
 refine Ev.ite (fun _ => Ev.now _) (fun _ => ?_)
 refine Ev.ite (fun _ => ?_) (fun _ => ?_)
 ·by_cases hc : l > r
  ·simp only [if_pos hc]; exact Ev.now _
  ·simp only [if_neg hc]; exact Ev.now _
 refine Ev.ite (fun _ => Ev.bind (spec_clLow.ev zO5_13 zO5_13 zO5_13 zO5_13) (Ev.now _)) (fun _ => ?_)
 refine Ev.ite (fun _ => ?_) (fun _ => ?_)
 ·refine Ev.bindc (a := (w * w + l * l, w * w + r * r)) ?_ ?_
  ·unfold spec_clSquares.f
   rw [wid (show -9223372036854775808 ≤ w * w by omega) zO5_13, wid (show -9223372036854775808 ≤ l * l by omega) zO5_13, wid (show -9223372036854775808 ≤ r * r by omega) zO5_13, wid (show -9223372036854775808 ≤ w * w + l * l by omega) zO5_13, wid (show -9223372036854775808 ≤ w * w + r * r by omega) zO5_13]
  ·have hsq : ∀ x : Int, 0 ≤ x → x ≤ 288 → wrap64 (flr x * flr x) = flr x * flr x := fun x hx h => by have := flr_spec hx; have := sq_le (show (0 : Int) ≤ 0 by omega) this.1; exact wid zO5_13 zO5_13
   by_cases hc : a = 1
   ·simp only [if_pos hc, mOwn]
    refine Ev.bind (spec_clRoot.ev (x := w * w + r * r) zO5_13 zO5_13) ?_
    rw [hsq _ zO5_13 zO5_13]
    simp only [mWhole_flr]
    by_cases hw : mWhole (w * w + r * r) = true
    ·simp only [if_pos hw]; exact Ev.now _
    ·simp only [if_neg hw]; exact Ev.now _
   ·simp only [if_neg hc, mOwn]
    refine Ev.bind (spec_clRoot.ev (x := w * w + l * l) zO5_13 zO5_13) ?_
    rw [hsq _ zO5_13 zO5_13]
    simp only [mWhole_flr]
    by_cases hw : mWhole (w * w + l * l) = true
    ·simp only [if_pos hw]; exact Ev.now _
    ·simp only [if_neg hw]; exact Ev.now _
 refine Ev.ite (fun _ => Ev.bind (spec_clLow.ev zO5_13 zO5_13 zO5_13 zO5_13) (Ev.now _)) (fun _ => Ev.now _)
/-- What told answers: side 0 or 1. -/
theorem impl_told.ev (k a w l r : Int) (h : mHidden w l r = true) (hk : 0 ≤ k ∧ k ≤ 5) (ha : a = 0 ∨ a = 1) (ha3 : k ≠ 3 → a = 0) : Ev (fun n => impl_told.f n w l r k a) (k, (mVal k a w l r).1, (mVal k a w l r).2) := by
 obtain ⟨h0, h1, h2⟩ := mHidden_iff.1 h
 have hL : mLadders w l r = true := mLadders_iff.2 zO5_13
 have p1 := mul_bd (a := l) (b := r) (A := 12) (B := 12) zO5_13 zO5_13 zO5_13 zO5_13
 have p2 := mul_bd (a := l) (b := w) (A := 12) (B := 12) zO5_13 zO5_13 zO5_13 zO5_13
 have p3 := mul_bd (a := w) (b := w) (A := 12) (B := 12) zO5_13 zO5_13 zO5_13 zO5_13
 have p4 := mul_bd (a := l) (b := l) (A := 12) (B := 12) zO5_13 zO5_13 zO5_13 zO5_13
 have p5 := mul_bd (a := r) (b := r) (A := 12) (B := 12) zO5_13 zO5_13 zO5_13 zO5_13
 unfold impl_told.f
 rw [wid (show -9223372036854775808 ≤ l + r by omega) zO5_13, wid (show -9223372036854775808 ≤ l * r by omega) zO5_13]
 have hk6 : k = 0 ∨ k = 1 ∨ k = 2 ∨ k = 3 ∨ k = 4 ∨ k = 5 := by omega
 rcases hk6 with rfl | rfl | rfl | rfl | rfl | rfl
 ·obtain rfl := ha3 zO5_13
  simp only [if_true, mVal]; exact Ev.now _
 ·obtain rfl := ha3 zO5_13
  simp only [mVal, show ¬ ((1 : Int) = 0) by omega, if_false, if_true]
  by_cases hc : l > r
  ·simp [impl_asNumber.f, hc]; exact Ev.now _
  ·simp [impl_asNumber.f, hc]; exact Ev.now _
 ·simp only [mVal, show ¬ ((2 : Int) = 0) by omega, show ¬ ((2 : Int) = 1) by omega, if_false, if_true]
  have e := impl_CrossHeight.ev w l r
  rw [mCrossHeight, if_pos hL] at e
  exact Ev.bind e (Ev.now _)
 ·simp only [mVal, show ¬ ((3 : Int) = 0) by omega, show ¬ ((3 : Int) = 1) by omega, show ¬ ((3 : Int) = 2) by omega, if_false, if_true, Option.bind_some]
  have hl : (([l, r] : List Int).length : Int) = 2 := rfl
  rw [hl]
  simp only [show 0 ≤ a by omega, show a < 2 by omega, if_true]
  have hrd : rd [l, r] a = mOwn a l r := by
   rcases ha with rfl | rfl
   ·simp [mOwn, rd]
   ·simp [mOwn, rd]
  rw [hrd]
  have hob : 1 ≤ mOwn a l r ∧ mOwn a l r ≤ 12 := by unfold mOwn; split <;> omega
  have p6 := mul_bd (a := mOwn a l r) (b := mOwn a l r) (A := 12) (B := 12) zO5_13 zO5_13 zO5_13 zO5_13
  refine Ev.bindc (a := w * w + mOwn a l r * mOwn a l r) ?_ ?_
  ·unfold impl_square.f
   rw [wid (show -9223372036854775808 ≤ w * w by omega) zO5_13, wid (show -9223372036854775808 ≤ mOwn a l r * mOwn a l r by omega) zO5_13, wid (show -9223372036854775808 ≤ w * w + mOwn a l r * mOwn a l r by omega) zO5_13]
  ·refine Ev.bind (impl_rootOf.ev zO5_13 zO5_13) ?_
   simp only [impl_asNumber.f]
   by_cases hw : mWhole (w * w + mOwn a l r * mOwn a l r) = true
   ·simp only [if_pos hw, Option.bind_some]; exact Ev.now _
   ·simp only [if_neg hw, Option.bind_some]; exact Ev.now _
 ·simp only [mVal, show ¬ ((4 : Int) = 0) by omega, show ¬ ((4 : Int) = 1) by omega, show ¬ ((4 : Int) = 2) by omega, show ¬ ((4 : Int) = 3) by omega, if_false, if_true]
  have e := impl_CrossPlace.ev w l r
  rw [mCrossPlace, if_pos hL] at e
  exact Ev.bind e (Ev.now _)
 ·obtain rfl := ha3 zO5_13
  simp only [mVal, show ¬ ((5 : Int) = 0) by omega, show ¬ ((5 : Int) = 1) by omega, show ¬ ((5 : Int) = 2) by omega, show ¬ ((5 : Int) = 3) by omega, show ¬ ((5 : Int) = 4) by omega, if_false, if_true]; exact Ev.now _
/-- The clue (k, a, b) fits the ladders. -/
def mFits (k a b w l r : Int) : Bool := (mVal k a w l r).1 == a && (mVal k a w l r).2 == b
theorem mClue_kind {k a b : Int} (h : mClue k a b = true) : 0 ≤ k ∧ k ≤ 5 ∧ (k ≠ 3 → k ≠ 2 → k ≠ 4 → a = 0) ∧ (k = 3 → a = 0 ∨ a = 1) := by
 unfold mClue at h
 simp only [Bool.and_eq_true, Bool.or_eq_true, inr_iff, beq_iff_eq, decide_eq_true_eq] at h
 omega
theorem spec_pzFits.ev (k a b w l r : Int) (h : mHidden w l r = true) : Ev (fun n => spec_pzFits.f n k a b w l r) (mFits k a b w l r) := by
 unfold spec_pzFits.f mFits
 refine Ev.bind (spec_pzValue.ev k a w l r h) ?_
 by_cases hc : (mVal k a w l r).1 = a
 ·simp only [if_pos hc, hc, beq_self_eq_true, Bool.true_and]; exact Ev.now _
 ·simp only [if_neg hc]
  exact Ev.const (by simp [hc])
theorem mVal_other (k a a' w l r : Int) (hk : k = 2 ∨ k = 4) : mVal k a w l r = mVal k a' w l r := by
 rcases hk with rfl | rfl <;> simp [mVal]
theorem impl_doesFit.ev (k a b w l r : Int) (h : mHidden w l r = true) (hc : mClue k a b = true) : Ev (fun n => impl_doesFit.f n k a b w l r) (mFits k a b w l r) := by
 obtain ⟨k0, k5, k1, k3⟩ := mClue_kind hc
 unfold impl_doesFit.f
 by_cases h3 : k = 3
 ·simp only [if_pos h3]
  refine Ev.bind (impl_told.ev k a w l r h ⟨k0, k5⟩ (k3 h3) (fun h => absurd h3 h)) ?_
  refine Ev.const ?_
  simp [mFits]
 ·simp only [if_neg h3]
  refine Ev.bind (impl_told.ev k 0 w l r h ⟨k0, k5⟩ (.inl rfl) (fun _ => rfl)) ?_
  refine Ev.const ?_
  by_cases h24 : k = 2 ∨ k = 4
  ·rw [mVal_other k 0 a w l r h24]; simp [mFits]
  ·have ha := k1 h3 zO5_13 zO5_13
   subst ha
   simp [mFits]
def mkL (w : Int) (i j : Nat) : S45 := ⟨w, (i : Int) + 1, (j : Int) + 1⟩
def fitsAll (l : List S37) (x : S45) : Bool := l.all fun c => mFits c.f0 c.f1 c.f2 x.f0 x.f1 x.f2
/-- From place j on in the row of the left height i + 1. -/
def mRow (w : Int) (l : List S37) (i j : Nat) : List S45 := ((List.range' j (12 - j)).map (mkL w i)).filter (fitsAll l)
def mRows (w : Int) (l : List S37) (i : Nat) : List S45 := (List.range' i (12 - i)).flatMap fun i => mRow w l i 0
/-- All hidden ladders that fit the clues, in order. -/
def mSols (w : Int) (l : List S37) : List S45 := mRows w l 0
theorem mRow_step (w : Int) (l : List S37) (i j : Nat) (h : j < 12) : mRow w l i j = (if fitsAll l (mkL w i j) = true then [mkL w i j] else []) ++ mRow w l i (j + 1) := by
 unfold mRow
 rw [show 12 - j = (12 - (j + 1)) + 1 by omega, List.range'_succ, List.map_cons, List.filter_cons]
 split <;> simp
theorem mRow_end (w : Int) (l : List S37) (i j : Nat) (h : 12 ≤ j) : mRow w l i j = [] := by
 unfold mRow; rw [show 12 - j = 0 by omega]; rfl
theorem mRows_step (w : Int) (l : List S37) (i : Nat) (h : i < 12) : mRows w l i = mRow w l i 0 ++ mRows w l (i + 1) := by
 unfold mRows
 rw [show 12 - i = (12 - (i + 1)) + 1 by omega, List.range'_succ, List.flatMap_cons]
theorem mRows_end (w : Int) (l : List S37) (i : Nat) (h : 12 ≤ i) : mRows w l i = [] := by
 unfold mRows; rw [show 12 - i = 0 by omega]; rfl
theorem mRow_len (w : Int) (l : List S37) (i j : Nat) : (mRow w l i j).length ≤ 12 - j := by
 unfold mRow
 exact Nat.le_trans (List.length_filter_le _ _) (by simp)
theorem mRows_len (w : Int) (l : List S37) : ∀ (d i : Nat), i + d = 12 → (mRows w l i).length ≤ 12 * d
 | 0, i, h => by rw [mRows_end w l i zO5_13]; simp
 | d + 1, i, h => by
  rw [mRows_step w l i zO5_13, List.length_append]
  have := mRow_len w l i 0
  have := mRows_len w l d (i + 1) zO5_13
  omega
theorem mSols_len (w : Int) (l : List S37) : (mSols w l).length ≤ 144 := mRows_len w l 12 0 zO5_13
theorem anySolution.ev (w : Int) (l : List S37) (a b : Int) (h : mHidden w a b = true) (hc : l.all mClueS = true) : Ev (fun k => anySolution.f k l w a b) (!(fitsAll l ⟨w, a, b⟩)) := by
 refine ev_eq (r := l.any fun c => !(mFits c.f0 c.f1 c.f2 w a b)) ?_ (by unfold fitsAll; rw [List.not_all_eq_any_not])
 unfold anySolution.f
 refine cAny_ev l (fun x hx => ?_)
 unfold anySolution.p
 exact Ev.bind (impl_doesFit.ev _ _ _ _ _ _ h (List.all_eq_true.1 hc x hx)) (Ev.now _)
theorem hid_mk {w : Int} (hw : inr 1 12 w = true) {i j : Nat} (hi : i < 12) (hj : j < 12) : mHidden w ((i : Int) + 1) ((j : Int) + 1) = true := by
 have := inr_iff.1 hw
 exact mHidden_iff.2 zO5_13
theorem impl_solutions.ev_r (w : Int) (l : List S37) (hw : inr 1 12 w = true) (hc : l.all mClueS = true) (r : List S45) (i : Nat) (hi : i < 12) (d : Nat) : ∀ (j : Nat) (out : List S45), j + d = 12 → out.length ≤ 12 * i + j → Ev (fun k => impl_solutions.l0 k w l (out ++ mRow w l i j) ((i + 1 : Nat) + 1 : Int)) r → Ev (fun k => impl_solutions.l1 k w l out ((i : Int) + 1) ((j : Int) + 1)) r := by
 induction d with
 | zero =>
  intro j out hj ho h
  rw [mRow_end w l i j zO5_13, List.append_nil] at h
  refine Ev.succ ?_
  simp only [impl_solutions.l1, show ¬ ((j : Int) + 1 ≤ 12) by omega, if_false]
  rw [wid (show -9223372036854775808 ≤ (i : Int) + 1 + 1 by omega) zO5_13]
  exact h
 | succ d ih =>
  intro j out hj ho h
  rw [mRow_step w l i j zO5_13] at h
  refine Ev.succ ?_
  simp only [impl_solutions.l1, show ((j : Int) + 1 ≤ 12) by omega, if_true]
  refine Ev.bind (anySolution.ev w l _ _ (hid_mk hw hi zO5_13) hc) ?_
  rw [wid (show -9223372036854775808 ≤ (j : Int) + 1 + 1 by omega) zO5_13]
  by_cases hf : fitsAll l (mkL w i j) = true
  ·rw [if_pos hf] at h
   simp only [show fitsAll l ⟨w, (i : Int) + 1, (j : Int) + 1⟩ = true from hf, Bool.not_true, Bool.false_eq_true, if_false, show out.length < 5864062014805 by omega, if_true]
   exact ih (j + 1) (out ++ [mkL w i j]) zO5_13 (by simp; omega) (by rw [List.append_assoc]; exact h)
  ·rw [if_neg hf, List.nil_append] at h
   simp only [show fitsAll l ⟨w, (i : Int) + 1, (j : Int) + 1⟩ = false from Bool.eq_false_iff.mpr hf, Bool.not_false, if_true]
   exact ih (j + 1) out zO5_13 zO5_13 h
theorem impl_solutions.ev_l (w : Int) (l : List S37) (hw : inr 1 12 w = true) (hc : l.all mClueS = true) (d : Nat) : ∀ (i : Nat) (out : List S45), i + d = 12 → out.length ≤ 12 * i → Ev (fun k => impl_solutions.l0 k w l out ((i : Int) + 1)) (out ++ mRows w l i) := by
 induction d with
 | zero =>
  intro i out hi ho
  rw [mRows_end w l i zO5_13, List.append_nil]
  refine Ev.succ ?_
  simp only [impl_solutions.l0, show ¬ ((i : Int) + 1 ≤ 12) by omega, if_false]
  exact Ev.now _
 | succ d ih =>
  intro i out hi ho
  rw [mRows_step w l i zO5_13]
  refine Ev.succ ?_
  simp only [impl_solutions.l0, show ((i : Int) + 1 ≤ 12) by omega, if_true]
  have hl := mRow_len w l i 0
  have h := ih (i + 1) (out ++ mRow w l i 0) zO5_13 (by rw [List.length_append]; omega)
  rw [List.append_assoc] at h
  exact impl_solutions.ev_r w l hw hc _ i zO5_13 12 0 out zO5_13 zO5_13 h
theorem impl_solutions.ev {w : Int} {l : List S37} (hw : inr 1 12 w = true) (hc : l.all mClueS = true) : Ev (fun k => impl_solutions.f k w l) (mSols w l) := by
 unfold impl_solutions.f
 exact impl_solutions.ev_l w l hw hc 12 0 [] zO5_13 (by simp)
theorem spec_pzAll.ev_c (w : Int) (l : List S37) (hl : l.length ≤ 4611686018427387904) (out : List S45) (a b : Int) (h : mHidden w a b = true) (ho : out.length < 5864062014805) (r : List S45) (d : Nat) : ∀ (t : Nat) (x9 : Bool), t + d = l.length →
  Ev (fun k => spec_pzAll.l1 k w l (if (x9 && (l.drop t).all fun c => mFits c.f0 c.f1 c.f2 w a b) = true then out ++ [⟨w, a, b⟩] else out) a (wrap64 (b + 1))) r → Ev (fun k => spec_pzAll.l2 k w l out a b x9 l (l.length : Int) (t : Int) w a b) r := by
 induction d with
 | zero =>
  intro t x9 ht hr
  rw [show t = l.length by omega, List.drop_length] at hr
  refine Ev.succ ?_
  simp only [spec_pzAll.l2, show ¬ ((t : Int) < (l.length : Int)) by omega, if_false]
  cases x9 with
  | true => simp only [if_true, if_pos ho]; simpa using hr
  | false => simp only [Bool.false_eq_true, if_false]; simpa using hr
 | succ d ih =>
  intro t x9 ht hr
  have hlt : t < l.length := by omega
  have e : rd_T37 l (t : Int) = l[t] := by simp [rd_T37, List.getD_eq_getElem?_getD, List.getElem?_eq_getElem hlt]
  rw [List.drop_eq_getElem_cons hlt, List.all_cons] at hr
  refine Ev.succ ?_
  simp only [spec_pzAll.l2, show ((t : Int) < (l.length : Int)) by omega, show (0 : Int) ≤ (t : Int) by omega, if_true, e]
  rw [wid (show -9223372036854775808 ≤ (t : Int) + 1 by omega) zO5_13]
  cases x9 with
  | true =>
   simp only [if_true]
   refine Ev.bind (spec_pzFits.ev _ _ _ w a b h) ?_
   exact ih (t + 1) _ zO5_13 (by simpa using hr)
  | false =>
   simp only [Bool.false_eq_true, if_false]
   exact ih (t + 1) false zO5_13 (by simpa using hr)
theorem spec_pzAll.ev_r (w : Int) (l : List S37) (hl : l.length ≤ 4611686018427387904) (hw : inr 1 12 w = true) (r : List S45) (i : Nat) (hi : i < 12) (d : Nat) : ∀ (j : Nat) (out : List S45), j + d = 12 → out.length ≤ 12 * i + j → Ev (fun k => spec_pzAll.l0 k w l (out ++ mRow w l i j) ((i + 1 : Nat) + 1 : Int)) r → Ev (fun k => spec_pzAll.l1 k w l out ((i : Int) + 1) ((j : Int) + 1)) r := by
 induction d with
 | zero =>
  intro j out hj ho h
  rw [mRow_end w l i j zO5_13, List.append_nil] at h
  refine Ev.succ ?_
  simp only [spec_pzAll.l1, show ¬ ((j : Int) + 1 ≤ 12) by omega, if_false]
  rw [wid (show -9223372036854775808 ≤ (i : Int) + 1 + 1 by omega) zO5_13]
  exact h
 | succ d ih =>
  intro j out hj ho h
  rw [mRow_step w l i j zO5_13] at h
  refine Ev.succ ?_
  simp only [spec_pzAll.l1, show ((j : Int) + 1 ≤ 12) by omega, if_true]
  refine spec_pzAll.ev_c w l hl out _ _ (hid_mk hw hi zO5_13) zO5_13 r l.length 0 true zO5_13 ?_
  rw [wid (show -9223372036854775808 ≤ (j : Int) + 1 + 1 by omega) zO5_13]
  simp only [List.drop_zero, Bool.true_and]
  by_cases hf : fitsAll l (mkL w i j) = true
  ·rw [if_pos hf] at h
   rw [if_pos (show (l.all fun c => mFits c.f0 c.f1 c.f2 w ((i : Int) + 1) ((j : Int) + 1)) = true from hf)]
   exact ih (j + 1) (out ++ [mkL w i j]) zO5_13 (by simp; omega) (by rw [List.append_assoc]; exact h)
  ·rw [if_neg hf, List.nil_append] at h
   rw [if_neg (show ¬ (l.all fun c => mFits c.f0 c.f1 c.f2 w ((i : Int) + 1) ((j : Int) + 1)) = true from hf)]
   exact ih (j + 1) out zO5_13 zO5_13 h
theorem spec_pzAll.ev_l (w : Int) (l : List S37) (hl : l.length ≤ 4611686018427387904) (hw : inr 1 12 w = true) (d : Nat) : ∀ (i : Nat) (out : List S45), i + d = 12 → out.length ≤ 12 * i → Ev (fun k => spec_pzAll.l0 k w l out ((i : Int) + 1)) (out ++ mRows w l i) := by
 induction d with
 | zero =>
  intro i out hi ho
  rw [mRows_end w l i zO5_13, List.append_nil]
  refine Ev.succ ?_
  simp only [spec_pzAll.l0, show ¬ ((i : Int) + 1 ≤ 12) by omega, if_false]
  exact Ev.now _
 | succ d ih =>
  intro i out hi ho
  rw [mRows_step w l i zO5_13]
  refine Ev.succ ?_
  simp only [spec_pzAll.l0, show ((i : Int) + 1 ≤ 12) by omega, if_true]
  have hl2 := mRow_len w l i 0
  have h := ih (i + 1) (out ++ mRow w l i 0) zO5_13 (by rw [List.length_append]; omega)
  rw [List.append_assoc] at h
  exact spec_pzAll.ev_r w l hl hw _ i zO5_13 12 0 out zO5_13 zO5_13 h
theorem spec_pzAll.ev {w : Int} {l : List S37} (hl : l.length ≤ 4611686018427387904) (hw : inr 1 12 w = true) : Ev (fun k => spec_pzAll.f k w l) (mSols w l) := by
 unfold spec_pzAll.f
 exact spec_pzAll.ev_l w l hl hw 12 0 [] zO5_13 (by simp)
theorem mPuzzle_parts {w : Int} {l : List S37} (h : mPuzzle w l = true) : inr 1 12 w = true ∧ l.length ≤ 6 ∧ l.all mClueS = true := by
 unfold mPuzzle at h
 simp only [Bool.and_eq_true, decide_eq_true_eq] at h
 exact h
def mSolutions (w : Int) (l : List S37) : List S45 × Bool := if mPuzzle w l = true then (mSols w l, true) else ([], false)
theorem impl_Solutions.ev (w : Int) (l : List S37) : Ev (fun k => impl_Solutions.f k w l) (mSolutions w l) := by
 unfold impl_Solutions.f mSolutions
 refine Ev.bind (impl_IsPuzzle.ev w l) ?_
 refine Ev.ite (fun h => ?_) (fun _ => Ev.now _)
 obtain ⟨h1, h2, h3⟩ := mPuzzle_parts h
 exact Ev.bind (impl_solutions.ev h1 h3) (Ev.now _)
def mAdd (w : Int) (l : List S37) (a b c : Int) : Int × List S37 × Bool := if (mPuzzle w l && (mClue a b c && decide (l.length ≠ 6))) = true then (w, l ++ [⟨a, b, c⟩], true) else (0, [], false)
theorem impl_AddClue.ev (w : Int) (l : List S37) (a b c : Int) : Ev (fun k => impl_AddClue.f k w l a b c) (mAdd w l a b c) := by
 unfold impl_AddClue.f mAdd
 refine Ev.bind (impl_IsPuzzle.ev w l) ?_
 cases h : mPuzzle w l with
 | false => exact Ev.now _
 | true =>
  obtain ⟨h1, h2, h3⟩ := mPuzzle_parts h
  simp only [if_true, Bool.true_and]
  refine Ev.bind (impl_isClue.ev a b c) ?_
  cases h4 : mClue a b c with
  | false => exact Ev.now _
  | true =>
   simp only [if_true, Bool.true_and]
   by_cases h6 : l.length = 6
   ·simp only [show (l.length : Int) = 6 by omega, if_true, h6, ne_eq, not_true_eq_false, decide_false, Bool.false_eq_true, if_false]
    exact Ev.now _
   ·simp only [show ¬ ((l.length : Int) = 6) by omega, if_false, h6, ne_eq, not_false_eq_true, decide_true, if_true]
    refine Ev.bindc (show impl_Clue_62.f l = some l from if_pos zO5_13) ?_
    simp only [Option.bind_some, List.length_cons, List.length_nil, show l.length + (0 + 1) < 5864062014805 by omega, if_true]
    exact Ev.now _
theorem spec_AddClue.ev (w : Int) (l : List S37) (a b c : Int) : Ev (fun k => spec_AddClue.f k w l a b c) (mAdd w l a b c) := by
 unfold spec_AddClue.f mAdd
 refine Ev.bind (spec_pzGood.ev w l) ?_
 cases h : mPuzzle w l with
 | false => exact Ev.now _
 | true =>
  obtain ⟨h1, h2, h3⟩ := mPuzzle_parts h
  simp only [if_true, Bool.true_and]
  refine Ev.bind (spec_pzClue.ev a b c) ?_
  cases h4 : mClue a b c with
  | false => exact Ev.now _
  | true =>
   simp only [if_true, Bool.true_and]
   by_cases h6 : l.length = 6
   ·simp only [show (l.length : Int) = 6 by omega, if_true, h6, ne_eq, not_true_eq_false, decide_false, Bool.false_eq_true, if_false]
    exact Ev.now _
   ·simp only [show ¬ ((l.length : Int) = 6) by omega, if_false, h6, ne_eq, not_false_eq_true, decide_true, if_true]
    simp only [Option.bind_some, List.nil_append, List.length_cons, List.length_nil, show 0 + l.length < 5864062014805 by omega, show l.length + (0 + 1) < 5864062014805 by omega, if_true]
    exact Ev.now _
theorem mAdd_len (w : Int) (l : List S37) (a b c : Int) : (mAdd w l a b c).2.1.length ≤ 1099511627776 := by
 unfold mAdd; split
 ·rename_i h; rw [Bool.and_eq_true] at h; have := (mPuzzle_parts h.1).2.1; simp; omega
 ·simp
theorem laws_eqClueS.ev_l (l : List S37) (hl : l.length ≤ 4611686018427387904) (d : Nat) : ∀ i : Nat, i + d = l.length → Ev (fun k => laws_eqClueS.l0 k l l (i : Int)) true := by
 induction d with
 | zero =>
  intro i hi
  refine Ev.succ ?_
  simp only [laws_eqClueS.l0, show ¬ ((i : Int) < (l.length : Int)) by omega, if_false]
  exact Ev.now _
 | succ d ih =>
  intro i hi
  refine Ev.succ ?_
  simp only [laws_eqClueS.l0, show ((i : Int) < (l.length : Int)) by omega, show (0 : Int) ≤ (i : Int) by omega, if_true, laws_eqClue.f, Option.bind_some]
  rw [wid (show -9223372036854775808 ≤ (i : Int) + 1 by omega) zO5_13]
  exact ih (i + 1) zO5_13
theorem laws_eqClueS.refl {l : List S37} (hl : l.length ≤ 4611686018427387904) : Ev (fun k => laws_eqClueS.f k l l) true := by
 unfold laws_eqClueS.f
 simp only [if_true]
 exact laws_eqClueS.ev_l l hl l.length 0 zO5_13
theorem laws_eqPuzzle.refl {a : Int} {l : List S37} (hl : l.length ≤ 4611686018427387904) : Ev (fun k => laws_eqPuzzle.f k a l a l) true := by
 unfold laws_eqPuzzle.f
 simp only [if_true]
 exact Ev.bind (laws_eqClueS.refl hl) (by simp only [if_true]; exact Ev.now _)
def mkClueS (c : Int) (i : Nat) : S37 := ⟨c + 3 * (i : Int), c + 3 * (i : Int) + 1, c + 3 * (i : Int) + 2⟩
def MarkedClueS (c : Int) (l : List S37) (i : Nat) : Prop := ∀ j, j < i → rd_T37 l (j : Int) = mkClueS c j
theorem rd_setClueS (l : List S37) (i j : Nat) (x : S37) (h : i < l.length) : rd_T37 (l.set i x) (j : Int) = if j = i then x else rd_T37 l (j : Int) := by
 unfold rd_T37
 rw [Int.toNat_natCast, List.getD_eq_getElem?_getD, List.getD_eq_getElem?_getD]
 by_cases e : j = i
 ·subst e; rw [if_pos rfl, List.getElem?_set_self h]; rfl
 ·rw [if_neg e, List.getElem?_set_ne zO5_13]
theorem laws_markClueS.ev_l (c : Int) (hc : 0 ≤ c ∧ c ≤ 1000000) (n : Nat) (hn : n ≤ 1099511627776) (d : Nat) : ∀ (i : Nat) (l : List S37), l.length = n → i + d = n → MarkedClueS c l i → ∃ r : List S37, r.length = n ∧ MarkedClueS c r n ∧ Ev (fun k => laws_markClueS.l0 k l (c + 3 * (i : Int)) (i : Int)) (c + 3 * (n : Int), r) := by
 induction d with
 | zero =>
  intro i l hl hi hm
  obtain rfl : i = n := by omega
  refine ⟨l, hl, hm, ?_⟩
  refine Ev.succ ?_
  simp only [laws_markClueS.l0, show ¬ ((i : Int) < (l.length : Int)) by omega, if_false]
  exact Ev.now _
 | succ d ih =>
  intro i l hl hi hm
  have hlt : i < l.length := by omega
  obtain ⟨r, hr, hmr, hE⟩ := ih (i + 1) (l.set i (mkClueS c i)) (by simpa using hl) zO5_13 (fun j hj => by
   rw [rd_setClueS l i j _ hlt]
   by_cases e : j = i
   ·rw [if_pos e, e]
   ·rw [if_neg e]; exact hm j zO5_13)
  refine ⟨r, hr, hmr, ?_⟩
  refine Ev.succ ?_
  simp only [laws_markClueS.l0, show ((i : Int) < (l.length : Int)) by omega, show (0 : Int) ≤ (i : Int) by omega, if_true, Option.bind_some, Int.toNat_natCast]
  rw [wid (show -9223372036854775808 ≤ (c + 3 * (i : Int)) + 1 by omega) zO5_13, wid (show -9223372036854775808 ≤ (c + 3 * (i : Int) + 1) + 1 by omega) zO5_13, wid (show -9223372036854775808 ≤ (c + 3 * (i : Int) + 1 + 1) + 1 by omega) zO5_13, wid (show -9223372036854775808 ≤ (i : Int) + 1 by omega) zO5_13]
  have e1 : c + 3 * (i : Int) + 1 + 1 + 1 = c + 3 * ((i + 1 : Nat) : Int) := by omega
  rw [e1]
  have e2 : ∀ (x : S37) (y : S37), (l.set i x).set i y = l.set i y := fun x y => List.set_set ..
  have e3 : ∀ x : S37, rd_T37 (l.set i x) (i : Int) = x := fun x => by rw [rd_setClueS l i i x hlt, if_pos rfl]
  simp only [e2, e3]
  have e4 : (⟨c + 3 * (i : Int), c + 3 * (i : Int) + 1, c + 3 * (i : Int) + 1 + 1⟩ : S37) = mkClueS c i := by unfold mkClueS; congr 1 <;> omega
  rw [e4]
  exact hE
theorem laws_markClueS.ev (l : List S37) (c : Int) (hc : 0 ≤ c ∧ c ≤ 1000000) (hl : l.length ≤ 1099511627776) : ∃ r : List S37, r.length = l.length ∧ MarkedClueS c r r.length ∧ Ev (fun k => laws_markClueS.f k l c) (c + 3 * (l.length : Int), r) := by
 obtain ⟨r, h1, h2, h3⟩ := laws_markClueS.ev_l c hc l.length hl l.length 0 l rfl zO5_13 (fun j h => absurd h zO5_13)
 refine ⟨r, h1, by rw [h1]; exact h2, ?_⟩
 unfold laws_markClueS.f
 simpa using h3
theorem laws_heldClueS.ev_l (c : Int) (hc : 0 ≤ c ∧ c ≤ 1000000) (l : List S37) (hn : l.length ≤ 1099511627776) (hm : MarkedClueS c l l.length) (d : Nat) : ∀ i : Nat, i + d = l.length → Ev (fun k => laws_heldClueS.l0 k l (c + 3 * (i : Int)) (i : Int)) (c + 3 * (l.length : Int)) := by
 induction d with
 | zero =>
  intro i hi
  obtain rfl : i = l.length := by omega
  refine Ev.succ ?_
  simp only [laws_heldClueS.l0, show ¬ ((l.length : Int) < (l.length : Int)) by omega, if_false]
  exact Ev.now _
 | succ d ih =>
  intro i hi
  refine Ev.succ ?_
  simp only [laws_heldClueS.l0, show ((i : Int) < (l.length : Int)) by omega, show (0 : Int) ≤ (i : Int) by omega, if_true, hm i zO5_13, mkClueS]
  rw [wid (show -9223372036854775808 ≤ (c + 3 * (i : Int)) + 1 by omega) zO5_13, wid (show -9223372036854775808 ≤ (c + 3 * (i : Int) + 1) + 1 by omega) zO5_13, wid (show -9223372036854775808 ≤ (c + 3 * (i : Int) + 1 + 1) + 1 by omega) zO5_13, wid (show -9223372036854775808 ≤ (i : Int) + 1 by omega) zO5_13]
  simp only [show (c + 3 * (i : Int) + 2 = c + 3 * (i : Int) + 1 + 1) by omega, if_true]
  have e1 : c + 3 * (i : Int) + 1 + 1 + 1 = c + 3 * ((i + 1 : Nat) : Int) := by omega
  rw [e1]
  exact ih (i + 1) zO5_13
theorem laws_heldClueS.ev (l : List S37) (c : Int) (hc : 0 ≤ c ∧ c ≤ 1000000) (hn : l.length ≤ 1099511627776) (hm : MarkedClueS c l l.length) : Ev (fun k => laws_heldClueS.f k l c) (c + 3 * (l.length : Int)) := by
 unfold laws_heldClueS.f
 simpa using laws_heldClueS.ev_l c hc l hn hm l.length 0 zO5_13
def cvClue (c : S34) : S37 := ⟨c.f0, c.f1, c.f2⟩
theorem laws_toClueS.ev_l (l : List S34) (hl : l.length ≤ 11728124029610) (d : Nat) : ∀ (i : Nat) (out : List S37), i + d = l.length → out.length = l.length → (∀ j, j < i → out[j]? = (l[j]?).map cvClue) → Ev (fun k => laws_toClueS.l0 k l out (i : Int)) (l.map cvClue) := by
 induction d with
 | zero =>
  intro i out hi ho hj
  refine Ev.succ ?_
  simp only [laws_toClueS.l0, show ¬ ((i : Int) < (l.length : Int)) by omega, if_false]
  refine Ev.const ?_
  congr 1
  refine List.ext_getElem? fun j => ?_
  rw [List.getElem?_map]
  by_cases h : j < i
  ·exact hj j h
  ·rw [List.getElem?_eq_none zO5_13, List.getElem?_eq_none zO5_13]; rfl
 | succ d ih =>
  intro i out hi ho hj
  have hlt : i < l.length := by omega
  refine Ev.succ ?_
  simp only [laws_toClueS.l0, show ((i : Int) < (l.length : Int)) by omega, show (0 : Int) ≤ (i : Int) by omega, show ((i : Int) < (out.length : Int)) by omega, if_true, laws_toClue.f, Option.bind_some, Int.toNat_natCast]
  rw [wid (show -9223372036854775808 ≤ (i : Int) + 1 by omega) zO5_13]
  have := ih (i + 1) (out.set i (cvClue l[i])) zO5_13 (by simpa using ho) (fun j hj2 => ?_)
  ·refine ev_eq ?_ rfl
   have e : rd_T34 l (i : Int) = l[i] := by simp [rd_T34, List.getD_eq_getElem?_getD, List.getElem?_eq_getElem hlt]
   rw [e]
   exact this
  ·by_cases h : j = i
   ·subst h
    rw [List.getElem?_set_self zO5_13, List.getElem?_eq_getElem hlt]; rfl
   ·rw [List.getElem?_set_ne zO5_13]
    exact hj j zO5_13
theorem laws_toClueS.ev {l : List S34} (hl : l.length ≤ 11728124029610) : Ev (fun k => laws_toClueS.f k l) (l.map cvClue) := by
 unfold laws_toClueS.f
 simp only [show (0 : Int) ≤ (l.length : Int) by omega, if_true, Int.toNat_natCast, if_pos hl]
 exact laws_toClueS.ev_l l hl l.length 0 _ zO5_13 (by simp) (fun j h => absurd h zO5_13)
theorem laws_toPuzzle.ev {a : Int} {l : List S34} (hl : l.length ≤ 11728124029610) : Ev (fun k => laws_toPuzzle.f k a l) (a, l.map cvClue) := by
 unfold laws_toPuzzle.f
 exact Ev.bind (laws_toClueS.ev hl) (Ev.now _)
theorem laws_szPuzzle.eq {a : Int} {l : List S34} (hl : l.length ≤ maxLen) : laws_szPuzzle.f a l 1048576 = some (if (l.length : Int) ≤ 1048576 then 1048576 - (l.length : Int) else -1) := by
 unfold maxLen at hl
 unfold laws_szPuzzle.f laws_szClueS.f
 rw [wid (show -9223372036854775808 ≤ (1048576 : Int) - (l.length : Int) by omega) zO5_13]
 by_cases h : (l.length : Int) ≤ 1048576
 ·rw [if_neg zO5_13, if_pos h, Option.bind_some, if_neg zO5_13]
 ·rw [if_pos zO5_13, if_neg h, Option.bind_some, if_pos zO5_13]
end Go.Proofs.Ytbdjidjcmmeanaa.P

namespace Go.Proofs.Ytbdjidjcmmeanaa.Pure
open Go.RowKit Go.Proofs.YtbdjidjcmmeanaaW.PrintWords Go.Proofs.YtbdjidjcmmeanaaW.PrintLast Go.Proofs.YtbdjidjcmmeanaaW.PrintMore Go.Proofs.Ytbdjidjcmmeanaa.P
set_option linter.unusedVariables false
set_option linter.unusedSimpArgs false
theorem FnExactAddClue : ∀ (a : Int) (l : List S34) (b c d : Int), (Lit.int .i64 a).wf = true → l.length ≤ maxLen → (∀ y ∈ l, (Lit.int .i64 y.f0).wf = true ∧ (Lit.int .i64 y.f1).wf = true ∧ (Lit.int .i64 y.f2).wf = true) → (Lit.int .i64 b).wf = true → (Lit.int .i64 c).wf = true → (Lit.int .i64 d).wf = true → ∃ k, laws_FnExactAddClue.f k a l b c d = some true := fun a l b c d _ hl _ _ _ _ => by
 by_cases big : (l.length : Int) ≤ 1048576
 ·have hl2 : l.length ≤ 11728124029610 := by omega
  have hm : (l.map cvClue).length ≤ 4611686018427387904 := by rw [List.length_map]; omega
  refine Ev.rounds ?_
  unfold laws_FnExactAddClue.f
  refine Ev.bindc (laws_szPuzzle.eq hl) ?_
  simp only [if_pos big, show ¬ ((1048576 : Int) - (l.length : Int) < 0) by omega, if_false]
  refine Ev.bind (laws_toPuzzle.ev hl2) ?_
  refine Ev.bindc (show laws_toClue.f b c d = some (b, c, d) from rfl) ?_
  refine Ev.bind (spec_AddClue.ev _ _ _ _ _) ?_
  refine Ev.bind (laws_toPuzzle.ev hl2) ?_
  refine Ev.bindc (show laws_toClue.f b c d = some (b, c, d) from rfl) ?_
  refine Ev.bind (impl_AddClue.ev _ _ _ _ _) ?_
  have hn : (mAdd a (l.map cvClue) b c d).2.1.length ≤ 1099511627776 := mAdd_len _ _ _ _ _
  refine Ev.bind (laws_eqPuzzle.refl (a := (mAdd a (l.map cvClue) b c d).1) (l := (mAdd a (l.map cvClue) b c d).2.1) zO5_13) ?_
  simp only [eq_self_iff_true, if_true, bne_self_eq_false, Bool.false_eq_true, if_false]
  refine Ev.succ ?_
  simp only [laws_FnExactAddClue.j0, Bool.false_eq_true, if_false]
  refine Ev.bind (laws_toPuzzle.ev hl2) ?_
  refine Ev.bind (laws_eqPuzzle.refl hm) ?_
  simp only [if_true]
  obtain ⟨r1, _, _, hr1⟩ := laws_markClueS.ev (l.map cvClue) 1 zO5_13 (by rw [List.length_map]; omega)
  refine Ev.bind (a := (1 + 3 * ((l.map cvClue).length : Int), r1)) (by unfold laws_markPuzzle.f; exact Ev.bind hr1 (Ev.now _)) ?_
  simp only [show ¬ (1 + 3 * ((l.map cvClue).length : Int) < 0) by omega, if_false]
  refine Ev.bind (laws_eqPuzzle.refl (a := (mAdd a (l.map cvClue) b c d).1) (l := (mAdd a (l.map cvClue) b c d).2.1) zO5_13) ?_
  simp only [eq_self_iff_true, if_true, bne_self_eq_false, Bool.false_eq_true, if_false]
  refine Ev.succ ?_
  simp only [laws_FnExactAddClue.j1, Bool.false_eq_true, if_false]
  obtain ⟨r2, hr2, hm2, he2⟩ := laws_markClueS.ev (mAdd a (l.map cvClue) b c d).2.1 1 zO5_13 hn
  refine Ev.bind (a := (1 + 3 * ((mAdd a (l.map cvClue) b c d).2.1.length : Int), r2)) (by unfold laws_markPuzzle.f; exact Ev.bind he2 (Ev.now _)) ?_
  have hh := laws_heldClueS.ev r2 1 zO5_13 zO5_13 hm2
  rw [hr2] at hh
  have hh2 : Ev (fun k => laws_heldPuzzle.f k (mAdd a (l.map cvClue) b c d).1 r2 1) (1 + 3 * ((mAdd a (l.map cvClue) b c d).2.1.length : Int)) := by
   unfold laws_heldPuzzle.f
   refine Ev.bind hh ?_
   simp only [show ¬ (1 + 3 * ((mAdd a (l.map cvClue) b c d).2.1.length : Int) < 0) by omega, if_false]
   exact Ev.now _
  refine Ev.bind hh2 ?_
  simp only [show ¬ (1 + 3 * ((mAdd a (l.map cvClue) b c d).2.1.length : Int) < 0) by omega, if_false, if_true]
  refine Ev.bind (laws_toPuzzle.ev hl2) ?_
  refine Ev.bindc (show laws_toClue.f b c d = some (b, c, d) from rfl) ?_
  refine Ev.bind (impl_AddClue.ev _ _ _ _ _) ?_
  refine Ev.bind (laws_eqPuzzle.refl (a := (mAdd a (l.map cvClue) b c d).1) (l := (mAdd a (l.map cvClue) b c d).2.1) zO5_13) ?_
  simp only [eq_self_iff_true, if_true, bne_self_eq_false, Bool.false_eq_true, if_false]
  refine Ev.succ ?_
  simp only [laws_FnExactAddClue.j2, Bool.false_eq_true, if_false]
  refine Ev.bind hh2 ?_
  simp only [show ¬ (1 + 3 * ((mAdd a (l.map cvClue) b c d).2.1.length : Int) < 0) by omega, if_false, if_true]
  exact Ev.now _
 ·refine ⟨0, ?_⟩
  unfold laws_FnExactAddClue.f
  rw [laws_szPuzzle.eq hl, if_neg big]
  rfl
end Go.Proofs.Ytbdjidjcmmeanaa.Pure

namespace Go.Proofs.Ytbdjidjcmmeanaa.fnExactAddClue
open Go.ChangeShapes Go.WideShapes Go.ChangeAt Go.RowKit Go.Deep
open Go.ChangeMaps (open_string shut_string)
open Go.Proofs.YtbdjidjcmmeanaaW.PrintWords Go.Proofs.YtbdjidjcmmeanaaW.PrintLast Go.Proofs.YtbdjidjcmmeanaaW.PrintMore Go.Proofs.Ytbdjidjcmmeanaa.P
set_option linter.unusedVariables false
set_option linter.unusedSimpArgs false
theorem own : ownKnob Try.prog.godebug = none := by kernel_rfl
theorem laidOut : laidOutB Try.prog = true := by kernel_rfl
theorem cof3 : Try.prog.cellsOf 3 = 1 := by kernel_rfl
theorem cof22 : Try.prog.cellsOf 22 = 1 := by kernel_rfl
theorem cof24 : Try.prog.cellsOf 24 = 2 := by kernel_rfl
theorem cof34 : Try.prog.cellsOf 34 = 3 := by kernel_rfl
theorem C_each {α : Type} (d : Kd α) (w : World) (a : Addr) (len : Nat) (hl : len ≤ 9223372036854775807) (P : α → Prop) (h : ∀ i, i < len → ∃ (x : α) (c : List Value), P x ∧ c.length = d.sz ∧ d.K w x c ∧ ∀ j u, c[j]? = some u → w.cell? (a.add (i * d.sz + j)) = some u) : ∃ xs : List α, xs.length = len ∧ Kd.C d w (some a) len xs ∧ ∀ x ∈ xs, P x := by
 refine ⟨List.ofFn fun i : Fin len => Classical.choose (h i.1 i.2), by simp, ⟨by simp, hl, fun _ => ⟨a, rfl, fun j p hj => ?_⟩⟩, fun x hx => ?_⟩
 ·have hjl : j < len := by have := (List.getElem?_eq_some_iff.1 hj).1; simpa using this
  have hp : p = Classical.choose (h j hjl) := by rw [List.getElem?_ofFn, dif_pos hjl] at hj; exact (Option.some.inj hj).symm
  obtain ⟨c, hP, hc, hK, hcell⟩ := Classical.choose_spec (h j hjl)
  exact ⟨c, hc, by rw [hp]; exact hK, hcell⟩
 ·obtain ⟨i, rfl⟩ := (List.mem_ofFn).1 hx
  obtain ⟨c, hP, _⟩ := Classical.choose_spec (h i.1 i.2)
  exact hP
set_option maxRecDepth 100000 in
theorem open0 {H : Type} {enc : TypeId × Value → H} {W : World} {base : Nat} {v : Value} {d : DataW H} {p : List MemPlace} (hv : Value.okWide Try.prog W .any base 24 v) (h : DataW.Trod enc Try.prog W 0 (fun _ => true) true 24 v d p) :
  ∃ (a0_0 : Int) (A0_1 : Option Addr) (c0_1 : Nat) (l0_1 : List S34), v = .agg #[.int .i64 a0_0, .slice A0_1 l0_1.length c0_1] ∧ ((Lit.int .i64 a0_0).wf = true) ∧ (Kd.C k34 W A0_1 l0_1.length l0_1 ∧ l0_1.length ≤ c0_1 ∧ c0_1 ≤ maxLen ∧ (∀ y ∈ l0_1, (Lit.int .i64 y.f0).wf = true ∧ (Lit.int .i64 y.f1).wf = true ∧ (Lit.int .i64 y.f2).wf = true)) := by
 obtain ⟨cs, rfl, hsz⟩ := okWide_struct Try.underlying24 hv
 rw [cof24] at hsz
 obtain ⟨l⟩ := cs
 match l, hsz with
 | [c_0, c_1], _ =>
  obtain ⟨fuel, hf⟩ := h
  have hf : DataW.trod enc Try.prog W 0 (fun _ => true) true fuel 24 [c_0, c_1] = some (d, p) := hf
  obtain ⟨xs1, n2, _, _, _, hl3, hg4⟩ := DataW.trod_struct Try.underlying24 hf
  obtain ⟨y5, y6, rfl⟩ : ∃ y5 y6, xs1 = [y5, y6] := by match xs1, hl3 with | [y5, y6], _ => exact ⟨y5, y6, rfl⟩
  have g7 : DataW.trod enc Try.prog W 0 (fun _ => true) true n2 3 [c_0] = some y5 := by have z_ : DataW.trod enc Try.prog W 0 (fun _ => true) true n2 3 (([c_0, c_1].drop 0).take (Try.prog.cellsOf 3)) = [y5, y6][0]? := hg4 0 _ rfl; rw [cof3] at z_; exact z_
  have g8 : DataW.trod enc Try.prog W 0 (fun _ => true) true n2 22 [c_1] = some y6 := by have z_ : DataW.trod enc Try.prog W 0 (fun _ => true) true n2 22 (([c_0, c_1].drop 1).take (Try.prog.cellsOf 22)) = [y5, y6][1]? := hg4 1 _ rfl; rw [cof22] at z_; exact z_
  obtain ⟨a0_0, e9, _, w0_0⟩ := DataW.trod_int Try.underlying3 g7
  obtain rfl : c_0 = _ := by simpa using e9
  obtain ⟨A0_1, c0_1, l0_1, rfl, w0_1⟩ : ∃ A c l, c_1 = .slice A l.length c ∧ Kd.C k34 W A l.length l ∧ l.length ≤ c ∧ c ≤ maxLen ∧ (∀ y ∈ l, (Lit.int .i64 y.f0).wf = true ∧ (Lit.int .i64 y.f1).wf = true ∧ (Lit.int .i64 y.f2).wf = true) := by
   rcases open_slice Try.underlying22 g8 with ⟨hcs, _⟩ | ⟨ad, len, cap, m, n_, D_, Pl_, hcs, _, hlc, hcm, hm, _, hel⟩
   ·exact ⟨none, 0, [], by simpa using hcs, ⟨rfl, by simp, fun hp => absurd hp (by simp)⟩, by simp, by unfold maxLen; omega, by simp⟩
   ·have hlen : len ≤ 9223372036854775807 := by unfold maxLen at hcm; omega
    have each_ : ∀ i, i < len → ∃ (y : S34) (c : List Value), ((Lit.int .i64 y.f0).wf = true ∧ (Lit.int .i64 y.f1).wf = true ∧ (Lit.int .i64 y.f2).wf = true) ∧ c.length = (k34 : Kd _).sz ∧ (k34 : Kd _).K W y c ∧ ∀ j u, c[j]? = some u → W.cell? (ad.add (i * (k34 : Kd _).sz + j)) = some u := by
     intro i hi
     obtain ⟨cs_, hc_, ht_⟩ := hel i (by simp only [if_true] at hm; omega)
     rw [cof34] at hc_
     obtain ⟨hb_, hn_, hat_⟩ := World.cells?_some hc_
     obtain ⟨u11, u12, u13, rfl⟩ : ∃ u11 u12 u13, cs_ = [u11, u12, u13] := by match cs_, hn_ with | [u11, u12, u13], _ => exact ⟨u11, u12, u13, rfl⟩
     obtain ⟨xs14, n15, _, _, _, hl16, hg17⟩ := DataW.trod_struct Try.underlying34 ht_
     obtain ⟨y18, y19, y20, rfl⟩ : ∃ y18 y19 y20, xs14 = [y18, y19, y20] := by match xs14, hl16 with | [y18, y19, y20], _ => exact ⟨y18, y19, y20, rfl⟩
     have g21 : DataW.trod enc Try.prog W 0 (fun _ => true) true n15 3 [u11] = some y18 := by have z_ : DataW.trod enc Try.prog W 0 (fun _ => true) true n15 3 (([u11, u12, u13].drop 0).take (Try.prog.cellsOf 3)) = [y18, y19, y20][0]? := hg17 0 _ rfl; rw [cof3] at z_; exact z_
     have g22 : DataW.trod enc Try.prog W 0 (fun _ => true) true n15 3 [u12] = some y19 := by have z_ : DataW.trod enc Try.prog W 0 (fun _ => true) true n15 3 (([u11, u12, u13].drop 1).take (Try.prog.cellsOf 3)) = [y18, y19, y20][1]? := hg17 1 _ rfl; rw [cof3] at z_; exact z_
     have g23 : DataW.trod enc Try.prog W 0 (fun _ => true) true n15 3 [u13] = some y20 := by have z_ : DataW.trod enc Try.prog W 0 (fun _ => true) true n15 3 (([u11, u12, u13].drop 2).take (Try.prog.cellsOf 3)) = [y18, y19, y20][2]? := hg17 2 _ rfl; rw [cof3] at z_; exact z_
     obtain ⟨a0_1e0, e24, _, w0_1e0⟩ := DataW.trod_int Try.underlying3 g21
     obtain rfl : u11 = _ := by simpa using e24
     obtain ⟨a0_1e1, e25, _, w0_1e1⟩ := DataW.trod_int Try.underlying3 g22
     obtain rfl : u12 = _ := by simpa using e25
     obtain ⟨a0_1e2, e26, _, w0_1e2⟩ := DataW.trod_int Try.underlying3 g23
     obtain rfl : u13 = _ := by simpa using e26
     refine ⟨(⟨a0_1e0, a0_1e1, a0_1e2⟩ : S34), [.int .i64 a0_1e0, .int .i64 a0_1e1, .int .i64 a0_1e2], ⟨w0_1e0, w0_1e1, w0_1e2⟩, rfl, (k34_mk W _), fun j u hu => ?_⟩
     have hj : j < 3 := by have := (List.getElem?_eq_some_iff.1 hu).1; simpa using this
     have h1_ := hat_ j hj
     have hs_ : (k34 : Kd _).sz = 3 := rfl
     rw [hs_, ← Go.Deep.add_add, h1_]; exact hu
    obtain ⟨xs_, hx_, hC_, hP_⟩ := C_each k34 W ad len hlen (fun y => (Lit.int .i64 y.f0).wf = true ∧ (Lit.int .i64 y.f1).wf = true ∧ (Lit.int .i64 y.f2).wf = true) each_
    exact ⟨some ad, cap, xs_, by rw [hx_]; simpa using hcs, by rw [hx_]; exact hC_, by omega, hcm, hP_⟩
  exact ⟨_, _, _, _, rfl, w0_0, w0_1⟩
set_option maxRecDepth 100000 in
theorem open1 {H : Type} {enc : TypeId × Value → H} {W : World} {base : Nat} {v : Value} {d : DataW H} {p : List MemPlace} (hv : Value.okWide Try.prog W .any base 34 v) (h : DataW.Trod enc Try.prog W 0 (fun _ => true) true 34 v d p) :
  ∃ (a1_0 : Int) (a1_1 : Int) (a1_2 : Int), v = .agg #[.int .i64 a1_0, .int .i64 a1_1, .int .i64 a1_2] ∧ ((Lit.int .i64 a1_0).wf = true) ∧ ((Lit.int .i64 a1_1).wf = true) ∧ ((Lit.int .i64 a1_2).wf = true) := by
 obtain ⟨cs, rfl, hsz⟩ := okWide_struct Try.underlying34 hv
 rw [cof34] at hsz
 obtain ⟨l⟩ := cs
 match l, hsz with
 | [c_0, c_1, c_2], _ =>
  obtain ⟨fuel, hf⟩ := h
  have hf : DataW.trod enc Try.prog W 0 (fun _ => true) true fuel 34 [c_0, c_1, c_2] = some (d, p) := hf
  obtain ⟨xs27, n28, _, _, _, hl29, hg30⟩ := DataW.trod_struct Try.underlying34 hf
  obtain ⟨y31, y32, y33, rfl⟩ : ∃ y31 y32 y33, xs27 = [y31, y32, y33] := by match xs27, hl29 with | [y31, y32, y33], _ => exact ⟨y31, y32, y33, rfl⟩
  have g34 : DataW.trod enc Try.prog W 0 (fun _ => true) true n28 3 [c_0] = some y31 := by have z_ : DataW.trod enc Try.prog W 0 (fun _ => true) true n28 3 (([c_0, c_1, c_2].drop 0).take (Try.prog.cellsOf 3)) = [y31, y32, y33][0]? := hg30 0 _ rfl; rw [cof3] at z_; exact z_
  have g35 : DataW.trod enc Try.prog W 0 (fun _ => true) true n28 3 [c_1] = some y32 := by have z_ : DataW.trod enc Try.prog W 0 (fun _ => true) true n28 3 (([c_0, c_1, c_2].drop 1).take (Try.prog.cellsOf 3)) = [y31, y32, y33][1]? := hg30 1 _ rfl; rw [cof3] at z_; exact z_
  have g36 : DataW.trod enc Try.prog W 0 (fun _ => true) true n28 3 [c_2] = some y33 := by have z_ : DataW.trod enc Try.prog W 0 (fun _ => true) true n28 3 (([c_0, c_1, c_2].drop 2).take (Try.prog.cellsOf 3)) = [y31, y32, y33][2]? := hg30 2 _ rfl; rw [cof3] at z_; exact z_
  obtain ⟨a1_0, e37, _, w1_0⟩ := DataW.trod_int Try.underlying3 g34
  obtain rfl : c_0 = _ := by simpa using e37
  obtain ⟨a1_1, e38, _, w1_1⟩ := DataW.trod_int Try.underlying3 g35
  obtain rfl : c_1 = _ := by simpa using e38
  obtain ⟨a1_2, e39, _, w1_2⟩ := DataW.trod_int Try.underlying3 g36
  obtain rfl : c_2 = _ := by simpa using e39
  exact ⟨_, _, _, rfl, w1_0, w1_1, w1_2⟩
set_option maxRecDepth 100000 in
theorem lifted (os : Os) (started : os.Started) (H : Type) (enc : TypeId × Value → H) :
  ReturnsInHanded {} Try.checked os 4 .any (Rows.fnExactAddClueSpec.pre6 enc Try.prog Try.f4 Rows.fnExactAddClueRow.domain false) (Rows.fnExactAddClueSpec.post enc Try.prog Try.f4 false true false false) := by
 refine returnsInHanded_of_change_sized (C := Try.checked) own started (by kernel_rfl) Try.func4
  (ChangeSpec.witness6 (enc := enc) (C := Try.checked) false ⟨#[], #[.agg #[.int .i64 0, .slice none 0 0], .agg #[.int .i64 0, .int .i64 0, .int .i64 0]], []⟩ 8 (by kernel_rfl) (by kernel_rfl) (by kernel_rfl) (by kernel_rfl)) ?_
 intro W base args ds gs before hval0 hW hcnd hsz0 _
 have hsz : (DataW.weightsEach Try.prog (Try.f4.params.toList ++ Rows.fnExactAddClueSpec.plain.varTypes Try.prog) (ds ++ gs)).all (· ≤ reachBytes) = true := hsz0
 have hval : ∀ (j : Nat) t v, Try.f4.params[j]? = some t → args[j]? = some v → Value.okWide Try.prog W .any base t v := hval0
 have hW' := hW
 obtain ⟨p, q, hA0, hV, rfl, hfz, hnd⟩ := hW
 have hA : DataW.TrodAll enc Try.prog W 0 (fun _ => true) true Try.f4.params.toList args.toList ds p := hA0
 rw [Try.params4] at hA hval hsz
 obtain ⟨v0, vs0, d0, ds0, p0, q0, hargs, rfl, rfl, h0, r0⟩ := trodAll_cons hA
 obtain ⟨v1, vs1, d1, ds1, p1, q1, rfl, rfl, rfl, h1, r1⟩ := trodAll_cons r0
 obtain ⟨rfl, rfl, rfl⟩ := trodAll_nil r1
 obtain rfl : args = #[v0, v1] := by cases args; simp_all
 obtain ⟨rfl, rfl⟩ := trodVars_none hV
 have k0 := h0
 have lt0 : ∀ x ∈ p0, x.block < W.heap.size := by obtain ⟨m, hm⟩ := k0; exact DataW.trod_lt m _ _ _ hm
 obtain ⟨a0_0, A0_1, c0_1, l0_1, rfl, w0_0, ⟨hr0_1, hc0_1, hm0_1, w0_1⟩⟩ := open0 (hval 0 24 v0 rfl rfl) h0
 have k1 := h1
 have lt1 : ∀ x ∈ p1, x.block < W.heap.size := by obtain ⟨m, hm⟩ := k1; exact DataW.trod_lt m _ _ _ hm
 obtain ⟨a1_0, a1_1, a1_2, rfl, w1_0, w1_1, w1_2⟩ := open1 (hval 1 34 v1 rfl rfl) h1
 clear hA0 hval0 hsz0 hsz
 obtain ⟨kk, hk⟩ := Pure.FnExactAddClue a0_0 l0_1 a1_0 a1_1 a1_2 w0_0 (Nat.le_trans hc0_1 hm0_1) w0_1 w1_0 w1_1 w1_2
 refine (P.laws_FnExactAddClue.calls kk a0_0 _ _ l0_1 a1_0 a1_1 a1_2 true W hr0_1 hc0_1 hk rfl).mono fun e W' ⟨he, bel0⟩ => ?_
 have bel : Below W.heap.size W W' := bel0
 subst he
 exact ⟨_, rfl, _, _, _, [], _, [], hW', trodAll_mk1 (shut_bool Try.underlying4 _), (trodAll_cons_mk (Below.trod laidOut (by kernel_rfl) (of_decide_eq_true (by kernel_rfl)) k0 bel lt0) (trodAll_cons_mk (Below.trod laidOut (by kernel_rfl) (of_decide_eq_true (by kernel_rfl)) k1 bel lt1) trodAll_mk0)), rfl, bel.frame _, fun h => by cases h⟩
theorem over : Rows.fnExactAddClueRow.holds Try.pinned (OpenSpec.ofChange Rows.fnExactAddClueSpec) :=
 OpenClaim.holds_of_wide 4 Try.f4 rfl rfl rfl rfl rfl rfl rfl ⟨rfl, rfl, rfl, rfl, rfl⟩ rfl rfl rfl rfl rfl (by kernel_rfl) Try.func4 (by kernel_rfl)
  (of_decide_eq_true (by kernel_rfl)) (by unfold Func.isWrapper; first | (rw [if_pos (by decide +kernel)]; kernel_rfl) | (rw [if_neg (by decide +kernel)]; exact ⟨rfl, rfl⟩))
  (fun os started H enc _ => lifted os started H enc)
theorem proved : Rows.FnExactAddClueSaid := over
end Go.Proofs.Ytbdjidjcmmeanaa.fnExactAddClue
namespace Go.Proofs.Ytbdjidjcmmeanaa
/-- The row, under a short name, for the claim. -/
theorem fnExactAddClue_holds : Rows.FnExactAddClueSaid := fnExactAddClue.proved
end Go.Proofs.Ytbdjidjcmmeanaa
