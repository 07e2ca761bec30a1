/- The law FnExactHarderPuzzle is proved: a call of it returns true and leaves its arguments as they were; and what this needs. Every input that the given rows speak of; nothing else is asked. -/
import Derived.Test.YthioojdannlhiaaNFnExactHarderPuzzle0
import Derived.Test.YthioojdannlhiaaNFnExactHarderPuzzle1
import Derived.Test.YthioojdannlhiaaNFnExactHarderPuzzle2
namespace Go.Proofs.Ythioojdannlhiaa.P
open Go.RowKit Go.Proofs.YthioojdannlhiaaW.PrintWords Go.Proofs.YthioojdannlhiaaW.PrintLast Go.Proofs.YthioojdannlhiaaW.PrintMore
attribute [local go_sem] max2_int min2_int max_two min_two max_three min_three max_four min_four   -- for this text's walks alone
set_option linter.unusedVariables false
set_option linter.unusedSimpArgs false

/-! ### laws_FnExactHarderPuzzle: function 3 -/
mutual
def laws_FnExactHarderPuzzle.j0 : Nat → Bool → Bool → Bool → Int → List (S103) → Int → List (S43) → Int → List (S43) → Int → List (S43) → Option (Bool)
 | 0, _, _, _, _, _, _, _, _, _, _, _ => none
 | k + 1, x5, x8, x40, x302000, x302001, x313000, x313001, x318000, x318001, x324000, x324001 => if x40 = true then (some false) else ((laws_toPuzzle.f k x302000 x302001).bind fun bt325 => ((laws_eqPuzzle.f k x318000 x318001 bt325.1 bt325.2).bind fun t329 => (if t329 = true then ((laws_markPuzzle.f k x318000 x318001 1).bind fun bt330 => (if bt330.1 < 0 then (laws_FnExactHarderPuzzle.j1 k x5 true x302000 x302001 x313000 x313001 x324000 x324001) else ((laws_eqPuzzle.f k x324000 x324001 x313000 x313001).bind fun t332 => (if t332 = true then (laws_FnExactHarderPuzzle.j1 k x5 (x8 != x5) x302000 x302001 x313000 x313001 x324000 x324001) else (laws_FnExactHarderPuzzle.j1 k x5 true x302000 x302001 x313000 x313001 x324000 x324001))))) else (some false))))
def laws_FnExactHarderPuzzle.j1 : Nat → Bool → Bool → Int → List (S103) → Int → List (S43) → Int → List (S43) → Option (Bool)
 | 0, _, _, _, _, _, _, _, _ => none
 | k + 1, x5, x61, x302000, x302001, x313000, x313001, x324000, x324001 => if x61 = true then (some false) else ((laws_markPuzzle.f k x324000 x324001 1).bind fun bt333 => ((laws_heldPuzzle.f k x324000 bt333.2 1).bind fun t335 => (if t335 < 0 then (some false) else (if t335 = bt333.1 then ((laws_toPuzzle.f k x302000 x302001).bind fun bt336 => ((impl_HarderPuzzle.f k bt336.1 bt336.2).bind fun bt340 => ((laws_eqPuzzle.f k bt340.1 bt340.2.1 x313000 x313001).bind fun t346 => (if t346 = true then (laws_FnExactHarderPuzzle.j2 k bt333.1 (bt340.2.2 != x5) x324000 bt333.2) else (laws_FnExactHarderPuzzle.j2 k bt333.1 true x324000 bt333.2))))) else (some false)))))
def laws_FnExactHarderPuzzle.j2 : Nat → Int → Bool → Int → List (S43) → Option (Bool)
 | 0, _, _, _, _ => none
 | k + 1, x10, x87, x324000, x324001 => if x87 = true then (some false) else ((laws_heldPuzzle.f k x324000 x324001 1).bind fun t347 => (if t347 < 0 then (some false) else (if t347 = x10 then (some true) else (some false))))
end
def laws_FnExactHarderPuzzle.f (k : Nat) (a0_0 : Int) (l0_1 : List (S103)) : Option (Bool) := (laws_szPuzzle.f a0_0 l0_1 1048576).bind fun t302 => (if t302 < 0 then (some true) else ((laws_toPuzzle.f k a0_0 l0_1).bind fun bt303 => ((spec_HarderPuzzle.f k bt303.1 bt303.2).bind fun bt307 => ((laws_toPuzzle.f k a0_0 l0_1).bind fun bt313 => ((impl_HarderPuzzle.f k bt313.1 bt313.2).bind fun bt318 => ((laws_eqPuzzle.f k bt318.1 bt318.2.1 bt307.1 bt307.2.1).bind fun t324 => (if t324 = true then (laws_FnExactHarderPuzzle.j0 k bt307.2.2 bt318.2.2 (bt318.2.2 != bt307.2.2) a0_0 l0_1 bt307.1 bt307.2.1 bt313.1 bt313.2 bt318.1 bt318.2.1) else (laws_FnExactHarderPuzzle.j0 k bt307.2.2 bt318.2.2 true a0_0 l0_1 bt307.1 bt307.2.1 bt313.1 bt313.2 bt318.1 bt318.2.1))))))))
set_option maxHeartbeats 8000000 in
set_option maxRecDepth 100000 in
theorem laws_FnExactHarderPuzzle.calls (k : Nat) (a0_0 : Int) (A0_1 : Option Addr) (c0_1 : Nat) (l0_1 : List (S103)) (r : Bool) (w : World) (hr0_1 : Kd.C k103 w A0_1 l0_1.length l0_1) (hc0_1 : l0_1.length ≤ c0_1) (h : laws_FnExactHarderPuzzle.f k a0_0 l0_1 = some r) (hr_ : r = true) :
  Calls Try.prog 3 #[.agg #[.int .i64 a0_0, .slice A0_1 l0_1.length c0_1]] w fun e w' => e = .returned (.bool r) ∧ Below w.heap.size w w' := by
 have HR_ := Aside0.mk hr_
 clear hr_; have hu24 := Try.underlying24; have hu28 := Try.underlying28
 have HR0_1 := Aside0.mk hr0_1
 have HC0_1 := Aside0.mk hc0_1
 clear hr0_1 hc0_1
 have HB := Aside0.mk (Below.refl w.heap.size w)
 have H : ((laws_szPuzzle.f a0_0 l0_1 1048576).bind fun t302 => (if t302 < 0 then (some true) else ((laws_toPuzzle.f k a0_0 l0_1).bind fun bt303 => ((spec_HarderPuzzle.f k bt303.1 bt303.2).bind fun bt307 => ((laws_toPuzzle.f k a0_0 l0_1).bind fun bt313 => ((impl_HarderPuzzle.f k bt313.1 bt313.2).bind fun bt318 => ((laws_eqPuzzle.f k bt318.1 bt318.2.1 bt307.1 bt307.2.1).bind fun t324 => (if t324 = true then (laws_FnExactHarderPuzzle.j0 k bt307.2.2 bt318.2.2 (bt318.2.2 != bt307.2.2) a0_0 l0_1 bt307.1 bt307.2.1 bt313.1 bt313.2 bt318.1 bt318.2.1) else (laws_FnExactHarderPuzzle.j0 k bt307.2.2 bt318.2.2 true a0_0 l0_1 bt307.1 bt307.2.1 bt313.1 bt313.2 bt318.1 bt318.2.1))))))))) = some r := h
 clear h; replace H := Option.bind_eq_some_iff.mp H
 obtain ⟨t302, A20, H⟩ := H
 replace H : (if t302 < 0 then (some true) else ((laws_toPuzzle.f k a0_0 l0_1).bind fun bt303 => ((spec_HarderPuzzle.f k bt303.1 bt303.2).bind fun bt307 => ((laws_toPuzzle.f k a0_0 l0_1).bind fun bt313 => ((impl_HarderPuzzle.f k bt313.1 bt313.2).bind fun bt318 => ((laws_eqPuzzle.f k bt318.1 bt318.2.1 bt307.1 bt307.2.1).bind fun t324 => (if t324 = true then (laws_FnExactHarderPuzzle.j0 k bt307.2.2 bt318.2.2 (bt318.2.2 != bt307.2.2) a0_0 l0_1 bt307.1 bt307.2.1 bt313.1 bt313.2 bt318.1 bt318.2.1) else (laws_FnExactHarderPuzzle.j0 k bt307.2.2 bt318.2.2 true a0_0 l0_1 bt307.1 bt307.2.1 bt313.1 bt313.2 bt318.1 bt318.2.1)))))))) = some r := H
 have A2 := Aside0.mk A20
 clear A20
 by_cases c3 : t302 < 0
 ·rw [if_pos c3] at H
  have c3b0 : decide (t302 < 0) = true := decide_eq_true c3; clear c3
  obtain rfl := Option.some.inj H
  go_enter Try.func3, Try.ntmps3
  go_wp2_with (first | ((with_reducible refine gate_dst (N := 1) rfl ?_); refine box_event ?hg (N := 1) ?hd (cs := #[.int .i64 a0_0, .slice A0_1 l0_1.length c0_1]) (t := 24) ?hr ?_; (case hd => rfl); (case hg => rfl); (case hr => first | (go_simp; done) | (go_simp; rfl)); intro gb301 hg w4 hbox hb; have n0_ := Aside0.mk (below_step (by repeat (first | (with_reducible first | exact HB.out | apply below_alloc | apply pw_below_drewN | apply below_drew1) | exact HB.out)) hb); have n1_ := Aside0.mk (hbox); have n2_ := Aside0.mk ((by rw [hg]; exact (below_size (by repeat (first | (with_reducible first | exact HB.out | apply below_alloc | apply pw_below_drewN | apply below_drew1) | exact HB.out))) : w.heap.size ≤ gb301)); have n3_ := Aside0.mk ((by rw [hg]; exact (below_size (by repeat (first | (with_reducible first | exact HB.out | apply below_alloc | apply pw_below_drewN | apply below_drew1) | exact HB.out))) : w.heap.size ≤ gb301)); clear HB; have HB := n0_; have BK301 := n1_; have GW301 := n2_; have GE301 := n3_; clear n0_ n1_ n2_ n3_; clear hb hbox hg; have hcz5_0 : w4.cell? ⟨gb301, 0, none⟩ = some (.int .i64 a0_0) := (blk_cell BK301.out 0).trans rfl; have hcz5_1 : w4.cell? ⟨gb301, 1, none⟩ = some (.slice A0_1 l0_1.length c0_1) := (blk_cell BK301.out 1).trans rfl; have hfz5_0 := blk_frozen BK301.out 0; have hfz5_1 := blk_frozen BK301.out 1) | ((with_reducible refine gate_callee (f := 7) rfl ?_); refine goesL_ (some 16) rfl rfl Try.func7 (by kernel_rfl) rfl #[.agg #[.int .i64 a0_0, .slice A0_1 l0_1.length c0_1], .int .i64 1048576] rfl (by (try simp only [List.map_toArray, List.map_cons, List.map_nil]); first | done | rfl | (simp only [List.length_drop, List.length_take]; rfl)) ?_; (with_reducible refine (laws_szPuzzle.calls a0_0 _ _ l0_1 1048576 t302 _ ?side1 ?side2 A2.out).mono ?_); (case side1 => repeat (first | exact (Kd.C_below HR0_1.out HB.out) | (with_reducible refine Kd.C_alloc ?_ _) | (with_reducible refine Kd.C_drewN ?_ _) | (with_reducible refine Kd.C_drew ?_))); (case side2 => exact HC0_1.out); rintro e w6 ⟨rfl, hb⟩; refine ⟨_, rfl, ?_⟩; have n0_ := Aside0.mk (blk_below (g := gb301) (o := .cells #[.int .i64 a0_0, .slice A0_1 l0_1.length c0_1] 24 (0, 0)) (by (with_reducible repeat (first | refine blk_drewN ?_ _ | refine blk_drew ?_ | refine blk_alloc ?_ _)); exact BK301.out) hb); have n1_ := Aside0.mk (below_step (by repeat (first | (with_reducible first | exact HB.out | apply below_alloc | apply pw_below_drewN | apply below_drew1 | refine below_set ?_ GE301.out) | exact HB.out)) hb); clear BK301; clear HB; have BK301 := n0_; have HB := n1_; clear n0_ n1_; (try clear hb); (try clear hb2); (try clear hk); (try clear hi)))
  go_ret
  exact ⟨by first | rfl | (simp [errW_none, errW_some] <;> rfl) | (simp [*, errW_none, errW_some] <;> rfl), by repeat (first | (with_reducible first | exact HB.out | apply below_alloc | apply pw_below_drewN | apply below_drew1 | refine below_set ?_ GE301.out) | exact HB.out)⟩
 ·rw [if_neg c3] at H
  have c3b0 : decide (t302 < 0) = false := decide_eq_false c3; clear c3; replace H := Option.bind_eq_some_iff.mp H
  obtain ⟨⟨t303, t304⟩, A70, H⟩ := H
  replace H : ((spec_HarderPuzzle.f k t303 t304).bind fun bt307 => ((laws_toPuzzle.f k a0_0 l0_1).bind fun bt313 => ((impl_HarderPuzzle.f k bt313.1 bt313.2).bind fun bt318 => ((laws_eqPuzzle.f k bt318.1 bt318.2.1 bt307.1 bt307.2.1).bind fun t324 => (if t324 = true then (laws_FnExactHarderPuzzle.j0 k bt307.2.2 bt318.2.2 (bt318.2.2 != bt307.2.2) a0_0 l0_1 bt307.1 bt307.2.1 bt313.1 bt313.2 bt318.1 bt318.2.1) else (laws_FnExactHarderPuzzle.j0 k bt307.2.2 bt318.2.2 true a0_0 l0_1 bt307.1 bt307.2.1 bt313.1 bt313.2 bt318.1 bt318.2.1)))))) = some r := H
  have A7 := Aside0.mk A70
  clear A70; replace H := Option.bind_eq_some_iff.mp H
  obtain ⟨⟨t307, t308, t311⟩, A80, H⟩ := H
  replace H : ((laws_toPuzzle.f k a0_0 l0_1).bind fun bt313 => ((impl_HarderPuzzle.f k bt313.1 bt313.2).bind fun bt318 => ((laws_eqPuzzle.f k bt318.1 bt318.2.1 t307 t308).bind fun t324 => (if t324 = true then (laws_FnExactHarderPuzzle.j0 k t311 bt318.2.2 (bt318.2.2 != t311) a0_0 l0_1 t307 t308 bt313.1 bt313.2 bt318.1 bt318.2.1) else (laws_FnExactHarderPuzzle.j0 k t311 bt318.2.2 true a0_0 l0_1 t307 t308 bt313.1 bt313.2 bt318.1 bt318.2.1))))) = some r := H
  have A8 := Aside0.mk A80
  clear A80; replace H := Option.bind_eq_some_iff.mp H
  obtain ⟨⟨t313, t314⟩, A90, H⟩ := H
  replace H : ((impl_HarderPuzzle.f k t313 t314).bind fun bt318 => ((laws_eqPuzzle.f k bt318.1 bt318.2.1 t307 t308).bind fun t324 => (if t324 = true then (laws_FnExactHarderPuzzle.j0 k t311 bt318.2.2 (bt318.2.2 != t311) a0_0 l0_1 t307 t308 t313 t314 bt318.1 bt318.2.1) else (laws_FnExactHarderPuzzle.j0 k t311 bt318.2.2 true a0_0 l0_1 t307 t308 t313 t314 bt318.1 bt318.2.1)))) = some r := H
  have A9 := Aside0.mk A90
  clear A90; replace H := Option.bind_eq_some_iff.mp H
  obtain ⟨⟨t318, t319, t322⟩, A100, H⟩ := H
  replace H : ((laws_eqPuzzle.f k t318 t319 t307 t308).bind fun t324 => (if t324 = true then (laws_FnExactHarderPuzzle.j0 k t311 t322 (t322 != t311) a0_0 l0_1 t307 t308 t313 t314 t318 t319) else (laws_FnExactHarderPuzzle.j0 k t311 t322 true a0_0 l0_1 t307 t308 t313 t314 t318 t319))) = some r := H
  have A10 := Aside0.mk A100
  clear A100
  have HC11 := Aside0.mk H
  clear H
  go_enter Try.func3, Try.ntmps3
  go_upto_region 8 with (first | ((with_reducible refine gate_dst (N := 1) rfl ?_); refine box_event ?hg (N := 1) ?hd (cs := #[.int .i64 a0_0, .slice A0_1 l0_1.length c0_1]) (t := 24) ?hr ?_; (case hd => rfl); (case hg => rfl); (case hr => first | (go_simp; done) | (go_simp; rfl)); intro gb301 hg w12 hbox hb; have n0_ := Aside0.mk (below_step (by repeat (first | (with_reducible first | exact HB.out | apply below_alloc | apply pw_below_drewN | apply below_drew1) | exact HB.out)) hb); have n1_ := Aside0.mk (hbox); have n2_ := Aside0.mk ((by rw [hg]; exact (below_size (by repeat (first | (with_reducible first | exact HB.out | apply below_alloc | apply pw_below_drewN | apply below_drew1) | exact HB.out))) : w.heap.size ≤ gb301)); have n3_ := Aside0.mk ((by rw [hg]; exact (below_size (by repeat (first | (with_reducible first | exact HB.out | apply below_alloc | apply pw_below_drewN | apply below_drew1) | exact HB.out))) : w.heap.size ≤ gb301)); clear HB; have HB := n0_; have BK301 := n1_; have GW301 := n2_; have GE301 := n3_; clear n0_ n1_ n2_ n3_; clear hb hbox hg; have hcz13_0 : w12.cell? ⟨gb301, 0, none⟩ = some (.int .i64 a0_0) := (blk_cell BK301.out 0).trans rfl; have hcz13_1 : w12.cell? ⟨gb301, 1, none⟩ = some (.slice A0_1 l0_1.length c0_1) := (blk_cell BK301.out 1).trans rfl; have hfz13_0 := blk_frozen BK301.out 0; have hfz13_1 := blk_frozen BK301.out 1) | ((with_reducible refine gate_callee (f := 7) rfl ?_); refine goesL_ (some 16) rfl rfl Try.func7 (by kernel_rfl) rfl #[.agg #[.int .i64 a0_0, .slice A0_1 l0_1.length c0_1], .int .i64 1048576] rfl (by (try simp only [List.map_toArray, List.map_cons, List.map_nil]); first | done | rfl | (simp only [List.length_drop, List.length_take]; rfl)) ?_; (with_reducible refine (laws_szPuzzle.calls a0_0 _ _ l0_1 1048576 t302 _ ?side1 ?side2 A2.out).mono ?_); (case side1 => repeat (first | exact (Kd.C_below HR0_1.out HB.out) | (with_reducible refine Kd.C_alloc ?_ _) | (with_reducible refine Kd.C_drewN ?_ _) | (with_reducible refine Kd.C_drew ?_))); (case side2 => exact HC0_1.out); rintro e w14 ⟨rfl, hb⟩; refine ⟨_, rfl, ?_⟩; have n0_ := Aside0.mk (blk_below (g := gb301) (o := .cells #[.int .i64 a0_0, .slice A0_1 l0_1.length c0_1] 24 (0, 0)) (by (with_reducible repeat (first | refine blk_drewN ?_ _ | refine blk_drew ?_ | refine blk_alloc ?_ _)); exact BK301.out) hb); have n1_ := Aside0.mk (below_step (by repeat (first | (with_reducible first | exact HB.out | apply below_alloc | apply pw_below_drewN | apply below_drew1 | refine below_set ?_ GE301.out) | exact HB.out)) hb); clear BK301; clear HB; have BK301 := n0_; have HB := n1_; clear n0_ n1_; (try clear hb); (try clear hb2); (try clear hk); (try clear hi); have hcz15_0 : w14.cell? ⟨gb301, 0, none⟩ = some (.int .i64 a0_0) := (blk_cell BK301.out 0).trans rfl; have hcz15_1 : w14.cell? ⟨gb301, 1, none⟩ = some (.slice A0_1 l0_1.length c0_1) := (blk_cell BK301.out 1).trans rfl; have hfz15_0 := blk_frozen BK301.out 0; have hfz15_1 := blk_frozen BK301.out 1) | ((with_reducible refine gate_callee (f := 9) rfl ?_); refine goesL_ (some 21) rfl rfl Try.func9 (by kernel_rfl) rfl #[.agg #[.int .i64 a0_0, .slice A0_1 l0_1.length c0_1]] rfl (by (try simp only [List.map_toArray, List.map_cons, List.map_nil]); first | done | rfl | (simp only [List.length_drop, List.length_take]; rfl)) ?_; (with_reducible refine (laws_toPuzzle.calls k a0_0 _ _ l0_1 t303 t304 _ ?side1 ?side2 A7.out).mono ?_); (case side1 => repeat (first | exact (Kd.C_below HR0_1.out HB.out) | (with_reducible refine Kd.C_alloc ?_ _) | (with_reducible refine Kd.C_drewN ?_ _) | (with_reducible refine Kd.C_drew ?_))); (case side2 => exact HC0_1.out); rintro e w16 ⟨v305, rfl, ho0, hb⟩; refine ⟨_, rfl, ?_⟩; have n0_ := Aside0.mk (Kd.R_lower ho0 (below_size (by repeat (first | (with_reducible first | exact HB.out | apply below_alloc | apply pw_below_drewN | apply below_drew1 | refine below_set ?_ GE301.out) | exact HB.out)))); have n1_ := Aside0.mk (blk_below (g := gb301) (o := .cells #[.int .i64 a0_0, .slice A0_1 l0_1.length c0_1] 24 (0, 0)) (by (with_reducible repeat (first | refine blk_drewN ?_ _ | refine blk_drew ?_ | refine blk_alloc ?_ _)); exact BK301.out) hb); have n2_ := Aside0.mk (below_step (by repeat (first | (with_reducible first | exact HB.out | apply below_alloc | apply pw_below_drewN | apply below_drew1 | refine below_set ?_ GE301.out) | exact HB.out)) hb); clear BK301; clear HB; have HO306 := n0_; have BK301 := n1_; have HB := n2_; clear n0_ n1_ n2_; (try clear hb); (try clear hb2); (try clear hk); (try clear hi); (try clear ho0); obtain ⟨Ao17, co17, eo17⟩ := Kd.R_slice HO306.out; subst eo17) | ((with_reducible refine gate_callee (f := 8) rfl ?_); refine goesL_ (some 22) rfl rfl Try.func8 (by kernel_rfl) rfl #[.agg #[.int .i64 t303, .slice Ao17 t304.length co17]] rfl (by (try simp only [List.map_toArray, List.map_cons, List.map_nil]); first | done | rfl | (simp only [List.length_drop, List.length_take]; rfl)) ?_; (with_reducible refine (spec_HarderPuzzle.calls k t303 _ _ t304 t307 t308 t311 _ ?side1 ?side2 A8.out).mono ?_); (case side1 => repeat (first | exact (Kd.R_reads' HO306.out).2.2 | (with_reducible refine Kd.C_alloc ?_ _) | (with_reducible refine Kd.C_drewN ?_ _) | (with_reducible refine Kd.C_drew ?_))); (case side2 => exact (Kd.R_reads' HO306.out).2.1); rintro e w18 ⟨v309, rfl, ho0, hb⟩; refine ⟨_, rfl, ?_⟩; have n0_ := Aside0.mk (Kd.R_elder' (by (with_reducible repeat (first | apply Kd.R_alloc | apply Kd.R_drewN | apply Kd.R_drew)); exact HO306.out) (Kd.R_base ho0) hb); have n1_ := Aside0.mk (Kd.R_lower (Kd.R_new' ho0 (Kd.R_lt (by (with_reducible repeat (first | apply Kd.R_alloc | apply Kd.R_drewN | apply Kd.R_drew)); exact HO306.out))) (below_size (by repeat (first | (with_reducible first | exact HB.out | apply below_alloc | apply pw_below_drewN | apply below_drew1 | refine below_set ?_ GE301.out) | exact HB.out)))); have n2_ := Aside0.mk (blk_below (g := gb301) (o := .cells #[.int .i64 a0_0, .slice A0_1 l0_1.length c0_1] 24 (0, 0)) (by (with_reducible repeat (first | refine blk_drewN ?_ _ | refine blk_drew ?_ | refine blk_alloc ?_ _)); exact BK301.out) hb); have n3_ := Aside0.mk (below_step (by repeat (first | (with_reducible first | exact HB.out | apply below_alloc | apply pw_below_drewN | apply below_drew1 | refine below_set ?_ GE301.out) | exact HB.out)) hb); clear HO306; clear BK301; clear HB; have HO306 := n0_; have HO310 := n1_; have BK301 := n2_; have HB := n3_; clear n0_ n1_ n2_ n3_; (try clear hb); (try clear hb2); (try clear hk); (try clear hi); (try clear ho0)) | ((with_reducible refine gate_dst (N := 4) rfl ?_); refine box_event ?hg (N := 4) ?hd (cs := #[.int .i64 0, .slice none 0 0]) (t := 28) ?hr ?_; (case hd => rfl); (case hg => rfl); (case hr => first | (go_simp; done) | (go_simp; rfl)); intro gb312 hg w19 hbox hb; have n0_ := Aside0.mk (Kd.R_below (by (with_reducible repeat (first | apply Kd.R_alloc | apply Kd.R_drewN | apply Kd.R_drew)); exact HO306.out) hb); have n1_ := Aside0.mk (Kd.R_below (by (with_reducible repeat (first | apply Kd.R_alloc | apply Kd.R_drewN | apply Kd.R_drew)); exact HO310.out) hb); have n2_ := Aside0.mk (blk_below (g := gb301) (o := .cells #[.int .i64 a0_0, .slice A0_1 l0_1.length c0_1] 24 (0, 0)) (by (with_reducible repeat (first | refine blk_drewN ?_ _ | refine blk_drew ?_ | refine blk_alloc ?_ _)); exact BK301.out) hb); have n3_ := Aside0.mk (below_step (by repeat (first | (with_reducible first | exact HB.out | apply below_alloc | apply pw_below_drewN | apply below_drew1 | refine below_set ?_ GE301.out) | exact HB.out)) hb); have n4_ := Aside0.mk (hbox); have n5_ := Aside0.mk ((by rw [hg]; exact (below_size (by repeat (first | (with_reducible first | exact HB.out | apply below_alloc | apply pw_below_drewN | apply below_drew1 | refine below_set ?_ GE301.out) | exact HB.out))) : w.heap.size ≤ gb312)); have n6_ := Aside0.mk ((by rw [hg]; exact (below_size (by repeat (first | (with_reducible first | exact HB.out | apply below_alloc | apply pw_below_drewN | apply below_drew1 | refine below_set ?_ GE301.out) | exact HB.out))) : w.heap.size ≤ gb312)); have n7_ := Aside0.mk ((by rw [hg]; exact Nat.ne_of_lt (blk_lt (g := gb301) (o := .cells #[.int .i64 a0_0, .slice A0_1 l0_1.length c0_1] 24 (0, 0)) (by (with_reducible repeat (first | refine blk_drewN ?_ _ | refine blk_drew ?_ | refine blk_alloc ?_ _)); exact BK301.out)) : gb301 ≠ gb312)); have n8_ := Aside0.mk ((by rw [hg]; exact Nat.ne_of_gt (blk_lt (g := gb301) (o := .cells #[.int .i64 a0_0, .slice A0_1 l0_1.length c0_1] 24 (0, 0)) (by (with_reducible repeat (first | refine blk_drewN ?_ _ | refine blk_drew ?_ | refine blk_alloc ?_ _)); exact BK301.out)) : gb312 ≠ gb301)); clear HO306; clear HO310; clear BK301; clear HB; have HO306 := n0_; have HO310 := n1_; have BK301 := n2_; have HB := n3_; have BK312 := n4_; have GW312 := n5_; have GE312 := n6_; have NB301_312 := n7_; have NB312_301 := n8_; clear n0_ n1_ n2_ n3_ n4_ n5_ n6_ n7_ n8_; clear hb hbox hg; have hnb20 := NB312_301.out; have hnc20 := NB301_312.out; have hcz21_0 : w19.cell? ⟨gb312, 0, none⟩ = some (.int .i64 0) := (blk_cell BK312.out 0).trans rfl; have hcz21_1 : w19.cell? ⟨gb312, 1, none⟩ = some (.slice none 0 0) := (blk_cell BK312.out 1).trans rfl; have hfz21_0 := blk_frozen BK312.out 0; have hfz21_1 := blk_frozen BK312.out 1; obtain ⟨Ao22, co22, eo22⟩ := Kd.R_slice HO310.out; subst eo22; have hcz23_0 : w19.cell? ⟨gb301, 0, none⟩ = some (.int .i64 a0_0) := (blk_cell BK301.out 0).trans rfl; have hcz23_1 : w19.cell? ⟨gb301, 1, none⟩ = some (.slice A0_1 l0_1.length c0_1) := (blk_cell BK301.out 1).trans rfl; have hfz23_0 := blk_frozen BK301.out 0; have hfz23_1 := blk_frozen BK301.out 1) | ((with_reducible refine gate_callee (f := 9) rfl ?_); refine goesL_ (some 26) rfl rfl Try.func9 (by kernel_rfl) rfl #[.agg #[.int .i64 a0_0, .slice A0_1 l0_1.length c0_1]] rfl (by (try simp only [List.map_toArray, List.map_cons, List.map_nil]); first | done | rfl | (simp only [List.length_drop, List.length_take]; rfl)) ?_; (with_reducible refine (laws_toPuzzle.calls k a0_0 _ _ l0_1 t313 t314 _ ?side1 ?side2 A9.out).mono ?_); (case side1 => exact Kd.C_below HR0_1.out (by repeat (first | (with_reducible first | exact HB.out | apply below_alloc | apply pw_below_drewN | apply below_drew1 | refine below_set ?_ GE301.out | refine below_set ?_ GE312.out) | exact HB.out))); (case side2 => exact HC0_1.out); rintro e w24 ⟨v315, rfl, ho0, hb⟩; refine ⟨_, rfl, ?_⟩; have n0_ := Aside0.mk (Kd.R_elder' (by (with_reducible repeat (first | apply Kd.R_alloc | apply Kd.R_drewN | apply Kd.R_drew)); exact (Kd.R_mono (Kd.R_far (p := ⟨gb312, 1, none⟩) (Kd.R_far (p := ⟨gb312, 0, none⟩) (Kd.R_types HO306.out BK312.out (by decide)) (fun _ hk => hk.2) (.int .i64 t307)) (fun _ hk => hk.2) (.slice Ao22 t308.length co22)) (fun _ h_ => h_.1))) (Kd.R_base ho0) hb); have n1_ := Aside0.mk (Kd.R_elder' (by (with_reducible repeat (first | apply Kd.R_alloc | apply Kd.R_drewN | apply Kd.R_drew)); exact (Kd.R_mono (Kd.R_far (p := ⟨gb312, 1, none⟩) (Kd.R_far (p := ⟨gb312, 0, none⟩) (Kd.R_types HO310.out BK312.out (by decide)) (fun _ hk => hk.2) (.int .i64 t307)) (fun _ hk => hk.2) (.slice Ao22 t308.length co22)) (fun _ h_ => h_.1))) (Kd.R_base ho0) hb); have n2_ := Aside0.mk (Kd.R_lower (Kd.R_new' (Kd.R_new' ho0 (Kd.R_lt (by (with_reducible repeat (first | apply Kd.R_alloc | apply Kd.R_drewN | apply Kd.R_drew)); exact (Kd.R_mono (Kd.R_far (p := ⟨gb312, 1, none⟩) (Kd.R_far (p := ⟨gb312, 0, none⟩) (Kd.R_types HO306.out BK312.out (by decide)) (fun _ hk => hk.2) (.int .i64 t307)) (fun _ hk => hk.2) (.slice Ao22 t308.length co22)) (fun _ h_ => h_.1))))) (Kd.R_lt (by (with_reducible repeat (first | apply Kd.R_alloc | apply Kd.R_drewN | apply Kd.R_drew)); exact (Kd.R_mono (Kd.R_far (p := ⟨gb312, 1, none⟩) (Kd.R_far (p := ⟨gb312, 0, none⟩) (Kd.R_types HO310.out BK312.out (by decide)) (fun _ hk => hk.2) (.int .i64 t307)) (fun _ hk => hk.2) (.slice Ao22 t308.length co22)) (fun _ h_ => h_.1))))) (below_size (by repeat (first | (with_reducible first | exact HB.out | apply below_alloc | apply pw_below_drewN | apply below_drew1 | refine below_set ?_ GE301.out | refine below_set ?_ GE312.out) | exact HB.out)))); have n3_ := Aside0.mk (blk_below (g := gb301) (o := .cells #[.int .i64 a0_0, .slice A0_1 l0_1.length c0_1] 24 (0, 0)) (by (with_reducible repeat (first | refine blk_drewN ?_ _ | refine blk_drew ?_ | refine blk_alloc ?_ _)); refine blk_far ?_ NB301_312.out _; (with_reducible repeat (first | refine blk_drewN ?_ _ | refine blk_drew ?_ | refine blk_alloc ?_ _)); refine blk_far ?_ NB301_312.out _; (with_reducible repeat (first | refine blk_drewN ?_ _ | refine blk_drew ?_ | refine blk_alloc ?_ _)); exact BK301.out) hb); have n4_ := Aside0.mk (blk_below (g := gb312) (o := .cells #[.int .i64 t307, .slice Ao22 t308.length co22] 28 (0, 0)) (by (with_reducible repeat (first | refine blk_drewN ?_ _ | refine blk_drew ?_ | refine blk_alloc ?_ _)); refine blk_put (cs := #[.int .i64 t307, .slice none 0 0]) ?_ 1 _ rfl; (with_reducible repeat (first | refine blk_drewN ?_ _ | refine blk_drew ?_ | refine blk_alloc ?_ _)); refine blk_put (cs := #[.int .i64 0, .slice none 0 0]) ?_ 0 _ rfl; (with_reducible repeat (first | refine blk_drewN ?_ _ | refine blk_drew ?_ | refine blk_alloc ?_ _)); exact BK312.out) hb); have n5_ := Aside0.mk (below_step (by repeat (first | (with_reducible first | exact HB.out | apply below_alloc | apply pw_below_drewN | apply below_drew1 | refine below_set ?_ GE301.out | refine below_set ?_ GE312.out) | exact HB.out)) hb); clear HO306; clear HO310; clear BK301; clear BK312; clear HB; have HO306 := n0_; have HO310 := n1_; have HO316 := n2_; have BK301 := n3_; have BK312 := n4_; have HB := n5_; clear n0_ n1_ n2_ n3_ n4_ n5_; (try clear hb); (try clear hb2); (try clear hk); (try clear hi); (try clear ho0)) | ((with_reducible refine gate_dst (N := 6) rfl ?_); refine box_event ?hg (N := 6) ?hd (cs := #[.int .i64 0, .slice none 0 0]) (t := 28) ?hr ?_; (case hd => rfl); (case hg => rfl); (case hr => first | (go_simp; done) | (go_simp; rfl)); intro gb317 hg w25 hbox hb; have n0_ := Aside0.mk (Kd.R_below (by (with_reducible repeat (first | apply Kd.R_alloc | apply Kd.R_drewN | apply Kd.R_drew)); exact HO306.out) hb); have n1_ := Aside0.mk (Kd.R_below (by (with_reducible repeat (first | apply Kd.R_alloc | apply Kd.R_drewN | apply Kd.R_drew)); exact HO310.out) hb); have n2_ := Aside0.mk (Kd.R_below (by (with_reducible repeat (first | apply Kd.R_alloc | apply Kd.R_drewN | apply Kd.R_drew)); exact HO316.out) hb); have n3_ := Aside0.mk (blk_below (g := gb301) (o := .cells #[.int .i64 a0_0, .slice A0_1 l0_1.length c0_1] 24 (0, 0)) (by (with_reducible repeat (first | refine blk_drewN ?_ _ | refine blk_drew ?_ | refine blk_alloc ?_ _)); exact BK301.out) hb); have n4_ := Aside0.mk (blk_below (g := gb312) (o := .cells #[.int .i64 t307, .slice Ao22 t308.length co22] 28 (0, 0)) (by (with_reducible repeat (first | refine blk_drewN ?_ _ | refine blk_drew ?_ | refine blk_alloc ?_ _)); exact BK312.out) hb); have n5_ := Aside0.mk (below_step (by repeat (first | (with_reducible first | exact HB.out | apply below_alloc | apply pw_below_drewN | apply below_drew1 | refine below_set ?_ GE301.out | refine below_set ?_ GE312.out) | exact HB.out)) hb); have n6_ := Aside0.mk (hbox); have n7_ := Aside0.mk ((by rw [hg]; exact (below_size (by repeat (first | (with_reducible first | exact HB.out | apply below_alloc | apply pw_below_drewN | apply below_drew1 | refine below_set ?_ GE301.out | refine below_set ?_ GE312.out) | exact HB.out))) : w.heap.size ≤ gb317)); have n8_ := Aside0.mk ((by rw [hg]; exact (below_size (by repeat (first | (with_reducible first | exact HB.out | apply below_alloc | apply pw_below_drewN | apply below_drew1 | refine below_set ?_ GE301.out | refine below_set ?_ GE312.out) | exact HB.out))) : w.heap.size ≤ gb317)); have n9_ := Aside0.mk ((by rw [hg]; exact Nat.ne_of_lt (blk_lt (g := gb301) (o := .cells #[.int .i64 a0_0, .slice A0_1 l0_1.length c0_1] 24 (0, 0)) (by (with_reducible repeat (first | refine blk_drewN ?_ _ | refine blk_drew ?_ | refine blk_alloc ?_ _)); exact BK301.out)) : gb301 ≠ gb317)); have n10_ := Aside0.mk ((by rw [hg]; exact Nat.ne_of_gt (blk_lt (g := gb301) (o := .cells #[.int .i64 a0_0, .slice A0_1 l0_1.length c0_1] 24 (0, 0)) (by (with_reducible repeat (first | refine blk_drewN ?_ _ | refine blk_drew ?_ | refine blk_alloc ?_ _)); exact BK301.out)) : gb317 ≠ gb301)); have n11_ := Aside0.mk ((by rw [hg]; exact Nat.ne_of_lt (blk_lt (g := gb312) (o := .cells #[.int .i64 t307, .slice Ao22 t308.length co22] 28 (0, 0)) (by (with_reducible repeat (first | refine blk_drewN ?_ _ | refine blk_drew ?_ | refine blk_alloc ?_ _)); exact BK312.out)) : gb312 ≠ gb317)); have n12_ := Aside0.mk ((by rw [hg]; exact Nat.ne_of_gt (blk_lt (g := gb312) (o := .cells #[.int .i64 t307, .slice Ao22 t308.length co22] 28 (0, 0)) (by (with_reducible repeat (first | refine blk_drewN ?_ _ | refine blk_drew ?_ | refine blk_alloc ?_ _)); exact BK312.out)) : gb317 ≠ gb312)); clear HO306; clear HO310; clear HO316; clear BK301; clear BK312; clear HB; have HO306 := n0_; have HO310 := n1_; have HO316 := n2_; have BK301 := n3_; have BK312 := n4_; have HB := n5_; have BK317 := n6_; have GW317 := n7_; have GE317 := n8_; have NB301_317 := n9_; have NB317_301 := n10_; have NB312_317 := n11_; have NB317_312 := n12_; clear n0_ n1_ n2_ n3_ n4_ n5_ n6_ n7_ n8_ n9_ n10_ n11_ n12_; clear hb hbox hg; have hnb26 := NB317_301.out; have hnc26 := NB301_317.out; have hnb27 := NB317_312.out; have hnc27 := NB312_317.out; have hcz28_0 : w25.cell? ⟨gb317, 0, none⟩ = some (.int .i64 0) := (blk_cell BK317.out 0).trans rfl; have hcz28_1 : w25.cell? ⟨gb317, 1, none⟩ = some (.slice none 0 0) := (blk_cell BK317.out 1).trans rfl; have hfz28_0 := blk_frozen BK317.out 0; have hfz28_1 := blk_frozen BK317.out 1; obtain ⟨Ao29, co29, eo29⟩ := Kd.R_slice HO316.out; subst eo29) | ((with_reducible refine gate_callee (f := 10) rfl ?_); refine goesL_ (some 29) rfl rfl Try.func10 (by kernel_rfl) rfl #[.agg #[.int .i64 t313, .slice Ao29 t314.length co29]] rfl (by (try simp only [List.map_toArray, List.map_cons, List.map_nil]); first | done | rfl | (simp only [List.length_drop, List.length_take]; rfl)) ?_; (with_reducible refine (impl_HarderPuzzle.calls k t313 _ _ t314 t318 t319 t322 _ ?side1 ?side2 A10.out).mono ?_); (case side1 => refine (Kd.R_reads' (e := 43) (base := w.heap.size) (ok := fun k_ => ((True ∧ some k_ ≠ (.slice Ao17 t304.length co17 : Value).ownBlock) ∧ some k_ ≠ (.slice Ao22 t308.length co22 : Value).ownBlock)) (n := t314.length) (c := co29) ?_).2.2; exact (by (with_reducible repeat (first | apply Kd.R_alloc | apply Kd.R_drewN | apply Kd.R_drew)); exact (Kd.R_mono (Kd.R_far (p := ⟨gb317, 1, none⟩) (Kd.R_far (p := ⟨gb317, 0, none⟩) (Kd.R_types HO316.out BK317.out (by decide)) (fun _ hk => hk.2) (.int .i64 t313)) (fun _ hk => hk.2) (.slice Ao29 t314.length co29)) (fun _ h_ => h_.1)))); (case side2 => exact (Kd.R_reads' HO316.out).2.1); rintro e w30 ⟨v320, rfl, ho0, hb⟩; refine ⟨_, rfl, ?_⟩; have n0_ := Aside0.mk (Kd.R_elder' (by (with_reducible repeat (first | apply Kd.R_alloc | apply Kd.R_drewN | apply Kd.R_drew)); exact (Kd.R_mono (Kd.R_far (p := ⟨gb317, 1, none⟩) (Kd.R_far (p := ⟨gb317, 0, none⟩) (Kd.R_types HO306.out BK317.out (by decide)) (fun _ hk => hk.2) (.int .i64 t313)) (fun _ hk => hk.2) (.slice Ao29 t314.length co29)) (fun _ h_ => h_.1))) (Kd.R_base ho0) hb); have n1_ := Aside0.mk (Kd.R_elder' (by (with_reducible repeat (first | apply Kd.R_alloc | apply Kd.R_drewN | apply Kd.R_drew)); exact (Kd.R_mono (Kd.R_far (p := ⟨gb317, 1, none⟩) (Kd.R_far (p := ⟨gb317, 0, none⟩) (Kd.R_types HO310.out BK317.out (by decide)) (fun _ hk => hk.2) (.int .i64 t313)) (fun _ hk => hk.2) (.slice Ao29 t314.length co29)) (fun _ h_ => h_.1))) (Kd.R_base ho0) hb); have n2_ := Aside0.mk (Kd.R_elder' (by (with_reducible repeat (first | apply Kd.R_alloc | apply Kd.R_drewN | apply Kd.R_drew)); exact (Kd.R_mono (Kd.R_far (p := ⟨gb317, 1, none⟩) (Kd.R_far (p := ⟨gb317, 0, none⟩) (Kd.R_types HO316.out BK317.out (by decide)) (fun _ hk => hk.2) (.int .i64 t313)) (fun _ hk => hk.2) (.slice Ao29 t314.length co29)) (fun _ h_ => h_.1))) (Kd.R_base ho0) hb); have n3_ := Aside0.mk (Kd.R_lower (Kd.R_new' (Kd.R_new' (Kd.R_new' ho0 (Kd.R_lt (by (with_reducible repeat (first | apply Kd.R_alloc | apply Kd.R_drewN | apply Kd.R_drew)); exact (Kd.R_mono (Kd.R_far (p := ⟨gb317, 1, none⟩) (Kd.R_far (p := ⟨gb317, 0, none⟩) (Kd.R_types HO306.out BK317.out (by decide)) (fun _ hk => hk.2) (.int .i64 t313)) (fun _ hk => hk.2) (.slice Ao29 t314.length co29)) (fun _ h_ => h_.1))))) (Kd.R_lt (by (with_reducible repeat (first | apply Kd.R_alloc | apply Kd.R_drewN | apply Kd.R_drew)); exact (Kd.R_mono (Kd.R_far (p := ⟨gb317, 1, none⟩) (Kd.R_far (p := ⟨gb317, 0, none⟩) (Kd.R_types HO310.out BK317.out (by decide)) (fun _ hk => hk.2) (.int .i64 t313)) (fun _ hk => hk.2) (.slice Ao29 t314.length co29)) (fun _ h_ => h_.1))))) (Kd.R_lt (by (with_reducible repeat (first | apply Kd.R_alloc | apply Kd.R_drewN | apply Kd.R_drew)); exact (Kd.R_mono (Kd.R_far (p := ⟨gb317, 1, none⟩) (Kd.R_far (p := ⟨gb317, 0, none⟩) (Kd.R_types HO316.out BK317.out (by decide)) (fun _ hk => hk.2) (.int .i64 t313)) (fun _ hk => hk.2) (.slice Ao29 t314.length co29)) (fun _ h_ => h_.1))))) (below_size (by repeat (first | (with_reducible first | exact HB.out | apply below_alloc | apply pw_below_drewN | apply below_drew1 | refine below_set ?_ GE301.out | refine below_set ?_ GE312.out | refine below_set ?_ GE317.out) | exact HB.out)))); have n4_ := Aside0.mk (blk_below (g := gb301) (o := .cells #[.int .i64 a0_0, .slice A0_1 l0_1.length c0_1] 24 (0, 0)) (by (with_reducible repeat (first | refine blk_drewN ?_ _ | refine blk_drew ?_ | refine blk_alloc ?_ _)); refine blk_far ?_ NB301_317.out _; (with_reducible repeat (first | refine blk_drewN ?_ _ | refine blk_drew ?_ | refine blk_alloc ?_ _)); refine blk_far ?_ NB301_317.out _; (with_reducible repeat (first | refine blk_drewN ?_ _ | refine blk_drew ?_ | refine blk_alloc ?_ _)); exact BK301.out) hb); have n5_ := Aside0.mk (blk_below (g := gb312) (o := .cells #[.int .i64 t307, .slice Ao22 t308.length co22] 28 (0, 0)) (by (with_reducible repeat (first | refine blk_drewN ?_ _ | refine blk_drew ?_ | refine blk_alloc ?_ _)); refine blk_far ?_ NB312_317.out _; (with_reducible repeat (first | refine blk_drewN ?_ _ | refine blk_drew ?_ | refine blk_alloc ?_ _)); refine blk_far ?_ NB312_317.out _; (with_reducible repeat (first | refine blk_drewN ?_ _ | refine blk_drew ?_ | refine blk_alloc ?_ _)); exact BK312.out) hb); have n6_ := Aside0.mk (blk_below (g := gb317) (o := .cells #[.int .i64 t313, .slice Ao29 t314.length co29] 28 (0, 0)) (by (with_reducible repeat (first | refine blk_drewN ?_ _ | refine blk_drew ?_ | refine blk_alloc ?_ _)); refine blk_put (cs := #[.int .i64 t313, .slice none 0 0]) ?_ 1 _ rfl; (with_reducible repeat (first | refine blk_drewN ?_ _ | refine blk_drew ?_ | refine blk_alloc ?_ _)); refine blk_put (cs := #[.int .i64 0, .slice none 0 0]) ?_ 0 _ rfl; (with_reducible repeat (first | refine blk_drewN ?_ _ | refine blk_drew ?_ | refine blk_alloc ?_ _)); exact BK317.out) hb); have n7_ := Aside0.mk (below_step (by repeat (first | (with_reducible first | exact HB.out | apply below_alloc | apply pw_below_drewN | apply below_drew1 | refine below_set ?_ GE301.out | refine below_set ?_ GE312.out | refine below_set ?_ GE317.out) | exact HB.out)) hb); clear HO306; clear HO310; clear HO316; clear BK301; clear BK312; clear BK317; clear HB; have HO306 := n0_; have HO310 := n1_; have HO316 := n2_; have HO321 := n3_; have BK301 := n4_; have BK312 := n5_; have BK317 := n6_; have HB := n7_; clear n0_ n1_ n2_ n3_ n4_ n5_ n6_ n7_; (try clear hb); (try clear hb2); (try clear hk); (try clear hi); (try clear ho0)) | ((with_reducible refine gate_dst (N := 7) rfl ?_); refine box_event ?hg (N := 7) ?hd (cs := #[.int .i64 0, .slice none 0 0]) (t := 28) ?hr ?_; (case hd => rfl); (case hg => rfl); (case hr => first | (go_simp; done) | (go_simp; rfl)); intro gb323 hg w31 hbox hb; have n0_ := Aside0.mk (Kd.R_below (by (with_reducible repeat (first | apply Kd.R_alloc | apply Kd.R_drewN | apply Kd.R_drew)); exact HO306.out) hb); have n1_ := Aside0.mk (Kd.R_below (by (with_reducible repeat (first | apply Kd.R_alloc | apply Kd.R_drewN | apply Kd.R_drew)); exact HO310.out) hb); have n2_ := Aside0.mk (Kd.R_below (by (with_reducible repeat (first | apply Kd.R_alloc | apply Kd.R_drewN | apply Kd.R_drew)); exact HO316.out) hb); have n3_ := Aside0.mk (Kd.R_below (by (with_reducible repeat (first | apply Kd.R_alloc | apply Kd.R_drewN | apply Kd.R_drew)); exact HO321.out) hb); have n4_ := Aside0.mk (blk_below (g := gb301) (o := .cells #[.int .i64 a0_0, .slice A0_1 l0_1.length c0_1] 24 (0, 0)) (by (with_reducible repeat (first | refine blk_drewN ?_ _ | refine blk_drew ?_ | refine blk_alloc ?_ _)); exact BK301.out) hb); have n5_ := Aside0.mk (blk_below (g := gb312) (o := .cells #[.int .i64 t307, .slice Ao22 t308.length co22] 28 (0, 0)) (by (with_reducible repeat (first | refine blk_drewN ?_ _ | refine blk_drew ?_ | refine blk_alloc ?_ _)); exact BK312.out) hb); have n6_ := Aside0.mk (blk_below (g := gb317) (o := .cells #[.int .i64 t313, .slice Ao29 t314.length co29] 28 (0, 0)) (by (with_reducible repeat (first | refine blk_drewN ?_ _ | refine blk_drew ?_ | refine blk_alloc ?_ _)); exact BK317.out) hb); have n7_ := Aside0.mk (below_step (by repeat (first | (with_reducible first | exact HB.out | apply below_alloc | apply pw_below_drewN | apply below_drew1 | refine below_set ?_ GE301.out | refine below_set ?_ GE312.out | refine below_set ?_ GE317.out) | exact HB.out)) hb); have n8_ := Aside0.mk (hbox); have n9_ := Aside0.mk ((by rw [hg]; exact (below_size (by repeat (first | (with_reducible first | exact HB.out | apply below_alloc | apply pw_below_drewN | apply below_drew1 | refine below_set ?_ GE301.out | refine below_set ?_ GE312.out | refine below_set ?_ GE317.out) | exact HB.out))) : w.heap.size ≤ gb323)); have n10_ := Aside0.mk ((by rw [hg]; exact (below_size (by repeat (first | (with_reducible first | exact HB.out | apply below_alloc | apply pw_below_drewN | apply below_drew1 | refine below_set ?_ GE301.out | refine below_set ?_ GE312.out | refine below_set ?_ GE317.out) | exact HB.out))) : w.heap.size ≤ gb323)); have n11_ := Aside0.mk ((by rw [hg]; exact Nat.ne_of_lt (blk_lt (g := gb301) (o := .cells #[.int .i64 a0_0, .slice A0_1 l0_1.length c0_1] 24 (0, 0)) (by (with_reducible repeat (first | refine blk_drewN ?_ _ | refine blk_drew ?_ | refine blk_alloc ?_ _)); exact BK301.out)) : gb301 ≠ gb323)); have n12_ := Aside0.mk ((by rw [hg]; exact Nat.ne_of_gt (blk_lt (g := gb301) (o := .cells #[.int .i64 a0_0, .slice A0_1 l0_1.length c0_1] 24 (0, 0)) (by (with_reducible repeat (first | refine blk_drewN ?_ _ | refine blk_drew ?_ | refine blk_alloc ?_ _)); exact BK301.out)) : gb323 ≠ gb301)); have n13_ := Aside0.mk ((by rw [hg]; exact Nat.ne_of_lt (blk_lt (g := gb312) (o := .cells #[.int .i64 t307, .slice Ao22 t308.length co22] 28 (0, 0)) (by (with_reducible repeat (first | refine blk_drewN ?_ _ | refine blk_drew ?_ | refine blk_alloc ?_ _)); exact BK312.out)) : gb312 ≠ gb323)); have n14_ := Aside0.mk ((by rw [hg]; exact Nat.ne_of_gt (blk_lt (g := gb312) (o := .cells #[.int .i64 t307, .slice Ao22 t308.length co22] 28 (0, 0)) (by (with_reducible repeat (first | refine blk_drewN ?_ _ | refine blk_drew ?_ | refine blk_alloc ?_ _)); exact BK312.out)) : gb323 ≠ gb312)); have n15_ := Aside0.mk ((by rw [hg]; exact Nat.ne_of_lt (blk_lt (g := gb317) (o := .cells #[.int .i64 t313, .slice Ao29 t314.length co29] 28 (0, 0)) (by (with_reducible repeat (first | refine blk_drewN ?_ _ | refine blk_drew ?_ | refine blk_alloc ?_ _)); exact BK317.out)) : gb317 ≠ gb323)); have n16_ := Aside0.mk ((by rw [hg]; exact Nat.ne_of_gt (blk_lt (g := gb317) (o := .cells #[.int .i64 t313, .slice Ao29 t314.length co29] 28 (0, 0)) (by (with_reducible repeat (first | refine blk_drewN ?_ _ | refine blk_drew ?_ | refine blk_alloc ?_ _)); exact BK317.out)) : gb323 ≠ gb317)); clear HO306; clear HO310; clear HO316; clear HO321; clear BK301; clear BK312; clear BK317; clear HB; have HO306 := n0_; have HO310 := n1_; have HO316 := n2_; have HO321 := n3_; have BK301 := n4_; have BK312 := n5_; have BK317 := n6_; have HB := n7_; have BK323 := n8_; have GW323 := n9_; have GE323 := n10_; have NB301_323 := n11_; have NB323_301 := n12_; have NB312_323 := n13_; have NB323_312 := n14_; have NB317_323 := n15_; have NB323_317 := n16_; clear n0_ n1_ n2_ n3_ n4_ n5_ n6_ n7_ n8_ n9_ n10_ n11_ n12_ n13_ n14_ n15_ n16_; clear hb hbox hg; have hnb32 := NB323_301.out; have hnc32 := NB301_323.out; have hnb33 := NB323_312.out; have hnc33 := NB312_323.out; have hnb34 := NB323_317.out; have hnc34 := NB317_323.out; have hcz35_0 : w31.cell? ⟨gb323, 0, none⟩ = some (.int .i64 0) := (blk_cell BK323.out 0).trans rfl; have hcz35_1 : w31.cell? ⟨gb323, 1, none⟩ = some (.slice none 0 0) := (blk_cell BK323.out 1).trans rfl; have hfz35_0 := blk_frozen BK323.out 0; have hfz35_1 := blk_frozen BK323.out 1; obtain ⟨Ao36, co36, eo36⟩ := Kd.R_slice HO321.out; subst eo36))
  (try simp only [Act.put, List.setIfInBounds_toArray, List.set_cons_zero, List.set_cons_succ])
  go_cut [40] (fun v40 wc => ∃ (kq : Nat) (x40_10 : Bool), v40 = .bool x40_10 ∧ Aside0 (laws_FnExactHarderPuzzle.j0 kq t311 t322 x40_10 a0_0 l0_1 t307 t308 t313 t314 t318 t319 = some r) ∧ Aside0 (kq ≤ k) ∧ Aside0 (Kd.R k43 43 wc w.heap.size (fun k_ => some k_ ≠ ((.slice Ao29 t314.length co29) : Value).ownBlock ∧ some k_ ≠ ((.slice Ao36 t319.length co36) : Value).ownBlock) (.slice Ao22 t308.length co22) t308) ∧ Aside0 (Kd.R k43 43 wc w.heap.size (fun k_ => some k_ ≠ ((.slice Ao22 t308.length co22) : Value).ownBlock ∧ some k_ ≠ ((.slice Ao36 t319.length co36) : Value).ownBlock) (.slice Ao29 t314.length co29) t314) ∧ Aside0 (Kd.R k43 43 wc w.heap.size (fun k_ => some k_ ≠ ((.slice Ao22 t308.length co22) : Value).ownBlock ∧ some k_ ≠ ((.slice Ao29 t314.length co29) : Value).ownBlock) (.slice Ao36 t319.length co36) t319) ∧ Aside0 (wc.heap[gb301]? = some (.cells #[.int .i64 a0_0, (.slice A0_1 l0_1.length c0_1)] 24 (0, 0))) ∧ Aside0 (wc.heap[gb312]? = some (.cells #[.int .i64 t307, (.slice Ao22 t308.length co22)] 28 (0, 0))) ∧ Aside0 (wc.heap[gb317]? = some (.cells #[.int .i64 t313, (.slice Ao29 t314.length co29)] 28 (0, 0))) ∧ Aside0 (wc.heap[gb323]? = some (.cells #[.int .i64 t318, (.slice Ao36 t319.length co36)] 28 (0, 0))) ∧ Aside0 (Below w.heap.size w wc))
  case first =>
   have H := HC11.out; clear HC11; replace H := Option.bind_eq_some_iff.mp H
   obtain ⟨t324, A370, H⟩ := H
   replace H : (if t324 = true then (laws_FnExactHarderPuzzle.j0 k t311 t322 (t322 != t311) a0_0 l0_1 t307 t308 t313 t314 t318 t319) else (laws_FnExactHarderPuzzle.j0 k t311 t322 true a0_0 l0_1 t307 t308 t313 t314 t318 t319)) = some r := H
   have A37 := Aside0.mk A370
   clear A370
   by_cases c38 : t324 = true
   ·subst c38
    have H1 : (laws_FnExactHarderPuzzle.j0 k t311 t322 (t322 != t311) a0_0 l0_1 t307 t308 t313 t314 t318 t319) = some r := by rw [if_pos rfl] at H; exact H
    clear H; have H := H1; clear H1; have H' := Aside0.mk H; clear H; have hnb39 := NB323_301.out; have hnc39 := NB301_323.out; have hnb40 := NB323_312.out; have hnc40 := NB312_323.out; have hnb41 := NB323_317.out; have hnc41 := NB317_323.out
    have hcz42_0 : w31.cell? ⟨gb323, 0, none⟩ = some (.int .i64 0) := (blk_cell BK323.out 0).trans rfl
    have hcz42_1 : w31.cell? ⟨gb323, 1, none⟩ = some (.slice none 0 0) := (blk_cell BK323.out 1).trans rfl
    have hfz42_0 := blk_frozen BK323.out 0
    have hfz42_1 := blk_frozen BK323.out 1
    have hnb43 := NB312_301.out; have hnc43 := NB301_312.out; have hnb44 := NB312_317.out; have hnc44 := NB317_312.out
    have hcz45_0 : w31.cell? ⟨gb312, 0, none⟩ = some (.int .i64 t307) := (blk_cell BK312.out 0).trans rfl
    have hcz45_1 : w31.cell? ⟨gb312, 1, none⟩ = some (.slice Ao22 t308.length co22) := (blk_cell BK312.out 1).trans rfl
    have hfz45_0 := blk_frozen BK312.out 0
    have hfz45_1 := blk_frozen BK312.out 1
    go_wp2_with (first | ((with_reducible refine gate_callee (f := 11) rfl ?_); refine goesL_ (some 34) rfl rfl Try.func11 (by kernel_rfl) rfl #[.agg #[.int .i64 t318, .slice Ao36 t319.length co36], .agg #[.int .i64 t307, .slice Ao22 t308.length co22]] rfl (by (try simp only [List.map_toArray, List.map_cons, List.map_nil]); first | done | rfl | (simp only [List.length_drop, List.length_take]; rfl)) ?_; (with_reducible refine (laws_eqPuzzle.calls k t318 _ _ t319 t307 _ _ t308 true _ ?side1 ?side2 ?side3 ?side4 A37.out).mono ?_); (case side1 => refine (Kd.R_reads' (e := 43) (base := w.heap.size) (ok := fun k_ => (((True ∧ some k_ ≠ (.slice Ao17 t304.length co17 : Value).ownBlock) ∧ some k_ ≠ (.slice Ao22 t308.length co22 : Value).ownBlock) ∧ some k_ ≠ (.slice Ao29 t314.length co29 : Value).ownBlock)) (n := t319.length) (c := co36) ?_).2.2; exact (by (with_reducible repeat (first | apply Kd.R_alloc | apply Kd.R_drewN | apply Kd.R_drew)); exact (Kd.R_mono (Kd.R_far (p := ⟨gb323, 1, none⟩) (Kd.R_far (p := ⟨gb323, 0, none⟩) (Kd.R_types HO321.out BK323.out (by decide)) (fun _ hk => hk.2) (.int .i64 t318)) (fun _ hk => hk.2) (.slice Ao36 t319.length co36)) (fun _ h_ => h_.1)))); (case side2 => exact (Kd.R_reads' HO321.out).2.1); (case side3 => refine (Kd.R_reads' (e := 43) (base := w.heap.size) (ok := fun k_ => (((True ∧ some k_ ≠ (.slice Ao17 t304.length co17 : Value).ownBlock) ∧ some k_ ≠ (.slice Ao29 t314.length co29 : Value).ownBlock) ∧ some k_ ≠ (.slice Ao36 t319.length co36 : Value).ownBlock)) (n := t308.length) (c := co22) ?_).2.2; exact (by (with_reducible repeat (first | apply Kd.R_alloc | apply Kd.R_drewN | apply Kd.R_drew)); exact (Kd.R_mono (Kd.R_far (p := ⟨gb323, 1, none⟩) (Kd.R_far (p := ⟨gb323, 0, none⟩) (Kd.R_types HO310.out BK323.out (by decide)) (fun _ hk => hk.2) (.int .i64 t318)) (fun _ hk => hk.2) (.slice Ao36 t319.length co36)) (fun _ h_ => h_.1)))); (case side4 => exact (Kd.R_reads' HO310.out).2.1); rintro e w46 ⟨rfl, hb⟩; refine ⟨_, rfl, ?_⟩; have n0_ := Aside0.mk (Kd.R_below (by (with_reducible repeat (first | apply Kd.R_alloc | apply Kd.R_drewN | apply Kd.R_drew)); exact (Kd.R_mono (Kd.R_far (p := ⟨gb323, 1, none⟩) (Kd.R_far (p := ⟨gb323, 0, none⟩) (Kd.R_types HO306.out BK323.out (by decide)) (fun _ hk => hk.2) (.int .i64 t318)) (fun _ hk => hk.2) (.slice Ao36 t319.length co36)) (fun _ h_ => h_.1))) hb); have n1_ := Aside0.mk (Kd.R_below (by (with_reducible repeat (first | apply Kd.R_alloc | apply Kd.R_drewN | apply Kd.R_drew)); exact (Kd.R_mono (Kd.R_far (p := ⟨gb323, 1, none⟩) (Kd.R_far (p := ⟨gb323, 0, none⟩) (Kd.R_types HO310.out BK323.out (by decide)) (fun _ hk => hk.2) (.int .i64 t318)) (fun _ hk => hk.2) (.slice Ao36 t319.length co36)) (fun _ h_ => h_.1))) hb); have n2_ := Aside0.mk (Kd.R_below (by (with_reducible repeat (first | apply Kd.R_alloc | apply Kd.R_drewN | apply Kd.R_drew)); exact (Kd.R_mono (Kd.R_far (p := ⟨gb323, 1, none⟩) (Kd.R_far (p := ⟨gb323, 0, none⟩) (Kd.R_types HO316.out BK323.out (by decide)) (fun _ hk => hk.2) (.int .i64 t318)) (fun _ hk => hk.2) (.slice Ao36 t319.length co36)) (fun _ h_ => h_.1))) hb); have n3_ := Aside0.mk (Kd.R_below (by (with_reducible repeat (first | apply Kd.R_alloc | apply Kd.R_drewN | apply Kd.R_drew)); exact (Kd.R_mono (Kd.R_far (p := ⟨gb323, 1, none⟩) (Kd.R_far (p := ⟨gb323, 0, none⟩) (Kd.R_types HO321.out BK323.out (by decide)) (fun _ hk => hk.2) (.int .i64 t318)) (fun _ hk => hk.2) (.slice Ao36 t319.length co36)) (fun _ h_ => h_.1))) hb); have n4_ := Aside0.mk (blk_below (g := gb301) (o := .cells #[.int .i64 a0_0, .slice A0_1 l0_1.length c0_1] 24 (0, 0)) (by (with_reducible repeat (first | refine blk_drewN ?_ _ | refine blk_drew ?_ | refine blk_alloc ?_ _)); refine blk_far ?_ NB301_323.out _; (with_reducible repeat (first | refine blk_drewN ?_ _ | refine blk_drew ?_ | refine blk_alloc ?_ _)); refine blk_far ?_ NB301_323.out _; (with_reducible repeat (first | refine blk_drewN ?_ _ | refine blk_drew ?_ | refine blk_alloc ?_ _)); exact BK301.out) hb); have n5_ := Aside0.mk (blk_below (g := gb312) (o := .cells #[.int .i64 t307, .slice Ao22 t308.length co22] 28 (0, 0)) (by (with_reducible repeat (first | refine blk_drewN ?_ _ | refine blk_drew ?_ | refine blk_alloc ?_ _)); refine blk_far ?_ NB312_323.out _; (with_reducible repeat (first | refine blk_drewN ?_ _ | refine blk_drew ?_ | refine blk_alloc ?_ _)); refine blk_far ?_ NB312_323.out _; (with_reducible repeat (first | refine blk_drewN ?_ _ | refine blk_drew ?_ | refine blk_alloc ?_ _)); exact BK312.out) hb); have n6_ := Aside0.mk (blk_below (g := gb317) (o := .cells #[.int .i64 t313, .slice Ao29 t314.length co29] 28 (0, 0)) (by (with_reducible repeat (first | refine blk_drewN ?_ _ | refine blk_drew ?_ | refine blk_alloc ?_ _)); refine blk_far ?_ NB317_323.out _; (with_reducible repeat (first | refine blk_drewN ?_ _ | refine blk_drew ?_ | refine blk_alloc ?_ _)); refine blk_far ?_ NB317_323.out _; (with_reducible repeat (first | refine blk_drewN ?_ _ | refine blk_drew ?_ | refine blk_alloc ?_ _)); exact BK317.out) hb); have n7_ := Aside0.mk (blk_below (g := gb323) (o := .cells #[.int .i64 t318, .slice Ao36 t319.length co36] 28 (0, 0)) (by (with_reducible repeat (first | refine blk_drewN ?_ _ | refine blk_drew ?_ | refine blk_alloc ?_ _)); refine blk_put (cs := #[.int .i64 t318, .slice none 0 0]) ?_ 1 _ rfl; (with_reducible repeat (first | refine blk_drewN ?_ _ | refine blk_drew ?_ | refine blk_alloc ?_ _)); refine blk_put (cs := #[.int .i64 0, .slice none 0 0]) ?_ 0 _ rfl; (with_reducible repeat (first | refine blk_drewN ?_ _ | refine blk_drew ?_ | refine blk_alloc ?_ _)); exact BK323.out) hb); have n8_ := Aside0.mk (below_step (by repeat (first | (with_reducible first | exact HB.out | apply below_alloc | apply pw_below_drewN | apply below_drew1 | refine below_set ?_ GE301.out | refine below_set ?_ GE312.out | refine below_set ?_ GE317.out | refine below_set ?_ GE323.out) | exact HB.out)) hb); clear HO306; clear HO310; clear HO316; clear HO321; clear BK301; clear BK312; clear BK317; clear BK323; clear HB; have HO306 := n0_; have HO310 := n1_; have HO316 := n2_; have HO321 := n3_; have BK301 := n4_; have BK312 := n5_; have BK317 := n6_; have BK323 := n7_; have HB := n8_; clear n0_ n1_ n2_ n3_ n4_ n5_ n6_ n7_ n8_; (try clear hb); (try clear hb2); (try clear hk); (try clear hi)))
    go_meet
    case rel => exact ⟨_, ((t322 != t311)), (by first | rfl | (simp; done) | (simp [*]; done)), H', ⟨by first | omega | exact Nat.le_refl _⟩, ⟨by (with_reducible repeat (first | apply Kd.R_alloc | apply Kd.R_drewN | apply Kd.R_drew)); exact Kd.R_mono HO310.out (fun _ hk => ⟨hk.1.2, hk.2⟩)⟩, ⟨by (with_reducible repeat (first | apply Kd.R_alloc | apply Kd.R_drewN | apply Kd.R_drew)); exact Kd.R_mono HO316.out (fun _ hk => ⟨hk.1.2, hk.2⟩)⟩, ⟨by (with_reducible repeat (first | apply Kd.R_alloc | apply Kd.R_drewN | apply Kd.R_drew)); exact Kd.R_mono HO321.out (fun _ hk => ⟨hk.1.2, hk.2⟩)⟩, ⟨by (with_reducible repeat (first | refine blk_drewN ?_ _ | refine blk_drew ?_ | refine blk_alloc ?_ _)); exact BK301.out⟩, ⟨by (with_reducible repeat (first | refine blk_drewN ?_ _ | refine blk_drew ?_ | refine blk_alloc ?_ _)); exact BK312.out⟩, ⟨by (with_reducible repeat (first | refine blk_drewN ?_ _ | refine blk_drew ?_ | refine blk_alloc ?_ _)); exact BK317.out⟩, ⟨by (with_reducible repeat (first | refine blk_drewN ?_ _ | refine blk_drew ?_ | refine blk_alloc ?_ _)); exact BK323.out⟩, ⟨by repeat (first | (with_reducible first | exact HB.out | apply below_alloc | apply pw_below_drewN | apply below_drew1 | refine below_set ?_ GE301.out | refine below_set ?_ GE312.out | refine below_set ?_ GE317.out | refine below_set ?_ GE323.out) | exact HB.out)⟩⟩
   ·replace c38 := Bool.eq_false_iff.mpr c38
    subst c38
    have H1 : (laws_FnExactHarderPuzzle.j0 k t311 t322 true a0_0 l0_1 t307 t308 t313 t314 t318 t319) = some r := by rw [if_neg (show ¬ (false = true) by decide)] at H; exact H
    clear H; have H := H1; clear H1; have H' := Aside0.mk H; clear H; have hnb47 := NB323_301.out; have hnc47 := NB301_323.out; have hnb48 := NB323_312.out; have hnc48 := NB312_323.out; have hnb49 := NB323_317.out; have hnc49 := NB317_323.out
    have hcz50_0 : w31.cell? ⟨gb323, 0, none⟩ = some (.int .i64 0) := (blk_cell BK323.out 0).trans rfl
    have hcz50_1 : w31.cell? ⟨gb323, 1, none⟩ = some (.slice none 0 0) := (blk_cell BK323.out 1).trans rfl
    have hfz50_0 := blk_frozen BK323.out 0
    have hfz50_1 := blk_frozen BK323.out 1
    have hnb51 := NB312_301.out; have hnc51 := NB301_312.out; have hnb52 := NB312_317.out; have hnc52 := NB317_312.out
    have hcz53_0 : w31.cell? ⟨gb312, 0, none⟩ = some (.int .i64 t307) := (blk_cell BK312.out 0).trans rfl
    have hcz53_1 : w31.cell? ⟨gb312, 1, none⟩ = some (.slice Ao22 t308.length co22) := (blk_cell BK312.out 1).trans rfl
    have hfz53_0 := blk_frozen BK312.out 0
    have hfz53_1 := blk_frozen BK312.out 1
    go_wp2_with (first | ((with_reducible refine gate_callee (f := 11) rfl ?_); refine goesL_ (some 34) rfl rfl Try.func11 (by kernel_rfl) rfl #[.agg #[.int .i64 t318, .slice Ao36 t319.length co36], .agg #[.int .i64 t307, .slice Ao22 t308.length co22]] rfl (by (try simp only [List.map_toArray, List.map_cons, List.map_nil]); first | done | rfl | (simp only [List.length_drop, List.length_take]; rfl)) ?_; (with_reducible refine (laws_eqPuzzle.calls k t318 _ _ t319 t307 _ _ t308 false _ ?side1 ?side2 ?side3 ?side4 A37.out).mono ?_); (case side1 => refine (Kd.R_reads' (e := 43) (base := w.heap.size) (ok := fun k_ => (((True ∧ some k_ ≠ (.slice Ao17 t304.length co17 : Value).ownBlock) ∧ some k_ ≠ (.slice Ao22 t308.length co22 : Value).ownBlock) ∧ some k_ ≠ (.slice Ao29 t314.length co29 : Value).ownBlock)) (n := t319.length) (c := co36) ?_).2.2; exact (by (with_reducible repeat (first | apply Kd.R_alloc | apply Kd.R_drewN | apply Kd.R_drew)); exact (Kd.R_mono (Kd.R_far (p := ⟨gb323, 1, none⟩) (Kd.R_far (p := ⟨gb323, 0, none⟩) (Kd.R_types HO321.out BK323.out (by decide)) (fun _ hk => hk.2) (.int .i64 t318)) (fun _ hk => hk.2) (.slice Ao36 t319.length co36)) (fun _ h_ => h_.1)))); (case side2 => exact (Kd.R_reads' HO321.out).2.1); (case side3 => refine (Kd.R_reads' (e := 43) (base := w.heap.size) (ok := fun k_ => (((True ∧ some k_ ≠ (.slice Ao17 t304.length co17 : Value).ownBlock) ∧ some k_ ≠ (.slice Ao29 t314.length co29 : Value).ownBlock) ∧ some k_ ≠ (.slice Ao36 t319.length co36 : Value).ownBlock)) (n := t308.length) (c := co22) ?_).2.2; exact (by (with_reducible repeat (first | apply Kd.R_alloc | apply Kd.R_drewN | apply Kd.R_drew)); exact (Kd.R_mono (Kd.R_far (p := ⟨gb323, 1, none⟩) (Kd.R_far (p := ⟨gb323, 0, none⟩) (Kd.R_types HO310.out BK323.out (by decide)) (fun _ hk => hk.2) (.int .i64 t318)) (fun _ hk => hk.2) (.slice Ao36 t319.length co36)) (fun _ h_ => h_.1)))); (case side4 => exact (Kd.R_reads' HO310.out).2.1); rintro e w54 ⟨rfl, hb⟩; refine ⟨_, rfl, ?_⟩; have n0_ := Aside0.mk (Kd.R_below (by (with_reducible repeat (first | apply Kd.R_alloc | apply Kd.R_drewN | apply Kd.R_drew)); exact (Kd.R_mono (Kd.R_far (p := ⟨gb323, 1, none⟩) (Kd.R_far (p := ⟨gb323, 0, none⟩) (Kd.R_types HO306.out BK323.out (by decide)) (fun _ hk => hk.2) (.int .i64 t318)) (fun _ hk => hk.2) (.slice Ao36 t319.length co36)) (fun _ h_ => h_.1))) hb); have n1_ := Aside0.mk (Kd.R_below (by (with_reducible repeat (first | apply Kd.R_alloc | apply Kd.R_drewN | apply Kd.R_drew)); exact (Kd.R_mono (Kd.R_far (p := ⟨gb323, 1, none⟩) (Kd.R_far (p := ⟨gb323, 0, none⟩) (Kd.R_types HO310.out BK323.out (by decide)) (fun _ hk => hk.2) (.int .i64 t318)) (fun _ hk => hk.2) (.slice Ao36 t319.length co36)) (fun _ h_ => h_.1))) hb); have n2_ := Aside0.mk (Kd.R_below (by (with_reducible repeat (first | apply Kd.R_alloc | apply Kd.R_drewN | apply Kd.R_drew)); exact (Kd.R_mono (Kd.R_far (p := ⟨gb323, 1, none⟩) (Kd.R_far (p := ⟨gb323, 0, none⟩) (Kd.R_types HO316.out BK323.out (by decide)) (fun _ hk => hk.2) (.int .i64 t318)) (fun _ hk => hk.2) (.slice Ao36 t319.length co36)) (fun _ h_ => h_.1))) hb); have n3_ := Aside0.mk (Kd.R_below (by (with_reducible repeat (first | apply Kd.R_alloc | apply Kd.R_drewN | apply Kd.R_drew)); exact (Kd.R_mono (Kd.R_far (p := ⟨gb323, 1, none⟩) (Kd.R_far (p := ⟨gb323, 0, none⟩) (Kd.R_types HO321.out BK323.out (by decide)) (fun _ hk => hk.2) (.int .i64 t318)) (fun _ hk => hk.2) (.slice Ao36 t319.length co36)) (fun _ h_ => h_.1))) hb); have n4_ := Aside0.mk (blk_below (g := gb301) (o := .cells #[.int .i64 a0_0, .slice A0_1 l0_1.length c0_1] 24 (0, 0)) (by (with_reducible repeat (first | refine blk_drewN ?_ _ | refine blk_drew ?_ | refine blk_alloc ?_ _)); refine blk_far ?_ NB301_323.out _; (with_reducible repeat (first | refine blk_drewN ?_ _ | refine blk_drew ?_ | refine blk_alloc ?_ _)); refine blk_far ?_ NB301_323.out _; (with_reducible repeat (first | refine blk_drewN ?_ _ | refine blk_drew ?_ | refine blk_alloc ?_ _)); exact BK301.out) hb); have n5_ := Aside0.mk (blk_below (g := gb312) (o := .cells #[.int .i64 t307, .slice Ao22 t308.length co22] 28 (0, 0)) (by (with_reducible repeat (first | refine blk_drewN ?_ _ | refine blk_drew ?_ | refine blk_alloc ?_ _)); refine blk_far ?_ NB312_323.out _; (with_reducible repeat (first | refine blk_drewN ?_ _ | refine blk_drew ?_ | refine blk_alloc ?_ _)); refine blk_far ?_ NB312_323.out _; (with_reducible repeat (first | refine blk_drewN ?_ _ | refine blk_drew ?_ | refine blk_alloc ?_ _)); exact BK312.out) hb); have n6_ := Aside0.mk (blk_below (g := gb317) (o := .cells #[.int .i64 t313, .slice Ao29 t314.length co29] 28 (0, 0)) (by (with_reducible repeat (first | refine blk_drewN ?_ _ | refine blk_drew ?_ | refine blk_alloc ?_ _)); refine blk_far ?_ NB317_323.out _; (with_reducible repeat (first | refine blk_drewN ?_ _ | refine blk_drew ?_ | refine blk_alloc ?_ _)); refine blk_far ?_ NB317_323.out _; (with_reducible repeat (first | refine blk_drewN ?_ _ | refine blk_drew ?_ | refine blk_alloc ?_ _)); exact BK317.out) hb); have n7_ := Aside0.mk (blk_below (g := gb323) (o := .cells #[.int .i64 t318, .slice Ao36 t319.length co36] 28 (0, 0)) (by (with_reducible repeat (first | refine blk_drewN ?_ _ | refine blk_drew ?_ | refine blk_alloc ?_ _)); refine blk_put (cs := #[.int .i64 t318, .slice none 0 0]) ?_ 1 _ rfl; (with_reducible repeat (first | refine blk_drewN ?_ _ | refine blk_drew ?_ | refine blk_alloc ?_ _)); refine blk_put (cs := #[.int .i64 0, .slice none 0 0]) ?_ 0 _ rfl; (with_reducible repeat (first | refine blk_drewN ?_ _ | refine blk_drew ?_ | refine blk_alloc ?_ _)); exact BK323.out) hb); have n8_ := Aside0.mk (below_step (by repeat (first | (with_reducible first | exact HB.out | apply below_alloc | apply pw_below_drewN | apply below_drew1 | refine below_set ?_ GE301.out | refine below_set ?_ GE312.out | refine below_set ?_ GE317.out | refine below_set ?_ GE323.out) | exact HB.out)) hb); clear HO306; clear HO310; clear HO316; clear HO321; clear BK301; clear BK312; clear BK317; clear BK323; clear HB; have HO306 := n0_; have HO310 := n1_; have HO316 := n2_; have HO321 := n3_; have BK301 := n4_; have BK312 := n5_; have BK317 := n6_; have BK323 := n7_; have HB := n8_; clear n0_ n1_ n2_ n3_ n4_ n5_ n6_ n7_ n8_; (try clear hb); (try clear hb2); (try clear hk); (try clear hi)))
    go_meet
    case rel => exact ⟨_, (true), (by first | rfl | (simp; done) | (simp [*]; done)), H', ⟨by first | omega | exact Nat.le_refl _⟩, ⟨by (with_reducible repeat (first | apply Kd.R_alloc | apply Kd.R_drewN | apply Kd.R_drew)); exact Kd.R_mono HO310.out (fun _ hk => ⟨hk.1.2, hk.2⟩)⟩, ⟨by (with_reducible repeat (first | apply Kd.R_alloc | apply Kd.R_drewN | apply Kd.R_drew)); exact Kd.R_mono HO316.out (fun _ hk => ⟨hk.1.2, hk.2⟩)⟩, ⟨by (with_reducible repeat (first | apply Kd.R_alloc | apply Kd.R_drewN | apply Kd.R_drew)); exact Kd.R_mono HO321.out (fun _ hk => ⟨hk.1.2, hk.2⟩)⟩, ⟨by (with_reducible repeat (first | refine blk_drewN ?_ _ | refine blk_drew ?_ | refine blk_alloc ?_ _)); exact BK301.out⟩, ⟨by (with_reducible repeat (first | refine blk_drewN ?_ _ | refine blk_drew ?_ | refine blk_alloc ?_ _)); exact BK312.out⟩, ⟨by (with_reducible repeat (first | refine blk_drewN ?_ _ | refine blk_drew ?_ | refine blk_alloc ?_ _)); exact BK317.out⟩, ⟨by (with_reducible repeat (first | refine blk_drewN ?_ _ | refine blk_drew ?_ | refine blk_alloc ?_ _)); exact BK323.out⟩, ⟨by repeat (first | (with_reducible first | exact HB.out | apply below_alloc | apply pw_below_drewN | apply below_drew1 | refine below_set ?_ GE301.out | refine below_set ?_ GE312.out | refine below_set ?_ GE317.out | refine below_set ?_ GE323.out) | exact HB.out)⟩⟩
  case rest =>
   clear HC11; (try clear c1); (try clear c2); (try clear p2); (try clear c3); (try clear c3b0); (try clear c4); (try clear c5); (try clear c7); (try clear c8); (try clear c9); (try clear c10); (try clear c11); (try clear c20); (try clear c26); (try clear c27); (try clear c32); (try clear c33); (try clear c34); (try clear c38); (try clear c39); (try clear c40); (try clear c41); (try clear c43); (try clear c44); (try clear c47); (try clear c48); (try clear c49); (try clear c51); (try clear c52); (try clear hcz13_0); (try clear hcz13_1); (try clear hcz15_0); (try clear hcz15_1); (try clear hcz21_0); (try clear hcz21_1); (try clear hcz23_0); (try clear hcz23_1); (try clear hcz28_0); (try clear hcz28_1); (try clear hcz35_0); (try clear hcz35_1); (try clear hcz42_0); (try clear hcz42_1); (try clear hcz45_0); (try clear hcz45_1); (try clear hcz50_0); (try clear hcz50_1); (try clear hcz53_0); (try clear hcz53_1); (try clear hcz5_0); (try clear hcz5_1); (try clear hfz13_0); (try clear hfz13_1); (try clear hfz15_0); (try clear hfz15_1); (try clear hfz21_0); (try clear hfz21_1); (try clear hfz23_0); (try clear hfz23_1); (try clear hfz28_0); (try clear hfz28_1); (try clear hfz35_0); (try clear hfz35_1); (try clear hfz42_0); (try clear hfz42_1); (try clear hfz45_0); (try clear hfz45_1); (try clear hfz50_0); (try clear hfz50_1); (try clear hfz53_0); (try clear hfz53_1); (try clear hfz5_0); (try clear hfz5_1)
   obtain ⟨kq, x40_10, rfl, HA, HJ10, HO_313001, HO_318001, HO_324001, BK301, BK312, BK317, BK323, HB⟩ := hcut
   cases kq with
   | zero => exact absurd HA.out (by simp [laws_FnExactHarderPuzzle.j0])
   | succ kj10 =>
    have H := HA.out; clear HA
    simp only [laws_FnExactHarderPuzzle.j0] at H
    by_cases c55 : x40_10 = true
    ·subst c55
     have H1 : (some false) = some r := by rw [if_pos rfl] at H; exact H
     clear H; have H := H1; clear H1
     obtain rfl := Option.some.inj H
     exact absurd HR_.out (by decide)
    ·replace c55 := Bool.eq_false_iff.mpr c55
     subst c55
     have H1 : ((laws_toPuzzle.f kj10 a0_0 l0_1).bind fun bt325 => ((laws_eqPuzzle.f kj10 t313 t314 bt325.1 bt325.2).bind fun t329 => (if t329 = true then ((laws_markPuzzle.f kj10 t313 t314 1).bind fun bt330 => (if bt330.1 < 0 then (laws_FnExactHarderPuzzle.j1 kj10 t311 true a0_0 l0_1 t307 t308 t318 t319) else ((laws_eqPuzzle.f kj10 t318 t319 t307 t308).bind fun t332 => (if t332 = true then (laws_FnExactHarderPuzzle.j1 kj10 t311 (t322 != t311) a0_0 l0_1 t307 t308 t318 t319) else (laws_FnExactHarderPuzzle.j1 kj10 t311 true a0_0 l0_1 t307 t308 t318 t319))))) else (some false)))) = some r := by rw [if_neg (show ¬ (false = true) by decide)] at H; exact H
     clear H; have H := H1; clear H1; replace H := Option.bind_eq_some_iff.mp H
     obtain ⟨⟨t325, t326⟩, A560, H⟩ := H
     replace H : ((laws_eqPuzzle.f kj10 t313 t314 t325 t326).bind fun t329 => (if t329 = true then ((laws_markPuzzle.f kj10 t313 t314 1).bind fun bt330 => (if bt330.1 < 0 then (laws_FnExactHarderPuzzle.j1 kj10 t311 true a0_0 l0_1 t307 t308 t318 t319) else ((laws_eqPuzzle.f kj10 t318 t319 t307 t308).bind fun t332 => (if t332 = true then (laws_FnExactHarderPuzzle.j1 kj10 t311 (t322 != t311) a0_0 l0_1 t307 t308 t318 t319) else (laws_FnExactHarderPuzzle.j1 kj10 t311 true a0_0 l0_1 t307 t308 t318 t319))))) else (some false))) = some r := H
     have A56 := Aside0.mk A560
     clear A560; replace H := Option.bind_eq_some_iff.mp H
     obtain ⟨t329, A570, H⟩ := H
     replace H : (if t329 = true then ((laws_markPuzzle.f kj10 t313 t314 1).bind fun bt330 => (if bt330.1 < 0 then (laws_FnExactHarderPuzzle.j1 kj10 t311 true a0_0 l0_1 t307 t308 t318 t319) else ((laws_eqPuzzle.f kj10 t318 t319 t307 t308).bind fun t332 => (if t332 = true then (laws_FnExactHarderPuzzle.j1 kj10 t311 (t322 != t311) a0_0 l0_1 t307 t308 t318 t319) else (laws_FnExactHarderPuzzle.j1 kj10 t311 true a0_0 l0_1 t307 t308 t318 t319))))) else (some false)) = some r := H
     have A57 := Aside0.mk A570
     clear A570
     by_cases c58 : t329 = true
     ·subst c58
      have H1 : ((laws_markPuzzle.f kj10 t313 t314 1).bind fun bt330 => (if bt330.1 < 0 then (laws_FnExactHarderPuzzle.j1 kj10 t311 true a0_0 l0_1 t307 t308 t318 t319) else ((laws_eqPuzzle.f kj10 t318 t319 t307 t308).bind fun t332 => (if t332 = true then (laws_FnExactHarderPuzzle.j1 kj10 t311 (t322 != t311) a0_0 l0_1 t307 t308 t318 t319) else (laws_FnExactHarderPuzzle.j1 kj10 t311 true a0_0 l0_1 t307 t308 t318 t319))))) = some r := by rw [if_pos rfl] at H; exact H
      clear H; have H := H1; clear H1; replace H := Option.bind_eq_some_iff.mp H
      obtain ⟨⟨t330, t331⟩, A590, H⟩ := H
      replace H : (if t330 < 0 then (laws_FnExactHarderPuzzle.j1 kj10 t311 true a0_0 l0_1 t307 t308 t318 t319) else ((laws_eqPuzzle.f kj10 t318 t319 t307 t308).bind fun t332 => (if t332 = true then (laws_FnExactHarderPuzzle.j1 kj10 t311 (t322 != t311) a0_0 l0_1 t307 t308 t318 t319) else (laws_FnExactHarderPuzzle.j1 kj10 t311 true a0_0 l0_1 t307 t308 t318 t319)))) = some r := H
      have A59 := Aside0.mk A590
      clear A590
      have HC60 := Aside0.mk H
      clear H
      try go_wp2
      have n0_ := Aside0.mk (Kd.R_drew HO_313001.out)
      have n1_ := Aside0.mk (Kd.R_drew HO_318001.out)
      have n2_ := Aside0.mk (Kd.R_drew HO_324001.out)
      have n3_ := Aside0.mk (blk_drew BK301.out)
      have n4_ := Aside0.mk (blk_drew BK312.out)
      have n5_ := Aside0.mk (blk_drew BK317.out)
      have n6_ := Aside0.mk (blk_drew BK323.out)
      have n7_ := Aside0.mk (below_drew1 HB.out)
      clear HO_313001; clear HO_318001; clear HO_324001; clear BK301; clear BK312; clear BK317; clear BK323; clear HB; have HO_313001 := n0_; have HO_318001 := n1_; have HO_324001 := n2_; have BK301 := n3_; have BK312 := n4_; have BK317 := n5_; have BK323 := n6_; have HB := n7_; clear n0_ n1_ n2_ n3_ n4_ n5_ n6_ n7_
      refine start_ (n := 5) (S := fun w' => w'.cell? ⟨gb317, 0, none⟩ = some (.int .i64 t313) ∧ w'.cell? ⟨gb317, 1, none⟩ = some (.slice Ao29 t314.length co29) ∧ w'.cell? ⟨gb301, 0, none⟩ = some (.int .i64 a0_0) ∧ w'.cell? ⟨gb301, 1, none⟩ = some (.slice A0_1 l0_1.length c0_1)) (ds := []) #[false, false, false, false, false] (by kernel_rfl) rfl rfl ⟨(blk_cell BK317.out 0).trans rfl, (blk_cell BK317.out 1).trans rfl, (blk_cell BK301.out 0).trans rfl, (blk_cell BK301.out 1).trans rfl⟩ (fun hHeld => ?_)
      generalize wc.drew = w61 at HO_313001 HO_318001 HO_324001 BK301 BK312 BK317 BK323 HB hHeld ⊢
      refine take_ (i := 0) (N := some 41) (v := ?_) (a' := ?_) #[true, false, false, false, false] rfl rfl (by kernel_rfl) (fun _ _ _ h => h) (Or.inl ⟨by rfl, ?_⟩) hHeld ?_ ?_
      rotate_left
      ·rintro w' ⟨s0, s1, s2, s3⟩
       go_simp
       with_reducible rfl
      rotate_left
      ·simp only [Act.put, List.setIfInBounds_toArray, List.set_cons_zero, List.set_cons_succ, i64_w, i32_w]
       rfl
      refine take_ (i := 1) (N := some 42) (v := ?_) (a' := ?_) #[true, true, false, false, false] rfl rfl (by kernel_rfl) (fun _ _ _ h => h) (Or.inl ⟨by rfl, ?_⟩) hHeld ?_ ?_
      rotate_left
      ·rintro w' ⟨s0, s1, s2, s3⟩
       go_simp
       with_reducible rfl
      rotate_left
      ·simp only [Act.put, List.setIfInBounds_toArray, List.set_cons_zero, List.set_cons_succ, i64_w, i32_w]
       rfl
      refine one_ (i := 2) (N := some 43) #[true, true, true, false, false] rfl rfl (by kernel_rfl) (by decide) (fun K hK => ?_)
      refine goes_ Try.func9 (by kernel_rfl) rfl #[.agg #[.int .i64 a0_0, .slice A0_1 l0_1.length c0_1]] (by rfl) rfl rfl (by (try simp only [List.map_toArray, List.map_cons, List.map_nil]); first | done | rfl | (simp only [List.length_drop, List.length_take]; rfl)) ?_
      with_reducible refine (laws_toPuzzle.calls kj10 a0_0 _ _ l0_1 t325 t326 _ ?side1 ?side2 A56.out).mono ?_
      (case side1 => repeat (first | exact (Kd.C_below HR0_1.out HB.out) | (with_reducible refine Kd.C_alloc ?_ _) | (with_reducible refine Kd.C_drewN ?_ _) | (with_reducible refine Kd.C_drew ?_)))
      (case side2 => exact HC0_1.out)
      rintro e w62 ⟨v327, rfl, ho0, hb⟩
      refine ⟨_, rfl, ?_⟩
      have n0_ := Aside0.mk (Kd.R_elder' (by (with_reducible repeat (first | apply Kd.R_alloc | apply Kd.R_drewN | apply Kd.R_drew)); exact HO_313001.out) (Kd.R_base ho0) hb)
      have n1_ := Aside0.mk (Kd.R_elder' (by (with_reducible repeat (first | apply Kd.R_alloc | apply Kd.R_drewN | apply Kd.R_drew)); exact HO_318001.out) (Kd.R_base ho0) hb)
      have n2_ := Aside0.mk (Kd.R_elder' (by (with_reducible repeat (first | apply Kd.R_alloc | apply Kd.R_drewN | apply Kd.R_drew)); exact HO_324001.out) (Kd.R_base ho0) hb)
      have n3_ := Aside0.mk (Kd.R_lower (Kd.R_new' (Kd.R_new' (Kd.R_new' ho0 (Kd.R_lt (by (with_reducible repeat (first | apply Kd.R_alloc | apply Kd.R_drewN | apply Kd.R_drew)); exact HO_313001.out))) (Kd.R_lt (by (with_reducible repeat (first | apply Kd.R_alloc | apply Kd.R_drewN | apply Kd.R_drew)); exact HO_318001.out))) (Kd.R_lt (by (with_reducible repeat (first | apply Kd.R_alloc | apply Kd.R_drewN | apply Kd.R_drew)); exact HO_324001.out))) (below_size (by repeat (first | (with_reducible first | exact HB.out | apply below_alloc | apply pw_below_drewN | apply below_drew1 | refine below_set ?_ GE301.out | refine below_set ?_ GE312.out | refine below_set ?_ GE317.out | refine below_set ?_ GE323.out) | exact HB.out))))
      have n4_ := Aside0.mk (blk_below (g := gb301) (o := .cells #[.int .i64 a0_0, .slice A0_1 l0_1.length c0_1] 24 (0, 0)) (by (with_reducible repeat (first | refine blk_drewN ?_ _ | refine blk_drew ?_ | refine blk_alloc ?_ _)); exact BK301.out) hb)
      have n5_ := Aside0.mk (blk_below (g := gb312) (o := .cells #[.int .i64 t307, .slice Ao22 t308.length co22] 28 (0, 0)) (by (with_reducible repeat (first | refine blk_drewN ?_ _ | refine blk_drew ?_ | refine blk_alloc ?_ _)); exact BK312.out) hb)
      have n6_ := Aside0.mk (blk_below (g := gb317) (o := .cells #[.int .i64 t313, .slice Ao29 t314.length co29] 28 (0, 0)) (by (with_reducible repeat (first | refine blk_drewN ?_ _ | refine blk_drew ?_ | refine blk_alloc ?_ _)); exact BK317.out) hb)
      have n7_ := Aside0.mk (blk_below (g := gb323) (o := .cells #[.int .i64 t318, .slice Ao36 t319.length co36] 28 (0, 0)) (by (with_reducible repeat (first | refine blk_drewN ?_ _ | refine blk_drew ?_ | refine blk_alloc ?_ _)); exact BK323.out) hb)
      have n8_ := Aside0.mk (below_step (by repeat (first | (with_reducible first | exact HB.out | apply below_alloc | apply pw_below_drewN | apply below_drew1 | refine below_set ?_ GE301.out | refine below_set ?_ GE312.out | refine below_set ?_ GE317.out | refine below_set ?_ GE323.out) | exact HB.out)) hb)
      clear HO_313001; clear HO_318001; clear HO_324001; clear BK301; clear BK312; clear BK317; clear BK323; clear HB; have HO_313001 := n0_; have HO_318001 := n1_; have HO_324001 := n2_; have HO328 := n3_; have BK301 := n4_; have BK312 := n5_; have BK317 := n6_; have BK323 := n7_; have HB := n8_; clear n0_ n1_ n2_ n3_ n4_ n5_ n6_ n7_ n8_
      (try clear hb)
      (try clear hb2)
      (try clear hk)
      (try clear hi)
      (try clear ho0)
      obtain ⟨Ao63, co63, eo63⟩ := Kd.R_slice HO328.out
      (first | subst eo63 | (injection eo63 with f1_ f2_ f3_; have f4_ := f1_.symm; have f5_ := f3_.symm; clear f1_ f2_ f3_; subst f4_; subst f5_))
      refine hK.out _ _ ⟨(blk_cell BK317.out 0).trans rfl, (blk_cell BK317.out 1).trans rfl, (blk_cell BK301.out 0).trans rfl, (blk_cell BK301.out 1).trans rfl⟩ (fun hHeld => ?_)
      clear hK K
      refine norm_ (a' := ?_) ?_ ?_
      rotate_left
      ·show Act.put _ (some 43) _ = _
       simp only [Act.put, List.setIfInBounds_toArray, List.set_cons_zero, List.set_cons_succ, i64_w, i32_w]
       rfl
      refine one_ (i := 3) (N := some 44) #[true, true, true, true, false] rfl rfl (by kernel_rfl) (by decide) (fun K hK => ?_)
      refine goes_ Try.func11 (by kernel_rfl) rfl #[.agg #[.int .i64 t313, .slice Ao29 t314.length co29], .agg #[.int .i64 t325, .slice Ao63 t326.length co63]] (by rfl) rfl rfl (by (try simp only [List.map_toArray, List.map_cons, List.map_nil]); first | done | rfl | (simp only [List.length_drop, List.length_take]; rfl)) ?_
      with_reducible refine (laws_eqPuzzle.calls kj10 t313 _ _ t314 t325 _ _ t326 true _ ?side1 ?side2 ?side3 ?side4 A57.out).mono ?_
      (case side1 => repeat (first | exact (Kd.R_reads' HO_318001.out).2.2 | (with_reducible refine Kd.C_alloc ?_ _) | (with_reducible refine Kd.C_drewN ?_ _) | (with_reducible refine Kd.C_drew ?_)))
      (case side2 => exact (Kd.R_reads' HO_318001.out).2.1)
      (case side3 => repeat (first | exact (Kd.R_reads' HO328.out).2.2 | (with_reducible refine Kd.C_alloc ?_ _) | (with_reducible refine Kd.C_drewN ?_ _) | (with_reducible refine Kd.C_drew ?_)))
      (case side4 => exact (Kd.R_reads' HO328.out).2.1)
      rintro e w64 ⟨rfl, hb⟩
      refine ⟨_, rfl, ?_⟩
      have n0_ := Aside0.mk (Kd.R_below (by (with_reducible repeat (first | apply Kd.R_alloc | apply Kd.R_drewN | apply Kd.R_drew)); exact HO_313001.out) hb)
      have n1_ := Aside0.mk (Kd.R_below (by (with_reducible repeat (first | apply Kd.R_alloc | apply Kd.R_drewN | apply Kd.R_drew)); exact HO_318001.out) hb)
      have n2_ := Aside0.mk (Kd.R_below (by (with_reducible repeat (first | apply Kd.R_alloc | apply Kd.R_drewN | apply Kd.R_drew)); exact HO_324001.out) hb)
      have n3_ := Aside0.mk (Kd.R_below (by (with_reducible repeat (first | apply Kd.R_alloc | apply Kd.R_drewN | apply Kd.R_drew)); exact HO328.out) hb)
      have n4_ := Aside0.mk (blk_below (g := gb301) (o := .cells #[.int .i64 a0_0, .slice A0_1 l0_1.length c0_1] 24 (0, 0)) (by (with_reducible repeat (first | refine blk_drewN ?_ _ | refine blk_drew ?_ | refine blk_alloc ?_ _)); exact BK301.out) hb)
      have n5_ := Aside0.mk (blk_below (g := gb312) (o := .cells #[.int .i64 t307, .slice Ao22 t308.length co22] 28 (0, 0)) (by (with_reducible repeat (first | refine blk_drewN ?_ _ | refine blk_drew ?_ | refine blk_alloc ?_ _)); exact BK312.out) hb)
      have n6_ := Aside0.mk (blk_below (g := gb317) (o := .cells #[.int .i64 t313, .slice Ao29 t314.length co29] 28 (0, 0)) (by (with_reducible repeat (first | refine blk_drewN ?_ _ | refine blk_drew ?_ | refine blk_alloc ?_ _)); exact BK317.out) hb)
      have n7_ := Aside0.mk (blk_below (g := gb323) (o := .cells #[.int .i64 t318, .slice Ao36 t319.length co36] 28 (0, 0)) (by (with_reducible repeat (first | refine blk_drewN ?_ _ | refine blk_drew ?_ | refine blk_alloc ?_ _)); exact BK323.out) hb)
      have n8_ := Aside0.mk (below_step (by repeat (first | (with_reducible first | exact HB.out | apply below_alloc | apply pw_below_drewN | apply below_drew1 | refine below_set ?_ GE301.out | refine below_set ?_ GE312.out | refine below_set ?_ GE317.out | refine below_set ?_ GE323.out) | exact HB.out)) hb)
      clear HO_313001; clear HO_318001; clear HO_324001; clear HO328; clear BK301; clear BK312; clear BK317; clear BK323; clear HB; have HO_313001 := n0_; have HO_318001 := n1_; have HO_324001 := n2_; have HO328 := n3_; have BK301 := n4_; have BK312 := n5_; have BK317 := n6_; have BK323 := n7_; have HB := n8_; clear n0_ n1_ n2_ n3_ n4_ n5_ n6_ n7_ n8_
      (try clear hb)
      (try clear hb2)
      (try clear hk)
      (try clear hi)
      refine hK.out _ _ ⟨(blk_cell BK317.out 0).trans rfl, (blk_cell BK317.out 1).trans rfl, (blk_cell BK301.out 0).trans rfl, (blk_cell BK301.out 1).trans rfl⟩ (fun hHeld => ?_)
      clear hK K
      refine norm_ (a' := ?_) ?_ ?_
      rotate_left
      ·show Act.put _ (some 44) _ = _
       simp only [Act.put, List.setIfInBounds_toArray, List.set_cons_zero, List.set_cons_succ, i64_w, i32_w]
       rfl
      refine pure_ (i := 4) (N := some 45) (v := ?_) (a' := ?_) #[true, true, true, true, true] rfl rfl (by kernel_rfl) (fun _ _ _ h => h) (Or.inl ⟨by rfl, ?_⟩) ?_ ?_
      rotate_left
      ·intro w'
       go_simp
       with_reducible rfl
      rotate_left
      ·simp only [Act.put, List.setIfInBounds_toArray, List.set_cons_zero, List.set_cons_succ, i64_w, i32_w]
       rfl
      refine done_ (by kernel_rfl) ?_
      have hnb65 := NB317_301.out; have hnc65 := NB301_317.out; have hnb66 := NB317_312.out; have hnc66 := NB312_317.out; have hnb67 := NB317_323.out; have hnc67 := NB323_317.out
      have hcz68_0 : w64.cell? ⟨gb317, 0, none⟩ = some (.int .i64 t313) := (blk_cell BK317.out 0).trans rfl
      have hcz68_1 : w64.cell? ⟨gb317, 1, none⟩ = some (.slice Ao29 t314.length co29) := (blk_cell BK317.out 1).trans rfl
      have hfz68_0 := blk_frozen BK317.out 0
      have hfz68_1 := blk_frozen BK317.out 1
      go_upto_region 14 with (first | ((with_reducible refine gate_callee (f := 12) rfl ?_); refine goesL_ (some 48) rfl rfl Try.func12 (by kernel_rfl) rfl #[.agg #[.int .i64 t313, .slice Ao29 t314.length co29], .int .i64 1] rfl (by (try simp only [List.map_toArray, List.map_cons, List.map_nil]); first | done | rfl | (simp only [List.length_drop, List.length_take]; rfl)) ?_; (with_reducible refine (laws_markPuzzle.calls kj10 t313 (fun k_ => some k_ = (.slice Ao29 t314.length co29 : Value).ownBlock) (.slice Ao29 t314.length co29) t314 1 t330 t331 w _ ?side1 ?side2 A59.out).mono ?_); (case side1 => repeat (first | (with_reducible first | exact HB.out | apply below_alloc | apply pw_below_drewN | apply below_drew1 | refine below_set ?_ GE301.out | refine below_set ?_ GE312.out | refine below_set ?_ GE317.out | refine below_set ?_ GE323.out) | exact HB.out)); (case side2 => exact Kd.R_tight rfl HO_318001.out); rintro e w69 ⟨rfl, hy0, hb, hkp⟩; refine ⟨_, rfl, ?_⟩; have n0_ := Aside0.mk (Kd.R_mono (ok' := fun k_ => some k_ ≠ (.slice Ao29 t314.length co29 : Value).ownBlock ∧ some k_ ≠ (.slice Ao36 t319.length co36 : Value).ownBlock ∧ some k_ ≠ (.slice Ao63 t326.length co63 : Value).ownBlock) (Kd.R_keptB (HO_313001.out) hkp (fun k_ hk_ hs_ => (hk_.1.1) hs_)) (fun k_ hk_ => ⟨hk_.1.1.1, hk_.1.1.2, hk_.1.2⟩)); have n1_ := Aside0.mk (Kd.R_reok rfl hy0 (fun k_ e_ => HO_318001.out.1 k_ e_)); have n2_ := Aside0.mk (Kd.R_mono (ok' := fun k_ => some k_ ≠ (.slice Ao22 t308.length co22 : Value).ownBlock ∧ some k_ ≠ (.slice Ao29 t314.length co29 : Value).ownBlock ∧ some k_ ≠ (.slice Ao63 t326.length co63 : Value).ownBlock) (Kd.R_keptB (HO_324001.out) hkp (fun k_ hk_ hs_ => (hk_.1.2) hs_)) (fun k_ hk_ => ⟨hk_.1.1.1, hk_.1.1.2, hk_.1.2⟩)); have n3_ := Aside0.mk (blk_kept (by (with_reducible repeat (first | refine blk_drewN ?_ _ | refine blk_drew ?_ | refine blk_alloc ?_ _)); exact BK301.out) hkp (fun hs_ => (fun e_ => (Kd.R_ne HO_318001.out BK301.out (by decide)) e_) hs_)); have n4_ := Aside0.mk (blk_kept (by (with_reducible repeat (first | refine blk_drewN ?_ _ | refine blk_drew ?_ | refine blk_alloc ?_ _)); exact BK312.out) hkp (fun hs_ => (fun e_ => (Kd.R_ne HO_318001.out BK312.out (by decide)) e_) hs_)); have n5_ := Aside0.mk (blk_kept (by (with_reducible repeat (first | refine blk_drewN ?_ _ | refine blk_drew ?_ | refine blk_alloc ?_ _)); exact BK317.out) hkp (fun hs_ => (fun e_ => (Kd.R_ne HO_318001.out BK317.out (by decide)) e_) hs_)); have n6_ := Aside0.mk (blk_kept (by (with_reducible repeat (first | refine blk_drewN ?_ _ | refine blk_drew ?_ | refine blk_alloc ?_ _)); exact BK323.out) hkp (fun hs_ => (fun e_ => (Kd.R_ne HO_318001.out BK323.out (by decide)) e_) hs_)); have n7_ := Aside0.mk (Kd.R_mono (ok' := fun k_ => some k_ ≠ (.slice Ao22 t308.length co22 : Value).ownBlock ∧ some k_ ≠ (.slice Ao29 t314.length co29 : Value).ownBlock ∧ some k_ ≠ (.slice Ao36 t319.length co36 : Value).ownBlock) (Kd.R_keptB (HO328.out) hkp (fun k_ hk_ hs_ => (hk_.1.2) hs_)) (fun k_ hk_ => ⟨hk_.1.1.1.2, hk_.1.1.2, hk_.1.2⟩)); have n8_ := Aside0.mk (hb); clear HO_313001; clear HO_318001; clear HO_324001; clear BK301; clear BK312; clear BK317; clear BK323; clear HO328; clear HB; have HO_313001 := n0_; have HO_318001 := n1_; have HO_324001 := n2_; have BK301 := n3_; have BK312 := n4_; have BK317 := n5_; have BK323 := n6_; have HO328 := n7_; have HB := n8_; clear n0_ n1_ n2_ n3_ n4_ n5_ n6_ n7_ n8_; (try clear hb); (try clear hkp); (try clear hy0)))
      (try simp only [Act.put, List.setIfInBounds_toArray, List.set_cons_zero, List.set_cons_succ])
      go_cut [61] (fun v61 wc => ∃ (kq : Nat) (x61_59 : Bool), v61 = .bool x61_59 ∧ Aside0 (laws_FnExactHarderPuzzle.j1 kq t311 x61_59 a0_0 l0_1 t307 t308 t318 t319 = some r) ∧ Aside0 (kq ≤ kj10) ∧ Aside0 (Kd.R k43 43 wc w.heap.size (fun k_ => some k_ ≠ ((.slice Ao29 t314.length co29) : Value).ownBlock ∧ some k_ ≠ ((.slice Ao36 t319.length co36) : Value).ownBlock) (.slice Ao22 t308.length co22) t308) ∧ Aside0 (Kd.R k43 43 wc w.heap.size (fun k_ => some k_ ≠ ((.slice Ao22 t308.length co22) : Value).ownBlock ∧ some k_ ≠ ((.slice Ao36 t319.length co36) : Value).ownBlock) (.slice Ao29 t314.length co29) t331) ∧ Aside0 (Kd.R k43 43 wc w.heap.size (fun k_ => some k_ ≠ ((.slice Ao22 t308.length co22) : Value).ownBlock ∧ some k_ ≠ ((.slice Ao29 t314.length co29) : Value).ownBlock) (.slice Ao36 t319.length co36) t319) ∧ Aside0 (wc.heap[gb301]? = some (.cells #[.int .i64 a0_0, (.slice A0_1 l0_1.length c0_1)] 24 (0, 0))) ∧ Aside0 (wc.heap[gb312]? = some (.cells #[.int .i64 t307, (.slice Ao22 t308.length co22)] 28 (0, 0))) ∧ Aside0 (wc.heap[gb317]? = some (.cells #[.int .i64 t313, (.slice Ao29 t314.length co29)] 28 (0, 0))) ∧ Aside0 (wc.heap[gb323]? = some (.cells #[.int .i64 t318, (.slice Ao36 t319.length co36)] 28 (0, 0))) ∧ Aside0 (Below w.heap.size w wc))
      case first =>
       have H := HC60.out; clear HC60
       by_cases c70 : t330 < 0
       ·rw [if_pos c70] at H
        have c70b0 : decide (t330 < 0) = true := decide_eq_true c70; clear c70
        (first | rw [c70b0] | (simp only [i64_w, i32_w]; rw [c70b0]) | skip)
        have H' := Aside0.mk H; clear H
        go_wp2
        go_meet
        case rel => exact ⟨_, (true), (by first | rfl | (simp; done) | (simp [*]; done)), H', ⟨by have := HJ10.out; first | omega | exact Nat.le_refl _⟩, ⟨by (with_reducible repeat (first | apply Kd.R_alloc | apply Kd.R_drewN | apply Kd.R_drew)); exact Kd.R_mono HO_313001.out (fun _ hk => ⟨hk.1, hk.2.1⟩)⟩, ⟨by (with_reducible repeat (first | apply Kd.R_alloc | apply Kd.R_drewN | apply Kd.R_drew)); exact Kd.R_mono HO_318001.out (fun _ hk => ⟨hk.1.1, hk.1.2⟩)⟩, ⟨by (with_reducible repeat (first | apply Kd.R_alloc | apply Kd.R_drewN | apply Kd.R_drew)); exact Kd.R_mono HO_324001.out (fun _ hk => ⟨hk.1, hk.2.1⟩)⟩, ⟨by (with_reducible repeat (first | refine blk_drewN ?_ _ | refine blk_drew ?_ | refine blk_alloc ?_ _)); exact BK301.out⟩, ⟨by (with_reducible repeat (first | refine blk_drewN ?_ _ | refine blk_drew ?_ | refine blk_alloc ?_ _)); exact BK312.out⟩, ⟨by (with_reducible repeat (first | refine blk_drewN ?_ _ | refine blk_drew ?_ | refine blk_alloc ?_ _)); exact BK317.out⟩, ⟨by (with_reducible repeat (first | refine blk_drewN ?_ _ | refine blk_drew ?_ | refine blk_alloc ?_ _)); exact BK323.out⟩, ⟨by repeat (first | (with_reducible first | exact HB.out | apply below_alloc | apply pw_below_drewN | apply below_drew1 | refine below_set ?_ GE301.out | refine below_set ?_ GE312.out | refine below_set ?_ GE317.out | refine below_set ?_ GE323.out) | exact HB.out)⟩⟩
       ·rw [if_neg c70] at H
        have c70b0 : decide (t330 < 0) = false := decide_eq_false c70; clear c70
        (first | rw [c70b0] | (simp only [i64_w, i32_w]; rw [c70b0]) | skip)
        replace H := Option.bind_eq_some_iff.mp H
        obtain ⟨t332, A710, H⟩ := H
        replace H : (if t332 = true then (laws_FnExactHarderPuzzle.j1 kj10 t311 (t322 != t311) a0_0 l0_1 t307 t308 t318 t319) else (laws_FnExactHarderPuzzle.j1 kj10 t311 true a0_0 l0_1 t307 t308 t318 t319)) = some r := H
        have A71 := Aside0.mk A710
        clear A710
        by_cases c72 : t332 = true
        ·subst c72
         have H1 : (laws_FnExactHarderPuzzle.j1 kj10 t311 (t322 != t311) a0_0 l0_1 t307 t308 t318 t319) = some r := by rw [if_pos rfl] at H; exact H
         clear H; have H := H1; clear H1; have H' := Aside0.mk H; clear H; have hnb73 := NB323_301.out; have hnc73 := NB301_323.out; have hnb74 := NB323_312.out; have hnc74 := NB312_323.out; have hnb75 := NB323_317.out; have hnc75 := NB317_323.out
         have hcz76_0 : w69.cell? ⟨gb323, 0, none⟩ = some (.int .i64 t318) := (blk_cell BK323.out 0).trans rfl
         have hcz76_1 : w69.cell? ⟨gb323, 1, none⟩ = some (.slice Ao36 t319.length co36) := (blk_cell BK323.out 1).trans rfl
         have hfz76_0 := blk_frozen BK323.out 0
         have hfz76_1 := blk_frozen BK323.out 1
         have hnb77 := NB312_301.out; have hnc77 := NB301_312.out; have hnb78 := NB312_317.out; have hnc78 := NB317_312.out
         have hcz79_0 : w69.cell? ⟨gb312, 0, none⟩ = some (.int .i64 t307) := (blk_cell BK312.out 0).trans rfl
         have hcz79_1 : w69.cell? ⟨gb312, 1, none⟩ = some (.slice Ao22 t308.length co22) := (blk_cell BK312.out 1).trans rfl
         have hfz79_0 := blk_frozen BK312.out 0
         have hfz79_1 := blk_frozen BK312.out 1
         go_wp2_with (first | (go_at_call 11; (with_reducible refine (laws_eqPuzzle.calls kj10 t318 _ _ t319 t307 _ _ t308 true _ ?side1 ?side2 ?side3 ?side4 A71.out).mono ?_); (case side1 => repeat (first | exact (Kd.R_reads' HO_324001.out).2.2 | (with_reducible refine Kd.C_alloc ?_ _) | (with_reducible refine Kd.C_drewN ?_ _) | (with_reducible refine Kd.C_drew ?_))); (case side2 => exact (Kd.R_reads' HO_324001.out).2.1); (case side3 => repeat (first | exact (Kd.R_reads' HO_313001.out).2.2 | (with_reducible refine Kd.C_alloc ?_ _) | (with_reducible refine Kd.C_drewN ?_ _) | (with_reducible refine Kd.C_drew ?_))); (case side4 => exact (Kd.R_reads' HO_313001.out).2.1); rintro e w80 ⟨rfl, hb⟩; have n0_ := Aside0.mk (Kd.R_below (by (with_reducible repeat (first | apply Kd.R_alloc | apply Kd.R_drewN | apply Kd.R_drew)); exact HO_313001.out) hb); have n1_ := Aside0.mk (Kd.R_below (by (with_reducible repeat (first | apply Kd.R_alloc | apply Kd.R_drewN | apply Kd.R_drew)); exact HO_318001.out) hb); have n2_ := Aside0.mk (Kd.R_below (by (with_reducible repeat (first | apply Kd.R_alloc | apply Kd.R_drewN | apply Kd.R_drew)); exact HO_324001.out) hb); have n3_ := Aside0.mk (Kd.R_below (by (with_reducible repeat (first | apply Kd.R_alloc | apply Kd.R_drewN | apply Kd.R_drew)); exact HO328.out) hb); have n4_ := Aside0.mk (blk_below (g := gb301) (o := .cells #[.int .i64 a0_0, .slice A0_1 l0_1.length c0_1] 24 (0, 0)) (by (with_reducible repeat (first | refine blk_drewN ?_ _ | refine blk_drew ?_ | refine blk_alloc ?_ _)); exact BK301.out) hb); have n5_ := Aside0.mk (blk_below (g := gb312) (o := .cells #[.int .i64 t307, .slice Ao22 t308.length co22] 28 (0, 0)) (by (with_reducible repeat (first | refine blk_drewN ?_ _ | refine blk_drew ?_ | refine blk_alloc ?_ _)); exact BK312.out) hb); have n6_ := Aside0.mk (blk_below (g := gb317) (o := .cells #[.int .i64 t313, .slice Ao29 t314.length co29] 28 (0, 0)) (by (with_reducible repeat (first | refine blk_drewN ?_ _ | refine blk_drew ?_ | refine blk_alloc ?_ _)); exact BK317.out) hb); have n7_ := Aside0.mk (blk_below (g := gb323) (o := .cells #[.int .i64 t318, .slice Ao36 t319.length co36] 28 (0, 0)) (by (with_reducible repeat (first | refine blk_drewN ?_ _ | refine blk_drew ?_ | refine blk_alloc ?_ _)); exact BK323.out) hb); have n8_ := Aside0.mk (below_step (by repeat (first | (with_reducible first | exact HB.out | apply below_alloc | apply pw_below_drewN | apply below_drew1 | refine below_set ?_ GE301.out | refine below_set ?_ GE312.out | refine below_set ?_ GE317.out | refine below_set ?_ GE323.out) | exact HB.out)) hb); clear HO_313001; clear HO_318001; clear HO_324001; clear HO328; clear BK301; clear BK312; clear BK317; clear BK323; clear HB; have HO_313001 := n0_; have HO_318001 := n1_; have HO_324001 := n2_; have HO328 := n3_; have BK301 := n4_; have BK312 := n5_; have BK317 := n6_; have BK323 := n7_; have HB := n8_; clear n0_ n1_ n2_ n3_ n4_ n5_ n6_ n7_ n8_; (try clear hb); (try clear hb2); (try clear hk); (try clear hi)))
         go_meet
         case rel => exact ⟨_, ((t322 != t311)), (by first | rfl | (simp; done) | (simp [*]; done)), H', ⟨by have := HJ10.out; first | omega | exact Nat.le_refl _⟩, ⟨by (with_reducible repeat (first | apply Kd.R_alloc | apply Kd.R_drewN | apply Kd.R_drew)); exact Kd.R_mono HO_313001.out (fun _ hk => ⟨hk.1, hk.2.1⟩)⟩, ⟨by (with_reducible repeat (first | apply Kd.R_alloc | apply Kd.R_drewN | apply Kd.R_drew)); exact Kd.R_mono HO_318001.out (fun _ hk => ⟨hk.1.1, hk.1.2⟩)⟩, ⟨by (with_reducible repeat (first | apply Kd.R_alloc | apply Kd.R_drewN | apply Kd.R_drew)); exact Kd.R_mono HO_324001.out (fun _ hk => ⟨hk.1, hk.2.1⟩)⟩, ⟨by (with_reducible repeat (first | refine blk_drewN ?_ _ | refine blk_drew ?_ | refine blk_alloc ?_ _)); exact BK301.out⟩, ⟨by (with_reducible repeat (first | refine blk_drewN ?_ _ | refine blk_drew ?_ | refine blk_alloc ?_ _)); exact BK312.out⟩, ⟨by (with_reducible repeat (first | refine blk_drewN ?_ _ | refine blk_drew ?_ | refine blk_alloc ?_ _)); exact BK317.out⟩, ⟨by (with_reducible repeat (first | refine blk_drewN ?_ _ | refine blk_drew ?_ | refine blk_alloc ?_ _)); exact BK323.out⟩, ⟨by repeat (first | (with_reducible first | exact HB.out | apply below_alloc | apply pw_below_drewN | apply below_drew1 | refine below_set ?_ GE301.out | refine below_set ?_ GE312.out | refine below_set ?_ GE317.out | refine below_set ?_ GE323.out) | exact HB.out)⟩⟩
        ·replace c72 := Bool.eq_false_iff.mpr c72
         subst c72
         have H1 : (laws_FnExactHarderPuzzle.j1 kj10 t311 true a0_0 l0_1 t307 t308 t318 t319) = some r := by rw [if_neg (show ¬ (false = true) by decide)] at H; exact H
         clear H; have H := H1; clear H1; have H' := Aside0.mk H; clear H; have hnb81 := NB323_301.out; have hnc81 := NB301_323.out; have hnb82 := NB323_312.out; have hnc82 := NB312_323.out; have hnb83 := NB323_317.out; have hnc83 := NB317_323.out
         have hcz84_0 : w69.cell? ⟨gb323, 0, none⟩ = some (.int .i64 t318) := (blk_cell BK323.out 0).trans rfl
         have hcz84_1 : w69.cell? ⟨gb323, 1, none⟩ = some (.slice Ao36 t319.length co36) := (blk_cell BK323.out 1).trans rfl
         have hfz84_0 := blk_frozen BK323.out 0
         have hfz84_1 := blk_frozen BK323.out 1
         have hnb85 := NB312_301.out; have hnc85 := NB301_312.out; have hnb86 := NB312_317.out; have hnc86 := NB317_312.out
         have hcz87_0 : w69.cell? ⟨gb312, 0, none⟩ = some (.int .i64 t307) := (blk_cell BK312.out 0).trans rfl
         have hcz87_1 : w69.cell? ⟨gb312, 1, none⟩ = some (.slice Ao22 t308.length co22) := (blk_cell BK312.out 1).trans rfl
         have hfz87_0 := blk_frozen BK312.out 0
         have hfz87_1 := blk_frozen BK312.out 1
         go_wp2_with (first | (go_at_call 11; (with_reducible refine (laws_eqPuzzle.calls kj10 t318 _ _ t319 t307 _ _ t308 false _ ?side1 ?side2 ?side3 ?side4 A71.out).mono ?_); (case side1 => repeat (first | exact (Kd.R_reads' HO_324001.out).2.2 | (with_reducible refine Kd.C_alloc ?_ _) | (with_reducible refine Kd.C_drewN ?_ _) | (with_reducible refine Kd.C_drew ?_))); (case side2 => exact (Kd.R_reads' HO_324001.out).2.1); (case side3 => repeat (first | exact (Kd.R_reads' HO_313001.out).2.2 | (with_reducible refine Kd.C_alloc ?_ _) | (with_reducible refine Kd.C_drewN ?_ _) | (with_reducible refine Kd.C_drew ?_))); (case side4 => exact (Kd.R_reads' HO_313001.out).2.1); rintro e w88 ⟨rfl, hb⟩; have n0_ := Aside0.mk (Kd.R_below (by (with_reducible repeat (first | apply Kd.R_alloc | apply Kd.R_drewN | apply Kd.R_drew)); exact HO_313001.out) hb); have n1_ := Aside0.mk (Kd.R_below (by (with_reducible repeat (first | apply Kd.R_alloc | apply Kd.R_drewN | apply Kd.R_drew)); exact HO_318001.out) hb); have n2_ := Aside0.mk (Kd.R_below (by (with_reducible repeat (first | apply Kd.R_alloc | apply Kd.R_drewN | apply Kd.R_drew)); exact HO_324001.out) hb); have n3_ := Aside0.mk (Kd.R_below (by (with_reducible repeat (first | apply Kd.R_alloc | apply Kd.R_drewN | apply Kd.R_drew)); exact HO328.out) hb); have n4_ := Aside0.mk (blk_below (g := gb301) (o := .cells #[.int .i64 a0_0, .slice A0_1 l0_1.length c0_1] 24 (0, 0)) (by (with_reducible repeat (first | refine blk_drewN ?_ _ | refine blk_drew ?_ | refine blk_alloc ?_ _)); exact BK301.out) hb); have n5_ := Aside0.mk (blk_below (g := gb312) (o := .cells #[.int .i64 t307, .slice Ao22 t308.length co22] 28 (0, 0)) (by (with_reducible repeat (first | refine blk_drewN ?_ _ | refine blk_drew ?_ | refine blk_alloc ?_ _)); exact BK312.out) hb); have n6_ := Aside0.mk (blk_below (g := gb317) (o := .cells #[.int .i64 t313, .slice Ao29 t314.length co29] 28 (0, 0)) (by (with_reducible repeat (first | refine blk_drewN ?_ _ | refine blk_drew ?_ | refine blk_alloc ?_ _)); exact BK317.out) hb); have n7_ := Aside0.mk (blk_below (g := gb323) (o := .cells #[.int .i64 t318, .slice Ao36 t319.length co36] 28 (0, 0)) (by (with_reducible repeat (first | refine blk_drewN ?_ _ | refine blk_drew ?_ | refine blk_alloc ?_ _)); exact BK323.out) hb); have n8_ := Aside0.mk (below_step (by repeat (first | (with_reducible first | exact HB.out | apply below_alloc | apply pw_below_drewN | apply below_drew1 | refine below_set ?_ GE301.out | refine below_set ?_ GE312.out | refine below_set ?_ GE317.out | refine below_set ?_ GE323.out) | exact HB.out)) hb); clear HO_313001; clear HO_318001; clear HO_324001; clear HO328; clear BK301; clear BK312; clear BK317; clear BK323; clear HB; have HO_313001 := n0_; have HO_318001 := n1_; have HO_324001 := n2_; have HO328 := n3_; have BK301 := n4_; have BK312 := n5_; have BK317 := n6_; have BK323 := n7_; have HB := n8_; clear n0_ n1_ n2_ n3_ n4_ n5_ n6_ n7_ n8_; (try clear hb); (try clear hb2); (try clear hk); (try clear hi)))
         go_meet
         case rel => exact ⟨_, (true), (by first | rfl | (simp; done) | (simp [*]; done)), H', ⟨by have := HJ10.out; first | omega | exact Nat.le_refl _⟩, ⟨by (with_reducible repeat (first | apply Kd.R_alloc | apply Kd.R_drewN | apply Kd.R_drew)); exact Kd.R_mono HO_313001.out (fun _ hk => ⟨hk.1, hk.2.1⟩)⟩, ⟨by (with_reducible repeat (first | apply Kd.R_alloc | apply Kd.R_drewN | apply Kd.R_drew)); exact Kd.R_mono HO_318001.out (fun _ hk => ⟨hk.1.1, hk.1.2⟩)⟩, ⟨by (with_reducible repeat (first | apply Kd.R_alloc | apply Kd.R_drewN | apply Kd.R_drew)); exact Kd.R_mono HO_324001.out (fun _ hk => ⟨hk.1, hk.2.1⟩)⟩, ⟨by (with_reducible repeat (first | refine blk_drewN ?_ _ | refine blk_drew ?_ | refine blk_alloc ?_ _)); exact BK301.out⟩, ⟨by (with_reducible repeat (first | refine blk_drewN ?_ _ | refine blk_drew ?_ | refine blk_alloc ?_ _)); exact BK312.out⟩, ⟨by (with_reducible repeat (first | refine blk_drewN ?_ _ | refine blk_drew ?_ | refine blk_alloc ?_ _)); exact BK317.out⟩, ⟨by (with_reducible repeat (first | refine blk_drewN ?_ _ | refine blk_drew ?_ | refine blk_alloc ?_ _)); exact BK323.out⟩, ⟨by repeat (first | (with_reducible first | exact HB.out | apply below_alloc | apply pw_below_drewN | apply below_drew1 | refine below_set ?_ GE301.out | refine below_set ?_ GE312.out | refine below_set ?_ GE317.out | refine below_set ?_ GE323.out) | exact HB.out)⟩⟩
      case rest =>
       clear HC60; (try clear c1); (try clear c2); (try clear p2); (try clear c3); (try clear c3b0); (try clear c4); (try clear c5); (try clear c6); (try clear c7); (try clear c8); (try clear c9); (try clear c10); (try clear c11); (try clear c12); (try clear c20); (try clear c26); (try clear c27); (try clear c32); (try clear c33); (try clear c34); (try clear c38); (try clear c39); (try clear c40); (try clear c41); (try clear c43); (try clear c44); (try clear c47); (try clear c48); (try clear c49); (try clear c51); (try clear c52); (try clear c55); (try clear c58); (try clear c65); (try clear c66); (try clear c67); (try clear c70); (try clear c70b0); (try clear c72); (try clear c73); (try clear c74); (try clear c75); (try clear c77); (try clear c78); (try clear c81); (try clear c82); (try clear c83); (try clear c85); (try clear c86); (try clear hcz13_0); (try clear hcz13_1); (try clear hcz15_0); (try clear hcz15_1); (try clear hcz21_0); (try clear hcz21_1); (try clear hcz23_0); (try clear hcz23_1); (try clear hcz28_0); (try clear hcz28_1); (try clear hcz35_0); (try clear hcz35_1); (try clear hcz42_0); (try clear hcz42_1); (try clear hcz45_0); (try clear hcz45_1); (try clear hcz50_0); (try clear hcz50_1); (try clear hcz53_0); (try clear hcz53_1); (try clear hcz5_0); (try clear hcz5_1); (try clear hcz68_0); (try clear hcz68_1); (try clear hcz76_0); (try clear hcz76_1); (try clear hcz79_0); (try clear hcz79_1); (try clear hcz84_0); (try clear hcz84_1); (try clear hcz87_0); (try clear hcz87_1); (try clear hfz13_0); (try clear hfz13_1); (try clear hfz15_0); (try clear hfz15_1); (try clear hfz21_0); (try clear hfz21_1); (try clear hfz23_0); (try clear hfz23_1); (try clear hfz28_0); (try clear hfz28_1); (try clear hfz35_0); (try clear hfz35_1); (try clear hfz42_0); (try clear hfz42_1); (try clear hfz45_0); (try clear hfz45_1); (try clear hfz50_0); (try clear hfz50_1); (try clear hfz53_0); (try clear hfz53_1); (try clear hfz5_0); (try clear hfz5_1); (try clear hfz68_0); (try clear hfz68_1)
       (try clear hfz76_0); (try clear hfz76_1); (try clear hfz79_0); (try clear hfz79_1); (try clear hfz84_0); (try clear hfz84_1); (try clear hfz87_0); (try clear hfz87_1); (try clear p2)
       obtain ⟨kq, x61_59, rfl, HA, HJ59, HO_313001, HO_318001, HO_324001, BK301, BK312, BK317, BK323, HB⟩ := hcut
       have hl318001_59 := (Kd.R_reads' HO_318001.out).1
       rw [hl318001_59] at HO_318001
       (try simp only [hl318001_59])
       (try simp only [hl318001_59] at BK301)
       (try simp only [hl318001_59] at BK312)
       (try simp only [hl318001_59] at BK317)
       (try simp only [hl318001_59] at BK323)
       (try simp only [hl318001_59] at HO_313001)
       (try simp only [hl318001_59] at HO_324001)
       cases kq with
       | zero => exact absurd HA.out (by simp [laws_FnExactHarderPuzzle.j1])
       | succ kj59 =>
        have H := HA.out; clear HA
        simp only [laws_FnExactHarderPuzzle.j1] at H
        by_cases c89 : x61_59 = true
        ·subst c89
         have H1 : (some false) = some r := by rw [if_pos rfl] at H; exact H
         clear H; have H := H1; clear H1
         obtain rfl := Option.some.inj H
         exact absurd HR_.out (by decide)
        ·replace c89 := Bool.eq_false_iff.mpr c89
         subst c89
         have H1 : ((laws_markPuzzle.f kj59 t318 t319 1).bind fun bt333 => ((laws_heldPuzzle.f kj59 t318 bt333.2 1).bind fun t335 => (if t335 < 0 then (some false) else (if t335 = bt333.1 then ((laws_toPuzzle.f kj59 a0_0 l0_1).bind fun bt336 => ((impl_HarderPuzzle.f kj59 bt336.1 bt336.2).bind fun bt340 => ((laws_eqPuzzle.f kj59 bt340.1 bt340.2.1 t307 t308).bind fun t346 => (if t346 = true then (laws_FnExactHarderPuzzle.j2 kj59 bt333.1 (bt340.2.2 != t311) t318 bt333.2) else (laws_FnExactHarderPuzzle.j2 kj59 bt333.1 true t318 bt333.2))))) else (some false))))) = some r := by rw [if_neg (show ¬ (false = true) by decide)] at H; exact H
         clear H; have H := H1; clear H1; replace H := Option.bind_eq_some_iff.mp H
         obtain ⟨⟨t333, t334⟩, A900, H⟩ := H
         replace H : ((laws_heldPuzzle.f kj59 t318 t334 1).bind fun t335 => (if t335 < 0 then (some false) else (if t335 = t333 then ((laws_toPuzzle.f kj59 a0_0 l0_1).bind fun bt336 => ((impl_HarderPuzzle.f kj59 bt336.1 bt336.2).bind fun bt340 => ((laws_eqPuzzle.f kj59 bt340.1 bt340.2.1 t307 t308).bind fun t346 => (if t346 = true then (laws_FnExactHarderPuzzle.j2 kj59 t333 (bt340.2.2 != t311) t318 t334) else (laws_FnExactHarderPuzzle.j2 kj59 t333 true t318 t334))))) else (some false)))) = some r := H
         have A90 := Aside0.mk A900
         clear A900; replace H := Option.bind_eq_some_iff.mp H
         obtain ⟨t335, A910, H⟩ := H
         replace H : (if t335 < 0 then (some false) else (if t335 = t333 then ((laws_toPuzzle.f kj59 a0_0 l0_1).bind fun bt336 => ((impl_HarderPuzzle.f kj59 bt336.1 bt336.2).bind fun bt340 => ((laws_eqPuzzle.f kj59 bt340.1 bt340.2.1 t307 t308).bind fun t346 => (if t346 = true then (laws_FnExactHarderPuzzle.j2 kj59 t333 (bt340.2.2 != t311) t318 t334) else (laws_FnExactHarderPuzzle.j2 kj59 t333 true t318 t334))))) else (some false))) = some r := H
         have A91 := Aside0.mk A910
         clear A910
         by_cases c92 : t335 < 0
         ·rw [if_pos c92] at H
          have c92b0 : decide (t335 < 0) = true := decide_eq_true c92; clear c92
          obtain rfl := Option.some.inj H
          exact absurd HR_.out (by decide)
         ·rw [if_neg c92] at H
          have c92b0 : decide (t335 < 0) = false := decide_eq_false c92; clear c92
          by_cases c93 : t335 = t333
          ·rw [if_pos c93] at H
           have c93b0 : (t335 == t333) = true := beq_iff_eq.mpr c93
           have c93b1 : (t335 != t333) = false := bne_eq_false_iff_eq.mpr c93
           clear c93; replace H := Option.bind_eq_some_iff.mp H
           obtain ⟨⟨t336, t337⟩, A940, H⟩ := H
           replace H : ((impl_HarderPuzzle.f kj59 t336 t337).bind fun bt340 => ((laws_eqPuzzle.f kj59 bt340.1 bt340.2.1 t307 t308).bind fun t346 => (if t346 = true then (laws_FnExactHarderPuzzle.j2 kj59 t333 (bt340.2.2 != t311) t318 t334) else (laws_FnExactHarderPuzzle.j2 kj59 t333 true t318 t334)))) = some r := H
           have A94 := Aside0.mk A940
           clear A940; replace H := Option.bind_eq_some_iff.mp H
           obtain ⟨⟨t340, t341, t344⟩, A950, H⟩ := H
           replace H : ((laws_eqPuzzle.f kj59 t340 t341 t307 t308).bind fun t346 => (if t346 = true then (laws_FnExactHarderPuzzle.j2 kj59 t333 (t344 != t311) t318 t334) else (laws_FnExactHarderPuzzle.j2 kj59 t333 true t318 t334))) = some r := H
           have A95 := Aside0.mk A950
           clear A950
           have HC96 := Aside0.mk H
           clear H; have hnb97 := NB323_301.out; have hnc97 := NB301_323.out; have hnb98 := NB323_312.out; have hnc98 := NB312_323.out; have hnb99 := NB323_317.out; have hnc99 := NB317_323.out
           have hcz100_0 : wc.cell? ⟨gb323, 0, none⟩ = some (.int .i64 t318) := (blk_cell BK323.out 0).trans rfl
           have hcz100_1 : wc.cell? ⟨gb323, 1, none⟩ = some (.slice Ao36 t319.length co36) := (blk_cell BK323.out 1).trans rfl
           have hfz100_0 := blk_frozen BK323.out 0
           have hfz100_1 := blk_frozen BK323.out 1
           go_upto_region 25 with (first | ((with_reducible refine gate_callee (f := 12) rfl ?_); refine goesL_ (some 64) rfl rfl Try.func12 (by kernel_rfl) rfl #[.agg #[.int .i64 t318, .slice Ao36 t319.length co36], .int .i64 1] rfl (by (try simp only [List.map_toArray, List.map_cons, List.map_nil]); first | done | rfl | (simp only [List.length_drop, List.length_take]; rfl)) ?_; (with_reducible refine (laws_markPuzzle.calls kj59 t318 (fun k_ => some k_ = (.slice Ao36 t319.length co36 : Value).ownBlock) (.slice Ao36 t319.length co36) t319 1 t333 t334 w _ ?side1 ?side2 A90.out).mono ?_); (case side1 => repeat (first | (with_reducible first | exact HB.out | apply below_alloc | apply pw_below_drewN | apply below_drew1 | refine below_set ?_ GE301.out | refine below_set ?_ GE312.out | refine below_set ?_ GE317.out | refine below_set ?_ GE323.out) | exact HB.out)); (case side2 => exact Kd.R_tight rfl HO_324001.out); rintro e w101 ⟨rfl, hy0, hb, hkp⟩; refine ⟨_, rfl, ?_⟩; have n0_ := Aside0.mk (Kd.R_mono (ok' := fun k_ => some k_ ≠ (.slice Ao29 t331.length co29 : Value).ownBlock ∧ some k_ ≠ (.slice Ao36 t319.length co36 : Value).ownBlock) (Kd.R_keptB (HO_313001.out) hkp (fun k_ hk_ hs_ => (hk_.2) hs_)) (fun k_ hk_ => ⟨hk_.1.1, hk_.1.2⟩)); have n1_ := Aside0.mk (Kd.R_mono (ok' := fun k_ => some k_ ≠ (.slice Ao22 t308.length co22 : Value).ownBlock ∧ some k_ ≠ (.slice Ao36 t319.length co36 : Value).ownBlock) (Kd.R_keptB (HO_318001.out) hkp (fun k_ hk_ hs_ => (hk_.2) hs_)) (fun k_ hk_ => ⟨hk_.1.1, hk_.1.2⟩)); have n2_ := Aside0.mk (Kd.R_reok rfl hy0 (fun k_ e_ => HO_324001.out.1 k_ e_)); have n3_ := Aside0.mk (blk_kept (by (with_reducible repeat (first | refine blk_drewN ?_ _ | refine blk_drew ?_ | refine blk_alloc ?_ _)); exact BK301.out) hkp (fun hs_ => (fun e_ => (Kd.R_ne HO_324001.out BK301.out (by decide)) e_) hs_)); have n4_ := Aside0.mk (blk_kept (by (with_reducible repeat (first | refine blk_drewN ?_ _ | refine blk_drew ?_ | refine blk_alloc ?_ _)); exact BK312.out) hkp (fun hs_ => (fun e_ => (Kd.R_ne HO_324001.out BK312.out (by decide)) e_) hs_)); have n5_ := Aside0.mk (blk_kept (by (with_reducible repeat (first | refine blk_drewN ?_ _ | refine blk_drew ?_ | refine blk_alloc ?_ _)); exact BK317.out) hkp (fun hs_ => (fun e_ => (Kd.R_ne HO_324001.out BK317.out (by decide)) e_) hs_)); have n6_ := Aside0.mk (blk_kept (by (with_reducible repeat (first | refine blk_drewN ?_ _ | refine blk_drew ?_ | refine blk_alloc ?_ _)); exact BK323.out) hkp (fun hs_ => (fun e_ => (Kd.R_ne HO_324001.out BK323.out (by decide)) e_) hs_)); have n7_ := Aside0.mk (hb); clear HO_313001; clear HO_318001; clear HO_324001; clear BK301; clear BK312; clear BK317; clear BK323; clear HB; have HO_313001 := n0_; have HO_318001 := n1_; have HO_324001 := n2_; have BK301 := n3_; have BK312 := n4_; have BK317 := n5_; have BK323 := n6_; have HB := n7_; clear n0_ n1_ n2_ n3_ n4_ n5_ n6_ n7_; (try clear hb); (try clear hkp); (try clear hy0); have hcz102_0 : w101.cell? ⟨gb323, 0, none⟩ = some (.int .i64 t318) := (blk_cell BK323.out 0).trans rfl; have hcz102_1 : w101.cell? ⟨gb323, 1, none⟩ = some (.slice Ao36 t319.length co36) := (blk_cell BK323.out 1).trans rfl; have hfz102_0 := blk_frozen BK323.out 0; have hfz102_1 := blk_frozen BK323.out 1) | ((with_reducible refine gate_callee (f := 13) rfl ?_); refine goesL_ (some 67) rfl rfl Try.func13 (by kernel_rfl) rfl #[.agg #[.int .i64 t318, .slice Ao36 t334.length co36], .int .i64 1] rfl (by (try simp only [List.map_toArray, List.map_cons, List.map_nil]); first | done | (rw [show t334.length = t319.length from (Kd.R_reads' HO_324001.out).1.symm] <;> rfl) | rfl | (simp only [List.length_drop, List.length_take]; rfl)) ?_; (with_reducible refine (laws_heldPuzzle.calls kj59 t318 _ _ t334 1 t335 _ ?side1 ?side2 A91.out).mono ?_); (case side1 => repeat (first | exact (Kd.R_reads' HO_324001.out).2.2 | (with_reducible refine Kd.C_alloc ?_ _) | (with_reducible refine Kd.C_drewN ?_ _) | (with_reducible refine Kd.C_drew ?_))); (case side2 => rw [show t334.length = t319.length from (Kd.R_reads' HO_324001.out).1.symm]; exact (Kd.R_reads' HO_324001.out).2.1); rintro e w103 ⟨rfl, hb⟩; refine ⟨_, rfl, ?_⟩; have n0_ := Aside0.mk (Kd.R_below (by (with_reducible repeat (first | apply Kd.R_alloc | apply Kd.R_drewN | apply Kd.R_drew)); exact HO_313001.out) hb); have n1_ := Aside0.mk (Kd.R_below (by (with_reducible repeat (first | apply Kd.R_alloc | apply Kd.R_drewN | apply Kd.R_drew)); exact HO_318001.out) hb); have n2_ := Aside0.mk (Kd.R_below (by (with_reducible repeat (first | apply Kd.R_alloc | apply Kd.R_drewN | apply Kd.R_drew)); exact HO_324001.out) hb); have n3_ := Aside0.mk (blk_below (g := gb301) (o := .cells #[.int .i64 a0_0, .slice A0_1 l0_1.length c0_1] 24 (0, 0)) (by (with_reducible repeat (first | refine blk_drewN ?_ _ | refine blk_drew ?_ | refine blk_alloc ?_ _)); exact BK301.out) hb); have n4_ := Aside0.mk (blk_below (g := gb312) (o := .cells #[.int .i64 t307, .slice Ao22 t308.length co22] 28 (0, 0)) (by (with_reducible repeat (first | refine blk_drewN ?_ _ | refine blk_drew ?_ | refine blk_alloc ?_ _)); exact BK312.out) hb); have n5_ := Aside0.mk (blk_below (g := gb317) (o := .cells #[.int .i64 t313, .slice Ao29 t331.length co29] 28 (0, 0)) (by (with_reducible repeat (first | refine blk_drewN ?_ _ | refine blk_drew ?_ | refine blk_alloc ?_ _)); exact BK317.out) hb); have n6_ := Aside0.mk (blk_below (g := gb323) (o := .cells #[.int .i64 t318, .slice Ao36 t319.length co36] 28 (0, 0)) (by (with_reducible repeat (first | refine blk_drewN ?_ _ | refine blk_drew ?_ | refine blk_alloc ?_ _)); exact BK323.out) hb); have n7_ := Aside0.mk (below_step (by repeat (first | (with_reducible first | exact HB.out | apply below_alloc | apply pw_below_drewN | apply below_drew1 | refine below_set ?_ GE301.out | refine below_set ?_ GE312.out | refine below_set ?_ GE317.out | refine below_set ?_ GE323.out) | exact HB.out)) hb); clear HO_313001; clear HO_318001; clear HO_324001; clear BK301; clear BK312; clear BK317; clear BK323; clear HB; have HO_313001 := n0_; have HO_318001 := n1_; have HO_324001 := n2_; have BK301 := n3_; have BK312 := n4_; have BK317 := n5_; have BK323 := n6_; have HB := n7_; clear n0_ n1_ n2_ n3_ n4_ n5_ n6_ n7_; (try clear hb); (try clear hb2); (try clear hk); (try clear hi); have hnb104 := NB301_312.out; have hnc104 := NB312_301.out; have hnb105 := NB301_317.out; have hnc105 := NB317_301.out; have hcz106_0 : w103.cell? ⟨gb301, 0, none⟩ = some (.int .i64 a0_0) := (blk_cell BK301.out 0).trans rfl; have hcz106_1 : w103.cell? ⟨gb301, 1, none⟩ = some (.slice A0_1 l0_1.length c0_1) := (blk_cell BK301.out 1).trans rfl; have hfz106_0 := blk_frozen BK301.out 0; have hfz106_1 := blk_frozen BK301.out 1) | ((with_reducible refine gate_callee (f := 9) rfl ?_); refine goesL_ (some 75) rfl rfl Try.func9 (by kernel_rfl) rfl #[.agg #[.int .i64 a0_0, .slice A0_1 l0_1.length c0_1]] rfl (by (try simp only [List.map_toArray, List.map_cons, List.map_nil]); first | done | rfl | (simp only [List.length_drop, List.length_take]; rfl)) ?_; (with_reducible refine (laws_toPuzzle.calls kj59 a0_0 _ _ l0_1 t336 t337 _ ?side1 ?side2 A94.out).mono ?_); (case side1 => repeat (first | exact (Kd.C_below HR0_1.out HB.out) | (with_reducible refine Kd.C_alloc ?_ _) | (with_reducible refine Kd.C_drewN ?_ _) | (with_reducible refine Kd.C_drew ?_))); (case side2 => exact HC0_1.out); rintro e w107 ⟨v338, rfl, ho0, hb⟩; refine ⟨_, rfl, ?_⟩; have n0_ := Aside0.mk (Kd.R_elder' (by (with_reducible repeat (first | apply Kd.R_alloc | apply Kd.R_drewN | apply Kd.R_drew)); exact HO_313001.out) (Kd.R_base ho0) hb); have n1_ := Aside0.mk (Kd.R_elder' (by (with_reducible repeat (first | apply Kd.R_alloc | apply Kd.R_drewN | apply Kd.R_drew)); exact HO_318001.out) (Kd.R_base ho0) hb); have n2_ := Aside0.mk (Kd.R_elder' (by (with_reducible repeat (first | apply Kd.R_alloc | apply Kd.R_drewN | apply Kd.R_drew)); exact HO_324001.out) (Kd.R_base ho0) hb); have n3_ := Aside0.mk (Kd.R_lower (Kd.R_new' (Kd.R_new' (Kd.R_new' ho0 (Kd.R_lt (by (with_reducible repeat (first | apply Kd.R_alloc | apply Kd.R_drewN | apply Kd.R_drew)); exact HO_313001.out))) (Kd.R_lt (by (with_reducible repeat (first | apply Kd.R_alloc | apply Kd.R_drewN | apply Kd.R_drew)); exact HO_318001.out))) (Kd.R_lt (by (with_reducible repeat (first | apply Kd.R_alloc | apply Kd.R_drewN | apply Kd.R_drew)); exact HO_324001.out))) (below_size (by repeat (first | (with_reducible first | exact HB.out | apply below_alloc | apply pw_below_drewN | apply below_drew1 | refine below_set ?_ GE301.out | refine below_set ?_ GE312.out | refine below_set ?_ GE317.out | refine below_set ?_ GE323.out) | exact HB.out)))); have n4_ := Aside0.mk (blk_below (g := gb301) (o := .cells #[.int .i64 a0_0, .slice A0_1 l0_1.length c0_1] 24 (0, 0)) (by (with_reducible repeat (first | refine blk_drewN ?_ _ | refine blk_drew ?_ | refine blk_alloc ?_ _)); exact BK301.out) hb); have n5_ := Aside0.mk (blk_below (g := gb312) (o := .cells #[.int .i64 t307, .slice Ao22 t308.length co22] 28 (0, 0)) (by (with_reducible repeat (first | refine blk_drewN ?_ _ | refine blk_drew ?_ | refine blk_alloc ?_ _)); exact BK312.out) hb); have n6_ := Aside0.mk (blk_below (g := gb317) (o := .cells #[.int .i64 t313, .slice Ao29 t331.length co29] 28 (0, 0)) (by (with_reducible repeat (first | refine blk_drewN ?_ _ | refine blk_drew ?_ | refine blk_alloc ?_ _)); exact BK317.out) hb); have n7_ := Aside0.mk (blk_below (g := gb323) (o := .cells #[.int .i64 t318, .slice Ao36 t319.length co36] 28 (0, 0)) (by (with_reducible repeat (first | refine blk_drewN ?_ _ | refine blk_drew ?_ | refine blk_alloc ?_ _)); exact BK323.out) hb); have n8_ := Aside0.mk (below_step (by repeat (first | (with_reducible first | exact HB.out | apply below_alloc | apply pw_below_drewN | apply below_drew1 | refine below_set ?_ GE301.out | refine below_set ?_ GE312.out | refine below_set ?_ GE317.out | refine below_set ?_ GE323.out) | exact HB.out)) hb); clear HO_313001; clear HO_318001; clear HO_324001; clear BK301; clear BK312; clear BK317; clear BK323; clear HB; have HO_313001 := n0_; have HO_318001 := n1_; have HO_324001 := n2_; have HO339 := n3_; have BK301 := n4_; have BK312 := n5_; have BK317 := n6_; have BK323 := n7_; have HB := n8_; clear n0_ n1_ n2_ n3_ n4_ n5_ n6_ n7_ n8_; (try clear hb); (try clear hb2); (try clear hk); (try clear hi); (try clear ho0); obtain ⟨Ao108, co108, eo108⟩ := Kd.R_slice HO339.out; subst eo108) | ((with_reducible refine gate_callee (f := 10) rfl ?_); refine goesL_ (some 76) rfl rfl Try.func10 (by kernel_rfl) rfl #[.agg #[.int .i64 t336, .slice Ao108 t337.length co108]] rfl (by (try simp only [List.map_toArray, List.map_cons, List.map_nil]); first | done | rfl | (simp only [List.length_drop, List.length_take]; rfl)) ?_; (with_reducible refine (impl_HarderPuzzle.calls kj59 t336 _ _ t337 t340 t341 t344 _ ?side1 ?side2 A95.out).mono ?_); (case side1 => repeat (first | exact (Kd.R_reads' HO339.out).2.2 | (with_reducible refine Kd.C_alloc ?_ _) | (with_reducible refine Kd.C_drewN ?_ _) | (with_reducible refine Kd.C_drew ?_))); (case side2 => exact (Kd.R_reads' HO339.out).2.1); rintro e w109 ⟨v342, rfl, ho0, hb⟩; refine ⟨_, rfl, ?_⟩; have n0_ := Aside0.mk (Kd.R_elder' (by (with_reducible repeat (first | apply Kd.R_alloc | apply Kd.R_drewN | apply Kd.R_drew)); exact HO_313001.out) (Kd.R_base ho0) hb); have n1_ := Aside0.mk (Kd.R_elder' (by (with_reducible repeat (first | apply Kd.R_alloc | apply Kd.R_drewN | apply Kd.R_drew)); exact HO_318001.out) (Kd.R_base ho0) hb); have n2_ := Aside0.mk (Kd.R_elder' (by (with_reducible repeat (first | apply Kd.R_alloc | apply Kd.R_drewN | apply Kd.R_drew)); exact HO_324001.out) (Kd.R_base ho0) hb); have n3_ := Aside0.mk (Kd.R_elder' (by (with_reducible repeat (first | apply Kd.R_alloc | apply Kd.R_drewN | apply Kd.R_drew)); exact HO339.out) (Kd.R_base ho0) hb); have n4_ := Aside0.mk (Kd.R_lower (Kd.R_new' (Kd.R_new' (Kd.R_new' (Kd.R_new' ho0 (Kd.R_lt (by (with_reducible repeat (first | apply Kd.R_alloc | apply Kd.R_drewN | apply Kd.R_drew)); exact HO_313001.out))) (Kd.R_lt (by (with_reducible repeat (first | apply Kd.R_alloc | apply Kd.R_drewN | apply Kd.R_drew)); exact HO_318001.out))) (Kd.R_lt (by (with_reducible repeat (first | apply Kd.R_alloc | apply Kd.R_drewN | apply Kd.R_drew)); exact HO_324001.out))) (Kd.R_lt (by (with_reducible repeat (first | apply Kd.R_alloc | apply Kd.R_drewN | apply Kd.R_drew)); exact HO339.out))) (below_size (by repeat (first | (with_reducible first | exact HB.out | apply below_alloc | apply pw_below_drewN | apply below_drew1 | refine below_set ?_ GE301.out | refine below_set ?_ GE312.out | refine below_set ?_ GE317.out | refine below_set ?_ GE323.out) | exact HB.out)))); have n5_ := Aside0.mk (blk_below (g := gb301) (o := .cells #[.int .i64 a0_0, .slice A0_1 l0_1.length c0_1] 24 (0, 0)) (by (with_reducible repeat (first | refine blk_drewN ?_ _ | refine blk_drew ?_ | refine blk_alloc ?_ _)); exact BK301.out) hb); have n6_ := Aside0.mk (blk_below (g := gb312) (o := .cells #[.int .i64 t307, .slice Ao22 t308.length co22] 28 (0, 0)) (by (with_reducible repeat (first | refine blk_drewN ?_ _ | refine blk_drew ?_ | refine blk_alloc ?_ _)); exact BK312.out) hb); have n7_ := Aside0.mk (blk_below (g := gb317) (o := .cells #[.int .i64 t313, .slice Ao29 t331.length co29] 28 (0, 0)) (by (with_reducible repeat (first | refine blk_drewN ?_ _ | refine blk_drew ?_ | refine blk_alloc ?_ _)); exact BK317.out) hb); have n8_ := Aside0.mk (blk_below (g := gb323) (o := .cells #[.int .i64 t318, .slice Ao36 t319.length co36] 28 (0, 0)) (by (with_reducible repeat (first | refine blk_drewN ?_ _ | refine blk_drew ?_ | refine blk_alloc ?_ _)); exact BK323.out) hb); have n9_ := Aside0.mk (below_step (by repeat (first | (with_reducible first | exact HB.out | apply below_alloc | apply pw_below_drewN | apply below_drew1 | refine below_set ?_ GE301.out | refine below_set ?_ GE312.out | refine below_set ?_ GE317.out | refine below_set ?_ GE323.out) | exact HB.out)) hb); clear HO_313001; clear HO_318001; clear HO_324001; clear HO339; clear BK301; clear BK312; clear BK317; clear BK323; clear HB; have HO_313001 := n0_; have HO_318001 := n1_; have HO_324001 := n2_; have HO339 := n3_; have HO343 := n4_; have BK301 := n5_; have BK312 := n6_; have BK317 := n7_; have BK323 := n8_; have HB := n9_; clear n0_ n1_ n2_ n3_ n4_ n5_ n6_ n7_ n8_ n9_; (try clear hb); (try clear hb2); (try clear hk); (try clear hi); (try clear ho0)) | ((with_reducible refine gate_dst (N := 12) rfl ?_); refine box_event ?hg (N := 12) ?hd (cs := #[.int .i64 0, .slice none 0 0]) (t := 28) ?hr ?_; (case hd => rfl); (case hg => rfl); (case hr => first | (go_simp; done) | (go_simp; rfl)); intro gb345 hg w110 hbox hb; have n0_ := Aside0.mk (Kd.R_below (by (with_reducible repeat (first | apply Kd.R_alloc | apply Kd.R_drewN | apply Kd.R_drew)); exact HO_313001.out) hb); have n1_ := Aside0.mk (Kd.R_below (by (with_reducible repeat (first | apply Kd.R_alloc | apply Kd.R_drewN | apply Kd.R_drew)); exact HO_318001.out) hb); have n2_ := Aside0.mk (Kd.R_below (by (with_reducible repeat (first | apply Kd.R_alloc | apply Kd.R_drewN | apply Kd.R_drew)); exact HO_324001.out) hb); have n3_ := Aside0.mk (Kd.R_below (by (with_reducible repeat (first | apply Kd.R_alloc | apply Kd.R_drewN | apply Kd.R_drew)); exact HO339.out) hb); have n4_ := Aside0.mk (Kd.R_below (by (with_reducible repeat (first | apply Kd.R_alloc | apply Kd.R_drewN | apply Kd.R_drew)); exact HO343.out) hb); have n5_ := Aside0.mk (blk_below (g := gb301) (o := .cells #[.int .i64 a0_0, .slice A0_1 l0_1.length c0_1] 24 (0, 0)) (by (with_reducible repeat (first | refine blk_drewN ?_ _ | refine blk_drew ?_ | refine blk_alloc ?_ _)); exact BK301.out) hb); have n6_ := Aside0.mk (blk_below (g := gb312) (o := .cells #[.int .i64 t307, .slice Ao22 t308.length co22] 28 (0, 0)) (by (with_reducible repeat (first | refine blk_drewN ?_ _ | refine blk_drew ?_ | refine blk_alloc ?_ _)); exact BK312.out) hb); have n7_ := Aside0.mk (blk_below (g := gb317) (o := .cells #[.int .i64 t313, .slice Ao29 t331.length co29] 28 (0, 0)) (by (with_reducible repeat (first | refine blk_drewN ?_ _ | refine blk_drew ?_ | refine blk_alloc ?_ _)); exact BK317.out) hb); have n8_ := Aside0.mk (blk_below (g := gb323) (o := .cells #[.int .i64 t318, .slice Ao36 t319.length co36] 28 (0, 0)) (by (with_reducible repeat (first | refine blk_drewN ?_ _ | refine blk_drew ?_ | refine blk_alloc ?_ _)); exact BK323.out) hb); have n9_ := Aside0.mk (below_step (by repeat (first | (with_reducible first | exact HB.out | apply below_alloc | apply pw_below_drewN | apply below_drew1 | refine below_set ?_ GE301.out | refine below_set ?_ GE312.out | refine below_set ?_ GE317.out | refine below_set ?_ GE323.out) | exact HB.out)) hb); have n10_ := Aside0.mk (hbox); have n11_ := Aside0.mk ((by rw [hg]; exact (below_size (by repeat (first | (with_reducible first | exact HB.out | apply below_alloc | apply pw_below_drewN | apply below_drew1 | refine below_set ?_ GE301.out | refine below_set ?_ GE312.out | refine below_set ?_ GE317.out | refine below_set ?_ GE323.out) | exact HB.out))) : w.heap.size ≤ gb345)); have n12_ := Aside0.mk ((by rw [hg]; exact (below_size (by repeat (first | (with_reducible first | exact HB.out | apply below_alloc | apply pw_below_drewN | apply below_drew1 | refine below_set ?_ GE301.out | refine below_set ?_ GE312.out | refine below_set ?_ GE317.out | refine below_set ?_ GE323.out) | exact HB.out))) : w.heap.size ≤ gb345)); have n13_ := Aside0.mk ((by rw [hg]; exact Nat.ne_of_lt (blk_lt (g := gb301) (o := .cells #[.int .i64 a0_0, .slice A0_1 l0_1.length c0_1] 24 (0, 0)) (by (with_reducible repeat (first | refine blk_drewN ?_ _ | refine blk_drew ?_ | refine blk_alloc ?_ _)); exact BK301.out)) : gb301 ≠ gb345)); have n14_ := Aside0.mk ((by rw [hg]; exact Nat.ne_of_gt (blk_lt (g := gb301) (o := .cells #[.int .i64 a0_0, .slice A0_1 l0_1.length c0_1] 24 (0, 0)) (by (with_reducible repeat (first | refine blk_drewN ?_ _ | refine blk_drew ?_ | refine blk_alloc ?_ _)); exact BK301.out)) : gb345 ≠ gb301)); have n15_ := Aside0.mk ((by rw [hg]; exact Nat.ne_of_lt (blk_lt (g := gb312) (o := .cells #[.int .i64 t307, .slice Ao22 t308.length co22] 28 (0, 0)) (by (with_reducible repeat (first | refine blk_drewN ?_ _ | refine blk_drew ?_ | refine blk_alloc ?_ _)); exact BK312.out)) : gb312 ≠ gb345)); have n16_ := Aside0.mk ((by rw [hg]; exact Nat.ne_of_gt (blk_lt (g := gb312) (o := .cells #[.int .i64 t307, .slice Ao22 t308.length co22] 28 (0, 0)) (by (with_reducible repeat (first | refine blk_drewN ?_ _ | refine blk_drew ?_ | refine blk_alloc ?_ _)); exact BK312.out)) : gb345 ≠ gb312)); have n17_ := Aside0.mk ((by rw [hg]; exact Nat.ne_of_lt (blk_lt (g := gb317) (o := .cells #[.int .i64 t313, .slice Ao29 t331.length co29] 28 (0, 0)) (by (with_reducible repeat (first | refine blk_drewN ?_ _ | refine blk_drew ?_ | refine blk_alloc ?_ _)); exact BK317.out)) : gb317 ≠ gb345)); have n18_ := Aside0.mk ((by rw [hg]; exact Nat.ne_of_gt (blk_lt (g := gb317) (o := .cells #[.int .i64 t313, .slice Ao29 t331.length co29] 28 (0, 0)) (by (with_reducible repeat (first | refine blk_drewN ?_ _ | refine blk_drew ?_ | refine blk_alloc ?_ _)); exact BK317.out)) : gb345 ≠ gb317)); have n19_ := Aside0.mk ((by rw [hg]; exact Nat.ne_of_lt (blk_lt (g := gb323) (o := .cells #[.int .i64 t318, .slice Ao36 t319.length co36] 28 (0, 0)) (by (with_reducible repeat (first | refine blk_drewN ?_ _ | refine blk_drew ?_ | refine blk_alloc ?_ _)); exact BK323.out)) : gb323 ≠ gb345)); have n20_ := Aside0.mk ((by rw [hg]; exact Nat.ne_of_gt (blk_lt (g := gb323) (o := .cells #[.int .i64 t318, .slice Ao36 t319.length co36] 28 (0, 0)) (by (with_reducible repeat (first | refine blk_drewN ?_ _ | refine blk_drew ?_ | refine blk_alloc ?_ _)); exact BK323.out)) : gb345 ≠ gb323)); clear HO_313001; clear HO_318001; clear HO_324001; clear HO339; clear HO343; clear BK301; clear BK312; clear BK317; clear BK323; clear HB; have HO_313001 := n0_; have HO_318001 := n1_; have HO_324001 := n2_; have HO339 := n3_; have HO343 := n4_; have BK301 := n5_; have BK312 := n6_; have BK317 := n7_; have BK323 := n8_; have HB := n9_; have BK345 := n10_; have GW345 := n11_; have GE345 := n12_; have NB301_345 := n13_; have NB345_301 := n14_; have NB312_345 := n15_; have NB345_312 := n16_; have NB317_345 := n17_; have NB345_317 := n18_; have NB323_345 := n19_; have NB345_323 := n20_; clear n0_ n1_ n2_ n3_ n4_ n5_ n6_ n7_ n8_ n9_ n10_ n11_ n12_ n13_ n14_ n15_ n16_ n17_ n18_ n19_ n20_; clear hb hbox hg; have hnb111 := NB345_301.out; have hnc111 := NB301_345.out; have hnb112 := NB345_312.out; have hnc112 := NB312_345.out; have hnb113 := NB345_317.out; have hnc113 := NB317_345.out; have hnb114 := NB345_323.out; have hnc114 := NB323_345.out; have hcz115_0 : w110.cell? ⟨gb345, 0, none⟩ = some (.int .i64 0) := (blk_cell BK345.out 0).trans rfl; have hcz115_1 : w110.cell? ⟨gb345, 1, none⟩ = some (.slice none 0 0) := (blk_cell BK345.out 1).trans rfl; have hfz115_0 := blk_frozen BK345.out 0; have hfz115_1 := blk_frozen BK345.out 1; obtain ⟨Ao116, co116, eo116⟩ := Kd.R_slice HO343.out; subst eo116))
           (try simp only [Act.put, List.setIfInBounds_toArray, List.set_cons_zero, List.set_cons_succ])
           go_cut [87] (fun v87 wc => ∃ (kq : Nat) (x87_95 : Bool), v87 = .bool x87_95 ∧ Aside0 (laws_FnExactHarderPuzzle.j2 kq t333 x87_95 t318 t334 = some r) ∧ Aside0 (kq ≤ kj59) ∧ Aside0 (Kd.R k43 43 wc w.heap.size (fun k_ => some k_ ≠ ((.slice Ao29 t331.length co29) : Value).ownBlock ∧ some k_ ≠ ((.slice Ao36 t319.length co36) : Value).ownBlock ∧ some k_ ≠ ((.slice Ao116 t341.length co116) : Value).ownBlock) (.slice Ao22 t308.length co22) t308) ∧ Aside0 (Kd.R k43 43 wc w.heap.size (fun k_ => some k_ ≠ ((.slice Ao22 t308.length co22) : Value).ownBlock ∧ some k_ ≠ ((.slice Ao36 t319.length co36) : Value).ownBlock ∧ some k_ ≠ ((.slice Ao116 t341.length co116) : Value).ownBlock) (.slice Ao29 t331.length co29) t331) ∧ Aside0 (Kd.R k43 43 wc w.heap.size (fun k_ => some k_ ≠ ((.slice Ao22 t308.length co22) : Value).ownBlock ∧ some k_ ≠ ((.slice Ao29 t331.length co29) : Value).ownBlock ∧ some k_ ≠ ((.slice Ao116 t341.length co116) : Value).ownBlock) (.slice Ao36 t319.length co36) t334) ∧ Aside0 (Kd.R k43 43 wc w.heap.size (fun k_ => some k_ ≠ ((.slice Ao22 t308.length co22) : Value).ownBlock ∧ some k_ ≠ ((.slice Ao29 t331.length co29) : Value).ownBlock ∧ some k_ ≠ ((.slice Ao36 t319.length co36) : Value).ownBlock) (.slice Ao116 t341.length co116) t341) ∧ Aside0 (wc.heap[gb301]? = some (.cells #[.int .i64 a0_0, (.slice A0_1 l0_1.length c0_1)] 24 (0, 0))) ∧ Aside0 (wc.heap[gb312]? = some (.cells #[.int .i64 t307, (.slice Ao22 t308.length co22)] 28 (0, 0))) ∧ Aside0 (wc.heap[gb317]? = some (.cells #[.int .i64 t313, (.slice Ao29 t331.length co29)] 28 (0, 0))) ∧ Aside0 (wc.heap[gb323]? = some (.cells #[.int .i64 t318, (.slice Ao36 t319.length co36)] 28 (0, 0))) ∧ Aside0 (wc.heap[gb345]? = some (.cells #[.int .i64 t340, (.slice Ao116 t341.length co116)] 28 (0, 0))) ∧ Aside0 (Below w.heap.size w wc))
           case first =>
            have H := HC96.out; clear HC96; replace H := Option.bind_eq_some_iff.mp H
            obtain ⟨t346, A1170, H⟩ := H
            replace H : (if t346 = true then (laws_FnExactHarderPuzzle.j2 kj59 t333 (t344 != t311) t318 t334) else (laws_FnExactHarderPuzzle.j2 kj59 t333 true t318 t334)) = some r := H
            have A117 := Aside0.mk A1170
            clear A1170
            by_cases c118 : t346 = true
            ·subst c118
             have H1 : (laws_FnExactHarderPuzzle.j2 kj59 t333 (t344 != t311) t318 t334) = some r := by rw [if_pos rfl] at H; exact H
             clear H; have H := H1; clear H1; have H' := Aside0.mk H; clear H; have hnb119 := NB345_301.out; have hnc119 := NB301_345.out; have hnb120 := NB345_312.out; have hnc120 := NB312_345.out; have hnb121 := NB345_317.out; have hnc121 := NB317_345.out; have hnb122 := NB345_323.out; have hnc122 := NB323_345.out
             have hcz123_0 : w110.cell? ⟨gb345, 0, none⟩ = some (.int .i64 0) := (blk_cell BK345.out 0).trans rfl
             have hcz123_1 : w110.cell? ⟨gb345, 1, none⟩ = some (.slice none 0 0) := (blk_cell BK345.out 1).trans rfl
             have hfz123_0 := blk_frozen BK345.out 0
             have hfz123_1 := blk_frozen BK345.out 1
             have hnb124 := NB312_301.out; have hnc124 := NB301_312.out; have hnb125 := NB312_317.out; have hnc125 := NB317_312.out; have hnb126 := NB312_323.out; have hnc126 := NB323_312.out
             have hcz127_0 : w110.cell? ⟨gb312, 0, none⟩ = some (.int .i64 t307) := (blk_cell BK312.out 0).trans rfl
             have hcz127_1 : w110.cell? ⟨gb312, 1, none⟩ = some (.slice Ao22 t308.length co22) := (blk_cell BK312.out 1).trans rfl
             have hfz127_0 := blk_frozen BK312.out 0
             have hfz127_1 := blk_frozen BK312.out 1
             go_wp2_with (first | ((with_reducible refine gate_callee (f := 11) rfl ?_); refine goesL_ (some 81) rfl rfl Try.func11 (by kernel_rfl) rfl #[.agg #[.int .i64 t340, .slice Ao116 t341.length co116], .agg #[.int .i64 t307, .slice Ao22 t308.length co22]] rfl (by (try simp only [List.map_toArray, List.map_cons, List.map_nil]); first | done | rfl | (simp only [List.length_drop, List.length_take]; rfl)) ?_; (with_reducible refine (laws_eqPuzzle.calls kj59 t340 _ _ t341 t307 _ _ t308 true _ ?side1 ?side2 ?side3 ?side4 A117.out).mono ?_); (case side1 => refine (Kd.R_reads' (e := 43) (base := w.heap.size) (ok := fun k_ => ((((True ∧ some k_ ≠ (.slice Ao22 t308.length co22 : Value).ownBlock) ∧ some k_ ≠ (.slice Ao29 t331.length co29 : Value).ownBlock) ∧ some k_ ≠ (.slice Ao36 t319.length co36 : Value).ownBlock) ∧ some k_ ≠ (.slice Ao108 t337.length co108 : Value).ownBlock)) (n := t341.length) (c := co116) ?_).2.2; exact (by (with_reducible repeat (first | apply Kd.R_alloc | apply Kd.R_drewN | apply Kd.R_drew)); exact (Kd.R_mono (Kd.R_far (p := ⟨gb345, 1, none⟩) (Kd.R_far (p := ⟨gb345, 0, none⟩) (Kd.R_types HO343.out BK345.out (by decide)) (fun _ hk => hk.2) (.int .i64 t340)) (fun _ hk => hk.2) (.slice Ao116 t341.length co116)) (fun _ h_ => h_.1)))); (case side2 => exact (Kd.R_reads' HO343.out).2.1); (case side3 => refine (Kd.R_reads' (e := 43) (base := w.heap.size) (ok := fun k_ => (((some k_ ≠ (.slice Ao29 t331.length co29 : Value).ownBlock ∧ some k_ ≠ (.slice Ao36 t319.length co36 : Value).ownBlock) ∧ some k_ ≠ (.slice Ao108 t337.length co108 : Value).ownBlock) ∧ some k_ ≠ (.slice Ao116 t341.length co116 : Value).ownBlock)) (n := t308.length) (c := co22) ?_).2.2; exact (by (with_reducible repeat (first | apply Kd.R_alloc | apply Kd.R_drewN | apply Kd.R_drew)); exact (Kd.R_mono (Kd.R_far (p := ⟨gb345, 1, none⟩) (Kd.R_far (p := ⟨gb345, 0, none⟩) (Kd.R_types HO_313001.out BK345.out (by decide)) (fun _ hk => hk.2) (.int .i64 t340)) (fun _ hk => hk.2) (.slice Ao116 t341.length co116)) (fun _ h_ => h_.1)))); (case side4 => exact (Kd.R_reads' HO_313001.out).2.1); rintro e w128 ⟨rfl, hb⟩; refine ⟨_, rfl, ?_⟩; have n0_ := Aside0.mk (Kd.R_below (by (with_reducible repeat (first | apply Kd.R_alloc | apply Kd.R_drewN | apply Kd.R_drew)); exact (Kd.R_mono (Kd.R_far (p := ⟨gb345, 1, none⟩) (Kd.R_far (p := ⟨gb345, 0, none⟩) (Kd.R_types HO_313001.out BK345.out (by decide)) (fun _ hk => hk.2) (.int .i64 t340)) (fun _ hk => hk.2) (.slice Ao116 t341.length co116)) (fun _ h_ => h_.1))) hb); have n1_ := Aside0.mk (Kd.R_below (by (with_reducible repeat (first | apply Kd.R_alloc | apply Kd.R_drewN | apply Kd.R_drew)); exact (Kd.R_mono (Kd.R_far (p := ⟨gb345, 1, none⟩) (Kd.R_far (p := ⟨gb345, 0, none⟩) (Kd.R_types HO_318001.out BK345.out (by decide)) (fun _ hk => hk.2) (.int .i64 t340)) (fun _ hk => hk.2) (.slice Ao116 t341.length co116)) (fun _ h_ => h_.1))) hb); have n2_ := Aside0.mk (Kd.R_below (by (with_reducible repeat (first | apply Kd.R_alloc | apply Kd.R_drewN | apply Kd.R_drew)); exact (Kd.R_mono (Kd.R_far (p := ⟨gb345, 1, none⟩) (Kd.R_far (p := ⟨gb345, 0, none⟩) (Kd.R_types HO_324001.out BK345.out (by decide)) (fun _ hk => hk.2) (.int .i64 t340)) (fun _ hk => hk.2) (.slice Ao116 t341.length co116)) (fun _ h_ => h_.1))) hb); have n3_ := Aside0.mk (Kd.R_below (by (with_reducible repeat (first | apply Kd.R_alloc | apply Kd.R_drewN | apply Kd.R_drew)); exact (Kd.R_mono (Kd.R_far (p := ⟨gb345, 1, none⟩) (Kd.R_far (p := ⟨gb345, 0, none⟩) (Kd.R_types HO339.out BK345.out (by decide)) (fun _ hk => hk.2) (.int .i64 t340)) (fun _ hk => hk.2) (.slice Ao116 t341.length co116)) (fun _ h_ => h_.1))) hb); have n4_ := Aside0.mk (Kd.R_below (by (with_reducible repeat (first | apply Kd.R_alloc | apply Kd.R_drewN | apply Kd.R_drew)); exact (Kd.R_mono (Kd.R_far (p := ⟨gb345, 1, none⟩) (Kd.R_far (p := ⟨gb345, 0, none⟩) (Kd.R_types HO343.out BK345.out (by decide)) (fun _ hk => hk.2) (.int .i64 t340)) (fun _ hk => hk.2) (.slice Ao116 t341.length co116)) (fun _ h_ => h_.1))) hb); have n5_ := Aside0.mk (blk_below (g := gb301) (o := .cells #[.int .i64 a0_0, .slice A0_1 l0_1.length c0_1] 24 (0, 0)) (by (with_reducible repeat (first | refine blk_drewN ?_ _ | refine blk_drew ?_ | refine blk_alloc ?_ _)); refine blk_far ?_ NB301_345.out _; (with_reducible repeat (first | refine blk_drewN ?_ _ | refine blk_drew ?_ | refine blk_alloc ?_ _)); refine blk_far ?_ NB301_345.out _; (with_reducible repeat (first | refine blk_drewN ?_ _ | refine blk_drew ?_ | refine blk_alloc ?_ _)); exact BK301.out) hb); have n6_ := Aside0.mk (blk_below (g := gb312) (o := .cells #[.int .i64 t307, .slice Ao22 t308.length co22] 28 (0, 0)) (by (with_reducible repeat (first | refine blk_drewN ?_ _ | refine blk_drew ?_ | refine blk_alloc ?_ _)); refine blk_far ?_ NB312_345.out _; (with_reducible repeat (first | refine blk_drewN ?_ _ | refine blk_drew ?_ | refine blk_alloc ?_ _)); refine blk_far ?_ NB312_345.out _; (with_reducible repeat (first | refine blk_drewN ?_ _ | refine blk_drew ?_ | refine blk_alloc ?_ _)); exact BK312.out) hb); have n7_ := Aside0.mk (blk_below (g := gb317) (o := .cells #[.int .i64 t313, .slice Ao29 t331.length co29] 28 (0, 0)) (by (with_reducible repeat (first | refine blk_drewN ?_ _ | refine blk_drew ?_ | refine blk_alloc ?_ _)); refine blk_far ?_ NB317_345.out _; (with_reducible repeat (first | refine blk_drewN ?_ _ | refine blk_drew ?_ | refine blk_alloc ?_ _)); refine blk_far ?_ NB317_345.out _; (with_reducible repeat (first | refine blk_drewN ?_ _ | refine blk_drew ?_ | refine blk_alloc ?_ _)); exact BK317.out) hb); have n8_ := Aside0.mk (blk_below (g := gb323) (o := .cells #[.int .i64 t318, .slice Ao36 t319.length co36] 28 (0, 0)) (by (with_reducible repeat (first | refine blk_drewN ?_ _ | refine blk_drew ?_ | refine blk_alloc ?_ _)); refine blk_far ?_ NB323_345.out _; (with_reducible repeat (first | refine blk_drewN ?_ _ | refine blk_drew ?_ | refine blk_alloc ?_ _)); refine blk_far ?_ NB323_345.out _; (with_reducible repeat (first | refine blk_drewN ?_ _ | refine blk_drew ?_ | refine blk_alloc ?_ _)); exact BK323.out) hb); have n9_ := Aside0.mk (blk_below (g := gb345) (o := .cells #[.int .i64 t340, .slice Ao116 t341.length co116] 28 (0, 0)) (by (with_reducible repeat (first | refine blk_drewN ?_ _ | refine blk_drew ?_ | refine blk_alloc ?_ _)); refine blk_put (cs := #[.int .i64 t340, .slice none 0 0]) ?_ 1 _ rfl; (with_reducible repeat (first | refine blk_drewN ?_ _ | refine blk_drew ?_ | refine blk_alloc ?_ _)); refine blk_put (cs := #[.int .i64 0, .slice none 0 0]) ?_ 0 _ rfl; (with_reducible repeat (first | refine blk_drewN ?_ _ | refine blk_drew ?_ | refine blk_alloc ?_ _)); exact BK345.out) hb); have n10_ := Aside0.mk (below_step (by repeat (first | (with_reducible first | exact HB.out | apply below_alloc | apply pw_below_drewN | apply below_drew1 | refine below_set ?_ GE301.out | refine below_set ?_ GE312.out | refine below_set ?_ GE317.out | refine below_set ?_ GE323.out | refine below_set ?_ GE345.out) | exact HB.out)) hb); clear HO_313001; clear HO_318001; clear HO_324001; clear HO339; clear HO343; clear BK301; clear BK312; clear BK317; clear BK323; clear BK345; clear HB; have HO_313001 := n0_; have HO_318001 := n1_; have HO_324001 := n2_; have HO339 := n3_; have HO343 := n4_; have BK301 := n5_; have BK312 := n6_; have BK317 := n7_; have BK323 := n8_; have BK345 := n9_; have HB := n10_; clear n0_ n1_ n2_ n3_ n4_ n5_ n6_ n7_ n8_ n9_ n10_; (try clear hb); (try clear hb2); (try clear hk); (try clear hi)))
             go_meet
             case rel => exact ⟨_, ((t344 != t311)), (by first | rfl | (simp; done) | (simp [*]; done)), H', ⟨by have := HJ10.out; have := HJ59.out; first | omega | exact Nat.le_refl _⟩, ⟨by (try simp only [hl318001_59]); (with_reducible repeat (first | apply Kd.R_alloc | apply Kd.R_drewN | apply Kd.R_drew)); exact Kd.R_mono HO_313001.out (fun _ hk => ⟨hk.1.1.1, ⟨hk.1.1.2, hk.2⟩⟩)⟩, ⟨by (try simp only [hl318001_59]); (with_reducible repeat (first | apply Kd.R_alloc | apply Kd.R_drewN | apply Kd.R_drew)); exact Kd.R_mono HO_318001.out (fun _ hk => ⟨hk.1.1.1, ⟨hk.1.1.2, hk.2⟩⟩)⟩, ⟨by (try simp only [hl318001_59]); (with_reducible repeat (first | apply Kd.R_alloc | apply Kd.R_drewN | apply Kd.R_drew)); exact Kd.R_mono HO_324001.out (fun _ hk => ⟨hk.1.1.1, ⟨hk.1.1.2, hk.2⟩⟩)⟩, ⟨by (try simp only [hl318001_59]); (with_reducible repeat (first | apply Kd.R_alloc | apply Kd.R_drewN | apply Kd.R_drew)); exact Kd.R_mono HO343.out (fun _ hk => ⟨hk.1.1.1.2, ⟨hk.1.1.2, hk.1.2⟩⟩)⟩, ⟨by (try simp only [hl318001_59]); (with_reducible repeat (first | refine blk_drewN ?_ _ | refine blk_drew ?_ | refine blk_alloc ?_ _)); exact BK301.out⟩, ⟨by (try simp only [hl318001_59]); (with_reducible repeat (first | refine blk_drewN ?_ _ | refine blk_drew ?_ | refine blk_alloc ?_ _)); exact BK312.out⟩, ⟨by (try simp only [hl318001_59]); (with_reducible repeat (first | refine blk_drewN ?_ _ | refine blk_drew ?_ | refine blk_alloc ?_ _)); exact BK317.out⟩, ⟨by (try simp only [hl318001_59]); (with_reducible repeat (first | refine blk_drewN ?_ _ | refine blk_drew ?_ | refine blk_alloc ?_ _)); exact BK323.out⟩, ⟨by (try simp only [hl318001_59]); (with_reducible repeat (first | refine blk_drewN ?_ _ | refine blk_drew ?_ | refine blk_alloc ?_ _)); exact BK345.out⟩, ⟨by repeat (first | (with_reducible first | exact HB.out | apply below_alloc | apply pw_below_drewN | apply below_drew1 | refine below_set ?_ GE301.out | refine below_set ?_ GE312.out | refine below_set ?_ GE317.out | refine below_set ?_ GE323.out | refine below_set ?_ GE345.out) | exact HB.out)⟩⟩
            ·replace c118 := Bool.eq_false_iff.mpr c118
             subst c118
             have H1 : (laws_FnExactHarderPuzzle.j2 kj59 t333 true t318 t334) = some r := by rw [if_neg (show ¬ (false = true) by decide)] at H; exact H
             clear H; have H := H1; clear H1; have H' := Aside0.mk H; clear H; have hnb129 := NB345_301.out; have hnc129 := NB301_345.out; have hnb130 := NB345_312.out; have hnc130 := NB312_345.out; have hnb131 := NB345_317.out; have hnc131 := NB317_345.out; have hnb132 := NB345_323.out; have hnc132 := NB323_345.out
             have hcz133_0 : w110.cell? ⟨gb345, 0, none⟩ = some (.int .i64 0) := (blk_cell BK345.out 0).trans rfl
             have hcz133_1 : w110.cell? ⟨gb345, 1, none⟩ = some (.slice none 0 0) := (blk_cell BK345.out 1).trans rfl
             have hfz133_0 := blk_frozen BK345.out 0
             have hfz133_1 := blk_frozen BK345.out 1
             have hnb134 := NB312_301.out; have hnc134 := NB301_312.out; have hnb135 := NB312_317.out; have hnc135 := NB317_312.out; have hnb136 := NB312_323.out; have hnc136 := NB323_312.out
             have hcz137_0 : w110.cell? ⟨gb312, 0, none⟩ = some (.int .i64 t307) := (blk_cell BK312.out 0).trans rfl
             have hcz137_1 : w110.cell? ⟨gb312, 1, none⟩ = some (.slice Ao22 t308.length co22) := (blk_cell BK312.out 1).trans rfl
             have hfz137_0 := blk_frozen BK312.out 0
             have hfz137_1 := blk_frozen BK312.out 1
             go_wp2_with (first | ((with_reducible refine gate_callee (f := 11) rfl ?_); refine goesL_ (some 81) rfl rfl Try.func11 (by kernel_rfl) rfl #[.agg #[.int .i64 t340, .slice Ao116 t341.length co116], .agg #[.int .i64 t307, .slice Ao22 t308.length co22]] rfl (by (try simp only [List.map_toArray, List.map_cons, List.map_nil]); first | done | rfl | (simp only [List.length_drop, List.length_take]; rfl)) ?_; (with_reducible refine (laws_eqPuzzle.calls kj59 t340 _ _ t341 t307 _ _ t308 false _ ?side1 ?side2 ?side3 ?side4 A117.out).mono ?_); (case side1 => refine (Kd.R_reads' (e := 43) (base := w.heap.size) (ok := fun k_ => ((((True ∧ some k_ ≠ (.slice Ao22 t308.length co22 : Value).ownBlock) ∧ some k_ ≠ (.slice Ao29 t331.length co29 : Value).ownBlock) ∧ some k_ ≠ (.slice Ao36 t319.length co36 : Value).ownBlock) ∧ some k_ ≠ (.slice Ao108 t337.length co108 : Value).ownBlock)) (n := t341.length) (c := co116) ?_).2.2; exact (by (with_reducible repeat (first | apply Kd.R_alloc | apply Kd.R_drewN | apply Kd.R_drew)); exact (Kd.R_mono (Kd.R_far (p := ⟨gb345, 1, none⟩) (Kd.R_far (p := ⟨gb345, 0, none⟩) (Kd.R_types HO343.out BK345.out (by decide)) (fun _ hk => hk.2) (.int .i64 t340)) (fun _ hk => hk.2) (.slice Ao116 t341.length co116)) (fun _ h_ => h_.1)))); (case side2 => exact (Kd.R_reads' HO343.out).2.1); (case side3 => refine (Kd.R_reads' (e := 43) (base := w.heap.size) (ok := fun k_ => (((some k_ ≠ (.slice Ao29 t331.length co29 : Value).ownBlock ∧ some k_ ≠ (.slice Ao36 t319.length co36 : Value).ownBlock) ∧ some k_ ≠ (.slice Ao108 t337.length co108 : Value).ownBlock) ∧ some k_ ≠ (.slice Ao116 t341.length co116 : Value).ownBlock)) (n := t308.length) (c := co22) ?_).2.2; exact (by (with_reducible repeat (first | apply Kd.R_alloc | apply Kd.R_drewN | apply Kd.R_drew)); exact (Kd.R_mono (Kd.R_far (p := ⟨gb345, 1, none⟩) (Kd.R_far (p := ⟨gb345, 0, none⟩) (Kd.R_types HO_313001.out BK345.out (by decide)) (fun _ hk => hk.2) (.int .i64 t340)) (fun _ hk => hk.2) (.slice Ao116 t341.length co116)) (fun _ h_ => h_.1)))); (case side4 => exact (Kd.R_reads' HO_313001.out).2.1); rintro e w138 ⟨rfl, hb⟩; refine ⟨_, rfl, ?_⟩; have n0_ := Aside0.mk (Kd.R_below (by (with_reducible repeat (first | apply Kd.R_alloc | apply Kd.R_drewN | apply Kd.R_drew)); exact (Kd.R_mono (Kd.R_far (p := ⟨gb345, 1, none⟩) (Kd.R_far (p := ⟨gb345, 0, none⟩) (Kd.R_types HO_313001.out BK345.out (by decide)) (fun _ hk => hk.2) (.int .i64 t340)) (fun _ hk => hk.2) (.slice Ao116 t341.length co116)) (fun _ h_ => h_.1))) hb); have n1_ := Aside0.mk (Kd.R_below (by (with_reducible repeat (first | apply Kd.R_alloc | apply Kd.R_drewN | apply Kd.R_drew)); exact (Kd.R_mono (Kd.R_far (p := ⟨gb345, 1, none⟩) (Kd.R_far (p := ⟨gb345, 0, none⟩) (Kd.R_types HO_318001.out BK345.out (by decide)) (fun _ hk => hk.2) (.int .i64 t340)) (fun _ hk => hk.2) (.slice Ao116 t341.length co116)) (fun _ h_ => h_.1))) hb); have n2_ := Aside0.mk (Kd.R_below (by (with_reducible repeat (first | apply Kd.R_alloc | apply Kd.R_drewN | apply Kd.R_drew)); exact (Kd.R_mono (Kd.R_far (p := ⟨gb345, 1, none⟩) (Kd.R_far (p := ⟨gb345, 0, none⟩) (Kd.R_types HO_324001.out BK345.out (by decide)) (fun _ hk => hk.2) (.int .i64 t340)) (fun _ hk => hk.2) (.slice Ao116 t341.length co116)) (fun _ h_ => h_.1))) hb); have n3_ := Aside0.mk (Kd.R_below (by (with_reducible repeat (first | apply Kd.R_alloc | apply Kd.R_drewN | apply Kd.R_drew)); exact (Kd.R_mono (Kd.R_far (p := ⟨gb345, 1, none⟩) (Kd.R_far (p := ⟨gb345, 0, none⟩) (Kd.R_types HO339.out BK345.out (by decide)) (fun _ hk => hk.2) (.int .i64 t340)) (fun _ hk => hk.2) (.slice Ao116 t341.length co116)) (fun _ h_ => h_.1))) hb); have n4_ := Aside0.mk (Kd.R_below (by (with_reducible repeat (first | apply Kd.R_alloc | apply Kd.R_drewN | apply Kd.R_drew)); exact (Kd.R_mono (Kd.R_far (p := ⟨gb345, 1, none⟩) (Kd.R_far (p := ⟨gb345, 0, none⟩) (Kd.R_types HO343.out BK345.out (by decide)) (fun _ hk => hk.2) (.int .i64 t340)) (fun _ hk => hk.2) (.slice Ao116 t341.length co116)) (fun _ h_ => h_.1))) hb); have n5_ := Aside0.mk (blk_below (g := gb301) (o := .cells #[.int .i64 a0_0, .slice A0_1 l0_1.length c0_1] 24 (0, 0)) (by (with_reducible repeat (first | refine blk_drewN ?_ _ | refine blk_drew ?_ | refine blk_alloc ?_ _)); refine blk_far ?_ NB301_345.out _; (with_reducible repeat (first | refine blk_drewN ?_ _ | refine blk_drew ?_ | refine blk_alloc ?_ _)); refine blk_far ?_ NB301_345.out _; (with_reducible repeat (first | refine blk_drewN ?_ _ | refine blk_drew ?_ | refine blk_alloc ?_ _)); exact BK301.out) hb); have n6_ := Aside0.mk (blk_below (g := gb312) (o := .cells #[.int .i64 t307, .slice Ao22 t308.length co22] 28 (0, 0)) (by (with_reducible repeat (first | refine blk_drewN ?_ _ | refine blk_drew ?_ | refine blk_alloc ?_ _)); refine blk_far ?_ NB312_345.out _; (with_reducible repeat (first | refine blk_drewN ?_ _ | refine blk_drew ?_ | refine blk_alloc ?_ _)); refine blk_far ?_ NB312_345.out _; (with_reducible repeat (first | refine blk_drewN ?_ _ | refine blk_drew ?_ | refine blk_alloc ?_ _)); exact BK312.out) hb); have n7_ := Aside0.mk (blk_below (g := gb317) (o := .cells #[.int .i64 t313, .slice Ao29 t331.length co29] 28 (0, 0)) (by (with_reducible repeat (first | refine blk_drewN ?_ _ | refine blk_drew ?_ | refine blk_alloc ?_ _)); refine blk_far ?_ NB317_345.out _; (with_reducible repeat (first | refine blk_drewN ?_ _ | refine blk_drew ?_ | refine blk_alloc ?_ _)); refine blk_far ?_ NB317_345.out _; (with_reducible repeat (first | refine blk_drewN ?_ _ | refine blk_drew ?_ | refine blk_alloc ?_ _)); exact BK317.out) hb); have n8_ := Aside0.mk (blk_below (g := gb323) (o := .cells #[.int .i64 t318, .slice Ao36 t319.length co36] 28 (0, 0)) (by (with_reducible repeat (first | refine blk_drewN ?_ _ | refine blk_drew ?_ | refine blk_alloc ?_ _)); refine blk_far ?_ NB323_345.out _; (with_reducible repeat (first | refine blk_drewN ?_ _ | refine blk_drew ?_ | refine blk_alloc ?_ _)); refine blk_far ?_ NB323_345.out _; (with_reducible repeat (first | refine blk_drewN ?_ _ | refine blk_drew ?_ | refine blk_alloc ?_ _)); exact BK323.out) hb); have n9_ := Aside0.mk (blk_below (g := gb345) (o := .cells #[.int .i64 t340, .slice Ao116 t341.length co116] 28 (0, 0)) (by (with_reducible repeat (first | refine blk_drewN ?_ _ | refine blk_drew ?_ | refine blk_alloc ?_ _)); refine blk_put (cs := #[.int .i64 t340, .slice none 0 0]) ?_ 1 _ rfl; (with_reducible repeat (first | refine blk_drewN ?_ _ | refine blk_drew ?_ | refine blk_alloc ?_ _)); refine blk_put (cs := #[.int .i64 0, .slice none 0 0]) ?_ 0 _ rfl; (with_reducible repeat (first | refine blk_drewN ?_ _ | refine blk_drew ?_ | refine blk_alloc ?_ _)); exact BK345.out) hb); have n10_ := Aside0.mk (below_step (by repeat (first | (with_reducible first | exact HB.out | apply below_alloc | apply pw_below_drewN | apply below_drew1 | refine below_set ?_ GE301.out | refine below_set ?_ GE312.out | refine below_set ?_ GE317.out | refine below_set ?_ GE323.out | refine below_set ?_ GE345.out) | exact HB.out)) hb); clear HO_313001; clear HO_318001; clear HO_324001; clear HO339; clear HO343; clear BK301; clear BK312; clear BK317; clear BK323; clear BK345; clear HB; have HO_313001 := n0_; have HO_318001 := n1_; have HO_324001 := n2_; have HO339 := n3_; have HO343 := n4_; have BK301 := n5_; have BK312 := n6_; have BK317 := n7_; have BK323 := n8_; have BK345 := n9_; have HB := n10_; clear n0_ n1_ n2_ n3_ n4_ n5_ n6_ n7_ n8_ n9_ n10_; (try clear hb); (try clear hb2); (try clear hk); (try clear hi)))
             go_meet
             case rel => exact ⟨_, (true), (by first | rfl | (simp; done) | (simp [*]; done)), H', ⟨by have := HJ10.out; have := HJ59.out; first | omega | exact Nat.le_refl _⟩, ⟨by (try simp only [hl318001_59]); (with_reducible repeat (first | apply Kd.R_alloc | apply Kd.R_drewN | apply Kd.R_drew)); exact Kd.R_mono HO_313001.out (fun _ hk => ⟨hk.1.1.1, ⟨hk.1.1.2, hk.2⟩⟩)⟩, ⟨by (try simp only [hl318001_59]); (with_reducible repeat (first | apply Kd.R_alloc | apply Kd.R_drewN | apply Kd.R_drew)); exact Kd.R_mono HO_318001.out (fun _ hk => ⟨hk.1.1.1, ⟨hk.1.1.2, hk.2⟩⟩)⟩, ⟨by (try simp only [hl318001_59]); (with_reducible repeat (first | apply Kd.R_alloc | apply Kd.R_drewN | apply Kd.R_drew)); exact Kd.R_mono HO_324001.out (fun _ hk => ⟨hk.1.1.1, ⟨hk.1.1.2, hk.2⟩⟩)⟩, ⟨by (try simp only [hl318001_59]); (with_reducible repeat (first | apply Kd.R_alloc | apply Kd.R_drewN | apply Kd.R_drew)); exact Kd.R_mono HO343.out (fun _ hk => ⟨hk.1.1.1.2, ⟨hk.1.1.2, hk.1.2⟩⟩)⟩, ⟨by (try simp only [hl318001_59]); (with_reducible repeat (first | refine blk_drewN ?_ _ | refine blk_drew ?_ | refine blk_alloc ?_ _)); exact BK301.out⟩, ⟨by (try simp only [hl318001_59]); (with_reducible repeat (first | refine blk_drewN ?_ _ | refine blk_drew ?_ | refine blk_alloc ?_ _)); exact BK312.out⟩, ⟨by (try simp only [hl318001_59]); (with_reducible repeat (first | refine blk_drewN ?_ _ | refine blk_drew ?_ | refine blk_alloc ?_ _)); exact BK317.out⟩, ⟨by (try simp only [hl318001_59]); (with_reducible repeat (first | refine blk_drewN ?_ _ | refine blk_drew ?_ | refine blk_alloc ?_ _)); exact BK323.out⟩, ⟨by (try simp only [hl318001_59]); (with_reducible repeat (first | refine blk_drewN ?_ _ | refine blk_drew ?_ | refine blk_alloc ?_ _)); exact BK345.out⟩, ⟨by repeat (first | (with_reducible first | exact HB.out | apply below_alloc | apply pw_below_drewN | apply below_drew1 | refine below_set ?_ GE301.out | refine below_set ?_ GE312.out | refine below_set ?_ GE317.out | refine below_set ?_ GE323.out | refine below_set ?_ GE345.out) | exact HB.out)⟩⟩
           case rest =>
            clear HC96; (try clear c1); (try clear c2); (try clear p2); (try clear c3); (try clear c3b0); (try clear c4); (try clear c5); (try clear c6); (try clear c7); (try clear c8); (try clear c9); (try clear c10); (try clear c11); (try clear c12); (try clear c13); (try clear c20); (try clear c26); (try clear c27); (try clear c32); (try clear c33); (try clear c34); (try clear c38); (try clear c39); (try clear c40); (try clear c41); (try clear c43); (try clear c44); (try clear c47); (try clear c48); (try clear c49); (try clear c51); (try clear c52); (try clear c55); (try clear c58); (try clear c65); (try clear c66); (try clear c67); (try clear c70); (try clear c70b0); (try clear c72); (try clear c73); (try clear c74); (try clear c75); (try clear c77); (try clear c78); (try clear c81); (try clear c82); (try clear c83); (try clear c85); (try clear c86); (try clear c89); (try clear c92); (try clear c92b0); (try clear c93); (try clear c93b0); (try clear c93b1); (try clear c97); (try clear c98); (try clear c99); (try clear c104); (try clear c105); (try clear c111); (try clear c112); (try clear c113); (try clear c114); (try clear c118); (try clear c119); (try clear c120); (try clear c121); (try clear c122); (try clear c124); (try clear c125); (try clear c126); (try clear c129); (try clear c130); (try clear c131); (try clear c132); (try clear c134); (try clear c135); (try clear c136); (try clear hcz100_0); (try clear hcz100_1); (try clear hcz102_0); (try clear hcz102_1); (try clear hcz106_0); (try clear hcz106_1); (try clear hcz115_0); (try clear hcz115_1); (try clear hcz123_0); (try clear hcz123_1); (try clear hcz127_0); (try clear hcz127_1); (try clear hcz133_0); (try clear hcz133_1); (try clear hcz137_0); (try clear hcz137_1); (try clear hcz13_0); (try clear hcz13_1); (try clear hcz15_0); (try clear hcz15_1); (try clear hcz21_0); (try clear hcz21_1); (try clear hcz23_0); (try clear hcz23_1); (try clear hcz28_0); (try clear hcz28_1); (try clear hcz35_0); (try clear hcz35_1); (try clear hcz42_0)
            (try clear hcz42_1); (try clear hcz45_0); (try clear hcz45_1); (try clear hcz50_0); (try clear hcz50_1); (try clear hcz53_0); (try clear hcz53_1); (try clear hcz5_0); (try clear hcz5_1); (try clear hcz68_0); (try clear hcz68_1); (try clear hcz76_0); (try clear hcz76_1); (try clear hcz79_0); (try clear hcz79_1); (try clear hcz84_0); (try clear hcz84_1); (try clear hcz87_0); (try clear hcz87_1); (try clear hfz100_0); (try clear hfz100_1); (try clear hfz102_0); (try clear hfz102_1); (try clear hfz106_0); (try clear hfz106_1); (try clear hfz115_0); (try clear hfz115_1); (try clear hfz123_0); (try clear hfz123_1); (try clear hfz127_0); (try clear hfz127_1); (try clear hfz133_0); (try clear hfz133_1); (try clear hfz137_0); (try clear hfz137_1); (try clear hfz13_0); (try clear hfz13_1); (try clear hfz15_0); (try clear hfz15_1); (try clear hfz21_0); (try clear hfz21_1); (try clear hfz23_0); (try clear hfz23_1); (try clear hfz28_0); (try clear hfz28_1); (try clear hfz35_0); (try clear hfz35_1); (try clear hfz42_0); (try clear hfz42_1); (try clear hfz45_0); (try clear hfz45_1); (try clear hfz50_0); (try clear hfz50_1); (try clear hfz53_0); (try clear hfz53_1); (try clear hfz5_0); (try clear hfz5_1); (try clear hfz68_0); (try clear hfz68_1); (try clear hfz76_0); (try clear hfz76_1); (try clear hfz79_0); (try clear hfz79_1); (try clear hfz84_0); (try clear hfz84_1); (try clear hfz87_0); (try clear hfz87_1); (try clear p2)
            obtain ⟨kq, x87_95, rfl, HA, HJ95, HO_313001, HO_318001, HO_324001, HO_346001, BK301, BK312, BK317, BK323, BK345, HB⟩ := hcut
            have hl324001_95 := (Kd.R_reads' HO_324001.out).1
            rw [hl324001_95] at HO_324001
            (try simp only [hl324001_95])
            (try simp only [hl324001_95] at BK301)
            (try simp only [hl324001_95] at BK312)
            (try simp only [hl324001_95] at BK317)
            (try simp only [hl324001_95] at BK323)
            (try simp only [hl324001_95] at BK345)
            (try simp only [hl324001_95] at HO_313001)
            (try simp only [hl324001_95] at HO_318001)
            (try simp only [hl324001_95] at HO_346001)
            cases kq with
            | zero => exact absurd HA.out (by simp [laws_FnExactHarderPuzzle.j2])
            | succ kj95 =>
             have H := HA.out; clear HA
             simp only [laws_FnExactHarderPuzzle.j2] at H
             by_cases c139 : x87_95 = true
             ·subst c139
              have H1 : (some false) = some r := by rw [if_pos rfl] at H; exact H
              clear H; have H := H1; clear H1
              obtain rfl := Option.some.inj H
              exact absurd HR_.out (by decide)
             ·replace c139 := Bool.eq_false_iff.mpr c139
              subst c139
              have H1 : ((laws_heldPuzzle.f kj95 t318 t334 1).bind fun t347 => (if t347 < 0 then (some false) else (if t347 = t333 then (some true) else (some false)))) = some r := by rw [if_neg (show ¬ (false = true) by decide)] at H; exact H
              clear H; have H := H1; clear H1; replace H := Option.bind_eq_some_iff.mp H
              obtain ⟨t347, A1400, H⟩ := H
              replace H : (if t347 < 0 then (some false) else (if t347 = t333 then (some true) else (some false))) = some r := H
              have A140 := Aside0.mk A1400
              clear A1400
              by_cases c141 : t347 < 0
              ·rw [if_pos c141] at H
               have c141b0 : decide (t347 < 0) = true := decide_eq_true c141; clear c141
               obtain rfl := Option.some.inj H
               exact absurd HR_.out (by decide)
              ·rw [if_neg c141] at H
               have c141b0 : decide (t347 < 0) = false := decide_eq_false c141; clear c141
               by_cases c142 : t347 = t333
               ·rw [if_pos c142] at H
                have c142b0 : (t347 == t333) = true := beq_iff_eq.mpr c142
                have c142b1 : (t347 != t333) = false := bne_eq_false_iff_eq.mpr c142
                clear c142
                obtain rfl := Option.some.inj H
                have hnb143 := NB323_301.out; have hnc143 := NB301_323.out; have hnb144 := NB323_312.out; have hnc144 := NB312_323.out; have hnb145 := NB323_317.out; have hnc145 := NB317_323.out; have hnb146 := NB323_345.out; have hnc146 := NB345_323.out
                have hcz147_0 : wc.cell? ⟨gb323, 0, none⟩ = some (.int .i64 t318) := (blk_cell BK323.out 0).trans rfl
                have hcz147_1 : wc.cell? ⟨gb323, 1, none⟩ = some (.slice Ao36 t334.length co36) := (blk_cell BK323.out 1).trans rfl
                have hfz147_0 := blk_frozen BK323.out 0
                have hfz147_1 := blk_frozen BK323.out 1
                go_wp2_with (first | ((with_reducible refine gate_callee (f := 13) rfl ?_); refine goesL_ (some 90) rfl rfl Try.func13 (by kernel_rfl) rfl #[.agg #[.int .i64 t318, .slice Ao36 t334.length co36], .int .i64 1] rfl (by (try simp only [List.map_toArray, List.map_cons, List.map_nil]); first | done | rfl | (simp only [List.length_drop, List.length_take]; rfl)) ?_; (with_reducible refine (laws_heldPuzzle.calls kj95 t318 _ _ t334 1 t347 _ ?side1 ?side2 A140.out).mono ?_); (case side1 => repeat (first | exact (Kd.R_reads' HO_324001.out).2.2 | (with_reducible refine Kd.C_alloc ?_ _) | (with_reducible refine Kd.C_drewN ?_ _) | (with_reducible refine Kd.C_drew ?_))); (case side2 => exact (Kd.R_reads' HO_324001.out).2.1); rintro e w148 ⟨rfl, hb⟩; refine ⟨_, rfl, ?_⟩; have n0_ := Aside0.mk (Kd.R_below (by (with_reducible repeat (first | apply Kd.R_alloc | apply Kd.R_drewN | apply Kd.R_drew)); exact HO_313001.out) hb); have n1_ := Aside0.mk (Kd.R_below (by (with_reducible repeat (first | apply Kd.R_alloc | apply Kd.R_drewN | apply Kd.R_drew)); exact HO_318001.out) hb); have n2_ := Aside0.mk (Kd.R_below (by (with_reducible repeat (first | apply Kd.R_alloc | apply Kd.R_drewN | apply Kd.R_drew)); exact HO_324001.out) hb); have n3_ := Aside0.mk (Kd.R_below (by (with_reducible repeat (first | apply Kd.R_alloc | apply Kd.R_drewN | apply Kd.R_drew)); exact HO_346001.out) hb); have n4_ := Aside0.mk (blk_below (g := gb301) (o := .cells #[.int .i64 a0_0, .slice A0_1 l0_1.length c0_1] 24 (0, 0)) (by (with_reducible repeat (first | refine blk_drewN ?_ _ | refine blk_drew ?_ | refine blk_alloc ?_ _)); exact BK301.out) hb); have n5_ := Aside0.mk (blk_below (g := gb312) (o := .cells #[.int .i64 t307, .slice Ao22 t308.length co22] 28 (0, 0)) (by (with_reducible repeat (first | refine blk_drewN ?_ _ | refine blk_drew ?_ | refine blk_alloc ?_ _)); exact BK312.out) hb); have n6_ := Aside0.mk (blk_below (g := gb317) (o := .cells #[.int .i64 t313, .slice Ao29 t331.length co29] 28 (0, 0)) (by (with_reducible repeat (first | refine blk_drewN ?_ _ | refine blk_drew ?_ | refine blk_alloc ?_ _)); exact BK317.out) hb); have n7_ := Aside0.mk (blk_below (g := gb323) (o := .cells #[.int .i64 t318, .slice Ao36 t334.length co36] 28 (0, 0)) (by (with_reducible repeat (first | refine blk_drewN ?_ _ | refine blk_drew ?_ | refine blk_alloc ?_ _)); exact BK323.out) hb); have n8_ := Aside0.mk (blk_below (g := gb345) (o := .cells #[.int .i64 t340, .slice Ao116 t341.length co116] 28 (0, 0)) (by (with_reducible repeat (first | refine blk_drewN ?_ _ | refine blk_drew ?_ | refine blk_alloc ?_ _)); exact BK345.out) hb); have n9_ := Aside0.mk (below_step (by repeat (first | (with_reducible first | exact HB.out | apply below_alloc | apply pw_below_drewN | apply below_drew1 | refine below_set ?_ GE301.out | refine below_set ?_ GE312.out | refine below_set ?_ GE317.out | refine below_set ?_ GE323.out | refine below_set ?_ GE345.out) | exact HB.out)) hb); clear HO_313001; clear HO_318001; clear HO_324001; clear HO_346001; clear BK301; clear BK312; clear BK317; clear BK323; clear BK345; clear HB; have HO_313001 := n0_; have HO_318001 := n1_; have HO_324001 := n2_; have HO_346001 := n3_; have BK301 := n4_; have BK312 := n5_; have BK317 := n6_; have BK323 := n7_; have BK345 := n8_; have HB := n9_; clear n0_ n1_ n2_ n3_ n4_ n5_ n6_ n7_ n8_ n9_; (try clear hb); (try clear hb2); (try clear hk); (try clear hi)))
                go_ret
                exact ⟨by first | rfl | (simp [errW_none, errW_some] <;> rfl) | (simp [*, errW_none, errW_some] <;> rfl), by repeat (first | (with_reducible first | exact HB.out | apply below_alloc | apply pw_below_drewN | apply below_drew1 | refine below_set ?_ GE301.out | refine below_set ?_ GE312.out | refine below_set ?_ GE317.out | refine below_set ?_ GE323.out | refine below_set ?_ GE345.out) | exact HB.out)⟩
               ·rw [if_neg c142] at H
                have c142b0 : (t347 == t333) = false := beq_eq_false_iff_ne.mpr c142
                have c142b1 : (t347 != t333) = true := bne_iff_ne.mpr c142
                obtain rfl := Option.some.inj H
                exact absurd HR_.out (by decide)
          ·rw [if_neg c93] at H
           have c93b0 : (t335 == t333) = false := beq_eq_false_iff_ne.mpr c93
           have c93b1 : (t335 != t333) = true := bne_iff_ne.mpr c93
           obtain rfl := Option.some.inj H
           exact absurd HR_.out (by decide)
     ·replace c58 := Bool.eq_false_iff.mpr c58
      subst c58
      have H1 : (some false) = some r := by rw [if_neg (show ¬ (false = true) by decide)] at H; exact H
      clear H; have H := H1; clear H1
      obtain rfl := Option.some.inj H
      exact absurd HR_.out (by decide)

end Go.Proofs.Ythioojdannlhiaa.P

namespace Go.Proofs.Ythioojdannlhiaa.P
open Go.RowKit Go.Proofs.YthioojdannlhiaaW.PrintWords Go.Proofs.YthioojdannlhiaaW.PrintLast Go.Proofs.YthioojdannlhiaaW.PrintMore
set_option linter.unusedVariables false
set_option linter.unusedSimpArgs false
theorem wid {x : Int} (h0 : -9223372036854775808 ≤ x) (h1 : x ≤ 9223372036854775807) : wrap64 x = x := by unfold wrap64; omega
/-- lo ≤ n ≤ hi, as a Bool. -/
def inr (lo hi n : Int) : Bool := decide (lo ≤ n) && decide (n ≤ hi)
theorem inr_iff {lo hi n : Int} : inr lo hi n = true ↔ lo ≤ n ∧ n ≤ hi := by unfold inr; simp
theorem mul_bd {a b A B : Int} (h0 : 0 ≤ a) (h1 : a ≤ A) (h2 : 0 ≤ b) (h3 : b ≤ B) : 0 ≤ a * b ∧ a * b ≤ A * B :=
 ⟨Int.mul_nonneg h0 h2, Int.mul_le_mul h1 h3 h2 (by omega)⟩
theorem ev_eq {α : Type} {g : Nat → Option α} {r s : α} (h : Ev g r) (e : r = s) : Ev g s := e ▸ h
/-- A row of rounds that doesn't hang on the rounds. -/
theorem Ev.const {α : Type} {g : Option α} {r : α} (h : g = some r) : Ev (fun _ => g) r := ⟨0, fun _ _ => h⟩
theorem all1 {p : Int → Bool} {a : Int} : [a].all p = p a := by simp
theorem rd_cons0 (x : Int) (l : List Int) : rd (x :: l) 0 = x := rfl
end Go.Proofs.Ythioojdannlhiaa.P

namespace Go.Proofs.Ythioojdannlhiaa.P
open Go.RowKit Go.Proofs.YthioojdannlhiaaW.PrintWords Go.Proofs.YthioojdannlhiaaW.PrintLast Go.Proofs.YthioojdannlhiaaW.PrintMore
set_option linter.unusedVariables false
set_option linter.unusedSimpArgs false
theorem Ev.succ {α : Type} {g : Nat → Option α} {r : α} (h : Ev (fun k => g (k + 1)) r) : Ev g r := Ev.step (fun _ => rfl) h
theorem Ev.ite {α : Type} {c : Prop} [Decidable c] {g f : Nat → Option α} {r s : α} (h1 : c → Ev g r) (h2 : ¬ c → Ev f s) : Ev (fun k => if c then g k else f k) (if c then r else s) := by
 by_cases h : c
 ·simp only [if_pos h]; exact h1 h
 ·simp only [if_neg h]; exact h2 h
theorem Ev.bindc {α β : Type} {g : Option α} {f : Nat → α → Option β} {a : α} {r : β} (h : g = some a) (k : Ev (fun n => f n a) r) : Ev (fun n => g.bind (f n)) r := by
 subst h; exact k
end Go.Proofs.Ythioojdannlhiaa.P

namespace Go.Proofs.Ythioojdannlhiaa.P
open Go.RowKit Go.Proofs.YthioojdannlhiaaW.PrintWords Go.Proofs.YthioojdannlhiaaW.PrintLast Go.Proofs.YthioojdannlhiaaW.PrintMore
set_option linter.unusedVariables false
set_option linter.unusedSimpArgs false
theorem laws_eqClueS.ev_l (l : List S43) (hl : l.length ≤ 4611686018427387904) (d : Nat) : ∀ i : Nat, i + d = l.length → Ev (fun k => laws_eqClueS.l0 k l l (i : Int)) true := by
 induction d with
 | zero =>
  intro i hi
  refine Ev.succ ?_
  simp only [laws_eqClueS.l0, show ¬ ((i : Int) < (l.length : Int)) by omega, if_false]
  exact Ev.now _
 | succ d ih =>
  intro i hi
  refine Ev.succ ?_
  simp only [laws_eqClueS.l0, show ((i : Int) < (l.length : Int)) by omega, show (0 : Int) ≤ (i : Int) by omega, if_true, laws_eqClue.f, Option.bind_some]
  rw [wid (show -9223372036854775808 ≤ (i : Int) + 1 by omega) (by omega)]
  exact ih (i + 1) (by omega)
theorem laws_eqClueS.refl {l : List S43} (hl : l.length ≤ 4611686018427387904) : Ev (fun k => laws_eqClueS.f k l l) true := by
 unfold laws_eqClueS.f
 simp only [if_true]
 exact laws_eqClueS.ev_l l hl l.length 0 (by omega)
theorem laws_eqPuzzle.refl {a : Int} {l : List S43} (hl : l.length ≤ 4611686018427387904) : Ev (fun k => laws_eqPuzzle.f k a l a l) true := by
 unfold laws_eqPuzzle.f
 simp only [if_true]
 exact Ev.bind (laws_eqClueS.refl hl) (by simp only [if_true]; exact Ev.now _)
end Go.Proofs.Ythioojdannlhiaa.P

namespace Go.Proofs.Ythioojdannlhiaa.P
open Go.RowKit Go.Proofs.YthioojdannlhiaaW.PrintWords Go.Proofs.YthioojdannlhiaaW.PrintLast Go.Proofs.YthioojdannlhiaaW.PrintMore
set_option linter.unusedVariables false
set_option linter.unusedSimpArgs false
theorem spec_l1In.eq (a lo hi : Int) : spec_l1In.f a lo hi = some (inr lo hi a) := by
 unfold spec_l1In.f inr
 by_cases h : a ≥ lo
 ·rw [if_pos h]; simp [show lo ≤ a from h]
 ·rw [if_neg h]; simp [show ¬ lo ≤ a from h]
end Go.Proofs.Ythioojdannlhiaa.P

namespace Go.Proofs.Ythioojdannlhiaa.P
open Go.RowKit Go.Proofs.YthioojdannlhiaaW.PrintWords Go.Proofs.YthioojdannlhiaaW.PrintLast Go.Proofs.YthioojdannlhiaaW.PrintMore
set_option linter.unusedVariables false
set_option linter.unusedSimpArgs false
theorem impl_within.eq (a lo hi : Int) : impl_within.f a lo hi = some (inr lo hi a) := by
 unfold impl_within.f inr
 by_cases h : a ≥ lo
 ·rw [if_pos h]; simp [show lo ≤ a from h]
 ·rw [if_neg h]; simp [show ¬ lo ≤ a from h]
end Go.Proofs.Ythioojdannlhiaa.P

namespace Go.Proofs.Ythioojdannlhiaa.P
open Go.RowKit Go.Proofs.YthioojdannlhiaaW.PrintWords Go.Proofs.YthioojdannlhiaaW.PrintLast Go.Proofs.YthioojdannlhiaaW.PrintMore
set_option linter.unusedVariables false
set_option linter.unusedSimpArgs false
def mClue (k a b : Int) : Bool := inr 0 200 a && (inr 0 200 b && (((k == 0 || k == 5) && a == 0) || ((k == 1) && (a == 0 && decide (b ≤ 1))) || ((k == 2 || k == 4) && decide (1 ≤ b)) || ((k == 3) && (decide (a ≤ 1) && decide (b ≤ 1)))))
theorem spec_pzClue.ev (k a b : Int) : Ev (fun n => spec_pzClue.f n k a b) (mClue k a b) := by
 refine ⟨4, fun n hn => ?_⟩
 obtain ⟨n, rfl⟩ : ∃ m, n = m + 4 := ⟨n - 4, by omega⟩
 dsimp only
 unfold spec_pzClue.f mClue
 rw [spec_l1In.eq, spec_l1In.eq]
 simp only [Option.bind_some]
 cases inr 0 200 a <;> cases inr 0 200 b <;> simp only [spec_pzClue.j0, spec_pzClue.j1, spec_pzClue.j2, if_true, if_false, Bool.false_eq_true, Bool.not_true, Bool.not_false, Bool.false_and, Bool.true_and]
 by_cases h0 : k = 0
 ·subst h0; simp
 by_cases h1 : k = 1
 ·subst h1; simp; by_cases ha : a = 0 <;> simp [ha] <;> omega
 by_cases h2 : k = 2
 ·subst h2; simp; omega
 by_cases h3 : k = 3
 ·subst h3; simp; by_cases ha : a ≤ 1 <;> simp [ha, show (a < 2) = (a ≤ 1) by apply propext; omega] <;> omega
 by_cases h4 : k = 4
 ·subst h4; simp; omega
 by_cases h5 : k = 5
 ·subst h5; simp
 simp [h0, h1, h2, h3, h4, h5]
theorem impl_isClue.ev (k a b : Int) : Ev (fun n => impl_isClue.f n k a b) (mClue k a b) := by
 refine ⟨4, fun n hn => ?_⟩
 obtain ⟨n, rfl⟩ : ∃ m, n = m + 4 := ⟨n - 4, by omega⟩
 dsimp only
 unfold impl_isClue.f mClue
 rw [impl_within.eq, impl_within.eq]
 simp only [Option.bind_some]
 cases inr 0 200 a <;> cases inr 0 200 b <;> simp only [impl_isClue.j0, impl_isClue.j1, impl_isClue.j2, if_true, if_false, Bool.false_eq_true, Bool.not_true, Bool.not_false, Bool.false_and, Bool.true_and]
 by_cases h0 : k = 0
 ·subst h0; simp
 by_cases h1 : k = 1
 ·subst h1; simp; by_cases ha : a = 0 <;> simp [ha]
 by_cases h2 : k = 2
 ·subst h2; simp
 by_cases h3 : k = 3
 ·subst h3; simp; by_cases ha : a ≤ 1 <;> simp [ha]
 by_cases h4 : k = 4
 ·subst h4; simp
 by_cases h5 : k = 5
 ·subst h5; simp
 simp [h0, h1, h2, h3, h4, h5]
end Go.Proofs.Ythioojdannlhiaa.P

namespace Go.Proofs.Ythioojdannlhiaa.P
open Go.RowKit Go.Proofs.YthioojdannlhiaaW.PrintWords Go.Proofs.YthioojdannlhiaaW.PrintLast Go.Proofs.YthioojdannlhiaaW.PrintMore
set_option linter.unusedVariables false
set_option linter.unusedSimpArgs false
def mClueS (c : S43) : Bool := mClue c.f0 c.f1 c.f2
def mPuzzle (w : Int) (l : List S43) : Bool := inr 1 12 w && (decide (l.length ≤ 6) && l.all mClueS)
theorem spec_pzGood.ev_l (l : List S43) (hl : l.length ≤ 6) (d : Nat) : ∀ i : Nat, i + d = l.length → Ev (fun k => spec_pzGood.l0 k l (l.length : Int) (i : Int)) ((l.drop i).all mClueS) := by
 induction d with
 | zero =>
  intro i hi
  refine Ev.succ ?_
  simp only [spec_pzGood.l0, show ¬ ((i : Int) < (l.length : Int)) by omega, if_false]
  exact Ev.const (by rw [show i = l.length by omega, List.drop_length]; rfl)
 | succ d ih =>
  intro i hi
  have hlt : i < l.length := by omega
  have e : rd_T43 l (i : Int) = l[i] := by simp [rd_T43, List.getD_eq_getElem?_getD, List.getElem?_eq_getElem hlt]
  refine Ev.succ ?_
  simp only [spec_pzGood.l0, show ((i : Int) < (l.length : Int)) by omega, show (0 : Int) ≤ (i : Int) by omega, if_true, e]
  rw [wid (show -9223372036854775808 ≤ (i : Int) + 1 by omega) (by omega), List.drop_eq_getElem_cons hlt, List.all_cons]
  refine Ev.bind (spec_pzClue.ev _ _ _) ?_
  show Ev _ (mClue l[i].f0 l[i].f1 l[i].f2 && _)
  by_cases h : mClue l[i].f0 l[i].f1 l[i].f2 = true
  ·simp only [if_pos h, h, Bool.true_and]; exact ih (i + 1) (by omega)
  ·simp only [if_neg h]; exact Ev.const (by simp [h])
theorem spec_pzGood.ev (w : Int) (l : List S43) : Ev (fun k => spec_pzGood.f k w l) (mPuzzle w l) := by
 unfold spec_pzGood.f spec_pzWide.f mPuzzle
 rw [spec_l1In.eq]
 simp only [Option.bind_some]
 by_cases h : inr 1 12 w = true
 ·simp only [if_pos h, h, Bool.true_and]
  refine Ev.succ ?_
  simp only [spec_pzGood.j0, decide_eq_true_eq]
  by_cases hl : l.length ≤ 6
  ·simp only [show ¬ ((l.length : Int) > 6) by omega, if_false, hl, decide_true, Bool.true_and]
   exact spec_pzGood.ev_l l hl l.length 0 (by omega)
  ·simp only [show ((l.length : Int) > 6) by omega, if_true, hl, decide_false, Bool.false_and]; exact Ev.now _
 ·simp only [if_neg h]
  refine Ev.succ ?_
  simp only [spec_pzGood.j0, if_true]
  exact Ev.const (by simp [h])
theorem cAny_ev {p : Nat → S43 → Option Bool} {q : S43 → Bool} : ∀ (l : List S43), (∀ x ∈ l, Ev (fun k => p k x) (q x)) → Ev (fun k => cAny (p k) l) (l.any q)
 | [], _ => Ev.now _
 | x :: l, h => by
  simp only [cAny, List.any_cons]
  refine Ev.bind (h x List.mem_cons_self) ?_
  by_cases hq : q x = true
  ·simp only [if_pos hq, hq, Bool.true_or]; exact Ev.now _
  ·simp only [if_neg hq, hq, Bool.false_or]; exact cAny_ev l (fun y hy => h y (List.mem_cons_of_mem _ hy))
theorem impl_IsPuzzle.ev (w : Int) (l : List S43) : Ev (fun k => impl_IsPuzzle.f k w l) (mPuzzle w l) := by
 unfold impl_IsPuzzle.f impl_isSmall.f mPuzzle
 rw [impl_within.eq]
 simp only [Option.bind_some]
 by_cases h : inr 1 12 w = true
 ·simp only [if_pos h, h, Bool.true_and]
  by_cases hl : l.length ≤ 6
  ·simp only [show ((l.length : Int) ≤ 6) by omega, if_true, hl, decide_true, Bool.true_and]
   refine Ev.bind (a := l.any fun x => !mClueS x) ?_ ?_
   ·unfold anyIsPuzzle.f
    refine cAny_ev l (fun x _ => ?_)
    unfold impl_IsPuzzle_1.f
    exact Ev.bind (impl_isClue.ev _ _ _) (Ev.now _)
   ·refine Ev.const ?_
    rw [List.not_any_eq_all_not]; simp
  ·simp only [show ¬ ((l.length : Int) ≤ 6) by omega, if_false, hl, decide_false, Bool.false_and]; exact Ev.now _
 ·simp only [if_neg h]; exact Ev.const (by simp [h])
end Go.Proofs.Ythioojdannlhiaa.P

namespace Go.Proofs.Ythioojdannlhiaa.P
open Go.RowKit Go.Proofs.YthioojdannlhiaaW.PrintWords Go.Proofs.YthioojdannlhiaaW.PrintLast Go.Proofs.YthioojdannlhiaaW.PrintMore
attribute [local go_sem] max2_int min2_int max_two min_two max_three min_three max_four min_four   -- for this text's walks alone
set_option linter.unusedVariables false
set_option linter.unusedSimpArgs false

/-! ### impl_areHidden: function 58 -/
def impl_areHidden.f (a0_0 : Int) (a0_1 : Int) (a0_2 : Int) : Option (Bool) := (impl_isSmall.f a0_0).bind fun t433 => (if t433 = true then ((impl_isSmall.f a0_1).bind fun t434 => (if t434 = true then ((impl_isSmall.f a0_2).bind fun t435 => (some t435)) else (some false))) else (some false))
set_option maxHeartbeats 8000000 in
set_option maxRecDepth 100000 in
theorem impl_areHidden.calls (a0_0 : Int) (a0_1 : Int) (a0_2 : Int) (r : Bool) (w : World) (h : impl_areHidden.f a0_0 a0_1 a0_2 = some r) :
  Calls Try.prog 58 #[.agg #[.int .i64 a0_0, .int .i64 a0_1, .int .i64 a0_2]] w fun e w' => e = .returned (.bool r) ∧ Below w.heap.size w w' := by
 have hu41 := Try.underlying41
 have HB := Aside0.mk (Below.refl w.heap.size w)
 have H : ((impl_isSmall.f a0_0).bind fun t433 => (if t433 = true then ((impl_isSmall.f a0_1).bind fun t434 => (if t434 = true then ((impl_isSmall.f a0_2).bind fun t435 => (some t435)) else (some false))) else (some false))) = some r := h
 clear h; replace H := Option.bind_eq_some_iff.mp H
 obtain ⟨t433, A20, H⟩ := H
 replace H : (if t433 = true then ((impl_isSmall.f a0_1).bind fun t434 => (if t434 = true then ((impl_isSmall.f a0_2).bind fun t435 => (some t435)) else (some false))) else (some false)) = some r := H
 have A2 := Aside0.mk A20
 clear A20
 by_cases c3 : t433 = true
 ·subst c3
  have H1 : ((impl_isSmall.f a0_1).bind fun t434 => (if t434 = true then ((impl_isSmall.f a0_2).bind fun t435 => (some t435)) else (some false))) = some r := by rw [if_pos rfl] at H; exact H
  clear H; have H := H1; clear H1; replace H := Option.bind_eq_some_iff.mp H
  obtain ⟨t434, A40, H⟩ := H
  replace H : (if t434 = true then ((impl_isSmall.f a0_2).bind fun t435 => (some t435)) else (some false)) = some r := H
  have A4 := Aside0.mk A40
  clear A40
  by_cases c5 : t434 = true
  ·subst c5
   have H1 : ((impl_isSmall.f a0_2).bind fun t435 => (some t435)) = some r := by rw [if_pos rfl] at H; exact H
   clear H; have H := H1; clear H1; replace H := Option.bind_eq_some_iff.mp H
   obtain ⟨t435, A60, H⟩ := H
   replace H : (some t435) = some r := H
   have A6 := Aside0.mk A60
   clear A60
   obtain rfl := Option.some.inj H
   go_enter Try.func58, Try.ntmps58
   go_wp2_with (first | ((with_reducible refine gate_dst (N := 1) rfl ?_); refine box_event ?hg (N := 1) ?hd (cs := #[.int .i64 a0_0, .int .i64 a0_1, .int .i64 a0_2]) (t := 41) ?hr ?_; (case hd => rfl); (case hg => rfl); (case hr => first | (go_simp; done) | (go_simp; rfl)); intro gb432 hg w7 hbox hb; have n0_ := Aside0.mk (below_step (by repeat (first | (with_reducible first | exact HB.out | apply below_alloc | apply pw_below_drewN | apply below_drew1) | exact HB.out)) hb); have n1_ := Aside0.mk (hbox); have n2_ := Aside0.mk ((by rw [hg]; exact (below_size (by repeat (first | (with_reducible first | exact HB.out | apply below_alloc | apply pw_below_drewN | apply below_drew1) | exact HB.out))) : w.heap.size ≤ gb432)); have n3_ := Aside0.mk ((by rw [hg]; exact (below_size (by repeat (first | (with_reducible first | exact HB.out | apply below_alloc | apply pw_below_drewN | apply below_drew1) | exact HB.out))) : w.heap.size ≤ gb432)); clear HB; have HB := n0_; have BK432 := n1_; have GW432 := n2_; have GE432 := n3_; clear n0_ n1_ n2_ n3_; clear hb hbox hg; have hcz8_0 : w7.cell? ⟨gb432, 0, none⟩ = some (.int .i64 a0_0) := (blk_cell BK432.out 0).trans rfl; have hcz8_1 : w7.cell? ⟨gb432, 1, none⟩ = some (.int .i64 a0_1) := (blk_cell BK432.out 1).trans rfl; have hcz8_2 : w7.cell? ⟨gb432, 2, none⟩ = some (.int .i64 a0_2) := (blk_cell BK432.out 2).trans rfl; have hfz8_0 := blk_frozen BK432.out 0; have hfz8_1 := blk_frozen BK432.out 1; have hfz8_2 := blk_frozen BK432.out 2) | ((with_reducible refine gate_callee (f := 72) rfl ?_); refine goesL_ (some 5) rfl rfl Try.func72 (by kernel_rfl) rfl #[.int .i64 a0_0] rfl (by (try simp only [List.map_toArray, List.map_cons, List.map_nil]); first | done | rfl | (simp only [List.length_drop, List.length_take]; rfl)) ?_; (with_reducible refine (impl_isSmall.calls a0_0 true _ A2.out).mono ?_); rintro e w' ⟨rfl, ⟨nd, rfl⟩⟩; refine ⟨_, rfl, ?_⟩) | (go_at_call 72; (with_reducible refine (impl_isSmall.calls a0_1 true _ A4.out).mono ?_); rintro e w' ⟨rfl, ⟨nd, rfl⟩⟩) | (go_at_call 72; (with_reducible refine (impl_isSmall.calls a0_2 t435 _ A6.out).mono ?_); rintro e w' ⟨rfl, ⟨nd, rfl⟩⟩))
   go_ret
   exact ⟨by first | rfl | (simp [errW_none, errW_some] <;> rfl) | (simp [*, errW_none, errW_some] <;> rfl), by repeat (first | (with_reducible first | exact HB.out | apply below_alloc | apply pw_below_drewN | apply below_drew1 | refine below_set ?_ GE432.out) | exact HB.out)⟩
  ·replace c5 := Bool.eq_false_iff.mpr c5
   subst c5
   have H1 : (some false) = some r := by rw [if_neg (show ¬ (false = true) by decide)] at H; exact H
   clear H; have H := H1; clear H1
   obtain rfl := Option.some.inj H
   go_enter Try.func58, Try.ntmps58
   go_wp2_with (first | ((with_reducible refine gate_dst (N := 1) rfl ?_); refine box_event ?hg (N := 1) ?hd (cs := #[.int .i64 a0_0, .int .i64 a0_1, .int .i64 a0_2]) (t := 41) ?hr ?_; (case hd => rfl); (case hg => rfl); (case hr => first | (go_simp; done) | (go_simp; rfl)); intro gb432 hg w9 hbox hb; have n0_ := Aside0.mk (below_step (by repeat (first | (with_reducible first | exact HB.out | apply below_alloc | apply pw_below_drewN | apply below_drew1) | exact HB.out)) hb); have n1_ := Aside0.mk (hbox); have n2_ := Aside0.mk ((by rw [hg]; exact (below_size (by repeat (first | (with_reducible first | exact HB.out | apply below_alloc | apply pw_below_drewN | apply below_drew1) | exact HB.out))) : w.heap.size ≤ gb432)); have n3_ := Aside0.mk ((by rw [hg]; exact (below_size (by repeat (first | (with_reducible first | exact HB.out | apply below_alloc | apply pw_below_drewN | apply below_drew1) | exact HB.out))) : w.heap.size ≤ gb432)); clear HB; have HB := n0_; have BK432 := n1_; have GW432 := n2_; have GE432 := n3_; clear n0_ n1_ n2_ n3_; clear hb hbox hg; have hcz10_0 : w9.cell? ⟨gb432, 0, none⟩ = some (.int .i64 a0_0) := (blk_cell BK432.out 0).trans rfl; have hcz10_1 : w9.cell? ⟨gb432, 1, none⟩ = some (.int .i64 a0_1) := (blk_cell BK432.out 1).trans rfl; have hcz10_2 : w9.cell? ⟨gb432, 2, none⟩ = some (.int .i64 a0_2) := (blk_cell BK432.out 2).trans rfl; have hfz10_0 := blk_frozen BK432.out 0; have hfz10_1 := blk_frozen BK432.out 1; have hfz10_2 := blk_frozen BK432.out 2) | ((with_reducible refine gate_callee (f := 72) rfl ?_); refine goesL_ (some 5) rfl rfl Try.func72 (by kernel_rfl) rfl #[.int .i64 a0_0] rfl (by (try simp only [List.map_toArray, List.map_cons, List.map_nil]); first | done | rfl | (simp only [List.length_drop, List.length_take]; rfl)) ?_; (with_reducible refine (impl_isSmall.calls a0_0 true _ A2.out).mono ?_); rintro e w' ⟨rfl, ⟨nd, rfl⟩⟩; refine ⟨_, rfl, ?_⟩) | (go_at_call 72; (with_reducible refine (impl_isSmall.calls a0_1 false _ A4.out).mono ?_); rintro e w' ⟨rfl, ⟨nd, rfl⟩⟩))
   go_ret
   exact ⟨by first | rfl | (simp [errW_none, errW_some] <;> rfl) | (simp [*, errW_none, errW_some] <;> rfl), by repeat (first | (with_reducible first | exact HB.out | apply below_alloc | apply pw_below_drewN | apply below_drew1 | refine below_set ?_ GE432.out) | exact HB.out)⟩
 ·replace c3 := Bool.eq_false_iff.mpr c3
  subst c3
  have H1 : (some false) = some r := by rw [if_neg (show ¬ (false = true) by decide)] at H; exact H
  clear H; have H := H1; clear H1
  obtain rfl := Option.some.inj H
  go_enter Try.func58, Try.ntmps58
  go_wp2_with (first | ((with_reducible refine gate_dst (N := 1) rfl ?_); refine box_event ?hg (N := 1) ?hd (cs := #[.int .i64 a0_0, .int .i64 a0_1, .int .i64 a0_2]) (t := 41) ?hr ?_; (case hd => rfl); (case hg => rfl); (case hr => first | (go_simp; done) | (go_simp; rfl)); intro gb432 hg w11 hbox hb; have n0_ := Aside0.mk (below_step (by repeat (first | (with_reducible first | exact HB.out | apply below_alloc | apply pw_below_drewN | apply below_drew1) | exact HB.out)) hb); have n1_ := Aside0.mk (hbox); have n2_ := Aside0.mk ((by rw [hg]; exact (below_size (by repeat (first | (with_reducible first | exact HB.out | apply below_alloc | apply pw_below_drewN | apply below_drew1) | exact HB.out))) : w.heap.size ≤ gb432)); have n3_ := Aside0.mk ((by rw [hg]; exact (below_size (by repeat (first | (with_reducible first | exact HB.out | apply below_alloc | apply pw_below_drewN | apply below_drew1) | exact HB.out))) : w.heap.size ≤ gb432)); clear HB; have HB := n0_; have BK432 := n1_; have GW432 := n2_; have GE432 := n3_; clear n0_ n1_ n2_ n3_; clear hb hbox hg; have hcz12_0 : w11.cell? ⟨gb432, 0, none⟩ = some (.int .i64 a0_0) := (blk_cell BK432.out 0).trans rfl; have hcz12_1 : w11.cell? ⟨gb432, 1, none⟩ = some (.int .i64 a0_1) := (blk_cell BK432.out 1).trans rfl; have hcz12_2 : w11.cell? ⟨gb432, 2, none⟩ = some (.int .i64 a0_2) := (blk_cell BK432.out 2).trans rfl; have hfz12_0 := blk_frozen BK432.out 0; have hfz12_1 := blk_frozen BK432.out 1; have hfz12_2 := blk_frozen BK432.out 2) | ((with_reducible refine gate_callee (f := 72) rfl ?_); refine goesL_ (some 5) rfl rfl Try.func72 (by kernel_rfl) rfl #[.int .i64 a0_0] rfl (by (try simp only [List.map_toArray, List.map_cons, List.map_nil]); first | done | rfl | (simp only [List.length_drop, List.length_take]; rfl)) ?_; (with_reducible refine (impl_isSmall.calls a0_0 false _ A2.out).mono ?_); rintro e w' ⟨rfl, ⟨nd, rfl⟩⟩; refine ⟨_, rfl, ?_⟩))
  go_ret
  exact ⟨by first | rfl | (simp [errW_none, errW_some] <;> rfl) | (simp [*, errW_none, errW_some] <;> rfl), by repeat (first | (with_reducible first | exact HB.out | apply below_alloc | apply pw_below_drewN | apply below_drew1 | refine below_set ?_ GE432.out) | exact HB.out)⟩

end Go.Proofs.Ythioojdannlhiaa.P

namespace Go.Proofs.Ythioojdannlhiaa.P
open Go.RowKit Go.Proofs.YthioojdannlhiaaW.PrintWords Go.Proofs.YthioojdannlhiaaW.PrintLast Go.Proofs.YthioojdannlhiaaW.PrintMore
attribute [local go_sem] max2_int min2_int max_two min_two max_three min_three max_four min_four   -- for this text's walks alone
set_option linter.unusedVariables false
set_option linter.unusedSimpArgs false

/-! ### spec_pzHidden: function 62 -/
def spec_pzHidden.f (a0_0 : Int) (a0_1 : Int) (a0_2 : Int) : Option (Bool) := (spec_pzWide.f a0_0).bind fun t438 => (if t438 = true then ((spec_pzWide.f a0_1).bind fun t439 => (if t439 = true then ((spec_pzWide.f a0_2).bind fun t440 => (some t440)) else (some false))) else (some false))
set_option maxHeartbeats 8000000 in
set_option maxRecDepth 100000 in
theorem spec_pzHidden.calls (a0_0 : Int) (a0_1 : Int) (a0_2 : Int) (r : Bool) (w : World) (h : spec_pzHidden.f a0_0 a0_1 a0_2 = some r) :
  Calls Try.prog 62 #[.agg #[.int .i64 a0_0, .int .i64 a0_1, .int .i64 a0_2]] w fun e w' => e = .returned (.bool r) ∧ Below w.heap.size w w' := by
 have hu41 := Try.underlying41
 have HB := Aside0.mk (Below.refl w.heap.size w)
 have H : ((spec_pzWide.f a0_0).bind fun t438 => (if t438 = true then ((spec_pzWide.f a0_1).bind fun t439 => (if t439 = true then ((spec_pzWide.f a0_2).bind fun t440 => (some t440)) else (some false))) else (some false))) = some r := h
 clear h; replace H := Option.bind_eq_some_iff.mp H
 obtain ⟨t438, A20, H⟩ := H
 replace H : (if t438 = true then ((spec_pzWide.f a0_1).bind fun t439 => (if t439 = true then ((spec_pzWide.f a0_2).bind fun t440 => (some t440)) else (some false))) else (some false)) = some r := H
 have A2 := Aside0.mk A20
 clear A20
 by_cases c3 : t438 = true
 ·subst c3
  have H1 : ((spec_pzWide.f a0_1).bind fun t439 => (if t439 = true then ((spec_pzWide.f a0_2).bind fun t440 => (some t440)) else (some false))) = some r := by rw [if_pos rfl] at H; exact H
  clear H; have H := H1; clear H1; replace H := Option.bind_eq_some_iff.mp H
  obtain ⟨t439, A40, H⟩ := H
  replace H : (if t439 = true then ((spec_pzWide.f a0_2).bind fun t440 => (some t440)) else (some false)) = some r := H
  have A4 := Aside0.mk A40
  clear A40
  by_cases c5 : t439 = true
  ·subst c5
   have H1 : ((spec_pzWide.f a0_2).bind fun t440 => (some t440)) = some r := by rw [if_pos rfl] at H; exact H
   clear H; have H := H1; clear H1; replace H := Option.bind_eq_some_iff.mp H
   obtain ⟨t440, A60, H⟩ := H
   replace H : (some t440) = some r := H
   have A6 := Aside0.mk A60
   clear A60
   obtain rfl := Option.some.inj H
   go_enter Try.func62, Try.ntmps62
   go_wp2_with (first | ((with_reducible refine gate_dst (N := 1) rfl ?_); refine box_event ?hg (N := 1) ?hd (cs := #[.int .i64 a0_0, .int .i64 a0_1, .int .i64 a0_2]) (t := 41) ?hr ?_; (case hd => rfl); (case hg => rfl); (case hr => first | (go_simp; done) | (go_simp; rfl)); intro gb437 hg w7 hbox hb; have n0_ := Aside0.mk (below_step (by repeat (first | (with_reducible first | exact HB.out | apply below_alloc | apply pw_below_drewN | apply below_drew1) | exact HB.out)) hb); have n1_ := Aside0.mk (hbox); have n2_ := Aside0.mk ((by rw [hg]; exact (below_size (by repeat (first | (with_reducible first | exact HB.out | apply below_alloc | apply pw_below_drewN | apply below_drew1) | exact HB.out))) : w.heap.size ≤ gb437)); have n3_ := Aside0.mk ((by rw [hg]; exact (below_size (by repeat (first | (with_reducible first | exact HB.out | apply below_alloc | apply pw_below_drewN | apply below_drew1) | exact HB.out))) : w.heap.size ≤ gb437)); clear HB; have HB := n0_; have BK437 := n1_; have GW437 := n2_; have GE437 := n3_; clear n0_ n1_ n2_ n3_; clear hb hbox hg; have hcz8_0 : w7.cell? ⟨gb437, 0, none⟩ = some (.int .i64 a0_0) := (blk_cell BK437.out 0).trans rfl; have hcz8_1 : w7.cell? ⟨gb437, 1, none⟩ = some (.int .i64 a0_1) := (blk_cell BK437.out 1).trans rfl; have hcz8_2 : w7.cell? ⟨gb437, 2, none⟩ = some (.int .i64 a0_2) := (blk_cell BK437.out 2).trans rfl; have hfz8_0 := blk_frozen BK437.out 0; have hfz8_1 := blk_frozen BK437.out 1; have hfz8_2 := blk_frozen BK437.out 2) | ((with_reducible refine gate_callee (f := 77) rfl ?_); refine goesL_ (some 5) rfl rfl Try.func77 (by kernel_rfl) rfl #[.int .i64 a0_0] rfl (by (try simp only [List.map_toArray, List.map_cons, List.map_nil]); first | done | rfl | (simp only [List.length_drop, List.length_take]; rfl)) ?_; (with_reducible refine (spec_pzWide.calls a0_0 true _ A2.out).mono ?_); rintro e w' ⟨rfl, ⟨nd, rfl⟩⟩; refine ⟨_, rfl, ?_⟩) | (go_at_call 77; (with_reducible refine (spec_pzWide.calls a0_1 true _ A4.out).mono ?_); rintro e w' ⟨rfl, ⟨nd, rfl⟩⟩) | (go_at_call 77; (with_reducible refine (spec_pzWide.calls a0_2 t440 _ A6.out).mono ?_); rintro e w' ⟨rfl, ⟨nd, rfl⟩⟩))
   go_ret
   exact ⟨by first | rfl | (simp [errW_none, errW_some] <;> rfl) | (simp [*, errW_none, errW_some] <;> rfl), by repeat (first | (with_reducible first | exact HB.out | apply below_alloc | apply pw_below_drewN | apply below_drew1 | refine below_set ?_ GE437.out) | exact HB.out)⟩
  ·replace c5 := Bool.eq_false_iff.mpr c5
   subst c5
   have H1 : (some false) = some r := by rw [if_neg (show ¬ (false = true) by decide)] at H; exact H
   clear H; have H := H1; clear H1
   obtain rfl := Option.some.inj H
   go_enter Try.func62, Try.ntmps62
   go_wp2_with (first | ((with_reducible refine gate_dst (N := 1) rfl ?_); refine box_event ?hg (N := 1) ?hd (cs := #[.int .i64 a0_0, .int .i64 a0_1, .int .i64 a0_2]) (t := 41) ?hr ?_; (case hd => rfl); (case hg => rfl); (case hr => first | (go_simp; done) | (go_simp; rfl)); intro gb437 hg w9 hbox hb; have n0_ := Aside0.mk (below_step (by repeat (first | (with_reducible first | exact HB.out | apply below_alloc | apply pw_below_drewN | apply below_drew1) | exact HB.out)) hb); have n1_ := Aside0.mk (hbox); have n2_ := Aside0.mk ((by rw [hg]; exact (below_size (by repeat (first | (with_reducible first | exact HB.out | apply below_alloc | apply pw_below_drewN | apply below_drew1) | exact HB.out))) : w.heap.size ≤ gb437)); have n3_ := Aside0.mk ((by rw [hg]; exact (below_size (by repeat (first | (with_reducible first | exact HB.out | apply below_alloc | apply pw_below_drewN | apply below_drew1) | exact HB.out))) : w.heap.size ≤ gb437)); clear HB; have HB := n0_; have BK437 := n1_; have GW437 := n2_; have GE437 := n3_; clear n0_ n1_ n2_ n3_; clear hb hbox hg; have hcz10_0 : w9.cell? ⟨gb437, 0, none⟩ = some (.int .i64 a0_0) := (blk_cell BK437.out 0).trans rfl; have hcz10_1 : w9.cell? ⟨gb437, 1, none⟩ = some (.int .i64 a0_1) := (blk_cell BK437.out 1).trans rfl; have hcz10_2 : w9.cell? ⟨gb437, 2, none⟩ = some (.int .i64 a0_2) := (blk_cell BK437.out 2).trans rfl; have hfz10_0 := blk_frozen BK437.out 0; have hfz10_1 := blk_frozen BK437.out 1; have hfz10_2 := blk_frozen BK437.out 2) | ((with_reducible refine gate_callee (f := 77) rfl ?_); refine goesL_ (some 5) rfl rfl Try.func77 (by kernel_rfl) rfl #[.int .i64 a0_0] rfl (by (try simp only [List.map_toArray, List.map_cons, List.map_nil]); first | done | rfl | (simp only [List.length_drop, List.length_take]; rfl)) ?_; (with_reducible refine (spec_pzWide.calls a0_0 true _ A2.out).mono ?_); rintro e w' ⟨rfl, ⟨nd, rfl⟩⟩; refine ⟨_, rfl, ?_⟩) | (go_at_call 77; (with_reducible refine (spec_pzWide.calls a0_1 false _ A4.out).mono ?_); rintro e w' ⟨rfl, ⟨nd, rfl⟩⟩))
   go_ret
   exact ⟨by first | rfl | (simp [errW_none, errW_some] <;> rfl) | (simp [*, errW_none, errW_some] <;> rfl), by repeat (first | (with_reducible first | exact HB.out | apply below_alloc | apply pw_below_drewN | apply below_drew1 | refine below_set ?_ GE437.out) | exact HB.out)⟩
 ·replace c3 := Bool.eq_false_iff.mpr c3
  subst c3
  have H1 : (some false) = some r := by rw [if_neg (show ¬ (false = true) by decide)] at H; exact H
  clear H; have H := H1; clear H1
  obtain rfl := Option.some.inj H
  go_enter Try.func62, Try.ntmps62
  go_wp2_with (first | ((with_reducible refine gate_dst (N := 1) rfl ?_); refine box_event ?hg (N := 1) ?hd (cs := #[.int .i64 a0_0, .int .i64 a0_1, .int .i64 a0_2]) (t := 41) ?hr ?_; (case hd => rfl); (case hg => rfl); (case hr => first | (go_simp; done) | (go_simp; rfl)); intro gb437 hg w11 hbox hb; have n0_ := Aside0.mk (below_step (by repeat (first | (with_reducible first | exact HB.out | apply below_alloc | apply pw_below_drewN | apply below_drew1) | exact HB.out)) hb); have n1_ := Aside0.mk (hbox); have n2_ := Aside0.mk ((by rw [hg]; exact (below_size (by repeat (first | (with_reducible first | exact HB.out | apply below_alloc | apply pw_below_drewN | apply below_drew1) | exact HB.out))) : w.heap.size ≤ gb437)); have n3_ := Aside0.mk ((by rw [hg]; exact (below_size (by repeat (first | (with_reducible first | exact HB.out | apply below_alloc | apply pw_below_drewN | apply below_drew1) | exact HB.out))) : w.heap.size ≤ gb437)); clear HB; have HB := n0_; have BK437 := n1_; have GW437 := n2_; have GE437 := n3_; clear n0_ n1_ n2_ n3_; clear hb hbox hg; have hcz12_0 : w11.cell? ⟨gb437, 0, none⟩ = some (.int .i64 a0_0) := (blk_cell BK437.out 0).trans rfl; have hcz12_1 : w11.cell? ⟨gb437, 1, none⟩ = some (.int .i64 a0_1) := (blk_cell BK437.out 1).trans rfl; have hcz12_2 : w11.cell? ⟨gb437, 2, none⟩ = some (.int .i64 a0_2) := (blk_cell BK437.out 2).trans rfl; have hfz12_0 := blk_frozen BK437.out 0; have hfz12_1 := blk_frozen BK437.out 1; have hfz12_2 := blk_frozen BK437.out 2) | ((with_reducible refine gate_callee (f := 77) rfl ?_); refine goesL_ (some 5) rfl rfl Try.func77 (by kernel_rfl) rfl #[.int .i64 a0_0] rfl (by (try simp only [List.map_toArray, List.map_cons, List.map_nil]); first | done | rfl | (simp only [List.length_drop, List.length_take]; rfl)) ?_; (with_reducible refine (spec_pzWide.calls a0_0 false _ A2.out).mono ?_); rintro e w' ⟨rfl, ⟨nd, rfl⟩⟩; refine ⟨_, rfl, ?_⟩))
  go_ret
  exact ⟨by first | rfl | (simp [errW_none, errW_some] <;> rfl) | (simp [*, errW_none, errW_some] <;> rfl), by repeat (first | (with_reducible first | exact HB.out | apply below_alloc | apply pw_below_drewN | apply below_drew1 | refine below_set ?_ GE437.out) | exact HB.out)⟩

end Go.Proofs.Ythioojdannlhiaa.P

namespace Go.Proofs.Ythioojdannlhiaa.P
open Go.RowKit Go.Proofs.YthioojdannlhiaaW.PrintWords Go.Proofs.YthioojdannlhiaaW.PrintLast Go.Proofs.YthioojdannlhiaaW.PrintMore
set_option linter.unusedVariables false
set_option linter.unusedSimpArgs false
def mHidden (a b c : Int) : Bool := inr 1 12 a && (inr 1 12 b && inr 1 12 c)
theorem mHidden_iff {a b c : Int} : mHidden a b c = true ↔ (1 ≤ a ∧ a ≤ 12) ∧ (1 ≤ b ∧ b ≤ 12) ∧ (1 ≤ c ∧ c ≤ 12) := by
 unfold mHidden; simp only [Bool.and_eq_true, inr_iff]
theorem impl_areHidden.eq (a b c : Int) : impl_areHidden.f a b c = some (mHidden a b c) := by
 unfold impl_areHidden.f impl_isSmall.f mHidden
 simp only [impl_within.eq, Option.bind_some]
 cases inr 1 12 a <;> cases inr 1 12 b <;> cases inr 1 12 c <;> simp
theorem spec_pzHidden.eq (a b c : Int) : spec_pzHidden.f a b c = some (mHidden a b c) := by
 unfold spec_pzHidden.f spec_pzWide.f mHidden
 simp only [spec_l1In.eq, Option.bind_some]
 cases inr 1 12 a <;> cases inr 1 12 b <;> cases inr 1 12 c <;> simp
end Go.Proofs.Ythioojdannlhiaa.P

namespace Go.Proofs.Ythioojdannlhiaa.P
open Go.RowKit Go.Proofs.YthioojdannlhiaaW.PrintWords Go.Proofs.YthioojdannlhiaaW.PrintLast Go.Proofs.YthioojdannlhiaaW.PrintMore
set_option linter.unusedVariables false
set_option linter.unusedSimpArgs false
theorem gcd_tmod (a b : Int) : Int.gcd b (Int.tmod a b) = Int.gcd a b := by
 rw [Int.gcd_eq_natAbs_gcd_natAbs, Int.gcd_eq_natAbs_gcd_natAbs, Int.natAbs_tmod, Nat.gcd_comm, Nat.gcd_comm a.natAbs]
 exact (Nat.gcd_rec _ _).symm
theorem impl_gcd.ev_l (n : Nat) : ∀ a b : Int, b.natAbs ≤ n → -9223372036854775807 ≤ a → a ≤ 9223372036854775807 → -9223372036854775807 ≤ b → b ≤ 9223372036854775807 → Ev (fun k => impl_gcd.l0 k a b) (Int.gcd a b : Int) := by
 induction n using Nat.strongRecOn with
 | ind n ih =>
  intro a b hn ha0 ha1 hb0 hb1
  by_cases hb : b = 0
  ·subst hb
   refine Ev.step (f := fun _ => some (mx a (wrap64 (-a)))) (fun k => by simp only [impl_gcd.l0, if_true]) ?_
   refine Ev.const ?_
   rw [wid (by omega) (by omega), Int.gcd_zero_right]
   congr 1
   unfold mx; split <;> omega
  ·refine Ev.step (f := fun k => impl_gcd.l0 k b (Int.tmod a b)) (fun k => by simp only [impl_gcd.l0]; rw [if_neg hb]) ?_
   have h1 : (Int.tmod a b).natAbs < b.natAbs := by rw [Int.natAbs_tmod]; exact Nat.mod_lt _ (by omega)
   exact ev_eq (ih (Int.tmod a b).natAbs (by omega) b (Int.tmod a b) (Nat.le_refl _) hb0 hb1 (by omega) (by omega)) (by rw [gcd_tmod])
theorem impl_gcd.ev {a b : Int} (ha0 : -9223372036854775807 ≤ a) (ha1 : a ≤ 9223372036854775807) (hb0 : -9223372036854775807 ≤ b) (hb1 : b ≤ 9223372036854775807) : Ev (fun k => impl_gcd.f k a b) (Int.gcd a b : Int) := by
 unfold impl_gcd.f; exact impl_gcd.ev_l _ a b (Nat.le_refl _) ha0 ha1 hb0 hb1
/-- The fraction in lowest terms. -/
def loA (a b : Int) : Int := a / (Int.gcd a b : Int)
def loB (a b : Int) : Int := b / (Int.gcd a b : Int)
theorem gcd_pos {a b : Int} (hb : 0 < b) : (0 : Int) < (Int.gcd a b : Int) := by
 have : 0 < Int.gcd a b := Int.gcd_pos_of_ne_zero_right _ (by omega)
 omega
theorem lo_mulA {a b : Int} : loA a b * (Int.gcd a b : Int) = a := Int.ediv_mul_cancel (Int.gcd_dvd_left ..)
theorem lo_mulB {a b : Int} : loB a b * (Int.gcd a b : Int) = b := Int.ediv_mul_cancel (Int.gcd_dvd_right ..)
theorem loA_bd {a b : Int} (hb : 0 < b) : (loA a b).natAbs ≤ a.natAbs := by
 unfold loA
 rw [Int.natAbs_ediv_of_dvd (Int.gcd_dvd_left ..)]
 exact Nat.div_le_self _ _
theorem loB_pos {a b : Int} (hb : 0 < b) : 0 < loB a b ∧ loB a b ≤ b := by
 have g := gcd_pos (a := a) hb
 have e := lo_mulB (a := a) (b := b)
 have h0 : 0 < loB a b := by
  rcases Int.lt_or_le 0 (loB a b) with h | h
  ·exact h
  ·have := Int.mul_nonneg (show 0 ≤ -(loB a b) by omega) (show 0 ≤ (Int.gcd a b : Int) by omega)
   rw [Int.neg_mul, e] at this
   omega
 refine ⟨h0, ?_⟩
 have : loB a b * 1 ≤ loB a b * (Int.gcd a b : Int) := Int.mul_le_mul_of_nonneg_left (by omega) (by omega)
 rw [e] at this
 omega
theorem loA_nonneg {a b : Int} (ha : 0 ≤ a) (hb : 0 < b) : 0 ≤ loA a b ∧ loA a b ≤ a := by
 have g := gcd_pos (a := a) hb
 refine ⟨Int.ediv_nonneg ha (by omega), ?_⟩
 have := loA_bd (a := a) hb
 have h0 : 0 ≤ loA a b := Int.ediv_nonneg ha (by omega)
 omega
theorem tdiv_gcd_l {a b : Int} : Int.tdiv a (Int.gcd a b : Int) = loA a b := Int.tdiv_eq_ediv_of_dvd (Int.gcd_dvd_left ..)
theorem tdiv_gcd_r {a b : Int} : Int.tdiv b (Int.gcd a b : Int) = loB a b := Int.tdiv_eq_ediv_of_dvd (Int.gcd_dvd_right ..)
theorem impl_fraction.ev {a b : Int} (ha0 : -9223372036854775807 ≤ a) (ha1 : a ≤ 9223372036854775807) (hb0 : 0 < b) (hb1 : b ≤ 9223372036854775807) : Ev (fun k => impl_fraction.f k a b) (loA a b, loB a b, true) := by
 unfold impl_fraction.f
 refine Ev.bind (impl_gcd.ev ha0 ha1 (by omega) hb1) ?_
 have g := gcd_pos (a := a) hb0
 have h1 := loA_bd (a := a) hb0
 have h2 := loB_pos (a := a) hb0
 refine Ev.const ?_
 rw [if_neg (by omega), tdiv_gcd_l, tdiv_gcd_r, wid (by omega) (by omega), wid (by omega) (by omega)]
end Go.Proofs.Ythioojdannlhiaa.P

namespace Go.Proofs.Ythioojdannlhiaa.P
open Go.RowKit Go.Proofs.YthioojdannlhiaaW.PrintWords Go.Proofs.YthioojdannlhiaaW.PrintLast Go.Proofs.YthioojdannlhiaaW.PrintMore
set_option linter.unusedVariables false
set_option linter.unusedSimpArgs false
theorem spec_clLow.ev_l (x y : Int) (hx0 : 0 ≤ x) (hx1 : x ≤ 9223372036854775807) (hy0 : 0 < y) (hy1 : y ≤ 9223372036854775807) (n : Nat) : ∀ a b : Int, b.natAbs ≤ n → 0 ≤ a → 0 ≤ b → (0 < a ∨ 0 < b) → Int.gcd a b = Int.gcd x y → Ev (fun k => spec_clLow.l0 k x y a b) (loA x y, loB x y) := by
 induction n using Nat.strongRecOn with
 | ind n ih =>
  intro a b hn ha hb hab hg
  by_cases hb' : b = 0
  ·subst hb'
   refine Ev.step (f := fun _ => some (wrap64 (Int.tdiv x a), wrap64 (Int.tdiv y a))) (fun k => by simp only [spec_clLow.l0]; rw [if_neg (by omega), if_neg (by omega)]) ?_
   refine Ev.const ?_
   have ea : a = (Int.gcd x y : Int) := by rw [← hg, Int.gcd_zero_right]; omega
   have h1 := loA_bd (a := x) hy0
   have h2 := loB_pos (a := x) hy0
   rw [ea, tdiv_gcd_l, tdiv_gcd_r, wid (by omega) (by omega), wid (by omega) (by omega)]
  ·refine Ev.step (f := fun k => spec_clLow.l0 k x y b (Int.tmod a b)) (fun k => by simp only [spec_clLow.l0]; rw [if_pos (by omega), if_neg hb']) ?_
   have h1 : (Int.tmod a b).natAbs < b.natAbs := by rw [Int.natAbs_tmod]; exact Nat.mod_lt _ (by omega)
   exact ih (Int.tmod a b).natAbs (by omega) b (Int.tmod a b) (Nat.le_refl _) hb (Int.tmod_nonneg _ ha) (.inl (by omega)) ((gcd_tmod a b).trans hg)
theorem spec_clLow.ev {x y : Int} (hx0 : 0 ≤ x) (hx1 : x ≤ 9223372036854775807) (hy0 : 0 < y) (hy1 : y ≤ 9223372036854775807) : Ev (fun k => spec_clLow.f k x y) (loA x y, loB x y) := by
 unfold spec_clLow.f; exact spec_clLow.ev_l x y hx0 hx1 hy0 hy1 _ x y (Nat.le_refl _) hx0 (by omega) (.inr hy0) rfl
end Go.Proofs.Ythioojdannlhiaa.P

namespace Go.Proofs.Ythioojdannlhiaa.P
open Go.RowKit Go.Proofs.YthioojdannlhiaaW.PrintWords Go.Proofs.YthioojdannlhiaaW.PrintLast Go.Proofs.YthioojdannlhiaaW.PrintMore
set_option linter.unusedVariables false
set_option linter.unusedSimpArgs false
theorem sq_le {a b : Int} (h0 : 0 ≤ a) (h : a ≤ b) : a * a ≤ b * b := Int.mul_le_mul h h h0 (by omega)
theorem sq_lt {a b : Int} (h0 : 0 ≤ a) (h : a < b) : a * a < b * b := by
 have h1 := Int.mul_le_mul_of_nonneg_right (show a ≤ b by omega) h0
 have h2 := Int.mul_lt_mul_of_pos_left h (show 0 < b by omega)
 omega
/-- The greatest whole number up to n whose square is not greater than x. -/
def flrN : Nat → Int → Int
 | 0, _ => 0
 | n + 1, x => if ((n : Int) + 1) * ((n : Int) + 1) ≤ x then (n : Int) + 1 else flrN n x
def flr (x : Int) : Int := flrN x.toNat x
theorem flrN_spec (x : Int) (hx : 0 ≤ x) : ∀ n : Nat, 0 ≤ flrN n x ∧ flrN n x ≤ n ∧ flrN n x * flrN n x ≤ x ∧ (flrN n x < n → x < (flrN n x + 1) * (flrN n x + 1))
 | 0 => by simp [flrN]; exact hx
 | n + 1 => by
  have ih := flrN_spec x hx n
  unfold flrN
  by_cases h : ((n : Int) + 1) * ((n : Int) + 1) ≤ x
  ·rw [if_pos h]; exact ⟨by omega, by omega, h, fun h => by omega⟩
  ·rw [if_neg h]
   refine ⟨ih.1, by omega, ih.2.2.1, fun _ => ?_⟩
   by_cases h2 : flrN n x < n
   ·exact ih.2.2.2 h2
   ·have h3 : flrN n x = n := by omega
    rw [h3]; omega
theorem flr_spec {x : Int} (hx : 0 ≤ x) : 0 ≤ flr x ∧ flr x * flr x ≤ x ∧ x < (flr x + 1) * (flr x + 1) := by
 have h := flrN_spec x hx x.toNat
 unfold flr
 refine ⟨h.1, h.2.2.1, ?_⟩
 by_cases h2 : flrN x.toNat x < x.toNat
 ·exact h.2.2.2 h2
 ·have h3 : flrN x.toNat x = x := by omega
  rw [h3]
  have : x * 1 ≤ x * (x + 1) := Int.mul_le_mul_of_nonneg_left (by omega) hx
  have e : (x + 1) * (x + 1) = x * (x + 1) + (x + 1) := by rw [Int.add_mul, Int.one_mul]
  omega
theorem flr_le {x n : Int} (hx : 0 ≤ x) (h0 : 0 ≤ n) (h : n * n ≤ x) : n ≤ flr x := by
 have hs := flr_spec hx
 rcases Int.lt_or_le (flr x) n with h1 | h1
 ·have := sq_le (show 0 ≤ flr x + 1 by omega) (show flr x + 1 ≤ n by omega)
  omega
 ·exact h1
theorem flr_lt {x n : Int} (hx : 0 ≤ x) (h0 : 0 ≤ n) (h : x < n * n) : flr x < n := by
 have hs := flr_spec hx
 rcases Int.lt_or_le (flr x) n with h1 | h1
 ·exact h1
 ·have := sq_le h0 h1
  omega
def mWhole (x : Int) : Bool := flr x * flr x == x
def mCeil (x : Int) : Int := if mWhole x = true then flr x else flr x + 1
theorem mCeil_spec {x : Int} (hx : 0 ≤ x) : 0 ≤ mCeil x ∧ x ≤ mCeil x * mCeil x ∧ (mCeil x * mCeil x == x) = mWhole x := by
 have hs := flr_spec hx
 unfold mCeil
 by_cases h : mWhole x = true
 ·rw [if_pos h]
  have e : flr x * flr x = x := by simpa [mWhole] using h
  exact ⟨hs.1, by omega, by rw [h]; simpa using e⟩
 ·rw [if_neg h]
  refine ⟨by omega, by omega, ?_⟩
  rw [Bool.eq_false_iff.mpr h]
  simp only [beq_eq_false_iff_ne, ne_eq]
  omega
theorem mCeil_le {x n : Int} (hx : 0 ≤ x) (h0 : 0 ≤ n) (h : x ≤ n * n) : mCeil x ≤ n := by
 have hs := flr_spec hx
 unfold mCeil
 by_cases hw : mWhole x = true
 ·rw [if_pos hw]
  have e : flr x * flr x = x := by simpa [mWhole] using hw
  rcases Int.lt_or_le n (flr x) with h1 | h1
  ·have := sq_lt h0 h1; omega
  ·exact h1
 ·rw [if_neg hw]
  have e : flr x * flr x ≠ x := by simpa [mWhole] using hw
  rcases Int.lt_or_le (flr x) n with h1 | h1
  ·omega
  ·have := sq_le h0 h1; omega
theorem mCeil_gt {x n : Int} (hx : 0 ≤ x) (h0 : 0 ≤ n) (h : n * n < x) : n < mCeil x := by
 have hs := mCeil_spec hx
 rcases Int.lt_or_le n (mCeil x) with h1 | h1
 ·exact h1
 ·have := sq_le hs.1 h1; omega
theorem tdiv2 {a : Int} (h : 0 ≤ a) : Int.tdiv a 2 = a / 2 := Int.tdiv_eq_ediv_of_nonneg h
end Go.Proofs.Ythioojdannlhiaa.P

namespace Go.Proofs.Ythioojdannlhiaa.P
open Go.RowKit Go.Proofs.YthioojdannlhiaaW.PrintWords Go.Proofs.YthioojdannlhiaaW.PrintLast Go.Proofs.YthioojdannlhiaaW.PrintMore
set_option linter.unusedVariables false
set_option linter.unusedSimpArgs false
theorem spec_clRoot.ev_l {x : Int} (hx : 0 ≤ x) (n : Nat) : ∀ lo hi : Int, (hi - lo).toNat ≤ n → 0 ≤ lo → lo < hi → hi ≤ 2147483648 → lo ≤ flr x → flr x < hi → Ev (fun k => spec_clRoot.l0 k x lo hi) (flr x) := by
 induction n using Nat.strongRecOn with
 | ind n ih =>
  intro lo hi hn h0 h1 h2 h3 h4
  have hs := flr_spec hx
  refine Ev.succ ?_
  simp only [spec_clRoot.l0]
  rw [wid (show -9223372036854775808 ≤ hi - 1 by omega) (by omega)]
  by_cases hlt : lo < hi - 1
  ·simp only [if_pos hlt]
   rw [wid (show -9223372036854775808 ≤ lo + hi by omega) (by omega), tdiv2 (by omega), wid (show -9223372036854775808 ≤ (lo + hi) / 2 by omega) (by omega)]
   have hm0 : 0 ≤ (lo + hi) / 2 := by omega
   have hmb := mul_bd hm0 (show (lo + hi) / 2 ≤ 2147483648 by omega) hm0 (show (lo + hi) / 2 ≤ 2147483648 by omega)
   rw [wid (show -9223372036854775808 ≤ (lo + hi) / 2 * ((lo + hi) / 2) by omega) (by omega)]
   by_cases hc : (lo + hi) / 2 * ((lo + hi) / 2) ≤ x
   ·simp only [if_pos hc]
    have := flr_le hx hm0 hc
    exact ih (hi - (lo + hi) / 2).toNat (by omega) _ _ (Nat.le_refl _) (by omega) (by omega) h2 this h4
   ·simp only [if_neg hc]
    have := flr_lt hx hm0 (by omega)
    exact ih ((lo + hi) / 2 - lo).toNat (by omega) _ _ (Nat.le_refl _) h0 (by omega) (by omega) h3 this
  ·simp only [if_neg hlt]
   exact Ev.const (by congr 1; omega)
theorem spec_clRoot.ev {x : Int} (hx : 0 ≤ x) (hx1 : x < 4611686018427387904) : Ev (fun k => spec_clRoot.f k x) (flr x) := by
 unfold spec_clRoot.f
 exact spec_clRoot.ev_l hx _ 0 2147483648 (Nat.le_refl _) (by omega) (by omega) (by omega) (flr_spec hx).1 (flr_lt hx (by omega) (by omega))
end Go.Proofs.Ythioojdannlhiaa.P

namespace Go.Proofs.Ythioojdannlhiaa.P
open Go.RowKit Go.Proofs.YthioojdannlhiaaW.PrintWords Go.Proofs.YthioojdannlhiaaW.PrintLast Go.Proofs.YthioojdannlhiaaW.PrintMore
set_option linter.unusedVariables false
set_option linter.unusedSimpArgs false
def mLadders (a b c : Int) : Bool := inr 1 1000 a && (inr 1 1000 b && inr 1 1000 c)
theorem mLadders_iff {a b c : Int} : mLadders a b c = true ↔ (1 ≤ a ∧ a ≤ 1000) ∧ (1 ≤ b ∧ b ≤ 1000) ∧ (1 ≤ c ∧ c ≤ 1000) := by
 unfold mLadders; simp only [Bool.and_eq_true, inr_iff]
theorem impl_AreLadders.eq (a b c : Int) : impl_AreLadders.f a b c = some (mLadders a b c) := by
 unfold impl_AreLadders.f impl_isWide.f mLadders
 simp only [impl_within.eq, Option.bind_some]
 cases inr 1 1000 a <;> cases inr 1 1000 b <;> cases inr 1 1000 c <;> simp
def mCrossHeight (a b c : Int) : Int × Int × Bool := if mLadders a b c = true then (loA (b * c) (b + c), loB (b * c) (b + c), true) else (0, 0, false)
def mCrossPlace (a b c : Int) : Int × Int × Bool := if mLadders a b c = true then (loA (b * a) (b + c), loB (b * a) (b + c), true) else (0, 0, false)
theorem impl_CrossHeight.ev (a b c : Int) : Ev (fun k => impl_CrossHeight.f k a b c) (mCrossHeight a b c) := by
 unfold impl_CrossHeight.f mCrossHeight
 refine Ev.bindc (impl_AreLadders.eq a b c) ?_
 refine Ev.ite (fun h => ?_) (fun _ => Ev.now _)
 obtain ⟨h0, h1, h2⟩ := mLadders_iff.1 h
 have p := mul_bd (a := b) (b := c) (A := 1000) (B := 1000) (by omega) (by omega) (by omega) (by omega)
 rw [wid (show -9223372036854775808 ≤ b * c by omega) (by omega), wid (show -9223372036854775808 ≤ b + c by omega) (by omega)]
 exact Ev.bind (impl_fraction.ev (by omega) (by omega) (by omega) (by omega)) (Ev.now _)
theorem impl_CrossPlace.ev (a b c : Int) : Ev (fun k => impl_CrossPlace.f k a b c) (mCrossPlace a b c) := by
 unfold impl_CrossPlace.f mCrossPlace
 refine Ev.bindc (impl_AreLadders.eq a b c) ?_
 refine Ev.ite (fun h => ?_) (fun _ => Ev.now _)
 obtain ⟨h0, h1, h2⟩ := mLadders_iff.1 h
 have p := mul_bd (a := b) (b := a) (A := 1000) (B := 1000) (by omega) (by omega) (by omega) (by omega)
 rw [wid (show -9223372036854775808 ≤ b * a by omega) (by omega), wid (show -9223372036854775808 ≤ b + c by omega) (by omega)]
 exact Ev.bind (impl_fraction.ev (by omega) (by omega) (by omega) (by omega)) (Ev.now _)
end Go.Proofs.Ythioojdannlhiaa.P

namespace Go.Proofs.Ythioojdannlhiaa.P
open Go.RowKit Go.Proofs.YthioojdannlhiaaW.PrintWords Go.Proofs.YthioojdannlhiaaW.PrintLast Go.Proofs.YthioojdannlhiaaW.PrintMore
set_option linter.unusedVariables false
set_option linter.unusedSimpArgs false
theorem impl_rootOf.ev_b {x : Int} (hx : 0 ≤ x) (hx1 : x ≤ 1152921504606846976) (n : Nat) : ∀ lo hi : Int, (hi - lo).toNat ≤ n → 0 ≤ lo → lo ≤ mCeil x → mCeil x ≤ hi → hi ≤ 2147483648 → Ev (fun k => impl_rootOf.l1 k x lo hi) (mCeil x, mWhole x) := by
 induction n using Nat.strongRecOn with
 | ind n ih =>
  intro lo hi hn h0 h1 h2 h3
  have hs := mCeil_spec hx
  refine Ev.succ ?_
  simp only [impl_rootOf.l1]
  by_cases hlt : lo < hi
  ·simp only [if_pos hlt]
   rw [wid (show -9223372036854775808 ≤ lo + hi by omega) (by omega), tdiv2 (by omega), wid (show -9223372036854775808 ≤ (lo + hi) / 2 by omega) (by omega)]
   have hm0 : 0 ≤ (lo + hi) / 2 := by omega
   have hmb := mul_bd hm0 (show (lo + hi) / 2 ≤ 2147483648 by omega) hm0 (show (lo + hi) / 2 ≤ 2147483648 by omega)
   rw [wid (show -9223372036854775808 ≤ (lo + hi) / 2 * ((lo + hi) / 2) by omega) (by omega)]
   by_cases hc : (lo + hi) / 2 * ((lo + hi) / 2) < x
   ·simp only [if_pos hc]
    have := mCeil_gt hx hm0 hc
    rw [wid (show -9223372036854775808 ≤ (lo + hi) / 2 + 1 by omega) (by omega)]
    exact ih (hi - ((lo + hi) / 2 + 1)).toNat (by omega) _ _ (Nat.le_refl _) (by omega) (by omega) h2 h3
   ·simp only [if_neg hc]
    have := mCeil_le hx hm0 (by omega)
    exact ih ((lo + hi) / 2 - lo).toNat (by omega) _ _ (Nat.le_refl _) h0 h1 this (by omega)
  ·simp only [if_neg hlt]
   have e : lo = mCeil x := by omega
   refine Ev.const ?_
   have hmb := mul_bd h0 (show lo ≤ 2147483648 by omega) h0 (show lo ≤ 2147483648 by omega)
   rw [wid (show -9223372036854775808 ≤ lo * lo by omega) (by omega), e, hs.2.2]
theorem impl_rootOf.ev_a {x : Int} (hx : 0 ≤ x) (hx1 : x ≤ 1152921504606846976) (n : Nat) : ∀ hi : Int, (2147483648 - hi).toNat ≤ n → 1 ≤ hi → hi ≤ 2147483648 → Ev (fun k => impl_rootOf.l0 k x 0 hi) (mCeil x, mWhole x) := by
 induction n using Nat.strongRecOn with
 | ind n ih =>
  intro hi hn h0 h1
  have hs := mCeil_spec hx
  refine Ev.succ ?_
  simp only [impl_rootOf.l0]
  have hmb := mul_bd (show 0 ≤ hi by omega) h1 (show 0 ≤ hi by omega) h1
  rw [wid (show -9223372036854775808 ≤ hi * hi by omega) (by omega)]
  by_cases hc : hi * hi < x
  ·simp only [if_pos hc]
   have hh : hi ≤ 1073741823 := by
    rcases Int.lt_or_le hi 1073741824 with h | h
    ·omega
    ·have := sq_le (show (0 : Int) ≤ 1073741824 by omega) h; omega
   rw [wid (show -9223372036854775808 ≤ hi * 2 by omega) (by omega)]
   exact ih (2147483648 - hi * 2).toNat (by omega) _ (Nat.le_refl _) (by omega) (by omega)
  ·simp only [if_neg hc]
   exact impl_rootOf.ev_b hx hx1 _ 0 hi (Nat.le_refl _) (by omega) hs.1 (mCeil_le hx (by omega) (by omega)) h1
theorem impl_rootOf.ev {x : Int} (hx : 0 ≤ x) (hx1 : x ≤ 1152921504606846976) : Ev (fun k => impl_rootOf.f k x) (mCeil x, mWhole x) := by
 unfold impl_rootOf.f
 exact impl_rootOf.ev_a hx hx1 _ 1 (Nat.le_refl _) (by omega) (by omega)
end Go.Proofs.Ythioojdannlhiaa.P

namespace Go.Proofs.Ythioojdannlhiaa.P
open Go.RowKit Go.Proofs.YthioojdannlhiaaW.PrintWords Go.Proofs.YthioojdannlhiaaW.PrintLast Go.Proofs.YthioojdannlhiaaW.PrintMore
set_option linter.unusedVariables false
set_option linter.unusedSimpArgs false
def mOwn (a b c : Int) : Int := if a = 1 then c else b
/-- What a clue of kind k tells of ladders (w, l, r), with a for the kind 3. -/
def mVal (k a w l r : Int) : Int × Int :=
 if k = 0 then (a, l + r) else if k = 1 then (a, if l > r then 1 else 0) else if k = 2 then (loA (l * r) (l + r), loB (l * r) (l + r))
 else if k = 3 then (a, if mWhole (w * w + mOwn a l r * mOwn a l r) = true then 1 else 0) else if k = 4 then (loA (l * w) (l + r), loB (l * w) (l + r)) else (a, l * r)
theorem mWhole_flr (x : Int) : (flr x * flr x = x) = (mWhole x = true) := by unfold mWhole; simp
theorem spec_pzValue.ev (k a w l r : Int) (h : mHidden w l r = true) : Ev (fun n => spec_pzValue.f n k a w l r) (mVal k a w l r) := by
 obtain ⟨h0, h1, h2⟩ := mHidden_iff.1 h
 have p1 := mul_bd (a := l) (b := r) (A := 12) (B := 12) (by omega) (by omega) (by omega) (by omega)
 have p2 := mul_bd (a := l) (b := w) (A := 12) (B := 12) (by omega) (by omega) (by omega) (by omega)
 have p3 := mul_bd (a := w) (b := w) (A := 12) (B := 12) (by omega) (by omega) (by omega) (by omega)
 have p4 := mul_bd (a := l) (b := l) (A := 12) (B := 12) (by omega) (by omega) (by omega) (by omega)
 have p5 := mul_bd (a := r) (b := r) (A := 12) (B := 12) (by omega) (by omega) (by omega) (by omega)
 unfold spec_pzValue.f mVal
 rw [Int.mul_comm w l, wid (show -9223372036854775808 ≤ l + r by omega) (by omega), wid (show -9223372036854775808 ≤ l * r by omega) (by omega), wid (show -9223372036854775808 ≤ l * w by omega) (by omega)]
 refine Ev.ite (fun _ => Ev.now _) (fun _ => ?_)
 refine Ev.ite (fun _ => ?_) (fun _ => ?_)
 ·by_cases hc : l > r
  ·simp only [if_pos hc]; exact Ev.now _
  ·simp only [if_neg hc]; exact Ev.now _
 refine Ev.ite (fun _ => Ev.bind (spec_clLow.ev (by omega) (by omega) (by omega) (by omega)) (Ev.now _)) (fun _ => ?_)
 refine Ev.ite (fun _ => ?_) (fun _ => ?_)
 ·refine Ev.bindc (a := (w * w + l * l, w * w + r * r)) ?_ ?_
  ·unfold spec_clSquares.f
   rw [wid (show -9223372036854775808 ≤ w * w by omega) (by omega), wid (show -9223372036854775808 ≤ l * l by omega) (by omega), wid (show -9223372036854775808 ≤ r * r by omega) (by omega), wid (show -9223372036854775808 ≤ w * w + l * l by omega) (by omega), wid (show -9223372036854775808 ≤ w * w + r * r by omega) (by omega)]
  ·have hsq : ∀ x : Int, 0 ≤ x → x ≤ 288 → wrap64 (flr x * flr x) = flr x * flr x := fun x hx h => by have := flr_spec hx; have := sq_le (show (0 : Int) ≤ 0 by omega) this.1; exact wid (by omega) (by omega)
   by_cases hc : a = 1
   ·simp only [if_pos hc, mOwn]
    refine Ev.bind (spec_clRoot.ev (x := w * w + r * r) (by omega) (by omega)) ?_
    rw [hsq _ (by omega) (by omega)]
    simp only [mWhole_flr]
    by_cases hw : mWhole (w * w + r * r) = true
    ·simp only [if_pos hw]; exact Ev.now _
    ·simp only [if_neg hw]; exact Ev.now _
   ·simp only [if_neg hc, mOwn]
    refine Ev.bind (spec_clRoot.ev (x := w * w + l * l) (by omega) (by omega)) ?_
    rw [hsq _ (by omega) (by omega)]
    simp only [mWhole_flr]
    by_cases hw : mWhole (w * w + l * l) = true
    ·simp only [if_pos hw]; exact Ev.now _
    ·simp only [if_neg hw]; exact Ev.now _
 refine Ev.ite (fun _ => Ev.bind (spec_clLow.ev (by omega) (by omega) (by omega) (by omega)) (Ev.now _)) (fun _ => Ev.now _)
/-- What told answers: side 0 or 1. -/
theorem impl_told.ev (k a w l r : Int) (h : mHidden w l r = true) (hk : 0 ≤ k ∧ k ≤ 5) (ha : a = 0 ∨ a = 1) (ha3 : k ≠ 3 → a = 0) : Ev (fun n => impl_told.f n w l r k a) (k, (mVal k a w l r).1, (mVal k a w l r).2) := by
 obtain ⟨h0, h1, h2⟩ := mHidden_iff.1 h
 have hL : mLadders w l r = true := mLadders_iff.2 (by omega)
 have p1 := mul_bd (a := l) (b := r) (A := 12) (B := 12) (by omega) (by omega) (by omega) (by omega)
 have p2 := mul_bd (a := l) (b := w) (A := 12) (B := 12) (by omega) (by omega) (by omega) (by omega)
 have p3 := mul_bd (a := w) (b := w) (A := 12) (B := 12) (by omega) (by omega) (by omega) (by omega)
 have p4 := mul_bd (a := l) (b := l) (A := 12) (B := 12) (by omega) (by omega) (by omega) (by omega)
 have p5 := mul_bd (a := r) (b := r) (A := 12) (B := 12) (by omega) (by omega) (by omega) (by omega)
 unfold impl_told.f
 rw [wid (show -9223372036854775808 ≤ l + r by omega) (by omega), wid (show -9223372036854775808 ≤ l * r by omega) (by omega)]
 have hk6 : k = 0 ∨ k = 1 ∨ k = 2 ∨ k = 3 ∨ k = 4 ∨ k = 5 := by omega
 rcases hk6 with rfl | rfl | rfl | rfl | rfl | rfl
 ·obtain rfl := ha3 (by omega)
  simp only [if_true, mVal]; exact Ev.now _
 ·obtain rfl := ha3 (by omega)
  simp only [mVal, show ¬ ((1 : Int) = 0) by omega, if_false, if_true]
  by_cases hc : l > r
  ·simp [impl_asNumber.f, hc]; exact Ev.now _
  ·simp [impl_asNumber.f, hc]; exact Ev.now _
 ·simp only [mVal, show ¬ ((2 : Int) = 0) by omega, show ¬ ((2 : Int) = 1) by omega, if_false, if_true]
  have e := impl_CrossHeight.ev w l r
  rw [mCrossHeight, if_pos hL] at e
  exact Ev.bind e (Ev.now _)
 ·simp only [mVal, show ¬ ((3 : Int) = 0) by omega, show ¬ ((3 : Int) = 1) by omega, show ¬ ((3 : Int) = 2) by omega, if_false, if_true, Option.bind_some]
  have hl : (([l, r] : List Int).length : Int) = 2 := rfl
  rw [hl]
  simp only [show 0 ≤ a by omega, show a < 2 by omega, if_true]
  have hrd : rd [l, r] a = mOwn a l r := by
   rcases ha with rfl | rfl
   ·simp [mOwn, rd]
   ·simp [mOwn, rd]
  rw [hrd]
  have hob : 1 ≤ mOwn a l r ∧ mOwn a l r ≤ 12 := by unfold mOwn; split <;> omega
  have p6 := mul_bd (a := mOwn a l r) (b := mOwn a l r) (A := 12) (B := 12) (by omega) (by omega) (by omega) (by omega)
  refine Ev.bindc (a := w * w + mOwn a l r * mOwn a l r) ?_ ?_
  ·unfold impl_square.f
   rw [wid (show -9223372036854775808 ≤ w * w by omega) (by omega), wid (show -9223372036854775808 ≤ mOwn a l r * mOwn a l r by omega) (by omega), wid (show -9223372036854775808 ≤ w * w + mOwn a l r * mOwn a l r by omega) (by omega)]
  ·refine Ev.bind (impl_rootOf.ev (by omega) (by omega)) ?_
   simp only [impl_asNumber.f]
   by_cases hw : mWhole (w * w + mOwn a l r * mOwn a l r) = true
   ·simp only [if_pos hw, Option.bind_some]; exact Ev.now _
   ·simp only [if_neg hw, Option.bind_some]; exact Ev.now _
 ·simp only [mVal, show ¬ ((4 : Int) = 0) by omega, show ¬ ((4 : Int) = 1) by omega, show ¬ ((4 : Int) = 2) by omega, show ¬ ((4 : Int) = 3) by omega, if_false, if_true]
  have e := impl_CrossPlace.ev w l r
  rw [mCrossPlace, if_pos hL] at e
  exact Ev.bind e (Ev.now _)
 ·obtain rfl := ha3 (by omega)
  simp only [mVal, show ¬ ((5 : Int) = 0) by omega, show ¬ ((5 : Int) = 1) by omega, show ¬ ((5 : Int) = 2) by omega, show ¬ ((5 : Int) = 3) by omega, show ¬ ((5 : Int) = 4) by omega, if_false, if_true]; exact Ev.now _
end Go.Proofs.Ythioojdannlhiaa.P

namespace Go.Proofs.Ythioojdannlhiaa.P
open Go.RowKit Go.Proofs.YthioojdannlhiaaW.PrintWords Go.Proofs.YthioojdannlhiaaW.PrintLast Go.Proofs.YthioojdannlhiaaW.PrintMore
set_option linter.unusedVariables false
set_option linter.unusedSimpArgs false
/-- The clue (k, a, b) fits the ladders. -/
def mFits (k a b w l r : Int) : Bool := (mVal k a w l r).1 == a && (mVal k a w l r).2 == b
theorem mClue_kind {k a b : Int} (h : mClue k a b = true) : 0 ≤ k ∧ k ≤ 5 ∧ (k ≠ 3 → k ≠ 2 → k ≠ 4 → a = 0) ∧ (k = 3 → a = 0 ∨ a = 1) := by
 unfold mClue at h
 simp only [Bool.and_eq_true, Bool.or_eq_true, inr_iff, beq_iff_eq, decide_eq_true_eq] at h
 omega
theorem spec_pzFits.ev (k a b w l r : Int) (h : mHidden w l r = true) : Ev (fun n => spec_pzFits.f n k a b w l r) (mFits k a b w l r) := by
 unfold spec_pzFits.f mFits
 refine Ev.bind (spec_pzValue.ev k a w l r h) ?_
 by_cases hc : (mVal k a w l r).1 = a
 ·simp only [if_pos hc, hc, beq_self_eq_true, Bool.true_and]; exact Ev.now _
 ·simp only [if_neg hc]
  exact Ev.const (by simp [hc])
theorem mVal_other (k a a' w l r : Int) (hk : k = 2 ∨ k = 4) : mVal k a w l r = mVal k a' w l r := by
 rcases hk with rfl | rfl <;> simp [mVal]
theorem impl_doesFit.ev (k a b w l r : Int) (h : mHidden w l r = true) (hc : mClue k a b = true) : Ev (fun n => impl_doesFit.f n k a b w l r) (mFits k a b w l r) := by
 obtain ⟨k0, k5, k1, k3⟩ := mClue_kind hc
 unfold impl_doesFit.f
 by_cases h3 : k = 3
 ·simp only [if_pos h3]
  refine Ev.bind (impl_told.ev k a w l r h ⟨k0, k5⟩ (k3 h3) (fun h => absurd h3 h)) ?_
  refine Ev.const ?_
  simp [mFits]
 ·simp only [if_neg h3]
  refine Ev.bind (impl_told.ev k 0 w l r h ⟨k0, k5⟩ (.inl rfl) (fun _ => rfl)) ?_
  refine Ev.const ?_
  by_cases h24 : k = 2 ∨ k = 4
  ·rw [mVal_other k 0 a w l r h24]; simp [mFits]
  ·have ha := k1 h3 (by omega) (by omega)
   subst ha
   simp [mFits]
end Go.Proofs.Ythioojdannlhiaa.P

namespace Go.Proofs.Ythioojdannlhiaa.P
open Go.RowKit Go.Proofs.YthioojdannlhiaaW.PrintWords Go.Proofs.YthioojdannlhiaaW.PrintLast Go.Proofs.YthioojdannlhiaaW.PrintMore
set_option linter.unusedVariables false
set_option linter.unusedSimpArgs false
def mkL (w : Int) (i j : Nat) : S41 := ⟨w, (i : Int) + 1, (j : Int) + 1⟩
def fitsAll (l : List S43) (x : S41) : Bool := l.all fun c => mFits c.f0 c.f1 c.f2 x.f0 x.f1 x.f2
/-- From place j on in the row of the left height i + 1. -/
def mRow (w : Int) (l : List S43) (i j : Nat) : List S41 := ((List.range' j (12 - j)).map (mkL w i)).filter (fitsAll l)
def mRows (w : Int) (l : List S43) (i : Nat) : List S41 := (List.range' i (12 - i)).flatMap fun i => mRow w l i 0
/-- All hidden ladders that fit the clues, in order. -/
def mSols (w : Int) (l : List S43) : List S41 := mRows w l 0
theorem mRow_step (w : Int) (l : List S43) (i j : Nat) (h : j < 12) : mRow w l i j = (if fitsAll l (mkL w i j) = true then [mkL w i j] else []) ++ mRow w l i (j + 1) := by
 unfold mRow
 rw [show 12 - j = (12 - (j + 1)) + 1 by omega, List.range'_succ, List.map_cons, List.filter_cons]
 split <;> simp
theorem mRow_end (w : Int) (l : List S43) (i j : Nat) (h : 12 ≤ j) : mRow w l i j = [] := by
 unfold mRow; rw [show 12 - j = 0 by omega]; rfl
theorem mRows_step (w : Int) (l : List S43) (i : Nat) (h : i < 12) : mRows w l i = mRow w l i 0 ++ mRows w l (i + 1) := by
 unfold mRows
 rw [show 12 - i = (12 - (i + 1)) + 1 by omega, List.range'_succ, List.flatMap_cons]
theorem mRows_end (w : Int) (l : List S43) (i : Nat) (h : 12 ≤ i) : mRows w l i = [] := by
 unfold mRows; rw [show 12 - i = 0 by omega]; rfl
theorem mRow_len (w : Int) (l : List S43) (i j : Nat) : (mRow w l i j).length ≤ 12 - j := by
 unfold mRow
 exact Nat.le_trans (List.length_filter_le _ _) (by simp)
theorem mRows_len (w : Int) (l : List S43) : ∀ (d i : Nat), i + d = 12 → (mRows w l i).length ≤ 12 * d
 | 0, i, h => by rw [mRows_end w l i (by omega)]; simp
 | d + 1, i, h => by
  rw [mRows_step w l i (by omega), List.length_append]
  have := mRow_len w l i 0
  have := mRows_len w l d (i + 1) (by omega)
  omega
theorem mSols_len (w : Int) (l : List S43) : (mSols w l).length ≤ 144 := mRows_len w l 12 0 (by omega)
theorem anySolution.ev (w : Int) (l : List S43) (a b : Int) (h : mHidden w a b = true) (hc : l.all mClueS = true) : Ev (fun k => anySolution.f k l w a b) (!(fitsAll l ⟨w, a, b⟩)) := by
 refine ev_eq (r := l.any fun c => !(mFits c.f0 c.f1 c.f2 w a b)) ?_ (by unfold fitsAll; rw [List.not_all_eq_any_not])
 unfold anySolution.f
 refine cAny_ev l (fun x hx => ?_)
 unfold anySolution.p
 exact Ev.bind (impl_doesFit.ev _ _ _ _ _ _ h (List.all_eq_true.1 hc x hx)) (Ev.now _)
theorem hid_mk {w : Int} (hw : inr 1 12 w = true) {i j : Nat} (hi : i < 12) (hj : j < 12) : mHidden w ((i : Int) + 1) ((j : Int) + 1) = true := by
 have := inr_iff.1 hw
 exact mHidden_iff.2 (by omega)
theorem impl_solutions.ev_r (w : Int) (l : List S43) (hw : inr 1 12 w = true) (hc : l.all mClueS = true) (r : List S41) (i : Nat) (hi : i < 12) (d : Nat) : ∀ (j : Nat) (out : List S41), j + d = 12 → out.length ≤ 12 * i + j → Ev (fun k => impl_solutions.l0 k w l (out ++ mRow w l i j) ((i + 1 : Nat) + 1 : Int)) r → Ev (fun k => impl_solutions.l1 k w l out ((i : Int) + 1) ((j : Int) + 1)) r := by
 induction d with
 | zero =>
  intro j out hj ho h
  rw [mRow_end w l i j (by omega), List.append_nil] at h
  refine Ev.succ ?_
  simp only [impl_solutions.l1, show ¬ ((j : Int) + 1 ≤ 12) by omega, if_false]
  rw [wid (show -9223372036854775808 ≤ (i : Int) + 1 + 1 by omega) (by omega)]
  exact h
 | succ d ih =>
  intro j out hj ho h
  rw [mRow_step w l i j (by omega)] at h
  refine Ev.succ ?_
  simp only [impl_solutions.l1, show ((j : Int) + 1 ≤ 12) by omega, if_true]
  refine Ev.bind (anySolution.ev w l _ _ (hid_mk hw hi (by omega)) hc) ?_
  rw [wid (show -9223372036854775808 ≤ (j : Int) + 1 + 1 by omega) (by omega)]
  by_cases hf : fitsAll l (mkL w i j) = true
  ·rw [if_pos hf] at h
   simp only [show fitsAll l ⟨w, (i : Int) + 1, (j : Int) + 1⟩ = true from hf, Bool.not_true, Bool.false_eq_true, if_false, show out.length < 5864062014805 by omega, if_true]
   exact ih (j + 1) (out ++ [mkL w i j]) (by omega) (by simp; omega) (by rw [List.append_assoc]; exact h)
  ·rw [if_neg hf, List.nil_append] at h
   simp only [show fitsAll l ⟨w, (i : Int) + 1, (j : Int) + 1⟩ = false from Bool.eq_false_iff.mpr hf, Bool.not_false, if_true]
   exact ih (j + 1) out (by omega) (by omega) h
theorem impl_solutions.ev_l (w : Int) (l : List S43) (hw : inr 1 12 w = true) (hc : l.all mClueS = true) (d : Nat) : ∀ (i : Nat) (out : List S41), i + d = 12 → out.length ≤ 12 * i → Ev (fun k => impl_solutions.l0 k w l out ((i : Int) + 1)) (out ++ mRows w l i) := by
 induction d with
 | zero =>
  intro i out hi ho
  rw [mRows_end w l i (by omega), List.append_nil]
  refine Ev.succ ?_
  simp only [impl_solutions.l0, show ¬ ((i : Int) + 1 ≤ 12) by omega, if_false]
  exact Ev.now _
 | succ d ih =>
  intro i out hi ho
  rw [mRows_step w l i (by omega)]
  refine Ev.succ ?_
  simp only [impl_solutions.l0, show ((i : Int) + 1 ≤ 12) by omega, if_true]
  have hl := mRow_len w l i 0
  have h := ih (i + 1) (out ++ mRow w l i 0) (by omega) (by rw [List.length_append]; omega)
  rw [List.append_assoc] at h
  exact impl_solutions.ev_r w l hw hc _ i (by omega) 12 0 out (by omega) (by omega) h
theorem impl_solutions.ev {w : Int} {l : List S43} (hw : inr 1 12 w = true) (hc : l.all mClueS = true) : Ev (fun k => impl_solutions.f k w l) (mSols w l) := by
 unfold impl_solutions.f
 exact impl_solutions.ev_l w l hw hc 12 0 [] (by omega) (by simp)
theorem spec_pzAll.ev_c (w : Int) (l : List S43) (hl : l.length ≤ 4611686018427387904) (out : List S41) (a b : Int) (h : mHidden w a b = true) (ho : out.length < 5864062014805) (r : List S41) (d : Nat) : ∀ (t : Nat) (x9 : Bool), t + d = l.length →
  Ev (fun k => spec_pzAll.l1 k w l (if (x9 && (l.drop t).all fun c => mFits c.f0 c.f1 c.f2 w a b) = true then out ++ [⟨w, a, b⟩] else out) a (wrap64 (b + 1))) r → Ev (fun k => spec_pzAll.l2 k w l out a b x9 l (l.length : Int) (t : Int) w a b) r := by
 induction d with
 | zero =>
  intro t x9 ht hr
  rw [show t = l.length by omega, List.drop_length] at hr
  refine Ev.succ ?_
  simp only [spec_pzAll.l2, show ¬ ((t : Int) < (l.length : Int)) by omega, if_false]
  cases x9 with
  | true => simp only [if_true, if_pos ho]; simpa using hr
  | false => simp only [Bool.false_eq_true, if_false]; simpa using hr
 | succ d ih =>
  intro t x9 ht hr
  have hlt : t < l.length := by omega
  have e : rd_T43 l (t : Int) = l[t] := by simp [rd_T43, List.getD_eq_getElem?_getD, List.getElem?_eq_getElem hlt]
  rw [List.drop_eq_getElem_cons hlt, List.all_cons] at hr
  refine Ev.succ ?_
  simp only [spec_pzAll.l2, show ((t : Int) < (l.length : Int)) by omega, show (0 : Int) ≤ (t : Int) by omega, if_true, e]
  rw [wid (show -9223372036854775808 ≤ (t : Int) + 1 by omega) (by omega)]
  cases x9 with
  | true =>
   simp only [if_true]
   refine Ev.bind (spec_pzFits.ev _ _ _ w a b h) ?_
   exact ih (t + 1) _ (by omega) (by simpa using hr)
  | false =>
   simp only [Bool.false_eq_true, if_false]
   exact ih (t + 1) false (by omega) (by simpa using hr)
theorem spec_pzAll.ev_r (w : Int) (l : List S43) (hl : l.length ≤ 4611686018427387904) (hw : inr 1 12 w = true) (r : List S41) (i : Nat) (hi : i < 12) (d : Nat) : ∀ (j : Nat) (out : List S41), j + d = 12 → out.length ≤ 12 * i + j → Ev (fun k => spec_pzAll.l0 k w l (out ++ mRow w l i j) ((i + 1 : Nat) + 1 : Int)) r → Ev (fun k => spec_pzAll.l1 k w l out ((i : Int) + 1) ((j : Int) + 1)) r := by
 induction d with
 | zero =>
  intro j out hj ho h
  rw [mRow_end w l i j (by omega), List.append_nil] at h
  refine Ev.succ ?_
  simp only [spec_pzAll.l1, show ¬ ((j : Int) + 1 ≤ 12) by omega, if_false]
  rw [wid (show -9223372036854775808 ≤ (i : Int) + 1 + 1 by omega) (by omega)]
  exact h
 | succ d ih =>
  intro j out hj ho h
  rw [mRow_step w l i j (by omega)] at h
  refine Ev.succ ?_
  simp only [spec_pzAll.l1, show ((j : Int) + 1 ≤ 12) by omega, if_true]
  refine spec_pzAll.ev_c w l hl out _ _ (hid_mk hw hi (by omega)) (by omega) r l.length 0 true (by omega) ?_
  rw [wid (show -9223372036854775808 ≤ (j : Int) + 1 + 1 by omega) (by omega)]
  simp only [List.drop_zero, Bool.true_and]
  by_cases hf : fitsAll l (mkL w i j) = true
  ·rw [if_pos hf] at h
   rw [if_pos (show (l.all fun c => mFits c.f0 c.f1 c.f2 w ((i : Int) + 1) ((j : Int) + 1)) = true from hf)]
   exact ih (j + 1) (out ++ [mkL w i j]) (by omega) (by simp; omega) (by rw [List.append_assoc]; exact h)
  ·rw [if_neg hf, List.nil_append] at h
   rw [if_neg (show ¬ (l.all fun c => mFits c.f0 c.f1 c.f2 w ((i : Int) + 1) ((j : Int) + 1)) = true from hf)]
   exact ih (j + 1) out (by omega) (by omega) h
theorem spec_pzAll.ev_l (w : Int) (l : List S43) (hl : l.length ≤ 4611686018427387904) (hw : inr 1 12 w = true) (d : Nat) : ∀ (i : Nat) (out : List S41), i + d = 12 → out.length ≤ 12 * i → Ev (fun k => spec_pzAll.l0 k w l out ((i : Int) + 1)) (out ++ mRows w l i) := by
 induction d with
 | zero =>
  intro i out hi ho
  rw [mRows_end w l i (by omega), List.append_nil]
  refine Ev.succ ?_
  simp only [spec_pzAll.l0, show ¬ ((i : Int) + 1 ≤ 12) by omega, if_false]
  exact Ev.now _
 | succ d ih =>
  intro i out hi ho
  rw [mRows_step w l i (by omega)]
  refine Ev.succ ?_
  simp only [spec_pzAll.l0, show ((i : Int) + 1 ≤ 12) by omega, if_true]
  have hl2 := mRow_len w l i 0
  have h := ih (i + 1) (out ++ mRow w l i 0) (by omega) (by rw [List.length_append]; omega)
  rw [List.append_assoc] at h
  exact spec_pzAll.ev_r w l hl hw _ i (by omega) 12 0 out (by omega) (by omega) h
theorem spec_pzAll.ev {w : Int} {l : List S43} (hl : l.length ≤ 4611686018427387904) (hw : inr 1 12 w = true) : Ev (fun k => spec_pzAll.f k w l) (mSols w l) := by
 unfold spec_pzAll.f
 exact spec_pzAll.ev_l w l hl hw 12 0 [] (by omega) (by simp)
end Go.Proofs.Ythioojdannlhiaa.P

namespace Go.Proofs.Ythioojdannlhiaa.P
open Go.RowKit Go.Proofs.YthioojdannlhiaaW.PrintWords Go.Proofs.YthioojdannlhiaaW.PrintLast Go.Proofs.YthioojdannlhiaaW.PrintMore
attribute [local go_sem] max2_int min2_int max_two min_two max_three min_three max_four min_four   -- for this text's walks alone
set_option linter.unusedVariables false
set_option linter.unusedSimpArgs false

/-! ### impl_Solutions: function 28 -/
def impl_Solutions.f (k : Nat) (a0_0 : Int) (l0_1 : List (S43)) : Option ((List (S41)) × Bool) := (impl_IsPuzzle.f k a0_0 l0_1).bind fun t363 => (if t363 = true then ((impl_solutions.f k a0_0 l0_1).bind fun t364 => (some (t364, true))) else (some (([] : List (S41)), false)))
set_option maxHeartbeats 8000000 in
set_option maxRecDepth 100000 in
theorem impl_Solutions.calls (k : Nat) (a0_0 : Int) (A0_1 : Option Addr) (c0_1 : Nat) (l0_1 : List (S43)) (r1 : List (S41)) (r2 : Bool) (w : World) (hr0_1 : Kd.C k43 w A0_1 l0_1.length l0_1) (hc0_1 : l0_1.length ≤ c0_1) (h : impl_Solutions.f k a0_0 l0_1 = some (r1, r2)) :
  Calls Try.prog 28 #[.agg #[.int .i64 a0_0, .slice A0_1 l0_1.length c0_1]] w fun e w' => ∃ v0_ : Value, e = .returned (.tuple #[v0_, .bool r2]) ∧ Kd.R k41 41 w' w.heap.size (fun _ => True) v0_ r1 ∧ Below w.heap.size w w' := by
 have hu28 := Try.underlying28
 have HR0_1 := Aside0.mk hr0_1
 have HC0_1 := Aside0.mk hc0_1
 clear hr0_1 hc0_1
 have HB := Aside0.mk (Below.refl w.heap.size w)
 have H : ((impl_IsPuzzle.f k a0_0 l0_1).bind fun t363 => (if t363 = true then ((impl_solutions.f k a0_0 l0_1).bind fun t364 => (some (t364, true))) else (some (([] : List (S41)), false)))) = some (r1, r2) := h
 clear h; replace H := Option.bind_eq_some_iff.mp H
 obtain ⟨t363, A20, H⟩ := H
 replace H : (if t363 = true then ((impl_solutions.f k a0_0 l0_1).bind fun t364 => (some (t364, true))) else (some (([] : List (S41)), false))) = some (r1, r2) := H
 have A2 := Aside0.mk A20
 clear A20
 by_cases c3 : t363 = true
 ·subst c3
  have H1 : ((impl_solutions.f k a0_0 l0_1).bind fun t364 => (some (t364, true))) = some (r1, r2) := by rw [if_pos rfl] at H; exact H
  clear H; have H := H1; clear H1; replace H := Option.bind_eq_some_iff.mp H
  obtain ⟨t364, A40, H⟩ := H
  replace H : (some (t364, true)) = some (r1, r2) := H
  have A4 := Aside0.mk A40
  clear A40
  simp only [Option.some.injEq, Prod.mk.injEq] at H
  obtain ⟨rfl, rfl⟩ := H
  go_enter Try.func28, Try.ntmps28
  go_wp2_with (first | ((with_reducible refine gate_dst (N := 1) rfl ?_); refine box_event ?hg (N := 1) ?hd (cs := #[.int .i64 a0_0, .slice A0_1 l0_1.length c0_1]) (t := 28) ?hr ?_; (case hd => rfl); (case hg => rfl); (case hr => first | (go_simp; done) | (go_simp; rfl)); intro gb362 hg w5 hbox hb; have n0_ := Aside0.mk (below_step (by repeat (first | (with_reducible first | exact HB.out | apply below_alloc | apply pw_below_drewN | apply below_drew1) | exact HB.out)) hb); have n1_ := Aside0.mk (hbox); have n2_ := Aside0.mk ((by rw [hg]; exact (below_size (by repeat (first | (with_reducible first | exact HB.out | apply below_alloc | apply pw_below_drewN | apply below_drew1) | exact HB.out))) : w.heap.size ≤ gb362)); have n3_ := Aside0.mk ((by rw [hg]; exact (below_size (by repeat (first | (with_reducible first | exact HB.out | apply below_alloc | apply pw_below_drewN | apply below_drew1) | exact HB.out))) : w.heap.size ≤ gb362)); clear HB; have HB := n0_; have BK362 := n1_; have GW362 := n2_; have GE362 := n3_; clear n0_ n1_ n2_ n3_; clear hb hbox hg; have hcz6_0 : w5.cell? ⟨gb362, 0, none⟩ = some (.int .i64 a0_0) := (blk_cell BK362.out 0).trans rfl; have hcz6_1 : w5.cell? ⟨gb362, 1, none⟩ = some (.slice A0_1 l0_1.length c0_1) := (blk_cell BK362.out 1).trans rfl; have hfz6_0 := blk_frozen BK362.out 0; have hfz6_1 := blk_frozen BK362.out 1) | ((with_reducible refine gate_callee (f := 26) rfl ?_); refine goesL_ (some 5) rfl rfl Try.func26 (by kernel_rfl) rfl #[.agg #[.int .i64 a0_0, .slice A0_1 l0_1.length c0_1]] rfl (by (try simp only [List.map_toArray, List.map_cons, List.map_nil]); first | done | rfl | (simp only [List.length_drop, List.length_take]; rfl)) ?_; (with_reducible refine (impl_IsPuzzle.calls k a0_0 _ _ l0_1 true _ ?side1 ?side2 A2.out).mono ?_); (case side1 => repeat (first | exact (Kd.C_below HR0_1.out HB.out) | (with_reducible refine Kd.C_alloc ?_ _) | (with_reducible refine Kd.C_drewN ?_ _) | (with_reducible refine Kd.C_drew ?_))); (case side2 => exact HC0_1.out); rintro e w7 ⟨rfl, hb⟩; refine ⟨_, rfl, ?_⟩; have n0_ := Aside0.mk (blk_below (g := gb362) (o := .cells #[.int .i64 a0_0, .slice A0_1 l0_1.length c0_1] 28 (0, 0)) (by (with_reducible repeat (first | refine blk_drewN ?_ _ | refine blk_drew ?_ | refine blk_alloc ?_ _)); exact BK362.out) hb); have n1_ := Aside0.mk (below_step (by repeat (first | (with_reducible first | exact HB.out | apply below_alloc | apply pw_below_drewN | apply below_drew1 | refine below_set ?_ GE362.out) | exact HB.out)) hb); clear BK362; clear HB; have BK362 := n0_; have HB := n1_; clear n0_ n1_; (try clear hb); (try clear hb2); (try clear hk); (try clear hi); have hcz8_0 : w7.cell? ⟨gb362, 0, none⟩ = some (.int .i64 a0_0) := (blk_cell BK362.out 0).trans rfl; have hcz8_1 : w7.cell? ⟨gb362, 1, none⟩ = some (.slice A0_1 l0_1.length c0_1) := (blk_cell BK362.out 1).trans rfl; have hfz8_0 := blk_frozen BK362.out 0; have hfz8_1 := blk_frozen BK362.out 1) | ((with_reducible refine gate_callee (f := 57) rfl ?_); refine goesL_ (some 11) rfl rfl Try.func57 (by kernel_rfl) rfl #[.int .i64 a0_0, .slice A0_1 l0_1.length c0_1] rfl (by (try simp only [List.map_toArray, List.map_cons, List.map_nil]); first | done | rfl | (simp only [List.length_drop, List.length_take]; rfl)) ?_; (with_reducible refine (impl_solutions.calls k a0_0 _ _ l0_1 t364 _ ?side1 ?side2 A4.out).mono ?_); (case side1 => repeat (first | exact (Kd.C_below HR0_1.out HB.out) | (with_reducible refine Kd.C_alloc ?_ _) | (with_reducible refine Kd.C_drewN ?_ _) | (with_reducible refine Kd.C_drew ?_))); (case side2 => exact HC0_1.out); rintro e w9 ⟨v365, rfl, ho0, hb⟩; refine ⟨_, rfl, ?_⟩; have n0_ := Aside0.mk (Kd.R_lower ho0 (below_size (by repeat (first | (with_reducible first | exact HB.out | apply below_alloc | apply pw_below_drewN | apply below_drew1 | refine below_set ?_ GE362.out) | exact HB.out)))); have n1_ := Aside0.mk (blk_below (g := gb362) (o := .cells #[.int .i64 a0_0, .slice A0_1 l0_1.length c0_1] 28 (0, 0)) (by (with_reducible repeat (first | refine blk_drewN ?_ _ | refine blk_drew ?_ | refine blk_alloc ?_ _)); exact BK362.out) hb); have n2_ := Aside0.mk (below_step (by repeat (first | (with_reducible first | exact HB.out | apply below_alloc | apply pw_below_drewN | apply below_drew1 | refine below_set ?_ GE362.out) | exact HB.out)) hb); clear BK362; clear HB; have HO366 := n0_; have BK362 := n1_; have HB := n2_; clear n0_ n1_ n2_; (try clear hb); (try clear hb2); (try clear hk); (try clear hi); (try clear ho0)))
  go_ret2
  exact ⟨_, by first | rfl | (simp [errW_none, errW_some] <;> rfl) | (simp [*, errW_none, errW_some] <;> rfl), by (with_reducible repeat (first | apply Kd.R_alloc | apply Kd.R_drewN | apply Kd.R_drew)); exact HO366.out, by repeat (first | (with_reducible first | exact HB.out | apply below_alloc | apply pw_below_drewN | apply below_drew1 | refine below_set ?_ GE362.out) | exact HB.out)⟩
 ·replace c3 := Bool.eq_false_iff.mpr c3
  subst c3
  have H1 : (some (([] : List (S41)), false)) = some (r1, r2) := by rw [if_neg (show ¬ (false = true) by decide)] at H; exact H
  clear H; have H := H1; clear H1
  simp only [Option.some.injEq, Prod.mk.injEq] at H
  obtain ⟨rfl, rfl⟩ := H
  go_enter Try.func28, Try.ntmps28
  go_wp2_with (first | ((with_reducible refine gate_dst (N := 1) rfl ?_); refine box_event ?hg (N := 1) ?hd (cs := #[.int .i64 a0_0, .slice A0_1 l0_1.length c0_1]) (t := 28) ?hr ?_; (case hd => rfl); (case hg => rfl); (case hr => first | (go_simp; done) | (go_simp; rfl)); intro gb362 hg w10 hbox hb; have n0_ := Aside0.mk (below_step (by repeat (first | (with_reducible first | exact HB.out | apply below_alloc | apply pw_below_drewN | apply below_drew1) | exact HB.out)) hb); have n1_ := Aside0.mk (hbox); have n2_ := Aside0.mk ((by rw [hg]; exact (below_size (by repeat (first | (with_reducible first | exact HB.out | apply below_alloc | apply pw_below_drewN | apply below_drew1) | exact HB.out))) : w.heap.size ≤ gb362)); have n3_ := Aside0.mk ((by rw [hg]; exact (below_size (by repeat (first | (with_reducible first | exact HB.out | apply below_alloc | apply pw_below_drewN | apply below_drew1) | exact HB.out))) : w.heap.size ≤ gb362)); clear HB; have HB := n0_; have BK362 := n1_; have GW362 := n2_; have GE362 := n3_; clear n0_ n1_ n2_ n3_; clear hb hbox hg; have hcz11_0 : w10.cell? ⟨gb362, 0, none⟩ = some (.int .i64 a0_0) := (blk_cell BK362.out 0).trans rfl; have hcz11_1 : w10.cell? ⟨gb362, 1, none⟩ = some (.slice A0_1 l0_1.length c0_1) := (blk_cell BK362.out 1).trans rfl; have hfz11_0 := blk_frozen BK362.out 0; have hfz11_1 := blk_frozen BK362.out 1) | ((with_reducible refine gate_callee (f := 26) rfl ?_); refine goesL_ (some 5) rfl rfl Try.func26 (by kernel_rfl) rfl #[.agg #[.int .i64 a0_0, .slice A0_1 l0_1.length c0_1]] rfl (by (try simp only [List.map_toArray, List.map_cons, List.map_nil]); first | done | rfl | (simp only [List.length_drop, List.length_take]; rfl)) ?_; (with_reducible refine (impl_IsPuzzle.calls k a0_0 _ _ l0_1 false _ ?side1 ?side2 A2.out).mono ?_); (case side1 => repeat (first | exact (Kd.C_below HR0_1.out HB.out) | (with_reducible refine Kd.C_alloc ?_ _) | (with_reducible refine Kd.C_drewN ?_ _) | (with_reducible refine Kd.C_drew ?_))); (case side2 => exact HC0_1.out); rintro e w12 ⟨rfl, hb⟩; refine ⟨_, rfl, ?_⟩; have n0_ := Aside0.mk (blk_below (g := gb362) (o := .cells #[.int .i64 a0_0, .slice A0_1 l0_1.length c0_1] 28 (0, 0)) (by (with_reducible repeat (first | refine blk_drewN ?_ _ | refine blk_drew ?_ | refine blk_alloc ?_ _)); exact BK362.out) hb); have n1_ := Aside0.mk (below_step (by repeat (first | (with_reducible first | exact HB.out | apply below_alloc | apply pw_below_drewN | apply below_drew1 | refine below_set ?_ GE362.out) | exact HB.out)) hb); clear BK362; clear HB; have BK362 := n0_; have HB := n1_; clear n0_ n1_; (try clear hb); (try clear hb2); (try clear hk); (try clear hi)))
  go_ret2
  exact ⟨_, by first | rfl | (simp [errW_none, errW_some] <;> rfl) | (simp [*, errW_none, errW_some] <;> rfl), by first | exact Kd.R_nil _ _ _ _ _ | exact Kd.N_nil _ _ _ _ _ | exact Kd.V_nil _ _ _ _ _ | exact Kd.Q_nil _ _ _ _ _ | exact Kd.S_nil _ _ _ _ _, by repeat (first | (with_reducible first | exact HB.out | apply below_alloc | apply pw_below_drewN | apply below_drew1 | refine below_set ?_ GE362.out) | exact HB.out)⟩

end Go.Proofs.Ythioojdannlhiaa.P

namespace Go.Proofs.Ythioojdannlhiaa.P
open Go.RowKit Go.Proofs.YthioojdannlhiaaW.PrintWords Go.Proofs.YthioojdannlhiaaW.PrintLast Go.Proofs.YthioojdannlhiaaW.PrintMore
set_option linter.unusedVariables false
set_option linter.unusedSimpArgs false
theorem mPuzzle_parts {w : Int} {l : List S43} (h : mPuzzle w l = true) : inr 1 12 w = true ∧ l.length ≤ 6 ∧ l.all mClueS = true := by
 unfold mPuzzle at h
 simp only [Bool.and_eq_true, decide_eq_true_eq] at h
 exact h
def mSolutions (w : Int) (l : List S43) : List S41 × Bool := if mPuzzle w l = true then (mSols w l, true) else ([], false)
theorem impl_Solutions.ev (w : Int) (l : List S43) : Ev (fun k => impl_Solutions.f k w l) (mSolutions w l) := by
 unfold impl_Solutions.f mSolutions
 refine Ev.bind (impl_IsPuzzle.ev w l) ?_
 refine Ev.ite (fun h => ?_) (fun _ => Ev.now _)
 obtain ⟨h1, h2, h3⟩ := mPuzzle_parts h
 exact Ev.bind (impl_solutions.ev h1 h3) (Ev.now _)
end Go.Proofs.Ythioojdannlhiaa.P
