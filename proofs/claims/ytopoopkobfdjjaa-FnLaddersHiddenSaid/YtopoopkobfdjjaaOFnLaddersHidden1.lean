/- The law FnLaddersHidden is proved: a call of it returns true and leaves its arguments as they were; and what this needs. Every input that the given rows speak of; nothing else is asked. -/
import Derived.Test.YtopoopkobfdjjaaOFnLaddersHidden0
namespace Go.Proofs.Ytopoopkobfdjjaa.P
open Go.RowKit Go.Proofs.YtopoopkobfdjjaaW.PrintWords Go.Proofs.YtopoopkobfdjjaaW.PrintLast Go.Proofs.YtopoopkobfdjjaaW.PrintMore
set_option linter.unusedVariables false
theorem zO1_0 {p : Prop} (h : p := by (try simp only [List.map_toArray, List.map_cons, List.map_nil]); first | done | rfl | (simp only [List.length_drop, List.length_take]; rfl)) : p := h
theorem zO1_1 {p : Prop} (h : p := by repeat (first | (with_reducible first | exact HB.out | apply below_alloc | apply pw_below_drewN | apply below_drew1) | exact HB.out)) : p := h
theorem zO1_2 {p : Prop} (h : p := by simp only [putAll, Act.put, List.setIfInBounds_toArray, List.set_cons_zero, List.set_cons_succ]) : p := h
theorem zO1_3 {p : Prop} (h : p := by first | (with_reducible assumption) | assumption) : p := h
end Go.Proofs.Ytopoopkobfdjjaa.P
namespace Go.Proofs.Ytopoopkobfdjjaa.P
open Go.RowKit Go.Proofs.YtopoopkobfdjjaaW.PrintWords Go.Proofs.YtopoopkobfdjjaaW.PrintLast Go.Proofs.YtopoopkobfdjjaaW.PrintMore
attribute [local go_sem] max2_int min2_int max_two min_two max_three min_three max_four min_four   -- for this text's walks alone
set_option linter.unusedVariables false
set_option linter.unusedSimpArgs false

/-! ### spec_pzValue: function 71 -/
def spec_pzValue.f (k : Nat) (a0 : Int) (a1 : Int) (a2_0 : Int) (a2_1 : Int) (a2_2 : Int) : Option (Int × Int) := if a0 = 0 then (some (a1, wrap64 (a2_1 + a2_2))) else (if a0 = 1 then (if a2_1 > a2_2 then (some (a1, 1)) else (some (a1, 0))) else (if a0 = 2 then ((spec_clLow.f k (wrap64 (a2_1 * a2_2)) (wrap64 (a2_1 + a2_2))).bind fun bt275 => (some (bt275.1, bt275.2))) else (if a0 = 3 then ((spec_clSquares.f a2_0 a2_1 a2_2).bind fun bt277 => (if a1 = 1 then ((spec_clRoot.f k bt277.2).bind fun t279 => (if (wrap64 (t279 * t279)) = bt277.2 then (some (a1, 1)) else (some (a1, 0)))) else ((spec_clRoot.f k bt277.1).bind fun t280 => (if (wrap64 (t280 * t280)) = bt277.1 then (some (a1, 1)) else (some (a1, 0)))))) else (if a0 = 4 then ((spec_clLow.f k (wrap64 (a2_0 * a2_1)) (wrap64 (a2_1 + a2_2))).bind fun bt281 => (some (bt281.1, bt281.2))) else (some (a1, wrap64 (a2_1 * a2_2)))))))
set_option maxHeartbeats 8000000 in
set_option maxRecDepth 100000 in
theorem spec_pzValue.calls (k : Nat) (a0 : Int) (a1 : Int) (a2_0 : Int) (a2_1 : Int) (a2_2 : Int) (r1 : Int) (r2 : Int) (w : World) (h : spec_pzValue.f k a0 a1 a2_0 a2_1 a2_2 = some (r1, r2)) :
  Calls Try.prog 71 #[.int .i64 a0, .int .i64 a1, .agg #[.int .i64 a2_0, .int .i64 a2_1, .int .i64 a2_2]] w fun e w' => e = .returned (.tuple #[.int .i64 r1, .int .i64 r2]) ∧ Below w.heap.size w w' := by
 have hu25 := Try.underlying25
 have HB := Aside0.mk (Below.refl w.heap.size w)
 have H : (if a0 = 0 then (some (a1, wrap64 (a2_1 + a2_2))) else (if a0 = 1 then (if a2_1 > a2_2 then (some (a1, 1)) else (some (a1, 0))) else (if a0 = 2 then ((spec_clLow.f k (wrap64 (a2_1 * a2_2)) (wrap64 (a2_1 + a2_2))).bind fun bt275 => (some (bt275.1, bt275.2))) else (if a0 = 3 then ((spec_clSquares.f a2_0 a2_1 a2_2).bind fun bt277 => (if a1 = 1 then ((spec_clRoot.f k bt277.2).bind fun t279 => (if (wrap64 (t279 * t279)) = bt277.2 then (some (a1, 1)) else (some (a1, 0)))) else ((spec_clRoot.f k bt277.1).bind fun t280 => (if (wrap64 (t280 * t280)) = bt277.1 then (some (a1, 1)) else (some (a1, 0)))))) else (if a0 = 4 then ((spec_clLow.f k (wrap64 (a2_0 * a2_1)) (wrap64 (a2_1 + a2_2))).bind fun bt281 => (some (bt281.1, bt281.2))) else (some (a1, wrap64 (a2_1 * a2_2)))))))) = some (r1, r2) := h
 clear h
 by_cases c4 : a0 = 0
 ·rw [if_pos c4] at H
  have c4b0 : (a0 == 0) = true := beq_iff_eq.mpr c4
  have c4b1 : (a0 != 0) = false := bne_eq_false_iff_eq.mpr c4
  clear c4; simp only [Option.some.injEq, Prod.mk.injEq] at H; obtain ⟨rfl, rfl⟩ := H
  go_enter Try.func71, Try.ntmps71
  go_wp2_with (first | ((with_reducible refine gate_dst (N := 5) rfl ?_); refine zE 5 #[.int .i64 a2_0, .int .i64 a2_1, .int .i64 a2_2] 25 ?_; intro gb274 hg w5 hbox hb; have BK274 := Aside0.mk (hbox); have GW274 := zg HB hg; have GE274 := GW274; replace HB := zh HB hb; clear hb hbox hg; obtain ⟨_, _, _, _, _, _⟩ := zc3 BK274))
  go_ret2
  exact ⟨zt, zy HB⟩
 ·rw [if_neg c4] at H
  have c4b0 : (a0 == 0) = false := beq_eq_false_iff_ne.mpr c4
  have c4b1 : (a0 != 0) = true := bne_iff_ne.mpr c4
  by_cases c7 : a0 = 1
  ·rw [if_pos c7] at H
   have c7b0 : (a0 == 1) = true := beq_iff_eq.mpr c7
   have c7b1 : (a0 != 1) = false := bne_eq_false_iff_eq.mpr c7
   clear c7
   by_cases c8 : a2_1 > a2_2
   ·rw [if_pos c8] at H
    have c8b0 : decide (a2_2 < a2_1) = true := decide_eq_true c8; clear c8; simp only [Option.some.injEq, Prod.mk.injEq] at H; obtain ⟨rfl, rfl⟩ := H
    go_enter Try.func71, Try.ntmps71
    go_wp2_with (first | ((with_reducible refine gate_dst (N := 5) rfl ?_); refine zE 5 #[.int .i64 a2_0, .int .i64 a2_1, .int .i64 a2_2] 25 ?_; intro gb274 hg w9 hbox hb; have BK274 := Aside0.mk (hbox); have GW274 := zg HB hg; have GE274 := GW274; replace HB := zh HB hb; clear hb hbox hg; obtain ⟨_, _, _, _, _, _⟩ := zc3 BK274))
    go_ret2
    exact ⟨zt, zy HB⟩
   ·rw [if_neg c8] at H
    have c8b0 : decide (a2_2 < a2_1) = false := decide_eq_false c8; clear c8; simp only [Option.some.injEq, Prod.mk.injEq] at H; obtain ⟨rfl, rfl⟩ := H
    go_enter Try.func71, Try.ntmps71
    go_wp2_with (first | ((with_reducible refine gate_dst (N := 5) rfl ?_); refine zE 5 #[.int .i64 a2_0, .int .i64 a2_1, .int .i64 a2_2] 25 ?_; intro gb274 hg w11 hbox hb; have BK274 := Aside0.mk (hbox); have GW274 := zg HB hg; have GE274 := GW274; replace HB := zh HB hb; clear hb hbox hg; obtain ⟨_, _, _, _, _, _⟩ := zc3 BK274))
    go_ret2
    exact ⟨zt, zy HB⟩
  ·rw [if_neg c7] at H
   have c7b0 : (a0 == 1) = false := beq_eq_false_iff_ne.mpr c7
   have c7b1 : (a0 != 1) = true := bne_iff_ne.mpr c7
   by_cases c13 : a0 = 2
   ·rw [if_pos c13] at H
    have c13b0 : (a0 == 2) = true := beq_iff_eq.mpr c13
    have c13b1 : (a0 != 2) = false := bne_eq_false_iff_eq.mpr c13
    clear c13; replace H := Option.bind_eq_some_iff.mp H; obtain ⟨⟨t275, t276⟩, A140, H⟩ := H
    replace H : (some (t275, t276)) = some (r1, r2) := H
    have A14 := Aside0.mk A140; clear A140; simp only [Option.some.injEq, Prod.mk.injEq] at H; obtain ⟨rfl, rfl⟩ := H
    go_enter Try.func71, Try.ntmps71
    go_wp2_with (first | ((with_reducible refine gate_dst (N := 5) rfl ?_); refine zE 5 #[.int .i64 a2_0, .int .i64 a2_1, .int .i64 a2_2] 25 ?_; intro gb274 hg w15 hbox hb; have BK274 := Aside0.mk (hbox); have GW274 := zg HB hg; have GE274 := GW274; replace HB := zh HB hb; clear hb hbox hg; obtain ⟨_, _, _, _, _, _⟩ := zc3 BK274) | ((with_reducible refine gate_callee (f := 79) rfl ?_); refine zG (some 45) Try.func79 #[.int .i64 (wrap64 (a2_1 * a2_2)), .int .i64 (wrap64 (a2_1 + a2_2))] ?_; (with_reducible refine (spec_clLow.calls k (wrap64 (a2_1 * a2_2)) (wrap64 (a2_1 + a2_2)) t275 t276 _ A14.out).mono ?_); rintro e w' ⟨rfl, ⟨nd, rfl⟩⟩; refine ⟨_, rfl, ?_⟩))
    go_ret2
    exact ⟨zt, zy HB⟩
   ·rw [if_neg c13] at H
    have c13b0 : (a0 == 2) = false := beq_eq_false_iff_ne.mpr c13
    have c13b1 : (a0 != 2) = true := bne_iff_ne.mpr c13
    by_cases c17 : a0 = 3
    ·rw [if_pos c17] at H
     have c17b0 : (a0 == 3) = true := beq_iff_eq.mpr c17
     have c17b1 : (a0 != 3) = false := bne_eq_false_iff_eq.mpr c17
     clear c17; replace H := Option.bind_eq_some_iff.mp H; obtain ⟨⟨t277, t278⟩, A180, H⟩ := H; (try dsimp only at H); have A18 := Aside0.mk A180; clear A180
     by_cases c19 : a1 = 1
     ·rw [if_pos c19] at H
      have c19b0 : (a1 == 1) = true := beq_iff_eq.mpr c19
      have c19b1 : (a1 != 1) = false := bne_eq_false_iff_eq.mpr c19
      clear c19; replace H := Option.bind_eq_some_iff.mp H; obtain ⟨t279, A200, H⟩ := H
      replace H : (if (wrap64 (t279 * t279)) = t278 then (some (a1, 1)) else (some (a1, 0))) = some (r1, r2) := H
      have A20 := Aside0.mk A200; clear A200
      by_cases c21 : (wrap64 (t279 * t279)) = t278
      ·rw [if_pos c21] at H
       have c21b0 : ((wrap64 (t279 * t279)) == t278) = true := beq_iff_eq.mpr c21
       have c21b1 : ((wrap64 (t279 * t279)) != t278) = false := bne_eq_false_iff_eq.mpr c21
       clear c21; simp only [Option.some.injEq, Prod.mk.injEq] at H; obtain ⟨rfl, rfl⟩ := H
       go_enter Try.func71, Try.ntmps71
       go_wp2_with (first | ((with_reducible refine gate_dst (N := 5) rfl ?_); refine zE 5 #[.int .i64 a2_0, .int .i64 a2_1, .int .i64 a2_2] 25 ?_; intro gb274 hg w22 hbox hb; have BK274 := Aside0.mk (hbox); have GW274 := zg HB hg; have GE274 := GW274; replace HB := zh HB hb; clear hb hbox hg; obtain ⟨_, _, _, _, _, _⟩ := zc3 BK274) | ((with_reducible refine gate_callee (f := 80) rfl ?_); refine zG (some 52) Try.func80 #[.agg #[.int .i64 a2_0, .int .i64 a2_1, .int .i64 a2_2]] ?_; (with_reducible refine (spec_clSquares.calls a2_0 a2_1 a2_2 t277 t278 _ A18.out).mono ?_); rintro e w24 ⟨rfl, hb⟩; refine ⟨_, rfl, ?_⟩; replace BK274 := zb BK274 hb; replace HB := zh HB hb; clear hb) | ((with_reducible refine gate_callee (f := 81) rfl ?_); refine zG (some 59) Try.func81 #[.int .i64 t278] ?_; (with_reducible refine (spec_clRoot.calls k t278 t279 _ A20.out).mono ?_); rintro e w' ⟨rfl, ⟨nd, rfl⟩⟩; refine ⟨_, rfl, ?_⟩))
       go_ret2
       exact ⟨zt, zy HB⟩
      ·rw [if_neg c21] at H
       have c21b0 : ((wrap64 (t279 * t279)) == t278) = false := beq_eq_false_iff_ne.mpr c21
       have c21b1 : ((wrap64 (t279 * t279)) != t278) = true := bne_iff_ne.mpr c21
       simp only [Option.some.injEq, Prod.mk.injEq] at H; obtain ⟨rfl, rfl⟩ := H
       go_enter Try.func71, Try.ntmps71
       go_wp2_with (first | ((with_reducible refine gate_dst (N := 5) rfl ?_); refine zE 5 #[.int .i64 a2_0, .int .i64 a2_1, .int .i64 a2_2] 25 ?_; intro gb274 hg w25 hbox hb; have BK274 := Aside0.mk (hbox); have GW274 := zg HB hg; have GE274 := GW274; replace HB := zh HB hb; clear hb hbox hg; obtain ⟨_, _, _, _, _, _⟩ := zc3 BK274) | ((with_reducible refine gate_callee (f := 80) rfl ?_); refine zG (some 52) Try.func80 #[.agg #[.int .i64 a2_0, .int .i64 a2_1, .int .i64 a2_2]] ?_; (with_reducible refine (spec_clSquares.calls a2_0 a2_1 a2_2 t277 t278 _ A18.out).mono ?_); rintro e w27 ⟨rfl, hb⟩; refine ⟨_, rfl, ?_⟩; replace BK274 := zb BK274 hb; replace HB := zh HB hb; clear hb) | ((with_reducible refine gate_callee (f := 81) rfl ?_); refine zG (some 59) Try.func81 #[.int .i64 t278] ?_; (with_reducible refine (spec_clRoot.calls k t278 t279 _ A20.out).mono ?_); rintro e w' ⟨rfl, ⟨nd, rfl⟩⟩; refine ⟨_, rfl, ?_⟩))
       go_ret2
       exact ⟨zt, zy HB⟩
     ·rw [if_neg c19] at H
      have c19b0 : (a1 == 1) = false := beq_eq_false_iff_ne.mpr c19
      have c19b1 : (a1 != 1) = true := bne_iff_ne.mpr c19
      replace H := Option.bind_eq_some_iff.mp H; obtain ⟨t280, A280, H⟩ := H
      replace H : (if (wrap64 (t280 * t280)) = t277 then (some (a1, 1)) else (some (a1, 0))) = some (r1, r2) := H
      have A28 := Aside0.mk A280; clear A280
      by_cases c29 : (wrap64 (t280 * t280)) = t277
      ·rw [if_pos c29] at H
       have c29b0 : ((wrap64 (t280 * t280)) == t277) = true := beq_iff_eq.mpr c29
       have c29b1 : ((wrap64 (t280 * t280)) != t277) = false := bne_eq_false_iff_eq.mpr c29
       clear c29; simp only [Option.some.injEq, Prod.mk.injEq] at H; obtain ⟨rfl, rfl⟩ := H
       go_enter Try.func71, Try.ntmps71
       go_wp2_with (first | ((with_reducible refine gate_dst (N := 5) rfl ?_); refine zE 5 #[.int .i64 a2_0, .int .i64 a2_1, .int .i64 a2_2] 25 ?_; intro gb274 hg w30 hbox hb; have BK274 := Aside0.mk (hbox); have GW274 := zg HB hg; have GE274 := GW274; replace HB := zh HB hb; clear hb hbox hg; obtain ⟨_, _, _, _, _, _⟩ := zc3 BK274) | ((with_reducible refine gate_callee (f := 80) rfl ?_); refine zG (some 52) Try.func80 #[.agg #[.int .i64 a2_0, .int .i64 a2_1, .int .i64 a2_2]] ?_; (with_reducible refine (spec_clSquares.calls a2_0 a2_1 a2_2 t277 t278 _ A18.out).mono ?_); rintro e w32 ⟨rfl, hb⟩; refine ⟨_, rfl, ?_⟩; replace BK274 := zb BK274 hb; replace HB := zh HB hb; clear hb) | ((with_reducible refine gate_callee (f := 81) rfl ?_); refine zG (some 59) Try.func81 #[.int .i64 t277] ?_; (with_reducible refine (spec_clRoot.calls k t277 t280 _ A28.out).mono ?_); rintro e w' ⟨rfl, ⟨nd, rfl⟩⟩; refine ⟨_, rfl, ?_⟩))
       go_ret2
       exact ⟨zt, zy HB⟩
      ·rw [if_neg c29] at H
       have c29b0 : ((wrap64 (t280 * t280)) == t277) = false := beq_eq_false_iff_ne.mpr c29
       have c29b1 : ((wrap64 (t280 * t280)) != t277) = true := bne_iff_ne.mpr c29
       simp only [Option.some.injEq, Prod.mk.injEq] at H; obtain ⟨rfl, rfl⟩ := H
       go_enter Try.func71, Try.ntmps71
       go_wp2_with (first | ((with_reducible refine gate_dst (N := 5) rfl ?_); refine zE 5 #[.int .i64 a2_0, .int .i64 a2_1, .int .i64 a2_2] 25 ?_; intro gb274 hg w33 hbox hb; have BK274 := Aside0.mk (hbox); have GW274 := zg HB hg; have GE274 := GW274; replace HB := zh HB hb; clear hb hbox hg; obtain ⟨_, _, _, _, _, _⟩ := zc3 BK274) | ((with_reducible refine gate_callee (f := 80) rfl ?_); refine zG (some 52) Try.func80 #[.agg #[.int .i64 a2_0, .int .i64 a2_1, .int .i64 a2_2]] ?_; (with_reducible refine (spec_clSquares.calls a2_0 a2_1 a2_2 t277 t278 _ A18.out).mono ?_); rintro e w35 ⟨rfl, hb⟩; refine ⟨_, rfl, ?_⟩; replace BK274 := zb BK274 hb; replace HB := zh HB hb; clear hb) | ((with_reducible refine gate_callee (f := 81) rfl ?_); refine zG (some 59) Try.func81 #[.int .i64 t277] ?_; (with_reducible refine (spec_clRoot.calls k t277 t280 _ A28.out).mono ?_); rintro e w' ⟨rfl, ⟨nd, rfl⟩⟩; refine ⟨_, rfl, ?_⟩))
       go_ret2
       exact ⟨zt, zy HB⟩
    ·rw [if_neg c17] at H
     have c17b0 : (a0 == 3) = false := beq_eq_false_iff_ne.mpr c17
     have c17b1 : (a0 != 3) = true := bne_iff_ne.mpr c17
     by_cases c36 : a0 = 4
     ·rw [if_pos c36] at H
      have c36b0 : (a0 == 4) = true := beq_iff_eq.mpr c36
      have c36b1 : (a0 != 4) = false := bne_eq_false_iff_eq.mpr c36
      clear c36; replace H := Option.bind_eq_some_iff.mp H; obtain ⟨⟨t281, t282⟩, A370, H⟩ := H
      replace H : (some (t281, t282)) = some (r1, r2) := H
      have A37 := Aside0.mk A370; clear A370; simp only [Option.some.injEq, Prod.mk.injEq] at H; obtain ⟨rfl, rfl⟩ := H
      go_enter Try.func71, Try.ntmps71
      go_wp2_with (first | ((with_reducible refine gate_dst (N := 5) rfl ?_); refine zE 5 #[.int .i64 a2_0, .int .i64 a2_1, .int .i64 a2_2] 25 ?_; intro gb274 hg w38 hbox hb; have BK274 := Aside0.mk (hbox); have GW274 := zg HB hg; have GE274 := GW274; replace HB := zh HB hb; clear hb hbox hg; obtain ⟨_, _, _, _, _, _⟩ := zc3 BK274) | ((with_reducible refine gate_callee (f := 79) rfl ?_); refine zG (some 78) Try.func79 #[.int .i64 (wrap64 (a2_0 * a2_1)), .int .i64 (wrap64 (a2_1 + a2_2))] ?_; (with_reducible refine (spec_clLow.calls k (wrap64 (a2_0 * a2_1)) (wrap64 (a2_1 + a2_2)) t281 t282 _ A37.out).mono ?_); rintro e w' ⟨rfl, ⟨nd, rfl⟩⟩; refine ⟨_, rfl, ?_⟩))
      go_ret2
      exact ⟨zt, zy HB⟩
     ·rw [if_neg c36] at H
      have c36b0 : (a0 == 4) = false := beq_eq_false_iff_ne.mpr c36
      have c36b1 : (a0 != 4) = true := bne_iff_ne.mpr c36
      simp only [Option.some.injEq, Prod.mk.injEq] at H; obtain ⟨rfl, rfl⟩ := H
      go_enter Try.func71, Try.ntmps71
      go_wp2_with (first | ((with_reducible refine gate_dst (N := 5) rfl ?_); refine zE 5 #[.int .i64 a2_0, .int .i64 a2_1, .int .i64 a2_2] 25 ?_; intro gb274 hg w40 hbox hb; have BK274 := Aside0.mk (hbox); have GW274 := zg HB hg; have GE274 := GW274; replace HB := zh HB hb; clear hb hbox hg; obtain ⟨_, _, _, _, _, _⟩ := zc3 BK274))
      go_ret2
      exact ⟨zt, zy HB⟩


/-! ### spec_pzOf: function 44 -/
def spec_pzOf.f (k : Nat) (a0 : Int) (a1 : Int) (a2_0 : Int) (a2_1 : Int) (a2_2 : Int) : Option (Int × Int × Int) := if a0 = 3 then ((spec_pzValue.f k a0 (Int.tmod a1 2) a2_0 a2_1 a2_2).bind fun bt285 => (some (a0, bt285.1, bt285.2))) else ((spec_pzValue.f k a0 0 a2_0 a2_1 a2_2).bind fun bt287 => (some (a0, bt287.1, bt287.2)))
set_option maxHeartbeats 8000000 in
set_option maxRecDepth 100000 in
theorem spec_pzOf.calls (k : Nat) (a0 : Int) (a1 : Int) (a2_0 : Int) (a2_1 : Int) (a2_2 : Int) (r1 : Int) (r2 : Int) (r3 : Int) (w : World) (h : spec_pzOf.f k a0 a1 a2_0 a2_1 a2_2 = some (r1, r2, r3)) :
  Calls Try.prog 44 #[.int .i64 a0, .int .i64 a1, .agg #[.int .i64 a2_0, .int .i64 a2_1, .int .i64 a2_2]] w fun e w' => e = .returned (.agg #[.int .i64 r1, .int .i64 r2, .int .i64 r3]) ∧ Below w.heap.size w w' := by
 have hu25 := Try.underlying25; have hu39 := Try.underlying39
 have HB := Aside0.mk (Below.refl w.heap.size w)
 have H : (if a0 = 3 then ((spec_pzValue.f k a0 (Int.tmod a1 2) a2_0 a2_1 a2_2).bind fun bt285 => (some (a0, bt285.1, bt285.2))) else ((spec_pzValue.f k a0 0 a2_0 a2_1 a2_2).bind fun bt287 => (some (a0, bt287.1, bt287.2)))) = some (r1, r2, r3) := h
 clear h
 by_cases c4 : a0 = 3
 ·rw [if_pos c4] at H
  have c4b0 : (a0 == 3) = true := beq_iff_eq.mpr c4
  have c4b1 : (a0 != 3) = false := bne_eq_false_iff_eq.mpr c4
  clear c4; replace H := Option.bind_eq_some_iff.mp H; obtain ⟨⟨t285, t286⟩, A50, H⟩ := H
  replace H : (some (a0, t285, t286)) = some (r1, r2, r3) := H
  have A5 := Aside0.mk A50; clear A50; simp only [Option.some.injEq, Prod.mk.injEq] at H; obtain ⟨rfl, rfl, rfl⟩ := H
  go_enter Try.func44, Try.ntmps44
  go_wp2_with (first | ((with_reducible refine gate_dst (N := 5) rfl ?_); refine zE 5 #[.int .i64 a2_0, .int .i64 a2_1, .int .i64 a2_2] 25 ?_; intro gb283 hg w6 hbox hb; have BK283 := Aside0.mk (hbox); have GW283 := zg HB hg; have GE283 := GW283; replace HB := zh HB hb; clear hb hbox hg) | ((with_reducible refine gate_dst (N := 6) rfl ?_); refine zE 6 #[.int .i64 0, .int .i64 0, .int .i64 0] 39 ?_; intro gb284 hg w7 hbox hb; have BK284 := Aside0.mk (hbox); have GW284 := zg HB hg; have GE284 := GW284; have NB283_284 := zl BK283 hg; have NB284_283 := zr BK283 hg; replace BK283 := zb BK283 hb; replace HB := zh HB hb; clear hb hbox hg; have hnb8 := NB283_284.out; have hnc8 := NB284_283.out; obtain ⟨_, _, _, _, _, _⟩ := zc3 BK283) | ((with_reducible refine gate_callee (f := 71) rfl ?_); refine zG (some 18) Try.func71 #[.int .i64 a0, .int .i64 (Int.tmod a1 2), .agg #[.int .i64 a2_0, .int .i64 a2_1, .int .i64 a2_2]] ?_; (with_reducible refine (spec_pzValue.calls k a0 (Int.tmod a1 2) a2_0 a2_1 a2_2 t285 t286 _ A5.out).mono ?_); rintro e w10 ⟨rfl, hb⟩; refine ⟨_, rfl, ?_⟩; replace BK283 := zb BK283 hb; replace BK284 := zb BK284 hb; replace HB := zh HB hb; clear hb; obtain ⟨_, _, _, _, _, _⟩ := zc3 BK284))
  refine bodyPost_ret (results_cell_row rfl _ _ gb284 39 #[.int .i64 a0, .int .i64 t285, .int .i64 t286] (0, 0) _ rfl (zw BK284) Try.underlying39 rfl (by kernel_rfl)) rfl ?_
  exact ⟨zt, zy HB⟩
 ·rw [if_neg c4] at H
  have c4b0 : (a0 == 3) = false := beq_eq_false_iff_ne.mpr c4
  have c4b1 : (a0 != 3) = true := bne_iff_ne.mpr c4
  replace H := Option.bind_eq_some_iff.mp H; obtain ⟨⟨t287, t288⟩, A120, H⟩ := H
  replace H : (some (a0, t287, t288)) = some (r1, r2, r3) := H
  have A12 := Aside0.mk A120; clear A120; simp only [Option.some.injEq, Prod.mk.injEq] at H; obtain ⟨rfl, rfl, rfl⟩ := H
  go_enter Try.func44, Try.ntmps44
  go_wp2_with (first | ((with_reducible refine gate_dst (N := 5) rfl ?_); refine zE 5 #[.int .i64 a2_0, .int .i64 a2_1, .int .i64 a2_2] 25 ?_; intro gb283 hg w13 hbox hb; have BK283 := Aside0.mk (hbox); have GW283 := zg HB hg; have GE283 := GW283; replace HB := zh HB hb; clear hb hbox hg) | ((with_reducible refine gate_dst (N := 6) rfl ?_); refine zE 6 #[.int .i64 0, .int .i64 0, .int .i64 0] 39 ?_; intro gb284 hg w14 hbox hb; have BK284 := Aside0.mk (hbox); have GW284 := zg HB hg; have GE284 := GW284; have NB283_284 := zl BK283 hg; have NB284_283 := zr BK283 hg; replace BK283 := zb BK283 hb; replace HB := zh HB hb; clear hb hbox hg; have hnb15 := NB283_284.out; have hnc15 := NB284_283.out; obtain ⟨_, _, _, _, _, _⟩ := zc3 BK283) | ((with_reducible refine gate_callee (f := 71) rfl ?_); refine zG (some 18) Try.func71 #[.int .i64 a0, .int .i64 0, .agg #[.int .i64 a2_0, .int .i64 a2_1, .int .i64 a2_2]] ?_; (with_reducible refine (spec_pzValue.calls k a0 0 a2_0 a2_1 a2_2 t287 t288 _ A12.out).mono ?_); rintro e w17 ⟨rfl, hb⟩; refine ⟨_, rfl, ?_⟩; replace BK283 := zb BK283 hb; replace BK284 := zb BK284 hb; replace HB := zh HB hb; clear hb; obtain ⟨_, _, _, _, _, _⟩ := zc3 BK284))
  refine bodyPost_ret (results_cell_row rfl _ _ gb284 39 #[.int .i64 a0, .int .i64 t287, .int .i64 t288] (0, 0) _ rfl (zw BK284) Try.underlying39 rfl (by kernel_rfl)) rfl ?_
  exact ⟨zt, zy HB⟩


/-! ### spec_MakePuzzle: function 7 -/
mutual
def spec_MakePuzzle.j0 : Nat → Int → Int → Bool → Int → Int → Int → Option (Int × (List (S39)) × Bool)
 | 0, _, _, _, _, _, _ => none
 | k + 1, x1, x2, x23, x290000, x290001, x290002 => if x23 = true then (some (0, ([] : List (S39)), false)) else (spec_MakePuzzle.l0 k x1 x2 x290000 x290001 x290002 x290000 ([] : List (S39)))
def spec_MakePuzzle.l0 : Nat → Int → Int → Int → Int → Int → Int → List (S39) → Option (Int × (List (S39)) × Bool)
 | 0, _, _, _, _, _, _, _ => none
 | k + 1, x1, x9, x290000, x290001, x290002, x295000, x295001 => if x1 > 0 then ((spec_pzNext.f x9).bind fun t295 => ((spec_pzNext.f t295).bind fun t296 => ((spec_pzOf.f k (Int.tmod t295 6) t296 x290000 x290001 x290002).bind fun bt297 => (if x295001.length < 5864062014805 then (spec_MakePuzzle.l0 k (wrap64 (x1 - 1)) t296 x290000 x290001 x290002 x295000 (x295001 ++ [(⟨bt297.1, bt297.2.1, bt297.2.2⟩ : S39)])) else (none))))) else (some (x295000, x295001, true))
end
def spec_MakePuzzle.f (k : Nat) (a0_0 : Int) (a0_1 : Int) (a0_2 : Int) (a1 : Int) (a2 : Int) : Option (Int × (List (S39)) × Bool) := (spec_pzHidden.f a0_0 a0_1 a0_2).bind fun t291 => (if t291 = true then ((spec_l1In.f a1 0 6).bind fun t292 => (if t292 = true then ((spec_l1In.f a2 0 9999).bind fun t293 => (spec_MakePuzzle.j0 k a1 a2 (!t293) a0_0 a0_1 a0_2)) else (spec_MakePuzzle.j0 k a1 a2 true a0_0 a0_1 a0_2))) else (spec_MakePuzzle.j0 k a1 a2 true a0_0 a0_1 a0_2))
def spec_MakePuzzle.T10 : Bool × List (List Nat × List Nat) := (true, [([], []), ([0], [0]), ([], []), ([], []), ([], []), ([2, 3, 4], [2, 3, 4]), ([5], [5]), ([1, 6, 5], [1, 6]), ([0, 1, 2, 3, 4, 5, 6, 7], []), ([8, 7, 7, 0, 1, 2, 3, 4, 5, 6, 7], [7, 8])])
def spec_MakePuzzle.B10 : List Nat := [0, 1, 0, 0, 0, 28, 60, 127, 255, 511]
theorem spec_MakePuzzle.tab10 : rtab .any (opsOf Try.f7 10) = spec_MakePuzzle.T10 := by kernel_rfl
theorem spec_MakePuzzle.bits10 : waitsOk spec_MakePuzzle.T10.2 spec_MakePuzzle.B10 = true := by kernel_rfl
set_option maxHeartbeats 8000000 in
set_option maxRecDepth 100000 in
theorem spec_MakePuzzle.calls (k : Nat) (a0_0 : Int) (a0_1 : Int) (a0_2 : Int) (a1 : Int) (a2 : Int) (r1 : Int) (r2 : List (S39)) (r3 : Bool) (w : World) (h : spec_MakePuzzle.f k a0_0 a0_1 a0_2 a1 a2 = some (r1, r2, r3)) :
  Calls Try.prog 7 #[.agg #[.int .i64 a0_0, .int .i64 a0_1, .int .i64 a0_2], .int .i64 a1, .int .i64 a2] w fun e w' => ∃ v1_ : Value, e = .returned (.tuple #[.agg #[.int .i64 r1, v1_], .bool r3]) ∧ Kd.R k39 39 w' w.heap.size (fun _ => True) v1_ r2 ∧ Below w.heap.size w w' := by
 have hu25 := Try.underlying25; have hu30 := Try.underlying30
 have HB := Aside0.mk (Below.refl w.heap.size w)
 have H : ((spec_pzHidden.f a0_0 a0_1 a0_2).bind fun t291 => (if t291 = true then ((spec_l1In.f a1 0 6).bind fun t292 => (if t292 = true then ((spec_l1In.f a2 0 9999).bind fun t293 => (spec_MakePuzzle.j0 k a1 a2 (!t293) a0_0 a0_1 a0_2)) else (spec_MakePuzzle.j0 k a1 a2 true a0_0 a0_1 a0_2))) else (spec_MakePuzzle.j0 k a1 a2 true a0_0 a0_1 a0_2))) = some (r1, r2, r3) := h
 clear h; have HC4 := Aside0.mk H; clear H
 go_enter Try.func7, Try.ntmps7
 go_upto_region 1 with (first | ((with_reducible refine gate_dst (N := 3) rfl ?_); refine zE 3 #[.int .i64 a0_0, .int .i64 a0_1, .int .i64 a0_2] 25 ?_; intro gb289 hg w5 hbox hb; have BK289 := Aside0.mk (hbox); have GW289 := zg HB hg; have GE289 := GW289; replace HB := zh HB hb; clear hb hbox hg) | ((with_reducible refine gate_dst (N := 6) rfl ?_); refine zE 6 #[.int .i64 0, .slice none 0 0] 30 ?_; intro gb290 hg w6 hbox hb; have BK290 := Aside0.mk (hbox); have GW290 := zg HB hg; have GE290 := GW290; have NB289_290 := zl BK289 hg; have NB290_289 := zr BK289 hg; replace BK289 := zb BK289 hb; replace HB := zh HB hb; clear hb hbox hg))
 (try simp only [Act.put, List.setIfInBounds_toArray, List.set_cons_zero, List.set_cons_succ])
 go_cut [23] (fun v23 wc => ∃ (kq : Nat) (x23_3 : Bool), v23 = .bool x23_3 ∧ Aside0 (spec_MakePuzzle.j0 kq a1 a2 x23_3 a0_0 a0_1 a0_2 = some (r1, r2, r3)) ∧ Aside0 (kq ≤ k) ∧ Aside0 (wc.heap[gb289]? = some (.cells #[.int .i64 a0_0, .int .i64 a0_1, .int .i64 a0_2] 25 (0, 0))) ∧ Aside0 (wc.heap[gb290]? = some (.cells #[.int .i64 0, (.slice none 0 0)] 30 (0, 0))) ∧ Aside0 (Below w.heap.size w wc))
 case first =>
  have H := HC4.out; clear HC4; replace H := Option.bind_eq_some_iff.mp H; obtain ⟨t291, A70, H⟩ := H; (try dsimp only at H); have A7 := Aside0.mk A70; clear A70
  by_cases c8 : t291 = true
  ·subst c8
   rw [if_pos rfl] at H; replace H := Option.bind_eq_some_iff.mp H; obtain ⟨t292, A90, H⟩ := H; (try dsimp only at H); have A9 := Aside0.mk A90; clear A90
   by_cases c10 : t292 = true
   ·subst c10
    rw [if_pos rfl] at H; replace H := Option.bind_eq_some_iff.mp H; obtain ⟨t293, A110, H⟩ := H
    replace H : (spec_MakePuzzle.j0 k a1 a2 (!t293) a0_0 a0_1 a0_2) = some (r1, r2, r3) := H
    have A11 := Aside0.mk A110; clear A110; have H' := Aside0.mk H; clear H; have hnb12 := NB289_290.out; have hnc12 := NB290_289.out
    obtain ⟨_, _, _, _, _, _⟩ := zc3 BK289
    go_wp2_with (first | ((with_reducible refine gate_callee (f := 41) rfl ?_); refine zG (some 12) Try.func41 #[.agg #[.int .i64 a0_0, .int .i64 a0_1, .int .i64 a0_2]] ?_; (with_reducible refine (spec_pzHidden.calls a0_0 a0_1 a0_2 true _ A7.out).mono ?_); rintro e w14 ⟨rfl, hb⟩; refine ⟨_, rfl, ?_⟩; replace BK289 := zb BK289 hb; replace BK290 := zb BK290 hb; replace HB := zh HB hb; clear hb) | (go_at_call 42; (with_reducible refine (spec_l1In.calls a1 0 6 true _ A9.out).mono ?_); rintro e w' ⟨rfl, ⟨nd, rfl⟩⟩) | (go_at_call 42; (with_reducible refine (spec_l1In.calls a2 0 9999 t293 _ A11.out).mono ?_); rintro e w' ⟨rfl, ⟨nd, rfl⟩⟩))
    go_meet
    case rel => exact ⟨_, (!t293), zu, H', ⟨by first | omega | exact Nat.le_refl _⟩, zk BK289, zk BK290, ⟨zy HB⟩⟩
   ·replace c10 := Bool.eq_false_iff.mpr c10
    subst c10; rw [if_neg (show ¬ (false = true) by decide)] at H; have H' := Aside0.mk H; clear H; have hnb15 := NB289_290.out; have hnc15 := NB290_289.out
    obtain ⟨_, _, _, _, _, _⟩ := zc3 BK289
    go_wp2_with (first | ((with_reducible refine gate_callee (f := 41) rfl ?_); refine zG (some 12) Try.func41 #[.agg #[.int .i64 a0_0, .int .i64 a0_1, .int .i64 a0_2]] ?_; (with_reducible refine (spec_pzHidden.calls a0_0 a0_1 a0_2 true _ A7.out).mono ?_); rintro e w17 ⟨rfl, hb⟩; refine ⟨_, rfl, ?_⟩; replace BK289 := zb BK289 hb; replace BK290 := zb BK290 hb; replace HB := zh HB hb; clear hb) | (go_at_call 42; (with_reducible refine (spec_l1In.calls a1 0 6 false _ A9.out).mono ?_); rintro e w' ⟨rfl, ⟨nd, rfl⟩⟩))
    go_meet
    case rel => exact ⟨_, (true), zu, H', ⟨by first | omega | exact Nat.le_refl _⟩, zk BK289, zk BK290, ⟨zy HB⟩⟩
  ·replace c8 := Bool.eq_false_iff.mpr c8
   subst c8; rw [if_neg (show ¬ (false = true) by decide)] at H; have H' := Aside0.mk H; clear H; have hnb18 := NB289_290.out; have hnc18 := NB290_289.out
   obtain ⟨_, _, _, _, _, _⟩ := zc3 BK289
   go_wp2_with (first | ((with_reducible refine gate_callee (f := 41) rfl ?_); refine zG (some 12) Try.func41 #[.agg #[.int .i64 a0_0, .int .i64 a0_1, .int .i64 a0_2]] ?_; (with_reducible refine (spec_pzHidden.calls a0_0 a0_1 a0_2 false _ A7.out).mono ?_); rintro e w20 ⟨rfl, hb⟩; refine ⟨_, rfl, ?_⟩; replace BK289 := zb BK289 hb; replace BK290 := zb BK290 hb; replace HB := zh HB hb; clear hb))
   go_meet
   case rel => exact ⟨_, (true), zu, H', ⟨by first | omega | exact Nat.le_refl _⟩, zk BK289, zk BK290, ⟨zy HB⟩⟩
 case rest =>
  clear HC4
  obtain ⟨kq, x23_3, rfl, HA, HJ3, BK289, BK290, HB⟩ := hcut
  cases kq with
  | zero => exact absurd HA.out (by simp [spec_MakePuzzle.j0])
  | succ kj3 =>
   have H := HA.out; clear HA; simp only [spec_MakePuzzle.j0] at H
   by_cases c21 : x23_3 = true
   ·subst c21
    rw [if_pos rfl] at H; simp only [Option.some.injEq, Prod.mk.injEq] at H; obtain ⟨rfl, rfl, rfl⟩ := H; have hnb22 := NB290_289.out; have hnc22 := NB289_290.out
    obtain ⟨_, _, _, _⟩ := zc2 BK290
    go_wp2
    refine bodyPost_ret (results_ct rfl _ _ gb290 30 #[.int .i64 0, .slice none 0 0] (0, 0) _ rfl (zw BK290) Try.underlying30 rfl (by kernel_rfl)) rfl ?_
    exact ⟨_, zt, by first | exact Kd.R_nil _ _ _ _ _ | exact Kd.N_nil _ _ _ _ _ | exact Kd.V_nil _ _ _ _ _ | exact Kd.Q_nil _ _ _ _ _ | exact Kd.S_nil _ _ _ _ _, zy HB⟩
   ·replace c21 := Bool.eq_false_iff.mpr c21
    subst c21; rw [if_neg (show ¬ (false = true) by decide)] at H; have H' := Aside0.mk H; clear H; have hnb24 := NB289_290.out; have hnc24 := NB290_289.out
    obtain ⟨_, _, _, _, _, _⟩ := zc3 BK289
    go_wp2_with (first | ((with_reducible refine gate_dst (N := 8) rfl ?_); refine zE 8 #[.int .i64 0, .slice none 0 0] 30 ?_; intro gb294 hg w26 hbox hb; have BK294 := Aside0.mk (hbox); have GW294 := zg HB hg; have GE294 := GW294; have NB289_294 := zl BK289 hg; have NB294_289 := zr BK289 hg; have NB290_294 := zl BK290 hg; have NB294_290 := zr BK290 hg; replace BK289 := zb BK289 hb; replace BK290 := zb BK290 hb; replace HB := zh HB hb; clear hb hbox hg; have hnb27 := NB294_289.out; have hnc27 := NB289_294.out; have hnb28 := NB294_290.out; have hnc28 := NB290_294.out; obtain ⟨_, _, _, _⟩ := zc2 BK294))
    go_loopg [1, 9] kj3 (fun kq v1 v9 w' => ∃ (x1_2 : Int) (x9_2 : Int) (x295001_2 : List (S39)) (u295001 : Value), v1 = .int .i64 x1_2 ∧ v9 = .int .i64 x9_2 ∧ Aside0 (spec_MakePuzzle.l0 kq x1_2 x9_2 a0_0 a0_1 a0_2 a0_0 x295001_2 = some (r1, r2, r3)) ∧ Aside0 (kq ≤ kj3) ∧ Aside0 (Kd.R k39 39 w' w.heap.size (fun _ => True) u295001 x295001_2) ∧ Aside0 (w'.heap[gb289]? = some (.cells #[.int .i64 a0_0, .int .i64 a0_1, .int .i64 a0_2] 25 (0, 0))) ∧ Aside0 (w'.heap[gb290]? = some (.cells #[.int .i64 0, (.slice none 0 0)] 30 (0, 0))) ∧ Aside0 (w'.heap[gb294]? = some (.cells #[.int .i64 a0_0, u295001] 30 (0, 0))) ∧ Aside0 (Below w.heap.size w w'))
    case atStart => exact ⟨(a1), (a2), (([] : List (S39))), (.slice none 0 0), zu, zu, H', ⟨Nat.le_refl _⟩, ⟨by first | exact Kd.R_nil _ _ _ _ _ | exact Kd.N_nil _ _ _ _ _ | exact Kd.V_nil _ _ _ _ _ | exact Kd.Q_nil _ _ _ _ _ | exact Kd.S_nil _ _ _ _ _⟩, zk BK289, zk BK290, ⟨zw BK294⟩, ⟨zy HB⟩⟩
    case round =>
     clear H'
     obtain ⟨x1_2, x9_2, x295001_2, u295001, rfl, rfl, HA, HK2, HO_295001, BK289, BK290, BK294, HB⟩ := hrel
     cases gk with
     | zero => exact absurd HA.out (by simp [spec_MakePuzzle.l0])
     | succ k2 =>
      have H := HA.out; clear HA; simp only [spec_MakePuzzle.l0] at H
      by_cases c30 : x1_2 > 0
      ·rw [if_pos c30] at H
       have c30b0 : decide (0 < x1_2) = true := decide_eq_true c30; clear c30; replace H := Option.bind_eq_some_iff.mp H; obtain ⟨t295, A310, H⟩ := H; (try dsimp only at H); have A31 := Aside0.mk A310; clear A310; replace H := Option.bind_eq_some_iff.mp H; obtain ⟨t296, A320, H⟩ := H; (try dsimp only at H); have A32 := Aside0.mk A320; clear A320; replace H := Option.bind_eq_some_iff.mp H; obtain ⟨⟨t297, t298, t299⟩, A330, H⟩ := H; (try dsimp only at H); have A33 := Aside0.mk A330; clear A330
       by_cases c34 : x295001_2.length < 5864062014805
       ·rw [if_pos c34] at H
        have LMc34 := Aside0.mk c34; clear c34
        obtain ⟨y300, hy300⟩ : ∃ y_ : List (S39), y_ = (x295001_2 ++ [(⟨t297, t298, t299⟩ : S39)]) := ⟨_, rfl⟩
        replace H : (spec_MakePuzzle.l0 k2 (wrap64 (x1_2 - 1)) t296 a0_0 a0_1 a0_2 a0_0 y300) = some (r1, r2, r3) := by first | (rw [hy300]; with_reducible exact H) | (have H2_ := (Option.bind_some _ _).symm.trans H; rw [hy300]; with_reducible exact H2_) | (have H2_ := (Option.bind_some _ _).symm.trans H; with_reducible exact H2_) | with_reducible exact H | (rw [hy300]; exact H) | exact H
        have Ny300 := Aside0.mk hy300; clear hy300; have H' := Aside0.mk H; clear H
        try go_wp2_with (first | ((with_reducible refine gate_callee (f := 43) rfl ?_); refine zG (some 34) Try.func43 #[.int .i64 x9_2] ?_; (with_reducible refine (spec_pzNext.calls x9_2 t295 _ A31.out).mono ?_); rintro e w' ⟨rfl, ⟨nd, rfl⟩⟩; refine ⟨_, rfl, ?_⟩; (try (rw [drewN_self wr]; generalize hq_ : World.drewN wr _ = wr; have n0_ : Aside0 (Kd.R k39 39 wr w.heap.size (fun _ => True) u295001 x295001_2) := ⟨by rw [← hq_]; exact (zs HO_295001)⟩; have n1_ : Aside0 (wr.heap[gb289]? = some (.cells #[.int .i64 a0_0, .int .i64 a0_1, .int .i64 a0_2] 25 (0, 0))) := ⟨by rw [← hq_]; exact (zq BK289)⟩; have n2_ : Aside0 (wr.heap[gb290]? = some (.cells #[.int .i64 0, .slice none 0 0] 30 (0, 0))) := ⟨by rw [← hq_]; exact (zq BK290)⟩; have n3_ : Aside0 (wr.heap[gb294]? = some (.cells #[.int .i64 a0_0, u295001] 30 (0, 0))) := ⟨by rw [← hq_]; exact (zq BK294)⟩; have n4_ : Aside0 (Below w.heap.size w wr) := ⟨by rw [← hq_]; exact (zy HB)⟩; clear HO_295001 BK289 BK290 BK294 HB hq_; have HO_295001 := n0_; have BK289 := n1_; have BK290 := n2_; have BK294 := n3_; have HB := n4_; clear n0_ n1_ n2_ n3_ n4_))) | ((with_reducible refine gate_callee (f := 43) rfl ?_); refine zG (some 38) Try.func43 #[.int .i64 t295] ?_; (with_reducible refine (spec_pzNext.calls t295 t296 _ A32.out).mono ?_); rintro e w' ⟨rfl, ⟨nd, rfl⟩⟩; refine ⟨_, rfl, ?_⟩; (try (rw [drewN_self wr]; generalize hq_ : World.drewN wr _ = wr; have n0_ : Aside0 (Kd.R k39 39 wr w.heap.size (fun _ => True) u295001 x295001_2) := ⟨by rw [← hq_]; exact (zs HO_295001)⟩; have n1_ : Aside0 (wr.heap[gb289]? = some (.cells #[.int .i64 a0_0, .int .i64 a0_1, .int .i64 a0_2] 25 (0, 0))) := ⟨by rw [← hq_]; exact (zq BK289)⟩; have n2_ : Aside0 (wr.heap[gb290]? = some (.cells #[.int .i64 0, .slice none 0 0] 30 (0, 0))) := ⟨by rw [← hq_]; exact (zq BK290)⟩; have n3_ : Aside0 (wr.heap[gb294]? = some (.cells #[.int .i64 a0_0, u295001] 30 (0, 0))) := ⟨by rw [← hq_]; exact (zq BK294)⟩; have n4_ : Aside0 (Below w.heap.size w wr) := ⟨by rw [← hq_]; exact (zy HB)⟩; clear HO_295001 BK289 BK290 BK294 HB hq_; have HO_295001 := n0_; have BK289 := n1_; have BK290 := n2_; have BK294 := n3_; have HB := n4_; clear n0_ n1_ n2_ n3_ n4_))))
        replace HO_295001 := Aside0.mk (Kd.R_drew HO_295001.out); replace BK289 := Aside0.mk (blk_drew BK289.out); replace BK290 := Aside0.mk (blk_drew BK290.out); replace BK294 := Aside0.mk (blk_drew BK294.out); replace HB := Aside0.mk (below_drew1 HB.out)
        refine start_ (n := 10) (S := fun w' => w'.cell? ⟨gb294, 0, none⟩ = some (.int .i64 a0_0) ∧ w'.cell? ⟨gb294, 1, none⟩ = some (u295001) ∧ w'.cell? ⟨gb289, 0, none⟩ = some (.int .i64 a0_0) ∧ w'.cell? ⟨gb289, 1, none⟩ = some (.int .i64 a0_1) ∧ w'.cell? ⟨gb289, 2, none⟩ = some (.int .i64 a0_2)) (ds := [9]) #[false, false, false, false, false, false, false, false, false, false] (by kernel_rfl) rfl rfl ⟨(blk_cell BK294.out 0).trans rfl, (blk_cell BK294.out 1).trans rfl, (blk_cell BK289.out 0).trans rfl, (blk_cell BK289.out 1).trans rfl, (blk_cell BK289.out 2).trans rfl⟩ (fun hHeld => ?_); refine with_tabW spec_MakePuzzle.tab10 spec_MakePuzzle.bits10 (fun HT_ HW_ => ?_)
        generalize wr.drew = w35 at HO_295001 BK289 BK290 BK294 HB hHeld ⊢
        refine zA 0 39 HT_ ?_
        refine zA 2 41 HT_ ?_
        refine zA 3 42 HT_ ?_
        refine zT 1 40 HT_ HW_ hHeld ?_
        refine zT 4 43 HT_ HW_ hHeld ?_
        refine zO 5 (some 44) HT_ (fun K hK => ?_)
        refine goes_ Try.func44 (by kernel_rfl) rfl #[.int .i64 (Int.tmod t295 6), .int .i64 t296, .agg #[.int .i64 a0_0, .int .i64 a0_1, .int .i64 a0_2]] (by rfl) rfl rfl zO1_0 ?_
        with_reducible refine (spec_pzOf.calls k2 (Int.tmod t295 6) t296 a0_0 a0_1 a0_2 t297 t298 t299 _ A33.out).mono ?_
        rintro e w36 ⟨rfl, hb⟩
        refine ⟨_, rfl, ?_⟩
        replace HO_295001 := zo HO_295001 hb; replace BK289 := zb BK289 hb; replace BK290 := zb BK290 hb; replace BK294 := zb BK294 hb; replace HB := zh HB hb
        (try clear hb)
        (try clear hb2)
        (try clear hk)
        (try clear hi)
        refine hK.out _ _ ⟨(blk_cell BK294.out 0).trans rfl, (blk_cell BK294.out 1).trans rfl, (blk_cell BK289.out 0).trans rfl, (blk_cell BK289.out 1).trans rfl, (blk_cell BK289.out 2).trans rfl⟩ (fun hHeld => ?_)
        clear hK K
        refine zN 44 ?_
        refine zO 6 (some 45) HT_ (fun K hK => ?_)
        refine value_ (w1 := ?_) (v := ?_) (by rfl) rfl ?_ ?_
        rotate_left 2
        ·go_simp
         constructor
         ·rfl
         ·rfl
        refine hK.out _ _ ⟨(blk_cell (blk_alloc BK294.out _) 0).trans rfl, (blk_cell (blk_alloc BK294.out _) 1).trans rfl, (blk_cell (blk_alloc BK289.out _) 0).trans rfl, (blk_cell (blk_alloc BK289.out _) 1).trans rfl, (blk_cell (blk_alloc BK289.out _) 2).trans rfl⟩ (fun hHeld => ?_)
        clear hK K
        refine zN 45 ?_
        refine zO 7 (some 46) HT_ (fun K hK => ?_)
        refine Kd.R_append_step k39 (w0 := w) w.heap.size (by rfl) (.tmp 40) (.tmp 45) 28 39 (.agg #[(.int .i64 0), (.int .i64 0), (.int .i64 0)]) 24 rfl Try.underlying28 info39 rfl (by decide) (by omega) u295001 x295001_2 (⟨t297, t298, t299⟩ : S39) [.int .i64 t297, .int .i64 t298, .int .i64 t299] (fun _ => True) (fun _ => False) rfl rfl ?aP (fun _ hk => hk.elim) ?aF ?aO ?aB ?aS ?aL ?_
        (case aP => exact k39_mkM _ _ _ (⟨t297, t298, t299⟩ : S39))
        (case aB => exact (zy HB))
        (case aF => exact (fun _ _ => trivial))
        (case aO => exact (zs HO_295001))
        (case aS => exact (below_size (zy HB)))
        (case aL => have := LMc34.out; omega)
        intro v301 w37 ho hb hg hat
        rw [← Ny300.out] at ho
        have n0_ := Aside0.mk (blk_grown (zq BK289) hg (Kd.R_ne HO_295001.out BK289.out (by decide)))
        have n1_ := Aside0.mk (blk_grown (zq BK290) hg (Kd.R_ne HO_295001.out BK290.out (by decide)))
        have n2_ := Aside0.mk (blk_grown (zq BK294) hg (Kd.R_ne HO_295001.out BK294.out (by decide)))
        have HO302 := Aside0.mk (ho)
        replace HB := Aside0.mk hb
        clear HO_295001; clear BK289; have BK289 := n0_; clear n0_; clear BK290; have BK290 := n1_; clear n1_; clear BK294; have BK294 := n2_; clear n2_; clear ho hb hg hat
        obtain ⟨Ao38, co38, eo38⟩ := Kd.R_slice HO302.out
        (first | subst eo38 | (injection eo38 with f1_ f2_ f3_; have f4_ := f1_.symm; have f5_ := f3_.symm; clear f1_ f2_ f3_; subst f4_; subst f5_))
        refine hK.out _ _ ⟨(blk_cell BK294.out 0).trans rfl, (blk_cell BK294.out 1).trans rfl, (blk_cell BK289.out 0).trans rfl, (blk_cell BK289.out 1).trans rfl, (blk_cell BK289.out 2).trans rfl⟩ (fun hHeld => ?_)
        clear hK K
        refine zN 46 ?_
        refine zA 8 47 HT_ ?_
        refine last_ (i := 9) (N := none) #[true, true, true, true, true, true, true, true, true, true] rfl rfl (one_of HT_.out (by kernel_rfl)) (by decide) (fun K hK => ?_)
        have hs39 : w37.cell? ⟨gb294, 1, none⟩ = some (u295001) := (blk_cell BK294.out 1).trans rfl
        have hfs39 := blk_frozen BK294.out 1
        have hns39_0 := NB289_294.out; have hns39_1 := NB290_294.out; have hms39_0 := NB294_289.out; have hms39_1 := NB294_290.out
        refine skip_ (w1 := ?_) (by rfl) rfl ?_ ?_
        rotate_left
        ·go_simp
         rfl
        refine hK.out _ _ ?_
        clear hK K
        refine done_ (done_of HT_.out (by kernel_rfl)) ?_
        try go_wp2
        go_roundg k2
        case measure => have := HJ3.out; have := HK2.out; omega
        case rel => exact ⟨(wrap64 (x1_2 - 1)), (t296), (y300), (.slice Ao38 y300.length co38), zu, zu, H', ⟨by have := HJ3.out; have := HK2.out; omega⟩, ⟨by (with_reducible repeat (first | apply Kd.R_alloc | apply Kd.R_drewN | apply Kd.R_drew)); exact Kd.R_mono (Kd.R_far (p := ⟨gb294, 1, none⟩) (Kd.R_types HO302.out BK294.out (by decide)) (fun _ hk => hk.2) (.slice Ao38 y300.length co38)) (fun _ hk => trivial)⟩, zk BK289, zk BK290, ⟨zw BK294⟩, ⟨zy HB⟩⟩
       ·rw [if_neg c34] at H
        exact absurd H (by simp)
      ·rw [if_neg c30] at H
       have c30b0 : decide (0 < x1_2) = false := decide_eq_false c30; clear c30; simp only [Option.some.injEq, Prod.mk.injEq] at H; obtain ⟨rfl, rfl, rfl⟩ := H; have hnb40 := NB294_289.out; have hnc40 := NB289_294.out; have hnb41 := NB294_290.out; have hnc41 := NB290_294.out
       obtain ⟨_, _, _, _⟩ := zc2 BK294
       have hnb43 := NB290_289.out; have hnc43 := NB289_290.out
       obtain ⟨_, _, _, _⟩ := zc2 BK290
       obtain ⟨Ao45, co45, eo45⟩ := Kd.R_slice HO_295001.out
       subst eo45
       go_wp2
       refine bodyPost_ret (results_ct rfl _ _ gb290 30 #[.int .i64 a0_0, .slice Ao45 x295001_2.length co45] (0, 0) _ rfl (zw BK290) Try.underlying30 rfl (by kernel_rfl)) rfl ?_
       exact ⟨_, zt, by (with_reducible repeat (first | apply Kd.R_alloc | apply Kd.R_drewN | apply Kd.R_drew)); exact Kd.R_mono (Kd.R_far (p := ⟨gb290, 1, none⟩) (Kd.R_far (p := ⟨gb290, 0, none⟩) (Kd.R_types HO_295001.out BK290.out (by decide)) (fun _ hk => hk.2) (.int .i64 a0_0)) (fun _ hk => hk.2) (.slice Ao45 x295001_2.length co45)) (fun _ hk => trivial), zy HB⟩


attribute [local go_sem high] eqA39
/-! ### laws_jPuzzle: function 8 -/
mutual
def laws_jPuzzle.j0 : Nat → Bool → Int → List (S39) → Int → List (S39) → Option (Bool)
 | 0, _, _, _, _, _ => none
 | k + 1, x19, x304000, x304001, x305000, x305001 => if x19 = true then (some false) else (laws_jPuzzle.l0 k (x304001.length : Int) 0 x304000 x304001 x305000 x305001)
def laws_jPuzzle.l0 : Nat → Int → Int → Int → List (S39) → Int → List (S39) → Option (Bool)
 | 0, _, _, _, _, _, _ => none
 | k + 1, x22, x23, x304000, x304001, x305000, x305001 => if x23 < x22 then (if 0 ≤ x23 then (if x23 < (x304001.length : Int) then (if x23 < (x305001.length : Int) then (if (!(((rd_T39 x304001 x23).f0) == ((rd_T39 x305001 x23).f0)) || (!(((rd_T39 x304001 x23).f1) == ((rd_T39 x305001 x23).f1)) || (!(((rd_T39 x304001 x23).f2) == ((rd_T39 x305001 x23).f2))))) = true then (some false) else (laws_jPuzzle.l0 k x22 (wrap64 (x23 + 1)) x304000 x304001 x305000 x305001)) else (none)) else (none)) else (none)) else (some true)
end
def laws_jPuzzle.f (k : Nat) (a0_0 : Int) (l0_1 : List (S39)) (a1_0 : Int) (l1_1 : List (S39)) : Option (Bool) := if a0_0 = a1_0 then (laws_jPuzzle.j0 k ((l0_1.length : Int) != (l1_1.length : Int)) a0_0 l0_1 a1_0 l1_1) else (laws_jPuzzle.j0 k true a0_0 l0_1 a1_0 l1_1)
set_option maxHeartbeats 8000000 in
set_option maxRecDepth 100000 in
theorem laws_jPuzzle.calls (k : Nat) (a0_0 : Int) (A0_1 : Option Addr) (c0_1 : Nat) (l0_1 : List (S39)) (a1_0 : Int) (A1_1 : Option Addr) (c1_1 : Nat) (l1_1 : List (S39)) (r : Bool) (w : World) (hr0_1 : Kd.C k39 w A0_1 l0_1.length l0_1) (hc0_1 : l0_1.length ≤ c0_1) (hr1_1 : Kd.C k39 w A1_1 l1_1.length l1_1) (hc1_1 : l1_1.length ≤ c1_1) (h : laws_jPuzzle.f k a0_0 l0_1 a1_0 l1_1 = some r) :
  Calls Try.prog 8 #[.agg #[.int .i64 a0_0, .slice A0_1 l0_1.length c0_1], .agg #[.int .i64 a1_0, .slice A1_1 l1_1.length c1_1]] w fun e w' => e = .returned (.bool r) ∧ Below w.heap.size w w' := by
 have hu30 := Try.underlying30; have hu39 := Try.underlying39; have HR0_1 := Aside0.mk hr0_1; have HC0_1 := Aside0.mk hc0_1; clear hr0_1 hc0_1; have HR1_1 := Aside0.mk hr1_1; have HC1_1 := Aside0.mk hc1_1; clear hr1_1 hc1_1
 have HB := Aside0.mk (Below.refl w.heap.size w)
 have H : (if a0_0 = a1_0 then (laws_jPuzzle.j0 k ((l0_1.length : Int) != (l1_1.length : Int)) a0_0 l0_1 a1_0 l1_1) else (laws_jPuzzle.j0 k true a0_0 l0_1 a1_0 l1_1)) = some r := h
 clear h; have HC3 := Aside0.mk H; clear H
 go_enter Try.func8, Try.ntmps8
 go_upto_region 1 with (first | ((with_reducible refine gate_dst (N := 2) rfl ?_); (try (refine gate_guard (by rfl) ?_; dsimp only)); refine zE 2 #[.int .i64 a0_0, .slice A0_1 l0_1.length c0_1] 30 ?_; intro gb303 hg w4 hbox hb; have BK303 := Aside0.mk (hbox); have GW303 := zg HB hg; have GE303 := GW303; replace HB := zh HB hb; clear hb hbox hg) | ((with_reducible refine gate_dst (N := 3) rfl ?_); (try (refine gate_guard (by rfl) ?_; dsimp only)); refine zE 3 #[.int .i64 a1_0, .slice A1_1 l1_1.length c1_1] 30 ?_; intro gb304 hg w5 hbox hb; have BK304 := Aside0.mk (hbox); have GW304 := zg HB hg; have GE304 := GW304; have NB303_304 := zl BK303 hg; have NB304_303 := zr BK303 hg; replace BK303 := zb BK303 hb; replace HB := zh HB hb; clear hb hbox hg))
 repeat (go_quiet (first | ((with_reducible refine gate_dst (N := 2) rfl ?_); (try (refine gate_guard (by rfl) ?_; dsimp only)); refine zE 2 #[.int .i64 a0_0, .slice A0_1 l0_1.length c0_1] 30 ?_; intro gb303 hg w4 hbox hb; have BK303 := Aside0.mk (hbox); have GW303 := zg HB hg; have GE303 := GW303; replace HB := zh HB hb; clear hb hbox hg) | ((with_reducible refine gate_dst (N := 3) rfl ?_); (try (refine gate_guard (by rfl) ?_; dsimp only)); refine zE 3 #[.int .i64 a1_0, .slice A1_1 l1_1.length c1_1] 30 ?_; intro gb304 hg w5 hbox hb; have BK304 := Aside0.mk (hbox); have GW304 := zg HB hg; have GE304 := GW304; have NB303_304 := zl BK303 hg; have NB304_303 := zr BK303 hg; replace BK303 := zb BK303 hb; replace HB := zh HB hb; clear hb hbox hg)); go_upto_region 1 with (first | ((with_reducible refine gate_dst (N := 2) rfl ?_); (try (refine gate_guard (by rfl) ?_; dsimp only)); refine zE 2 #[.int .i64 a0_0, .slice A0_1 l0_1.length c0_1] 30 ?_; intro gb303 hg w4 hbox hb; have BK303 := Aside0.mk (hbox); have GW303 := zg HB hg; have GE303 := GW303; replace HB := zh HB hb; clear hb hbox hg) | ((with_reducible refine gate_dst (N := 3) rfl ?_); (try (refine gate_guard (by rfl) ?_; dsimp only)); refine zE 3 #[.int .i64 a1_0, .slice A1_1 l1_1.length c1_1] 30 ?_; intro gb304 hg w5 hbox hb; have BK304 := Aside0.mk (hbox); have GW304 := zg HB hg; have GE304 := GW304; have NB303_304 := zl BK303 hg; have NB304_303 := zr BK303 hg; replace BK303 := zb BK303 hb; replace HB := zh HB hb; clear hb hbox hg)))
 (try simp only [Act.put, List.setIfInBounds_toArray, List.set_cons_zero, List.set_cons_succ])
 go_cut [19] (fun v19 wc => ∃ (kq : Nat) (x19_2 : Bool), v19 = .bool x19_2 ∧ Aside0 (laws_jPuzzle.j0 kq x19_2 a0_0 l0_1 a1_0 l1_1 = some r) ∧ Aside0 (kq ≤ k) ∧ Aside0 (wc.heap[gb303]? = some (.cells #[.int .i64 a0_0, (.slice A0_1 l0_1.length c0_1)] 30 (0, 0))) ∧ Aside0 (wc.heap[gb304]? = some (.cells #[.int .i64 a1_0, (.slice A1_1 l1_1.length c1_1)] 30 (0, 0))) ∧ Aside0 (Below w.heap.size w wc))
 case first =>
  have H := HC3.out; clear HC3
  by_cases c6 : a0_0 = a1_0
  ·rw [if_pos c6] at H
   have c6b0 : (a0_0 == a1_0) = true := beq_iff_eq.mpr c6
   have c6b1 : (a0_0 != a1_0) = false := bne_eq_false_iff_eq.mpr c6
   clear c6
   (first | rw [c6b0] | (simp only [i64_w, i32_w]; rw [c6b0]) | skip)
   have H' := Aside0.mk H; clear H; have hnb7 := NB303_304.out; have hnc7 := NB304_303.out
   obtain ⟨_, _, _, _⟩ := zc2 BK303
   obtain ⟨_, _, _, _⟩ := zc2 BK304
   go_wp2
   repeat (go_quiet (fail); try go_wp2)
   go_meet
   case rel => exact ⟨_, (((l0_1.length : Int) != (l1_1.length : Int))), zu, H', ⟨by first | omega | exact Nat.le_refl _⟩, zk BK303, zk BK304, ⟨zy HB⟩⟩
  ·rw [if_neg c6] at H
   have c6b0 : (a0_0 == a1_0) = false := beq_eq_false_iff_ne.mpr c6
   have c6b1 : (a0_0 != a1_0) = true := bne_iff_ne.mpr c6
   (first | rw [c6b0] | (simp only [i64_w, i32_w]; rw [c6b0]) | skip)
   have H' := Aside0.mk H; clear H; have hnb10 := NB303_304.out; have hnc10 := NB304_303.out
   obtain ⟨_, _, _, _⟩ := zc2 BK303
   obtain ⟨_, _, _, _⟩ := zc2 BK304
   go_wp2
   repeat (go_quiet (fail); try go_wp2)
   go_meet
   case rel => exact ⟨_, (true), zu, H', ⟨by first | omega | exact Nat.le_refl _⟩, zk BK303, zk BK304, ⟨zy HB⟩⟩
 case rest =>
  clear HC3
  obtain ⟨kq, x19_2, rfl, HA, HJ2, BK303, BK304, HB⟩ := hcut
  cases kq with
  | zero => exact absurd HA.out (by simp [laws_jPuzzle.j0])
  | succ kj2 =>
   have H := HA.out; clear HA; simp only [laws_jPuzzle.j0] at H
   by_cases c13 : x19_2 = true
   ·subst c13
    rw [if_pos rfl] at H
    obtain rfl := Option.some.inj H
    go_wp2
    repeat (go_quiet (fail); try go_wp2)
    go_ret
    exact ⟨zt, zy HB⟩
   ·replace c13 := Bool.eq_false_iff.mpr c13
    subst c13; rw [if_neg (show ¬ (false = true) by decide)] at H; have H' := Aside0.mk H; clear H; have hnb14 := NB303_304.out; have hnc14 := NB304_303.out
    obtain ⟨_, _, _, _⟩ := zc2 BK303
    go_wp2
    repeat (go_quiet (fail); try go_wp2)
    go_loopg [23] kj2 (fun kq v23 w' => ∃ (x23_2 : Int), v23 = .int .i64 x23_2 ∧ Aside0 (laws_jPuzzle.l0 kq (l0_1.length : Int) x23_2 a0_0 l0_1 a1_0 l1_1 = some r) ∧ Aside0 (kq ≤ kj2) ∧ Aside0 (w'.heap[gb303]? = some (.cells #[.int .i64 a0_0, (.slice A0_1 l0_1.length c0_1)] 30 (0, 0))) ∧ Aside0 (w'.heap[gb304]? = some (.cells #[.int .i64 a1_0, (.slice A1_1 l1_1.length c1_1)] 30 (0, 0))) ∧ Aside0 (Below w.heap.size w w'))
    case atStart => exact ⟨(0), zu, H', ⟨Nat.le_refl _⟩, zk BK303, zk BK304, ⟨zy HB⟩⟩
    case round =>
     clear H'
     obtain ⟨x23_2, rfl, HA, HK2, BK303, BK304, HB⟩ := hrel
     cases gk with
     | zero => exact absurd HA.out (by simp [laws_jPuzzle.l0])
     | succ k2 =>
      have H := HA.out; clear HA; simp only [laws_jPuzzle.l0] at H
      by_cases c16 : x23_2 < (l0_1.length : Int)
      ·rw [if_pos c16] at H
       have c16b0 : decide (x23_2 < (l0_1.length : Int)) = true := decide_eq_true c16; clear c16
       by_cases c17 : 0 ≤ x23_2
       ·rw [if_pos c17] at H
        have c17b0 : decide (0 ≤ x23_2) = true := decide_eq_true c17; clear c17
        by_cases c18 : x23_2 < (l0_1.length : Int)
        ·rw [if_pos c18] at H
         have c18b0 : decide (x23_2 < (l0_1.length : Int)) = true := decide_eq_true c18; clear c18
         by_cases c19 : x23_2 < (l1_1.length : Int)
         ·rw [if_pos c19] at H
          have c19b0 : decide (x23_2 < (l1_1.length : Int)) = true := decide_eq_true c19; clear c19
          by_cases c20 : (!(((rd_T39 l0_1 x23_2).f0) == ((rd_T39 l1_1 x23_2).f0)) || (!(((rd_T39 l0_1 x23_2).f1) == ((rd_T39 l1_1 x23_2).f1)) || (!(((rd_T39 l0_1 x23_2).f2) == ((rd_T39 l1_1 x23_2).f2))))) = true
          ·rw [if_pos c20] at H
           have c20b0 : (!(((rd_T39 l0_1 x23_2).f0) == ((rd_T39 l1_1 x23_2).f0)) || (!(((rd_T39 l0_1 x23_2).f1) == ((rd_T39 l1_1 x23_2).f1)) || (!(((rd_T39 l0_1 x23_2).f2) == ((rd_T39 l1_1 x23_2).f2))))) = true := c20
           clear c20
           obtain rfl := Option.some.inj H
           have hnb21 := NB303_304.out; have hnc21 := NB304_303.out
           obtain ⟨_, _, _, _⟩ := zc2 BK303
           have p305 : 0 ≤ (x23_2 : Int) := of_decide_eq_true zO1_3
           have q305 : x23_2 < (l0_1.length : Int) := of_decide_eq_true zO1_3
           obtain ⟨ad305, e305, hx305_0, hx305_1, hx305_2⟩ := at_T39 HR0_1.out x23_2 p305 q305
           cases e305
           replace hx305_0 := (HB.out.cell (World.block_lt_of_cell? w _ hx305_0)).trans hx305_0
           replace hx305_1 := (HB.out.cell (World.block_lt_of_cell? w _ hx305_1)).trans hx305_1
           replace hx305_2 := (HB.out.cell (World.block_lt_of_cell? w _ hx305_2)).trans hx305_2
           replace p305 := eq_true p305; replace q305 := eq_true q305
           obtain ⟨_, _, _, _⟩ := zc2 BK304
           have p306 : 0 ≤ (x23_2 : Int) := of_decide_eq_true zO1_3
           have q306 : x23_2 < (l1_1.length : Int) := of_decide_eq_true zO1_3
           obtain ⟨ad306, e306, hx306_0, hx306_1, hx306_2⟩ := at_T39 HR1_1.out x23_2 p306 q306
           cases e306
           replace hx306_0 := (HB.out.cell (World.block_lt_of_cell? w _ hx306_0)).trans hx306_0
           replace hx306_1 := (HB.out.cell (World.block_lt_of_cell? w _ hx306_1)).trans hx306_1
           replace hx306_2 := (HB.out.cell (World.block_lt_of_cell? w _ hx306_2)).trans hx306_2
           replace p306 := eq_true p306; replace q306 := eq_true q306
           go_wp2
           repeat (go_quiet (fail); try go_wp2)
           go_ret
           exact ⟨zt, zy HB⟩
          ·rw [if_neg c20] at H
           have c20b0 : (!(((rd_T39 l0_1 x23_2).f0) == ((rd_T39 l1_1 x23_2).f0)) || (!(((rd_T39 l0_1 x23_2).f1) == ((rd_T39 l1_1 x23_2).f1)) || (!(((rd_T39 l0_1 x23_2).f2) == ((rd_T39 l1_1 x23_2).f2))))) = false := by simpa using c20
           clear c20; have H' := Aside0.mk H; clear H; have hnb24 := NB303_304.out; have hnc24 := NB304_303.out
           obtain ⟨_, _, _, _⟩ := zc2 BK303
           have p305 : 0 ≤ (x23_2 : Int) := of_decide_eq_true zO1_3
           have q305 : x23_2 < (l0_1.length : Int) := of_decide_eq_true zO1_3
           obtain ⟨ad305, e305, hx305_0, hx305_1, hx305_2⟩ := at_T39 HR0_1.out x23_2 p305 q305
           cases e305
           replace hx305_0 := (HB.out.cell (World.block_lt_of_cell? w _ hx305_0)).trans hx305_0
           replace hx305_1 := (HB.out.cell (World.block_lt_of_cell? w _ hx305_1)).trans hx305_1
           replace hx305_2 := (HB.out.cell (World.block_lt_of_cell? w _ hx305_2)).trans hx305_2
           replace p305 := eq_true p305; replace q305 := eq_true q305
           obtain ⟨_, _, _, _⟩ := zc2 BK304
           have p306 : 0 ≤ (x23_2 : Int) := of_decide_eq_true zO1_3
           have q306 : x23_2 < (l1_1.length : Int) := of_decide_eq_true zO1_3
           obtain ⟨ad306, e306, hx306_0, hx306_1, hx306_2⟩ := at_T39 HR1_1.out x23_2 p306 q306
           cases e306
           replace hx306_0 := (HB.out.cell (World.block_lt_of_cell? w _ hx306_0)).trans hx306_0
           replace hx306_1 := (HB.out.cell (World.block_lt_of_cell? w _ hx306_1)).trans hx306_1
           replace hx306_2 := (HB.out.cell (World.block_lt_of_cell? w _ hx306_2)).trans hx306_2
           replace p306 := eq_true p306; replace q306 := eq_true q306
           go_wp2
           repeat (go_quiet (fail); try go_wp2)
           go_roundg k2
           case measure => have := HJ2.out; have := HK2.out; omega
           case rel => exact ⟨(wrap64 (x23_2 + 1)), zu, H', ⟨by have := HJ2.out; have := HK2.out; omega⟩, zk BK303, zk BK304, ⟨zy HB⟩⟩
         ·rw [if_neg c19] at H
          exact absurd H (by simp)
        ·rw [if_neg c18] at H
         exact absurd H (by simp)
       ·rw [if_neg c17] at H
        exact absurd H (by simp)
      ·rw [if_neg c16] at H
       have c16b0 : decide (x23_2 < (l0_1.length : Int)) = false := decide_eq_false c16; clear c16
       obtain rfl := Option.some.inj H
       go_wp2
       repeat (go_quiet (fail); try go_wp2)
       go_ret
       exact ⟨zt, zy HB⟩


/-! ### impl_isClue: function 47 -/
mutual
def impl_isClue.j0 : Nat → Bool → Int → Int → Int → Option (Bool)
 | 0, _, _, _, _ => none
 | k + 1, x12, x308000, x308001, x308002 => if x12 = true then (some false) else (if x308000 = 0 then (impl_isClue.j1 k x308000 (x308000 == 0) x308000 x308001 x308002) else (impl_isClue.j1 k x308000 (x308000 == 5) x308000 x308001 x308002))
def impl_isClue.j1 : Nat → Int → Bool → Int → Int → Int → Option (Bool)
 | 0, _, _, _, _, _ => none
 | k + 1, x14, x15, x308000, x308001, x308002 => if x15 = true then (some (x308001 == 0)) else (if x14 = 1 then (if x308001 = 0 then (some (decide (x308002 ≤ 1))) else (some false)) else (if x14 = 2 then (impl_isClue.j2 k x14 (x14 == 2) x308000 x308001 x308002) else (impl_isClue.j2 k x14 (x14 == 4) x308000 x308001 x308002)))
def impl_isClue.j2 : Nat → Int → Bool → Int → Int → Int → Option (Bool)
 | 0, _, _, _, _, _ => none
 | k + 1, x14, x31, x308000, x308001, x308002 => if x31 = true then (some (decide (x308002 ≥ 1))) else (if x14 = 3 then (if x308001 ≤ 1 then (some (decide (x308002 ≤ 1))) else (some false)) else (some false))
end
def impl_isClue.f (k : Nat) (a0_0 : Int) (a0_1 : Int) (a0_2 : Int) : Option (Bool) := (impl_within.f a0_1 0 200).bind fun t308 => (if t308 = true then ((impl_within.f a0_2 0 200).bind fun t309 => (impl_isClue.j0 k (!t309) a0_0 a0_1 a0_2)) else (impl_isClue.j0 k true a0_0 a0_1 a0_2))
set_option maxHeartbeats 8000000 in
set_option maxRecDepth 100000 in
theorem impl_isClue.calls (k : Nat) (a0_0 : Int) (a0_1 : Int) (a0_2 : Int) (r : Bool) (w : World) (h : impl_isClue.f k a0_0 a0_1 a0_2 = some r) :
  Calls Try.prog 47 #[.agg #[.int .i64 a0_0, .int .i64 a0_1, .int .i64 a0_2]] w fun e w' => e = .returned (.bool r) ∧ Below w.heap.size w w' := by
 have hu39 := Try.underlying39
 have HB := Aside0.mk (Below.refl w.heap.size w)
 have H : ((impl_within.f a0_1 0 200).bind fun t308 => (if t308 = true then ((impl_within.f a0_2 0 200).bind fun t309 => (impl_isClue.j0 k (!t309) a0_0 a0_1 a0_2)) else (impl_isClue.j0 k true a0_0 a0_1 a0_2))) = some r := h
 clear h; have HC2 := Aside0.mk H; clear H
 go_enter Try.func47, Try.ntmps47
 go_upto_region 1 with (first | ((with_reducible refine gate_dst (N := 1) rfl ?_); refine zE 1 #[.int .i64 a0_0, .int .i64 a0_1, .int .i64 a0_2] 39 ?_; intro gb307 hg w3 hbox hb; have BK307 := Aside0.mk (hbox); have GW307 := zg HB hg; have GE307 := GW307; replace HB := zh HB hb; clear hb hbox hg))
 (try simp only [Act.put, List.setIfInBounds_toArray, List.set_cons_zero, List.set_cons_succ])
 go_cut [12] (fun v12 wc => ∃ (kq : Nat) (x12_1 : Bool), v12 = .bool x12_1 ∧ Aside0 (impl_isClue.j0 kq x12_1 a0_0 a0_1 a0_2 = some r) ∧ Aside0 (kq ≤ k) ∧ Aside0 (wc.heap[gb307]? = some (.cells #[.int .i64 a0_0, .int .i64 a0_1, .int .i64 a0_2] 39 (0, 0))) ∧ Aside0 (Below w.heap.size w wc))
 case first =>
  have H := HC2.out; clear HC2; replace H := Option.bind_eq_some_iff.mp H; obtain ⟨t308, A40, H⟩ := H; (try dsimp only at H); have A4 := Aside0.mk A40; clear A40
  by_cases c5 : t308 = true
  ·subst c5
   rw [if_pos rfl] at H; replace H := Option.bind_eq_some_iff.mp H; obtain ⟨t309, A60, H⟩ := H
   replace H : (impl_isClue.j0 k (!t309) a0_0 a0_1 a0_2) = some r := H
   have A6 := Aside0.mk A60; clear A60; have H' := Aside0.mk H; clear H
   obtain ⟨_, _, _, _, _, _⟩ := zc3 BK307
   go_wp2_with (first | ((with_reducible refine gate_callee (f := 38) rfl ?_); refine zG (some 5) Try.func38 #[.int .i64 a0_1, .int .i64 0, .int .i64 200] ?_; (with_reducible refine (impl_within.calls a0_1 0 200 true _ A4.out).mono ?_); rintro e w' ⟨rfl, ⟨nd, rfl⟩⟩; refine ⟨_, rfl, ?_⟩) | (go_at_call 38; (with_reducible refine (impl_within.calls a0_2 0 200 t309 _ A6.out).mono ?_); rintro e w' ⟨rfl, ⟨nd, rfl⟩⟩))
   go_meet
   case rel => exact ⟨_, (!t309), zu, H', ⟨by first | omega | exact Nat.le_refl _⟩, zk BK307, ⟨zy HB⟩⟩
  ·replace c5 := Bool.eq_false_iff.mpr c5
   subst c5; rw [if_neg (show ¬ (false = true) by decide)] at H; have H' := Aside0.mk H; clear H
   obtain ⟨_, _, _, _, _, _⟩ := zc3 BK307
   go_wp2_with (first | ((with_reducible refine gate_callee (f := 38) rfl ?_); refine zG (some 5) Try.func38 #[.int .i64 a0_1, .int .i64 0, .int .i64 200] ?_; (with_reducible refine (impl_within.calls a0_1 0 200 false _ A4.out).mono ?_); rintro e w' ⟨rfl, ⟨nd, rfl⟩⟩; refine ⟨_, rfl, ?_⟩))
   go_meet
   case rel => exact ⟨_, (true), zu, H', ⟨by first | omega | exact Nat.le_refl _⟩, zk BK307, ⟨zy HB⟩⟩
 case rest =>
  clear HC2
  obtain ⟨kq, x12_1, rfl, HA, HJ1, BK307, HB⟩ := hcut
  cases kq with
  | zero => exact absurd HA.out (by simp [impl_isClue.j0])
  | succ kj1 =>
   have H := HA.out; clear HA; simp only [impl_isClue.j0] at H
   by_cases c9 : x12_1 = true
   ·subst c9
    rw [if_pos rfl] at H
    obtain rfl := Option.some.inj H
    go_wp2
    go_ret
    exact ⟨zt, zy HB⟩
   ·replace c9 := Bool.eq_false_iff.mpr c9
    subst c9; rw [if_neg (show ¬ (false = true) by decide)] at H; have HC10 := Aside0.mk H; clear H
    obtain ⟨_, _, _, _, _, _⟩ := zc3 BK307
    go_upto_if 15 with (fail)
    go_cut [15] (fun v15 wc => ∃ (kq : Nat) (x15_9 : Bool), v15 = .bool x15_9 ∧ Aside0 (impl_isClue.j1 kq a0_0 x15_9 a0_0 a0_1 a0_2 = some r) ∧ Aside0 (kq ≤ kj1) ∧ Aside0 (wc.heap[gb307]? = some (.cells #[.int .i64 a0_0, .int .i64 a0_1, .int .i64 a0_2] 39 (0, 0))) ∧ Aside0 (Below w.heap.size w wc))
    case first =>
     have H := HC10.out; clear HC10
     by_cases c12 : a0_0 = 0
     ·rw [if_pos c12] at H
      have c12b0 : (a0_0 == 0) = true := beq_iff_eq.mpr c12
      have c12b1 : (a0_0 != 0) = false := bne_eq_false_iff_eq.mpr c12
      clear c12
      (first | rw [c12b0] | (simp only [i64_w, i32_w]; rw [c12b0]) | skip)
      have H' := Aside0.mk H; clear H
      go_wp2
      go_meet
      case rel => exact ⟨_, ((a0_0 == 0)), zu, H', ⟨by have := HJ1.out; first | omega | exact Nat.le_refl _⟩, zk BK307, ⟨zy HB⟩⟩
     ·rw [if_neg c12] at H
      have c12b0 : (a0_0 == 0) = false := beq_eq_false_iff_ne.mpr c12
      have c12b1 : (a0_0 != 0) = true := bne_iff_ne.mpr c12
      (first | rw [c12b0] | (simp only [i64_w, i32_w]; rw [c12b0]) | skip)
      have H' := Aside0.mk H; clear H
      go_wp2
      go_meet
      case rel => exact ⟨_, ((a0_0 == 5)), zu, H', ⟨by have := HJ1.out; first | omega | exact Nat.le_refl _⟩, zk BK307, ⟨zy HB⟩⟩
    case rest =>
     clear HC10
     obtain ⟨kq, x15_9, rfl, HA, HJ9, BK307, HB⟩ := hcut
     cases kq with
     | zero => exact absurd HA.out (by simp [impl_isClue.j1])
     | succ kj9 =>
      have H := HA.out; clear HA; simp only [impl_isClue.j1] at H
      by_cases c13 : x15_9 = true
      ·subst c13
       rw [if_pos rfl] at H
       obtain rfl := Option.some.inj H
       obtain ⟨_, _, _, _, _, _⟩ := zc3 BK307
       go_wp2
       go_ret
       exact ⟨zt, zy HB⟩
      ·replace c13 := Bool.eq_false_iff.mpr c13
       subst c13; rw [if_neg (show ¬ (false = true) by decide)] at H
       by_cases c15 : a0_0 = 1
       ·rw [if_pos c15] at H
        have c15b0 : (a0_0 == 1) = true := beq_iff_eq.mpr c15
        have c15b1 : (a0_0 != 1) = false := bne_eq_false_iff_eq.mpr c15
        clear c15
        by_cases c16 : a0_1 = 0
        ·rw [if_pos c16] at H
         have c16b0 : (a0_1 == 0) = true := beq_iff_eq.mpr c16
         have c16b1 : (a0_1 != 0) = false := bne_eq_false_iff_eq.mpr c16
         clear c16
         obtain rfl := Option.some.inj H
         obtain ⟨_, _, _, _, _, _⟩ := zc3 BK307
         go_wp2
         go_ret
         exact ⟨zt, zy HB⟩
        ·rw [if_neg c16] at H
         have c16b0 : (a0_1 == 0) = false := beq_eq_false_iff_ne.mpr c16
         have c16b1 : (a0_1 != 0) = true := bne_iff_ne.mpr c16
         obtain rfl := Option.some.inj H
         obtain ⟨_, _, _, _, _, _⟩ := zc3 BK307
         go_wp2
         go_ret
         exact ⟨zt, zy HB⟩
       ·rw [if_neg c15] at H
        have c15b0 : (a0_0 == 1) = false := beq_eq_false_iff_ne.mpr c15
        have c15b1 : (a0_0 != 1) = true := bne_iff_ne.mpr c15
        have HC19 := Aside0.mk H; clear H
        go_upto_if 31 with (fail)
        go_cut [31] (fun v31 wc => ∃ (kq : Nat) (x31_18 : Bool), v31 = .bool x31_18 ∧ Aside0 (impl_isClue.j2 kq a0_0 x31_18 a0_0 a0_1 a0_2 = some r) ∧ Aside0 (kq ≤ kj9) ∧ Aside0 (wc.heap[gb307]? = some (.cells #[.int .i64 a0_0, .int .i64 a0_1, .int .i64 a0_2] 39 (0, 0))) ∧ Aside0 (Below w.heap.size w wc))
        case first =>
         have H := HC19.out; clear HC19
         by_cases c20 : a0_0 = 2
         ·rw [if_pos c20] at H
          have c20b0 : (a0_0 == 2) = true := beq_iff_eq.mpr c20
          have c20b1 : (a0_0 != 2) = false := bne_eq_false_iff_eq.mpr c20
          clear c20
          (first | rw [c20b0] | (simp only [i64_w, i32_w]; rw [c20b0]) | skip)
          have H' := Aside0.mk H; clear H
          go_wp2
          go_meet
          case rel => exact ⟨_, ((a0_0 == 2)), zu, H', ⟨by have := HJ1.out; have := HJ9.out; first | omega | exact Nat.le_refl _⟩, zk BK307, ⟨zy HB⟩⟩
         ·rw [if_neg c20] at H
          have c20b0 : (a0_0 == 2) = false := beq_eq_false_iff_ne.mpr c20
          have c20b1 : (a0_0 != 2) = true := bne_iff_ne.mpr c20
          (first | rw [c20b0] | (simp only [i64_w, i32_w]; rw [c20b0]) | skip)
          have H' := Aside0.mk H; clear H
          go_wp2
          go_meet
          case rel => exact ⟨_, ((a0_0 == 4)), zu, H', ⟨by have := HJ1.out; have := HJ9.out; first | omega | exact Nat.le_refl _⟩, zk BK307, ⟨zy HB⟩⟩
        case rest =>
         clear HC19
         obtain ⟨kq, x31_18, rfl, HA, HJ18, BK307, HB⟩ := hcut
         cases kq with
         | zero => exact absurd HA.out (by simp [impl_isClue.j2])
         | succ kj18 =>
          have H := HA.out; clear HA; simp only [impl_isClue.j2] at H
          by_cases c21 : x31_18 = true
          ·subst c21
           rw [if_pos rfl] at H
           obtain rfl := Option.some.inj H
           obtain ⟨_, _, _, _, _, _⟩ := zc3 BK307
           go_wp2
           go_ret
           exact ⟨zt, zy HB⟩
          ·replace c21 := Bool.eq_false_iff.mpr c21
           subst c21; rw [if_neg (show ¬ (false = true) by decide)] at H
           by_cases c23 : a0_0 = 3
           ·rw [if_pos c23] at H
            have c23b0 : (a0_0 == 3) = true := beq_iff_eq.mpr c23
            have c23b1 : (a0_0 != 3) = false := bne_eq_false_iff_eq.mpr c23
            clear c23
            by_cases c24 : a0_1 ≤ 1
            ·rw [if_pos c24] at H
             have c24b0 : decide (a0_1 ≤ 1) = true := decide_eq_true c24; clear c24
             obtain rfl := Option.some.inj H
             obtain ⟨_, _, _, _, _, _⟩ := zc3 BK307
             go_wp2
             go_ret
             exact ⟨zt, zy HB⟩
            ·rw [if_neg c24] at H
             have c24b0 : decide (a0_1 ≤ 1) = false := decide_eq_false c24; clear c24
             obtain rfl := Option.some.inj H
             obtain ⟨_, _, _, _, _, _⟩ := zc3 BK307
             go_wp2
             go_ret
             exact ⟨zt, zy HB⟩
           ·rw [if_neg c23] at H
            have c23b0 : (a0_0 == 3) = false := beq_eq_false_iff_ne.mpr c23
            have c23b1 : (a0_0 != 3) = true := bne_iff_ne.mpr c23
            obtain rfl := Option.some.inj H
            go_wp2
            go_ret
            exact ⟨zt, zy HB⟩


attribute [local go_sem high] eqA39
/-! ### impl_doesFit: function 48 -/
def impl_doesFit.f (k : Nat) (a0_0 : Int) (a0_1 : Int) (a0_2 : Int) (a1_0 : Int) (a1_1 : Int) (a1_2 : Int) : Option (Bool) := if a0_0 = 3 then ((impl_told.f k a1_0 a1_1 a1_2 a0_0 a0_1).bind fun bt312 => (some (bt312.1 == a0_0 && (bt312.2.1 == a0_1 && (bt312.2.2 == a0_2))))) else ((impl_told.f k a1_0 a1_1 a1_2 a0_0 0).bind fun bt315 => (some (bt315.1 == a0_0 && (bt315.2.1 == a0_1 && (bt315.2.2 == a0_2)))))
def impl_doesFit.T4 : Bool × List (List Nat × List Nat) := (true, [([], []), ([], []), ([1], [1]), ([], []), ([0, 2, 3], [0, 2, 3]), ([], []), ([4, 5], [4, 5]), ([6, 4, 0, 1, 2, 3, 4, 5, 6], [6])])
def impl_doesFit.B4 : List Nat := [0, 0, 2, 0, 15, 0, 63, 127]
theorem impl_doesFit.tab4 : rtab .any (opsOf Try.f48 4) = impl_doesFit.T4 := by kernel_rfl
theorem impl_doesFit.bits4 : waitsOk impl_doesFit.T4.2 impl_doesFit.B4 = true := by kernel_rfl
set_option maxHeartbeats 8000000 in
set_option maxRecDepth 100000 in
theorem impl_doesFit.calls (k : Nat) (a0_0 : Int) (a0_1 : Int) (a0_2 : Int) (a1_0 : Int) (a1_1 : Int) (a1_2 : Int) (r : Bool) (w : World) (h : impl_doesFit.f k a0_0 a0_1 a0_2 a1_0 a1_1 a1_2 = some r) :
  Calls Try.prog 48 #[.agg #[.int .i64 a0_0, .int .i64 a0_1, .int .i64 a0_2], .agg #[.int .i64 a1_0, .int .i64 a1_1, .int .i64 a1_2]] w fun e w' => e = .returned (.bool r) ∧ Below w.heap.size w w' := by
 have hu39 := Try.underlying39; have hu25 := Try.underlying25
 have HB := Aside0.mk (Below.refl w.heap.size w)
 have H : (if a0_0 = 3 then ((impl_told.f k a1_0 a1_1 a1_2 a0_0 a0_1).bind fun bt312 => (some (bt312.1 == a0_0 && (bt312.2.1 == a0_1 && (bt312.2.2 == a0_2))))) else ((impl_told.f k a1_0 a1_1 a1_2 a0_0 0).bind fun bt315 => (some (bt315.1 == a0_0 && (bt315.2.1 == a0_1 && (bt315.2.2 == a0_2)))))) = some r := h
 clear h
 by_cases c3 : a0_0 = 3
 ·rw [if_pos c3] at H
  have c3b0 : (a0_0 == 3) = true := beq_iff_eq.mpr c3
  have c3b1 : (a0_0 != 3) = false := bne_eq_false_iff_eq.mpr c3
  clear c3; replace H := Option.bind_eq_some_iff.mp H; obtain ⟨⟨t312, t313, t314⟩, A40, H⟩ := H
  replace H : (some (t312 == a0_0 && (t313 == a0_1 && (t314 == a0_2)))) = some r := H
  have A4 := Aside0.mk A40; clear A40
  obtain rfl := Option.some.inj H
  go_enter Try.func48, Try.ntmps48
  try go_wp2_with (first | ((with_reducible refine gate_dst (N := 2) rfl ?_); refine zE 2 #[.int .i64 a0_0, .int .i64 a0_1, .int .i64 a0_2] 39 ?_; intro gb310 hg w5 hbox hb; have BK310 := Aside0.mk (hbox); have GW310 := zg HB hg; have GE310 := GW310; replace HB := zh HB hb; clear hb hbox hg) | ((with_reducible refine gate_dst (N := 3) rfl ?_); refine zE 3 #[.int .i64 a1_0, .int .i64 a1_1, .int .i64 a1_2] 25 ?_; intro gb311 hg w6 hbox hb; have BK311 := Aside0.mk (hbox); have GW311 := zg HB hg; have GE311 := GW311; have NB310_311 := zl BK310 hg; have NB311_310 := zr BK310 hg; replace BK310 := zb BK310 hb; replace HB := zh HB hb; clear hb hbox hg; have hnb7 := NB310_311.out; have hnc7 := NB311_310.out; obtain ⟨_, _, _, _, _, _⟩ := zc3 BK310))
  replace BK310 := Aside0.mk (blk_drew BK310.out); replace BK311 := Aside0.mk (blk_drew BK311.out); replace HB := Aside0.mk (below_drew1 HB.out)
  refine start_ (n := 8) (S := fun w' => w'.cell? ⟨gb311, 0, none⟩ = some (.int .i64 a1_0) ∧ w'.cell? ⟨gb311, 1, none⟩ = some (.int .i64 a1_1) ∧ w'.cell? ⟨gb311, 2, none⟩ = some (.int .i64 a1_2) ∧ w'.cell? ⟨gb310, 0, none⟩ = some (.int .i64 a0_0) ∧ w'.cell? ⟨gb310, 1, none⟩ = some (.int .i64 a0_1) ∧ w'.cell? ⟨gb310, 2, none⟩ = some (.int .i64 a0_2)) (ds := []) #[false, false, false, false, false, false, false, false] (by kernel_rfl) rfl rfl ⟨(blk_cell BK311.out 0).trans rfl, (blk_cell BK311.out 1).trans rfl, (blk_cell BK311.out 2).trans rfl, (blk_cell BK310.out 0).trans rfl, (blk_cell BK310.out 1).trans rfl, (blk_cell BK310.out 2).trans rfl⟩ (fun hHeld => ?_); refine with_tabW impl_doesFit.tab4 impl_doesFit.bits4 (fun HT_ HW_ => ?_)
  generalize w6.drew = w9 at BK310 BK311 HB hHeld ⊢
  refine zA 1 12 HT_ ?_
  refine zA 3 14 HT_ ?_
  refine zT 0 11 HT_ HW_ hHeld ?_
  refine zT 2 13 HT_ HW_ hHeld ?_
  refine zT 5 16 HT_ HW_ hHeld ?_
  refine zO 4 (some 15) HT_ (fun K hK => ?_)
  refine goes_ Try.func40 (by kernel_rfl) rfl #[.agg #[.int .i64 a1_0, .int .i64 a1_1, .int .i64 a1_2], .int .i64 a0_0, .int .i64 a0_1] (by rfl) rfl rfl zO1_0 ?_
  with_reducible refine (impl_told.calls k a1_0 a1_1 a1_2 a0_0 a0_1 t312 t313 t314 _ A4.out).mono ?_
  rintro e w10 ⟨rfl, hb⟩
  refine ⟨_, rfl, ?_⟩
  replace BK310 := zb BK310 hb; replace BK311 := zb BK311 hb; replace HB := zh HB hb
  (try clear hb)
  (try clear hb2)
  (try clear hk)
  (try clear hi)
  refine hK.out _ _ ⟨(blk_cell BK311.out 0).trans rfl, (blk_cell BK311.out 1).trans rfl, (blk_cell BK311.out 2).trans rfl, (blk_cell BK310.out 0).trans rfl, (blk_cell BK310.out 1).trans rfl, (blk_cell BK310.out 2).trans rfl⟩ (fun hHeld => ?_)
  clear hK K
  refine zN 15 ?_
  refine zA 6 17 HT_ ?_
  refine zA 7 4 HT_ ?_
  refine done_ (done_of HT_.out (by kernel_rfl)) ?_
  try go_wp2
  go_ret
  exact ⟨zt, zy HB⟩
 ·rw [if_neg c3] at H
  have c3b0 : (a0_0 == 3) = false := beq_eq_false_iff_ne.mpr c3
  have c3b1 : (a0_0 != 3) = true := bne_iff_ne.mpr c3
  replace H := Option.bind_eq_some_iff.mp H; obtain ⟨⟨t315, t316, t317⟩, A110, H⟩ := H
  replace H : (some (t315 == a0_0 && (t316 == a0_1 && (t317 == a0_2)))) = some r := H
  have A11 := Aside0.mk A110; clear A110
  obtain rfl := Option.some.inj H
  go_enter Try.func48, Try.ntmps48
  try go_wp2_with (first | ((with_reducible refine gate_dst (N := 2) rfl ?_); refine zE 2 #[.int .i64 a0_0, .int .i64 a0_1, .int .i64 a0_2] 39 ?_; intro gb310 hg w12 hbox hb; have BK310 := Aside0.mk (hbox); have GW310 := zg HB hg; have GE310 := GW310; replace HB := zh HB hb; clear hb hbox hg) | ((with_reducible refine gate_dst (N := 3) rfl ?_); refine zE 3 #[.int .i64 a1_0, .int .i64 a1_1, .int .i64 a1_2] 25 ?_; intro gb311 hg w13 hbox hb; have BK311 := Aside0.mk (hbox); have GW311 := zg HB hg; have GE311 := GW311; have NB310_311 := zl BK310 hg; have NB311_310 := zr BK310 hg; replace BK310 := zb BK310 hb; replace HB := zh HB hb; clear hb hbox hg; have hnb14 := NB310_311.out; have hnc14 := NB311_310.out; obtain ⟨_, _, _, _, _, _⟩ := zc3 BK310))
  replace BK310 := Aside0.mk (blk_drew BK310.out); replace BK311 := Aside0.mk (blk_drew BK311.out); replace HB := Aside0.mk (below_drew1 HB.out)
  refine start_ (n := 8) (S := fun w' => w'.cell? ⟨gb311, 0, none⟩ = some (.int .i64 a1_0) ∧ w'.cell? ⟨gb311, 1, none⟩ = some (.int .i64 a1_1) ∧ w'.cell? ⟨gb311, 2, none⟩ = some (.int .i64 a1_2) ∧ w'.cell? ⟨gb310, 0, none⟩ = some (.int .i64 a0_0) ∧ w'.cell? ⟨gb310, 1, none⟩ = some (.int .i64 a0_1) ∧ w'.cell? ⟨gb310, 2, none⟩ = some (.int .i64 a0_2)) (ds := []) #[false, false, false, false, false, false, false, false] (by kernel_rfl) rfl rfl ⟨(blk_cell BK311.out 0).trans rfl, (blk_cell BK311.out 1).trans rfl, (blk_cell BK311.out 2).trans rfl, (blk_cell BK310.out 0).trans rfl, (blk_cell BK310.out 1).trans rfl, (blk_cell BK310.out 2).trans rfl⟩ (fun hHeld => ?_); refine with_tabW impl_doesFit.tab4 impl_doesFit.bits4 (fun HT_ HW_ => ?_)
  generalize w13.drew = w16 at BK310 BK311 HB hHeld ⊢
  refine zA 1 12 HT_ ?_
  refine zA 3 14 HT_ ?_
  refine zT 0 11 HT_ HW_ hHeld ?_
  refine zT 2 13 HT_ HW_ hHeld ?_
  refine zT 5 16 HT_ HW_ hHeld ?_
  refine zO 4 (some 15) HT_ (fun K hK => ?_)
  refine goes_ Try.func40 (by kernel_rfl) rfl #[.agg #[.int .i64 a1_0, .int .i64 a1_1, .int .i64 a1_2], .int .i64 a0_0, .int .i64 0] (by rfl) rfl rfl zO1_0 ?_
  with_reducible refine (impl_told.calls k a1_0 a1_1 a1_2 a0_0 0 t315 t316 t317 _ A11.out).mono ?_
  rintro e w17 ⟨rfl, hb⟩
  refine ⟨_, rfl, ?_⟩
  replace BK310 := zb BK310 hb; replace BK311 := zb BK311 hb; replace HB := zh HB hb
  (try clear hb)
  (try clear hb2)
  (try clear hk)
  (try clear hi)
  refine hK.out _ _ ⟨(blk_cell BK311.out 0).trans rfl, (blk_cell BK311.out 1).trans rfl, (blk_cell BK311.out 2).trans rfl, (blk_cell BK310.out 0).trans rfl, (blk_cell BK310.out 1).trans rfl, (blk_cell BK310.out 2).trans rfl⟩ (fun hHeld => ?_)
  clear hK K
  refine zN 15 ?_
  refine zA 6 17 HT_ ?_
  refine zA 7 4 HT_ ?_
  refine done_ (done_of HT_.out (by kernel_rfl)) ?_
  try go_wp2
  go_ret
  exact ⟨zt, zy HB⟩


/-! ### impl_DoesFit: function 10 -/
def impl_DoesFit.f (k : Nat) (a0_0 : Int) (a0_1 : Int) (a0_2 : Int) (a1_0 : Int) (a1_1 : Int) (a1_2 : Int) : Option (Bool × Bool) := (impl_isClue.f k a0_0 a0_1 a0_2).bind fun t320 => (if t320 = true then ((impl_areHidden.f a1_0 a1_1 a1_2).bind fun t321 => (if t321 = true then ((impl_doesFit.f k a0_0 a0_1 a0_2 a1_0 a1_1 a1_2).bind fun t322 => (some (t322, true))) else (some (false, false)))) else (some (false, false)))
set_option maxHeartbeats 8000000 in
set_option maxRecDepth 100000 in
theorem impl_DoesFit.calls (k : Nat) (a0_0 : Int) (a0_1 : Int) (a0_2 : Int) (a1_0 : Int) (a1_1 : Int) (a1_2 : Int) (r1 : Bool) (r2 : Bool) (w : World) (h : impl_DoesFit.f k a0_0 a0_1 a0_2 a1_0 a1_1 a1_2 = some (r1, r2)) :
  Calls Try.prog 10 #[.agg #[.int .i64 a0_0, .int .i64 a0_1, .int .i64 a0_2], .agg #[.int .i64 a1_0, .int .i64 a1_1, .int .i64 a1_2]] w fun e w' => e = .returned (.tuple #[.bool r1, .bool r2]) ∧ Below w.heap.size w w' := by
 have hu39 := Try.underlying39; have hu25 := Try.underlying25
 have HB := Aside0.mk (Below.refl w.heap.size w)
 have H : ((impl_isClue.f k a0_0 a0_1 a0_2).bind fun t320 => (if t320 = true then ((impl_areHidden.f a1_0 a1_1 a1_2).bind fun t321 => (if t321 = true then ((impl_doesFit.f k a0_0 a0_1 a0_2 a1_0 a1_1 a1_2).bind fun t322 => (some (t322, true))) else (some (false, false)))) else (some (false, false)))) = some (r1, r2) := h
 clear h; replace H := Option.bind_eq_some_iff.mp H; obtain ⟨t320, A30, H⟩ := H; (try dsimp only at H); have A3 := Aside0.mk A30; clear A30
 by_cases c4 : t320 = true
 ·subst c4
  rw [if_pos rfl] at H; replace H := Option.bind_eq_some_iff.mp H; obtain ⟨t321, A50, H⟩ := H
  replace H : (if t321 = true then ((impl_doesFit.f k a0_0 a0_1 a0_2 a1_0 a1_1 a1_2).bind fun t322 => (some (t322, true))) else (some (false, false))) = some (r1, r2) := H
  have A5 := Aside0.mk A50; clear A50
  by_cases c6 : t321 = true
  ·subst c6
   rw [if_pos rfl] at H; replace H := Option.bind_eq_some_iff.mp H; obtain ⟨t322, A70, H⟩ := H
   replace H : (some (t322, true)) = some (r1, r2) := H
   have A7 := Aside0.mk A70; clear A70; simp only [Option.some.injEq, Prod.mk.injEq] at H; obtain ⟨rfl, rfl⟩ := H
   go_enter Try.func10, Try.ntmps10
   go_wp2_with (first | ((with_reducible refine gate_dst (N := 2) rfl ?_); refine zE 2 #[.int .i64 a0_0, .int .i64 a0_1, .int .i64 a0_2] 39 ?_; intro gb318 hg w8 hbox hb; have BK318 := Aside0.mk (hbox); have GW318 := zg HB hg; have GE318 := GW318; replace HB := zh HB hb; clear hb hbox hg) | ((with_reducible refine gate_dst (N := 3) rfl ?_); refine zE 3 #[.int .i64 a1_0, .int .i64 a1_1, .int .i64 a1_2] 25 ?_; intro gb319 hg w9 hbox hb; have BK319 := Aside0.mk (hbox); have GW319 := zg HB hg; have GE319 := GW319; have NB318_319 := zl BK318 hg; have NB319_318 := zr BK318 hg; replace BK318 := zb BK318 hb; replace HB := zh HB hb; clear hb hbox hg; have hnb10 := NB318_319.out; have hnc10 := NB319_318.out; obtain ⟨_, _, _, _, _, _⟩ := zc3 BK318) | ((with_reducible refine gate_callee (f := 47) rfl ?_); refine zG (some 7) Try.func47 #[.agg #[.int .i64 a0_0, .int .i64 a0_1, .int .i64 a0_2]] ?_; (with_reducible refine (impl_isClue.calls k a0_0 a0_1 a0_2 true _ A3.out).mono ?_); rintro e w12 ⟨rfl, hb⟩; refine ⟨_, rfl, ?_⟩; replace BK318 := zb BK318 hb; replace BK319 := zb BK319 hb; replace HB := zh HB hb; clear hb; obtain ⟨_, _, _, _, _, _⟩ := zc3 BK319) | (go_at_call 37; (with_reducible refine (impl_areHidden.calls a1_0 a1_1 a1_2 true _ A5.out).mono ?_); rintro e w14 ⟨rfl, hb⟩; replace BK318 := zb BK318 hb; replace BK319 := zb BK319 hb; replace HB := zh HB hb; clear hb; obtain ⟨_, _, _, _, _, _⟩ := zc3 BK318; obtain ⟨_, _, _, _, _, _⟩ := zc3 BK319) | ((with_reducible refine gate_callee (f := 48) rfl ?_); refine zG (some 16) Try.func48 #[.agg #[.int .i64 a0_0, .int .i64 a0_1, .int .i64 a0_2], .agg #[.int .i64 a1_0, .int .i64 a1_1, .int .i64 a1_2]] ?_; (with_reducible refine (impl_doesFit.calls k a0_0 a0_1 a0_2 a1_0 a1_1 a1_2 t322 _ A7.out).mono ?_); rintro e w17 ⟨rfl, hb⟩; refine ⟨_, rfl, ?_⟩; replace BK318 := zb BK318 hb; replace BK319 := zb BK319 hb; replace HB := zh HB hb; clear hb))
   go_ret2
   exact ⟨zt, zy HB⟩
  ·replace c6 := Bool.eq_false_iff.mpr c6
   subst c6; rw [if_neg (show ¬ (false = true) by decide)] at H; simp only [Option.some.injEq, Prod.mk.injEq] at H; obtain ⟨rfl, rfl⟩ := H
   go_enter Try.func10, Try.ntmps10
   go_wp2_with (first | ((with_reducible refine gate_dst (N := 2) rfl ?_); refine zE 2 #[.int .i64 a0_0, .int .i64 a0_1, .int .i64 a0_2] 39 ?_; intro gb318 hg w18 hbox hb; have BK318 := Aside0.mk (hbox); have GW318 := zg HB hg; have GE318 := GW318; replace HB := zh HB hb; clear hb hbox hg) | ((with_reducible refine gate_dst (N := 3) rfl ?_); refine zE 3 #[.int .i64 a1_0, .int .i64 a1_1, .int .i64 a1_2] 25 ?_; intro gb319 hg w19 hbox hb; have BK319 := Aside0.mk (hbox); have GW319 := zg HB hg; have GE319 := GW319; have NB318_319 := zl BK318 hg; have NB319_318 := zr BK318 hg; replace BK318 := zb BK318 hb; replace HB := zh HB hb; clear hb hbox hg; have hnb20 := NB318_319.out; have hnc20 := NB319_318.out; obtain ⟨_, _, _, _, _, _⟩ := zc3 BK318) | ((with_reducible refine gate_callee (f := 47) rfl ?_); refine zG (some 7) Try.func47 #[.agg #[.int .i64 a0_0, .int .i64 a0_1, .int .i64 a0_2]] ?_; (with_reducible refine (impl_isClue.calls k a0_0 a0_1 a0_2 true _ A3.out).mono ?_); rintro e w22 ⟨rfl, hb⟩; refine ⟨_, rfl, ?_⟩; replace BK318 := zb BK318 hb; replace BK319 := zb BK319 hb; replace HB := zh HB hb; clear hb; obtain ⟨_, _, _, _, _, _⟩ := zc3 BK319) | (go_at_call 37; (with_reducible refine (impl_areHidden.calls a1_0 a1_1 a1_2 false _ A5.out).mono ?_); rintro e w24 ⟨rfl, hb⟩; replace BK318 := zb BK318 hb; replace BK319 := zb BK319 hb; replace HB := zh HB hb; clear hb))
   go_ret2
   exact ⟨zt, zy HB⟩
 ·replace c4 := Bool.eq_false_iff.mpr c4
  subst c4; rw [if_neg (show ¬ (false = true) by decide)] at H; simp only [Option.some.injEq, Prod.mk.injEq] at H; obtain ⟨rfl, rfl⟩ := H
  go_enter Try.func10, Try.ntmps10
  go_wp2_with (first | ((with_reducible refine gate_dst (N := 2) rfl ?_); refine zE 2 #[.int .i64 a0_0, .int .i64 a0_1, .int .i64 a0_2] 39 ?_; intro gb318 hg w25 hbox hb; have BK318 := Aside0.mk (hbox); have GW318 := zg HB hg; have GE318 := GW318; replace HB := zh HB hb; clear hb hbox hg) | ((with_reducible refine gate_dst (N := 3) rfl ?_); refine zE 3 #[.int .i64 a1_0, .int .i64 a1_1, .int .i64 a1_2] 25 ?_; intro gb319 hg w26 hbox hb; have BK319 := Aside0.mk (hbox); have GW319 := zg HB hg; have GE319 := GW319; have NB318_319 := zl BK318 hg; have NB319_318 := zr BK318 hg; replace BK318 := zb BK318 hb; replace HB := zh HB hb; clear hb hbox hg; have hnb27 := NB318_319.out; have hnc27 := NB319_318.out; obtain ⟨_, _, _, _, _, _⟩ := zc3 BK318) | ((with_reducible refine gate_callee (f := 47) rfl ?_); refine zG (some 7) Try.func47 #[.agg #[.int .i64 a0_0, .int .i64 a0_1, .int .i64 a0_2]] ?_; (with_reducible refine (impl_isClue.calls k a0_0 a0_1 a0_2 false _ A3.out).mono ?_); rintro e w29 ⟨rfl, hb⟩; refine ⟨_, rfl, ?_⟩; replace BK318 := zb BK318 hb; replace BK319 := zb BK319 hb; replace HB := zh HB hb; clear hb))
  go_ret2
  exact ⟨zt, zy HB⟩


/-! ### impl_SquaresOf: function 49 -/
def impl_SquaresOf.f (a0_0 : Int) (a0_1 : Int) (a0_2 : Int) : Option (Int × Int × Bool) := (impl_AreLadders.f a0_0 a0_1 a0_2).bind fun t324 => (if t324 = true then (some (wrap64 ((wrap64 (a0_0 * a0_0)) + (wrap64 (a0_1 * a0_1))), wrap64 ((wrap64 (a0_0 * a0_0)) + (wrap64 (a0_2 * a0_2))), true)) else (some (0, 0, false)))
set_option maxHeartbeats 8000000 in
set_option maxRecDepth 100000 in
theorem impl_SquaresOf.calls (a0_0 : Int) (a0_1 : Int) (a0_2 : Int) (r1 : Int) (r2 : Int) (r3 : Bool) (w : World) (h : impl_SquaresOf.f a0_0 a0_1 a0_2 = some (r1, r2, r3)) :
  Calls Try.prog 49 #[.agg #[.int .i64 a0_0, .int .i64 a0_1, .int .i64 a0_2]] w fun e w' => e = .returned (.tuple #[.int .i64 r1, .int .i64 r2, .bool r3]) ∧ Below w.heap.size w w' := by
 have hu25 := Try.underlying25
 have HB := Aside0.mk (Below.refl w.heap.size w)
 have H : ((impl_AreLadders.f a0_0 a0_1 a0_2).bind fun t324 => (if t324 = true then (some (wrap64 ((wrap64 (a0_0 * a0_0)) + (wrap64 (a0_1 * a0_1))), wrap64 ((wrap64 (a0_0 * a0_0)) + (wrap64 (a0_2 * a0_2))), true)) else (some (0, 0, false)))) = some (r1, r2, r3) := h
 clear h; replace H := Option.bind_eq_some_iff.mp H; obtain ⟨t324, A20, H⟩ := H; (try dsimp only at H); have A2 := Aside0.mk A20; clear A20
 by_cases c3 : t324 = true
 ·subst c3
  rw [if_pos rfl] at H; simp only [Option.some.injEq, Prod.mk.injEq] at H; obtain ⟨rfl, rfl, rfl⟩ := H
  go_enter Try.func49, Try.ntmps49
  go_wp2_with (first | ((with_reducible refine gate_dst (N := 1) rfl ?_); refine zE 1 #[.int .i64 a0_0, .int .i64 a0_1, .int .i64 a0_2] 25 ?_; intro gb323 hg w4 hbox hb; have BK323 := Aside0.mk (hbox); have GW323 := zg HB hg; have GE323 := GW323; replace HB := zh HB hb; clear hb hbox hg; obtain ⟨_, _, _, _, _, _⟩ := zc3 BK323) | (go_at_call 45; (with_reducible refine (impl_AreLadders.calls a0_0 a0_1 a0_2 true _ A2.out).mono ?_); rintro e w6 ⟨rfl, hb⟩; replace BK323 := zb BK323 hb; replace HB := zh HB hb; clear hb; obtain ⟨_, _, _, _, _, _⟩ := zc3 BK323))
  repeat (go_quiet (first | ((with_reducible refine gate_dst (N := 1) rfl ?_); refine zE 1 #[.int .i64 a0_0, .int .i64 a0_1, .int .i64 a0_2] 25 ?_; intro gb323 hg w4 hbox hb; have BK323 := Aside0.mk (hbox); have GW323 := zg HB hg; have GE323 := GW323; replace HB := zh HB hb; clear hb hbox hg; obtain ⟨_, _, _, _, _, _⟩ := zc3 BK323) | (go_at_call 45; (with_reducible refine (impl_AreLadders.calls a0_0 a0_1 a0_2 true _ A2.out).mono ?_); rintro e w6 ⟨rfl, hb⟩; replace BK323 := zb BK323 hb; replace HB := zh HB hb; clear hb; obtain ⟨_, _, _, _, _, _⟩ := zc3 BK323)); try go_wp2_with (first | ((with_reducible refine gate_dst (N := 1) rfl ?_); refine zE 1 #[.int .i64 a0_0, .int .i64 a0_1, .int .i64 a0_2] 25 ?_; intro gb323 hg w4 hbox hb; have BK323 := Aside0.mk (hbox); have GW323 := zg HB hg; have GE323 := GW323; replace HB := zh HB hb; clear hb hbox hg; obtain ⟨_, _, _, _, _, _⟩ := zc3 BK323) | (go_at_call 45; (with_reducible refine (impl_AreLadders.calls a0_0 a0_1 a0_2 true _ A2.out).mono ?_); rintro e w6 ⟨rfl, hb⟩; replace BK323 := zb BK323 hb; replace HB := zh HB hb; clear hb; obtain ⟨_, _, _, _, _, _⟩ := zc3 BK323)))
  go_ret3
  exact ⟨zt, zy HB⟩
 ·replace c3 := Bool.eq_false_iff.mpr c3
  subst c3; rw [if_neg (show ¬ (false = true) by decide)] at H; simp only [Option.some.injEq, Prod.mk.injEq] at H; obtain ⟨rfl, rfl, rfl⟩ := H
  go_enter Try.func49, Try.ntmps49
  go_wp2_with (first | ((with_reducible refine gate_dst (N := 1) rfl ?_); refine zE 1 #[.int .i64 a0_0, .int .i64 a0_1, .int .i64 a0_2] 25 ?_; intro gb323 hg w8 hbox hb; have BK323 := Aside0.mk (hbox); have GW323 := zg HB hg; have GE323 := GW323; replace HB := zh HB hb; clear hb hbox hg; obtain ⟨_, _, _, _, _, _⟩ := zc3 BK323) | (go_at_call 45; (with_reducible refine (impl_AreLadders.calls a0_0 a0_1 a0_2 false _ A2.out).mono ?_); rintro e w10 ⟨rfl, hb⟩; replace BK323 := zb BK323 hb; replace HB := zh HB hb; clear hb))
  repeat (go_quiet (first | ((with_reducible refine gate_dst (N := 1) rfl ?_); refine zE 1 #[.int .i64 a0_0, .int .i64 a0_1, .int .i64 a0_2] 25 ?_; intro gb323 hg w8 hbox hb; have BK323 := Aside0.mk (hbox); have GW323 := zg HB hg; have GE323 := GW323; replace HB := zh HB hb; clear hb hbox hg; obtain ⟨_, _, _, _, _, _⟩ := zc3 BK323) | (go_at_call 45; (with_reducible refine (impl_AreLadders.calls a0_0 a0_1 a0_2 false _ A2.out).mono ?_); rintro e w10 ⟨rfl, hb⟩; replace BK323 := zb BK323 hb; replace HB := zh HB hb; clear hb)); try go_wp2_with (first | ((with_reducible refine gate_dst (N := 1) rfl ?_); refine zE 1 #[.int .i64 a0_0, .int .i64 a0_1, .int .i64 a0_2] 25 ?_; intro gb323 hg w8 hbox hb; have BK323 := Aside0.mk (hbox); have GW323 := zg HB hg; have GE323 := GW323; replace HB := zh HB hb; clear hb hbox hg; obtain ⟨_, _, _, _, _, _⟩ := zc3 BK323) | (go_at_call 45; (with_reducible refine (impl_AreLadders.calls a0_0 a0_1 a0_2 false _ A2.out).mono ?_); rintro e w10 ⟨rfl, hb⟩; replace BK323 := zb BK323 hb; replace HB := zh HB hb; clear hb)))
  go_ret3
  exact ⟨zt, zy HB⟩


/-! ### impl_LengthsOf: function 12 -/
def impl_LengthsOf.f (k : Nat) (a0_0 : Int) (a0_1 : Int) (a0_2 : Int) : Option (Int × Int × Bool) := (impl_SquaresOf.f a0_0 a0_1 a0_2).bind fun bt326 => ((impl_rootOf.f k bt326.1).bind fun bt329 => ((impl_rootOf.f k bt326.2.1).bind fun bt331 => (if bt326.2.2 = true then (if bt329.2 = true then (if bt331.2 = true then (some (bt329.1, bt331.1, true)) else (some (0, 0, false))) else (some (0, 0, false))) else (some (0, 0, false)))))
set_option maxHeartbeats 8000000 in
set_option maxRecDepth 100000 in
theorem impl_LengthsOf.calls (k : Nat) (a0_0 : Int) (a0_1 : Int) (a0_2 : Int) (r1 : Int) (r2 : Int) (r3 : Bool) (w : World) (h : impl_LengthsOf.f k a0_0 a0_1 a0_2 = some (r1, r2, r3)) :
  Calls Try.prog 12 #[.agg #[.int .i64 a0_0, .int .i64 a0_1, .int .i64 a0_2]] w fun e w' => e = .returned (.tuple #[.int .i64 r1, .int .i64 r2, .bool r3]) ∧ Below w.heap.size w w' := by
 have hu25 := Try.underlying25
 have HB := Aside0.mk (Below.refl w.heap.size w)
 have H : ((impl_SquaresOf.f a0_0 a0_1 a0_2).bind fun bt326 => ((impl_rootOf.f k bt326.1).bind fun bt329 => ((impl_rootOf.f k bt326.2.1).bind fun bt331 => (if bt326.2.2 = true then (if bt329.2 = true then (if bt331.2 = true then (some (bt329.1, bt331.1, true)) else (some (0, 0, false))) else (some (0, 0, false))) else (some (0, 0, false)))))) = some (r1, r2, r3) := h
 clear h; replace H := Option.bind_eq_some_iff.mp H; obtain ⟨⟨t326, t327, t328⟩, A20, H⟩ := H; (try dsimp only at H); have A2 := Aside0.mk A20; clear A20; replace H := Option.bind_eq_some_iff.mp H; obtain ⟨⟨t329, t330⟩, A30, H⟩ := H; (try dsimp only at H); have A3 := Aside0.mk A30; clear A30; replace H := Option.bind_eq_some_iff.mp H; obtain ⟨⟨t331, t332⟩, A40, H⟩ := H; (try dsimp only at H); have A4 := Aside0.mk A40; clear A40
 by_cases c5 : t328 = true
 ·subst c5
  rw [if_pos rfl] at H
  by_cases c6 : t330 = true
  ·subst c6
   rw [if_pos rfl] at H
   by_cases c7 : t332 = true
   ·subst c7
    rw [if_pos rfl] at H; simp only [Option.some.injEq, Prod.mk.injEq] at H; obtain ⟨rfl, rfl, rfl⟩ := H
    go_enter Try.func12, Try.ntmps12
    go_wp2_with (first | ((with_reducible refine gate_dst (N := 1) rfl ?_); refine zE 1 #[.int .i64 a0_0, .int .i64 a0_1, .int .i64 a0_2] 25 ?_; intro gb325 hg w8 hbox hb; have BK325 := Aside0.mk (hbox); have GW325 := zg HB hg; have GE325 := GW325; replace HB := zh HB hb; clear hb hbox hg; obtain ⟨_, _, _, _, _, _⟩ := zc3 BK325) | ((with_reducible refine gate_callee (f := 49) rfl ?_); refine zG (some 14) Try.func49 #[.agg #[.int .i64 a0_0, .int .i64 a0_1, .int .i64 a0_2]] ?_; (with_reducible refine (impl_SquaresOf.calls a0_0 a0_1 a0_2 t326 t327 true _ A2.out).mono ?_); rintro e w10 ⟨rfl, hb⟩; refine ⟨_, rfl, ?_⟩; replace BK325 := zb BK325 hb; replace HB := zh HB hb; clear hb) | ((with_reducible refine gate_callee (f := 50) rfl ?_); refine zG (some 20) Try.func50 #[.int .i64 t326] ?_; (with_reducible refine (impl_rootOf.calls k t326 t329 true _ A3.out).mono ?_); rintro e w' ⟨rfl, ⟨nd, rfl⟩⟩; refine ⟨_, rfl, ?_⟩) | ((with_reducible refine gate_callee (f := 50) rfl ?_); refine zG (some 25) Try.func50 #[.int .i64 t327] ?_; (with_reducible refine (impl_rootOf.calls k t327 t331 true _ A4.out).mono ?_); rintro e w' ⟨rfl, ⟨nd, rfl⟩⟩; refine ⟨_, rfl, ?_⟩))
    go_ret3
    exact ⟨zt, zy HB⟩
   ·replace c7 := Bool.eq_false_iff.mpr c7
    subst c7; rw [if_neg (show ¬ (false = true) by decide)] at H; simp only [Option.some.injEq, Prod.mk.injEq] at H; obtain ⟨rfl, rfl, rfl⟩ := H
    go_enter Try.func12, Try.ntmps12
    go_wp2_with (first | ((with_reducible refine gate_dst (N := 1) rfl ?_); refine zE 1 #[.int .i64 a0_0, .int .i64 a0_1, .int .i64 a0_2] 25 ?_; intro gb325 hg w11 hbox hb; have BK325 := Aside0.mk (hbox); have GW325 := zg HB hg; have GE325 := GW325; replace HB := zh HB hb; clear hb hbox hg; obtain ⟨_, _, _, _, _, _⟩ := zc3 BK325) | ((with_reducible refine gate_callee (f := 49) rfl ?_); refine zG (some 14) Try.func49 #[.agg #[.int .i64 a0_0, .int .i64 a0_1, .int .i64 a0_2]] ?_; (with_reducible refine (impl_SquaresOf.calls a0_0 a0_1 a0_2 t326 t327 true _ A2.out).mono ?_); rintro e w13 ⟨rfl, hb⟩; refine ⟨_, rfl, ?_⟩; replace BK325 := zb BK325 hb; replace HB := zh HB hb; clear hb) | ((with_reducible refine gate_callee (f := 50) rfl ?_); refine zG (some 20) Try.func50 #[.int .i64 t326] ?_; (with_reducible refine (impl_rootOf.calls k t326 t329 true _ A3.out).mono ?_); rintro e w' ⟨rfl, ⟨nd, rfl⟩⟩; refine ⟨_, rfl, ?_⟩) | ((with_reducible refine gate_callee (f := 50) rfl ?_); refine zG (some 25) Try.func50 #[.int .i64 t327] ?_; (with_reducible refine (impl_rootOf.calls k t327 t331 false _ A4.out).mono ?_); rintro e w' ⟨rfl, ⟨nd, rfl⟩⟩; refine ⟨_, rfl, ?_⟩))
    go_ret3
    exact ⟨zt, zy HB⟩
  ·replace c6 := Bool.eq_false_iff.mpr c6
   subst c6; rw [if_neg (show ¬ (false = true) by decide)] at H; simp only [Option.some.injEq, Prod.mk.injEq] at H; obtain ⟨rfl, rfl, rfl⟩ := H
   go_enter Try.func12, Try.ntmps12
   go_wp2_with (first | ((with_reducible refine gate_dst (N := 1) rfl ?_); refine zE 1 #[.int .i64 a0_0, .int .i64 a0_1, .int .i64 a0_2] 25 ?_; intro gb325 hg w14 hbox hb; have BK325 := Aside0.mk (hbox); have GW325 := zg HB hg; have GE325 := GW325; replace HB := zh HB hb; clear hb hbox hg; obtain ⟨_, _, _, _, _, _⟩ := zc3 BK325) | ((with_reducible refine gate_callee (f := 49) rfl ?_); refine zG (some 14) Try.func49 #[.agg #[.int .i64 a0_0, .int .i64 a0_1, .int .i64 a0_2]] ?_; (with_reducible refine (impl_SquaresOf.calls a0_0 a0_1 a0_2 t326 t327 true _ A2.out).mono ?_); rintro e w16 ⟨rfl, hb⟩; refine ⟨_, rfl, ?_⟩; replace BK325 := zb BK325 hb; replace HB := zh HB hb; clear hb) | ((with_reducible refine gate_callee (f := 50) rfl ?_); refine zG (some 20) Try.func50 #[.int .i64 t326] ?_; (with_reducible refine (impl_rootOf.calls k t326 t329 false _ A3.out).mono ?_); rintro e w' ⟨rfl, ⟨nd, rfl⟩⟩; refine ⟨_, rfl, ?_⟩) | ((with_reducible refine gate_callee (f := 50) rfl ?_); refine zG (some 25) Try.func50 #[.int .i64 t327] ?_; (with_reducible refine (impl_rootOf.calls k t327 t331 t332 _ A4.out).mono ?_); rintro e w' ⟨rfl, ⟨nd, rfl⟩⟩; refine ⟨_, rfl, ?_⟩))
   go_ret3
   exact ⟨zt, zy HB⟩
 ·replace c5 := Bool.eq_false_iff.mpr c5
  subst c5; rw [if_neg (show ¬ (false = true) by decide)] at H; simp only [Option.some.injEq, Prod.mk.injEq] at H; obtain ⟨rfl, rfl, rfl⟩ := H
  go_enter Try.func12, Try.ntmps12
  go_wp2_with (first | ((with_reducible refine gate_dst (N := 1) rfl ?_); refine zE 1 #[.int .i64 a0_0, .int .i64 a0_1, .int .i64 a0_2] 25 ?_; intro gb325 hg w17 hbox hb; have BK325 := Aside0.mk (hbox); have GW325 := zg HB hg; have GE325 := GW325; replace HB := zh HB hb; clear hb hbox hg; obtain ⟨_, _, _, _, _, _⟩ := zc3 BK325) | ((with_reducible refine gate_callee (f := 49) rfl ?_); refine zG (some 14) Try.func49 #[.agg #[.int .i64 a0_0, .int .i64 a0_1, .int .i64 a0_2]] ?_; (with_reducible refine (impl_SquaresOf.calls a0_0 a0_1 a0_2 t326 t327 false _ A2.out).mono ?_); rintro e w19 ⟨rfl, hb⟩; refine ⟨_, rfl, ?_⟩; replace BK325 := zb BK325 hb; replace HB := zh HB hb; clear hb) | ((with_reducible refine gate_callee (f := 50) rfl ?_); refine zG (some 20) Try.func50 #[.int .i64 t326] ?_; (with_reducible refine (impl_rootOf.calls k t326 t329 t330 _ A3.out).mono ?_); rintro e w' ⟨rfl, ⟨nd, rfl⟩⟩; refine ⟨_, rfl, ?_⟩) | ((with_reducible refine gate_callee (f := 50) rfl ?_); refine zG (some 25) Try.func50 #[.int .i64 t327] ?_; (with_reducible refine (impl_rootOf.calls k t327 t331 t332 _ A4.out).mono ?_); rintro e w' ⟨rfl, ⟨nd, rfl⟩⟩; refine ⟨_, rfl, ?_⟩))
  go_ret3
  exact ⟨zt, zy HB⟩


/-! ### impl_Clue_74: function 74 -/
def cIdx (p : S39 → Option Bool) : List S39 → Nat → Option Int
 | [], _ => some (-1)
 | x :: l, i => (p x).bind fun b => if b = true then some (i : Int) else cIdx p l (i + 1)
def cAny (p : S39 → Option Bool) : List S39 → Option Bool
 | [] => some false
 | x :: l => (p x).bind fun b => if b = true then some true else cAny p l
theorem cAny_idx (p : S39 → Option Bool) : ∀ (l : List S39) (i : Nat) (r : Bool), cAny p l = some r → ∃ z, cIdx p l i = some z ∧ decide (z ≥ 0) = r
 | [], i, r, h => ⟨-1, rfl, by simp only [cAny] at h; rw [← Option.some.inj h]; rfl⟩
 | x :: l, i, r, h => by
  simp only [cAny] at h
  obtain ⟨b, hb, h⟩ := Option.bind_eq_some_iff.1 h
  cases b with
  | true => exact ⟨(i : Int), by simp [cIdx, hb], by rw [if_pos rfl] at h; rw [← Option.some.inj h]; exact decide_eq_true (by omega)⟩
  | false =>
   rw [if_neg (by simp)] at h
   obtain ⟨z, h1, h2⟩ := cAny_idx p l (i + 1) r h
   exact ⟨z, by simp [cIdx, hb, h1], h2⟩
theorem cAny_mono {p q : S39 → Option Bool} (h : ∀ x, LeO (p x) (q x)) : ∀ l, LeO (cAny p l) (cAny q l)
 | [] => LeO.refl _
 | x :: l => LeO.bind (h x) (fun b => LeO.ite (LeO.refl _) (cAny_mono h l))
theorem cIdx_drop (p : S39 → Option Bool) (l : List S39) (i : Nat) (h : i < l.length) : cIdx p (l.drop i) i = (p (rd_T39 l i)).bind fun b => if b = true then some (i : Int) else cIdx p (l.drop (i + 1)) (i + 1) := by
 rw [List.drop_eq_getElem_cons h]
 simp [cIdx, rd_T39, List.getD_eq_getElem?_getD, List.getElem?_eq_getElem h]
/-- The function value (function g, what it captured) answers as p does, in every later world, and changes nothing that lay. -/
def cGives (w : World) (g : Nat) (lb : Array Value) (p : S39 → Option Bool) : Prop := ∀ (x : S39) (b : Bool) (W : World), p x = some b → Below w.heap.size w W → Calls Try.prog g (#[.agg #[.int .i64 x.f0, .int .i64 x.f1, .int .i64 x.f2]] ++ lb) W fun e w' => e = .returned (.bool b) ∧ Below W.heap.size W w'

set_option maxHeartbeats 8000000 in
theorem cIndexFunc (g : Nat) (lb : Array Value) (p : S39 → Option Bool) (eg : ∀ args w, (callFunc g args).run Try.prog w = .ok (.enter g args) w) (A0 : Option Addr) (c0 : Nat) (l0 : List S39) (z : Int) (w : World) (hp : cGives w g lb p) (hr0 : Kd.C k39 w A0 l0.length l0) (hc0 : l0.length ≤ c0) (h : cIdx p l0 0 = some z) :
  Calls Try.prog 74 #[.slice A0 l0.length c0, .func (.func g) #[] lb] w fun e w' => e = .returned (.int .i64 z) ∧ Below w.heap.size w w' := by
 have hu := Try.underlying39
 have hm : l0.length ≤ 9223372036854775807 := Kd.C_max hr0
 have HR0 := Aside0.mk hr0; have HC0 := Aside0.mk hc0; have HP := Aside0.mk hp; clear hr0 hc0 hp
 have hE := Aside0.mk (show cIdx p (l0.drop 0) 0 = some z by simpa using h)
 clear h
 have HB := Aside0.mk (Below.refl w.heap.size w)
 go_enter Try.func74, Try.ntmps74
 go_wp2
 go_loopg [5, 8] l0.length (fun gk v5 v8 w' => ∃ i : Nat, v8 = .int .i64 i ∧ i ≤ l0.length ∧ l0.length - i ≤ gk ∧ Aside0 (cIdx p (l0.drop i) i = some z) ∧ Aside0 (Below w.heap.size w w'))
 case atStart => exact ⟨0, rfl, by omega, by omega, hE, ⟨by repeat (first | (with_reducible first | exact HB.out | apply below_alloc | apply pw_below_drewN | apply below_drew1) | exact HB.out)⟩⟩
 case round =>
  clear hE HB
  obtain ⟨i, rfl, hi, hgk, HE, HB⟩ := hrel
  by_cases hlt : i < l0.length
  ·have hx := HE.out
   rw [cIdx_drop p l0 i hlt] at hx
   obtain ⟨b, hb, hx⟩ := Option.bind_eq_some_iff.1 hx
   clear HE
   have p101 : 0 ≤ (i : Int) := by omega
   have q101 : (i : Int) < (l0.length : Int) := by omega
   obtain ⟨ad, e, hx0, hx1, hx2⟩ := at_T39 HR0.out i p101 q101
   cases e
   rw [Int.toNat_natCast] at hx0 hx1 hx2
   replace hx0 := (HB.out.cell (World.block_lt_of_cell? w _ hx0)).trans hx0
   replace hx1 := (HB.out.cell (World.block_lt_of_cell? w _ hx1)).trans hx1
   replace hx2 := (HB.out.cell (World.block_lt_of_cell? w _ hx2)).trans hx2
   have hcall := fun W hW => HP.out (rd_T39 l0 i) b W hb hW
   generalize hy : rd_T39 l0 i = y at hcall hx hx0 hx1 hx2
   clear hy hb
   cases b with
   | true =>
    rw [if_pos rfl] at hx
    have HX := Aside0.mk (Option.some.inj hx)
    clear hx
    go_wp2_with (go_at_fn g; refine (hcall _ zO1_1).mono ?_; rintro e w' ⟨rfl, hb'⟩; have n0_ := Aside0.mk (below_step zO1_1 hb'); clear HB hb'; have HB := n0_; clear n0_)
    go_ret
    exact ⟨by rw [← HX.out]; rfl, by repeat (first | (with_reducible first | exact HB.out | apply below_alloc | apply pw_below_drewN | apply below_drew1) | exact HB.out)⟩
   | false =>
    rw [if_neg (by simp)] at hx
    have HX := Aside0.mk hx; clear hx
    go_wp2_with (go_at_fn g; refine (hcall _ zO1_1).mono ?_; rintro e w' ⟨rfl, hb'⟩; have n0_ := Aside0.mk (below_step zO1_1 hb'); clear HB hb'; have HB := n0_; clear n0_)
    go_roundg (l0.length - (i + 1))
    case measure => omega
    case rel => exact ⟨i + 1, by go_num, by omega, by omega, HX, ⟨by repeat (first | (with_reducible first | exact HB.out | apply below_alloc | apply pw_below_drewN | apply below_drew1) | exact HB.out)⟩⟩
  ·have hltz : ¬ (i : Int) < (l0.length : Int) := by omega
   have hi' : i = l0.length := by omega
   have HX := Aside0.mk (Option.some.inj ((show cIdx p (l0.drop i) i = some (-1) by rw [hi', List.drop_length]; rfl).symm.trans HE.out))
   clear hi'
   go_wp2
   go_ret
   exact ⟨by rw [← HX.out]; rfl, by repeat (first | (with_reducible first | exact HB.out | apply below_alloc | apply pw_below_drewN | apply below_drew1) | exact HB.out)⟩



/-! ### impl_Clue_52: function 52 -/
set_option maxHeartbeats 8000000 in
theorem cContainsFunc (g : Nat) (lb : Array Value) (p : S39 → Option Bool) (eg : ∀ args w, (callFunc g args).run Try.prog w = .ok (.enter g args) w) (A0 : Option Addr) (c0 : Nat) (l0 : List S39) (r : Bool) (w : World) (hp : cGives w g lb p) (hr0 : Kd.C k39 w A0 l0.length l0) (hc0 : l0.length ≤ c0) (h : cAny p l0 = some r) :
  Calls Try.prog 52 #[.slice A0 l0.length c0, .func (.func g) #[] lb] w fun e w' => e = .returned (.bool r) ∧ Below w.heap.size w w' := by
 obtain ⟨z, hz, hr⟩ := cAny_idx p l0 0 r h
 have HR := Aside0.mk hr; clear hr
 have hq := cIndexFunc g lb p eg A0 c0 l0 z w hp hr0 hc0 hz
 go_enter Try.func52, Try.ntmps52
 go_wp2_with (go_at_call 74; refine hq.mono ?_; rintro e w' ⟨rfl, hb⟩; have HB := Aside0.mk hb; clear hb)
 go_ret
 exact ⟨by rw [← HR.out]; rfl, by repeat (first | (with_reducible first | exact HB.out | apply below_alloc | apply pw_below_drewN | apply below_drew1) | exact HB.out)⟩



/-! ### impl_IsPuzzle_1: function 53 -/
def impl_IsPuzzle_1.f (k : Nat) (a0_0 : Int) (a0_1 : Int) (a0_2 : Int) : Option (Bool) := (impl_isClue.f k a0_0 a0_1 a0_2).bind fun t334 => (some (!t334))
set_option maxHeartbeats 8000000 in
set_option maxRecDepth 100000 in
theorem impl_IsPuzzle_1.calls (k : Nat) (a0_0 : Int) (a0_1 : Int) (a0_2 : Int) (r : Bool) (w : World) (h : impl_IsPuzzle_1.f k a0_0 a0_1 a0_2 = some r) :
  Calls Try.prog 53 #[.agg #[.int .i64 a0_0, .int .i64 a0_1, .int .i64 a0_2]] w fun e w' => e = .returned (.bool r) ∧ Below w.heap.size w w' := by
 have hu39 := Try.underlying39
 have HB := Aside0.mk (Below.refl w.heap.size w)
 have H : ((impl_isClue.f k a0_0 a0_1 a0_2).bind fun t334 => (some (!t334))) = some r := h
 clear h; replace H := Option.bind_eq_some_iff.mp H; obtain ⟨t334, A20, H⟩ := H
 replace H : (some (!t334)) = some r := H
 have A2 := Aside0.mk A20; clear A20
 obtain rfl := Option.some.inj H
 go_enter Try.func53, Try.ntmps53
 go_wp2_with (first | ((with_reducible refine gate_dst (N := 1) rfl ?_); refine zE 1 #[.int .i64 a0_0, .int .i64 a0_1, .int .i64 a0_2] 39 ?_; intro gb333 hg w3 hbox hb; have BK333 := Aside0.mk (hbox); have GW333 := zg HB hg; have GE333 := GW333; replace HB := zh HB hb; clear hb hbox hg; obtain ⟨_, _, _, _, _, _⟩ := zc3 BK333) | ((with_reducible refine gate_callee (f := 47) rfl ?_); refine zG (some 4) Try.func47 #[.agg #[.int .i64 a0_0, .int .i64 a0_1, .int .i64 a0_2]] ?_; (with_reducible refine (impl_isClue.calls k a0_0 a0_1 a0_2 t334 _ A2.out).mono ?_); rintro e w5 ⟨rfl, hb⟩; refine ⟨_, rfl, ?_⟩; replace BK333 := zb BK333 hb; replace HB := zh HB hb; clear hb))
 go_ret
 exact ⟨zt, zy HB⟩


/-! ### anyIsPuzzle: function 0 -/
def anyIsPuzzle.f (k : Nat) (l : List S39) : Option Bool := cAny (fun x => impl_IsPuzzle_1.f k x.f0 x.f1 x.f2) l
theorem anyIsPuzzle.calls (k : Nat) (A0 : Option Addr) (c0 : Nat) (l0 : List S39) (r : Bool) (w : World) (hr0 : Kd.C k39 w A0 l0.length l0) (hc0 : l0.length ≤ c0) (h : anyIsPuzzle.f k l0 = some r) :
  Calls Try.prog 52 #[.slice A0 l0.length c0, .func (.func 53) #[] #[]] w fun e w' => e = .returned (.bool r) ∧ Below w.heap.size w w' :=
 cContainsFunc 53 #[] _ (enters_of Try.func53 (by kernel_rfl) rfl) A0 c0 l0 r w (fun x b W hb _ => (impl_IsPuzzle_1.calls k x.f0 x.f1 x.f2 b W hb).mono fun _ _ h => h) hr0 hc0 h



/-! ### impl_IsPuzzle: function 13 -/
def impl_IsPuzzle.f (k : Nat) (a0_0 : Int) (l0_1 : List (S39)) : Option (Bool) := (impl_isSmall.f a0_0).bind fun t336 => (if t336 = true then (if (l0_1.length : Int) ≤ 6 then ((anyIsPuzzle.f k l0_1).bind fun t337 => (some (!t337))) else (some false)) else (some false))
set_option maxHeartbeats 8000000 in
set_option maxRecDepth 100000 in
theorem impl_IsPuzzle.calls (k : Nat) (a0_0 : Int) (A0_1 : Option Addr) (c0_1 : Nat) (l0_1 : List (S39)) (r : Bool) (w : World) (hr0_1 : Kd.C k39 w A0_1 l0_1.length l0_1) (hc0_1 : l0_1.length ≤ c0_1) (h : impl_IsPuzzle.f k a0_0 l0_1 = some r) :
  Calls Try.prog 13 #[.agg #[.int .i64 a0_0, .slice A0_1 l0_1.length c0_1]] w fun e w' => e = .returned (.bool r) ∧ Below w.heap.size w w' := by
 have hu30 := Try.underlying30; have HR0_1 := Aside0.mk hr0_1; have HC0_1 := Aside0.mk hc0_1; clear hr0_1 hc0_1
 have HB := Aside0.mk (Below.refl w.heap.size w)
 have H : ((impl_isSmall.f a0_0).bind fun t336 => (if t336 = true then (if (l0_1.length : Int) ≤ 6 then ((anyIsPuzzle.f k l0_1).bind fun t337 => (some (!t337))) else (some false)) else (some false))) = some r := h
 clear h; replace H := Option.bind_eq_some_iff.mp H; obtain ⟨t336, A20, H⟩ := H
 replace H : (if t336 = true then (if (l0_1.length : Int) ≤ 6 then ((anyIsPuzzle.f k l0_1).bind fun t337 => (some (!t337))) else (some false)) else (some false)) = some r := H
 have A2 := Aside0.mk A20; clear A20
 by_cases c3 : t336 = true
 ·subst c3
  rw [if_pos rfl] at H
  by_cases c4 : (l0_1.length : Int) ≤ 6
  ·rw [if_pos c4] at H
   have c4b0 : decide ((l0_1.length : Int) ≤ 6) = true := decide_eq_true c4
   have c4b1 : decide (l0_1.length ≤ 6) = true := decide_eq_true (by omega)
   clear c4; replace H := Option.bind_eq_some_iff.mp H; obtain ⟨t337, A50, H⟩ := H
   replace H : (some (!t337)) = some r := H
   have A5 := Aside0.mk A50; clear A50
   obtain rfl := Option.some.inj H
   go_enter Try.func13, Try.ntmps13
   go_wp2_with (first | ((with_reducible refine gate_dst (N := 1) rfl ?_); (try (refine gate_guard (by rfl) ?_; dsimp only)); refine zE 1 #[.int .i64 a0_0, .slice A0_1 l0_1.length c0_1] 30 ?_; intro gb335 hg w6 hbox hb; have BK335 := Aside0.mk (hbox); have GW335 := zg HB hg; have GE335 := GW335; replace HB := zh HB hb; clear hb hbox hg; obtain ⟨_, _, _, _⟩ := zc2 BK335) | ((with_reducible refine gate_callee (f := 51) rfl ?_); refine zG (some 5) Try.func51 #[.int .i64 a0_0] ?_; (with_reducible refine (impl_isSmall.calls a0_0 true _ A2.out).mono ?_); rintro e w' ⟨rfl, ⟨nd, rfl⟩⟩; refine ⟨_, rfl, ?_⟩) | (go_at_call 52; (with_reducible refine (anyIsPuzzle.calls k _ _ l0_1 t337 _ ?side1 ?side2 A5.out).mono ?_); (case side1 => repeat (first | exact (Kd.C_below HR0_1.out (zy HB)) | (with_reducible refine Kd.C_alloc ?_ _) | (with_reducible refine Kd.C_drewN ?_ _) | (with_reducible refine Kd.C_drew ?_))); (case side2 => exact HC0_1.out); rintro e w8 ⟨rfl, hb⟩; replace BK335 := zb BK335 hb; replace HB := zh HB hb; clear hb))
   go_ret
   exact ⟨zt, zy HB⟩
  ·rw [if_neg c4] at H
   have c4b0 : decide ((l0_1.length : Int) ≤ 6) = false := decide_eq_false c4
   have c4b1 : decide (l0_1.length ≤ 6) = false := decide_eq_false (by omega)
   clear c4
   obtain rfl := Option.some.inj H
   go_enter Try.func13, Try.ntmps13
   go_wp2_with (first | ((with_reducible refine gate_dst (N := 1) rfl ?_); (try (refine gate_guard (by rfl) ?_; dsimp only)); refine zE 1 #[.int .i64 a0_0, .slice A0_1 l0_1.length c0_1] 30 ?_; intro gb335 hg w9 hbox hb; have BK335 := Aside0.mk (hbox); have GW335 := zg HB hg; have GE335 := GW335; replace HB := zh HB hb; clear hb hbox hg; obtain ⟨_, _, _, _⟩ := zc2 BK335) | ((with_reducible refine gate_callee (f := 51) rfl ?_); refine zG (some 5) Try.func51 #[.int .i64 a0_0] ?_; (with_reducible refine (impl_isSmall.calls a0_0 true _ A2.out).mono ?_); rintro e w' ⟨rfl, ⟨nd, rfl⟩⟩; refine ⟨_, rfl, ?_⟩))
   go_ret
   exact ⟨zt, zy HB⟩
 ·replace c3 := Bool.eq_false_iff.mpr c3
  subst c3; rw [if_neg (show ¬ (false = true) by decide)] at H
  obtain rfl := Option.some.inj H
  go_enter Try.func13, Try.ntmps13
  go_wp2_with (first | ((with_reducible refine gate_dst (N := 1) rfl ?_); (try (refine gate_guard (by rfl) ?_; dsimp only)); refine zE 1 #[.int .i64 a0_0, .slice A0_1 l0_1.length c0_1] 30 ?_; intro gb335 hg w11 hbox hb; have BK335 := Aside0.mk (hbox); have GW335 := zg HB hg; have GE335 := GW335; replace HB := zh HB hb; clear hb hbox hg; obtain ⟨_, _, _, _⟩ := zc2 BK335) | ((with_reducible refine gate_callee (f := 51) rfl ?_); refine zG (some 5) Try.func51 #[.int .i64 a0_0] ?_; (with_reducible refine (impl_isSmall.calls a0_0 false _ A2.out).mono ?_); rintro e w' ⟨rfl, ⟨nd, rfl⟩⟩; refine ⟨_, rfl, ?_⟩))
  go_ret
  exact ⟨zt, zy HB⟩


/-! ### spec_l1Cur_clue: function 63 -/
mutual
def spec_l1Cur_clue.j1 : Nat → List Int → Int → Int → Int → Int → Int → Option (Int × Int × Int × Int × Int)
 | 0, _, _, _, _, _, _ => none
 | k + 1, x1000, x1001, x1002, x352000, x352001, x352002 => (spec_l1Cur_one.f x1000 x1001 x1002 14).bind fun bt364 => (if bt364.1 = true then ((spec_l1Cur_pick.f x1000 bt364.2.1 bt364.2.2 3).bind fun bt367 => (some (x352000, wrap64 (bt367.1 - 1), x352002, bt367.2.1, bt367.2.2))) else (some (x352000, x352001, x352002, bt364.2.1, bt364.2.2)))
def spec_l1Cur_clue.j0 : Nat → Int → Bool → List Int → Int → Int → Int → Int → Int → Option (Int × Int × Int × Int × Int)
 | 0, _, _, _, _, _, _, _, _ => none
 | k + 1, x18, x24, x1000, x1001, x1002, x352000, x352001, x352002 => if x24 = true then ((spec_l1Cur_pick.f x1000 x1001 x1002 13).bind fun bt355 => (spec_l1Cur_clue.j1 k x1000 bt355.2.1 bt355.2.2 x352000 bt355.1 x352002)) else (if x18 = 3 then ((spec_l1Cur_pick.f x1000 x1001 x1002 3).bind fun bt358 => ((spec_l1Cur_pick.f x1000 bt358.2.1 bt358.2.2 3).bind fun bt361 => (spec_l1Cur_clue.j1 k x1000 bt361.2.1 bt361.2.2 x352000 bt358.1 bt361.1))) else (spec_l1Cur_clue.j1 k x1000 x1001 x1002 x352000 x352001 x352002))
end
def spec_l1Cur_clue.f (k : Nat) (s0_0 : List Int) (s0_1 : Int) (s0_2 : Int) : Option (Int × Int × Int × Int × Int) := (spec_l1Cur_pick.f s0_0 s0_1 s0_2 6).bind fun bt339 => ((spec_l1Cur_pick.f s0_0 bt339.2.1 bt339.2.2 9).bind fun bt342 => ((spec_l1Cur_pick.f s0_0 bt342.2.1 bt342.2.2 13).bind fun bt345 => ((spec_l1Cur_pick.f s0_0 bt345.2.1 bt345.2.2 9).bind fun bt348 => (if (wrap64 (bt339.1 + (wrap64 (Int.tdiv bt342.1 8)))) = 1 then ((spec_l1Cur_pick.f s0_0 bt348.2.1 bt348.2.2 3).bind fun bt352 => (spec_l1Cur_clue.j1 k s0_0 bt352.2.1 bt352.2.2 (wrap64 (bt339.1 + (wrap64 (Int.tdiv bt342.1 8)))) 0 bt352.1)) else (if (wrap64 (bt339.1 + (wrap64 (Int.tdiv bt342.1 8)))) = 2 then (spec_l1Cur_clue.j0 k (wrap64 (bt339.1 + (wrap64 (Int.tdiv bt342.1 8)))) ((wrap64 (bt339.1 + (wrap64 (Int.tdiv bt342.1 8)))) == 2) s0_0 bt348.2.1 bt348.2.2 (wrap64 (bt339.1 + (wrap64 (Int.tdiv bt342.1 8)))) 0 (wrap64 (bt345.1 - (wrap64 (Int.tdiv bt348.1 8))))) else (spec_l1Cur_clue.j0 k (wrap64 (bt339.1 + (wrap64 (Int.tdiv bt342.1 8)))) ((wrap64 (bt339.1 + (wrap64 (Int.tdiv bt342.1 8)))) == 4) s0_0 bt348.2.1 bt348.2.2 (wrap64 (bt339.1 + (wrap64 (Int.tdiv bt342.1 8)))) 0 (wrap64 (bt345.1 - (wrap64 (Int.tdiv bt348.1 8))))))))))
set_option maxHeartbeats 8000000 in
set_option maxRecDepth 100000 in
theorem spec_l1Cur_clue.calls (k : Nat) (g : Nat) (s0_0 : List Int) (s0_1 : Int) (s0_2 : Int) (r1 : Int) (r2 : Int) (r3 : Int) (r4 : Int) (r5 : Int) (w0 w : World) (hI : IsS65 w0 w g s0_0 s0_1 s0_2) (hB : Below w0.heap.size w0 w) (h : spec_l1Cur_clue.f k s0_0 s0_1 s0_2 = some (r1, r2, r3, r4, r5)) :
  Calls Try.prog 63 #[.pointer (some ⟨g, 0, none⟩)] w fun e w' => e = .returned (.agg #[.int .i64 r1, .int .i64 r2, .int .i64 r3]) ∧ IsS65 w0 w' g s0_0 r4 r5 ∧ Below w0.heap.size w0 w' ∧ KeepBut w w' g none := by
 have hu39 := Try.underlying39; have HI0 := Aside0.mk hI
 have HK := Aside0.mk (KeepBut.refl w g none)
 have HL := Aside0.mk hB.size; clear hI; have HW0 := Aside0.mk hB.size; have HB := Aside0.mk hB; clear hB
 have H : ((spec_l1Cur_pick.f s0_0 s0_1 s0_2 6).bind fun bt339 => ((spec_l1Cur_pick.f s0_0 bt339.2.1 bt339.2.2 9).bind fun bt342 => ((spec_l1Cur_pick.f s0_0 bt342.2.1 bt342.2.2 13).bind fun bt345 => ((spec_l1Cur_pick.f s0_0 bt345.2.1 bt345.2.2 9).bind fun bt348 => (if (wrap64 (bt339.1 + (wrap64 (Int.tdiv bt342.1 8)))) = 1 then ((spec_l1Cur_pick.f s0_0 bt348.2.1 bt348.2.2 3).bind fun bt352 => (spec_l1Cur_clue.j1 k s0_0 bt352.2.1 bt352.2.2 (wrap64 (bt339.1 + (wrap64 (Int.tdiv bt342.1 8)))) 0 bt352.1)) else (if (wrap64 (bt339.1 + (wrap64 (Int.tdiv bt342.1 8)))) = 2 then (spec_l1Cur_clue.j0 k (wrap64 (bt339.1 + (wrap64 (Int.tdiv bt342.1 8)))) ((wrap64 (bt339.1 + (wrap64 (Int.tdiv bt342.1 8)))) == 2) s0_0 bt348.2.1 bt348.2.2 (wrap64 (bt339.1 + (wrap64 (Int.tdiv bt342.1 8)))) 0 (wrap64 (bt345.1 - (wrap64 (Int.tdiv bt348.1 8))))) else (spec_l1Cur_clue.j0 k (wrap64 (bt339.1 + (wrap64 (Int.tdiv bt342.1 8)))) ((wrap64 (bt339.1 + (wrap64 (Int.tdiv bt342.1 8)))) == 4) s0_0 bt348.2.1 bt348.2.2 (wrap64 (bt339.1 + (wrap64 (Int.tdiv bt342.1 8)))) 0 (wrap64 (bt345.1 - (wrap64 (Int.tdiv bt348.1 8))))))))))) = some (r1, r2, r3, r4, r5) := h
 clear h; replace H := Option.bind_eq_some_iff.mp H; obtain ⟨⟨t339, t340, t341⟩, A20, H⟩ := H; (try dsimp only at H); have A2 := Aside0.mk A20; clear A20; replace H := Option.bind_eq_some_iff.mp H; obtain ⟨⟨t342, t343, t344⟩, A30, H⟩ := H; (try dsimp only at H); have A3 := Aside0.mk A30; clear A30; replace H := Option.bind_eq_some_iff.mp H; obtain ⟨⟨t345, t346, t347⟩, A40, H⟩ := H; (try dsimp only at H); have A4 := Aside0.mk A40; clear A40; replace H := Option.bind_eq_some_iff.mp H; obtain ⟨⟨t348, t349, t350⟩, A50, H⟩ := H; (try dsimp only at H); have A5 := Aside0.mk A50; clear A50; have HC6 := Aside0.mk H; clear H
 go_enter Try.func63, Try.ntmps63
 go_upto_block 0 with (first | ((with_reducible refine gate_dst (N := 2) rfl ?_); refine zE 2 #[.int .i64 0, .int .i64 0, .int .i64 0] 39 ?_; intro gb338 hg w7 hbox hb; have BK338 := Aside0.mk (hbox); have GW338 := zKg HK hg; have GE338 := Aside0.mk (Nat.le_trans HW0.out GW338.out); have NB0_338 := zL65 HI0 hg; have NB338_0 := zR65 HI0 hg; replace HI0 := zJ65 HI0 hb; replace HK := zKb HK hb; replace HB := zH65 HB hb; clear hb hbox hg) | ((with_reducible refine gate_callee (f := 36) rfl ?_); refine zG (some 5) Try.func36 #[.pointer (some ⟨g, 0, none⟩), .int .i64 6] ?_; (with_reducible refine (spec_l1Cur_pick.calls g s0_0 s0_1 s0_2 6 t339 t340 t341 w0 _ ?side1 ?side2 A2.out).mono ?_); (case side1 => exact zI65 HI0); (case side2 => exact zY65 HB); rintro e w8 ⟨rfl, hi, hb, hk⟩; refine ⟨_, rfl, ?_⟩; replace BK338 := zKB BK338 hk; replace HK := zKt HK hk; replace HB := Aside0.mk hb; replace HI0 := Aside0.mk hi; clear hb hk hi) | ((with_reducible refine gate_callee (f := 36) rfl ?_); refine zG (some 7) Try.func36 #[.pointer (some ⟨g, 0, none⟩), .int .i64 9] ?_; (with_reducible refine (spec_l1Cur_pick.calls g s0_0 t340 t341 9 t342 t343 t344 w0 _ ?side1 ?side2 A3.out).mono ?_); (case side1 => exact zI65 HI0); (case side2 => exact zY65 HB); rintro e w9 ⟨rfl, hi, hb, hk⟩; refine ⟨_, rfl, ?_⟩; replace BK338 := zKB BK338 hk; replace HK := zKt HK hk; replace HB := Aside0.mk hb; replace HI0 := Aside0.mk hi; clear hb hk hi) | ((with_reducible refine gate_callee (f := 36) rfl ?_); refine zG (some 11) Try.func36 #[.pointer (some ⟨g, 0, none⟩), .int .i64 13] ?_; (with_reducible refine (spec_l1Cur_pick.calls g s0_0 t343 t344 13 t345 t346 t347 w0 _ ?side1 ?side2 A4.out).mono ?_); (case side1 => exact zI65 HI0); (case side2 => exact zY65 HB); rintro e w10 ⟨rfl, hi, hb, hk⟩; refine ⟨_, rfl, ?_⟩; replace BK338 := zKB BK338 hk; replace HK := zKt HK hk; replace HB := Aside0.mk hb; replace HI0 := Aside0.mk hi; clear hb hk hi) | ((with_reducible refine gate_callee (f := 36) rfl ?_); refine zG (some 13) Try.func36 #[.pointer (some ⟨g, 0, none⟩), .int .i64 9] ?_; (with_reducible refine (spec_l1Cur_pick.calls g s0_0 t346 t347 9 t348 t349 t350 w0 _ ?side1 ?side2 A5.out).mono ?_); (case side1 => exact zI65 HI0); (case side2 => exact zY65 HB); rintro e w11 ⟨rfl, hi, hb, hk⟩; refine ⟨_, rfl, ?_⟩; replace BK338 := zKB BK338 hk; replace HK := zKt HK hk; replace HB := Aside0.mk hb; replace HI0 := Aside0.mk hi; clear hb hk hi) | ((with_reducible refine gate_dst (N := 3) rfl ?_); refine zE 3 #[.int .i64 0, .int .i64 0, .int .i64 0] 39 ?_; intro gb351 hg w12 hbox hb; have BK351 := Aside0.mk (hbox); have GW351 := zKg HK hg; have GE351 := Aside0.mk (Nat.le_trans HW0.out GW351.out); have NB338_351 := zl BK338 hg; have NB351_338 := zr BK338 hg; have NB0_351 := zL65 HI0 hg; have NB351_0 := zR65 HI0 hg; replace HI0 := zJ65 HI0 hb; replace BK338 := zb BK338 hb; replace HK := zKb HK hb; replace HB := zH65 HB hb; clear hb hbox hg; have hnb13 := NB351_338.out; have hnc13 := NB338_351.out; have hnb14 := NB351_0.out; have hnc14 := NB0_351.out; obtain ⟨_, _, _, _, _, _⟩ := zc3 BK351))
 (try simp only [Act.put, List.setIfInBounds_toArray, List.set_cons_zero, List.set_cons_succ])
 go_cut [] (fun wc => ∃ (kq : Nat) (x1001_5 : Int) (x1002_5 : Int) (x352001_5 : Int) (x352002_5 : Int), Aside0 (spec_l1Cur_clue.j1 kq s0_0 x1001_5 x1002_5 (wrap64 (t339 + (wrap64 (Int.tdiv t342 8)))) x352001_5 x352002_5 = some (r1, r2, r3, r4, r5)) ∧ Aside0 (kq ≤ k) ∧ Aside0 (wc.heap[gb338]? = some (.cells #[.int .i64 0, .int .i64 0, .int .i64 0] 39 (0, 0))) ∧ Aside0 (wc.heap[gb351]? = some (.cells #[.int .i64 (wrap64 (t339 + (wrap64 (Int.tdiv t342 8)))), .int .i64 x352001_5, .int .i64 x352002_5] 39 (0, 0))) ∧ Aside0 (IsS65 w0 wc g s0_0 x1001_5 x1002_5) ∧ Aside0 (KeepBut w wc g none) ∧ Aside0 (Below w0.heap.size w0 wc))
 case first =>
  have H := HC6.out; clear HC6
  by_cases c16 : (wrap64 (t339 + (wrap64 (Int.tdiv t342 8)))) = 1
  ·rw [if_pos c16] at H
   have c16b0 : ((wrap64 (t339 + (wrap64 (Int.tdiv t342 8)))) == 1) = true := beq_iff_eq.mpr c16
   have c16b1 : ((wrap64 (t339 + (wrap64 (Int.tdiv t342 8)))) != 1) = false := bne_eq_false_iff_eq.mpr c16
   clear c16
   (first | rw [c16b0] | (simp only [i64_w, i32_w]; rw [c16b0]) | skip)
   replace H := Option.bind_eq_some_iff.mp H; obtain ⟨⟨t352, t353, t354⟩, A170, H⟩ := H
   replace H : (spec_l1Cur_clue.j1 k s0_0 t353 t354 (wrap64 (t339 + (wrap64 (Int.tdiv t342 8)))) 0 t352) = some (r1, r2, r3, r4, r5) := H
   have A17 := Aside0.mk A170; clear A170; have H' := Aside0.mk H; clear H
   go_wp2_with (first | ((with_reducible refine gate_callee (f := 36) rfl ?_); refine zG (some 22) Try.func36 #[.pointer (some ⟨g, 0, none⟩), .int .i64 3] ?_; (with_reducible refine (spec_l1Cur_pick.calls g s0_0 t349 t350 3 t352 t353 t354 w0 _ ?side1 ?side2 A17.out).mono ?_); (case side1 => exact zI65 HI0); (case side2 => exact zY65 HB); rintro e w18 ⟨rfl, hi, hb, hk⟩; refine ⟨_, rfl, ?_⟩; have n1_ := Aside0.mk (KeepBut.blk hk (g' := gb351) (o := .cells #[.int .i64 (wrap64 (t339 + (wrap64 (Int.tdiv t342 8)))), .int .i64 0, .int .i64 (wrap64 (t345 - (wrap64 (Int.tdiv t348 8))))] 39 (0, 0)) (zw BK351) NB351_0.out (by simp)); replace BK338 := zKB BK338 hk; replace HK := zKt HK hk; replace HB := Aside0.mk hb; replace HI0 := Aside0.mk hi; clear BK351; have BK351 := n1_; clear n1_; clear hb hk hi; have hnb19 := NB351_338.out; have hnc19 := NB338_351.out; have hnb20 := NB351_0.out; have hnc20 := NB0_351.out; obtain ⟨_, _, _, _, _, _⟩ := zc3 BK351))
   go_meet
   case rel => exact ⟨_, (t353), (t354), (0), (t352), H', ⟨by first | omega | exact Nat.le_refl _⟩, zk BK338, ⟨zw BK351⟩, ⟨(zI65 HI0)⟩, ⟨zKe HK⟩, ⟨zY65 HB⟩⟩
  ·rw [if_neg c16] at H
   have c16b0 : ((wrap64 (t339 + (wrap64 (Int.tdiv t342 8)))) == 1) = false := beq_eq_false_iff_ne.mpr c16
   have c16b1 : ((wrap64 (t339 + (wrap64 (Int.tdiv t342 8)))) != 1) = true := bne_iff_ne.mpr c16
   (first | rw [c16b0] | (simp only [i64_w, i32_w]; rw [c16b0]) | skip)
   have HC22 := Aside0.mk H; clear H
   go_upto_if 24 with (fail)
   go_cut [24] (fun v24 wc => ∃ (kq : Nat) (x24_21 : Bool), v24 = .bool x24_21 ∧ Aside0 (spec_l1Cur_clue.j0 kq (wrap64 (t339 + (wrap64 (Int.tdiv t342 8)))) x24_21 s0_0 t349 t350 (wrap64 (t339 + (wrap64 (Int.tdiv t342 8)))) 0 (wrap64 (t345 - (wrap64 (Int.tdiv t348 8)))) = some (r1, r2, r3, r4, r5)) ∧ Aside0 (kq ≤ k) ∧ Aside0 (wc.heap[gb338]? = some (.cells #[.int .i64 0, .int .i64 0, .int .i64 0] 39 (0, 0))) ∧ Aside0 (wc.heap[gb351]? = some (.cells #[.int .i64 (wrap64 (t339 + (wrap64 (Int.tdiv t342 8)))), .int .i64 0, .int .i64 (wrap64 (t345 - (wrap64 (Int.tdiv t348 8))))] 39 (0, 0))) ∧ Aside0 (IsS65 w0 wc g s0_0 t349 t350) ∧ Aside0 (KeepBut w wc g none) ∧ Aside0 (Below w0.heap.size w0 wc))
   case first =>
    have H := HC22.out; clear HC22
    by_cases c23 : (wrap64 (t339 + (wrap64 (Int.tdiv t342 8)))) = 2
    ·rw [if_pos c23] at H
     have c23b0 : ((wrap64 (t339 + (wrap64 (Int.tdiv t342 8)))) == 2) = true := beq_iff_eq.mpr c23
     have c23b1 : ((wrap64 (t339 + (wrap64 (Int.tdiv t342 8)))) != 2) = false := bne_eq_false_iff_eq.mpr c23
     clear c23
     (first | rw [c23b0] | (simp only [i64_w, i32_w]; rw [c23b0]) | skip)
     have H' := Aside0.mk H; clear H
     go_wp2
     go_meet
     case rel => exact ⟨_, (((wrap64 (t339 + (wrap64 (Int.tdiv t342 8)))) == 2)), zu, H', ⟨by first | omega | exact Nat.le_refl _⟩, zk BK338, ⟨zw BK351⟩, ⟨(zI65 HI0)⟩, ⟨zKe HK⟩, ⟨zY65 HB⟩⟩
    ·rw [if_neg c23] at H
     have c23b0 : ((wrap64 (t339 + (wrap64 (Int.tdiv t342 8)))) == 2) = false := beq_eq_false_iff_ne.mpr c23
     have c23b1 : ((wrap64 (t339 + (wrap64 (Int.tdiv t342 8)))) != 2) = true := bne_iff_ne.mpr c23
     (first | rw [c23b0] | (simp only [i64_w, i32_w]; rw [c23b0]) | skip)
     have H' := Aside0.mk H; clear H
     go_wp2
     go_meet
     case rel => exact ⟨_, (((wrap64 (t339 + (wrap64 (Int.tdiv t342 8)))) == 4)), zu, H', ⟨by first | omega | exact Nat.le_refl _⟩, zk BK338, ⟨zw BK351⟩, ⟨(zI65 HI0)⟩, ⟨zKe HK⟩, ⟨zY65 HB⟩⟩
   case rest =>
    clear HC22
    obtain ⟨kq, x24_21, rfl, HA, HJ21, BK338, BK351, HI0, HK, HB⟩ := hcut
    cases kq with
    | zero => exact absurd HA.out (by simp [spec_l1Cur_clue.j0])
    | succ kj21 =>
     have H := HA.out; clear HA; simp only [spec_l1Cur_clue.j0] at H
     by_cases c24 : x24_21 = true
     ·subst c24
      rw [if_pos rfl] at H; replace H := Option.bind_eq_some_iff.mp H; obtain ⟨⟨t355, t356, t357⟩, A250, H⟩ := H; (try dsimp only at H); have A25 := Aside0.mk A250; clear A250; have H' := Aside0.mk H; clear H
      go_wp2_with (first | ((with_reducible refine gate_callee (f := 36) rfl ?_); refine zG (some 28) Try.func36 #[.pointer (some ⟨g, 0, none⟩), .int .i64 13] ?_; (with_reducible refine (spec_l1Cur_pick.calls g s0_0 t349 t350 13 t355 t356 t357 w0 _ ?side1 ?side2 A25.out).mono ?_); (case side1 => exact zI65 HI0); (case side2 => exact zY65 HB); rintro e w26 ⟨rfl, hi, hb, hk⟩; refine ⟨_, rfl, ?_⟩; replace BK338 := zKB BK338 hk; replace BK351 := zKB BK351 hk; replace HK := zKt HK hk; replace HB := Aside0.mk hb; replace HI0 := Aside0.mk hi; clear hb hk hi; have hnb27 := NB351_338.out; have hnc27 := NB338_351.out; have hnb28 := NB351_0.out; have hnc28 := NB0_351.out; obtain ⟨_, _, _, _, _, _⟩ := zc3 BK351))
      go_meet
      case rel => exact ⟨_, (t356), (t357), (t355), ((wrap64 (t345 - (wrap64 (Int.tdiv t348 8))))), H', ⟨by have := HJ21.out; first | omega | exact Nat.le_refl _⟩, zk BK338, ⟨zw BK351⟩, ⟨(zI65 HI0)⟩, ⟨zKe HK⟩, ⟨zY65 HB⟩⟩
     ·replace c24 := Bool.eq_false_iff.mpr c24
      subst c24; rw [if_neg (show ¬ (false = true) by decide)] at H
      by_cases c30 : (wrap64 (t339 + (wrap64 (Int.tdiv t342 8)))) = 3
      ·rw [if_pos c30] at H
       have c30b0 : ((wrap64 (t339 + (wrap64 (Int.tdiv t342 8)))) == 3) = true := beq_iff_eq.mpr c30
       have c30b1 : ((wrap64 (t339 + (wrap64 (Int.tdiv t342 8)))) != 3) = false := bne_eq_false_iff_eq.mpr c30
       clear c30; replace H := Option.bind_eq_some_iff.mp H; obtain ⟨⟨t358, t359, t360⟩, A310, H⟩ := H; (try dsimp only at H); have A31 := Aside0.mk A310; clear A310; replace H := Option.bind_eq_some_iff.mp H; obtain ⟨⟨t361, t362, t363⟩, A320, H⟩ := H
       replace H : (spec_l1Cur_clue.j1 kj21 s0_0 t362 t363 (wrap64 (t339 + (wrap64 (Int.tdiv t342 8)))) t358 t361) = some (r1, r2, r3, r4, r5) := H
       have A32 := Aside0.mk A320; clear A320; have H' := Aside0.mk H; clear H
       go_wp2_with (first | ((with_reducible refine gate_callee (f := 36) rfl ?_); refine zG (some 33) Try.func36 #[.pointer (some ⟨g, 0, none⟩), .int .i64 3] ?_; (with_reducible refine (spec_l1Cur_pick.calls g s0_0 t349 t350 3 t358 t359 t360 w0 _ ?side1 ?side2 A31.out).mono ?_); (case side1 => exact zI65 HI0); (case side2 => exact zY65 HB); rintro e w33 ⟨rfl, hi, hb, hk⟩; refine ⟨_, rfl, ?_⟩; replace BK338 := zKB BK338 hk; replace BK351 := zKB BK351 hk; replace HK := zKt HK hk; replace HB := Aside0.mk hb; replace HI0 := Aside0.mk hi; clear hb hk hi; have hnb34 := NB351_338.out; have hnc34 := NB338_351.out; have hnb35 := NB351_0.out; have hnc35 := NB0_351.out; obtain ⟨_, _, _, _, _, _⟩ := zc3 BK351) | ((with_reducible refine gate_callee (f := 36) rfl ?_); refine zG (some 36) Try.func36 #[.pointer (some ⟨g, 0, none⟩), .int .i64 3] ?_; (with_reducible refine (spec_l1Cur_pick.calls g s0_0 t359 t360 3 t361 t362 t363 w0 _ ?side1 ?side2 A32.out).mono ?_); (case side1 => exact zI65 HI0); (case side2 => exact zY65 HB); rintro e w37 ⟨rfl, hi, hb, hk⟩; refine ⟨_, rfl, ?_⟩; have n1_ := Aside0.mk (KeepBut.blk hk (g' := gb351) (o := .cells #[.int .i64 (wrap64 (t339 + (wrap64 (Int.tdiv t342 8)))), .int .i64 t358, .int .i64 (wrap64 (t345 - (wrap64 (Int.tdiv t348 8))))] 39 (0, 0)) (zw BK351) NB351_0.out (by simp)); replace BK338 := zKB BK338 hk; replace HK := zKt HK hk; replace HB := Aside0.mk hb; replace HI0 := Aside0.mk hi; clear BK351; have BK351 := n1_; clear n1_; clear hb hk hi; obtain ⟨_, _, _, _, _, _⟩ := zc3 BK351))
       go_meet
       case rel => exact ⟨_, (t362), (t363), (t358), (t361), H', ⟨by have := HJ21.out; first | omega | exact Nat.le_refl _⟩, zk BK338, ⟨zw BK351⟩, ⟨(zI65 HI0)⟩, ⟨zKe HK⟩, ⟨zY65 HB⟩⟩
      ·rw [if_neg c30] at H
       have c30b0 : ((wrap64 (t339 + (wrap64 (Int.tdiv t342 8)))) == 3) = false := beq_eq_false_iff_ne.mpr c30
       have c30b1 : ((wrap64 (t339 + (wrap64 (Int.tdiv t342 8)))) != 3) = true := bne_iff_ne.mpr c30
       have H' := Aside0.mk H; clear H
       go_wp2
       go_meet
       case rel => exact ⟨_, (t349), (t350), (0), ((wrap64 (t345 - (wrap64 (Int.tdiv t348 8))))), H', ⟨by have := HJ21.out; first | omega | exact Nat.le_refl _⟩, zk BK338, zk BK351, ⟨(zI65 HI0)⟩, ⟨zKe HK⟩, ⟨zY65 HB⟩⟩
 case rest =>
  clear HC6
  obtain ⟨kq, x1001_5, x1002_5, x352001_5, x352002_5, HA, HJ5, BK338, BK351, HI0, HK, HB⟩ := hcut
  cases kq with
  | zero => exact absurd HA.out (by simp [spec_l1Cur_clue.j1])
  | succ kj5 =>
   have H := HA.out; clear HA; simp only [spec_l1Cur_clue.j1] at H; replace H := Option.bind_eq_some_iff.mp H; obtain ⟨⟨t364, t365, t366⟩, A390, H⟩ := H; (try dsimp only at H); have A39 := Aside0.mk A390; clear A390
   by_cases c40 : t364 = true
   ·subst c40
    rw [if_pos rfl] at H; replace H := Option.bind_eq_some_iff.mp H; obtain ⟨⟨t367, t368, t369⟩, A410, H⟩ := H
    replace H : (some ((wrap64 (t339 + (wrap64 (Int.tdiv t342 8)))), wrap64 (t367 - 1), x352002_5, t368, t369)) = some (r1, r2, r3, r4, r5) := H
    have A41 := Aside0.mk A410; clear A410; simp only [Option.some.injEq, Prod.mk.injEq] at H; obtain ⟨rfl, rfl, rfl, rfl, rfl⟩ := H
    go_wp2_with (first | ((with_reducible refine gate_callee (f := 32) rfl ?_); refine zG (some 39) Try.func32 #[.pointer (some ⟨g, 0, none⟩), .int .i64 14] ?_; (with_reducible refine (spec_l1Cur_one.calls g s0_0 x1001_5 x1002_5 14 true t365 t366 w0 _ ?side1 ?side2 A39.out).mono ?_); (case side1 => exact zI65 HI0); (case side2 => exact zY65 HB); rintro e w42 ⟨rfl, hi, hb, hk⟩; refine ⟨_, rfl, ?_⟩; replace BK338 := zKB BK338 hk; replace BK351 := zKB BK351 hk; replace HK := zKt HK hk; replace HB := Aside0.mk hb; replace HI0 := Aside0.mk hi; clear hb hk hi) | ((with_reducible refine gate_callee (f := 36) rfl ?_); refine zG (some 41) Try.func36 #[.pointer (some ⟨g, 0, none⟩), .int .i64 3] ?_; (with_reducible refine (spec_l1Cur_pick.calls g s0_0 t365 t366 3 t367 t368 t369 w0 _ ?side1 ?side2 A41.out).mono ?_); (case side1 => exact zI65 HI0); (case side2 => exact zY65 HB); rintro e w43 ⟨rfl, hi, hb, hk⟩; refine ⟨_, rfl, ?_⟩; replace BK338 := zKB BK338 hk; replace BK351 := zKB BK351 hk; replace HK := zKt HK hk; replace HB := Aside0.mk hb; replace HI0 := Aside0.mk hi; clear hb hk hi; have hnb44 := NB351_338.out; have hnc44 := NB338_351.out; have hnb45 := NB351_0.out; have hnc45 := NB0_351.out; obtain ⟨_, _, _, _, _, _⟩ := zc3 BK351; have hnb47 := NB338_0.out; have hnc47 := NB0_338.out; obtain ⟨_, _, _, _, _, _⟩ := zc3 BK338))
    refine bodyPost_ret (results_cell_row rfl _ _ gb338 39 #[.int .i64 (wrap64 (t339 + (wrap64 (Int.tdiv t342 8)))), .int .i64 (wrap64 (t367 - 1)), .int .i64 x352002_5] (0, 0) _ rfl (zw BK338) Try.underlying39 rfl (by kernel_rfl)) rfl ?_
    exact ⟨zt, (zI65 HI0), zY65 HB, zKe HK⟩
   ·replace c40 := Bool.eq_false_iff.mpr c40
    subst c40; rw [if_neg (show ¬ (false = true) by decide)] at H; simp only [Option.some.injEq, Prod.mk.injEq] at H; obtain ⟨rfl, rfl, rfl, rfl, rfl⟩ := H
    go_wp2_with (first | ((with_reducible refine gate_callee (f := 32) rfl ?_); refine zG (some 39) Try.func32 #[.pointer (some ⟨g, 0, none⟩), .int .i64 14] ?_; (with_reducible refine (spec_l1Cur_one.calls g s0_0 x1001_5 x1002_5 14 false t365 t366 w0 _ ?side1 ?side2 A39.out).mono ?_); (case side1 => exact zI65 HI0); (case side2 => exact zY65 HB); rintro e w49 ⟨rfl, hi, hb, hk⟩; refine ⟨_, rfl, ?_⟩; replace BK338 := zKB BK338 hk; replace BK351 := zKB BK351 hk; replace HK := zKt HK hk; replace HB := Aside0.mk hb; replace HI0 := Aside0.mk hi; clear hb hk hi; have hnb50 := NB351_338.out; have hnc50 := NB338_351.out; have hnb51 := NB351_0.out; have hnc51 := NB0_351.out; obtain ⟨_, _, _, _, _, _⟩ := zc3 BK351; have hnb53 := NB338_0.out; have hnc53 := NB0_338.out; obtain ⟨_, _, _, _, _, _⟩ := zc3 BK338))
    refine bodyPost_ret (results_cell_row rfl _ _ gb338 39 #[.int .i64 (wrap64 (t339 + (wrap64 (Int.tdiv t342 8)))), .int .i64 x352001_5, .int .i64 x352002_5] (0, 0) _ rfl (zw BK338) Try.underlying39 rfl (by kernel_rfl)) rfl ?_
    exact ⟨zt, (zI65 HI0), zY65 HB, zKe HK⟩


/-! ### spec_l1Cur_surePuzzle: function 75 -/
def spec_l1Cur_surePuzzle.f (k : Nat) (s0_0 : List Int) (s0_1 : Int) (s0_2 : Int) (a1 : Int) : Option (Int × (List (S39)) × Int × Int) := (spec_l1Cur_hidden.f s0_0 s0_1 s0_2).bind fun bt371 => ((spec_l1Cur_pick.f s0_0 bt371.2.2.2.1 bt371.2.2.2.2 (wrap64 (a1 + 1))).bind fun bt376 => ((spec_l1Cur_pick.f s0_0 bt376.2.1 bt376.2.2 10000).bind fun bt379 => ((spec_MakePuzzle.f k bt371.1 bt371.2.1 bt371.2.2.1 bt376.1 bt379.1).bind fun bt382 => (some (bt382.1, bt382.2.1, bt379.2.1, bt379.2.2)))))
set_option maxHeartbeats 8000000 in
set_option maxRecDepth 100000 in
theorem spec_l1Cur_surePuzzle.calls (k : Nat) (g : Nat) (s0_0 : List Int) (s0_1 : Int) (s0_2 : Int) (a1 : Int) (r1 : Int) (r2 : List (S39)) (r3 : Int) (r4 : Int) (w0 w : World) (hI : IsS65 w0 w g s0_0 s0_1 s0_2) (hB : Below w0.heap.size w0 w) (h : spec_l1Cur_surePuzzle.f k s0_0 s0_1 s0_2 a1 = some (r1, r2, r3, r4)) :
  Calls Try.prog 75 #[.pointer (some ⟨g, 0, none⟩), .int .i64 a1] w fun e w' => ∃ v1_ : Value, e = .returned (.agg #[.int .i64 r1, v1_]) ∧ Kd.R k39 39 w' w.heap.size (fun _ => True) v1_ r2 ∧ IsS65 w0 w' g s0_0 r3 r4 ∧ Below w0.heap.size w0 w' ∧ KeepBut w w' g none := by
 have hu30 := Try.underlying30; have HI0 := Aside0.mk hI
 have HK := Aside0.mk (KeepBut.refl w g none)
 have HL := Aside0.mk hB.size; clear hI; have HW0 := Aside0.mk hB.size; have HB := Aside0.mk hB; clear hB
 have H : ((spec_l1Cur_hidden.f s0_0 s0_1 s0_2).bind fun bt371 => ((spec_l1Cur_pick.f s0_0 bt371.2.2.2.1 bt371.2.2.2.2 (wrap64 (a1 + 1))).bind fun bt376 => ((spec_l1Cur_pick.f s0_0 bt376.2.1 bt376.2.2 10000).bind fun bt379 => ((spec_MakePuzzle.f k bt371.1 bt371.2.1 bt371.2.2.1 bt376.1 bt379.1).bind fun bt382 => (some (bt382.1, bt382.2.1, bt379.2.1, bt379.2.2)))))) = some (r1, r2, r3, r4) := h
 clear h; replace H := Option.bind_eq_some_iff.mp H; obtain ⟨⟨t371, t372, t373, t374, t375⟩, A30, H⟩ := H; (try dsimp only at H); have A3 := Aside0.mk A30; clear A30; replace H := Option.bind_eq_some_iff.mp H; obtain ⟨⟨t376, t377, t378⟩, A40, H⟩ := H; (try dsimp only at H); have A4 := Aside0.mk A40; clear A40; replace H := Option.bind_eq_some_iff.mp H; obtain ⟨⟨t379, t380, t381⟩, A50, H⟩ := H
 replace H : ((spec_MakePuzzle.f k t371 t372 t373 t376 t379).bind fun bt382 => (some (bt382.1, bt382.2.1, t380, t381))) = some (r1, r2, r3, r4) := H
 have A5 := Aside0.mk A50; clear A50; replace H := Option.bind_eq_some_iff.mp H; obtain ⟨⟨t382, t383, t386⟩, A60, H⟩ := H
 replace H : (some (t382, t383, t380, t381)) = some (r1, r2, r3, r4) := H
 have A6 := Aside0.mk A60; clear A60; simp only [Option.some.injEq, Prod.mk.injEq] at H; obtain ⟨rfl, rfl, rfl, rfl⟩ := H
 go_enter Try.func75, Try.ntmps75
 go_wp2_with (first | ((with_reducible refine gate_dst (N := 4) rfl ?_); refine zE 4 #[.int .i64 0, .slice none 0 0] 30 ?_; intro gb370 hg w7 hbox hb; have BK370 := Aside0.mk (hbox); have GW370 := zKg HK hg; have GE370 := Aside0.mk (Nat.le_trans HW0.out GW370.out); have NB0_370 := zL65 HI0 hg; have NB370_0 := zR65 HI0 hg; replace HI0 := zJ65 HI0 hb; replace HK := zKb HK hb; replace HB := zH65 HB hb; clear hb hbox hg) | ((with_reducible refine gate_callee (f := 35) rfl ?_); refine zG (some 9) Try.func35 #[.pointer (some ⟨g, 0, none⟩)] ?_; (with_reducible refine (spec_l1Cur_hidden.calls g s0_0 s0_1 s0_2 t371 t372 t373 t374 t375 w0 _ ?side1 ?side2 A3.out).mono ?_); (case side1 => exact zI65 HI0); (case side2 => exact zY65 HB); rintro e w8 ⟨rfl, hi, hb, hk⟩; refine ⟨_, rfl, ?_⟩; replace BK370 := zKB BK370 hk; replace HK := zKt HK hk; replace HB := Aside0.mk hb; replace HI0 := Aside0.mk hi; clear hb hk hi) | ((with_reducible refine gate_callee (f := 36) rfl ?_); refine zG (some 13) Try.func36 #[.pointer (some ⟨g, 0, none⟩), .int .i64 (wrap64 (a1 + 1))] ?_; (with_reducible refine (spec_l1Cur_pick.calls g s0_0 t374 t375 (wrap64 (a1 + 1)) t376 t377 t378 w0 _ ?side1 ?side2 A4.out).mono ?_); (case side1 => exact zI65 HI0); (case side2 => exact zY65 HB); rintro e w9 ⟨rfl, hi, hb, hk⟩; refine ⟨_, rfl, ?_⟩; replace BK370 := zKB BK370 hk; replace HK := zKt HK hk; replace HB := Aside0.mk hb; replace HI0 := Aside0.mk hi; clear hb hk hi) | ((with_reducible refine gate_callee (f := 36) rfl ?_); refine zG (some 15) Try.func36 #[.pointer (some ⟨g, 0, none⟩), .int .i64 10000] ?_; (with_reducible refine (spec_l1Cur_pick.calls g s0_0 t377 t378 10000 t379 t380 t381 w0 _ ?side1 ?side2 A5.out).mono ?_); (case side1 => exact zI65 HI0); (case side2 => exact zY65 HB); rintro e w10 ⟨rfl, hi, hb, hk⟩; refine ⟨_, rfl, ?_⟩; replace BK370 := zKB BK370 hk; replace HK := zKt HK hk; replace HB := Aside0.mk hb; replace HI0 := Aside0.mk hi; clear hb hk hi) | ((with_reducible refine gate_callee (f := 7) rfl ?_); refine zG (some 16) Try.func7 #[.agg #[.int .i64 t371, .int .i64 t372, .int .i64 t373], .int .i64 t376, .int .i64 t379] ?_; (with_reducible refine (spec_MakePuzzle.calls k t371 t372 t373 t376 t379 t382 t383 t386 _ A6.out).mono ?_); rintro e w11 ⟨v384, rfl, ho0, hb⟩; refine ⟨_, rfl, ?_⟩; have HO385 := Aside0.mk (Kd.R_lower ho0 (keep_size (w := w) (g := g) (row := none) (zKe HK))); replace HI0 := zJ65 HI0 hb; replace BK370 := zb BK370 hb; replace HK := zKb HK hb; replace HB := zH65 HB hb; clear hb ho0) | ((with_reducible refine gate_dst (N := 5) rfl ?_); refine zE 5 #[.int .i64 0, .slice none 0 0] 30 ?_; intro gb387 hg w12 hbox hb; have BK387 := Aside0.mk (hbox); have GW387 := zKg HK hg; have GE387 := Aside0.mk (Nat.le_trans HW0.out GW387.out); have NB370_387 := zl BK370 hg; have NB387_370 := zr BK370 hg; have NB0_387 := zL65 HI0 hg; have NB387_0 := zR65 HI0 hg; replace HO385 := zo HO385 hb; replace HI0 := zJ65 HI0 hb; replace BK370 := zb BK370 hb; replace HK := zKb HK hb; replace HB := zH65 HB hb; clear hb hbox hg; have hnb13 := NB387_370.out; have hnc13 := NB370_387.out; have hnb14 := NB387_0.out; have hnc14 := NB0_387.out; obtain ⟨_, _, _, _⟩ := zc2 BK387; obtain ⟨Ao16, co16, eo16⟩ := Kd.R_slice HO385.out; subst eo16; have hnb17 := NB370_0.out; have hnc17 := NB0_370.out; obtain ⟨_, _, _, _⟩ := zc2 BK370))
 refine bodyPost_ret (results_cell_row rfl _ _ gb370 30 #[.int .i64 t382, .slice Ao16 t383.length co16] (0, 0) _ rfl (zw BK370) Try.underlying30 rfl (by kernel_rfl)) rfl ?_
 exact ⟨_, zt, by (with_reducible repeat (first | apply Kd.R_alloc | apply Kd.R_drewN | apply Kd.R_drew)); exact Kd.R_mono (Kd.R_far (p := ⟨gb370, 1, none⟩) (Kd.R_far (p := ⟨gb370, 0, none⟩) (Kd.R_far (p := ⟨gb387, 1, none⟩) (Kd.R_far (p := ⟨gb387, 0, none⟩) (Kd.R_types (Kd.R_types HO385.out BK387.out (by decide)) BK370.out (by decide)) (fun _ hk => hk.1.2) (.int .i64 t382)) (fun _ hk => hk.1.2) (.slice Ao16 t383.length co16)) (fun _ hk => hk.2) (.int .i64 t382)) (fun _ hk => hk.2) (.slice Ao16 t383.length co16)) (fun _ hk => trivial), (zI65 HI0), zY65 HB, zKe HK⟩


/-! ### spec_l1Cur_puzzle: function 54 -/
def spec_l1Cur_puzzle.l0 : Nat → List Int → Int → Int → Int → List (S39) → Option (Int × (List (S39)) × Int × Int)
 | 0, _, _, _, _, _ => none
 | k + 1, x1000, x1001, x1002, x396000, x396001 => (spec_l1Cur_pick.f x1000 x1001 x1002 2).bind fun bt413 => (if (x396001.length : Int) < (wrap64 (6 + bt413.1)) then (if x396001.length < 5864062014805 then (spec_l1Cur_puzzle.l0 k x1000 bt413.2.1 bt413.2.2 x396000 (x396001 ++ [(⟨0, 0, 9⟩ : S39)])) else (none)) else (some (x396000, x396001, bt413.2.1, bt413.2.2)))
def spec_l1Cur_puzzle.f (k : Nat) (s0_0 : List Int) (s0_1 : Int) (s0_2 : Int) : Option (Int × (List (S39)) × Int × Int) := (spec_l1Cur_surePuzzle.f k s0_0 s0_1 s0_2 5).bind fun bt389 => ((spec_l1Cur_pick.f s0_0 bt389.2.2.1 bt389.2.2.2 12).bind fun bt396 => (if bt396.1 = 0 then ((spec_l1Cur_among.f s0_0 bt396.2.1 bt396.2.2 (([(-1), 0, 1, 12, 13, 4611686018427387904] : List Int))).bind fun bt402 => (some (bt402.1, bt389.2.1, bt402.2.1, bt402.2.2))) else (if bt396.1 = 1 then ((spec_l1Cur_clue.f k s0_0 bt396.2.1 bt396.2.2).bind fun bt405 => (if bt389.2.1.length < 5864062014805 then (some (bt389.1, (bt389.2.1 ++ [(⟨bt405.1, bt405.2.1, bt405.2.2.1⟩ : S39)]), bt405.2.2.2.1, bt405.2.2.2.2)) else (none))) else (if bt396.1 = 2 then (spec_l1Cur_puzzle.l0 k s0_0 bt396.2.1 bt396.2.2 bt389.1 bt389.2.1) else (some (bt389.1, bt389.2.1, bt396.2.1, bt396.2.2))))))
def spec_l1Cur_puzzle.T6 : Bool × List (List Nat × List Nat) := (true, [([], []), ([0], [0]), ([], []), ([2], [2]), ([3], [3]), ([1, 4, 3], [1, 4]), ([0, 1, 2, 3, 4, 5], []), ([6, 5, 5, 0, 1, 2, 3, 4, 5], [5, 6])])
def spec_l1Cur_puzzle.B6 : List Nat := [0, 1, 0, 4, 12, 31, 63, 127]
theorem spec_l1Cur_puzzle.tab6 : rtab .any (opsOf Try.f54 6) = spec_l1Cur_puzzle.T6 := by kernel_rfl
theorem spec_l1Cur_puzzle.bits6 : waitsOk spec_l1Cur_puzzle.T6.2 spec_l1Cur_puzzle.B6 = true := by kernel_rfl
set_option maxHeartbeats 8000000 in
set_option maxRecDepth 100000 in
theorem spec_l1Cur_puzzle.calls (k : Nat) (g : Nat) (s0_0 : List Int) (s0_1 : Int) (s0_2 : Int) (r1 : Int) (r2 : List (S39)) (r3 : Int) (r4 : Int) (w0 w : World) (hI : IsS65 w0 w g s0_0 s0_1 s0_2) (hB : Below w0.heap.size w0 w) (h : spec_l1Cur_puzzle.f k s0_0 s0_1 s0_2 = some (r1, r2, r3, r4)) :
  Calls Try.prog 54 #[.pointer (some ⟨g, 0, none⟩)] w fun e w' => ∃ v1_ : Value, e = .returned (.agg #[.int .i64 r1, v1_]) ∧ Kd.R k39 39 w' w.heap.size (fun _ => True) v1_ r2 ∧ IsS65 w0 w' g s0_0 r3 r4 ∧ Below w0.heap.size w0 w' ∧ KeepBut w w' g none := by
 have hu30 := Try.underlying30; have hu39 := Try.underlying39; have HI0 := Aside0.mk hI
 have HK := Aside0.mk (KeepBut.refl w g none)
 have HL := Aside0.mk hB.size; clear hI; have HW0 := Aside0.mk hB.size; have HB := Aside0.mk hB; clear hB
 have H : ((spec_l1Cur_surePuzzle.f k s0_0 s0_1 s0_2 5).bind fun bt389 => ((spec_l1Cur_pick.f s0_0 bt389.2.2.1 bt389.2.2.2 12).bind fun bt396 => (if bt396.1 = 0 then ((spec_l1Cur_among.f s0_0 bt396.2.1 bt396.2.2 (([(-1), 0, 1, 12, 13, 4611686018427387904] : List Int))).bind fun bt402 => (some (bt402.1, bt389.2.1, bt402.2.1, bt402.2.2))) else (if bt396.1 = 1 then ((spec_l1Cur_clue.f k s0_0 bt396.2.1 bt396.2.2).bind fun bt405 => (if bt389.2.1.length < 5864062014805 then (some (bt389.1, (bt389.2.1 ++ [(⟨bt405.1, bt405.2.1, bt405.2.2.1⟩ : S39)]), bt405.2.2.2.1, bt405.2.2.2.2)) else (none))) else (if bt396.1 = 2 then (spec_l1Cur_puzzle.l0 k s0_0 bt396.2.1 bt396.2.2 bt389.1 bt389.2.1) else (some (bt389.1, bt389.2.1, bt396.2.1, bt396.2.2))))))) = some (r1, r2, r3, r4) := h
 clear h; replace H := Option.bind_eq_some_iff.mp H; obtain ⟨⟨t389, t390, t393, t394⟩, A20, H⟩ := H; (try dsimp only at H); have A2 := Aside0.mk A20; clear A20; replace H := Option.bind_eq_some_iff.mp H; obtain ⟨⟨t396, t397, t398⟩, A30, H⟩ := H; (try dsimp only at H); have A3 := Aside0.mk A30; clear A30
 by_cases c4 : t396 = 0
 ·rw [if_pos c4] at H
  have c4b0 : (t396 == 0) = true := beq_iff_eq.mpr c4
  have c4b1 : (t396 != 0) = false := bne_eq_false_iff_eq.mpr c4
  clear c4
  obtain ⟨y399, hy399⟩ : ∃ y_ : List Int, y_ = (([(-1), 0, 1, 12, 13, 4611686018427387904] : List Int)) := ⟨_, rfl⟩
  replace H : ((spec_l1Cur_among.f s0_0 t397 t398 y399).bind fun bt402 => (some (bt402.1, t390, bt402.2.1, bt402.2.2))) = some (r1, r2, r3, r4) := by first | (rw [hy399]; with_reducible exact H) | (have H2_ := (Option.bind_some _ _).symm.trans H; rw [hy399]; with_reducible exact H2_) | (have H2_ := (Option.bind_some _ _).symm.trans H; with_reducible exact H2_) | with_reducible exact H | (rw [hy399]; exact H) | exact H
  have Ny399 := Aside0.mk hy399; clear hy399; replace H := Option.bind_eq_some_iff.mp H; obtain ⟨⟨t402, t403, t404⟩, A50, H⟩ := H
  replace H : (some (t402, t390, t403, t404)) = some (r1, r2, r3, r4) := H
  have A5 := Aside0.mk A50; clear A50; simp only [Option.some.injEq, Prod.mk.injEq] at H; obtain ⟨rfl, rfl, rfl, rfl⟩ := H
  go_enter Try.func54, Try.ntmps54
  go_wp2_with (first | ((with_reducible refine gate_dst (N := 2) rfl ?_); refine zE 2 #[.int .i64 0, .slice none 0 0] 30 ?_; intro gb388 hg w6 hbox hb; have BK388 := Aside0.mk (hbox); have GW388 := zKg HK hg; have GE388 := Aside0.mk (Nat.le_trans HW0.out GW388.out); have NB0_388 := zL65 HI0 hg; have NB388_0 := zR65 HI0 hg; replace HI0 := zJ65 HI0 hb; replace HK := zKb HK hb; replace HB := zH65 HB hb; clear hb hbox hg) | ((with_reducible refine gate_callee (f := 75) rfl ?_); refine zG (some 5) Try.func75 #[.pointer (some ⟨g, 0, none⟩), .int .i64 5] ?_; (with_reducible refine (spec_l1Cur_surePuzzle.calls k g s0_0 s0_1 s0_2 5 t389 t390 t393 t394 w0 _ ?side1 ?side2 A2.out).mono ?_); (case side1 => exact zI65 HI0); (case side2 => exact zY65 HB); rintro e w7 ⟨v391, rfl, ho0, hi, hb, hk⟩; refine ⟨_, rfl, ?_⟩; have HO392 := Aside0.mk (Kd.R_lower ho0 (keep_size (w := w) (g := g) (row := none) (zKe HK))); replace BK388 := zKB BK388 hk; replace HK := zKt HK hk; replace HB := Aside0.mk hb; replace HI0 := Aside0.mk hi; clear hb hk hi ho0) | ((with_reducible refine gate_dst (N := 3) rfl ?_); refine zE 3 #[.int .i64 0, .slice none 0 0] 30 ?_; intro gb395 hg w8 hbox hb; have BK395 := Aside0.mk (hbox); have GW395 := zKg HK hg; have GE395 := Aside0.mk (Nat.le_trans HW0.out GW395.out); have NB388_395 := zl BK388 hg; have NB395_388 := zr BK388 hg; have NB0_395 := zL65 HI0 hg; have NB395_0 := zR65 HI0 hg; replace HO392 := zo HO392 hb; replace HI0 := zJ65 HI0 hb; replace BK388 := zb BK388 hb; replace HK := zKb HK hb; replace HB := zH65 HB hb; clear hb hbox hg; have hnb9 := NB395_388.out; have hnc9 := NB388_395.out; have hnb10 := NB395_0.out; have hnc10 := NB0_395.out; obtain ⟨_, _, _, _⟩ := zc2 BK395; obtain ⟨Ao12, co12, eo12⟩ := Kd.R_slice HO392.out; subst eo12) | ((with_reducible refine gate_callee (f := 36) rfl ?_); refine zG (some 7) Try.func36 #[.pointer (some ⟨g, 0, none⟩), .int .i64 12] ?_; (with_reducible refine (spec_l1Cur_pick.calls g s0_0 t393 t394 12 t396 t397 t398 w0 _ ?side1 ?side2 A3.out).mono ?_); (case side1 => exact zI65 HI0); (case side2 => exact zY65 HB); rintro e w13 ⟨rfl, hi, hb, hk⟩; refine ⟨_, rfl, ?_⟩; have n1_ := Aside0.mk (Kd.R_mono (Kd.R_keep (IsS65.apart (show IsS65 w0 _ g s0_0 t393 t394 from (zI65 HI0)) (by (with_reducible repeat (first | apply Kd.R_alloc | apply Kd.R_drewN | apply Kd.R_drew)); exact (Kd.R_mono (Kd.R_far (p := ⟨gb395, 1, none⟩) (Kd.R_far (p := ⟨gb395, 0, none⟩) (Kd.R_types HO392.out BK395.out (by decide)) (fun _ hk => hk.2) (.int .i64 t389)) (fun _ hk => hk.2) (.slice Ao12 t390.length co12)) (fun _ h_ => h_.1))) (by decide)) hk (fun _ h => h.2)) (fun _ h => h.1)); have n2_ := Aside0.mk (KeepBut.blk hk (g' := gb395) (o := .cells #[.int .i64 t389, .slice Ao12 t390.length co12] 30 (0, 0)) (zw BK395) NB395_0.out (by simp)); replace BK388 := zKB BK388 hk; replace HK := zKt HK hk; replace HB := Aside0.mk hb; replace HI0 := Aside0.mk hi; clear HO392; have HO392 := n1_; clear n1_; clear BK395; have BK395 := n2_; clear n2_; clear hb hk hi) | ((with_reducible refine gate_dst (N := 11) rfl ?_); refine Kd.R_lit (Kd.int .i64) _ 3 ?hg (N := 11) ?hd (xs := ([(-1), 0, 1, 12, 13, 4611686018427387904] : List Int)) (inner := [.int .i64 (-1), .int .i64 0, .int .i64 1, .int .i64 12, .int .i64 13, .int .i64 4611686018427387904]) (ok := fun _ => True) (okp := fun _ => True) ?hr ?hp (fun _ hk => hk) trivial (Below.refl _ _) (Nat.le_refl _) (by simp) ?_; (case hd => rfl); (case hg => rfl); (case hr => first | (go_simp; done) | (go_simp; rfl)); (case hp => exact (Reps.one (show Kd.M (Kd.int .i64) _ _ _ (-1) [.int .i64 (-1)] from rfl) (Reps.one (show Kd.M (Kd.int .i64) _ _ _ 0 [.int .i64 0] from rfl) (Reps.one (show Kd.M (Kd.int .i64) _ _ _ 1 [.int .i64 1] from rfl) (Reps.one (show Kd.M (Kd.int .i64) _ _ _ 12 [.int .i64 12] from rfl) (Reps.one (show Kd.M (Kd.int .i64) _ _ _ 13 [.int .i64 13] from rfl) (Reps.one (show Kd.M (Kd.int .i64) _ _ _ 4611686018427387904 [.int .i64 4611686018427387904] from rfl) (Reps.none _ _)))))))); intro v400 w14 ho15 hb hg_ hnew_; clear hg_ hnew_; (first | rw [← Ny399.out] at ho15 | (simp only [Int.reduceToNat] at ho15; rw [← Ny399.out] at ho15)); have HO401 := Aside0.mk (Kd.R_lower ho15 (keep_size (w := w) (g := g) (row := none) (zKe HK))); replace HO392 := zo HO392 hb; replace HI0 := zJ65 HI0 hb; replace BK388 := zb BK388 hb; replace BK395 := zb BK395 hb; replace HK := zKb HK hb; replace HB := zH65 HB hb; clear hb ho15; obtain ⟨Ao16, co16, eo16⟩ := Kd.R_slice HO401.out; subst eo16) | ((with_reducible refine gate_callee (f := 34) rfl ?_); refine zG (some 12) Try.func34 #[.pointer (some ⟨g, 0, none⟩), .slice Ao16 y399.length co16] ?_; (with_reducible refine (spec_l1Cur_among.calls g s0_0 t397 t398 _ _ y399 t402 t403 t404 w0 _ ?side1 ?side2 ?side3 ?side4 ?side5 A5.out).mono ?_); (case side1 => exact zI65 HI0); (case side2 => exact zY65 HB); (case side3 => repeat (first | exact (Kd.R_reads' HO401.out).2.2 | (with_reducible refine Kd.C_alloc ?_ _) | (with_reducible refine Kd.C_drewN ?_ _) | (with_reducible refine Kd.C_drew ?_))); (case side4 => exact (Kd.R_reads' HO401.out).2.1); (case side5 => exact far_slice (IsS65.own_ne HI0.out HO401.out (by decide))); rintro e w17 ⟨rfl, hi, hb, hk⟩; refine ⟨_, rfl, ?_⟩; have n1_ := Aside0.mk (Kd.R_mono (Kd.R_keep (IsS65.apart (show IsS65 w0 _ g s0_0 t397 t398 from (zI65 HI0)) (zs HO392) (by decide)) hk (fun _ h => h.2)) (fun _ h => h.1)); have n3_ := Aside0.mk (Kd.R_mono (Kd.R_keep (IsS65.apart (show IsS65 w0 _ g s0_0 t397 t398 from (zI65 HI0)) (zs HO401) (by decide)) hk (fun _ h => h.2)) (fun _ h => h.1)); replace BK388 := zKB BK388 hk; replace BK395 := zKB BK395 hk; replace HK := zKt HK hk; replace HB := Aside0.mk hb; replace HI0 := Aside0.mk hi; clear HO392; have HO392 := n1_; clear n1_; clear HO401; have HO401 := n3_; clear n3_; clear hb hk hi; obtain ⟨_, _, _, _⟩ := zc2 BK395; have hnb19 := NB388_0.out; have hnc19 := NB0_388.out; obtain ⟨_, _, _, _⟩ := zc2 BK388))
  refine bodyPost_ret (results_cell_row rfl _ _ gb388 30 #[.int .i64 t402, .slice Ao12 t390.length co12] (0, 0) _ rfl (zw BK388) Try.underlying30 rfl (by kernel_rfl)) rfl ?_
  exact ⟨_, zt, by (with_reducible repeat (first | apply Kd.R_alloc | apply Kd.R_drewN | apply Kd.R_drew)); exact Kd.R_mono (Kd.R_far (p := ⟨gb388, 1, none⟩) (Kd.R_far (p := ⟨gb388, 0, none⟩) (Kd.R_far (p := ⟨gb395, 0, none⟩) (Kd.R_types (Kd.R_types HO392.out BK395.out (by decide)) BK388.out (by decide)) (fun _ hk => hk.1.2) (.int .i64 t402)) (fun _ hk => hk.2) (.int .i64 t402)) (fun _ hk => hk.2) (.slice Ao12 t390.length co12)) (fun _ hk => trivial), (zI65 HI0), zY65 HB, zKe HK⟩
 ·rw [if_neg c4] at H
  have c4b0 : (t396 == 0) = false := beq_eq_false_iff_ne.mpr c4
  have c4b1 : (t396 != 0) = true := bne_iff_ne.mpr c4
  by_cases c21 : t396 = 1
  ·rw [if_pos c21] at H
   have c21b0 : (t396 == 1) = true := beq_iff_eq.mpr c21
   have c21b1 : (t396 != 1) = false := bne_eq_false_iff_eq.mpr c21
   clear c21; replace H := Option.bind_eq_some_iff.mp H; obtain ⟨⟨t405, t406, t407, t408, t409⟩, A220, H⟩ := H
   replace H : (if t390.length < 5864062014805 then (some (t389, (t390 ++ [(⟨t405, t406, t407⟩ : S39)]), t408, t409)) else (none)) = some (r1, r2, r3, r4) := H
   have A22 := Aside0.mk A220; clear A220
   by_cases c23 : t390.length < 5864062014805
   ·rw [if_pos c23] at H
    have LMc23 := Aside0.mk c23; clear c23
    obtain ⟨y410, hy410⟩ : ∃ y_ : List (S39), y_ = (t390 ++ [(⟨t405, t406, t407⟩ : S39)]) := ⟨_, rfl⟩
    replace H : (some (t389, y410, t408, t409)) = some (r1, r2, r3, r4) := by first | (rw [hy410]; with_reducible exact H) | (have H2_ := (Option.bind_some _ _).symm.trans H; rw [hy410]; with_reducible exact H2_) | (have H2_ := (Option.bind_some _ _).symm.trans H; with_reducible exact H2_) | with_reducible exact H | (rw [hy410]; exact H) | exact H
    have Ny410 := Aside0.mk hy410; clear hy410; simp only [Option.some.injEq, Prod.mk.injEq] at H; obtain ⟨rfl, rfl, rfl, rfl⟩ := H
    go_enter Try.func54, Try.ntmps54
    try go_wp2_with (first | ((with_reducible refine gate_dst (N := 2) rfl ?_); refine zE 2 #[.int .i64 0, .slice none 0 0] 30 ?_; intro gb388 hg w24 hbox hb; have BK388 := Aside0.mk (hbox); have GW388 := zKg HK hg; have GE388 := Aside0.mk (Nat.le_trans HW0.out GW388.out); have NB0_388 := zL65 HI0 hg; have NB388_0 := zR65 HI0 hg; replace HI0 := zJ65 HI0 hb; replace HK := zKb HK hb; replace HB := zH65 HB hb; clear hb hbox hg) | ((with_reducible refine gate_callee (f := 75) rfl ?_); refine zG (some 5) Try.func75 #[.pointer (some ⟨g, 0, none⟩), .int .i64 5] ?_; (with_reducible refine (spec_l1Cur_surePuzzle.calls k g s0_0 s0_1 s0_2 5 t389 t390 t393 t394 w0 _ ?side1 ?side2 A2.out).mono ?_); (case side1 => exact zI65 HI0); (case side2 => exact zY65 HB); rintro e w25 ⟨v391, rfl, ho0, hi, hb, hk⟩; refine ⟨_, rfl, ?_⟩; have HO392 := Aside0.mk (Kd.R_lower ho0 (keep_size (w := w) (g := g) (row := none) (zKe HK))); replace BK388 := zKB BK388 hk; replace HK := zKt HK hk; replace HB := Aside0.mk hb; replace HI0 := Aside0.mk hi; clear hb hk hi ho0) | ((with_reducible refine gate_dst (N := 3) rfl ?_); refine zE 3 #[.int .i64 0, .slice none 0 0] 30 ?_; intro gb395 hg w26 hbox hb; have BK395 := Aside0.mk (hbox); have GW395 := zKg HK hg; have GE395 := Aside0.mk (Nat.le_trans HW0.out GW395.out); have NB388_395 := zl BK388 hg; have NB395_388 := zr BK388 hg; have NB0_395 := zL65 HI0 hg; have NB395_0 := zR65 HI0 hg; replace HO392 := zo HO392 hb; replace HI0 := zJ65 HI0 hb; replace BK388 := zb BK388 hb; replace HK := zKb HK hb; replace HB := zH65 HB hb; clear hb hbox hg; have hnb27 := NB395_388.out; have hnc27 := NB388_395.out; have hnb28 := NB395_0.out; have hnc28 := NB0_395.out; obtain ⟨_, _, _, _⟩ := zc2 BK395; obtain ⟨Ao30, co30, eo30⟩ := Kd.R_slice HO392.out; subst eo30) | ((with_reducible refine gate_callee (f := 36) rfl ?_); refine zG (some 7) Try.func36 #[.pointer (some ⟨g, 0, none⟩), .int .i64 12] ?_; (with_reducible refine (spec_l1Cur_pick.calls g s0_0 t393 t394 12 t396 t397 t398 w0 _ ?side1 ?side2 A3.out).mono ?_); (case side1 => exact zI65 HI0); (case side2 => exact zY65 HB); rintro e w31 ⟨rfl, hi, hb, hk⟩; refine ⟨_, rfl, ?_⟩; have n1_ := Aside0.mk (Kd.R_mono (Kd.R_keep (IsS65.apart (show IsS65 w0 _ g s0_0 t393 t394 from (zI65 HI0)) (by (with_reducible repeat (first | apply Kd.R_alloc | apply Kd.R_drewN | apply Kd.R_drew)); exact (Kd.R_mono (Kd.R_far (p := ⟨gb395, 1, none⟩) (Kd.R_far (p := ⟨gb395, 0, none⟩) (Kd.R_types HO392.out BK395.out (by decide)) (fun _ hk => hk.2) (.int .i64 t389)) (fun _ hk => hk.2) (.slice Ao30 t390.length co30)) (fun _ h_ => h_.1))) (by decide)) hk (fun _ h => h.2)) (fun _ h => h.1)); have n2_ := Aside0.mk (KeepBut.blk hk (g' := gb395) (o := .cells #[.int .i64 t389, .slice Ao30 t390.length co30] 30 (0, 0)) (zw BK395) NB395_0.out (by simp)); replace BK388 := zKB BK388 hk; replace HK := zKt HK hk; replace HB := Aside0.mk hb; replace HI0 := Aside0.mk hi; clear HO392; have HO392 := n1_; clear n1_; clear BK395; have BK395 := n2_; clear n2_; clear hb hk hi))
    have n3_ := Aside0.mk (IsS65.drew HI0.out)
    have n4_ := Aside0.mk (keep_drew HK.out)
    replace HO392 := Aside0.mk (Kd.R_drew HO392.out); replace BK388 := Aside0.mk (blk_drew BK388.out); replace BK395 := Aside0.mk (blk_drew BK395.out); replace HB := Aside0.mk (below_drew1 HB.out); clear HI0; have HI0 := n3_; clear n3_; clear HK; have HK := n4_; clear n4_
    refine start_ (n := 8) (S := fun w' => w'.cell? ⟨gb395, 0, none⟩ = some (.int .i64 t389) ∧ w'.cell? ⟨gb395, 1, none⟩ = some (.slice Ao30 t390.length co30)) (ds := [7]) #[false, false, false, false, false, false, false, false] (by kernel_rfl) rfl rfl ⟨(blk_cell BK395.out 0).trans rfl, (blk_cell BK395.out 1).trans rfl⟩ (fun hHeld => ?_); refine with_tabW spec_l1Cur_puzzle.tab6 spec_l1Cur_puzzle.bits6 (fun HT_ HW_ => ?_)
    generalize w31.drew = w32 at HO392 BK388 BK395 HI0 HK HB hHeld ⊢
    refine zA 0 16 HT_ ?_
    refine zA 2 18 HT_ ?_
    refine zT 1 17 HT_ HW_ hHeld ?_
    refine zO 3 (some 19) HT_ (fun K hK => ?_)
    refine goes_ Try.func63 (by kernel_rfl) rfl #[.pointer (some ⟨g, 0, none⟩)] (by rfl) rfl rfl zO1_0 ?_
    with_reducible refine (spec_l1Cur_clue.calls k g s0_0 t397 t398 t405 t406 t407 t408 t409 w0 _ ?side1 ?side2 A22.out).mono ?_
    (case side1 => exact zI65 HI0)
    (case side2 => exact zY65 HB)
    rintro e w33 ⟨rfl, hi, hb, hk⟩
    refine ⟨_, rfl, ?_⟩
    have n1_ := Aside0.mk (Kd.R_mono (Kd.R_keep (IsS65.apart (show IsS65 w0 _ g s0_0 t397 t398 from (zI65 HI0)) (zs HO392) (by decide)) hk (fun _ h => h.2)) (fun _ h => h.1))
    replace BK388 := zKB BK388 hk
    replace BK395 := zKB BK395 hk
    replace HK := zKt HK hk
    replace HB := Aside0.mk hb
    replace HI0 := Aside0.mk hi
    clear HO392; have HO392 := n1_; clear n1_
    (try clear hb)
    (try clear hb2)
    (try clear hk)
    (try clear hi)
    refine hK.out _ _ ⟨(blk_cell BK395.out 0).trans rfl, (blk_cell BK395.out 1).trans rfl⟩ (fun hHeld => ?_)
    clear hK K
    refine zN 19 ?_
    refine zO 4 (some 20) HT_ (fun K hK => ?_)
    refine value_ (w1 := ?_) (v := ?_) (by rfl) rfl ?_ ?_
    rotate_left 2
    ·go_simp
     constructor
     ·rfl
     ·rfl
    refine hK.out _ _ ⟨(blk_cell (blk_alloc BK395.out _) 0).trans rfl, (blk_cell (blk_alloc BK395.out _) 1).trans rfl⟩ (fun hHeld => ?_)
    clear hK K
    refine zN 20 ?_
    refine zO 5 (some 21) HT_ (fun K hK => ?_)
    refine Kd.R_append_step k39 w.heap.size (by rfl) (.tmp 17) (.tmp 20) 28 39 (.agg #[(.int .i64 0), (.int .i64 0), (.int .i64 0)]) 24 rfl Try.underlying28 info39 rfl (by decide) (by omega) (.slice Ao30 t390.length co30) t390 (⟨t405, t406, t407⟩ : S39) [.int .i64 t405, .int .i64 t406, .int .i64 t407] (fun _ => True) (fun _ => False) rfl rfl ?aP (fun _ hk => hk.elim) ?aF ?aO (Below.refl _ _) ?aS ?aL ?_
    (case aP => exact k39_mkM _ _ _ (⟨t405, t406, t407⟩ : S39))
    (case aF => exact (fun _ _ => trivial))
    (case aO => exact (zs HO392))
    (case aS => exact (keep_size (w := w) (g := g) (row := none) (zKe HK)))
    (case aL => have := LMc23.out; omega)
    intro v411 w34 ho hb hg hat
    rw [← Ny410.out] at ho
    have n0_ := Aside0.mk (IsS65.grown ((zI65 HI0)) hg (IsS65.own_ne HI0.out HO392.out (by decide)))
    have n1_ := Aside0.mk (blk_grown (zq BK388) hg (Kd.R_ne HO392.out BK388.out (by decide)))
    have n2_ := Aside0.mk (blk_grown (zq BK395) hg (Kd.R_ne HO392.out BK395.out (by decide)))
    have n3_ := Aside0.mk (below_weaken (zY65 HB) HL.out hb)
    have n4_ := Aside0.mk (KeepBut.trans (zKe HK) (KeepBut.of_grown hg g) (Kd.R_base2 HO392.out))
    have HO412 := Aside0.mk (ho)
    clear HO392; clear HI0; have HI0 := n0_; clear n0_; clear BK388; have BK388 := n1_; clear n1_; clear BK395; have BK395 := n2_; clear n2_; clear HB; have HB := n3_; clear n3_; clear HK; have HK := n4_; clear n4_; clear ho hb hg hat
    obtain ⟨Ao35, co35, eo35⟩ := Kd.R_slice HO412.out
    (first | subst eo35 | (injection eo35 with f1_ f2_ f3_; have f4_ := f1_.symm; have f5_ := f3_.symm; clear f1_ f2_ f3_; subst f4_; subst f5_))
    refine hK.out _ _ ⟨(blk_cell BK395.out 0).trans rfl, (blk_cell BK395.out 1).trans rfl⟩ (fun hHeld => ?_)
    clear hK K
    refine zN 21 ?_
    refine zA 6 22 HT_ ?_
    refine last_ (i := 7) (N := none) #[true, true, true, true, true, true, true, true] rfl rfl (one_of HT_.out (by kernel_rfl)) (by decide) (fun K hK => ?_)
    have hs36 : w34.cell? ⟨gb395, 1, none⟩ = some (.slice Ao30 t390.length co30) := (blk_cell BK395.out 1).trans rfl
    have hfs36 := blk_frozen BK395.out 1
    have hns36_0 := NB388_395.out; have hms36_0 := NB395_388.out
    refine skip_ (w1 := ?_) (by rfl) rfl ?_ ?_
    rotate_left
    ·go_simp
     rfl
    refine hK.out _ _ ?_
    clear hK K
    refine done_ (done_of HT_.out (by kernel_rfl)) ?_
    obtain ⟨_, _, _, _⟩ := zc2 BK395
    have hnb38 := NB388_0.out; have hnc38 := NB0_388.out
    obtain ⟨_, _, _, _⟩ := zc2 BK388
    try go_wp2
    refine bodyPost_ret (results_cell_row rfl _ _ gb388 30 #[.int .i64 t389, .slice Ao35 y410.length co35] (0, 0) _ rfl (zw BK388) Try.underlying30 rfl (by kernel_rfl)) rfl ?_
    exact ⟨_, zt, by (with_reducible repeat (first | apply Kd.R_alloc | apply Kd.R_drewN | apply Kd.R_drew)); exact Kd.R_mono (Kd.R_far (p := ⟨gb388, 1, none⟩) (Kd.R_far (p := ⟨gb388, 0, none⟩) (Kd.R_far (p := ⟨gb395, 1, none⟩) (Kd.R_types (Kd.R_types HO412.out BK395.out (by decide)) BK388.out (by decide)) (fun _ hk => hk.1.2) (.slice Ao35 y410.length co35)) (fun _ hk => hk.2) (.int .i64 t389)) (fun _ hk => hk.2) (.slice Ao35 y410.length co35)) (fun _ hk => trivial), (zI65 HI0), zY65 HB, zKe HK⟩
   ·rw [if_neg c23] at H
    exact absurd H (by simp)
  ·rw [if_neg c21] at H
   have c21b0 : (t396 == 1) = false := beq_eq_false_iff_ne.mpr c21
   have c21b1 : (t396 != 1) = true := bne_iff_ne.mpr c21
   by_cases c40 : t396 = 2
   ·rw [if_pos c40] at H
    have c40b0 : (t396 == 2) = true := beq_iff_eq.mpr c40
    have c40b1 : (t396 != 2) = false := bne_eq_false_iff_eq.mpr c40
    clear c40; have H' := Aside0.mk H; clear H
    go_enter Try.func54, Try.ntmps54
    go_wp2_with (first | ((with_reducible refine gate_dst (N := 2) rfl ?_); refine zE 2 #[.int .i64 0, .slice none 0 0] 30 ?_; intro gb388 hg w41 hbox hb; have BK388 := Aside0.mk (hbox); have GW388 := zKg HK hg; have GE388 := Aside0.mk (Nat.le_trans HW0.out GW388.out); have NB0_388 := zL65 HI0 hg; have NB388_0 := zR65 HI0 hg; replace HI0 := zJ65 HI0 hb; replace HK := zKb HK hb; replace HB := zH65 HB hb; clear hb hbox hg) | ((with_reducible refine gate_callee (f := 75) rfl ?_); refine zG (some 5) Try.func75 #[.pointer (some ⟨g, 0, none⟩), .int .i64 5] ?_; (with_reducible refine (spec_l1Cur_surePuzzle.calls k g s0_0 s0_1 s0_2 5 t389 t390 t393 t394 w0 _ ?side1 ?side2 A2.out).mono ?_); (case side1 => exact zI65 HI0); (case side2 => exact zY65 HB); rintro e w42 ⟨v391, rfl, ho0, hi, hb, hk⟩; refine ⟨_, rfl, ?_⟩; have HO392 := Aside0.mk (Kd.R_lower ho0 (keep_size (w := w) (g := g) (row := none) (zKe HK))); replace BK388 := zKB BK388 hk; replace HK := zKt HK hk; replace HB := Aside0.mk hb; replace HI0 := Aside0.mk hi; clear hb hk hi ho0) | ((with_reducible refine gate_dst (N := 3) rfl ?_); refine zE 3 #[.int .i64 0, .slice none 0 0] 30 ?_; intro gb395 hg w43 hbox hb; have BK395 := Aside0.mk (hbox); have GW395 := zKg HK hg; have GE395 := Aside0.mk (Nat.le_trans HW0.out GW395.out); have NB388_395 := zl BK388 hg; have NB395_388 := zr BK388 hg; have NB0_395 := zL65 HI0 hg; have NB395_0 := zR65 HI0 hg; replace HO392 := zo HO392 hb; replace HI0 := zJ65 HI0 hb; replace BK388 := zb BK388 hb; replace HK := zKb HK hb; replace HB := zH65 HB hb; clear hb hbox hg; have hnb44 := NB395_388.out; have hnc44 := NB388_395.out; have hnb45 := NB395_0.out; have hnc45 := NB0_395.out; obtain ⟨_, _, _, _⟩ := zc2 BK395; obtain ⟨Ao47, co47, eo47⟩ := Kd.R_slice HO392.out; subst eo47) | ((with_reducible refine gate_callee (f := 36) rfl ?_); refine zG (some 7) Try.func36 #[.pointer (some ⟨g, 0, none⟩), .int .i64 12] ?_; (with_reducible refine (spec_l1Cur_pick.calls g s0_0 t393 t394 12 t396 t397 t398 w0 _ ?side1 ?side2 A3.out).mono ?_); (case side1 => exact zI65 HI0); (case side2 => exact zY65 HB); rintro e w48 ⟨rfl, hi, hb, hk⟩; refine ⟨_, rfl, ?_⟩; have n1_ := Aside0.mk (Kd.R_mono (Kd.R_keep (IsS65.apart (show IsS65 w0 _ g s0_0 t393 t394 from (zI65 HI0)) (by (with_reducible repeat (first | apply Kd.R_alloc | apply Kd.R_drewN | apply Kd.R_drew)); exact (Kd.R_mono (Kd.R_far (p := ⟨gb395, 1, none⟩) (Kd.R_far (p := ⟨gb395, 0, none⟩) (Kd.R_types HO392.out BK395.out (by decide)) (fun _ hk => hk.2) (.int .i64 t389)) (fun _ hk => hk.2) (.slice Ao47 t390.length co47)) (fun _ h_ => h_.1))) (by decide)) hk (fun _ h => h.2)) (fun _ h => h.1)); have n2_ := Aside0.mk (KeepBut.blk hk (g' := gb395) (o := .cells #[.int .i64 t389, .slice Ao47 t390.length co47] 30 (0, 0)) (zw BK395) NB395_0.out (by simp)); replace BK388 := zKB BK388 hk; replace HK := zKt HK hk; replace HB := Aside0.mk hb; replace HI0 := Aside0.mk hi; clear HO392; have HO392 := n1_; clear n1_; clear BK395; have BK395 := n2_; clear n2_; clear hb hk hi))
    go_loopg [] k (fun kq w' => ∃ (x1001_1 : Int) (x1002_1 : Int) (x396001_1 : List (S39)) (u396001 : Value), Aside0 (spec_l1Cur_puzzle.l0 kq s0_0 x1001_1 x1002_1 t389 x396001_1 = some (r1, r2, r3, r4)) ∧ Aside0 (kq ≤ k) ∧ Aside0 (Kd.R k39 39 w' w.heap.size (fun _ => True) u396001 x396001_1) ∧ Aside0 (w'.heap[gb388]? = some (.cells #[.int .i64 0, (.slice none 0 0)] 30 (0, 0))) ∧ Aside0 (w'.heap[gb395]? = some (.cells #[.int .i64 t389, u396001] 30 (0, 0))) ∧ Aside0 (IsS65 w0 w' g s0_0 x1001_1 x1002_1) ∧ Aside0 (KeepBut w w' g none) ∧ Aside0 (Below w0.heap.size w0 w'))
    case atStart => exact ⟨(t397), (t398), (t390), (.slice Ao47 t390.length co47), H', ⟨Nat.le_refl _⟩, zp HO392, zk BK388, zk BK395, ⟨(zI65 HI0)⟩, ⟨zKe HK⟩, ⟨zY65 HB⟩⟩
    case round =>
     clear H'
     obtain ⟨x1001_1, x1002_1, x396001_1, u396001, HA, HK1, HO_396001, BK388, BK395, HI0, HK, HB⟩ := hrel
     cases gk with
     | zero => exact absurd HA.out (by simp [spec_l1Cur_puzzle.l0])
     | succ k1 =>
      have H := HA.out; clear HA; simp only [spec_l1Cur_puzzle.l0] at H; replace H := Option.bind_eq_some_iff.mp H; obtain ⟨⟨t413, t414, t415⟩, A490, H⟩ := H; (try dsimp only at H); have A49 := Aside0.mk A490; clear A490
      by_cases c50 : (x396001_1.length : Int) < (wrap64 (6 + t413))
      ·rw [if_pos c50] at H
       have c50b0 : decide ((x396001_1.length : Int) < (wrap64 (6 + t413))) = true := decide_eq_true c50; clear c50
       by_cases c51 : x396001_1.length < 5864062014805
       ·rw [if_pos c51] at H
        have LMc51 := Aside0.mk c51; clear c51
        obtain ⟨y416, hy416⟩ : ∃ y_ : List (S39), y_ = (x396001_1 ++ [(⟨0, 0, 9⟩ : S39)]) := ⟨_, rfl⟩
        replace H : (spec_l1Cur_puzzle.l0 k1 s0_0 t414 t415 t389 y416) = some (r1, r2, r3, r4) := by first | (rw [hy416]; with_reducible exact H) | (have H2_ := (Option.bind_some _ _).symm.trans H; rw [hy416]; with_reducible exact H2_) | (have H2_ := (Option.bind_some _ _).symm.trans H; with_reducible exact H2_) | with_reducible exact H | (rw [hy416]; exact H) | exact H
        have Ny416 := Aside0.mk hy416; clear hy416; have H' := Aside0.mk H; clear H
        try go_wp2
        have n3_ := Aside0.mk (IsS65.drew HI0.out)
        have n4_ := Aside0.mk (keep_drew HK.out)
        replace HO_396001 := Aside0.mk (Kd.R_drew HO_396001.out); replace BK388 := Aside0.mk (blk_drew BK388.out); replace BK395 := Aside0.mk (blk_drew BK395.out); replace HB := Aside0.mk (below_drew1 HB.out); clear HI0; have HI0 := n3_; clear n3_; clear HK; have HK := n4_; clear n4_
        obtain ⟨Ao53, co53, eo53⟩ := Kd.R_slice HO_396001.out
        (first | subst eo53 | (injection eo53 with f1_ f2_ f3_; have f4_ := f1_.symm; have f5_ := f3_.symm; clear f1_ f2_ f3_; subst f4_; subst f5_))
        refine start_ (n := 7) (S := fun w' => w'.cell? ⟨gb395, 0, none⟩ = some (.int .i64 t389) ∧ w'.cell? ⟨gb395, 1, none⟩ = some (.slice Ao53 x396001_1.length co53)) (ds := []) #[false, false, false, false, false, false, false] (by kernel_rfl) rfl rfl ⟨(blk_cell BK395.out 0).trans rfl, (blk_cell BK395.out 1).trans rfl⟩ (fun hHeld => ?_)
        generalize wr.drew = w52 at HO_396001 BK388 BK395 HI0 HK HB hHeld ⊢
        refine zA0 0 25 ?_
        refine zA0 3 28 ?_
        refine zT0 1 26 hHeld ?_
        refine zA0 2 27 ?_
        refine one_ (i := 4) (N := some 29) #[true, true, true, true, true, false, false] rfl rfl (by kernel_rfl) (by decide) (fun K hK => ?_)
        refine goes_ Try.func36 (by kernel_rfl) rfl #[.pointer (some ⟨g, 0, none⟩), .int .i64 2] (by rfl) rfl rfl zO1_0 ?_
        with_reducible refine (spec_l1Cur_pick.calls g s0_0 x1001_1 x1002_1 2 t413 t414 t415 w0 _ ?side1 ?side2 A49.out).mono ?_
        (case side1 => exact zI65 HI0)
        (case side2 => exact zY65 HB)
        rintro e w54 ⟨rfl, hi, hb, hk⟩
        refine ⟨_, rfl, ?_⟩
        have n0_ := Aside0.mk (Kd.R_mono (Kd.R_keep (IsS65.apart (show IsS65 w0 _ g s0_0 x1001_1 x1002_1 from (zI65 HI0)) (zs HO_396001) (by decide)) hk (fun _ h => h.2)) (fun _ h => h.1))
        replace BK388 := zKB BK388 hk
        replace BK395 := zKB BK395 hk
        replace HK := zKt HK hk
        replace HB := Aside0.mk hb
        replace HI0 := Aside0.mk hi
        clear HO_396001; have HO_396001 := n0_; clear n0_
        (try clear hb)
        (try clear hb2)
        (try clear hk)
        (try clear hi)
        refine hK.out _ _ ⟨(blk_cell BK395.out 0).trans rfl, (blk_cell BK395.out 1).trans rfl⟩ (fun hHeld => ?_)
        clear hK K
        refine zN 29 ?_
        refine zA0 5 30 ?_
        refine zA0 6 31 ?_
        refine done_ (by kernel_rfl) ?_
        have hnb55 := NB395_388.out; have hnc55 := NB388_395.out; have hnb56 := NB395_0.out; have hnc56 := NB0_395.out
        obtain ⟨_, _, _, _⟩ := zc2 BK395
        try go_wp2_with (first | ((with_reducible refine gate_builtin (b := .append) (xs := #[.tmp 33, .tmp 35]) rfl ?_); at_builtin; refine Kd.R_append k39 w.heap.size rfl (.tmp 33) (.tmp 35) 28 39 (.agg #[(.int .i64 0), (.int .i64 0), (.int .i64 0)]) 24 rfl Try.underlying28 info39 rfl (by decide) (by omega) (.slice Ao53 x396001_1.length co53) x396001_1 (⟨0, 0, 9⟩ : S39) [.int .i64 0, .int .i64 0, .int .i64 9] (fun _ => True) (fun _ => False) rfl rfl ?aP (fun _ hk => hk.elim) ?aF ?aO (Below.refl _ _) ?aS ?aL ?_; (case aP => exact k39_mkM _ _ _ (⟨0, 0, 9⟩ : S39)); (case aF => exact (fun _ _ => trivial)); (case aO => exact (zs HO_396001)); (case aS => exact (keep_size (w := w) (g := g) (row := none) (zKe HK))); (case aL => have := LMc51.out; omega); intro v417 w58 ho hb hg hat; rw [← Ny416.out] at ho; have n0_ := Aside0.mk (blk_grown (zq BK388) hg (Kd.R_ne HO_396001.out BK388.out (by decide))); have n1_ := Aside0.mk (blk_grown (zq BK395) hg (Kd.R_ne HO_396001.out BK395.out (by decide))); have n2_ := Aside0.mk (IsS65.grown ((zI65 HI0)) hg (IsS65.own_ne HI0.out HO_396001.out (by decide))); have n3_ := Aside0.mk (below_weaken (zY65 HB) HL.out hb); have n4_ := Aside0.mk (KeepBut.trans (zKe HK) (KeepBut.of_grown hg g) (Kd.R_base2 HO_396001.out)); have HO418 := Aside0.mk (ho); clear HO_396001; clear BK388; have BK388 := n0_; clear n0_; clear BK395; have BK395 := n1_; clear n1_; clear HI0; have HI0 := n2_; clear n2_; clear HB; have HB := n3_; clear n3_; clear HK; have HK := n4_; clear n4_; clear ho hb hg hat; obtain ⟨Ao59, co59, eo59⟩ := Kd.R_slice HO418.out; subst eo59; obtain ⟨_, _, _, _⟩ := zc2 BK395))
        go_roundg k1
        case measure => have := HK1.out; omega
        case rel => exact ⟨(t414), (t415), (y416), (.slice Ao59 y416.length co59), H', ⟨by have := HK1.out; omega⟩, ⟨by (with_reducible repeat (first | apply Kd.R_alloc | apply Kd.R_drewN | apply Kd.R_drew)); exact Kd.R_mono (Kd.R_far (p := ⟨gb395, 1, none⟩) (Kd.R_types HO418.out BK395.out (by decide)) (fun _ hk => hk.2) (.slice Ao59 y416.length co59)) (fun _ hk => trivial)⟩, zk BK388, ⟨zw BK395⟩, ⟨(zI65 HI0)⟩, ⟨zKe HK⟩, ⟨zY65 HB⟩⟩
       ·rw [if_neg c51] at H
        exact absurd H (by simp)
      ·rw [if_neg c50] at H
       have c50b0 : decide ((x396001_1.length : Int) < (wrap64 (6 + t413))) = false := decide_eq_false c50; clear c50; simp only [Option.some.injEq, Prod.mk.injEq] at H; obtain ⟨rfl, rfl, rfl, rfl⟩ := H
       try go_wp2
       have n3_ := Aside0.mk (IsS65.drew HI0.out)
       have n4_ := Aside0.mk (keep_drew HK.out)
       replace HO_396001 := Aside0.mk (Kd.R_drew HO_396001.out); replace BK388 := Aside0.mk (blk_drew BK388.out); replace BK395 := Aside0.mk (blk_drew BK395.out); replace HB := Aside0.mk (below_drew1 HB.out); clear HI0; have HI0 := n3_; clear n3_; clear HK; have HK := n4_; clear n4_
       obtain ⟨Ao62, co62, eo62⟩ := Kd.R_slice HO_396001.out
       (first | subst eo62 | (injection eo62 with f1_ f2_ f3_; have f4_ := f1_.symm; have f5_ := f3_.symm; clear f1_ f2_ f3_; subst f4_; subst f5_))
       refine start_ (n := 7) (S := fun w' => w'.cell? ⟨gb395, 0, none⟩ = some (.int .i64 t389) ∧ w'.cell? ⟨gb395, 1, none⟩ = some (.slice Ao62 x396001_1.length co62)) (ds := []) #[false, false, false, false, false, false, false] (by kernel_rfl) rfl rfl ⟨(blk_cell BK395.out 0).trans rfl, (blk_cell BK395.out 1).trans rfl⟩ (fun hHeld => ?_)
       generalize wr.drew = w61 at HO_396001 BK388 BK395 HI0 HK HB hHeld ⊢
       refine zA0 0 25 ?_
       refine zA0 3 28 ?_
       refine zT0 1 26 hHeld ?_
       refine zA0 2 27 ?_
       refine one_ (i := 4) (N := some 29) #[true, true, true, true, true, false, false] rfl rfl (by kernel_rfl) (by decide) (fun K hK => ?_)
       refine goes_ Try.func36 (by kernel_rfl) rfl #[.pointer (some ⟨g, 0, none⟩), .int .i64 2] (by rfl) rfl rfl zO1_0 ?_
       with_reducible refine (spec_l1Cur_pick.calls g s0_0 x1001_1 x1002_1 2 t413 t414 t415 w0 _ ?side1 ?side2 A49.out).mono ?_
       (case side1 => exact zI65 HI0)
       (case side2 => exact zY65 HB)
       rintro e w63 ⟨rfl, hi, hb, hk⟩
       refine ⟨_, rfl, ?_⟩
       have n0_ := Aside0.mk (Kd.R_mono (Kd.R_keep (IsS65.apart (show IsS65 w0 _ g s0_0 x1001_1 x1002_1 from (zI65 HI0)) (zs HO_396001) (by decide)) hk (fun _ h => h.2)) (fun _ h => h.1))
       replace BK388 := zKB BK388 hk
       replace BK395 := zKB BK395 hk
       replace HK := zKt HK hk
       replace HB := Aside0.mk hb
       replace HI0 := Aside0.mk hi
       clear HO_396001; have HO_396001 := n0_; clear n0_
       (try clear hb)
       (try clear hb2)
       (try clear hk)
       (try clear hi)
       refine hK.out _ _ ⟨(blk_cell BK395.out 0).trans rfl, (blk_cell BK395.out 1).trans rfl⟩ (fun hHeld => ?_)
       clear hK K
       refine zN 29 ?_
       refine zA0 5 30 ?_
       refine zA0 6 31 ?_
       refine done_ (by kernel_rfl) ?_
       have hnb64 := NB395_388.out; have hnc64 := NB388_395.out; have hnb65 := NB395_0.out; have hnc65 := NB0_395.out
       obtain ⟨_, _, _, _⟩ := zc2 BK395
       have hnb67 := NB388_0.out; have hnc67 := NB0_388.out
       obtain ⟨_, _, _, _⟩ := zc2 BK388
       try go_wp2
       refine bodyPost_ret (results_cell_row rfl _ _ gb388 30 #[.int .i64 t389, .slice Ao62 x396001_1.length co62] (0, 0) _ rfl (zw BK388) Try.underlying30 rfl (by kernel_rfl)) rfl ?_
       exact ⟨_, zt, by (with_reducible repeat (first | apply Kd.R_alloc | apply Kd.R_drewN | apply Kd.R_drew)); exact Kd.R_mono (Kd.R_far (p := ⟨gb388, 1, none⟩) (Kd.R_far (p := ⟨gb388, 0, none⟩) (Kd.R_types HO_396001.out BK388.out (by decide)) (fun _ hk => hk.2) (.int .i64 t389)) (fun _ hk => hk.2) (.slice Ao62 x396001_1.length co62)) (fun _ hk => trivial), (zI65 HI0), zY65 HB, zKe HK⟩
   ·rw [if_neg c40] at H
    have c40b0 : (t396 == 2) = false := beq_eq_false_iff_ne.mpr c40
    have c40b1 : (t396 != 2) = true := bne_iff_ne.mpr c40
    simp only [Option.some.injEq, Prod.mk.injEq] at H; obtain ⟨rfl, rfl, rfl, rfl⟩ := H
    go_enter Try.func54, Try.ntmps54
    go_wp2_with (first | ((with_reducible refine gate_dst (N := 2) rfl ?_); refine zE 2 #[.int .i64 0, .slice none 0 0] 30 ?_; intro gb388 hg w69 hbox hb; have BK388 := Aside0.mk (hbox); have GW388 := zKg HK hg; have GE388 := Aside0.mk (Nat.le_trans HW0.out GW388.out); have NB0_388 := zL65 HI0 hg; have NB388_0 := zR65 HI0 hg; replace HI0 := zJ65 HI0 hb; replace HK := zKb HK hb; replace HB := zH65 HB hb; clear hb hbox hg) | ((with_reducible refine gate_callee (f := 75) rfl ?_); refine zG (some 5) Try.func75 #[.pointer (some ⟨g, 0, none⟩), .int .i64 5] ?_; (with_reducible refine (spec_l1Cur_surePuzzle.calls k g s0_0 s0_1 s0_2 5 t389 t390 t393 t394 w0 _ ?side1 ?side2 A2.out).mono ?_); (case side1 => exact zI65 HI0); (case side2 => exact zY65 HB); rintro e w70 ⟨v391, rfl, ho0, hi, hb, hk⟩; refine ⟨_, rfl, ?_⟩; have HO392 := Aside0.mk (Kd.R_lower ho0 (keep_size (w := w) (g := g) (row := none) (zKe HK))); replace BK388 := zKB BK388 hk; replace HK := zKt HK hk; replace HB := Aside0.mk hb; replace HI0 := Aside0.mk hi; clear hb hk hi ho0) | ((with_reducible refine gate_dst (N := 3) rfl ?_); refine zE 3 #[.int .i64 0, .slice none 0 0] 30 ?_; intro gb395 hg w71 hbox hb; have BK395 := Aside0.mk (hbox); have GW395 := zKg HK hg; have GE395 := Aside0.mk (Nat.le_trans HW0.out GW395.out); have NB388_395 := zl BK388 hg; have NB395_388 := zr BK388 hg; have NB0_395 := zL65 HI0 hg; have NB395_0 := zR65 HI0 hg; replace HO392 := zo HO392 hb; replace HI0 := zJ65 HI0 hb; replace BK388 := zb BK388 hb; replace HK := zKb HK hb; replace HB := zH65 HB hb; clear hb hbox hg; have hnb72 := NB395_388.out; have hnc72 := NB388_395.out; have hnb73 := NB395_0.out; have hnc73 := NB0_395.out; obtain ⟨_, _, _, _⟩ := zc2 BK395; obtain ⟨Ao75, co75, eo75⟩ := Kd.R_slice HO392.out; subst eo75) | ((with_reducible refine gate_callee (f := 36) rfl ?_); refine zG (some 7) Try.func36 #[.pointer (some ⟨g, 0, none⟩), .int .i64 12] ?_; (with_reducible refine (spec_l1Cur_pick.calls g s0_0 t393 t394 12 t396 t397 t398 w0 _ ?side1 ?side2 A3.out).mono ?_); (case side1 => exact zI65 HI0); (case side2 => exact zY65 HB); rintro e w76 ⟨rfl, hi, hb, hk⟩; refine ⟨_, rfl, ?_⟩; have n1_ := Aside0.mk (Kd.R_mono (Kd.R_keep (IsS65.apart (show IsS65 w0 _ g s0_0 t393 t394 from (zI65 HI0)) (by (with_reducible repeat (first | apply Kd.R_alloc | apply Kd.R_drewN | apply Kd.R_drew)); exact (Kd.R_mono (Kd.R_far (p := ⟨gb395, 1, none⟩) (Kd.R_far (p := ⟨gb395, 0, none⟩) (Kd.R_types HO392.out BK395.out (by decide)) (fun _ hk => hk.2) (.int .i64 t389)) (fun _ hk => hk.2) (.slice Ao75 t390.length co75)) (fun _ h_ => h_.1))) (by decide)) hk (fun _ h => h.2)) (fun _ h => h.1)); have n2_ := Aside0.mk (KeepBut.blk hk (g' := gb395) (o := .cells #[.int .i64 t389, .slice Ao75 t390.length co75] 30 (0, 0)) (zw BK395) NB395_0.out (by simp)); replace BK388 := zKB BK388 hk; replace HK := zKt HK hk; replace HB := Aside0.mk hb; replace HI0 := Aside0.mk hi; clear HO392; have HO392 := n1_; clear n1_; clear BK395; have BK395 := n2_; clear n2_; clear hb hk hi; obtain ⟨_, _, _, _⟩ := zc2 BK395; have hnb78 := NB388_0.out; have hnc78 := NB0_388.out; obtain ⟨_, _, _, _⟩ := zc2 BK388))
    refine bodyPost_ret (results_cell_row rfl _ _ gb388 30 #[.int .i64 t389, .slice Ao75 t390.length co75] (0, 0) _ rfl (zw BK388) Try.underlying30 rfl (by kernel_rfl)) rfl ?_
    exact ⟨_, zt, by (with_reducible repeat (first | apply Kd.R_alloc | apply Kd.R_drewN | apply Kd.R_drew)); exact Kd.R_mono (Kd.R_far (p := ⟨gb388, 1, none⟩) (Kd.R_far (p := ⟨gb388, 0, none⟩) (Kd.R_types HO392.out BK388.out (by decide)) (fun _ hk => hk.2) (.int .i64 t389)) (fun _ hk => hk.2) (.slice Ao75 t390.length co75)) (fun _ hk => trivial), (zI65 HI0), zY65 HB, zKe HK⟩


/-! ### spec_DrawHarderPuzzle: function 14 -/
def spec_DrawHarderPuzzle.f (k : Nat) (l0 : List Int) : Option (Int × (List (S39))) := (spec_l1Cur_one.f l0 0 0 4).bind fun bt421 => (if bt421.1 = true then ((spec_l1Cur_puzzle.f k l0 bt421.2.1 bt421.2.2).bind fun bt424 => (some (bt424.1, bt424.2.1))) else ((spec_l1Cur_hidden.f l0 bt421.2.1 bt421.2.2).bind fun bt430 => ((spec_l1Cur_pick.f l0 bt430.2.2.2.1 bt430.2.2.2.2 3).bind fun bt436 => ((spec_l1Cur_pick.f l0 bt436.2.1 bt436.2.2 10000).bind fun bt439 => ((spec_MakePuzzle.f k bt430.1 bt430.2.1 bt430.2.2.1 bt436.1 bt439.1).bind fun bt442 => ((spec_pzOf.f k 0 0 bt430.1 bt430.2.1 bt430.2.2.1).bind fun bt448 => ((spec_pzOf.f k 5 0 bt430.1 bt430.2.1 bt430.2.2.1).bind fun bt451 => ((spec_pzOf.f k 4 0 bt430.1 bt430.2.1 bt430.2.2.1).bind fun bt454 => ((some (([(⟨bt448.1, bt448.2.1, bt448.2.2⟩ : S39), (⟨bt451.1, bt451.2.1, bt451.2.2⟩ : S39), (⟨bt454.1, bt454.2.1, bt454.2.2⟩ : S39)] : List (S39)) : List (S39))).bind fun y457 => (if bt442.2.1.length + y457.length < 5864062014805 then (some (bt442.1, (bt442.2.1 ++ y457))) else (none)))))))))))
def spec_DrawHarderPuzzle.T5 : Bool × List (List Nat × List Nat) := (true, [([], []), ([], []), ([1], [1]), ([], []), ([3, 2], [3]), ([0, 2, 4, 4], [0, 2, 4]), ([5], [5]), ([6], [6]), ([6], [6]), ([], []), ([9, 7, 5, 0, 1, 2, 3, 4, 5, 6, 7, 9], [7, 9]), ([8, 10, 0, 1, 2, 3, 4, 5, 6, 7, 8, 9, 10], [8])])
def spec_DrawHarderPuzzle.B5 : List Nat := [0, 0, 2, 0, 14, 31, 63, 127, 127, 0, 767, 2047]
theorem spec_DrawHarderPuzzle.tab5 : rtab .any (opsOf Try.f14 5) = spec_DrawHarderPuzzle.T5 := by kernel_rfl
theorem spec_DrawHarderPuzzle.bits5 : waitsOk spec_DrawHarderPuzzle.T5.2 spec_DrawHarderPuzzle.B5 = true := by kernel_rfl
def spec_DrawHarderPuzzle.T6 : Bool × List (List Nat × List Nat) := (true, [([], []), ([0], [0]), ([], []), ([2], [2]), ([], []), ([4, 3], [4]), ([], []), ([6, 5], [6]), ([3, 5, 7], [3, 5, 7]), ([1, 8, 7], [1, 8]), ([0, 1, 2, 3, 4, 5, 6, 7, 8, 9], []), ([10, 9, 9, 0, 1, 2, 3, 4, 5, 6, 7, 8, 9], [9, 10])])
def spec_DrawHarderPuzzle.B6 : List Nat := [0, 1, 0, 4, 0, 28, 0, 124, 252, 511, 1023, 2047]
theorem spec_DrawHarderPuzzle.tab6 : rtab .any (opsOf Try.f14 6) = spec_DrawHarderPuzzle.T6 := by kernel_rfl
theorem spec_DrawHarderPuzzle.bits6 : waitsOk spec_DrawHarderPuzzle.T6.2 spec_DrawHarderPuzzle.B6 = true := by kernel_rfl
set_option maxHeartbeats 8000000 in
set_option maxRecDepth 100000 in
theorem spec_DrawHarderPuzzle.calls (k : Nat) (A0 : Option Addr) (c0 : Nat) (l0 : List Int) (r1 : Int) (r2 : List (S39)) (w : World) (hr0 : Kd.C (Kd.int .u8) w A0 l0.length l0) (hc0 : l0.length ≤ c0) (h : spec_DrawHarderPuzzle.f k l0 = some (r1, r2)) :
  Calls Try.prog 14 #[.slice A0 l0.length c0] w fun e w' => ∃ v1_ : Value, e = .returned (.agg #[.int .i64 r1, v1_]) ∧ Kd.R k39 39 w' w.heap.size (fun _ => True) v1_ r2 ∧ Below w.heap.size w w' := by
 have hu30 := Try.underlying30; have hu65 := Try.underlying65; have hu25 := Try.underlying25; have HR0 := Aside0.mk hr0; have HC0 := Aside0.mk hc0; clear hr0 hc0
 have HB := Aside0.mk (Below.refl w.heap.size w)
 have H : ((spec_l1Cur_one.f l0 0 0 4).bind fun bt421 => (if bt421.1 = true then ((spec_l1Cur_puzzle.f k l0 bt421.2.1 bt421.2.2).bind fun bt424 => (some (bt424.1, bt424.2.1))) else ((spec_l1Cur_hidden.f l0 bt421.2.1 bt421.2.2).bind fun bt430 => ((spec_l1Cur_pick.f l0 bt430.2.2.2.1 bt430.2.2.2.2 3).bind fun bt436 => ((spec_l1Cur_pick.f l0 bt436.2.1 bt436.2.2 10000).bind fun bt439 => ((spec_MakePuzzle.f k bt430.1 bt430.2.1 bt430.2.2.1 bt436.1 bt439.1).bind fun bt442 => ((spec_pzOf.f k 0 0 bt430.1 bt430.2.1 bt430.2.2.1).bind fun bt448 => ((spec_pzOf.f k 5 0 bt430.1 bt430.2.1 bt430.2.2.1).bind fun bt451 => ((spec_pzOf.f k 4 0 bt430.1 bt430.2.1 bt430.2.2.1).bind fun bt454 => ((some (([(⟨bt448.1, bt448.2.1, bt448.2.2⟩ : S39), (⟨bt451.1, bt451.2.1, bt451.2.2⟩ : S39), (⟨bt454.1, bt454.2.1, bt454.2.2⟩ : S39)] : List (S39)) : List (S39))).bind fun y457 => (if bt442.2.1.length + y457.length < 5864062014805 then (some (bt442.1, (bt442.2.1 ++ y457))) else (none)))))))))))) = some (r1, r2) := h
 clear h; replace H := Option.bind_eq_some_iff.mp H; obtain ⟨⟨t421, t422, t423⟩, A20, H⟩ := H; (try dsimp only at H); have A2 := Aside0.mk A20; clear A20
 by_cases c3 : t421 = true
 ·subst c3
  rw [if_pos rfl] at H; replace H := Option.bind_eq_some_iff.mp H; obtain ⟨⟨t424, t425, t428, t429⟩, A40, H⟩ := H
  replace H : (some (t424, t425)) = some (r1, r2) := H
  have A4 := Aside0.mk A40; clear A40; simp only [Option.some.injEq, Prod.mk.injEq] at H; obtain ⟨rfl, rfl⟩ := H
  go_enter Try.func14, Try.ntmps14
  go_wp2_with (first | ((with_reducible refine gate_dst (N := 2) rfl ?_); refine zE 2 #[.int .i64 0, .slice none 0 0] 30 ?_; intro gb419 hg w5 hbox hb; have BK419 := Aside0.mk (hbox); have GW419 := zg HB hg; have GE419 := GW419; replace HB := zh HB hb; clear hb hbox hg) | ((with_reducible refine gate_dst (N := 9) rfl ?_); refine zE 9 #[.slice A0 l0.length c0, .int .i64 0, .int .u64 0] 65 ?_; intro gb420 hg w6 hbox hb; have HI420 := Aside0.mk ((show IsS65 w _ gb420 l0 0 0 from ⟨_, _, hbox, (by rw [hg]; exact (below_size (zy HB)) : w.heap.size ≤ gb420), HR0.out⟩)); have GW420 := zg HB hg; have GE420 := GW420; have NB419_420 := zl BK419 hg; have NB420_419 := zr BK419 hg; replace BK419 := zb BK419 hb; replace HB := zh HB hb; clear hb hbox hg) | ((with_reducible refine gate_callee (f := 32) rfl ?_); refine zG (some 11) Try.func32 #[.pointer (some ⟨gb420, 0, none⟩), .int .i64 4] ?_; (with_reducible refine (spec_l1Cur_one.calls gb420 l0 0 0 4 true t422 t423 w _ ?side1 ?side2 A2.out).mono ?_); (case side1 => exact zI65 HI420); (case side2 => exact zY65 HB); rintro e w7 ⟨rfl, hi, hb, hk⟩; refine ⟨_, rfl, ?_⟩; replace BK419 := zKB BK419 hk; replace HB := Aside0.mk hb; replace HI420 := Aside0.mk hi; clear hb hk hi) | ((with_reducible refine gate_callee (f := 54) rfl ?_); refine zG (some 13) Try.func54 #[.pointer (some ⟨gb420, 0, none⟩)] ?_; (with_reducible refine (spec_l1Cur_puzzle.calls k gb420 l0 t422 t423 t424 t425 t428 t429 w _ ?side1 ?side2 A4.out).mono ?_); (case side1 => exact zI65 HI420); (case side2 => exact zY65 HB); rintro e w8 ⟨v426, rfl, ho0, hi, hb, hk⟩; refine ⟨_, rfl, ?_⟩; have HO427 := Aside0.mk (Kd.R_lower ho0 (below_size (zY65 HB))); replace BK419 := zKB BK419 hk; replace HB := Aside0.mk hb; replace HI420 := Aside0.mk hi; clear hb hk hi ho0; have hnb9 := NB419_420.out; have hnc9 := NB420_419.out; obtain ⟨_, _, _, _⟩ := zc2 BK419; obtain ⟨Ao11, co11, eo11⟩ := Kd.R_slice HO427.out; subst eo11))
  refine bodyPost_ret (results_cell_row rfl _ _ gb419 30 #[.int .i64 t424, .slice Ao11 t425.length co11] (0, 0) _ rfl (zw BK419) Try.underlying30 rfl (by kernel_rfl)) rfl ?_
  exact ⟨_, zt, by (with_reducible repeat (first | apply Kd.R_alloc | apply Kd.R_drewN | apply Kd.R_drew)); exact Kd.R_mono (Kd.R_far (p := ⟨gb419, 1, none⟩) (Kd.R_far (p := ⟨gb419, 0, none⟩) (Kd.R_types HO427.out BK419.out (by decide)) (fun _ hk => hk.2) (.int .i64 t424)) (fun _ hk => hk.2) (.slice Ao11 t425.length co11)) (fun _ hk => trivial), zY65 HB⟩
 ·replace c3 := Bool.eq_false_iff.mpr c3
  subst c3; rw [if_neg (show ¬ (false = true) by decide)] at H; replace H := Option.bind_eq_some_iff.mp H; obtain ⟨⟨t430, t431, t432, t433, t434⟩, A120, H⟩ := H; (try dsimp only at H); have A12 := Aside0.mk A120; clear A120; replace H := Option.bind_eq_some_iff.mp H; obtain ⟨⟨t436, t437, t438⟩, A130, H⟩ := H; (try dsimp only at H); have A13 := Aside0.mk A130; clear A130; replace H := Option.bind_eq_some_iff.mp H; obtain ⟨⟨t439, t440, t441⟩, A140, H⟩ := H; (try dsimp only at H); have A14 := Aside0.mk A140; clear A140; replace H := Option.bind_eq_some_iff.mp H; obtain ⟨⟨t442, t443, t446⟩, A150, H⟩ := H; (try dsimp only at H); have A15 := Aside0.mk A150; clear A150; replace H := Option.bind_eq_some_iff.mp H; obtain ⟨⟨t448, t449, t450⟩, A160, H⟩ := H; (try dsimp only at H); have A16 := Aside0.mk A160; clear A160; replace H := Option.bind_eq_some_iff.mp H; obtain ⟨⟨t451, t452, t453⟩, A170, H⟩ := H; (try dsimp only at H); have A17 := Aside0.mk A170; clear A170; replace H := Option.bind_eq_some_iff.mp H; obtain ⟨⟨t454, t455, t456⟩, A180, H⟩ := H; (try dsimp only at H); have A18 := Aside0.mk A180; clear A180
  obtain ⟨y457, hy457⟩ : ∃ y_ : List (S39), y_ = (([(⟨t448, t449, t450⟩ : S39), (⟨t451, t452, t453⟩ : S39), (⟨t454, t455, t456⟩ : S39)] : List (S39))) := ⟨_, rfl⟩
  replace H : (if t443.length + y457.length < 5864062014805 then (some (t442, (t443 ++ y457))) else (none)) = some (r1, r2) := by first | (rw [hy457]; with_reducible exact H) | (have H2_ := (Option.bind_some _ _).symm.trans H; rw [hy457]; with_reducible exact H2_) | (have H2_ := (Option.bind_some _ _).symm.trans H; with_reducible exact H2_) | with_reducible exact H | (rw [hy457]; exact H) | exact H
  have Ny457 := Aside0.mk hy457; clear hy457
  by_cases c19 : t443.length + y457.length < 5864062014805
  ·rw [if_pos c19] at H
   have LMc19 := Aside0.mk c19; clear c19
   obtain ⟨y460, hy460⟩ : ∃ y_ : List (S39), y_ = (t443 ++ y457) := ⟨_, rfl⟩
   replace H : (some (t442, y460)) = some (r1, r2) := by first | (rw [hy460]; with_reducible exact H) | (have H2_ := (Option.bind_some _ _).symm.trans H; rw [hy460]; with_reducible exact H2_) | (have H2_ := (Option.bind_some _ _).symm.trans H; with_reducible exact H2_) | with_reducible exact H | (rw [hy460]; exact H) | exact H
   have Ny460 := Aside0.mk hy460; clear hy460; simp only [Option.some.injEq, Prod.mk.injEq] at H; obtain ⟨rfl, rfl⟩ := H
   go_enter Try.func14, Try.ntmps14
   try go_wp2_with (first | ((with_reducible refine gate_dst (N := 2) rfl ?_); refine zE 2 #[.int .i64 0, .slice none 0 0] 30 ?_; intro gb419 hg w20 hbox hb; have BK419 := Aside0.mk (hbox); have GW419 := zg HB hg; have GE419 := GW419; replace HB := zh HB hb; clear hb hbox hg) | ((with_reducible refine gate_dst (N := 9) rfl ?_); refine zE 9 #[.slice A0 l0.length c0, .int .i64 0, .int .u64 0] 65 ?_; intro gb420 hg w21 hbox hb; have HI420 := Aside0.mk ((show IsS65 w _ gb420 l0 0 0 from ⟨_, _, hbox, (by rw [hg]; exact (below_size (zy HB)) : w.heap.size ≤ gb420), HR0.out⟩)); have GW420 := zg HB hg; have GE420 := GW420; have NB419_420 := zl BK419 hg; have NB420_419 := zr BK419 hg; replace BK419 := zb BK419 hb; replace HB := zh HB hb; clear hb hbox hg) | ((with_reducible refine gate_callee (f := 32) rfl ?_); refine zG (some 11) Try.func32 #[.pointer (some ⟨gb420, 0, none⟩), .int .i64 4] ?_; (with_reducible refine (spec_l1Cur_one.calls gb420 l0 0 0 4 false t422 t423 w _ ?side1 ?side2 A2.out).mono ?_); (case side1 => exact zI65 HI420); (case side2 => exact zY65 HB); rintro e w22 ⟨rfl, hi, hb, hk⟩; refine ⟨_, rfl, ?_⟩; replace BK419 := zKB BK419 hk; replace HB := Aside0.mk hb; replace HI420 := Aside0.mk hi; clear hb hk hi) | ((with_reducible refine gate_callee (f := 35) rfl ?_); refine zG (some 15) Try.func35 #[.pointer (some ⟨gb420, 0, none⟩)] ?_; (with_reducible refine (spec_l1Cur_hidden.calls gb420 l0 t422 t423 t430 t431 t432 t433 t434 w _ ?side1 ?side2 A12.out).mono ?_); (case side1 => exact zI65 HI420); (case side2 => exact zY65 HB); rintro e w23 ⟨rfl, hi, hb, hk⟩; refine ⟨_, rfl, ?_⟩; replace BK419 := zKB BK419 hk; replace HB := Aside0.mk hb; replace HI420 := Aside0.mk hi; clear hb hk hi) | ((with_reducible refine gate_dst (N := 4) rfl ?_); refine zE 4 #[.int .i64 0, .int .i64 0, .int .i64 0] 25 ?_; intro gb435 hg w24 hbox hb; have BK435 := Aside0.mk (hbox); have GW435 := Aside0.mk ((by rw [hg]; exact (below_size (zY65 HB)) : w.heap.size ≤ gb435)); have GE435 := Aside0.mk ((by rw [hg]; exact (below_size (zY65 HB)) : w.heap.size ≤ gb435)); have NB419_435 := zl BK419 hg; have NB435_419 := zr BK419 hg; have NB420_435 := zL65 HI420 hg; have NB435_420 := zR65 HI420 hg; replace BK419 := zb BK419 hb; replace HI420 := zJ65 HI420 hb; replace HB := zH65 HB hb; clear hb hbox hg; have hnb25 := NB435_419.out; have hnc25 := NB419_435.out; have hnb26 := NB435_420.out; have hnc26 := NB420_435.out; obtain ⟨_, _, _, _, _, _⟩ := zc3 BK435))
   have n0_ : Aside0 ((((w24.setCell ⟨gb435, 0, none⟩ (.int .i64 t430)).setCell ⟨gb435, 1, none⟩ (.int .i64 t431)).setCell ⟨gb435, 2, none⟩ (.int .i64 t432)).heap[gb419]? = some (.cells #[.int .i64 0, .slice none 0 0] 30 (0, 0))) := ⟨zw BK419⟩
   have n1_ : Aside0 ((((w24.setCell ⟨gb435, 0, none⟩ (.int .i64 t430)).setCell ⟨gb435, 1, none⟩ (.int .i64 t431)).setCell ⟨gb435, 2, none⟩ (.int .i64 t432)).heap[gb435]? = some (.cells #[.int .i64 t430, .int .i64 t431, .int .i64 t432] 25 (0, 0))) := ⟨zw BK435⟩
   have n2_ : Aside0 (IsS65 w (((w24.setCell ⟨gb435, 0, none⟩ (.int .i64 t430)).setCell ⟨gb435, 1, none⟩ (.int .i64 t431)).setCell ⟨gb435, 2, none⟩ (.int .i64 t432)) gb420 l0 t433 t434) := ⟨(zI65 HI420)⟩
   have n3_ : Aside0 (Below w.heap.size w (((w24.setCell ⟨gb435, 0, none⟩ (.int .i64 t430)).setCell ⟨gb435, 1, none⟩ (.int .i64 t431)).setCell ⟨gb435, 2, none⟩ (.int .i64 t432))) := ⟨zY65 HB⟩
   (try clear BK419)
   (try clear BK435)
   (try clear HI420)
   (try clear HB)
   generalize (((w24.setCell ⟨gb435, 0, none⟩ (.int .i64 t430)).setCell ⟨gb435, 1, none⟩ (.int .i64 t431)).setCell ⟨gb435, 2, none⟩ (.int .i64 t432)) = w28 at n0_ n1_ n2_ n3_ ⊢
   have BK419 := n0_; have BK435 := n1_; have HI420 := n2_; have HB := n3_; clear n0_ n1_ n2_ n3_
   have n2_ := Aside0.mk (IsS65.drew HI420.out)
   replace BK419 := Aside0.mk (blk_drew BK419.out); replace BK435 := Aside0.mk (blk_drew BK435.out); replace HB := Aside0.mk (below_drew1 HB.out); clear HI420; have HI420 := n2_; clear n2_
   refine start_ (n := 12) (S := fun w' => w'.cell? ⟨gb435, 0, none⟩ = some (.int .i64 t430) ∧ w'.cell? ⟨gb435, 1, none⟩ = some (.int .i64 t431) ∧ w'.cell? ⟨gb435, 2, none⟩ = some (.int .i64 t432)) (ds := []) #[false, false, false, false, false, false, false, false, false, false, false, false] (by kernel_rfl) rfl rfl ⟨(blk_cell BK435.out 0).trans rfl, (blk_cell BK435.out 1).trans rfl, (blk_cell BK435.out 2).trans rfl⟩ (fun hHeld => ?_); refine with_tabW spec_DrawHarderPuzzle.tab5 spec_DrawHarderPuzzle.bits5 (fun HT_ HW_ => ?_)
   generalize w28.drew = w29 at BK419 BK435 HI420 HB hHeld ⊢
   refine zA 1 18 HT_ ?_
   refine zA 3 20 HT_ ?_
   refine zT 0 17 HT_ HW_ hHeld ?_
   refine join_ (σ := Value × Nat) 2 #[true, true, true, true, true, true, true, true, true, true, false, false] (fun s_ => [(19, .int .i64 t436), (21, .int .i64 t439), (22, .tuple #[.agg #[.int .i64 t442, s_.1], .bool t446]), (5, .pointer (some ⟨s_.2, 0, none⟩)), (16, .tuple #[.agg #[.int .i64 t442, s_.1], .bool t446]), (23, .agg #[.int .i64 t442, s_.1]), (24, .bool t446)]) (fun s_ w' => (w'.cell? ⟨gb435, 0, none⟩ = some (.int .i64 t430) ∧ w'.cell? ⟨gb435, 1, none⟩ = some (.int .i64 t431) ∧ w'.cell? ⟨gb435, 2, none⟩ = some (.int .i64 t432)) ∧ (Kd.R k39 39 w' w.heap.size (fun _ => True) s_.1 t443) ∧ (w'.heap[gb419]? = some (.cells #[.int .i64 0, .slice none 0 0] 30 (0, 0))) ∧ (w'.heap[gb435]? = some (.cells #[.int .i64 t430, .int .i64 t431, .int .i64 t432] 25 (0, 0))) ∧ (w'.heap[s_.2]? = some (.cells #[.int .i64 0, .slice none 0 0] 30 (0, 0))) ∧ (w.heap.size ≤ s_.2) ∧ (w.heap.size ≤ s_.2) ∧ (gb420 ≠ s_.2) ∧ (s_.2 ≠ gb420) ∧ (gb419 ≠ s_.2) ∧ (s_.2 ≠ gb419) ∧ (gb435 ≠ s_.2) ∧ (s_.2 ≠ gb435) ∧ (IsS65 w w' gb420 l0 t440 t441) ∧ (Below w.heap.size w w')) ?_ ?_
   rotate_left
   ·intro hCont
    refine two_ (i := 2) (j := 9) (Ni := some 19) (Nj := some 5) #[true, true, true, true, false, false, false, false, false, false, false, false] #[true, true, false, true, false, false, false, false, false, true, false, false] rfl rfl rfl rfl (two_of HT_.out (by kernel_rfl)) (by decide) (by decide) (fun K hK => ?_) (fun K hK => ?_)
    ·skip
     refine goes_ Try.func36 (by kernel_rfl) rfl #[.pointer (some ⟨gb420, 0, none⟩), .int .i64 3] (by rfl) rfl rfl zO1_0 ?_
     with_reducible refine (spec_l1Cur_pick.calls gb420 l0 t433 t434 3 t436 t437 t438 w _ ?side1 ?side2 A13.out).mono ?_
     (case side1 => exact zI65 HI420)
     (case side2 => exact zY65 HB)
     rintro e w30 ⟨rfl, hi, hb, hk⟩
     refine ⟨_, rfl, ?_⟩
     replace BK419 := zKB BK419 hk
     replace BK435 := zKB BK435 hk
     replace HB := Aside0.mk hb
     replace HI420 := Aside0.mk hi
     (try clear hb)
     (try clear hb2)
     (try clear hk)
     (try clear hi)
     refine hK.out _ _ ⟨(blk_cell BK435.out 0).trans rfl, (blk_cell BK435.out 1).trans rfl, (blk_cell BK435.out 2).trans rfl⟩ (fun hHeld => ?_)
     clear hK K
     refine zN 19 ?_
     refine two_ (i := 4) (j := 9) (Ni := some 21) (Nj := some 5) #[true, true, true, true, true, false, false, false, false, false, false, false] #[true, true, true, true, false, false, false, false, false, true, false, false] rfl rfl rfl rfl (two_of HT_.out (by kernel_rfl)) (by decide) (by decide) (fun K hK => ?_) (fun K hK => ?_)
     ·skip
      refine goes_ Try.func36 (by kernel_rfl) rfl #[.pointer (some ⟨gb420, 0, none⟩), .int .i64 10000] (by rfl) rfl rfl zO1_0 ?_
      with_reducible refine (spec_l1Cur_pick.calls gb420 l0 t437 t438 10000 t439 t440 t441 w _ ?side1 ?side2 A14.out).mono ?_
      (case side1 => exact zI65 HI420)
      (case side2 => exact zY65 HB)
      rintro e w31 ⟨rfl, hi, hb, hk⟩
      refine ⟨_, rfl, ?_⟩
      replace BK419 := zKB BK419 hk
      replace BK435 := zKB BK435 hk
      replace HB := Aside0.mk hb
      replace HI420 := Aside0.mk hi
      (try clear hb)
      (try clear hb2)
      (try clear hk)
      (try clear hi)
      refine hK.out _ _ ⟨(blk_cell BK435.out 0).trans rfl, (blk_cell BK435.out 1).trans rfl, (blk_cell BK435.out 2).trans rfl⟩ (fun hHeld => ?_)
      clear hK K
      refine zN 21 ?_
      refine two_ (i := 5) (j := 9) (Ni := some 22) (Nj := some 5) #[true, true, true, true, true, true, false, false, false, false, false, false] #[true, true, true, true, true, false, false, false, false, true, false, false] rfl rfl rfl rfl (two_of HT_.out (by kernel_rfl)) (by decide) (by decide) (fun K hK => ?_) (fun K hK => ?_)
      ·skip
       refine goes_ Try.func7 (by kernel_rfl) rfl #[.agg #[.int .i64 t430, .int .i64 t431, .int .i64 t432], .int .i64 t436, .int .i64 t439] (by rfl) rfl rfl zO1_0 ?_
       with_reducible refine (spec_MakePuzzle.calls k t430 t431 t432 t436 t439 t442 t443 t446 _ A15.out).mono ?_
       rintro e w32 ⟨v444, rfl, ho0, hb⟩
       refine ⟨_, rfl, ?_⟩
       have HO445 := Aside0.mk (Kd.R_lower ho0 (below_size (zY65 HB)))
       replace BK419 := zb BK419 hb; replace HI420 := zJ65 HI420 hb; replace BK435 := zb BK435 hb; replace HB := zH65 HB hb
       (try clear hb)
       (try clear hb2)
       (try clear hk)
       (try clear hi)
       (try clear ho0)
       refine hK.out _ _ ⟨(blk_cell BK435.out 0).trans rfl, (blk_cell BK435.out 1).trans rfl, (blk_cell BK435.out 2).trans rfl⟩ (fun hHeld => ?_)
       clear hK K
       refine zN 22 ?_
       refine zA 6 16 HT_ ?_
       refine zA 7 23 HT_ ?_
       refine zA 8 24 HT_ ?_
       refine zO 9 (some 5) HT_ (fun K hK => ?_)
       refine box_step ?hg (N := 5) ?hd (cs := #[.int .i64 0, .slice none 0 0]) (t := 30) ?hr ?_; (case hd => rfl); (case hg => rfl); (case hr => first | (go_simp; done) | (go_simp; rfl))
       intro gb447 hg w33 hbox hb
       have BK447 := Aside0.mk (hbox)
       have GW447 := Aside0.mk ((by rw [hg]; exact (below_size (zY65 HB)) : w.heap.size ≤ gb447))
       have GE447 := Aside0.mk ((by rw [hg]; exact (below_size (zY65 HB)) : w.heap.size ≤ gb447))
       have NB419_447 := zl BK419 hg
       have NB447_419 := zr BK419 hg
       have NB435_447 := zl BK435 hg
       have NB447_435 := zr BK435 hg
       have NB420_447 := zL65 HI420 hg
       have NB447_420 := zR65 HI420 hg
       replace HO445 := zo HO445 hb; replace BK419 := zb BK419 hb; replace HI420 := zJ65 HI420 hb; replace BK435 := zb BK435 hb; replace HB := zH65 HB hb; clear hb hbox hg
       refine hK.out _ _ ⟨(blk_cell BK435.out 0).trans rfl, (blk_cell BK435.out 1).trans rfl, (blk_cell BK435.out 2).trans rfl⟩ (fun hHeld => ?_)
       clear hK K
       refine zN 5 ?_
       exact norm_ zO1_2 (hCont (v444, gb447) _ ⟨hHeld, (zs HO445), (zq BK419), (zq BK435), (zq BK447), GW447.out, GE447.out, NB420_447.out, NB447_420.out, NB419_447.out, NB447_419.out, NB435_447.out, NB447_435.out, ((zI65 HI420)), (zY65 HB)⟩)
      ·skip
       refine box_step ?hg (N := 5) ?hd (cs := #[.int .i64 0, .slice none 0 0]) (t := 30) ?hr ?_; (case hd => rfl); (case hg => rfl); (case hr => first | (go_simp; done) | (go_simp; rfl))
       intro gb447 hg w32 hbox hb
       have BK447 := Aside0.mk (hbox)
       have GW447 := Aside0.mk ((by rw [hg]; exact (below_size (zY65 HB)) : w.heap.size ≤ gb447))
       have GE447 := Aside0.mk ((by rw [hg]; exact (below_size (zY65 HB)) : w.heap.size ≤ gb447))
       have NB419_447 := zl BK419 hg
       have NB447_419 := zr BK419 hg
       have NB435_447 := zl BK435 hg
       have NB447_435 := zr BK435 hg
       have NB420_447 := zL65 HI420 hg
       have NB447_420 := zR65 HI420 hg
       replace BK419 := zb BK419 hb; replace HI420 := zJ65 HI420 hb; replace BK435 := zb BK435 hb; replace HB := zH65 HB hb; clear hb hbox hg
       refine hK.out _ _ ⟨(blk_cell BK435.out 0).trans rfl, (blk_cell BK435.out 1).trans rfl, (blk_cell BK435.out 2).trans rfl⟩ (fun hHeld => ?_)
       clear hK K
       refine zN 5 ?_
       refine zO 5 (some 22) HT_ (fun K hK => ?_)
       refine goes_ Try.func7 (by kernel_rfl) rfl #[.agg #[.int .i64 t430, .int .i64 t431, .int .i64 t432], .int .i64 t436, .int .i64 t439] (by rfl) rfl rfl zO1_0 ?_
       with_reducible refine (spec_MakePuzzle.calls k t430 t431 t432 t436 t439 t442 t443 t446 _ A15.out).mono ?_
       rintro e w33 ⟨v444, rfl, ho0, hb⟩
       refine ⟨_, rfl, ?_⟩
       have HO445 := Aside0.mk (Kd.R_lower ho0 (below_size (zY65 HB)))
       replace BK419 := zb BK419 hb; replace HI420 := zJ65 HI420 hb; replace BK435 := zb BK435 hb; replace BK447 := zb BK447 hb; replace HB := zH65 HB hb
       (try clear hb)
       (try clear hb2)
       (try clear hk)
       (try clear hi)
       (try clear ho0)
       refine hK.out _ _ ⟨(blk_cell BK435.out 0).trans rfl, (blk_cell BK435.out 1).trans rfl, (blk_cell BK435.out 2).trans rfl⟩ (fun hHeld => ?_)
       clear hK K
       refine zN 22 ?_
       refine zA 6 16 HT_ ?_
       refine zA 7 23 HT_ ?_
       refine zA 8 24 HT_ ?_
       exact norm_ zO1_2 (hCont (v444, gb447) _ ⟨hHeld, (zs HO445), (zq BK419), (zq BK435), (zq BK447), GW447.out, GE447.out, NB420_447.out, NB447_420.out, NB419_447.out, NB447_419.out, NB435_447.out, NB447_435.out, ((zI65 HI420)), (zY65 HB)⟩)
     ·skip
      refine box_step ?hg (N := 5) ?hd (cs := #[.int .i64 0, .slice none 0 0]) (t := 30) ?hr ?_; (case hd => rfl); (case hg => rfl); (case hr => first | (go_simp; done) | (go_simp; rfl))
      intro gb447 hg w31 hbox hb
      have BK447 := Aside0.mk (hbox)
      have GW447 := Aside0.mk ((by rw [hg]; exact (below_size (zY65 HB)) : w.heap.size ≤ gb447))
      have GE447 := Aside0.mk ((by rw [hg]; exact (below_size (zY65 HB)) : w.heap.size ≤ gb447))
      have NB419_447 := zl BK419 hg
      have NB447_419 := zr BK419 hg
      have NB435_447 := zl BK435 hg
      have NB447_435 := zr BK435 hg
      have NB420_447 := zL65 HI420 hg
      have NB447_420 := zR65 HI420 hg
      replace BK419 := zb BK419 hb; replace HI420 := zJ65 HI420 hb; replace BK435 := zb BK435 hb; replace HB := zH65 HB hb; clear hb hbox hg
      refine hK.out _ _ ⟨(blk_cell BK435.out 0).trans rfl, (blk_cell BK435.out 1).trans rfl, (blk_cell BK435.out 2).trans rfl⟩ (fun hHeld => ?_)
      clear hK K
      refine zN 5 ?_
      refine zO 4 (some 21) HT_ (fun K hK => ?_)
      refine goes_ Try.func36 (by kernel_rfl) rfl #[.pointer (some ⟨gb420, 0, none⟩), .int .i64 10000] (by rfl) rfl rfl zO1_0 ?_
      with_reducible refine (spec_l1Cur_pick.calls gb420 l0 t437 t438 10000 t439 t440 t441 w _ ?side1 ?side2 A14.out).mono ?_
      (case side1 => exact zI65 HI420)
      (case side2 => exact zY65 HB)
      rintro e w32 ⟨rfl, hi, hb, hk⟩
      refine ⟨_, rfl, ?_⟩
      replace BK419 := zKB BK419 hk
      replace BK435 := zKB BK435 hk
      replace BK447 := zKB BK447 hk
      replace HB := Aside0.mk hb
      replace HI420 := Aside0.mk hi
      (try clear hb)
      (try clear hb2)
      (try clear hk)
      (try clear hi)
      refine hK.out _ _ ⟨(blk_cell BK435.out 0).trans rfl, (blk_cell BK435.out 1).trans rfl, (blk_cell BK435.out 2).trans rfl⟩ (fun hHeld => ?_)
      clear hK K
      refine zN 21 ?_
      refine zO 5 (some 22) HT_ (fun K hK => ?_)
      refine goes_ Try.func7 (by kernel_rfl) rfl #[.agg #[.int .i64 t430, .int .i64 t431, .int .i64 t432], .int .i64 t436, .int .i64 t439] (by rfl) rfl rfl zO1_0 ?_
      with_reducible refine (spec_MakePuzzle.calls k t430 t431 t432 t436 t439 t442 t443 t446 _ A15.out).mono ?_
      rintro e w33 ⟨v444, rfl, ho0, hb⟩
      refine ⟨_, rfl, ?_⟩
      have HO445 := Aside0.mk (Kd.R_lower ho0 (below_size (zY65 HB)))
      replace BK419 := zb BK419 hb; replace HI420 := zJ65 HI420 hb; replace BK435 := zb BK435 hb; replace BK447 := zb BK447 hb; replace HB := zH65 HB hb
      (try clear hb)
      (try clear hb2)
      (try clear hk)
      (try clear hi)
      (try clear ho0)
      refine hK.out _ _ ⟨(blk_cell BK435.out 0).trans rfl, (blk_cell BK435.out 1).trans rfl, (blk_cell BK435.out 2).trans rfl⟩ (fun hHeld => ?_)
      clear hK K
      refine zN 22 ?_
      refine zA 6 16 HT_ ?_
      refine zA 7 23 HT_ ?_
      refine zA 8 24 HT_ ?_
      exact norm_ zO1_2 (hCont (v444, gb447) _ ⟨hHeld, (zs HO445), (zq BK419), (zq BK435), (zq BK447), GW447.out, GE447.out, NB420_447.out, NB447_420.out, NB419_447.out, NB447_419.out, NB435_447.out, NB447_435.out, ((zI65 HI420)), (zY65 HB)⟩)
    ·skip
     refine box_step ?hg (N := 5) ?hd (cs := #[.int .i64 0, .slice none 0 0]) (t := 30) ?hr ?_; (case hd => rfl); (case hg => rfl); (case hr => first | (go_simp; done) | (go_simp; rfl))
     intro gb447 hg w30 hbox hb
     have BK447 := Aside0.mk (hbox)
     have GW447 := Aside0.mk ((by rw [hg]; exact (below_size (zY65 HB)) : w.heap.size ≤ gb447))
     have GE447 := Aside0.mk ((by rw [hg]; exact (below_size (zY65 HB)) : w.heap.size ≤ gb447))
     have NB419_447 := zl BK419 hg
     have NB447_419 := zr BK419 hg
     have NB435_447 := zl BK435 hg
     have NB447_435 := zr BK435 hg
     have NB420_447 := zL65 HI420 hg
     have NB447_420 := zR65 HI420 hg
     replace BK419 := zb BK419 hb; replace HI420 := zJ65 HI420 hb; replace BK435 := zb BK435 hb; replace HB := zH65 HB hb; clear hb hbox hg
     refine hK.out _ _ ⟨(blk_cell BK435.out 0).trans rfl, (blk_cell BK435.out 1).trans rfl, (blk_cell BK435.out 2).trans rfl⟩ (fun hHeld => ?_)
     clear hK K
     refine zN 5 ?_
     refine zO 2 (some 19) HT_ (fun K hK => ?_)
     refine goes_ Try.func36 (by kernel_rfl) rfl #[.pointer (some ⟨gb420, 0, none⟩), .int .i64 3] (by rfl) rfl rfl zO1_0 ?_
     with_reducible refine (spec_l1Cur_pick.calls gb420 l0 t433 t434 3 t436 t437 t438 w _ ?side1 ?side2 A13.out).mono ?_
     (case side1 => exact zI65 HI420)
     (case side2 => exact zY65 HB)
     rintro e w31 ⟨rfl, hi, hb, hk⟩
     refine ⟨_, rfl, ?_⟩
     replace BK419 := zKB BK419 hk
     replace BK435 := zKB BK435 hk
     replace BK447 := zKB BK447 hk
     replace HB := Aside0.mk hb
     replace HI420 := Aside0.mk hi
     (try clear hb)
     (try clear hb2)
     (try clear hk)
     (try clear hi)
     refine hK.out _ _ ⟨(blk_cell BK435.out 0).trans rfl, (blk_cell BK435.out 1).trans rfl, (blk_cell BK435.out 2).trans rfl⟩ (fun hHeld => ?_)
     clear hK K
     refine zN 19 ?_
     refine zO 4 (some 21) HT_ (fun K hK => ?_)
     refine goes_ Try.func36 (by kernel_rfl) rfl #[.pointer (some ⟨gb420, 0, none⟩), .int .i64 10000] (by rfl) rfl rfl zO1_0 ?_
     with_reducible refine (spec_l1Cur_pick.calls gb420 l0 t437 t438 10000 t439 t440 t441 w _ ?side1 ?side2 A14.out).mono ?_
     (case side1 => exact zI65 HI420)
     (case side2 => exact zY65 HB)
     rintro e w32 ⟨rfl, hi, hb, hk⟩
     refine ⟨_, rfl, ?_⟩
     replace BK419 := zKB BK419 hk
     replace BK435 := zKB BK435 hk
     replace BK447 := zKB BK447 hk
     replace HB := Aside0.mk hb
     replace HI420 := Aside0.mk hi
     (try clear hb)
     (try clear hb2)
     (try clear hk)
     (try clear hi)
     refine hK.out _ _ ⟨(blk_cell BK435.out 0).trans rfl, (blk_cell BK435.out 1).trans rfl, (blk_cell BK435.out 2).trans rfl⟩ (fun hHeld => ?_)
     clear hK K
     refine zN 21 ?_
     refine zO 5 (some 22) HT_ (fun K hK => ?_)
     refine goes_ Try.func7 (by kernel_rfl) rfl #[.agg #[.int .i64 t430, .int .i64 t431, .int .i64 t432], .int .i64 t436, .int .i64 t439] (by rfl) rfl rfl zO1_0 ?_
     with_reducible refine (spec_MakePuzzle.calls k t430 t431 t432 t436 t439 t442 t443 t446 _ A15.out).mono ?_
     rintro e w33 ⟨v444, rfl, ho0, hb⟩
     refine ⟨_, rfl, ?_⟩
     have HO445 := Aside0.mk (Kd.R_lower ho0 (below_size (zY65 HB)))
     replace BK419 := zb BK419 hb; replace HI420 := zJ65 HI420 hb; replace BK435 := zb BK435 hb; replace BK447 := zb BK447 hb; replace HB := zH65 HB hb
     (try clear hb)
     (try clear hb2)
     (try clear hk)
     (try clear hi)
     (try clear ho0)
     refine hK.out _ _ ⟨(blk_cell BK435.out 0).trans rfl, (blk_cell BK435.out 1).trans rfl, (blk_cell BK435.out 2).trans rfl⟩ (fun hHeld => ?_)
     clear hK K
     refine zN 22 ?_
     refine zA 6 16 HT_ ?_
     refine zA 7 23 HT_ ?_
     refine zA 8 24 HT_ ?_
     exact norm_ zO1_2 (hCont (v444, gb447) _ ⟨hHeld, (zs HO445), (zq BK419), (zq BK435), (zq BK447), GW447.out, GE447.out, NB420_447.out, NB447_420.out, NB419_447.out, NB447_419.out, NB435_447.out, NB447_435.out, ((zI65 HI420)), (zY65 HB)⟩)
   rintro ⟨v444, gb447⟩ w34 ⟨hS_, h0_, h1_, h2_, h3_, h4_, h5_, h6_, h7_, h8_, h9_, h10_, h11_, h12_, h13_⟩
   have n0_ : Aside0 (Kd.R k39 39 w34 w.heap.size (fun _ => True) v444 t443) := ⟨h0_⟩
   have n1_ : Aside0 (w34.heap[gb419]? = some (.cells #[.int .i64 0, .slice none 0 0] 30 (0, 0))) := ⟨h1_⟩
   have n2_ : Aside0 (w34.heap[gb435]? = some (.cells #[.int .i64 t430, .int .i64 t431, .int .i64 t432] 25 (0, 0))) := ⟨h2_⟩
   have n3_ : Aside0 (w34.heap[gb447]? = some (.cells #[.int .i64 0, .slice none 0 0] 30 (0, 0))) := ⟨h3_⟩
   have n4_ : Aside0 (w.heap.size ≤ gb447) := ⟨h4_⟩
   have n5_ : Aside0 (w.heap.size ≤ gb447) := ⟨h5_⟩
   have n6_ : Aside0 (gb420 ≠ gb447) := ⟨h6_⟩
   have n7_ : Aside0 (gb447 ≠ gb420) := ⟨h7_⟩
   have n8_ : Aside0 (gb419 ≠ gb447) := ⟨h8_⟩
   have n9_ : Aside0 (gb447 ≠ gb419) := ⟨h9_⟩
   have n10_ : Aside0 (gb435 ≠ gb447) := ⟨h10_⟩
   have n11_ : Aside0 (gb447 ≠ gb435) := ⟨h11_⟩
   have n12_ : Aside0 (IsS65 w w34 gb420 l0 t440 t441) := ⟨h12_⟩
   have n13_ : Aside0 (Below w.heap.size w w34) := ⟨h13_⟩
   clear BK419; clear BK435; clear HI420; clear HB; clear h0_ h1_ h2_ h3_ h4_ h5_ h6_ h7_ h8_ h9_ h10_ h11_ h12_ h13_; have HO445 := n0_; have BK419 := n1_; have BK435 := n2_; have BK447 := n3_; have GW447 := n4_; have GE447 := n5_; have NB420_447 := n6_; have NB447_420 := n7_; have NB419_447 := n8_; have NB447_419 := n9_; have NB435_447 := n10_; have NB447_435 := n11_; have HI420 := n12_; have HB := n13_; clear n0_ n1_ n2_ n3_ n4_ n5_ n6_ n7_ n8_ n9_ n10_ n11_ n12_ n13_
   have hHeld : w34.cell? ⟨gb435, 0, none⟩ = some (.int .i64 t430) ∧ w34.cell? ⟨gb435, 1, none⟩ = some (.int .i64 t431) ∧ w34.cell? ⟨gb435, 2, none⟩ = some (.int .i64 t432) := hS_
   obtain ⟨Ao36, co36, eo36⟩ := Kd.R_slice HO445.out
   (first | subst eo36 | (injection eo36 with f1_ f2_ f3_; have f4_ := f1_.symm; have f5_ := f3_.symm; clear f1_ f2_ f3_; subst f4_; subst f5_))
   refine norm_ (a' := ?_) ?_ ?_
   rotate_left
   ·simp only [putAll, Act.put, List.setIfInBounds_toArray, List.set_cons_zero, List.set_cons_succ]
    rfl
   refine zO 10 none HT_ (fun K hK => ?_)
   have hs35 : w34.cell? ⟨gb447, 0, none⟩ = some (.int .i64 0) := (blk_cell BK447.out 0).trans rfl
   have hfs35 := blk_frozen BK447.out 0
   have hns35_0 := NB419_447.out; have hns35_1 := NB435_447.out; have hms35_0 := NB447_419.out; have hms35_1 := NB447_435.out
   have hs37 : w34.cell? ⟨gb447, 1, none⟩ = some (.slice none 0 0) := (blk_cell BK447.out 1).trans rfl
   have hfs37 := blk_frozen BK447.out 1
   have hns37_0 := NB419_447.out; have hns37_1 := NB435_447.out; have hms37_0 := NB447_419.out; have hms37_1 := NB447_435.out
   refine skip_ (w1 := ?_) (by rfl) rfl ?_ ?_
   rotate_left
   ·go_simp
    rfl
   refine hK.out _ _ ⟨((cell_far (p := ⟨gb447, _, none⟩) NB435_447.out _).trans (((cell_far (p := ⟨gb447, _, none⟩) NB435_447.out _).trans (hHeld.1)))), ((cell_far (p := ⟨gb447, _, none⟩) NB435_447.out _).trans (((cell_far (p := ⟨gb447, _, none⟩) NB435_447.out _).trans (hHeld.2.1)))), ((cell_far (p := ⟨gb447, _, none⟩) NB435_447.out _).trans (((cell_far (p := ⟨gb447, _, none⟩) NB435_447.out _).trans (hHeld.2.2))))⟩ (fun hHeld => ?_)
   clear hK K
   refine zA 11 6 HT_ ?_
   refine done_ (done_of HT_.out (by kernel_rfl)) ?_
   try go_wp2
   have n0_ : Aside0 (Kd.R k39 39 ((w34.setCell ⟨gb447, 0, none⟩ (.int .i64 t442)).setCell ⟨gb447, 1, none⟩ (.slice Ao36 t443.length co36)) w.heap.size (fun _ => True) (.slice Ao36 t443.length co36) t443) := ⟨by (with_reducible repeat (first | apply Kd.R_alloc | apply Kd.R_drewN | apply Kd.R_drew)); exact Kd.R_mono (Kd.R_far (p := ⟨gb447, 1, none⟩) (Kd.R_far (p := ⟨gb447, 0, none⟩) (Kd.R_types HO445.out BK447.out (by decide)) (fun _ hk => hk.2) (.int .i64 t442)) (fun _ hk => hk.2) (.slice Ao36 t443.length co36)) (fun _ hk => trivial)⟩
   have n1_ : Aside0 (((w34.setCell ⟨gb447, 0, none⟩ (.int .i64 t442)).setCell ⟨gb447, 1, none⟩ (.slice Ao36 t443.length co36)).heap[gb419]? = some (.cells #[.int .i64 0, .slice none 0 0] 30 (0, 0))) := ⟨zw BK419⟩
   have n2_ : Aside0 (((w34.setCell ⟨gb447, 0, none⟩ (.int .i64 t442)).setCell ⟨gb447, 1, none⟩ (.slice Ao36 t443.length co36)).heap[gb435]? = some (.cells #[.int .i64 t430, .int .i64 t431, .int .i64 t432] 25 (0, 0))) := ⟨zw BK435⟩
   have n3_ : Aside0 (((w34.setCell ⟨gb447, 0, none⟩ (.int .i64 t442)).setCell ⟨gb447, 1, none⟩ (.slice Ao36 t443.length co36)).heap[gb447]? = some (.cells #[.int .i64 t442, .slice Ao36 t443.length co36] 30 (0, 0))) := ⟨zw BK447⟩
   have n4_ : Aside0 (IsS65 w ((w34.setCell ⟨gb447, 0, none⟩ (.int .i64 t442)).setCell ⟨gb447, 1, none⟩ (.slice Ao36 t443.length co36)) gb420 l0 t440 t441) := ⟨(zI65 HI420)⟩
   have n5_ : Aside0 (Below w.heap.size w ((w34.setCell ⟨gb447, 0, none⟩ (.int .i64 t442)).setCell ⟨gb447, 1, none⟩ (.slice Ao36 t443.length co36))) := ⟨zY65 HB⟩
   (try clear HO445)
   (try clear BK419)
   (try clear BK435)
   (try clear BK447)
   (try clear HI420)
   (try clear HB)
   generalize ((w34.setCell ⟨gb447, 0, none⟩ (.int .i64 t442)).setCell ⟨gb447, 1, none⟩ (.slice Ao36 t443.length co36)) = w38 at n0_ n1_ n2_ n3_ n4_ n5_ ⊢
   have HO445 := n0_; have BK419 := n1_; have BK435 := n2_; have BK447 := n3_; have HI420 := n4_; have HB := n5_; clear n0_ n1_ n2_ n3_ n4_ n5_
   have n4_ := Aside0.mk (IsS65.drew HI420.out)
   replace HO445 := Aside0.mk (Kd.R_drew HO445.out); replace BK419 := Aside0.mk (blk_drew BK419.out); replace BK435 := Aside0.mk (blk_drew BK435.out); replace BK447 := Aside0.mk (blk_drew BK447.out); replace HB := Aside0.mk (below_drew1 HB.out); clear HI420; have HI420 := n4_; clear n4_
   refine start_ (n := 12) (S := fun w' => w'.cell? ⟨gb447, 0, none⟩ = some (.int .i64 t442) ∧ w'.cell? ⟨gb447, 1, none⟩ = some (.slice Ao36 t443.length co36) ∧ w'.cell? ⟨gb435, 0, none⟩ = some (.int .i64 t430) ∧ w'.cell? ⟨gb435, 1, none⟩ = some (.int .i64 t431) ∧ w'.cell? ⟨gb435, 2, none⟩ = some (.int .i64 t432)) (ds := [11]) #[false, false, false, false, false, false, false, false, false, false, false, false] (by kernel_rfl) rfl rfl ⟨(blk_cell BK447.out 0).trans rfl, (blk_cell BK447.out 1).trans rfl, (blk_cell BK435.out 0).trans rfl, (blk_cell BK435.out 1).trans rfl, (blk_cell BK435.out 2).trans rfl⟩ (fun hHeld => ?_); refine with_tabW spec_DrawHarderPuzzle.tab6 spec_DrawHarderPuzzle.bits6 (fun HT_ HW_ => ?_)
   generalize w38.drew = w39 at HO445 BK419 BK435 BK447 HI420 HB hHeld ⊢
   refine zA 0 25 HT_ ?_
   refine zT 1 26 HT_ HW_ hHeld ?_
   refine zT 2 27 HT_ HW_ hHeld ?_
   refine zT 4 29 HT_ HW_ hHeld ?_
   refine zT 6 31 HT_ HW_ hHeld ?_
   refine zO 3 (some 28) HT_ (fun K hK => ?_)
   refine goes_ Try.func44 (by kernel_rfl) rfl #[.int .i64 0, .int .i64 0, .agg #[.int .i64 t430, .int .i64 t431, .int .i64 t432]] (by rfl) rfl rfl zO1_0 ?_
   with_reducible refine (spec_pzOf.calls k 0 0 t430 t431 t432 t448 t449 t450 _ A16.out).mono ?_
   rintro e w40 ⟨rfl, hb⟩
   refine ⟨_, rfl, ?_⟩
   replace HO445 := zo HO445 hb; replace BK419 := zb BK419 hb; replace HI420 := zJ65 HI420 hb; replace BK435 := zb BK435 hb; replace BK447 := zb BK447 hb; replace HB := zH65 HB hb
   (try clear hb)
   (try clear hb2)
   (try clear hk)
   (try clear hi)
   refine hK.out _ _ ⟨(blk_cell BK447.out 0).trans rfl, (blk_cell BK447.out 1).trans rfl, (blk_cell BK435.out 0).trans rfl, (blk_cell BK435.out 1).trans rfl, (blk_cell BK435.out 2).trans rfl⟩ (fun hHeld => ?_)
   clear hK K
   refine zN 28 ?_
   refine zO 5 (some 30) HT_ (fun K hK => ?_)
   refine goes_ Try.func44 (by kernel_rfl) rfl #[.int .i64 5, .int .i64 0, .agg #[.int .i64 t430, .int .i64 t431, .int .i64 t432]] (by rfl) rfl rfl zO1_0 ?_
   with_reducible refine (spec_pzOf.calls k 5 0 t430 t431 t432 t451 t452 t453 _ A17.out).mono ?_
   rintro e w41 ⟨rfl, hb⟩
   refine ⟨_, rfl, ?_⟩
   replace HO445 := zo HO445 hb; replace BK419 := zb BK419 hb; replace HI420 := zJ65 HI420 hb; replace BK435 := zb BK435 hb; replace BK447 := zb BK447 hb; replace HB := zH65 HB hb
   (try clear hb)
   (try clear hb2)
   (try clear hk)
   (try clear hi)
   refine hK.out _ _ ⟨(blk_cell BK447.out 0).trans rfl, (blk_cell BK447.out 1).trans rfl, (blk_cell BK435.out 0).trans rfl, (blk_cell BK435.out 1).trans rfl, (blk_cell BK435.out 2).trans rfl⟩ (fun hHeld => ?_)
   clear hK K
   refine zN 30 ?_
   refine zO 7 (some 32) HT_ (fun K hK => ?_)
   refine goes_ Try.func44 (by kernel_rfl) rfl #[.int .i64 4, .int .i64 0, .agg #[.int .i64 t430, .int .i64 t431, .int .i64 t432]] (by rfl) rfl rfl zO1_0 ?_
   with_reducible refine (spec_pzOf.calls k 4 0 t430 t431 t432 t454 t455 t456 _ A18.out).mono ?_
   rintro e w42 ⟨rfl, hb⟩
   refine ⟨_, rfl, ?_⟩
   replace HO445 := zo HO445 hb; replace BK419 := zb BK419 hb; replace HI420 := zJ65 HI420 hb; replace BK435 := zb BK435 hb; replace BK447 := zb BK447 hb; replace HB := zH65 HB hb
   (try clear hb)
   (try clear hb2)
   (try clear hk)
   (try clear hi)
   refine hK.out _ _ ⟨(blk_cell BK447.out 0).trans rfl, (blk_cell BK447.out 1).trans rfl, (blk_cell BK435.out 0).trans rfl, (blk_cell BK435.out 1).trans rfl, (blk_cell BK435.out 2).trans rfl⟩ (fun hHeld => ?_)
   clear hK K
   refine zN 32 ?_
   refine zO 8 (some 33) HT_ (fun K hK => ?_)
   refine Kd.R_lit_step k39 _ 39 ?hg (N := 33) ?hd (xs := ([(⟨t448, t449, t450⟩ : S39), (⟨t451, t452, t453⟩ : S39), (⟨t454, t455, t456⟩ : S39)] : List (S39))) (inner := [.int .i64 t448, .int .i64 t449, .int .i64 t450, .int .i64 t451, .int .i64 t452, .int .i64 t453, .int .i64 t454, .int .i64 t455, .int .i64 t456]) (ok := fun _ => True) (okp := fun _ => True) ?hr ?hp (fun _ hk => hk) trivial (Below.refl _ _) (Nat.le_refl _) (by simp) ?_; (case hd => rfl); (case hg => rfl); (case hr => first | (go_simp; done) | (go_simp; rfl)); (case hp => exact (Reps.c3 (show Kd.M k39 _ _ _ (⟨t448, t449, t450⟩ : S39) [.int .i64 t448, .int .i64 t449, .int .i64 t450] from (k39_mkM _ _ _ (⟨t448, t449, t450⟩ : S39) )) (Reps.c3 (show Kd.M k39 _ _ _ (⟨t451, t452, t453⟩ : S39) [.int .i64 t451, .int .i64 t452, .int .i64 t453] from (k39_mkM _ _ _ (⟨t451, t452, t453⟩ : S39) )) (Reps.c3 (show Kd.M k39 _ _ _ (⟨t454, t455, t456⟩ : S39) [.int .i64 t454, .int .i64 t455, .int .i64 t456] from (k39_mkM _ _ _ (⟨t454, t455, t456⟩ : S39) )) (Reps.none _ _)))))
   intro v458 w43 ho44 hb hg_ hnew_
   clear hg_ hnew_
   (first | rw [← Ny457.out] at ho44 | (simp only [Int.reduceToNat] at ho44; rw [← Ny457.out] at ho44))
   have n0_ := Aside0.mk (Kd.R_elder' (zs HO445) (Kd.R_base ho44) hb)
   have HO459 := Aside0.mk (Kd.R_lower (Kd.R_new' ho44 (Kd.R_lt (zs HO445))) (below_size (zY65 HB)))
   replace BK419 := zb BK419 hb; replace HI420 := zJ65 HI420 hb; replace BK435 := zb BK435 hb; replace BK447 := zb BK447 hb; replace HB := zH65 HB hb; clear HO445; have HO445 := n0_; clear n0_; clear hb ho44
   obtain ⟨Ao46, co46, eo46⟩ := Kd.R_slice HO459.out
   (first | subst eo46 | (injection eo46 with f1_ f2_ f3_; have f4_ := f1_.symm; have f5_ := f3_.symm; clear f1_ f2_ f3_; subst f4_; subst f5_))
   refine hK.out _ _ ⟨(blk_cell BK447.out 0).trans rfl, (blk_cell BK447.out 1).trans rfl, (blk_cell BK435.out 0).trans rfl, (blk_cell BK435.out 1).trans rfl, (blk_cell BK435.out 2).trans rfl⟩ (fun hHeld => ?_)
   clear hK K
   refine zN 33 ?_
   refine zO 9 (some 34) HT_ (fun K hK => ?_)
   refine Kd.R_append_rows_step k39 (w0 := w) w.heap.size (by rfl) (.tmp 26) (.tmp 33) 28 39 (.agg #[(.int .i64 0), (.int .i64 0), (.int .i64 0)]) 24 rfl Try.underlying28 info39 rfl (by decide) (by omega) (.slice Ao36 t443.length co36) t443 y457 _ _ _ (fun k_ => some k_ ≠ (.slice Ao46 y457.length co46 : Value).ownBlock) (fun _ => False) rfl rfl ?aO ?aR (fun _ _ h => h) (fun _ h => h.elim) ?aF ?aB ?aS ?aL ?_
   (case aR => repeat (first | exact (Kd.R_reads' HO459.out).2.2 | (with_reducible refine Kd.C_alloc ?_ _) | (with_reducible refine Kd.C_drewN ?_ _) | (with_reducible refine Kd.C_drew ?_)))
   (case aB => exact (zY65 HB))
   (case aF => exact (fun k_ hk => Kd.fresh' (Kd.R_lt (zs HO459)) k_ hk))
   (case aO => exact (by (with_reducible repeat (first | apply Kd.R_alloc | apply Kd.R_drewN | apply Kd.R_drew)); exact Kd.R_mono HO445.out (fun _ hk => hk.2)))
   (case aS => exact (below_size (zY65 HB)))
   (case aL => have := LMc19.out; omega)
   intro v461 w45 ho hb hg hat
   rw [← Ny460.out] at ho
   have n0_ := Aside0.mk (blk_grown (zq BK419) hg (Kd.R_ne HO445.out BK419.out (by decide)))
   have n1_ := Aside0.mk (IsS65.grown ((zI65 HI420)) hg (IsS65.own_ne HI420.out HO445.out (by decide)))
   have n2_ := Aside0.mk (blk_grown (zq BK435) hg (Kd.R_ne HO445.out BK435.out (by decide)))
   have n3_ := Aside0.mk (blk_grown (zq BK447) hg (Kd.R_ne HO445.out BK447.out (by decide)))
   have n4_ := Aside0.mk (Kd.R_after (ok := (fun _ => True)) (zs HO459) hg hat)
   have HO462 := Aside0.mk (ho)
   replace HB := Aside0.mk hb
   clear HO445; clear BK419; have BK419 := n0_; clear n0_; clear HI420; have HI420 := n1_; clear n1_; clear BK435; have BK435 := n2_; clear n2_; clear BK447; have BK447 := n3_; clear n3_; clear HO459; have HO459 := n4_; clear n4_; clear ho hb hg hat
   obtain ⟨Ao47, co47, eo47⟩ := Kd.R_slice HO462.out
   (first | subst eo47 | (injection eo47 with f1_ f2_ f3_; have f4_ := f1_.symm; have f5_ := f3_.symm; clear f1_ f2_ f3_; subst f4_; subst f5_))
   refine hK.out _ _ ⟨(blk_cell BK447.out 0).trans rfl, (blk_cell BK447.out 1).trans rfl, (blk_cell BK435.out 0).trans rfl, (blk_cell BK435.out 1).trans rfl, (blk_cell BK435.out 2).trans rfl⟩ (fun hHeld => ?_)
   clear hK K
   refine zN 34 ?_
   refine zA 10 35 HT_ ?_
   refine last_ (i := 11) (N := none) #[true, true, true, true, true, true, true, true, true, true, true, true] rfl rfl (one_of HT_.out (by kernel_rfl)) (by decide) (fun K hK => ?_)
   have hs48 : w45.cell? ⟨gb447, 1, none⟩ = some (.slice Ao36 t443.length co36) := (blk_cell BK447.out 1).trans rfl
   have hfs48 := blk_frozen BK447.out 1
   have hns48_0 := NB419_447.out; have hns48_1 := NB435_447.out; have hms48_0 := NB447_419.out; have hms48_1 := NB447_435.out
   refine skip_ (w1 := ?_) (by rfl) rfl ?_ ?_
   rotate_left
   ·go_simp
    rfl
   refine hK.out _ _ ?_
   clear hK K
   refine done_ (done_of HT_.out (by kernel_rfl)) ?_
   have hnb49 := NB447_419.out; have hnc49 := NB419_447.out; have hnb50 := NB447_435.out; have hnc50 := NB435_447.out; have hnb51 := NB447_420.out; have hnc51 := NB420_447.out
   obtain ⟨_, _, _, _⟩ := zc2 BK447
   have hnb53 := NB419_420.out; have hnc53 := NB420_419.out
   obtain ⟨_, _, _, _⟩ := zc2 BK419
   try go_wp2
   refine bodyPost_ret (results_cell_row rfl _ _ gb419 30 #[.int .i64 t442, .slice Ao47 y460.length co47] (0, 0) _ rfl (zw BK419) Try.underlying30 rfl (by kernel_rfl)) rfl ?_
   exact ⟨_, zt, by (with_reducible repeat (first | apply Kd.R_alloc | apply Kd.R_drewN | apply Kd.R_drew)); exact Kd.R_mono (Kd.R_far (p := ⟨gb419, 1, none⟩) (Kd.R_far (p := ⟨gb419, 0, none⟩) (Kd.R_far (p := ⟨gb447, 1, none⟩) (Kd.R_types (Kd.R_types HO462.out BK447.out (by decide)) BK419.out (by decide)) (fun _ hk => hk.1.2) (.slice Ao47 y460.length co47)) (fun _ hk => hk.2) (.int .i64 t442)) (fun _ hk => hk.2) (.slice Ao47 y460.length co47)) (fun _ hk => trivial), zY65 HB⟩
  ·rw [if_neg c19] at H
   exact absurd H (by simp)


/-! ### anySolution: function 0 -/
def anySolution.p (k : Nat) (a b c : Int) (x : S39) : Option Bool := (impl_doesFit.f k x.f0 x.f1 x.f2 a b c).bind fun t => some (!t)
def anySolution.f (k : Nat) (l : List S39) (a b c : Int) : Option Bool := cAny (anySolution.p k a b c) l
set_option maxHeartbeats 8000000 in
theorem anySolution.gives (k : Nat) (a b c : Int) (g : Nat) (w : World) (hbox : w.heap[g]? = some (.cells #[.int .i64 a, .int .i64 b, .int .i64 c] 25 (0, 0))) : cGives w 78 #[.pointer (some ⟨g, 0, none⟩)] (anySolution.p k a b c) := by
 intro x r W h hB
 obtain ⟨t, ht, h⟩ := Option.bind_eq_some_iff.1 h
 have HH := Aside0.mk (Option.some.inj h)
 clear h; have hu1 := Try.underlying39; have hu2 := Try.underlying25
 have hbW : W.heap[g]? = some (.cells #[.int .i64 a, .int .i64 b, .int .i64 c] 25 (0, 0)) := (hB.block g (Array.getElem?_eq_some_iff.1 hbox).1).trans hbox
 have hc0 : W.cell? ⟨g, 0, none⟩ = some (.int .i64 a) := (blk_cell hbW 0).trans rfl
 have hc1 : W.cell? ⟨g, 1, none⟩ = some (.int .i64 b) := (blk_cell hbW 1).trans rfl
 have hc2 : W.cell? ⟨g, 2, none⟩ = some (.int .i64 c) := (blk_cell hbW 2).trans rfl
 have hlt : g < W.heap.size := (Array.getElem?_eq_some_iff.1 hbW).1
 have hq := fun W' => impl_doesFit.calls k x.f0 x.f1 x.f2 a b c t W' ht
 clear hbox hbW hB ht
 have HB := Aside0.mk (Below.refl W.heap.size W)
 show Calls Try.prog 78 #[.agg #[.int .i64 x.f0, .int .i64 x.f1, .int .i64 x.f2], .pointer (some ⟨g, 0, none⟩)] W _
 go_enter Try.func78, Try.ntmps78
 go_wp2_with (go_at_call 48; refine (hq _).mono ?_; rintro e w' ⟨rfl, hb⟩; have n0_ := Aside0.mk (below_step zO1_1 hb); clear HB hb; have HB := n0_; clear n0_)
 go_ret
 exact ⟨by rw [← HH.out]; rfl, by repeat (first | (with_reducible first | exact HB.out | apply below_alloc | apply pw_below_drewN | apply below_drew1) | exact HB.out)⟩
theorem anySolution.calls (k : Nat) (A0 : Option Addr) (c0 : Nat) (l0 : List S39) (a1_0 a1_1 a1_2 : Int) (r : Bool) (w : World) (hr0 : Kd.C k39 w A0 l0.length l0) (hc0 : l0.length ≤ c0) (h : anySolution.f k l0 a1_0 a1_1 a1_2 = some r) (g : Nat) (hbox : w.heap[g]? = some (.cells #[.int .i64 a1_0, .int .i64 a1_1, .int .i64 a1_2] 25 (0, 0))) :
  Calls Try.prog 52 #[.slice A0 l0.length c0, .func (.func 78) #[] #[.pointer (some ⟨g, 0, none⟩)]] w fun e w' => e = .returned (.bool r) ∧ Below w.heap.size w w' :=
 cContainsFunc 78 _ _ (enters_of Try.func78 (by kernel_rfl) rfl) A0 c0 l0 r w (anySolution.gives k a1_0 a1_1 a1_2 g w hbox) hr0 hc0 h


end Go.Proofs.Ytopoopkobfdjjaa.P
