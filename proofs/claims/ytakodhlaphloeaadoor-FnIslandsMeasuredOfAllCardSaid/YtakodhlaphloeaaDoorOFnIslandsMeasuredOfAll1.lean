/- The law FnIslandsMeasuredOfAll is proved: a call of it returns true and leaves its arguments as they were; and what this needs. Every input that the given rows speak of; nothing else is asked. -/
import Derived.Test.YtakodhlaphloeaaDoorOFnIslandsMeasuredOfAll0
namespace Go.Proofs.YtakodhlaphloeaaDoor.P
open Go.RowKit Go.Proofs.YtakodhlaphloeaaDoorW.PrintWords Go.Proofs.YtakodhlaphloeaaDoorW.PrintLast Go.Proofs.YtakodhlaphloeaaDoorW.PrintMore
set_option linter.unusedVariables false
theorem zO1_0 {p : Prop} (h : p := by (with_reducible repeat (first | apply Kd.S_alloc | apply Kd.S_drewN | apply Kd.S_drew)); exact Kd.S_mono HO_6.out (fun k_ hk => ⟨trivial, fun e_ => hk.2 e_⟩)) : p := h
theorem zO1_1 {p : Prop} (h : p := by (with_reducible repeat (first | apply Kd.S_alloc | apply Kd.S_drewN | apply Kd.S_drew)); exact HO_6.out) : p := h
theorem zO1_2 {p : Prop} (h : p := by first | (with_reducible assumption) | assumption) : p := h
theorem zO1_3 {p : Prop} (h : p := by simp) : p := h
end Go.Proofs.YtakodhlaphloeaaDoor.P
namespace Go.Proofs.YtakodhlaphloeaaDoor.P
open Go.RowKit Go.Proofs.YtakodhlaphloeaaDoorW.PrintWords Go.Proofs.YtakodhlaphloeaaDoorW.PrintLast Go.Proofs.YtakodhlaphloeaaDoorW.PrintMore
attribute [local go_sem] max2_int min2_int max_two min_two max_three min_three max_four min_four   -- for this text's walks alone
set_option linter.unusedVariables false
set_option linter.unusedSimpArgs false

/-! ### impl_ParseIsland: function 18 -/
def impl_ParseIsland.f (a0 : ByteArray) : Option (Int × Int × Int × Int × Bool) := (strings_Cut.f a0 (⟨#[124]⟩ : ByteArray)).bind fun bt246 => ((strings_Cut.f bt246.2.1 (⟨#[58]⟩ : ByteArray)).bind fun bt249 => ((strings_Cut.f bt249.2.1 (⟨#[47]⟩ : ByteArray)).bind fun bt252 => ((impl_number.f bt246.1).bind fun bt255 => ((impl_number.f bt249.1).bind fun bt257 => ((impl_number.f bt252.1).bind fun bt259 => ((impl_number.f bt252.2.1).bind fun bt261 => (if bt255.2 = true then (if bt257.2 = true then (if bt259.2 = true then (if bt261.2 = true then ((impl_checkedIsland.f bt255.1 bt257.1 bt259.1 bt261.1).bind fun bt263 => (some (bt263.1, bt263.2.1, bt263.2.2.1, bt263.2.2.2.1, bt263.2.2.2.2))) else (some (0, 0, 0, 0, false))) else (some (0, 0, 0, 0, false))) else (some (0, 0, 0, 0, false))) else (some (0, 0, 0, 0, false)))))))))
set_option maxHeartbeats 8000000 in
set_option maxRecDepth 100000 in
theorem impl_ParseIsland.calls (a0 : ByteArray) (r1 : Int) (r2 : Int) (r3 : Int) (r4 : Int) (r5 : Bool) (w : World) (hL_ : LaidQ w) (h : impl_ParseIsland.f a0 = some (r1, r2, r3, r4, r5)) :
  Calls Tryd.prog 18 #[.string a0] w fun e w' => e = .returned (.tuple #[.agg #[.int .i64 r1, .int .i64 r2, .int .i64 r3, .int .i64 r4], .bool r5]) ∧ Below w.heap.size w w' := by
 have HL_ := Aside0.mk hL_; clear hL_; have hu23 := Tryd.underlying23
 have HB := Aside0.mk (Below.refl w.heap.size w)
 have H : ((strings_Cut.f a0 (⟨#[124]⟩ : ByteArray)).bind fun bt246 => ((strings_Cut.f bt246.2.1 (⟨#[58]⟩ : ByteArray)).bind fun bt249 => ((strings_Cut.f bt249.2.1 (⟨#[47]⟩ : ByteArray)).bind fun bt252 => ((impl_number.f bt246.1).bind fun bt255 => ((impl_number.f bt249.1).bind fun bt257 => ((impl_number.f bt252.1).bind fun bt259 => ((impl_number.f bt252.2.1).bind fun bt261 => (if bt255.2 = true then (if bt257.2 = true then (if bt259.2 = true then (if bt261.2 = true then ((impl_checkedIsland.f bt255.1 bt257.1 bt259.1 bt261.1).bind fun bt263 => (some (bt263.1, bt263.2.1, bt263.2.2.1, bt263.2.2.2.1, bt263.2.2.2.2))) else (some (0, 0, 0, 0, false))) else (some (0, 0, 0, 0, false))) else (some (0, 0, 0, 0, false))) else (some (0, 0, 0, 0, false)))))))))) = some (r1, r2, r3, r4, r5) := h
 clear h; replace H := Option.bind_eq_some_iff.mp H; obtain ⟨⟨t246, t247, t248⟩, A20, H⟩ := H; (try dsimp only at H); have A2 := Aside0.mk A20; clear A20; replace H := Option.bind_eq_some_iff.mp H; obtain ⟨⟨t249, t250, t251⟩, A30, H⟩ := H; (try dsimp only at H); have A3 := Aside0.mk A30; clear A30; replace H := Option.bind_eq_some_iff.mp H; obtain ⟨⟨t252, t253, t254⟩, A40, H⟩ := H; (try dsimp only at H); have A4 := Aside0.mk A40; clear A40; replace H := Option.bind_eq_some_iff.mp H; obtain ⟨⟨t255, t256⟩, A50, H⟩ := H; (try dsimp only at H); have A5 := Aside0.mk A50; clear A50; replace H := Option.bind_eq_some_iff.mp H; obtain ⟨⟨t257, t258⟩, A60, H⟩ := H; (try dsimp only at H); have A6 := Aside0.mk A60; clear A60; replace H := Option.bind_eq_some_iff.mp H; obtain ⟨⟨t259, t260⟩, A70, H⟩ := H; (try dsimp only at H); have A7 := Aside0.mk A70; clear A70; replace H := Option.bind_eq_some_iff.mp H; obtain ⟨⟨t261, t262⟩, A80, H⟩ := H; (try dsimp only at H); have A8 := Aside0.mk A80; clear A80
 by_cases c9 : t256 = true
 ·subst c9
  rw [if_pos rfl] at H
  by_cases c10 : t258 = true
  ·subst c10
   rw [if_pos rfl] at H
   by_cases c11 : t260 = true
   ·subst c11
    rw [if_pos rfl] at H
    by_cases c12 : t262 = true
    ·subst c12
     rw [if_pos rfl] at H; replace H := Option.bind_eq_some_iff.mp H; obtain ⟨⟨t263, t264, t265, t266, t267⟩, A130, H⟩ := H
     replace H : (some (t263, t264, t265, t266, t267)) = some (r1, r2, r3, r4, r5) := H
     have A13 := Aside0.mk A130; clear A130; simp only [Option.some.injEq, Prod.mk.injEq] at H; obtain ⟨rfl, rfl, rfl, rfl, rfl⟩ := H
     go_enter Tryd.func18, Tryd.ntmps18
     go_wp2_with (first | ((with_reducible refine gate_dst (N := 2) rfl ?_); refine zE 2 #[.int .i64 0, .int .i64 0, .int .i64 0, .int .i64 0] 23 ?_; intro gb245 hg w14 hbox hb; have BK245 := Aside0.mk (hbox); have GW245 := zg HB hg; have GE245 := GW245; replace HB := zh HB hb; clear hb hbox hg) | ((with_reducible refine gate_callee (f := 36) rfl ?_); refine zG (some 23) Tryd.func36 #[.string a0, .string (⟨#[124]⟩ : ByteArray)] ?_; (with_reducible refine (strings_Cut.calls a0 (⟨#[124]⟩ : ByteArray) t246 t247 t248 _ (LaidQ.below HL_.out (zy HB)) A2.out).mono ?_); rintro e w15 ⟨rfl, hb⟩; refine ⟨_, rfl, ?_⟩; replace BK245 := zb BK245 hb; replace HB := zh HB hb; clear hb) | ((with_reducible refine gate_callee (f := 36) rfl ?_); refine zG (some 29) Tryd.func36 #[.string t247, .string (⟨#[58]⟩ : ByteArray)] ?_; (with_reducible refine (strings_Cut.calls t247 (⟨#[58]⟩ : ByteArray) t249 t250 t251 _ (LaidQ.below HL_.out (zy HB)) A3.out).mono ?_); rintro e w16 ⟨rfl, hb⟩; refine ⟨_, rfl, ?_⟩; replace BK245 := zb BK245 hb; replace HB := zh HB hb; clear hb) | ((with_reducible refine gate_callee (f := 36) rfl ?_); refine zG (some 35) Tryd.func36 #[.string t250, .string (⟨#[47]⟩ : ByteArray)] ?_; (with_reducible refine (strings_Cut.calls t250 (⟨#[47]⟩ : ByteArray) t252 t253 t254 _ (LaidQ.below HL_.out (zy HB)) A4.out).mono ?_); rintro e w17 ⟨rfl, hb⟩; refine ⟨_, rfl, ?_⟩; replace BK245 := zb BK245 hb; replace HB := zh HB hb; clear hb) | ((with_reducible refine gate_callee (f := 37) rfl ?_); refine zG (some 41) Tryd.func37 #[.string t246] ?_; (with_reducible refine (impl_number.calls t246 t255 true _ (LaidQ.below HL_.out (zy HB)) A5.out).mono ?_); rintro e w18 ⟨rfl, hb⟩; refine ⟨_, rfl, ?_⟩; replace BK245 := zb BK245 hb; replace HB := zh HB hb; clear hb) | ((with_reducible refine gate_callee (f := 37) rfl ?_); refine zG (some 46) Tryd.func37 #[.string t249] ?_; (with_reducible refine (impl_number.calls t249 t257 true _ (LaidQ.below HL_.out (zy HB)) A6.out).mono ?_); rintro e w19 ⟨rfl, hb⟩; refine ⟨_, rfl, ?_⟩; replace BK245 := zb BK245 hb; replace HB := zh HB hb; clear hb) | ((with_reducible refine gate_callee (f := 37) rfl ?_); refine zG (some 51) Tryd.func37 #[.string t252] ?_; (with_reducible refine (impl_number.calls t252 t259 true _ (LaidQ.below HL_.out (zy HB)) A7.out).mono ?_); rintro e w20 ⟨rfl, hb⟩; refine ⟨_, rfl, ?_⟩; replace BK245 := zb BK245 hb; replace HB := zh HB hb; clear hb) | ((with_reducible refine gate_callee (f := 37) rfl ?_); refine zG (some 56) Tryd.func37 #[.string t253] ?_; (with_reducible refine (impl_number.calls t253 t261 true _ (LaidQ.below HL_.out (zy HB)) A8.out).mono ?_); rintro e w21 ⟨rfl, hb⟩; refine ⟨_, rfl, ?_⟩; replace BK245 := zb BK245 hb; replace HB := zh HB hb; clear hb) | ((with_reducible refine gate_callee (f := 38) rfl ?_); refine zG (some 79) Tryd.func38 #[.agg #[.int .i64 t255, .int .i64 t257, .int .i64 t259, .int .i64 t261]] ?_; (with_reducible refine (impl_checkedIsland.calls t255 t257 t259 t261 t263 t264 t265 t266 t267 _ A13.out).mono ?_); rintro e w22 ⟨rfl, hb⟩; refine ⟨_, rfl, ?_⟩; replace BK245 := zb BK245 hb; replace HB := zh HB hb; clear hb; obtain ⟨_, _, _, _, _, _, _, _⟩ := zc4 BK245))
     refine bodyPost_ret (results_ct rfl _ _ gb245 23 #[.int .i64 t263, .int .i64 t264, .int .i64 t265, .int .i64 t266] (0, 0) _ rfl (zw BK245) Tryd.underlying23 rfl (by kernel_rfl)) rfl ?_
     exact ⟨zt, zy HB⟩
    ·replace c12 := Bool.eq_false_iff.mpr c12
     subst c12; rw [if_neg (show ¬ (false = true) by decide)] at H; simp only [Option.some.injEq, Prod.mk.injEq] at H; obtain ⟨rfl, rfl, rfl, rfl, rfl⟩ := H
     go_enter Tryd.func18, Tryd.ntmps18
     go_wp2_with (first | ((with_reducible refine gate_dst (N := 2) rfl ?_); refine zE 2 #[.int .i64 0, .int .i64 0, .int .i64 0, .int .i64 0] 23 ?_; intro gb245 hg w24 hbox hb; have BK245 := Aside0.mk (hbox); have GW245 := zg HB hg; have GE245 := GW245; replace HB := zh HB hb; clear hb hbox hg) | ((with_reducible refine gate_callee (f := 36) rfl ?_); refine zG (some 23) Tryd.func36 #[.string a0, .string (⟨#[124]⟩ : ByteArray)] ?_; (with_reducible refine (strings_Cut.calls a0 (⟨#[124]⟩ : ByteArray) t246 t247 t248 _ (LaidQ.below HL_.out (zy HB)) A2.out).mono ?_); rintro e w25 ⟨rfl, hb⟩; refine ⟨_, rfl, ?_⟩; replace BK245 := zb BK245 hb; replace HB := zh HB hb; clear hb) | ((with_reducible refine gate_callee (f := 36) rfl ?_); refine zG (some 29) Tryd.func36 #[.string t247, .string (⟨#[58]⟩ : ByteArray)] ?_; (with_reducible refine (strings_Cut.calls t247 (⟨#[58]⟩ : ByteArray) t249 t250 t251 _ (LaidQ.below HL_.out (zy HB)) A3.out).mono ?_); rintro e w26 ⟨rfl, hb⟩; refine ⟨_, rfl, ?_⟩; replace BK245 := zb BK245 hb; replace HB := zh HB hb; clear hb) | ((with_reducible refine gate_callee (f := 36) rfl ?_); refine zG (some 35) Tryd.func36 #[.string t250, .string (⟨#[47]⟩ : ByteArray)] ?_; (with_reducible refine (strings_Cut.calls t250 (⟨#[47]⟩ : ByteArray) t252 t253 t254 _ (LaidQ.below HL_.out (zy HB)) A4.out).mono ?_); rintro e w27 ⟨rfl, hb⟩; refine ⟨_, rfl, ?_⟩; replace BK245 := zb BK245 hb; replace HB := zh HB hb; clear hb) | ((with_reducible refine gate_callee (f := 37) rfl ?_); refine zG (some 41) Tryd.func37 #[.string t246] ?_; (with_reducible refine (impl_number.calls t246 t255 true _ (LaidQ.below HL_.out (zy HB)) A5.out).mono ?_); rintro e w28 ⟨rfl, hb⟩; refine ⟨_, rfl, ?_⟩; replace BK245 := zb BK245 hb; replace HB := zh HB hb; clear hb) | ((with_reducible refine gate_callee (f := 37) rfl ?_); refine zG (some 46) Tryd.func37 #[.string t249] ?_; (with_reducible refine (impl_number.calls t249 t257 true _ (LaidQ.below HL_.out (zy HB)) A6.out).mono ?_); rintro e w29 ⟨rfl, hb⟩; refine ⟨_, rfl, ?_⟩; replace BK245 := zb BK245 hb; replace HB := zh HB hb; clear hb) | ((with_reducible refine gate_callee (f := 37) rfl ?_); refine zG (some 51) Tryd.func37 #[.string t252] ?_; (with_reducible refine (impl_number.calls t252 t259 true _ (LaidQ.below HL_.out (zy HB)) A7.out).mono ?_); rintro e w30 ⟨rfl, hb⟩; refine ⟨_, rfl, ?_⟩; replace BK245 := zb BK245 hb; replace HB := zh HB hb; clear hb) | ((with_reducible refine gate_callee (f := 37) rfl ?_); refine zG (some 56) Tryd.func37 #[.string t253] ?_; (with_reducible refine (impl_number.calls t253 t261 false _ (LaidQ.below HL_.out (zy HB)) A8.out).mono ?_); rintro e w31 ⟨rfl, hb⟩; refine ⟨_, rfl, ?_⟩; replace BK245 := zb BK245 hb; replace HB := zh HB hb; clear hb; obtain ⟨_, _, _, _, _, _, _, _⟩ := zc4 BK245))
     refine bodyPost_ret (results_ct rfl _ _ gb245 23 #[.int .i64 0, .int .i64 0, .int .i64 0, .int .i64 0] (0, 0) _ rfl (zw BK245) Tryd.underlying23 rfl (by kernel_rfl)) rfl ?_
     exact ⟨zt, zy HB⟩
   ·replace c11 := Bool.eq_false_iff.mpr c11
    subst c11; rw [if_neg (show ¬ (false = true) by decide)] at H; simp only [Option.some.injEq, Prod.mk.injEq] at H; obtain ⟨rfl, rfl, rfl, rfl, rfl⟩ := H
    go_enter Tryd.func18, Tryd.ntmps18
    go_wp2_with (first | ((with_reducible refine gate_dst (N := 2) rfl ?_); refine zE 2 #[.int .i64 0, .int .i64 0, .int .i64 0, .int .i64 0] 23 ?_; intro gb245 hg w33 hbox hb; have BK245 := Aside0.mk (hbox); have GW245 := zg HB hg; have GE245 := GW245; replace HB := zh HB hb; clear hb hbox hg) | ((with_reducible refine gate_callee (f := 36) rfl ?_); refine zG (some 23) Tryd.func36 #[.string a0, .string (⟨#[124]⟩ : ByteArray)] ?_; (with_reducible refine (strings_Cut.calls a0 (⟨#[124]⟩ : ByteArray) t246 t247 t248 _ (LaidQ.below HL_.out (zy HB)) A2.out).mono ?_); rintro e w34 ⟨rfl, hb⟩; refine ⟨_, rfl, ?_⟩; replace BK245 := zb BK245 hb; replace HB := zh HB hb; clear hb) | ((with_reducible refine gate_callee (f := 36) rfl ?_); refine zG (some 29) Tryd.func36 #[.string t247, .string (⟨#[58]⟩ : ByteArray)] ?_; (with_reducible refine (strings_Cut.calls t247 (⟨#[58]⟩ : ByteArray) t249 t250 t251 _ (LaidQ.below HL_.out (zy HB)) A3.out).mono ?_); rintro e w35 ⟨rfl, hb⟩; refine ⟨_, rfl, ?_⟩; replace BK245 := zb BK245 hb; replace HB := zh HB hb; clear hb) | ((with_reducible refine gate_callee (f := 36) rfl ?_); refine zG (some 35) Tryd.func36 #[.string t250, .string (⟨#[47]⟩ : ByteArray)] ?_; (with_reducible refine (strings_Cut.calls t250 (⟨#[47]⟩ : ByteArray) t252 t253 t254 _ (LaidQ.below HL_.out (zy HB)) A4.out).mono ?_); rintro e w36 ⟨rfl, hb⟩; refine ⟨_, rfl, ?_⟩; replace BK245 := zb BK245 hb; replace HB := zh HB hb; clear hb) | ((with_reducible refine gate_callee (f := 37) rfl ?_); refine zG (some 41) Tryd.func37 #[.string t246] ?_; (with_reducible refine (impl_number.calls t246 t255 true _ (LaidQ.below HL_.out (zy HB)) A5.out).mono ?_); rintro e w37 ⟨rfl, hb⟩; refine ⟨_, rfl, ?_⟩; replace BK245 := zb BK245 hb; replace HB := zh HB hb; clear hb) | ((with_reducible refine gate_callee (f := 37) rfl ?_); refine zG (some 46) Tryd.func37 #[.string t249] ?_; (with_reducible refine (impl_number.calls t249 t257 true _ (LaidQ.below HL_.out (zy HB)) A6.out).mono ?_); rintro e w38 ⟨rfl, hb⟩; refine ⟨_, rfl, ?_⟩; replace BK245 := zb BK245 hb; replace HB := zh HB hb; clear hb) | ((with_reducible refine gate_callee (f := 37) rfl ?_); refine zG (some 51) Tryd.func37 #[.string t252] ?_; (with_reducible refine (impl_number.calls t252 t259 false _ (LaidQ.below HL_.out (zy HB)) A7.out).mono ?_); rintro e w39 ⟨rfl, hb⟩; refine ⟨_, rfl, ?_⟩; replace BK245 := zb BK245 hb; replace HB := zh HB hb; clear hb) | ((with_reducible refine gate_callee (f := 37) rfl ?_); refine zG (some 56) Tryd.func37 #[.string t253] ?_; (with_reducible refine (impl_number.calls t253 t261 t262 _ (LaidQ.below HL_.out (zy HB)) A8.out).mono ?_); rintro e w40 ⟨rfl, hb⟩; refine ⟨_, rfl, ?_⟩; replace BK245 := zb BK245 hb; replace HB := zh HB hb; clear hb; obtain ⟨_, _, _, _, _, _, _, _⟩ := zc4 BK245))
    refine bodyPost_ret (results_ct rfl _ _ gb245 23 #[.int .i64 0, .int .i64 0, .int .i64 0, .int .i64 0] (0, 0) _ rfl (zw BK245) Tryd.underlying23 rfl (by kernel_rfl)) rfl ?_
    exact ⟨zt, zy HB⟩
  ·replace c10 := Bool.eq_false_iff.mpr c10
   subst c10; rw [if_neg (show ¬ (false = true) by decide)] at H; simp only [Option.some.injEq, Prod.mk.injEq] at H; obtain ⟨rfl, rfl, rfl, rfl, rfl⟩ := H
   go_enter Tryd.func18, Tryd.ntmps18
   go_wp2_with (first | ((with_reducible refine gate_dst (N := 2) rfl ?_); refine zE 2 #[.int .i64 0, .int .i64 0, .int .i64 0, .int .i64 0] 23 ?_; intro gb245 hg w42 hbox hb; have BK245 := Aside0.mk (hbox); have GW245 := zg HB hg; have GE245 := GW245; replace HB := zh HB hb; clear hb hbox hg) | ((with_reducible refine gate_callee (f := 36) rfl ?_); refine zG (some 23) Tryd.func36 #[.string a0, .string (⟨#[124]⟩ : ByteArray)] ?_; (with_reducible refine (strings_Cut.calls a0 (⟨#[124]⟩ : ByteArray) t246 t247 t248 _ (LaidQ.below HL_.out (zy HB)) A2.out).mono ?_); rintro e w43 ⟨rfl, hb⟩; refine ⟨_, rfl, ?_⟩; replace BK245 := zb BK245 hb; replace HB := zh HB hb; clear hb) | ((with_reducible refine gate_callee (f := 36) rfl ?_); refine zG (some 29) Tryd.func36 #[.string t247, .string (⟨#[58]⟩ : ByteArray)] ?_; (with_reducible refine (strings_Cut.calls t247 (⟨#[58]⟩ : ByteArray) t249 t250 t251 _ (LaidQ.below HL_.out (zy HB)) A3.out).mono ?_); rintro e w44 ⟨rfl, hb⟩; refine ⟨_, rfl, ?_⟩; replace BK245 := zb BK245 hb; replace HB := zh HB hb; clear hb) | ((with_reducible refine gate_callee (f := 36) rfl ?_); refine zG (some 35) Tryd.func36 #[.string t250, .string (⟨#[47]⟩ : ByteArray)] ?_; (with_reducible refine (strings_Cut.calls t250 (⟨#[47]⟩ : ByteArray) t252 t253 t254 _ (LaidQ.below HL_.out (zy HB)) A4.out).mono ?_); rintro e w45 ⟨rfl, hb⟩; refine ⟨_, rfl, ?_⟩; replace BK245 := zb BK245 hb; replace HB := zh HB hb; clear hb) | ((with_reducible refine gate_callee (f := 37) rfl ?_); refine zG (some 41) Tryd.func37 #[.string t246] ?_; (with_reducible refine (impl_number.calls t246 t255 true _ (LaidQ.below HL_.out (zy HB)) A5.out).mono ?_); rintro e w46 ⟨rfl, hb⟩; refine ⟨_, rfl, ?_⟩; replace BK245 := zb BK245 hb; replace HB := zh HB hb; clear hb) | ((with_reducible refine gate_callee (f := 37) rfl ?_); refine zG (some 46) Tryd.func37 #[.string t249] ?_; (with_reducible refine (impl_number.calls t249 t257 false _ (LaidQ.below HL_.out (zy HB)) A6.out).mono ?_); rintro e w47 ⟨rfl, hb⟩; refine ⟨_, rfl, ?_⟩; replace BK245 := zb BK245 hb; replace HB := zh HB hb; clear hb) | ((with_reducible refine gate_callee (f := 37) rfl ?_); refine zG (some 51) Tryd.func37 #[.string t252] ?_; (with_reducible refine (impl_number.calls t252 t259 t260 _ (LaidQ.below HL_.out (zy HB)) A7.out).mono ?_); rintro e w48 ⟨rfl, hb⟩; refine ⟨_, rfl, ?_⟩; replace BK245 := zb BK245 hb; replace HB := zh HB hb; clear hb) | ((with_reducible refine gate_callee (f := 37) rfl ?_); refine zG (some 56) Tryd.func37 #[.string t253] ?_; (with_reducible refine (impl_number.calls t253 t261 t262 _ (LaidQ.below HL_.out (zy HB)) A8.out).mono ?_); rintro e w49 ⟨rfl, hb⟩; refine ⟨_, rfl, ?_⟩; replace BK245 := zb BK245 hb; replace HB := zh HB hb; clear hb; obtain ⟨_, _, _, _, _, _, _, _⟩ := zc4 BK245))
   refine bodyPost_ret (results_ct rfl _ _ gb245 23 #[.int .i64 0, .int .i64 0, .int .i64 0, .int .i64 0] (0, 0) _ rfl (zw BK245) Tryd.underlying23 rfl (by kernel_rfl)) rfl ?_
   exact ⟨zt, zy HB⟩
 ·replace c9 := Bool.eq_false_iff.mpr c9
  subst c9; rw [if_neg (show ¬ (false = true) by decide)] at H; simp only [Option.some.injEq, Prod.mk.injEq] at H; obtain ⟨rfl, rfl, rfl, rfl, rfl⟩ := H
  go_enter Tryd.func18, Tryd.ntmps18
  go_wp2_with (first | ((with_reducible refine gate_dst (N := 2) rfl ?_); refine zE 2 #[.int .i64 0, .int .i64 0, .int .i64 0, .int .i64 0] 23 ?_; intro gb245 hg w51 hbox hb; have BK245 := Aside0.mk (hbox); have GW245 := zg HB hg; have GE245 := GW245; replace HB := zh HB hb; clear hb hbox hg) | ((with_reducible refine gate_callee (f := 36) rfl ?_); refine zG (some 23) Tryd.func36 #[.string a0, .string (⟨#[124]⟩ : ByteArray)] ?_; (with_reducible refine (strings_Cut.calls a0 (⟨#[124]⟩ : ByteArray) t246 t247 t248 _ (LaidQ.below HL_.out (zy HB)) A2.out).mono ?_); rintro e w52 ⟨rfl, hb⟩; refine ⟨_, rfl, ?_⟩; replace BK245 := zb BK245 hb; replace HB := zh HB hb; clear hb) | ((with_reducible refine gate_callee (f := 36) rfl ?_); refine zG (some 29) Tryd.func36 #[.string t247, .string (⟨#[58]⟩ : ByteArray)] ?_; (with_reducible refine (strings_Cut.calls t247 (⟨#[58]⟩ : ByteArray) t249 t250 t251 _ (LaidQ.below HL_.out (zy HB)) A3.out).mono ?_); rintro e w53 ⟨rfl, hb⟩; refine ⟨_, rfl, ?_⟩; replace BK245 := zb BK245 hb; replace HB := zh HB hb; clear hb) | ((with_reducible refine gate_callee (f := 36) rfl ?_); refine zG (some 35) Tryd.func36 #[.string t250, .string (⟨#[47]⟩ : ByteArray)] ?_; (with_reducible refine (strings_Cut.calls t250 (⟨#[47]⟩ : ByteArray) t252 t253 t254 _ (LaidQ.below HL_.out (zy HB)) A4.out).mono ?_); rintro e w54 ⟨rfl, hb⟩; refine ⟨_, rfl, ?_⟩; replace BK245 := zb BK245 hb; replace HB := zh HB hb; clear hb) | ((with_reducible refine gate_callee (f := 37) rfl ?_); refine zG (some 41) Tryd.func37 #[.string t246] ?_; (with_reducible refine (impl_number.calls t246 t255 false _ (LaidQ.below HL_.out (zy HB)) A5.out).mono ?_); rintro e w55 ⟨rfl, hb⟩; refine ⟨_, rfl, ?_⟩; replace BK245 := zb BK245 hb; replace HB := zh HB hb; clear hb) | ((with_reducible refine gate_callee (f := 37) rfl ?_); refine zG (some 46) Tryd.func37 #[.string t249] ?_; (with_reducible refine (impl_number.calls t249 t257 t258 _ (LaidQ.below HL_.out (zy HB)) A6.out).mono ?_); rintro e w56 ⟨rfl, hb⟩; refine ⟨_, rfl, ?_⟩; replace BK245 := zb BK245 hb; replace HB := zh HB hb; clear hb) | ((with_reducible refine gate_callee (f := 37) rfl ?_); refine zG (some 51) Tryd.func37 #[.string t252] ?_; (with_reducible refine (impl_number.calls t252 t259 t260 _ (LaidQ.below HL_.out (zy HB)) A7.out).mono ?_); rintro e w57 ⟨rfl, hb⟩; refine ⟨_, rfl, ?_⟩; replace BK245 := zb BK245 hb; replace HB := zh HB hb; clear hb) | ((with_reducible refine gate_callee (f := 37) rfl ?_); refine zG (some 56) Tryd.func37 #[.string t253] ?_; (with_reducible refine (impl_number.calls t253 t261 t262 _ (LaidQ.below HL_.out (zy HB)) A8.out).mono ?_); rintro e w58 ⟨rfl, hb⟩; refine ⟨_, rfl, ?_⟩; replace BK245 := zb BK245 hb; replace HB := zh HB hb; clear hb; obtain ⟨_, _, _, _, _, _, _, _⟩ := zc4 BK245))
  refine bodyPost_ret (results_ct rfl _ _ gb245 23 #[.int .i64 0, .int .i64 0, .int .i64 0, .int .i64 0] (0, 0) _ rfl (zw BK245) Tryd.underlying23 rfl (by kernel_rfl)) rfl ?_
  exact ⟨zt, zy HB⟩


/-! ### spec_SecondStep: function 19 -/
def spec_SecondStep.f (k : Nat) (a0 : Int) (a1 : Int) (a2 : Int) (a3 : Int) : Option (Int × Int × Bool) := (spec_htStaff.f a0).bind fun t268 => (if t268 = true then ((spec_htLong.f k (([a1, a2, a3] : List Int))).bind fun t272 => (if t272 = true then (if a3 ≤ a0 then (some (0, 0, false)) else ((spec_clLow.f k (wrap64 ((wrap64 (a2 * (wrap64 (a3 - a0)))) + (wrap64 (a0 * a1)))) (wrap64 (a3 - a0))).bind fun bt273 => (some (bt273.1, bt273.2, true)))) else (some (0, 0, false)))) else (some (0, 0, false)))
set_option maxHeartbeats 8000000 in
set_option maxRecDepth 100000 in
theorem spec_SecondStep.calls (k : Nat) (a0 : Int) (a1 : Int) (a2 : Int) (a3 : Int) (r1 : Int) (r2 : Int) (r3 : Bool) (w : World) (h : spec_SecondStep.f k a0 a1 a2 a3 = some (r1, r2, r3)) :
  Calls Tryd.prog 19 #[.int .i64 a0, .int .i64 a1, .int .i64 a2, .int .i64 a3] w fun e w' => e = .returned (.tuple #[.int .i64 r1, .int .i64 r2, .bool r3]) ∧ Below w.heap.size w w' := by
 have HB := Aside0.mk (Below.refl w.heap.size w)
 have H : ((spec_htStaff.f a0).bind fun t268 => (if t268 = true then ((spec_htLong.f k (([a1, a2, a3] : List Int))).bind fun t272 => (if t272 = true then (if a3 ≤ a0 then (some (0, 0, false)) else ((spec_clLow.f k (wrap64 ((wrap64 (a2 * (wrap64 (a3 - a0)))) + (wrap64 (a0 * a1)))) (wrap64 (a3 - a0))).bind fun bt273 => (some (bt273.1, bt273.2, true)))) else (some (0, 0, false)))) else (some (0, 0, false)))) = some (r1, r2, r3) := h
 clear h; replace H := Option.bind_eq_some_iff.mp H; obtain ⟨t268, A50, H⟩ := H; (try dsimp only at H); have A5 := Aside0.mk A50; clear A50
 by_cases c6 : t268 = true
 ·subst c6
  rw [if_pos rfl] at H
  obtain ⟨y269, hy269⟩ : ∃ y_ : List Int, y_ = (([a1, a2, a3] : List Int)) := ⟨_, rfl⟩
  replace H : ((spec_htLong.f k y269).bind fun t272 => (if t272 = true then (if a3 ≤ a0 then (some (0, 0, false)) else ((spec_clLow.f k (wrap64 ((wrap64 (a2 * (wrap64 (a3 - a0)))) + (wrap64 (a0 * a1)))) (wrap64 (a3 - a0))).bind fun bt273 => (some (bt273.1, bt273.2, true)))) else (some (0, 0, false)))) = some (r1, r2, r3) := by first | (rw [hy269]; with_reducible exact H) | (have H2_ := (Option.bind_some _ _).symm.trans H; rw [hy269]; with_reducible exact H2_) | (have H2_ := (Option.bind_some _ _).symm.trans H; with_reducible exact H2_) | with_reducible exact H | (rw [hy269]; exact H) | exact H
  have Ny269 := Aside0.mk hy269; clear hy269; replace H := Option.bind_eq_some_iff.mp H; obtain ⟨t272, A70, H⟩ := H; (try dsimp only at H); have A7 := Aside0.mk A70; clear A70
  by_cases c8 : t272 = true
  ·subst c8
   rw [if_pos rfl] at H
   by_cases c9 : a3 ≤ a0
   ·rw [if_pos c9] at H
    have c9b0 : decide (a3 ≤ a0) = true := decide_eq_true c9; clear c9; simp only [Option.some.injEq, Prod.mk.injEq] at H; obtain ⟨rfl, rfl, rfl⟩ := H
    go_enter Tryd.func19, Tryd.ntmps19
    go_wp2_with (first | ((with_reducible refine gate_callee (f := 39) rfl ?_); refine zG (some 14) Tryd.func39 #[.int .i64 a0] ?_; (with_reducible refine (spec_htStaff.calls a0 true _ A5.out).mono ?_); rintro e w' ⟨rfl, ⟨nd, rfl⟩⟩; refine ⟨_, rfl, ?_⟩) | ((with_reducible refine gate_dst (N := 20) rfl ?_); (try (refine gate_guard (by rfl) ?_; dsimp only)); refine Kd.R_lit (Kd.int .i64) _ 3 ?hg (N := 20) ?hd (xs := ([a1, a2, a3] : List Int)) (inner := [.int .i64 a1, .int .i64 a2, .int .i64 a3]) (ok := fun _ => True) (okp := fun _ => True) ?hr ?hp (fun _ hk => hk) trivial (Below.refl _ _) (Nat.le_refl _) zO1_3 ?_; (case hd => rfl); (case hg => rfl); (case hr => first | (go_simp; done) | (go_simp; rfl)); (case hp => exact (Reps.one (show Kd.M (Kd.int .i64) _ _ _ a1 [.int .i64 a1] from rfl) (Reps.one (show Kd.M (Kd.int .i64) _ _ _ a2 [.int .i64 a2] from rfl) (Reps.one (show Kd.M (Kd.int .i64) _ _ _ a3 [.int .i64 a3] from rfl) (Reps.none _ _))))); intro v270 w10 ho11 hb hg_ hnew_; clear hg_ hnew_; (first | rw [← Ny269.out] at ho11 | (simp only [Int.reduceToNat] at ho11; rw [← Ny269.out] at ho11)); have HO271 := Aside0.mk (Kd.R_lower ho11 (below_size (zy HB))); replace HB := zh HB hb; clear hb ho11; obtain ⟨Ao12, co12, eo12⟩ := Kd.R_slice HO271.out; subst eo12) | (go_at_call 40; (with_reducible refine (spec_htLong.calls k _ _ y269 true _ ?side1 ?side2 A7.out).mono ?_); (case side1 => repeat (first | exact (Kd.R_reads' HO271.out).2.2 | (with_reducible refine Kd.C_alloc ?_ _) | (with_reducible refine Kd.C_drewN ?_ _) | (with_reducible refine Kd.C_drew ?_))); (case side2 => exact (Kd.R_reads' HO271.out).2.1); rintro e w' ⟨rfl, ⟨nd, rfl⟩⟩))
    go_ret3
    exact ⟨zt, zy HB⟩
   ·rw [if_neg c9] at H
    have c9b0 : decide (a3 ≤ a0) = false := decide_eq_false c9; clear c9; replace H := Option.bind_eq_some_iff.mp H; obtain ⟨⟨t273, t274⟩, A130, H⟩ := H
    replace H : (some (t273, t274, true)) = some (r1, r2, r3) := H
    have A13 := Aside0.mk A130; clear A130; simp only [Option.some.injEq, Prod.mk.injEq] at H; obtain ⟨rfl, rfl, rfl⟩ := H
    go_enter Tryd.func19, Tryd.ntmps19
    go_wp2_with (first | ((with_reducible refine gate_callee (f := 39) rfl ?_); refine zG (some 14) Tryd.func39 #[.int .i64 a0] ?_; (with_reducible refine (spec_htStaff.calls a0 true _ A5.out).mono ?_); rintro e w' ⟨rfl, ⟨nd, rfl⟩⟩; refine ⟨_, rfl, ?_⟩) | ((with_reducible refine gate_dst (N := 20) rfl ?_); (try (refine gate_guard (by rfl) ?_; dsimp only)); refine Kd.R_lit (Kd.int .i64) _ 3 ?hg (N := 20) ?hd (xs := ([a1, a2, a3] : List Int)) (inner := [.int .i64 a1, .int .i64 a2, .int .i64 a3]) (ok := fun _ => True) (okp := fun _ => True) ?hr ?hp (fun _ hk => hk) trivial (Below.refl _ _) (Nat.le_refl _) zO1_3 ?_; (case hd => rfl); (case hg => rfl); (case hr => first | (go_simp; done) | (go_simp; rfl)); (case hp => exact (Reps.one (show Kd.M (Kd.int .i64) _ _ _ a1 [.int .i64 a1] from rfl) (Reps.one (show Kd.M (Kd.int .i64) _ _ _ a2 [.int .i64 a2] from rfl) (Reps.one (show Kd.M (Kd.int .i64) _ _ _ a3 [.int .i64 a3] from rfl) (Reps.none _ _))))); intro v270 w14 ho15 hb hg_ hnew_; clear hg_ hnew_; (first | rw [← Ny269.out] at ho15 | (simp only [Int.reduceToNat] at ho15; rw [← Ny269.out] at ho15)); have HO271 := Aside0.mk (Kd.R_lower ho15 (below_size (zy HB))); replace HB := zh HB hb; clear hb ho15; obtain ⟨Ao16, co16, eo16⟩ := Kd.R_slice HO271.out; subst eo16) | (go_at_call 40; (with_reducible refine (spec_htLong.calls k _ _ y269 true _ ?side1 ?side2 A7.out).mono ?_); (case side1 => repeat (first | exact (Kd.R_reads' HO271.out).2.2 | (with_reducible refine Kd.C_alloc ?_ _) | (with_reducible refine Kd.C_drewN ?_ _) | (with_reducible refine Kd.C_drew ?_))); (case side2 => exact (Kd.R_reads' HO271.out).2.1); rintro e w' ⟨rfl, ⟨nd, rfl⟩⟩) | ((with_reducible refine gate_callee (f := 31) rfl ?_); refine zG (some 42) Tryd.func31 #[.int .i64 (wrap64 ((wrap64 (a2 * (wrap64 (a3 - a0)))) + (wrap64 (a0 * a1)))), .int .i64 (wrap64 (a3 - a0))] ?_; (with_reducible refine (spec_clLow.calls k (wrap64 ((wrap64 (a2 * (wrap64 (a3 - a0)))) + (wrap64 (a0 * a1)))) (wrap64 (a3 - a0)) t273 t274 _ A13.out).mono ?_); rintro e w' ⟨rfl, ⟨nd, rfl⟩⟩; refine ⟨_, rfl, ?_⟩))
    go_ret3
    exact ⟨zt, zy HB⟩
  ·replace c8 := Bool.eq_false_iff.mpr c8
   subst c8; rw [if_neg (show ¬ (false = true) by decide)] at H; simp only [Option.some.injEq, Prod.mk.injEq] at H; obtain ⟨rfl, rfl, rfl⟩ := H
   go_enter Tryd.func19, Tryd.ntmps19
   go_wp2_with (first | ((with_reducible refine gate_callee (f := 39) rfl ?_); refine zG (some 14) Tryd.func39 #[.int .i64 a0] ?_; (with_reducible refine (spec_htStaff.calls a0 true _ A5.out).mono ?_); rintro e w' ⟨rfl, ⟨nd, rfl⟩⟩; refine ⟨_, rfl, ?_⟩) | ((with_reducible refine gate_dst (N := 20) rfl ?_); (try (refine gate_guard (by rfl) ?_; dsimp only)); refine Kd.R_lit (Kd.int .i64) _ 3 ?hg (N := 20) ?hd (xs := ([a1, a2, a3] : List Int)) (inner := [.int .i64 a1, .int .i64 a2, .int .i64 a3]) (ok := fun _ => True) (okp := fun _ => True) ?hr ?hp (fun _ hk => hk) trivial (Below.refl _ _) (Nat.le_refl _) zO1_3 ?_; (case hd => rfl); (case hg => rfl); (case hr => first | (go_simp; done) | (go_simp; rfl)); (case hp => exact (Reps.one (show Kd.M (Kd.int .i64) _ _ _ a1 [.int .i64 a1] from rfl) (Reps.one (show Kd.M (Kd.int .i64) _ _ _ a2 [.int .i64 a2] from rfl) (Reps.one (show Kd.M (Kd.int .i64) _ _ _ a3 [.int .i64 a3] from rfl) (Reps.none _ _))))); intro v270 w17 ho18 hb hg_ hnew_; clear hg_ hnew_; (first | rw [← Ny269.out] at ho18 | (simp only [Int.reduceToNat] at ho18; rw [← Ny269.out] at ho18)); have HO271 := Aside0.mk (Kd.R_lower ho18 (below_size (zy HB))); replace HB := zh HB hb; clear hb ho18; obtain ⟨Ao19, co19, eo19⟩ := Kd.R_slice HO271.out; subst eo19) | (go_at_call 40; (with_reducible refine (spec_htLong.calls k _ _ y269 false _ ?side1 ?side2 A7.out).mono ?_); (case side1 => repeat (first | exact (Kd.R_reads' HO271.out).2.2 | (with_reducible refine Kd.C_alloc ?_ _) | (with_reducible refine Kd.C_drewN ?_ _) | (with_reducible refine Kd.C_drew ?_))); (case side2 => exact (Kd.R_reads' HO271.out).2.1); rintro e w' ⟨rfl, ⟨nd, rfl⟩⟩))
   go_ret3
   exact ⟨zt, zy HB⟩
 ·replace c6 := Bool.eq_false_iff.mpr c6
  subst c6; rw [if_neg (show ¬ (false = true) by decide)] at H; simp only [Option.some.injEq, Prod.mk.injEq] at H; obtain ⟨rfl, rfl, rfl⟩ := H
  go_enter Tryd.func19, Tryd.ntmps19
  go_wp2_with (first | ((with_reducible refine gate_callee (f := 39) rfl ?_); refine zG (some 14) Tryd.func39 #[.int .i64 a0] ?_; (with_reducible refine (spec_htStaff.calls a0 false _ A5.out).mono ?_); rintro e w' ⟨rfl, ⟨nd, rfl⟩⟩; refine ⟨_, rfl, ?_⟩))
  go_ret3
  exact ⟨zt, zy HB⟩


/-! ### spec_StepsForIsland: function 20 -/
def spec_StepsForIsland.j0 : Nat → Int → Int → Int → Int → Bool → Option (Int × Int × Int × Int × Bool)
 | 0, _, _, _, _, _ => none
 | k + 1, x0, x1, x2, x3, x32 => if x32 = true then (some (0, 0, 0, 0, false)) else ((spec_clLow.f k (wrap64 (x0 * x3)) (wrap64 (x2 - x0))).bind fun bt280 => ((spec_clLow.f k (wrap64 (x0 * (wrap64 (x3 + x1)))) (wrap64 (x2 - x0))).bind fun bt282 => (some (bt280.1, bt280.2, bt282.1, bt282.2, true))))
def spec_StepsForIsland.f (k : Nat) (a0 : Int) (a1 : Int) (a2 : Int) (a3 : Int) : Option (Int × Int × Int × Int × Bool) := (spec_htStaff.f a0).bind fun t275 => (if t275 = true then ((spec_htLong.f k (([a1, a2, a3] : List Int))).bind fun t279 => (if t279 = true then (spec_StepsForIsland.j0 k a0 a1 a2 a3 (decide (a2 ≤ a0))) else (spec_StepsForIsland.j0 k a0 a1 a2 a3 true))) else (spec_StepsForIsland.j0 k a0 a1 a2 a3 true))
set_option maxHeartbeats 8000000 in
set_option maxRecDepth 100000 in
theorem spec_StepsForIsland.calls (k : Nat) (a0 : Int) (a1 : Int) (a2 : Int) (a3 : Int) (r1 : Int) (r2 : Int) (r3 : Int) (r4 : Int) (r5 : Bool) (w : World) (h : spec_StepsForIsland.f k a0 a1 a2 a3 = some (r1, r2, r3, r4, r5)) :
  Calls Tryd.prog 20 #[.int .i64 a0, .int .i64 a1, .int .i64 a2, .int .i64 a3] w fun e w' => e = .returned (.tuple #[.int .i64 r1, .int .i64 r2, .int .i64 r3, .int .i64 r4, .bool r5]) ∧ Below w.heap.size w w' := by
 have HB := Aside0.mk (Below.refl w.heap.size w)
 have H : ((spec_htStaff.f a0).bind fun t275 => (if t275 = true then ((spec_htLong.f k (([a1, a2, a3] : List Int))).bind fun t279 => (if t279 = true then (spec_StepsForIsland.j0 k a0 a1 a2 a3 (decide (a2 ≤ a0))) else (spec_StepsForIsland.j0 k a0 a1 a2 a3 true))) else (spec_StepsForIsland.j0 k a0 a1 a2 a3 true))) = some (r1, r2, r3, r4, r5) := h
 clear h; have HC5 := Aside0.mk H; clear H
 go_enter Tryd.func20, Tryd.ntmps20
 go_upto_region 1 with (fail)
 go_cut [32] (fun v32 wc => ∃ (kq : Nat) (x32_4 : Bool), v32 = .bool x32_4 ∧ Aside0 (spec_StepsForIsland.j0 kq a0 a1 a2 a3 x32_4 = some (r1, r2, r3, r4, r5)) ∧ Aside0 (kq ≤ k) ∧ Aside0 (Below w.heap.size w wc))
 case first =>
  have H := HC5.out; clear HC5; replace H := Option.bind_eq_some_iff.mp H; obtain ⟨t275, A60, H⟩ := H; (try dsimp only at H); have A6 := Aside0.mk A60; clear A60
  by_cases c7 : t275 = true
  ·subst c7
   rw [if_pos rfl] at H
   obtain ⟨y276, hy276⟩ : ∃ y_ : List Int, y_ = (([a1, a2, a3] : List Int)) := ⟨_, rfl⟩
   replace H : ((spec_htLong.f k y276).bind fun t279 => (if t279 = true then (spec_StepsForIsland.j0 k a0 a1 a2 a3 (decide (a2 ≤ a0))) else (spec_StepsForIsland.j0 k a0 a1 a2 a3 true))) = some (r1, r2, r3, r4, r5) := by first | (rw [hy276]; with_reducible exact H) | (have H2_ := (Option.bind_some _ _).symm.trans H; rw [hy276]; with_reducible exact H2_) | (have H2_ := (Option.bind_some _ _).symm.trans H; with_reducible exact H2_) | with_reducible exact H | (rw [hy276]; exact H) | exact H
   have Ny276 := Aside0.mk hy276; clear hy276; replace H := Option.bind_eq_some_iff.mp H; obtain ⟨t279, A80, H⟩ := H
   replace H : (if t279 = true then (spec_StepsForIsland.j0 k a0 a1 a2 a3 (decide (a2 ≤ a0))) else (spec_StepsForIsland.j0 k a0 a1 a2 a3 true)) = some (r1, r2, r3, r4, r5) := H
   have A8 := Aside0.mk A80; clear A80
   by_cases c9 : t279 = true
   ·subst c9
    rw [if_pos rfl] at H; have H' := Aside0.mk H; clear H
    go_wp2_with (first | ((with_reducible refine gate_callee (f := 39) rfl ?_); refine zG (some 18) Tryd.func39 #[.int .i64 a0] ?_; (with_reducible refine (spec_htStaff.calls a0 true _ A6.out).mono ?_); rintro e w' ⟨rfl, ⟨nd, rfl⟩⟩; refine ⟨_, rfl, ?_⟩) | ((with_reducible refine gate_dst (N := 24) rfl ?_); (try (refine gate_guard (by rfl) ?_; dsimp only)); refine Kd.R_lit (Kd.int .i64) _ 3 ?hg (N := 24) ?hd (xs := ([a1, a2, a3] : List Int)) (inner := [.int .i64 a1, .int .i64 a2, .int .i64 a3]) (ok := fun _ => True) (okp := fun _ => True) ?hr ?hp (fun _ hk => hk) trivial (Below.refl _ _) (Nat.le_refl _) zO1_3 ?_; (case hd => rfl); (case hg => rfl); (case hr => first | (go_simp; done) | (go_simp; rfl)); (case hp => exact (Reps.one (show Kd.M (Kd.int .i64) _ _ _ a1 [.int .i64 a1] from rfl) (Reps.one (show Kd.M (Kd.int .i64) _ _ _ a2 [.int .i64 a2] from rfl) (Reps.one (show Kd.M (Kd.int .i64) _ _ _ a3 [.int .i64 a3] from rfl) (Reps.none _ _))))); intro v277 w10 ho11 hb hg_ hnew_; clear hg_ hnew_; (first | rw [← Ny276.out] at ho11 | (simp only [Int.reduceToNat] at ho11; rw [← Ny276.out] at ho11)); have HO278 := Aside0.mk (Kd.R_lower ho11 (below_size (zy HB))); replace HB := zh HB hb; clear hb ho11; obtain ⟨Ao12, co12, eo12⟩ := Kd.R_slice HO278.out; subst eo12) | (go_at_call 40; (with_reducible refine (spec_htLong.calls k _ _ y276 true _ ?side1 ?side2 A8.out).mono ?_); (case side1 => repeat (first | exact (Kd.R_reads' HO278.out).2.2 | (with_reducible refine Kd.C_alloc ?_ _) | (with_reducible refine Kd.C_drewN ?_ _) | (with_reducible refine Kd.C_drew ?_))); (case side2 => exact (Kd.R_reads' HO278.out).2.1); rintro e w' ⟨rfl, ⟨nd, rfl⟩⟩))
    go_meet
    case rel => exact ⟨_, (decide (a2 ≤ a0)), zu, H', ⟨by first | omega | exact Nat.le_refl _⟩, ⟨zy HB⟩⟩
   ·replace c9 := Bool.eq_false_iff.mpr c9
    subst c9; rw [if_neg (show ¬ (false = true) by decide)] at H; have H' := Aside0.mk H; clear H
    go_wp2_with (first | ((with_reducible refine gate_callee (f := 39) rfl ?_); refine zG (some 18) Tryd.func39 #[.int .i64 a0] ?_; (with_reducible refine (spec_htStaff.calls a0 true _ A6.out).mono ?_); rintro e w' ⟨rfl, ⟨nd, rfl⟩⟩; refine ⟨_, rfl, ?_⟩) | ((with_reducible refine gate_dst (N := 24) rfl ?_); (try (refine gate_guard (by rfl) ?_; dsimp only)); refine Kd.R_lit (Kd.int .i64) _ 3 ?hg (N := 24) ?hd (xs := ([a1, a2, a3] : List Int)) (inner := [.int .i64 a1, .int .i64 a2, .int .i64 a3]) (ok := fun _ => True) (okp := fun _ => True) ?hr ?hp (fun _ hk => hk) trivial (Below.refl _ _) (Nat.le_refl _) zO1_3 ?_; (case hd => rfl); (case hg => rfl); (case hr => first | (go_simp; done) | (go_simp; rfl)); (case hp => exact (Reps.one (show Kd.M (Kd.int .i64) _ _ _ a1 [.int .i64 a1] from rfl) (Reps.one (show Kd.M (Kd.int .i64) _ _ _ a2 [.int .i64 a2] from rfl) (Reps.one (show Kd.M (Kd.int .i64) _ _ _ a3 [.int .i64 a3] from rfl) (Reps.none _ _))))); intro v277 w13 ho14 hb hg_ hnew_; clear hg_ hnew_; (first | rw [← Ny276.out] at ho14 | (simp only [Int.reduceToNat] at ho14; rw [← Ny276.out] at ho14)); have HO278 := Aside0.mk (Kd.R_lower ho14 (below_size (zy HB))); replace HB := zh HB hb; clear hb ho14; obtain ⟨Ao15, co15, eo15⟩ := Kd.R_slice HO278.out; subst eo15) | (go_at_call 40; (with_reducible refine (spec_htLong.calls k _ _ y276 false _ ?side1 ?side2 A8.out).mono ?_); (case side1 => repeat (first | exact (Kd.R_reads' HO278.out).2.2 | (with_reducible refine Kd.C_alloc ?_ _) | (with_reducible refine Kd.C_drewN ?_ _) | (with_reducible refine Kd.C_drew ?_))); (case side2 => exact (Kd.R_reads' HO278.out).2.1); rintro e w' ⟨rfl, ⟨nd, rfl⟩⟩))
    go_meet
    case rel => exact ⟨_, (true), zu, H', ⟨by first | omega | exact Nat.le_refl _⟩, ⟨zy HB⟩⟩
  ·replace c7 := Bool.eq_false_iff.mpr c7
   subst c7; rw [if_neg (show ¬ (false = true) by decide)] at H; have H' := Aside0.mk H; clear H
   go_wp2_with (first | ((with_reducible refine gate_callee (f := 39) rfl ?_); refine zG (some 18) Tryd.func39 #[.int .i64 a0] ?_; (with_reducible refine (spec_htStaff.calls a0 false _ A6.out).mono ?_); rintro e w' ⟨rfl, ⟨nd, rfl⟩⟩; refine ⟨_, rfl, ?_⟩))
   go_meet
   case rel => exact ⟨_, (true), zu, H', ⟨by first | omega | exact Nat.le_refl _⟩, ⟨zy HB⟩⟩
 case rest =>
  clear HC5
  obtain ⟨kq, x32_4, rfl, HA, HJ4, HB⟩ := hcut
  cases kq with
  | zero => exact absurd HA.out (by simp [spec_StepsForIsland.j0])
  | succ kj4 =>
   have H := HA.out; clear HA; simp only [spec_StepsForIsland.j0] at H
   by_cases c16 : x32_4 = true
   ·subst c16
    rw [if_pos rfl] at H; simp only [Option.some.injEq, Prod.mk.injEq] at H; obtain ⟨rfl, rfl, rfl, rfl, rfl⟩ := H
    go_wp2
    refine bodyPost_ret (results_list (rs := [.tmp 8, .tmp 9, .tmp 10, .tmp 11, .tmp 12]) rfl zO1_3 (.tmp (.tmp (.tmp (.tmp (.tmp .nil)))))) rfl ?_
    exact ⟨zt, zy HB⟩
   ·replace c16 := Bool.eq_false_iff.mpr c16
    subst c16; rw [if_neg (show ¬ (false = true) by decide)] at H; replace H := Option.bind_eq_some_iff.mp H; obtain ⟨⟨t280, t281⟩, A170, H⟩ := H; (try dsimp only at H); have A17 := Aside0.mk A170; clear A170; replace H := Option.bind_eq_some_iff.mp H; obtain ⟨⟨t282, t283⟩, A180, H⟩ := H
    replace H : (some (t280, t281, t282, t283, true)) = some (r1, r2, r3, r4, r5) := H
    have A18 := Aside0.mk A180; clear A180; simp only [Option.some.injEq, Prod.mk.injEq] at H; obtain ⟨rfl, rfl, rfl, rfl, rfl⟩ := H
    go_wp2_with (first | ((with_reducible refine gate_callee (f := 31) rfl ?_); refine zG (some 40) Tryd.func31 #[.int .i64 (wrap64 (a0 * a3)), .int .i64 (wrap64 (a2 - a0))] ?_; (with_reducible refine (spec_clLow.calls kj4 (wrap64 (a0 * a3)) (wrap64 (a2 - a0)) t280 t281 _ A17.out).mono ?_); rintro e w' ⟨rfl, ⟨nd, rfl⟩⟩; refine ⟨_, rfl, ?_⟩) | ((with_reducible refine gate_callee (f := 31) rfl ?_); refine zG (some 52) Tryd.func31 #[.int .i64 (wrap64 (a0 * (wrap64 (a3 + a1)))), .int .i64 (wrap64 (a2 - a0))] ?_; (with_reducible refine (spec_clLow.calls kj4 (wrap64 (a0 * (wrap64 (a3 + a1)))) (wrap64 (a2 - a0)) t282 t283 _ A18.out).mono ?_); rintro e w' ⟨rfl, ⟨nd, rfl⟩⟩; refine ⟨_, rfl, ?_⟩))
    refine bodyPost_ret (results_list (rs := [.tmp 8, .tmp 9, .tmp 10, .tmp 11, .tmp 12]) rfl zO1_3 (.tmp (.tmp (.tmp (.tmp (.tmp .nil)))))) rfl ?_
    exact ⟨zt, zy HB⟩


/-! ### impl_WholeIslands: function 21 -/
mutual
def impl_WholeIslands.j0 : Nat → Int → Int → Bool → Option ((List (List Int)) × Bool)
 | 0, _, _, _ => none
 | k + 1, x0, x1, x25 => if x25 = true then (some (([] : List (List Int)), false)) else (impl_WholeIslands.l0 k x0 x1 (([] : List (List Int))) 1)
def impl_WholeIslands.l0 : Nat → Int → Int → List (List Int) → Int → Option ((List (List Int)) × Bool)
 | 0, _, _, _, _ => none
 | k + 1, x0, x1, x6, x7 => if x7 < 30 then (impl_WholeIslands.l1 k x0 x1 x6 x7 (wrap64 (x7 + 1))) else (some (x6, true))
def impl_WholeIslands.l1 : Nat → Int → Int → List (List Int) → Int → Int → Option ((List (List Int)) × Bool)
 | 0, _, _, _, _, _ => none
 | k + 1, x0, x1, x6, x7, x8 => if x8 ≤ 30 then ((impl_IslandHeight.f k x0 x1 x7 x8).bind fun bt296 => ((impl_IslandAway.f k x0 x1 x7 x8).bind fun bt299 => (if bt296.2.1 = 1 then (if bt299.2.1 = 1 then (if x6.length < 5864062014805 then (impl_WholeIslands.l1 k x0 x1 (x6 ++ [(([x7, x8, bt296.1, bt299.1] : List Int))]) x7 (wrap64 (x8 + 1))) else (none)) else (impl_WholeIslands.l1 k x0 x1 x6 x7 (wrap64 (x8 + 1)))) else (impl_WholeIslands.l1 k x0 x1 x6 x7 (wrap64 (x8 + 1)))))) else (impl_WholeIslands.l0 k x0 x1 x6 (wrap64 (x7 + 1)))
end
def impl_WholeIslands.f (k : Nat) (a0 : Int) (a1 : Int) : Option ((List (List Int)) × Bool) := (impl_areStaffs.f (([a0] : List Int))).bind fun t287 => (if t287 = true then ((impl_areSteps.f (([a1] : List Int))).bind fun t291 => (impl_WholeIslands.j0 k a0 a1 (!t291))) else (impl_WholeIslands.j0 k a0 a1 true))
set_option maxHeartbeats 8000000 in
set_option maxRecDepth 100000 in
theorem impl_WholeIslands.calls (k : Nat) (a0 : Int) (a1 : Int) (r1 : List (List Int)) (r2 : Bool) (w : World) (h : impl_WholeIslands.f k a0 a1 = some (r1, r2)) :
  Calls Tryd.prog 21 #[.int .i64 a0, .int .i64 a1] w fun e w' => ∃ v0_ : Value, e = .returned (.tuple #[v0_, .bool r2]) ∧ Kd.S (Kd.slice 3 (Kd.int .i64)) 41 w' w.heap.size (fun _ => True) v0_ r1 ∧ Below w.heap.size w w' := by
 have hu23 := Tryd.underlying23
 have HB := Aside0.mk (Below.refl w.heap.size w)
 have H : ((impl_areStaffs.f (([a0] : List Int))).bind fun t287 => (if t287 = true then ((impl_areSteps.f (([a1] : List Int))).bind fun t291 => (impl_WholeIslands.j0 k a0 a1 (!t291))) else (impl_WholeIslands.j0 k a0 a1 true))) = some (r1, r2) := h
 clear h; have HC3 := Aside0.mk H; clear H
 go_enter Tryd.func21, Tryd.ntmps21
 go_upto_region 1 with (fail)
 go_cut [25] (fun v25 wc => ∃ (kq : Nat) (x25_2 : Bool), v25 = .bool x25_2 ∧ Aside0 (impl_WholeIslands.j0 kq a0 a1 x25_2 = some (r1, r2)) ∧ Aside0 (kq ≤ k) ∧ Aside0 (Below w.heap.size w wc))
 case first =>
  have H := HC3.out; clear HC3
  obtain ⟨y284, hy284⟩ : ∃ y_ : List Int, y_ = (([a0] : List Int)) := ⟨_, rfl⟩
  replace H : ((impl_areStaffs.f y284).bind fun t287 => (if t287 = true then ((impl_areSteps.f (([a1] : List Int))).bind fun t291 => (impl_WholeIslands.j0 k a0 a1 (!t291))) else (impl_WholeIslands.j0 k a0 a1 true))) = some (r1, r2) := by first | (rw [hy284]; with_reducible exact H) | (have H2_ := (Option.bind_some _ _).symm.trans H; rw [hy284]; with_reducible exact H2_) | (have H2_ := (Option.bind_some _ _).symm.trans H; with_reducible exact H2_) | with_reducible exact H | (rw [hy284]; exact H) | exact H
  have Ny284 := Aside0.mk hy284; clear hy284; replace H := Option.bind_eq_some_iff.mp H; obtain ⟨t287, A40, H⟩ := H; (try dsimp only at H); have A4 := Aside0.mk A40; clear A40
  by_cases c5 : t287 = true
  ·subst c5
   rw [if_pos rfl] at H
   obtain ⟨y288, hy288⟩ : ∃ y_ : List Int, y_ = (([a1] : List Int)) := ⟨_, rfl⟩
   replace H : ((impl_areSteps.f y288).bind fun t291 => (impl_WholeIslands.j0 k a0 a1 (!t291))) = some (r1, r2) := by first | (rw [hy288]; with_reducible exact H) | (have H2_ := (Option.bind_some _ _).symm.trans H; rw [hy288]; with_reducible exact H2_) | (have H2_ := (Option.bind_some _ _).symm.trans H; with_reducible exact H2_) | with_reducible exact H | (rw [hy288]; exact H) | exact H
   have Ny288 := Aside0.mk hy288; clear hy288; replace H := Option.bind_eq_some_iff.mp H; obtain ⟨t291, A60, H⟩ := H
   replace H : (impl_WholeIslands.j0 k a0 a1 (!t291)) = some (r1, r2) := H
   have A6 := Aside0.mk A60; clear A60; have H' := Aside0.mk H; clear H
   go_wp2_with (first | ((with_reducible refine gate_dst (N := 17) rfl ?_); (try (refine gate_guard (by rfl) ?_; dsimp only)); refine Kd.R_lit (Kd.int .i64) _ 3 ?hg (N := 17) ?hd (xs := ([a0] : List Int)) (inner := [.int .i64 a0]) (ok := fun _ => True) (okp := fun _ => True) ?hr ?hp (fun _ hk => hk) trivial (Below.refl _ _) (Nat.le_refl _) zO1_3 ?_; (case hd => rfl); (case hg => rfl); (case hr => first | (go_simp; done) | (go_simp; rfl)); (case hp => exact (Reps.one (show Kd.M (Kd.int .i64) _ _ _ a0 [.int .i64 a0] from rfl) (Reps.none _ _))); intro v285 w7 ho8 hb hg_ hnew_; clear hg_ hnew_; (first | rw [← Ny284.out] at ho8 | (simp only [Int.reduceToNat] at ho8; rw [← Ny284.out] at ho8)); have HO286 := Aside0.mk (Kd.R_lower ho8 (below_size (zy HB))); replace HB := zh HB hb; clear hb ho8; obtain ⟨Ao9, co9, eo9⟩ := Kd.R_slice HO286.out; subst eo9) | ((with_reducible refine gate_callee (f := 34) rfl ?_); refine zG (some 18) Tryd.func34 #[.slice Ao9 y284.length co9] ?_; (with_reducible refine (impl_areStaffs.calls _ _ y284 true _ ?side1 ?side2 A4.out).mono ?_); (case side1 => repeat (first | exact (Kd.R_reads' HO286.out).2.2 | (with_reducible refine Kd.C_alloc ?_ _) | (with_reducible refine Kd.C_drewN ?_ _) | (with_reducible refine Kd.C_drew ?_))); (case side2 => exact (Kd.R_reads' HO286.out).2.1); rintro e w' ⟨rfl, ⟨nd, rfl⟩⟩; refine ⟨_, rfl, ?_⟩) | ((with_reducible refine gate_dst (N := 22) rfl ?_); (try (refine gate_guard (by rfl) ?_; dsimp only)); refine Kd.R_lit (Kd.int .i64) _ 3 ?hg (N := 22) ?hd (xs := ([a1] : List Int)) (inner := [.int .i64 a1]) (ok := fun _ => True) (okp := fun _ => True) ?hr ?hp (fun _ hk => hk) trivial (Below.refl _ _) (Nat.le_refl _) zO1_3 ?_; (case hd => rfl); (case hg => rfl); (case hr => first | (go_simp; done) | (go_simp; rfl)); (case hp => exact (Reps.one (show Kd.M (Kd.int .i64) _ _ _ a1 [.int .i64 a1] from rfl) (Reps.none _ _))); intro v289 w10 ho11 hb hg_ hnew_; clear hg_ hnew_; (first | rw [← Ny288.out] at ho11 | (simp only [Int.reduceToNat] at ho11; rw [← Ny288.out] at ho11)); have n0_ := Aside0.mk (Kd.R_elder' (zs HO286) (Kd.R_base ho11) hb); have HO290 := Aside0.mk (Kd.R_lower (Kd.R_new' ho11 (Kd.R_lt (zs HO286))) (below_size (zy HB))); replace HB := zh HB hb; clear HO286; have HO286 := n0_; clear n0_; clear hb ho11; obtain ⟨Ao12, co12, eo12⟩ := Kd.R_slice HO290.out; subst eo12) | (go_at_call 35; (with_reducible refine (impl_areSteps.calls _ _ y288 t291 _ ?side1 ?side2 A6.out).mono ?_); (case side1 => repeat (first | exact (Kd.R_reads' HO290.out).2.2 | (with_reducible refine Kd.C_alloc ?_ _) | (with_reducible refine Kd.C_drewN ?_ _) | (with_reducible refine Kd.C_drew ?_))); (case side2 => exact (Kd.R_reads' HO290.out).2.1); rintro e w' ⟨rfl, ⟨nd, rfl⟩⟩))
   go_meet
   case rel => exact ⟨_, (!t291), zu, H', ⟨by first | omega | exact Nat.le_refl _⟩, ⟨zy HB⟩⟩
  ·replace c5 := Bool.eq_false_iff.mpr c5
   subst c5; rw [if_neg (show ¬ (false = true) by decide)] at H; have H' := Aside0.mk H; clear H
   go_wp2_with (first | ((with_reducible refine gate_dst (N := 17) rfl ?_); (try (refine gate_guard (by rfl) ?_; dsimp only)); refine Kd.R_lit (Kd.int .i64) _ 3 ?hg (N := 17) ?hd (xs := ([a0] : List Int)) (inner := [.int .i64 a0]) (ok := fun _ => True) (okp := fun _ => True) ?hr ?hp (fun _ hk => hk) trivial (Below.refl _ _) (Nat.le_refl _) zO1_3 ?_; (case hd => rfl); (case hg => rfl); (case hr => first | (go_simp; done) | (go_simp; rfl)); (case hp => exact (Reps.one (show Kd.M (Kd.int .i64) _ _ _ a0 [.int .i64 a0] from rfl) (Reps.none _ _))); intro v285 w13 ho14 hb hg_ hnew_; clear hg_ hnew_; (first | rw [← Ny284.out] at ho14 | (simp only [Int.reduceToNat] at ho14; rw [← Ny284.out] at ho14)); have HO286 := Aside0.mk (Kd.R_lower ho14 (below_size (zy HB))); replace HB := zh HB hb; clear hb ho14; obtain ⟨Ao15, co15, eo15⟩ := Kd.R_slice HO286.out; subst eo15) | ((with_reducible refine gate_callee (f := 34) rfl ?_); refine zG (some 18) Tryd.func34 #[.slice Ao15 y284.length co15] ?_; (with_reducible refine (impl_areStaffs.calls _ _ y284 false _ ?side1 ?side2 A4.out).mono ?_); (case side1 => repeat (first | exact (Kd.R_reads' HO286.out).2.2 | (with_reducible refine Kd.C_alloc ?_ _) | (with_reducible refine Kd.C_drewN ?_ _) | (with_reducible refine Kd.C_drew ?_))); (case side2 => exact (Kd.R_reads' HO286.out).2.1); rintro e w' ⟨rfl, ⟨nd, rfl⟩⟩; refine ⟨_, rfl, ?_⟩))
   go_meet
   case rel => exact ⟨_, (true), zu, H', ⟨by first | omega | exact Nat.le_refl _⟩, ⟨zy HB⟩⟩
 case rest =>
  clear HC3
  obtain ⟨kq, x25_2, rfl, HA, HJ2, HB⟩ := hcut
  cases kq with
  | zero => exact absurd HA.out (by simp [impl_WholeIslands.j0])
  | succ kj2 =>
   have H := HA.out; clear HA; simp only [impl_WholeIslands.j0] at H
   by_cases c16 : x25_2 = true
   ·subst c16
    rw [if_pos rfl] at H; simp only [Option.some.injEq, Prod.mk.injEq] at H; obtain ⟨rfl, rfl⟩ := H
    go_wp2
    go_ret2
    exact ⟨_, zt, by first | exact Kd.S_nil _ _ _ _ _ | exact Kd.N_nil _ _ _ _ _ | exact Kd.V_nil _ _ _ _ _ | exact Kd.Q_nil _ _ _ _ _ | exact Kd.R_nil _ _ _ _ _, zy HB⟩
   ·replace c16 := Bool.eq_false_iff.mpr c16
    subst c16; rw [if_neg (show ¬ (false = true) by decide)] at H
    obtain ⟨y292, hy292⟩ : ∃ y_ : List (List Int), y_ = (([] : List (List Int))) := ⟨_, rfl⟩
    replace H : (impl_WholeIslands.l0 kj2 a0 a1 y292 1) = some (r1, r2) := by first | (rw [hy292]; with_reducible exact H) | (have H2_ := (Option.bind_some _ _).symm.trans H; rw [hy292]; with_reducible exact H2_) | (have H2_ := (Option.bind_some _ _).symm.trans H; with_reducible exact H2_) | with_reducible exact H | (rw [hy292]; exact H) | exact H
    have Ny292 := Aside0.mk hy292; clear hy292; have H' := Aside0.mk H; clear H
    go_wp2_with (first | ((with_reducible refine gate_dst (N := 26) rfl ?_); (try (refine gate_guard (by rfl) ?_; dsimp only)); refine Kd.S_lit (Kd.slice 3 (Kd.int .i64)) _ 41 ?hg (N := 26) ?hd (xs := ([] : List (List Int))) (inner := []) (ok := fun _ => True) (okp := fun _ => True) ?hr ?hp (fun _ hk => hk) trivial (Below.refl _ _) (Nat.le_refl _) zO1_3 ?_; (case hd => rfl); (case hg => rfl); (case hr => first | (go_simp; done) | (go_simp; rfl)); (case hp => exact (Reps.none _ _)); intro v293 w17 ho18 hb hg_ hnew_; clear hg_ hnew_; (first | rw [← Ny292.out] at ho18 | (simp only [Int.reduceToNat] at ho18; rw [← Ny292.out] at ho18)); have HO294 := Aside0.mk (Kd.S_lower ho18 (below_size (zy HB))); replace HB := zh HB hb; clear hb ho18))
    go_loopg [6, 7] kj2 (fun kq v6 v7 w' => ∃ (x6_2 : List (List Int)) (x7_2 : Int), v7 = .int .i64 x7_2 ∧ Aside0 (impl_WholeIslands.l0 kq a0 a1 x6_2 x7_2 = some (r1, r2)) ∧ Aside0 (kq ≤ kj2) ∧ Aside0 (Kd.S (Kd.slice 3 (Kd.int .i64)) 41 w' w.heap.size (fun _ => True) v6 x6_2) ∧ Aside0 (Below w.heap.size w w'))
    case atStart => exact ⟨(y292), (1), zu, H', ⟨Nat.le_refl _⟩, ⟨by (with_reducible repeat (first | apply Kd.S_alloc | apply Kd.S_drewN | apply Kd.S_drew)); exact HO294.out⟩, ⟨zy HB⟩⟩
    case round =>
     clear H'
     obtain ⟨x6_2, x7_2, rfl, HA, HK2, HO_6, HB⟩ := hrel
     cases gk with
     | zero => exact absurd HA.out (by simp [impl_WholeIslands.l0])
     | succ k2 =>
      have H := HA.out; clear HA; simp only [impl_WholeIslands.l0] at H
      by_cases c19 : x7_2 < 30
      ·rw [if_pos c19] at H
       have c19b0 : decide (x7_2 < 30) = true := decide_eq_true c19; clear c19; have H' := Aside0.mk H; clear H
       go_wp2
       go_loopg [6, 8] k2 (fun kq v6 v8 w' => ∃ (x6_3 : List (List Int)) (x8_3 : Int), v8 = .int .i64 x8_3 ∧ Aside0 (impl_WholeIslands.l1 kq a0 a1 x6_3 x7_2 x8_3 = some (r1, r2)) ∧ Aside0 (kq ≤ k2) ∧ Aside0 (Kd.S (Kd.slice 3 (Kd.int .i64)) 41 w' w.heap.size (fun _ => True) v6 x6_3) ∧ Aside0 (Below w.heap.size w w'))
       case atStart => exact ⟨(x6_2), (wrap64 (x7_2 + 1)), zu, H', ⟨Nat.le_refl _⟩, ⟨by (with_reducible repeat (first | apply Kd.S_alloc | apply Kd.S_drewN | apply Kd.S_drew)); exact HO_6.out⟩, ⟨zy HB⟩⟩
       case round =>
        clear H'
        obtain ⟨x6_3, x8_3, rfl, HA, HK3, HO_6, HB⟩ := hrel
        cases gk with
        | zero => exact absurd HA.out (by simp [impl_WholeIslands.l1])
        | succ k3 =>
         have H := HA.out; clear HA; simp only [impl_WholeIslands.l1] at H
         by_cases c20 : x8_3 ≤ 30
         ·rw [if_pos c20] at H
          have c20b0 : decide (x8_3 ≤ 30) = true := decide_eq_true c20; clear c20; replace H := Option.bind_eq_some_iff.mp H; obtain ⟨⟨t296, t297, t298⟩, A210, H⟩ := H; (try dsimp only at H); have A21 := Aside0.mk A210; clear A210; replace H := Option.bind_eq_some_iff.mp H; obtain ⟨⟨t299, t300, t301⟩, A220, H⟩ := H; (try dsimp only at H); have A22 := Aside0.mk A220; clear A220
          by_cases c23 : t297 = 1
          ·rw [if_pos c23] at H
           have c23b0 : (t297 == 1) = true := beq_iff_eq.mpr c23
           have c23b1 : (t297 != 1) = false := bne_eq_false_iff_eq.mpr c23
           clear c23
           by_cases c24 : t300 = 1
           ·rw [if_pos c24] at H
            have c24b0 : (t300 == 1) = true := beq_iff_eq.mpr c24
            have c24b1 : (t300 != 1) = false := bne_eq_false_iff_eq.mpr c24
            clear c24
            obtain ⟨y302, hy302⟩ : ∃ y_ : List Int, y_ = (([x7_2, x8_3, t296, t299] : List Int)) := ⟨_, rfl⟩
            replace H : (if x6_3.length < 5864062014805 then (impl_WholeIslands.l1 k3 a0 a1 (x6_3 ++ [y302]) x7_2 (wrap64 (x8_3 + 1))) else (none)) = some (r1, r2) := by first | (rw [hy302]; with_reducible exact H) | (have H2_ := (Option.bind_some _ _).symm.trans H; rw [hy302]; with_reducible exact H2_) | (have H2_ := (Option.bind_some _ _).symm.trans H; with_reducible exact H2_) | with_reducible exact H | (rw [hy302]; exact H) | exact H
            have Ny302 := Aside0.mk hy302; clear hy302
            by_cases c25 : x6_3.length < 5864062014805
            ·rw [if_pos c25] at H
             have LMc25 := Aside0.mk c25; clear c25
             obtain ⟨y305, hy305⟩ : ∃ y_ : List (List Int), y_ = (x6_3 ++ [y302]) := ⟨_, rfl⟩
             replace H : (impl_WholeIslands.l1 k3 a0 a1 y305 x7_2 (wrap64 (x8_3 + 1))) = some (r1, r2) := by first | (rw [hy305]; with_reducible exact H) | (have H2_ := (Option.bind_some _ _).symm.trans H; rw [hy305]; with_reducible exact H2_) | (have H2_ := (Option.bind_some _ _).symm.trans H; with_reducible exact H2_) | with_reducible exact H | (rw [hy305]; exact H) | exact H
             have Ny305 := Aside0.mk hy305; clear hy305; have H' := Aside0.mk H; clear H
             go_wp2_with (first | ((with_reducible refine gate_dst (N := 9) rfl ?_); (try (refine gate_guard (by rfl) ?_; dsimp only)); refine zE 9 #[.int .i64 0, .int .i64 0, .int .i64 0, .int .i64 0] 23 ?_; intro gb295 hg w26 hbox hb; have n0_ := Aside0.mk (Kd.S_below zO1_1 hb); have BK295 := Aside0.mk (hbox); have GW295 := zg HB hg; have GE295 := GW295; replace HB := zh HB hb; clear HO_6; have HO_6 := n0_; clear n0_; clear hb hbox hg; obtain ⟨_, _, _, _, _, _, _, _⟩ := zc4 BK295) | ((with_reducible refine gate_callee (f := 4) rfl ?_); refine zG (some 44) Tryd.func4 #[.agg #[.int .i64 a0, .int .i64 a1, .int .i64 x7_2, .int .i64 x8_3]] ?_; (with_reducible refine (impl_IslandHeight.calls k3 a0 a1 x7_2 x8_3 t296 t297 t298 _ A21.out).mono ?_); rintro e w28 ⟨rfl, hb⟩; refine ⟨_, rfl, ?_⟩; have n0_ := Aside0.mk (Kd.S_below (by (with_reducible repeat (first | apply Kd.S_alloc | apply Kd.S_drewN | apply Kd.S_drew)); exact (Kd.S_mono (Kd.S_far (p := ⟨gb295, 3, none⟩) (Kd.S_far (p := ⟨gb295, 2, none⟩) (Kd.S_far (p := ⟨gb295, 1, none⟩) (Kd.S_far (p := ⟨gb295, 0, none⟩) (Kd.S_types HO_6.out BK295.out (by decide)) (fun _ hk => hk.2) (.int .i64 a0)) (fun _ hk => hk.2) (.int .i64 a1)) (fun _ hk => hk.2) (.int .i64 x7_2)) (fun _ hk => hk.2) (.int .i64 x8_3)) (fun _ h_ => h_.1))) hb); have n1_ := Aside0.mk (blk_below (g := gb295) (o := .cells #[.int .i64 a0, .int .i64 a1, .int .i64 x7_2, .int .i64 x8_3] 23 (0, 0)) (zw BK295) hb); replace HB := zh HB hb; clear HO_6; have HO_6 := n0_; clear n0_; clear BK295; have BK295 := n1_; clear n1_; clear hb; obtain ⟨_, _, _, _, _, _, _, _⟩ := zc4 BK295) | ((with_reducible refine gate_callee (f := 6) rfl ?_); refine zG (some 50) Tryd.func6 #[.agg #[.int .i64 a0, .int .i64 a1, .int .i64 x7_2, .int .i64 x8_3]] ?_; (with_reducible refine (impl_IslandAway.calls k3 a0 a1 x7_2 x8_3 t299 t300 t301 _ A22.out).mono ?_); rintro e w30 ⟨rfl, hb⟩; refine ⟨_, rfl, ?_⟩; have n0_ := Aside0.mk (Kd.S_below zO1_1 hb); replace BK295 := zb BK295 hb; replace HB := zh HB hb; clear HO_6; have HO_6 := n0_; clear n0_; clear hb) | ((with_reducible refine gate_dst (N := 65) rfl ?_); (try (refine gate_guard (by rfl) ?_; dsimp only)); refine Kd.R_lit (Kd.int .i64) _ 3 ?hg (N := 65) ?hd (xs := ([x7_2, x8_3, t296, t299] : List Int)) (inner := [.int .i64 x7_2, .int .i64 x8_3, .int .i64 t296, .int .i64 t299]) (ok := fun _ => True) (okp := fun _ => True) ?hr ?hp (fun _ hk => hk) trivial (Below.refl _ _) (Nat.le_refl _) zO1_3 ?_; (case hd => rfl); (case hg => rfl); (case hr => first | (go_simp; done) | (go_simp; rfl)); (case hp => exact (Reps.one (show Kd.M (Kd.int .i64) _ _ _ x7_2 [.int .i64 x7_2] from rfl) (Reps.one (show Kd.M (Kd.int .i64) _ _ _ x8_3 [.int .i64 x8_3] from rfl) (Reps.one (show Kd.M (Kd.int .i64) _ _ _ t296 [.int .i64 t296] from rfl) (Reps.one (show Kd.M (Kd.int .i64) _ _ _ t299 [.int .i64 t299] from rfl) (Reps.none _ _)))))); intro v303 w31 ho32 hb hg_ hnew_; clear hg_ hnew_; (first | rw [← Ny302.out] at ho32 | (simp only [Int.reduceToNat] at ho32; rw [← Ny302.out] at ho32)); have n0_ := Aside0.mk (Kd.S_elder' zO1_1 (Kd.R_base ho32) hb); have HO304 := Aside0.mk (Kd.R_lower ho32 (below_size (zy HB))); replace BK295 := zb BK295 hb; replace HB := zh HB hb; clear HO_6; have HO_6 := n0_; clear n0_; clear hb ho32; obtain ⟨Ao34, co34, eo34⟩ := Kd.R_slice HO304.out; subst eo34) | ((with_reducible refine gate_builtin (b := .append) (xs := #[.tmp 60, .tmp 66]) rfl ?_); (try (refine gate_guard (by rfl) ?_; dsimp only)); at_builtin; refine Kd.S_append (Kd.slice 3 (Kd.int .i64)) (w0 := w) w.heap.size rfl (.tmp 60) (.tmp 66) 36 41 (.slice none 0 0) 24 rfl Tryd.underlying36 info41 rfl (by decide) (by omega) u6 x6_3 y302 [.slice Ao34 y302.length co34] (fun _ => True) (fun k_ => some k_ = (.slice Ao34 y302.length co34 : Value).ownBlock) rfl rfl ?aP (fun k_ hk_ => ((Kd.R_mono (ok' := fun k_ => ((fun _ => True)) k_ ∧ some k_ ≠ (u6 : Value).ownBlock) (Kd.R_apart' (HO304.out) (Kd.S_typed HO_6.out) (by decide)) (fun k_ hk => ⟨trivial, hk.2⟩))).1 k_ hk_.symm) ?aF ?aO ?aB ?aS ?aL ?_; (case aP => exact Kd.M_row (Kd.R_mono (Kd.R_tight rfl (Kd.R_mono (ok' := fun k_ => ((fun _ => True)) k_ ∧ some k_ ≠ (u6 : Value).ownBlock) (Kd.R_apart' (HO304.out) (Kd.S_typed HO_6.out) (by decide)) (fun k_ hk => ⟨trivial, hk.2⟩))) (fun _ h_ => h_))); (case aB => exact (zy HB)); (case aF => exact (fun _ _ => trivial)); (case aO => exact zO1_0); (case aS => exact (below_size (zy HB))); (case aL => have := LMc25.out; omega); intro v306 w33 ho hb hg hat; rw [← Ny305.out] at ho; have n0_ := Aside0.mk (blk_grown (zq BK295) hg (Kd.S_ne HO_6.out BK295.out (by decide))); have HO307 := Aside0.mk (ho); replace HB := Aside0.mk hb; clear HO_6 HO304; clear BK295; have BK295 := n0_; clear n0_; clear ho hb hg hat))
             go_roundg k3
             case measure => have := HJ2.out; have := HK2.out; have := HK3.out; omega
             case rel => exact ⟨(y305), (wrap64 (x8_3 + 1)), zu, H', ⟨by have := HJ2.out; have := HK2.out; have := HK3.out; omega⟩, ⟨by (with_reducible repeat (first | apply Kd.S_alloc | apply Kd.S_drewN | apply Kd.S_drew)); exact HO307.out⟩, ⟨zy HB⟩⟩
            ·rw [if_neg c25] at H
             exact absurd H zO1_3
           ·rw [if_neg c24] at H
            have c24b0 : (t300 == 1) = false := beq_eq_false_iff_ne.mpr c24
            have c24b1 : (t300 != 1) = true := bne_iff_ne.mpr c24
            have H' := Aside0.mk H; clear H
            go_wp2_with (first | ((with_reducible refine gate_dst (N := 9) rfl ?_); (try (refine gate_guard (by rfl) ?_; dsimp only)); refine zE 9 #[.int .i64 0, .int .i64 0, .int .i64 0, .int .i64 0] 23 ?_; intro gb295 hg w35 hbox hb; have n0_ := Aside0.mk (Kd.S_below zO1_1 hb); have BK295 := Aside0.mk (hbox); have GW295 := zg HB hg; have GE295 := GW295; replace HB := zh HB hb; clear HO_6; have HO_6 := n0_; clear n0_; clear hb hbox hg; obtain ⟨_, _, _, _, _, _, _, _⟩ := zc4 BK295) | ((with_reducible refine gate_callee (f := 4) rfl ?_); refine zG (some 44) Tryd.func4 #[.agg #[.int .i64 a0, .int .i64 a1, .int .i64 x7_2, .int .i64 x8_3]] ?_; (with_reducible refine (impl_IslandHeight.calls k3 a0 a1 x7_2 x8_3 t296 t297 t298 _ A21.out).mono ?_); rintro e w37 ⟨rfl, hb⟩; refine ⟨_, rfl, ?_⟩; have n0_ := Aside0.mk (Kd.S_below (by (with_reducible repeat (first | apply Kd.S_alloc | apply Kd.S_drewN | apply Kd.S_drew)); exact (Kd.S_mono (Kd.S_far (p := ⟨gb295, 3, none⟩) (Kd.S_far (p := ⟨gb295, 2, none⟩) (Kd.S_far (p := ⟨gb295, 1, none⟩) (Kd.S_far (p := ⟨gb295, 0, none⟩) (Kd.S_types HO_6.out BK295.out (by decide)) (fun _ hk => hk.2) (.int .i64 a0)) (fun _ hk => hk.2) (.int .i64 a1)) (fun _ hk => hk.2) (.int .i64 x7_2)) (fun _ hk => hk.2) (.int .i64 x8_3)) (fun _ h_ => h_.1))) hb); have n1_ := Aside0.mk (blk_below (g := gb295) (o := .cells #[.int .i64 a0, .int .i64 a1, .int .i64 x7_2, .int .i64 x8_3] 23 (0, 0)) (zw BK295) hb); replace HB := zh HB hb; clear HO_6; have HO_6 := n0_; clear n0_; clear BK295; have BK295 := n1_; clear n1_; clear hb; obtain ⟨_, _, _, _, _, _, _, _⟩ := zc4 BK295) | ((with_reducible refine gate_callee (f := 6) rfl ?_); refine zG (some 50) Tryd.func6 #[.agg #[.int .i64 a0, .int .i64 a1, .int .i64 x7_2, .int .i64 x8_3]] ?_; (with_reducible refine (impl_IslandAway.calls k3 a0 a1 x7_2 x8_3 t299 t300 t301 _ A22.out).mono ?_); rintro e w39 ⟨rfl, hb⟩; refine ⟨_, rfl, ?_⟩; have n0_ := Aside0.mk (Kd.S_below zO1_1 hb); replace BK295 := zb BK295 hb; replace HB := zh HB hb; clear HO_6; have HO_6 := n0_; clear n0_; clear hb))
            go_roundg k3
            case measure => have := HJ2.out; have := HK2.out; have := HK3.out; omega
            case rel => exact ⟨(x6_3), (wrap64 (x8_3 + 1)), zu, H', ⟨by have := HJ2.out; have := HK2.out; have := HK3.out; omega⟩, ⟨by (with_reducible repeat (first | apply Kd.S_alloc | apply Kd.S_drewN | apply Kd.S_drew)); exact HO_6.out⟩, ⟨zy HB⟩⟩
          ·rw [if_neg c23] at H
           have c23b0 : (t297 == 1) = false := beq_eq_false_iff_ne.mpr c23
           have c23b1 : (t297 != 1) = true := bne_iff_ne.mpr c23
           have H' := Aside0.mk H; clear H
           go_wp2_with (first | ((with_reducible refine gate_dst (N := 9) rfl ?_); (try (refine gate_guard (by rfl) ?_; dsimp only)); refine zE 9 #[.int .i64 0, .int .i64 0, .int .i64 0, .int .i64 0] 23 ?_; intro gb295 hg w40 hbox hb; have n0_ := Aside0.mk (Kd.S_below zO1_1 hb); have BK295 := Aside0.mk (hbox); have GW295 := zg HB hg; have GE295 := GW295; replace HB := zh HB hb; clear HO_6; have HO_6 := n0_; clear n0_; clear hb hbox hg; obtain ⟨_, _, _, _, _, _, _, _⟩ := zc4 BK295) | ((with_reducible refine gate_callee (f := 4) rfl ?_); refine zG (some 44) Tryd.func4 #[.agg #[.int .i64 a0, .int .i64 a1, .int .i64 x7_2, .int .i64 x8_3]] ?_; (with_reducible refine (impl_IslandHeight.calls k3 a0 a1 x7_2 x8_3 t296 t297 t298 _ A21.out).mono ?_); rintro e w42 ⟨rfl, hb⟩; refine ⟨_, rfl, ?_⟩; have n0_ := Aside0.mk (Kd.S_below (by (with_reducible repeat (first | apply Kd.S_alloc | apply Kd.S_drewN | apply Kd.S_drew)); exact (Kd.S_mono (Kd.S_far (p := ⟨gb295, 3, none⟩) (Kd.S_far (p := ⟨gb295, 2, none⟩) (Kd.S_far (p := ⟨gb295, 1, none⟩) (Kd.S_far (p := ⟨gb295, 0, none⟩) (Kd.S_types HO_6.out BK295.out (by decide)) (fun _ hk => hk.2) (.int .i64 a0)) (fun _ hk => hk.2) (.int .i64 a1)) (fun _ hk => hk.2) (.int .i64 x7_2)) (fun _ hk => hk.2) (.int .i64 x8_3)) (fun _ h_ => h_.1))) hb); have n1_ := Aside0.mk (blk_below (g := gb295) (o := .cells #[.int .i64 a0, .int .i64 a1, .int .i64 x7_2, .int .i64 x8_3] 23 (0, 0)) (zw BK295) hb); replace HB := zh HB hb; clear HO_6; have HO_6 := n0_; clear n0_; clear BK295; have BK295 := n1_; clear n1_; clear hb; obtain ⟨_, _, _, _, _, _, _, _⟩ := zc4 BK295) | ((with_reducible refine gate_callee (f := 6) rfl ?_); refine zG (some 50) Tryd.func6 #[.agg #[.int .i64 a0, .int .i64 a1, .int .i64 x7_2, .int .i64 x8_3]] ?_; (with_reducible refine (impl_IslandAway.calls k3 a0 a1 x7_2 x8_3 t299 t300 t301 _ A22.out).mono ?_); rintro e w44 ⟨rfl, hb⟩; refine ⟨_, rfl, ?_⟩; have n0_ := Aside0.mk (Kd.S_below zO1_1 hb); replace BK295 := zb BK295 hb; replace HB := zh HB hb; clear HO_6; have HO_6 := n0_; clear n0_; clear hb))
           go_roundg k3
           case measure => have := HJ2.out; have := HK2.out; have := HK3.out; omega
           case rel => exact ⟨(x6_3), (wrap64 (x8_3 + 1)), zu, H', ⟨by have := HJ2.out; have := HK2.out; have := HK3.out; omega⟩, ⟨by (with_reducible repeat (first | apply Kd.S_alloc | apply Kd.S_drewN | apply Kd.S_drew)); exact HO_6.out⟩, ⟨zy HB⟩⟩
         ·rw [if_neg c20] at H
          have c20b0 : decide (x8_3 ≤ 30) = false := decide_eq_false c20; clear c20; have H' := Aside0.mk H; clear H
          go_wp2
          go_roundg k3
          case measure => have := HJ2.out; have := HK2.out; have := HK3.out; omega
          case rel => exact ⟨(x6_3), (wrap64 (x7_2 + 1)), zu, H', ⟨by have := HJ2.out; have := HK2.out; have := HK3.out; omega⟩, ⟨by (with_reducible repeat (first | apply Kd.S_alloc | apply Kd.S_drewN | apply Kd.S_drew)); exact HO_6.out⟩, ⟨zy HB⟩⟩
      ·rw [if_neg c19] at H
       have c19b0 : decide (x7_2 < 30) = false := decide_eq_false c19; clear c19; simp only [Option.some.injEq, Prod.mk.injEq] at H; obtain ⟨rfl, rfl⟩ := H
       go_wp2
       go_ret2
       exact ⟨_, zt, by (with_reducible repeat (first | apply Kd.S_alloc | apply Kd.S_drewN | apply Kd.S_drew)); exact HO_6.out, zy HB⟩


/-! ### spec_WholeIslands: function 22 -/
mutual
def spec_WholeIslands.j0 : Nat → Int → Int → Bool → Option ((List (List Int)) × Bool)
 | 0, _, _, _ => none
 | k + 1, x0, x1, x22 => if x22 = true then (some (([] : List (List Int)), false)) else (spec_WholeIslands.l0 k x0 x1 ([] : List (List Int)) 1)
def spec_WholeIslands.l0 : Nat → Int → Int → List (List Int) → Int → Option ((List (List Int)) × Bool)
 | 0, _, _, _, _ => none
 | k + 1, x0, x1, x6, x7 => if x7 < 30 then (spec_WholeIslands.l1 k x0 x1 x6 x7 (wrap64 (x7 + 1))) else (some (x6, true))
def spec_WholeIslands.l1 : Nat → Int → Int → List (List Int) → Int → Int → Option ((List (List Int)) × Bool)
 | 0, _, _, _, _, _ => none
 | k + 1, x0, x1, x6, x7, x8 => if x8 ≤ 30 then ((spec_htHeight.f k x0 x1 x7 x8).bind fun bt314 => ((spec_htAway.f k x0 x1 x7 x8).bind fun bt316 => (if bt314.2 = 1 then (if bt316.2 = 1 then (if x6.length < 5864062014805 then (spec_WholeIslands.l1 k x0 x1 (x6 ++ [(([x7, x8, bt314.1, bt316.1] : List Int))]) x7 (wrap64 (x8 + 1))) else (none)) else (spec_WholeIslands.l1 k x0 x1 x6 x7 (wrap64 (x8 + 1)))) else (spec_WholeIslands.l1 k x0 x1 x6 x7 (wrap64 (x8 + 1)))))) else (spec_WholeIslands.l0 k x0 x1 x6 (wrap64 (x7 + 1)))
end
def spec_WholeIslands.f (k : Nat) (a0 : Int) (a1 : Int) : Option ((List (List Int)) × Bool) := (spec_htStaff.f a0).bind fun t308 => (if t308 = true then ((spec_htLong.f k (([a1] : List Int))).bind fun t312 => (spec_WholeIslands.j0 k a0 a1 (!t312))) else (spec_WholeIslands.j0 k a0 a1 true))
set_option maxHeartbeats 8000000 in
set_option maxRecDepth 100000 in
theorem spec_WholeIslands.calls (k : Nat) (a0 : Int) (a1 : Int) (r1 : List (List Int)) (r2 : Bool) (w : World) (h : spec_WholeIslands.f k a0 a1 = some (r1, r2)) :
  Calls Tryd.prog 22 #[.int .i64 a0, .int .i64 a1] w fun e w' => ∃ v0_ : Value, e = .returned (.tuple #[v0_, .bool r2]) ∧ Kd.S (Kd.slice 3 (Kd.int .i64)) 41 w' w.heap.size (fun _ => True) v0_ r1 ∧ Below w.heap.size w w' := by
 have hu23 := Tryd.underlying23
 have HB := Aside0.mk (Below.refl w.heap.size w)
 have H : ((spec_htStaff.f a0).bind fun t308 => (if t308 = true then ((spec_htLong.f k (([a1] : List Int))).bind fun t312 => (spec_WholeIslands.j0 k a0 a1 (!t312))) else (spec_WholeIslands.j0 k a0 a1 true))) = some (r1, r2) := h
 clear h; have HC3 := Aside0.mk H; clear H
 go_enter Tryd.func22, Tryd.ntmps22
 go_upto_region 1 with (fail)
 go_cut [22] (fun v22 wc => ∃ (kq : Nat) (x22_2 : Bool), v22 = .bool x22_2 ∧ Aside0 (spec_WholeIslands.j0 kq a0 a1 x22_2 = some (r1, r2)) ∧ Aside0 (kq ≤ k) ∧ Aside0 (Below w.heap.size w wc))
 case first =>
  have H := HC3.out; clear HC3; replace H := Option.bind_eq_some_iff.mp H; obtain ⟨t308, A40, H⟩ := H; (try dsimp only at H); have A4 := Aside0.mk A40; clear A40
  by_cases c5 : t308 = true
  ·subst c5
   rw [if_pos rfl] at H
   obtain ⟨y309, hy309⟩ : ∃ y_ : List Int, y_ = (([a1] : List Int)) := ⟨_, rfl⟩
   replace H : ((spec_htLong.f k y309).bind fun t312 => (spec_WholeIslands.j0 k a0 a1 (!t312))) = some (r1, r2) := by first | (rw [hy309]; with_reducible exact H) | (have H2_ := (Option.bind_some _ _).symm.trans H; rw [hy309]; with_reducible exact H2_) | (have H2_ := (Option.bind_some _ _).symm.trans H; with_reducible exact H2_) | with_reducible exact H | (rw [hy309]; exact H) | exact H
   have Ny309 := Aside0.mk hy309; clear hy309; replace H := Option.bind_eq_some_iff.mp H; obtain ⟨t312, A60, H⟩ := H
   replace H : (spec_WholeIslands.j0 k a0 a1 (!t312)) = some (r1, r2) := H
   have A6 := Aside0.mk A60; clear A60; have H' := Aside0.mk H; clear H
   go_wp2_with (first | ((with_reducible refine gate_callee (f := 39) rfl ?_); refine zG (some 15) Tryd.func39 #[.int .i64 a0] ?_; (with_reducible refine (spec_htStaff.calls a0 true _ A4.out).mono ?_); rintro e w' ⟨rfl, ⟨nd, rfl⟩⟩; refine ⟨_, rfl, ?_⟩) | ((with_reducible refine gate_dst (N := 19) rfl ?_); (try (refine gate_guard (by rfl) ?_; dsimp only)); refine Kd.R_lit (Kd.int .i64) _ 3 ?hg (N := 19) ?hd (xs := ([a1] : List Int)) (inner := [.int .i64 a1]) (ok := fun _ => True) (okp := fun _ => True) ?hr ?hp (fun _ hk => hk) trivial (Below.refl _ _) (Nat.le_refl _) zO1_3 ?_; (case hd => rfl); (case hg => rfl); (case hr => first | (go_simp; done) | (go_simp; rfl)); (case hp => exact (Reps.one (show Kd.M (Kd.int .i64) _ _ _ a1 [.int .i64 a1] from rfl) (Reps.none _ _))); intro v310 w7 ho8 hb hg_ hnew_; clear hg_ hnew_; (first | rw [← Ny309.out] at ho8 | (simp only [Int.reduceToNat] at ho8; rw [← Ny309.out] at ho8)); have HO311 := Aside0.mk (Kd.R_lower ho8 (below_size (zy HB))); replace HB := zh HB hb; clear hb ho8; obtain ⟨Ao9, co9, eo9⟩ := Kd.R_slice HO311.out; subst eo9) | (go_at_call 40; (with_reducible refine (spec_htLong.calls k _ _ y309 t312 _ ?side1 ?side2 A6.out).mono ?_); (case side1 => repeat (first | exact (Kd.R_reads' HO311.out).2.2 | (with_reducible refine Kd.C_alloc ?_ _) | (with_reducible refine Kd.C_drewN ?_ _) | (with_reducible refine Kd.C_drew ?_))); (case side2 => exact (Kd.R_reads' HO311.out).2.1); rintro e w' ⟨rfl, ⟨nd, rfl⟩⟩))
   go_meet
   case rel => exact ⟨_, (!t312), zu, H', ⟨by first | omega | exact Nat.le_refl _⟩, ⟨zy HB⟩⟩
  ·replace c5 := Bool.eq_false_iff.mpr c5
   subst c5; rw [if_neg (show ¬ (false = true) by decide)] at H; have H' := Aside0.mk H; clear H
   go_wp2_with (first | ((with_reducible refine gate_callee (f := 39) rfl ?_); refine zG (some 15) Tryd.func39 #[.int .i64 a0] ?_; (with_reducible refine (spec_htStaff.calls a0 false _ A4.out).mono ?_); rintro e w' ⟨rfl, ⟨nd, rfl⟩⟩; refine ⟨_, rfl, ?_⟩))
   go_meet
   case rel => exact ⟨_, (true), zu, H', ⟨by first | omega | exact Nat.le_refl _⟩, ⟨zy HB⟩⟩
 case rest =>
  clear HC3
  obtain ⟨kq, x22_2, rfl, HA, HJ2, HB⟩ := hcut
  cases kq with
  | zero => exact absurd HA.out (by simp [spec_WholeIslands.j0])
  | succ kj2 =>
   have H := HA.out; clear HA; simp only [spec_WholeIslands.j0] at H
   by_cases c10 : x22_2 = true
   ·subst c10
    rw [if_pos rfl] at H; simp only [Option.some.injEq, Prod.mk.injEq] at H; obtain ⟨rfl, rfl⟩ := H
    go_wp2
    go_ret2
    exact ⟨_, zt, by first | exact Kd.S_nil _ _ _ _ _ | exact Kd.N_nil _ _ _ _ _ | exact Kd.V_nil _ _ _ _ _ | exact Kd.Q_nil _ _ _ _ _ | exact Kd.R_nil _ _ _ _ _, zy HB⟩
   ·replace c10 := Bool.eq_false_iff.mpr c10
    subst c10; rw [if_neg (show ¬ (false = true) by decide)] at H; have H' := Aside0.mk H; clear H
    go_wp2
    go_loopg [6, 7] kj2 (fun kq v6 v7 w' => ∃ (x6_2 : List (List Int)) (x7_2 : Int), v7 = .int .i64 x7_2 ∧ Aside0 (spec_WholeIslands.l0 kq a0 a1 x6_2 x7_2 = some (r1, r2)) ∧ Aside0 (kq ≤ kj2) ∧ Aside0 (Kd.S (Kd.slice 3 (Kd.int .i64)) 41 w' w.heap.size (fun _ => True) v6 x6_2) ∧ Aside0 (Below w.heap.size w w'))
    case atStart => exact ⟨(([] : List (List Int))), (1), zu, H', ⟨Nat.le_refl _⟩, ⟨by first | exact Kd.S_nil _ _ _ _ _ | exact Kd.N_nil _ _ _ _ _ | exact Kd.V_nil _ _ _ _ _ | exact Kd.Q_nil _ _ _ _ _ | exact Kd.R_nil _ _ _ _ _⟩, ⟨zy HB⟩⟩
    case round =>
     clear H'
     obtain ⟨x6_2, x7_2, rfl, HA, HK2, HO_6, HB⟩ := hrel
     cases gk with
     | zero => exact absurd HA.out (by simp [spec_WholeIslands.l0])
     | succ k2 =>
      have H := HA.out; clear HA; simp only [spec_WholeIslands.l0] at H
      by_cases c11 : x7_2 < 30
      ·rw [if_pos c11] at H
       have c11b0 : decide (x7_2 < 30) = true := decide_eq_true c11; clear c11; have H' := Aside0.mk H; clear H
       go_wp2
       go_loopg [6, 8] k2 (fun kq v6 v8 w' => ∃ (x6_3 : List (List Int)) (x8_3 : Int), v8 = .int .i64 x8_3 ∧ Aside0 (spec_WholeIslands.l1 kq a0 a1 x6_3 x7_2 x8_3 = some (r1, r2)) ∧ Aside0 (kq ≤ k2) ∧ Aside0 (Kd.S (Kd.slice 3 (Kd.int .i64)) 41 w' w.heap.size (fun _ => True) v6 x6_3) ∧ Aside0 (Below w.heap.size w w'))
       case atStart => exact ⟨(x6_2), (wrap64 (x7_2 + 1)), zu, H', ⟨Nat.le_refl _⟩, ⟨by (with_reducible repeat (first | apply Kd.S_alloc | apply Kd.S_drewN | apply Kd.S_drew)); exact HO_6.out⟩, ⟨zy HB⟩⟩
       case round =>
        clear H'
        obtain ⟨x6_3, x8_3, rfl, HA, HK3, HO_6, HB⟩ := hrel
        cases gk with
        | zero => exact absurd HA.out (by simp [spec_WholeIslands.l1])
        | succ k3 =>
         have H := HA.out; clear HA; simp only [spec_WholeIslands.l1] at H
         by_cases c12 : x8_3 ≤ 30
         ·rw [if_pos c12] at H
          have c12b0 : decide (x8_3 ≤ 30) = true := decide_eq_true c12; clear c12; replace H := Option.bind_eq_some_iff.mp H; obtain ⟨⟨t314, t315⟩, A130, H⟩ := H; (try dsimp only at H); have A13 := Aside0.mk A130; clear A130; replace H := Option.bind_eq_some_iff.mp H; obtain ⟨⟨t316, t317⟩, A140, H⟩ := H; (try dsimp only at H); have A14 := Aside0.mk A140; clear A140
          by_cases c15 : t315 = 1
          ·rw [if_pos c15] at H
           have c15b0 : (t315 == 1) = true := beq_iff_eq.mpr c15
           have c15b1 : (t315 != 1) = false := bne_eq_false_iff_eq.mpr c15
           clear c15
           by_cases c16 : t317 = 1
           ·rw [if_pos c16] at H
            have c16b0 : (t317 == 1) = true := beq_iff_eq.mpr c16
            have c16b1 : (t317 != 1) = false := bne_eq_false_iff_eq.mpr c16
            clear c16
            obtain ⟨y318, hy318⟩ : ∃ y_ : List Int, y_ = (([x7_2, x8_3, t314, t316] : List Int)) := ⟨_, rfl⟩
            replace H : (if x6_3.length < 5864062014805 then (spec_WholeIslands.l1 k3 a0 a1 (x6_3 ++ [y318]) x7_2 (wrap64 (x8_3 + 1))) else (none)) = some (r1, r2) := by first | (rw [hy318]; with_reducible exact H) | (have H2_ := (Option.bind_some _ _).symm.trans H; rw [hy318]; with_reducible exact H2_) | (have H2_ := (Option.bind_some _ _).symm.trans H; with_reducible exact H2_) | with_reducible exact H | (rw [hy318]; exact H) | exact H
            have Ny318 := Aside0.mk hy318; clear hy318
            by_cases c17 : x6_3.length < 5864062014805
            ·rw [if_pos c17] at H
             have LMc17 := Aside0.mk c17; clear c17
             obtain ⟨y321, hy321⟩ : ∃ y_ : List (List Int), y_ = (x6_3 ++ [y318]) := ⟨_, rfl⟩
             replace H : (spec_WholeIslands.l1 k3 a0 a1 y321 x7_2 (wrap64 (x8_3 + 1))) = some (r1, r2) := by first | (rw [hy321]; with_reducible exact H) | (have H2_ := (Option.bind_some _ _).symm.trans H; rw [hy321]; with_reducible exact H2_) | (have H2_ := (Option.bind_some _ _).symm.trans H; with_reducible exact H2_) | with_reducible exact H | (rw [hy321]; exact H) | exact H
             have Ny321 := Aside0.mk hy321; clear hy321; have H' := Aside0.mk H; clear H
             go_wp2_with (first | ((with_reducible refine gate_dst (N := 9) rfl ?_); (try (refine gate_guard (by rfl) ?_; dsimp only)); refine zE 9 #[.int .i64 0, .int .i64 0, .int .i64 0, .int .i64 0] 23 ?_; intro gb313 hg w18 hbox hb; have n0_ := Aside0.mk (Kd.S_below zO1_1 hb); have BK313 := Aside0.mk (hbox); have GW313 := zg HB hg; have GE313 := GW313; replace HB := zh HB hb; clear HO_6; have HO_6 := n0_; clear n0_; clear hb hbox hg; obtain ⟨_, _, _, _, _, _, _, _⟩ := zc4 BK313) | ((with_reducible refine gate_callee (f := 29) rfl ?_); refine zG (some 40) Tryd.func29 #[.agg #[.int .i64 a0, .int .i64 a1, .int .i64 x7_2, .int .i64 x8_3]] ?_; (with_reducible refine (spec_htHeight.calls k3 a0 a1 x7_2 x8_3 t314 t315 _ A13.out).mono ?_); rintro e w20 ⟨rfl, hb⟩; refine ⟨_, rfl, ?_⟩; have n0_ := Aside0.mk (Kd.S_below (by (with_reducible repeat (first | apply Kd.S_alloc | apply Kd.S_drewN | apply Kd.S_drew)); exact (Kd.S_mono (Kd.S_far (p := ⟨gb313, 3, none⟩) (Kd.S_far (p := ⟨gb313, 2, none⟩) (Kd.S_far (p := ⟨gb313, 1, none⟩) (Kd.S_far (p := ⟨gb313, 0, none⟩) (Kd.S_types HO_6.out BK313.out (by decide)) (fun _ hk => hk.2) (.int .i64 a0)) (fun _ hk => hk.2) (.int .i64 a1)) (fun _ hk => hk.2) (.int .i64 x7_2)) (fun _ hk => hk.2) (.int .i64 x8_3)) (fun _ h_ => h_.1))) hb); have n1_ := Aside0.mk (blk_below (g := gb313) (o := .cells #[.int .i64 a0, .int .i64 a1, .int .i64 x7_2, .int .i64 x8_3] 23 (0, 0)) (zw BK313) hb); replace HB := zh HB hb; clear HO_6; have HO_6 := n0_; clear n0_; clear BK313; have BK313 := n1_; clear n1_; clear hb; obtain ⟨_, _, _, _, _, _, _, _⟩ := zc4 BK313) | ((with_reducible refine gate_callee (f := 30) rfl ?_); refine zG (some 45) Tryd.func30 #[.agg #[.int .i64 a0, .int .i64 a1, .int .i64 x7_2, .int .i64 x8_3]] ?_; (with_reducible refine (spec_htAway.calls k3 a0 a1 x7_2 x8_3 t316 t317 _ A14.out).mono ?_); rintro e w22 ⟨rfl, hb⟩; refine ⟨_, rfl, ?_⟩; have n0_ := Aside0.mk (Kd.S_below zO1_1 hb); replace BK313 := zb BK313 hb; replace HB := zh HB hb; clear HO_6; have HO_6 := n0_; clear n0_; clear hb) | ((with_reducible refine gate_dst (N := 59) rfl ?_); (try (refine gate_guard (by rfl) ?_; dsimp only)); refine Kd.R_lit (Kd.int .i64) _ 3 ?hg (N := 59) ?hd (xs := ([x7_2, x8_3, t314, t316] : List Int)) (inner := [.int .i64 x7_2, .int .i64 x8_3, .int .i64 t314, .int .i64 t316]) (ok := fun _ => True) (okp := fun _ => True) ?hr ?hp (fun _ hk => hk) trivial (Below.refl _ _) (Nat.le_refl _) zO1_3 ?_; (case hd => rfl); (case hg => rfl); (case hr => first | (go_simp; done) | (go_simp; rfl)); (case hp => exact (Reps.one (show Kd.M (Kd.int .i64) _ _ _ x7_2 [.int .i64 x7_2] from rfl) (Reps.one (show Kd.M (Kd.int .i64) _ _ _ x8_3 [.int .i64 x8_3] from rfl) (Reps.one (show Kd.M (Kd.int .i64) _ _ _ t314 [.int .i64 t314] from rfl) (Reps.one (show Kd.M (Kd.int .i64) _ _ _ t316 [.int .i64 t316] from rfl) (Reps.none _ _)))))); intro v319 w23 ho24 hb hg_ hnew_; clear hg_ hnew_; (first | rw [← Ny318.out] at ho24 | (simp only [Int.reduceToNat] at ho24; rw [← Ny318.out] at ho24)); have n0_ := Aside0.mk (Kd.S_elder' zO1_1 (Kd.R_base ho24) hb); have HO320 := Aside0.mk (Kd.R_lower ho24 (below_size (zy HB))); replace BK313 := zb BK313 hb; replace HB := zh HB hb; clear HO_6; have HO_6 := n0_; clear n0_; clear hb ho24; obtain ⟨Ao26, co26, eo26⟩ := Kd.R_slice HO320.out; subst eo26) | ((with_reducible refine gate_builtin (b := .append) (xs := #[.tmp 54, .tmp 60]) rfl ?_); (try (refine gate_guard (by rfl) ?_; dsimp only)); at_builtin; refine Kd.S_append (Kd.slice 3 (Kd.int .i64)) (w0 := w) w.heap.size rfl (.tmp 54) (.tmp 60) 36 41 (.slice none 0 0) 24 rfl Tryd.underlying36 info41 rfl (by decide) (by omega) u6 x6_3 y318 [.slice Ao26 y318.length co26] (fun _ => True) (fun k_ => some k_ = (.slice Ao26 y318.length co26 : Value).ownBlock) rfl rfl ?aP (fun k_ hk_ => ((Kd.R_mono (ok' := fun k_ => ((fun _ => True)) k_ ∧ some k_ ≠ (u6 : Value).ownBlock) (Kd.R_apart' (HO320.out) (Kd.S_typed HO_6.out) (by decide)) (fun k_ hk => ⟨trivial, hk.2⟩))).1 k_ hk_.symm) ?aF ?aO ?aB ?aS ?aL ?_; (case aP => exact Kd.M_row (Kd.R_mono (Kd.R_tight rfl (Kd.R_mono (ok' := fun k_ => ((fun _ => True)) k_ ∧ some k_ ≠ (u6 : Value).ownBlock) (Kd.R_apart' (HO320.out) (Kd.S_typed HO_6.out) (by decide)) (fun k_ hk => ⟨trivial, hk.2⟩))) (fun _ h_ => h_))); (case aB => exact (zy HB)); (case aF => exact (fun _ _ => trivial)); (case aO => exact zO1_0); (case aS => exact (below_size (zy HB))); (case aL => have := LMc17.out; omega); intro v322 w25 ho hb hg hat; rw [← Ny321.out] at ho; have n0_ := Aside0.mk (blk_grown (zq BK313) hg (Kd.S_ne HO_6.out BK313.out (by decide))); have HO323 := Aside0.mk (ho); replace HB := Aside0.mk hb; clear HO_6 HO320; clear BK313; have BK313 := n0_; clear n0_; clear ho hb hg hat))
             go_roundg k3
             case measure => have := HJ2.out; have := HK2.out; have := HK3.out; omega
             case rel => exact ⟨(y321), (wrap64 (x8_3 + 1)), zu, H', ⟨by have := HJ2.out; have := HK2.out; have := HK3.out; omega⟩, ⟨by (with_reducible repeat (first | apply Kd.S_alloc | apply Kd.S_drewN | apply Kd.S_drew)); exact HO323.out⟩, ⟨zy HB⟩⟩
            ·rw [if_neg c17] at H
             exact absurd H zO1_3
           ·rw [if_neg c16] at H
            have c16b0 : (t317 == 1) = false := beq_eq_false_iff_ne.mpr c16
            have c16b1 : (t317 != 1) = true := bne_iff_ne.mpr c16
            have H' := Aside0.mk H; clear H
            go_wp2_with (first | ((with_reducible refine gate_dst (N := 9) rfl ?_); (try (refine gate_guard (by rfl) ?_; dsimp only)); refine zE 9 #[.int .i64 0, .int .i64 0, .int .i64 0, .int .i64 0] 23 ?_; intro gb313 hg w27 hbox hb; have n0_ := Aside0.mk (Kd.S_below zO1_1 hb); have BK313 := Aside0.mk (hbox); have GW313 := zg HB hg; have GE313 := GW313; replace HB := zh HB hb; clear HO_6; have HO_6 := n0_; clear n0_; clear hb hbox hg; obtain ⟨_, _, _, _, _, _, _, _⟩ := zc4 BK313) | ((with_reducible refine gate_callee (f := 29) rfl ?_); refine zG (some 40) Tryd.func29 #[.agg #[.int .i64 a0, .int .i64 a1, .int .i64 x7_2, .int .i64 x8_3]] ?_; (with_reducible refine (spec_htHeight.calls k3 a0 a1 x7_2 x8_3 t314 t315 _ A13.out).mono ?_); rintro e w29 ⟨rfl, hb⟩; refine ⟨_, rfl, ?_⟩; have n0_ := Aside0.mk (Kd.S_below (by (with_reducible repeat (first | apply Kd.S_alloc | apply Kd.S_drewN | apply Kd.S_drew)); exact (Kd.S_mono (Kd.S_far (p := ⟨gb313, 3, none⟩) (Kd.S_far (p := ⟨gb313, 2, none⟩) (Kd.S_far (p := ⟨gb313, 1, none⟩) (Kd.S_far (p := ⟨gb313, 0, none⟩) (Kd.S_types HO_6.out BK313.out (by decide)) (fun _ hk => hk.2) (.int .i64 a0)) (fun _ hk => hk.2) (.int .i64 a1)) (fun _ hk => hk.2) (.int .i64 x7_2)) (fun _ hk => hk.2) (.int .i64 x8_3)) (fun _ h_ => h_.1))) hb); have n1_ := Aside0.mk (blk_below (g := gb313) (o := .cells #[.int .i64 a0, .int .i64 a1, .int .i64 x7_2, .int .i64 x8_3] 23 (0, 0)) (zw BK313) hb); replace HB := zh HB hb; clear HO_6; have HO_6 := n0_; clear n0_; clear BK313; have BK313 := n1_; clear n1_; clear hb; obtain ⟨_, _, _, _, _, _, _, _⟩ := zc4 BK313) | ((with_reducible refine gate_callee (f := 30) rfl ?_); refine zG (some 45) Tryd.func30 #[.agg #[.int .i64 a0, .int .i64 a1, .int .i64 x7_2, .int .i64 x8_3]] ?_; (with_reducible refine (spec_htAway.calls k3 a0 a1 x7_2 x8_3 t316 t317 _ A14.out).mono ?_); rintro e w31 ⟨rfl, hb⟩; refine ⟨_, rfl, ?_⟩; have n0_ := Aside0.mk (Kd.S_below zO1_1 hb); replace BK313 := zb BK313 hb; replace HB := zh HB hb; clear HO_6; have HO_6 := n0_; clear n0_; clear hb))
            go_roundg k3
            case measure => have := HJ2.out; have := HK2.out; have := HK3.out; omega
            case rel => exact ⟨(x6_3), (wrap64 (x8_3 + 1)), zu, H', ⟨by have := HJ2.out; have := HK2.out; have := HK3.out; omega⟩, ⟨by (with_reducible repeat (first | apply Kd.S_alloc | apply Kd.S_drewN | apply Kd.S_drew)); exact HO_6.out⟩, ⟨zy HB⟩⟩
          ·rw [if_neg c15] at H
           have c15b0 : (t315 == 1) = false := beq_eq_false_iff_ne.mpr c15
           have c15b1 : (t315 != 1) = true := bne_iff_ne.mpr c15
           have H' := Aside0.mk H; clear H
           go_wp2_with (first | ((with_reducible refine gate_dst (N := 9) rfl ?_); (try (refine gate_guard (by rfl) ?_; dsimp only)); refine zE 9 #[.int .i64 0, .int .i64 0, .int .i64 0, .int .i64 0] 23 ?_; intro gb313 hg w32 hbox hb; have n0_ := Aside0.mk (Kd.S_below zO1_1 hb); have BK313 := Aside0.mk (hbox); have GW313 := zg HB hg; have GE313 := GW313; replace HB := zh HB hb; clear HO_6; have HO_6 := n0_; clear n0_; clear hb hbox hg; obtain ⟨_, _, _, _, _, _, _, _⟩ := zc4 BK313) | ((with_reducible refine gate_callee (f := 29) rfl ?_); refine zG (some 40) Tryd.func29 #[.agg #[.int .i64 a0, .int .i64 a1, .int .i64 x7_2, .int .i64 x8_3]] ?_; (with_reducible refine (spec_htHeight.calls k3 a0 a1 x7_2 x8_3 t314 t315 _ A13.out).mono ?_); rintro e w34 ⟨rfl, hb⟩; refine ⟨_, rfl, ?_⟩; have n0_ := Aside0.mk (Kd.S_below (by (with_reducible repeat (first | apply Kd.S_alloc | apply Kd.S_drewN | apply Kd.S_drew)); exact (Kd.S_mono (Kd.S_far (p := ⟨gb313, 3, none⟩) (Kd.S_far (p := ⟨gb313, 2, none⟩) (Kd.S_far (p := ⟨gb313, 1, none⟩) (Kd.S_far (p := ⟨gb313, 0, none⟩) (Kd.S_types HO_6.out BK313.out (by decide)) (fun _ hk => hk.2) (.int .i64 a0)) (fun _ hk => hk.2) (.int .i64 a1)) (fun _ hk => hk.2) (.int .i64 x7_2)) (fun _ hk => hk.2) (.int .i64 x8_3)) (fun _ h_ => h_.1))) hb); have n1_ := Aside0.mk (blk_below (g := gb313) (o := .cells #[.int .i64 a0, .int .i64 a1, .int .i64 x7_2, .int .i64 x8_3] 23 (0, 0)) (zw BK313) hb); replace HB := zh HB hb; clear HO_6; have HO_6 := n0_; clear n0_; clear BK313; have BK313 := n1_; clear n1_; clear hb; obtain ⟨_, _, _, _, _, _, _, _⟩ := zc4 BK313) | ((with_reducible refine gate_callee (f := 30) rfl ?_); refine zG (some 45) Tryd.func30 #[.agg #[.int .i64 a0, .int .i64 a1, .int .i64 x7_2, .int .i64 x8_3]] ?_; (with_reducible refine (spec_htAway.calls k3 a0 a1 x7_2 x8_3 t316 t317 _ A14.out).mono ?_); rintro e w36 ⟨rfl, hb⟩; refine ⟨_, rfl, ?_⟩; have n0_ := Aside0.mk (Kd.S_below zO1_1 hb); replace BK313 := zb BK313 hb; replace HB := zh HB hb; clear HO_6; have HO_6 := n0_; clear n0_; clear hb))
           go_roundg k3
           case measure => have := HJ2.out; have := HK2.out; have := HK3.out; omega
           case rel => exact ⟨(x6_3), (wrap64 (x8_3 + 1)), zu, H', ⟨by have := HJ2.out; have := HK2.out; have := HK3.out; omega⟩, ⟨by (with_reducible repeat (first | apply Kd.S_alloc | apply Kd.S_drewN | apply Kd.S_drew)); exact HO_6.out⟩, ⟨zy HB⟩⟩
         ·rw [if_neg c12] at H
          have c12b0 : decide (x8_3 ≤ 30) = false := decide_eq_false c12; clear c12; have H' := Aside0.mk H; clear H
          go_wp2
          go_roundg k3
          case measure => have := HJ2.out; have := HK2.out; have := HK3.out; omega
          case rel => exact ⟨(x6_3), (wrap64 (x7_2 + 1)), zu, H', ⟨by have := HJ2.out; have := HK2.out; have := HK3.out; omega⟩, ⟨by (with_reducible repeat (first | apply Kd.S_alloc | apply Kd.S_drewN | apply Kd.S_drew)); exact HO_6.out⟩, ⟨zy HB⟩⟩
      ·rw [if_neg c11] at H
       have c11b0 : decide (x7_2 < 30) = false := decide_eq_false c11; clear c11; simp only [Option.some.injEq, Prod.mk.injEq] at H; obtain ⟨rfl, rfl⟩ := H
       go_wp2
       go_ret2
       exact ⟨_, zt, by (with_reducible repeat (first | apply Kd.S_alloc | apply Kd.S_drewN | apply Kd.S_drew)); exact HO_6.out, zy HB⟩


/-! ### impl_TimesIsland: function 23 -/
def impl_TimesIsland.f (a0_0 : Int) (a0_1 : Int) (a0_2 : Int) (a0_3 : Int) (a1 : Int) : Option (Int × Int × Int × Int × Bool) := (impl_IsIsland.f a0_0 a0_1 a0_2 a0_3).bind fun t326 => (if t326 = true then ((impl_areSteps.f (([a1] : List Int))).bind fun t330 => (if t330 = true then ((impl_checkedIsland.f (wrap64 (a1 * a0_0)) (wrap64 (a1 * a0_1)) (wrap64 (a1 * a0_2)) (wrap64 (a1 * a0_3))).bind fun bt331 => (some (bt331.1, bt331.2.1, bt331.2.2.1, bt331.2.2.2.1, bt331.2.2.2.2))) else (some (0, 0, 0, 0, false)))) else (some (0, 0, 0, 0, false)))
set_option maxHeartbeats 8000000 in
set_option maxRecDepth 100000 in
theorem impl_TimesIsland.calls (a0_0 : Int) (a0_1 : Int) (a0_2 : Int) (a0_3 : Int) (a1 : Int) (r1 : Int) (r2 : Int) (r3 : Int) (r4 : Int) (r5 : Bool) (w : World) (h : impl_TimesIsland.f a0_0 a0_1 a0_2 a0_3 a1 = some (r1, r2, r3, r4, r5)) :
  Calls Tryd.prog 23 #[.agg #[.int .i64 a0_0, .int .i64 a0_1, .int .i64 a0_2, .int .i64 a0_3], .int .i64 a1] w fun e w' => e = .returned (.tuple #[.agg #[.int .i64 r1, .int .i64 r2, .int .i64 r3, .int .i64 r4], .bool r5]) ∧ Below w.heap.size w w' := by
 have hu23 := Tryd.underlying23
 have HB := Aside0.mk (Below.refl w.heap.size w)
 have H : ((impl_IsIsland.f a0_0 a0_1 a0_2 a0_3).bind fun t326 => (if t326 = true then ((impl_areSteps.f (([a1] : List Int))).bind fun t330 => (if t330 = true then ((impl_checkedIsland.f (wrap64 (a1 * a0_0)) (wrap64 (a1 * a0_1)) (wrap64 (a1 * a0_2)) (wrap64 (a1 * a0_3))).bind fun bt331 => (some (bt331.1, bt331.2.1, bt331.2.2.1, bt331.2.2.2.1, bt331.2.2.2.2))) else (some (0, 0, 0, 0, false)))) else (some (0, 0, 0, 0, false)))) = some (r1, r2, r3, r4, r5) := h
 clear h; replace H := Option.bind_eq_some_iff.mp H; obtain ⟨t326, A30, H⟩ := H; (try dsimp only at H); have A3 := Aside0.mk A30; clear A30
 by_cases c4 : t326 = true
 ·subst c4
  rw [if_pos rfl] at H
  obtain ⟨y327, hy327⟩ : ∃ y_ : List Int, y_ = (([a1] : List Int)) := ⟨_, rfl⟩
  replace H : ((impl_areSteps.f y327).bind fun t330 => (if t330 = true then ((impl_checkedIsland.f (wrap64 (a1 * a0_0)) (wrap64 (a1 * a0_1)) (wrap64 (a1 * a0_2)) (wrap64 (a1 * a0_3))).bind fun bt331 => (some (bt331.1, bt331.2.1, bt331.2.2.1, bt331.2.2.2.1, bt331.2.2.2.2))) else (some (0, 0, 0, 0, false)))) = some (r1, r2, r3, r4, r5) := by first | (rw [hy327]; with_reducible exact H) | (have H2_ := (Option.bind_some _ _).symm.trans H; rw [hy327]; with_reducible exact H2_) | (have H2_ := (Option.bind_some _ _).symm.trans H; with_reducible exact H2_) | with_reducible exact H | (rw [hy327]; exact H) | exact H
  have Ny327 := Aside0.mk hy327; clear hy327; replace H := Option.bind_eq_some_iff.mp H; obtain ⟨t330, A50, H⟩ := H; (try dsimp only at H); have A5 := Aside0.mk A50; clear A50
  by_cases c6 : t330 = true
  ·subst c6
   rw [if_pos rfl] at H; replace H := Option.bind_eq_some_iff.mp H; obtain ⟨⟨t331, t332, t333, t334, t335⟩, A70, H⟩ := H
   replace H : (some (t331, t332, t333, t334, t335)) = some (r1, r2, r3, r4, r5) := H
   have A7 := Aside0.mk A70; clear A70; simp only [Option.some.injEq, Prod.mk.injEq] at H; obtain ⟨rfl, rfl, rfl, rfl, rfl⟩ := H
   go_enter Tryd.func23, Tryd.ntmps23
   go_wp2_with (first | ((with_reducible refine gate_dst (N := 2) rfl ?_); (try (refine gate_guard (by rfl) ?_; dsimp only)); refine zE 2 #[.int .i64 a0_0, .int .i64 a0_1, .int .i64 a0_2, .int .i64 a0_3] 23 ?_; intro gb324 hg w8 hbox hb; have BK324 := Aside0.mk (hbox); have GW324 := zg HB hg; have GE324 := GW324; replace HB := zh HB hb; clear hb hbox hg) | ((with_reducible refine gate_dst (N := 4) rfl ?_); (try (refine gate_guard (by rfl) ?_; dsimp only)); refine zE 4 #[.int .i64 0, .int .i64 0, .int .i64 0, .int .i64 0] 23 ?_; intro gb325 hg w9 hbox hb; have BK325 := Aside0.mk (hbox); have GW325 := zg HB hg; have GE325 := GW325; have NB324_325 := zl BK324 hg; have NB325_324 := zr BK324 hg; replace BK324 := zb BK324 hb; replace HB := zh HB hb; clear hb hbox hg; have hnb10 := NB324_325.out; have hnc10 := NB325_324.out; obtain ⟨_, _, _, _, _, _, _, _⟩ := zc4 BK324) | ((with_reducible refine gate_callee (f := 12) rfl ?_); refine zG (some 7) Tryd.func12 #[.agg #[.int .i64 a0_0, .int .i64 a0_1, .int .i64 a0_2, .int .i64 a0_3]] ?_; (with_reducible refine (impl_IsIsland.calls a0_0 a0_1 a0_2 a0_3 true _ A3.out).mono ?_); rintro e w12 ⟨rfl, hb⟩; refine ⟨_, rfl, ?_⟩; replace BK324 := zb BK324 hb; replace BK325 := zb BK325 hb; replace HB := zh HB hb; clear hb) | ((with_reducible refine gate_dst (N := 11) rfl ?_); (try (refine gate_guard (by rfl) ?_; dsimp only)); refine Kd.R_lit (Kd.int .i64) _ 3 ?hg (N := 11) ?hd (xs := ([a1] : List Int)) (inner := [.int .i64 a1]) (ok := fun _ => True) (okp := fun _ => True) ?hr ?hp (fun _ hk => hk) trivial (Below.refl _ _) (Nat.le_refl _) zO1_3 ?_; (case hd => rfl); (case hg => rfl); (case hr => first | (go_simp; done) | (go_simp; rfl)); (case hp => exact (Reps.one (show Kd.M (Kd.int .i64) _ _ _ a1 [.int .i64 a1] from rfl) (Reps.none _ _))); intro v328 w13 ho14 hb hg_ hnew_; clear hg_ hnew_; (first | rw [← Ny327.out] at ho14 | (simp only [Int.reduceToNat] at ho14; rw [← Ny327.out] at ho14)); have HO329 := Aside0.mk (Kd.R_lower ho14 (below_size (zy HB))); replace BK324 := zb BK324 hb; replace BK325 := zb BK325 hb; replace HB := zh HB hb; clear hb ho14; obtain ⟨Ao15, co15, eo15⟩ := Kd.R_slice HO329.out; subst eo15) | (go_at_call 35; (with_reducible refine (impl_areSteps.calls _ _ y327 true _ ?side1 ?side2 A5.out).mono ?_); (case side1 => repeat (first | exact (Kd.R_reads' HO329.out).2.2 | (with_reducible refine Kd.C_alloc ?_ _) | (with_reducible refine Kd.C_drewN ?_ _) | (with_reducible refine Kd.C_drew ?_))); (case side2 => exact (Kd.R_reads' HO329.out).2.1); rintro e w' ⟨rfl, ⟨nd, rfl⟩⟩; (try (rw [drewN_self w13]; generalize hq_ : World.drewN w13 _ = w13; have n0_ : Aside0 (Kd.R (Kd.int .i64) 3 w13 w.heap.size (fun _ => True) (.slice Ao15 y327.length co15) y327) := ⟨by rw [← hq_]; exact (zs HO329)⟩; have n1_ : Aside0 (w13.heap[gb324]? = some (.cells #[.int .i64 a0_0, .int .i64 a0_1, .int .i64 a0_2, .int .i64 a0_3] 23 (0, 0))) := ⟨by rw [← hq_]; exact (zq BK324)⟩; have n2_ : Aside0 (w13.heap[gb325]? = some (.cells #[.int .i64 0, .int .i64 0, .int .i64 0, .int .i64 0] 23 (0, 0))) := ⟨by rw [← hq_]; exact (zq BK325)⟩; have n3_ : Aside0 (Below w.heap.size w w13) := ⟨by rw [← hq_]; exact (zy HB)⟩; clear HO329 BK324 BK325 HB hq_; have HO329 := n0_; have BK324 := n1_; have BK325 := n2_; have HB := n3_; clear n0_ n1_ n2_ n3_)); obtain ⟨_, _, _, _, _, _, _, _⟩ := zc4 BK324) | ((with_reducible refine gate_callee (f := 38) rfl ?_); refine zG (some 33) Tryd.func38 #[.agg #[.int .i64 (wrap64 (a1 * a0_0)), .int .i64 (wrap64 (a1 * a0_1)), .int .i64 (wrap64 (a1 * a0_2)), .int .i64 (wrap64 (a1 * a0_3))]] ?_; (with_reducible refine (impl_checkedIsland.calls (wrap64 (a1 * a0_0)) (wrap64 (a1 * a0_1)) (wrap64 (a1 * a0_2)) (wrap64 (a1 * a0_3)) t331 t332 t333 t334 t335 _ A7.out).mono ?_); rintro e w17 ⟨rfl, hb⟩; refine ⟨_, rfl, ?_⟩; replace HO329 := zo HO329 hb; replace BK324 := zb BK324 hb; replace BK325 := zb BK325 hb; replace HB := zh HB hb; clear hb; obtain ⟨_, _, _, _, _, _, _, _⟩ := zc4 BK325))
   refine bodyPost_ret (results_ct rfl _ _ gb325 23 #[.int .i64 t331, .int .i64 t332, .int .i64 t333, .int .i64 t334] (0, 0) _ rfl (zw BK325) Tryd.underlying23 rfl (by kernel_rfl)) rfl ?_
   exact ⟨zt, zy HB⟩
  ·replace c6 := Bool.eq_false_iff.mpr c6
   subst c6; rw [if_neg (show ¬ (false = true) by decide)] at H; simp only [Option.some.injEq, Prod.mk.injEq] at H; obtain ⟨rfl, rfl, rfl, rfl, rfl⟩ := H
   go_enter Tryd.func23, Tryd.ntmps23
   go_wp2_with (first | ((with_reducible refine gate_dst (N := 2) rfl ?_); (try (refine gate_guard (by rfl) ?_; dsimp only)); refine zE 2 #[.int .i64 a0_0, .int .i64 a0_1, .int .i64 a0_2, .int .i64 a0_3] 23 ?_; intro gb324 hg w19 hbox hb; have BK324 := Aside0.mk (hbox); have GW324 := zg HB hg; have GE324 := GW324; replace HB := zh HB hb; clear hb hbox hg) | ((with_reducible refine gate_dst (N := 4) rfl ?_); (try (refine gate_guard (by rfl) ?_; dsimp only)); refine zE 4 #[.int .i64 0, .int .i64 0, .int .i64 0, .int .i64 0] 23 ?_; intro gb325 hg w20 hbox hb; have BK325 := Aside0.mk (hbox); have GW325 := zg HB hg; have GE325 := GW325; have NB324_325 := zl BK324 hg; have NB325_324 := zr BK324 hg; replace BK324 := zb BK324 hb; replace HB := zh HB hb; clear hb hbox hg; have hnb21 := NB324_325.out; have hnc21 := NB325_324.out; obtain ⟨_, _, _, _, _, _, _, _⟩ := zc4 BK324) | ((with_reducible refine gate_callee (f := 12) rfl ?_); refine zG (some 7) Tryd.func12 #[.agg #[.int .i64 a0_0, .int .i64 a0_1, .int .i64 a0_2, .int .i64 a0_3]] ?_; (with_reducible refine (impl_IsIsland.calls a0_0 a0_1 a0_2 a0_3 true _ A3.out).mono ?_); rintro e w23 ⟨rfl, hb⟩; refine ⟨_, rfl, ?_⟩; replace BK324 := zb BK324 hb; replace BK325 := zb BK325 hb; replace HB := zh HB hb; clear hb) | ((with_reducible refine gate_dst (N := 11) rfl ?_); (try (refine gate_guard (by rfl) ?_; dsimp only)); refine Kd.R_lit (Kd.int .i64) _ 3 ?hg (N := 11) ?hd (xs := ([a1] : List Int)) (inner := [.int .i64 a1]) (ok := fun _ => True) (okp := fun _ => True) ?hr ?hp (fun _ hk => hk) trivial (Below.refl _ _) (Nat.le_refl _) zO1_3 ?_; (case hd => rfl); (case hg => rfl); (case hr => first | (go_simp; done) | (go_simp; rfl)); (case hp => exact (Reps.one (show Kd.M (Kd.int .i64) _ _ _ a1 [.int .i64 a1] from rfl) (Reps.none _ _))); intro v328 w24 ho25 hb hg_ hnew_; clear hg_ hnew_; (first | rw [← Ny327.out] at ho25 | (simp only [Int.reduceToNat] at ho25; rw [← Ny327.out] at ho25)); have HO329 := Aside0.mk (Kd.R_lower ho25 (below_size (zy HB))); replace BK324 := zb BK324 hb; replace BK325 := zb BK325 hb; replace HB := zh HB hb; clear hb ho25; obtain ⟨Ao26, co26, eo26⟩ := Kd.R_slice HO329.out; subst eo26) | (go_at_call 35; (with_reducible refine (impl_areSteps.calls _ _ y327 false _ ?side1 ?side2 A5.out).mono ?_); (case side1 => repeat (first | exact (Kd.R_reads' HO329.out).2.2 | (with_reducible refine Kd.C_alloc ?_ _) | (with_reducible refine Kd.C_drewN ?_ _) | (with_reducible refine Kd.C_drew ?_))); (case side2 => exact (Kd.R_reads' HO329.out).2.1); rintro e w' ⟨rfl, ⟨nd, rfl⟩⟩; (try (rw [drewN_self w24]; generalize hq_ : World.drewN w24 _ = w24; have n0_ : Aside0 (Kd.R (Kd.int .i64) 3 w24 w.heap.size (fun _ => True) (.slice Ao26 y327.length co26) y327) := ⟨by rw [← hq_]; exact (zs HO329)⟩; have n1_ : Aside0 (w24.heap[gb324]? = some (.cells #[.int .i64 a0_0, .int .i64 a0_1, .int .i64 a0_2, .int .i64 a0_3] 23 (0, 0))) := ⟨by rw [← hq_]; exact (zq BK324)⟩; have n2_ : Aside0 (w24.heap[gb325]? = some (.cells #[.int .i64 0, .int .i64 0, .int .i64 0, .int .i64 0] 23 (0, 0))) := ⟨by rw [← hq_]; exact (zq BK325)⟩; have n3_ : Aside0 (Below w.heap.size w w24) := ⟨by rw [← hq_]; exact (zy HB)⟩; clear HO329 BK324 BK325 HB hq_; have HO329 := n0_; have BK324 := n1_; have BK325 := n2_; have HB := n3_; clear n0_ n1_ n2_ n3_)); obtain ⟨_, _, _, _, _, _, _, _⟩ := zc4 BK325))
   refine bodyPost_ret (results_ct rfl _ _ gb325 23 #[.int .i64 0, .int .i64 0, .int .i64 0, .int .i64 0] (0, 0) _ rfl (zw BK325) Tryd.underlying23 rfl (by kernel_rfl)) rfl ?_
   exact ⟨zt, zy HB⟩
 ·replace c4 := Bool.eq_false_iff.mpr c4
  subst c4; rw [if_neg (show ¬ (false = true) by decide)] at H; simp only [Option.some.injEq, Prod.mk.injEq] at H; obtain ⟨rfl, rfl, rfl, rfl, rfl⟩ := H
  go_enter Tryd.func23, Tryd.ntmps23
  go_wp2_with (first | ((with_reducible refine gate_dst (N := 2) rfl ?_); (try (refine gate_guard (by rfl) ?_; dsimp only)); refine zE 2 #[.int .i64 a0_0, .int .i64 a0_1, .int .i64 a0_2, .int .i64 a0_3] 23 ?_; intro gb324 hg w28 hbox hb; have BK324 := Aside0.mk (hbox); have GW324 := zg HB hg; have GE324 := GW324; replace HB := zh HB hb; clear hb hbox hg) | ((with_reducible refine gate_dst (N := 4) rfl ?_); (try (refine gate_guard (by rfl) ?_; dsimp only)); refine zE 4 #[.int .i64 0, .int .i64 0, .int .i64 0, .int .i64 0] 23 ?_; intro gb325 hg w29 hbox hb; have BK325 := Aside0.mk (hbox); have GW325 := zg HB hg; have GE325 := GW325; have NB324_325 := zl BK324 hg; have NB325_324 := zr BK324 hg; replace BK324 := zb BK324 hb; replace HB := zh HB hb; clear hb hbox hg; have hnb30 := NB324_325.out; have hnc30 := NB325_324.out; obtain ⟨_, _, _, _, _, _, _, _⟩ := zc4 BK324) | ((with_reducible refine gate_callee (f := 12) rfl ?_); refine zG (some 7) Tryd.func12 #[.agg #[.int .i64 a0_0, .int .i64 a0_1, .int .i64 a0_2, .int .i64 a0_3]] ?_; (with_reducible refine (impl_IsIsland.calls a0_0 a0_1 a0_2 a0_3 false _ A3.out).mono ?_); rintro e w32 ⟨rfl, hb⟩; refine ⟨_, rfl, ?_⟩; replace BK324 := zb BK324 hb; replace BK325 := zb BK325 hb; replace HB := zh HB hb; clear hb; obtain ⟨_, _, _, _, _, _, _, _⟩ := zc4 BK325))
  refine bodyPost_ret (results_ct rfl _ _ gb325 23 #[.int .i64 0, .int .i64 0, .int .i64 0, .int .i64 0] (0, 0) _ rfl (zw BK325) Tryd.underlying23 rfl (by kernel_rfl)) rfl ?_
  exact ⟨zt, zy HB⟩


/-! ### spec_TimesIsland: function 24 -/
def spec_TimesIsland.j0 : Nat → Int → Bool → Int → Int → Int → Int → Option (Int × Int × Int × Int × Bool)
 | 0, _, _, _, _, _, _ => none
 | k + 1, x1, x15, x337000, x337001, x337002, x337003 => if x15 = true then (some (0, 0, 0, 0, false)) else ((spec_htGood.f k (wrap64 (x337000 * x1)) (wrap64 (x337001 * x1)) (wrap64 (x337002 * x1)) (wrap64 (x337003 * x1))).bind fun t344 => (if t344 = true then (some (wrap64 (x337000 * x1), wrap64 (x337001 * x1), wrap64 (x337002 * x1), wrap64 (x337003 * x1), true)) else (some (0, 0, 0, 0, false))))
def spec_TimesIsland.f (k : Nat) (a0_0 : Int) (a0_1 : Int) (a0_2 : Int) (a0_3 : Int) (a1 : Int) : Option (Int × Int × Int × Int × Bool) := (spec_htGood.f k a0_0 a0_1 a0_2 a0_3).bind fun t338 => (if t338 = true then ((spec_htLong.f k (([a1] : List Int))).bind fun t342 => (spec_TimesIsland.j0 k a1 (!t342) a0_0 a0_1 a0_2 a0_3)) else (spec_TimesIsland.j0 k a1 true a0_0 a0_1 a0_2 a0_3))
set_option maxHeartbeats 8000000 in
set_option maxRecDepth 100000 in
theorem spec_TimesIsland.calls (k : Nat) (a0_0 : Int) (a0_1 : Int) (a0_2 : Int) (a0_3 : Int) (a1 : Int) (r1 : Int) (r2 : Int) (r3 : Int) (r4 : Int) (r5 : Bool) (w : World) (h : spec_TimesIsland.f k a0_0 a0_1 a0_2 a0_3 a1 = some (r1, r2, r3, r4, r5)) :
  Calls Tryd.prog 24 #[.agg #[.int .i64 a0_0, .int .i64 a0_1, .int .i64 a0_2, .int .i64 a0_3], .int .i64 a1] w fun e w' => e = .returned (.tuple #[.agg #[.int .i64 r1, .int .i64 r2, .int .i64 r3, .int .i64 r4], .bool r5]) ∧ Below w.heap.size w w' := by
 have hu23 := Tryd.underlying23
 have HB := Aside0.mk (Below.refl w.heap.size w)
 have H : ((spec_htGood.f k a0_0 a0_1 a0_2 a0_3).bind fun t338 => (if t338 = true then ((spec_htLong.f k (([a1] : List Int))).bind fun t342 => (spec_TimesIsland.j0 k a1 (!t342) a0_0 a0_1 a0_2 a0_3)) else (spec_TimesIsland.j0 k a1 true a0_0 a0_1 a0_2 a0_3))) = some (r1, r2, r3, r4, r5) := h
 clear h; have HC3 := Aside0.mk H; clear H
 go_enter Tryd.func24, Tryd.ntmps24
 go_upto_region 1 with (first | ((with_reducible refine gate_dst (N := 2) rfl ?_); (try (refine gate_guard (by rfl) ?_; dsimp only)); refine zE 2 #[.int .i64 a0_0, .int .i64 a0_1, .int .i64 a0_2, .int .i64 a0_3] 23 ?_; intro gb336 hg w4 hbox hb; have BK336 := Aside0.mk (hbox); have GW336 := zg HB hg; have GE336 := GW336; replace HB := zh HB hb; clear hb hbox hg) | ((with_reducible refine gate_dst (N := 4) rfl ?_); (try (refine gate_guard (by rfl) ?_; dsimp only)); refine zE 4 #[.int .i64 0, .int .i64 0, .int .i64 0, .int .i64 0] 23 ?_; intro gb337 hg w5 hbox hb; have BK337 := Aside0.mk (hbox); have GW337 := zg HB hg; have GE337 := GW337; have NB336_337 := zl BK336 hg; have NB337_336 := zr BK336 hg; replace BK336 := zb BK336 hb; replace HB := zh HB hb; clear hb hbox hg))
 (try simp only [Act.put, List.setIfInBounds_toArray, List.set_cons_zero, List.set_cons_succ])
 go_cut [15] (fun v15 wc => ∃ (kq : Nat) (x15_2 : Bool), v15 = .bool x15_2 ∧ Aside0 (spec_TimesIsland.j0 kq a1 x15_2 a0_0 a0_1 a0_2 a0_3 = some (r1, r2, r3, r4, r5)) ∧ Aside0 (kq ≤ k) ∧ Aside0 (wc.heap[gb336]? = some (.cells #[.int .i64 a0_0, .int .i64 a0_1, .int .i64 a0_2, .int .i64 a0_3] 23 (0, 0))) ∧ Aside0 (wc.heap[gb337]? = some (.cells #[.int .i64 0, .int .i64 0, .int .i64 0, .int .i64 0] 23 (0, 0))) ∧ Aside0 (Below w.heap.size w wc))
 case first =>
  have H := HC3.out; clear HC3; replace H := Option.bind_eq_some_iff.mp H; obtain ⟨t338, A60, H⟩ := H; (try dsimp only at H); have A6 := Aside0.mk A60; clear A60
  by_cases c7 : t338 = true
  ·subst c7
   rw [if_pos rfl] at H
   obtain ⟨y339, hy339⟩ : ∃ y_ : List Int, y_ = (([a1] : List Int)) := ⟨_, rfl⟩
   replace H : ((spec_htLong.f k y339).bind fun t342 => (spec_TimesIsland.j0 k a1 (!t342) a0_0 a0_1 a0_2 a0_3)) = some (r1, r2, r3, r4, r5) := by first | (rw [hy339]; with_reducible exact H) | (have H2_ := (Option.bind_some _ _).symm.trans H; rw [hy339]; with_reducible exact H2_) | (have H2_ := (Option.bind_some _ _).symm.trans H; with_reducible exact H2_) | with_reducible exact H | (rw [hy339]; exact H) | exact H
   have Ny339 := Aside0.mk hy339; clear hy339; replace H := Option.bind_eq_some_iff.mp H; obtain ⟨t342, A80, H⟩ := H
   replace H : (spec_TimesIsland.j0 k a1 (!t342) a0_0 a0_1 a0_2 a0_3) = some (r1, r2, r3, r4, r5) := H
   have A8 := Aside0.mk A80; clear A80; have H' := Aside0.mk H; clear H; have hnb9 := NB336_337.out; have hnc9 := NB337_336.out
   obtain ⟨_, _, _, _, _, _, _, _⟩ := zc4 BK336
   go_wp2_with (first | ((with_reducible refine gate_callee (f := 28) rfl ?_); refine zG (some 8) Tryd.func28 #[.agg #[.int .i64 a0_0, .int .i64 a0_1, .int .i64 a0_2, .int .i64 a0_3]] ?_; (with_reducible refine (spec_htGood.calls k a0_0 a0_1 a0_2 a0_3 true _ A6.out).mono ?_); rintro e w11 ⟨rfl, hb⟩; refine ⟨_, rfl, ?_⟩; replace BK336 := zb BK336 hb; replace BK337 := zb BK337 hb; replace HB := zh HB hb; clear hb) | ((with_reducible refine gate_dst (N := 12) rfl ?_); (try (refine gate_guard (by rfl) ?_; dsimp only)); refine Kd.R_lit (Kd.int .i64) _ 3 ?hg (N := 12) ?hd (xs := ([a1] : List Int)) (inner := [.int .i64 a1]) (ok := fun _ => True) (okp := fun _ => True) ?hr ?hp (fun _ hk => hk) trivial (Below.refl _ _) (Nat.le_refl _) zO1_3 ?_; (case hd => rfl); (case hg => rfl); (case hr => first | (go_simp; done) | (go_simp; rfl)); (case hp => exact (Reps.one (show Kd.M (Kd.int .i64) _ _ _ a1 [.int .i64 a1] from rfl) (Reps.none _ _))); intro v340 w12 ho13 hb hg_ hnew_; clear hg_ hnew_; (first | rw [← Ny339.out] at ho13 | (simp only [Int.reduceToNat] at ho13; rw [← Ny339.out] at ho13)); have HO341 := Aside0.mk (Kd.R_lower ho13 (below_size (zy HB))); replace BK336 := zb BK336 hb; replace BK337 := zb BK337 hb; replace HB := zh HB hb; clear hb ho13; obtain ⟨Ao14, co14, eo14⟩ := Kd.R_slice HO341.out; subst eo14) | (go_at_call 40; (with_reducible refine (spec_htLong.calls k _ _ y339 t342 _ ?side1 ?side2 A8.out).mono ?_); (case side1 => repeat (first | exact (Kd.R_reads' HO341.out).2.2 | (with_reducible refine Kd.C_alloc ?_ _) | (with_reducible refine Kd.C_drewN ?_ _) | (with_reducible refine Kd.C_drew ?_))); (case side2 => exact (Kd.R_reads' HO341.out).2.1); rintro e w' ⟨rfl, ⟨nd, rfl⟩⟩))
   go_meet
   case rel => exact ⟨_, (!t342), zu, H', ⟨by first | omega | exact Nat.le_refl _⟩, zk BK336, zk BK337, ⟨zy HB⟩⟩
  ·replace c7 := Bool.eq_false_iff.mpr c7
   subst c7; rw [if_neg (show ¬ (false = true) by decide)] at H; have H' := Aside0.mk H; clear H; have hnb15 := NB336_337.out; have hnc15 := NB337_336.out
   obtain ⟨_, _, _, _, _, _, _, _⟩ := zc4 BK336
   go_wp2_with (first | ((with_reducible refine gate_callee (f := 28) rfl ?_); refine zG (some 8) Tryd.func28 #[.agg #[.int .i64 a0_0, .int .i64 a0_1, .int .i64 a0_2, .int .i64 a0_3]] ?_; (with_reducible refine (spec_htGood.calls k a0_0 a0_1 a0_2 a0_3 false _ A6.out).mono ?_); rintro e w17 ⟨rfl, hb⟩; refine ⟨_, rfl, ?_⟩; replace BK336 := zb BK336 hb; replace BK337 := zb BK337 hb; replace HB := zh HB hb; clear hb))
   go_meet
   case rel => exact ⟨_, (true), zu, H', ⟨by first | omega | exact Nat.le_refl _⟩, zk BK336, zk BK337, ⟨zy HB⟩⟩
 case rest =>
  clear HC3
  obtain ⟨kq, x15_2, rfl, HA, HJ2, BK336, BK337, HB⟩ := hcut
  cases kq with
  | zero => exact absurd HA.out (by simp [spec_TimesIsland.j0])
  | succ kj2 =>
   have H := HA.out; clear HA; simp only [spec_TimesIsland.j0] at H
   by_cases c18 : x15_2 = true
   ·subst c18
    rw [if_pos rfl] at H; simp only [Option.some.injEq, Prod.mk.injEq] at H; obtain ⟨rfl, rfl, rfl, rfl, rfl⟩ := H; have hnb19 := NB337_336.out; have hnc19 := NB336_337.out
    obtain ⟨_, _, _, _, _, _, _, _⟩ := zc4 BK337
    go_wp2
    refine bodyPost_ret (results_ct rfl _ _ gb337 23 #[.int .i64 0, .int .i64 0, .int .i64 0, .int .i64 0] (0, 0) _ rfl (zw BK337) Tryd.underlying23 rfl (by kernel_rfl)) rfl ?_
    exact ⟨zt, zy HB⟩
   ·replace c18 := Bool.eq_false_iff.mpr c18
    subst c18; rw [if_neg (show ¬ (false = true) by decide)] at H; replace H := Option.bind_eq_some_iff.mp H; obtain ⟨t344, A210, H⟩ := H; (try dsimp only at H); have A21 := Aside0.mk A210; clear A210
    by_cases c22 : t344 = true
    ·subst c22
     rw [if_pos rfl] at H; simp only [Option.some.injEq, Prod.mk.injEq] at H; obtain ⟨rfl, rfl, rfl, rfl, rfl⟩ := H; have hnb23 := NB336_337.out; have hnc23 := NB337_336.out
     obtain ⟨_, _, _, _, _, _, _, _⟩ := zc4 BK336
     go_wp2_with (first | ((with_reducible refine gate_dst (N := 6) rfl ?_); (try (refine gate_guard (by rfl) ?_; dsimp only)); refine zE 6 #[.int .i64 0, .int .i64 0, .int .i64 0, .int .i64 0] 23 ?_; intro gb343 hg w25 hbox hb; have BK343 := Aside0.mk (hbox); have GW343 := zg HB hg; have GE343 := GW343; have NB336_343 := zl BK336 hg; have NB343_336 := zr BK336 hg; have NB337_343 := zl BK337 hg; have NB343_337 := zr BK337 hg; replace BK336 := zb BK336 hb; replace BK337 := zb BK337 hb; replace HB := zh HB hb; clear hb hbox hg; have hnb26 := NB343_336.out; have hnc26 := NB336_343.out; have hnb27 := NB343_337.out; have hnc27 := NB337_343.out; obtain ⟨_, _, _, _, _, _, _, _⟩ := zc4 BK343) | ((with_reducible refine gate_callee (f := 28) rfl ?_); refine zG (some 35) Tryd.func28 #[.agg #[.int .i64 (wrap64 (a0_0 * a1)), .int .i64 (wrap64 (a0_1 * a1)), .int .i64 (wrap64 (a0_2 * a1)), .int .i64 (wrap64 (a0_3 * a1))]] ?_; (with_reducible refine (spec_htGood.calls kj2 (wrap64 (a0_0 * a1)) (wrap64 (a0_1 * a1)) (wrap64 (a0_2 * a1)) (wrap64 (a0_3 * a1)) true _ A21.out).mono ?_); rintro e w29 ⟨rfl, hb⟩; refine ⟨_, rfl, ?_⟩; have n2_ := Aside0.mk (blk_below (g := gb343) (o := .cells #[.int .i64 (wrap64 (a0_0 * a1)), .int .i64 (wrap64 (a0_1 * a1)), .int .i64 (wrap64 (a0_2 * a1)), .int .i64 (wrap64 (a0_3 * a1))] 23 (0, 0)) (zw BK343) hb); replace BK336 := zb BK336 hb; replace BK337 := zb BK337 hb; replace HB := zh HB hb; clear BK343; have BK343 := n2_; clear n2_; clear hb; obtain ⟨_, _, _, _, _, _, _, _⟩ := zc4 BK343; obtain ⟨_, _, _, _, _, _, _, _⟩ := zc4 BK337))
     refine bodyPost_ret (results_ct rfl _ _ gb337 23 #[.int .i64 (wrap64 (a0_0 * a1)), .int .i64 (wrap64 (a0_1 * a1)), .int .i64 (wrap64 (a0_2 * a1)), .int .i64 (wrap64 (a0_3 * a1))] (0, 0) _ rfl (zw BK337) Tryd.underlying23 rfl (by kernel_rfl)) rfl ?_
     exact ⟨zt, zy HB⟩
    ·replace c22 := Bool.eq_false_iff.mpr c22
     subst c22; rw [if_neg (show ¬ (false = true) by decide)] at H; simp only [Option.some.injEq, Prod.mk.injEq] at H; obtain ⟨rfl, rfl, rfl, rfl, rfl⟩ := H; have hnb32 := NB336_337.out; have hnc32 := NB337_336.out
     obtain ⟨_, _, _, _, _, _, _, _⟩ := zc4 BK336
     go_wp2_with (first | ((with_reducible refine gate_dst (N := 6) rfl ?_); (try (refine gate_guard (by rfl) ?_; dsimp only)); refine zE 6 #[.int .i64 0, .int .i64 0, .int .i64 0, .int .i64 0] 23 ?_; intro gb343 hg w34 hbox hb; have BK343 := Aside0.mk (hbox); have GW343 := zg HB hg; have GE343 := GW343; have NB336_343 := zl BK336 hg; have NB343_336 := zr BK336 hg; have NB337_343 := zl BK337 hg; have NB343_337 := zr BK337 hg; replace BK336 := zb BK336 hb; replace BK337 := zb BK337 hb; replace HB := zh HB hb; clear hb hbox hg; have hnb35 := NB343_336.out; have hnc35 := NB336_343.out; have hnb36 := NB343_337.out; have hnc36 := NB337_343.out; obtain ⟨_, _, _, _, _, _, _, _⟩ := zc4 BK343) | ((with_reducible refine gate_callee (f := 28) rfl ?_); refine zG (some 35) Tryd.func28 #[.agg #[.int .i64 (wrap64 (a0_0 * a1)), .int .i64 (wrap64 (a0_1 * a1)), .int .i64 (wrap64 (a0_2 * a1)), .int .i64 (wrap64 (a0_3 * a1))]] ?_; (with_reducible refine (spec_htGood.calls kj2 (wrap64 (a0_0 * a1)) (wrap64 (a0_1 * a1)) (wrap64 (a0_2 * a1)) (wrap64 (a0_3 * a1)) false _ A21.out).mono ?_); rintro e w38 ⟨rfl, hb⟩; refine ⟨_, rfl, ?_⟩; have n2_ := Aside0.mk (blk_below (g := gb343) (o := .cells #[.int .i64 (wrap64 (a0_0 * a1)), .int .i64 (wrap64 (a0_1 * a1)), .int .i64 (wrap64 (a0_2 * a1)), .int .i64 (wrap64 (a0_3 * a1))] 23 (0, 0)) (zw BK343) hb); replace BK336 := zb BK336 hb; replace BK337 := zb BK337 hb; replace HB := zh HB hb; clear BK343; have BK343 := n2_; clear n2_; clear hb; obtain ⟨_, _, _, _, _, _, _, _⟩ := zc4 BK337))
     refine bodyPost_ret (results_ct rfl _ _ gb337 23 #[.int .i64 0, .int .i64 0, .int .i64 0, .int .i64 0] (0, 0) _ rfl (zw BK337) Tryd.underlying23 rfl (by kernel_rfl)) rfl ?_
     exact ⟨zt, zy HB⟩


/-! ### spec_l1Split: function 54 -/
def spec_l1Split.l0 : Nat → ByteArray → Int → List ByteArray → Int → Int → Option (List ByteArray)
 | 0, _, _, _, _, _ => none
 | k + 1, x0, x1, x5, x6, x7 => if x7 < (x0.size : Int) then (if 0 ≤ x7 then (if (bt x0 x7) = x1 then (if 0 ≤ x6 then (if x6 ≤ x7 then (if x7 ≤ (x0.size : Int) then (if x5.length < 8796093022208 then (spec_l1Split.l0 k x0 x1 (x5 ++ [x0.extract (x6 : Int).toNat (x7 : Int).toNat]) (wrap64 (x7 + 1)) (wrap64 (x7 + 1))) else (none)) else (none)) else (none)) else (none)) else (spec_l1Split.l0 k x0 x1 x5 x6 (wrap64 (x7 + 1)))) else (none)) else (if 0 ≤ x6 then (if x6 ≤ (x0.size : Int) then (if x5.length < 8796093022208 then (some (x5 ++ [x0.extract (x6 : Int).toNat x0.size])) else (none)) else (none)) else (none))
def spec_l1Split.f (k : Nat) (a0 : ByteArray) (a1 : Int) : Option (List ByteArray) := spec_l1Split.l0 k a0 a1 ([] : List ByteArray) 0 0
set_option maxHeartbeats 8000000 in
set_option maxRecDepth 100000 in
theorem spec_l1Split.calls (k : Nat) (a0 : ByteArray) (a1 : Int) (r : List ByteArray) (w : World) (h : spec_l1Split.f k a0 a1 = some r) :
  Calls Tryd.prog 54 #[.string a0, .int .u8 a1] w fun e w' => ∃ v0_ : Value, e = .returned (v0_) ∧ Kd.R Kd.string 9 w' w.heap.size (fun _ => True) v0_ r ∧ Below w.heap.size w w' := by
 have HB := Aside0.mk (Below.refl w.heap.size w)
 have H : (spec_l1Split.l0 k a0 a1 ([] : List ByteArray) 0 0) = some r := h
 clear h; have H' := Aside0.mk H; clear H
 go_enter Tryd.func54, Tryd.ntmps54
 go_wp2
 go_loopg [5, 6, 7] k (fun kq v5 v6 v7 w' => ∃ (x5_1 : List ByteArray) (x6_1 : Int) (x7_1 : Int), v6 = .int .i64 x6_1 ∧ v7 = .int .i64 x7_1 ∧ Aside0 (spec_l1Split.l0 kq a0 a1 x5_1 x6_1 x7_1 = some r) ∧ Aside0 (kq ≤ k) ∧ Aside0 (Kd.R Kd.string 9 w' w.heap.size (fun _ => True) v5 x5_1) ∧ Aside0 (Below w.heap.size w w'))
 case atStart => exact ⟨(([] : List ByteArray)), (0), (0), zu, zu, H', ⟨Nat.le_refl _⟩, ⟨by first | exact Kd.R_nil _ _ _ _ _ | exact Kd.N_nil _ _ _ _ _ | exact Kd.V_nil _ _ _ _ _ | exact Kd.Q_nil _ _ _ _ _ | exact Kd.S_nil _ _ _ _ _⟩, ⟨zy HB⟩⟩
 case round =>
  clear H'
  obtain ⟨x5_1, x6_1, x7_1, rfl, rfl, HA, HK1, HO_5, HB⟩ := hrel
  cases gk with
  | zero => exact absurd HA.out (by simp [spec_l1Split.l0])
  | succ k1 =>
   have H := HA.out; clear HA; simp only [spec_l1Split.l0] at H
   by_cases c3 : x7_1 < (a0.size : Int)
   ·rw [if_pos c3] at H
    have c3b0 : decide (x7_1 < (a0.size : Int)) = true := decide_eq_true c3; clear c3
    by_cases c4 : 0 ≤ x7_1
    ·rw [if_pos c4] at H
     have c4b0 : decide (0 ≤ x7_1) = true := decide_eq_true c4; clear c4
     by_cases c6 : (bt a0 x7_1) = a1
     ·rw [if_pos c6] at H
      have c6b0 : ((bt a0 x7_1) == a1) = true := beq_iff_eq.mpr c6
      have c6b1 : ((bt a0 x7_1) != a1) = false := bne_eq_false_iff_eq.mpr c6
      clear c6
      by_cases c7 : 0 ≤ x6_1
      ·rw [if_pos c7] at H
       have c7b0 := eq_true c7
       have c7b1 : decide (0 ≤ x6_1) = true := decide_eq_true c7
       clear c7
       by_cases c8 : x6_1 ≤ x7_1
       ·rw [if_pos c8] at H
        have c8b0 := eq_true c8
        have c8b1 : decide (x6_1 ≤ x7_1) = true := decide_eq_true c8
        clear c8
        by_cases c9 : x7_1 ≤ (a0.size : Int)
        ·rw [if_pos c9] at H
         have c9b0 := eq_true c9
         have c9b1 : decide (x7_1 ≤ (a0.size : Int)) = true := decide_eq_true c9
         clear c9
         by_cases c10 : x5_1.length < 8796093022208
         ·rw [if_pos c10] at H
          have LMc10 := Aside0.mk c10; clear c10
          obtain ⟨y345, hy345⟩ : ∃ y_ : List ByteArray, y_ = (x5_1 ++ [a0.extract (x6_1 : Int).toNat (x7_1 : Int).toNat]) := ⟨_, rfl⟩
          replace H : (spec_l1Split.l0 k1 a0 a1 y345 (wrap64 (x7_1 + 1)) (wrap64 (x7_1 + 1))) = some r := by first | (rw [hy345]; with_reducible exact H) | (have H2_ := (Option.bind_some _ _).symm.trans H; rw [hy345]; with_reducible exact H2_) | (have H2_ := (Option.bind_some _ _).symm.trans H; with_reducible exact H2_) | with_reducible exact H | (rw [hy345]; exact H) | exact H
          have Ny345 := Aside0.mk hy345; clear hy345; have H' := Aside0.mk H; clear H
          have p5 : 0 ≤ (x7_1 : Int) := of_decide_eq_true zO1_2
          have q5 : x7_1 < (a0.size : Int) := of_decide_eq_true zO1_2
          have hx5 := bt_at a0 x7_1
          replace p5 := eq_true p5; replace q5 := eq_true q5
          go_wp2_with (first | ((with_reducible refine gate_builtin (b := .append) (xs := #[.tmp 19, .tmp 24]) rfl ?_); at_builtin; refine Kd.R_append Kd.string (w0 := w) w.heap.size rfl (.tmp 19) (.tmp 24) 65 9 (.string ⟨#[]⟩) 16 rfl Tryd.underlying65 info9 rfl (by decide) (by omega) u5 x5_1 (a0.extract (x6_1 : Int).toNat (x7_1 : Int).toNat) [.string (a0.extract (x6_1 : Int).toNat (x7_1 : Int).toNat)] (fun _ => True) (fun _ => False) rfl rfl ?aP (fun _ hk => hk.elim) ?aF ?aO ?aB ?aS ?aL ?_; (case aP => exact rfl); (case aB => exact (zy HB)); (case aF => exact (fun _ _ => trivial)); (case aO => exact (zs HO_5)); (case aS => exact (below_size (zy HB))); (case aL => have := LMc10.out; omega); intro v346 w11 ho hb hg hat; rw [← Ny345.out] at ho; have HO347 := Aside0.mk (ho); replace HB := Aside0.mk hb; clear HO_5; clear ho hb hg hat))
          go_roundg k1
          case measure => have := HK1.out; omega
          case rel => exact ⟨(y345), (wrap64 (x7_1 + 1)), (wrap64 (x7_1 + 1)), zu, zu, H', ⟨by have := HK1.out; omega⟩, zp HO347, ⟨zy HB⟩⟩
         ·rw [if_neg c10] at H
          exact absurd H zO1_3
        ·rw [if_neg c9] at H
         exact absurd H zO1_3
       ·rw [if_neg c8] at H
        exact absurd H zO1_3
      ·rw [if_neg c7] at H
       exact absurd H zO1_3
     ·rw [if_neg c6] at H
      have c6b0 : ((bt a0 x7_1) == a1) = false := beq_eq_false_iff_ne.mpr c6
      have c6b1 : ((bt a0 x7_1) != a1) = true := bne_iff_ne.mpr c6
      have H' := Aside0.mk H; clear H
      have p5 : 0 ≤ (x7_1 : Int) := of_decide_eq_true zO1_2
      have q5 : x7_1 < (a0.size : Int) := of_decide_eq_true zO1_2
      have hx5 := bt_at a0 x7_1
      replace p5 := eq_true p5; replace q5 := eq_true q5
      go_wp2
      go_roundg k1
      case measure => have := HK1.out; omega
      case rel => exact ⟨(x5_1), (x6_1), (wrap64 (x7_1 + 1)), zu, zu, H', ⟨by have := HK1.out; omega⟩, zp HO_5, ⟨zy HB⟩⟩
    ·rw [if_neg c4] at H
     exact absurd H zO1_3
   ·rw [if_neg c3] at H
    have c3b0 : decide (x7_1 < (a0.size : Int)) = false := decide_eq_false c3; clear c3
    by_cases c12 : 0 ≤ x6_1
    ·rw [if_pos c12] at H
     have c12b0 := eq_true c12
     have c12b1 : decide (0 ≤ x6_1) = true := decide_eq_true c12
     clear c12
     by_cases c13 : x6_1 ≤ (a0.size : Int)
     ·rw [if_pos c13] at H
      have c13b0 := eq_true c13
      have c13b1 : decide (x6_1 ≤ (a0.size : Int)) = true := decide_eq_true c13
      clear c13
      by_cases c14 : x5_1.length < 8796093022208
      ·rw [if_pos c14] at H
       have LMc14 := Aside0.mk c14; clear c14
       obtain ⟨y348, hy348⟩ : ∃ y_ : List ByteArray, y_ = (x5_1 ++ [a0.extract (x6_1 : Int).toNat a0.size]) := ⟨_, rfl⟩
       replace H : (some y348) = some r := by first | (rw [hy348]; with_reducible exact H) | (have H2_ := (Option.bind_some _ _).symm.trans H; rw [hy348]; with_reducible exact H2_) | (have H2_ := (Option.bind_some _ _).symm.trans H; with_reducible exact H2_) | with_reducible exact H | (rw [hy348]; exact H) | exact H
       have Ny348 := Aside0.mk hy348; clear hy348
       obtain rfl := Option.some.inj H
       go_wp2_with (first | ((with_reducible refine gate_builtin (b := .append) (xs := #[.tmp 28, .tmp 32]) rfl ?_); at_builtin; refine Kd.R_append Kd.string (w0 := w) w.heap.size rfl (.tmp 28) (.tmp 32) 65 9 (.string ⟨#[]⟩) 16 rfl Tryd.underlying65 info9 rfl (by decide) (by omega) u5 x5_1 (a0.extract (x6_1 : Int).toNat a0.size) [.string (a0.extract (x6_1 : Int).toNat a0.size)] (fun _ => True) (fun _ => False) rfl rfl ?aP (fun _ hk => hk.elim) ?aF ?aO ?aB ?aS ?aL ?_; (case aP => exact rfl); (case aB => exact (zy HB)); (case aF => exact (fun _ _ => trivial)); (case aO => exact (zs HO_5)); (case aS => exact (below_size (zy HB))); (case aL => have := LMc14.out; omega); intro v349 w15 ho hb hg hat; rw [← Ny348.out] at ho; have HO350 := Aside0.mk (ho); replace HB := Aside0.mk hb; clear HO_5; clear ho hb hg hat))
       go_ret
       exact ⟨_, zt, by (with_reducible repeat (first | apply Kd.R_alloc | apply Kd.R_drewN | apply Kd.R_drew)); exact HO350.out, zy HB⟩
      ·rw [if_neg c14] at H
       exact absurd H zO1_3
     ·rw [if_neg c13] at H
      exact absurd H zO1_3
    ·rw [if_neg c12] at H
     exact absurd H zO1_3


/-! ### spec_l1Read: function 55 -/
mutual
def spec_l1Read.j0 : Nat → ByteArray → Bool → Option (Int)
 | 0, _, _ => none
 | k + 1, x0, x18 => if x18 = true then (some (-1)) else (spec_l1Read.l0 k x0 0 0)
def spec_l1Read.l0 : Nat → ByteArray → Int → Int → Option (Int)
 | 0, _, _, _ => none
 | k + 1, x0, x3, x4 => if x4 < (x0.size : Int) then (if 0 ≤ x4 then (if (bt x0 x4) < 48 then (some (-1)) else (if (bt x0 x4) > 57 then (some (-1)) else (spec_l1Read.l0 k x0 (wrap64 ((wrap64 (10 * x3)) + (((bt x0 x4) - 48) % 256))) (wrap64 (x4 + 1))))) else (none)) else (some x3)
end
def spec_l1Read.f (k : Nat) (a0 : ByteArray) : Option (Int) := (spec_l1In.f (a0.size : Int) 1 6).bind fun t351 => (if t351 = true then (if 0 < (a0.size : Int) then (if (bt a0 0) = 48 then (spec_l1Read.j0 k a0 (decide ((a0.size : Int) > 1))) else (spec_l1Read.j0 k a0 false)) else (none)) else (spec_l1Read.j0 k a0 true))
set_option maxHeartbeats 8000000 in
set_option maxRecDepth 100000 in
theorem spec_l1Read.calls (k : Nat) (a0 : ByteArray) (r : Int) (w : World) (h : spec_l1Read.f k a0 = some r) :
  Calls Tryd.prog 55 #[.string a0] w fun e w' => e = .returned (.int .i64 r) ∧ Drawn0 w w' := by
 have H : ((spec_l1In.f (a0.size : Int) 1 6).bind fun t351 => (if t351 = true then (if 0 < (a0.size : Int) then (if (bt a0 0) = 48 then (spec_l1Read.j0 k a0 (decide ((a0.size : Int) > 1))) else (spec_l1Read.j0 k a0 false)) else (none)) else (spec_l1Read.j0 k a0 true))) = some r := h
 clear h; have HC2 := Aside0.mk H; clear H
 go_enter Tryd.func55, Tryd.ntmps55
 go_upto_region 1 with (fail)
 go_cut [18] (fun v18 wc => ∃ (kq : Nat) (x18_1 : Bool), v18 = .bool x18_1 ∧ Aside0 (spec_l1Read.j0 kq a0 x18_1 = some r) ∧ Aside0 (kq ≤ k) ∧ Drawn0 w wc)
 case first =>
  have H := HC2.out; clear HC2; replace H := Option.bind_eq_some_iff.mp H; obtain ⟨t351, A30, H⟩ := H; (try dsimp only at H); have A3 := Aside0.mk A30; clear A30
  by_cases c4 : t351 = true
  ·subst c4
   rw [if_pos rfl] at H
   by_cases c5 : 0 < (a0.size : Int)
   ·rw [if_pos c5] at H
    have c5b0 : decide (0 < (a0.size : Int)) = true := decide_eq_true c5
    have c5b1 : decide (0 < a0.size) = true := decide_eq_true (by omega)
    clear c5
    (first | rw [c5b0] | (simp only [i64_w, i32_w]; rw [c5b0]) | skip)
    by_cases c7 : (bt a0 0) = 48
    ·rw [if_pos c7] at H
     have c7b0 : ((bt a0 0) == 48) = true := beq_iff_eq.mpr c7
     have c7b1 : ((bt a0 0) != 48) = false := bne_eq_false_iff_eq.mpr c7
     clear c7; have H' := Aside0.mk H; clear H
     go_wp2_with (first | ((with_reducible refine gate_callee (f := 52) rfl ?_); refine zG (some 7) Tryd.func52 #[.int .i64 (a0.size : Int), .int .i64 1, .int .i64 6] ?_; (with_reducible refine (spec_l1In.calls (a0.size : Int) 1 6 true _ A3.out).mono ?_); rintro e w' ⟨rfl, ⟨nd, rfl⟩⟩; refine ⟨_, rfl, ?_⟩; have p6 : 0 ≤ (0 : Int) := (by omega); have q6 : 0 < a0.size := (by have : (0 : Int) < (a0.size : Int) := of_decide_eq_true zO1_2; omega); have hx6 : ∀ h : 0 < a0.size, ((a0[0]'h).toNat : Int) = bt a0 0 := bt_at a0 0; clear p6; have qi6 : (0 < (a0.size : Int)) = True := eq_true (of_decide_eq_true zO1_2); replace q6 := eq_true q6))
     go_meet
     case rel => exact ⟨_, (decide ((a0.size : Int) > 1)), zu, H', ⟨by first | omega | exact Nat.le_refl _⟩, by repeat (first | exact Drawn0.refl _ | apply Drawn0.step)⟩
    ·rw [if_neg c7] at H
     have c7b0 : ((bt a0 0) == 48) = false := beq_eq_false_iff_ne.mpr c7
     have c7b1 : ((bt a0 0) != 48) = true := bne_iff_ne.mpr c7
     have H' := Aside0.mk H; clear H
     go_wp2_with (first | ((with_reducible refine gate_callee (f := 52) rfl ?_); refine zG (some 7) Tryd.func52 #[.int .i64 (a0.size : Int), .int .i64 1, .int .i64 6] ?_; (with_reducible refine (spec_l1In.calls (a0.size : Int) 1 6 true _ A3.out).mono ?_); rintro e w' ⟨rfl, ⟨nd, rfl⟩⟩; refine ⟨_, rfl, ?_⟩; have p6 : 0 ≤ (0 : Int) := (by omega); have q6 : 0 < a0.size := (by have : (0 : Int) < (a0.size : Int) := of_decide_eq_true zO1_2; omega); have hx6 : ∀ h : 0 < a0.size, ((a0[0]'h).toNat : Int) = bt a0 0 := bt_at a0 0; clear p6; have qi6 : (0 < (a0.size : Int)) = True := eq_true (of_decide_eq_true zO1_2); replace q6 := eq_true q6))
     go_meet
     case rel => exact ⟨_, (false), zu, H', ⟨by first | omega | exact Nat.le_refl _⟩, by repeat (first | exact Drawn0.refl _ | apply Drawn0.step)⟩
   ·rw [if_neg c5] at H
    exact absurd H zO1_3
  ·replace c4 := Bool.eq_false_iff.mpr c4
   subst c4; rw [if_neg (show ¬ (false = true) by decide)] at H; have H' := Aside0.mk H; clear H
   go_wp2_with (first | ((with_reducible refine gate_callee (f := 52) rfl ?_); refine zG (some 7) Tryd.func52 #[.int .i64 (a0.size : Int), .int .i64 1, .int .i64 6] ?_; (with_reducible refine (spec_l1In.calls (a0.size : Int) 1 6 false _ A3.out).mono ?_); rintro e w' ⟨rfl, ⟨nd, rfl⟩⟩; refine ⟨_, rfl, ?_⟩))
   go_meet
   case rel => exact ⟨_, (true), zu, H', ⟨by first | omega | exact Nat.le_refl _⟩, by repeat (first | exact Drawn0.refl _ | apply Drawn0.step)⟩
 case rest =>
  clear HC2
  obtain ⟨kq, x18_1, rfl, HA, HJ1, ⟨mc1, rfl⟩⟩ := hcut
  cases kq with
  | zero => exact absurd HA.out (by simp [spec_l1Read.j0])
  | succ kj1 =>
   have H := HA.out; clear HA; simp only [spec_l1Read.j0] at H
   by_cases c8 : x18_1 = true
   ·subst c8
    rw [if_pos rfl] at H
    obtain rfl := Option.some.inj H
    go_wp2
    go_ret
    exact ⟨by first | rfl | (simp; done) | (simp [*]; done), by repeat (first | exact Drawn0.refl _ | apply Drawn0.step)⟩
   ·replace c8 := Bool.eq_false_iff.mpr c8
    subst c8; rw [if_neg (show ¬ (false = true) by decide)] at H; have H' := Aside0.mk H; clear H
    go_wp2
    go_loopg [3, 4] kj1 (fun kq v3 v4 w' => ∃ (x3_2 : Int) (x4_2 : Int), v3 = .int .i64 x3_2 ∧ v4 = .int .i64 x4_2 ∧ Aside0 (spec_l1Read.l0 kq a0 x3_2 x4_2 = some r) ∧ Aside0 (kq ≤ kj1) ∧ Drawn0 w w')
    case atStart => exact ⟨(0), (0), zu, zu, H', ⟨Nat.le_refl _⟩, by repeat (first | exact Drawn0.refl _ | apply Drawn0.step)⟩
    case round =>
     clear H'
     obtain ⟨x3_2, x4_2, rfl, rfl, HA, HK2, ⟨m2, rfl⟩⟩ := hrel
     cases gk with
     | zero => exact absurd HA.out (by simp [spec_l1Read.l0])
     | succ k2 =>
      have H := HA.out; clear HA; simp only [spec_l1Read.l0] at H
      by_cases c9 : x4_2 < (a0.size : Int)
      ·rw [if_pos c9] at H
       have c9b0 : decide (x4_2 < (a0.size : Int)) = true := decide_eq_true c9; clear c9
       by_cases c10 : 0 ≤ x4_2
       ·rw [if_pos c10] at H
        have c10b0 : decide (0 ≤ x4_2) = true := decide_eq_true c10; clear c10
        by_cases c12 : (bt a0 x4_2) < 48
        ·rw [if_pos c12] at H
         have c12b0 : decide ((bt a0 x4_2) < 48) = true := decide_eq_true c12; clear c12
         obtain rfl := Option.some.inj H
         have p11 : 0 ≤ (x4_2 : Int) := of_decide_eq_true zO1_2
         have q11 : x4_2 < (a0.size : Int) := of_decide_eq_true zO1_2
         have hx11 := bt_at a0 x4_2
         replace p11 := eq_true p11; replace q11 := eq_true q11
         go_wp2
         go_ret
         exact ⟨by first | rfl | (simp; done) | (simp [*]; done), by repeat (first | exact Drawn0.refl _ | apply Drawn0.step)⟩
        ·rw [if_neg c12] at H
         have c12b0 : decide ((bt a0 x4_2) < 48) = false := decide_eq_false c12; clear c12
         by_cases c14 : (bt a0 x4_2) > 57
         ·rw [if_pos c14] at H
          have c14b0 : decide (57 < (bt a0 x4_2)) = true := decide_eq_true c14; clear c14
          obtain rfl := Option.some.inj H
          have p11 : 0 ≤ (x4_2 : Int) := of_decide_eq_true zO1_2
          have q11 : x4_2 < (a0.size : Int) := of_decide_eq_true zO1_2
          have hx11 := bt_at a0 x4_2
          replace p11 := eq_true p11; replace q11 := eq_true q11
          have p13 : 0 ≤ (x4_2 : Int) := of_decide_eq_true zO1_2
          have q13 : x4_2 < (a0.size : Int) := of_decide_eq_true zO1_2
          have hx13 := bt_at a0 x4_2
          replace p13 := eq_true p13; replace q13 := eq_true q13
          go_wp2
          go_ret
          exact ⟨by first | rfl | (simp; done) | (simp [*]; done), by repeat (first | exact Drawn0.refl _ | apply Drawn0.step)⟩
         ·rw [if_neg c14] at H
          have c14b0 : decide (57 < (bt a0 x4_2)) = false := decide_eq_false c14; clear c14; have H' := Aside0.mk H; clear H
          have p11 : 0 ≤ (x4_2 : Int) := of_decide_eq_true zO1_2
          have q11 : x4_2 < (a0.size : Int) := of_decide_eq_true zO1_2
          have hx11 := bt_at a0 x4_2
          replace p11 := eq_true p11; replace q11 := eq_true q11
          have p13 : 0 ≤ (x4_2 : Int) := of_decide_eq_true zO1_2
          have q13 : x4_2 < (a0.size : Int) := of_decide_eq_true zO1_2
          have hx13 := bt_at a0 x4_2
          replace p13 := eq_true p13; replace q13 := eq_true q13
          have p15 : 0 ≤ (x4_2 : Int) := of_decide_eq_true zO1_2
          have q15 : x4_2 < (a0.size : Int) := of_decide_eq_true zO1_2
          have hx15 := bt_at a0 x4_2
          replace p15 := eq_true p15; replace q15 := eq_true q15
          go_wp2
          go_roundg k2
          case measure => have := HJ1.out; have := HK2.out; omega
          case rel => exact ⟨(wrap64 ((wrap64 (10 * x3_2)) + (((bt a0 x4_2) - 48) % 256))), (wrap64 (x4_2 + 1)), zu, zu, H', ⟨by have := HJ1.out; have := HK2.out; omega⟩, by repeat (first | exact Drawn0.refl _ | apply Drawn0.step)⟩
       ·rw [if_neg c10] at H
        exact absurd H zO1_3
      ·rw [if_neg c9] at H
       have c9b0 : decide (x4_2 < (a0.size : Int)) = false := decide_eq_false c9; clear c9
       obtain rfl := Option.some.inj H
       go_wp2
       go_ret
       exact ⟨by first | rfl | (simp; done) | (simp [*]; done), by repeat (first | exact Drawn0.refl _ | apply Drawn0.step)⟩

end Go.Proofs.YtakodhlaphloeaaDoor.P
