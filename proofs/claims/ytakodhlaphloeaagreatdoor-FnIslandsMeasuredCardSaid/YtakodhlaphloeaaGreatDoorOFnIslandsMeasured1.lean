/- The law FnIslandsMeasured is proved: a call of it returns true and leaves its arguments as they were; and what this needs. Every input that the given rows speak of; nothing else is asked. -/
import Derived.Test.YtakodhlaphloeaaGreatDoorOFnIslandsMeasured0
namespace Go.Proofs.YtakodhlaphloeaaGreatDoor.P
open Go.RowKit Go.Proofs.YtakodhlaphloeaaGreatDoorW.PrintWords Go.Proofs.YtakodhlaphloeaaGreatDoorW.PrintLast Go.Proofs.YtakodhlaphloeaaGreatDoorW.PrintMore
set_option linter.unusedVariables false
theorem zO1_0 {p : Prop} (h : p := by (with_reducible repeat (first | apply Kd.S_alloc | apply Kd.S_drewN | apply Kd.S_drew)); exact Kd.S_mono HO_6.out (fun k_ hk => ⟨trivial, fun e_ => hk.2 e_⟩)) : p := h
theorem zO1_1 {p : Prop} (h : p := by (try simp only [List.map_toArray, List.map_cons, List.map_nil]); first | done | rfl | (simp only [List.length_drop, List.length_take]; rfl)) : p := h
theorem zO1_2 {p : Prop} (h : p := by repeat (first | (with_reducible first | exact HB.out | apply below_alloc | apply pw_below_drewN | apply below_drew1) | exact HB.out)) : p := h
theorem zO1_3 {p : Prop} (h : p := by (with_reducible repeat (first | apply Kd.S_alloc | apply Kd.S_drewN | apply Kd.S_drew)); exact HO_6.out) : p := h
theorem zO1_4 {p : Prop} (h : p := by simp) : p := h
end Go.Proofs.YtakodhlaphloeaaGreatDoor.P
namespace Go.Proofs.YtakodhlaphloeaaGreatDoor.P
open Go.RowKit Go.Proofs.YtakodhlaphloeaaGreatDoorW.PrintWords Go.Proofs.YtakodhlaphloeaaGreatDoorW.PrintLast Go.Proofs.YtakodhlaphloeaaGreatDoorW.PrintMore
attribute [local go_sem] max2_int min2_int max_two min_two max_three min_three max_four min_four   -- for this text's walks alone
set_option linter.unusedVariables false
set_option linter.unusedSimpArgs false

/-! ### spec_htText: function 40 -/
def spec_htText.f (k : Nat) (a0_0 : Int) (a0_1 : Int) (a0_2 : Int) (a0_3 : Int) : Option (ByteArray) := (spec_l1Num.f k a0_0).bind fun t257 => (if t257.size + 1 ≤ 9223372036854775807 then ((spec_l1Num.f k a0_1).bind fun t258 => (if (t257 ++ (⟨#[124]⟩ : ByteArray)).size + t258.size ≤ 9223372036854775807 then (if ((t257 ++ (⟨#[124]⟩ : ByteArray)) ++ t258).size + 1 ≤ 9223372036854775807 then ((spec_l1Num.f k a0_2).bind fun t259 => (if (((t257 ++ (⟨#[124]⟩ : ByteArray)) ++ t258) ++ (⟨#[58]⟩ : ByteArray)).size + t259.size ≤ 9223372036854775807 then (if ((((t257 ++ (⟨#[124]⟩ : ByteArray)) ++ t258) ++ (⟨#[58]⟩ : ByteArray)) ++ t259).size + 1 ≤ 9223372036854775807 then ((spec_l1Num.f k a0_3).bind fun t260 => (if (((((t257 ++ (⟨#[124]⟩ : ByteArray)) ++ t258) ++ (⟨#[58]⟩ : ByteArray)) ++ t259) ++ (⟨#[47]⟩ : ByteArray)).size + t260.size ≤ 9223372036854775807 then (some ((((((t257 ++ (⟨#[124]⟩ : ByteArray)) ++ t258) ++ (⟨#[58]⟩ : ByteArray)) ++ t259) ++ (⟨#[47]⟩ : ByteArray)) ++ t260)) else (none))) else (none)) else (none))) else (none)) else (none))) else (none))
def spec_htText.T1 : Bool × List (List Nat × List Nat) := (true, [([], []), ([0], [0]), ([1], [1]), ([2], [2]), ([], []), ([4], [4]), ([5, 2], [5]), ([3, 6], [3, 6]), ([7], [7]), ([], []), ([9], [9]), ([10, 6], [10]), ([8, 11], [8, 11]), ([12], [12]), ([], []), ([14], [14]), ([15, 11], [15]), ([13, 16], [13, 16]), ([17, 16, 0, 1, 2, 3, 4, 5, 6, 7, 8, 9, 10, 11, 12, 13, 14, 15, 16, 17], [17])])
def spec_htText.B1 : List Nat := [0, 1, 3, 7, 0, 16, 55, 127, 255, 0, 512, 1655, 4095, 8191, 0, 16384, 52855, 131071, 262143]
theorem spec_htText.tab1 : rtab .any (opsOf Tryz.f40 1) = spec_htText.T1 := by kernel_rfl
theorem spec_htText.bits1 : waitsOk spec_htText.T1.2 spec_htText.B1 = true := by kernel_rfl
set_option maxHeartbeats 8000000 in
set_option maxRecDepth 100000 in
theorem spec_htText.calls (k : Nat) (a0_0 : Int) (a0_1 : Int) (a0_2 : Int) (a0_3 : Int) (r : ByteArray) (w : World) (h : spec_htText.f k a0_0 a0_1 a0_2 a0_3 = some r) :
  Calls Tryz.prog 40 #[.agg #[.int .i64 a0_0, .int .i64 a0_1, .int .i64 a0_2, .int .i64 a0_3]] w fun e w' => e = .returned (.string r) ∧ Below w.heap.size w w' := by
 have hu25 := Tryz.underlying25
 have HB := Aside0.mk (Below.refl w.heap.size w)
 have H : ((spec_l1Num.f k a0_0).bind fun t257 => (if t257.size + 1 ≤ 9223372036854775807 then ((spec_l1Num.f k a0_1).bind fun t258 => (if (t257 ++ (⟨#[124]⟩ : ByteArray)).size + t258.size ≤ 9223372036854775807 then (if ((t257 ++ (⟨#[124]⟩ : ByteArray)) ++ t258).size + 1 ≤ 9223372036854775807 then ((spec_l1Num.f k a0_2).bind fun t259 => (if (((t257 ++ (⟨#[124]⟩ : ByteArray)) ++ t258) ++ (⟨#[58]⟩ : ByteArray)).size + t259.size ≤ 9223372036854775807 then (if ((((t257 ++ (⟨#[124]⟩ : ByteArray)) ++ t258) ++ (⟨#[58]⟩ : ByteArray)) ++ t259).size + 1 ≤ 9223372036854775807 then ((spec_l1Num.f k a0_3).bind fun t260 => (if (((((t257 ++ (⟨#[124]⟩ : ByteArray)) ++ t258) ++ (⟨#[58]⟩ : ByteArray)) ++ t259) ++ (⟨#[47]⟩ : ByteArray)).size + t260.size ≤ 9223372036854775807 then (some ((((((t257 ++ (⟨#[124]⟩ : ByteArray)) ++ t258) ++ (⟨#[58]⟩ : ByteArray)) ++ t259) ++ (⟨#[47]⟩ : ByteArray)) ++ t260)) else (none))) else (none)) else (none))) else (none)) else (none))) else (none))) = some r := h
 clear h; replace H := Option.bind_eq_some_iff.mp H; obtain ⟨t257, A20, H⟩ := H; (try dsimp only at H); have A2 := Aside0.mk A20; clear A20
 by_cases c3 : t257.size + 1 ≤ 9223372036854775807
 ·rw [if_pos c3] at H
  have c3b0 := eq_true c3
  have c3b1 : decide (t257.size + 1 ≤ 9223372036854775807) = true := decide_eq_true c3
  try have c3b2 : (9223372036854775807 < t257.size + 1) = False := eq_false (Nat.not_lt.2 c3)
  replace H := Option.bind_eq_some_iff.mp H; obtain ⟨t258, A40, H⟩ := H; (try dsimp only at H); have A4 := Aside0.mk A40; clear A40
  by_cases c5 : (t257 ++ (⟨#[124]⟩ : ByteArray)).size + t258.size ≤ 9223372036854775807
  ·rw [if_pos c5] at H
   have c5b0 := eq_true c5
   have c5b1 : decide ((t257 ++ (⟨#[124]⟩ : ByteArray)).size + t258.size ≤ 9223372036854775807) = true := decide_eq_true c5
   try have c5b2 : (9223372036854775807 < (t257 ++ (⟨#[124]⟩ : ByteArray)).size + t258.size) = False := eq_false (Nat.not_lt.2 c5)
   try (have c5b2s := Nat.not_lt.2 c5; simp only [ByteArray.size_append, show (⟨#[124]⟩ : ByteArray).size = 1 from rfl, show (⟨#[47]⟩ : ByteArray).size = 1 from rfl, show (⟨#[58]⟩ : ByteArray).size = 1 from rfl] at c5b2s; replace c5b2s := eq_false c5b2s)
   by_cases c6 : ((t257 ++ (⟨#[124]⟩ : ByteArray)) ++ t258).size + 1 ≤ 9223372036854775807
   ·rw [if_pos c6] at H
    have c6b0 := eq_true c6
    have c6b1 : decide (((t257 ++ (⟨#[124]⟩ : ByteArray)) ++ t258).size + 1 ≤ 9223372036854775807) = true := decide_eq_true c6
    try have c6b2 : (9223372036854775807 < ((t257 ++ (⟨#[124]⟩ : ByteArray)) ++ t258).size + 1) = False := eq_false (Nat.not_lt.2 c6)
    try (have c6b2s := Nat.not_lt.2 c6; simp only [ByteArray.size_append, show (⟨#[124]⟩ : ByteArray).size = 1 from rfl, show (⟨#[47]⟩ : ByteArray).size = 1 from rfl, show (⟨#[58]⟩ : ByteArray).size = 1 from rfl] at c6b2s; replace c6b2s := eq_false c6b2s)
    replace H := Option.bind_eq_some_iff.mp H; obtain ⟨t259, A70, H⟩ := H; (try dsimp only at H); have A7 := Aside0.mk A70; clear A70
    by_cases c8 : (((t257 ++ (⟨#[124]⟩ : ByteArray)) ++ t258) ++ (⟨#[58]⟩ : ByteArray)).size + t259.size ≤ 9223372036854775807
    ·rw [if_pos c8] at H
     have c8b0 := eq_true c8
     have c8b1 : decide ((((t257 ++ (⟨#[124]⟩ : ByteArray)) ++ t258) ++ (⟨#[58]⟩ : ByteArray)).size + t259.size ≤ 9223372036854775807) = true := decide_eq_true c8
     try have c8b2 : (9223372036854775807 < (((t257 ++ (⟨#[124]⟩ : ByteArray)) ++ t258) ++ (⟨#[58]⟩ : ByteArray)).size + t259.size) = False := eq_false (Nat.not_lt.2 c8)
     try (have c8b2s := Nat.not_lt.2 c8; simp only [ByteArray.size_append, show (⟨#[124]⟩ : ByteArray).size = 1 from rfl, show (⟨#[47]⟩ : ByteArray).size = 1 from rfl, show (⟨#[58]⟩ : ByteArray).size = 1 from rfl] at c8b2s; replace c8b2s := eq_false c8b2s)
     by_cases c9 : ((((t257 ++ (⟨#[124]⟩ : ByteArray)) ++ t258) ++ (⟨#[58]⟩ : ByteArray)) ++ t259).size + 1 ≤ 9223372036854775807
     ·rw [if_pos c9] at H
      have c9b0 := eq_true c9
      have c9b1 : decide (((((t257 ++ (⟨#[124]⟩ : ByteArray)) ++ t258) ++ (⟨#[58]⟩ : ByteArray)) ++ t259).size + 1 ≤ 9223372036854775807) = true := decide_eq_true c9
      try have c9b2 : (9223372036854775807 < ((((t257 ++ (⟨#[124]⟩ : ByteArray)) ++ t258) ++ (⟨#[58]⟩ : ByteArray)) ++ t259).size + 1) = False := eq_false (Nat.not_lt.2 c9)
      try (have c9b2s := Nat.not_lt.2 c9; simp only [ByteArray.size_append, show (⟨#[124]⟩ : ByteArray).size = 1 from rfl, show (⟨#[47]⟩ : ByteArray).size = 1 from rfl, show (⟨#[58]⟩ : ByteArray).size = 1 from rfl] at c9b2s; replace c9b2s := eq_false c9b2s)
      replace H := Option.bind_eq_some_iff.mp H; obtain ⟨t260, A100, H⟩ := H; (try dsimp only at H); have A10 := Aside0.mk A100; clear A100
      by_cases c11 : (((((t257 ++ (⟨#[124]⟩ : ByteArray)) ++ t258) ++ (⟨#[58]⟩ : ByteArray)) ++ t259) ++ (⟨#[47]⟩ : ByteArray)).size + t260.size ≤ 9223372036854775807
      ·rw [if_pos c11] at H
       have c11b0 := eq_true c11
       have c11b1 : decide ((((((t257 ++ (⟨#[124]⟩ : ByteArray)) ++ t258) ++ (⟨#[58]⟩ : ByteArray)) ++ t259) ++ (⟨#[47]⟩ : ByteArray)).size + t260.size ≤ 9223372036854775807) = true := decide_eq_true c11
       try have c11b2 : (9223372036854775807 < (((((t257 ++ (⟨#[124]⟩ : ByteArray)) ++ t258) ++ (⟨#[58]⟩ : ByteArray)) ++ t259) ++ (⟨#[47]⟩ : ByteArray)).size + t260.size) = False := eq_false (Nat.not_lt.2 c11)
       try (have c11b2s := Nat.not_lt.2 c11; simp only [ByteArray.size_append, show (⟨#[124]⟩ : ByteArray).size = 1 from rfl, show (⟨#[47]⟩ : ByteArray).size = 1 from rfl, show (⟨#[58]⟩ : ByteArray).size = 1 from rfl] at c11b2s; replace c11b2s := eq_false c11b2s)
       obtain rfl := Option.some.inj H
       go_enter Tryz.func40, Tryz.ntmps40
       try go_wp2_with (first | ((with_reducible refine gate_dst (N := 1) rfl ?_); refine zE 1 #[.int .i64 a0_0, .int .i64 a0_1, .int .i64 a0_2, .int .i64 a0_3] 25 ?_; intro gb256 hg w12 hbox hb; have BK256 := Aside0.mk (hbox); have GW256 := zg HB hg; have GE256 := GW256; replace HB := zh HB hb; clear hb hbox hg))
       replace BK256 := Aside0.mk (blk_drew BK256.out); replace HB := Aside0.mk (below_drew1 HB.out)
       refine start_ (n := 19) (S := fun w' => w'.cell? ⟨gb256, 0, none⟩ = some (.int .i64 a0_0) ∧ w'.cell? ⟨gb256, 1, none⟩ = some (.int .i64 a0_1) ∧ w'.cell? ⟨gb256, 2, none⟩ = some (.int .i64 a0_2) ∧ w'.cell? ⟨gb256, 3, none⟩ = some (.int .i64 a0_3)) (ds := []) #[false, false, false, false, false, false, false, false, false, false, false, false, false, false, false, false, false, false, false] (by kernel_rfl) rfl rfl ⟨(blk_cell BK256.out 0).trans rfl, (blk_cell BK256.out 1).trans rfl, (blk_cell BK256.out 2).trans rfl, (blk_cell BK256.out 3).trans rfl⟩ (fun hHeld => ?_); refine with_tabW spec_htText.tab1 spec_htText.bits1 (fun HT_ HW_ => ?_)
       generalize w12.drew = w13 at BK256 HB hHeld ⊢
       refine zA 0 3 HT_ ?_
       refine zA 4 7 HT_ ?_
       refine zA 9 12 HT_ ?_
       refine zA 14 17 HT_ ?_
       refine zT 1 4 HT_ HW_ hHeld ?_
       refine zT 5 8 HT_ HW_ hHeld ?_
       refine zT 10 13 HT_ HW_ hHeld ?_
       refine zT 15 18 HT_ HW_ hHeld ?_
       refine zO 2 (some 5) HT_ (fun K hK => ?_)
       refine goes_ Tryz.func59 (by kernel_rfl) rfl #[.int .i64 a0_0] (by rfl) rfl rfl zO1_1 ?_
       with_reducible refine (spec_l1Num.calls k a0_0 t257 _ A2.out).mono ?_
       rintro e w14 ⟨rfl, hb⟩
       refine ⟨_, rfl, ?_⟩
       replace BK256 := zb BK256 hb; replace HB := zh HB hb
       (try clear hb)
       (try clear hb2)
       (try clear hk)
       (try clear hi)
       refine hK.out _ _ ⟨(blk_cell BK256.out 0).trans rfl, (blk_cell BK256.out 1).trans rfl, (blk_cell BK256.out 2).trans rfl, (blk_cell BK256.out 3).trans rfl⟩ (fun hHeld => ?_)
       clear hK K
       refine zN 5 ?_
       refine zA 3 6 HT_ ?_
       refine zO 6 (some 9) HT_ (fun K hK => ?_)
       refine goes_ Tryz.func59 (by kernel_rfl) rfl #[.int .i64 a0_1] (by rfl) rfl rfl zO1_1 ?_
       with_reducible refine (spec_l1Num.calls k a0_1 t258 _ A4.out).mono ?_
       rintro e w15 ⟨rfl, hb⟩
       refine ⟨_, rfl, ?_⟩
       replace BK256 := zb BK256 hb; replace HB := zh HB hb
       (try clear hb)
       (try clear hb2)
       (try clear hk)
       (try clear hi)
       refine hK.out _ _ ⟨(blk_cell BK256.out 0).trans rfl, (blk_cell BK256.out 1).trans rfl, (blk_cell BK256.out 2).trans rfl, (blk_cell BK256.out 3).trans rfl⟩ (fun hHeld => ?_)
       clear hK K
       refine zN 9 ?_
       refine zA 7 10 HT_ ?_
       refine zA 8 11 HT_ ?_
       refine zO 11 (some 14) HT_ (fun K hK => ?_)
       refine goes_ Tryz.func59 (by kernel_rfl) rfl #[.int .i64 a0_2] (by rfl) rfl rfl zO1_1 ?_
       with_reducible refine (spec_l1Num.calls k a0_2 t259 _ A7.out).mono ?_
       rintro e w16 ⟨rfl, hb⟩
       refine ⟨_, rfl, ?_⟩
       replace BK256 := zb BK256 hb; replace HB := zh HB hb
       (try clear hb)
       (try clear hb2)
       (try clear hk)
       (try clear hi)
       refine hK.out _ _ ⟨(blk_cell BK256.out 0).trans rfl, (blk_cell BK256.out 1).trans rfl, (blk_cell BK256.out 2).trans rfl, (blk_cell BK256.out 3).trans rfl⟩ (fun hHeld => ?_)
       clear hK K
       refine zN 14 ?_
       refine zA 12 15 HT_ ?_
       refine zA 13 16 HT_ ?_
       refine zO 16 (some 19) HT_ (fun K hK => ?_)
       refine goes_ Tryz.func59 (by kernel_rfl) rfl #[.int .i64 a0_3] (by rfl) rfl rfl zO1_1 ?_
       with_reducible refine (spec_l1Num.calls k a0_3 t260 _ A10.out).mono ?_
       rintro e w17 ⟨rfl, hb⟩
       refine ⟨_, rfl, ?_⟩
       replace BK256 := zb BK256 hb; replace HB := zh HB hb
       (try clear hb)
       (try clear hb2)
       (try clear hk)
       (try clear hi)
       refine hK.out _ _ ⟨(blk_cell BK256.out 0).trans rfl, (blk_cell BK256.out 1).trans rfl, (blk_cell BK256.out 2).trans rfl, (blk_cell BK256.out 3).trans rfl⟩ (fun hHeld => ?_)
       clear hK K
       refine zN 19 ?_
       refine zA 17 20 HT_ ?_
       refine zA 18 2 HT_ ?_
       refine done_ (done_of HT_.out (by kernel_rfl)) ?_
       try go_wp2
       go_ret
       exact ⟨zt, zy HB⟩
      ·rw [if_neg c11] at H
       exact absurd H zO1_4
     ·rw [if_neg c9] at H
      exact absurd H zO1_4
    ·rw [if_neg c8] at H
     exact absurd H zO1_4
   ·rw [if_neg c6] at H
    exact absurd H zO1_4
  ·rw [if_neg c5] at H
   exact absurd H zO1_4
 ·rw [if_neg c3] at H
  exact absurd H zO1_4


/-! ### spec_IslandText: function 13 -/
def spec_IslandText.f (k : Nat) (a0_0 : Int) (a0_1 : Int) (a0_2 : Int) (a0_3 : Int) : Option (ByteArray × Bool) := (spec_htGood.f k a0_0 a0_1 a0_2 a0_3).bind fun t262 => (if t262 = true then ((spec_htText.f k a0_0 a0_1 a0_2 a0_3).bind fun t263 => (some (t263, true))) else (some ((⟨#[]⟩ : ByteArray), false)))
set_option maxHeartbeats 8000000 in
set_option maxRecDepth 100000 in
theorem spec_IslandText.calls (k : Nat) (a0_0 : Int) (a0_1 : Int) (a0_2 : Int) (a0_3 : Int) (r1 : ByteArray) (r2 : Bool) (w : World) (h : spec_IslandText.f k a0_0 a0_1 a0_2 a0_3 = some (r1, r2)) :
  Calls Tryz.prog 13 #[.agg #[.int .i64 a0_0, .int .i64 a0_1, .int .i64 a0_2, .int .i64 a0_3]] w fun e w' => e = .returned (.tuple #[.string r1, .bool r2]) ∧ Below w.heap.size w w' := by
 have hu25 := Tryz.underlying25
 have HB := Aside0.mk (Below.refl w.heap.size w)
 have H : ((spec_htGood.f k a0_0 a0_1 a0_2 a0_3).bind fun t262 => (if t262 = true then ((spec_htText.f k a0_0 a0_1 a0_2 a0_3).bind fun t263 => (some (t263, true))) else (some ((⟨#[]⟩ : ByteArray), false)))) = some (r1, r2) := h
 clear h; replace H := Option.bind_eq_some_iff.mp H; obtain ⟨t262, A20, H⟩ := H
 replace H : (if t262 = true then ((spec_htText.f k a0_0 a0_1 a0_2 a0_3).bind fun t263 => (some (t263, true))) else (some ((⟨#[]⟩ : ByteArray), false))) = some (r1, r2) := H
 have A2 := Aside0.mk A20; clear A20
 by_cases c3 : t262 = true
 ·subst c3
  rw [if_pos rfl] at H; replace H := Option.bind_eq_some_iff.mp H; obtain ⟨t263, A40, H⟩ := H
  replace H : (some (t263, true)) = some (r1, r2) := H
  have A4 := Aside0.mk A40; clear A40; simp only [Option.some.injEq, Prod.mk.injEq] at H; obtain ⟨rfl, rfl⟩ := H
  go_enter Tryz.func13, Tryz.ntmps13
  go_wp2_with (first | ((with_reducible refine gate_dst (N := 1) rfl ?_); refine zE 1 #[.int .i64 a0_0, .int .i64 a0_1, .int .i64 a0_2, .int .i64 a0_3] 25 ?_; intro gb261 hg w5 hbox hb; have BK261 := Aside0.mk (hbox); have GW261 := zg HB hg; have GE261 := GW261; replace HB := zh HB hb; clear hb hbox hg; obtain ⟨_, _, _, _, _, _, _, _⟩ := zc4 BK261) | ((with_reducible refine gate_callee (f := 35) rfl ?_); refine zG (some 5) Tryz.func35 #[.agg #[.int .i64 a0_0, .int .i64 a0_1, .int .i64 a0_2, .int .i64 a0_3]] ?_; (with_reducible refine (spec_htGood.calls k a0_0 a0_1 a0_2 a0_3 true _ A2.out).mono ?_); rintro e w7 ⟨rfl, hb⟩; refine ⟨_, rfl, ?_⟩; replace BK261 := zb BK261 hb; replace HB := zh HB hb; clear hb; obtain ⟨_, _, _, _, _, _, _, _⟩ := zc4 BK261) | ((with_reducible refine gate_callee (f := 40) rfl ?_); refine zG (some 8) Tryz.func40 #[.agg #[.int .i64 a0_0, .int .i64 a0_1, .int .i64 a0_2, .int .i64 a0_3]] ?_; (with_reducible refine (spec_htText.calls k a0_0 a0_1 a0_2 a0_3 t263 _ A4.out).mono ?_); rintro e w9 ⟨rfl, hb⟩; refine ⟨_, rfl, ?_⟩; replace BK261 := zb BK261 hb; replace HB := zh HB hb; clear hb))
  go_ret2
  exact ⟨zt, zy HB⟩
 ·replace c3 := Bool.eq_false_iff.mpr c3
  subst c3; rw [if_neg (show ¬ (false = true) by decide)] at H; simp only [Option.some.injEq, Prod.mk.injEq] at H; obtain ⟨rfl, rfl⟩ := H
  go_enter Tryz.func13, Tryz.ntmps13
  go_wp2_with (first | ((with_reducible refine gate_dst (N := 1) rfl ?_); refine zE 1 #[.int .i64 a0_0, .int .i64 a0_1, .int .i64 a0_2, .int .i64 a0_3] 25 ?_; intro gb261 hg w10 hbox hb; have BK261 := Aside0.mk (hbox); have GW261 := zg HB hg; have GE261 := GW261; replace HB := zh HB hb; clear hb hbox hg; obtain ⟨_, _, _, _, _, _, _, _⟩ := zc4 BK261) | ((with_reducible refine gate_callee (f := 35) rfl ?_); refine zG (some 5) Tryz.func35 #[.agg #[.int .i64 a0_0, .int .i64 a0_1, .int .i64 a0_2, .int .i64 a0_3]] ?_; (with_reducible refine (spec_htGood.calls k a0_0 a0_1 a0_2 a0_3 false _ A2.out).mono ?_); rintro e w12 ⟨rfl, hb⟩; refine ⟨_, rfl, ?_⟩; replace BK261 := zb BK261 hb; replace HB := zh HB hb; clear hb))
  go_ret2
  exact ⟨zt, zy HB⟩


/-! ### spec_IsIsland: function 15 -/
def spec_IsIsland.f (k : Nat) (a0_0 : Int) (a0_1 : Int) (a0_2 : Int) (a0_3 : Int) : Option (Bool) := (spec_htGood.f k a0_0 a0_1 a0_2 a0_3).bind fun t265 => (some t265)
set_option maxHeartbeats 8000000 in
set_option maxRecDepth 100000 in
theorem spec_IsIsland.calls (k : Nat) (a0_0 : Int) (a0_1 : Int) (a0_2 : Int) (a0_3 : Int) (r : Bool) (w : World) (h : spec_IsIsland.f k a0_0 a0_1 a0_2 a0_3 = some r) :
  Calls Tryz.prog 15 #[.agg #[.int .i64 a0_0, .int .i64 a0_1, .int .i64 a0_2, .int .i64 a0_3]] w fun e w' => e = .returned (.bool r) ∧ Below w.heap.size w w' := by
 have hu25 := Tryz.underlying25
 have HB := Aside0.mk (Below.refl w.heap.size w)
 have H : ((spec_htGood.f k a0_0 a0_1 a0_2 a0_3).bind fun t265 => (some t265)) = some r := h
 clear h; replace H := Option.bind_eq_some_iff.mp H; obtain ⟨t265, A20, H⟩ := H
 replace H : (some t265) = some r := H
 have A2 := Aside0.mk A20; clear A20
 obtain rfl := Option.some.inj H
 go_enter Tryz.func15, Tryz.ntmps15
 go_wp2_with (first | ((with_reducible refine gate_dst (N := 1) rfl ?_); refine zE 1 #[.int .i64 a0_0, .int .i64 a0_1, .int .i64 a0_2, .int .i64 a0_3] 25 ?_; intro gb264 hg w3 hbox hb; have BK264 := Aside0.mk (hbox); have GW264 := zg HB hg; have GE264 := GW264; replace HB := zh HB hb; clear hb hbox hg; obtain ⟨_, _, _, _, _, _, _, _⟩ := zc4 BK264) | ((with_reducible refine gate_callee (f := 35) rfl ?_); refine zG (some 4) Tryz.func35 #[.agg #[.int .i64 a0_0, .int .i64 a0_1, .int .i64 a0_2, .int .i64 a0_3]] ?_; (with_reducible refine (spec_htGood.calls k a0_0 a0_1 a0_2 a0_3 t265 _ A2.out).mono ?_); rintro e w5 ⟨rfl, hb⟩; refine ⟨_, rfl, ?_⟩; replace BK264 := zb BK264 hb; replace HB := zh HB hb; clear hb))
 go_ret
 exact ⟨zt, zy HB⟩


/-! ### laws_yLow: function 16 -/
mutual
def laws_yLow.j0 : Nat → Int → Int → Option (Bool)
 | 0, _, _ => none
 | k + 1, x5, x6 => laws_yLow.l0 k x5 x6
def laws_yLow.l0 : Nat → Int → Int → Option (Bool)
 | 0, _, _ => none
 | k + 1, x5, x6 => if x6 > 0 then (if x6 = 0 then (none) else (laws_yLow.l0 k x6 (Int.tmod x5 x6))) else (some (x5 == 1))
end
def laws_yLow.f (k : Nat) (a0 : Int) (a1 : Int) : Option (Bool) := if a1 < 1 then (some false) else (if a0 < 0 then (laws_yLow.j0 k (wrap64 (-a0)) a1) else (laws_yLow.j0 k a0 a1))
set_option maxHeartbeats 8000000 in
set_option maxRecDepth 100000 in
theorem laws_yLow.calls (k : Nat) (a0 : Int) (a1 : Int) (r : Bool) (w : World) (h : laws_yLow.f k a0 a1 = some r) :
  Calls Tryz.prog 16 #[.int .i64 a0, .int .i64 a1] w fun e w' => e = .returned (.bool r) ∧ Drawn0 w w' := by
 have H : (if a1 < 1 then (some false) else (if a0 < 0 then (laws_yLow.j0 k (wrap64 (-a0)) a1) else (laws_yLow.j0 k a0 a1))) = some r := h
 clear h
 by_cases c3 : a1 < 1
 ·rw [if_pos c3] at H
  have c3b0 : decide (a1 < 1) = true := decide_eq_true c3; clear c3
  obtain rfl := Option.some.inj H
  go_enter Tryz.func16, Tryz.ntmps16
  go_wp2
  repeat (go_quiet (fail); try go_wp2)
  go_ret
  exact ⟨by first | rfl | (simp; done) | (simp [*]; done), by repeat (first | exact Drawn0.refl _ | apply Drawn0.step)⟩
 ·rw [if_neg c3] at H
  have c3b0 : decide (a1 < 1) = false := decide_eq_false c3; clear c3; have HC4 := Aside0.mk H; clear H
  go_enter Tryz.func16, Tryz.ntmps16
  go_upto_if 12 with (fail)
  repeat (go_quiet (fail); go_upto_if 12 with (fail))
  go_cut [5] (fun v5 wc => ∃ (kq : Nat) (x5_3 : Int), v5 = .int .i64 x5_3 ∧ Aside0 (laws_yLow.j0 kq x5_3 a1 = some r) ∧ Aside0 (kq ≤ k) ∧ Drawn0 w wc)
  case first =>
   have H := HC4.out; clear HC4
   by_cases c5 : a0 < 0
   ·rw [if_pos c5] at H
    have c5b0 : decide (a0 < 0) = true := decide_eq_true c5; clear c5
    (first | rw [c5b0] | (simp only [i64_w, i32_w]; rw [c5b0]) | skip)
    have H' := Aside0.mk H; clear H
    go_wp2
    repeat (go_quiet (fail); try go_wp2)
    go_meet
    case rel => exact ⟨_, (wrap64 (-a0)), zu, H', ⟨by first | omega | exact Nat.le_refl _⟩, by repeat (first | exact Drawn0.refl _ | apply Drawn0.step)⟩
   ·rw [if_neg c5] at H
    have c5b0 : decide (a0 < 0) = false := decide_eq_false c5; clear c5
    (first | rw [c5b0] | (simp only [i64_w, i32_w]; rw [c5b0]) | skip)
    have H' := Aside0.mk H; clear H
    go_wp2
    repeat (go_quiet (fail); try go_wp2)
    go_meet
    case rel => exact ⟨_, (a0), zu, H', ⟨by first | omega | exact Nat.le_refl _⟩, by repeat (first | exact Drawn0.refl _ | apply Drawn0.step)⟩
  case rest =>
   clear HC4
   obtain ⟨kq, x5_3, rfl, HA, HJ3, ⟨mc3, rfl⟩⟩ := hcut
   cases kq with
   | zero => exact absurd HA.out (by simp [laws_yLow.j0])
   | succ kj3 =>
    have H := HA.out; clear HA; simp only [laws_yLow.j0] at H; have H' := Aside0.mk H; clear H
    go_wp2
    repeat (go_quiet (fail); try go_wp2)
    go_loopg [5, 6] kj3 (fun kq v5 v6 w' => ∃ (x5_2 : Int) (x6_2 : Int), v5 = .int .i64 x5_2 ∧ v6 = .int .i64 x6_2 ∧ Aside0 (laws_yLow.l0 kq x5_2 x6_2 = some r) ∧ Aside0 (kq ≤ kj3) ∧ Drawn0 w w')
    case atStart => exact ⟨(x5_3), (a1), zu, zu, H', ⟨Nat.le_refl _⟩, by repeat (first | exact Drawn0.refl _ | apply Drawn0.step)⟩
    case round =>
     clear H'
     obtain ⟨x5_2, x6_2, rfl, rfl, HA, HK2, ⟨m2, rfl⟩⟩ := hrel
     cases gk with
     | zero => exact absurd HA.out (by simp [laws_yLow.l0])
     | succ k2 =>
      have H := HA.out; clear HA; simp only [laws_yLow.l0] at H
      by_cases c6 : x6_2 > 0
      ·rw [if_pos c6] at H
       have c6b0 : decide (0 < x6_2) = true := decide_eq_true c6; clear c6
       by_cases c7 : x6_2 = 0
       ·rw [if_pos c7] at H
        exact absurd H zO1_4
       ·rw [if_neg c7] at H
        have c7b0 : (x6_2 == 0) = false := beq_eq_false_iff_ne.mpr c7
        have c7b1 : (x6_2 != 0) = true := bne_iff_ne.mpr c7
        have H' := Aside0.mk H; clear H
        go_wp2
        repeat (go_quiet (fail); try go_wp2)
        go_roundg k2
        case measure => have := HJ3.out; have := HK2.out; omega
        case rel => exact ⟨(x6_2), (Int.tmod x5_2 x6_2), zu, zu, H', ⟨by have := HJ3.out; have := HK2.out; omega⟩, by repeat (first | exact Drawn0.refl _ | apply Drawn0.step)⟩
      ·rw [if_neg c6] at H
       have c6b0 : decide (0 < x6_2) = false := decide_eq_false c6; clear c6
       obtain rfl := Option.some.inj H
       go_wp2
       repeat (go_quiet (fail); try go_wp2)
       go_ret
       exact ⟨by first | rfl | (simp; done) | (simp [*]; done), by repeat (first | exact Drawn0.refl _ | apply Drawn0.step)⟩


/-! ### impl_SecondStep: function 17 -/
def impl_SecondStep.f (k : Nat) (a0 : Int) (a1 : Int) (a2 : Int) (a3 : Int) : Option (Int × Int × Bool) := (impl_areStaffs.f (([a0] : List Int))).bind fun t269 => (if t269 = true then ((impl_areSteps.f (([a1, a2, a3] : List Int))).bind fun t273 => (if t273 = true then (if a3 ≤ a0 then (some (0, 0, false)) else ((impl_fraction.f k (wrap64 ((wrap64 (a2 * (wrap64 (a3 - a0)))) + (wrap64 (a0 * a1)))) (wrap64 (a3 - a0))).bind fun bt274 => (some (bt274.1, bt274.2.1, bt274.2.2)))) else (some (0, 0, false)))) else (some (0, 0, false)))
set_option maxHeartbeats 8000000 in
set_option maxRecDepth 100000 in
theorem impl_SecondStep.calls (k : Nat) (a0 : Int) (a1 : Int) (a2 : Int) (a3 : Int) (r1 : Int) (r2 : Int) (r3 : Bool) (w : World) (h : impl_SecondStep.f k a0 a1 a2 a3 = some (r1, r2, r3)) :
  Calls Tryz.prog 17 #[.int .i64 a0, .int .i64 a1, .int .i64 a2, .int .i64 a3] w fun e w' => e = .returned (.tuple #[.int .i64 r1, .int .i64 r2, .bool r3]) ∧ Below w.heap.size w w' := by
 have HB := Aside0.mk (Below.refl w.heap.size w)
 have H : ((impl_areStaffs.f (([a0] : List Int))).bind fun t269 => (if t269 = true then ((impl_areSteps.f (([a1, a2, a3] : List Int))).bind fun t273 => (if t273 = true then (if a3 ≤ a0 then (some (0, 0, false)) else ((impl_fraction.f k (wrap64 ((wrap64 (a2 * (wrap64 (a3 - a0)))) + (wrap64 (a0 * a1)))) (wrap64 (a3 - a0))).bind fun bt274 => (some (bt274.1, bt274.2.1, bt274.2.2)))) else (some (0, 0, false)))) else (some (0, 0, false)))) = some (r1, r2, r3) := h
 clear h
 obtain ⟨y266, hy266⟩ : ∃ y_ : List Int, y_ = (([a0] : List Int)) := ⟨_, rfl⟩
 replace H : ((impl_areStaffs.f y266).bind fun t269 => (if t269 = true then ((impl_areSteps.f (([a1, a2, a3] : List Int))).bind fun t273 => (if t273 = true then (if a3 ≤ a0 then (some (0, 0, false)) else ((impl_fraction.f k (wrap64 ((wrap64 (a2 * (wrap64 (a3 - a0)))) + (wrap64 (a0 * a1)))) (wrap64 (a3 - a0))).bind fun bt274 => (some (bt274.1, bt274.2.1, bt274.2.2)))) else (some (0, 0, false)))) else (some (0, 0, false)))) = some (r1, r2, r3) := by first | (rw [hy266]; with_reducible exact H) | (have H2_ := (Option.bind_some _ _).symm.trans H; rw [hy266]; with_reducible exact H2_) | (have H2_ := (Option.bind_some _ _).symm.trans H; with_reducible exact H2_) | with_reducible exact H | (rw [hy266]; exact H) | exact H
 have Ny266 := Aside0.mk hy266; clear hy266; replace H := Option.bind_eq_some_iff.mp H; obtain ⟨t269, A50, H⟩ := H; (try dsimp only at H); have A5 := Aside0.mk A50; clear A50
 by_cases c6 : t269 = true
 ·subst c6
  rw [if_pos rfl] at H
  obtain ⟨y270, hy270⟩ : ∃ y_ : List Int, y_ = (([a1, a2, a3] : List Int)) := ⟨_, rfl⟩
  replace H : ((impl_areSteps.f y270).bind fun t273 => (if t273 = true then (if a3 ≤ a0 then (some (0, 0, false)) else ((impl_fraction.f k (wrap64 ((wrap64 (a2 * (wrap64 (a3 - a0)))) + (wrap64 (a0 * a1)))) (wrap64 (a3 - a0))).bind fun bt274 => (some (bt274.1, bt274.2.1, bt274.2.2)))) else (some (0, 0, false)))) = some (r1, r2, r3) := by first | (rw [hy270]; with_reducible exact H) | (have H2_ := (Option.bind_some _ _).symm.trans H; rw [hy270]; with_reducible exact H2_) | (have H2_ := (Option.bind_some _ _).symm.trans H; with_reducible exact H2_) | with_reducible exact H | (rw [hy270]; exact H) | exact H
  have Ny270 := Aside0.mk hy270; clear hy270; replace H := Option.bind_eq_some_iff.mp H; obtain ⟨t273, A70, H⟩ := H; (try dsimp only at H); have A7 := Aside0.mk A70; clear A70
  by_cases c8 : t273 = true
  ·subst c8
   rw [if_pos rfl] at H
   by_cases c9 : a3 ≤ a0
   ·rw [if_pos c9] at H
    have c9b0 : decide (a3 ≤ a0) = true := decide_eq_true c9; clear c9; simp only [Option.some.injEq, Prod.mk.injEq] at H; obtain ⟨rfl, rfl, rfl⟩ := H
    go_enter Tryz.func17, Tryz.ntmps17
    go_wp2_with (first | ((with_reducible refine gate_dst (N := 12) rfl ?_); (try (refine gate_guard (by rfl) ?_; dsimp only)); refine Kd.R_lit (Kd.int .i64) _ 3 ?hg (N := 12) ?hd (xs := ([a0] : List Int)) (inner := [.int .i64 a0]) (ok := fun _ => True) (okp := fun _ => True) ?hr ?hp (fun _ hk => hk) trivial (Below.refl _ _) (Nat.le_refl _) zO1_4 ?_; (case hd => rfl); (case hg => rfl); (case hr => first | (go_simp; done) | (go_simp; rfl)); (case hp => exact (Reps.one (show Kd.M (Kd.int .i64) _ _ _ a0 [.int .i64 a0] from rfl) (Reps.none _ _))); intro v267 w10 ho11 hb hg_ hnew_; clear hg_ hnew_; (first | rw [← Ny266.out] at ho11 | (simp only [Int.reduceToNat] at ho11; rw [← Ny266.out] at ho11)); have HO268 := Aside0.mk (Kd.R_lower ho11 (below_size (zy HB))); replace HB := zh HB hb; clear hb ho11; obtain ⟨Ao12, co12, eo12⟩ := Kd.R_slice HO268.out; subst eo12) | ((with_reducible refine gate_callee (f := 41) rfl ?_); refine zG (some 13) Tryz.func41 #[.slice Ao12 y266.length co12] ?_; (with_reducible refine (impl_areStaffs.calls _ _ y266 true _ ?side1 ?side2 A5.out).mono ?_); (case side1 => repeat (first | exact (Kd.R_reads' HO268.out).2.2 | (with_reducible refine Kd.C_alloc ?_ _) | (with_reducible refine Kd.C_drewN ?_ _) | (with_reducible refine Kd.C_drew ?_))); (case side2 => exact (Kd.R_reads' HO268.out).2.1); rintro e w' ⟨rfl, ⟨nd, rfl⟩⟩; refine ⟨_, rfl, ?_⟩) | ((with_reducible refine gate_dst (N := 19) rfl ?_); (try (refine gate_guard (by rfl) ?_; dsimp only)); refine Kd.R_lit (Kd.int .i64) _ 3 ?hg (N := 19) ?hd (xs := ([a1, a2, a3] : List Int)) (inner := [.int .i64 a1, .int .i64 a2, .int .i64 a3]) (ok := fun _ => True) (okp := fun _ => True) ?hr ?hp (fun _ hk => hk) trivial (Below.refl _ _) (Nat.le_refl _) zO1_4 ?_; (case hd => rfl); (case hg => rfl); (case hr => first | (go_simp; done) | (go_simp; rfl)); (case hp => exact (Reps.one (show Kd.M (Kd.int .i64) _ _ _ a1 [.int .i64 a1] from rfl) (Reps.one (show Kd.M (Kd.int .i64) _ _ _ a2 [.int .i64 a2] from rfl) (Reps.one (show Kd.M (Kd.int .i64) _ _ _ a3 [.int .i64 a3] from rfl) (Reps.none _ _))))); intro v271 w13 ho14 hb hg_ hnew_; clear hg_ hnew_; (first | rw [← Ny270.out] at ho14 | (simp only [Int.reduceToNat] at ho14; rw [← Ny270.out] at ho14)); have n0_ := Aside0.mk (Kd.R_elder' (zs HO268) (Kd.R_base ho14) hb); have HO272 := Aside0.mk (Kd.R_lower (Kd.R_new' ho14 (Kd.R_lt (zs HO268))) (below_size (zy HB))); replace HB := zh HB hb; clear HO268; have HO268 := n0_; clear n0_; clear hb ho14; obtain ⟨Ao15, co15, eo15⟩ := Kd.R_slice HO272.out; subst eo15) | (go_at_call 42; (with_reducible refine (impl_areSteps.calls _ _ y270 true _ ?side1 ?side2 A7.out).mono ?_); (case side1 => repeat (first | exact (Kd.R_reads' HO272.out).2.2 | (with_reducible refine Kd.C_alloc ?_ _) | (with_reducible refine Kd.C_drewN ?_ _) | (with_reducible refine Kd.C_drew ?_))); (case side2 => exact (Kd.R_reads' HO272.out).2.1); rintro e w' ⟨rfl, ⟨nd, rfl⟩⟩))
    go_ret3
    exact ⟨zt, zy HB⟩
   ·rw [if_neg c9] at H
    have c9b0 : decide (a3 ≤ a0) = false := decide_eq_false c9; clear c9; replace H := Option.bind_eq_some_iff.mp H; obtain ⟨⟨t274, t275, t276⟩, A160, H⟩ := H
    replace H : (some (t274, t275, t276)) = some (r1, r2, r3) := H
    have A16 := Aside0.mk A160; clear A160; simp only [Option.some.injEq, Prod.mk.injEq] at H; obtain ⟨rfl, rfl, rfl⟩ := H
    go_enter Tryz.func17, Tryz.ntmps17
    go_wp2_with (first | ((with_reducible refine gate_dst (N := 12) rfl ?_); (try (refine gate_guard (by rfl) ?_; dsimp only)); refine Kd.R_lit (Kd.int .i64) _ 3 ?hg (N := 12) ?hd (xs := ([a0] : List Int)) (inner := [.int .i64 a0]) (ok := fun _ => True) (okp := fun _ => True) ?hr ?hp (fun _ hk => hk) trivial (Below.refl _ _) (Nat.le_refl _) zO1_4 ?_; (case hd => rfl); (case hg => rfl); (case hr => first | (go_simp; done) | (go_simp; rfl)); (case hp => exact (Reps.one (show Kd.M (Kd.int .i64) _ _ _ a0 [.int .i64 a0] from rfl) (Reps.none _ _))); intro v267 w17 ho18 hb hg_ hnew_; clear hg_ hnew_; (first | rw [← Ny266.out] at ho18 | (simp only [Int.reduceToNat] at ho18; rw [← Ny266.out] at ho18)); have HO268 := Aside0.mk (Kd.R_lower ho18 (below_size (zy HB))); replace HB := zh HB hb; clear hb ho18; obtain ⟨Ao19, co19, eo19⟩ := Kd.R_slice HO268.out; subst eo19) | ((with_reducible refine gate_callee (f := 41) rfl ?_); refine zG (some 13) Tryz.func41 #[.slice Ao19 y266.length co19] ?_; (with_reducible refine (impl_areStaffs.calls _ _ y266 true _ ?side1 ?side2 A5.out).mono ?_); (case side1 => repeat (first | exact (Kd.R_reads' HO268.out).2.2 | (with_reducible refine Kd.C_alloc ?_ _) | (with_reducible refine Kd.C_drewN ?_ _) | (with_reducible refine Kd.C_drew ?_))); (case side2 => exact (Kd.R_reads' HO268.out).2.1); rintro e w' ⟨rfl, ⟨nd, rfl⟩⟩; refine ⟨_, rfl, ?_⟩) | ((with_reducible refine gate_dst (N := 19) rfl ?_); (try (refine gate_guard (by rfl) ?_; dsimp only)); refine Kd.R_lit (Kd.int .i64) _ 3 ?hg (N := 19) ?hd (xs := ([a1, a2, a3] : List Int)) (inner := [.int .i64 a1, .int .i64 a2, .int .i64 a3]) (ok := fun _ => True) (okp := fun _ => True) ?hr ?hp (fun _ hk => hk) trivial (Below.refl _ _) (Nat.le_refl _) zO1_4 ?_; (case hd => rfl); (case hg => rfl); (case hr => first | (go_simp; done) | (go_simp; rfl)); (case hp => exact (Reps.one (show Kd.M (Kd.int .i64) _ _ _ a1 [.int .i64 a1] from rfl) (Reps.one (show Kd.M (Kd.int .i64) _ _ _ a2 [.int .i64 a2] from rfl) (Reps.one (show Kd.M (Kd.int .i64) _ _ _ a3 [.int .i64 a3] from rfl) (Reps.none _ _))))); intro v271 w20 ho21 hb hg_ hnew_; clear hg_ hnew_; (first | rw [← Ny270.out] at ho21 | (simp only [Int.reduceToNat] at ho21; rw [← Ny270.out] at ho21)); have n0_ := Aside0.mk (Kd.R_elder' (zs HO268) (Kd.R_base ho21) hb); have HO272 := Aside0.mk (Kd.R_lower (Kd.R_new' ho21 (Kd.R_lt (zs HO268))) (below_size (zy HB))); replace HB := zh HB hb; clear HO268; have HO268 := n0_; clear n0_; clear hb ho21; obtain ⟨Ao22, co22, eo22⟩ := Kd.R_slice HO272.out; subst eo22) | (go_at_call 42; (with_reducible refine (impl_areSteps.calls _ _ y270 true _ ?side1 ?side2 A7.out).mono ?_); (case side1 => repeat (first | exact (Kd.R_reads' HO272.out).2.2 | (with_reducible refine Kd.C_alloc ?_ _) | (with_reducible refine Kd.C_drewN ?_ _) | (with_reducible refine Kd.C_drew ?_))); (case side2 => exact (Kd.R_reads' HO272.out).2.1); rintro e w' ⟨rfl, ⟨nd, rfl⟩⟩) | ((with_reducible refine gate_callee (f := 34) rfl ?_); refine zG (some 40) Tryz.func34 #[.int .i64 (wrap64 ((wrap64 (a2 * (wrap64 (a3 - a0)))) + (wrap64 (a0 * a1)))), .int .i64 (wrap64 (a3 - a0))] ?_; (with_reducible refine (impl_fraction.calls k (wrap64 ((wrap64 (a2 * (wrap64 (a3 - a0)))) + (wrap64 (a0 * a1)))) (wrap64 (a3 - a0)) t274 t275 t276 _ A16.out).mono ?_); rintro e w23 ⟨rfl, hb⟩; refine ⟨_, rfl, ?_⟩; replace HO268 := zo HO268 hb; replace HO272 := zo HO272 hb; replace HB := zh HB hb; clear hb))
    go_ret3
    exact ⟨zt, zy HB⟩
  ·replace c8 := Bool.eq_false_iff.mpr c8
   subst c8; rw [if_neg (show ¬ (false = true) by decide)] at H; simp only [Option.some.injEq, Prod.mk.injEq] at H; obtain ⟨rfl, rfl, rfl⟩ := H
   go_enter Tryz.func17, Tryz.ntmps17
   go_wp2_with (first | ((with_reducible refine gate_dst (N := 12) rfl ?_); (try (refine gate_guard (by rfl) ?_; dsimp only)); refine Kd.R_lit (Kd.int .i64) _ 3 ?hg (N := 12) ?hd (xs := ([a0] : List Int)) (inner := [.int .i64 a0]) (ok := fun _ => True) (okp := fun _ => True) ?hr ?hp (fun _ hk => hk) trivial (Below.refl _ _) (Nat.le_refl _) zO1_4 ?_; (case hd => rfl); (case hg => rfl); (case hr => first | (go_simp; done) | (go_simp; rfl)); (case hp => exact (Reps.one (show Kd.M (Kd.int .i64) _ _ _ a0 [.int .i64 a0] from rfl) (Reps.none _ _))); intro v267 w24 ho25 hb hg_ hnew_; clear hg_ hnew_; (first | rw [← Ny266.out] at ho25 | (simp only [Int.reduceToNat] at ho25; rw [← Ny266.out] at ho25)); have HO268 := Aside0.mk (Kd.R_lower ho25 (below_size (zy HB))); replace HB := zh HB hb; clear hb ho25; obtain ⟨Ao26, co26, eo26⟩ := Kd.R_slice HO268.out; subst eo26) | ((with_reducible refine gate_callee (f := 41) rfl ?_); refine zG (some 13) Tryz.func41 #[.slice Ao26 y266.length co26] ?_; (with_reducible refine (impl_areStaffs.calls _ _ y266 true _ ?side1 ?side2 A5.out).mono ?_); (case side1 => repeat (first | exact (Kd.R_reads' HO268.out).2.2 | (with_reducible refine Kd.C_alloc ?_ _) | (with_reducible refine Kd.C_drewN ?_ _) | (with_reducible refine Kd.C_drew ?_))); (case side2 => exact (Kd.R_reads' HO268.out).2.1); rintro e w' ⟨rfl, ⟨nd, rfl⟩⟩; refine ⟨_, rfl, ?_⟩) | ((with_reducible refine gate_dst (N := 19) rfl ?_); (try (refine gate_guard (by rfl) ?_; dsimp only)); refine Kd.R_lit (Kd.int .i64) _ 3 ?hg (N := 19) ?hd (xs := ([a1, a2, a3] : List Int)) (inner := [.int .i64 a1, .int .i64 a2, .int .i64 a3]) (ok := fun _ => True) (okp := fun _ => True) ?hr ?hp (fun _ hk => hk) trivial (Below.refl _ _) (Nat.le_refl _) zO1_4 ?_; (case hd => rfl); (case hg => rfl); (case hr => first | (go_simp; done) | (go_simp; rfl)); (case hp => exact (Reps.one (show Kd.M (Kd.int .i64) _ _ _ a1 [.int .i64 a1] from rfl) (Reps.one (show Kd.M (Kd.int .i64) _ _ _ a2 [.int .i64 a2] from rfl) (Reps.one (show Kd.M (Kd.int .i64) _ _ _ a3 [.int .i64 a3] from rfl) (Reps.none _ _))))); intro v271 w27 ho28 hb hg_ hnew_; clear hg_ hnew_; (first | rw [← Ny270.out] at ho28 | (simp only [Int.reduceToNat] at ho28; rw [← Ny270.out] at ho28)); have n0_ := Aside0.mk (Kd.R_elder' (zs HO268) (Kd.R_base ho28) hb); have HO272 := Aside0.mk (Kd.R_lower (Kd.R_new' ho28 (Kd.R_lt (zs HO268))) (below_size (zy HB))); replace HB := zh HB hb; clear HO268; have HO268 := n0_; clear n0_; clear hb ho28; obtain ⟨Ao29, co29, eo29⟩ := Kd.R_slice HO272.out; subst eo29) | (go_at_call 42; (with_reducible refine (impl_areSteps.calls _ _ y270 false _ ?side1 ?side2 A7.out).mono ?_); (case side1 => repeat (first | exact (Kd.R_reads' HO272.out).2.2 | (with_reducible refine Kd.C_alloc ?_ _) | (with_reducible refine Kd.C_drewN ?_ _) | (with_reducible refine Kd.C_drew ?_))); (case side2 => exact (Kd.R_reads' HO272.out).2.1); rintro e w' ⟨rfl, ⟨nd, rfl⟩⟩))
   go_ret3
   exact ⟨zt, zy HB⟩
 ·replace c6 := Bool.eq_false_iff.mpr c6
  subst c6; rw [if_neg (show ¬ (false = true) by decide)] at H; simp only [Option.some.injEq, Prod.mk.injEq] at H; obtain ⟨rfl, rfl, rfl⟩ := H
  go_enter Tryz.func17, Tryz.ntmps17
  go_wp2_with (first | ((with_reducible refine gate_dst (N := 12) rfl ?_); (try (refine gate_guard (by rfl) ?_; dsimp only)); refine Kd.R_lit (Kd.int .i64) _ 3 ?hg (N := 12) ?hd (xs := ([a0] : List Int)) (inner := [.int .i64 a0]) (ok := fun _ => True) (okp := fun _ => True) ?hr ?hp (fun _ hk => hk) trivial (Below.refl _ _) (Nat.le_refl _) zO1_4 ?_; (case hd => rfl); (case hg => rfl); (case hr => first | (go_simp; done) | (go_simp; rfl)); (case hp => exact (Reps.one (show Kd.M (Kd.int .i64) _ _ _ a0 [.int .i64 a0] from rfl) (Reps.none _ _))); intro v267 w30 ho31 hb hg_ hnew_; clear hg_ hnew_; (first | rw [← Ny266.out] at ho31 | (simp only [Int.reduceToNat] at ho31; rw [← Ny266.out] at ho31)); have HO268 := Aside0.mk (Kd.R_lower ho31 (below_size (zy HB))); replace HB := zh HB hb; clear hb ho31; obtain ⟨Ao32, co32, eo32⟩ := Kd.R_slice HO268.out; subst eo32) | ((with_reducible refine gate_callee (f := 41) rfl ?_); refine zG (some 13) Tryz.func41 #[.slice Ao32 y266.length co32] ?_; (with_reducible refine (impl_areStaffs.calls _ _ y266 false _ ?side1 ?side2 A5.out).mono ?_); (case side1 => repeat (first | exact (Kd.R_reads' HO268.out).2.2 | (with_reducible refine Kd.C_alloc ?_ _) | (with_reducible refine Kd.C_drewN ?_ _) | (with_reducible refine Kd.C_drew ?_))); (case side2 => exact (Kd.R_reads' HO268.out).2.1); rintro e w' ⟨rfl, ⟨nd, rfl⟩⟩; refine ⟨_, rfl, ?_⟩))
  go_ret3
  exact ⟨zt, zy HB⟩


/-! ### laws_yIs: function 18 -/
def laws_yIs.f (k : Nat) (a0 : Int) (a1 : Int) (a2 : Int) (a3 : Int) : Option (Bool) := (laws_yLow.f k a0 a1).bind fun t277 => (if t277 = true then (some ((wrap64 (a0 * a3)) == (wrap64 (a2 * a1)))) else (some false))
set_option maxHeartbeats 8000000 in
set_option maxRecDepth 100000 in
theorem laws_yIs.calls (k : Nat) (a0 : Int) (a1 : Int) (a2 : Int) (a3 : Int) (r : Bool) (w : World) (h : laws_yIs.f k a0 a1 a2 a3 = some r) :
  Calls Tryz.prog 18 #[.int .i64 a0, .int .i64 a1, .int .i64 a2, .int .i64 a3] w fun e w' => e = .returned (.bool r) ∧ Drawn0 w w' := by
 have H : ((laws_yLow.f k a0 a1).bind fun t277 => (if t277 = true then (some ((wrap64 (a0 * a3)) == (wrap64 (a2 * a1)))) else (some false))) = some r := h
 clear h; replace H := Option.bind_eq_some_iff.mp H; obtain ⟨t277, A50, H⟩ := H
 replace H : (if t277 = true then (some ((wrap64 (a0 * a3)) == (wrap64 (a2 * a1)))) else (some false)) = some r := H
 have A5 := Aside0.mk A50; clear A50
 by_cases c6 : t277 = true
 ·subst c6
  rw [if_pos rfl] at H
  obtain rfl := Option.some.inj H
  go_enter Tryz.func18, Tryz.ntmps18
  go_wp2_with (first | ((with_reducible refine gate_callee (f := 16) rfl ?_); refine zG (some 11) Tryz.func16 #[.int .i64 a0, .int .i64 a1] ?_; (with_reducible refine (laws_yLow.calls k a0 a1 true _ A5.out).mono ?_); rintro e w' ⟨rfl, ⟨nd, rfl⟩⟩; refine ⟨_, rfl, ?_⟩))
  go_ret
  exact ⟨by first | rfl | (simp; done) | (simp [*]; done), by repeat (first | exact Drawn0.refl _ | apply Drawn0.step)⟩
 ·replace c6 := Bool.eq_false_iff.mpr c6
  subst c6; rw [if_neg (show ¬ (false = true) by decide)] at H
  obtain rfl := Option.some.inj H
  go_enter Tryz.func18, Tryz.ntmps18
  go_wp2_with (first | ((with_reducible refine gate_callee (f := 16) rfl ?_); refine zG (some 11) Tryz.func16 #[.int .i64 a0, .int .i64 a1] ?_; (with_reducible refine (laws_yLow.calls k a0 a1 false _ A5.out).mono ?_); rintro e w' ⟨rfl, ⟨nd, rfl⟩⟩; refine ⟨_, rfl, ?_⟩))
  go_ret
  exact ⟨by first | rfl | (simp; done) | (simp [*]; done), by repeat (first | exact Drawn0.refl _ | apply Drawn0.step)⟩


/-! ### impl_StepsForIsland: function 19 -/
def impl_StepsForIsland.j0 : Nat → Int → Int → Int → Int → Bool → Option (Int × Int × Int × Int × Bool)
 | 0, _, _, _, _, _ => none
 | k + 1, x0, x1, x2, x3, x35 => if x35 = true then (some (0, 0, 0, 0, false)) else ((impl_fraction.f k (wrap64 (x0 * x3)) (wrap64 (x2 - x0))).bind fun bt286 => ((impl_fraction.f k (wrap64 (x0 * (wrap64 (x3 + x1)))) (wrap64 (x2 - x0))).bind fun bt289 => (some (bt286.1, bt286.2.1, bt289.1, bt289.2.1, true))))
def impl_StepsForIsland.f (k : Nat) (a0 : Int) (a1 : Int) (a2 : Int) (a3 : Int) : Option (Int × Int × Int × Int × Bool) := (impl_areStaffs.f (([a0] : List Int))).bind fun t281 => (if t281 = true then ((impl_areSteps.f (([a1, a2, a3] : List Int))).bind fun t285 => (if t285 = true then (impl_StepsForIsland.j0 k a0 a1 a2 a3 (decide (a2 ≤ a0))) else (impl_StepsForIsland.j0 k a0 a1 a2 a3 true))) else (impl_StepsForIsland.j0 k a0 a1 a2 a3 true))
set_option maxHeartbeats 8000000 in
set_option maxRecDepth 100000 in
theorem impl_StepsForIsland.calls (k : Nat) (a0 : Int) (a1 : Int) (a2 : Int) (a3 : Int) (r1 : Int) (r2 : Int) (r3 : Int) (r4 : Int) (r5 : Bool) (w : World) (h : impl_StepsForIsland.f k a0 a1 a2 a3 = some (r1, r2, r3, r4, r5)) :
  Calls Tryz.prog 19 #[.int .i64 a0, .int .i64 a1, .int .i64 a2, .int .i64 a3] w fun e w' => e = .returned (.tuple #[.int .i64 r1, .int .i64 r2, .int .i64 r3, .int .i64 r4, .bool r5]) ∧ Below w.heap.size w w' := by
 have HB := Aside0.mk (Below.refl w.heap.size w)
 have H : ((impl_areStaffs.f (([a0] : List Int))).bind fun t281 => (if t281 = true then ((impl_areSteps.f (([a1, a2, a3] : List Int))).bind fun t285 => (if t285 = true then (impl_StepsForIsland.j0 k a0 a1 a2 a3 (decide (a2 ≤ a0))) else (impl_StepsForIsland.j0 k a0 a1 a2 a3 true))) else (impl_StepsForIsland.j0 k a0 a1 a2 a3 true))) = some (r1, r2, r3, r4, r5) := h
 clear h; have HC5 := Aside0.mk H; clear H
 go_enter Tryz.func19, Tryz.ntmps19
 go_upto_region 1 with (fail)
 go_cut [35] (fun v35 wc => ∃ (kq : Nat) (x35_4 : Bool), v35 = .bool x35_4 ∧ Aside0 (impl_StepsForIsland.j0 kq a0 a1 a2 a3 x35_4 = some (r1, r2, r3, r4, r5)) ∧ Aside0 (kq ≤ k) ∧ Aside0 (Below w.heap.size w wc))
 case first =>
  have H := HC5.out; clear HC5
  obtain ⟨y278, hy278⟩ : ∃ y_ : List Int, y_ = (([a0] : List Int)) := ⟨_, rfl⟩
  replace H : ((impl_areStaffs.f y278).bind fun t281 => (if t281 = true then ((impl_areSteps.f (([a1, a2, a3] : List Int))).bind fun t285 => (if t285 = true then (impl_StepsForIsland.j0 k a0 a1 a2 a3 (decide (a2 ≤ a0))) else (impl_StepsForIsland.j0 k a0 a1 a2 a3 true))) else (impl_StepsForIsland.j0 k a0 a1 a2 a3 true))) = some (r1, r2, r3, r4, r5) := by first | (rw [hy278]; with_reducible exact H) | (have H2_ := (Option.bind_some _ _).symm.trans H; rw [hy278]; with_reducible exact H2_) | (have H2_ := (Option.bind_some _ _).symm.trans H; with_reducible exact H2_) | with_reducible exact H | (rw [hy278]; exact H) | exact H
  have Ny278 := Aside0.mk hy278; clear hy278; replace H := Option.bind_eq_some_iff.mp H; obtain ⟨t281, A60, H⟩ := H; (try dsimp only at H); have A6 := Aside0.mk A60; clear A60
  by_cases c7 : t281 = true
  ·subst c7
   rw [if_pos rfl] at H
   obtain ⟨y282, hy282⟩ : ∃ y_ : List Int, y_ = (([a1, a2, a3] : List Int)) := ⟨_, rfl⟩
   replace H : ((impl_areSteps.f y282).bind fun t285 => (if t285 = true then (impl_StepsForIsland.j0 k a0 a1 a2 a3 (decide (a2 ≤ a0))) else (impl_StepsForIsland.j0 k a0 a1 a2 a3 true))) = some (r1, r2, r3, r4, r5) := by first | (rw [hy282]; with_reducible exact H) | (have H2_ := (Option.bind_some _ _).symm.trans H; rw [hy282]; with_reducible exact H2_) | (have H2_ := (Option.bind_some _ _).symm.trans H; with_reducible exact H2_) | with_reducible exact H | (rw [hy282]; exact H) | exact H
   have Ny282 := Aside0.mk hy282; clear hy282; replace H := Option.bind_eq_some_iff.mp H; obtain ⟨t285, A80, H⟩ := H
   replace H : (if t285 = true then (impl_StepsForIsland.j0 k a0 a1 a2 a3 (decide (a2 ≤ a0))) else (impl_StepsForIsland.j0 k a0 a1 a2 a3 true)) = some (r1, r2, r3, r4, r5) := H
   have A8 := Aside0.mk A80; clear A80
   by_cases c9 : t285 = true
   ·subst c9
    rw [if_pos rfl] at H; have H' := Aside0.mk H; clear H
    go_wp2_with (first | ((with_reducible refine gate_dst (N := 20) rfl ?_); (try (refine gate_guard (by rfl) ?_; dsimp only)); refine Kd.R_lit (Kd.int .i64) _ 3 ?hg (N := 20) ?hd (xs := ([a0] : List Int)) (inner := [.int .i64 a0]) (ok := fun _ => True) (okp := fun _ => True) ?hr ?hp (fun _ hk => hk) trivial (Below.refl _ _) (Nat.le_refl _) zO1_4 ?_; (case hd => rfl); (case hg => rfl); (case hr => first | (go_simp; done) | (go_simp; rfl)); (case hp => exact (Reps.one (show Kd.M (Kd.int .i64) _ _ _ a0 [.int .i64 a0] from rfl) (Reps.none _ _))); intro v279 w10 ho11 hb hg_ hnew_; clear hg_ hnew_; (first | rw [← Ny278.out] at ho11 | (simp only [Int.reduceToNat] at ho11; rw [← Ny278.out] at ho11)); have HO280 := Aside0.mk (Kd.R_lower ho11 (below_size (zy HB))); replace HB := zh HB hb; clear hb ho11; obtain ⟨Ao12, co12, eo12⟩ := Kd.R_slice HO280.out; subst eo12) | ((with_reducible refine gate_callee (f := 41) rfl ?_); refine zG (some 21) Tryz.func41 #[.slice Ao12 y278.length co12] ?_; (with_reducible refine (impl_areStaffs.calls _ _ y278 true _ ?side1 ?side2 A6.out).mono ?_); (case side1 => repeat (first | exact (Kd.R_reads' HO280.out).2.2 | (with_reducible refine Kd.C_alloc ?_ _) | (with_reducible refine Kd.C_drewN ?_ _) | (with_reducible refine Kd.C_drew ?_))); (case side2 => exact (Kd.R_reads' HO280.out).2.1); rintro e w' ⟨rfl, ⟨nd, rfl⟩⟩; refine ⟨_, rfl, ?_⟩) | ((with_reducible refine gate_dst (N := 27) rfl ?_); (try (refine gate_guard (by rfl) ?_; dsimp only)); refine Kd.R_lit (Kd.int .i64) _ 3 ?hg (N := 27) ?hd (xs := ([a1, a2, a3] : List Int)) (inner := [.int .i64 a1, .int .i64 a2, .int .i64 a3]) (ok := fun _ => True) (okp := fun _ => True) ?hr ?hp (fun _ hk => hk) trivial (Below.refl _ _) (Nat.le_refl _) zO1_4 ?_; (case hd => rfl); (case hg => rfl); (case hr => first | (go_simp; done) | (go_simp; rfl)); (case hp => exact (Reps.one (show Kd.M (Kd.int .i64) _ _ _ a1 [.int .i64 a1] from rfl) (Reps.one (show Kd.M (Kd.int .i64) _ _ _ a2 [.int .i64 a2] from rfl) (Reps.one (show Kd.M (Kd.int .i64) _ _ _ a3 [.int .i64 a3] from rfl) (Reps.none _ _))))); intro v283 w13 ho14 hb hg_ hnew_; clear hg_ hnew_; (first | rw [← Ny282.out] at ho14 | (simp only [Int.reduceToNat] at ho14; rw [← Ny282.out] at ho14)); have n0_ := Aside0.mk (Kd.R_elder' (zs HO280) (Kd.R_base ho14) hb); have HO284 := Aside0.mk (Kd.R_lower (Kd.R_new' ho14 (Kd.R_lt (zs HO280))) (below_size (zy HB))); replace HB := zh HB hb; clear HO280; have HO280 := n0_; clear n0_; clear hb ho14; obtain ⟨Ao15, co15, eo15⟩ := Kd.R_slice HO284.out; subst eo15) | (go_at_call 42; (with_reducible refine (impl_areSteps.calls _ _ y282 true _ ?side1 ?side2 A8.out).mono ?_); (case side1 => repeat (first | exact (Kd.R_reads' HO284.out).2.2 | (with_reducible refine Kd.C_alloc ?_ _) | (with_reducible refine Kd.C_drewN ?_ _) | (with_reducible refine Kd.C_drew ?_))); (case side2 => exact (Kd.R_reads' HO284.out).2.1); rintro e w' ⟨rfl, ⟨nd, rfl⟩⟩))
    go_meet
    case rel => exact ⟨_, (decide (a2 ≤ a0)), zu, H', ⟨by first | omega | exact Nat.le_refl _⟩, ⟨zy HB⟩⟩
   ·replace c9 := Bool.eq_false_iff.mpr c9
    subst c9; rw [if_neg (show ¬ (false = true) by decide)] at H; have H' := Aside0.mk H; clear H
    go_wp2_with (first | ((with_reducible refine gate_dst (N := 20) rfl ?_); (try (refine gate_guard (by rfl) ?_; dsimp only)); refine Kd.R_lit (Kd.int .i64) _ 3 ?hg (N := 20) ?hd (xs := ([a0] : List Int)) (inner := [.int .i64 a0]) (ok := fun _ => True) (okp := fun _ => True) ?hr ?hp (fun _ hk => hk) trivial (Below.refl _ _) (Nat.le_refl _) zO1_4 ?_; (case hd => rfl); (case hg => rfl); (case hr => first | (go_simp; done) | (go_simp; rfl)); (case hp => exact (Reps.one (show Kd.M (Kd.int .i64) _ _ _ a0 [.int .i64 a0] from rfl) (Reps.none _ _))); intro v279 w16 ho17 hb hg_ hnew_; clear hg_ hnew_; (first | rw [← Ny278.out] at ho17 | (simp only [Int.reduceToNat] at ho17; rw [← Ny278.out] at ho17)); have HO280 := Aside0.mk (Kd.R_lower ho17 (below_size (zy HB))); replace HB := zh HB hb; clear hb ho17; obtain ⟨Ao18, co18, eo18⟩ := Kd.R_slice HO280.out; subst eo18) | ((with_reducible refine gate_callee (f := 41) rfl ?_); refine zG (some 21) Tryz.func41 #[.slice Ao18 y278.length co18] ?_; (with_reducible refine (impl_areStaffs.calls _ _ y278 true _ ?side1 ?side2 A6.out).mono ?_); (case side1 => repeat (first | exact (Kd.R_reads' HO280.out).2.2 | (with_reducible refine Kd.C_alloc ?_ _) | (with_reducible refine Kd.C_drewN ?_ _) | (with_reducible refine Kd.C_drew ?_))); (case side2 => exact (Kd.R_reads' HO280.out).2.1); rintro e w' ⟨rfl, ⟨nd, rfl⟩⟩; refine ⟨_, rfl, ?_⟩) | ((with_reducible refine gate_dst (N := 27) rfl ?_); (try (refine gate_guard (by rfl) ?_; dsimp only)); refine Kd.R_lit (Kd.int .i64) _ 3 ?hg (N := 27) ?hd (xs := ([a1, a2, a3] : List Int)) (inner := [.int .i64 a1, .int .i64 a2, .int .i64 a3]) (ok := fun _ => True) (okp := fun _ => True) ?hr ?hp (fun _ hk => hk) trivial (Below.refl _ _) (Nat.le_refl _) zO1_4 ?_; (case hd => rfl); (case hg => rfl); (case hr => first | (go_simp; done) | (go_simp; rfl)); (case hp => exact (Reps.one (show Kd.M (Kd.int .i64) _ _ _ a1 [.int .i64 a1] from rfl) (Reps.one (show Kd.M (Kd.int .i64) _ _ _ a2 [.int .i64 a2] from rfl) (Reps.one (show Kd.M (Kd.int .i64) _ _ _ a3 [.int .i64 a3] from rfl) (Reps.none _ _))))); intro v283 w19 ho20 hb hg_ hnew_; clear hg_ hnew_; (first | rw [← Ny282.out] at ho20 | (simp only [Int.reduceToNat] at ho20; rw [← Ny282.out] at ho20)); have n0_ := Aside0.mk (Kd.R_elder' (zs HO280) (Kd.R_base ho20) hb); have HO284 := Aside0.mk (Kd.R_lower (Kd.R_new' ho20 (Kd.R_lt (zs HO280))) (below_size (zy HB))); replace HB := zh HB hb; clear HO280; have HO280 := n0_; clear n0_; clear hb ho20; obtain ⟨Ao21, co21, eo21⟩ := Kd.R_slice HO284.out; subst eo21) | (go_at_call 42; (with_reducible refine (impl_areSteps.calls _ _ y282 false _ ?side1 ?side2 A8.out).mono ?_); (case side1 => repeat (first | exact (Kd.R_reads' HO284.out).2.2 | (with_reducible refine Kd.C_alloc ?_ _) | (with_reducible refine Kd.C_drewN ?_ _) | (with_reducible refine Kd.C_drew ?_))); (case side2 => exact (Kd.R_reads' HO284.out).2.1); rintro e w' ⟨rfl, ⟨nd, rfl⟩⟩))
    go_meet
    case rel => exact ⟨_, (true), zu, H', ⟨by first | omega | exact Nat.le_refl _⟩, ⟨zy HB⟩⟩
  ·replace c7 := Bool.eq_false_iff.mpr c7
   subst c7; rw [if_neg (show ¬ (false = true) by decide)] at H; have H' := Aside0.mk H; clear H
   go_wp2_with (first | ((with_reducible refine gate_dst (N := 20) rfl ?_); (try (refine gate_guard (by rfl) ?_; dsimp only)); refine Kd.R_lit (Kd.int .i64) _ 3 ?hg (N := 20) ?hd (xs := ([a0] : List Int)) (inner := [.int .i64 a0]) (ok := fun _ => True) (okp := fun _ => True) ?hr ?hp (fun _ hk => hk) trivial (Below.refl _ _) (Nat.le_refl _) zO1_4 ?_; (case hd => rfl); (case hg => rfl); (case hr => first | (go_simp; done) | (go_simp; rfl)); (case hp => exact (Reps.one (show Kd.M (Kd.int .i64) _ _ _ a0 [.int .i64 a0] from rfl) (Reps.none _ _))); intro v279 w22 ho23 hb hg_ hnew_; clear hg_ hnew_; (first | rw [← Ny278.out] at ho23 | (simp only [Int.reduceToNat] at ho23; rw [← Ny278.out] at ho23)); have HO280 := Aside0.mk (Kd.R_lower ho23 (below_size (zy HB))); replace HB := zh HB hb; clear hb ho23; obtain ⟨Ao24, co24, eo24⟩ := Kd.R_slice HO280.out; subst eo24) | ((with_reducible refine gate_callee (f := 41) rfl ?_); refine zG (some 21) Tryz.func41 #[.slice Ao24 y278.length co24] ?_; (with_reducible refine (impl_areStaffs.calls _ _ y278 false _ ?side1 ?side2 A6.out).mono ?_); (case side1 => repeat (first | exact (Kd.R_reads' HO280.out).2.2 | (with_reducible refine Kd.C_alloc ?_ _) | (with_reducible refine Kd.C_drewN ?_ _) | (with_reducible refine Kd.C_drew ?_))); (case side2 => exact (Kd.R_reads' HO280.out).2.1); rintro e w' ⟨rfl, ⟨nd, rfl⟩⟩; refine ⟨_, rfl, ?_⟩))
   go_meet
   case rel => exact ⟨_, (true), zu, H', ⟨by first | omega | exact Nat.le_refl _⟩, ⟨zy HB⟩⟩
 case rest =>
  clear HC5
  obtain ⟨kq, x35_4, rfl, HA, HJ4, HB⟩ := hcut
  cases kq with
  | zero => exact absurd HA.out (by simp [impl_StepsForIsland.j0])
  | succ kj4 =>
   have H := HA.out; clear HA; simp only [impl_StepsForIsland.j0] at H
   by_cases c25 : x35_4 = true
   ·subst c25
    rw [if_pos rfl] at H; simp only [Option.some.injEq, Prod.mk.injEq] at H; obtain ⟨rfl, rfl, rfl, rfl, rfl⟩ := H
    go_wp2
    refine bodyPost_ret (results_list (rs := [.tmp 8, .tmp 9, .tmp 10, .tmp 11, .tmp 12]) rfl zO1_4 (.tmp (.tmp (.tmp (.tmp (.tmp .nil)))))) rfl ?_
    exact ⟨zt, zy HB⟩
   ·replace c25 := Bool.eq_false_iff.mpr c25
    subst c25; rw [if_neg (show ¬ (false = true) by decide)] at H; replace H := Option.bind_eq_some_iff.mp H; obtain ⟨⟨t286, t287, t288⟩, A260, H⟩ := H; (try dsimp only at H); have A26 := Aside0.mk A260; clear A260; replace H := Option.bind_eq_some_iff.mp H; obtain ⟨⟨t289, t290, t291⟩, A270, H⟩ := H
    replace H : (some (t286, t287, t289, t290, true)) = some (r1, r2, r3, r4, r5) := H
    have A27 := Aside0.mk A270; clear A270; simp only [Option.some.injEq, Prod.mk.injEq] at H; obtain ⟨rfl, rfl, rfl, rfl, rfl⟩ := H
    go_wp2_with (first | ((with_reducible refine gate_callee (f := 34) rfl ?_); refine zG (some 43) Tryz.func34 #[.int .i64 (wrap64 (a0 * a3)), .int .i64 (wrap64 (a2 - a0))] ?_; (with_reducible refine (impl_fraction.calls kj4 (wrap64 (a0 * a3)) (wrap64 (a2 - a0)) t286 t287 t288 _ A26.out).mono ?_); rintro e w28 ⟨rfl, hb⟩; refine ⟨_, rfl, ?_⟩; replace HB := zh HB hb; clear hb) | ((with_reducible refine gate_callee (f := 34) rfl ?_); refine zG (some 56) Tryz.func34 #[.int .i64 (wrap64 (a0 * (wrap64 (a3 + a1)))), .int .i64 (wrap64 (a2 - a0))] ?_; (with_reducible refine (impl_fraction.calls kj4 (wrap64 (a0 * (wrap64 (a3 + a1)))) (wrap64 (a2 - a0)) t289 t290 t291 _ A27.out).mono ?_); rintro e w29 ⟨rfl, hb⟩; refine ⟨_, rfl, ?_⟩; replace HB := zh HB hb; clear hb))
    refine bodyPost_ret (results_list (rs := [.tmp 8, .tmp 9, .tmp 10, .tmp 11, .tmp 12]) rfl zO1_4 (.tmp (.tmp (.tmp (.tmp (.tmp .nil)))))) rfl ?_
    exact ⟨zt, zy HB⟩


/-! ### strings_Cut: function 43 -/
/-- What the start-up code lays, all of it that these walks ask: the powers of ten, MaxLen, the two errors. -/
def LaidQ (w : World) : Prop := LaidP w ∧ (∃ m, w.cell? ⟨(Tryz.prog.globalNamed "internal/bytealg.MaxLen").getD 0, 0, none⟩ = some (.int .i64 m)) ∧ (∃ tp p, w.var? Tryz.prog "strconv.ErrSyntax" = some #[.iface tp p]) ∧ (∃ tp p, w.var? Tryz.prog "strconv.ErrRange" = some #[.iface tp p])
theorem var_below {w w' : World} {n : String} {cs : Array Value} (h : w.var? Tryz.prog n = some cs) (hb : Below w.heap.size w w') : w'.var? Tryz.prog n = some cs := by
 unfold World.var? at h ⊢
 cases hg : Tryz.prog.globalNamed n with
 | none => rw [hg] at h; simp at h
 | some g =>
  rw [hg] at h
  simp only [Option.bind_some] at h ⊢
  have hlt : g < w.heap.size := by
   rcases Nat.lt_or_ge g w.heap.size with h' | h'
   ·exact h'
   ·rw [Array.getElem?_eq_none h'] at h; cases h
  rw [hb.block g hlt]
  exact h
theorem LaidQ.p {w : World} (h : LaidQ w) : LaidP w := h.1
theorem LaidQ.below {w w' : World} (h : LaidQ w) (hb : Below w.heap.size w w') : LaidQ w' := by
 obtain ⟨h1, ⟨m, h2⟩, ⟨t3, p3, h3⟩, ⟨t4, p4, h4⟩⟩ := h
 exact ⟨h1.below hb, ⟨m, (hb.cell (World.block_lt_of_cell? w _ h2)).trans h2⟩, ⟨t3, p3, var_below h3 hb⟩, ⟨t4, p4, var_below h4 hb⟩⟩
def cutOf (a b : ByteArray) : ByteArray × ByteArray × Bool := (⟨(Lib.cut a.data.toList b.data.toList).1.toArray⟩, ⟨(Lib.cut a.data.toList b.data.toList).2.1.toArray⟩, (Lib.cut a.data.toList b.data.toList).2.2)
def strings_Cut.f (a0 a1 : ByteArray) : Option (ByteArray × ByteArray × Bool) := if a0.size < 4294967281 then some (cutOf a0 a1) else none
theorem strings_Cut.calls (a0 : ByteArray) (a1 : ByteArray) (r1 : ByteArray) (r2 : ByteArray) (r3 : Bool) (w : World) (hL_ : LaidQ w) (h : strings_Cut.f a0 a1 = some (r1, r2, r3)) :
  Calls Tryz.prog 43 #[.string a0, .string a1] w fun e w' => e = .returned (.tuple #[.string r1, .string r2, .bool r3]) ∧ Below w.heap.size w w' := by
 unfold strings_Cut.f at h
 by_cases hb : a0.size < 4294967281
 ·rw [if_pos hb] at h
  simp only [cutOf, Option.some.injEq, Prod.mk.injEq] at h
  obtain ⟨rfl, rfl, rfl⟩ := h
  obtain ⟨_, ⟨m, hm⟩, _⟩ := hL_
  refine (Tryz.strings_Cut a0 a1 m w hb hm).mono fun e w' hh => ?_
  obtain ⟨rfl, n, rfl⟩ := hh
  exact ⟨rfl, pw_below_drewN (Below.refl _ _) n⟩
 ·rw [if_neg hb] at h
  cases h



/-! ### impl_number: function 44 -/
/-- The number that a text tells, and whether the number's own text is that text. -/
def numOf (a0 : ByteArray) : Int × Bool := match Lib.atoiAll a0.data.toList with
 | .ok v => (v, ((⟨(Lib.itoa v).toArray⟩ : ByteArray).toList == a0.toList))
 | .«syntax» => (0, false)
 | .range => (Lib.atoiSat a0.data.toList, false)
def impl_number.f (a0 : ByteArray) : Option (Int × Bool) := if a0.size ≤ 281474976710656 then some (numOf a0) else none
set_option maxHeartbeats 8000000 in
set_option maxRecDepth 100000 in
theorem impl_number.calls (a0 : ByteArray) (r1 : Int) (r2 : Bool) (w : World) (hL_ : LaidQ w) (h : impl_number.f a0 = some (r1, r2)) :
  Calls Tryz.prog 44 #[.string a0] w fun e w' => e = .returned (.tuple #[.int .i64 r1, .bool r2]) ∧ Below w.heap.size w w' := by
 unfold impl_number.f at h
 by_cases hs : a0.size ≤ 281474976710656
 ·rw [if_pos hs] at h
  have h := Option.some.inj h
  have HL := Aside0.mk hL_
  have HB := Aside0.mk (Below.refl w.heap.size w)
  clear hL_
  cases ha : Lib.atoiAll a0.data.toList with
  | ok v =>
   have hbd := Lib.atoiAll_bounds ha
   have ht : impl_text.f v = some ⟨(Lib.itoa v).toArray⟩ := by
    unfold impl_text.f strconv_Itoa_58.f
    rw [if_pos (by have e1 : IntKind.i64.min = -9223372036854775808 := rfl; have e2 : IntKind.i64.max = 9223372036854775807 := rfl; omega)]
    rfl
   simp only [numOf, ha, Prod.mk.injEq] at h
   obtain ⟨rfl, rfl⟩ := h
   have HT := Aside0.mk ht; clear ht hbd
   generalize hq : (⟨(Lib.itoa v).toArray⟩ : ByteArray) = q at HT
   have c1 := fun W => (Tryz.strconv_Atoi_ok a0 (by omega) v ha W).mono (R' := fun e w' => e = .returned (.tuple #[.int .i64 v, .nilIface]) ∧ Below W.heap.size W w') (fun e w' hh => by
    obtain ⟨rfl, rfl | ⟨t, rfl⟩⟩ := hh
    ·exact ⟨rfl, Below.refl _ _⟩
    ·exact ⟨rfl, rfl, rfl, rfl, by rw [Lib.bytesWorld_size]; omega, fun k hk => Lib.bytesWorld_at_old W _ t k hk⟩)
   clear ha hq
   go_enter Tryz.func44, Tryz.ntmps44
   go_wp2_with (first | (go_at_call 65; refine (c1 _).mono ?_; rintro e w1 ⟨rfl, hb⟩; have n0_ := Aside0.mk (below_step zO1_2 hb); clear HB hb; have HB := n0_; clear n0_) | (go_at_call 39; refine (impl_text.calls v q _ (LaidP.below HL.out.1 zO1_2) HT.out).mono ?_; rintro e w2 ⟨rfl, hb⟩; have n0_ := Aside0.mk (below_step zO1_2 hb); clear HB hb; have HB := n0_; clear n0_))
   go_ret2
   exact ⟨by first | rfl | (simp; done) | (simp [*]; done), by repeat (first | (with_reducible first | exact HB.out | apply below_alloc | apply pw_below_drewN | apply below_drew1) | exact HB.out)⟩
  | «syntax» =>
   simp only [numOf, ha, Prod.mk.injEq] at h
   obtain ⟨rfl, rfl⟩ := h
   obtain ⟨_, _, ⟨tp, p, hv⟩, _⟩ := HL.out
   have c1 := (Tryz.strconv_Atoi_syntax_var a0 hs ha tp p w hv)
   clear ha hv
   go_enter Tryz.func44, Tryz.ntmps44
   go_wp2_with (go_at_call 65; refine c1.mono ?_; rintro e w1 ⟨N_, rfl, _, _, hb⟩; have n0_ := Aside0.mk (below_step zO1_2 hb); clear HB hb; have HB := n0_; clear n0_)
   go_ret2
   exact ⟨by first | rfl | (simp; done) | (simp [*]; done), by repeat (first | (with_reducible first | exact HB.out | apply below_alloc | apply pw_below_drewN | apply below_drew1) | exact HB.out)⟩
  | range =>
   simp only [numOf, ha, Prod.mk.injEq] at h
   obtain ⟨rfl, rfl⟩ := h
   obtain ⟨_, _, _, ⟨tp, p, hv⟩⟩ := HL.out
   have c1 := (Tryz.strconv_Atoi_range_var a0 hs ha tp p w hv)
   clear ha hv
   generalize Lib.atoiSat a0.data.toList = z at c1 ⊢
   go_enter Tryz.func44, Tryz.ntmps44
   go_wp2_with (go_at_call 65; refine c1.mono ?_; rintro e w1 ⟨N_, rfl, _, _, hb⟩; have n0_ := Aside0.mk (below_step zO1_2 hb); clear HB hb; have HB := n0_; clear n0_)
   go_ret2
   exact ⟨by first | rfl | (simp; done) | (simp [*]; done), by repeat (first | (with_reducible first | exact HB.out | apply below_alloc | apply pw_below_drewN | apply below_drew1) | exact HB.out)⟩
 ·rw [if_neg hs] at h
  cases h



/-! ### impl_checkedIsland: function 45 -/
def impl_checkedIsland.f (a0_0 : Int) (a0_1 : Int) (a0_2 : Int) (a0_3 : Int) : Option (Int × Int × Int × Int × Bool) := (impl_IsIsland.f a0_0 a0_1 a0_2 a0_3).bind fun t311 => (if t311 = true then (some (a0_0, a0_1, a0_2, a0_3, true)) else (some (0, 0, 0, 0, false)))
set_option maxHeartbeats 8000000 in
set_option maxRecDepth 100000 in
theorem impl_checkedIsland.calls (a0_0 : Int) (a0_1 : Int) (a0_2 : Int) (a0_3 : Int) (r1 : Int) (r2 : Int) (r3 : Int) (r4 : Int) (r5 : Bool) (w : World) (h : impl_checkedIsland.f a0_0 a0_1 a0_2 a0_3 = some (r1, r2, r3, r4, r5)) :
  Calls Tryz.prog 45 #[.agg #[.int .i64 a0_0, .int .i64 a0_1, .int .i64 a0_2, .int .i64 a0_3]] w fun e w' => e = .returned (.tuple #[.agg #[.int .i64 r1, .int .i64 r2, .int .i64 r3, .int .i64 r4], .bool r5]) ∧ Below w.heap.size w w' := by
 have hu25 := Tryz.underlying25
 have HB := Aside0.mk (Below.refl w.heap.size w)
 have H : ((impl_IsIsland.f a0_0 a0_1 a0_2 a0_3).bind fun t311 => (if t311 = true then (some (a0_0, a0_1, a0_2, a0_3, true)) else (some (0, 0, 0, 0, false)))) = some (r1, r2, r3, r4, r5) := h
 clear h; replace H := Option.bind_eq_some_iff.mp H; obtain ⟨t311, A20, H⟩ := H
 replace H : (if t311 = true then (some (a0_0, a0_1, a0_2, a0_3, true)) else (some (0, 0, 0, 0, false))) = some (r1, r2, r3, r4, r5) := H
 have A2 := Aside0.mk A20; clear A20
 by_cases c3 : t311 = true
 ·subst c3
  rw [if_pos rfl] at H; simp only [Option.some.injEq, Prod.mk.injEq] at H; obtain ⟨rfl, rfl, rfl, rfl, rfl⟩ := H
  go_enter Tryz.func45, Tryz.ntmps45
  go_wp2_with (first | ((with_reducible refine gate_dst (N := 1) rfl ?_); refine zE 1 #[.int .i64 a0_0, .int .i64 a0_1, .int .i64 a0_2, .int .i64 a0_3] 25 ?_; intro gb309 hg w4 hbox hb; have BK309 := Aside0.mk (hbox); have GW309 := zg HB hg; have GE309 := GW309; replace HB := zh HB hb; clear hb hbox hg) | ((with_reducible refine gate_dst (N := 2) rfl ?_); refine zE 2 #[.int .i64 0, .int .i64 0, .int .i64 0, .int .i64 0] 25 ?_; intro gb310 hg w5 hbox hb; have BK310 := Aside0.mk (hbox); have GW310 := zg HB hg; have GE310 := GW310; have NB309_310 := zl BK309 hg; have NB310_309 := zr BK309 hg; replace BK309 := zb BK309 hb; replace HB := zh HB hb; clear hb hbox hg; have hnb6 := NB309_310.out; have hnc6 := NB310_309.out; obtain ⟨_, _, _, _, _, _, _, _⟩ := zc4 BK309) | ((with_reducible refine gate_callee (f := 14) rfl ?_); refine zG (some 5) Tryz.func14 #[.agg #[.int .i64 a0_0, .int .i64 a0_1, .int .i64 a0_2, .int .i64 a0_3]] ?_; (with_reducible refine (impl_IsIsland.calls a0_0 a0_1 a0_2 a0_3 true _ A2.out).mono ?_); rintro e w8 ⟨rfl, hb⟩; refine ⟨_, rfl, ?_⟩; replace BK309 := zb BK309 hb; replace BK310 := zb BK310 hb; replace HB := zh HB hb; clear hb; obtain ⟨_, _, _, _, _, _, _, _⟩ := zc4 BK309; obtain ⟨_, _, _, _, _, _, _, _⟩ := zc4 BK310))
  refine bodyPost_ret (results_ct rfl _ _ gb310 25 #[.int .i64 a0_0, .int .i64 a0_1, .int .i64 a0_2, .int .i64 a0_3] (0, 0) _ rfl (zw BK310) Tryz.underlying25 rfl (by kernel_rfl)) rfl ?_
  exact ⟨zt, zy HB⟩
 ·replace c3 := Bool.eq_false_iff.mpr c3
  subst c3; rw [if_neg (show ¬ (false = true) by decide)] at H; simp only [Option.some.injEq, Prod.mk.injEq] at H; obtain ⟨rfl, rfl, rfl, rfl, rfl⟩ := H
  go_enter Tryz.func45, Tryz.ntmps45
  go_wp2_with (first | ((with_reducible refine gate_dst (N := 1) rfl ?_); refine zE 1 #[.int .i64 a0_0, .int .i64 a0_1, .int .i64 a0_2, .int .i64 a0_3] 25 ?_; intro gb309 hg w11 hbox hb; have BK309 := Aside0.mk (hbox); have GW309 := zg HB hg; have GE309 := GW309; replace HB := zh HB hb; clear hb hbox hg) | ((with_reducible refine gate_dst (N := 2) rfl ?_); refine zE 2 #[.int .i64 0, .int .i64 0, .int .i64 0, .int .i64 0] 25 ?_; intro gb310 hg w12 hbox hb; have BK310 := Aside0.mk (hbox); have GW310 := zg HB hg; have GE310 := GW310; have NB309_310 := zl BK309 hg; have NB310_309 := zr BK309 hg; replace BK309 := zb BK309 hb; replace HB := zh HB hb; clear hb hbox hg; have hnb13 := NB309_310.out; have hnc13 := NB310_309.out; obtain ⟨_, _, _, _, _, _, _, _⟩ := zc4 BK309) | ((with_reducible refine gate_callee (f := 14) rfl ?_); refine zG (some 5) Tryz.func14 #[.agg #[.int .i64 a0_0, .int .i64 a0_1, .int .i64 a0_2, .int .i64 a0_3]] ?_; (with_reducible refine (impl_IsIsland.calls a0_0 a0_1 a0_2 a0_3 false _ A2.out).mono ?_); rintro e w15 ⟨rfl, hb⟩; refine ⟨_, rfl, ?_⟩; replace BK309 := zb BK309 hb; replace BK310 := zb BK310 hb; replace HB := zh HB hb; clear hb; obtain ⟨_, _, _, _, _, _, _, _⟩ := zc4 BK310))
  refine bodyPost_ret (results_ct rfl _ _ gb310 25 #[.int .i64 0, .int .i64 0, .int .i64 0, .int .i64 0] (0, 0) _ rfl (zw BK310) Tryz.underlying25 rfl (by kernel_rfl)) rfl ?_
  exact ⟨zt, zy HB⟩


/-! ### impl_ParseIsland: function 20 -/
def impl_ParseIsland.f (a0 : ByteArray) : Option (Int × Int × Int × Int × Bool) := (strings_Cut.f a0 (⟨#[124]⟩ : ByteArray)).bind fun bt313 => ((strings_Cut.f bt313.2.1 (⟨#[58]⟩ : ByteArray)).bind fun bt316 => ((strings_Cut.f bt316.2.1 (⟨#[47]⟩ : ByteArray)).bind fun bt319 => ((impl_number.f bt313.1).bind fun bt322 => ((impl_number.f bt316.1).bind fun bt324 => ((impl_number.f bt319.1).bind fun bt326 => ((impl_number.f bt319.2.1).bind fun bt328 => (if bt322.2 = true then (if bt324.2 = true then (if bt326.2 = true then (if bt328.2 = true then ((impl_checkedIsland.f bt322.1 bt324.1 bt326.1 bt328.1).bind fun bt330 => (some (bt330.1, bt330.2.1, bt330.2.2.1, bt330.2.2.2.1, bt330.2.2.2.2))) else (some (0, 0, 0, 0, false))) else (some (0, 0, 0, 0, false))) else (some (0, 0, 0, 0, false))) else (some (0, 0, 0, 0, false)))))))))
set_option maxHeartbeats 8000000 in
set_option maxRecDepth 100000 in
theorem impl_ParseIsland.calls (a0 : ByteArray) (r1 : Int) (r2 : Int) (r3 : Int) (r4 : Int) (r5 : Bool) (w : World) (hL_ : LaidQ w) (h : impl_ParseIsland.f a0 = some (r1, r2, r3, r4, r5)) :
  Calls Tryz.prog 20 #[.string a0] w fun e w' => e = .returned (.tuple #[.agg #[.int .i64 r1, .int .i64 r2, .int .i64 r3, .int .i64 r4], .bool r5]) ∧ Below w.heap.size w w' := by
 have HL_ := Aside0.mk hL_; clear hL_; have hu25 := Tryz.underlying25
 have HB := Aside0.mk (Below.refl w.heap.size w)
 have H : ((strings_Cut.f a0 (⟨#[124]⟩ : ByteArray)).bind fun bt313 => ((strings_Cut.f bt313.2.1 (⟨#[58]⟩ : ByteArray)).bind fun bt316 => ((strings_Cut.f bt316.2.1 (⟨#[47]⟩ : ByteArray)).bind fun bt319 => ((impl_number.f bt313.1).bind fun bt322 => ((impl_number.f bt316.1).bind fun bt324 => ((impl_number.f bt319.1).bind fun bt326 => ((impl_number.f bt319.2.1).bind fun bt328 => (if bt322.2 = true then (if bt324.2 = true then (if bt326.2 = true then (if bt328.2 = true then ((impl_checkedIsland.f bt322.1 bt324.1 bt326.1 bt328.1).bind fun bt330 => (some (bt330.1, bt330.2.1, bt330.2.2.1, bt330.2.2.2.1, bt330.2.2.2.2))) else (some (0, 0, 0, 0, false))) else (some (0, 0, 0, 0, false))) else (some (0, 0, 0, 0, false))) else (some (0, 0, 0, 0, false)))))))))) = some (r1, r2, r3, r4, r5) := h
 clear h; replace H := Option.bind_eq_some_iff.mp H; obtain ⟨⟨t313, t314, t315⟩, A20, H⟩ := H; (try dsimp only at H); have A2 := Aside0.mk A20; clear A20; replace H := Option.bind_eq_some_iff.mp H; obtain ⟨⟨t316, t317, t318⟩, A30, H⟩ := H; (try dsimp only at H); have A3 := Aside0.mk A30; clear A30; replace H := Option.bind_eq_some_iff.mp H; obtain ⟨⟨t319, t320, t321⟩, A40, H⟩ := H; (try dsimp only at H); have A4 := Aside0.mk A40; clear A40; replace H := Option.bind_eq_some_iff.mp H; obtain ⟨⟨t322, t323⟩, A50, H⟩ := H; (try dsimp only at H); have A5 := Aside0.mk A50; clear A50; replace H := Option.bind_eq_some_iff.mp H; obtain ⟨⟨t324, t325⟩, A60, H⟩ := H; (try dsimp only at H); have A6 := Aside0.mk A60; clear A60; replace H := Option.bind_eq_some_iff.mp H; obtain ⟨⟨t326, t327⟩, A70, H⟩ := H; (try dsimp only at H); have A7 := Aside0.mk A70; clear A70; replace H := Option.bind_eq_some_iff.mp H; obtain ⟨⟨t328, t329⟩, A80, H⟩ := H; (try dsimp only at H); have A8 := Aside0.mk A80; clear A80
 by_cases c9 : t323 = true
 ·subst c9
  rw [if_pos rfl] at H
  by_cases c10 : t325 = true
  ·subst c10
   rw [if_pos rfl] at H
   by_cases c11 : t327 = true
   ·subst c11
    rw [if_pos rfl] at H
    by_cases c12 : t329 = true
    ·subst c12
     rw [if_pos rfl] at H; replace H := Option.bind_eq_some_iff.mp H; obtain ⟨⟨t330, t331, t332, t333, t334⟩, A130, H⟩ := H
     replace H : (some (t330, t331, t332, t333, t334)) = some (r1, r2, r3, r4, r5) := H
     have A13 := Aside0.mk A130; clear A130; simp only [Option.some.injEq, Prod.mk.injEq] at H; obtain ⟨rfl, rfl, rfl, rfl, rfl⟩ := H
     go_enter Tryz.func20, Tryz.ntmps20
     go_wp2_with (first | ((with_reducible refine gate_dst (N := 2) rfl ?_); refine zE 2 #[.int .i64 0, .int .i64 0, .int .i64 0, .int .i64 0] 25 ?_; intro gb312 hg w14 hbox hb; have BK312 := Aside0.mk (hbox); have GW312 := zg HB hg; have GE312 := GW312; replace HB := zh HB hb; clear hb hbox hg) | ((with_reducible refine gate_callee (f := 43) rfl ?_); refine zG (some 23) Tryz.func43 #[.string a0, .string (⟨#[124]⟩ : ByteArray)] ?_; (with_reducible refine (strings_Cut.calls a0 (⟨#[124]⟩ : ByteArray) t313 t314 t315 _ (LaidQ.below HL_.out (zy HB)) A2.out).mono ?_); rintro e w15 ⟨rfl, hb⟩; refine ⟨_, rfl, ?_⟩; replace BK312 := zb BK312 hb; replace HB := zh HB hb; clear hb) | ((with_reducible refine gate_callee (f := 43) rfl ?_); refine zG (some 29) Tryz.func43 #[.string t314, .string (⟨#[58]⟩ : ByteArray)] ?_; (with_reducible refine (strings_Cut.calls t314 (⟨#[58]⟩ : ByteArray) t316 t317 t318 _ (LaidQ.below HL_.out (zy HB)) A3.out).mono ?_); rintro e w16 ⟨rfl, hb⟩; refine ⟨_, rfl, ?_⟩; replace BK312 := zb BK312 hb; replace HB := zh HB hb; clear hb) | ((with_reducible refine gate_callee (f := 43) rfl ?_); refine zG (some 35) Tryz.func43 #[.string t317, .string (⟨#[47]⟩ : ByteArray)] ?_; (with_reducible refine (strings_Cut.calls t317 (⟨#[47]⟩ : ByteArray) t319 t320 t321 _ (LaidQ.below HL_.out (zy HB)) A4.out).mono ?_); rintro e w17 ⟨rfl, hb⟩; refine ⟨_, rfl, ?_⟩; replace BK312 := zb BK312 hb; replace HB := zh HB hb; clear hb) | ((with_reducible refine gate_callee (f := 44) rfl ?_); refine zG (some 41) Tryz.func44 #[.string t313] ?_; (with_reducible refine (impl_number.calls t313 t322 true _ (LaidQ.below HL_.out (zy HB)) A5.out).mono ?_); rintro e w18 ⟨rfl, hb⟩; refine ⟨_, rfl, ?_⟩; replace BK312 := zb BK312 hb; replace HB := zh HB hb; clear hb) | ((with_reducible refine gate_callee (f := 44) rfl ?_); refine zG (some 46) Tryz.func44 #[.string t316] ?_; (with_reducible refine (impl_number.calls t316 t324 true _ (LaidQ.below HL_.out (zy HB)) A6.out).mono ?_); rintro e w19 ⟨rfl, hb⟩; refine ⟨_, rfl, ?_⟩; replace BK312 := zb BK312 hb; replace HB := zh HB hb; clear hb) | ((with_reducible refine gate_callee (f := 44) rfl ?_); refine zG (some 51) Tryz.func44 #[.string t319] ?_; (with_reducible refine (impl_number.calls t319 t326 true _ (LaidQ.below HL_.out (zy HB)) A7.out).mono ?_); rintro e w20 ⟨rfl, hb⟩; refine ⟨_, rfl, ?_⟩; replace BK312 := zb BK312 hb; replace HB := zh HB hb; clear hb) | ((with_reducible refine gate_callee (f := 44) rfl ?_); refine zG (some 56) Tryz.func44 #[.string t320] ?_; (with_reducible refine (impl_number.calls t320 t328 true _ (LaidQ.below HL_.out (zy HB)) A8.out).mono ?_); rintro e w21 ⟨rfl, hb⟩; refine ⟨_, rfl, ?_⟩; replace BK312 := zb BK312 hb; replace HB := zh HB hb; clear hb) | ((with_reducible refine gate_callee (f := 45) rfl ?_); refine zG (some 79) Tryz.func45 #[.agg #[.int .i64 t322, .int .i64 t324, .int .i64 t326, .int .i64 t328]] ?_; (with_reducible refine (impl_checkedIsland.calls t322 t324 t326 t328 t330 t331 t332 t333 t334 _ A13.out).mono ?_); rintro e w22 ⟨rfl, hb⟩; refine ⟨_, rfl, ?_⟩; replace BK312 := zb BK312 hb; replace HB := zh HB hb; clear hb; obtain ⟨_, _, _, _, _, _, _, _⟩ := zc4 BK312))
     refine bodyPost_ret (results_ct rfl _ _ gb312 25 #[.int .i64 t330, .int .i64 t331, .int .i64 t332, .int .i64 t333] (0, 0) _ rfl (zw BK312) Tryz.underlying25 rfl (by kernel_rfl)) rfl ?_
     exact ⟨zt, zy HB⟩
    ·replace c12 := Bool.eq_false_iff.mpr c12
     subst c12; rw [if_neg (show ¬ (false = true) by decide)] at H; simp only [Option.some.injEq, Prod.mk.injEq] at H; obtain ⟨rfl, rfl, rfl, rfl, rfl⟩ := H
     go_enter Tryz.func20, Tryz.ntmps20
     go_wp2_with (first | ((with_reducible refine gate_dst (N := 2) rfl ?_); refine zE 2 #[.int .i64 0, .int .i64 0, .int .i64 0, .int .i64 0] 25 ?_; intro gb312 hg w24 hbox hb; have BK312 := Aside0.mk (hbox); have GW312 := zg HB hg; have GE312 := GW312; replace HB := zh HB hb; clear hb hbox hg) | ((with_reducible refine gate_callee (f := 43) rfl ?_); refine zG (some 23) Tryz.func43 #[.string a0, .string (⟨#[124]⟩ : ByteArray)] ?_; (with_reducible refine (strings_Cut.calls a0 (⟨#[124]⟩ : ByteArray) t313 t314 t315 _ (LaidQ.below HL_.out (zy HB)) A2.out).mono ?_); rintro e w25 ⟨rfl, hb⟩; refine ⟨_, rfl, ?_⟩; replace BK312 := zb BK312 hb; replace HB := zh HB hb; clear hb) | ((with_reducible refine gate_callee (f := 43) rfl ?_); refine zG (some 29) Tryz.func43 #[.string t314, .string (⟨#[58]⟩ : ByteArray)] ?_; (with_reducible refine (strings_Cut.calls t314 (⟨#[58]⟩ : ByteArray) t316 t317 t318 _ (LaidQ.below HL_.out (zy HB)) A3.out).mono ?_); rintro e w26 ⟨rfl, hb⟩; refine ⟨_, rfl, ?_⟩; replace BK312 := zb BK312 hb; replace HB := zh HB hb; clear hb) | ((with_reducible refine gate_callee (f := 43) rfl ?_); refine zG (some 35) Tryz.func43 #[.string t317, .string (⟨#[47]⟩ : ByteArray)] ?_; (with_reducible refine (strings_Cut.calls t317 (⟨#[47]⟩ : ByteArray) t319 t320 t321 _ (LaidQ.below HL_.out (zy HB)) A4.out).mono ?_); rintro e w27 ⟨rfl, hb⟩; refine ⟨_, rfl, ?_⟩; replace BK312 := zb BK312 hb; replace HB := zh HB hb; clear hb) | ((with_reducible refine gate_callee (f := 44) rfl ?_); refine zG (some 41) Tryz.func44 #[.string t313] ?_; (with_reducible refine (impl_number.calls t313 t322 true _ (LaidQ.below HL_.out (zy HB)) A5.out).mono ?_); rintro e w28 ⟨rfl, hb⟩; refine ⟨_, rfl, ?_⟩; replace BK312 := zb BK312 hb; replace HB := zh HB hb; clear hb) | ((with_reducible refine gate_callee (f := 44) rfl ?_); refine zG (some 46) Tryz.func44 #[.string t316] ?_; (with_reducible refine (impl_number.calls t316 t324 true _ (LaidQ.below HL_.out (zy HB)) A6.out).mono ?_); rintro e w29 ⟨rfl, hb⟩; refine ⟨_, rfl, ?_⟩; replace BK312 := zb BK312 hb; replace HB := zh HB hb; clear hb) | ((with_reducible refine gate_callee (f := 44) rfl ?_); refine zG (some 51) Tryz.func44 #[.string t319] ?_; (with_reducible refine (impl_number.calls t319 t326 true _ (LaidQ.below HL_.out (zy HB)) A7.out).mono ?_); rintro e w30 ⟨rfl, hb⟩; refine ⟨_, rfl, ?_⟩; replace BK312 := zb BK312 hb; replace HB := zh HB hb; clear hb) | ((with_reducible refine gate_callee (f := 44) rfl ?_); refine zG (some 56) Tryz.func44 #[.string t320] ?_; (with_reducible refine (impl_number.calls t320 t328 false _ (LaidQ.below HL_.out (zy HB)) A8.out).mono ?_); rintro e w31 ⟨rfl, hb⟩; refine ⟨_, rfl, ?_⟩; replace BK312 := zb BK312 hb; replace HB := zh HB hb; clear hb; obtain ⟨_, _, _, _, _, _, _, _⟩ := zc4 BK312))
     refine bodyPost_ret (results_ct rfl _ _ gb312 25 #[.int .i64 0, .int .i64 0, .int .i64 0, .int .i64 0] (0, 0) _ rfl (zw BK312) Tryz.underlying25 rfl (by kernel_rfl)) rfl ?_
     exact ⟨zt, zy HB⟩
   ·replace c11 := Bool.eq_false_iff.mpr c11
    subst c11; rw [if_neg (show ¬ (false = true) by decide)] at H; simp only [Option.some.injEq, Prod.mk.injEq] at H; obtain ⟨rfl, rfl, rfl, rfl, rfl⟩ := H
    go_enter Tryz.func20, Tryz.ntmps20
    go_wp2_with (first | ((with_reducible refine gate_dst (N := 2) rfl ?_); refine zE 2 #[.int .i64 0, .int .i64 0, .int .i64 0, .int .i64 0] 25 ?_; intro gb312 hg w33 hbox hb; have BK312 := Aside0.mk (hbox); have GW312 := zg HB hg; have GE312 := GW312; replace HB := zh HB hb; clear hb hbox hg) | ((with_reducible refine gate_callee (f := 43) rfl ?_); refine zG (some 23) Tryz.func43 #[.string a0, .string (⟨#[124]⟩ : ByteArray)] ?_; (with_reducible refine (strings_Cut.calls a0 (⟨#[124]⟩ : ByteArray) t313 t314 t315 _ (LaidQ.below HL_.out (zy HB)) A2.out).mono ?_); rintro e w34 ⟨rfl, hb⟩; refine ⟨_, rfl, ?_⟩; replace BK312 := zb BK312 hb; replace HB := zh HB hb; clear hb) | ((with_reducible refine gate_callee (f := 43) rfl ?_); refine zG (some 29) Tryz.func43 #[.string t314, .string (⟨#[58]⟩ : ByteArray)] ?_; (with_reducible refine (strings_Cut.calls t314 (⟨#[58]⟩ : ByteArray) t316 t317 t318 _ (LaidQ.below HL_.out (zy HB)) A3.out).mono ?_); rintro e w35 ⟨rfl, hb⟩; refine ⟨_, rfl, ?_⟩; replace BK312 := zb BK312 hb; replace HB := zh HB hb; clear hb) | ((with_reducible refine gate_callee (f := 43) rfl ?_); refine zG (some 35) Tryz.func43 #[.string t317, .string (⟨#[47]⟩ : ByteArray)] ?_; (with_reducible refine (strings_Cut.calls t317 (⟨#[47]⟩ : ByteArray) t319 t320 t321 _ (LaidQ.below HL_.out (zy HB)) A4.out).mono ?_); rintro e w36 ⟨rfl, hb⟩; refine ⟨_, rfl, ?_⟩; replace BK312 := zb BK312 hb; replace HB := zh HB hb; clear hb) | ((with_reducible refine gate_callee (f := 44) rfl ?_); refine zG (some 41) Tryz.func44 #[.string t313] ?_; (with_reducible refine (impl_number.calls t313 t322 true _ (LaidQ.below HL_.out (zy HB)) A5.out).mono ?_); rintro e w37 ⟨rfl, hb⟩; refine ⟨_, rfl, ?_⟩; replace BK312 := zb BK312 hb; replace HB := zh HB hb; clear hb) | ((with_reducible refine gate_callee (f := 44) rfl ?_); refine zG (some 46) Tryz.func44 #[.string t316] ?_; (with_reducible refine (impl_number.calls t316 t324 true _ (LaidQ.below HL_.out (zy HB)) A6.out).mono ?_); rintro e w38 ⟨rfl, hb⟩; refine ⟨_, rfl, ?_⟩; replace BK312 := zb BK312 hb; replace HB := zh HB hb; clear hb) | ((with_reducible refine gate_callee (f := 44) rfl ?_); refine zG (some 51) Tryz.func44 #[.string t319] ?_; (with_reducible refine (impl_number.calls t319 t326 false _ (LaidQ.below HL_.out (zy HB)) A7.out).mono ?_); rintro e w39 ⟨rfl, hb⟩; refine ⟨_, rfl, ?_⟩; replace BK312 := zb BK312 hb; replace HB := zh HB hb; clear hb) | ((with_reducible refine gate_callee (f := 44) rfl ?_); refine zG (some 56) Tryz.func44 #[.string t320] ?_; (with_reducible refine (impl_number.calls t320 t328 t329 _ (LaidQ.below HL_.out (zy HB)) A8.out).mono ?_); rintro e w40 ⟨rfl, hb⟩; refine ⟨_, rfl, ?_⟩; replace BK312 := zb BK312 hb; replace HB := zh HB hb; clear hb; obtain ⟨_, _, _, _, _, _, _, _⟩ := zc4 BK312))
    refine bodyPost_ret (results_ct rfl _ _ gb312 25 #[.int .i64 0, .int .i64 0, .int .i64 0, .int .i64 0] (0, 0) _ rfl (zw BK312) Tryz.underlying25 rfl (by kernel_rfl)) rfl ?_
    exact ⟨zt, zy HB⟩
  ·replace c10 := Bool.eq_false_iff.mpr c10
   subst c10; rw [if_neg (show ¬ (false = true) by decide)] at H; simp only [Option.some.injEq, Prod.mk.injEq] at H; obtain ⟨rfl, rfl, rfl, rfl, rfl⟩ := H
   go_enter Tryz.func20, Tryz.ntmps20
   go_wp2_with (first | ((with_reducible refine gate_dst (N := 2) rfl ?_); refine zE 2 #[.int .i64 0, .int .i64 0, .int .i64 0, .int .i64 0] 25 ?_; intro gb312 hg w42 hbox hb; have BK312 := Aside0.mk (hbox); have GW312 := zg HB hg; have GE312 := GW312; replace HB := zh HB hb; clear hb hbox hg) | ((with_reducible refine gate_callee (f := 43) rfl ?_); refine zG (some 23) Tryz.func43 #[.string a0, .string (⟨#[124]⟩ : ByteArray)] ?_; (with_reducible refine (strings_Cut.calls a0 (⟨#[124]⟩ : ByteArray) t313 t314 t315 _ (LaidQ.below HL_.out (zy HB)) A2.out).mono ?_); rintro e w43 ⟨rfl, hb⟩; refine ⟨_, rfl, ?_⟩; replace BK312 := zb BK312 hb; replace HB := zh HB hb; clear hb) | ((with_reducible refine gate_callee (f := 43) rfl ?_); refine zG (some 29) Tryz.func43 #[.string t314, .string (⟨#[58]⟩ : ByteArray)] ?_; (with_reducible refine (strings_Cut.calls t314 (⟨#[58]⟩ : ByteArray) t316 t317 t318 _ (LaidQ.below HL_.out (zy HB)) A3.out).mono ?_); rintro e w44 ⟨rfl, hb⟩; refine ⟨_, rfl, ?_⟩; replace BK312 := zb BK312 hb; replace HB := zh HB hb; clear hb) | ((with_reducible refine gate_callee (f := 43) rfl ?_); refine zG (some 35) Tryz.func43 #[.string t317, .string (⟨#[47]⟩ : ByteArray)] ?_; (with_reducible refine (strings_Cut.calls t317 (⟨#[47]⟩ : ByteArray) t319 t320 t321 _ (LaidQ.below HL_.out (zy HB)) A4.out).mono ?_); rintro e w45 ⟨rfl, hb⟩; refine ⟨_, rfl, ?_⟩; replace BK312 := zb BK312 hb; replace HB := zh HB hb; clear hb) | ((with_reducible refine gate_callee (f := 44) rfl ?_); refine zG (some 41) Tryz.func44 #[.string t313] ?_; (with_reducible refine (impl_number.calls t313 t322 true _ (LaidQ.below HL_.out (zy HB)) A5.out).mono ?_); rintro e w46 ⟨rfl, hb⟩; refine ⟨_, rfl, ?_⟩; replace BK312 := zb BK312 hb; replace HB := zh HB hb; clear hb) | ((with_reducible refine gate_callee (f := 44) rfl ?_); refine zG (some 46) Tryz.func44 #[.string t316] ?_; (with_reducible refine (impl_number.calls t316 t324 false _ (LaidQ.below HL_.out (zy HB)) A6.out).mono ?_); rintro e w47 ⟨rfl, hb⟩; refine ⟨_, rfl, ?_⟩; replace BK312 := zb BK312 hb; replace HB := zh HB hb; clear hb) | ((with_reducible refine gate_callee (f := 44) rfl ?_); refine zG (some 51) Tryz.func44 #[.string t319] ?_; (with_reducible refine (impl_number.calls t319 t326 t327 _ (LaidQ.below HL_.out (zy HB)) A7.out).mono ?_); rintro e w48 ⟨rfl, hb⟩; refine ⟨_, rfl, ?_⟩; replace BK312 := zb BK312 hb; replace HB := zh HB hb; clear hb) | ((with_reducible refine gate_callee (f := 44) rfl ?_); refine zG (some 56) Tryz.func44 #[.string t320] ?_; (with_reducible refine (impl_number.calls t320 t328 t329 _ (LaidQ.below HL_.out (zy HB)) A8.out).mono ?_); rintro e w49 ⟨rfl, hb⟩; refine ⟨_, rfl, ?_⟩; replace BK312 := zb BK312 hb; replace HB := zh HB hb; clear hb; obtain ⟨_, _, _, _, _, _, _, _⟩ := zc4 BK312))
   refine bodyPost_ret (results_ct rfl _ _ gb312 25 #[.int .i64 0, .int .i64 0, .int .i64 0, .int .i64 0] (0, 0) _ rfl (zw BK312) Tryz.underlying25 rfl (by kernel_rfl)) rfl ?_
   exact ⟨zt, zy HB⟩
 ·replace c9 := Bool.eq_false_iff.mpr c9
  subst c9; rw [if_neg (show ¬ (false = true) by decide)] at H; simp only [Option.some.injEq, Prod.mk.injEq] at H; obtain ⟨rfl, rfl, rfl, rfl, rfl⟩ := H
  go_enter Tryz.func20, Tryz.ntmps20
  go_wp2_with (first | ((with_reducible refine gate_dst (N := 2) rfl ?_); refine zE 2 #[.int .i64 0, .int .i64 0, .int .i64 0, .int .i64 0] 25 ?_; intro gb312 hg w51 hbox hb; have BK312 := Aside0.mk (hbox); have GW312 := zg HB hg; have GE312 := GW312; replace HB := zh HB hb; clear hb hbox hg) | ((with_reducible refine gate_callee (f := 43) rfl ?_); refine zG (some 23) Tryz.func43 #[.string a0, .string (⟨#[124]⟩ : ByteArray)] ?_; (with_reducible refine (strings_Cut.calls a0 (⟨#[124]⟩ : ByteArray) t313 t314 t315 _ (LaidQ.below HL_.out (zy HB)) A2.out).mono ?_); rintro e w52 ⟨rfl, hb⟩; refine ⟨_, rfl, ?_⟩; replace BK312 := zb BK312 hb; replace HB := zh HB hb; clear hb) | ((with_reducible refine gate_callee (f := 43) rfl ?_); refine zG (some 29) Tryz.func43 #[.string t314, .string (⟨#[58]⟩ : ByteArray)] ?_; (with_reducible refine (strings_Cut.calls t314 (⟨#[58]⟩ : ByteArray) t316 t317 t318 _ (LaidQ.below HL_.out (zy HB)) A3.out).mono ?_); rintro e w53 ⟨rfl, hb⟩; refine ⟨_, rfl, ?_⟩; replace BK312 := zb BK312 hb; replace HB := zh HB hb; clear hb) | ((with_reducible refine gate_callee (f := 43) rfl ?_); refine zG (some 35) Tryz.func43 #[.string t317, .string (⟨#[47]⟩ : ByteArray)] ?_; (with_reducible refine (strings_Cut.calls t317 (⟨#[47]⟩ : ByteArray) t319 t320 t321 _ (LaidQ.below HL_.out (zy HB)) A4.out).mono ?_); rintro e w54 ⟨rfl, hb⟩; refine ⟨_, rfl, ?_⟩; replace BK312 := zb BK312 hb; replace HB := zh HB hb; clear hb) | ((with_reducible refine gate_callee (f := 44) rfl ?_); refine zG (some 41) Tryz.func44 #[.string t313] ?_; (with_reducible refine (impl_number.calls t313 t322 false _ (LaidQ.below HL_.out (zy HB)) A5.out).mono ?_); rintro e w55 ⟨rfl, hb⟩; refine ⟨_, rfl, ?_⟩; replace BK312 := zb BK312 hb; replace HB := zh HB hb; clear hb) | ((with_reducible refine gate_callee (f := 44) rfl ?_); refine zG (some 46) Tryz.func44 #[.string t316] ?_; (with_reducible refine (impl_number.calls t316 t324 t325 _ (LaidQ.below HL_.out (zy HB)) A6.out).mono ?_); rintro e w56 ⟨rfl, hb⟩; refine ⟨_, rfl, ?_⟩; replace BK312 := zb BK312 hb; replace HB := zh HB hb; clear hb) | ((with_reducible refine gate_callee (f := 44) rfl ?_); refine zG (some 51) Tryz.func44 #[.string t319] ?_; (with_reducible refine (impl_number.calls t319 t326 t327 _ (LaidQ.below HL_.out (zy HB)) A7.out).mono ?_); rintro e w57 ⟨rfl, hb⟩; refine ⟨_, rfl, ?_⟩; replace BK312 := zb BK312 hb; replace HB := zh HB hb; clear hb) | ((with_reducible refine gate_callee (f := 44) rfl ?_); refine zG (some 56) Tryz.func44 #[.string t320] ?_; (with_reducible refine (impl_number.calls t320 t328 t329 _ (LaidQ.below HL_.out (zy HB)) A8.out).mono ?_); rintro e w58 ⟨rfl, hb⟩; refine ⟨_, rfl, ?_⟩; replace BK312 := zb BK312 hb; replace HB := zh HB hb; clear hb; obtain ⟨_, _, _, _, _, _, _, _⟩ := zc4 BK312))
  refine bodyPost_ret (results_ct rfl _ _ gb312 25 #[.int .i64 0, .int .i64 0, .int .i64 0, .int .i64 0] (0, 0) _ rfl (zw BK312) Tryz.underlying25 rfl (by kernel_rfl)) rfl ?_
  exact ⟨zt, zy HB⟩


/-! ### spec_l1Cur_one: function 53 -/
def spec_l1Cur_one.f (s0_0 : List Int) (s0_1 : Int) (s0_2 : Int) (a1 : Int) : Option (Bool × Int × Int) := (spec_l1Cur_pick.f s0_0 s0_1 s0_2 a1).bind fun bt335 => (some ((bt335.1 == 0), bt335.2.1, bt335.2.2))
set_option maxHeartbeats 8000000 in
set_option maxRecDepth 100000 in
theorem spec_l1Cur_one.calls (g : Nat) (s0_0 : List Int) (s0_1 : Int) (s0_2 : Int) (a1 : Int) (r1 : Bool) (r2 : Int) (r3 : Int) (w0 w : World) (hI : IsS66 w0 w g s0_0 s0_1 s0_2) (hB : Below w0.heap.size w0 w) (h : spec_l1Cur_one.f s0_0 s0_1 s0_2 a1 = some (r1, r2, r3)) :
  Calls Tryz.prog 53 #[.pointer (some ⟨g, 0, none⟩), .int .i64 a1] w fun e w' => e = .returned (.bool r1) ∧ IsS66 w0 w' g s0_0 r2 r3 ∧ Below w0.heap.size w0 w' ∧ KeepBut w w' g none := by
 have HI0 := Aside0.mk hI
 have HK := Aside0.mk (KeepBut.refl w g none)
 have HL := Aside0.mk hB.size; clear hI; have HW0 := Aside0.mk hB.size; have HB := Aside0.mk hB; clear hB
 have H : ((spec_l1Cur_pick.f s0_0 s0_1 s0_2 a1).bind fun bt335 => (some ((bt335.1 == 0), bt335.2.1, bt335.2.2))) = some (r1, r2, r3) := h
 clear h; replace H := Option.bind_eq_some_iff.mp H; obtain ⟨⟨t335, t336, t337⟩, A30, H⟩ := H
 replace H : (some ((t335 == 0), t336, t337)) = some (r1, r2, r3) := H
 have A3 := Aside0.mk A30; clear A30; simp only [Option.some.injEq, Prod.mk.injEq] at H; obtain ⟨rfl, rfl, rfl⟩ := H
 go_enter Tryz.func53, Tryz.ntmps53
 go_wp2_with (first | ((with_reducible refine gate_callee (f := 66) rfl ?_); refine zG (some 7) Tryz.func66 #[.pointer (some ⟨g, 0, none⟩), .int .i64 a1] ?_; (with_reducible refine (spec_l1Cur_pick.calls g s0_0 s0_1 s0_2 a1 t335 t336 t337 w0 _ ?side1 ?side2 A3.out).mono ?_); (case side1 => exact zI66 HI0); (case side2 => exact zY66 HB); rintro e w4 ⟨rfl, hi, hb, hk⟩; refine ⟨_, rfl, ?_⟩; replace HK := zKt HK hk; replace HB := Aside0.mk hb; replace HI0 := Aside0.mk hi; clear hb hk hi))
 go_ret
 exact ⟨zt, (zI66 HI0), zY66 HB, zKe HK⟩


/-! ### spec_l1Cur_staff: function 46 -/
def spec_l1Cur_staff.f (s0_0 : List Int) (s0_1 : Int) (s0_2 : Int) : Option (Int × Int × Int) := (spec_l1Cur_one.f s0_0 s0_1 s0_2 14).bind fun bt338 => (if bt338.1 = true then ((spec_l1Cur_among.f s0_0 bt338.2.1 bt338.2.2 (([0, (-1), 100, 101, 4611686018427387904] : List Int))).bind fun bt344 => (some (bt344.1, bt344.2.1, bt344.2.2))) else ((spec_l1Cur_pick.f s0_0 bt338.2.1 bt338.2.2 6).bind fun bt347 => (some (wrap64 (1 + bt347.1), bt347.2.1, bt347.2.2))))
set_option maxHeartbeats 8000000 in
set_option maxRecDepth 100000 in
theorem spec_l1Cur_staff.calls (g : Nat) (s0_0 : List Int) (s0_1 : Int) (s0_2 : Int) (r1 : Int) (r2 : Int) (r3 : Int) (w0 w : World) (hI : IsS66 w0 w g s0_0 s0_1 s0_2) (hB : Below w0.heap.size w0 w) (h : spec_l1Cur_staff.f s0_0 s0_1 s0_2 = some (r1, r2, r3)) :
  Calls Tryz.prog 46 #[.pointer (some ⟨g, 0, none⟩)] w fun e w' => e = .returned (.int .i64 r1) ∧ IsS66 w0 w' g s0_0 r2 r3 ∧ Below w0.heap.size w0 w' ∧ KeepBut w w' g none := by
 have HI0 := Aside0.mk hI
 have HK := Aside0.mk (KeepBut.refl w g none)
 have HL := Aside0.mk hB.size; clear hI; have HW0 := Aside0.mk hB.size; have HB := Aside0.mk hB; clear hB
 have H : ((spec_l1Cur_one.f s0_0 s0_1 s0_2 14).bind fun bt338 => (if bt338.1 = true then ((spec_l1Cur_among.f s0_0 bt338.2.1 bt338.2.2 (([0, (-1), 100, 101, 4611686018427387904] : List Int))).bind fun bt344 => (some (bt344.1, bt344.2.1, bt344.2.2))) else ((spec_l1Cur_pick.f s0_0 bt338.2.1 bt338.2.2 6).bind fun bt347 => (some (wrap64 (1 + bt347.1), bt347.2.1, bt347.2.2))))) = some (r1, r2, r3) := h
 clear h; replace H := Option.bind_eq_some_iff.mp H; obtain ⟨⟨t338, t339, t340⟩, A20, H⟩ := H; (try dsimp only at H); have A2 := Aside0.mk A20; clear A20
 by_cases c3 : t338 = true
 ·subst c3
  rw [if_pos rfl] at H
  obtain ⟨y341, hy341⟩ : ∃ y_ : List Int, y_ = (([0, (-1), 100, 101, 4611686018427387904] : List Int)) := ⟨_, rfl⟩
  replace H : ((spec_l1Cur_among.f s0_0 t339 t340 y341).bind fun bt344 => (some (bt344.1, bt344.2.1, bt344.2.2))) = some (r1, r2, r3) := by first | (rw [hy341]; with_reducible exact H) | (have H2_ := (Option.bind_some _ _).symm.trans H; rw [hy341]; with_reducible exact H2_) | (have H2_ := (Option.bind_some _ _).symm.trans H; with_reducible exact H2_) | with_reducible exact H | (rw [hy341]; exact H) | exact H
  have Ny341 := Aside0.mk hy341; clear hy341; replace H := Option.bind_eq_some_iff.mp H; obtain ⟨⟨t344, t345, t346⟩, A40, H⟩ := H
  replace H : (some (t344, t345, t346)) = some (r1, r2, r3) := H
  have A4 := Aside0.mk A40; clear A40; simp only [Option.some.injEq, Prod.mk.injEq] at H; obtain ⟨rfl, rfl, rfl⟩ := H
  go_enter Tryz.func46, Tryz.ntmps46
  go_wp2_with (first | ((with_reducible refine gate_callee (f := 53) rfl ?_); refine zG (some 4) Tryz.func53 #[.pointer (some ⟨g, 0, none⟩), .int .i64 14] ?_; (with_reducible refine (spec_l1Cur_one.calls g s0_0 s0_1 s0_2 14 true t339 t340 w0 _ ?side1 ?side2 A2.out).mono ?_); (case side1 => exact zI66 HI0); (case side2 => exact zY66 HB); rintro e w5 ⟨rfl, hi, hb, hk⟩; refine ⟨_, rfl, ?_⟩; replace HK := zKt HK hk; replace HB := Aside0.mk hb; replace HI0 := Aside0.mk hi; clear hb hk hi) | ((with_reducible refine gate_dst (N := 6) rfl ?_); refine Kd.R_lit (Kd.int .i64) _ 3 ?hg (N := 6) ?hd (xs := ([0, (-1), 100, 101, 4611686018427387904] : List Int)) (inner := [.int .i64 0, .int .i64 (-1), .int .i64 100, .int .i64 101, .int .i64 4611686018427387904]) (ok := fun _ => True) (okp := fun _ => True) ?hr ?hp (fun _ hk => hk) trivial (Below.refl _ _) (Nat.le_refl _) zO1_4 ?_; (case hd => rfl); (case hg => rfl); (case hr => first | (go_simp; done) | (go_simp; rfl)); (case hp => exact (Reps.one (show Kd.M (Kd.int .i64) _ _ _ 0 [.int .i64 0] from rfl) (Reps.one (show Kd.M (Kd.int .i64) _ _ _ (-1) [.int .i64 (-1)] from rfl) (Reps.one (show Kd.M (Kd.int .i64) _ _ _ 100 [.int .i64 100] from rfl) (Reps.one (show Kd.M (Kd.int .i64) _ _ _ 101 [.int .i64 101] from rfl) (Reps.one (show Kd.M (Kd.int .i64) _ _ _ 4611686018427387904 [.int .i64 4611686018427387904] from rfl) (Reps.none _ _))))))); intro v342 w6 ho7 hb hg_ hnew_; clear hg_ hnew_; (first | rw [← Ny341.out] at ho7 | (simp only [Int.reduceToNat] at ho7; rw [← Ny341.out] at ho7)); have HO343 := Aside0.mk (Kd.R_lower ho7 (keep_size (w := w) (g := g) (row := none) (zKe HK))); replace HI0 := zJ66 HI0 hb; replace HK := zKb HK hb; replace HB := zH66 HB hb; clear hb ho7; obtain ⟨Ao8, co8, eo8⟩ := Kd.R_slice HO343.out; subst eo8) | ((with_reducible refine gate_callee (f := 51) rfl ?_); refine zG (some 7) Tryz.func51 #[.pointer (some ⟨g, 0, none⟩), .slice Ao8 y341.length co8] ?_; (with_reducible refine (spec_l1Cur_among.calls g s0_0 t339 t340 _ _ y341 t344 t345 t346 w0 _ ?side1 ?side2 ?side3 ?side4 ?side5 A4.out).mono ?_); (case side1 => exact zI66 HI0); (case side2 => exact zY66 HB); (case side3 => repeat (first | exact (Kd.R_reads' HO343.out).2.2 | (with_reducible refine Kd.C_alloc ?_ _) | (with_reducible refine Kd.C_drewN ?_ _) | (with_reducible refine Kd.C_drew ?_))); (case side4 => exact (Kd.R_reads' HO343.out).2.1); (case side5 => exact far_slice (IsS66.own_ne HI0.out HO343.out (by decide))); rintro e w9 ⟨rfl, hi, hb, hk⟩; refine ⟨_, rfl, ?_⟩; have n0_ := Aside0.mk (Kd.R_mono (Kd.R_keep (IsS66.apart (show IsS66 w0 _ g s0_0 t339 t340 from (zI66 HI0)) (zs HO343) (by decide)) hk (fun _ h => h.2)) (fun _ h => h.1)); replace HK := zKt HK hk; replace HB := Aside0.mk hb; replace HI0 := Aside0.mk hi; clear HO343; have HO343 := n0_; clear n0_; clear hb hk hi))
  go_ret
  exact ⟨zt, (zI66 HI0), zY66 HB, zKe HK⟩
 ·replace c3 := Bool.eq_false_iff.mpr c3
  subst c3; rw [if_neg (show ¬ (false = true) by decide)] at H; replace H := Option.bind_eq_some_iff.mp H; obtain ⟨⟨t347, t348, t349⟩, A100, H⟩ := H
  replace H : (some (wrap64 (1 + t347), t348, t349)) = some (r1, r2, r3) := H
  have A10 := Aside0.mk A100; clear A100; simp only [Option.some.injEq, Prod.mk.injEq] at H; obtain ⟨rfl, rfl, rfl⟩ := H
  go_enter Tryz.func46, Tryz.ntmps46
  go_wp2_with (first | ((with_reducible refine gate_callee (f := 53) rfl ?_); refine zG (some 4) Tryz.func53 #[.pointer (some ⟨g, 0, none⟩), .int .i64 14] ?_; (with_reducible refine (spec_l1Cur_one.calls g s0_0 s0_1 s0_2 14 false t339 t340 w0 _ ?side1 ?side2 A2.out).mono ?_); (case side1 => exact zI66 HI0); (case side2 => exact zY66 HB); rintro e w11 ⟨rfl, hi, hb, hk⟩; refine ⟨_, rfl, ?_⟩; replace HK := zKt HK hk; replace HB := Aside0.mk hb; replace HI0 := Aside0.mk hi; clear hb hk hi) | ((with_reducible refine gate_callee (f := 66) rfl ?_); refine zG (some 9) Tryz.func66 #[.pointer (some ⟨g, 0, none⟩), .int .i64 6] ?_; (with_reducible refine (spec_l1Cur_pick.calls g s0_0 t339 t340 6 t347 t348 t349 w0 _ ?side1 ?side2 A10.out).mono ?_); (case side1 => exact zI66 HI0); (case side2 => exact zY66 HB); rintro e w12 ⟨rfl, hi, hb, hk⟩; refine ⟨_, rfl, ?_⟩; replace HK := zKt HK hk; replace HB := Aside0.mk hb; replace HI0 := Aside0.mk hi; clear hb hk hi))
  go_ret
  exact ⟨zt, (zI66 HI0), zY66 HB, zKe HK⟩


/-! ### spec_l1Cur_long: function 47 -/
def spec_l1Cur_long.f (s0_0 : List Int) (s0_1 : Int) (s0_2 : Int) : Option (Int × Int × Int) := (spec_l1Cur_one.f s0_0 s0_1 s0_2 14).bind fun bt350 => (if bt350.1 = true then ((spec_l1Cur_among.f s0_0 bt350.2.1 bt350.2.2 (([0, (-1), 2000, 2001, 4611686018427387904] : List Int))).bind fun bt356 => (some (bt356.1, bt356.2.1, bt356.2.2))) else ((spec_l1Cur_pick.f s0_0 bt350.2.1 bt350.2.2 12).bind fun bt359 => (some (wrap64 (1 + bt359.1), bt359.2.1, bt359.2.2))))
set_option maxHeartbeats 8000000 in
set_option maxRecDepth 100000 in
theorem spec_l1Cur_long.calls (g : Nat) (s0_0 : List Int) (s0_1 : Int) (s0_2 : Int) (r1 : Int) (r2 : Int) (r3 : Int) (w0 w : World) (hI : IsS66 w0 w g s0_0 s0_1 s0_2) (hB : Below w0.heap.size w0 w) (h : spec_l1Cur_long.f s0_0 s0_1 s0_2 = some (r1, r2, r3)) :
  Calls Tryz.prog 47 #[.pointer (some ⟨g, 0, none⟩)] w fun e w' => e = .returned (.int .i64 r1) ∧ IsS66 w0 w' g s0_0 r2 r3 ∧ Below w0.heap.size w0 w' ∧ KeepBut w w' g none := by
 have HI0 := Aside0.mk hI
 have HK := Aside0.mk (KeepBut.refl w g none)
 have HL := Aside0.mk hB.size; clear hI; have HW0 := Aside0.mk hB.size; have HB := Aside0.mk hB; clear hB
 have H : ((spec_l1Cur_one.f s0_0 s0_1 s0_2 14).bind fun bt350 => (if bt350.1 = true then ((spec_l1Cur_among.f s0_0 bt350.2.1 bt350.2.2 (([0, (-1), 2000, 2001, 4611686018427387904] : List Int))).bind fun bt356 => (some (bt356.1, bt356.2.1, bt356.2.2))) else ((spec_l1Cur_pick.f s0_0 bt350.2.1 bt350.2.2 12).bind fun bt359 => (some (wrap64 (1 + bt359.1), bt359.2.1, bt359.2.2))))) = some (r1, r2, r3) := h
 clear h; replace H := Option.bind_eq_some_iff.mp H; obtain ⟨⟨t350, t351, t352⟩, A20, H⟩ := H; (try dsimp only at H); have A2 := Aside0.mk A20; clear A20
 by_cases c3 : t350 = true
 ·subst c3
  rw [if_pos rfl] at H
  obtain ⟨y353, hy353⟩ : ∃ y_ : List Int, y_ = (([0, (-1), 2000, 2001, 4611686018427387904] : List Int)) := ⟨_, rfl⟩
  replace H : ((spec_l1Cur_among.f s0_0 t351 t352 y353).bind fun bt356 => (some (bt356.1, bt356.2.1, bt356.2.2))) = some (r1, r2, r3) := by first | (rw [hy353]; with_reducible exact H) | (have H2_ := (Option.bind_some _ _).symm.trans H; rw [hy353]; with_reducible exact H2_) | (have H2_ := (Option.bind_some _ _).symm.trans H; with_reducible exact H2_) | with_reducible exact H | (rw [hy353]; exact H) | exact H
  have Ny353 := Aside0.mk hy353; clear hy353; replace H := Option.bind_eq_some_iff.mp H; obtain ⟨⟨t356, t357, t358⟩, A40, H⟩ := H
  replace H : (some (t356, t357, t358)) = some (r1, r2, r3) := H
  have A4 := Aside0.mk A40; clear A40; simp only [Option.some.injEq, Prod.mk.injEq] at H; obtain ⟨rfl, rfl, rfl⟩ := H
  go_enter Tryz.func47, Tryz.ntmps47
  go_wp2_with (first | ((with_reducible refine gate_callee (f := 53) rfl ?_); refine zG (some 4) Tryz.func53 #[.pointer (some ⟨g, 0, none⟩), .int .i64 14] ?_; (with_reducible refine (spec_l1Cur_one.calls g s0_0 s0_1 s0_2 14 true t351 t352 w0 _ ?side1 ?side2 A2.out).mono ?_); (case side1 => exact zI66 HI0); (case side2 => exact zY66 HB); rintro e w5 ⟨rfl, hi, hb, hk⟩; refine ⟨_, rfl, ?_⟩; replace HK := zKt HK hk; replace HB := Aside0.mk hb; replace HI0 := Aside0.mk hi; clear hb hk hi) | ((with_reducible refine gate_dst (N := 6) rfl ?_); refine Kd.R_lit (Kd.int .i64) _ 3 ?hg (N := 6) ?hd (xs := ([0, (-1), 2000, 2001, 4611686018427387904] : List Int)) (inner := [.int .i64 0, .int .i64 (-1), .int .i64 2000, .int .i64 2001, .int .i64 4611686018427387904]) (ok := fun _ => True) (okp := fun _ => True) ?hr ?hp (fun _ hk => hk) trivial (Below.refl _ _) (Nat.le_refl _) zO1_4 ?_; (case hd => rfl); (case hg => rfl); (case hr => first | (go_simp; done) | (go_simp; rfl)); (case hp => exact (Reps.one (show Kd.M (Kd.int .i64) _ _ _ 0 [.int .i64 0] from rfl) (Reps.one (show Kd.M (Kd.int .i64) _ _ _ (-1) [.int .i64 (-1)] from rfl) (Reps.one (show Kd.M (Kd.int .i64) _ _ _ 2000 [.int .i64 2000] from rfl) (Reps.one (show Kd.M (Kd.int .i64) _ _ _ 2001 [.int .i64 2001] from rfl) (Reps.one (show Kd.M (Kd.int .i64) _ _ _ 4611686018427387904 [.int .i64 4611686018427387904] from rfl) (Reps.none _ _))))))); intro v354 w6 ho7 hb hg_ hnew_; clear hg_ hnew_; (first | rw [← Ny353.out] at ho7 | (simp only [Int.reduceToNat] at ho7; rw [← Ny353.out] at ho7)); have HO355 := Aside0.mk (Kd.R_lower ho7 (keep_size (w := w) (g := g) (row := none) (zKe HK))); replace HI0 := zJ66 HI0 hb; replace HK := zKb HK hb; replace HB := zH66 HB hb; clear hb ho7; obtain ⟨Ao8, co8, eo8⟩ := Kd.R_slice HO355.out; subst eo8) | ((with_reducible refine gate_callee (f := 51) rfl ?_); refine zG (some 7) Tryz.func51 #[.pointer (some ⟨g, 0, none⟩), .slice Ao8 y353.length co8] ?_; (with_reducible refine (spec_l1Cur_among.calls g s0_0 t351 t352 _ _ y353 t356 t357 t358 w0 _ ?side1 ?side2 ?side3 ?side4 ?side5 A4.out).mono ?_); (case side1 => exact zI66 HI0); (case side2 => exact zY66 HB); (case side3 => repeat (first | exact (Kd.R_reads' HO355.out).2.2 | (with_reducible refine Kd.C_alloc ?_ _) | (with_reducible refine Kd.C_drewN ?_ _) | (with_reducible refine Kd.C_drew ?_))); (case side4 => exact (Kd.R_reads' HO355.out).2.1); (case side5 => exact far_slice (IsS66.own_ne HI0.out HO355.out (by decide))); rintro e w9 ⟨rfl, hi, hb, hk⟩; refine ⟨_, rfl, ?_⟩; have n0_ := Aside0.mk (Kd.R_mono (Kd.R_keep (IsS66.apart (show IsS66 w0 _ g s0_0 t351 t352 from (zI66 HI0)) (zs HO355) (by decide)) hk (fun _ h => h.2)) (fun _ h => h.1)); replace HK := zKt HK hk; replace HB := Aside0.mk hb; replace HI0 := Aside0.mk hi; clear HO355; have HO355 := n0_; clear n0_; clear hb hk hi))
  go_ret
  exact ⟨zt, (zI66 HI0), zY66 HB, zKe HK⟩
 ·replace c3 := Bool.eq_false_iff.mpr c3
  subst c3; rw [if_neg (show ¬ (false = true) by decide)] at H; replace H := Option.bind_eq_some_iff.mp H; obtain ⟨⟨t359, t360, t361⟩, A100, H⟩ := H
  replace H : (some (wrap64 (1 + t359), t360, t361)) = some (r1, r2, r3) := H
  have A10 := Aside0.mk A100; clear A100; simp only [Option.some.injEq, Prod.mk.injEq] at H; obtain ⟨rfl, rfl, rfl⟩ := H
  go_enter Tryz.func47, Tryz.ntmps47
  go_wp2_with (first | ((with_reducible refine gate_callee (f := 53) rfl ?_); refine zG (some 4) Tryz.func53 #[.pointer (some ⟨g, 0, none⟩), .int .i64 14] ?_; (with_reducible refine (spec_l1Cur_one.calls g s0_0 s0_1 s0_2 14 false t351 t352 w0 _ ?side1 ?side2 A2.out).mono ?_); (case side1 => exact zI66 HI0); (case side2 => exact zY66 HB); rintro e w11 ⟨rfl, hi, hb, hk⟩; refine ⟨_, rfl, ?_⟩; replace HK := zKt HK hk; replace HB := Aside0.mk hb; replace HI0 := Aside0.mk hi; clear hb hk hi) | ((with_reducible refine gate_callee (f := 66) rfl ?_); refine zG (some 9) Tryz.func66 #[.pointer (some ⟨g, 0, none⟩), .int .i64 12] ?_; (with_reducible refine (spec_l1Cur_pick.calls g s0_0 t351 t352 12 t359 t360 t361 w0 _ ?side1 ?side2 A10.out).mono ?_); (case side1 => exact zI66 HI0); (case side2 => exact zY66 HB); rintro e w12 ⟨rfl, hi, hb, hk⟩; refine ⟨_, rfl, ?_⟩; replace HK := zKt HK hk; replace HB := Aside0.mk hb; replace HI0 := Aside0.mk hi; clear hb hk hi))
  go_ret
  exact ⟨zt, (zI66 HI0), zY66 HB, zKe HK⟩


/-! ### spec_DrawSecondStep: function 21 -/
def spec_DrawSecondStep.f (l0 : List Int) : Option (Int × Int × Int × Int) := (spec_l1Cur_staff.f l0 0 0).bind fun bt363 => ((spec_l1Cur_long.f l0 bt363.2.1 bt363.2.2).bind fun bt366 => ((spec_l1Cur_long.f l0 bt366.2.1 bt366.2.2).bind fun bt369 => ((spec_l1Cur_long.f l0 bt369.2.1 bt369.2.2).bind fun bt372 => (some (bt363.1, bt366.1, bt369.1, bt372.1)))))
set_option maxHeartbeats 8000000 in
set_option maxRecDepth 100000 in
theorem spec_DrawSecondStep.calls (A0 : Option Addr) (c0 : Nat) (l0 : List Int) (r1 : Int) (r2 : Int) (r3 : Int) (r4 : Int) (w : World) (hr0 : Kd.C (Kd.int .u8) w A0 l0.length l0) (hc0 : l0.length ≤ c0) (h : spec_DrawSecondStep.f l0 = some (r1, r2, r3, r4)) :
  Calls Tryz.prog 21 #[.slice A0 l0.length c0] w fun e w' => e = .returned (.tuple #[.int .i64 r1, .int .i64 r2, .int .i64 r3, .int .i64 r4]) ∧ Below w.heap.size w w' := by
 have hu66 := Tryz.underlying66; have HR0 := Aside0.mk hr0; have HC0 := Aside0.mk hc0; clear hr0 hc0
 have HB := Aside0.mk (Below.refl w.heap.size w)
 have H : ((spec_l1Cur_staff.f l0 0 0).bind fun bt363 => ((spec_l1Cur_long.f l0 bt363.2.1 bt363.2.2).bind fun bt366 => ((spec_l1Cur_long.f l0 bt366.2.1 bt366.2.2).bind fun bt369 => ((spec_l1Cur_long.f l0 bt369.2.1 bt369.2.2).bind fun bt372 => (some (bt363.1, bt366.1, bt369.1, bt372.1)))))) = some (r1, r2, r3, r4) := h
 clear h; replace H := Option.bind_eq_some_iff.mp H; obtain ⟨⟨t363, t364, t365⟩, A20, H⟩ := H; (try dsimp only at H); have A2 := Aside0.mk A20; clear A20; replace H := Option.bind_eq_some_iff.mp H; obtain ⟨⟨t366, t367, t368⟩, A30, H⟩ := H; (try dsimp only at H); have A3 := Aside0.mk A30; clear A30; replace H := Option.bind_eq_some_iff.mp H; obtain ⟨⟨t369, t370, t371⟩, A40, H⟩ := H
 replace H : ((spec_l1Cur_long.f l0 t370 t371).bind fun bt372 => (some (t363, t366, t369, bt372.1))) = some (r1, r2, r3, r4) := H
 have A4 := Aside0.mk A40; clear A40; replace H := Option.bind_eq_some_iff.mp H; obtain ⟨⟨t372, t373, t374⟩, A50, H⟩ := H
 replace H : (some (t363, t366, t369, t372)) = some (r1, r2, r3, r4) := H
 have A5 := Aside0.mk A50; clear A50; simp only [Option.some.injEq, Prod.mk.injEq] at H; obtain ⟨rfl, rfl, rfl, rfl⟩ := H
 go_enter Tryz.func21, Tryz.ntmps21
 go_wp2_with (first | ((with_reducible refine gate_dst (N := 12) rfl ?_); refine zE 12 #[.slice A0 l0.length c0, .int .i64 0, .int .u64 0] 66 ?_; intro gb362 hg w6 hbox hb; have HI362 := Aside0.mk ((show IsS66 w _ gb362 l0 0 0 from ⟨_, _, hbox, (by rw [hg]; exact (below_size (zy HB)) : w.heap.size ≤ gb362), HR0.out⟩)); have GW362 := zg HB hg; have GE362 := GW362; replace HB := zh HB hb; clear hb hbox hg) | ((with_reducible refine gate_callee (f := 46) rfl ?_); refine zG (some 14) Tryz.func46 #[.pointer (some ⟨gb362, 0, none⟩)] ?_; (with_reducible refine (spec_l1Cur_staff.calls gb362 l0 0 0 t363 t364 t365 w _ ?side1 ?side2 A2.out).mono ?_); (case side1 => exact zI66 HI362); (case side2 => exact zY66 HB); rintro e w7 ⟨rfl, hi, hb, hk⟩; refine ⟨_, rfl, ?_⟩; replace HB := Aside0.mk hb; replace HI362 := Aside0.mk hi; clear hb hk hi) | ((with_reducible refine gate_callee (f := 47) rfl ?_); refine zG (some 16) Tryz.func47 #[.pointer (some ⟨gb362, 0, none⟩)] ?_; (with_reducible refine (spec_l1Cur_long.calls gb362 l0 t364 t365 t366 t367 t368 w _ ?side1 ?side2 A3.out).mono ?_); (case side1 => exact zI66 HI362); (case side2 => exact zY66 HB); rintro e w8 ⟨rfl, hi, hb, hk⟩; refine ⟨_, rfl, ?_⟩; replace HB := Aside0.mk hb; replace HI362 := Aside0.mk hi; clear hb hk hi) | ((with_reducible refine gate_callee (f := 47) rfl ?_); refine zG (some 18) Tryz.func47 #[.pointer (some ⟨gb362, 0, none⟩)] ?_; (with_reducible refine (spec_l1Cur_long.calls gb362 l0 t367 t368 t369 t370 t371 w _ ?side1 ?side2 A4.out).mono ?_); (case side1 => exact zI66 HI362); (case side2 => exact zY66 HB); rintro e w9 ⟨rfl, hi, hb, hk⟩; refine ⟨_, rfl, ?_⟩; replace HB := Aside0.mk hb; replace HI362 := Aside0.mk hi; clear hb hk hi) | ((with_reducible refine gate_callee (f := 47) rfl ?_); refine zG (some 23) Tryz.func47 #[.pointer (some ⟨gb362, 0, none⟩)] ?_; (with_reducible refine (spec_l1Cur_long.calls gb362 l0 t370 t371 t372 t373 t374 w _ ?side1 ?side2 A5.out).mono ?_); (case side1 => exact zI66 HI362); (case side2 => exact zY66 HB); rintro e w10 ⟨rfl, hi, hb, hk⟩; refine ⟨_, rfl, ?_⟩; replace HB := Aside0.mk hb; replace HI362 := Aside0.mk hi; clear hb hk hi))
 refine bodyPost_ret (results_list (rs := [.tmp 2, .tmp 3, .tmp 4, .tmp 5]) rfl zO1_4 (.tmp (.tmp (.tmp (.tmp .nil))))) rfl ?_
 exact ⟨zt, zY66 HB⟩


/-! ### spec_SecondStep: function 22 -/
def spec_SecondStep.f (k : Nat) (a0 : Int) (a1 : Int) (a2 : Int) (a3 : Int) : Option (Int × Int × Bool) := (spec_htStaff.f a0).bind fun t375 => (if t375 = true then ((spec_htLong.f k (([a1, a2, a3] : List Int))).bind fun t379 => (if t379 = true then (if a3 ≤ a0 then (some (0, 0, false)) else ((spec_clLow.f k (wrap64 ((wrap64 (a2 * (wrap64 (a3 - a0)))) + (wrap64 (a0 * a1)))) (wrap64 (a3 - a0))).bind fun bt380 => (some (bt380.1, bt380.2, true)))) else (some (0, 0, false)))) else (some (0, 0, false)))
set_option maxHeartbeats 8000000 in
set_option maxRecDepth 100000 in
theorem spec_SecondStep.calls (k : Nat) (a0 : Int) (a1 : Int) (a2 : Int) (a3 : Int) (r1 : Int) (r2 : Int) (r3 : Bool) (w : World) (h : spec_SecondStep.f k a0 a1 a2 a3 = some (r1, r2, r3)) :
  Calls Tryz.prog 22 #[.int .i64 a0, .int .i64 a1, .int .i64 a2, .int .i64 a3] w fun e w' => e = .returned (.tuple #[.int .i64 r1, .int .i64 r2, .bool r3]) ∧ Below w.heap.size w w' := by
 have HB := Aside0.mk (Below.refl w.heap.size w)
 have H : ((spec_htStaff.f a0).bind fun t375 => (if t375 = true then ((spec_htLong.f k (([a1, a2, a3] : List Int))).bind fun t379 => (if t379 = true then (if a3 ≤ a0 then (some (0, 0, false)) else ((spec_clLow.f k (wrap64 ((wrap64 (a2 * (wrap64 (a3 - a0)))) + (wrap64 (a0 * a1)))) (wrap64 (a3 - a0))).bind fun bt380 => (some (bt380.1, bt380.2, true)))) else (some (0, 0, false)))) else (some (0, 0, false)))) = some (r1, r2, r3) := h
 clear h; replace H := Option.bind_eq_some_iff.mp H; obtain ⟨t375, A50, H⟩ := H; (try dsimp only at H); have A5 := Aside0.mk A50; clear A50
 by_cases c6 : t375 = true
 ·subst c6
  rw [if_pos rfl] at H
  obtain ⟨y376, hy376⟩ : ∃ y_ : List Int, y_ = (([a1, a2, a3] : List Int)) := ⟨_, rfl⟩
  replace H : ((spec_htLong.f k y376).bind fun t379 => (if t379 = true then (if a3 ≤ a0 then (some (0, 0, false)) else ((spec_clLow.f k (wrap64 ((wrap64 (a2 * (wrap64 (a3 - a0)))) + (wrap64 (a0 * a1)))) (wrap64 (a3 - a0))).bind fun bt380 => (some (bt380.1, bt380.2, true)))) else (some (0, 0, false)))) = some (r1, r2, r3) := by first | (rw [hy376]; with_reducible exact H) | (have H2_ := (Option.bind_some _ _).symm.trans H; rw [hy376]; with_reducible exact H2_) | (have H2_ := (Option.bind_some _ _).symm.trans H; with_reducible exact H2_) | with_reducible exact H | (rw [hy376]; exact H) | exact H
  have Ny376 := Aside0.mk hy376; clear hy376; replace H := Option.bind_eq_some_iff.mp H; obtain ⟨t379, A70, H⟩ := H; (try dsimp only at H); have A7 := Aside0.mk A70; clear A70
  by_cases c8 : t379 = true
  ·subst c8
   rw [if_pos rfl] at H
   by_cases c9 : a3 ≤ a0
   ·rw [if_pos c9] at H
    have c9b0 : decide (a3 ≤ a0) = true := decide_eq_true c9; clear c9; simp only [Option.some.injEq, Prod.mk.injEq] at H; obtain ⟨rfl, rfl, rfl⟩ := H
    go_enter Tryz.func22, Tryz.ntmps22
    go_wp2_with (first | ((with_reducible refine gate_callee (f := 48) rfl ?_); refine zG (some 14) Tryz.func48 #[.int .i64 a0] ?_; (with_reducible refine (spec_htStaff.calls a0 true _ A5.out).mono ?_); rintro e w' ⟨rfl, ⟨nd, rfl⟩⟩; refine ⟨_, rfl, ?_⟩) | ((with_reducible refine gate_dst (N := 20) rfl ?_); (try (refine gate_guard (by rfl) ?_; dsimp only)); refine Kd.R_lit (Kd.int .i64) _ 3 ?hg (N := 20) ?hd (xs := ([a1, a2, a3] : List Int)) (inner := [.int .i64 a1, .int .i64 a2, .int .i64 a3]) (ok := fun _ => True) (okp := fun _ => True) ?hr ?hp (fun _ hk => hk) trivial (Below.refl _ _) (Nat.le_refl _) zO1_4 ?_; (case hd => rfl); (case hg => rfl); (case hr => first | (go_simp; done) | (go_simp; rfl)); (case hp => exact (Reps.one (show Kd.M (Kd.int .i64) _ _ _ a1 [.int .i64 a1] from rfl) (Reps.one (show Kd.M (Kd.int .i64) _ _ _ a2 [.int .i64 a2] from rfl) (Reps.one (show Kd.M (Kd.int .i64) _ _ _ a3 [.int .i64 a3] from rfl) (Reps.none _ _))))); intro v377 w10 ho11 hb hg_ hnew_; clear hg_ hnew_; (first | rw [← Ny376.out] at ho11 | (simp only [Int.reduceToNat] at ho11; rw [← Ny376.out] at ho11)); have HO378 := Aside0.mk (Kd.R_lower ho11 (below_size (zy HB))); replace HB := zh HB hb; clear hb ho11; obtain ⟨Ao12, co12, eo12⟩ := Kd.R_slice HO378.out; subst eo12) | (go_at_call 49; (with_reducible refine (spec_htLong.calls k _ _ y376 true _ ?side1 ?side2 A7.out).mono ?_); (case side1 => repeat (first | exact (Kd.R_reads' HO378.out).2.2 | (with_reducible refine Kd.C_alloc ?_ _) | (with_reducible refine Kd.C_drewN ?_ _) | (with_reducible refine Kd.C_drew ?_))); (case side2 => exact (Kd.R_reads' HO378.out).2.1); rintro e w' ⟨rfl, ⟨nd, rfl⟩⟩))
    go_ret3
    exact ⟨zt, zy HB⟩
   ·rw [if_neg c9] at H
    have c9b0 : decide (a3 ≤ a0) = false := decide_eq_false c9; clear c9; replace H := Option.bind_eq_some_iff.mp H; obtain ⟨⟨t380, t381⟩, A130, H⟩ := H
    replace H : (some (t380, t381, true)) = some (r1, r2, r3) := H
    have A13 := Aside0.mk A130; clear A130; simp only [Option.some.injEq, Prod.mk.injEq] at H; obtain ⟨rfl, rfl, rfl⟩ := H
    go_enter Tryz.func22, Tryz.ntmps22
    go_wp2_with (first | ((with_reducible refine gate_callee (f := 48) rfl ?_); refine zG (some 14) Tryz.func48 #[.int .i64 a0] ?_; (with_reducible refine (spec_htStaff.calls a0 true _ A5.out).mono ?_); rintro e w' ⟨rfl, ⟨nd, rfl⟩⟩; refine ⟨_, rfl, ?_⟩) | ((with_reducible refine gate_dst (N := 20) rfl ?_); (try (refine gate_guard (by rfl) ?_; dsimp only)); refine Kd.R_lit (Kd.int .i64) _ 3 ?hg (N := 20) ?hd (xs := ([a1, a2, a3] : List Int)) (inner := [.int .i64 a1, .int .i64 a2, .int .i64 a3]) (ok := fun _ => True) (okp := fun _ => True) ?hr ?hp (fun _ hk => hk) trivial (Below.refl _ _) (Nat.le_refl _) zO1_4 ?_; (case hd => rfl); (case hg => rfl); (case hr => first | (go_simp; done) | (go_simp; rfl)); (case hp => exact (Reps.one (show Kd.M (Kd.int .i64) _ _ _ a1 [.int .i64 a1] from rfl) (Reps.one (show Kd.M (Kd.int .i64) _ _ _ a2 [.int .i64 a2] from rfl) (Reps.one (show Kd.M (Kd.int .i64) _ _ _ a3 [.int .i64 a3] from rfl) (Reps.none _ _))))); intro v377 w14 ho15 hb hg_ hnew_; clear hg_ hnew_; (first | rw [← Ny376.out] at ho15 | (simp only [Int.reduceToNat] at ho15; rw [← Ny376.out] at ho15)); have HO378 := Aside0.mk (Kd.R_lower ho15 (below_size (zy HB))); replace HB := zh HB hb; clear hb ho15; obtain ⟨Ao16, co16, eo16⟩ := Kd.R_slice HO378.out; subst eo16) | (go_at_call 49; (with_reducible refine (spec_htLong.calls k _ _ y376 true _ ?side1 ?side2 A7.out).mono ?_); (case side1 => repeat (first | exact (Kd.R_reads' HO378.out).2.2 | (with_reducible refine Kd.C_alloc ?_ _) | (with_reducible refine Kd.C_drewN ?_ _) | (with_reducible refine Kd.C_drew ?_))); (case side2 => exact (Kd.R_reads' HO378.out).2.1); rintro e w' ⟨rfl, ⟨nd, rfl⟩⟩) | ((with_reducible refine gate_callee (f := 38) rfl ?_); refine zG (some 42) Tryz.func38 #[.int .i64 (wrap64 ((wrap64 (a2 * (wrap64 (a3 - a0)))) + (wrap64 (a0 * a1)))), .int .i64 (wrap64 (a3 - a0))] ?_; (with_reducible refine (spec_clLow.calls k (wrap64 ((wrap64 (a2 * (wrap64 (a3 - a0)))) + (wrap64 (a0 * a1)))) (wrap64 (a3 - a0)) t380 t381 _ A13.out).mono ?_); rintro e w' ⟨rfl, ⟨nd, rfl⟩⟩; refine ⟨_, rfl, ?_⟩))
    go_ret3
    exact ⟨zt, zy HB⟩
  ·replace c8 := Bool.eq_false_iff.mpr c8
   subst c8; rw [if_neg (show ¬ (false = true) by decide)] at H; simp only [Option.some.injEq, Prod.mk.injEq] at H; obtain ⟨rfl, rfl, rfl⟩ := H
   go_enter Tryz.func22, Tryz.ntmps22
   go_wp2_with (first | ((with_reducible refine gate_callee (f := 48) rfl ?_); refine zG (some 14) Tryz.func48 #[.int .i64 a0] ?_; (with_reducible refine (spec_htStaff.calls a0 true _ A5.out).mono ?_); rintro e w' ⟨rfl, ⟨nd, rfl⟩⟩; refine ⟨_, rfl, ?_⟩) | ((with_reducible refine gate_dst (N := 20) rfl ?_); (try (refine gate_guard (by rfl) ?_; dsimp only)); refine Kd.R_lit (Kd.int .i64) _ 3 ?hg (N := 20) ?hd (xs := ([a1, a2, a3] : List Int)) (inner := [.int .i64 a1, .int .i64 a2, .int .i64 a3]) (ok := fun _ => True) (okp := fun _ => True) ?hr ?hp (fun _ hk => hk) trivial (Below.refl _ _) (Nat.le_refl _) zO1_4 ?_; (case hd => rfl); (case hg => rfl); (case hr => first | (go_simp; done) | (go_simp; rfl)); (case hp => exact (Reps.one (show Kd.M (Kd.int .i64) _ _ _ a1 [.int .i64 a1] from rfl) (Reps.one (show Kd.M (Kd.int .i64) _ _ _ a2 [.int .i64 a2] from rfl) (Reps.one (show Kd.M (Kd.int .i64) _ _ _ a3 [.int .i64 a3] from rfl) (Reps.none _ _))))); intro v377 w17 ho18 hb hg_ hnew_; clear hg_ hnew_; (first | rw [← Ny376.out] at ho18 | (simp only [Int.reduceToNat] at ho18; rw [← Ny376.out] at ho18)); have HO378 := Aside0.mk (Kd.R_lower ho18 (below_size (zy HB))); replace HB := zh HB hb; clear hb ho18; obtain ⟨Ao19, co19, eo19⟩ := Kd.R_slice HO378.out; subst eo19) | (go_at_call 49; (with_reducible refine (spec_htLong.calls k _ _ y376 false _ ?side1 ?side2 A7.out).mono ?_); (case side1 => repeat (first | exact (Kd.R_reads' HO378.out).2.2 | (with_reducible refine Kd.C_alloc ?_ _) | (with_reducible refine Kd.C_drewN ?_ _) | (with_reducible refine Kd.C_drew ?_))); (case side2 => exact (Kd.R_reads' HO378.out).2.1); rintro e w' ⟨rfl, ⟨nd, rfl⟩⟩))
   go_ret3
   exact ⟨zt, zy HB⟩
 ·replace c6 := Bool.eq_false_iff.mpr c6
  subst c6; rw [if_neg (show ¬ (false = true) by decide)] at H; simp only [Option.some.injEq, Prod.mk.injEq] at H; obtain ⟨rfl, rfl, rfl⟩ := H
  go_enter Tryz.func22, Tryz.ntmps22
  go_wp2_with (first | ((with_reducible refine gate_callee (f := 48) rfl ?_); refine zG (some 14) Tryz.func48 #[.int .i64 a0] ?_; (with_reducible refine (spec_htStaff.calls a0 false _ A5.out).mono ?_); rintro e w' ⟨rfl, ⟨nd, rfl⟩⟩; refine ⟨_, rfl, ?_⟩))
  go_ret3
  exact ⟨zt, zy HB⟩


/-! ### spec_StepsForIsland: function 23 -/
def spec_StepsForIsland.j0 : Nat → Int → Int → Int → Int → Bool → Option (Int × Int × Int × Int × Bool)
 | 0, _, _, _, _, _ => none
 | k + 1, x0, x1, x2, x3, x32 => if x32 = true then (some (0, 0, 0, 0, false)) else ((spec_clLow.f k (wrap64 (x0 * x3)) (wrap64 (x2 - x0))).bind fun bt387 => ((spec_clLow.f k (wrap64 (x0 * (wrap64 (x3 + x1)))) (wrap64 (x2 - x0))).bind fun bt389 => (some (bt387.1, bt387.2, bt389.1, bt389.2, true))))
def spec_StepsForIsland.f (k : Nat) (a0 : Int) (a1 : Int) (a2 : Int) (a3 : Int) : Option (Int × Int × Int × Int × Bool) := (spec_htStaff.f a0).bind fun t382 => (if t382 = true then ((spec_htLong.f k (([a1, a2, a3] : List Int))).bind fun t386 => (if t386 = true then (spec_StepsForIsland.j0 k a0 a1 a2 a3 (decide (a2 ≤ a0))) else (spec_StepsForIsland.j0 k a0 a1 a2 a3 true))) else (spec_StepsForIsland.j0 k a0 a1 a2 a3 true))
set_option maxHeartbeats 8000000 in
set_option maxRecDepth 100000 in
theorem spec_StepsForIsland.calls (k : Nat) (a0 : Int) (a1 : Int) (a2 : Int) (a3 : Int) (r1 : Int) (r2 : Int) (r3 : Int) (r4 : Int) (r5 : Bool) (w : World) (h : spec_StepsForIsland.f k a0 a1 a2 a3 = some (r1, r2, r3, r4, r5)) :
  Calls Tryz.prog 23 #[.int .i64 a0, .int .i64 a1, .int .i64 a2, .int .i64 a3] w fun e w' => e = .returned (.tuple #[.int .i64 r1, .int .i64 r2, .int .i64 r3, .int .i64 r4, .bool r5]) ∧ Below w.heap.size w w' := by
 have HB := Aside0.mk (Below.refl w.heap.size w)
 have H : ((spec_htStaff.f a0).bind fun t382 => (if t382 = true then ((spec_htLong.f k (([a1, a2, a3] : List Int))).bind fun t386 => (if t386 = true then (spec_StepsForIsland.j0 k a0 a1 a2 a3 (decide (a2 ≤ a0))) else (spec_StepsForIsland.j0 k a0 a1 a2 a3 true))) else (spec_StepsForIsland.j0 k a0 a1 a2 a3 true))) = some (r1, r2, r3, r4, r5) := h
 clear h; have HC5 := Aside0.mk H; clear H
 go_enter Tryz.func23, Tryz.ntmps23
 go_upto_region 1 with (fail)
 go_cut [32] (fun v32 wc => ∃ (kq : Nat) (x32_4 : Bool), v32 = .bool x32_4 ∧ Aside0 (spec_StepsForIsland.j0 kq a0 a1 a2 a3 x32_4 = some (r1, r2, r3, r4, r5)) ∧ Aside0 (kq ≤ k) ∧ Aside0 (Below w.heap.size w wc))
 case first =>
  have H := HC5.out; clear HC5; replace H := Option.bind_eq_some_iff.mp H; obtain ⟨t382, A60, H⟩ := H; (try dsimp only at H); have A6 := Aside0.mk A60; clear A60
  by_cases c7 : t382 = true
  ·subst c7
   rw [if_pos rfl] at H
   obtain ⟨y383, hy383⟩ : ∃ y_ : List Int, y_ = (([a1, a2, a3] : List Int)) := ⟨_, rfl⟩
   replace H : ((spec_htLong.f k y383).bind fun t386 => (if t386 = true then (spec_StepsForIsland.j0 k a0 a1 a2 a3 (decide (a2 ≤ a0))) else (spec_StepsForIsland.j0 k a0 a1 a2 a3 true))) = some (r1, r2, r3, r4, r5) := by first | (rw [hy383]; with_reducible exact H) | (have H2_ := (Option.bind_some _ _).symm.trans H; rw [hy383]; with_reducible exact H2_) | (have H2_ := (Option.bind_some _ _).symm.trans H; with_reducible exact H2_) | with_reducible exact H | (rw [hy383]; exact H) | exact H
   have Ny383 := Aside0.mk hy383; clear hy383; replace H := Option.bind_eq_some_iff.mp H; obtain ⟨t386, A80, H⟩ := H
   replace H : (if t386 = true then (spec_StepsForIsland.j0 k a0 a1 a2 a3 (decide (a2 ≤ a0))) else (spec_StepsForIsland.j0 k a0 a1 a2 a3 true)) = some (r1, r2, r3, r4, r5) := H
   have A8 := Aside0.mk A80; clear A80
   by_cases c9 : t386 = true
   ·subst c9
    rw [if_pos rfl] at H; have H' := Aside0.mk H; clear H
    go_wp2_with (first | ((with_reducible refine gate_callee (f := 48) rfl ?_); refine zG (some 18) Tryz.func48 #[.int .i64 a0] ?_; (with_reducible refine (spec_htStaff.calls a0 true _ A6.out).mono ?_); rintro e w' ⟨rfl, ⟨nd, rfl⟩⟩; refine ⟨_, rfl, ?_⟩) | ((with_reducible refine gate_dst (N := 24) rfl ?_); (try (refine gate_guard (by rfl) ?_; dsimp only)); refine Kd.R_lit (Kd.int .i64) _ 3 ?hg (N := 24) ?hd (xs := ([a1, a2, a3] : List Int)) (inner := [.int .i64 a1, .int .i64 a2, .int .i64 a3]) (ok := fun _ => True) (okp := fun _ => True) ?hr ?hp (fun _ hk => hk) trivial (Below.refl _ _) (Nat.le_refl _) zO1_4 ?_; (case hd => rfl); (case hg => rfl); (case hr => first | (go_simp; done) | (go_simp; rfl)); (case hp => exact (Reps.one (show Kd.M (Kd.int .i64) _ _ _ a1 [.int .i64 a1] from rfl) (Reps.one (show Kd.M (Kd.int .i64) _ _ _ a2 [.int .i64 a2] from rfl) (Reps.one (show Kd.M (Kd.int .i64) _ _ _ a3 [.int .i64 a3] from rfl) (Reps.none _ _))))); intro v384 w10 ho11 hb hg_ hnew_; clear hg_ hnew_; (first | rw [← Ny383.out] at ho11 | (simp only [Int.reduceToNat] at ho11; rw [← Ny383.out] at ho11)); have HO385 := Aside0.mk (Kd.R_lower ho11 (below_size (zy HB))); replace HB := zh HB hb; clear hb ho11; obtain ⟨Ao12, co12, eo12⟩ := Kd.R_slice HO385.out; subst eo12) | (go_at_call 49; (with_reducible refine (spec_htLong.calls k _ _ y383 true _ ?side1 ?side2 A8.out).mono ?_); (case side1 => repeat (first | exact (Kd.R_reads' HO385.out).2.2 | (with_reducible refine Kd.C_alloc ?_ _) | (with_reducible refine Kd.C_drewN ?_ _) | (with_reducible refine Kd.C_drew ?_))); (case side2 => exact (Kd.R_reads' HO385.out).2.1); rintro e w' ⟨rfl, ⟨nd, rfl⟩⟩))
    go_meet
    case rel => exact ⟨_, (decide (a2 ≤ a0)), zu, H', ⟨by first | omega | exact Nat.le_refl _⟩, ⟨zy HB⟩⟩
   ·replace c9 := Bool.eq_false_iff.mpr c9
    subst c9; rw [if_neg (show ¬ (false = true) by decide)] at H; have H' := Aside0.mk H; clear H
    go_wp2_with (first | ((with_reducible refine gate_callee (f := 48) rfl ?_); refine zG (some 18) Tryz.func48 #[.int .i64 a0] ?_; (with_reducible refine (spec_htStaff.calls a0 true _ A6.out).mono ?_); rintro e w' ⟨rfl, ⟨nd, rfl⟩⟩; refine ⟨_, rfl, ?_⟩) | ((with_reducible refine gate_dst (N := 24) rfl ?_); (try (refine gate_guard (by rfl) ?_; dsimp only)); refine Kd.R_lit (Kd.int .i64) _ 3 ?hg (N := 24) ?hd (xs := ([a1, a2, a3] : List Int)) (inner := [.int .i64 a1, .int .i64 a2, .int .i64 a3]) (ok := fun _ => True) (okp := fun _ => True) ?hr ?hp (fun _ hk => hk) trivial (Below.refl _ _) (Nat.le_refl _) zO1_4 ?_; (case hd => rfl); (case hg => rfl); (case hr => first | (go_simp; done) | (go_simp; rfl)); (case hp => exact (Reps.one (show Kd.M (Kd.int .i64) _ _ _ a1 [.int .i64 a1] from rfl) (Reps.one (show Kd.M (Kd.int .i64) _ _ _ a2 [.int .i64 a2] from rfl) (Reps.one (show Kd.M (Kd.int .i64) _ _ _ a3 [.int .i64 a3] from rfl) (Reps.none _ _))))); intro v384 w13 ho14 hb hg_ hnew_; clear hg_ hnew_; (first | rw [← Ny383.out] at ho14 | (simp only [Int.reduceToNat] at ho14; rw [← Ny383.out] at ho14)); have HO385 := Aside0.mk (Kd.R_lower ho14 (below_size (zy HB))); replace HB := zh HB hb; clear hb ho14; obtain ⟨Ao15, co15, eo15⟩ := Kd.R_slice HO385.out; subst eo15) | (go_at_call 49; (with_reducible refine (spec_htLong.calls k _ _ y383 false _ ?side1 ?side2 A8.out).mono ?_); (case side1 => repeat (first | exact (Kd.R_reads' HO385.out).2.2 | (with_reducible refine Kd.C_alloc ?_ _) | (with_reducible refine Kd.C_drewN ?_ _) | (with_reducible refine Kd.C_drew ?_))); (case side2 => exact (Kd.R_reads' HO385.out).2.1); rintro e w' ⟨rfl, ⟨nd, rfl⟩⟩))
    go_meet
    case rel => exact ⟨_, (true), zu, H', ⟨by first | omega | exact Nat.le_refl _⟩, ⟨zy HB⟩⟩
  ·replace c7 := Bool.eq_false_iff.mpr c7
   subst c7; rw [if_neg (show ¬ (false = true) by decide)] at H; have H' := Aside0.mk H; clear H
   go_wp2_with (first | ((with_reducible refine gate_callee (f := 48) rfl ?_); refine zG (some 18) Tryz.func48 #[.int .i64 a0] ?_; (with_reducible refine (spec_htStaff.calls a0 false _ A6.out).mono ?_); rintro e w' ⟨rfl, ⟨nd, rfl⟩⟩; refine ⟨_, rfl, ?_⟩))
   go_meet
   case rel => exact ⟨_, (true), zu, H', ⟨by first | omega | exact Nat.le_refl _⟩, ⟨zy HB⟩⟩
 case rest =>
  clear HC5
  obtain ⟨kq, x32_4, rfl, HA, HJ4, HB⟩ := hcut
  cases kq with
  | zero => exact absurd HA.out (by simp [spec_StepsForIsland.j0])
  | succ kj4 =>
   have H := HA.out; clear HA; simp only [spec_StepsForIsland.j0] at H
   by_cases c16 : x32_4 = true
   ·subst c16
    rw [if_pos rfl] at H; simp only [Option.some.injEq, Prod.mk.injEq] at H; obtain ⟨rfl, rfl, rfl, rfl, rfl⟩ := H
    go_wp2
    refine bodyPost_ret (results_list (rs := [.tmp 8, .tmp 9, .tmp 10, .tmp 11, .tmp 12]) rfl zO1_4 (.tmp (.tmp (.tmp (.tmp (.tmp .nil)))))) rfl ?_
    exact ⟨zt, zy HB⟩
   ·replace c16 := Bool.eq_false_iff.mpr c16
    subst c16; rw [if_neg (show ¬ (false = true) by decide)] at H; replace H := Option.bind_eq_some_iff.mp H; obtain ⟨⟨t387, t388⟩, A170, H⟩ := H; (try dsimp only at H); have A17 := Aside0.mk A170; clear A170; replace H := Option.bind_eq_some_iff.mp H; obtain ⟨⟨t389, t390⟩, A180, H⟩ := H
    replace H : (some (t387, t388, t389, t390, true)) = some (r1, r2, r3, r4, r5) := H
    have A18 := Aside0.mk A180; clear A180; simp only [Option.some.injEq, Prod.mk.injEq] at H; obtain ⟨rfl, rfl, rfl, rfl, rfl⟩ := H
    go_wp2_with (first | ((with_reducible refine gate_callee (f := 38) rfl ?_); refine zG (some 40) Tryz.func38 #[.int .i64 (wrap64 (a0 * a3)), .int .i64 (wrap64 (a2 - a0))] ?_; (with_reducible refine (spec_clLow.calls kj4 (wrap64 (a0 * a3)) (wrap64 (a2 - a0)) t387 t388 _ A17.out).mono ?_); rintro e w' ⟨rfl, ⟨nd, rfl⟩⟩; refine ⟨_, rfl, ?_⟩) | ((with_reducible refine gate_callee (f := 38) rfl ?_); refine zG (some 52) Tryz.func38 #[.int .i64 (wrap64 (a0 * (wrap64 (a3 + a1)))), .int .i64 (wrap64 (a2 - a0))] ?_; (with_reducible refine (spec_clLow.calls kj4 (wrap64 (a0 * (wrap64 (a3 + a1)))) (wrap64 (a2 - a0)) t389 t390 _ A18.out).mono ?_); rintro e w' ⟨rfl, ⟨nd, rfl⟩⟩; refine ⟨_, rfl, ?_⟩))
    refine bodyPost_ret (results_list (rs := [.tmp 8, .tmp 9, .tmp 10, .tmp 11, .tmp 12]) rfl zO1_4 (.tmp (.tmp (.tmp (.tmp (.tmp .nil)))))) rfl ?_
    exact ⟨zt, zy HB⟩


/-! ### spec_DrawWholeIslands: function 24 -/
def spec_DrawWholeIslands.f (l0 : List Int) : Option (Int × Int) := (spec_l1Cur_staff.f l0 0 0).bind fun bt392 => ((spec_l1Cur_long.f l0 bt392.2.1 bt392.2.2).bind fun bt395 => (some (bt392.1, bt395.1)))
set_option maxHeartbeats 8000000 in
set_option maxRecDepth 100000 in
theorem spec_DrawWholeIslands.calls (A0 : Option Addr) (c0 : Nat) (l0 : List Int) (r1 : Int) (r2 : Int) (w : World) (hr0 : Kd.C (Kd.int .u8) w A0 l0.length l0) (hc0 : l0.length ≤ c0) (h : spec_DrawWholeIslands.f l0 = some (r1, r2)) :
  Calls Tryz.prog 24 #[.slice A0 l0.length c0] w fun e w' => e = .returned (.tuple #[.int .i64 r1, .int .i64 r2]) ∧ Below w.heap.size w w' := by
 have hu66 := Tryz.underlying66; have HR0 := Aside0.mk hr0; have HC0 := Aside0.mk hc0; clear hr0 hc0
 have HB := Aside0.mk (Below.refl w.heap.size w)
 have H : ((spec_l1Cur_staff.f l0 0 0).bind fun bt392 => ((spec_l1Cur_long.f l0 bt392.2.1 bt392.2.2).bind fun bt395 => (some (bt392.1, bt395.1)))) = some (r1, r2) := h
 clear h; replace H := Option.bind_eq_some_iff.mp H; obtain ⟨⟨t392, t393, t394⟩, A20, H⟩ := H
 replace H : ((spec_l1Cur_long.f l0 t393 t394).bind fun bt395 => (some (t392, bt395.1))) = some (r1, r2) := H
 have A2 := Aside0.mk A20; clear A20; replace H := Option.bind_eq_some_iff.mp H; obtain ⟨⟨t395, t396, t397⟩, A30, H⟩ := H
 replace H : (some (t392, t395)) = some (r1, r2) := H
 have A3 := Aside0.mk A30; clear A30; simp only [Option.some.injEq, Prod.mk.injEq] at H; obtain ⟨rfl, rfl⟩ := H
 go_enter Tryz.func24, Tryz.ntmps24
 go_wp2_with (first | ((with_reducible refine gate_dst (N := 8) rfl ?_); refine zE 8 #[.slice A0 l0.length c0, .int .i64 0, .int .u64 0] 66 ?_; intro gb391 hg w4 hbox hb; have HI391 := Aside0.mk ((show IsS66 w _ gb391 l0 0 0 from ⟨_, _, hbox, (by rw [hg]; exact (below_size (zy HB)) : w.heap.size ≤ gb391), HR0.out⟩)); have GW391 := zg HB hg; have GE391 := GW391; replace HB := zh HB hb; clear hb hbox hg) | ((with_reducible refine gate_callee (f := 46) rfl ?_); refine zG (some 10) Tryz.func46 #[.pointer (some ⟨gb391, 0, none⟩)] ?_; (with_reducible refine (spec_l1Cur_staff.calls gb391 l0 0 0 t392 t393 t394 w _ ?side1 ?side2 A2.out).mono ?_); (case side1 => exact zI66 HI391); (case side2 => exact zY66 HB); rintro e w5 ⟨rfl, hi, hb, hk⟩; refine ⟨_, rfl, ?_⟩; replace HB := Aside0.mk hb; replace HI391 := Aside0.mk hi; clear hb hk hi) | ((with_reducible refine gate_callee (f := 47) rfl ?_); refine zG (some 13) Tryz.func47 #[.pointer (some ⟨gb391, 0, none⟩)] ?_; (with_reducible refine (spec_l1Cur_long.calls gb391 l0 t393 t394 t395 t396 t397 w _ ?side1 ?side2 A3.out).mono ?_); (case side1 => exact zI66 HI391); (case side2 => exact zY66 HB); rintro e w6 ⟨rfl, hi, hb, hk⟩; refine ⟨_, rfl, ?_⟩; replace HB := Aside0.mk hb; replace HI391 := Aside0.mk hi; clear hb hk hi))
 go_ret2
 exact ⟨zt, zY66 HB⟩


/-! ### impl_WholeIslands: function 25 -/
mutual
def impl_WholeIslands.j0 : Nat → Int → Int → Bool → Option ((List (List Int)) × Bool)
 | 0, _, _, _ => none
 | k + 1, x0, x1, x25 => if x25 = true then (some (([] : List (List Int)), false)) else (impl_WholeIslands.l0 k x0 x1 (([] : List (List Int))) 1)
def impl_WholeIslands.l0 : Nat → Int → Int → List (List Int) → Int → Option ((List (List Int)) × Bool)
 | 0, _, _, _, _ => none
 | k + 1, x0, x1, x6, x7 => if x7 < 30 then (impl_WholeIslands.l1 k x0 x1 x6 x7 (wrap64 (x7 + 1))) else (some (x6, true))
def impl_WholeIslands.l1 : Nat → Int → Int → List (List Int) → Int → Int → Option ((List (List Int)) × Bool)
 | 0, _, _, _, _, _ => none
 | k + 1, x0, x1, x6, x7, x8 => if x8 ≤ 30 then ((impl_IslandHeight.f k x0 x1 x7 x8).bind fun bt410 => ((impl_IslandAway.f k x0 x1 x7 x8).bind fun bt413 => (if bt410.2.1 = 1 then (if bt413.2.1 = 1 then (if x6.length < 5864062014805 then (impl_WholeIslands.l1 k x0 x1 (x6 ++ [(([x7, x8, bt410.1, bt413.1] : List Int))]) x7 (wrap64 (x8 + 1))) else (none)) else (impl_WholeIslands.l1 k x0 x1 x6 x7 (wrap64 (x8 + 1)))) else (impl_WholeIslands.l1 k x0 x1 x6 x7 (wrap64 (x8 + 1)))))) else (impl_WholeIslands.l0 k x0 x1 x6 (wrap64 (x7 + 1)))
end
def impl_WholeIslands.f (k : Nat) (a0 : Int) (a1 : Int) : Option ((List (List Int)) × Bool) := (impl_areStaffs.f (([a0] : List Int))).bind fun t401 => (if t401 = true then ((impl_areSteps.f (([a1] : List Int))).bind fun t405 => (impl_WholeIslands.j0 k a0 a1 (!t405))) else (impl_WholeIslands.j0 k a0 a1 true))
set_option maxHeartbeats 8000000 in
set_option maxRecDepth 100000 in
theorem impl_WholeIslands.calls (k : Nat) (a0 : Int) (a1 : Int) (r1 : List (List Int)) (r2 : Bool) (w : World) (h : impl_WholeIslands.f k a0 a1 = some (r1, r2)) :
  Calls Tryz.prog 25 #[.int .i64 a0, .int .i64 a1] w fun e w' => ∃ v0_ : Value, e = .returned (.tuple #[v0_, .bool r2]) ∧ Kd.S (Kd.slice 3 (Kd.int .i64)) 51 w' w.heap.size (fun _ => True) v0_ r1 ∧ Below w.heap.size w w' := by
 have hu25 := Tryz.underlying25
 have HB := Aside0.mk (Below.refl w.heap.size w)
 have H : ((impl_areStaffs.f (([a0] : List Int))).bind fun t401 => (if t401 = true then ((impl_areSteps.f (([a1] : List Int))).bind fun t405 => (impl_WholeIslands.j0 k a0 a1 (!t405))) else (impl_WholeIslands.j0 k a0 a1 true))) = some (r1, r2) := h
 clear h; have HC3 := Aside0.mk H; clear H
 go_enter Tryz.func25, Tryz.ntmps25
 go_upto_region 1 with (fail)
 go_cut [25] (fun v25 wc => ∃ (kq : Nat) (x25_2 : Bool), v25 = .bool x25_2 ∧ Aside0 (impl_WholeIslands.j0 kq a0 a1 x25_2 = some (r1, r2)) ∧ Aside0 (kq ≤ k) ∧ Aside0 (Below w.heap.size w wc))
 case first =>
  have H := HC3.out; clear HC3
  obtain ⟨y398, hy398⟩ : ∃ y_ : List Int, y_ = (([a0] : List Int)) := ⟨_, rfl⟩
  replace H : ((impl_areStaffs.f y398).bind fun t401 => (if t401 = true then ((impl_areSteps.f (([a1] : List Int))).bind fun t405 => (impl_WholeIslands.j0 k a0 a1 (!t405))) else (impl_WholeIslands.j0 k a0 a1 true))) = some (r1, r2) := by first | (rw [hy398]; with_reducible exact H) | (have H2_ := (Option.bind_some _ _).symm.trans H; rw [hy398]; with_reducible exact H2_) | (have H2_ := (Option.bind_some _ _).symm.trans H; with_reducible exact H2_) | with_reducible exact H | (rw [hy398]; exact H) | exact H
  have Ny398 := Aside0.mk hy398; clear hy398; replace H := Option.bind_eq_some_iff.mp H; obtain ⟨t401, A40, H⟩ := H; (try dsimp only at H); have A4 := Aside0.mk A40; clear A40
  by_cases c5 : t401 = true
  ·subst c5
   rw [if_pos rfl] at H
   obtain ⟨y402, hy402⟩ : ∃ y_ : List Int, y_ = (([a1] : List Int)) := ⟨_, rfl⟩
   replace H : ((impl_areSteps.f y402).bind fun t405 => (impl_WholeIslands.j0 k a0 a1 (!t405))) = some (r1, r2) := by first | (rw [hy402]; with_reducible exact H) | (have H2_ := (Option.bind_some _ _).symm.trans H; rw [hy402]; with_reducible exact H2_) | (have H2_ := (Option.bind_some _ _).symm.trans H; with_reducible exact H2_) | with_reducible exact H | (rw [hy402]; exact H) | exact H
   have Ny402 := Aside0.mk hy402; clear hy402; replace H := Option.bind_eq_some_iff.mp H; obtain ⟨t405, A60, H⟩ := H
   replace H : (impl_WholeIslands.j0 k a0 a1 (!t405)) = some (r1, r2) := H
   have A6 := Aside0.mk A60; clear A60; have H' := Aside0.mk H; clear H
   go_wp2_with (first | ((with_reducible refine gate_dst (N := 17) rfl ?_); (try (refine gate_guard (by rfl) ?_; dsimp only)); refine Kd.R_lit (Kd.int .i64) _ 3 ?hg (N := 17) ?hd (xs := ([a0] : List Int)) (inner := [.int .i64 a0]) (ok := fun _ => True) (okp := fun _ => True) ?hr ?hp (fun _ hk => hk) trivial (Below.refl _ _) (Nat.le_refl _) zO1_4 ?_; (case hd => rfl); (case hg => rfl); (case hr => first | (go_simp; done) | (go_simp; rfl)); (case hp => exact (Reps.one (show Kd.M (Kd.int .i64) _ _ _ a0 [.int .i64 a0] from rfl) (Reps.none _ _))); intro v399 w7 ho8 hb hg_ hnew_; clear hg_ hnew_; (first | rw [← Ny398.out] at ho8 | (simp only [Int.reduceToNat] at ho8; rw [← Ny398.out] at ho8)); have HO400 := Aside0.mk (Kd.R_lower ho8 (below_size (zy HB))); replace HB := zh HB hb; clear hb ho8; obtain ⟨Ao9, co9, eo9⟩ := Kd.R_slice HO400.out; subst eo9) | ((with_reducible refine gate_callee (f := 41) rfl ?_); refine zG (some 18) Tryz.func41 #[.slice Ao9 y398.length co9] ?_; (with_reducible refine (impl_areStaffs.calls _ _ y398 true _ ?side1 ?side2 A4.out).mono ?_); (case side1 => repeat (first | exact (Kd.R_reads' HO400.out).2.2 | (with_reducible refine Kd.C_alloc ?_ _) | (with_reducible refine Kd.C_drewN ?_ _) | (with_reducible refine Kd.C_drew ?_))); (case side2 => exact (Kd.R_reads' HO400.out).2.1); rintro e w' ⟨rfl, ⟨nd, rfl⟩⟩; refine ⟨_, rfl, ?_⟩) | ((with_reducible refine gate_dst (N := 22) rfl ?_); (try (refine gate_guard (by rfl) ?_; dsimp only)); refine Kd.R_lit (Kd.int .i64) _ 3 ?hg (N := 22) ?hd (xs := ([a1] : List Int)) (inner := [.int .i64 a1]) (ok := fun _ => True) (okp := fun _ => True) ?hr ?hp (fun _ hk => hk) trivial (Below.refl _ _) (Nat.le_refl _) zO1_4 ?_; (case hd => rfl); (case hg => rfl); (case hr => first | (go_simp; done) | (go_simp; rfl)); (case hp => exact (Reps.one (show Kd.M (Kd.int .i64) _ _ _ a1 [.int .i64 a1] from rfl) (Reps.none _ _))); intro v403 w10 ho11 hb hg_ hnew_; clear hg_ hnew_; (first | rw [← Ny402.out] at ho11 | (simp only [Int.reduceToNat] at ho11; rw [← Ny402.out] at ho11)); have n0_ := Aside0.mk (Kd.R_elder' (zs HO400) (Kd.R_base ho11) hb); have HO404 := Aside0.mk (Kd.R_lower (Kd.R_new' ho11 (Kd.R_lt (zs HO400))) (below_size (zy HB))); replace HB := zh HB hb; clear HO400; have HO400 := n0_; clear n0_; clear hb ho11; obtain ⟨Ao12, co12, eo12⟩ := Kd.R_slice HO404.out; subst eo12) | (go_at_call 42; (with_reducible refine (impl_areSteps.calls _ _ y402 t405 _ ?side1 ?side2 A6.out).mono ?_); (case side1 => repeat (first | exact (Kd.R_reads' HO404.out).2.2 | (with_reducible refine Kd.C_alloc ?_ _) | (with_reducible refine Kd.C_drewN ?_ _) | (with_reducible refine Kd.C_drew ?_))); (case side2 => exact (Kd.R_reads' HO404.out).2.1); rintro e w' ⟨rfl, ⟨nd, rfl⟩⟩))
   go_meet
   case rel => exact ⟨_, (!t405), zu, H', ⟨by first | omega | exact Nat.le_refl _⟩, ⟨zy HB⟩⟩
  ·replace c5 := Bool.eq_false_iff.mpr c5
   subst c5; rw [if_neg (show ¬ (false = true) by decide)] at H; have H' := Aside0.mk H; clear H
   go_wp2_with (first | ((with_reducible refine gate_dst (N := 17) rfl ?_); (try (refine gate_guard (by rfl) ?_; dsimp only)); refine Kd.R_lit (Kd.int .i64) _ 3 ?hg (N := 17) ?hd (xs := ([a0] : List Int)) (inner := [.int .i64 a0]) (ok := fun _ => True) (okp := fun _ => True) ?hr ?hp (fun _ hk => hk) trivial (Below.refl _ _) (Nat.le_refl _) zO1_4 ?_; (case hd => rfl); (case hg => rfl); (case hr => first | (go_simp; done) | (go_simp; rfl)); (case hp => exact (Reps.one (show Kd.M (Kd.int .i64) _ _ _ a0 [.int .i64 a0] from rfl) (Reps.none _ _))); intro v399 w13 ho14 hb hg_ hnew_; clear hg_ hnew_; (first | rw [← Ny398.out] at ho14 | (simp only [Int.reduceToNat] at ho14; rw [← Ny398.out] at ho14)); have HO400 := Aside0.mk (Kd.R_lower ho14 (below_size (zy HB))); replace HB := zh HB hb; clear hb ho14; obtain ⟨Ao15, co15, eo15⟩ := Kd.R_slice HO400.out; subst eo15) | ((with_reducible refine gate_callee (f := 41) rfl ?_); refine zG (some 18) Tryz.func41 #[.slice Ao15 y398.length co15] ?_; (with_reducible refine (impl_areStaffs.calls _ _ y398 false _ ?side1 ?side2 A4.out).mono ?_); (case side1 => repeat (first | exact (Kd.R_reads' HO400.out).2.2 | (with_reducible refine Kd.C_alloc ?_ _) | (with_reducible refine Kd.C_drewN ?_ _) | (with_reducible refine Kd.C_drew ?_))); (case side2 => exact (Kd.R_reads' HO400.out).2.1); rintro e w' ⟨rfl, ⟨nd, rfl⟩⟩; refine ⟨_, rfl, ?_⟩))
   go_meet
   case rel => exact ⟨_, (true), zu, H', ⟨by first | omega | exact Nat.le_refl _⟩, ⟨zy HB⟩⟩
 case rest =>
  clear HC3
  obtain ⟨kq, x25_2, rfl, HA, HJ2, HB⟩ := hcut
  cases kq with
  | zero => exact absurd HA.out (by simp [impl_WholeIslands.j0])
  | succ kj2 =>
   have H := HA.out; clear HA; simp only [impl_WholeIslands.j0] at H
   by_cases c16 : x25_2 = true
   ·subst c16
    rw [if_pos rfl] at H; simp only [Option.some.injEq, Prod.mk.injEq] at H; obtain ⟨rfl, rfl⟩ := H
    go_wp2
    go_ret2
    exact ⟨_, zt, by first | exact Kd.S_nil _ _ _ _ _ | exact Kd.N_nil _ _ _ _ _ | exact Kd.V_nil _ _ _ _ _ | exact Kd.Q_nil _ _ _ _ _ | exact Kd.R_nil _ _ _ _ _, zy HB⟩
   ·replace c16 := Bool.eq_false_iff.mpr c16
    subst c16; rw [if_neg (show ¬ (false = true) by decide)] at H
    obtain ⟨y406, hy406⟩ : ∃ y_ : List (List Int), y_ = (([] : List (List Int))) := ⟨_, rfl⟩
    replace H : (impl_WholeIslands.l0 kj2 a0 a1 y406 1) = some (r1, r2) := by first | (rw [hy406]; with_reducible exact H) | (have H2_ := (Option.bind_some _ _).symm.trans H; rw [hy406]; with_reducible exact H2_) | (have H2_ := (Option.bind_some _ _).symm.trans H; with_reducible exact H2_) | with_reducible exact H | (rw [hy406]; exact H) | exact H
    have Ny406 := Aside0.mk hy406; clear hy406; have H' := Aside0.mk H; clear H
    go_wp2_with (first | ((with_reducible refine gate_dst (N := 26) rfl ?_); (try (refine gate_guard (by rfl) ?_; dsimp only)); refine Kd.S_lit (Kd.slice 3 (Kd.int .i64)) _ 51 ?hg (N := 26) ?hd (xs := ([] : List (List Int))) (inner := []) (ok := fun _ => True) (okp := fun _ => True) ?hr ?hp (fun _ hk => hk) trivial (Below.refl _ _) (Nat.le_refl _) zO1_4 ?_; (case hd => rfl); (case hg => rfl); (case hr => first | (go_simp; done) | (go_simp; rfl)); (case hp => exact (Reps.none _ _)); intro v407 w17 ho18 hb hg_ hnew_; clear hg_ hnew_; (first | rw [← Ny406.out] at ho18 | (simp only [Int.reduceToNat] at ho18; rw [← Ny406.out] at ho18)); have HO408 := Aside0.mk (Kd.S_lower ho18 (below_size (zy HB))); replace HB := zh HB hb; clear hb ho18))
    go_loopg [6, 7] kj2 (fun kq v6 v7 w' => ∃ (x6_2 : List (List Int)) (x7_2 : Int), v7 = .int .i64 x7_2 ∧ Aside0 (impl_WholeIslands.l0 kq a0 a1 x6_2 x7_2 = some (r1, r2)) ∧ Aside0 (kq ≤ kj2) ∧ Aside0 (Kd.S (Kd.slice 3 (Kd.int .i64)) 51 w' w.heap.size (fun _ => True) v6 x6_2) ∧ Aside0 (Below w.heap.size w w'))
    case atStart => exact ⟨(y406), (1), zu, H', ⟨Nat.le_refl _⟩, ⟨by (with_reducible repeat (first | apply Kd.S_alloc | apply Kd.S_drewN | apply Kd.S_drew)); exact HO408.out⟩, ⟨zy HB⟩⟩
    case round =>
     clear H'
     obtain ⟨x6_2, x7_2, rfl, HA, HK2, HO_6, HB⟩ := hrel
     cases gk with
     | zero => exact absurd HA.out (by simp [impl_WholeIslands.l0])
     | succ k2 =>
      have H := HA.out; clear HA; simp only [impl_WholeIslands.l0] at H
      by_cases c19 : x7_2 < 30
      ·rw [if_pos c19] at H
       have c19b0 : decide (x7_2 < 30) = true := decide_eq_true c19; clear c19; have H' := Aside0.mk H; clear H
       go_wp2
       go_loopg [6, 8] k2 (fun kq v6 v8 w' => ∃ (x6_3 : List (List Int)) (x8_3 : Int), v8 = .int .i64 x8_3 ∧ Aside0 (impl_WholeIslands.l1 kq a0 a1 x6_3 x7_2 x8_3 = some (r1, r2)) ∧ Aside0 (kq ≤ k2) ∧ Aside0 (Kd.S (Kd.slice 3 (Kd.int .i64)) 51 w' w.heap.size (fun _ => True) v6 x6_3) ∧ Aside0 (Below w.heap.size w w'))
       case atStart => exact ⟨(x6_2), (wrap64 (x7_2 + 1)), zu, H', ⟨Nat.le_refl _⟩, ⟨by (with_reducible repeat (first | apply Kd.S_alloc | apply Kd.S_drewN | apply Kd.S_drew)); exact HO_6.out⟩, ⟨zy HB⟩⟩
       case round =>
        clear H'
        obtain ⟨x6_3, x8_3, rfl, HA, HK3, HO_6, HB⟩ := hrel
        cases gk with
        | zero => exact absurd HA.out (by simp [impl_WholeIslands.l1])
        | succ k3 =>
         have H := HA.out; clear HA; simp only [impl_WholeIslands.l1] at H
         by_cases c20 : x8_3 ≤ 30
         ·rw [if_pos c20] at H
          have c20b0 : decide (x8_3 ≤ 30) = true := decide_eq_true c20; clear c20; replace H := Option.bind_eq_some_iff.mp H; obtain ⟨⟨t410, t411, t412⟩, A210, H⟩ := H; (try dsimp only at H); have A21 := Aside0.mk A210; clear A210; replace H := Option.bind_eq_some_iff.mp H; obtain ⟨⟨t413, t414, t415⟩, A220, H⟩ := H; (try dsimp only at H); have A22 := Aside0.mk A220; clear A220
          by_cases c23 : t411 = 1
          ·rw [if_pos c23] at H
           have c23b0 : (t411 == 1) = true := beq_iff_eq.mpr c23
           have c23b1 : (t411 != 1) = false := bne_eq_false_iff_eq.mpr c23
           clear c23
           by_cases c24 : t414 = 1
           ·rw [if_pos c24] at H
            have c24b0 : (t414 == 1) = true := beq_iff_eq.mpr c24
            have c24b1 : (t414 != 1) = false := bne_eq_false_iff_eq.mpr c24
            clear c24
            obtain ⟨y416, hy416⟩ : ∃ y_ : List Int, y_ = (([x7_2, x8_3, t410, t413] : List Int)) := ⟨_, rfl⟩
            replace H : (if x6_3.length < 5864062014805 then (impl_WholeIslands.l1 k3 a0 a1 (x6_3 ++ [y416]) x7_2 (wrap64 (x8_3 + 1))) else (none)) = some (r1, r2) := by first | (rw [hy416]; with_reducible exact H) | (have H2_ := (Option.bind_some _ _).symm.trans H; rw [hy416]; with_reducible exact H2_) | (have H2_ := (Option.bind_some _ _).symm.trans H; with_reducible exact H2_) | with_reducible exact H | (rw [hy416]; exact H) | exact H
            have Ny416 := Aside0.mk hy416; clear hy416
            by_cases c25 : x6_3.length < 5864062014805
            ·rw [if_pos c25] at H
             have LMc25 := Aside0.mk c25; clear c25
             obtain ⟨y419, hy419⟩ : ∃ y_ : List (List Int), y_ = (x6_3 ++ [y416]) := ⟨_, rfl⟩
             replace H : (impl_WholeIslands.l1 k3 a0 a1 y419 x7_2 (wrap64 (x8_3 + 1))) = some (r1, r2) := by first | (rw [hy419]; with_reducible exact H) | (have H2_ := (Option.bind_some _ _).symm.trans H; rw [hy419]; with_reducible exact H2_) | (have H2_ := (Option.bind_some _ _).symm.trans H; with_reducible exact H2_) | with_reducible exact H | (rw [hy419]; exact H) | exact H
             have Ny419 := Aside0.mk hy419; clear hy419; have H' := Aside0.mk H; clear H
             go_wp2_with (first | ((with_reducible refine gate_dst (N := 9) rfl ?_); (try (refine gate_guard (by rfl) ?_; dsimp only)); refine zE 9 #[.int .i64 0, .int .i64 0, .int .i64 0, .int .i64 0] 25 ?_; intro gb409 hg w26 hbox hb; have n0_ := Aside0.mk (Kd.S_below zO1_3 hb); have BK409 := Aside0.mk (hbox); have GW409 := zg HB hg; have GE409 := GW409; replace HB := zh HB hb; clear HO_6; have HO_6 := n0_; clear n0_; clear hb hbox hg; obtain ⟨_, _, _, _, _, _, _, _⟩ := zc4 BK409) | ((with_reducible refine gate_callee (f := 6) rfl ?_); refine zG (some 44) Tryz.func6 #[.agg #[.int .i64 a0, .int .i64 a1, .int .i64 x7_2, .int .i64 x8_3]] ?_; (with_reducible refine (impl_IslandHeight.calls k3 a0 a1 x7_2 x8_3 t410 t411 t412 _ A21.out).mono ?_); rintro e w28 ⟨rfl, hb⟩; refine ⟨_, rfl, ?_⟩; have n0_ := Aside0.mk (Kd.S_below (by (with_reducible repeat (first | apply Kd.S_alloc | apply Kd.S_drewN | apply Kd.S_drew)); exact (Kd.S_mono (Kd.S_far (p := ⟨gb409, 3, none⟩) (Kd.S_far (p := ⟨gb409, 2, none⟩) (Kd.S_far (p := ⟨gb409, 1, none⟩) (Kd.S_far (p := ⟨gb409, 0, none⟩) (Kd.S_types HO_6.out BK409.out (by decide)) (fun _ hk => hk.2) (.int .i64 a0)) (fun _ hk => hk.2) (.int .i64 a1)) (fun _ hk => hk.2) (.int .i64 x7_2)) (fun _ hk => hk.2) (.int .i64 x8_3)) (fun _ h_ => h_.1))) hb); have n1_ := Aside0.mk (blk_below (g := gb409) (o := .cells #[.int .i64 a0, .int .i64 a1, .int .i64 x7_2, .int .i64 x8_3] 25 (0, 0)) (zw BK409) hb); replace HB := zh HB hb; clear HO_6; have HO_6 := n0_; clear n0_; clear BK409; have BK409 := n1_; clear n1_; clear hb; obtain ⟨_, _, _, _, _, _, _, _⟩ := zc4 BK409) | ((with_reducible refine gate_callee (f := 8) rfl ?_); refine zG (some 50) Tryz.func8 #[.agg #[.int .i64 a0, .int .i64 a1, .int .i64 x7_2, .int .i64 x8_3]] ?_; (with_reducible refine (impl_IslandAway.calls k3 a0 a1 x7_2 x8_3 t413 t414 t415 _ A22.out).mono ?_); rintro e w30 ⟨rfl, hb⟩; refine ⟨_, rfl, ?_⟩; have n0_ := Aside0.mk (Kd.S_below zO1_3 hb); replace BK409 := zb BK409 hb; replace HB := zh HB hb; clear HO_6; have HO_6 := n0_; clear n0_; clear hb) | ((with_reducible refine gate_dst (N := 65) rfl ?_); (try (refine gate_guard (by rfl) ?_; dsimp only)); refine Kd.R_lit (Kd.int .i64) _ 3 ?hg (N := 65) ?hd (xs := ([x7_2, x8_3, t410, t413] : List Int)) (inner := [.int .i64 x7_2, .int .i64 x8_3, .int .i64 t410, .int .i64 t413]) (ok := fun _ => True) (okp := fun _ => True) ?hr ?hp (fun _ hk => hk) trivial (Below.refl _ _) (Nat.le_refl _) zO1_4 ?_; (case hd => rfl); (case hg => rfl); (case hr => first | (go_simp; done) | (go_simp; rfl)); (case hp => exact (Reps.one (show Kd.M (Kd.int .i64) _ _ _ x7_2 [.int .i64 x7_2] from rfl) (Reps.one (show Kd.M (Kd.int .i64) _ _ _ x8_3 [.int .i64 x8_3] from rfl) (Reps.one (show Kd.M (Kd.int .i64) _ _ _ t410 [.int .i64 t410] from rfl) (Reps.one (show Kd.M (Kd.int .i64) _ _ _ t413 [.int .i64 t413] from rfl) (Reps.none _ _)))))); intro v417 w31 ho32 hb hg_ hnew_; clear hg_ hnew_; (first | rw [← Ny416.out] at ho32 | (simp only [Int.reduceToNat] at ho32; rw [← Ny416.out] at ho32)); have n0_ := Aside0.mk (Kd.S_elder' zO1_3 (Kd.R_base ho32) hb); have HO418 := Aside0.mk (Kd.R_lower ho32 (below_size (zy HB))); replace BK409 := zb BK409 hb; replace HB := zh HB hb; clear HO_6; have HO_6 := n0_; clear n0_; clear hb ho32; obtain ⟨Ao34, co34, eo34⟩ := Kd.R_slice HO418.out; subst eo34) | ((with_reducible refine gate_builtin (b := .append) (xs := #[.tmp 60, .tmp 66]) rfl ?_); (try (refine gate_guard (by rfl) ?_; dsimp only)); at_builtin; refine Kd.S_append (Kd.slice 3 (Kd.int .i64)) (w0 := w) w.heap.size rfl (.tmp 60) (.tmp 66) 43 51 (.slice none 0 0) 24 rfl Tryz.underlying43 info51 rfl (by decide) (by omega) u6 x6_3 y416 [.slice Ao34 y416.length co34] (fun _ => True) (fun k_ => some k_ = (.slice Ao34 y416.length co34 : Value).ownBlock) rfl rfl ?aP (fun k_ hk_ => ((Kd.R_mono (ok' := fun k_ => ((fun _ => True)) k_ ∧ some k_ ≠ (u6 : Value).ownBlock) (Kd.R_apart' (HO418.out) (Kd.S_typed HO_6.out) (by decide)) (fun k_ hk => ⟨trivial, hk.2⟩))).1 k_ hk_.symm) ?aF ?aO ?aB ?aS ?aL ?_; (case aP => exact Kd.M_row (Kd.R_mono (Kd.R_tight rfl (Kd.R_mono (ok' := fun k_ => ((fun _ => True)) k_ ∧ some k_ ≠ (u6 : Value).ownBlock) (Kd.R_apart' (HO418.out) (Kd.S_typed HO_6.out) (by decide)) (fun k_ hk => ⟨trivial, hk.2⟩))) (fun _ h_ => h_))); (case aB => exact (zy HB)); (case aF => exact (fun _ _ => trivial)); (case aO => exact zO1_0); (case aS => exact (below_size (zy HB))); (case aL => have := LMc25.out; omega); intro v420 w33 ho hb hg hat; rw [← Ny419.out] at ho; have n0_ := Aside0.mk (blk_grown (zq BK409) hg (Kd.S_ne HO_6.out BK409.out (by decide))); have HO421 := Aside0.mk (ho); replace HB := Aside0.mk hb; clear HO_6 HO418; clear BK409; have BK409 := n0_; clear n0_; clear ho hb hg hat))
             go_roundg k3
             case measure => have := HJ2.out; have := HK2.out; have := HK3.out; omega
             case rel => exact ⟨(y419), (wrap64 (x8_3 + 1)), zu, H', ⟨by have := HJ2.out; have := HK2.out; have := HK3.out; omega⟩, ⟨by (with_reducible repeat (first | apply Kd.S_alloc | apply Kd.S_drewN | apply Kd.S_drew)); exact HO421.out⟩, ⟨zy HB⟩⟩
            ·rw [if_neg c25] at H
             exact absurd H zO1_4
           ·rw [if_neg c24] at H
            have c24b0 : (t414 == 1) = false := beq_eq_false_iff_ne.mpr c24
            have c24b1 : (t414 != 1) = true := bne_iff_ne.mpr c24
            have H' := Aside0.mk H; clear H
            go_wp2_with (first | ((with_reducible refine gate_dst (N := 9) rfl ?_); (try (refine gate_guard (by rfl) ?_; dsimp only)); refine zE 9 #[.int .i64 0, .int .i64 0, .int .i64 0, .int .i64 0] 25 ?_; intro gb409 hg w35 hbox hb; have n0_ := Aside0.mk (Kd.S_below zO1_3 hb); have BK409 := Aside0.mk (hbox); have GW409 := zg HB hg; have GE409 := GW409; replace HB := zh HB hb; clear HO_6; have HO_6 := n0_; clear n0_; clear hb hbox hg; obtain ⟨_, _, _, _, _, _, _, _⟩ := zc4 BK409) | ((with_reducible refine gate_callee (f := 6) rfl ?_); refine zG (some 44) Tryz.func6 #[.agg #[.int .i64 a0, .int .i64 a1, .int .i64 x7_2, .int .i64 x8_3]] ?_; (with_reducible refine (impl_IslandHeight.calls k3 a0 a1 x7_2 x8_3 t410 t411 t412 _ A21.out).mono ?_); rintro e w37 ⟨rfl, hb⟩; refine ⟨_, rfl, ?_⟩; have n0_ := Aside0.mk (Kd.S_below (by (with_reducible repeat (first | apply Kd.S_alloc | apply Kd.S_drewN | apply Kd.S_drew)); exact (Kd.S_mono (Kd.S_far (p := ⟨gb409, 3, none⟩) (Kd.S_far (p := ⟨gb409, 2, none⟩) (Kd.S_far (p := ⟨gb409, 1, none⟩) (Kd.S_far (p := ⟨gb409, 0, none⟩) (Kd.S_types HO_6.out BK409.out (by decide)) (fun _ hk => hk.2) (.int .i64 a0)) (fun _ hk => hk.2) (.int .i64 a1)) (fun _ hk => hk.2) (.int .i64 x7_2)) (fun _ hk => hk.2) (.int .i64 x8_3)) (fun _ h_ => h_.1))) hb); have n1_ := Aside0.mk (blk_below (g := gb409) (o := .cells #[.int .i64 a0, .int .i64 a1, .int .i64 x7_2, .int .i64 x8_3] 25 (0, 0)) (zw BK409) hb); replace HB := zh HB hb; clear HO_6; have HO_6 := n0_; clear n0_; clear BK409; have BK409 := n1_; clear n1_; clear hb; obtain ⟨_, _, _, _, _, _, _, _⟩ := zc4 BK409) | ((with_reducible refine gate_callee (f := 8) rfl ?_); refine zG (some 50) Tryz.func8 #[.agg #[.int .i64 a0, .int .i64 a1, .int .i64 x7_2, .int .i64 x8_3]] ?_; (with_reducible refine (impl_IslandAway.calls k3 a0 a1 x7_2 x8_3 t413 t414 t415 _ A22.out).mono ?_); rintro e w39 ⟨rfl, hb⟩; refine ⟨_, rfl, ?_⟩; have n0_ := Aside0.mk (Kd.S_below zO1_3 hb); replace BK409 := zb BK409 hb; replace HB := zh HB hb; clear HO_6; have HO_6 := n0_; clear n0_; clear hb))
            go_roundg k3
            case measure => have := HJ2.out; have := HK2.out; have := HK3.out; omega
            case rel => exact ⟨(x6_3), (wrap64 (x8_3 + 1)), zu, H', ⟨by have := HJ2.out; have := HK2.out; have := HK3.out; omega⟩, ⟨by (with_reducible repeat (first | apply Kd.S_alloc | apply Kd.S_drewN | apply Kd.S_drew)); exact HO_6.out⟩, ⟨zy HB⟩⟩
          ·rw [if_neg c23] at H
           have c23b0 : (t411 == 1) = false := beq_eq_false_iff_ne.mpr c23
           have c23b1 : (t411 != 1) = true := bne_iff_ne.mpr c23
           have H' := Aside0.mk H; clear H
           go_wp2_with (first | ((with_reducible refine gate_dst (N := 9) rfl ?_); (try (refine gate_guard (by rfl) ?_; dsimp only)); refine zE 9 #[.int .i64 0, .int .i64 0, .int .i64 0, .int .i64 0] 25 ?_; intro gb409 hg w40 hbox hb; have n0_ := Aside0.mk (Kd.S_below zO1_3 hb); have BK409 := Aside0.mk (hbox); have GW409 := zg HB hg; have GE409 := GW409; replace HB := zh HB hb; clear HO_6; have HO_6 := n0_; clear n0_; clear hb hbox hg; obtain ⟨_, _, _, _, _, _, _, _⟩ := zc4 BK409) | ((with_reducible refine gate_callee (f := 6) rfl ?_); refine zG (some 44) Tryz.func6 #[.agg #[.int .i64 a0, .int .i64 a1, .int .i64 x7_2, .int .i64 x8_3]] ?_; (with_reducible refine (impl_IslandHeight.calls k3 a0 a1 x7_2 x8_3 t410 t411 t412 _ A21.out).mono ?_); rintro e w42 ⟨rfl, hb⟩; refine ⟨_, rfl, ?_⟩; have n0_ := Aside0.mk (Kd.S_below (by (with_reducible repeat (first | apply Kd.S_alloc | apply Kd.S_drewN | apply Kd.S_drew)); exact (Kd.S_mono (Kd.S_far (p := ⟨gb409, 3, none⟩) (Kd.S_far (p := ⟨gb409, 2, none⟩) (Kd.S_far (p := ⟨gb409, 1, none⟩) (Kd.S_far (p := ⟨gb409, 0, none⟩) (Kd.S_types HO_6.out BK409.out (by decide)) (fun _ hk => hk.2) (.int .i64 a0)) (fun _ hk => hk.2) (.int .i64 a1)) (fun _ hk => hk.2) (.int .i64 x7_2)) (fun _ hk => hk.2) (.int .i64 x8_3)) (fun _ h_ => h_.1))) hb); have n1_ := Aside0.mk (blk_below (g := gb409) (o := .cells #[.int .i64 a0, .int .i64 a1, .int .i64 x7_2, .int .i64 x8_3] 25 (0, 0)) (zw BK409) hb); replace HB := zh HB hb; clear HO_6; have HO_6 := n0_; clear n0_; clear BK409; have BK409 := n1_; clear n1_; clear hb; obtain ⟨_, _, _, _, _, _, _, _⟩ := zc4 BK409) | ((with_reducible refine gate_callee (f := 8) rfl ?_); refine zG (some 50) Tryz.func8 #[.agg #[.int .i64 a0, .int .i64 a1, .int .i64 x7_2, .int .i64 x8_3]] ?_; (with_reducible refine (impl_IslandAway.calls k3 a0 a1 x7_2 x8_3 t413 t414 t415 _ A22.out).mono ?_); rintro e w44 ⟨rfl, hb⟩; refine ⟨_, rfl, ?_⟩; have n0_ := Aside0.mk (Kd.S_below zO1_3 hb); replace BK409 := zb BK409 hb; replace HB := zh HB hb; clear HO_6; have HO_6 := n0_; clear n0_; clear hb))
           go_roundg k3
           case measure => have := HJ2.out; have := HK2.out; have := HK3.out; omega
           case rel => exact ⟨(x6_3), (wrap64 (x8_3 + 1)), zu, H', ⟨by have := HJ2.out; have := HK2.out; have := HK3.out; omega⟩, ⟨by (with_reducible repeat (first | apply Kd.S_alloc | apply Kd.S_drewN | apply Kd.S_drew)); exact HO_6.out⟩, ⟨zy HB⟩⟩
         ·rw [if_neg c20] at H
          have c20b0 : decide (x8_3 ≤ 30) = false := decide_eq_false c20; clear c20; have H' := Aside0.mk H; clear H
          go_wp2
          go_roundg k3
          case measure => have := HJ2.out; have := HK2.out; have := HK3.out; omega
          case rel => exact ⟨(x6_3), (wrap64 (x7_2 + 1)), zu, H', ⟨by have := HJ2.out; have := HK2.out; have := HK3.out; omega⟩, ⟨by (with_reducible repeat (first | apply Kd.S_alloc | apply Kd.S_drewN | apply Kd.S_drew)); exact HO_6.out⟩, ⟨zy HB⟩⟩
      ·rw [if_neg c19] at H
       have c19b0 : decide (x7_2 < 30) = false := decide_eq_false c19; clear c19; simp only [Option.some.injEq, Prod.mk.injEq] at H; obtain ⟨rfl, rfl⟩ := H
       go_wp2
       go_ret2
       exact ⟨_, zt, by (with_reducible repeat (first | apply Kd.S_alloc | apply Kd.S_drewN | apply Kd.S_drew)); exact HO_6.out, zy HB⟩


/-! ### spec_WholeIslands: function 26 -/
mutual
def spec_WholeIslands.j0 : Nat → Int → Int → Bool → Option ((List (List Int)) × Bool)
 | 0, _, _, _ => none
 | k + 1, x0, x1, x22 => if x22 = true then (some (([] : List (List Int)), false)) else (spec_WholeIslands.l0 k x0 x1 ([] : List (List Int)) 1)
def spec_WholeIslands.l0 : Nat → Int → Int → List (List Int) → Int → Option ((List (List Int)) × Bool)
 | 0, _, _, _, _ => none
 | k + 1, x0, x1, x6, x7 => if x7 < 30 then (spec_WholeIslands.l1 k x0 x1 x6 x7 (wrap64 (x7 + 1))) else (some (x6, true))
def spec_WholeIslands.l1 : Nat → Int → Int → List (List Int) → Int → Int → Option ((List (List Int)) × Bool)
 | 0, _, _, _, _, _ => none
 | k + 1, x0, x1, x6, x7, x8 => if x8 ≤ 30 then ((spec_htHeight.f k x0 x1 x7 x8).bind fun bt428 => ((spec_htAway.f k x0 x1 x7 x8).bind fun bt430 => (if bt428.2 = 1 then (if bt430.2 = 1 then (if x6.length < 5864062014805 then (spec_WholeIslands.l1 k x0 x1 (x6 ++ [(([x7, x8, bt428.1, bt430.1] : List Int))]) x7 (wrap64 (x8 + 1))) else (none)) else (spec_WholeIslands.l1 k x0 x1 x6 x7 (wrap64 (x8 + 1)))) else (spec_WholeIslands.l1 k x0 x1 x6 x7 (wrap64 (x8 + 1)))))) else (spec_WholeIslands.l0 k x0 x1 x6 (wrap64 (x7 + 1)))
end
def spec_WholeIslands.f (k : Nat) (a0 : Int) (a1 : Int) : Option ((List (List Int)) × Bool) := (spec_htStaff.f a0).bind fun t422 => (if t422 = true then ((spec_htLong.f k (([a1] : List Int))).bind fun t426 => (spec_WholeIslands.j0 k a0 a1 (!t426))) else (spec_WholeIslands.j0 k a0 a1 true))
set_option maxHeartbeats 8000000 in
set_option maxRecDepth 100000 in
theorem spec_WholeIslands.calls (k : Nat) (a0 : Int) (a1 : Int) (r1 : List (List Int)) (r2 : Bool) (w : World) (h : spec_WholeIslands.f k a0 a1 = some (r1, r2)) :
  Calls Tryz.prog 26 #[.int .i64 a0, .int .i64 a1] w fun e w' => ∃ v0_ : Value, e = .returned (.tuple #[v0_, .bool r2]) ∧ Kd.S (Kd.slice 3 (Kd.int .i64)) 51 w' w.heap.size (fun _ => True) v0_ r1 ∧ Below w.heap.size w w' := by
 have hu25 := Tryz.underlying25
 have HB := Aside0.mk (Below.refl w.heap.size w)
 have H : ((spec_htStaff.f a0).bind fun t422 => (if t422 = true then ((spec_htLong.f k (([a1] : List Int))).bind fun t426 => (spec_WholeIslands.j0 k a0 a1 (!t426))) else (spec_WholeIslands.j0 k a0 a1 true))) = some (r1, r2) := h
 clear h; have HC3 := Aside0.mk H; clear H
 go_enter Tryz.func26, Tryz.ntmps26
 go_upto_region 1 with (fail)
 go_cut [22] (fun v22 wc => ∃ (kq : Nat) (x22_2 : Bool), v22 = .bool x22_2 ∧ Aside0 (spec_WholeIslands.j0 kq a0 a1 x22_2 = some (r1, r2)) ∧ Aside0 (kq ≤ k) ∧ Aside0 (Below w.heap.size w wc))
 case first =>
  have H := HC3.out; clear HC3; replace H := Option.bind_eq_some_iff.mp H; obtain ⟨t422, A40, H⟩ := H; (try dsimp only at H); have A4 := Aside0.mk A40; clear A40
  by_cases c5 : t422 = true
  ·subst c5
   rw [if_pos rfl] at H
   obtain ⟨y423, hy423⟩ : ∃ y_ : List Int, y_ = (([a1] : List Int)) := ⟨_, rfl⟩
   replace H : ((spec_htLong.f k y423).bind fun t426 => (spec_WholeIslands.j0 k a0 a1 (!t426))) = some (r1, r2) := by first | (rw [hy423]; with_reducible exact H) | (have H2_ := (Option.bind_some _ _).symm.trans H; rw [hy423]; with_reducible exact H2_) | (have H2_ := (Option.bind_some _ _).symm.trans H; with_reducible exact H2_) | with_reducible exact H | (rw [hy423]; exact H) | exact H
   have Ny423 := Aside0.mk hy423; clear hy423; replace H := Option.bind_eq_some_iff.mp H; obtain ⟨t426, A60, H⟩ := H
   replace H : (spec_WholeIslands.j0 k a0 a1 (!t426)) = some (r1, r2) := H
   have A6 := Aside0.mk A60; clear A60; have H' := Aside0.mk H; clear H
   go_wp2_with (first | ((with_reducible refine gate_callee (f := 48) rfl ?_); refine zG (some 15) Tryz.func48 #[.int .i64 a0] ?_; (with_reducible refine (spec_htStaff.calls a0 true _ A4.out).mono ?_); rintro e w' ⟨rfl, ⟨nd, rfl⟩⟩; refine ⟨_, rfl, ?_⟩) | ((with_reducible refine gate_dst (N := 19) rfl ?_); (try (refine gate_guard (by rfl) ?_; dsimp only)); refine Kd.R_lit (Kd.int .i64) _ 3 ?hg (N := 19) ?hd (xs := ([a1] : List Int)) (inner := [.int .i64 a1]) (ok := fun _ => True) (okp := fun _ => True) ?hr ?hp (fun _ hk => hk) trivial (Below.refl _ _) (Nat.le_refl _) zO1_4 ?_; (case hd => rfl); (case hg => rfl); (case hr => first | (go_simp; done) | (go_simp; rfl)); (case hp => exact (Reps.one (show Kd.M (Kd.int .i64) _ _ _ a1 [.int .i64 a1] from rfl) (Reps.none _ _))); intro v424 w7 ho8 hb hg_ hnew_; clear hg_ hnew_; (first | rw [← Ny423.out] at ho8 | (simp only [Int.reduceToNat] at ho8; rw [← Ny423.out] at ho8)); have HO425 := Aside0.mk (Kd.R_lower ho8 (below_size (zy HB))); replace HB := zh HB hb; clear hb ho8; obtain ⟨Ao9, co9, eo9⟩ := Kd.R_slice HO425.out; subst eo9) | (go_at_call 49; (with_reducible refine (spec_htLong.calls k _ _ y423 t426 _ ?side1 ?side2 A6.out).mono ?_); (case side1 => repeat (first | exact (Kd.R_reads' HO425.out).2.2 | (with_reducible refine Kd.C_alloc ?_ _) | (with_reducible refine Kd.C_drewN ?_ _) | (with_reducible refine Kd.C_drew ?_))); (case side2 => exact (Kd.R_reads' HO425.out).2.1); rintro e w' ⟨rfl, ⟨nd, rfl⟩⟩))
   go_meet
   case rel => exact ⟨_, (!t426), zu, H', ⟨by first | omega | exact Nat.le_refl _⟩, ⟨zy HB⟩⟩
  ·replace c5 := Bool.eq_false_iff.mpr c5
   subst c5; rw [if_neg (show ¬ (false = true) by decide)] at H; have H' := Aside0.mk H; clear H
   go_wp2_with (first | ((with_reducible refine gate_callee (f := 48) rfl ?_); refine zG (some 15) Tryz.func48 #[.int .i64 a0] ?_; (with_reducible refine (spec_htStaff.calls a0 false _ A4.out).mono ?_); rintro e w' ⟨rfl, ⟨nd, rfl⟩⟩; refine ⟨_, rfl, ?_⟩))
   go_meet
   case rel => exact ⟨_, (true), zu, H', ⟨by first | omega | exact Nat.le_refl _⟩, ⟨zy HB⟩⟩
 case rest =>
  clear HC3
  obtain ⟨kq, x22_2, rfl, HA, HJ2, HB⟩ := hcut
  cases kq with
  | zero => exact absurd HA.out (by simp [spec_WholeIslands.j0])
  | succ kj2 =>
   have H := HA.out; clear HA; simp only [spec_WholeIslands.j0] at H
   by_cases c10 : x22_2 = true
   ·subst c10
    rw [if_pos rfl] at H; simp only [Option.some.injEq, Prod.mk.injEq] at H; obtain ⟨rfl, rfl⟩ := H
    go_wp2
    go_ret2
    exact ⟨_, zt, by first | exact Kd.S_nil _ _ _ _ _ | exact Kd.N_nil _ _ _ _ _ | exact Kd.V_nil _ _ _ _ _ | exact Kd.Q_nil _ _ _ _ _ | exact Kd.R_nil _ _ _ _ _, zy HB⟩
   ·replace c10 := Bool.eq_false_iff.mpr c10
    subst c10; rw [if_neg (show ¬ (false = true) by decide)] at H; have H' := Aside0.mk H; clear H
    go_wp2
    go_loopg [6, 7] kj2 (fun kq v6 v7 w' => ∃ (x6_2 : List (List Int)) (x7_2 : Int), v7 = .int .i64 x7_2 ∧ Aside0 (spec_WholeIslands.l0 kq a0 a1 x6_2 x7_2 = some (r1, r2)) ∧ Aside0 (kq ≤ kj2) ∧ Aside0 (Kd.S (Kd.slice 3 (Kd.int .i64)) 51 w' w.heap.size (fun _ => True) v6 x6_2) ∧ Aside0 (Below w.heap.size w w'))
    case atStart => exact ⟨(([] : List (List Int))), (1), zu, H', ⟨Nat.le_refl _⟩, ⟨by first | exact Kd.S_nil _ _ _ _ _ | exact Kd.N_nil _ _ _ _ _ | exact Kd.V_nil _ _ _ _ _ | exact Kd.Q_nil _ _ _ _ _ | exact Kd.R_nil _ _ _ _ _⟩, ⟨zy HB⟩⟩
    case round =>
     clear H'
     obtain ⟨x6_2, x7_2, rfl, HA, HK2, HO_6, HB⟩ := hrel
     cases gk with
     | zero => exact absurd HA.out (by simp [spec_WholeIslands.l0])
     | succ k2 =>
      have H := HA.out; clear HA; simp only [spec_WholeIslands.l0] at H
      by_cases c11 : x7_2 < 30
      ·rw [if_pos c11] at H
       have c11b0 : decide (x7_2 < 30) = true := decide_eq_true c11; clear c11; have H' := Aside0.mk H; clear H
       go_wp2
       go_loopg [6, 8] k2 (fun kq v6 v8 w' => ∃ (x6_3 : List (List Int)) (x8_3 : Int), v8 = .int .i64 x8_3 ∧ Aside0 (spec_WholeIslands.l1 kq a0 a1 x6_3 x7_2 x8_3 = some (r1, r2)) ∧ Aside0 (kq ≤ k2) ∧ Aside0 (Kd.S (Kd.slice 3 (Kd.int .i64)) 51 w' w.heap.size (fun _ => True) v6 x6_3) ∧ Aside0 (Below w.heap.size w w'))
       case atStart => exact ⟨(x6_2), (wrap64 (x7_2 + 1)), zu, H', ⟨Nat.le_refl _⟩, ⟨by (with_reducible repeat (first | apply Kd.S_alloc | apply Kd.S_drewN | apply Kd.S_drew)); exact HO_6.out⟩, ⟨zy HB⟩⟩
       case round =>
        clear H'
        obtain ⟨x6_3, x8_3, rfl, HA, HK3, HO_6, HB⟩ := hrel
        cases gk with
        | zero => exact absurd HA.out (by simp [spec_WholeIslands.l1])
        | succ k3 =>
         have H := HA.out; clear HA; simp only [spec_WholeIslands.l1] at H
         by_cases c12 : x8_3 ≤ 30
         ·rw [if_pos c12] at H
          have c12b0 : decide (x8_3 ≤ 30) = true := decide_eq_true c12; clear c12; replace H := Option.bind_eq_some_iff.mp H; obtain ⟨⟨t428, t429⟩, A130, H⟩ := H; (try dsimp only at H); have A13 := Aside0.mk A130; clear A130; replace H := Option.bind_eq_some_iff.mp H; obtain ⟨⟨t430, t431⟩, A140, H⟩ := H; (try dsimp only at H); have A14 := Aside0.mk A140; clear A140
          by_cases c15 : t429 = 1
          ·rw [if_pos c15] at H
           have c15b0 : (t429 == 1) = true := beq_iff_eq.mpr c15
           have c15b1 : (t429 != 1) = false := bne_eq_false_iff_eq.mpr c15
           clear c15
           by_cases c16 : t431 = 1
           ·rw [if_pos c16] at H
            have c16b0 : (t431 == 1) = true := beq_iff_eq.mpr c16
            have c16b1 : (t431 != 1) = false := bne_eq_false_iff_eq.mpr c16
            clear c16
            obtain ⟨y432, hy432⟩ : ∃ y_ : List Int, y_ = (([x7_2, x8_3, t428, t430] : List Int)) := ⟨_, rfl⟩
            replace H : (if x6_3.length < 5864062014805 then (spec_WholeIslands.l1 k3 a0 a1 (x6_3 ++ [y432]) x7_2 (wrap64 (x8_3 + 1))) else (none)) = some (r1, r2) := by first | (rw [hy432]; with_reducible exact H) | (have H2_ := (Option.bind_some _ _).symm.trans H; rw [hy432]; with_reducible exact H2_) | (have H2_ := (Option.bind_some _ _).symm.trans H; with_reducible exact H2_) | with_reducible exact H | (rw [hy432]; exact H) | exact H
            have Ny432 := Aside0.mk hy432; clear hy432
            by_cases c17 : x6_3.length < 5864062014805
            ·rw [if_pos c17] at H
             have LMc17 := Aside0.mk c17; clear c17
             obtain ⟨y435, hy435⟩ : ∃ y_ : List (List Int), y_ = (x6_3 ++ [y432]) := ⟨_, rfl⟩
             replace H : (spec_WholeIslands.l1 k3 a0 a1 y435 x7_2 (wrap64 (x8_3 + 1))) = some (r1, r2) := by first | (rw [hy435]; with_reducible exact H) | (have H2_ := (Option.bind_some _ _).symm.trans H; rw [hy435]; with_reducible exact H2_) | (have H2_ := (Option.bind_some _ _).symm.trans H; with_reducible exact H2_) | with_reducible exact H | (rw [hy435]; exact H) | exact H
             have Ny435 := Aside0.mk hy435; clear hy435; have H' := Aside0.mk H; clear H
             go_wp2_with (first | ((with_reducible refine gate_dst (N := 9) rfl ?_); (try (refine gate_guard (by rfl) ?_; dsimp only)); refine zE 9 #[.int .i64 0, .int .i64 0, .int .i64 0, .int .i64 0] 25 ?_; intro gb427 hg w18 hbox hb; have n0_ := Aside0.mk (Kd.S_below zO1_3 hb); have BK427 := Aside0.mk (hbox); have GW427 := zg HB hg; have GE427 := GW427; replace HB := zh HB hb; clear HO_6; have HO_6 := n0_; clear n0_; clear hb hbox hg; obtain ⟨_, _, _, _, _, _, _, _⟩ := zc4 BK427) | ((with_reducible refine gate_callee (f := 36) rfl ?_); refine zG (some 40) Tryz.func36 #[.agg #[.int .i64 a0, .int .i64 a1, .int .i64 x7_2, .int .i64 x8_3]] ?_; (with_reducible refine (spec_htHeight.calls k3 a0 a1 x7_2 x8_3 t428 t429 _ A13.out).mono ?_); rintro e w20 ⟨rfl, hb⟩; refine ⟨_, rfl, ?_⟩; have n0_ := Aside0.mk (Kd.S_below (by (with_reducible repeat (first | apply Kd.S_alloc | apply Kd.S_drewN | apply Kd.S_drew)); exact (Kd.S_mono (Kd.S_far (p := ⟨gb427, 3, none⟩) (Kd.S_far (p := ⟨gb427, 2, none⟩) (Kd.S_far (p := ⟨gb427, 1, none⟩) (Kd.S_far (p := ⟨gb427, 0, none⟩) (Kd.S_types HO_6.out BK427.out (by decide)) (fun _ hk => hk.2) (.int .i64 a0)) (fun _ hk => hk.2) (.int .i64 a1)) (fun _ hk => hk.2) (.int .i64 x7_2)) (fun _ hk => hk.2) (.int .i64 x8_3)) (fun _ h_ => h_.1))) hb); have n1_ := Aside0.mk (blk_below (g := gb427) (o := .cells #[.int .i64 a0, .int .i64 a1, .int .i64 x7_2, .int .i64 x8_3] 25 (0, 0)) (zw BK427) hb); replace HB := zh HB hb; clear HO_6; have HO_6 := n0_; clear n0_; clear BK427; have BK427 := n1_; clear n1_; clear hb; obtain ⟨_, _, _, _, _, _, _, _⟩ := zc4 BK427) | ((with_reducible refine gate_callee (f := 37) rfl ?_); refine zG (some 45) Tryz.func37 #[.agg #[.int .i64 a0, .int .i64 a1, .int .i64 x7_2, .int .i64 x8_3]] ?_; (with_reducible refine (spec_htAway.calls k3 a0 a1 x7_2 x8_3 t430 t431 _ A14.out).mono ?_); rintro e w22 ⟨rfl, hb⟩; refine ⟨_, rfl, ?_⟩; have n0_ := Aside0.mk (Kd.S_below zO1_3 hb); replace BK427 := zb BK427 hb; replace HB := zh HB hb; clear HO_6; have HO_6 := n0_; clear n0_; clear hb) | ((with_reducible refine gate_dst (N := 59) rfl ?_); (try (refine gate_guard (by rfl) ?_; dsimp only)); refine Kd.R_lit (Kd.int .i64) _ 3 ?hg (N := 59) ?hd (xs := ([x7_2, x8_3, t428, t430] : List Int)) (inner := [.int .i64 x7_2, .int .i64 x8_3, .int .i64 t428, .int .i64 t430]) (ok := fun _ => True) (okp := fun _ => True) ?hr ?hp (fun _ hk => hk) trivial (Below.refl _ _) (Nat.le_refl _) zO1_4 ?_; (case hd => rfl); (case hg => rfl); (case hr => first | (go_simp; done) | (go_simp; rfl)); (case hp => exact (Reps.one (show Kd.M (Kd.int .i64) _ _ _ x7_2 [.int .i64 x7_2] from rfl) (Reps.one (show Kd.M (Kd.int .i64) _ _ _ x8_3 [.int .i64 x8_3] from rfl) (Reps.one (show Kd.M (Kd.int .i64) _ _ _ t428 [.int .i64 t428] from rfl) (Reps.one (show Kd.M (Kd.int .i64) _ _ _ t430 [.int .i64 t430] from rfl) (Reps.none _ _)))))); intro v433 w23 ho24 hb hg_ hnew_; clear hg_ hnew_; (first | rw [← Ny432.out] at ho24 | (simp only [Int.reduceToNat] at ho24; rw [← Ny432.out] at ho24)); have n0_ := Aside0.mk (Kd.S_elder' zO1_3 (Kd.R_base ho24) hb); have HO434 := Aside0.mk (Kd.R_lower ho24 (below_size (zy HB))); replace BK427 := zb BK427 hb; replace HB := zh HB hb; clear HO_6; have HO_6 := n0_; clear n0_; clear hb ho24; obtain ⟨Ao26, co26, eo26⟩ := Kd.R_slice HO434.out; subst eo26) | ((with_reducible refine gate_builtin (b := .append) (xs := #[.tmp 54, .tmp 60]) rfl ?_); (try (refine gate_guard (by rfl) ?_; dsimp only)); at_builtin; refine Kd.S_append (Kd.slice 3 (Kd.int .i64)) (w0 := w) w.heap.size rfl (.tmp 54) (.tmp 60) 43 51 (.slice none 0 0) 24 rfl Tryz.underlying43 info51 rfl (by decide) (by omega) u6 x6_3 y432 [.slice Ao26 y432.length co26] (fun _ => True) (fun k_ => some k_ = (.slice Ao26 y432.length co26 : Value).ownBlock) rfl rfl ?aP (fun k_ hk_ => ((Kd.R_mono (ok' := fun k_ => ((fun _ => True)) k_ ∧ some k_ ≠ (u6 : Value).ownBlock) (Kd.R_apart' (HO434.out) (Kd.S_typed HO_6.out) (by decide)) (fun k_ hk => ⟨trivial, hk.2⟩))).1 k_ hk_.symm) ?aF ?aO ?aB ?aS ?aL ?_; (case aP => exact Kd.M_row (Kd.R_mono (Kd.R_tight rfl (Kd.R_mono (ok' := fun k_ => ((fun _ => True)) k_ ∧ some k_ ≠ (u6 : Value).ownBlock) (Kd.R_apart' (HO434.out) (Kd.S_typed HO_6.out) (by decide)) (fun k_ hk => ⟨trivial, hk.2⟩))) (fun _ h_ => h_))); (case aB => exact (zy HB)); (case aF => exact (fun _ _ => trivial)); (case aO => exact zO1_0); (case aS => exact (below_size (zy HB))); (case aL => have := LMc17.out; omega); intro v436 w25 ho hb hg hat; rw [← Ny435.out] at ho; have n0_ := Aside0.mk (blk_grown (zq BK427) hg (Kd.S_ne HO_6.out BK427.out (by decide))); have HO437 := Aside0.mk (ho); replace HB := Aside0.mk hb; clear HO_6 HO434; clear BK427; have BK427 := n0_; clear n0_; clear ho hb hg hat))
             go_roundg k3
             case measure => have := HJ2.out; have := HK2.out; have := HK3.out; omega
             case rel => exact ⟨(y435), (wrap64 (x8_3 + 1)), zu, H', ⟨by have := HJ2.out; have := HK2.out; have := HK3.out; omega⟩, ⟨by (with_reducible repeat (first | apply Kd.S_alloc | apply Kd.S_drewN | apply Kd.S_drew)); exact HO437.out⟩, ⟨zy HB⟩⟩
            ·rw [if_neg c17] at H
             exact absurd H zO1_4
           ·rw [if_neg c16] at H
            have c16b0 : (t431 == 1) = false := beq_eq_false_iff_ne.mpr c16
            have c16b1 : (t431 != 1) = true := bne_iff_ne.mpr c16
            have H' := Aside0.mk H; clear H
            go_wp2_with (first | ((with_reducible refine gate_dst (N := 9) rfl ?_); (try (refine gate_guard (by rfl) ?_; dsimp only)); refine zE 9 #[.int .i64 0, .int .i64 0, .int .i64 0, .int .i64 0] 25 ?_; intro gb427 hg w27 hbox hb; have n0_ := Aside0.mk (Kd.S_below zO1_3 hb); have BK427 := Aside0.mk (hbox); have GW427 := zg HB hg; have GE427 := GW427; replace HB := zh HB hb; clear HO_6; have HO_6 := n0_; clear n0_; clear hb hbox hg; obtain ⟨_, _, _, _, _, _, _, _⟩ := zc4 BK427) | ((with_reducible refine gate_callee (f := 36) rfl ?_); refine zG (some 40) Tryz.func36 #[.agg #[.int .i64 a0, .int .i64 a1, .int .i64 x7_2, .int .i64 x8_3]] ?_; (with_reducible refine (spec_htHeight.calls k3 a0 a1 x7_2 x8_3 t428 t429 _ A13.out).mono ?_); rintro e w29 ⟨rfl, hb⟩; refine ⟨_, rfl, ?_⟩; have n0_ := Aside0.mk (Kd.S_below (by (with_reducible repeat (first | apply Kd.S_alloc | apply Kd.S_drewN | apply Kd.S_drew)); exact (Kd.S_mono (Kd.S_far (p := ⟨gb427, 3, none⟩) (Kd.S_far (p := ⟨gb427, 2, none⟩) (Kd.S_far (p := ⟨gb427, 1, none⟩) (Kd.S_far (p := ⟨gb427, 0, none⟩) (Kd.S_types HO_6.out BK427.out (by decide)) (fun _ hk => hk.2) (.int .i64 a0)) (fun _ hk => hk.2) (.int .i64 a1)) (fun _ hk => hk.2) (.int .i64 x7_2)) (fun _ hk => hk.2) (.int .i64 x8_3)) (fun _ h_ => h_.1))) hb); have n1_ := Aside0.mk (blk_below (g := gb427) (o := .cells #[.int .i64 a0, .int .i64 a1, .int .i64 x7_2, .int .i64 x8_3] 25 (0, 0)) (zw BK427) hb); replace HB := zh HB hb; clear HO_6; have HO_6 := n0_; clear n0_; clear BK427; have BK427 := n1_; clear n1_; clear hb; obtain ⟨_, _, _, _, _, _, _, _⟩ := zc4 BK427) | ((with_reducible refine gate_callee (f := 37) rfl ?_); refine zG (some 45) Tryz.func37 #[.agg #[.int .i64 a0, .int .i64 a1, .int .i64 x7_2, .int .i64 x8_3]] ?_; (with_reducible refine (spec_htAway.calls k3 a0 a1 x7_2 x8_3 t430 t431 _ A14.out).mono ?_); rintro e w31 ⟨rfl, hb⟩; refine ⟨_, rfl, ?_⟩; have n0_ := Aside0.mk (Kd.S_below zO1_3 hb); replace BK427 := zb BK427 hb; replace HB := zh HB hb; clear HO_6; have HO_6 := n0_; clear n0_; clear hb))
            go_roundg k3
            case measure => have := HJ2.out; have := HK2.out; have := HK3.out; omega
            case rel => exact ⟨(x6_3), (wrap64 (x8_3 + 1)), zu, H', ⟨by have := HJ2.out; have := HK2.out; have := HK3.out; omega⟩, ⟨by (with_reducible repeat (first | apply Kd.S_alloc | apply Kd.S_drewN | apply Kd.S_drew)); exact HO_6.out⟩, ⟨zy HB⟩⟩
          ·rw [if_neg c15] at H
           have c15b0 : (t429 == 1) = false := beq_eq_false_iff_ne.mpr c15
           have c15b1 : (t429 != 1) = true := bne_iff_ne.mpr c15
           have H' := Aside0.mk H; clear H
           go_wp2_with (first | ((with_reducible refine gate_dst (N := 9) rfl ?_); (try (refine gate_guard (by rfl) ?_; dsimp only)); refine zE 9 #[.int .i64 0, .int .i64 0, .int .i64 0, .int .i64 0] 25 ?_; intro gb427 hg w32 hbox hb; have n0_ := Aside0.mk (Kd.S_below zO1_3 hb); have BK427 := Aside0.mk (hbox); have GW427 := zg HB hg; have GE427 := GW427; replace HB := zh HB hb; clear HO_6; have HO_6 := n0_; clear n0_; clear hb hbox hg; obtain ⟨_, _, _, _, _, _, _, _⟩ := zc4 BK427) | ((with_reducible refine gate_callee (f := 36) rfl ?_); refine zG (some 40) Tryz.func36 #[.agg #[.int .i64 a0, .int .i64 a1, .int .i64 x7_2, .int .i64 x8_3]] ?_; (with_reducible refine (spec_htHeight.calls k3 a0 a1 x7_2 x8_3 t428 t429 _ A13.out).mono ?_); rintro e w34 ⟨rfl, hb⟩; refine ⟨_, rfl, ?_⟩; have n0_ := Aside0.mk (Kd.S_below (by (with_reducible repeat (first | apply Kd.S_alloc | apply Kd.S_drewN | apply Kd.S_drew)); exact (Kd.S_mono (Kd.S_far (p := ⟨gb427, 3, none⟩) (Kd.S_far (p := ⟨gb427, 2, none⟩) (Kd.S_far (p := ⟨gb427, 1, none⟩) (Kd.S_far (p := ⟨gb427, 0, none⟩) (Kd.S_types HO_6.out BK427.out (by decide)) (fun _ hk => hk.2) (.int .i64 a0)) (fun _ hk => hk.2) (.int .i64 a1)) (fun _ hk => hk.2) (.int .i64 x7_2)) (fun _ hk => hk.2) (.int .i64 x8_3)) (fun _ h_ => h_.1))) hb); have n1_ := Aside0.mk (blk_below (g := gb427) (o := .cells #[.int .i64 a0, .int .i64 a1, .int .i64 x7_2, .int .i64 x8_3] 25 (0, 0)) (zw BK427) hb); replace HB := zh HB hb; clear HO_6; have HO_6 := n0_; clear n0_; clear BK427; have BK427 := n1_; clear n1_; clear hb; obtain ⟨_, _, _, _, _, _, _, _⟩ := zc4 BK427) | ((with_reducible refine gate_callee (f := 37) rfl ?_); refine zG (some 45) Tryz.func37 #[.agg #[.int .i64 a0, .int .i64 a1, .int .i64 x7_2, .int .i64 x8_3]] ?_; (with_reducible refine (spec_htAway.calls k3 a0 a1 x7_2 x8_3 t430 t431 _ A14.out).mono ?_); rintro e w36 ⟨rfl, hb⟩; refine ⟨_, rfl, ?_⟩; have n0_ := Aside0.mk (Kd.S_below zO1_3 hb); replace BK427 := zb BK427 hb; replace HB := zh HB hb; clear HO_6; have HO_6 := n0_; clear n0_; clear hb))
           go_roundg k3
           case measure => have := HJ2.out; have := HK2.out; have := HK3.out; omega
           case rel => exact ⟨(x6_3), (wrap64 (x8_3 + 1)), zu, H', ⟨by have := HJ2.out; have := HK2.out; have := HK3.out; omega⟩, ⟨by (with_reducible repeat (first | apply Kd.S_alloc | apply Kd.S_drewN | apply Kd.S_drew)); exact HO_6.out⟩, ⟨zy HB⟩⟩
         ·rw [if_neg c12] at H
          have c12b0 : decide (x8_3 ≤ 30) = false := decide_eq_false c12; clear c12; have H' := Aside0.mk H; clear H
          go_wp2
          go_roundg k3
          case measure => have := HJ2.out; have := HK2.out; have := HK3.out; omega
          case rel => exact ⟨(x6_3), (wrap64 (x7_2 + 1)), zu, H', ⟨by have := HJ2.out; have := HK2.out; have := HK3.out; omega⟩, ⟨by (with_reducible repeat (first | apply Kd.S_alloc | apply Kd.S_drewN | apply Kd.S_drew)); exact HO_6.out⟩, ⟨zy HB⟩⟩
      ·rw [if_neg c11] at H
       have c11b0 : decide (x7_2 < 30) = false := decide_eq_false c11; clear c11; simp only [Option.some.injEq, Prod.mk.injEq] at H; obtain ⟨rfl, rfl⟩ := H
       go_wp2
       go_ret2
       exact ⟨_, zt, by (with_reducible repeat (first | apply Kd.S_alloc | apply Kd.S_drewN | apply Kd.S_drew)); exact HO_6.out, zy HB⟩


/-! ### spec_DrawTimesIsland: function 27 -/
def spec_DrawTimesIsland.f (l0 : List Int) : Option (Int × Int × Int × Int × Int) := (spec_l1Cur_island.f l0 0 0).bind fun bt440 => ((spec_l1Cur_among.f l0 bt440.2.2.2.2.1 bt440.2.2.2.2.2 (([1, 2, 3, 10, 2000, 2001, 0, (-1)] : List Int))).bind fun bt450 => (some (bt440.1, bt440.2.1, bt440.2.2.1, bt440.2.2.2.1, bt450.1)))
set_option maxHeartbeats 8000000 in
set_option maxRecDepth 100000 in
theorem spec_DrawTimesIsland.calls (A0 : Option Addr) (c0 : Nat) (l0 : List Int) (r1 : Int) (r2 : Int) (r3 : Int) (r4 : Int) (r5 : Int) (w : World) (hr0 : Kd.C (Kd.int .u8) w A0 l0.length l0) (hc0 : l0.length ≤ c0) (h : spec_DrawTimesIsland.f l0 = some (r1, r2, r3, r4, r5)) :
  Calls Tryz.prog 27 #[.slice A0 l0.length c0] w fun e w' => e = .returned (.tuple #[.agg #[.int .i64 r1, .int .i64 r2, .int .i64 r3, .int .i64 r4], .int .i64 r5]) ∧ Below w.heap.size w w' := by
 have hu25 := Tryz.underlying25; have hu66 := Tryz.underlying66; have HR0 := Aside0.mk hr0; have HC0 := Aside0.mk hc0; clear hr0 hc0
 have HB := Aside0.mk (Below.refl w.heap.size w)
 have H : ((spec_l1Cur_island.f l0 0 0).bind fun bt440 => ((spec_l1Cur_among.f l0 bt440.2.2.2.2.1 bt440.2.2.2.2.2 (([1, 2, 3, 10, 2000, 2001, 0, (-1)] : List Int))).bind fun bt450 => (some (bt440.1, bt440.2.1, bt440.2.2.1, bt440.2.2.2.1, bt450.1)))) = some (r1, r2, r3, r4, r5) := h
 clear h; replace H := Option.bind_eq_some_iff.mp H; obtain ⟨⟨t440, t441, t442, t443, t444, t445⟩, A20, H⟩ := H; (try dsimp only at H); have A2 := Aside0.mk A20; clear A20
 obtain ⟨y447, hy447⟩ : ∃ y_ : List Int, y_ = (([1, 2, 3, 10, 2000, 2001, 0, (-1)] : List Int)) := ⟨_, rfl⟩
 replace H : ((spec_l1Cur_among.f l0 t444 t445 y447).bind fun bt450 => (some (t440, t441, t442, t443, bt450.1))) = some (r1, r2, r3, r4, r5) := by first | (rw [hy447]; with_reducible exact H) | (have H2_ := (Option.bind_some _ _).symm.trans H; rw [hy447]; with_reducible exact H2_) | (have H2_ := (Option.bind_some _ _).symm.trans H; with_reducible exact H2_) | with_reducible exact H | (rw [hy447]; exact H) | exact H
 have Ny447 := Aside0.mk hy447; clear hy447; replace H := Option.bind_eq_some_iff.mp H; obtain ⟨⟨t450, t451, t452⟩, A30, H⟩ := H
 replace H : (some (t440, t441, t442, t443, t450)) = some (r1, r2, r3, r4, r5) := H
 have A3 := Aside0.mk A30; clear A30; simp only [Option.some.injEq, Prod.mk.injEq] at H; obtain ⟨rfl, rfl, rfl, rfl, rfl⟩ := H
 go_enter Tryz.func27, Tryz.ntmps27
 try go_wp2_with (first | ((with_reducible refine gate_dst (N := 2) rfl ?_); refine zE 2 #[.int .i64 0, .int .i64 0, .int .i64 0, .int .i64 0] 25 ?_; intro gb438 hg w4 hbox hb; have BK438 := Aside0.mk (hbox); have GW438 := zg HB hg; have GE438 := GW438; replace HB := zh HB hb; clear hb hbox hg) | ((with_reducible refine gate_dst (N := 8) rfl ?_); refine zE 8 #[.slice A0 l0.length c0, .int .i64 0, .int .u64 0] 66 ?_; intro gb439 hg w5 hbox hb; have HI439 := Aside0.mk ((show IsS66 w _ gb439 l0 0 0 from ⟨_, _, hbox, (by rw [hg]; exact (below_size (zy HB)) : w.heap.size ≤ gb439), HR0.out⟩)); have GW439 := zg HB hg; have GE439 := GW439; have NB438_439 := zl BK438 hg; have NB439_438 := zr BK438 hg; replace BK438 := zb BK438 hb; replace HB := zh HB hb; clear hb hbox hg) | ((with_reducible refine gate_callee (f := 50) rfl ?_); refine zG (some 10) Tryz.func50 #[.pointer (some ⟨gb439, 0, none⟩)] ?_; (with_reducible refine (spec_l1Cur_island.calls gb439 l0 0 0 t440 t441 t442 t443 t444 t445 w _ ?side1 ?side2 A2.out).mono ?_); (case side1 => exact zI66 HI439); (case side2 => exact zY66 HB); rintro e w6 ⟨rfl, hi, hb, hk⟩; refine ⟨_, rfl, ?_⟩; replace BK438 := zKB BK438 hk; replace HB := Aside0.mk hb; replace HI439 := Aside0.mk hi; clear hb hk hi) | ((with_reducible refine gate_dst (N := 5) rfl ?_); refine zE 5 #[.int .i64 0, .int .i64 0, .int .i64 0, .int .i64 0] 25 ?_; intro gb446 hg w7 hbox hb; have BK446 := Aside0.mk (hbox); have GW446 := Aside0.mk ((by rw [hg]; exact (below_size (zY66 HB)) : w.heap.size ≤ gb446)); have GE446 := Aside0.mk ((by rw [hg]; exact (below_size (zY66 HB)) : w.heap.size ≤ gb446)); have NB438_446 := zl BK438 hg; have NB446_438 := zr BK438 hg; have NB439_446 := zL66 HI439 hg; have NB446_439 := zR66 HI439 hg; replace BK438 := zb BK438 hb; replace HI439 := zJ66 HI439 hb; replace HB := zH66 HB hb; clear hb hbox hg; have hnb8 := NB446_438.out; have hnc8 := NB438_446.out; have hnb9 := NB446_439.out; have hnc9 := NB439_446.out; obtain ⟨_, _, _, _, _, _, _, _⟩ := zc4 BK446))
 have n0_ : Aside0 (((((w7.setCell ⟨gb446, 0, none⟩ (.int .i64 t440)).setCell ⟨gb446, 1, none⟩ (.int .i64 t441)).setCell ⟨gb446, 2, none⟩ (.int .i64 t442)).setCell ⟨gb446, 3, none⟩ (.int .i64 t443)).heap[gb438]? = some (.cells #[.int .i64 0, .int .i64 0, .int .i64 0, .int .i64 0] 25 (0, 0))) := ⟨zw BK438⟩
 have n1_ : Aside0 (((((w7.setCell ⟨gb446, 0, none⟩ (.int .i64 t440)).setCell ⟨gb446, 1, none⟩ (.int .i64 t441)).setCell ⟨gb446, 2, none⟩ (.int .i64 t442)).setCell ⟨gb446, 3, none⟩ (.int .i64 t443)).heap[gb446]? = some (.cells #[.int .i64 t440, .int .i64 t441, .int .i64 t442, .int .i64 t443] 25 (0, 0))) := ⟨zw BK446⟩
 have n2_ : Aside0 (IsS66 w ((((w7.setCell ⟨gb446, 0, none⟩ (.int .i64 t440)).setCell ⟨gb446, 1, none⟩ (.int .i64 t441)).setCell ⟨gb446, 2, none⟩ (.int .i64 t442)).setCell ⟨gb446, 3, none⟩ (.int .i64 t443)) gb439 l0 t444 t445) := ⟨(zI66 HI439)⟩
 have n3_ : Aside0 (Below w.heap.size w ((((w7.setCell ⟨gb446, 0, none⟩ (.int .i64 t440)).setCell ⟨gb446, 1, none⟩ (.int .i64 t441)).setCell ⟨gb446, 2, none⟩ (.int .i64 t442)).setCell ⟨gb446, 3, none⟩ (.int .i64 t443))) := ⟨zY66 HB⟩
 (try clear BK438)
 (try clear BK446)
 (try clear HI439)
 (try clear HB)
 generalize ((((w7.setCell ⟨gb446, 0, none⟩ (.int .i64 t440)).setCell ⟨gb446, 1, none⟩ (.int .i64 t441)).setCell ⟨gb446, 2, none⟩ (.int .i64 t442)).setCell ⟨gb446, 3, none⟩ (.int .i64 t443)) = w11 at n0_ n1_ n2_ n3_ ⊢
 have BK438 := n0_; have BK446 := n1_; have HI439 := n2_; have HB := n3_; clear n0_ n1_ n2_ n3_
 have n2_ := Aside0.mk (IsS66.drew HI439.out)
 replace BK438 := Aside0.mk (blk_drew BK438.out); replace BK446 := Aside0.mk (blk_drew BK446.out); replace HB := Aside0.mk (below_drew1 HB.out); clear HI439; have HI439 := n2_; clear n2_
 refine start_ (n := 6) (S := fun w' => w'.cell? ⟨gb446, 0, none⟩ = some (.int .i64 t440) ∧ w'.cell? ⟨gb446, 1, none⟩ = some (.int .i64 t441) ∧ w'.cell? ⟨gb446, 2, none⟩ = some (.int .i64 t442) ∧ w'.cell? ⟨gb446, 3, none⟩ = some (.int .i64 t443)) (ds := []) #[false, false, false, false, false, false] (by kernel_rfl) rfl rfl ⟨(blk_cell BK446.out 0).trans rfl, (blk_cell BK446.out 1).trans rfl, (blk_cell BK446.out 2).trans rfl, (blk_cell BK446.out 3).trans rfl⟩ (fun hHeld => ?_)
 generalize w11.drew = w12 at BK438 BK446 HI439 HB hHeld ⊢
 refine zA0 1 12 ?_
 refine zT0 0 11 hHeld ?_
 refine one_ (i := 2) (N := some 13) #[true, true, true, false, false, false] rfl rfl (by kernel_rfl) (by decide) (fun K hK => ?_)
 refine Kd.R_lit_step (Kd.int .i64) _ 3 ?hg (N := 13) ?hd (xs := ([1, 2, 3, 10, 2000, 2001, 0, (-1)] : List Int)) (inner := [.int .i64 1, .int .i64 2, .int .i64 3, .int .i64 10, .int .i64 2000, .int .i64 2001, .int .i64 0, .int .i64 (-1)]) (ok := fun _ => True) (okp := fun _ => True) ?hr ?hp (fun _ hk => hk) trivial (Below.refl _ _) (Nat.le_refl _) zO1_4 ?_; (case hd => rfl); (case hg => rfl); (case hr => first | (go_simp; done) | (go_simp; rfl)); (case hp => exact (Reps.one (show Kd.M (Kd.int .i64) _ _ _ 1 [.int .i64 1] from rfl) (Reps.one (show Kd.M (Kd.int .i64) _ _ _ 2 [.int .i64 2] from rfl) (Reps.one (show Kd.M (Kd.int .i64) _ _ _ 3 [.int .i64 3] from rfl) (Reps.one (show Kd.M (Kd.int .i64) _ _ _ 10 [.int .i64 10] from rfl) (Reps.one (show Kd.M (Kd.int .i64) _ _ _ 2000 [.int .i64 2000] from rfl) (Reps.one (show Kd.M (Kd.int .i64) _ _ _ 2001 [.int .i64 2001] from rfl) (Reps.one (show Kd.M (Kd.int .i64) _ _ _ 0 [.int .i64 0] from rfl) (Reps.one (show Kd.M (Kd.int .i64) _ _ _ (-1) [.int .i64 (-1)] from rfl) (Reps.none _ _))))))))))
 intro v448 w13 ho14 hb hg_ hnew_
 clear hg_ hnew_
 (first | rw [← Ny447.out] at ho14 | (simp only [Int.reduceToNat] at ho14; rw [← Ny447.out] at ho14))
 have HO449 := Aside0.mk (Kd.R_lower ho14 (below_size (zY66 HB)))
 replace BK438 := zb BK438 hb; replace HI439 := zJ66 HI439 hb; replace BK446 := zb BK446 hb; replace HB := zH66 HB hb; clear hb ho14
 obtain ⟨Ao15, co15, eo15⟩ := Kd.R_slice HO449.out
 (first | subst eo15 | (injection eo15 with f1_ f2_ f3_; have f4_ := f1_.symm; have f5_ := f3_.symm; clear f1_ f2_ f3_; subst f4_; subst f5_))
 refine hK.out _ _ ⟨(blk_cell BK446.out 0).trans rfl, (blk_cell BK446.out 1).trans rfl, (blk_cell BK446.out 2).trans rfl, (blk_cell BK446.out 3).trans rfl⟩ (fun hHeld => ?_)
 clear hK K
 refine zN 13 ?_
 refine one_ (i := 3) (N := some 14) #[true, true, true, true, false, false] rfl rfl (by kernel_rfl) (by decide) (fun K hK => ?_)
 refine goes_ Tryz.func51 (by kernel_rfl) rfl #[.pointer (some ⟨gb439, 0, none⟩), .slice Ao15 y447.length co15] (by rfl) rfl rfl zO1_1 ?_
 with_reducible refine (spec_l1Cur_among.calls gb439 l0 t444 t445 _ _ y447 t450 t451 t452 w _ ?side1 ?side2 ?side3 ?side4 ?side5 A3.out).mono ?_
 (case side1 => exact zI66 HI439)
 (case side2 => exact zY66 HB)
 (case side3 => repeat (first | exact (Kd.R_reads' HO449.out).2.2 | (with_reducible refine Kd.C_alloc ?_ _) | (with_reducible refine Kd.C_drewN ?_ _) | (with_reducible refine Kd.C_drew ?_)))
 (case side4 => exact (Kd.R_reads' HO449.out).2.1)
 (case side5 => exact far_slice (IsS66.own_ne HI439.out HO449.out (by decide)))
 rintro e w16 ⟨rfl, hi, hb, hk⟩
 refine ⟨_, rfl, ?_⟩
 have n2_ := Aside0.mk (Kd.R_mono (Kd.R_keep (IsS66.apart (show IsS66 w _ gb439 l0 t444 t445 from (zI66 HI439)) (zs HO449) (by decide)) hk (fun _ h => h.2)) (fun _ h => h.1))
 replace BK438 := zKB BK438 hk
 replace BK446 := zKB BK446 hk
 replace HB := Aside0.mk hb
 replace HI439 := Aside0.mk hi
 clear HO449; have HO449 := n2_; clear n2_
 (try clear hb)
 (try clear hb2)
 (try clear hk)
 (try clear hi)
 refine hK.out _ _ ⟨(blk_cell BK446.out 0).trans rfl, (blk_cell BK446.out 1).trans rfl, (blk_cell BK446.out 2).trans rfl, (blk_cell BK446.out 3).trans rfl⟩ (fun hHeld => ?_)
 clear hK K
 refine zN 14 ?_
 refine one_ (i := 4) (N := none) #[true, true, true, true, true, false] rfl rfl (by kernel_rfl) (by decide) (fun K hK => ?_)
 have hs17 : w16.cell? ⟨gb438, 0, none⟩ = some (.int .i64 0) := (blk_cell BK438.out 0).trans rfl
 have hfs17 := blk_frozen BK438.out 0
 have hns17_1 := NB446_438.out; have hms17_1 := NB438_446.out
 have hs18 : w16.cell? ⟨gb438, 1, none⟩ = some (.int .i64 0) := (blk_cell BK438.out 1).trans rfl
 have hfs18 := blk_frozen BK438.out 1
 have hns18_1 := NB446_438.out; have hms18_1 := NB438_446.out
 have hs19 : w16.cell? ⟨gb438, 2, none⟩ = some (.int .i64 0) := (blk_cell BK438.out 2).trans rfl
 have hfs19 := blk_frozen BK438.out 2
 have hns19_1 := NB446_438.out; have hms19_1 := NB438_446.out
 have hs20 : w16.cell? ⟨gb438, 3, none⟩ = some (.int .i64 0) := (blk_cell BK438.out 3).trans rfl
 have hfs20 := blk_frozen BK438.out 3
 have hns20_1 := NB446_438.out; have hms20_1 := NB438_446.out
 refine skip_ (w1 := ?_) (by rfl) rfl ?_ ?_
 rotate_left
 ·go_simp
  rfl
 refine hK.out _ _ ⟨((cell_far (p := ⟨gb438, _, none⟩) NB446_438.out _).trans (((cell_far (p := ⟨gb438, _, none⟩) NB446_438.out _).trans (((cell_far (p := ⟨gb438, _, none⟩) NB446_438.out _).trans (((cell_far (p := ⟨gb438, _, none⟩) NB446_438.out _).trans (hHeld.1)))))))), ((cell_far (p := ⟨gb438, _, none⟩) NB446_438.out _).trans (((cell_far (p := ⟨gb438, _, none⟩) NB446_438.out _).trans (((cell_far (p := ⟨gb438, _, none⟩) NB446_438.out _).trans (((cell_far (p := ⟨gb438, _, none⟩) NB446_438.out _).trans (hHeld.2.1)))))))), ((cell_far (p := ⟨gb438, _, none⟩) NB446_438.out _).trans (((cell_far (p := ⟨gb438, _, none⟩) NB446_438.out _).trans (((cell_far (p := ⟨gb438, _, none⟩) NB446_438.out _).trans (((cell_far (p := ⟨gb438, _, none⟩) NB446_438.out _).trans (hHeld.2.2.1)))))))), ((cell_far (p := ⟨gb438, _, none⟩) NB446_438.out _).trans (((cell_far (p := ⟨gb438, _, none⟩) NB446_438.out _).trans (((cell_far (p := ⟨gb438, _, none⟩) NB446_438.out _).trans (((cell_far (p := ⟨gb438, _, none⟩) NB446_438.out _).trans (hHeld.2.2.2))))))))⟩ (fun hHeld => ?_)
 clear hK K
 refine zA0 5 3 ?_
 refine done_ (by kernel_rfl) ?_
 try go_wp2
 refine bodyPost_ret (results_ct rfl _ _ gb438 25 #[.int .i64 t440, .int .i64 t441, .int .i64 t442, .int .i64 t443] (0, 0) _ rfl (zw BK438) Tryz.underlying25 rfl (by kernel_rfl)) rfl ?_
 exact ⟨zt, zY66 HB⟩


/-! ### impl_TimesIsland: function 28 -/
def impl_TimesIsland.f (a0_0 : Int) (a0_1 : Int) (a0_2 : Int) (a0_3 : Int) (a1 : Int) : Option (Int × Int × Int × Int × Bool) := (impl_IsIsland.f a0_0 a0_1 a0_2 a0_3).bind fun t455 => (if t455 = true then ((impl_areSteps.f (([a1] : List Int))).bind fun t459 => (if t459 = true then ((impl_checkedIsland.f (wrap64 (a1 * a0_0)) (wrap64 (a1 * a0_1)) (wrap64 (a1 * a0_2)) (wrap64 (a1 * a0_3))).bind fun bt460 => (some (bt460.1, bt460.2.1, bt460.2.2.1, bt460.2.2.2.1, bt460.2.2.2.2))) else (some (0, 0, 0, 0, false)))) else (some (0, 0, 0, 0, false)))
set_option maxHeartbeats 8000000 in
set_option maxRecDepth 100000 in
theorem impl_TimesIsland.calls (a0_0 : Int) (a0_1 : Int) (a0_2 : Int) (a0_3 : Int) (a1 : Int) (r1 : Int) (r2 : Int) (r3 : Int) (r4 : Int) (r5 : Bool) (w : World) (h : impl_TimesIsland.f a0_0 a0_1 a0_2 a0_3 a1 = some (r1, r2, r3, r4, r5)) :
  Calls Tryz.prog 28 #[.agg #[.int .i64 a0_0, .int .i64 a0_1, .int .i64 a0_2, .int .i64 a0_3], .int .i64 a1] w fun e w' => e = .returned (.tuple #[.agg #[.int .i64 r1, .int .i64 r2, .int .i64 r3, .int .i64 r4], .bool r5]) ∧ Below w.heap.size w w' := by
 have hu25 := Tryz.underlying25
 have HB := Aside0.mk (Below.refl w.heap.size w)
 have H : ((impl_IsIsland.f a0_0 a0_1 a0_2 a0_3).bind fun t455 => (if t455 = true then ((impl_areSteps.f (([a1] : List Int))).bind fun t459 => (if t459 = true then ((impl_checkedIsland.f (wrap64 (a1 * a0_0)) (wrap64 (a1 * a0_1)) (wrap64 (a1 * a0_2)) (wrap64 (a1 * a0_3))).bind fun bt460 => (some (bt460.1, bt460.2.1, bt460.2.2.1, bt460.2.2.2.1, bt460.2.2.2.2))) else (some (0, 0, 0, 0, false)))) else (some (0, 0, 0, 0, false)))) = some (r1, r2, r3, r4, r5) := h
 clear h; replace H := Option.bind_eq_some_iff.mp H; obtain ⟨t455, A30, H⟩ := H; (try dsimp only at H); have A3 := Aside0.mk A30; clear A30
 by_cases c4 : t455 = true
 ·subst c4
  rw [if_pos rfl] at H
  obtain ⟨y456, hy456⟩ : ∃ y_ : List Int, y_ = (([a1] : List Int)) := ⟨_, rfl⟩
  replace H : ((impl_areSteps.f y456).bind fun t459 => (if t459 = true then ((impl_checkedIsland.f (wrap64 (a1 * a0_0)) (wrap64 (a1 * a0_1)) (wrap64 (a1 * a0_2)) (wrap64 (a1 * a0_3))).bind fun bt460 => (some (bt460.1, bt460.2.1, bt460.2.2.1, bt460.2.2.2.1, bt460.2.2.2.2))) else (some (0, 0, 0, 0, false)))) = some (r1, r2, r3, r4, r5) := by first | (rw [hy456]; with_reducible exact H) | (have H2_ := (Option.bind_some _ _).symm.trans H; rw [hy456]; with_reducible exact H2_) | (have H2_ := (Option.bind_some _ _).symm.trans H; with_reducible exact H2_) | with_reducible exact H | (rw [hy456]; exact H) | exact H
  have Ny456 := Aside0.mk hy456; clear hy456; replace H := Option.bind_eq_some_iff.mp H; obtain ⟨t459, A50, H⟩ := H; (try dsimp only at H); have A5 := Aside0.mk A50; clear A50
  by_cases c6 : t459 = true
  ·subst c6
   rw [if_pos rfl] at H; replace H := Option.bind_eq_some_iff.mp H; obtain ⟨⟨t460, t461, t462, t463, t464⟩, A70, H⟩ := H
   replace H : (some (t460, t461, t462, t463, t464)) = some (r1, r2, r3, r4, r5) := H
   have A7 := Aside0.mk A70; clear A70; simp only [Option.some.injEq, Prod.mk.injEq] at H; obtain ⟨rfl, rfl, rfl, rfl, rfl⟩ := H
   go_enter Tryz.func28, Tryz.ntmps28
   go_wp2_with (first | ((with_reducible refine gate_dst (N := 2) rfl ?_); (try (refine gate_guard (by rfl) ?_; dsimp only)); refine zE 2 #[.int .i64 a0_0, .int .i64 a0_1, .int .i64 a0_2, .int .i64 a0_3] 25 ?_; intro gb453 hg w8 hbox hb; have BK453 := Aside0.mk (hbox); have GW453 := zg HB hg; have GE453 := GW453; replace HB := zh HB hb; clear hb hbox hg) | ((with_reducible refine gate_dst (N := 4) rfl ?_); (try (refine gate_guard (by rfl) ?_; dsimp only)); refine zE 4 #[.int .i64 0, .int .i64 0, .int .i64 0, .int .i64 0] 25 ?_; intro gb454 hg w9 hbox hb; have BK454 := Aside0.mk (hbox); have GW454 := zg HB hg; have GE454 := GW454; have NB453_454 := zl BK453 hg; have NB454_453 := zr BK453 hg; replace BK453 := zb BK453 hb; replace HB := zh HB hb; clear hb hbox hg; have hnb10 := NB453_454.out; have hnc10 := NB454_453.out; obtain ⟨_, _, _, _, _, _, _, _⟩ := zc4 BK453) | ((with_reducible refine gate_callee (f := 14) rfl ?_); refine zG (some 7) Tryz.func14 #[.agg #[.int .i64 a0_0, .int .i64 a0_1, .int .i64 a0_2, .int .i64 a0_3]] ?_; (with_reducible refine (impl_IsIsland.calls a0_0 a0_1 a0_2 a0_3 true _ A3.out).mono ?_); rintro e w12 ⟨rfl, hb⟩; refine ⟨_, rfl, ?_⟩; replace BK453 := zb BK453 hb; replace BK454 := zb BK454 hb; replace HB := zh HB hb; clear hb) | ((with_reducible refine gate_dst (N := 11) rfl ?_); (try (refine gate_guard (by rfl) ?_; dsimp only)); refine Kd.R_lit (Kd.int .i64) _ 3 ?hg (N := 11) ?hd (xs := ([a1] : List Int)) (inner := [.int .i64 a1]) (ok := fun _ => True) (okp := fun _ => True) ?hr ?hp (fun _ hk => hk) trivial (Below.refl _ _) (Nat.le_refl _) zO1_4 ?_; (case hd => rfl); (case hg => rfl); (case hr => first | (go_simp; done) | (go_simp; rfl)); (case hp => exact (Reps.one (show Kd.M (Kd.int .i64) _ _ _ a1 [.int .i64 a1] from rfl) (Reps.none _ _))); intro v457 w13 ho14 hb hg_ hnew_; clear hg_ hnew_; (first | rw [← Ny456.out] at ho14 | (simp only [Int.reduceToNat] at ho14; rw [← Ny456.out] at ho14)); have HO458 := Aside0.mk (Kd.R_lower ho14 (below_size (zy HB))); replace BK453 := zb BK453 hb; replace BK454 := zb BK454 hb; replace HB := zh HB hb; clear hb ho14; obtain ⟨Ao15, co15, eo15⟩ := Kd.R_slice HO458.out; subst eo15) | (go_at_call 42; (with_reducible refine (impl_areSteps.calls _ _ y456 true _ ?side1 ?side2 A5.out).mono ?_); (case side1 => repeat (first | exact (Kd.R_reads' HO458.out).2.2 | (with_reducible refine Kd.C_alloc ?_ _) | (with_reducible refine Kd.C_drewN ?_ _) | (with_reducible refine Kd.C_drew ?_))); (case side2 => exact (Kd.R_reads' HO458.out).2.1); rintro e w' ⟨rfl, ⟨nd, rfl⟩⟩; (try (rw [drewN_self w13]; generalize hq_ : World.drewN w13 _ = w13; have n0_ : Aside0 (Kd.R (Kd.int .i64) 3 w13 w.heap.size (fun _ => True) (.slice Ao15 y456.length co15) y456) := ⟨by rw [← hq_]; exact (zs HO458)⟩; have n1_ : Aside0 (w13.heap[gb453]? = some (.cells #[.int .i64 a0_0, .int .i64 a0_1, .int .i64 a0_2, .int .i64 a0_3] 25 (0, 0))) := ⟨by rw [← hq_]; exact (zq BK453)⟩; have n2_ : Aside0 (w13.heap[gb454]? = some (.cells #[.int .i64 0, .int .i64 0, .int .i64 0, .int .i64 0] 25 (0, 0))) := ⟨by rw [← hq_]; exact (zq BK454)⟩; have n3_ : Aside0 (Below w.heap.size w w13) := ⟨by rw [← hq_]; exact (zy HB)⟩; clear HO458 BK453 BK454 HB hq_; have HO458 := n0_; have BK453 := n1_; have BK454 := n2_; have HB := n3_; clear n0_ n1_ n2_ n3_)); obtain ⟨_, _, _, _, _, _, _, _⟩ := zc4 BK453) | ((with_reducible refine gate_callee (f := 45) rfl ?_); refine zG (some 33) Tryz.func45 #[.agg #[.int .i64 (wrap64 (a1 * a0_0)), .int .i64 (wrap64 (a1 * a0_1)), .int .i64 (wrap64 (a1 * a0_2)), .int .i64 (wrap64 (a1 * a0_3))]] ?_; (with_reducible refine (impl_checkedIsland.calls (wrap64 (a1 * a0_0)) (wrap64 (a1 * a0_1)) (wrap64 (a1 * a0_2)) (wrap64 (a1 * a0_3)) t460 t461 t462 t463 t464 _ A7.out).mono ?_); rintro e w17 ⟨rfl, hb⟩; refine ⟨_, rfl, ?_⟩; replace HO458 := zo HO458 hb; replace BK453 := zb BK453 hb; replace BK454 := zb BK454 hb; replace HB := zh HB hb; clear hb; obtain ⟨_, _, _, _, _, _, _, _⟩ := zc4 BK454))
   refine bodyPost_ret (results_ct rfl _ _ gb454 25 #[.int .i64 t460, .int .i64 t461, .int .i64 t462, .int .i64 t463] (0, 0) _ rfl (zw BK454) Tryz.underlying25 rfl (by kernel_rfl)) rfl ?_
   exact ⟨zt, zy HB⟩
  ·replace c6 := Bool.eq_false_iff.mpr c6
   subst c6; rw [if_neg (show ¬ (false = true) by decide)] at H; simp only [Option.some.injEq, Prod.mk.injEq] at H; obtain ⟨rfl, rfl, rfl, rfl, rfl⟩ := H
   go_enter Tryz.func28, Tryz.ntmps28
   go_wp2_with (first | ((with_reducible refine gate_dst (N := 2) rfl ?_); (try (refine gate_guard (by rfl) ?_; dsimp only)); refine zE 2 #[.int .i64 a0_0, .int .i64 a0_1, .int .i64 a0_2, .int .i64 a0_3] 25 ?_; intro gb453 hg w19 hbox hb; have BK453 := Aside0.mk (hbox); have GW453 := zg HB hg; have GE453 := GW453; replace HB := zh HB hb; clear hb hbox hg) | ((with_reducible refine gate_dst (N := 4) rfl ?_); (try (refine gate_guard (by rfl) ?_; dsimp only)); refine zE 4 #[.int .i64 0, .int .i64 0, .int .i64 0, .int .i64 0] 25 ?_; intro gb454 hg w20 hbox hb; have BK454 := Aside0.mk (hbox); have GW454 := zg HB hg; have GE454 := GW454; have NB453_454 := zl BK453 hg; have NB454_453 := zr BK453 hg; replace BK453 := zb BK453 hb; replace HB := zh HB hb; clear hb hbox hg; have hnb21 := NB453_454.out; have hnc21 := NB454_453.out; obtain ⟨_, _, _, _, _, _, _, _⟩ := zc4 BK453) | ((with_reducible refine gate_callee (f := 14) rfl ?_); refine zG (some 7) Tryz.func14 #[.agg #[.int .i64 a0_0, .int .i64 a0_1, .int .i64 a0_2, .int .i64 a0_3]] ?_; (with_reducible refine (impl_IsIsland.calls a0_0 a0_1 a0_2 a0_3 true _ A3.out).mono ?_); rintro e w23 ⟨rfl, hb⟩; refine ⟨_, rfl, ?_⟩; replace BK453 := zb BK453 hb; replace BK454 := zb BK454 hb; replace HB := zh HB hb; clear hb) | ((with_reducible refine gate_dst (N := 11) rfl ?_); (try (refine gate_guard (by rfl) ?_; dsimp only)); refine Kd.R_lit (Kd.int .i64) _ 3 ?hg (N := 11) ?hd (xs := ([a1] : List Int)) (inner := [.int .i64 a1]) (ok := fun _ => True) (okp := fun _ => True) ?hr ?hp (fun _ hk => hk) trivial (Below.refl _ _) (Nat.le_refl _) zO1_4 ?_; (case hd => rfl); (case hg => rfl); (case hr => first | (go_simp; done) | (go_simp; rfl)); (case hp => exact (Reps.one (show Kd.M (Kd.int .i64) _ _ _ a1 [.int .i64 a1] from rfl) (Reps.none _ _))); intro v457 w24 ho25 hb hg_ hnew_; clear hg_ hnew_; (first | rw [← Ny456.out] at ho25 | (simp only [Int.reduceToNat] at ho25; rw [← Ny456.out] at ho25)); have HO458 := Aside0.mk (Kd.R_lower ho25 (below_size (zy HB))); replace BK453 := zb BK453 hb; replace BK454 := zb BK454 hb; replace HB := zh HB hb; clear hb ho25; obtain ⟨Ao26, co26, eo26⟩ := Kd.R_slice HO458.out; subst eo26) | (go_at_call 42; (with_reducible refine (impl_areSteps.calls _ _ y456 false _ ?side1 ?side2 A5.out).mono ?_); (case side1 => repeat (first | exact (Kd.R_reads' HO458.out).2.2 | (with_reducible refine Kd.C_alloc ?_ _) | (with_reducible refine Kd.C_drewN ?_ _) | (with_reducible refine Kd.C_drew ?_))); (case side2 => exact (Kd.R_reads' HO458.out).2.1); rintro e w' ⟨rfl, ⟨nd, rfl⟩⟩; (try (rw [drewN_self w24]; generalize hq_ : World.drewN w24 _ = w24; have n0_ : Aside0 (Kd.R (Kd.int .i64) 3 w24 w.heap.size (fun _ => True) (.slice Ao26 y456.length co26) y456) := ⟨by rw [← hq_]; exact (zs HO458)⟩; have n1_ : Aside0 (w24.heap[gb453]? = some (.cells #[.int .i64 a0_0, .int .i64 a0_1, .int .i64 a0_2, .int .i64 a0_3] 25 (0, 0))) := ⟨by rw [← hq_]; exact (zq BK453)⟩; have n2_ : Aside0 (w24.heap[gb454]? = some (.cells #[.int .i64 0, .int .i64 0, .int .i64 0, .int .i64 0] 25 (0, 0))) := ⟨by rw [← hq_]; exact (zq BK454)⟩; have n3_ : Aside0 (Below w.heap.size w w24) := ⟨by rw [← hq_]; exact (zy HB)⟩; clear HO458 BK453 BK454 HB hq_; have HO458 := n0_; have BK453 := n1_; have BK454 := n2_; have HB := n3_; clear n0_ n1_ n2_ n3_)); obtain ⟨_, _, _, _, _, _, _, _⟩ := zc4 BK454))
   refine bodyPost_ret (results_ct rfl _ _ gb454 25 #[.int .i64 0, .int .i64 0, .int .i64 0, .int .i64 0] (0, 0) _ rfl (zw BK454) Tryz.underlying25 rfl (by kernel_rfl)) rfl ?_
   exact ⟨zt, zy HB⟩
 ·replace c4 := Bool.eq_false_iff.mpr c4
  subst c4; rw [if_neg (show ¬ (false = true) by decide)] at H; simp only [Option.some.injEq, Prod.mk.injEq] at H; obtain ⟨rfl, rfl, rfl, rfl, rfl⟩ := H
  go_enter Tryz.func28, Tryz.ntmps28
  go_wp2_with (first | ((with_reducible refine gate_dst (N := 2) rfl ?_); (try (refine gate_guard (by rfl) ?_; dsimp only)); refine zE 2 #[.int .i64 a0_0, .int .i64 a0_1, .int .i64 a0_2, .int .i64 a0_3] 25 ?_; intro gb453 hg w28 hbox hb; have BK453 := Aside0.mk (hbox); have GW453 := zg HB hg; have GE453 := GW453; replace HB := zh HB hb; clear hb hbox hg) | ((with_reducible refine gate_dst (N := 4) rfl ?_); (try (refine gate_guard (by rfl) ?_; dsimp only)); refine zE 4 #[.int .i64 0, .int .i64 0, .int .i64 0, .int .i64 0] 25 ?_; intro gb454 hg w29 hbox hb; have BK454 := Aside0.mk (hbox); have GW454 := zg HB hg; have GE454 := GW454; have NB453_454 := zl BK453 hg; have NB454_453 := zr BK453 hg; replace BK453 := zb BK453 hb; replace HB := zh HB hb; clear hb hbox hg; have hnb30 := NB453_454.out; have hnc30 := NB454_453.out; obtain ⟨_, _, _, _, _, _, _, _⟩ := zc4 BK453) | ((with_reducible refine gate_callee (f := 14) rfl ?_); refine zG (some 7) Tryz.func14 #[.agg #[.int .i64 a0_0, .int .i64 a0_1, .int .i64 a0_2, .int .i64 a0_3]] ?_; (with_reducible refine (impl_IsIsland.calls a0_0 a0_1 a0_2 a0_3 false _ A3.out).mono ?_); rintro e w32 ⟨rfl, hb⟩; refine ⟨_, rfl, ?_⟩; replace BK453 := zb BK453 hb; replace BK454 := zb BK454 hb; replace HB := zh HB hb; clear hb; obtain ⟨_, _, _, _, _, _, _, _⟩ := zc4 BK454))
  refine bodyPost_ret (results_ct rfl _ _ gb454 25 #[.int .i64 0, .int .i64 0, .int .i64 0, .int .i64 0] (0, 0) _ rfl (zw BK454) Tryz.underlying25 rfl (by kernel_rfl)) rfl ?_
  exact ⟨zt, zy HB⟩


/-! ### spec_TimesIsland: function 29 -/
def spec_TimesIsland.j0 : Nat → Int → Bool → Int → Int → Int → Int → Option (Int × Int × Int × Int × Bool)
 | 0, _, _, _, _, _, _ => none
 | k + 1, x1, x15, x466000, x466001, x466002, x466003 => if x15 = true then (some (0, 0, 0, 0, false)) else ((spec_htGood.f k (wrap64 (x466000 * x1)) (wrap64 (x466001 * x1)) (wrap64 (x466002 * x1)) (wrap64 (x466003 * x1))).bind fun t473 => (if t473 = true then (some (wrap64 (x466000 * x1), wrap64 (x466001 * x1), wrap64 (x466002 * x1), wrap64 (x466003 * x1), true)) else (some (0, 0, 0, 0, false))))
def spec_TimesIsland.f (k : Nat) (a0_0 : Int) (a0_1 : Int) (a0_2 : Int) (a0_3 : Int) (a1 : Int) : Option (Int × Int × Int × Int × Bool) := (spec_htGood.f k a0_0 a0_1 a0_2 a0_3).bind fun t467 => (if t467 = true then ((spec_htLong.f k (([a1] : List Int))).bind fun t471 => (spec_TimesIsland.j0 k a1 (!t471) a0_0 a0_1 a0_2 a0_3)) else (spec_TimesIsland.j0 k a1 true a0_0 a0_1 a0_2 a0_3))
set_option maxHeartbeats 8000000 in
set_option maxRecDepth 100000 in
theorem spec_TimesIsland.calls (k : Nat) (a0_0 : Int) (a0_1 : Int) (a0_2 : Int) (a0_3 : Int) (a1 : Int) (r1 : Int) (r2 : Int) (r3 : Int) (r4 : Int) (r5 : Bool) (w : World) (h : spec_TimesIsland.f k a0_0 a0_1 a0_2 a0_3 a1 = some (r1, r2, r3, r4, r5)) :
  Calls Tryz.prog 29 #[.agg #[.int .i64 a0_0, .int .i64 a0_1, .int .i64 a0_2, .int .i64 a0_3], .int .i64 a1] w fun e w' => e = .returned (.tuple #[.agg #[.int .i64 r1, .int .i64 r2, .int .i64 r3, .int .i64 r4], .bool r5]) ∧ Below w.heap.size w w' := by
 have hu25 := Tryz.underlying25
 have HB := Aside0.mk (Below.refl w.heap.size w)
 have H : ((spec_htGood.f k a0_0 a0_1 a0_2 a0_3).bind fun t467 => (if t467 = true then ((spec_htLong.f k (([a1] : List Int))).bind fun t471 => (spec_TimesIsland.j0 k a1 (!t471) a0_0 a0_1 a0_2 a0_3)) else (spec_TimesIsland.j0 k a1 true a0_0 a0_1 a0_2 a0_3))) = some (r1, r2, r3, r4, r5) := h
 clear h; have HC3 := Aside0.mk H; clear H
 go_enter Tryz.func29, Tryz.ntmps29
 go_upto_region 1 with (first | ((with_reducible refine gate_dst (N := 2) rfl ?_); (try (refine gate_guard (by rfl) ?_; dsimp only)); refine zE 2 #[.int .i64 a0_0, .int .i64 a0_1, .int .i64 a0_2, .int .i64 a0_3] 25 ?_; intro gb465 hg w4 hbox hb; have BK465 := Aside0.mk (hbox); have GW465 := zg HB hg; have GE465 := GW465; replace HB := zh HB hb; clear hb hbox hg) | ((with_reducible refine gate_dst (N := 4) rfl ?_); (try (refine gate_guard (by rfl) ?_; dsimp only)); refine zE 4 #[.int .i64 0, .int .i64 0, .int .i64 0, .int .i64 0] 25 ?_; intro gb466 hg w5 hbox hb; have BK466 := Aside0.mk (hbox); have GW466 := zg HB hg; have GE466 := GW466; have NB465_466 := zl BK465 hg; have NB466_465 := zr BK465 hg; replace BK465 := zb BK465 hb; replace HB := zh HB hb; clear hb hbox hg))
 (try simp only [Act.put, List.setIfInBounds_toArray, List.set_cons_zero, List.set_cons_succ])
 go_cut [15] (fun v15 wc => ∃ (kq : Nat) (x15_2 : Bool), v15 = .bool x15_2 ∧ Aside0 (spec_TimesIsland.j0 kq a1 x15_2 a0_0 a0_1 a0_2 a0_3 = some (r1, r2, r3, r4, r5)) ∧ Aside0 (kq ≤ k) ∧ Aside0 (wc.heap[gb465]? = some (.cells #[.int .i64 a0_0, .int .i64 a0_1, .int .i64 a0_2, .int .i64 a0_3] 25 (0, 0))) ∧ Aside0 (wc.heap[gb466]? = some (.cells #[.int .i64 0, .int .i64 0, .int .i64 0, .int .i64 0] 25 (0, 0))) ∧ Aside0 (Below w.heap.size w wc))
 case first =>
  have H := HC3.out; clear HC3; replace H := Option.bind_eq_some_iff.mp H; obtain ⟨t467, A60, H⟩ := H; (try dsimp only at H); have A6 := Aside0.mk A60; clear A60
  by_cases c7 : t467 = true
  ·subst c7
   rw [if_pos rfl] at H
   obtain ⟨y468, hy468⟩ : ∃ y_ : List Int, y_ = (([a1] : List Int)) := ⟨_, rfl⟩
   replace H : ((spec_htLong.f k y468).bind fun t471 => (spec_TimesIsland.j0 k a1 (!t471) a0_0 a0_1 a0_2 a0_3)) = some (r1, r2, r3, r4, r5) := by first | (rw [hy468]; with_reducible exact H) | (have H2_ := (Option.bind_some _ _).symm.trans H; rw [hy468]; with_reducible exact H2_) | (have H2_ := (Option.bind_some _ _).symm.trans H; with_reducible exact H2_) | with_reducible exact H | (rw [hy468]; exact H) | exact H
   have Ny468 := Aside0.mk hy468; clear hy468; replace H := Option.bind_eq_some_iff.mp H; obtain ⟨t471, A80, H⟩ := H
   replace H : (spec_TimesIsland.j0 k a1 (!t471) a0_0 a0_1 a0_2 a0_3) = some (r1, r2, r3, r4, r5) := H
   have A8 := Aside0.mk A80; clear A80; have H' := Aside0.mk H; clear H; have hnb9 := NB465_466.out; have hnc9 := NB466_465.out
   obtain ⟨_, _, _, _, _, _, _, _⟩ := zc4 BK465
   go_wp2_with (first | ((with_reducible refine gate_callee (f := 35) rfl ?_); refine zG (some 8) Tryz.func35 #[.agg #[.int .i64 a0_0, .int .i64 a0_1, .int .i64 a0_2, .int .i64 a0_3]] ?_; (with_reducible refine (spec_htGood.calls k a0_0 a0_1 a0_2 a0_3 true _ A6.out).mono ?_); rintro e w11 ⟨rfl, hb⟩; refine ⟨_, rfl, ?_⟩; replace BK465 := zb BK465 hb; replace BK466 := zb BK466 hb; replace HB := zh HB hb; clear hb) | ((with_reducible refine gate_dst (N := 12) rfl ?_); (try (refine gate_guard (by rfl) ?_; dsimp only)); refine Kd.R_lit (Kd.int .i64) _ 3 ?hg (N := 12) ?hd (xs := ([a1] : List Int)) (inner := [.int .i64 a1]) (ok := fun _ => True) (okp := fun _ => True) ?hr ?hp (fun _ hk => hk) trivial (Below.refl _ _) (Nat.le_refl _) zO1_4 ?_; (case hd => rfl); (case hg => rfl); (case hr => first | (go_simp; done) | (go_simp; rfl)); (case hp => exact (Reps.one (show Kd.M (Kd.int .i64) _ _ _ a1 [.int .i64 a1] from rfl) (Reps.none _ _))); intro v469 w12 ho13 hb hg_ hnew_; clear hg_ hnew_; (first | rw [← Ny468.out] at ho13 | (simp only [Int.reduceToNat] at ho13; rw [← Ny468.out] at ho13)); have HO470 := Aside0.mk (Kd.R_lower ho13 (below_size (zy HB))); replace BK465 := zb BK465 hb; replace BK466 := zb BK466 hb; replace HB := zh HB hb; clear hb ho13; obtain ⟨Ao14, co14, eo14⟩ := Kd.R_slice HO470.out; subst eo14) | (go_at_call 49; (with_reducible refine (spec_htLong.calls k _ _ y468 t471 _ ?side1 ?side2 A8.out).mono ?_); (case side1 => repeat (first | exact (Kd.R_reads' HO470.out).2.2 | (with_reducible refine Kd.C_alloc ?_ _) | (with_reducible refine Kd.C_drewN ?_ _) | (with_reducible refine Kd.C_drew ?_))); (case side2 => exact (Kd.R_reads' HO470.out).2.1); rintro e w' ⟨rfl, ⟨nd, rfl⟩⟩))
   go_meet
   case rel => exact ⟨_, (!t471), zu, H', ⟨by first | omega | exact Nat.le_refl _⟩, zk BK465, zk BK466, ⟨zy HB⟩⟩
  ·replace c7 := Bool.eq_false_iff.mpr c7
   subst c7; rw [if_neg (show ¬ (false = true) by decide)] at H; have H' := Aside0.mk H; clear H; have hnb15 := NB465_466.out; have hnc15 := NB466_465.out
   obtain ⟨_, _, _, _, _, _, _, _⟩ := zc4 BK465
   go_wp2_with (first | ((with_reducible refine gate_callee (f := 35) rfl ?_); refine zG (some 8) Tryz.func35 #[.agg #[.int .i64 a0_0, .int .i64 a0_1, .int .i64 a0_2, .int .i64 a0_3]] ?_; (with_reducible refine (spec_htGood.calls k a0_0 a0_1 a0_2 a0_3 false _ A6.out).mono ?_); rintro e w17 ⟨rfl, hb⟩; refine ⟨_, rfl, ?_⟩; replace BK465 := zb BK465 hb; replace BK466 := zb BK466 hb; replace HB := zh HB hb; clear hb))
   go_meet
   case rel => exact ⟨_, (true), zu, H', ⟨by first | omega | exact Nat.le_refl _⟩, zk BK465, zk BK466, ⟨zy HB⟩⟩
 case rest =>
  clear HC3
  obtain ⟨kq, x15_2, rfl, HA, HJ2, BK465, BK466, HB⟩ := hcut
  cases kq with
  | zero => exact absurd HA.out (by simp [spec_TimesIsland.j0])
  | succ kj2 =>
   have H := HA.out; clear HA; simp only [spec_TimesIsland.j0] at H
   by_cases c18 : x15_2 = true
   ·subst c18
    rw [if_pos rfl] at H; simp only [Option.some.injEq, Prod.mk.injEq] at H; obtain ⟨rfl, rfl, rfl, rfl, rfl⟩ := H; have hnb19 := NB466_465.out; have hnc19 := NB465_466.out
    obtain ⟨_, _, _, _, _, _, _, _⟩ := zc4 BK466
    go_wp2
    refine bodyPost_ret (results_ct rfl _ _ gb466 25 #[.int .i64 0, .int .i64 0, .int .i64 0, .int .i64 0] (0, 0) _ rfl (zw BK466) Tryz.underlying25 rfl (by kernel_rfl)) rfl ?_
    exact ⟨zt, zy HB⟩
   ·replace c18 := Bool.eq_false_iff.mpr c18
    subst c18; rw [if_neg (show ¬ (false = true) by decide)] at H; replace H := Option.bind_eq_some_iff.mp H; obtain ⟨t473, A210, H⟩ := H; (try dsimp only at H); have A21 := Aside0.mk A210; clear A210
    by_cases c22 : t473 = true
    ·subst c22
     rw [if_pos rfl] at H; simp only [Option.some.injEq, Prod.mk.injEq] at H; obtain ⟨rfl, rfl, rfl, rfl, rfl⟩ := H; have hnb23 := NB465_466.out; have hnc23 := NB466_465.out
     obtain ⟨_, _, _, _, _, _, _, _⟩ := zc4 BK465
     go_wp2_with (first | ((with_reducible refine gate_dst (N := 6) rfl ?_); (try (refine gate_guard (by rfl) ?_; dsimp only)); refine zE 6 #[.int .i64 0, .int .i64 0, .int .i64 0, .int .i64 0] 25 ?_; intro gb472 hg w25 hbox hb; have BK472 := Aside0.mk (hbox); have GW472 := zg HB hg; have GE472 := GW472; have NB465_472 := zl BK465 hg; have NB472_465 := zr BK465 hg; have NB466_472 := zl BK466 hg; have NB472_466 := zr BK466 hg; replace BK465 := zb BK465 hb; replace BK466 := zb BK466 hb; replace HB := zh HB hb; clear hb hbox hg; have hnb26 := NB472_465.out; have hnc26 := NB465_472.out; have hnb27 := NB472_466.out; have hnc27 := NB466_472.out; obtain ⟨_, _, _, _, _, _, _, _⟩ := zc4 BK472) | ((with_reducible refine gate_callee (f := 35) rfl ?_); refine zG (some 35) Tryz.func35 #[.agg #[.int .i64 (wrap64 (a0_0 * a1)), .int .i64 (wrap64 (a0_1 * a1)), .int .i64 (wrap64 (a0_2 * a1)), .int .i64 (wrap64 (a0_3 * a1))]] ?_; (with_reducible refine (spec_htGood.calls kj2 (wrap64 (a0_0 * a1)) (wrap64 (a0_1 * a1)) (wrap64 (a0_2 * a1)) (wrap64 (a0_3 * a1)) true _ A21.out).mono ?_); rintro e w29 ⟨rfl, hb⟩; refine ⟨_, rfl, ?_⟩; have n2_ := Aside0.mk (blk_below (g := gb472) (o := .cells #[.int .i64 (wrap64 (a0_0 * a1)), .int .i64 (wrap64 (a0_1 * a1)), .int .i64 (wrap64 (a0_2 * a1)), .int .i64 (wrap64 (a0_3 * a1))] 25 (0, 0)) (zw BK472) hb); replace BK465 := zb BK465 hb; replace BK466 := zb BK466 hb; replace HB := zh HB hb; clear BK472; have BK472 := n2_; clear n2_; clear hb; obtain ⟨_, _, _, _, _, _, _, _⟩ := zc4 BK472; obtain ⟨_, _, _, _, _, _, _, _⟩ := zc4 BK466))
     refine bodyPost_ret (results_ct rfl _ _ gb466 25 #[.int .i64 (wrap64 (a0_0 * a1)), .int .i64 (wrap64 (a0_1 * a1)), .int .i64 (wrap64 (a0_2 * a1)), .int .i64 (wrap64 (a0_3 * a1))] (0, 0) _ rfl (zw BK466) Tryz.underlying25 rfl (by kernel_rfl)) rfl ?_
     exact ⟨zt, zy HB⟩
    ·replace c22 := Bool.eq_false_iff.mpr c22
     subst c22; rw [if_neg (show ¬ (false = true) by decide)] at H; simp only [Option.some.injEq, Prod.mk.injEq] at H; obtain ⟨rfl, rfl, rfl, rfl, rfl⟩ := H; have hnb32 := NB465_466.out; have hnc32 := NB466_465.out
     obtain ⟨_, _, _, _, _, _, _, _⟩ := zc4 BK465
     go_wp2_with (first | ((with_reducible refine gate_dst (N := 6) rfl ?_); (try (refine gate_guard (by rfl) ?_; dsimp only)); refine zE 6 #[.int .i64 0, .int .i64 0, .int .i64 0, .int .i64 0] 25 ?_; intro gb472 hg w34 hbox hb; have BK472 := Aside0.mk (hbox); have GW472 := zg HB hg; have GE472 := GW472; have NB465_472 := zl BK465 hg; have NB472_465 := zr BK465 hg; have NB466_472 := zl BK466 hg; have NB472_466 := zr BK466 hg; replace BK465 := zb BK465 hb; replace BK466 := zb BK466 hb; replace HB := zh HB hb; clear hb hbox hg; have hnb35 := NB472_465.out; have hnc35 := NB465_472.out; have hnb36 := NB472_466.out; have hnc36 := NB466_472.out; obtain ⟨_, _, _, _, _, _, _, _⟩ := zc4 BK472) | ((with_reducible refine gate_callee (f := 35) rfl ?_); refine zG (some 35) Tryz.func35 #[.agg #[.int .i64 (wrap64 (a0_0 * a1)), .int .i64 (wrap64 (a0_1 * a1)), .int .i64 (wrap64 (a0_2 * a1)), .int .i64 (wrap64 (a0_3 * a1))]] ?_; (with_reducible refine (spec_htGood.calls kj2 (wrap64 (a0_0 * a1)) (wrap64 (a0_1 * a1)) (wrap64 (a0_2 * a1)) (wrap64 (a0_3 * a1)) false _ A21.out).mono ?_); rintro e w38 ⟨rfl, hb⟩; refine ⟨_, rfl, ?_⟩; have n2_ := Aside0.mk (blk_below (g := gb472) (o := .cells #[.int .i64 (wrap64 (a0_0 * a1)), .int .i64 (wrap64 (a0_1 * a1)), .int .i64 (wrap64 (a0_2 * a1)), .int .i64 (wrap64 (a0_3 * a1))] 25 (0, 0)) (zw BK472) hb); replace BK465 := zb BK465 hb; replace BK466 := zb BK466 hb; replace HB := zh HB hb; clear BK472; have BK472 := n2_; clear n2_; clear hb; obtain ⟨_, _, _, _, _, _, _, _⟩ := zc4 BK466))
     refine bodyPost_ret (results_ct rfl _ _ gb466 25 #[.int .i64 0, .int .i64 0, .int .i64 0, .int .i64 0] (0, 0) _ rfl (zw BK466) Tryz.underlying25 rfl (by kernel_rfl)) rfl ?_
     exact ⟨zt, zy HB⟩

end Go.Proofs.YtakodhlaphloeaaGreatDoor.P
