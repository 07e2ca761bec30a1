/- The law FnIslandsMeasured is proved: a call of it returns true and leaves its arguments as they were; and what this needs. Every input that the given rows speak of; nothing else is asked. -/
import Derived.Test.YtakodhlaphloeaaGreatDoorOFnIslandsMeasured0
import Derived.Test.YtakodhlaphloeaaGreatDoorOFnIslandsMeasured1
namespace Go.Proofs.YtakodhlaphloeaaGreatDoor.P
open Go.RowKit Go.Proofs.YtakodhlaphloeaaGreatDoorW.PrintWords Go.Proofs.YtakodhlaphloeaaGreatDoorW.PrintLast Go.Proofs.YtakodhlaphloeaaGreatDoorW.PrintMore
set_option linter.unusedVariables false
theorem zO2_0 {p : Prop} (h : p := by first | (simp only [putAll, Act.put, List.setIfInBounds_toArray, List.set_cons_zero, List.set_cons_succ]; done) | (simp only [putAll, Act.put, List.setIfInBounds_toArray, List.set_cons_zero, List.set_cons_succ]; rfl)) : p := h
theorem zO2_1 {p : Prop} (h : p := by (with_reducible repeat (first | apply Kd.R_alloc | apply Kd.R_drewN | apply Kd.R_drew)); exact Kd.R_mono HO517.out (fun _ hk => ⟨hk.2, hk.1.2⟩)) : p := h
theorem zO2_2 {p : Prop} (h : p := by (with_reducible repeat (first | apply Kd.R_alloc | apply Kd.R_drewN | apply Kd.R_drew)); exact Kd.R_mono HO521.out (fun _ hk => ⟨hk.2, hk.1.2⟩)) : p := h
theorem zO2_3 {p : Prop} (h : p := by (with_reducible repeat (first | apply Kd.R_alloc | apply Kd.R_drewN | apply Kd.R_drew)); exact Kd.R_mono HO_4.out (fun _ hk => ⟨hk.1.2, hk.2⟩)) : p := h
theorem zO2_4 {p : Prop} (h : p := by (try simp only [List.map_toArray, List.map_cons, List.map_nil]); first | done | rfl | (simp only [List.length_drop, List.length_take]; rfl)) : p := h
theorem zO2_5 {p : Prop} (h : p := by first | (with_reducible assumption) | assumption) : p := h
theorem zO2_6 {p : Prop} (h : p := by omega) : p := h
theorem zO2_7 {p : Prop} (h : p := by simp) : p := h
end Go.Proofs.YtakodhlaphloeaaGreatDoor.P
namespace Go.Proofs.YtakodhlaphloeaaGreatDoor.P
open Go.RowKit Go.Proofs.YtakodhlaphloeaaGreatDoorW.PrintWords Go.Proofs.YtakodhlaphloeaaGreatDoorW.PrintLast Go.Proofs.YtakodhlaphloeaaGreatDoorW.PrintMore
attribute [local go_sem] max2_int min2_int max_two min_two max_three min_three max_four min_four   -- for this text's walks alone
set_option linter.unusedVariables false
set_option linter.unusedSimpArgs false

/-! ### spec_l1Cur_spoilt: function 54 -/
mutual
def spec_l1Cur_spoilt.l0 : Nat → ByteArray → ByteArray → Int → List Int → Int → Int → Option (ByteArray × Int × Int)
 | 0, _, _, _, _, _, _ => none
 | k + 1, x1, x2, x7, x1000, x1001, x1002 => if x7 > 0 then (spec_l1Cur_spoilt.j1 k x1 x2 x7 (decide ((x1.size : Int) > 0)) x1000 x1001 x1002) else (spec_l1Cur_spoilt.j1 k x1 x2 x7 false x1000 x1001 x1002)
def spec_l1Cur_spoilt.j1 : Nat → ByteArray → ByteArray → Int → Bool → List Int → Int → Int → Option (ByteArray × Int × Int)
 | 0, _, _, _, _, _, _, _ => none
 | k + 1, x1, x2, x7, x19, x1000, x1001, x1002 => if x19 = true then ((spec_l1Cur_pick.f x1000 x1001 x1002 (x1.size : Int)).bind fun bt477 => ((spec_l1Cur_pick.f x1000 bt477.2.1 bt477.2.2 (x2.size : Int)).bind fun bt480 => (if 0 ≤ bt480.1 then (if bt480.1 < (x2.size : Int) then ((some (([bt x2 bt480.1] : List Int) : List Int)).bind fun y483 => ((spec_l1Cur_pick.f x1000 bt480.2.1 bt480.2.2 3).bind fun bt486 => (if bt486.1 = 0 then (if 0 ≤ bt477.1 then (if bt477.1 ≤ (x1.size : Int) then (if (x1.extract 0 (bt477.1 : Int).toNat).size + (strOfNums y483).size ≤ 9223372036854775807 then (if ((x1.extract 0 (bt477.1 : Int).toNat) ++ (strOfNums y483)).size + (x1.extract (bt477.1 : Int).toNat x1.size).size ≤ 9223372036854775807 then (spec_l1Cur_spoilt.l0 k (((x1.extract 0 (bt477.1 : Int).toNat) ++ (strOfNums y483)) ++ (x1.extract (bt477.1 : Int).toNat x1.size)) x2 (wrap64 (x7 - 1)) x1000 bt486.2.1 bt486.2.2) else (none)) else (none)) else (none)) else (none)) else (if bt486.1 = 1 then (if 0 ≤ bt477.1 then (if bt477.1 ≤ (x1.size : Int) then (if (x1.extract 0 (bt477.1 : Int).toNat).size + (strOfNums y483).size ≤ 9223372036854775807 then (if 0 ≤ (wrap64 (bt477.1 + 1)) then (if (wrap64 (bt477.1 + 1)) ≤ (x1.size : Int) then (if ((x1.extract 0 (bt477.1 : Int).toNat) ++ (strOfNums y483)).size + (x1.extract ((wrap64 (bt477.1 + 1)) : Int).toNat x1.size).size ≤ 9223372036854775807 then (spec_l1Cur_spoilt.l0 k (((x1.extract 0 (bt477.1 : Int).toNat) ++ (strOfNums y483)) ++ (x1.extract ((wrap64 (bt477.1 + 1)) : Int).toNat x1.size)) x2 (wrap64 (x7 - 1)) x1000 bt486.2.1 bt486.2.2) else (none)) else (none)) else (none)) else (none)) else (none)) else (none)) else (if 0 ≤ bt477.1 then (if bt477.1 ≤ (x1.size : Int) then (if 0 ≤ (wrap64 (bt477.1 + 1)) then (if (wrap64 (bt477.1 + 1)) ≤ (x1.size : Int) then (if (x1.extract 0 (bt477.1 : Int).toNat).size + (x1.extract ((wrap64 (bt477.1 + 1)) : Int).toNat x1.size).size ≤ 9223372036854775807 then (spec_l1Cur_spoilt.l0 k ((x1.extract 0 (bt477.1 : Int).toNat) ++ (x1.extract ((wrap64 (bt477.1 + 1)) : Int).toNat x1.size)) x2 (wrap64 (x7 - 1)) x1000 bt486.2.1 bt486.2.2) else (none)) else (none)) else (none)) else (none)) else (none)))))) else (none)) else (none)))) else (some (x1, x1001, x1002))
end
def spec_l1Cur_spoilt.f (k : Nat) (s0_0 : List Int) (s0_1 : Int) (s0_2 : Int) (a1 : ByteArray) (a2 : ByteArray) : Option (ByteArray × Int × Int) := (spec_l1Cur_pick.f s0_0 s0_1 s0_2 2).bind fun bt474 => (spec_l1Cur_spoilt.l0 k a1 a2 (wrap64 (1 + bt474.1)) s0_0 bt474.2.1 bt474.2.2)
set_option maxHeartbeats 8000000 in
set_option maxRecDepth 100000 in
theorem spec_l1Cur_spoilt.calls (k : Nat) (g : Nat) (s0_0 : List Int) (s0_1 : Int) (s0_2 : Int) (a1 : ByteArray) (a2 : ByteArray) (r1 : ByteArray) (r2 : Int) (r3 : Int) (w0 w : World) (hI : IsS66 w0 w g s0_0 s0_1 s0_2) (hB : Below w0.heap.size w0 w) (h : spec_l1Cur_spoilt.f k s0_0 s0_1 s0_2 a1 a2 = some (r1, r2, r3)) :
  Calls Tryz.prog 54 #[.pointer (some ⟨g, 0, none⟩), .string a1, .string a2] w fun e w' => e = .returned (.string r1) ∧ IsS66 w0 w' g s0_0 r2 r3 ∧ Below w0.heap.size w0 w' ∧ KeepBut w w' g none := by
 have HI0 := Aside0.mk hI
 have HK := Aside0.mk (KeepBut.refl w g none)
 have HL := Aside0.mk hB.size; clear hI; have HW0 := Aside0.mk hB.size; have HB := Aside0.mk hB; clear hB
 have H : ((spec_l1Cur_pick.f s0_0 s0_1 s0_2 2).bind fun bt474 => (spec_l1Cur_spoilt.l0 k a1 a2 (wrap64 (1 + bt474.1)) s0_0 bt474.2.1 bt474.2.2)) = some (r1, r2, r3) := h
 clear h; replace H := Option.bind_eq_some_iff.mp H; obtain ⟨⟨t474, t475, t476⟩, A40, H⟩ := H
 replace H : (spec_l1Cur_spoilt.l0 k a1 a2 (wrap64 (1 + t474)) s0_0 t475 t476) = some (r1, r2, r3) := H
 have A4 := Aside0.mk A40; clear A40; have H' := Aside0.mk H; clear H
 go_enter Tryz.func54, Tryz.ntmps54
 go_wp2_with (first | (go_at_call 66; (with_reducible refine (spec_l1Cur_pick.calls g s0_0 s0_1 s0_2 2 t474 t475 t476 w0 _ ?side1 ?side2 A4.out).mono ?_); (case side1 => exact zI66 HI0); (case side2 => exact zY66 HB); rintro e w5 ⟨rfl, hi, hb, hk⟩; replace HK := zKt HK hk; replace HB := Aside0.mk hb; replace HI0 := Aside0.mk hi; clear hb hk hi))
 repeat (go_quiet (first | (go_at_call 66; (with_reducible refine (spec_l1Cur_pick.calls g s0_0 s0_1 s0_2 2 t474 t475 t476 w0 _ ?side1 ?side2 A4.out).mono ?_); (case side1 => exact zI66 HI0); (case side2 => exact zY66 HB); rintro e w5 ⟨rfl, hi, hb, hk⟩; replace HK := zKt HK hk; replace HB := Aside0.mk hb; replace HI0 := Aside0.mk hi; clear hb hk hi)); try go_wp2_with (first | (go_at_call 66; (with_reducible refine (spec_l1Cur_pick.calls g s0_0 s0_1 s0_2 2 t474 t475 t476 w0 _ ?side1 ?side2 A4.out).mono ?_); (case side1 => exact zI66 HI0); (case side2 => exact zY66 HB); rintro e w5 ⟨rfl, hi, hb, hk⟩; replace HK := zKt HK hk; replace HB := Aside0.mk hb; replace HI0 := Aside0.mk hi; clear hb hk hi)))
 go_loopg [1, 7] k (fun kq v1 v7 w' => ∃ (x1_1 : ByteArray) (x7_1 : Int) (x1001_1 : Int) (x1002_1 : Int), v1 = .string x1_1 ∧ v7 = .int .i64 x7_1 ∧ Aside0 (spec_l1Cur_spoilt.l0 kq x1_1 a2 x7_1 s0_0 x1001_1 x1002_1 = some (r1, r2, r3)) ∧ Aside0 (kq ≤ k) ∧ Aside0 (IsS66 w0 w' g s0_0 x1001_1 x1002_1) ∧ Aside0 (KeepBut w w' g none) ∧ Aside0 (Below w0.heap.size w0 w'))
 case atStart => exact ⟨(a1), (wrap64 (1 + t474)), (t475), (t476), zu, zu, H', ⟨Nat.le_refl _⟩, ⟨(zI66 HI0)⟩, ⟨zKe HK⟩, ⟨zY66 HB⟩⟩
 case round =>
  clear H'
  obtain ⟨x1_1, x7_1, x1001_1, x1002_1, rfl, rfl, HA, HK1, HI0, HK, HB⟩ := hrel
  cases gk with
  | zero => exact absurd HA.out (by simp [spec_l1Cur_spoilt.l0])
  | succ k1 =>
   have H := HA.out; clear HA; simp only [spec_l1Cur_spoilt.l0] at H; have HC6 := Aside0.mk H; clear H
   go_upto_region 2 with (fail)
   repeat (go_quiet (fail); go_upto_region 2 with (fail))
   go_cut [19] (fun v19 wc => ∃ (kq : Nat) (x19_5 : Bool), v19 = .bool x19_5 ∧ Aside0 (spec_l1Cur_spoilt.j1 kq x1_1 a2 x7_1 x19_5 s0_0 x1001_1 x1002_1 = some (r1, r2, r3)) ∧ Aside0 (kq ≤ k1) ∧ Aside0 (IsS66 w0 wc g s0_0 x1001_1 x1002_1) ∧ Aside0 (KeepBut w wc g none) ∧ Aside0 (Below w0.heap.size w0 wc))
   case first =>
    have H := HC6.out; clear HC6
    by_cases c7 : x7_1 > 0
    ·rw [if_pos c7] at H
     have c7b0 : decide (0 < x7_1) = true := decide_eq_true c7; clear c7
     (first | rw [c7b0] | (simp only [i64_w, i32_w]; rw [c7b0]) | skip)
     have H' := Aside0.mk H; clear H
     go_wp2
     repeat (go_quiet (fail); try go_wp2)
     go_meet
     case rel => exact ⟨_, (decide ((x1_1.size : Int) > 0)), zu, H', ⟨by have := HK1.out; first | omega | exact Nat.le_refl _⟩, ⟨(zI66 HI0)⟩, ⟨zKe HK⟩, ⟨zY66 HB⟩⟩
    ·rw [if_neg c7] at H
     have c7b0 : decide (0 < x7_1) = false := decide_eq_false c7; clear c7
     (first | rw [c7b0] | (simp only [i64_w, i32_w]; rw [c7b0]) | skip)
     have H' := Aside0.mk H; clear H
     go_wp2
     repeat (go_quiet (fail); try go_wp2)
     go_meet
     case rel => exact ⟨_, (false), zu, H', ⟨by have := HK1.out; first | omega | exact Nat.le_refl _⟩, ⟨(zI66 HI0)⟩, ⟨zKe HK⟩, ⟨zY66 HB⟩⟩
   case rest =>
    clear HC6
    obtain ⟨kq, x19_5, rfl, HA, HJ5, HI0, HK, HB⟩ := hcut
    cases kq with
    | zero => exact absurd HA.out (by simp [spec_l1Cur_spoilt.j1])
    | succ kj5 =>
     have H := HA.out; clear HA; simp only [spec_l1Cur_spoilt.j1] at H
     by_cases c8 : x19_5 = true
     ·subst c8
      rw [if_pos rfl] at H; replace H := Option.bind_eq_some_iff.mp H; obtain ⟨⟨t477, t478, t479⟩, A90, H⟩ := H; (try dsimp only at H); have A9 := Aside0.mk A90; clear A90; replace H := Option.bind_eq_some_iff.mp H; obtain ⟨⟨t480, t481, t482⟩, A100, H⟩ := H; (try dsimp only at H); have A10 := Aside0.mk A100; clear A100
      by_cases c11 : 0 ≤ t480
      ·rw [if_pos c11] at H
       have c11b0 : decide (0 ≤ t480) = true := decide_eq_true c11; clear c11
       by_cases c12 : t480 < (a2.size : Int)
       ·rw [if_pos c12] at H
        have c12b0 : decide (t480 < (a2.size : Int)) = true := decide_eq_true c12; clear c12
        obtain ⟨y483, hy483⟩ : ∃ y_ : List Int, y_ = (([bt a2 t480] : List Int)) := ⟨_, rfl⟩
        replace H : ((spec_l1Cur_pick.f s0_0 t481 t482 3).bind fun bt486 => (if bt486.1 = 0 then (if 0 ≤ t477 then (if t477 ≤ (x1_1.size : Int) then (if (x1_1.extract 0 (t477 : Int).toNat).size + (strOfNums y483).size ≤ 9223372036854775807 then (if ((x1_1.extract 0 (t477 : Int).toNat) ++ (strOfNums y483)).size + (x1_1.extract (t477 : Int).toNat x1_1.size).size ≤ 9223372036854775807 then (spec_l1Cur_spoilt.l0 kj5 (((x1_1.extract 0 (t477 : Int).toNat) ++ (strOfNums y483)) ++ (x1_1.extract (t477 : Int).toNat x1_1.size)) a2 (wrap64 (x7_1 - 1)) s0_0 bt486.2.1 bt486.2.2) else (none)) else (none)) else (none)) else (none)) else (if bt486.1 = 1 then (if 0 ≤ t477 then (if t477 ≤ (x1_1.size : Int) then (if (x1_1.extract 0 (t477 : Int).toNat).size + (strOfNums y483).size ≤ 9223372036854775807 then (if 0 ≤ (wrap64 (t477 + 1)) then (if (wrap64 (t477 + 1)) ≤ (x1_1.size : Int) then (if ((x1_1.extract 0 (t477 : Int).toNat) ++ (strOfNums y483)).size + (x1_1.extract ((wrap64 (t477 + 1)) : Int).toNat x1_1.size).size ≤ 9223372036854775807 then (spec_l1Cur_spoilt.l0 kj5 (((x1_1.extract 0 (t477 : Int).toNat) ++ (strOfNums y483)) ++ (x1_1.extract ((wrap64 (t477 + 1)) : Int).toNat x1_1.size)) a2 (wrap64 (x7_1 - 1)) s0_0 bt486.2.1 bt486.2.2) else (none)) else (none)) else (none)) else (none)) else (none)) else (none)) else (if 0 ≤ t477 then (if t477 ≤ (x1_1.size : Int) then (if 0 ≤ (wrap64 (t477 + 1)) then (if (wrap64 (t477 + 1)) ≤ (x1_1.size : Int) then (if (x1_1.extract 0 (t477 : Int).toNat).size + (x1_1.extract ((wrap64 (t477 + 1)) : Int).toNat x1_1.size).size ≤ 9223372036854775807 then (spec_l1Cur_spoilt.l0 kj5 ((x1_1.extract 0 (t477 : Int).toNat) ++ (x1_1.extract ((wrap64 (t477 + 1)) : Int).toNat x1_1.size)) a2 (wrap64 (x7_1 - 1)) s0_0 bt486.2.1 bt486.2.2) else (none)) else (none)) else (none)) else (none)) else (none))))) = some (r1, r2, r3) := by first | (rw [hy483]; with_reducible exact H) | (have H2_ := (Option.bind_some _ _).symm.trans H; rw [hy483]; with_reducible exact H2_) | (have H2_ := (Option.bind_some _ _).symm.trans H; with_reducible exact H2_) | with_reducible exact H | (rw [hy483]; exact H) | exact H
        have Ny483 := Aside0.mk hy483; clear hy483; replace H := Option.bind_eq_some_iff.mp H; obtain ⟨⟨t486, t487, t488⟩, A140, H⟩ := H; (try dsimp only at H); have A14 := Aside0.mk A140; clear A140
        by_cases c15 : t486 = 0
        ·rw [if_pos c15] at H
         have c15b0 : (t486 == 0) = true := beq_iff_eq.mpr c15
         have c15b1 : (t486 != 0) = false := bne_eq_false_iff_eq.mpr c15
         clear c15
         by_cases c16 : 0 ≤ t477
         ·rw [if_pos c16] at H
          have c16b0 := eq_true c16
          have c16b1 : decide (0 ≤ t477) = true := decide_eq_true c16
          clear c16
          by_cases c17 : t477 ≤ (x1_1.size : Int)
          ·rw [if_pos c17] at H
           have c17b0 := eq_true c17
           have c17b1 : decide (t477 ≤ (x1_1.size : Int)) = true := decide_eq_true c17
           clear c17
           by_cases c18 : (x1_1.extract 0 (t477 : Int).toNat).size + (strOfNums y483).size ≤ 9223372036854775807
           ·rw [if_pos c18] at H
            have c18b0 := eq_true c18
            have c18b1 : decide ((x1_1.extract 0 (t477 : Int).toNat).size + (strOfNums y483).size ≤ 9223372036854775807) = true := decide_eq_true c18
            try have c18b2 : (9223372036854775807 < (x1_1.extract 0 (t477 : Int).toNat).size + (strOfNums y483).size) = False := eq_false (Nat.not_lt.2 c18)
            have c19b0 := eq_true (of_decide_eq_true zO2_5 : 0 ≤ t477)
            have c20b0 := eq_true (of_decide_eq_true zO2_5 : t477 ≤ (x1_1.size : Int))
            by_cases c21 : ((x1_1.extract 0 (t477 : Int).toNat) ++ (strOfNums y483)).size + (x1_1.extract (t477 : Int).toNat x1_1.size).size ≤ 9223372036854775807
            ·rw [if_pos c21] at H
             have c21b0 := eq_true c21
             have c21b1 : decide (((x1_1.extract 0 (t477 : Int).toNat) ++ (strOfNums y483)).size + (x1_1.extract (t477 : Int).toNat x1_1.size).size ≤ 9223372036854775807) = true := decide_eq_true c21
             try have c21b2 : (9223372036854775807 < ((x1_1.extract 0 (t477 : Int).toNat) ++ (strOfNums y483)).size + (x1_1.extract (t477 : Int).toNat x1_1.size).size) = False := eq_false (Nat.not_lt.2 c21)
             have H' := Aside0.mk H; clear H
             go_wp2_with (first | (go_at_call 66; (with_reducible refine (spec_l1Cur_pick.calls g s0_0 x1001_1 x1002_1 (x1_1.size : Int) t477 t478 t479 w0 _ ?side1 ?side2 A9.out).mono ?_); (case side1 => exact zI66 HI0); (case side2 => exact zY66 HB); rintro e w22 ⟨rfl, hi, hb, hk⟩; replace HK := zKt HK hk; replace HB := Aside0.mk hb; replace HI0 := Aside0.mk hi; clear hb hk hi) | (go_at_call 66; (with_reducible refine (spec_l1Cur_pick.calls g s0_0 t478 t479 (a2.size : Int) t480 t481 t482 w0 _ ?side1 ?side2 A10.out).mono ?_); (case side1 => exact zI66 HI0); (case side2 => exact zY66 HB); rintro e w23 ⟨rfl, hi, hb, hk⟩; replace HK := zKt HK hk; replace HB := Aside0.mk hb; replace HI0 := Aside0.mk hi; clear hb hk hi; have p13 : 0 ≤ (t480 : Int) := of_decide_eq_true zO2_5; have q13 : t480 < (a2.size : Int) := of_decide_eq_true zO2_5; have hx13 := bt_at a2 t480; replace p13 := eq_true p13; replace q13 := eq_true q13) | ((with_reducible refine gate_dst (N := 32) rfl ?_); (try (refine gate_guard (by rfl) ?_; dsimp only)); refine Kd.R_lit (Kd.int .u8) _ 5 ?hg (N := 32) ?hd (xs := ([bt a2 t480] : List Int)) (inner := [.int .u8 (bt a2 t480)]) (ok := fun _ => True) (okp := fun _ => True) ?hr ?hp (fun _ hk => hk) trivial (Below.refl _ _) (Nat.le_refl _) zO2_7 ?_; (case hd => rfl); (case hg => rfl); (case hr => first | (go_simp; done) | (go_simp; rfl)); (case hp => exact (Reps.one (show Kd.M (Kd.int .u8) _ _ _ (bt a2 t480) [.int .u8 (bt a2 t480)] from rfl) (Reps.none _ _))); intro v484 w24 ho25 hb hg_ hnew_; clear hg_ hnew_; (first | rw [← Ny483.out] at ho25 | (simp only [Int.reduceToNat] at ho25; rw [← Ny483.out] at ho25)); have HO485 := Aside0.mk (Kd.R_lower ho25 (keep_size (w := w) (g := g) (row := none) (zKe HK))); replace HI0 := zJ66 HI0 hb; replace HK := zKb HK hb; replace HB := zH66 HB hb; clear hb ho25; have hcv26 := own_string (P := Tryz.prog) Tryz.underlying22 Tryz.underlying5 Tryz.underlying9 (Kd.own_of_R HO485.out)) | (go_at_call 66; (with_reducible refine (spec_l1Cur_pick.calls g s0_0 t481 t482 3 t486 t487 t488 w0 _ ?side1 ?side2 A14.out).mono ?_); (case side1 => exact zI66 HI0); (case side2 => exact zY66 HB); rintro e w27 ⟨rfl, hi, hb, hk⟩; have n0_ := Aside0.mk (Kd.R_mono (Kd.R_keep (IsS66.apart (show IsS66 w0 _ g s0_0 t481 t482 from (zI66 HI0)) (zs HO485) (by decide)) hk (fun _ h => h.2)) (fun _ h => h.1)); replace HK := zKt HK hk; replace HB := Aside0.mk hb; replace HI0 := Aside0.mk hi; clear HO485; have HO485 := n0_; clear n0_; clear hb hk hi))
             repeat (go_quiet (first | (go_at_call 66; (with_reducible refine (spec_l1Cur_pick.calls g s0_0 x1001_1 x1002_1 (x1_1.size : Int) t477 t478 t479 w0 _ ?side1 ?side2 A9.out).mono ?_); (case side1 => exact zI66 HI0); (case side2 => exact zY66 HB); rintro e w22 ⟨rfl, hi, hb, hk⟩; replace HK := zKt HK hk; replace HB := Aside0.mk hb; replace HI0 := Aside0.mk hi; clear hb hk hi) | (go_at_call 66; (with_reducible refine (spec_l1Cur_pick.calls g s0_0 t478 t479 (a2.size : Int) t480 t481 t482 w0 _ ?side1 ?side2 A10.out).mono ?_); (case side1 => exact zI66 HI0); (case side2 => exact zY66 HB); rintro e w23 ⟨rfl, hi, hb, hk⟩; replace HK := zKt HK hk; replace HB := Aside0.mk hb; replace HI0 := Aside0.mk hi; clear hb hk hi; have p13 : 0 ≤ (t480 : Int) := of_decide_eq_true zO2_5; have q13 : t480 < (a2.size : Int) := of_decide_eq_true zO2_5; have hx13 := bt_at a2 t480; replace p13 := eq_true p13; replace q13 := eq_true q13) | ((with_reducible refine gate_dst (N := 32) rfl ?_); (try (refine gate_guard (by rfl) ?_; dsimp only)); refine Kd.R_lit (Kd.int .u8) _ 5 ?hg (N := 32) ?hd (xs := ([bt a2 t480] : List Int)) (inner := [.int .u8 (bt a2 t480)]) (ok := fun _ => True) (okp := fun _ => True) ?hr ?hp (fun _ hk => hk) trivial (Below.refl _ _) (Nat.le_refl _) zO2_7 ?_; (case hd => rfl); (case hg => rfl); (case hr => first | (go_simp; done) | (go_simp; rfl)); (case hp => exact (Reps.one (show Kd.M (Kd.int .u8) _ _ _ (bt a2 t480) [.int .u8 (bt a2 t480)] from rfl) (Reps.none _ _))); intro v484 w24 ho25 hb hg_ hnew_; clear hg_ hnew_; (first | rw [← Ny483.out] at ho25 | (simp only [Int.reduceToNat] at ho25; rw [← Ny483.out] at ho25)); have HO485 := Aside0.mk (Kd.R_lower ho25 (keep_size (w := w) (g := g) (row := none) (zKe HK))); replace HI0 := zJ66 HI0 hb; replace HK := zKb HK hb; replace HB := zH66 HB hb; clear hb ho25; have hcv26 := own_string (P := Tryz.prog) Tryz.underlying22 Tryz.underlying5 Tryz.underlying9 (Kd.own_of_R HO485.out)) | (go_at_call 66; (with_reducible refine (spec_l1Cur_pick.calls g s0_0 t481 t482 3 t486 t487 t488 w0 _ ?side1 ?side2 A14.out).mono ?_); (case side1 => exact zI66 HI0); (case side2 => exact zY66 HB); rintro e w27 ⟨rfl, hi, hb, hk⟩; have n0_ := Aside0.mk (Kd.R_mono (Kd.R_keep (IsS66.apart (show IsS66 w0 _ g s0_0 t481 t482 from (zI66 HI0)) (zs HO485) (by decide)) hk (fun _ h => h.2)) (fun _ h => h.1)); replace HK := zKt HK hk; replace HB := Aside0.mk hb; replace HI0 := Aside0.mk hi; clear HO485; have HO485 := n0_; clear n0_; clear hb hk hi)); try go_wp2_with (first | (go_at_call 66; (with_reducible refine (spec_l1Cur_pick.calls g s0_0 x1001_1 x1002_1 (x1_1.size : Int) t477 t478 t479 w0 _ ?side1 ?side2 A9.out).mono ?_); (case side1 => exact zI66 HI0); (case side2 => exact zY66 HB); rintro e w22 ⟨rfl, hi, hb, hk⟩; replace HK := zKt HK hk; replace HB := Aside0.mk hb; replace HI0 := Aside0.mk hi; clear hb hk hi) | (go_at_call 66; (with_reducible refine (spec_l1Cur_pick.calls g s0_0 t478 t479 (a2.size : Int) t480 t481 t482 w0 _ ?side1 ?side2 A10.out).mono ?_); (case side1 => exact zI66 HI0); (case side2 => exact zY66 HB); rintro e w23 ⟨rfl, hi, hb, hk⟩; replace HK := zKt HK hk; replace HB := Aside0.mk hb; replace HI0 := Aside0.mk hi; clear hb hk hi; have p13 : 0 ≤ (t480 : Int) := of_decide_eq_true zO2_5; have q13 : t480 < (a2.size : Int) := of_decide_eq_true zO2_5; have hx13 := bt_at a2 t480; replace p13 := eq_true p13; replace q13 := eq_true q13) | ((with_reducible refine gate_dst (N := 32) rfl ?_); (try (refine gate_guard (by rfl) ?_; dsimp only)); refine Kd.R_lit (Kd.int .u8) _ 5 ?hg (N := 32) ?hd (xs := ([bt a2 t480] : List Int)) (inner := [.int .u8 (bt a2 t480)]) (ok := fun _ => True) (okp := fun _ => True) ?hr ?hp (fun _ hk => hk) trivial (Below.refl _ _) (Nat.le_refl _) zO2_7 ?_; (case hd => rfl); (case hg => rfl); (case hr => first | (go_simp; done) | (go_simp; rfl)); (case hp => exact (Reps.one (show Kd.M (Kd.int .u8) _ _ _ (bt a2 t480) [.int .u8 (bt a2 t480)] from rfl) (Reps.none _ _))); intro v484 w24 ho25 hb hg_ hnew_; clear hg_ hnew_; (first | rw [← Ny483.out] at ho25 | (simp only [Int.reduceToNat] at ho25; rw [← Ny483.out] at ho25)); have HO485 := Aside0.mk (Kd.R_lower ho25 (keep_size (w := w) (g := g) (row := none) (zKe HK))); replace HI0 := zJ66 HI0 hb; replace HK := zKb HK hb; replace HB := zH66 HB hb; clear hb ho25; have hcv26 := own_string (P := Tryz.prog) Tryz.underlying22 Tryz.underlying5 Tryz.underlying9 (Kd.own_of_R HO485.out)) | (go_at_call 66; (with_reducible refine (spec_l1Cur_pick.calls g s0_0 t481 t482 3 t486 t487 t488 w0 _ ?side1 ?side2 A14.out).mono ?_); (case side1 => exact zI66 HI0); (case side2 => exact zY66 HB); rintro e w27 ⟨rfl, hi, hb, hk⟩; have n0_ := Aside0.mk (Kd.R_mono (Kd.R_keep (IsS66.apart (show IsS66 w0 _ g s0_0 t481 t482 from (zI66 HI0)) (zs HO485) (by decide)) hk (fun _ h => h.2)) (fun _ h => h.1)); replace HK := zKt HK hk; replace HB := Aside0.mk hb; replace HI0 := Aside0.mk hi; clear HO485; have HO485 := n0_; clear n0_; clear hb hk hi)))
             go_roundg kj5
             case measure => have := HK1.out; have := HJ5.out; omega
             case rel => exact ⟨(((x1_1.extract 0 (t477 : Int).toNat) ++ (strOfNums y483)) ++ (x1_1.extract (t477 : Int).toNat x1_1.size)), (wrap64 (x7_1 - 1)), (t487), (t488), zu, zu, H', ⟨by have := HK1.out; have := HJ5.out; omega⟩, ⟨(zI66 HI0)⟩, ⟨zKe HK⟩, ⟨zY66 HB⟩⟩
            ·rw [if_neg c21] at H
             exact absurd H zO2_7
           ·rw [if_neg c18] at H
            exact absurd H zO2_7
          ·rw [if_neg c17] at H
           exact absurd H zO2_7
         ·rw [if_neg c16] at H
          exact absurd H zO2_7
        ·rw [if_neg c15] at H
         have c15b0 : (t486 == 0) = false := beq_eq_false_iff_ne.mpr c15
         have c15b1 : (t486 != 0) = true := bne_iff_ne.mpr c15
         by_cases c28 : t486 = 1
         ·rw [if_pos c28] at H
          have c28b0 : (t486 == 1) = true := beq_iff_eq.mpr c28
          have c28b1 : (t486 != 1) = false := bne_eq_false_iff_eq.mpr c28
          clear c28
          by_cases c29 : 0 ≤ t477
          ·rw [if_pos c29] at H
           have c29b0 := eq_true c29
           have c29b1 : decide (0 ≤ t477) = true := decide_eq_true c29
           clear c29
           by_cases c30 : t477 ≤ (x1_1.size : Int)
           ·rw [if_pos c30] at H
            have c30b0 := eq_true c30
            have c30b1 : decide (t477 ≤ (x1_1.size : Int)) = true := decide_eq_true c30
            clear c30
            by_cases c31 : (x1_1.extract 0 (t477 : Int).toNat).size + (strOfNums y483).size ≤ 9223372036854775807
            ·rw [if_pos c31] at H
             have c31b0 := eq_true c31
             have c31b1 : decide ((x1_1.extract 0 (t477 : Int).toNat).size + (strOfNums y483).size ≤ 9223372036854775807) = true := decide_eq_true c31
             try have c31b2 : (9223372036854775807 < (x1_1.extract 0 (t477 : Int).toNat).size + (strOfNums y483).size) = False := eq_false (Nat.not_lt.2 c31)
             obtain ⟨ji32, hji32⟩ : ∃ j_ : Int, (wrap64 (t477 + 1)) = j_ := ⟨_, rfl⟩
             replace H : (if 0 ≤ (ji32) then (if (ji32) ≤ (x1_1.size : Int) then (if ((x1_1.extract 0 (t477 : Int).toNat) ++ (strOfNums y483)).size + (x1_1.extract ((ji32) : Int).toNat x1_1.size).size ≤ 9223372036854775807 then (spec_l1Cur_spoilt.l0 kj5 (((x1_1.extract 0 (t477 : Int).toNat) ++ (strOfNums y483)) ++ (x1_1.extract ((ji32) : Int).toNat x1_1.size)) a2 (wrap64 (x7_1 - 1)) s0_0 t487 t488) else (none)) else (none)) else (none)) = some (r1, r2, r3) := by first | (rw [hji32] at H; exact H) | (simp only [hji32] at H ⊢; exact H)
             (try rw [hji32] at A9)
             (try rw [hji32] at A10)
             (try rw [hji32] at A14)
             have hji32w : (IntKind.i64.wrap (t477 + 1)) = ji32 := (i64_w _).trans hji32
             by_cases c33 : 0 ≤ (ji32)
             ·rw [if_pos c33] at H
              have c33b0 := eq_true c33
              have c33b1 : decide (0 ≤ (ji32)) = true := decide_eq_true c33
              clear c33
              by_cases c34 : (ji32) ≤ (x1_1.size : Int)
              ·rw [if_pos c34] at H
               have c34b0 := eq_true c34
               have c34b1 : decide ((ji32) ≤ (x1_1.size : Int)) = true := decide_eq_true c34
               clear c34
               by_cases c35 : ((x1_1.extract 0 (t477 : Int).toNat) ++ (strOfNums y483)).size + (x1_1.extract ((ji32) : Int).toNat x1_1.size).size ≤ 9223372036854775807
               ·rw [if_pos c35] at H
                have c35b0 := eq_true c35
                have c35b1 : decide (((x1_1.extract 0 (t477 : Int).toNat) ++ (strOfNums y483)).size + (x1_1.extract ((ji32) : Int).toNat x1_1.size).size ≤ 9223372036854775807) = true := decide_eq_true c35
                try have c35b2 : (9223372036854775807 < ((x1_1.extract 0 (t477 : Int).toNat) ++ (strOfNums y483)).size + (x1_1.extract ((ji32) : Int).toNat x1_1.size).size) = False := eq_false (Nat.not_lt.2 c35)
                have H' := Aside0.mk H; clear H
                go_wp2_with (first | (go_at_call 66; (with_reducible refine (spec_l1Cur_pick.calls g s0_0 x1001_1 x1002_1 (x1_1.size : Int) t477 t478 t479 w0 _ ?side1 ?side2 A9.out).mono ?_); (case side1 => exact zI66 HI0); (case side2 => exact zY66 HB); rintro e w36 ⟨rfl, hi, hb, hk⟩; replace HK := zKt HK hk; replace HB := Aside0.mk hb; replace HI0 := Aside0.mk hi; clear hb hk hi) | (go_at_call 66; (with_reducible refine (spec_l1Cur_pick.calls g s0_0 t478 t479 (a2.size : Int) t480 t481 t482 w0 _ ?side1 ?side2 A10.out).mono ?_); (case side1 => exact zI66 HI0); (case side2 => exact zY66 HB); rintro e w37 ⟨rfl, hi, hb, hk⟩; replace HK := zKt HK hk; replace HB := Aside0.mk hb; replace HI0 := Aside0.mk hi; clear hb hk hi; have p13 : 0 ≤ (t480 : Int) := of_decide_eq_true zO2_5; have q13 : t480 < (a2.size : Int) := of_decide_eq_true zO2_5; have hx13 := bt_at a2 t480; replace p13 := eq_true p13; replace q13 := eq_true q13) | ((with_reducible refine gate_dst (N := 32) rfl ?_); (try (refine gate_guard (by rfl) ?_; dsimp only)); refine Kd.R_lit (Kd.int .u8) _ 5 ?hg (N := 32) ?hd (xs := ([bt a2 t480] : List Int)) (inner := [.int .u8 (bt a2 t480)]) (ok := fun _ => True) (okp := fun _ => True) ?hr ?hp (fun _ hk => hk) trivial (Below.refl _ _) (Nat.le_refl _) zO2_7 ?_; (case hd => rfl); (case hg => rfl); (case hr => first | (go_simp; done) | (go_simp; rfl)); (case hp => exact (Reps.one (show Kd.M (Kd.int .u8) _ _ _ (bt a2 t480) [.int .u8 (bt a2 t480)] from rfl) (Reps.none _ _))); intro v484 w38 ho39 hb hg_ hnew_; clear hg_ hnew_; (first | rw [← Ny483.out] at ho39 | (simp only [Int.reduceToNat] at ho39; rw [← Ny483.out] at ho39)); have HO485 := Aside0.mk (Kd.R_lower ho39 (keep_size (w := w) (g := g) (row := none) (zKe HK))); replace HI0 := zJ66 HI0 hb; replace HK := zKb HK hb; replace HB := zH66 HB hb; clear hb ho39; have hcv40 := own_string (P := Tryz.prog) Tryz.underlying22 Tryz.underlying5 Tryz.underlying9 (Kd.own_of_R HO485.out)) | (go_at_call 66; (with_reducible refine (spec_l1Cur_pick.calls g s0_0 t481 t482 3 t486 t487 t488 w0 _ ?side1 ?side2 A14.out).mono ?_); (case side1 => exact zI66 HI0); (case side2 => exact zY66 HB); rintro e w41 ⟨rfl, hi, hb, hk⟩; have n0_ := Aside0.mk (Kd.R_mono (Kd.R_keep (IsS66.apart (show IsS66 w0 _ g s0_0 t481 t482 from (zI66 HI0)) (zs HO485) (by decide)) hk (fun _ h => h.2)) (fun _ h => h.1)); replace HK := zKt HK hk; replace HB := Aside0.mk hb; replace HI0 := Aside0.mk hi; clear HO485; have HO485 := n0_; clear n0_; clear hb hk hi))
                repeat (go_quiet (first | (go_at_call 66; (with_reducible refine (spec_l1Cur_pick.calls g s0_0 x1001_1 x1002_1 (x1_1.size : Int) t477 t478 t479 w0 _ ?side1 ?side2 A9.out).mono ?_); (case side1 => exact zI66 HI0); (case side2 => exact zY66 HB); rintro e w36 ⟨rfl, hi, hb, hk⟩; replace HK := zKt HK hk; replace HB := Aside0.mk hb; replace HI0 := Aside0.mk hi; clear hb hk hi) | (go_at_call 66; (with_reducible refine (spec_l1Cur_pick.calls g s0_0 t478 t479 (a2.size : Int) t480 t481 t482 w0 _ ?side1 ?side2 A10.out).mono ?_); (case side1 => exact zI66 HI0); (case side2 => exact zY66 HB); rintro e w37 ⟨rfl, hi, hb, hk⟩; replace HK := zKt HK hk; replace HB := Aside0.mk hb; replace HI0 := Aside0.mk hi; clear hb hk hi; have p13 : 0 ≤ (t480 : Int) := of_decide_eq_true zO2_5; have q13 : t480 < (a2.size : Int) := of_decide_eq_true zO2_5; have hx13 := bt_at a2 t480; replace p13 := eq_true p13; replace q13 := eq_true q13) | ((with_reducible refine gate_dst (N := 32) rfl ?_); (try (refine gate_guard (by rfl) ?_; dsimp only)); refine Kd.R_lit (Kd.int .u8) _ 5 ?hg (N := 32) ?hd (xs := ([bt a2 t480] : List Int)) (inner := [.int .u8 (bt a2 t480)]) (ok := fun _ => True) (okp := fun _ => True) ?hr ?hp (fun _ hk => hk) trivial (Below.refl _ _) (Nat.le_refl _) zO2_7 ?_; (case hd => rfl); (case hg => rfl); (case hr => first | (go_simp; done) | (go_simp; rfl)); (case hp => exact (Reps.one (show Kd.M (Kd.int .u8) _ _ _ (bt a2 t480) [.int .u8 (bt a2 t480)] from rfl) (Reps.none _ _))); intro v484 w38 ho39 hb hg_ hnew_; clear hg_ hnew_; (first | rw [← Ny483.out] at ho39 | (simp only [Int.reduceToNat] at ho39; rw [← Ny483.out] at ho39)); have HO485 := Aside0.mk (Kd.R_lower ho39 (keep_size (w := w) (g := g) (row := none) (zKe HK))); replace HI0 := zJ66 HI0 hb; replace HK := zKb HK hb; replace HB := zH66 HB hb; clear hb ho39; have hcv40 := own_string (P := Tryz.prog) Tryz.underlying22 Tryz.underlying5 Tryz.underlying9 (Kd.own_of_R HO485.out)) | (go_at_call 66; (with_reducible refine (spec_l1Cur_pick.calls g s0_0 t481 t482 3 t486 t487 t488 w0 _ ?side1 ?side2 A14.out).mono ?_); (case side1 => exact zI66 HI0); (case side2 => exact zY66 HB); rintro e w41 ⟨rfl, hi, hb, hk⟩; have n0_ := Aside0.mk (Kd.R_mono (Kd.R_keep (IsS66.apart (show IsS66 w0 _ g s0_0 t481 t482 from (zI66 HI0)) (zs HO485) (by decide)) hk (fun _ h => h.2)) (fun _ h => h.1)); replace HK := zKt HK hk; replace HB := Aside0.mk hb; replace HI0 := Aside0.mk hi; clear HO485; have HO485 := n0_; clear n0_; clear hb hk hi)); try go_wp2_with (first | (go_at_call 66; (with_reducible refine (spec_l1Cur_pick.calls g s0_0 x1001_1 x1002_1 (x1_1.size : Int) t477 t478 t479 w0 _ ?side1 ?side2 A9.out).mono ?_); (case side1 => exact zI66 HI0); (case side2 => exact zY66 HB); rintro e w36 ⟨rfl, hi, hb, hk⟩; replace HK := zKt HK hk; replace HB := Aside0.mk hb; replace HI0 := Aside0.mk hi; clear hb hk hi) | (go_at_call 66; (with_reducible refine (spec_l1Cur_pick.calls g s0_0 t478 t479 (a2.size : Int) t480 t481 t482 w0 _ ?side1 ?side2 A10.out).mono ?_); (case side1 => exact zI66 HI0); (case side2 => exact zY66 HB); rintro e w37 ⟨rfl, hi, hb, hk⟩; replace HK := zKt HK hk; replace HB := Aside0.mk hb; replace HI0 := Aside0.mk hi; clear hb hk hi; have p13 : 0 ≤ (t480 : Int) := of_decide_eq_true zO2_5; have q13 : t480 < (a2.size : Int) := of_decide_eq_true zO2_5; have hx13 := bt_at a2 t480; replace p13 := eq_true p13; replace q13 := eq_true q13) | ((with_reducible refine gate_dst (N := 32) rfl ?_); (try (refine gate_guard (by rfl) ?_; dsimp only)); refine Kd.R_lit (Kd.int .u8) _ 5 ?hg (N := 32) ?hd (xs := ([bt a2 t480] : List Int)) (inner := [.int .u8 (bt a2 t480)]) (ok := fun _ => True) (okp := fun _ => True) ?hr ?hp (fun _ hk => hk) trivial (Below.refl _ _) (Nat.le_refl _) zO2_7 ?_; (case hd => rfl); (case hg => rfl); (case hr => first | (go_simp; done) | (go_simp; rfl)); (case hp => exact (Reps.one (show Kd.M (Kd.int .u8) _ _ _ (bt a2 t480) [.int .u8 (bt a2 t480)] from rfl) (Reps.none _ _))); intro v484 w38 ho39 hb hg_ hnew_; clear hg_ hnew_; (first | rw [← Ny483.out] at ho39 | (simp only [Int.reduceToNat] at ho39; rw [← Ny483.out] at ho39)); have HO485 := Aside0.mk (Kd.R_lower ho39 (keep_size (w := w) (g := g) (row := none) (zKe HK))); replace HI0 := zJ66 HI0 hb; replace HK := zKb HK hb; replace HB := zH66 HB hb; clear hb ho39; have hcv40 := own_string (P := Tryz.prog) Tryz.underlying22 Tryz.underlying5 Tryz.underlying9 (Kd.own_of_R HO485.out)) | (go_at_call 66; (with_reducible refine (spec_l1Cur_pick.calls g s0_0 t481 t482 3 t486 t487 t488 w0 _ ?side1 ?side2 A14.out).mono ?_); (case side1 => exact zI66 HI0); (case side2 => exact zY66 HB); rintro e w41 ⟨rfl, hi, hb, hk⟩; have n0_ := Aside0.mk (Kd.R_mono (Kd.R_keep (IsS66.apart (show IsS66 w0 _ g s0_0 t481 t482 from (zI66 HI0)) (zs HO485) (by decide)) hk (fun _ h => h.2)) (fun _ h => h.1)); replace HK := zKt HK hk; replace HB := Aside0.mk hb; replace HI0 := Aside0.mk hi; clear HO485; have HO485 := n0_; clear n0_; clear hb hk hi)))
                go_roundg kj5
                case measure => have := HK1.out; have := HJ5.out; omega
                case rel => exact ⟨(((x1_1.extract 0 (t477 : Int).toNat) ++ (strOfNums y483)) ++ (x1_1.extract ((ji32) : Int).toNat x1_1.size)), (wrap64 (x7_1 - 1)), (t487), (t488), (by first | rfl | (simp; done) | (simp only [← hji32] <;> (first | rfl | simp)) | (simp [*]; done)), zu, H', ⟨by have := HK1.out; have := HJ5.out; omega⟩, ⟨(zI66 HI0)⟩, ⟨zKe HK⟩, ⟨zY66 HB⟩⟩
               ·rw [if_neg c35] at H
                exact absurd H zO2_7
              ·rw [if_neg c34] at H
               exact absurd H zO2_7
             ·rw [if_neg c33] at H
              exact absurd H zO2_7
            ·rw [if_neg c31] at H
             exact absurd H zO2_7
           ·rw [if_neg c30] at H
            exact absurd H zO2_7
          ·rw [if_neg c29] at H
           exact absurd H zO2_7
         ·rw [if_neg c28] at H
          have c28b0 : (t486 == 1) = false := beq_eq_false_iff_ne.mpr c28
          have c28b1 : (t486 != 1) = true := bne_iff_ne.mpr c28
          by_cases c42 : 0 ≤ t477
          ·rw [if_pos c42] at H
           have c42b0 := eq_true c42
           have c42b1 : decide (0 ≤ t477) = true := decide_eq_true c42
           clear c42
           by_cases c43 : t477 ≤ (x1_1.size : Int)
           ·rw [if_pos c43] at H
            have c43b0 := eq_true c43
            have c43b1 : decide (t477 ≤ (x1_1.size : Int)) = true := decide_eq_true c43
            clear c43
            obtain ⟨ji44, hji44⟩ : ∃ j_ : Int, (wrap64 (t477 + 1)) = j_ := ⟨_, rfl⟩
            replace H : (if 0 ≤ (ji44) then (if (ji44) ≤ (x1_1.size : Int) then (if (x1_1.extract 0 (t477 : Int).toNat).size + (x1_1.extract ((ji44) : Int).toNat x1_1.size).size ≤ 9223372036854775807 then (spec_l1Cur_spoilt.l0 kj5 ((x1_1.extract 0 (t477 : Int).toNat) ++ (x1_1.extract ((ji44) : Int).toNat x1_1.size)) a2 (wrap64 (x7_1 - 1)) s0_0 t487 t488) else (none)) else (none)) else (none)) = some (r1, r2, r3) := by first | (rw [hji44] at H; exact H) | (simp only [hji44] at H ⊢; exact H)
            (try rw [hji44] at A9)
            (try rw [hji44] at A10)
            (try rw [hji44] at A14)
            have hji44w : (IntKind.i64.wrap (t477 + 1)) = ji44 := (i64_w _).trans hji44
            by_cases c45 : 0 ≤ (ji44)
            ·rw [if_pos c45] at H
             have c45b0 := eq_true c45
             have c45b1 : decide (0 ≤ (ji44)) = true := decide_eq_true c45
             clear c45
             by_cases c46 : (ji44) ≤ (x1_1.size : Int)
             ·rw [if_pos c46] at H
              have c46b0 := eq_true c46
              have c46b1 : decide ((ji44) ≤ (x1_1.size : Int)) = true := decide_eq_true c46
              clear c46
              by_cases c47 : (x1_1.extract 0 (t477 : Int).toNat).size + (x1_1.extract ((ji44) : Int).toNat x1_1.size).size ≤ 9223372036854775807
              ·rw [if_pos c47] at H
               have c47b0 := eq_true c47
               have c47b1 : decide ((x1_1.extract 0 (t477 : Int).toNat).size + (x1_1.extract ((ji44) : Int).toNat x1_1.size).size ≤ 9223372036854775807) = true := decide_eq_true c47
               try have c47b2 : (9223372036854775807 < (x1_1.extract 0 (t477 : Int).toNat).size + (x1_1.extract ((ji44) : Int).toNat x1_1.size).size) = False := eq_false (Nat.not_lt.2 c47)
               have H' := Aside0.mk H; clear H
               go_wp2_with (first | (go_at_call 66; (with_reducible refine (spec_l1Cur_pick.calls g s0_0 x1001_1 x1002_1 (x1_1.size : Int) t477 t478 t479 w0 _ ?side1 ?side2 A9.out).mono ?_); (case side1 => exact zI66 HI0); (case side2 => exact zY66 HB); rintro e w48 ⟨rfl, hi, hb, hk⟩; replace HK := zKt HK hk; replace HB := Aside0.mk hb; replace HI0 := Aside0.mk hi; clear hb hk hi) | (go_at_call 66; (with_reducible refine (spec_l1Cur_pick.calls g s0_0 t478 t479 (a2.size : Int) t480 t481 t482 w0 _ ?side1 ?side2 A10.out).mono ?_); (case side1 => exact zI66 HI0); (case side2 => exact zY66 HB); rintro e w49 ⟨rfl, hi, hb, hk⟩; replace HK := zKt HK hk; replace HB := Aside0.mk hb; replace HI0 := Aside0.mk hi; clear hb hk hi; have p13 : 0 ≤ (t480 : Int) := of_decide_eq_true zO2_5; have q13 : t480 < (a2.size : Int) := of_decide_eq_true zO2_5; have hx13 := bt_at a2 t480; replace p13 := eq_true p13; replace q13 := eq_true q13) | ((with_reducible refine gate_dst (N := 32) rfl ?_); (try (refine gate_guard (by rfl) ?_; dsimp only)); refine Kd.R_lit (Kd.int .u8) _ 5 ?hg (N := 32) ?hd (xs := ([bt a2 t480] : List Int)) (inner := [.int .u8 (bt a2 t480)]) (ok := fun _ => True) (okp := fun _ => True) ?hr ?hp (fun _ hk => hk) trivial (Below.refl _ _) (Nat.le_refl _) zO2_7 ?_; (case hd => rfl); (case hg => rfl); (case hr => first | (go_simp; done) | (go_simp; rfl)); (case hp => exact (Reps.one (show Kd.M (Kd.int .u8) _ _ _ (bt a2 t480) [.int .u8 (bt a2 t480)] from rfl) (Reps.none _ _))); intro v484 w50 ho51 hb hg_ hnew_; clear hg_ hnew_; (first | rw [← Ny483.out] at ho51 | (simp only [Int.reduceToNat] at ho51; rw [← Ny483.out] at ho51)); have HO485 := Aside0.mk (Kd.R_lower ho51 (keep_size (w := w) (g := g) (row := none) (zKe HK))); replace HI0 := zJ66 HI0 hb; replace HK := zKb HK hb; replace HB := zH66 HB hb; clear hb ho51; have hcv52 := own_string (P := Tryz.prog) Tryz.underlying22 Tryz.underlying5 Tryz.underlying9 (Kd.own_of_R HO485.out)) | (go_at_call 66; (with_reducible refine (spec_l1Cur_pick.calls g s0_0 t481 t482 3 t486 t487 t488 w0 _ ?side1 ?side2 A14.out).mono ?_); (case side1 => exact zI66 HI0); (case side2 => exact zY66 HB); rintro e w53 ⟨rfl, hi, hb, hk⟩; have n0_ := Aside0.mk (Kd.R_mono (Kd.R_keep (IsS66.apart (show IsS66 w0 _ g s0_0 t481 t482 from (zI66 HI0)) (zs HO485) (by decide)) hk (fun _ h => h.2)) (fun _ h => h.1)); replace HK := zKt HK hk; replace HB := Aside0.mk hb; replace HI0 := Aside0.mk hi; clear HO485; have HO485 := n0_; clear n0_; clear hb hk hi))
               repeat (go_quiet (first | (go_at_call 66; (with_reducible refine (spec_l1Cur_pick.calls g s0_0 x1001_1 x1002_1 (x1_1.size : Int) t477 t478 t479 w0 _ ?side1 ?side2 A9.out).mono ?_); (case side1 => exact zI66 HI0); (case side2 => exact zY66 HB); rintro e w48 ⟨rfl, hi, hb, hk⟩; replace HK := zKt HK hk; replace HB := Aside0.mk hb; replace HI0 := Aside0.mk hi; clear hb hk hi) | (go_at_call 66; (with_reducible refine (spec_l1Cur_pick.calls g s0_0 t478 t479 (a2.size : Int) t480 t481 t482 w0 _ ?side1 ?side2 A10.out).mono ?_); (case side1 => exact zI66 HI0); (case side2 => exact zY66 HB); rintro e w49 ⟨rfl, hi, hb, hk⟩; replace HK := zKt HK hk; replace HB := Aside0.mk hb; replace HI0 := Aside0.mk hi; clear hb hk hi; have p13 : 0 ≤ (t480 : Int) := of_decide_eq_true zO2_5; have q13 : t480 < (a2.size : Int) := of_decide_eq_true zO2_5; have hx13 := bt_at a2 t480; replace p13 := eq_true p13; replace q13 := eq_true q13) | ((with_reducible refine gate_dst (N := 32) rfl ?_); (try (refine gate_guard (by rfl) ?_; dsimp only)); refine Kd.R_lit (Kd.int .u8) _ 5 ?hg (N := 32) ?hd (xs := ([bt a2 t480] : List Int)) (inner := [.int .u8 (bt a2 t480)]) (ok := fun _ => True) (okp := fun _ => True) ?hr ?hp (fun _ hk => hk) trivial (Below.refl _ _) (Nat.le_refl _) zO2_7 ?_; (case hd => rfl); (case hg => rfl); (case hr => first | (go_simp; done) | (go_simp; rfl)); (case hp => exact (Reps.one (show Kd.M (Kd.int .u8) _ _ _ (bt a2 t480) [.int .u8 (bt a2 t480)] from rfl) (Reps.none _ _))); intro v484 w50 ho51 hb hg_ hnew_; clear hg_ hnew_; (first | rw [← Ny483.out] at ho51 | (simp only [Int.reduceToNat] at ho51; rw [← Ny483.out] at ho51)); have HO485 := Aside0.mk (Kd.R_lower ho51 (keep_size (w := w) (g := g) (row := none) (zKe HK))); replace HI0 := zJ66 HI0 hb; replace HK := zKb HK hb; replace HB := zH66 HB hb; clear hb ho51; have hcv52 := own_string (P := Tryz.prog) Tryz.underlying22 Tryz.underlying5 Tryz.underlying9 (Kd.own_of_R HO485.out)) | (go_at_call 66; (with_reducible refine (spec_l1Cur_pick.calls g s0_0 t481 t482 3 t486 t487 t488 w0 _ ?side1 ?side2 A14.out).mono ?_); (case side1 => exact zI66 HI0); (case side2 => exact zY66 HB); rintro e w53 ⟨rfl, hi, hb, hk⟩; have n0_ := Aside0.mk (Kd.R_mono (Kd.R_keep (IsS66.apart (show IsS66 w0 _ g s0_0 t481 t482 from (zI66 HI0)) (zs HO485) (by decide)) hk (fun _ h => h.2)) (fun _ h => h.1)); replace HK := zKt HK hk; replace HB := Aside0.mk hb; replace HI0 := Aside0.mk hi; clear HO485; have HO485 := n0_; clear n0_; clear hb hk hi)); try go_wp2_with (first | (go_at_call 66; (with_reducible refine (spec_l1Cur_pick.calls g s0_0 x1001_1 x1002_1 (x1_1.size : Int) t477 t478 t479 w0 _ ?side1 ?side2 A9.out).mono ?_); (case side1 => exact zI66 HI0); (case side2 => exact zY66 HB); rintro e w48 ⟨rfl, hi, hb, hk⟩; replace HK := zKt HK hk; replace HB := Aside0.mk hb; replace HI0 := Aside0.mk hi; clear hb hk hi) | (go_at_call 66; (with_reducible refine (spec_l1Cur_pick.calls g s0_0 t478 t479 (a2.size : Int) t480 t481 t482 w0 _ ?side1 ?side2 A10.out).mono ?_); (case side1 => exact zI66 HI0); (case side2 => exact zY66 HB); rintro e w49 ⟨rfl, hi, hb, hk⟩; replace HK := zKt HK hk; replace HB := Aside0.mk hb; replace HI0 := Aside0.mk hi; clear hb hk hi; have p13 : 0 ≤ (t480 : Int) := of_decide_eq_true zO2_5; have q13 : t480 < (a2.size : Int) := of_decide_eq_true zO2_5; have hx13 := bt_at a2 t480; replace p13 := eq_true p13; replace q13 := eq_true q13) | ((with_reducible refine gate_dst (N := 32) rfl ?_); (try (refine gate_guard (by rfl) ?_; dsimp only)); refine Kd.R_lit (Kd.int .u8) _ 5 ?hg (N := 32) ?hd (xs := ([bt a2 t480] : List Int)) (inner := [.int .u8 (bt a2 t480)]) (ok := fun _ => True) (okp := fun _ => True) ?hr ?hp (fun _ hk => hk) trivial (Below.refl _ _) (Nat.le_refl _) zO2_7 ?_; (case hd => rfl); (case hg => rfl); (case hr => first | (go_simp; done) | (go_simp; rfl)); (case hp => exact (Reps.one (show Kd.M (Kd.int .u8) _ _ _ (bt a2 t480) [.int .u8 (bt a2 t480)] from rfl) (Reps.none _ _))); intro v484 w50 ho51 hb hg_ hnew_; clear hg_ hnew_; (first | rw [← Ny483.out] at ho51 | (simp only [Int.reduceToNat] at ho51; rw [← Ny483.out] at ho51)); have HO485 := Aside0.mk (Kd.R_lower ho51 (keep_size (w := w) (g := g) (row := none) (zKe HK))); replace HI0 := zJ66 HI0 hb; replace HK := zKb HK hb; replace HB := zH66 HB hb; clear hb ho51; have hcv52 := own_string (P := Tryz.prog) Tryz.underlying22 Tryz.underlying5 Tryz.underlying9 (Kd.own_of_R HO485.out)) | (go_at_call 66; (with_reducible refine (spec_l1Cur_pick.calls g s0_0 t481 t482 3 t486 t487 t488 w0 _ ?side1 ?side2 A14.out).mono ?_); (case side1 => exact zI66 HI0); (case side2 => exact zY66 HB); rintro e w53 ⟨rfl, hi, hb, hk⟩; have n0_ := Aside0.mk (Kd.R_mono (Kd.R_keep (IsS66.apart (show IsS66 w0 _ g s0_0 t481 t482 from (zI66 HI0)) (zs HO485) (by decide)) hk (fun _ h => h.2)) (fun _ h => h.1)); replace HK := zKt HK hk; replace HB := Aside0.mk hb; replace HI0 := Aside0.mk hi; clear HO485; have HO485 := n0_; clear n0_; clear hb hk hi)))
               go_roundg kj5
               case measure => have := HK1.out; have := HJ5.out; omega
               case rel => exact ⟨((x1_1.extract 0 (t477 : Int).toNat) ++ (x1_1.extract ((ji44) : Int).toNat x1_1.size)), (wrap64 (x7_1 - 1)), (t487), (t488), (by first | rfl | (simp; done) | (simp only [← hji44] <;> (first | rfl | simp)) | (simp [*]; done)), zu, H', ⟨by have := HK1.out; have := HJ5.out; omega⟩, ⟨(zI66 HI0)⟩, ⟨zKe HK⟩, ⟨zY66 HB⟩⟩
              ·rw [if_neg c47] at H
               exact absurd H zO2_7
             ·rw [if_neg c46] at H
              exact absurd H zO2_7
            ·rw [if_neg c45] at H
             exact absurd H zO2_7
           ·rw [if_neg c43] at H
            exact absurd H zO2_7
          ·rw [if_neg c42] at H
           exact absurd H zO2_7
       ·rw [if_neg c12] at H
        exact absurd H zO2_7
      ·rw [if_neg c11] at H
       exact absurd H zO2_7
     ·replace c8 := Bool.eq_false_iff.mpr c8
      subst c8; rw [if_neg (show ¬ (false = true) by decide)] at H; simp only [Option.some.injEq, Prod.mk.injEq] at H; obtain ⟨rfl, rfl, rfl⟩ := H
      go_wp2
      repeat (go_quiet (fail); try go_wp2)
      go_ret
      exact ⟨zt, (zI66 HI0), zY66 HB, zKe HK⟩


/-! ### spec_DrawParseIsland: function 30 -/
def spec_DrawParseIsland.f (k : Nat) (l0 : List Int) : Option (ByteArray) := (spec_l1Cur_sureIsland.f l0 0 0).bind fun bt490 => ((spec_htText.f k bt490.1 bt490.2.1 bt490.2.2.1 bt490.2.2.2.1).bind fun t496 => ((spec_l1Cur_one.f l0 bt490.2.2.2.2.1 bt490.2.2.2.2.2 3).bind fun bt497 => (if bt497.1 = true then ((spec_l1Cur_spoilt.f k l0 bt497.2.1 bt497.2.2 t496 (⟨#[48, 49, 50, 51, 124, 58, 47, 120]⟩ : ByteArray)).bind fun bt500 => (some bt500.1)) else (some t496))))
set_option maxHeartbeats 8000000 in
set_option maxRecDepth 100000 in
theorem spec_DrawParseIsland.calls (k : Nat) (A0 : Option Addr) (c0 : Nat) (l0 : List Int) (r : ByteArray) (w : World) (hr0 : Kd.C (Kd.int .u8) w A0 l0.length l0) (hc0 : l0.length ≤ c0) (h : spec_DrawParseIsland.f k l0 = some r) :
  Calls Tryz.prog 30 #[.slice A0 l0.length c0] w fun e w' => e = .returned (.string r) ∧ Below w.heap.size w w' := by
 have hu66 := Tryz.underlying66; have HR0 := Aside0.mk hr0; have HC0 := Aside0.mk hc0; clear hr0 hc0
 have HB := Aside0.mk (Below.refl w.heap.size w)
 have H : ((spec_l1Cur_sureIsland.f l0 0 0).bind fun bt490 => ((spec_htText.f k bt490.1 bt490.2.1 bt490.2.2.1 bt490.2.2.2.1).bind fun t496 => ((spec_l1Cur_one.f l0 bt490.2.2.2.2.1 bt490.2.2.2.2.2 3).bind fun bt497 => (if bt497.1 = true then ((spec_l1Cur_spoilt.f k l0 bt497.2.1 bt497.2.2 t496 (⟨#[48, 49, 50, 51, 124, 58, 47, 120]⟩ : ByteArray)).bind fun bt500 => (some bt500.1)) else (some t496))))) = some r := h
 clear h; replace H := Option.bind_eq_some_iff.mp H; obtain ⟨⟨t490, t491, t492, t493, t494, t495⟩, A20, H⟩ := H; (try dsimp only at H); have A2 := Aside0.mk A20; clear A20; replace H := Option.bind_eq_some_iff.mp H; obtain ⟨t496, A30, H⟩ := H; (try dsimp only at H); have A3 := Aside0.mk A30; clear A30; replace H := Option.bind_eq_some_iff.mp H; obtain ⟨⟨t497, t498, t499⟩, A40, H⟩ := H; (try dsimp only at H); have A4 := Aside0.mk A40; clear A40
 by_cases c5 : t497 = true
 ·subst c5
  rw [if_pos rfl] at H; replace H := Option.bind_eq_some_iff.mp H; obtain ⟨⟨t500, t501, t502⟩, A60, H⟩ := H
  replace H : (some t500) = some r := H
  have A6 := Aside0.mk A60; clear A60
  obtain rfl := Option.some.inj H
  go_enter Tryz.func30, Tryz.ntmps30
  go_wp2_with (first | ((with_reducible refine gate_dst (N := 7) rfl ?_); refine zE 7 #[.slice A0 l0.length c0, .int .i64 0, .int .u64 0] 66 ?_; intro gb489 hg w7 hbox hb; have HI489 := Aside0.mk ((show IsS66 w _ gb489 l0 0 0 from ⟨_, _, hbox, (by rw [hg]; exact (below_size (zy HB)) : w.heap.size ≤ gb489), HR0.out⟩)); have GW489 := zg HB hg; have GE489 := GW489; replace HB := zh HB hb; clear hb hbox hg) | ((with_reducible refine gate_callee (f := 52) rfl ?_); refine zG (some 9) Tryz.func52 #[.pointer (some ⟨gb489, 0, none⟩)] ?_; (with_reducible refine (spec_l1Cur_sureIsland.calls gb489 l0 0 0 t490 t491 t492 t493 t494 t495 w _ ?side1 ?side2 A2.out).mono ?_); (case side1 => exact zI66 HI489); (case side2 => exact zY66 HB); rintro e w8 ⟨rfl, hi, hb, hk⟩; refine ⟨_, rfl, ?_⟩; replace HB := Aside0.mk hb; replace HI489 := Aside0.mk hi; clear hb hk hi) | ((with_reducible refine gate_callee (f := 40) rfl ?_); refine zG (some 10) Tryz.func40 #[.agg #[.int .i64 t490, .int .i64 t491, .int .i64 t492, .int .i64 t493]] ?_; (with_reducible refine (spec_htText.calls k t490 t491 t492 t493 t496 _ A3.out).mono ?_); rintro e w9 ⟨rfl, hb⟩; refine ⟨_, rfl, ?_⟩; replace HI489 := zJ66 HI489 hb; replace HB := zH66 HB hb; clear hb) | ((with_reducible refine gate_callee (f := 53) rfl ?_); refine zG (some 12) Tryz.func53 #[.pointer (some ⟨gb489, 0, none⟩), .int .i64 3] ?_; (with_reducible refine (spec_l1Cur_one.calls gb489 l0 t494 t495 3 true t498 t499 w _ ?side1 ?side2 A4.out).mono ?_); (case side1 => exact zI66 HI489); (case side2 => exact zY66 HB); rintro e w10 ⟨rfl, hi, hb, hk⟩; refine ⟨_, rfl, ?_⟩; replace HB := Aside0.mk hb; replace HI489 := Aside0.mk hi; clear hb hk hi) | ((with_reducible refine gate_callee (f := 54) rfl ?_); refine zG (some 15) Tryz.func54 #[.pointer (some ⟨gb489, 0, none⟩), .string t496, .string (⟨#[48, 49, 50, 51, 124, 58, 47, 120]⟩ : ByteArray)] ?_; (with_reducible refine (spec_l1Cur_spoilt.calls k gb489 l0 t498 t499 t496 (⟨#[48, 49, 50, 51, 124, 58, 47, 120]⟩ : ByteArray) t500 t501 t502 w _ ?side1 ?side2 A6.out).mono ?_); (case side1 => exact zI66 HI489); (case side2 => exact zY66 HB); rintro e w11 ⟨rfl, hi, hb, hk⟩; refine ⟨_, rfl, ?_⟩; replace HB := Aside0.mk hb; replace HI489 := Aside0.mk hi; clear hb hk hi))
  go_ret
  exact ⟨zt, zY66 HB⟩
 ·replace c5 := Bool.eq_false_iff.mpr c5
  subst c5; rw [if_neg (show ¬ (false = true) by decide)] at H
  obtain rfl := Option.some.inj H
  go_enter Tryz.func30, Tryz.ntmps30
  go_wp2_with (first | ((with_reducible refine gate_dst (N := 7) rfl ?_); refine zE 7 #[.slice A0 l0.length c0, .int .i64 0, .int .u64 0] 66 ?_; intro gb489 hg w12 hbox hb; have HI489 := Aside0.mk ((show IsS66 w _ gb489 l0 0 0 from ⟨_, _, hbox, (by rw [hg]; exact (below_size (zy HB)) : w.heap.size ≤ gb489), HR0.out⟩)); have GW489 := zg HB hg; have GE489 := GW489; replace HB := zh HB hb; clear hb hbox hg) | ((with_reducible refine gate_callee (f := 52) rfl ?_); refine zG (some 9) Tryz.func52 #[.pointer (some ⟨gb489, 0, none⟩)] ?_; (with_reducible refine (spec_l1Cur_sureIsland.calls gb489 l0 0 0 t490 t491 t492 t493 t494 t495 w _ ?side1 ?side2 A2.out).mono ?_); (case side1 => exact zI66 HI489); (case side2 => exact zY66 HB); rintro e w13 ⟨rfl, hi, hb, hk⟩; refine ⟨_, rfl, ?_⟩; replace HB := Aside0.mk hb; replace HI489 := Aside0.mk hi; clear hb hk hi) | ((with_reducible refine gate_callee (f := 40) rfl ?_); refine zG (some 10) Tryz.func40 #[.agg #[.int .i64 t490, .int .i64 t491, .int .i64 t492, .int .i64 t493]] ?_; (with_reducible refine (spec_htText.calls k t490 t491 t492 t493 t496 _ A3.out).mono ?_); rintro e w14 ⟨rfl, hb⟩; refine ⟨_, rfl, ?_⟩; replace HI489 := zJ66 HI489 hb; replace HB := zH66 HB hb; clear hb) | ((with_reducible refine gate_callee (f := 53) rfl ?_); refine zG (some 12) Tryz.func53 #[.pointer (some ⟨gb489, 0, none⟩), .int .i64 3] ?_; (with_reducible refine (spec_l1Cur_one.calls gb489 l0 t494 t495 3 false t498 t499 w _ ?side1 ?side2 A4.out).mono ?_); (case side1 => exact zI66 HI489); (case side2 => exact zY66 HB); rintro e w15 ⟨rfl, hi, hb, hk⟩; refine ⟨_, rfl, ?_⟩; replace HB := Aside0.mk hb; replace HI489 := Aside0.mk hi; clear hb hk hi))
  go_ret
  exact ⟨zt, zY66 HB⟩


/-! ### spec_l1Split: function 69 -/
def spec_l1Split.l0 : Nat → ByteArray → Int → List ByteArray → Int → Int → Option (List ByteArray)
 | 0, _, _, _, _, _ => none
 | k + 1, x0, x1, x5, x6, x7 => if x7 < (x0.size : Int) then (if 0 ≤ x7 then (if (bt x0 x7) = x1 then (if 0 ≤ x6 then (if x6 ≤ x7 then (if x7 ≤ (x0.size : Int) then (if x5.length < 8796093022208 then (spec_l1Split.l0 k x0 x1 (x5 ++ [x0.extract (x6 : Int).toNat (x7 : Int).toNat]) (wrap64 (x7 + 1)) (wrap64 (x7 + 1))) else (none)) else (none)) else (none)) else (none)) else (spec_l1Split.l0 k x0 x1 x5 x6 (wrap64 (x7 + 1)))) else (none)) else (if 0 ≤ x6 then (if x6 ≤ (x0.size : Int) then (if x5.length < 8796093022208 then (some (x5 ++ [x0.extract (x6 : Int).toNat x0.size])) else (none)) else (none)) else (none))
def spec_l1Split.f (k : Nat) (a0 : ByteArray) (a1 : Int) : Option (List ByteArray) := spec_l1Split.l0 k a0 a1 ([] : List ByteArray) 0 0
set_option maxHeartbeats 8000000 in
set_option maxRecDepth 100000 in
theorem spec_l1Split.calls (k : Nat) (a0 : ByteArray) (a1 : Int) (r : List ByteArray) (w : World) (h : spec_l1Split.f k a0 a1 = some r) :
  Calls Tryz.prog 69 #[.string a0, .int .u8 a1] w fun e w' => ∃ v0_ : Value, e = .returned (v0_) ∧ Kd.R Kd.string 9 w' w.heap.size (fun _ => True) v0_ r ∧ Below w.heap.size w w' := by
 have HB := Aside0.mk (Below.refl w.heap.size w)
 have H : (spec_l1Split.l0 k a0 a1 ([] : List ByteArray) 0 0) = some r := h
 clear h; have H' := Aside0.mk H; clear H
 go_enter Tryz.func69, Tryz.ntmps69
 go_wp2
 go_loopg [5, 6, 7] k (fun kq v5 v6 v7 w' => ∃ (x5_1 : List ByteArray) (x6_1 : Int) (x7_1 : Int), v6 = .int .i64 x6_1 ∧ v7 = .int .i64 x7_1 ∧ Aside0 (spec_l1Split.l0 kq a0 a1 x5_1 x6_1 x7_1 = some r) ∧ Aside0 (kq ≤ k) ∧ Aside0 (Kd.R Kd.string 9 w' w.heap.size (fun _ => True) v5 x5_1) ∧ Aside0 (Below w.heap.size w w'))
 case atStart => exact ⟨(([] : List ByteArray)), (0), (0), zu, zu, H', ⟨Nat.le_refl _⟩, ⟨by first | exact Kd.R_nil _ _ _ _ _ | exact Kd.N_nil _ _ _ _ _ | exact Kd.V_nil _ _ _ _ _ | exact Kd.Q_nil _ _ _ _ _ | exact Kd.S_nil _ _ _ _ _⟩, ⟨zy HB⟩⟩
 case round =>
  clear H'
  obtain ⟨x5_1, x6_1, x7_1, rfl, rfl, HA, HK1, HO_5, HB⟩ := hrel
  cases gk with
  | zero => exact absurd HA.out (by simp [spec_l1Split.l0])
  | succ k1 =>
   have H := HA.out; clear HA; simp only [spec_l1Split.l0] at H
   by_cases c3 : x7_1 < (a0.size : Int)
   ·rw [if_pos c3] at H
    have c3b0 : decide (x7_1 < (a0.size : Int)) = true := decide_eq_true c3; clear c3
    by_cases c4 : 0 ≤ x7_1
    ·rw [if_pos c4] at H
     have c4b0 : decide (0 ≤ x7_1) = true := decide_eq_true c4; clear c4
     by_cases c6 : (bt a0 x7_1) = a1
     ·rw [if_pos c6] at H
      have c6b0 : ((bt a0 x7_1) == a1) = true := beq_iff_eq.mpr c6
      have c6b1 : ((bt a0 x7_1) != a1) = false := bne_eq_false_iff_eq.mpr c6
      clear c6
      by_cases c7 : 0 ≤ x6_1
      ·rw [if_pos c7] at H
       have c7b0 := eq_true c7
       have c7b1 : decide (0 ≤ x6_1) = true := decide_eq_true c7
       clear c7
       by_cases c8 : x6_1 ≤ x7_1
       ·rw [if_pos c8] at H
        have c8b0 := eq_true c8
        have c8b1 : decide (x6_1 ≤ x7_1) = true := decide_eq_true c8
        clear c8
        by_cases c9 : x7_1 ≤ (a0.size : Int)
        ·rw [if_pos c9] at H
         have c9b0 := eq_true c9
         have c9b1 : decide (x7_1 ≤ (a0.size : Int)) = true := decide_eq_true c9
         clear c9
         by_cases c10 : x5_1.length < 8796093022208
         ·rw [if_pos c10] at H
          have LMc10 := Aside0.mk c10; clear c10
          obtain ⟨y503, hy503⟩ : ∃ y_ : List ByteArray, y_ = (x5_1 ++ [a0.extract (x6_1 : Int).toNat (x7_1 : Int).toNat]) := ⟨_, rfl⟩
          replace H : (spec_l1Split.l0 k1 a0 a1 y503 (wrap64 (x7_1 + 1)) (wrap64 (x7_1 + 1))) = some r := by first | (rw [hy503]; with_reducible exact H) | (have H2_ := (Option.bind_some _ _).symm.trans H; rw [hy503]; with_reducible exact H2_) | (have H2_ := (Option.bind_some _ _).symm.trans H; with_reducible exact H2_) | with_reducible exact H | (rw [hy503]; exact H) | exact H
          have Ny503 := Aside0.mk hy503; clear hy503; have H' := Aside0.mk H; clear H
          have p5 : 0 ≤ (x7_1 : Int) := of_decide_eq_true zO2_5
          have q5 : x7_1 < (a0.size : Int) := of_decide_eq_true zO2_5
          have hx5 := bt_at a0 x7_1
          replace p5 := eq_true p5; replace q5 := eq_true q5
          go_wp2_with (first | ((with_reducible refine gate_builtin (b := .append) (xs := #[.tmp 19, .tmp 24]) rfl ?_); at_builtin; refine Kd.R_append Kd.string (w0 := w) w.heap.size rfl (.tmp 19) (.tmp 24) 82 9 (.string ⟨#[]⟩) 16 rfl Tryz.underlying82 info9 rfl (by decide) zO2_6 u5 x5_1 (a0.extract (x6_1 : Int).toNat (x7_1 : Int).toNat) [.string (a0.extract (x6_1 : Int).toNat (x7_1 : Int).toNat)] (fun _ => True) (fun _ => False) rfl rfl ?aP (fun _ hk => hk.elim) ?aF ?aO ?aB ?aS ?aL ?_; (case aP => exact rfl); (case aB => exact (zy HB)); (case aF => exact (fun _ _ => trivial)); (case aO => exact (zs HO_5)); (case aS => exact (below_size (zy HB))); (case aL => have := LMc10.out; omega); intro v504 w11 ho hb hg hat; rw [← Ny503.out] at ho; have HO505 := Aside0.mk (ho); replace HB := Aside0.mk hb; clear HO_5; clear ho hb hg hat))
          go_roundg k1
          case measure => have := HK1.out; omega
          case rel => exact ⟨(y503), (wrap64 (x7_1 + 1)), (wrap64 (x7_1 + 1)), zu, zu, H', ⟨by have := HK1.out; omega⟩, zp HO505, ⟨zy HB⟩⟩
         ·rw [if_neg c10] at H
          exact absurd H zO2_7
        ·rw [if_neg c9] at H
         exact absurd H zO2_7
       ·rw [if_neg c8] at H
        exact absurd H zO2_7
      ·rw [if_neg c7] at H
       exact absurd H zO2_7
     ·rw [if_neg c6] at H
      have c6b0 : ((bt a0 x7_1) == a1) = false := beq_eq_false_iff_ne.mpr c6
      have c6b1 : ((bt a0 x7_1) != a1) = true := bne_iff_ne.mpr c6
      have H' := Aside0.mk H; clear H
      have p5 : 0 ≤ (x7_1 : Int) := of_decide_eq_true zO2_5
      have q5 : x7_1 < (a0.size : Int) := of_decide_eq_true zO2_5
      have hx5 := bt_at a0 x7_1
      replace p5 := eq_true p5; replace q5 := eq_true q5
      go_wp2
      go_roundg k1
      case measure => have := HK1.out; omega
      case rel => exact ⟨(x5_1), (x6_1), (wrap64 (x7_1 + 1)), zu, zu, H', ⟨by have := HK1.out; omega⟩, zp HO_5, ⟨zy HB⟩⟩
    ·rw [if_neg c4] at H
     exact absurd H zO2_7
   ·rw [if_neg c3] at H
    have c3b0 : decide (x7_1 < (a0.size : Int)) = false := decide_eq_false c3; clear c3
    by_cases c12 : 0 ≤ x6_1
    ·rw [if_pos c12] at H
     have c12b0 := eq_true c12
     have c12b1 : decide (0 ≤ x6_1) = true := decide_eq_true c12
     clear c12
     by_cases c13 : x6_1 ≤ (a0.size : Int)
     ·rw [if_pos c13] at H
      have c13b0 := eq_true c13
      have c13b1 : decide (x6_1 ≤ (a0.size : Int)) = true := decide_eq_true c13
      clear c13
      by_cases c14 : x5_1.length < 8796093022208
      ·rw [if_pos c14] at H
       have LMc14 := Aside0.mk c14; clear c14
       obtain ⟨y506, hy506⟩ : ∃ y_ : List ByteArray, y_ = (x5_1 ++ [a0.extract (x6_1 : Int).toNat a0.size]) := ⟨_, rfl⟩
       replace H : (some y506) = some r := by first | (rw [hy506]; with_reducible exact H) | (have H2_ := (Option.bind_some _ _).symm.trans H; rw [hy506]; with_reducible exact H2_) | (have H2_ := (Option.bind_some _ _).symm.trans H; with_reducible exact H2_) | with_reducible exact H | (rw [hy506]; exact H) | exact H
       have Ny506 := Aside0.mk hy506; clear hy506
       obtain rfl := Option.some.inj H
       go_wp2_with (first | ((with_reducible refine gate_builtin (b := .append) (xs := #[.tmp 28, .tmp 32]) rfl ?_); at_builtin; refine Kd.R_append Kd.string (w0 := w) w.heap.size rfl (.tmp 28) (.tmp 32) 82 9 (.string ⟨#[]⟩) 16 rfl Tryz.underlying82 info9 rfl (by decide) zO2_6 u5 x5_1 (a0.extract (x6_1 : Int).toNat a0.size) [.string (a0.extract (x6_1 : Int).toNat a0.size)] (fun _ => True) (fun _ => False) rfl rfl ?aP (fun _ hk => hk.elim) ?aF ?aO ?aB ?aS ?aL ?_; (case aP => exact rfl); (case aB => exact (zy HB)); (case aF => exact (fun _ _ => trivial)); (case aO => exact (zs HO_5)); (case aS => exact (below_size (zy HB))); (case aL => have := LMc14.out; omega); intro v507 w15 ho hb hg hat; rw [← Ny506.out] at ho; have HO508 := Aside0.mk (ho); replace HB := Aside0.mk hb; clear HO_5; clear ho hb hg hat))
       go_ret
       exact ⟨_, zt, by (with_reducible repeat (first | apply Kd.R_alloc | apply Kd.R_drewN | apply Kd.R_drew)); exact HO508.out, zy HB⟩
      ·rw [if_neg c14] at H
       exact absurd H zO2_7
     ·rw [if_neg c13] at H
      exact absurd H zO2_7
    ·rw [if_neg c12] at H
     exact absurd H zO2_7


/-! ### spec_l1Read: function 70 -/
mutual
def spec_l1Read.j0 : Nat → ByteArray → Bool → Option (Int)
 | 0, _, _ => none
 | k + 1, x0, x18 => if x18 = true then (some (-1)) else (spec_l1Read.l0 k x0 0 0)
def spec_l1Read.l0 : Nat → ByteArray → Int → Int → Option (Int)
 | 0, _, _, _ => none
 | k + 1, x0, x3, x4 => if x4 < (x0.size : Int) then (if 0 ≤ x4 then (if (bt x0 x4) < 48 then (some (-1)) else (if (bt x0 x4) > 57 then (some (-1)) else (spec_l1Read.l0 k x0 (wrap64 ((wrap64 (10 * x3)) + (((bt x0 x4) - 48) % 256))) (wrap64 (x4 + 1))))) else (none)) else (some x3)
end
def spec_l1Read.f (k : Nat) (a0 : ByteArray) : Option (Int) := (spec_l1In.f (a0.size : Int) 1 6).bind fun t509 => (if t509 = true then (if 0 < (a0.size : Int) then (if (bt a0 0) = 48 then (spec_l1Read.j0 k a0 (decide ((a0.size : Int) > 1))) else (spec_l1Read.j0 k a0 false)) else (none)) else (spec_l1Read.j0 k a0 true))
set_option maxHeartbeats 8000000 in
set_option maxRecDepth 100000 in
theorem spec_l1Read.calls (k : Nat) (a0 : ByteArray) (r : Int) (w : World) (h : spec_l1Read.f k a0 = some r) :
  Calls Tryz.prog 70 #[.string a0] w fun e w' => e = .returned (.int .i64 r) ∧ Drawn0 w w' := by
 have H : ((spec_l1In.f (a0.size : Int) 1 6).bind fun t509 => (if t509 = true then (if 0 < (a0.size : Int) then (if (bt a0 0) = 48 then (spec_l1Read.j0 k a0 (decide ((a0.size : Int) > 1))) else (spec_l1Read.j0 k a0 false)) else (none)) else (spec_l1Read.j0 k a0 true))) = some r := h
 clear h; have HC2 := Aside0.mk H; clear H
 go_enter Tryz.func70, Tryz.ntmps70
 go_upto_region 1 with (fail)
 go_cut [18] (fun v18 wc => ∃ (kq : Nat) (x18_1 : Bool), v18 = .bool x18_1 ∧ Aside0 (spec_l1Read.j0 kq a0 x18_1 = some r) ∧ Aside0 (kq ≤ k) ∧ Drawn0 w wc)
 case first =>
  have H := HC2.out; clear HC2; replace H := Option.bind_eq_some_iff.mp H; obtain ⟨t509, A30, H⟩ := H; (try dsimp only at H); have A3 := Aside0.mk A30; clear A30
  by_cases c4 : t509 = true
  ·subst c4
   rw [if_pos rfl] at H
   by_cases c5 : 0 < (a0.size : Int)
   ·rw [if_pos c5] at H
    have c5b0 : decide (0 < (a0.size : Int)) = true := decide_eq_true c5
    have c5b1 : decide (0 < a0.size) = true := decide_eq_true zO2_6
    clear c5
    (first | rw [c5b0] | (simp only [i64_w, i32_w]; rw [c5b0]) | skip)
    by_cases c7 : (bt a0 0) = 48
    ·rw [if_pos c7] at H
     have c7b0 : ((bt a0 0) == 48) = true := beq_iff_eq.mpr c7
     have c7b1 : ((bt a0 0) != 48) = false := bne_eq_false_iff_eq.mpr c7
     clear c7; have H' := Aside0.mk H; clear H
     go_wp2_with (first | ((with_reducible refine gate_callee (f := 67) rfl ?_); refine zG (some 7) Tryz.func67 #[.int .i64 (a0.size : Int), .int .i64 1, .int .i64 6] ?_; (with_reducible refine (spec_l1In.calls (a0.size : Int) 1 6 true _ A3.out).mono ?_); rintro e w' ⟨rfl, ⟨nd, rfl⟩⟩; refine ⟨_, rfl, ?_⟩; have p6 : 0 ≤ (0 : Int) := zO2_6; have q6 : 0 < a0.size := (by have : (0 : Int) < (a0.size : Int) := of_decide_eq_true zO2_5; omega); have hx6 : ∀ h : 0 < a0.size, ((a0[0]'h).toNat : Int) = bt a0 0 := bt_at a0 0; clear p6; have qi6 : (0 < (a0.size : Int)) = True := eq_true (of_decide_eq_true zO2_5); replace q6 := eq_true q6))
     go_meet
     case rel => exact ⟨_, (decide ((a0.size : Int) > 1)), zu, H', ⟨by first | omega | exact Nat.le_refl _⟩, by repeat (first | exact Drawn0.refl _ | apply Drawn0.step)⟩
    ·rw [if_neg c7] at H
     have c7b0 : ((bt a0 0) == 48) = false := beq_eq_false_iff_ne.mpr c7
     have c7b1 : ((bt a0 0) != 48) = true := bne_iff_ne.mpr c7
     have H' := Aside0.mk H; clear H
     go_wp2_with (first | ((with_reducible refine gate_callee (f := 67) rfl ?_); refine zG (some 7) Tryz.func67 #[.int .i64 (a0.size : Int), .int .i64 1, .int .i64 6] ?_; (with_reducible refine (spec_l1In.calls (a0.size : Int) 1 6 true _ A3.out).mono ?_); rintro e w' ⟨rfl, ⟨nd, rfl⟩⟩; refine ⟨_, rfl, ?_⟩; have p6 : 0 ≤ (0 : Int) := zO2_6; have q6 : 0 < a0.size := (by have : (0 : Int) < (a0.size : Int) := of_decide_eq_true zO2_5; omega); have hx6 : ∀ h : 0 < a0.size, ((a0[0]'h).toNat : Int) = bt a0 0 := bt_at a0 0; clear p6; have qi6 : (0 < (a0.size : Int)) = True := eq_true (of_decide_eq_true zO2_5); replace q6 := eq_true q6))
     go_meet
     case rel => exact ⟨_, (false), zu, H', ⟨by first | omega | exact Nat.le_refl _⟩, by repeat (first | exact Drawn0.refl _ | apply Drawn0.step)⟩
   ·rw [if_neg c5] at H
    exact absurd H zO2_7
  ·replace c4 := Bool.eq_false_iff.mpr c4
   subst c4; rw [if_neg (show ¬ (false = true) by decide)] at H; have H' := Aside0.mk H; clear H
   go_wp2_with (first | ((with_reducible refine gate_callee (f := 67) rfl ?_); refine zG (some 7) Tryz.func67 #[.int .i64 (a0.size : Int), .int .i64 1, .int .i64 6] ?_; (with_reducible refine (spec_l1In.calls (a0.size : Int) 1 6 false _ A3.out).mono ?_); rintro e w' ⟨rfl, ⟨nd, rfl⟩⟩; refine ⟨_, rfl, ?_⟩))
   go_meet
   case rel => exact ⟨_, (true), zu, H', ⟨by first | omega | exact Nat.le_refl _⟩, by repeat (first | exact Drawn0.refl _ | apply Drawn0.step)⟩
 case rest =>
  clear HC2
  obtain ⟨kq, x18_1, rfl, HA, HJ1, ⟨mc1, rfl⟩⟩ := hcut
  cases kq with
  | zero => exact absurd HA.out (by simp [spec_l1Read.j0])
  | succ kj1 =>
   have H := HA.out; clear HA; simp only [spec_l1Read.j0] at H
   by_cases c8 : x18_1 = true
   ·subst c8
    rw [if_pos rfl] at H
    obtain rfl := Option.some.inj H
    go_wp2
    go_ret
    exact ⟨by first | rfl | (simp; done) | (simp [*]; done), by repeat (first | exact Drawn0.refl _ | apply Drawn0.step)⟩
   ·replace c8 := Bool.eq_false_iff.mpr c8
    subst c8; rw [if_neg (show ¬ (false = true) by decide)] at H; have H' := Aside0.mk H; clear H
    go_wp2
    go_loopg [3, 4] kj1 (fun kq v3 v4 w' => ∃ (x3_2 : Int) (x4_2 : Int), v3 = .int .i64 x3_2 ∧ v4 = .int .i64 x4_2 ∧ Aside0 (spec_l1Read.l0 kq a0 x3_2 x4_2 = some r) ∧ Aside0 (kq ≤ kj1) ∧ Drawn0 w w')
    case atStart => exact ⟨(0), (0), zu, zu, H', ⟨Nat.le_refl _⟩, by repeat (first | exact Drawn0.refl _ | apply Drawn0.step)⟩
    case round =>
     clear H'
     obtain ⟨x3_2, x4_2, rfl, rfl, HA, HK2, ⟨m2, rfl⟩⟩ := hrel
     cases gk with
     | zero => exact absurd HA.out (by simp [spec_l1Read.l0])
     | succ k2 =>
      have H := HA.out; clear HA; simp only [spec_l1Read.l0] at H
      by_cases c9 : x4_2 < (a0.size : Int)
      ·rw [if_pos c9] at H
       have c9b0 : decide (x4_2 < (a0.size : Int)) = true := decide_eq_true c9; clear c9
       by_cases c10 : 0 ≤ x4_2
       ·rw [if_pos c10] at H
        have c10b0 : decide (0 ≤ x4_2) = true := decide_eq_true c10; clear c10
        by_cases c12 : (bt a0 x4_2) < 48
        ·rw [if_pos c12] at H
         have c12b0 : decide ((bt a0 x4_2) < 48) = true := decide_eq_true c12; clear c12
         obtain rfl := Option.some.inj H
         have p11 : 0 ≤ (x4_2 : Int) := of_decide_eq_true zO2_5
         have q11 : x4_2 < (a0.size : Int) := of_decide_eq_true zO2_5
         have hx11 := bt_at a0 x4_2
         replace p11 := eq_true p11; replace q11 := eq_true q11
         go_wp2
         go_ret
         exact ⟨by first | rfl | (simp; done) | (simp [*]; done), by repeat (first | exact Drawn0.refl _ | apply Drawn0.step)⟩
        ·rw [if_neg c12] at H
         have c12b0 : decide ((bt a0 x4_2) < 48) = false := decide_eq_false c12; clear c12
         by_cases c14 : (bt a0 x4_2) > 57
         ·rw [if_pos c14] at H
          have c14b0 : decide (57 < (bt a0 x4_2)) = true := decide_eq_true c14; clear c14
          obtain rfl := Option.some.inj H
          have p11 : 0 ≤ (x4_2 : Int) := of_decide_eq_true zO2_5
          have q11 : x4_2 < (a0.size : Int) := of_decide_eq_true zO2_5
          have hx11 := bt_at a0 x4_2
          replace p11 := eq_true p11; replace q11 := eq_true q11
          have p13 : 0 ≤ (x4_2 : Int) := of_decide_eq_true zO2_5
          have q13 : x4_2 < (a0.size : Int) := of_decide_eq_true zO2_5
          have hx13 := bt_at a0 x4_2
          replace p13 := eq_true p13; replace q13 := eq_true q13
          go_wp2
          go_ret
          exact ⟨by first | rfl | (simp; done) | (simp [*]; done), by repeat (first | exact Drawn0.refl _ | apply Drawn0.step)⟩
         ·rw [if_neg c14] at H
          have c14b0 : decide (57 < (bt a0 x4_2)) = false := decide_eq_false c14; clear c14; have H' := Aside0.mk H; clear H
          have p11 : 0 ≤ (x4_2 : Int) := of_decide_eq_true zO2_5
          have q11 : x4_2 < (a0.size : Int) := of_decide_eq_true zO2_5
          have hx11 := bt_at a0 x4_2
          replace p11 := eq_true p11; replace q11 := eq_true q11
          have p13 : 0 ≤ (x4_2 : Int) := of_decide_eq_true zO2_5
          have q13 : x4_2 < (a0.size : Int) := of_decide_eq_true zO2_5
          have hx13 := bt_at a0 x4_2
          replace p13 := eq_true p13; replace q13 := eq_true q13
          have p15 : 0 ≤ (x4_2 : Int) := of_decide_eq_true zO2_5
          have q15 : x4_2 < (a0.size : Int) := of_decide_eq_true zO2_5
          have hx15 := bt_at a0 x4_2
          replace p15 := eq_true p15; replace q15 := eq_true q15
          go_wp2
          go_roundg k2
          case measure => have := HJ1.out; have := HK2.out; omega
          case rel => exact ⟨(wrap64 ((wrap64 (10 * x3_2)) + (((bt a0 x4_2) - 48) % 256))), (wrap64 (x4_2 + 1)), zu, zu, H', ⟨by have := HJ1.out; have := HK2.out; omega⟩, by repeat (first | exact Drawn0.refl _ | apply Drawn0.step)⟩
       ·rw [if_neg c10] at H
        exact absurd H zO2_7
      ·rw [if_neg c9] at H
       have c9b0 : decide (x4_2 < (a0.size : Int)) = false := decide_eq_false c9; clear c9
       obtain rfl := Option.some.inj H
       go_wp2
       go_ret
       exact ⟨by first | rfl | (simp; done) | (simp [*]; done), by repeat (first | exact Drawn0.refl _ | apply Drawn0.step)⟩


/-! ### spec_htParse: function 55 -/
def spec_htParse.j0 : Nat → List ByteArray → Bool → Option (Int × Int × Int × Int × Bool)
 | 0, _, _ => none
 | k + 1, x4, x17 => if x17 = true then (some (0, 0, 0, 0, false)) else (if 1 < (x4.length : Int) then ((spec_l1Split.f k (rdOf ByteArray.empty x4 1) 58).bind fun t515 => (if (t515.length : Int) = 2 then (if 1 < (t515.length : Int) then ((spec_l1Split.f k (rdOf ByteArray.empty t515 1) 47).bind fun t519 => (if (t519.length : Int) = 2 then (if 0 < (x4.length : Int) then ((spec_l1Read.f k (rdOf ByteArray.empty x4 0)).bind fun t523 => (if 0 < (t515.length : Int) then ((spec_l1Read.f k (rdOf ByteArray.empty t515 0)).bind fun t525 => (if 0 < (t519.length : Int) then ((spec_l1Read.f k (rdOf ByteArray.empty t519 0)).bind fun t527 => (if 1 < (t519.length : Int) then ((spec_l1Read.f k (rdOf ByteArray.empty t519 1)).bind fun t529 => ((spec_htGood.f k t523 t525 t527 t529).bind fun t531 => (if t531 = true then (some (t523, t525, t527, t529, true)) else (some (0, 0, 0, 0, false))))) else (none))) else (none))) else (none))) else (none)) else (some (0, 0, 0, 0, false)))) else (none)) else (some (0, 0, 0, 0, false)))) else (none))
def spec_htParse.f (k : Nat) (a0 : ByteArray) : Option (Int × Int × Int × Int × Bool) := (spec_l1Split.f k a0 124).bind fun t511 => (if (a0.size : Int) > 18 then (spec_htParse.j0 k t511 true) else (spec_htParse.j0 k t511 ((t511.length : Int) != 2)))
def spec_htParse.T10 : Bool × List (List Nat × List Nat) := (true, [([], []), ([0], [0]), ([1], [1]), ([2], [2]), ([], []), ([4], [4]), ([5], [5]), ([6, 3], [6]), ([], []), ([8], [8]), ([9], [9]), ([10, 7], [10]), ([], []), ([12], [12]), ([13], [13]), ([14, 11], [14]), ([3, 7, 11, 15], [3, 7, 11, 15]), ([], []), ([17, 16, 15, 0, 1, 2, 3, 4, 5, 6, 7, 8, 9, 10, 11, 12, 13, 14, 15, 16, 17], [16, 17])])
def spec_htParse.B10 : List Nat := [0, 1, 3, 7, 0, 16, 48, 127, 0, 256, 768, 2047, 0, 4096, 12288, 32767, 65535, 0, 262143]
theorem spec_htParse.tab10 : rtab .any (opsOf Tryz.f55 10) = spec_htParse.T10 := by kernel_rfl
theorem spec_htParse.bits10 : waitsOk spec_htParse.T10.2 spec_htParse.B10 = true := by kernel_rfl
set_option maxHeartbeats 8000000 in
set_option maxRecDepth 100000 in
theorem spec_htParse.calls (k : Nat) (a0 : ByteArray) (r1 : Int) (r2 : Int) (r3 : Int) (r4 : Int) (r5 : Bool) (w : World) (h : spec_htParse.f k a0 = some (r1, r2, r3, r4, r5)) :
  Calls Tryz.prog 55 #[.string a0] w fun e w' => e = .returned (.tuple #[.agg #[.int .i64 r1, .int .i64 r2, .int .i64 r3, .int .i64 r4], .bool r5]) ∧ Below w.heap.size w w' := by
 have hu25 := Tryz.underlying25
 have HB := Aside0.mk (Below.refl w.heap.size w)
 have H : ((spec_l1Split.f k a0 124).bind fun t511 => (if (a0.size : Int) > 18 then (spec_htParse.j0 k t511 true) else (spec_htParse.j0 k t511 ((t511.length : Int) != 2)))) = some (r1, r2, r3, r4, r5) := h
 clear h; replace H := Option.bind_eq_some_iff.mp H; obtain ⟨t511, A20, H⟩ := H
 replace H : (if (a0.size : Int) > 18 then (spec_htParse.j0 k t511 true) else (spec_htParse.j0 k t511 ((t511.length : Int) != 2))) = some (r1, r2, r3, r4, r5) := H
 have A2 := Aside0.mk A20; clear A20; have HC3 := Aside0.mk H; clear H
 go_enter Tryz.func55, Tryz.ntmps55
 go_upto_region 2 with (first | ((with_reducible refine gate_dst (N := 2) rfl ?_); (try (refine gate_guard (by rfl) ?_; dsimp only)); refine zE 2 #[.int .i64 0, .int .i64 0, .int .i64 0, .int .i64 0] 25 ?_; intro gb510 hg w4 hbox hb; have BK510 := Aside0.mk (hbox); have GW510 := zg HB hg; have GE510 := GW510; replace HB := zh HB hb; clear hb hbox hg) | ((with_reducible refine gate_callee (f := 69) rfl ?_); refine zG (some 9) Tryz.func69 #[.string a0, .int .u8 124] ?_; (with_reducible refine (spec_l1Split.calls k a0 124 t511 _ A2.out).mono ?_); rintro e w5 ⟨v512, rfl, ho0, hb⟩; refine ⟨_, rfl, ?_⟩; have HO513 := Aside0.mk (Kd.R_lower ho0 (below_size (zy HB))); replace BK510 := zb BK510 hb; replace HB := zh HB hb; clear hb ho0))
 (try simp only [Act.put, List.setIfInBounds_toArray, List.set_cons_zero, List.set_cons_succ])
 go_cut [17] (fun v17 wc => ∃ (kq : Nat) (x17_2 : Bool), v17 = .bool x17_2 ∧ Aside0 (spec_htParse.j0 kq t511 x17_2 = some (r1, r2, r3, r4, r5)) ∧ Aside0 (kq ≤ k) ∧ Aside0 (Kd.R Kd.string 9 wc w.heap.size (fun _ => True) v512 t511) ∧ Aside0 (wc.heap[gb510]? = some (.cells #[.int .i64 0, .int .i64 0, .int .i64 0, .int .i64 0] 25 (0, 0))) ∧ Aside0 (Below w.heap.size w wc))
 case first =>
  have H := HC3.out; clear HC3
  by_cases c6 : (a0.size : Int) > 18
  ·rw [if_pos c6] at H
   have c6b0 : decide (18 < (a0.size : Int)) = true := decide_eq_true c6
   have c6b1 : decide (18 < a0.size) = true := decide_eq_true zO2_6
   clear c6
   (first | rw [c6b0] | (simp only [i64_w, i32_w]; rw [c6b0]) | skip)
   have H' := Aside0.mk H; clear H
   go_wp2
   go_meet
   case rel => exact ⟨_, (true), zu, H', ⟨by first | omega | exact Nat.le_refl _⟩, zp HO513, zk BK510, ⟨zy HB⟩⟩
  ·rw [if_neg c6] at H
   have c6b0 : decide (18 < (a0.size : Int)) = false := decide_eq_false c6
   have c6b1 : decide (18 < a0.size) = false := decide_eq_false zO2_6
   clear c6
   (first | rw [c6b0] | (simp only [i64_w, i32_w]; rw [c6b0]) | skip)
   have H' := Aside0.mk H; clear H
   obtain ⟨Ao7, co7, eo7⟩ := Kd.R_slice HO513.out
   subst eo7
   go_wp2
   go_meet
   case rel => exact ⟨_, (((t511.length : Int) != 2)), zu, H', ⟨by first | omega | exact Nat.le_refl _⟩, zp HO513, zk BK510, ⟨zy HB⟩⟩
 case rest =>
  clear HC3
  obtain ⟨kq, x17_2, rfl, HA, HJ2, HO_4, BK510, HB⟩ := hcut
  cases kq with
  | zero => exact absurd HA.out (by simp [spec_htParse.j0])
  | succ kj2 =>
   have H := HA.out; clear HA; simp only [spec_htParse.j0] at H
   by_cases c8 : x17_2 = true
   ·subst c8
    rw [if_pos rfl] at H; simp only [Option.some.injEq, Prod.mk.injEq] at H; obtain ⟨rfl, rfl, rfl, rfl, rfl⟩ := H
    obtain ⟨_, _, _, _, _, _, _, _⟩ := zc4 BK510
    go_wp2
    refine bodyPost_ret (results_ct rfl _ _ gb510 25 #[.int .i64 0, .int .i64 0, .int .i64 0, .int .i64 0] (0, 0) _ rfl (zw BK510) Tryz.underlying25 rfl (by kernel_rfl)) rfl ?_
    exact ⟨zt, zy HB⟩
   ·replace c8 := Bool.eq_false_iff.mpr c8
    subst c8; rw [if_neg (show ¬ (false = true) by decide)] at H
    by_cases c10 : 1 < (t511.length : Int)
    ·rw [if_pos c10] at H
     have c10b0 : decide (1 < (t511.length : Int)) = true := decide_eq_true c10
     have c10b1 : decide (1 < t511.length) = true := decide_eq_true zO2_6
     clear c10; replace H := Option.bind_eq_some_iff.mp H; obtain ⟨t515, A110, H⟩ := H; (try dsimp only at H); have A11 := Aside0.mk A110; clear A110
     by_cases c12 : (t515.length : Int) = 2
     ·rw [if_pos c12] at H
      have c12b0 : ((t515.length : Int) == 2) = true := beq_iff_eq.mpr c12
      have c12b1 : ((t515.length : Int) != 2) = false := bne_eq_false_iff_eq.mpr c12
      clear c12
      by_cases c13 : 1 < (t515.length : Int)
      ·rw [if_pos c13] at H
       have c13b0 : decide (1 < (t515.length : Int)) = true := decide_eq_true c13
       have c13b1 : decide (1 < t515.length) = true := decide_eq_true zO2_6
       clear c13; replace H := Option.bind_eq_some_iff.mp H; obtain ⟨t519, A140, H⟩ := H; (try dsimp only at H); have A14 := Aside0.mk A140; clear A140
       by_cases c15 : (t519.length : Int) = 2
       ·rw [if_pos c15] at H
        have c15b0 : ((t519.length : Int) == 2) = true := beq_iff_eq.mpr c15
        have c15b1 : ((t519.length : Int) != 2) = false := bne_eq_false_iff_eq.mpr c15
        clear c15
        by_cases c16 : 0 < (t511.length : Int)
        ·rw [if_pos c16] at H
         have c16b0 : decide (0 < (t511.length : Int)) = true := decide_eq_true c16
         have c16b1 : decide (0 < t511.length) = true := decide_eq_true zO2_6
         clear c16; replace H := Option.bind_eq_some_iff.mp H; obtain ⟨t523, A170, H⟩ := H; (try dsimp only at H); have A17 := Aside0.mk A170; clear A170
         by_cases c18 : 0 < (t515.length : Int)
         ·rw [if_pos c18] at H
          have c18b0 : decide (0 < (t515.length : Int)) = true := decide_eq_true c18
          have c18b1 : decide (0 < t515.length) = true := decide_eq_true zO2_6
          clear c18; replace H := Option.bind_eq_some_iff.mp H; obtain ⟨t525, A190, H⟩ := H; (try dsimp only at H); have A19 := Aside0.mk A190; clear A190
          by_cases c20 : 0 < (t519.length : Int)
          ·rw [if_pos c20] at H
           have c20b0 : decide (0 < (t519.length : Int)) = true := decide_eq_true c20
           have c20b1 : decide (0 < t519.length) = true := decide_eq_true zO2_6
           clear c20; replace H := Option.bind_eq_some_iff.mp H; obtain ⟨t527, A210, H⟩ := H; (try dsimp only at H); have A21 := Aside0.mk A210; clear A210
           by_cases c22 : 1 < (t519.length : Int)
           ·rw [if_pos c22] at H
            have c22b0 : decide (1 < (t519.length : Int)) = true := decide_eq_true c22
            have c22b1 : decide (1 < t519.length) = true := decide_eq_true zO2_6
            clear c22; replace H := Option.bind_eq_some_iff.mp H; obtain ⟨t529, A230, H⟩ := H; (try dsimp only at H); have A23 := Aside0.mk A230; clear A230; replace H := Option.bind_eq_some_iff.mp H; obtain ⟨t531, A240, H⟩ := H
            replace H : (if t531 = true then (some (t523, t525, t527, t529, true)) else (some (0, 0, 0, 0, false))) = some (r1, r2, r3, r4, r5) := H
            have A24 := Aside0.mk A240; clear A240
            by_cases c25 : t531 = true
            ·subst c25
             rw [if_pos rfl] at H; simp only [Option.some.injEq, Prod.mk.injEq] at H; obtain ⟨rfl, rfl, rfl, rfl, rfl⟩ := H
             obtain ⟨Ao26, co26, eo26⟩ := Kd.R_slice HO_4.out
             subst eo26
             have p514 : 0 ≤ (1 : Int) := zO2_6
             have q514 : 1 < (t511.length : Int) := of_decide_eq_true zO2_5
             obtain ⟨ad514, e514, hx514_0⟩ := Kd.at_string (Kd.R_reads' HO_4.out).2.2 1 p514 q514
             cases e514
             (try simp only [show (1 : Int).toNat = 1 from rfl, Nat.reduceMul, Nat.reduceEqDiff, Go.Addr.add, ↓reduceIte] at hx514_0)
             have qi514 : (1 < t511.length) = True := eq_true zO2_6
             (try rw [show ((1 : Int)).toNat = 1 from rfl] at hx514_0)
             replace p514 := eq_true p514; replace q514 := eq_true q514
             try go_wp2_with (first | ((with_reducible refine gate_callee (f := 69) rfl ?_); refine zG (some 22) Tryz.func69 #[.string (rdOf ByteArray.empty t511 1), .int .u8 58] ?_; (with_reducible refine (spec_l1Split.calls kj2 (rdOf ByteArray.empty t511 1) 58 t515 _ A11.out).mono ?_); rintro e w27 ⟨v516, rfl, ho0, hb⟩; refine ⟨_, rfl, ?_⟩; have n0_ := Aside0.mk (Kd.R_elder' (zs HO_4) (Kd.R_base ho0) hb); have HO517 := Aside0.mk (Kd.R_lower (Kd.R_new' ho0 (Kd.R_lt (zs HO_4))) (below_size (zy HB))); replace BK510 := zb BK510 hb; replace HB := zh HB hb; clear HO_4; have HO_4 := n0_; clear n0_; clear hb ho0; obtain ⟨Ao28, co28, eo28⟩ := Kd.R_slice HO517.out; subst eo28; have p518 : 0 ≤ (1 : Int) := zO2_6; have q518 : 1 < (t515.length : Int) := of_decide_eq_true zO2_5; obtain ⟨ad518, e518, hx518_0⟩ := Kd.at_string (Kd.R_reads' HO517.out).2.2 1 p518 q518; cases e518; (try simp only [show (1 : Int).toNat = 1 from rfl, Nat.reduceMul, Nat.reduceEqDiff, Go.Addr.add, ↓reduceIte] at hx518_0); have qi518 : (1 < t515.length) = True := eq_true zO2_6; (try rw [show ((1 : Int)).toNat = 1 from rfl] at hx518_0); replace p518 := eq_true p518; replace q518 := eq_true q518) | ((with_reducible refine gate_callee (f := 69) rfl ?_); refine zG (some 30) Tryz.func69 #[.string (rdOf ByteArray.empty t515 1), .int .u8 47] ?_; (with_reducible refine (spec_l1Split.calls kj2 (rdOf ByteArray.empty t515 1) 47 t519 _ A14.out).mono ?_); rintro e w29 ⟨v520, rfl, ho0, hb⟩; refine ⟨_, rfl, ?_⟩; have n0_ := Aside0.mk (Kd.R_elder' (zs HO_4) (Kd.R_base ho0) hb); have n1_ := Aside0.mk (Kd.R_elder' (zs HO517) (Kd.R_base ho0) hb); have HO521 := Aside0.mk (Kd.R_lower (Kd.R_new' (Kd.R_new' ho0 (Kd.R_lt (zs HO_4))) (Kd.R_lt (zs HO517))) (below_size (zy HB))); replace BK510 := zb BK510 hb; replace HB := zh HB hb; clear HO_4; have HO_4 := n0_; clear n0_; clear HO517; have HO517 := n1_; clear n1_; clear hb ho0; obtain ⟨Ao30, co30, eo30⟩ := Kd.R_slice HO521.out; subst eo30))
             replace HO_4 := Aside0.mk (Kd.R_drew HO_4.out); replace HO517 := Aside0.mk (Kd.R_drew HO517.out); replace HO521 := Aside0.mk (Kd.R_drew HO521.out); replace BK510 := Aside0.mk (blk_drew BK510.out); replace HB := Aside0.mk (below_drew1 HB.out)
             have p522 : 0 ≤ (0 : Int) := zO2_6
             have q522 : 0 < (t511.length : Int) := of_decide_eq_true zO2_5
             obtain ⟨ad522, e522, hx522_0⟩ := Kd.at_string (Kd.R_reads' HO_4.out).2.2 0 p522 q522
             obtain rfl : ad514 = ad522 := (by injection e522)
             have qi522 : (0 < t511.length) = True := eq_true zO2_6
             (try rw [show ((0 : Int)).toNat = 0 from rfl] at hx522_0)
             (try rw [Addr.add_zero'] at hx522_0)
             replace p522 := eq_true p522; replace q522 := eq_true q522
             have p524 : 0 ≤ (0 : Int) := zO2_6
             have q524 : 0 < (t515.length : Int) := of_decide_eq_true zO2_5
             obtain ⟨ad524, e524, hx524_0⟩ := Kd.at_string (Kd.R_reads' HO517.out).2.2 0 p524 q524
             obtain rfl : ad518 = ad524 := (by injection e524)
             have qi524 : (0 < t515.length) = True := eq_true zO2_6
             (try rw [show ((0 : Int)).toNat = 0 from rfl] at hx524_0)
             (try rw [Addr.add_zero'] at hx524_0)
             replace p524 := eq_true p524; replace q524 := eq_true q524
             have p526 : 0 ≤ (0 : Int) := zO2_6
             have q526 : 0 < (t519.length : Int) := of_decide_eq_true zO2_5
             obtain ⟨ad526, e526, hx526_0⟩ := Kd.at_string (Kd.R_reads' HO521.out).2.2 0 p526 q526
             cases e526
             have qi526 : (0 < t519.length) = True := eq_true zO2_6
             (try rw [show ((0 : Int)).toNat = 0 from rfl] at hx526_0)
             (try rw [Addr.add_zero'] at hx526_0)
             replace p526 := eq_true p526; replace q526 := eq_true q526
             have p528 : 0 ≤ (1 : Int) := zO2_6
             have q528 : 1 < (t519.length : Int) := of_decide_eq_true zO2_5
             obtain ⟨ad528, e528, hx528_0⟩ := Kd.at_string (Kd.R_reads' HO521.out).2.2 1 p528 q528
             obtain rfl : ad526 = ad528 := (by injection e528)
             (try simp only [show (1 : Int).toNat = 1 from rfl, Nat.reduceMul, Nat.reduceEqDiff, Go.Addr.add, ↓reduceIte] at hx528_0)
             have qi528 : (1 < t519.length) = True := eq_true zO2_6
             (try rw [show ((1 : Int)).toNat = 1 from rfl] at hx528_0)
             replace p528 := eq_true p528; replace q528 := eq_true q528
             refine start_ (n := 19) (S := fun w' => w'.cell? ad514 = some (.string (rdOf ByteArray.empty t511 0)) ∧ w'.cell? ad518 = some (.string (rdOf ByteArray.empty t515 0)) ∧ w'.cell? ad526 = some (.string (rdOf ByteArray.empty t519 0)) ∧ w'.cell? ⟨ad526.block, ad526.off + 1, none⟩ = some (.string (rdOf ByteArray.empty t519 1))) (ds := []) #[false, false, false, false, false, false, false, false, false, false, false, false, false, false, false, false, false, false, false] (by kernel_rfl) rfl rfl ⟨hx522_0, hx524_0, hx526_0, hx528_0⟩ (fun hHeld => ?_); refine with_tabW spec_htParse.tab10 spec_htParse.bits10 (fun HT_ HW_ => ?_)
             generalize w29.drew = w31 at HO_4 HO517 HO521 BK510 HB hx522_0 hx524_0 hx526_0 hx528_0 hHeld ⊢
             refine zA 0 35 HT_ ?_
             refine zA 1 36 HT_ ?_
             refine zA 4 39 HT_ ?_
             refine zA 5 40 HT_ ?_
             refine zA 8 43 HT_ ?_
             refine zA 9 44 HT_ ?_
             refine zA 12 47 HT_ ?_
             refine zA 13 48 HT_ ?_
             refine zT 2 37 HT_ HW_ hHeld ?_
             refine zT 6 41 HT_ HW_ hHeld ?_
             refine zT 10 45 HT_ HW_ hHeld ?_
             refine zT 14 49 HT_ HW_ hHeld ?_
             refine join_ (σ := Nat) 1 #[true, true, true, true, true, true, true, true, true, true, true, true, true, true, true, true, true, true, false] (fun s_ => [(38, .int .i64 t523), (42, .int .i64 t525), (46, .int .i64 t527), (50, .int .i64 t529), (7, .pointer (some ⟨s_, 0, none⟩)), (51, .agg #[.int .i64 t523, .int .i64 t525, .int .i64 t527, .int .i64 t529])]) (fun s_ w' => (w'.cell? ad514 = some (.string (rdOf ByteArray.empty t511 0)) ∧ w'.cell? ad518 = some (.string (rdOf ByteArray.empty t515 0)) ∧ w'.cell? ad526 = some (.string (rdOf ByteArray.empty t519 0)) ∧ w'.cell? ⟨ad526.block, ad526.off + 1, none⟩ = some (.string (rdOf ByteArray.empty t519 1))) ∧ (Kd.R Kd.string 9 w' w.heap.size (fun k_ => some k_ ≠ (.slice (some ad526) t519.length co30 : Value).ownBlock ∧ some k_ ≠ (.slice (some ad514) t511.length co26 : Value).ownBlock) (.slice (some ad518) t515.length co28) t515) ∧ (Kd.R Kd.string 9 w' w.heap.size (fun k_ => some k_ ≠ (.slice (some ad518) t515.length co28 : Value).ownBlock ∧ some k_ ≠ (.slice (some ad514) t511.length co26 : Value).ownBlock) (.slice (some ad526) t519.length co30) t519) ∧ (Kd.R Kd.string 9 w' w.heap.size (fun k_ => some k_ ≠ (.slice (some ad518) t515.length co28 : Value).ownBlock ∧ some k_ ≠ (.slice (some ad526) t519.length co30 : Value).ownBlock) (.slice (some ad514) t511.length co26) t511) ∧ (w'.heap[gb510]? = some (.cells #[.int .i64 0, .int .i64 0, .int .i64 0, .int .i64 0] 25 (0, 0))) ∧ (w'.heap[s_]? = some (.cells #[.int .i64 0, .int .i64 0, .int .i64 0, .int .i64 0] 25 (0, 0))) ∧ (w.heap.size ≤ s_) ∧ (w.heap.size ≤ s_) ∧ (gb510 ≠ s_) ∧ (s_ ≠ gb510) ∧ (Below w.heap.size w w')) ?_ ?_
             rotate_left
             ·intro hJ3_7_11_15_17
              refine join_ (σ := Unit) 2 #[true, true, true, true, true, true, true, true, true, true, true, true, true, true, true, true, true, false, false] (fun s_ => [(38, .int .i64 t523), (42, .int .i64 t525), (46, .int .i64 t527), (50, .int .i64 t529), (51, .agg #[.int .i64 t523, .int .i64 t525, .int .i64 t527, .int .i64 t529])]) (fun s_ w' => (w'.cell? ad514 = some (.string (rdOf ByteArray.empty t511 0)) ∧ w'.cell? ad518 = some (.string (rdOf ByteArray.empty t515 0)) ∧ w'.cell? ad526 = some (.string (rdOf ByteArray.empty t519 0)) ∧ w'.cell? ⟨ad526.block, ad526.off + 1, none⟩ = some (.string (rdOf ByteArray.empty t519 1))) ∧ (Kd.R Kd.string 9 w' w.heap.size (fun k_ => some k_ ≠ (.slice (some ad526) t519.length co30 : Value).ownBlock ∧ some k_ ≠ (.slice (some ad514) t511.length co26 : Value).ownBlock) (.slice (some ad518) t515.length co28) t515) ∧ (Kd.R Kd.string 9 w' w.heap.size (fun k_ => some k_ ≠ (.slice (some ad518) t515.length co28 : Value).ownBlock ∧ some k_ ≠ (.slice (some ad514) t511.length co26 : Value).ownBlock) (.slice (some ad526) t519.length co30) t519) ∧ (Kd.R Kd.string 9 w' w.heap.size (fun k_ => some k_ ≠ (.slice (some ad518) t515.length co28 : Value).ownBlock ∧ some k_ ≠ (.slice (some ad526) t519.length co30 : Value).ownBlock) (.slice (some ad514) t511.length co26) t511) ∧ (w'.heap[gb510]? = some (.cells #[.int .i64 0, .int .i64 0, .int .i64 0, .int .i64 0] 25 (0, 0))) ∧ (Below w.heap.size w w')) ?_ ?_
              rotate_left
              ·intro hJ3_7_11_15
               refine join_ (σ := Nat) 3 #[true, true, true, true, true, true, true, true, true, true, true, true, true, true, true, false, false, true, false] (fun s_ => [(38, .int .i64 t523), (42, .int .i64 t525), (46, .int .i64 t527), (7, .pointer (some ⟨s_, 0, none⟩))]) (fun s_ w' => (w'.cell? ad514 = some (.string (rdOf ByteArray.empty t511 0)) ∧ w'.cell? ad518 = some (.string (rdOf ByteArray.empty t515 0)) ∧ w'.cell? ad526 = some (.string (rdOf ByteArray.empty t519 0)) ∧ w'.cell? ⟨ad526.block, ad526.off + 1, none⟩ = some (.string (rdOf ByteArray.empty t519 1))) ∧ (Kd.R Kd.string 9 w' w.heap.size (fun k_ => some k_ ≠ (.slice (some ad526) t519.length co30 : Value).ownBlock ∧ some k_ ≠ (.slice (some ad514) t511.length co26 : Value).ownBlock) (.slice (some ad518) t515.length co28) t515) ∧ (Kd.R Kd.string 9 w' w.heap.size (fun k_ => some k_ ≠ (.slice (some ad518) t515.length co28 : Value).ownBlock ∧ some k_ ≠ (.slice (some ad514) t511.length co26 : Value).ownBlock) (.slice (some ad526) t519.length co30) t519) ∧ (Kd.R Kd.string 9 w' w.heap.size (fun k_ => some k_ ≠ (.slice (some ad518) t515.length co28 : Value).ownBlock ∧ some k_ ≠ (.slice (some ad526) t519.length co30 : Value).ownBlock) (.slice (some ad514) t511.length co26) t511) ∧ (w'.heap[gb510]? = some (.cells #[.int .i64 0, .int .i64 0, .int .i64 0, .int .i64 0] 25 (0, 0))) ∧ (w'.heap[s_]? = some (.cells #[.int .i64 0, .int .i64 0, .int .i64 0, .int .i64 0] 25 (0, 0))) ∧ (w.heap.size ≤ s_) ∧ (w.heap.size ≤ s_) ∧ (gb510 ≠ s_) ∧ (s_ ≠ gb510) ∧ (Below w.heap.size w w')) ?_ ?_
               rotate_left
               ·intro hJ3_7_11_17
                refine join_ (σ := Unit) 4 #[true, true, true, true, true, true, true, true, true, true, true, true, true, true, true, false, false, false, false] (fun s_ => [(38, .int .i64 t523), (42, .int .i64 t525), (46, .int .i64 t527)]) (fun s_ w' => (w'.cell? ad514 = some (.string (rdOf ByteArray.empty t511 0)) ∧ w'.cell? ad518 = some (.string (rdOf ByteArray.empty t515 0)) ∧ w'.cell? ad526 = some (.string (rdOf ByteArray.empty t519 0)) ∧ w'.cell? ⟨ad526.block, ad526.off + 1, none⟩ = some (.string (rdOf ByteArray.empty t519 1))) ∧ (Kd.R Kd.string 9 w' w.heap.size (fun k_ => some k_ ≠ (.slice (some ad526) t519.length co30 : Value).ownBlock ∧ some k_ ≠ (.slice (some ad514) t511.length co26 : Value).ownBlock) (.slice (some ad518) t515.length co28) t515) ∧ (Kd.R Kd.string 9 w' w.heap.size (fun k_ => some k_ ≠ (.slice (some ad518) t515.length co28 : Value).ownBlock ∧ some k_ ≠ (.slice (some ad514) t511.length co26 : Value).ownBlock) (.slice (some ad526) t519.length co30) t519) ∧ (Kd.R Kd.string 9 w' w.heap.size (fun k_ => some k_ ≠ (.slice (some ad518) t515.length co28 : Value).ownBlock ∧ some k_ ≠ (.slice (some ad526) t519.length co30 : Value).ownBlock) (.slice (some ad514) t511.length co26) t511) ∧ (w'.heap[gb510]? = some (.cells #[.int .i64 0, .int .i64 0, .int .i64 0, .int .i64 0] 25 (0, 0))) ∧ (Below w.heap.size w w')) ?_ ?_
                rotate_left
                ·intro hJ3_7_11
                 refine join_ (σ := Nat) 4 #[true, true, true, true, true, true, true, true, true, true, true, false, true, true, true, false, false, true, false] (fun s_ => [(38, .int .i64 t523), (42, .int .i64 t525), (7, .pointer (some ⟨s_, 0, none⟩))]) (fun s_ w' => (w'.cell? ad514 = some (.string (rdOf ByteArray.empty t511 0)) ∧ w'.cell? ad518 = some (.string (rdOf ByteArray.empty t515 0)) ∧ w'.cell? ad526 = some (.string (rdOf ByteArray.empty t519 0)) ∧ w'.cell? ⟨ad526.block, ad526.off + 1, none⟩ = some (.string (rdOf ByteArray.empty t519 1))) ∧ (Kd.R Kd.string 9 w' w.heap.size (fun k_ => some k_ ≠ (.slice (some ad526) t519.length co30 : Value).ownBlock ∧ some k_ ≠ (.slice (some ad514) t511.length co26 : Value).ownBlock) (.slice (some ad518) t515.length co28) t515) ∧ (Kd.R Kd.string 9 w' w.heap.size (fun k_ => some k_ ≠ (.slice (some ad518) t515.length co28 : Value).ownBlock ∧ some k_ ≠ (.slice (some ad514) t511.length co26 : Value).ownBlock) (.slice (some ad526) t519.length co30) t519) ∧ (Kd.R Kd.string 9 w' w.heap.size (fun k_ => some k_ ≠ (.slice (some ad518) t515.length co28 : Value).ownBlock ∧ some k_ ≠ (.slice (some ad526) t519.length co30 : Value).ownBlock) (.slice (some ad514) t511.length co26) t511) ∧ (w'.heap[gb510]? = some (.cells #[.int .i64 0, .int .i64 0, .int .i64 0, .int .i64 0] 25 (0, 0))) ∧ (w'.heap[s_]? = some (.cells #[.int .i64 0, .int .i64 0, .int .i64 0, .int .i64 0] 25 (0, 0))) ∧ (w.heap.size ≤ s_) ∧ (w.heap.size ≤ s_) ∧ (gb510 ≠ s_) ∧ (s_ ≠ gb510) ∧ (Below w.heap.size w w')) ?_ ?_
                 rotate_left
                 ·intro hJ3_7_17
                  refine join_ (σ := Unit) 5 #[true, true, true, true, true, true, true, true, true, true, true, false, true, true, true, false, false, false, false] (fun s_ => [(38, .int .i64 t523), (42, .int .i64 t525)]) (fun s_ w' => (w'.cell? ad514 = some (.string (rdOf ByteArray.empty t511 0)) ∧ w'.cell? ad518 = some (.string (rdOf ByteArray.empty t515 0)) ∧ w'.cell? ad526 = some (.string (rdOf ByteArray.empty t519 0)) ∧ w'.cell? ⟨ad526.block, ad526.off + 1, none⟩ = some (.string (rdOf ByteArray.empty t519 1))) ∧ (Kd.R Kd.string 9 w' w.heap.size (fun k_ => some k_ ≠ (.slice (some ad526) t519.length co30 : Value).ownBlock ∧ some k_ ≠ (.slice (some ad514) t511.length co26 : Value).ownBlock) (.slice (some ad518) t515.length co28) t515) ∧ (Kd.R Kd.string 9 w' w.heap.size (fun k_ => some k_ ≠ (.slice (some ad518) t515.length co28 : Value).ownBlock ∧ some k_ ≠ (.slice (some ad514) t511.length co26 : Value).ownBlock) (.slice (some ad526) t519.length co30) t519) ∧ (Kd.R Kd.string 9 w' w.heap.size (fun k_ => some k_ ≠ (.slice (some ad518) t515.length co28 : Value).ownBlock ∧ some k_ ≠ (.slice (some ad526) t519.length co30 : Value).ownBlock) (.slice (some ad514) t511.length co26) t511) ∧ (w'.heap[gb510]? = some (.cells #[.int .i64 0, .int .i64 0, .int .i64 0, .int .i64 0] 25 (0, 0))) ∧ (Below w.heap.size w w')) ?_ ?_
                  rotate_left
                  ·intro hJ3_7
                   refine join_ (σ := Nat) 5 #[true, true, true, true, true, true, true, false, true, true, true, false, true, true, true, false, false, true, false] (fun s_ => [(38, .int .i64 t523), (7, .pointer (some ⟨s_, 0, none⟩))]) (fun s_ w' => (w'.cell? ad514 = some (.string (rdOf ByteArray.empty t511 0)) ∧ w'.cell? ad518 = some (.string (rdOf ByteArray.empty t515 0)) ∧ w'.cell? ad526 = some (.string (rdOf ByteArray.empty t519 0)) ∧ w'.cell? ⟨ad526.block, ad526.off + 1, none⟩ = some (.string (rdOf ByteArray.empty t519 1))) ∧ (Kd.R Kd.string 9 w' w.heap.size (fun k_ => some k_ ≠ (.slice (some ad526) t519.length co30 : Value).ownBlock ∧ some k_ ≠ (.slice (some ad514) t511.length co26 : Value).ownBlock) (.slice (some ad518) t515.length co28) t515) ∧ (Kd.R Kd.string 9 w' w.heap.size (fun k_ => some k_ ≠ (.slice (some ad518) t515.length co28 : Value).ownBlock ∧ some k_ ≠ (.slice (some ad514) t511.length co26 : Value).ownBlock) (.slice (some ad526) t519.length co30) t519) ∧ (Kd.R Kd.string 9 w' w.heap.size (fun k_ => some k_ ≠ (.slice (some ad518) t515.length co28 : Value).ownBlock ∧ some k_ ≠ (.slice (some ad526) t519.length co30 : Value).ownBlock) (.slice (some ad514) t511.length co26) t511) ∧ (w'.heap[gb510]? = some (.cells #[.int .i64 0, .int .i64 0, .int .i64 0, .int .i64 0] 25 (0, 0))) ∧ (w'.heap[s_]? = some (.cells #[.int .i64 0, .int .i64 0, .int .i64 0, .int .i64 0] 25 (0, 0))) ∧ (w.heap.size ≤ s_) ∧ (w.heap.size ≤ s_) ∧ (gb510 ≠ s_) ∧ (s_ ≠ gb510) ∧ (Below w.heap.size w w')) ?_ ?_
                   rotate_left
                   ·intro hJ3_17
                    refine join_ (σ := Unit) 6 #[true, true, true, true, true, true, true, false, true, true, true, false, true, true, true, false, false, false, false] (fun s_ => [(38, .int .i64 t523)]) (fun s_ w' => (w'.cell? ad514 = some (.string (rdOf ByteArray.empty t511 0)) ∧ w'.cell? ad518 = some (.string (rdOf ByteArray.empty t515 0)) ∧ w'.cell? ad526 = some (.string (rdOf ByteArray.empty t519 0)) ∧ w'.cell? ⟨ad526.block, ad526.off + 1, none⟩ = some (.string (rdOf ByteArray.empty t519 1))) ∧ (Kd.R Kd.string 9 w' w.heap.size (fun k_ => some k_ ≠ (.slice (some ad526) t519.length co30 : Value).ownBlock ∧ some k_ ≠ (.slice (some ad514) t511.length co26 : Value).ownBlock) (.slice (some ad518) t515.length co28) t515) ∧ (Kd.R Kd.string 9 w' w.heap.size (fun k_ => some k_ ≠ (.slice (some ad518) t515.length co28 : Value).ownBlock ∧ some k_ ≠ (.slice (some ad514) t511.length co26 : Value).ownBlock) (.slice (some ad526) t519.length co30) t519) ∧ (Kd.R Kd.string 9 w' w.heap.size (fun k_ => some k_ ≠ (.slice (some ad518) t515.length co28 : Value).ownBlock ∧ some k_ ≠ (.slice (some ad526) t519.length co30 : Value).ownBlock) (.slice (some ad514) t511.length co26) t511) ∧ (w'.heap[gb510]? = some (.cells #[.int .i64 0, .int .i64 0, .int .i64 0, .int .i64 0] 25 (0, 0))) ∧ (Below w.heap.size w w')) ?_ ?_
                    rotate_left
                    ·intro hJ3
                     refine join_ (σ := Nat) 6 #[true, true, true, false, true, true, true, false, true, true, true, false, true, true, true, false, false, true, false] (fun s_ => [(7, .pointer (some ⟨s_, 0, none⟩))]) (fun s_ w' => (w'.cell? ad514 = some (.string (rdOf ByteArray.empty t511 0)) ∧ w'.cell? ad518 = some (.string (rdOf ByteArray.empty t515 0)) ∧ w'.cell? ad526 = some (.string (rdOf ByteArray.empty t519 0)) ∧ w'.cell? ⟨ad526.block, ad526.off + 1, none⟩ = some (.string (rdOf ByteArray.empty t519 1))) ∧ (Kd.R Kd.string 9 w' w.heap.size (fun k_ => some k_ ≠ (.slice (some ad526) t519.length co30 : Value).ownBlock ∧ some k_ ≠ (.slice (some ad514) t511.length co26 : Value).ownBlock) (.slice (some ad518) t515.length co28) t515) ∧ (Kd.R Kd.string 9 w' w.heap.size (fun k_ => some k_ ≠ (.slice (some ad518) t515.length co28 : Value).ownBlock ∧ some k_ ≠ (.slice (some ad514) t511.length co26 : Value).ownBlock) (.slice (some ad526) t519.length co30) t519) ∧ (Kd.R Kd.string 9 w' w.heap.size (fun k_ => some k_ ≠ (.slice (some ad518) t515.length co28 : Value).ownBlock ∧ some k_ ≠ (.slice (some ad526) t519.length co30 : Value).ownBlock) (.slice (some ad514) t511.length co26) t511) ∧ (w'.heap[gb510]? = some (.cells #[.int .i64 0, .int .i64 0, .int .i64 0, .int .i64 0] 25 (0, 0))) ∧ (w'.heap[s_]? = some (.cells #[.int .i64 0, .int .i64 0, .int .i64 0, .int .i64 0] 25 (0, 0))) ∧ (w.heap.size ≤ s_) ∧ (w.heap.size ≤ s_) ∧ (gb510 ≠ s_) ∧ (s_ ≠ gb510) ∧ (Below w.heap.size w w')) ?_ ?_
                     rotate_left
                     ·intro hJ17
                      refine two_ (i := 3) (j := 17) (Ni := some 38) (Nj := some 7) #[true, true, true, true, true, true, true, false, true, true, true, false, true, true, true, false, false, false, false] #[true, true, true, false, true, true, true, false, true, true, true, false, true, true, true, false, false, true, false] rfl rfl rfl rfl (two_of HT_.out (by kernel_rfl)) (by decide) (by decide) (fun K hK => ?_) (fun K hK => ?_)
                      ·skip
                       refine goes_ Tryz.func70 (by kernel_rfl) rfl #[.string (rdOf ByteArray.empty t511 0)] (by rfl) rfl rfl zO2_4 ?_
                       with_reducible refine (spec_l1Read.calls kj2 (rdOf ByteArray.empty t511 0) t523 _ A17.out).mono ?_
                       rintro e w' ⟨rfl, ⟨nd, rfl⟩⟩
                       refine ⟨_, rfl, ?_⟩
                       refine hK.out _ _ ⟨hHeld.1, hHeld.2.1, hHeld.2.2.1, hHeld.2.2.2⟩ (fun hHeld => ?_)
                       clear hK K
                       refine zN 38 ?_
                       exact norm_ zO2_0 (hJ3 () _ ⟨hHeld, zO2_1, zO2_2, zO2_3, (zq BK510), (zy HB)⟩)
                      ·skip
                       refine box_step ?hg (N := 7) ?hd (cs := #[.int .i64 0, .int .i64 0, .int .i64 0, .int .i64 0]) (t := 25) ?hr ?_; (case hd => rfl); (case hg => rfl); (case hr => first | (go_simp; done) | (go_simp; rfl))
                       intro gb530 hg w32 hbox hb
                       have HS0_ := (hb.cell (World.block_lt_of_cell? _ _ (hHeld.1))).trans (hHeld.1)
                       have HS1_ := (hb.cell (World.block_lt_of_cell? _ _ (hHeld.2.1))).trans (hHeld.2.1)
                       have HS2_ := (hb.cell (World.block_lt_of_cell? _ _ (hHeld.2.2.1))).trans (hHeld.2.2.1)
                       have HS3_ := (hb.cell (World.block_lt_of_cell? _ _ (hHeld.2.2.2))).trans (hHeld.2.2.2)
                       have BK530 := Aside0.mk (hbox)
                       have GW530 := zg HB hg
                       have GE530 := GW530
                       have NB510_530 := zl BK510 hg
                       have NB530_510 := zr BK510 hg
                       replace HO_4 := zo HO_4 hb; replace HO517 := zo HO517 hb; replace HO521 := zo HO521 hb; replace BK510 := zb BK510 hb; replace HB := zh HB hb; clear hb hbox hg
                       refine hK.out _ _ ⟨HS0_, HS1_, HS2_, HS3_⟩ (fun hHeld => ?_)
                       clear hK K
                       refine zN 7 ?_
                       exact norm_ zO2_0 (hJ17 (gb530) _ ⟨hHeld, zO2_1, zO2_2, zO2_3, (zq BK510), (zq BK530), GW530.out, GE530.out, NB510_530.out, NB530_510.out, (zy HB)⟩)
                     ·skip
                      rintro gb530 w33 ⟨hS_, h0_, h1_, h2_, h3_, h4_, h5_, h6_, h7_, h8_, h9_⟩
                      have n0_ : Aside0 (Kd.R Kd.string 9 w33 w.heap.size (fun k_ => some k_ ≠ (.slice (some ad526) t519.length co30 : Value).ownBlock ∧ some k_ ≠ (.slice (some ad514) t511.length co26 : Value).ownBlock) (.slice (some ad518) t515.length co28) t515) := ⟨h0_⟩
                      have n1_ : Aside0 (Kd.R Kd.string 9 w33 w.heap.size (fun k_ => some k_ ≠ (.slice (some ad518) t515.length co28 : Value).ownBlock ∧ some k_ ≠ (.slice (some ad514) t511.length co26 : Value).ownBlock) (.slice (some ad526) t519.length co30) t519) := ⟨h1_⟩
                      have n2_ : Aside0 (Kd.R Kd.string 9 w33 w.heap.size (fun k_ => some k_ ≠ (.slice (some ad518) t515.length co28 : Value).ownBlock ∧ some k_ ≠ (.slice (some ad526) t519.length co30 : Value).ownBlock) (.slice (some ad514) t511.length co26) t511) := ⟨h2_⟩
                      have n3_ : Aside0 (w33.heap[gb510]? = some (.cells #[.int .i64 0, .int .i64 0, .int .i64 0, .int .i64 0] 25 (0, 0))) := ⟨h3_⟩
                      have n4_ : Aside0 (w33.heap[gb530]? = some (.cells #[.int .i64 0, .int .i64 0, .int .i64 0, .int .i64 0] 25 (0, 0))) := ⟨h4_⟩
                      have n5_ : Aside0 (w.heap.size ≤ gb530) := ⟨h5_⟩
                      have n6_ : Aside0 (w.heap.size ≤ gb530) := ⟨h6_⟩
                      have n7_ : Aside0 (gb510 ≠ gb530) := ⟨h7_⟩
                      have n8_ : Aside0 (gb530 ≠ gb510) := ⟨h8_⟩
                      have n9_ : Aside0 (Below w.heap.size w w33) := ⟨h9_⟩
                      clear HO_4; clear HO517; clear HO521; clear BK510; clear HB; clear h0_ h1_ h2_ h3_ h4_ h5_ h6_ h7_ h8_ h9_; have HO517 := n0_; have HO521 := n1_; have HO_4 := n2_; have BK510 := n3_; have BK530 := n4_; have GW530 := n5_; have GE530 := n6_; have NB510_530 := n7_; have NB530_510 := n8_; have HB := n9_; clear n0_ n1_ n2_ n3_ n4_ n5_ n6_ n7_ n8_ n9_
                      have hHeld : w33.cell? ad514 = some (.string (rdOf ByteArray.empty t511 0)) ∧ w33.cell? ad518 = some (.string (rdOf ByteArray.empty t515 0)) ∧ w33.cell? ad526 = some (.string (rdOf ByteArray.empty t519 0)) ∧ w33.cell? ⟨ad526.block, ad526.off + 1, none⟩ = some (.string (rdOf ByteArray.empty t519 1)) := hS_
                      refine norm_ (a' := ?_) ?_ ?_
                      rotate_left
                      ·simp only [putAll, Act.put, List.setIfInBounds_toArray, List.set_cons_zero, List.set_cons_succ]
                       rfl
                      refine zO 3 (some 38) HT_ (fun K hK => ?_)
                      refine goes_ Tryz.func70 (by kernel_rfl) rfl #[.string (rdOf ByteArray.empty t511 0)] (by rfl) rfl rfl zO2_4 ?_
                      with_reducible refine (spec_l1Read.calls kj2 (rdOf ByteArray.empty t511 0) t523 _ A17.out).mono ?_
                      rintro e w' ⟨rfl, ⟨nd, rfl⟩⟩
                      refine ⟨_, rfl, ?_⟩
                      refine hK.out _ _ ⟨hHeld.1, hHeld.2.1, hHeld.2.2.1, hHeld.2.2.2⟩ (fun hHeld => ?_)
                      clear hK K
                      refine zN 38 ?_
                      exact norm_ zO2_0 (hJ3_17 (gb530) _ ⟨hHeld, (zs HO517), (zs HO521), (zs HO_4), (zq BK510), (zq BK530), GW530.out, GE530.out, NB510_530.out, NB530_510.out, (zy HB)⟩)
                    ·skip
                     rintro _ w32 ⟨hS_, h0_, h1_, h2_, h3_, h4_⟩
                     have n0_ : Aside0 (Kd.R Kd.string 9 w32 w.heap.size (fun k_ => some k_ ≠ (.slice (some ad526) t519.length co30 : Value).ownBlock ∧ some k_ ≠ (.slice (some ad514) t511.length co26 : Value).ownBlock) (.slice (some ad518) t515.length co28) t515) := ⟨h0_⟩
                     have n1_ : Aside0 (Kd.R Kd.string 9 w32 w.heap.size (fun k_ => some k_ ≠ (.slice (some ad518) t515.length co28 : Value).ownBlock ∧ some k_ ≠ (.slice (some ad514) t511.length co26 : Value).ownBlock) (.slice (some ad526) t519.length co30) t519) := ⟨h1_⟩
                     have n2_ : Aside0 (Kd.R Kd.string 9 w32 w.heap.size (fun k_ => some k_ ≠ (.slice (some ad518) t515.length co28 : Value).ownBlock ∧ some k_ ≠ (.slice (some ad526) t519.length co30 : Value).ownBlock) (.slice (some ad514) t511.length co26) t511) := ⟨h2_⟩
                     have n3_ : Aside0 (w32.heap[gb510]? = some (.cells #[.int .i64 0, .int .i64 0, .int .i64 0, .int .i64 0] 25 (0, 0))) := ⟨h3_⟩
                     have n4_ : Aside0 (Below w.heap.size w w32) := ⟨h4_⟩
                     clear HO_4; clear HO517; clear HO521; clear BK510; clear HB; clear h0_ h1_ h2_ h3_ h4_; have HO517 := n0_; have HO521 := n1_; have HO_4 := n2_; have BK510 := n3_; have HB := n4_; clear n0_ n1_ n2_ n3_ n4_
                     have hHeld : w32.cell? ad514 = some (.string (rdOf ByteArray.empty t511 0)) ∧ w32.cell? ad518 = some (.string (rdOf ByteArray.empty t515 0)) ∧ w32.cell? ad526 = some (.string (rdOf ByteArray.empty t519 0)) ∧ w32.cell? ⟨ad526.block, ad526.off + 1, none⟩ = some (.string (rdOf ByteArray.empty t519 1)) := hS_
                     refine norm_ (a' := ?_) ?_ ?_
                     rotate_left
                     ·simp only [putAll, Act.put, List.setIfInBounds_toArray, List.set_cons_zero, List.set_cons_succ]
                      rfl
                     refine two_ (i := 7) (j := 17) (Ni := some 42) (Nj := some 7) #[true, true, true, true, true, true, true, true, true, true, true, false, true, true, true, false, false, false, false] #[true, true, true, true, true, true, true, false, true, true, true, false, true, true, true, false, false, true, false] rfl rfl rfl rfl (two_of HT_.out (by kernel_rfl)) (by decide) (by decide) (fun K hK => ?_) (fun K hK => ?_)
                     ·skip
                      refine goes_ Tryz.func70 (by kernel_rfl) rfl #[.string (rdOf ByteArray.empty t515 0)] (by rfl) rfl rfl zO2_4 ?_
                      with_reducible refine (spec_l1Read.calls kj2 (rdOf ByteArray.empty t515 0) t525 _ A19.out).mono ?_
                      rintro e w' ⟨rfl, ⟨nd, rfl⟩⟩
                      refine ⟨_, rfl, ?_⟩
                      refine hK.out _ _ ⟨hHeld.1, hHeld.2.1, hHeld.2.2.1, hHeld.2.2.2⟩ (fun hHeld => ?_)
                      clear hK K
                      refine zN 42 ?_
                      exact norm_ zO2_0 (hJ3_7 () _ ⟨hHeld, (zs HO517), (zs HO521), (zs HO_4), (zq BK510), (zy HB)⟩)
                     ·skip
                      refine box_step ?hg (N := 7) ?hd (cs := #[.int .i64 0, .int .i64 0, .int .i64 0, .int .i64 0]) (t := 25) ?hr ?_; (case hd => rfl); (case hg => rfl); (case hr => first | (go_simp; done) | (go_simp; rfl))
                      intro gb530 hg w33 hbox hb
                      have HS0_ := (hb.cell (World.block_lt_of_cell? _ _ (hHeld.1))).trans (hHeld.1)
                      have HS1_ := (hb.cell (World.block_lt_of_cell? _ _ (hHeld.2.1))).trans (hHeld.2.1)
                      have HS2_ := (hb.cell (World.block_lt_of_cell? _ _ (hHeld.2.2.1))).trans (hHeld.2.2.1)
                      have HS3_ := (hb.cell (World.block_lt_of_cell? _ _ (hHeld.2.2.2))).trans (hHeld.2.2.2)
                      have BK530 := Aside0.mk (hbox)
                      have GW530 := zg HB hg
                      have GE530 := GW530
                      have NB510_530 := zl BK510 hg
                      have NB530_510 := zr BK510 hg
                      replace HO_4 := zo HO_4 hb; replace HO517 := zo HO517 hb; replace HO521 := zo HO521 hb; replace BK510 := zb BK510 hb; replace HB := zh HB hb; clear hb hbox hg
                      refine hK.out _ _ ⟨HS0_, HS1_, HS2_, HS3_⟩ (fun hHeld => ?_)
                      clear hK K
                      refine zN 7 ?_
                      exact norm_ zO2_0 (hJ3_17 (gb530) _ ⟨hHeld, (zs HO517), (zs HO521), (zs HO_4), (zq BK510), (zq BK530), GW530.out, GE530.out, NB510_530.out, NB530_510.out, (zy HB)⟩)
                   ·skip
                    rintro gb530 w33 ⟨hS_, h0_, h1_, h2_, h3_, h4_, h5_, h6_, h7_, h8_, h9_⟩
                    have n0_ : Aside0 (Kd.R Kd.string 9 w33 w.heap.size (fun k_ => some k_ ≠ (.slice (some ad526) t519.length co30 : Value).ownBlock ∧ some k_ ≠ (.slice (some ad514) t511.length co26 : Value).ownBlock) (.slice (some ad518) t515.length co28) t515) := ⟨h0_⟩
                    have n1_ : Aside0 (Kd.R Kd.string 9 w33 w.heap.size (fun k_ => some k_ ≠ (.slice (some ad518) t515.length co28 : Value).ownBlock ∧ some k_ ≠ (.slice (some ad514) t511.length co26 : Value).ownBlock) (.slice (some ad526) t519.length co30) t519) := ⟨h1_⟩
                    have n2_ : Aside0 (Kd.R Kd.string 9 w33 w.heap.size (fun k_ => some k_ ≠ (.slice (some ad518) t515.length co28 : Value).ownBlock ∧ some k_ ≠ (.slice (some ad526) t519.length co30 : Value).ownBlock) (.slice (some ad514) t511.length co26) t511) := ⟨h2_⟩
                    have n3_ : Aside0 (w33.heap[gb510]? = some (.cells #[.int .i64 0, .int .i64 0, .int .i64 0, .int .i64 0] 25 (0, 0))) := ⟨h3_⟩
                    have n4_ : Aside0 (w33.heap[gb530]? = some (.cells #[.int .i64 0, .int .i64 0, .int .i64 0, .int .i64 0] 25 (0, 0))) := ⟨h4_⟩
                    have n5_ : Aside0 (w.heap.size ≤ gb530) := ⟨h5_⟩
                    have n6_ : Aside0 (w.heap.size ≤ gb530) := ⟨h6_⟩
                    have n7_ : Aside0 (gb510 ≠ gb530) := ⟨h7_⟩
                    have n8_ : Aside0 (gb530 ≠ gb510) := ⟨h8_⟩
                    have n9_ : Aside0 (Below w.heap.size w w33) := ⟨h9_⟩
                    clear HO_4; clear HO517; clear HO521; clear BK510; clear HB; clear h0_ h1_ h2_ h3_ h4_ h5_ h6_ h7_ h8_ h9_; have HO517 := n0_; have HO521 := n1_; have HO_4 := n2_; have BK510 := n3_; have BK530 := n4_; have GW530 := n5_; have GE530 := n6_; have NB510_530 := n7_; have NB530_510 := n8_; have HB := n9_; clear n0_ n1_ n2_ n3_ n4_ n5_ n6_ n7_ n8_ n9_
                    have hHeld : w33.cell? ad514 = some (.string (rdOf ByteArray.empty t511 0)) ∧ w33.cell? ad518 = some (.string (rdOf ByteArray.empty t515 0)) ∧ w33.cell? ad526 = some (.string (rdOf ByteArray.empty t519 0)) ∧ w33.cell? ⟨ad526.block, ad526.off + 1, none⟩ = some (.string (rdOf ByteArray.empty t519 1)) := hS_
                    refine norm_ (a' := ?_) ?_ ?_
                    rotate_left
                    ·simp only [putAll, Act.put, List.setIfInBounds_toArray, List.set_cons_zero, List.set_cons_succ]
                     rfl
                    refine zO 7 (some 42) HT_ (fun K hK => ?_)
                    refine goes_ Tryz.func70 (by kernel_rfl) rfl #[.string (rdOf ByteArray.empty t515 0)] (by rfl) rfl rfl zO2_4 ?_
                    with_reducible refine (spec_l1Read.calls kj2 (rdOf ByteArray.empty t515 0) t525 _ A19.out).mono ?_
                    rintro e w' ⟨rfl, ⟨nd, rfl⟩⟩
                    refine ⟨_, rfl, ?_⟩
                    refine hK.out _ _ ⟨hHeld.1, hHeld.2.1, hHeld.2.2.1, hHeld.2.2.2⟩ (fun hHeld => ?_)
                    clear hK K
                    refine zN 42 ?_
                    exact norm_ zO2_0 (hJ3_7_17 (gb530) _ ⟨hHeld, (zs HO517), (zs HO521), (zs HO_4), (zq BK510), (zq BK530), GW530.out, GE530.out, NB510_530.out, NB530_510.out, (zy HB)⟩)
                  ·skip
                   rintro _ w32 ⟨hS_, h0_, h1_, h2_, h3_, h4_⟩
                   have n0_ : Aside0 (Kd.R Kd.string 9 w32 w.heap.size (fun k_ => some k_ ≠ (.slice (some ad526) t519.length co30 : Value).ownBlock ∧ some k_ ≠ (.slice (some ad514) t511.length co26 : Value).ownBlock) (.slice (some ad518) t515.length co28) t515) := ⟨h0_⟩
                   have n1_ : Aside0 (Kd.R Kd.string 9 w32 w.heap.size (fun k_ => some k_ ≠ (.slice (some ad518) t515.length co28 : Value).ownBlock ∧ some k_ ≠ (.slice (some ad514) t511.length co26 : Value).ownBlock) (.slice (some ad526) t519.length co30) t519) := ⟨h1_⟩
                   have n2_ : Aside0 (Kd.R Kd.string 9 w32 w.heap.size (fun k_ => some k_ ≠ (.slice (some ad518) t515.length co28 : Value).ownBlock ∧ some k_ ≠ (.slice (some ad526) t519.length co30 : Value).ownBlock) (.slice (some ad514) t511.length co26) t511) := ⟨h2_⟩
                   have n3_ : Aside0 (w32.heap[gb510]? = some (.cells #[.int .i64 0, .int .i64 0, .int .i64 0, .int .i64 0] 25 (0, 0))) := ⟨h3_⟩
                   have n4_ : Aside0 (Below w.heap.size w w32) := ⟨h4_⟩
                   clear HO_4; clear HO517; clear HO521; clear BK510; clear HB; clear h0_ h1_ h2_ h3_ h4_; have HO517 := n0_; have HO521 := n1_; have HO_4 := n2_; have BK510 := n3_; have HB := n4_; clear n0_ n1_ n2_ n3_ n4_
                   have hHeld : w32.cell? ad514 = some (.string (rdOf ByteArray.empty t511 0)) ∧ w32.cell? ad518 = some (.string (rdOf ByteArray.empty t515 0)) ∧ w32.cell? ad526 = some (.string (rdOf ByteArray.empty t519 0)) ∧ w32.cell? ⟨ad526.block, ad526.off + 1, none⟩ = some (.string (rdOf ByteArray.empty t519 1)) := hS_
                   refine norm_ (a' := ?_) ?_ ?_
                   rotate_left
                   ·simp only [putAll, Act.put, List.setIfInBounds_toArray, List.set_cons_zero, List.set_cons_succ]
                    rfl
                   refine two_ (i := 11) (j := 17) (Ni := some 46) (Nj := some 7) #[true, true, true, true, true, true, true, true, true, true, true, true, true, true, true, false, false, false, false] #[true, true, true, true, true, true, true, true, true, true, true, false, true, true, true, false, false, true, false] rfl rfl rfl rfl (two_of HT_.out (by kernel_rfl)) (by decide) (by decide) (fun K hK => ?_) (fun K hK => ?_)
                   ·skip
                    refine goes_ Tryz.func70 (by kernel_rfl) rfl #[.string (rdOf ByteArray.empty t519 0)] (by rfl) rfl rfl zO2_4 ?_
                    with_reducible refine (spec_l1Read.calls kj2 (rdOf ByteArray.empty t519 0) t527 _ A21.out).mono ?_
                    rintro e w' ⟨rfl, ⟨nd, rfl⟩⟩
                    refine ⟨_, rfl, ?_⟩
                    refine hK.out _ _ ⟨hHeld.1, hHeld.2.1, hHeld.2.2.1, hHeld.2.2.2⟩ (fun hHeld => ?_)
                    clear hK K
                    refine zN 46 ?_
                    exact norm_ zO2_0 (hJ3_7_11 () _ ⟨hHeld, (zs HO517), (zs HO521), (zs HO_4), (zq BK510), (zy HB)⟩)
                   ·skip
                    refine box_step ?hg (N := 7) ?hd (cs := #[.int .i64 0, .int .i64 0, .int .i64 0, .int .i64 0]) (t := 25) ?hr ?_; (case hd => rfl); (case hg => rfl); (case hr => first | (go_simp; done) | (go_simp; rfl))
                    intro gb530 hg w33 hbox hb
                    have HS0_ := (hb.cell (World.block_lt_of_cell? _ _ (hHeld.1))).trans (hHeld.1)
                    have HS1_ := (hb.cell (World.block_lt_of_cell? _ _ (hHeld.2.1))).trans (hHeld.2.1)
                    have HS2_ := (hb.cell (World.block_lt_of_cell? _ _ (hHeld.2.2.1))).trans (hHeld.2.2.1)
                    have HS3_ := (hb.cell (World.block_lt_of_cell? _ _ (hHeld.2.2.2))).trans (hHeld.2.2.2)
                    have BK530 := Aside0.mk (hbox)
                    have GW530 := zg HB hg
                    have GE530 := GW530
                    have NB510_530 := zl BK510 hg
                    have NB530_510 := zr BK510 hg
                    replace HO_4 := zo HO_4 hb; replace HO517 := zo HO517 hb; replace HO521 := zo HO521 hb; replace BK510 := zb BK510 hb; replace HB := zh HB hb; clear hb hbox hg
                    refine hK.out _ _ ⟨HS0_, HS1_, HS2_, HS3_⟩ (fun hHeld => ?_)
                    clear hK K
                    refine zN 7 ?_
                    exact norm_ zO2_0 (hJ3_7_17 (gb530) _ ⟨hHeld, (zs HO517), (zs HO521), (zs HO_4), (zq BK510), (zq BK530), GW530.out, GE530.out, NB510_530.out, NB530_510.out, (zy HB)⟩)
                 ·skip
                  rintro gb530 w33 ⟨hS_, h0_, h1_, h2_, h3_, h4_, h5_, h6_, h7_, h8_, h9_⟩
                  have n0_ : Aside0 (Kd.R Kd.string 9 w33 w.heap.size (fun k_ => some k_ ≠ (.slice (some ad526) t519.length co30 : Value).ownBlock ∧ some k_ ≠ (.slice (some ad514) t511.length co26 : Value).ownBlock) (.slice (some ad518) t515.length co28) t515) := ⟨h0_⟩
                  have n1_ : Aside0 (Kd.R Kd.string 9 w33 w.heap.size (fun k_ => some k_ ≠ (.slice (some ad518) t515.length co28 : Value).ownBlock ∧ some k_ ≠ (.slice (some ad514) t511.length co26 : Value).ownBlock) (.slice (some ad526) t519.length co30) t519) := ⟨h1_⟩
                  have n2_ : Aside0 (Kd.R Kd.string 9 w33 w.heap.size (fun k_ => some k_ ≠ (.slice (some ad518) t515.length co28 : Value).ownBlock ∧ some k_ ≠ (.slice (some ad526) t519.length co30 : Value).ownBlock) (.slice (some ad514) t511.length co26) t511) := ⟨h2_⟩
                  have n3_ : Aside0 (w33.heap[gb510]? = some (.cells #[.int .i64 0, .int .i64 0, .int .i64 0, .int .i64 0] 25 (0, 0))) := ⟨h3_⟩
                  have n4_ : Aside0 (w33.heap[gb530]? = some (.cells #[.int .i64 0, .int .i64 0, .int .i64 0, .int .i64 0] 25 (0, 0))) := ⟨h4_⟩
                  have n5_ : Aside0 (w.heap.size ≤ gb530) := ⟨h5_⟩
                  have n6_ : Aside0 (w.heap.size ≤ gb530) := ⟨h6_⟩
                  have n7_ : Aside0 (gb510 ≠ gb530) := ⟨h7_⟩
                  have n8_ : Aside0 (gb530 ≠ gb510) := ⟨h8_⟩
                  have n9_ : Aside0 (Below w.heap.size w w33) := ⟨h9_⟩
                  clear HO_4; clear HO517; clear HO521; clear BK510; clear HB; clear h0_ h1_ h2_ h3_ h4_ h5_ h6_ h7_ h8_ h9_; have HO517 := n0_; have HO521 := n1_; have HO_4 := n2_; have BK510 := n3_; have BK530 := n4_; have GW530 := n5_; have GE530 := n6_; have NB510_530 := n7_; have NB530_510 := n8_; have HB := n9_; clear n0_ n1_ n2_ n3_ n4_ n5_ n6_ n7_ n8_ n9_
                  have hHeld : w33.cell? ad514 = some (.string (rdOf ByteArray.empty t511 0)) ∧ w33.cell? ad518 = some (.string (rdOf ByteArray.empty t515 0)) ∧ w33.cell? ad526 = some (.string (rdOf ByteArray.empty t519 0)) ∧ w33.cell? ⟨ad526.block, ad526.off + 1, none⟩ = some (.string (rdOf ByteArray.empty t519 1)) := hS_
                  refine norm_ (a' := ?_) ?_ ?_
                  rotate_left
                  ·simp only [putAll, Act.put, List.setIfInBounds_toArray, List.set_cons_zero, List.set_cons_succ]
                   rfl
                  refine zO 11 (some 46) HT_ (fun K hK => ?_)
                  refine goes_ Tryz.func70 (by kernel_rfl) rfl #[.string (rdOf ByteArray.empty t519 0)] (by rfl) rfl rfl zO2_4 ?_
                  with_reducible refine (spec_l1Read.calls kj2 (rdOf ByteArray.empty t519 0) t527 _ A21.out).mono ?_
                  rintro e w' ⟨rfl, ⟨nd, rfl⟩⟩
                  refine ⟨_, rfl, ?_⟩
                  refine hK.out _ _ ⟨hHeld.1, hHeld.2.1, hHeld.2.2.1, hHeld.2.2.2⟩ (fun hHeld => ?_)
                  clear hK K
                  refine zN 46 ?_
                  exact norm_ zO2_0 (hJ3_7_11_17 (gb530) _ ⟨hHeld, (zs HO517), (zs HO521), (zs HO_4), (zq BK510), (zq BK530), GW530.out, GE530.out, NB510_530.out, NB530_510.out, (zy HB)⟩)
                ·skip
                 rintro _ w32 ⟨hS_, h0_, h1_, h2_, h3_, h4_⟩
                 have n0_ : Aside0 (Kd.R Kd.string 9 w32 w.heap.size (fun k_ => some k_ ≠ (.slice (some ad526) t519.length co30 : Value).ownBlock ∧ some k_ ≠ (.slice (some ad514) t511.length co26 : Value).ownBlock) (.slice (some ad518) t515.length co28) t515) := ⟨h0_⟩
                 have n1_ : Aside0 (Kd.R Kd.string 9 w32 w.heap.size (fun k_ => some k_ ≠ (.slice (some ad518) t515.length co28 : Value).ownBlock ∧ some k_ ≠ (.slice (some ad514) t511.length co26 : Value).ownBlock) (.slice (some ad526) t519.length co30) t519) := ⟨h1_⟩
                 have n2_ : Aside0 (Kd.R Kd.string 9 w32 w.heap.size (fun k_ => some k_ ≠ (.slice (some ad518) t515.length co28 : Value).ownBlock ∧ some k_ ≠ (.slice (some ad526) t519.length co30 : Value).ownBlock) (.slice (some ad514) t511.length co26) t511) := ⟨h2_⟩
                 have n3_ : Aside0 (w32.heap[gb510]? = some (.cells #[.int .i64 0, .int .i64 0, .int .i64 0, .int .i64 0] 25 (0, 0))) := ⟨h3_⟩
                 have n4_ : Aside0 (Below w.heap.size w w32) := ⟨h4_⟩
                 clear HO_4; clear HO517; clear HO521; clear BK510; clear HB; clear h0_ h1_ h2_ h3_ h4_; have HO517 := n0_; have HO521 := n1_; have HO_4 := n2_; have BK510 := n3_; have HB := n4_; clear n0_ n1_ n2_ n3_ n4_
                 have hHeld : w32.cell? ad514 = some (.string (rdOf ByteArray.empty t511 0)) ∧ w32.cell? ad518 = some (.string (rdOf ByteArray.empty t515 0)) ∧ w32.cell? ad526 = some (.string (rdOf ByteArray.empty t519 0)) ∧ w32.cell? ⟨ad526.block, ad526.off + 1, none⟩ = some (.string (rdOf ByteArray.empty t519 1)) := hS_
                 refine norm_ (a' := ?_) ?_ ?_
                 rotate_left
                 ·simp only [putAll, Act.put, List.setIfInBounds_toArray, List.set_cons_zero, List.set_cons_succ]
                  rfl
                 refine two_ (i := 15) (j := 17) (Ni := some 50) (Nj := some 7) #[true, true, true, true, true, true, true, true, true, true, true, true, true, true, true, true, false, false, false] #[true, true, true, true, true, true, true, true, true, true, true, true, true, true, true, false, false, true, false] rfl rfl rfl rfl (two_of HT_.out (by kernel_rfl)) (by decide) (by decide) (fun K hK => ?_) (fun K hK => ?_)
                 ·skip
                  refine goes_ Tryz.func70 (by kernel_rfl) rfl #[.string (rdOf ByteArray.empty t519 1)] (by rfl) rfl rfl zO2_4 ?_
                  with_reducible refine (spec_l1Read.calls kj2 (rdOf ByteArray.empty t519 1) t529 _ A23.out).mono ?_
                  rintro e w' ⟨rfl, ⟨nd, rfl⟩⟩
                  refine ⟨_, rfl, ?_⟩
                  refine hK.out _ _ ⟨hHeld.1, hHeld.2.1, hHeld.2.2.1, hHeld.2.2.2⟩ (fun hHeld => ?_)
                  clear hK K
                  refine zN 50 ?_
                  refine zA 16 51 HT_ ?_
                  exact norm_ zO2_0 (hJ3_7_11_15 () _ ⟨hHeld, (zs HO517), (zs HO521), (zs HO_4), (zq BK510), (zy HB)⟩)
                 ·skip
                  refine box_step ?hg (N := 7) ?hd (cs := #[.int .i64 0, .int .i64 0, .int .i64 0, .int .i64 0]) (t := 25) ?hr ?_; (case hd => rfl); (case hg => rfl); (case hr => first | (go_simp; done) | (go_simp; rfl))
                  intro gb530 hg w33 hbox hb
                  have HS0_ := (hb.cell (World.block_lt_of_cell? _ _ (hHeld.1))).trans (hHeld.1)
                  have HS1_ := (hb.cell (World.block_lt_of_cell? _ _ (hHeld.2.1))).trans (hHeld.2.1)
                  have HS2_ := (hb.cell (World.block_lt_of_cell? _ _ (hHeld.2.2.1))).trans (hHeld.2.2.1)
                  have HS3_ := (hb.cell (World.block_lt_of_cell? _ _ (hHeld.2.2.2))).trans (hHeld.2.2.2)
                  have BK530 := Aside0.mk (hbox)
                  have GW530 := zg HB hg
                  have GE530 := GW530
                  have NB510_530 := zl BK510 hg
                  have NB530_510 := zr BK510 hg
                  replace HO_4 := zo HO_4 hb; replace HO517 := zo HO517 hb; replace HO521 := zo HO521 hb; replace BK510 := zb BK510 hb; replace HB := zh HB hb; clear hb hbox hg
                  refine hK.out _ _ ⟨HS0_, HS1_, HS2_, HS3_⟩ (fun hHeld => ?_)
                  clear hK K
                  refine zN 7 ?_
                  exact norm_ zO2_0 (hJ3_7_11_17 (gb530) _ ⟨hHeld, (zs HO517), (zs HO521), (zs HO_4), (zq BK510), (zq BK530), GW530.out, GE530.out, NB510_530.out, NB530_510.out, (zy HB)⟩)
               ·skip
                rintro gb530 w33 ⟨hS_, h0_, h1_, h2_, h3_, h4_, h5_, h6_, h7_, h8_, h9_⟩
                have n0_ : Aside0 (Kd.R Kd.string 9 w33 w.heap.size (fun k_ => some k_ ≠ (.slice (some ad526) t519.length co30 : Value).ownBlock ∧ some k_ ≠ (.slice (some ad514) t511.length co26 : Value).ownBlock) (.slice (some ad518) t515.length co28) t515) := ⟨h0_⟩
                have n1_ : Aside0 (Kd.R Kd.string 9 w33 w.heap.size (fun k_ => some k_ ≠ (.slice (some ad518) t515.length co28 : Value).ownBlock ∧ some k_ ≠ (.slice (some ad514) t511.length co26 : Value).ownBlock) (.slice (some ad526) t519.length co30) t519) := ⟨h1_⟩
                have n2_ : Aside0 (Kd.R Kd.string 9 w33 w.heap.size (fun k_ => some k_ ≠ (.slice (some ad518) t515.length co28 : Value).ownBlock ∧ some k_ ≠ (.slice (some ad526) t519.length co30 : Value).ownBlock) (.slice (some ad514) t511.length co26) t511) := ⟨h2_⟩
                have n3_ : Aside0 (w33.heap[gb510]? = some (.cells #[.int .i64 0, .int .i64 0, .int .i64 0, .int .i64 0] 25 (0, 0))) := ⟨h3_⟩
                have n4_ : Aside0 (w33.heap[gb530]? = some (.cells #[.int .i64 0, .int .i64 0, .int .i64 0, .int .i64 0] 25 (0, 0))) := ⟨h4_⟩
                have n5_ : Aside0 (w.heap.size ≤ gb530) := ⟨h5_⟩
                have n6_ : Aside0 (w.heap.size ≤ gb530) := ⟨h6_⟩
                have n7_ : Aside0 (gb510 ≠ gb530) := ⟨h7_⟩
                have n8_ : Aside0 (gb530 ≠ gb510) := ⟨h8_⟩
                have n9_ : Aside0 (Below w.heap.size w w33) := ⟨h9_⟩
                clear HO_4; clear HO517; clear HO521; clear BK510; clear HB; clear h0_ h1_ h2_ h3_ h4_ h5_ h6_ h7_ h8_ h9_; have HO517 := n0_; have HO521 := n1_; have HO_4 := n2_; have BK510 := n3_; have BK530 := n4_; have GW530 := n5_; have GE530 := n6_; have NB510_530 := n7_; have NB530_510 := n8_; have HB := n9_; clear n0_ n1_ n2_ n3_ n4_ n5_ n6_ n7_ n8_ n9_
                have hHeld : w33.cell? ad514 = some (.string (rdOf ByteArray.empty t511 0)) ∧ w33.cell? ad518 = some (.string (rdOf ByteArray.empty t515 0)) ∧ w33.cell? ad526 = some (.string (rdOf ByteArray.empty t519 0)) ∧ w33.cell? ⟨ad526.block, ad526.off + 1, none⟩ = some (.string (rdOf ByteArray.empty t519 1)) := hS_
                refine norm_ (a' := ?_) ?_ ?_
                rotate_left
                ·simp only [putAll, Act.put, List.setIfInBounds_toArray, List.set_cons_zero, List.set_cons_succ]
                 rfl
                refine zO 15 (some 50) HT_ (fun K hK => ?_)
                refine goes_ Tryz.func70 (by kernel_rfl) rfl #[.string (rdOf ByteArray.empty t519 1)] (by rfl) rfl rfl zO2_4 ?_
                with_reducible refine (spec_l1Read.calls kj2 (rdOf ByteArray.empty t519 1) t529 _ A23.out).mono ?_
                rintro e w' ⟨rfl, ⟨nd, rfl⟩⟩
                refine ⟨_, rfl, ?_⟩
                refine hK.out _ _ ⟨hHeld.1, hHeld.2.1, hHeld.2.2.1, hHeld.2.2.2⟩ (fun hHeld => ?_)
                clear hK K
                refine zN 50 ?_
                refine zA 16 51 HT_ ?_
                exact norm_ zO2_0 (hJ3_7_11_15_17 (gb530) _ ⟨hHeld, (zs HO517), (zs HO521), (zs HO_4), (zq BK510), (zq BK530), GW530.out, GE530.out, NB510_530.out, NB530_510.out, (zy HB)⟩)
              ·skip
               rintro _ w32 ⟨hS_, h0_, h1_, h2_, h3_, h4_⟩
               have n0_ : Aside0 (Kd.R Kd.string 9 w32 w.heap.size (fun k_ => some k_ ≠ (.slice (some ad526) t519.length co30 : Value).ownBlock ∧ some k_ ≠ (.slice (some ad514) t511.length co26 : Value).ownBlock) (.slice (some ad518) t515.length co28) t515) := ⟨h0_⟩
               have n1_ : Aside0 (Kd.R Kd.string 9 w32 w.heap.size (fun k_ => some k_ ≠ (.slice (some ad518) t515.length co28 : Value).ownBlock ∧ some k_ ≠ (.slice (some ad514) t511.length co26 : Value).ownBlock) (.slice (some ad526) t519.length co30) t519) := ⟨h1_⟩
               have n2_ : Aside0 (Kd.R Kd.string 9 w32 w.heap.size (fun k_ => some k_ ≠ (.slice (some ad518) t515.length co28 : Value).ownBlock ∧ some k_ ≠ (.slice (some ad526) t519.length co30 : Value).ownBlock) (.slice (some ad514) t511.length co26) t511) := ⟨h2_⟩
               have n3_ : Aside0 (w32.heap[gb510]? = some (.cells #[.int .i64 0, .int .i64 0, .int .i64 0, .int .i64 0] 25 (0, 0))) := ⟨h3_⟩
               have n4_ : Aside0 (Below w.heap.size w w32) := ⟨h4_⟩
               clear HO_4; clear HO517; clear HO521; clear BK510; clear HB; clear h0_ h1_ h2_ h3_ h4_; have HO517 := n0_; have HO521 := n1_; have HO_4 := n2_; have BK510 := n3_; have HB := n4_; clear n0_ n1_ n2_ n3_ n4_
               have hHeld : w32.cell? ad514 = some (.string (rdOf ByteArray.empty t511 0)) ∧ w32.cell? ad518 = some (.string (rdOf ByteArray.empty t515 0)) ∧ w32.cell? ad526 = some (.string (rdOf ByteArray.empty t519 0)) ∧ w32.cell? ⟨ad526.block, ad526.off + 1, none⟩ = some (.string (rdOf ByteArray.empty t519 1)) := hS_
               refine norm_ (a' := ?_) ?_ ?_
               rotate_left
               ·simp only [putAll, Act.put, List.setIfInBounds_toArray, List.set_cons_zero, List.set_cons_succ]
                rfl
               refine zO 17 (some 7) HT_ (fun K hK => ?_)
               refine box_step ?hg (N := 7) ?hd (cs := #[.int .i64 0, .int .i64 0, .int .i64 0, .int .i64 0]) (t := 25) ?hr ?_; (case hd => rfl); (case hg => rfl); (case hr => first | (go_simp; done) | (go_simp; rfl))
               intro gb530 hg w33 hbox hb
               have HS0_ := (hb.cell (World.block_lt_of_cell? _ _ (hHeld.1))).trans (hHeld.1)
               have HS1_ := (hb.cell (World.block_lt_of_cell? _ _ (hHeld.2.1))).trans (hHeld.2.1)
               have HS2_ := (hb.cell (World.block_lt_of_cell? _ _ (hHeld.2.2.1))).trans (hHeld.2.2.1)
               have HS3_ := (hb.cell (World.block_lt_of_cell? _ _ (hHeld.2.2.2))).trans (hHeld.2.2.2)
               have BK530 := Aside0.mk (hbox)
               have GW530 := zg HB hg
               have GE530 := GW530
               have NB510_530 := zl BK510 hg
               have NB530_510 := zr BK510 hg
               replace HO_4 := zo HO_4 hb; replace HO517 := zo HO517 hb; replace HO521 := zo HO521 hb; replace BK510 := zb BK510 hb; replace HB := zh HB hb; clear hb hbox hg
               refine hK.out _ _ ⟨HS0_, HS1_, HS2_, HS3_⟩ (fun hHeld => ?_)
               clear hK K
               refine zN 7 ?_
               exact norm_ zO2_0 (hJ3_7_11_15_17 (gb530) _ ⟨hHeld, (zs HO517), (zs HO521), (zs HO_4), (zq BK510), (zq BK530), GW530.out, GE530.out, NB510_530.out, NB530_510.out, (zy HB)⟩)
             rintro gb530 w33 ⟨hS_, h0_, h1_, h2_, h3_, h4_, h5_, h6_, h7_, h8_, h9_⟩
             have n0_ : Aside0 (Kd.R Kd.string 9 w33 w.heap.size (fun k_ => some k_ ≠ (.slice (some ad526) t519.length co30 : Value).ownBlock ∧ some k_ ≠ (.slice (some ad514) t511.length co26 : Value).ownBlock) (.slice (some ad518) t515.length co28) t515) := ⟨h0_⟩
             have n1_ : Aside0 (Kd.R Kd.string 9 w33 w.heap.size (fun k_ => some k_ ≠ (.slice (some ad518) t515.length co28 : Value).ownBlock ∧ some k_ ≠ (.slice (some ad514) t511.length co26 : Value).ownBlock) (.slice (some ad526) t519.length co30) t519) := ⟨h1_⟩
             have n2_ : Aside0 (Kd.R Kd.string 9 w33 w.heap.size (fun k_ => some k_ ≠ (.slice (some ad518) t515.length co28 : Value).ownBlock ∧ some k_ ≠ (.slice (some ad526) t519.length co30 : Value).ownBlock) (.slice (some ad514) t511.length co26) t511) := ⟨h2_⟩
             have n3_ : Aside0 (w33.heap[gb510]? = some (.cells #[.int .i64 0, .int .i64 0, .int .i64 0, .int .i64 0] 25 (0, 0))) := ⟨h3_⟩
             have n4_ : Aside0 (w33.heap[gb530]? = some (.cells #[.int .i64 0, .int .i64 0, .int .i64 0, .int .i64 0] 25 (0, 0))) := ⟨h4_⟩
             have n5_ : Aside0 (w.heap.size ≤ gb530) := ⟨h5_⟩
             have n6_ : Aside0 (w.heap.size ≤ gb530) := ⟨h6_⟩
             have n7_ : Aside0 (gb510 ≠ gb530) := ⟨h7_⟩
             have n8_ : Aside0 (gb530 ≠ gb510) := ⟨h8_⟩
             have n9_ : Aside0 (Below w.heap.size w w33) := ⟨h9_⟩
             clear HO_4; clear HO517; clear HO521; clear BK510; clear HB; clear h0_ h1_ h2_ h3_ h4_ h5_ h6_ h7_ h8_ h9_; have HO517 := n0_; have HO521 := n1_; have HO_4 := n2_; have BK510 := n3_; have BK530 := n4_; have GW530 := n5_; have GE530 := n6_; have NB510_530 := n7_; have NB530_510 := n8_; have HB := n9_; clear n0_ n1_ n2_ n3_ n4_ n5_ n6_ n7_ n8_ n9_
             have hHeld : w33.cell? ad514 = some (.string (rdOf ByteArray.empty t511 0)) ∧ w33.cell? ad518 = some (.string (rdOf ByteArray.empty t515 0)) ∧ w33.cell? ad526 = some (.string (rdOf ByteArray.empty t519 0)) ∧ w33.cell? ⟨ad526.block, ad526.off + 1, none⟩ = some (.string (rdOf ByteArray.empty t519 1)) := hS_
             refine norm_ (a' := ?_) ?_ ?_
             rotate_left
             ·simp only [putAll, Act.put, List.setIfInBounds_toArray, List.set_cons_zero, List.set_cons_succ]
              rfl
             refine zO 18 none HT_ (fun K hK => ?_)
             have hs34 : w33.cell? ⟨gb530, 0, none⟩ = some (.int .i64 0) := (blk_cell BK530.out 0).trans rfl
             have hfs34 := blk_frozen BK530.out 0
             have hns34_0 := NB510_530.out; have hms34_0 := NB530_510.out
             have hs35 : w33.cell? ⟨gb530, 1, none⟩ = some (.int .i64 0) := (blk_cell BK530.out 1).trans rfl
             have hfs35 := blk_frozen BK530.out 1
             have hns35_0 := NB510_530.out; have hms35_0 := NB530_510.out
             have hs36 : w33.cell? ⟨gb530, 2, none⟩ = some (.int .i64 0) := (blk_cell BK530.out 2).trans rfl
             have hfs36 := blk_frozen BK530.out 2
             have hns36_0 := NB510_530.out; have hms36_0 := NB530_510.out
             have hs37 : w33.cell? ⟨gb530, 3, none⟩ = some (.int .i64 0) := (blk_cell BK530.out 3).trans rfl
             have hfs37 := blk_frozen BK530.out 3
             have hns37_0 := NB510_530.out; have hms37_0 := NB530_510.out
             refine skip_ (w1 := ?_) (by rfl) rfl ?_ ?_
             rotate_left
             ·go_simp
              rfl
             refine hK.out _ _ ⟨((cell_far (p := ⟨gb530, _, none⟩) (by first | exact Kd.own_blk (Kd.R_ne HO_4.out BK530.out (by decide)) | (rw [add_block]; exact Kd.own_blk (Kd.R_ne HO_4.out BK530.out (by decide))) | (show (Addr.add _ _).block ≠ _; rw [add_block]; exact Kd.own_blk (Kd.R_ne HO_4.out BK530.out (by decide))) | (dsimp only; exact Kd.own_blk (Kd.R_ne HO_4.out BK530.out (by decide)))) _).trans (((cell_far (p := ⟨gb530, _, none⟩) (by first | exact Kd.own_blk (Kd.R_ne HO_4.out BK530.out (by decide)) | (rw [add_block]; exact Kd.own_blk (Kd.R_ne HO_4.out BK530.out (by decide))) | (show (Addr.add _ _).block ≠ _; rw [add_block]; exact Kd.own_blk (Kd.R_ne HO_4.out BK530.out (by decide))) | (dsimp only; exact Kd.own_blk (Kd.R_ne HO_4.out BK530.out (by decide)))) _).trans (((cell_far (p := ⟨gb530, _, none⟩) (by first | exact Kd.own_blk (Kd.R_ne HO_4.out BK530.out (by decide)) | (rw [add_block]; exact Kd.own_blk (Kd.R_ne HO_4.out BK530.out (by decide))) | (show (Addr.add _ _).block ≠ _; rw [add_block]; exact Kd.own_blk (Kd.R_ne HO_4.out BK530.out (by decide))) | (dsimp only; exact Kd.own_blk (Kd.R_ne HO_4.out BK530.out (by decide)))) _).trans (((cell_far (p := ⟨gb530, _, none⟩) (by first | exact Kd.own_blk (Kd.R_ne HO_4.out BK530.out (by decide)) | (rw [add_block]; exact Kd.own_blk (Kd.R_ne HO_4.out BK530.out (by decide))) | (show (Addr.add _ _).block ≠ _; rw [add_block]; exact Kd.own_blk (Kd.R_ne HO_4.out BK530.out (by decide))) | (dsimp only; exact Kd.own_blk (Kd.R_ne HO_4.out BK530.out (by decide)))) _).trans (hHeld.1)))))))), ((cell_far (p := ⟨gb530, _, none⟩) (by first | exact Kd.own_blk (Kd.R_ne HO517.out BK530.out (by decide)) | (rw [add_block]; exact Kd.own_blk (Kd.R_ne HO517.out BK530.out (by decide))) | (show (Addr.add _ _).block ≠ _; rw [add_block]; exact Kd.own_blk (Kd.R_ne HO517.out BK530.out (by decide))) | (dsimp only; exact Kd.own_blk (Kd.R_ne HO517.out BK530.out (by decide)))) _).trans (((cell_far (p := ⟨gb530, _, none⟩) (by first | exact Kd.own_blk (Kd.R_ne HO517.out BK530.out (by decide)) | (rw [add_block]; exact Kd.own_blk (Kd.R_ne HO517.out BK530.out (by decide))) | (show (Addr.add _ _).block ≠ _; rw [add_block]; exact Kd.own_blk (Kd.R_ne HO517.out BK530.out (by decide))) | (dsimp only; exact Kd.own_blk (Kd.R_ne HO517.out BK530.out (by decide)))) _).trans (((cell_far (p := ⟨gb530, _, none⟩) (by first | exact Kd.own_blk (Kd.R_ne HO517.out BK530.out (by decide)) | (rw [add_block]; exact Kd.own_blk (Kd.R_ne HO517.out BK530.out (by decide))) | (show (Addr.add _ _).block ≠ _; rw [add_block]; exact Kd.own_blk (Kd.R_ne HO517.out BK530.out (by decide))) | (dsimp only; exact Kd.own_blk (Kd.R_ne HO517.out BK530.out (by decide)))) _).trans (((cell_far (p := ⟨gb530, _, none⟩) (by first | exact Kd.own_blk (Kd.R_ne HO517.out BK530.out (by decide)) | (rw [add_block]; exact Kd.own_blk (Kd.R_ne HO517.out BK530.out (by decide))) | (show (Addr.add _ _).block ≠ _; rw [add_block]; exact Kd.own_blk (Kd.R_ne HO517.out BK530.out (by decide))) | (dsimp only; exact Kd.own_blk (Kd.R_ne HO517.out BK530.out (by decide)))) _).trans (hHeld.2.1)))))))), ((cell_far (p := ⟨gb530, _, none⟩) (by first | exact Kd.own_blk (Kd.R_ne HO521.out BK530.out (by decide)) | (rw [add_block]; exact Kd.own_blk (Kd.R_ne HO521.out BK530.out (by decide))) | (show (Addr.add _ _).block ≠ _; rw [add_block]; exact Kd.own_blk (Kd.R_ne HO521.out BK530.out (by decide))) | (dsimp only; exact Kd.own_blk (Kd.R_ne HO521.out BK530.out (by decide)))) _).trans (((cell_far (p := ⟨gb530, _, none⟩) (by first | exact Kd.own_blk (Kd.R_ne HO521.out BK530.out (by decide)) | (rw [add_block]; exact Kd.own_blk (Kd.R_ne HO521.out BK530.out (by decide))) | (show (Addr.add _ _).block ≠ _; rw [add_block]; exact Kd.own_blk (Kd.R_ne HO521.out BK530.out (by decide))) | (dsimp only; exact Kd.own_blk (Kd.R_ne HO521.out BK530.out (by decide)))) _).trans (((cell_far (p := ⟨gb530, _, none⟩) (by first | exact Kd.own_blk (Kd.R_ne HO521.out BK530.out (by decide)) | (rw [add_block]; exact Kd.own_blk (Kd.R_ne HO521.out BK530.out (by decide))) | (show (Addr.add _ _).block ≠ _; rw [add_block]; exact Kd.own_blk (Kd.R_ne HO521.out BK530.out (by decide))) | (dsimp only; exact Kd.own_blk (Kd.R_ne HO521.out BK530.out (by decide)))) _).trans (((cell_far (p := ⟨gb530, _, none⟩) (by first | exact Kd.own_blk (Kd.R_ne HO521.out BK530.out (by decide)) | (rw [add_block]; exact Kd.own_blk (Kd.R_ne HO521.out BK530.out (by decide))) | (show (Addr.add _ _).block ≠ _; rw [add_block]; exact Kd.own_blk (Kd.R_ne HO521.out BK530.out (by decide))) | (dsimp only; exact Kd.own_blk (Kd.R_ne HO521.out BK530.out (by decide)))) _).trans (hHeld.2.2.1)))))))), ((cell_far (p := ⟨gb530, _, none⟩) (by first | exact Kd.own_blk (Kd.R_ne HO521.out BK530.out (by decide)) | (rw [add_block]; exact Kd.own_blk (Kd.R_ne HO521.out BK530.out (by decide))) | (show (Addr.add _ _).block ≠ _; rw [add_block]; exact Kd.own_blk (Kd.R_ne HO521.out BK530.out (by decide))) | (dsimp only; exact Kd.own_blk (Kd.R_ne HO521.out BK530.out (by decide)))) _).trans (((cell_far (p := ⟨gb530, _, none⟩) (by first | exact Kd.own_blk (Kd.R_ne HO521.out BK530.out (by decide)) | (rw [add_block]; exact Kd.own_blk (Kd.R_ne HO521.out BK530.out (by decide))) | (show (Addr.add _ _).block ≠ _; rw [add_block]; exact Kd.own_blk (Kd.R_ne HO521.out BK530.out (by decide))) | (dsimp only; exact Kd.own_blk (Kd.R_ne HO521.out BK530.out (by decide)))) _).trans (((cell_far (p := ⟨gb530, _, none⟩) (by first | exact Kd.own_blk (Kd.R_ne HO521.out BK530.out (by decide)) | (rw [add_block]; exact Kd.own_blk (Kd.R_ne HO521.out BK530.out (by decide))) | (show (Addr.add _ _).block ≠ _; rw [add_block]; exact Kd.own_blk (Kd.R_ne HO521.out BK530.out (by decide))) | (dsimp only; exact Kd.own_blk (Kd.R_ne HO521.out BK530.out (by decide)))) _).trans (((cell_far (p := ⟨gb530, _, none⟩) (by first | exact Kd.own_blk (Kd.R_ne HO521.out BK530.out (by decide)) | (rw [add_block]; exact Kd.own_blk (Kd.R_ne HO521.out BK530.out (by decide))) | (show (Addr.add _ _).block ≠ _; rw [add_block]; exact Kd.own_blk (Kd.R_ne HO521.out BK530.out (by decide))) | (dsimp only; exact Kd.own_blk (Kd.R_ne HO521.out BK530.out (by decide)))) _).trans (hHeld.2.2.2))))))))⟩ (fun hHeld => ?_)
             clear hK K
             refine done_ (done_of HT_.out (by kernel_rfl)) ?_
             have hnb38 := NB530_510.out; have hnc38 := NB510_530.out
             obtain ⟨_, _, _, _, _, _, _, _⟩ := zc4 BK530
             try go_wp2_with (first | ((with_reducible refine gate_callee (f := 35) rfl ?_); refine zG (some 53) Tryz.func35 #[.agg #[.int .i64 t523, .int .i64 t525, .int .i64 t527, .int .i64 t529]] ?_; (with_reducible refine (spec_htGood.calls kj2 t523 t525 t527 t529 true _ A24.out).mono ?_); rintro e w40 ⟨rfl, hb⟩; refine ⟨_, rfl, ?_⟩; have n0_ := Aside0.mk (Kd.R_below (by (with_reducible repeat (first | apply Kd.R_alloc | apply Kd.R_drewN | apply Kd.R_drew)); exact (Kd.R_mono (Kd.R_far (p := ⟨gb530, 3, none⟩) (Kd.R_far (p := ⟨gb530, 2, none⟩) (Kd.R_far (p := ⟨gb530, 1, none⟩) (Kd.R_far (p := ⟨gb530, 0, none⟩) (Kd.R_types HO_4.out BK530.out (by decide)) (fun _ hk => hk.2) (.int .i64 t523)) (fun _ hk => hk.2) (.int .i64 t525)) (fun _ hk => hk.2) (.int .i64 t527)) (fun _ hk => hk.2) (.int .i64 t529)) (fun _ h_ => h_.1))) hb); have n1_ := Aside0.mk (Kd.R_below (by (with_reducible repeat (first | apply Kd.R_alloc | apply Kd.R_drewN | apply Kd.R_drew)); exact (Kd.R_mono (Kd.R_far (p := ⟨gb530, 3, none⟩) (Kd.R_far (p := ⟨gb530, 2, none⟩) (Kd.R_far (p := ⟨gb530, 1, none⟩) (Kd.R_far (p := ⟨gb530, 0, none⟩) (Kd.R_types HO517.out BK530.out (by decide)) (fun _ hk => hk.2) (.int .i64 t523)) (fun _ hk => hk.2) (.int .i64 t525)) (fun _ hk => hk.2) (.int .i64 t527)) (fun _ hk => hk.2) (.int .i64 t529)) (fun _ h_ => h_.1))) hb); have n2_ := Aside0.mk (Kd.R_below (by (with_reducible repeat (first | apply Kd.R_alloc | apply Kd.R_drewN | apply Kd.R_drew)); exact (Kd.R_mono (Kd.R_far (p := ⟨gb530, 3, none⟩) (Kd.R_far (p := ⟨gb530, 2, none⟩) (Kd.R_far (p := ⟨gb530, 1, none⟩) (Kd.R_far (p := ⟨gb530, 0, none⟩) (Kd.R_types HO521.out BK530.out (by decide)) (fun _ hk => hk.2) (.int .i64 t523)) (fun _ hk => hk.2) (.int .i64 t525)) (fun _ hk => hk.2) (.int .i64 t527)) (fun _ hk => hk.2) (.int .i64 t529)) (fun _ h_ => h_.1))) hb); have n4_ := Aside0.mk (blk_below (g := gb530) (o := .cells #[.int .i64 t523, .int .i64 t525, .int .i64 t527, .int .i64 t529] 25 (0, 0)) (zw BK530) hb); replace BK510 := zb BK510 hb; replace HB := zh HB hb; clear HO_4; have HO_4 := n0_; clear n0_; clear HO517; have HO517 := n1_; clear n1_; clear HO521; have HO521 := n2_; clear n2_; clear BK530; have BK530 := n4_; clear n4_; clear hb; obtain ⟨_, _, _, _, _, _, _, _⟩ := zc4 BK530; obtain ⟨_, _, _, _, _, _, _, _⟩ := zc4 BK510))
             refine bodyPost_ret (results_ct rfl _ _ gb510 25 #[.int .i64 t523, .int .i64 t525, .int .i64 t527, .int .i64 t529] (0, 0) _ rfl (zw BK510) Tryz.underlying25 rfl (by kernel_rfl)) rfl ?_
             exact ⟨zt, zy HB⟩
            ·replace c25 := Bool.eq_false_iff.mpr c25
             subst c25; rw [if_neg (show ¬ (false = true) by decide)] at H; simp only [Option.some.injEq, Prod.mk.injEq] at H; obtain ⟨rfl, rfl, rfl, rfl, rfl⟩ := H
             obtain ⟨Ao43, co43, eo43⟩ := Kd.R_slice HO_4.out
             subst eo43
             have p514 : 0 ≤ (1 : Int) := zO2_6
             have q514 : 1 < (t511.length : Int) := of_decide_eq_true zO2_5
             obtain ⟨ad514, e514, hx514_0⟩ := Kd.at_string (Kd.R_reads' HO_4.out).2.2 1 p514 q514
             cases e514
             (try simp only [show (1 : Int).toNat = 1 from rfl, Nat.reduceMul, Nat.reduceEqDiff, Go.Addr.add, ↓reduceIte] at hx514_0)
             have qi514 : (1 < t511.length) = True := eq_true zO2_6
             (try rw [show ((1 : Int)).toNat = 1 from rfl] at hx514_0)
             replace p514 := eq_true p514; replace q514 := eq_true q514
             try go_wp2_with (first | ((with_reducible refine gate_callee (f := 69) rfl ?_); refine zG (some 22) Tryz.func69 #[.string (rdOf ByteArray.empty t511 1), .int .u8 58] ?_; (with_reducible refine (spec_l1Split.calls kj2 (rdOf ByteArray.empty t511 1) 58 t515 _ A11.out).mono ?_); rintro e w44 ⟨v516, rfl, ho0, hb⟩; refine ⟨_, rfl, ?_⟩; have n0_ := Aside0.mk (Kd.R_elder' (zs HO_4) (Kd.R_base ho0) hb); have HO517 := Aside0.mk (Kd.R_lower (Kd.R_new' ho0 (Kd.R_lt (zs HO_4))) (below_size (zy HB))); replace BK510 := zb BK510 hb; replace HB := zh HB hb; clear HO_4; have HO_4 := n0_; clear n0_; clear hb ho0; obtain ⟨Ao45, co45, eo45⟩ := Kd.R_slice HO517.out; subst eo45; have p518 : 0 ≤ (1 : Int) := zO2_6; have q518 : 1 < (t515.length : Int) := of_decide_eq_true zO2_5; obtain ⟨ad518, e518, hx518_0⟩ := Kd.at_string (Kd.R_reads' HO517.out).2.2 1 p518 q518; cases e518; (try simp only [show (1 : Int).toNat = 1 from rfl, Nat.reduceMul, Nat.reduceEqDiff, Go.Addr.add, ↓reduceIte] at hx518_0); have qi518 : (1 < t515.length) = True := eq_true zO2_6; (try rw [show ((1 : Int)).toNat = 1 from rfl] at hx518_0); replace p518 := eq_true p518; replace q518 := eq_true q518) | ((with_reducible refine gate_callee (f := 69) rfl ?_); refine zG (some 30) Tryz.func69 #[.string (rdOf ByteArray.empty t515 1), .int .u8 47] ?_; (with_reducible refine (spec_l1Split.calls kj2 (rdOf ByteArray.empty t515 1) 47 t519 _ A14.out).mono ?_); rintro e w46 ⟨v520, rfl, ho0, hb⟩; refine ⟨_, rfl, ?_⟩; have n0_ := Aside0.mk (Kd.R_elder' (zs HO_4) (Kd.R_base ho0) hb); have n1_ := Aside0.mk (Kd.R_elder' (zs HO517) (Kd.R_base ho0) hb); have HO521 := Aside0.mk (Kd.R_lower (Kd.R_new' (Kd.R_new' ho0 (Kd.R_lt (zs HO_4))) (Kd.R_lt (zs HO517))) (below_size (zy HB))); replace BK510 := zb BK510 hb; replace HB := zh HB hb; clear HO_4; have HO_4 := n0_; clear n0_; clear HO517; have HO517 := n1_; clear n1_; clear hb ho0; obtain ⟨Ao47, co47, eo47⟩ := Kd.R_slice HO521.out; subst eo47))
             replace HO_4 := Aside0.mk (Kd.R_drew HO_4.out); replace HO517 := Aside0.mk (Kd.R_drew HO517.out); replace HO521 := Aside0.mk (Kd.R_drew HO521.out); replace BK510 := Aside0.mk (blk_drew BK510.out); replace HB := Aside0.mk (below_drew1 HB.out)
             have p522 : 0 ≤ (0 : Int) := zO2_6
             have q522 : 0 < (t511.length : Int) := of_decide_eq_true zO2_5
             obtain ⟨ad522, e522, hx522_0⟩ := Kd.at_string (Kd.R_reads' HO_4.out).2.2 0 p522 q522
             obtain rfl : ad514 = ad522 := (by injection e522)
             have qi522 : (0 < t511.length) = True := eq_true zO2_6
             (try rw [show ((0 : Int)).toNat = 0 from rfl] at hx522_0)
             (try rw [Addr.add_zero'] at hx522_0)
             replace p522 := eq_true p522; replace q522 := eq_true q522
             have p524 : 0 ≤ (0 : Int) := zO2_6
             have q524 : 0 < (t515.length : Int) := of_decide_eq_true zO2_5
             obtain ⟨ad524, e524, hx524_0⟩ := Kd.at_string (Kd.R_reads' HO517.out).2.2 0 p524 q524
             obtain rfl : ad518 = ad524 := (by injection e524)
             have qi524 : (0 < t515.length) = True := eq_true zO2_6
             (try rw [show ((0 : Int)).toNat = 0 from rfl] at hx524_0)
             (try rw [Addr.add_zero'] at hx524_0)
             replace p524 := eq_true p524; replace q524 := eq_true q524
             have p526 : 0 ≤ (0 : Int) := zO2_6
             have q526 : 0 < (t519.length : Int) := of_decide_eq_true zO2_5
             obtain ⟨ad526, e526, hx526_0⟩ := Kd.at_string (Kd.R_reads' HO521.out).2.2 0 p526 q526
             cases e526
             have qi526 : (0 < t519.length) = True := eq_true zO2_6
             (try rw [show ((0 : Int)).toNat = 0 from rfl] at hx526_0)
             (try rw [Addr.add_zero'] at hx526_0)
             replace p526 := eq_true p526; replace q526 := eq_true q526
             have p528 : 0 ≤ (1 : Int) := zO2_6
             have q528 : 1 < (t519.length : Int) := of_decide_eq_true zO2_5
             obtain ⟨ad528, e528, hx528_0⟩ := Kd.at_string (Kd.R_reads' HO521.out).2.2 1 p528 q528
             obtain rfl : ad526 = ad528 := (by injection e528)
             (try simp only [show (1 : Int).toNat = 1 from rfl, Nat.reduceMul, Nat.reduceEqDiff, Go.Addr.add, ↓reduceIte] at hx528_0)
             have qi528 : (1 < t519.length) = True := eq_true zO2_6
             (try rw [show ((1 : Int)).toNat = 1 from rfl] at hx528_0)
             replace p528 := eq_true p528; replace q528 := eq_true q528
             refine start_ (n := 19) (S := fun w' => w'.cell? ad514 = some (.string (rdOf ByteArray.empty t511 0)) ∧ w'.cell? ad518 = some (.string (rdOf ByteArray.empty t515 0)) ∧ w'.cell? ad526 = some (.string (rdOf ByteArray.empty t519 0)) ∧ w'.cell? ⟨ad526.block, ad526.off + 1, none⟩ = some (.string (rdOf ByteArray.empty t519 1))) (ds := []) #[false, false, false, false, false, false, false, false, false, false, false, false, false, false, false, false, false, false, false] (by kernel_rfl) rfl rfl ⟨hx522_0, hx524_0, hx526_0, hx528_0⟩ (fun hHeld => ?_); refine with_tabW spec_htParse.tab10 spec_htParse.bits10 (fun HT_ HW_ => ?_)
             generalize w46.drew = w48 at HO_4 HO517 HO521 BK510 HB hx522_0 hx524_0 hx526_0 hx528_0 hHeld ⊢
             refine zA 0 35 HT_ ?_
             refine zA 1 36 HT_ ?_
             refine zA 4 39 HT_ ?_
             refine zA 5 40 HT_ ?_
             refine zA 8 43 HT_ ?_
             refine zA 9 44 HT_ ?_
             refine zA 12 47 HT_ ?_
             refine zA 13 48 HT_ ?_
             refine zT 2 37 HT_ HW_ hHeld ?_
             refine zT 6 41 HT_ HW_ hHeld ?_
             refine zT 10 45 HT_ HW_ hHeld ?_
             refine zT 14 49 HT_ HW_ hHeld ?_
             refine join_ (σ := Nat) 1 #[true, true, true, true, true, true, true, true, true, true, true, true, true, true, true, true, true, true, false] (fun s_ => [(38, .int .i64 t523), (42, .int .i64 t525), (46, .int .i64 t527), (50, .int .i64 t529), (7, .pointer (some ⟨s_, 0, none⟩)), (51, .agg #[.int .i64 t523, .int .i64 t525, .int .i64 t527, .int .i64 t529])]) (fun s_ w' => (w'.cell? ad514 = some (.string (rdOf ByteArray.empty t511 0)) ∧ w'.cell? ad518 = some (.string (rdOf ByteArray.empty t515 0)) ∧ w'.cell? ad526 = some (.string (rdOf ByteArray.empty t519 0)) ∧ w'.cell? ⟨ad526.block, ad526.off + 1, none⟩ = some (.string (rdOf ByteArray.empty t519 1))) ∧ (Kd.R Kd.string 9 w' w.heap.size (fun k_ => some k_ ≠ (.slice (some ad526) t519.length co47 : Value).ownBlock ∧ some k_ ≠ (.slice (some ad514) t511.length co43 : Value).ownBlock) (.slice (some ad518) t515.length co45) t515) ∧ (Kd.R Kd.string 9 w' w.heap.size (fun k_ => some k_ ≠ (.slice (some ad518) t515.length co45 : Value).ownBlock ∧ some k_ ≠ (.slice (some ad514) t511.length co43 : Value).ownBlock) (.slice (some ad526) t519.length co47) t519) ∧ (Kd.R Kd.string 9 w' w.heap.size (fun k_ => some k_ ≠ (.slice (some ad518) t515.length co45 : Value).ownBlock ∧ some k_ ≠ (.slice (some ad526) t519.length co47 : Value).ownBlock) (.slice (some ad514) t511.length co43) t511) ∧ (w'.heap[gb510]? = some (.cells #[.int .i64 0, .int .i64 0, .int .i64 0, .int .i64 0] 25 (0, 0))) ∧ (w'.heap[s_]? = some (.cells #[.int .i64 0, .int .i64 0, .int .i64 0, .int .i64 0] 25 (0, 0))) ∧ (w.heap.size ≤ s_) ∧ (w.heap.size ≤ s_) ∧ (gb510 ≠ s_) ∧ (s_ ≠ gb510) ∧ (Below w.heap.size w w')) ?_ ?_
             rotate_left
             ·intro hJ3_7_11_15_17
              refine join_ (σ := Unit) 2 #[true, true, true, true, true, true, true, true, true, true, true, true, true, true, true, true, true, false, false] (fun s_ => [(38, .int .i64 t523), (42, .int .i64 t525), (46, .int .i64 t527), (50, .int .i64 t529), (51, .agg #[.int .i64 t523, .int .i64 t525, .int .i64 t527, .int .i64 t529])]) (fun s_ w' => (w'.cell? ad514 = some (.string (rdOf ByteArray.empty t511 0)) ∧ w'.cell? ad518 = some (.string (rdOf ByteArray.empty t515 0)) ∧ w'.cell? ad526 = some (.string (rdOf ByteArray.empty t519 0)) ∧ w'.cell? ⟨ad526.block, ad526.off + 1, none⟩ = some (.string (rdOf ByteArray.empty t519 1))) ∧ (Kd.R Kd.string 9 w' w.heap.size (fun k_ => some k_ ≠ (.slice (some ad526) t519.length co47 : Value).ownBlock ∧ some k_ ≠ (.slice (some ad514) t511.length co43 : Value).ownBlock) (.slice (some ad518) t515.length co45) t515) ∧ (Kd.R Kd.string 9 w' w.heap.size (fun k_ => some k_ ≠ (.slice (some ad518) t515.length co45 : Value).ownBlock ∧ some k_ ≠ (.slice (some ad514) t511.length co43 : Value).ownBlock) (.slice (some ad526) t519.length co47) t519) ∧ (Kd.R Kd.string 9 w' w.heap.size (fun k_ => some k_ ≠ (.slice (some ad518) t515.length co45 : Value).ownBlock ∧ some k_ ≠ (.slice (some ad526) t519.length co47 : Value).ownBlock) (.slice (some ad514) t511.length co43) t511) ∧ (w'.heap[gb510]? = some (.cells #[.int .i64 0, .int .i64 0, .int .i64 0, .int .i64 0] 25 (0, 0))) ∧ (Below w.heap.size w w')) ?_ ?_
              rotate_left
              ·intro hJ3_7_11_15
               refine join_ (σ := Nat) 3 #[true, true, true, true, true, true, true, true, true, true, true, true, true, true, true, false, false, true, false] (fun s_ => [(38, .int .i64 t523), (42, .int .i64 t525), (46, .int .i64 t527), (7, .pointer (some ⟨s_, 0, none⟩))]) (fun s_ w' => (w'.cell? ad514 = some (.string (rdOf ByteArray.empty t511 0)) ∧ w'.cell? ad518 = some (.string (rdOf ByteArray.empty t515 0)) ∧ w'.cell? ad526 = some (.string (rdOf ByteArray.empty t519 0)) ∧ w'.cell? ⟨ad526.block, ad526.off + 1, none⟩ = some (.string (rdOf ByteArray.empty t519 1))) ∧ (Kd.R Kd.string 9 w' w.heap.size (fun k_ => some k_ ≠ (.slice (some ad526) t519.length co47 : Value).ownBlock ∧ some k_ ≠ (.slice (some ad514) t511.length co43 : Value).ownBlock) (.slice (some ad518) t515.length co45) t515) ∧ (Kd.R Kd.string 9 w' w.heap.size (fun k_ => some k_ ≠ (.slice (some ad518) t515.length co45 : Value).ownBlock ∧ some k_ ≠ (.slice (some ad514) t511.length co43 : Value).ownBlock) (.slice (some ad526) t519.length co47) t519) ∧ (Kd.R Kd.string 9 w' w.heap.size (fun k_ => some k_ ≠ (.slice (some ad518) t515.length co45 : Value).ownBlock ∧ some k_ ≠ (.slice (some ad526) t519.length co47 : Value).ownBlock) (.slice (some ad514) t511.length co43) t511) ∧ (w'.heap[gb510]? = some (.cells #[.int .i64 0, .int .i64 0, .int .i64 0, .int .i64 0] 25 (0, 0))) ∧ (w'.heap[s_]? = some (.cells #[.int .i64 0, .int .i64 0, .int .i64 0, .int .i64 0] 25 (0, 0))) ∧ (w.heap.size ≤ s_) ∧ (w.heap.size ≤ s_) ∧ (gb510 ≠ s_) ∧ (s_ ≠ gb510) ∧ (Below w.heap.size w w')) ?_ ?_
               rotate_left
               ·intro hJ3_7_11_17
                refine join_ (σ := Unit) 4 #[true, true, true, true, true, true, true, true, true, true, true, true, true, true, true, false, false, false, false] (fun s_ => [(38, .int .i64 t523), (42, .int .i64 t525), (46, .int .i64 t527)]) (fun s_ w' => (w'.cell? ad514 = some (.string (rdOf ByteArray.empty t511 0)) ∧ w'.cell? ad518 = some (.string (rdOf ByteArray.empty t515 0)) ∧ w'.cell? ad526 = some (.string (rdOf ByteArray.empty t519 0)) ∧ w'.cell? ⟨ad526.block, ad526.off + 1, none⟩ = some (.string (rdOf ByteArray.empty t519 1))) ∧ (Kd.R Kd.string 9 w' w.heap.size (fun k_ => some k_ ≠ (.slice (some ad526) t519.length co47 : Value).ownBlock ∧ some k_ ≠ (.slice (some ad514) t511.length co43 : Value).ownBlock) (.slice (some ad518) t515.length co45) t515) ∧ (Kd.R Kd.string 9 w' w.heap.size (fun k_ => some k_ ≠ (.slice (some ad518) t515.length co45 : Value).ownBlock ∧ some k_ ≠ (.slice (some ad514) t511.length co43 : Value).ownBlock) (.slice (some ad526) t519.length co47) t519) ∧ (Kd.R Kd.string 9 w' w.heap.size (fun k_ => some k_ ≠ (.slice (some ad518) t515.length co45 : Value).ownBlock ∧ some k_ ≠ (.slice (some ad526) t519.length co47 : Value).ownBlock) (.slice (some ad514) t511.length co43) t511) ∧ (w'.heap[gb510]? = some (.cells #[.int .i64 0, .int .i64 0, .int .i64 0, .int .i64 0] 25 (0, 0))) ∧ (Below w.heap.size w w')) ?_ ?_
                rotate_left
                ·intro hJ3_7_11
                 refine join_ (σ := Nat) 4 #[true, true, true, true, true, true, true, true, true, true, true, false, true, true, true, false, false, true, false] (fun s_ => [(38, .int .i64 t523), (42, .int .i64 t525), (7, .pointer (some ⟨s_, 0, none⟩))]) (fun s_ w' => (w'.cell? ad514 = some (.string (rdOf ByteArray.empty t511 0)) ∧ w'.cell? ad518 = some (.string (rdOf ByteArray.empty t515 0)) ∧ w'.cell? ad526 = some (.string (rdOf ByteArray.empty t519 0)) ∧ w'.cell? ⟨ad526.block, ad526.off + 1, none⟩ = some (.string (rdOf ByteArray.empty t519 1))) ∧ (Kd.R Kd.string 9 w' w.heap.size (fun k_ => some k_ ≠ (.slice (some ad526) t519.length co47 : Value).ownBlock ∧ some k_ ≠ (.slice (some ad514) t511.length co43 : Value).ownBlock) (.slice (some ad518) t515.length co45) t515) ∧ (Kd.R Kd.string 9 w' w.heap.size (fun k_ => some k_ ≠ (.slice (some ad518) t515.length co45 : Value).ownBlock ∧ some k_ ≠ (.slice (some ad514) t511.length co43 : Value).ownBlock) (.slice (some ad526) t519.length co47) t519) ∧ (Kd.R Kd.string 9 w' w.heap.size (fun k_ => some k_ ≠ (.slice (some ad518) t515.length co45 : Value).ownBlock ∧ some k_ ≠ (.slice (some ad526) t519.length co47 : Value).ownBlock) (.slice (some ad514) t511.length co43) t511) ∧ (w'.heap[gb510]? = some (.cells #[.int .i64 0, .int .i64 0, .int .i64 0, .int .i64 0] 25 (0, 0))) ∧ (w'.heap[s_]? = some (.cells #[.int .i64 0, .int .i64 0, .int .i64 0, .int .i64 0] 25 (0, 0))) ∧ (w.heap.size ≤ s_) ∧ (w.heap.size ≤ s_) ∧ (gb510 ≠ s_) ∧ (s_ ≠ gb510) ∧ (Below w.heap.size w w')) ?_ ?_
                 rotate_left
                 ·intro hJ3_7_17
                  refine join_ (σ := Unit) 5 #[true, true, true, true, true, true, true, true, true, true, true, false, true, true, true, false, false, false, false] (fun s_ => [(38, .int .i64 t523), (42, .int .i64 t525)]) (fun s_ w' => (w'.cell? ad514 = some (.string (rdOf ByteArray.empty t511 0)) ∧ w'.cell? ad518 = some (.string (rdOf ByteArray.empty t515 0)) ∧ w'.cell? ad526 = some (.string (rdOf ByteArray.empty t519 0)) ∧ w'.cell? ⟨ad526.block, ad526.off + 1, none⟩ = some (.string (rdOf ByteArray.empty t519 1))) ∧ (Kd.R Kd.string 9 w' w.heap.size (fun k_ => some k_ ≠ (.slice (some ad526) t519.length co47 : Value).ownBlock ∧ some k_ ≠ (.slice (some ad514) t511.length co43 : Value).ownBlock) (.slice (some ad518) t515.length co45) t515) ∧ (Kd.R Kd.string 9 w' w.heap.size (fun k_ => some k_ ≠ (.slice (some ad518) t515.length co45 : Value).ownBlock ∧ some k_ ≠ (.slice (some ad514) t511.length co43 : Value).ownBlock) (.slice (some ad526) t519.length co47) t519) ∧ (Kd.R Kd.string 9 w' w.heap.size (fun k_ => some k_ ≠ (.slice (some ad518) t515.length co45 : Value).ownBlock ∧ some k_ ≠ (.slice (some ad526) t519.length co47 : Value).ownBlock) (.slice (some ad514) t511.length co43) t511) ∧ (w'.heap[gb510]? = some (.cells #[.int .i64 0, .int .i64 0, .int .i64 0, .int .i64 0] 25 (0, 0))) ∧ (Below w.heap.size w w')) ?_ ?_
                  rotate_left
                  ·intro hJ3_7
                   refine join_ (σ := Nat) 5 #[true, true, true, true, true, true, true, false, true, true, true, false, true, true, true, false, false, true, false] (fun s_ => [(38, .int .i64 t523), (7, .pointer (some ⟨s_, 0, none⟩))]) (fun s_ w' => (w'.cell? ad514 = some (.string (rdOf ByteArray.empty t511 0)) ∧ w'.cell? ad518 = some (.string (rdOf ByteArray.empty t515 0)) ∧ w'.cell? ad526 = some (.string (rdOf ByteArray.empty t519 0)) ∧ w'.cell? ⟨ad526.block, ad526.off + 1, none⟩ = some (.string (rdOf ByteArray.empty t519 1))) ∧ (Kd.R Kd.string 9 w' w.heap.size (fun k_ => some k_ ≠ (.slice (some ad526) t519.length co47 : Value).ownBlock ∧ some k_ ≠ (.slice (some ad514) t511.length co43 : Value).ownBlock) (.slice (some ad518) t515.length co45) t515) ∧ (Kd.R Kd.string 9 w' w.heap.size (fun k_ => some k_ ≠ (.slice (some ad518) t515.length co45 : Value).ownBlock ∧ some k_ ≠ (.slice (some ad514) t511.length co43 : Value).ownBlock) (.slice (some ad526) t519.length co47) t519) ∧ (Kd.R Kd.string 9 w' w.heap.size (fun k_ => some k_ ≠ (.slice (some ad518) t515.length co45 : Value).ownBlock ∧ some k_ ≠ (.slice (some ad526) t519.length co47 : Value).ownBlock) (.slice (some ad514) t511.length co43) t511) ∧ (w'.heap[gb510]? = some (.cells #[.int .i64 0, .int .i64 0, .int .i64 0, .int .i64 0] 25 (0, 0))) ∧ (w'.heap[s_]? = some (.cells #[.int .i64 0, .int .i64 0, .int .i64 0, .int .i64 0] 25 (0, 0))) ∧ (w.heap.size ≤ s_) ∧ (w.heap.size ≤ s_) ∧ (gb510 ≠ s_) ∧ (s_ ≠ gb510) ∧ (Below w.heap.size w w')) ?_ ?_
                   rotate_left
                   ·intro hJ3_17
                    refine join_ (σ := Unit) 6 #[true, true, true, true, true, true, true, false, true, true, true, false, true, true, true, false, false, false, false] (fun s_ => [(38, .int .i64 t523)]) (fun s_ w' => (w'.cell? ad514 = some (.string (rdOf ByteArray.empty t511 0)) ∧ w'.cell? ad518 = some (.string (rdOf ByteArray.empty t515 0)) ∧ w'.cell? ad526 = some (.string (rdOf ByteArray.empty t519 0)) ∧ w'.cell? ⟨ad526.block, ad526.off + 1, none⟩ = some (.string (rdOf ByteArray.empty t519 1))) ∧ (Kd.R Kd.string 9 w' w.heap.size (fun k_ => some k_ ≠ (.slice (some ad526) t519.length co47 : Value).ownBlock ∧ some k_ ≠ (.slice (some ad514) t511.length co43 : Value).ownBlock) (.slice (some ad518) t515.length co45) t515) ∧ (Kd.R Kd.string 9 w' w.heap.size (fun k_ => some k_ ≠ (.slice (some ad518) t515.length co45 : Value).ownBlock ∧ some k_ ≠ (.slice (some ad514) t511.length co43 : Value).ownBlock) (.slice (some ad526) t519.length co47) t519) ∧ (Kd.R Kd.string 9 w' w.heap.size (fun k_ => some k_ ≠ (.slice (some ad518) t515.length co45 : Value).ownBlock ∧ some k_ ≠ (.slice (some ad526) t519.length co47 : Value).ownBlock) (.slice (some ad514) t511.length co43) t511) ∧ (w'.heap[gb510]? = some (.cells #[.int .i64 0, .int .i64 0, .int .i64 0, .int .i64 0] 25 (0, 0))) ∧ (Below w.heap.size w w')) ?_ ?_
                    rotate_left
                    ·intro hJ3
                     refine join_ (σ := Nat) 6 #[true, true, true, false, true, true, true, false, true, true, true, false, true, true, true, false, false, true, false] (fun s_ => [(7, .pointer (some ⟨s_, 0, none⟩))]) (fun s_ w' => (w'.cell? ad514 = some (.string (rdOf ByteArray.empty t511 0)) ∧ w'.cell? ad518 = some (.string (rdOf ByteArray.empty t515 0)) ∧ w'.cell? ad526 = some (.string (rdOf ByteArray.empty t519 0)) ∧ w'.cell? ⟨ad526.block, ad526.off + 1, none⟩ = some (.string (rdOf ByteArray.empty t519 1))) ∧ (Kd.R Kd.string 9 w' w.heap.size (fun k_ => some k_ ≠ (.slice (some ad526) t519.length co47 : Value).ownBlock ∧ some k_ ≠ (.slice (some ad514) t511.length co43 : Value).ownBlock) (.slice (some ad518) t515.length co45) t515) ∧ (Kd.R Kd.string 9 w' w.heap.size (fun k_ => some k_ ≠ (.slice (some ad518) t515.length co45 : Value).ownBlock ∧ some k_ ≠ (.slice (some ad514) t511.length co43 : Value).ownBlock) (.slice (some ad526) t519.length co47) t519) ∧ (Kd.R Kd.string 9 w' w.heap.size (fun k_ => some k_ ≠ (.slice (some ad518) t515.length co45 : Value).ownBlock ∧ some k_ ≠ (.slice (some ad526) t519.length co47 : Value).ownBlock) (.slice (some ad514) t511.length co43) t511) ∧ (w'.heap[gb510]? = some (.cells #[.int .i64 0, .int .i64 0, .int .i64 0, .int .i64 0] 25 (0, 0))) ∧ (w'.heap[s_]? = some (.cells #[.int .i64 0, .int .i64 0, .int .i64 0, .int .i64 0] 25 (0, 0))) ∧ (w.heap.size ≤ s_) ∧ (w.heap.size ≤ s_) ∧ (gb510 ≠ s_) ∧ (s_ ≠ gb510) ∧ (Below w.heap.size w w')) ?_ ?_
                     rotate_left
                     ·intro hJ17
                      refine two_ (i := 3) (j := 17) (Ni := some 38) (Nj := some 7) #[true, true, true, true, true, true, true, false, true, true, true, false, true, true, true, false, false, false, false] #[true, true, true, false, true, true, true, false, true, true, true, false, true, true, true, false, false, true, false] rfl rfl rfl rfl (two_of HT_.out (by kernel_rfl)) (by decide) (by decide) (fun K hK => ?_) (fun K hK => ?_)
                      ·skip
                       refine goes_ Tryz.func70 (by kernel_rfl) rfl #[.string (rdOf ByteArray.empty t511 0)] (by rfl) rfl rfl zO2_4 ?_
                       with_reducible refine (spec_l1Read.calls kj2 (rdOf ByteArray.empty t511 0) t523 _ A17.out).mono ?_
                       rintro e w' ⟨rfl, ⟨nd, rfl⟩⟩
                       refine ⟨_, rfl, ?_⟩
                       refine hK.out _ _ ⟨hHeld.1, hHeld.2.1, hHeld.2.2.1, hHeld.2.2.2⟩ (fun hHeld => ?_)
                       clear hK K
                       refine zN 38 ?_
                       exact norm_ zO2_0 (hJ3 () _ ⟨hHeld, zO2_1, zO2_2, zO2_3, (zq BK510), (zy HB)⟩)
                      ·skip
                       refine box_step ?hg (N := 7) ?hd (cs := #[.int .i64 0, .int .i64 0, .int .i64 0, .int .i64 0]) (t := 25) ?hr ?_; (case hd => rfl); (case hg => rfl); (case hr => first | (go_simp; done) | (go_simp; rfl))
                       intro gb530 hg w49 hbox hb
                       have HS0_ := (hb.cell (World.block_lt_of_cell? _ _ (hHeld.1))).trans (hHeld.1)
                       have HS1_ := (hb.cell (World.block_lt_of_cell? _ _ (hHeld.2.1))).trans (hHeld.2.1)
                       have HS2_ := (hb.cell (World.block_lt_of_cell? _ _ (hHeld.2.2.1))).trans (hHeld.2.2.1)
                       have HS3_ := (hb.cell (World.block_lt_of_cell? _ _ (hHeld.2.2.2))).trans (hHeld.2.2.2)
                       have BK530 := Aside0.mk (hbox)
                       have GW530 := zg HB hg
                       have GE530 := GW530
                       have NB510_530 := zl BK510 hg
                       have NB530_510 := zr BK510 hg
                       replace HO_4 := zo HO_4 hb; replace HO517 := zo HO517 hb; replace HO521 := zo HO521 hb; replace BK510 := zb BK510 hb; replace HB := zh HB hb; clear hb hbox hg
                       refine hK.out _ _ ⟨HS0_, HS1_, HS2_, HS3_⟩ (fun hHeld => ?_)
                       clear hK K
                       refine zN 7 ?_
                       exact norm_ zO2_0 (hJ17 (gb530) _ ⟨hHeld, zO2_1, zO2_2, zO2_3, (zq BK510), (zq BK530), GW530.out, GE530.out, NB510_530.out, NB530_510.out, (zy HB)⟩)
                     ·skip
                      rintro gb530 w50 ⟨hS_, h0_, h1_, h2_, h3_, h4_, h5_, h6_, h7_, h8_, h9_⟩
                      have n0_ : Aside0 (Kd.R Kd.string 9 w50 w.heap.size (fun k_ => some k_ ≠ (.slice (some ad526) t519.length co47 : Value).ownBlock ∧ some k_ ≠ (.slice (some ad514) t511.length co43 : Value).ownBlock) (.slice (some ad518) t515.length co45) t515) := ⟨h0_⟩
                      have n1_ : Aside0 (Kd.R Kd.string 9 w50 w.heap.size (fun k_ => some k_ ≠ (.slice (some ad518) t515.length co45 : Value).ownBlock ∧ some k_ ≠ (.slice (some ad514) t511.length co43 : Value).ownBlock) (.slice (some ad526) t519.length co47) t519) := ⟨h1_⟩
                      have n2_ : Aside0 (Kd.R Kd.string 9 w50 w.heap.size (fun k_ => some k_ ≠ (.slice (some ad518) t515.length co45 : Value).ownBlock ∧ some k_ ≠ (.slice (some ad526) t519.length co47 : Value).ownBlock) (.slice (some ad514) t511.length co43) t511) := ⟨h2_⟩
                      have n3_ : Aside0 (w50.heap[gb510]? = some (.cells #[.int .i64 0, .int .i64 0, .int .i64 0, .int .i64 0] 25 (0, 0))) := ⟨h3_⟩
                      have n4_ : Aside0 (w50.heap[gb530]? = some (.cells #[.int .i64 0, .int .i64 0, .int .i64 0, .int .i64 0] 25 (0, 0))) := ⟨h4_⟩
                      have n5_ : Aside0 (w.heap.size ≤ gb530) := ⟨h5_⟩
                      have n6_ : Aside0 (w.heap.size ≤ gb530) := ⟨h6_⟩
                      have n7_ : Aside0 (gb510 ≠ gb530) := ⟨h7_⟩
                      have n8_ : Aside0 (gb530 ≠ gb510) := ⟨h8_⟩
                      have n9_ : Aside0 (Below w.heap.size w w50) := ⟨h9_⟩
                      clear HO_4; clear HO517; clear HO521; clear BK510; clear HB; clear h0_ h1_ h2_ h3_ h4_ h5_ h6_ h7_ h8_ h9_; have HO517 := n0_; have HO521 := n1_; have HO_4 := n2_; have BK510 := n3_; have BK530 := n4_; have GW530 := n5_; have GE530 := n6_; have NB510_530 := n7_; have NB530_510 := n8_; have HB := n9_; clear n0_ n1_ n2_ n3_ n4_ n5_ n6_ n7_ n8_ n9_
                      have hHeld : w50.cell? ad514 = some (.string (rdOf ByteArray.empty t511 0)) ∧ w50.cell? ad518 = some (.string (rdOf ByteArray.empty t515 0)) ∧ w50.cell? ad526 = some (.string (rdOf ByteArray.empty t519 0)) ∧ w50.cell? ⟨ad526.block, ad526.off + 1, none⟩ = some (.string (rdOf ByteArray.empty t519 1)) := hS_
                      refine norm_ (a' := ?_) ?_ ?_
                      rotate_left
                      ·simp only [putAll, Act.put, List.setIfInBounds_toArray, List.set_cons_zero, List.set_cons_succ]
                       rfl
                      refine zO 3 (some 38) HT_ (fun K hK => ?_)
                      refine goes_ Tryz.func70 (by kernel_rfl) rfl #[.string (rdOf ByteArray.empty t511 0)] (by rfl) rfl rfl zO2_4 ?_
                      with_reducible refine (spec_l1Read.calls kj2 (rdOf ByteArray.empty t511 0) t523 _ A17.out).mono ?_
                      rintro e w' ⟨rfl, ⟨nd, rfl⟩⟩
                      refine ⟨_, rfl, ?_⟩
                      refine hK.out _ _ ⟨hHeld.1, hHeld.2.1, hHeld.2.2.1, hHeld.2.2.2⟩ (fun hHeld => ?_)
                      clear hK K
                      refine zN 38 ?_
                      exact norm_ zO2_0 (hJ3_17 (gb530) _ ⟨hHeld, (zs HO517), (zs HO521), (zs HO_4), (zq BK510), (zq BK530), GW530.out, GE530.out, NB510_530.out, NB530_510.out, (zy HB)⟩)
                    ·skip
                     rintro _ w49 ⟨hS_, h0_, h1_, h2_, h3_, h4_⟩
                     have n0_ : Aside0 (Kd.R Kd.string 9 w49 w.heap.size (fun k_ => some k_ ≠ (.slice (some ad526) t519.length co47 : Value).ownBlock ∧ some k_ ≠ (.slice (some ad514) t511.length co43 : Value).ownBlock) (.slice (some ad518) t515.length co45) t515) := ⟨h0_⟩
                     have n1_ : Aside0 (Kd.R Kd.string 9 w49 w.heap.size (fun k_ => some k_ ≠ (.slice (some ad518) t515.length co45 : Value).ownBlock ∧ some k_ ≠ (.slice (some ad514) t511.length co43 : Value).ownBlock) (.slice (some ad526) t519.length co47) t519) := ⟨h1_⟩
                     have n2_ : Aside0 (Kd.R Kd.string 9 w49 w.heap.size (fun k_ => some k_ ≠ (.slice (some ad518) t515.length co45 : Value).ownBlock ∧ some k_ ≠ (.slice (some ad526) t519.length co47 : Value).ownBlock) (.slice (some ad514) t511.length co43) t511) := ⟨h2_⟩
                     have n3_ : Aside0 (w49.heap[gb510]? = some (.cells #[.int .i64 0, .int .i64 0, .int .i64 0, .int .i64 0] 25 (0, 0))) := ⟨h3_⟩
                     have n4_ : Aside0 (Below w.heap.size w w49) := ⟨h4_⟩
                     clear HO_4; clear HO517; clear HO521; clear BK510; clear HB; clear h0_ h1_ h2_ h3_ h4_; have HO517 := n0_; have HO521 := n1_; have HO_4 := n2_; have BK510 := n3_; have HB := n4_; clear n0_ n1_ n2_ n3_ n4_
                     have hHeld : w49.cell? ad514 = some (.string (rdOf ByteArray.empty t511 0)) ∧ w49.cell? ad518 = some (.string (rdOf ByteArray.empty t515 0)) ∧ w49.cell? ad526 = some (.string (rdOf ByteArray.empty t519 0)) ∧ w49.cell? ⟨ad526.block, ad526.off + 1, none⟩ = some (.string (rdOf ByteArray.empty t519 1)) := hS_
                     refine norm_ (a' := ?_) ?_ ?_
                     rotate_left
                     ·simp only [putAll, Act.put, List.setIfInBounds_toArray, List.set_cons_zero, List.set_cons_succ]
                      rfl
                     refine two_ (i := 7) (j := 17) (Ni := some 42) (Nj := some 7) #[true, true, true, true, true, true, true, true, true, true, true, false, true, true, true, false, false, false, false] #[true, true, true, true, true, true, true, false, true, true, true, false, true, true, true, false, false, true, false] rfl rfl rfl rfl (two_of HT_.out (by kernel_rfl)) (by decide) (by decide) (fun K hK => ?_) (fun K hK => ?_)
                     ·skip
                      refine goes_ Tryz.func70 (by kernel_rfl) rfl #[.string (rdOf ByteArray.empty t515 0)] (by rfl) rfl rfl zO2_4 ?_
                      with_reducible refine (spec_l1Read.calls kj2 (rdOf ByteArray.empty t515 0) t525 _ A19.out).mono ?_
                      rintro e w' ⟨rfl, ⟨nd, rfl⟩⟩
                      refine ⟨_, rfl, ?_⟩
                      refine hK.out _ _ ⟨hHeld.1, hHeld.2.1, hHeld.2.2.1, hHeld.2.2.2⟩ (fun hHeld => ?_)
                      clear hK K
                      refine zN 42 ?_
                      exact norm_ zO2_0 (hJ3_7 () _ ⟨hHeld, (zs HO517), (zs HO521), (zs HO_4), (zq BK510), (zy HB)⟩)
                     ·skip
                      refine box_step ?hg (N := 7) ?hd (cs := #[.int .i64 0, .int .i64 0, .int .i64 0, .int .i64 0]) (t := 25) ?hr ?_; (case hd => rfl); (case hg => rfl); (case hr => first | (go_simp; done) | (go_simp; rfl))
                      intro gb530 hg w50 hbox hb
                      have HS0_ := (hb.cell (World.block_lt_of_cell? _ _ (hHeld.1))).trans (hHeld.1)
                      have HS1_ := (hb.cell (World.block_lt_of_cell? _ _ (hHeld.2.1))).trans (hHeld.2.1)
                      have HS2_ := (hb.cell (World.block_lt_of_cell? _ _ (hHeld.2.2.1))).trans (hHeld.2.2.1)
                      have HS3_ := (hb.cell (World.block_lt_of_cell? _ _ (hHeld.2.2.2))).trans (hHeld.2.2.2)
                      have BK530 := Aside0.mk (hbox)
                      have GW530 := zg HB hg
                      have GE530 := GW530
                      have NB510_530 := zl BK510 hg
                      have NB530_510 := zr BK510 hg
                      replace HO_4 := zo HO_4 hb; replace HO517 := zo HO517 hb; replace HO521 := zo HO521 hb; replace BK510 := zb BK510 hb; replace HB := zh HB hb; clear hb hbox hg
                      refine hK.out _ _ ⟨HS0_, HS1_, HS2_, HS3_⟩ (fun hHeld => ?_)
                      clear hK K
                      refine zN 7 ?_
                      exact norm_ zO2_0 (hJ3_17 (gb530) _ ⟨hHeld, (zs HO517), (zs HO521), (zs HO_4), (zq BK510), (zq BK530), GW530.out, GE530.out, NB510_530.out, NB530_510.out, (zy HB)⟩)
                   ·skip
                    rintro gb530 w50 ⟨hS_, h0_, h1_, h2_, h3_, h4_, h5_, h6_, h7_, h8_, h9_⟩
                    have n0_ : Aside0 (Kd.R Kd.string 9 w50 w.heap.size (fun k_ => some k_ ≠ (.slice (some ad526) t519.length co47 : Value).ownBlock ∧ some k_ ≠ (.slice (some ad514) t511.length co43 : Value).ownBlock) (.slice (some ad518) t515.length co45) t515) := ⟨h0_⟩
                    have n1_ : Aside0 (Kd.R Kd.string 9 w50 w.heap.size (fun k_ => some k_ ≠ (.slice (some ad518) t515.length co45 : Value).ownBlock ∧ some k_ ≠ (.slice (some ad514) t511.length co43 : Value).ownBlock) (.slice (some ad526) t519.length co47) t519) := ⟨h1_⟩
                    have n2_ : Aside0 (Kd.R Kd.string 9 w50 w.heap.size (fun k_ => some k_ ≠ (.slice (some ad518) t515.length co45 : Value).ownBlock ∧ some k_ ≠ (.slice (some ad526) t519.length co47 : Value).ownBlock) (.slice (some ad514) t511.length co43) t511) := ⟨h2_⟩
                    have n3_ : Aside0 (w50.heap[gb510]? = some (.cells #[.int .i64 0, .int .i64 0, .int .i64 0, .int .i64 0] 25 (0, 0))) := ⟨h3_⟩
                    have n4_ : Aside0 (w50.heap[gb530]? = some (.cells #[.int .i64 0, .int .i64 0, .int .i64 0, .int .i64 0] 25 (0, 0))) := ⟨h4_⟩
                    have n5_ : Aside0 (w.heap.size ≤ gb530) := ⟨h5_⟩
                    have n6_ : Aside0 (w.heap.size ≤ gb530) := ⟨h6_⟩
                    have n7_ : Aside0 (gb510 ≠ gb530) := ⟨h7_⟩
                    have n8_ : Aside0 (gb530 ≠ gb510) := ⟨h8_⟩
                    have n9_ : Aside0 (Below w.heap.size w w50) := ⟨h9_⟩
                    clear HO_4; clear HO517; clear HO521; clear BK510; clear HB; clear h0_ h1_ h2_ h3_ h4_ h5_ h6_ h7_ h8_ h9_; have HO517 := n0_; have HO521 := n1_; have HO_4 := n2_; have BK510 := n3_; have BK530 := n4_; have GW530 := n5_; have GE530 := n6_; have NB510_530 := n7_; have NB530_510 := n8_; have HB := n9_; clear n0_ n1_ n2_ n3_ n4_ n5_ n6_ n7_ n8_ n9_
                    have hHeld : w50.cell? ad514 = some (.string (rdOf ByteArray.empty t511 0)) ∧ w50.cell? ad518 = some (.string (rdOf ByteArray.empty t515 0)) ∧ w50.cell? ad526 = some (.string (rdOf ByteArray.empty t519 0)) ∧ w50.cell? ⟨ad526.block, ad526.off + 1, none⟩ = some (.string (rdOf ByteArray.empty t519 1)) := hS_
                    refine norm_ (a' := ?_) ?_ ?_
                    rotate_left
                    ·simp only [putAll, Act.put, List.setIfInBounds_toArray, List.set_cons_zero, List.set_cons_succ]
                     rfl
                    refine zO 7 (some 42) HT_ (fun K hK => ?_)
                    refine goes_ Tryz.func70 (by kernel_rfl) rfl #[.string (rdOf ByteArray.empty t515 0)] (by rfl) rfl rfl zO2_4 ?_
                    with_reducible refine (spec_l1Read.calls kj2 (rdOf ByteArray.empty t515 0) t525 _ A19.out).mono ?_
                    rintro e w' ⟨rfl, ⟨nd, rfl⟩⟩
                    refine ⟨_, rfl, ?_⟩
                    refine hK.out _ _ ⟨hHeld.1, hHeld.2.1, hHeld.2.2.1, hHeld.2.2.2⟩ (fun hHeld => ?_)
                    clear hK K
                    refine zN 42 ?_
                    exact norm_ zO2_0 (hJ3_7_17 (gb530) _ ⟨hHeld, (zs HO517), (zs HO521), (zs HO_4), (zq BK510), (zq BK530), GW530.out, GE530.out, NB510_530.out, NB530_510.out, (zy HB)⟩)
                  ·skip
                   rintro _ w49 ⟨hS_, h0_, h1_, h2_, h3_, h4_⟩
                   have n0_ : Aside0 (Kd.R Kd.string 9 w49 w.heap.size (fun k_ => some k_ ≠ (.slice (some ad526) t519.length co47 : Value).ownBlock ∧ some k_ ≠ (.slice (some ad514) t511.length co43 : Value).ownBlock) (.slice (some ad518) t515.length co45) t515) := ⟨h0_⟩
                   have n1_ : Aside0 (Kd.R Kd.string 9 w49 w.heap.size (fun k_ => some k_ ≠ (.slice (some ad518) t515.length co45 : Value).ownBlock ∧ some k_ ≠ (.slice (some ad514) t511.length co43 : Value).ownBlock) (.slice (some ad526) t519.length co47) t519) := ⟨h1_⟩
                   have n2_ : Aside0 (Kd.R Kd.string 9 w49 w.heap.size (fun k_ => some k_ ≠ (.slice (some ad518) t515.length co45 : Value).ownBlock ∧ some k_ ≠ (.slice (some ad526) t519.length co47 : Value).ownBlock) (.slice (some ad514) t511.length co43) t511) := ⟨h2_⟩
                   have n3_ : Aside0 (w49.heap[gb510]? = some (.cells #[.int .i64 0, .int .i64 0, .int .i64 0, .int .i64 0] 25 (0, 0))) := ⟨h3_⟩
                   have n4_ : Aside0 (Below w.heap.size w w49) := ⟨h4_⟩
                   clear HO_4; clear HO517; clear HO521; clear BK510; clear HB; clear h0_ h1_ h2_ h3_ h4_; have HO517 := n0_; have HO521 := n1_; have HO_4 := n2_; have BK510 := n3_; have HB := n4_; clear n0_ n1_ n2_ n3_ n4_
                   have hHeld : w49.cell? ad514 = some (.string (rdOf ByteArray.empty t511 0)) ∧ w49.cell? ad518 = some (.string (rdOf ByteArray.empty t515 0)) ∧ w49.cell? ad526 = some (.string (rdOf ByteArray.empty t519 0)) ∧ w49.cell? ⟨ad526.block, ad526.off + 1, none⟩ = some (.string (rdOf ByteArray.empty t519 1)) := hS_
                   refine norm_ (a' := ?_) ?_ ?_
                   rotate_left
                   ·simp only [putAll, Act.put, List.setIfInBounds_toArray, List.set_cons_zero, List.set_cons_succ]
                    rfl
                   refine two_ (i := 11) (j := 17) (Ni := some 46) (Nj := some 7) #[true, true, true, true, true, true, true, true, true, true, true, true, true, true, true, false, false, false, false] #[true, true, true, true, true, true, true, true, true, true, true, false, true, true, true, false, false, true, false] rfl rfl rfl rfl (two_of HT_.out (by kernel_rfl)) (by decide) (by decide) (fun K hK => ?_) (fun K hK => ?_)
                   ·skip
                    refine goes_ Tryz.func70 (by kernel_rfl) rfl #[.string (rdOf ByteArray.empty t519 0)] (by rfl) rfl rfl zO2_4 ?_
                    with_reducible refine (spec_l1Read.calls kj2 (rdOf ByteArray.empty t519 0) t527 _ A21.out).mono ?_
                    rintro e w' ⟨rfl, ⟨nd, rfl⟩⟩
                    refine ⟨_, rfl, ?_⟩
                    refine hK.out _ _ ⟨hHeld.1, hHeld.2.1, hHeld.2.2.1, hHeld.2.2.2⟩ (fun hHeld => ?_)
                    clear hK K
                    refine zN 46 ?_
                    exact norm_ zO2_0 (hJ3_7_11 () _ ⟨hHeld, (zs HO517), (zs HO521), (zs HO_4), (zq BK510), (zy HB)⟩)
                   ·skip
                    refine box_step ?hg (N := 7) ?hd (cs := #[.int .i64 0, .int .i64 0, .int .i64 0, .int .i64 0]) (t := 25) ?hr ?_; (case hd => rfl); (case hg => rfl); (case hr => first | (go_simp; done) | (go_simp; rfl))
                    intro gb530 hg w50 hbox hb
                    have HS0_ := (hb.cell (World.block_lt_of_cell? _ _ (hHeld.1))).trans (hHeld.1)
                    have HS1_ := (hb.cell (World.block_lt_of_cell? _ _ (hHeld.2.1))).trans (hHeld.2.1)
                    have HS2_ := (hb.cell (World.block_lt_of_cell? _ _ (hHeld.2.2.1))).trans (hHeld.2.2.1)
                    have HS3_ := (hb.cell (World.block_lt_of_cell? _ _ (hHeld.2.2.2))).trans (hHeld.2.2.2)
                    have BK530 := Aside0.mk (hbox)
                    have GW530 := zg HB hg
                    have GE530 := GW530
                    have NB510_530 := zl BK510 hg
                    have NB530_510 := zr BK510 hg
                    replace HO_4 := zo HO_4 hb; replace HO517 := zo HO517 hb; replace HO521 := zo HO521 hb; replace BK510 := zb BK510 hb; replace HB := zh HB hb; clear hb hbox hg
                    refine hK.out _ _ ⟨HS0_, HS1_, HS2_, HS3_⟩ (fun hHeld => ?_)
                    clear hK K
                    refine zN 7 ?_
                    exact norm_ zO2_0 (hJ3_7_17 (gb530) _ ⟨hHeld, (zs HO517), (zs HO521), (zs HO_4), (zq BK510), (zq BK530), GW530.out, GE530.out, NB510_530.out, NB530_510.out, (zy HB)⟩)
                 ·skip
                  rintro gb530 w50 ⟨hS_, h0_, h1_, h2_, h3_, h4_, h5_, h6_, h7_, h8_, h9_⟩
                  have n0_ : Aside0 (Kd.R Kd.string 9 w50 w.heap.size (fun k_ => some k_ ≠ (.slice (some ad526) t519.length co47 : Value).ownBlock ∧ some k_ ≠ (.slice (some ad514) t511.length co43 : Value).ownBlock) (.slice (some ad518) t515.length co45) t515) := ⟨h0_⟩
                  have n1_ : Aside0 (Kd.R Kd.string 9 w50 w.heap.size (fun k_ => some k_ ≠ (.slice (some ad518) t515.length co45 : Value).ownBlock ∧ some k_ ≠ (.slice (some ad514) t511.length co43 : Value).ownBlock) (.slice (some ad526) t519.length co47) t519) := ⟨h1_⟩
                  have n2_ : Aside0 (Kd.R Kd.string 9 w50 w.heap.size (fun k_ => some k_ ≠ (.slice (some ad518) t515.length co45 : Value).ownBlock ∧ some k_ ≠ (.slice (some ad526) t519.length co47 : Value).ownBlock) (.slice (some ad514) t511.length co43) t511) := ⟨h2_⟩
                  have n3_ : Aside0 (w50.heap[gb510]? = some (.cells #[.int .i64 0, .int .i64 0, .int .i64 0, .int .i64 0] 25 (0, 0))) := ⟨h3_⟩
                  have n4_ : Aside0 (w50.heap[gb530]? = some (.cells #[.int .i64 0, .int .i64 0, .int .i64 0, .int .i64 0] 25 (0, 0))) := ⟨h4_⟩
                  have n5_ : Aside0 (w.heap.size ≤ gb530) := ⟨h5_⟩
                  have n6_ : Aside0 (w.heap.size ≤ gb530) := ⟨h6_⟩
                  have n7_ : Aside0 (gb510 ≠ gb530) := ⟨h7_⟩
                  have n8_ : Aside0 (gb530 ≠ gb510) := ⟨h8_⟩
                  have n9_ : Aside0 (Below w.heap.size w w50) := ⟨h9_⟩
                  clear HO_4; clear HO517; clear HO521; clear BK510; clear HB; clear h0_ h1_ h2_ h3_ h4_ h5_ h6_ h7_ h8_ h9_; have HO517 := n0_; have HO521 := n1_; have HO_4 := n2_; have BK510 := n3_; have BK530 := n4_; have GW530 := n5_; have GE530 := n6_; have NB510_530 := n7_; have NB530_510 := n8_; have HB := n9_; clear n0_ n1_ n2_ n3_ n4_ n5_ n6_ n7_ n8_ n9_
                  have hHeld : w50.cell? ad514 = some (.string (rdOf ByteArray.empty t511 0)) ∧ w50.cell? ad518 = some (.string (rdOf ByteArray.empty t515 0)) ∧ w50.cell? ad526 = some (.string (rdOf ByteArray.empty t519 0)) ∧ w50.cell? ⟨ad526.block, ad526.off + 1, none⟩ = some (.string (rdOf ByteArray.empty t519 1)) := hS_
                  refine norm_ (a' := ?_) ?_ ?_
                  rotate_left
                  ·simp only [putAll, Act.put, List.setIfInBounds_toArray, List.set_cons_zero, List.set_cons_succ]
                   rfl
                  refine zO 11 (some 46) HT_ (fun K hK => ?_)
                  refine goes_ Tryz.func70 (by kernel_rfl) rfl #[.string (rdOf ByteArray.empty t519 0)] (by rfl) rfl rfl zO2_4 ?_
                  with_reducible refine (spec_l1Read.calls kj2 (rdOf ByteArray.empty t519 0) t527 _ A21.out).mono ?_
                  rintro e w' ⟨rfl, ⟨nd, rfl⟩⟩
                  refine ⟨_, rfl, ?_⟩
                  refine hK.out _ _ ⟨hHeld.1, hHeld.2.1, hHeld.2.2.1, hHeld.2.2.2⟩ (fun hHeld => ?_)
                  clear hK K
                  refine zN 46 ?_
                  exact norm_ zO2_0 (hJ3_7_11_17 (gb530) _ ⟨hHeld, (zs HO517), (zs HO521), (zs HO_4), (zq BK510), (zq BK530), GW530.out, GE530.out, NB510_530.out, NB530_510.out, (zy HB)⟩)
                ·skip
                 rintro _ w49 ⟨hS_, h0_, h1_, h2_, h3_, h4_⟩
                 have n0_ : Aside0 (Kd.R Kd.string 9 w49 w.heap.size (fun k_ => some k_ ≠ (.slice (some ad526) t519.length co47 : Value).ownBlock ∧ some k_ ≠ (.slice (some ad514) t511.length co43 : Value).ownBlock) (.slice (some ad518) t515.length co45) t515) := ⟨h0_⟩
                 have n1_ : Aside0 (Kd.R Kd.string 9 w49 w.heap.size (fun k_ => some k_ ≠ (.slice (some ad518) t515.length co45 : Value).ownBlock ∧ some k_ ≠ (.slice (some ad514) t511.length co43 : Value).ownBlock) (.slice (some ad526) t519.length co47) t519) := ⟨h1_⟩
                 have n2_ : Aside0 (Kd.R Kd.string 9 w49 w.heap.size (fun k_ => some k_ ≠ (.slice (some ad518) t515.length co45 : Value).ownBlock ∧ some k_ ≠ (.slice (some ad526) t519.length co47 : Value).ownBlock) (.slice (some ad514) t511.length co43) t511) := ⟨h2_⟩
                 have n3_ : Aside0 (w49.heap[gb510]? = some (.cells #[.int .i64 0, .int .i64 0, .int .i64 0, .int .i64 0] 25 (0, 0))) := ⟨h3_⟩
                 have n4_ : Aside0 (Below w.heap.size w w49) := ⟨h4_⟩
                 clear HO_4; clear HO517; clear HO521; clear BK510; clear HB; clear h0_ h1_ h2_ h3_ h4_; have HO517 := n0_; have HO521 := n1_; have HO_4 := n2_; have BK510 := n3_; have HB := n4_; clear n0_ n1_ n2_ n3_ n4_
                 have hHeld : w49.cell? ad514 = some (.string (rdOf ByteArray.empty t511 0)) ∧ w49.cell? ad518 = some (.string (rdOf ByteArray.empty t515 0)) ∧ w49.cell? ad526 = some (.string (rdOf ByteArray.empty t519 0)) ∧ w49.cell? ⟨ad526.block, ad526.off + 1, none⟩ = some (.string (rdOf ByteArray.empty t519 1)) := hS_
                 refine norm_ (a' := ?_) ?_ ?_
                 rotate_left
                 ·simp only [putAll, Act.put, List.setIfInBounds_toArray, List.set_cons_zero, List.set_cons_succ]
                  rfl
                 refine two_ (i := 15) (j := 17) (Ni := some 50) (Nj := some 7) #[true, true, true, true, true, true, true, true, true, true, true, true, true, true, true, true, false, false, false] #[true, true, true, true, true, true, true, true, true, true, true, true, true, true, true, false, false, true, false] rfl rfl rfl rfl (two_of HT_.out (by kernel_rfl)) (by decide) (by decide) (fun K hK => ?_) (fun K hK => ?_)
                 ·skip
                  refine goes_ Tryz.func70 (by kernel_rfl) rfl #[.string (rdOf ByteArray.empty t519 1)] (by rfl) rfl rfl zO2_4 ?_
                  with_reducible refine (spec_l1Read.calls kj2 (rdOf ByteArray.empty t519 1) t529 _ A23.out).mono ?_
                  rintro e w' ⟨rfl, ⟨nd, rfl⟩⟩
                  refine ⟨_, rfl, ?_⟩
                  refine hK.out _ _ ⟨hHeld.1, hHeld.2.1, hHeld.2.2.1, hHeld.2.2.2⟩ (fun hHeld => ?_)
                  clear hK K
                  refine zN 50 ?_
                  refine zA 16 51 HT_ ?_
                  exact norm_ zO2_0 (hJ3_7_11_15 () _ ⟨hHeld, (zs HO517), (zs HO521), (zs HO_4), (zq BK510), (zy HB)⟩)
                 ·skip
                  refine box_step ?hg (N := 7) ?hd (cs := #[.int .i64 0, .int .i64 0, .int .i64 0, .int .i64 0]) (t := 25) ?hr ?_; (case hd => rfl); (case hg => rfl); (case hr => first | (go_simp; done) | (go_simp; rfl))
                  intro gb530 hg w50 hbox hb
                  have HS0_ := (hb.cell (World.block_lt_of_cell? _ _ (hHeld.1))).trans (hHeld.1)
                  have HS1_ := (hb.cell (World.block_lt_of_cell? _ _ (hHeld.2.1))).trans (hHeld.2.1)
                  have HS2_ := (hb.cell (World.block_lt_of_cell? _ _ (hHeld.2.2.1))).trans (hHeld.2.2.1)
                  have HS3_ := (hb.cell (World.block_lt_of_cell? _ _ (hHeld.2.2.2))).trans (hHeld.2.2.2)
                  have BK530 := Aside0.mk (hbox)
                  have GW530 := zg HB hg
                  have GE530 := GW530
                  have NB510_530 := zl BK510 hg
                  have NB530_510 := zr BK510 hg
                  replace HO_4 := zo HO_4 hb; replace HO517 := zo HO517 hb; replace HO521 := zo HO521 hb; replace BK510 := zb BK510 hb; replace HB := zh HB hb; clear hb hbox hg
                  refine hK.out _ _ ⟨HS0_, HS1_, HS2_, HS3_⟩ (fun hHeld => ?_)
                  clear hK K
                  refine zN 7 ?_
                  exact norm_ zO2_0 (hJ3_7_11_17 (gb530) _ ⟨hHeld, (zs HO517), (zs HO521), (zs HO_4), (zq BK510), (zq BK530), GW530.out, GE530.out, NB510_530.out, NB530_510.out, (zy HB)⟩)
               ·skip
                rintro gb530 w50 ⟨hS_, h0_, h1_, h2_, h3_, h4_, h5_, h6_, h7_, h8_, h9_⟩
                have n0_ : Aside0 (Kd.R Kd.string 9 w50 w.heap.size (fun k_ => some k_ ≠ (.slice (some ad526) t519.length co47 : Value).ownBlock ∧ some k_ ≠ (.slice (some ad514) t511.length co43 : Value).ownBlock) (.slice (some ad518) t515.length co45) t515) := ⟨h0_⟩
                have n1_ : Aside0 (Kd.R Kd.string 9 w50 w.heap.size (fun k_ => some k_ ≠ (.slice (some ad518) t515.length co45 : Value).ownBlock ∧ some k_ ≠ (.slice (some ad514) t511.length co43 : Value).ownBlock) (.slice (some ad526) t519.length co47) t519) := ⟨h1_⟩
                have n2_ : Aside0 (Kd.R Kd.string 9 w50 w.heap.size (fun k_ => some k_ ≠ (.slice (some ad518) t515.length co45 : Value).ownBlock ∧ some k_ ≠ (.slice (some ad526) t519.length co47 : Value).ownBlock) (.slice (some ad514) t511.length co43) t511) := ⟨h2_⟩
                have n3_ : Aside0 (w50.heap[gb510]? = some (.cells #[.int .i64 0, .int .i64 0, .int .i64 0, .int .i64 0] 25 (0, 0))) := ⟨h3_⟩
                have n4_ : Aside0 (w50.heap[gb530]? = some (.cells #[.int .i64 0, .int .i64 0, .int .i64 0, .int .i64 0] 25 (0, 0))) := ⟨h4_⟩
                have n5_ : Aside0 (w.heap.size ≤ gb530) := ⟨h5_⟩
                have n6_ : Aside0 (w.heap.size ≤ gb530) := ⟨h6_⟩
                have n7_ : Aside0 (gb510 ≠ gb530) := ⟨h7_⟩
                have n8_ : Aside0 (gb530 ≠ gb510) := ⟨h8_⟩
                have n9_ : Aside0 (Below w.heap.size w w50) := ⟨h9_⟩
                clear HO_4; clear HO517; clear HO521; clear BK510; clear HB; clear h0_ h1_ h2_ h3_ h4_ h5_ h6_ h7_ h8_ h9_; have HO517 := n0_; have HO521 := n1_; have HO_4 := n2_; have BK510 := n3_; have BK530 := n4_; have GW530 := n5_; have GE530 := n6_; have NB510_530 := n7_; have NB530_510 := n8_; have HB := n9_; clear n0_ n1_ n2_ n3_ n4_ n5_ n6_ n7_ n8_ n9_
                have hHeld : w50.cell? ad514 = some (.string (rdOf ByteArray.empty t511 0)) ∧ w50.cell? ad518 = some (.string (rdOf ByteArray.empty t515 0)) ∧ w50.cell? ad526 = some (.string (rdOf ByteArray.empty t519 0)) ∧ w50.cell? ⟨ad526.block, ad526.off + 1, none⟩ = some (.string (rdOf ByteArray.empty t519 1)) := hS_
                refine norm_ (a' := ?_) ?_ ?_
                rotate_left
                ·simp only [putAll, Act.put, List.setIfInBounds_toArray, List.set_cons_zero, List.set_cons_succ]
                 rfl
                refine zO 15 (some 50) HT_ (fun K hK => ?_)
                refine goes_ Tryz.func70 (by kernel_rfl) rfl #[.string (rdOf ByteArray.empty t519 1)] (by rfl) rfl rfl zO2_4 ?_
                with_reducible refine (spec_l1Read.calls kj2 (rdOf ByteArray.empty t519 1) t529 _ A23.out).mono ?_
                rintro e w' ⟨rfl, ⟨nd, rfl⟩⟩
                refine ⟨_, rfl, ?_⟩
                refine hK.out _ _ ⟨hHeld.1, hHeld.2.1, hHeld.2.2.1, hHeld.2.2.2⟩ (fun hHeld => ?_)
                clear hK K
                refine zN 50 ?_
                refine zA 16 51 HT_ ?_
                exact norm_ zO2_0 (hJ3_7_11_15_17 (gb530) _ ⟨hHeld, (zs HO517), (zs HO521), (zs HO_4), (zq BK510), (zq BK530), GW530.out, GE530.out, NB510_530.out, NB530_510.out, (zy HB)⟩)
              ·skip
               rintro _ w49 ⟨hS_, h0_, h1_, h2_, h3_, h4_⟩
               have n0_ : Aside0 (Kd.R Kd.string 9 w49 w.heap.size (fun k_ => some k_ ≠ (.slice (some ad526) t519.length co47 : Value).ownBlock ∧ some k_ ≠ (.slice (some ad514) t511.length co43 : Value).ownBlock) (.slice (some ad518) t515.length co45) t515) := ⟨h0_⟩
               have n1_ : Aside0 (Kd.R Kd.string 9 w49 w.heap.size (fun k_ => some k_ ≠ (.slice (some ad518) t515.length co45 : Value).ownBlock ∧ some k_ ≠ (.slice (some ad514) t511.length co43 : Value).ownBlock) (.slice (some ad526) t519.length co47) t519) := ⟨h1_⟩
               have n2_ : Aside0 (Kd.R Kd.string 9 w49 w.heap.size (fun k_ => some k_ ≠ (.slice (some ad518) t515.length co45 : Value).ownBlock ∧ some k_ ≠ (.slice (some ad526) t519.length co47 : Value).ownBlock) (.slice (some ad514) t511.length co43) t511) := ⟨h2_⟩
               have n3_ : Aside0 (w49.heap[gb510]? = some (.cells #[.int .i64 0, .int .i64 0, .int .i64 0, .int .i64 0] 25 (0, 0))) := ⟨h3_⟩
               have n4_ : Aside0 (Below w.heap.size w w49) := ⟨h4_⟩
               clear HO_4; clear HO517; clear HO521; clear BK510; clear HB; clear h0_ h1_ h2_ h3_ h4_; have HO517 := n0_; have HO521 := n1_; have HO_4 := n2_; have BK510 := n3_; have HB := n4_; clear n0_ n1_ n2_ n3_ n4_
               have hHeld : w49.cell? ad514 = some (.string (rdOf ByteArray.empty t511 0)) ∧ w49.cell? ad518 = some (.string (rdOf ByteArray.empty t515 0)) ∧ w49.cell? ad526 = some (.string (rdOf ByteArray.empty t519 0)) ∧ w49.cell? ⟨ad526.block, ad526.off + 1, none⟩ = some (.string (rdOf ByteArray.empty t519 1)) := hS_
               refine norm_ (a' := ?_) ?_ ?_
               rotate_left
               ·simp only [putAll, Act.put, List.setIfInBounds_toArray, List.set_cons_zero, List.set_cons_succ]
                rfl
               refine zO 17 (some 7) HT_ (fun K hK => ?_)
               refine box_step ?hg (N := 7) ?hd (cs := #[.int .i64 0, .int .i64 0, .int .i64 0, .int .i64 0]) (t := 25) ?hr ?_; (case hd => rfl); (case hg => rfl); (case hr => first | (go_simp; done) | (go_simp; rfl))
               intro gb530 hg w50 hbox hb
               have HS0_ := (hb.cell (World.block_lt_of_cell? _ _ (hHeld.1))).trans (hHeld.1)
               have HS1_ := (hb.cell (World.block_lt_of_cell? _ _ (hHeld.2.1))).trans (hHeld.2.1)
               have HS2_ := (hb.cell (World.block_lt_of_cell? _ _ (hHeld.2.2.1))).trans (hHeld.2.2.1)
               have HS3_ := (hb.cell (World.block_lt_of_cell? _ _ (hHeld.2.2.2))).trans (hHeld.2.2.2)
               have BK530 := Aside0.mk (hbox)
               have GW530 := zg HB hg
               have GE530 := GW530
               have NB510_530 := zl BK510 hg
               have NB530_510 := zr BK510 hg
               replace HO_4 := zo HO_4 hb; replace HO517 := zo HO517 hb; replace HO521 := zo HO521 hb; replace BK510 := zb BK510 hb; replace HB := zh HB hb; clear hb hbox hg
               refine hK.out _ _ ⟨HS0_, HS1_, HS2_, HS3_⟩ (fun hHeld => ?_)
               clear hK K
               refine zN 7 ?_
               exact norm_ zO2_0 (hJ3_7_11_15_17 (gb530) _ ⟨hHeld, (zs HO517), (zs HO521), (zs HO_4), (zq BK510), (zq BK530), GW530.out, GE530.out, NB510_530.out, NB530_510.out, (zy HB)⟩)
             rintro gb530 w50 ⟨hS_, h0_, h1_, h2_, h3_, h4_, h5_, h6_, h7_, h8_, h9_⟩
             have n0_ : Aside0 (Kd.R Kd.string 9 w50 w.heap.size (fun k_ => some k_ ≠ (.slice (some ad526) t519.length co47 : Value).ownBlock ∧ some k_ ≠ (.slice (some ad514) t511.length co43 : Value).ownBlock) (.slice (some ad518) t515.length co45) t515) := ⟨h0_⟩
             have n1_ : Aside0 (Kd.R Kd.string 9 w50 w.heap.size (fun k_ => some k_ ≠ (.slice (some ad518) t515.length co45 : Value).ownBlock ∧ some k_ ≠ (.slice (some ad514) t511.length co43 : Value).ownBlock) (.slice (some ad526) t519.length co47) t519) := ⟨h1_⟩
             have n2_ : Aside0 (Kd.R Kd.string 9 w50 w.heap.size (fun k_ => some k_ ≠ (.slice (some ad518) t515.length co45 : Value).ownBlock ∧ some k_ ≠ (.slice (some ad526) t519.length co47 : Value).ownBlock) (.slice (some ad514) t511.length co43) t511) := ⟨h2_⟩
             have n3_ : Aside0 (w50.heap[gb510]? = some (.cells #[.int .i64 0, .int .i64 0, .int .i64 0, .int .i64 0] 25 (0, 0))) := ⟨h3_⟩
             have n4_ : Aside0 (w50.heap[gb530]? = some (.cells #[.int .i64 0, .int .i64 0, .int .i64 0, .int .i64 0] 25 (0, 0))) := ⟨h4_⟩
             have n5_ : Aside0 (w.heap.size ≤ gb530) := ⟨h5_⟩
             have n6_ : Aside0 (w.heap.size ≤ gb530) := ⟨h6_⟩
             have n7_ : Aside0 (gb510 ≠ gb530) := ⟨h7_⟩
             have n8_ : Aside0 (gb530 ≠ gb510) := ⟨h8_⟩
             have n9_ : Aside0 (Below w.heap.size w w50) := ⟨h9_⟩
             clear HO_4; clear HO517; clear HO521; clear BK510; clear HB; clear h0_ h1_ h2_ h3_ h4_ h5_ h6_ h7_ h8_ h9_; have HO517 := n0_; have HO521 := n1_; have HO_4 := n2_; have BK510 := n3_; have BK530 := n4_; have GW530 := n5_; have GE530 := n6_; have NB510_530 := n7_; have NB530_510 := n8_; have HB := n9_; clear n0_ n1_ n2_ n3_ n4_ n5_ n6_ n7_ n8_ n9_
             have hHeld : w50.cell? ad514 = some (.string (rdOf ByteArray.empty t511 0)) ∧ w50.cell? ad518 = some (.string (rdOf ByteArray.empty t515 0)) ∧ w50.cell? ad526 = some (.string (rdOf ByteArray.empty t519 0)) ∧ w50.cell? ⟨ad526.block, ad526.off + 1, none⟩ = some (.string (rdOf ByteArray.empty t519 1)) := hS_
             refine norm_ (a' := ?_) ?_ ?_
             rotate_left
             ·simp only [putAll, Act.put, List.setIfInBounds_toArray, List.set_cons_zero, List.set_cons_succ]
              rfl
             refine zO 18 none HT_ (fun K hK => ?_)
             have hs51 : w50.cell? ⟨gb530, 0, none⟩ = some (.int .i64 0) := (blk_cell BK530.out 0).trans rfl
             have hfs51 := blk_frozen BK530.out 0
             have hns51_0 := NB510_530.out; have hms51_0 := NB530_510.out
             have hs52 : w50.cell? ⟨gb530, 1, none⟩ = some (.int .i64 0) := (blk_cell BK530.out 1).trans rfl
             have hfs52 := blk_frozen BK530.out 1
             have hns52_0 := NB510_530.out; have hms52_0 := NB530_510.out
             have hs53 : w50.cell? ⟨gb530, 2, none⟩ = some (.int .i64 0) := (blk_cell BK530.out 2).trans rfl
             have hfs53 := blk_frozen BK530.out 2
             have hns53_0 := NB510_530.out; have hms53_0 := NB530_510.out
             have hs54 : w50.cell? ⟨gb530, 3, none⟩ = some (.int .i64 0) := (blk_cell BK530.out 3).trans rfl
             have hfs54 := blk_frozen BK530.out 3
             have hns54_0 := NB510_530.out; have hms54_0 := NB530_510.out
             refine skip_ (w1 := ?_) (by rfl) rfl ?_ ?_
             rotate_left
             ·go_simp
              rfl
             refine hK.out _ _ ⟨((cell_far (p := ⟨gb530, _, none⟩) (by first | exact Kd.own_blk (Kd.R_ne HO_4.out BK530.out (by decide)) | (rw [add_block]; exact Kd.own_blk (Kd.R_ne HO_4.out BK530.out (by decide))) | (show (Addr.add _ _).block ≠ _; rw [add_block]; exact Kd.own_blk (Kd.R_ne HO_4.out BK530.out (by decide))) | (dsimp only; exact Kd.own_blk (Kd.R_ne HO_4.out BK530.out (by decide)))) _).trans (((cell_far (p := ⟨gb530, _, none⟩) (by first | exact Kd.own_blk (Kd.R_ne HO_4.out BK530.out (by decide)) | (rw [add_block]; exact Kd.own_blk (Kd.R_ne HO_4.out BK530.out (by decide))) | (show (Addr.add _ _).block ≠ _; rw [add_block]; exact Kd.own_blk (Kd.R_ne HO_4.out BK530.out (by decide))) | (dsimp only; exact Kd.own_blk (Kd.R_ne HO_4.out BK530.out (by decide)))) _).trans (((cell_far (p := ⟨gb530, _, none⟩) (by first | exact Kd.own_blk (Kd.R_ne HO_4.out BK530.out (by decide)) | (rw [add_block]; exact Kd.own_blk (Kd.R_ne HO_4.out BK530.out (by decide))) | (show (Addr.add _ _).block ≠ _; rw [add_block]; exact Kd.own_blk (Kd.R_ne HO_4.out BK530.out (by decide))) | (dsimp only; exact Kd.own_blk (Kd.R_ne HO_4.out BK530.out (by decide)))) _).trans (((cell_far (p := ⟨gb530, _, none⟩) (by first | exact Kd.own_blk (Kd.R_ne HO_4.out BK530.out (by decide)) | (rw [add_block]; exact Kd.own_blk (Kd.R_ne HO_4.out BK530.out (by decide))) | (show (Addr.add _ _).block ≠ _; rw [add_block]; exact Kd.own_blk (Kd.R_ne HO_4.out BK530.out (by decide))) | (dsimp only; exact Kd.own_blk (Kd.R_ne HO_4.out BK530.out (by decide)))) _).trans (hHeld.1)))))))), ((cell_far (p := ⟨gb530, _, none⟩) (by first | exact Kd.own_blk (Kd.R_ne HO517.out BK530.out (by decide)) | (rw [add_block]; exact Kd.own_blk (Kd.R_ne HO517.out BK530.out (by decide))) | (show (Addr.add _ _).block ≠ _; rw [add_block]; exact Kd.own_blk (Kd.R_ne HO517.out BK530.out (by decide))) | (dsimp only; exact Kd.own_blk (Kd.R_ne HO517.out BK530.out (by decide)))) _).trans (((cell_far (p := ⟨gb530, _, none⟩) (by first | exact Kd.own_blk (Kd.R_ne HO517.out BK530.out (by decide)) | (rw [add_block]; exact Kd.own_blk (Kd.R_ne HO517.out BK530.out (by decide))) | (show (Addr.add _ _).block ≠ _; rw [add_block]; exact Kd.own_blk (Kd.R_ne HO517.out BK530.out (by decide))) | (dsimp only; exact Kd.own_blk (Kd.R_ne HO517.out BK530.out (by decide)))) _).trans (((cell_far (p := ⟨gb530, _, none⟩) (by first | exact Kd.own_blk (Kd.R_ne HO517.out BK530.out (by decide)) | (rw [add_block]; exact Kd.own_blk (Kd.R_ne HO517.out BK530.out (by decide))) | (show (Addr.add _ _).block ≠ _; rw [add_block]; exact Kd.own_blk (Kd.R_ne HO517.out BK530.out (by decide))) | (dsimp only; exact Kd.own_blk (Kd.R_ne HO517.out BK530.out (by decide)))) _).trans (((cell_far (p := ⟨gb530, _, none⟩) (by first | exact Kd.own_blk (Kd.R_ne HO517.out BK530.out (by decide)) | (rw [add_block]; exact Kd.own_blk (Kd.R_ne HO517.out BK530.out (by decide))) | (show (Addr.add _ _).block ≠ _; rw [add_block]; exact Kd.own_blk (Kd.R_ne HO517.out BK530.out (by decide))) | (dsimp only; exact Kd.own_blk (Kd.R_ne HO517.out BK530.out (by decide)))) _).trans (hHeld.2.1)))))))), ((cell_far (p := ⟨gb530, _, none⟩) (by first | exact Kd.own_blk (Kd.R_ne HO521.out BK530.out (by decide)) | (rw [add_block]; exact Kd.own_blk (Kd.R_ne HO521.out BK530.out (by decide))) | (show (Addr.add _ _).block ≠ _; rw [add_block]; exact Kd.own_blk (Kd.R_ne HO521.out BK530.out (by decide))) | (dsimp only; exact Kd.own_blk (Kd.R_ne HO521.out BK530.out (by decide)))) _).trans (((cell_far (p := ⟨gb530, _, none⟩) (by first | exact Kd.own_blk (Kd.R_ne HO521.out BK530.out (by decide)) | (rw [add_block]; exact Kd.own_blk (Kd.R_ne HO521.out BK530.out (by decide))) | (show (Addr.add _ _).block ≠ _; rw [add_block]; exact Kd.own_blk (Kd.R_ne HO521.out BK530.out (by decide))) | (dsimp only; exact Kd.own_blk (Kd.R_ne HO521.out BK530.out (by decide)))) _).trans (((cell_far (p := ⟨gb530, _, none⟩) (by first | exact Kd.own_blk (Kd.R_ne HO521.out BK530.out (by decide)) | (rw [add_block]; exact Kd.own_blk (Kd.R_ne HO521.out BK530.out (by decide))) | (show (Addr.add _ _).block ≠ _; rw [add_block]; exact Kd.own_blk (Kd.R_ne HO521.out BK530.out (by decide))) | (dsimp only; exact Kd.own_blk (Kd.R_ne HO521.out BK530.out (by decide)))) _).trans (((cell_far (p := ⟨gb530, _, none⟩) (by first | exact Kd.own_blk (Kd.R_ne HO521.out BK530.out (by decide)) | (rw [add_block]; exact Kd.own_blk (Kd.R_ne HO521.out BK530.out (by decide))) | (show (Addr.add _ _).block ≠ _; rw [add_block]; exact Kd.own_blk (Kd.R_ne HO521.out BK530.out (by decide))) | (dsimp only; exact Kd.own_blk (Kd.R_ne HO521.out BK530.out (by decide)))) _).trans (hHeld.2.2.1)))))))), ((cell_far (p := ⟨gb530, _, none⟩) (by first | exact Kd.own_blk (Kd.R_ne HO521.out BK530.out (by decide)) | (rw [add_block]; exact Kd.own_blk (Kd.R_ne HO521.out BK530.out (by decide))) | (show (Addr.add _ _).block ≠ _; rw [add_block]; exact Kd.own_blk (Kd.R_ne HO521.out BK530.out (by decide))) | (dsimp only; exact Kd.own_blk (Kd.R_ne HO521.out BK530.out (by decide)))) _).trans (((cell_far (p := ⟨gb530, _, none⟩) (by first | exact Kd.own_blk (Kd.R_ne HO521.out BK530.out (by decide)) | (rw [add_block]; exact Kd.own_blk (Kd.R_ne HO521.out BK530.out (by decide))) | (show (Addr.add _ _).block ≠ _; rw [add_block]; exact Kd.own_blk (Kd.R_ne HO521.out BK530.out (by decide))) | (dsimp only; exact Kd.own_blk (Kd.R_ne HO521.out BK530.out (by decide)))) _).trans (((cell_far (p := ⟨gb530, _, none⟩) (by first | exact Kd.own_blk (Kd.R_ne HO521.out BK530.out (by decide)) | (rw [add_block]; exact Kd.own_blk (Kd.R_ne HO521.out BK530.out (by decide))) | (show (Addr.add _ _).block ≠ _; rw [add_block]; exact Kd.own_blk (Kd.R_ne HO521.out BK530.out (by decide))) | (dsimp only; exact Kd.own_blk (Kd.R_ne HO521.out BK530.out (by decide)))) _).trans (((cell_far (p := ⟨gb530, _, none⟩) (by first | exact Kd.own_blk (Kd.R_ne HO521.out BK530.out (by decide)) | (rw [add_block]; exact Kd.own_blk (Kd.R_ne HO521.out BK530.out (by decide))) | (show (Addr.add _ _).block ≠ _; rw [add_block]; exact Kd.own_blk (Kd.R_ne HO521.out BK530.out (by decide))) | (dsimp only; exact Kd.own_blk (Kd.R_ne HO521.out BK530.out (by decide)))) _).trans (hHeld.2.2.2))))))))⟩ (fun hHeld => ?_)
             clear hK K
             refine done_ (done_of HT_.out (by kernel_rfl)) ?_
             have hnb55 := NB530_510.out; have hnc55 := NB510_530.out
             obtain ⟨_, _, _, _, _, _, _, _⟩ := zc4 BK530
             try go_wp2_with (first | ((with_reducible refine gate_callee (f := 35) rfl ?_); refine zG (some 53) Tryz.func35 #[.agg #[.int .i64 t523, .int .i64 t525, .int .i64 t527, .int .i64 t529]] ?_; (with_reducible refine (spec_htGood.calls kj2 t523 t525 t527 t529 false _ A24.out).mono ?_); rintro e w57 ⟨rfl, hb⟩; refine ⟨_, rfl, ?_⟩; have n0_ := Aside0.mk (Kd.R_below (by (with_reducible repeat (first | apply Kd.R_alloc | apply Kd.R_drewN | apply Kd.R_drew)); exact (Kd.R_mono (Kd.R_far (p := ⟨gb530, 3, none⟩) (Kd.R_far (p := ⟨gb530, 2, none⟩) (Kd.R_far (p := ⟨gb530, 1, none⟩) (Kd.R_far (p := ⟨gb530, 0, none⟩) (Kd.R_types HO_4.out BK530.out (by decide)) (fun _ hk => hk.2) (.int .i64 t523)) (fun _ hk => hk.2) (.int .i64 t525)) (fun _ hk => hk.2) (.int .i64 t527)) (fun _ hk => hk.2) (.int .i64 t529)) (fun _ h_ => h_.1))) hb); have n1_ := Aside0.mk (Kd.R_below (by (with_reducible repeat (first | apply Kd.R_alloc | apply Kd.R_drewN | apply Kd.R_drew)); exact (Kd.R_mono (Kd.R_far (p := ⟨gb530, 3, none⟩) (Kd.R_far (p := ⟨gb530, 2, none⟩) (Kd.R_far (p := ⟨gb530, 1, none⟩) (Kd.R_far (p := ⟨gb530, 0, none⟩) (Kd.R_types HO517.out BK530.out (by decide)) (fun _ hk => hk.2) (.int .i64 t523)) (fun _ hk => hk.2) (.int .i64 t525)) (fun _ hk => hk.2) (.int .i64 t527)) (fun _ hk => hk.2) (.int .i64 t529)) (fun _ h_ => h_.1))) hb); have n2_ := Aside0.mk (Kd.R_below (by (with_reducible repeat (first | apply Kd.R_alloc | apply Kd.R_drewN | apply Kd.R_drew)); exact (Kd.R_mono (Kd.R_far (p := ⟨gb530, 3, none⟩) (Kd.R_far (p := ⟨gb530, 2, none⟩) (Kd.R_far (p := ⟨gb530, 1, none⟩) (Kd.R_far (p := ⟨gb530, 0, none⟩) (Kd.R_types HO521.out BK530.out (by decide)) (fun _ hk => hk.2) (.int .i64 t523)) (fun _ hk => hk.2) (.int .i64 t525)) (fun _ hk => hk.2) (.int .i64 t527)) (fun _ hk => hk.2) (.int .i64 t529)) (fun _ h_ => h_.1))) hb); have n4_ := Aside0.mk (blk_below (g := gb530) (o := .cells #[.int .i64 t523, .int .i64 t525, .int .i64 t527, .int .i64 t529] 25 (0, 0)) (zw BK530) hb); replace BK510 := zb BK510 hb; replace HB := zh HB hb; clear HO_4; have HO_4 := n0_; clear n0_; clear HO517; have HO517 := n1_; clear n1_; clear HO521; have HO521 := n2_; clear n2_; clear BK530; have BK530 := n4_; clear n4_; clear hb; obtain ⟨_, _, _, _, _, _, _, _⟩ := zc4 BK510))
             refine bodyPost_ret (results_ct rfl _ _ gb510 25 #[.int .i64 0, .int .i64 0, .int .i64 0, .int .i64 0] (0, 0) _ rfl (zw BK510) Tryz.underlying25 rfl (by kernel_rfl)) rfl ?_
             exact ⟨zt, zy HB⟩
           ·rw [if_neg c22] at H
            exact absurd H zO2_7
          ·rw [if_neg c20] at H
           exact absurd H zO2_7
         ·rw [if_neg c18] at H
          exact absurd H zO2_7
        ·rw [if_neg c16] at H
         exact absurd H zO2_7
       ·rw [if_neg c15] at H
        have c15b0 : ((t519.length : Int) == 2) = false := beq_eq_false_iff_ne.mpr c15
        have c15b1 : ((t519.length : Int) != 2) = true := bne_iff_ne.mpr c15
        simp only [Option.some.injEq, Prod.mk.injEq] at H; obtain ⟨rfl, rfl, rfl, rfl, rfl⟩ := H
        obtain ⟨Ao59, co59, eo59⟩ := Kd.R_slice HO_4.out
        subst eo59
        have p514 : 0 ≤ (1 : Int) := zO2_6
        have q514 : 1 < (t511.length : Int) := of_decide_eq_true zO2_5
        obtain ⟨ad514, e514, hx514_0⟩ := Kd.at_string (Kd.R_reads' HO_4.out).2.2 1 p514 q514
        cases e514
        (try simp only [show (1 : Int).toNat = 1 from rfl, Nat.reduceMul, Nat.reduceEqDiff, Go.Addr.add, ↓reduceIte] at hx514_0)
        have qi514 : (1 < t511.length) = True := eq_true zO2_6
        (try rw [show ((1 : Int)).toNat = 1 from rfl] at hx514_0)
        replace p514 := eq_true p514; replace q514 := eq_true q514
        go_wp2_with (first | ((with_reducible refine gate_callee (f := 69) rfl ?_); refine zG (some 22) Tryz.func69 #[.string (rdOf ByteArray.empty t511 1), .int .u8 58] ?_; (with_reducible refine (spec_l1Split.calls kj2 (rdOf ByteArray.empty t511 1) 58 t515 _ A11.out).mono ?_); rintro e w60 ⟨v516, rfl, ho0, hb⟩; refine ⟨_, rfl, ?_⟩; have n0_ := Aside0.mk (Kd.R_elder' (zs HO_4) (Kd.R_base ho0) hb); have HO517 := Aside0.mk (Kd.R_lower (Kd.R_new' ho0 (Kd.R_lt (zs HO_4))) (below_size (zy HB))); replace BK510 := zb BK510 hb; replace HB := zh HB hb; clear HO_4; have HO_4 := n0_; clear n0_; clear hb ho0; obtain ⟨Ao61, co61, eo61⟩ := Kd.R_slice HO517.out; subst eo61; have p518 : 0 ≤ (1 : Int) := zO2_6; have q518 : 1 < (t515.length : Int) := of_decide_eq_true zO2_5; obtain ⟨ad518, e518, hx518_0⟩ := Kd.at_string (Kd.R_reads' HO517.out).2.2 1 p518 q518; cases e518; (try simp only [show (1 : Int).toNat = 1 from rfl, Nat.reduceMul, Nat.reduceEqDiff, Go.Addr.add, ↓reduceIte] at hx518_0); have qi518 : (1 < t515.length) = True := eq_true zO2_6; (try rw [show ((1 : Int)).toNat = 1 from rfl] at hx518_0); replace p518 := eq_true p518; replace q518 := eq_true q518) | ((with_reducible refine gate_callee (f := 69) rfl ?_); refine zG (some 30) Tryz.func69 #[.string (rdOf ByteArray.empty t515 1), .int .u8 47] ?_; (with_reducible refine (spec_l1Split.calls kj2 (rdOf ByteArray.empty t515 1) 47 t519 _ A14.out).mono ?_); rintro e w62 ⟨v520, rfl, ho0, hb⟩; refine ⟨_, rfl, ?_⟩; have n0_ := Aside0.mk (Kd.R_elder' (zs HO_4) (Kd.R_base ho0) hb); have n1_ := Aside0.mk (Kd.R_elder' (zs HO517) (Kd.R_base ho0) hb); have HO521 := Aside0.mk (Kd.R_lower (Kd.R_new' (Kd.R_new' ho0 (Kd.R_lt (zs HO_4))) (Kd.R_lt (zs HO517))) (below_size (zy HB))); replace BK510 := zb BK510 hb; replace HB := zh HB hb; clear HO_4; have HO_4 := n0_; clear n0_; clear HO517; have HO517 := n1_; clear n1_; clear hb ho0; obtain ⟨Ao63, co63, eo63⟩ := Kd.R_slice HO521.out; subst eo63; obtain ⟨_, _, _, _, _, _, _, _⟩ := zc4 BK510))
        refine bodyPost_ret (results_ct rfl _ _ gb510 25 #[.int .i64 0, .int .i64 0, .int .i64 0, .int .i64 0] (0, 0) _ rfl (zw BK510) Tryz.underlying25 rfl (by kernel_rfl)) rfl ?_
        exact ⟨zt, zy HB⟩
      ·rw [if_neg c13] at H
       exact absurd H zO2_7
     ·rw [if_neg c12] at H
      have c12b0 : ((t515.length : Int) == 2) = false := beq_eq_false_iff_ne.mpr c12
      have c12b1 : ((t515.length : Int) != 2) = true := bne_iff_ne.mpr c12
      simp only [Option.some.injEq, Prod.mk.injEq] at H; obtain ⟨rfl, rfl, rfl, rfl, rfl⟩ := H
      obtain ⟨Ao65, co65, eo65⟩ := Kd.R_slice HO_4.out
      subst eo65
      have p514 : 0 ≤ (1 : Int) := zO2_6
      have q514 : 1 < (t511.length : Int) := of_decide_eq_true zO2_5
      obtain ⟨ad514, e514, hx514_0⟩ := Kd.at_string (Kd.R_reads' HO_4.out).2.2 1 p514 q514
      cases e514
      (try simp only [show (1 : Int).toNat = 1 from rfl, Nat.reduceMul, Nat.reduceEqDiff, Go.Addr.add, ↓reduceIte] at hx514_0)
      have qi514 : (1 < t511.length) = True := eq_true zO2_6
      (try rw [show ((1 : Int)).toNat = 1 from rfl] at hx514_0)
      replace p514 := eq_true p514; replace q514 := eq_true q514
      go_wp2_with (first | ((with_reducible refine gate_callee (f := 69) rfl ?_); refine zG (some 22) Tryz.func69 #[.string (rdOf ByteArray.empty t511 1), .int .u8 58] ?_; (with_reducible refine (spec_l1Split.calls kj2 (rdOf ByteArray.empty t511 1) 58 t515 _ A11.out).mono ?_); rintro e w66 ⟨v516, rfl, ho0, hb⟩; refine ⟨_, rfl, ?_⟩; have n0_ := Aside0.mk (Kd.R_elder' (zs HO_4) (Kd.R_base ho0) hb); have HO517 := Aside0.mk (Kd.R_lower (Kd.R_new' ho0 (Kd.R_lt (zs HO_4))) (below_size (zy HB))); replace BK510 := zb BK510 hb; replace HB := zh HB hb; clear HO_4; have HO_4 := n0_; clear n0_; clear hb ho0; obtain ⟨Ao67, co67, eo67⟩ := Kd.R_slice HO517.out; subst eo67; obtain ⟨_, _, _, _, _, _, _, _⟩ := zc4 BK510))
      refine bodyPost_ret (results_ct rfl _ _ gb510 25 #[.int .i64 0, .int .i64 0, .int .i64 0, .int .i64 0] (0, 0) _ rfl (zw BK510) Tryz.underlying25 rfl (by kernel_rfl)) rfl ?_
      exact ⟨zt, zy HB⟩
    ·rw [if_neg c10] at H
     exact absurd H zO2_7


/-! ### spec_ParseIsland: function 31 -/
def spec_ParseIsland.f (k : Nat) (a0 : ByteArray) : Option (Int × Int × Int × Int × Bool) := (spec_htParse.f k a0).bind fun bt533 => (some (bt533.1, bt533.2.1, bt533.2.2.1, bt533.2.2.2.1, bt533.2.2.2.2))
set_option maxHeartbeats 8000000 in
set_option maxRecDepth 100000 in
theorem spec_ParseIsland.calls (k : Nat) (a0 : ByteArray) (r1 : Int) (r2 : Int) (r3 : Int) (r4 : Int) (r5 : Bool) (w : World) (h : spec_ParseIsland.f k a0 = some (r1, r2, r3, r4, r5)) :
  Calls Tryz.prog 31 #[.string a0] w fun e w' => e = .returned (.tuple #[.agg #[.int .i64 r1, .int .i64 r2, .int .i64 r3, .int .i64 r4], .bool r5]) ∧ Below w.heap.size w w' := by
 have hu25 := Tryz.underlying25
 have HB := Aside0.mk (Below.refl w.heap.size w)
 have H : ((spec_htParse.f k a0).bind fun bt533 => (some (bt533.1, bt533.2.1, bt533.2.2.1, bt533.2.2.2.1, bt533.2.2.2.2))) = some (r1, r2, r3, r4, r5) := h
 clear h; replace H := Option.bind_eq_some_iff.mp H; obtain ⟨⟨t533, t534, t535, t536, t537⟩, A20, H⟩ := H
 replace H : (some (t533, t534, t535, t536, t537)) = some (r1, r2, r3, r4, r5) := H
 have A2 := Aside0.mk A20; clear A20; simp only [Option.some.injEq, Prod.mk.injEq] at H; obtain ⟨rfl, rfl, rfl, rfl, rfl⟩ := H
 go_enter Tryz.func31, Tryz.ntmps31
 go_wp2_with (first | ((with_reducible refine gate_dst (N := 2) rfl ?_); refine zE 2 #[.int .i64 0, .int .i64 0, .int .i64 0, .int .i64 0] 25 ?_; intro gb532 hg w3 hbox hb; have BK532 := Aside0.mk (hbox); have GW532 := zg HB hg; have GE532 := GW532; replace HB := zh HB hb; clear hb hbox hg) | ((with_reducible refine gate_callee (f := 55) rfl ?_); refine zG (some 5) Tryz.func55 #[.string a0] ?_; (with_reducible refine (spec_htParse.calls k a0 t533 t534 t535 t536 t537 _ A2.out).mono ?_); rintro e w4 ⟨rfl, hb⟩; refine ⟨_, rfl, ?_⟩; replace BK532 := zb BK532 hb; replace HB := zh HB hb; clear hb; obtain ⟨_, _, _, _, _, _, _, _⟩ := zc4 BK532))
 refine bodyPost_ret (results_ct rfl _ _ gb532 25 #[.int .i64 t533, .int .i64 t534, .int .i64 t535, .int .i64 t536] (0, 0) _ rfl (zw BK532) Tryz.underlying25 rfl (by kernel_rfl)) rfl ?_
 exact ⟨zt, zy HB⟩

end Go.Proofs.YtakodhlaphloeaaGreatDoor.P
