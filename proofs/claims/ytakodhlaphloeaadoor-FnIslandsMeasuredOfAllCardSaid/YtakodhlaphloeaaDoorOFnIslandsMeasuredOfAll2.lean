/- The law FnIslandsMeasuredOfAll is proved: a call of it returns true and leaves its arguments as they were; and what this needs. Every input that the given rows speak of; nothing else is asked. -/
import Derived.Test.YtakodhlaphloeaaDoorOFnIslandsMeasuredOfAll0
import Derived.Test.YtakodhlaphloeaaDoorOFnIslandsMeasuredOfAll1
namespace Go.Proofs.YtakodhlaphloeaaDoor.P
open Go.RowKit Go.Proofs.YtakodhlaphloeaaDoorW.PrintWords Go.Proofs.YtakodhlaphloeaaDoorW.PrintLast Go.Proofs.YtakodhlaphloeaaDoorW.PrintMore
set_option linter.unusedVariables false
theorem zO2_0 {p : Prop} (h : p := by first | (simp only [putAll, Act.put, List.setIfInBounds_toArray, List.set_cons_zero, List.set_cons_succ]; done) | (simp only [putAll, Act.put, List.setIfInBounds_toArray, List.set_cons_zero, List.set_cons_succ]; rfl)) : p := h
theorem zO2_1 {p : Prop} (h : p := by (with_reducible repeat (first | apply Kd.R_alloc | apply Kd.R_drewN | apply Kd.R_drew)); exact Kd.R_mono HO359.out (fun _ hk => ⟨hk.2, hk.1.2⟩)) : p := h
theorem zO2_2 {p : Prop} (h : p := by (with_reducible repeat (first | apply Kd.R_alloc | apply Kd.R_drewN | apply Kd.R_drew)); exact Kd.R_mono HO363.out (fun _ hk => ⟨hk.2, hk.1.2⟩)) : p := h
theorem zO2_3 {p : Prop} (h : p := by (with_reducible repeat (first | apply Kd.R_alloc | apply Kd.R_drewN | apply Kd.R_drew)); exact Kd.R_mono HO_4.out (fun _ hk => ⟨hk.1.2, hk.2⟩)) : p := h
theorem zO2_4 {p : Prop} (h : p := by (try simp only [List.map_toArray, List.map_cons, List.map_nil]); first | done | rfl | (simp only [List.length_drop, List.length_take]; rfl)) : p := h
theorem zO2_5 {p : Prop} (h : p := by first | (with_reducible assumption) | assumption) : p := h
theorem zO2_6 {p : Prop} (h : p := by omega) : p := h
end Go.Proofs.YtakodhlaphloeaaDoor.P
namespace Go.Proofs.YtakodhlaphloeaaDoor.P
open Go.RowKit Go.Proofs.YtakodhlaphloeaaDoorW.PrintWords Go.Proofs.YtakodhlaphloeaaDoorW.PrintLast Go.Proofs.YtakodhlaphloeaaDoorW.PrintMore
attribute [local go_sem] max2_int min2_int max_two min_two max_three min_three max_four min_four   -- for this text's walks alone
set_option linter.unusedVariables false
set_option linter.unusedSimpArgs false

/-! ### spec_htParse: function 41 -/
def spec_htParse.j0 : Nat → List ByteArray → Bool → Option (Int × Int × Int × Int × Bool)
 | 0, _, _ => none
 | k + 1, x4, x17 => if x17 = true then (some (0, 0, 0, 0, false)) else (if 1 < (x4.length : Int) then ((spec_l1Split.f k (rdOf ByteArray.empty x4 1) 58).bind fun t357 => (if (t357.length : Int) = 2 then (if 1 < (t357.length : Int) then ((spec_l1Split.f k (rdOf ByteArray.empty t357 1) 47).bind fun t361 => (if (t361.length : Int) = 2 then (if 0 < (x4.length : Int) then ((spec_l1Read.f k (rdOf ByteArray.empty x4 0)).bind fun t365 => (if 0 < (t357.length : Int) then ((spec_l1Read.f k (rdOf ByteArray.empty t357 0)).bind fun t367 => (if 0 < (t361.length : Int) then ((spec_l1Read.f k (rdOf ByteArray.empty t361 0)).bind fun t369 => (if 1 < (t361.length : Int) then ((spec_l1Read.f k (rdOf ByteArray.empty t361 1)).bind fun t371 => ((spec_htGood.f k t365 t367 t369 t371).bind fun t373 => (if t373 = true then (some (t365, t367, t369, t371, true)) else (some (0, 0, 0, 0, false))))) else (none))) else (none))) else (none))) else (none)) else (some (0, 0, 0, 0, false)))) else (none)) else (some (0, 0, 0, 0, false)))) else (none))
def spec_htParse.f (k : Nat) (a0 : ByteArray) : Option (Int × Int × Int × Int × Bool) := (spec_l1Split.f k a0 124).bind fun t353 => (if (a0.size : Int) > 18 then (spec_htParse.j0 k t353 true) else (spec_htParse.j0 k t353 ((t353.length : Int) != 2)))
def spec_htParse.T10 : Bool × List (List Nat × List Nat) := (true, [([], []), ([0], [0]), ([1], [1]), ([2], [2]), ([], []), ([4], [4]), ([5], [5]), ([6, 3], [6]), ([], []), ([8], [8]), ([9], [9]), ([10, 7], [10]), ([], []), ([12], [12]), ([13], [13]), ([14, 11], [14]), ([3, 7, 11, 15], [3, 7, 11, 15]), ([], []), ([17, 16, 15, 0, 1, 2, 3, 4, 5, 6, 7, 8, 9, 10, 11, 12, 13, 14, 15, 16, 17], [16, 17])])
def spec_htParse.B10 : List Nat := [0, 1, 3, 7, 0, 16, 48, 127, 0, 256, 768, 2047, 0, 4096, 12288, 32767, 65535, 0, 262143]
theorem spec_htParse.tab10 : rtab .any (opsOf Tryd.f41 10) = spec_htParse.T10 := by kernel_rfl
theorem spec_htParse.bits10 : waitsOk spec_htParse.T10.2 spec_htParse.B10 = true := by kernel_rfl
set_option maxHeartbeats 8000000 in
set_option maxRecDepth 100000 in
theorem spec_htParse.calls (k : Nat) (a0 : ByteArray) (r1 : Int) (r2 : Int) (r3 : Int) (r4 : Int) (r5 : Bool) (w : World) (h : spec_htParse.f k a0 = some (r1, r2, r3, r4, r5)) :
  Calls Tryd.prog 41 #[.string a0] w fun e w' => e = .returned (.tuple #[.agg #[.int .i64 r1, .int .i64 r2, .int .i64 r3, .int .i64 r4], .bool r5]) ∧ Below w.heap.size w w' := by
 have hu23 := Tryd.underlying23
 have HB := Aside0.mk (Below.refl w.heap.size w)
 have H : ((spec_l1Split.f k a0 124).bind fun t353 => (if (a0.size : Int) > 18 then (spec_htParse.j0 k t353 true) else (spec_htParse.j0 k t353 ((t353.length : Int) != 2)))) = some (r1, r2, r3, r4, r5) := h
 clear h; replace H := Option.bind_eq_some_iff.mp H; obtain ⟨t353, A20, H⟩ := H
 replace H : (if (a0.size : Int) > 18 then (spec_htParse.j0 k t353 true) else (spec_htParse.j0 k t353 ((t353.length : Int) != 2))) = some (r1, r2, r3, r4, r5) := H
 have A2 := Aside0.mk A20; clear A20; have HC3 := Aside0.mk H; clear H
 go_enter Tryd.func41, Tryd.ntmps41
 go_upto_region 2 with (first | ((with_reducible refine gate_dst (N := 2) rfl ?_); (try (refine gate_guard (by rfl) ?_; dsimp only)); refine zE 2 #[.int .i64 0, .int .i64 0, .int .i64 0, .int .i64 0] 23 ?_; intro gb352 hg w4 hbox hb; have BK352 := Aside0.mk (hbox); have GW352 := zg HB hg; have GE352 := GW352; replace HB := zh HB hb; clear hb hbox hg) | ((with_reducible refine gate_callee (f := 54) rfl ?_); refine zG (some 9) Tryd.func54 #[.string a0, .int .u8 124] ?_; (with_reducible refine (spec_l1Split.calls k a0 124 t353 _ A2.out).mono ?_); rintro e w5 ⟨v354, rfl, ho0, hb⟩; refine ⟨_, rfl, ?_⟩; have HO355 := Aside0.mk (Kd.R_lower ho0 (below_size (zy HB))); replace BK352 := zb BK352 hb; replace HB := zh HB hb; clear hb ho0))
 (try simp only [Act.put, List.setIfInBounds_toArray, List.set_cons_zero, List.set_cons_succ])
 go_cut [17] (fun v17 wc => ∃ (kq : Nat) (x17_2 : Bool), v17 = .bool x17_2 ∧ Aside0 (spec_htParse.j0 kq t353 x17_2 = some (r1, r2, r3, r4, r5)) ∧ Aside0 (kq ≤ k) ∧ Aside0 (Kd.R Kd.string 9 wc w.heap.size (fun _ => True) v354 t353) ∧ Aside0 (wc.heap[gb352]? = some (.cells #[.int .i64 0, .int .i64 0, .int .i64 0, .int .i64 0] 23 (0, 0))) ∧ Aside0 (Below w.heap.size w wc))
 case first =>
  have H := HC3.out; clear HC3
  by_cases c6 : (a0.size : Int) > 18
  ·rw [if_pos c6] at H
   have c6b0 : decide (18 < (a0.size : Int)) = true := decide_eq_true c6
   have c6b1 : decide (18 < a0.size) = true := decide_eq_true zO2_6
   clear c6
   (first | rw [c6b0] | (simp only [i64_w, i32_w]; rw [c6b0]) | skip)
   have H' := Aside0.mk H; clear H
   go_wp2
   go_meet
   case rel => exact ⟨_, (true), zu, H', ⟨by first | omega | exact Nat.le_refl _⟩, zp HO355, zk BK352, ⟨zy HB⟩⟩
  ·rw [if_neg c6] at H
   have c6b0 : decide (18 < (a0.size : Int)) = false := decide_eq_false c6
   have c6b1 : decide (18 < a0.size) = false := decide_eq_false zO2_6
   clear c6
   (first | rw [c6b0] | (simp only [i64_w, i32_w]; rw [c6b0]) | skip)
   have H' := Aside0.mk H; clear H
   obtain ⟨Ao7, co7, eo7⟩ := Kd.R_slice HO355.out
   subst eo7
   go_wp2
   go_meet
   case rel => exact ⟨_, (((t353.length : Int) != 2)), zu, H', ⟨by first | omega | exact Nat.le_refl _⟩, zp HO355, zk BK352, ⟨zy HB⟩⟩
 case rest =>
  clear HC3
  obtain ⟨kq, x17_2, rfl, HA, HJ2, HO_4, BK352, HB⟩ := hcut
  cases kq with
  | zero => exact absurd HA.out (by simp [spec_htParse.j0])
  | succ kj2 =>
   have H := HA.out; clear HA; simp only [spec_htParse.j0] at H
   by_cases c8 : x17_2 = true
   ·subst c8
    rw [if_pos rfl] at H; simp only [Option.some.injEq, Prod.mk.injEq] at H; obtain ⟨rfl, rfl, rfl, rfl, rfl⟩ := H
    obtain ⟨_, _, _, _, _, _, _, _⟩ := zc4 BK352
    go_wp2
    refine bodyPost_ret (results_ct rfl _ _ gb352 23 #[.int .i64 0, .int .i64 0, .int .i64 0, .int .i64 0] (0, 0) _ rfl (zw BK352) Tryd.underlying23 rfl (by kernel_rfl)) rfl ?_
    exact ⟨zt, zy HB⟩
   ·replace c8 := Bool.eq_false_iff.mpr c8
    subst c8; rw [if_neg (show ¬ (false = true) by decide)] at H
    by_cases c10 : 1 < (t353.length : Int)
    ·rw [if_pos c10] at H
     have c10b0 : decide (1 < (t353.length : Int)) = true := decide_eq_true c10
     have c10b1 : decide (1 < t353.length) = true := decide_eq_true zO2_6
     clear c10; replace H := Option.bind_eq_some_iff.mp H; obtain ⟨t357, A110, H⟩ := H; (try dsimp only at H); have A11 := Aside0.mk A110; clear A110
     by_cases c12 : (t357.length : Int) = 2
     ·rw [if_pos c12] at H
      have c12b0 : ((t357.length : Int) == 2) = true := beq_iff_eq.mpr c12
      have c12b1 : ((t357.length : Int) != 2) = false := bne_eq_false_iff_eq.mpr c12
      clear c12
      by_cases c13 : 1 < (t357.length : Int)
      ·rw [if_pos c13] at H
       have c13b0 : decide (1 < (t357.length : Int)) = true := decide_eq_true c13
       have c13b1 : decide (1 < t357.length) = true := decide_eq_true zO2_6
       clear c13; replace H := Option.bind_eq_some_iff.mp H; obtain ⟨t361, A140, H⟩ := H; (try dsimp only at H); have A14 := Aside0.mk A140; clear A140
       by_cases c15 : (t361.length : Int) = 2
       ·rw [if_pos c15] at H
        have c15b0 : ((t361.length : Int) == 2) = true := beq_iff_eq.mpr c15
        have c15b1 : ((t361.length : Int) != 2) = false := bne_eq_false_iff_eq.mpr c15
        clear c15
        by_cases c16 : 0 < (t353.length : Int)
        ·rw [if_pos c16] at H
         have c16b0 : decide (0 < (t353.length : Int)) = true := decide_eq_true c16
         have c16b1 : decide (0 < t353.length) = true := decide_eq_true zO2_6
         clear c16; replace H := Option.bind_eq_some_iff.mp H; obtain ⟨t365, A170, H⟩ := H; (try dsimp only at H); have A17 := Aside0.mk A170; clear A170
         by_cases c18 : 0 < (t357.length : Int)
         ·rw [if_pos c18] at H
          have c18b0 : decide (0 < (t357.length : Int)) = true := decide_eq_true c18
          have c18b1 : decide (0 < t357.length) = true := decide_eq_true zO2_6
          clear c18; replace H := Option.bind_eq_some_iff.mp H; obtain ⟨t367, A190, H⟩ := H; (try dsimp only at H); have A19 := Aside0.mk A190; clear A190
          by_cases c20 : 0 < (t361.length : Int)
          ·rw [if_pos c20] at H
           have c20b0 : decide (0 < (t361.length : Int)) = true := decide_eq_true c20
           have c20b1 : decide (0 < t361.length) = true := decide_eq_true zO2_6
           clear c20; replace H := Option.bind_eq_some_iff.mp H; obtain ⟨t369, A210, H⟩ := H; (try dsimp only at H); have A21 := Aside0.mk A210; clear A210
           by_cases c22 : 1 < (t361.length : Int)
           ·rw [if_pos c22] at H
            have c22b0 : decide (1 < (t361.length : Int)) = true := decide_eq_true c22
            have c22b1 : decide (1 < t361.length) = true := decide_eq_true zO2_6
            clear c22; replace H := Option.bind_eq_some_iff.mp H; obtain ⟨t371, A230, H⟩ := H; (try dsimp only at H); have A23 := Aside0.mk A230; clear A230; replace H := Option.bind_eq_some_iff.mp H; obtain ⟨t373, A240, H⟩ := H
            replace H : (if t373 = true then (some (t365, t367, t369, t371, true)) else (some (0, 0, 0, 0, false))) = some (r1, r2, r3, r4, r5) := H
            have A24 := Aside0.mk A240; clear A240
            by_cases c25 : t373 = true
            ·subst c25
             rw [if_pos rfl] at H; simp only [Option.some.injEq, Prod.mk.injEq] at H; obtain ⟨rfl, rfl, rfl, rfl, rfl⟩ := H
             obtain ⟨Ao26, co26, eo26⟩ := Kd.R_slice HO_4.out
             subst eo26
             have p356 : 0 ≤ (1 : Int) := zO2_6
             have q356 : 1 < (t353.length : Int) := of_decide_eq_true zO2_5
             obtain ⟨ad356, e356, hx356_0⟩ := Kd.at_string (Kd.R_reads' HO_4.out).2.2 1 p356 q356
             cases e356
             (try simp only [show (1 : Int).toNat = 1 from rfl, Nat.reduceMul, Nat.reduceEqDiff, Go.Addr.add, ↓reduceIte] at hx356_0)
             have qi356 : (1 < t353.length) = True := eq_true zO2_6
             (try rw [show ((1 : Int)).toNat = 1 from rfl] at hx356_0)
             replace p356 := eq_true p356; replace q356 := eq_true q356
             try go_wp2_with (first | ((with_reducible refine gate_callee (f := 54) rfl ?_); refine zG (some 22) Tryd.func54 #[.string (rdOf ByteArray.empty t353 1), .int .u8 58] ?_; (with_reducible refine (spec_l1Split.calls kj2 (rdOf ByteArray.empty t353 1) 58 t357 _ A11.out).mono ?_); rintro e w27 ⟨v358, rfl, ho0, hb⟩; refine ⟨_, rfl, ?_⟩; have n0_ := Aside0.mk (Kd.R_elder' (zs HO_4) (Kd.R_base ho0) hb); have HO359 := Aside0.mk (Kd.R_lower (Kd.R_new' ho0 (Kd.R_lt (zs HO_4))) (below_size (zy HB))); replace BK352 := zb BK352 hb; replace HB := zh HB hb; clear HO_4; have HO_4 := n0_; clear n0_; clear hb ho0; obtain ⟨Ao28, co28, eo28⟩ := Kd.R_slice HO359.out; subst eo28; have p360 : 0 ≤ (1 : Int) := zO2_6; have q360 : 1 < (t357.length : Int) := of_decide_eq_true zO2_5; obtain ⟨ad360, e360, hx360_0⟩ := Kd.at_string (Kd.R_reads' HO359.out).2.2 1 p360 q360; cases e360; (try simp only [show (1 : Int).toNat = 1 from rfl, Nat.reduceMul, Nat.reduceEqDiff, Go.Addr.add, ↓reduceIte] at hx360_0); have qi360 : (1 < t357.length) = True := eq_true zO2_6; (try rw [show ((1 : Int)).toNat = 1 from rfl] at hx360_0); replace p360 := eq_true p360; replace q360 := eq_true q360) | ((with_reducible refine gate_callee (f := 54) rfl ?_); refine zG (some 30) Tryd.func54 #[.string (rdOf ByteArray.empty t357 1), .int .u8 47] ?_; (with_reducible refine (spec_l1Split.calls kj2 (rdOf ByteArray.empty t357 1) 47 t361 _ A14.out).mono ?_); rintro e w29 ⟨v362, rfl, ho0, hb⟩; refine ⟨_, rfl, ?_⟩; have n0_ := Aside0.mk (Kd.R_elder' (zs HO_4) (Kd.R_base ho0) hb); have n1_ := Aside0.mk (Kd.R_elder' (zs HO359) (Kd.R_base ho0) hb); have HO363 := Aside0.mk (Kd.R_lower (Kd.R_new' (Kd.R_new' ho0 (Kd.R_lt (zs HO_4))) (Kd.R_lt (zs HO359))) (below_size (zy HB))); replace BK352 := zb BK352 hb; replace HB := zh HB hb; clear HO_4; have HO_4 := n0_; clear n0_; clear HO359; have HO359 := n1_; clear n1_; clear hb ho0; obtain ⟨Ao30, co30, eo30⟩ := Kd.R_slice HO363.out; subst eo30))
             replace HO_4 := Aside0.mk (Kd.R_drew HO_4.out); replace HO359 := Aside0.mk (Kd.R_drew HO359.out); replace HO363 := Aside0.mk (Kd.R_drew HO363.out); replace BK352 := Aside0.mk (blk_drew BK352.out); replace HB := Aside0.mk (below_drew1 HB.out)
             have p364 : 0 ≤ (0 : Int) := zO2_6
             have q364 : 0 < (t353.length : Int) := of_decide_eq_true zO2_5
             obtain ⟨ad364, e364, hx364_0⟩ := Kd.at_string (Kd.R_reads' HO_4.out).2.2 0 p364 q364
             obtain rfl : ad356 = ad364 := (by injection e364)
             have qi364 : (0 < t353.length) = True := eq_true zO2_6
             (try rw [show ((0 : Int)).toNat = 0 from rfl] at hx364_0)
             (try rw [Addr.add_zero'] at hx364_0)
             replace p364 := eq_true p364; replace q364 := eq_true q364
             have p366 : 0 ≤ (0 : Int) := zO2_6
             have q366 : 0 < (t357.length : Int) := of_decide_eq_true zO2_5
             obtain ⟨ad366, e366, hx366_0⟩ := Kd.at_string (Kd.R_reads' HO359.out).2.2 0 p366 q366
             obtain rfl : ad360 = ad366 := (by injection e366)
             have qi366 : (0 < t357.length) = True := eq_true zO2_6
             (try rw [show ((0 : Int)).toNat = 0 from rfl] at hx366_0)
             (try rw [Addr.add_zero'] at hx366_0)
             replace p366 := eq_true p366; replace q366 := eq_true q366
             have p368 : 0 ≤ (0 : Int) := zO2_6
             have q368 : 0 < (t361.length : Int) := of_decide_eq_true zO2_5
             obtain ⟨ad368, e368, hx368_0⟩ := Kd.at_string (Kd.R_reads' HO363.out).2.2 0 p368 q368
             cases e368
             have qi368 : (0 < t361.length) = True := eq_true zO2_6
             (try rw [show ((0 : Int)).toNat = 0 from rfl] at hx368_0)
             (try rw [Addr.add_zero'] at hx368_0)
             replace p368 := eq_true p368; replace q368 := eq_true q368
             have p370 : 0 ≤ (1 : Int) := zO2_6
             have q370 : 1 < (t361.length : Int) := of_decide_eq_true zO2_5
             obtain ⟨ad370, e370, hx370_0⟩ := Kd.at_string (Kd.R_reads' HO363.out).2.2 1 p370 q370
             obtain rfl : ad368 = ad370 := (by injection e370)
             (try simp only [show (1 : Int).toNat = 1 from rfl, Nat.reduceMul, Nat.reduceEqDiff, Go.Addr.add, ↓reduceIte] at hx370_0)
             have qi370 : (1 < t361.length) = True := eq_true zO2_6
             (try rw [show ((1 : Int)).toNat = 1 from rfl] at hx370_0)
             replace p370 := eq_true p370; replace q370 := eq_true q370
             refine start_ (n := 19) (S := fun w' => w'.cell? ad356 = some (.string (rdOf ByteArray.empty t353 0)) ∧ w'.cell? ad360 = some (.string (rdOf ByteArray.empty t357 0)) ∧ w'.cell? ad368 = some (.string (rdOf ByteArray.empty t361 0)) ∧ w'.cell? ⟨ad368.block, ad368.off + 1, none⟩ = some (.string (rdOf ByteArray.empty t361 1))) (ds := []) #[false, false, false, false, false, false, false, false, false, false, false, false, false, false, false, false, false, false, false] (by kernel_rfl) rfl rfl ⟨hx364_0, hx366_0, hx368_0, hx370_0⟩ (fun hHeld => ?_); refine with_tabW spec_htParse.tab10 spec_htParse.bits10 (fun HT_ HW_ => ?_)
             generalize w29.drew = w31 at HO_4 HO359 HO363 BK352 HB hx364_0 hx366_0 hx368_0 hx370_0 hHeld ⊢
             refine zA 0 35 HT_ ?_
             refine zA 1 36 HT_ ?_
             refine zA 4 39 HT_ ?_
             refine zA 5 40 HT_ ?_
             refine zA 8 43 HT_ ?_
             refine zA 9 44 HT_ ?_
             refine zA 12 47 HT_ ?_
             refine zA 13 48 HT_ ?_
             refine zT 2 37 HT_ HW_ hHeld ?_
             refine zT 6 41 HT_ HW_ hHeld ?_
             refine zT 10 45 HT_ HW_ hHeld ?_
             refine zT 14 49 HT_ HW_ hHeld ?_
             refine join_ (σ := Nat) 1 #[true, true, true, true, true, true, true, true, true, true, true, true, true, true, true, true, true, true, false] (fun s_ => [(38, .int .i64 t365), (42, .int .i64 t367), (46, .int .i64 t369), (50, .int .i64 t371), (7, .pointer (some ⟨s_, 0, none⟩)), (51, .agg #[.int .i64 t365, .int .i64 t367, .int .i64 t369, .int .i64 t371])]) (fun s_ w' => (w'.cell? ad356 = some (.string (rdOf ByteArray.empty t353 0)) ∧ w'.cell? ad360 = some (.string (rdOf ByteArray.empty t357 0)) ∧ w'.cell? ad368 = some (.string (rdOf ByteArray.empty t361 0)) ∧ w'.cell? ⟨ad368.block, ad368.off + 1, none⟩ = some (.string (rdOf ByteArray.empty t361 1))) ∧ (Kd.R Kd.string 9 w' w.heap.size (fun k_ => some k_ ≠ (.slice (some ad368) t361.length co30 : Value).ownBlock ∧ some k_ ≠ (.slice (some ad356) t353.length co26 : Value).ownBlock) (.slice (some ad360) t357.length co28) t357) ∧ (Kd.R Kd.string 9 w' w.heap.size (fun k_ => some k_ ≠ (.slice (some ad360) t357.length co28 : Value).ownBlock ∧ some k_ ≠ (.slice (some ad356) t353.length co26 : Value).ownBlock) (.slice (some ad368) t361.length co30) t361) ∧ (Kd.R Kd.string 9 w' w.heap.size (fun k_ => some k_ ≠ (.slice (some ad360) t357.length co28 : Value).ownBlock ∧ some k_ ≠ (.slice (some ad368) t361.length co30 : Value).ownBlock) (.slice (some ad356) t353.length co26) t353) ∧ (w'.heap[gb352]? = some (.cells #[.int .i64 0, .int .i64 0, .int .i64 0, .int .i64 0] 23 (0, 0))) ∧ (w'.heap[s_]? = some (.cells #[.int .i64 0, .int .i64 0, .int .i64 0, .int .i64 0] 23 (0, 0))) ∧ (w.heap.size ≤ s_) ∧ (w.heap.size ≤ s_) ∧ (gb352 ≠ s_) ∧ (s_ ≠ gb352) ∧ (Below w.heap.size w w')) ?_ ?_
             rotate_left
             ·intro hJ3_7_11_15_17
              refine join_ (σ := Unit) 2 #[true, true, true, true, true, true, true, true, true, true, true, true, true, true, true, true, true, false, false] (fun s_ => [(38, .int .i64 t365), (42, .int .i64 t367), (46, .int .i64 t369), (50, .int .i64 t371), (51, .agg #[.int .i64 t365, .int .i64 t367, .int .i64 t369, .int .i64 t371])]) (fun s_ w' => (w'.cell? ad356 = some (.string (rdOf ByteArray.empty t353 0)) ∧ w'.cell? ad360 = some (.string (rdOf ByteArray.empty t357 0)) ∧ w'.cell? ad368 = some (.string (rdOf ByteArray.empty t361 0)) ∧ w'.cell? ⟨ad368.block, ad368.off + 1, none⟩ = some (.string (rdOf ByteArray.empty t361 1))) ∧ (Kd.R Kd.string 9 w' w.heap.size (fun k_ => some k_ ≠ (.slice (some ad368) t361.length co30 : Value).ownBlock ∧ some k_ ≠ (.slice (some ad356) t353.length co26 : Value).ownBlock) (.slice (some ad360) t357.length co28) t357) ∧ (Kd.R Kd.string 9 w' w.heap.size (fun k_ => some k_ ≠ (.slice (some ad360) t357.length co28 : Value).ownBlock ∧ some k_ ≠ (.slice (some ad356) t353.length co26 : Value).ownBlock) (.slice (some ad368) t361.length co30) t361) ∧ (Kd.R Kd.string 9 w' w.heap.size (fun k_ => some k_ ≠ (.slice (some ad360) t357.length co28 : Value).ownBlock ∧ some k_ ≠ (.slice (some ad368) t361.length co30 : Value).ownBlock) (.slice (some ad356) t353.length co26) t353) ∧ (w'.heap[gb352]? = some (.cells #[.int .i64 0, .int .i64 0, .int .i64 0, .int .i64 0] 23 (0, 0))) ∧ (Below w.heap.size w w')) ?_ ?_
              rotate_left
              ·intro hJ3_7_11_15
               refine join_ (σ := Nat) 3 #[true, true, true, true, true, true, true, true, true, true, true, true, true, true, true, false, false, true, false] (fun s_ => [(38, .int .i64 t365), (42, .int .i64 t367), (46, .int .i64 t369), (7, .pointer (some ⟨s_, 0, none⟩))]) (fun s_ w' => (w'.cell? ad356 = some (.string (rdOf ByteArray.empty t353 0)) ∧ w'.cell? ad360 = some (.string (rdOf ByteArray.empty t357 0)) ∧ w'.cell? ad368 = some (.string (rdOf ByteArray.empty t361 0)) ∧ w'.cell? ⟨ad368.block, ad368.off + 1, none⟩ = some (.string (rdOf ByteArray.empty t361 1))) ∧ (Kd.R Kd.string 9 w' w.heap.size (fun k_ => some k_ ≠ (.slice (some ad368) t361.length co30 : Value).ownBlock ∧ some k_ ≠ (.slice (some ad356) t353.length co26 : Value).ownBlock) (.slice (some ad360) t357.length co28) t357) ∧ (Kd.R Kd.string 9 w' w.heap.size (fun k_ => some k_ ≠ (.slice (some ad360) t357.length co28 : Value).ownBlock ∧ some k_ ≠ (.slice (some ad356) t353.length co26 : Value).ownBlock) (.slice (some ad368) t361.length co30) t361) ∧ (Kd.R Kd.string 9 w' w.heap.size (fun k_ => some k_ ≠ (.slice (some ad360) t357.length co28 : Value).ownBlock ∧ some k_ ≠ (.slice (some ad368) t361.length co30 : Value).ownBlock) (.slice (some ad356) t353.length co26) t353) ∧ (w'.heap[gb352]? = some (.cells #[.int .i64 0, .int .i64 0, .int .i64 0, .int .i64 0] 23 (0, 0))) ∧ (w'.heap[s_]? = some (.cells #[.int .i64 0, .int .i64 0, .int .i64 0, .int .i64 0] 23 (0, 0))) ∧ (w.heap.size ≤ s_) ∧ (w.heap.size ≤ s_) ∧ (gb352 ≠ s_) ∧ (s_ ≠ gb352) ∧ (Below w.heap.size w w')) ?_ ?_
               rotate_left
               ·intro hJ3_7_11_17
                refine join_ (σ := Unit) 4 #[true, true, true, true, true, true, true, true, true, true, true, true, true, true, true, false, false, false, false] (fun s_ => [(38, .int .i64 t365), (42, .int .i64 t367), (46, .int .i64 t369)]) (fun s_ w' => (w'.cell? ad356 = some (.string (rdOf ByteArray.empty t353 0)) ∧ w'.cell? ad360 = some (.string (rdOf ByteArray.empty t357 0)) ∧ w'.cell? ad368 = some (.string (rdOf ByteArray.empty t361 0)) ∧ w'.cell? ⟨ad368.block, ad368.off + 1, none⟩ = some (.string (rdOf ByteArray.empty t361 1))) ∧ (Kd.R Kd.string 9 w' w.heap.size (fun k_ => some k_ ≠ (.slice (some ad368) t361.length co30 : Value).ownBlock ∧ some k_ ≠ (.slice (some ad356) t353.length co26 : Value).ownBlock) (.slice (some ad360) t357.length co28) t357) ∧ (Kd.R Kd.string 9 w' w.heap.size (fun k_ => some k_ ≠ (.slice (some ad360) t357.length co28 : Value).ownBlock ∧ some k_ ≠ (.slice (some ad356) t353.length co26 : Value).ownBlock) (.slice (some ad368) t361.length co30) t361) ∧ (Kd.R Kd.string 9 w' w.heap.size (fun k_ => some k_ ≠ (.slice (some ad360) t357.length co28 : Value).ownBlock ∧ some k_ ≠ (.slice (some ad368) t361.length co30 : Value).ownBlock) (.slice (some ad356) t353.length co26) t353) ∧ (w'.heap[gb352]? = some (.cells #[.int .i64 0, .int .i64 0, .int .i64 0, .int .i64 0] 23 (0, 0))) ∧ (Below w.heap.size w w')) ?_ ?_
                rotate_left
                ·intro hJ3_7_11
                 refine join_ (σ := Nat) 4 #[true, true, true, true, true, true, true, true, true, true, true, false, true, true, true, false, false, true, false] (fun s_ => [(38, .int .i64 t365), (42, .int .i64 t367), (7, .pointer (some ⟨s_, 0, none⟩))]) (fun s_ w' => (w'.cell? ad356 = some (.string (rdOf ByteArray.empty t353 0)) ∧ w'.cell? ad360 = some (.string (rdOf ByteArray.empty t357 0)) ∧ w'.cell? ad368 = some (.string (rdOf ByteArray.empty t361 0)) ∧ w'.cell? ⟨ad368.block, ad368.off + 1, none⟩ = some (.string (rdOf ByteArray.empty t361 1))) ∧ (Kd.R Kd.string 9 w' w.heap.size (fun k_ => some k_ ≠ (.slice (some ad368) t361.length co30 : Value).ownBlock ∧ some k_ ≠ (.slice (some ad356) t353.length co26 : Value).ownBlock) (.slice (some ad360) t357.length co28) t357) ∧ (Kd.R Kd.string 9 w' w.heap.size (fun k_ => some k_ ≠ (.slice (some ad360) t357.length co28 : Value).ownBlock ∧ some k_ ≠ (.slice (some ad356) t353.length co26 : Value).ownBlock) (.slice (some ad368) t361.length co30) t361) ∧ (Kd.R Kd.string 9 w' w.heap.size (fun k_ => some k_ ≠ (.slice (some ad360) t357.length co28 : Value).ownBlock ∧ some k_ ≠ (.slice (some ad368) t361.length co30 : Value).ownBlock) (.slice (some ad356) t353.length co26) t353) ∧ (w'.heap[gb352]? = some (.cells #[.int .i64 0, .int .i64 0, .int .i64 0, .int .i64 0] 23 (0, 0))) ∧ (w'.heap[s_]? = some (.cells #[.int .i64 0, .int .i64 0, .int .i64 0, .int .i64 0] 23 (0, 0))) ∧ (w.heap.size ≤ s_) ∧ (w.heap.size ≤ s_) ∧ (gb352 ≠ s_) ∧ (s_ ≠ gb352) ∧ (Below w.heap.size w w')) ?_ ?_
                 rotate_left
                 ·intro hJ3_7_17
                  refine join_ (σ := Unit) 5 #[true, true, true, true, true, true, true, true, true, true, true, false, true, true, true, false, false, false, false] (fun s_ => [(38, .int .i64 t365), (42, .int .i64 t367)]) (fun s_ w' => (w'.cell? ad356 = some (.string (rdOf ByteArray.empty t353 0)) ∧ w'.cell? ad360 = some (.string (rdOf ByteArray.empty t357 0)) ∧ w'.cell? ad368 = some (.string (rdOf ByteArray.empty t361 0)) ∧ w'.cell? ⟨ad368.block, ad368.off + 1, none⟩ = some (.string (rdOf ByteArray.empty t361 1))) ∧ (Kd.R Kd.string 9 w' w.heap.size (fun k_ => some k_ ≠ (.slice (some ad368) t361.length co30 : Value).ownBlock ∧ some k_ ≠ (.slice (some ad356) t353.length co26 : Value).ownBlock) (.slice (some ad360) t357.length co28) t357) ∧ (Kd.R Kd.string 9 w' w.heap.size (fun k_ => some k_ ≠ (.slice (some ad360) t357.length co28 : Value).ownBlock ∧ some k_ ≠ (.slice (some ad356) t353.length co26 : Value).ownBlock) (.slice (some ad368) t361.length co30) t361) ∧ (Kd.R Kd.string 9 w' w.heap.size (fun k_ => some k_ ≠ (.slice (some ad360) t357.length co28 : Value).ownBlock ∧ some k_ ≠ (.slice (some ad368) t361.length co30 : Value).ownBlock) (.slice (some ad356) t353.length co26) t353) ∧ (w'.heap[gb352]? = some (.cells #[.int .i64 0, .int .i64 0, .int .i64 0, .int .i64 0] 23 (0, 0))) ∧ (Below w.heap.size w w')) ?_ ?_
                  rotate_left
                  ·intro hJ3_7
                   refine join_ (σ := Nat) 5 #[true, true, true, true, true, true, true, false, true, true, true, false, true, true, true, false, false, true, false] (fun s_ => [(38, .int .i64 t365), (7, .pointer (some ⟨s_, 0, none⟩))]) (fun s_ w' => (w'.cell? ad356 = some (.string (rdOf ByteArray.empty t353 0)) ∧ w'.cell? ad360 = some (.string (rdOf ByteArray.empty t357 0)) ∧ w'.cell? ad368 = some (.string (rdOf ByteArray.empty t361 0)) ∧ w'.cell? ⟨ad368.block, ad368.off + 1, none⟩ = some (.string (rdOf ByteArray.empty t361 1))) ∧ (Kd.R Kd.string 9 w' w.heap.size (fun k_ => some k_ ≠ (.slice (some ad368) t361.length co30 : Value).ownBlock ∧ some k_ ≠ (.slice (some ad356) t353.length co26 : Value).ownBlock) (.slice (some ad360) t357.length co28) t357) ∧ (Kd.R Kd.string 9 w' w.heap.size (fun k_ => some k_ ≠ (.slice (some ad360) t357.length co28 : Value).ownBlock ∧ some k_ ≠ (.slice (some ad356) t353.length co26 : Value).ownBlock) (.slice (some ad368) t361.length co30) t361) ∧ (Kd.R Kd.string 9 w' w.heap.size (fun k_ => some k_ ≠ (.slice (some ad360) t357.length co28 : Value).ownBlock ∧ some k_ ≠ (.slice (some ad368) t361.length co30 : Value).ownBlock) (.slice (some ad356) t353.length co26) t353) ∧ (w'.heap[gb352]? = some (.cells #[.int .i64 0, .int .i64 0, .int .i64 0, .int .i64 0] 23 (0, 0))) ∧ (w'.heap[s_]? = some (.cells #[.int .i64 0, .int .i64 0, .int .i64 0, .int .i64 0] 23 (0, 0))) ∧ (w.heap.size ≤ s_) ∧ (w.heap.size ≤ s_) ∧ (gb352 ≠ s_) ∧ (s_ ≠ gb352) ∧ (Below w.heap.size w w')) ?_ ?_
                   rotate_left
                   ·intro hJ3_17
                    refine join_ (σ := Unit) 6 #[true, true, true, true, true, true, true, false, true, true, true, false, true, true, true, false, false, false, false] (fun s_ => [(38, .int .i64 t365)]) (fun s_ w' => (w'.cell? ad356 = some (.string (rdOf ByteArray.empty t353 0)) ∧ w'.cell? ad360 = some (.string (rdOf ByteArray.empty t357 0)) ∧ w'.cell? ad368 = some (.string (rdOf ByteArray.empty t361 0)) ∧ w'.cell? ⟨ad368.block, ad368.off + 1, none⟩ = some (.string (rdOf ByteArray.empty t361 1))) ∧ (Kd.R Kd.string 9 w' w.heap.size (fun k_ => some k_ ≠ (.slice (some ad368) t361.length co30 : Value).ownBlock ∧ some k_ ≠ (.slice (some ad356) t353.length co26 : Value).ownBlock) (.slice (some ad360) t357.length co28) t357) ∧ (Kd.R Kd.string 9 w' w.heap.size (fun k_ => some k_ ≠ (.slice (some ad360) t357.length co28 : Value).ownBlock ∧ some k_ ≠ (.slice (some ad356) t353.length co26 : Value).ownBlock) (.slice (some ad368) t361.length co30) t361) ∧ (Kd.R Kd.string 9 w' w.heap.size (fun k_ => some k_ ≠ (.slice (some ad360) t357.length co28 : Value).ownBlock ∧ some k_ ≠ (.slice (some ad368) t361.length co30 : Value).ownBlock) (.slice (some ad356) t353.length co26) t353) ∧ (w'.heap[gb352]? = some (.cells #[.int .i64 0, .int .i64 0, .int .i64 0, .int .i64 0] 23 (0, 0))) ∧ (Below w.heap.size w w')) ?_ ?_
                    rotate_left
                    ·intro hJ3
                     refine join_ (σ := Nat) 6 #[true, true, true, false, true, true, true, false, true, true, true, false, true, true, true, false, false, true, false] (fun s_ => [(7, .pointer (some ⟨s_, 0, none⟩))]) (fun s_ w' => (w'.cell? ad356 = some (.string (rdOf ByteArray.empty t353 0)) ∧ w'.cell? ad360 = some (.string (rdOf ByteArray.empty t357 0)) ∧ w'.cell? ad368 = some (.string (rdOf ByteArray.empty t361 0)) ∧ w'.cell? ⟨ad368.block, ad368.off + 1, none⟩ = some (.string (rdOf ByteArray.empty t361 1))) ∧ (Kd.R Kd.string 9 w' w.heap.size (fun k_ => some k_ ≠ (.slice (some ad368) t361.length co30 : Value).ownBlock ∧ some k_ ≠ (.slice (some ad356) t353.length co26 : Value).ownBlock) (.slice (some ad360) t357.length co28) t357) ∧ (Kd.R Kd.string 9 w' w.heap.size (fun k_ => some k_ ≠ (.slice (some ad360) t357.length co28 : Value).ownBlock ∧ some k_ ≠ (.slice (some ad356) t353.length co26 : Value).ownBlock) (.slice (some ad368) t361.length co30) t361) ∧ (Kd.R Kd.string 9 w' w.heap.size (fun k_ => some k_ ≠ (.slice (some ad360) t357.length co28 : Value).ownBlock ∧ some k_ ≠ (.slice (some ad368) t361.length co30 : Value).ownBlock) (.slice (some ad356) t353.length co26) t353) ∧ (w'.heap[gb352]? = some (.cells #[.int .i64 0, .int .i64 0, .int .i64 0, .int .i64 0] 23 (0, 0))) ∧ (w'.heap[s_]? = some (.cells #[.int .i64 0, .int .i64 0, .int .i64 0, .int .i64 0] 23 (0, 0))) ∧ (w.heap.size ≤ s_) ∧ (w.heap.size ≤ s_) ∧ (gb352 ≠ s_) ∧ (s_ ≠ gb352) ∧ (Below w.heap.size w w')) ?_ ?_
                     rotate_left
                     ·intro hJ17
                      refine two_ (i := 3) (j := 17) (Ni := some 38) (Nj := some 7) #[true, true, true, true, true, true, true, false, true, true, true, false, true, true, true, false, false, false, false] #[true, true, true, false, true, true, true, false, true, true, true, false, true, true, true, false, false, true, false] rfl rfl rfl rfl (two_of HT_.out (by kernel_rfl)) (by decide) (by decide) (fun K hK => ?_) (fun K hK => ?_)
                      ·skip
                       refine goes_ Tryd.func55 (by kernel_rfl) rfl #[.string (rdOf ByteArray.empty t353 0)] (by rfl) rfl rfl zO2_4 ?_
                       with_reducible refine (spec_l1Read.calls kj2 (rdOf ByteArray.empty t353 0) t365 _ A17.out).mono ?_
                       rintro e w' ⟨rfl, ⟨nd, rfl⟩⟩
                       refine ⟨_, rfl, ?_⟩
                       refine hK.out _ _ ⟨hHeld.1, hHeld.2.1, hHeld.2.2.1, hHeld.2.2.2⟩ (fun hHeld => ?_)
                       clear hK K
                       refine zN 38 ?_
                       exact norm_ zO2_0 (hJ3 () _ ⟨hHeld, zO2_1, zO2_2, zO2_3, (zq BK352), (zy HB)⟩)
                      ·skip
                       refine box_step ?hg (N := 7) ?hd (cs := #[.int .i64 0, .int .i64 0, .int .i64 0, .int .i64 0]) (t := 23) ?hr ?_; (case hd => rfl); (case hg => rfl); (case hr => first | (go_simp; done) | (go_simp; rfl))
                       intro gb372 hg w32 hbox hb
                       have HS0_ := (hb.cell (World.block_lt_of_cell? _ _ (hHeld.1))).trans (hHeld.1)
                       have HS1_ := (hb.cell (World.block_lt_of_cell? _ _ (hHeld.2.1))).trans (hHeld.2.1)
                       have HS2_ := (hb.cell (World.block_lt_of_cell? _ _ (hHeld.2.2.1))).trans (hHeld.2.2.1)
                       have HS3_ := (hb.cell (World.block_lt_of_cell? _ _ (hHeld.2.2.2))).trans (hHeld.2.2.2)
                       have BK372 := Aside0.mk (hbox)
                       have GW372 := zg HB hg
                       have GE372 := GW372
                       have NB352_372 := zl BK352 hg
                       have NB372_352 := zr BK352 hg
                       replace HO_4 := zo HO_4 hb; replace HO359 := zo HO359 hb; replace HO363 := zo HO363 hb; replace BK352 := zb BK352 hb; replace HB := zh HB hb; clear hb hbox hg
                       refine hK.out _ _ ⟨HS0_, HS1_, HS2_, HS3_⟩ (fun hHeld => ?_)
                       clear hK K
                       refine zN 7 ?_
                       exact norm_ zO2_0 (hJ17 (gb372) _ ⟨hHeld, zO2_1, zO2_2, zO2_3, (zq BK352), (zq BK372), GW372.out, GE372.out, NB352_372.out, NB372_352.out, (zy HB)⟩)
                     ·skip
                      rintro gb372 w33 ⟨hS_, h0_, h1_, h2_, h3_, h4_, h5_, h6_, h7_, h8_, h9_⟩
                      have n0_ : Aside0 (Kd.R Kd.string 9 w33 w.heap.size (fun k_ => some k_ ≠ (.slice (some ad368) t361.length co30 : Value).ownBlock ∧ some k_ ≠ (.slice (some ad356) t353.length co26 : Value).ownBlock) (.slice (some ad360) t357.length co28) t357) := ⟨h0_⟩
                      have n1_ : Aside0 (Kd.R Kd.string 9 w33 w.heap.size (fun k_ => some k_ ≠ (.slice (some ad360) t357.length co28 : Value).ownBlock ∧ some k_ ≠ (.slice (some ad356) t353.length co26 : Value).ownBlock) (.slice (some ad368) t361.length co30) t361) := ⟨h1_⟩
                      have n2_ : Aside0 (Kd.R Kd.string 9 w33 w.heap.size (fun k_ => some k_ ≠ (.slice (some ad360) t357.length co28 : Value).ownBlock ∧ some k_ ≠ (.slice (some ad368) t361.length co30 : Value).ownBlock) (.slice (some ad356) t353.length co26) t353) := ⟨h2_⟩
                      have n3_ : Aside0 (w33.heap[gb352]? = some (.cells #[.int .i64 0, .int .i64 0, .int .i64 0, .int .i64 0] 23 (0, 0))) := ⟨h3_⟩
                      have n4_ : Aside0 (w33.heap[gb372]? = some (.cells #[.int .i64 0, .int .i64 0, .int .i64 0, .int .i64 0] 23 (0, 0))) := ⟨h4_⟩
                      have n5_ : Aside0 (w.heap.size ≤ gb372) := ⟨h5_⟩
                      have n6_ : Aside0 (w.heap.size ≤ gb372) := ⟨h6_⟩
                      have n7_ : Aside0 (gb352 ≠ gb372) := ⟨h7_⟩
                      have n8_ : Aside0 (gb372 ≠ gb352) := ⟨h8_⟩
                      have n9_ : Aside0 (Below w.heap.size w w33) := ⟨h9_⟩
                      clear HO_4; clear HO359; clear HO363; clear BK352; clear HB; clear h0_ h1_ h2_ h3_ h4_ h5_ h6_ h7_ h8_ h9_; have HO359 := n0_; have HO363 := n1_; have HO_4 := n2_; have BK352 := n3_; have BK372 := n4_; have GW372 := n5_; have GE372 := n6_; have NB352_372 := n7_; have NB372_352 := n8_; have HB := n9_; clear n0_ n1_ n2_ n3_ n4_ n5_ n6_ n7_ n8_ n9_
                      have hHeld : w33.cell? ad356 = some (.string (rdOf ByteArray.empty t353 0)) ∧ w33.cell? ad360 = some (.string (rdOf ByteArray.empty t357 0)) ∧ w33.cell? ad368 = some (.string (rdOf ByteArray.empty t361 0)) ∧ w33.cell? ⟨ad368.block, ad368.off + 1, none⟩ = some (.string (rdOf ByteArray.empty t361 1)) := hS_
                      refine norm_ (a' := ?_) ?_ ?_
                      rotate_left
                      ·simp only [putAll, Act.put, List.setIfInBounds_toArray, List.set_cons_zero, List.set_cons_succ]
                       rfl
                      refine zO 3 (some 38) HT_ (fun K hK => ?_)
                      refine goes_ Tryd.func55 (by kernel_rfl) rfl #[.string (rdOf ByteArray.empty t353 0)] (by rfl) rfl rfl zO2_4 ?_
                      with_reducible refine (spec_l1Read.calls kj2 (rdOf ByteArray.empty t353 0) t365 _ A17.out).mono ?_
                      rintro e w' ⟨rfl, ⟨nd, rfl⟩⟩
                      refine ⟨_, rfl, ?_⟩
                      refine hK.out _ _ ⟨hHeld.1, hHeld.2.1, hHeld.2.2.1, hHeld.2.2.2⟩ (fun hHeld => ?_)
                      clear hK K
                      refine zN 38 ?_
                      exact norm_ zO2_0 (hJ3_17 (gb372) _ ⟨hHeld, (zs HO359), (zs HO363), (zs HO_4), (zq BK352), (zq BK372), GW372.out, GE372.out, NB352_372.out, NB372_352.out, (zy HB)⟩)
                    ·skip
                     rintro _ w32 ⟨hS_, h0_, h1_, h2_, h3_, h4_⟩
                     have n0_ : Aside0 (Kd.R Kd.string 9 w32 w.heap.size (fun k_ => some k_ ≠ (.slice (some ad368) t361.length co30 : Value).ownBlock ∧ some k_ ≠ (.slice (some ad356) t353.length co26 : Value).ownBlock) (.slice (some ad360) t357.length co28) t357) := ⟨h0_⟩
                     have n1_ : Aside0 (Kd.R Kd.string 9 w32 w.heap.size (fun k_ => some k_ ≠ (.slice (some ad360) t357.length co28 : Value).ownBlock ∧ some k_ ≠ (.slice (some ad356) t353.length co26 : Value).ownBlock) (.slice (some ad368) t361.length co30) t361) := ⟨h1_⟩
                     have n2_ : Aside0 (Kd.R Kd.string 9 w32 w.heap.size (fun k_ => some k_ ≠ (.slice (some ad360) t357.length co28 : Value).ownBlock ∧ some k_ ≠ (.slice (some ad368) t361.length co30 : Value).ownBlock) (.slice (some ad356) t353.length co26) t353) := ⟨h2_⟩
                     have n3_ : Aside0 (w32.heap[gb352]? = some (.cells #[.int .i64 0, .int .i64 0, .int .i64 0, .int .i64 0] 23 (0, 0))) := ⟨h3_⟩
                     have n4_ : Aside0 (Below w.heap.size w w32) := ⟨h4_⟩
                     clear HO_4; clear HO359; clear HO363; clear BK352; clear HB; clear h0_ h1_ h2_ h3_ h4_; have HO359 := n0_; have HO363 := n1_; have HO_4 := n2_; have BK352 := n3_; have HB := n4_; clear n0_ n1_ n2_ n3_ n4_
                     have hHeld : w32.cell? ad356 = some (.string (rdOf ByteArray.empty t353 0)) ∧ w32.cell? ad360 = some (.string (rdOf ByteArray.empty t357 0)) ∧ w32.cell? ad368 = some (.string (rdOf ByteArray.empty t361 0)) ∧ w32.cell? ⟨ad368.block, ad368.off + 1, none⟩ = some (.string (rdOf ByteArray.empty t361 1)) := hS_
                     refine norm_ (a' := ?_) ?_ ?_
                     rotate_left
                     ·simp only [putAll, Act.put, List.setIfInBounds_toArray, List.set_cons_zero, List.set_cons_succ]
                      rfl
                     refine two_ (i := 7) (j := 17) (Ni := some 42) (Nj := some 7) #[true, true, true, true, true, true, true, true, true, true, true, false, true, true, true, false, false, false, false] #[true, true, true, true, true, true, true, false, true, true, true, false, true, true, true, false, false, true, false] rfl rfl rfl rfl (two_of HT_.out (by kernel_rfl)) (by decide) (by decide) (fun K hK => ?_) (fun K hK => ?_)
                     ·skip
                      refine goes_ Tryd.func55 (by kernel_rfl) rfl #[.string (rdOf ByteArray.empty t357 0)] (by rfl) rfl rfl zO2_4 ?_
                      with_reducible refine (spec_l1Read.calls kj2 (rdOf ByteArray.empty t357 0) t367 _ A19.out).mono ?_
                      rintro e w' ⟨rfl, ⟨nd, rfl⟩⟩
                      refine ⟨_, rfl, ?_⟩
                      refine hK.out _ _ ⟨hHeld.1, hHeld.2.1, hHeld.2.2.1, hHeld.2.2.2⟩ (fun hHeld => ?_)
                      clear hK K
                      refine zN 42 ?_
                      exact norm_ zO2_0 (hJ3_7 () _ ⟨hHeld, (zs HO359), (zs HO363), (zs HO_4), (zq BK352), (zy HB)⟩)
                     ·skip
                      refine box_step ?hg (N := 7) ?hd (cs := #[.int .i64 0, .int .i64 0, .int .i64 0, .int .i64 0]) (t := 23) ?hr ?_; (case hd => rfl); (case hg => rfl); (case hr => first | (go_simp; done) | (go_simp; rfl))
                      intro gb372 hg w33 hbox hb
                      have HS0_ := (hb.cell (World.block_lt_of_cell? _ _ (hHeld.1))).trans (hHeld.1)
                      have HS1_ := (hb.cell (World.block_lt_of_cell? _ _ (hHeld.2.1))).trans (hHeld.2.1)
                      have HS2_ := (hb.cell (World.block_lt_of_cell? _ _ (hHeld.2.2.1))).trans (hHeld.2.2.1)
                      have HS3_ := (hb.cell (World.block_lt_of_cell? _ _ (hHeld.2.2.2))).trans (hHeld.2.2.2)
                      have BK372 := Aside0.mk (hbox)
                      have GW372 := zg HB hg
                      have GE372 := GW372
                      have NB352_372 := zl BK352 hg
                      have NB372_352 := zr BK352 hg
                      replace HO_4 := zo HO_4 hb; replace HO359 := zo HO359 hb; replace HO363 := zo HO363 hb; replace BK352 := zb BK352 hb; replace HB := zh HB hb; clear hb hbox hg
                      refine hK.out _ _ ⟨HS0_, HS1_, HS2_, HS3_⟩ (fun hHeld => ?_)
                      clear hK K
                      refine zN 7 ?_
                      exact norm_ zO2_0 (hJ3_17 (gb372) _ ⟨hHeld, (zs HO359), (zs HO363), (zs HO_4), (zq BK352), (zq BK372), GW372.out, GE372.out, NB352_372.out, NB372_352.out, (zy HB)⟩)
                   ·skip
                    rintro gb372 w33 ⟨hS_, h0_, h1_, h2_, h3_, h4_, h5_, h6_, h7_, h8_, h9_⟩
                    have n0_ : Aside0 (Kd.R Kd.string 9 w33 w.heap.size (fun k_ => some k_ ≠ (.slice (some ad368) t361.length co30 : Value).ownBlock ∧ some k_ ≠ (.slice (some ad356) t353.length co26 : Value).ownBlock) (.slice (some ad360) t357.length co28) t357) := ⟨h0_⟩
                    have n1_ : Aside0 (Kd.R Kd.string 9 w33 w.heap.size (fun k_ => some k_ ≠ (.slice (some ad360) t357.length co28 : Value).ownBlock ∧ some k_ ≠ (.slice (some ad356) t353.length co26 : Value).ownBlock) (.slice (some ad368) t361.length co30) t361) := ⟨h1_⟩
                    have n2_ : Aside0 (Kd.R Kd.string 9 w33 w.heap.size (fun k_ => some k_ ≠ (.slice (some ad360) t357.length co28 : Value).ownBlock ∧ some k_ ≠ (.slice (some ad368) t361.length co30 : Value).ownBlock) (.slice (some ad356) t353.length co26) t353) := ⟨h2_⟩
                    have n3_ : Aside0 (w33.heap[gb352]? = some (.cells #[.int .i64 0, .int .i64 0, .int .i64 0, .int .i64 0] 23 (0, 0))) := ⟨h3_⟩
                    have n4_ : Aside0 (w33.heap[gb372]? = some (.cells #[.int .i64 0, .int .i64 0, .int .i64 0, .int .i64 0] 23 (0, 0))) := ⟨h4_⟩
                    have n5_ : Aside0 (w.heap.size ≤ gb372) := ⟨h5_⟩
                    have n6_ : Aside0 (w.heap.size ≤ gb372) := ⟨h6_⟩
                    have n7_ : Aside0 (gb352 ≠ gb372) := ⟨h7_⟩
                    have n8_ : Aside0 (gb372 ≠ gb352) := ⟨h8_⟩
                    have n9_ : Aside0 (Below w.heap.size w w33) := ⟨h9_⟩
                    clear HO_4; clear HO359; clear HO363; clear BK352; clear HB; clear h0_ h1_ h2_ h3_ h4_ h5_ h6_ h7_ h8_ h9_; have HO359 := n0_; have HO363 := n1_; have HO_4 := n2_; have BK352 := n3_; have BK372 := n4_; have GW372 := n5_; have GE372 := n6_; have NB352_372 := n7_; have NB372_352 := n8_; have HB := n9_; clear n0_ n1_ n2_ n3_ n4_ n5_ n6_ n7_ n8_ n9_
                    have hHeld : w33.cell? ad356 = some (.string (rdOf ByteArray.empty t353 0)) ∧ w33.cell? ad360 = some (.string (rdOf ByteArray.empty t357 0)) ∧ w33.cell? ad368 = some (.string (rdOf ByteArray.empty t361 0)) ∧ w33.cell? ⟨ad368.block, ad368.off + 1, none⟩ = some (.string (rdOf ByteArray.empty t361 1)) := hS_
                    refine norm_ (a' := ?_) ?_ ?_
                    rotate_left
                    ·simp only [putAll, Act.put, List.setIfInBounds_toArray, List.set_cons_zero, List.set_cons_succ]
                     rfl
                    refine zO 7 (some 42) HT_ (fun K hK => ?_)
                    refine goes_ Tryd.func55 (by kernel_rfl) rfl #[.string (rdOf ByteArray.empty t357 0)] (by rfl) rfl rfl zO2_4 ?_
                    with_reducible refine (spec_l1Read.calls kj2 (rdOf ByteArray.empty t357 0) t367 _ A19.out).mono ?_
                    rintro e w' ⟨rfl, ⟨nd, rfl⟩⟩
                    refine ⟨_, rfl, ?_⟩
                    refine hK.out _ _ ⟨hHeld.1, hHeld.2.1, hHeld.2.2.1, hHeld.2.2.2⟩ (fun hHeld => ?_)
                    clear hK K
                    refine zN 42 ?_
                    exact norm_ zO2_0 (hJ3_7_17 (gb372) _ ⟨hHeld, (zs HO359), (zs HO363), (zs HO_4), (zq BK352), (zq BK372), GW372.out, GE372.out, NB352_372.out, NB372_352.out, (zy HB)⟩)
                  ·skip
                   rintro _ w32 ⟨hS_, h0_, h1_, h2_, h3_, h4_⟩
                   have n0_ : Aside0 (Kd.R Kd.string 9 w32 w.heap.size (fun k_ => some k_ ≠ (.slice (some ad368) t361.length co30 : Value).ownBlock ∧ some k_ ≠ (.slice (some ad356) t353.length co26 : Value).ownBlock) (.slice (some ad360) t357.length co28) t357) := ⟨h0_⟩
                   have n1_ : Aside0 (Kd.R Kd.string 9 w32 w.heap.size (fun k_ => some k_ ≠ (.slice (some ad360) t357.length co28 : Value).ownBlock ∧ some k_ ≠ (.slice (some ad356) t353.length co26 : Value).ownBlock) (.slice (some ad368) t361.length co30) t361) := ⟨h1_⟩
                   have n2_ : Aside0 (Kd.R Kd.string 9 w32 w.heap.size (fun k_ => some k_ ≠ (.slice (some ad360) t357.length co28 : Value).ownBlock ∧ some k_ ≠ (.slice (some ad368) t361.length co30 : Value).ownBlock) (.slice (some ad356) t353.length co26) t353) := ⟨h2_⟩
                   have n3_ : Aside0 (w32.heap[gb352]? = some (.cells #[.int .i64 0, .int .i64 0, .int .i64 0, .int .i64 0] 23 (0, 0))) := ⟨h3_⟩
                   have n4_ : Aside0 (Below w.heap.size w w32) := ⟨h4_⟩
                   clear HO_4; clear HO359; clear HO363; clear BK352; clear HB; clear h0_ h1_ h2_ h3_ h4_; have HO359 := n0_; have HO363 := n1_; have HO_4 := n2_; have BK352 := n3_; have HB := n4_; clear n0_ n1_ n2_ n3_ n4_
                   have hHeld : w32.cell? ad356 = some (.string (rdOf ByteArray.empty t353 0)) ∧ w32.cell? ad360 = some (.string (rdOf ByteArray.empty t357 0)) ∧ w32.cell? ad368 = some (.string (rdOf ByteArray.empty t361 0)) ∧ w32.cell? ⟨ad368.block, ad368.off + 1, none⟩ = some (.string (rdOf ByteArray.empty t361 1)) := hS_
                   refine norm_ (a' := ?_) ?_ ?_
                   rotate_left
                   ·simp only [putAll, Act.put, List.setIfInBounds_toArray, List.set_cons_zero, List.set_cons_succ]
                    rfl
                   refine two_ (i := 11) (j := 17) (Ni := some 46) (Nj := some 7) #[true, true, true, true, true, true, true, true, true, true, true, true, true, true, true, false, false, false, false] #[true, true, true, true, true, true, true, true, true, true, true, false, true, true, true, false, false, true, false] rfl rfl rfl rfl (two_of HT_.out (by kernel_rfl)) (by decide) (by decide) (fun K hK => ?_) (fun K hK => ?_)
                   ·skip
                    refine goes_ Tryd.func55 (by kernel_rfl) rfl #[.string (rdOf ByteArray.empty t361 0)] (by rfl) rfl rfl zO2_4 ?_
                    with_reducible refine (spec_l1Read.calls kj2 (rdOf ByteArray.empty t361 0) t369 _ A21.out).mono ?_
                    rintro e w' ⟨rfl, ⟨nd, rfl⟩⟩
                    refine ⟨_, rfl, ?_⟩
                    refine hK.out _ _ ⟨hHeld.1, hHeld.2.1, hHeld.2.2.1, hHeld.2.2.2⟩ (fun hHeld => ?_)
                    clear hK K
                    refine zN 46 ?_
                    exact norm_ zO2_0 (hJ3_7_11 () _ ⟨hHeld, (zs HO359), (zs HO363), (zs HO_4), (zq BK352), (zy HB)⟩)
                   ·skip
                    refine box_step ?hg (N := 7) ?hd (cs := #[.int .i64 0, .int .i64 0, .int .i64 0, .int .i64 0]) (t := 23) ?hr ?_; (case hd => rfl); (case hg => rfl); (case hr => first | (go_simp; done) | (go_simp; rfl))
                    intro gb372 hg w33 hbox hb
                    have HS0_ := (hb.cell (World.block_lt_of_cell? _ _ (hHeld.1))).trans (hHeld.1)
                    have HS1_ := (hb.cell (World.block_lt_of_cell? _ _ (hHeld.2.1))).trans (hHeld.2.1)
                    have HS2_ := (hb.cell (World.block_lt_of_cell? _ _ (hHeld.2.2.1))).trans (hHeld.2.2.1)
                    have HS3_ := (hb.cell (World.block_lt_of_cell? _ _ (hHeld.2.2.2))).trans (hHeld.2.2.2)
                    have BK372 := Aside0.mk (hbox)
                    have GW372 := zg HB hg
                    have GE372 := GW372
                    have NB352_372 := zl BK352 hg
                    have NB372_352 := zr BK352 hg
                    replace HO_4 := zo HO_4 hb; replace HO359 := zo HO359 hb; replace HO363 := zo HO363 hb; replace BK352 := zb BK352 hb; replace HB := zh HB hb; clear hb hbox hg
                    refine hK.out _ _ ⟨HS0_, HS1_, HS2_, HS3_⟩ (fun hHeld => ?_)
                    clear hK K
                    refine zN 7 ?_
                    exact norm_ zO2_0 (hJ3_7_17 (gb372) _ ⟨hHeld, (zs HO359), (zs HO363), (zs HO_4), (zq BK352), (zq BK372), GW372.out, GE372.out, NB352_372.out, NB372_352.out, (zy HB)⟩)
                 ·skip
                  rintro gb372 w33 ⟨hS_, h0_, h1_, h2_, h3_, h4_, h5_, h6_, h7_, h8_, h9_⟩
                  have n0_ : Aside0 (Kd.R Kd.string 9 w33 w.heap.size (fun k_ => some k_ ≠ (.slice (some ad368) t361.length co30 : Value).ownBlock ∧ some k_ ≠ (.slice (some ad356) t353.length co26 : Value).ownBlock) (.slice (some ad360) t357.length co28) t357) := ⟨h0_⟩
                  have n1_ : Aside0 (Kd.R Kd.string 9 w33 w.heap.size (fun k_ => some k_ ≠ (.slice (some ad360) t357.length co28 : Value).ownBlock ∧ some k_ ≠ (.slice (some ad356) t353.length co26 : Value).ownBlock) (.slice (some ad368) t361.length co30) t361) := ⟨h1_⟩
                  have n2_ : Aside0 (Kd.R Kd.string 9 w33 w.heap.size (fun k_ => some k_ ≠ (.slice (some ad360) t357.length co28 : Value).ownBlock ∧ some k_ ≠ (.slice (some ad368) t361.length co30 : Value).ownBlock) (.slice (some ad356) t353.length co26) t353) := ⟨h2_⟩
                  have n3_ : Aside0 (w33.heap[gb352]? = some (.cells #[.int .i64 0, .int .i64 0, .int .i64 0, .int .i64 0] 23 (0, 0))) := ⟨h3_⟩
                  have n4_ : Aside0 (w33.heap[gb372]? = some (.cells #[.int .i64 0, .int .i64 0, .int .i64 0, .int .i64 0] 23 (0, 0))) := ⟨h4_⟩
                  have n5_ : Aside0 (w.heap.size ≤ gb372) := ⟨h5_⟩
                  have n6_ : Aside0 (w.heap.size ≤ gb372) := ⟨h6_⟩
                  have n7_ : Aside0 (gb352 ≠ gb372) := ⟨h7_⟩
                  have n8_ : Aside0 (gb372 ≠ gb352) := ⟨h8_⟩
                  have n9_ : Aside0 (Below w.heap.size w w33) := ⟨h9_⟩
                  clear HO_4; clear HO359; clear HO363; clear BK352; clear HB; clear h0_ h1_ h2_ h3_ h4_ h5_ h6_ h7_ h8_ h9_; have HO359 := n0_; have HO363 := n1_; have HO_4 := n2_; have BK352 := n3_; have BK372 := n4_; have GW372 := n5_; have GE372 := n6_; have NB352_372 := n7_; have NB372_352 := n8_; have HB := n9_; clear n0_ n1_ n2_ n3_ n4_ n5_ n6_ n7_ n8_ n9_
                  have hHeld : w33.cell? ad356 = some (.string (rdOf ByteArray.empty t353 0)) ∧ w33.cell? ad360 = some (.string (rdOf ByteArray.empty t357 0)) ∧ w33.cell? ad368 = some (.string (rdOf ByteArray.empty t361 0)) ∧ w33.cell? ⟨ad368.block, ad368.off + 1, none⟩ = some (.string (rdOf ByteArray.empty t361 1)) := hS_
                  refine norm_ (a' := ?_) ?_ ?_
                  rotate_left
                  ·simp only [putAll, Act.put, List.setIfInBounds_toArray, List.set_cons_zero, List.set_cons_succ]
                   rfl
                  refine zO 11 (some 46) HT_ (fun K hK => ?_)
                  refine goes_ Tryd.func55 (by kernel_rfl) rfl #[.string (rdOf ByteArray.empty t361 0)] (by rfl) rfl rfl zO2_4 ?_
                  with_reducible refine (spec_l1Read.calls kj2 (rdOf ByteArray.empty t361 0) t369 _ A21.out).mono ?_
                  rintro e w' ⟨rfl, ⟨nd, rfl⟩⟩
                  refine ⟨_, rfl, ?_⟩
                  refine hK.out _ _ ⟨hHeld.1, hHeld.2.1, hHeld.2.2.1, hHeld.2.2.2⟩ (fun hHeld => ?_)
                  clear hK K
                  refine zN 46 ?_
                  exact norm_ zO2_0 (hJ3_7_11_17 (gb372) _ ⟨hHeld, (zs HO359), (zs HO363), (zs HO_4), (zq BK352), (zq BK372), GW372.out, GE372.out, NB352_372.out, NB372_352.out, (zy HB)⟩)
                ·skip
                 rintro _ w32 ⟨hS_, h0_, h1_, h2_, h3_, h4_⟩
                 have n0_ : Aside0 (Kd.R Kd.string 9 w32 w.heap.size (fun k_ => some k_ ≠ (.slice (some ad368) t361.length co30 : Value).ownBlock ∧ some k_ ≠ (.slice (some ad356) t353.length co26 : Value).ownBlock) (.slice (some ad360) t357.length co28) t357) := ⟨h0_⟩
                 have n1_ : Aside0 (Kd.R Kd.string 9 w32 w.heap.size (fun k_ => some k_ ≠ (.slice (some ad360) t357.length co28 : Value).ownBlock ∧ some k_ ≠ (.slice (some ad356) t353.length co26 : Value).ownBlock) (.slice (some ad368) t361.length co30) t361) := ⟨h1_⟩
                 have n2_ : Aside0 (Kd.R Kd.string 9 w32 w.heap.size (fun k_ => some k_ ≠ (.slice (some ad360) t357.length co28 : Value).ownBlock ∧ some k_ ≠ (.slice (some ad368) t361.length co30 : Value).ownBlock) (.slice (some ad356) t353.length co26) t353) := ⟨h2_⟩
                 have n3_ : Aside0 (w32.heap[gb352]? = some (.cells #[.int .i64 0, .int .i64 0, .int .i64 0, .int .i64 0] 23 (0, 0))) := ⟨h3_⟩
                 have n4_ : Aside0 (Below w.heap.size w w32) := ⟨h4_⟩
                 clear HO_4; clear HO359; clear HO363; clear BK352; clear HB; clear h0_ h1_ h2_ h3_ h4_; have HO359 := n0_; have HO363 := n1_; have HO_4 := n2_; have BK352 := n3_; have HB := n4_; clear n0_ n1_ n2_ n3_ n4_
                 have hHeld : w32.cell? ad356 = some (.string (rdOf ByteArray.empty t353 0)) ∧ w32.cell? ad360 = some (.string (rdOf ByteArray.empty t357 0)) ∧ w32.cell? ad368 = some (.string (rdOf ByteArray.empty t361 0)) ∧ w32.cell? ⟨ad368.block, ad368.off + 1, none⟩ = some (.string (rdOf ByteArray.empty t361 1)) := hS_
                 refine norm_ (a' := ?_) ?_ ?_
                 rotate_left
                 ·simp only [putAll, Act.put, List.setIfInBounds_toArray, List.set_cons_zero, List.set_cons_succ]
                  rfl
                 refine two_ (i := 15) (j := 17) (Ni := some 50) (Nj := some 7) #[true, true, true, true, true, true, true, true, true, true, true, true, true, true, true, true, false, false, false] #[true, true, true, true, true, true, true, true, true, true, true, true, true, true, true, false, false, true, false] rfl rfl rfl rfl (two_of HT_.out (by kernel_rfl)) (by decide) (by decide) (fun K hK => ?_) (fun K hK => ?_)
                 ·skip
                  refine goes_ Tryd.func55 (by kernel_rfl) rfl #[.string (rdOf ByteArray.empty t361 1)] (by rfl) rfl rfl zO2_4 ?_
                  with_reducible refine (spec_l1Read.calls kj2 (rdOf ByteArray.empty t361 1) t371 _ A23.out).mono ?_
                  rintro e w' ⟨rfl, ⟨nd, rfl⟩⟩
                  refine ⟨_, rfl, ?_⟩
                  refine hK.out _ _ ⟨hHeld.1, hHeld.2.1, hHeld.2.2.1, hHeld.2.2.2⟩ (fun hHeld => ?_)
                  clear hK K
                  refine zN 50 ?_
                  refine zA 16 51 HT_ ?_
                  exact norm_ zO2_0 (hJ3_7_11_15 () _ ⟨hHeld, (zs HO359), (zs HO363), (zs HO_4), (zq BK352), (zy HB)⟩)
                 ·skip
                  refine box_step ?hg (N := 7) ?hd (cs := #[.int .i64 0, .int .i64 0, .int .i64 0, .int .i64 0]) (t := 23) ?hr ?_; (case hd => rfl); (case hg => rfl); (case hr => first | (go_simp; done) | (go_simp; rfl))
                  intro gb372 hg w33 hbox hb
                  have HS0_ := (hb.cell (World.block_lt_of_cell? _ _ (hHeld.1))).trans (hHeld.1)
                  have HS1_ := (hb.cell (World.block_lt_of_cell? _ _ (hHeld.2.1))).trans (hHeld.2.1)
                  have HS2_ := (hb.cell (World.block_lt_of_cell? _ _ (hHeld.2.2.1))).trans (hHeld.2.2.1)
                  have HS3_ := (hb.cell (World.block_lt_of_cell? _ _ (hHeld.2.2.2))).trans (hHeld.2.2.2)
                  have BK372 := Aside0.mk (hbox)
                  have GW372 := zg HB hg
                  have GE372 := GW372
                  have NB352_372 := zl BK352 hg
                  have NB372_352 := zr BK352 hg
                  replace HO_4 := zo HO_4 hb; replace HO359 := zo HO359 hb; replace HO363 := zo HO363 hb; replace BK352 := zb BK352 hb; replace HB := zh HB hb; clear hb hbox hg
                  refine hK.out _ _ ⟨HS0_, HS1_, HS2_, HS3_⟩ (fun hHeld => ?_)
                  clear hK K
                  refine zN 7 ?_
                  exact norm_ zO2_0 (hJ3_7_11_17 (gb372) _ ⟨hHeld, (zs HO359), (zs HO363), (zs HO_4), (zq BK352), (zq BK372), GW372.out, GE372.out, NB352_372.out, NB372_352.out, (zy HB)⟩)
               ·skip
                rintro gb372 w33 ⟨hS_, h0_, h1_, h2_, h3_, h4_, h5_, h6_, h7_, h8_, h9_⟩
                have n0_ : Aside0 (Kd.R Kd.string 9 w33 w.heap.size (fun k_ => some k_ ≠ (.slice (some ad368) t361.length co30 : Value).ownBlock ∧ some k_ ≠ (.slice (some ad356) t353.length co26 : Value).ownBlock) (.slice (some ad360) t357.length co28) t357) := ⟨h0_⟩
                have n1_ : Aside0 (Kd.R Kd.string 9 w33 w.heap.size (fun k_ => some k_ ≠ (.slice (some ad360) t357.length co28 : Value).ownBlock ∧ some k_ ≠ (.slice (some ad356) t353.length co26 : Value).ownBlock) (.slice (some ad368) t361.length co30) t361) := ⟨h1_⟩
                have n2_ : Aside0 (Kd.R Kd.string 9 w33 w.heap.size (fun k_ => some k_ ≠ (.slice (some ad360) t357.length co28 : Value).ownBlock ∧ some k_ ≠ (.slice (some ad368) t361.length co30 : Value).ownBlock) (.slice (some ad356) t353.length co26) t353) := ⟨h2_⟩
                have n3_ : Aside0 (w33.heap[gb352]? = some (.cells #[.int .i64 0, .int .i64 0, .int .i64 0, .int .i64 0] 23 (0, 0))) := ⟨h3_⟩
                have n4_ : Aside0 (w33.heap[gb372]? = some (.cells #[.int .i64 0, .int .i64 0, .int .i64 0, .int .i64 0] 23 (0, 0))) := ⟨h4_⟩
                have n5_ : Aside0 (w.heap.size ≤ gb372) := ⟨h5_⟩
                have n6_ : Aside0 (w.heap.size ≤ gb372) := ⟨h6_⟩
                have n7_ : Aside0 (gb352 ≠ gb372) := ⟨h7_⟩
                have n8_ : Aside0 (gb372 ≠ gb352) := ⟨h8_⟩
                have n9_ : Aside0 (Below w.heap.size w w33) := ⟨h9_⟩
                clear HO_4; clear HO359; clear HO363; clear BK352; clear HB; clear h0_ h1_ h2_ h3_ h4_ h5_ h6_ h7_ h8_ h9_; have HO359 := n0_; have HO363 := n1_; have HO_4 := n2_; have BK352 := n3_; have BK372 := n4_; have GW372 := n5_; have GE372 := n6_; have NB352_372 := n7_; have NB372_352 := n8_; have HB := n9_; clear n0_ n1_ n2_ n3_ n4_ n5_ n6_ n7_ n8_ n9_
                have hHeld : w33.cell? ad356 = some (.string (rdOf ByteArray.empty t353 0)) ∧ w33.cell? ad360 = some (.string (rdOf ByteArray.empty t357 0)) ∧ w33.cell? ad368 = some (.string (rdOf ByteArray.empty t361 0)) ∧ w33.cell? ⟨ad368.block, ad368.off + 1, none⟩ = some (.string (rdOf ByteArray.empty t361 1)) := hS_
                refine norm_ (a' := ?_) ?_ ?_
                rotate_left
                ·simp only [putAll, Act.put, List.setIfInBounds_toArray, List.set_cons_zero, List.set_cons_succ]
                 rfl
                refine zO 15 (some 50) HT_ (fun K hK => ?_)
                refine goes_ Tryd.func55 (by kernel_rfl) rfl #[.string (rdOf ByteArray.empty t361 1)] (by rfl) rfl rfl zO2_4 ?_
                with_reducible refine (spec_l1Read.calls kj2 (rdOf ByteArray.empty t361 1) t371 _ A23.out).mono ?_
                rintro e w' ⟨rfl, ⟨nd, rfl⟩⟩
                refine ⟨_, rfl, ?_⟩
                refine hK.out _ _ ⟨hHeld.1, hHeld.2.1, hHeld.2.2.1, hHeld.2.2.2⟩ (fun hHeld => ?_)
                clear hK K
                refine zN 50 ?_
                refine zA 16 51 HT_ ?_
                exact norm_ zO2_0 (hJ3_7_11_15_17 (gb372) _ ⟨hHeld, (zs HO359), (zs HO363), (zs HO_4), (zq BK352), (zq BK372), GW372.out, GE372.out, NB352_372.out, NB372_352.out, (zy HB)⟩)
              ·skip
               rintro _ w32 ⟨hS_, h0_, h1_, h2_, h3_, h4_⟩
               have n0_ : Aside0 (Kd.R Kd.string 9 w32 w.heap.size (fun k_ => some k_ ≠ (.slice (some ad368) t361.length co30 : Value).ownBlock ∧ some k_ ≠ (.slice (some ad356) t353.length co26 : Value).ownBlock) (.slice (some ad360) t357.length co28) t357) := ⟨h0_⟩
               have n1_ : Aside0 (Kd.R Kd.string 9 w32 w.heap.size (fun k_ => some k_ ≠ (.slice (some ad360) t357.length co28 : Value).ownBlock ∧ some k_ ≠ (.slice (some ad356) t353.length co26 : Value).ownBlock) (.slice (some ad368) t361.length co30) t361) := ⟨h1_⟩
               have n2_ : Aside0 (Kd.R Kd.string 9 w32 w.heap.size (fun k_ => some k_ ≠ (.slice (some ad360) t357.length co28 : Value).ownBlock ∧ some k_ ≠ (.slice (some ad368) t361.length co30 : Value).ownBlock) (.slice (some ad356) t353.length co26) t353) := ⟨h2_⟩
               have n3_ : Aside0 (w32.heap[gb352]? = some (.cells #[.int .i64 0, .int .i64 0, .int .i64 0, .int .i64 0] 23 (0, 0))) := ⟨h3_⟩
               have n4_ : Aside0 (Below w.heap.size w w32) := ⟨h4_⟩
               clear HO_4; clear HO359; clear HO363; clear BK352; clear HB; clear h0_ h1_ h2_ h3_ h4_; have HO359 := n0_; have HO363 := n1_; have HO_4 := n2_; have BK352 := n3_; have HB := n4_; clear n0_ n1_ n2_ n3_ n4_
               have hHeld : w32.cell? ad356 = some (.string (rdOf ByteArray.empty t353 0)) ∧ w32.cell? ad360 = some (.string (rdOf ByteArray.empty t357 0)) ∧ w32.cell? ad368 = some (.string (rdOf ByteArray.empty t361 0)) ∧ w32.cell? ⟨ad368.block, ad368.off + 1, none⟩ = some (.string (rdOf ByteArray.empty t361 1)) := hS_
               refine norm_ (a' := ?_) ?_ ?_
               rotate_left
               ·simp only [putAll, Act.put, List.setIfInBounds_toArray, List.set_cons_zero, List.set_cons_succ]
                rfl
               refine zO 17 (some 7) HT_ (fun K hK => ?_)
               refine box_step ?hg (N := 7) ?hd (cs := #[.int .i64 0, .int .i64 0, .int .i64 0, .int .i64 0]) (t := 23) ?hr ?_; (case hd => rfl); (case hg => rfl); (case hr => first | (go_simp; done) | (go_simp; rfl))
               intro gb372 hg w33 hbox hb
               have HS0_ := (hb.cell (World.block_lt_of_cell? _ _ (hHeld.1))).trans (hHeld.1)
               have HS1_ := (hb.cell (World.block_lt_of_cell? _ _ (hHeld.2.1))).trans (hHeld.2.1)
               have HS2_ := (hb.cell (World.block_lt_of_cell? _ _ (hHeld.2.2.1))).trans (hHeld.2.2.1)
               have HS3_ := (hb.cell (World.block_lt_of_cell? _ _ (hHeld.2.2.2))).trans (hHeld.2.2.2)
               have BK372 := Aside0.mk (hbox)
               have GW372 := zg HB hg
               have GE372 := GW372
               have NB352_372 := zl BK352 hg
               have NB372_352 := zr BK352 hg
               replace HO_4 := zo HO_4 hb; replace HO359 := zo HO359 hb; replace HO363 := zo HO363 hb; replace BK352 := zb BK352 hb; replace HB := zh HB hb; clear hb hbox hg
               refine hK.out _ _ ⟨HS0_, HS1_, HS2_, HS3_⟩ (fun hHeld => ?_)
               clear hK K
               refine zN 7 ?_
               exact norm_ zO2_0 (hJ3_7_11_15_17 (gb372) _ ⟨hHeld, (zs HO359), (zs HO363), (zs HO_4), (zq BK352), (zq BK372), GW372.out, GE372.out, NB352_372.out, NB372_352.out, (zy HB)⟩)
             rintro gb372 w33 ⟨hS_, h0_, h1_, h2_, h3_, h4_, h5_, h6_, h7_, h8_, h9_⟩
             have n0_ : Aside0 (Kd.R Kd.string 9 w33 w.heap.size (fun k_ => some k_ ≠ (.slice (some ad368) t361.length co30 : Value).ownBlock ∧ some k_ ≠ (.slice (some ad356) t353.length co26 : Value).ownBlock) (.slice (some ad360) t357.length co28) t357) := ⟨h0_⟩
             have n1_ : Aside0 (Kd.R Kd.string 9 w33 w.heap.size (fun k_ => some k_ ≠ (.slice (some ad360) t357.length co28 : Value).ownBlock ∧ some k_ ≠ (.slice (some ad356) t353.length co26 : Value).ownBlock) (.slice (some ad368) t361.length co30) t361) := ⟨h1_⟩
             have n2_ : Aside0 (Kd.R Kd.string 9 w33 w.heap.size (fun k_ => some k_ ≠ (.slice (some ad360) t357.length co28 : Value).ownBlock ∧ some k_ ≠ (.slice (some ad368) t361.length co30 : Value).ownBlock) (.slice (some ad356) t353.length co26) t353) := ⟨h2_⟩
             have n3_ : Aside0 (w33.heap[gb352]? = some (.cells #[.int .i64 0, .int .i64 0, .int .i64 0, .int .i64 0] 23 (0, 0))) := ⟨h3_⟩
             have n4_ : Aside0 (w33.heap[gb372]? = some (.cells #[.int .i64 0, .int .i64 0, .int .i64 0, .int .i64 0] 23 (0, 0))) := ⟨h4_⟩
             have n5_ : Aside0 (w.heap.size ≤ gb372) := ⟨h5_⟩
             have n6_ : Aside0 (w.heap.size ≤ gb372) := ⟨h6_⟩
             have n7_ : Aside0 (gb352 ≠ gb372) := ⟨h7_⟩
             have n8_ : Aside0 (gb372 ≠ gb352) := ⟨h8_⟩
             have n9_ : Aside0 (Below w.heap.size w w33) := ⟨h9_⟩
             clear HO_4; clear HO359; clear HO363; clear BK352; clear HB; clear h0_ h1_ h2_ h3_ h4_ h5_ h6_ h7_ h8_ h9_; have HO359 := n0_; have HO363 := n1_; have HO_4 := n2_; have BK352 := n3_; have BK372 := n4_; have GW372 := n5_; have GE372 := n6_; have NB352_372 := n7_; have NB372_352 := n8_; have HB := n9_; clear n0_ n1_ n2_ n3_ n4_ n5_ n6_ n7_ n8_ n9_
             have hHeld : w33.cell? ad356 = some (.string (rdOf ByteArray.empty t353 0)) ∧ w33.cell? ad360 = some (.string (rdOf ByteArray.empty t357 0)) ∧ w33.cell? ad368 = some (.string (rdOf ByteArray.empty t361 0)) ∧ w33.cell? ⟨ad368.block, ad368.off + 1, none⟩ = some (.string (rdOf ByteArray.empty t361 1)) := hS_
             refine norm_ (a' := ?_) ?_ ?_
             rotate_left
             ·simp only [putAll, Act.put, List.setIfInBounds_toArray, List.set_cons_zero, List.set_cons_succ]
              rfl
             refine zO 18 none HT_ (fun K hK => ?_)
             have hs34 : w33.cell? ⟨gb372, 0, none⟩ = some (.int .i64 0) := (blk_cell BK372.out 0).trans rfl
             have hfs34 := blk_frozen BK372.out 0
             have hns34_0 := NB352_372.out; have hms34_0 := NB372_352.out
             have hs35 : w33.cell? ⟨gb372, 1, none⟩ = some (.int .i64 0) := (blk_cell BK372.out 1).trans rfl
             have hfs35 := blk_frozen BK372.out 1
             have hns35_0 := NB352_372.out; have hms35_0 := NB372_352.out
             have hs36 : w33.cell? ⟨gb372, 2, none⟩ = some (.int .i64 0) := (blk_cell BK372.out 2).trans rfl
             have hfs36 := blk_frozen BK372.out 2
             have hns36_0 := NB352_372.out; have hms36_0 := NB372_352.out
             have hs37 : w33.cell? ⟨gb372, 3, none⟩ = some (.int .i64 0) := (blk_cell BK372.out 3).trans rfl
             have hfs37 := blk_frozen BK372.out 3
             have hns37_0 := NB352_372.out; have hms37_0 := NB372_352.out
             refine skip_ (w1 := ?_) (by rfl) rfl ?_ ?_
             rotate_left
             ·go_simp
              rfl
             refine hK.out _ _ ⟨((cell_far (p := ⟨gb372, _, none⟩) (by first | exact Kd.own_blk (Kd.R_ne HO_4.out BK372.out (by decide)) | (rw [add_block]; exact Kd.own_blk (Kd.R_ne HO_4.out BK372.out (by decide))) | (show (Addr.add _ _).block ≠ _; rw [add_block]; exact Kd.own_blk (Kd.R_ne HO_4.out BK372.out (by decide))) | (dsimp only; exact Kd.own_blk (Kd.R_ne HO_4.out BK372.out (by decide)))) _).trans (((cell_far (p := ⟨gb372, _, none⟩) (by first | exact Kd.own_blk (Kd.R_ne HO_4.out BK372.out (by decide)) | (rw [add_block]; exact Kd.own_blk (Kd.R_ne HO_4.out BK372.out (by decide))) | (show (Addr.add _ _).block ≠ _; rw [add_block]; exact Kd.own_blk (Kd.R_ne HO_4.out BK372.out (by decide))) | (dsimp only; exact Kd.own_blk (Kd.R_ne HO_4.out BK372.out (by decide)))) _).trans (((cell_far (p := ⟨gb372, _, none⟩) (by first | exact Kd.own_blk (Kd.R_ne HO_4.out BK372.out (by decide)) | (rw [add_block]; exact Kd.own_blk (Kd.R_ne HO_4.out BK372.out (by decide))) | (show (Addr.add _ _).block ≠ _; rw [add_block]; exact Kd.own_blk (Kd.R_ne HO_4.out BK372.out (by decide))) | (dsimp only; exact Kd.own_blk (Kd.R_ne HO_4.out BK372.out (by decide)))) _).trans (((cell_far (p := ⟨gb372, _, none⟩) (by first | exact Kd.own_blk (Kd.R_ne HO_4.out BK372.out (by decide)) | (rw [add_block]; exact Kd.own_blk (Kd.R_ne HO_4.out BK372.out (by decide))) | (show (Addr.add _ _).block ≠ _; rw [add_block]; exact Kd.own_blk (Kd.R_ne HO_4.out BK372.out (by decide))) | (dsimp only; exact Kd.own_blk (Kd.R_ne HO_4.out BK372.out (by decide)))) _).trans (hHeld.1)))))))), ((cell_far (p := ⟨gb372, _, none⟩) (by first | exact Kd.own_blk (Kd.R_ne HO359.out BK372.out (by decide)) | (rw [add_block]; exact Kd.own_blk (Kd.R_ne HO359.out BK372.out (by decide))) | (show (Addr.add _ _).block ≠ _; rw [add_block]; exact Kd.own_blk (Kd.R_ne HO359.out BK372.out (by decide))) | (dsimp only; exact Kd.own_blk (Kd.R_ne HO359.out BK372.out (by decide)))) _).trans (((cell_far (p := ⟨gb372, _, none⟩) (by first | exact Kd.own_blk (Kd.R_ne HO359.out BK372.out (by decide)) | (rw [add_block]; exact Kd.own_blk (Kd.R_ne HO359.out BK372.out (by decide))) | (show (Addr.add _ _).block ≠ _; rw [add_block]; exact Kd.own_blk (Kd.R_ne HO359.out BK372.out (by decide))) | (dsimp only; exact Kd.own_blk (Kd.R_ne HO359.out BK372.out (by decide)))) _).trans (((cell_far (p := ⟨gb372, _, none⟩) (by first | exact Kd.own_blk (Kd.R_ne HO359.out BK372.out (by decide)) | (rw [add_block]; exact Kd.own_blk (Kd.R_ne HO359.out BK372.out (by decide))) | (show (Addr.add _ _).block ≠ _; rw [add_block]; exact Kd.own_blk (Kd.R_ne HO359.out BK372.out (by decide))) | (dsimp only; exact Kd.own_blk (Kd.R_ne HO359.out BK372.out (by decide)))) _).trans (((cell_far (p := ⟨gb372, _, none⟩) (by first | exact Kd.own_blk (Kd.R_ne HO359.out BK372.out (by decide)) | (rw [add_block]; exact Kd.own_blk (Kd.R_ne HO359.out BK372.out (by decide))) | (show (Addr.add _ _).block ≠ _; rw [add_block]; exact Kd.own_blk (Kd.R_ne HO359.out BK372.out (by decide))) | (dsimp only; exact Kd.own_blk (Kd.R_ne HO359.out BK372.out (by decide)))) _).trans (hHeld.2.1)))))))), ((cell_far (p := ⟨gb372, _, none⟩) (by first | exact Kd.own_blk (Kd.R_ne HO363.out BK372.out (by decide)) | (rw [add_block]; exact Kd.own_blk (Kd.R_ne HO363.out BK372.out (by decide))) | (show (Addr.add _ _).block ≠ _; rw [add_block]; exact Kd.own_blk (Kd.R_ne HO363.out BK372.out (by decide))) | (dsimp only; exact Kd.own_blk (Kd.R_ne HO363.out BK372.out (by decide)))) _).trans (((cell_far (p := ⟨gb372, _, none⟩) (by first | exact Kd.own_blk (Kd.R_ne HO363.out BK372.out (by decide)) | (rw [add_block]; exact Kd.own_blk (Kd.R_ne HO363.out BK372.out (by decide))) | (show (Addr.add _ _).block ≠ _; rw [add_block]; exact Kd.own_blk (Kd.R_ne HO363.out BK372.out (by decide))) | (dsimp only; exact Kd.own_blk (Kd.R_ne HO363.out BK372.out (by decide)))) _).trans (((cell_far (p := ⟨gb372, _, none⟩) (by first | exact Kd.own_blk (Kd.R_ne HO363.out BK372.out (by decide)) | (rw [add_block]; exact Kd.own_blk (Kd.R_ne HO363.out BK372.out (by decide))) | (show (Addr.add _ _).block ≠ _; rw [add_block]; exact Kd.own_blk (Kd.R_ne HO363.out BK372.out (by decide))) | (dsimp only; exact Kd.own_blk (Kd.R_ne HO363.out BK372.out (by decide)))) _).trans (((cell_far (p := ⟨gb372, _, none⟩) (by first | exact Kd.own_blk (Kd.R_ne HO363.out BK372.out (by decide)) | (rw [add_block]; exact Kd.own_blk (Kd.R_ne HO363.out BK372.out (by decide))) | (show (Addr.add _ _).block ≠ _; rw [add_block]; exact Kd.own_blk (Kd.R_ne HO363.out BK372.out (by decide))) | (dsimp only; exact Kd.own_blk (Kd.R_ne HO363.out BK372.out (by decide)))) _).trans (hHeld.2.2.1)))))))), ((cell_far (p := ⟨gb372, _, none⟩) (by first | exact Kd.own_blk (Kd.R_ne HO363.out BK372.out (by decide)) | (rw [add_block]; exact Kd.own_blk (Kd.R_ne HO363.out BK372.out (by decide))) | (show (Addr.add _ _).block ≠ _; rw [add_block]; exact Kd.own_blk (Kd.R_ne HO363.out BK372.out (by decide))) | (dsimp only; exact Kd.own_blk (Kd.R_ne HO363.out BK372.out (by decide)))) _).trans (((cell_far (p := ⟨gb372, _, none⟩) (by first | exact Kd.own_blk (Kd.R_ne HO363.out BK372.out (by decide)) | (rw [add_block]; exact Kd.own_blk (Kd.R_ne HO363.out BK372.out (by decide))) | (show (Addr.add _ _).block ≠ _; rw [add_block]; exact Kd.own_blk (Kd.R_ne HO363.out BK372.out (by decide))) | (dsimp only; exact Kd.own_blk (Kd.R_ne HO363.out BK372.out (by decide)))) _).trans (((cell_far (p := ⟨gb372, _, none⟩) (by first | exact Kd.own_blk (Kd.R_ne HO363.out BK372.out (by decide)) | (rw [add_block]; exact Kd.own_blk (Kd.R_ne HO363.out BK372.out (by decide))) | (show (Addr.add _ _).block ≠ _; rw [add_block]; exact Kd.own_blk (Kd.R_ne HO363.out BK372.out (by decide))) | (dsimp only; exact Kd.own_blk (Kd.R_ne HO363.out BK372.out (by decide)))) _).trans (((cell_far (p := ⟨gb372, _, none⟩) (by first | exact Kd.own_blk (Kd.R_ne HO363.out BK372.out (by decide)) | (rw [add_block]; exact Kd.own_blk (Kd.R_ne HO363.out BK372.out (by decide))) | (show (Addr.add _ _).block ≠ _; rw [add_block]; exact Kd.own_blk (Kd.R_ne HO363.out BK372.out (by decide))) | (dsimp only; exact Kd.own_blk (Kd.R_ne HO363.out BK372.out (by decide)))) _).trans (hHeld.2.2.2))))))))⟩ (fun hHeld => ?_)
             clear hK K
             refine done_ (done_of HT_.out (by kernel_rfl)) ?_
             have hnb38 := NB372_352.out; have hnc38 := NB352_372.out
             obtain ⟨_, _, _, _, _, _, _, _⟩ := zc4 BK372
             try go_wp2_with (first | ((with_reducible refine gate_callee (f := 28) rfl ?_); refine zG (some 53) Tryd.func28 #[.agg #[.int .i64 t365, .int .i64 t367, .int .i64 t369, .int .i64 t371]] ?_; (with_reducible refine (spec_htGood.calls kj2 t365 t367 t369 t371 true _ A24.out).mono ?_); rintro e w40 ⟨rfl, hb⟩; refine ⟨_, rfl, ?_⟩; have n0_ := Aside0.mk (Kd.R_below (by (with_reducible repeat (first | apply Kd.R_alloc | apply Kd.R_drewN | apply Kd.R_drew)); exact (Kd.R_mono (Kd.R_far (p := ⟨gb372, 3, none⟩) (Kd.R_far (p := ⟨gb372, 2, none⟩) (Kd.R_far (p := ⟨gb372, 1, none⟩) (Kd.R_far (p := ⟨gb372, 0, none⟩) (Kd.R_types HO_4.out BK372.out (by decide)) (fun _ hk => hk.2) (.int .i64 t365)) (fun _ hk => hk.2) (.int .i64 t367)) (fun _ hk => hk.2) (.int .i64 t369)) (fun _ hk => hk.2) (.int .i64 t371)) (fun _ h_ => h_.1))) hb); have n1_ := Aside0.mk (Kd.R_below (by (with_reducible repeat (first | apply Kd.R_alloc | apply Kd.R_drewN | apply Kd.R_drew)); exact (Kd.R_mono (Kd.R_far (p := ⟨gb372, 3, none⟩) (Kd.R_far (p := ⟨gb372, 2, none⟩) (Kd.R_far (p := ⟨gb372, 1, none⟩) (Kd.R_far (p := ⟨gb372, 0, none⟩) (Kd.R_types HO359.out BK372.out (by decide)) (fun _ hk => hk.2) (.int .i64 t365)) (fun _ hk => hk.2) (.int .i64 t367)) (fun _ hk => hk.2) (.int .i64 t369)) (fun _ hk => hk.2) (.int .i64 t371)) (fun _ h_ => h_.1))) hb); have n2_ := Aside0.mk (Kd.R_below (by (with_reducible repeat (first | apply Kd.R_alloc | apply Kd.R_drewN | apply Kd.R_drew)); exact (Kd.R_mono (Kd.R_far (p := ⟨gb372, 3, none⟩) (Kd.R_far (p := ⟨gb372, 2, none⟩) (Kd.R_far (p := ⟨gb372, 1, none⟩) (Kd.R_far (p := ⟨gb372, 0, none⟩) (Kd.R_types HO363.out BK372.out (by decide)) (fun _ hk => hk.2) (.int .i64 t365)) (fun _ hk => hk.2) (.int .i64 t367)) (fun _ hk => hk.2) (.int .i64 t369)) (fun _ hk => hk.2) (.int .i64 t371)) (fun _ h_ => h_.1))) hb); have n4_ := Aside0.mk (blk_below (g := gb372) (o := .cells #[.int .i64 t365, .int .i64 t367, .int .i64 t369, .int .i64 t371] 23 (0, 0)) (zw BK372) hb); replace BK352 := zb BK352 hb; replace HB := zh HB hb; clear HO_4; have HO_4 := n0_; clear n0_; clear HO359; have HO359 := n1_; clear n1_; clear HO363; have HO363 := n2_; clear n2_; clear BK372; have BK372 := n4_; clear n4_; clear hb; obtain ⟨_, _, _, _, _, _, _, _⟩ := zc4 BK372; obtain ⟨_, _, _, _, _, _, _, _⟩ := zc4 BK352))
             refine bodyPost_ret (results_ct rfl _ _ gb352 23 #[.int .i64 t365, .int .i64 t367, .int .i64 t369, .int .i64 t371] (0, 0) _ rfl (zw BK352) Tryd.underlying23 rfl (by kernel_rfl)) rfl ?_
             exact ⟨zt, zy HB⟩
            ·replace c25 := Bool.eq_false_iff.mpr c25
             subst c25; rw [if_neg (show ¬ (false = true) by decide)] at H; simp only [Option.some.injEq, Prod.mk.injEq] at H; obtain ⟨rfl, rfl, rfl, rfl, rfl⟩ := H
             obtain ⟨Ao43, co43, eo43⟩ := Kd.R_slice HO_4.out
             subst eo43
             have p356 : 0 ≤ (1 : Int) := zO2_6
             have q356 : 1 < (t353.length : Int) := of_decide_eq_true zO2_5
             obtain ⟨ad356, e356, hx356_0⟩ := Kd.at_string (Kd.R_reads' HO_4.out).2.2 1 p356 q356
             cases e356
             (try simp only [show (1 : Int).toNat = 1 from rfl, Nat.reduceMul, Nat.reduceEqDiff, Go.Addr.add, ↓reduceIte] at hx356_0)
             have qi356 : (1 < t353.length) = True := eq_true zO2_6
             (try rw [show ((1 : Int)).toNat = 1 from rfl] at hx356_0)
             replace p356 := eq_true p356; replace q356 := eq_true q356
             try go_wp2_with (first | ((with_reducible refine gate_callee (f := 54) rfl ?_); refine zG (some 22) Tryd.func54 #[.string (rdOf ByteArray.empty t353 1), .int .u8 58] ?_; (with_reducible refine (spec_l1Split.calls kj2 (rdOf ByteArray.empty t353 1) 58 t357 _ A11.out).mono ?_); rintro e w44 ⟨v358, rfl, ho0, hb⟩; refine ⟨_, rfl, ?_⟩; have n0_ := Aside0.mk (Kd.R_elder' (zs HO_4) (Kd.R_base ho0) hb); have HO359 := Aside0.mk (Kd.R_lower (Kd.R_new' ho0 (Kd.R_lt (zs HO_4))) (below_size (zy HB))); replace BK352 := zb BK352 hb; replace HB := zh HB hb; clear HO_4; have HO_4 := n0_; clear n0_; clear hb ho0; obtain ⟨Ao45, co45, eo45⟩ := Kd.R_slice HO359.out; subst eo45; have p360 : 0 ≤ (1 : Int) := zO2_6; have q360 : 1 < (t357.length : Int) := of_decide_eq_true zO2_5; obtain ⟨ad360, e360, hx360_0⟩ := Kd.at_string (Kd.R_reads' HO359.out).2.2 1 p360 q360; cases e360; (try simp only [show (1 : Int).toNat = 1 from rfl, Nat.reduceMul, Nat.reduceEqDiff, Go.Addr.add, ↓reduceIte] at hx360_0); have qi360 : (1 < t357.length) = True := eq_true zO2_6; (try rw [show ((1 : Int)).toNat = 1 from rfl] at hx360_0); replace p360 := eq_true p360; replace q360 := eq_true q360) | ((with_reducible refine gate_callee (f := 54) rfl ?_); refine zG (some 30) Tryd.func54 #[.string (rdOf ByteArray.empty t357 1), .int .u8 47] ?_; (with_reducible refine (spec_l1Split.calls kj2 (rdOf ByteArray.empty t357 1) 47 t361 _ A14.out).mono ?_); rintro e w46 ⟨v362, rfl, ho0, hb⟩; refine ⟨_, rfl, ?_⟩; have n0_ := Aside0.mk (Kd.R_elder' (zs HO_4) (Kd.R_base ho0) hb); have n1_ := Aside0.mk (Kd.R_elder' (zs HO359) (Kd.R_base ho0) hb); have HO363 := Aside0.mk (Kd.R_lower (Kd.R_new' (Kd.R_new' ho0 (Kd.R_lt (zs HO_4))) (Kd.R_lt (zs HO359))) (below_size (zy HB))); replace BK352 := zb BK352 hb; replace HB := zh HB hb; clear HO_4; have HO_4 := n0_; clear n0_; clear HO359; have HO359 := n1_; clear n1_; clear hb ho0; obtain ⟨Ao47, co47, eo47⟩ := Kd.R_slice HO363.out; subst eo47))
             replace HO_4 := Aside0.mk (Kd.R_drew HO_4.out); replace HO359 := Aside0.mk (Kd.R_drew HO359.out); replace HO363 := Aside0.mk (Kd.R_drew HO363.out); replace BK352 := Aside0.mk (blk_drew BK352.out); replace HB := Aside0.mk (below_drew1 HB.out)
             have p364 : 0 ≤ (0 : Int) := zO2_6
             have q364 : 0 < (t353.length : Int) := of_decide_eq_true zO2_5
             obtain ⟨ad364, e364, hx364_0⟩ := Kd.at_string (Kd.R_reads' HO_4.out).2.2 0 p364 q364
             obtain rfl : ad356 = ad364 := (by injection e364)
             have qi364 : (0 < t353.length) = True := eq_true zO2_6
             (try rw [show ((0 : Int)).toNat = 0 from rfl] at hx364_0)
             (try rw [Addr.add_zero'] at hx364_0)
             replace p364 := eq_true p364; replace q364 := eq_true q364
             have p366 : 0 ≤ (0 : Int) := zO2_6
             have q366 : 0 < (t357.length : Int) := of_decide_eq_true zO2_5
             obtain ⟨ad366, e366, hx366_0⟩ := Kd.at_string (Kd.R_reads' HO359.out).2.2 0 p366 q366
             obtain rfl : ad360 = ad366 := (by injection e366)
             have qi366 : (0 < t357.length) = True := eq_true zO2_6
             (try rw [show ((0 : Int)).toNat = 0 from rfl] at hx366_0)
             (try rw [Addr.add_zero'] at hx366_0)
             replace p366 := eq_true p366; replace q366 := eq_true q366
             have p368 : 0 ≤ (0 : Int) := zO2_6
             have q368 : 0 < (t361.length : Int) := of_decide_eq_true zO2_5
             obtain ⟨ad368, e368, hx368_0⟩ := Kd.at_string (Kd.R_reads' HO363.out).2.2 0 p368 q368
             cases e368
             have qi368 : (0 < t361.length) = True := eq_true zO2_6
             (try rw [show ((0 : Int)).toNat = 0 from rfl] at hx368_0)
             (try rw [Addr.add_zero'] at hx368_0)
             replace p368 := eq_true p368; replace q368 := eq_true q368
             have p370 : 0 ≤ (1 : Int) := zO2_6
             have q370 : 1 < (t361.length : Int) := of_decide_eq_true zO2_5
             obtain ⟨ad370, e370, hx370_0⟩ := Kd.at_string (Kd.R_reads' HO363.out).2.2 1 p370 q370
             obtain rfl : ad368 = ad370 := (by injection e370)
             (try simp only [show (1 : Int).toNat = 1 from rfl, Nat.reduceMul, Nat.reduceEqDiff, Go.Addr.add, ↓reduceIte] at hx370_0)
             have qi370 : (1 < t361.length) = True := eq_true zO2_6
             (try rw [show ((1 : Int)).toNat = 1 from rfl] at hx370_0)
             replace p370 := eq_true p370; replace q370 := eq_true q370
             refine start_ (n := 19) (S := fun w' => w'.cell? ad356 = some (.string (rdOf ByteArray.empty t353 0)) ∧ w'.cell? ad360 = some (.string (rdOf ByteArray.empty t357 0)) ∧ w'.cell? ad368 = some (.string (rdOf ByteArray.empty t361 0)) ∧ w'.cell? ⟨ad368.block, ad368.off + 1, none⟩ = some (.string (rdOf ByteArray.empty t361 1))) (ds := []) #[false, false, false, false, false, false, false, false, false, false, false, false, false, false, false, false, false, false, false] (by kernel_rfl) rfl rfl ⟨hx364_0, hx366_0, hx368_0, hx370_0⟩ (fun hHeld => ?_); refine with_tabW spec_htParse.tab10 spec_htParse.bits10 (fun HT_ HW_ => ?_)
             generalize w46.drew = w48 at HO_4 HO359 HO363 BK352 HB hx364_0 hx366_0 hx368_0 hx370_0 hHeld ⊢
             refine zA 0 35 HT_ ?_
             refine zA 1 36 HT_ ?_
             refine zA 4 39 HT_ ?_
             refine zA 5 40 HT_ ?_
             refine zA 8 43 HT_ ?_
             refine zA 9 44 HT_ ?_
             refine zA 12 47 HT_ ?_
             refine zA 13 48 HT_ ?_
             refine zT 2 37 HT_ HW_ hHeld ?_
             refine zT 6 41 HT_ HW_ hHeld ?_
             refine zT 10 45 HT_ HW_ hHeld ?_
             refine zT 14 49 HT_ HW_ hHeld ?_
             refine join_ (σ := Nat) 1 #[true, true, true, true, true, true, true, true, true, true, true, true, true, true, true, true, true, true, false] (fun s_ => [(38, .int .i64 t365), (42, .int .i64 t367), (46, .int .i64 t369), (50, .int .i64 t371), (7, .pointer (some ⟨s_, 0, none⟩)), (51, .agg #[.int .i64 t365, .int .i64 t367, .int .i64 t369, .int .i64 t371])]) (fun s_ w' => (w'.cell? ad356 = some (.string (rdOf ByteArray.empty t353 0)) ∧ w'.cell? ad360 = some (.string (rdOf ByteArray.empty t357 0)) ∧ w'.cell? ad368 = some (.string (rdOf ByteArray.empty t361 0)) ∧ w'.cell? ⟨ad368.block, ad368.off + 1, none⟩ = some (.string (rdOf ByteArray.empty t361 1))) ∧ (Kd.R Kd.string 9 w' w.heap.size (fun k_ => some k_ ≠ (.slice (some ad368) t361.length co47 : Value).ownBlock ∧ some k_ ≠ (.slice (some ad356) t353.length co43 : Value).ownBlock) (.slice (some ad360) t357.length co45) t357) ∧ (Kd.R Kd.string 9 w' w.heap.size (fun k_ => some k_ ≠ (.slice (some ad360) t357.length co45 : Value).ownBlock ∧ some k_ ≠ (.slice (some ad356) t353.length co43 : Value).ownBlock) (.slice (some ad368) t361.length co47) t361) ∧ (Kd.R Kd.string 9 w' w.heap.size (fun k_ => some k_ ≠ (.slice (some ad360) t357.length co45 : Value).ownBlock ∧ some k_ ≠ (.slice (some ad368) t361.length co47 : Value).ownBlock) (.slice (some ad356) t353.length co43) t353) ∧ (w'.heap[gb352]? = some (.cells #[.int .i64 0, .int .i64 0, .int .i64 0, .int .i64 0] 23 (0, 0))) ∧ (w'.heap[s_]? = some (.cells #[.int .i64 0, .int .i64 0, .int .i64 0, .int .i64 0] 23 (0, 0))) ∧ (w.heap.size ≤ s_) ∧ (w.heap.size ≤ s_) ∧ (gb352 ≠ s_) ∧ (s_ ≠ gb352) ∧ (Below w.heap.size w w')) ?_ ?_
             rotate_left
             ·intro hJ3_7_11_15_17
              refine join_ (σ := Unit) 2 #[true, true, true, true, true, true, true, true, true, true, true, true, true, true, true, true, true, false, false] (fun s_ => [(38, .int .i64 t365), (42, .int .i64 t367), (46, .int .i64 t369), (50, .int .i64 t371), (51, .agg #[.int .i64 t365, .int .i64 t367, .int .i64 t369, .int .i64 t371])]) (fun s_ w' => (w'.cell? ad356 = some (.string (rdOf ByteArray.empty t353 0)) ∧ w'.cell? ad360 = some (.string (rdOf ByteArray.empty t357 0)) ∧ w'.cell? ad368 = some (.string (rdOf ByteArray.empty t361 0)) ∧ w'.cell? ⟨ad368.block, ad368.off + 1, none⟩ = some (.string (rdOf ByteArray.empty t361 1))) ∧ (Kd.R Kd.string 9 w' w.heap.size (fun k_ => some k_ ≠ (.slice (some ad368) t361.length co47 : Value).ownBlock ∧ some k_ ≠ (.slice (some ad356) t353.length co43 : Value).ownBlock) (.slice (some ad360) t357.length co45) t357) ∧ (Kd.R Kd.string 9 w' w.heap.size (fun k_ => some k_ ≠ (.slice (some ad360) t357.length co45 : Value).ownBlock ∧ some k_ ≠ (.slice (some ad356) t353.length co43 : Value).ownBlock) (.slice (some ad368) t361.length co47) t361) ∧ (Kd.R Kd.string 9 w' w.heap.size (fun k_ => some k_ ≠ (.slice (some ad360) t357.length co45 : Value).ownBlock ∧ some k_ ≠ (.slice (some ad368) t361.length co47 : Value).ownBlock) (.slice (some ad356) t353.length co43) t353) ∧ (w'.heap[gb352]? = some (.cells #[.int .i64 0, .int .i64 0, .int .i64 0, .int .i64 0] 23 (0, 0))) ∧ (Below w.heap.size w w')) ?_ ?_
              rotate_left
              ·intro hJ3_7_11_15
               refine join_ (σ := Nat) 3 #[true, true, true, true, true, true, true, true, true, true, true, true, true, true, true, false, false, true, false] (fun s_ => [(38, .int .i64 t365), (42, .int .i64 t367), (46, .int .i64 t369), (7, .pointer (some ⟨s_, 0, none⟩))]) (fun s_ w' => (w'.cell? ad356 = some (.string (rdOf ByteArray.empty t353 0)) ∧ w'.cell? ad360 = some (.string (rdOf ByteArray.empty t357 0)) ∧ w'.cell? ad368 = some (.string (rdOf ByteArray.empty t361 0)) ∧ w'.cell? ⟨ad368.block, ad368.off + 1, none⟩ = some (.string (rdOf ByteArray.empty t361 1))) ∧ (Kd.R Kd.string 9 w' w.heap.size (fun k_ => some k_ ≠ (.slice (some ad368) t361.length co47 : Value).ownBlock ∧ some k_ ≠ (.slice (some ad356) t353.length co43 : Value).ownBlock) (.slice (some ad360) t357.length co45) t357) ∧ (Kd.R Kd.string 9 w' w.heap.size (fun k_ => some k_ ≠ (.slice (some ad360) t357.length co45 : Value).ownBlock ∧ some k_ ≠ (.slice (some ad356) t353.length co43 : Value).ownBlock) (.slice (some ad368) t361.length co47) t361) ∧ (Kd.R Kd.string 9 w' w.heap.size (fun k_ => some k_ ≠ (.slice (some ad360) t357.length co45 : Value).ownBlock ∧ some k_ ≠ (.slice (some ad368) t361.length co47 : Value).ownBlock) (.slice (some ad356) t353.length co43) t353) ∧ (w'.heap[gb352]? = some (.cells #[.int .i64 0, .int .i64 0, .int .i64 0, .int .i64 0] 23 (0, 0))) ∧ (w'.heap[s_]? = some (.cells #[.int .i64 0, .int .i64 0, .int .i64 0, .int .i64 0] 23 (0, 0))) ∧ (w.heap.size ≤ s_) ∧ (w.heap.size ≤ s_) ∧ (gb352 ≠ s_) ∧ (s_ ≠ gb352) ∧ (Below w.heap.size w w')) ?_ ?_
               rotate_left
               ·intro hJ3_7_11_17
                refine join_ (σ := Unit) 4 #[true, true, true, true, true, true, true, true, true, true, true, true, true, true, true, false, false, false, false] (fun s_ => [(38, .int .i64 t365), (42, .int .i64 t367), (46, .int .i64 t369)]) (fun s_ w' => (w'.cell? ad356 = some (.string (rdOf ByteArray.empty t353 0)) ∧ w'.cell? ad360 = some (.string (rdOf ByteArray.empty t357 0)) ∧ w'.cell? ad368 = some (.string (rdOf ByteArray.empty t361 0)) ∧ w'.cell? ⟨ad368.block, ad368.off + 1, none⟩ = some (.string (rdOf ByteArray.empty t361 1))) ∧ (Kd.R Kd.string 9 w' w.heap.size (fun k_ => some k_ ≠ (.slice (some ad368) t361.length co47 : Value).ownBlock ∧ some k_ ≠ (.slice (some ad356) t353.length co43 : Value).ownBlock) (.slice (some ad360) t357.length co45) t357) ∧ (Kd.R Kd.string 9 w' w.heap.size (fun k_ => some k_ ≠ (.slice (some ad360) t357.length co45 : Value).ownBlock ∧ some k_ ≠ (.slice (some ad356) t353.length co43 : Value).ownBlock) (.slice (some ad368) t361.length co47) t361) ∧ (Kd.R Kd.string 9 w' w.heap.size (fun k_ => some k_ ≠ (.slice (some ad360) t357.length co45 : Value).ownBlock ∧ some k_ ≠ (.slice (some ad368) t361.length co47 : Value).ownBlock) (.slice (some ad356) t353.length co43) t353) ∧ (w'.heap[gb352]? = some (.cells #[.int .i64 0, .int .i64 0, .int .i64 0, .int .i64 0] 23 (0, 0))) ∧ (Below w.heap.size w w')) ?_ ?_
                rotate_left
                ·intro hJ3_7_11
                 refine join_ (σ := Nat) 4 #[true, true, true, true, true, true, true, true, true, true, true, false, true, true, true, false, false, true, false] (fun s_ => [(38, .int .i64 t365), (42, .int .i64 t367), (7, .pointer (some ⟨s_, 0, none⟩))]) (fun s_ w' => (w'.cell? ad356 = some (.string (rdOf ByteArray.empty t353 0)) ∧ w'.cell? ad360 = some (.string (rdOf ByteArray.empty t357 0)) ∧ w'.cell? ad368 = some (.string (rdOf ByteArray.empty t361 0)) ∧ w'.cell? ⟨ad368.block, ad368.off + 1, none⟩ = some (.string (rdOf ByteArray.empty t361 1))) ∧ (Kd.R Kd.string 9 w' w.heap.size (fun k_ => some k_ ≠ (.slice (some ad368) t361.length co47 : Value).ownBlock ∧ some k_ ≠ (.slice (some ad356) t353.length co43 : Value).ownBlock) (.slice (some ad360) t357.length co45) t357) ∧ (Kd.R Kd.string 9 w' w.heap.size (fun k_ => some k_ ≠ (.slice (some ad360) t357.length co45 : Value).ownBlock ∧ some k_ ≠ (.slice (some ad356) t353.length co43 : Value).ownBlock) (.slice (some ad368) t361.length co47) t361) ∧ (Kd.R Kd.string 9 w' w.heap.size (fun k_ => some k_ ≠ (.slice (some ad360) t357.length co45 : Value).ownBlock ∧ some k_ ≠ (.slice (some ad368) t361.length co47 : Value).ownBlock) (.slice (some ad356) t353.length co43) t353) ∧ (w'.heap[gb352]? = some (.cells #[.int .i64 0, .int .i64 0, .int .i64 0, .int .i64 0] 23 (0, 0))) ∧ (w'.heap[s_]? = some (.cells #[.int .i64 0, .int .i64 0, .int .i64 0, .int .i64 0] 23 (0, 0))) ∧ (w.heap.size ≤ s_) ∧ (w.heap.size ≤ s_) ∧ (gb352 ≠ s_) ∧ (s_ ≠ gb352) ∧ (Below w.heap.size w w')) ?_ ?_
                 rotate_left
                 ·intro hJ3_7_17
                  refine join_ (σ := Unit) 5 #[true, true, true, true, true, true, true, true, true, true, true, false, true, true, true, false, false, false, false] (fun s_ => [(38, .int .i64 t365), (42, .int .i64 t367)]) (fun s_ w' => (w'.cell? ad356 = some (.string (rdOf ByteArray.empty t353 0)) ∧ w'.cell? ad360 = some (.string (rdOf ByteArray.empty t357 0)) ∧ w'.cell? ad368 = some (.string (rdOf ByteArray.empty t361 0)) ∧ w'.cell? ⟨ad368.block, ad368.off + 1, none⟩ = some (.string (rdOf ByteArray.empty t361 1))) ∧ (Kd.R Kd.string 9 w' w.heap.size (fun k_ => some k_ ≠ (.slice (some ad368) t361.length co47 : Value).ownBlock ∧ some k_ ≠ (.slice (some ad356) t353.length co43 : Value).ownBlock) (.slice (some ad360) t357.length co45) t357) ∧ (Kd.R Kd.string 9 w' w.heap.size (fun k_ => some k_ ≠ (.slice (some ad360) t357.length co45 : Value).ownBlock ∧ some k_ ≠ (.slice (some ad356) t353.length co43 : Value).ownBlock) (.slice (some ad368) t361.length co47) t361) ∧ (Kd.R Kd.string 9 w' w.heap.size (fun k_ => some k_ ≠ (.slice (some ad360) t357.length co45 : Value).ownBlock ∧ some k_ ≠ (.slice (some ad368) t361.length co47 : Value).ownBlock) (.slice (some ad356) t353.length co43) t353) ∧ (w'.heap[gb352]? = some (.cells #[.int .i64 0, .int .i64 0, .int .i64 0, .int .i64 0] 23 (0, 0))) ∧ (Below w.heap.size w w')) ?_ ?_
                  rotate_left
                  ·intro hJ3_7
                   refine join_ (σ := Nat) 5 #[true, true, true, true, true, true, true, false, true, true, true, false, true, true, true, false, false, true, false] (fun s_ => [(38, .int .i64 t365), (7, .pointer (some ⟨s_, 0, none⟩))]) (fun s_ w' => (w'.cell? ad356 = some (.string (rdOf ByteArray.empty t353 0)) ∧ w'.cell? ad360 = some (.string (rdOf ByteArray.empty t357 0)) ∧ w'.cell? ad368 = some (.string (rdOf ByteArray.empty t361 0)) ∧ w'.cell? ⟨ad368.block, ad368.off + 1, none⟩ = some (.string (rdOf ByteArray.empty t361 1))) ∧ (Kd.R Kd.string 9 w' w.heap.size (fun k_ => some k_ ≠ (.slice (some ad368) t361.length co47 : Value).ownBlock ∧ some k_ ≠ (.slice (some ad356) t353.length co43 : Value).ownBlock) (.slice (some ad360) t357.length co45) t357) ∧ (Kd.R Kd.string 9 w' w.heap.size (fun k_ => some k_ ≠ (.slice (some ad360) t357.length co45 : Value).ownBlock ∧ some k_ ≠ (.slice (some ad356) t353.length co43 : Value).ownBlock) (.slice (some ad368) t361.length co47) t361) ∧ (Kd.R Kd.string 9 w' w.heap.size (fun k_ => some k_ ≠ (.slice (some ad360) t357.length co45 : Value).ownBlock ∧ some k_ ≠ (.slice (some ad368) t361.length co47 : Value).ownBlock) (.slice (some ad356) t353.length co43) t353) ∧ (w'.heap[gb352]? = some (.cells #[.int .i64 0, .int .i64 0, .int .i64 0, .int .i64 0] 23 (0, 0))) ∧ (w'.heap[s_]? = some (.cells #[.int .i64 0, .int .i64 0, .int .i64 0, .int .i64 0] 23 (0, 0))) ∧ (w.heap.size ≤ s_) ∧ (w.heap.size ≤ s_) ∧ (gb352 ≠ s_) ∧ (s_ ≠ gb352) ∧ (Below w.heap.size w w')) ?_ ?_
                   rotate_left
                   ·intro hJ3_17
                    refine join_ (σ := Unit) 6 #[true, true, true, true, true, true, true, false, true, true, true, false, true, true, true, false, false, false, false] (fun s_ => [(38, .int .i64 t365)]) (fun s_ w' => (w'.cell? ad356 = some (.string (rdOf ByteArray.empty t353 0)) ∧ w'.cell? ad360 = some (.string (rdOf ByteArray.empty t357 0)) ∧ w'.cell? ad368 = some (.string (rdOf ByteArray.empty t361 0)) ∧ w'.cell? ⟨ad368.block, ad368.off + 1, none⟩ = some (.string (rdOf ByteArray.empty t361 1))) ∧ (Kd.R Kd.string 9 w' w.heap.size (fun k_ => some k_ ≠ (.slice (some ad368) t361.length co47 : Value).ownBlock ∧ some k_ ≠ (.slice (some ad356) t353.length co43 : Value).ownBlock) (.slice (some ad360) t357.length co45) t357) ∧ (Kd.R Kd.string 9 w' w.heap.size (fun k_ => some k_ ≠ (.slice (some ad360) t357.length co45 : Value).ownBlock ∧ some k_ ≠ (.slice (some ad356) t353.length co43 : Value).ownBlock) (.slice (some ad368) t361.length co47) t361) ∧ (Kd.R Kd.string 9 w' w.heap.size (fun k_ => some k_ ≠ (.slice (some ad360) t357.length co45 : Value).ownBlock ∧ some k_ ≠ (.slice (some ad368) t361.length co47 : Value).ownBlock) (.slice (some ad356) t353.length co43) t353) ∧ (w'.heap[gb352]? = some (.cells #[.int .i64 0, .int .i64 0, .int .i64 0, .int .i64 0] 23 (0, 0))) ∧ (Below w.heap.size w w')) ?_ ?_
                    rotate_left
                    ·intro hJ3
                     refine join_ (σ := Nat) 6 #[true, true, true, false, true, true, true, false, true, true, true, false, true, true, true, false, false, true, false] (fun s_ => [(7, .pointer (some ⟨s_, 0, none⟩))]) (fun s_ w' => (w'.cell? ad356 = some (.string (rdOf ByteArray.empty t353 0)) ∧ w'.cell? ad360 = some (.string (rdOf ByteArray.empty t357 0)) ∧ w'.cell? ad368 = some (.string (rdOf ByteArray.empty t361 0)) ∧ w'.cell? ⟨ad368.block, ad368.off + 1, none⟩ = some (.string (rdOf ByteArray.empty t361 1))) ∧ (Kd.R Kd.string 9 w' w.heap.size (fun k_ => some k_ ≠ (.slice (some ad368) t361.length co47 : Value).ownBlock ∧ some k_ ≠ (.slice (some ad356) t353.length co43 : Value).ownBlock) (.slice (some ad360) t357.length co45) t357) ∧ (Kd.R Kd.string 9 w' w.heap.size (fun k_ => some k_ ≠ (.slice (some ad360) t357.length co45 : Value).ownBlock ∧ some k_ ≠ (.slice (some ad356) t353.length co43 : Value).ownBlock) (.slice (some ad368) t361.length co47) t361) ∧ (Kd.R Kd.string 9 w' w.heap.size (fun k_ => some k_ ≠ (.slice (some ad360) t357.length co45 : Value).ownBlock ∧ some k_ ≠ (.slice (some ad368) t361.length co47 : Value).ownBlock) (.slice (some ad356) t353.length co43) t353) ∧ (w'.heap[gb352]? = some (.cells #[.int .i64 0, .int .i64 0, .int .i64 0, .int .i64 0] 23 (0, 0))) ∧ (w'.heap[s_]? = some (.cells #[.int .i64 0, .int .i64 0, .int .i64 0, .int .i64 0] 23 (0, 0))) ∧ (w.heap.size ≤ s_) ∧ (w.heap.size ≤ s_) ∧ (gb352 ≠ s_) ∧ (s_ ≠ gb352) ∧ (Below w.heap.size w w')) ?_ ?_
                     rotate_left
                     ·intro hJ17
                      refine two_ (i := 3) (j := 17) (Ni := some 38) (Nj := some 7) #[true, true, true, true, true, true, true, false, true, true, true, false, true, true, true, false, false, false, false] #[true, true, true, false, true, true, true, false, true, true, true, false, true, true, true, false, false, true, false] rfl rfl rfl rfl (two_of HT_.out (by kernel_rfl)) (by decide) (by decide) (fun K hK => ?_) (fun K hK => ?_)
                      ·skip
                       refine goes_ Tryd.func55 (by kernel_rfl) rfl #[.string (rdOf ByteArray.empty t353 0)] (by rfl) rfl rfl zO2_4 ?_
                       with_reducible refine (spec_l1Read.calls kj2 (rdOf ByteArray.empty t353 0) t365 _ A17.out).mono ?_
                       rintro e w' ⟨rfl, ⟨nd, rfl⟩⟩
                       refine ⟨_, rfl, ?_⟩
                       refine hK.out _ _ ⟨hHeld.1, hHeld.2.1, hHeld.2.2.1, hHeld.2.2.2⟩ (fun hHeld => ?_)
                       clear hK K
                       refine zN 38 ?_
                       exact norm_ zO2_0 (hJ3 () _ ⟨hHeld, zO2_1, zO2_2, zO2_3, (zq BK352), (zy HB)⟩)
                      ·skip
                       refine box_step ?hg (N := 7) ?hd (cs := #[.int .i64 0, .int .i64 0, .int .i64 0, .int .i64 0]) (t := 23) ?hr ?_; (case hd => rfl); (case hg => rfl); (case hr => first | (go_simp; done) | (go_simp; rfl))
                       intro gb372 hg w49 hbox hb
                       have HS0_ := (hb.cell (World.block_lt_of_cell? _ _ (hHeld.1))).trans (hHeld.1)
                       have HS1_ := (hb.cell (World.block_lt_of_cell? _ _ (hHeld.2.1))).trans (hHeld.2.1)
                       have HS2_ := (hb.cell (World.block_lt_of_cell? _ _ (hHeld.2.2.1))).trans (hHeld.2.2.1)
                       have HS3_ := (hb.cell (World.block_lt_of_cell? _ _ (hHeld.2.2.2))).trans (hHeld.2.2.2)
                       have BK372 := Aside0.mk (hbox)
                       have GW372 := zg HB hg
                       have GE372 := GW372
                       have NB352_372 := zl BK352 hg
                       have NB372_352 := zr BK352 hg
                       replace HO_4 := zo HO_4 hb; replace HO359 := zo HO359 hb; replace HO363 := zo HO363 hb; replace BK352 := zb BK352 hb; replace HB := zh HB hb; clear hb hbox hg
                       refine hK.out _ _ ⟨HS0_, HS1_, HS2_, HS3_⟩ (fun hHeld => ?_)
                       clear hK K
                       refine zN 7 ?_
                       exact norm_ zO2_0 (hJ17 (gb372) _ ⟨hHeld, zO2_1, zO2_2, zO2_3, (zq BK352), (zq BK372), GW372.out, GE372.out, NB352_372.out, NB372_352.out, (zy HB)⟩)
                     ·skip
                      rintro gb372 w50 ⟨hS_, h0_, h1_, h2_, h3_, h4_, h5_, h6_, h7_, h8_, h9_⟩
                      have n0_ : Aside0 (Kd.R Kd.string 9 w50 w.heap.size (fun k_ => some k_ ≠ (.slice (some ad368) t361.length co47 : Value).ownBlock ∧ some k_ ≠ (.slice (some ad356) t353.length co43 : Value).ownBlock) (.slice (some ad360) t357.length co45) t357) := ⟨h0_⟩
                      have n1_ : Aside0 (Kd.R Kd.string 9 w50 w.heap.size (fun k_ => some k_ ≠ (.slice (some ad360) t357.length co45 : Value).ownBlock ∧ some k_ ≠ (.slice (some ad356) t353.length co43 : Value).ownBlock) (.slice (some ad368) t361.length co47) t361) := ⟨h1_⟩
                      have n2_ : Aside0 (Kd.R Kd.string 9 w50 w.heap.size (fun k_ => some k_ ≠ (.slice (some ad360) t357.length co45 : Value).ownBlock ∧ some k_ ≠ (.slice (some ad368) t361.length co47 : Value).ownBlock) (.slice (some ad356) t353.length co43) t353) := ⟨h2_⟩
                      have n3_ : Aside0 (w50.heap[gb352]? = some (.cells #[.int .i64 0, .int .i64 0, .int .i64 0, .int .i64 0] 23 (0, 0))) := ⟨h3_⟩
                      have n4_ : Aside0 (w50.heap[gb372]? = some (.cells #[.int .i64 0, .int .i64 0, .int .i64 0, .int .i64 0] 23 (0, 0))) := ⟨h4_⟩
                      have n5_ : Aside0 (w.heap.size ≤ gb372) := ⟨h5_⟩
                      have n6_ : Aside0 (w.heap.size ≤ gb372) := ⟨h6_⟩
                      have n7_ : Aside0 (gb352 ≠ gb372) := ⟨h7_⟩
                      have n8_ : Aside0 (gb372 ≠ gb352) := ⟨h8_⟩
                      have n9_ : Aside0 (Below w.heap.size w w50) := ⟨h9_⟩
                      clear HO_4; clear HO359; clear HO363; clear BK352; clear HB; clear h0_ h1_ h2_ h3_ h4_ h5_ h6_ h7_ h8_ h9_; have HO359 := n0_; have HO363 := n1_; have HO_4 := n2_; have BK352 := n3_; have BK372 := n4_; have GW372 := n5_; have GE372 := n6_; have NB352_372 := n7_; have NB372_352 := n8_; have HB := n9_; clear n0_ n1_ n2_ n3_ n4_ n5_ n6_ n7_ n8_ n9_
                      have hHeld : w50.cell? ad356 = some (.string (rdOf ByteArray.empty t353 0)) ∧ w50.cell? ad360 = some (.string (rdOf ByteArray.empty t357 0)) ∧ w50.cell? ad368 = some (.string (rdOf ByteArray.empty t361 0)) ∧ w50.cell? ⟨ad368.block, ad368.off + 1, none⟩ = some (.string (rdOf ByteArray.empty t361 1)) := hS_
                      refine norm_ (a' := ?_) ?_ ?_
                      rotate_left
                      ·simp only [putAll, Act.put, List.setIfInBounds_toArray, List.set_cons_zero, List.set_cons_succ]
                       rfl
                      refine zO 3 (some 38) HT_ (fun K hK => ?_)
                      refine goes_ Tryd.func55 (by kernel_rfl) rfl #[.string (rdOf ByteArray.empty t353 0)] (by rfl) rfl rfl zO2_4 ?_
                      with_reducible refine (spec_l1Read.calls kj2 (rdOf ByteArray.empty t353 0) t365 _ A17.out).mono ?_
                      rintro e w' ⟨rfl, ⟨nd, rfl⟩⟩
                      refine ⟨_, rfl, ?_⟩
                      refine hK.out _ _ ⟨hHeld.1, hHeld.2.1, hHeld.2.2.1, hHeld.2.2.2⟩ (fun hHeld => ?_)
                      clear hK K
                      refine zN 38 ?_
                      exact norm_ zO2_0 (hJ3_17 (gb372) _ ⟨hHeld, (zs HO359), (zs HO363), (zs HO_4), (zq BK352), (zq BK372), GW372.out, GE372.out, NB352_372.out, NB372_352.out, (zy HB)⟩)
                    ·skip
                     rintro _ w49 ⟨hS_, h0_, h1_, h2_, h3_, h4_⟩
                     have n0_ : Aside0 (Kd.R Kd.string 9 w49 w.heap.size (fun k_ => some k_ ≠ (.slice (some ad368) t361.length co47 : Value).ownBlock ∧ some k_ ≠ (.slice (some ad356) t353.length co43 : Value).ownBlock) (.slice (some ad360) t357.length co45) t357) := ⟨h0_⟩
                     have n1_ : Aside0 (Kd.R Kd.string 9 w49 w.heap.size (fun k_ => some k_ ≠ (.slice (some ad360) t357.length co45 : Value).ownBlock ∧ some k_ ≠ (.slice (some ad356) t353.length co43 : Value).ownBlock) (.slice (some ad368) t361.length co47) t361) := ⟨h1_⟩
                     have n2_ : Aside0 (Kd.R Kd.string 9 w49 w.heap.size (fun k_ => some k_ ≠ (.slice (some ad360) t357.length co45 : Value).ownBlock ∧ some k_ ≠ (.slice (some ad368) t361.length co47 : Value).ownBlock) (.slice (some ad356) t353.length co43) t353) := ⟨h2_⟩
                     have n3_ : Aside0 (w49.heap[gb352]? = some (.cells #[.int .i64 0, .int .i64 0, .int .i64 0, .int .i64 0] 23 (0, 0))) := ⟨h3_⟩
                     have n4_ : Aside0 (Below w.heap.size w w49) := ⟨h4_⟩
                     clear HO_4; clear HO359; clear HO363; clear BK352; clear HB; clear h0_ h1_ h2_ h3_ h4_; have HO359 := n0_; have HO363 := n1_; have HO_4 := n2_; have BK352 := n3_; have HB := n4_; clear n0_ n1_ n2_ n3_ n4_
                     have hHeld : w49.cell? ad356 = some (.string (rdOf ByteArray.empty t353 0)) ∧ w49.cell? ad360 = some (.string (rdOf ByteArray.empty t357 0)) ∧ w49.cell? ad368 = some (.string (rdOf ByteArray.empty t361 0)) ∧ w49.cell? ⟨ad368.block, ad368.off + 1, none⟩ = some (.string (rdOf ByteArray.empty t361 1)) := hS_
                     refine norm_ (a' := ?_) ?_ ?_
                     rotate_left
                     ·simp only [putAll, Act.put, List.setIfInBounds_toArray, List.set_cons_zero, List.set_cons_succ]
                      rfl
                     refine two_ (i := 7) (j := 17) (Ni := some 42) (Nj := some 7) #[true, true, true, true, true, true, true, true, true, true, true, false, true, true, true, false, false, false, false] #[true, true, true, true, true, true, true, false, true, true, true, false, true, true, true, false, false, true, false] rfl rfl rfl rfl (two_of HT_.out (by kernel_rfl)) (by decide) (by decide) (fun K hK => ?_) (fun K hK => ?_)
                     ·skip
                      refine goes_ Tryd.func55 (by kernel_rfl) rfl #[.string (rdOf ByteArray.empty t357 0)] (by rfl) rfl rfl zO2_4 ?_
                      with_reducible refine (spec_l1Read.calls kj2 (rdOf ByteArray.empty t357 0) t367 _ A19.out).mono ?_
                      rintro e w' ⟨rfl, ⟨nd, rfl⟩⟩
                      refine ⟨_, rfl, ?_⟩
                      refine hK.out _ _ ⟨hHeld.1, hHeld.2.1, hHeld.2.2.1, hHeld.2.2.2⟩ (fun hHeld => ?_)
                      clear hK K
                      refine zN 42 ?_
                      exact norm_ zO2_0 (hJ3_7 () _ ⟨hHeld, (zs HO359), (zs HO363), (zs HO_4), (zq BK352), (zy HB)⟩)
                     ·skip
                      refine box_step ?hg (N := 7) ?hd (cs := #[.int .i64 0, .int .i64 0, .int .i64 0, .int .i64 0]) (t := 23) ?hr ?_; (case hd => rfl); (case hg => rfl); (case hr => first | (go_simp; done) | (go_simp; rfl))
                      intro gb372 hg w50 hbox hb
                      have HS0_ := (hb.cell (World.block_lt_of_cell? _ _ (hHeld.1))).trans (hHeld.1)
                      have HS1_ := (hb.cell (World.block_lt_of_cell? _ _ (hHeld.2.1))).trans (hHeld.2.1)
                      have HS2_ := (hb.cell (World.block_lt_of_cell? _ _ (hHeld.2.2.1))).trans (hHeld.2.2.1)
                      have HS3_ := (hb.cell (World.block_lt_of_cell? _ _ (hHeld.2.2.2))).trans (hHeld.2.2.2)
                      have BK372 := Aside0.mk (hbox)
                      have GW372 := zg HB hg
                      have GE372 := GW372
                      have NB352_372 := zl BK352 hg
                      have NB372_352 := zr BK352 hg
                      replace HO_4 := zo HO_4 hb; replace HO359 := zo HO359 hb; replace HO363 := zo HO363 hb; replace BK352 := zb BK352 hb; replace HB := zh HB hb; clear hb hbox hg
                      refine hK.out _ _ ⟨HS0_, HS1_, HS2_, HS3_⟩ (fun hHeld => ?_)
                      clear hK K
                      refine zN 7 ?_
                      exact norm_ zO2_0 (hJ3_17 (gb372) _ ⟨hHeld, (zs HO359), (zs HO363), (zs HO_4), (zq BK352), (zq BK372), GW372.out, GE372.out, NB352_372.out, NB372_352.out, (zy HB)⟩)
                   ·skip
                    rintro gb372 w50 ⟨hS_, h0_, h1_, h2_, h3_, h4_, h5_, h6_, h7_, h8_, h9_⟩
                    have n0_ : Aside0 (Kd.R Kd.string 9 w50 w.heap.size (fun k_ => some k_ ≠ (.slice (some ad368) t361.length co47 : Value).ownBlock ∧ some k_ ≠ (.slice (some ad356) t353.length co43 : Value).ownBlock) (.slice (some ad360) t357.length co45) t357) := ⟨h0_⟩
                    have n1_ : Aside0 (Kd.R Kd.string 9 w50 w.heap.size (fun k_ => some k_ ≠ (.slice (some ad360) t357.length co45 : Value).ownBlock ∧ some k_ ≠ (.slice (some ad356) t353.length co43 : Value).ownBlock) (.slice (some ad368) t361.length co47) t361) := ⟨h1_⟩
                    have n2_ : Aside0 (Kd.R Kd.string 9 w50 w.heap.size (fun k_ => some k_ ≠ (.slice (some ad360) t357.length co45 : Value).ownBlock ∧ some k_ ≠ (.slice (some ad368) t361.length co47 : Value).ownBlock) (.slice (some ad356) t353.length co43) t353) := ⟨h2_⟩
                    have n3_ : Aside0 (w50.heap[gb352]? = some (.cells #[.int .i64 0, .int .i64 0, .int .i64 0, .int .i64 0] 23 (0, 0))) := ⟨h3_⟩
                    have n4_ : Aside0 (w50.heap[gb372]? = some (.cells #[.int .i64 0, .int .i64 0, .int .i64 0, .int .i64 0] 23 (0, 0))) := ⟨h4_⟩
                    have n5_ : Aside0 (w.heap.size ≤ gb372) := ⟨h5_⟩
                    have n6_ : Aside0 (w.heap.size ≤ gb372) := ⟨h6_⟩
                    have n7_ : Aside0 (gb352 ≠ gb372) := ⟨h7_⟩
                    have n8_ : Aside0 (gb372 ≠ gb352) := ⟨h8_⟩
                    have n9_ : Aside0 (Below w.heap.size w w50) := ⟨h9_⟩
                    clear HO_4; clear HO359; clear HO363; clear BK352; clear HB; clear h0_ h1_ h2_ h3_ h4_ h5_ h6_ h7_ h8_ h9_; have HO359 := n0_; have HO363 := n1_; have HO_4 := n2_; have BK352 := n3_; have BK372 := n4_; have GW372 := n5_; have GE372 := n6_; have NB352_372 := n7_; have NB372_352 := n8_; have HB := n9_; clear n0_ n1_ n2_ n3_ n4_ n5_ n6_ n7_ n8_ n9_
                    have hHeld : w50.cell? ad356 = some (.string (rdOf ByteArray.empty t353 0)) ∧ w50.cell? ad360 = some (.string (rdOf ByteArray.empty t357 0)) ∧ w50.cell? ad368 = some (.string (rdOf ByteArray.empty t361 0)) ∧ w50.cell? ⟨ad368.block, ad368.off + 1, none⟩ = some (.string (rdOf ByteArray.empty t361 1)) := hS_
                    refine norm_ (a' := ?_) ?_ ?_
                    rotate_left
                    ·simp only [putAll, Act.put, List.setIfInBounds_toArray, List.set_cons_zero, List.set_cons_succ]
                     rfl
                    refine zO 7 (some 42) HT_ (fun K hK => ?_)
                    refine goes_ Tryd.func55 (by kernel_rfl) rfl #[.string (rdOf ByteArray.empty t357 0)] (by rfl) rfl rfl zO2_4 ?_
                    with_reducible refine (spec_l1Read.calls kj2 (rdOf ByteArray.empty t357 0) t367 _ A19.out).mono ?_
                    rintro e w' ⟨rfl, ⟨nd, rfl⟩⟩
                    refine ⟨_, rfl, ?_⟩
                    refine hK.out _ _ ⟨hHeld.1, hHeld.2.1, hHeld.2.2.1, hHeld.2.2.2⟩ (fun hHeld => ?_)
                    clear hK K
                    refine zN 42 ?_
                    exact norm_ zO2_0 (hJ3_7_17 (gb372) _ ⟨hHeld, (zs HO359), (zs HO363), (zs HO_4), (zq BK352), (zq BK372), GW372.out, GE372.out, NB352_372.out, NB372_352.out, (zy HB)⟩)
                  ·skip
                   rintro _ w49 ⟨hS_, h0_, h1_, h2_, h3_, h4_⟩
                   have n0_ : Aside0 (Kd.R Kd.string 9 w49 w.heap.size (fun k_ => some k_ ≠ (.slice (some ad368) t361.length co47 : Value).ownBlock ∧ some k_ ≠ (.slice (some ad356) t353.length co43 : Value).ownBlock) (.slice (some ad360) t357.length co45) t357) := ⟨h0_⟩
                   have n1_ : Aside0 (Kd.R Kd.string 9 w49 w.heap.size (fun k_ => some k_ ≠ (.slice (some ad360) t357.length co45 : Value).ownBlock ∧ some k_ ≠ (.slice (some ad356) t353.length co43 : Value).ownBlock) (.slice (some ad368) t361.length co47) t361) := ⟨h1_⟩
                   have n2_ : Aside0 (Kd.R Kd.string 9 w49 w.heap.size (fun k_ => some k_ ≠ (.slice (some ad360) t357.length co45 : Value).ownBlock ∧ some k_ ≠ (.slice (some ad368) t361.length co47 : Value).ownBlock) (.slice (some ad356) t353.length co43) t353) := ⟨h2_⟩
                   have n3_ : Aside0 (w49.heap[gb352]? = some (.cells #[.int .i64 0, .int .i64 0, .int .i64 0, .int .i64 0] 23 (0, 0))) := ⟨h3_⟩
                   have n4_ : Aside0 (Below w.heap.size w w49) := ⟨h4_⟩
                   clear HO_4; clear HO359; clear HO363; clear BK352; clear HB; clear h0_ h1_ h2_ h3_ h4_; have HO359 := n0_; have HO363 := n1_; have HO_4 := n2_; have BK352 := n3_; have HB := n4_; clear n0_ n1_ n2_ n3_ n4_
                   have hHeld : w49.cell? ad356 = some (.string (rdOf ByteArray.empty t353 0)) ∧ w49.cell? ad360 = some (.string (rdOf ByteArray.empty t357 0)) ∧ w49.cell? ad368 = some (.string (rdOf ByteArray.empty t361 0)) ∧ w49.cell? ⟨ad368.block, ad368.off + 1, none⟩ = some (.string (rdOf ByteArray.empty t361 1)) := hS_
                   refine norm_ (a' := ?_) ?_ ?_
                   rotate_left
                   ·simp only [putAll, Act.put, List.setIfInBounds_toArray, List.set_cons_zero, List.set_cons_succ]
                    rfl
                   refine two_ (i := 11) (j := 17) (Ni := some 46) (Nj := some 7) #[true, true, true, true, true, true, true, true, true, true, true, true, true, true, true, false, false, false, false] #[true, true, true, true, true, true, true, true, true, true, true, false, true, true, true, false, false, true, false] rfl rfl rfl rfl (two_of HT_.out (by kernel_rfl)) (by decide) (by decide) (fun K hK => ?_) (fun K hK => ?_)
                   ·skip
                    refine goes_ Tryd.func55 (by kernel_rfl) rfl #[.string (rdOf ByteArray.empty t361 0)] (by rfl) rfl rfl zO2_4 ?_
                    with_reducible refine (spec_l1Read.calls kj2 (rdOf ByteArray.empty t361 0) t369 _ A21.out).mono ?_
                    rintro e w' ⟨rfl, ⟨nd, rfl⟩⟩
                    refine ⟨_, rfl, ?_⟩
                    refine hK.out _ _ ⟨hHeld.1, hHeld.2.1, hHeld.2.2.1, hHeld.2.2.2⟩ (fun hHeld => ?_)
                    clear hK K
                    refine zN 46 ?_
                    exact norm_ zO2_0 (hJ3_7_11 () _ ⟨hHeld, (zs HO359), (zs HO363), (zs HO_4), (zq BK352), (zy HB)⟩)
                   ·skip
                    refine box_step ?hg (N := 7) ?hd (cs := #[.int .i64 0, .int .i64 0, .int .i64 0, .int .i64 0]) (t := 23) ?hr ?_; (case hd => rfl); (case hg => rfl); (case hr => first | (go_simp; done) | (go_simp; rfl))
                    intro gb372 hg w50 hbox hb
                    have HS0_ := (hb.cell (World.block_lt_of_cell? _ _ (hHeld.1))).trans (hHeld.1)
                    have HS1_ := (hb.cell (World.block_lt_of_cell? _ _ (hHeld.2.1))).trans (hHeld.2.1)
                    have HS2_ := (hb.cell (World.block_lt_of_cell? _ _ (hHeld.2.2.1))).trans (hHeld.2.2.1)
                    have HS3_ := (hb.cell (World.block_lt_of_cell? _ _ (hHeld.2.2.2))).trans (hHeld.2.2.2)
                    have BK372 := Aside0.mk (hbox)
                    have GW372 := zg HB hg
                    have GE372 := GW372
                    have NB352_372 := zl BK352 hg
                    have NB372_352 := zr BK352 hg
                    replace HO_4 := zo HO_4 hb; replace HO359 := zo HO359 hb; replace HO363 := zo HO363 hb; replace BK352 := zb BK352 hb; replace HB := zh HB hb; clear hb hbox hg
                    refine hK.out _ _ ⟨HS0_, HS1_, HS2_, HS3_⟩ (fun hHeld => ?_)
                    clear hK K
                    refine zN 7 ?_
                    exact norm_ zO2_0 (hJ3_7_17 (gb372) _ ⟨hHeld, (zs HO359), (zs HO363), (zs HO_4), (zq BK352), (zq BK372), GW372.out, GE372.out, NB352_372.out, NB372_352.out, (zy HB)⟩)
                 ·skip
                  rintro gb372 w50 ⟨hS_, h0_, h1_, h2_, h3_, h4_, h5_, h6_, h7_, h8_, h9_⟩
                  have n0_ : Aside0 (Kd.R Kd.string 9 w50 w.heap.size (fun k_ => some k_ ≠ (.slice (some ad368) t361.length co47 : Value).ownBlock ∧ some k_ ≠ (.slice (some ad356) t353.length co43 : Value).ownBlock) (.slice (some ad360) t357.length co45) t357) := ⟨h0_⟩
                  have n1_ : Aside0 (Kd.R Kd.string 9 w50 w.heap.size (fun k_ => some k_ ≠ (.slice (some ad360) t357.length co45 : Value).ownBlock ∧ some k_ ≠ (.slice (some ad356) t353.length co43 : Value).ownBlock) (.slice (some ad368) t361.length co47) t361) := ⟨h1_⟩
                  have n2_ : Aside0 (Kd.R Kd.string 9 w50 w.heap.size (fun k_ => some k_ ≠ (.slice (some ad360) t357.length co45 : Value).ownBlock ∧ some k_ ≠ (.slice (some ad368) t361.length co47 : Value).ownBlock) (.slice (some ad356) t353.length co43) t353) := ⟨h2_⟩
                  have n3_ : Aside0 (w50.heap[gb352]? = some (.cells #[.int .i64 0, .int .i64 0, .int .i64 0, .int .i64 0] 23 (0, 0))) := ⟨h3_⟩
                  have n4_ : Aside0 (w50.heap[gb372]? = some (.cells #[.int .i64 0, .int .i64 0, .int .i64 0, .int .i64 0] 23 (0, 0))) := ⟨h4_⟩
                  have n5_ : Aside0 (w.heap.size ≤ gb372) := ⟨h5_⟩
                  have n6_ : Aside0 (w.heap.size ≤ gb372) := ⟨h6_⟩
                  have n7_ : Aside0 (gb352 ≠ gb372) := ⟨h7_⟩
                  have n8_ : Aside0 (gb372 ≠ gb352) := ⟨h8_⟩
                  have n9_ : Aside0 (Below w.heap.size w w50) := ⟨h9_⟩
                  clear HO_4; clear HO359; clear HO363; clear BK352; clear HB; clear h0_ h1_ h2_ h3_ h4_ h5_ h6_ h7_ h8_ h9_; have HO359 := n0_; have HO363 := n1_; have HO_4 := n2_; have BK352 := n3_; have BK372 := n4_; have GW372 := n5_; have GE372 := n6_; have NB352_372 := n7_; have NB372_352 := n8_; have HB := n9_; clear n0_ n1_ n2_ n3_ n4_ n5_ n6_ n7_ n8_ n9_
                  have hHeld : w50.cell? ad356 = some (.string (rdOf ByteArray.empty t353 0)) ∧ w50.cell? ad360 = some (.string (rdOf ByteArray.empty t357 0)) ∧ w50.cell? ad368 = some (.string (rdOf ByteArray.empty t361 0)) ∧ w50.cell? ⟨ad368.block, ad368.off + 1, none⟩ = some (.string (rdOf ByteArray.empty t361 1)) := hS_
                  refine norm_ (a' := ?_) ?_ ?_
                  rotate_left
                  ·simp only [putAll, Act.put, List.setIfInBounds_toArray, List.set_cons_zero, List.set_cons_succ]
                   rfl
                  refine zO 11 (some 46) HT_ (fun K hK => ?_)
                  refine goes_ Tryd.func55 (by kernel_rfl) rfl #[.string (rdOf ByteArray.empty t361 0)] (by rfl) rfl rfl zO2_4 ?_
                  with_reducible refine (spec_l1Read.calls kj2 (rdOf ByteArray.empty t361 0) t369 _ A21.out).mono ?_
                  rintro e w' ⟨rfl, ⟨nd, rfl⟩⟩
                  refine ⟨_, rfl, ?_⟩
                  refine hK.out _ _ ⟨hHeld.1, hHeld.2.1, hHeld.2.2.1, hHeld.2.2.2⟩ (fun hHeld => ?_)
                  clear hK K
                  refine zN 46 ?_
                  exact norm_ zO2_0 (hJ3_7_11_17 (gb372) _ ⟨hHeld, (zs HO359), (zs HO363), (zs HO_4), (zq BK352), (zq BK372), GW372.out, GE372.out, NB352_372.out, NB372_352.out, (zy HB)⟩)
                ·skip
                 rintro _ w49 ⟨hS_, h0_, h1_, h2_, h3_, h4_⟩
                 have n0_ : Aside0 (Kd.R Kd.string 9 w49 w.heap.size (fun k_ => some k_ ≠ (.slice (some ad368) t361.length co47 : Value).ownBlock ∧ some k_ ≠ (.slice (some ad356) t353.length co43 : Value).ownBlock) (.slice (some ad360) t357.length co45) t357) := ⟨h0_⟩
                 have n1_ : Aside0 (Kd.R Kd.string 9 w49 w.heap.size (fun k_ => some k_ ≠ (.slice (some ad360) t357.length co45 : Value).ownBlock ∧ some k_ ≠ (.slice (some ad356) t353.length co43 : Value).ownBlock) (.slice (some ad368) t361.length co47) t361) := ⟨h1_⟩
                 have n2_ : Aside0 (Kd.R Kd.string 9 w49 w.heap.size (fun k_ => some k_ ≠ (.slice (some ad360) t357.length co45 : Value).ownBlock ∧ some k_ ≠ (.slice (some ad368) t361.length co47 : Value).ownBlock) (.slice (some ad356) t353.length co43) t353) := ⟨h2_⟩
                 have n3_ : Aside0 (w49.heap[gb352]? = some (.cells #[.int .i64 0, .int .i64 0, .int .i64 0, .int .i64 0] 23 (0, 0))) := ⟨h3_⟩
                 have n4_ : Aside0 (Below w.heap.size w w49) := ⟨h4_⟩
                 clear HO_4; clear HO359; clear HO363; clear BK352; clear HB; clear h0_ h1_ h2_ h3_ h4_; have HO359 := n0_; have HO363 := n1_; have HO_4 := n2_; have BK352 := n3_; have HB := n4_; clear n0_ n1_ n2_ n3_ n4_
                 have hHeld : w49.cell? ad356 = some (.string (rdOf ByteArray.empty t353 0)) ∧ w49.cell? ad360 = some (.string (rdOf ByteArray.empty t357 0)) ∧ w49.cell? ad368 = some (.string (rdOf ByteArray.empty t361 0)) ∧ w49.cell? ⟨ad368.block, ad368.off + 1, none⟩ = some (.string (rdOf ByteArray.empty t361 1)) := hS_
                 refine norm_ (a' := ?_) ?_ ?_
                 rotate_left
                 ·simp only [putAll, Act.put, List.setIfInBounds_toArray, List.set_cons_zero, List.set_cons_succ]
                  rfl
                 refine two_ (i := 15) (j := 17) (Ni := some 50) (Nj := some 7) #[true, true, true, true, true, true, true, true, true, true, true, true, true, true, true, true, false, false, false] #[true, true, true, true, true, true, true, true, true, true, true, true, true, true, true, false, false, true, false] rfl rfl rfl rfl (two_of HT_.out (by kernel_rfl)) (by decide) (by decide) (fun K hK => ?_) (fun K hK => ?_)
                 ·skip
                  refine goes_ Tryd.func55 (by kernel_rfl) rfl #[.string (rdOf ByteArray.empty t361 1)] (by rfl) rfl rfl zO2_4 ?_
                  with_reducible refine (spec_l1Read.calls kj2 (rdOf ByteArray.empty t361 1) t371 _ A23.out).mono ?_
                  rintro e w' ⟨rfl, ⟨nd, rfl⟩⟩
                  refine ⟨_, rfl, ?_⟩
                  refine hK.out _ _ ⟨hHeld.1, hHeld.2.1, hHeld.2.2.1, hHeld.2.2.2⟩ (fun hHeld => ?_)
                  clear hK K
                  refine zN 50 ?_
                  refine zA 16 51 HT_ ?_
                  exact norm_ zO2_0 (hJ3_7_11_15 () _ ⟨hHeld, (zs HO359), (zs HO363), (zs HO_4), (zq BK352), (zy HB)⟩)
                 ·skip
                  refine box_step ?hg (N := 7) ?hd (cs := #[.int .i64 0, .int .i64 0, .int .i64 0, .int .i64 0]) (t := 23) ?hr ?_; (case hd => rfl); (case hg => rfl); (case hr => first | (go_simp; done) | (go_simp; rfl))
                  intro gb372 hg w50 hbox hb
                  have HS0_ := (hb.cell (World.block_lt_of_cell? _ _ (hHeld.1))).trans (hHeld.1)
                  have HS1_ := (hb.cell (World.block_lt_of_cell? _ _ (hHeld.2.1))).trans (hHeld.2.1)
                  have HS2_ := (hb.cell (World.block_lt_of_cell? _ _ (hHeld.2.2.1))).trans (hHeld.2.2.1)
                  have HS3_ := (hb.cell (World.block_lt_of_cell? _ _ (hHeld.2.2.2))).trans (hHeld.2.2.2)
                  have BK372 := Aside0.mk (hbox)
                  have GW372 := zg HB hg
                  have GE372 := GW372
                  have NB352_372 := zl BK352 hg
                  have NB372_352 := zr BK352 hg
                  replace HO_4 := zo HO_4 hb; replace HO359 := zo HO359 hb; replace HO363 := zo HO363 hb; replace BK352 := zb BK352 hb; replace HB := zh HB hb; clear hb hbox hg
                  refine hK.out _ _ ⟨HS0_, HS1_, HS2_, HS3_⟩ (fun hHeld => ?_)
                  clear hK K
                  refine zN 7 ?_
                  exact norm_ zO2_0 (hJ3_7_11_17 (gb372) _ ⟨hHeld, (zs HO359), (zs HO363), (zs HO_4), (zq BK352), (zq BK372), GW372.out, GE372.out, NB352_372.out, NB372_352.out, (zy HB)⟩)
               ·skip
                rintro gb372 w50 ⟨hS_, h0_, h1_, h2_, h3_, h4_, h5_, h6_, h7_, h8_, h9_⟩
                have n0_ : Aside0 (Kd.R Kd.string 9 w50 w.heap.size (fun k_ => some k_ ≠ (.slice (some ad368) t361.length co47 : Value).ownBlock ∧ some k_ ≠ (.slice (some ad356) t353.length co43 : Value).ownBlock) (.slice (some ad360) t357.length co45) t357) := ⟨h0_⟩
                have n1_ : Aside0 (Kd.R Kd.string 9 w50 w.heap.size (fun k_ => some k_ ≠ (.slice (some ad360) t357.length co45 : Value).ownBlock ∧ some k_ ≠ (.slice (some ad356) t353.length co43 : Value).ownBlock) (.slice (some ad368) t361.length co47) t361) := ⟨h1_⟩
                have n2_ : Aside0 (Kd.R Kd.string 9 w50 w.heap.size (fun k_ => some k_ ≠ (.slice (some ad360) t357.length co45 : Value).ownBlock ∧ some k_ ≠ (.slice (some ad368) t361.length co47 : Value).ownBlock) (.slice (some ad356) t353.length co43) t353) := ⟨h2_⟩
                have n3_ : Aside0 (w50.heap[gb352]? = some (.cells #[.int .i64 0, .int .i64 0, .int .i64 0, .int .i64 0] 23 (0, 0))) := ⟨h3_⟩
                have n4_ : Aside0 (w50.heap[gb372]? = some (.cells #[.int .i64 0, .int .i64 0, .int .i64 0, .int .i64 0] 23 (0, 0))) := ⟨h4_⟩
                have n5_ : Aside0 (w.heap.size ≤ gb372) := ⟨h5_⟩
                have n6_ : Aside0 (w.heap.size ≤ gb372) := ⟨h6_⟩
                have n7_ : Aside0 (gb352 ≠ gb372) := ⟨h7_⟩
                have n8_ : Aside0 (gb372 ≠ gb352) := ⟨h8_⟩
                have n9_ : Aside0 (Below w.heap.size w w50) := ⟨h9_⟩
                clear HO_4; clear HO359; clear HO363; clear BK352; clear HB; clear h0_ h1_ h2_ h3_ h4_ h5_ h6_ h7_ h8_ h9_; have HO359 := n0_; have HO363 := n1_; have HO_4 := n2_; have BK352 := n3_; have BK372 := n4_; have GW372 := n5_; have GE372 := n6_; have NB352_372 := n7_; have NB372_352 := n8_; have HB := n9_; clear n0_ n1_ n2_ n3_ n4_ n5_ n6_ n7_ n8_ n9_
                have hHeld : w50.cell? ad356 = some (.string (rdOf ByteArray.empty t353 0)) ∧ w50.cell? ad360 = some (.string (rdOf ByteArray.empty t357 0)) ∧ w50.cell? ad368 = some (.string (rdOf ByteArray.empty t361 0)) ∧ w50.cell? ⟨ad368.block, ad368.off + 1, none⟩ = some (.string (rdOf ByteArray.empty t361 1)) := hS_
                refine norm_ (a' := ?_) ?_ ?_
                rotate_left
                ·simp only [putAll, Act.put, List.setIfInBounds_toArray, List.set_cons_zero, List.set_cons_succ]
                 rfl
                refine zO 15 (some 50) HT_ (fun K hK => ?_)
                refine goes_ Tryd.func55 (by kernel_rfl) rfl #[.string (rdOf ByteArray.empty t361 1)] (by rfl) rfl rfl zO2_4 ?_
                with_reducible refine (spec_l1Read.calls kj2 (rdOf ByteArray.empty t361 1) t371 _ A23.out).mono ?_
                rintro e w' ⟨rfl, ⟨nd, rfl⟩⟩
                refine ⟨_, rfl, ?_⟩
                refine hK.out _ _ ⟨hHeld.1, hHeld.2.1, hHeld.2.2.1, hHeld.2.2.2⟩ (fun hHeld => ?_)
                clear hK K
                refine zN 50 ?_
                refine zA 16 51 HT_ ?_
                exact norm_ zO2_0 (hJ3_7_11_15_17 (gb372) _ ⟨hHeld, (zs HO359), (zs HO363), (zs HO_4), (zq BK352), (zq BK372), GW372.out, GE372.out, NB352_372.out, NB372_352.out, (zy HB)⟩)
              ·skip
               rintro _ w49 ⟨hS_, h0_, h1_, h2_, h3_, h4_⟩
               have n0_ : Aside0 (Kd.R Kd.string 9 w49 w.heap.size (fun k_ => some k_ ≠ (.slice (some ad368) t361.length co47 : Value).ownBlock ∧ some k_ ≠ (.slice (some ad356) t353.length co43 : Value).ownBlock) (.slice (some ad360) t357.length co45) t357) := ⟨h0_⟩
               have n1_ : Aside0 (Kd.R Kd.string 9 w49 w.heap.size (fun k_ => some k_ ≠ (.slice (some ad360) t357.length co45 : Value).ownBlock ∧ some k_ ≠ (.slice (some ad356) t353.length co43 : Value).ownBlock) (.slice (some ad368) t361.length co47) t361) := ⟨h1_⟩
               have n2_ : Aside0 (Kd.R Kd.string 9 w49 w.heap.size (fun k_ => some k_ ≠ (.slice (some ad360) t357.length co45 : Value).ownBlock ∧ some k_ ≠ (.slice (some ad368) t361.length co47 : Value).ownBlock) (.slice (some ad356) t353.length co43) t353) := ⟨h2_⟩
               have n3_ : Aside0 (w49.heap[gb352]? = some (.cells #[.int .i64 0, .int .i64 0, .int .i64 0, .int .i64 0] 23 (0, 0))) := ⟨h3_⟩
               have n4_ : Aside0 (Below w.heap.size w w49) := ⟨h4_⟩
               clear HO_4; clear HO359; clear HO363; clear BK352; clear HB; clear h0_ h1_ h2_ h3_ h4_; have HO359 := n0_; have HO363 := n1_; have HO_4 := n2_; have BK352 := n3_; have HB := n4_; clear n0_ n1_ n2_ n3_ n4_
               have hHeld : w49.cell? ad356 = some (.string (rdOf ByteArray.empty t353 0)) ∧ w49.cell? ad360 = some (.string (rdOf ByteArray.empty t357 0)) ∧ w49.cell? ad368 = some (.string (rdOf ByteArray.empty t361 0)) ∧ w49.cell? ⟨ad368.block, ad368.off + 1, none⟩ = some (.string (rdOf ByteArray.empty t361 1)) := hS_
               refine norm_ (a' := ?_) ?_ ?_
               rotate_left
               ·simp only [putAll, Act.put, List.setIfInBounds_toArray, List.set_cons_zero, List.set_cons_succ]
                rfl
               refine zO 17 (some 7) HT_ (fun K hK => ?_)
               refine box_step ?hg (N := 7) ?hd (cs := #[.int .i64 0, .int .i64 0, .int .i64 0, .int .i64 0]) (t := 23) ?hr ?_; (case hd => rfl); (case hg => rfl); (case hr => first | (go_simp; done) | (go_simp; rfl))
               intro gb372 hg w50 hbox hb
               have HS0_ := (hb.cell (World.block_lt_of_cell? _ _ (hHeld.1))).trans (hHeld.1)
               have HS1_ := (hb.cell (World.block_lt_of_cell? _ _ (hHeld.2.1))).trans (hHeld.2.1)
               have HS2_ := (hb.cell (World.block_lt_of_cell? _ _ (hHeld.2.2.1))).trans (hHeld.2.2.1)
               have HS3_ := (hb.cell (World.block_lt_of_cell? _ _ (hHeld.2.2.2))).trans (hHeld.2.2.2)
               have BK372 := Aside0.mk (hbox)
               have GW372 := zg HB hg
               have GE372 := GW372
               have NB352_372 := zl BK352 hg
               have NB372_352 := zr BK352 hg
               replace HO_4 := zo HO_4 hb; replace HO359 := zo HO359 hb; replace HO363 := zo HO363 hb; replace BK352 := zb BK352 hb; replace HB := zh HB hb; clear hb hbox hg
               refine hK.out _ _ ⟨HS0_, HS1_, HS2_, HS3_⟩ (fun hHeld => ?_)
               clear hK K
               refine zN 7 ?_
               exact norm_ zO2_0 (hJ3_7_11_15_17 (gb372) _ ⟨hHeld, (zs HO359), (zs HO363), (zs HO_4), (zq BK352), (zq BK372), GW372.out, GE372.out, NB352_372.out, NB372_352.out, (zy HB)⟩)
             rintro gb372 w50 ⟨hS_, h0_, h1_, h2_, h3_, h4_, h5_, h6_, h7_, h8_, h9_⟩
             have n0_ : Aside0 (Kd.R Kd.string 9 w50 w.heap.size (fun k_ => some k_ ≠ (.slice (some ad368) t361.length co47 : Value).ownBlock ∧ some k_ ≠ (.slice (some ad356) t353.length co43 : Value).ownBlock) (.slice (some ad360) t357.length co45) t357) := ⟨h0_⟩
             have n1_ : Aside0 (Kd.R Kd.string 9 w50 w.heap.size (fun k_ => some k_ ≠ (.slice (some ad360) t357.length co45 : Value).ownBlock ∧ some k_ ≠ (.slice (some ad356) t353.length co43 : Value).ownBlock) (.slice (some ad368) t361.length co47) t361) := ⟨h1_⟩
             have n2_ : Aside0 (Kd.R Kd.string 9 w50 w.heap.size (fun k_ => some k_ ≠ (.slice (some ad360) t357.length co45 : Value).ownBlock ∧ some k_ ≠ (.slice (some ad368) t361.length co47 : Value).ownBlock) (.slice (some ad356) t353.length co43) t353) := ⟨h2_⟩
             have n3_ : Aside0 (w50.heap[gb352]? = some (.cells #[.int .i64 0, .int .i64 0, .int .i64 0, .int .i64 0] 23 (0, 0))) := ⟨h3_⟩
             have n4_ : Aside0 (w50.heap[gb372]? = some (.cells #[.int .i64 0, .int .i64 0, .int .i64 0, .int .i64 0] 23 (0, 0))) := ⟨h4_⟩
             have n5_ : Aside0 (w.heap.size ≤ gb372) := ⟨h5_⟩
             have n6_ : Aside0 (w.heap.size ≤ gb372) := ⟨h6_⟩
             have n7_ : Aside0 (gb352 ≠ gb372) := ⟨h7_⟩
             have n8_ : Aside0 (gb372 ≠ gb352) := ⟨h8_⟩
             have n9_ : Aside0 (Below w.heap.size w w50) := ⟨h9_⟩
             clear HO_4; clear HO359; clear HO363; clear BK352; clear HB; clear h0_ h1_ h2_ h3_ h4_ h5_ h6_ h7_ h8_ h9_; have HO359 := n0_; have HO363 := n1_; have HO_4 := n2_; have BK352 := n3_; have BK372 := n4_; have GW372 := n5_; have GE372 := n6_; have NB352_372 := n7_; have NB372_352 := n8_; have HB := n9_; clear n0_ n1_ n2_ n3_ n4_ n5_ n6_ n7_ n8_ n9_
             have hHeld : w50.cell? ad356 = some (.string (rdOf ByteArray.empty t353 0)) ∧ w50.cell? ad360 = some (.string (rdOf ByteArray.empty t357 0)) ∧ w50.cell? ad368 = some (.string (rdOf ByteArray.empty t361 0)) ∧ w50.cell? ⟨ad368.block, ad368.off + 1, none⟩ = some (.string (rdOf ByteArray.empty t361 1)) := hS_
             refine norm_ (a' := ?_) ?_ ?_
             rotate_left
             ·simp only [putAll, Act.put, List.setIfInBounds_toArray, List.set_cons_zero, List.set_cons_succ]
              rfl
             refine zO 18 none HT_ (fun K hK => ?_)
             have hs51 : w50.cell? ⟨gb372, 0, none⟩ = some (.int .i64 0) := (blk_cell BK372.out 0).trans rfl
             have hfs51 := blk_frozen BK372.out 0
             have hns51_0 := NB352_372.out; have hms51_0 := NB372_352.out
             have hs52 : w50.cell? ⟨gb372, 1, none⟩ = some (.int .i64 0) := (blk_cell BK372.out 1).trans rfl
             have hfs52 := blk_frozen BK372.out 1
             have hns52_0 := NB352_372.out; have hms52_0 := NB372_352.out
             have hs53 : w50.cell? ⟨gb372, 2, none⟩ = some (.int .i64 0) := (blk_cell BK372.out 2).trans rfl
             have hfs53 := blk_frozen BK372.out 2
             have hns53_0 := NB352_372.out; have hms53_0 := NB372_352.out
             have hs54 : w50.cell? ⟨gb372, 3, none⟩ = some (.int .i64 0) := (blk_cell BK372.out 3).trans rfl
             have hfs54 := blk_frozen BK372.out 3
             have hns54_0 := NB352_372.out; have hms54_0 := NB372_352.out
             refine skip_ (w1 := ?_) (by rfl) rfl ?_ ?_
             rotate_left
             ·go_simp
              rfl
             refine hK.out _ _ ⟨((cell_far (p := ⟨gb372, _, none⟩) (by first | exact Kd.own_blk (Kd.R_ne HO_4.out BK372.out (by decide)) | (rw [add_block]; exact Kd.own_blk (Kd.R_ne HO_4.out BK372.out (by decide))) | (show (Addr.add _ _).block ≠ _; rw [add_block]; exact Kd.own_blk (Kd.R_ne HO_4.out BK372.out (by decide))) | (dsimp only; exact Kd.own_blk (Kd.R_ne HO_4.out BK372.out (by decide)))) _).trans (((cell_far (p := ⟨gb372, _, none⟩) (by first | exact Kd.own_blk (Kd.R_ne HO_4.out BK372.out (by decide)) | (rw [add_block]; exact Kd.own_blk (Kd.R_ne HO_4.out BK372.out (by decide))) | (show (Addr.add _ _).block ≠ _; rw [add_block]; exact Kd.own_blk (Kd.R_ne HO_4.out BK372.out (by decide))) | (dsimp only; exact Kd.own_blk (Kd.R_ne HO_4.out BK372.out (by decide)))) _).trans (((cell_far (p := ⟨gb372, _, none⟩) (by first | exact Kd.own_blk (Kd.R_ne HO_4.out BK372.out (by decide)) | (rw [add_block]; exact Kd.own_blk (Kd.R_ne HO_4.out BK372.out (by decide))) | (show (Addr.add _ _).block ≠ _; rw [add_block]; exact Kd.own_blk (Kd.R_ne HO_4.out BK372.out (by decide))) | (dsimp only; exact Kd.own_blk (Kd.R_ne HO_4.out BK372.out (by decide)))) _).trans (((cell_far (p := ⟨gb372, _, none⟩) (by first | exact Kd.own_blk (Kd.R_ne HO_4.out BK372.out (by decide)) | (rw [add_block]; exact Kd.own_blk (Kd.R_ne HO_4.out BK372.out (by decide))) | (show (Addr.add _ _).block ≠ _; rw [add_block]; exact Kd.own_blk (Kd.R_ne HO_4.out BK372.out (by decide))) | (dsimp only; exact Kd.own_blk (Kd.R_ne HO_4.out BK372.out (by decide)))) _).trans (hHeld.1)))))))), ((cell_far (p := ⟨gb372, _, none⟩) (by first | exact Kd.own_blk (Kd.R_ne HO359.out BK372.out (by decide)) | (rw [add_block]; exact Kd.own_blk (Kd.R_ne HO359.out BK372.out (by decide))) | (show (Addr.add _ _).block ≠ _; rw [add_block]; exact Kd.own_blk (Kd.R_ne HO359.out BK372.out (by decide))) | (dsimp only; exact Kd.own_blk (Kd.R_ne HO359.out BK372.out (by decide)))) _).trans (((cell_far (p := ⟨gb372, _, none⟩) (by first | exact Kd.own_blk (Kd.R_ne HO359.out BK372.out (by decide)) | (rw [add_block]; exact Kd.own_blk (Kd.R_ne HO359.out BK372.out (by decide))) | (show (Addr.add _ _).block ≠ _; rw [add_block]; exact Kd.own_blk (Kd.R_ne HO359.out BK372.out (by decide))) | (dsimp only; exact Kd.own_blk (Kd.R_ne HO359.out BK372.out (by decide)))) _).trans (((cell_far (p := ⟨gb372, _, none⟩) (by first | exact Kd.own_blk (Kd.R_ne HO359.out BK372.out (by decide)) | (rw [add_block]; exact Kd.own_blk (Kd.R_ne HO359.out BK372.out (by decide))) | (show (Addr.add _ _).block ≠ _; rw [add_block]; exact Kd.own_blk (Kd.R_ne HO359.out BK372.out (by decide))) | (dsimp only; exact Kd.own_blk (Kd.R_ne HO359.out BK372.out (by decide)))) _).trans (((cell_far (p := ⟨gb372, _, none⟩) (by first | exact Kd.own_blk (Kd.R_ne HO359.out BK372.out (by decide)) | (rw [add_block]; exact Kd.own_blk (Kd.R_ne HO359.out BK372.out (by decide))) | (show (Addr.add _ _).block ≠ _; rw [add_block]; exact Kd.own_blk (Kd.R_ne HO359.out BK372.out (by decide))) | (dsimp only; exact Kd.own_blk (Kd.R_ne HO359.out BK372.out (by decide)))) _).trans (hHeld.2.1)))))))), ((cell_far (p := ⟨gb372, _, none⟩) (by first | exact Kd.own_blk (Kd.R_ne HO363.out BK372.out (by decide)) | (rw [add_block]; exact Kd.own_blk (Kd.R_ne HO363.out BK372.out (by decide))) | (show (Addr.add _ _).block ≠ _; rw [add_block]; exact Kd.own_blk (Kd.R_ne HO363.out BK372.out (by decide))) | (dsimp only; exact Kd.own_blk (Kd.R_ne HO363.out BK372.out (by decide)))) _).trans (((cell_far (p := ⟨gb372, _, none⟩) (by first | exact Kd.own_blk (Kd.R_ne HO363.out BK372.out (by decide)) | (rw [add_block]; exact Kd.own_blk (Kd.R_ne HO363.out BK372.out (by decide))) | (show (Addr.add _ _).block ≠ _; rw [add_block]; exact Kd.own_blk (Kd.R_ne HO363.out BK372.out (by decide))) | (dsimp only; exact Kd.own_blk (Kd.R_ne HO363.out BK372.out (by decide)))) _).trans (((cell_far (p := ⟨gb372, _, none⟩) (by first | exact Kd.own_blk (Kd.R_ne HO363.out BK372.out (by decide)) | (rw [add_block]; exact Kd.own_blk (Kd.R_ne HO363.out BK372.out (by decide))) | (show (Addr.add _ _).block ≠ _; rw [add_block]; exact Kd.own_blk (Kd.R_ne HO363.out BK372.out (by decide))) | (dsimp only; exact Kd.own_blk (Kd.R_ne HO363.out BK372.out (by decide)))) _).trans (((cell_far (p := ⟨gb372, _, none⟩) (by first | exact Kd.own_blk (Kd.R_ne HO363.out BK372.out (by decide)) | (rw [add_block]; exact Kd.own_blk (Kd.R_ne HO363.out BK372.out (by decide))) | (show (Addr.add _ _).block ≠ _; rw [add_block]; exact Kd.own_blk (Kd.R_ne HO363.out BK372.out (by decide))) | (dsimp only; exact Kd.own_blk (Kd.R_ne HO363.out BK372.out (by decide)))) _).trans (hHeld.2.2.1)))))))), ((cell_far (p := ⟨gb372, _, none⟩) (by first | exact Kd.own_blk (Kd.R_ne HO363.out BK372.out (by decide)) | (rw [add_block]; exact Kd.own_blk (Kd.R_ne HO363.out BK372.out (by decide))) | (show (Addr.add _ _).block ≠ _; rw [add_block]; exact Kd.own_blk (Kd.R_ne HO363.out BK372.out (by decide))) | (dsimp only; exact Kd.own_blk (Kd.R_ne HO363.out BK372.out (by decide)))) _).trans (((cell_far (p := ⟨gb372, _, none⟩) (by first | exact Kd.own_blk (Kd.R_ne HO363.out BK372.out (by decide)) | (rw [add_block]; exact Kd.own_blk (Kd.R_ne HO363.out BK372.out (by decide))) | (show (Addr.add _ _).block ≠ _; rw [add_block]; exact Kd.own_blk (Kd.R_ne HO363.out BK372.out (by decide))) | (dsimp only; exact Kd.own_blk (Kd.R_ne HO363.out BK372.out (by decide)))) _).trans (((cell_far (p := ⟨gb372, _, none⟩) (by first | exact Kd.own_blk (Kd.R_ne HO363.out BK372.out (by decide)) | (rw [add_block]; exact Kd.own_blk (Kd.R_ne HO363.out BK372.out (by decide))) | (show (Addr.add _ _).block ≠ _; rw [add_block]; exact Kd.own_blk (Kd.R_ne HO363.out BK372.out (by decide))) | (dsimp only; exact Kd.own_blk (Kd.R_ne HO363.out BK372.out (by decide)))) _).trans (((cell_far (p := ⟨gb372, _, none⟩) (by first | exact Kd.own_blk (Kd.R_ne HO363.out BK372.out (by decide)) | (rw [add_block]; exact Kd.own_blk (Kd.R_ne HO363.out BK372.out (by decide))) | (show (Addr.add _ _).block ≠ _; rw [add_block]; exact Kd.own_blk (Kd.R_ne HO363.out BK372.out (by decide))) | (dsimp only; exact Kd.own_blk (Kd.R_ne HO363.out BK372.out (by decide)))) _).trans (hHeld.2.2.2))))))))⟩ (fun hHeld => ?_)
             clear hK K
             refine done_ (done_of HT_.out (by kernel_rfl)) ?_
             have hnb55 := NB372_352.out; have hnc55 := NB352_372.out
             obtain ⟨_, _, _, _, _, _, _, _⟩ := zc4 BK372
             try go_wp2_with (first | ((with_reducible refine gate_callee (f := 28) rfl ?_); refine zG (some 53) Tryd.func28 #[.agg #[.int .i64 t365, .int .i64 t367, .int .i64 t369, .int .i64 t371]] ?_; (with_reducible refine (spec_htGood.calls kj2 t365 t367 t369 t371 false _ A24.out).mono ?_); rintro e w57 ⟨rfl, hb⟩; refine ⟨_, rfl, ?_⟩; have n0_ := Aside0.mk (Kd.R_below (by (with_reducible repeat (first | apply Kd.R_alloc | apply Kd.R_drewN | apply Kd.R_drew)); exact (Kd.R_mono (Kd.R_far (p := ⟨gb372, 3, none⟩) (Kd.R_far (p := ⟨gb372, 2, none⟩) (Kd.R_far (p := ⟨gb372, 1, none⟩) (Kd.R_far (p := ⟨gb372, 0, none⟩) (Kd.R_types HO_4.out BK372.out (by decide)) (fun _ hk => hk.2) (.int .i64 t365)) (fun _ hk => hk.2) (.int .i64 t367)) (fun _ hk => hk.2) (.int .i64 t369)) (fun _ hk => hk.2) (.int .i64 t371)) (fun _ h_ => h_.1))) hb); have n1_ := Aside0.mk (Kd.R_below (by (with_reducible repeat (first | apply Kd.R_alloc | apply Kd.R_drewN | apply Kd.R_drew)); exact (Kd.R_mono (Kd.R_far (p := ⟨gb372, 3, none⟩) (Kd.R_far (p := ⟨gb372, 2, none⟩) (Kd.R_far (p := ⟨gb372, 1, none⟩) (Kd.R_far (p := ⟨gb372, 0, none⟩) (Kd.R_types HO359.out BK372.out (by decide)) (fun _ hk => hk.2) (.int .i64 t365)) (fun _ hk => hk.2) (.int .i64 t367)) (fun _ hk => hk.2) (.int .i64 t369)) (fun _ hk => hk.2) (.int .i64 t371)) (fun _ h_ => h_.1))) hb); have n2_ := Aside0.mk (Kd.R_below (by (with_reducible repeat (first | apply Kd.R_alloc | apply Kd.R_drewN | apply Kd.R_drew)); exact (Kd.R_mono (Kd.R_far (p := ⟨gb372, 3, none⟩) (Kd.R_far (p := ⟨gb372, 2, none⟩) (Kd.R_far (p := ⟨gb372, 1, none⟩) (Kd.R_far (p := ⟨gb372, 0, none⟩) (Kd.R_types HO363.out BK372.out (by decide)) (fun _ hk => hk.2) (.int .i64 t365)) (fun _ hk => hk.2) (.int .i64 t367)) (fun _ hk => hk.2) (.int .i64 t369)) (fun _ hk => hk.2) (.int .i64 t371)) (fun _ h_ => h_.1))) hb); have n4_ := Aside0.mk (blk_below (g := gb372) (o := .cells #[.int .i64 t365, .int .i64 t367, .int .i64 t369, .int .i64 t371] 23 (0, 0)) (zw BK372) hb); replace BK352 := zb BK352 hb; replace HB := zh HB hb; clear HO_4; have HO_4 := n0_; clear n0_; clear HO359; have HO359 := n1_; clear n1_; clear HO363; have HO363 := n2_; clear n2_; clear BK372; have BK372 := n4_; clear n4_; clear hb; obtain ⟨_, _, _, _, _, _, _, _⟩ := zc4 BK352))
             refine bodyPost_ret (results_ct rfl _ _ gb352 23 #[.int .i64 0, .int .i64 0, .int .i64 0, .int .i64 0] (0, 0) _ rfl (zw BK352) Tryd.underlying23 rfl (by kernel_rfl)) rfl ?_
             exact ⟨zt, zy HB⟩
           ·rw [if_neg c22] at H
            exact absurd H (by simp)
          ·rw [if_neg c20] at H
           exact absurd H (by simp)
         ·rw [if_neg c18] at H
          exact absurd H (by simp)
        ·rw [if_neg c16] at H
         exact absurd H (by simp)
       ·rw [if_neg c15] at H
        have c15b0 : ((t361.length : Int) == 2) = false := beq_eq_false_iff_ne.mpr c15
        have c15b1 : ((t361.length : Int) != 2) = true := bne_iff_ne.mpr c15
        simp only [Option.some.injEq, Prod.mk.injEq] at H; obtain ⟨rfl, rfl, rfl, rfl, rfl⟩ := H
        obtain ⟨Ao59, co59, eo59⟩ := Kd.R_slice HO_4.out
        subst eo59
        have p356 : 0 ≤ (1 : Int) := zO2_6
        have q356 : 1 < (t353.length : Int) := of_decide_eq_true zO2_5
        obtain ⟨ad356, e356, hx356_0⟩ := Kd.at_string (Kd.R_reads' HO_4.out).2.2 1 p356 q356
        cases e356
        (try simp only [show (1 : Int).toNat = 1 from rfl, Nat.reduceMul, Nat.reduceEqDiff, Go.Addr.add, ↓reduceIte] at hx356_0)
        have qi356 : (1 < t353.length) = True := eq_true zO2_6
        (try rw [show ((1 : Int)).toNat = 1 from rfl] at hx356_0)
        replace p356 := eq_true p356; replace q356 := eq_true q356
        go_wp2_with (first | ((with_reducible refine gate_callee (f := 54) rfl ?_); refine zG (some 22) Tryd.func54 #[.string (rdOf ByteArray.empty t353 1), .int .u8 58] ?_; (with_reducible refine (spec_l1Split.calls kj2 (rdOf ByteArray.empty t353 1) 58 t357 _ A11.out).mono ?_); rintro e w60 ⟨v358, rfl, ho0, hb⟩; refine ⟨_, rfl, ?_⟩; have n0_ := Aside0.mk (Kd.R_elder' (zs HO_4) (Kd.R_base ho0) hb); have HO359 := Aside0.mk (Kd.R_lower (Kd.R_new' ho0 (Kd.R_lt (zs HO_4))) (below_size (zy HB))); replace BK352 := zb BK352 hb; replace HB := zh HB hb; clear HO_4; have HO_4 := n0_; clear n0_; clear hb ho0; obtain ⟨Ao61, co61, eo61⟩ := Kd.R_slice HO359.out; subst eo61; have p360 : 0 ≤ (1 : Int) := zO2_6; have q360 : 1 < (t357.length : Int) := of_decide_eq_true zO2_5; obtain ⟨ad360, e360, hx360_0⟩ := Kd.at_string (Kd.R_reads' HO359.out).2.2 1 p360 q360; cases e360; (try simp only [show (1 : Int).toNat = 1 from rfl, Nat.reduceMul, Nat.reduceEqDiff, Go.Addr.add, ↓reduceIte] at hx360_0); have qi360 : (1 < t357.length) = True := eq_true zO2_6; (try rw [show ((1 : Int)).toNat = 1 from rfl] at hx360_0); replace p360 := eq_true p360; replace q360 := eq_true q360) | ((with_reducible refine gate_callee (f := 54) rfl ?_); refine zG (some 30) Tryd.func54 #[.string (rdOf ByteArray.empty t357 1), .int .u8 47] ?_; (with_reducible refine (spec_l1Split.calls kj2 (rdOf ByteArray.empty t357 1) 47 t361 _ A14.out).mono ?_); rintro e w62 ⟨v362, rfl, ho0, hb⟩; refine ⟨_, rfl, ?_⟩; have n0_ := Aside0.mk (Kd.R_elder' (zs HO_4) (Kd.R_base ho0) hb); have n1_ := Aside0.mk (Kd.R_elder' (zs HO359) (Kd.R_base ho0) hb); have HO363 := Aside0.mk (Kd.R_lower (Kd.R_new' (Kd.R_new' ho0 (Kd.R_lt (zs HO_4))) (Kd.R_lt (zs HO359))) (below_size (zy HB))); replace BK352 := zb BK352 hb; replace HB := zh HB hb; clear HO_4; have HO_4 := n0_; clear n0_; clear HO359; have HO359 := n1_; clear n1_; clear hb ho0; obtain ⟨Ao63, co63, eo63⟩ := Kd.R_slice HO363.out; subst eo63; obtain ⟨_, _, _, _, _, _, _, _⟩ := zc4 BK352))
        refine bodyPost_ret (results_ct rfl _ _ gb352 23 #[.int .i64 0, .int .i64 0, .int .i64 0, .int .i64 0] (0, 0) _ rfl (zw BK352) Tryd.underlying23 rfl (by kernel_rfl)) rfl ?_
        exact ⟨zt, zy HB⟩
      ·rw [if_neg c13] at H
       exact absurd H (by simp)
     ·rw [if_neg c12] at H
      have c12b0 : ((t357.length : Int) == 2) = false := beq_eq_false_iff_ne.mpr c12
      have c12b1 : ((t357.length : Int) != 2) = true := bne_iff_ne.mpr c12
      simp only [Option.some.injEq, Prod.mk.injEq] at H; obtain ⟨rfl, rfl, rfl, rfl, rfl⟩ := H
      obtain ⟨Ao65, co65, eo65⟩ := Kd.R_slice HO_4.out
      subst eo65
      have p356 : 0 ≤ (1 : Int) := zO2_6
      have q356 : 1 < (t353.length : Int) := of_decide_eq_true zO2_5
      obtain ⟨ad356, e356, hx356_0⟩ := Kd.at_string (Kd.R_reads' HO_4.out).2.2 1 p356 q356
      cases e356
      (try simp only [show (1 : Int).toNat = 1 from rfl, Nat.reduceMul, Nat.reduceEqDiff, Go.Addr.add, ↓reduceIte] at hx356_0)
      have qi356 : (1 < t353.length) = True := eq_true zO2_6
      (try rw [show ((1 : Int)).toNat = 1 from rfl] at hx356_0)
      replace p356 := eq_true p356; replace q356 := eq_true q356
      go_wp2_with (first | ((with_reducible refine gate_callee (f := 54) rfl ?_); refine zG (some 22) Tryd.func54 #[.string (rdOf ByteArray.empty t353 1), .int .u8 58] ?_; (with_reducible refine (spec_l1Split.calls kj2 (rdOf ByteArray.empty t353 1) 58 t357 _ A11.out).mono ?_); rintro e w66 ⟨v358, rfl, ho0, hb⟩; refine ⟨_, rfl, ?_⟩; have n0_ := Aside0.mk (Kd.R_elder' (zs HO_4) (Kd.R_base ho0) hb); have HO359 := Aside0.mk (Kd.R_lower (Kd.R_new' ho0 (Kd.R_lt (zs HO_4))) (below_size (zy HB))); replace BK352 := zb BK352 hb; replace HB := zh HB hb; clear HO_4; have HO_4 := n0_; clear n0_; clear hb ho0; obtain ⟨Ao67, co67, eo67⟩ := Kd.R_slice HO359.out; subst eo67; obtain ⟨_, _, _, _, _, _, _, _⟩ := zc4 BK352))
      refine bodyPost_ret (results_ct rfl _ _ gb352 23 #[.int .i64 0, .int .i64 0, .int .i64 0, .int .i64 0] (0, 0) _ rfl (zw BK352) Tryd.underlying23 rfl (by kernel_rfl)) rfl ?_
      exact ⟨zt, zy HB⟩
    ·rw [if_neg c10] at H
     exact absurd H (by simp)


/-! ### spec_ParseIsland: function 25 -/
def spec_ParseIsland.f (k : Nat) (a0 : ByteArray) : Option (Int × Int × Int × Int × Bool) := (spec_htParse.f k a0).bind fun bt375 => (some (bt375.1, bt375.2.1, bt375.2.2.1, bt375.2.2.2.1, bt375.2.2.2.2))
set_option maxHeartbeats 8000000 in
set_option maxRecDepth 100000 in
theorem spec_ParseIsland.calls (k : Nat) (a0 : ByteArray) (r1 : Int) (r2 : Int) (r3 : Int) (r4 : Int) (r5 : Bool) (w : World) (h : spec_ParseIsland.f k a0 = some (r1, r2, r3, r4, r5)) :
  Calls Tryd.prog 25 #[.string a0] w fun e w' => e = .returned (.tuple #[.agg #[.int .i64 r1, .int .i64 r2, .int .i64 r3, .int .i64 r4], .bool r5]) ∧ Below w.heap.size w w' := by
 have hu23 := Tryd.underlying23
 have HB := Aside0.mk (Below.refl w.heap.size w)
 have H : ((spec_htParse.f k a0).bind fun bt375 => (some (bt375.1, bt375.2.1, bt375.2.2.1, bt375.2.2.2.1, bt375.2.2.2.2))) = some (r1, r2, r3, r4, r5) := h
 clear h; replace H := Option.bind_eq_some_iff.mp H; obtain ⟨⟨t375, t376, t377, t378, t379⟩, A20, H⟩ := H
 replace H : (some (t375, t376, t377, t378, t379)) = some (r1, r2, r3, r4, r5) := H
 have A2 := Aside0.mk A20; clear A20; simp only [Option.some.injEq, Prod.mk.injEq] at H; obtain ⟨rfl, rfl, rfl, rfl, rfl⟩ := H
 go_enter Tryd.func25, Tryd.ntmps25
 go_wp2_with (first | ((with_reducible refine gate_dst (N := 2) rfl ?_); refine zE 2 #[.int .i64 0, .int .i64 0, .int .i64 0, .int .i64 0] 23 ?_; intro gb374 hg w3 hbox hb; have BK374 := Aside0.mk (hbox); have GW374 := zg HB hg; have GE374 := GW374; replace HB := zh HB hb; clear hb hbox hg) | ((with_reducible refine gate_callee (f := 41) rfl ?_); refine zG (some 5) Tryd.func41 #[.string a0] ?_; (with_reducible refine (spec_htParse.calls k a0 t375 t376 t377 t378 t379 _ A2.out).mono ?_); rintro e w4 ⟨rfl, hb⟩; refine ⟨_, rfl, ?_⟩; replace BK374 := zb BK374 hb; replace HB := zh HB hb; clear hb; obtain ⟨_, _, _, _, _, _, _, _⟩ := zc4 BK374))
 refine bodyPost_ret (results_ct rfl _ _ gb374 23 #[.int .i64 t375, .int .i64 t376, .int .i64 t377, .int .i64 t378] (0, 0) _ rfl (zw BK374) Tryd.underlying23 rfl (by kernel_rfl)) rfl ?_
 exact ⟨zt, zy HB⟩


/-! ### laws_ySame: function 42 -/
def laws_ySame.l0 : Nat → List Int → List Int → Int → Int → Option (Bool)
 | 0, _, _, _, _ => none
 | k + 1, x0, x1, x12, x13 => if x13 < x12 then (if 0 ≤ x13 then (if x13 < (x0.length : Int) then (if x13 < (x1.length : Int) then (if (rd x0 x13) = (rd x1 x13) then (laws_ySame.l0 k x0 x1 x12 (wrap64 (x13 + 1))) else (some false)) else (none)) else (none)) else (none)) else (some true)
def laws_ySame.f (k : Nat) (l0 : List Int) (l1 : List Int) : Option (Bool) := if (l0.length : Int) = (l1.length : Int) then (laws_ySame.l0 k l0 l1 (l0.length : Int) 0) else (some false)
set_option maxHeartbeats 8000000 in
set_option maxRecDepth 100000 in
theorem laws_ySame.calls (k : Nat) (A0 : Option Addr) (c0 : Nat) (l0 : List Int) (A1 : Option Addr) (c1 : Nat) (l1 : List Int) (r : Bool) (w : World) (hr0 : Kd.C (Kd.int .i64) w A0 l0.length l0) (hc0 : l0.length ≤ c0) (hr1 : Kd.C (Kd.int .i64) w A1 l1.length l1) (hc1 : l1.length ≤ c1) (h : laws_ySame.f k l0 l1 = some r) :
  Calls Tryd.prog 42 #[.slice A0 l0.length c0, .slice A1 l1.length c1] w fun e w' => e = .returned (.bool r) ∧ Drawn0 w w' := by
 have HR0 := Aside0.mk hr0; have HC0 := Aside0.mk hc0; clear hr0 hc0; have HR1 := Aside0.mk hr1; have HC1 := Aside0.mk hc1; clear hr1 hc1
 have H : (if (l0.length : Int) = (l1.length : Int) then (laws_ySame.l0 k l0 l1 (l0.length : Int) 0) else (some false)) = some r := h
 clear h
 by_cases c3 : (l0.length : Int) = (l1.length : Int)
 ·rw [if_pos c3] at H
  have c3b0 : ((l0.length : Int) == (l1.length : Int)) = true := beq_iff_eq.mpr c3
  have c3b1 : ((l0.length : Int) != (l1.length : Int)) = false := bne_eq_false_iff_eq.mpr c3
  have c3b2 : (l0.length == l1.length) = true := by first | simpa using c3 | (simp at c3 ⊢; omega)
  clear c3; have H' := Aside0.mk H; clear H
  go_enter Tryd.func42, Tryd.ntmps42
  go_wp2
  repeat (go_quiet (fail); try go_wp2)
  go_loopg [13] k (fun kq v13 w' => ∃ (x13_1 : Int), v13 = .int .i64 x13_1 ∧ Aside0 (laws_ySame.l0 kq l0 l1 (l0.length : Int) x13_1 = some r) ∧ Aside0 (kq ≤ k) ∧ Drawn0 w w')
  case atStart => exact ⟨(0), zu, H', ⟨Nat.le_refl _⟩, by repeat (first | exact Drawn0.refl _ | apply Drawn0.step)⟩
  case round =>
   clear H'
   obtain ⟨x13_1, rfl, HA, HK1, ⟨m1, rfl⟩⟩ := hrel
   cases gk with
   | zero => exact absurd HA.out (by simp [laws_ySame.l0])
   | succ k1 =>
    have H := HA.out; clear HA; simp only [laws_ySame.l0] at H
    by_cases c4 : x13_1 < (l0.length : Int)
    ·rw [if_pos c4] at H
     have c4b0 : decide (x13_1 < (l0.length : Int)) = true := decide_eq_true c4; clear c4
     by_cases c5 : 0 ≤ x13_1
     ·rw [if_pos c5] at H
      have c5b0 : decide (0 ≤ x13_1) = true := decide_eq_true c5; clear c5
      by_cases c6 : x13_1 < (l0.length : Int)
      ·rw [if_pos c6] at H
       have c6b0 : decide (x13_1 < (l0.length : Int)) = true := decide_eq_true c6; clear c6
       by_cases c7 : x13_1 < (l1.length : Int)
       ·rw [if_pos c7] at H
        have c7b0 : decide (x13_1 < (l1.length : Int)) = true := decide_eq_true c7; clear c7
        by_cases c8 : (rd l0 x13_1) = (rd l1 x13_1)
        ·rw [if_pos c8] at H
         have c8b0 : ((rd l0 x13_1) == (rd l1 x13_1)) = true := beq_iff_eq.mpr c8
         have c8b1 : ((rd l0 x13_1) != (rd l1 x13_1)) = false := bne_eq_false_iff_eq.mpr c8
         clear c8; have H' := Aside0.mk H; clear H
         have p380 : 0 ≤ (x13_1 : Int) := of_decide_eq_true zO2_5
         have q380 : x13_1 < (l0.length : Int) := of_decide_eq_true zO2_5
         obtain ⟨ad380, e380, hx380_0⟩ := Kd.at_int HR0.out x13_1 p380 q380
         cases e380; replace p380 := eq_true p380; replace q380 := eq_true q380
         have p381 : 0 ≤ (x13_1 : Int) := of_decide_eq_true zO2_5
         have q381 : x13_1 < (l1.length : Int) := of_decide_eq_true zO2_5
         obtain ⟨ad381, e381, hx381_0⟩ := Kd.at_int HR1.out x13_1 p381 q381
         cases e381; replace p381 := eq_true p381; replace q381 := eq_true q381
         go_wp2
         repeat (go_quiet (fail); try go_wp2)
         go_roundg k1
         case measure => have := HK1.out; omega
         case rel => exact ⟨(wrap64 (x13_1 + 1)), zu, H', ⟨by have := HK1.out; omega⟩, by repeat (first | exact Drawn0.refl _ | apply Drawn0.step)⟩
        ·rw [if_neg c8] at H
         have c8b0 : ((rd l0 x13_1) == (rd l1 x13_1)) = false := beq_eq_false_iff_ne.mpr c8
         have c8b1 : ((rd l0 x13_1) != (rd l1 x13_1)) = true := bne_iff_ne.mpr c8
         obtain rfl := Option.some.inj H
         have p380 : 0 ≤ (x13_1 : Int) := of_decide_eq_true zO2_5
         have q380 : x13_1 < (l0.length : Int) := of_decide_eq_true zO2_5
         obtain ⟨ad380, e380, hx380_0⟩ := Kd.at_int HR0.out x13_1 p380 q380
         cases e380; replace p380 := eq_true p380; replace q380 := eq_true q380
         have p381 : 0 ≤ (x13_1 : Int) := of_decide_eq_true zO2_5
         have q381 : x13_1 < (l1.length : Int) := of_decide_eq_true zO2_5
         obtain ⟨ad381, e381, hx381_0⟩ := Kd.at_int HR1.out x13_1 p381 q381
         cases e381; replace p381 := eq_true p381; replace q381 := eq_true q381
         go_wp2
         repeat (go_quiet (fail); try go_wp2)
         go_ret
         exact ⟨by first | rfl | (simp; done) | (simp [*]; done), by repeat (first | exact Drawn0.refl _ | apply Drawn0.step)⟩
       ·rw [if_neg c7] at H
        exact absurd H (by simp)
      ·rw [if_neg c6] at H
       exact absurd H (by simp)
     ·rw [if_neg c5] at H
      exact absurd H (by simp)
    ·rw [if_neg c4] at H
     have c4b0 : decide (x13_1 < (l0.length : Int)) = false := decide_eq_false c4; clear c4
     obtain rfl := Option.some.inj H
     go_wp2
     repeat (go_quiet (fail); try go_wp2)
     go_ret
     exact ⟨by first | rfl | (simp; done) | (simp [*]; done), by repeat (first | exact Drawn0.refl _ | apply Drawn0.step)⟩
 ·rw [if_neg c3] at H
  have c3b0 : ((l0.length : Int) == (l1.length : Int)) = false := beq_eq_false_iff_ne.mpr c3
  have c3b1 : ((l0.length : Int) != (l1.length : Int)) = true := bne_iff_ne.mpr c3
  have c3b2 : (l0.length == l1.length) = false := by first | simpa using c3 | (simp at c3 ⊢; omega)
  obtain rfl := Option.some.inj H
  go_enter Tryd.func42, Tryd.ntmps42
  go_wp2
  repeat (go_quiet (fail); try go_wp2)
  go_ret
  exact ⟨by first | rfl | (simp; done) | (simp [*]; done), by repeat (first | exact Drawn0.refl _ | apply Drawn0.step)⟩


/-! ### laws_yRows: function 26 -/
def laws_yRows.l0 : Nat → List (List Int) → List (List Int) → Int → Int → Option (Bool)
 | 0, _, _, _, _ => none
 | k + 1, x0, x1, x12, x13 => if x13 < x12 then (if 0 ≤ x13 then (if x13 < (x0.length : Int) then (if x13 < (x1.length : Int) then ((laws_ySame.f k (rd_L2 x0 x13) (rd_L2 x1 x13)).bind fun t384 => (if t384 = true then (laws_yRows.l0 k x0 x1 x12 (wrap64 (x13 + 1))) else (some false))) else (none)) else (none)) else (none)) else (some true)
def laws_yRows.f (k : Nat) (l0 : List (List Int)) (l1 : List (List Int)) : Option (Bool) := if (l0.length : Int) = (l1.length : Int) then (laws_yRows.l0 k l0 l1 (l0.length : Int) 0) else (some false)
set_option maxHeartbeats 8000000 in
set_option maxRecDepth 100000 in
theorem laws_yRows.calls (k : Nat) (A0 : Option Addr) (c0 : Nat) (l0 : List (List Int)) (A1 : Option Addr) (c1 : Nat) (l1 : List (List Int)) (r : Bool) (w : World) (hr0 : Kd.C (Kd.slice 3 (Kd.int .i64)) w A0 l0.length l0) (hc0 : l0.length ≤ c0) (hr1 : Kd.C (Kd.slice 3 (Kd.int .i64)) w A1 l1.length l1) (hc1 : l1.length ≤ c1) (h : laws_yRows.f k l0 l1 = some r) :
  Calls Tryd.prog 26 #[.slice A0 l0.length c0, .slice A1 l1.length c1] w fun e w' => e = .returned (.bool r) ∧ Drawn0 w w' := by
 have HR0 := Aside0.mk hr0; have HC0 := Aside0.mk hc0; clear hr0 hc0; have HR1 := Aside0.mk hr1; have HC1 := Aside0.mk hc1; clear hr1 hc1
 have H : (if (l0.length : Int) = (l1.length : Int) then (laws_yRows.l0 k l0 l1 (l0.length : Int) 0) else (some false)) = some r := h
 clear h
 by_cases c3 : (l0.length : Int) = (l1.length : Int)
 ·rw [if_pos c3] at H
  have c3b0 : ((l0.length : Int) == (l1.length : Int)) = true := beq_iff_eq.mpr c3
  have c3b1 : ((l0.length : Int) != (l1.length : Int)) = false := bne_eq_false_iff_eq.mpr c3
  have c3b2 : (l0.length == l1.length) = true := by first | simpa using c3 | (simp at c3 ⊢; omega)
  clear c3; have H' := Aside0.mk H; clear H
  go_enter Tryd.func26, Tryd.ntmps26
  go_wp2
  repeat (go_quiet (fail); try go_wp2)
  go_loopg [13] k (fun kq v13 w' => ∃ (x13_1 : Int), v13 = .int .i64 x13_1 ∧ Aside0 (laws_yRows.l0 kq l0 l1 (l0.length : Int) x13_1 = some r) ∧ Aside0 (kq ≤ k) ∧ Drawn0 w w')
  case atStart => exact ⟨(0), zu, H', ⟨Nat.le_refl _⟩, by repeat (first | exact Drawn0.refl _ | apply Drawn0.step)⟩
  case round =>
   clear H'
   obtain ⟨x13_1, rfl, HA, HK1, ⟨m1, rfl⟩⟩ := hrel
   cases gk with
   | zero => exact absurd HA.out (by simp [laws_yRows.l0])
   | succ k1 =>
    have H := HA.out; clear HA; simp only [laws_yRows.l0] at H
    by_cases c4 : x13_1 < (l0.length : Int)
    ·rw [if_pos c4] at H
     have c4b0 : decide (x13_1 < (l0.length : Int)) = true := decide_eq_true c4; clear c4
     by_cases c5 : 0 ≤ x13_1
     ·rw [if_pos c5] at H
      have c5b0 : decide (0 ≤ x13_1) = true := decide_eq_true c5; clear c5
      by_cases c6 : x13_1 < (l0.length : Int)
      ·rw [if_pos c6] at H
       have c6b0 : decide (x13_1 < (l0.length : Int)) = true := decide_eq_true c6; clear c6
       by_cases c7 : x13_1 < (l1.length : Int)
       ·rw [if_pos c7] at H
        have c7b0 : decide (x13_1 < (l1.length : Int)) = true := decide_eq_true c7; clear c7; replace H := Option.bind_eq_some_iff.mp H; obtain ⟨t384, A80, H⟩ := H
        replace H : (if t384 = true then (laws_yRows.l0 k1 l0 l1 (l0.length : Int) (wrap64 (x13_1 + 1))) else (some false)) = some r := H
        have A8 := Aside0.mk A80; clear A80
        by_cases c9 : t384 = true
        ·subst c9
         rw [if_pos rfl] at H; have H' := Aside0.mk H; clear H
         have p382 : 0 ≤ (x13_1 : Int) := of_decide_eq_true zO2_5
         have q382 : x13_1 < (l0.length : Int) := of_decide_eq_true zO2_5
         obtain ⟨ad382, A382_0, c382_0, e382, hx382_0, hl382_0, hi382_0⟩ := at_L2 HR0.out x13_1 p382 q382
         cases e382; have HR382_0 := Aside0.mk hi382_0; have HC382_0 := Aside0.mk hl382_0; clear hi382_0 hl382_0; replace p382 := eq_true p382; replace q382 := eq_true q382
         have p383 : 0 ≤ (x13_1 : Int) := of_decide_eq_true zO2_5
         have q383 : x13_1 < (l1.length : Int) := of_decide_eq_true zO2_5
         obtain ⟨ad383, A383_0, c383_0, e383, hx383_0, hl383_0, hi383_0⟩ := at_L2 HR1.out x13_1 p383 q383
         cases e383; have HR383_0 := Aside0.mk hi383_0; have HC383_0 := Aside0.mk hl383_0; clear hi383_0 hl383_0; replace p383 := eq_true p383; replace q383 := eq_true q383
         go_wp2_with (first | (go_at_call 42; (with_reducible refine (laws_ySame.calls k1 _ _ (rd_L2 l0 x13_1) _ _ (rd_L2 l1 x13_1) true _ ?side1 ?side2 ?side3 ?side4 A8.out).mono ?_); (case side1 => repeat (first | exact HR382_0.out | (with_reducible refine Kd.C_alloc ?_ _) | (with_reducible refine Kd.C_drewN ?_ _) | (with_reducible refine Kd.C_drew ?_))); (case side2 => exact HC382_0.out); (case side3 => repeat (first | exact HR383_0.out | (with_reducible refine Kd.C_alloc ?_ _) | (with_reducible refine Kd.C_drewN ?_ _) | (with_reducible refine Kd.C_drew ?_))); (case side4 => exact HC383_0.out); rintro e w' ⟨rfl, ⟨nd, rfl⟩⟩; (try first | exact ⟨rfl, _, World.drewN_drewN _ _ _⟩ | exact ⟨rfl, _, Eq.trans (World.drewN_drewN _ _ _) (congrArg (World.drewN _) (Nat.add_assoc _ _ _))⟩)))
         repeat (go_quiet (first | (go_at_call 42; (with_reducible refine (laws_ySame.calls k1 _ _ (rd_L2 l0 x13_1) _ _ (rd_L2 l1 x13_1) true _ ?side1 ?side2 ?side3 ?side4 A8.out).mono ?_); (case side1 => repeat (first | exact HR382_0.out | (with_reducible refine Kd.C_alloc ?_ _) | (with_reducible refine Kd.C_drewN ?_ _) | (with_reducible refine Kd.C_drew ?_))); (case side2 => exact HC382_0.out); (case side3 => repeat (first | exact HR383_0.out | (with_reducible refine Kd.C_alloc ?_ _) | (with_reducible refine Kd.C_drewN ?_ _) | (with_reducible refine Kd.C_drew ?_))); (case side4 => exact HC383_0.out); rintro e w' ⟨rfl, ⟨nd, rfl⟩⟩; (try first | exact ⟨rfl, _, World.drewN_drewN _ _ _⟩ | exact ⟨rfl, _, Eq.trans (World.drewN_drewN _ _ _) (congrArg (World.drewN _) (Nat.add_assoc _ _ _))⟩))); try go_wp2_with (first | (go_at_call 42; (with_reducible refine (laws_ySame.calls k1 _ _ (rd_L2 l0 x13_1) _ _ (rd_L2 l1 x13_1) true _ ?side1 ?side2 ?side3 ?side4 A8.out).mono ?_); (case side1 => repeat (first | exact HR382_0.out | (with_reducible refine Kd.C_alloc ?_ _) | (with_reducible refine Kd.C_drewN ?_ _) | (with_reducible refine Kd.C_drew ?_))); (case side2 => exact HC382_0.out); (case side3 => repeat (first | exact HR383_0.out | (with_reducible refine Kd.C_alloc ?_ _) | (with_reducible refine Kd.C_drewN ?_ _) | (with_reducible refine Kd.C_drew ?_))); (case side4 => exact HC383_0.out); rintro e w' ⟨rfl, ⟨nd, rfl⟩⟩; (try first | exact ⟨rfl, _, World.drewN_drewN _ _ _⟩ | exact ⟨rfl, _, Eq.trans (World.drewN_drewN _ _ _) (congrArg (World.drewN _) (Nat.add_assoc _ _ _))⟩))))
         go_roundg k1
         case measure => have := HK1.out; omega
         case rel => exact ⟨(wrap64 (x13_1 + 1)), zu, H', ⟨by have := HK1.out; omega⟩, by repeat (first | exact Drawn0.refl _ | apply Drawn0.step)⟩
        ·replace c9 := Bool.eq_false_iff.mpr c9
         subst c9; rw [if_neg (show ¬ (false = true) by decide)] at H
         obtain rfl := Option.some.inj H
         have p382 : 0 ≤ (x13_1 : Int) := of_decide_eq_true zO2_5
         have q382 : x13_1 < (l0.length : Int) := of_decide_eq_true zO2_5
         obtain ⟨ad382, A382_0, c382_0, e382, hx382_0, hl382_0, hi382_0⟩ := at_L2 HR0.out x13_1 p382 q382
         cases e382; have HR382_0 := Aside0.mk hi382_0; have HC382_0 := Aside0.mk hl382_0; clear hi382_0 hl382_0; replace p382 := eq_true p382; replace q382 := eq_true q382
         have p383 : 0 ≤ (x13_1 : Int) := of_decide_eq_true zO2_5
         have q383 : x13_1 < (l1.length : Int) := of_decide_eq_true zO2_5
         obtain ⟨ad383, A383_0, c383_0, e383, hx383_0, hl383_0, hi383_0⟩ := at_L2 HR1.out x13_1 p383 q383
         cases e383; have HR383_0 := Aside0.mk hi383_0; have HC383_0 := Aside0.mk hl383_0; clear hi383_0 hl383_0; replace p383 := eq_true p383; replace q383 := eq_true q383
         go_wp2_with (first | (go_at_call 42; (with_reducible refine (laws_ySame.calls k1 _ _ (rd_L2 l0 x13_1) _ _ (rd_L2 l1 x13_1) false _ ?side1 ?side2 ?side3 ?side4 A8.out).mono ?_); (case side1 => repeat (first | exact HR382_0.out | (with_reducible refine Kd.C_alloc ?_ _) | (with_reducible refine Kd.C_drewN ?_ _) | (with_reducible refine Kd.C_drew ?_))); (case side2 => exact HC382_0.out); (case side3 => repeat (first | exact HR383_0.out | (with_reducible refine Kd.C_alloc ?_ _) | (with_reducible refine Kd.C_drewN ?_ _) | (with_reducible refine Kd.C_drew ?_))); (case side4 => exact HC383_0.out); rintro e w' ⟨rfl, ⟨nd, rfl⟩⟩; (try first | exact ⟨rfl, _, World.drewN_drewN _ _ _⟩ | exact ⟨rfl, _, Eq.trans (World.drewN_drewN _ _ _) (congrArg (World.drewN _) (Nat.add_assoc _ _ _))⟩)))
         repeat (go_quiet (first | (go_at_call 42; (with_reducible refine (laws_ySame.calls k1 _ _ (rd_L2 l0 x13_1) _ _ (rd_L2 l1 x13_1) false _ ?side1 ?side2 ?side3 ?side4 A8.out).mono ?_); (case side1 => repeat (first | exact HR382_0.out | (with_reducible refine Kd.C_alloc ?_ _) | (with_reducible refine Kd.C_drewN ?_ _) | (with_reducible refine Kd.C_drew ?_))); (case side2 => exact HC382_0.out); (case side3 => repeat (first | exact HR383_0.out | (with_reducible refine Kd.C_alloc ?_ _) | (with_reducible refine Kd.C_drewN ?_ _) | (with_reducible refine Kd.C_drew ?_))); (case side4 => exact HC383_0.out); rintro e w' ⟨rfl, ⟨nd, rfl⟩⟩; (try first | exact ⟨rfl, _, World.drewN_drewN _ _ _⟩ | exact ⟨rfl, _, Eq.trans (World.drewN_drewN _ _ _) (congrArg (World.drewN _) (Nat.add_assoc _ _ _))⟩))); try go_wp2_with (first | (go_at_call 42; (with_reducible refine (laws_ySame.calls k1 _ _ (rd_L2 l0 x13_1) _ _ (rd_L2 l1 x13_1) false _ ?side1 ?side2 ?side3 ?side4 A8.out).mono ?_); (case side1 => repeat (first | exact HR382_0.out | (with_reducible refine Kd.C_alloc ?_ _) | (with_reducible refine Kd.C_drewN ?_ _) | (with_reducible refine Kd.C_drew ?_))); (case side2 => exact HC382_0.out); (case side3 => repeat (first | exact HR383_0.out | (with_reducible refine Kd.C_alloc ?_ _) | (with_reducible refine Kd.C_drewN ?_ _) | (with_reducible refine Kd.C_drew ?_))); (case side4 => exact HC383_0.out); rintro e w' ⟨rfl, ⟨nd, rfl⟩⟩; (try first | exact ⟨rfl, _, World.drewN_drewN _ _ _⟩ | exact ⟨rfl, _, Eq.trans (World.drewN_drewN _ _ _) (congrArg (World.drewN _) (Nat.add_assoc _ _ _))⟩))))
         go_ret
         exact ⟨by first | rfl | (simp; done) | (simp [*]; done), by repeat (first | exact Drawn0.refl _ | apply Drawn0.step)⟩
       ·rw [if_neg c7] at H
        exact absurd H (by simp)
      ·rw [if_neg c6] at H
       exact absurd H (by simp)
     ·rw [if_neg c5] at H
      exact absurd H (by simp)
    ·rw [if_neg c4] at H
     have c4b0 : decide (x13_1 < (l0.length : Int)) = false := decide_eq_false c4; clear c4
     obtain rfl := Option.some.inj H
     go_wp2
     repeat (go_quiet (fail); try go_wp2)
     go_ret
     exact ⟨by first | rfl | (simp; done) | (simp [*]; done), by repeat (first | exact Drawn0.refl _ | apply Drawn0.step)⟩
 ·rw [if_neg c3] at H
  have c3b0 : ((l0.length : Int) == (l1.length : Int)) = false := beq_eq_false_iff_ne.mpr c3
  have c3b1 : ((l0.length : Int) != (l1.length : Int)) = true := bne_iff_ne.mpr c3
  have c3b2 : (l0.length == l1.length) = false := by first | simpa using c3 | (simp at c3 ⊢; omega)
  obtain rfl := Option.some.inj H
  go_enter Tryd.func26, Tryd.ntmps26
  go_wp2
  repeat (go_quiet (fail); try go_wp2)
  go_ret
  exact ⟨by first | rfl | (simp; done) | (simp [*]; done), by repeat (first | exact Drawn0.refl _ | apply Drawn0.step)⟩

end Go.Proofs.YtakodhlaphloeaaDoor.P
