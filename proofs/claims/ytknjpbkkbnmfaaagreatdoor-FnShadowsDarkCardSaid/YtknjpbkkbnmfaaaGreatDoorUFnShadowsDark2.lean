/- The law FnShadowsDark is proved: a call of it returns true and leaves its arguments as they were; and what this needs. Every input that the given rows speak of; nothing else is asked. -/
import Derived.Test.YtknjpbkkbnmfaaaGreatDoorUFnShadowsDark0
import Derived.Test.YtknjpbkkbnmfaaaGreatDoorUFnShadowsDark1
set_option maxHeartbeats 8000000
set_option maxRecDepth 100000
namespace Go.Proofs.YtknjpbkkbnmfaaaGreatDoor.P
open Go.RowKit Go.Proofs.YtknjpbkkbnmfaaaGreatDoorW.PrintWords Go.Proofs.YtknjpbkkbnmfaaaGreatDoorW.PrintLast Go.Proofs.YtknjpbkkbnmfaaaGreatDoorW.PrintMore
set_option linter.unusedVariables false
theorem zU2_0 {p : Prop} (h : p := by (try simp only [List.map_toArray, List.map_cons, List.map_nil]); first | done | rfl | (simp only [List.length_drop, List.length_take]; rfl)) : p := h
theorem zU2_1 {p : Prop} (h : p := by repeat (first | (with_reducible first | exact HB.out | apply below_alloc | apply pw_below_drewN | apply below_drew1) | exact HB.out)) : p := h
theorem zU2_2 {p : Prop} (h : p := by simp only [putAll, Act.put, List.setIfInBounds_toArray, List.set_cons_zero, List.set_cons_succ]) : p := h
theorem zU2_3 {p : Prop} (h : p := by first | (with_reducible assumption) | assumption) : p := h
theorem zU2_4 {p : Prop} (h : p := by omega) : p := h
theorem zU2_5 {p : Prop} (h : p := by simp) : p := h
end Go.Proofs.YtknjpbkkbnmfaaaGreatDoor.P
namespace Go.Proofs.YtknjpbkkbnmfaaaGreatDoor.P
open Go.RowKit Go.Proofs.YtknjpbkkbnmfaaaGreatDoorW.PrintWords Go.Proofs.YtknjpbkkbnmfaaaGreatDoorW.PrintLast Go.Proofs.YtknjpbkkbnmfaaaGreatDoorW.PrintMore
attribute [local go_sem] max2_int min2_int max_two min_two max_three min_three max_four min_four   -- for this text's walks alone
set_option linter.unusedVariables false
set_option linter.unusedSimpArgs false

/-! ### impl_areAnyPoles: function 49 -/
def impl_areAnyPoles.l0 : Nat → List (S39) → List (S39) → Int → Int → Option (Bool)
 | 0, _, _, _, _ => none
 | k + 1, x0, x5, x6, x7 => if x7 < x6 then (if 0 ≤ x7 then (if x7 < (x5.length : Int) then ((impl_isPole.f ((rd_T39 x5 x7).f0) ((rd_T39 x5 x7).f1)).bind fun t393 => (if t393 = true then (if x7 > 0 then (if 0 ≤ (wrap64 (x7 - 1)) then (if (wrap64 (x7 - 1)) < (x0.length : Int) then (if ((rd_T39 x0 (wrap64 (x7 - 1))).f0) ≥ ((rd_T39 x5 x7).f0) then (some false) else (impl_areAnyPoles.l0 k x0 x5 x6 (wrap64 (x7 + 1)))) else (none)) else (none)) else (impl_areAnyPoles.l0 k x0 x5 x6 (wrap64 (x7 + 1)))) else (some false))) else (none)) else (none)) else ((impl_within.f (x0.length : Int) 1 6).bind fun t395 => (some t395))
def impl_areAnyPoles.f (k : Nat) (l0 : List (S39)) : Option (Bool) := impl_areAnyPoles.l0 k l0 l0 (l0.length : Int) 0
def impl_areAnyPoles.T4 : Bool × List (List Nat × List Nat) := (true, [([], []), ([0], [0]), ([1], [1]), ([2, 1], [2]), ([3], [3]), ([4, 3], [3, 4]), ([5, 3, 3], [3, 5]), ([6], [6]), ([6], [6]), ([8, 6], [6, 8]), ([7, 9, 6], [6, 7, 9]), ([10, 6], [6, 10]), ([11, 6], [6, 11]), ([6], [6]), ([13, 6], [6, 13]), ([12, 14, 6], [6, 12, 14]), ([6, 15, 3], [3, 6, 15]), ([3, 16], [3, 16])])
def impl_areAnyPoles.B4 : List Nat := [0, 1, 3, 7, 15, 31, 63, 127, 127, 383, 1023, 2047, 4095, 127, 8319, 32767, 65535, 131071]
theorem impl_areAnyPoles.tab4 : rtab .any (opsOf Tryz.f49 4) = impl_areAnyPoles.T4 := by kernel_rfl
theorem impl_areAnyPoles.bits4 : waitsOk impl_areAnyPoles.T4.2 impl_areAnyPoles.B4 = true := by kernel_rfl
theorem impl_areAnyPoles.calls (k : Nat) (A0 : Option Addr) (c0 : Nat) (l0 : List (S39)) (r : Bool) (w : World) (hr0 : Kd.C k39 w A0 l0.length l0) (hc0 : l0.length ≤ c0) (h : impl_areAnyPoles.f k l0 = some r) :
 Calls Tryz.prog 49 #[.slice A0 l0.length c0] w fun e w' => e = .returned (.bool r) ∧ Below w.heap.size w w' := by
 have hu39 := Tryz.underlying39; have HR0 := Aside0.mk hr0; have HC0 := Aside0.mk hc0; clear hr0 hc0
 have HB := Aside0.mk (Below.refl w.heap.size w)
 have H := h; rw [impl_areAnyPoles.f] at H; clear h; have H' := Aside0.mk H; clear H
 go_enter Tryz.func49, Tryz.ntmps49
 go_wp2
 go_loopg [7] k (fun kq v7 w' => ∃ (x7_1 : Int), v7 = .int .i64 x7_1 ∧ Aside0 (impl_areAnyPoles.l0 kq l0 l0 (l0.length : Int) x7_1 = some r) ∧ Aside0 (kq ≤ k) ∧ Aside0 (Below w.heap.size w w'))
 case atStart => exact ⟨(0), zu, H', ⟨Nat.le_refl _⟩, ⟨zy HB⟩⟩
 case round =>
  clear H'
  obtain ⟨x7_1, rfl, HA, HK1, HB⟩ := hrel
  cases gk with
  | zero => exact absurd HA.out (by simp [impl_areAnyPoles.l0])
  | succ k1 =>
   have H := HA.out; clear HA; simp only [impl_areAnyPoles.l0] at H
   by_cases c2 : x7_1 < (l0.length : Int)
   ·rw [if_pos c2] at H
    have c2b0 := decide_eq_true c2; clear c2
    by_cases c3 : 0 ≤ x7_1
    ·rw [if_pos c3] at H
     have c3b0 := decide_eq_true c3; clear c3
     by_cases c4 : x7_1 < (l0.length : Int)
     ·rw [if_pos c4] at H
      have c4b0 := decide_eq_true c4; clear c4; obtain ⟨t393, A5, H⟩ := zB H; (try dsimp only at H)
      by_cases c6 : t393 = true
      ·subst c6
       rw [if_pos rfl] at H
       by_cases c7 : x7_1 > 0
       ·rw [if_pos c7] at H
        have c7b0 := decide_eq_true c7; clear c7
        obtain ⟨ji8, hji8⟩ : ∃ j_ : Int, (wrap64 (x7_1 - 1)) = j_ := ⟨_, rfl⟩
        replace H : (if 0 ≤ (ji8) then (if (ji8) < (l0.length : Int) then (if ((rd_T39 l0 (ji8)).f0) ≥ ((rd_T39 l0 x7_1).f0) then (some false) else (impl_areAnyPoles.l0 k1 l0 l0 (l0.length : Int) (wrap64 (x7_1 + 1)))) else (none)) else (none)) = some r := by first | (rw [hji8] at H; exact H) | (simp only [hji8] at H ⊢; exact H)
        (try rw [hji8] at A5)
        have hji8w : (IntKind.i64.wrap (x7_1 - 1)) = ji8 := (i64_w _).trans hji8
        by_cases c9 : 0 ≤ (ji8)
        ·rw [if_pos c9] at H
         have c9b0 := decide_eq_true c9; clear c9
         by_cases c10 : (ji8) < (l0.length : Int)
         ·rw [if_pos c10] at H
          have c10b0 := decide_eq_true c10; clear c10
          by_cases c11 : ((rd_T39 l0 (ji8)).f0) ≥ ((rd_T39 l0 x7_1).f0)
          ·rw [if_pos c11] at H
           have c11b0 := decide_eq_true c11; clear c11
           obtain rfl := Option.some.inj H
           have p391 : 0 ≤ (x7_1 : Int) := of_decide_eq_true zU2_3
           have q391 : x7_1 < (l0.length : Int) := of_decide_eq_true zU2_3
           obtain ⟨ad391, e391, hx391_0, hx391_1⟩ := at_T39 HR0.out x7_1 p391 q391
           cases e391
           replace hx391_0 := (HB.out.cell (World.block_lt_of_cell? w _ hx391_0)).trans hx391_0
           replace hx391_1 := (HB.out.cell (World.block_lt_of_cell? w _ hx391_1)).trans hx391_1
           replace p391 := eq_true p391; replace q391 := eq_true q391
           try go_wp2_with (first | ((with_reducible refine gate_dst (N := 4) rfl ?_); refine zE 4 #[.int .i64 0, .int .i64 0] 39 ?_; intro gb392 hg w12 hbox hb; have BK392 := Aside0.mk (hbox); have GW392 := zg HB hg; replace HB := zh HB hb; clear hb hbox hg; obtain ⟨_, _, _, _⟩ := zc2 BK392))
           have n0_ : Aside0 (((w12.setCell ⟨gb392, 0, none⟩ (.int .i64 ((rd_T39 l0 x7_1).f0))).setCell ⟨gb392, 1, none⟩ (.int .i64 ((rd_T39 l0 x7_1).f1))).heap[gb392]? = some (.cells #[.int .i64 ((rd_T39 l0 x7_1).f0), .int .i64 ((rd_T39 l0 x7_1).f1)] 39 (0, 0))) := ⟨zw BK392⟩
           have n1_ : Aside0 (Below w.heap.size w ((w12.setCell ⟨gb392, 0, none⟩ (.int .i64 ((rd_T39 l0 x7_1).f0))).setCell ⟨gb392, 1, none⟩ (.int .i64 ((rd_T39 l0 x7_1).f1)))) := ⟨zy HB⟩
           (try clear BK392)
           (try clear HB)
           generalize ((w12.setCell ⟨gb392, 0, none⟩ (.int .i64 ((rd_T39 l0 x7_1).f0))).setCell ⟨gb392, 1, none⟩ (.int .i64 ((rd_T39 l0 x7_1).f1))) = w14 at n0_ n1_ ⊢
           have BK392 := n0_; have HB := n1_; clear n0_ n1_; replace BK392 := Aside0.mk (blk_drew BK392.out); replace HB := Aside0.mk (below_drew1 HB.out)
           have p394 : 0 ≤ ((ji8) : Int) := of_decide_eq_true zU2_3
           have q394 : (ji8) < (l0.length : Int) := of_decide_eq_true zU2_3
           obtain ⟨ad394, e394, hx394_0, hx394_1⟩ := at_T39 HR0.out (ji8) p394 q394
           have hw394_1 := hx394_1; have hw394_0 := hx394_0
           obtain rfl : ad391 = ad394 := (by injection e394)
           replace hx394_0 := (HB.out.cell (World.block_lt_of_cell? w _ hx394_0)).trans hx394_0
           replace hx394_1 := (HB.out.cell (World.block_lt_of_cell? w _ hx394_1)).trans hx394_1
           replace p394 := eq_true p394; replace q394 := eq_true q394
           refine start_ (n := 18) (S := fun w' => w'.cell? ⟨gb392, 0, none⟩ = some (.int .i64 ((rd_T39 l0 x7_1).f0)) ∧ w'.cell? ⟨gb392, 1, none⟩ = some (.int .i64 ((rd_T39 l0 x7_1).f1)) ∧ w'.cell? (ad391.add (((ji8)).toNat * 2)) = some (.int .i64 ((rd_T39 l0 (ji8)).f0)) ∧ w'.cell? ⟨(ad391.add (((ji8)).toNat * 2)).block, (ad391.add (((ji8)).toNat * 2)).off + 1, none⟩ = some (.int .i64 ((rd_T39 l0 (ji8)).f1))) (ds := []) #[false, false, false, false, false, false, false, false, false, false, false, false, false, false, false, false, false, false] (by kernel_rfl) rfl rfl ⟨zq0 BK392 0, zq0 BK392 1, ((HB.out.cell (World.block_lt_of_cell? w _ hw394_0)).trans hw394_0), ((HB.out.cell (World.block_lt_of_cell? w _ hw394_1)).trans hw394_1)⟩ (fun hHeld => ?_); refine with_tabW impl_areAnyPoles.tab4 impl_areAnyPoles.bits4 (fun HT_ HW_ => ?_)
           generalize w14.drew = w15 at BK392 HB hx394_0 hx394_1 hHeld ⊢
           refine zT 0 12 HT_ HW_ hHeld ?_
           refine zO 1 (some 13) HT_ (fun K hK => ?_)
           refine goes_ Tryz.func65 (by kernel_rfl) rfl #[.agg #[.int .i64 ((rd_T39 l0 x7_1).f0), .int .i64 ((rd_T39 l0 x7_1).f1)]] (by rfl) rfl rfl zU2_0 ?_
           with_reducible refine (impl_isPole.calls ((rd_T39 l0 x7_1).f0) ((rd_T39 l0 x7_1).f1) true _ A5.out).mono ?_
           rintro e w16 ⟨rfl, hb⟩
           refine ⟨_, rfl, ?_⟩
           replace BK392 := zb BK392 hb; replace HB := zh HB hb
           (try clear hb)
           (try clear hb2)
           (try clear hk)
           (try clear hi)
           refine hK.out _ _ ⟨zq0 BK392 0, zq0 BK392 1, ((HB.out.cell (World.block_lt_of_cell? w _ hw394_0)).trans hw394_0), ((HB.out.cell (World.block_lt_of_cell? w _ hw394_1)).trans hw394_1)⟩ (fun hHeld => ?_)
           clear hK K
           refine zN 13 ?_
           refine zA 2 14 HT_ ?_
           refine zA 3 15 HT_ ?_
           refine zA 4 16 HT_ ?_
           refine zA 5 17 HT_ ?_
           refine zA 6 18 HT_ ?_
           refine zA 7 19 HT_ ?_
           refine zA 8 20 HT_ ?_
           refine zA 9 21 HT_ ?_
           refine zA 10 22 HT_ ?_
           refine zA 11 23 HT_ ?_
           refine zA 13 25 HT_ ?_
           refine zT 12 24 HT_ HW_ hHeld ?_
           refine zT 14 26 HT_ HW_ hHeld ?_
           refine zA 15 27 HT_ ?_
           refine zA 16 28 HT_ ?_
           refine zA 17 29 HT_ ?_
           refine done_ (done_of HT_.out (by kernel_rfl)) ?_
           try go_wp2
           go_ret
           exact ⟨by first | rfl | (simp [errW_none, errW_some] <;> rfl) | (simp only [← hji8]; first | rfl | (simp [errW_none, errW_some] <;> rfl)) | (simp [*, errW_none, errW_some] <;> rfl), zy HB⟩
          ·rw [if_neg c11] at H
           have c11b0 := decide_eq_false c11; clear c11; have H' := Aside0.mk H; clear H
           have p391 : 0 ≤ (x7_1 : Int) := of_decide_eq_true zU2_3
           have q391 : x7_1 < (l0.length : Int) := of_decide_eq_true zU2_3
           obtain ⟨ad391, e391, hx391_0, hx391_1⟩ := at_T39 HR0.out x7_1 p391 q391
           cases e391
           replace hx391_0 := (HB.out.cell (World.block_lt_of_cell? w _ hx391_0)).trans hx391_0
           replace hx391_1 := (HB.out.cell (World.block_lt_of_cell? w _ hx391_1)).trans hx391_1
           replace p391 := eq_true p391; replace q391 := eq_true q391
           try go_wp2_with (first | ((with_reducible refine gate_dst (N := 4) rfl ?_); refine zE 4 #[.int .i64 0, .int .i64 0] 39 ?_; intro gb392 hg w17 hbox hb; have BK392 := Aside0.mk (hbox); have GW392 := zg HB hg; replace HB := zh HB hb; clear hb hbox hg; obtain ⟨_, _, _, _⟩ := zc2 BK392))
           have n0_ : Aside0 (((w17.setCell ⟨gb392, 0, none⟩ (.int .i64 ((rd_T39 l0 x7_1).f0))).setCell ⟨gb392, 1, none⟩ (.int .i64 ((rd_T39 l0 x7_1).f1))).heap[gb392]? = some (.cells #[.int .i64 ((rd_T39 l0 x7_1).f0), .int .i64 ((rd_T39 l0 x7_1).f1)] 39 (0, 0))) := ⟨zw BK392⟩
           have n1_ : Aside0 (Below w.heap.size w ((w17.setCell ⟨gb392, 0, none⟩ (.int .i64 ((rd_T39 l0 x7_1).f0))).setCell ⟨gb392, 1, none⟩ (.int .i64 ((rd_T39 l0 x7_1).f1)))) := ⟨zy HB⟩
           (try clear BK392)
           (try clear HB)
           generalize ((w17.setCell ⟨gb392, 0, none⟩ (.int .i64 ((rd_T39 l0 x7_1).f0))).setCell ⟨gb392, 1, none⟩ (.int .i64 ((rd_T39 l0 x7_1).f1))) = w19 at n0_ n1_ ⊢
           have BK392 := n0_; have HB := n1_; clear n0_ n1_; replace BK392 := Aside0.mk (blk_drew BK392.out); replace HB := Aside0.mk (below_drew1 HB.out)
           have p394 : 0 ≤ ((ji8) : Int) := of_decide_eq_true zU2_3
           have q394 : (ji8) < (l0.length : Int) := of_decide_eq_true zU2_3
           obtain ⟨ad394, e394, hx394_0, hx394_1⟩ := at_T39 HR0.out (ji8) p394 q394
           have hw394_1 := hx394_1; have hw394_0 := hx394_0
           obtain rfl : ad391 = ad394 := (by injection e394)
           replace hx394_0 := (HB.out.cell (World.block_lt_of_cell? w _ hx394_0)).trans hx394_0
           replace hx394_1 := (HB.out.cell (World.block_lt_of_cell? w _ hx394_1)).trans hx394_1
           replace p394 := eq_true p394; replace q394 := eq_true q394
           refine start_ (n := 18) (S := fun w' => w'.cell? ⟨gb392, 0, none⟩ = some (.int .i64 ((rd_T39 l0 x7_1).f0)) ∧ w'.cell? ⟨gb392, 1, none⟩ = some (.int .i64 ((rd_T39 l0 x7_1).f1)) ∧ w'.cell? (ad391.add (((ji8)).toNat * 2)) = some (.int .i64 ((rd_T39 l0 (ji8)).f0)) ∧ w'.cell? ⟨(ad391.add (((ji8)).toNat * 2)).block, (ad391.add (((ji8)).toNat * 2)).off + 1, none⟩ = some (.int .i64 ((rd_T39 l0 (ji8)).f1))) (ds := []) #[false, false, false, false, false, false, false, false, false, false, false, false, false, false, false, false, false, false] (by kernel_rfl) rfl rfl ⟨zq0 BK392 0, zq0 BK392 1, ((HB.out.cell (World.block_lt_of_cell? w _ hw394_0)).trans hw394_0), ((HB.out.cell (World.block_lt_of_cell? w _ hw394_1)).trans hw394_1)⟩ (fun hHeld => ?_); refine with_tabW impl_areAnyPoles.tab4 impl_areAnyPoles.bits4 (fun HT_ HW_ => ?_)
           generalize w19.drew = w20 at BK392 HB hx394_0 hx394_1 hHeld ⊢
           refine zT 0 12 HT_ HW_ hHeld ?_
           refine zO 1 (some 13) HT_ (fun K hK => ?_)
           refine goes_ Tryz.func65 (by kernel_rfl) rfl #[.agg #[.int .i64 ((rd_T39 l0 x7_1).f0), .int .i64 ((rd_T39 l0 x7_1).f1)]] (by rfl) rfl rfl zU2_0 ?_
           with_reducible refine (impl_isPole.calls ((rd_T39 l0 x7_1).f0) ((rd_T39 l0 x7_1).f1) true _ A5.out).mono ?_
           rintro e w21 ⟨rfl, hb⟩
           refine ⟨_, rfl, ?_⟩
           replace BK392 := zb BK392 hb; replace HB := zh HB hb
           (try clear hb)
           (try clear hb2)
           (try clear hk)
           (try clear hi)
           refine hK.out _ _ ⟨zq0 BK392 0, zq0 BK392 1, ((HB.out.cell (World.block_lt_of_cell? w _ hw394_0)).trans hw394_0), ((HB.out.cell (World.block_lt_of_cell? w _ hw394_1)).trans hw394_1)⟩ (fun hHeld => ?_)
           clear hK K
           refine zN 13 ?_
           refine zA 2 14 HT_ ?_
           refine zA 3 15 HT_ ?_
           refine zA 4 16 HT_ ?_
           refine zA 5 17 HT_ ?_
           refine zA 6 18 HT_ ?_
           refine zA 7 19 HT_ ?_
           refine zA 8 20 HT_ ?_
           refine zA 9 21 HT_ ?_
           refine zA 10 22 HT_ ?_
           refine zA 11 23 HT_ ?_
           refine zA 13 25 HT_ ?_
           refine zT 12 24 HT_ HW_ hHeld ?_
           refine zT 14 26 HT_ HW_ hHeld ?_
           refine zA 15 27 HT_ ?_
           refine zA 16 28 HT_ ?_
           refine zA 17 29 HT_ ?_
           refine done_ (done_of HT_.out (by kernel_rfl)) ?_
           try go_wp2
           go_roundg k1
           case measure => have := HK1.out; omega
           case rel => exact ⟨(wrap64 (x7_1 + 1)), zu, H', ⟨by have := HK1.out; omega⟩, ⟨zy HB⟩⟩
         ·rw [if_neg c10] at H
          exact absurd H zU2_5
        ·rw [if_neg c9] at H
         exact absurd H zU2_5
       ·rw [if_neg c7] at H
        have c7b0 := decide_eq_false c7; clear c7; have H' := Aside0.mk H; clear H
        have p391 : 0 ≤ (x7_1 : Int) := of_decide_eq_true zU2_3
        have q391 : x7_1 < (l0.length : Int) := of_decide_eq_true zU2_3
        obtain ⟨ad391, e391, hx391_0, hx391_1⟩ := at_T39 HR0.out x7_1 p391 q391
        cases e391
        replace hx391_0 := (HB.out.cell (World.block_lt_of_cell? w _ hx391_0)).trans hx391_0
        replace hx391_1 := (HB.out.cell (World.block_lt_of_cell? w _ hx391_1)).trans hx391_1
        replace p391 := eq_true p391; replace q391 := eq_true q391
        try go_wp2_with (first | ((with_reducible refine gate_dst (N := 4) rfl ?_); refine zE 4 #[.int .i64 0, .int .i64 0] 39 ?_; intro gb392 hg w22 hbox hb; have BK392 := Aside0.mk (hbox); have GW392 := zg HB hg; replace HB := zh HB hb; clear hb hbox hg; obtain ⟨_, _, _, _⟩ := zc2 BK392))
        have n0_ : Aside0 (((w22.setCell ⟨gb392, 0, none⟩ (.int .i64 ((rd_T39 l0 x7_1).f0))).setCell ⟨gb392, 1, none⟩ (.int .i64 ((rd_T39 l0 x7_1).f1))).heap[gb392]? = some (.cells #[.int .i64 ((rd_T39 l0 x7_1).f0), .int .i64 ((rd_T39 l0 x7_1).f1)] 39 (0, 0))) := ⟨zw BK392⟩
        have n1_ : Aside0 (Below w.heap.size w ((w22.setCell ⟨gb392, 0, none⟩ (.int .i64 ((rd_T39 l0 x7_1).f0))).setCell ⟨gb392, 1, none⟩ (.int .i64 ((rd_T39 l0 x7_1).f1)))) := ⟨zy HB⟩
        (try clear BK392)
        (try clear HB)
        generalize ((w22.setCell ⟨gb392, 0, none⟩ (.int .i64 ((rd_T39 l0 x7_1).f0))).setCell ⟨gb392, 1, none⟩ (.int .i64 ((rd_T39 l0 x7_1).f1))) = w24 at n0_ n1_ ⊢
        have BK392 := n0_; have HB := n1_; clear n0_ n1_; replace BK392 := Aside0.mk (blk_drew BK392.out); replace HB := Aside0.mk (below_drew1 HB.out)
        refine start_ (n := 18) (S := fun w' => w'.cell? ⟨gb392, 0, none⟩ = some (.int .i64 ((rd_T39 l0 x7_1).f0)) ∧ w'.cell? ⟨gb392, 1, none⟩ = some (.int .i64 ((rd_T39 l0 x7_1).f1))) (ds := []) #[false, false, false, false, false, false, false, false, false, false, false, false, false, false, false, false, false, false] (by kernel_rfl) rfl rfl ⟨zq0 BK392 0, zq0 BK392 1⟩ (fun hHeld => ?_); refine with_tabW impl_areAnyPoles.tab4 impl_areAnyPoles.bits4 (fun HT_ HW_ => ?_)
        generalize w24.drew = w25 at BK392 HB hHeld ⊢
        refine zT 0 12 HT_ HW_ hHeld ?_
        refine zO 1 (some 13) HT_ (fun K hK => ?_)
        refine goes_ Tryz.func65 (by kernel_rfl) rfl #[.agg #[.int .i64 ((rd_T39 l0 x7_1).f0), .int .i64 ((rd_T39 l0 x7_1).f1)]] (by rfl) rfl rfl zU2_0 ?_
        with_reducible refine (impl_isPole.calls ((rd_T39 l0 x7_1).f0) ((rd_T39 l0 x7_1).f1) true _ A5.out).mono ?_
        rintro e w26 ⟨rfl, hb⟩
        refine ⟨_, rfl, ?_⟩
        replace BK392 := zb BK392 hb; replace HB := zh HB hb
        (try clear hb)
        (try clear hb2)
        (try clear hk)
        (try clear hi)
        refine hK.out _ _ ⟨zq0 BK392 0, zq0 BK392 1⟩ (fun hHeld => ?_)
        clear hK K
        refine zN 13 ?_
        refine zA 2 14 HT_ ?_
        refine zA 3 15 HT_ ?_
        refine zA 4 16 HT_ ?_
        refine zA 5 17 HT_ ?_
        refine zA 6 18 HT_ ?_
        refine zAu 7 19 HT_ ?_
        refine zAu 8 20 HT_ ?_
        refine zAu 9 21 HT_ ?_
        refine zAu 10 22 HT_ ?_
        refine zAu 11 23 HT_ ?_
        refine zAu 12 24 HT_ ?_
        refine zAu 13 25 HT_ ?_
        refine zAu 14 26 HT_ ?_
        refine zAu 15 27 HT_ ?_
        refine zA 16 28 HT_ ?_
        refine zA 17 29 HT_ ?_
        refine done_ (done_of HT_.out (by kernel_rfl)) ?_
        try go_wp2
        go_roundg k1
        case measure => have := HK1.out; omega
        case rel => exact ⟨(wrap64 (x7_1 + 1)), zu, H', ⟨by have := HK1.out; omega⟩, ⟨zy HB⟩⟩
      ·replace c6 := Bool.eq_false_iff.mpr c6
       subst c6; rw [if_neg (show ¬ (false = true) by decide)] at H
       obtain rfl := Option.some.inj H
       have p391 : 0 ≤ (x7_1 : Int) := of_decide_eq_true zU2_3
       have q391 : x7_1 < (l0.length : Int) := of_decide_eq_true zU2_3
       obtain ⟨ad391, e391, hx391_0, hx391_1⟩ := at_T39 HR0.out x7_1 p391 q391
       cases e391
       replace hx391_0 := (HB.out.cell (World.block_lt_of_cell? w _ hx391_0)).trans hx391_0
       replace hx391_1 := (HB.out.cell (World.block_lt_of_cell? w _ hx391_1)).trans hx391_1
       replace p391 := eq_true p391; replace q391 := eq_true q391
       try go_wp2_with (first | ((with_reducible refine gate_dst (N := 4) rfl ?_); refine zE 4 #[.int .i64 0, .int .i64 0] 39 ?_; intro gb392 hg w27 hbox hb; have BK392 := Aside0.mk (hbox); have GW392 := zg HB hg; replace HB := zh HB hb; clear hb hbox hg; obtain ⟨_, _, _, _⟩ := zc2 BK392))
       have n0_ : Aside0 (((w27.setCell ⟨gb392, 0, none⟩ (.int .i64 ((rd_T39 l0 x7_1).f0))).setCell ⟨gb392, 1, none⟩ (.int .i64 ((rd_T39 l0 x7_1).f1))).heap[gb392]? = some (.cells #[.int .i64 ((rd_T39 l0 x7_1).f0), .int .i64 ((rd_T39 l0 x7_1).f1)] 39 (0, 0))) := ⟨zw BK392⟩
       have n1_ : Aside0 (Below w.heap.size w ((w27.setCell ⟨gb392, 0, none⟩ (.int .i64 ((rd_T39 l0 x7_1).f0))).setCell ⟨gb392, 1, none⟩ (.int .i64 ((rd_T39 l0 x7_1).f1)))) := ⟨zy HB⟩
       (try clear BK392)
       (try clear HB)
       generalize ((w27.setCell ⟨gb392, 0, none⟩ (.int .i64 ((rd_T39 l0 x7_1).f0))).setCell ⟨gb392, 1, none⟩ (.int .i64 ((rd_T39 l0 x7_1).f1))) = w29 at n0_ n1_ ⊢
       have BK392 := n0_; have HB := n1_; clear n0_ n1_; replace BK392 := Aside0.mk (blk_drew BK392.out); replace HB := Aside0.mk (below_drew1 HB.out)
       refine start_ (n := 18) (S := fun w' => w'.cell? ⟨gb392, 0, none⟩ = some (.int .i64 ((rd_T39 l0 x7_1).f0)) ∧ w'.cell? ⟨gb392, 1, none⟩ = some (.int .i64 ((rd_T39 l0 x7_1).f1))) (ds := []) #[false, false, false, false, false, false, false, false, false, false, false, false, false, false, false, false, false, false] (by kernel_rfl) rfl rfl ⟨zq0 BK392 0, zq0 BK392 1⟩ (fun hHeld => ?_); refine with_tabW impl_areAnyPoles.tab4 impl_areAnyPoles.bits4 (fun HT_ HW_ => ?_)
       generalize w29.drew = w30 at BK392 HB hHeld ⊢
       refine zT 0 12 HT_ HW_ hHeld ?_
       refine zO 1 (some 13) HT_ (fun K hK => ?_)
       refine goes_ Tryz.func65 (by kernel_rfl) rfl #[.agg #[.int .i64 ((rd_T39 l0 x7_1).f0), .int .i64 ((rd_T39 l0 x7_1).f1)]] (by rfl) rfl rfl zU2_0 ?_
       with_reducible refine (impl_isPole.calls ((rd_T39 l0 x7_1).f0) ((rd_T39 l0 x7_1).f1) false _ A5.out).mono ?_
       rintro e w31 ⟨rfl, hb⟩
       refine ⟨_, rfl, ?_⟩
       replace BK392 := zb BK392 hb; replace HB := zh HB hb
       (try clear hb)
       (try clear hb2)
       (try clear hk)
       (try clear hi)
       refine hK.out _ _ ⟨zq0 BK392 0, zq0 BK392 1⟩ (fun hHeld => ?_)
       clear hK K
       refine zN 13 ?_
       refine zA 2 14 HT_ ?_
       refine zA 3 15 HT_ ?_
       refine zAu 4 16 HT_ ?_
       refine zAu 5 17 HT_ ?_
       refine zAu 6 18 HT_ ?_
       refine zAu 7 19 HT_ ?_
       refine zAu 8 20 HT_ ?_
       refine zAu 9 21 HT_ ?_
       refine zAu 10 22 HT_ ?_
       refine zAu 11 23 HT_ ?_
       refine zAu 12 24 HT_ ?_
       refine zAu 13 25 HT_ ?_
       refine zAu 14 26 HT_ ?_
       refine zAu 15 27 HT_ ?_
       refine zAu 16 28 HT_ ?_
       refine zA 17 29 HT_ ?_
       refine done_ (done_of HT_.out (by kernel_rfl)) ?_
       try go_wp2
       go_ret
       exact ⟨zt, zy HB⟩
     ·rw [if_neg c4] at H
      exact absurd H zU2_5
    ·rw [if_neg c3] at H
     exact absurd H zU2_5
   ·rw [if_neg c2] at H
    have c2b0 := decide_eq_false c2; clear c2; obtain ⟨t395, A32, H⟩ := zB H; (try dsimp only at H)
    obtain rfl := Option.some.inj H
    go_wp2_with (first | ((with_reducible refine gate_callee (f := 38) rfl ?_); refine zG (some 33) Tryz.func38 #[.int .i64 (l0.length : Int), .int .i64 1, .int .i64 6] ?_; (with_reducible refine (impl_within.calls (l0.length : Int) 1 6 t395 _ A32.out).mono ?_); rintro e w' ⟨rfl, ⟨nd, rfl⟩⟩; refine ⟨_, rfl, ?_⟩))
    go_ret
    exact ⟨zt, zy HB⟩


/-! ### impl_text: function 50 -/
def impl_text.f (a0 : Int) : Option (ByteArray) := (strconv_Itoa_69.f a0).bind fun t415 => (some t415)
theorem impl_text.calls (a0 : Int) (r : ByteArray) (w : World) (hL_ : LaidP w) (h : impl_text.f a0 = some r) :
 Calls Tryz.prog 50 #[.int .i64 a0] w fun e w' => e = .returned (.string r) ∧ Below w.heap.size w w' := by
 have HL_ := Aside0.mk hL_; clear hL_
 have HB := Aside0.mk (Below.refl w.heap.size w)
 have H := h; rw [impl_text.f] at H; clear h; obtain ⟨t415, A2, H⟩ := zB H; (try dsimp only at H)
 obtain rfl := Option.some.inj H
 go_enter Tryz.func50, Tryz.ntmps50
 go_wp2_with (first | ((with_reducible refine gate_callee (f := 69) rfl ?_); refine zG (some 4) Tryz.func69 #[.int .i64 a0] ?_; (with_reducible refine (strconv_Itoa_69.calls a0 t415 _ (LaidP.below HL_.out (zy HB)) A2.out).mono ?_); rintro e w3 ⟨rfl, hb⟩; refine ⟨_, rfl, ?_⟩; replace HB := zh HB hb; clear hb))
 go_ret
 exact ⟨zt, zy HB⟩


/-! ### strings_Join: function 51 -/
theorem join_spot {w : World} {b o : Nat} {sp : Option Nat} {v : Value} (h : w.cell? ⟨b, o, sp⟩ = some v) : sp = none := by
 cases sp with
 | none => rfl
 | some x =>
  unfold World.cell? at h
  split at h <;> simp at h
def joinOf (l : List ByteArray) (s : ByteArray) : ByteArray := ⟨(Lib.join (l.map (·.data.toList)) s.data.toList).toArray⟩
def strings_Join.f (l0 : List ByteArray) (a1 : ByteArray) : Option ByteArray := if l0.length ≤ 1000000 ∧ (Lib.join (l0.map (·.data.toList)) a1.data.toList).length ≤ 1000000 then some (joinOf l0 a1) else none
theorem strings_Join.calls (A0 : Option Addr) (c0 : Nat) (l0 : List ByteArray) (a1 : ByteArray) (r : ByteArray) (w : World) (hr0 : Kd.C Kd.string w A0 l0.length l0) (hc0 : l0.length ≤ c0) (h : strings_Join.f l0 a1 = some r) :
 Calls Tryz.prog 51 #[.slice A0 l0.length c0, .string a1] w fun e w' => e = .returned (.string r) ∧ Below w.heap.size w w' := by
 unfold strings_Join.f at h
 by_cases hb : l0.length ≤ 1000000 ∧ (Lib.join (l0.map (·.data.toList)) a1.data.toList).length ≤ 1000000
 ·rw [if_pos hb] at h
  obtain rfl := Option.some.inj h
  rcases Nat.eq_zero_or_pos l0.length with hz | hz
  ·obtain rfl := List.eq_nil_of_length_eq_zero hz
   refine (Tryz.strings_Join_none A0 c0 a1 w).mono fun e w' hh => ?_
   obtain ⟨rfl, rfl⟩ := hh
   exact ⟨rfl, Below.refl _ _⟩
  ·obtain ⟨ad, rfl, hcell⟩ := hr0.2.2 hz
   obtain ⟨bk, o, sp⟩ := ad
   have hc : ∀ (j : Nat) x, l0[j]? = some x → w.cell? (Addr.add ⟨bk, o, sp⟩ j) = some (.string x) := by
    intro j x hx
    obtain ⟨c, hlen, hK, hcl⟩ := hcell j x hx
    have hK' : c = [.string x] := hK
    have := hcl 0 (.string x) (by rw [hK']; rfl)
    have e1 : j * (Kd.string : Kd ByteArray).sz + 0 = j := by show j * 1 + 0 = j; omega
    rw [e1] at this
    exact this
   have h0 := hc 0 l0[0] (by simp [hz])
   rw [show Addr.add ⟨bk, o, sp⟩ 0 = ⟨bk, o, sp⟩ from rfl] at h0
   obtain rfl := join_spot h0
   refine (Tryz.strings_Join bk o c0 l0 a1 w (fun j x hx => ?_) (World.block_lt_of_cell? w _ h0) zU2_4 hc0 zU2_4).mono fun e w' hh => ⟨hh.1, hh.2⟩
   have := hc j x hx
   unfold Addr.add at this
   by_cases hj : j = 0
   ·subst hj; simpa using this
   ·rw [if_neg hj] at this; exact this
 ·rw [if_neg hb] at h
  cases h



/-! ### impl_PolesText: function 28 -/
def impl_PolesText.l0 : Nat → List ByteArray → List (S39) → Int → Int → Option (ByteArray × Bool)
 | 0, _, _, _, _ => none
 | k + 1, x4, x11, x12, x13 => if x13 < x12 then (if 0 ≤ x13 then (if x13 < (x11.length : Int) then ((impl_text.f ((rd_T39 x11 x13).f0)).bind fun t422 => (if t422.size + 1 ≤ 9223372036854775807 then ((impl_text.f ((rd_T39 x11 x13).f1)).bind fun t423 => (if (t422 ++ (⟨#[124]⟩ : ByteArray)).size + t423.size ≤ 9223372036854775807 then (if x4.length < 8796093022208 then (impl_PolesText.l0 k (x4 ++ [(t422 ++ (⟨#[124]⟩ : ByteArray)) ++ t423]) x11 x12 (wrap64 (x13 + 1))) else (none)) else (none))) else (none))) else (none)) else (none)) else ((strings_Join.f x4 (⟨#[44]⟩ : ByteArray)).bind fun t427 => (some (t427, true)))
def impl_PolesText.f (k : Nat) (l0 : List (S39)) : Option (ByteArray × Bool) := (impl_areAnyPoles.f k l0).bind fun t416 => (if t416 = true then (impl_PolesText.l0 k (([] : List ByteArray)) l0 (l0.length : Int) 0) else (some ((⟨#[]⟩ : ByteArray), false)))
def impl_PolesText.T7 : Bool × List (List Nat × List Nat) := (true, [([], []), ([], []), ([1], [1]), ([2], [2]), ([3], [3]), ([], []), ([5], [5]), ([6, 3], [6]), ([4, 7], [4, 7]), ([8], [8]), ([0, 9, 7], [0, 9]), ([10, 10, 0, 1, 2, 3, 4, 5, 6, 7, 8, 9, 10], [0, 10])])
def impl_PolesText.B7 : List Nat := [0, 0, 2, 6, 14, 0, 32, 110, 254, 510, 1023, 2047]
theorem impl_PolesText.tab7 : rtab .any (opsOf Tryz.f28 7) = impl_PolesText.T7 := by kernel_rfl
theorem impl_PolesText.bits7 : waitsOk impl_PolesText.T7.2 impl_PolesText.B7 = true := by kernel_rfl
theorem impl_PolesText.calls (k : Nat) (A0 : Option Addr) (c0 : Nat) (l0 : List (S39)) (r1 : ByteArray) (r2 : Bool) (w : World) (hL_ : LaidP w) (hr0 : Kd.C k39 w A0 l0.length l0) (hc0 : l0.length ≤ c0) (h : impl_PolesText.f k l0 = some (r1, r2)) :
 Calls Tryz.prog 28 #[.slice A0 l0.length c0] w fun e w' => e = .returned (.tuple #[.string r1, .bool r2]) ∧ Below w.heap.size w w' := by
 have HL_ := Aside0.mk hL_; clear hL_; have hu39 := Tryz.underlying39; have HR0 := Aside0.mk hr0; have HC0 := Aside0.mk hc0; clear hr0 hc0
 have HB := Aside0.mk (Below.refl w.heap.size w)
 have H := h; rw [impl_PolesText.f] at H; clear h; obtain ⟨t416, A2, H⟩ := zB H; (try dsimp only at H)
 by_cases c3 : t416 = true
 ·subst c3
  rw [if_pos rfl] at H
  obtain ⟨y417, hy417⟩ : ∃ y_ : List ByteArray, y_ = (([] : List ByteArray)) := ⟨_, rfl⟩
  replace H : (impl_PolesText.l0 k y417 l0 (l0.length : Int) 0) = some (r1, r2) := by first | (rw [hy417]; with_reducible exact H) | (have H2_ := (Option.bind_some _ _).symm.trans H; rw [hy417]; with_reducible exact H2_) | (have H2_ := (Option.bind_some _ _).symm.trans H; with_reducible exact H2_) | with_reducible exact H | (rw [hy417]; exact H) | exact H
  have Ny417 := Aside0.mk hy417; clear hy417; have H' := Aside0.mk H; clear H
  go_enter Tryz.func28, Tryz.ntmps28
  go_wp2_with (first | ((with_reducible refine gate_callee (f := 49) rfl ?_); refine zG (some 8) Tryz.func49 #[.slice A0 l0.length c0] ?_; (with_reducible refine (impl_areAnyPoles.calls k _ _ l0 true _ ?side1 ?side2 A2.out).mono ?_); (case side1 => repeat (first | exact HR0.out | (with_reducible refine Kd.C_alloc ?_ _) | (with_reducible refine Kd.C_drewN ?_ _) | (with_reducible refine Kd.C_drew ?_))); (case side2 => exact HC0.out); rintro e w4 ⟨rfl, hb⟩; refine ⟨_, rfl, ?_⟩; replace HB := zh HB hb; clear hb) | ((with_reducible refine gate_dst (N := 10) rfl ?_); refine Kd.R_lit Kd.string _ 9 ?hg (N := 10) ?hd (xs := ([] : List ByteArray)) (inner := []) (ok := fun _ => True) (okp := fun _ => True) ?hr ?hp (fun _ hk => hk) trivial (Below.refl _ _) (Nat.le_refl _) zU2_5 ?_; (case hd => rfl); (case hg => rfl); (case hr => first | (go_simp; done) | (go_simp; rfl)); (case hp => exact (Reps.none _ _)); intro v418 w5 ho6 hb hg_ hnew_; clear hg_ hnew_; (first | rw [← Ny417.out] at ho6 | (simp only [Int.reduceToNat] at ho6; rw [← Ny417.out] at ho6)); have HO419 := Aside0.mk (Kd.R_lower ho6 (below_size (zy HB))); replace HB := zh HB hb; clear hb ho6))
  go_loopg [4, 13] k (fun kq v4 v13 w' => ∃ (x4_1 : List ByteArray) (x13_1 : Int), v13 = .int .i64 x13_1 ∧ Aside0 (impl_PolesText.l0 kq x4_1 l0 (l0.length : Int) x13_1 = some (r1, r2)) ∧ Aside0 (kq ≤ k) ∧ Aside0 (Kd.R Kd.string 9 w' w.heap.size (fun _ => True) v4 x4_1) ∧ Aside0 (Below w.heap.size w w'))
  case atStart => exact ⟨(y417), (0), zu, H', ⟨Nat.le_refl _⟩, zp HO419, ⟨zy HB⟩⟩
  case round =>
   clear H'
   obtain ⟨x4_1, x13_1, rfl, HA, HK1, HO_4, HB⟩ := hrel
   cases gk with
   | zero => exact absurd HA.out (by simp [impl_PolesText.l0])
   | succ k1 =>
    have H := HA.out; clear HA; simp only [impl_PolesText.l0] at H
    by_cases c7 : x13_1 < (l0.length : Int)
    ·rw [if_pos c7] at H
     have c7b0 := decide_eq_true c7; clear c7
     by_cases c8 : 0 ≤ x13_1
     ·rw [if_pos c8] at H
      have c8b0 := decide_eq_true c8; clear c8
      by_cases c9 : x13_1 < (l0.length : Int)
      ·rw [if_pos c9] at H
       have c9b0 := decide_eq_true c9; clear c9; obtain ⟨t422, A10, H⟩ := zB H; (try dsimp only at H)
       by_cases c11 : t422.size + 1 ≤ 9223372036854775807
       ·rw [if_pos c11] at H
        have c11b0 := eq_true c11; have c11b1 := decide_eq_true c11
        try have c11b2 : (9223372036854775807 < t422.size + 1) = False := eq_false (Nat.not_lt.2 c11)
        obtain ⟨t423, A12, H⟩ := zB H; (try dsimp only at H)
        by_cases c13 : (t422 ++ (⟨#[124]⟩ : ByteArray)).size + t423.size ≤ 9223372036854775807
        ·rw [if_pos c13] at H
         have c13b0 := eq_true c13; have c13b1 := decide_eq_true c13
         try have c13b2 : (9223372036854775807 < (t422 ++ (⟨#[124]⟩ : ByteArray)).size + t423.size) = False := eq_false (Nat.not_lt.2 c13)
         try (have c13b2s := Nat.not_lt.2 c13; simp only [ByteArray.size_append, show (⟨#[124]⟩ : ByteArray).size = 1 from rfl, show (⟨#[44]⟩ : ByteArray).size = 1 from rfl, show (⟨#[]⟩ : ByteArray).size = 0 from rfl] at c13b2s; replace c13b2s := eq_false c13b2s)
         by_cases c14 : x4_1.length < 8796093022208
         ·rw [if_pos c14] at H
          have LMc14 := Aside0.mk c14; clear c14
          obtain ⟨y424, hy424⟩ : ∃ y_ : List ByteArray, y_ = (x4_1 ++ [(t422 ++ (⟨#[124]⟩ : ByteArray)) ++ t423]) := ⟨_, rfl⟩
          replace H : (impl_PolesText.l0 k1 y424 l0 (l0.length : Int) (wrap64 (x13_1 + 1))) = some (r1, r2) := by first | (rw [hy424]; with_reducible exact H) | (have H2_ := (Option.bind_some _ _).symm.trans H; rw [hy424]; with_reducible exact H2_) | (have H2_ := (Option.bind_some _ _).symm.trans H; with_reducible exact H2_) | with_reducible exact H | (rw [hy424]; exact H) | exact H
          have Ny424 := Aside0.mk hy424; clear hy424; have H' := Aside0.mk H; clear H
          have p420 : 0 ≤ (x13_1 : Int) := of_decide_eq_true zU2_3
          have q420 : x13_1 < (l0.length : Int) := of_decide_eq_true zU2_3
          obtain ⟨ad420, e420, hx420_0, hx420_1⟩ := at_T39 HR0.out x13_1 p420 q420
          cases e420
          replace hx420_0 := (HB.out.cell (World.block_lt_of_cell? w _ hx420_0)).trans hx420_0
          replace hx420_1 := (HB.out.cell (World.block_lt_of_cell? w _ hx420_1)).trans hx420_1
          replace p420 := eq_true p420; replace q420 := eq_true q420
          try go_wp2_with (first | ((with_reducible refine gate_dst (N := 6) rfl ?_); refine zE 6 #[.int .i64 0, .int .i64 0] 39 ?_; intro gb421 hg w15 hbox hb; have BK421 := Aside0.mk (hbox); have GW421 := zg HB hg; replace HO_4 := zo HO_4 hb; replace HB := zh HB hb; clear hb hbox hg; obtain ⟨_, _, _, _⟩ := zc2 BK421))
          have n0_ : Aside0 (Kd.R Kd.string 9 ((w15.setCell ⟨gb421, 0, none⟩ (.int .i64 ((rd_T39 l0 x13_1).f0))).setCell ⟨gb421, 1, none⟩ (.int .i64 ((rd_T39 l0 x13_1).f1))) w.heap.size (fun _ => True) u4 x4_1) := ⟨by (with_reducible repeat (first | apply Kd.R_alloc | apply Kd.R_drewN | apply Kd.R_drew)); exact Kd.R_mono (Kd.R_far (p := ⟨gb421, 1, none⟩) (Kd.R_far (p := ⟨gb421, 0, none⟩) (Kd.R_types HO_4.out BK421.out (by decide)) (fun _ hk => hk.2) (.int .i64 ((rd_T39 l0 x13_1).f0))) (fun _ hk => hk.2) (.int .i64 ((rd_T39 l0 x13_1).f1))) (fun _ hk => trivial)⟩
          have n1_ : Aside0 (((w15.setCell ⟨gb421, 0, none⟩ (.int .i64 ((rd_T39 l0 x13_1).f0))).setCell ⟨gb421, 1, none⟩ (.int .i64 ((rd_T39 l0 x13_1).f1))).heap[gb421]? = some (.cells #[.int .i64 ((rd_T39 l0 x13_1).f0), .int .i64 ((rd_T39 l0 x13_1).f1)] 39 (0, 0))) := ⟨zw BK421⟩
          have n2_ : Aside0 (Below w.heap.size w ((w15.setCell ⟨gb421, 0, none⟩ (.int .i64 ((rd_T39 l0 x13_1).f0))).setCell ⟨gb421, 1, none⟩ (.int .i64 ((rd_T39 l0 x13_1).f1)))) := ⟨zy HB⟩
          (try clear HO_4)
          (try clear BK421)
          (try clear HB)
          generalize ((w15.setCell ⟨gb421, 0, none⟩ (.int .i64 ((rd_T39 l0 x13_1).f0))).setCell ⟨gb421, 1, none⟩ (.int .i64 ((rd_T39 l0 x13_1).f1))) = w17 at n0_ n1_ n2_ ⊢
          have HO_4 := n0_; have BK421 := n1_; have HB := n2_; clear n0_ n1_ n2_; replace HO_4 := Aside0.mk (Kd.R_drew HO_4.out); replace BK421 := Aside0.mk (blk_drew BK421.out); replace HB := Aside0.mk (below_drew1 HB.out)
          refine start_ (n := 12) (S := fun w' => w'.cell? ⟨gb421, 0, none⟩ = some (.int .i64 ((rd_T39 l0 x13_1).f0)) ∧ w'.cell? ⟨gb421, 1, none⟩ = some (.int .i64 ((rd_T39 l0 x13_1).f1))) (ds := []) #[false, false, false, false, false, false, false, false, false, false, false, false] (by kernel_rfl) rfl rfl ⟨zq0 BK421 0, zq0 BK421 1⟩ (fun hHeld => ?_); refine with_tabW impl_PolesText.tab7 impl_PolesText.bits7 (fun HT_ HW_ => ?_)
          generalize w17.drew = w18 at HO_4 BK421 HB hHeld ⊢
          refine zA 0 17 HT_ ?_
          refine zA 1 18 HT_ ?_
          refine zA 5 22 HT_ ?_
          refine zT 2 19 HT_ HW_ hHeld ?_
          refine zT 6 23 HT_ HW_ hHeld ?_
          refine zO 3 (some 20) HT_ (fun K hK => ?_)
          refine goes_ Tryz.func50 (by kernel_rfl) rfl #[.int .i64 ((rd_T39 l0 x13_1).f0)] (by rfl) rfl rfl zU2_0 ?_
          with_reducible refine (impl_text.calls ((rd_T39 l0 x13_1).f0) t422 _ (LaidP.below HL_.out (zy HB)) A10.out).mono ?_
          rintro e w19 ⟨rfl, hb⟩
          refine ⟨_, rfl, ?_⟩
          replace HO_4 := zo HO_4 hb; replace BK421 := zb BK421 hb; replace HB := zh HB hb
          (try clear hb)
          (try clear hb2)
          (try clear hk)
          (try clear hi)
          refine hK.out _ _ ⟨zq0 BK421 0, zq0 BK421 1⟩ (fun hHeld => ?_)
          clear hK K
          refine zN 20 ?_
          refine zA 4 21 HT_ ?_
          refine zO 7 (some 24) HT_ (fun K hK => ?_)
          refine goes_ Tryz.func50 (by kernel_rfl) rfl #[.int .i64 ((rd_T39 l0 x13_1).f1)] (by rfl) rfl rfl zU2_0 ?_
          with_reducible refine (impl_text.calls ((rd_T39 l0 x13_1).f1) t423 _ (LaidP.below HL_.out (zy HB)) A12.out).mono ?_
          rintro e w20 ⟨rfl, hb⟩
          refine ⟨_, rfl, ?_⟩
          replace HO_4 := zo HO_4 hb; replace BK421 := zb BK421 hb; replace HB := zh HB hb
          (try clear hb)
          (try clear hb2)
          (try clear hk)
          (try clear hi)
          refine hK.out _ _ ⟨zq0 BK421 0, zq0 BK421 1⟩ (fun hHeld => ?_)
          clear hK K
          refine zN 24 ?_
          refine zA 8 25 HT_ ?_
          refine zO 9 (some 26) HT_ (fun K hK => ?_)
          refine value_ (w1 := ?_) (v := ?_) (by rfl) rfl ?_ ?_
          rotate_left 2
          ·go_simp
           constructor
           ·rfl
           ·rfl
          refine hK.out _ _ ⟨(blk_cell (blk_alloc BK421.out _) 0).trans rfl, (blk_cell (blk_alloc BK421.out _) 1).trans rfl⟩ (fun hHeld => ?_)
          clear hK K
          refine zN 26 ?_
          refine zO 10 (some 27) HT_ (fun K hK => ?_)
          refine Kd.R_append_step Kd.string (w0 := w) w.heap.size (by rfl) (.tmp 17) (.tmp 26) 73 9 (.string ⟨#[]⟩) 16 rfl Tryz.underlying73 info9 rfl (by decide) zU2_4 u4 x4_1 ((t422 ++ (⟨#[124]⟩ : ByteArray)) ++ t423) [.string ((t422 ++ (⟨#[124]⟩ : ByteArray)) ++ t423)] (fun _ => True) (fun _ => False) rfl rfl ?aP (fun _ hk => hk.elim) ?aF ?aO ?aB ?aS ?aL ?_
          (case aP => exact rfl)
          (case aB => exact (zy HB))
          (case aF => exact (fun _ _ => trivial))
          (case aO => exact (zs HO_4))
          (case aS => exact (below_size (zy HB)))
          (case aL => have := LMc14.out; omega)
          intro v425 w21 ho hb hg hat
          rw [← Ny424.out] at ho
          have n0_ := Aside0.mk (blk_grown (zq BK421) hg (Kd.R_ne HO_4.out BK421.out (by decide)))
          have HO426 := Aside0.mk (ho)
          replace HB := Aside0.mk hb
          clear HO_4; clear BK421; have BK421 := n0_; clear n0_; clear ho hb hg hat
          refine hK.out _ _ ⟨zq0 BK421 0, zq0 BK421 1⟩ (fun hHeld => ?_)
          clear hK K
          refine zN 27 ?_
          refine zA 11 4 HT_ ?_
          refine done_ (done_of HT_.out (by kernel_rfl)) ?_
          try go_wp2
          go_roundg k1
          case measure => have := HK1.out; omega
          case rel => exact ⟨(y424), (wrap64 (x13_1 + 1)), zu, H', ⟨by have := HK1.out; omega⟩, zp HO426, ⟨zy HB⟩⟩
         ·rw [if_neg c14] at H
          exact absurd H zU2_5
        ·rw [if_neg c13] at H
         exact absurd H zU2_5
       ·rw [if_neg c11] at H
        exact absurd H zU2_5
      ·rw [if_neg c9] at H
       exact absurd H zU2_5
     ·rw [if_neg c8] at H
      exact absurd H zU2_5
    ·rw [if_neg c7] at H
     have c7b0 := decide_eq_false c7; clear c7; obtain ⟨t427, A22, H⟩ := zB H; (try dsimp only at H); simp only [Option.some.injEq, Prod.mk.injEq] at H; obtain ⟨rfl, rfl⟩ := H
     obtain ⟨Ao23, co23, eo23⟩ := Kd.R_slice HO_4.out
     subst eo23
     go_wp2_with (first | ((with_reducible refine gate_callee (f := 51) rfl ?_); refine zG (some 30) Tryz.func51 #[.slice Ao23 x4_1.length co23, .string (⟨#[44]⟩ : ByteArray)] ?_; (with_reducible refine (strings_Join.calls _ _ x4_1 (⟨#[44]⟩ : ByteArray) t427 _ ?side1 ?side2 A22.out).mono ?_); (case side1 => repeat (first | exact (Kd.R_reads' HO_4.out).2.2 | (with_reducible refine Kd.C_alloc ?_ _) | (with_reducible refine Kd.C_drewN ?_ _) | (with_reducible refine Kd.C_drew ?_))); (case side2 => exact (Kd.R_reads' HO_4.out).2.1); rintro e w24 ⟨rfl, hb⟩; refine ⟨_, rfl, ?_⟩; replace HO_4 := zo HO_4 hb; replace HB := zh HB hb; clear hb))
     go_ret2
     exact ⟨zt, zy HB⟩
 ·replace c3 := Bool.eq_false_iff.mpr c3
  subst c3; rw [if_neg (show ¬ (false = true) by decide)] at H; simp only [Option.some.injEq, Prod.mk.injEq] at H; obtain ⟨rfl, rfl⟩ := H
  go_enter Tryz.func28, Tryz.ntmps28
  go_wp2_with (first | ((with_reducible refine gate_callee (f := 49) rfl ?_); refine zG (some 8) Tryz.func49 #[.slice A0 l0.length c0] ?_; (with_reducible refine (impl_areAnyPoles.calls k _ _ l0 false _ ?side1 ?side2 A2.out).mono ?_); (case side1 => repeat (first | exact HR0.out | (with_reducible refine Kd.C_alloc ?_ _) | (with_reducible refine Kd.C_drewN ?_ _) | (with_reducible refine Kd.C_drew ?_))); (case side2 => exact HC0.out); rintro e w25 ⟨rfl, hb⟩; refine ⟨_, rfl, ?_⟩; replace HB := zh HB hb; clear hb))
  go_ret2
  exact ⟨zt, zy HB⟩


/-! ### spec_l1Num: function 73 -/
def spec_l1Num.f : Nat → Int → Option (ByteArray)
 | 0, _ => none
 | k + 1, a0 => if a0 < 10 then (some (strOfNums (([(wrap64 (48 + a0)) % 256] : List Int)))) else ((spec_l1Num.f k (wrap64 (Int.tdiv a0 10))).bind fun t431 => ((some (([(wrap64 (48 + (Int.tmod a0 10))) % 256] : List Int) : List Int)).bind fun y432 => (if t431.size + (strOfNums y432).size ≤ 9223372036854775807 then (some (t431 ++ (strOfNums y432))) else (none))))
def spec_l1Num.T3 : Bool × List (List Nat × List Nat) := (true, [([], []), ([0], [0]), ([1], [1]), ([], []), ([3], [3]), ([4], [4]), ([5], [5]), ([6], [6]), ([7], [7]), ([2, 8], [2, 8]), ([9, 2, 0, 1, 2, 3, 4, 5, 6, 7, 8, 9], [9])])
def spec_l1Num.B3 : List Nat := [0, 1, 3, 0, 8, 24, 56, 120, 248, 511, 1023]
theorem spec_l1Num.tab3 : rtab .any (opsOf Tryz.f73 3) = spec_l1Num.T3 := by kernel_rfl
theorem spec_l1Num.bits3 : waitsOk spec_l1Num.T3.2 spec_l1Num.B3 = true := by kernel_rfl
theorem spec_l1Num.calls (k : Nat) : ∀ (a0 : Int) (r : ByteArray) (w : World) (h : spec_l1Num.f k a0 = some r),
 Calls Tryz.prog 73 #[.int .i64 a0] w fun e w' => e = .returned (.string r) ∧ Below w.heap.size w w' := by
 induction k using Nat.strongRecOn with
 | _ k ih =>
 intro a0 r w h
 cases k with
 | zero => exact absurd h (by simp [spec_l1Num.f])
 | succ k =>
 simp only [spec_l1Num.f] at h
 have HB := Aside0.mk (Below.refl w.heap.size w)
 have H : (if a0 < 10 then (some (strOfNums (([(wrap64 (48 + a0)) % 256] : List Int)))) else ((spec_l1Num.f k (wrap64 (Int.tdiv a0 10))).bind fun t431 => ((some (([(wrap64 (48 + (Int.tmod a0 10))) % 256] : List Int) : List Int)).bind fun y432 => (if t431.size + (strOfNums y432).size ≤ 9223372036854775807 then (some (t431 ++ (strOfNums y432))) else (none))))) = some r := h
 clear h
 by_cases c2 : a0 < 10
 ·rw [if_pos c2] at H
  have c2b0 := decide_eq_true c2; clear c2
  obtain ⟨y428, hy428⟩ : ∃ y_ : List Int, y_ = (([(wrap64 (48 + a0)) % 256] : List Int)) := ⟨_, rfl⟩
  replace H : (some (strOfNums y428)) = some r := by first | (rw [hy428]; with_reducible exact H) | (have H2_ := (Option.bind_some _ _).symm.trans H; rw [hy428]; with_reducible exact H2_) | (have H2_ := (Option.bind_some _ _).symm.trans H; with_reducible exact H2_) | with_reducible exact H | (rw [hy428]; exact H) | exact H
  have Ny428 := Aside0.mk hy428; clear hy428
  obtain rfl := Option.some.inj H
  go_enter Tryz.func73, Tryz.ntmps73
  go_wp2_with (first | ((with_reducible refine gate_dst (N := 8) rfl ?_); refine Kd.R_lit (Kd.int .u8) _ 5 ?hg (N := 8) ?hd (xs := ([(wrap64 (48 + a0)) % 256] : List Int)) (inner := [.int .u8 ((wrap64 (48 + a0)) % 256)]) (ok := fun _ => True) (okp := fun _ => True) ?hr ?hp (fun _ hk => hk) trivial (Below.refl _ _) (Nat.le_refl _) zU2_5 ?_; (case hd => rfl); (case hg => rfl); (case hr => first | (go_simp; done) | (go_simp; rfl)); (case hp => exact (Reps.one (show Kd.M (Kd.int .u8) _ _ _ ((wrap64 (48 + a0)) % 256) [.int .u8 ((wrap64 (48 + a0)) % 256)] from rfl) (Reps.none _ _))); intro v429 w3 ho4 hb hg_ hnew_; clear hg_ hnew_; (first | rw [← Ny428.out] at ho4 | (simp only [Int.reduceToNat] at ho4; rw [← Ny428.out] at ho4)); have HO430 := Aside0.mk (Kd.R_lower ho4 (below_size (zy HB))); replace HB := zh HB hb; clear hb ho4; have hcv5 := own_string (P := Tryz.prog) Tryz.underlying22 Tryz.underlying5 Tryz.underlying9 (Kd.own_of_R HO430.out)))
  go_ret
  exact ⟨zt, zy HB⟩
 ·rw [if_neg c2] at H
  have c2b0 := decide_eq_false c2; clear c2; obtain ⟨t431, A6, H⟩ := zB H; (try dsimp only at H)
  obtain ⟨y432, hy432⟩ : ∃ y_ : List Int, y_ = (([(wrap64 (48 + (Int.tmod a0 10))) % 256] : List Int)) := ⟨_, rfl⟩
  replace H : (if t431.size + (strOfNums y432).size ≤ 9223372036854775807 then (some (t431 ++ (strOfNums y432))) else (none)) = some r := by first | (rw [hy432]; with_reducible exact H) | (have H2_ := (Option.bind_some _ _).symm.trans H; rw [hy432]; with_reducible exact H2_) | (have H2_ := (Option.bind_some _ _).symm.trans H; with_reducible exact H2_) | with_reducible exact H | (rw [hy432]; exact H) | exact H
  have Ny432 := Aside0.mk hy432; clear hy432
  by_cases c7 : t431.size + (strOfNums y432).size ≤ 9223372036854775807
  ·rw [if_pos c7] at H
   have c7b0 := eq_true c7; have c7b1 := decide_eq_true c7
   try have c7b2 : (9223372036854775807 < t431.size + (strOfNums y432).size) = False := eq_false (Nat.not_lt.2 c7)
   obtain rfl := Option.some.inj H
   go_enter Tryz.func73, Tryz.ntmps73
   try go_wp2
   replace HB := Aside0.mk (below_drew1 HB.out)
   refine start_ (n := 11) (S := fun w' => True) (ds := []) #[false, false, false, false, false, false, false, false, false, false, false] (by kernel_rfl) rfl rfl trivial (fun hHeld => ?_); refine with_tabW spec_l1Num.tab3 spec_l1Num.bits3 (fun HT_ HW_ => ?_)
   generalize w.drew = w8 at HB hHeld ⊢
   refine zA 0 10 HT_ ?_
   refine zA 1 11 HT_ ?_
   refine zA 3 13 HT_ ?_
   refine zA 4 14 HT_ ?_
   refine zA 5 15 HT_ ?_
   refine zA 6 16 HT_ ?_
   refine join_ (σ := Value) 2 #[true, true, true, true, true, true, true, true, true, false, false] (fun s_ => [(12, .string t431), (17, s_), (18, .string (strOfNums y432))]) (fun s_ w' => (Kd.R (Kd.int .u8) 5 w' w.heap.size (fun _ => True) s_ y432) ∧ (Below w.heap.size w w')) ?_ ?_
   rotate_left
   ·intro hCont
    refine two_ (i := 2) (j := 7) (Ni := some 12) (Nj := some 17) #[true, true, true, true, true, true, true, false, false, false, false] #[true, true, false, true, true, true, true, true, false, false, false] rfl rfl rfl rfl (two_of HT_.out (by kernel_rfl)) (by decide) (by decide) (fun K hK => ?_) (fun K hK => ?_)
    ·skip
     refine goes_ Tryz.func73 (by kernel_rfl) rfl #[.int .i64 (wrap64 (Int.tdiv a0 10))] (by rfl) rfl rfl zU2_0 ?_
     with_reducible refine (ih k zU2_4 (wrap64 (Int.tdiv a0 10)) t431 _ A6.out).mono ?_
     rintro e w9 ⟨rfl, hb⟩
     refine ⟨_, rfl, ?_⟩
     replace HB := zh HB hb
     (try clear hb)
     (try clear hb2)
     (try clear hk)
     (try clear hi)
     refine hK.out _ _ trivial (fun hHeld => ?_)
     clear hK K
     refine zN 12 ?_
     refine zO 7 (some 17) HT_ (fun K hK => ?_)
     refine Kd.R_lit_step (Kd.int .u8) _ 5 ?hg (N := 17) ?hd (xs := ([(wrap64 (48 + (Int.tmod a0 10))) % 256] : List Int)) (inner := [.int .u8 ((wrap64 (48 + (Int.tmod a0 10))) % 256)]) (ok := fun _ => True) (okp := fun _ => True) ?hr ?hp (fun _ hk => hk) trivial (Below.refl _ _) (Nat.le_refl _) zU2_5 ?_; (case hd => rfl); (case hg => rfl); (case hr => first | (go_simp; done) | (go_simp; rfl)); (case hp => exact (Reps.one (show Kd.M (Kd.int .u8) _ _ _ ((wrap64 (48 + (Int.tmod a0 10))) % 256) [.int .u8 ((wrap64 (48 + (Int.tmod a0 10))) % 256)] from rfl) (Reps.none _ _)))
     intro v433 w10 ho11 hb hg_ hnew_
     clear hg_ hnew_
     (first | rw [← Ny432.out] at ho11 | (simp only [Int.reduceToNat] at ho11; rw [← Ny432.out] at ho11))
     have HO434 := Aside0.mk (Kd.R_lower ho11 (below_size (zy HB)))
     replace HB := zh HB hb; clear hb ho11
     refine hK.out _ _ trivial (fun hHeld => ?_)
     clear hK K
     refine zN 17 ?_
     refine zO 8 (some 18) HT_ (fun K hK => ?_)
     have hcv12 := own_string (P := Tryz.prog) Tryz.underlying22 Tryz.underlying5 Tryz.underlying9 (Kd.own_of_R HO434.out)
     refine value_ (w1 := ?_) (v := ?_) (by rfl) rfl ?_ ?_
     rotate_left 2
     ·go_simp
      constructor
      ·rfl
      ·rfl
     clear hcv12
     refine hK.out _ _ trivial (fun hHeld => ?_)
     clear hK K
     refine zN 18 ?_
     exact norm_ zU2_2 (hCont (v433) _ ⟨(zs HO434), (zy HB)⟩)
    ·skip
     refine Kd.R_lit_step (Kd.int .u8) _ 5 ?hg (N := 17) ?hd (xs := ([(wrap64 (48 + (Int.tmod a0 10))) % 256] : List Int)) (inner := [.int .u8 ((wrap64 (48 + (Int.tmod a0 10))) % 256)]) (ok := fun _ => True) (okp := fun _ => True) ?hr ?hp (fun _ hk => hk) trivial (Below.refl _ _) (Nat.le_refl _) zU2_5 ?_; (case hd => rfl); (case hg => rfl); (case hr => first | (go_simp; done) | (go_simp; rfl)); (case hp => exact (Reps.one (show Kd.M (Kd.int .u8) _ _ _ ((wrap64 (48 + (Int.tmod a0 10))) % 256) [.int .u8 ((wrap64 (48 + (Int.tmod a0 10))) % 256)] from rfl) (Reps.none _ _)))
     intro v433 w9 ho10 hb hg_ hnew_
     clear hg_ hnew_
     (first | rw [← Ny432.out] at ho10 | (simp only [Int.reduceToNat] at ho10; rw [← Ny432.out] at ho10))
     have HO434 := Aside0.mk (Kd.R_lower ho10 (below_size (zy HB)))
     replace HB := zh HB hb; clear hb ho10
     refine hK.out _ _ trivial (fun hHeld => ?_)
     clear hK K
     refine zN 17 ?_
     refine two_ (i := 2) (j := 8) (Ni := some 12) (Nj := some 18) #[true, true, true, true, true, true, true, true, false, false, false] #[true, true, false, true, true, true, true, true, true, false, false] rfl rfl rfl rfl (two_of HT_.out (by kernel_rfl)) (by decide) (by decide) (fun K hK => ?_) (fun K hK => ?_)
     ·skip
      refine goes_ Tryz.func73 (by kernel_rfl) rfl #[.int .i64 (wrap64 (Int.tdiv a0 10))] (by rfl) rfl rfl zU2_0 ?_
      with_reducible refine (ih k zU2_4 (wrap64 (Int.tdiv a0 10)) t431 _ A6.out).mono ?_
      rintro e w11 ⟨rfl, hb⟩
      refine ⟨_, rfl, ?_⟩
      replace HO434 := zo HO434 hb; replace HB := zh HB hb
      (try clear hb)
      (try clear hb2)
      (try clear hk)
      (try clear hi)
      refine hK.out _ _ trivial (fun hHeld => ?_)
      clear hK K
      refine zN 12 ?_
      refine zO 8 (some 18) HT_ (fun K hK => ?_)
      have hcv12 := own_string (P := Tryz.prog) Tryz.underlying22 Tryz.underlying5 Tryz.underlying9 (Kd.own_of_R HO434.out)
      refine value_ (w1 := ?_) (v := ?_) (by rfl) rfl ?_ ?_
      rotate_left 2
      ·go_simp
       constructor
       ·rfl
       ·rfl
      clear hcv12
      refine hK.out _ _ trivial (fun hHeld => ?_)
      clear hK K
      refine zN 18 ?_
      exact norm_ zU2_2 (hCont (v433) _ ⟨(zs HO434), (zy HB)⟩)
     ·skip
      have hcv11 := own_string (P := Tryz.prog) Tryz.underlying22 Tryz.underlying5 Tryz.underlying9 (Kd.own_of_R HO434.out)
      refine value_ (w1 := ?_) (v := ?_) (by rfl) rfl ?_ ?_
      rotate_left 2
      ·go_simp
       constructor
       ·rfl
       ·rfl
      clear hcv11
      refine hK.out _ _ trivial (fun hHeld => ?_)
      clear hK K
      refine zN 18 ?_
      refine zO 2 (some 12) HT_ (fun K hK => ?_)
      refine goes_ Tryz.func73 (by kernel_rfl) rfl #[.int .i64 (wrap64 (Int.tdiv a0 10))] (by rfl) rfl rfl zU2_0 ?_
      with_reducible refine (ih k zU2_4 (wrap64 (Int.tdiv a0 10)) t431 _ A6.out).mono ?_
      rintro e w12 ⟨rfl, hb⟩
      refine ⟨_, rfl, ?_⟩
      replace HO434 := zo HO434 hb; replace HB := zh HB hb
      (try clear hb)
      (try clear hb2)
      (try clear hk)
      (try clear hi)
      refine hK.out _ _ trivial (fun hHeld => ?_)
      clear hK K
      refine zN 12 ?_
      exact norm_ zU2_2 (hCont (v433) _ ⟨(zs HO434), (zy HB)⟩)
   rintro v433 w13 ⟨h0_, h1_⟩
   have n0_ : Aside0 (Kd.R (Kd.int .u8) 5 w13 w.heap.size (fun _ => True) v433 y432) := ⟨h0_⟩
   have n1_ : Aside0 (Below w.heap.size w w13) := ⟨h1_⟩
   clear HB; clear h0_ h1_; have HO434 := n0_; have HB := n1_; clear n0_ n1_; have hHeld := trivial
   refine norm_ (a' := ?_) ?_ ?_
   rotate_left
   ·simp only [putAll, Act.put, List.setIfInBounds_toArray, List.set_cons_zero, List.set_cons_succ]
    rfl
   refine zA 9 19 HT_ ?_
   refine zA 10 2 HT_ ?_
   refine done_ (done_of HT_.out (by kernel_rfl)) ?_
   try go_wp2
   go_ret
   exact ⟨zt, zy HB⟩
  ·rw [if_neg c7] at H
   exact absurd H zU2_5


/-! ### spec_swText: function 53 -/
def spec_swText.l0 : Nat → ByteArray → List (S39) → Int → Int → Option (ByteArray)
 | 0, _, _, _, _ => none
 | k + 1, x3, x6, x7, x8 => if x8 < x7 then (if 0 ≤ x8 then (if x8 < (x6.length : Int) then (if x8 > 0 then (if x3.size + 1 ≤ 9223372036854775807 then ((spec_l1Num.f k ((rd_T39 x6 x8).f0)).bind fun t437 => (if t437.size + 1 ≤ 9223372036854775807 then ((spec_l1Num.f k ((rd_T39 x6 x8).f1)).bind fun t438 => (if (t437 ++ (⟨#[124]⟩ : ByteArray)).size + t438.size ≤ 9223372036854775807 then (if (x3 ++ (⟨#[44]⟩ : ByteArray)).size + ((t437 ++ (⟨#[124]⟩ : ByteArray)) ++ t438).size ≤ 9223372036854775807 then (spec_swText.l0 k ((x3 ++ (⟨#[44]⟩ : ByteArray)) ++ ((t437 ++ (⟨#[124]⟩ : ByteArray)) ++ t438)) x6 x7 (wrap64 (x8 + 1))) else (none)) else (none))) else (none))) else (none)) else ((spec_l1Num.f k ((rd_T39 x6 x8).f0)).bind fun t439 => (if t439.size + 1 ≤ 9223372036854775807 then ((spec_l1Num.f k ((rd_T39 x6 x8).f1)).bind fun t440 => (if (t439 ++ (⟨#[124]⟩ : ByteArray)).size + t440.size ≤ 9223372036854775807 then (if x3.size + ((t439 ++ (⟨#[124]⟩ : ByteArray)) ++ t440).size ≤ 9223372036854775807 then (spec_swText.l0 k (x3 ++ ((t439 ++ (⟨#[124]⟩ : ByteArray)) ++ t440)) x6 x7 (wrap64 (x8 + 1))) else (none)) else (none))) else (none)))) else (none)) else (none)) else (some x3)
def spec_swText.f (k : Nat) (l0 : List (S39)) : Option (ByteArray) := spec_swText.l0 k (⟨#[]⟩ : ByteArray) l0 (l0.length : Int) 0
def spec_swText.T7 : Bool × List (List Nat × List Nat) := (true, [([], []), ([], []), ([1], [1]), ([2], [2]), ([3], [3]), ([], []), ([5], [5]), ([6, 3], [6]), ([4, 7], [4, 7]), ([0, 8], [0, 8]), ([9, 7, 0, 1, 2, 3, 4, 5, 6, 7, 8, 9], [0, 9])])
def spec_swText.B7 : List Nat := [0, 0, 2, 6, 14, 0, 32, 110, 254, 511, 1023]
theorem spec_swText.tab7 : rtab .any (opsOf Tryz.f53 7) = spec_swText.T7 := by kernel_rfl
theorem spec_swText.bits7 : waitsOk spec_swText.T7.2 spec_swText.B7 = true := by kernel_rfl
theorem spec_swText.calls (k : Nat) (A0 : Option Addr) (c0 : Nat) (l0 : List (S39)) (r : ByteArray) (w : World) (hr0 : Kd.C k39 w A0 l0.length l0) (hc0 : l0.length ≤ c0) (h : spec_swText.f k l0 = some r) :
 Calls Tryz.prog 53 #[.slice A0 l0.length c0] w fun e w' => e = .returned (.string r) ∧ Below w.heap.size w w' := by
 have hu39 := Tryz.underlying39; have HR0 := Aside0.mk hr0; have HC0 := Aside0.mk hc0; clear hr0 hc0
 have HB := Aside0.mk (Below.refl w.heap.size w)
 have H := h; rw [spec_swText.f] at H; clear h; have H' := Aside0.mk H; clear H
 go_enter Tryz.func53, Tryz.ntmps53
 go_wp2
 go_loopg [3, 8] k (fun kq v3 v8 w' => ∃ (x3_1 : ByteArray) (x8_1 : Int), v3 = .string x3_1 ∧ v8 = .int .i64 x8_1 ∧ Aside0 (spec_swText.l0 kq x3_1 l0 (l0.length : Int) x8_1 = some r) ∧ Aside0 (kq ≤ k) ∧ Aside0 (Below w.heap.size w w'))
 case atStart => exact ⟨((⟨#[]⟩ : ByteArray)), (0), zu, zu, H', ⟨Nat.le_refl _⟩, ⟨zy HB⟩⟩
 case round =>
  clear H'
  obtain ⟨x3_1, x8_1, rfl, rfl, HA, HK1, HB⟩ := hrel
  cases gk with
  | zero => exact absurd HA.out (by simp [spec_swText.l0])
  | succ k1 =>
   have H := HA.out; clear HA; simp only [spec_swText.l0] at H
   by_cases c2 : x8_1 < (l0.length : Int)
   ·rw [if_pos c2] at H
    have c2b0 := decide_eq_true c2; clear c2
    by_cases c3 : 0 ≤ x8_1
    ·rw [if_pos c3] at H
     have c3b0 := decide_eq_true c3; clear c3
     by_cases c4 : x8_1 < (l0.length : Int)
     ·rw [if_pos c4] at H
      have c4b0 := decide_eq_true c4; clear c4
      by_cases c5 : x8_1 > 0
      ·rw [if_pos c5] at H
       have c5b0 := decide_eq_true c5; clear c5
       by_cases c6 : x3_1.size + 1 ≤ 9223372036854775807
       ·rw [if_pos c6] at H
        have c6b0 := eq_true c6; have c6b1 := decide_eq_true c6
        try have c6b2 : (9223372036854775807 < x3_1.size + 1) = False := eq_false (Nat.not_lt.2 c6)
        obtain ⟨t437, A7, H⟩ := zB H; (try dsimp only at H)
        by_cases c8 : t437.size + 1 ≤ 9223372036854775807
        ·rw [if_pos c8] at H
         have c8b0 := eq_true c8; have c8b1 := decide_eq_true c8
         try have c8b2 : (9223372036854775807 < t437.size + 1) = False := eq_false (Nat.not_lt.2 c8)
         obtain ⟨t438, A9, H⟩ := zB H; (try dsimp only at H)
         by_cases c10 : (t437 ++ (⟨#[124]⟩ : ByteArray)).size + t438.size ≤ 9223372036854775807
         ·rw [if_pos c10] at H
          have c10b0 := eq_true c10; have c10b1 := decide_eq_true c10
          try have c10b2 : (9223372036854775807 < (t437 ++ (⟨#[124]⟩ : ByteArray)).size + t438.size) = False := eq_false (Nat.not_lt.2 c10)
          try (have c10b2s := Nat.not_lt.2 c10; simp only [ByteArray.size_append, show (⟨#[124]⟩ : ByteArray).size = 1 from rfl, show (⟨#[44]⟩ : ByteArray).size = 1 from rfl, show (⟨#[]⟩ : ByteArray).size = 0 from rfl] at c10b2s; replace c10b2s := eq_false c10b2s)
          by_cases c11 : (x3_1 ++ (⟨#[44]⟩ : ByteArray)).size + ((t437 ++ (⟨#[124]⟩ : ByteArray)) ++ t438).size ≤ 9223372036854775807
          ·rw [if_pos c11] at H
           have c11b0 := eq_true c11; have c11b1 := decide_eq_true c11
           try have c11b2 : (9223372036854775807 < (x3_1 ++ (⟨#[44]⟩ : ByteArray)).size + ((t437 ++ (⟨#[124]⟩ : ByteArray)) ++ t438).size) = False := eq_false (Nat.not_lt.2 c11)
           try (have c11b2s := Nat.not_lt.2 c11; simp only [ByteArray.size_append, show (⟨#[124]⟩ : ByteArray).size = 1 from rfl, show (⟨#[44]⟩ : ByteArray).size = 1 from rfl, show (⟨#[]⟩ : ByteArray).size = 0 from rfl] at c11b2s; replace c11b2s := eq_false c11b2s)
           have H' := Aside0.mk H; clear H
           have p435 : 0 ≤ (x8_1 : Int) := of_decide_eq_true zU2_3
           have q435 : x8_1 < (l0.length : Int) := of_decide_eq_true zU2_3
           obtain ⟨ad435, e435, hx435_0, hx435_1⟩ := at_T39 HR0.out x8_1 p435 q435
           cases e435
           replace hx435_0 := (HB.out.cell (World.block_lt_of_cell? w _ hx435_0)).trans hx435_0
           replace hx435_1 := (HB.out.cell (World.block_lt_of_cell? w _ hx435_1)).trans hx435_1
           replace p435 := eq_true p435; replace q435 := eq_true q435
           try go_wp2_with (first | ((with_reducible refine gate_dst (N := 5) rfl ?_); refine zE 5 #[.int .i64 0, .int .i64 0] 39 ?_; intro gb436 hg w12 hbox hb; have BK436 := Aside0.mk (hbox); have GW436 := zg HB hg; replace HB := zh HB hb; clear hb hbox hg; obtain ⟨_, _, _, _⟩ := zc2 BK436))
           have n0_ : Aside0 (((w12.setCell ⟨gb436, 0, none⟩ (.int .i64 ((rd_T39 l0 x8_1).f0))).setCell ⟨gb436, 1, none⟩ (.int .i64 ((rd_T39 l0 x8_1).f1))).heap[gb436]? = some (.cells #[.int .i64 ((rd_T39 l0 x8_1).f0), .int .i64 ((rd_T39 l0 x8_1).f1)] 39 (0, 0))) := ⟨zw BK436⟩
           have n1_ : Aside0 (Below w.heap.size w ((w12.setCell ⟨gb436, 0, none⟩ (.int .i64 ((rd_T39 l0 x8_1).f0))).setCell ⟨gb436, 1, none⟩ (.int .i64 ((rd_T39 l0 x8_1).f1)))) := ⟨zy HB⟩
           (try clear BK436)
           (try clear HB)
           generalize ((w12.setCell ⟨gb436, 0, none⟩ (.int .i64 ((rd_T39 l0 x8_1).f0))).setCell ⟨gb436, 1, none⟩ (.int .i64 ((rd_T39 l0 x8_1).f1))) = w14 at n0_ n1_ ⊢
           have BK436 := n0_; have HB := n1_; clear n0_ n1_; replace BK436 := Aside0.mk (blk_drew BK436.out); replace HB := Aside0.mk (below_drew1 HB.out)
           refine start_ (n := 11) (S := fun w' => w'.cell? ⟨gb436, 0, none⟩ = some (.int .i64 ((rd_T39 l0 x8_1).f0)) ∧ w'.cell? ⟨gb436, 1, none⟩ = some (.int .i64 ((rd_T39 l0 x8_1).f1))) (ds := []) #[false, false, false, false, false, false, false, false, false, false, false] (by kernel_rfl) rfl rfl ⟨zq0 BK436 0, zq0 BK436 1⟩ (fun hHeld => ?_); refine with_tabW spec_swText.tab7 spec_swText.bits7 (fun HT_ HW_ => ?_)
           generalize w14.drew = w15 at BK436 HB hHeld ⊢
           refine zA 0 17 HT_ ?_
           refine zA 1 18 HT_ ?_
           refine zA 5 22 HT_ ?_
           refine zT 2 19 HT_ HW_ hHeld ?_
           refine zT 6 23 HT_ HW_ hHeld ?_
           refine zO 3 (some 20) HT_ (fun K hK => ?_)
           refine goes_ Tryz.func73 (by kernel_rfl) rfl #[.int .i64 ((rd_T39 l0 x8_1).f0)] (by rfl) rfl rfl zU2_0 ?_
           with_reducible refine (spec_l1Num.calls k1 ((rd_T39 l0 x8_1).f0) t437 _ A7.out).mono ?_
           rintro e w16 ⟨rfl, hb⟩
           refine ⟨_, rfl, ?_⟩
           replace BK436 := zb BK436 hb; replace HB := zh HB hb
           (try clear hb)
           (try clear hb2)
           (try clear hk)
           (try clear hi)
           refine hK.out _ _ ⟨zq0 BK436 0, zq0 BK436 1⟩ (fun hHeld => ?_)
           clear hK K
           refine zN 20 ?_
           refine zA 4 21 HT_ ?_
           refine zO 7 (some 24) HT_ (fun K hK => ?_)
           refine goes_ Tryz.func73 (by kernel_rfl) rfl #[.int .i64 ((rd_T39 l0 x8_1).f1)] (by rfl) rfl rfl zU2_0 ?_
           with_reducible refine (spec_l1Num.calls k1 ((rd_T39 l0 x8_1).f1) t438 _ A9.out).mono ?_
           rintro e w17 ⟨rfl, hb⟩
           refine ⟨_, rfl, ?_⟩
           replace BK436 := zb BK436 hb; replace HB := zh HB hb
           (try clear hb)
           (try clear hb2)
           (try clear hk)
           (try clear hi)
           refine hK.out _ _ ⟨zq0 BK436 0, zq0 BK436 1⟩ (fun hHeld => ?_)
           clear hK K
           refine zN 24 ?_
           refine zA 8 25 HT_ ?_
           refine zA 9 26 HT_ ?_
           refine zA 10 3 HT_ ?_
           refine done_ (done_of HT_.out (by kernel_rfl)) ?_
           try go_wp2
           go_roundg k1
           case measure => have := HK1.out; omega
           case rel => exact ⟨((x3_1 ++ (⟨#[44]⟩ : ByteArray)) ++ ((t437 ++ (⟨#[124]⟩ : ByteArray)) ++ t438)), (wrap64 (x8_1 + 1)), zu, zu, H', ⟨by have := HK1.out; omega⟩, ⟨zy HB⟩⟩
          ·rw [if_neg c11] at H
           exact absurd H zU2_5
         ·rw [if_neg c10] at H
          exact absurd H zU2_5
        ·rw [if_neg c8] at H
         exact absurd H zU2_5
       ·rw [if_neg c6] at H
        exact absurd H zU2_5
      ·rw [if_neg c5] at H
       have c5b0 := decide_eq_false c5; clear c5; obtain ⟨t439, A18, H⟩ := zB H; (try dsimp only at H)
       by_cases c19 : t439.size + 1 ≤ 9223372036854775807
       ·rw [if_pos c19] at H
        have c19b0 := eq_true c19; have c19b1 := decide_eq_true c19
        try have c19b2 : (9223372036854775807 < t439.size + 1) = False := eq_false (Nat.not_lt.2 c19)
        obtain ⟨t440, A20, H⟩ := zB H; (try dsimp only at H)
        by_cases c21 : (t439 ++ (⟨#[124]⟩ : ByteArray)).size + t440.size ≤ 9223372036854775807
        ·rw [if_pos c21] at H
         have c21b0 := eq_true c21; have c21b1 := decide_eq_true c21
         try have c21b2 : (9223372036854775807 < (t439 ++ (⟨#[124]⟩ : ByteArray)).size + t440.size) = False := eq_false (Nat.not_lt.2 c21)
         try (have c21b2s := Nat.not_lt.2 c21; simp only [ByteArray.size_append, show (⟨#[124]⟩ : ByteArray).size = 1 from rfl, show (⟨#[44]⟩ : ByteArray).size = 1 from rfl, show (⟨#[]⟩ : ByteArray).size = 0 from rfl] at c21b2s; replace c21b2s := eq_false c21b2s)
         by_cases c22 : x3_1.size + ((t439 ++ (⟨#[124]⟩ : ByteArray)) ++ t440).size ≤ 9223372036854775807
         ·rw [if_pos c22] at H
          have c22b0 := eq_true c22; have c22b1 := decide_eq_true c22
          try have c22b2 : (9223372036854775807 < x3_1.size + ((t439 ++ (⟨#[124]⟩ : ByteArray)) ++ t440).size) = False := eq_false (Nat.not_lt.2 c22)
          try (have c22b2s := Nat.not_lt.2 c22; simp only [ByteArray.size_append, show (⟨#[124]⟩ : ByteArray).size = 1 from rfl, show (⟨#[44]⟩ : ByteArray).size = 1 from rfl, show (⟨#[]⟩ : ByteArray).size = 0 from rfl] at c22b2s; replace c22b2s := eq_false c22b2s)
          have H' := Aside0.mk H; clear H
          have p435 : 0 ≤ (x8_1 : Int) := of_decide_eq_true zU2_3
          have q435 : x8_1 < (l0.length : Int) := of_decide_eq_true zU2_3
          obtain ⟨ad435, e435, hx435_0, hx435_1⟩ := at_T39 HR0.out x8_1 p435 q435
          cases e435
          replace hx435_0 := (HB.out.cell (World.block_lt_of_cell? w _ hx435_0)).trans hx435_0
          replace hx435_1 := (HB.out.cell (World.block_lt_of_cell? w _ hx435_1)).trans hx435_1
          replace p435 := eq_true p435; replace q435 := eq_true q435
          try go_wp2_with (first | ((with_reducible refine gate_dst (N := 5) rfl ?_); refine zE 5 #[.int .i64 0, .int .i64 0] 39 ?_; intro gb436 hg w23 hbox hb; have BK436 := Aside0.mk (hbox); have GW436 := zg HB hg; replace HB := zh HB hb; clear hb hbox hg; obtain ⟨_, _, _, _⟩ := zc2 BK436))
          have n0_ : Aside0 (((w23.setCell ⟨gb436, 0, none⟩ (.int .i64 ((rd_T39 l0 x8_1).f0))).setCell ⟨gb436, 1, none⟩ (.int .i64 ((rd_T39 l0 x8_1).f1))).heap[gb436]? = some (.cells #[.int .i64 ((rd_T39 l0 x8_1).f0), .int .i64 ((rd_T39 l0 x8_1).f1)] 39 (0, 0))) := ⟨zw BK436⟩
          have n1_ : Aside0 (Below w.heap.size w ((w23.setCell ⟨gb436, 0, none⟩ (.int .i64 ((rd_T39 l0 x8_1).f0))).setCell ⟨gb436, 1, none⟩ (.int .i64 ((rd_T39 l0 x8_1).f1)))) := ⟨zy HB⟩
          (try clear BK436)
          (try clear HB)
          generalize ((w23.setCell ⟨gb436, 0, none⟩ (.int .i64 ((rd_T39 l0 x8_1).f0))).setCell ⟨gb436, 1, none⟩ (.int .i64 ((rd_T39 l0 x8_1).f1))) = w25 at n0_ n1_ ⊢
          have BK436 := n0_; have HB := n1_; clear n0_ n1_; replace BK436 := Aside0.mk (blk_drew BK436.out); replace HB := Aside0.mk (below_drew1 HB.out)
          refine start_ (n := 11) (S := fun w' => w'.cell? ⟨gb436, 0, none⟩ = some (.int .i64 ((rd_T39 l0 x8_1).f0)) ∧ w'.cell? ⟨gb436, 1, none⟩ = some (.int .i64 ((rd_T39 l0 x8_1).f1))) (ds := []) #[false, false, false, false, false, false, false, false, false, false, false] (by kernel_rfl) rfl rfl ⟨zq0 BK436 0, zq0 BK436 1⟩ (fun hHeld => ?_); refine with_tabW spec_swText.tab7 spec_swText.bits7 (fun HT_ HW_ => ?_)
          generalize w25.drew = w26 at BK436 HB hHeld ⊢
          refine zA 0 17 HT_ ?_
          refine zA 1 18 HT_ ?_
          refine zA 5 22 HT_ ?_
          refine zT 2 19 HT_ HW_ hHeld ?_
          refine zT 6 23 HT_ HW_ hHeld ?_
          refine zO 3 (some 20) HT_ (fun K hK => ?_)
          refine goes_ Tryz.func73 (by kernel_rfl) rfl #[.int .i64 ((rd_T39 l0 x8_1).f0)] (by rfl) rfl rfl zU2_0 ?_
          with_reducible refine (spec_l1Num.calls k1 ((rd_T39 l0 x8_1).f0) t439 _ A18.out).mono ?_
          rintro e w27 ⟨rfl, hb⟩
          refine ⟨_, rfl, ?_⟩
          replace BK436 := zb BK436 hb; replace HB := zh HB hb
          (try clear hb)
          (try clear hb2)
          (try clear hk)
          (try clear hi)
          refine hK.out _ _ ⟨zq0 BK436 0, zq0 BK436 1⟩ (fun hHeld => ?_)
          clear hK K
          refine zN 20 ?_
          refine zA 4 21 HT_ ?_
          refine zO 7 (some 24) HT_ (fun K hK => ?_)
          refine goes_ Tryz.func73 (by kernel_rfl) rfl #[.int .i64 ((rd_T39 l0 x8_1).f1)] (by rfl) rfl rfl zU2_0 ?_
          with_reducible refine (spec_l1Num.calls k1 ((rd_T39 l0 x8_1).f1) t440 _ A20.out).mono ?_
          rintro e w28 ⟨rfl, hb⟩
          refine ⟨_, rfl, ?_⟩
          replace BK436 := zb BK436 hb; replace HB := zh HB hb
          (try clear hb)
          (try clear hb2)
          (try clear hk)
          (try clear hi)
          refine hK.out _ _ ⟨zq0 BK436 0, zq0 BK436 1⟩ (fun hHeld => ?_)
          clear hK K
          refine zN 24 ?_
          refine zA 8 25 HT_ ?_
          refine zA 9 26 HT_ ?_
          refine zA 10 3 HT_ ?_
          refine done_ (done_of HT_.out (by kernel_rfl)) ?_
          try go_wp2
          go_roundg k1
          case measure => have := HK1.out; omega
          case rel => exact ⟨(x3_1 ++ ((t439 ++ (⟨#[124]⟩ : ByteArray)) ++ t440)), (wrap64 (x8_1 + 1)), zu, zu, H', ⟨by have := HK1.out; omega⟩, ⟨zy HB⟩⟩
         ·rw [if_neg c22] at H
          exact absurd H zU2_5
        ·rw [if_neg c21] at H
         exact absurd H zU2_5
       ·rw [if_neg c19] at H
        exact absurd H zU2_5
     ·rw [if_neg c4] at H
      exact absurd H zU2_5
    ·rw [if_neg c3] at H
     exact absurd H zU2_5
   ·rw [if_neg c2] at H
    have c2b0 := decide_eq_false c2; clear c2
    obtain rfl := Option.some.inj H
    go_wp2
    go_ret
    exact ⟨zt, zy HB⟩


/-! ### spec_PolesText: function 29 -/
def spec_PolesText.f (k : Nat) (l0 : List (S39)) : Option (ByteArray × Bool) := (spec_swRow.f k l0).bind fun t441 => (if t441 = true then ((spec_swText.f k l0).bind fun t442 => (some (t442, true))) else (some ((⟨#[]⟩ : ByteArray), false)))
theorem spec_PolesText.calls (k : Nat) (A0 : Option Addr) (c0 : Nat) (l0 : List (S39)) (r1 : ByteArray) (r2 : Bool) (w : World) (hr0 : Kd.C k39 w A0 l0.length l0) (hc0 : l0.length ≤ c0) (h : spec_PolesText.f k l0 = some (r1, r2)) :
 Calls Tryz.prog 29 #[.slice A0 l0.length c0] w fun e w' => e = .returned (.tuple #[.string r1, .bool r2]) ∧ Below w.heap.size w w' := by
 have HR0 := Aside0.mk hr0; have HC0 := Aside0.mk hc0; clear hr0 hc0
 have HB := Aside0.mk (Below.refl w.heap.size w)
 have H := h; rw [spec_PolesText.f] at H; clear h; obtain ⟨t441, A2, H⟩ := zB H; (try dsimp only at H)
 by_cases c3 : t441 = true
 ·subst c3
  rw [if_pos rfl] at H; obtain ⟨t442, A4, H⟩ := zB H; (try dsimp only at H); simp only [Option.some.injEq, Prod.mk.injEq] at H; obtain ⟨rfl, rfl⟩ := H
  go_enter Tryz.func29, Tryz.ntmps29
  go_wp2_with (first | ((with_reducible refine gate_callee (f := 52) rfl ?_); refine zG (some 5) Tryz.func52 #[.slice A0 l0.length c0] ?_; (with_reducible refine (spec_swRow.calls k _ _ l0 true _ ?side1 ?side2 A2.out).mono ?_); (case side1 => repeat (first | exact HR0.out | (with_reducible refine Kd.C_alloc ?_ _) | (with_reducible refine Kd.C_drewN ?_ _) | (with_reducible refine Kd.C_drew ?_))); (case side2 => exact HC0.out); rintro e w5 ⟨rfl, hb⟩; refine ⟨_, rfl, ?_⟩; replace HB := zh HB hb; clear hb) | ((with_reducible refine gate_callee (f := 53) rfl ?_); refine zG (some 8) Tryz.func53 #[.slice A0 l0.length c0] ?_; (with_reducible refine (spec_swText.calls k _ _ l0 t442 _ ?side1 ?side2 A4.out).mono ?_); (case side1 => exact zC HR0 HB); (case side2 => exact HC0.out); rintro e w6 ⟨rfl, hb⟩; refine ⟨_, rfl, ?_⟩; replace HB := zh HB hb; clear hb))
  go_ret2
  exact ⟨zt, zy HB⟩
 ·replace c3 := Bool.eq_false_iff.mpr c3
  subst c3; rw [if_neg (show ¬ (false = true) by decide)] at H; simp only [Option.some.injEq, Prod.mk.injEq] at H; obtain ⟨rfl, rfl⟩ := H
  go_enter Tryz.func29, Tryz.ntmps29
  go_wp2_with (first | ((with_reducible refine gate_callee (f := 52) rfl ?_); refine zG (some 5) Tryz.func52 #[.slice A0 l0.length c0] ?_; (with_reducible refine (spec_swRow.calls k _ _ l0 false _ ?side1 ?side2 A2.out).mono ?_); (case side1 => repeat (first | exact HR0.out | (with_reducible refine Kd.C_alloc ?_ _) | (with_reducible refine Kd.C_drewN ?_ _) | (with_reducible refine Kd.C_drew ?_))); (case side2 => exact HC0.out); rintro e w7 ⟨rfl, hb⟩; refine ⟨_, rfl, ?_⟩; replace HB := zh HB hb; clear hb))
  go_ret2
  exact ⟨zt, zy HB⟩


/-! ### spec_l1Cur_spoilt: function 56 -/
mutual
def spec_l1Cur_spoilt.l0 : Nat → ByteArray → ByteArray → Int → List Int → Int → Int → Option (ByteArray × Int × Int)
 | 0, _, _, _, _, _, _ => none
 | k + 1, x1, x2, x7, x1000, x1001, x1002 => if x7 > 0 then (spec_l1Cur_spoilt.j1 k x1 x2 x7 (decide ((x1.size : Int) > 0)) x1000 x1001 x1002) else (spec_l1Cur_spoilt.j1 k x1 x2 x7 false x1000 x1001 x1002)
def spec_l1Cur_spoilt.j1 : Nat → ByteArray → ByteArray → Int → Bool → List Int → Int → Int → Option (ByteArray × Int × Int)
 | 0, _, _, _, _, _, _, _ => none
 | k + 1, x1, x2, x7, x19, x1000, x1001, x1002 => if x19 = true then ((spec_l1Cur_pick.f x1000 x1001 x1002 (x1.size : Int)).bind fun bt446 => ((spec_l1Cur_pick.f x1000 bt446.2.1 bt446.2.2 (x2.size : Int)).bind fun bt449 => (if 0 ≤ bt449.1 then (if bt449.1 < (x2.size : Int) then ((some (([bt x2 bt449.1] : List Int) : List Int)).bind fun y452 => ((spec_l1Cur_pick.f x1000 bt449.2.1 bt449.2.2 3).bind fun bt455 => (if bt455.1 = 0 then (if 0 ≤ bt446.1 then (if bt446.1 ≤ (x1.size : Int) then (if (x1.extract 0 (bt446.1 : Int).toNat).size + (strOfNums y452).size ≤ 9223372036854775807 then (if ((x1.extract 0 (bt446.1 : Int).toNat) ++ (strOfNums y452)).size + (x1.extract (bt446.1 : Int).toNat x1.size).size ≤ 9223372036854775807 then (spec_l1Cur_spoilt.l0 k (((x1.extract 0 (bt446.1 : Int).toNat) ++ (strOfNums y452)) ++ (x1.extract (bt446.1 : Int).toNat x1.size)) x2 (wrap64 (x7 - 1)) x1000 bt455.2.1 bt455.2.2) else (none)) else (none)) else (none)) else (none)) else (if bt455.1 = 1 then (if 0 ≤ bt446.1 then (if bt446.1 ≤ (x1.size : Int) then (if (x1.extract 0 (bt446.1 : Int).toNat).size + (strOfNums y452).size ≤ 9223372036854775807 then (if 0 ≤ (wrap64 (bt446.1 + 1)) then (if (wrap64 (bt446.1 + 1)) ≤ (x1.size : Int) then (if ((x1.extract 0 (bt446.1 : Int).toNat) ++ (strOfNums y452)).size + (x1.extract ((wrap64 (bt446.1 + 1)) : Int).toNat x1.size).size ≤ 9223372036854775807 then (spec_l1Cur_spoilt.l0 k (((x1.extract 0 (bt446.1 : Int).toNat) ++ (strOfNums y452)) ++ (x1.extract ((wrap64 (bt446.1 + 1)) : Int).toNat x1.size)) x2 (wrap64 (x7 - 1)) x1000 bt455.2.1 bt455.2.2) else (none)) else (none)) else (none)) else (none)) else (none)) else (none)) else (if 0 ≤ bt446.1 then (if bt446.1 ≤ (x1.size : Int) then (if 0 ≤ (wrap64 (bt446.1 + 1)) then (if (wrap64 (bt446.1 + 1)) ≤ (x1.size : Int) then (if (x1.extract 0 (bt446.1 : Int).toNat).size + (x1.extract ((wrap64 (bt446.1 + 1)) : Int).toNat x1.size).size ≤ 9223372036854775807 then (spec_l1Cur_spoilt.l0 k ((x1.extract 0 (bt446.1 : Int).toNat) ++ (x1.extract ((wrap64 (bt446.1 + 1)) : Int).toNat x1.size)) x2 (wrap64 (x7 - 1)) x1000 bt455.2.1 bt455.2.2) else (none)) else (none)) else (none)) else (none)) else (none)))))) else (none)) else (none)))) else (some (x1, x1001, x1002))
end
def spec_l1Cur_spoilt.f (k : Nat) (s0_0 : List Int) (s0_1 : Int) (s0_2 : Int) (a1 : ByteArray) (a2 : ByteArray) : Option (ByteArray × Int × Int) := (spec_l1Cur_pick.f s0_0 s0_1 s0_2 2).bind fun bt443 => (spec_l1Cur_spoilt.l0 k a1 a2 (wrap64 (1 + bt443.1)) s0_0 bt443.2.1 bt443.2.2)
theorem spec_l1Cur_spoilt.calls (k : Nat) (g : Nat) (s0_0 : List Int) (s0_1 : Int) (s0_2 : Int) (a1 : ByteArray) (a2 : ByteArray) (r1 : ByteArray) (r2 : Int) (r3 : Int) (w0 w : World) (hI : IsS61 w0 w g s0_0 s0_1 s0_2) (hB : Below w0.heap.size w0 w) (h : spec_l1Cur_spoilt.f k s0_0 s0_1 s0_2 a1 a2 = some (r1, r2, r3)) :
 Calls Tryz.prog 56 #[.pointer (some ⟨g, 0, none⟩), .string a1, .string a2] w fun e w' => e = .returned (.string r1) ∧ IsS61 w0 w' g s0_0 r2 r3 ∧ Below w0.heap.size w0 w' ∧ KeepBut w w' g none := by
 have HI0 := Aside0.mk hI
 have HK := Aside0.mk (KeepBut.refl w g none)
 have HL := Aside0.mk hB.size; clear hI; have HW0 := Aside0.mk hB.size; have HB := Aside0.mk hB; clear hB; have H := h; rw [spec_l1Cur_spoilt.f] at H; clear h; obtain ⟨⟨t443, t444, t445⟩, A4, H⟩ := zB H; (try dsimp only at H); have H' := Aside0.mk H; clear H
 go_enter Tryz.func56, Tryz.ntmps56
 have zz_ := trivial
 repeat ((first | clear zz_ | go_quiet (fail)); go_wp2_with (first | (go_at_call 61; (with_reducible refine (spec_l1Cur_pick.calls g s0_0 s0_1 s0_2 2 t443 t444 t445 w0 _ ?side1 ?side2 A4.out).mono ?_); (case side1 => exact zI61 HI0); (case side2 => exact zY61 HB); rintro e w5 ⟨rfl, hi, hb, hk⟩; replace HK := zKt HK hk; replace HB := Aside0.mk hb; replace HI0 := Aside0.mk hi; clear hb hk hi)))
 go_loopg [1, 7] k (fun kq v1 v7 w' => ∃ (x1_1 : ByteArray) (x7_1 : Int) (x1001_1 : Int) (x1002_1 : Int), v1 = .string x1_1 ∧ v7 = .int .i64 x7_1 ∧ Aside0 (spec_l1Cur_spoilt.l0 kq x1_1 a2 x7_1 s0_0 x1001_1 x1002_1 = some (r1, r2, r3)) ∧ Aside0 (kq ≤ k) ∧ Aside0 (IsS61 w0 w' g s0_0 x1001_1 x1002_1) ∧ Aside0 (KeepBut w w' g none) ∧ Aside0 (Below w0.heap.size w0 w'))
 case atStart => exact ⟨(a1), (wrap64 (1 + t443)), (t444), (t445), zu, zu, H', ⟨Nat.le_refl _⟩, ⟨(zI61 HI0)⟩, ⟨zKe HK⟩, ⟨zY61 HB⟩⟩
 case round =>
  clear H'
  obtain ⟨x1_1, x7_1, x1001_1, x1002_1, rfl, rfl, HA, HK1, HI0, HK, HB⟩ := hrel
  cases gk with
  | zero => exact absurd HA.out (by simp [spec_l1Cur_spoilt.l0])
  | succ k1 =>
   have H := HA.out; clear HA; simp only [spec_l1Cur_spoilt.l0] at H; have HC6 := Aside0.mk H; clear H
   go_upto_region 2 with (fail)
   repeat (go_quiet (fail); go_upto_region 2 with (fail))
   go_cut [19] (fun v19 wc => ∃ (kq : Nat) (x19_5 : Bool), v19 = .bool x19_5 ∧ Aside0 (spec_l1Cur_spoilt.j1 kq x1_1 a2 x7_1 x19_5 s0_0 x1001_1 x1002_1 = some (r1, r2, r3)) ∧ Aside0 (kq ≤ k1) ∧ Aside0 (IsS61 w0 wc g s0_0 x1001_1 x1002_1) ∧ Aside0 (KeepBut w wc g none) ∧ Aside0 (Below w0.heap.size w0 wc))
   case first =>
    have H := HC6.out; clear HC6
    by_cases c7 : x7_1 > 0
    ·rw [if_pos c7] at H
     have c7b0 := decide_eq_true c7; clear c7
     (first | rw [c7b0] | (simp only [i64_w, i32_w]; rw [c7b0]) | skip)
     have H' := Aside0.mk H; clear H
     go_wp2
     repeat (go_quiet (fail); try go_wp2)
     go_meet
     case rel => exact ⟨_, (decide ((x1_1.size : Int) > 0)), zu, H', ⟨by have := HK1.out; first | omega | exact Nat.le_refl _⟩, ⟨(zI61 HI0)⟩, ⟨zKe HK⟩, ⟨zY61 HB⟩⟩
    ·rw [if_neg c7] at H
     have c7b0 := decide_eq_false c7; clear c7
     (first | rw [c7b0] | (simp only [i64_w, i32_w]; rw [c7b0]) | skip)
     have H' := Aside0.mk H; clear H
     go_wp2
     repeat (go_quiet (fail); try go_wp2)
     go_meet
     case rel => exact ⟨_, (false), zu, H', ⟨by have := HK1.out; first | omega | exact Nat.le_refl _⟩, ⟨(zI61 HI0)⟩, ⟨zKe HK⟩, ⟨zY61 HB⟩⟩
   case rest =>
    clear HC6
    obtain ⟨kq, x19_5, rfl, HA, HJ5, HI0, HK, HB⟩ := hcut
    cases kq with
    | zero => exact absurd HA.out (by simp [spec_l1Cur_spoilt.j1])
    | succ kj5 =>
     have H := HA.out; clear HA; simp only [spec_l1Cur_spoilt.j1] at H
     by_cases c8 : x19_5 = true
     ·subst c8
      rw [if_pos rfl] at H; obtain ⟨⟨t446, t447, t448⟩, A9, H⟩ := zB H; (try dsimp only at H); obtain ⟨⟨t449, t450, t451⟩, A10, H⟩ := zB H; (try dsimp only at H)
      by_cases c11 : 0 ≤ t449
      ·rw [if_pos c11] at H
       have c11b0 := decide_eq_true c11; clear c11
       by_cases c12 : t449 < (a2.size : Int)
       ·rw [if_pos c12] at H
        have c12b0 := decide_eq_true c12; clear c12
        obtain ⟨y452, hy452⟩ : ∃ y_ : List Int, y_ = (([bt a2 t449] : List Int)) := ⟨_, rfl⟩
        replace H : ((spec_l1Cur_pick.f s0_0 t450 t451 3).bind fun bt455 => (if bt455.1 = 0 then (if 0 ≤ t446 then (if t446 ≤ (x1_1.size : Int) then (if (x1_1.extract 0 (t446 : Int).toNat).size + (strOfNums y452).size ≤ 9223372036854775807 then (if ((x1_1.extract 0 (t446 : Int).toNat) ++ (strOfNums y452)).size + (x1_1.extract (t446 : Int).toNat x1_1.size).size ≤ 9223372036854775807 then (spec_l1Cur_spoilt.l0 kj5 (((x1_1.extract 0 (t446 : Int).toNat) ++ (strOfNums y452)) ++ (x1_1.extract (t446 : Int).toNat x1_1.size)) a2 (wrap64 (x7_1 - 1)) s0_0 bt455.2.1 bt455.2.2) else (none)) else (none)) else (none)) else (none)) else (if bt455.1 = 1 then (if 0 ≤ t446 then (if t446 ≤ (x1_1.size : Int) then (if (x1_1.extract 0 (t446 : Int).toNat).size + (strOfNums y452).size ≤ 9223372036854775807 then (if 0 ≤ (wrap64 (t446 + 1)) then (if (wrap64 (t446 + 1)) ≤ (x1_1.size : Int) then (if ((x1_1.extract 0 (t446 : Int).toNat) ++ (strOfNums y452)).size + (x1_1.extract ((wrap64 (t446 + 1)) : Int).toNat x1_1.size).size ≤ 9223372036854775807 then (spec_l1Cur_spoilt.l0 kj5 (((x1_1.extract 0 (t446 : Int).toNat) ++ (strOfNums y452)) ++ (x1_1.extract ((wrap64 (t446 + 1)) : Int).toNat x1_1.size)) a2 (wrap64 (x7_1 - 1)) s0_0 bt455.2.1 bt455.2.2) else (none)) else (none)) else (none)) else (none)) else (none)) else (none)) else (if 0 ≤ t446 then (if t446 ≤ (x1_1.size : Int) then (if 0 ≤ (wrap64 (t446 + 1)) then (if (wrap64 (t446 + 1)) ≤ (x1_1.size : Int) then (if (x1_1.extract 0 (t446 : Int).toNat).size + (x1_1.extract ((wrap64 (t446 + 1)) : Int).toNat x1_1.size).size ≤ 9223372036854775807 then (spec_l1Cur_spoilt.l0 kj5 ((x1_1.extract 0 (t446 : Int).toNat) ++ (x1_1.extract ((wrap64 (t446 + 1)) : Int).toNat x1_1.size)) a2 (wrap64 (x7_1 - 1)) s0_0 bt455.2.1 bt455.2.2) else (none)) else (none)) else (none)) else (none)) else (none))))) = some (r1, r2, r3) := by first | (rw [hy452]; with_reducible exact H) | (have H2_ := (Option.bind_some _ _).symm.trans H; rw [hy452]; with_reducible exact H2_) | (have H2_ := (Option.bind_some _ _).symm.trans H; with_reducible exact H2_) | with_reducible exact H | (rw [hy452]; exact H) | exact H
        have Ny452 := Aside0.mk hy452; clear hy452; obtain ⟨⟨t455, t456, t457⟩, A14, H⟩ := zB H; (try dsimp only at H)
        by_cases c15 : t455 = 0
        ·rw [if_pos c15] at H
         have c15b0 := beq_iff_eq.mpr c15; have c15b1 := bne_eq_false_iff_eq.mpr c15; clear c15
         by_cases c16 : 0 ≤ t446
         ·rw [if_pos c16] at H
          have c16b0 := eq_true c16; have c16b1 := decide_eq_true c16; clear c16
          by_cases c17 : t446 ≤ (x1_1.size : Int)
          ·rw [if_pos c17] at H
           have c17b0 := eq_true c17; have c17b1 := decide_eq_true c17; clear c17
           by_cases c18 : (x1_1.extract 0 (t446 : Int).toNat).size + (strOfNums y452).size ≤ 9223372036854775807
           ·rw [if_pos c18] at H
            have c18b0 := eq_true c18; have c18b1 := decide_eq_true c18
            try have c18b2 : (9223372036854775807 < (x1_1.extract 0 (t446 : Int).toNat).size + (strOfNums y452).size) = False := eq_false (Nat.not_lt.2 c18)
            have c19b0 := eq_true (of_decide_eq_true zU2_3 : 0 ≤ t446)
            have c20b0 := eq_true (of_decide_eq_true zU2_3 : t446 ≤ (x1_1.size : Int))
            by_cases c21 : ((x1_1.extract 0 (t446 : Int).toNat) ++ (strOfNums y452)).size + (x1_1.extract (t446 : Int).toNat x1_1.size).size ≤ 9223372036854775807
            ·rw [if_pos c21] at H
             have c21b0 := eq_true c21; have c21b1 := decide_eq_true c21
             try have c21b2 : (9223372036854775807 < ((x1_1.extract 0 (t446 : Int).toNat) ++ (strOfNums y452)).size + (x1_1.extract (t446 : Int).toNat x1_1.size).size) = False := eq_false (Nat.not_lt.2 c21)
             have H' := Aside0.mk H; clear H; have zz_ := trivial
             repeat ((first | clear zz_ | go_quiet (first | ((with_reducible refine gate_dst (N := 32) rfl ?_); (try (refine gate_guard (by rfl) ?_; dsimp only)); refine Kd.R_lit (Kd.int .u8) _ 5 ?hg (N := 32) ?hd (xs := ([bt a2 t449] : List Int)) (inner := [.int .u8 (bt a2 t449)]) (ok := fun _ => True) (okp := fun _ => True) ?hr ?hp (fun _ hk => hk) trivial (Below.refl _ _) (Nat.le_refl _) zU2_5 ?_; (case hd => rfl); (case hg => rfl); (case hr => first | (go_simp; done) | (go_simp; rfl)); (case hp => exact (Reps.one (show Kd.M (Kd.int .u8) _ _ _ (bt a2 t449) [.int .u8 (bt a2 t449)] from rfl) (Reps.none _ _))); intro v453 w24 ho25 hb hg_ hnew_; clear hg_ hnew_; (first | rw [← Ny452.out] at ho25 | (simp only [Int.reduceToNat] at ho25; rw [← Ny452.out] at ho25)); have HO454 := Aside0.mk (Kd.R_lower ho25 (keep_size (w := w) (g := g) (row := none) (zKe HK))); replace HI0 := zJ61 HI0 hb; replace HK := zKb HK hb; replace HB := zH61 HB hb; clear hb ho25; have hcv26 := own_string (P := Tryz.prog) Tryz.underlying22 Tryz.underlying5 Tryz.underlying9 (Kd.own_of_R HO454.out)))); go_wp2_with (first | (go_at_call 61; (with_reducible refine (spec_l1Cur_pick.calls g s0_0 x1001_1 x1002_1 (x1_1.size : Int) t446 t447 t448 w0 _ ?side1 ?side2 A9.out).mono ?_); (case side1 => exact zI61 HI0); (case side2 => exact zY61 HB); rintro e w22 ⟨rfl, hi, hb, hk⟩; replace HK := zKt HK hk; replace HB := Aside0.mk hb; replace HI0 := Aside0.mk hi; clear hb hk hi) | (go_at_call 61; (with_reducible refine (spec_l1Cur_pick.calls g s0_0 t447 t448 (a2.size : Int) t449 t450 t451 w0 _ ?side1 ?side2 A10.out).mono ?_); (case side1 => exact zI61 HI0); (case side2 => exact zY61 HB); rintro e w23 ⟨rfl, hi, hb, hk⟩; replace HK := zKt HK hk; replace HB := Aside0.mk hb; replace HI0 := Aside0.mk hi; clear hb hk hi; have p13 : 0 ≤ (t449 : Int) := of_decide_eq_true zU2_3; have q13 : t449 < (a2.size : Int) := of_decide_eq_true zU2_3; have hx13 := bt_at a2 t449; replace p13 := eq_true p13; replace q13 := eq_true q13) | ((with_reducible refine gate_dst (N := 32) rfl ?_); (try (refine gate_guard (by rfl) ?_; dsimp only)); refine Kd.R_lit (Kd.int .u8) _ 5 ?hg (N := 32) ?hd (xs := ([bt a2 t449] : List Int)) (inner := [.int .u8 (bt a2 t449)]) (ok := fun _ => True) (okp := fun _ => True) ?hr ?hp (fun _ hk => hk) trivial (Below.refl _ _) (Nat.le_refl _) zU2_5 ?_; (case hd => rfl); (case hg => rfl); (case hr => first | (go_simp; done) | (go_simp; rfl)); (case hp => exact (Reps.one (show Kd.M (Kd.int .u8) _ _ _ (bt a2 t449) [.int .u8 (bt a2 t449)] from rfl) (Reps.none _ _))); intro v453 w24 ho25 hb hg_ hnew_; clear hg_ hnew_; (first | rw [← Ny452.out] at ho25 | (simp only [Int.reduceToNat] at ho25; rw [← Ny452.out] at ho25)); have HO454 := Aside0.mk (Kd.R_lower ho25 (keep_size (w := w) (g := g) (row := none) (zKe HK))); replace HI0 := zJ61 HI0 hb; replace HK := zKb HK hb; replace HB := zH61 HB hb; clear hb ho25; have hcv26 := own_string (P := Tryz.prog) Tryz.underlying22 Tryz.underlying5 Tryz.underlying9 (Kd.own_of_R HO454.out)) | (go_at_call 61; (with_reducible refine (spec_l1Cur_pick.calls g s0_0 t450 t451 3 t455 t456 t457 w0 _ ?side1 ?side2 A14.out).mono ?_); (case side1 => exact zI61 HI0); (case side2 => exact zY61 HB); rintro e w27 ⟨rfl, hi, hb, hk⟩; have n0_ := Aside0.mk (Kd.R_mono (Kd.R_keep (IsS61.apart (show IsS61 w0 _ g s0_0 t450 t451 from (zI61 HI0)) (zs HO454) (by decide)) hk (fun _ h => h.2)) (fun _ h => h.1)); replace HK := zKt HK hk; replace HB := Aside0.mk hb; replace HI0 := Aside0.mk hi; clear HO454; have HO454 := n0_; clear n0_; clear hb hk hi)))
             go_roundg kj5
             case measure => have := HK1.out; have := HJ5.out; omega
             case rel => exact ⟨(((x1_1.extract 0 (t446 : Int).toNat) ++ (strOfNums y452)) ++ (x1_1.extract (t446 : Int).toNat x1_1.size)), (wrap64 (x7_1 - 1)), (t456), (t457), zu, zu, H', ⟨by have := HK1.out; have := HJ5.out; omega⟩, ⟨(zI61 HI0)⟩, ⟨zKe HK⟩, ⟨zY61 HB⟩⟩
            ·rw [if_neg c21] at H
             exact absurd H zU2_5
           ·rw [if_neg c18] at H
            exact absurd H zU2_5
          ·rw [if_neg c17] at H
           exact absurd H zU2_5
         ·rw [if_neg c16] at H
          exact absurd H zU2_5
        ·rw [if_neg c15] at H
         have c15b0 := beq_eq_false_iff_ne.mpr c15; have c15b1 := bne_iff_ne.mpr c15
         by_cases c28 : t455 = 1
         ·rw [if_pos c28] at H
          have c28b0 := beq_iff_eq.mpr c28; have c28b1 := bne_eq_false_iff_eq.mpr c28; clear c28
          by_cases c29 : 0 ≤ t446
          ·rw [if_pos c29] at H
           have c29b0 := eq_true c29; have c29b1 := decide_eq_true c29; clear c29
           by_cases c30 : t446 ≤ (x1_1.size : Int)
           ·rw [if_pos c30] at H
            have c30b0 := eq_true c30; have c30b1 := decide_eq_true c30; clear c30
            by_cases c31 : (x1_1.extract 0 (t446 : Int).toNat).size + (strOfNums y452).size ≤ 9223372036854775807
            ·rw [if_pos c31] at H
             have c31b0 := eq_true c31; have c31b1 := decide_eq_true c31
             try have c31b2 : (9223372036854775807 < (x1_1.extract 0 (t446 : Int).toNat).size + (strOfNums y452).size) = False := eq_false (Nat.not_lt.2 c31)
             obtain ⟨ji32, hji32⟩ : ∃ j_ : Int, (wrap64 (t446 + 1)) = j_ := ⟨_, rfl⟩
             replace H : (if 0 ≤ (ji32) then (if (ji32) ≤ (x1_1.size : Int) then (if ((x1_1.extract 0 (t446 : Int).toNat) ++ (strOfNums y452)).size + (x1_1.extract ((ji32) : Int).toNat x1_1.size).size ≤ 9223372036854775807 then (spec_l1Cur_spoilt.l0 kj5 (((x1_1.extract 0 (t446 : Int).toNat) ++ (strOfNums y452)) ++ (x1_1.extract ((ji32) : Int).toNat x1_1.size)) a2 (wrap64 (x7_1 - 1)) s0_0 t456 t457) else (none)) else (none)) else (none)) = some (r1, r2, r3) := by first | (rw [hji32] at H; exact H) | (simp only [hji32] at H ⊢; exact H)
             (try rw [hji32] at A9)
             (try rw [hji32] at A10)
             (try rw [hji32] at A14)
             have hji32w : (IntKind.i64.wrap (t446 + 1)) = ji32 := (i64_w _).trans hji32
             by_cases c33 : 0 ≤ (ji32)
             ·rw [if_pos c33] at H
              have c33b0 := eq_true c33; have c33b1 := decide_eq_true c33; clear c33
              by_cases c34 : (ji32) ≤ (x1_1.size : Int)
              ·rw [if_pos c34] at H
               have c34b0 := eq_true c34; have c34b1 := decide_eq_true c34; clear c34
               by_cases c35 : ((x1_1.extract 0 (t446 : Int).toNat) ++ (strOfNums y452)).size + (x1_1.extract ((ji32) : Int).toNat x1_1.size).size ≤ 9223372036854775807
               ·rw [if_pos c35] at H
                have c35b0 := eq_true c35; have c35b1 := decide_eq_true c35
                try have c35b2 : (9223372036854775807 < ((x1_1.extract 0 (t446 : Int).toNat) ++ (strOfNums y452)).size + (x1_1.extract ((ji32) : Int).toNat x1_1.size).size) = False := eq_false (Nat.not_lt.2 c35)
                have H' := Aside0.mk H; clear H; have zz_ := trivial
                repeat ((first | clear zz_ | go_quiet (first | ((with_reducible refine gate_dst (N := 32) rfl ?_); (try (refine gate_guard (by rfl) ?_; dsimp only)); refine Kd.R_lit (Kd.int .u8) _ 5 ?hg (N := 32) ?hd (xs := ([bt a2 t449] : List Int)) (inner := [.int .u8 (bt a2 t449)]) (ok := fun _ => True) (okp := fun _ => True) ?hr ?hp (fun _ hk => hk) trivial (Below.refl _ _) (Nat.le_refl _) zU2_5 ?_; (case hd => rfl); (case hg => rfl); (case hr => first | (go_simp; done) | (go_simp; rfl)); (case hp => exact (Reps.one (show Kd.M (Kd.int .u8) _ _ _ (bt a2 t449) [.int .u8 (bt a2 t449)] from rfl) (Reps.none _ _))); intro v453 w38 ho39 hb hg_ hnew_; clear hg_ hnew_; (first | rw [← Ny452.out] at ho39 | (simp only [Int.reduceToNat] at ho39; rw [← Ny452.out] at ho39)); have HO454 := Aside0.mk (Kd.R_lower ho39 (keep_size (w := w) (g := g) (row := none) (zKe HK))); replace HI0 := zJ61 HI0 hb; replace HK := zKb HK hb; replace HB := zH61 HB hb; clear hb ho39; have hcv40 := own_string (P := Tryz.prog) Tryz.underlying22 Tryz.underlying5 Tryz.underlying9 (Kd.own_of_R HO454.out)))); go_wp2_with (first | (go_at_call 61; (with_reducible refine (spec_l1Cur_pick.calls g s0_0 x1001_1 x1002_1 (x1_1.size : Int) t446 t447 t448 w0 _ ?side1 ?side2 A9.out).mono ?_); (case side1 => exact zI61 HI0); (case side2 => exact zY61 HB); rintro e w36 ⟨rfl, hi, hb, hk⟩; replace HK := zKt HK hk; replace HB := Aside0.mk hb; replace HI0 := Aside0.mk hi; clear hb hk hi) | (go_at_call 61; (with_reducible refine (spec_l1Cur_pick.calls g s0_0 t447 t448 (a2.size : Int) t449 t450 t451 w0 _ ?side1 ?side2 A10.out).mono ?_); (case side1 => exact zI61 HI0); (case side2 => exact zY61 HB); rintro e w37 ⟨rfl, hi, hb, hk⟩; replace HK := zKt HK hk; replace HB := Aside0.mk hb; replace HI0 := Aside0.mk hi; clear hb hk hi; have p13 : 0 ≤ (t449 : Int) := of_decide_eq_true zU2_3; have q13 : t449 < (a2.size : Int) := of_decide_eq_true zU2_3; have hx13 := bt_at a2 t449; replace p13 := eq_true p13; replace q13 := eq_true q13) | ((with_reducible refine gate_dst (N := 32) rfl ?_); (try (refine gate_guard (by rfl) ?_; dsimp only)); refine Kd.R_lit (Kd.int .u8) _ 5 ?hg (N := 32) ?hd (xs := ([bt a2 t449] : List Int)) (inner := [.int .u8 (bt a2 t449)]) (ok := fun _ => True) (okp := fun _ => True) ?hr ?hp (fun _ hk => hk) trivial (Below.refl _ _) (Nat.le_refl _) zU2_5 ?_; (case hd => rfl); (case hg => rfl); (case hr => first | (go_simp; done) | (go_simp; rfl)); (case hp => exact (Reps.one (show Kd.M (Kd.int .u8) _ _ _ (bt a2 t449) [.int .u8 (bt a2 t449)] from rfl) (Reps.none _ _))); intro v453 w38 ho39 hb hg_ hnew_; clear hg_ hnew_; (first | rw [← Ny452.out] at ho39 | (simp only [Int.reduceToNat] at ho39; rw [← Ny452.out] at ho39)); have HO454 := Aside0.mk (Kd.R_lower ho39 (keep_size (w := w) (g := g) (row := none) (zKe HK))); replace HI0 := zJ61 HI0 hb; replace HK := zKb HK hb; replace HB := zH61 HB hb; clear hb ho39; have hcv40 := own_string (P := Tryz.prog) Tryz.underlying22 Tryz.underlying5 Tryz.underlying9 (Kd.own_of_R HO454.out)) | (go_at_call 61; (with_reducible refine (spec_l1Cur_pick.calls g s0_0 t450 t451 3 t455 t456 t457 w0 _ ?side1 ?side2 A14.out).mono ?_); (case side1 => exact zI61 HI0); (case side2 => exact zY61 HB); rintro e w41 ⟨rfl, hi, hb, hk⟩; have n0_ := Aside0.mk (Kd.R_mono (Kd.R_keep (IsS61.apart (show IsS61 w0 _ g s0_0 t450 t451 from (zI61 HI0)) (zs HO454) (by decide)) hk (fun _ h => h.2)) (fun _ h => h.1)); replace HK := zKt HK hk; replace HB := Aside0.mk hb; replace HI0 := Aside0.mk hi; clear HO454; have HO454 := n0_; clear n0_; clear hb hk hi)))
                go_roundg kj5
                case measure => have := HK1.out; have := HJ5.out; omega
                case rel => exact ⟨(((x1_1.extract 0 (t446 : Int).toNat) ++ (strOfNums y452)) ++ (x1_1.extract ((ji32) : Int).toNat x1_1.size)), (wrap64 (x7_1 - 1)), (t456), (t457), (by first | rfl | (simp; done) | (simp only [← hji32] <;> (first | rfl | simp)) | (simp [*]; done)), zu, H', ⟨by have := HK1.out; have := HJ5.out; omega⟩, ⟨(zI61 HI0)⟩, ⟨zKe HK⟩, ⟨zY61 HB⟩⟩
               ·rw [if_neg c35] at H
                exact absurd H zU2_5
              ·rw [if_neg c34] at H
               exact absurd H zU2_5
             ·rw [if_neg c33] at H
              exact absurd H zU2_5
            ·rw [if_neg c31] at H
             exact absurd H zU2_5
           ·rw [if_neg c30] at H
            exact absurd H zU2_5
          ·rw [if_neg c29] at H
           exact absurd H zU2_5
         ·rw [if_neg c28] at H
          have c28b0 := beq_eq_false_iff_ne.mpr c28; have c28b1 := bne_iff_ne.mpr c28
          by_cases c42 : 0 ≤ t446
          ·rw [if_pos c42] at H
           have c42b0 := eq_true c42; have c42b1 := decide_eq_true c42; clear c42
           by_cases c43 : t446 ≤ (x1_1.size : Int)
           ·rw [if_pos c43] at H
            have c43b0 := eq_true c43; have c43b1 := decide_eq_true c43; clear c43
            obtain ⟨ji44, hji44⟩ : ∃ j_ : Int, (wrap64 (t446 + 1)) = j_ := ⟨_, rfl⟩
            replace H : (if 0 ≤ (ji44) then (if (ji44) ≤ (x1_1.size : Int) then (if (x1_1.extract 0 (t446 : Int).toNat).size + (x1_1.extract ((ji44) : Int).toNat x1_1.size).size ≤ 9223372036854775807 then (spec_l1Cur_spoilt.l0 kj5 ((x1_1.extract 0 (t446 : Int).toNat) ++ (x1_1.extract ((ji44) : Int).toNat x1_1.size)) a2 (wrap64 (x7_1 - 1)) s0_0 t456 t457) else (none)) else (none)) else (none)) = some (r1, r2, r3) := by first | (rw [hji44] at H; exact H) | (simp only [hji44] at H ⊢; exact H)
            (try rw [hji44] at A9)
            (try rw [hji44] at A10)
            (try rw [hji44] at A14)
            have hji44w : (IntKind.i64.wrap (t446 + 1)) = ji44 := (i64_w _).trans hji44
            by_cases c45 : 0 ≤ (ji44)
            ·rw [if_pos c45] at H
             have c45b0 := eq_true c45; have c45b1 := decide_eq_true c45; clear c45
             by_cases c46 : (ji44) ≤ (x1_1.size : Int)
             ·rw [if_pos c46] at H
              have c46b0 := eq_true c46; have c46b1 := decide_eq_true c46; clear c46
              by_cases c47 : (x1_1.extract 0 (t446 : Int).toNat).size + (x1_1.extract ((ji44) : Int).toNat x1_1.size).size ≤ 9223372036854775807
              ·rw [if_pos c47] at H
               have c47b0 := eq_true c47; have c47b1 := decide_eq_true c47
               try have c47b2 : (9223372036854775807 < (x1_1.extract 0 (t446 : Int).toNat).size + (x1_1.extract ((ji44) : Int).toNat x1_1.size).size) = False := eq_false (Nat.not_lt.2 c47)
               have H' := Aside0.mk H; clear H; have zz_ := trivial
               repeat ((first | clear zz_ | go_quiet (first | ((with_reducible refine gate_dst (N := 32) rfl ?_); (try (refine gate_guard (by rfl) ?_; dsimp only)); refine Kd.R_lit (Kd.int .u8) _ 5 ?hg (N := 32) ?hd (xs := ([bt a2 t449] : List Int)) (inner := [.int .u8 (bt a2 t449)]) (ok := fun _ => True) (okp := fun _ => True) ?hr ?hp (fun _ hk => hk) trivial (Below.refl _ _) (Nat.le_refl _) zU2_5 ?_; (case hd => rfl); (case hg => rfl); (case hr => first | (go_simp; done) | (go_simp; rfl)); (case hp => exact (Reps.one (show Kd.M (Kd.int .u8) _ _ _ (bt a2 t449) [.int .u8 (bt a2 t449)] from rfl) (Reps.none _ _))); intro v453 w50 ho51 hb hg_ hnew_; clear hg_ hnew_; (first | rw [← Ny452.out] at ho51 | (simp only [Int.reduceToNat] at ho51; rw [← Ny452.out] at ho51)); have HO454 := Aside0.mk (Kd.R_lower ho51 (keep_size (w := w) (g := g) (row := none) (zKe HK))); replace HI0 := zJ61 HI0 hb; replace HK := zKb HK hb; replace HB := zH61 HB hb; clear hb ho51; have hcv52 := own_string (P := Tryz.prog) Tryz.underlying22 Tryz.underlying5 Tryz.underlying9 (Kd.own_of_R HO454.out)))); go_wp2_with (first | (go_at_call 61; (with_reducible refine (spec_l1Cur_pick.calls g s0_0 x1001_1 x1002_1 (x1_1.size : Int) t446 t447 t448 w0 _ ?side1 ?side2 A9.out).mono ?_); (case side1 => exact zI61 HI0); (case side2 => exact zY61 HB); rintro e w48 ⟨rfl, hi, hb, hk⟩; replace HK := zKt HK hk; replace HB := Aside0.mk hb; replace HI0 := Aside0.mk hi; clear hb hk hi) | (go_at_call 61; (with_reducible refine (spec_l1Cur_pick.calls g s0_0 t447 t448 (a2.size : Int) t449 t450 t451 w0 _ ?side1 ?side2 A10.out).mono ?_); (case side1 => exact zI61 HI0); (case side2 => exact zY61 HB); rintro e w49 ⟨rfl, hi, hb, hk⟩; replace HK := zKt HK hk; replace HB := Aside0.mk hb; replace HI0 := Aside0.mk hi; clear hb hk hi; have p13 : 0 ≤ (t449 : Int) := of_decide_eq_true zU2_3; have q13 : t449 < (a2.size : Int) := of_decide_eq_true zU2_3; have hx13 := bt_at a2 t449; replace p13 := eq_true p13; replace q13 := eq_true q13) | ((with_reducible refine gate_dst (N := 32) rfl ?_); (try (refine gate_guard (by rfl) ?_; dsimp only)); refine Kd.R_lit (Kd.int .u8) _ 5 ?hg (N := 32) ?hd (xs := ([bt a2 t449] : List Int)) (inner := [.int .u8 (bt a2 t449)]) (ok := fun _ => True) (okp := fun _ => True) ?hr ?hp (fun _ hk => hk) trivial (Below.refl _ _) (Nat.le_refl _) zU2_5 ?_; (case hd => rfl); (case hg => rfl); (case hr => first | (go_simp; done) | (go_simp; rfl)); (case hp => exact (Reps.one (show Kd.M (Kd.int .u8) _ _ _ (bt a2 t449) [.int .u8 (bt a2 t449)] from rfl) (Reps.none _ _))); intro v453 w50 ho51 hb hg_ hnew_; clear hg_ hnew_; (first | rw [← Ny452.out] at ho51 | (simp only [Int.reduceToNat] at ho51; rw [← Ny452.out] at ho51)); have HO454 := Aside0.mk (Kd.R_lower ho51 (keep_size (w := w) (g := g) (row := none) (zKe HK))); replace HI0 := zJ61 HI0 hb; replace HK := zKb HK hb; replace HB := zH61 HB hb; clear hb ho51; have hcv52 := own_string (P := Tryz.prog) Tryz.underlying22 Tryz.underlying5 Tryz.underlying9 (Kd.own_of_R HO454.out)) | (go_at_call 61; (with_reducible refine (spec_l1Cur_pick.calls g s0_0 t450 t451 3 t455 t456 t457 w0 _ ?side1 ?side2 A14.out).mono ?_); (case side1 => exact zI61 HI0); (case side2 => exact zY61 HB); rintro e w53 ⟨rfl, hi, hb, hk⟩; have n0_ := Aside0.mk (Kd.R_mono (Kd.R_keep (IsS61.apart (show IsS61 w0 _ g s0_0 t450 t451 from (zI61 HI0)) (zs HO454) (by decide)) hk (fun _ h => h.2)) (fun _ h => h.1)); replace HK := zKt HK hk; replace HB := Aside0.mk hb; replace HI0 := Aside0.mk hi; clear HO454; have HO454 := n0_; clear n0_; clear hb hk hi)))
               go_roundg kj5
               case measure => have := HK1.out; have := HJ5.out; omega
               case rel => exact ⟨((x1_1.extract 0 (t446 : Int).toNat) ++ (x1_1.extract ((ji44) : Int).toNat x1_1.size)), (wrap64 (x7_1 - 1)), (t456), (t457), (by first | rfl | (simp; done) | (simp only [← hji44] <;> (first | rfl | simp)) | (simp [*]; done)), zu, H', ⟨by have := HK1.out; have := HJ5.out; omega⟩, ⟨(zI61 HI0)⟩, ⟨zKe HK⟩, ⟨zY61 HB⟩⟩
              ·rw [if_neg c47] at H
               exact absurd H zU2_5
             ·rw [if_neg c46] at H
              exact absurd H zU2_5
            ·rw [if_neg c45] at H
             exact absurd H zU2_5
           ·rw [if_neg c43] at H
            exact absurd H zU2_5
          ·rw [if_neg c42] at H
           exact absurd H zU2_5
       ·rw [if_neg c12] at H
        exact absurd H zU2_5
      ·rw [if_neg c11] at H
       exact absurd H zU2_5
     ·replace c8 := Bool.eq_false_iff.mpr c8
      subst c8; rw [if_neg (show ¬ (false = true) by decide)] at H; simp only [Option.some.injEq, Prod.mk.injEq] at H; obtain ⟨rfl, rfl, rfl⟩ := H
      go_wp2
      repeat (go_quiet (fail); try go_wp2)
      go_ret
      exact ⟨zt, (zI61 HI0), zY61 HB, zKe HK⟩


/-! ### spec_DrawParsePoles: function 30 -/
def spec_DrawParsePoles.f (k : Nat) (l0 : List Int) : Option (ByteArray) := (spec_l1Cur_surePoles.f k l0 0 0).bind fun bt459 => ((spec_swText.f k bt459.1).bind fun t464 => ((spec_l1Cur_one.f l0 bt459.2.1 bt459.2.2 3).bind fun bt465 => (if bt465.1 = true then ((spec_l1Cur_spoilt.f k l0 bt465.2.1 bt465.2.2 t464 (⟨#[48, 49, 50, 51, 124, 44, 120]⟩ : ByteArray)).bind fun bt468 => (some bt468.1)) else (some t464))))
theorem spec_DrawParsePoles.calls (k : Nat) (A0 : Option Addr) (c0 : Nat) (l0 : List Int) (r : ByteArray) (w : World) (hr0 : Kd.C (Kd.int .u8) w A0 l0.length l0) (hc0 : l0.length ≤ c0) (h : spec_DrawParsePoles.f k l0 = some r) :
 Calls Tryz.prog 30 #[.slice A0 l0.length c0] w fun e w' => e = .returned (.string r) ∧ Below w.heap.size w w' := by
 have hu61 := Tryz.underlying61; have HR0 := Aside0.mk hr0; have HC0 := Aside0.mk hc0; clear hr0 hc0
 have HB := Aside0.mk (Below.refl w.heap.size w)
 have H := h; rw [spec_DrawParsePoles.f] at H; clear h; obtain ⟨⟨t459, t462, t463⟩, A2, H⟩ := zB H; (try dsimp only at H); obtain ⟨t464, A3, H⟩ := zB H; (try dsimp only at H); obtain ⟨⟨t465, t466, t467⟩, A4, H⟩ := zB H; (try dsimp only at H)
 by_cases c5 : t465 = true
 ·subst c5
  rw [if_pos rfl] at H; obtain ⟨⟨t468, t469, t470⟩, A6, H⟩ := zB H; (try dsimp only at H)
  obtain rfl := Option.some.inj H
  go_enter Tryz.func30, Tryz.ntmps30
  go_wp2_with (first | ((with_reducible refine gate_dst (N := 7) rfl ?_); refine zE 7 #[.slice A0 l0.length c0, .int .i64 0, .int .u64 0] 61 ?_; intro gb458 hg w7 hbox hb; have HI458 := Aside0.mk ((show IsS61 w _ gb458 l0 0 0 from ⟨_, _, hbox, (by rw [hg]; exact (below_size (zy HB)) : w.heap.size ≤ gb458), HR0.out⟩)); have GW458 := zg HB hg; replace HB := zh HB hb; clear hb hbox hg) | ((with_reducible refine gate_callee (f := 54) rfl ?_); refine zG (some 9) Tryz.func54 #[.pointer (some ⟨gb458, 0, none⟩)] ?_; (with_reducible refine (spec_l1Cur_surePoles.calls k gb458 l0 0 0 t459 t462 t463 w _ ?side1 ?side2 A2.out).mono ?_); (case side1 => exact zI61 HI458); (case side2 => exact zY61 HB); rintro e w8 ⟨v460, rfl, ho0, hi, hb, hk⟩; refine ⟨_, rfl, ?_⟩; have HO461 := Aside0.mk (Kd.R_lower ho0 (below_size (zY61 HB))); replace HB := Aside0.mk hb; replace HI458 := Aside0.mk hi; clear hb hk hi ho0; obtain ⟨Ao9, co9, eo9⟩ := Kd.R_slice HO461.out; subst eo9) | ((with_reducible refine gate_callee (f := 53) rfl ?_); refine zG (some 10) Tryz.func53 #[.slice Ao9 t459.length co9] ?_; (with_reducible refine (spec_swText.calls k _ _ t459 t464 _ ?side1 ?side2 A3.out).mono ?_); (case side1 => repeat (first | exact (Kd.R_reads' HO461.out).2.2 | (with_reducible refine Kd.C_alloc ?_ _) | (with_reducible refine Kd.C_drewN ?_ _) | (with_reducible refine Kd.C_drew ?_))); (case side2 => exact (Kd.R_reads' HO461.out).2.1); rintro e w10 ⟨rfl, hb⟩; refine ⟨_, rfl, ?_⟩; replace HO461 := zo HO461 hb; replace HI458 := zJ61 HI458 hb; replace HB := zH61 HB hb; clear hb) | ((with_reducible refine gate_callee (f := 55) rfl ?_); refine zG (some 12) Tryz.func55 #[.pointer (some ⟨gb458, 0, none⟩), .int .i64 3] ?_; (with_reducible refine (spec_l1Cur_one.calls gb458 l0 t462 t463 3 true t466 t467 w _ ?side1 ?side2 A4.out).mono ?_); (case side1 => exact zI61 HI458); (case side2 => exact zY61 HB); rintro e w11 ⟨rfl, hi, hb, hk⟩; refine ⟨_, rfl, ?_⟩; have n0_ := Aside0.mk (Kd.R_mono (Kd.R_keep (IsS61.apart (show IsS61 w _ gb458 l0 t462 t463 from (zI61 HI458)) (zs HO461) (by decide)) hk (fun _ h => h.2)) (fun _ h => h.1)); replace HB := Aside0.mk hb; replace HI458 := Aside0.mk hi; clear HO461; have HO461 := n0_; clear n0_; clear hb hk hi) | ((with_reducible refine gate_callee (f := 56) rfl ?_); refine zG (some 15) Tryz.func56 #[.pointer (some ⟨gb458, 0, none⟩), .string t464, .string (⟨#[48, 49, 50, 51, 124, 44, 120]⟩ : ByteArray)] ?_; (with_reducible refine (spec_l1Cur_spoilt.calls k gb458 l0 t466 t467 t464 (⟨#[48, 49, 50, 51, 124, 44, 120]⟩ : ByteArray) t468 t469 t470 w _ ?side1 ?side2 A6.out).mono ?_); (case side1 => exact zI61 HI458); (case side2 => exact zY61 HB); rintro e w12 ⟨rfl, hi, hb, hk⟩; refine ⟨_, rfl, ?_⟩; have n0_ := Aside0.mk (Kd.R_mono (Kd.R_keep (IsS61.apart (show IsS61 w _ gb458 l0 t466 t467 from (zI61 HI458)) (zs HO461) (by decide)) hk (fun _ h => h.2)) (fun _ h => h.1)); replace HB := Aside0.mk hb; replace HI458 := Aside0.mk hi; clear HO461; have HO461 := n0_; clear n0_; clear hb hk hi))
  go_ret
  exact ⟨zt, zY61 HB⟩
 ·replace c5 := Bool.eq_false_iff.mpr c5
  subst c5; rw [if_neg (show ¬ (false = true) by decide)] at H
  obtain rfl := Option.some.inj H
  go_enter Tryz.func30, Tryz.ntmps30
  go_wp2_with (first | ((with_reducible refine gate_dst (N := 7) rfl ?_); refine zE 7 #[.slice A0 l0.length c0, .int .i64 0, .int .u64 0] 61 ?_; intro gb458 hg w13 hbox hb; have HI458 := Aside0.mk ((show IsS61 w _ gb458 l0 0 0 from ⟨_, _, hbox, (by rw [hg]; exact (below_size (zy HB)) : w.heap.size ≤ gb458), HR0.out⟩)); have GW458 := zg HB hg; replace HB := zh HB hb; clear hb hbox hg) | ((with_reducible refine gate_callee (f := 54) rfl ?_); refine zG (some 9) Tryz.func54 #[.pointer (some ⟨gb458, 0, none⟩)] ?_; (with_reducible refine (spec_l1Cur_surePoles.calls k gb458 l0 0 0 t459 t462 t463 w _ ?side1 ?side2 A2.out).mono ?_); (case side1 => exact zI61 HI458); (case side2 => exact zY61 HB); rintro e w14 ⟨v460, rfl, ho0, hi, hb, hk⟩; refine ⟨_, rfl, ?_⟩; have HO461 := Aside0.mk (Kd.R_lower ho0 (below_size (zY61 HB))); replace HB := Aside0.mk hb; replace HI458 := Aside0.mk hi; clear hb hk hi ho0; obtain ⟨Ao15, co15, eo15⟩ := Kd.R_slice HO461.out; subst eo15) | ((with_reducible refine gate_callee (f := 53) rfl ?_); refine zG (some 10) Tryz.func53 #[.slice Ao15 t459.length co15] ?_; (with_reducible refine (spec_swText.calls k _ _ t459 t464 _ ?side1 ?side2 A3.out).mono ?_); (case side1 => repeat (first | exact (Kd.R_reads' HO461.out).2.2 | (with_reducible refine Kd.C_alloc ?_ _) | (with_reducible refine Kd.C_drewN ?_ _) | (with_reducible refine Kd.C_drew ?_))); (case side2 => exact (Kd.R_reads' HO461.out).2.1); rintro e w16 ⟨rfl, hb⟩; refine ⟨_, rfl, ?_⟩; replace HO461 := zo HO461 hb; replace HI458 := zJ61 HI458 hb; replace HB := zH61 HB hb; clear hb) | ((with_reducible refine gate_callee (f := 55) rfl ?_); refine zG (some 12) Tryz.func55 #[.pointer (some ⟨gb458, 0, none⟩), .int .i64 3] ?_; (with_reducible refine (spec_l1Cur_one.calls gb458 l0 t462 t463 3 false t466 t467 w _ ?side1 ?side2 A4.out).mono ?_); (case side1 => exact zI61 HI458); (case side2 => exact zY61 HB); rintro e w17 ⟨rfl, hi, hb, hk⟩; refine ⟨_, rfl, ?_⟩; have n0_ := Aside0.mk (Kd.R_mono (Kd.R_keep (IsS61.apart (show IsS61 w _ gb458 l0 t462 t463 from (zI61 HI458)) (zs HO461) (by decide)) hk (fun _ h => h.2)) (fun _ h => h.1)); replace HB := Aside0.mk hb; replace HI458 := Aside0.mk hi; clear HO461; have HO461 := n0_; clear n0_; clear hb hk hi))
  go_ret
  exact ⟨zt, zY61 HB⟩


/-! ### strings_Cut: function 58 -/
/-- What the start-up code lays, all of it that these walks ask: the powers of ten, MaxLen, the two errors. -/
def LaidQ (w : World) : Prop := LaidP w ∧ (∃ m, w.cell? ⟨(Tryz.prog.globalNamed "internal/bytealg.MaxLen").getD 0, 0, none⟩ = some (.int .i64 m)) ∧ (∃ tp p, w.var? Tryz.prog "strconv.ErrSyntax" = some #[.iface tp p]) ∧ (∃ tp p, w.var? Tryz.prog "strconv.ErrRange" = some #[.iface tp p])
theorem var_below {w w' : World} {n : String} {cs : Array Value} (h : w.var? Tryz.prog n = some cs) (hb : Below w.heap.size w w') : w'.var? Tryz.prog n = some cs := by
 unfold World.var? at h ⊢
 cases hg : Tryz.prog.globalNamed n with
 | none => rw [hg] at h; simp at h
 | some g =>
  rw [hg] at h
  simp only [Option.bind_some] at h ⊢
  have hlt : g < w.heap.size := by
   rcases Nat.lt_or_ge g w.heap.size with h' | h'
   ·exact h'
   ·rw [Array.getElem?_eq_none h'] at h; cases h
  rw [hb.block g hlt]
  exact h
theorem LaidQ.p {w : World} (h : LaidQ w) : LaidP w := h.1
theorem LaidQ.below {w w' : World} (h : LaidQ w) (hb : Below w.heap.size w w') : LaidQ w' := by
 obtain ⟨h1, ⟨m, h2⟩, ⟨t3, p3, h3⟩, ⟨t4, p4, h4⟩⟩ := h
 exact ⟨h1.below hb, ⟨m, (hb.cell (World.block_lt_of_cell? w _ h2)).trans h2⟩, ⟨t3, p3, var_below h3 hb⟩, ⟨t4, p4, var_below h4 hb⟩⟩
def cutOf (a b : ByteArray) : ByteArray × ByteArray × Bool := (⟨(Lib.cut a.data.toList b.data.toList).1.toArray⟩, ⟨(Lib.cut a.data.toList b.data.toList).2.1.toArray⟩, (Lib.cut a.data.toList b.data.toList).2.2)
def strings_Cut.f (a0 a1 : ByteArray) : Option (ByteArray × ByteArray × Bool) := if a0.size < 4294967281 then some (cutOf a0 a1) else none
theorem strings_Cut.calls (a0 : ByteArray) (a1 : ByteArray) (r1 : ByteArray) (r2 : ByteArray) (r3 : Bool) (w : World) (hL_ : LaidQ w) (h : strings_Cut.f a0 a1 = some (r1, r2, r3)) :
 Calls Tryz.prog 58 #[.string a0, .string a1] w fun e w' => e = .returned (.tuple #[.string r1, .string r2, .bool r3]) ∧ Below w.heap.size w w' := by
 unfold strings_Cut.f at h
 by_cases hb : a0.size < 4294967281
 ·rw [if_pos hb] at h
  simp only [cutOf, Option.some.injEq, Prod.mk.injEq] at h
  obtain ⟨rfl, rfl, rfl⟩ := h
  obtain ⟨_, ⟨m, hm⟩, _⟩ := hL_
  refine (Tryz.strings_Cut a0 a1 m w hb hm).mono fun e w' hh => ?_
  obtain ⟨rfl, n, rfl⟩ := hh
  exact ⟨rfl, pw_below_drewN (Below.refl _ _) n⟩
 ·rw [if_neg hb] at h
  cases h



/-! ### strings_Split: function 57 -/
def splitOf (a b : ByteArray) : List ByteArray := Lib.splitB b 0 (Lib.countB a b) a
def strings_Split.f (a0 a1 : ByteArray) : Option (List ByteArray) := if a0.size < 4294967281 ∧ 1 ≤ a1.size ∧ (splitOf a0 a1).length = Lib.countB a0 a1 + 1 then some (splitOf a0 a1) else none
theorem strings_Split.calls (a0 : ByteArray) (a1 : ByteArray) (r : List ByteArray) (w : World) (hL_ : LaidQ w) (h : strings_Split.f a0 a1 = some r) :
 Calls Tryz.prog 57 #[.string a0, .string a1] w fun e w' => ∃ v0_ : Value, e = .returned (v0_) ∧ Kd.R Kd.string 9 w' w.heap.size (fun _ => True) v0_ r ∧ Below w.heap.size w w' := by
 unfold strings_Split.f at h
 by_cases hb : a0.size < 4294967281 ∧ 1 ≤ a1.size ∧ (splitOf a0 a1).length = Lib.countB a0 a1 + 1
 ·rw [if_pos hb] at h
  obtain rfl := Option.some.inj h
  obtain ⟨_, ⟨m, hm⟩, _⟩ := hL_
  refine (Tryz.strings_Split a0 a1 m w hb.1 hm hb.2.1).mono fun e w' hh => ?_
  obtain ⟨rfl, rfl⟩ := hh
  refine ⟨_, rfl, ⟨fun k _ => trivial, ?_⟩, below_alloc (Below.refl _ _) _⟩
  have hm2 : (splitOf a0 a1).length ≤ 9223372036854775807 := by
   have := Lib.splitB_length_le a1 0 (Lib.countB a0 a1) a0
   have h1 := Lib.countB_le a1 hb.2.1 a0.size a0 (Nat.le_refl _)
   omega
  rw [← hb.2.2]
  exact OwnRow.lit w w.heap.size (e := 9) ⟨by simp [Kd.string, Kd.scalar, splitOf], fun j p hj => by
   have hj2 : ((Lib.splitB a1 0 (Lib.countB a0 a1) a0).map Value.string)[j]? = some (.string p) := by rw [List.getElem?_map]; unfold splitOf at hj; rw [hj]; rfl
   show ((((Lib.splitB a1 0 (Lib.countB a0 a1) a0).map Value.string).drop (j * 1)).take 1) = [Value.string p]
   obtain ⟨hlt, he⟩ := List.getElem?_eq_some_iff.1 hj2
   rw [Nat.mul_one, List.drop_eq_getElem_cons hlt, he]
   rfl⟩ (Nat.le_refl _) hm2
 ·rw [if_neg hb] at h
  cases h



/-! ### impl_number: function 59 -/
/-- The number that a text tells, and whether the number's own text is that text. -/
def numOf (a0 : ByteArray) : Int × Bool := match Lib.atoiAll a0.data.toList with
 | .ok v => (v, ((⟨(Lib.itoa v).toArray⟩ : ByteArray).toList == a0.toList))
 | .«syntax» => (0, false)
 | .range => (Lib.atoiSat a0.data.toList, false)
def impl_number.f (a0 : ByteArray) : Option (Int × Bool) := if a0.size ≤ 281474976710656 then some (numOf a0) else none
theorem impl_number.calls (a0 : ByteArray) (r1 : Int) (r2 : Bool) (w : World) (hL_ : LaidQ w) (h : impl_number.f a0 = some (r1, r2)) :
 Calls Tryz.prog 59 #[.string a0] w fun e w' => e = .returned (.tuple #[.int .i64 r1, .bool r2]) ∧ Below w.heap.size w w' := by
 unfold impl_number.f at h
 by_cases hs : a0.size ≤ 281474976710656
 ·rw [if_pos hs] at h
  have h := Option.some.inj h
  have HL := Aside0.mk hL_
  have HB := Aside0.mk (Below.refl w.heap.size w)
  clear hL_
  cases ha : Lib.atoiAll a0.data.toList with
  | ok v =>
   have hbd := Lib.atoiAll_bounds ha
   have ht : impl_text.f v = some ⟨(Lib.itoa v).toArray⟩ := by
    unfold impl_text.f strconv_Itoa_69.f
    rw [if_pos (by have e1 : IntKind.i64.min = -9223372036854775808 := rfl; have e2 : IntKind.i64.max = 9223372036854775807 := rfl; omega)]
    rfl
   simp only [numOf, ha, Prod.mk.injEq] at h
   obtain ⟨rfl, rfl⟩ := h
   have HT := Aside0.mk ht; clear ht hbd
   generalize hq : (⟨(Lib.itoa v).toArray⟩ : ByteArray) = q at HT
   have c1 := fun W => (Tryz.strconv_Atoi_ok a0 zU2_4 v ha W).mono (R' := fun e w' => e = .returned (.tuple #[.int .i64 v, .nilIface]) ∧ Below W.heap.size W w') (fun e w' hh => by
    obtain ⟨rfl, rfl | ⟨t, rfl⟩⟩ := hh
    ·exact ⟨rfl, Below.refl _ _⟩
    ·exact ⟨rfl, rfl, rfl, rfl, by rw [Lib.bytesWorld_size]; omega, fun k hk => Lib.bytesWorld_at_old W _ t k hk⟩)
   clear ha hq
   go_enter Tryz.func59, Tryz.ntmps59
   go_wp2_with (first | (go_at_call 76; refine (c1 _).mono ?_; rintro e w1 ⟨rfl, hb⟩; have n0_ := Aside0.mk (below_step zU2_1 hb); clear HB hb; have HB := n0_; clear n0_) | (go_at_call 50; refine (impl_text.calls v q _ (LaidP.below HL.out.1 zU2_1) HT.out).mono ?_; rintro e w2 ⟨rfl, hb⟩; have n0_ := Aside0.mk (below_step zU2_1 hb); clear HB hb; have HB := n0_; clear n0_))
   go_ret2
   exact ⟨by first | rfl | (simp; done) | (simp [*]; done), by repeat (first | (with_reducible first | exact HB.out | apply below_alloc | apply pw_below_drewN | apply below_drew1) | exact HB.out)⟩
  | «syntax» =>
   simp only [numOf, ha, Prod.mk.injEq] at h
   obtain ⟨rfl, rfl⟩ := h
   obtain ⟨_, _, ⟨tp, p, hv⟩, _⟩ := HL.out
   have c1 := (Tryz.strconv_Atoi_syntax_var a0 hs ha tp p w hv)
   clear ha hv
   go_enter Tryz.func59, Tryz.ntmps59
   go_wp2_with (go_at_call 76; refine c1.mono ?_; rintro e w1 ⟨N_, rfl, _, _, hb⟩; have n0_ := Aside0.mk (below_step zU2_1 hb); clear HB hb; have HB := n0_; clear n0_)
   go_ret2
   exact ⟨by first | rfl | (simp; done) | (simp [*]; done), by repeat (first | (with_reducible first | exact HB.out | apply below_alloc | apply pw_below_drewN | apply below_drew1) | exact HB.out)⟩
  | range =>
   simp only [numOf, ha, Prod.mk.injEq] at h
   obtain ⟨rfl, rfl⟩ := h
   obtain ⟨_, _, _, ⟨tp, p, hv⟩⟩ := HL.out
   have c1 := (Tryz.strconv_Atoi_range_var a0 hs ha tp p w hv)
   clear ha hv
   generalize Lib.atoiSat a0.data.toList = z at c1 ⊢
   go_enter Tryz.func59, Tryz.ntmps59
   go_wp2_with (go_at_call 76; refine c1.mono ?_; rintro e w1 ⟨N_, rfl, _, _, hb⟩; have n0_ := Aside0.mk (below_step zU2_1 hb); clear HB hb; have HB := n0_; clear n0_)
   go_ret2
   exact ⟨by first | rfl | (simp; done) | (simp [*]; done), by repeat (first | (with_reducible first | exact HB.out | apply below_alloc | apply pw_below_drewN | apply below_drew1) | exact HB.out)⟩
 ·rw [if_neg hs] at h
  cases h



/-! ### impl_ParsePoles: function 31 -/
def impl_ParsePoles.l0 : Nat → List (S39) → List ByteArray → Int → Int → Option ((List (S39)) × Bool)
 | 0, _, _, _, _ => none
 | k + 1, x4, x16, x17, x18 => if x18 < x17 then (if 0 ≤ x18 then (if x18 < (x16.length : Int) then ((strings_Cut.f (rdOf ByteArray.empty x16 x18) (⟨#[124]⟩ : ByteArray)).bind fun bt496 => ((impl_number.f bt496.1).bind fun bt499 => ((impl_number.f bt496.2.1).bind fun bt501 => (if bt499.2 = true then (if bt501.2 = true then (if x4.length < 8796093022208 then (impl_ParsePoles.l0 k (x4 ++ [(⟨bt499.1, bt501.1⟩ : S39)]) x16 x17 (wrap64 (x18 + 1))) else (none)) else (some (([] : List (S39)), false))) else (some (([] : List (S39)), false)))))) else (none)) else (none)) else ((impl_areAnyPoles.f k x4).bind fun t494 => (if t494 = true then (some (x4, true)) else (some (([] : List (S39)), false))))
def impl_ParsePoles.f (k : Nat) (a0 : ByteArray) : Option ((List (S39)) × Bool) := (strings_Split.f a0 (⟨#[44]⟩ : ByteArray)).bind fun t491 => (impl_ParsePoles.l0 k (([] : List (S39))) t491 (t491.length : Int) 0)
theorem impl_ParsePoles.calls (k : Nat) (a0 : ByteArray) (r1 : List (S39)) (r2 : Bool) (w : World) (hL_ : LaidQ w) (h : impl_ParsePoles.f k a0 = some (r1, r2)) :
 Calls Tryz.prog 31 #[.string a0] w fun e w' => ∃ v0_ : Value, e = .returned (.tuple #[v0_, .bool r2]) ∧ Kd.R k39 39 w' w.heap.size (fun _ => True) v0_ r1 ∧ Below w.heap.size w w' := by
 have HL_ := Aside0.mk hL_; clear hL_; have hu39 := Tryz.underlying39
 have HB := Aside0.mk (Below.refl w.heap.size w)
 have H := h; rw [impl_ParsePoles.f] at H; clear h
 obtain ⟨y488, hy488⟩ : ∃ y_ : List (S39), y_ = (([] : List (S39))) := ⟨_, rfl⟩
 replace H : ((strings_Split.f a0 (⟨#[44]⟩ : ByteArray)).bind fun t491 => (impl_ParsePoles.l0 k y488 t491 (t491.length : Int) 0)) = some (r1, r2) := by first | (rw [hy488]; with_reducible exact H) | (have H2_ := (Option.bind_some _ _).symm.trans H; rw [hy488]; with_reducible exact H2_) | (have H2_ := (Option.bind_some _ _).symm.trans H; with_reducible exact H2_) | with_reducible exact H | (rw [hy488]; exact H) | exact H
 have Ny488 := Aside0.mk hy488; clear hy488; obtain ⟨t491, A2, H⟩ := zB H; (try dsimp only at H); have H' := Aside0.mk H; clear H
 go_enter Tryz.func31, Tryz.ntmps31
 go_wp2_with (first | ((with_reducible refine gate_dst (N := 14) rfl ?_); refine Kd.R_lit k39 _ 39 ?hg (N := 14) ?hd (xs := ([] : List (S39))) (inner := []) (ok := fun _ => True) (okp := fun _ => True) ?hr ?hp (fun _ hk => hk) trivial (Below.refl _ _) (Nat.le_refl _) zU2_5 ?_; (case hd => rfl); (case hg => rfl); (case hr => first | (go_simp; done) | (go_simp; rfl)); (case hp => exact (Reps.none _ _)); intro v489 w3 ho4 hb hg_ hnew_; clear hg_ hnew_; (first | rw [← Ny488.out] at ho4 | (simp only [Int.reduceToNat] at ho4; rw [← Ny488.out] at ho4)); have HO490 := Aside0.mk (Kd.R_lower ho4 (below_size (zy HB))); replace HB := zh HB hb; clear hb ho4) | ((with_reducible refine gate_callee (f := 57) rfl ?_); refine zG (some 16) Tryz.func57 #[.string a0, .string (⟨#[44]⟩ : ByteArray)] ?_; (with_reducible refine (strings_Split.calls a0 (⟨#[44]⟩ : ByteArray) t491 _ (LaidQ.below HL_.out (zy HB)) A2.out).mono ?_); rintro e w5 ⟨v492, rfl, ho0, hb⟩; refine ⟨_, rfl, ?_⟩; have HO493 := Aside0.mk (Kd.R_lower ho0 (below_size (zy HB))); replace HO490 := zo HO490 hb; replace HB := zh HB hb; clear hb ho0; obtain ⟨Ao6, co6, eo6⟩ := Kd.R_slice HO493.out; subst eo6))
 go_loopg [4, 18] k (fun kq v4 v18 w' => ∃ (x4_1 : List (S39)) (x18_1 : Int), v18 = .int .i64 x18_1 ∧ Aside0 (impl_ParsePoles.l0 kq x4_1 t491 (t491.length : Int) x18_1 = some (r1, r2)) ∧ Aside0 (kq ≤ k) ∧ Aside0 (Kd.R k39 39 w' w.heap.size (fun _ => True) v4 x4_1) ∧ Aside0 (Kd.R Kd.string 9 w' w.heap.size (fun _ => True) (.slice Ao6 t491.length co6) t491) ∧ Aside0 (Below w.heap.size w w'))
 case atStart => exact ⟨(y488), (0), zu, H', ⟨Nat.le_refl _⟩, zp HO490, zp HO493, ⟨zy HB⟩⟩
 case round =>
  clear H'
  obtain ⟨x4_1, x18_1, rfl, HA, HK1, HO_4, HO_16, HB⟩ := hrel
  cases gk with
  | zero => exact absurd HA.out (by simp [impl_ParsePoles.l0])
  | succ k1 =>
   have H := HA.out; clear HA; simp only [impl_ParsePoles.l0] at H
   by_cases c7 : x18_1 < (t491.length : Int)
   ·rw [if_pos c7] at H
    have c7b0 := decide_eq_true c7; clear c7
    by_cases c8 : 0 ≤ x18_1
    ·rw [if_pos c8] at H
     have c8b0 := decide_eq_true c8; clear c8
     by_cases c9 : x18_1 < (t491.length : Int)
     ·rw [if_pos c9] at H
      have c9b0 := decide_eq_true c9; clear c9; obtain ⟨⟨t496, t497, t498⟩, A10, H⟩ := zB H; (try dsimp only at H); obtain ⟨⟨t499, t500⟩, A11, H⟩ := zB H; (try dsimp only at H); obtain ⟨⟨t501, t502⟩, A12, H⟩ := zB H; (try dsimp only at H)
      by_cases c13 : t500 = true
      ·subst c13
       rw [if_pos rfl] at H
       by_cases c14 : t502 = true
       ·subst c14
        rw [if_pos rfl] at H
        by_cases c15 : x4_1.length < 8796093022208
        ·rw [if_pos c15] at H
         have LMc15 := Aside0.mk c15; clear c15
         obtain ⟨y503, hy503⟩ : ∃ y_ : List (S39), y_ = (x4_1 ++ [(⟨t499, t501⟩ : S39)]) := ⟨_, rfl⟩
         replace H : (impl_ParsePoles.l0 k1 y503 t491 (t491.length : Int) (wrap64 (x18_1 + 1))) = some (r1, r2) := by first | (rw [hy503]; with_reducible exact H) | (have H2_ := (Option.bind_some _ _).symm.trans H; rw [hy503]; with_reducible exact H2_) | (have H2_ := (Option.bind_some _ _).symm.trans H; with_reducible exact H2_) | with_reducible exact H | (rw [hy503]; exact H) | exact H
         have Ny503 := Aside0.mk hy503; clear hy503; have H' := Aside0.mk H; clear H
         have p495 : 0 ≤ (x18_1 : Int) := of_decide_eq_true zU2_3
         have q495 : x18_1 < (t491.length : Int) := of_decide_eq_true zU2_3
         obtain ⟨ad495, e495, hx495_0⟩ := Kd.at_string (Kd.R_reads' HO_16.out).2.2 x18_1 p495 q495
         cases e495; replace p495 := eq_true p495; replace q495 := eq_true q495
         go_wp2_with (first | ((with_reducible refine gate_callee (f := 58) rfl ?_); refine zG (some 24) Tryz.func58 #[.string (rdOf ByteArray.empty t491 x18_1), .string (⟨#[124]⟩ : ByteArray)] ?_; (with_reducible refine (strings_Cut.calls (rdOf ByteArray.empty t491 x18_1) (⟨#[124]⟩ : ByteArray) t496 t497 t498 _ (LaidQ.below HL_.out (zy HB)) A10.out).mono ?_); rintro e w16 ⟨rfl, hb⟩; refine ⟨_, rfl, ?_⟩; replace HO_4 := zo HO_4 hb; replace HO_16 := zo HO_16 hb; replace HB := zh HB hb; clear hb) | ((with_reducible refine gate_callee (f := 59) rfl ?_); refine zG (some 30) Tryz.func59 #[.string t496] ?_; (with_reducible refine (impl_number.calls t496 t499 true _ (LaidQ.below HL_.out (zy HB)) A11.out).mono ?_); rintro e w17 ⟨rfl, hb⟩; refine ⟨_, rfl, ?_⟩; replace HO_4 := zo HO_4 hb; replace HO_16 := zo HO_16 hb; replace HB := zh HB hb; clear hb) | ((with_reducible refine gate_callee (f := 59) rfl ?_); refine zG (some 35) Tryz.func59 #[.string t497] ?_; (with_reducible refine (impl_number.calls t497 t501 true _ (LaidQ.below HL_.out (zy HB)) A12.out).mono ?_); rintro e w18 ⟨rfl, hb⟩; refine ⟨_, rfl, ?_⟩; replace HO_4 := zo HO_4 hb; replace HO_16 := zo HO_16 hb; replace HB := zh HB hb; clear hb) | ((with_reducible refine gate_builtin (b := .append) (xs := #[.tmp 44, .tmp 48]) rfl ?_); at_builtin; refine Kd.R_append k39 (w0 := w) w.heap.size rfl (.tmp 44) (.tmp 48) 24 39 (.agg #[(.int .i64 0), (.int .i64 0)]) 16 rfl Tryz.underlying24 info39 rfl (by decide) zU2_4 u4 x4_1 (⟨t499, t501⟩ : S39) [.int .i64 t499, .int .i64 t501] (fun _ => True) (fun _ => False) rfl rfl ?aP (fun _ hk => hk.elim) ?aF ?aO ?aB ?aS ?aL ?_; (case aP => exact k39_mkM _ _ _ (⟨t499, t501⟩ : S39)); (case aB => exact (zy HB)); (case aF => exact (fun _ _ => trivial)); (case aO => exact (zs HO_4)); (case aS => exact (below_size (zy HB))); (case aL => have := LMc15.out; omega); intro v504 w19 ho hb hg hat; rw [← Ny503.out] at ho; have n0_ := Aside0.mk (Kd.R_over' (zs HO_16) (Kd.R_typed (zs HO_4)) (by decide) hg); have HO505 := Aside0.mk (ho); replace HB := Aside0.mk hb; clear HO_4; clear HO_16; have HO_16 := n0_; clear n0_; clear ho hb hg hat))
         go_roundg k1
         case measure => have := HK1.out; omega
         case rel => exact ⟨(y503), (wrap64 (x18_1 + 1)), zu, H', ⟨by have := HK1.out; omega⟩, zp HO505, zp HO_16, ⟨zy HB⟩⟩
        ·rw [if_neg c15] at H
         exact absurd H zU2_5
       ·replace c14 := Bool.eq_false_iff.mpr c14
        subst c14; rw [if_neg (show ¬ (false = true) by decide)] at H; simp only [Option.some.injEq, Prod.mk.injEq] at H; obtain ⟨rfl, rfl⟩ := H
        have p495 : 0 ≤ (x18_1 : Int) := of_decide_eq_true zU2_3
        have q495 : x18_1 < (t491.length : Int) := of_decide_eq_true zU2_3
        obtain ⟨ad495, e495, hx495_0⟩ := Kd.at_string (Kd.R_reads' HO_16.out).2.2 x18_1 p495 q495
        cases e495; replace p495 := eq_true p495; replace q495 := eq_true q495
        go_wp2_with (first | ((with_reducible refine gate_callee (f := 58) rfl ?_); refine zG (some 24) Tryz.func58 #[.string (rdOf ByteArray.empty t491 x18_1), .string (⟨#[124]⟩ : ByteArray)] ?_; (with_reducible refine (strings_Cut.calls (rdOf ByteArray.empty t491 x18_1) (⟨#[124]⟩ : ByteArray) t496 t497 t498 _ (LaidQ.below HL_.out (zy HB)) A10.out).mono ?_); rintro e w20 ⟨rfl, hb⟩; refine ⟨_, rfl, ?_⟩; replace HO_4 := zo HO_4 hb; replace HO_16 := zo HO_16 hb; replace HB := zh HB hb; clear hb) | ((with_reducible refine gate_callee (f := 59) rfl ?_); refine zG (some 30) Tryz.func59 #[.string t496] ?_; (with_reducible refine (impl_number.calls t496 t499 true _ (LaidQ.below HL_.out (zy HB)) A11.out).mono ?_); rintro e w21 ⟨rfl, hb⟩; refine ⟨_, rfl, ?_⟩; replace HO_4 := zo HO_4 hb; replace HO_16 := zo HO_16 hb; replace HB := zh HB hb; clear hb) | ((with_reducible refine gate_callee (f := 59) rfl ?_); refine zG (some 35) Tryz.func59 #[.string t497] ?_; (with_reducible refine (impl_number.calls t497 t501 false _ (LaidQ.below HL_.out (zy HB)) A12.out).mono ?_); rintro e w22 ⟨rfl, hb⟩; refine ⟨_, rfl, ?_⟩; replace HO_4 := zo HO_4 hb; replace HO_16 := zo HO_16 hb; replace HB := zh HB hb; clear hb))
        go_ret2
        exact ⟨_, zt, by first | exact Kd.R_nil _ _ _ _ _ | exact Kd.N_nil _ _ _ _ _ | exact Kd.V_nil _ _ _ _ _ | exact Kd.Q_nil _ _ _ _ _ | exact Kd.S_nil _ _ _ _ _, zy HB⟩
      ·replace c13 := Bool.eq_false_iff.mpr c13
       subst c13; rw [if_neg (show ¬ (false = true) by decide)] at H; simp only [Option.some.injEq, Prod.mk.injEq] at H; obtain ⟨rfl, rfl⟩ := H
       have p495 : 0 ≤ (x18_1 : Int) := of_decide_eq_true zU2_3
       have q495 : x18_1 < (t491.length : Int) := of_decide_eq_true zU2_3
       obtain ⟨ad495, e495, hx495_0⟩ := Kd.at_string (Kd.R_reads' HO_16.out).2.2 x18_1 p495 q495
       cases e495; replace p495 := eq_true p495; replace q495 := eq_true q495
       go_wp2_with (first | ((with_reducible refine gate_callee (f := 58) rfl ?_); refine zG (some 24) Tryz.func58 #[.string (rdOf ByteArray.empty t491 x18_1), .string (⟨#[124]⟩ : ByteArray)] ?_; (with_reducible refine (strings_Cut.calls (rdOf ByteArray.empty t491 x18_1) (⟨#[124]⟩ : ByteArray) t496 t497 t498 _ (LaidQ.below HL_.out (zy HB)) A10.out).mono ?_); rintro e w23 ⟨rfl, hb⟩; refine ⟨_, rfl, ?_⟩; replace HO_4 := zo HO_4 hb; replace HO_16 := zo HO_16 hb; replace HB := zh HB hb; clear hb) | ((with_reducible refine gate_callee (f := 59) rfl ?_); refine zG (some 30) Tryz.func59 #[.string t496] ?_; (with_reducible refine (impl_number.calls t496 t499 false _ (LaidQ.below HL_.out (zy HB)) A11.out).mono ?_); rintro e w24 ⟨rfl, hb⟩; refine ⟨_, rfl, ?_⟩; replace HO_4 := zo HO_4 hb; replace HO_16 := zo HO_16 hb; replace HB := zh HB hb; clear hb) | ((with_reducible refine gate_callee (f := 59) rfl ?_); refine zG (some 35) Tryz.func59 #[.string t497] ?_; (with_reducible refine (impl_number.calls t497 t501 t502 _ (LaidQ.below HL_.out (zy HB)) A12.out).mono ?_); rintro e w25 ⟨rfl, hb⟩; refine ⟨_, rfl, ?_⟩; replace HO_4 := zo HO_4 hb; replace HO_16 := zo HO_16 hb; replace HB := zh HB hb; clear hb))
       go_ret2
       exact ⟨_, zt, by first | exact Kd.R_nil _ _ _ _ _ | exact Kd.N_nil _ _ _ _ _ | exact Kd.V_nil _ _ _ _ _ | exact Kd.Q_nil _ _ _ _ _ | exact Kd.S_nil _ _ _ _ _, zy HB⟩
     ·rw [if_neg c9] at H
      exact absurd H zU2_5
    ·rw [if_neg c8] at H
     exact absurd H zU2_5
   ·rw [if_neg c7] at H
    have c7b0 := decide_eq_false c7; clear c7; obtain ⟨t494, A26, H⟩ := zB H; (try dsimp only at H)
    by_cases c27 : t494 = true
    ·subst c27
     rw [if_pos rfl] at H; simp only [Option.some.injEq, Prod.mk.injEq] at H; obtain ⟨rfl, rfl⟩ := H
     obtain ⟨Ao28, co28, eo28⟩ := Kd.R_slice HO_4.out
     subst eo28
     go_wp2_with (first | ((with_reducible refine gate_callee (f := 49) rfl ?_); refine zG (some 52) Tryz.func49 #[.slice Ao28 x4_1.length co28] ?_; (with_reducible refine (impl_areAnyPoles.calls k1 _ _ x4_1 true _ ?side1 ?side2 A26.out).mono ?_); (case side1 => repeat (first | exact (Kd.R_reads' HO_4.out).2.2 | (with_reducible refine Kd.C_alloc ?_ _) | (with_reducible refine Kd.C_drewN ?_ _) | (with_reducible refine Kd.C_drew ?_))); (case side2 => exact (Kd.R_reads' HO_4.out).2.1); rintro e w29 ⟨rfl, hb⟩; refine ⟨_, rfl, ?_⟩; replace HO_4 := zo HO_4 hb; replace HO_16 := zo HO_16 hb; replace HB := zh HB hb; clear hb))
     go_ret2
     exact ⟨_, zt, by (with_reducible repeat (first | apply Kd.R_alloc | apply Kd.R_drewN | apply Kd.R_drew)); exact HO_4.out, zy HB⟩
    ·replace c27 := Bool.eq_false_iff.mpr c27
     subst c27; rw [if_neg (show ¬ (false = true) by decide)] at H; simp only [Option.some.injEq, Prod.mk.injEq] at H; obtain ⟨rfl, rfl⟩ := H
     obtain ⟨Ao30, co30, eo30⟩ := Kd.R_slice HO_4.out
     subst eo30
     go_wp2_with (first | ((with_reducible refine gate_callee (f := 49) rfl ?_); refine zG (some 52) Tryz.func49 #[.slice Ao30 x4_1.length co30] ?_; (with_reducible refine (impl_areAnyPoles.calls k1 _ _ x4_1 false _ ?side1 ?side2 A26.out).mono ?_); (case side1 => repeat (first | exact (Kd.R_reads' HO_4.out).2.2 | (with_reducible refine Kd.C_alloc ?_ _) | (with_reducible refine Kd.C_drewN ?_ _) | (with_reducible refine Kd.C_drew ?_))); (case side2 => exact (Kd.R_reads' HO_4.out).2.1); rintro e w31 ⟨rfl, hb⟩; refine ⟨_, rfl, ?_⟩; replace HO_4 := zo HO_4 hb; replace HO_16 := zo HO_16 hb; replace HB := zh HB hb; clear hb))
     go_ret2
     exact ⟨_, zt, by first | exact Kd.R_nil _ _ _ _ _ | exact Kd.N_nil _ _ _ _ _ | exact Kd.V_nil _ _ _ _ _ | exact Kd.Q_nil _ _ _ _ _ | exact Kd.S_nil _ _ _ _ _, zy HB⟩


/-! ### spec_l1Split: function 77 -/
def spec_l1Split.l0 : Nat → ByteArray → Int → List ByteArray → Int → Int → Option (List ByteArray)
 | 0, _, _, _, _, _ => none
 | k + 1, x0, x1, x5, x6, x7 => if x7 < (x0.size : Int) then (if 0 ≤ x7 then (if (bt x0 x7) = x1 then (if 0 ≤ x6 then (if x6 ≤ x7 then (if x7 ≤ (x0.size : Int) then (if x5.length < 8796093022208 then (spec_l1Split.l0 k x0 x1 (x5 ++ [x0.extract (x6 : Int).toNat (x7 : Int).toNat]) (wrap64 (x7 + 1)) (wrap64 (x7 + 1))) else (none)) else (none)) else (none)) else (none)) else (spec_l1Split.l0 k x0 x1 x5 x6 (wrap64 (x7 + 1)))) else (none)) else (if 0 ≤ x6 then (if x6 ≤ (x0.size : Int) then (if x5.length < 8796093022208 then (some (x5 ++ [x0.extract (x6 : Int).toNat x0.size])) else (none)) else (none)) else (none))
def spec_l1Split.f (k : Nat) (a0 : ByteArray) (a1 : Int) : Option (List ByteArray) := spec_l1Split.l0 k a0 a1 ([] : List ByteArray) 0 0
theorem spec_l1Split.calls (k : Nat) (a0 : ByteArray) (a1 : Int) (r : List ByteArray) (w : World) (h : spec_l1Split.f k a0 a1 = some r) :
 Calls Tryz.prog 77 #[.string a0, .int .u8 a1] w fun e w' => ∃ v0_ : Value, e = .returned (v0_) ∧ Kd.R Kd.string 9 w' w.heap.size (fun _ => True) v0_ r ∧ Below w.heap.size w w' := by
 have HB := Aside0.mk (Below.refl w.heap.size w)
 have H := h; rw [spec_l1Split.f] at H; clear h; have H' := Aside0.mk H; clear H
 go_enter Tryz.func77, Tryz.ntmps77
 go_wp2
 go_loopg [5, 6, 7] k (fun kq v5 v6 v7 w' => ∃ (x5_1 : List ByteArray) (x6_1 : Int) (x7_1 : Int), v6 = .int .i64 x6_1 ∧ v7 = .int .i64 x7_1 ∧ Aside0 (spec_l1Split.l0 kq a0 a1 x5_1 x6_1 x7_1 = some r) ∧ Aside0 (kq ≤ k) ∧ Aside0 (Kd.R Kd.string 9 w' w.heap.size (fun _ => True) v5 x5_1) ∧ Aside0 (Below w.heap.size w w'))
 case atStart => exact ⟨(([] : List ByteArray)), (0), (0), zu, zu, H', ⟨Nat.le_refl _⟩, ⟨by first | exact Kd.R_nil _ _ _ _ _ | exact Kd.N_nil _ _ _ _ _ | exact Kd.V_nil _ _ _ _ _ | exact Kd.Q_nil _ _ _ _ _ | exact Kd.S_nil _ _ _ _ _⟩, ⟨zy HB⟩⟩
 case round =>
  clear H'
  obtain ⟨x5_1, x6_1, x7_1, rfl, rfl, HA, HK1, HO_5, HB⟩ := hrel
  cases gk with
  | zero => exact absurd HA.out (by simp [spec_l1Split.l0])
  | succ k1 =>
   have H := HA.out; clear HA; simp only [spec_l1Split.l0] at H
   by_cases c3 : x7_1 < (a0.size : Int)
   ·rw [if_pos c3] at H
    have c3b0 := decide_eq_true c3; clear c3
    by_cases c4 : 0 ≤ x7_1
    ·rw [if_pos c4] at H
     have c4b0 := decide_eq_true c4; clear c4
     by_cases c6 : (bt a0 x7_1) = a1
     ·rw [if_pos c6] at H
      have c6b0 := beq_iff_eq.mpr c6; have c6b1 := bne_eq_false_iff_eq.mpr c6; clear c6
      by_cases c7 : 0 ≤ x6_1
      ·rw [if_pos c7] at H
       have c7b0 := eq_true c7; have c7b1 := decide_eq_true c7; clear c7
       by_cases c8 : x6_1 ≤ x7_1
       ·rw [if_pos c8] at H
        have c8b0 := eq_true c8; have c8b1 := decide_eq_true c8; clear c8
        by_cases c9 : x7_1 ≤ (a0.size : Int)
        ·rw [if_pos c9] at H
         have c9b0 := eq_true c9; have c9b1 := decide_eq_true c9; clear c9
         by_cases c10 : x5_1.length < 8796093022208
         ·rw [if_pos c10] at H
          have LMc10 := Aside0.mk c10; clear c10
          obtain ⟨y506, hy506⟩ : ∃ y_ : List ByteArray, y_ = (x5_1 ++ [a0.extract (x6_1 : Int).toNat (x7_1 : Int).toNat]) := ⟨_, rfl⟩
          replace H : (spec_l1Split.l0 k1 a0 a1 y506 (wrap64 (x7_1 + 1)) (wrap64 (x7_1 + 1))) = some r := by first | (rw [hy506]; with_reducible exact H) | (have H2_ := (Option.bind_some _ _).symm.trans H; rw [hy506]; with_reducible exact H2_) | (have H2_ := (Option.bind_some _ _).symm.trans H; with_reducible exact H2_) | with_reducible exact H | (rw [hy506]; exact H) | exact H
          have Ny506 := Aside0.mk hy506; clear hy506; have H' := Aside0.mk H; clear H
          have p5 : 0 ≤ (x7_1 : Int) := of_decide_eq_true zU2_3
          have q5 : x7_1 < (a0.size : Int) := of_decide_eq_true zU2_3
          have hx5 := bt_at a0 x7_1
          replace p5 := eq_true p5; replace q5 := eq_true q5
          go_wp2_with (first | ((with_reducible refine gate_builtin (b := .append) (xs := #[.tmp 19, .tmp 24]) rfl ?_); at_builtin; refine Kd.R_append Kd.string (w0 := w) w.heap.size rfl (.tmp 19) (.tmp 24) 73 9 (.string ⟨#[]⟩) 16 rfl Tryz.underlying73 info9 rfl (by decide) zU2_4 u5 x5_1 (a0.extract (x6_1 : Int).toNat (x7_1 : Int).toNat) [.string (a0.extract (x6_1 : Int).toNat (x7_1 : Int).toNat)] (fun _ => True) (fun _ => False) rfl rfl ?aP (fun _ hk => hk.elim) ?aF ?aO ?aB ?aS ?aL ?_; (case aP => exact rfl); (case aB => exact (zy HB)); (case aF => exact (fun _ _ => trivial)); (case aO => exact (zs HO_5)); (case aS => exact (below_size (zy HB))); (case aL => have := LMc10.out; omega); intro v507 w11 ho hb hg hat; rw [← Ny506.out] at ho; have HO508 := Aside0.mk (ho); replace HB := Aside0.mk hb; clear HO_5; clear ho hb hg hat))
          go_roundg k1
          case measure => have := HK1.out; omega
          case rel => exact ⟨(y506), (wrap64 (x7_1 + 1)), (wrap64 (x7_1 + 1)), zu, zu, H', ⟨by have := HK1.out; omega⟩, zp HO508, ⟨zy HB⟩⟩
         ·rw [if_neg c10] at H
          exact absurd H zU2_5
        ·rw [if_neg c9] at H
         exact absurd H zU2_5
       ·rw [if_neg c8] at H
        exact absurd H zU2_5
      ·rw [if_neg c7] at H
       exact absurd H zU2_5
     ·rw [if_neg c6] at H
      have c6b0 := beq_eq_false_iff_ne.mpr c6; have c6b1 := bne_iff_ne.mpr c6; have H' := Aside0.mk H; clear H
      have p5 : 0 ≤ (x7_1 : Int) := of_decide_eq_true zU2_3
      have q5 : x7_1 < (a0.size : Int) := of_decide_eq_true zU2_3
      have hx5 := bt_at a0 x7_1
      replace p5 := eq_true p5; replace q5 := eq_true q5
      go_wp2
      go_roundg k1
      case measure => have := HK1.out; omega
      case rel => exact ⟨(x5_1), (x6_1), (wrap64 (x7_1 + 1)), zu, zu, H', ⟨by have := HK1.out; omega⟩, zp HO_5, ⟨zy HB⟩⟩
    ·rw [if_neg c4] at H
     exact absurd H zU2_5
   ·rw [if_neg c3] at H
    have c3b0 := decide_eq_false c3; clear c3
    by_cases c12 : 0 ≤ x6_1
    ·rw [if_pos c12] at H
     have c12b0 := eq_true c12; have c12b1 := decide_eq_true c12; clear c12
     by_cases c13 : x6_1 ≤ (a0.size : Int)
     ·rw [if_pos c13] at H
      have c13b0 := eq_true c13; have c13b1 := decide_eq_true c13; clear c13
      by_cases c14 : x5_1.length < 8796093022208
      ·rw [if_pos c14] at H
       have LMc14 := Aside0.mk c14; clear c14
       obtain ⟨y509, hy509⟩ : ∃ y_ : List ByteArray, y_ = (x5_1 ++ [a0.extract (x6_1 : Int).toNat a0.size]) := ⟨_, rfl⟩
       replace H : (some y509) = some r := by first | (rw [hy509]; with_reducible exact H) | (have H2_ := (Option.bind_some _ _).symm.trans H; rw [hy509]; with_reducible exact H2_) | (have H2_ := (Option.bind_some _ _).symm.trans H; with_reducible exact H2_) | with_reducible exact H | (rw [hy509]; exact H) | exact H
       have Ny509 := Aside0.mk hy509; clear hy509
       obtain rfl := Option.some.inj H
       go_wp2_with (first | ((with_reducible refine gate_builtin (b := .append) (xs := #[.tmp 28, .tmp 32]) rfl ?_); at_builtin; refine Kd.R_append Kd.string (w0 := w) w.heap.size rfl (.tmp 28) (.tmp 32) 73 9 (.string ⟨#[]⟩) 16 rfl Tryz.underlying73 info9 rfl (by decide) zU2_4 u5 x5_1 (a0.extract (x6_1 : Int).toNat a0.size) [.string (a0.extract (x6_1 : Int).toNat a0.size)] (fun _ => True) (fun _ => False) rfl rfl ?aP (fun _ hk => hk.elim) ?aF ?aO ?aB ?aS ?aL ?_; (case aP => exact rfl); (case aB => exact (zy HB)); (case aF => exact (fun _ _ => trivial)); (case aO => exact (zs HO_5)); (case aS => exact (below_size (zy HB))); (case aL => have := LMc14.out; omega); intro v510 w15 ho hb hg hat; rw [← Ny509.out] at ho; have HO511 := Aside0.mk (ho); replace HB := Aside0.mk hb; clear HO_5; clear ho hb hg hat))
       go_ret
       exact ⟨_, zt, by (with_reducible repeat (first | apply Kd.R_alloc | apply Kd.R_drewN | apply Kd.R_drew)); exact HO511.out, zy HB⟩
      ·rw [if_neg c14] at H
       exact absurd H zU2_5
     ·rw [if_neg c13] at H
      exact absurd H zU2_5
    ·rw [if_neg c12] at H
     exact absurd H zU2_5


/-! ### spec_l1Read: function 78 -/
mutual
def spec_l1Read.j0 : Nat → ByteArray → Bool → Option (Int)
 | 0, _, _ => none
 | k + 1, x0, x18 => if x18 = true then (some (-1)) else (spec_l1Read.l0 k x0 0 0)
def spec_l1Read.l0 : Nat → ByteArray → Int → Int → Option (Int)
 | 0, _, _, _ => none
 | k + 1, x0, x3, x4 => if x4 < (x0.size : Int) then (if 0 ≤ x4 then (if (bt x0 x4) < 48 then (some (-1)) else (if (bt x0 x4) > 57 then (some (-1)) else (spec_l1Read.l0 k x0 (wrap64 ((wrap64 (10 * x3)) + (((bt x0 x4) - 48) % 256))) (wrap64 (x4 + 1))))) else (none)) else (some x3)
end
def spec_l1Read.f (k : Nat) (a0 : ByteArray) : Option (Int) := (spec_l1In.f (a0.size : Int) 1 6).bind fun t512 => (if t512 = true then (if 0 < (a0.size : Int) then (if (bt a0 0) = 48 then (spec_l1Read.j0 k a0 (decide ((a0.size : Int) > 1))) else (spec_l1Read.j0 k a0 false)) else (none)) else (spec_l1Read.j0 k a0 true))
theorem spec_l1Read.calls (k : Nat) (a0 : ByteArray) (r : Int) (w : World) (h : spec_l1Read.f k a0 = some r) :
 Calls Tryz.prog 78 #[.string a0] w fun e w' => e = .returned (.int .i64 r) ∧ Drawn0 w w' := by
 have H := h; rw [spec_l1Read.f] at H; clear h; have HC2 := Aside0.mk H; clear H
 go_enter Tryz.func78, Tryz.ntmps78
 go_upto_region 1 with (fail)
 go_cut [18] (fun v18 wc => ∃ (kq : Nat) (x18_1 : Bool), v18 = .bool x18_1 ∧ Aside0 (spec_l1Read.j0 kq a0 x18_1 = some r) ∧ Aside0 (kq ≤ k) ∧ Drawn0 w wc)
 case first =>
  have H := HC2.out; clear HC2; obtain ⟨t512, A3, H⟩ := zB H; (try dsimp only at H)
  by_cases c4 : t512 = true
  ·subst c4
   rw [if_pos rfl] at H
   by_cases c5 : 0 < (a0.size : Int)
   ·rw [if_pos c5] at H
    have c5b0 := decide_eq_true c5
    have c5b1 : decide (0 < a0.size) = true := decide_eq_true zU2_4
    clear c5
    (first | rw [c5b0] | (simp only [i64_w, i32_w]; rw [c5b0]) | skip)
    by_cases c7 : (bt a0 0) = 48
    ·rw [if_pos c7] at H
     have c7b0 := beq_iff_eq.mpr c7; have c7b1 := bne_eq_false_iff_eq.mpr c7; clear c7; have H' := Aside0.mk H; clear H
     go_wp2_with (first | ((with_reducible refine gate_callee (f := 40) rfl ?_); refine zG (some 7) Tryz.func40 #[.int .i64 (a0.size : Int), .int .i64 1, .int .i64 6] ?_; (with_reducible refine (spec_l1In.calls (a0.size : Int) 1 6 true _ A3.out).mono ?_); rintro e w' ⟨rfl, ⟨nd, rfl⟩⟩; refine ⟨_, rfl, ?_⟩; have p6 : 0 ≤ (0 : Int) := zU2_4; have q6 : 0 < a0.size := (by have : (0 : Int) < (a0.size : Int) := of_decide_eq_true zU2_3; omega); have hx6 : ∀ h : 0 < a0.size, ((a0[0]'h).toNat : Int) = bt a0 0 := bt_at a0 0; clear p6; have qi6 : (0 < (a0.size : Int)) = True := eq_true (of_decide_eq_true zU2_3); replace q6 := eq_true q6))
     go_meet
     case rel => exact ⟨_, (decide ((a0.size : Int) > 1)), zu, H', ⟨by first | omega | exact Nat.le_refl _⟩, by repeat (first | exact Drawn0.refl _ | apply Drawn0.step)⟩
    ·rw [if_neg c7] at H
     have c7b0 := beq_eq_false_iff_ne.mpr c7; have c7b1 := bne_iff_ne.mpr c7; have H' := Aside0.mk H; clear H
     go_wp2_with (first | ((with_reducible refine gate_callee (f := 40) rfl ?_); refine zG (some 7) Tryz.func40 #[.int .i64 (a0.size : Int), .int .i64 1, .int .i64 6] ?_; (with_reducible refine (spec_l1In.calls (a0.size : Int) 1 6 true _ A3.out).mono ?_); rintro e w' ⟨rfl, ⟨nd, rfl⟩⟩; refine ⟨_, rfl, ?_⟩; have p6 : 0 ≤ (0 : Int) := zU2_4; have q6 : 0 < a0.size := (by have : (0 : Int) < (a0.size : Int) := of_decide_eq_true zU2_3; omega); have hx6 : ∀ h : 0 < a0.size, ((a0[0]'h).toNat : Int) = bt a0 0 := bt_at a0 0; clear p6; have qi6 : (0 < (a0.size : Int)) = True := eq_true (of_decide_eq_true zU2_3); replace q6 := eq_true q6))
     go_meet
     case rel => exact ⟨_, (false), zu, H', ⟨by first | omega | exact Nat.le_refl _⟩, by repeat (first | exact Drawn0.refl _ | apply Drawn0.step)⟩
   ·rw [if_neg c5] at H
    exact absurd H zU2_5
  ·replace c4 := Bool.eq_false_iff.mpr c4
   subst c4; rw [if_neg (show ¬ (false = true) by decide)] at H; have H' := Aside0.mk H; clear H
   go_wp2_with (first | ((with_reducible refine gate_callee (f := 40) rfl ?_); refine zG (some 7) Tryz.func40 #[.int .i64 (a0.size : Int), .int .i64 1, .int .i64 6] ?_; (with_reducible refine (spec_l1In.calls (a0.size : Int) 1 6 false _ A3.out).mono ?_); rintro e w' ⟨rfl, ⟨nd, rfl⟩⟩; refine ⟨_, rfl, ?_⟩))
   go_meet
   case rel => exact ⟨_, (true), zu, H', ⟨by first | omega | exact Nat.le_refl _⟩, by repeat (first | exact Drawn0.refl _ | apply Drawn0.step)⟩
 case rest =>
  clear HC2
  obtain ⟨kq, x18_1, rfl, HA, HJ1, ⟨mc1, rfl⟩⟩ := hcut
  cases kq with
  | zero => exact absurd HA.out (by simp [spec_l1Read.j0])
  | succ kj1 =>
   have H := HA.out; clear HA; simp only [spec_l1Read.j0] at H
   by_cases c8 : x18_1 = true
   ·subst c8
    rw [if_pos rfl] at H
    obtain rfl := Option.some.inj H
    go_wp2
    go_ret
    exact ⟨by first | rfl | (simp; done) | (simp [*]; done), by repeat (first | exact Drawn0.refl _ | apply Drawn0.step)⟩
   ·replace c8 := Bool.eq_false_iff.mpr c8
    subst c8; rw [if_neg (show ¬ (false = true) by decide)] at H; have H' := Aside0.mk H; clear H
    go_wp2
    go_loopg [3, 4] kj1 (fun kq v3 v4 w' => ∃ (x3_2 : Int) (x4_2 : Int), v3 = .int .i64 x3_2 ∧ v4 = .int .i64 x4_2 ∧ Aside0 (spec_l1Read.l0 kq a0 x3_2 x4_2 = some r) ∧ Aside0 (kq ≤ kj1) ∧ Drawn0 w w')
    case atStart => exact ⟨(0), (0), zu, zu, H', ⟨Nat.le_refl _⟩, by repeat (first | exact Drawn0.refl _ | apply Drawn0.step)⟩
    case round =>
     clear H'
     obtain ⟨x3_2, x4_2, rfl, rfl, HA, HK2, ⟨m2, rfl⟩⟩ := hrel
     cases gk with
     | zero => exact absurd HA.out (by simp [spec_l1Read.l0])
     | succ k2 =>
      have H := HA.out; clear HA; simp only [spec_l1Read.l0] at H
      by_cases c9 : x4_2 < (a0.size : Int)
      ·rw [if_pos c9] at H
       have c9b0 := decide_eq_true c9; clear c9
       by_cases c10 : 0 ≤ x4_2
       ·rw [if_pos c10] at H
        have c10b0 := decide_eq_true c10; clear c10
        by_cases c12 : (bt a0 x4_2) < 48
        ·rw [if_pos c12] at H
         have c12b0 := decide_eq_true c12; clear c12
         obtain rfl := Option.some.inj H
         have p11 : 0 ≤ (x4_2 : Int) := of_decide_eq_true zU2_3
         have q11 : x4_2 < (a0.size : Int) := of_decide_eq_true zU2_3
         have hx11 := bt_at a0 x4_2
         replace p11 := eq_true p11; replace q11 := eq_true q11
         go_wp2
         go_ret
         exact ⟨by first | rfl | (simp; done) | (simp [*]; done), by repeat (first | exact Drawn0.refl _ | apply Drawn0.step)⟩
        ·rw [if_neg c12] at H
         have c12b0 := decide_eq_false c12; clear c12
         by_cases c14 : (bt a0 x4_2) > 57
         ·rw [if_pos c14] at H
          have c14b0 := decide_eq_true c14; clear c14
          obtain rfl := Option.some.inj H
          have p11 : 0 ≤ (x4_2 : Int) := of_decide_eq_true zU2_3
          have q11 : x4_2 < (a0.size : Int) := of_decide_eq_true zU2_3
          have hx11 := bt_at a0 x4_2
          replace p11 := eq_true p11; replace q11 := eq_true q11
          have p13 : 0 ≤ (x4_2 : Int) := of_decide_eq_true zU2_3
          have q13 : x4_2 < (a0.size : Int) := of_decide_eq_true zU2_3
          have hx13 := bt_at a0 x4_2
          replace p13 := eq_true p13; replace q13 := eq_true q13
          go_wp2
          go_ret
          exact ⟨by first | rfl | (simp; done) | (simp [*]; done), by repeat (first | exact Drawn0.refl _ | apply Drawn0.step)⟩
         ·rw [if_neg c14] at H
          have c14b0 := decide_eq_false c14; clear c14; have H' := Aside0.mk H; clear H
          have p11 : 0 ≤ (x4_2 : Int) := of_decide_eq_true zU2_3
          have q11 : x4_2 < (a0.size : Int) := of_decide_eq_true zU2_3
          have hx11 := bt_at a0 x4_2
          replace p11 := eq_true p11; replace q11 := eq_true q11
          have p13 : 0 ≤ (x4_2 : Int) := of_decide_eq_true zU2_3
          have q13 : x4_2 < (a0.size : Int) := of_decide_eq_true zU2_3
          have hx13 := bt_at a0 x4_2
          replace p13 := eq_true p13; replace q13 := eq_true q13
          have p15 : 0 ≤ (x4_2 : Int) := of_decide_eq_true zU2_3
          have q15 : x4_2 < (a0.size : Int) := of_decide_eq_true zU2_3
          have hx15 := bt_at a0 x4_2
          replace p15 := eq_true p15; replace q15 := eq_true q15
          go_wp2
          go_roundg k2
          case measure => have := HJ1.out; have := HK2.out; omega
          case rel => exact ⟨(wrap64 ((wrap64 (10 * x3_2)) + (((bt a0 x4_2) - 48) % 256))), (wrap64 (x4_2 + 1)), zu, zu, H', ⟨by have := HJ1.out; have := HK2.out; omega⟩, by repeat (first | exact Drawn0.refl _ | apply Drawn0.step)⟩
       ·rw [if_neg c10] at H
        exact absurd H zU2_5
      ·rw [if_neg c9] at H
       have c9b0 := decide_eq_false c9; clear c9
       obtain rfl := Option.some.inj H
       go_wp2
       go_ret
       exact ⟨by first | rfl | (simp; done) | (simp [*]; done), by repeat (first | exact Drawn0.refl _ | apply Drawn0.step)⟩


/-! ### spec_swParse: function 60 -/
def spec_swParse.l0 : Nat → List (S39) → List ByteArray → Int → Int → Option ((List (S39)) × Bool)
 | 0, _, _, _, _ => none
 | k + 1, x4, x12, x13, x14 => if x14 < x13 then (if 0 ≤ x14 then (if x14 < (x12.length : Int) then ((spec_l1Split.f k (rdOf ByteArray.empty x12 x14) 124).bind fun t518 => (if (t518.length : Int) = 2 then (if 0 < (t518.length : Int) then ((spec_l1Read.f k (rdOf ByteArray.empty t518 0)).bind fun t522 => (if 1 < (t518.length : Int) then ((spec_l1Read.f k (rdOf ByteArray.empty t518 1)).bind fun t524 => (if x4.length < 8796093022208 then (spec_swParse.l0 k (x4 ++ [(⟨t522, t524⟩ : S39)]) x12 x13 (wrap64 (x14 + 1))) else (none))) else (none))) else (none)) else (some (([] : List (S39)), false)))) else (none)) else (none)) else ((spec_swRow.f k x4).bind fun t516 => (if t516 = true then (some (x4, true)) else (some (([] : List (S39)), false))))
def spec_swParse.f (k : Nat) (a0 : ByteArray) : Option ((List (S39)) × Bool) := if (a0.size : Int) > 50 then (some (([] : List (S39)), false)) else ((spec_l1Split.f k a0 44).bind fun t513 => (spec_swParse.l0 k ([] : List (S39)) t513 (t513.length : Int) 0))
def spec_swParse.T10 : Bool × List (List Nat × List Nat) := (true, [([], []), ([], []), ([1], [1]), ([2], [2]), ([3], [3]), ([], []), ([5], [5]), ([6], [6]), ([7, 4], [7]), ([4, 8], [4, 8]), ([9], [9]), ([0, 10, 8], [0, 10]), ([11, 11, 0, 1, 2, 3, 4, 5, 6, 7, 8, 9, 10, 11], [0, 11])])
def spec_swParse.B10 : List Nat := [0, 0, 2, 6, 14, 0, 32, 96, 254, 510, 1022, 2047, 4095]
theorem spec_swParse.tab10 : rtab .any (opsOf Tryz.f60 10) = spec_swParse.T10 := by kernel_rfl
theorem spec_swParse.bits10 : waitsOk spec_swParse.T10.2 spec_swParse.B10 = true := by kernel_rfl
theorem spec_swParse.calls (k : Nat) (a0 : ByteArray) (r1 : List (S39)) (r2 : Bool) (w : World) (h : spec_swParse.f k a0 = some (r1, r2)) :
 Calls Tryz.prog 60 #[.string a0] w fun e w' => ∃ v0_ : Value, e = .returned (.tuple #[v0_, .bool r2]) ∧ Kd.R k39 39 w' w.heap.size (fun _ => True) v0_ r1 ∧ Below w.heap.size w w' := by
 have hu39 := Tryz.underlying39
 have HB := Aside0.mk (Below.refl w.heap.size w)
 have H := h; rw [spec_swParse.f] at H; clear h
 by_cases c2 : (a0.size : Int) > 50
 ·rw [if_pos c2] at H
  have c2b0 := decide_eq_true c2
  have c2b1 : decide (50 < a0.size) = true := decide_eq_true zU2_4
  clear c2; simp only [Option.some.injEq, Prod.mk.injEq] at H; obtain ⟨rfl, rfl⟩ := H
  go_enter Tryz.func60, Tryz.ntmps60
  go_wp2
  go_ret2
  exact ⟨_, zt, by first | exact Kd.R_nil _ _ _ _ _ | exact Kd.N_nil _ _ _ _ _ | exact Kd.V_nil _ _ _ _ _ | exact Kd.Q_nil _ _ _ _ _ | exact Kd.S_nil _ _ _ _ _, zy HB⟩
 ·rw [if_neg c2] at H
  have c2b0 := decide_eq_false c2
  have c2b1 : decide (50 < a0.size) = false := decide_eq_false zU2_4
  clear c2; obtain ⟨t513, A3, H⟩ := zB H; (try dsimp only at H); have H' := Aside0.mk H; clear H
  go_enter Tryz.func60, Tryz.ntmps60
  go_wp2_with (first | ((with_reducible refine gate_callee (f := 77) rfl ?_); refine zG (some 12) Tryz.func77 #[.string a0, .int .u8 44] ?_; (with_reducible refine (spec_l1Split.calls k a0 44 t513 _ A3.out).mono ?_); rintro e w4 ⟨v514, rfl, ho0, hb⟩; refine ⟨_, rfl, ?_⟩; have HO515 := Aside0.mk (Kd.R_lower ho0 (below_size (zy HB))); replace HB := zh HB hb; clear hb ho0; obtain ⟨Ao5, co5, eo5⟩ := Kd.R_slice HO515.out; subst eo5))
  go_loopg [4, 14] k (fun kq v4 v14 w' => ∃ (x4_1 : List (S39)) (x14_1 : Int), v14 = .int .i64 x14_1 ∧ Aside0 (spec_swParse.l0 kq x4_1 t513 (t513.length : Int) x14_1 = some (r1, r2)) ∧ Aside0 (kq ≤ k) ∧ Aside0 (Kd.R k39 39 w' w.heap.size (fun _ => True) v4 x4_1) ∧ Aside0 (Kd.R Kd.string 9 w' w.heap.size (fun _ => True) (.slice Ao5 t513.length co5) t513) ∧ Aside0 (Below w.heap.size w w'))
  case atStart => exact ⟨(([] : List (S39))), (0), zu, H', ⟨Nat.le_refl _⟩, ⟨by first | exact Kd.R_nil _ _ _ _ _ | exact Kd.N_nil _ _ _ _ _ | exact Kd.V_nil _ _ _ _ _ | exact Kd.Q_nil _ _ _ _ _ | exact Kd.S_nil _ _ _ _ _⟩, zp HO515, ⟨zy HB⟩⟩
  case round =>
   clear H'
   obtain ⟨x4_1, x14_1, rfl, HA, HK1, HO_4, HO_12, HB⟩ := hrel
   cases gk with
   | zero => exact absurd HA.out (by simp [spec_swParse.l0])
   | succ k1 =>
    have H := HA.out; clear HA; simp only [spec_swParse.l0] at H
    by_cases c6 : x14_1 < (t513.length : Int)
    ·rw [if_pos c6] at H
     have c6b0 := decide_eq_true c6; clear c6
     by_cases c7 : 0 ≤ x14_1
     ·rw [if_pos c7] at H
      have c7b0 := decide_eq_true c7; clear c7
      by_cases c8 : x14_1 < (t513.length : Int)
      ·rw [if_pos c8] at H
       have c8b0 := decide_eq_true c8; clear c8; obtain ⟨t518, A9, H⟩ := zB H; (try dsimp only at H)
       by_cases c10 : (t518.length : Int) = 2
       ·rw [if_pos c10] at H
        have c10b0 := beq_iff_eq.mpr c10; have c10b1 := bne_eq_false_iff_eq.mpr c10; clear c10
        by_cases c11 : 0 < (t518.length : Int)
        ·rw [if_pos c11] at H
         have c11b0 := decide_eq_true c11
         have c11b1 : decide (0 < t518.length) = true := decide_eq_true zU2_4
         clear c11; obtain ⟨t522, A12, H⟩ := zB H; (try dsimp only at H)
         by_cases c13 : 1 < (t518.length : Int)
         ·rw [if_pos c13] at H
          have c13b0 := decide_eq_true c13
          have c13b1 : decide (1 < t518.length) = true := decide_eq_true zU2_4
          clear c13; obtain ⟨t524, A14, H⟩ := zB H; (try dsimp only at H)
          by_cases c15 : x4_1.length < 8796093022208
          ·rw [if_pos c15] at H
           have LMc15 := Aside0.mk c15; clear c15
           obtain ⟨y525, hy525⟩ : ∃ y_ : List (S39), y_ = (x4_1 ++ [(⟨t522, t524⟩ : S39)]) := ⟨_, rfl⟩
           replace H : (spec_swParse.l0 k1 y525 t513 (t513.length : Int) (wrap64 (x14_1 + 1))) = some (r1, r2) := by first | (rw [hy525]; with_reducible exact H) | (have H2_ := (Option.bind_some _ _).symm.trans H; rw [hy525]; with_reducible exact H2_) | (have H2_ := (Option.bind_some _ _).symm.trans H; with_reducible exact H2_) | with_reducible exact H | (rw [hy525]; exact H) | exact H
           have Ny525 := Aside0.mk hy525; clear hy525; have H' := Aside0.mk H; clear H
           have p517 : 0 ≤ (x14_1 : Int) := of_decide_eq_true zU2_3
           have q517 : x14_1 < (t513.length : Int) := of_decide_eq_true zU2_3
           obtain ⟨ad517, e517, hx517_0⟩ := Kd.at_string (Kd.R_reads' HO_12.out).2.2 x14_1 p517 q517
           cases e517; replace p517 := eq_true p517; replace q517 := eq_true q517
           try go_wp2_with (first | ((with_reducible refine gate_callee (f := 77) rfl ?_); refine zG (some 19) Tryz.func77 #[.string (rdOf ByteArray.empty t513 x14_1), .int .u8 124] ?_; (with_reducible refine (spec_l1Split.calls k1 (rdOf ByteArray.empty t513 x14_1) 124 t518 _ A9.out).mono ?_); rintro e w16 ⟨v519, rfl, ho0, hb⟩; refine ⟨_, rfl, ?_⟩; have n1_ := Aside0.mk (Kd.R_elder' (zs HO_12) (Kd.R_base ho0) hb); have HO520 := Aside0.mk (Kd.R_lower (Kd.R_new' ho0 (Kd.R_lt (zs HO_12))) (below_size (zy HB))); replace HO_4 := zo HO_4 hb; replace HB := zh HB hb; clear HO_12; have HO_12 := n1_; clear n1_; clear hb ho0; obtain ⟨Ao17, co17, eo17⟩ := Kd.R_slice HO520.out; subst eo17))
           replace HO_4 := Aside0.mk (Kd.R_drew HO_4.out); replace HO_12 := Aside0.mk (Kd.R_drew HO_12.out); replace HO520 := Aside0.mk (Kd.R_drew HO520.out); replace HB := Aside0.mk (below_drew1 HB.out)
           have p521 : 0 ≤ (0 : Int) := zU2_4
           have q521 : 0 < (t518.length : Int) := of_decide_eq_true zU2_3
           obtain ⟨ad521, e521, hx521_0⟩ := Kd.at_string (Kd.R_reads' HO520.out).2.2 0 p521 q521
           cases e521
           have qi521 : (0 < t518.length) = True := eq_true zU2_4
           (try rw [show ((0 : Int)).toNat = 0 from rfl] at hx521_0)
           (try rw [Addr.add_zero'] at hx521_0)
           replace p521 := eq_true p521; replace q521 := eq_true q521
           have p523 : 0 ≤ (1 : Int) := zU2_4
           have q523 : 1 < (t518.length : Int) := of_decide_eq_true zU2_3
           obtain ⟨ad523, e523, hx523_0⟩ := Kd.at_string (Kd.R_reads' HO520.out).2.2 1 p523 q523
           obtain rfl : ad521 = ad523 := (by injection e523)
           (try simp only [show (1 : Int).toNat = 1 from rfl, Nat.reduceMul, Nat.reduceEqDiff, Go.Addr.add, ↓reduceIte] at hx523_0)
           have qi523 : (1 < t518.length) = True := eq_true zU2_4
           (try rw [show ((1 : Int)).toNat = 1 from rfl] at hx523_0)
           replace p523 := eq_true p523; replace q523 := eq_true q523
           refine start_ (n := 13) (S := fun w' => w'.cell? ad521 = some (.string (rdOf ByteArray.empty t518 0)) ∧ w'.cell? ⟨ad521.block, ad521.off + 1, none⟩ = some (.string (rdOf ByteArray.empty t518 1))) (ds := [10, 11]) #[false, false, false, false, false, false, false, false, false, false, false, false, false] (by kernel_rfl) rfl rfl ⟨hx521_0, hx523_0⟩ (fun hHeld => ?_); refine with_tabW spec_swParse.tab10 spec_swParse.bits10 (fun HT_ HW_ => ?_)
           generalize w16.drew = w18 at HO_4 HO_12 HO520 HB hx521_0 hx523_0 hHeld ⊢
           refine zA 0 23 HT_ ?_
           refine zA 1 24 HT_ ?_
           refine zA 2 25 HT_ ?_
           refine zA 5 28 HT_ ?_
           refine zA 6 29 HT_ ?_
           refine zT 3 26 HT_ HW_ hHeld ?_
           refine zT 7 30 HT_ HW_ hHeld ?_
           refine zO 4 (some 27) HT_ (fun K hK => ?_)
           refine goes_ Tryz.func78 (by kernel_rfl) rfl #[.string (rdOf ByteArray.empty t518 0)] (by rfl) rfl rfl zU2_0 ?_
           with_reducible refine (spec_l1Read.calls k1 (rdOf ByteArray.empty t518 0) t522 _ A12.out).mono ?_
           rintro e w' ⟨rfl, ⟨nd, rfl⟩⟩
           refine ⟨_, rfl, ?_⟩
           refine hK.out _ _ ⟨hHeld.1, hHeld.2⟩ (fun hHeld => ?_)
           clear hK K
           refine zN 27 ?_
           refine zO 8 (some 31) HT_ (fun K hK => ?_)
           refine goes_ Tryz.func78 (by kernel_rfl) rfl #[.string (rdOf ByteArray.empty t518 1)] (by rfl) rfl rfl zU2_0 ?_
           with_reducible refine (spec_l1Read.calls k1 (rdOf ByteArray.empty t518 1) t524 _ A14.out).mono ?_
           rintro e w' ⟨rfl, ⟨nd, rfl⟩⟩
           refine ⟨_, rfl, ?_⟩
           refine hK.out _ _ ⟨hHeld.1, hHeld.2⟩ (fun hHeld => ?_)
           clear hK K
           refine zN 31 ?_
           refine zA 9 32 HT_ ?_
           refine last_ (i := 10) (N := some 33) #[true, true, true, true, true, true, true, true, true, true, true, false, false] rfl rfl (one_of HT_.out (by kernel_rfl)) (by decide) (fun K hK => ?_)
           refine value_ (w1 := ?_) (v := ?_) (by rfl) rfl ?_ ?_
           rotate_left 2
           ·go_simp
            constructor
            ·rfl
            ·rfl
           refine hK.out _ _ ?_
           clear hK K
           refine zN 33 ?_
           refine last_ (i := 11) (N := some 34) #[true, true, true, true, true, true, true, true, true, true, true, true, false] rfl rfl (one_of HT_.out (by kernel_rfl)) (by decide) (fun K hK => ?_)
           refine Kd.R_append_step k39 (w0 := w) w.heap.size (by rfl) (.tmp 23) (.tmp 33) 24 39 (.agg #[(.int .i64 0), (.int .i64 0)]) 16 rfl Tryz.underlying24 info39 rfl (by decide) zU2_4 u4 x4_1 (⟨t522, t524⟩ : S39) [.int .i64 t522, .int .i64 t524] (fun _ => True) (fun _ => False) rfl rfl ?aP (fun _ hk => hk.elim) ?aF ?aO ?aB ?aS ?aL ?_
           (case aP => exact k39_mkM _ _ _ (⟨t522, t524⟩ : S39))
           (case aB => exact (zy HB))
           (case aF => exact (fun _ _ => trivial))
           (case aO => exact (zs HO_4))
           (case aS => exact (below_size (zy HB)))
           (case aL => have := LMc15.out; omega)
           intro v526 w19 ho hb hg hat
           rw [← Ny525.out] at ho
           have n0_ := Aside0.mk (Kd.R_over' (zs HO_12) (Kd.R_typed (zs HO_4)) (by decide) hg)
           have n1_ := Aside0.mk (Kd.R_over' (zs HO520) (Kd.R_typed (zs HO_4)) (by decide) hg)
           have HO527 := Aside0.mk (ho)
           replace HB := Aside0.mk hb
           clear HO_4; clear HO_12; have HO_12 := n0_; clear n0_; clear HO520; have HO520 := n1_; clear n1_; clear ho hb hg hat
           refine hK.out _ _ ?_
           clear hK K
           refine zN 34 ?_
           refine zA 12 4 HT_ ?_
           refine done_ (done_of HT_.out (by kernel_rfl)) ?_
           try go_wp2
           go_roundg k1
           case measure => have := HK1.out; omega
           case rel => exact ⟨(y525), (wrap64 (x14_1 + 1)), zu, H', ⟨by have := HK1.out; omega⟩, zp HO527, ⟨by (with_reducible repeat (first | apply Kd.R_alloc | apply Kd.R_drewN | apply Kd.R_drew)); exact Kd.R_mono HO_12.out (fun _ hk => trivial)⟩, ⟨zy HB⟩⟩
          ·rw [if_neg c15] at H
           exact absurd H zU2_5
         ·rw [if_neg c13] at H
          exact absurd H zU2_5
        ·rw [if_neg c11] at H
         exact absurd H zU2_5
       ·rw [if_neg c10] at H
        have c10b0 := beq_eq_false_iff_ne.mpr c10; have c10b1 := bne_iff_ne.mpr c10; simp only [Option.some.injEq, Prod.mk.injEq] at H; obtain ⟨rfl, rfl⟩ := H
        have p517 : 0 ≤ (x14_1 : Int) := of_decide_eq_true zU2_3
        have q517 : x14_1 < (t513.length : Int) := of_decide_eq_true zU2_3
        obtain ⟨ad517, e517, hx517_0⟩ := Kd.at_string (Kd.R_reads' HO_12.out).2.2 x14_1 p517 q517
        cases e517; replace p517 := eq_true p517; replace q517 := eq_true q517
        go_wp2_with (first | ((with_reducible refine gate_callee (f := 77) rfl ?_); refine zG (some 19) Tryz.func77 #[.string (rdOf ByteArray.empty t513 x14_1), .int .u8 124] ?_; (with_reducible refine (spec_l1Split.calls k1 (rdOf ByteArray.empty t513 x14_1) 124 t518 _ A9.out).mono ?_); rintro e w20 ⟨v519, rfl, ho0, hb⟩; refine ⟨_, rfl, ?_⟩; have n1_ := Aside0.mk (Kd.R_elder' (zs HO_12) (Kd.R_base ho0) hb); have HO520 := Aside0.mk (Kd.R_lower (Kd.R_new' ho0 (Kd.R_lt (zs HO_12))) (below_size (zy HB))); replace HO_4 := zo HO_4 hb; replace HB := zh HB hb; clear HO_12; have HO_12 := n1_; clear n1_; clear hb ho0; obtain ⟨Ao21, co21, eo21⟩ := Kd.R_slice HO520.out; subst eo21))
        go_ret2
        exact ⟨_, zt, by first | exact Kd.R_nil _ _ _ _ _ | exact Kd.N_nil _ _ _ _ _ | exact Kd.V_nil _ _ _ _ _ | exact Kd.Q_nil _ _ _ _ _ | exact Kd.S_nil _ _ _ _ _, zy HB⟩
      ·rw [if_neg c8] at H
       exact absurd H zU2_5
     ·rw [if_neg c7] at H
      exact absurd H zU2_5
    ·rw [if_neg c6] at H
     have c6b0 := decide_eq_false c6; clear c6; obtain ⟨t516, A22, H⟩ := zB H; (try dsimp only at H)
     by_cases c23 : t516 = true
     ·subst c23
      rw [if_pos rfl] at H; simp only [Option.some.injEq, Prod.mk.injEq] at H; obtain ⟨rfl, rfl⟩ := H
      obtain ⟨Ao24, co24, eo24⟩ := Kd.R_slice HO_4.out
      subst eo24
      go_wp2_with (first | ((with_reducible refine gate_callee (f := 52) rfl ?_); refine zG (some 37) Tryz.func52 #[.slice Ao24 x4_1.length co24] ?_; (with_reducible refine (spec_swRow.calls k1 _ _ x4_1 true _ ?side1 ?side2 A22.out).mono ?_); (case side1 => repeat (first | exact (Kd.R_reads' HO_4.out).2.2 | (with_reducible refine Kd.C_alloc ?_ _) | (with_reducible refine Kd.C_drewN ?_ _) | (with_reducible refine Kd.C_drew ?_))); (case side2 => exact (Kd.R_reads' HO_4.out).2.1); rintro e w25 ⟨rfl, hb⟩; refine ⟨_, rfl, ?_⟩; replace HO_4 := zo HO_4 hb; replace HO_12 := zo HO_12 hb; replace HB := zh HB hb; clear hb))
      go_ret2
      exact ⟨_, zt, by (with_reducible repeat (first | apply Kd.R_alloc | apply Kd.R_drewN | apply Kd.R_drew)); exact HO_4.out, zy HB⟩
     ·replace c23 := Bool.eq_false_iff.mpr c23
      subst c23; rw [if_neg (show ¬ (false = true) by decide)] at H; simp only [Option.some.injEq, Prod.mk.injEq] at H; obtain ⟨rfl, rfl⟩ := H
      obtain ⟨Ao26, co26, eo26⟩ := Kd.R_slice HO_4.out
      subst eo26
      go_wp2_with (first | ((with_reducible refine gate_callee (f := 52) rfl ?_); refine zG (some 37) Tryz.func52 #[.slice Ao26 x4_1.length co26] ?_; (with_reducible refine (spec_swRow.calls k1 _ _ x4_1 false _ ?side1 ?side2 A22.out).mono ?_); (case side1 => repeat (first | exact (Kd.R_reads' HO_4.out).2.2 | (with_reducible refine Kd.C_alloc ?_ _) | (with_reducible refine Kd.C_drewN ?_ _) | (with_reducible refine Kd.C_drew ?_))); (case side2 => exact (Kd.R_reads' HO_4.out).2.1); rintro e w27 ⟨rfl, hb⟩; refine ⟨_, rfl, ?_⟩; replace HO_4 := zo HO_4 hb; replace HO_12 := zo HO_12 hb; replace HB := zh HB hb; clear hb))
      go_ret2
      exact ⟨_, zt, by first | exact Kd.R_nil _ _ _ _ _ | exact Kd.N_nil _ _ _ _ _ | exact Kd.V_nil _ _ _ _ _ | exact Kd.Q_nil _ _ _ _ _ | exact Kd.S_nil _ _ _ _ _, zy HB⟩


/-! ### spec_ParsePoles: function 32 -/
def spec_ParsePoles.f (k : Nat) (a0 : ByteArray) : Option ((List (S39)) × Bool) := (spec_swParse.f k a0).bind fun bt528 => (some (bt528.1, bt528.2))
theorem spec_ParsePoles.calls (k : Nat) (a0 : ByteArray) (r1 : List (S39)) (r2 : Bool) (w : World) (h : spec_ParsePoles.f k a0 = some (r1, r2)) :
 Calls Tryz.prog 32 #[.string a0] w fun e w' => ∃ v0_ : Value, e = .returned (.tuple #[v0_, .bool r2]) ∧ Kd.R k39 39 w' w.heap.size (fun _ => True) v0_ r1 ∧ Below w.heap.size w w' := by
 have HB := Aside0.mk (Below.refl w.heap.size w)
 have H := h; rw [spec_ParsePoles.f] at H; clear h; obtain ⟨⟨t528, t529⟩, A2, H⟩ := zB H; (try dsimp only at H); simp only [Option.some.injEq, Prod.mk.injEq] at H; obtain ⟨rfl, rfl⟩ := H
 go_enter Tryz.func32, Tryz.ntmps32
 go_wp2_with (first | ((with_reducible refine gate_callee (f := 60) rfl ?_); refine zG (some 5) Tryz.func60 #[.string a0] ?_; (with_reducible refine (spec_swParse.calls k a0 t528 t529 _ A2.out).mono ?_); rintro e w3 ⟨v530, rfl, ho0, hb⟩; refine ⟨_, rfl, ?_⟩; have HO531 := Aside0.mk (Kd.R_lower ho0 (below_size (zy HB))); replace HB := zh HB hb; clear hb ho0))
 go_ret2
 exact ⟨_, zt, by (with_reducible repeat (first | apply Kd.R_alloc | apply Kd.R_drewN | apply Kd.R_drew)); exact HO531.out, zy HB⟩


/-! ### laws_yRows: function 33 -/
def laws_yRows.l0 : Nat → List (List Int) → List (List Int) → Int → Int → Option (Bool)
 | 0, _, _, _, _ => none
 | k + 1, x0, x1, x12, x13 => if x13 < x12 then (if 0 ≤ x13 then (if x13 < (x0.length : Int) then (if x13 < (x1.length : Int) then ((laws_ySame.f k (rd_L3 x0 x13) (rd_L3 x1 x13)).bind fun t534 => (if t534 = true then (laws_yRows.l0 k x0 x1 x12 (wrap64 (x13 + 1))) else (some false))) else (none)) else (none)) else (none)) else (some true)
def laws_yRows.f (k : Nat) (l0 : List (List Int)) (l1 : List (List Int)) : Option (Bool) := if (l0.length : Int) = (l1.length : Int) then (laws_yRows.l0 k l0 l1 (l0.length : Int) 0) else (some false)
theorem laws_yRows.calls (k : Nat) (A0 : Option Addr) (c0 : Nat) (l0 : List (List Int)) (A1 : Option Addr) (c1 : Nat) (l1 : List (List Int)) (r : Bool) (w : World) (hr0 : Kd.C (Kd.slice 3 (Kd.int .i64)) w A0 l0.length l0) (hc0 : l0.length ≤ c0) (hr1 : Kd.C (Kd.slice 3 (Kd.int .i64)) w A1 l1.length l1) (hc1 : l1.length ≤ c1) (h : laws_yRows.f k l0 l1 = some r) :
 Calls Tryz.prog 33 #[.slice A0 l0.length c0, .slice A1 l1.length c1] w fun e w' => e = .returned (.bool r) ∧ Drawn0 w w' := by
 have HR0 := Aside0.mk hr0; have HC0 := Aside0.mk hc0; clear hr0 hc0; have HR1 := Aside0.mk hr1; have HC1 := Aside0.mk hc1; clear hr1 hc1; have H := h; rw [laws_yRows.f] at H; clear h
 by_cases c3 : (l0.length : Int) = (l1.length : Int)
 ·rw [if_pos c3] at H
  have c3b0 := beq_iff_eq.mpr c3; have c3b1 := bne_eq_false_iff_eq.mpr c3
  have c3b2 : (l0.length == l1.length) = true := by first | simpa using c3 | (simp at c3 ⊢; omega)
  clear c3; have H' := Aside0.mk H; clear H
  go_enter Tryz.func33, Tryz.ntmps33
  go_wp2
  repeat (go_quiet (fail); try go_wp2)
  go_loopg [13] k (fun kq v13 w' => ∃ (x13_1 : Int), v13 = .int .i64 x13_1 ∧ Aside0 (laws_yRows.l0 kq l0 l1 (l0.length : Int) x13_1 = some r) ∧ Aside0 (kq ≤ k) ∧ Drawn0 w w')
  case atStart => exact ⟨(0), zu, H', ⟨Nat.le_refl _⟩, by repeat (first | exact Drawn0.refl _ | apply Drawn0.step)⟩
  case round =>
   clear H'
   obtain ⟨x13_1, rfl, HA, HK1, ⟨m1, rfl⟩⟩ := hrel
   cases gk with
   | zero => exact absurd HA.out (by simp [laws_yRows.l0])
   | succ k1 =>
    have H := HA.out; clear HA; simp only [laws_yRows.l0] at H
    by_cases c4 : x13_1 < (l0.length : Int)
    ·rw [if_pos c4] at H
     have c4b0 := decide_eq_true c4; clear c4
     by_cases c5 : 0 ≤ x13_1
     ·rw [if_pos c5] at H
      have c5b0 := decide_eq_true c5; clear c5
      by_cases c6 : x13_1 < (l0.length : Int)
      ·rw [if_pos c6] at H
       have c6b0 := decide_eq_true c6; clear c6
       by_cases c7 : x13_1 < (l1.length : Int)
       ·rw [if_pos c7] at H
        have c7b0 := decide_eq_true c7; clear c7; obtain ⟨t534, A8, H⟩ := zB H; (try dsimp only at H)
        by_cases c9 : t534 = true
        ·subst c9
         rw [if_pos rfl] at H; have H' := Aside0.mk H; clear H
         have p532 : 0 ≤ (x13_1 : Int) := of_decide_eq_true zU2_3
         have q532 : x13_1 < (l0.length : Int) := of_decide_eq_true zU2_3
         obtain ⟨ad532, A532_0, c532_0, e532, hx532_0, hl532_0, hi532_0⟩ := at_L3 HR0.out x13_1 p532 q532
         cases e532; have HR532_0 := Aside0.mk hi532_0; have HC532_0 := Aside0.mk hl532_0; clear hi532_0 hl532_0; replace p532 := eq_true p532; replace q532 := eq_true q532
         have p533 : 0 ≤ (x13_1 : Int) := of_decide_eq_true zU2_3
         have q533 : x13_1 < (l1.length : Int) := of_decide_eq_true zU2_3
         obtain ⟨ad533, A533_0, c533_0, e533, hx533_0, hl533_0, hi533_0⟩ := at_L3 HR1.out x13_1 p533 q533
         cases e533; have HR533_0 := Aside0.mk hi533_0; have HC533_0 := Aside0.mk hl533_0; clear hi533_0 hl533_0; replace p533 := eq_true p533; replace q533 := eq_true q533
         go_wp2_with (first | (go_at_call 14; (with_reducible refine (laws_ySame.calls k1 _ _ (rd_L3 l0 x13_1) _ _ (rd_L3 l1 x13_1) true _ ?side1 ?side2 ?side3 ?side4 A8.out).mono ?_); (case side1 => repeat (first | exact HR532_0.out | (with_reducible refine Kd.C_alloc ?_ _) | (with_reducible refine Kd.C_drewN ?_ _) | (with_reducible refine Kd.C_drew ?_))); (case side2 => exact HC532_0.out); (case side3 => repeat (first | exact HR533_0.out | (with_reducible refine Kd.C_alloc ?_ _) | (with_reducible refine Kd.C_drewN ?_ _) | (with_reducible refine Kd.C_drew ?_))); (case side4 => exact HC533_0.out); rintro e w' ⟨rfl, ⟨nd, rfl⟩⟩; (try first | exact ⟨rfl, _, World.drewN_drewN _ _ _⟩ | exact ⟨rfl, _, Eq.trans (World.drewN_drewN _ _ _) (congrArg (World.drewN _) (Nat.add_assoc _ _ _))⟩)))
         repeat (go_quiet (first | (go_at_call 14; (with_reducible refine (laws_ySame.calls k1 _ _ (rd_L3 l0 x13_1) _ _ (rd_L3 l1 x13_1) true _ ?side1 ?side2 ?side3 ?side4 A8.out).mono ?_); (case side1 => repeat (first | exact HR532_0.out | (with_reducible refine Kd.C_alloc ?_ _) | (with_reducible refine Kd.C_drewN ?_ _) | (with_reducible refine Kd.C_drew ?_))); (case side2 => exact HC532_0.out); (case side3 => repeat (first | exact HR533_0.out | (with_reducible refine Kd.C_alloc ?_ _) | (with_reducible refine Kd.C_drewN ?_ _) | (with_reducible refine Kd.C_drew ?_))); (case side4 => exact HC533_0.out); rintro e w' ⟨rfl, ⟨nd, rfl⟩⟩; (try first | exact ⟨rfl, _, World.drewN_drewN _ _ _⟩ | exact ⟨rfl, _, Eq.trans (World.drewN_drewN _ _ _) (congrArg (World.drewN _) (Nat.add_assoc _ _ _))⟩))); try go_wp2_with (first | (go_at_call 14; (with_reducible refine (laws_ySame.calls k1 _ _ (rd_L3 l0 x13_1) _ _ (rd_L3 l1 x13_1) true _ ?side1 ?side2 ?side3 ?side4 A8.out).mono ?_); (case side1 => repeat (first | exact HR532_0.out | (with_reducible refine Kd.C_alloc ?_ _) | (with_reducible refine Kd.C_drewN ?_ _) | (with_reducible refine Kd.C_drew ?_))); (case side2 => exact HC532_0.out); (case side3 => repeat (first | exact HR533_0.out | (with_reducible refine Kd.C_alloc ?_ _) | (with_reducible refine Kd.C_drewN ?_ _) | (with_reducible refine Kd.C_drew ?_))); (case side4 => exact HC533_0.out); rintro e w' ⟨rfl, ⟨nd, rfl⟩⟩; (try first | exact ⟨rfl, _, World.drewN_drewN _ _ _⟩ | exact ⟨rfl, _, Eq.trans (World.drewN_drewN _ _ _) (congrArg (World.drewN _) (Nat.add_assoc _ _ _))⟩))))
         go_roundg k1
         case measure => have := HK1.out; omega
         case rel => exact ⟨(wrap64 (x13_1 + 1)), zu, H', ⟨by have := HK1.out; omega⟩, by repeat (first | exact Drawn0.refl _ | apply Drawn0.step)⟩
        ·replace c9 := Bool.eq_false_iff.mpr c9
         subst c9; rw [if_neg (show ¬ (false = true) by decide)] at H
         obtain rfl := Option.some.inj H
         have p532 : 0 ≤ (x13_1 : Int) := of_decide_eq_true zU2_3
         have q532 : x13_1 < (l0.length : Int) := of_decide_eq_true zU2_3
         obtain ⟨ad532, A532_0, c532_0, e532, hx532_0, hl532_0, hi532_0⟩ := at_L3 HR0.out x13_1 p532 q532
         cases e532; have HR532_0 := Aside0.mk hi532_0; have HC532_0 := Aside0.mk hl532_0; clear hi532_0 hl532_0; replace p532 := eq_true p532; replace q532 := eq_true q532
         have p533 : 0 ≤ (x13_1 : Int) := of_decide_eq_true zU2_3
         have q533 : x13_1 < (l1.length : Int) := of_decide_eq_true zU2_3
         obtain ⟨ad533, A533_0, c533_0, e533, hx533_0, hl533_0, hi533_0⟩ := at_L3 HR1.out x13_1 p533 q533
         cases e533; have HR533_0 := Aside0.mk hi533_0; have HC533_0 := Aside0.mk hl533_0; clear hi533_0 hl533_0; replace p533 := eq_true p533; replace q533 := eq_true q533
         go_wp2_with (first | (go_at_call 14; (with_reducible refine (laws_ySame.calls k1 _ _ (rd_L3 l0 x13_1) _ _ (rd_L3 l1 x13_1) false _ ?side1 ?side2 ?side3 ?side4 A8.out).mono ?_); (case side1 => repeat (first | exact HR532_0.out | (with_reducible refine Kd.C_alloc ?_ _) | (with_reducible refine Kd.C_drewN ?_ _) | (with_reducible refine Kd.C_drew ?_))); (case side2 => exact HC532_0.out); (case side3 => repeat (first | exact HR533_0.out | (with_reducible refine Kd.C_alloc ?_ _) | (with_reducible refine Kd.C_drewN ?_ _) | (with_reducible refine Kd.C_drew ?_))); (case side4 => exact HC533_0.out); rintro e w' ⟨rfl, ⟨nd, rfl⟩⟩; (try first | exact ⟨rfl, _, World.drewN_drewN _ _ _⟩ | exact ⟨rfl, _, Eq.trans (World.drewN_drewN _ _ _) (congrArg (World.drewN _) (Nat.add_assoc _ _ _))⟩)))
         repeat (go_quiet (first | (go_at_call 14; (with_reducible refine (laws_ySame.calls k1 _ _ (rd_L3 l0 x13_1) _ _ (rd_L3 l1 x13_1) false _ ?side1 ?side2 ?side3 ?side4 A8.out).mono ?_); (case side1 => repeat (first | exact HR532_0.out | (with_reducible refine Kd.C_alloc ?_ _) | (with_reducible refine Kd.C_drewN ?_ _) | (with_reducible refine Kd.C_drew ?_))); (case side2 => exact HC532_0.out); (case side3 => repeat (first | exact HR533_0.out | (with_reducible refine Kd.C_alloc ?_ _) | (with_reducible refine Kd.C_drewN ?_ _) | (with_reducible refine Kd.C_drew ?_))); (case side4 => exact HC533_0.out); rintro e w' ⟨rfl, ⟨nd, rfl⟩⟩; (try first | exact ⟨rfl, _, World.drewN_drewN _ _ _⟩ | exact ⟨rfl, _, Eq.trans (World.drewN_drewN _ _ _) (congrArg (World.drewN _) (Nat.add_assoc _ _ _))⟩))); try go_wp2_with (first | (go_at_call 14; (with_reducible refine (laws_ySame.calls k1 _ _ (rd_L3 l0 x13_1) _ _ (rd_L3 l1 x13_1) false _ ?side1 ?side2 ?side3 ?side4 A8.out).mono ?_); (case side1 => repeat (first | exact HR532_0.out | (with_reducible refine Kd.C_alloc ?_ _) | (with_reducible refine Kd.C_drewN ?_ _) | (with_reducible refine Kd.C_drew ?_))); (case side2 => exact HC532_0.out); (case side3 => repeat (first | exact HR533_0.out | (with_reducible refine Kd.C_alloc ?_ _) | (with_reducible refine Kd.C_drewN ?_ _) | (with_reducible refine Kd.C_drew ?_))); (case side4 => exact HC533_0.out); rintro e w' ⟨rfl, ⟨nd, rfl⟩⟩; (try first | exact ⟨rfl, _, World.drewN_drewN _ _ _⟩ | exact ⟨rfl, _, Eq.trans (World.drewN_drewN _ _ _) (congrArg (World.drewN _) (Nat.add_assoc _ _ _))⟩))))
         go_ret
         exact ⟨by first | rfl | (simp; done) | (simp [*]; done), by repeat (first | exact Drawn0.refl _ | apply Drawn0.step)⟩
       ·rw [if_neg c7] at H
        exact absurd H zU2_5
      ·rw [if_neg c6] at H
       exact absurd H zU2_5
     ·rw [if_neg c5] at H
      exact absurd H zU2_5
    ·rw [if_neg c4] at H
     have c4b0 := decide_eq_false c4; clear c4
     obtain rfl := Option.some.inj H
     go_wp2
     repeat (go_quiet (fail); try go_wp2)
     go_ret
     exact ⟨by first | rfl | (simp; done) | (simp [*]; done), by repeat (first | exact Drawn0.refl _ | apply Drawn0.step)⟩
 ·rw [if_neg c3] at H
  have c3b0 := beq_eq_false_iff_ne.mpr c3; have c3b1 := bne_iff_ne.mpr c3
  have c3b2 : (l0.length == l1.length) = false := by first | simpa using c3 | (simp at c3 ⊢; omega)
  obtain rfl := Option.some.inj H
  go_enter Tryz.func33, Tryz.ntmps33
  go_wp2
  repeat (go_quiet (fail); try go_wp2)
  go_ret
  exact ⟨by first | rfl | (simp; done) | (simp [*]; done), by repeat (first | exact Drawn0.refl _ | apply Drawn0.step)⟩


theorem eqA39 (d : Nat) (w : World) (x0 y0 : Int) (x1 y1 : Int) :
 (Op.equalIn (d + 2) 39 (.agg #[.int .i64 x0, .int .i64 x1]) (.agg #[.int .i64 y0, .int .i64 y1])).run Tryz.prog w = .ok (x0 == y0 && (x1 == y1)) w := by
 refine eqA_of Tryz.underlying39 (by kernel_rfl) ?_
 refine eqf_cons (by rfl) (by go_simp; rfl) (by go_simp; rfl) (by go_simp) ?_
 exact eqf_last (by rfl) (by go_simp; rfl) (by go_simp; rfl) (by go_simp)

attribute [local go_sem high] eqA39
/-! ### laws_yPoles: function 34 -/
def laws_yPoles.l0 : Nat → List (S39) → List (S39) → Int → Int → Option (Bool)
 | 0, _, _, _, _ => none
 | k + 1, x0, x1, x12, x13 => if x13 < x12 then (if 0 ≤ x13 then (if x13 < (x0.length : Int) then (if x13 < (x1.length : Int) then (if (!(((rd_T39 x0 x13).f0) == ((rd_T39 x1 x13).f0)) || (!(((rd_T39 x0 x13).f1) == ((rd_T39 x1 x13).f1)))) = true then (some false) else (laws_yPoles.l0 k x0 x1 x12 (wrap64 (x13 + 1)))) else (none)) else (none)) else (none)) else (some true)
def laws_yPoles.f (k : Nat) (l0 : List (S39)) (l1 : List (S39)) : Option (Bool) := if (l0.length : Int) = (l1.length : Int) then (laws_yPoles.l0 k l0 l1 (l0.length : Int) 0) else (some false)
theorem laws_yPoles.calls (k : Nat) (A0 : Option Addr) (c0 : Nat) (l0 : List (S39)) (A1 : Option Addr) (c1 : Nat) (l1 : List (S39)) (r : Bool) (w : World) (hr0 : Kd.C k39 w A0 l0.length l0) (hc0 : l0.length ≤ c0) (hr1 : Kd.C k39 w A1 l1.length l1) (hc1 : l1.length ≤ c1) (h : laws_yPoles.f k l0 l1 = some r) :
 Calls Tryz.prog 34 #[.slice A0 l0.length c0, .slice A1 l1.length c1] w fun e w' => e = .returned (.bool r) ∧ Drawn0 w w' := by
 have hu39 := Tryz.underlying39; have HR0 := Aside0.mk hr0; have HC0 := Aside0.mk hc0; clear hr0 hc0; have HR1 := Aside0.mk hr1; have HC1 := Aside0.mk hc1; clear hr1 hc1; have H := h; rw [laws_yPoles.f] at H; clear h
 by_cases c3 : (l0.length : Int) = (l1.length : Int)
 ·rw [if_pos c3] at H
  have c3b0 := beq_iff_eq.mpr c3; have c3b1 := bne_eq_false_iff_eq.mpr c3
  have c3b2 : (l0.length == l1.length) = true := by first | simpa using c3 | (simp at c3 ⊢; omega)
  clear c3; have H' := Aside0.mk H; clear H
  go_enter Tryz.func34, Tryz.ntmps34
  go_wp2
  repeat (go_quiet (fail); try go_wp2)
  go_loopg [13] k (fun kq v13 w' => ∃ (x13_1 : Int), v13 = .int .i64 x13_1 ∧ Aside0 (laws_yPoles.l0 kq l0 l1 (l0.length : Int) x13_1 = some r) ∧ Aside0 (kq ≤ k) ∧ Drawn0 w w')
  case atStart => exact ⟨(0), zu, H', ⟨Nat.le_refl _⟩, by repeat (first | exact Drawn0.refl _ | apply Drawn0.step)⟩
  case round =>
   clear H'
   obtain ⟨x13_1, rfl, HA, HK1, ⟨m1, rfl⟩⟩ := hrel
   cases gk with
   | zero => exact absurd HA.out (by simp [laws_yPoles.l0])
   | succ k1 =>
    have H := HA.out; clear HA; simp only [laws_yPoles.l0] at H
    by_cases c4 : x13_1 < (l0.length : Int)
    ·rw [if_pos c4] at H
     have c4b0 := decide_eq_true c4; clear c4
     by_cases c5 : 0 ≤ x13_1
     ·rw [if_pos c5] at H
      have c5b0 := decide_eq_true c5; clear c5
      by_cases c6 : x13_1 < (l0.length : Int)
      ·rw [if_pos c6] at H
       have c6b0 := decide_eq_true c6; clear c6
       by_cases c7 : x13_1 < (l1.length : Int)
       ·rw [if_pos c7] at H
        have c7b0 := decide_eq_true c7; clear c7
        by_cases c8 : (!(((rd_T39 l0 x13_1).f0) == ((rd_T39 l1 x13_1).f0)) || (!(((rd_T39 l0 x13_1).f1) == ((rd_T39 l1 x13_1).f1)))) = true
        ·rw [if_pos c8] at H
         have c8b0 : (!(((rd_T39 l0 x13_1).f0) == ((rd_T39 l1 x13_1).f0)) || (!(((rd_T39 l0 x13_1).f1) == ((rd_T39 l1 x13_1).f1)))) = true := c8
         clear c8
         obtain rfl := Option.some.inj H
         have p535 : 0 ≤ (x13_1 : Int) := of_decide_eq_true zU2_3
         have q535 : x13_1 < (l0.length : Int) := of_decide_eq_true zU2_3
         obtain ⟨ad535, e535, hx535_0, hx535_1⟩ := at_T39 HR0.out x13_1 p535 q535
         cases e535; replace p535 := eq_true p535; replace q535 := eq_true q535
         have p536 : 0 ≤ (x13_1 : Int) := of_decide_eq_true zU2_3
         have q536 : x13_1 < (l1.length : Int) := of_decide_eq_true zU2_3
         obtain ⟨ad536, e536, hx536_0, hx536_1⟩ := at_T39 HR1.out x13_1 p536 q536
         cases e536; replace p536 := eq_true p536; replace q536 := eq_true q536
         go_wp2
         repeat (go_quiet (fail); try go_wp2)
         go_ret
         exact ⟨by first | rfl | (simp; done) | (simp [*]; done), by repeat (first | exact Drawn0.refl _ | apply Drawn0.step)⟩
        ·rw [if_neg c8] at H
         have c8b0 : (!(((rd_T39 l0 x13_1).f0) == ((rd_T39 l1 x13_1).f0)) || (!(((rd_T39 l0 x13_1).f1) == ((rd_T39 l1 x13_1).f1)))) = false := by simpa using c8
         clear c8; have H' := Aside0.mk H; clear H
         have p535 : 0 ≤ (x13_1 : Int) := of_decide_eq_true zU2_3
         have q535 : x13_1 < (l0.length : Int) := of_decide_eq_true zU2_3
         obtain ⟨ad535, e535, hx535_0, hx535_1⟩ := at_T39 HR0.out x13_1 p535 q535
         cases e535; replace p535 := eq_true p535; replace q535 := eq_true q535
         have p536 : 0 ≤ (x13_1 : Int) := of_decide_eq_true zU2_3
         have q536 : x13_1 < (l1.length : Int) := of_decide_eq_true zU2_3
         obtain ⟨ad536, e536, hx536_0, hx536_1⟩ := at_T39 HR1.out x13_1 p536 q536
         cases e536; replace p536 := eq_true p536; replace q536 := eq_true q536
         go_wp2
         repeat (go_quiet (fail); try go_wp2)
         go_roundg k1
         case measure => have := HK1.out; omega
         case rel => exact ⟨(wrap64 (x13_1 + 1)), zu, H', ⟨by have := HK1.out; omega⟩, by repeat (first | exact Drawn0.refl _ | apply Drawn0.step)⟩
       ·rw [if_neg c7] at H
        exact absurd H zU2_5
      ·rw [if_neg c6] at H
       exact absurd H zU2_5
     ·rw [if_neg c5] at H
      exact absurd H zU2_5
    ·rw [if_neg c4] at H
     have c4b0 := decide_eq_false c4; clear c4
     obtain rfl := Option.some.inj H
     go_wp2
     repeat (go_quiet (fail); try go_wp2)
     go_ret
     exact ⟨by first | rfl | (simp; done) | (simp [*]; done), by repeat (first | exact Drawn0.refl _ | apply Drawn0.step)⟩
 ·rw [if_neg c3] at H
  have c3b0 := beq_eq_false_iff_ne.mpr c3; have c3b1 := bne_iff_ne.mpr c3
  have c3b2 : (l0.length == l1.length) = false := by first | simpa using c3 | (simp at c3 ⊢; omega)
  obtain rfl := Option.some.inj H
  go_enter Tryz.func34, Tryz.ntmps34
  go_wp2
  repeat (go_quiet (fail); try go_wp2)
  go_ret
  exact ⟨by first | rfl | (simp; done) | (simp [*]; done), by repeat (first | exact Drawn0.refl _ | apply Drawn0.step)⟩

end Go.Proofs.YtknjpbkkbnmfaaaGreatDoor.P
